/-
  Proved: for every input the law FnExactIsClosedSet answers true, and each argument reads afterwards as it read before. Conditions: none beyond the row's own cells (Rows.FnExactIsClosedSetSaid as given).
  Own work (the frame after the guide's template). The texts Fa.. hold a program logic over any program, Co the annotated codes of this program's functions, La what the laws' helpers do, Se what the functions on both sides answer.
-/
import Derived.Test.YteoogncgfnpoeaaRows
import Derived.Test.YteoogncgfnpoeaaSe
import Derived.Test.YteoogncgfnpoeaaLa
import Derived.ProofKit
namespace Go.Proofs.Yteoogncgfnpoeaa
open Go.ChangeShapes Go.WideShapes Go.ChangeAt Go.RowKit Go.Fd

theorem Try.own : ownKnob Try.prog.godebug = none := by kernel_rfl
theorem Try.laidOut : laidOutB Try.prog = true := by kernel_rfl

set_option maxRecDepth 100000 in
theorem isClosedSet_lifted (os : Os) (started : os.Started) (H : Type) (enc : TypeId × Value → H) :
    ReturnsInHanded {} Try.checked os 4 .any (Rows.fnExactIsClosedSetSpec.pre6 enc Try.prog Try.f4 Rows.fnExactIsClosedSetRow.domain false) (Rows.fnExactIsClosedSetSpec.post enc Try.prog Try.f4 false true false false) := by
  refine returnsInHanded_of_change (C := Try.checked) Try.own started (by kernel_rfl) Try.func4
    (ChangeSpec.witness6 (enc := enc) (C := Try.checked) false ⟨#[], #[.agg #[.slice none 0 0, .slice none 0 0], .slice none 0 0], []⟩ 8 (by kernel_rfl) (by kernel_rfl) (by kernel_rfl) (by kernel_rfl)) ?_
  intro W base args ds gs before hval0 hW hcnd _
  have hval : ∀ (j : Nat) t v, Try.f4.params[j]? = some t → args[j]? = some v → Value.okWide Try.prog W .any base t v := hval0
  have hW' := hW
  obtain ⟨p, q, hA0, hV, rfl, hfz, hnd⟩ := hW
  have hA : DataW.TrodAll enc Try.prog W 0 (fun _ => true) true Try.f4.params.toList args.toList ds p := hA0
  rw [Try.params4] at hA hval
  obtain ⟨v0, v1, d0, d1, p0, p1, rfl, rfl, rfl, h0, h1⟩ := trodAll_two hA
  obtain ⟨rfl, rfl⟩ := trodVars_none hV
  obtain ⟨x, ⟨hx, _⟩, r0⟩ := VR_struct (k := 2) rd_37 Try.underlying37 (by kernel_rfl) (fun _ => rfl) (hval 0 37 v0 rfl rfl) h0
  obtain ⟨a, ⟨ha, _⟩, r1⟩ := VR_slice rd_38 Try.underlying38 (hval 1 38 v1 rfl rfl) h1
  simp only [List.append_nil] at hW'
  have hlt : ∀ x ∈ p0 ++ p1, x.block < W.heap.size := fun x hx => by simpa using hW'.lt x hx
  have hc := calls_of_sem (vs := [v0, v1]) (w := W) (sem_FnExactIsClosedSet x a hx ha 0 S0) (by
    simp only [VRs]
    exact ⟨v0, [v1], rfl, r0, v1, [], rfl, r1, rfl⟩)
  refine hc.mono fun e W' ⟨he, hb⟩ => ?_
  subst he
  refine ⟨_, rfl, post_of_below (pa := p0 ++ p1) (pv := []) hW' hb ?_ ?_ ?_⟩
  · exact trodAll_mk1 (shut_bool Try.underlying4 true)
  · exact trodAll_mk2 (Below.trod Try.laidOut (by kernel_rfl) (of_decide_eq_true (by kernel_rfl)) h0 hb (fun x hx => hlt x (by simp [hx])))
      (Below.trod Try.laidOut (by kernel_rfl) (of_decide_eq_true (by kernel_rfl)) h1 hb (fun x hx => hlt x (by simp [hx])))
  · rfl

theorem isClosedSet_holds : Rows.FnExactIsClosedSetSaid :=
  OpenClaim.holds_of_wide 4 Try.f4 rfl rfl rfl rfl rfl rfl rfl ⟨rfl, rfl, rfl, rfl, rfl⟩ rfl rfl rfl rfl rfl (by kernel_rfl) Try.func4 (by kernel_rfl)
    (of_decide_eq_true (by kernel_rfl)) (by unfold Func.isWrapper; first | (rw [if_pos (by decide +kernel)]; kernel_rfl) | (rw [if_neg (by decide +kernel)]; exact ⟨rfl, rfl⟩))
    (fun os started H enc _ => isClosedSet_lifted os started H enc)
end Go.Proofs.Yteoogncgfnpoeaa
