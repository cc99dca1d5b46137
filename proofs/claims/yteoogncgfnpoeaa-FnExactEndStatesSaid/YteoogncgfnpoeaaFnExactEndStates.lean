/-
  Proved: for every input the law FnExactEndStates answers true, and each argument reads afterwards as it read before. Conditions: none beyond the row's own cells (Rows.FnExactEndStatesSaid as given).
  Own work (the frame after the guide's template). The texts Fa.. hold a program logic over any program, Co the annotated codes of this program's functions, La what the laws' helpers do, Se what the functions on both sides answer.
-/
import Derived.Test.YteoogncgfnpoeaaT06
import Derived.Test.YteoogncgfnpoeaaRows
import Derived.ProofKit
namespace Go.Proofs.Yteoogncgfnpoeaa
open Go.ChangeShapes Go.WideShapes Go.ChangeAt Go.RowKit Go.Fd

theorem Try.own : ownKnob Try.prog.godebug = none := by kernel_rfl
theorem Try.laidOut : laidOutB Try.prog = true := by kernel_rfl

set_option maxRecDepth 100000 in
theorem endStates_lifted (os : Os) (started : os.Started) (H : Type) (enc : TypeId × Value → H) :
    ReturnsInHanded {} Try.checked os 5 .any (Rows.fnExactEndStatesSpec.pre6 enc Try.prog Try.f5 Rows.fnExactEndStatesRow.domain false) (Rows.fnExactEndStatesSpec.post enc Try.prog Try.f5 false true false false) := by
  refine returnsInHanded_of_change (C := Try.checked) Try.own started (by kernel_rfl) Try.func5
    (ChangeSpec.witness6 (enc := enc) (C := Try.checked) false ⟨#[], #[.agg #[(.slice none 0 0), (.slice none 0 0)]], []⟩ 8 (by kernel_rfl) (by kernel_rfl) (by kernel_rfl) (by kernel_rfl)) ?_
  intro W base args ds gs before hval0 hW hcnd _
  have hval : ∀ (j : Nat) t v, Try.f5.params[j]? = some t → args[j]? = some v → Value.okWide Try.prog W .any base t v := hval0
  have hW' := hW
  obtain ⟨p, q, hA0, hV, rfl, hfz, hnd⟩ := hW
  have hA : DataW.TrodAll enc Try.prog W 0 (fun _ => true) true Try.f5.params.toList args.toList ds p := hA0
  rw [Try.params5] at hA hval
  obtain ⟨v0, d0, rfl, rfl, h0⟩ := trodAll_one hA
  obtain ⟨rfl, rfl⟩ := trodVars_none hV
  obtain ⟨x0, ⟨hb0_0, _⟩, r0⟩ := VR_struct (k := 2) rd_37 Try.underlying37 (by kernel_rfl) (fun _ => rfl) (hval 0 37 v0 rfl rfl) h0
  simp only [List.append_nil] at hW'
  have hlt : ∀ x ∈ p, x.block < W.heap.size := fun x hx => by simpa using hW'.lt x hx
  have hc := calls_of_sem (vs := [v0]) (w := W) (sem_FnExactEndStates x0 hb0_0 0 S0) (by
    simp only [VRs]
    exact ⟨v0, [], rfl, r0, rfl⟩)
  refine hc.mono fun e W' ⟨he, hb⟩ => ?_
  subst he
  refine ⟨_, rfl, post_of_below (pa := p) (pv := []) hW' hb ?_ ?_ ?_⟩
  · exact trodAll_mk1 (shut_bool Try.underlying4 true)
  · exact trodAll_mk1 (Below.trod Try.laidOut (by kernel_rfl) (of_decide_eq_true (by kernel_rfl)) h0 hb hlt)
  · rfl

theorem endStates_holds : Rows.FnExactEndStatesSaid :=
  OpenClaim.holds_of_wide 5 Try.f5 rfl rfl rfl rfl rfl rfl rfl ⟨rfl, rfl, rfl, rfl, rfl⟩ rfl rfl rfl rfl rfl (by kernel_rfl) Try.func5 (by kernel_rfl)
    (of_decide_eq_true (by kernel_rfl)) (by unfold Func.isWrapper; first | (rw [if_pos (by decide +kernel)]; kernel_rfl) | (rw [if_neg (by decide +kernel)]; exact ⟨rfl, rfl⟩))
    (fun os started H enc _ => endStates_lifted os started H enc)
end Go.Proofs.Yteoogncgfnpoeaa
