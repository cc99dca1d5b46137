/-
  NAMES AND SIGNATURES, BOTH SIDES. Own work.
-/
import Derived.Test.YtopapbodofgmiaaGreatDoorT05
import Derived.Sort.Row
import Derived.Sort.Grow
import Derived.Shelf.Sort.Plain
set_option linter.all false
namespace Go.Fd
set_option maxRecDepth 20000

def callB (P : Program) (f : FuncId) : Bool := match P.funcs[f]? with | some fn => fn.body.isSome && !(fn.name == "runtime.NumGoroutine") | none => false

theorem callB_ok {P : Program} {f : FuncId} (h : callB P f = true) : Callable P f := by
  unfold callB at h
  split at h
  · rename_i fn hf
    simp only [Bool.and_eq_true, Bool.not_eq_true'] at h
    exact ⟨fn, hf, h.1, h.2⟩
  · cases h

abbrev AZ : ByteArray := ⟨#[97, 98, 99, 100, 101, 102, 103, 104, 105, 106, 107, 108, 109, 110, 111, 112, 113, 114, 115, 116, 117, 118, 119, 120, 121, 122]⟩

theorem sem_Trim (s : ByteArray) (hs : s.size ≤ 9223372036854775807) (lvl : Nat) (S : Sto) : Sem Go.Proofs.Tryz.prog fid_strings_Trim lvl [iS s, iS AZ] S (iS ⟨(Lib.trimS s.data.toList AZ.data.toList).toArray⟩) S :=
  sem_of_scal (xs := [.string s, .string AZ]) (callB_ok (by kernel_rfl)) rfl (fun w => Go.Proofs.Any.strings_Trim_laid Go.Proofs.Tryz.lays160 (by kernel_rfl) s AZ w hs (by decide) (Go.Proofs.ascii_of_all (by decide)))

def isNm (s : ByteArray) : Prop := (∀ b ∈ s.data.toList, 97 ≤ b.toNat ∧ b.toNat ≤ 122) ∧ 1 ≤ s.size ∧ s.size ≤ 4

theorem size_list (s : ByteArray) : s.size = s.data.toList.length := by rw [Array.length_toList]; rfl

theorem az_mem (b : UInt8) : b ∈ AZ.data.toList ↔ 97 ≤ b.toNat ∧ b.toNat ≤ 122 := by
  have : ∀ n : Fin 256, (UInt8.ofNat n.val) ∈ AZ.data.toList ↔ 97 ≤ n.val ∧ n.val ≤ 122 := by decide +kernel
  have h : UInt8.ofNat b.toNat ∈ AZ.data.toList ↔ 97 ≤ b.toNat ∧ b.toNat ≤ 122 := this ⟨b.toNat, b.toNat_lt⟩
  rw [show UInt8.ofNat b.toNat = b from UInt8.ofNat_toNat] at h
  exact h

theorem dw_nil {p : UInt8 → Bool} : ∀ {l : List UInt8}, l.dropWhile p = [] ↔ ∀ b ∈ l, p b = true
  | [] => by simp
  | x :: r => by
    simp only [List.dropWhile_cons, List.mem_cons, forall_eq_or_imp]
    cases h : p x with
    | true => simp [dw_nil (l := r)]
    | false => simp

theorem tw_mem {p : UInt8 → Bool} {b : UInt8} : ∀ {l : List UInt8}, b ∈ l.takeWhile p → p b = true
  | [], h => by simp at h
  | x :: r, h => by
    rw [List.takeWhile_cons] at h
    split at h
    · rename_i hx
      rcases List.mem_cons.1 h with rfl | h
      · exact hx
      · exact tw_mem h
    · cases h

theorem drop_nil {l cs : List UInt8} (h : ∀ b ∈ l, b ∈ cs) : l.dropWhile (cs.contains ·) = [] := by
  rw [dw_nil]
  intro b hb
  simpa using h b hb

theorem trimS_nil {l cs : List UInt8} : Lib.trimS l cs = [] ↔ ∀ b ∈ l, b ∈ cs := by
  unfold Lib.trimS Lib.trimLeftS Lib.trimRightS
  constructor
  · intro h b hb
    rw [dw_nil] at h
    have hrev : ∀ x ∈ (l.reverse.dropWhile (cs.contains ·)), x ∈ cs := fun x hx => by
      have := h x (by simpa using hx)
      simpa using this
    have hsplit : l.reverse = l.reverse.takeWhile (cs.contains ·) ++ l.reverse.dropWhile (cs.contains ·) := (List.takeWhile_append_dropWhile).symm
    have hb2 : b ∈ l.reverse := by simpa using hb
    rw [hsplit] at hb2
    rcases List.mem_append.1 hb2 with h1 | h1
    · have := tw_mem h1
      simpa using this
    · exact hrev b h1
  · intro h
    rw [drop_nil (l := l.reverse) (fun b hb => h b (by simpa using hb))]
    rfl

theorem sem_l2Name (s : ByteArray) (hs : s.size ≤ 9223372036854775807) (lvl : Nat) (S : Sto) : Sem Go.Proofs.Tryz.prog fid_spec_l2Name lvl [iS s] S (iB (dc (isNm s))) S := by
  refine sem_of_chk k_spec_l2Name trivial ?_
  simp only [c_spec_l2Name, EVA, ↓reduceIte, Nat.reduceEqDiff, Nat.reduceMul, reduceCtorEq, Nat.reduceAdd, Nat.reduceSub, Nat.reduceLeDiff, Nat.reduceLT, Int.reduceToNat, Int.reduceLE, Int.reduceLT, mens, men]
  refine wp_cnt (α := Unit) s.size (fun j _ => [(3, iI j)]) (fun _ _ => []) (fun j _ => ∀ b ∈ s.data.toList.take j, 97 ≤ b.toNat ∧ b.toNat ≤ 122) () (by simp only [EVA, ↓reduceIte, Nat.reduceEqDiff, Nat.reduceMul, reduceCtorEq, Nat.reduceAdd, Nat.reduceSub, Nat.reduceLeDiff, Nat.reduceLT, Int.reduceToNat, Int.reduceLE, Int.reduceLT, mens, men]) (by (simp only [EVA, ↓reduceIte, Nat.reduceEqDiff, Nat.reduceMul, reduceCtorEq, Nat.reduceAdd, Nat.reduceSub, Nat.reduceLeDiff, Nat.reduceLT, Int.reduceToNat, Int.reduceLE, Int.reduceLT, mens, men]) <;> rfl) (fun b hb => by simp at hb) ?_
  intro j _ hj hA
  simp only [EVA, ↓reduceIte, Nat.reduceEqDiff, Nat.reduceMul, reduceCtorEq, Nat.reduceAdd, Nat.reduceSub, Nat.reduceLeDiff, Nat.reduceLT, Int.reduceToNat, Int.reduceLE, Int.reduceLT, mens, men]
  refine ite_of (fun hlt => ?_) (fun hge => ?_)
  · have hja : j < s.data.toList.length := by rw [← size_list]; omega
    have ga : s.data.toList[j]? = some (s.data.toList[j]) := List.getElem?_eq_getElem hja
    have hno : ¬ (97 ≤ (s.data.toList[j]).toNat ∧ (s.data.toList[j]).toNat ≤ 122) → ¬ isNm s := fun h hn => h (hn.1 _ (List.getElem_mem hja))
    by_cases h1 : ((s.data.toList[j]).toNat : Int) < 97
    · simp only [ga, h1, EVA, ↓reduceIte, Nat.reduceEqDiff, Nat.reduceMul, reduceCtorEq, Nat.reduceAdd, Nat.reduceSub, Nat.reduceLeDiff, Nat.reduceLT, Int.reduceToNat, Int.reduceLE, Int.reduceLT, mens, men]
      rw [dc_false (hno (by omega))]
    by_cases h2 : (122 : Int) < (s.data.toList[j]).toNat
    · simp only [ga, h1, h2, EVA, ↓reduceIte, Nat.reduceEqDiff, Nat.reduceMul, reduceCtorEq, Nat.reduceAdd, Nat.reduceSub, Nat.reduceLeDiff, Nat.reduceLT, Int.reduceToNat, Int.reduceLE, Int.reduceLT, mens, men]
      rw [dc_false (hno (by omega))]
    · simp only [ga, h1, h2, EVA, ↓reduceIte, Nat.reduceEqDiff, Nat.reduceMul, reduceCtorEq, Nat.reduceAdd, Nat.reduceSub, Nat.reduceLeDiff, Nat.reduceLT, Int.reduceToNat, Int.reduceLE, Int.reduceLT, mens, men]
      refine ⟨by rw [fits_i64]; omega, cntJ_intro () (by omega) rfl ?_⟩
      intro b hb
      rw [List.take_succ_eq_append_getElem hja] at hb
      rcases List.mem_append.1 hb with h | h
      · exact hA b h
      · have : b = s.data.toList[j] := by simpa using h
        subst this
        omega
  · have : j = s.size := by omega
    subst this
    rw [size_list, List.take_length] at hA
    refine kca_intro (sem_l1In s.size 1 4) ?_
    simp only [EVA, ↓reduceIte, Nat.reduceEqDiff, Nat.reduceMul, reduceCtorEq, Nat.reduceAdd, Nat.reduceSub, Nat.reduceLeDiff, Nat.reduceLT, Int.reduceToNat, Int.reduceLE, Int.reduceLT, mens, men]
    rw [dc_congr (q := 1 ≤ s.size ∧ s.size ≤ 4) ⟨fun h => h.2, fun h => ⟨hA, h⟩⟩]
    by_cases h : 1 ≤ s.size ∧ s.size ≤ 4
    · rw [dc_true h, inB_iff.2 (by omega)]
    · rw [dc_false h, inB_not.2 (by omega)]

theorem sem_isName (s : ByteArray) (hs : s.size ≤ 9223372036854775807) (lvl : Nat) (S : Sto) : Sem Go.Proofs.Tryz.prog fid_impl_isName lvl [iS s] S (iB (dc (isNm s))) S := by
  refine sem_of_chk k_impl_isName trivial ?_
  simp only [c_impl_isName, EVA, ↓reduceIte, Nat.reduceEqDiff, Nat.reduceMul, reduceCtorEq, Nat.reduceAdd, Nat.reduceSub, Nat.reduceLeDiff, Nat.reduceLT, Int.reduceToNat, Int.reduceLE, Int.reduceLT, mens, men]
  refine kca_intro (sem_within s.size 1 4) ?_
  simp only [EVA, ↓reduceIte, Nat.reduceEqDiff, Nat.reduceMul, reduceCtorEq, Nat.reduceAdd, Nat.reduceSub, Nat.reduceLeDiff, Nat.reduceLT, Int.reduceToNat, Int.reduceLE, Int.reduceLT, mens, men]
  cases hin : inB (s.size : Int) 1 4 with
  | false =>
    have : ¬ isNm s := fun h => (inB_not.1 hin) (by have := h.2; omega)
    rw [dc_false this]
    simp only [EVA, ↓reduceIte, Nat.reduceEqDiff, Nat.reduceMul, reduceCtorEq, Nat.reduceAdd, Nat.reduceSub, Nat.reduceLeDiff, Nat.reduceLT, Int.reduceToNat, Int.reduceLE, Int.reduceLT, mens, men]
  | true =>
    have hin' := inB_iff.1 hin
    simp only [EVA, ↓reduceIte, Nat.reduceEqDiff, Nat.reduceMul, reduceCtorEq, Nat.reduceAdd, Nat.reduceSub, Nat.reduceLeDiff, Nat.reduceLT, Int.reduceToNat, Int.reduceLE, Int.reduceLT, mens, men]
    refine kca_intro (sem_Trim s hs) ?_
    simp only [EVA, ↓reduceIte, Nat.reduceEqDiff, Nat.reduceMul, reduceCtorEq, Nat.reduceAdd, Nat.reduceSub, Nat.reduceLeDiff, Nat.reduceLT, Int.reduceToNat, Int.reduceLE, Int.reduceLT, mens, men]
    by_cases h : isNm s
    · have : Lib.trimS s.data.toList AZ.data.toList = [] := trimS_nil.2 (fun b hb => (az_mem b).2 (h.1 b hb))
      rw [dc_true h, this]
      rfl
    · have : ¬ Lib.trimS s.data.toList AZ.data.toList = [] := fun e => h ⟨fun b hb => (az_mem b).1 (trimS_nil.1 e b hb), by omega, by omega⟩
      rw [dc_false h]
      have h2 : ¬ (⟨(Lib.trimS s.data.toList AZ.data.toList).toArray⟩ : ByteArray) = ⟨#[]⟩ := fun e => this (by
        have := congrArg (fun b : ByteArray => b.data.toList) e
        simpa using this)
      simp [h2]

def ctlOK (c : TControl) : Prop := isNm c.name ∧ (0 ≤ c.ports ∧ c.ports ≤ 3) ∧ 0 ≤ c.kind_ ∧ c.kind_ ≤ 2

def sigAt (sig : List TControl) (i : Nat) : Prop := ∀ h : i < sig.length, ctlOK sig[i] ∧ ∀ k (hk : k < i), (sig[k]'(by omega)).name ≠ sig[i].name

def sigOK (sig : List TControl) : Prop := (∀ i, sigAt sig i) ∧ 1 ≤ sig.length ∧ sig.length ≤ 6

theorem sem_IsSignature_1 (c d : TControl) (lvl : Nat) (S : Sto) : Sem Go.Proofs.Tryz.prog fid_impl_IsSignature_1 lvl [.ag ((cControl d).map .tr), .ta (cControl c)] S (iB (decide (d.name = c.name))) S := by
  refine sem_of_chk k_impl_IsSignature_1 trivial ?_
  simp only [c_impl_IsSignature_1, cControl, EVA, ↓reduceIte, Nat.reduceEqDiff, Nat.reduceMul, reduceCtorEq, Nat.reduceAdd, Nat.reduceSub, Nat.reduceLeDiff, Nat.reduceLT, Int.reduceToNat, Int.reduceLE, Int.reduceLT, mens, men]

theorem g_ixFControl : chkF Go.Proofs.Tryz.prog fid_slices_IndexFunc_impl_Control_impl_Control (gIxF 3 (some 3)) = true := by kernel_rfl

theorem g_coFControl : chkF Go.Proofs.Tryz.prog fid_slices_ContainsFunc_impl_Control_impl_Control (gCoF fid_slices_IndexFunc_impl_Control_impl_Control) = true := by kernel_rfl

theorem sem_l2Sig (sig : List TControl) (hl : sig.length ≤ 9223372036854775807) (hb : ∀ y ∈ sig, bdControl 9223372036854775807 y) (lvl : Nat) (S : Sto) : Sem Go.Proofs.Tryz.prog fid_spec_l2Sig lvl [.tr (.sl (sig.map cControl))] S (iB (dc (sigOK sig))) S := by
  refine sem_of_chk k_spec_l2Sig trivial ?_
  simp only [c_spec_l2Sig, List.length_map, EVA, ↓reduceIte, Nat.reduceEqDiff, Nat.reduceMul, reduceCtorEq, Nat.reduceAdd, Nat.reduceSub, Nat.reduceLeDiff, Nat.reduceLT, Int.reduceToNat, Int.reduceLE, Int.reduceLT, mens, men]
  refine wp_cnt (α := Unit) sig.length (fun j _ => [(3, iI j)]) (fun _ _ => []) (fun j _ => ∀ i, i < j → sigAt sig i) () (by simp only [EVA, ↓reduceIte, Nat.reduceEqDiff, Nat.reduceMul, reduceCtorEq, Nat.reduceAdd, Nat.reduceSub, Nat.reduceLeDiff, Nat.reduceLT, Int.reduceToNat, Int.reduceLE, Int.reduceLT, mens, men]) (by (simp only [EVA, ↓reduceIte, Nat.reduceEqDiff, Nat.reduceMul, reduceCtorEq, Nat.reduceAdd, Nat.reduceSub, Nat.reduceLeDiff, Nat.reduceLT, Int.reduceToNat, Int.reduceLE, Int.reduceLT, mens, men]) <;> rfl) (fun i hi => by omega) ?_
  intro j _ hj hA
  simp only [List.length_map, EVA, ↓reduceIte, Nat.reduceEqDiff, Nat.reduceMul, reduceCtorEq, Nat.reduceAdd, Nat.reduceSub, Nat.reduceLeDiff, Nat.reduceLT, Int.reduceToNat, Int.reduceLE, Int.reduceLT, mens, men]
  refine ite_of (fun hlt => ?_) (fun hge => ?_)
  · have hja : j < sig.length := by omega
    have ga := getA (c := cControl) hja
    have hbj : sig[j].name.size ≤ 9223372036854775807 := hb _ (List.getElem_mem hja)
    have hno : ¬ ctlOK sig[j] → ¬ sigOK sig := fun h hs => h (hs.1 j hja).1
    simp only [ga, cControl, EVA, ↓reduceIte, Nat.reduceEqDiff, Nat.reduceMul, reduceCtorEq, Nat.reduceAdd, Nat.reduceSub, Nat.reduceLeDiff, Nat.reduceLT, Int.reduceToNat, Int.reduceLE, Int.reduceLT, mens, men]
    refine kca_intro (sem_l2Name sig[j].name hbj) ?_
    simp only [ga, cControl, EVA, ↓reduceIte, Nat.reduceEqDiff, Nat.reduceMul, reduceCtorEq, Nat.reduceAdd, Nat.reduceSub, Nat.reduceLeDiff, Nat.reduceLT, Int.reduceToNat, Int.reduceLE, Int.reduceLT, mens, men]
    cases hn : dc (isNm sig[j].name) with
    | false =>
      simp only [EVA, ↓reduceIte, Nat.reduceEqDiff, Nat.reduceMul, reduceCtorEq, Nat.reduceAdd, Nat.reduceSub, Nat.reduceLeDiff, Nat.reduceLT, Int.reduceToNat, Int.reduceLE, Int.reduceLT, mens, men]
      rw [dc_false (hno fun h => dc_not.1 hn h.1)]
    | true =>
      have hn' := dc_iff.1 hn
      simp only [ga, cControl, EVA, ↓reduceIte, Nat.reduceEqDiff, Nat.reduceMul, reduceCtorEq, Nat.reduceAdd, Nat.reduceSub, Nat.reduceLeDiff, Nat.reduceLT, Int.reduceToNat, Int.reduceLE, Int.reduceLT, mens, men]
      refine kca_intro (sem_l1In sig[j].ports 0 3) ?_
      simp only [ga, cControl, EVA, ↓reduceIte, Nat.reduceEqDiff, Nat.reduceMul, reduceCtorEq, Nat.reduceAdd, Nat.reduceSub, Nat.reduceLeDiff, Nat.reduceLT, Int.reduceToNat, Int.reduceLE, Int.reduceLT, mens, men]
      cases hp : inB sig[j].ports 0 3 with
      | false =>
        simp only [EVA, ↓reduceIte, Nat.reduceEqDiff, Nat.reduceMul, reduceCtorEq, Nat.reduceAdd, Nat.reduceSub, Nat.reduceLeDiff, Nat.reduceLT, Int.reduceToNat, Int.reduceLE, Int.reduceLT, mens, men]
        rw [dc_false (hno fun h => inB_not.1 hp h.2.1)]
      | true =>
        have hp' := inB_iff.1 hp
        simp only [ga, cControl, EVA, ↓reduceIte, Nat.reduceEqDiff, Nat.reduceMul, reduceCtorEq, Nat.reduceAdd, Nat.reduceSub, Nat.reduceLeDiff, Nat.reduceLT, Int.reduceToNat, Int.reduceLE, Int.reduceLT, mens, men]
        refine kca_intro (sem_l1In sig[j].kind_ 0 2) ?_
        simp only [ga, cControl, EVA, ↓reduceIte, Nat.reduceEqDiff, Nat.reduceMul, reduceCtorEq, Nat.reduceAdd, Nat.reduceSub, Nat.reduceLeDiff, Nat.reduceLT, Int.reduceToNat, Int.reduceLE, Int.reduceLT, mens, men]
        cases hk : inB sig[j].kind_ 0 2 with
        | false =>
          simp only [EVA, ↓reduceIte, Nat.reduceEqDiff, Nat.reduceMul, reduceCtorEq, Nat.reduceAdd, Nat.reduceSub, Nat.reduceLeDiff, Nat.reduceLT, Int.reduceToNat, Int.reduceLE, Int.reduceLT, mens, men]
          rw [dc_false (hno fun h => inB_not.1 hk h.2.2)]
        | true =>
          have hk' := inB_iff.1 hk
          simp only [EVA, ↓reduceIte, Nat.reduceEqDiff, Nat.reduceMul, reduceCtorEq, Nat.reduceAdd, Nat.reduceSub, Nat.reduceLeDiff, Nat.reduceLT, Int.reduceToNat, Int.reduceLE, Int.reduceLT, mens, men]
          refine wp_cnt (α := Unit) j (fun k _ => [(4, iI k)]) (fun _ _ => []) (fun k _ => ∀ i (hi : i < k), k ≤ j → ∀ hi2 : i < sig.length, (sig[i]'hi2).name ≠ sig[j].name) () (by simp only [EVA, ↓reduceIte, Nat.reduceEqDiff, Nat.reduceMul, reduceCtorEq, Nat.reduceAdd, Nat.reduceSub, Nat.reduceLeDiff, Nat.reduceLT, Int.reduceToNat, Int.reduceLE, Int.reduceLT, mens, men]) (by (simp only [EVA, ↓reduceIte, Nat.reduceEqDiff, Nat.reduceMul, reduceCtorEq, Nat.reduceAdd, Nat.reduceSub, Nat.reduceLeDiff, Nat.reduceLT, Int.reduceToNat, Int.reduceLE, Int.reduceLT, mens, men]) <;> rfl) (fun i hi => by omega) ?_
          intro k _ hkj hB
          simp only [List.length_map, EVA, ↓reduceIte, Nat.reduceEqDiff, Nat.reduceMul, reduceCtorEq, Nat.reduceAdd, Nat.reduceSub, Nat.reduceLeDiff, Nat.reduceLT, Int.reduceToNat, Int.reduceLE, Int.reduceLT, mens, men]
          refine ite_of (fun hlt2 => ?_) (fun hge2 => ?_)
          · have hka : k < sig.length := by omega
            have gb := getA (c := cControl) hka
            simp only [ga, gb, cControl, EVA, ↓reduceIte, Nat.reduceEqDiff, Nat.reduceMul, reduceCtorEq, Nat.reduceAdd, Nat.reduceSub, Nat.reduceLeDiff, Nat.reduceLT, Int.reduceToNat, Int.reduceLE, Int.reduceLT, mens, men]
            refine ite_of (fun he => ?_) (fun hne => ?_)
            · rw [dc_false (fun hs : sigOK sig => (hs.1 j hja).2 k (by omega) he)]
            · refine ⟨by rw [fits_i64]; omega, cntJ_intro () (by omega) rfl (fun i hi _ hi2 => ?_)⟩
              by_cases e : i = k
              · subst e; exact hne
              · exact hB i (by omega) (by omega) hi2
          · have : k = j := by omega
            subst this
            refine ⟨by rw [fits_i64]; omega, cntJ_intro () hja rfl (fun i hi => ?_)⟩
            by_cases e : i = k
            · subst e
              exact fun h => ⟨⟨hn', hp', hk'⟩, fun q hq => hB q hq (Nat.le_refl _) (by omega)⟩
            · exact hA i (by omega)
  · have : j = sig.length := by omega
    subst this
    refine kca_intro (sem_l1In sig.length 1 6) ?_
    simp only [EVA, ↓reduceIte, Nat.reduceEqDiff, Nat.reduceMul, reduceCtorEq, Nat.reduceAdd, Nat.reduceSub, Nat.reduceLeDiff, Nat.reduceLT, Int.reduceToNat, Int.reduceLE, Int.reduceLT, mens, men]
    have hall : ∀ i, sigAt sig i := fun i h => hA i h h
    rw [dc_congr (q := 1 ≤ sig.length ∧ sig.length ≤ 6) ⟨fun h => h.2, fun h => ⟨hall, h⟩⟩]
    by_cases h : 1 ≤ sig.length ∧ sig.length ≤ 6
    · rw [dc_true h, inB_iff.2 (by omega)]
    · rw [dc_false h, inB_not.2 (by omega)]

theorem sem_impl_IsSignature (sig : List TControl) (hl : sig.length ≤ 9223372036854775807) (hb : ∀ y ∈ sig, bdControl 9223372036854775807 y) (lvl : Nat) (S : Sto) : Sem Go.Proofs.Tryz.prog fid_impl_IsSignature lvl [.tr (.sl (sig.map cControl))] S (iB (dc (sigOK sig))) S := by
  refine sem_of_chk k_impl_IsSignature trivial ?_
  simp only [c_impl_IsSignature, List.length_map, EVA, ↓reduceIte, Nat.reduceEqDiff, Nat.reduceMul, reduceCtorEq, Nat.reduceAdd, Nat.reduceSub, Nat.reduceLeDiff, Nat.reduceLT, Int.reduceToNat, Int.reduceLE, Int.reduceLT, mens, men]
  refine kca_intro (sem_within sig.length 1 6) ?_
  simp only [List.length_map, EVA, ↓reduceIte, Nat.reduceEqDiff, Nat.reduceMul, reduceCtorEq, Nat.reduceAdd, Nat.reduceSub, Nat.reduceLeDiff, Nat.reduceLT, Int.reduceToNat, Int.reduceLE, Int.reduceLT, mens, men]
  refine ite_of (fun h => ?_) (fun h => ?_)
  · rw [dc_false (fun hs : sigOK sig => (inB_not.1 h) (by have := hs.2; omega))]
  have hln := inB_iff.1 (by simpa using h)
  refine wp_cnt (α := Unit) sig.length (fun j _ => [(11, iI j)]) (fun _ _ => []) (fun j _ => ∀ i, i < j → sigAt sig i) () (by simp only [EVA, ↓reduceIte, Nat.reduceEqDiff, Nat.reduceMul, reduceCtorEq, Nat.reduceAdd, Nat.reduceSub, Nat.reduceLeDiff, Nat.reduceLT, Int.reduceToNat, Int.reduceLE, Int.reduceLT, mens, men]) (by (simp only [EVA, ↓reduceIte, Nat.reduceEqDiff, Nat.reduceMul, reduceCtorEq, Nat.reduceAdd, Nat.reduceSub, Nat.reduceLeDiff, Nat.reduceLT, Int.reduceToNat, Int.reduceLE, Int.reduceLT, mens, men]) <;> rfl) (fun i hi => by omega) ?_
  intro j _ hj hA
  simp only [List.length_map, EVA, ↓reduceIte, Nat.reduceEqDiff, Nat.reduceMul, reduceCtorEq, Nat.reduceAdd, Nat.reduceSub, Nat.reduceLeDiff, Nat.reduceLT, Int.reduceToNat, Int.reduceLE, Int.reduceLT, mens, men]
  refine ite_of (fun hlt => ?_) (fun hge => ?_)
  · have hja : j < sig.length := by omega
    have ga := getA (c := cControl) hja
    have hbj : sig[j].name.size ≤ 9223372036854775807 := hb _ (List.getElem_mem hja)
    have hno : ¬ ctlOK sig[j] → ¬ sigOK sig := fun h hs => h (hs.1 j hja).1
    simp only [ga, cControl, EVA, ↓reduceIte, Nat.reduceEqDiff, Nat.reduceMul, reduceCtorEq, Nat.reduceAdd, Nat.reduceSub, Nat.reduceLeDiff, Nat.reduceLT, Int.reduceToNat, Int.reduceLE, Int.reduceLT, mens, men]
    refine kca_intro (sem_isName sig[j].name hbj) ?_
    simp only [ga, cControl, EVA, ↓reduceIte, Nat.reduceEqDiff, Nat.reduceMul, reduceCtorEq, Nat.reduceAdd, Nat.reduceSub, Nat.reduceLeDiff, Nat.reduceLT, Int.reduceToNat, Int.reduceLE, Int.reduceLT, mens, men]
    cases hn : dc (isNm sig[j].name) with
    | false =>
      simp only [EVA, ↓reduceIte, Nat.reduceEqDiff, Nat.reduceMul, reduceCtorEq, Nat.reduceAdd, Nat.reduceSub, Nat.reduceLeDiff, Nat.reduceLT, Int.reduceToNat, Int.reduceLE, Int.reduceLT, mens, men]
      rw [dc_false (hno fun h => dc_not.1 hn h.1)]
    | true =>
      have hn' := dc_iff.1 hn
      simp only [ga, cControl, EVA, ↓reduceIte, Nat.reduceEqDiff, Nat.reduceMul, reduceCtorEq, Nat.reduceAdd, Nat.reduceSub, Nat.reduceLeDiff, Nat.reduceLT, Int.reduceToNat, Int.reduceLE, Int.reduceLT, mens, men]
      refine kca_intro (sem_within sig[j].ports 0 3) ?_
      simp only [ga, cControl, EVA, ↓reduceIte, Nat.reduceEqDiff, Nat.reduceMul, reduceCtorEq, Nat.reduceAdd, Nat.reduceSub, Nat.reduceLeDiff, Nat.reduceLT, Int.reduceToNat, Int.reduceLE, Int.reduceLT, mens, men]
      cases hp : inB sig[j].ports 0 3 with
      | false =>
        simp only [EVA, ↓reduceIte, Nat.reduceEqDiff, Nat.reduceMul, reduceCtorEq, Nat.reduceAdd, Nat.reduceSub, Nat.reduceLeDiff, Nat.reduceLT, Int.reduceToNat, Int.reduceLE, Int.reduceLT, mens, men]
        rw [dc_false (hno fun h => inB_not.1 hp h.2.1)]
      | true =>
        have hp' := inB_iff.1 hp
        simp only [ga, cControl, EVA, ↓reduceIte, Nat.reduceEqDiff, Nat.reduceMul, reduceCtorEq, Nat.reduceAdd, Nat.reduceSub, Nat.reduceLeDiff, Nat.reduceLT, Int.reduceToNat, Int.reduceLE, Int.reduceLT, mens, men]
        refine kca_intro (sem_within sig[j].kind_ 0 2) ?_
        simp only [ga, cControl, EVA, ↓reduceIte, Nat.reduceEqDiff, Nat.reduceMul, reduceCtorEq, Nat.reduceAdd, Nat.reduceSub, Nat.reduceLeDiff, Nat.reduceLT, Int.reduceToNat, Int.reduceLE, Int.reduceLT, mens, men]
        cases hk : inB sig[j].kind_ 0 2 with
        | false =>
          simp only [EVA, ↓reduceIte, Nat.reduceEqDiff, Nat.reduceMul, reduceCtorEq, Nat.reduceAdd, Nat.reduceSub, Nat.reduceLeDiff, Nat.reduceLT, Int.reduceToNat, Int.reduceLE, Int.reduceLT, mens, men]
          rw [dc_false (hno fun h => inB_not.1 hk h.2.2)]
        | true =>
          have hk' := inB_iff.1 hk
          have hjl : j ≤ sig.length := by omega
          simp only [List.length_map, hjl, EVA, ↓reduceIte, Nat.reduceEqDiff, Nat.reduceMul, reduceCtorEq, Nat.reduceAdd, Nat.reduceSub, Nat.reduceLeDiff, Nat.reduceLT, Int.reduceToNat, Int.reduceLE, Int.reduceLT, mens, men]
          have hc := sem_coFk (P := Go.Proofs.Tryz.prog) g_coFControl g_ixFControl cControl_len (f := fun d : TControl => decide (d.name = sig[j].name)) (fe := fid_impl_IsSignature_1) (cs := [cControl sig[j]]) (sig.take j) (by rw [List.length_take]; omega) (fun d _ lvl S => sem_IsSignature_1 sig[j] d lvl S)
          rw [← cut_take0] at hc
          refine ⟨fun h => h.elim, Nat.zero_le _, kca_intro hc ?_⟩
          simp only [EVA, ↓reduceIte, Nat.reduceEqDiff, Nat.reduceMul, reduceCtorEq, Nat.reduceAdd, Nat.reduceSub, Nat.reduceLeDiff, Nat.reduceLT, Int.reduceToNat, Int.reduceLE, Int.reduceLT, mens, men]
          cases ha : (sig.take j).any (fun d : TControl => decide (d.name = sig[j].name)) with
          | true =>
            simp only [EVA, ↓reduceIte, Nat.reduceEqDiff, Nat.reduceMul, reduceCtorEq, Nat.reduceAdd, Nat.reduceSub, Nat.reduceLeDiff, Nat.reduceLT, Int.reduceToNat, Int.reduceLE, Int.reduceLT, mens, men]
            obtain ⟨d, hd, he⟩ := List.any_eq_true.1 ha
            obtain ⟨q, hq, rfl⟩ := List.getElem_of_mem hd
            rw [List.length_take] at hq
            rw [dc_false (fun hs : sigOK sig => (hs.1 j hja).2 q (by omega) (by simpa using he))]
          | false =>
            simp only [EVA, ↓reduceIte, Nat.reduceEqDiff, Nat.reduceMul, reduceCtorEq, Nat.reduceAdd, Nat.reduceSub, Nat.reduceLeDiff, Nat.reduceLT, Int.reduceToNat, Int.reduceLE, Int.reduceLT, mens, men]
            refine ⟨by rw [fits_i64]; omega, cntJ_intro () hja rfl (fun i hi => ?_)⟩
            by_cases e : i = j
            · subst e
              refine fun h => ⟨⟨hn', hp', hk'⟩, fun q hq => ?_⟩
              have := (List.any_eq_false.1 ha) sig[q] (by
                rw [List.mem_take_iff_getElem]
                exact ⟨q, by omega, rfl⟩)
              simpa using this
            · exact hA i (by omega)
  · have : j = sig.length := by omega
    subst this
    have hall : ∀ i, sigAt sig i := fun i h => hA i h h
    rw [dc_true (p := sigOK sig) ⟨hall, by omega, by omega⟩]
theorem rI_app (a b : List Int) : rI (a ++ b) = rI a ++ rI b := List.map_append

theorem g_ixFI : chkF Go.Proofs.Tryz.prog fid_slices_IndexFunc_int_int (gIxF 1 none) = true := by kernel_rfl
theorem g_coFI : chkF Go.Proofs.Tryz.prog fid_slices_ContainsFunc_int_int (gCoF fid_slices_IndexFunc_int_int) = true := by kernel_rfl
end Go.Fd

namespace Go.Fd
def Zm (s : Int → Int) (P : Prop) : Prop := ∀ l : Int, 0 ≤ l → l ≤ 1048576 → s l ≤ l ∧ (0 ≤ s l → P)
theorem Zm_id : Zm (fun l => l) True := fun _ _ _ => ⟨Int.le_refl _, fun _ => trivial⟩
theorem Zm_th {s g : Int → Int} {P Q : Prop} (hs : Zm s P) (hg : Zm g Q) : Zm (fun l => szTh (s l) g) (P ∧ Q) := fun l h0 h1 => by
  have a := hs l h0 h1
  by_cases h : s l < 0
  · simp only [szTh, if_pos h]
    exact ⟨by omega, fun h => by omega⟩
  · simp only [szTh, if_neg h]
    have b := hg (s l) (by omega) (by omega)
    exact ⟨by omega, fun h2 => ⟨a.2 (by omega), b.2 h2⟩⟩
theorem Zm_N (n : Nat) : Zm (fun l => szN n l) (n ≤ 4294967296) := fun l h0 h1 => by
  simp only [szN]
  split
  · exact ⟨by omega, fun h => by omega⟩
  · exact ⟨by omega, fun h => by omega⟩
theorem Zm_str (n : Nat) : Zm (fun l => l - n) (n ≤ 4294967296) := fun l h0 h1 => ⟨by simp only; omega, fun h => by simp only at h; omega⟩
theorem Zm_F {α : Type} {f : α → Int → Int} {P : α → Prop} (hf : ∀ x, Zm (f x) (P x)) : ∀ (a : List α), Zm (fun l => szF f a l) (∀ y ∈ a, P y)
  | [] => fun l _ _ => ⟨Int.le_refl l, fun _ y hy => by cases hy⟩
  | x :: r => fun l h0 h1 => by
    simp only [szF]
    have a := hf x l h0 h1
    split
    · exact ⟨by omega, fun h => by omega⟩
    · have b := Zm_F hf r (f x l) (by omega) (by omega)
      refine ⟨by simp only at b; omega, fun h y hy => ?_⟩
      cases hy with
      | head => exact a.2 (by omega)
      | tail _ hy => exact b.2 h y hy
theorem Zm_L {α : Type} {f : α → Int → Int} {P : α → Prop} (hf : ∀ x, Zm (f x) (P x)) (a : List α) : Zm (fun l => szL f a l) (a.length ≤ 4294967296 ∧ ∀ y ∈ a, P y) := fun l h0 h1 => by
  simp only [szL]
  split
  · exact ⟨by omega, fun h => by omega⟩
  · have b := Zm_F hf a (l - a.length) (by omega) (by omega)
    simp only at b
    exact ⟨by omega, fun h => ⟨by omega, b.2 h⟩⟩
theorem Zm_imp {s : Int → Int} {P Q : Prop} (h : Zm s P) (hq : P → Q) : Zm s Q := fun l h0 h1 => ⟨(h l h0 h1).1, fun h2 => hq ((h l h0 h1).2 h2)⟩
theorem zpNode (x : TNode) : Zm (fun l => szNode x l) (bdNode 4294967296 x) := by
  unfold szNode
  exact Zm_imp (Zm_th (Zm_N _) Zm_id) (fun h => by unfold bdNode; simp only [and_assoc, and_true, true_and, implies_true, forall_const] at h ⊢; try exact h)
theorem zpWire (x : TWire) : Zm (fun l => szWire x l) (bdWire 4294967296 x) := by
  unfold szWire
  exact Zm_imp (Zm_th (Zm_str _) Zm_id) (fun h => by unfold bdWire; simp only [and_assoc, and_true, true_and, implies_true, forall_const] at h ⊢; try exact h)
theorem zpBigraph (x : TBigraph) : Zm (fun l => szBigraph x l) (bdBigraph 4294967296 x) := by
  unfold szBigraph
  exact Zm_imp (Zm_th (Zm_L (fun y => (zpNode _)) _) (Zm_th (Zm_N _) (Zm_th (Zm_L (fun y => (Zm_str _)) _) (Zm_th (Zm_L (fun y => (zpWire _)) _) Zm_id)))) (fun h => by unfold bdBigraph; simp only [and_assoc, and_true, true_and, implies_true, forall_const] at h ⊢; try exact h)
theorem zpControl (x : TControl) : Zm (fun l => szControl x l) (bdControl 4294967296 x) := by
  unfold szControl
  exact Zm_imp (Zm_th (Zm_str _) Zm_id) (fun h => by unfold bdControl; simp only [and_assoc, and_true, true_and, implies_true, forall_const] at h ⊢; try exact h)
theorem mono_le {a : Nat} (h : a ≤ 4294967296) : a ≤ 9223372036854775807 := by omega
theorem monoNode {x : TNode} (h : bdNode 4294967296 x) : bdNode 9223372036854775807 x := by
  exact (mono_le h)
theorem monoWire {x : TWire} (h : bdWire 4294967296 x) : bdWire 9223372036854775807 x := by
  exact (mono_le h)
theorem monoBigraph {x : TBigraph} (h : bdBigraph 4294967296 x) : bdBigraph 9223372036854775807 x := by
  obtain ⟨b0, b1, b2, b3, b4, b5, b6⟩ := h
  exact ⟨(mono_le b0), (fun y0 hy0 => (monoNode (b1 y0 hy0))), (mono_le b2), (mono_le b3), (fun y0 hy0 => (mono_le (b4 y0 hy0))), (mono_le b5), (fun y0 hy0 => (monoWire (b6 y0 hy0)))⟩
theorem monoControl {x : TControl} (h : bdControl 4294967296 x) : bdControl 9223372036854775807 x := by
  exact (mono_le h)
end Go.Fd

namespace Go.Fd
set_option maxRecDepth 20000

theorem allN {P : Nat → Prop} {j : Nat} (h : ∀ k, k < j → P k) (hj : P j) : ∀ k, k < j + 1 → P k := fun k hk => by
  by_cases e : k = j
  · subst e; exact hj
  · exact h k (by omega)

theorem inB_dc {n a b : Int} : inB n a b = dc (a ≤ n ∧ n ≤ b) := by
  unfold inB
  rw [dc_decide, Bool.decide_and]

theorem bl_tri : ∀ (x y : List UInt8), (!Op.bytesLess x y) = (Op.bytesLess y x || decide (x = y))
  | [], [] => by simp [Op.bytesLess]
  | [], _ :: _ => by simp [Op.bytesLess]
  | _ :: _, [] => by simp [Op.bytesLess]
  | a :: x, b :: y => by
    have ih := bl_tri x y
    simp only [Op.bytesLess]
    by_cases h : a = b
    · subst h
      have e : ¬ a < a := UInt8.lt_irrefl a
      simp [e, ih]
    · by_cases h1 : a < b
      · have h2 : ¬ b < a := fun h2 => UInt8.lt_irrefl a (UInt8.lt_trans h1 h2)
        have h3 : ¬ b = a := fun e => h e.symm
        simp [h, h1, h2, h3]
      · have h2 : b < a := by
          rcases UInt8.lt_or_lt_of_ne h with h | h
          · exact absurd h h1
          · exact h
        simp [h, h1, h2]

def ltS (s t : ByteArray) : Prop := Op.bytesLess s.data.toList t.data.toList = true

theorem ltS_geq {s t : ByteArray} : (!Op.bytesLess s.data.toList t.data.toList) = !dc (ltS s t) := by
  unfold ltS
  rw [dc_decide, Bool.decide_eq_true]

theorem ltS_leq {s t : ByteArray} : (Op.bytesLess t.data.toList s.data.toList || decide (t = s)) = !dc (ltS s t) := by
  rw [← ltS_geq, bl_tri]
  congr 1
  have : t = s ↔ s.data.toList = t.data.toList := ⟨fun h => by rw [h], fun h => by
    cases s with | mk s => cases t with | mk t => exact congrArg ByteArray.mk (Array.toList_inj.1 h.symm)⟩
  simp only [this]

def nmAt (l : List ByteArray) (i : Nat) : Prop := ∀ h : i < l.length, isNm l[i] ∧ ∀ _ : 0 < i, ltS (l[i - 1]'(by omega)) l[i]

def namesOK (l : List ByteArray) : Prop := (∀ i, nmAt l i) ∧ l.length ≤ 16

theorem sem_l2Names (l : List ByteArray) (hl : l.length ≤ 4294967296) (hb : ∀ y ∈ l, y.size ≤ 4294967296) (lvl : Nat) (S : Sto) : Sem Go.Proofs.Tryz.prog fid_spec_l2Names lvl [.tr (.sl (rS l))] S (iB (dc (namesOK l))) S := by
  refine sem_of_chk k_spec_l2Names trivial ?_
  simp only [c_spec_l2Names, List.length_map, EVA, ↓reduceIte, Nat.reduceEqDiff, Nat.reduceMul, reduceCtorEq, Nat.reduceAdd, Nat.reduceSub, Nat.reduceLeDiff, Nat.reduceLT, Int.reduceToNat, Int.reduceLE, Int.reduceLT, mens, men]
  refine wp_cnt (α := Unit) l.length (fun j _ => [(3, iI j)]) (fun j _ => []) (fun j _ => ∀ k, k < j → nmAt l k) () (by simp only [EVA, ↓reduceIte, Nat.reduceEqDiff, Nat.reduceMul, reduceCtorEq, Nat.reduceAdd, Nat.reduceSub, Nat.reduceLeDiff, Nat.reduceLT, Int.reduceToNat, Int.reduceLE, Int.reduceLT, mens, men]) (by (simp only [EVA, ↓reduceIte, Nat.reduceEqDiff, Nat.reduceMul, reduceCtorEq, Nat.reduceAdd, Nat.reduceSub, Nat.reduceLeDiff, Nat.reduceLT, Int.reduceToNat, Int.reduceLE, Int.reduceLT, mens, men]) <;> rfl) (fun k hk => absurd hk (Nat.not_lt_zero k)) ?_
  intro j _ hj hA
  simp only [List.length_map, EVA, ↓reduceIte, Nat.reduceEqDiff, Nat.reduceMul, reduceCtorEq, Nat.reduceAdd, Nat.reduceSub, Nat.reduceLeDiff, Nat.reduceLT, Int.reduceToNat, Int.reduceLE, Int.reduceLT, mens, men]
  refine ite_of (fun hlt => ?_) (fun hge => ?_)
  · have hja : j < l.length := by omega
    have ga := getA (c := fun s => [ts s]) hja
    have hno : ¬ nmAt l j → dc (namesOK l) = false := fun h => dc_false fun g => h (g.1 j)
    simp only [ga, List.length_map, EVA, ↓reduceIte, Nat.reduceEqDiff, Nat.reduceMul, reduceCtorEq, Nat.reduceAdd, Nat.reduceSub, Nat.reduceLeDiff, Nat.reduceLT, Int.reduceToNat, Int.reduceLE, Int.reduceLT, mens, men]
    refine kca_intro (sem_l2Name l[j] (by have := hb _ (List.getElem_mem hja); omega)) ?_
    cases h1 : dc (isNm l[j])
    · simp only [EVA, ↓reduceIte, Nat.reduceEqDiff, Nat.reduceMul, reduceCtorEq, Nat.reduceAdd, Nat.reduceSub, Nat.reduceLeDiff, Nat.reduceLT, Int.reduceToNat, Int.reduceLE, Int.reduceLT, mens, men]
      rw [hno fun h => dc_not.1 h1 (h hja).1]
    by_cases q : 0 < j
    · have e1 : ((j : Int) - 1).toNat = j - 1 := by omega
      have e2 : (0 : Int) ≤ j - 1 := by omega
      have q5 : (0 : Int) < j := by omega
      have gb := getA (c := fun s => [ts s]) (l := l) (j := j - 1) (by omega)
      simp only [q5, e1, e2, ga, gb, List.length_map, EVA, ↓reduceIte, Nat.reduceEqDiff, Nat.reduceMul, reduceCtorEq, Nat.reduceAdd, Nat.reduceSub, Nat.reduceLeDiff, Nat.reduceLT, Int.reduceToNat, Int.reduceLE, Int.reduceLT, mens, men]
      cases hc : Op.bytesLess (l[j - 1]'(by omega)).data.toList l[j].data.toList
      · simp only [EVA, ↓reduceIte, Nat.reduceEqDiff, Nat.reduceMul, reduceCtorEq, Nat.reduceAdd, Nat.reduceSub, Nat.reduceLeDiff, Nat.reduceLT, Int.reduceToNat, Int.reduceLE, Int.reduceLT, mens, men]
        exact ⟨by rw [fits_i64]; omega, by rw [hno fun h => by have := (h hja).2 q; unfold ltS at this; rw [this] at hc; cases hc]⟩
      · simp only [EVA, ↓reduceIte, Nat.reduceEqDiff, Nat.reduceMul, reduceCtorEq, Nat.reduceAdd, Nat.reduceSub, Nat.reduceLeDiff, Nat.reduceLT, Int.reduceToNat, Int.reduceLE, Int.reduceLT, mens, men]
        exact ⟨by rw [fits_i64]; omega, by rw [fits_i64]; omega, cntJ_intro () hja rfl (allN hA fun _ => ⟨dc_iff.1 h1, fun _ => hc⟩)⟩
    · have q5 : ¬ (0 : Int) < j := by omega
      simp only [q5, ga, List.length_map, EVA, ↓reduceIte, Nat.reduceEqDiff, Nat.reduceMul, reduceCtorEq, Nat.reduceAdd, Nat.reduceSub, Nat.reduceLeDiff, Nat.reduceLT, Int.reduceToNat, Int.reduceLE, Int.reduceLT, mens, men]
      exact ⟨by rw [fits_i64]; omega, cntJ_intro () hja rfl (allN hA fun _ => ⟨dc_iff.1 h1, fun h => absurd h q⟩)⟩
  · have hj1 : j = l.length := by omega
    subst hj1
    rw [dc_congr (p := namesOK l) (q := (l.length : Int) ≤ 16) ⟨fun g => by have := g.2; omega, fun g => ⟨fun i h => hA i h h, by omega⟩⟩, dc_decide]

theorem sem_areNames (l : List ByteArray) (hl : l.length ≤ 4294967296) (hb : ∀ y ∈ l, y.size ≤ 4294967296) (lvl : Nat) (S : Sto) : Sem Go.Proofs.Tryz.prog fid_impl_areNames lvl [.tr (.sl (rS l))] S (iB (dc (namesOK l))) S := by
  refine sem_of_chk k_impl_areNames trivial ?_
  simp only [c_impl_areNames, List.length_map, EVA, ↓reduceIte, Nat.reduceEqDiff, Nat.reduceMul, reduceCtorEq, Nat.reduceAdd, Nat.reduceSub, Nat.reduceLeDiff, Nat.reduceLT, Int.reduceToNat, Int.reduceLE, Int.reduceLT, mens, men]
  refine wp_cnt (α := Unit) l.length (fun j _ => [(7, iI j)]) (fun j _ => []) (fun j _ => ∀ k, k < j → nmAt l k) () (by simp only [EVA, ↓reduceIte, Nat.reduceEqDiff, Nat.reduceMul, reduceCtorEq, Nat.reduceAdd, Nat.reduceSub, Nat.reduceLeDiff, Nat.reduceLT, Int.reduceToNat, Int.reduceLE, Int.reduceLT, mens, men]) (by (simp only [EVA, ↓reduceIte, Nat.reduceEqDiff, Nat.reduceMul, reduceCtorEq, Nat.reduceAdd, Nat.reduceSub, Nat.reduceLeDiff, Nat.reduceLT, Int.reduceToNat, Int.reduceLE, Int.reduceLT, mens, men]) <;> rfl) (fun k hk => absurd hk (Nat.not_lt_zero k)) ?_
  intro j _ hj hA
  simp only [List.length_map, EVA, ↓reduceIte, Nat.reduceEqDiff, Nat.reduceMul, reduceCtorEq, Nat.reduceAdd, Nat.reduceSub, Nat.reduceLeDiff, Nat.reduceLT, Int.reduceToNat, Int.reduceLE, Int.reduceLT, mens, men]
  refine ite_of (fun hlt => ?_) (fun hge => ?_)
  · have hja : j < l.length := by omega
    have ga := getA (c := fun s => [ts s]) hja
    have hno : ¬ nmAt l j → dc (namesOK l) = false := fun h => dc_false fun g => h (g.1 j)
    simp only [ga, List.length_map, EVA, ↓reduceIte, Nat.reduceEqDiff, Nat.reduceMul, reduceCtorEq, Nat.reduceAdd, Nat.reduceSub, Nat.reduceLeDiff, Nat.reduceLT, Int.reduceToNat, Int.reduceLE, Int.reduceLT, mens, men]
    refine kca_intro (sem_isName l[j] (by have := hb _ (List.getElem_mem hja); omega)) ?_
    cases h1 : dc (isNm l[j])
    · simp only [EVA, ↓reduceIte, Nat.reduceEqDiff, Nat.reduceMul, reduceCtorEq, Nat.reduceAdd, Nat.reduceSub, Nat.reduceLeDiff, Nat.reduceLT, Int.reduceToNat, Int.reduceLE, Int.reduceLT, mens, men]
      rw [hno fun h => dc_not.1 h1 (h hja).1]
    by_cases q : 0 < j
    · have e1 : ((j : Int) - 1).toNat = j - 1 := by omega
      have e2 : (0 : Int) ≤ j - 1 := by omega
      have q5 : (0 : Int) < j := by omega
      have gb := getA (c := fun s => [ts s]) (l := l) (j := j - 1) (by omega)
      simp only [q5, e1, e2, ga, gb, List.length_map, EVA, ↓reduceIte, Nat.reduceEqDiff, Nat.reduceMul, reduceCtorEq, Nat.reduceAdd, Nat.reduceSub, Nat.reduceLeDiff, Nat.reduceLT, Int.reduceToNat, Int.reduceLE, Int.reduceLT, mens, men]
      rw [ltS_leq]
      cases hc : dc (ltS (l[j - 1]'(by omega)) l[j])
      · simp only [EVA, ↓reduceIte, Nat.reduceEqDiff, Nat.reduceMul, reduceCtorEq, Nat.reduceAdd, Nat.reduceSub, Nat.reduceLeDiff, Nat.reduceLT, Int.reduceToNat, Int.reduceLE, Int.reduceLT, mens, men]
        exact ⟨by rw [fits_i64]; omega, by rw [hno fun h => dc_not.1 hc ((h hja).2 q)]⟩
      · simp only [EVA, ↓reduceIte, Nat.reduceEqDiff, Nat.reduceMul, reduceCtorEq, Nat.reduceAdd, Nat.reduceSub, Nat.reduceLeDiff, Nat.reduceLT, Int.reduceToNat, Int.reduceLE, Int.reduceLT, mens, men]
        exact ⟨by rw [fits_i64]; omega, by rw [fits_i64]; omega, cntJ_intro () hja rfl (allN hA fun _ => ⟨dc_iff.1 h1, fun _ => dc_iff.1 hc⟩)⟩
    · have q5 : ¬ (0 : Int) < j := by omega
      simp only [q5, ga, List.length_map, EVA, ↓reduceIte, Nat.reduceEqDiff, Nat.reduceMul, reduceCtorEq, Nat.reduceAdd, Nat.reduceSub, Nat.reduceLeDiff, Nat.reduceLT, Int.reduceToNat, Int.reduceLE, Int.reduceLT, mens, men]
      exact ⟨by rw [fits_i64]; omega, cntJ_intro () hja rfl (allN hA fun _ => ⟨dc_iff.1 h1, fun h => absurd h q⟩)⟩
  · have hj1 : j = l.length := by omega
    subst hj1
    rw [dc_congr (p := namesOK l) (q := (l.length : Int) ≤ 16) ⟨fun g => by have := g.2; omega, fun g => ⟨fun i h => hA i h h, by omega⟩⟩, dc_decide]

def linkOK (b : TBigraph) (l : Int) : Prop := 0 ≤ l ∧ l ≤ b.edges + b.outer.length - 1

theorem sem_l2Link (b : TBigraph) (l : Int) (he : 0 ≤ b.edges ∧ b.edges ≤ 8) (ho : b.outer.length ≤ 4294967296) (lvl : Nat) (S : Sto) : Sem Go.Proofs.Tryz.prog fid_spec_l2Link lvl [.ag ((cBigraph b).map .tr), iI l] S (iB (dc (linkOK b l))) S := by
  refine sem_of_chk k_spec_l2Link trivial ?_
  simp only [c_spec_l2Link, cBigraph, List.length_map, EVA, ↓reduceIte, Nat.reduceEqDiff, Nat.reduceMul, reduceCtorEq, Nat.reduceAdd, Nat.reduceSub, Nat.reduceLeDiff, Nat.reduceLT, Int.reduceToNat, Int.reduceLE, Int.reduceLT, mens, men]
  refine ⟨by rw [fits_i64]; omega, by rw [fits_i64]; omega, ?_⟩
  refine kca_intro (sem_l1In l 0 (b.edges + b.outer.length - 1)) ?_
  simp only [EVA, ↓reduceIte, Nat.reduceEqDiff, Nat.reduceMul, reduceCtorEq, Nat.reduceAdd, Nat.reduceSub, Nat.reduceLeDiff, Nat.reduceLT, Int.reduceToNat, Int.reduceLE, Int.reduceLT, mens, men]
  rw [inB_dc]
  rfl

theorem sem_isLink (b : TBigraph) (l : Int) (he : 0 ≤ b.edges ∧ b.edges ≤ 8) (ho : b.outer.length ≤ 4294967296) (lvl : Nat) (S : Sto) : Sem Go.Proofs.Tryz.prog fid_impl_Bigraph_isLink lvl [.ag ((cBigraph b).map .tr), iI l] S (iB (dc (linkOK b l))) S := by
  refine sem_of_chk k_impl_Bigraph_isLink trivial ?_
  simp only [c_impl_Bigraph_isLink, cBigraph, List.length_map, EVA, ↓reduceIte, Nat.reduceEqDiff, Nat.reduceMul, reduceCtorEq, Nat.reduceAdd, Nat.reduceSub, Nat.reduceLeDiff, Nat.reduceLT, Int.reduceToNat, Int.reduceLE, Int.reduceLT, mens, men]
  refine ⟨by rw [fits_i64]; omega, by rw [fits_i64]; omega, ?_⟩
  refine kca_intro (sem_within l 0 (b.edges + b.outer.length - 1)) ?_
  simp only [EVA, ↓reduceIte, Nat.reduceEqDiff, Nat.reduceMul, reduceCtorEq, Nat.reduceAdd, Nat.reduceSub, Nat.reduceLeDiff, Nat.reduceLT, Int.reduceToNat, Int.reduceLE, Int.reduceLT, mens, men]
  rw [inB_dc]
  rfl

def kindAt (sig : List TControl) (c : Int) : Int := ((sig[c.toNat]?).map TControl.kind_).getD 0
def portsAt (sig : List TControl) (c : Int) : Int := ((sig[c.toNat]?).map TControl.ports).getD 0
def ctlAt (b : TBigraph) (p : Int) : Int := ((b.nodes[p.toNat]?).map TNode.control).getD 0

def under (sig : List TControl) (b : TBigraph) (p below : Int) : Prop := (p < 0 ∧ -b.roots ≤ p) ∨ (0 ≤ p ∧ p < below ∧ ¬ kindAt sig (ctlAt b p) = 2)

def ctlsOK (sig : List TControl) (b : TBigraph) (n : Nat) : Prop := ∀ i, i < n → ∀ h : i < b.nodes.length, 0 ≤ b.nodes[i].control ∧ b.nodes[i].control ≤ (sig.length : Int) - 1

theorem sem_l2Under (sig : List TControl) (b : TBigraph) (p : Int) (k : Nat) (hp : fits .i64 p) (hr : 0 ≤ b.roots ∧ b.roots ≤ 4) (hk : k ≤ b.nodes.length) (hc : ctlsOK sig b k) (lvl : Nat) (S : Sto) : Sem Go.Proofs.Tryz.prog fid_spec_l2Under lvl [.tr (.sl (sig.map cControl)), .ag ((cBigraph b).map .tr), iI p, iI k] S (iB (dc (under sig b p k))) S := by
  rw [fits_i64] at hp
  refine sem_of_chk k_spec_l2Under trivial ?_
  simp only [c_spec_l2Under, cBigraph, List.length_map, EVA, ↓reduceIte, Nat.reduceEqDiff, Nat.reduceMul, reduceCtorEq, Nat.reduceAdd, Nat.reduceSub, Nat.reduceLeDiff, Nat.reduceLT, Int.reduceToNat, Int.reduceLE, Int.reduceLT, mens, men]
  refine ite_of (fun hneg => ?_) (fun hpos => ?_)
  · refine ⟨by rw [fits_i64]; omega, by rw [fits_i64]; omega, ?_⟩
    refine kca_intro (sem_l1In (-1 - p) 0 (b.roots - 1)) ?_
    simp only [EVA, ↓reduceIte, Nat.reduceEqDiff, Nat.reduceMul, reduceCtorEq, Nat.reduceAdd, Nat.reduceSub, Nat.reduceLeDiff, Nat.reduceLT, Int.reduceToNat, Int.reduceLE, Int.reduceLT, mens, men]
    have hiff : (0 ≤ -1 - p ∧ -1 - p ≤ b.roots - 1) ↔ under sig b p k := ⟨fun h => .inl (by omega), fun h => by rcases h with h | h <;> omega⟩
    rw [inB_dc, dc_congr hiff]
  · refine ite_of (fun hb => ?_) (fun hb => ?_)
    · obtain ⟨q, rfl⟩ : ∃ q : Nat, p = q := ⟨p.toNat, by omega⟩
      have hq : q < b.nodes.length := by omega
      have ga := getA (c := cNode) hq
      obtain ⟨m1, m2⟩ := hc q (by omega) hq
      obtain ⟨m, hm⟩ : ∃ m : Nat, b.nodes[q].control = m := ⟨b.nodes[q].control.toNat, by omega⟩
      have hms : m < sig.length := by omega
      have gs := getA (c := cControl) hms
      simp only [hb, ga, gs, cNode, cControl, hm, Int.toNat_natCast, Int.natCast_nonneg, List.length_map, EVA, ↓reduceIte, Nat.reduceEqDiff, Nat.reduceMul, reduceCtorEq, Nat.reduceAdd, Nat.reduceSub, Nat.reduceLeDiff, Nat.reduceLT, Int.reduceToNat, Int.reduceLE, Int.reduceLT, mens, men]
      have e : kindAt sig (ctlAt b q) = sig[m].kind_ := by simp [kindAt, ctlAt, hq, hm, hms]
      have hiff : under sig b q k ↔ ¬ sig[m].kind_ = 2 := by
        constructor
        · intro h
          rcases h with h | h
          · omega
          · rw [← e]; exact h.2.2
        · intro h
          exact .inr ⟨by omega, hb, by rw [e]; exact h⟩
      rw [dc_congr hiff, dc_decide]
    · rw [dc_false fun h : under sig b p k => by rcases h with h | h <;> omega]

theorem sem_isParent (sig : List TControl) (b : TBigraph) (p : Int) (k : Nat) (hr : 0 ≤ b.roots ∧ b.roots ≤ 4) (hk : k ≤ b.nodes.length) (hc : ctlsOK sig b k) (lvl : Nat) (S : Sto) : Sem Go.Proofs.Tryz.prog fid_impl_Bigraph_isParent lvl [.ag ((cBigraph b).map .tr), .tr (.sl (sig.map cControl)), iI p, iI k] S (iB (dc (under sig b p k))) S := by
  refine sem_of_chk k_impl_Bigraph_isParent trivial ?_
  simp only [c_impl_Bigraph_isParent, cBigraph, List.length_map, EVA, ↓reduceIte, Nat.reduceEqDiff, Nat.reduceMul, reduceCtorEq, Nat.reduceAdd, Nat.reduceSub, Nat.reduceLeDiff, Nat.reduceLT, Int.reduceToNat, Int.reduceLE, Int.reduceLT, mens, men]
  refine ite_of (fun hneg => ?_) (fun hpos => ?_)
  · refine ⟨by rw [fits_i64]; omega, ?_⟩
    have hiff : under sig b p k ↔ -b.roots ≤ p := ⟨fun h => by rcases h with h | h <;> omega, fun h => .inl (by omega)⟩
    rw [dc_congr hiff, dc_decide]
  · refine ite_of (fun hb => ?_) (fun hb => ?_)
    · obtain ⟨q, rfl⟩ : ∃ q : Nat, p = q := ⟨p.toNat, by omega⟩
      have hq : q < b.nodes.length := by omega
      have ga := getA (c := cNode) hq
      obtain ⟨m1, m2⟩ := hc q (by omega) hq
      obtain ⟨m, hm⟩ : ∃ m : Nat, b.nodes[q].control = m := ⟨b.nodes[q].control.toNat, by omega⟩
      have hms : m < sig.length := by omega
      have gs := getA (c := cControl) hms
      simp only [hb, ga, gs, cNode, cControl, hm, Int.toNat_natCast, Int.natCast_nonneg, List.length_map, EVA, ↓reduceIte, Nat.reduceEqDiff, Nat.reduceMul, reduceCtorEq, Nat.reduceAdd, Nat.reduceSub, Nat.reduceLeDiff, Nat.reduceLT, Int.reduceToNat, Int.reduceLE, Int.reduceLT, mens, men]
      have e : kindAt sig (ctlAt b q) = sig[m].kind_ := by simp [kindAt, ctlAt, hq, hm, hms]
      have hiff : under sig b q k ↔ ¬ sig[m].kind_ = 2 := by
        constructor
        · intro h
          rcases h with h | h
          · omega
          · rw [← e]; exact h.2.2
        · intro h
          exact .inr ⟨by omega, hb, by rw [e]; exact h⟩
      rw [dc_congr hiff, dc_decide]
    · rw [dc_false fun h : under sig b p k => by rcases h with h | h <;> omega]

structure nodeOK (sig : List TControl) (b : TBigraph) (x : TNode) (i : Nat) : Prop where
  ctl : 0 ≤ x.control ∧ x.control ≤ (sig.length : Int) - 1
  par : under sig b x.parent i
  ports : (x.links.length : Int) = portsAt sig x.control
  links : ∀ l ∈ x.links, linkOK b l

theorem sem_l2Node (sig : List TControl) (b : TBigraph) (i : Nat) (hi : i < b.nodes.length) (hn : sig.length ≤ 4294967296) (hl : b.nodes[i].links.length ≤ 4294967296) (hp : fits .i64 b.nodes[i].parent) (hr : 0 ≤ b.roots ∧ b.roots ≤ 4) (he : 0 ≤ b.edges ∧ b.edges ≤ 8) (ho : b.outer.length ≤ 4294967296) (hc : ctlsOK sig b i) (lvl : Nat) (S : Sto) : Sem Go.Proofs.Tryz.prog fid_spec_l2Node lvl [.tr (.sl (sig.map cControl)), .ag ((cBigraph b).map .tr), iI i] S (iB (dc (nodeOK sig b b.nodes[i] i))) S := by
  refine sem_of_chk k_spec_l2Node trivial ?_
  have ga := getA (c := cNode) hi
  simp only [c_spec_l2Node, cBigraph, List.length_map, ga, cNode, EVA, ↓reduceIte, Nat.reduceEqDiff, Nat.reduceMul, reduceCtorEq, Nat.reduceAdd, Nat.reduceSub, Nat.reduceLeDiff, Nat.reduceLT, Int.reduceToNat, Int.reduceLE, Int.reduceLT, mens, men]
  refine ⟨by rw [fits_i64]; omega, ?_⟩
  refine kca_intro (sem_l1In b.nodes[i].control 0 ((sig.length : Int) - 1)) ?_
  cases h1 : inB b.nodes[i].control 0 ((sig.length : Int) - 1)
  · simp only [EVA, ↓reduceIte, Nat.reduceEqDiff, Nat.reduceMul, reduceCtorEq, Nat.reduceAdd, Nat.reduceSub, Nat.reduceLeDiff, Nat.reduceLT, Int.reduceToNat, Int.reduceLE, Int.reduceLT, mens, men]
    rw [dc_false fun h : nodeOK sig b b.nodes[i] i => inB_not.1 h1 h.ctl]
  have r1 := inB_iff.1 h1
  simp only [cBigraph, List.length_map, cNode, EVA, ↓reduceIte, Nat.reduceEqDiff, Nat.reduceMul, reduceCtorEq, Nat.reduceAdd, Nat.reduceSub, Nat.reduceLeDiff, Nat.reduceLT, Int.reduceToNat, Int.reduceLE, Int.reduceLT, mens, men]
  refine kca_intro (sem_l2Under sig b b.nodes[i].parent i hp hr (by omega) hc) ?_
  cases h2 : dc (under sig b b.nodes[i].parent i)
  · simp only [EVA, ↓reduceIte, Nat.reduceEqDiff, Nat.reduceMul, reduceCtorEq, Nat.reduceAdd, Nat.reduceSub, Nat.reduceLeDiff, Nat.reduceLT, Int.reduceToNat, Int.reduceLE, Int.reduceLT, mens, men]
    rw [dc_false fun h : nodeOK sig b b.nodes[i] i => dc_not.1 h2 h.par]
  obtain ⟨m, hm⟩ : ∃ m : Nat, b.nodes[i].control = m := ⟨b.nodes[i].control.toNat, by omega⟩
  have hms : m < sig.length := by omega
  have gs := getA (c := cControl) hms
  have e : portsAt sig b.nodes[i].control = sig[m].ports := by simp [portsAt, hm, hms]
  simp only [hm, gs, cControl, cBigraph, List.length_map, cNode, EVA, ↓reduceIte, Nat.reduceEqDiff, Nat.reduceMul, reduceCtorEq, Nat.reduceAdd, Nat.reduceSub, Nat.reduceLeDiff, Nat.reduceLT, Int.reduceToNat, Int.reduceLE, Int.reduceLT, mens, men]
  refine ite_of (fun hne => ?_) (fun heq => ?_)
  · rw [dc_false fun h : nodeOK sig b b.nodes[i] i => by have := h.ports; rw [e] at this; exact hne this]
  refine wp_cnt (α := Unit) b.nodes[i].links.length (fun j _ => [(8, iI j)]) (fun j _ => []) (fun j _ => ∀ k, k < j → linkOK b (g0 b.nodes[i].links k)) () (by simp only [EVA, ↓reduceIte, Nat.reduceEqDiff, Nat.reduceMul, reduceCtorEq, Nat.reduceAdd, Nat.reduceSub, Nat.reduceLeDiff, Nat.reduceLT, Int.reduceToNat, Int.reduceLE, Int.reduceLT, mens, men]) (by (simp only [EVA, ↓reduceIte, Nat.reduceEqDiff, Nat.reduceMul, reduceCtorEq, Nat.reduceAdd, Nat.reduceSub, Nat.reduceLeDiff, Nat.reduceLT, Int.reduceToNat, Int.reduceLE, Int.reduceLT, mens, men]) <;> rfl) (fun k hk => absurd hk (Nat.not_lt_zero k)) ?_
  intro j _ hj hA
  simp only [List.length_map, EVA, ↓reduceIte, Nat.reduceEqDiff, Nat.reduceMul, reduceCtorEq, Nat.reduceAdd, Nat.reduceSub, Nat.reduceLeDiff, Nat.reduceLT, Int.reduceToNat, Int.reduceLE, Int.reduceLT, mens, men]
  refine ite_of (fun hlt => ?_) (fun hge => ?_)
  · have hja : j < b.nodes[i].links.length := by omega
    have gl := rI_get hja
    simp only [gl, List.length_map, EVA, ↓reduceIte, Nat.reduceEqDiff, Nat.reduceMul, reduceCtorEq, Nat.reduceAdd, Nat.reduceSub, Nat.reduceLeDiff, Nat.reduceLT, Int.reduceToNat, Int.reduceLE, Int.reduceLT, mens, men]
    refine kca_intro (sem_l2Link b (g0 b.nodes[i].links j) he ho) ?_
    cases hc : dc (linkOK b (g0 b.nodes[i].links j))
    · simp only [EVA, ↓reduceIte, Nat.reduceEqDiff, Nat.reduceMul, reduceCtorEq, Nat.reduceAdd, Nat.reduceSub, Nat.reduceLeDiff, Nat.reduceLT, Int.reduceToNat, Int.reduceLE, Int.reduceLT, mens, men]
      rw [dc_false fun h : nodeOK sig b b.nodes[i] i => dc_not.1 hc (h.links _ (by simp [hja]))]
    · simp only [EVA, ↓reduceIte, Nat.reduceEqDiff, Nat.reduceMul, reduceCtorEq, Nat.reduceAdd, Nat.reduceSub, Nat.reduceLeDiff, Nat.reduceLT, Int.reduceToNat, Int.reduceLE, Int.reduceLT, mens, men]
      exact ⟨by rw [fits_i64]; omega, cntJ_intro () hja rfl (allN hA (dc_iff.1 hc))⟩
  · have hj1 : j = b.nodes[i].links.length := by omega
    subst hj1
    have : nodeOK sig b b.nodes[i] i := ⟨r1, dc_iff.1 h2, by rw [e]; omega, fun l hl => by
      obtain ⟨k, hk, rfl⟩ := List.getElem_of_mem hl
      have := hA k hk
      simpa [hk] using this⟩
    rw [dc_true this]

def inn (b : TBigraph) : List ByteArray := b.inner.map TWire.name

theorem rS_app (a b : List ByteArray) : rS (a ++ b) = rS a ++ rS b := List.map_append

theorem sem_l2Inner (b : TBigraph) (hn : b.inner.length ≤ 4294967296) (lvl : Nat) (S : Sto) : Sem Go.Proofs.Tryz.prog fid_spec_l2Inner lvl [.ag ((cBigraph b).map .tr)] S (.ow 1 (rS (inn b)) true) S := by
  refine sem_of_chk k_spec_l2Inner trivial ?_
  simp only [c_spec_l2Inner, List.length_map, cBigraph, EVA, ↓reduceIte, Nat.reduceEqDiff, Nat.reduceMul, reduceCtorEq, Nat.reduceAdd, Nat.reduceSub, Nat.reduceLeDiff, Nat.reduceLT, Int.reduceToNat, Int.reduceLE, Int.reduceLT, mens, men]
  refine wp_cnt (α := Unit) b.inner.length (fun j _ => [(3, .hd (lvl, 160) [] 0 j none j), (4, iI j)]) (fun j _ => [(160, .ar 1 (rS ((inn b).take j)) true j 0)]) (fun _ _ => True) () (by simp only [EVA, ↓reduceIte, Nat.reduceEqDiff, Nat.reduceMul, reduceCtorEq, Nat.reduceAdd, Nat.reduceSub, Nat.reduceLeDiff, Nat.reduceLT, Int.reduceToNat, Int.reduceLE, Int.reduceLT, mens, men]) (by (simp only [EVA, ↓reduceIte, Nat.reduceEqDiff, Nat.reduceMul, reduceCtorEq, Nat.reduceAdd, Nat.reduceSub, Nat.reduceLeDiff, Nat.reduceLT, Int.reduceToNat, Int.reduceLE, Int.reduceLT, mens, men]) <;> rfl) trivial ?_
  intro j _ hj _
  have hil : (inn b).length = b.inner.length := by simp [inn]
  simp only [List.length_map, EVA, ↓reduceIte, Nat.reduceEqDiff, Nat.reduceMul, reduceCtorEq, Nat.reduceAdd, Nat.reduceSub, Nat.reduceLeDiff, Nat.reduceLT, Int.reduceToNat, Int.reduceLE, Int.reduceLT, mens, men]
  refine ite_of (fun hlt => ?_) (fun hge => ?_)
  · have hja : j < b.inner.length := by omega
    have ga := getA (c := cWire) hja
    have hlN : (rS ((inn b).take j)).length = j := by rw [List.length_map, List.length_take]; omega
    simp only [ga, cWire, hlN, List.length_map, EVA, ↓reduceIte, Nat.reduceEqDiff, Nat.reduceMul, reduceCtorEq, Nat.reduceAdd, Nat.reduceSub, Nat.reduceLeDiff, Nat.reduceLT, Int.reduceToNat, Int.reduceLE, Int.reduceLT, mens, men]
    have hstep : rS ((inn b).take j) ++ [[ts b.inner[j].name]] = rS ((inn b).take (j + 1)) := by
      rw [List.take_succ_eq_append_getElem (by omega), rS_app]
      simp [inn]
    refine ⟨by omega, by rw [fits_i64]; omega, cntJ_intro () hja ?_ trivial⟩
    rw [← hstep]
    rfl
  · have : j = b.inner.length := by omega
    subst this
    rw [List.take_of_length_le (by omega)]
    exact ⟨hil.symm, rfl⟩
end Go.Fd

namespace Go.Fd
set_option maxRecDepth 20000

theorem sem_innerNames (b : TBigraph) (hn : b.inner.length ≤ 4294967296) (lvl : Nat) (S : Sto) : Sem Go.Proofs.Tryz.prog fid_impl_Bigraph_innerNames lvl [.ag ((cBigraph b).map .tr)] S (.ow 1 (rS (inn b)) true) S := by
  refine sem_of_chk k_impl_Bigraph_innerNames trivial ?_
  simp only [c_impl_Bigraph_innerNames, List.length_map, cBigraph, EVA, ↓reduceIte, Nat.reduceEqDiff, Nat.reduceMul, reduceCtorEq, Nat.reduceAdd, Nat.reduceSub, Nat.reduceLeDiff, Nat.reduceLT, Int.reduceToNat, Int.reduceLE, Int.reduceLT, mens, men]
  refine wp_cnt (α := Unit) b.inner.length (fun j _ => [(3, .hd (lvl, 192) [] 0 j none j), (10, iI j)]) (fun j _ => [(192, .ar 1 (rS ((inn b).take j)) true j 0)]) (fun _ _ => True) () (by simp only [EVA, ↓reduceIte, Nat.reduceEqDiff, Nat.reduceMul, reduceCtorEq, Nat.reduceAdd, Nat.reduceSub, Nat.reduceLeDiff, Nat.reduceLT, Int.reduceToNat, Int.reduceLE, Int.reduceLT, mens, men]) (by (simp only [EVA, ↓reduceIte, Nat.reduceEqDiff, Nat.reduceMul, reduceCtorEq, Nat.reduceAdd, Nat.reduceSub, Nat.reduceLeDiff, Nat.reduceLT, Int.reduceToNat, Int.reduceLE, Int.reduceLT, mens, men]) <;> rfl) trivial ?_
  intro j _ hj _
  have hil : (inn b).length = b.inner.length := by simp [inn]
  simp only [List.length_map, EVA, ↓reduceIte, Nat.reduceEqDiff, Nat.reduceMul, reduceCtorEq, Nat.reduceAdd, Nat.reduceSub, Nat.reduceLeDiff, Nat.reduceLT, Int.reduceToNat, Int.reduceLE, Int.reduceLT, mens, men]
  refine ite_of (fun hlt => ?_) (fun hge => ?_)
  · have hja : j < b.inner.length := by omega
    have ga := getA (c := cWire) hja
    have hlN : (rS ((inn b).take j)).length = j := by rw [List.length_map, List.length_take]; omega
    simp only [ga, cWire, hlN, List.length_map, EVA, ↓reduceIte, Nat.reduceEqDiff, Nat.reduceMul, reduceCtorEq, Nat.reduceAdd, Nat.reduceSub, Nat.reduceLeDiff, Nat.reduceLT, Int.reduceToNat, Int.reduceLE, Int.reduceLT, mens, men]
    have hstep : rS ((inn b).take j) ++ [[ts b.inner[j].name]] = rS ((inn b).take (j + 1)) := by
      rw [List.take_succ_eq_append_getElem (by omega), rS_app]
      simp [inn]
    refine ⟨by omega, by rw [fits_i64]; omega, cntJ_intro () hja ?_ trivial⟩
    rw [← hstep]
    rfl
  · have : j = b.inner.length := by omega
    subst this
    rw [List.take_of_length_le (by omega)]
    exact ⟨hil.symm, rfl⟩

def nodeAt (sig : List TControl) (b : TBigraph) (i : Nat) : Prop := ∀ h : i < b.nodes.length, nodeOK sig b b.nodes[i] i

structure bigOK (sig : List TControl) (b : TBigraph) : Prop where
  sg : sigOK sig
  roots : 0 ≤ b.roots ∧ b.roots ≤ 4
  nodesL : b.nodes.length ≤ 8
  sitesL : b.sites.length ≤ 4
  edges : 0 ≤ b.edges ∧ b.edges ≤ 8
  outer : namesOK b.outer
  inn : namesOK (inn b)
  nodes : ∀ i, nodeAt sig b i
  sites : ∀ p ∈ b.sites, under sig b p b.nodes.length
  inner : ∀ w ∈ b.inner, linkOK b w.link

theorem ctls_of {sig : List TControl} {b : TBigraph} {j : Nat} (h : ∀ k, k < j → nodeAt sig b k) : ctlsOK sig b j := fun i hi hl => (h i hi hl).ctl

theorem inn_len {b : TBigraph} : (inn b).length = b.inner.length := by simp [inn]

theorem inn_mem {b : TBigraph} {n : Nat} (h : ∀ y ∈ b.inner, bdWire n y) : ∀ y ∈ inn b, y.size ≤ n := fun y hy => by
  obtain ⟨w, hw, rfl⟩ := List.mem_map.1 hy
  exact h w hw

theorem sem_l2Good (sig : List TControl) (b : TBigraph) (hn : sig.length ≤ 4294967296) (hbs : ∀ y ∈ sig, bdControl 4294967296 y) (hb : bdBigraph 4294967296 b) (hf : ftBigraph b) (lvl : Nat) (S : Sto) : Sem Go.Proofs.Tryz.prog fid_spec_l2Good lvl [.tr (.sl (sig.map cControl)), .ag ((cBigraph b).map .tr)] S (iB (dc (bigOK sig b))) S := by
  obtain ⟨b1, b2, b3, b4, b5, b6, b7⟩ := hb
  obtain ⟨f1, f2, f3, f4, f5⟩ := hf
  refine sem_of_chk k_spec_l2Good trivial ?_
  simp only [c_spec_l2Good, List.length_map, cBigraph, EVA, ↓reduceIte, Nat.reduceEqDiff, Nat.reduceMul, reduceCtorEq, Nat.reduceAdd, Nat.reduceSub, Nat.reduceLeDiff, Nat.reduceLT, Int.reduceToNat, Int.reduceLE, Int.reduceLT, mens, men]
  refine kca_intro (sem_l2Sig sig (by omega) (fun y hy => monoControl (hbs y hy))) ?_
  cases h1 : dc (sigOK sig)
  · simp only [EVA, ↓reduceIte, Nat.reduceEqDiff, Nat.reduceMul, reduceCtorEq, Nat.reduceAdd, Nat.reduceSub, Nat.reduceLeDiff, Nat.reduceLT, Int.reduceToNat, Int.reduceLE, Int.reduceLT, mens, men]
    rw [dc_false fun h : bigOK sig b => dc_not.1 h1 h.sg]
  simp only [List.length_map, cBigraph, EVA, ↓reduceIte, Nat.reduceEqDiff, Nat.reduceMul, reduceCtorEq, Nat.reduceAdd, Nat.reduceSub, Nat.reduceLeDiff, Nat.reduceLT, Int.reduceToNat, Int.reduceLE, Int.reduceLT, mens, men]
  refine kca_intro (sem_l1In b.roots 0 4) ?_
  cases h2 : inB b.roots 0 4
  · simp only [EVA, ↓reduceIte, Nat.reduceEqDiff, Nat.reduceMul, reduceCtorEq, Nat.reduceAdd, Nat.reduceSub, Nat.reduceLeDiff, Nat.reduceLT, Int.reduceToNat, Int.reduceLE, Int.reduceLT, mens, men]
    rw [dc_false fun h : bigOK sig b => inB_not.1 h2 h.roots]
  by_cases h3 : (8 : Int) < b.nodes.length
  · simp only [h3, List.length_map, cBigraph, EVA, ↓reduceIte, Nat.reduceEqDiff, Nat.reduceMul, reduceCtorEq, Nat.reduceAdd, Nat.reduceSub, Nat.reduceLeDiff, Nat.reduceLT, Int.reduceToNat, Int.reduceLE, Int.reduceLT, mens, men]
    rw [dc_false fun h : bigOK sig b => by have := h.nodesL; omega]
  by_cases h4 : (4 : Int) < b.sites.length
  · simp only [h3, h4, List.length_map, cBigraph, EVA, ↓reduceIte, Nat.reduceEqDiff, Nat.reduceMul, reduceCtorEq, Nat.reduceAdd, Nat.reduceSub, Nat.reduceLeDiff, Nat.reduceLT, Int.reduceToNat, Int.reduceLE, Int.reduceLT, mens, men]
    rw [dc_false fun h : bigOK sig b => by have := h.sitesL; omega]
  simp only [h3, h4, List.length_map, cBigraph, EVA, ↓reduceIte, Nat.reduceEqDiff, Nat.reduceMul, reduceCtorEq, Nat.reduceAdd, Nat.reduceSub, Nat.reduceLeDiff, Nat.reduceLT, Int.reduceToNat, Int.reduceLE, Int.reduceLT, mens, men]
  refine kca_intro (sem_l1In b.edges 0 8) ?_
  cases h5 : inB b.edges 0 8
  · simp only [EVA, ↓reduceIte, Nat.reduceEqDiff, Nat.reduceMul, reduceCtorEq, Nat.reduceAdd, Nat.reduceSub, Nat.reduceLeDiff, Nat.reduceLT, Int.reduceToNat, Int.reduceLE, Int.reduceLT, mens, men]
    rw [dc_false fun h : bigOK sig b => inB_not.1 h5 h.edges]
  have r2 := inB_iff.1 h2
  have r5 := inB_iff.1 h5
  simp only [List.length_map, cBigraph, EVA, ↓reduceIte, Nat.reduceEqDiff, Nat.reduceMul, reduceCtorEq, Nat.reduceAdd, Nat.reduceSub, Nat.reduceLeDiff, Nat.reduceLT, Int.reduceToNat, Int.reduceLE, Int.reduceLT, mens, men]
  refine kca_intro (sem_l2Names b.outer (by assumption) (by assumption)) ?_
  cases h6 : dc (namesOK b.outer)
  · simp only [EVA, ↓reduceIte, Nat.reduceEqDiff, Nat.reduceMul, reduceCtorEq, Nat.reduceAdd, Nat.reduceSub, Nat.reduceLeDiff, Nat.reduceLT, Int.reduceToNat, Int.reduceLE, Int.reduceLT, mens, men]
    rw [dc_false fun h : bigOK sig b => dc_not.1 h6 h.outer]
  by_cases h7 : (16 : Int) < b.inner.length
  · simp only [h7, List.length_map, cBigraph, EVA, ↓reduceIte, Nat.reduceEqDiff, Nat.reduceMul, reduceCtorEq, Nat.reduceAdd, Nat.reduceSub, Nat.reduceLeDiff, Nat.reduceLT, Int.reduceToNat, Int.reduceLE, Int.reduceLT, mens, men]
    rw [dc_false fun h : bigOK sig b => by have := h.inn.2; rw [inn_len] at this; omega]
  simp only [h7, List.length_map, cBigraph, EVA, ↓reduceIte, Nat.reduceEqDiff, Nat.reduceMul, reduceCtorEq, Nat.reduceAdd, Nat.reduceSub, Nat.reduceLeDiff, Nat.reduceLT, Int.reduceToNat, Int.reduceLE, Int.reduceLT, mens, men]
  refine kca_intro (sem_l2Inner b (by omega)) ?_
  simp only [List.length_map, cBigraph, EVA, ↓reduceIte, Nat.reduceEqDiff, Nat.reduceMul, reduceCtorEq, Nat.reduceAdd, Nat.reduceSub, Nat.reduceLeDiff, Nat.reduceLT, Int.reduceToNat, Int.reduceLE, Int.reduceLT, mens, men]
  refine kca_intro (sem_l2Names (inn b) (by rw [inn_len]; omega) (inn_mem (by assumption))) ?_
  cases h8 : dc (namesOK (inn b))
  · simp only [EVA, ↓reduceIte, Nat.reduceEqDiff, Nat.reduceMul, reduceCtorEq, Nat.reduceAdd, Nat.reduceSub, Nat.reduceLeDiff, Nat.reduceLT, Int.reduceToNat, Int.reduceLE, Int.reduceLT, mens, men]
    rw [dc_false fun h : bigOK sig b => dc_not.1 h8 h.inn]
  simp only [List.length_map, cBigraph, EVA, ↓reduceIte, Nat.reduceEqDiff, Nat.reduceMul, reduceCtorEq, Nat.reduceAdd, Nat.reduceSub, Nat.reduceLeDiff, Nat.reduceLT, Int.reduceToNat, Int.reduceLE, Int.reduceLT, mens, men]
  have ho := (dc_iff.1 h6).2
  refine wp_cnt (α := Unit) b.nodes.length (fun j _ => [(5, iI j)]) (fun j _ => []) (fun j _ => ∀ k, k < j → nodeAt sig b k) () (by simp only [EVA, ↓reduceIte, Nat.reduceEqDiff, Nat.reduceMul, reduceCtorEq, Nat.reduceAdd, Nat.reduceSub, Nat.reduceLeDiff, Nat.reduceLT, Int.reduceToNat, Int.reduceLE, Int.reduceLT, mens, men]) (by (simp only [EVA, ↓reduceIte, Nat.reduceEqDiff, Nat.reduceMul, reduceCtorEq, Nat.reduceAdd, Nat.reduceSub, Nat.reduceLeDiff, Nat.reduceLT, Int.reduceToNat, Int.reduceLE, Int.reduceLT, mens, men]) <;> rfl) (fun k hk => absurd hk (Nat.not_lt_zero k)) ?_
  intro j _ hj hA
  simp only [List.length_map, cBigraph, EVA, ↓reduceIte, Nat.reduceEqDiff, Nat.reduceMul, reduceCtorEq, Nat.reduceAdd, Nat.reduceSub, Nat.reduceLeDiff, Nat.reduceLT, Int.reduceToNat, Int.reduceLE, Int.reduceLT, mens, men]
  refine ite_of (fun hlt => ?_) (fun hge => ?_)
  · have hja : j < b.nodes.length := by omega
    have hm := List.getElem_mem hja
    refine kca_intro (sem_l2Node sig b j hja hn (by first | exact (b2 _ hm) | exact (b3 _ hm)) (by first | exact (f1 _ hm).2.1 | exact (f2 _ hm).2.1) r2 r5 (by omega) (ctls_of hA)) ?_
    cases hc : dc (nodeOK sig b b.nodes[j] j)
    · simp only [EVA, ↓reduceIte, Nat.reduceEqDiff, Nat.reduceMul, reduceCtorEq, Nat.reduceAdd, Nat.reduceSub, Nat.reduceLeDiff, Nat.reduceLT, Int.reduceToNat, Int.reduceLE, Int.reduceLT, mens, men]
      rw [dc_false fun h : bigOK sig b => dc_not.1 hc (h.nodes j hja)]
    · simp only [EVA, ↓reduceIte, Nat.reduceEqDiff, Nat.reduceMul, reduceCtorEq, Nat.reduceAdd, Nat.reduceSub, Nat.reduceLeDiff, Nat.reduceLT, Int.reduceToNat, Int.reduceLE, Int.reduceLT, mens, men]
      exact ⟨by rw [fits_i64]; omega, cntJ_intro () hja rfl (allN hA fun _ => dc_iff.1 hc)⟩
  have hj1 : j = b.nodes.length := by omega
  subst hj1
  refine wp_cnt (α := Unit) b.sites.length (fun j _ => [(6, iI j)]) (fun j _ => []) (fun j _ => ∀ k, k < j → under sig b (g0 b.sites k) b.nodes.length) () (by simp only [EVA, ↓reduceIte, Nat.reduceEqDiff, Nat.reduceMul, reduceCtorEq, Nat.reduceAdd, Nat.reduceSub, Nat.reduceLeDiff, Nat.reduceLT, Int.reduceToNat, Int.reduceLE, Int.reduceLT, mens, men]) (by (simp only [EVA, ↓reduceIte, Nat.reduceEqDiff, Nat.reduceMul, reduceCtorEq, Nat.reduceAdd, Nat.reduceSub, Nat.reduceLeDiff, Nat.reduceLT, Int.reduceToNat, Int.reduceLE, Int.reduceLT, mens, men]) <;> rfl) (fun k hk => absurd hk (Nat.not_lt_zero k)) ?_
  intro j _ hj hB
  simp only [List.length_map, cBigraph, EVA, ↓reduceIte, Nat.reduceEqDiff, Nat.reduceMul, reduceCtorEq, Nat.reduceAdd, Nat.reduceSub, Nat.reduceLeDiff, Nat.reduceLT, Int.reduceToNat, Int.reduceLE, Int.reduceLT, mens, men]
  refine ite_of (fun hlt => ?_) (fun hge => ?_)
  · have hja : j < b.sites.length := by omega
    have ga := rI_get hja
    have hg : g0 b.sites j ∈ b.sites := by simp [hja]
    simp only [ga, List.length_map, cBigraph, EVA, ↓reduceIte, Nat.reduceEqDiff, Nat.reduceMul, reduceCtorEq, Nat.reduceAdd, Nat.reduceSub, Nat.reduceLeDiff, Nat.reduceLT, Int.reduceToNat, Int.reduceLE, Int.reduceLT, mens, men]
    refine kca_intro (sem_l2Under sig b (g0 b.sites j) b.nodes.length (by first | exact f3 _ hg | exact f2 _ hg | exact f4 _ hg) r2 (Nat.le_refl _) (ctls_of hA)) ?_
    cases hc : dc (under sig b (g0 b.sites j) b.nodes.length)
    · simp only [EVA, ↓reduceIte, Nat.reduceEqDiff, Nat.reduceMul, reduceCtorEq, Nat.reduceAdd, Nat.reduceSub, Nat.reduceLeDiff, Nat.reduceLT, Int.reduceToNat, Int.reduceLE, Int.reduceLT, mens, men]
      rw [dc_false fun h : bigOK sig b => dc_not.1 hc (h.sites _ hg)]
    · simp only [EVA, ↓reduceIte, Nat.reduceEqDiff, Nat.reduceMul, reduceCtorEq, Nat.reduceAdd, Nat.reduceSub, Nat.reduceLeDiff, Nat.reduceLT, Int.reduceToNat, Int.reduceLE, Int.reduceLT, mens, men]
      exact ⟨by rw [fits_i64]; omega, cntJ_intro () hja rfl (allN hB (dc_iff.1 hc))⟩
  have hj1 : j = b.sites.length := by omega
  subst hj1
  refine wp_cnt (α := Unit) b.inner.length (fun j _ => [(7, iI j)]) (fun j _ => []) (fun j _ => ∀ k, k < j → ∀ h : k < b.inner.length, linkOK b b.inner[k].link) () (by simp only [EVA, ↓reduceIte, Nat.reduceEqDiff, Nat.reduceMul, reduceCtorEq, Nat.reduceAdd, Nat.reduceSub, Nat.reduceLeDiff, Nat.reduceLT, Int.reduceToNat, Int.reduceLE, Int.reduceLT, mens, men]) (by (simp only [EVA, ↓reduceIte, Nat.reduceEqDiff, Nat.reduceMul, reduceCtorEq, Nat.reduceAdd, Nat.reduceSub, Nat.reduceLeDiff, Nat.reduceLT, Int.reduceToNat, Int.reduceLE, Int.reduceLT, mens, men]) <;> rfl) (fun k hk => absurd hk (Nat.not_lt_zero k)) ?_
  intro j _ hj hC
  simp only [List.length_map, cBigraph, EVA, ↓reduceIte, Nat.reduceEqDiff, Nat.reduceMul, reduceCtorEq, Nat.reduceAdd, Nat.reduceSub, Nat.reduceLeDiff, Nat.reduceLT, Int.reduceToNat, Int.reduceLE, Int.reduceLT, mens, men]
  refine ite_of (fun hlt => ?_) (fun hge => ?_)
  · have hja : j < b.inner.length := by omega
    have ga := getA (c := cWire) hja
    simp only [ga, cWire, List.length_map, cBigraph, EVA, ↓reduceIte, Nat.reduceEqDiff, Nat.reduceMul, reduceCtorEq, Nat.reduceAdd, Nat.reduceSub, Nat.reduceLeDiff, Nat.reduceLT, Int.reduceToNat, Int.reduceLE, Int.reduceLT, mens, men]
    refine kca_intro (sem_l2Link b b.inner[j].link r5 (by omega)) ?_
    cases hc : dc (linkOK b b.inner[j].link)
    · simp only [EVA, ↓reduceIte, Nat.reduceEqDiff, Nat.reduceMul, reduceCtorEq, Nat.reduceAdd, Nat.reduceSub, Nat.reduceLeDiff, Nat.reduceLT, Int.reduceToNat, Int.reduceLE, Int.reduceLT, mens, men]
      rw [dc_false fun h : bigOK sig b => dc_not.1 hc (h.inner _ (List.getElem_mem hja))]
    · simp only [EVA, ↓reduceIte, Nat.reduceEqDiff, Nat.reduceMul, reduceCtorEq, Nat.reduceAdd, Nat.reduceSub, Nat.reduceLeDiff, Nat.reduceLT, Int.reduceToNat, Int.reduceLE, Int.reduceLT, mens, men]
      exact ⟨by rw [fits_i64]; omega, cntJ_intro () hja rfl (allN hC fun _ => dc_iff.1 hc)⟩
  have hj1 : j = b.inner.length := by omega
  subst hj1
  have : bigOK sig b := ⟨dc_iff.1 h1, r2, by omega, by omega, r5, dc_iff.1 h6, dc_iff.1 h8, fun i h => hA i h h, fun p hp => by
    obtain ⟨k, hk, rfl⟩ := List.getElem_of_mem hp
    have := hB k hk
    simpa [hk] using this, fun w hw => by
    obtain ⟨k, hk, rfl⟩ := List.getElem_of_mem hw
    exact hC k hk hk⟩
  rw [dc_true this]

theorem sem_IsBigraph_1 (l : Int) (b : TBigraph) (he : 0 ≤ b.edges ∧ b.edges ≤ 8) (ho : b.outer.length ≤ 4294967296) (lvl : Nat) (S : Sto) : Sem Go.Proofs.Tryz.prog fid_impl_IsBigraph_1 lvl [iI l, .ta (cBigraph b)] S (iB (!dc (linkOK b l))) S := by
  refine sem_of_chk k_impl_IsBigraph_1 trivial ?_
  simp only [c_impl_IsBigraph_1, cBigraph, EVA, ↓reduceIte, Nat.reduceEqDiff, Nat.reduceMul, reduceCtorEq, Nat.reduceAdd, Nat.reduceSub, Nat.reduceLeDiff, Nat.reduceLT, Int.reduceToNat, Int.reduceLE, Int.reduceLT, mens, men]
  refine kca_intro (sem_isLink b l he ho) ?_
  simp only [EVA, ↓reduceIte, Nat.reduceEqDiff, Nat.reduceMul, reduceCtorEq, Nat.reduceAdd, Nat.reduceSub, Nat.reduceLeDiff, Nat.reduceLT, Int.reduceToNat, Int.reduceLE, Int.reduceLT, mens, men]

theorem sem_IsBigraph_2 (p : Int) (sig : List TControl) (b : TBigraph) (hr : 0 ≤ b.roots ∧ b.roots ≤ 4) (hc : ctlsOK sig b b.nodes.length) (lvl : Nat) (S : Sto) : Sem Go.Proofs.Tryz.prog fid_impl_IsBigraph_2 lvl [iI p, .ta (cBigraph b), .ta [Tr.sl (sig.map cControl)]] S (iB (!dc (under sig b p b.nodes.length))) S := by
  refine sem_of_chk k_impl_IsBigraph_2 trivial ?_
  simp only [c_impl_IsBigraph_2, cBigraph, List.length_map, EVA, ↓reduceIte, Nat.reduceEqDiff, Nat.reduceMul, reduceCtorEq, Nat.reduceAdd, Nat.reduceSub, Nat.reduceLeDiff, Nat.reduceLT, Int.reduceToNat, Int.reduceLE, Int.reduceLT, mens, men]
  refine kca_intro (sem_isParent sig b p b.nodes.length hr (Nat.le_refl _) hc) ?_
  simp only [EVA, ↓reduceIte, Nat.reduceEqDiff, Nat.reduceMul, reduceCtorEq, Nat.reduceAdd, Nat.reduceSub, Nat.reduceLeDiff, Nat.reduceLT, Int.reduceToNat, Int.reduceLE, Int.reduceLT, mens, men]

theorem sem_IsBigraph_3 (w : TWire) (b : TBigraph) (he : 0 ≤ b.edges ∧ b.edges ≤ 8) (ho : b.outer.length ≤ 4294967296) (lvl : Nat) (S : Sto) : Sem Go.Proofs.Tryz.prog fid_impl_IsBigraph_3 lvl [.ag ((cWire w).map .tr), .ta (cBigraph b)] S (iB (!dc (linkOK b w.link))) S := by
  refine sem_of_chk k_impl_IsBigraph_3 trivial ?_
  simp only [c_impl_IsBigraph_3, cBigraph, cWire, EVA, ↓reduceIte, Nat.reduceEqDiff, Nat.reduceMul, reduceCtorEq, Nat.reduceAdd, Nat.reduceSub, Nat.reduceLeDiff, Nat.reduceLT, Int.reduceToNat, Int.reduceLE, Int.reduceLT, mens, men]
  refine kca_intro (sem_isLink b w.link he ho) ?_
  simp only [EVA, ↓reduceIte, Nat.reduceEqDiff, Nat.reduceMul, reduceCtorEq, Nat.reduceAdd, Nat.reduceSub, Nat.reduceLeDiff, Nat.reduceLT, Int.reduceToNat, Int.reduceLE, Int.reduceLT, mens, men]

theorem g_ixFW : chkF Go.Proofs.Tryz.prog fid_slices_IndexFunc_impl_Wire_impl_Wire (gIxF 2 (some 2)) = true := by kernel_rfl
theorem g_coFW : chkF Go.Proofs.Tryz.prog fid_slices_ContainsFunc_impl_Wire_impl_Wire (gCoF fid_slices_IndexFunc_impl_Wire_impl_Wire) = true := by kernel_rfl

theorem any_no {α : Type} {l : List α} {p : α → Prop} : (l.any fun n => !dc (p n)) = false ↔ ∀ n ∈ l, p n := by
  simp only [List.any_eq_false, Bool.not_eq_true', Bool.not_eq_false, dc_iff]

theorem sem_impl_IsBigraph (sig : List TControl) (b : TBigraph) (hn : sig.length ≤ 4294967296) (hbs : ∀ y ∈ sig, bdControl 4294967296 y) (hb : bdBigraph 4294967296 b) (lvl : Nat) (S : Sto) : Sem Go.Proofs.Tryz.prog fid_impl_IsBigraph lvl [.tr (.sl (sig.map cControl)), .ag ((cBigraph b).map .tr)] S (iB (dc (bigOK sig b))) S := by
  obtain ⟨b1, b2, b3, b4, b5, b6, b7⟩ := hb
  refine sem_of_chk k_impl_IsBigraph trivial ?_
  simp only [c_impl_IsBigraph, List.length_map, cBigraph, EVA, ↓reduceIte, Nat.reduceEqDiff, Nat.reduceMul, reduceCtorEq, Nat.reduceAdd, Nat.reduceSub, Nat.reduceLeDiff, Nat.reduceLT, Int.reduceToNat, Int.reduceLE, Int.reduceLT, mens, men]
  refine kca_intro (sem_impl_IsSignature sig (by omega) (fun y hy => monoControl (hbs y hy))) ?_
  cases h1 : dc (sigOK sig)
  · simp only [EVA, ↓reduceIte, Nat.reduceEqDiff, Nat.reduceMul, reduceCtorEq, Nat.reduceAdd, Nat.reduceSub, Nat.reduceLeDiff, Nat.reduceLT, Int.reduceToNat, Int.reduceLE, Int.reduceLT, mens, men]
    rw [dc_false fun h : bigOK sig b => dc_not.1 h1 h.sg]
  simp only [List.length_map, cBigraph, EVA, ↓reduceIte, Nat.reduceEqDiff, Nat.reduceMul, reduceCtorEq, Nat.reduceAdd, Nat.reduceSub, Nat.reduceLeDiff, Nat.reduceLT, Int.reduceToNat, Int.reduceLE, Int.reduceLT, mens, men]
  refine kca_intro (sem_within b.roots 0 4) ?_
  cases h2 : inB b.roots 0 4
  · simp only [EVA, ↓reduceIte, Nat.reduceEqDiff, Nat.reduceMul, reduceCtorEq, Nat.reduceAdd, Nat.reduceSub, Nat.reduceLeDiff, Nat.reduceLT, Int.reduceToNat, Int.reduceLE, Int.reduceLT, mens, men]
    rw [dc_false fun h : bigOK sig b => inB_not.1 h2 h.roots]
  by_cases h3 : (8 : Int) < b.nodes.length
  · simp only [h3, List.length_map, cBigraph, EVA, ↓reduceIte, Nat.reduceEqDiff, Nat.reduceMul, reduceCtorEq, Nat.reduceAdd, Nat.reduceSub, Nat.reduceLeDiff, Nat.reduceLT, Int.reduceToNat, Int.reduceLE, Int.reduceLT, mens, men]
    rw [dc_false fun h : bigOK sig b => by have := h.nodesL; omega]
  by_cases h4 : (4 : Int) < b.sites.length
  · simp only [h3, h4, List.length_map, cBigraph, EVA, ↓reduceIte, Nat.reduceEqDiff, Nat.reduceMul, reduceCtorEq, Nat.reduceAdd, Nat.reduceSub, Nat.reduceLeDiff, Nat.reduceLT, Int.reduceToNat, Int.reduceLE, Int.reduceLT, mens, men]
    rw [dc_false fun h : bigOK sig b => by have := h.sitesL; omega]
  simp only [h3, h4, List.length_map, cBigraph, EVA, ↓reduceIte, Nat.reduceEqDiff, Nat.reduceMul, reduceCtorEq, Nat.reduceAdd, Nat.reduceSub, Nat.reduceLeDiff, Nat.reduceLT, Int.reduceToNat, Int.reduceLE, Int.reduceLT, mens, men]
  refine kca_intro (sem_within b.edges 0 8) ?_
  cases h5 : inB b.edges 0 8
  · simp only [EVA, ↓reduceIte, Nat.reduceEqDiff, Nat.reduceMul, reduceCtorEq, Nat.reduceAdd, Nat.reduceSub, Nat.reduceLeDiff, Nat.reduceLT, Int.reduceToNat, Int.reduceLE, Int.reduceLT, mens, men]
    rw [dc_false fun h : bigOK sig b => inB_not.1 h5 h.edges]
  have r2 := inB_iff.1 h2
  have r5 := inB_iff.1 h5
  simp only [List.length_map, cBigraph, EVA, ↓reduceIte, Nat.reduceEqDiff, Nat.reduceMul, reduceCtorEq, Nat.reduceAdd, Nat.reduceSub, Nat.reduceLeDiff, Nat.reduceLT, Int.reduceToNat, Int.reduceLE, Int.reduceLT, mens, men]
  refine kca_intro (sem_areNames b.outer (by assumption) (by assumption)) ?_
  cases h6 : dc (namesOK b.outer)
  · simp only [EVA, ↓reduceIte, Nat.reduceEqDiff, Nat.reduceMul, reduceCtorEq, Nat.reduceAdd, Nat.reduceSub, Nat.reduceLeDiff, Nat.reduceLT, Int.reduceToNat, Int.reduceLE, Int.reduceLT, mens, men]
    rw [dc_false fun h : bigOK sig b => dc_not.1 h6 h.outer]
  simp only [List.length_map, cBigraph, EVA, ↓reduceIte, Nat.reduceEqDiff, Nat.reduceMul, reduceCtorEq, Nat.reduceAdd, Nat.reduceSub, Nat.reduceLeDiff, Nat.reduceLT, Int.reduceToNat, Int.reduceLE, Int.reduceLT, mens, men]
  refine kca_intro (sem_innerNames b (by omega)) ?_
  simp only [List.length_map, cBigraph, EVA, ↓reduceIte, Nat.reduceEqDiff, Nat.reduceMul, reduceCtorEq, Nat.reduceAdd, Nat.reduceSub, Nat.reduceLeDiff, Nat.reduceLT, Int.reduceToNat, Int.reduceLE, Int.reduceLT, mens, men]
  refine kca_intro (sem_areNames (inn b) (by rw [inn_len]; omega) (inn_mem (by assumption))) ?_
  cases h8 : dc (namesOK (inn b))
  · simp only [EVA, ↓reduceIte, Nat.reduceEqDiff, Nat.reduceMul, reduceCtorEq, Nat.reduceAdd, Nat.reduceSub, Nat.reduceLeDiff, Nat.reduceLT, Int.reduceToNat, Int.reduceLE, Int.reduceLT, mens, men]
    rw [dc_false fun h : bigOK sig b => dc_not.1 h8 h.inn]
  simp only [List.length_map, cBigraph, EVA, ↓reduceIte, Nat.reduceEqDiff, Nat.reduceMul, reduceCtorEq, Nat.reduceAdd, Nat.reduceSub, Nat.reduceLeDiff, Nat.reduceLT, Int.reduceToNat, Int.reduceLE, Int.reduceLT, mens, men]
  have ho := (dc_iff.1 h6).2
  refine wp_cnt (α := Unit) b.nodes.length (fun j _ => [(49, iI j)]) (fun j _ => []) (fun j _ => ∀ k, k < j → nodeAt sig b k) () (by simp only [EVA, ↓reduceIte, Nat.reduceEqDiff, Nat.reduceMul, reduceCtorEq, Nat.reduceAdd, Nat.reduceSub, Nat.reduceLeDiff, Nat.reduceLT, Int.reduceToNat, Int.reduceLE, Int.reduceLT, mens, men]) (by (simp only [EVA, ↓reduceIte, Nat.reduceEqDiff, Nat.reduceMul, reduceCtorEq, Nat.reduceAdd, Nat.reduceSub, Nat.reduceLeDiff, Nat.reduceLT, Int.reduceToNat, Int.reduceLE, Int.reduceLT, mens, men]) <;> rfl) (fun k hk => absurd hk (Nat.not_lt_zero k)) ?_
  intro j _ hj hA
  simp only [List.length_map, cBigraph, EVA, ↓reduceIte, Nat.reduceEqDiff, Nat.reduceMul, reduceCtorEq, Nat.reduceAdd, Nat.reduceSub, Nat.reduceLeDiff, Nat.reduceLT, Int.reduceToNat, Int.reduceLE, Int.reduceLT, mens, men]
  refine ite_of (fun hlt => ?_) (fun hge => ?_)
  · have hja : j < b.nodes.length := by omega
    have hm := List.getElem_mem hja
    have ga := getA (c := cNode) hja
    have hll : b.nodes[j].links.length ≤ 4294967296 := by first | exact (b2 _ hm) | exact (b3 _ hm)
    have hno : ¬ nodeOK sig b b.nodes[j] j → dc (bigOK sig b) = false := fun h => dc_false fun g => h (g.nodes j hja)
    simp only [ga, cNode, List.length_map, cBigraph, EVA, ↓reduceIte, Nat.reduceEqDiff, Nat.reduceMul, reduceCtorEq, Nat.reduceAdd, Nat.reduceSub, Nat.reduceLeDiff, Nat.reduceLT, Int.reduceToNat, Int.reduceLE, Int.reduceLT, mens, men]
    refine ⟨by rw [fits_i64]; omega, ?_⟩
    refine kca_intro (sem_within b.nodes[j].control 0 ((sig.length : Int) - 1)) ?_
    cases p1 : inB b.nodes[j].control 0 ((sig.length : Int) - 1)
    · simp only [EVA, ↓reduceIte, Nat.reduceEqDiff, Nat.reduceMul, reduceCtorEq, Nat.reduceAdd, Nat.reduceSub, Nat.reduceLeDiff, Nat.reduceLT, Int.reduceToNat, Int.reduceLE, Int.reduceLT, mens, men]
      rw [hno fun h => inB_not.1 p1 h.ctl]
    have q1 := inB_iff.1 p1
    simp only [cNode, List.length_map, cBigraph, EVA, ↓reduceIte, Nat.reduceEqDiff, Nat.reduceMul, reduceCtorEq, Nat.reduceAdd, Nat.reduceSub, Nat.reduceLeDiff, Nat.reduceLT, Int.reduceToNat, Int.reduceLE, Int.reduceLT, mens, men]
    refine kca_intro (sem_isParent sig b b.nodes[j].parent j r2 (by omega) (ctls_of hA)) ?_
    cases p2 : dc (under sig b b.nodes[j].parent j)
    · simp only [EVA, ↓reduceIte, Nat.reduceEqDiff, Nat.reduceMul, reduceCtorEq, Nat.reduceAdd, Nat.reduceSub, Nat.reduceLeDiff, Nat.reduceLT, Int.reduceToNat, Int.reduceLE, Int.reduceLT, mens, men]
      rw [hno fun h => dc_not.1 p2 h.par]
    obtain ⟨m, hmm⟩ : ∃ m : Nat, b.nodes[j].control = m := ⟨b.nodes[j].control.toNat, by omega⟩
    have hms : m < sig.length := by omega
    have gs := getA (c := cControl) hms
    have e : portsAt sig b.nodes[j].control = sig[m].ports := by simp [portsAt, hmm, hms]
    by_cases p3 : (b.nodes[j].links.length : Int) = sig[m].ports
    case neg =>
      simp only [p3, hmm, gs, Int.toNat_natCast, Int.natCast_nonneg, cControl, cNode, List.length_map, cBigraph, EVA, ↓reduceIte, Nat.reduceEqDiff, Nat.reduceMul, reduceCtorEq, Nat.reduceAdd, Nat.reduceSub, Nat.reduceLeDiff, Nat.reduceLT, Int.reduceToNat, Int.reduceLE, Int.reduceLT, mens, men]
      rw [hno fun h => p3 (by rw [← e]; exact h.ports)]
    simp only [p3, hmm, gs, Int.toNat_natCast, Int.natCast_nonneg, cControl, cNode, List.length_map, cBigraph, EVA, ↓reduceIte, Nat.reduceEqDiff, Nat.reduceMul, reduceCtorEq, Nat.reduceAdd, Nat.reduceSub, Nat.reduceLeDiff, Nat.reduceLT, Int.reduceToNat, Int.reduceLE, Int.reduceLT, mens, men]
    refine kca_intro (sem_coF1 (t := tv) (cs := [cBigraph b]) g_coFI g_ixFI b.nodes[j].links (by omega) (fun x _ lvl S => sem_IsBigraph_1 x b r5 (by omega) lvl S)) ?_
    cases p4 : b.nodes[j].links.any fun l => !dc (linkOK b l)
    · simp only [EVA, ↓reduceIte, Nat.reduceEqDiff, Nat.reduceMul, reduceCtorEq, Nat.reduceAdd, Nat.reduceSub, Nat.reduceLeDiff, Nat.reduceLT, Int.reduceToNat, Int.reduceLE, Int.reduceLT, mens, men]
      exact ⟨by rw [fits_i64]; omega, cntJ_intro () hja rfl (allN hA fun _ => ⟨q1, dc_iff.1 p2, by rw [e]; exact p3, any_no.1 p4⟩)⟩
    · simp only [EVA, ↓reduceIte, Nat.reduceEqDiff, Nat.reduceMul, reduceCtorEq, Nat.reduceAdd, Nat.reduceSub, Nat.reduceLeDiff, Nat.reduceLT, Int.reduceToNat, Int.reduceLE, Int.reduceLT, mens, men]
      rw [hno fun h => by rw [any_no.2 h.links] at p4; cases p4]
  have hj1 : j = b.nodes.length := by omega
  subst hj1
  refine kca_intro (sem_coF1 (t := tv) (cs := [cBigraph b, [Tr.sl (sig.map cControl)]]) g_coFI g_ixFI b.sites (by omega) (fun x _ lvl S => sem_IsBigraph_2 x sig b r2 (ctls_of hA) lvl S)) ?_
  cases h9 : b.sites.any fun p => !dc (under sig b p b.nodes.length)
  case true =>
    simp only [EVA, ↓reduceIte, Nat.reduceEqDiff, Nat.reduceMul, reduceCtorEq, Nat.reduceAdd, Nat.reduceSub, Nat.reduceLeDiff, Nat.reduceLT, Int.reduceToNat, Int.reduceLE, Int.reduceLT, mens, men]
    rw [dc_false fun h : bigOK sig b => by rw [any_no.2 h.sites] at h9; cases h9]
  simp only [List.length_map, cBigraph, EVA, ↓reduceIte, Nat.reduceEqDiff, Nat.reduceMul, reduceCtorEq, Nat.reduceAdd, Nat.reduceSub, Nat.reduceLeDiff, Nat.reduceLT, Int.reduceToNat, Int.reduceLE, Int.reduceLT, mens, men]
  refine kca_intro (sem_coFk (cs := [cBigraph b]) g_coFW g_ixFW (fun x => rfl) b.inner (by omega) (fun x _ lvl S => sem_IsBigraph_3 x b r5 (by omega) lvl S)) ?_
  cases h10 : b.inner.any fun w => !dc (linkOK b w.link)
  case true =>
    simp only [EVA, ↓reduceIte, Nat.reduceEqDiff, Nat.reduceMul, reduceCtorEq, Nat.reduceAdd, Nat.reduceSub, Nat.reduceLeDiff, Nat.reduceLT, Int.reduceToNat, Int.reduceLE, Int.reduceLT, mens, men]
    rw [dc_false fun h : bigOK sig b => by rw [(any_no (p := fun w : TWire => linkOK b w.link)).2 h.inner] at h10; cases h10]
  simp only [EVA, ↓reduceIte, Nat.reduceEqDiff, Nat.reduceMul, reduceCtorEq, Nat.reduceAdd, Nat.reduceSub, Nat.reduceLeDiff, Nat.reduceLT, Int.reduceToNat, Int.reduceLE, Int.reduceLT, mens, men]
  have : bigOK sig b := ⟨dc_iff.1 h1, r2, by omega, by omega, r5, dc_iff.1 h6, dc_iff.1 h8, fun i h => hA i h h, any_no.1 h9, any_no.1 h10⟩
  rw [dc_true this]
end Go.Fd

namespace Go.Fd
set_option maxRecDepth 20000

def cz {α : Type} [DecidableEq α] (g : Nat → α) : Nat → List α
  | 0 => []
  | m + 1 => cz g m ++ if m ≠ 0 ∧ g m = g (m - 1) then [] else [g m]
theorem cz_le {α : Type} [DecidableEq α] (g : Nat → α) : ∀ m, (cz g m).length ≤ m
  | 0 => Nat.le_refl _
  | m + 1 => by
    have := cz_le g m
    simp only [cz, List.length_append]
    split <;> simp <;> omega
theorem cz_eq {α : Type} [DecidableEq α] {g : Nat → α} {m : Nat} (h0 : m ≠ 0) (h : g m = g (m - 1)) : cz g (m + 1) = cz g m := by
  rw [cz, if_pos ⟨h0, h⟩, List.append_nil]
theorem cz_ne {α : Type} [DecidableEq α] {g : Nat → α} {m : Nat} (h : g m ≠ g (m - 1)) : cz g (m + 1) = cz g m ++ [g m] := by
  rw [cz, if_neg (fun e => h e.2)]

theorem take_set_succ {α : Type} {y : List α} {i : Nat} {v : α} (h : i < y.length) : (y.set i v).take (i + 1) = y.take i ++ [v] := by
  rw [List.take_succ_eq_append_getElem (by rw [List.length_set]; exact h), List.getElem_set_self, List.take_set_of_le (Nat.le_refl i)]

theorem widI {lvl : Nat} {S : Sto} {id : Oid} {k hw ver : Nat} {es : Row} {u : Bool} (hne : id.1 ≠ lvl) (hS : S id = some (.ar k es u hw ver)) : wid (packS lvl [] S) id [] k := by
  unfold wid
  rw [r_packo hne, hS]

theorem kcy_own {C : Contract} {env : List (Nat × IV)} {loc : List (Nat × Ob)} {out : Sto} {d : Option Nat} {K : St → Prop} {fid : FuncId} {imp : Bool} {lvl : Nat} {args : List IV} {r : IV} (key : Nat) (o : Ob) (h : C fid (lvl + 1) args (packS lvl loc out) r (sset (packS lvl loc out) (lvl, key) o))
    (hk : freshK (keyOf d) (ptO key o loc) (impv imp lvl (keyOf d) 0 r).2.length ∧ K ⟨lvl, ptd d (impv imp lvl (keyOf d) 0 r).1 env, addO (keyOf d) (impv imp lvl (keyOf d) 0 r).2 (ptO key o loc), out⟩) : kcy C fid imp lvl env loc out d K args :=
  kcy_intro (ptO key o loc) out (fun _ _ => rfl) (by rw [packS_ptO]; exact h) hk

theorem kcy_ownx {C : Contract} {env : List (Nat × IV)} {loc : List (Nat × Ob)} {out : Sto} {d : Option Nat} {K : St → Prop} {fid : FuncId} {imp : Bool} {lvl : Nat} {args : List IV} {r : IV} (key : Nat) (o : Nat → Ob) (h : ∃ v, C fid (lvl + 1) args (packS lvl loc out) r (sset (packS lvl loc out) (lvl, key) (o v)))
    (hk : ∀ v, freshK (keyOf d) (ptO key (o v) loc) (impv imp lvl (keyOf d) 0 r).2.length ∧ K ⟨lvl, ptd d (impv imp lvl (keyOf d) 0 r).1 env, addO (keyOf d) (impv imp lvl (keyOf d) 0 r).2 (ptO key (o v) loc), out⟩) : kcy C fid imp lvl env loc out d K args := by
  obtain ⟨v, h⟩ := h
  exact kcy_own key (o v) h (hk v)

section
variable {α : Type} {e0 : α} {lt : α → α → Prop}
def gx (e0 : α) (l : List α) (i : Nat) : α := l.getD i e0
theorem gx_eq {l : List α} {i : Nat} (h : i < l.length) : gx e0 l i = l[i] := by
  unfold gx
  rw [List.getD_eq_getElem?_getD, List.getElem?_eq_getElem h]
  rfl
def upToG (e0 : α) (lt : α → α → Prop) (x : List α) (i : Nat) : Prop := ∀ p q, p < q → q < i → ¬ lt (gx e0 x q) (gx e0 x p)
def upButG (e0 : α) (lt : α → α → Prop) (x : List α) (i j : Nat) : Prop := (∀ p q, p < q → q ≤ i → p ≠ j → q ≠ j → ¬ lt (gx e0 x q) (gx e0 x p)) ∧ ∀ q, j < q → q ≤ i → ¬ lt (gx e0 x q) (gx e0 x j)
def swpG (e0 : α) (x : List α) (j : Nat) : List α := (x.set j (gx e0 x (j - 1))).set (j - 1) (gx e0 x j)
theorem gx_set {y : List α} {a b : Nat} {v : α} (h : a < y.length) : gx e0 (y.set a v) b = if a = b then v else gx e0 y b := by
  show (y.set a v).getD b e0 = if a = b then v else y.getD b e0
  rw [List.getD_eq_getElem?_getD, List.getElem?_set, List.getD_eq_getElem?_getD]
  by_cases e : a = b
  · rw [if_pos e, if_pos e, if_pos (by omega)]; rfl
  · rw [if_neg e, if_neg e]
theorem upButG_zero {y : List α} {i : Nat} (h : upButG e0 lt y i 0) : upToG e0 lt y (i + 1) := fun p q h1 h2 => by
  by_cases e : p = 0
  · subst e; exact h.2 q h1 (by omega)
  · exact h.1 p q h1 (by omega) e (by omega)
theorem upButG_stop (tr : ∀ a b c, ¬ lt b a → ¬ lt c b → ¬ lt c a) {y : List α} {i j : Nat} (h : upButG e0 lt y i j) (hj : 0 < j) (hji : j ≤ i) (hle : ¬ lt (gx e0 y j) (gx e0 y (j - 1))) : upToG e0 lt y (i + 1) := fun p q h1 h2 => by
  by_cases e : p = j
  · subst e; exact h.2 q h1 (by omega)
  · by_cases e2 : q = j
    · subst e2
      by_cases e3 : p = q - 1
      · subst e3; exact hle
      · exact tr _ _ _ (h.1 p (q - 1) (by omega) (by omega) e (by omega)) hle
    · exact h.1 p q h1 (by omega) e e2
theorem upButG_swp (asym : ∀ a b, lt a b → ¬ lt b a) {y : List α} {i j : Nat} (h : upButG e0 lt y i j) (hj : 0 < j) (hji : j ≤ i) (hi : i < y.length) (hlt : lt (gx e0 y j) (gx e0 y (j - 1))) : upButG e0 lt (swpG e0 y j) i (j - 1) := by
  have e : ∀ b, gx e0 (swpG e0 y j) b = if j - 1 = b then gx e0 y j else if j = b then gx e0 y (j - 1) else gx e0 y b := fun b => by
    unfold swpG
    rw [gx_set (by rw [List.length_set]; omega), gx_set (by omega)]
  refine ⟨fun p q h1 h2 h3 h4 => ?_, fun q h1 h2 => ?_⟩
  · rw [e p, e q, if_neg (show ¬ j - 1 = p from fun g => h3 g.symm), if_neg (show ¬ j - 1 = q from fun g => h4 g.symm)]
    by_cases ep : j = p
    · rw [if_pos ep, if_neg (show ¬ j = q by omega)]
      exact h.1 (j - 1) q (by omega) h2 (by omega) (by omega)
    · rw [if_neg ep]
      by_cases eq : j = q
      · rw [if_pos eq]
        exact h.1 p (j - 1) (by omega) (by omega) (by omega) (by omega)
      · rw [if_neg eq]
        exact h.1 p q h1 h2 (fun g => ep g.symm) (fun g => eq g.symm)
  · rw [e (j - 1), e q, if_pos rfl, if_neg (show ¬ j - 1 = q by omega)]
    by_cases eq : j = q
    · rw [if_pos eq]; exact asym _ _ hlt
    · rw [if_neg eq]
      exact h.2 q (by omega) h2
theorem swpG_perm {y : List α} {j : Nat} (hj : 0 < j) (hi : j < y.length) : (swpG e0 y j).Perm y := by
  have h := @List.set_set_perm _ y j (j - 1) hi (by omega)
  unfold swpG
  rw [gx_eq hi, gx_eq (by omega)]
  exact h
theorem getX {γ : Type} {c : α → γ} {l : List α} {i : Nat} (h : i < l.length) : (l.map c)[i]? = some (c (gx e0 l i)) := by
  rw [gx_eq h]; simp [h]
end

theorem cz_takeG {α : Type} [DecidableEq α] {e0 : α} {l : List α} : ∀ {n : Nat}, n ≤ l.length → (∀ m, 0 < m → m < n → gx e0 l m ≠ gx e0 l (m - 1)) → cz (gx e0 l) n = l.take n
  | 0, _, _ => by simp [cz]
  | n + 1, hn, h => by
    have ih := cz_takeG (n := n) (by omega) fun m h0 h1 => h m h0 (by omega)
    have hx : cz (gx e0 l) (n + 1) = cz (gx e0 l) n ++ [gx e0 l n] := by
      rw [cz, if_neg (fun e => h n (by omega) (by omega) e.2)]
    rw [hx, ih, List.take_succ_eq_append_getElem (by omega)]
    rw [gx_eq (by omega)]
structure Ords {α : Type} (lt : α → α → Prop) : Prop where
  irr : ∀ a, ¬ lt a a
  tr : ∀ a b c, lt a b → lt b c → lt a c
  tri : ∀ a b, lt a b ∨ a = b ∨ lt b a
theorem Ords.asym {α : Type} {lt : α → α → Prop} (O : Ords lt) (a b : α) (h : lt a b) : ¬ lt b a := fun g => O.irr a (O.tr _ _ _ h g)

section
variable {α : Type} {e0 : α} {lt : α → α → Prop}
theorem eq_of_mem (O : Ords lt) : ∀ {x y : List α}, x.Pairwise lt → y.Pairwise lt → (∀ c, c ∈ x ↔ c ∈ y) → x = y
  | [], [], _, _, _ => rfl
  | [], b :: s, _, _, h => by have := (h b).2 (by simp); simp at this
  | a :: r, [], _, _, h => by have := (h a).1 (by simp); simp at this
  | a :: r, b :: s, hx, hy, h => by
    rw [List.pairwise_cons] at hx hy
    have e : a = b := by
      rcases List.mem_cons.1 ((h a).1 (by simp)) with e | h1
      · exact e
      · rcases List.mem_cons.1 ((h b).2 (by simp)) with e | h2
        · exact e.symm
        · exact absurd (hy.1 a h1) (O.asym _ _ (hx.1 b h2))
    subst e
    congr 1
    refine eq_of_mem O hx.2 hy.2 fun c => ⟨fun hc => ?_, fun hc => ?_⟩
    · rcases List.mem_cons.1 ((h c).1 (by simp [hc])) with e | h1
      · subst e; exact absurd (hx.1 c hc) (O.irr c)
      · exact h1
    · rcases List.mem_cons.1 ((h c).2 (by simp [hc])) with e | h1
      · subst e; exact absurd (hy.1 c hc) (O.irr c)
      · exact h1
theorem perm_eq (O : Ords lt) : ∀ {x y : List α}, x.Pairwise (fun a b => ¬ lt b a) → y.Pairwise (fun a b => ¬ lt b a) → x.Perm y → x = y
  | [], y, _, _, h => by rw [List.nil_perm.1 h]
  | a :: r, [], _, _, h => by have := h.length_eq; simp at this
  | a :: r, b :: s, hx, hy, h => by
    rw [List.pairwise_cons] at hx hy
    have e : a = b := by
      rcases List.mem_cons.1 (h.mem_iff.1 (List.mem_cons_self (a := a) (l := r))) with e | h1
      · exact e
      · rcases List.mem_cons.1 (h.mem_iff.2 (List.mem_cons_self (a := b) (l := s))) with e | h2
        · exact e.symm
        · rcases O.tri a b with g | g | g
          · exact absurd g (hy.1 a h1)
          · exact g
          · exact absurd g (hx.1 b h2)
    subst e
    congr 1
    exact perm_eq O hx.2 hy.2 h.cons_inv
theorem upToG_pw {x : List α} (h : upToG e0 lt x x.length) : x.Pairwise (fun a b => ¬ lt b a) := List.pairwise_iff_getElem.2 fun i j hi hj hij => by
  have := h i j hij hj
  rwa [gx_eq hi, gx_eq hj] at this
noncomputable def srtG (lt : α → α → Prop) (l : List α) : List α := l.mergeSort fun a b => @decide (¬ lt b a) (Classical.propDecidable _)
theorem srtG_perm {l : List α} : (srtG lt l).Perm l := List.mergeSort_perm ..
theorem srtG_pw (O : Ords lt) {l : List α} : (srtG lt l).Pairwise (fun a b => ¬ lt b a) := by
  classical
  have h := List.pairwise_mergeSort (le := fun a b => @decide (¬ lt b a) (Classical.propDecidable _)) (fun a b c h1 h2 => by
    simp only [decide_eq_true_eq] at *
    intro g
    rcases O.tri a b with k | k | k
    · exact h2 (O.tr _ _ _ g k)
    · subst k; exact h2 g
    · exact h1 k) (fun a b => by
    simp only [Bool.or_eq_true, decide_eq_true_eq]
    by_cases g : lt b a
    · exact .inr (O.asym _ _ g)
    · exact .inl g) l
  exact h.imp (fun h => by simpa using h)
theorem srtG_one (O : Ords lt) {l x : List α} (hp : x.Perm l) (hu : upToG e0 lt x l.length) : x = srtG lt l := by
  rw [← hp.length_eq] at hu
  exact perm_eq O (upToG_pw hu) (srtG_pw O) (hp.trans srtG_perm.symm)
theorem cz_mem [DecidableEq α] {g : Nat → α} {c : α} : ∀ {n : Nat}, c ∈ cz g n ↔ ∃ i, i < n ∧ g i = c
  | 0 => by simp [cz]
  | n + 1 => by
    rw [cz, List.mem_append, cz_mem (n := n)]
    constructor
    · rintro (⟨i, h1, h2⟩ | h)
      · exact ⟨i, by omega, h2⟩
      · split at h
        · cases h
        · exact ⟨n, by omega, (List.mem_singleton.1 h).symm⟩
    · rintro ⟨i, h1, h2⟩
      by_cases e : i = n
      · subst e
        by_cases k : i ≠ 0 ∧ g i = g (i - 1)
        · exact .inl ⟨i - 1, by omega, k.2.symm.trans h2⟩
        · rw [if_neg k]; exact .inr (by simp [h2])
      · exact .inl ⟨i, by omega, h2⟩
theorem cz_pw (O : Ords lt) [DecidableEq α] {g : Nat → α} : ∀ {n : Nat}, (∀ i j, i < j → j < n → ¬ lt (g j) (g i)) → (cz g n).Pairwise lt
  | 0, _ => by simp [cz]
  | n + 1, h => by
    have ih := cz_pw O (n := n) fun i j h1 h2 => h i j h1 (by omega)
    by_cases k : n ≠ 0 ∧ g n = g (n - 1)
    · rw [cz_eq k.1 k.2]; exact ih
    · have hx : cz g (n + 1) = cz g n ++ [g n] := by rw [cz, if_neg k]
      rw [hx, List.pairwise_append]
      refine ⟨ih, by simp, fun c hc d hd => ?_⟩
      rw [List.mem_singleton] at hd
      subst hd
      obtain ⟨i, h1, rfl⟩ := cz_mem.1 hc
      have hn0 : n ≠ 0 := by omega
      rcases O.tri (g i) (g n) with e | e | e
      · exact e
      · exfalso
        have e1 : ¬ lt (g n) (g (n - 1)) := h (n - 1) n (by omega) (by omega)
        have e2 : ¬ lt (g (n - 1)) (g i) := by
          by_cases q : i = n - 1
          · subst q; exact O.irr _
          · exact h i (n - 1) (by omega) (by omega)
        rw [e] at e2
        rcases O.tri (g n) (g (n - 1)) with q | q | q
        · exact e1 q
        · exact k ⟨hn0, q⟩
        · exact e2 q
      · exact absurd e (h i n h1 (by omega))
noncomputable def setG [DecidableEq α] (e0 : α) (lt : α → α → Prop) (l : List α) : List α := cz (gx e0 (srtG lt l)) (srtG lt l).length
theorem setG_pw (O : Ords lt) [DecidableEq α] {l : List α} : (setG e0 lt l).Pairwise lt := cz_pw O fun i j h1 h2 => by
  rw [gx_eq h2, gx_eq (Nat.lt_trans h1 h2)]
  exact List.pairwise_iff_getElem.1 (srtG_pw O) i j _ _ h1
theorem setG_mem [DecidableEq α] {l : List α} {c : α} : c ∈ setG e0 lt l ↔ c ∈ l := by
  unfold setG
  rw [cz_mem, ← (srtG_perm (lt := lt) (l := l)).mem_iff]
  constructor
  · rintro ⟨i, h1, h2⟩
    rw [gx_eq h1] at h2
    rw [← h2]; exact List.getElem_mem h1
  · intro h
    obtain ⟨i, h1, h2⟩ := List.getElem_of_mem h
    exact ⟨i, h1, by rw [gx_eq h1]; exact h2⟩
theorem setG_eq (O : Ords lt) [DecidableEq α] {l y : List α} (hy : y.Pairwise lt) (h : ∀ c, c ∈ l ↔ c ∈ y) : setG e0 lt l = y := eq_of_mem O (setG_pw O) hy fun c => setG_mem.trans (h c)
theorem setG_le [DecidableEq α] {l : List α} : (setG e0 lt l).length ≤ l.length := Nat.le_trans (cz_le _ _) (Nat.le_of_eq srtG_perm.length_eq)
end
end Go.Fd

namespace Go.Fd
set_option maxRecDepth 20000

abbrev e0S : ByteArray := ⟨#[]⟩
abbrev gS (l : List ByteArray) (i : Nat) : ByteArray := gx e0S l i
theorem bl_irr : ∀ (x : List UInt8), Op.bytesLess x x = false
  | [] => rfl
  | a :: x => by
    have e : ¬ a < a := UInt8.lt_irrefl a
    simp [Op.bytesLess, e, bl_irr x]
theorem bl_trans : ∀ (x y z : List UInt8), Op.bytesLess x y = true → Op.bytesLess y z = true → Op.bytesLess x z = true
  | [], [], _, h, _ => by simp [Op.bytesLess] at h
  | [], _ :: _, [], _, h => by simp [Op.bytesLess] at h
  | [], _ :: _, _ :: _, _, _ => by simp [Op.bytesLess]
  | _ :: _, [], _, h, _ => by simp [Op.bytesLess] at h
  | _ :: _, _ :: _, [], _, h => by simp [Op.bytesLess] at h
  | a :: x, b :: y, c :: z, h1, h2 => by
    have ih := bl_trans x y z
    have irr : ∀ a : UInt8, ¬ a < a := UInt8.lt_irrefl
    simp only [Op.bytesLess] at h1 h2 ⊢
    by_cases e1 : a = b
    · subst e1
      simp only [irr, decide_false, Bool.false_or, beq_self_eq_true, Bool.true_and, if_true, if_false] at h1
      by_cases e2 : a = c
      · subst e2
        simp [irr] at h1 h2 ⊢
        exact ih h1 h2
      · by_cases l2 : a < c
        · simp [l2]
        · simp [l2, e2] at h2
    · by_cases l1 : a < b
      · by_cases e2 : b = c
        · subst e2; simp [l1]
        · by_cases l2 : b < c
          · simp [UInt8.lt_trans l1 l2]
          · simp [l2, e2] at h2
      · simp [l1, e1] at h1
theorem ordsS : Ords ltS := by
  refine ⟨fun a h => ?_, fun a b c => bl_trans _ _ _, fun a b => ?_⟩
  · unfold ltS at h
    rw [bl_irr] at h
    cases h
  · have h := bl_tri a.data.toList b.data.toList
    unfold ltS
    cases h1 : Op.bytesLess a.data.toList b.data.toList with
    | true => exact .inl rfl
    | false =>
      rw [h1] at h
      cases h2 : Op.bytesLess b.data.toList a.data.toList with
      | true => exact .inr (.inr rfl)
      | false =>
        rw [h2] at h
        refine .inr (.inl ?_)
        have : a.data.toList = b.data.toList := by simpa using h
        cases a with | mk a => cases b with | mk b => exact congrArg ByteArray.mk (Array.toList_inj.1 this)
theorem ltS_asym (a b : ByteArray) (h : ltS a b) : ¬ ltS b a := ordsS.asym a b h
theorem ltS_tr (a b c : ByteArray) (h1 : ¬ ltS b a) (h2 : ¬ ltS c b) : ¬ ltS c a := fun h => by
  rcases ordsS.tri b c with g | g | g
  · exact h1 (ordsS.tr _ _ _ g h)
  · subst g; exact h1 h
  · exact h2 g
theorem setpS {y : List ByteArray} {j : Nat} {v : ByteArray} (h : j < y.length) : setp (rS y) [] j 0 (.v (.string v)) = rS (y.set j v) := by
  simp only [setp]
  rw [getX (e0 := e0S) (c := fun n : ByteArray => [ts n]) h]
  exact (List.map_set (f := fun n : ByteArray => [ts n]) (l := y) (i := j) (a := v)).symm
theorem sem_isNaNS (a : ByteArray) (lvl : Nat) (S : Sto) : Sem Go.Proofs.Tryz.prog fid_cmp_isNaN_string lvl [iS a] S (iB false) S := by
  refine sem_of_chk k_cmp_isNaN_string trivial ?_
  simp only [c_cmp_isNaN_string, EVA, ↓reduceIte, Nat.reduceEqDiff, Nat.reduceMul, reduceCtorEq, Nat.reduceAdd, Nat.reduceSub, Nat.reduceLeDiff, Nat.reduceLT, Int.reduceToNat, Int.reduceLE, Int.reduceLT, mens, men]
theorem sem_LessS (a b : ByteArray) (lvl : Nat) (S : Sto) : Sem Go.Proofs.Tryz.prog fid_cmp_Less_string lvl [iS a, iS b] S (iB (dc (ltS a b))) S := by
  refine sem_of_chk k_cmp_Less_string trivial ?_
  simp only [c_cmp_Less_string, EVA, ↓reduceIte, Nat.reduceEqDiff, Nat.reduceMul, reduceCtorEq, Nat.reduceAdd, Nat.reduceSub, Nat.reduceLeDiff, Nat.reduceLT, Int.reduceToNat, Int.reduceLE, Int.reduceLT, mens, men]
  refine kca_intro (sem_isNaNS a) ?_
  simp only [EVA, ↓reduceIte, Nat.reduceEqDiff, Nat.reduceMul, reduceCtorEq, Nat.reduceAdd, Nat.reduceSub, Nat.reduceLeDiff, Nat.reduceLT, Int.reduceToNat, Int.reduceLE, Int.reduceLT, mens, men]
  have : Op.bytesLess a.data.toList b.data.toList = dc (ltS a b) := by
    unfold ltS
    rw [dc_decide, Bool.decide_eq_true]
  rw [this]

theorem sem_insS (l : List ByteArray) (hl : l.length ≤ 12) (lvl : Nat) (S : Sto) (id : Oid) (u : Bool) (hw ver : Nat) (hid : id.1 < lvl) (hS : S id = some (.ar 1 (rS l) u hw ver)) (srt : List ByteArray) (hsrt : ∀ x : List ByteArray, x.Perm l → upToG e0S ltS x l.length → x = srt) :
    Sem Go.Proofs.Tryz.prog fid_slices_insertionSortOrdered_string lvl [.hd id [] 0 l.length none hw, iI 0, iI l.length] S (.tu []) (sset S id (.ar 1 (rS srt) u hw ver)) := by
  have hne : id.1 ≠ lvl := by omega
  refine sem_of_chk k_slices_insertionSortOrdered_string trivial ?_
  simp only [c_slices_insertionSortOrdered_string, EVA, ↓reduceIte, Nat.reduceEqDiff, Nat.reduceMul, reduceCtorEq, Nat.reduceAdd, Nat.reduceSub, Nat.reduceLeDiff, Nat.reduceLT, Int.reduceToNat, Int.reduceLE, Int.reduceLT, mens, men]
  refine ⟨by rw [fits_i64]; omega, ?_⟩
  refine wp_count (α := List ByteArray) l.length (fun k x => ⟨lvl, [(0, .hd id [] 0 l.length none hw), (1, iI 0), (2, iI l.length), (6, iI ((k + 1 : Nat) : Int))], [], sset S id (.ar 1 (rS x) u hw ver)⟩) (fun k x => x.Perm l ∧ upToG e0S ltS x (k + 1)) l ⟨by simp only [r_okmo hne, EVA, ↓reduceIte, Nat.reduceEqDiff, Nat.reduceMul, reduceCtorEq, Nat.reduceAdd, Nat.reduceSub, Nat.reduceLeDiff, Nat.reduceLT, Int.reduceToNat, Int.reduceLE, Int.reduceLT, mens, men], by (simp only [sset_self hS, EVA, ↓reduceIte, Nat.reduceEqDiff, Nat.reduceMul, reduceCtorEq, Nat.reduceAdd, Nat.reduceSub, Nat.reduceLeDiff, Nat.reduceLT, Int.reduceToNat, Int.reduceLE, Int.reduceLT, mens, men]) <;> rfl⟩ ⟨List.Perm.refl _, fun p q h1 h2 => by omega⟩ ?_
  intro k x hk ⟨hA1, hA2⟩
  have hxl : x.length = l.length := hA1.length_eq
  simp only [EVA, ↓reduceIte, Nat.reduceEqDiff, Nat.reduceMul, reduceCtorEq, Nat.reduceAdd, Nat.reduceSub, Nat.reduceLeDiff, Nat.reduceLT, Int.reduceToNat, Int.reduceLE, Int.reduceLT, mens, men]
  refine ite_of (fun hlt => ?_) (fun hge => ?_)
  · have hk1 : k + 1 < l.length := by omega
    refine wp_count (α := List ByteArray) (k + 1) (fun m y => ⟨lvl, [(0, .hd id [] 0 l.length none hw), (1, iI 0), (2, iI l.length), (6, iI ((k + 1 : Nat) : Int)), (7, iI ((k + 1 - m : Nat) : Int))], [], sset S id (.ar 1 (rS y) u hw ver)⟩) (fun m y => y.Perm l ∧ upButG e0S ltS y (k + 1) (k + 1 - m)) x ⟨by simp only [r_okmo hne, EVA, ↓reduceIte, Nat.reduceEqDiff, Nat.reduceMul, reduceCtorEq, Nat.reduceAdd, Nat.reduceSub, Nat.reduceLeDiff, Nat.reduceLT, Int.reduceToNat, Int.reduceLE, Int.reduceLT, mens, men], by (simp only [EVA, ↓reduceIte, Nat.reduceEqDiff, Nat.reduceMul, reduceCtorEq, Nat.reduceAdd, Nat.reduceSub, Nat.reduceLeDiff, Nat.reduceLT, Int.reduceToNat, Int.reduceLE, Int.reduceLT, mens, men]) <;> rfl⟩ ⟨hA1, fun p q h1 h2 h3 h4 => hA2 p q h1 (by omega), fun q h1 h2 => by omega⟩ ?_
    intro m y hm ⟨hB1, hB2⟩
    have hyl : y.length = l.length := hB1.length_eq
    generalize hj : k + 1 - m = j at hB2 ⊢
    by_cases hj0 : j = 0
    · subst hj0
      simp only [EVA, ↓reduceIte, Nat.reduceEqDiff, Nat.reduceMul, reduceCtorEq, Nat.reduceAdd, Nat.reduceSub, Nat.reduceLeDiff, Nat.reduceLT, Int.reduceToNat, Int.reduceLE, Int.reduceLT, mens, men]
      exact ⟨by rw [fits_i64]; omega, fun h => absurd h hne, cntJ_intro y (by omega) rfl ⟨hB1, upButG_zero hB2⟩⟩
    · have g1 : (0 : Int) < j := by omega
      have e1 : ((j : Int) - 1) = ((j - 1 : Nat) : Int) := by omega
      have gj := getX (e0 := e0S) (c := fun n : ByteArray => [ts n]) (l := y) (i := j) (by omega)
      have gj1 := getX (e0 := e0S) (c := fun n : ByteArray => [ts n]) (l := y) (i := j - 1) (by omega)
      have l1 : j < l.length := by omega
      have l2 : j - 1 < l.length := by omega
      simp only [g1, r_packo hne, r_sset, e1, gj, gj1, l1, l2, Nat.zero_add, EVA, ↓reduceIte, Nat.reduceEqDiff, Nat.reduceMul, reduceCtorEq, Nat.reduceAdd, Nat.reduceSub, Nat.reduceLeDiff, Nat.reduceLT, Int.reduceToNat, Int.reduceLE, Int.reduceLT, mens, men]
      refine ⟨by rw [fits_i64]; omega, kca_intro (sem_LessS (gS y j) (gS y (j - 1))) ?_⟩
      by_cases hlt2 : ltS (gS y j) (gS y (j - 1))
      · rw [dc_true hlt2]
        have s1 := setpS (y := y) (j := j) (v := gS y (j - 1)) (by omega)
        have s2 := setpS (y := y.set j (gS y (j - 1))) (j := j - 1) (v := gS y j) (by rw [List.length_set]; omega)
        have gj2 := getX (e0 := e0S) (c := fun n : ByteArray => [ts n]) (l := y.set j (gS y (j - 1))) (i := j - 1) (by rw [List.length_set]; omega)
        simp only [g1, r_packo hne, r_setObo hne, psset_sset, r_sset, r_okmo hne, e1, gj, gj1, gj2, s1, s2, l1, l2, Nat.zero_add, EVA, ↓reduceIte, Nat.reduceEqDiff, Nat.reduceMul, reduceCtorEq, Nat.reduceAdd, Nat.reduceSub, Nat.reduceLeDiff, Nat.reduceLT, Int.reduceToNat, Int.reduceLE, Int.reduceLT, mens, men]
        subst hj
        refine ⟨by rw [fits_i64]; omega, by rw [fits_i64]; omega, by rw [fits_i64]; omega, cntJ_intro (swpG e0S y (k + 1 - m)) (by omega) (by rw [show k + 1 - (m + 1) = k + 1 - m - 1 from by omega]; rfl) ⟨(swpG_perm (by omega) (by omega)).trans hB1, ?_⟩⟩
        rw [show k + 1 - (m + 1) = k + 1 - m - 1 from by omega]
        exact upButG_swp ltS_asym hB2 (by omega) (by omega) (by omega) hlt2
      · rw [dc_false hlt2]
        simp only [EVA, ↓reduceIte, Nat.reduceEqDiff, Nat.reduceMul, reduceCtorEq, Nat.reduceAdd, Nat.reduceSub, Nat.reduceLeDiff, Nat.reduceLT, Int.reduceToNat, Int.reduceLE, Int.reduceLT, mens, men]
        exact ⟨by rw [fits_i64]; omega, fun h => absurd h hne, cntJ_intro y (by omega) rfl ⟨hB1, upButG_stop ltS_tr hB2 (by omega) (by omega) hlt2⟩⟩
  · have : k + 1 = l.length ∨ k = l.length := by omega
    have hup : upToG e0S ltS x l.length := fun p q h1 h2 => hA2 p q h1 (by omega)
    have hx := hsrt x hA1 hup
    rw [hx]
theorem sem_pdqS (l : List ByteArray) (hl : l.length ≤ 12) (r : Int) (lvl : Nat) (S : Sto) (id : Oid) (u : Bool) (hw ver : Nat) (hid : id.1 < lvl) (hS : S id = some (.ar 1 (rS l) u hw ver)) (srt : List ByteArray) (hsrt : ∀ x : List ByteArray, x.Perm l → upToG e0S ltS x l.length → x = srt) :
    Sem Go.Proofs.Tryz.prog fid_slices_pdqsortOrdered_string lvl [.hd id [] 0 l.length none hw, iI 0, iI l.length, iI r] S (.tu []) (sset S id (.ar 1 (rS srt) u hw ver)) := by
  have hne : id.1 ≠ lvl := by omega
  refine sem_of_chk k_slices_pdqsortOrdered_string trivial ?_
  simp only [c_slices_pdqsortOrdered_string, EVA, ↓reduceIte, Nat.reduceEqDiff, Nat.reduceMul, reduceCtorEq, Nat.reduceAdd, Nat.reduceSub, Nat.reduceLeDiff, Nat.reduceLT, Int.reduceToNat, Int.reduceLE, Int.reduceLT, mens, men]
  refine wp_count (α := Unit) 0 (fun _ _ => ⟨lvl, [(0, .hd id [] 0 l.length none hw), (1, iI 0), (2, iI l.length), (3, iI r), (8, iB true), (9, iB true)], [], S⟩) (fun _ _ => True) () ⟨by simp only [r_okmo hne, EVA, ↓reduceIte, Nat.reduceEqDiff, Nat.reduceMul, reduceCtorEq, Nat.reduceAdd, Nat.reduceSub, Nat.reduceLeDiff, Nat.reduceLT, Int.reduceToNat, Int.reduceLE, Int.reduceLT, mens, men], by (simp only [EVA, ↓reduceIte, Nat.reduceEqDiff, Nat.reduceMul, reduceCtorEq, Nat.reduceAdd, Nat.reduceSub, Nat.reduceLeDiff, Nat.reduceLT, Int.reduceToNat, Int.reduceLE, Int.reduceLT, mens, men]) <;> rfl⟩ trivial ?_
  intro _ _ _ _
  have h12 : (l.length : Int) - 0 ≤ 12 := by omega
  simp only [h12, EVA, ↓reduceIte, Nat.reduceEqDiff, Nat.reduceMul, reduceCtorEq, Nat.reduceAdd, Nat.reduceSub, Nat.reduceLeDiff, Nat.reduceLT, Int.reduceToNat, Int.reduceLE, Int.reduceLT, mens, men]
  refine ⟨by rw [fits_i64]; omega, ?_⟩
  simp only [arg1]
  refine kcy_intro [] (sset S id (.ar 1 (rS srt) u hw ver)) (fun i hi => by unfold sset; rw [if_neg (fun e => hne (by rw [← e]; exact hi))]) (by
    rw [packS_sset hne]
    exact sem_insS l hl (lvl + 1) (packS lvl [] S) id u hw ver (by omega) (by rw [r_packo hne]; exact hS) srt hsrt) ?_
  simp only [r_okmo hne, EVA, ↓reduceIte, Nat.reduceEqDiff, Nat.reduceMul, reduceCtorEq, Nat.reduceAdd, Nat.reduceSub, Nat.reduceLeDiff, Nat.reduceLT, Int.reduceToNat, Int.reduceLE, Int.reduceLT, mens, men]

theorem sem_len64 {v : Int} (h0 : 0 ≤ v) (h : v ≤ 12) : ∃ r : Int, ∀ (lvl : Nat) (S : Sto), Sem Go.Proofs.Tryz.prog fid_math_bits_Len64 lvl [.tr (.v (.int .u64 v))] S (iI r) S := by
  have : v = 0 ∨ v = 1 ∨ v = 2 ∨ v = 3 ∨ v = 4 ∨ v = 5 ∨ v = 6 ∨ v = 7 ∨ v = 8 ∨ v = 9 ∨ v = 10 ∨ v = 11 ∨ v = 12 := by omega
  rcases this with rfl | rfl | rfl | rfl | rfl | rfl | rfl | rfl | rfl | rfl | rfl | rfl | rfl
  · refine ⟨0, fun lvl S => sem_of_chk k_math_bits_Len64 trivial ?_⟩
    simp only [c_math_bits_Len64, EVA, ↓reduceIte, Nat.reduceEqDiff, Nat.reduceMul, reduceCtorEq, Nat.reduceAdd, Nat.reduceSub, Nat.reduceLeDiff, Nat.reduceLT, Int.reduceToNat, Int.reduceLE, Int.reduceLT, mens, men]
    simp [fits, IntKind.min, IntKind.max, IntKind.signed, IntKind.bits]
  · refine ⟨1, fun lvl S => sem_of_chk k_math_bits_Len64 trivial ?_⟩
    simp only [c_math_bits_Len64, EVA, ↓reduceIte, Nat.reduceEqDiff, Nat.reduceMul, reduceCtorEq, Nat.reduceAdd, Nat.reduceSub, Nat.reduceLeDiff, Nat.reduceLT, Int.reduceToNat, Int.reduceLE, Int.reduceLT, mens, men]
    simp [fits, IntKind.min, IntKind.max, IntKind.signed, IntKind.bits]
  · refine ⟨2, fun lvl S => sem_of_chk k_math_bits_Len64 trivial ?_⟩
    simp only [c_math_bits_Len64, EVA, ↓reduceIte, Nat.reduceEqDiff, Nat.reduceMul, reduceCtorEq, Nat.reduceAdd, Nat.reduceSub, Nat.reduceLeDiff, Nat.reduceLT, Int.reduceToNat, Int.reduceLE, Int.reduceLT, mens, men]
    simp [fits, IntKind.min, IntKind.max, IntKind.signed, IntKind.bits]
  · refine ⟨2, fun lvl S => sem_of_chk k_math_bits_Len64 trivial ?_⟩
    simp only [c_math_bits_Len64, EVA, ↓reduceIte, Nat.reduceEqDiff, Nat.reduceMul, reduceCtorEq, Nat.reduceAdd, Nat.reduceSub, Nat.reduceLeDiff, Nat.reduceLT, Int.reduceToNat, Int.reduceLE, Int.reduceLT, mens, men]
    simp [fits, IntKind.min, IntKind.max, IntKind.signed, IntKind.bits]
  · refine ⟨3, fun lvl S => sem_of_chk k_math_bits_Len64 trivial ?_⟩
    simp only [c_math_bits_Len64, EVA, ↓reduceIte, Nat.reduceEqDiff, Nat.reduceMul, reduceCtorEq, Nat.reduceAdd, Nat.reduceSub, Nat.reduceLeDiff, Nat.reduceLT, Int.reduceToNat, Int.reduceLE, Int.reduceLT, mens, men]
    simp [fits, IntKind.min, IntKind.max, IntKind.signed, IntKind.bits]
  · refine ⟨3, fun lvl S => sem_of_chk k_math_bits_Len64 trivial ?_⟩
    simp only [c_math_bits_Len64, EVA, ↓reduceIte, Nat.reduceEqDiff, Nat.reduceMul, reduceCtorEq, Nat.reduceAdd, Nat.reduceSub, Nat.reduceLeDiff, Nat.reduceLT, Int.reduceToNat, Int.reduceLE, Int.reduceLT, mens, men]
    simp [fits, IntKind.min, IntKind.max, IntKind.signed, IntKind.bits]
  · refine ⟨3, fun lvl S => sem_of_chk k_math_bits_Len64 trivial ?_⟩
    simp only [c_math_bits_Len64, EVA, ↓reduceIte, Nat.reduceEqDiff, Nat.reduceMul, reduceCtorEq, Nat.reduceAdd, Nat.reduceSub, Nat.reduceLeDiff, Nat.reduceLT, Int.reduceToNat, Int.reduceLE, Int.reduceLT, mens, men]
    simp [fits, IntKind.min, IntKind.max, IntKind.signed, IntKind.bits]
  · refine ⟨3, fun lvl S => sem_of_chk k_math_bits_Len64 trivial ?_⟩
    simp only [c_math_bits_Len64, EVA, ↓reduceIte, Nat.reduceEqDiff, Nat.reduceMul, reduceCtorEq, Nat.reduceAdd, Nat.reduceSub, Nat.reduceLeDiff, Nat.reduceLT, Int.reduceToNat, Int.reduceLE, Int.reduceLT, mens, men]
    simp [fits, IntKind.min, IntKind.max, IntKind.signed, IntKind.bits]
  · refine ⟨4, fun lvl S => sem_of_chk k_math_bits_Len64 trivial ?_⟩
    simp only [c_math_bits_Len64, EVA, ↓reduceIte, Nat.reduceEqDiff, Nat.reduceMul, reduceCtorEq, Nat.reduceAdd, Nat.reduceSub, Nat.reduceLeDiff, Nat.reduceLT, Int.reduceToNat, Int.reduceLE, Int.reduceLT, mens, men]
    simp [fits, IntKind.min, IntKind.max, IntKind.signed, IntKind.bits]
  · refine ⟨4, fun lvl S => sem_of_chk k_math_bits_Len64 trivial ?_⟩
    simp only [c_math_bits_Len64, EVA, ↓reduceIte, Nat.reduceEqDiff, Nat.reduceMul, reduceCtorEq, Nat.reduceAdd, Nat.reduceSub, Nat.reduceLeDiff, Nat.reduceLT, Int.reduceToNat, Int.reduceLE, Int.reduceLT, mens, men]
    simp [fits, IntKind.min, IntKind.max, IntKind.signed, IntKind.bits]
  · refine ⟨4, fun lvl S => sem_of_chk k_math_bits_Len64 trivial ?_⟩
    simp only [c_math_bits_Len64, EVA, ↓reduceIte, Nat.reduceEqDiff, Nat.reduceMul, reduceCtorEq, Nat.reduceAdd, Nat.reduceSub, Nat.reduceLeDiff, Nat.reduceLT, Int.reduceToNat, Int.reduceLE, Int.reduceLT, mens, men]
    simp [fits, IntKind.min, IntKind.max, IntKind.signed, IntKind.bits]
  · refine ⟨4, fun lvl S => sem_of_chk k_math_bits_Len64 trivial ?_⟩
    simp only [c_math_bits_Len64, EVA, ↓reduceIte, Nat.reduceEqDiff, Nat.reduceMul, reduceCtorEq, Nat.reduceAdd, Nat.reduceSub, Nat.reduceLeDiff, Nat.reduceLT, Int.reduceToNat, Int.reduceLE, Int.reduceLT, mens, men]
    simp [fits, IntKind.min, IntKind.max, IntKind.signed, IntKind.bits]
  · refine ⟨4, fun lvl S => sem_of_chk k_math_bits_Len64 trivial ?_⟩
    simp only [c_math_bits_Len64, EVA, ↓reduceIte, Nat.reduceEqDiff, Nat.reduceMul, reduceCtorEq, Nat.reduceAdd, Nat.reduceSub, Nat.reduceLeDiff, Nat.reduceLT, Int.reduceToNat, Int.reduceLE, Int.reduceLT, mens, men]
    simp [fits, IntKind.min, IntKind.max, IntKind.signed, IntKind.bits]
theorem sem_len {v : Int} (h0 : 0 ≤ v) (h : v ≤ 12) : ∃ r : Int, ∀ (lvl : Nat) (S : Sto), Sem Go.Proofs.Tryz.prog fid_math_bits_Len lvl [.tr (.v (.int .u64 v))] S (iI r) S := by
  obtain ⟨r, hr⟩ := sem_len64 h0 h
  refine ⟨r, fun lvl S => sem_of_chk k_math_bits_Len trivial ?_⟩
  simp only [c_math_bits_Len, EVA, ↓reduceIte, Nat.reduceEqDiff, Nat.reduceMul, reduceCtorEq, Nat.reduceAdd, Nat.reduceSub, Nat.reduceLeDiff, Nat.reduceLT, Int.reduceToNat, Int.reduceLE, Int.reduceLT, mens, men]
  refine kca_intro hr ?_
  simp only [EVA, ↓reduceIte, Nat.reduceEqDiff, Nat.reduceMul, reduceCtorEq, Nat.reduceAdd, Nat.reduceSub, Nat.reduceLeDiff, Nat.reduceLT, Int.reduceToNat, Int.reduceLE, Int.reduceLT, mens, men]

theorem sem_SortS (l : List ByteArray) (hl : l.length ≤ 12) (lvl : Nat) (S : Sto) (id : Oid) (u : Bool) (hw ver : Nat) (hid : id.1 < lvl) (hS : S id = some (.ar 1 (rS l) u hw ver)) (srt : List ByteArray) (hsrt : ∀ x : List ByteArray, x.Perm l → upToG e0S ltS x l.length → x = srt) :
    Sem Go.Proofs.Tryz.prog fid_slices_Sort_string_string lvl [.hd id [] 0 l.length none hw] S (.tu []) (sset S id (.ar 1 (rS srt) u hw ver)) := by
  have hne : id.1 ≠ lvl := by omega
  obtain ⟨r, hr⟩ := sem_len (v := (l.length : Int)) (by omega) (by omega)
  refine sem_of_chk k_slices_Sort_string_string trivial ?_
  simp only [c_slices_Sort_string_string, EVA, ↓reduceIte, Nat.reduceEqDiff, Nat.reduceMul, reduceCtorEq, Nat.reduceAdd, Nat.reduceSub, Nat.reduceLeDiff, Nat.reduceLT, Int.reduceToNat, Int.reduceLE, Int.reduceLT, mens, men]
  refine ⟨⟨by show (0 : Int) ≤ l.length; omega, by show (l.length : Int) ≤ 18446744073709551615; omega⟩, kca_intro hr ?_⟩
  simp only [EVA, ↓reduceIte, Nat.reduceEqDiff, Nat.reduceMul, reduceCtorEq, Nat.reduceAdd, Nat.reduceSub, Nat.reduceLeDiff, Nat.reduceLT, Int.reduceToNat, Int.reduceLE, Int.reduceLT, mens, men]
  refine kcy_intro [] (sset S id (.ar 1 (rS srt) u hw ver)) (fun i hi => by unfold sset; rw [if_neg (fun e => hne (by rw [← e]; exact hi))]) (by
    rw [packS_sset hne]
    exact sem_pdqS l hl r (lvl + 1) (packS lvl [] S) id u hw ver (by omega) (by rw [r_packo hne]; exact hS) srt hsrt) ?_
  simp only [r_okmo hne, EVA, ↓reduceIte, Nat.reduceEqDiff, Nat.reduceMul, reduceCtorEq, Nat.reduceAdd, Nat.reduceSub, Nat.reduceLeDiff, Nat.reduceLT, Int.reduceToNat, Int.reduceLE, Int.reduceLT, mens, men]
theorem sem_CompactS (l : List ByteArray) (hl : l.length ≤ 4294967290) (lvl : Nat) (S : Sto) (id : Oid) (u : Bool) (hw ver : Nat) (hid : id.1 < lvl) (hS : S id = some (.ar 1 (rS l) u hw ver)) :
    ∃ v2, Sem Go.Proofs.Tryz.prog fid_slices_Compact_string_string lvl [.hd id [] 0 l.length none hw] S (.hd id [] 0 (cz (gS l) l.length).length none hw) (sset S id (.ar 1 (rS (cz (gS l) l.length)) u hw v2)) := by
  have hne : id.1 ≠ lvl := by omega
  by_cases hd : ∀ m, 0 < m → m < l.length → gS l m ≠ gS l (m - 1)
  · refine ⟨ver, ?_⟩
    rw [cz_takeG (Nat.le_refl _) hd, List.take_length, sset_self hS]
    refine sem_of_chk k_slices_Compact_string_string hid ?_
    simp only [c_slices_Compact_string_string, EVA, ↓reduceIte, Nat.reduceEqDiff, Nat.reduceMul, reduceCtorEq, Nat.reduceAdd, Nat.reduceSub, Nat.reduceLeDiff, Nat.reduceLT, Int.reduceToNat, Int.reduceLE, Int.reduceLT, mens, men]
    by_cases h2 : (l.length : Int) < 2
    · rw [if_pos h2]
      simp only [r_expc8 hne, EVA, ↓reduceIte, Nat.reduceEqDiff, Nat.reduceMul, reduceCtorEq, Nat.reduceAdd, Nat.reduceSub, Nat.reduceLeDiff, Nat.reduceLT, Int.reduceToNat, Int.reduceLE, Int.reduceLT, mens, men]
    rw [if_neg h2]
    refine wp_count (α := Unit) l.length (fun k _ => ⟨lvl, [(0, .hd id [] 0 l.length none hw), (3, iI ((k + 1 : Nat) : Int))], [], S⟩) (fun k _ => k + 1 ≤ l.length) () ⟨by simp only [r_okmo hne, EVA, ↓reduceIte, Nat.reduceEqDiff, Nat.reduceMul, reduceCtorEq, Nat.reduceAdd, Nat.reduceSub, Nat.reduceLeDiff, Nat.reduceLT, Int.reduceToNat, Int.reduceLE, Int.reduceLT, mens, men], by (simp only [EVA, ↓reduceIte, Nat.reduceEqDiff, Nat.reduceMul, reduceCtorEq, Nat.reduceAdd, Nat.reduceSub, Nat.reduceLeDiff, Nat.reduceLT, Int.reduceToNat, Int.reduceLE, Int.reduceLT, mens, men]) <;> rfl⟩ (by omega) ?_
    intro k _ hk hA
    simp only [EVA, ↓reduceIte, Nat.reduceEqDiff, Nat.reduceMul, reduceCtorEq, Nat.reduceAdd, Nat.reduceSub, Nat.reduceLeDiff, Nat.reduceLT, Int.reduceToNat, Int.reduceLE, Int.reduceLT, mens, men]
    refine ite_of (fun hlt => ?_) (fun hge => ?_)
    · have gj := getX (e0 := e0S) (c := fun n : ByteArray => [ts n]) (l := l) (i := k + 1) (by omega)
      have gj1 := getX (e0 := e0S) (c := fun n : ByteArray => [ts n]) (l := l) (i := k) (by omega)
      have l1 : k + 1 < l.length := by omega
      have l2 : k < l.length := by omega
      have hx := hd (k + 1) (by omega) l1
      rw [Nat.add_sub_cancel] at hx
      have e1 : (((k + 1 : Nat) : Int) - 1) = (k : Int) := by omega
      simp only [r_packo hne, hS, e1, gj, gj1, l1, l2, hx, Nat.zero_add, r_okmo hne, EVA, ↓reduceIte, Nat.reduceEqDiff, Nat.reduceMul, reduceCtorEq, Nat.reduceAdd, Nat.reduceSub, Nat.reduceLeDiff, Nat.reduceLT, Int.reduceToNat, Int.reduceLE, Int.reduceLT, mens, men]
      exact ⟨by rw [fits_i64]; omega, by rw [fits_i64]; omega, cntJ_intro () (by omega) rfl (by omega)⟩
    · simp only [r_expc8 hne, EVA, ↓reduceIte, Nat.reduceEqDiff, Nat.reduceMul, reduceCtorEq, Nat.reduceAdd, Nat.reduceSub, Nat.reduceLeDiff, Nat.reduceLT, Int.reduceToNat, Int.reduceLE, Int.reduceLT, mens, men]
  · refine ⟨ver + 1, ?_⟩
    refine sem_of_chk k_slices_Compact_string_string hid ?_
    simp only [c_slices_Compact_string_string, EVA, ↓reduceIte, Nat.reduceEqDiff, Nat.reduceMul, reduceCtorEq, Nat.reduceAdd, Nat.reduceSub, Nat.reduceLeDiff, Nat.reduceLT, Int.reduceToNat, Int.reduceLE, Int.reduceLT, mens, men]
    by_cases h2 : (l.length : Int) < 2
    · exact absurd (fun m h0 h1 => by omega) hd
    rw [if_neg h2]
    refine wp_count (α := Unit) l.length (fun k _ => ⟨lvl, [(0, .hd id [] 0 l.length none hw), (3, iI ((k + 1 : Nat) : Int))], [], S⟩) (fun k _ => k + 1 ≤ l.length ∧ ∀ m, 0 < m → m < k + 1 → gS l m ≠ gS l (m - 1)) () ⟨by simp only [r_okmo hne, EVA, ↓reduceIte, Nat.reduceEqDiff, Nat.reduceMul, reduceCtorEq, Nat.reduceAdd, Nat.reduceSub, Nat.reduceLeDiff, Nat.reduceLT, Int.reduceToNat, Int.reduceLE, Int.reduceLT, mens, men], by (simp only [EVA, ↓reduceIte, Nat.reduceEqDiff, Nat.reduceMul, reduceCtorEq, Nat.reduceAdd, Nat.reduceSub, Nat.reduceLeDiff, Nat.reduceLT, Int.reduceToNat, Int.reduceLE, Int.reduceLT, mens, men]) <;> rfl⟩ ⟨by omega, fun m h0 h1 => by omega⟩ ?_
    intro k _ hk ⟨hA, hB⟩
    simp only [EVA, ↓reduceIte, Nat.reduceEqDiff, Nat.reduceMul, reduceCtorEq, Nat.reduceAdd, Nat.reduceSub, Nat.reduceLeDiff, Nat.reduceLT, Int.reduceToNat, Int.reduceLE, Int.reduceLT, mens, men]
    refine ite_of (fun hlt => ?_) (fun hge => ?_)
    · have gj := getX (e0 := e0S) (c := fun n : ByteArray => [ts n]) (l := l) (i := k + 1) (by omega)
      have gj1 := getX (e0 := e0S) (c := fun n : ByteArray => [ts n]) (l := l) (i := k) (by omega)
      have l1 : k + 1 < l.length := by omega
      have l2 : k < l.length := by omega
      have e1 : (((k + 1 : Nat) : Int) - 1) = (k : Int) := by omega
      by_cases hx : gS l (k + 1) = gS l k
      · have hc1 := cz_takeG (l := l) (n := k + 1) (by omega) hB
        have hc2 : cz (gS l) (k + 1 + 1) = cz (gS l) (k + 1) := cz_eq (by omega) (by rw [Nat.add_sub_cancel]; exact hx)
        simp only [r_packo hne, hS, e1, gj, gj1, l1, l2, hx, Nat.zero_add, r_okmo hne, EVA, ↓reduceIte, Nat.reduceEqDiff, Nat.reduceMul, reduceCtorEq, Nat.reduceAdd, Nat.reduceSub, Nat.reduceLeDiff, Nat.reduceLT, Int.reduceToNat, Int.reduceLE, Int.reduceLT, mens, men]
        refine ⟨by rw [fits_i64]; omega, by omega, widI hne hS, ?_⟩
        refine wp_count (α := Nat × List ByteArray) l.length (fun m x => ⟨lvl, [(0, .hd id [] 0 l.length none hw), (3, iI (x.1 : Int)), (4, .hd id [] (k + 1) (l.length - (k + 1)) none hw), (5, iI ((m + 1 : Nat) : Int))], [], sset S id (.ar 1 (rS x.2) u hw ver)⟩) (fun m x => k + 1 + m + 1 ≤ l.length ∧ x.2.length = l.length ∧ x.1 = (cz (gS l) (k + 1 + m + 1)).length ∧ x.2.take x.1 = cz (gS l) (k + 1 + m + 1) ∧ x.1 ≤ k + 1 + m ∧ ∀ q, k + 1 + m ≤ q → gS x.2 q = gS l q) (k + 1, l) ⟨by simp only [r_okmo hne, EVA, ↓reduceIte, Nat.reduceEqDiff, Nat.reduceMul, reduceCtorEq, Nat.reduceAdd, Nat.reduceSub, Nat.reduceLeDiff, Nat.reduceLT, Int.reduceToNat, Int.reduceLE, Int.reduceLT, mens, men], by (simp only [sset_self hS, EVA, ↓reduceIte, Nat.reduceEqDiff, Nat.reduceMul, reduceCtorEq, Nat.reduceAdd, Nat.reduceSub, Nat.reduceLeDiff, Nat.reduceLT, Int.reduceToNat, Int.reduceLE, Int.reduceLT, mens, men]) <;> rfl⟩ ⟨by omega, rfl, by rw [Nat.add_zero, hc2, hc1, List.length_take]; omega, by rw [Nat.add_zero, hc2, hc1], by omega, fun _ _ => rfl⟩ ?_
        intro m ⟨i, y⟩ hm ⟨hm1, hy, hi, ht, hle, hq⟩
        dsimp only at hy hi ht hle hq
        simp only [EVA, ↓reduceIte, Nat.reduceEqDiff, Nat.reduceMul, reduceCtorEq, Nat.reduceAdd, Nat.reduceSub, Nat.reduceLeDiff, Nat.reduceLT, Int.reduceToNat, Int.reduceLE, Int.reduceLT, mens, men]
        refine ite_of (fun hlt2 => ?_) (fun hge2 => ?_)
        · have b1 : k + 1 + (m + 1) < l.length := by omega
          have b2 : m + 1 < l.length - (k + 1) := by omega
          have b3 : m < l.length - (k + 1) := by omega
          have gy := getX (e0 := e0S) (c := fun n : ByteArray => [ts n]) (l := y) (i := k + 1 + (m + 1)) (by omega)
          have gy1 := getX (e0 := e0S) (c := fun n : ByteArray => [ts n]) (l := y) (i := k + 1 + m) (by omega)
          have q1 := hq (k + 1 + (m + 1)) (by omega)
          have q2 := hq (k + 1 + m) (by omega)
          have e2 : (((m + 1 : Nat) : Int) - 1) = (m : Int) := by omega
          have b4 : i < l.length := by omega
          by_cases hx2 : gS l (k + 1 + (m + 1)) = gS l (k + 1 + m)
          · have hc3 : cz (gS l) (k + 1 + (m + 1) + 1) = cz (gS l) (k + 1 + m + 1) := cz_eq (by omega) hx2
            simp only [r_packo hne, r_sset, e2, gy, gy1, q1, q2, b2, b3, hx2, r_okmo hne, EVA, ↓reduceIte, Nat.reduceEqDiff, Nat.reduceMul, reduceCtorEq, Nat.reduceAdd, Nat.reduceSub, Nat.reduceLeDiff, Nat.reduceLT, Int.reduceToNat, Int.reduceLE, Int.reduceLT, mens, men]
            exact ⟨by rw [fits_i64]; omega, by rw [fits_i64]; omega, cntJ_intro (i, y) (by omega) rfl ⟨by omega, hy, by rw [show k + 1 + (m + 1) + 1 = k + 1 + (m + 1) + 1 from rfl, hc3]; exact hi, by rw [hc3]; exact ht, by show i ≤ k + 1 + (m + 1); omega, fun q hqq => hq q (by omega)⟩⟩
          · have hc3 : cz (gS l) (k + 1 + (m + 1) + 1) = cz (gS l) (k + 1 + m + 1) ++ [gS l (k + 1 + (m + 1))] := cz_ne hx2
            have s1 := setpS (y := y) (j := i) (v := gS l (k + 1 + (m + 1))) (by omega)
            have gy0 := getX (e0 := e0S) (c := fun n : ByteArray => [ts n]) (l := y) (i := i) (by omega)
            simp only [r_packo hne, r_setObo hne, psset_sset, r_sset, e2, gy, gy0, gy1, q1, q2, b2, b3, b4, hx2, s1, Nat.zero_add, r_okmo hne, EVA, ↓reduceIte, Nat.reduceEqDiff, Nat.reduceMul, reduceCtorEq, Nat.reduceAdd, Nat.reduceSub, Nat.reduceLeDiff, Nat.reduceLT, Int.reduceToNat, Int.reduceLE, Int.reduceLT, mens, men]
            exact ⟨by rw [fits_i64]; omega, by rw [fits_i64]; omega, by rw [fits_i64]; omega, cntJ_intro (i + 1, y.set i (gS l (k + 1 + (m + 1)))) (by omega) rfl ⟨by omega, by rw [List.length_set]; exact hy, by rw [hc3, List.length_append, ← hi]; rfl, by rw [take_set_succ (by omega), ht, hc3], by show i + 1 ≤ k + 1 + (m + 1); omega, fun q hqq => by
              show gx e0S (y.set i (gS l (k + 1 + (m + 1)))) q = _
              rw [gx_set (by omega), if_neg (by omega)]
              exact hq q (by omega)⟩⟩
        · have en : k + 1 + m + 1 = l.length := by omega
          rw [en] at hi ht
          refine ⟨by omega, widI hne (r_sset ..), ?_⟩
          have tk : (rS y).take i = rS (cz (gS l) l.length) := by rw [← ht]; exact (List.map_take ..).symm
          simp only [r_packo hne, r_setObo hne, psset_sset, r_sset, tk, List.length_map, hy, EVA, ↓reduceIte, Nat.reduceEqDiff, Nat.reduceMul, reduceCtorEq, Nat.reduceAdd, Nat.reduceSub, Nat.reduceLeDiff, Nat.reduceLT, Int.reduceToNat, Int.reduceLE, Int.reduceLT, mens, men]
          refine ⟨by omega, by omega, by omega, by omega, widI hne (r_sset ..), ?_⟩
          simp only [r_expc8 hne, Nat.sub_zero, hi, EVA, ↓reduceIte, Nat.reduceEqDiff, Nat.reduceMul, reduceCtorEq, Nat.reduceAdd, Nat.reduceSub, Nat.reduceLeDiff, Nat.reduceLT, Int.reduceToNat, Int.reduceLE, Int.reduceLT, mens, men]
      · simp only [r_packo hne, hS, e1, gj, gj1, l1, l2, hx, Nat.zero_add, r_okmo hne, EVA, ↓reduceIte, Nat.reduceEqDiff, Nat.reduceMul, reduceCtorEq, Nat.reduceAdd, Nat.reduceSub, Nat.reduceLeDiff, Nat.reduceLT, Int.reduceToNat, Int.reduceLE, Int.reduceLT, mens, men]
        exact ⟨by rw [fits_i64]; omega, by rw [fits_i64]; omega, cntJ_intro () (by omega) rfl ⟨by omega, fun m h0 h1 => by
          by_cases e : m = k + 1
          · subst e; exact hx
          · exact hB m h0 (by omega)⟩⟩
    · exact absurd (fun m h0 h1 => hB m h0 (by omega)) hd

end Go.Fd

namespace Go.Fd
open Go.Sort

section
variable {P : Program} {α : Type} [Inhabited α] {enc : α → Value}

abbrev rowE (enc : α → Value) (l : List α) : Row := l.map fun x => [.v (enc x)]
theorem rowE_sub {l : List α} {p : Pth} {es2 : Row} (hp : p ≠ []) : getp (rowE enc l) p ≠ some es2 := fun h => by
  cases p with
  | nil => exact hp rfl
  | cons cd q =>
    obtain ⟨c, d⟩ := cd
    obtain ⟨e, x, h1, h2, _⟩ := getp_cons h
    obtain ⟨n, _, rfl⟩ := List.mem_map.1 (List.mem_of_getElem? h1)
    have := List.mem_of_getElem? h2
    simp at this
theorem rowE_un {l : List α} : UnR 1 (rowE enc l) := UnR_map (fun x => [.v (enc x)]) (fun _ => rfl) l
theorem putCells_size {d : Array α} {off : Nat} {c : Array Value} : (putCells enc off d c).size = c.size := by simp [putCells]
theorem putCells_get {d : List α} {c : Array Value} {i : Nat} (h : i < d.length) (hc : i < c.size) : (putCells enc 0 d.toArray c)[i]? = some (enc d[i]) := by
  simp [putCells, hc, h]

theorem sem_of_order {f : FuncId} {lvl : Nat} {S : Sto} {id : Oid} {xs ys : List α} {u : Bool} {hw ver : Nat} (hc : Callable P f) (hid : id.1 < lvl) (hS : S id = some (.ar 1 (rowE enc xs) u hw ver))
    (hsc : ∀ x : α, scal (enc x) = true) (hl : ys.length = xs.length)
    (h0 : xs = [] → ∀ (a : Option Addr) (cap : Nat) (w : World), Calls P f #[.slice a 0 cap] w fun e w' => e = .returned (.tuple #[]) ∧ ∃ n, w' = Sort.ahead w n)
    (h1 : xs ≠ [] → ∀ (b cap : Nat) (w : World), Holds enc w b 0 xs.toArray → b < w.heap.size → Calls P f #[.slice (some ⟨b, 0, none⟩) xs.length cap] w fun e w' => e = .returned (.tuple #[]) ∧ ∃ n os, w' = grow (putRow enc (Sort.ahead w n) b 0 ys.toArray) os) :
    Sem P f lvl [.hd id [] 0 xs.length none hw] S (.tu []) (sset S id (.ar 1 (rowE enc ys) u hw ver)) := by
  refine ⟨trivial, hc, fun hlow G w vs hok hv => ?_⟩
  simp only [VRs] at hv
  obtain ⟨v, vr, rfl, hv, rfl⟩ := hv
  simp only [VR] at hv
  obtain ⟨⟨a0, c0, hv0, hlc0⟩, k2, es2, u2, hw2, ver2, hs2, _, hrel⟩ := hv
  rw [hS] at hs2; cases hs2
  obtain ⟨es3, k', a, c, hg3, hk, hun, rfl, hlc, hcap, hcap2, hor⟩ := hrel rfl
  cases hg3
  have hk1 := hk rfl
  subst hk1
  by_cases hx : xs = []
  · subst hx
    have hy : ys = [] := List.length_eq_zero_iff.1 (by simpa using hl)
    subst hy
    rw [sset_self hS]
    refine (h0 rfl a c w).mono ?_
    rintro e w' ⟨rfl, n, rfl⟩
    have e : Ext w (Sort.ahead w n) := ⟨Nat.le_refl _, fun _ _ => rfl, rfl, rfl, rfl⟩
    exact ⟨_, G, rfl, hok.ext e, by simp [impv, impvs, VR, VRs], hlow, Frm.of_ext e⟩
  · have hpos : 0 < xs.length := List.length_pos_iff.2 hx
    rcases hor with hz | ⟨hz, _⟩ | ⟨b, cc, hG, rfl, hoc⟩
    · omega
    · exact absurd rfl hz
    · obtain ⟨o1, o2, o3, o4, o5⟩ := hok.obs _ _ hS
      have hr := o4 [] _ (.inl rfl) rfl
      unfold rowR at hr
      rw [hG] at hr
      obtain ⟨k3, cells, ty, g1, g2, g3, g4, g5, g6⟩ := hr
      have hk3 := g1 rfl
      subst hk3
      have hbs : b < w.heap.size := by
        rcases Nat.lt_or_ge b w.heap.size with h | h
        · exact h
        · rw [Array.getElem?_eq_none h] at g3; cases g3
      have hH : Holds enc w b 0 xs.toArray := fun j hj => by
        have hj : j < xs.length := by simpa using hj
        obtain ⟨x, hx1, hx2⟩ := g6 j [.v (enc xs[j])] 0 (.v (enc xs[j])) (by simp [hj]) rfl
        simp only [cellR] at hx2
        obtain ⟨rfl, _⟩ := hx2
        refine ⟨?_, by simp [World.frozen?, g3]⟩
        have : (xs.toArray)[j]! = xs[j] := by simp [hj]
        rw [this, cell_of_row w b (0 + j) cells ty (0, 0) g3]
        simpa using hx1
      refine (h1 hx b c w hH hbs).mono ?_
      rintro e w' ⟨rfl, n, os, rfl⟩
      have hsz : w.heap.size ≤ (grow (putRow enc (Sort.ahead w n) b 0 ys.toArray) os).heap.size := by simp [grow, putRow, mapBlock, Sort.ahead]
      have hheap : ∀ b2, b2 < w.heap.size → b2 ≠ b → (grow (putRow enc (Sort.ahead w n) b 0 ys.toArray) os).heap[b2]? = w.heap[b2]? := fun b2 h2 hne => by
        simp only [grow, putRow, mapBlock, Sort.ahead]
        rw [Array.getElem?_append_left (by simpa using h2), Array.getElem?_modify, if_neg (fun e => hne e.symm)]
      have hrow : (grow (putRow enc (Sort.ahead w n) b 0 ys.toArray) os).heap[b]? = some (.cells (putCells enc 0 ys.toArray cells) ty (0, 0)) := by
        simp only [grow, putRow, mapBlock, Sort.ahead]
        rw [Array.getElem?_append_left (by simpa using hbs), Array.getElem?_modify, if_pos rfl, g3]
        rfl
      have hown : ∀ ob b2, ob = (.ar 1 (rowE enc ys) u hw ver : Ob) → own1 G id ob b2 → b2 = b := fun ob b2 ho h => by
        subst ho
        obtain ⟨p, c2, hp, hq, hg⟩ := h
        by_cases hp0 : p = []
        · subst hp0
          rw [hG] at hg
          cases hg
          rfl
        · obtain ⟨e2, he2⟩ := Option.isSome_iff_exists.1 hq
          exact absurd he2 (rowE_sub hp0)
      have hbown : own1 G id (.ar 1 (rowE enc xs) u hw ver) b := ⟨[], cc, .inl rfl, rfl, hG⟩
      have t : Trn G G S (sset S id (.ar 1 (rowE enc ys) u hw ver)) w (grow (putRow enc (Sort.ahead w n) b 0 ys.toArray) os) (· = id) (fun _ => False) := by
        refine ⟨fun _ _ => rfl, fun i ob hi _ hs => ⟨ob, by unfold sset; rw [if_neg hi]; exact hs, Wk.refl ob⟩, fun i ob hi hs => ⟨fun h => h, ob, by unfold sset at hs; rw [if_neg hi] at hs; exact hs, Wk.refl ob⟩, hsz, fun b2 h2 hn => hheap b2 h2 fun e => hn id _ rfl hS (e ▸ hbown), fun i ob b2 hi hs ho => ?_, fun i ob hi _ hs => ?_⟩
        · subst hi
          unfold sset at hs; rw [if_pos rfl] at hs; cases hs
          have := hown _ b2 rfl ho
          subst this
          exact .inl ⟨i, _, .inl rfl, hS, hbown⟩
        · subst hi
          rw [hS] at hs; cases hs
          refine ⟨.ar 1 (rowE enc ys) u hw ver, by unfold sset; rw [if_pos rfl], rfl, Nat.le_refl _, Nat.le_refl _, fun p st _ hst => ⟨hst, fun es' he => ?_⟩⟩
          by_cases hp0 : p = []
          · subst hp0
            exact ⟨rfl, _, rfl, fun k' hkk _ => by rw [hkk rfl]; exact rowE_un⟩
          · exact absurd he (rowE_sub hp0)
      refine ⟨_, G, rfl, t.ok hok (fun i ob hi hs => ?_) (fun i ob j ob' b hi hj _ _ _ _ => hi.trans hj.symm) (fun i cells hi hs => ?_), by simp [impv, impvs, VR, VRs], fun i ob hs => ?_, t.frm (fun _ h => h.elim) rfl rfl rfl⟩
      · subst hi
        simp only [impv, impvs, addS, sset, if_true] at hs; cases hs
        refine ⟨by rw [List.length_map] at *; omega, rowE_un, o3, fun p es2 hp he => ?_, fun p p' b1 c1 c2 hp hp' g1 g2 g3 g4 => ?_⟩
        · by_cases hp0 : p = []
          · subst hp0
            cases he
            unfold rowR
            rw [hG]
            refine ⟨1, _, ty, fun _ => rfl, rowE_un, hrow, by rw [putCells_size]; exact g4, by rw [List.length_map] at *; omega, fun i e f t hi hf => ?_⟩
            rw [List.getElem?_map] at hi
            obtain ⟨y, hy, rfl⟩ := Option.map_eq_some_iff.1 hi
            obtain ⟨hil, hyy⟩ := List.getElem?_eq_some_iff.1 hy
            have hf0 : f = 0 ∧ t = .v (enc y) := by
              cases f with
              | zero => simp at hf; exact ⟨rfl, hf.symm⟩
              | succ f => simp at hf
            obtain ⟨rfl, rfl⟩ := hf0
            refine ⟨enc y, ?_, rfl, hsc y⟩
            rw [List.length_map] at g5
            rw [show i * 1 + 0 = i from by omega, putCells_get hil (by omega), hyy]
          · exact absurd he (rowE_sub hp0)
        · by_cases hp0 : p = []
          · by_cases hp1 : p' = []
            · rw [hp0, hp1]
            · obtain ⟨e2, he2⟩ := Option.isSome_iff_exists.1 g2
              exact absurd he2 (rowE_sub hp1)
          · obtain ⟨e2, he2⟩ := Option.isSome_iff_exists.1 g1
            exact absurd he2 (rowE_sub hp0)
      · subst hi
        simp only [impv, impvs, addS, sset, if_true] at hs; cases hs
      · simp only [sset] at hs
        split at hs
        · rename_i h; rw [h]; exact hid
        · exact hlow i ob hs
end
end Go.Fd

namespace Go.Fd
set_option maxRecDepth 20000

theorem lt_bl : ∀ (x y : List UInt8), x < y ↔ Op.bytesLess x y = true
  | [], [] => by simp [Op.bytesLess]
  | [], _ :: _ => by simp [Op.bytesLess]
  | _ :: _, [] => by simp [Op.bytesLess]
  | a :: x, b :: y => by
    rw [List.cons_lt_cons_iff, lt_bl x y]
    simp [Op.bytesLess]
abbrev bsL (s : ByteArray) : List UInt8 := s.data.toList
abbrev lbS (l : List UInt8) : ByteArray := ⟨l.toArray⟩
theorem lb_bs {s : ByteArray} : lbS (bsL s) = s := by simp [lbS, bsL]
theorem rowE_S {l : List ByteArray} : rowE Go.Proofs.encStr (l.map bsL) = rS l := by
  simp only [rowE, List.map_map]
  refine List.map_congr_left fun s _ => ?_
  show [Tr.v (Value.string (lbS (bsL s)))] = _
  rw [lb_bs]
theorem sort_S (l : List ByteArray) : (l.map bsL).mergeSort (fun x y => decide (x ≤ y)) = (srtG ltS l).map bsL := by
  have e1 : ((l.map bsL).mergeSort (fun x y => decide (x ≤ y))).map lbS = srtG ltS l := by
    refine perm_eq ordsS ?_ (srtG_pw ordsS) (List.Perm.trans ?_ srtG_perm.symm)
    · rw [List.pairwise_map]
      have h := List.pairwise_mergeSort (le := fun x y : List UInt8 => decide (x ≤ y)) (fun a b c h1 h2 => by simp only [decide_eq_true_eq] at *; exact List.le_trans h1 h2) (fun a b => by simp only [Bool.or_eq_true, decide_eq_true_eq]; exact List.le_total a b) (l.map bsL)
      refine h.imp fun {x y} h => ?_
      simp only [decide_eq_true_eq] at h
      intro hlt
      exact h ((lt_bl y x).2 hlt)
    · have h := (List.mergeSort_perm (l.map bsL) (fun x y => decide (x ≤ y))).map lbS
      rw [List.map_map] at h
      have : l.map (lbS ∘ bsL) = l := by
        rw [show (lbS ∘ bsL) = id from funext fun s => lb_bs]
        exact List.map_id l
      rwa [this] at h
  rw [← e1, List.map_map]
  rw [show (bsL ∘ lbS) = id from funext fun s => by simp [bsL, lbS]]
  exact (List.map_id _).symm
theorem sem_SortS_all (l : List ByteArray) (hl : l.length ≤ 4294967296) (lvl : Nat) (S : Sto) (id : Oid) (u : Bool) (hw ver : Nat) (hid : id.1 < lvl) (hS : S id = some (.ar 1 (rS l) u hw ver)) :
    Sem Go.Proofs.Tryz.prog fid_slices_Sort_string_string lvl [.hd id [] 0 l.length none hw] S (.tu []) (sset S id (.ar 1 (rS (srtG ltS l)) u hw ver)) := by
  by_cases hs : l.length ≤ 12
  · exact sem_SortS l hs lvl S id u hw ver hid hS _ fun x hp hu => srtG_one ordsS hp hu
  · have h := sem_of_order (P := Go.Proofs.Tryz.prog) (f := fid_slices_Sort_string_string) (lvl := lvl) (S := S) (id := id) (xs := l.map bsL) (ys := (srtG ltS l).map bsL) (enc := Go.Proofs.encStr) (u := u) (hw := hw) (ver := ver) (callB_ok (by kernel_rfl)) hid (by rw [rowE_S]; exact hS) (fun _ => rfl) (by rw [List.length_map, List.length_map, srtG_perm.length_eq])
      (fun h => absurd (congrArg List.length h) (by rw [List.length_map]; show ¬ l.length = 0; omega))
      (fun _ b cap w hH hb => by
        have := Go.Proofs.Any.slices_Sort_string Go.Proofs.Tryz.lays190 b 0 cap (l.map bsL) w hH hb (by rw [List.length_map]; omega)
        rw [sort_S] at this
        exact this)
    rw [rowE_S, List.length_map] at h
    exact h
end Go.Fd

namespace Go.Fd
set_option maxRecDepth 20000

def rowP (l : Int) (i : Nat) (ls : List Int) : Nat → List (Int × Int)
  | 0 => []
  | k + 1 => if g0 ls k = l then rowP l i ls k ++ [((i : Int), (k : Int))] else rowP l i ls k
def linksAt (b : TBigraph) (j : Nat) : List Int := ((b.nodes[j]?).map TNode.links).getD []
def portsN (b : TBigraph) (l : Int) : Nat → List (Int × Int)
  | 0 => []
  | i + 1 => portsN b l i ++ rowP l i (linksAt b i) (linksAt b i).length
def ports (b : TBigraph) (l : Int) : List (Int × Int) := portsN b l b.nodes.length

def wlAt (b : TBigraph) (j : Nat) : Int := ((b.inner[j]?).map TWire.link).getD 0
def wnAt (b : TBigraph) (j : Nat) : ByteArray := ((b.inner[j]?).map TWire.name).getD ⟨#[]⟩
def endsN (b : TBigraph) (l : Int) : Nat → List ByteArray
  | 0 => []
  | j + 1 => if wlAt b j = l then endsN b l j ++ [wnAt b j] else endsN b l j
def ends (b : TBigraph) (l : Int) : List ByteArray := endsN b l b.inner.length

end Go.Fd

namespace Go.Fd
set_option maxRecDepth 20000

def idle (b : TBigraph) (l : Int) : Prop := (ports b l).length = 0 ∧ (ends b l).length = 0

structure small (b : TBigraph) : Prop where
  nodes : b.nodes.length ≤ 8
  links : ∀ x ∈ b.nodes, x.links.length ≤ 1000
  sites : b.sites.length ≤ 4
  outer : b.outer.length ≤ 16
  inner : b.inner.length ≤ 16
  roots : 0 ≤ b.roots ∧ b.roots ≤ 4
  edges : 0 ≤ b.edges ∧ b.edges ≤ 8

theorem portsAt_le {sig : List TControl} (h : sigOK sig) (c : Int) : portsAt sig c ≤ 3 := by
  unfold portsAt
  cases e : sig[c.toNat]? with
  | none => decide
  | some x =>
    obtain ⟨hl, rfl⟩ := List.getElem?_eq_some_iff.1 e
    exact ((h.1 _ hl).1).2.1.2

theorem bigOK.small {sig : List TControl} {b : TBigraph} (h : bigOK sig b) : small b :=
  ⟨h.nodesL, fun x hx => by
    obtain ⟨k, hk, rfl⟩ := List.getElem_of_mem hx
    have h1 := (h.nodes k hk).ports
    have h2 := portsAt_le h.sg b.nodes[k].control
    omega, h.sitesL, h.outer.2, by have := h.inn.2; rw [inn_len] at this; exact this, h.roots, h.edges⟩

end Go.Fd

namespace Go.Fd
set_option maxRecDepth 20000

def upto (n : Nat) : List Int := (List.range n).map fun i : Nat => (i : Int)

theorem upto_len {n : Nat} : (upto n).length = n := by simp [upto]

theorem cut_all {es : Row} {n : Nat} (h : es.length = n) : cut es 0 n = es := by
  simp only [cut, List.drop_zero]
  exact List.take_of_length_le (by omega)

end Go.Fd

namespace Go.Fd
set_option maxRecDepth 20000

def endB (b : TBigraph) (l : Int) : Int × ByteArray := if l < b.edges then (l, e0S) else (0, gS b.outer (l - b.edges).toNat)
def ixS (l : List ByteArray) (s : ByteArray) : Int := ixF (fun x => decide (s = x)) l 0
def relF (b : TBigraph) (e : Int) (o : List ByteArray) (T : Int × ByteArray → Int × ByteArray) (l : Int) : Int := if (T (endB b l)).2 = e0S then (T (endB b l)).1 else e + ixS o (T (endB b l)).2
def mapB (b : TBigraph) (F : Int → Int) (e : Int) (o : List ByteArray) : TBigraph := ⟨b.roots, b.nodes.map fun x => ⟨x.control, x.parent, x.links.map F⟩, b.sites, e, o, b.inner.map fun w => ⟨w.name, F w.link⟩⟩

theorem ixF_spec {α : Type} {f : α → Bool} : ∀ {l : List α} {j : Int}, (ixF f l j = -1 ∧ ∀ x ∈ l, f x = false) ∨ ∃ i, ∃ h : i < l.length, ixF f l j = j + i ∧ (∀ x ∈ l.take i, f x = false) ∧ f l[i] = true
  | [], j => .inl ⟨rfl, fun _ h => by cases h⟩
  | x :: r, j => by
    rw [ixF_cons]
    cases hx : f x with
    | true => exact .inr ⟨0, by simp, by simp, by simp, hx⟩
    | false =>
      rcases ixF_spec (f := f) (l := r) (j := j + 1) with ⟨h1, h2⟩ | ⟨i, h, h1, h2, h3⟩
      · exact .inl ⟨by simp [h1], fun y hy => by
          rcases List.mem_cons.1 hy with rfl | hy
          · exact hx
          · exact h2 y hy⟩
      · refine .inr ⟨i + 1, by simpa using h, by simp only [Bool.false_eq_true, if_false, h1]; omega, fun y hy => ?_, by simpa using h3⟩
        rw [List.take_succ_cons] at hy
        rcases List.mem_cons.1 hy with rfl | hy
        · exact hx
        · exact h2 y hy
theorem ixF_at {α : Type} {f : α → Bool} : ∀ {l : List α} {i : Nat} {j : Int} (h : i < l.length), f l[i] = true → (∀ k (hk : k < i), f (l[k]'(by omega)) = false) → ixF f l j = j + i
  | [], _, _, h, _, _ => by simp at h
  | x :: r, 0, j, _, h1, _ => by
    have : f x = true := h1
    rw [ixF_cons, if_pos this]; omega
  | x :: r, i + 1, j, h, h1, h2 => by
    have : f x = false := h2 0 (by omega)
    rw [ixF_cons, this, if_neg (by decide)]
    rw [ixF_at (i := i) (by simpa using h) (by simpa using h1) fun k hk => by
      have := h2 (k + 1) (by omega)
      simpa using this]
    omega
theorem ixF_none {α : Type} {f : α → Bool} : ∀ {l : List α} {j : Int}, (∀ x ∈ l, f x = false) → ixF f l j = -1
  | [], _, _ => rfl
  | x :: r, j, h => by
    rw [ixF_cons, h x (by simp), if_neg (by decide)]
    exact ixF_none fun y hy => h y (by simp [hy])
theorem pw_ne {l : List ByteArray} (h : l.Pairwise ltS) {i j : Nat} (hi : i < l.length) (hj : j < l.length) (e : l[i] = l[j]) : i = j := by
  rcases Nat.lt_trichotomy i j with g | g | g
  · have := List.pairwise_iff_getElem.1 h i j hi hj g
    rw [e] at this
    exact absurd this (ordsS.irr _)
  · exact g
  · have := List.pairwise_iff_getElem.1 h j i hj hi g
    rw [e] at this
    exact absurd this (ordsS.irr _)
theorem ixS_at {l : List ByteArray} (h : l.Pairwise ltS) {i : Nat} (hi : i < l.length) : ixS l l[i] = i := by
  unfold ixS
  rw [ixF_at hi (by simp) fun k hk => by
    simp only [decide_eq_false_iff_not]
    intro e
    have := pw_ne h hi (by omega) e
    omega]
  omega
theorem ixS_no {l : List ByteArray} {s : ByteArray} (h : s ∉ l) : ixS l s = -1 := ixF_none fun x hx => by
  simp only [decide_eq_false_iff_not]
  intro e
  exact h (e ▸ hx)
theorem ixS_nn {l : List ByteArray} {s : ByteArray} : 0 ≤ ixS l s ↔ s ∈ l := by
  unfold ixS
  rw [ixF_any (Int.le_refl 0)]
  simp
theorem ixS_lt {l : List ByteArray} {s : ByteArray} (h : s ∈ l) : ixS l s < l.length := by
  rcases ixF_spec (f := fun x => decide (s = x)) (l := l) (j := 0) with ⟨_, h2⟩ | ⟨i, hi, h1, _⟩
  · have := h2 s h
    simp at this
  · unfold ixS
    rw [h1]; omega
theorem names_pw {l : List ByteArray} (h : namesOK l) : l.Pairwise ltS := by
  have key : ∀ d i (hi : i + d + 1 < l.length), ltS (l[i]'(by omega)) (l[i + d + 1]'hi) := fun d => by
    induction d with
    | zero =>
      intro i hi
      exact (h.1 (i + 0 + 1) hi).2 (by omega)
    | succ d ih =>
      intro i hi
      have h1 := ih i (by omega)
      have h2 := (h.1 (i + (d + 1) + 1) hi).2 (by omega)
      exact ordsS.tr _ _ _ h1 h2
  refine List.pairwise_iff_getElem.2 fun i j hi hj hij => ?_
  have := key (j - i - 1) i (by omega)
  simp only [show i + (j - i - 1) + 1 = j from by omega] at this
  exact this
theorem names_ne {l : List ByteArray} (h : namesOK l) {s : ByteArray} (hs : s ∈ l) : s ≠ e0S := by
  obtain ⟨i, hi, rfl⟩ := List.getElem_of_mem hs
  intro e
  have := (h.1 i hi).1.2.1
  rw [e] at this
  exact absurd this (by decide)
theorem endB_e {b : TBigraph} {l : Int} (h : l < b.edges) : endB b l = (l, e0S) := if_pos h
theorem endB_n {b : TBigraph} {i : Nat} (h : i < b.outer.length) : endB b (b.edges + i) = (0, b.outer[i]) := by
  unfold endB
  rw [if_neg (by omega), show (b.edges + (i : Int) - b.edges).toNat = i from by omega]
  rw [show gS b.outer i = b.outer[i] from gx_eq h]
theorem link_cases {b : TBigraph} {l : Int} (h : linkOK b l) : (0 ≤ l ∧ l < b.edges) ∨ ∃ i : Nat, ∃ _ : i < b.outer.length, l = b.edges + i := by
  unfold linkOK at h
  by_cases hl : l < b.edges
  · exact .inl ⟨h.1, hl⟩
  · exact .inr ⟨(l - b.edges).toNat, by omega, by omega⟩

def tabL (b : TBigraph) (f : Int → Int) (g : ByteArray → Int) : List Int := (upto b.edges.toNat).map f ++ b.outer.map g
theorem tabL_e {b : TBigraph} {f : Int → Int} {g : ByteArray → Int} {l : Int} (h0 : 0 ≤ l) (h : l < b.edges) : g0 (tabL b f g) l.toNat = f l := by
  have hl : l.toNat < (upto b.edges.toNat).length := by rw [upto_len]; omega
  have hx : l.toNat < ((upto b.edges.toNat).map f).length := by rw [List.length_map]; exact hl
  show (tabL b f g).getD l.toNat 0 = _
  unfold tabL
  rw [List.getD_eq_getElem?_getD, List.getElem?_append_left hx, List.getElem?_map]
  simp [upto, List.getElem?_map, List.getElem?_range (show l.toNat < b.edges.toNat by omega)]
  congr 1
  omega
theorem tabL_n {b : TBigraph} {f : Int → Int} {g : ByteArray → Int} (hb : 0 ≤ b.edges) {i : Nat} (h : i < b.outer.length) : g0 (tabL b f g) (b.edges + i).toNat = g b.outer[i] := by
  have hl : ((upto b.edges.toNat).map f).length = b.edges.toNat := by rw [List.length_map, upto_len]
  show (tabL b f g).getD _ 0 = _
  unfold tabL
  rw [List.getD_eq_getElem?_getD, List.getElem?_append_right (by rw [hl]; omega), hl, List.getElem?_map, show (b.edges + (i : Int)).toNat - b.edges.toNat = i from by omega, List.getElem?_eq_getElem h]
  rfl

noncomputable def setS (l : List ByteArray) : List ByteArray := setG e0S ltS l
end Go.Fd

namespace Go.Fd
set_option maxRecDepth 20000

theorem scrS {l : List ByteArray} : ScR (rS l) = True := eq_true fun e he t ht => by
  obtain ⟨n, _, rfl⟩ := List.mem_map.1 he
  simp only [List.mem_cons, List.not_mem_nil, or_false] at ht
  subst ht
  rfl
theorem unrS {l : List ByteArray} : UnR 1 (rS l) = True := eq_true (UnR_map (fun n : ByteArray => [ts n]) (fun _ => rfl) l)
theorem scrI3 {l : List Int} : ScR (rI l) = True := eq_true fun e he t ht => by
  obtain ⟨n, _, rfl⟩ := List.mem_map.1 he
  simp only [List.mem_cons, List.not_mem_nil, or_false] at ht
  subst ht
  rfl
theorem unrI3 {l : List Int} : UnR 1 (rI l) = True := eq_true (UnR_map (fun n : Int => [tv n]) (fun _ => rfl) l)
theorem scrW {l : List TWire} : ScR (l.map cWire) = True := eq_true fun e he t ht => by
  obtain ⟨n, _, rfl⟩ := List.mem_map.1 he
  simp only [cWire, List.mem_cons, List.not_mem_nil, or_false] at ht
  rcases ht with rfl | rfl <;> rfl
theorem unrW {l : List TWire} : UnR 2 (l.map cWire) = True := eq_true (UnR_map cWire (fun _ => rfl) l)
theorem sem_CloneI3 (l : List Int) (hl : l.length ≤ 4294967296) (lvl : Nat) (S : Sto) : Sem Go.Proofs.Tryz.prog fid_slices_Clone_int_int lvl [tI l] S (.ow 1 (rI l) true) S := by
  refine sem_of_chk k_slices_Clone_int_int trivial ?_
  simp only [c_slices_Clone_int_int, List.length_map, scrI3, unrI3, EVA, ↓reduceIte, Nat.reduceEqDiff, Nat.reduceMul, reduceCtorEq, Nat.reduceAdd, Nat.reduceSub, Nat.reduceLeDiff, Nat.reduceLT, Int.reduceToNat, Int.reduceLE, Int.reduceLT, mens, men]
  exact ⟨hl, fun h => by rw [h]⟩
theorem sem_CloneS (l : List ByteArray) (hl : l.length ≤ 4294967296) (lvl : Nat) (S : Sto) : Sem Go.Proofs.Tryz.prog fid_slices_Clone_string_string lvl [.tr (.sl (rS l))] S (.ow 1 (rS l) true) S := by
  refine sem_of_chk k_slices_Clone_string_string trivial ?_
  simp only [c_slices_Clone_string_string, List.length_map, scrS, unrS, EVA, ↓reduceIte, Nat.reduceEqDiff, Nat.reduceMul, reduceCtorEq, Nat.reduceAdd, Nat.reduceSub, Nat.reduceLeDiff, Nat.reduceLT, Int.reduceToNat, Int.reduceLE, Int.reduceLT, mens, men]
  exact ⟨hl, fun h => by rw [h]⟩
theorem sem_CloneW (l : List TWire) (hl : l.length ≤ 4294967296) (lvl : Nat) (S : Sto) : Sem Go.Proofs.Tryz.prog fid_slices_Clone_impl_Wire_impl_Wire lvl [.tr (.sl (l.map cWire))] S (.ow 2 (l.map cWire) true) S := by
  refine sem_of_chk k_slices_Clone_impl_Wire_impl_Wire trivial ?_
  simp only [c_slices_Clone_impl_Wire_impl_Wire, List.length_map, scrW, unrW, EVA, ↓reduceIte, Nat.reduceEqDiff, Nat.reduceMul, reduceCtorEq, Nat.reduceAdd, Nat.reduceSub, Nat.reduceLeDiff, Nat.reduceLT, Int.reduceToNat, Int.reduceLE, Int.reduceLT, mens, men]
  exact ⟨hl, fun h => by rw [h]⟩
theorem sem_sortedNames (l : List ByteArray) (hl : l.length ≤ 4294967290) (lvl : Nat) (S : Sto) : Sem Go.Proofs.Tryz.prog fid_impl_sortedNames lvl [.tr (.sl (rS l))] S (.ow 1 (rS (setS l)) true) S := by
  refine sem_of_chk k_impl_sortedNames trivial ?_
  simp only [c_impl_sortedNames, EVA, ↓reduceIte, Nat.reduceEqDiff, Nat.reduceMul, reduceCtorEq, Nat.reduceAdd, Nat.reduceSub, Nat.reduceLeDiff, Nat.reduceLT, Int.reduceToNat, Int.reduceLE, Int.reduceLT, mens, men]
  refine kca_intro (sem_CloneS l (by omega)) ?_
  simp only [EVA, ↓reduceIte, Nat.reduceEqDiff, Nat.reduceMul, reduceCtorEq, Nat.reduceAdd, Nat.reduceSub, Nat.reduceLeDiff, Nat.reduceLT, Int.reduceToNat, Int.reduceLE, Int.reduceLT, mens, men]
  have hp : (srtG ltS l).length = l.length := srtG_perm.length_eq
  have s1 := fun S' hS => sem_SortS_all l (by omega) (lvl + 1) S' (lvl, 160) true l.length 0 (Nat.lt_succ_self _) hS
  refine kcy_own 160 _ (s1 _ ?_) ?_
  · rw [r_pack]; rfl
  simp only [EVA, ↓reduceIte, Nat.reduceEqDiff, Nat.reduceMul, reduceCtorEq, Nat.reduceAdd, Nat.reduceSub, Nat.reduceLeDiff, Nat.reduceLT, Int.reduceToNat, Int.reduceLE, Int.reduceLT, mens, men]
  have s2 := fun S' hS => sem_CompactS (srtG ltS l) (by omega) (lvl + 1) S' (lvl, 160) true l.length 0 (Nat.lt_succ_self _) hS
  rw [show arg1 (IV.hd (lvl, 160) [] 0 l.length none l.length) = IV.hd (lvl, 160) [] 0 (srtG ltS l).length none l.length from by rw [hp]; rfl]
  refine kcy_ownx 160 _ (s2 _ ?_) fun v => ?_
  · rw [r_pack]; rfl
  simp only [List.length_map, EVA, ↓reduceIte, Nat.reduceEqDiff, Nat.reduceMul, reduceCtorEq, Nat.reduceAdd, Nat.reduceSub, Nat.reduceLeDiff, Nat.reduceLT, Int.reduceToNat, Int.reduceLE, Int.reduceLT, mens, men]
  rfl
abbrev oE (e : Int × ByteArray) : IV := .ag [iI e.1, iS e.2]
theorem sem_endOf (b : TBigraph) (l : Int) (he : 0 ≤ b.edges) (hl : linkOK b l) (ho : b.outer.length ≤ 4294967296) (hb : b.edges ≤ 4294967296) (lvl : Nat) (S : Sto) : Sem Go.Proofs.Tryz.prog fid_impl_Bigraph_endOf lvl [.ag ((cBigraph b).map .tr), iI l] S (oE (endB b l)) S := by
  refine sem_of_chk k_impl_Bigraph_endOf (by simp [low, men, mens]) ?_
  simp only [c_impl_Bigraph_endOf, cBigraph, EVA, ↓reduceIte, Nat.reduceEqDiff, Nat.reduceMul, reduceCtorEq, Nat.reduceAdd, Nat.reduceSub, Nat.reduceLeDiff, Nat.reduceLT, Int.reduceToNat, Int.reduceLE, Int.reduceLT, mens, men]
  rcases link_cases hl with ⟨h0, h1⟩ | ⟨i, hi, rfl⟩
  · rw [endB_e h1]
    simp only [h1, EVA, ↓reduceIte, Nat.reduceEqDiff, Nat.reduceMul, reduceCtorEq, Nat.reduceAdd, Nat.reduceSub, Nat.reduceLeDiff, Nat.reduceLT, Int.reduceToNat, Int.reduceLE, Int.reduceLT, mens, men]
    try rfl
  · rw [endB_n hi]
    have h1 : ¬ b.edges + (i : Int) < b.edges := by omega
    have ga := getX (e0 := e0S) (c := fun n : ByteArray => [ts n]) hi
    have e1 : b.edges + (i : Int) - b.edges = i := by omega
    rw [gx_eq hi] at ga
    simp only [h1, e1, ga, EVA, ↓reduceIte, Nat.reduceEqDiff, Nat.reduceMul, reduceCtorEq, Nat.reduceAdd, Nat.reduceSub, Nat.reduceLeDiff, Nat.reduceLT, Int.reduceToNat, Int.reduceLE, Int.reduceLT, mens, men]
    rw [fits_i64]; omega
theorem sem_ownBigraph (b : TBigraph) (hb : bdBigraph 4294967290 b) (lvl : Nat) (S : Sto) : Sem Go.Proofs.Tryz.prog fid_impl_ownBigraph lvl [.ag ((cBigraph b).map .tr)] S (oBigraph b) S := by
  obtain ⟨b1, b2, b3, b4, b5, b6, b7⟩ := hb
  refine sem_of_chk k_impl_ownBigraph (by simp [oBigraph, low, men, mens]) ?_
  simp only [c_impl_ownBigraph, cBigraph, EVA, ↓reduceIte, Nat.reduceEqDiff, Nat.reduceMul, reduceCtorEq, Nat.reduceAdd, Nat.reduceSub, Nat.reduceLeDiff, Nat.reduceLT, Int.reduceToNat, Int.reduceLE, Int.reduceLT, mens, men]
  refine kca_intro (sem_CloneI3 b.sites (by omega)) ?_
  simp only [List.length_map, EVA, ↓reduceIte, Nat.reduceEqDiff, Nat.reduceMul, reduceCtorEq, Nat.reduceAdd, Nat.reduceSub, Nat.reduceLeDiff, Nat.reduceLT, Int.reduceToNat, Int.reduceLE, Int.reduceLT, mens, men]
  refine kca_intro (sem_CloneS b.outer (by omega)) ?_
  simp only [List.length_map, EVA, ↓reduceIte, Nat.reduceEqDiff, Nat.reduceMul, reduceCtorEq, Nat.reduceAdd, Nat.reduceSub, Nat.reduceLeDiff, Nat.reduceLT, Int.reduceToNat, Int.reduceLE, Int.reduceLT, mens, men]
  refine kca_intro (sem_CloneW b.inner (by omega)) ?_
  simp only [List.length_map, EVA, ↓reduceIte, Nat.reduceEqDiff, Nat.reduceMul, reduceCtorEq, Nat.reduceAdd, Nat.reduceSub, Nat.reduceLeDiff, Nat.reduceLT, Int.reduceToNat, Int.reduceLE, Int.reduceLT, mens, men]
  refine wp_cnt (α := Unit) b.nodes.length (fun j _ => [(23, iI j)]) (fun j _ => [(96, .bx [iI b.roots, .hd (lvl, 608) [] 0 j none j, .hd (lvl, 320) [] 0 b.sites.length none b.sites.length, iI b.edges, .hd (lvl, 480) [] 0 b.outer.length none b.outer.length, .hd (lvl, 576) [] 0 b.inner.length none b.inner.length]), (608, .ar 3 ((b.nodes.take j).map cNode) true j 0)]) (fun _ _ => True) () (by simp only [EVA, ↓reduceIte, Nat.reduceEqDiff, Nat.reduceMul, reduceCtorEq, Nat.reduceAdd, Nat.reduceSub, Nat.reduceLeDiff, Nat.reduceLT, Int.reduceToNat, Int.reduceLE, Int.reduceLT, mens, men]) (by (simp only [EVA, ↓reduceIte, Nat.reduceEqDiff, Nat.reduceMul, reduceCtorEq, Nat.reduceAdd, Nat.reduceSub, Nat.reduceLeDiff, Nat.reduceLT, Int.reduceToNat, Int.reduceLE, Int.reduceLT, mens, men]) <;> rfl) trivial ?_
  intro j _ hj _
  simp only [List.length_map, EVA, ↓reduceIte, Nat.reduceEqDiff, Nat.reduceMul, reduceCtorEq, Nat.reduceAdd, Nat.reduceSub, Nat.reduceLeDiff, Nat.reduceLT, Int.reduceToNat, Int.reduceLE, Int.reduceLT, mens, men]
  refine ite_of (fun hlt => ?_) (fun hge => ?_)
  · have hja : j < b.nodes.length := by omega
    have ga := getA (c := cNode) hja
    have k2 : b.nodes[j].links.length ≤ 4294967290 := b2 _ (List.getElem_mem hja)
    have hl1 : ((b.nodes.take j).map cNode).length = j := by rw [List.length_map, List.length_take]; omega
    have st1 : (b.nodes.take j).map cNode ++ [[Tr.v (Value.int .i64 b.nodes[j].control), Tr.v (Value.int .i64 b.nodes[j].parent), Tr.sl (rI b.nodes[j].links)]] = (b.nodes.take (j + 1)).map cNode := by
      rw [List.take_succ_eq_append_getElem hja, List.map_append]
      rfl
    simp only [ga, hja, cNode, EVA, ↓reduceIte, Nat.reduceEqDiff, Nat.reduceMul, reduceCtorEq, Nat.reduceAdd, Nat.reduceSub, Nat.reduceLeDiff, Nat.reduceLT, Int.reduceToNat, Int.reduceLE, Int.reduceLT, mens, men]
    refine kca_intro (sem_CloneI3 b.nodes[j].links (by omega)) ?_
    have hl2 : (List.map (fun x => [Tr.v (Value.int .i64 x.control), Tr.v (Value.int .i64 x.parent), Tr.sl (rI x.links)]) (b.nodes.take j)).length = j := by rw [List.length_map, List.length_take]; omega
    simp only [hl1, st1, cNode, EVA, ↓reduceIte, Nat.reduceEqDiff, Nat.reduceMul, reduceCtorEq, Nat.reduceAdd, Nat.reduceSub, Nat.reduceLeDiff, Nat.reduceLT, Int.reduceToNat, Int.reduceLE, Int.reduceLT, mens, men]
    exact ⟨by omega, by rw [fits_i64]; omega, cntJ_intro () hja rfl trivial⟩
  · have : j = b.nodes.length := by omega
    subst this
    rw [List.take_length]
    exact ⟨rfl, rfl⟩
end Go.Fd

namespace Go.Fd
set_option maxRecDepth 20000

theorem sem_l2At (l : List ByteArray) (s : ByteArray) (hl : l.length ≤ 4294967296) (lvl : Nat) (S : Sto) : Sem Go.Proofs.Tryz.prog fid_spec_l2At lvl [.tr (.sl (rS l)), iS s] S (iI (ixS l s)) S := by
  refine sem_of_chk k_spec_l2At trivial ?_
  simp only [c_spec_l2At, List.length_map, EVA, ↓reduceIte, Nat.reduceEqDiff, Nat.reduceMul, reduceCtorEq, Nat.reduceAdd, Nat.reduceSub, Nat.reduceLeDiff, Nat.reduceLT, Int.reduceToNat, Int.reduceLE, Int.reduceLT, mens, men]
  refine wp_cnt (α := Unit) l.length (fun j _ => [(5, iI j)]) (fun _ _ => []) (fun j _ => ixF (fun x => decide (s = x)) (l.drop j) j = ixS l s) () (by simp only [EVA, ↓reduceIte, Nat.reduceEqDiff, Nat.reduceMul, reduceCtorEq, Nat.reduceAdd, Nat.reduceSub, Nat.reduceLeDiff, Nat.reduceLT, Int.reduceToNat, Int.reduceLE, Int.reduceLT, mens, men]) (by (simp only [EVA, ↓reduceIte, Nat.reduceEqDiff, Nat.reduceMul, reduceCtorEq, Nat.reduceAdd, Nat.reduceSub, Nat.reduceLeDiff, Nat.reduceLT, Int.reduceToNat, Int.reduceLE, Int.reduceLT, mens, men]) <;> rfl) rfl ?_
  intro j _ hj hA
  simp only [List.length_map, EVA, ↓reduceIte, Nat.reduceEqDiff, Nat.reduceMul, reduceCtorEq, Nat.reduceAdd, Nat.reduceSub, Nat.reduceLeDiff, Nat.reduceLT, Int.reduceToNat, Int.reduceLE, Int.reduceLT, mens, men]
  refine ite_of (fun hlt => ?_) (fun hge => ?_)
  · have hja : j < l.length := by omega
    have ga := getX (e0 := e0S) (c := fun n : ByteArray => [ts n]) hja
    rw [gx_eq hja] at ga
    rw [drop_cons hja, ixF_cons] at hA
    by_cases h : l[j] = s
    · rw [if_pos (by simp [h])] at hA
      simp only [ga, h, EVA, ↓reduceIte, Nat.reduceEqDiff, Nat.reduceMul, reduceCtorEq, Nat.reduceAdd, Nat.reduceSub, Nat.reduceLeDiff, Nat.reduceLT, Int.reduceToNat, Int.reduceLE, Int.reduceLT, mens, men]
      rw [← hA]
    · rw [if_neg (by simp; exact fun e => h e.symm)] at hA
      simp only [ga, h, EVA, ↓reduceIte, Nat.reduceEqDiff, Nat.reduceMul, reduceCtorEq, Nat.reduceAdd, Nat.reduceSub, Nat.reduceLeDiff, Nat.reduceLT, Int.reduceToNat, Int.reduceLE, Int.reduceLT, mens, men]
      exact ⟨by rw [fits_i64]; omega, cntJ_intro () hja rfl hA⟩
  · have : j = l.length := by omega
    subst this
    rw [List.drop_length] at hA
    rw [← hA]
    rfl
def fromN (a : Int) (n : Nat) : List Int := (List.range n).map fun i : Nat => a + i
theorem fromN_succ {a : Int} {n : Nat} : fromN a (n + 1) = fromN a n ++ [a + n] := by simp [fromN, List.range_succ]
theorem fromN_len {a : Int} {n : Nat} : (fromN a n).length = n := by simp [fromN]
theorem sem_l4Edges (a : Int) (n : Nat) (ha : -4294967296 ≤ a ∧ a ≤ 4294967296) (hn : n ≤ 4294967290) (lvl : Nat) (S : Sto) : Sem Go.Proofs.Tryz.prog fid_spec_l4Edges lvl [iI a, iI n] S (.ow 1 (rI (fromN a n)) true) S := by
  refine sem_of_chk k_spec_l4Edges trivial ?_
  simp only [c_spec_l4Edges, EVA, ↓reduceIte, Nat.reduceEqDiff, Nat.reduceMul, reduceCtorEq, Nat.reduceAdd, Nat.reduceSub, Nat.reduceLeDiff, Nat.reduceLT, Int.reduceToNat, Int.reduceLE, Int.reduceLT, mens, men]
  refine wp_cnt (α := Unit) n (fun j _ => [(5, .hd (lvl, 224) [] 0 j none j), (6, iI j)]) (fun j _ => [(224, .ar 1 (rI (fromN a j)) true j 0)]) (fun _ _ => True) () (by simp only [EVA, ↓reduceIte, Nat.reduceEqDiff, Nat.reduceMul, reduceCtorEq, Nat.reduceAdd, Nat.reduceSub, Nat.reduceLeDiff, Nat.reduceLT, Int.reduceToNat, Int.reduceLE, Int.reduceLT, mens, men]) (by (simp only [EVA, ↓reduceIte, Nat.reduceEqDiff, Nat.reduceMul, reduceCtorEq, Nat.reduceAdd, Nat.reduceSub, Nat.reduceLeDiff, Nat.reduceLT, Int.reduceToNat, Int.reduceLE, Int.reduceLT, mens, men]) <;> rfl) trivial ?_
  intro j _ hj _
  simp only [List.length_map, EVA, ↓reduceIte, Nat.reduceEqDiff, Nat.reduceMul, reduceCtorEq, Nat.reduceAdd, Nat.reduceSub, Nat.reduceLeDiff, Nat.reduceLT, Int.reduceToNat, Int.reduceLE, Int.reduceLT, mens, men]
  refine ite_of (fun hlt => ?_) (fun hge => ?_)
  · have hl := fromN_len (a := a) (n := j)
    have hs : rI (fromN a j) ++ [[Tr.v (.int .i64 (a + j))]] = rI (fromN a (j + 1)) := by rw [fromN_succ, rI_app]; rfl
    simp only [hl, hs, EVA, ↓reduceIte, Nat.reduceEqDiff, Nat.reduceMul, reduceCtorEq, Nat.reduceAdd, Nat.reduceSub, Nat.reduceLeDiff, Nat.reduceLT, Int.reduceToNat, Int.reduceLE, Int.reduceLT, mens, men]
    exact ⟨by rw [fits_i64]; omega, by omega, by rw [fits_i64]; omega, cntJ_intro () (by omega) rfl trivial⟩
  · have : j = n := by omega
    subst this
    exact ⟨fromN_len.symm, rfl⟩
def rootsN (a : Int) (n : Nat) : List Int := (List.range n).map fun i : Nat => -1 - a - i
theorem rootsN_succ {a : Int} {n : Nat} : rootsN a (n + 1) = rootsN a n ++ [-1 - a - n] := by simp [rootsN, List.range_succ]
theorem rootsN_len {a : Int} {n : Nat} : (rootsN a n).length = n := by simp [rootsN]
theorem sem_l4Roots (a : Int) (n : Nat) (ha : -4294967296 ≤ a ∧ a ≤ 4294967296) (hn : n ≤ 4294967290) (lvl : Nat) (S : Sto) : Sem Go.Proofs.Tryz.prog fid_spec_l4Roots lvl [iI a, iI n] S (.ow 1 (rI (rootsN a n)) true) S := by
  refine sem_of_chk k_spec_l4Roots trivial ?_
  simp only [c_spec_l4Roots, EVA, ↓reduceIte, Nat.reduceEqDiff, Nat.reduceMul, reduceCtorEq, Nat.reduceAdd, Nat.reduceSub, Nat.reduceLeDiff, Nat.reduceLT, Int.reduceToNat, Int.reduceLE, Int.reduceLT, mens, men]
  refine wp_cnt (α := Unit) n (fun j _ => [(5, .hd (lvl, 224) [] 0 j none j), (6, iI j)]) (fun j _ => [(224, .ar 1 (rI (rootsN a j)) true j 0)]) (fun _ _ => True) () (by simp only [EVA, ↓reduceIte, Nat.reduceEqDiff, Nat.reduceMul, reduceCtorEq, Nat.reduceAdd, Nat.reduceSub, Nat.reduceLeDiff, Nat.reduceLT, Int.reduceToNat, Int.reduceLE, Int.reduceLT, mens, men]) (by (simp only [EVA, ↓reduceIte, Nat.reduceEqDiff, Nat.reduceMul, reduceCtorEq, Nat.reduceAdd, Nat.reduceSub, Nat.reduceLeDiff, Nat.reduceLT, Int.reduceToNat, Int.reduceLE, Int.reduceLT, mens, men]) <;> rfl) trivial ?_
  intro j _ hj _
  simp only [List.length_map, EVA, ↓reduceIte, Nat.reduceEqDiff, Nat.reduceMul, reduceCtorEq, Nat.reduceAdd, Nat.reduceSub, Nat.reduceLeDiff, Nat.reduceLT, Int.reduceToNat, Int.reduceLE, Int.reduceLT, mens, men]
  refine ite_of (fun hlt => ?_) (fun hge => ?_)
  · have hl := rootsN_len (a := a) (n := j)
    have hs : rI (rootsN a j) ++ [[Tr.v (.int .i64 (-1 - a - j))]] = rI (rootsN a (j + 1)) := by rw [rootsN_succ, rI_app]; rfl
    simp only [hl, hs, EVA, ↓reduceIte, Nat.reduceEqDiff, Nat.reduceMul, reduceCtorEq, Nat.reduceAdd, Nat.reduceSub, Nat.reduceLeDiff, Nat.reduceLT, Int.reduceToNat, Int.reduceLE, Int.reduceLT, mens, men]
    exact ⟨by rw [fits_i64]; omega, by rw [fits_i64]; omega, by omega, by rw [fits_i64]; omega, cntJ_intro () (by omega) rfl trivial⟩
  · have : j = n := by omega
    subst this
    exact ⟨rootsN_len.symm, rfl⟩
def parG (by_ : Int) (ps : List Int) (p : Int) : Int := if p < 0 then g0 ps (-1 - p).toNat else p + by_
theorem sem_l4Parent (p by_ : Int) (ps : List Int) (h0 : -4294967296 ≤ p ∧ p ≤ 4294967296) (h1 : -4294967296 ≤ by_ ∧ by_ ≤ 4294967296) (h2 : p < 0 → (-1 - p).toNat < ps.length) (lvl : Nat) (S : Sto) : Sem Go.Proofs.Tryz.prog fid_spec_l4Parent lvl [iI p, iI by_, tI ps] S (iI (parG by_ ps p)) S := by
  refine sem_of_chk k_spec_l4Parent trivial ?_
  simp only [c_spec_l4Parent, EVA, ↓reduceIte, Nat.reduceEqDiff, Nat.reduceMul, reduceCtorEq, Nat.reduceAdd, Nat.reduceSub, Nat.reduceLeDiff, Nat.reduceLT, Int.reduceToNat, Int.reduceLE, Int.reduceLT, mens, men]
  unfold parG
  refine ite_of (fun hlt => ?_) (fun hge => ?_)
  · rw [if_pos hlt]
    have hk := h2 hlt
    obtain ⟨k, hkk⟩ : ∃ k : Nat, -1 - p = k := ⟨(-1 - p).toNat, by omega⟩
    rw [hkk] at hk ⊢
    rw [Int.toNat_natCast] at hk ⊢
    have ga := rI_get hk
    simp only [ga, hk, EVA, ↓reduceIte, Nat.reduceEqDiff, Nat.reduceMul, reduceCtorEq, Nat.reduceAdd, Nat.reduceSub, Nat.reduceLeDiff, Nat.reduceLT, Int.reduceToNat, Int.reduceLE, Int.reduceLT, mens, men]
    rw [fits_i64]; omega
  · rw [if_neg hge]
    exact ⟨by rw [fits_i64]; omega, rfl⟩

theorem sem_l4Sites (b : TBigraph) (by_ : Int) (ps : List Int) (hl : b.sites.length ≤ 4294967290) (h1 : -4294967296 ≤ by_ ∧ by_ ≤ 4294967296) (hp : ∀ p ∈ b.sites, (-4294967296 ≤ p ∧ p ≤ 4294967296) ∧ (p < 0 → (-1 - p).toNat < ps.length)) (lvl : Nat) (S : Sto) : Sem Go.Proofs.Tryz.prog fid_spec_l4Sites lvl [.ag ((cBigraph b).map .tr), iI by_, tI ps] S (.ow 1 (rI (b.sites.map (parG by_ ps))) true) S := by
  refine sem_of_chk k_spec_l4Sites trivial ?_
  simp only [c_spec_l4Sites, cBigraph, EVA, ↓reduceIte, Nat.reduceEqDiff, Nat.reduceMul, reduceCtorEq, Nat.reduceAdd, Nat.reduceSub, Nat.reduceLeDiff, Nat.reduceLT, Int.reduceToNat, Int.reduceLE, Int.reduceLT, mens, men]
  refine wp_cnt (α := Unit) b.sites.length (fun j _ => [(7, .hd (lvl, 288) [] 0 j none j), (8, iI j)]) (fun j _ => [(288, .ar 1 (rI ((b.sites.take j).map (parG by_ ps))) true j 0)]) (fun _ _ => True) () (by simp only [EVA, ↓reduceIte, Nat.reduceEqDiff, Nat.reduceMul, reduceCtorEq, Nat.reduceAdd, Nat.reduceSub, Nat.reduceLeDiff, Nat.reduceLT, Int.reduceToNat, Int.reduceLE, Int.reduceLT, mens, men]) (by (simp only [EVA, ↓reduceIte, Nat.reduceEqDiff, Nat.reduceMul, reduceCtorEq, Nat.reduceAdd, Nat.reduceSub, Nat.reduceLeDiff, Nat.reduceLT, Int.reduceToNat, Int.reduceLE, Int.reduceLT, mens, men]) <;> rfl) trivial ?_
  intro j _ hj _
  simp only [List.length_map, EVA, ↓reduceIte, Nat.reduceEqDiff, Nat.reduceMul, reduceCtorEq, Nat.reduceAdd, Nat.reduceSub, Nat.reduceLeDiff, Nat.reduceLT, Int.reduceToNat, Int.reduceLE, Int.reduceLT, mens, men]
  refine ite_of (fun hlt => ?_) (fun hge => ?_)
  · have hja : j < b.sites.length := by omega
    have ga := rI_get hja
    have e0 : g0 b.sites j = b.sites[j] := by simp [hja]
    have hq := hp _ (List.getElem_mem hja)
    rw [← e0] at hq
    have hl1 : (List.map (parG by_ ps) (b.sites.take j)).length = j := by rw [List.length_map, List.length_take]; omega
    have hl2 : (b.sites.take j).length = j := by rw [List.length_take]; omega
    simp only [ga, hja, EVA, ↓reduceIte, Nat.reduceEqDiff, Nat.reduceMul, reduceCtorEq, Nat.reduceAdd, Nat.reduceSub, Nat.reduceLeDiff, Nat.reduceLT, Int.reduceToNat, Int.reduceLE, Int.reduceLT, mens, men]
    refine kca_intro (sem_l4Parent (g0 b.sites j) by_ ps hq.1 h1 hq.2) ?_
    have hs : rI ((b.sites.take j).map (parG by_ ps)) ++ [[Tr.v (.int .i64 (parG by_ ps (g0 b.sites j)))]] = rI ((b.sites.take (j + 1)).map (parG by_ ps)) := by
      rw [List.take_succ_eq_append_getElem hja, List.map_append, rI_app, e0]; rfl
    simp only [hl1, hl2, hs, List.length_map, EVA, ↓reduceIte, Nat.reduceEqDiff, Nat.reduceMul, reduceCtorEq, Nat.reduceAdd, Nat.reduceSub, Nat.reduceLeDiff, Nat.reduceLT, Int.reduceToNat, Int.reduceLE, Int.reduceLT, mens, men]
    exact ⟨by omega, by rw [fits_i64]; omega, cntJ_intro () hja rfl trivial⟩
  · have : j = b.sites.length := by omega
    subst this
    rw [List.take_length]
    exact ⟨by simp, rfl⟩
def wireL (ls : List Int) (w : TWire) : TWire := ⟨w.name, g0 ls w.link.toNat⟩
theorem sem_l4Wires (b : TBigraph) (ls : List Int) (hl : b.inner.length ≤ 4294967290) (hp : ∀ w ∈ b.inner, 0 ≤ w.link ∧ w.link < ls.length) (lvl : Nat) (S : Sto) : Sem Go.Proofs.Tryz.prog fid_spec_l4Wires lvl [.ag ((cBigraph b).map .tr), tI ls] S (.ow 2 ((b.inner.map (wireL ls)).map cWire) true) S := by
  refine sem_of_chk k_spec_l4Wires trivial ?_
  simp only [c_spec_l4Wires, cBigraph, EVA, ↓reduceIte, Nat.reduceEqDiff, Nat.reduceMul, reduceCtorEq, Nat.reduceAdd, Nat.reduceSub, Nat.reduceLeDiff, Nat.reduceLT, Int.reduceToNat, Int.reduceLE, Int.reduceLT, mens, men]
  refine wp_cnt (α := Unit) b.inner.length (fun j _ => [(5, .hd (lvl, 224) [] 0 j none j), (6, iI j)]) (fun j _ => [(224, .ar 2 (((b.inner.take j).map (wireL ls)).map cWire) true j 0)]) (fun _ _ => True) () (by simp only [EVA, ↓reduceIte, Nat.reduceEqDiff, Nat.reduceMul, reduceCtorEq, Nat.reduceAdd, Nat.reduceSub, Nat.reduceLeDiff, Nat.reduceLT, Int.reduceToNat, Int.reduceLE, Int.reduceLT, mens, men]) (by (simp only [EVA, ↓reduceIte, Nat.reduceEqDiff, Nat.reduceMul, reduceCtorEq, Nat.reduceAdd, Nat.reduceSub, Nat.reduceLeDiff, Nat.reduceLT, Int.reduceToNat, Int.reduceLE, Int.reduceLT, mens, men]) <;> rfl) trivial ?_
  intro j _ hj _
  simp only [List.length_map, EVA, ↓reduceIte, Nat.reduceEqDiff, Nat.reduceMul, reduceCtorEq, Nat.reduceAdd, Nat.reduceSub, Nat.reduceLeDiff, Nat.reduceLT, Int.reduceToNat, Int.reduceLE, Int.reduceLT, mens, men]
  refine ite_of (fun hlt => ?_) (fun hge => ?_)
  · have hja : j < b.inner.length := by omega
    have ga := getA (c := cWire) hja
    have hq := hp _ (List.getElem_mem hja)
    obtain ⟨k, hk⟩ : ∃ k : Nat, b.inner[j].link = k := ⟨b.inner[j].link.toNat, by omega⟩
    have hkl : k < ls.length := by omega
    have gl := rI_get hkl
    have hl2 : (b.inner.take j).length = j := by rw [List.length_take]; omega
    have hs : ((b.inner.take j).map (wireL ls)).map cWire ++ [[ts b.inner[j].name, tv (g0 ls k)]] = ((b.inner.take (j + 1)).map (wireL ls)).map cWire := by
      rw [List.take_succ_eq_append_getElem hja, List.map_append, List.map_append]
      simp [wireL, cWire, hk]
    simp only [ga, cWire, hk, gl, hja, hkl, hl2, List.length_map, EVA, ↓reduceIte, Nat.reduceEqDiff, Nat.reduceMul, reduceCtorEq, Nat.reduceAdd, Nat.reduceSub, Nat.reduceLeDiff, Nat.reduceLT, Int.reduceToNat, Int.reduceLE, Int.reduceLT, mens, men]
    exact ⟨by omega, by rw [fits_i64]; omega, cntJ_intro () hja (by rw [← hs]; rfl) trivial⟩
  · have : j = b.inner.length := by omega
    subst this
    rw [List.take_length]
    exact ⟨by simp, rfl⟩

def nodeL (by_ : Int) (ps ls : List Int) (x : TNode) : TNode := ⟨x.control, parG by_ ps x.parent, x.links.map fun l => g0 ls l.toNat⟩
theorem sem_l4Nodes (b : TBigraph) (by_ : Int) (ps ls : List Int) (hl : b.nodes.length ≤ 4294967290) (h1 : -4294967296 ≤ by_ ∧ by_ ≤ 4294967296) (hp : ∀ x ∈ b.nodes, x.links.length ≤ 4294967290 ∧ ((-4294967296 ≤ x.parent ∧ x.parent ≤ 4294967296) ∧ (x.parent < 0 → (-1 - x.parent).toNat < ps.length)) ∧ ∀ l ∈ x.links, 0 ≤ l ∧ l < ls.length) (lvl : Nat) (S : Sto) : Sem Go.Proofs.Tryz.prog fid_spec_l4Nodes lvl [.ag ((cBigraph b).map .tr), iI by_, tI ps, tI ls] S (.ow 3 ((b.nodes.map (nodeL by_ ps ls)).map cNode) true) S := by
  refine sem_of_chk k_spec_l4Nodes trivial ?_
  simp only [c_spec_l4Nodes, cBigraph, EVA, ↓reduceIte, Nat.reduceEqDiff, Nat.reduceMul, reduceCtorEq, Nat.reduceAdd, Nat.reduceSub, Nat.reduceLeDiff, Nat.reduceLT, Int.reduceToNat, Int.reduceLE, Int.reduceLT, mens, men]
  refine wp_cnt (α := Unit) b.nodes.length (fun j _ => [(9, .hd (lvl, 416) [] 0 j none j), (10, iI j)]) (fun j _ => [(416, .ar 3 (((b.nodes.take j).map (nodeL by_ ps ls)).map cNode) true j 0)]) (fun _ _ => True) () (by simp only [EVA, ↓reduceIte, Nat.reduceEqDiff, Nat.reduceMul, reduceCtorEq, Nat.reduceAdd, Nat.reduceSub, Nat.reduceLeDiff, Nat.reduceLT, Int.reduceToNat, Int.reduceLE, Int.reduceLT, mens, men]) (by (simp only [EVA, ↓reduceIte, Nat.reduceEqDiff, Nat.reduceMul, reduceCtorEq, Nat.reduceAdd, Nat.reduceSub, Nat.reduceLeDiff, Nat.reduceLT, Int.reduceToNat, Int.reduceLE, Int.reduceLT, mens, men]) <;> rfl) trivial ?_
  intro j _ hj _
  simp only [List.length_map, EVA, ↓reduceIte, Nat.reduceEqDiff, Nat.reduceMul, reduceCtorEq, Nat.reduceAdd, Nat.reduceSub, Nat.reduceLeDiff, Nat.reduceLT, Int.reduceToNat, Int.reduceLE, Int.reduceLT, mens, men]
  refine ite_of (fun hlt => ?_) (fun hge => ?_)
  · have hja : j < b.nodes.length := by omega
    have ga := getA (c := cNode) hja
    obtain ⟨q1, q2, q3⟩ := hp _ (List.getElem_mem hja)
    have hl2 : (b.nodes.take j).length = j := by rw [List.length_take]; omega
    refine wp_cnt (α := Unit) b.nodes[j].links.length (fun k _ => [(11, .hd (lvl, 672) [] 0 k none k), (12, iI k)]) (fun k _ => [(672, .ar 1 (rI ((b.nodes[j].links.take k).map fun l => g0 ls l.toNat)) true k 0)]) (fun _ _ => True) () (by simp only [EVA, ↓reduceIte, Nat.reduceEqDiff, Nat.reduceMul, reduceCtorEq, Nat.reduceAdd, Nat.reduceSub, Nat.reduceLeDiff, Nat.reduceLT, Int.reduceToNat, Int.reduceLE, Int.reduceLT, mens, men]) (by (simp only [EVA, ↓reduceIte, Nat.reduceEqDiff, Nat.reduceMul, reduceCtorEq, Nat.reduceAdd, Nat.reduceSub, Nat.reduceLeDiff, Nat.reduceLT, Int.reduceToNat, Int.reduceLE, Int.reduceLT, mens, men]) <;> rfl) trivial ?_
    intro k _ hk _
    simp only [ga, cNode, List.length_map, EVA, ↓reduceIte, Nat.reduceEqDiff, Nat.reduceMul, reduceCtorEq, Nat.reduceAdd, Nat.reduceSub, Nat.reduceLeDiff, Nat.reduceLT, Int.reduceToNat, Int.reduceLE, Int.reduceLT, mens, men]
    refine ite_of (fun hlt2 => ?_) (fun hge2 => ?_)
    · have hka : k < b.nodes[j].links.length := by omega
      have gl := rI_get hka
      have e0 : g0 b.nodes[j].links k = b.nodes[j].links[k] := by simp [hka]
      have hq := q3 _ (List.getElem_mem hka)
      rw [← e0] at hq
      obtain ⟨m, hm⟩ : ∃ m : Nat, g0 b.nodes[j].links k = m := ⟨(g0 b.nodes[j].links k).toNat, by omega⟩
      have hml : m < ls.length := by omega
      have gm := rI_get hml
      have hl3 : (b.nodes[j].links.take k).length = k := by rw [List.length_take]; omega
      have hs : rI ((b.nodes[j].links.take k).map fun l => g0 ls l.toNat) ++ [[tv (g0 ls m)]] = rI ((b.nodes[j].links.take (k + 1)).map fun l => g0 ls l.toNat) := by
        rw [List.take_succ_eq_append_getElem hka, List.map_append, rI_app, ← e0]
        simp only [List.map_cons, List.map_nil, hm, Int.toNat_natCast]
      simp only [ga, cNode, gl, hm, gm, hka, hml, hl3, hs, List.length_map, EVA, ↓reduceIte, Nat.reduceEqDiff, Nat.reduceMul, reduceCtorEq, Nat.reduceAdd, Nat.reduceSub, Nat.reduceLeDiff, Nat.reduceLT, Int.reduceToNat, Int.reduceLE, Int.reduceLT, mens, men]
      exact ⟨by omega, by rw [fits_i64]; omega, cntJ_intro () hka rfl trivial⟩
    · have : k = b.nodes[j].links.length := by omega
      subst this
      rw [List.take_length]
      refine kca_intro (sem_l4Parent b.nodes[j].parent by_ ps q2.1 h1 q2.2) ?_
      have hs : ((b.nodes.take j).map (nodeL by_ ps ls)).map cNode ++ [[tv b.nodes[j].control, tv (parG by_ ps b.nodes[j].parent), Tr.sl (rI (b.nodes[j].links.map fun l => g0 ls l.toNat))]] = ((b.nodes.take (j + 1)).map (nodeL by_ ps ls)).map cNode := by
        rw [List.take_succ_eq_append_getElem hja, List.map_append, List.map_append]
        simp [nodeL, cNode]
      simp only [ga, cNode, hl2, List.length_map, EVA, ↓reduceIte, Nat.reduceEqDiff, Nat.reduceMul, reduceCtorEq, Nat.reduceAdd, Nat.reduceSub, Nat.reduceLeDiff, Nat.reduceLT, Int.reduceToNat, Int.reduceLE, Int.reduceLT, mens, men]
      exact ⟨by omega, by rw [fits_i64]; omega, cntJ_intro () hja (by rw [← hs]; rfl) trivial⟩
  · have : j = b.nodes.length := by omega
    subst this
    rw [List.take_length]
    exact ⟨by simp, rfl⟩
end Go.Fd
