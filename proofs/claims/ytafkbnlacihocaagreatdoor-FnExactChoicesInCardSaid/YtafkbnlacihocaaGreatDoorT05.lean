/-
  NAMES AND SIGNATURES, BOTH SIDES. Own work.
-/
import Derived.Test.YtafkbnlacihocaaGreatDoorT04
import Derived.KernelRfl
set_option linter.all false
namespace Go.Fd
set_option maxRecDepth 20000

def callB (P : Program) (f : FuncId) : Bool := match P.funcs[f]? with | some fn => fn.body.isSome && !(fn.name == "runtime.NumGoroutine") | none => false

theorem callB_ok {P : Program} {f : FuncId} (h : callB P f = true) : Callable P f := by
  unfold callB at h
  split at h
  · rename_i fn hf
    simp only [Bool.and_eq_true, Bool.not_eq_true'] at h
    exact ⟨fn, hf, h.1, h.2⟩
  · cases h

abbrev AZ : ByteArray := ⟨#[97, 98, 99, 100, 101, 102, 103, 104, 105, 106, 107, 108, 109, 110, 111, 112, 113, 114, 115, 116, 117, 118, 119, 120, 121, 122]⟩

theorem sem_Trim (s : ByteArray) (hs : s.size ≤ 9223372036854775807) (lvl : Nat) (S : Sto) : Sem Go.Proofs.Tryz.prog fid_strings_Trim lvl [iS s, iS AZ] S (iS ⟨(Lib.trimS s.data.toList AZ.data.toList).toArray⟩) S :=
  sem_of_scal (xs := [.string s, .string AZ]) (callB_ok (by kernel_rfl)) rfl (fun w => Go.Proofs.Any.strings_Trim_laid Go.Proofs.Tryz.lays160 (by kernel_rfl) s AZ w hs (by decide) (Go.Proofs.ascii_of_all (by decide)))

/-- A name: one to four small letters. -/
def isNm (s : ByteArray) : Prop := (∀ b ∈ s.data.toList, 97 ≤ b.toNat ∧ b.toNat ≤ 122) ∧ 1 ≤ s.size ∧ s.size ≤ 4

theorem size_list (s : ByteArray) : s.size = s.data.toList.length := by rw [Array.length_toList]; rfl

theorem az_mem (b : UInt8) : b ∈ AZ.data.toList ↔ 97 ≤ b.toNat ∧ b.toNat ≤ 122 := by
  have : ∀ n : Fin 256, (UInt8.ofNat n.val) ∈ AZ.data.toList ↔ 97 ≤ n.val ∧ n.val ≤ 122 := by decide +kernel
  have h : UInt8.ofNat b.toNat ∈ AZ.data.toList ↔ 97 ≤ b.toNat ∧ b.toNat ≤ 122 := this ⟨b.toNat, b.toNat_lt⟩
  rw [show UInt8.ofNat b.toNat = b from UInt8.ofNat_toNat] at h
  exact h

theorem dw_nil {p : UInt8 → Bool} : ∀ {l : List UInt8}, l.dropWhile p = [] ↔ ∀ b ∈ l, p b = true
  | [] => by simp
  | x :: r => by
    simp only [List.dropWhile_cons, List.mem_cons, forall_eq_or_imp]
    cases h : p x with
    | true => simp [dw_nil (l := r)]
    | false => simp

theorem tw_mem {p : UInt8 → Bool} {b : UInt8} : ∀ {l : List UInt8}, b ∈ l.takeWhile p → p b = true
  | [], h => by simp at h
  | x :: r, h => by
    rw [List.takeWhile_cons] at h
    split at h
    · rename_i hx
      rcases List.mem_cons.1 h with rfl | h
      · exact hx
      · exact tw_mem h
    · cases h

theorem drop_nil {l cs : List UInt8} (h : ∀ b ∈ l, b ∈ cs) : l.dropWhile (cs.contains ·) = [] := by
  rw [dw_nil]
  intro b hb
  simpa using h b hb

theorem trimS_nil {l cs : List UInt8} : Lib.trimS l cs = [] ↔ ∀ b ∈ l, b ∈ cs := by
  unfold Lib.trimS Lib.trimLeftS Lib.trimRightS
  constructor
  · intro h b hb
    rw [dw_nil] at h
    have hrev : ∀ x ∈ (l.reverse.dropWhile (cs.contains ·)), x ∈ cs := fun x hx => by
      have := h x (by simpa using hx)
      simpa using this
    have hsplit : l.reverse = l.reverse.takeWhile (cs.contains ·) ++ l.reverse.dropWhile (cs.contains ·) := (List.takeWhile_append_dropWhile).symm
    have hb2 : b ∈ l.reverse := by simpa using hb
    rw [hsplit] at hb2
    rcases List.mem_append.1 hb2 with h1 | h1
    · have := tw_mem h1
      simpa using this
    · exact hrev b h1
  · intro h
    rw [drop_nil (l := l.reverse) (fun b hb => h b (by simpa using hb))]
    rfl

theorem sem_l2Name (s : ByteArray) (hs : s.size ≤ 9223372036854775807) (lvl : Nat) (S : Sto) : Sem Go.Proofs.Tryz.prog fid_spec_l2Name lvl [iS s] S (iB (dc (isNm s))) S := by
  refine sem_of_chk k_spec_l2Name trivial ?_
  simp only [c_spec_l2Name, EVA, ↓reduceIte, Nat.reduceEqDiff, Nat.reduceMul, reduceCtorEq, Nat.reduceAdd, Nat.reduceSub, Nat.reduceLeDiff, Nat.reduceLT, Int.reduceToNat, Int.reduceLE, Int.reduceLT, mens, men]
  refine wp_cnt (α := Unit) s.size (fun j _ => [(3, iI j)]) (fun _ _ => []) (fun j _ => ∀ b ∈ s.data.toList.take j, 97 ≤ b.toNat ∧ b.toNat ≤ 122) () (by simp only [EVA, ↓reduceIte, Nat.reduceEqDiff, Nat.reduceMul, reduceCtorEq, Nat.reduceAdd, Nat.reduceSub, Nat.reduceLeDiff, Nat.reduceLT, Int.reduceToNat, Int.reduceLE, Int.reduceLT, mens, men]) (by (simp only [EVA, ↓reduceIte, Nat.reduceEqDiff, Nat.reduceMul, reduceCtorEq, Nat.reduceAdd, Nat.reduceSub, Nat.reduceLeDiff, Nat.reduceLT, Int.reduceToNat, Int.reduceLE, Int.reduceLT, mens, men]) <;> rfl) (fun b hb => by simp at hb) ?_
  intro j _ hj hA
  simp only [EVA, ↓reduceIte, Nat.reduceEqDiff, Nat.reduceMul, reduceCtorEq, Nat.reduceAdd, Nat.reduceSub, Nat.reduceLeDiff, Nat.reduceLT, Int.reduceToNat, Int.reduceLE, Int.reduceLT, mens, men]
  refine ite_of (fun hlt => ?_) (fun hge => ?_)
  · have hja : j < s.data.toList.length := by rw [← size_list]; omega
    have ga : s.data.toList[j]? = some (s.data.toList[j]) := List.getElem?_eq_getElem hja
    have hno : ¬ (97 ≤ (s.data.toList[j]).toNat ∧ (s.data.toList[j]).toNat ≤ 122) → ¬ isNm s := fun h hn => h (hn.1 _ (List.getElem_mem hja))
    by_cases h1 : ((s.data.toList[j]).toNat : Int) < 97
    · simp only [ga, h1, EVA, ↓reduceIte, Nat.reduceEqDiff, Nat.reduceMul, reduceCtorEq, Nat.reduceAdd, Nat.reduceSub, Nat.reduceLeDiff, Nat.reduceLT, Int.reduceToNat, Int.reduceLE, Int.reduceLT, mens, men]
      rw [dc_false (hno (by omega))]
    by_cases h2 : (122 : Int) < (s.data.toList[j]).toNat
    · simp only [ga, h1, h2, EVA, ↓reduceIte, Nat.reduceEqDiff, Nat.reduceMul, reduceCtorEq, Nat.reduceAdd, Nat.reduceSub, Nat.reduceLeDiff, Nat.reduceLT, Int.reduceToNat, Int.reduceLE, Int.reduceLT, mens, men]
      rw [dc_false (hno (by omega))]
    · simp only [ga, h1, h2, EVA, ↓reduceIte, Nat.reduceEqDiff, Nat.reduceMul, reduceCtorEq, Nat.reduceAdd, Nat.reduceSub, Nat.reduceLeDiff, Nat.reduceLT, Int.reduceToNat, Int.reduceLE, Int.reduceLT, mens, men]
      refine ⟨by rw [fits_i64]; omega, cntJ_intro () (by omega) rfl ?_⟩
      intro b hb
      rw [List.take_succ_eq_append_getElem hja] at hb
      rcases List.mem_append.1 hb with h | h
      · exact hA b h
      · have : b = s.data.toList[j] := by simpa using h
        subst this
        omega
  · have : j = s.size := by omega
    subst this
    rw [size_list, List.take_length] at hA
    refine kca_intro (sem_l1In s.size 1 4) ?_
    simp only [EVA, ↓reduceIte, Nat.reduceEqDiff, Nat.reduceMul, reduceCtorEq, Nat.reduceAdd, Nat.reduceSub, Nat.reduceLeDiff, Nat.reduceLT, Int.reduceToNat, Int.reduceLE, Int.reduceLT, mens, men]
    rw [dc_congr (q := 1 ≤ s.size ∧ s.size ≤ 4) ⟨fun h => h.2, fun h => ⟨hA, h⟩⟩]
    by_cases h : 1 ≤ s.size ∧ s.size ≤ 4
    · rw [dc_true h, inB_iff.2 (by omega)]
    · rw [dc_false h, inB_not.2 (by omega)]

theorem sem_isName (s : ByteArray) (hs : s.size ≤ 9223372036854775807) (lvl : Nat) (S : Sto) : Sem Go.Proofs.Tryz.prog fid_impl_isName lvl [iS s] S (iB (dc (isNm s))) S := by
  refine sem_of_chk k_impl_isName trivial ?_
  simp only [c_impl_isName, EVA, ↓reduceIte, Nat.reduceEqDiff, Nat.reduceMul, reduceCtorEq, Nat.reduceAdd, Nat.reduceSub, Nat.reduceLeDiff, Nat.reduceLT, Int.reduceToNat, Int.reduceLE, Int.reduceLT, mens, men]
  refine kca_intro (sem_within s.size 1 4) ?_
  simp only [EVA, ↓reduceIte, Nat.reduceEqDiff, Nat.reduceMul, reduceCtorEq, Nat.reduceAdd, Nat.reduceSub, Nat.reduceLeDiff, Nat.reduceLT, Int.reduceToNat, Int.reduceLE, Int.reduceLT, mens, men]
  cases hin : inB (s.size : Int) 1 4 with
  | false =>
    have : ¬ isNm s := fun h => (inB_not.1 hin) (by have := h.2; omega)
    rw [dc_false this]
    simp only [EVA, ↓reduceIte, Nat.reduceEqDiff, Nat.reduceMul, reduceCtorEq, Nat.reduceAdd, Nat.reduceSub, Nat.reduceLeDiff, Nat.reduceLT, Int.reduceToNat, Int.reduceLE, Int.reduceLT, mens, men]
  | true =>
    have hin' := inB_iff.1 hin
    simp only [EVA, ↓reduceIte, Nat.reduceEqDiff, Nat.reduceMul, reduceCtorEq, Nat.reduceAdd, Nat.reduceSub, Nat.reduceLeDiff, Nat.reduceLT, Int.reduceToNat, Int.reduceLE, Int.reduceLT, mens, men]
    refine kca_intro (sem_Trim s hs) ?_
    simp only [EVA, ↓reduceIte, Nat.reduceEqDiff, Nat.reduceMul, reduceCtorEq, Nat.reduceAdd, Nat.reduceSub, Nat.reduceLeDiff, Nat.reduceLT, Int.reduceToNat, Int.reduceLE, Int.reduceLT, mens, men]
    by_cases h : isNm s
    · have : Lib.trimS s.data.toList AZ.data.toList = [] := trimS_nil.2 (fun b hb => (az_mem b).2 (h.1 b hb))
      rw [dc_true h, this]
      rfl
    · have : ¬ Lib.trimS s.data.toList AZ.data.toList = [] := fun e => h ⟨fun b hb => (az_mem b).1 (trimS_nil.1 e b hb), by omega, by omega⟩
      rw [dc_false h]
      have h2 : ¬ (⟨(Lib.trimS s.data.toList AZ.data.toList).toArray⟩ : ByteArray) = ⟨#[]⟩ := fun e => this (by
        have := congrArg (fun b : ByteArray => b.data.toList) e
        simpa using this)
      simp [h2]

/-- A signature: each control has a name, few ports and a kind; no two have one name. -/
def ctlOK (c : TControl) : Prop := isNm c.name ∧ (0 ≤ c.ports ∧ c.ports ≤ 3) ∧ 0 ≤ c.kind_ ∧ c.kind_ ≤ 2

def sigAt (sig : List TControl) (i : Nat) : Prop := ∀ h : i < sig.length, ctlOK sig[i] ∧ ∀ k (hk : k < i), (sig[k]'(by omega)).name ≠ sig[i].name

def sigOK (sig : List TControl) : Prop := (∀ i, sigAt sig i) ∧ 1 ≤ sig.length ∧ sig.length ≤ 6

theorem sem_IsSignature_1 (c d : TControl) (lvl : Nat) (S : Sto) : Sem Go.Proofs.Tryz.prog fid_impl_IsSignature_1 lvl [.ag ((cControl d).map .tr), .ta (cControl c)] S (iB (decide (d.name = c.name))) S := by
  refine sem_of_chk k_impl_IsSignature_1 trivial ?_
  simp only [c_impl_IsSignature_1, cControl, EVA, ↓reduceIte, Nat.reduceEqDiff, Nat.reduceMul, reduceCtorEq, Nat.reduceAdd, Nat.reduceSub, Nat.reduceLeDiff, Nat.reduceLT, Int.reduceToNat, Int.reduceLE, Int.reduceLT, mens, men]

theorem g_ixFControl : chkF Go.Proofs.Tryz.prog fid_slices_IndexFunc_impl_Control_impl_Control (gIxF 3 (some 3)) = true := by kernel_rfl

theorem g_coFControl : chkF Go.Proofs.Tryz.prog fid_slices_ContainsFunc_impl_Control_impl_Control (gCoF fid_slices_IndexFunc_impl_Control_impl_Control) = true := by kernel_rfl

theorem sem_l2Sig (sig : List TControl) (hl : sig.length ≤ 9223372036854775807) (hb : ∀ y ∈ sig, bdControl 9223372036854775807 y) (lvl : Nat) (S : Sto) : Sem Go.Proofs.Tryz.prog fid_spec_l2Sig lvl [.tr (.sl (sig.map cControl))] S (iB (dc (sigOK sig))) S := by
  refine sem_of_chk k_spec_l2Sig trivial ?_
  simp only [c_spec_l2Sig, List.length_map, EVA, ↓reduceIte, Nat.reduceEqDiff, Nat.reduceMul, reduceCtorEq, Nat.reduceAdd, Nat.reduceSub, Nat.reduceLeDiff, Nat.reduceLT, Int.reduceToNat, Int.reduceLE, Int.reduceLT, mens, men]
  refine wp_cnt (α := Unit) sig.length (fun j _ => [(3, iI j)]) (fun _ _ => []) (fun j _ => ∀ i, i < j → sigAt sig i) () (by simp only [EVA, ↓reduceIte, Nat.reduceEqDiff, Nat.reduceMul, reduceCtorEq, Nat.reduceAdd, Nat.reduceSub, Nat.reduceLeDiff, Nat.reduceLT, Int.reduceToNat, Int.reduceLE, Int.reduceLT, mens, men]) (by (simp only [EVA, ↓reduceIte, Nat.reduceEqDiff, Nat.reduceMul, reduceCtorEq, Nat.reduceAdd, Nat.reduceSub, Nat.reduceLeDiff, Nat.reduceLT, Int.reduceToNat, Int.reduceLE, Int.reduceLT, mens, men]) <;> rfl) (fun i hi => by omega) ?_
  intro j _ hj hA
  simp only [List.length_map, EVA, ↓reduceIte, Nat.reduceEqDiff, Nat.reduceMul, reduceCtorEq, Nat.reduceAdd, Nat.reduceSub, Nat.reduceLeDiff, Nat.reduceLT, Int.reduceToNat, Int.reduceLE, Int.reduceLT, mens, men]
  refine ite_of (fun hlt => ?_) (fun hge => ?_)
  · have hja : j < sig.length := by omega
    have ga := getA (c := cControl) hja
    have hbj : sig[j].name.size ≤ 9223372036854775807 := hb _ (List.getElem_mem hja)
    have hno : ¬ ctlOK sig[j] → ¬ sigOK sig := fun h hs => h (hs.1 j hja).1
    simp only [ga, cControl, EVA, ↓reduceIte, Nat.reduceEqDiff, Nat.reduceMul, reduceCtorEq, Nat.reduceAdd, Nat.reduceSub, Nat.reduceLeDiff, Nat.reduceLT, Int.reduceToNat, Int.reduceLE, Int.reduceLT, mens, men]
    refine kca_intro (sem_l2Name sig[j].name hbj) ?_
    simp only [ga, cControl, EVA, ↓reduceIte, Nat.reduceEqDiff, Nat.reduceMul, reduceCtorEq, Nat.reduceAdd, Nat.reduceSub, Nat.reduceLeDiff, Nat.reduceLT, Int.reduceToNat, Int.reduceLE, Int.reduceLT, mens, men]
    cases hn : dc (isNm sig[j].name) with
    | false =>
      simp only [EVA, ↓reduceIte, Nat.reduceEqDiff, Nat.reduceMul, reduceCtorEq, Nat.reduceAdd, Nat.reduceSub, Nat.reduceLeDiff, Nat.reduceLT, Int.reduceToNat, Int.reduceLE, Int.reduceLT, mens, men]
      rw [dc_false (hno fun h => dc_not.1 hn h.1)]
    | true =>
      have hn' := dc_iff.1 hn
      simp only [ga, cControl, EVA, ↓reduceIte, Nat.reduceEqDiff, Nat.reduceMul, reduceCtorEq, Nat.reduceAdd, Nat.reduceSub, Nat.reduceLeDiff, Nat.reduceLT, Int.reduceToNat, Int.reduceLE, Int.reduceLT, mens, men]
      refine kca_intro (sem_l1In sig[j].ports 0 3) ?_
      simp only [ga, cControl, EVA, ↓reduceIte, Nat.reduceEqDiff, Nat.reduceMul, reduceCtorEq, Nat.reduceAdd, Nat.reduceSub, Nat.reduceLeDiff, Nat.reduceLT, Int.reduceToNat, Int.reduceLE, Int.reduceLT, mens, men]
      cases hp : inB sig[j].ports 0 3 with
      | false =>
        simp only [EVA, ↓reduceIte, Nat.reduceEqDiff, Nat.reduceMul, reduceCtorEq, Nat.reduceAdd, Nat.reduceSub, Nat.reduceLeDiff, Nat.reduceLT, Int.reduceToNat, Int.reduceLE, Int.reduceLT, mens, men]
        rw [dc_false (hno fun h => inB_not.1 hp h.2.1)]
      | true =>
        have hp' := inB_iff.1 hp
        simp only [ga, cControl, EVA, ↓reduceIte, Nat.reduceEqDiff, Nat.reduceMul, reduceCtorEq, Nat.reduceAdd, Nat.reduceSub, Nat.reduceLeDiff, Nat.reduceLT, Int.reduceToNat, Int.reduceLE, Int.reduceLT, mens, men]
        refine kca_intro (sem_l1In sig[j].kind_ 0 2) ?_
        simp only [ga, cControl, EVA, ↓reduceIte, Nat.reduceEqDiff, Nat.reduceMul, reduceCtorEq, Nat.reduceAdd, Nat.reduceSub, Nat.reduceLeDiff, Nat.reduceLT, Int.reduceToNat, Int.reduceLE, Int.reduceLT, mens, men]
        cases hk : inB sig[j].kind_ 0 2 with
        | false =>
          simp only [EVA, ↓reduceIte, Nat.reduceEqDiff, Nat.reduceMul, reduceCtorEq, Nat.reduceAdd, Nat.reduceSub, Nat.reduceLeDiff, Nat.reduceLT, Int.reduceToNat, Int.reduceLE, Int.reduceLT, mens, men]
          rw [dc_false (hno fun h => inB_not.1 hk h.2.2)]
        | true =>
          have hk' := inB_iff.1 hk
          simp only [EVA, ↓reduceIte, Nat.reduceEqDiff, Nat.reduceMul, reduceCtorEq, Nat.reduceAdd, Nat.reduceSub, Nat.reduceLeDiff, Nat.reduceLT, Int.reduceToNat, Int.reduceLE, Int.reduceLT, mens, men]
          refine wp_cnt (α := Unit) j (fun k _ => [(4, iI k)]) (fun _ _ => []) (fun k _ => ∀ i (hi : i < k), k ≤ j → ∀ hi2 : i < sig.length, (sig[i]'hi2).name ≠ sig[j].name) () (by simp only [EVA, ↓reduceIte, Nat.reduceEqDiff, Nat.reduceMul, reduceCtorEq, Nat.reduceAdd, Nat.reduceSub, Nat.reduceLeDiff, Nat.reduceLT, Int.reduceToNat, Int.reduceLE, Int.reduceLT, mens, men]) (by (simp only [EVA, ↓reduceIte, Nat.reduceEqDiff, Nat.reduceMul, reduceCtorEq, Nat.reduceAdd, Nat.reduceSub, Nat.reduceLeDiff, Nat.reduceLT, Int.reduceToNat, Int.reduceLE, Int.reduceLT, mens, men]) <;> rfl) (fun i hi => by omega) ?_
          intro k _ hkj hB
          simp only [List.length_map, EVA, ↓reduceIte, Nat.reduceEqDiff, Nat.reduceMul, reduceCtorEq, Nat.reduceAdd, Nat.reduceSub, Nat.reduceLeDiff, Nat.reduceLT, Int.reduceToNat, Int.reduceLE, Int.reduceLT, mens, men]
          refine ite_of (fun hlt2 => ?_) (fun hge2 => ?_)
          · have hka : k < sig.length := by omega
            have gb := getA (c := cControl) hka
            simp only [ga, gb, cControl, EVA, ↓reduceIte, Nat.reduceEqDiff, Nat.reduceMul, reduceCtorEq, Nat.reduceAdd, Nat.reduceSub, Nat.reduceLeDiff, Nat.reduceLT, Int.reduceToNat, Int.reduceLE, Int.reduceLT, mens, men]
            refine ite_of (fun he => ?_) (fun hne => ?_)
            · rw [dc_false (fun hs : sigOK sig => (hs.1 j hja).2 k (by omega) he)]
            · refine ⟨by rw [fits_i64]; omega, cntJ_intro () (by omega) rfl (fun i hi _ hi2 => ?_)⟩
              by_cases e : i = k
              · subst e; exact hne
              · exact hB i (by omega) (by omega) hi2
          · have : k = j := by omega
            subst this
            refine ⟨by rw [fits_i64]; omega, cntJ_intro () hja rfl (fun i hi => ?_)⟩
            by_cases e : i = k
            · subst e
              exact fun h => ⟨⟨hn', hp', hk'⟩, fun q hq => hB q hq (Nat.le_refl _) (by omega)⟩
            · exact hA i (by omega)
  · have : j = sig.length := by omega
    subst this
    refine kca_intro (sem_l1In sig.length 1 6) ?_
    simp only [EVA, ↓reduceIte, Nat.reduceEqDiff, Nat.reduceMul, reduceCtorEq, Nat.reduceAdd, Nat.reduceSub, Nat.reduceLeDiff, Nat.reduceLT, Int.reduceToNat, Int.reduceLE, Int.reduceLT, mens, men]
    have hall : ∀ i, sigAt sig i := fun i h => hA i h h
    rw [dc_congr (q := 1 ≤ sig.length ∧ sig.length ≤ 6) ⟨fun h => h.2, fun h => ⟨hall, h⟩⟩]
    by_cases h : 1 ≤ sig.length ∧ sig.length ≤ 6
    · rw [dc_true h, inB_iff.2 (by omega)]
    · rw [dc_false h, inB_not.2 (by omega)]

theorem sem_impl_IsSignature (sig : List TControl) (hl : sig.length ≤ 9223372036854775807) (hb : ∀ y ∈ sig, bdControl 9223372036854775807 y) (lvl : Nat) (S : Sto) : Sem Go.Proofs.Tryz.prog fid_impl_IsSignature lvl [.tr (.sl (sig.map cControl))] S (iB (dc (sigOK sig))) S := by
  refine sem_of_chk k_impl_IsSignature trivial ?_
  simp only [c_impl_IsSignature, List.length_map, EVA, ↓reduceIte, Nat.reduceEqDiff, Nat.reduceMul, reduceCtorEq, Nat.reduceAdd, Nat.reduceSub, Nat.reduceLeDiff, Nat.reduceLT, Int.reduceToNat, Int.reduceLE, Int.reduceLT, mens, men]
  refine kca_intro (sem_within sig.length 1 6) ?_
  simp only [List.length_map, EVA, ↓reduceIte, Nat.reduceEqDiff, Nat.reduceMul, reduceCtorEq, Nat.reduceAdd, Nat.reduceSub, Nat.reduceLeDiff, Nat.reduceLT, Int.reduceToNat, Int.reduceLE, Int.reduceLT, mens, men]
  refine ite_of (fun h => ?_) (fun h => ?_)
  · rw [dc_false (fun hs : sigOK sig => (inB_not.1 h) (by have := hs.2; omega))]
  have hln := inB_iff.1 (by simpa using h)
  refine wp_cnt (α := Unit) sig.length (fun j _ => [(11, iI j)]) (fun _ _ => []) (fun j _ => ∀ i, i < j → sigAt sig i) () (by simp only [EVA, ↓reduceIte, Nat.reduceEqDiff, Nat.reduceMul, reduceCtorEq, Nat.reduceAdd, Nat.reduceSub, Nat.reduceLeDiff, Nat.reduceLT, Int.reduceToNat, Int.reduceLE, Int.reduceLT, mens, men]) (by (simp only [EVA, ↓reduceIte, Nat.reduceEqDiff, Nat.reduceMul, reduceCtorEq, Nat.reduceAdd, Nat.reduceSub, Nat.reduceLeDiff, Nat.reduceLT, Int.reduceToNat, Int.reduceLE, Int.reduceLT, mens, men]) <;> rfl) (fun i hi => by omega) ?_
  intro j _ hj hA
  simp only [List.length_map, EVA, ↓reduceIte, Nat.reduceEqDiff, Nat.reduceMul, reduceCtorEq, Nat.reduceAdd, Nat.reduceSub, Nat.reduceLeDiff, Nat.reduceLT, Int.reduceToNat, Int.reduceLE, Int.reduceLT, mens, men]
  refine ite_of (fun hlt => ?_) (fun hge => ?_)
  · have hja : j < sig.length := by omega
    have ga := getA (c := cControl) hja
    have hbj : sig[j].name.size ≤ 9223372036854775807 := hb _ (List.getElem_mem hja)
    have hno : ¬ ctlOK sig[j] → ¬ sigOK sig := fun h hs => h (hs.1 j hja).1
    simp only [ga, cControl, EVA, ↓reduceIte, Nat.reduceEqDiff, Nat.reduceMul, reduceCtorEq, Nat.reduceAdd, Nat.reduceSub, Nat.reduceLeDiff, Nat.reduceLT, Int.reduceToNat, Int.reduceLE, Int.reduceLT, mens, men]
    refine kca_intro (sem_isName sig[j].name hbj) ?_
    simp only [ga, cControl, EVA, ↓reduceIte, Nat.reduceEqDiff, Nat.reduceMul, reduceCtorEq, Nat.reduceAdd, Nat.reduceSub, Nat.reduceLeDiff, Nat.reduceLT, Int.reduceToNat, Int.reduceLE, Int.reduceLT, mens, men]
    cases hn : dc (isNm sig[j].name) with
    | false =>
      simp only [EVA, ↓reduceIte, Nat.reduceEqDiff, Nat.reduceMul, reduceCtorEq, Nat.reduceAdd, Nat.reduceSub, Nat.reduceLeDiff, Nat.reduceLT, Int.reduceToNat, Int.reduceLE, Int.reduceLT, mens, men]
      rw [dc_false (hno fun h => dc_not.1 hn h.1)]
    | true =>
      have hn' := dc_iff.1 hn
      simp only [ga, cControl, EVA, ↓reduceIte, Nat.reduceEqDiff, Nat.reduceMul, reduceCtorEq, Nat.reduceAdd, Nat.reduceSub, Nat.reduceLeDiff, Nat.reduceLT, Int.reduceToNat, Int.reduceLE, Int.reduceLT, mens, men]
      refine kca_intro (sem_within sig[j].ports 0 3) ?_
      simp only [ga, cControl, EVA, ↓reduceIte, Nat.reduceEqDiff, Nat.reduceMul, reduceCtorEq, Nat.reduceAdd, Nat.reduceSub, Nat.reduceLeDiff, Nat.reduceLT, Int.reduceToNat, Int.reduceLE, Int.reduceLT, mens, men]
      cases hp : inB sig[j].ports 0 3 with
      | false =>
        simp only [EVA, ↓reduceIte, Nat.reduceEqDiff, Nat.reduceMul, reduceCtorEq, Nat.reduceAdd, Nat.reduceSub, Nat.reduceLeDiff, Nat.reduceLT, Int.reduceToNat, Int.reduceLE, Int.reduceLT, mens, men]
        rw [dc_false (hno fun h => inB_not.1 hp h.2.1)]
      | true =>
        have hp' := inB_iff.1 hp
        simp only [ga, cControl, EVA, ↓reduceIte, Nat.reduceEqDiff, Nat.reduceMul, reduceCtorEq, Nat.reduceAdd, Nat.reduceSub, Nat.reduceLeDiff, Nat.reduceLT, Int.reduceToNat, Int.reduceLE, Int.reduceLT, mens, men]
        refine kca_intro (sem_within sig[j].kind_ 0 2) ?_
        simp only [ga, cControl, EVA, ↓reduceIte, Nat.reduceEqDiff, Nat.reduceMul, reduceCtorEq, Nat.reduceAdd, Nat.reduceSub, Nat.reduceLeDiff, Nat.reduceLT, Int.reduceToNat, Int.reduceLE, Int.reduceLT, mens, men]
        cases hk : inB sig[j].kind_ 0 2 with
        | false =>
          simp only [EVA, ↓reduceIte, Nat.reduceEqDiff, Nat.reduceMul, reduceCtorEq, Nat.reduceAdd, Nat.reduceSub, Nat.reduceLeDiff, Nat.reduceLT, Int.reduceToNat, Int.reduceLE, Int.reduceLT, mens, men]
          rw [dc_false (hno fun h => inB_not.1 hk h.2.2)]
        | true =>
          have hk' := inB_iff.1 hk
          have hjl : j ≤ sig.length := by omega
          simp only [List.length_map, hjl, EVA, ↓reduceIte, Nat.reduceEqDiff, Nat.reduceMul, reduceCtorEq, Nat.reduceAdd, Nat.reduceSub, Nat.reduceLeDiff, Nat.reduceLT, Int.reduceToNat, Int.reduceLE, Int.reduceLT, mens, men]
          have hc := sem_coFk (P := Go.Proofs.Tryz.prog) g_coFControl g_ixFControl cControl_len (f := fun d : TControl => decide (d.name = sig[j].name)) (fe := fid_impl_IsSignature_1) (cs := [cControl sig[j]]) (sig.take j) (by rw [List.length_take]; omega) (fun d _ lvl S => sem_IsSignature_1 sig[j] d lvl S)
          rw [← cut_take0] at hc
          refine ⟨fun h => h.elim, Nat.zero_le _, kca_intro hc ?_⟩
          simp only [EVA, ↓reduceIte, Nat.reduceEqDiff, Nat.reduceMul, reduceCtorEq, Nat.reduceAdd, Nat.reduceSub, Nat.reduceLeDiff, Nat.reduceLT, Int.reduceToNat, Int.reduceLE, Int.reduceLT, mens, men]
          cases ha : (sig.take j).any (fun d : TControl => decide (d.name = sig[j].name)) with
          | true =>
            simp only [EVA, ↓reduceIte, Nat.reduceEqDiff, Nat.reduceMul, reduceCtorEq, Nat.reduceAdd, Nat.reduceSub, Nat.reduceLeDiff, Nat.reduceLT, Int.reduceToNat, Int.reduceLE, Int.reduceLT, mens, men]
            obtain ⟨d, hd, he⟩ := List.any_eq_true.1 ha
            obtain ⟨q, hq, rfl⟩ := List.getElem_of_mem hd
            rw [List.length_take] at hq
            rw [dc_false (fun hs : sigOK sig => (hs.1 j hja).2 q (by omega) (by simpa using he))]
          | false =>
            simp only [EVA, ↓reduceIte, Nat.reduceEqDiff, Nat.reduceMul, reduceCtorEq, Nat.reduceAdd, Nat.reduceSub, Nat.reduceLeDiff, Nat.reduceLT, Int.reduceToNat, Int.reduceLE, Int.reduceLT, mens, men]
            refine ⟨by rw [fits_i64]; omega, cntJ_intro () hja rfl (fun i hi => ?_)⟩
            by_cases e : i = j
            · subst e
              refine fun h => ⟨⟨hn', hp', hk'⟩, fun q hq => ?_⟩
              have := (List.any_eq_false.1 ha) sig[q] (by
                rw [List.mem_take_iff_getElem]
                exact ⟨q, by omega, rfl⟩)
              simpa using this
            · exact hA i (by omega)
  · have : j = sig.length := by omega
    subst this
    have hall : ∀ i, sigAt sig i := fun i h => hA i h h
    rw [dc_true (p := sigOK sig) ⟨hall, by omega, by omega⟩]
theorem g_ixFI : chkF Go.Proofs.Tryz.prog fid_slices_IndexFunc_int_int (gIxF 1 none) = true := by kernel_rfl
theorem g_coFI : chkF Go.Proofs.Tryz.prog fid_slices_ContainsFunc_int_int (gCoF fid_slices_IndexFunc_int_int) = true := by kernel_rfl
end Go.Fd

/-
  WHAT A SIZE THAT IS LEFT SAYS OF BOUNDS (printed by lawgen.py). Own work.
-/
namespace Go.Fd
/-- A measure that only falls, and what it shows where something is left. -/
def Zm (s : Int → Int) (P : Prop) : Prop := ∀ l : Int, 0 ≤ l → l ≤ 1048576 → s l ≤ l ∧ (0 ≤ s l → P)
theorem Zm_id : Zm (fun l => l) True := fun _ _ _ => ⟨Int.le_refl _, fun _ => trivial⟩
theorem Zm_th {s g : Int → Int} {P Q : Prop} (hs : Zm s P) (hg : Zm g Q) : Zm (fun l => szTh (s l) g) (P ∧ Q) := fun l h0 h1 => by
  have a := hs l h0 h1
  by_cases h : s l < 0
  · simp only [szTh, if_pos h]
    exact ⟨by omega, fun h => by omega⟩
  · simp only [szTh, if_neg h]
    have b := hg (s l) (by omega) (by omega)
    exact ⟨by omega, fun h2 => ⟨a.2 (by omega), b.2 h2⟩⟩
theorem Zm_N (n : Nat) : Zm (fun l => szN n l) (n ≤ 4294967296) := fun l h0 h1 => by
  simp only [szN]
  split
  · exact ⟨by omega, fun h => by omega⟩
  · exact ⟨by omega, fun h => by omega⟩
theorem Zm_str (n : Nat) : Zm (fun l => l - n) (n ≤ 4294967296) := fun l h0 h1 => ⟨by simp only; omega, fun h => by simp only at h; omega⟩
theorem Zm_F {α : Type} {f : α → Int → Int} {P : α → Prop} (hf : ∀ x, Zm (f x) (P x)) : ∀ (a : List α), Zm (fun l => szF f a l) (∀ y ∈ a, P y)
  | [] => fun l _ _ => ⟨Int.le_refl l, fun _ y hy => by cases hy⟩
  | x :: r => fun l h0 h1 => by
    simp only [szF]
    have a := hf x l h0 h1
    split
    · exact ⟨by omega, fun h => by omega⟩
    · have b := Zm_F hf r (f x l) (by omega) (by omega)
      refine ⟨by simp only at b; omega, fun h y hy => ?_⟩
      cases hy with
      | head => exact a.2 (by omega)
      | tail _ hy => exact b.2 h y hy
theorem Zm_L {α : Type} {f : α → Int → Int} {P : α → Prop} (hf : ∀ x, Zm (f x) (P x)) (a : List α) : Zm (fun l => szL f a l) (a.length ≤ 4294967296 ∧ ∀ y ∈ a, P y) := fun l h0 h1 => by
  simp only [szL]
  split
  · exact ⟨by omega, fun h => by omega⟩
  · have b := Zm_F hf a (l - a.length) (by omega) (by omega)
    simp only at b
    exact ⟨by omega, fun h => ⟨by omega, b.2 h⟩⟩
theorem Zm_imp {s : Int → Int} {P Q : Prop} (h : Zm s P) (hq : P → Q) : Zm s Q := fun l h0 h1 => ⟨(h l h0 h1).1, fun h2 => hq ((h l h0 h1).2 h2)⟩
theorem zpNode (x : TNode) : Zm (fun l => szNode x l) (bdNode 4294967296 x) := by
  unfold szNode
  exact Zm_imp (Zm_th (Zm_N _) Zm_id) (fun h => by unfold bdNode; simp only [and_assoc, and_true, true_and, implies_true, forall_const] at h ⊢; try exact h)
theorem zpWire (x : TWire) : Zm (fun l => szWire x l) (bdWire 4294967296 x) := by
  unfold szWire
  exact Zm_imp (Zm_th (Zm_str _) Zm_id) (fun h => by unfold bdWire; simp only [and_assoc, and_true, true_and, implies_true, forall_const] at h ⊢; try exact h)
theorem zpBigraph (x : TBigraph) : Zm (fun l => szBigraph x l) (bdBigraph 4294967296 x) := by
  unfold szBigraph
  exact Zm_imp (Zm_th (Zm_L (fun y => (zpNode _)) _) (Zm_th (Zm_N _) (Zm_th (Zm_L (fun y => (Zm_str _)) _) (Zm_th (Zm_L (fun y => (zpWire _)) _) Zm_id)))) (fun h => by unfold bdBigraph; simp only [and_assoc, and_true, true_and, implies_true, forall_const] at h ⊢; try exact h)
theorem zpSorting (x : TSorting) : Zm (fun l => szSorting x l) (bdSorting 4294967296 x) := by
  unfold szSorting
  exact Zm_imp (Zm_th (Zm_N _) (Zm_th (Zm_L (fun y => (Zm_N _)) _) (Zm_th (Zm_L (fun y => (Zm_N _)) _) (Zm_th (Zm_N _) (Zm_th (Zm_N _) Zm_id))))) (fun h => by unfold bdSorting; simp only [and_assoc, and_true, true_and, implies_true, forall_const] at h ⊢; try exact h)
theorem zpControl (x : TControl) : Zm (fun l => szControl x l) (bdControl 4294967296 x) := by
  unfold szControl
  exact Zm_imp (Zm_th (Zm_str _) Zm_id) (fun h => by unfold bdControl; simp only [and_assoc, and_true, true_and, implies_true, forall_const] at h ⊢; try exact h)
theorem mono_le {a : Nat} (h : a ≤ 4294967296) : a ≤ 9223372036854775807 := by omega
theorem monoControl {x : TControl} (h : bdControl 4294967296 x) : bdControl 9223372036854775807 x := by
  exact (mono_le h)
end Go.Fd

/-
  SORTINGS, BOTH SIDES: VALID, FREE, FINER. Own work.
-/
namespace Go.Fd
set_option maxRecDepth 20000

theorem all_succ {P : Nat → Prop} {j : Nat} (h : ∀ k, k < j → P k) (hj : P j) : ∀ k, k < j + 1 → P k := fun k hk => by
  by_cases e : k = j
  · subst e; exact hj
  · exact h k (by omega)

abbrev A2 := Int × Int

abbrev eIS : List Int → List Tr := fun l => [Tr.sl (rI l)]

def nestAt (sig : List TControl) (nest : List (List Int)) (k : Nat) : Prop := ∀ (h : k < nest.length) (h2 : k < sig.length), Ris 0 ((sig.length : Int) - 1) nest[k] ∧ (sig[k].kind_ = 2 → nest[k] = [])

def sortsAt (sig : List TControl) (sorts : List (List Int)) (many : Nat) (k : Nat) : Prop := ∀ (h : k < sorts.length) (h2 : k < sig.length), (sorts[k].length : Int) = sig[k].ports ∧ ∀ n ∈ sorts[k], 0 ≤ n ∧ n ≤ (many : Int) - 1

def lt2 (a b : A2) : Prop := a.1 < b.1 ∨ a.1 = b.1 ∧ a.2 < b.2

def apartAt (l : List A2) (many : Nat) (i : Nat) : Prop := ∀ h : i < l.length, 0 ≤ l[i].1 ∧ l[i].1 < l[i].2 ∧ l[i].2 < (many : Int) ∧ (∀ h0 : 0 < i, lt2 (l[i - 1]'(by omega)) l[i])

structure sortOK (sig : List TControl) (s : TSorting) : Prop where
  sg : sigOK sig
  tops : Ris 0 ((sig.length : Int) - 1) s.tops
  nestL : s.nest.length = sig.length
  nest : ∀ k, nestAt sig s.nest k
  sortsL : s.sorts.length = sig.length
  sorts : ∀ k, sortsAt sig s.sorts s.most.length k
  many : 1 ≤ s.most.length ∧ s.most.length ≤ 4
  most : ∀ n ∈ s.most, 0 ≤ n ∧ n ≤ 24
  apart : ∀ i, apartAt s.apart s.most.length i

/-! ## numbers in order -/
end Go.Fd

/-
  WHAT A VALID SORTING IS, BOTH SIDES. Own work.
-/
namespace Go.Fd
set_option maxRecDepth 20000

theorem sem_l7Controls (sig : List TControl) (l : List Int) (hn : sig.length ≤ 4294967296) (hl : l.length ≤ 9223372036854775807) (lvl : Nat) (S : Sto) : Sem Go.Proofs.Tryz.prog fid_spec_l7Controls lvl [.tr (.sl (sig.map cControl)), tI l] S (iB (dc (Ris 0 ((sig.length : Int) - 1) l))) S := by
  refine sem_of_chk k_spec_l7Controls trivial ?_
  simp only [c_spec_l7Controls, List.length_map, EVA, ↓reduceIte, Nat.reduceEqDiff, Nat.reduceMul, reduceCtorEq, Nat.reduceAdd, Nat.reduceSub, Nat.reduceLeDiff, Nat.reduceLT, Int.reduceToNat, Int.reduceLE, Int.reduceLT, mens, men]
  refine ⟨by rw [fits_i64]; omega, ?_⟩
  refine kca_intro (sem_l1Rising l 0 ((sig.length : Int) - 1) hl) ?_
  simp only [EVA, ↓reduceIte, Nat.reduceEqDiff, Nat.reduceMul, reduceCtorEq, Nat.reduceAdd, Nat.reduceSub, Nat.reduceLeDiff, Nat.reduceLT, Int.reduceToNat, Int.reduceLE, Int.reduceLT, mens, men]

def nestOK (sig : List TControl) (nest : List (List Int)) : Prop := nest.length = sig.length ∧ ∀ k, nestAt sig nest k

theorem sem_l7Nest (sig : List TControl) (nest : List (List Int)) (hn : sig.length ≤ 4294967296) (hl : nest.length ≤ 4294967296) (hb : ∀ y ∈ nest, y.length ≤ 4294967296) (lvl : Nat) (S : Sto) : Sem Go.Proofs.Tryz.prog fid_spec_l7Nest lvl [.tr (.sl (sig.map cControl)), .tr (.sl (nest.map eIS))] S (iB (dc (nestOK sig nest))) S := by
  refine sem_of_chk k_spec_l7Nest trivial ?_
  simp only [c_spec_l7Nest, List.length_map, EVA, ↓reduceIte, Nat.reduceEqDiff, Nat.reduceMul, reduceCtorEq, Nat.reduceAdd, Nat.reduceSub, Nat.reduceLeDiff, Nat.reduceLT, Int.reduceToNat, Int.reduceLE, Int.reduceLT, mens, men]
  refine ite_of (fun hne => ?_) (fun heq => ?_)
  · have : ¬ nestOK sig nest := fun h => by have := h.1; omega
    rw [dc_false this]
  have hE : nest.length = sig.length := by omega
  refine wp_cnt (α := Unit) nest.length (fun j _ => [(5, iI j)]) (fun j _ => []) (fun j _ => ∀ k, k < j → nestAt sig nest k) () (by simp only [EVA, ↓reduceIte, Nat.reduceEqDiff, Nat.reduceMul, reduceCtorEq, Nat.reduceAdd, Nat.reduceSub, Nat.reduceLeDiff, Nat.reduceLT, Int.reduceToNat, Int.reduceLE, Int.reduceLT, mens, men]) (by (simp only [EVA, ↓reduceIte, Nat.reduceEqDiff, Nat.reduceMul, reduceCtorEq, Nat.reduceAdd, Nat.reduceSub, Nat.reduceLeDiff, Nat.reduceLT, Int.reduceToNat, Int.reduceLE, Int.reduceLT, mens, men]) <;> rfl) (fun k hk => absurd hk (Nat.not_lt_zero k)) ?_
  intro j _ hj hA
  simp only [List.length_map, EVA, ↓reduceIte, Nat.reduceEqDiff, Nat.reduceMul, reduceCtorEq, Nat.reduceAdd, Nat.reduceSub, Nat.reduceLeDiff, Nat.reduceLT, Int.reduceToNat, Int.reduceLE, Int.reduceLT, mens, men]
  refine ite_of (fun hlt => ?_) (fun hge => ?_)
  · have hja : j < nest.length := by omega
    have hjs : j < sig.length := by omega
    have ga := getA (c := eIS) hja
    have gs := getA (c := cControl) hjs
    have hy : nest[j].length ≤ 4294967296 := hb _ (List.getElem_mem hja)
    simp only [ga, gs, List.length_map, cControl, EVA, ↓reduceIte, Nat.reduceEqDiff, Nat.reduceMul, reduceCtorEq, Nat.reduceAdd, Nat.reduceSub, Nat.reduceLeDiff, Nat.reduceLT, Int.reduceToNat, Int.reduceLE, Int.reduceLT, mens, men]
    refine kca_intro (sem_l7Controls sig nest[j] hn (by omega)) ?_
    cases hc : dc (Ris 0 ((sig.length : Int) - 1) nest[j])
    · simp only [EVA, ↓reduceIte, Nat.reduceEqDiff, Nat.reduceMul, reduceCtorEq, Nat.reduceAdd, Nat.reduceSub, Nat.reduceLeDiff, Nat.reduceLT, Int.reduceToNat, Int.reduceLE, Int.reduceLT, mens, men]
      have : ¬ nestOK sig nest := fun h => dc_not.1 hc (h.2 j hja hjs).1
      rw [dc_false this]
    have hR := dc_iff.1 hc
    by_cases hk : sig[j].kind_ = 2
    · simp only [ga, gs, List.length_map, cControl, hk, EVA, ↓reduceIte, Nat.reduceEqDiff, Nat.reduceMul, reduceCtorEq, Nat.reduceAdd, Nat.reduceSub, Nat.reduceLeDiff, Nat.reduceLT, Int.reduceToNat, Int.reduceLE, Int.reduceLT, mens, men]
      refine ite_of (fun hpos => ?_) (fun hz => ?_)
      · have : ¬ nestOK sig nest := fun h => by
          have := (h.2 j hja hjs).2 hk
          rw [this] at hpos
          simp at hpos
        rw [dc_false this]
      · have hz2 : nest[j] = [] := List.length_eq_zero_iff.1 (by omega)
        exact ⟨by rw [fits_i64]; omega, cntJ_intro () hja rfl (all_succ hA fun _ _ => ⟨hR, fun _ => hz2⟩)⟩
    · simp only [ga, gs, List.length_map, cControl, hk, EVA, ↓reduceIte, Nat.reduceEqDiff, Nat.reduceMul, reduceCtorEq, Nat.reduceAdd, Nat.reduceSub, Nat.reduceLeDiff, Nat.reduceLT, Int.reduceToNat, Int.reduceLE, Int.reduceLT, mens, men]
      exact ⟨by rw [fits_i64]; omega, cntJ_intro () hja rfl (all_succ hA fun _ _ => ⟨hR, fun h => absurd h hk⟩)⟩
  · have : j = nest.length := by omega
    subst this
    have : nestOK sig nest := ⟨hE, fun k h h2 => hA k h h h2⟩
    rw [dc_true this]

def sortsOK (sig : List TControl) (sorts : List (List Int)) (many : Nat) : Prop := sorts.length = sig.length ∧ ∀ k, sortsAt sig sorts many k

theorem sem_l7Sorts (sig : List TControl) (sorts : List (List Int)) (many : Nat) (hm : many ≤ 4294967296) (hn : sig.length ≤ 4294967296) (hl : sorts.length ≤ 4294967296) (hb : ∀ y ∈ sorts, y.length ≤ 4294967296) (lvl : Nat) (S : Sto) : Sem Go.Proofs.Tryz.prog fid_spec_l7Sorts lvl [.tr (.sl (sig.map cControl)), .tr (.sl (sorts.map eIS)), iI many] S (iB (dc (sortsOK sig sorts many))) S := by
  refine sem_of_chk k_spec_l7Sorts trivial ?_
  simp only [c_spec_l7Sorts, List.length_map, EVA, ↓reduceIte, Nat.reduceEqDiff, Nat.reduceMul, reduceCtorEq, Nat.reduceAdd, Nat.reduceSub, Nat.reduceLeDiff, Nat.reduceLT, Int.reduceToNat, Int.reduceLE, Int.reduceLT, mens, men]
  refine ite_of (fun hne => ?_) (fun heq => ?_)
  · have : ¬ sortsOK sig sorts many := fun h => by have := h.1; omega
    rw [dc_false this]
  have hE : sorts.length = sig.length := by omega
  refine wp_cnt (α := Unit) sorts.length (fun j _ => [(7, iI j)]) (fun j _ => []) (fun j _ => ∀ k, k < j → sortsAt sig sorts many k) () (by simp only [EVA, ↓reduceIte, Nat.reduceEqDiff, Nat.reduceMul, reduceCtorEq, Nat.reduceAdd, Nat.reduceSub, Nat.reduceLeDiff, Nat.reduceLT, Int.reduceToNat, Int.reduceLE, Int.reduceLT, mens, men]) (by (simp only [EVA, ↓reduceIte, Nat.reduceEqDiff, Nat.reduceMul, reduceCtorEq, Nat.reduceAdd, Nat.reduceSub, Nat.reduceLeDiff, Nat.reduceLT, Int.reduceToNat, Int.reduceLE, Int.reduceLT, mens, men]) <;> rfl) (fun k hk => absurd hk (Nat.not_lt_zero k)) ?_
  intro j _ hj hA
  simp only [List.length_map, EVA, ↓reduceIte, Nat.reduceEqDiff, Nat.reduceMul, reduceCtorEq, Nat.reduceAdd, Nat.reduceSub, Nat.reduceLeDiff, Nat.reduceLT, Int.reduceToNat, Int.reduceLE, Int.reduceLT, mens, men]
  refine ite_of (fun hlt => ?_) (fun hge => ?_)
  · have hja : j < sorts.length := by omega
    have hjs : j < sig.length := by omega
    have ga := getA (c := eIS) hja
    have gs := getA (c := cControl) hjs
    have hy : sorts[j].length ≤ 4294967296 := hb _ (List.getElem_mem hja)
    simp only [ga, gs, List.length_map, cControl, EVA, ↓reduceIte, Nat.reduceEqDiff, Nat.reduceMul, reduceCtorEq, Nat.reduceAdd, Nat.reduceSub, Nat.reduceLeDiff, Nat.reduceLT, Int.reduceToNat, Int.reduceLE, Int.reduceLT, mens, men]
    refine ite_of (fun hne => ?_) (fun heq => ?_)
    · have : ¬ sortsOK sig sorts many := fun h => hne (h.2 j hja hjs).1
      rw [dc_false this]
    have heq2 : (sorts[j].length : Int) = sig[j].ports := by omega
    refine wp_cnt (α := Unit) sorts[j].length (fun i _ => [(8, iI i)]) (fun i _ => []) (fun i _ => ∀ k, k < i → 0 ≤ g0 sorts[j] k ∧ g0 sorts[j] k ≤ (many : Int) - 1) () (by simp only [EVA, ↓reduceIte, Nat.reduceEqDiff, Nat.reduceMul, reduceCtorEq, Nat.reduceAdd, Nat.reduceSub, Nat.reduceLeDiff, Nat.reduceLT, Int.reduceToNat, Int.reduceLE, Int.reduceLT, mens, men]) (by (simp only [EVA, ↓reduceIte, Nat.reduceEqDiff, Nat.reduceMul, reduceCtorEq, Nat.reduceAdd, Nat.reduceSub, Nat.reduceLeDiff, Nat.reduceLT, Int.reduceToNat, Int.reduceLE, Int.reduceLT, mens, men]) <;> rfl) (fun k hk => absurd hk (Nat.not_lt_zero k)) ?_
    intro i _ hi hB
    simp only [ga, gs, List.length_map, cControl, EVA, ↓reduceIte, Nat.reduceEqDiff, Nat.reduceMul, reduceCtorEq, Nat.reduceAdd, Nat.reduceSub, Nat.reduceLeDiff, Nat.reduceLT, Int.reduceToNat, Int.reduceLE, Int.reduceLT, mens, men]
    refine ite_of (fun hlt2 => ?_) (fun hge2 => ?_)
    · have hia : i < sorts[j].length := by omega
      have gi := rI_get hia
      simp only [ga, gs, gi, List.length_map, EVA, ↓reduceIte, Nat.reduceEqDiff, Nat.reduceMul, reduceCtorEq, Nat.reduceAdd, Nat.reduceSub, Nat.reduceLeDiff, Nat.reduceLT, Int.reduceToNat, Int.reduceLE, Int.reduceLT, mens, men]
      refine ⟨by rw [fits_i64]; omega, ?_⟩
      refine kca_intro (sem_l1In (g0 sorts[j] i) 0 ((many : Int) - 1)) ?_
      cases hc : inB (g0 sorts[j] i) 0 ((many : Int) - 1)
      · simp only [EVA, ↓reduceIte, Nat.reduceEqDiff, Nat.reduceMul, reduceCtorEq, Nat.reduceAdd, Nat.reduceSub, Nat.reduceLeDiff, Nat.reduceLT, Int.reduceToNat, Int.reduceLE, Int.reduceLT, mens, men]
        have : ¬ sortsOK sig sorts many := fun h => inB_not.1 hc (by
          have := (h.2 j hja hjs).2 (g0 sorts[j] i) (by simp [hia])
          exact this)
        rw [dc_false this]
      · simp only [EVA, ↓reduceIte, Nat.reduceEqDiff, Nat.reduceMul, reduceCtorEq, Nat.reduceAdd, Nat.reduceSub, Nat.reduceLeDiff, Nat.reduceLT, Int.reduceToNat, Int.reduceLE, Int.reduceLT, mens, men]
        exact ⟨by rw [fits_i64]; omega, cntJ_intro () hia rfl (all_succ hB (inB_iff.1 hc))⟩
    · have : i = sorts[j].length := by omega
      subst this
      exact ⟨by rw [fits_i64]; omega, cntJ_intro () hja rfl (all_succ hA fun _ _ => ⟨heq2, fun n hn => by
        obtain ⟨k, hk, rfl⟩ := List.getElem_of_mem hn
        have := hB k hk
        simpa [hk] using this⟩)⟩
  · have : j = sorts.length := by omega
    subst this
    have : sortsOK sig sorts many := ⟨hE, fun k h h2 => hA k h h h2⟩
    rw [dc_true this]

theorem sem_l7Before (a b : A2) (lvl : Nat) (S : Sto) : Sem Go.Proofs.Tryz.prog fid_spec_l7Before lvl [.ag ((cA2 a).map .tr), .ag ((cA2 b).map .tr)] S (iB (dc (lt2 a b))) S := by
  refine sem_of_chk k_spec_l7Before trivial ?_
  simp only [c_spec_l7Before, cA2, EVA, ↓reduceIte, Nat.reduceEqDiff, Nat.reduceMul, reduceCtorEq, Nat.reduceAdd, Nat.reduceSub, Nat.reduceLeDiff, Nat.reduceLT, Int.reduceToNat, Int.reduceLE, Int.reduceLT, mens, men]
  by_cases h1 : a.1 < b.1
  · simp only [h1, EVA, ↓reduceIte, Nat.reduceEqDiff, Nat.reduceMul, reduceCtorEq, Nat.reduceAdd, Nat.reduceSub, Nat.reduceLeDiff, Nat.reduceLT, Int.reduceToNat, Int.reduceLE, Int.reduceLT, mens, men]
    have : lt2 a b := .inl h1
    rw [dc_true this]
  by_cases h2 : a.1 = b.1
  · have h3 : ¬ b.1 < b.1 := Int.lt_irrefl _
    simp only [h1, h2, h3, EVA, ↓reduceIte, Nat.reduceEqDiff, Nat.reduceMul, reduceCtorEq, Nat.reduceAdd, Nat.reduceSub, Nat.reduceLeDiff, Nat.reduceLT, Int.reduceToNat, Int.reduceLE, Int.reduceLT, mens, men]
    have : lt2 a b ↔ a.2 < b.2 := ⟨fun h => by rcases h with h | h <;> omega, fun h => .inr ⟨h2, h⟩⟩
    rw [dc_congr this, dc_decide]
  · simp only [h1, h2, EVA, ↓reduceIte, Nat.reduceEqDiff, Nat.reduceMul, reduceCtorEq, Nat.reduceAdd, Nat.reduceSub, Nat.reduceLeDiff, Nat.reduceLT, Int.reduceToNat, Int.reduceLE, Int.reduceLT, mens, men]
    have : ¬ lt2 a b := fun h => by rcases h with h | h <;> omega
    rw [dc_false this]

theorem sortOK_iff {sig : List TControl} {s : TSorting} : sortOK sig s ↔ sigOK sig ∧ Ris 0 ((sig.length : Int) - 1) s.tops ∧ nestOK sig s.nest ∧ sortsOK sig s.sorts s.most.length ∧ (1 ≤ s.most.length ∧ s.most.length ≤ 4) ∧ (∀ n ∈ s.most, 0 ≤ n ∧ n ≤ 24) ∧ ∀ i, apartAt s.apart s.most.length i :=
  ⟨fun h => ⟨h.sg, h.tops, ⟨h.nestL, h.nest⟩, ⟨h.sortsL, h.sorts⟩, h.many, h.most, h.apart⟩, fun ⟨a, b, c, d, e, f, g⟩ => ⟨a, b, c.1, c.2, d.1, d.2, e, f, g⟩⟩

theorem sem_l7Good (sig : List TControl) (s : TSorting) (hn : sig.length ≤ 4294967296) (hbs : ∀ y ∈ sig, bdControl 4294967296 y) (hb : bdSorting 4294967296 s) (lvl : Nat) (S : Sto) : Sem Go.Proofs.Tryz.prog fid_spec_l7Good lvl [.tr (.sl (sig.map cControl)), .ag ((cSorting s).map .tr)] S (iB (dc (sortOK sig s))) S := by
  obtain ⟨b1, b2, b3, b4, b5, b6, b7⟩ := hb
  refine sem_of_chk k_spec_l7Good trivial ?_
  simp only [c_spec_l7Good, List.length_map, cSorting, EVA, ↓reduceIte, Nat.reduceEqDiff, Nat.reduceMul, reduceCtorEq, Nat.reduceAdd, Nat.reduceSub, Nat.reduceLeDiff, Nat.reduceLT, Int.reduceToNat, Int.reduceLE, Int.reduceLT, mens, men]
  refine kca_intro (sem_l2Sig sig (by omega) (fun y hy => monoControl (hbs y hy))) ?_
  cases h1 : dc (sigOK sig)
  · simp only [EVA, ↓reduceIte, Nat.reduceEqDiff, Nat.reduceMul, reduceCtorEq, Nat.reduceAdd, Nat.reduceSub, Nat.reduceLeDiff, Nat.reduceLT, Int.reduceToNat, Int.reduceLE, Int.reduceLT, mens, men]
    rw [dc_false fun h => dc_not.1 h1 h.sg]
  simp only [List.length_map, cSorting, EVA, ↓reduceIte, Nat.reduceEqDiff, Nat.reduceMul, reduceCtorEq, Nat.reduceAdd, Nat.reduceSub, Nat.reduceLeDiff, Nat.reduceLT, Int.reduceToNat, Int.reduceLE, Int.reduceLT, mens, men]
  refine kca_intro (sem_l7Controls sig s.tops hn (by omega)) ?_
  cases h2 : dc (Ris 0 ((sig.length : Int) - 1) s.tops)
  · simp only [EVA, ↓reduceIte, Nat.reduceEqDiff, Nat.reduceMul, reduceCtorEq, Nat.reduceAdd, Nat.reduceSub, Nat.reduceLeDiff, Nat.reduceLT, Int.reduceToNat, Int.reduceLE, Int.reduceLT, mens, men]
    rw [dc_false fun h => dc_not.1 h2 h.tops]
  simp only [List.length_map, cSorting, EVA, ↓reduceIte, Nat.reduceEqDiff, Nat.reduceMul, reduceCtorEq, Nat.reduceAdd, Nat.reduceSub, Nat.reduceLeDiff, Nat.reduceLT, Int.reduceToNat, Int.reduceLE, Int.reduceLT, mens, men]
  refine kca_intro (sem_l7Nest sig s.nest hn b2 b3) ?_
  cases h3 : dc (nestOK sig s.nest)
  · simp only [EVA, ↓reduceIte, Nat.reduceEqDiff, Nat.reduceMul, reduceCtorEq, Nat.reduceAdd, Nat.reduceSub, Nat.reduceLeDiff, Nat.reduceLT, Int.reduceToNat, Int.reduceLE, Int.reduceLT, mens, men]
    rw [dc_false fun h => dc_not.1 h3 ⟨h.nestL, h.nest⟩]
  simp only [List.length_map, cSorting, EVA, ↓reduceIte, Nat.reduceEqDiff, Nat.reduceMul, reduceCtorEq, Nat.reduceAdd, Nat.reduceSub, Nat.reduceLeDiff, Nat.reduceLT, Int.reduceToNat, Int.reduceLE, Int.reduceLT, mens, men]
  refine kca_intro (sem_l1In s.most.length 1 4) ?_
  cases h4 : inB s.most.length 1 4
  · simp only [EVA, ↓reduceIte, Nat.reduceEqDiff, Nat.reduceMul, reduceCtorEq, Nat.reduceAdd, Nat.reduceSub, Nat.reduceLeDiff, Nat.reduceLT, Int.reduceToNat, Int.reduceLE, Int.reduceLT, mens, men]
    rw [dc_false fun h => inB_not.1 h4 (by have := h.many; omega)]
  simp only [List.length_map, cSorting, EVA, ↓reduceIte, Nat.reduceEqDiff, Nat.reduceMul, reduceCtorEq, Nat.reduceAdd, Nat.reduceSub, Nat.reduceLeDiff, Nat.reduceLT, Int.reduceToNat, Int.reduceLE, Int.reduceLT, mens, men]
  refine kca_intro (sem_l7Sorts sig s.sorts s.most.length b6 hn b4 b5) ?_
  cases h5 : dc (sortsOK sig s.sorts s.most.length)
  · simp only [EVA, ↓reduceIte, Nat.reduceEqDiff, Nat.reduceMul, reduceCtorEq, Nat.reduceAdd, Nat.reduceSub, Nat.reduceLeDiff, Nat.reduceLT, Int.reduceToNat, Int.reduceLE, Int.reduceLT, mens, men]
    rw [dc_false fun h => dc_not.1 h5 ⟨h.sortsL, h.sorts⟩]
  simp only [List.length_map, cSorting, EVA, ↓reduceIte, Nat.reduceEqDiff, Nat.reduceMul, reduceCtorEq, Nat.reduceAdd, Nat.reduceSub, Nat.reduceLeDiff, Nat.reduceLT, Int.reduceToNat, Int.reduceLE, Int.reduceLT, mens, men]
  refine wp_cnt (α := Unit) s.most.length (fun j _ => [(5, iI j)]) (fun j _ => []) (fun j _ => ∀ k, k < j → 0 ≤ g0 s.most k ∧ g0 s.most k ≤ 24) () (by simp only [EVA, ↓reduceIte, Nat.reduceEqDiff, Nat.reduceMul, reduceCtorEq, Nat.reduceAdd, Nat.reduceSub, Nat.reduceLeDiff, Nat.reduceLT, Int.reduceToNat, Int.reduceLE, Int.reduceLT, mens, men]) (by (simp only [EVA, ↓reduceIte, Nat.reduceEqDiff, Nat.reduceMul, reduceCtorEq, Nat.reduceAdd, Nat.reduceSub, Nat.reduceLeDiff, Nat.reduceLT, Int.reduceToNat, Int.reduceLE, Int.reduceLT, mens, men]) <;> rfl) (fun k hk => absurd hk (Nat.not_lt_zero k)) ?_
  intro j _ hj hA
  simp only [List.length_map, cSorting, EVA, ↓reduceIte, Nat.reduceEqDiff, Nat.reduceMul, reduceCtorEq, Nat.reduceAdd, Nat.reduceSub, Nat.reduceLeDiff, Nat.reduceLT, Int.reduceToNat, Int.reduceLE, Int.reduceLT, mens, men]
  refine ite_of (fun hlt => ?_) (fun hge => ?_)
  · have hja : j < s.most.length := by omega
    have ga := rI_get hja
    simp only [ga, List.length_map, cSorting, EVA, ↓reduceIte, Nat.reduceEqDiff, Nat.reduceMul, reduceCtorEq, Nat.reduceAdd, Nat.reduceSub, Nat.reduceLeDiff, Nat.reduceLT, Int.reduceToNat, Int.reduceLE, Int.reduceLT, mens, men]
    refine kca_intro (sem_l1In (g0 s.most j) 0 24) ?_
    cases hc : inB (g0 s.most j) 0 24
    · simp only [EVA, ↓reduceIte, Nat.reduceEqDiff, Nat.reduceMul, reduceCtorEq, Nat.reduceAdd, Nat.reduceSub, Nat.reduceLeDiff, Nat.reduceLT, Int.reduceToNat, Int.reduceLE, Int.reduceLT, mens, men]
      rw [dc_false fun h => inB_not.1 hc (h.most _ (by simp [hja]))]
    · simp only [EVA, ↓reduceIte, Nat.reduceEqDiff, Nat.reduceMul, reduceCtorEq, Nat.reduceAdd, Nat.reduceSub, Nat.reduceLeDiff, Nat.reduceLT, Int.reduceToNat, Int.reduceLE, Int.reduceLT, mens, men]
      exact ⟨by rw [fits_i64]; omega, cntJ_intro () hja rfl (all_succ hA (inB_iff.1 hc))⟩
  have hj0 : j = s.most.length := by omega
  subst hj0
  have hM : ∀ n ∈ s.most, 0 ≤ n ∧ n ≤ 24 := fun n hn => by
    obtain ⟨k, hk, rfl⟩ := List.getElem_of_mem hn
    have := hA k hk
    simpa [hk] using this
  refine wp_cnt (α := Unit) s.apart.length (fun j _ => [(6, iI j)]) (fun j _ => []) (fun j _ => ∀ k, k < j → apartAt s.apart s.most.length k) () (by simp only [EVA, ↓reduceIte, Nat.reduceEqDiff, Nat.reduceMul, reduceCtorEq, Nat.reduceAdd, Nat.reduceSub, Nat.reduceLeDiff, Nat.reduceLT, Int.reduceToNat, Int.reduceLE, Int.reduceLT, mens, men]) (by (simp only [EVA, ↓reduceIte, Nat.reduceEqDiff, Nat.reduceMul, reduceCtorEq, Nat.reduceAdd, Nat.reduceSub, Nat.reduceLeDiff, Nat.reduceLT, Int.reduceToNat, Int.reduceLE, Int.reduceLT, mens, men]) <;> rfl) (fun k hk => absurd hk (Nat.not_lt_zero k)) ?_
  intro j _ hj hB
  simp only [List.length_map, cSorting, EVA, ↓reduceIte, Nat.reduceEqDiff, Nat.reduceMul, reduceCtorEq, Nat.reduceAdd, Nat.reduceSub, Nat.reduceLeDiff, Nat.reduceLT, Int.reduceToNat, Int.reduceLE, Int.reduceLT, mens, men]
  refine ite_of (fun hlt => ?_) (fun hge => ?_)
  · have hja : j < s.apart.length := by omega
    have ga := getA (c := cA2) hja
    have hno : ¬ apartAt s.apart s.most.length j → dc (sortOK sig s) = false := fun h => dc_false fun g => h (g.apart j)
    simp only [ga, List.length_map, cSorting, cA2, EVA, ↓reduceIte, Nat.reduceEqDiff, Nat.reduceMul, reduceCtorEq, Nat.reduceAdd, Nat.reduceSub, Nat.reduceLeDiff, Nat.reduceLT, Int.reduceToNat, Int.reduceLE, Int.reduceLT, mens, men]
    by_cases q1 : s.apart[j].1 < 0
    · simp only [q1, EVA, ↓reduceIte, Nat.reduceEqDiff, Nat.reduceMul, reduceCtorEq, Nat.reduceAdd, Nat.reduceSub, Nat.reduceLeDiff, Nat.reduceLT, Int.reduceToNat, Int.reduceLE, Int.reduceLT, mens, men]
      rw [hno fun h => by have := (h hja).1; omega]
    by_cases q2 : s.apart[j].1 ≥ s.apart[j].2
    · simp only [q1, q2, EVA, ↓reduceIte, Nat.reduceEqDiff, Nat.reduceMul, reduceCtorEq, Nat.reduceAdd, Nat.reduceSub, Nat.reduceLeDiff, Nat.reduceLT, Int.reduceToNat, Int.reduceLE, Int.reduceLT, mens, men]
      rw [hno fun h => by have := (h hja).2.1; omega]
    by_cases q3 : s.apart[j].2 ≥ (s.most.length : Int)
    · simp only [q1, q2, q3, List.length_map, cSorting, EVA, ↓reduceIte, Nat.reduceEqDiff, Nat.reduceMul, reduceCtorEq, Nat.reduceAdd, Nat.reduceSub, Nat.reduceLeDiff, Nat.reduceLT, Int.reduceToNat, Int.reduceLE, Int.reduceLT, mens, men]
      rw [hno fun h => by have := (h hja).2.2.1; omega]
    by_cases q4 : 0 < j
    · have e1 : ((j : Int) - 1).toNat = j - 1 := by omega
      have e2 : (0 : Int) ≤ j - 1 := by omega
      have q5 : (0 : Int) < j := by omega
      have gb := getA (c := cA2) (l := s.apart) (j := j - 1) (by omega)
      simp only [q1, q2, q3, q5, e1, e2, ga, gb, List.length_map, cSorting, cA2, EVA, ↓reduceIte, Nat.reduceEqDiff, Nat.reduceMul, reduceCtorEq, Nat.reduceAdd, Nat.reduceSub, Nat.reduceLeDiff, Nat.reduceLT, Int.reduceToNat, Int.reduceLE, Int.reduceLT, mens, men]
      refine ⟨by rw [fits_i64]; omega, ?_⟩
      refine kca_intro (sem_l7Before (s.apart[j - 1]'(by omega)) s.apart[j]) ?_
      cases hc : dc (lt2 (s.apart[j - 1]'(by omega)) s.apart[j])
      · simp only [EVA, ↓reduceIte, Nat.reduceEqDiff, Nat.reduceMul, reduceCtorEq, Nat.reduceAdd, Nat.reduceSub, Nat.reduceLeDiff, Nat.reduceLT, Int.reduceToNat, Int.reduceLE, Int.reduceLT, mens, men]
        rw [hno fun h => dc_not.1 hc ((h hja).2.2.2 q4)]
      · simp only [EVA, ↓reduceIte, Nat.reduceEqDiff, Nat.reduceMul, reduceCtorEq, Nat.reduceAdd, Nat.reduceSub, Nat.reduceLeDiff, Nat.reduceLT, Int.reduceToNat, Int.reduceLE, Int.reduceLT, mens, men]
        exact ⟨by rw [fits_i64]; omega, cntJ_intro () hja rfl (all_succ hB fun _ => ⟨by omega, by omega, by omega, fun _ => dc_iff.1 hc⟩)⟩
    · have q5 : ¬ (0 : Int) < j := by omega
      simp only [q1, q2, q3, q5, ga, List.length_map, cSorting, cA2, EVA, ↓reduceIte, Nat.reduceEqDiff, Nat.reduceMul, reduceCtorEq, Nat.reduceAdd, Nat.reduceSub, Nat.reduceLeDiff, Nat.reduceLT, Int.reduceToNat, Int.reduceLE, Int.reduceLT, mens, men]
      exact ⟨by rw [fits_i64]; omega, cntJ_intro () hja rfl (all_succ hB fun _ => ⟨by omega, by omega, by omega, fun h => absurd h q4⟩)⟩
  · have hj1 : j = s.apart.length := by omega
    subst hj1
    rw [dc_true (sortOK_iff.2 ⟨dc_iff.1 h1, dc_iff.1 h2, dc_iff.1 h3, dc_iff.1 h5, by have := inB_iff.1 h4; omega, hM, fun i h => hB i h h⟩)]

end Go.Fd

/-
  A VALID SORTING, THE PROGRAM'S SIDE. Own work.
-/
namespace Go.Fd
set_option maxRecDepth 20000

def cmp2 (a b : A2) : Int := cmpL [a.1, a.2] [b.1, b.2]

theorem cmp2_lt {a b : A2} : cmp2 a b < 0 ↔ lt2 a b := by
  unfold cmp2 lt2
  simp only [cmpL]
  by_cases h1 : a.1 < b.1
  · simp [h1]
  · by_cases h2 : b.1 < a.1
    · simp [h1, h2]; omega
    · by_cases h3 : a.2 < b.2
      · simp [h1, h2, h3]; omega
      · by_cases h4 : b.2 < a.2 <;> simp [h1, h2, h3, h4]

theorem sem_comparePairs (a b : A2) (lvl : Nat) (S : Sto) : Sem Go.Proofs.Tryz.prog fid_impl_comparePairs lvl [.ag ((cA2 a).map .tr), .ag ((cA2 b).map .tr)] S (iI (cmp2 a b)) S := by
  refine sem_of_chk k_impl_comparePairs trivial ?_
  simp only [c_impl_comparePairs, cA2, EVA, ↓reduceIte, Nat.reduceEqDiff, Nat.reduceMul, reduceCtorEq, Nat.reduceAdd, Nat.reduceSub, Nat.reduceLeDiff, Nat.reduceLT, Int.reduceToNat, Int.reduceLE, Int.reduceLT, mens, men]
  refine kca_intro (sem_Compare [a.1, a.2] [b.1, b.2] (by simp) (by simp)) ?_
  simp only [EVA, ↓reduceIte, Nat.reduceEqDiff, Nat.reduceMul, reduceCtorEq, Nat.reduceAdd, Nat.reduceSub, Nat.reduceLeDiff, Nat.reduceLT, Int.reduceToNat, Int.reduceLE, Int.reduceLT, mens, men]
  rfl

def apartOK (l : List A2) (many : Nat) : Prop := ∀ i, apartAt l many i

theorem sem_arePairs (l : List A2) (many : Nat) (hm : many ≤ 4294967296) (hl : l.length ≤ 4294967296) (lvl : Nat) (S : Sto) : Sem Go.Proofs.Tryz.prog fid_impl_arePairs lvl [.tr (.sl (l.map cA2)), iI many] S (iB (dc (apartOK l many))) S := by
  refine sem_of_chk k_impl_arePairs trivial ?_
  simp only [c_impl_arePairs, List.length_map, EVA, ↓reduceIte, Nat.reduceEqDiff, Nat.reduceMul, reduceCtorEq, Nat.reduceAdd, Nat.reduceSub, Nat.reduceLeDiff, Nat.reduceLT, Int.reduceToNat, Int.reduceLE, Int.reduceLT, mens, men]
  refine wp_cnt (α := Unit) l.length (fun j _ => [(9, iI j)]) (fun j _ => []) (fun j _ => ∀ k, k < j → apartAt l many k) () (by simp only [EVA, ↓reduceIte, Nat.reduceEqDiff, Nat.reduceMul, reduceCtorEq, Nat.reduceAdd, Nat.reduceSub, Nat.reduceLeDiff, Nat.reduceLT, Int.reduceToNat, Int.reduceLE, Int.reduceLT, mens, men]) (by (simp only [EVA, ↓reduceIte, Nat.reduceEqDiff, Nat.reduceMul, reduceCtorEq, Nat.reduceAdd, Nat.reduceSub, Nat.reduceLeDiff, Nat.reduceLT, Int.reduceToNat, Int.reduceLE, Int.reduceLT, mens, men]) <;> rfl) (fun k hk => absurd hk (Nat.not_lt_zero k)) ?_
  intro j _ hj hB
  simp only [List.length_map, EVA, ↓reduceIte, Nat.reduceEqDiff, Nat.reduceMul, reduceCtorEq, Nat.reduceAdd, Nat.reduceSub, Nat.reduceLeDiff, Nat.reduceLT, Int.reduceToNat, Int.reduceLE, Int.reduceLT, mens, men]
  refine ite_of (fun hlt => ?_) (fun hge => ?_)
  · have hja : j < l.length := by omega
    have ga := getA (c := cA2) hja
    have hno : ¬ apartAt l many j → dc (apartOK l many) = false := fun h => dc_false fun g => h (g j)
    simp only [ga, List.length_map, cA2, EVA, ↓reduceIte, Nat.reduceEqDiff, Nat.reduceMul, reduceCtorEq, Nat.reduceAdd, Nat.reduceSub, Nat.reduceLeDiff, Nat.reduceLT, Int.reduceToNat, Int.reduceLE, Int.reduceLT, mens, men]
    refine kca_intro (sem_within l[j].1 0 (IntKind.wrap .i64 (l[j].2 - 1))) ?_
    cases p1 : inB l[j].1 0 (IntKind.wrap .i64 (l[j].2 - 1))
    · simp only [EVA, ↓reduceIte, Nat.reduceEqDiff, Nat.reduceMul, reduceCtorEq, Nat.reduceAdd, Nat.reduceSub, Nat.reduceLeDiff, Nat.reduceLT, Int.reduceToNat, Int.reduceLE, Int.reduceLT, mens, men]
      rw [hno fun h => inB_not.1 p1 (by
        have h2 := h hja
        rw [wrap_fits (by rw [fits_i64]; omega)]
        omega)]
    simp only [ga, List.length_map, cA2, EVA, ↓reduceIte, Nat.reduceEqDiff, Nat.reduceMul, reduceCtorEq, Nat.reduceAdd, Nat.reduceSub, Nat.reduceLeDiff, Nat.reduceLT, Int.reduceToNat, Int.reduceLE, Int.reduceLT, mens, men]
    refine ⟨by rw [fits_i64]; omega, ?_⟩
    refine kca_intro (sem_within l[j].2 0 ((many : Int) - 1)) ?_
    cases p2 : inB l[j].2 0 ((many : Int) - 1)
    · simp only [EVA, ↓reduceIte, Nat.reduceEqDiff, Nat.reduceMul, reduceCtorEq, Nat.reduceAdd, Nat.reduceSub, Nat.reduceLeDiff, Nat.reduceLT, Int.reduceToNat, Int.reduceLE, Int.reduceLT, mens, men]
      rw [hno fun h => inB_not.1 p2 (by
        have h2 := h hja
        omega)]
    have r2 := inB_iff.1 p2
    have r1 := inB_iff.1 p1
    rw [wrap_fits (by rw [fits_i64]; omega)] at r1
    by_cases q4 : 0 < j
    · have e1 : ((j : Int) - 1).toNat = j - 1 := by omega
      have e2 : (0 : Int) ≤ j - 1 := by omega
      have q5 : (0 : Int) < j := by omega
      have gb := getA (c := cA2) (l := l) (j := j - 1) (by omega)
      simp only [q5, e1, e2, ga, gb, List.length_map, cA2, EVA, ↓reduceIte, Nat.reduceEqDiff, Nat.reduceMul, reduceCtorEq, Nat.reduceAdd, Nat.reduceSub, Nat.reduceLeDiff, Nat.reduceLT, Int.reduceToNat, Int.reduceLE, Int.reduceLT, mens, men]
      refine ⟨by rw [fits_i64]; omega, ?_⟩
      refine kca_intro (sem_comparePairs (l[j - 1]'(by omega)) l[j]) ?_
      by_cases hc : 0 ≤ cmp2 (l[j - 1]'(by omega)) l[j]
      · simp only [hc, EVA, ↓reduceIte, Nat.reduceEqDiff, Nat.reduceMul, reduceCtorEq, Nat.reduceAdd, Nat.reduceSub, Nat.reduceLeDiff, Nat.reduceLT, Int.reduceToNat, Int.reduceLE, Int.reduceLT, mens, men]
        rw [hno fun h => by
          have := cmp2_lt.2 ((h hja).2.2.2 q4)
          omega]
      · have hc2 : cmp2 (l[j - 1]'(by omega)) l[j] < 0 := by omega
        simp only [hc, EVA, ↓reduceIte, Nat.reduceEqDiff, Nat.reduceMul, reduceCtorEq, Nat.reduceAdd, Nat.reduceSub, Nat.reduceLeDiff, Nat.reduceLT, Int.reduceToNat, Int.reduceLE, Int.reduceLT, mens, men]
        exact ⟨by rw [fits_i64]; omega, cntJ_intro () hja rfl (all_succ hB fun _ => ⟨by omega, by omega, by omega, fun _ => cmp2_lt.1 hc2⟩)⟩
    · have q5 : ¬ (0 : Int) < j := by omega
      simp only [q5, ga, List.length_map, cA2, EVA, ↓reduceIte, Nat.reduceEqDiff, Nat.reduceMul, reduceCtorEq, Nat.reduceAdd, Nat.reduceSub, Nat.reduceLeDiff, Nat.reduceLT, Int.reduceToNat, Int.reduceLE, Int.reduceLT, mens, men]
      exact ⟨by rw [fits_i64]; omega, cntJ_intro () hja rfl (all_succ hB fun _ => ⟨by omega, by omega, by omega, fun h => absurd h q4⟩)⟩
  · have hj1 : j = l.length := by omega
    subst hj1
    have : apartOK l many := fun i h => hB i h h
    rw [dc_true this]

theorem sem_IsSorting_1 (n : Int) (lvl : Nat) (S : Sto) : Sem Go.Proofs.Tryz.prog fid_impl_IsSorting_1 lvl [iI n] S (iB (!inB n 0 24)) S := by
  refine sem_of_chk k_impl_IsSorting_1 trivial ?_
  simp only [c_impl_IsSorting_1, EVA, ↓reduceIte, Nat.reduceEqDiff, Nat.reduceMul, reduceCtorEq, Nat.reduceAdd, Nat.reduceSub, Nat.reduceLeDiff, Nat.reduceLT, Int.reduceToNat, Int.reduceLE, Int.reduceLT, mens, men]
  refine kca_intro (sem_within n 0 24) ?_
  simp only [EVA, ↓reduceIte, Nat.reduceEqDiff, Nat.reduceMul, reduceCtorEq, Nat.reduceAdd, Nat.reduceSub, Nat.reduceLeDiff, Nat.reduceLT, Int.reduceToNat, Int.reduceLE, Int.reduceLT, mens, men]

theorem sem_IsSorting_2 (n : Int) (s : TSorting) (hm : s.most.length ≤ 4294967296) (lvl : Nat) (S : Sto) : Sem Go.Proofs.Tryz.prog fid_impl_IsSorting_2 lvl [iI n, .ta (cSorting s)] S (iB (!inB n 0 ((s.most.length : Int) - 1))) S := by
  refine sem_of_chk k_impl_IsSorting_2 trivial ?_
  simp only [c_impl_IsSorting_2, cSorting, List.length_map, EVA, ↓reduceIte, Nat.reduceEqDiff, Nat.reduceMul, reduceCtorEq, Nat.reduceAdd, Nat.reduceSub, Nat.reduceLeDiff, Nat.reduceLT, Int.reduceToNat, Int.reduceLE, Int.reduceLT, mens, men]
  refine ⟨by rw [fits_i64]; omega, ?_⟩
  refine kca_intro (sem_within n 0 ((s.most.length : Int) - 1)) ?_
  simp only [EVA, ↓reduceIte, Nat.reduceEqDiff, Nat.reduceMul, reduceCtorEq, Nat.reduceAdd, Nat.reduceSub, Nat.reduceLeDiff, Nat.reduceLT, Int.reduceToNat, Int.reduceLE, Int.reduceLT, mens, men]

theorem any_out {l : List Int} {a b : Int} : (l.any fun n => !inB n a b) = false ↔ ∀ n ∈ l, a ≤ n ∧ n ≤ b := by
  simp only [List.any_eq_false, Bool.not_eq_true', Bool.not_eq_false, inB_iff]

theorem sem_impl_IsSorting (sig : List TControl) (s : TSorting) (hn : sig.length ≤ 4294967296) (hbs : ∀ y ∈ sig, bdControl 4294967296 y) (hb : bdSorting 4294967296 s) (lvl : Nat) (S : Sto) : Sem Go.Proofs.Tryz.prog fid_impl_IsSorting lvl [.tr (.sl (sig.map cControl)), .ag ((cSorting s).map .tr)] S (iB (dc (sortOK sig s))) S := by
  obtain ⟨b1, b2, b3, b4, b5, b6, b7⟩ := hb
  refine sem_of_chk k_impl_IsSorting trivial ?_
  simp only [c_impl_IsSorting, List.length_map, cSorting, EVA, ↓reduceIte, Nat.reduceEqDiff, Nat.reduceMul, reduceCtorEq, Nat.reduceAdd, Nat.reduceSub, Nat.reduceLeDiff, Nat.reduceLT, Int.reduceToNat, Int.reduceLE, Int.reduceLT, mens, men]
  refine kca_intro (sem_impl_IsSignature sig (by omega) (fun y hy => monoControl (hbs y hy))) ?_
  cases h1 : dc (sigOK sig)
  · simp only [EVA, ↓reduceIte, Nat.reduceEqDiff, Nat.reduceMul, reduceCtorEq, Nat.reduceAdd, Nat.reduceSub, Nat.reduceLeDiff, Nat.reduceLT, Int.reduceToNat, Int.reduceLE, Int.reduceLT, mens, men]
    rw [dc_false fun h => dc_not.1 h1 h.sg]
  simp only [List.length_map, cSorting, EVA, ↓reduceIte, Nat.reduceEqDiff, Nat.reduceMul, reduceCtorEq, Nat.reduceAdd, Nat.reduceSub, Nat.reduceLeDiff, Nat.reduceLT, Int.reduceToNat, Int.reduceLE, Int.reduceLT, mens, men]
  refine kca_intro (sem_isRising s.tops sig.length (by omega) (by omega) (by omega)) ?_
  cases h2 : dc (Ris 0 ((sig.length : Int) - 1) s.tops)
  · simp only [EVA, ↓reduceIte, Nat.reduceEqDiff, Nat.reduceMul, reduceCtorEq, Nat.reduceAdd, Nat.reduceSub, Nat.reduceLeDiff, Nat.reduceLT, Int.reduceToNat, Int.reduceLE, Int.reduceLT, mens, men]
    rw [dc_false fun h => dc_not.1 h2 h.tops]
  by_cases e3 : s.nest.length = sig.length
  case neg =>
    have e3' : ¬ (s.nest.length : Int) = sig.length := by omega
    simp only [e3', List.length_map, cSorting, EVA, ↓reduceIte, Nat.reduceEqDiff, Nat.reduceMul, reduceCtorEq, Nat.reduceAdd, Nat.reduceSub, Nat.reduceLeDiff, Nat.reduceLT, Int.reduceToNat, Int.reduceLE, Int.reduceLT, mens, men]
    rw [dc_false fun h => e3 h.nestL]
  by_cases e4 : s.sorts.length = sig.length
  case neg =>
    have e4' : ¬ (s.sorts.length : Int) = sig.length := by omega
    simp only [e3, e4', List.length_map, cSorting, EVA, ↓reduceIte, Nat.reduceEqDiff, Nat.reduceMul, reduceCtorEq, Nat.reduceAdd, Nat.reduceSub, Nat.reduceLeDiff, Nat.reduceLT, Int.reduceToNat, Int.reduceLE, Int.reduceLT, mens, men]
    rw [dc_false fun h => e4 h.sortsL]
  simp only [e3, e4, List.length_map, cSorting, EVA, ↓reduceIte, Nat.reduceEqDiff, Nat.reduceMul, reduceCtorEq, Nat.reduceAdd, Nat.reduceSub, Nat.reduceLeDiff, Nat.reduceLT, Int.reduceToNat, Int.reduceLE, Int.reduceLT, mens, men]
  refine kca_intro (sem_within s.most.length 1 4) ?_
  cases h4 : inB s.most.length 1 4
  · simp only [EVA, ↓reduceIte, Nat.reduceEqDiff, Nat.reduceMul, reduceCtorEq, Nat.reduceAdd, Nat.reduceSub, Nat.reduceLeDiff, Nat.reduceLT, Int.reduceToNat, Int.reduceLE, Int.reduceLT, mens, men]
    rw [dc_false fun h => inB_not.1 h4 (by have := h.many; omega)]
  simp only [List.length_map, cSorting, EVA, ↓reduceIte, Nat.reduceEqDiff, Nat.reduceMul, reduceCtorEq, Nat.reduceAdd, Nat.reduceSub, Nat.reduceLeDiff, Nat.reduceLT, Int.reduceToNat, Int.reduceLE, Int.reduceLT, mens, men]
  refine kca_intro (sem_coF1 (t := tv) (cs := []) g_coFI g_ixFI s.most (by omega) (fun x _ lvl S => sem_IsSorting_1 x lvl S)) ?_
  cases h5 : s.most.any fun n => !inB n 0 24
  case true =>
    simp only [EVA, ↓reduceIte, Nat.reduceEqDiff, Nat.reduceMul, reduceCtorEq, Nat.reduceAdd, Nat.reduceSub, Nat.reduceLeDiff, Nat.reduceLT, Int.reduceToNat, Int.reduceLE, Int.reduceLT, mens, men]
    rw [dc_false fun h => by rw [any_out.2 h.most] at h5; cases h5]
  simp only [List.length_map, cSorting, EVA, ↓reduceIte, Nat.reduceEqDiff, Nat.reduceMul, reduceCtorEq, Nat.reduceAdd, Nat.reduceSub, Nat.reduceLeDiff, Nat.reduceLT, Int.reduceToNat, Int.reduceLE, Int.reduceLT, mens, men]
  refine kca_intro (sem_arePairs s.apart s.most.length b6 b7) ?_
  cases h6 : dc (apartOK s.apart s.most.length)
  · simp only [EVA, ↓reduceIte, Nat.reduceEqDiff, Nat.reduceMul, reduceCtorEq, Nat.reduceAdd, Nat.reduceSub, Nat.reduceLeDiff, Nat.reduceLT, Int.reduceToNat, Int.reduceLE, Int.reduceLT, mens, men]
    rw [dc_false fun h => dc_not.1 h6 h.apart]
  simp only [List.length_map, cSorting, EVA, ↓reduceIte, Nat.reduceEqDiff, Nat.reduceMul, reduceCtorEq, Nat.reduceAdd, Nat.reduceSub, Nat.reduceLeDiff, Nat.reduceLT, Int.reduceToNat, Int.reduceLE, Int.reduceLT, mens, men]
  refine wp_cnt (α := Unit) sig.length (fun j _ => [(55, iI j)]) (fun j _ => []) (fun j _ => ∀ k, k < j → nestAt sig s.nest k ∧ sortsAt sig s.sorts s.most.length k) () (by simp only [EVA, ↓reduceIte, Nat.reduceEqDiff, Nat.reduceMul, reduceCtorEq, Nat.reduceAdd, Nat.reduceSub, Nat.reduceLeDiff, Nat.reduceLT, Int.reduceToNat, Int.reduceLE, Int.reduceLT, mens, men]) (by (simp only [EVA, ↓reduceIte, Nat.reduceEqDiff, Nat.reduceMul, reduceCtorEq, Nat.reduceAdd, Nat.reduceSub, Nat.reduceLeDiff, Nat.reduceLT, Int.reduceToNat, Int.reduceLE, Int.reduceLT, mens, men]) <;> rfl) (fun k hk => absurd hk (Nat.not_lt_zero k)) ?_
  intro j _ hj hA
  simp only [List.length_map, cSorting, EVA, ↓reduceIte, Nat.reduceEqDiff, Nat.reduceMul, reduceCtorEq, Nat.reduceAdd, Nat.reduceSub, Nat.reduceLeDiff, Nat.reduceLT, Int.reduceToNat, Int.reduceLE, Int.reduceLT, mens, men]
  refine ite_of (fun hlt => ?_) (fun hge => ?_)
  · have hja : j < sig.length := by omega
    have hjn : j < s.nest.length := by omega
    have hjs : j < s.sorts.length := by omega
    have ga := getA (c := cControl) hja
    have gn := getA (c := eIS) hjn
    have gs := getA (c := eIS) hjs
    have y1 : s.nest[j].length ≤ 4294967296 := b3 _ (List.getElem_mem hjn)
    have y2 : s.sorts[j].length ≤ 4294967296 := b5 _ (List.getElem_mem hjs)
    simp only [ga, gn, gs, List.length_map, cSorting, cControl, EVA, ↓reduceIte, Nat.reduceEqDiff, Nat.reduceMul, reduceCtorEq, Nat.reduceAdd, Nat.reduceSub, Nat.reduceLeDiff, Nat.reduceLT, Int.reduceToNat, Int.reduceLE, Int.reduceLT, mens, men]
    refine kca_intro (sem_isRising s.nest[j] sig.length (by omega) (by omega) (by omega)) ?_
    cases p1 : dc (Ris 0 ((sig.length : Int) - 1) s.nest[j])
    · simp only [EVA, ↓reduceIte, Nat.reduceEqDiff, Nat.reduceMul, reduceCtorEq, Nat.reduceAdd, Nat.reduceSub, Nat.reduceLeDiff, Nat.reduceLT, Int.reduceToNat, Int.reduceLE, Int.reduceLT, mens, men]
      rw [dc_false fun h => dc_not.1 p1 (h.nest j hjn hja).1]
    by_cases p2 : sig[j].kind_ = 2 ∧ (0 : Int) < s.nest[j].length
    · simp only [p2.1, p2.2, ga, gn, gs, List.length_map, cSorting, cControl, EVA, ↓reduceIte, Nat.reduceEqDiff, Nat.reduceMul, reduceCtorEq, Nat.reduceAdd, Nat.reduceSub, Nat.reduceLeDiff, Nat.reduceLT, Int.reduceToNat, Int.reduceLE, Int.reduceLT, mens, men]
      rw [dc_false fun h => by
        have h1 := (h.nest j hjn hja).2 p2.1
        have h2 := p2.2
        rw [h1] at h2
        simp at h2]
    have hN : nestAt sig s.nest j := fun _ _ => ⟨dc_iff.1 p1, fun h => List.length_eq_zero_iff.1 (by
      have : ¬ (0 : Int) < s.nest[j].length := fun h2 => p2 ⟨h, h2⟩
      omega)⟩
    have go : ∀ K : Prop, ((¬ (s.sorts[j].length : Int) = sig[j].ports → dc (sortOK sig s) = false) → (∀ e : (s.sorts[j].length : Int) = sig[j].ports, (s.sorts[j].any (fun n => !inB n 0 ((s.most.length : Int) - 1))) = true → dc (sortOK sig s) = false) → (∀ e : (s.sorts[j].length : Int) = sig[j].ports, (s.sorts[j].any (fun n => !inB n 0 ((s.most.length : Int) - 1))) = false → sortsAt sig s.sorts s.most.length j) → K) → K := fun K h => h
      (fun h => dc_false fun g => h (g.sorts j hjs hja).1)
      (fun e h => dc_false fun g => by rw [any_out.2 (g.sorts j hjs hja).2] at h; cases h)
      (fun e h _ _ => ⟨e, any_out.1 h⟩)
    refine go _ fun g1 g2 g3 => ?_
    by_cases k1 : sig[j].kind_ = 2
    · have k2 : ¬ (0 : Int) < s.nest[j].length := fun h => p2 ⟨k1, h⟩
      by_cases k3 : (s.sorts[j].length : Int) = sig[j].ports
      case neg =>
        simp only [k1, k2, k3, ga, gn, gs, List.length_map, cSorting, cControl, EVA, ↓reduceIte, Nat.reduceEqDiff, Nat.reduceMul, reduceCtorEq, Nat.reduceAdd, Nat.reduceSub, Nat.reduceLeDiff, Nat.reduceLT, Int.reduceToNat, Int.reduceLE, Int.reduceLT, mens, men]
        rw [g1 k3]
      simp only [k1, k2, k3, ga, gn, gs, List.length_map, cSorting, cControl, EVA, ↓reduceIte, Nat.reduceEqDiff, Nat.reduceMul, reduceCtorEq, Nat.reduceAdd, Nat.reduceSub, Nat.reduceLeDiff, Nat.reduceLT, Int.reduceToNat, Int.reduceLE, Int.reduceLT, mens, men]
      refine kca_intro (sem_coF1 (t := tv) (cs := [cSorting s]) g_coFI g_ixFI s.sorts[j] (by omega) (fun x _ lvl S => sem_IsSorting_2 x s b6 lvl S)) ?_
      cases h7 : s.sorts[j].any fun n => !inB n 0 ((s.most.length : Int) - 1)
      case true =>
        simp only [EVA, ↓reduceIte, Nat.reduceEqDiff, Nat.reduceMul, reduceCtorEq, Nat.reduceAdd, Nat.reduceSub, Nat.reduceLeDiff, Nat.reduceLT, Int.reduceToNat, Int.reduceLE, Int.reduceLT, mens, men]
        rw [g2 k3 h7]
      simp only [EVA, ↓reduceIte, Nat.reduceEqDiff, Nat.reduceMul, reduceCtorEq, Nat.reduceAdd, Nat.reduceSub, Nat.reduceLeDiff, Nat.reduceLT, Int.reduceToNat, Int.reduceLE, Int.reduceLT, mens, men]
      exact ⟨by rw [fits_i64]; omega, cntJ_intro () hja rfl (all_succ hA ⟨hN, g3 k3 h7⟩)⟩
    · by_cases k3 : (s.sorts[j].length : Int) = sig[j].ports
      case neg =>
        simp only [k1, k3, ga, gn, gs, List.length_map, cSorting, cControl, EVA, ↓reduceIte, Nat.reduceEqDiff, Nat.reduceMul, reduceCtorEq, Nat.reduceAdd, Nat.reduceSub, Nat.reduceLeDiff, Nat.reduceLT, Int.reduceToNat, Int.reduceLE, Int.reduceLT, mens, men]
        rw [g1 k3]
      simp only [k1, k3, ga, gn, gs, List.length_map, cSorting, cControl, EVA, ↓reduceIte, Nat.reduceEqDiff, Nat.reduceMul, reduceCtorEq, Nat.reduceAdd, Nat.reduceSub, Nat.reduceLeDiff, Nat.reduceLT, Int.reduceToNat, Int.reduceLE, Int.reduceLT, mens, men]
      refine kca_intro (sem_coF1 (t := tv) (cs := [cSorting s]) g_coFI g_ixFI s.sorts[j] (by omega) (fun x _ lvl S => sem_IsSorting_2 x s b6 lvl S)) ?_
      cases h7 : s.sorts[j].any fun n => !inB n 0 ((s.most.length : Int) - 1)
      case true =>
        simp only [EVA, ↓reduceIte, Nat.reduceEqDiff, Nat.reduceMul, reduceCtorEq, Nat.reduceAdd, Nat.reduceSub, Nat.reduceLeDiff, Nat.reduceLT, Int.reduceToNat, Int.reduceLE, Int.reduceLT, mens, men]
        rw [g2 k3 h7]
      simp only [EVA, ↓reduceIte, Nat.reduceEqDiff, Nat.reduceMul, reduceCtorEq, Nat.reduceAdd, Nat.reduceSub, Nat.reduceLeDiff, Nat.reduceLT, Int.reduceToNat, Int.reduceLE, Int.reduceLT, mens, men]
      exact ⟨by rw [fits_i64]; omega, cntJ_intro () hja rfl (all_succ hA ⟨hN, g3 k3 h7⟩)⟩
  · have hj1 : j = sig.length := by omega
    subst hj1
    have : sortOK sig s := ⟨dc_iff.1 h1, dc_iff.1 h2, e3, fun k hk h2 => (hA k h2).1 hk h2, e4, fun k hk h2 => (hA k h2).2 hk h2, by have := inB_iff.1 h4; omega, any_out.1 h5, dc_iff.1 h6⟩
    rw [dc_true this]
end Go.Fd

/-
  WHAT A VALID BIGRAPH IS, BOTH SIDES. Own work.
-/
namespace Go.Fd
set_option maxRecDepth 20000

theorem allN {P : Nat → Prop} {j : Nat} (h : ∀ k, k < j → P k) (hj : P j) : ∀ k, k < j + 1 → P k := fun k hk => by
  by_cases e : k = j
  · subst e; exact hj
  · exact h k (by omega)

theorem inB_dc {n a b : Int} : inB n a b = dc (a ≤ n ∧ n ≤ b) := by
  unfold inB
  rw [dc_decide, Bool.decide_and]

theorem bl_tri : ∀ (x y : List UInt8), (!Op.bytesLess x y) = (Op.bytesLess y x || decide (x = y))
  | [], [] => by simp [Op.bytesLess]
  | [], _ :: _ => by simp [Op.bytesLess]
  | _ :: _, [] => by simp [Op.bytesLess]
  | a :: x, b :: y => by
    have ih := bl_tri x y
    simp only [Op.bytesLess]
    by_cases h : a = b
    · subst h
      have e : ¬ a < a := UInt8.lt_irrefl a
      simp [e, ih]
    · by_cases h1 : a < b
      · have h2 : ¬ b < a := fun h2 => UInt8.lt_irrefl a (UInt8.lt_trans h1 h2)
        have h3 : ¬ b = a := fun e => h e.symm
        simp [h, h1, h2, h3]
      · have h2 : b < a := by
          rcases UInt8.lt_or_lt_of_ne h with h | h
          · exact absurd h h1
          · exact h
        simp [h, h1, h2]

/-- One text before another. -/
def ltS (s t : ByteArray) : Prop := Op.bytesLess s.data.toList t.data.toList = true

theorem ltS_geq {s t : ByteArray} : (!Op.bytesLess s.data.toList t.data.toList) = !dc (ltS s t) := by
  unfold ltS
  rw [dc_decide, Bool.decide_eq_true]

theorem ltS_leq {s t : ByteArray} : (Op.bytesLess t.data.toList s.data.toList || decide (t = s)) = !dc (ltS s t) := by
  rw [← ltS_geq, bl_tri]
  congr 1
  have : t = s ↔ s.data.toList = t.data.toList := ⟨fun h => by rw [h], fun h => by
    cases s with | mk s => cases t with | mk t => exact congrArg ByteArray.mk (Array.toList_inj.1 h.symm)⟩
  simp only [this]

def nmAt (l : List ByteArray) (i : Nat) : Prop := ∀ h : i < l.length, isNm l[i] ∧ ∀ _ : 0 < i, ltS (l[i - 1]'(by omega)) l[i]

def namesOK (l : List ByteArray) : Prop := (∀ i, nmAt l i) ∧ l.length ≤ 16

theorem sem_l2Names (l : List ByteArray) (hl : l.length ≤ 4294967296) (hb : ∀ y ∈ l, y.size ≤ 4294967296) (lvl : Nat) (S : Sto) : Sem Go.Proofs.Tryz.prog fid_spec_l2Names lvl [.tr (.sl (rS l))] S (iB (dc (namesOK l))) S := by
  refine sem_of_chk k_spec_l2Names trivial ?_
  simp only [c_spec_l2Names, List.length_map, EVA, ↓reduceIte, Nat.reduceEqDiff, Nat.reduceMul, reduceCtorEq, Nat.reduceAdd, Nat.reduceSub, Nat.reduceLeDiff, Nat.reduceLT, Int.reduceToNat, Int.reduceLE, Int.reduceLT, mens, men]
  refine wp_cnt (α := Unit) l.length (fun j _ => [(3, iI j)]) (fun j _ => []) (fun j _ => ∀ k, k < j → nmAt l k) () (by simp only [EVA, ↓reduceIte, Nat.reduceEqDiff, Nat.reduceMul, reduceCtorEq, Nat.reduceAdd, Nat.reduceSub, Nat.reduceLeDiff, Nat.reduceLT, Int.reduceToNat, Int.reduceLE, Int.reduceLT, mens, men]) (by (simp only [EVA, ↓reduceIte, Nat.reduceEqDiff, Nat.reduceMul, reduceCtorEq, Nat.reduceAdd, Nat.reduceSub, Nat.reduceLeDiff, Nat.reduceLT, Int.reduceToNat, Int.reduceLE, Int.reduceLT, mens, men]) <;> rfl) (fun k hk => absurd hk (Nat.not_lt_zero k)) ?_
  intro j _ hj hA
  simp only [List.length_map, EVA, ↓reduceIte, Nat.reduceEqDiff, Nat.reduceMul, reduceCtorEq, Nat.reduceAdd, Nat.reduceSub, Nat.reduceLeDiff, Nat.reduceLT, Int.reduceToNat, Int.reduceLE, Int.reduceLT, mens, men]
  refine ite_of (fun hlt => ?_) (fun hge => ?_)
  · have hja : j < l.length := by omega
    have ga := getA (c := fun s => [ts s]) hja
    have hno : ¬ nmAt l j → dc (namesOK l) = false := fun h => dc_false fun g => h (g.1 j)
    simp only [ga, List.length_map, EVA, ↓reduceIte, Nat.reduceEqDiff, Nat.reduceMul, reduceCtorEq, Nat.reduceAdd, Nat.reduceSub, Nat.reduceLeDiff, Nat.reduceLT, Int.reduceToNat, Int.reduceLE, Int.reduceLT, mens, men]
    refine kca_intro (sem_l2Name l[j] (by have := hb _ (List.getElem_mem hja); omega)) ?_
    cases h1 : dc (isNm l[j])
    · simp only [EVA, ↓reduceIte, Nat.reduceEqDiff, Nat.reduceMul, reduceCtorEq, Nat.reduceAdd, Nat.reduceSub, Nat.reduceLeDiff, Nat.reduceLT, Int.reduceToNat, Int.reduceLE, Int.reduceLT, mens, men]
      rw [hno fun h => dc_not.1 h1 (h hja).1]
    by_cases q : 0 < j
    · have e1 : ((j : Int) - 1).toNat = j - 1 := by omega
      have e2 : (0 : Int) ≤ j - 1 := by omega
      have q5 : (0 : Int) < j := by omega
      have gb := getA (c := fun s => [ts s]) (l := l) (j := j - 1) (by omega)
      simp only [q5, e1, e2, ga, gb, List.length_map, EVA, ↓reduceIte, Nat.reduceEqDiff, Nat.reduceMul, reduceCtorEq, Nat.reduceAdd, Nat.reduceSub, Nat.reduceLeDiff, Nat.reduceLT, Int.reduceToNat, Int.reduceLE, Int.reduceLT, mens, men]
      cases hc : Op.bytesLess (l[j - 1]'(by omega)).data.toList l[j].data.toList
      · simp only [EVA, ↓reduceIte, Nat.reduceEqDiff, Nat.reduceMul, reduceCtorEq, Nat.reduceAdd, Nat.reduceSub, Nat.reduceLeDiff, Nat.reduceLT, Int.reduceToNat, Int.reduceLE, Int.reduceLT, mens, men]
        exact ⟨by rw [fits_i64]; omega, by rw [hno fun h => by have := (h hja).2 q; unfold ltS at this; rw [this] at hc; cases hc]⟩
      · simp only [EVA, ↓reduceIte, Nat.reduceEqDiff, Nat.reduceMul, reduceCtorEq, Nat.reduceAdd, Nat.reduceSub, Nat.reduceLeDiff, Nat.reduceLT, Int.reduceToNat, Int.reduceLE, Int.reduceLT, mens, men]
        exact ⟨by rw [fits_i64]; omega, by rw [fits_i64]; omega, cntJ_intro () hja rfl (allN hA fun _ => ⟨dc_iff.1 h1, fun _ => hc⟩)⟩
    · have q5 : ¬ (0 : Int) < j := by omega
      simp only [q5, ga, List.length_map, EVA, ↓reduceIte, Nat.reduceEqDiff, Nat.reduceMul, reduceCtorEq, Nat.reduceAdd, Nat.reduceSub, Nat.reduceLeDiff, Nat.reduceLT, Int.reduceToNat, Int.reduceLE, Int.reduceLT, mens, men]
      exact ⟨by rw [fits_i64]; omega, cntJ_intro () hja rfl (allN hA fun _ => ⟨dc_iff.1 h1, fun h => absurd h q⟩)⟩
  · have hj1 : j = l.length := by omega
    subst hj1
    rw [dc_congr (p := namesOK l) (q := (l.length : Int) ≤ 16) ⟨fun g => by have := g.2; omega, fun g => ⟨fun i h => hA i h h, by omega⟩⟩, dc_decide]

theorem sem_areNames (l : List ByteArray) (hl : l.length ≤ 4294967296) (hb : ∀ y ∈ l, y.size ≤ 4294967296) (lvl : Nat) (S : Sto) : Sem Go.Proofs.Tryz.prog fid_impl_areNames lvl [.tr (.sl (rS l))] S (iB (dc (namesOK l))) S := by
  refine sem_of_chk k_impl_areNames trivial ?_
  simp only [c_impl_areNames, List.length_map, EVA, ↓reduceIte, Nat.reduceEqDiff, Nat.reduceMul, reduceCtorEq, Nat.reduceAdd, Nat.reduceSub, Nat.reduceLeDiff, Nat.reduceLT, Int.reduceToNat, Int.reduceLE, Int.reduceLT, mens, men]
  refine wp_cnt (α := Unit) l.length (fun j _ => [(7, iI j)]) (fun j _ => []) (fun j _ => ∀ k, k < j → nmAt l k) () (by simp only [EVA, ↓reduceIte, Nat.reduceEqDiff, Nat.reduceMul, reduceCtorEq, Nat.reduceAdd, Nat.reduceSub, Nat.reduceLeDiff, Nat.reduceLT, Int.reduceToNat, Int.reduceLE, Int.reduceLT, mens, men]) (by (simp only [EVA, ↓reduceIte, Nat.reduceEqDiff, Nat.reduceMul, reduceCtorEq, Nat.reduceAdd, Nat.reduceSub, Nat.reduceLeDiff, Nat.reduceLT, Int.reduceToNat, Int.reduceLE, Int.reduceLT, mens, men]) <;> rfl) (fun k hk => absurd hk (Nat.not_lt_zero k)) ?_
  intro j _ hj hA
  simp only [List.length_map, EVA, ↓reduceIte, Nat.reduceEqDiff, Nat.reduceMul, reduceCtorEq, Nat.reduceAdd, Nat.reduceSub, Nat.reduceLeDiff, Nat.reduceLT, Int.reduceToNat, Int.reduceLE, Int.reduceLT, mens, men]
  refine ite_of (fun hlt => ?_) (fun hge => ?_)
  · have hja : j < l.length := by omega
    have ga := getA (c := fun s => [ts s]) hja
    have hno : ¬ nmAt l j → dc (namesOK l) = false := fun h => dc_false fun g => h (g.1 j)
    simp only [ga, List.length_map, EVA, ↓reduceIte, Nat.reduceEqDiff, Nat.reduceMul, reduceCtorEq, Nat.reduceAdd, Nat.reduceSub, Nat.reduceLeDiff, Nat.reduceLT, Int.reduceToNat, Int.reduceLE, Int.reduceLT, mens, men]
    refine kca_intro (sem_isName l[j] (by have := hb _ (List.getElem_mem hja); omega)) ?_
    cases h1 : dc (isNm l[j])
    · simp only [EVA, ↓reduceIte, Nat.reduceEqDiff, Nat.reduceMul, reduceCtorEq, Nat.reduceAdd, Nat.reduceSub, Nat.reduceLeDiff, Nat.reduceLT, Int.reduceToNat, Int.reduceLE, Int.reduceLT, mens, men]
      rw [hno fun h => dc_not.1 h1 (h hja).1]
    by_cases q : 0 < j
    · have e1 : ((j : Int) - 1).toNat = j - 1 := by omega
      have e2 : (0 : Int) ≤ j - 1 := by omega
      have q5 : (0 : Int) < j := by omega
      have gb := getA (c := fun s => [ts s]) (l := l) (j := j - 1) (by omega)
      simp only [q5, e1, e2, ga, gb, List.length_map, EVA, ↓reduceIte, Nat.reduceEqDiff, Nat.reduceMul, reduceCtorEq, Nat.reduceAdd, Nat.reduceSub, Nat.reduceLeDiff, Nat.reduceLT, Int.reduceToNat, Int.reduceLE, Int.reduceLT, mens, men]
      rw [ltS_leq]
      cases hc : dc (ltS (l[j - 1]'(by omega)) l[j])
      · simp only [EVA, ↓reduceIte, Nat.reduceEqDiff, Nat.reduceMul, reduceCtorEq, Nat.reduceAdd, Nat.reduceSub, Nat.reduceLeDiff, Nat.reduceLT, Int.reduceToNat, Int.reduceLE, Int.reduceLT, mens, men]
        exact ⟨by rw [fits_i64]; omega, by rw [hno fun h => dc_not.1 hc ((h hja).2 q)]⟩
      · simp only [EVA, ↓reduceIte, Nat.reduceEqDiff, Nat.reduceMul, reduceCtorEq, Nat.reduceAdd, Nat.reduceSub, Nat.reduceLeDiff, Nat.reduceLT, Int.reduceToNat, Int.reduceLE, Int.reduceLT, mens, men]
        exact ⟨by rw [fits_i64]; omega, by rw [fits_i64]; omega, cntJ_intro () hja rfl (allN hA fun _ => ⟨dc_iff.1 h1, fun _ => dc_iff.1 hc⟩)⟩
    · have q5 : ¬ (0 : Int) < j := by omega
      simp only [q5, ga, List.length_map, EVA, ↓reduceIte, Nat.reduceEqDiff, Nat.reduceMul, reduceCtorEq, Nat.reduceAdd, Nat.reduceSub, Nat.reduceLeDiff, Nat.reduceLT, Int.reduceToNat, Int.reduceLE, Int.reduceLT, mens, men]
      exact ⟨by rw [fits_i64]; omega, cntJ_intro () hja rfl (allN hA fun _ => ⟨dc_iff.1 h1, fun h => absurd h q⟩)⟩
  · have hj1 : j = l.length := by omega
    subst hj1
    rw [dc_congr (p := namesOK l) (q := (l.length : Int) ≤ 16) ⟨fun g => by have := g.2; omega, fun g => ⟨fun i h => hA i h h, by omega⟩⟩, dc_decide]

def linkOK (b : TBigraph) (l : Int) : Prop := 0 ≤ l ∧ l ≤ b.edges + b.outer.length - 1

theorem sem_l2Link (b : TBigraph) (l : Int) (he : 0 ≤ b.edges ∧ b.edges ≤ 8) (ho : b.outer.length ≤ 4294967296) (lvl : Nat) (S : Sto) : Sem Go.Proofs.Tryz.prog fid_spec_l2Link lvl [.ag ((cBigraph b).map .tr), iI l] S (iB (dc (linkOK b l))) S := by
  refine sem_of_chk k_spec_l2Link trivial ?_
  simp only [c_spec_l2Link, cBigraph, List.length_map, EVA, ↓reduceIte, Nat.reduceEqDiff, Nat.reduceMul, reduceCtorEq, Nat.reduceAdd, Nat.reduceSub, Nat.reduceLeDiff, Nat.reduceLT, Int.reduceToNat, Int.reduceLE, Int.reduceLT, mens, men]
  refine ⟨by rw [fits_i64]; omega, by rw [fits_i64]; omega, ?_⟩
  refine kca_intro (sem_l1In l 0 (b.edges + b.outer.length - 1)) ?_
  simp only [EVA, ↓reduceIte, Nat.reduceEqDiff, Nat.reduceMul, reduceCtorEq, Nat.reduceAdd, Nat.reduceSub, Nat.reduceLeDiff, Nat.reduceLT, Int.reduceToNat, Int.reduceLE, Int.reduceLT, mens, men]
  rw [inB_dc]
  rfl

theorem sem_isLink (b : TBigraph) (l : Int) (he : 0 ≤ b.edges ∧ b.edges ≤ 8) (ho : b.outer.length ≤ 4294967296) (lvl : Nat) (S : Sto) : Sem Go.Proofs.Tryz.prog fid_impl_Bigraph_isLink lvl [.ag ((cBigraph b).map .tr), iI l] S (iB (dc (linkOK b l))) S := by
  refine sem_of_chk k_impl_Bigraph_isLink trivial ?_
  simp only [c_impl_Bigraph_isLink, cBigraph, List.length_map, EVA, ↓reduceIte, Nat.reduceEqDiff, Nat.reduceMul, reduceCtorEq, Nat.reduceAdd, Nat.reduceSub, Nat.reduceLeDiff, Nat.reduceLT, Int.reduceToNat, Int.reduceLE, Int.reduceLT, mens, men]
  refine ⟨by rw [fits_i64]; omega, by rw [fits_i64]; omega, ?_⟩
  refine kca_intro (sem_within l 0 (b.edges + b.outer.length - 1)) ?_
  simp only [EVA, ↓reduceIte, Nat.reduceEqDiff, Nat.reduceMul, reduceCtorEq, Nat.reduceAdd, Nat.reduceSub, Nat.reduceLeDiff, Nat.reduceLT, Int.reduceToNat, Int.reduceLE, Int.reduceLT, mens, men]
  rw [inB_dc]
  rfl

/-- The kind of a control. -/
def kindAt (sig : List TControl) (c : Int) : Int := ((sig[c.toNat]?).map TControl.kind_).getD 0
def portsAt (sig : List TControl) (c : Int) : Int := ((sig[c.toNat]?).map TControl.ports).getD 0
def ctlAt (b : TBigraph) (p : Int) : Int := ((b.nodes[p.toNat]?).map TNode.control).getD 0

def under (sig : List TControl) (b : TBigraph) (p below : Int) : Prop := (p < 0 ∧ -b.roots ≤ p) ∨ (0 ≤ p ∧ p < below ∧ ¬ kindAt sig (ctlAt b p) = 2)

def ctlsOK (sig : List TControl) (b : TBigraph) (n : Nat) : Prop := ∀ i, i < n → ∀ h : i < b.nodes.length, 0 ≤ b.nodes[i].control ∧ b.nodes[i].control ≤ (sig.length : Int) - 1

theorem sem_l2Under (sig : List TControl) (b : TBigraph) (p : Int) (k : Nat) (hp : fits .i64 p) (hr : 0 ≤ b.roots ∧ b.roots ≤ 4) (hk : k ≤ b.nodes.length) (hc : ctlsOK sig b k) (lvl : Nat) (S : Sto) : Sem Go.Proofs.Tryz.prog fid_spec_l2Under lvl [.tr (.sl (sig.map cControl)), .ag ((cBigraph b).map .tr), iI p, iI k] S (iB (dc (under sig b p k))) S := by
  rw [fits_i64] at hp
  refine sem_of_chk k_spec_l2Under trivial ?_
  simp only [c_spec_l2Under, cBigraph, List.length_map, EVA, ↓reduceIte, Nat.reduceEqDiff, Nat.reduceMul, reduceCtorEq, Nat.reduceAdd, Nat.reduceSub, Nat.reduceLeDiff, Nat.reduceLT, Int.reduceToNat, Int.reduceLE, Int.reduceLT, mens, men]
  refine ite_of (fun hneg => ?_) (fun hpos => ?_)
  · refine ⟨by rw [fits_i64]; omega, by rw [fits_i64]; omega, ?_⟩
    refine kca_intro (sem_l1In (-1 - p) 0 (b.roots - 1)) ?_
    simp only [EVA, ↓reduceIte, Nat.reduceEqDiff, Nat.reduceMul, reduceCtorEq, Nat.reduceAdd, Nat.reduceSub, Nat.reduceLeDiff, Nat.reduceLT, Int.reduceToNat, Int.reduceLE, Int.reduceLT, mens, men]
    have hiff : (0 ≤ -1 - p ∧ -1 - p ≤ b.roots - 1) ↔ under sig b p k := ⟨fun h => .inl (by omega), fun h => by rcases h with h | h <;> omega⟩
    rw [inB_dc, dc_congr hiff]
  · refine ite_of (fun hb => ?_) (fun hb => ?_)
    · obtain ⟨q, rfl⟩ : ∃ q : Nat, p = q := ⟨p.toNat, by omega⟩
      have hq : q < b.nodes.length := by omega
      have ga := getA (c := cNode) hq
      obtain ⟨m1, m2⟩ := hc q (by omega) hq
      obtain ⟨m, hm⟩ : ∃ m : Nat, b.nodes[q].control = m := ⟨b.nodes[q].control.toNat, by omega⟩
      have hms : m < sig.length := by omega
      have gs := getA (c := cControl) hms
      simp only [hb, ga, gs, cNode, cControl, hm, Int.toNat_natCast, Int.natCast_nonneg, List.length_map, EVA, ↓reduceIte, Nat.reduceEqDiff, Nat.reduceMul, reduceCtorEq, Nat.reduceAdd, Nat.reduceSub, Nat.reduceLeDiff, Nat.reduceLT, Int.reduceToNat, Int.reduceLE, Int.reduceLT, mens, men]
      have e : kindAt sig (ctlAt b q) = sig[m].kind_ := by simp [kindAt, ctlAt, hq, hm, hms]
      have hiff : under sig b q k ↔ ¬ sig[m].kind_ = 2 := by
        constructor
        · intro h
          rcases h with h | h
          · omega
          · rw [← e]; exact h.2.2
        · intro h
          exact .inr ⟨by omega, hb, by rw [e]; exact h⟩
      rw [dc_congr hiff, dc_decide]
    · rw [dc_false fun h : under sig b p k => by rcases h with h | h <;> omega]

theorem sem_isParent (sig : List TControl) (b : TBigraph) (p : Int) (k : Nat) (hr : 0 ≤ b.roots ∧ b.roots ≤ 4) (hk : k ≤ b.nodes.length) (hc : ctlsOK sig b k) (lvl : Nat) (S : Sto) : Sem Go.Proofs.Tryz.prog fid_impl_Bigraph_isParent lvl [.ag ((cBigraph b).map .tr), .tr (.sl (sig.map cControl)), iI p, iI k] S (iB (dc (under sig b p k))) S := by
  refine sem_of_chk k_impl_Bigraph_isParent trivial ?_
  simp only [c_impl_Bigraph_isParent, cBigraph, List.length_map, EVA, ↓reduceIte, Nat.reduceEqDiff, Nat.reduceMul, reduceCtorEq, Nat.reduceAdd, Nat.reduceSub, Nat.reduceLeDiff, Nat.reduceLT, Int.reduceToNat, Int.reduceLE, Int.reduceLT, mens, men]
  refine ite_of (fun hneg => ?_) (fun hpos => ?_)
  · refine ⟨by rw [fits_i64]; omega, ?_⟩
    have hiff : under sig b p k ↔ -b.roots ≤ p := ⟨fun h => by rcases h with h | h <;> omega, fun h => .inl (by omega)⟩
    rw [dc_congr hiff, dc_decide]
  · refine ite_of (fun hb => ?_) (fun hb => ?_)
    · obtain ⟨q, rfl⟩ : ∃ q : Nat, p = q := ⟨p.toNat, by omega⟩
      have hq : q < b.nodes.length := by omega
      have ga := getA (c := cNode) hq
      obtain ⟨m1, m2⟩ := hc q (by omega) hq
      obtain ⟨m, hm⟩ : ∃ m : Nat, b.nodes[q].control = m := ⟨b.nodes[q].control.toNat, by omega⟩
      have hms : m < sig.length := by omega
      have gs := getA (c := cControl) hms
      simp only [hb, ga, gs, cNode, cControl, hm, Int.toNat_natCast, Int.natCast_nonneg, List.length_map, EVA, ↓reduceIte, Nat.reduceEqDiff, Nat.reduceMul, reduceCtorEq, Nat.reduceAdd, Nat.reduceSub, Nat.reduceLeDiff, Nat.reduceLT, Int.reduceToNat, Int.reduceLE, Int.reduceLT, mens, men]
      have e : kindAt sig (ctlAt b q) = sig[m].kind_ := by simp [kindAt, ctlAt, hq, hm, hms]
      have hiff : under sig b q k ↔ ¬ sig[m].kind_ = 2 := by
        constructor
        · intro h
          rcases h with h | h
          · omega
          · rw [← e]; exact h.2.2
        · intro h
          exact .inr ⟨by omega, hb, by rw [e]; exact h⟩
      rw [dc_congr hiff, dc_decide]
    · rw [dc_false fun h : under sig b p k => by rcases h with h | h <;> omega]

structure nodeOK (sig : List TControl) (b : TBigraph) (x : TNode) (i : Nat) : Prop where
  ctl : 0 ≤ x.control ∧ x.control ≤ (sig.length : Int) - 1
  par : under sig b x.parent i
  ports : (x.links.length : Int) = portsAt sig x.control
  links : ∀ l ∈ x.links, linkOK b l

theorem sem_l2Node (sig : List TControl) (b : TBigraph) (i : Nat) (hi : i < b.nodes.length) (hn : sig.length ≤ 4294967296) (hl : b.nodes[i].links.length ≤ 4294967296) (hp : fits .i64 b.nodes[i].parent) (hr : 0 ≤ b.roots ∧ b.roots ≤ 4) (he : 0 ≤ b.edges ∧ b.edges ≤ 8) (ho : b.outer.length ≤ 4294967296) (hc : ctlsOK sig b i) (lvl : Nat) (S : Sto) : Sem Go.Proofs.Tryz.prog fid_spec_l2Node lvl [.tr (.sl (sig.map cControl)), .ag ((cBigraph b).map .tr), iI i] S (iB (dc (nodeOK sig b b.nodes[i] i))) S := by
  refine sem_of_chk k_spec_l2Node trivial ?_
  have ga := getA (c := cNode) hi
  simp only [c_spec_l2Node, cBigraph, List.length_map, ga, cNode, EVA, ↓reduceIte, Nat.reduceEqDiff, Nat.reduceMul, reduceCtorEq, Nat.reduceAdd, Nat.reduceSub, Nat.reduceLeDiff, Nat.reduceLT, Int.reduceToNat, Int.reduceLE, Int.reduceLT, mens, men]
  refine ⟨by rw [fits_i64]; omega, ?_⟩
  refine kca_intro (sem_l1In b.nodes[i].control 0 ((sig.length : Int) - 1)) ?_
  cases h1 : inB b.nodes[i].control 0 ((sig.length : Int) - 1)
  · simp only [EVA, ↓reduceIte, Nat.reduceEqDiff, Nat.reduceMul, reduceCtorEq, Nat.reduceAdd, Nat.reduceSub, Nat.reduceLeDiff, Nat.reduceLT, Int.reduceToNat, Int.reduceLE, Int.reduceLT, mens, men]
    rw [dc_false fun h : nodeOK sig b b.nodes[i] i => inB_not.1 h1 h.ctl]
  have r1 := inB_iff.1 h1
  simp only [cBigraph, List.length_map, cNode, EVA, ↓reduceIte, Nat.reduceEqDiff, Nat.reduceMul, reduceCtorEq, Nat.reduceAdd, Nat.reduceSub, Nat.reduceLeDiff, Nat.reduceLT, Int.reduceToNat, Int.reduceLE, Int.reduceLT, mens, men]
  refine kca_intro (sem_l2Under sig b b.nodes[i].parent i hp hr (by omega) hc) ?_
  cases h2 : dc (under sig b b.nodes[i].parent i)
  · simp only [EVA, ↓reduceIte, Nat.reduceEqDiff, Nat.reduceMul, reduceCtorEq, Nat.reduceAdd, Nat.reduceSub, Nat.reduceLeDiff, Nat.reduceLT, Int.reduceToNat, Int.reduceLE, Int.reduceLT, mens, men]
    rw [dc_false fun h : nodeOK sig b b.nodes[i] i => dc_not.1 h2 h.par]
  obtain ⟨m, hm⟩ : ∃ m : Nat, b.nodes[i].control = m := ⟨b.nodes[i].control.toNat, by omega⟩
  have hms : m < sig.length := by omega
  have gs := getA (c := cControl) hms
  have e : portsAt sig b.nodes[i].control = sig[m].ports := by simp [portsAt, hm, hms]
  simp only [hm, gs, cControl, cBigraph, List.length_map, cNode, EVA, ↓reduceIte, Nat.reduceEqDiff, Nat.reduceMul, reduceCtorEq, Nat.reduceAdd, Nat.reduceSub, Nat.reduceLeDiff, Nat.reduceLT, Int.reduceToNat, Int.reduceLE, Int.reduceLT, mens, men]
  refine ite_of (fun hne => ?_) (fun heq => ?_)
  · rw [dc_false fun h : nodeOK sig b b.nodes[i] i => by have := h.ports; rw [e] at this; exact hne this]
  refine wp_cnt (α := Unit) b.nodes[i].links.length (fun j _ => [(8, iI j)]) (fun j _ => []) (fun j _ => ∀ k, k < j → linkOK b (g0 b.nodes[i].links k)) () (by simp only [EVA, ↓reduceIte, Nat.reduceEqDiff, Nat.reduceMul, reduceCtorEq, Nat.reduceAdd, Nat.reduceSub, Nat.reduceLeDiff, Nat.reduceLT, Int.reduceToNat, Int.reduceLE, Int.reduceLT, mens, men]) (by (simp only [EVA, ↓reduceIte, Nat.reduceEqDiff, Nat.reduceMul, reduceCtorEq, Nat.reduceAdd, Nat.reduceSub, Nat.reduceLeDiff, Nat.reduceLT, Int.reduceToNat, Int.reduceLE, Int.reduceLT, mens, men]) <;> rfl) (fun k hk => absurd hk (Nat.not_lt_zero k)) ?_
  intro j _ hj hA
  simp only [List.length_map, EVA, ↓reduceIte, Nat.reduceEqDiff, Nat.reduceMul, reduceCtorEq, Nat.reduceAdd, Nat.reduceSub, Nat.reduceLeDiff, Nat.reduceLT, Int.reduceToNat, Int.reduceLE, Int.reduceLT, mens, men]
  refine ite_of (fun hlt => ?_) (fun hge => ?_)
  · have hja : j < b.nodes[i].links.length := by omega
    have gl := rI_get hja
    simp only [gl, List.length_map, EVA, ↓reduceIte, Nat.reduceEqDiff, Nat.reduceMul, reduceCtorEq, Nat.reduceAdd, Nat.reduceSub, Nat.reduceLeDiff, Nat.reduceLT, Int.reduceToNat, Int.reduceLE, Int.reduceLT, mens, men]
    refine kca_intro (sem_l2Link b (g0 b.nodes[i].links j) he ho) ?_
    cases hc : dc (linkOK b (g0 b.nodes[i].links j))
    · simp only [EVA, ↓reduceIte, Nat.reduceEqDiff, Nat.reduceMul, reduceCtorEq, Nat.reduceAdd, Nat.reduceSub, Nat.reduceLeDiff, Nat.reduceLT, Int.reduceToNat, Int.reduceLE, Int.reduceLT, mens, men]
      rw [dc_false fun h : nodeOK sig b b.nodes[i] i => dc_not.1 hc (h.links _ (by simp [hja]))]
    · simp only [EVA, ↓reduceIte, Nat.reduceEqDiff, Nat.reduceMul, reduceCtorEq, Nat.reduceAdd, Nat.reduceSub, Nat.reduceLeDiff, Nat.reduceLT, Int.reduceToNat, Int.reduceLE, Int.reduceLT, mens, men]
      exact ⟨by rw [fits_i64]; omega, cntJ_intro () hja rfl (allN hA (dc_iff.1 hc))⟩
  · have hj1 : j = b.nodes[i].links.length := by omega
    subst hj1
    have : nodeOK sig b b.nodes[i] i := ⟨r1, dc_iff.1 h2, by rw [e]; omega, fun l hl => by
      obtain ⟨k, hk, rfl⟩ := List.getElem_of_mem hl
      have := hA k hk
      simpa [hk] using this⟩
    rw [dc_true this]

def inn (b : TBigraph) : List ByteArray := b.inner.map TWire.name

theorem rS_app (a b : List ByteArray) : rS (a ++ b) = rS a ++ rS b := List.map_append

theorem sem_l2Inner (b : TBigraph) (hn : b.inner.length ≤ 4294967296) (lvl : Nat) (S : Sto) : Sem Go.Proofs.Tryz.prog fid_spec_l2Inner lvl [.ag ((cBigraph b).map .tr)] S (.ow 1 (rS (inn b)) true) S := by
  refine sem_of_chk k_spec_l2Inner trivial ?_
  simp only [c_spec_l2Inner, List.length_map, cBigraph, EVA, ↓reduceIte, Nat.reduceEqDiff, Nat.reduceMul, reduceCtorEq, Nat.reduceAdd, Nat.reduceSub, Nat.reduceLeDiff, Nat.reduceLT, Int.reduceToNat, Int.reduceLE, Int.reduceLT, mens, men]
  refine wp_cnt (α := Unit) b.inner.length (fun j _ => [(3, .hd (lvl, 160) [] 0 j none j), (4, iI j)]) (fun j _ => [(160, .ar 1 (rS ((inn b).take j)) true j 0)]) (fun _ _ => True) () (by simp only [EVA, ↓reduceIte, Nat.reduceEqDiff, Nat.reduceMul, reduceCtorEq, Nat.reduceAdd, Nat.reduceSub, Nat.reduceLeDiff, Nat.reduceLT, Int.reduceToNat, Int.reduceLE, Int.reduceLT, mens, men]) (by (simp only [EVA, ↓reduceIte, Nat.reduceEqDiff, Nat.reduceMul, reduceCtorEq, Nat.reduceAdd, Nat.reduceSub, Nat.reduceLeDiff, Nat.reduceLT, Int.reduceToNat, Int.reduceLE, Int.reduceLT, mens, men]) <;> rfl) trivial ?_
  intro j _ hj _
  have hil : (inn b).length = b.inner.length := by simp [inn]
  simp only [List.length_map, EVA, ↓reduceIte, Nat.reduceEqDiff, Nat.reduceMul, reduceCtorEq, Nat.reduceAdd, Nat.reduceSub, Nat.reduceLeDiff, Nat.reduceLT, Int.reduceToNat, Int.reduceLE, Int.reduceLT, mens, men]
  refine ite_of (fun hlt => ?_) (fun hge => ?_)
  · have hja : j < b.inner.length := by omega
    have ga := getA (c := cWire) hja
    have hlN : (rS ((inn b).take j)).length = j := by rw [List.length_map, List.length_take]; omega
    simp only [ga, cWire, hlN, List.length_map, EVA, ↓reduceIte, Nat.reduceEqDiff, Nat.reduceMul, reduceCtorEq, Nat.reduceAdd, Nat.reduceSub, Nat.reduceLeDiff, Nat.reduceLT, Int.reduceToNat, Int.reduceLE, Int.reduceLT, mens, men]
    have hstep : rS ((inn b).take j) ++ [[ts b.inner[j].name]] = rS ((inn b).take (j + 1)) := by
      rw [List.take_succ_eq_append_getElem (by omega), rS_app]
      simp [inn]
    refine ⟨by omega, by rw [fits_i64]; omega, cntJ_intro () hja ?_ trivial⟩
    rw [← hstep]
    rfl
  · have : j = b.inner.length := by omega
    subst this
    rw [List.take_of_length_le (by omega)]
    exact ⟨hil.symm, rfl⟩
end Go.Fd

/-
  A VALID BIGRAPH: THE WHOLE, BOTH SIDES. Own work.
-/
namespace Go.Fd
set_option maxRecDepth 20000

theorem sem_innerNames (b : TBigraph) (hn : b.inner.length ≤ 4294967296) (lvl : Nat) (S : Sto) : Sem Go.Proofs.Tryz.prog fid_impl_Bigraph_innerNames lvl [.ag ((cBigraph b).map .tr)] S (.ow 1 (rS (inn b)) true) S := by
  refine sem_of_chk k_impl_Bigraph_innerNames trivial ?_
  simp only [c_impl_Bigraph_innerNames, List.length_map, cBigraph, EVA, ↓reduceIte, Nat.reduceEqDiff, Nat.reduceMul, reduceCtorEq, Nat.reduceAdd, Nat.reduceSub, Nat.reduceLeDiff, Nat.reduceLT, Int.reduceToNat, Int.reduceLE, Int.reduceLT, mens, men]
  refine wp_cnt (α := Unit) b.inner.length (fun j _ => [(3, .hd (lvl, 192) [] 0 j none j), (10, iI j)]) (fun j _ => [(192, .ar 1 (rS ((inn b).take j)) true j 0)]) (fun _ _ => True) () (by simp only [EVA, ↓reduceIte, Nat.reduceEqDiff, Nat.reduceMul, reduceCtorEq, Nat.reduceAdd, Nat.reduceSub, Nat.reduceLeDiff, Nat.reduceLT, Int.reduceToNat, Int.reduceLE, Int.reduceLT, mens, men]) (by (simp only [EVA, ↓reduceIte, Nat.reduceEqDiff, Nat.reduceMul, reduceCtorEq, Nat.reduceAdd, Nat.reduceSub, Nat.reduceLeDiff, Nat.reduceLT, Int.reduceToNat, Int.reduceLE, Int.reduceLT, mens, men]) <;> rfl) trivial ?_
  intro j _ hj _
  have hil : (inn b).length = b.inner.length := by simp [inn]
  simp only [List.length_map, EVA, ↓reduceIte, Nat.reduceEqDiff, Nat.reduceMul, reduceCtorEq, Nat.reduceAdd, Nat.reduceSub, Nat.reduceLeDiff, Nat.reduceLT, Int.reduceToNat, Int.reduceLE, Int.reduceLT, mens, men]
  refine ite_of (fun hlt => ?_) (fun hge => ?_)
  · have hja : j < b.inner.length := by omega
    have ga := getA (c := cWire) hja
    have hlN : (rS ((inn b).take j)).length = j := by rw [List.length_map, List.length_take]; omega
    simp only [ga, cWire, hlN, List.length_map, EVA, ↓reduceIte, Nat.reduceEqDiff, Nat.reduceMul, reduceCtorEq, Nat.reduceAdd, Nat.reduceSub, Nat.reduceLeDiff, Nat.reduceLT, Int.reduceToNat, Int.reduceLE, Int.reduceLT, mens, men]
    have hstep : rS ((inn b).take j) ++ [[ts b.inner[j].name]] = rS ((inn b).take (j + 1)) := by
      rw [List.take_succ_eq_append_getElem (by omega), rS_app]
      simp [inn]
    refine ⟨by omega, by rw [fits_i64]; omega, cntJ_intro () hja ?_ trivial⟩
    rw [← hstep]
    rfl
  · have : j = b.inner.length := by omega
    subst this
    rw [List.take_of_length_le (by omega)]
    exact ⟨hil.symm, rfl⟩

def nodeAt (sig : List TControl) (b : TBigraph) (i : Nat) : Prop := ∀ h : i < b.nodes.length, nodeOK sig b b.nodes[i] i

structure bigOK (sig : List TControl) (b : TBigraph) : Prop where
  sg : sigOK sig
  roots : 0 ≤ b.roots ∧ b.roots ≤ 4
  nodesL : b.nodes.length ≤ 8
  sitesL : b.sites.length ≤ 4
  edges : 0 ≤ b.edges ∧ b.edges ≤ 8
  outer : namesOK b.outer
  inn : namesOK (inn b)
  nodes : ∀ i, nodeAt sig b i
  sites : ∀ p ∈ b.sites, under sig b p b.nodes.length
  inner : ∀ w ∈ b.inner, linkOK b w.link

theorem ctls_of {sig : List TControl} {b : TBigraph} {j : Nat} (h : ∀ k, k < j → nodeAt sig b k) : ctlsOK sig b j := fun i hi hl => (h i hi hl).ctl

theorem inn_len {b : TBigraph} : (inn b).length = b.inner.length := by simp [inn]

theorem inn_mem {b : TBigraph} {n : Nat} (h : ∀ y ∈ b.inner, bdWire n y) : ∀ y ∈ inn b, y.size ≤ n := fun y hy => by
  obtain ⟨w, hw, rfl⟩ := List.mem_map.1 hy
  exact h w hw

theorem sem_l2Good (sig : List TControl) (b : TBigraph) (hn : sig.length ≤ 4294967296) (hbs : ∀ y ∈ sig, bdControl 4294967296 y) (hb : bdBigraph 4294967296 b) (hf : ftBigraph b) (lvl : Nat) (S : Sto) : Sem Go.Proofs.Tryz.prog fid_spec_l2Good lvl [.tr (.sl (sig.map cControl)), .ag ((cBigraph b).map .tr)] S (iB (dc (bigOK sig b))) S := by
  obtain ⟨b1, b2, b3, b4, b5, b6, b7⟩ := hb
  obtain ⟨f1, f2, f3, f4, f5⟩ := hf
  refine sem_of_chk k_spec_l2Good trivial ?_
  simp only [c_spec_l2Good, List.length_map, cBigraph, EVA, ↓reduceIte, Nat.reduceEqDiff, Nat.reduceMul, reduceCtorEq, Nat.reduceAdd, Nat.reduceSub, Nat.reduceLeDiff, Nat.reduceLT, Int.reduceToNat, Int.reduceLE, Int.reduceLT, mens, men]
  refine kca_intro (sem_l2Sig sig (by omega) (fun y hy => monoControl (hbs y hy))) ?_
  cases h1 : dc (sigOK sig)
  · simp only [EVA, ↓reduceIte, Nat.reduceEqDiff, Nat.reduceMul, reduceCtorEq, Nat.reduceAdd, Nat.reduceSub, Nat.reduceLeDiff, Nat.reduceLT, Int.reduceToNat, Int.reduceLE, Int.reduceLT, mens, men]
    rw [dc_false fun h : bigOK sig b => dc_not.1 h1 h.sg]
  simp only [List.length_map, cBigraph, EVA, ↓reduceIte, Nat.reduceEqDiff, Nat.reduceMul, reduceCtorEq, Nat.reduceAdd, Nat.reduceSub, Nat.reduceLeDiff, Nat.reduceLT, Int.reduceToNat, Int.reduceLE, Int.reduceLT, mens, men]
  refine kca_intro (sem_l1In b.roots 0 4) ?_
  cases h2 : inB b.roots 0 4
  · simp only [EVA, ↓reduceIte, Nat.reduceEqDiff, Nat.reduceMul, reduceCtorEq, Nat.reduceAdd, Nat.reduceSub, Nat.reduceLeDiff, Nat.reduceLT, Int.reduceToNat, Int.reduceLE, Int.reduceLT, mens, men]
    rw [dc_false fun h : bigOK sig b => inB_not.1 h2 h.roots]
  by_cases h3 : (8 : Int) < b.nodes.length
  · simp only [h3, List.length_map, cBigraph, EVA, ↓reduceIte, Nat.reduceEqDiff, Nat.reduceMul, reduceCtorEq, Nat.reduceAdd, Nat.reduceSub, Nat.reduceLeDiff, Nat.reduceLT, Int.reduceToNat, Int.reduceLE, Int.reduceLT, mens, men]
    rw [dc_false fun h : bigOK sig b => by have := h.nodesL; omega]
  by_cases h4 : (4 : Int) < b.sites.length
  · simp only [h3, h4, List.length_map, cBigraph, EVA, ↓reduceIte, Nat.reduceEqDiff, Nat.reduceMul, reduceCtorEq, Nat.reduceAdd, Nat.reduceSub, Nat.reduceLeDiff, Nat.reduceLT, Int.reduceToNat, Int.reduceLE, Int.reduceLT, mens, men]
    rw [dc_false fun h : bigOK sig b => by have := h.sitesL; omega]
  simp only [h3, h4, List.length_map, cBigraph, EVA, ↓reduceIte, Nat.reduceEqDiff, Nat.reduceMul, reduceCtorEq, Nat.reduceAdd, Nat.reduceSub, Nat.reduceLeDiff, Nat.reduceLT, Int.reduceToNat, Int.reduceLE, Int.reduceLT, mens, men]
  refine kca_intro (sem_l1In b.edges 0 8) ?_
  cases h5 : inB b.edges 0 8
  · simp only [EVA, ↓reduceIte, Nat.reduceEqDiff, Nat.reduceMul, reduceCtorEq, Nat.reduceAdd, Nat.reduceSub, Nat.reduceLeDiff, Nat.reduceLT, Int.reduceToNat, Int.reduceLE, Int.reduceLT, mens, men]
    rw [dc_false fun h : bigOK sig b => inB_not.1 h5 h.edges]
  have r2 := inB_iff.1 h2
  have r5 := inB_iff.1 h5
  simp only [List.length_map, cBigraph, EVA, ↓reduceIte, Nat.reduceEqDiff, Nat.reduceMul, reduceCtorEq, Nat.reduceAdd, Nat.reduceSub, Nat.reduceLeDiff, Nat.reduceLT, Int.reduceToNat, Int.reduceLE, Int.reduceLT, mens, men]
  refine kca_intro (sem_l2Names b.outer (by assumption) (by assumption)) ?_
  cases h6 : dc (namesOK b.outer)
  · simp only [EVA, ↓reduceIte, Nat.reduceEqDiff, Nat.reduceMul, reduceCtorEq, Nat.reduceAdd, Nat.reduceSub, Nat.reduceLeDiff, Nat.reduceLT, Int.reduceToNat, Int.reduceLE, Int.reduceLT, mens, men]
    rw [dc_false fun h : bigOK sig b => dc_not.1 h6 h.outer]
  by_cases h7 : (16 : Int) < b.inner.length
  · simp only [h7, List.length_map, cBigraph, EVA, ↓reduceIte, Nat.reduceEqDiff, Nat.reduceMul, reduceCtorEq, Nat.reduceAdd, Nat.reduceSub, Nat.reduceLeDiff, Nat.reduceLT, Int.reduceToNat, Int.reduceLE, Int.reduceLT, mens, men]
    rw [dc_false fun h : bigOK sig b => by have := h.inn.2; rw [inn_len] at this; omega]
  simp only [h7, List.length_map, cBigraph, EVA, ↓reduceIte, Nat.reduceEqDiff, Nat.reduceMul, reduceCtorEq, Nat.reduceAdd, Nat.reduceSub, Nat.reduceLeDiff, Nat.reduceLT, Int.reduceToNat, Int.reduceLE, Int.reduceLT, mens, men]
  refine kca_intro (sem_l2Inner b (by omega)) ?_
  simp only [List.length_map, cBigraph, EVA, ↓reduceIte, Nat.reduceEqDiff, Nat.reduceMul, reduceCtorEq, Nat.reduceAdd, Nat.reduceSub, Nat.reduceLeDiff, Nat.reduceLT, Int.reduceToNat, Int.reduceLE, Int.reduceLT, mens, men]
  refine kca_intro (sem_l2Names (inn b) (by rw [inn_len]; omega) (inn_mem (by assumption))) ?_
  cases h8 : dc (namesOK (inn b))
  · simp only [EVA, ↓reduceIte, Nat.reduceEqDiff, Nat.reduceMul, reduceCtorEq, Nat.reduceAdd, Nat.reduceSub, Nat.reduceLeDiff, Nat.reduceLT, Int.reduceToNat, Int.reduceLE, Int.reduceLT, mens, men]
    rw [dc_false fun h : bigOK sig b => dc_not.1 h8 h.inn]
  simp only [List.length_map, cBigraph, EVA, ↓reduceIte, Nat.reduceEqDiff, Nat.reduceMul, reduceCtorEq, Nat.reduceAdd, Nat.reduceSub, Nat.reduceLeDiff, Nat.reduceLT, Int.reduceToNat, Int.reduceLE, Int.reduceLT, mens, men]
  have ho := (dc_iff.1 h6).2
  refine wp_cnt (α := Unit) b.nodes.length (fun j _ => [(5, iI j)]) (fun j _ => []) (fun j _ => ∀ k, k < j → nodeAt sig b k) () (by simp only [EVA, ↓reduceIte, Nat.reduceEqDiff, Nat.reduceMul, reduceCtorEq, Nat.reduceAdd, Nat.reduceSub, Nat.reduceLeDiff, Nat.reduceLT, Int.reduceToNat, Int.reduceLE, Int.reduceLT, mens, men]) (by (simp only [EVA, ↓reduceIte, Nat.reduceEqDiff, Nat.reduceMul, reduceCtorEq, Nat.reduceAdd, Nat.reduceSub, Nat.reduceLeDiff, Nat.reduceLT, Int.reduceToNat, Int.reduceLE, Int.reduceLT, mens, men]) <;> rfl) (fun k hk => absurd hk (Nat.not_lt_zero k)) ?_
  intro j _ hj hA
  simp only [List.length_map, cBigraph, EVA, ↓reduceIte, Nat.reduceEqDiff, Nat.reduceMul, reduceCtorEq, Nat.reduceAdd, Nat.reduceSub, Nat.reduceLeDiff, Nat.reduceLT, Int.reduceToNat, Int.reduceLE, Int.reduceLT, mens, men]
  refine ite_of (fun hlt => ?_) (fun hge => ?_)
  · have hja : j < b.nodes.length := by omega
    have hm := List.getElem_mem hja
    refine kca_intro (sem_l2Node sig b j hja hn (by first | exact (b2 _ hm) | exact (b3 _ hm)) (by first | exact (f1 _ hm).2.1 | exact (f2 _ hm).2.1) r2 r5 (by omega) (ctls_of hA)) ?_
    cases hc : dc (nodeOK sig b b.nodes[j] j)
    · simp only [EVA, ↓reduceIte, Nat.reduceEqDiff, Nat.reduceMul, reduceCtorEq, Nat.reduceAdd, Nat.reduceSub, Nat.reduceLeDiff, Nat.reduceLT, Int.reduceToNat, Int.reduceLE, Int.reduceLT, mens, men]
      rw [dc_false fun h : bigOK sig b => dc_not.1 hc (h.nodes j hja)]
    · simp only [EVA, ↓reduceIte, Nat.reduceEqDiff, Nat.reduceMul, reduceCtorEq, Nat.reduceAdd, Nat.reduceSub, Nat.reduceLeDiff, Nat.reduceLT, Int.reduceToNat, Int.reduceLE, Int.reduceLT, mens, men]
      exact ⟨by rw [fits_i64]; omega, cntJ_intro () hja rfl (allN hA fun _ => dc_iff.1 hc)⟩
  have hj1 : j = b.nodes.length := by omega
  subst hj1
  refine wp_cnt (α := Unit) b.sites.length (fun j _ => [(6, iI j)]) (fun j _ => []) (fun j _ => ∀ k, k < j → under sig b (g0 b.sites k) b.nodes.length) () (by simp only [EVA, ↓reduceIte, Nat.reduceEqDiff, Nat.reduceMul, reduceCtorEq, Nat.reduceAdd, Nat.reduceSub, Nat.reduceLeDiff, Nat.reduceLT, Int.reduceToNat, Int.reduceLE, Int.reduceLT, mens, men]) (by (simp only [EVA, ↓reduceIte, Nat.reduceEqDiff, Nat.reduceMul, reduceCtorEq, Nat.reduceAdd, Nat.reduceSub, Nat.reduceLeDiff, Nat.reduceLT, Int.reduceToNat, Int.reduceLE, Int.reduceLT, mens, men]) <;> rfl) (fun k hk => absurd hk (Nat.not_lt_zero k)) ?_
  intro j _ hj hB
  simp only [List.length_map, cBigraph, EVA, ↓reduceIte, Nat.reduceEqDiff, Nat.reduceMul, reduceCtorEq, Nat.reduceAdd, Nat.reduceSub, Nat.reduceLeDiff, Nat.reduceLT, Int.reduceToNat, Int.reduceLE, Int.reduceLT, mens, men]
  refine ite_of (fun hlt => ?_) (fun hge => ?_)
  · have hja : j < b.sites.length := by omega
    have ga := rI_get hja
    have hg : g0 b.sites j ∈ b.sites := by simp [hja]
    simp only [ga, List.length_map, cBigraph, EVA, ↓reduceIte, Nat.reduceEqDiff, Nat.reduceMul, reduceCtorEq, Nat.reduceAdd, Nat.reduceSub, Nat.reduceLeDiff, Nat.reduceLT, Int.reduceToNat, Int.reduceLE, Int.reduceLT, mens, men]
    refine kca_intro (sem_l2Under sig b (g0 b.sites j) b.nodes.length (by first | exact f3 _ hg | exact f2 _ hg | exact f4 _ hg) r2 (Nat.le_refl _) (ctls_of hA)) ?_
    cases hc : dc (under sig b (g0 b.sites j) b.nodes.length)
    · simp only [EVA, ↓reduceIte, Nat.reduceEqDiff, Nat.reduceMul, reduceCtorEq, Nat.reduceAdd, Nat.reduceSub, Nat.reduceLeDiff, Nat.reduceLT, Int.reduceToNat, Int.reduceLE, Int.reduceLT, mens, men]
      rw [dc_false fun h : bigOK sig b => dc_not.1 hc (h.sites _ hg)]
    · simp only [EVA, ↓reduceIte, Nat.reduceEqDiff, Nat.reduceMul, reduceCtorEq, Nat.reduceAdd, Nat.reduceSub, Nat.reduceLeDiff, Nat.reduceLT, Int.reduceToNat, Int.reduceLE, Int.reduceLT, mens, men]
      exact ⟨by rw [fits_i64]; omega, cntJ_intro () hja rfl (allN hB (dc_iff.1 hc))⟩
  have hj1 : j = b.sites.length := by omega
  subst hj1
  refine wp_cnt (α := Unit) b.inner.length (fun j _ => [(7, iI j)]) (fun j _ => []) (fun j _ => ∀ k, k < j → ∀ h : k < b.inner.length, linkOK b b.inner[k].link) () (by simp only [EVA, ↓reduceIte, Nat.reduceEqDiff, Nat.reduceMul, reduceCtorEq, Nat.reduceAdd, Nat.reduceSub, Nat.reduceLeDiff, Nat.reduceLT, Int.reduceToNat, Int.reduceLE, Int.reduceLT, mens, men]) (by (simp only [EVA, ↓reduceIte, Nat.reduceEqDiff, Nat.reduceMul, reduceCtorEq, Nat.reduceAdd, Nat.reduceSub, Nat.reduceLeDiff, Nat.reduceLT, Int.reduceToNat, Int.reduceLE, Int.reduceLT, mens, men]) <;> rfl) (fun k hk => absurd hk (Nat.not_lt_zero k)) ?_
  intro j _ hj hC
  simp only [List.length_map, cBigraph, EVA, ↓reduceIte, Nat.reduceEqDiff, Nat.reduceMul, reduceCtorEq, Nat.reduceAdd, Nat.reduceSub, Nat.reduceLeDiff, Nat.reduceLT, Int.reduceToNat, Int.reduceLE, Int.reduceLT, mens, men]
  refine ite_of (fun hlt => ?_) (fun hge => ?_)
  · have hja : j < b.inner.length := by omega
    have ga := getA (c := cWire) hja
    simp only [ga, cWire, List.length_map, cBigraph, EVA, ↓reduceIte, Nat.reduceEqDiff, Nat.reduceMul, reduceCtorEq, Nat.reduceAdd, Nat.reduceSub, Nat.reduceLeDiff, Nat.reduceLT, Int.reduceToNat, Int.reduceLE, Int.reduceLT, mens, men]
    refine kca_intro (sem_l2Link b b.inner[j].link r5 (by omega)) ?_
    cases hc : dc (linkOK b b.inner[j].link)
    · simp only [EVA, ↓reduceIte, Nat.reduceEqDiff, Nat.reduceMul, reduceCtorEq, Nat.reduceAdd, Nat.reduceSub, Nat.reduceLeDiff, Nat.reduceLT, Int.reduceToNat, Int.reduceLE, Int.reduceLT, mens, men]
      rw [dc_false fun h : bigOK sig b => dc_not.1 hc (h.inner _ (List.getElem_mem hja))]
    · simp only [EVA, ↓reduceIte, Nat.reduceEqDiff, Nat.reduceMul, reduceCtorEq, Nat.reduceAdd, Nat.reduceSub, Nat.reduceLeDiff, Nat.reduceLT, Int.reduceToNat, Int.reduceLE, Int.reduceLT, mens, men]
      exact ⟨by rw [fits_i64]; omega, cntJ_intro () hja rfl (allN hC fun _ => dc_iff.1 hc)⟩
  have hj1 : j = b.inner.length := by omega
  subst hj1
  have : bigOK sig b := ⟨dc_iff.1 h1, r2, by omega, by omega, r5, dc_iff.1 h6, dc_iff.1 h8, fun i h => hA i h h, fun p hp => by
    obtain ⟨k, hk, rfl⟩ := List.getElem_of_mem hp
    have := hB k hk
    simpa [hk] using this, fun w hw => by
    obtain ⟨k, hk, rfl⟩ := List.getElem_of_mem hw
    exact hC k hk hk⟩
  rw [dc_true this]

theorem sem_IsBigraph_1 (l : Int) (b : TBigraph) (he : 0 ≤ b.edges ∧ b.edges ≤ 8) (ho : b.outer.length ≤ 4294967296) (lvl : Nat) (S : Sto) : Sem Go.Proofs.Tryz.prog fid_impl_IsBigraph_1 lvl [iI l, .ta (cBigraph b)] S (iB (!dc (linkOK b l))) S := by
  refine sem_of_chk k_impl_IsBigraph_1 trivial ?_
  simp only [c_impl_IsBigraph_1, cBigraph, EVA, ↓reduceIte, Nat.reduceEqDiff, Nat.reduceMul, reduceCtorEq, Nat.reduceAdd, Nat.reduceSub, Nat.reduceLeDiff, Nat.reduceLT, Int.reduceToNat, Int.reduceLE, Int.reduceLT, mens, men]
  refine kca_intro (sem_isLink b l he ho) ?_
  simp only [EVA, ↓reduceIte, Nat.reduceEqDiff, Nat.reduceMul, reduceCtorEq, Nat.reduceAdd, Nat.reduceSub, Nat.reduceLeDiff, Nat.reduceLT, Int.reduceToNat, Int.reduceLE, Int.reduceLT, mens, men]

theorem sem_IsBigraph_2 (p : Int) (sig : List TControl) (b : TBigraph) (hr : 0 ≤ b.roots ∧ b.roots ≤ 4) (hc : ctlsOK sig b b.nodes.length) (lvl : Nat) (S : Sto) : Sem Go.Proofs.Tryz.prog fid_impl_IsBigraph_2 lvl [iI p, .ta (cBigraph b), .ta [Tr.sl (sig.map cControl)]] S (iB (!dc (under sig b p b.nodes.length))) S := by
  refine sem_of_chk k_impl_IsBigraph_2 trivial ?_
  simp only [c_impl_IsBigraph_2, cBigraph, List.length_map, EVA, ↓reduceIte, Nat.reduceEqDiff, Nat.reduceMul, reduceCtorEq, Nat.reduceAdd, Nat.reduceSub, Nat.reduceLeDiff, Nat.reduceLT, Int.reduceToNat, Int.reduceLE, Int.reduceLT, mens, men]
  refine kca_intro (sem_isParent sig b p b.nodes.length hr (Nat.le_refl _) hc) ?_
  simp only [EVA, ↓reduceIte, Nat.reduceEqDiff, Nat.reduceMul, reduceCtorEq, Nat.reduceAdd, Nat.reduceSub, Nat.reduceLeDiff, Nat.reduceLT, Int.reduceToNat, Int.reduceLE, Int.reduceLT, mens, men]

theorem sem_IsBigraph_3 (w : TWire) (b : TBigraph) (he : 0 ≤ b.edges ∧ b.edges ≤ 8) (ho : b.outer.length ≤ 4294967296) (lvl : Nat) (S : Sto) : Sem Go.Proofs.Tryz.prog fid_impl_IsBigraph_3 lvl [.ag ((cWire w).map .tr), .ta (cBigraph b)] S (iB (!dc (linkOK b w.link))) S := by
  refine sem_of_chk k_impl_IsBigraph_3 trivial ?_
  simp only [c_impl_IsBigraph_3, cBigraph, cWire, EVA, ↓reduceIte, Nat.reduceEqDiff, Nat.reduceMul, reduceCtorEq, Nat.reduceAdd, Nat.reduceSub, Nat.reduceLeDiff, Nat.reduceLT, Int.reduceToNat, Int.reduceLE, Int.reduceLT, mens, men]
  refine kca_intro (sem_isLink b w.link he ho) ?_
  simp only [EVA, ↓reduceIte, Nat.reduceEqDiff, Nat.reduceMul, reduceCtorEq, Nat.reduceAdd, Nat.reduceSub, Nat.reduceLeDiff, Nat.reduceLT, Int.reduceToNat, Int.reduceLE, Int.reduceLT, mens, men]

theorem g_ixFW : chkF Go.Proofs.Tryz.prog fid_slices_IndexFunc_impl_Wire_impl_Wire (gIxF 2 (some 2)) = true := by kernel_rfl
theorem g_coFW : chkF Go.Proofs.Tryz.prog fid_slices_ContainsFunc_impl_Wire_impl_Wire (gCoF fid_slices_IndexFunc_impl_Wire_impl_Wire) = true := by kernel_rfl

theorem any_no {α : Type} {l : List α} {p : α → Prop} : (l.any fun n => !dc (p n)) = false ↔ ∀ n ∈ l, p n := by
  simp only [List.any_eq_false, Bool.not_eq_true', Bool.not_eq_false, dc_iff]

theorem sem_impl_IsBigraph (sig : List TControl) (b : TBigraph) (hn : sig.length ≤ 4294967296) (hbs : ∀ y ∈ sig, bdControl 4294967296 y) (hb : bdBigraph 4294967296 b) (lvl : Nat) (S : Sto) : Sem Go.Proofs.Tryz.prog fid_impl_IsBigraph lvl [.tr (.sl (sig.map cControl)), .ag ((cBigraph b).map .tr)] S (iB (dc (bigOK sig b))) S := by
  obtain ⟨b1, b2, b3, b4, b5, b6, b7⟩ := hb
  refine sem_of_chk k_impl_IsBigraph trivial ?_
  simp only [c_impl_IsBigraph, List.length_map, cBigraph, EVA, ↓reduceIte, Nat.reduceEqDiff, Nat.reduceMul, reduceCtorEq, Nat.reduceAdd, Nat.reduceSub, Nat.reduceLeDiff, Nat.reduceLT, Int.reduceToNat, Int.reduceLE, Int.reduceLT, mens, men]
  refine kca_intro (sem_impl_IsSignature sig (by omega) (fun y hy => monoControl (hbs y hy))) ?_
  cases h1 : dc (sigOK sig)
  · simp only [EVA, ↓reduceIte, Nat.reduceEqDiff, Nat.reduceMul, reduceCtorEq, Nat.reduceAdd, Nat.reduceSub, Nat.reduceLeDiff, Nat.reduceLT, Int.reduceToNat, Int.reduceLE, Int.reduceLT, mens, men]
    rw [dc_false fun h : bigOK sig b => dc_not.1 h1 h.sg]
  simp only [List.length_map, cBigraph, EVA, ↓reduceIte, Nat.reduceEqDiff, Nat.reduceMul, reduceCtorEq, Nat.reduceAdd, Nat.reduceSub, Nat.reduceLeDiff, Nat.reduceLT, Int.reduceToNat, Int.reduceLE, Int.reduceLT, mens, men]
  refine kca_intro (sem_within b.roots 0 4) ?_
  cases h2 : inB b.roots 0 4
  · simp only [EVA, ↓reduceIte, Nat.reduceEqDiff, Nat.reduceMul, reduceCtorEq, Nat.reduceAdd, Nat.reduceSub, Nat.reduceLeDiff, Nat.reduceLT, Int.reduceToNat, Int.reduceLE, Int.reduceLT, mens, men]
    rw [dc_false fun h : bigOK sig b => inB_not.1 h2 h.roots]
  by_cases h3 : (8 : Int) < b.nodes.length
  · simp only [h3, List.length_map, cBigraph, EVA, ↓reduceIte, Nat.reduceEqDiff, Nat.reduceMul, reduceCtorEq, Nat.reduceAdd, Nat.reduceSub, Nat.reduceLeDiff, Nat.reduceLT, Int.reduceToNat, Int.reduceLE, Int.reduceLT, mens, men]
    rw [dc_false fun h : bigOK sig b => by have := h.nodesL; omega]
  by_cases h4 : (4 : Int) < b.sites.length
  · simp only [h3, h4, List.length_map, cBigraph, EVA, ↓reduceIte, Nat.reduceEqDiff, Nat.reduceMul, reduceCtorEq, Nat.reduceAdd, Nat.reduceSub, Nat.reduceLeDiff, Nat.reduceLT, Int.reduceToNat, Int.reduceLE, Int.reduceLT, mens, men]
    rw [dc_false fun h : bigOK sig b => by have := h.sitesL; omega]
  simp only [h3, h4, List.length_map, cBigraph, EVA, ↓reduceIte, Nat.reduceEqDiff, Nat.reduceMul, reduceCtorEq, Nat.reduceAdd, Nat.reduceSub, Nat.reduceLeDiff, Nat.reduceLT, Int.reduceToNat, Int.reduceLE, Int.reduceLT, mens, men]
  refine kca_intro (sem_within b.edges 0 8) ?_
  cases h5 : inB b.edges 0 8
  · simp only [EVA, ↓reduceIte, Nat.reduceEqDiff, Nat.reduceMul, reduceCtorEq, Nat.reduceAdd, Nat.reduceSub, Nat.reduceLeDiff, Nat.reduceLT, Int.reduceToNat, Int.reduceLE, Int.reduceLT, mens, men]
    rw [dc_false fun h : bigOK sig b => inB_not.1 h5 h.edges]
  have r2 := inB_iff.1 h2
  have r5 := inB_iff.1 h5
  simp only [List.length_map, cBigraph, EVA, ↓reduceIte, Nat.reduceEqDiff, Nat.reduceMul, reduceCtorEq, Nat.reduceAdd, Nat.reduceSub, Nat.reduceLeDiff, Nat.reduceLT, Int.reduceToNat, Int.reduceLE, Int.reduceLT, mens, men]
  refine kca_intro (sem_areNames b.outer (by assumption) (by assumption)) ?_
  cases h6 : dc (namesOK b.outer)
  · simp only [EVA, ↓reduceIte, Nat.reduceEqDiff, Nat.reduceMul, reduceCtorEq, Nat.reduceAdd, Nat.reduceSub, Nat.reduceLeDiff, Nat.reduceLT, Int.reduceToNat, Int.reduceLE, Int.reduceLT, mens, men]
    rw [dc_false fun h : bigOK sig b => dc_not.1 h6 h.outer]
  simp only [List.length_map, cBigraph, EVA, ↓reduceIte, Nat.reduceEqDiff, Nat.reduceMul, reduceCtorEq, Nat.reduceAdd, Nat.reduceSub, Nat.reduceLeDiff, Nat.reduceLT, Int.reduceToNat, Int.reduceLE, Int.reduceLT, mens, men]
  refine kca_intro (sem_innerNames b (by omega)) ?_
  simp only [List.length_map, cBigraph, EVA, ↓reduceIte, Nat.reduceEqDiff, Nat.reduceMul, reduceCtorEq, Nat.reduceAdd, Nat.reduceSub, Nat.reduceLeDiff, Nat.reduceLT, Int.reduceToNat, Int.reduceLE, Int.reduceLT, mens, men]
  refine kca_intro (sem_areNames (inn b) (by rw [inn_len]; omega) (inn_mem (by assumption))) ?_
  cases h8 : dc (namesOK (inn b))
  · simp only [EVA, ↓reduceIte, Nat.reduceEqDiff, Nat.reduceMul, reduceCtorEq, Nat.reduceAdd, Nat.reduceSub, Nat.reduceLeDiff, Nat.reduceLT, Int.reduceToNat, Int.reduceLE, Int.reduceLT, mens, men]
    rw [dc_false fun h : bigOK sig b => dc_not.1 h8 h.inn]
  simp only [List.length_map, cBigraph, EVA, ↓reduceIte, Nat.reduceEqDiff, Nat.reduceMul, reduceCtorEq, Nat.reduceAdd, Nat.reduceSub, Nat.reduceLeDiff, Nat.reduceLT, Int.reduceToNat, Int.reduceLE, Int.reduceLT, mens, men]
  have ho := (dc_iff.1 h6).2
  refine wp_cnt (α := Unit) b.nodes.length (fun j _ => [(49, iI j)]) (fun j _ => []) (fun j _ => ∀ k, k < j → nodeAt sig b k) () (by simp only [EVA, ↓reduceIte, Nat.reduceEqDiff, Nat.reduceMul, reduceCtorEq, Nat.reduceAdd, Nat.reduceSub, Nat.reduceLeDiff, Nat.reduceLT, Int.reduceToNat, Int.reduceLE, Int.reduceLT, mens, men]) (by (simp only [EVA, ↓reduceIte, Nat.reduceEqDiff, Nat.reduceMul, reduceCtorEq, Nat.reduceAdd, Nat.reduceSub, Nat.reduceLeDiff, Nat.reduceLT, Int.reduceToNat, Int.reduceLE, Int.reduceLT, mens, men]) <;> rfl) (fun k hk => absurd hk (Nat.not_lt_zero k)) ?_
  intro j _ hj hA
  simp only [List.length_map, cBigraph, EVA, ↓reduceIte, Nat.reduceEqDiff, Nat.reduceMul, reduceCtorEq, Nat.reduceAdd, Nat.reduceSub, Nat.reduceLeDiff, Nat.reduceLT, Int.reduceToNat, Int.reduceLE, Int.reduceLT, mens, men]
  refine ite_of (fun hlt => ?_) (fun hge => ?_)
  · have hja : j < b.nodes.length := by omega
    have hm := List.getElem_mem hja
    have ga := getA (c := cNode) hja
    have hll : b.nodes[j].links.length ≤ 4294967296 := by first | exact (b2 _ hm) | exact (b3 _ hm)
    have hno : ¬ nodeOK sig b b.nodes[j] j → dc (bigOK sig b) = false := fun h => dc_false fun g => h (g.nodes j hja)
    simp only [ga, cNode, List.length_map, cBigraph, EVA, ↓reduceIte, Nat.reduceEqDiff, Nat.reduceMul, reduceCtorEq, Nat.reduceAdd, Nat.reduceSub, Nat.reduceLeDiff, Nat.reduceLT, Int.reduceToNat, Int.reduceLE, Int.reduceLT, mens, men]
    refine ⟨by rw [fits_i64]; omega, ?_⟩
    refine kca_intro (sem_within b.nodes[j].control 0 ((sig.length : Int) - 1)) ?_
    cases p1 : inB b.nodes[j].control 0 ((sig.length : Int) - 1)
    · simp only [EVA, ↓reduceIte, Nat.reduceEqDiff, Nat.reduceMul, reduceCtorEq, Nat.reduceAdd, Nat.reduceSub, Nat.reduceLeDiff, Nat.reduceLT, Int.reduceToNat, Int.reduceLE, Int.reduceLT, mens, men]
      rw [hno fun h => inB_not.1 p1 h.ctl]
    have q1 := inB_iff.1 p1
    simp only [cNode, List.length_map, cBigraph, EVA, ↓reduceIte, Nat.reduceEqDiff, Nat.reduceMul, reduceCtorEq, Nat.reduceAdd, Nat.reduceSub, Nat.reduceLeDiff, Nat.reduceLT, Int.reduceToNat, Int.reduceLE, Int.reduceLT, mens, men]
    refine kca_intro (sem_isParent sig b b.nodes[j].parent j r2 (by omega) (ctls_of hA)) ?_
    cases p2 : dc (under sig b b.nodes[j].parent j)
    · simp only [EVA, ↓reduceIte, Nat.reduceEqDiff, Nat.reduceMul, reduceCtorEq, Nat.reduceAdd, Nat.reduceSub, Nat.reduceLeDiff, Nat.reduceLT, Int.reduceToNat, Int.reduceLE, Int.reduceLT, mens, men]
      rw [hno fun h => dc_not.1 p2 h.par]
    obtain ⟨m, hmm⟩ : ∃ m : Nat, b.nodes[j].control = m := ⟨b.nodes[j].control.toNat, by omega⟩
    have hms : m < sig.length := by omega
    have gs := getA (c := cControl) hms
    have e : portsAt sig b.nodes[j].control = sig[m].ports := by simp [portsAt, hmm, hms]
    by_cases p3 : (b.nodes[j].links.length : Int) = sig[m].ports
    case neg =>
      simp only [p3, hmm, gs, Int.toNat_natCast, Int.natCast_nonneg, cControl, cNode, List.length_map, cBigraph, EVA, ↓reduceIte, Nat.reduceEqDiff, Nat.reduceMul, reduceCtorEq, Nat.reduceAdd, Nat.reduceSub, Nat.reduceLeDiff, Nat.reduceLT, Int.reduceToNat, Int.reduceLE, Int.reduceLT, mens, men]
      rw [hno fun h => p3 (by rw [← e]; exact h.ports)]
    simp only [p3, hmm, gs, Int.toNat_natCast, Int.natCast_nonneg, cControl, cNode, List.length_map, cBigraph, EVA, ↓reduceIte, Nat.reduceEqDiff, Nat.reduceMul, reduceCtorEq, Nat.reduceAdd, Nat.reduceSub, Nat.reduceLeDiff, Nat.reduceLT, Int.reduceToNat, Int.reduceLE, Int.reduceLT, mens, men]
    refine kca_intro (sem_coF1 (t := tv) (cs := [cBigraph b]) g_coFI g_ixFI b.nodes[j].links (by omega) (fun x _ lvl S => sem_IsBigraph_1 x b r5 (by omega) lvl S)) ?_
    cases p4 : b.nodes[j].links.any fun l => !dc (linkOK b l)
    · simp only [EVA, ↓reduceIte, Nat.reduceEqDiff, Nat.reduceMul, reduceCtorEq, Nat.reduceAdd, Nat.reduceSub, Nat.reduceLeDiff, Nat.reduceLT, Int.reduceToNat, Int.reduceLE, Int.reduceLT, mens, men]
      exact ⟨by rw [fits_i64]; omega, cntJ_intro () hja rfl (allN hA fun _ => ⟨q1, dc_iff.1 p2, by rw [e]; exact p3, any_no.1 p4⟩)⟩
    · simp only [EVA, ↓reduceIte, Nat.reduceEqDiff, Nat.reduceMul, reduceCtorEq, Nat.reduceAdd, Nat.reduceSub, Nat.reduceLeDiff, Nat.reduceLT, Int.reduceToNat, Int.reduceLE, Int.reduceLT, mens, men]
      rw [hno fun h => by rw [any_no.2 h.links] at p4; cases p4]
  have hj1 : j = b.nodes.length := by omega
  subst hj1
  refine kca_intro (sem_coF1 (t := tv) (cs := [cBigraph b, [Tr.sl (sig.map cControl)]]) g_coFI g_ixFI b.sites (by omega) (fun x _ lvl S => sem_IsBigraph_2 x sig b r2 (ctls_of hA) lvl S)) ?_
  cases h9 : b.sites.any fun p => !dc (under sig b p b.nodes.length)
  case true =>
    simp only [EVA, ↓reduceIte, Nat.reduceEqDiff, Nat.reduceMul, reduceCtorEq, Nat.reduceAdd, Nat.reduceSub, Nat.reduceLeDiff, Nat.reduceLT, Int.reduceToNat, Int.reduceLE, Int.reduceLT, mens, men]
    rw [dc_false fun h : bigOK sig b => by rw [any_no.2 h.sites] at h9; cases h9]
  simp only [List.length_map, cBigraph, EVA, ↓reduceIte, Nat.reduceEqDiff, Nat.reduceMul, reduceCtorEq, Nat.reduceAdd, Nat.reduceSub, Nat.reduceLeDiff, Nat.reduceLT, Int.reduceToNat, Int.reduceLE, Int.reduceLT, mens, men]
  refine kca_intro (sem_coFk (cs := [cBigraph b]) g_coFW g_ixFW (fun x => rfl) b.inner (by omega) (fun x _ lvl S => sem_IsBigraph_3 x b r5 (by omega) lvl S)) ?_
  cases h10 : b.inner.any fun w => !dc (linkOK b w.link)
  case true =>
    simp only [EVA, ↓reduceIte, Nat.reduceEqDiff, Nat.reduceMul, reduceCtorEq, Nat.reduceAdd, Nat.reduceSub, Nat.reduceLeDiff, Nat.reduceLT, Int.reduceToNat, Int.reduceLE, Int.reduceLT, mens, men]
    rw [dc_false fun h : bigOK sig b => by rw [(any_no (p := fun w : TWire => linkOK b w.link)).2 h.inner] at h10; cases h10]
  simp only [EVA, ↓reduceIte, Nat.reduceEqDiff, Nat.reduceMul, reduceCtorEq, Nat.reduceAdd, Nat.reduceSub, Nat.reduceLeDiff, Nat.reduceLT, Int.reduceToNat, Int.reduceLE, Int.reduceLT, mens, men]
  have : bigOK sig b := ⟨dc_iff.1 h1, r2, by omega, by omega, r5, dc_iff.1 h6, dc_iff.1 h8, fun i h => hA i h h, any_no.1 h9, any_no.1 h10⟩
  rw [dc_true this]
end Go.Fd

/-
  CHILDREN, POINTS, REDEXES, BOTH SIDES. Own work.
-/
namespace Go.Fd
set_option maxRecDepth 20000

/-! ## points -/
def rowP (l : Int) (i : Nat) (ls : List Int) : Nat → List (Int × Int)
  | 0 => []
  | k + 1 => if g0 ls k = l then rowP l i ls k ++ [((i : Int), (k : Int))] else rowP l i ls k
def linksAt (b : TBigraph) (j : Nat) : List Int := ((b.nodes[j]?).map TNode.links).getD []
def portsN (b : TBigraph) (l : Int) : Nat → List (Int × Int)
  | 0 => []
  | i + 1 => portsN b l i ++ rowP l i (linksAt b i) (linksAt b i).length
def ports (b : TBigraph) (l : Int) : List (Int × Int) := portsN b l b.nodes.length

def wlAt (b : TBigraph) (j : Nat) : Int := ((b.inner[j]?).map TWire.link).getD 0
def wnAt (b : TBigraph) (j : Nat) : ByteArray := ((b.inner[j]?).map TWire.name).getD ⟨#[]⟩
def endsN (b : TBigraph) (l : Int) : Nat → List ByteArray
  | 0 => []
  | j + 1 => if wlAt b j = l then endsN b l j ++ [wnAt b j] else endsN b l j
def ends (b : TBigraph) (l : Int) : List ByteArray := endsN b l b.inner.length

end Go.Fd

/-
  REDEXES, BOTH SIDES. Own work.
-/
namespace Go.Fd
set_option maxRecDepth 20000

def idle (b : TBigraph) (l : Int) : Prop := (ports b l).length = 0 ∧ (ends b l).length = 0

/-- A bigraph that is small. -/
structure small (b : TBigraph) : Prop where
  nodes : b.nodes.length ≤ 8
  links : ∀ x ∈ b.nodes, x.links.length ≤ 1000
  sites : b.sites.length ≤ 4
  outer : b.outer.length ≤ 16
  inner : b.inner.length ≤ 16
  roots : 0 ≤ b.roots ∧ b.roots ≤ 4
  edges : 0 ≤ b.edges ∧ b.edges ≤ 8

theorem portsAt_le {sig : List TControl} (h : sigOK sig) (c : Int) : portsAt sig c ≤ 3 := by
  unfold portsAt
  cases e : sig[c.toNat]? with
  | none => decide
  | some x =>
    obtain ⟨hl, rfl⟩ := List.getElem?_eq_some_iff.1 e
    exact ((h.1 _ hl).1).2.1.2

theorem bigOK.small {sig : List TControl} {b : TBigraph} (h : bigOK sig b) : small b :=
  ⟨h.nodesL, fun x hx => by
    obtain ⟨k, hk, rfl⟩ := List.getElem_of_mem hx
    have h1 := (h.nodes k hk).ports
    have h2 := portsAt_le h.sg b.nodes[k].control
    omega, h.sitesL, h.outer.2, by have := h.inn.2; rw [inn_len] at this; exact this, h.roots, h.edges⟩

end Go.Fd

/-
  PORTS OF EACH SORT, FAULTS: WHAT THEY ARE. Own work.
-/
namespace Go.Fd
set_option maxRecDepth 20000

/-! ## lists collected in order -/
/-! ## ports -/
/-! ## numbers of ports of each sort -/
def nestOf (s : TSorting) (c : Int) : List Int := (s.nest[c.toNat]?).getD []
/-- Numbers within bounds. -/
structure Bn (n : Nat) (B : Int) (l : List Int) : Prop where
  len : l.length = n
  bd : ∀ x ∈ l, 0 ≤ x ∧ x ≤ B
theorem Bn.g {n : Nat} {B : Int} {l : List Int} (h : Bn n B l) (hB : 0 ≤ B) (k : Nat) : 0 ≤ g0 l k ∧ g0 l k ≤ B := by
  by_cases hk : k < l.length
  · have : g0 l k = l[k] := by simp [hk]
    rw [this]
    exact h.bd _ (List.getElem_mem hk)
  · have : g0 l k = 0 := by simp [g0, List.getD, List.getElem?_eq_none (Nat.le_of_not_lt hk)]
    rw [this]
    omega
theorem Bn.set {n : Nat} {B C : Int} {l : List Int} (h : Bn n B l) (hB : B ≤ C) {k : Nat} {v : Int} (h0 : 0 ≤ v) (h1 : v ≤ C) : Bn n C (l.set k v) := by
  refine ⟨by rw [List.length_set]; exact h.len, fun x hx => ?_⟩
  rcases List.mem_or_eq_of_mem_set hx with hx | hx
  · have := h.bd x hx
    omega
  · omega
theorem Bn.mono {n : Nat} {B C : Int} {l : List Int} (h : Bn n B l) (hB : B ≤ C) : Bn n C l := ⟨h.len, fun x hx => by have := h.bd x hx; omega⟩
/-- A sorting and a bigraph that are valid. -/
structure two (sig : List TControl) (s : TSorting) (b : TBigraph) : Prop where
  srt : sortOK sig s
  big : bigOK sig b
theorem two.ctl {sig : List TControl} {s : TSorting} {b : TBigraph} (h : two sig s b) {i : Nat} (hi : i < b.nodes.length) : ∃ c : Nat, b.nodes[i].control = c ∧ ctlAt b i = c ∧ c < sig.length ∧ c < s.nest.length ∧ c < s.sorts.length := by
  have hc := (h.big.nodes i hi).ctl
  refine ⟨b.nodes[i].control.toNat, by omega, ?_, by omega, by rw [h.srt.nestL]; omega, by rw [h.srt.sortsL]; omega⟩
  simp [ctlAt, hi]
  omega
/-! ## faults -/
def chs (s : TSorting) (b : TBigraph) (p : Int) : List Int := if p < 0 then s.tops else nestOf s (ctlAt b p)
def linksN (b : TBigraph) : Nat := (b.edges + b.outer.length).toNat
end Go.Fd

/-
  PORTS OF EACH SORT, FAULTS, CHOICES, BOTH SIDES. Own work.
-/
namespace Go.Fd
set_option maxRecDepth 20000

theorem sem_l7Allowed (sig : List TControl) (s : TSorting) (b : TBigraph) (p : Int) (h2 : two sig s b) (hp : p < b.nodes.length) (lvl : Nat) (S : Sto) : Sem Go.Proofs.Tryz.prog fid_spec_l7Allowed lvl [.ag ((cSorting s).map .tr), .ag ((cBigraph b).map .tr), iI p] S (tI (chs s b p)) S := by
  refine sem_of_chk k_spec_l7Allowed trivial ?_
  simp only [c_spec_l7Allowed, cSorting, cBigraph, List.length_map, EVA, ↓reduceIte, Nat.reduceEqDiff, Nat.reduceMul, reduceCtorEq, Nat.reduceAdd, Nat.reduceSub, Nat.reduceLeDiff, Nat.reduceLT, Int.reduceToNat, Int.reduceLE, Int.reduceLT, mens, men]
  refine ite_of (fun hlt => ?_) (fun hge => ?_)
  · unfold chs
    rw [if_pos hlt]
  · obtain ⟨i, rfl⟩ : ∃ i : Nat, p = i := ⟨p.toNat, by omega⟩
    have hi : i < b.nodes.length := by omega
    obtain ⟨c, e1, e2, c1, c2, c3⟩ := h2.ctl hi
    have gn := getA (c := cNode) hi
    have gs := getA (c := eIS) c2
    simp only [gn, cNode, e1, gs, Int.toNat_natCast, Int.natCast_nonneg, List.length_map, EVA, ↓reduceIte, Nat.reduceEqDiff, Nat.reduceMul, reduceCtorEq, Nat.reduceAdd, Nat.reduceSub, Nat.reduceLeDiff, Nat.reduceLT, Int.reduceToNat, Int.reduceLE, Int.reduceLT, mens, men]
    unfold chs
    rw [if_neg hge, e2]
    simp [nestOf, c2]

theorem sem_choices (sig : List TControl) (s : TSorting) (b : TBigraph) (p : Int) (h2 : two sig s b) (hp : p < b.nodes.length) (lvl : Nat) (S : Sto) : Sem Go.Proofs.Tryz.prog fid_impl_Sorting_choices lvl [.ag ((cSorting s).map .tr), .ag ((cBigraph b).map .tr), iI p] S (tI (chs s b p)) S := by
  refine sem_of_chk k_impl_Sorting_choices trivial ?_
  simp only [c_impl_Sorting_choices, cSorting, cBigraph, List.length_map, EVA, ↓reduceIte, Nat.reduceEqDiff, Nat.reduceMul, reduceCtorEq, Nat.reduceAdd, Nat.reduceSub, Nat.reduceLeDiff, Nat.reduceLT, Int.reduceToNat, Int.reduceLE, Int.reduceLT, mens, men]
  refine ite_of (fun hlt => ?_) (fun hge => ?_)
  · unfold chs
    rw [if_pos hlt]
  · obtain ⟨i, rfl⟩ : ∃ i : Nat, p = i := ⟨p.toNat, by omega⟩
    have hi : i < b.nodes.length := by omega
    obtain ⟨c, e1, e2, c1, c2, c3⟩ := h2.ctl hi
    have gn := getA (c := cNode) hi
    have gs := getA (c := eIS) c2
    simp only [gn, cNode, e1, gs, Int.toNat_natCast, Int.natCast_nonneg, List.length_map, EVA, ↓reduceIte, Nat.reduceEqDiff, Nat.reduceMul, reduceCtorEq, Nat.reduceAdd, Nat.reduceSub, Nat.reduceLeDiff, Nat.reduceLT, Int.reduceToNat, Int.reduceLE, Int.reduceLT, mens, men]
    unfold chs
    rw [if_neg hge, e2]
    simp [nestOf, c2]

theorem two.par {sig : List TControl} {s : TSorting} {b : TBigraph} (h2 : two sig s b) {j : Nat} (hj : j < b.nodes.length) : -4 ≤ b.nodes[j].parent ∧ b.nodes[j].parent < b.nodes.length := by
  have h1 := (h2.big.nodes j hj).par
  have h3 := h2.big.roots
  rcases h1 with h1 | h1 <;> omega
theorem two.chsL {sig : List TControl} {s : TSorting} {b : TBigraph} (h2 : two sig s b) (hs : bdSorting 4294967296 s) (p : Int) : (chs s b p).length ≤ 4294967296 := by
  obtain ⟨b1, b2, b3, b4, b5, b6, b7⟩ := hs
  unfold chs
  split
  · exact b1
  · unfold nestOf
    cases e : s.nest[(ctlAt b p).toNat]? with
    | none => simp
    | some x =>
      obtain ⟨hl, rfl⟩ := List.getElem?_eq_some_iff.1 e
      exact b3 _ (List.getElem_mem hl)

end Go.Fd

/-
  ALL FAULTS, BOTH SIDES; SORTED OR NOT. Own work.
-/
namespace Go.Fd
set_option maxRecDepth 20000

theorem two.links {sig : List TControl} {s : TSorting} {b : TBigraph} (h2 : two sig s b) : (linksN b : Int) = b.edges + b.outer.length := by
  have := h2.big.edges
  unfold linksN
  omega
/-! ## valid ones -/
theorem sem_l7Two (sig : List TControl) (s : TSorting) (b : TBigraph) (hn : sig.length ≤ 4294967296) (hbs : ∀ y ∈ sig, bdControl 4294967296 y) (hs : bdSorting 4294967296 s) (hb : bdBigraph 4294967296 b) (hf : ftBigraph b) (lvl : Nat) (S : Sto) : Sem Go.Proofs.Tryz.prog fid_spec_l7Two lvl [.tr (.sl (sig.map cControl)), .ag ((cSorting s).map .tr), .ag ((cBigraph b).map .tr)] S (iB (dc (two sig s b))) S := by
  refine sem_of_chk k_spec_l7Two trivial ?_
  simp only [c_spec_l7Two, cSorting, cBigraph, List.length_map, EVA, ↓reduceIte, Nat.reduceEqDiff, Nat.reduceMul, reduceCtorEq, Nat.reduceAdd, Nat.reduceSub, Nat.reduceLeDiff, Nat.reduceLT, Int.reduceToNat, Int.reduceLE, Int.reduceLT, mens, men]
  refine kca_intro (sem_l7Good sig s hn hbs hs) ?_
  cases h1 : dc (sortOK sig s)
  · simp only [EVA, ↓reduceIte, Nat.reduceEqDiff, Nat.reduceMul, reduceCtorEq, Nat.reduceAdd, Nat.reduceSub, Nat.reduceLeDiff, Nat.reduceLT, Int.reduceToNat, Int.reduceLE, Int.reduceLT, mens, men]
    rw [dc_false fun h : two sig s b => dc_not.1 h1 h.srt]
  simp only [cSorting, cBigraph, List.length_map, EVA, ↓reduceIte, Nat.reduceEqDiff, Nat.reduceMul, reduceCtorEq, Nat.reduceAdd, Nat.reduceSub, Nat.reduceLeDiff, Nat.reduceLT, Int.reduceToNat, Int.reduceLE, Int.reduceLT, mens, men]
  refine kca_intro (sem_l2Good sig b hn hbs hb hf) ?_
  simp only [EVA, ↓reduceIte, Nat.reduceEqDiff, Nat.reduceMul, reduceCtorEq, Nat.reduceAdd, Nat.reduceSub, Nat.reduceLeDiff, Nat.reduceLT, Int.reduceToNat, Int.reduceLE, Int.reduceLT, mens, men]
  rw [dc_congr (p := two sig s b) ⟨fun h => h.big, fun h => ⟨dc_iff.1 h1, h⟩⟩]
theorem sem_isSortedBy (sig : List TControl) (s : TSorting) (b : TBigraph) (hn : sig.length ≤ 4294967296) (hbs : ∀ y ∈ sig, bdControl 4294967296 y) (hs : bdSorting 4294967296 s) (hb : bdBigraph 4294967296 b) (lvl : Nat) (S : Sto) : Sem Go.Proofs.Tryz.prog fid_impl_isSortedBy lvl [.tr (.sl (sig.map cControl)), .ag ((cSorting s).map .tr), .ag ((cBigraph b).map .tr)] S (iB (dc (two sig s b))) S := by
  refine sem_of_chk k_impl_isSortedBy trivial ?_
  simp only [c_impl_isSortedBy, cSorting, cBigraph, List.length_map, EVA, ↓reduceIte, Nat.reduceEqDiff, Nat.reduceMul, reduceCtorEq, Nat.reduceAdd, Nat.reduceSub, Nat.reduceLeDiff, Nat.reduceLT, Int.reduceToNat, Int.reduceLE, Int.reduceLT, mens, men]
  refine kca_intro (sem_impl_IsSorting sig s hn hbs hs) ?_
  cases h1 : dc (sortOK sig s)
  · simp only [EVA, ↓reduceIte, Nat.reduceEqDiff, Nat.reduceMul, reduceCtorEq, Nat.reduceAdd, Nat.reduceSub, Nat.reduceLeDiff, Nat.reduceLT, Int.reduceToNat, Int.reduceLE, Int.reduceLT, mens, men]
    rw [dc_false fun h : two sig s b => dc_not.1 h1 h.srt]
  simp only [cSorting, cBigraph, List.length_map, EVA, ↓reduceIte, Nat.reduceEqDiff, Nat.reduceMul, reduceCtorEq, Nat.reduceAdd, Nat.reduceSub, Nat.reduceLeDiff, Nat.reduceLT, Int.reduceToNat, Int.reduceLE, Int.reduceLT, mens, men]
  refine kca_intro (sem_impl_IsBigraph sig b hn hbs hb) ?_
  simp only [EVA, ↓reduceIte, Nat.reduceEqDiff, Nat.reduceMul, reduceCtorEq, Nat.reduceAdd, Nat.reduceSub, Nat.reduceLeDiff, Nat.reduceLT, Int.reduceToNat, Int.reduceLE, Int.reduceLT, mens, men]
  rw [dc_congr (p := two sig s b) ⟨fun h => h.big, fun h => ⟨dc_iff.1 h1, h⟩⟩]

/-! ## sorted -/
end Go.Fd

/-
  THE LAWS' FUNCTIONS ON SORTED BIGRAPHS, BOTH SIDES. Own work.
-/
namespace Go.Fd
set_option maxRecDepth 20000

def placeOK (b : TBigraph) (p : Int) : Prop := -b.roots ≤ p ∧ p ≤ (b.nodes.length : Int) - 1
open Classical in
noncomputable def r0_ChoicesIn (sig : List TControl) (s : TSorting) (b : TBigraph) (p : Int) : List Int := if two sig s b ∧ placeOK b p then chs s b p else []
noncomputable def r1_ChoicesIn (sig : List TControl) (s : TSorting) (b : TBigraph) (p : Int) : Bool := dc (two sig s b ∧ placeOK b p)

theorem sem_l2Place (b : TBigraph) (p : Int) (hr : 0 ≤ b.roots ∧ b.roots ≤ 4) (hn : b.nodes.length ≤ 4294967296) (lvl : Nat) (S : Sto) : Sem Go.Proofs.Tryz.prog fid_spec_l2Place lvl [.ag ((cBigraph b).map .tr), iI p] S (iB (dc (placeOK b p))) S := by
  refine sem_of_chk k_spec_l2Place trivial ?_
  simp only [c_spec_l2Place, cBigraph, List.length_map, EVA, ↓reduceIte, Nat.reduceEqDiff, Nat.reduceMul, reduceCtorEq, Nat.reduceAdd, Nat.reduceSub, Nat.reduceLeDiff, Nat.reduceLT, Int.reduceToNat, Int.reduceLE, Int.reduceLT, mens, men]
  refine ⟨by rw [fits_i64]; omega, by rw [fits_i64]; omega, ?_⟩
  refine kca_intro (sem_l1In p (-b.roots) ((b.nodes.length : Int) - 1)) ?_
  simp only [EVA, ↓reduceIte, Nat.reduceEqDiff, Nat.reduceMul, reduceCtorEq, Nat.reduceAdd, Nat.reduceSub, Nat.reduceLeDiff, Nat.reduceLT, Int.reduceToNat, Int.reduceLE, Int.reduceLT, mens, men]
  rw [inB_dc]
  rfl
theorem scrI {l : List Int} : ScR (rI l) = True := eq_true fun e he t ht => by
  obtain ⟨f, _, rfl⟩ := List.mem_map.1 he
  simp only [List.mem_singleton] at ht
  subst ht
  rfl
theorem unrI {l : List Int} : UnR 1 (rI l) = True := eq_true fun e he => by
  obtain ⟨f, _, rfl⟩ := List.mem_map.1 he
  rfl
theorem sem_l1Own (l : List Int) (hl : l.length ≤ 4294967296) (lvl : Nat) (S : Sto) : Sem Go.Proofs.Tryz.prog fid_spec_l1Own lvl [tI l] S (.ow 1 (rI l) true) S := by
  refine sem_of_chk k_spec_l1Own trivial ?_
  simp only [c_spec_l1Own, List.length_map, scrI, unrI, EVA, ↓reduceIte, Nat.reduceEqDiff, Nat.reduceMul, reduceCtorEq, Nat.reduceAdd, Nat.reduceSub, Nat.reduceLeDiff, Nat.reduceLT, Int.reduceToNat, Int.reduceLE, Int.reduceLT, mens, men]
  exact hl
theorem sem_CloneI (l : List Int) (hl : l.length ≤ 4294967296) (lvl : Nat) (S : Sto) : Sem Go.Proofs.Tryz.prog fid_slices_Clone_int_int lvl [tI l] S (.ow 1 (rI l) true) S := by
  refine sem_of_chk k_slices_Clone_int_int trivial ?_
  simp only [c_slices_Clone_int_int, List.length_map, scrI, unrI, EVA, ↓reduceIte, Nat.reduceEqDiff, Nat.reduceMul, reduceCtorEq, Nat.reduceAdd, Nat.reduceSub, Nat.reduceLeDiff, Nat.reduceLT, Int.reduceToNat, Int.reduceLE, Int.reduceLT, mens, men]
  exact ⟨hl, fun h => by rw [h]⟩

theorem sem_spec_ChoicesIn (sig : List TControl) (s : TSorting) (b : TBigraph) (p : Int) (hn : sig.length ≤ 4294967296) (hbs : ∀ y ∈ sig, bdControl 4294967296 y) (hs : bdSorting 4294967296 s) (hb : bdBigraph 4294967296 b) (hf : ftBigraph b) (lvl : Nat) (S : Sto) : Sem Go.Proofs.Tryz.prog fid_spec_ChoicesIn lvl [.tr (.sl (sig.map cControl)), .ag ((cSorting s).map .tr), .ag ((cBigraph b).map .tr), iI p] S (.tu [.ow 1 (rI (r0_ChoicesIn sig s b p)) true, iB (r1_ChoicesIn sig s b p)]) S := by
  refine sem_of_chk k_spec_ChoicesIn ⟨trivial, trivial, trivial⟩ ?_
  simp only [c_spec_ChoicesIn, cSorting, cBigraph, List.length_map, EVA, ↓reduceIte, Nat.reduceEqDiff, Nat.reduceMul, reduceCtorEq, Nat.reduceAdd, Nat.reduceSub, Nat.reduceLeDiff, Nat.reduceLT, Int.reduceToNat, Int.reduceLE, Int.reduceLT, mens, men]
  refine kca_intro (sem_l7Two sig s b hn hbs hs hb hf) ?_
  unfold r0_ChoicesIn r1_ChoicesIn
  cases h1 : dc (two sig s b)
  · simp only [EVA, ↓reduceIte, Nat.reduceEqDiff, Nat.reduceMul, reduceCtorEq, Nat.reduceAdd, Nat.reduceSub, Nat.reduceLeDiff, Nat.reduceLT, Int.reduceToNat, Int.reduceLE, Int.reduceLT, mens, men]
    rw [if_neg (fun g => dc_not.1 h1 g.1), dc_false fun g => dc_not.1 h1 g.1]
    rfl
  have h2 := dc_iff.1 h1
  have hrt := h2.big.roots
  have hnn := h2.big.nodesL
  simp only [cSorting, cBigraph, List.length_map, EVA, ↓reduceIte, Nat.reduceEqDiff, Nat.reduceMul, reduceCtorEq, Nat.reduceAdd, Nat.reduceSub, Nat.reduceLeDiff, Nat.reduceLT, Int.reduceToNat, Int.reduceLE, Int.reduceLT, mens, men]
  refine kca_intro (sem_l2Place b p h2.big.roots (by have := h2.big.small.nodes; omega)) ?_
  cases h3 : dc (placeOK b p)
  · simp only [EVA, ↓reduceIte, Nat.reduceEqDiff, Nat.reduceMul, reduceCtorEq, Nat.reduceAdd, Nat.reduceSub, Nat.reduceLeDiff, Nat.reduceLT, Int.reduceToNat, Int.reduceLE, Int.reduceLT, mens, men]
    rw [if_neg (fun g => dc_not.1 h3 g.2), dc_false fun g => dc_not.1 h3 g.2]
    rfl
  have h4 := dc_iff.1 h3
  rw [if_pos ⟨h2, h4⟩, dc_true (p := two sig s b ∧ placeOK b p) ⟨h2, h4⟩]
  simp only [cSorting, cBigraph, List.length_map, EVA, ↓reduceIte, Nat.reduceEqDiff, Nat.reduceMul, reduceCtorEq, Nat.reduceAdd, Nat.reduceSub, Nat.reduceLeDiff, Nat.reduceLT, Int.reduceToNat, Int.reduceLE, Int.reduceLT, mens, men]
  refine kca_intro (sem_l7Allowed sig s b p h2 (by have := h4.2; omega)) ?_
  simp only [List.length_map, EVA, ↓reduceIte, Nat.reduceEqDiff, Nat.reduceMul, reduceCtorEq, Nat.reduceAdd, Nat.reduceSub, Nat.reduceLeDiff, Nat.reduceLT, Int.reduceToNat, Int.reduceLE, Int.reduceLT, mens, men]
  refine kca_intro (sem_l1Own (chs s b p) (h2.chsL hs p)) ?_
  simp only [List.length_map, EVA, ↓reduceIte, Nat.reduceEqDiff, Nat.reduceMul, reduceCtorEq, Nat.reduceAdd, Nat.reduceSub, Nat.reduceLeDiff, Nat.reduceLT, Int.reduceToNat, Int.reduceLE, Int.reduceLT, mens, men]

theorem sem_impl_ChoicesIn (sig : List TControl) (s : TSorting) (b : TBigraph) (p : Int) (hn : sig.length ≤ 4294967296) (hbs : ∀ y ∈ sig, bdControl 4294967296 y) (hs : bdSorting 4294967296 s) (hb : bdBigraph 4294967296 b) (_hf : ftBigraph b) (lvl : Nat) (S : Sto) : Sem Go.Proofs.Tryz.prog fid_impl_ChoicesIn lvl [.tr (.sl (sig.map cControl)), .ag ((cSorting s).map .tr), .ag ((cBigraph b).map .tr), iI p] S (.tu [.ow 1 (rI (r0_ChoicesIn sig s b p)) true, iB (r1_ChoicesIn sig s b p)]) S := by
  refine sem_of_chk k_impl_ChoicesIn ⟨trivial, trivial, trivial⟩ ?_
  simp only [c_impl_ChoicesIn, cSorting, cBigraph, List.length_map, EVA, ↓reduceIte, Nat.reduceEqDiff, Nat.reduceMul, reduceCtorEq, Nat.reduceAdd, Nat.reduceSub, Nat.reduceLeDiff, Nat.reduceLT, Int.reduceToNat, Int.reduceLE, Int.reduceLT, mens, men]
  refine kca_intro (sem_isSortedBy sig s b hn hbs hs hb) ?_
  unfold r0_ChoicesIn r1_ChoicesIn
  cases h1 : dc (two sig s b)
  · simp only [EVA, ↓reduceIte, Nat.reduceEqDiff, Nat.reduceMul, reduceCtorEq, Nat.reduceAdd, Nat.reduceSub, Nat.reduceLeDiff, Nat.reduceLT, Int.reduceToNat, Int.reduceLE, Int.reduceLT, mens, men]
    rw [if_neg (fun g => dc_not.1 h1 g.1), dc_false fun g => dc_not.1 h1 g.1]
    rfl
  have h2 := dc_iff.1 h1
  have hrt := h2.big.roots
  have hnn := h2.big.nodesL
  simp only [cSorting, cBigraph, List.length_map, EVA, ↓reduceIte, Nat.reduceEqDiff, Nat.reduceMul, reduceCtorEq, Nat.reduceAdd, Nat.reduceSub, Nat.reduceLeDiff, Nat.reduceLT, Int.reduceToNat, Int.reduceLE, Int.reduceLT, mens, men]
  refine ⟨by rw [fits_i64]; omega, by rw [fits_i64]; omega, ?_⟩
  refine kca_intro (sem_within p (-b.roots) ((b.nodes.length : Int) - 1)) ?_
  rw [inB_dc, show (-b.roots ≤ p ∧ p ≤ (b.nodes.length : Int) - 1) = placeOK b p from rfl]
  cases h3 : dc (placeOK b p)
  · simp only [EVA, ↓reduceIte, Nat.reduceEqDiff, Nat.reduceMul, reduceCtorEq, Nat.reduceAdd, Nat.reduceSub, Nat.reduceLeDiff, Nat.reduceLT, Int.reduceToNat, Int.reduceLE, Int.reduceLT, mens, men]
    rw [if_neg (fun g => dc_not.1 h3 g.2), dc_false fun g => dc_not.1 h3 g.2]
    rfl
  have h4 := dc_iff.1 h3
  rw [if_pos ⟨h2, h4⟩, dc_true (p := two sig s b ∧ placeOK b p) ⟨h2, h4⟩]
  simp only [cSorting, cBigraph, List.length_map, EVA, ↓reduceIte, Nat.reduceEqDiff, Nat.reduceMul, reduceCtorEq, Nat.reduceAdd, Nat.reduceSub, Nat.reduceLeDiff, Nat.reduceLT, Int.reduceToNat, Int.reduceLE, Int.reduceLT, mens, men]
  refine kca_intro (sem_choices sig s b p h2 (by have := h4.2; omega)) ?_
  simp only [List.length_map, EVA, ↓reduceIte, Nat.reduceEqDiff, Nat.reduceMul, reduceCtorEq, Nat.reduceAdd, Nat.reduceSub, Nat.reduceLeDiff, Nat.reduceLT, Int.reduceToNat, Int.reduceLE, Int.reduceLT, mens, men]
  refine kca_intro (sem_CloneI (chs s b p) (h2.chsL hs p)) ?_
  simp only [List.length_map, EVA, ↓reduceIte, Nat.reduceEqDiff, Nat.reduceMul, reduceCtorEq, Nat.reduceAdd, Nat.reduceSub, Nat.reduceLeDiff, Nat.reduceLT, Int.reduceToNat, Int.reduceLE, Int.reduceLT, mens, men]
end Go.Fd

/-
  The annotated codes of the functions, printed by a program of mine (gen.py), and the check that they belong to the program.
-/
namespace Go.Fd
def c_laws_FnExactChoicesIn : F2 :=
  { nt := 147, res := [.t 8 [0]], body :=
   (.sq (rg [oo 5 (.bt (.t 1)),
 oo 6 (.bt (.t 2)),
 om 8 (.k (.bool false))])
 (.sq (rg [om 9 (i6 1048576)])
 (.sq (rg [om 22 (.t 0),
 om 23 (.t 9),
 oo 24 (.ca .pure false (.f fid_laws_szControlS) [.t 22, .t 23]),
 om 9 (.t 24)])
 (.sq (.sq (rg [om 25 (.t 9),
 oo 26 (.bi .lss 0 (.t 25) (i6 0))])
 (.cd (.t 26) (.sq (rg [om 8 (.k (.bool true))])
 (.rt))
 (.sk)))
 (.sq (rg [oo 27 (.ld (some 5) (.t 5)),
 om 28 (.t 9),
 oo 29 (.ca .pure false (.f fid_laws_szSorting) [.t 27, .t 28]),
 om 9 (.t 29)])
 (.sq (.sq (rg [om 30 (.t 9),
 oo 31 (.bi .lss 0 (.t 30) (i6 0))])
 (.cd (.t 31) (.sq (rg [om 8 (.k (.bool true))])
 (.rt))
 (.sk)))
 (.sq (rg [oo 32 (.ld (some 6) (.t 6)),
 om 33 (.t 9),
 oo 34 (.ca .pure false (.f fid_laws_szBigraph) [.t 32, .t 33]),
 om 9 (.t 34)])
 (.sq (.sq (rg [om 35 (.t 9),
 oo 36 (.bi .lss 0 (.t 35) (i6 0))])
 (.cd (.t 36) (.sq (rg [om 8 (.k (.bool true))])
 (.rt))
 (.sk)))
 (.sq (.rg (some 0) [om 38 (.t 0),
 oo 39 (.ca .pure false (.f fid_laws_toControlS) [.t 38]),
 oo 40 (.ld (some 5) (.t 5)),
 oo 41 (.ca .pure false (.f fid_laws_toSorting) [.t 40]),
 oo 42 (.ld (some 6) (.t 6)),
 oo 43 (.ca .pure false (.f fid_laws_toBigraph) [.t 42]),
 om 44 (.t 3),
 oo 45 (.ca .pure false (.f fid_spec_ChoicesIn) [.t 39, .t 41, .t 43, .t 44]),
 om 37 (.t 45),
 oo 46 (.ex 0 (.t 37)),
 oo 47 (.ex 1 (.t 37)),
 om 10 (.t 46),
 om 11 (.t 47)])
 (.sq (rg [om 48 (.t 0),
 oo 49 (.ca .pure true (.f fid_laws_toControlS) [.t 48]),
 om 12 (.t 49)])
 (.sq (rg [oo 50 (.ld (some 5) (.t 5)),
 oo 51 (.ca .pure true (.f fid_laws_toSorting) [.t 50]),
 oo 13 (.al [.slice none 0 0, .slice none 0 0, .slice none 0 0, .slice none 0 0, .slice none 0 0] []),
 on1 (.st 5 (.t 13) (.t 51))])
 (.sq (rg [oo 52 (.ld (some 6) (.t 6)),
 oo 53 (.ca .pure true (.f fid_laws_toBigraph) [.t 52]),
 oo 14 (.al [.int .i64 0, .slice none 0 0, .slice none 0 0, .int .i64 0, .slice none 0 0, .slice none 0 0] []),
 on1 (.st 6 (.t 14) (.t 53))])
 (.sq (rg [om 55 (.t 12),
 oo 56 (.ld (some 5) (.t 13)),
 oo 57 (.ld (some 6) (.t 14)),
 om 58 (.t 3),
 oo 59 (.ca .pure true (.f fid_impl_ChoicesIn) [.t 55, .t 56, .t 57, .t 58]),
 om 54 (.t 59),
 oo 60 (.ex 0 (.t 54)),
 oo 61 (.ex 1 (.t 54)),
 om 15 (.t 60),
 om 16 (.t 61)])
 (.sq (.sq (rg [om 62 (.t 15),
 om 63 (.t 10),
 oo 64 (.ca .pure false (.f fid_laws_eqIntS) [.t 62, .t 63]),
 oo 65 (.nt (.t 64)),
 om 66 (.t 65),
 og 67 66 false (.mv (.t 16) none),
 og 68 66 false (.mv (.t 11) none),
 og 69 66 false (.bi .neq 2 (.t 67) (.t 68)),
 oo 70 (.pk (.t 66) (.k (.bool true)) (.t 69))])
 (.cd (.t 70) (.sq (rg [om 8 (.k (.bool false))])
 (.rt))
 (.sk)))
 (.sq (.sq (rg [om 71 (.t 12),
 om 72 (.t 0),
 oo 73 (.ca .pure false (.f fid_laws_toControlS) [.t 72]),
 oo 74 (.ca .pure false (.f fid_laws_eqControlS) [.t 71, .t 73]),
 oo 75 (.nt (.t 74))])
 (.cd (.t 75) (.sq (rg [om 8 (.k (.bool false))])
 (.rt))
 (.sk)))
 (.sq (.sq (.rg (some 0) [oo 76 (.ld (some 5) (.t 13)),
 oo 77 (.ld (some 5) (.t 5)),
 oo 78 (.ca .pure false (.f fid_laws_toSorting) [.t 77]),
 oo 79 (.ca .pure false (.f fid_laws_eqSorting) [.t 76, .t 78]),
 oo 80 (.nt (.t 79))])
 (.cd (.t 80) (.sq (rg [om 8 (.k (.bool false))])
 (.rt))
 (.sk)))
 (.sq (.sq (.rg (some 0) [oo 81 (.ld (some 6) (.t 14)),
 oo 82 (.ld (some 6) (.t 6)),
 oo 83 (.ca .pure false (.f fid_laws_toBigraph) [.t 82]),
 oo 84 (.ca .pure false (.f fid_laws_eqBigraph) [.t 81, .t 83]),
 oo 85 (.nt (.t 84))])
 (.cd (.t 85) (.sq (rg [om 8 (.k (.bool false))])
 (.rt))
 (.sk)))
 (.sq (rg [om 17 (i6 1)])
 (.sq (rg [om 86 (.t 12),
 om 87 (.t 17),
 oo 88 (.ca .any true (.f fid_laws_markControlS) [.t 86, .t 87]),
 om 17 (.t 88)])
 (.sq (rg [oo 89 (.ld (some 5) (.t 13)),
 om 90 (.t 17),
 oo 91 (.ca .any true (.f fid_laws_markSorting) [.t 89, .t 90]),
 om 17 (.t 91)])
 (.sq (rg [oo 92 (.ld (some 6) (.t 14)),
 om 93 (.t 17),
 oo 94 (.ca .any true (.f fid_laws_markBigraph) [.t 92, .t 93]),
 om 17 (.t 94)])
 (.sq (.sq (rg [om 95 (.t 17),
 oo 96 (.bi .lss 0 (.t 95) (i6 0)),
 om 97 (.t 96),
 og 98 97 false (.mv (.t 15) none),
 og 99 97 false (.mv (.t 10) none),
 og 100 97 false (.ca .pure false (.f fid_laws_eqIntS) [.t 98, .t 99]),
 og 101 97 false (.nt (.t 100)),
 oo 102 (.pk (.t 97) (.k (.bool true)) (.t 101)),
 om 103 (.t 102),
 og 104 103 false (.mv (.t 16) none),
 og 105 103 false (.mv (.t 11) none),
 og 106 103 false (.bi .neq 2 (.t 104) (.t 105)),
 oo 107 (.pk (.t 103) (.k (.bool true)) (.t 106))])
 (.cd (.t 107) (.sq (rg [om 8 (.k (.bool false))])
 (.rt))
 (.sk)))
 (.sq (rg [om 18 (i6 1)])
 (.sq (rg [om 108 (.t 15),
 om 109 (.t 18),
 oo 110 (.ca .any true (.f fid_laws_markIntS) [.t 108, .t 109]),
 om 18 (.t 110)])
 (.sq (rg [om 19 (i6 1)])
 (.sq (rg [om 111 (.t 15),
 om 112 (.t 19),
 oo 113 (.ca .pure false (.f fid_laws_heldIntS) [.t 111, .t 112]),
 om 19 (.t 113)])
 (.sq (.sq (rg [om 114 (.t 19),
 oo 115 (.bi .lss 0 (.t 114) (i6 0))])
 (.cd (.t 115) (.sq (rg [om 8 (.k (.bool false))])
 (.rt))
 (.sk)))
 (.sq (.sq (rg [om 116 (.t 19),
 om 117 (.t 18),
 oo 118 (.bi .neq 0 (.t 116) (.t 117))])
 (.cd (.t 118) (.sq (rg [om 8 (.k (.bool false))])
 (.rt))
 (.sk)))
 (.sq (.rg (some 0) [om 120 (.t 0),
 oo 121 (.ca .pure false (.f fid_laws_toControlS) [.t 120]),
 oo 122 (.ld (some 5) (.t 5)),
 oo 123 (.ca .pure false (.f fid_laws_toSorting) [.t 122]),
 oo 124 (.ld (some 6) (.t 6)),
 oo 125 (.ca .pure false (.f fid_laws_toBigraph) [.t 124]),
 om 126 (.t 3),
 oo 127 (.ca .pure false (.f fid_impl_ChoicesIn) [.t 121, .t 123, .t 125, .t 126]),
 om 119 (.t 127),
 oo 128 (.ex 0 (.t 119)),
 oo 129 (.ex 1 (.t 119)),
 om 20 (.t 128),
 om 21 (.t 129)])
 (.sq (.sq (rg [om 130 (.t 20),
 om 131 (.t 10),
 oo 132 (.ca .pure false (.f fid_laws_eqIntS) [.t 130, .t 131]),
 oo 133 (.nt (.t 132)),
 om 134 (.t 133),
 og 135 134 false (.mv (.t 21) none),
 og 136 134 false (.mv (.t 11) none),
 og 137 134 false (.bi .neq 2 (.t 135) (.t 136)),
 oo 138 (.pk (.t 134) (.k (.bool true)) (.t 137))])
 (.cd (.t 138) (.sq (rg [om 8 (.k (.bool false))])
 (.rt))
 (.sk)))
 (.sq (rg [om 19 (i6 1)])
 (.sq (rg [om 139 (.t 15),
 om 140 (.t 19),
 oo 141 (.ca .pure false (.f fid_laws_heldIntS) [.t 139, .t 140]),
 om 19 (.t 141)])
 (.sq (.sq (rg [om 142 (.t 19),
 oo 143 (.bi .lss 0 (.t 142) (i6 0))])
 (.cd (.t 143) (.sq (rg [om 8 (.k (.bool false))])
 (.rt))
 (.sk)))
 (.sq (.sq (rg [om 144 (.t 19),
 om 145 (.t 18),
 oo 146 (.bi .neq 0 (.t 144) (.t 145))])
 (.cd (.t 146) (.sq (rg [om 8 (.k (.bool false))])
 (.rt))
 (.sk)))
 (.sq (rg [om 8 (.k (.bool true))])
 (.rt)))))))))))))))))))))))))))))))))))) }
theorem k_laws_FnExactChoicesIn : chkF Go.Proofs.Tryz.prog fid_laws_FnExactChoicesIn c_laws_FnExactChoicesIn = true := by kernel_rfl

def c_laws_markControlS : F2 :=
  { nt := 35, res := [.t 4 [0]], body :=
   (.sq (rg [om 4 (i6 0)])
 (.sq (.sq (rg [om 5 (i6 0)])
 (.bl 0 (.lp [0, 1, 5] [] (.sq (.sq (rg [om 6 (.t 5),
 om 7 (.t 0),
 oo 8 (.ln (.t 7)),
 oo 9 (.bi .lss 0 (.t 6) (.t 8))])
 (.cd (.t 9) (.sk)
 (.ex 0)))
 (.sq (.bl 1 (.sq (rg [om 12 (.t 0),
 om 13 (.t 5),
 om 14 (.t 1),
 oo 15 (.ca .pure false (.f fid_laws_markText) [.t 14]),
 oo 16 (.ia 3 (.t 12) (.t 13)),
 oo 17 (.fa 0 (.t 16)),
 on1 (.st 1 (.t 17) (.t 15))])
 (.sq (rg [om 18 (.t 1),
 oo 19 (.bi .add 0 (.t 18) (i6 1)),
 om 1 (.t 19)])
 (.sq (rg [om 20 (.t 0),
 om 21 (.t 5),
 om 22 (.t 1),
 oo 23 (.ia 3 (.t 20) (.t 21)),
 oo 24 (.fa 1 (.t 23)),
 on1 (.st 1 (.t 24) (.t 22))])
 (.sq (rg [om 25 (.t 1),
 oo 26 (.bi .add 0 (.t 25) (i6 1)),
 om 1 (.t 26)])
 (.sq (rg [om 27 (.t 0),
 om 28 (.t 5),
 om 29 (.t 1),
 oo 30 (.ia 3 (.t 27) (.t 28)),
 oo 31 (.fa 2 (.t 30)),
 on1 (.st 1 (.t 31) (.t 29))])
 (rg [om 32 (.t 1),
 oo 33 (.bi .add 0 (.t 32) (i6 1)),
 om 1 (.t 33)])))))))
 (rg [om 10 (.t 5),
 oo 11 (.bi .add 0 (.t 10) (i6 1)),
 om 5 (.t 11)]))))))
 (.sq (rg [om 34 (.t 1),
 om 4 (.t 34)])
 (.rt)))) }
theorem k_laws_markControlS : chkF Go.Proofs.Tryz.prog fid_laws_markControlS c_laws_markControlS = true := by kernel_rfl

def c_laws_markSorting : F2 :=
  { nt := 26, res := [.t 4 [0]], body :=
   (.sq (rg [oo 2 (.bx (.t 0)),
 om 4 (i6 0)])
 (.sq (rg [oo 5 (.fa 0 (.t 2)),
 oo 6 (.ld none (.t 5)),
 om 7 (.t 1),
 oo 8 (.ca .any true (.f fid_laws_markIntS) [.t 6, .t 7]),
 om 1 (.t 8)])
 (.sq (rg [oo 9 (.fa 1 (.t 2)),
 oo 10 (.ld none (.t 9)),
 om 11 (.t 1),
 oo 12 (.ca .any true (.f fid_laws_markIntSS) [.t 10, .t 11]),
 om 1 (.t 12)])
 (.sq (rg [oo 13 (.fa 2 (.t 2)),
 oo 14 (.ld none (.t 13)),
 om 15 (.t 1),
 oo 16 (.ca .any true (.f fid_laws_markIntSS) [.t 14, .t 15]),
 om 1 (.t 16)])
 (.sq (rg [oo 17 (.fa 3 (.t 2)),
 oo 18 (.ld none (.t 17)),
 om 19 (.t 1),
 oo 20 (.ca .any true (.f fid_laws_markIntS) [.t 18, .t 19]),
 om 1 (.t 20)])
 (.sq (rg [oo 21 (.fa 4 (.t 2)),
 oo 22 (.ld none (.t 21)),
 om 23 (.t 1),
 oo 24 (.ca .any true (.f fid_laws_markIntA2S) [.t 22, .t 23]),
 om 1 (.t 24)])
 (.sq (rg [om 25 (.t 1),
 om 4 (.t 25)])
 (.rt)))))))) }
theorem k_laws_markSorting : chkF Go.Proofs.Tryz.prog fid_laws_markSorting c_laws_markSorting = true := by kernel_rfl

def c_laws_markBigraph : F2 :=
  { nt := 22, res := [.t 4 [0]], body :=
   (.sq (rg [oo 2 (.bx (.t 0)),
 om 4 (i6 0)])
 (.sq (rg [oo 5 (.fa 1 (.t 2)),
 oo 6 (.ld none (.t 5)),
 om 7 (.t 1),
 oo 8 (.ca .any true (.f fid_laws_markNodeS) [.t 6, .t 7]),
 om 1 (.t 8)])
 (.sq (rg [oo 9 (.fa 2 (.t 2)),
 oo 10 (.ld none (.t 9)),
 om 11 (.t 1),
 oo 12 (.ca .any true (.f fid_laws_markIntS) [.t 10, .t 11]),
 om 1 (.t 12)])
 (.sq (rg [oo 13 (.fa 4 (.t 2)),
 oo 14 (.ld none (.t 13)),
 om 15 (.t 1),
 oo 16 (.ca .any true (.f fid_laws_markStringS) [.t 14, .t 15]),
 om 1 (.t 16)])
 (.sq (rg [oo 17 (.fa 5 (.t 2)),
 oo 18 (.ld none (.t 17)),
 om 19 (.t 1),
 oo 20 (.ca .any true (.f fid_laws_markWireS) [.t 18, .t 19]),
 om 1 (.t 20)])
 (.sq (rg [om 21 (.t 1),
 om 4 (.t 21)])
 (.rt))))))) }
theorem k_laws_markBigraph : chkF Go.Proofs.Tryz.prog fid_laws_markBigraph c_laws_markBigraph = true := by kernel_rfl

def c_laws_markIntS : F2 :=
  { nt := 19, res := [.t 4 [0]], body :=
   (.sq (rg [om 4 (i6 0)])
 (.sq (.sq (rg [om 5 (i6 0)])
 (.bl 0 (.lp [0, 1, 5] [] (.sq (.sq (rg [om 6 (.t 5),
 om 7 (.t 0),
 oo 8 (.ln (.t 7)),
 oo 9 (.bi .lss 0 (.t 6) (.t 8))])
 (.cd (.t 9) (.sk)
 (.ex 0)))
 (.sq (.bl 1 (.sq (rg [om 12 (.t 0),
 om 13 (.t 5),
 om 14 (.t 1),
 oo 15 (.ia 1 (.t 12) (.t 13)),
 on1 (.st 1 (.t 15) (.t 14))])
 (rg [om 16 (.t 1),
 oo 17 (.bi .add 0 (.t 16) (i6 1)),
 om 1 (.t 17)])))
 (rg [om 10 (.t 5),
 oo 11 (.bi .add 0 (.t 10) (i6 1)),
 om 5 (.t 11)]))))))
 (.sq (rg [om 18 (.t 1),
 om 4 (.t 18)])
 (.rt)))) }
theorem k_laws_markIntS : chkF Go.Proofs.Tryz.prog fid_laws_markIntS c_laws_markIntS = true := by kernel_rfl

def c_laws_heldIntS : F2 :=
  { nt := 21, res := [.t 4 [0]], body :=
   (.sq (rg [om 4 (i6 0)])
 (.sq (.sq (rg [om 5 (i6 0)])
 (.bl 0 (.lp [0, 1, 5] [] (.sq (.sq (rg [om 6 (.t 5),
 om 7 (.t 0),
 oo 8 (.ln (.t 7)),
 oo 9 (.bi .lss 0 (.t 6) (.t 8))])
 (.cd (.t 9) (.sk)
 (.ex 0)))
 (.sq (.bl 1 (.sq (.sq (rg [om 12 (.t 0),
 om 13 (.t 5),
 oo 14 (.ia 1 (.t 12) (.t 13)),
 oo 15 (.ld none (.t 14)),
 om 16 (.t 1),
 oo 17 (.bi .neq 0 (.t 15) (.t 16))])
 (.cd (.t 17) (.sq (rg [om 4 (i6 (-1))])
 (.rt))
 (.sk)))
 (rg [om 18 (.t 1),
 oo 19 (.bi .add 0 (.t 18) (i6 1)),
 om 1 (.t 19)])))
 (rg [om 10 (.t 5),
 oo 11 (.bi .add 0 (.t 10) (i6 1)),
 om 5 (.t 11)]))))))
 (.sq (rg [om 20 (.t 1),
 om 4 (.t 20)])
 (.rt)))) }
theorem k_laws_heldIntS : chkF Go.Proofs.Tryz.prog fid_laws_heldIntS c_laws_heldIntS = true := by kernel_rfl

def c_laws_markText : F2 :=
  { nt := 20, res := [.t 2 [0]], body :=
   (.sq (rg [om 2 (.k (.string ⟨#[]⟩))])
 (.sq (.sq (rg [om 4 (.t 0),
 oo 5 (.bi .leq 0 (.t 4) (i6 0))])
 (.cd (.t 5) (.sq (rg [om 2 (.k (.string ⟨#[109, 48]⟩))])
 (.rt))
 (.sk)))
 (.sq (rg [om 3 (.k (.string ⟨#[]⟩))])
 (.sq (.bl 0 (.lp [0, 3] [] (.sq (.sq (rg [om 6 (.t 0),
 oo 7 (.bi .gtr 0 (.t 6) (i6 0))])
 (.cd (.t 7) (.sk)
 (.ex 0)))
 (.bl 1 (.sq (rg [om 8 (.t 0),
 oo 9 (.bi .rem 0 (.t 8) (i6 10)),
 oo 10 (.bi .add 0 (i6 48) (.t 9)),
 oo 11 (.cv (.int .u8) (.t 10)),
 oo 12 (.bs 1 1 [.int .u8 0] [(0, .t 11)]),
 oo 13 (.sb (.t 12)),
 om 14 (.t 3),
 oo 15 (.bi .add 0 (.t 13) (.t 14)),
 om 3 (.t 15)])
 (rg [om 16 (.t 0),
 oo 17 (.bi .quo 0 (.t 16) (i6 10)),
 om 0 (.t 17)]))))))
 (.sq (rg [om 18 (.t 3),
 oo 19 (.bi .add 0 (.k (.string ⟨#[109]⟩)) (.t 18)),
 om 2 (.t 19)])
 (.rt)))))) }
theorem k_laws_markText : chkF Go.Proofs.Tryz.prog fid_laws_markText c_laws_markText = true := by kernel_rfl

def c_laws_markIntSS : F2 :=
  { nt := 19, res := [.t 4 [0]], body :=
   (.sq (rg [om 4 (i6 0)])
 (.sq (.sq (rg [om 5 (i6 0)])
 (.bl 0 (.lp [0, 1, 5] [] (.sq (.sq (rg [om 6 (.t 5),
 om 7 (.t 0),
 oo 8 (.ln (.t 7)),
 oo 9 (.bi .lss 0 (.t 6) (.t 8))])
 (.cd (.t 9) (.sk)
 (.ex 0)))
 (.sq (.bl 1 (rg [om 12 (.t 0),
 om 13 (.t 5),
 oo 14 (.ia 1 (.t 12) (.t 13)),
 oo 15 (.ld none (.t 14)),
 om 16 (.t 1),
 oo 17 (.ca .any true (.f fid_laws_markIntS) [.t 15, .t 16]),
 om 1 (.t 17)]))
 (rg [om 10 (.t 5),
 oo 11 (.bi .add 0 (.t 10) (i6 1)),
 om 5 (.t 11)]))))))
 (.sq (rg [om 18 (.t 1),
 om 4 (.t 18)])
 (.rt)))) }
theorem k_laws_markIntSS : chkF Go.Proofs.Tryz.prog fid_laws_markIntSS c_laws_markIntSS = true := by kernel_rfl

def c_laws_markIntA2S : F2 :=
  { nt := 26, res := [.t 4 [0]], body :=
   (.sq (rg [om 4 (i6 0)])
 (.sq (.sq (rg [om 5 (i6 0)])
 (.bl 0 (.lp [0, 1, 5] [] (.sq (.sq (rg [om 7 (.t 5),
 om 8 (.t 0),
 oo 9 (.ln (.t 8)),
 oo 10 (.bi .lss 0 (.t 7) (.t 9))])
 (.cd (.t 10) (.sk)
 (.ex 0)))
 (.sq (.bl 1 (.sq (rg [om 6 (i6 0)])
 (.bl 2 (.lp [0, 1, 5, 6] [] (.sq (.sq (rg [om 13 (.t 6),
 oo 14 (.bi .lss 0 (.t 13) (i6 2))])
 (.cd (.t 14) (.sk)
 (.ex 2)))
 (.sq (.bl 3 (.sq (rg [om 17 (.t 0),
 om 18 (.t 5),
 om 19 (.t 6),
 om 20 (.t 1),
 oo 21 (.ia 2 (.t 17) (.t 18)),
 oo 22 (.ja 1 2 (.t 21) (.t 19)),
 on1 (.st 1 (.t 22) (.t 20))])
 (rg [om 23 (.t 1),
 oo 24 (.bi .add 0 (.t 23) (i6 1)),
 om 1 (.t 24)])))
 (rg [om 15 (.t 6),
 oo 16 (.bi .add 0 (.t 15) (i6 1)),
 om 6 (.t 16)])))))))
 (rg [om 11 (.t 5),
 oo 12 (.bi .add 0 (.t 11) (i6 1)),
 om 5 (.t 12)]))))))
 (.sq (rg [om 25 (.t 1),
 om 4 (.t 25)])
 (.rt)))) }
theorem k_laws_markIntA2S : chkF Go.Proofs.Tryz.prog fid_laws_markIntA2S c_laws_markIntA2S = true := by kernel_rfl

def c_laws_markNodeS : F2 :=
  { nt := 34, res := [.t 4 [0]], body :=
   (.sq (rg [om 4 (i6 0)])
 (.sq (.sq (rg [om 5 (i6 0)])
 (.bl 0 (.lp [0, 1, 5] [] (.sq (.sq (rg [om 6 (.t 5),
 om 7 (.t 0),
 oo 8 (.ln (.t 7)),
 oo 9 (.bi .lss 0 (.t 6) (.t 8))])
 (.cd (.t 9) (.sk)
 (.ex 0)))
 (.sq (.bl 1 (.sq (rg [om 12 (.t 0),
 om 13 (.t 5),
 om 14 (.t 1),
 oo 15 (.ia 3 (.t 12) (.t 13)),
 oo 16 (.fa 0 (.t 15)),
 on1 (.st 1 (.t 16) (.t 14))])
 (.sq (rg [om 17 (.t 1),
 oo 18 (.bi .add 0 (.t 17) (i6 1)),
 om 1 (.t 18)])
 (.sq (rg [om 19 (.t 0),
 om 20 (.t 5),
 om 21 (.t 1),
 oo 22 (.ia 3 (.t 19) (.t 20)),
 oo 23 (.fa 1 (.t 22)),
 on1 (.st 1 (.t 23) (.t 21))])
 (.sq (rg [om 24 (.t 1),
 oo 25 (.bi .add 0 (.t 24) (i6 1)),
 om 1 (.t 25)])
 (rg [om 26 (.t 0),
 om 27 (.t 5),
 oo 28 (.ia 3 (.t 26) (.t 27)),
 oo 29 (.fa 2 (.t 28)),
 oo 30 (.ld none (.t 29)),
 om 31 (.t 1),
 oo 32 (.ca .any true (.f fid_laws_markIntS) [.t 30, .t 31]),
 om 1 (.t 32)]))))))
 (rg [om 10 (.t 5),
 oo 11 (.bi .add 0 (.t 10) (i6 1)),
 om 5 (.t 11)]))))))
 (.sq (rg [om 33 (.t 1),
 om 4 (.t 33)])
 (.rt)))) }
theorem k_laws_markNodeS : chkF Go.Proofs.Tryz.prog fid_laws_markNodeS c_laws_markNodeS = true := by kernel_rfl

def c_laws_markStringS : F2 :=
  { nt := 20, res := [.t 4 [0]], body :=
   (.sq (rg [om 4 (i6 0)])
 (.sq (.sq (rg [om 5 (i6 0)])
 (.bl 0 (.lp [0, 1, 5] [] (.sq (.sq (rg [om 6 (.t 5),
 om 7 (.t 0),
 oo 8 (.ln (.t 7)),
 oo 9 (.bi .lss 0 (.t 6) (.t 8))])
 (.cd (.t 9) (.sk)
 (.ex 0)))
 (.sq (.bl 1 (.sq (rg [om 12 (.t 0),
 om 13 (.t 5),
 om 14 (.t 1),
 oo 15 (.ca .pure false (.f fid_laws_markText) [.t 14]),
 oo 16 (.ia 1 (.t 12) (.t 13)),
 on1 (.st 1 (.t 16) (.t 15))])
 (rg [om 17 (.t 1),
 oo 18 (.bi .add 0 (.t 17) (i6 1)),
 om 1 (.t 18)])))
 (rg [om 10 (.t 5),
 oo 11 (.bi .add 0 (.t 10) (i6 1)),
 om 5 (.t 11)]))))))
 (.sq (rg [om 19 (.t 1),
 om 4 (.t 19)])
 (.rt)))) }
theorem k_laws_markStringS : chkF Go.Proofs.Tryz.prog fid_laws_markStringS c_laws_markStringS = true := by kernel_rfl

def c_laws_markWireS : F2 :=
  { nt := 28, res := [.t 4 [0]], body :=
   (.sq (rg [om 4 (i6 0)])
 (.sq (.sq (rg [om 5 (i6 0)])
 (.bl 0 (.lp [0, 1, 5] [] (.sq (.sq (rg [om 6 (.t 5),
 om 7 (.t 0),
 oo 8 (.ln (.t 7)),
 oo 9 (.bi .lss 0 (.t 6) (.t 8))])
 (.cd (.t 9) (.sk)
 (.ex 0)))
 (.sq (.bl 1 (.sq (rg [om 12 (.t 0),
 om 13 (.t 5),
 om 14 (.t 1),
 oo 15 (.ca .pure false (.f fid_laws_markText) [.t 14]),
 oo 16 (.ia 2 (.t 12) (.t 13)),
 oo 17 (.fa 0 (.t 16)),
 on1 (.st 1 (.t 17) (.t 15))])
 (.sq (rg [om 18 (.t 1),
 oo 19 (.bi .add 0 (.t 18) (i6 1)),
 om 1 (.t 19)])
 (.sq (rg [om 20 (.t 0),
 om 21 (.t 5),
 om 22 (.t 1),
 oo 23 (.ia 2 (.t 20) (.t 21)),
 oo 24 (.fa 1 (.t 23)),
 on1 (.st 1 (.t 24) (.t 22))])
 (rg [om 25 (.t 1),
 oo 26 (.bi .add 0 (.t 25) (i6 1)),
 om 1 (.t 26)])))))
 (rg [om 10 (.t 5),
 oo 11 (.bi .add 0 (.t 10) (i6 1)),
 om 5 (.t 11)]))))))
 (.sq (rg [om 27 (.t 1),
 om 4 (.t 27)])
 (.rt)))) }
theorem k_laws_markWireS : chkF Go.Proofs.Tryz.prog fid_laws_markWireS c_laws_markWireS = true := by kernel_rfl

end Go.Fd

/-
  THE TEXT OF A MARK; THE MARKS OF NUMBERS AND TEXTS. Own work.
-/
namespace Go.Fd
set_option maxRecDepth 20000
abbrev mInt (_ : Int) (k : Int) : Int := k
abbrev nInt (_ : Int) : Nat := 1
def mt (q : Nat) (o : ByteArray) : ByteArray := if q = 0 then o else mt (q / 10) (⟨#[UInt8.ofNat (48 + q % 10)]⟩ ++ o)
  termination_by q
  decreasing_by omega
theorem mt_pos {q : Nat} {o : ByteArray} (h : 0 < q) : mt q o = mt (q / 10) (⟨#[UInt8.ofNat (48 + q % 10)]⟩ ++ o) := by
  rw [mt, if_neg (by omega)]
theorem mt_zero {o : ByteArray} : mt 0 o = o := by rw [mt, if_pos rfl]
def markT (k : Int) : ByteArray := if k ≤ 0 then ⟨#[109, 48]⟩ else ⟨#[109]⟩ ++ mt k.toNat ⟨#[]⟩
theorem sem_markText (k : Int) (h : k ≤ 4611686018427387904) (lvl : Nat) (S : Sto) : Sem Go.Proofs.Tryz.prog fid_laws_markText lvl [iI k] S (iS (markT k)) S := by
  refine sem_of_chk k_laws_markText trivial ?_
  simp only [c_laws_markText, EVA, ↓reduceIte, Nat.reduceEqDiff, Nat.reduceMul, reduceCtorEq, Nat.reduceAdd, Nat.reduceSub, Nat.reduceLeDiff, Nat.reduceLT, Int.reduceToNat, Int.reduceLE, Int.reduceLT, mens, men]
  unfold markT
  refine ite_of (fun h0 => ?_) (fun h0 => ?_)
  · rw [if_pos h0]
  · rw [if_neg h0]
    obtain ⟨K, hK⟩ : ∃ K : Nat, k = K := ⟨k.toNat, by omega⟩
    subst hK
    rw [Int.toNat_natCast]
    refine wp_count (α := Nat × ByteArray) K (fun j y => ⟨lvl, [(0, iI y.1), (3, iS y.2)], [], S⟩) (fun j y => y.1 + j ≤ K ∧ mt y.1 y.2 = mt K ⟨#[]⟩ ∧ y.1 * 10 ^ y.2.size ≤ K ∧ y.2.size ≤ 19) (K, ⟨#[]⟩) ⟨by simp only [EVA, ↓reduceIte, Nat.reduceEqDiff, Nat.reduceMul, reduceCtorEq, Nat.reduceAdd, Nat.reduceSub, Nat.reduceLeDiff, Nat.reduceLT, Int.reduceToNat, Int.reduceLE, Int.reduceLT, mens, men], by simp only [EVA, ↓reduceIte, Nat.reduceEqDiff, Nat.reduceMul, reduceCtorEq, Nat.reduceAdd, Nat.reduceSub, Nat.reduceLeDiff, Nat.reduceLT, Int.reduceToNat, Int.reduceLE, Int.reduceLT, mens, men]⟩ ⟨Nat.le_refl _, rfl, Nat.le_of_eq (Nat.mul_one K), (by decide : (0 : Nat) ≤ 19)⟩ ?_
    intro j y hj hA
    obtain ⟨q, o⟩ := y
    obtain ⟨h1, h2, h3, h4⟩ := hA
    simp only at h1 h2 h3 h4
    simp only [EVA, ↓reduceIte, Nat.reduceEqDiff, Nat.reduceMul, reduceCtorEq, Nat.reduceAdd, Nat.reduceSub, Nat.reduceLeDiff, Nat.reduceLT, Int.reduceToNat, Int.reduceLE, Int.reduceLT, mens, men]
    refine ite_of (fun hq => ?_) (fun hq => ?_)
    · have hq0 : 0 < q := by omega
      have hby : byR [[Tr.v (Value.int IntKind.u8 (48 + (q : Int) % 10))]] = some [UInt8.ofNat (48 + q % 10)] := by
        have e : (48 + (q : Int) % 10).toNat = 48 + q % 10 := by omega
        simp only [cut, List.replicate_one, List.set_cons_zero, List.drop_zero, List.take_succ_cons, List.take_zero, byR, Option.map_some, e]
      have h5 : o.size < 19 := by
        apply Classical.byContradiction
        intro hc
        have e : o.size = 19 := by omega
        rw [e] at h3
        have : 1 * 10 ^ 19 ≤ q * 10 ^ 19 := Nat.mul_le_mul_right _ hq0
        omega
      have h6 : q / 10 * 10 ^ (o.size + 1) ≤ K := by
        refine Nat.le_trans ?_ h3
        rw [Nat.pow_succ, Nat.mul_comm (10 ^ o.size) 10, ← Nat.mul_assoc]
        exact Nat.mul_le_mul_right _ (by omega)
      rw [hby]
      simp only [EVA, ↓reduceIte, Nat.reduceEqDiff, Nat.reduceMul, reduceCtorEq, Nat.reduceAdd, Nat.reduceSub, Nat.reduceLeDiff, Nat.reduceLT, Int.reduceToNat, Int.reduceLE, Int.reduceLT, mens, men]
      have hs : (ByteArray.mk #[UInt8.ofNat (48 + q % 10)] ++ o).size = o.size + 1 := by
        rw [ByteArray.size_append, Nat.add_comm]; rfl
      have e8 : fits .u8 (48 + (q : Int) % 10) := by
        constructor
        · show (0 : Int) ≤ _; omega
        · show _ ≤ (255 : Int); omega
      refine ⟨by rw [fits_i64]; omega, e8, ?_, by rw [fits_i64]; omega, cntJ_intro (q / 10, ByteArray.mk #[UInt8.ofNat (48 + q % 10)] ++ o) (by omega) ?_ ⟨by simp only; omega, ?_, ?_, ?_⟩⟩
      · show 1 + o.size ≤ 4294967296
        omega
      · rfl
      · rw [← h2, mt_pos hq0]
      · simp only [hs]; exact h6
      · simp only [hs]; omega
    · have : q = 0 := by omega
      subst this
      rw [← h2, mt_zero]
      refine ⟨?_, rfl⟩
      show 1 + o.size ≤ 4294967296
      omega
abbrev mStr (_ : ByteArray) (k : Int) : ByteArray := markT k
abbrev nStr (_ : ByteArray) : Nat := 1
end Go.Fd
