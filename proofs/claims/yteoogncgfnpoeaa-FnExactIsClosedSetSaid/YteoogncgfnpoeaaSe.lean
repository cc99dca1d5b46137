/-
  WHAT HOLDS OF THE PROGRAM'S AND THE REFERENCE'S SMALL FUNCTIONS ON NUMBERS. Own work.
-/
import Derived.Test.YteoogncgfnpoeaaLa
import Derived.Test.YteoogncgfnpoeaaCo
namespace Go.Fd
set_option maxRecDepth 20000

/-- A statement as a bool. -/
noncomputable def dc (p : Prop) : Bool := @decide p (Classical.propDecidable p)
theorem dc_iff {p : Prop} : dc p = true ↔ p := by unfold dc; simp
theorem dc_true {p : Prop} (h : p) : dc p = true := dc_iff.2 h
theorem dc_false {p : Prop} (h : ¬ p) : dc p = false := by
  cases hh : dc p with
  | false => rfl
  | true => exact absurd (dc_iff.1 hh) h
theorem dc_not {p : Prop} : dc p = false ↔ ¬ p := ⟨fun h hp => (by rw [dc_true hp] at h; cases h), dc_false⟩
theorem dc_congr {p q : Prop} (h : p ↔ q) : dc p = dc q := by rw [propext h]
theorem dc_decide {p : Prop} [Decidable p] : dc p = decide p := by
  by_cases h : p
  · rw [dc_true h]; simp [h]
  · rw [dc_false h]; simp [h]

abbrev g0 (l : List Int) (i : Nat) : Int := l.getD i 0
abbrev A3 := Int × Int × Int
abbrev g3 (l : List A3) (i : Nat) : A3 := l.getD i (0, 0, 0)
theorem rI_get {l : List Int} {i : Nat} (h : i < l.length) : (rI l)[i]? = some [tv (g0 l i)] := by simp [h]
theorem rA_get {l : List A3} {i : Nat} (h : i < l.length) : (l.map cA3)[i]? = some (cA3 (g3 l i)) := by simp [h]
def inB (n a b : Int) : Bool := decide (a ≤ n) && decide (n ≤ b)
theorem inB_iff {n a b : Int} : inB n a b = true ↔ a ≤ n ∧ n ≤ b := by simp [inB]
theorem inB_not {n a b : Int} : inB n a b = false ↔ ¬ (a ≤ n ∧ n ≤ b) := by
  rw [← inB_iff]; cases inB n a b <;> simp

theorem sem_l1In (n a b : Int) (lvl : Nat) (S : Sto) : Sem Go.Proofs.Try.prog fid_spec_l1In lvl [iI n, iI a, iI b] S (iB (inB n a b)) S := by
  refine sem_of_chk k_spec_l1In trivial ?_
  simp only [c_spec_l1In, r_cons, r_nil, r_kont, r_seq1, r_fn2, r_rg, r_sq, r_rt, r_wpF, r_op1, r_op1g, r_gd, r_go1, r_mv, r_bi, r_lei, r_gei, r_pk, r_pkt, r_pkf, r_fin, r_kfe1, r_kcx, r_exps0, r_exps1, r_kex, r_exp1, r_expv2, ptd, lk, pt, xv, kv, kc, params, ↓reduceIte, Nat.reduceEqDiff, reduceCtorEq, List.length_cons, List.length_nil, Nat.reduceAdd, Nat.reduceLeDiff, Nat.reduceLT, true_and, and_true, decide_eq_true_eq, Bool.false_eq_true, Bool.not_true, Nat.zero_add]
  refine ite_of (fun h => ?_) (fun h => ?_) <;> simp [inB, h]
theorem sem_within (n a b : Int) (lvl : Nat) (S : Sto) : Sem Go.Proofs.Try.prog fid_impl_within lvl [iI n, iI a, iI b] S (iB (inB n a b)) S := by
  refine sem_of_chk k_impl_within trivial ?_
  simp only [c_impl_within, r_cons, r_nil, r_kont, r_seq1, r_fn2, r_rg, r_sq, r_rt, r_wpF, r_op1, r_op1g, r_gd, r_go1, r_mv, r_bi, r_lei, r_gei, r_pk, r_pkt, r_pkf, r_fin, r_kfe1, r_kcx, r_exps0, r_exps1, r_kex, r_exp1, r_expv2, ptd, lk, pt, xv, kv, kc, params, ↓reduceIte, Nat.reduceEqDiff, reduceCtorEq, List.length_cons, List.length_nil, Nat.reduceAdd, Nat.reduceLeDiff, Nat.reduceLT, true_and, and_true, decide_eq_true_eq, Bool.false_eq_true, Bool.not_true, Nat.zero_add]
  refine ite_of (fun h => ?_) (fun h => ?_) <;> simp [inB, h]

theorem sem_l1Has (l : List Int) (n : Int) (hl : l.length ≤ 9223372036854775807) (lvl : Nat) (S : Sto) : Sem Go.Proofs.Try.prog fid_spec_l1Has lvl [tI l, iI n] S (iB (decide (n ∈ l))) S := by
  refine sem_of_chk k_spec_l1Has trivial ?_
  simp only [c_spec_l1Has, r_cons, r_nil, r_kont, r_seq1, r_rg, r_sq, r_bl, r_wpF, r_op1, r_mv, ptd, pt, xv, kv, kc, params, ↓reduceIte, Nat.reduceEqDiff, reduceCtorEq, List.length_cons, List.length_nil, Nat.reduceAdd, Nat.reduceLeDiff, Nat.reduceLT, true_and, Nat.zero_add]
  refine wp_count (α := Unit) l.length (fun j _ => ⟨lvl, [(0, tI l), (1, iI n), (5, iI j)], [], S⟩) (fun j _ => n ∉ l.take j) () ⟨by simp only [r_clean, r_okm4, r_okE0, r_okE1, r_okL0, ↓reduceIte, Nat.reduceEqDiff, reduceCtorEq, and_true, memB, keepB, keepOB, Bool.false_eq_true], by simp only [r_fgt, ↓reduceIte, Nat.reduceEqDiff, reduceCtorEq, memB, keepB, keepOB, Bool.false_eq_true]; rfl⟩ (by simp) ?_
  intro j _ hj hA
  simp only [List.length_map, r_cons, r_nil, r_kont, r_seq1, r_seq2, r_blk2, r_fn2, r_sk, r_rg, r_sq, r_bl, r_ex, r_rt, r_cd, r_cd2, r_op1, r_go1, r_mv, r_bi, r_lti, r_ln, r_ln1, r_ixn, r_ia, r_ia1, r_fin, r_kfe1, r_kcx, r_exps0, r_exps1, r_kex, r_exp1, r_expv2, r_round2, ptd, lk, pt, xv, kv, kc, ↓reduceIte, Nat.reduceEqDiff, reduceCtorEq, Nat.reduceLT, true_and, and_true, decide_eq_true_eq, Int.toNat_natCast, Int.natCast_nonneg]
  refine ite_of (fun hlt => ?_) (fun hge => ?_)
  · have hja : j < l.length := by omega
    have ga := rI_get hja
    simp only [ga, r_cons, r_nil, r_kont, r_seq1, r_seq3, r_blk1, r_blk3, r_fn2, r_sk, r_rg, r_sq, r_rt, r_cd, r_cd2, r_op1, r_go1, r_mv, r_bi, r_add0, r_eqi, r_op3, r_iae, r_ltr, r_ld, r_ld1, r_fin, r_kfe1, r_kcx, r_exps0, r_exps1, r_kex, r_exp1, r_expv2, r_fgt, r_clean, r_okm4, r_okE0, r_okE1, r_okL0, r_round1, r_round3, ptd, lk, pt, xv, kv, kc, ↓reduceIte, Nat.reduceEqDiff, reduceCtorEq, List.length_cons, List.length_nil, Nat.reduceLT, true_and, and_true, decide_eq_true_eq, List.getElem?_cons_zero, memB, keepB, keepOB, Bool.false_eq_true, Nat.zero_add]
    have hg : g0 l j = l[j] := by simp [hja]
    refine ite_of (fun he => ?_) (fun hne => ?_)
    · have : n ∈ l := by rw [← he, hg]; exact List.getElem_mem hja
      simp [this]
    · refine ⟨by rw [fits_i64]; omega, cntJ_intro () hja rfl ?_⟩
      rw [List.take_succ_eq_append_getElem hja]
      simp only [List.mem_append, List.mem_singleton, not_or]
      exact ⟨hA, fun e => hne (by rw [hg, e])⟩
  · have : j = l.length := by omega
    subst this
    rw [List.take_length] at hA
    simp [hA]

/-- The first place of a number, -1 for none. -/
def idxI (l : List Int) (v : Int) : Int := if v ∈ l then (l.idxOf v : Int) else -1
theorem idxI_mem {l : List Int} {v : Int} : 0 ≤ idxI l v ↔ v ∈ l := by
  unfold idxI; split
  · rename_i h; simp [h]
  · rename_i h; simp [h]
theorem sem_Index (l : List Int) (n : Int) (hl : l.length ≤ 9223372036854775807) (lvl : Nat) (S : Sto) : Sem Go.Proofs.Try.prog fid_slices_Index_int_int lvl [tI l, iI n] S (iI (idxI l n)) S := by
  refine sem_of_chk k_slices_Index_int_int trivial ?_
  simp only [c_slices_Index_int_int, List.length_map, r_cons, r_nil, r_kont, r_seq1, r_rg, r_sq, r_bl, r_wpF, r_op1, r_go1, r_mv, r_ln, r_ln1, ptd, lk, pt, xv, kv, kc, params, ↓reduceIte, Nat.reduceEqDiff, reduceCtorEq, List.length_cons, List.length_nil, Nat.reduceAdd, Nat.reduceLeDiff, Nat.reduceLT, true_and, Nat.zero_add]
  refine wp_count (α := Unit) l.length (fun j _ => ⟨lvl, [(0, tI l), (1, iI n), (7, iI l.length), (8, iI j)], [], S⟩) (fun j _ => n ∉ l.take j) () ⟨by simp only [r_clean, r_okm4, r_okE0, r_okE1, r_okL0, ↓reduceIte, Nat.reduceEqDiff, reduceCtorEq, and_true, memB, keepB, keepOB, Bool.false_eq_true], by simp only [r_fgt, ↓reduceIte, Nat.reduceEqDiff, reduceCtorEq, memB, keepB, keepOB, Bool.false_eq_true]; rfl⟩ (by simp) ?_
  intro j _ hj hA
  simp only [r_cons, r_nil, r_kont, r_seq1, r_seq2, r_blk2, r_fn2, r_sk, r_rg, r_sq, r_bl, r_ex, r_rt, r_cd, r_cd2, r_op1, r_go1, r_mv, r_bi, r_lti, r_ixn, r_ia, r_ia1, r_fin, r_kfe1, r_kcx, r_exps0, r_exps1, r_kex, r_exp1, r_expv2, r_round2, ptd, lk, pt, xv, kv, kc, ↓reduceIte, Nat.reduceEqDiff, reduceCtorEq, Nat.reduceLT, true_and, and_true, decide_eq_true_eq, Int.toNat_natCast, Int.natCast_nonneg]
  refine ite_of (fun hlt => ?_) (fun hge => ?_)
  · have hja : j < l.length := by omega
    have ga := rI_get hja
    simp only [ga, r_cons, r_nil, r_kont, r_seq1, r_seq3, r_blk1, r_blk3, r_fn2, r_sk, r_rg, r_sq, r_rt, r_cd, r_cd2, r_op1, r_go1, r_mv, r_bi, r_add0, r_eqi, r_op3, r_iae, r_ltr, r_ld, r_ld1, r_fin, r_kfe1, r_kcx, r_exps0, r_exps1, r_kex, r_exp1, r_expv2, r_fgt, r_clean, r_okm4, r_okE0, r_okE1, r_okL0, r_round1, r_round3, ptd, lk, pt, xv, kv, kc, ↓reduceIte, Nat.reduceEqDiff, reduceCtorEq, List.length_cons, List.length_nil, Nat.reduceLT, true_and, and_true, decide_eq_true_eq, List.getElem?_cons_zero, memB, keepB, keepOB, Bool.false_eq_true, Nat.zero_add]
    have hg : g0 l j = l[j] := by simp [hja]
    refine ite_of (fun he => ?_) (fun hne => ?_)
    · have hm : n ∈ l := by rw [he, hg]; exact List.getElem_mem hja
      unfold idxI
      rw [if_pos hm]
      have : l.idxOf n = j := by
        have h1 : l.take j ++ l.drop j = l := List.take_append_drop j l
        rw [← h1, List.idxOf_append, if_neg hA, List.drop_eq_getElem_cons hja, List.idxOf_cons]
        rw [he, hg]
        simp
        omega
      rw [this]
    · refine ⟨by rw [fits_i64]; omega, cntJ_intro () hja rfl ?_⟩
      rw [List.take_succ_eq_append_getElem hja]
      simp only [List.mem_append, List.mem_singleton, not_or]
      exact ⟨hA, fun e => hne (by rw [hg, e])⟩
  · have : j = l.length := by omega
    subst this
    rw [List.take_length] at hA
    simp [idxI, hA]
theorem sem_Contains (l : List Int) (n : Int) (hl : l.length ≤ 9223372036854775807) (lvl : Nat) (S : Sto) : Sem Go.Proofs.Try.prog fid_slices_Contains_int_int lvl [tI l, iI n] S (iB (decide (n ∈ l))) S := by
  refine sem_of_chk k_slices_Contains_int_int trivial ?_
  simp only [c_slices_Contains_int_int, r_cons, r_nil, r_kont, r_seq1, r_rg, r_sq, r_wpF, r_op1, r_mv, r_kcn, r_sn0, r_sn1, r_ca, r_ca1, ptd, lk, pt, xv, kv, kc, params, ↓reduceIte, Nat.reduceEqDiff, reduceCtorEq, List.length_cons, List.length_nil, Nat.reduceAdd, Nat.reduceLeDiff, Nat.reduceLT, true_and, and_true, List.map_cons, List.map_nil, List.cons_append, List.nil_append, mens, men, Nat.zero_add]
  refine kca_intro (sem_Index l n hl) ?_
  simp only [idxI_mem, r_cons, r_nil, r_kont, r_seq1, r_fn2, r_rt, r_op1, r_go1, r_mv, r_bi, r_gei, r_fin, r_kfe1, r_kcx, r_exps0, r_exps1, r_kex, r_exp1, r_expv2, ptd, keyOf, freshK, lk, pt, addO, xv, kv, kc, ↓reduceIte, Nat.reduceEqDiff, Nat.reduceMul, reduceCtorEq, List.length_nil, Nat.reduceLT, and_true, noSh, isSc, impv, or_true]

/-- Numbers that rise, within bounds. -/
def Ris (lo hi : Int) (l : List Int) : Prop := ∀ i, i < l.length → lo ≤ g0 l i ∧ g0 l i ≤ hi ∧ (0 < i → g0 l (i - 1) < g0 l i)
theorem sem_l1Rising (l : List Int) (lo hi : Int) (hl : l.length ≤ 9223372036854775807) (lvl : Nat) (S : Sto) : Sem Go.Proofs.Try.prog fid_spec_l1Rising lvl [tI l, iI lo, iI hi] S (iB (dc (Ris lo hi l))) S := by
  refine sem_of_chk k_spec_l1Rising trivial ?_
  simp only [c_spec_l1Rising, r_cons, r_nil, r_kont, r_seq1, r_rg, r_sq, r_bl, r_wpF, r_op1, r_mv, ptd, pt, xv, kv, kc, params, ↓reduceIte, Nat.reduceEqDiff, reduceCtorEq, List.length_cons, List.length_nil, Nat.reduceAdd, Nat.reduceLeDiff, Nat.reduceLT, true_and, Nat.zero_add]
  refine wp_count (α := Unit) l.length (fun j _ => ⟨lvl, [(0, tI l), (1, iI lo), (2, iI hi), (7, iI j)], [], S⟩) (fun j _ => ∀ i, i < j → lo ≤ g0 l i ∧ g0 l i ≤ hi ∧ (0 < i → g0 l (i - 1) < g0 l i)) () ⟨by simp only [r_clean, r_okm4, r_okE0, r_okE1, r_okL0, ↓reduceIte, Nat.reduceEqDiff, reduceCtorEq, and_true, memB, keepB, keepOB, Bool.false_eq_true], by simp only [r_fgt, ↓reduceIte, Nat.reduceEqDiff, reduceCtorEq, memB, keepB, keepOB, Bool.false_eq_true]; rfl⟩ (fun i hi => by omega) ?_
  intro j _ hj hA
  simp only [List.length_map, r_cons, r_nil, r_kont, r_seq1, r_seq2, r_blk2, r_fn2, r_sk, r_rg, r_sq, r_bl, r_ex, r_rt, r_cd, r_cd2, r_op1, r_go1, r_mv, r_bi, r_lti, r_ln, r_ln1, r_ixn, r_ia, r_ia1, r_fin, r_kfe1, r_kcx, r_exps0, r_exps1, r_kex, r_exp1, r_expv2, r_round2, ptd, lk, pt, xv, kv, kc, ↓reduceIte, Nat.reduceEqDiff, reduceCtorEq, Nat.reduceLT, true_and, and_true, decide_eq_true_eq, Int.toNat_natCast, Int.natCast_nonneg]
  refine ite_of (fun hlt => ?_) (fun hge => ?_)
  · have hja : j < l.length := by omega
    have ga := rI_get hja
    simp only [ga, r_cons, r_kont, r_op1, r_go1, r_mv, r_op3, r_iae, r_ltr, r_ld, r_ld1, r_kcn, r_sn0, r_sn1, r_ca, r_ca1, ptd, lk, pt, xv, ↓reduceIte, Nat.reduceEqDiff, reduceCtorEq, List.length_cons, List.length_nil, Nat.reduceLT, true_and, and_true, List.map_cons, List.map_nil, List.cons_append, List.nil_append, List.getElem?_cons_zero, mens, men, Nat.zero_add]
    refine kca_intro (sem_l1In (g0 l j) lo hi) ?_
    simp only [r_cons, r_nil, r_kont, r_seq1, r_seq3, r_blk1, r_blk3, r_fn2, r_sk, r_rg, r_sq, r_rt, r_cd, r_cd2, r_op1, r_op1g, r_gd, r_gdu, r_go1, r_mv, r_bi, r_add0, r_sub0, r_gti, r_nt, r_nt1, r_pk, r_pkt, r_pkf, r_ixn, r_ia, r_ia1, r_fin, r_kfe1, r_kcx, r_exps0, r_exps1, r_kex, r_exp1, r_expv2, r_fgt, r_clean, r_okm4, r_okE0, r_okE1, r_okL0, r_round1, r_round3, ptd, keyOf, freshK, lk, pt, addO, xv, kv, kc, ↓reduceIte, Nat.reduceEqDiff, Nat.reduceMul, reduceCtorEq, List.length_nil, Nat.reduceLT, true_and, and_true, decide_eq_true_eq, noSh, isSc, impv, memB, keepB, keepOB, or_true, Bool.false_eq_true, Bool.true_eq_false, Bool.not_true, Bool.not_false, Bool.not_eq_false']
    refine ite_of (fun hin => ?_) (fun hin => ?_)
    · have hin' := inB_iff.1 hin
      have hgo : (0 < j → g0 l (j - 1) < g0 l j) → ∀ i, i < j + 1 → lo ≤ g0 l i ∧ g0 l i ≤ hi ∧ (0 < i → g0 l (i - 1) < g0 l i) := fun hp i hi => by
        by_cases e : i = j
        · subst e; exact ⟨hin'.1, hin'.2, hp⟩
        · exact hA i (by omega)
      refine ite_of (fun hpos => ?_) (fun hpos => ?_)
      · have hp : ((j : Int) - 1).toNat = j - 1 := by omega
        have hp0 : (0 : Int) ≤ j - 1 := by omega
        have gb := rI_get (l := l) (i := j - 1) (by omega)
        simp only [hp, hp0, gb, ga, r_cons, r_nil, r_kont, r_seq1, r_seq3, r_blk1, r_blk3, r_fn2, r_sk, r_rg, r_sq, r_rt, r_cd, r_cd2, r_op1, r_op1g, r_gd, r_go1, r_mv, r_bi, r_add0, r_gei, r_pk, r_pkt, r_pkf, r_op3, r_ixn, r_ia, r_iae, r_ia1, r_ltr, r_ld, r_ld1, r_fin, r_kfe1, r_kcx, r_exps0, r_exps1, r_kex, r_exp1, r_expv2, r_fgt, r_clean, r_okm4, r_okE0, r_okE1, r_okL0, r_round1, r_round3, ptd, lk, pt, xv, kv, kc, ↓reduceIte, Nat.reduceEqDiff, reduceCtorEq, List.length_cons, List.length_nil, Nat.reduceLT, true_and, and_true, decide_eq_true_eq, List.getElem?_cons_zero, memB, keepB, keepOB, Bool.false_eq_true, Int.toNat_natCast, Nat.zero_add, Int.natCast_nonneg]
        refine ⟨by rw [fits_i64]; omega, ite_of (fun hge => ?_) (fun hlt2 => ?_)⟩
        · have : ¬ Ris lo hi l := fun hr => by have := (hr j hja).2.2 (by omega); omega
          rw [dc_false this]
        · exact ⟨by rw [fits_i64]; omega, cntJ_intro () hja rfl (hgo fun _ => by omega)⟩
      · exact ⟨by rw [fits_i64]; omega, cntJ_intro () hja rfl (hgo fun h => by omega)⟩
    · have : ¬ Ris lo hi l := fun hr => hin (inB_iff.2 ⟨(hr j hja).1, (hr j hja).2.1⟩)
      rw [dc_false this]
  · have : j = l.length := by omega
    subst this
    rw [dc_true (p := Ris lo hi l) hA]

theorem sem_isRising (l : List Int) (below : Int) (hl : l.length ≤ 9223372036854775807) (hb : 0 ≤ below) (hb2 : below ≤ 9223372036854775807) (lvl : Nat) (S : Sto) : Sem Go.Proofs.Try.prog fid_impl_isRising lvl [tI l, iI below] S (iB (dc (Ris 0 (below - 1) l))) S := by
  refine sem_of_chk k_impl_isRising trivial ?_
  simp only [c_impl_isRising, List.length_map, r_cons, r_nil, r_kont, r_seq1, r_rg, r_sq, r_bl, r_wpF, r_op1, r_go1, r_mv, r_ln, r_ln1, ptd, lk, pt, xv, kv, kc, params, ↓reduceIte, Nat.reduceEqDiff, reduceCtorEq, List.length_cons, List.length_nil, Nat.reduceAdd, Nat.reduceLeDiff, Nat.reduceLT, true_and, Nat.zero_add]
  refine wp_count (α := Unit) l.length (fun j _ => ⟨lvl, [(0, tI l), (1, iI below), (7, tI l), (8, iI l.length), (9, iI j)], [], S⟩) (fun j _ => ∀ i, i < j → 0 ≤ g0 l i ∧ g0 l i ≤ below - 1 ∧ (0 < i → g0 l (i - 1) < g0 l i)) () ⟨by simp only [r_clean, r_okm4, r_okE0, r_okE1, r_okL0, ↓reduceIte, Nat.reduceEqDiff, reduceCtorEq, and_true, memB, keepB, keepOB, Bool.false_eq_true], by simp only [r_fgt, ↓reduceIte, Nat.reduceEqDiff, reduceCtorEq, memB, keepB, keepOB, Bool.false_eq_true]; rfl⟩ (fun i hi => by omega) ?_
  intro j _ hj hA
  simp only [r_cons, r_nil, r_kont, r_seq1, r_seq2, r_blk2, r_fn2, r_sk, r_rg, r_sq, r_bl, r_ex, r_rt, r_cd, r_cd2, r_op1, r_go1, r_mv, r_bi, r_lti, r_ixn, r_ia, r_ia1, r_fin, r_kfe1, r_kcx, r_exps0, r_exps1, r_kex, r_exp1, r_expv2, r_round2, ptd, lk, pt, xv, kv, kc, ↓reduceIte, Nat.reduceEqDiff, reduceCtorEq, Nat.reduceLT, true_and, and_true, decide_eq_true_eq, Int.toNat_natCast, Int.natCast_nonneg]
  refine ite_of (fun hlt => ?_) (fun hge => ?_)
  · have hja : j < l.length := by omega
    have ga := rI_get hja
    have hfb : fits .i64 (below - 1) := by rw [fits_i64]; omega
    simp only [ga, hfb, r_cons, r_nil, r_kont, r_seq1, r_rg, r_sq, r_op1, r_go1, r_mv, r_bi, r_sub0, r_op3, r_iae, r_ltr, r_ld, r_ld1, r_kcn, r_sn0, r_sn1, r_ca, r_ca1, ptd, lk, pt, xv, kv, kc, ↓reduceIte, Nat.reduceEqDiff, reduceCtorEq, List.length_cons, List.length_nil, Nat.reduceLT, true_and, and_true, List.map_cons, List.map_nil, List.cons_append, List.nil_append, List.getElem?_cons_zero, mens, men, Nat.zero_add]
    refine kca_intro (sem_within (g0 l j) 0 (below - 1)) ?_
    simp only [r_cons, r_nil, r_kont, r_seq1, r_seq3, r_blk1, r_blk3, r_fn2, r_sk, r_rg, r_sq, r_rt, r_cd, r_cd2, r_op1, r_op1g, r_gd, r_gdu, r_go1, r_mv, r_bi, r_add0, r_sub0, r_gti, r_nt, r_nt1, r_pk, r_pkt, r_pkf, r_ixn, r_ia, r_ia1, r_fin, r_kfe1, r_kcx, r_exps0, r_exps1, r_kex, r_exp1, r_expv2, r_fgt, r_clean, r_okm4, r_okE0, r_okE1, r_okL0, r_round1, r_round3, ptd, keyOf, freshK, lk, pt, addO, xv, kv, kc, ↓reduceIte, Nat.reduceEqDiff, Nat.reduceMul, reduceCtorEq, List.length_nil, Nat.reduceLT, true_and, and_true, decide_eq_true_eq, noSh, isSc, impv, memB, keepB, keepOB, or_true, Bool.false_eq_true, Bool.true_eq_false, Bool.not_true, Bool.not_false, Bool.not_eq_false']
    refine ite_of (fun hin => ?_) (fun hin => ?_)
    · have hin' := inB_iff.1 hin
      have hgo : (0 < j → g0 l (j - 1) < g0 l j) → ∀ i, i < j + 1 → 0 ≤ g0 l i ∧ g0 l i ≤ below - 1 ∧ (0 < i → g0 l (i - 1) < g0 l i) := fun hp i hi => by
        by_cases e : i = j
        · subst e; exact ⟨hin'.1, hin'.2, hp⟩
        · exact hA i (by omega)
      refine ite_of (fun hpos => ?_) (fun hpos => ?_)
      · have hp : ((j : Int) - 1).toNat = j - 1 := by omega
        have hp0 : (0 : Int) ≤ j - 1 := by omega
        have gb := rI_get (l := l) (i := j - 1) (by omega)
        simp only [hp, hp0, gb, r_cons, r_nil, r_kont, r_seq1, r_seq3, r_blk1, r_blk3, r_fn2, r_sk, r_rg, r_sq, r_rt, r_cd, r_cd2, r_op1, r_op1g, r_gd, r_go1, r_mv, r_bi, r_add0, r_lei, r_pk, r_pkt, r_pkf, r_op3, r_iae, r_ltr, r_ld, r_ld1, r_fin, r_kfe1, r_kcx, r_exps0, r_exps1, r_kex, r_exp1, r_expv2, r_fgt, r_clean, r_okm4, r_okE0, r_okE1, r_okL0, r_round1, r_round3, ptd, lk, pt, xv, kv, kc, ↓reduceIte, Nat.reduceEqDiff, reduceCtorEq, List.length_cons, List.length_nil, Nat.reduceLT, true_and, and_true, decide_eq_true_eq, List.getElem?_cons_zero, memB, keepB, keepOB, Bool.false_eq_true, Nat.zero_add]
        refine ⟨by rw [fits_i64]; omega, ite_of (fun hge => ?_) (fun hlt2 => ?_)⟩
        · have : ¬ Ris 0 (below - 1) l := fun hr => by have := (hr j hja).2.2 (by omega); omega
          rw [dc_false this]
        · exact ⟨by rw [fits_i64]; omega, cntJ_intro () hja rfl (hgo fun _ => by omega)⟩
      · exact ⟨by rw [fits_i64]; omega, cntJ_intro () hja rfl (hgo fun h => by omega)⟩
    · have : ¬ Ris 0 (below - 1) l := fun hr => hin (inB_iff.2 ⟨(hr j hja).1, (hr j hja).2.1⟩)
      rw [dc_false this]
  · have : j = l.length := by omega
    subst this
    rw [dc_true (p := Ris 0 (below - 1) l) hA]

/-- Lists of numbers, compared. -/
def cmpL : List Int → List Int → Int
  | [], [] => 0
  | [], _ :: _ => -1
  | _ :: _, [] => 1
  | x :: r, y :: s => if x < y then -1 else if y < x then 1 else cmpL r s
def cmpI (x y : Int) : Int := if x < y then -1 else if y < x then 1 else 0
theorem sem_isNaN (x : Int) (lvl : Nat) (S : Sto) : Sem Go.Proofs.Try.prog fid_cmp_isNaN_int lvl [iI x] S (iB false) S := by
  refine sem_of_chk k_cmp_isNaN_int trivial ?_
  simp only [c_cmp_isNaN_int, r_cons, r_nil, r_kont, r_seq1, r_fn2, r_rg, r_sq, r_rt, r_wpF, r_op1, r_go1, r_mv, r_bi, r_nei, r_fin, r_kfe1, r_kcx, r_exps0, r_exps1, r_kex, r_exp1, r_expv2, ptd, lk, pt, xv, kv, kc, params, ↓reduceIte, Nat.reduceEqDiff, reduceCtorEq, List.length_cons, List.length_nil, Nat.reduceLeDiff, Nat.reduceLT, true_and, and_true, Nat.zero_add]
  simp
theorem sem_cmp (x y : Int) (lvl : Nat) (S : Sto) : Sem Go.Proofs.Try.prog fid_cmp_Compare_int lvl [iI x, iI y] S (iI (cmpI x y)) S := by
  refine sem_of_chk k_cmp_Compare_int trivial ?_
  simp only [c_cmp_Compare_int, r_cons, r_nil, r_kont, r_seq1, r_rg, r_sq, r_wpF, r_op1, r_mv, r_kcn, r_sn0, r_sn1, r_ca, r_ca1, ptd, lk, pt, xv, kv, kc, params, ↓reduceIte, Nat.reduceEqDiff, reduceCtorEq, List.length_cons, List.length_nil, Nat.reduceAdd, Nat.reduceLeDiff, Nat.reduceLT, true_and, and_true, List.map_cons, List.map_nil, List.cons_append, List.nil_append, mens, men, Nat.zero_add]
  refine kca_intro (sem_isNaN x) ?_
  simp only [r_cons, r_nil, r_kont, r_seq1, r_rg, r_sq, r_op1, r_mv, r_kcn, r_sn0, r_sn1, r_ca, r_ca1, ptd, keyOf, freshK, lk, pt, addO, xv, ↓reduceIte, Nat.reduceEqDiff, Nat.reduceMul, reduceCtorEq, List.length_nil, Nat.reduceLT, true_and, and_true, List.map_cons, List.map_nil, List.cons_append, List.nil_append, mens, men, noSh, isSc, impv, or_true]
  refine kca_intro (sem_isNaN y) ?_
  simp only [r_cons, r_nil, r_kont, r_seq1, r_seq3, r_fn2, r_sk, r_rg, r_sq, r_rt, r_cd, r_cd2, r_op1, r_go1, r_mv, r_bi, r_lti, r_gti, r_fin, r_kfe1, r_kcx, r_exps0, r_exps1, r_kex, r_exp1, r_expv2, ptd, keyOf, freshK, lk, pt, addO, xv, kv, kc, ↓reduceIte, Nat.reduceEqDiff, Nat.reduceMul, reduceCtorEq, List.length_nil, Nat.reduceLT, true_and, and_true, decide_eq_true_eq, noSh, isSc, impv, or_true, Bool.false_eq_true]
  unfold cmpI
  refine ite_of (fun h => ?_) (fun h => ?_)
  · rw [if_pos h]
  · rw [if_neg h]
    refine ite_of (fun h2 => ?_) (fun h2 => ?_)
    · rw [if_pos h2]
    · rw [if_neg h2]
theorem sem_Compare (a b : List Int) (ha : a.length ≤ 9223372036854775807) (hb : b.length ≤ 9223372036854775807) (lvl : Nat) (S : Sto) : Sem Go.Proofs.Try.prog fid_slices_Compare_int_int lvl [tI a, tI b] S (iI (cmpL a b)) S := by
  refine sem_of_chk k_slices_Compare_int_int trivial ?_
  simp only [c_slices_Compare_int_int, List.length_map, r_cons, r_nil, r_kont, r_seq1, r_rg, r_sq, r_bl, r_wpF, r_op1, r_go1, r_mv, r_ln, r_ln1, ptd, lk, pt, xv, kv, kc, params, ↓reduceIte, Nat.reduceEqDiff, reduceCtorEq, List.length_cons, List.length_nil, Nat.reduceAdd, Nat.reduceLeDiff, Nat.reduceLT, true_and, Nat.zero_add]
  refine wp_count (α := Unit) a.length (fun j _ => ⟨lvl, [(0, tI a), (1, tI b), (9, tI a), (10, iI a.length), (11, iI j)], [], S⟩) (fun j _ => j ≤ b.length ∧ cmpL (a.drop j) (b.drop j) = cmpL a b) () ⟨by simp only [r_clean, r_okm4, r_okE0, r_okE1, r_okL0, ↓reduceIte, Nat.reduceEqDiff, reduceCtorEq, and_true, memB, keepB, keepOB, Bool.false_eq_true], by simp only [r_fgt, ↓reduceIte, Nat.reduceEqDiff, reduceCtorEq, memB, keepB, keepOB, Bool.false_eq_true]; rfl⟩ ⟨Nat.zero_le _, rfl⟩ ?_
  intro j _ hj ⟨hjb, hA⟩
  simp only [List.length_map, r_cons, r_nil, r_kont, r_seq1, r_seq2, r_seq3, r_blk2, r_fn2, r_sk, r_rg, r_sq, r_bl, r_ex, r_rt, r_cd, r_cd2, r_op1, r_go1, r_mv, r_bi, r_lti, r_ln, r_ln1, r_ixn, r_ia, r_ia1, r_fin, r_kfe1, r_kcx, r_exps0, r_exps1, r_kex, r_exp1, r_expv2, r_round2, ptd, lk, pt, xv, kv, kc, ↓reduceIte, Nat.reduceEqDiff, reduceCtorEq, Nat.reduceLT, true_and, and_true, decide_eq_true_eq, Int.toNat_natCast, Int.natCast_nonneg]
  refine ite_of (fun hlt => ?_) (fun hge => ?_)
  · have hja : j < a.length := by omega
    have ga := rI_get hja
    have e1 : a.drop j = g0 a j :: a.drop (j + 1) := by rw [List.drop_eq_getElem_cons hja]; simp [hja]
    rw [e1] at hA
    simp only [ga, List.length_map, r_cons, r_nil, r_kont, r_seq1, r_seq3, r_blk3, r_fn2, r_sk, r_rg, r_sq, r_rt, r_cd, r_cd2, r_op1, r_go1, r_mv, r_bi, r_gei, r_ln, r_ln1, r_op3, r_ixn, r_ia, r_iae, r_ia1, r_ltr, r_ld, r_ld1, r_fin, r_kfe1, r_kcx, r_exps0, r_exps1, r_kex, r_exp1, r_expv2, r_round3, ptd, lk, pt, xv, kv, kc, ↓reduceIte, Nat.reduceEqDiff, reduceCtorEq, List.length_cons, List.length_nil, Nat.reduceLT, true_and, and_true, decide_eq_true_eq, List.getElem?_cons_zero, Int.toNat_natCast, Nat.zero_add, Int.natCast_nonneg]
    refine ite_of (fun hbe => ?_) (fun hbl => ?_)
    · have : b.drop j = [] := List.drop_eq_nil_of_le (by omega)
      rw [this] at hA
      simp only [cmpL] at hA
      rw [← hA]
    · have hjb2 : j < b.length := by omega
      have gb := rI_get hjb2
      have e2 : b.drop j = g0 b j :: b.drop (j + 1) := by rw [List.drop_eq_getElem_cons hjb2]; simp [hjb2]
      rw [e2] at hA
      simp only [cmpL] at hA
      simp only [gb, r_cons, r_nil, r_kont, r_seq1, r_rg, r_sq, r_op1, r_go1, r_mv, r_op3, r_iae, r_ltr, r_ld, r_ld1, r_kcn, r_sn0, r_sn1, r_ca, r_ca1, ptd, lk, pt, xv, ↓reduceIte, Nat.reduceEqDiff, reduceCtorEq, List.length_cons, List.length_nil, Nat.reduceLT, true_and, and_true, List.map_cons, List.map_nil, List.cons_append, List.nil_append, List.getElem?_cons_zero, mens, men, Nat.zero_add]
      refine kca_intro (sem_cmp (g0 a j) (g0 b j)) ?_
      simp only [r_cons, r_nil, r_kont, r_seq1, r_seq3, r_blk1, r_blk3, r_fn2, r_sk, r_rg, r_sq, r_rt, r_cd, r_cd2, r_op1, r_go1, r_mv, r_bi, r_add0, r_nei, r_fin, r_kfe1, r_kcx, r_exps0, r_exps1, r_kex, r_exp1, r_expv2, r_fgt, r_clean, r_okm4, r_okE0, r_okE1, r_okL0, r_round1, r_round3, ptd, keyOf, freshK, lk, pt, addO, xv, kv, kc, ↓reduceIte, Nat.reduceEqDiff, Nat.reduceMul, reduceCtorEq, List.length_nil, Nat.reduceLT, true_and, and_true, decide_eq_true_eq, noSh, isSc, impv, memB, keepB, keepOB, or_true, Bool.false_eq_true]
      unfold cmpI
      by_cases h1 : g0 a j < g0 b j
      · rw [if_pos h1] at hA
        rw [if_pos h1, if_pos (by decide), ← hA]
      · rw [if_neg h1] at hA
        rw [if_neg h1]
        by_cases h2 : g0 b j < g0 a j
        · rw [if_pos h2] at hA
          rw [if_pos h2, if_pos (by decide), ← hA]
        · rw [if_neg h2] at hA
          rw [if_neg h2, if_neg (by decide)]
          exact ⟨by rw [fits_i64]; omega, cntJ_intro () hja rfl ⟨by omega, hA⟩⟩
  · have : j = a.length := by omega
    subst this
    rw [List.drop_length] at hA
    refine ite_of (fun h1 => ?_) (fun h1 => ?_)
    · have hb1 : a.length < b.length := by omega
      have e2 : b.drop a.length = g0 b a.length :: b.drop (a.length + 1) := by rw [List.drop_eq_getElem_cons hb1]; simp [hb1]
      rw [e2] at hA
      simp only [cmpL] at hA
      rw [← hA]
    · have : b.drop a.length = [] := List.drop_eq_nil_of_le (by omega)
      rw [this] at hA
      simp only [cmpL] at hA
      rw [← hA]

/-- One triple before another. -/
def lt3 (a b : A3) : Prop := a.1 < b.1 ∨ a.1 = b.1 ∧ (a.2.1 < b.2.1 ∨ a.2.1 = b.2.1 ∧ a.2.2 < b.2.2)
def cmp3 (a b : A3) : Int := cmpL [a.1, a.2.1, a.2.2] [b.1, b.2.1, b.2.2]
theorem cmp3_lt {a b : A3} : cmp3 a b < 0 ↔ lt3 a b := by
  unfold cmp3 lt3
  simp only [cmpL]
  by_cases h1 : a.1 < b.1
  · simp [h1]
  · by_cases h2 : b.1 < a.1
    · simp [h1, h2]; omega
    · by_cases h3 : a.2.1 < b.2.1
      · simp [h1, h2, h3]; omega
      · by_cases h4 : b.2.1 < a.2.1
        · simp [h1, h2, h3, h4]; omega
        · by_cases h5 : a.2.2 < b.2.2
          · simp [h1, h2, h3, h4, h5]; omega
          · by_cases h6 : b.2.2 < a.2.2 <;> simp [h1, h2, h3, h4, h5, h6]
theorem sem_compareSteps (a b : A3) (lvl : Nat) (S : Sto) : Sem Go.Proofs.Try.prog fid_impl_compareSteps lvl [.ag ((cA3 a).map .tr), .ag ((cA3 b).map .tr)] S (iI (cmp3 a b)) S := by
  refine sem_of_chk k_impl_compareSteps trivial ?_
  simp only [c_impl_compareSteps, cA3, r_cons, r_nil, r_kont, r_seq1, r_rg, r_sq, r_wpF, r_op1, r_go1, r_mv, r_bt, r_bt1, r_sa, r_sa1, r_kcn, r_sn0, r_sn2, r_ca, r_ca1, ptd, lk, pt, xv, kv, kc, params, ↓reduceIte, Nat.reduceEqDiff, reduceCtorEq, List.length_cons, List.length_nil, Nat.reduceAdd, Nat.reduceLeDiff, Nat.reduceLT, true_and, and_true, List.map_cons, List.map_nil, List.cons_append, List.nil_append, List.take_succ_cons, List.take_zero, mens, men, List.all_cons, List.all_nil, isCell, Bool.and_self, cellsOf, totr, totrs, tocs, Nat.zero_add, Nat.le_refl]
  refine kca_intro (sem_Compare [a.1, a.2.1, a.2.2] [b.1, b.2.1, b.2.2] (by simp) (by simp)) ?_
  simp only [r_cons, r_nil, r_kont, r_seq1, r_fn2, r_rt, r_op1, r_mv, r_fin, r_kfe1, r_kcx, r_exps0, r_exps1, r_kex, r_exp1, r_expv2, ptd, keyOf, freshK, lk, pt, addO, xv, ↓reduceIte, Nat.reduceEqDiff, Nat.reduceMul, reduceCtorEq, List.length_nil, Nat.reduceLT, true_and, and_true, noSh, isSc, impv, or_true]
  rfl
theorem sem_l10Before (a b : A3) (lvl : Nat) (S : Sto) : Sem Go.Proofs.Try.prog fid_spec_l10Before lvl [.ag ((cA3 a).map .tr), .ag ((cA3 b).map .tr)] S (iB (dc (lt3 a b))) S := by
  refine sem_of_chk k_spec_l10Before trivial ?_
  simp only [c_spec_l10Before, cA3, r_cons, r_nil, r_kont, r_seq1, r_rg, r_sq, r_bl, r_wpF, r_op1, r_mv, r_bt, r_bt1, ptd, lk, pt, xv, kv, kc, params, ↓reduceIte, Nat.reduceEqDiff, reduceCtorEq, List.length_cons, List.length_nil, Nat.reduceAdd, Nat.reduceLeDiff, Nat.reduceLT, true_and, List.map_cons, List.map_nil, List.all_cons, List.all_nil, isCell, Bool.and_self, cellsOf, totr, totrs, tocs, Nat.zero_add]
  refine wp_count (α := Unit) 3 (fun j _ => ⟨lvl, [(2, .ta (cA3 a)), (3, .ta (cA3 b)), (5, iI j)], [], S⟩) (fun j _ => (0 < j → a.1 = b.1) ∧ (1 < j → a.2.1 = b.2.1) ∧ (2 < j → a.2.2 = b.2.2)) () ⟨by simp only [r_clean, r_okm4, r_okm11, r_okE0, r_okE1, r_okL0, ↓reduceIte, Nat.reduceEqDiff, reduceCtorEq, and_true, memB, keepB, keepOB, Bool.false_eq_true], by simp only [r_fgt, ↓reduceIte, Nat.reduceEqDiff, reduceCtorEq, memB, keepB, keepOB, Bool.false_eq_true]; rfl⟩ ⟨fun h => by omega, fun h => by omega, fun h => by omega⟩ ?_
  intro j _ hj ⟨hA1, hA2, hA3⟩
  have hc : j = 0 ∨ j = 1 ∨ j = 2 ∨ j = 3 := by omega
  rcases hc with rfl | rfl | rfl | rfl
  · simp only [cA3, Int.cast_ofNat_Int, Nat.mul_one, r_cons, r_nil, r_kont, r_seq1, r_seq3, r_blk1, r_blk3, r_fn2, r_sk, r_rg, r_sq, r_bl, r_rt, r_cd, r_cd2, r_op1, r_go1, r_mv, r_bi, r_add0, r_nei, r_lti, r_op3, r_ixn, r_ja, r_ja1, r_ltr, r_ld, r_ld1, r_fin, r_kfe1, r_kcx, r_exps0, r_exps1, r_kex, r_exp1, r_expv2, r_fgt, r_clean, r_okm4, r_okm11, r_okE0, r_okE1, r_okL0, r_round1, r_round3, ptd, lk, pt, xv, kv, kc, ↓reduceIte, Nat.reduceEqDiff, Nat.reduceSub, Nat.reduceLT, true_and, and_true, decide_eq_true_eq, decide_true, List.getElem?_cons_zero, List.drop_zero, memB, keepB, keepOB, Bool.false_eq_true, Int.toNat_zero, Int.reduceLE, Int.reduceLT]
    refine ite_of (fun hne => ?_) (fun heq => ?_)
    · rw [dc_congr (q := a.1 < b.1) ⟨fun h => by rcases h with h | h <;> omega, fun h => .inl h⟩, dc_decide]
    · exact ⟨by rw [fits_i64]; omega, cntJ_intro (N := 3) (k := 0) () (by omega) rfl ⟨fun _ => by omega, fun h => by omega, fun h => by omega⟩⟩
  · simp only [cA3, Int.cast_ofNat_Int, Nat.mul_one, r_cons, r_nil, r_kont, r_seq1, r_seq3, r_blk1, r_blk3, r_fn2, r_sk, r_rg, r_sq, r_bl, r_rt, r_cd, r_cd2, r_op1, r_go1, r_mv, r_bi, r_add0, r_nei, r_lti, r_op3, r_ixn, r_ja, r_ja1, r_ltr, r_ld, r_ld1, r_fin, r_kfe1, r_kcx, r_exps0, r_exps1, r_kex, r_exp1, r_expv2, r_fgt, r_clean, r_okm4, r_okm11, r_okE0, r_okE1, r_okL0, r_round1, r_round3, ptd, lk, pt, xv, kv, kc, ↓reduceIte, Nat.reduceEqDiff, Nat.reduceSub, Nat.reduceLT, true_and, and_true, decide_eq_true_eq, decide_true, List.getElem?_cons_zero, List.drop_succ_cons, List.drop_zero, memB, keepB, keepOB, Bool.false_eq_true, Int.toNat_one, Int.reduceLE, Int.reduceLT]
    have h1 := hA1 (by omega)
    refine ite_of (fun hne => ?_) (fun heq => ?_)
    · rw [dc_congr (q := a.2.1 < b.2.1) ⟨fun h => by rcases h with h | ⟨_, h | h⟩ <;> omega, fun h => .inr ⟨h1, .inl h⟩⟩, dc_decide]
    · exact ⟨by rw [fits_i64]; omega, cntJ_intro (N := 3) (k := 1) () (by omega) rfl ⟨fun _ => h1, fun _ => by omega, fun h => by omega⟩⟩
  · simp only [cA3, Int.cast_ofNat_Int, Nat.mul_one, r_cons, r_nil, r_kont, r_seq1, r_seq3, r_blk1, r_blk3, r_fn2, r_sk, r_rg, r_sq, r_bl, r_rt, r_cd, r_cd2, r_op1, r_go1, r_mv, r_bi, r_add0, r_nei, r_lti, r_op3, r_ixn, r_ja, r_ja1, r_ltr, r_ld, r_ld1, r_fin, r_kfe1, r_kcx, r_exps0, r_exps1, r_kex, r_exp1, r_expv2, r_fgt, r_clean, r_okm4, r_okm11, r_okE0, r_okE1, r_okL0, r_round1, r_round3, ptd, lk, pt, xv, kv, kc, ↓reduceIte, Nat.reduceEqDiff, Nat.reduceSub, Nat.reduceLT, true_and, and_true, decide_eq_true_eq, decide_true, List.getElem?_cons_zero, List.drop_succ_cons, List.drop_zero, memB, keepB, keepOB, Bool.false_eq_true, Int.reduceToNat, Int.reduceLE, Int.reduceLT]
    have h1 := hA1 (by omega)
    have h2 := hA2 (by omega)
    refine ite_of (fun hne => ?_) (fun heq => ?_)
    · rw [dc_congr (q := a.2.2 < b.2.2) ⟨fun h => by rcases h with h | ⟨_, h | ⟨_, h⟩⟩ <;> omega, fun h => .inr ⟨h1, .inr ⟨h2, h⟩⟩⟩, dc_decide]
    · exact ⟨by rw [fits_i64]; omega, cntJ_intro (N := 3) (k := 2) () (by omega) rfl ⟨fun _ => h1, fun _ => h2, fun _ => by omega⟩⟩
  · simp only [cA3, Int.cast_ofNat_Int, r_cons, r_nil, r_kont, r_seq1, r_seq2, r_blk2, r_fn2, r_rg, r_sq, r_ex, r_rt, r_cd, r_cd2, r_op1, r_go1, r_mv, r_bi, r_lti, r_fin, r_kfe1, r_kcx, r_exps0, r_exps1, r_kex, r_exp1, r_expv2, r_round2, ptd, lk, pt, xv, kv, kc, ↓reduceIte, Nat.reduceEqDiff, Nat.reduceSub, Nat.reduceLT, and_true, decide_false, Bool.false_eq_true, Int.reduceLT]
    have : ¬ lt3 a b := by
      have h1 := hA1 (by omega)
      have h2 := hA2 (by omega)
      have h3 := hA3 (by omega)
      unfold lt3
      omega
    rw [dc_false this]
end Go.Fd

/-
  WHAT HOLDS OF IsClosedSet AND WHAT IT CALLS. Own work.
-/
namespace Go.Fd
set_option maxRecDepth 20000

/-- A step that is well formed. -/
def stOK (n m : Int) (s : A3) : Prop := inB s.1 0 (n - 1) = true ∧ inB s.2.1 0 m = true ∧ inB s.2.2 0 (n - 1) = true
def StRis (n m : Int) (l : List A3) : Prop := ∀ i, i < l.length → stOK n m (g3 l i) ∧ (0 < i → lt3 (g3 l (i - 1)) (g3 l i))
def sysOK (s : TSystem) : Prop := StRis s.states.length 5 s.steps ∧ inB s.states.length 1 40 = true

theorem sem_l10Goals (x : TSystem) (g : List Int) (hx : x.states.length ≤ 9223372036854775807) (hg : g.length ≤ 9223372036854775807) (lvl : Nat) (S : Sto) : Sem Go.Proofs.Try.prog fid_spec_l10Goals lvl [.ag ((cSystem x).map .tr), tI g] S (iB (dc (Ris 0 (x.states.length - 1) g))) S := by
  refine sem_of_chk k_spec_l10Goals trivial ?_
  have hfb : fits .i64 ((x.states.length : Int) - 1) := by rw [fits_i64]; omega
  simp only [c_spec_l10Goals, cSystem, List.length_map, hfb, r_cons, r_nil, r_kont, r_seq1, r_rg, r_sq, r_wpF, r_op1, r_go1, r_mv, r_bt, r_bt1, r_bi, r_sub0, r_ln, r_ln1, r_op3, r_fa, r_fa1, r_ltr, r_ld, r_ld1, r_kcn, r_sn0, r_sn1, r_ca, r_ca1, ptd, lk, pt, xv, kv, kc, params, ↓reduceIte, Nat.reduceEqDiff, reduceCtorEq, List.length_cons, List.length_nil, Nat.reduceAdd, Nat.reduceLeDiff, Nat.reduceLT, true_and, and_true, List.map_cons, List.map_nil, List.cons_append, List.nil_append, List.getElem?_cons_zero, List.drop_zero, mens, men, List.all_cons, List.all_nil, isCell, Bool.and_true, Bool.and_self, cellsOf, totr, totrs, tocs, Nat.zero_add]
  refine kca_intro (sem_l1Rising g 0 (x.states.length - 1) hg) ?_
  simp only [r_cons, r_nil, r_kont, r_seq1, r_fn2, r_rt, r_op1, r_mv, r_fin, r_kfe1, r_kcx, r_exps0, r_exps1, r_kex, r_exp1, r_expv2, ptd, keyOf, freshK, lk, pt, addO, xv, ↓reduceIte, Nat.reduceEqDiff, Nat.reduceMul, reduceCtorEq, List.length_nil, Nat.reduceLT, and_true, noSh, isSc, impv, or_true]
theorem sem_areSteps (l : List A3) (n : Int) (m : Int) (hl : l.length ≤ 9223372036854775807) (hn : 0 ≤ n) (hn2 : n ≤ 9223372036854775807) (hm : 0 ≤ m) (hm2 : m ≤ 9223372036854775807) (lvl : Nat) (S : Sto) : Sem Go.Proofs.Try.prog fid_impl_areSteps lvl [.tr (.sl (l.map cA3)), iI n, iI m] S (iB (dc (StRis n (m - 1) l))) S := by
  refine sem_of_chk k_impl_areSteps trivial ?_
  have hfn : fits .i64 (n - 1) := by rw [fits_i64]; omega
  have hfm : fits .i64 (m - 1) := by rw [fits_i64]; omega
  simp only [c_impl_areSteps, List.length_map, r_cons, r_nil, r_kont, r_seq1, r_rg, r_sq, r_bl, r_wpF, r_op1, r_go1, r_mv, r_ln, r_ln1, ptd, lk, pt, xv, kv, kc, params, ↓reduceIte, Nat.reduceEqDiff, reduceCtorEq, List.length_cons, List.length_nil, Nat.reduceAdd, Nat.reduceLeDiff, Nat.reduceLT, true_and, Nat.zero_add]
  refine wp_count (α := Unit) l.length (fun j _ => ⟨lvl, [(0, .tr (.sl (l.map cA3))), (1, iI n), (2, iI m), (9, .tr (.sl (l.map cA3))), (10, iI l.length), (11, iI j)], [], S⟩) (fun j _ => ∀ i, i < j → stOK n (m - 1) (g3 l i) ∧ (0 < i → lt3 (g3 l (i - 1)) (g3 l i))) () ⟨by simp only [r_clean, r_okm4, r_okE0, r_okE1, r_okL0, ↓reduceIte, Nat.reduceEqDiff, reduceCtorEq, and_true, memB, keepB, keepOB, Bool.false_eq_true], by simp only [r_fgt, ↓reduceIte, Nat.reduceEqDiff, reduceCtorEq, memB, keepB, keepOB, Bool.false_eq_true]; rfl⟩ (fun i hi => by omega) ?_
  intro j _ hj hA
  simp only [r_cons, r_nil, r_kont, r_seq1, r_seq2, r_blk2, r_fn2, r_sk, r_rg, r_sq, r_bl, r_ex, r_rt, r_cd, r_cd2, r_op1, r_go1, r_mv, r_bi, r_lti, r_ixn, r_ia, r_ia1, r_fin, r_kfe1, r_kcx, r_exps0, r_exps1, r_kex, r_exp1, r_expv2, r_round2, ptd, lk, pt, xv, kv, kc, ↓reduceIte, Nat.reduceEqDiff, reduceCtorEq, Nat.reduceLT, true_and, and_true, decide_eq_true_eq, Int.toNat_natCast, Int.natCast_nonneg]
  refine ite_of (fun hlt => ?_) (fun hge => ?_)
  · have hja : j < l.length := by omega
    have ga := rA_get hja
    simp only [ga, cA3, hfn, zfill, zobs, addO, lkO, ptO, setAt, setOb, lows, r_cons, r_nil, r_kont, r_seq1, r_rg, r_sq, r_op1, r_go1, r_mv, r_al, r_bi, r_sub0, r_op3, r_ixn, r_iae, r_ja, r_ja2, r_pack, r_lab, r_ld, r_ld2, r_ld4, r_kcn, r_sn0, r_sn1, r_ca, r_ca1, r_st, r_st1, r_stb, ptd, keyOf, freshK, lk, pt, lkO, ptO, addO, xv, kv, kc, ↓reduceIte, Nat.reduceEqDiff, Nat.reduceMul, reduceCtorEq, List.length_cons, List.length_nil, Nat.reduceAdd, Nat.reduceLT, true_and, and_true, List.map_cons, List.map_nil, List.cons_append, List.nil_append, List.getElem?_cons_zero, List.take_succ_cons, List.take_zero, mens, men, Int.toNat_zero, Int.reduceLE, List.all_cons, List.all_nil, isCell, Bool.and_self, cellsOf, Nat.zero_add, Nat.add_zero, List.set_cons_zero, List.set_cons_succ, Nat.le_refl]
    refine kca_intro (sem_within (g3 l j).1 0 (n - 1)) ?_
    simp only [hfm, r_cons, r_nil, r_kont, r_seq1, r_seq3, r_blk3, r_fn2, r_rg, r_sq, r_rt, r_cd, r_cd2, r_op1, r_op1g, r_gd, r_gdu, r_go1, r_mv, r_bi, r_sub0, r_nt, r_nt1, r_pk, r_pkt, r_op3, r_ixn, r_ja, r_ja2, r_pack, r_lab, r_ld, r_ld2, r_kcn, r_sn0, r_sn1, r_ca, r_ca1, r_fin, r_kfe1, r_kcx, r_exps0, r_exps1, r_kex, r_exp1, r_expv2, r_round3, ptd, keyOf, freshK, lk, pt, lkO, addO, xv, kv, kc, ↓reduceIte, Nat.reduceEqDiff, Nat.reduceMul, reduceCtorEq, List.length_nil, Nat.reduceLT, true_and, and_true, List.map_cons, List.map_nil, List.cons_append, List.nil_append, List.getElem?_cons_zero, List.getElem?_cons_succ, mens, men, noSh, isSc, impv, or_true, Bool.true_eq_false, Bool.not_false, Int.toNat_one, Int.reduceLE, Nat.zero_add, Bool.not_eq_false']
    have no : ¬ stOK n (m - 1) (g3 l j) → ¬ StRis n (m - 1) l := fun h hr => h (hr j hja).1
    refine ite_of (fun h1 => ?_) (fun h1 => ?_)
    · refine kca_intro (sem_within (g3 l j).2.1 0 (m - 1)) ?_
      simp only [hfn, r_cons, r_nil, r_kont, r_seq1, r_seq3, r_blk3, r_fn2, r_rg, r_sq, r_rt, r_cd, r_cd2, r_op1, r_op1g, r_gd, r_gdu, r_go1, r_mv, r_bi, r_sub0, r_nt, r_nt1, r_pk, r_pkt, r_pkf, r_op3, r_ixn, r_ja, r_ja2, r_pack, r_lab, r_ld, r_ld2, r_kcn, r_sn0, r_sn1, r_ca, r_ca1, r_fin, r_kfe1, r_kcx, r_exps0, r_exps1, r_kex, r_exp1, r_expv2, r_round3, ptd, keyOf, freshK, lk, pt, lkO, addO, xv, kv, kc, ↓reduceIte, Nat.reduceEqDiff, Nat.reduceMul, reduceCtorEq, List.length_nil, Nat.reduceLT, true_and, and_true, List.map_cons, List.map_nil, List.cons_append, List.nil_append, List.getElem?_cons_zero, List.getElem?_cons_succ, mens, men, noSh, isSc, impv, or_true, Bool.true_eq_false, Bool.not_false, Int.reduceToNat, Int.reduceLE, Nat.zero_add, Bool.not_eq_false']
      refine ite_of (fun h2 => ?_) (fun h2 => ?_)
      · refine kca_intro (sem_within (g3 l j).2.2 0 (n - 1)) ?_
        simp only [r_cons, r_nil, r_kont, r_seq1, r_seq3, r_blk1, r_blk3, r_fn2, r_sk, r_rg, r_sq, r_rt, r_cd, r_cd2, r_op1, r_op1g, r_gd, r_gdu, r_go1, r_mv, r_bi, r_add0, r_sub0, r_gti, r_nt, r_nt1, r_pk, r_pkt, r_pkf, r_ixn, r_ia, r_ia1, r_fin, r_kfe1, r_kcx, r_exps0, r_exps1, r_kex, r_exp1, r_expv2, r_fgt, r_clean, r_okm4, r_okE0, r_okE1, r_okL0, r_round1, r_round3, ptd, keyOf, freshK, lk, pt, addO, xv, kv, kc, ↓reduceIte, Nat.reduceEqDiff, Nat.reduceMul, reduceCtorEq, List.length_nil, Nat.reduceLT, true_and, and_true, decide_eq_true_eq, noSh, isSc, impv, memB, keepB, keepOB, or_true, Bool.false_eq_true, Bool.true_eq_false, Bool.not_true, Bool.not_false, Bool.not_eq_false']
        refine ite_of (fun h3 => ?_) (fun h3 => ?_)
        · have hok : stOK n (m - 1) (g3 l j) := ⟨h1, h2, h3⟩
          have hgo : (0 < j → lt3 (g3 l (j - 1)) (g3 l j)) → ∀ i, i < j + 1 → stOK n (m - 1) (g3 l i) ∧ (0 < i → lt3 (g3 l (i - 1)) (g3 l i)) := fun hp i hi => by
            by_cases e : i = j
            · subst e; exact ⟨hok, hp⟩
            · exact hA i (by omega)
          refine ite_of (fun hpos => ?_) (fun hpos => ?_)
          · have hp : ((j : Int) - 1).toNat = j - 1 := by omega
            have hp0 : (0 : Int) ≤ j - 1 := by omega
            have gb := rA_get (l := l) (i := j - 1) (by omega)
            simp only [hp, hp0, gb, cA3, r_cons, r_kont, r_op1g, r_gd, r_go1, r_op3, r_iae, r_pack, r_ld, r_ld4, r_labm, r_ld5, r_kcn, r_kagn, r_sn0, r_sn1, r_sn3, r_ca, r_ca1, ptd, lk, pt, lkO, xv, ↓reduceIte, Nat.reduceEqDiff, reduceCtorEq, List.length_cons, List.length_nil, Nat.reduceAdd, Nat.reduceLT, true_and, and_true, List.map_cons, List.map_nil, List.cons_append, List.nil_append, List.drop_zero, List.take_succ_cons, List.take_zero, mens, men, Nat.zero_add, Nat.le_refl]
            refine ⟨by rw [fits_i64]; omega, ?_⟩
            refine kca_intro (sem_compareSteps (g3 l (j - 1)) (g3 l j)) ?_
            simp only [r_cons, r_nil, r_kont, r_seq1, r_seq3, r_blk1, r_blk3, r_fn2, r_sk, r_rg, r_sq, r_rt, r_cd, r_cd2, r_op1, r_op1g, r_gd, r_go1, r_mv, r_bi, r_add0, r_gei, r_pk, r_pkt, r_pkf, r_fin, r_kfe1, r_kcx, r_exps0, r_exps1, r_kex, r_exp1, r_expv2, r_fgt, r_clean, r_okm4, r_okE0, r_okE1, r_okL0, r_round1, r_round3, ptd, keyOf, freshK, lk, pt, addO, xv, kv, kc, ↓reduceIte, Nat.reduceEqDiff, Nat.reduceMul, reduceCtorEq, List.length_nil, Nat.reduceLT, true_and, and_true, decide_eq_true_eq, noSh, isSc, impv, memB, keepB, keepOB, or_true, Bool.false_eq_true]
            refine ite_of (fun hge => ?_) (fun hlt2 => ?_)
            · have : ¬ StRis n (m - 1) l := fun hr => by have := cmp3_lt.2 ((hr j hja).2 (by omega)); omega
              rw [dc_false this]
            · exact ⟨by rw [fits_i64]; omega, cntJ_intro () hja rfl (hgo fun _ => cmp3_lt.1 (by omega))⟩
          · exact ⟨by rw [fits_i64]; omega, cntJ_intro () hja rfl (hgo fun h => by omega)⟩
        · rw [dc_false (no fun h => h3 h.2.2)]
      · rw [dc_false (no fun h => h2 h.2.1)]
    · rw [dc_false (no fun h => h1 h.1)]
  · have : j = l.length := by omega
    subst this
    rw [dc_true (p := StRis n (m - 1) l) hA]

theorem sem_l10Good (x : TSystem) (hx : x.states.length ≤ 9223372036854775807) (hl : x.steps.length ≤ 9223372036854775807) (lvl : Nat) (S : Sto) : Sem Go.Proofs.Try.prog fid_spec_l10Good lvl [.ag ((cSystem x).map .tr)] S (iB (dc (sysOK x))) S := by
  refine sem_of_chk k_spec_l10Good trivial ?_
  generalize en : (x.states.length : Int) = n
  have hfn : fits .i64 (n - 1) := by rw [fits_i64]; omega
  simp only [c_spec_l10Good, cSystem, List.length_map, en, r_cons, r_nil, r_kont, r_seq1, r_rg, r_sq, r_bl, r_wpF, r_op1, r_go1, r_mv, r_bt, r_bt1, r_ln, r_ln1, r_op3, r_fa, r_fa1, r_ltr, r_ld, r_ld1, ptd, lk, pt, xv, kv, kc, params, ↓reduceIte, Nat.reduceEqDiff, reduceCtorEq, List.length_cons, List.length_nil, Nat.reduceLeDiff, Nat.reduceLT, true_and, List.map_cons, List.map_nil, List.getElem?_cons_zero, List.drop_zero, List.all_cons, List.all_nil, isCell, Bool.and_true, Bool.and_self, cellsOf, totr, totrs, tocs, Nat.zero_add]
  refine wp_count (α := Unit) x.steps.length (fun j _ => ⟨lvl, [(1, .ta (cSystem x)), (3, iI n), (4, iI j)], [], S⟩) (fun j _ => ∀ i, i < j → stOK n 5 (g3 x.steps i) ∧ (0 < i → lt3 (g3 x.steps (i - 1)) (g3 x.steps i))) () ⟨by simp only [r_clean, r_okm4, r_okm11, r_okE0, r_okE1, r_okL0, ↓reduceIte, Nat.reduceEqDiff, reduceCtorEq, and_true, memB, keepB, keepOB, Bool.false_eq_true], by simp only [cSystem, r_fgt, ↓reduceIte, Nat.reduceEqDiff, reduceCtorEq, memB, keepB, keepOB, Bool.false_eq_true]; rfl⟩ (fun i hi => by omega) ?_
  intro j _ hj hA
  simp only [List.length_map, cSystem, r_cons, r_nil, r_kont, r_seq1, r_seq2, r_blk2, r_sk, r_rg, r_sq, r_bl, r_ex, r_cd, r_cd2, r_op1, r_go1, r_mv, r_bi, r_lti, r_ln, r_ln1, r_op3, r_fa, r_fa1, r_ixn, r_ia, r_ia1, r_ltr, r_ld, r_ld1, r_kcn, r_sn0, r_sn1, r_ca, r_ca1, r_round2, ptd, lk, pt, xv, kv, kc, ↓reduceIte, Nat.reduceEqDiff, Nat.reduceLT, true_and, and_true, decide_eq_true_eq, List.map_cons, List.map_nil, List.cons_append, List.nil_append, List.getElem?_cons_zero, List.drop_succ_cons, List.drop_zero, mens, men, Int.toNat_natCast, Int.natCast_nonneg]
  refine ite_of (fun hlt => ?_) (fun hge => ?_)
  · have hja : j < x.steps.length := by omega
    have ga := rA_get hja
    simp only [ga, cA3, hfn, zfill, zobs, addO, lkO, ptO, setAt, setOb, lows, r_cons, r_nil, r_kont, r_seq1, r_rg, r_sq, r_op1, r_go1, r_mv, r_al, r_bi, r_sub0, r_op3, r_ixn, r_iae, r_ja, r_ja2, r_pack, r_lab, r_ld, r_ld2, r_ld4, r_kcn, r_sn0, r_sn1, r_ca, r_ca1, r_st, r_st1, r_stb, ptd, keyOf, freshK, lk, pt, lkO, ptO, addO, xv, kv, kc, ↓reduceIte, Nat.reduceEqDiff, Nat.reduceMul, List.length_cons, List.length_nil, Nat.reduceAdd, Nat.reduceLT, true_and, and_true, List.map_cons, List.map_nil, List.cons_append, List.nil_append, List.getElem?_cons_zero, List.take_succ_cons, List.take_zero, mens, men, Int.toNat_zero, Int.reduceLE, List.all_cons, List.all_nil, isCell, Bool.and_self, cellsOf, Nat.zero_add, Nat.add_zero, List.set_cons_zero, List.set_cons_succ, Nat.le_refl]
    refine kca_intro (sem_l1In (g3 x.steps j).1 0 (n - 1)) ?_
    simp only [r_cons, r_nil, r_kont, r_seq1, r_seq3, r_blk3, r_fn2, r_rg, r_sq, r_rt, r_cd, r_cd2, r_op1, r_op1g, r_gd, r_gdu, r_go1, r_mv, r_nt, r_nt1, r_pk, r_pkt, r_op3, r_ixn, r_ja, r_ja2, r_pack, r_lab, r_ld, r_ld2, r_kcn, r_sn0, r_sn1, r_ca, r_ca1, r_fin, r_kfe1, r_kcx, r_exps0, r_exps1, r_kex, r_exp1, r_expv2, r_round3, ptd, keyOf, freshK, lk, pt, lkO, addO, xv, kv, kc, ↓reduceIte, Nat.reduceEqDiff, Nat.reduceMul, List.length_nil, Nat.reduceLT, true_and, and_true, List.map_cons, List.map_nil, List.cons_append, List.nil_append, List.getElem?_cons_zero, List.getElem?_cons_succ, mens, men, noSh, isSc, impv, or_true, Bool.true_eq_false, Bool.not_false, Int.toNat_one, Int.reduceLE, Nat.zero_add, Bool.not_eq_false']
    have no : ¬ stOK n 5 (g3 x.steps j) → ¬ sysOK x := fun h hr => h (by have := (hr.1 j hja).1; rw [en] at this; exact this)
    refine ite_of (fun h1 => ?_) (fun h1 => ?_)
    · refine kca_intro (sem_l1In (g3 x.steps j).2.1 0 5) ?_
      simp only [hfn, r_cons, r_nil, r_kont, r_seq1, r_seq3, r_blk3, r_fn2, r_rg, r_sq, r_rt, r_cd, r_cd2, r_op1, r_op1g, r_gd, r_gdu, r_go1, r_mv, r_bi, r_sub0, r_nt, r_nt1, r_pk, r_pkt, r_pkf, r_op3, r_ixn, r_ja, r_ja2, r_pack, r_lab, r_ld, r_ld2, r_kcn, r_sn0, r_sn1, r_ca, r_ca1, r_fin, r_kfe1, r_kcx, r_exps0, r_exps1, r_kex, r_exp1, r_expv2, r_round3, ptd, keyOf, freshK, lk, pt, lkO, addO, xv, kv, kc, ↓reduceIte, Nat.reduceEqDiff, Nat.reduceMul, List.length_nil, Nat.reduceLT, true_and, and_true, List.map_cons, List.map_nil, List.cons_append, List.nil_append, List.getElem?_cons_zero, List.getElem?_cons_succ, mens, men, noSh, isSc, impv, or_true, Bool.true_eq_false, Bool.not_false, Int.reduceToNat, Int.reduceLE, Nat.zero_add, Bool.not_eq_false']
      refine ite_of (fun h2 => ?_) (fun h2 => ?_)
      · refine kca_intro (sem_l1In (g3 x.steps j).2.2 0 (n - 1)) ?_
        simp only [r_cons, r_nil, r_kont, r_seq1, r_seq3, r_blk1, r_blk3, r_fn2, r_sk, r_rg, r_sq, r_rt, r_cd, r_cd2, r_op1, r_op1g, r_gd, r_gdu, r_go1, r_mv, r_bi, r_add0, r_sub0, r_gti, r_nt, r_nt1, r_pk, r_pkt, r_pkf, r_op3, r_fa, r_fa1, r_ixn, r_ia, r_ia1, r_ltr, r_ld, r_ld1, r_fin, r_kfe1, r_kcx, r_exps0, r_exps1, r_kex, r_exp1, r_expv2, r_fgt, r_clean, r_okm4, r_okm11, r_okE0, r_okE1, r_okL0, r_round1, r_round3, ptd, keyOf, freshK, lk, pt, addO, xv, kv, kc, ↓reduceIte, Nat.reduceEqDiff, Nat.reduceMul, List.length_nil, Nat.reduceLT, true_and, and_true, decide_eq_true_eq, List.getElem?_cons_zero, List.drop_succ_cons, List.drop_zero, noSh, isSc, impv, memB, keepB, keepOB, or_true, Bool.false_eq_true, Bool.true_eq_false, Bool.not_true, Bool.not_false, Bool.not_eq_false']
        refine ite_of (fun h3 => ?_) (fun h3 => ?_)
        · have hok : stOK n 5 (g3 x.steps j) := ⟨h1, h2, h3⟩
          have hgo : (0 < j → lt3 (g3 x.steps (j - 1)) (g3 x.steps j)) → ∀ i, i < j + 1 → stOK n 5 (g3 x.steps i) ∧ (0 < i → lt3 (g3 x.steps (i - 1)) (g3 x.steps i)) := fun hp i hi => by
            by_cases e : i = j
            · subst e; exact ⟨hok, hp⟩
            · exact hA i (by omega)
          refine ite_of (fun hpos => ?_) (fun hpos => ?_)
          · have hp : ((j : Int) - 1).toNat = j - 1 := by omega
            have hp0 : (0 : Int) ≤ j - 1 := by omega
            have gb := rA_get (l := x.steps) (i := j - 1) (by omega)
            simp only [hp, hp0, gb, cA3, r_cons, r_kont, r_op1g, r_gd, r_go1, r_op3, r_iae, r_pack, r_ld, r_ld4, r_labm, r_ld5, r_kcn, r_kagn, r_sn0, r_sn1, r_sn3, r_ca, r_ca1, ptd, lk, pt, lkO, xv, ↓reduceIte, Nat.reduceEqDiff, List.length_cons, List.length_nil, Nat.reduceAdd, Nat.reduceLT, true_and, and_true, List.map_cons, List.map_nil, List.cons_append, List.nil_append, List.drop_zero, List.take_succ_cons, List.take_zero, mens, men, Nat.zero_add, Nat.le_refl]
            refine ⟨by rw [fits_i64]; omega, ?_⟩
            refine kca_intro (sem_l10Before (g3 x.steps (j - 1)) (g3 x.steps j)) ?_
            simp only [r_cons, r_nil, r_kont, r_seq1, r_seq3, r_blk1, r_blk3, r_fn2, r_sk, r_rg, r_sq, r_rt, r_cd, r_cd2, r_op1, r_op1g, r_gd, r_go1, r_mv, r_bi, r_add0, r_nt, r_nt1, r_pk, r_pkt, r_pkf, r_fin, r_kfe1, r_kcx, r_exps0, r_exps1, r_kex, r_exp1, r_expv2, r_fgt, r_clean, r_okm4, r_okm11, r_okE0, r_okE1, r_okL0, r_round1, r_round3, ptd, keyOf, freshK, lk, pt, addO, xv, kv, kc, ↓reduceIte, Nat.reduceEqDiff, Nat.reduceMul, List.length_nil, Nat.reduceLT, true_and, and_true, noSh, isSc, impv, memB, keepB, keepOB, or_true, Bool.false_eq_true, Bool.not_eq_true']
            refine ite_of (fun hge => ?_) (fun hlt2 => ?_)
            · have : ¬ sysOK x := fun hr => dc_not.1 hge ((hr.1 j hja).2 (by omega))
              rw [dc_false this]
            · exact ⟨by rw [fits_i64]; omega, cntJ_intro () hja rfl (hgo fun _ => dc_iff.1 (by simpa using hlt2))⟩
          · exact ⟨by rw [fits_i64]; omega, cntJ_intro () hja rfl (hgo fun h => by omega)⟩
        · rw [dc_false (no fun h => h3 h.2.2)]
      · rw [dc_false (no fun h => h2 h.2.1)]
    · rw [dc_false (no fun h => h1 h.1)]
  · have : j = x.steps.length := by omega
    subst this
    refine kca_intro (sem_l1In n 1 40) ?_
    simp only [r_cons, r_nil, r_kont, r_seq1, r_fn2, r_rt, r_op1, r_mv, r_fin, r_kfe1, r_kcx, r_exps0, r_exps1, r_kex, r_exp1, r_expv2, ptd, keyOf, freshK, lk, pt, addO, xv, ↓reduceIte, Nat.reduceEqDiff, Nat.reduceMul, List.length_nil, Nat.reduceLT, true_and, and_true, noSh, isSc, impv, or_true]
    have hr : StRis x.states.length 5 x.steps := by rw [en]; exact hA
    cases h : inB n 1 40 with
    | true => rw [dc_true (p := sysOK x) ⟨hr, by rw [en]; exact h⟩]
    | false => rw [dc_false (p := sysOK x) (fun hh => by rw [sysOK, en, h] at hh; exact absurd hh.2 (by simp))]

theorem sem_isSystem (x : TSystem) (hx : x.states.length ≤ 9223372036854775807) (hl : x.steps.length ≤ 9223372036854775807) (lvl : Nat) (S : Sto) : Sem Go.Proofs.Try.prog fid_impl_isSystem lvl [.ag ((cSystem x).map .tr)] S (iB (dc (sysOK x))) S := by
  refine sem_of_chk k_impl_isSystem trivial ?_
  simp only [c_impl_isSystem, cSystem, List.length_map, r_cons, r_nil, r_kont, r_seq1, r_rg, r_sq, r_wpF, r_op1, r_go1, r_mv, r_bt, r_bt1, r_ln, r_ln1, r_op3, r_fa, r_fa1, r_ltr, r_ld, r_ld1, r_kcn, r_sn0, r_sn1, r_ca, r_ca1, ptd, lk, pt, xv, kv, kc, params, ↓reduceIte, Nat.reduceEqDiff, reduceCtorEq, List.length_cons, List.length_nil, Nat.reduceLeDiff, Nat.reduceLT, true_and, and_true, List.map_cons, List.map_nil, List.cons_append, List.nil_append, List.getElem?_cons_zero, List.drop_zero, mens, men, List.all_cons, List.all_nil, isCell, Bool.and_true, Bool.and_self, cellsOf, totr, totrs, tocs, Nat.zero_add]
  refine kca_intro (sem_within x.states.length 1 40) ?_
  simp only [List.length_map, r_cons, r_nil, r_kont, r_seq1, r_fn2, r_rt, r_op1, r_op1g, r_gd, r_go1, r_mv, r_ln, r_ln1, r_pk, r_pkf, r_op3, r_fa, r_fa1, r_ltr, r_ld, r_ld1, r_kcn, r_sn0, r_sn1, r_ca, r_ca1, r_fin, r_kfe1, r_kcx, r_exps0, r_exps1, r_kex, r_exp1, r_expv2, ptd, keyOf, freshK, lk, pt, addO, xv, kv, kc, ↓reduceIte, Nat.reduceEqDiff, Nat.reduceMul, reduceCtorEq, List.length_nil, Nat.reduceLT, true_and, and_true, List.map_cons, List.map_nil, List.cons_append, List.nil_append, List.getElem?_cons_zero, List.drop_succ_cons, List.drop_zero, mens, men, noSh, isSc, impv, or_true, Bool.false_eq_true, Bool.not_true]
  refine ite_of (fun h => ?_) (fun h => ?_)
  · refine kca_intro (sem_areSteps x.steps x.states.length 6 hl (by omega) (by omega) (by omega) (by omega)) ?_
    simp only [r_cons, r_nil, r_kont, r_seq1, r_fn2, r_rt, r_op1, r_go1, r_mv, r_pk, r_pkt, r_fin, r_kfe1, r_kcx, r_exps0, r_exps1, r_kex, r_exp1, r_expv2, ptd, keyOf, freshK, lk, pt, addO, xv, kv, kc, ↓reduceIte, Nat.reduceEqDiff, Nat.reduceMul, reduceCtorEq, List.length_nil, Nat.reduceLT, true_and, and_true, noSh, isSc, impv, or_true]
    rw [dc_congr (p := sysOK x) (q := StRis x.states.length 5 x.steps) ⟨fun hh => hh.1, fun hh => ⟨hh, h⟩⟩]
    rfl
  · rw [dc_false (p := sysOK x) (fun hh => h hh.2)]

theorem sem_isGoals (x : TSystem) (g : List Int) (hx : x.states.length ≤ 9223372036854775807) (hl : x.steps.length ≤ 9223372036854775807) (hg : g.length ≤ 9223372036854775807) (lvl : Nat) (S : Sto) : Sem Go.Proofs.Try.prog fid_impl_isGoals lvl [.ag ((cSystem x).map .tr), tI g] S (iB (dc (sysOK x ∧ Ris 0 (x.states.length - 1) g))) S := by
  refine sem_of_chk k_impl_isGoals trivial ?_
  simp only [c_impl_isGoals, cSystem, r_cons, r_nil, r_kont, r_seq1, r_rg, r_sq, r_wpF, r_op1, r_go1, r_mv, r_bt, r_bt1, r_ld, r_ld4, r_kcn, r_kagn, r_sn0, r_sn1, r_sn3, r_ca, r_ca1, ptd, lk, pt, xv, kv, kc, params, ↓reduceIte, Nat.reduceEqDiff, reduceCtorEq, List.length_cons, List.length_nil, Nat.reduceAdd, Nat.reduceLeDiff, Nat.reduceLT, true_and, and_true, List.map_cons, List.map_nil, List.cons_append, List.nil_append, List.take_succ_cons, List.take_zero, mens, men, List.all_cons, List.all_nil, isCell, Bool.and_true, Bool.and_self, cellsOf, totr, totrs, tocs, Nat.zero_add, Nat.le_refl]
  refine kca_intro (sem_isSystem x hx hl) ?_
  simp only [List.length_map, r_cons, r_nil, r_kont, r_seq1, r_fn2, r_rt, r_op1, r_op1g, r_gd, r_go1, r_mv, r_ln, r_ln1, r_pk, r_pkf, r_op3, r_fa, r_fa1, r_ltr, r_ld, r_ld1, r_kcn, r_sn0, r_sn1, r_ca, r_ca1, r_fin, r_kfe1, r_kcx, r_exps0, r_exps1, r_kex, r_exp1, r_expv2, ptd, keyOf, freshK, lk, pt, addO, xv, kv, kc, ↓reduceIte, Nat.reduceEqDiff, Nat.reduceMul, reduceCtorEq, List.length_nil, Nat.reduceLT, true_and, and_true, List.map_cons, List.map_nil, List.cons_append, List.nil_append, List.getElem?_cons_zero, List.drop_zero, mens, men, noSh, isSc, impv, or_true, Bool.false_eq_true, Bool.not_true]
  refine ite_of (fun h => ?_) (fun h => ?_)
  · refine kca_intro (sem_isRising g x.states.length hg (by omega) (by omega)) ?_
    simp only [r_cons, r_nil, r_kont, r_seq1, r_fn2, r_rt, r_op1, r_go1, r_mv, r_pk, r_pkt, r_fin, r_kfe1, r_kcx, r_exps0, r_exps1, r_kex, r_exp1, r_expv2, ptd, keyOf, freshK, lk, pt, addO, xv, kv, kc, ↓reduceIte, Nat.reduceEqDiff, Nat.reduceMul, reduceCtorEq, List.length_nil, Nat.reduceLT, true_and, and_true, noSh, isSc, impv, or_true]
    rw [dc_congr (p := sysOK x ∧ Ris 0 (x.states.length - 1) g) (q := Ris 0 (x.states.length - 1) g) ⟨fun hh => hh.2, fun hh => ⟨dc_iff.1 h, hh⟩⟩]
  · rw [dc_false (p := sysOK x ∧ Ris 0 (x.states.length - 1) g) (fun hh => h (dc_iff.2 hh.1))]

/-- A step that leaves a set of states. -/
def lvs (a : List Int) (s : A3) : Bool := decide (s.1 ∈ a) && !decide (s.2.2 ∈ a)
theorem sem_IsClosedSet_1 (a : List Int) (s : A3) (ha : a.length ≤ 9223372036854775807) (lvl : Nat) (S : Sto) : Sem Go.Proofs.Try.prog fid_impl_IsClosedSet_1 lvl [.ag ((cA3 s).map .tr), .ta [.sl (rI a)]] S (iB (lvs a s)) S := by
  refine sem_of_chk k_impl_IsClosedSet_1 trivial ?_
  simp only [c_impl_IsClosedSet_1, cA3, r_cons, r_nil, r_kont, r_seq1, r_rg, r_sq, r_wpF, r_op1, r_go1, r_mv, r_bt, r_bt1, r_op3, r_ixn, r_ja, r_ja1, r_ltr, r_ld, r_ld1, r_kcn, r_sn0, r_sn1, r_ca, r_ca1, ptd, lk, pt, xv, kv, kc, params, ↓reduceIte, Nat.reduceEqDiff, Nat.reduceMul, reduceCtorEq, List.length_cons, List.length_nil, Nat.reduceAdd, Nat.reduceLeDiff, Nat.reduceLT, true_and, and_true, List.map_cons, List.map_nil, List.cons_append, List.nil_append, List.getElem?_cons_zero, List.drop_zero, mens, men, Int.toNat_zero, Int.reduceLE, List.all_cons, List.all_nil, isCell, Bool.and_self, cellsOf, totr, totrs, tocs, Nat.zero_add]
  refine kca_intro (sem_Contains a s.1 ha) ?_
  simp only [r_cons, r_nil, r_kont, r_seq1, r_fn2, r_rt, r_op1, r_op1g, r_gd, r_go1, r_mv, r_pk, r_pkf, r_op3, r_ixn, r_ja, r_ja1, r_ltr, r_ld, r_ld1, r_kcn, r_sn0, r_sn1, r_ca, r_ca1, r_fin, r_kfe1, r_kcx, r_exps0, r_exps1, r_kex, r_exp1, r_expv2, ptd, keyOf, freshK, lk, pt, addO, xv, kv, kc, ↓reduceIte, Nat.reduceEqDiff, Nat.reduceMul, reduceCtorEq, List.length_nil, Nat.reduceLT, true_and, and_true, decide_eq_true_eq, List.map_cons, List.map_nil, List.cons_append, List.nil_append, List.getElem?_cons_zero, List.drop_succ_cons, List.drop_zero, mens, men, noSh, isSc, impv, or_true, Bool.false_eq_true, Bool.not_true, Int.reduceToNat, Int.reduceLE]
  refine ite_of (fun h => ?_) (fun h => ?_)
  · refine kca_intro (sem_Contains a s.2.2 ha) ?_
    simp only [r_cons, r_nil, r_kont, r_seq1, r_fn2, r_rt, r_op1, r_op1g, r_gd, r_go1, r_mv, r_nt, r_nt1, r_pk, r_pkt, r_fin, r_kfe1, r_kcx, r_exps0, r_exps1, r_kex, r_exp1, r_expv2, ptd, keyOf, freshK, lk, pt, addO, xv, kv, kc, ↓reduceIte, Nat.reduceEqDiff, Nat.reduceMul, reduceCtorEq, List.length_nil, Nat.reduceLT, true_and, and_true, noSh, isSc, impv, or_true]
    simp [lvs, h]
  · simp [lvs, h]

/-- The first place where a test answers yes, from a place on. -/
def fst3 (f : A3 → Bool) : List A3 → Nat → Int
  | [], _ => -1
  | x :: r, k => if f x = true then k else fst3 f r (k + 1)
theorem fst3_cons (f : A3 → Bool) (x : A3) (r : List A3) (k : Nat) : fst3 f (x :: r) k = if f x = true then (k : Int) else fst3 f r (k + 1) := rfl
theorem fst3_none (f : A3 → Bool) : ∀ (l : List A3) (k : Nat), (0 ≤ fst3 f l k ↔ l.any f = true)
  | [], k => by simp [fst3]
  | x :: r, k => by
    unfold fst3
    by_cases h : f x = true
    · rw [if_pos h]; simp [h]
    · rw [if_neg h, fst3_none f r (k + 1)]; simp [h]
theorem sem_IndexFunc (l : List A3) (f : A3 → Bool) (fid : FuncId) (c : List Tr) (hl : l.length ≤ 9223372036854775807) (hf : ∀ s lvl S, Sem Go.Proofs.Try.prog fid lvl [.ag ((cA3 s).map .tr), .ta c] S (iB (f s)) S) (lvl : Nat) (S : Sto)
    : Sem Go.Proofs.Try.prog fid_slices_IndexFunc_3_int_3_int lvl [.tr (.sl (l.map cA3)), .fn fid [.ta c]] S (iI (fst3 f l 0)) S := by
  refine sem_of_chk k_slices_IndexFunc_3_int_3_int trivial ?_
  simp only [c_slices_IndexFunc_3_int_3_int, List.length_map, r_cons, r_nil, r_kont, r_seq1, r_rg, r_sq, r_bl, r_wpF, r_op1, r_go1, r_mv, r_ln, r_ln1, ptd, lk, pt, xv, kv, kc, params, ↓reduceIte, Nat.reduceEqDiff, reduceCtorEq, List.length_cons, List.length_nil, Nat.reduceAdd, Nat.reduceLeDiff, Nat.reduceLT, true_and, Nat.zero_add]
  refine wp_count (α := Unit) l.length (fun j _ => ⟨lvl, [(0, .tr (.sl (l.map cA3))), (1, .fn fid [.ta c]), (7, iI l.length), (8, iI j)], [], S⟩) (fun j _ => fst3 f (l.drop j) j = fst3 f l 0) () ⟨by simp only [r_clean, r_okm4, r_okm8, r_okm11, r_okms0, r_okms1, r_okE0, r_okE1, r_okL0, ↓reduceIte, Nat.reduceEqDiff, reduceCtorEq, and_true, memB, keepB, keepOB, Bool.false_eq_true], by simp only [r_fgt, ↓reduceIte, Nat.reduceEqDiff, reduceCtorEq, memB, keepB, keepOB, Bool.false_eq_true]; rfl⟩ rfl ?_
  intro j _ hj hA
  simp only [r_cons, r_nil, r_kont, r_seq1, r_seq2, r_blk2, r_fn2, r_sk, r_rg, r_sq, r_bl, r_ex, r_rt, r_cd, r_cd2, r_op1, r_go1, r_mv, r_bi, r_lti, r_ixn, r_ia, r_ia1, r_fin, r_kfe1, r_kcx, r_exps0, r_exps1, r_kex, r_exp1, r_expv2, r_round2, ptd, lk, pt, xv, kv, kc, ↓reduceIte, Nat.reduceEqDiff, reduceCtorEq, Nat.reduceLT, true_and, and_true, decide_eq_true_eq, Int.toNat_natCast, Int.natCast_nonneg]
  refine ite_of (fun hlt => ?_) (fun hge => ?_)
  · have hja : j < l.length := by omega
    have ga := rA_get hja
    have e1 : l.drop j = g3 l j :: l.drop (j + 1) := by rw [List.drop_eq_getElem_cons hja]; simp [hja]
    rw [e1, fst3_cons] at hA
    simp only [ga, cA3, r_cons, r_kont, r_op1, r_go1, r_op3, r_iae, r_ld, r_ld4, r_kcn, r_kagn, r_sn0, r_sn1, r_sn3, r_sn5, r_ca, r_ca1, ptd, lk, pt, xv, ↓reduceIte, Nat.reduceEqDiff, reduceCtorEq, List.length_cons, List.length_nil, Nat.reduceAdd, Nat.reduceLT, true_and, and_true, List.map_cons, List.map_nil, List.cons_append, List.nil_append, List.take_succ_cons, List.take_zero, mens, men, Nat.zero_add, Nat.le_refl]
    refine kca_intro (hf (g3 l j)) ?_
    simp only [r_cons, r_nil, r_kont, r_seq1, r_seq3, r_blk1, r_blk3, r_fn2, r_sk, r_rg, r_sq, r_rt, r_cd, r_cd2, r_op1, r_go1, r_mv, r_bi, r_add0, r_fin, r_kfe1, r_kcx, r_exps0, r_exps1, r_kex, r_exp1, r_expv2, r_fgt, r_clean, r_okm4, r_okm8, r_okm11, r_okms0, r_okms1, r_okE0, r_okE1, r_okL0, r_round1, r_round3, ptd, keyOf, freshK, lk, pt, addO, xv, kv, kc, ↓reduceIte, Nat.reduceEqDiff, Nat.reduceMul, reduceCtorEq, List.length_nil, Nat.reduceLT, true_and, and_true, noSh, isSc, impv, memB, keepB, keepOB, or_true, Bool.false_eq_true]
    refine ite_of (fun h => ?_) (fun h => ?_)
    · rw [if_pos h] at hA
      rw [← hA]
    · rw [if_neg h] at hA
      exact ⟨by rw [fits_i64]; omega, cntJ_intro () hja rfl hA⟩
  · have : j = l.length := by omega
    subst this
    rw [List.drop_length] at hA
    rw [← hA]
    rfl
theorem sem_ContainsFunc (l : List A3) (f : A3 → Bool) (fid : FuncId) (c : List Tr) (hl : l.length ≤ 9223372036854775807) (hf : ∀ s lvl S, Sem Go.Proofs.Try.prog fid lvl [.ag ((cA3 s).map .tr), .ta c] S (iB (f s)) S) (lvl : Nat) (S : Sto)
    : Sem Go.Proofs.Try.prog fid_slices_ContainsFunc_3_int_3_int lvl [.tr (.sl (l.map cA3)), .fn fid [.ta c]] S (iB (l.any f)) S := by
  refine sem_of_chk k_slices_ContainsFunc_3_int_3_int trivial ?_
  simp only [c_slices_ContainsFunc_3_int_3_int, r_cons, r_nil, r_kont, r_seq1, r_rg, r_sq, r_wpF, r_op1, r_mv, r_kcn, r_kfnn, r_sn0, r_sn1, r_sn4, r_sn5, r_ca, r_ca1, ptd, lk, pt, xv, kv, kc, params, ↓reduceIte, Nat.reduceEqDiff, reduceCtorEq, List.length_cons, List.length_nil, Nat.reduceAdd, Nat.reduceLeDiff, Nat.reduceLT, true_and, and_true, List.map_cons, List.map_nil, List.cons_append, List.nil_append, mens, men, Nat.zero_add]
  refine kca_intro (sem_IndexFunc l f fid c hl hf) ?_
  simp only [r_cons, r_nil, r_kont, r_seq1, r_fn2, r_rt, r_op1, r_go1, r_mv, r_bi, r_gei, r_fin, r_kfe1, r_kcx, r_exps0, r_exps1, r_kex, r_exp1, r_expv2, ptd, keyOf, freshK, lk, pt, addO, xv, kv, kc, ↓reduceIte, Nat.reduceEqDiff, Nat.reduceMul, reduceCtorEq, List.length_nil, Nat.reduceLT, true_and, and_true, noSh, isSc, impv, or_true]
  by_cases h : l.any f = true
  · simp [h, (fst3_none f l 0).2 h]
  · simp [h, mt (fst3_none f l 0).1 h]

/-- What both answer. -/
def isG (x : TSystem) (g : List Int) : Prop := sysOK x ∧ Ris 0 (x.states.length - 1) g
noncomputable def isC (x : TSystem) (g : List Int) : Bool := dc (isG x g) && !x.steps.any (lvs g)
theorem sem_impl_IsClosedSet (x : TSystem) (g : List Int) (hx : x.states.length ≤ 9223372036854775807) (hl : x.steps.length ≤ 9223372036854775807) (hg : g.length ≤ 9223372036854775807) (lvl : Nat) (S : Sto) : Sem Go.Proofs.Try.prog fid_impl_IsClosedSet lvl [.ag ((cSystem x).map .tr), tI g] S (.tu [iB (isC x g), iB (dc (isG x g))]) S := by
  refine sem_of_chk k_impl_IsClosedSet ⟨trivial, trivial, trivial⟩ ?_
  simp only [c_impl_IsClosedSet, cSystem, r_cons, r_nil, r_kont, r_seq1, r_rg, r_sq, r_wpF, r_op1, r_go1, r_mv, r_bt, r_bt1, r_op3, r_ltr, r_ld, r_ld1, r_ld4, r_kcn, r_kagn, r_sn0, r_sn1, r_sn3, r_ca, r_ca1, ptd, lk, pt, xv, kv, kc, params, ↓reduceIte, Nat.reduceEqDiff, reduceCtorEq, List.length_cons, List.length_nil, Nat.reduceAdd, Nat.reduceLeDiff, Nat.reduceLT, true_and, and_true, List.map_cons, List.map_nil, List.cons_append, List.nil_append, List.getElem?_cons_zero, List.take_succ_cons, List.take_zero, mens, men, List.all_cons, List.all_nil, isCell, Bool.and_true, Bool.and_self, cellsOf, totr, totrs, tocs, Nat.zero_add, Nat.le_refl]
  refine kca_intro (sem_isGoals x g hx hl hg) ?_
  simp only [r_cons, r_nil, r_kont, r_seq1, r_seq3, r_fn2, r_sk, r_rg, r_sq, r_rt, r_cd, r_cd2, r_op1, r_go1, r_mv, r_nt, r_nt1, r_mf, r_mf1, r_op3, r_fa, r_fa1, r_ltr, r_ld, r_ld1, r_kcn, r_kfnn, r_sn0, r_sn1, r_sn4, r_sn5, r_ca, r_ca1, r_fin, r_kfe2, r_kcx, r_exps0, r_exps1, r_kex, r_exp1, r_expv2, ptd, keyOf, freshK, lk, pt, addO, xv, kv, kc, ↓reduceIte, Nat.reduceEqDiff, Nat.reduceMul, reduceCtorEq, List.length_nil, Nat.reduceLT, true_and, and_true, List.map_cons, List.map_nil, List.cons_append, List.nil_append, List.getElem?_cons_zero, List.drop_succ_cons, List.drop_zero, mens, men, noSh, isSc, impv, or_true, List.all_cons, List.all_nil, isCell, Bool.and_self, Bool.not_eq_true']
  refine ite_of (fun h => ?_) (fun h => ?_)
  · have h' : dc (isG x g) = false := h
    rw [isC, h']; rfl
  · have h' : dc (isG x g) = true := by
      cases hc : dc (isG x g) with
      | true => rfl
      | false => exact absurd hc h
    refine kca_intro (sem_ContainsFunc x.steps (lvs g) fid_impl_IsClosedSet_1 [.sl (rI g)] hl (fun s lvl S => sem_IsClosedSet_1 g s hg lvl S)) ?_
    simp only [r_cons, r_nil, r_kont, r_seq1, r_fn2, r_rt, r_op1, r_go1, r_mv, r_nt, r_nt1, r_fin, r_kfe2, r_kcx, r_exps0, r_exps1, r_kex, r_exp1, r_expv2, ptd, keyOf, freshK, lk, pt, addO, xv, kv, kc, ↓reduceIte, Nat.reduceEqDiff, Nat.reduceMul, reduceCtorEq, List.length_nil, Nat.reduceLT, true_and, and_true, noSh, isSc, impv, or_true]
    rw [isC, h', Bool.true_and]
theorem sem_spec_IsClosedSet (x : TSystem) (g : List Int) (hx : x.states.length ≤ 9223372036854775807) (hl : x.steps.length ≤ 9223372036854775807) (hg : g.length ≤ 9223372036854775807) (lvl : Nat) (S : Sto) : Sem Go.Proofs.Try.prog fid_spec_IsClosedSet lvl [.ag ((cSystem x).map .tr), tI g] S (.tu [iB (isC x g), iB (dc (isG x g))]) S := by
  refine sem_of_chk k_spec_IsClosedSet ⟨trivial, trivial, trivial⟩ ?_
  simp only [c_spec_IsClosedSet, cSystem, r_cons, r_nil, r_kont, r_seq1, r_rg, r_sq, r_wpF, r_op1, r_go1, r_mv, r_bt, r_bt1, r_ld, r_ld4, r_kcn, r_kagn, r_sn0, r_sn1, r_sn3, r_ca, r_ca1, ptd, lk, pt, xv, kv, kc, params, ↓reduceIte, Nat.reduceEqDiff, reduceCtorEq, List.length_cons, List.length_nil, Nat.reduceAdd, Nat.reduceLeDiff, Nat.reduceLT, true_and, and_true, List.map_cons, List.map_nil, List.cons_append, List.nil_append, List.take_succ_cons, List.take_zero, mens, men, List.all_cons, List.all_nil, isCell, Bool.and_true, Bool.and_self, cellsOf, totr, totrs, tocs, Nat.zero_add, Nat.le_refl]
  refine kca_intro (sem_l10Good x hx hl) ?_
  simp only [r_cons, r_nil, r_kont, r_seq1, r_seq3, r_fn2, r_rg, r_sq, r_rt, r_cd, r_cd2, r_op1, r_op1g, r_gd, r_go1, r_mv, r_nt, r_nt1, r_pk, r_pkt, r_ld, r_ld4, r_kcn, r_kagn, r_sn0, r_sn1, r_sn3, r_ca, r_ca1, r_fin, r_kfe2, r_kcx, r_exps0, r_exps1, r_kex, r_exp1, r_expv2, ptd, keyOf, freshK, lk, pt, addO, xv, kv, kc, ↓reduceIte, Nat.reduceEqDiff, Nat.reduceMul, reduceCtorEq, List.length_cons, List.length_nil, Nat.reduceAdd, Nat.reduceLT, true_and, and_true, List.map_cons, List.map_nil, List.cons_append, List.nil_append, List.take_succ_cons, List.take_zero, mens, men, noSh, isSc, impv, or_true, Bool.true_eq_false, Bool.not_false, Nat.zero_add, Bool.not_eq_false', Nat.le_refl]
  have hno : ¬ isG x g → (IV.tu [iB false, iB false] = .tu [iB (isC x g), iB (dc (isG x g))]) := fun h => by unfold isC; rw [dc_false h]; rfl
  refine ite_of (fun h => ?_) (fun h => ?_)
  · refine kca_intro (sem_l10Goals x g hx hg) ?_
    simp only [r_cons, r_nil, r_kont, r_seq1, r_seq3, r_fn2, r_sk, r_rg, r_sq, r_bl, r_rt, r_cd, r_cd2, r_op1, r_op1g, r_gd, r_go1, r_mv, r_nt, r_nt1, r_pk, r_pkf, r_fin, r_kfe2, r_kcx, r_exps0, r_exps1, r_kex, r_exp1, r_expv2, ptd, keyOf, freshK, lk, pt, addO, xv, kv, kc, ↓reduceIte, Nat.reduceEqDiff, Nat.reduceMul, reduceCtorEq, List.length_nil, Nat.reduceLT, true_and, and_true, noSh, isSc, impv, or_true, Bool.not_eq_true']
    refine ite_of (fun h2 => ?_) (fun h2 => ?_)
    · exact hno fun hh => dc_not.1 h2 hh.2
    · have hG : isG x g := ⟨dc_iff.1 h, dc_iff.1 (by simpa using h2)⟩
      refine wp_count (α := Unit) x.steps.length (fun j _ => ⟨lvl, [(1, tI g), (2, .ta (cSystem x)), (6, iI j)], [], S⟩) (fun j _ => ∀ i, i < j → lvs g (g3 x.steps i) = false) () ⟨by simp only [r_clean, r_okm4, r_okm11, r_okE0, r_okE1, r_okL0, ↓reduceIte, Nat.reduceEqDiff, reduceCtorEq, and_true, memB, keepB, keepOB, Bool.false_eq_true], by simp only [cSystem, r_fgt, ↓reduceIte, Nat.reduceEqDiff, reduceCtorEq, memB, keepB, keepOB, Bool.false_eq_true]; rfl⟩ (fun i hi => by omega) ?_
      intro j _ hj hA
      simp only [List.length_map, cSystem, r_cons, r_nil, r_kont, r_seq1, r_seq2, r_blk2, r_fn2, r_sk, r_rg, r_sq, r_bl, r_ex, r_rt, r_cd, r_cd2, r_op1, r_go1, r_mv, r_bi, r_lti, r_ln, r_ln1, r_op3, r_fa, r_fa1, r_ixn, r_ia, r_ia1, r_ltr, r_ld, r_ld1, r_fin, r_kfe2, r_kcx, r_exps0, r_exps1, r_kex, r_exp1, r_expv2, r_round2, ptd, lk, pt, xv, kv, kc, ↓reduceIte, Nat.reduceEqDiff, Nat.reduceLT, true_and, and_true, decide_eq_true_eq, List.getElem?_cons_zero, List.drop_succ_cons, List.drop_zero, Int.toNat_natCast, Int.natCast_nonneg]
      refine ite_of (fun hlt => ?_) (fun hge => ?_)
      · have hja : j < x.steps.length := by omega
        have ga := rA_get hja
        have hm : g3 x.steps j ∈ x.steps := by
          have : g3 x.steps j = x.steps[j] := by simp [hja]
          rw [this]; exact List.getElem_mem hja
        have hyes : lvs g (g3 x.steps j) = true → (IV.tu [iB false, iB true] = .tu [iB (isC x g), iB (dc (isG x g))]) := fun h => by
          have : x.steps.any (lvs g) = true := List.any_eq_true.2 ⟨_, hm, h⟩
          unfold isC; rw [dc_true hG, this]; rfl
        have hnext : lvs g (g3 x.steps j) = false → ∀ i, i < j + 1 → lvs g (g3 x.steps i) = false := fun h i hi => by
          by_cases e : i = j
          · subst e; exact h
          · exact hA i (by omega)
        simp only [ga, cA3, r_cons, r_kont, r_op1, r_go1, r_op3, r_ixn, r_iae, r_ja, r_ja1, r_ltr, r_ld, r_ld1, r_kcn, r_sn0, r_sn1, r_ca, r_ca1, ptd, lk, pt, xv, kv, kc, ↓reduceIte, Nat.reduceEqDiff, Nat.reduceMul, List.length_cons, List.length_nil, Nat.reduceAdd, Nat.reduceLT, true_and, and_true, List.map_cons, List.map_nil, List.cons_append, List.nil_append, List.getElem?_cons_zero, List.drop_zero, mens, men, Int.toNat_zero, Int.reduceLE, Nat.zero_add]
        refine kca_intro (sem_l1Has g (g3 x.steps j).1 hg) ?_
        simp only [ga, cA3, r_cons, r_nil, r_kont, r_seq1, r_blk1, r_sk, r_rg, r_cd, r_cd2, r_op1, r_op1g, r_gd, r_go1, r_mv, r_bi, r_add0, r_pk, r_pkf, r_op3, r_fa, r_fa1, r_ixn, r_ia, r_iae, r_ia1, r_ja, r_ja1, r_ltr, r_ld, r_ld1, r_kcn, r_sn0, r_sn1, r_ca, r_ca1, r_fgt, r_clean, r_okm4, r_okm11, r_okE0, r_okE1, r_okL0, r_round1, ptd, keyOf, freshK, lk, pt, addO, xv, kv, kc, ↓reduceIte, Nat.reduceEqDiff, Nat.reduceMul, List.length_cons, List.length_nil, Nat.reduceAdd, Nat.reduceLT, true_and, and_true, decide_eq_true_eq, List.map_cons, List.map_nil, List.cons_append, List.nil_append, List.getElem?_cons_zero, List.drop_succ_cons, List.drop_zero, mens, men, noSh, isSc, impv, memB, keepB, keepOB, or_true, Bool.false_eq_true, Bool.not_true, Int.toNat_natCast, Int.reduceToNat, Int.reduceLE, Nat.zero_add, Int.natCast_nonneg]
        refine ite_of (fun h3 => ?_) (fun h3 => ?_)
        · refine kca_intro (sem_l1Has g (g3 x.steps j).2.2 hg) ?_
          simp only [r_cons, r_nil, r_kont, r_seq1, r_seq3, r_blk1, r_blk3, r_fn2, r_sk, r_rg, r_sq, r_rt, r_cd, r_cd2, r_op1, r_op1g, r_gd, r_go1, r_mv, r_bi, r_add0, r_nt, r_nt1, r_pk, r_pkt, r_fin, r_kfe2, r_kcx, r_exps0, r_exps1, r_kex, r_exp1, r_expv2, r_fgt, r_clean, r_okm4, r_okm11, r_okE0, r_okE1, r_okL0, r_round1, r_round3, ptd, keyOf, freshK, lk, pt, addO, xv, kv, kc, ↓reduceIte, Nat.reduceEqDiff, Nat.reduceMul, List.length_nil, Nat.reduceLT, true_and, and_true, noSh, isSc, impv, memB, keepB, keepOB, or_true, Bool.false_eq_true, Bool.not_eq_true']
          refine ite_of (fun h4 => ?_) (fun h4 => ?_)
          · exact hyes (by rw [lvs, h4, decide_eq_true h3]; rfl)
          · exact ⟨by rw [fits_i64]; omega, cntJ_intro () hja rfl (hnext (by rw [lvs, Bool.not_eq_false (decide _) |>.mp h4]; simp))⟩
        · exact ⟨by rw [fits_i64]; omega, cntJ_intro () hja rfl (hnext (by rw [lvs, decide_eq_false h3]; rfl))⟩
      · have : j = x.steps.length := by omega
        subst this
        have : x.steps.any (lvs g) = false := by
          rw [List.any_eq_false]
          intro y hy
          obtain ⟨i, hi, rfl⟩ := List.mem_iff_getElem.1 hy
          have := hA i hi
          simp [hi] at this
          simp [this]
        unfold isC
        rw [dc_true hG, this]
        rfl
  · exact hno fun hh => h (dc_iff.2 hh.1)
end Go.Fd

/-
  THE LAW OF IsClosedSet. Own work.
-/
namespace Go.Fd
set_option maxRecDepth 20000

theorem sem_FnExactIsClosedSet (x : TSystem) (a : List Int) (hb : bdSystem 9223372036854775807 x) (ha : a.length ≤ 9223372036854775807) (lvl : Nat) (S : Sto) : Sem Go.Proofs.Try.prog fid_laws_FnExactIsClosedSet lvl [.ag ((cSystem x).map .tr), tI a] S (iB true) S := by
  refine sem_of_chk k_laws_FnExactIsClosedSet trivial ?_
  simp only [c_laws_FnExactIsClosedSet, cSystem, List.length_map, r_cons, r_nil, r_kont, r_seq1, r_seq3, r_fn2, r_sk, r_rg, r_sq, r_rt, r_cd, r_cd2, r_wpF, r_op1, r_go1, r_mv, r_bt, r_bt1, r_bi, r_gti, r_ln, r_ln1, r_ld, r_ld4, r_kcn, r_kagn, r_sn0, r_sn1, r_sn3, r_ca, r_ca1, r_fin, r_kfe1, r_kcx, r_exps0, r_exps1, r_kex, r_exp1, r_expv2, ptd, lk, pt, xv, kv, kc, params, ↓reduceIte, Nat.reduceEqDiff, reduceCtorEq, List.length_cons, List.length_nil, Nat.reduceAdd, Nat.reduceLeDiff, Nat.reduceLT, true_and, and_true, decide_eq_true_eq, List.map_cons, List.map_nil, List.cons_append, List.nil_append, List.take_succ_cons, List.take_zero, mens, men, List.all_cons, List.all_nil, isCell, Bool.and_true, Bool.and_self, cellsOf, totr, totrs, tocs, Nat.zero_add, Nat.le_refl]
  refine ite_of (fun _ => trivial) (fun hla => ?_)
  have ha2 : a.length ≤ 4294967296 := by omega
  obtain ⟨_, hs⟩ := sem_szSystem x hb 1048576 (by omega) (by omega)
  refine kca_intro hs ?_
  simp only [r_cons, r_nil, r_kont, r_seq1, r_seq3, r_fn2, r_sk, r_rg, r_sq, r_rt, r_cd, r_cd2, r_op1, r_go1, r_mv, r_bi, r_lti, r_ld, r_ld4, r_kcn, r_kagn, r_sn0, r_sn1, r_sn3, r_ca, r_ca1, r_fin, r_kfe1, r_kcx, r_exps0, r_exps1, r_kex, r_exp1, r_expv2, ptd, keyOf, freshK, lk, pt, addO, xv, kv, kc, ↓reduceIte, Nat.reduceEqDiff, Nat.reduceMul, reduceCtorEq, List.length_cons, List.length_nil, Nat.reduceAdd, Nat.reduceLT, true_and, and_true, decide_eq_true_eq, List.map_cons, List.map_nil, List.cons_append, List.nil_append, List.take_succ_cons, List.take_zero, mens, men, noSh, isSc, impv, or_true, Nat.zero_add, Nat.le_refl]
  refine ite_of (fun _ => trivial) (fun hsz => ?_)
  have hb2 : bdSystem 4294967296 x := (zpSystem x 1048576 (by omega) (by omega)).2 (by simp only; omega)
  refine kca_intro (sem_toSystem x hb2) ?_
  simp only [oSystem, r_cons, r_kont, r_op1, r_mv, r_kcn, r_sn0, r_sn1, r_ca, r_ca1, ptd, keyOf, freshK, lk, pt, addO, xv, ↓reduceIte, Nat.reduceEqDiff, Nat.reduceMul, reduceCtorEq, List.length_nil, Nat.reduceLT, true_and, and_true, List.map_cons, List.map_nil, List.cons_append, List.nil_append, mens, men, noSh, noShs, impv, impvs, impc, or_true, Bool.false_eq_true]
  refine kca_intro (sem_toIntS a ha2) ?_
  simp only [r_cons, r_kont, r_op1, r_kcn, r_kagn, r_sn0, r_sn1, r_sn3, r_ca, r_ca1, ptd, keyOf, freshK, lk, pt, addO, xv, ↓reduceIte, Nat.reduceEqDiff, Nat.reduceMul, reduceCtorEq, List.length_nil, Nat.reduceLT, true_and, and_true, List.map_cons, List.map_nil, List.cons_append, List.nil_append, mens, men, noSh, impv, impc, or_true, Bool.false_eq_true]
  refine kca_intro (sem_spec_IsClosedSet x a hb.1 hb.2.2 ha) ?_
  simp only [r_cons, r_nil, r_kont, r_seq1, r_rg, r_sq, r_op1, r_go1, r_mv, r_op3, r_xt, r_xt1, r_ld, r_ld4, r_kcn, r_kagn, r_sn0, r_sn1, r_sn3, r_ca, r_ca1, ptd, keyOf, freshK, lk, pt, addO, xv, ↓reduceIte, Nat.reduceEqDiff, Nat.reduceMul, reduceCtorEq, List.length_cons, List.length_nil, Nat.reduceAdd, Nat.reduceLT, true_and, and_true, List.map_cons, List.map_nil, List.cons_append, List.nil_append, List.getElem?_cons_zero, List.getElem?_cons_succ, List.take_succ_cons, List.take_zero, mens, men, noSh, noShs, isSc, impv, impvs, or_true, Nat.zero_add, Nat.le_refl]
  refine kca_intro (sem_toSystem x hb2) ?_
  simp only [oSystem, zfill, zobs, addO, setAt, setOb, lows, r_cons, r_nil, r_kont, r_seq1, r_rg, r_sq, r_op1, r_mv, r_al, r_pack, r_kcn, r_sn0, r_sn1, r_ca, r_ca1, r_st, r_st1, r_stb, ptd, keyOf, freshK, lk, pt, lkO, ptO, addO, xv, kc, ↓reduceIte, Nat.reduceEqDiff, Nat.reduceMul, reduceCtorEq, List.length_cons, List.length_nil, Nat.reduceAdd, Nat.reduceLT, true_and, and_true, List.map_cons, List.map_nil, List.cons_append, List.nil_append, mens, men, noSh, noShs, impv, impvs, impc, or_true, Bool.false_eq_true, List.all_cons, List.all_nil, isCell, Bool.and_self, cellsOf, Nat.zero_add, Nat.add_zero, List.set_cons_zero, List.set_cons_succ, Nat.le_refl]
  refine kca_intro (sem_toIntS a ha2) ?_
  simp only [r_cons, r_nil, r_kont, r_seq1, r_rg, r_sq, r_op1, r_go1, r_mv, r_pack, r_ld, r_labm, r_ld5, r_kcn, r_kagn, r_sn0, r_sn1, r_sn3, r_ca, r_ca1, ptd, keyOf, freshK, lk, pt, lkO, addO, xv, ↓reduceIte, Nat.reduceEqDiff, Nat.reduceMul, reduceCtorEq, List.length_cons, List.length_nil, Nat.reduceAdd, Nat.reduceLT, true_and, and_true, List.map_cons, List.map_nil, List.cons_append, List.nil_append, List.drop_zero, List.take_succ_cons, List.take_zero, mens, men, noSh, impv, impc, or_true, Bool.false_eq_true, Nat.zero_add, Nat.le_refl]
  refine kca_intro (sem_impl_IsClosedSet x a hb.1 hb.2.2 ha) ?_
  simp only [bne_self_eq_false, r_cons, r_nil, r_kont, r_seq1, r_sk, r_rg, r_sq, r_cd, r_cd2, r_op1, r_op1g, r_gd, r_go1, r_mv, r_bi, r_neb, r_pk, r_pkf, r_op3, r_xt, r_xt1, r_pack, r_ld, r_ld4, r_labm, r_ld5, r_kcn, r_kagn, r_sn0, r_sn1, r_sn3, r_ca, r_ca1, ptd, keyOf, freshK, lk, pt, lkO, addO, xv, kv, kc, ↓reduceIte, Nat.reduceEqDiff, Nat.reduceMul, reduceCtorEq, List.length_cons, List.length_nil, Nat.reduceAdd, Nat.reduceLT, true_and, and_true, List.map_cons, List.map_nil, List.cons_append, List.nil_append, List.getElem?_cons_zero, List.getElem?_cons_succ, List.drop_zero, List.take_succ_cons, List.take_zero, mens, men, noSh, noShs, isSc, impv, impvs, or_true, Bool.false_eq_true, Nat.zero_add, Nat.le_refl]
  refine kca_intro (sem_toSystem x hb2) ?_
  simp only [oSystem, r_cons, r_kont, r_op1, r_kcn, r_kagn, r_sn0, r_sn1, r_sn3, r_ca, r_ca1, ptd, keyOf, freshK, lk, pt, addO, xv, ↓reduceIte, Nat.reduceEqDiff, Nat.reduceMul, reduceCtorEq, List.length_nil, Nat.reduceLT, true_and, and_true, List.map_cons, List.map_nil, List.cons_append, List.nil_append, mens, men, noSh, noShs, impv, impvs, impc, or_true, Bool.false_eq_true]
  refine kca_intro (sem_eqSystem x x hb) ?_
  simp only [r_cons, r_nil, r_kont, r_seq1, r_sk, r_rg, r_sq, r_cd, r_cd2, r_op1, r_go1, r_mv, r_nt, r_nt1, r_kcn, r_sn0, r_sn1, r_ca, r_ca1, ptd, keyOf, freshK, lk, pt, addO, xv, ↓reduceIte, Nat.reduceEqDiff, Nat.reduceMul, reduceCtorEq, List.length_nil, Nat.reduceLT, true_and, and_true, decide_true, List.map_cons, List.map_nil, List.cons_append, List.nil_append, mens, men, noSh, isSc, impv, or_true, Bool.false_eq_true, Bool.not_true]
  refine kca_intro (sem_toIntS a ha2) ?_
  simp only [r_cons, r_kont, r_op1, r_kcn, r_sn0, r_sn1, r_ca, r_ca1, ptd, keyOf, freshK, lk, pt, addO, xv, ↓reduceIte, Nat.reduceEqDiff, Nat.reduceMul, reduceCtorEq, List.length_nil, Nat.reduceLT, true_and, and_true, List.map_cons, List.map_nil, List.cons_append, List.nil_append, mens, men, noSh, impv, impc, or_true, Bool.false_eq_true]
  refine kca_intro (sem_eqIntS a a ha) ?_
  simp only [r_cons, r_nil, r_kont, r_seq1, r_fn2, r_sk, r_rg, r_sq, r_rt, r_cd, r_cd2, r_op1, r_go1, r_mv, r_nt, r_nt1, r_fin, r_kfe1, r_kcx, r_exps0, r_exps1, r_kex, r_exp1, r_expv2, ptd, keyOf, freshK, lk, pt, addO, xv, kv, kc, ↓reduceIte, Nat.reduceEqDiff, Nat.reduceMul, reduceCtorEq, List.length_nil, Nat.reduceLT, and_true, decide_true, noSh, isSc, impv, or_true, Bool.false_eq_true, Bool.not_true]
end Go.Fd
