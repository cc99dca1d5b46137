/-
  WHAT A VALID SORTING IS, BOTH SIDES. Own work.
-/
import Derived.Test.YteoogncgfnpoeaaDoorT04
import Derived.KernelRfl
namespace Go.Fd
set_option maxRecDepth 20000

theorem sem_l7Controls (sig : List TControl) (l : List Int) (hn : sig.length ≤ 4294967296) (hl : l.length ≤ 9223372036854775807) (lvl : Nat) (S : Sto) : Sem Go.Proofs.Tryd.prog fid_spec_l7Controls lvl [.tr (.sl (sig.map cControl)), tI l] S (iB (dc (Ris 0 ((sig.length : Int) - 1) l))) S := by
  refine sem_of_chk k_spec_l7Controls trivial ?_
  simp only [c_spec_l7Controls, List.length_map, r_cons, r_nil, r_kont, r_seq1, r_rg, r_sq, r_wpF, r_op1, r_go1, r_mv, r_bi, r_sub0, r_ln, r_ln1, r_kcn, r_sn0, r_sn1, r_ca, r_ca1, ptd, lk, pt, xv, kv, kc, params, ↓reduceIte, Nat.reduceEqDiff, reduceCtorEq, List.length_cons, List.length_nil, Nat.reduceAdd, Nat.reduceLeDiff, Nat.reduceLT, true_and, List.map_cons, List.map_nil, List.cons_append, List.nil_append, mens, men, Nat.zero_add, List.length_map, and_self]
  refine ⟨by rw [fits_i64]; omega, ?_⟩
  refine kca_intro (sem_l1Rising l 0 ((sig.length : Int) - 1) hl) ?_
  simp only [r_cons, r_nil, r_kont, r_seq1, r_fn2, r_rt, r_op1, r_mv, r_fin, r_kfe1, r_kcx, r_exps0, r_exps1, r_kex, r_exp1, r_expv2, ptd, keyOf, freshK, lk, pt, addO, xv, ↓reduceIte, Nat.reduceEqDiff, Nat.reduceMul, reduceCtorEq, List.length_nil, Nat.reduceLT, noSh, isSc, impv, or_true, and_self]

def nestOK (sig : List TControl) (nest : List (List Int)) : Prop := nest.length = sig.length ∧ ∀ k, nestAt sig nest k

theorem sem_l7Nest (sig : List TControl) (nest : List (List Int)) (hn : sig.length ≤ 4294967296) (hl : nest.length ≤ 4294967296) (hb : ∀ y ∈ nest, y.length ≤ 4294967296) (lvl : Nat) (S : Sto) : Sem Go.Proofs.Tryd.prog fid_spec_l7Nest lvl [.tr (.sl (sig.map cControl)), .tr (.sl (nest.map eIS))] S (iB (dc (nestOK sig nest))) S := by
  refine sem_of_chk k_spec_l7Nest trivial ?_
  simp only [c_spec_l7Nest, List.length_map, r_cons, r_nil, r_kont, r_seq1, r_seq3, r_fn2, r_sk, r_rg, r_sq, r_bl, r_rt, r_cd, r_cd2, r_wpF, r_op1, r_go1, r_mv, r_bi, r_nei, r_ln, r_ln1, r_fin, r_kfe1, r_kcx, r_exps0, r_exps1, r_kex, r_exp1, r_expv2, r_lt1, ptd, lk, pt, xv, kv, kc, params, ↓reduceIte, Nat.reduceEqDiff, reduceCtorEq, List.length_cons, List.length_nil, Nat.reduceAdd, Nat.reduceLeDiff, Nat.reduceLT, true_and, and_true, decide_eq_true_eq, Nat.zero_add, ne_eq, List.length_map]
  refine ite_of (fun hne => ?_) (fun heq => ?_)
  · have : ¬ nestOK sig nest := fun h => by have := h.1; omega
    rw [dc_false this]
  have hE : nest.length = sig.length := by omega
  refine wp_cnt (α := Unit) nest.length (fun j _ => [(5, iI j)]) (fun j _ => []) (fun j _ => ∀ k, k < j → nestAt sig nest k) () (by simp only [r_clean, r_okm4, r_okE0, r_okE1, r_okL0, ↓reduceIte, Nat.reduceEqDiff, reduceCtorEq, memB, keepB, keepOB, Bool.false_eq_true, and_self]) (by (simp only [r_fgt, r_chg, r_pts0, r_pts1, r_ptOs0, pt, ↓reduceIte, Nat.reduceEqDiff, reduceCtorEq, Nat.reduceLT, memB, keepB, keepOB, Bool.false_eq_true, Int.cast_ofNat_Int]) <;> rfl) (fun k hk => absurd hk (Nat.not_lt_zero k)) ?_
  intro j _ hj hA
  simp only [List.length_map, r_cons, r_nil, r_kont, r_seq1, r_seq2, r_blk2, r_fn2, r_sk, r_rg, r_sq, r_bl, r_ex, r_rt, r_cd, r_cd2, r_op1, r_go1, r_mv, r_bi, r_lti, r_ln, r_ln1, r_ixn, r_ia, r_ia1, r_fin, r_kfe1, r_kcx, r_exps0, r_exps1, r_kex, r_exp1, r_expv2, r_fgt, r_round2, r_chg, r_pts0, r_pts1, r_ptOs0, r_lt1, ptd, lk, pt, xv, kv, kc, ↓reduceIte, Nat.reduceEqDiff, reduceCtorEq, Nat.reduceLT, true_and, and_true, decide_eq_true_eq, memB, keepB, keepOB, Bool.false_eq_true, Int.toNat_natCast, Int.natCast_nonneg, List.length_map]
  refine ite_of (fun hlt => ?_) (fun hge => ?_)
  · have hja : j < nest.length := by omega
    have hjs : j < sig.length := by omega
    have ga := getA (c := eIS) hja
    have gs := getA (c := cControl) hjs
    have hy : nest[j].length ≤ 4294967296 := hb _ (List.getElem_mem hja)
    simp only [ga, r_cons, r_kont, r_op1, r_go1, r_op3, r_iae, r_ltr, r_ld, r_ld1, r_kcn, r_sn0, r_sn1, r_ca, r_ca1, ptd, lk, pt, xv, ↓reduceIte, Nat.reduceEqDiff, reduceCtorEq, List.length_cons, List.length_nil, Nat.reduceLT, true_and, List.map_cons, List.map_nil, List.cons_append, List.nil_append, List.getElem?_cons_zero, mens, men, Nat.zero_add, and_self]
    refine kca_intro (sem_l7Controls sig nest[j] hn (by omega)) ?_
    cases hc : dc (Ris 0 ((sig.length : Int) - 1) nest[j])
    · simp only [r_cons, r_nil, r_kont, r_seq1, r_seq3, r_blk3, r_fn2, r_rg, r_sq, r_rt, r_cd, r_cd2, r_op1, r_op1g, r_gd, r_gdu, r_go1, r_mv, r_nt, r_nt1, r_pk, r_pkt, r_fin, r_kfe1, r_kcx, r_exps0, r_exps1, r_kex, r_exp1, r_expv2, r_round3, r_lt1, ptd, keyOf, freshK, lk, pt, addO, xv, kv, kc, ↓reduceIte, Nat.reduceEqDiff, Nat.reduceMul, reduceCtorEq, List.length_nil, Nat.reduceLT, true_and, and_true, noSh, isSc, impv, or_true, Bool.true_eq_false, Bool.not_false]
      have : ¬ nestOK sig nest := fun h => dc_not.1 hc (h.2 j hja hjs).1
      rw [dc_false this]
    have hR := dc_iff.1 hc
    by_cases hk : sig[j].kind_ = 2
    · simp only [ga, gs, List.length_map, cControl, hk, r_cons, r_nil, r_kont, r_seq1, r_seq3, r_blk1, r_blk3, r_fn2, r_sk, r_rg, r_sq, r_rt, r_cd, r_cd2, r_op1, r_op1g, r_gd, r_go1, r_mv, r_bi, r_add0, r_eqi, r_gti, r_nt, r_nt1, r_ln, r_ln1, r_pk, r_pkt, r_pkf, r_op3, r_fa, r_fa1, r_ixn, r_ia, r_iae, r_ia1, r_ltr, r_ld, r_ld1, r_fin, r_kfe1, r_kcx, r_exps0, r_exps1, r_kex, r_exp1, r_expv2, r_fgt, r_clean, r_okm4, r_okE0, r_okE1, r_okL0, r_round1, r_round3, r_lt1, ptd, keyOf, freshK, lk, pt, addO, xv, kv, kc, ↓reduceIte, Nat.reduceEqDiff, Nat.reduceMul, reduceCtorEq, List.length_cons, List.length_nil, Nat.reduceAdd, Nat.reduceLT, true_and, and_true, decide_eq_true_eq, decide_true, List.getElem?_cons_zero, List.drop_succ_cons, List.drop_zero, noSh, isSc, impv, memB, keepB, keepOB, or_true, Bool.false_eq_true, Bool.not_true, Int.toNat_natCast, Nat.zero_add, Int.natCast_nonneg, List.length_map, and_self]
      refine ite_of (fun hpos => ?_) (fun hz => ?_)
      · have : ¬ nestOK sig nest := fun h => by
          have := (h.2 j hja hjs).2 hk
          rw [this] at hpos
          simp at hpos
        rw [dc_false this]
      · have hz2 : nest[j] = [] := List.length_eq_zero_iff.1 (by omega)
        exact ⟨by rw [fits_i64]; omega, cntJ_intro () hja rfl (all_succ hA fun _ _ => ⟨hR, fun _ => hz2⟩)⟩
    · simp only [gs, cControl, hk, r_cons, r_nil, r_kont, r_seq1, r_blk1, r_sk, r_rg, r_cd, r_cd2, r_op1, r_op1g, r_gd, r_go1, r_mv, r_bi, r_add0, r_eqi, r_nt, r_nt1, r_pk, r_pkf, r_op3, r_fa, r_fa1, r_ixn, r_ia, r_iae, r_ia1, r_ltr, r_ld, r_ld1, r_fgt, r_clean, r_okm4, r_okE0, r_okE1, r_okL0, r_round1, r_lt1, ptd, keyOf, freshK, lk, pt, addO, xv, kv, kc, ↓reduceIte, Nat.reduceEqDiff, Nat.reduceMul, reduceCtorEq, List.length_cons, List.length_nil, Nat.reduceAdd, Nat.reduceLT, true_and, decide_false, List.getElem?_cons_zero, List.drop_succ_cons, List.drop_zero, noSh, isSc, impv, memB, keepB, keepOB, or_true, Bool.false_eq_true, Bool.not_true, Int.toNat_natCast, Nat.zero_add, Int.natCast_nonneg, and_self]
      exact ⟨by rw [fits_i64]; omega, cntJ_intro () hja rfl (all_succ hA fun _ _ => ⟨hR, fun h => absurd h hk⟩)⟩
  · have : j = nest.length := by omega
    subst this
    have : nestOK sig nest := ⟨hE, fun k h h2 => hA k h h h2⟩
    rw [dc_true this]

def sortsOK (sig : List TControl) (sorts : List (List Int)) (many : Nat) : Prop := sorts.length = sig.length ∧ ∀ k, sortsAt sig sorts many k

theorem sem_l7Sorts (sig : List TControl) (sorts : List (List Int)) (many : Nat) (hm : many ≤ 4294967296) (hn : sig.length ≤ 4294967296) (hl : sorts.length ≤ 4294967296) (hb : ∀ y ∈ sorts, y.length ≤ 4294967296) (lvl : Nat) (S : Sto) : Sem Go.Proofs.Tryd.prog fid_spec_l7Sorts lvl [.tr (.sl (sig.map cControl)), .tr (.sl (sorts.map eIS)), iI many] S (iB (dc (sortsOK sig sorts many))) S := by
  refine sem_of_chk k_spec_l7Sorts trivial ?_
  simp only [c_spec_l7Sorts, List.length_map, r_cons, r_nil, r_kont, r_seq1, r_seq3, r_fn2, r_sk, r_rg, r_sq, r_bl, r_rt, r_cd, r_cd2, r_wpF, r_op1, r_go1, r_mv, r_bi, r_nei, r_ln, r_ln1, r_fin, r_kfe1, r_kcx, r_exps0, r_exps1, r_kex, r_exp1, r_expv2, ptd, lk, pt, xv, kv, kc, params, ↓reduceIte, Nat.reduceEqDiff, reduceCtorEq, List.length_cons, List.length_nil, Nat.reduceAdd, Nat.reduceLeDiff, Nat.reduceLT, true_and, and_true, decide_eq_true_eq, Nat.zero_add, ne_eq, List.length_map]
  refine ite_of (fun hne => ?_) (fun heq => ?_)
  · have : ¬ sortsOK sig sorts many := fun h => by have := h.1; omega
    rw [dc_false this]
  have hE : sorts.length = sig.length := by omega
  refine wp_cnt (α := Unit) sorts.length (fun j _ => [(7, iI j)]) (fun j _ => []) (fun j _ => ∀ k, k < j → sortsAt sig sorts many k) () (by simp only [r_clean, r_okm4, r_okE0, r_okE1, r_okL0, ↓reduceIte, Nat.reduceEqDiff, reduceCtorEq, memB, keepB, keepOB, Bool.false_eq_true, and_self]) (by (simp only [r_fgt, r_chg, r_pts0, r_pts1, r_ptOs0, pt, ↓reduceIte, Nat.reduceEqDiff, reduceCtorEq, Nat.reduceLT, memB, keepB, keepOB, Bool.false_eq_true, Int.cast_ofNat_Int]) <;> rfl) (fun k hk => absurd hk (Nat.not_lt_zero k)) ?_
  intro j _ hj hA
  simp only [List.length_map, r_cons, r_nil, r_kont, r_seq1, r_seq2, r_blk2, r_fn2, r_sk, r_rg, r_sq, r_bl, r_ex, r_rt, r_cd, r_cd2, r_op1, r_go1, r_mv, r_bi, r_lti, r_ln, r_ln1, r_ixn, r_ia, r_ia1, r_fin, r_kfe1, r_kcx, r_exps0, r_exps1, r_kex, r_exp1, r_expv2, r_fgt, r_round2, r_chg, r_pts0, r_pts1, r_ptOs0, r_lt1, ptd, lk, pt, xv, kv, kc, ↓reduceIte, Nat.reduceEqDiff, reduceCtorEq, Nat.reduceLT, true_and, and_true, decide_eq_true_eq, memB, keepB, keepOB, Bool.false_eq_true, Int.toNat_natCast, Int.natCast_nonneg, List.length_map]
  refine ite_of (fun hlt => ?_) (fun hge => ?_)
  · have hja : j < sorts.length := by omega
    have hjs : j < sig.length := by omega
    have ga := getA (c := eIS) hja
    have gs := getA (c := cControl) hjs
    have hy : sorts[j].length ≤ 4294967296 := hb _ (List.getElem_mem hja)
    simp only [ga, gs, List.length_map, cControl, r_cons, r_nil, r_kont, r_seq1, r_seq3, r_blk3, r_fn2, r_sk, r_rg, r_sq, r_bl, r_rt, r_cd, r_cd2, r_op1, r_go1, r_mv, r_bi, r_nei, r_ln, r_ln1, r_op3, r_fa, r_fa1, r_ixn, r_ia, r_iae, r_ia1, r_ltr, r_ld, r_ld1, r_fin, r_kfe1, r_kcx, r_exps0, r_exps1, r_kex, r_exp1, r_expv2, r_round3, r_lt1, ptd, lk, pt, xv, kv, kc, ↓reduceIte, Nat.reduceEqDiff, reduceCtorEq, List.length_cons, List.length_nil, Nat.reduceAdd, Nat.reduceLT, true_and, and_true, decide_eq_true_eq, List.getElem?_cons_zero, List.drop_succ_cons, List.drop_zero, Int.toNat_natCast, Nat.zero_add, Int.natCast_nonneg, ne_eq, List.length_map]
    refine ite_of (fun hne => ?_) (fun heq => ?_)
    · have : ¬ sortsOK sig sorts many := fun h => hne (h.2 j hja hjs).1
      rw [dc_false this]
    have heq2 : (sorts[j].length : Int) = sig[j].ports := by omega
    refine wp_cnt (α := Unit) sorts[j].length (fun i _ => [(8, iI i)]) (fun i _ => []) (fun i _ => ∀ k, k < i → 0 ≤ g0 sorts[j] k ∧ g0 sorts[j] k ≤ (many : Int) - 1) () (by simp only [r_clean, r_okm4, r_okE0, r_okE1, r_okL0, ↓reduceIte, Nat.reduceEqDiff, reduceCtorEq, memB, keepB, keepOB, Bool.false_eq_true, and_self]) (by (simp only [r_fgt, r_chg, r_pts0, r_pts1, r_ptOs0, pt, ↓reduceIte, Nat.reduceEqDiff, reduceCtorEq, Nat.reduceLT, memB, keepB, keepOB, Bool.false_eq_true, Int.cast_ofNat_Int]) <;> rfl) (fun k hk => absurd hk (Nat.not_lt_zero k)) ?_
    intro i _ hi hB
    simp only [ga, List.length_map, r_cons, r_nil, r_kont, r_seq1, r_seq2, r_blk1, r_blk2, r_sk, r_rg, r_sq, r_bl, r_ex, r_cd, r_cd2, r_op1, r_go1, r_mv, r_bi, r_add0, r_lti, r_ln, r_ln1, r_op3, r_ixn, r_ia, r_iae, r_ia1, r_ltr, r_ld, r_ld1, r_fgt, r_clean, r_okm4, r_okE0, r_okE1, r_okL0, r_round1, r_round2, r_chg, r_pts0, r_pts1, r_ptOs0, ptd, lk, pt, xv, kv, kc, ↓reduceIte, Nat.reduceEqDiff, reduceCtorEq, List.length_cons, List.length_nil, Nat.reduceLT, true_and, decide_eq_true_eq, List.getElem?_cons_zero, memB, keepB, keepOB, Bool.false_eq_true, Int.toNat_natCast, Nat.zero_add, Int.natCast_nonneg, List.length_map, and_self]
    refine ite_of (fun hlt2 => ?_) (fun hge2 => ?_)
    · have hia : i < sorts[j].length := by omega
      have gi := rI_get hia
      simp only [gi, r_cons, r_kont, r_op1, r_go1, r_mv, r_bi, r_sub0, r_op3, r_iae, r_ltr, r_ld, r_ld1, r_kcn, r_sn0, r_sn1, r_ca, r_ca1, ptd, lk, pt, xv, kv, kc, ↓reduceIte, Nat.reduceEqDiff, reduceCtorEq, List.length_cons, List.length_nil, Nat.reduceLT, true_and, List.map_cons, List.map_nil, List.cons_append, List.nil_append, List.getElem?_cons_zero, mens, men, Nat.zero_add, and_self]
      refine ⟨by rw [fits_i64]; omega, ?_⟩
      refine kca_intro (sem_l1In (g0 sorts[j] i) 0 ((many : Int) - 1)) ?_
      cases hc : inB (g0 sorts[j] i) 0 ((many : Int) - 1)
      · simp only [r_cons, r_nil, r_kont, r_seq1, r_seq3, r_blk3, r_fn2, r_rg, r_sq, r_rt, r_cd, r_cd2, r_op1, r_go1, r_mv, r_nt, r_nt1, r_fin, r_kfe1, r_kcx, r_exps0, r_exps1, r_kex, r_exp1, r_expv2, r_round3, r_lt1, ptd, keyOf, freshK, lk, pt, addO, xv, kv, kc, ↓reduceIte, Nat.reduceEqDiff, Nat.reduceMul, reduceCtorEq, List.length_nil, Nat.reduceLT, true_and, and_true, noSh, isSc, impv, or_true, Bool.not_false]
        have : ¬ sortsOK sig sorts many := fun h => inB_not.1 hc (by
          have := (h.2 j hja hjs).2 (g0 sorts[j] i) (by simp [hia])
          exact this)
        rw [dc_false this]
      · simp only [r_cons, r_nil, r_kont, r_seq1, r_blk1, r_sk, r_rg, r_cd, r_cd2, r_op1, r_go1, r_mv, r_bi, r_add0, r_nt, r_nt1, r_fgt, r_clean, r_okm4, r_okE0, r_okE1, r_okL0, r_round1, r_lt1, ptd, keyOf, freshK, lk, pt, addO, xv, kv, kc, ↓reduceIte, Nat.reduceEqDiff, Nat.reduceMul, reduceCtorEq, List.length_nil, Nat.reduceLT, true_and, noSh, isSc, impv, memB, keepB, keepOB, or_true, Bool.false_eq_true, Bool.not_true, and_self]
        exact ⟨by rw [fits_i64]; omega, cntJ_intro () hia rfl (all_succ hB (inB_iff.1 hc))⟩
    · have : i = sorts[j].length := by omega
      subst this
      exact ⟨by rw [fits_i64]; omega, cntJ_intro () hja rfl (all_succ hA fun _ _ => ⟨heq2, fun n hn => by
        obtain ⟨k, hk, rfl⟩ := List.getElem_of_mem hn
        have := hB k hk
        simpa [hk] using this⟩)⟩
  · have : j = sorts.length := by omega
    subst this
    have : sortsOK sig sorts many := ⟨hE, fun k h h2 => hA k h h h2⟩
    rw [dc_true this]

theorem sem_l7Before (a b : A2) (lvl : Nat) (S : Sto) : Sem Go.Proofs.Tryd.prog fid_spec_l7Before lvl [.ag ((cA2 a).map .tr), .ag ((cA2 b).map .tr)] S (iB (dc (lt2 a b))) S := by
  refine sem_of_chk k_spec_l7Before trivial ?_
  simp only [c_spec_l7Before, cA2, r_cons, r_nil, r_kont, r_seq1, r_fn2, r_rg, r_sq, r_rt, r_wpF, r_op1, r_op1g, r_gd, r_gdu, r_go1, r_mv, r_bt, r_bt1, r_bi, r_eqi, r_lti, r_pk, r_pkt, r_pkf, r_op3, r_ixn, r_ja, r_ja1, r_ltr, r_ld, r_ld1, r_fin, r_kfe1, r_kcx, r_exps0, r_exps1, r_kex, r_exp1, r_expv2, r_lt1, ptd, lk, pt, xv, kv, kc, params, ↓reduceIte, Nat.reduceEqDiff, Nat.reduceMul, reduceCtorEq, List.length_cons, List.length_nil, Nat.reduceAdd, Nat.reduceLeDiff, Nat.reduceLT, true_and, and_true, decide_eq_true_eq, List.map_cons, List.map_nil, List.getElem?_cons_zero, List.drop_succ_cons, List.drop_zero, Bool.false_eq_true, Bool.true_eq_false, Bool.not_true, Bool.not_false, Int.toNat_zero, Int.toNat_one, Int.reduceLE, List.all_cons, List.all_nil, isCell, Bool.and_self, cellsOf, totr, totrs, tocs, Nat.zero_add]
  by_cases h1 : a.1 < b.1
  · simp only [h1, ↓reduceIte, decide_true, Bool.true_eq_false]
    have : lt2 a b := .inl h1
    rw [dc_true this]
  by_cases h2 : a.1 = b.1
  · have h3 : ¬ b.1 < b.1 := Int.lt_irrefl _
    simp only [h2, h3, ↓reduceIte, decide_false]
    have : lt2 a b ↔ a.2 < b.2 := ⟨fun h => by rcases h with h | h <;> omega, fun h => .inr ⟨h2, h⟩⟩
    rw [dc_congr this, dc_decide]
  · simp only [h1, h2, ↓reduceIte, decide_false]
    have : ¬ lt2 a b := fun h => by rcases h with h | h <;> omega
    rw [dc_false this]

theorem sortOK_iff {sig : List TControl} {s : TSorting} : sortOK sig s ↔ sigOK sig ∧ Ris 0 ((sig.length : Int) - 1) s.tops ∧ nestOK sig s.nest ∧ sortsOK sig s.sorts s.most.length ∧ (1 ≤ s.most.length ∧ s.most.length ≤ 4) ∧ (∀ n ∈ s.most, 0 ≤ n ∧ n ≤ 24) ∧ ∀ i, apartAt s.apart s.most.length i :=
  ⟨fun h => ⟨h.sg, h.tops, ⟨h.nestL, h.nest⟩, ⟨h.sortsL, h.sorts⟩, h.many, h.most, h.apart⟩, fun ⟨a, b, c, d, e, f, g⟩ => ⟨a, b, c.1, c.2, d.1, d.2, e, f, g⟩⟩

theorem sem_l7Good (sig : List TControl) (s : TSorting) (hn : sig.length ≤ 4294967296) (hbs : ∀ y ∈ sig, bdControl 4294967296 y) (hb : bdSorting 4294967296 s) (lvl : Nat) (S : Sto) : Sem Go.Proofs.Tryd.prog fid_spec_l7Good lvl [.tr (.sl (sig.map cControl)), .ag ((cSorting s).map .tr)] S (iB (dc (sortOK sig s))) S := by
  obtain ⟨b1, b2, b3, b4, b5, b6, b7⟩ := hb
  refine sem_of_chk k_spec_l7Good trivial ?_
  simp only [c_spec_l7Good, cSorting, r_cons, r_nil, r_kont, r_seq1, r_rg, r_sq, r_wpF, r_op1, r_mv, r_bt, r_bt1, r_kcn, r_sn0, r_sn1, r_ca, r_ca1, ptd, lk, pt, xv, kv, kc, params, ↓reduceIte, Nat.reduceEqDiff, reduceCtorEq, List.length_cons, List.length_nil, Nat.reduceAdd, Nat.reduceLeDiff, Nat.reduceLT, true_and, List.map_cons, List.map_nil, List.cons_append, List.nil_append, mens, men, List.all_cons, List.all_nil, isCell, Bool.and_true, Bool.and_self, cellsOf, totr, totrs, tocs, Nat.zero_add, and_self]
  refine kca_intro (sem_l2Sig sig (by omega) (fun y hy => monoControl (hbs y hy))) ?_
  cases h1 : dc (sigOK sig)
  · simp only [r_cons, r_nil, r_kont, r_seq1, r_seq3, r_fn2, r_rg, r_sq, r_rt, r_cd, r_cd2, r_op1, r_op1g, r_gd, r_go1, r_mv, r_nt, r_nt1, r_pk, r_pkt, r_fin, r_kfe1, r_kcx, r_exps0, r_exps1, r_kex, r_exp1, r_expv2, ptd, keyOf, freshK, lk, pt, addO, xv, kv, kc, ↓reduceIte, Nat.reduceEqDiff, Nat.reduceMul, reduceCtorEq, List.length_nil, Nat.reduceLT, true_and, and_true, noSh, isSc, impv, or_true, Bool.true_eq_false, Bool.not_false]
    rw [dc_false fun h => dc_not.1 h1 h.sg]
  simp only [r_cons, r_kont, r_op1, r_op1g, r_gd, r_go1, r_mv, r_nt, r_nt1, r_op3, r_fa, r_fa1, r_ltr, r_ld, r_ld1, r_kcn, r_sn0, r_sn1, r_ca, r_ca1, ptd, keyOf, freshK, lk, pt, addO, xv, ↓reduceIte, Nat.reduceEqDiff, Nat.reduceMul, reduceCtorEq, List.length_nil, Nat.reduceLT, true_and, List.map_cons, List.map_nil, List.cons_append, List.nil_append, List.getElem?_cons_zero, List.drop_zero, mens, men, noSh, isSc, impv, or_true, Bool.not_true, and_self]
  refine kca_intro (sem_l7Controls sig s.tops hn (by omega)) ?_
  cases h2 : dc (Ris 0 ((sig.length : Int) - 1) s.tops)
  · simp only [r_cons, r_nil, r_kont, r_seq1, r_seq3, r_fn2, r_rg, r_sq, r_rt, r_cd, r_cd2, r_op1, r_op1g, r_gd, r_go1, r_mv, r_nt, r_nt1, r_pk, r_pkt, r_pkf, r_fin, r_kfe1, r_kcx, r_exps0, r_exps1, r_kex, r_exp1, r_expv2, ptd, keyOf, freshK, lk, pt, addO, xv, kv, kc, ↓reduceIte, Nat.reduceEqDiff, Nat.reduceMul, reduceCtorEq, List.length_nil, Nat.reduceLT, true_and, and_true, noSh, isSc, impv, or_true, Bool.true_eq_false, Bool.not_false]
    rw [dc_false fun h => dc_not.1 h2 h.tops]
  simp only [r_cons, r_kont, r_op1, r_op1g, r_gd, r_go1, r_mv, r_nt, r_nt1, r_pk, r_pkf, r_op3, r_fa, r_fa1, r_ltr, r_ld, r_ld1, r_kcn, r_sn0, r_sn1, r_ca, r_ca1, ptd, keyOf, freshK, lk, pt, addO, xv, kv, kc, ↓reduceIte, Nat.reduceEqDiff, Nat.reduceMul, reduceCtorEq, List.length_nil, Nat.reduceLT, true_and, List.map_cons, List.map_nil, List.cons_append, List.nil_append, List.getElem?_cons_zero, List.drop_succ_cons, List.drop_zero, mens, men, noSh, isSc, impv, or_true, Bool.not_true, and_self]
  refine kca_intro (sem_l7Nest sig s.nest hn b2 b3) ?_
  cases h3 : dc (nestOK sig s.nest)
  · simp only [r_cons, r_nil, r_kont, r_seq1, r_seq3, r_fn2, r_rg, r_sq, r_rt, r_cd, r_cd2, r_op1, r_op1g, r_gd, r_go1, r_mv, r_nt, r_nt1, r_pk, r_pkt, r_pkf, r_fin, r_kfe1, r_kcx, r_exps0, r_exps1, r_kex, r_exp1, r_expv2, ptd, keyOf, freshK, lk, pt, addO, xv, kv, kc, ↓reduceIte, Nat.reduceEqDiff, Nat.reduceMul, reduceCtorEq, List.length_nil, Nat.reduceLT, true_and, and_true, noSh, isSc, impv, or_true, Bool.true_eq_false, Bool.not_false]
    rw [dc_false fun h => dc_not.1 h3 ⟨h.nestL, h.nest⟩]
  simp only [List.length_map, r_cons, r_kont, r_op1, r_op1g, r_gd, r_go1, r_mv, r_nt, r_nt1, r_ln, r_ln1, r_pk, r_pkf, r_op3, r_fa, r_fa1, r_ltr, r_ld, r_ld1, r_kcn, r_sn0, r_sn1, r_ca, r_ca1, ptd, keyOf, freshK, lk, pt, addO, xv, kv, kc, ↓reduceIte, Nat.reduceEqDiff, Nat.reduceMul, reduceCtorEq, List.length_nil, Nat.reduceLT, true_and, List.map_cons, List.map_nil, List.cons_append, List.nil_append, List.getElem?_cons_zero, List.drop_succ_cons, List.drop_zero, mens, men, noSh, isSc, impv, or_true, Bool.not_true, List.length_map, and_self]
  refine kca_intro (sem_l1In s.most.length 1 4) ?_
  cases h4 : inB s.most.length 1 4
  · simp only [r_cons, r_nil, r_kont, r_seq1, r_seq3, r_fn2, r_rg, r_sq, r_rt, r_cd, r_cd2, r_op1, r_op1g, r_gd, r_go1, r_mv, r_nt, r_nt1, r_pk, r_pkt, r_pkf, r_fin, r_kfe1, r_kcx, r_exps0, r_exps1, r_kex, r_exp1, r_expv2, ptd, keyOf, freshK, lk, pt, addO, xv, kv, kc, ↓reduceIte, Nat.reduceEqDiff, Nat.reduceMul, reduceCtorEq, List.length_nil, Nat.reduceLT, true_and, and_true, noSh, isSc, impv, or_true, Bool.true_eq_false, Bool.not_false]
    rw [dc_false fun h => inB_not.1 h4 (by have := h.many; omega)]
  simp only [List.length_map, r_cons, r_kont, r_op1, r_op1g, r_gd, r_go1, r_mv, r_nt, r_nt1, r_ln, r_ln1, r_pk, r_pkf, r_op3, r_fa, r_fa1, r_ltr, r_ld, r_ld1, r_kcn, r_sn0, r_sn1, r_ca, r_ca1, ptd, keyOf, freshK, lk, pt, addO, xv, kv, kc, ↓reduceIte, Nat.reduceEqDiff, Nat.reduceMul, reduceCtorEq, List.length_nil, Nat.reduceLT, true_and, List.map_cons, List.map_nil, List.cons_append, List.nil_append, List.getElem?_cons_zero, List.drop_succ_cons, List.drop_zero, mens, men, noSh, isSc, impv, or_true, Bool.not_true, List.length_map, and_self]
  refine kca_intro (sem_l7Sorts sig s.sorts s.most.length b6 hn b4 b5) ?_
  cases h5 : dc (sortsOK sig s.sorts s.most.length)
  · simp only [r_cons, r_nil, r_kont, r_seq1, r_seq3, r_fn2, r_rg, r_sq, r_rt, r_cd, r_cd2, r_op1, r_op1g, r_gd, r_go1, r_mv, r_nt, r_nt1, r_pk, r_pkf, r_fin, r_kfe1, r_kcx, r_exps0, r_exps1, r_kex, r_exp1, r_expv2, ptd, keyOf, freshK, lk, pt, addO, xv, kv, kc, ↓reduceIte, Nat.reduceEqDiff, Nat.reduceMul, reduceCtorEq, List.length_nil, Nat.reduceLT, true_and, and_true, noSh, isSc, impv, or_true, Bool.not_false]
    rw [dc_false fun h => dc_not.1 h5 ⟨h.sortsL, h.sorts⟩]
  simp only [r_cons, r_nil, r_kont, r_seq1, r_sk, r_rg, r_sq, r_bl, r_cd, r_cd2, r_op1, r_op1g, r_gd, r_go1, r_mv, r_nt, r_nt1, r_pk, r_pkf, ptd, keyOf, freshK, lk, pt, addO, xv, kv, kc, ↓reduceIte, Nat.reduceEqDiff, Nat.reduceMul, reduceCtorEq, List.length_nil, Nat.reduceLT, true_and, noSh, isSc, impv, or_true, Bool.false_eq_true, Bool.not_true]
  refine wp_cnt (α := Unit) s.most.length (fun j _ => [(5, iI j)]) (fun j _ => []) (fun j _ => ∀ k, k < j → 0 ≤ g0 s.most k ∧ g0 s.most k ≤ 24) () (by simp only [r_clean, r_okm4, r_okm11, r_okE0, r_okE1, r_okL0, ↓reduceIte, Nat.reduceEqDiff, reduceCtorEq, memB, keepB, keepOB, Bool.false_eq_true, and_self]) (by (simp only [r_fgt, r_chg, r_pts0, r_pts1, r_ptOs0, pt, ↓reduceIte, Nat.reduceEqDiff, reduceCtorEq, Nat.reduceLT, memB, keepB, keepOB, Bool.false_eq_true, Int.cast_ofNat_Int]) <;> rfl) (fun k hk => absurd hk (Nat.not_lt_zero k)) ?_
  intro j _ hj hA
  simp only [List.length_map, r_cons, r_nil, r_kont, r_seq1, r_seq2, r_blk2, r_sk, r_rg, r_sq, r_bl, r_ex, r_cd, r_cd2, r_op1, r_go1, r_mv, r_bi, r_lti, r_ln, r_ln1, r_op3, r_fa, r_fa1, r_ixn, r_ia, r_ia1, r_ltr, r_ld, r_ld1, r_fgt, r_round2, r_chg, r_pts0, r_pts1, r_ptOs0, ptd, lk, pt, xv, kv, kc, ↓reduceIte, Nat.reduceEqDiff, reduceCtorEq, Nat.reduceLT, true_and, decide_eq_true_eq, List.getElem?_cons_zero, List.drop_succ_cons, List.drop_zero, memB, keepB, keepOB, Bool.false_eq_true, Int.toNat_natCast, Int.natCast_nonneg, List.length_map]
  refine ite_of (fun hlt => ?_) (fun hge => ?_)
  · have hja : j < s.most.length := by omega
    have ga := rI_get hja
    simp only [ga, r_cons, r_kont, r_op1, r_go1, r_op3, r_iae, r_ltr, r_ld, r_ld1, r_kcn, r_sn0, r_sn1, r_ca, r_ca1, ptd, lk, pt, xv, kv, kc, ↓reduceIte, Nat.reduceEqDiff, List.length_cons, List.length_nil, Nat.reduceLT, true_and, List.map_cons, List.map_nil, List.cons_append, List.nil_append, List.getElem?_cons_zero, mens, men, Nat.zero_add, and_self]
    refine kca_intro (sem_l1In (g0 s.most j) 0 24) ?_
    cases hc : inB (g0 s.most j) 0 24
    · simp only [r_cons, r_nil, r_kont, r_seq1, r_seq3, r_blk3, r_fn2, r_rg, r_sq, r_rt, r_cd, r_cd2, r_op1, r_go1, r_mv, r_nt, r_nt1, r_fin, r_kfe1, r_kcx, r_exps0, r_exps1, r_kex, r_exp1, r_expv2, r_round3, r_lt1, ptd, keyOf, freshK, lk, pt, addO, xv, kv, kc, ↓reduceIte, Nat.reduceEqDiff, Nat.reduceMul, List.length_nil, Nat.reduceLT, true_and, and_true, noSh, isSc, impv, or_true, Bool.not_false]
      rw [dc_false fun h => inB_not.1 hc (h.most _ (by simp [hja]))]
    · simp only [r_cons, r_nil, r_kont, r_seq1, r_blk1, r_sk, r_rg, r_cd, r_cd2, r_op1, r_go1, r_mv, r_bi, r_add0, r_nt, r_nt1, r_fgt, r_clean, r_okm4, r_okm11, r_okE0, r_okE1, r_okL0, r_round1, r_lt1, ptd, keyOf, freshK, lk, pt, addO, xv, kv, kc, ↓reduceIte, Nat.reduceEqDiff, Nat.reduceMul, List.length_nil, Nat.reduceLT, true_and, noSh, isSc, impv, memB, keepB, keepOB, or_true, Bool.false_eq_true, Bool.not_true, and_self]
      exact ⟨by rw [fits_i64]; omega, cntJ_intro () hja rfl (all_succ hA (inB_iff.1 hc))⟩
  have hj0 : j = s.most.length := by omega
  subst hj0
  have hM : ∀ n ∈ s.most, 0 ≤ n ∧ n ≤ 24 := fun n hn => by
    obtain ⟨k, hk, rfl⟩ := List.getElem_of_mem hn
    have := hA k hk
    simpa [hk] using this
  refine wp_cnt (α := Unit) s.apart.length (fun j _ => [(6, iI j)]) (fun j _ => []) (fun j _ => ∀ k, k < j → apartAt s.apart s.most.length k) () (by simp only [r_clean, r_okm4, r_okm11, r_okE0, r_okE1, r_okL0, ↓reduceIte, Nat.reduceEqDiff, memB, keepB, keepOB, Bool.false_eq_true, and_self]) (by (simp only [r_fgt, r_chg, r_pts0, r_pts1, r_ptOs0, pt, ↓reduceIte, Nat.reduceEqDiff, Nat.reduceLT, memB, keepB, keepOB, Bool.false_eq_true, Int.cast_ofNat_Int]) <;> rfl) (fun k hk => absurd hk (Nat.not_lt_zero k)) ?_
  intro j _ hj hB
  simp only [List.length_map, r_cons, r_nil, r_kont, r_seq1, r_seq2, r_blk2, r_fn2, r_sk, r_rg, r_sq, r_bl, r_ex, r_rt, r_cd, r_cd2, r_op1, r_go1, r_mv, r_bi, r_lti, r_ln, r_ln1, r_op3, r_fa, r_fa1, r_ixn, r_ia, r_ia1, r_ltr, r_ld, r_ld1, r_fin, r_kfe1, r_kcx, r_exps0, r_exps1, r_kex, r_exp1, r_expv2, r_fgt, r_round2, r_chg, r_pts0, r_pts1, r_ptOs0, ptd, lk, pt, xv, kv, kc, ↓reduceIte, Nat.reduceEqDiff, Nat.reduceLT, true_and, and_true, decide_eq_true_eq, List.getElem?_cons_zero, List.drop_succ_cons, List.drop_zero, memB, keepB, keepOB, Bool.false_eq_true, Int.toNat_natCast, Int.natCast_nonneg, List.length_map]
  refine ite_of (fun hlt => ?_) (fun hge => ?_)
  · have hja : j < s.apart.length := by omega
    have ga := getA (c := cA2) hja
    have hno : ¬ apartAt s.apart s.most.length j → dc (sortOK sig s) = false := fun h => dc_false fun g => h (g.apart j)
    simp only [ga, List.length_map, cA2, r_cons, r_nil, r_kont, r_seq1, r_seq3, r_blk1, r_blk3, r_fn2, r_sk, r_rg, r_sq, r_rt, r_cd, r_cd2, r_op1, r_op1g, r_gd, r_gdu, r_go1, r_mv, r_al, r_bi, r_add0, r_sub0, r_lti, r_gti, r_gei, r_ln, r_ln1, r_pk, r_pkt, r_pkf, r_op3, r_fa, r_fa1, r_ixn, r_ia, r_iae, r_ia1, r_ja, r_ja2, r_pack, r_setOb, r_ltr, r_lab, r_ld, r_ld1, r_ld2, r_ld4, r_fin, r_kfe1, r_kcx, r_exps0, r_exps1, r_kex, r_exp1, r_expv2, r_fgt, r_clean, r_okm4, r_okm11, r_okE0, r_okE1, r_okL0, r_round1, r_round3, r_st, r_st1, r_stb, r_setAt0, r_setAt1, r_lows0, r_lows1, r_low1, r_lt1, zfill, zobs, ptd, keyOf, freshK, lk, pt, lkO, ptO, addO, xv, kv, kc, ↓reduceIte, Nat.reduceEqDiff, Nat.reduceMul, List.length_cons, List.length_nil, Nat.reduceAdd, Nat.reduceLT, true_and, and_true, decide_eq_true_eq, List.map_cons, List.map_nil, List.getElem?_cons_zero, List.getElem?_cons_succ, List.drop_succ_cons, List.drop_zero, List.take_succ_cons, List.take_zero, memB, keepB, keepOB, Bool.false_eq_true, Bool.true_eq_false, Bool.not_true, Bool.not_false, Int.toNat_zero, Int.toNat_one, Int.reduceLE, List.all_cons, List.all_nil, isCell, Bool.and_self, cellsOf, Nat.zero_add, Nat.add_zero, List.set_cons_zero, List.set_cons_succ, Nat.le_refl, List.length_map, and_self]
    by_cases q1 : s.apart[j].1 < 0
    · simp only [q1, ↓reduceIte, decide_true, Bool.true_eq_false]
      rw [hno fun h => by have := (h hja).1; omega]
    by_cases q2 : s.apart[j].1 ≥ s.apart[j].2
    · simp only [q1, q2, ↓reduceIte, decide_true, decide_false, Bool.true_eq_false]
      rw [hno fun h => by have := (h hja).2.1; omega]
    by_cases q3 : s.apart[j].2 ≥ (s.most.length : Int)
    · simp only [q1, q2, q3, ↓reduceIte, decide_true, decide_false, Bool.true_eq_false]
      rw [hno fun h => by have := (h hja).2.2.1; omega]
    by_cases q4 : 0 < j
    · have e1 : ((j : Int) - 1).toNat = j - 1 := by omega
      have e2 : (0 : Int) ≤ j - 1 := by omega
      have q5 : (0 : Int) < j := by omega
      have gb := getA (c := cA2) (l := s.apart) (j := j - 1) (by omega)
      simp only [q1, q2, q3, q5, e1, e2, gb, cA2, r_cons, r_kont, r_op1g, r_gd, r_go1, r_op3, r_iae, r_pack, r_ld, r_ld4, r_labm, r_ld5, r_kcn, r_kagn, r_sn0, r_sn1, r_sn3, r_ca, r_ca1, ptd, lk, pt, lkO, xv, ↓reduceIte, Nat.reduceEqDiff, List.length_cons, List.length_nil, Nat.reduceAdd, Nat.reduceLT, true_and, decide_true, decide_false, List.map_cons, List.map_nil, List.cons_append, List.nil_append, List.drop_zero, List.take_succ_cons, List.take_zero, mens, men, Nat.zero_add, Nat.le_refl, and_self]
      refine ⟨by rw [fits_i64]; omega, ?_⟩
      refine kca_intro (sem_l7Before (s.apart[j - 1]'(by omega)) s.apart[j]) ?_
      cases hc : dc (lt2 (s.apart[j - 1]'(by omega)) s.apart[j])
      · simp only [r_cons, r_nil, r_kont, r_seq1, r_seq3, r_blk3, r_fn2, r_rg, r_sq, r_rt, r_cd, r_cd2, r_op1, r_op1g, r_gd, r_go1, r_mv, r_nt, r_nt1, r_pk, r_pkt, r_pkf, r_fin, r_kfe1, r_kcx, r_exps0, r_exps1, r_kex, r_exp1, r_expv2, r_round3, ptd, keyOf, freshK, lk, pt, addO, xv, kv, kc, ↓reduceIte, Nat.reduceEqDiff, Nat.reduceMul, List.length_nil, Nat.reduceLT, true_and, and_true, noSh, isSc, impv, or_true, Bool.not_false]
        rw [hno fun h => dc_not.1 hc ((h hja).2.2.2 q4)]
      · simp only [r_cons, r_nil, r_kont, r_seq1, r_blk1, r_sk, r_rg, r_cd, r_cd2, r_op1, r_op1g, r_gd, r_go1, r_mv, r_bi, r_add0, r_nt, r_nt1, r_pk, r_pkt, r_pkf, r_fgt, r_clean, r_okm4, r_okm11, r_okE0, r_okE1, r_okL0, r_round1, r_lt1, ptd, keyOf, freshK, lk, pt, addO, xv, kv, kc, ↓reduceIte, Nat.reduceEqDiff, Nat.reduceMul, List.length_nil, Nat.reduceLT, true_and, noSh, isSc, impv, memB, keepB, keepOB, or_true, Bool.false_eq_true, Bool.not_true, and_self]
        exact ⟨by rw [fits_i64]; omega, cntJ_intro () hja rfl (all_succ hB fun _ => ⟨by omega, by omega, by omega, fun _ => dc_iff.1 hc⟩)⟩
    · have q5 : ¬ (0 : Int) < j := by omega
      simp only [q1, q2, q3, q5, ↓reduceIte, decide_false]
      exact ⟨by rw [fits_i64]; omega, cntJ_intro () hja rfl (all_succ hB fun _ => ⟨by omega, by omega, by omega, fun h => absurd h q4⟩)⟩
  · have hj1 : j = s.apart.length := by omega
    subst hj1
    rw [dc_true (sortOK_iff.2 ⟨dc_iff.1 h1, dc_iff.1 h2, dc_iff.1 h3, dc_iff.1 h5, by have := inB_iff.1 h4; omega, hM, fun i h => hB i h h⟩)]

end Go.Fd

/-
  A VALID SORTING, THE PROGRAM'S SIDE. Own work.
-/
namespace Go.Fd
set_option maxRecDepth 20000

def cmp2 (a b : A2) : Int := cmpL [a.1, a.2] [b.1, b.2]

theorem cmp2_lt {a b : A2} : cmp2 a b < 0 ↔ lt2 a b := by
  unfold cmp2 lt2
  simp only [cmpL]
  by_cases h1 : a.1 < b.1
  · simp [h1]
  · by_cases h2 : b.1 < a.1
    · simp [h1, h2]; omega
    · by_cases h3 : a.2 < b.2
      · simp [h1, h2, h3]; omega
      · by_cases h4 : b.2 < a.2 <;> simp [h1, h2, h3, h4]

theorem sem_comparePairs (a b : A2) (lvl : Nat) (S : Sto) : Sem Go.Proofs.Tryd.prog fid_impl_comparePairs lvl [.ag ((cA2 a).map .tr), .ag ((cA2 b).map .tr)] S (iI (cmp2 a b)) S := by
  refine sem_of_chk k_impl_comparePairs trivial ?_
  simp only [c_impl_comparePairs, cA2, r_cons, r_nil, r_kont, r_seq1, r_rg, r_sq, r_wpF, r_op1, r_go1, r_mv, r_bt, r_bt1, r_sa, r_sa1, r_kcn, r_sn0, r_sn2, r_ca, r_ca1, ptd, lk, pt, xv, kv, kc, params, ↓reduceIte, Nat.reduceEqDiff, reduceCtorEq, List.length_cons, List.length_nil, Nat.reduceAdd, Nat.reduceLeDiff, Nat.reduceLT, true_and, List.map_cons, List.map_nil, List.cons_append, List.nil_append, List.take_succ_cons, List.take_zero, mens, men, List.all_cons, List.all_nil, isCell, Bool.and_self, cellsOf, totr, totrs, tocs, Nat.zero_add, Nat.le_refl, and_self]
  refine kca_intro (sem_Compare [a.1, a.2] [b.1, b.2] (by simp) (by simp)) ?_
  simp only [r_cons, r_nil, r_kont, r_seq1, r_fn2, r_rt, r_op1, r_mv, r_fin, r_kfe1, r_kcx, r_exps0, r_exps1, r_kex, r_exp1, r_expv2, ptd, keyOf, freshK, lk, pt, addO, xv, ↓reduceIte, Nat.reduceEqDiff, Nat.reduceMul, reduceCtorEq, List.length_nil, Nat.reduceLT, true_and, and_true, noSh, isSc, impv, or_true]
  rfl

def apartOK (l : List A2) (many : Nat) : Prop := ∀ i, apartAt l many i

theorem sem_arePairs (l : List A2) (many : Nat) (hm : many ≤ 4294967296) (hl : l.length ≤ 4294967296) (lvl : Nat) (S : Sto) : Sem Go.Proofs.Tryd.prog fid_impl_arePairs lvl [.tr (.sl (l.map cA2)), iI many] S (iB (dc (apartOK l many))) S := by
  refine sem_of_chk k_impl_arePairs trivial ?_
  simp only [c_impl_arePairs, List.length_map, r_cons, r_nil, r_kont, r_seq1, r_rg, r_sq, r_bl, r_wpF, r_op1, r_go1, r_mv, r_ln, r_ln1, ptd, lk, pt, xv, kv, kc, params, ↓reduceIte, Nat.reduceEqDiff, reduceCtorEq, List.length_cons, List.length_nil, Nat.reduceAdd, Nat.reduceLeDiff, Nat.reduceLT, true_and, Nat.zero_add, List.length_map]
  refine wp_cnt (α := Unit) l.length (fun j _ => [(9, iI j)]) (fun j _ => []) (fun j _ => ∀ k, k < j → apartAt l many k) () (by simp only [r_clean, r_okm4, r_okE0, r_okE1, r_okL0, ↓reduceIte, Nat.reduceEqDiff, reduceCtorEq, memB, keepB, keepOB, Bool.false_eq_true, and_self]) (by (simp only [r_fgt, r_chg, r_pts0, r_pts1, r_ptOs0, pt, ↓reduceIte, Nat.reduceEqDiff, reduceCtorEq, Nat.reduceLT, memB, keepB, keepOB, Bool.false_eq_true, Int.cast_ofNat_Int]) <;> rfl) (fun k hk => absurd hk (Nat.not_lt_zero k)) ?_
  intro j _ hj hB
  simp only [r_cons, r_nil, r_kont, r_seq1, r_seq2, r_blk2, r_fn2, r_sk, r_rg, r_sq, r_bl, r_ex, r_rt, r_cd, r_cd2, r_op1, r_go1, r_mv, r_bi, r_lti, r_ixn, r_ia, r_ia1, r_fin, r_kfe1, r_kcx, r_exps0, r_exps1, r_kex, r_exp1, r_expv2, r_fgt, r_round2, r_chg, r_pts0, r_pts1, r_ptOs0, ptd, lk, pt, xv, kv, kc, ↓reduceIte, Nat.reduceEqDiff, reduceCtorEq, Nat.reduceLT, true_and, and_true, decide_eq_true_eq, memB, keepB, keepOB, Bool.false_eq_true, Int.toNat_natCast, Int.natCast_nonneg]
  refine ite_of (fun hlt => ?_) (fun hge => ?_)
  · have hja : j < l.length := by omega
    have ga := getA (c := cA2) hja
    have hno : ¬ apartAt l many j → dc (apartOK l many) = false := fun h => dc_false fun g => h (g j)
    simp only [ga, cA2, r_cons, r_nil, r_kont, r_seq1, r_rg, r_sq, r_op1, r_go1, r_mv, r_al, r_bi, r_sub1, r_op3, r_ixn, r_iae, r_ja, r_ja2, r_pack, r_setOb, r_lab, r_ld, r_ld2, r_ld4, r_kcn, r_sn0, r_sn1, r_ca, r_ca1, r_st, r_st1, r_stb, r_setAt0, r_setAt1, r_lows0, r_lows1, r_low1, r_lt1, zfill, zobs, ptd, keyOf, freshK, lk, pt, lkO, ptO, addO, xv, kv, kc, ↓reduceIte, Nat.reduceEqDiff, Nat.reduceMul, reduceCtorEq, List.length_cons, List.length_nil, Nat.reduceAdd, Nat.reduceLT, true_and, List.map_cons, List.map_nil, List.cons_append, List.nil_append, List.getElem?_cons_zero, List.getElem?_cons_succ, List.take_succ_cons, List.take_zero, mens, men, Int.toNat_zero, Int.toNat_one, Int.reduceLE, List.all_cons, List.all_nil, isCell, Bool.and_self, cellsOf, Nat.zero_add, Nat.add_zero, List.set_cons_zero, List.set_cons_succ, Nat.le_refl, and_self]
    refine kca_intro (sem_within l[j].1 0 (IntKind.wrap .i64 (l[j].2 - 1))) ?_
    cases p1 : inB l[j].1 0 (IntKind.wrap .i64 (l[j].2 - 1))
    · simp only [r_cons, r_nil, r_kont, r_seq1, r_seq3, r_blk3, r_fn2, r_rg, r_sq, r_rt, r_cd, r_cd2, r_op1, r_op1g, r_gd, r_gdu, r_go1, r_mv, r_nt, r_nt1, r_pk, r_pkt, r_fin, r_kfe1, r_kcx, r_exps0, r_exps1, r_kex, r_exp1, r_expv2, r_round3, r_lt1, ptd, keyOf, freshK, lk, pt, addO, xv, kv, kc, ↓reduceIte, Nat.reduceEqDiff, Nat.reduceMul, reduceCtorEq, List.length_nil, Nat.reduceLT, true_and, and_true, noSh, isSc, impv, or_true, Bool.true_eq_false, Bool.not_false]
      rw [hno fun h => inB_not.1 p1 (by
        have h2 := h hja
        rw [wrap_fits (by rw [fits_i64]; omega)]
        omega)]
    simp only [r_cons, r_kont, r_op1, r_op1g, r_gd, r_go1, r_mv, r_bi, r_sub0, r_nt, r_nt1, r_op3, r_ixn, r_ja, r_ja2, r_pack, r_lab, r_ld, r_ld2, r_kcn, r_sn0, r_sn1, r_ca, r_ca1, r_lt1, ptd, keyOf, freshK, lk, pt, lkO, addO, xv, kv, kc, ↓reduceIte, Nat.reduceEqDiff, Nat.reduceMul, reduceCtorEq, List.length_nil, Nat.reduceLT, true_and, List.map_cons, List.map_nil, List.cons_append, List.nil_append, List.getElem?_cons_zero, List.getElem?_cons_succ, mens, men, noSh, isSc, impv, or_true, Bool.not_true, Int.toNat_one, Int.reduceLE, Nat.zero_add, and_self]
    refine ⟨by rw [fits_i64]; omega, ?_⟩
    refine kca_intro (sem_within l[j].2 0 ((many : Int) - 1)) ?_
    cases p2 : inB l[j].2 0 ((many : Int) - 1)
    · simp only [r_cons, r_nil, r_kont, r_seq1, r_seq3, r_blk3, r_fn2, r_rg, r_sq, r_rt, r_cd, r_cd2, r_op1, r_op1g, r_gd, r_gdu, r_go1, r_mv, r_nt, r_nt1, r_pk, r_pkt, r_pkf, r_fin, r_kfe1, r_kcx, r_exps0, r_exps1, r_kex, r_exp1, r_expv2, r_round3, r_lt1, ptd, keyOf, freshK, lk, pt, addO, xv, kv, kc, ↓reduceIte, Nat.reduceEqDiff, Nat.reduceMul, reduceCtorEq, List.length_nil, Nat.reduceLT, true_and, and_true, noSh, isSc, impv, or_true, Bool.true_eq_false, Bool.not_false]
      rw [hno fun h => inB_not.1 p2 (by
        have h2 := h hja
        omega)]
    have r2 := inB_iff.1 p2
    have r1 := inB_iff.1 p1
    rw [wrap_fits (by rw [fits_i64]; omega)] at r1
    by_cases q4 : 0 < j
    · have e1 : ((j : Int) - 1).toNat = j - 1 := by omega
      have e2 : (0 : Int) ≤ j - 1 := by omega
      have q5 : (0 : Int) < j := by omega
      have gb := getA (c := cA2) (l := l) (j := j - 1) (by omega)
      simp only [q5, e1, e2, gb, cA2, r_cons, r_kont, r_op1, r_op1g, r_gd, r_go1, r_mv, r_bi, r_sub0, r_gti, r_nt, r_nt1, r_pk, r_pkf, r_op3, r_ixn, r_ia, r_iae, r_ia1, r_pack, r_ld, r_ld4, r_labm, r_ld5, r_kcn, r_kagn, r_sn0, r_sn1, r_sn3, r_ca, r_ca1, ptd, keyOf, freshK, lk, pt, lkO, addO, xv, kv, kc, ↓reduceIte, Nat.reduceEqDiff, Nat.reduceMul, reduceCtorEq, List.length_cons, List.length_nil, Nat.reduceAdd, Nat.reduceLT, true_and, decide_true, List.map_cons, List.map_nil, List.cons_append, List.nil_append, List.drop_zero, List.take_succ_cons, List.take_zero, mens, men, noSh, isSc, impv, or_true, Bool.not_true, Nat.zero_add, Nat.le_refl, and_self]
      refine ⟨by rw [fits_i64]; omega, ?_⟩
      refine kca_intro (sem_comparePairs (l[j - 1]'(by omega)) l[j]) ?_
      by_cases hc : 0 ≤ cmp2 (l[j - 1]'(by omega)) l[j]
      · simp only [hc, r_cons, r_nil, r_kont, r_seq1, r_seq3, r_blk3, r_fn2, r_rg, r_sq, r_rt, r_cd, r_cd2, r_op1, r_op1g, r_gd, r_go1, r_mv, r_bi, r_gei, r_pk, r_pkt, r_pkf, r_fin, r_kfe1, r_kcx, r_exps0, r_exps1, r_kex, r_exp1, r_expv2, r_round3, r_lt1, ptd, keyOf, freshK, lk, pt, addO, xv, kv, kc, ↓reduceIte, Nat.reduceEqDiff, Nat.reduceMul, reduceCtorEq, List.length_nil, Nat.reduceLT, true_and, and_true, decide_true, noSh, isSc, impv, or_true]
        rw [hno fun h => by
          have := cmp2_lt.2 ((h hja).2.2.2 q4)
          omega]
      · have hc2 : cmp2 (l[j - 1]'(by omega)) l[j] < 0 := by omega
        simp only [hc, r_cons, r_nil, r_kont, r_seq1, r_blk1, r_sk, r_rg, r_cd, r_cd2, r_op1, r_op1g, r_gd, r_go1, r_mv, r_bi, r_add0, r_gei, r_pk, r_pkt, r_pkf, r_fgt, r_clean, r_okm4, r_okE0, r_okE1, r_okL0, r_round1, ptd, keyOf, freshK, lk, pt, addO, xv, kv, kc, ↓reduceIte, Nat.reduceEqDiff, Nat.reduceMul, reduceCtorEq, List.length_nil, Nat.reduceLT, true_and, decide_false, noSh, isSc, impv, memB, keepB, keepOB, or_true, Bool.false_eq_true, and_self]
        exact ⟨by rw [fits_i64]; omega, cntJ_intro () hja rfl (all_succ hB fun _ => ⟨by omega, by omega, by omega, fun _ => cmp2_lt.1 hc2⟩)⟩
    · have q5 : ¬ (0 : Int) < j := by omega
      simp only [q5, r_cons, r_nil, r_kont, r_seq1, r_blk1, r_sk, r_rg, r_cd, r_cd2, r_op1, r_op1g, r_gd, r_go1, r_mv, r_bi, r_add0, r_gti, r_nt, r_nt1, r_pk, r_pkf, r_fgt, r_clean, r_okm4, r_okE0, r_okE1, r_okL0, r_round1, ptd, keyOf, freshK, lk, pt, addO, xv, kv, kc, ↓reduceIte, Nat.reduceEqDiff, Nat.reduceMul, reduceCtorEq, List.length_nil, Nat.reduceLT, true_and, decide_false, noSh, isSc, impv, memB, keepB, keepOB, or_true, Bool.false_eq_true, Bool.not_true, and_self]
      exact ⟨by rw [fits_i64]; omega, cntJ_intro () hja rfl (all_succ hB fun _ => ⟨by omega, by omega, by omega, fun h => absurd h q4⟩)⟩
  · have hj1 : j = l.length := by omega
    subst hj1
    have : apartOK l many := fun i h => hB i h h
    rw [dc_true this]

theorem sem_IsSorting_1 (n : Int) (lvl : Nat) (S : Sto) : Sem Go.Proofs.Tryd.prog fid_impl_IsSorting_1 lvl [iI n] S (iB (!inB n 0 24)) S := by
  refine sem_of_chk k_impl_IsSorting_1 trivial ?_
  simp only [c_impl_IsSorting_1, r_cons, r_nil, r_kont, r_seq1, r_rg, r_sq, r_wpF, r_op1, r_mv, r_kcn, r_sn0, r_sn1, r_ca, r_ca1, ptd, lk, pt, xv, kv, kc, params, ↓reduceIte, Nat.reduceEqDiff, reduceCtorEq, List.length_cons, List.length_nil, Nat.reduceLeDiff, Nat.reduceLT, true_and, List.map_cons, List.map_nil, List.cons_append, List.nil_append, mens, men, Nat.zero_add, and_self]
  refine kca_intro (sem_within n 0 24) ?_
  simp only [r_cons, r_nil, r_kont, r_seq1, r_fn2, r_rt, r_op1, r_go1, r_mv, r_nt, r_nt1, r_fin, r_kfe1, r_kcx, r_exps0, r_exps1, r_kex, r_exp1, r_expv2, ptd, keyOf, freshK, lk, pt, addO, xv, ↓reduceIte, Nat.reduceEqDiff, Nat.reduceMul, reduceCtorEq, List.length_nil, Nat.reduceLT, noSh, isSc, impv, or_true, and_self]

theorem sem_IsSorting_2 (n : Int) (s : TSorting) (hm : s.most.length ≤ 4294967296) (lvl : Nat) (S : Sto) : Sem Go.Proofs.Tryd.prog fid_impl_IsSorting_2 lvl [iI n, .ta (cSorting s)] S (iB (!inB n 0 ((s.most.length : Int) - 1))) S := by
  refine sem_of_chk k_impl_IsSorting_2 trivial ?_
  simp only [c_impl_IsSorting_2, cSorting, List.length_map, r_cons, r_nil, r_kont, r_seq1, r_rg, r_sq, r_wpF, r_op1, r_go1, r_mv, r_bi, r_sub0, r_ln, r_ln1, r_op3, r_fa, r_fa1, r_ltr, r_ld, r_ld1, r_kcn, r_sn0, r_sn1, r_ca, r_ca1, ptd, lk, pt, xv, kv, kc, params, ↓reduceIte, Nat.reduceEqDiff, reduceCtorEq, List.length_cons, List.length_nil, Nat.reduceAdd, Nat.reduceLeDiff, Nat.reduceLT, true_and, List.map_cons, List.map_nil, List.cons_append, List.nil_append, List.getElem?_cons_zero, List.drop_succ_cons, List.drop_zero, mens, men, Nat.zero_add, List.length_map, and_self]
  refine ⟨by rw [fits_i64]; omega, ?_⟩
  refine kca_intro (sem_within n 0 ((s.most.length : Int) - 1)) ?_
  simp only [r_cons, r_nil, r_kont, r_seq1, r_fn2, r_rt, r_op1, r_go1, r_mv, r_nt, r_nt1, r_fin, r_kfe1, r_kcx, r_exps0, r_exps1, r_kex, r_exp1, r_expv2, ptd, keyOf, freshK, lk, pt, addO, xv, ↓reduceIte, Nat.reduceEqDiff, Nat.reduceMul, reduceCtorEq, List.length_nil, Nat.reduceLT, noSh, isSc, impv, or_true, and_self]

theorem g_ixFI : chkF Go.Proofs.Tryd.prog fid_slices_IndexFunc_int_int (gIxF 1 none) = true := by kernel_rfl
theorem g_coFI : chkF Go.Proofs.Tryd.prog fid_slices_ContainsFunc_int_int (gCoF fid_slices_IndexFunc_int_int) = true := by kernel_rfl

theorem any_out {l : List Int} {a b : Int} : (l.any fun n => !inB n a b) = false ↔ ∀ n ∈ l, a ≤ n ∧ n ≤ b := by
  simp only [List.any_eq_false, Bool.not_eq_true', Bool.not_eq_false, inB_iff]

theorem sem_impl_IsSorting (sig : List TControl) (s : TSorting) (hn : sig.length ≤ 4294967296) (hbs : ∀ y ∈ sig, bdControl 4294967296 y) (hb : bdSorting 4294967296 s) (lvl : Nat) (S : Sto) : Sem Go.Proofs.Tryd.prog fid_impl_IsSorting lvl [.tr (.sl (sig.map cControl)), .ag ((cSorting s).map .tr)] S (iB (dc (sortOK sig s))) S := by
  obtain ⟨b1, b2, b3, b4, b5, b6, b7⟩ := hb
  refine sem_of_chk k_impl_IsSorting trivial ?_
  simp only [c_impl_IsSorting, cSorting, r_cons, r_nil, r_kont, r_seq1, r_rg, r_sq, r_wpF, r_op1, r_mv, r_bt, r_bt1, r_kcn, r_sn0, r_sn1, r_ca, r_ca1, ptd, lk, pt, xv, kv, kc, params, ↓reduceIte, Nat.reduceEqDiff, reduceCtorEq, List.length_cons, List.length_nil, Nat.reduceAdd, Nat.reduceLeDiff, Nat.reduceLT, true_and, List.map_cons, List.map_nil, List.cons_append, List.nil_append, mens, men, List.all_cons, List.all_nil, isCell, Bool.and_true, Bool.and_self, cellsOf, totr, totrs, tocs, Nat.zero_add, and_self]
  refine kca_intro (sem_impl_IsSignature sig (by omega) (fun y hy => monoControl (hbs y hy))) ?_
  cases h1 : dc (sigOK sig)
  · simp only [r_cons, r_nil, r_kont, r_seq1, r_seq3, r_fn2, r_rg, r_sq, r_rt, r_cd, r_cd2, r_op1, r_op1g, r_gd, r_go1, r_mv, r_nt, r_nt1, r_pk, r_pkt, r_fin, r_kfe1, r_kcx, r_exps0, r_exps1, r_kex, r_exp1, r_expv2, ptd, keyOf, freshK, lk, pt, addO, xv, kv, kc, ↓reduceIte, Nat.reduceEqDiff, Nat.reduceMul, reduceCtorEq, List.length_nil, Nat.reduceLT, true_and, and_true, noSh, isSc, impv, or_true, Bool.true_eq_false, Bool.not_false]
    rw [dc_false fun h => dc_not.1 h1 h.sg]
  simp only [List.length_map, r_cons, r_kont, r_op1, r_op1g, r_gd, r_go1, r_mv, r_nt, r_nt1, r_ln, r_ln1, r_op3, r_fa, r_fa1, r_ltr, r_ld, r_ld1, r_kcn, r_sn0, r_sn1, r_ca, r_ca1, ptd, keyOf, freshK, lk, pt, addO, xv, ↓reduceIte, Nat.reduceEqDiff, Nat.reduceMul, reduceCtorEq, List.length_nil, Nat.reduceLT, true_and, List.map_cons, List.map_nil, List.cons_append, List.nil_append, List.getElem?_cons_zero, List.drop_zero, mens, men, noSh, isSc, impv, or_true, Bool.not_true, List.length_map, and_self]
  refine kca_intro (sem_isRising s.tops sig.length (by omega) (by omega) (by omega)) ?_
  cases h2 : dc (Ris 0 ((sig.length : Int) - 1) s.tops)
  · simp only [r_cons, r_nil, r_kont, r_seq1, r_seq3, r_fn2, r_rg, r_sq, r_rt, r_cd, r_cd2, r_op1, r_op1g, r_gd, r_go1, r_mv, r_nt, r_nt1, r_pk, r_pkt, r_pkf, r_fin, r_kfe1, r_kcx, r_exps0, r_exps1, r_kex, r_exp1, r_expv2, ptd, keyOf, freshK, lk, pt, addO, xv, kv, kc, ↓reduceIte, Nat.reduceEqDiff, Nat.reduceMul, reduceCtorEq, List.length_nil, Nat.reduceLT, true_and, and_true, noSh, isSc, impv, or_true, Bool.true_eq_false, Bool.not_false]
    rw [dc_false fun h => dc_not.1 h2 h.tops]
  by_cases e3 : s.nest.length = sig.length
  case neg =>
    have e3' : ¬ (s.nest.length : Int) = sig.length := by omega
    simp only [e3', List.length_map, r_cons, r_nil, r_kont, r_seq1, r_seq3, r_fn2, r_rg, r_sq, r_rt, r_cd, r_cd2, r_op1, r_op1g, r_gd, r_go1, r_mv, r_bi, r_nei, r_nt, r_nt1, r_ln, r_ln1, r_pk, r_pkt, r_pkf, r_op3, r_fa, r_fa1, r_ltr, r_ld, r_ld1, r_fin, r_kfe1, r_kcx, r_exps0, r_exps1, r_kex, r_exp1, r_expv2, ptd, keyOf, freshK, lk, pt, addO, xv, kv, kc, ↓reduceIte, Nat.reduceEqDiff, Nat.reduceMul, reduceCtorEq, List.length_nil, Nat.reduceLT, true_and, and_true, decide_true, List.getElem?_cons_zero, List.drop_succ_cons, List.drop_zero, noSh, isSc, impv, or_true, Bool.true_eq_false, Bool.not_true, Bool.not_false, ne_eq, not_false_eq_true, List.length_map]
    rw [dc_false fun h => e3 h.nestL]
  by_cases e4 : s.sorts.length = sig.length
  case neg =>
    have e4' : ¬ (s.sorts.length : Int) = sig.length := by omega
    simp only [e3, e4', List.length_map, r_cons, r_nil, r_kont, r_seq1, r_seq3, r_fn2, r_rg, r_sq, r_rt, r_cd, r_cd2, r_op1, r_op1g, r_gd, r_go1, r_mv, r_bi, r_nei, r_nt, r_nt1, r_ln, r_ln1, r_pk, r_pkf, r_op3, r_fa, r_fa1, r_ltr, r_ld, r_ld1, r_fin, r_kfe1, r_kcx, r_exps0, r_exps1, r_kex, r_exp1, r_expv2, ptd, keyOf, freshK, lk, pt, addO, xv, kv, kc, ↓reduceIte, Nat.reduceEqDiff, Nat.reduceMul, reduceCtorEq, List.length_nil, Nat.reduceLT, true_and, and_true, decide_true, decide_false, List.getElem?_cons_zero, List.drop_succ_cons, List.drop_zero, noSh, isSc, impv, or_true, Bool.not_true, ne_eq, not_false_eq_true, not_true_eq_false, List.length_map]
    rw [dc_false fun h => e4 h.sortsL]
  simp only [e3, e4, List.length_map, r_cons, r_nil, r_kont, r_seq1, r_sk, r_rg, r_sq, r_cd, r_cd2, r_op1, r_op1g, r_gd, r_go1, r_mv, r_bi, r_nei, r_nt, r_nt1, r_ln, r_ln1, r_pk, r_pkf, r_op3, r_fa, r_fa1, r_ltr, r_ld, r_ld1, r_kcn, r_sn0, r_sn1, r_ca, r_ca1, ptd, keyOf, freshK, lk, pt, addO, xv, kv, kc, ↓reduceIte, Nat.reduceEqDiff, Nat.reduceMul, reduceCtorEq, List.length_nil, Nat.reduceLT, true_and, decide_false, List.map_cons, List.map_nil, List.cons_append, List.nil_append, List.getElem?_cons_zero, List.drop_succ_cons, List.drop_zero, mens, men, noSh, isSc, impv, or_true, Bool.false_eq_true, Bool.not_true, ne_eq, not_true_eq_false, List.length_map, and_self]
  refine kca_intro (sem_within s.most.length 1 4) ?_
  cases h4 : inB s.most.length 1 4
  · simp only [r_cons, r_nil, r_kont, r_seq1, r_seq3, r_fn2, r_rg, r_sq, r_rt, r_cd, r_cd2, r_op1, r_op1g, r_gd, r_go1, r_mv, r_nt, r_nt1, r_pk, r_pkt, r_fin, r_kfe1, r_kcx, r_exps0, r_exps1, r_kex, r_exp1, r_expv2, ptd, keyOf, freshK, lk, pt, addO, xv, kv, kc, ↓reduceIte, Nat.reduceEqDiff, Nat.reduceMul, reduceCtorEq, List.length_nil, Nat.reduceLT, true_and, and_true, noSh, isSc, impv, or_true, Bool.true_eq_false, Bool.not_false]
    rw [dc_false fun h => inB_not.1 h4 (by have := h.many; omega)]
  simp only [r_cons, r_kont, r_op1, r_op1g, r_gd, r_go1, r_mv, r_nt, r_nt1, r_op3, r_fa, r_fa1, r_ltr, r_ld, r_ld1, r_kcn, r_kfnn, r_sn0, r_sn1, r_sn4, r_ca, r_ca1, ptd, keyOf, freshK, lk, pt, addO, xv, ↓reduceIte, Nat.reduceEqDiff, Nat.reduceMul, reduceCtorEq, List.length_nil, Nat.reduceLT, true_and, List.map_cons, List.map_nil, List.cons_append, List.nil_append, List.getElem?_cons_zero, List.drop_succ_cons, List.drop_zero, mens, men, noSh, isSc, impv, or_true, Bool.not_true, and_self]
  refine kca_intro (sem_coF1 (t := tv) (cs := []) g_coFI g_ixFI s.most (by omega) (fun x _ lvl S => sem_IsSorting_1 x lvl S)) ?_
  cases h5 : s.most.any fun n => !inB n 0 24
  case true =>
    simp only [r_cons, r_nil, r_kont, r_seq1, r_seq3, r_fn2, r_rg, r_sq, r_rt, r_cd, r_cd2, r_op1, r_op1g, r_gd, r_go1, r_mv, r_pk, r_pkt, r_pkf, r_fin, r_kfe1, r_kcx, r_exps0, r_exps1, r_kex, r_exp1, r_expv2, ptd, keyOf, freshK, lk, pt, addO, xv, kv, kc, ↓reduceIte, Nat.reduceEqDiff, Nat.reduceMul, reduceCtorEq, List.length_nil, Nat.reduceLT, true_and, and_true, noSh, isSc, impv, or_true, Bool.true_eq_false, Bool.not_false]
    rw [dc_false fun h => by rw [any_out.2 h.most] at h5; cases h5]
  simp only [List.length_map, r_cons, r_kont, r_op1, r_op1g, r_gd, r_go1, r_mv, r_ln, r_ln1, r_pk, r_pkf, r_op3, r_fa, r_fa1, r_ltr, r_ld, r_ld1, r_kcn, r_sn0, r_sn1, r_ca, r_ca1, ptd, keyOf, freshK, lk, pt, addO, xv, kv, kc, ↓reduceIte, Nat.reduceEqDiff, Nat.reduceMul, reduceCtorEq, List.length_nil, Nat.reduceLT, true_and, List.map_cons, List.map_nil, List.cons_append, List.nil_append, List.getElem?_cons_zero, List.drop_succ_cons, List.drop_zero, mens, men, noSh, isSc, impv, or_true, List.length_map, and_self]
  refine kca_intro (sem_arePairs s.apart s.most.length b6 b7) ?_
  cases h6 : dc (apartOK s.apart s.most.length)
  · simp only [r_cons, r_nil, r_kont, r_seq1, r_seq3, r_fn2, r_rg, r_sq, r_rt, r_cd, r_cd2, r_op1, r_op1g, r_gd, r_go1, r_mv, r_nt, r_nt1, r_pk, r_pkf, r_fin, r_kfe1, r_kcx, r_exps0, r_exps1, r_kex, r_exp1, r_expv2, ptd, keyOf, freshK, lk, pt, addO, xv, kv, kc, ↓reduceIte, Nat.reduceEqDiff, Nat.reduceMul, reduceCtorEq, List.length_nil, Nat.reduceLT, true_and, and_true, noSh, isSc, impv, or_true, Bool.not_false]
    rw [dc_false fun h => dc_not.1 h6 h.apart]
  simp only [List.length_map, r_cons, r_nil, r_kont, r_seq1, r_sk, r_rg, r_sq, r_bl, r_cd, r_cd2, r_op1, r_op1g, r_gd, r_go1, r_mv, r_nt, r_nt1, r_ln, r_ln1, r_pk, r_pkf, ptd, keyOf, freshK, lk, pt, addO, xv, kv, kc, ↓reduceIte, Nat.reduceEqDiff, Nat.reduceMul, reduceCtorEq, List.length_nil, Nat.reduceLT, true_and, noSh, isSc, impv, or_true, Bool.false_eq_true, Bool.not_true, List.length_map]
  refine wp_cnt (α := Unit) sig.length (fun j _ => [(55, iI j)]) (fun j _ => []) (fun j _ => ∀ k, k < j → nestAt sig s.nest k ∧ sortsAt sig s.sorts s.most.length k) () (by simp only [r_clean, r_okm4, r_okm11, r_okE0, r_okE1, r_okL0, ↓reduceIte, Nat.reduceEqDiff, reduceCtorEq, memB, keepB, keepOB, Bool.false_eq_true, and_self]) (by (simp only [r_fgt, r_chg, r_pts0, r_pts1, r_ptOs0, pt, ↓reduceIte, Nat.reduceEqDiff, reduceCtorEq, Nat.reduceLT, memB, keepB, keepOB, Bool.false_eq_true, Int.cast_ofNat_Int]) <;> rfl) (fun k hk => absurd hk (Nat.not_lt_zero k)) ?_
  intro j _ hj hA
  simp only [r_cons, r_nil, r_kont, r_seq1, r_seq2, r_blk2, r_fn2, r_sk, r_rg, r_sq, r_bl, r_ex, r_rt, r_cd, r_cd2, r_op1, r_go1, r_mv, r_bi, r_lti, r_ixn, r_ia, r_ia1, r_fin, r_kfe1, r_kcx, r_exps0, r_exps1, r_kex, r_exp1, r_expv2, r_fgt, r_round2, r_chg, r_pts0, r_pts1, r_ptOs0, ptd, lk, pt, xv, kv, kc, ↓reduceIte, Nat.reduceEqDiff, reduceCtorEq, Nat.reduceLT, true_and, and_true, decide_eq_true_eq, memB, keepB, keepOB, Bool.false_eq_true, Int.toNat_natCast, Int.natCast_nonneg]
  refine ite_of (fun hlt => ?_) (fun hge => ?_)
  · have hja : j < sig.length := by omega
    have hjn : j < s.nest.length := by omega
    have hjs : j < s.sorts.length := by omega
    have ga := getA (c := cControl) hja
    have gn := getA (c := eIS) hjn
    have gs := getA (c := eIS) hjs
    have y1 : s.nest[j].length ≤ 4294967296 := b3 _ (List.getElem_mem hjn)
    have y2 : s.sorts[j].length ≤ 4294967296 := b5 _ (List.getElem_mem hjs)
    simp only [ga, gn, List.length_map, cControl, r_cons, r_nil, r_kont, r_seq1, r_rg, r_sq, r_op1, r_go1, r_mv, r_al, r_ln, r_ln1, r_op3, r_fa, r_fa1, r_ixn, r_ia, r_iae, r_ia1, r_pack, r_setOb, r_ltr, r_ld, r_ld1, r_ld4, r_kcn, r_sn0, r_sn1, r_ca, r_ca1, r_st, r_st1, r_stb, r_setAt0, r_setAt1, r_lows0, r_lows1, r_low1, r_lt1, zfill, zobs, ptd, keyOf, freshK, lk, pt, lkO, ptO, addO, xv, kc, ↓reduceIte, Nat.reduceEqDiff, Nat.reduceMul, reduceCtorEq, List.length_cons, List.length_nil, Nat.reduceAdd, Nat.reduceLT, true_and, List.map_cons, List.map_nil, List.cons_append, List.nil_append, List.getElem?_cons_zero, List.drop_succ_cons, List.drop_zero, List.take_succ_cons, List.take_zero, mens, men, Int.toNat_natCast, List.all_cons, List.all_nil, isCell, Bool.and_self, cellsOf, Nat.zero_add, Nat.add_zero, List.set_cons_zero, List.set_cons_succ, Int.natCast_nonneg, Nat.le_refl, List.length_map, and_self]
    refine kca_intro (sem_isRising s.nest[j] sig.length (by omega) (by omega) (by omega)) ?_
    cases p1 : dc (Ris 0 ((sig.length : Int) - 1) s.nest[j])
    · simp only [r_cons, r_nil, r_kont, r_seq1, r_seq3, r_blk3, r_fn2, r_rg, r_sq, r_rt, r_cd, r_cd2, r_op1, r_op1g, r_gd, r_gdu, r_go1, r_mv, r_nt, r_nt1, r_pk, r_pkt, r_fin, r_kfe1, r_kcx, r_exps0, r_exps1, r_kex, r_exp1, r_expv2, r_round3, r_lt1, ptd, keyOf, freshK, lk, pt, addO, xv, kv, kc, ↓reduceIte, Nat.reduceEqDiff, Nat.reduceMul, reduceCtorEq, List.length_nil, Nat.reduceLT, true_and, and_true, noSh, isSc, impv, or_true, Bool.true_eq_false, Bool.not_false]
      rw [dc_false fun h => dc_not.1 p1 (h.nest j hjn hja).1]
    by_cases p2 : sig[j].kind_ = 2 ∧ (0 : Int) < s.nest[j].length
    · simp only [p2.1, p2.2, gn, List.length_map, r_cons, r_nil, r_kont, r_seq1, r_seq3, r_blk3, r_fn2, r_rg, r_sq, r_rt, r_cd, r_cd2, r_op1, r_op1g, r_gd, r_go1, r_mv, r_bi, r_eqi, r_gti, r_nt, r_nt1, r_ln, r_ln1, r_pk, r_pkt, r_pkf, r_op3, r_fa, r_fa1, r_fa2, r_ixn, r_ia, r_iae, r_ia1, r_pack, r_ltr, r_lab, r_ld, r_ld1, r_ld2, r_fin, r_kfe1, r_kcx, r_exps0, r_exps1, r_kex, r_exp1, r_expv2, r_round3, r_lt1, ptd, keyOf, freshK, lk, pt, lkO, addO, xv, kv, kc, ↓reduceIte, Nat.reduceEqDiff, Nat.reduceMul, reduceCtorEq, List.length_cons, List.length_nil, Nat.reduceLT, true_and, and_true, decide_true, List.getElem?_cons_zero, List.getElem?_cons_succ, List.drop_succ_cons, List.drop_zero, noSh, isSc, impv, or_true, Bool.true_eq_false, Bool.not_true, Bool.not_false, Int.toNat_natCast, Nat.zero_add, Int.natCast_nonneg, List.length_map]
      rw [dc_false fun h => by
        have h1 := (h.nest j hjn hja).2 p2.1
        have h2 := p2.2
        rw [h1] at h2
        simp at h2]
    have hN : nestAt sig s.nest j := fun _ _ => ⟨dc_iff.1 p1, fun h => List.length_eq_zero_iff.1 (by
      have : ¬ (0 : Int) < s.nest[j].length := fun h2 => p2 ⟨h, h2⟩
      omega)⟩
    have go : ∀ K : Prop, ((¬ (s.sorts[j].length : Int) = sig[j].ports → dc (sortOK sig s) = false) → (∀ e : (s.sorts[j].length : Int) = sig[j].ports, (s.sorts[j].any (fun n => !inB n 0 ((s.most.length : Int) - 1))) = true → dc (sortOK sig s) = false) → (∀ e : (s.sorts[j].length : Int) = sig[j].ports, (s.sorts[j].any (fun n => !inB n 0 ((s.most.length : Int) - 1))) = false → sortsAt sig s.sorts s.most.length j) → K) → K := fun K h => h
      (fun h => dc_false fun g => h (g.sorts j hjs hja).1)
      (fun e h => dc_false fun g => by rw [any_out.2 (g.sorts j hjs hja).2] at h; cases h)
      (fun e h _ _ => ⟨e, any_out.1 h⟩)
    refine go _ fun g1 g2 g3 => ?_
    by_cases k1 : sig[j].kind_ = 2
    · have k2 : ¬ (0 : Int) < s.nest[j].length := fun h => p2 ⟨k1, h⟩
      by_cases k3 : (s.sorts[j].length : Int) = sig[j].ports
      case neg =>
        simp only [k1, k2, k3, gn, gs, List.length_map, r_cons, r_nil, r_kont, r_seq1, r_seq3, r_blk3, r_fn2, r_rg, r_sq, r_rt, r_cd, r_cd2, r_op1, r_op1g, r_gd, r_go1, r_mv, r_bi, r_eqi, r_nei, r_gti, r_nt, r_nt1, r_ln, r_ln1, r_pk, r_pkt, r_pkf, r_op3, r_fa, r_fa1, r_fa2, r_ixn, r_ia, r_iae, r_ia1, r_pack, r_ltr, r_lab, r_ld, r_ld1, r_ld2, r_fin, r_kfe1, r_kcx, r_exps0, r_exps1, r_kex, r_exp1, r_expv2, r_round3, r_lt1, ptd, keyOf, freshK, lk, pt, lkO, addO, xv, kv, kc, ↓reduceIte, Nat.reduceEqDiff, Nat.reduceMul, reduceCtorEq, List.length_cons, List.length_nil, Nat.reduceLT, true_and, and_true, decide_true, decide_false, List.getElem?_cons_zero, List.getElem?_cons_succ, List.drop_succ_cons, List.drop_zero, noSh, isSc, impv, or_true, Bool.true_eq_false, Bool.not_true, Bool.not_false, Int.toNat_natCast, Nat.zero_add, Int.natCast_nonneg, ne_eq, not_false_eq_true, List.length_map]
        rw [g1 k3]
      simp only [k1, k2, k3, gn, gs, List.length_map, r_cons, r_kont, r_op1, r_op1g, r_gd, r_go1, r_mv, r_bi, r_eqi, r_nei, r_gti, r_nt, r_nt1, r_mf, r_mf1, r_ln, r_ln1, r_pk, r_pkt, r_pkf, r_op3, r_fa, r_fa1, r_fa2, r_ixn, r_ia, r_iae, r_ia1, r_pack, r_ltr, r_lab, r_ld, r_ld1, r_ld2, r_kcn, r_kfnn, r_sn0, r_sn1, r_sn4, r_sn5, r_ca, r_ca1, ptd, keyOf, freshK, lk, pt, lkO, addO, xv, kv, kc, ↓reduceIte, Nat.reduceEqDiff, Nat.reduceMul, reduceCtorEq, List.length_cons, List.length_nil, Nat.reduceLT, true_and, decide_true, decide_false, List.map_cons, List.map_nil, List.cons_append, List.nil_append, List.getElem?_cons_zero, List.getElem?_cons_succ, List.drop_succ_cons, List.drop_zero, mens, men, noSh, isSc, impv, or_true, Bool.not_true, Int.toNat_natCast, List.all_cons, List.all_nil, isCell, Bool.and_self, Nat.zero_add, Int.natCast_nonneg, ne_eq, not_true_eq_false, List.length_map, and_self]
      refine kca_intro (sem_coF1 (t := tv) (cs := [cSorting s]) g_coFI g_ixFI s.sorts[j] (by omega) (fun x _ lvl S => sem_IsSorting_2 x s b6 lvl S)) ?_
      cases h7 : s.sorts[j].any fun n => !inB n 0 ((s.most.length : Int) - 1)
      case true =>
        simp only [r_cons, r_nil, r_kont, r_seq1, r_seq3, r_blk3, r_fn2, r_rg, r_sq, r_rt, r_cd, r_cd2, r_op1, r_go1, r_mv, r_pk, r_pkf, r_fin, r_kfe1, r_kcx, r_exps0, r_exps1, r_kex, r_exp1, r_expv2, r_round3, r_lt1, ptd, keyOf, freshK, lk, pt, addO, xv, kv, kc, ↓reduceIte, Nat.reduceEqDiff, Nat.reduceMul, reduceCtorEq, List.length_nil, Nat.reduceLT, true_and, and_true, noSh, isSc, impv, or_true]
        rw [g2 k3 h7]
      simp only [r_cons, r_nil, r_kont, r_seq1, r_blk1, r_sk, r_rg, r_cd, r_cd2, r_op1, r_go1, r_mv, r_bi, r_add0, r_pk, r_pkf, r_fgt, r_clean, r_okm4, r_okm11, r_okE0, r_okE1, r_okL0, r_round1, ptd, keyOf, freshK, lk, pt, addO, xv, kv, kc, ↓reduceIte, Nat.reduceEqDiff, Nat.reduceMul, reduceCtorEq, List.length_nil, Nat.reduceLT, true_and, noSh, isSc, impv, memB, keepB, keepOB, or_true, Bool.false_eq_true, and_self]
      exact ⟨by rw [fits_i64]; omega, cntJ_intro () hja rfl (all_succ hA ⟨hN, g3 k3 h7⟩)⟩
    · by_cases k3 : (s.sorts[j].length : Int) = sig[j].ports
      case neg =>
        simp only [k1, k3, gs, List.length_map, r_cons, r_nil, r_kont, r_seq1, r_seq3, r_blk3, r_fn2, r_rg, r_sq, r_rt, r_cd, r_cd2, r_op1, r_op1g, r_gd, r_go1, r_mv, r_bi, r_eqi, r_nei, r_nt, r_nt1, r_ln, r_ln1, r_pk, r_pkt, r_pkf, r_op3, r_fa, r_fa1, r_fa2, r_ixn, r_ia, r_iae, r_ia1, r_pack, r_ltr, r_lab, r_ld, r_ld1, r_ld2, r_fin, r_kfe1, r_kcx, r_exps0, r_exps1, r_kex, r_exp1, r_expv2, r_round3, r_lt1, ptd, keyOf, freshK, lk, pt, lkO, addO, xv, kv, kc, ↓reduceIte, Nat.reduceEqDiff, Nat.reduceMul, reduceCtorEq, List.length_cons, List.length_nil, Nat.reduceLT, true_and, and_true, decide_true, decide_false, List.getElem?_cons_zero, List.getElem?_cons_succ, List.drop_succ_cons, List.drop_zero, noSh, isSc, impv, or_true, Bool.false_eq_true, Bool.true_eq_false, Bool.not_true, Bool.not_false, Int.toNat_natCast, Nat.zero_add, Int.natCast_nonneg, ne_eq, not_false_eq_true, List.length_map]
        rw [g1 k3]
      simp only [k1, k3, gs, List.length_map, r_cons, r_kont, r_op1, r_op1g, r_gd, r_go1, r_mv, r_bi, r_eqi, r_nei, r_nt, r_nt1, r_mf, r_mf1, r_ln, r_ln1, r_pk, r_pkf, r_op3, r_fa, r_fa1, r_fa2, r_ixn, r_ia, r_iae, r_ia1, r_pack, r_ltr, r_lab, r_ld, r_ld1, r_ld2, r_kcn, r_kfnn, r_sn0, r_sn1, r_sn4, r_sn5, r_ca, r_ca1, ptd, keyOf, freshK, lk, pt, lkO, addO, xv, kv, kc, ↓reduceIte, Nat.reduceEqDiff, Nat.reduceMul, reduceCtorEq, List.length_cons, List.length_nil, Nat.reduceLT, true_and, decide_false, List.map_cons, List.map_nil, List.cons_append, List.nil_append, List.getElem?_cons_zero, List.getElem?_cons_succ, List.drop_succ_cons, List.drop_zero, mens, men, noSh, isSc, impv, or_true, Bool.false_eq_true, Bool.not_true, Int.toNat_natCast, List.all_cons, List.all_nil, isCell, Bool.and_self, Nat.zero_add, Int.natCast_nonneg, ne_eq, not_true_eq_false, List.length_map, and_self]
      refine kca_intro (sem_coF1 (t := tv) (cs := [cSorting s]) g_coFI g_ixFI s.sorts[j] (by omega) (fun x _ lvl S => sem_IsSorting_2 x s b6 lvl S)) ?_
      cases h7 : s.sorts[j].any fun n => !inB n 0 ((s.most.length : Int) - 1)
      case true =>
        simp only [r_cons, r_nil, r_kont, r_seq1, r_seq3, r_blk3, r_fn2, r_rg, r_sq, r_rt, r_cd, r_cd2, r_op1, r_go1, r_mv, r_pk, r_pkf, r_fin, r_kfe1, r_kcx, r_exps0, r_exps1, r_kex, r_exp1, r_expv2, r_round3, r_lt1, ptd, keyOf, freshK, lk, pt, addO, xv, kv, kc, ↓reduceIte, Nat.reduceEqDiff, Nat.reduceMul, reduceCtorEq, List.length_nil, Nat.reduceLT, true_and, and_true, noSh, isSc, impv, or_true]
        rw [g2 k3 h7]
      simp only [r_cons, r_nil, r_kont, r_seq1, r_blk1, r_sk, r_rg, r_cd, r_cd2, r_op1, r_go1, r_mv, r_bi, r_add0, r_pk, r_pkf, r_fgt, r_clean, r_okm4, r_okm11, r_okE0, r_okE1, r_okL0, r_round1, ptd, keyOf, freshK, lk, pt, addO, xv, kv, kc, ↓reduceIte, Nat.reduceEqDiff, Nat.reduceMul, reduceCtorEq, List.length_nil, Nat.reduceLT, true_and, noSh, isSc, impv, memB, keepB, keepOB, or_true, Bool.false_eq_true, and_self]
      exact ⟨by rw [fits_i64]; omega, cntJ_intro () hja rfl (all_succ hA ⟨hN, g3 k3 h7⟩)⟩
  · have hj1 : j = sig.length := by omega
    subst hj1
    have : sortOK sig s := ⟨dc_iff.1 h1, dc_iff.1 h2, e3, fun k hk h2 => (hA k h2).1 hk h2, e4, fun k hk h2 => (hA k h2).2 hk h2, by have := inB_iff.1 h4; omega, any_out.1 h5, dc_iff.1 h6⟩
    rw [dc_true this]
end Go.Fd

/-
  FINER SORTINGS, BOTH SIDES. Own work.
-/
namespace Go.Fd
set_option maxRecDepth 20000

theorem cmpKA2 : CmpK 2 [0, 0] cA2 := ⟨fun _ => rfl, fun x y F => by
  obtain ⟨x1, x2⟩ := x
  obtain ⟨y1, y2⟩ := y
  by_cases h1 : x1 = y1 <;> by_cases h2 : x2 = y2 <;> simp [eq2, cA2, eqvs, eqv, h1, h2]⟩

theorem ext_g0 {a b : List Int} (h : a.length = b.length) (hg : ∀ k, k < a.length → g0 a k = g0 b k) : a = b := by
  refine List.ext_getElem h fun k h1 h2 => ?_
  have := hg k h1
  simpa [h1, h2] using this

theorem sem_l1Same (a b : List Int) (ha : a.length ≤ 4294967296) (hb : b.length ≤ 4294967296) (lvl : Nat) (S : Sto) : Sem Go.Proofs.Tryd.prog fid_spec_l1Same lvl [tI a, tI b] S (iB (dc (a = b))) S := by
  refine sem_of_chk k_spec_l1Same trivial ?_
  simp only [c_spec_l1Same, List.length_map, r_cons, r_nil, r_kont, r_seq1, r_seq3, r_fn2, r_sk, r_rg, r_sq, r_bl, r_rt, r_cd, r_cd2, r_wpF, r_op1, r_go1, r_mv, r_bi, r_nei, r_ln, r_ln1, r_fin, r_kfe1, r_kcx, r_exps0, r_exps1, r_kex, r_exp1, r_expv2, r_lt1, ptd, lk, pt, xv, kv, kc, params, ↓reduceIte, Nat.reduceEqDiff, reduceCtorEq, List.length_cons, List.length_nil, Nat.reduceAdd, Nat.reduceLeDiff, Nat.reduceLT, true_and, and_true, decide_eq_true_eq, Nat.zero_add, ne_eq, List.length_map]
  refine ite_of (fun hne => ?_) (fun heq => ?_)
  · have : ¬ a = b := fun h => by subst h; exact hne rfl
    rw [dc_false this]
  have hE : a.length = b.length := by omega
  refine wp_cnt (α := Unit) a.length (fun j _ => [(5, iI j)]) (fun j _ => []) (fun j _ => ∀ k, k < j → g0 a k = g0 b k) () (by simp only [r_clean, r_okm4, r_okE0, r_okE1, r_okL0, ↓reduceIte, Nat.reduceEqDiff, reduceCtorEq, memB, keepB, keepOB, Bool.false_eq_true, and_self]) (by (simp only [r_fgt, r_chg, r_pts0, r_pts1, r_ptOs0, pt, ↓reduceIte, Nat.reduceEqDiff, reduceCtorEq, Nat.reduceLT, memB, keepB, keepOB, Bool.false_eq_true, Int.cast_ofNat_Int]) <;> rfl) (fun k hk => absurd hk (Nat.not_lt_zero k)) ?_
  intro j _ hj hA
  simp only [List.length_map, r_cons, r_nil, r_kont, r_seq1, r_seq2, r_blk2, r_fn2, r_sk, r_rg, r_sq, r_bl, r_ex, r_rt, r_cd, r_cd2, r_op1, r_go1, r_mv, r_bi, r_lti, r_ln, r_ln1, r_ixn, r_ia, r_ia1, r_fin, r_kfe1, r_kcx, r_exps0, r_exps1, r_kex, r_exp1, r_expv2, r_fgt, r_round2, r_chg, r_pts0, r_pts1, r_ptOs0, r_lt1, ptd, lk, pt, xv, kv, kc, ↓reduceIte, Nat.reduceEqDiff, reduceCtorEq, Nat.reduceLT, true_and, and_true, decide_eq_true_eq, memB, keepB, keepOB, Bool.false_eq_true, Int.toNat_natCast, Int.natCast_nonneg, List.length_map]
  refine ite_of (fun hlt => ?_) (fun hge => ?_)
  · have hja : j < a.length := by omega
    have hjb : j < b.length := by omega
    have ga := rI_get hja
    have gb := rI_get hjb
    simp only [ga, gb, r_cons, r_nil, r_kont, r_seq1, r_seq3, r_blk1, r_blk3, r_fn2, r_sk, r_rg, r_sq, r_rt, r_cd, r_cd2, r_op1, r_go1, r_mv, r_bi, r_add0, r_nei, r_op3, r_ixn, r_ia, r_iae, r_ia1, r_ltr, r_ld, r_ld1, r_fin, r_kfe1, r_kcx, r_exps0, r_exps1, r_kex, r_exp1, r_expv2, r_fgt, r_clean, r_okm4, r_okE0, r_okE1, r_okL0, r_round1, r_round3, r_lt1, ptd, lk, pt, xv, kv, kc, ↓reduceIte, Nat.reduceEqDiff, reduceCtorEq, List.length_cons, List.length_nil, Nat.reduceLT, true_and, and_true, decide_eq_true_eq, List.getElem?_cons_zero, memB, keepB, keepOB, Bool.false_eq_true, Int.toNat_natCast, Nat.zero_add, Int.natCast_nonneg, ne_eq, and_self]
    refine ite_of (fun hne => ?_) (fun heq => ?_)
    · have : ¬ a = b := fun h => hne (by rw [h])
      rw [dc_false this]
    · exact ⟨by rw [fits_i64]; omega, cntJ_intro () hja rfl (all_succ hA (by omega))⟩
  · have hj1 : j = a.length := by omega
    subst hj1
    rw [dc_true (ext_g0 hE hA)]

theorem sem_l7SameTable (a b : List (List Int)) (ha : a.length ≤ 4294967296) (hb : b.length ≤ 4294967296) (ha2 : ∀ y ∈ a, y.length ≤ 4294967296) (hb2 : ∀ y ∈ b, y.length ≤ 4294967296) (lvl : Nat) (S : Sto) : Sem Go.Proofs.Tryd.prog fid_spec_l7SameTable lvl [.tr (.sl (a.map eIS)), .tr (.sl (b.map eIS))] S (iB (dc (a = b))) S := by
  refine sem_of_chk k_spec_l7SameTable trivial ?_
  simp only [c_spec_l7SameTable, List.length_map, r_cons, r_nil, r_kont, r_seq1, r_seq3, r_fn2, r_sk, r_rg, r_sq, r_bl, r_rt, r_cd, r_cd2, r_wpF, r_op1, r_go1, r_mv, r_bi, r_nei, r_ln, r_ln1, r_fin, r_kfe1, r_kcx, r_exps0, r_exps1, r_kex, r_exp1, r_expv2, r_lt1, ptd, lk, pt, xv, kv, kc, params, ↓reduceIte, Nat.reduceEqDiff, reduceCtorEq, List.length_cons, List.length_nil, Nat.reduceAdd, Nat.reduceLeDiff, Nat.reduceLT, true_and, and_true, decide_eq_true_eq, Nat.zero_add, ne_eq, List.length_map]
  refine ite_of (fun hne => ?_) (fun heq => ?_)
  · have : ¬ a = b := fun h => by subst h; exact hne rfl
    rw [dc_false this]
  have hE : a.length = b.length := by omega
  refine wp_cnt (α := Unit) a.length (fun j _ => [(5, iI j)]) (fun j _ => []) (fun j _ => ∀ k, k < j → ∀ (h1 : k < a.length) (h2 : k < b.length), a[k] = b[k]) () (by simp only [r_clean, r_okm4, r_okE0, r_okE1, r_okL0, ↓reduceIte, Nat.reduceEqDiff, reduceCtorEq, memB, keepB, keepOB, Bool.false_eq_true, and_self]) (by (simp only [r_fgt, r_chg, r_pts0, r_pts1, r_ptOs0, pt, ↓reduceIte, Nat.reduceEqDiff, reduceCtorEq, Nat.reduceLT, memB, keepB, keepOB, Bool.false_eq_true, Int.cast_ofNat_Int]) <;> rfl) (fun k hk => absurd hk (Nat.not_lt_zero k)) ?_
  intro j _ hj hA
  simp only [List.length_map, r_cons, r_nil, r_kont, r_seq1, r_seq2, r_blk2, r_fn2, r_sk, r_rg, r_sq, r_bl, r_ex, r_rt, r_cd, r_cd2, r_op1, r_go1, r_mv, r_bi, r_lti, r_ln, r_ln1, r_ixn, r_ia, r_ia1, r_fin, r_kfe1, r_kcx, r_exps0, r_exps1, r_kex, r_exp1, r_expv2, r_fgt, r_round2, r_chg, r_pts0, r_pts1, r_ptOs0, r_lt1, ptd, lk, pt, xv, kv, kc, ↓reduceIte, Nat.reduceEqDiff, reduceCtorEq, Nat.reduceLT, true_and, and_true, decide_eq_true_eq, memB, keepB, keepOB, Bool.false_eq_true, Int.toNat_natCast, Int.natCast_nonneg, List.length_map]
  refine ite_of (fun hlt => ?_) (fun hge => ?_)
  · have hja : j < a.length := by omega
    have hjb : j < b.length := by omega
    have ga := getA (c := eIS) hja
    have gb := getA (c := eIS) hjb
    simp only [ga, gb, r_cons, r_kont, r_op1, r_go1, r_mv, r_op3, r_ixn, r_ia, r_iae, r_ia1, r_ltr, r_ld, r_ld1, r_kcn, r_sn0, r_sn1, r_ca, r_ca1, ptd, lk, pt, xv, ↓reduceIte, Nat.reduceEqDiff, reduceCtorEq, List.length_cons, List.length_nil, Nat.reduceLT, true_and, List.map_cons, List.map_nil, List.cons_append, List.nil_append, List.getElem?_cons_zero, mens, men, Int.toNat_natCast, Nat.zero_add, Int.natCast_nonneg, and_self]
    refine kca_intro (sem_l1Same a[j] b[j] (ha2 _ (List.getElem_mem hja)) (hb2 _ (List.getElem_mem hjb))) ?_
    cases hc : dc (a[j] = b[j])
    · simp only [r_cons, r_nil, r_kont, r_seq1, r_seq3, r_blk3, r_fn2, r_rg, r_sq, r_rt, r_cd, r_cd2, r_op1, r_go1, r_mv, r_nt, r_nt1, r_fin, r_kfe1, r_kcx, r_exps0, r_exps1, r_kex, r_exp1, r_expv2, r_round3, r_lt1, ptd, keyOf, freshK, lk, pt, addO, xv, kv, kc, ↓reduceIte, Nat.reduceEqDiff, Nat.reduceMul, reduceCtorEq, List.length_nil, Nat.reduceLT, true_and, and_true, noSh, isSc, impv, or_true, Bool.not_false]
      have : ¬ a = b := fun h => dc_not.1 hc (by subst h; rfl)
      rw [dc_false this]
    · simp only [r_cons, r_nil, r_kont, r_seq1, r_blk1, r_sk, r_rg, r_cd, r_cd2, r_op1, r_go1, r_mv, r_bi, r_add0, r_nt, r_nt1, r_fgt, r_clean, r_okm4, r_okE0, r_okE1, r_okL0, r_round1, r_lt1, ptd, keyOf, freshK, lk, pt, addO, xv, kv, kc, ↓reduceIte, Nat.reduceEqDiff, Nat.reduceMul, reduceCtorEq, List.length_nil, Nat.reduceLT, true_and, noSh, isSc, impv, memB, keepB, keepOB, or_true, Bool.false_eq_true, Bool.not_true, and_self]
      exact ⟨by rw [fits_i64]; omega, cntJ_intro () hja rfl (all_succ hA fun _ _ => dc_iff.1 hc)⟩
  · have hj1 : j = a.length := by omega
    subst hj1
    rw [dc_true (List.ext_getElem hE fun k h1 h2 => hA k h1 h1 h2)]

def partOf (a b : List Int) : Prop := ∀ n ∈ a, n ∈ b

theorem sem_l7Part (a b : List Int) (ha : a.length ≤ 4294967296) (hb : b.length ≤ 4294967296) (lvl : Nat) (S : Sto) : Sem Go.Proofs.Tryd.prog fid_spec_l7Part lvl [tI a, tI b] S (iB (dc (partOf a b))) S := by
  refine sem_of_chk k_spec_l7Part trivial ?_
  simp only [c_spec_l7Part, r_cons, r_nil, r_kont, r_seq1, r_rg, r_sq, r_bl, r_wpF, r_op1, r_mv, ptd, pt, xv, kv, kc, params, ↓reduceIte, Nat.reduceEqDiff, reduceCtorEq, List.length_cons, List.length_nil, Nat.reduceAdd, Nat.reduceLeDiff, Nat.reduceLT, true_and, Nat.zero_add]
  refine wp_cnt (α := Unit) a.length (fun j _ => [(5, iI j)]) (fun j _ => []) (fun j _ => ∀ k, k < j → g0 a k ∈ b) () (by simp only [r_clean, r_okm4, r_okE0, r_okE1, r_okL0, ↓reduceIte, Nat.reduceEqDiff, reduceCtorEq, memB, keepB, keepOB, Bool.false_eq_true, and_self]) (by (simp only [r_fgt, r_chg, r_pts0, r_pts1, r_ptOs0, pt, ↓reduceIte, Nat.reduceEqDiff, reduceCtorEq, Nat.reduceLT, memB, keepB, keepOB, Bool.false_eq_true, Int.cast_ofNat_Int]) <;> rfl) (fun k hk => absurd hk (Nat.not_lt_zero k)) ?_
  intro j _ hj hA
  simp only [List.length_map, r_cons, r_nil, r_kont, r_seq1, r_seq2, r_blk2, r_fn2, r_sk, r_rg, r_sq, r_bl, r_ex, r_rt, r_cd, r_cd2, r_op1, r_go1, r_mv, r_bi, r_lti, r_ln, r_ln1, r_ixn, r_ia, r_ia1, r_fin, r_kfe1, r_kcx, r_exps0, r_exps1, r_kex, r_exp1, r_expv2, r_fgt, r_round2, r_chg, r_pts0, r_pts1, r_ptOs0, r_lt1, ptd, lk, pt, xv, kv, kc, ↓reduceIte, Nat.reduceEqDiff, reduceCtorEq, Nat.reduceLT, true_and, and_true, decide_eq_true_eq, memB, keepB, keepOB, Bool.false_eq_true, Int.toNat_natCast, Int.natCast_nonneg, List.length_map]
  refine ite_of (fun hlt => ?_) (fun hge => ?_)
  · have hja : j < a.length := by omega
    have ga := rI_get hja
    simp only [ga, r_cons, r_kont, r_op1, r_go1, r_op3, r_iae, r_ltr, r_ld, r_ld1, r_kcn, r_sn0, r_sn1, r_ca, r_ca1, ptd, lk, pt, xv, ↓reduceIte, Nat.reduceEqDiff, reduceCtorEq, List.length_cons, List.length_nil, Nat.reduceLT, true_and, List.map_cons, List.map_nil, List.cons_append, List.nil_append, List.getElem?_cons_zero, mens, men, Nat.zero_add, and_self]
    refine kca_intro (sem_l1Has b (g0 a j) (by omega)) ?_
    by_cases hc : g0 a j ∈ b
    · simp only [hc, r_cons, r_nil, r_kont, r_seq1, r_blk1, r_sk, r_rg, r_cd, r_cd2, r_op1, r_go1, r_mv, r_bi, r_add0, r_nt, r_nt1, r_fgt, r_clean, r_okm4, r_okE0, r_okE1, r_okL0, r_round1, r_lt1, ptd, keyOf, freshK, lk, pt, addO, xv, kv, kc, ↓reduceIte, Nat.reduceEqDiff, Nat.reduceMul, reduceCtorEq, List.length_nil, Nat.reduceLT, true_and, decide_true, noSh, isSc, impv, memB, keepB, keepOB, or_true, Bool.false_eq_true, Bool.not_true, and_self]
      exact ⟨by rw [fits_i64]; omega, cntJ_intro () hja rfl (all_succ hA hc)⟩
    · simp only [hc, r_cons, r_nil, r_kont, r_seq1, r_seq3, r_blk3, r_fn2, r_rg, r_sq, r_rt, r_cd, r_cd2, r_op1, r_go1, r_mv, r_nt, r_nt1, r_fin, r_kfe1, r_kcx, r_exps0, r_exps1, r_kex, r_exp1, r_expv2, r_round3, r_lt1, ptd, keyOf, freshK, lk, pt, addO, xv, kv, kc, ↓reduceIte, Nat.reduceEqDiff, Nat.reduceMul, reduceCtorEq, List.length_nil, Nat.reduceLT, true_and, and_true, decide_false, noSh, isSc, impv, or_true, Bool.not_false]
      have : ¬ partOf a b := fun h => hc (h _ (by simp [hja]))
      rw [dc_false this]
  · have hj1 : j = a.length := by omega
    subst hj1
    have : partOf a b := fun n hn => by
      obtain ⟨k, hk, rfl⟩ := List.getElem_of_mem hn
      have := hA k hk
      simpa [hk] using this
    rw [dc_true this]

theorem sem_l7Pair (l : List A2) (p : A2) (hl : l.length ≤ 4294967296) (lvl : Nat) (S : Sto) : Sem Go.Proofs.Tryd.prog fid_spec_l7Pair lvl [.tr (.sl (l.map cA2)), .ag ((cA2 p).map .tr)] S (iB (dc (p ∈ l))) S := by
  refine sem_of_chk k_spec_l7Pair trivial ?_
  simp only [c_spec_l7Pair, cA2, r_cons, r_nil, r_kont, r_seq1, r_rg, r_sq, r_bl, r_wpF, r_op1, r_mv, r_bt, r_bt1, ptd, lk, pt, xv, kv, kc, params, ↓reduceIte, Nat.reduceEqDiff, reduceCtorEq, List.length_cons, List.length_nil, Nat.reduceAdd, Nat.reduceLeDiff, Nat.reduceLT, true_and, List.map_cons, List.map_nil, List.all_cons, List.all_nil, isCell, Bool.and_self, cellsOf, totr, totrs, tocs, Nat.zero_add]
  refine wp_cnt (α := Unit) l.length (fun j _ => [(5, iI j)]) (fun j _ => []) (fun j _ => ∀ k, k < j → ∀ h : k < l.length, ¬ l[k] = p) () (by simp only [r_clean, r_okm4, r_okm11, r_okE0, r_okE1, r_okL0, ↓reduceIte, Nat.reduceEqDiff, reduceCtorEq, memB, keepB, keepOB, Bool.false_eq_true, and_self]) (by (simp only [r_fgt, r_chg, r_pts0, r_pts1, r_ptOs0, pt, ↓reduceIte, Nat.reduceEqDiff, reduceCtorEq, Nat.reduceLT, memB, keepB, keepOB, Bool.false_eq_true, Int.cast_ofNat_Int]) <;> rfl) (fun k hk => absurd hk (Nat.not_lt_zero k)) ?_
  intro j _ hj hA
  simp only [List.length_map, r_cons, r_nil, r_kont, r_seq1, r_seq2, r_blk2, r_fn2, r_sk, r_rg, r_sq, r_bl, r_ex, r_rt, r_cd, r_cd2, r_op1, r_go1, r_mv, r_bi, r_lti, r_ln, r_ln1, r_ixn, r_ia, r_ia1, r_fin, r_kfe1, r_kcx, r_exps0, r_exps1, r_kex, r_exp1, r_expv2, r_fgt, r_round2, r_chg, r_pts0, r_pts1, r_ptOs0, r_lt1, ptd, lk, pt, xv, kv, kc, ↓reduceIte, Nat.reduceEqDiff, reduceCtorEq, Nat.reduceLT, true_and, and_true, decide_eq_true_eq, memB, keepB, keepOB, Bool.false_eq_true, Int.toNat_natCast, Int.natCast_nonneg, List.length_map]
  refine ite_of (fun hlt => ?_) (fun hge => ?_)
  · have hja : j < l.length := by omega
    have ga := getA (c := cA2) hja
    have he := cmpKA2.eql l[j] p
    simp only [cA2, List.map_cons, List.map_nil] at he
    simp only [ga, cA2, r_cons, r_kont, r_op1, r_go1, r_qa, r_op3, r_iae, r_ld, r_ld4, ptd, lk, pt, xv, ↓reduceIte, Nat.reduceEqDiff, reduceCtorEq, List.length_cons, List.length_nil, Nat.reduceAdd, Nat.reduceLT, true_and, List.map_cons, List.map_nil, List.take_succ_cons, List.take_zero, Nat.zero_add, Nat.le_refl]
    rw [he]
    by_cases hc : l[j] = p
    · simp only [hc, r_cons, r_nil, r_kont, r_seq1, r_seq3, r_blk3, r_fn2, r_rg, r_sq, r_rt, r_cd, r_cd2, r_op1, r_go1, r_mv, r_fin, r_kfe1, r_kcx, r_exps0, r_exps1, r_kex, r_exp1, r_expv2, r_round3, r_lt1, ptd, lk, pt, xv, kv, kc, ↓reduceIte, Nat.reduceEqDiff, reduceCtorEq, Nat.reduceLT, and_true, decide_true]
      rw [dc_true (hc ▸ List.getElem_mem hja)]
    · simp only [hc, r_cons, r_nil, r_kont, r_seq1, r_blk1, r_sk, r_rg, r_cd, r_cd2, r_op1, r_go1, r_mv, r_bi, r_add0, r_fgt, r_clean, r_okm4, r_okm11, r_okE0, r_okE1, r_okL0, r_round1, r_lt1, ptd, lk, pt, xv, kv, kc, ↓reduceIte, Nat.reduceEqDiff, reduceCtorEq, Nat.reduceLT, true_and, decide_false, memB, keepB, keepOB, Bool.false_eq_true, and_self]
      exact ⟨by rw [fits_i64]; omega, cntJ_intro () hja rfl (all_succ hA fun _ => hc)⟩
  · have hj1 : j = l.length := by omega
    subst hj1
    have : ¬ p ∈ l := fun h => by
      obtain ⟨k, hk, e⟩ := List.getElem_of_mem h
      exact hA k hk hk e
    rw [dc_false this]

def alike (s t : TSorting) : Prop := s.most.length = t.most.length ∧ s.sorts = t.sorts

theorem sem_l7Alike (s t : TSorting) (hs : bdSorting 4294967296 s) (ht : bdSorting 4294967296 t) (lvl : Nat) (S : Sto) : Sem Go.Proofs.Tryd.prog fid_spec_l7Alike lvl [.ag ((cSorting s).map .tr), .ag ((cSorting t).map .tr)] S (iB (dc (alike s t))) S := by
  obtain ⟨_, _, _, b4, b5, b6, _⟩ := hs
  obtain ⟨_, _, _, c4, c5, c6, _⟩ := ht
  refine sem_of_chk k_spec_l7Alike trivial ?_
  simp only [c_spec_l7Alike, List.length_map, cSorting, r_cons, r_nil, r_kont, r_seq1, r_fn2, r_rg, r_sq, r_rt, r_wpF, r_op1, r_op1g, r_gd, r_go1, r_mv, r_bt, r_bt1, r_bi, r_eqi, r_ln, r_ln1, r_pk, r_pkf, r_op3, r_fa, r_fa1, r_ltr, r_ld, r_ld1, r_kcn, r_sn0, r_sn1, r_ca, r_ca1, r_fin, r_kfe1, r_kcx, r_exps0, r_exps1, r_kex, r_exp1, r_expv2, ptd, lk, pt, xv, kv, kc, params, ↓reduceIte, Nat.reduceEqDiff, reduceCtorEq, List.length_cons, List.length_nil, Nat.reduceAdd, Nat.reduceLeDiff, Nat.reduceLT, true_and, and_true, decide_eq_true_eq, List.map_cons, List.map_nil, List.cons_append, List.nil_append, List.getElem?_cons_zero, List.drop_succ_cons, List.drop_zero, mens, men, Bool.false_eq_true, Bool.not_true, List.all_cons, List.all_nil, isCell, Bool.and_true, Bool.and_self, cellsOf, totr, totrs, tocs, Nat.zero_add, List.length_map, and_self]
  by_cases h : s.most.length = t.most.length
  · simp only [h, ↓reduceIte, decide_true]
    refine kca_intro (sem_l7SameTable s.sorts t.sorts b4 c4 b5 c5) ?_
    simp only [r_cons, r_nil, r_kont, r_seq1, r_fn2, r_rt, r_op1, r_go1, r_mv, r_pk, r_pkt, r_fin, r_kfe1, r_kcx, r_exps0, r_exps1, r_kex, r_exp1, r_expv2, ptd, keyOf, freshK, lk, pt, addO, xv, kv, kc, ↓reduceIte, Nat.reduceEqDiff, Nat.reduceMul, reduceCtorEq, List.length_nil, Nat.reduceLT, true_and, and_true, noSh, isSc, impv, or_true]
    rw [dc_congr (p := alike s t) ⟨fun g => g.2, fun g => ⟨h, g⟩⟩]
  · have h2 : ¬ (s.most.length : Int) = t.most.length := by omega
    simp only [h2, ↓reduceIte]
    rw [dc_false fun g : alike s t => h g.1]

structure finer (s t : TSorting) : Prop where
  al : alike s t
  tops : partOf s.tops t.tops
  nest : ∀ k, ∀ (h : k < s.nest.length) (h2 : k < t.nest.length), partOf s.nest[k] t.nest[k]
  most : ∀ k, k < s.most.length → g0 s.most k ≤ g0 t.most k
  apart : ∀ p ∈ t.apart, p ∈ s.apart

theorem sem_l7Finer (s t : TSorting) (hN : s.nest.length = t.nest.length) (hs : bdSorting 4294967296 s) (ht : bdSorting 4294967296 t) (lvl : Nat) (S : Sto) : Sem Go.Proofs.Tryd.prog fid_spec_l7Finer lvl [.ag ((cSorting s).map .tr), .ag ((cSorting t).map .tr)] S (iB (dc (finer s t))) S := by
  have hs0 := hs
  have ht0 := ht
  obtain ⟨b1, b2, b3, b4, b5, b6, b7⟩ := hs
  obtain ⟨c1, c2, c3, c4, c5, c6, c7⟩ := ht
  refine sem_of_chk k_spec_l7Finer trivial ?_
  simp only [c_spec_l7Finer, cSorting, r_cons, r_nil, r_kont, r_seq1, r_rg, r_sq, r_wpF, r_op1, r_go1, r_mv, r_bt, r_bt1, r_ld, r_ld4, r_kcn, r_kagn, r_sn0, r_sn1, r_sn3, r_ca, r_ca1, ptd, lk, pt, xv, kv, kc, params, ↓reduceIte, Nat.reduceEqDiff, reduceCtorEq, List.length_cons, List.length_nil, Nat.reduceAdd, Nat.reduceLeDiff, Nat.reduceLT, true_and, List.map_cons, List.map_nil, List.cons_append, List.nil_append, List.take_succ_cons, List.take_zero, mens, men, List.all_cons, List.all_nil, isCell, Bool.and_true, Bool.and_self, cellsOf, totr, totrs, tocs, Nat.zero_add, Nat.le_refl, and_self]
  refine kca_intro (sem_l7Alike s t hs0 ht0) ?_
  cases h1 : dc (alike s t)
  · simp only [r_cons, r_nil, r_kont, r_seq1, r_seq3, r_fn2, r_rg, r_sq, r_rt, r_cd, r_cd2, r_op1, r_op1g, r_gd, r_go1, r_mv, r_nt, r_nt1, r_pk, r_pkt, r_fin, r_kfe1, r_kcx, r_exps0, r_exps1, r_kex, r_exp1, r_expv2, ptd, keyOf, freshK, lk, pt, addO, xv, kv, kc, ↓reduceIte, Nat.reduceEqDiff, Nat.reduceMul, reduceCtorEq, List.length_nil, Nat.reduceLT, true_and, and_true, noSh, isSc, impv, or_true, Bool.true_eq_false, Bool.not_false]
    rw [dc_false fun g : finer s t => dc_not.1 h1 g.al]
  have hM := (dc_iff.1 h1).1
  simp only [r_cons, r_kont, r_op1, r_op1g, r_gd, r_go1, r_mv, r_nt, r_nt1, r_op3, r_fa, r_fa1, r_ltr, r_ld, r_ld1, r_kcn, r_sn0, r_sn1, r_ca, r_ca1, ptd, keyOf, freshK, lk, pt, addO, xv, ↓reduceIte, Nat.reduceEqDiff, Nat.reduceMul, reduceCtorEq, List.length_nil, Nat.reduceLT, true_and, List.map_cons, List.map_nil, List.cons_append, List.nil_append, List.getElem?_cons_zero, List.drop_zero, mens, men, noSh, isSc, impv, or_true, Bool.not_true, and_self]
  refine kca_intro (sem_l7Part s.tops t.tops b1 c1) ?_
  cases h2 : dc (partOf s.tops t.tops)
  · simp only [r_cons, r_nil, r_kont, r_seq1, r_seq3, r_fn2, r_rg, r_sq, r_rt, r_cd, r_cd2, r_op1, r_op1g, r_gd, r_go1, r_mv, r_nt, r_nt1, r_pk, r_pkf, r_fin, r_kfe1, r_kcx, r_exps0, r_exps1, r_kex, r_exp1, r_expv2, ptd, keyOf, freshK, lk, pt, addO, xv, kv, kc, ↓reduceIte, Nat.reduceEqDiff, Nat.reduceMul, reduceCtorEq, List.length_nil, Nat.reduceLT, true_and, and_true, noSh, isSc, impv, or_true, Bool.not_false]
    rw [dc_false fun g : finer s t => dc_not.1 h2 g.tops]
  simp only [r_cons, r_nil, r_kont, r_seq1, r_sk, r_rg, r_sq, r_bl, r_cd, r_cd2, r_op1, r_op1g, r_gd, r_go1, r_mv, r_nt, r_nt1, r_pk, r_pkf, ptd, keyOf, freshK, lk, pt, addO, xv, kv, kc, ↓reduceIte, Nat.reduceEqDiff, Nat.reduceMul, reduceCtorEq, List.length_nil, Nat.reduceLT, true_and, noSh, isSc, impv, or_true, Bool.false_eq_true, Bool.not_true]
  refine wp_cnt (α := Unit) s.nest.length (fun j _ => [(5, iI j)]) (fun j _ => []) (fun j _ => ∀ k, k < j → ∀ (h : k < s.nest.length) (h2 : k < t.nest.length), partOf s.nest[k] t.nest[k]) () (by simp only [r_clean, r_okm4, r_okm11, r_okE0, r_okE1, r_okL0, ↓reduceIte, Nat.reduceEqDiff, reduceCtorEq, memB, keepB, keepOB, Bool.false_eq_true, and_self]) (by (simp only [r_fgt, r_chg, r_pts0, r_pts1, r_ptOs0, pt, ↓reduceIte, Nat.reduceEqDiff, reduceCtorEq, Nat.reduceLT, memB, keepB, keepOB, Bool.false_eq_true, Int.cast_ofNat_Int]) <;> rfl) (fun k hk => absurd hk (Nat.not_lt_zero k)) ?_
  intro j _ hj hA
  simp only [List.length_map, r_cons, r_nil, r_kont, r_seq1, r_seq2, r_blk2, r_sk, r_rg, r_sq, r_bl, r_ex, r_cd, r_cd2, r_op1, r_go1, r_mv, r_bi, r_lti, r_ln, r_ln1, r_op3, r_fa, r_fa1, r_ixn, r_ia, r_ia1, r_ltr, r_ld, r_ld1, r_fgt, r_round2, r_chg, r_pts0, r_pts1, r_ptOs0, ptd, lk, pt, xv, kv, kc, ↓reduceIte, Nat.reduceEqDiff, reduceCtorEq, Nat.reduceLT, true_and, decide_eq_true_eq, List.getElem?_cons_zero, List.drop_succ_cons, List.drop_zero, memB, keepB, keepOB, Bool.false_eq_true, Int.toNat_natCast, Int.natCast_nonneg, List.length_map]
  refine ite_of (fun hlt => ?_) (fun hge => ?_)
  · have hja : j < s.nest.length := by omega
    have hjb : j < t.nest.length := by omega
    have ga := getA (c := eIS) hja
    have gb := getA (c := eIS) hjb
    simp only [ga, gb, r_cons, r_kont, r_op1, r_go1, r_mv, r_op3, r_fa, r_fa1, r_ixn, r_ia, r_iae, r_ia1, r_ltr, r_ld, r_ld1, r_kcn, r_sn0, r_sn1, r_ca, r_ca1, ptd, lk, pt, xv, ↓reduceIte, Nat.reduceEqDiff, List.length_cons, List.length_nil, Nat.reduceLT, true_and, List.map_cons, List.map_nil, List.cons_append, List.nil_append, List.getElem?_cons_zero, List.drop_succ_cons, List.drop_zero, mens, men, Int.toNat_natCast, Nat.zero_add, Int.natCast_nonneg, and_self]
    refine kca_intro (sem_l7Part s.nest[j] t.nest[j] (b3 _ (List.getElem_mem hja)) (c3 _ (List.getElem_mem hjb))) ?_
    cases hc : dc (partOf s.nest[j] t.nest[j])
    · simp only [r_cons, r_nil, r_kont, r_seq1, r_seq3, r_blk3, r_fn2, r_rg, r_sq, r_rt, r_cd, r_cd2, r_op1, r_go1, r_mv, r_nt, r_nt1, r_fin, r_kfe1, r_kcx, r_exps0, r_exps1, r_kex, r_exp1, r_expv2, r_round3, r_lt1, ptd, keyOf, freshK, lk, pt, addO, xv, kv, kc, ↓reduceIte, Nat.reduceEqDiff, Nat.reduceMul, List.length_nil, Nat.reduceLT, true_and, and_true, noSh, isSc, impv, or_true, Bool.not_false]
      rw [dc_false fun g : finer s t => dc_not.1 hc (g.nest j hja hjb)]
    · simp only [r_cons, r_nil, r_kont, r_seq1, r_blk1, r_sk, r_rg, r_cd, r_cd2, r_op1, r_go1, r_mv, r_bi, r_add0, r_nt, r_nt1, r_fgt, r_clean, r_okm4, r_okm11, r_okE0, r_okE1, r_okL0, r_round1, r_lt1, ptd, keyOf, freshK, lk, pt, addO, xv, kv, kc, ↓reduceIte, Nat.reduceEqDiff, Nat.reduceMul, List.length_nil, Nat.reduceLT, true_and, noSh, isSc, impv, memB, keepB, keepOB, or_true, Bool.false_eq_true, Bool.not_true, and_self]
      exact ⟨by rw [fits_i64]; omega, cntJ_intro () hja rfl (all_succ hA fun _ _ => dc_iff.1 hc)⟩
  have hj1 : j = s.nest.length := by omega
  subst hj1
  refine wp_cnt (α := Unit) s.most.length (fun j _ => [(6, iI j)]) (fun j _ => []) (fun j _ => ∀ k, k < j → g0 s.most k ≤ g0 t.most k) () (by simp only [r_clean, r_okm4, r_okm11, r_okE0, r_okE1, r_okL0, ↓reduceIte, Nat.reduceEqDiff, memB, keepB, keepOB, Bool.false_eq_true, and_self]) (by (simp only [r_fgt, r_chg, r_pts0, r_pts1, r_ptOs0, pt, ↓reduceIte, Nat.reduceEqDiff, Nat.reduceLT, memB, keepB, keepOB, Bool.false_eq_true, Int.cast_ofNat_Int]) <;> rfl) (fun k hk => absurd hk (Nat.not_lt_zero k)) ?_
  intro j _ hj hB
  simp only [List.length_map, r_cons, r_nil, r_kont, r_seq1, r_seq2, r_blk2, r_sk, r_rg, r_sq, r_bl, r_ex, r_cd, r_cd2, r_op1, r_go1, r_mv, r_bi, r_lti, r_ln, r_ln1, r_op3, r_fa, r_fa1, r_ixn, r_ia, r_ia1, r_ltr, r_ld, r_ld1, r_fgt, r_round2, r_chg, r_pts0, r_pts1, r_ptOs0, ptd, lk, pt, xv, kv, kc, ↓reduceIte, Nat.reduceEqDiff, Nat.reduceLT, true_and, decide_eq_true_eq, List.getElem?_cons_zero, List.drop_succ_cons, List.drop_zero, memB, keepB, keepOB, Bool.false_eq_true, Int.toNat_natCast, Int.natCast_nonneg, List.length_map]
  refine ite_of (fun hlt => ?_) (fun hge => ?_)
  · have hja : j < s.most.length := by omega
    have hjb : j < t.most.length := by omega
    have ga := rI_get hja
    have gb := rI_get hjb
    simp only [ga, gb, r_cons, r_nil, r_kont, r_seq1, r_seq3, r_blk1, r_blk3, r_fn2, r_sk, r_rg, r_sq, r_rt, r_cd, r_cd2, r_op1, r_go1, r_mv, r_bi, r_add0, r_gti, r_op3, r_fa, r_fa1, r_ixn, r_ia, r_iae, r_ia1, r_ltr, r_ld, r_ld1, r_fin, r_kfe1, r_kcx, r_exps0, r_exps1, r_kex, r_exp1, r_expv2, r_fgt, r_clean, r_okm4, r_okm11, r_okE0, r_okE1, r_okL0, r_round1, r_round3, r_lt1, ptd, lk, pt, xv, kv, kc, ↓reduceIte, Nat.reduceEqDiff, List.length_cons, List.length_nil, Nat.reduceLT, true_and, and_true, decide_eq_true_eq, List.getElem?_cons_zero, List.drop_succ_cons, List.drop_zero, memB, keepB, keepOB, Bool.false_eq_true, Int.toNat_natCast, Nat.zero_add, Int.natCast_nonneg, and_self]
    refine ite_of (fun hgt => ?_) (fun hle => ?_)
    · rw [dc_false fun g : finer s t => by have := g.most j hja; omega]
    · exact ⟨by rw [fits_i64]; omega, cntJ_intro () hja rfl (all_succ hB (by omega))⟩
  have hj2 : j = s.most.length := by omega
  subst hj2
  refine wp_cnt (α := Unit) t.apart.length (fun j _ => [(7, iI j)]) (fun j _ => []) (fun j _ => ∀ k, k < j → ∀ h : k < t.apart.length, t.apart[k] ∈ s.apart) () (by simp only [r_clean, r_okm4, r_okm11, r_okE0, r_okE1, r_okL0, ↓reduceIte, Nat.reduceEqDiff, memB, keepB, keepOB, Bool.false_eq_true, and_self]) (by (simp only [r_fgt, r_chg, r_pts0, r_pts1, r_ptOs0, pt, ↓reduceIte, Nat.reduceEqDiff, Nat.reduceLT, memB, keepB, keepOB, Bool.false_eq_true, Int.cast_ofNat_Int]) <;> rfl) (fun k hk => absurd hk (Nat.not_lt_zero k)) ?_
  intro j _ hj hC
  simp only [List.length_map, r_cons, r_nil, r_kont, r_seq1, r_seq2, r_blk2, r_fn2, r_sk, r_rg, r_sq, r_bl, r_ex, r_rt, r_cd, r_cd2, r_op1, r_go1, r_mv, r_bi, r_lti, r_ln, r_ln1, r_op3, r_fa, r_fa1, r_ixn, r_ia, r_ia1, r_ltr, r_ld, r_ld1, r_fin, r_kfe1, r_kcx, r_exps0, r_exps1, r_kex, r_exp1, r_expv2, r_fgt, r_round2, r_chg, r_pts0, r_pts1, r_ptOs0, ptd, lk, pt, xv, kv, kc, ↓reduceIte, Nat.reduceEqDiff, Nat.reduceLT, true_and, and_true, decide_eq_true_eq, List.getElem?_cons_zero, List.drop_succ_cons, List.drop_zero, memB, keepB, keepOB, Bool.false_eq_true, Int.toNat_natCast, Int.natCast_nonneg, List.length_map]
  refine ite_of (fun hlt => ?_) (fun hge => ?_)
  · have hja : j < t.apart.length := by omega
    have ga := getA (c := cA2) hja
    simp only [ga, cA2, r_cons, r_kont, r_op1, r_go1, r_op3, r_iae, r_ld, r_ld4, r_kcn, r_kagn, r_sn0, r_sn1, r_sn3, r_ca, r_ca1, ptd, lk, pt, xv, ↓reduceIte, Nat.reduceEqDiff, List.length_cons, List.length_nil, Nat.reduceAdd, Nat.reduceLT, true_and, List.map_cons, List.map_nil, List.cons_append, List.nil_append, List.take_succ_cons, List.take_zero, mens, men, Nat.zero_add, Nat.le_refl, and_self]
    refine kca_intro (sem_l7Pair s.apart t.apart[j] b7) ?_
    cases hc : dc (t.apart[j] ∈ s.apart)
    · simp only [r_cons, r_nil, r_kont, r_seq1, r_seq3, r_blk3, r_fn2, r_rg, r_sq, r_rt, r_cd, r_cd2, r_op1, r_go1, r_mv, r_nt, r_nt1, r_fin, r_kfe1, r_kcx, r_exps0, r_exps1, r_kex, r_exp1, r_expv2, r_round3, ptd, keyOf, freshK, lk, pt, addO, xv, kv, kc, ↓reduceIte, Nat.reduceEqDiff, Nat.reduceMul, List.length_nil, Nat.reduceLT, true_and, and_true, noSh, isSc, impv, or_true, Bool.not_false]
      rw [dc_false fun g : finer s t => dc_not.1 hc (g.apart _ (List.getElem_mem hja))]
    · simp only [r_cons, r_nil, r_kont, r_seq1, r_blk1, r_sk, r_rg, r_cd, r_cd2, r_op1, r_go1, r_mv, r_bi, r_add0, r_nt, r_nt1, r_fgt, r_clean, r_okm4, r_okm11, r_okE0, r_okE1, r_okL0, r_round1, r_lt1, ptd, keyOf, freshK, lk, pt, addO, xv, kv, kc, ↓reduceIte, Nat.reduceEqDiff, Nat.reduceMul, List.length_nil, Nat.reduceLT, true_and, noSh, isSc, impv, memB, keepB, keepOB, or_true, Bool.false_eq_true, Bool.not_true, and_self]
      exact ⟨by rw [fits_i64]; omega, cntJ_intro () hja rfl (all_succ hC fun _ => dc_iff.1 hc)⟩
  have hj3 : j = t.apart.length := by omega
  subst hj3
  have : finer s t := ⟨dc_iff.1 h1, dc_iff.1 h2, fun k h h2 => hA k h h h2, hB, fun p hp => by
    obtain ⟨k, hk, rfl⟩ := List.getElem_of_mem hp
    exact hC k hk hk⟩
  rw [dc_true this]

noncomputable def r0_IsFiner (sig : List TControl) (s t : TSorting) : Bool := dc (sortOK sig s ∧ sortOK sig t ∧ finer s t)
noncomputable def r1_IsFiner (sig : List TControl) (s t : TSorting) : Bool := dc (sortOK sig s ∧ sortOK sig t)

theorem sem_spec_IsFiner (sig : List TControl) (s t : TSorting) (hn : sig.length ≤ 4294967296) (hbs : ∀ y ∈ sig, bdControl 4294967296 y) (hs : bdSorting 4294967296 s) (ht : bdSorting 4294967296 t) (lvl : Nat) (S : Sto) : Sem Go.Proofs.Tryd.prog fid_spec_IsFiner lvl [.tr (.sl (sig.map cControl)), .ag ((cSorting s).map .tr), .ag ((cSorting t).map .tr)] S (.tu [iB (r0_IsFiner sig s t), iB (r1_IsFiner sig s t)]) S := by
  refine sem_of_chk k_spec_IsFiner (by simp [low, men, mens]) ?_
  simp only [c_spec_IsFiner, cSorting, r_cons, r_nil, r_kont, r_seq1, r_rg, r_sq, r_wpF, r_op1, r_go1, r_mv, r_bt, r_bt1, r_ld, r_ld4, r_kcn, r_kagn, r_sn0, r_sn1, r_sn3, r_ca, r_ca1, ptd, lk, pt, xv, kv, kc, params, ↓reduceIte, Nat.reduceEqDiff, reduceCtorEq, List.length_cons, List.length_nil, Nat.reduceAdd, Nat.reduceLeDiff, Nat.reduceLT, true_and, List.map_cons, List.map_nil, List.cons_append, List.nil_append, List.take_succ_cons, List.take_zero, mens, men, List.all_cons, List.all_nil, isCell, Bool.and_true, Bool.and_self, cellsOf, totr, totrs, tocs, Nat.zero_add, Nat.le_refl, and_self]
  refine kca_intro (sem_l7Good sig s hn hbs hs) ?_
  unfold r0_IsFiner r1_IsFiner
  cases h1 : dc (sortOK sig s)
  · simp only [r_cons, r_nil, r_kont, r_seq1, r_seq3, r_fn2, r_rg, r_sq, r_rt, r_cd, r_cd2, r_op1, r_op1g, r_gd, r_go1, r_mv, r_nt, r_nt1, r_pk, r_pkt, r_fin, r_kfe2, r_kcx, r_exps0, r_exps1, r_kex, r_exp1, r_expv2, ptd, keyOf, freshK, lk, pt, addO, xv, kv, kc, ↓reduceIte, Nat.reduceEqDiff, Nat.reduceMul, reduceCtorEq, List.length_nil, Nat.reduceLT, true_and, and_true, noSh, isSc, impv, or_true, Bool.true_eq_false, Bool.not_false]
    rw [dc_false fun g => dc_not.1 h1 g.1, dc_false fun g => dc_not.1 h1 g.1]
  simp only [r_cons, r_kont, r_op1, r_op1g, r_gd, r_go1, r_mv, r_nt, r_nt1, r_ld, r_ld4, r_kcn, r_kagn, r_sn0, r_sn1, r_sn3, r_ca, r_ca1, ptd, keyOf, freshK, lk, pt, addO, xv, ↓reduceIte, Nat.reduceEqDiff, Nat.reduceMul, reduceCtorEq, List.length_cons, List.length_nil, Nat.reduceAdd, Nat.reduceLT, true_and, List.map_cons, List.map_nil, List.cons_append, List.nil_append, List.take_succ_cons, List.take_zero, mens, men, noSh, isSc, impv, or_true, Bool.not_true, Nat.zero_add, Nat.le_refl, and_self]
  refine kca_intro (sem_l7Good sig t hn hbs ht) ?_
  cases h2 : dc (sortOK sig t)
  · simp only [r_cons, r_nil, r_kont, r_seq1, r_seq3, r_fn2, r_rg, r_sq, r_rt, r_cd, r_cd2, r_op1, r_op1g, r_gd, r_go1, r_mv, r_nt, r_nt1, r_pk, r_pkf, r_fin, r_kfe2, r_kcx, r_exps0, r_exps1, r_kex, r_exp1, r_expv2, ptd, keyOf, freshK, lk, pt, addO, xv, kv, kc, ↓reduceIte, Nat.reduceEqDiff, Nat.reduceMul, reduceCtorEq, List.length_nil, Nat.reduceLT, true_and, and_true, noSh, isSc, impv, or_true, Bool.not_false]
    rw [dc_false fun g => dc_not.1 h2 g.2.1, dc_false fun g => dc_not.1 h2 g.2]
  simp only [r_cons, r_nil, r_kont, r_seq1, r_sk, r_rg, r_sq, r_cd, r_cd2, r_op1, r_op1g, r_gd, r_go1, r_nt, r_nt1, r_pk, r_pkf, r_ld, r_ld4, r_kcn, r_kagn, r_sn0, r_sn1, r_sn3, r_ca, r_ca1, ptd, keyOf, freshK, lk, pt, addO, xv, kv, kc, ↓reduceIte, Nat.reduceEqDiff, Nat.reduceMul, reduceCtorEq, List.length_cons, List.length_nil, Nat.reduceAdd, Nat.reduceLT, true_and, List.map_cons, List.map_nil, List.cons_append, List.nil_append, List.take_succ_cons, List.take_zero, mens, men, noSh, isSc, impv, or_true, Bool.false_eq_true, Bool.not_true, Nat.zero_add, Nat.le_refl, and_self]
  have g1 := dc_iff.1 h1
  have g2 := dc_iff.1 h2
  refine kca_intro (sem_l7Finer s t (by rw [g1.nestL, g2.nestL]) hs ht) ?_
  simp only [r_cons, r_nil, r_kont, r_seq1, r_fn2, r_rt, r_op1, r_mv, r_fin, r_kfe2, r_kcx, r_exps0, r_exps1, r_kex, r_exp1, r_expv2, ptd, keyOf, freshK, lk, pt, addO, xv, kv, kc, ↓reduceIte, Nat.reduceEqDiff, Nat.reduceMul, reduceCtorEq, List.length_nil, Nat.reduceLT, true_and, and_true, noSh, isSc, impv, or_true]
  rw [dc_congr (p := sortOK sig s ∧ sortOK sig t ∧ finer s t) ⟨fun g => g.2.2, fun g => ⟨g1, g2, g⟩⟩, dc_true (p := sortOK sig s ∧ sortOK sig t) ⟨g1, g2⟩]

/-! ## the program's side -/
theorem sem_isPart_1 (n : Int) (b : List Int) (hb : b.length ≤ 4294967296) (lvl : Nat) (S : Sto) : Sem Go.Proofs.Tryd.prog fid_impl_isPart_1 lvl [iI n, .ta [Tr.sl (rI b)]] S (iB (!decide (n ∈ b))) S := by
  refine sem_of_chk k_impl_isPart_1 trivial ?_
  simp only [c_impl_isPart_1, r_cons, r_nil, r_kont, r_seq1, r_rg, r_sq, r_wpF, r_op1, r_go1, r_mv, r_op3, r_ltr, r_ld, r_ld1, r_kcn, r_sn0, r_sn1, r_ca, r_ca1, ptd, lk, pt, xv, kv, kc, params, ↓reduceIte, Nat.reduceEqDiff, reduceCtorEq, List.length_cons, List.length_nil, Nat.reduceAdd, Nat.reduceLeDiff, Nat.reduceLT, true_and, List.map_cons, List.map_nil, List.cons_append, List.nil_append, List.getElem?_cons_zero, mens, men, Nat.zero_add, and_self]
  refine kca_intro (sem_Contains b n (by omega)) ?_
  simp only [r_cons, r_nil, r_kont, r_seq1, r_fn2, r_rt, r_op1, r_go1, r_mv, r_nt, r_nt1, r_fin, r_kfe1, r_kcx, r_exps0, r_exps1, r_kex, r_exp1, r_expv2, ptd, keyOf, freshK, lk, pt, addO, xv, ↓reduceIte, Nat.reduceEqDiff, Nat.reduceMul, reduceCtorEq, List.length_nil, Nat.reduceLT, noSh, isSc, impv, or_true, and_self]

theorem sem_isPart (a b : List Int) (ha : a.length ≤ 4294967296) (hb : b.length ≤ 4294967296) (lvl : Nat) (S : Sto) : Sem Go.Proofs.Tryd.prog fid_impl_isPart lvl [tI a, tI b] S (iB (dc (partOf a b))) S := by
  refine sem_of_chk k_impl_isPart trivial ?_
  simp only [c_impl_isPart, r_cons, r_nil, r_kont, r_seq1, r_rg, r_sq, r_wpF, r_op1, r_go1, r_mv, r_bt, r_bt1, r_mf, r_mf1, r_kcn, r_kfnn, r_sn0, r_sn1, r_sn4, r_sn5, r_ca, r_ca1, ptd, lk, pt, xv, kv, kc, params, ↓reduceIte, Nat.reduceEqDiff, reduceCtorEq, List.length_cons, List.length_nil, Nat.reduceAdd, Nat.reduceLeDiff, Nat.reduceLT, true_and, List.map_cons, List.map_nil, List.cons_append, List.nil_append, mens, men, List.all_cons, List.all_nil, isCell, Bool.and_true, Bool.and_self, cellsOf, totr, totrs, tocs, Nat.zero_add, and_self]
  refine kca_intro (sem_coF1 (t := tv) (cs := [[Tr.sl (rI b)]]) g_coFI g_ixFI a (by omega) (fun x _ lvl S => sem_isPart_1 x b hb lvl S)) ?_
  cases h : a.any fun n => !decide (n ∈ b)
  · simp only [r_cons, r_nil, r_kont, r_seq1, r_fn2, r_rt, r_op1, r_go1, r_mv, r_nt, r_nt1, r_fin, r_kfe1, r_kcx, r_exps0, r_exps1, r_kex, r_exp1, r_expv2, ptd, keyOf, freshK, lk, pt, addO, xv, ↓reduceIte, Nat.reduceEqDiff, Nat.reduceMul, reduceCtorEq, List.length_nil, Nat.reduceLT, true_and, and_true, noSh, isSc, impv, or_true, Bool.not_false]
    have : partOf a b := fun n hn => by
      have := List.any_eq_false.1 h n hn
      simpa using this
    rw [dc_true this]
  · simp only [r_cons, r_nil, r_kont, r_seq1, r_fn2, r_rt, r_op1, r_go1, r_mv, r_nt, r_nt1, r_fin, r_kfe1, r_kcx, r_exps0, r_exps1, r_kex, r_exp1, r_expv2, ptd, keyOf, freshK, lk, pt, addO, xv, ↓reduceIte, Nat.reduceEqDiff, Nat.reduceMul, reduceCtorEq, List.length_nil, Nat.reduceLT, true_and, and_true, noSh, isSc, impv, or_true, Bool.not_true]
    have : ¬ partOf a b := fun g => by
      obtain ⟨n, hn, h2⟩ := List.any_eq_true.1 h
      simp [g n hn] at h2
    rw [dc_false this]

theorem g_co2 : chkF Go.Proofs.Tryd.prog fid_slices_Contains_2_int_2_int (gCoK 2 fid_slices_Index_2_int_2_int) = true := by kernel_rfl
theorem g_ix2 : chkF Go.Proofs.Tryd.prog fid_slices_Index_2_int_2_int (gIxK 2 [0, 0]) = true := by kernel_rfl
theorem g_coF2 : chkF Go.Proofs.Tryd.prog fid_slices_ContainsFunc_2_int_2_int (gCoF fid_slices_IndexFunc_2_int_2_int) = true := by kernel_rfl
theorem g_ixF2 : chkF Go.Proofs.Tryd.prog fid_slices_IndexFunc_2_int_2_int (gIxF 2 (some 2)) = true := by kernel_rfl
theorem g_eqI : chkF Go.Proofs.Tryd.prog fid_slices_Equal_int_int gEq1 = true := by kernel_rfl
theorem g_eqFI : chkF Go.Proofs.Tryd.prog fid_slices_EqualFunc_int_int_int_int (gEqF 1 none) = true := by kernel_rfl

theorem sem_isFiner_1 (p : A2) (s : TSorting) (hb : s.apart.length ≤ 4294967296) (lvl : Nat) (S : Sto) : Sem Go.Proofs.Tryd.prog fid_impl_isFiner_1 lvl [.ag ((cA2 p).map .tr), .ta (cSorting s)] S (iB (!decide (p ∈ s.apart))) S := by
  refine sem_of_chk k_impl_isFiner_1 trivial ?_
  simp only [c_impl_isFiner_1, cSorting, cA2, r_cons, r_nil, r_kont, r_seq1, r_rg, r_sq, r_wpF, r_op1, r_go1, r_mv, r_bt, r_bt1, r_op3, r_fa, r_fa1, r_ltr, r_ld, r_ld1, r_ld4, r_kcn, r_kagn, r_sn0, r_sn1, r_sn3, r_ca, r_ca1, ptd, lk, pt, xv, kv, kc, params, ↓reduceIte, Nat.reduceEqDiff, reduceCtorEq, List.length_cons, List.length_nil, Nat.reduceAdd, Nat.reduceLeDiff, Nat.reduceLT, true_and, List.map_cons, List.map_nil, List.cons_append, List.nil_append, List.getElem?_cons_zero, List.drop_succ_cons, List.drop_zero, List.take_succ_cons, List.take_zero, mens, men, List.all_cons, List.all_nil, isCell, Bool.and_self, cellsOf, totr, totrs, tocs, Nat.zero_add, Nat.le_refl, and_self]
  refine kca_intro (sem_coK g_co2 g_ix2 cmpKA2 s.apart p (by omega)) ?_
  simp only [r_cons, r_nil, r_kont, r_seq1, r_fn2, r_rt, r_op1, r_go1, r_mv, r_nt, r_nt1, r_fin, r_kfe1, r_kcx, r_exps0, r_exps1, r_kex, r_exp1, r_expv2, ptd, keyOf, freshK, lk, pt, addO, xv, ↓reduceIte, Nat.reduceEqDiff, Nat.reduceMul, reduceCtorEq, List.length_nil, Nat.reduceLT, true_and, and_true, noSh, isSc, impv, or_true]
  by_cases h : p ∈ s.apart <;> simp [h]

theorem sem_isFiner (s t : TSorting) (hal : alike s t) (hN : s.nest.length = t.nest.length) (hs : bdSorting 4294967296 s) (ht : bdSorting 4294967296 t) (lvl : Nat) (S : Sto) : Sem Go.Proofs.Tryd.prog fid_impl_isFiner lvl [.ag ((cSorting s).map .tr), .ag ((cSorting t).map .tr)] S (iB (dc (finer s t))) S := by
  obtain ⟨b1, b2, b3, b4, b5, b6, b7⟩ := hs
  obtain ⟨c1, c2, c3, c4, c5, c6, c7⟩ := ht
  have hM := hal.1
  refine sem_of_chk k_impl_isFiner trivial ?_
  simp only [c_impl_isFiner, List.length_map, cSorting, r_cons, r_nil, r_kont, r_seq1, r_rg, r_sq, r_bl, r_wpF, r_op1, r_go1, r_mv, r_bt, r_bt1, r_ln, r_ln1, r_op3, r_fa, r_fa1, r_ltr, r_ld, r_ld1, ptd, lk, pt, xv, kv, kc, params, ↓reduceIte, Nat.reduceEqDiff, reduceCtorEq, List.length_cons, List.length_nil, Nat.reduceAdd, Nat.reduceLeDiff, Nat.reduceLT, true_and, List.map_cons, List.map_nil, List.getElem?_cons_zero, List.drop_succ_cons, List.drop_zero, List.all_cons, List.all_nil, isCell, Bool.and_true, Bool.and_self, cellsOf, totr, totrs, tocs, Nat.zero_add, List.length_map]
  refine wp_cnt (α := Unit) s.nest.length (fun j _ => [(12, iI j)]) (fun j _ => []) (fun j _ => ∀ k, k < j → ∀ (h : k < s.nest.length) (h2 : k < t.nest.length), partOf s.nest[k] t.nest[k]) () (by simp only [r_clean, r_okm4, r_okm11, r_okE0, r_okE1, r_okL0, ↓reduceIte, Nat.reduceEqDiff, reduceCtorEq, memB, keepB, keepOB, Bool.false_eq_true, and_self]) (by (simp only [r_fgt, r_chg, r_pts0, r_pts1, r_ptOs0, pt, ↓reduceIte, Nat.reduceEqDiff, reduceCtorEq, Nat.reduceLT, memB, keepB, keepOB, Bool.false_eq_true, Int.cast_ofNat_Int]) <;> rfl) (fun k hk => absurd hk (Nat.not_lt_zero k)) ?_
  intro j _ hj hA
  simp only [List.length_map, r_cons, r_nil, r_kont, r_seq1, r_seq2, r_blk2, r_sk, r_rg, r_sq, r_bl, r_ex, r_cd, r_cd2, r_op1, r_go1, r_mv, r_bi, r_lti, r_ln, r_ln1, r_op3, r_fa, r_fa1, r_ixn, r_ia, r_ia1, r_ltr, r_ld, r_ld1, r_fgt, r_round2, r_chg, r_pts0, r_pts1, r_ptOs0, ptd, lk, pt, xv, kv, kc, ↓reduceIte, Nat.reduceEqDiff, reduceCtorEq, Nat.reduceLT, true_and, decide_eq_true_eq, List.getElem?_cons_zero, List.drop_succ_cons, List.drop_zero, memB, keepB, keepOB, Bool.false_eq_true, Int.toNat_natCast, Int.natCast_nonneg, List.length_map]
  refine ite_of (fun hlt => ?_) (fun hge => ?_)
  · have hja : j < s.nest.length := by omega
    have hjb : j < t.nest.length := by omega
    have ga := getA (c := eIS) hja
    have gb := getA (c := eIS) hjb
    simp only [ga, gb, r_cons, r_nil, r_kont, r_seq1, r_rg, r_sq, r_op1, r_go1, r_mv, r_op3, r_fa, r_fa1, r_ixn, r_ia, r_iae, r_ia1, r_ltr, r_ld, r_ld1, r_kcn, r_sn0, r_sn1, r_ca, r_ca1, ptd, lk, pt, xv, ↓reduceIte, Nat.reduceEqDiff, List.length_cons, List.length_nil, Nat.reduceLT, true_and, List.map_cons, List.map_nil, List.cons_append, List.nil_append, List.getElem?_cons_zero, List.drop_succ_cons, List.drop_zero, mens, men, Int.toNat_natCast, Nat.zero_add, Int.natCast_nonneg, and_self]
    refine kca_intro (sem_isPart s.nest[j] t.nest[j] (b3 _ (List.getElem_mem hja)) (c3 _ (List.getElem_mem hjb))) ?_
    cases hc : dc (partOf s.nest[j] t.nest[j])
    · simp only [r_cons, r_nil, r_kont, r_seq1, r_seq3, r_blk3, r_fn2, r_rg, r_sq, r_rt, r_cd, r_cd2, r_op1, r_go1, r_mv, r_nt, r_nt1, r_fin, r_kfe1, r_kcx, r_exps0, r_exps1, r_kex, r_exp1, r_expv2, r_round3, r_lt1, ptd, keyOf, freshK, lk, pt, addO, xv, kv, kc, ↓reduceIte, Nat.reduceEqDiff, Nat.reduceMul, List.length_nil, Nat.reduceLT, true_and, and_true, noSh, isSc, impv, or_true, Bool.not_false]
      rw [dc_false fun g : finer s t => dc_not.1 hc (g.nest j hja hjb)]
    · simp only [r_cons, r_nil, r_kont, r_seq1, r_blk1, r_sk, r_rg, r_cd, r_cd2, r_op1, r_go1, r_mv, r_bi, r_add0, r_nt, r_nt1, r_fgt, r_clean, r_okm4, r_okm11, r_okE0, r_okE1, r_okL0, r_round1, ptd, keyOf, freshK, lk, pt, addO, xv, kv, kc, ↓reduceIte, Nat.reduceEqDiff, Nat.reduceMul, List.length_nil, Nat.reduceLT, true_and, noSh, isSc, impv, memB, keepB, keepOB, or_true, Bool.false_eq_true, Bool.not_true, and_self]
      exact ⟨by rw [fits_i64]; omega, cntJ_intro () hja rfl (all_succ hA fun _ _ => dc_iff.1 hc)⟩
  have hj1 : j = s.nest.length := by omega
  subst hj1
  refine wp_cnt (α := Unit) s.most.length (fun j _ => [(29, iI j)]) (fun j _ => []) (fun j _ => ∀ k, k < j → g0 s.most k ≤ g0 t.most k) () (by simp only [r_clean, r_okm4, r_okm11, r_okE0, r_okE1, r_okL0, ↓reduceIte, Nat.reduceEqDiff, memB, keepB, keepOB, Bool.false_eq_true, and_self]) (by (simp only [r_fgt, r_chg, r_pts0, r_pts1, r_ptOs0, pt, ↓reduceIte, Nat.reduceEqDiff, Nat.reduceLT, memB, keepB, keepOB, Bool.false_eq_true, Int.cast_ofNat_Int]) <;> rfl) (fun k hk => absurd hk (Nat.not_lt_zero k)) ?_
  intro j _ hj hB
  simp only [r_cons, r_nil, r_kont, r_seq1, r_seq2, r_blk2, r_sk, r_rg, r_sq, r_bl, r_ex, r_cd, r_cd2, r_op1, r_go1, r_mv, r_bi, r_lti, r_op3, r_fa, r_fa1, r_ixn, r_ia, r_ia1, r_ltr, r_ld, r_ld1, r_kcn, r_sn0, r_sn1, r_ca, r_ca1, r_fgt, r_round2, r_chg, r_pts0, r_pts1, r_ptOs0, ptd, lk, pt, xv, ↓reduceIte, Nat.reduceEqDiff, Nat.reduceLT, true_and, decide_eq_true_eq, List.map_cons, List.map_nil, List.cons_append, List.nil_append, List.getElem?_cons_zero, List.drop_zero, mens, men, memB, keepB, keepOB, Bool.false_eq_true, Int.toNat_natCast, Int.natCast_nonneg, and_self]
  refine ite_of (fun hlt => ?_) (fun hge => ?_)
  · have hja : j < s.most.length := by omega
    have hjb : j < t.most.length := by omega
    have ga := rI_get hja
    have gb := rI_get hjb
    simp only [ga, gb, r_cons, r_nil, r_kont, r_seq1, r_seq3, r_blk1, r_blk3, r_fn2, r_sk, r_rg, r_sq, r_rt, r_cd, r_cd2, r_op1, r_go1, r_mv, r_bi, r_add0, r_gti, r_op3, r_fa, r_fa1, r_ixn, r_ia, r_iae, r_ia1, r_ltr, r_ld, r_ld1, r_fin, r_kfe1, r_kcx, r_exps0, r_exps1, r_kex, r_exp1, r_expv2, r_fgt, r_clean, r_okm4, r_okm11, r_okE0, r_okE1, r_okL0, r_round1, r_round3, ptd, lk, pt, xv, kv, kc, ↓reduceIte, Nat.reduceEqDiff, List.length_cons, List.length_nil, Nat.reduceLT, true_and, and_true, decide_eq_true_eq, List.getElem?_cons_zero, List.drop_succ_cons, List.drop_zero, memB, keepB, keepOB, Bool.false_eq_true, Int.toNat_natCast, Nat.zero_add, Int.natCast_nonneg, and_self]
    refine ite_of (fun hgt => ?_) (fun hle => ?_)
    · rw [dc_false fun g : finer s t => by have := g.most j hja; omega]
    · exact ⟨by rw [fits_i64]; omega, cntJ_intro () hja rfl (all_succ hB (by omega))⟩
  have hj2 : j = s.most.length := by omega
  subst hj2
  refine kca_intro (sem_isPart s.tops t.tops b1 c1) ?_
  cases h2 : dc (partOf s.tops t.tops)
  · simp only [r_cons, r_nil, r_kont, r_seq1, r_fn2, r_rt, r_op1, r_op1g, r_gd, r_go1, r_mv, r_pk, r_pkf, r_fin, r_kfe1, r_kcx, r_exps0, r_exps1, r_kex, r_exp1, r_expv2, ptd, keyOf, freshK, lk, pt, addO, xv, kv, kc, ↓reduceIte, Nat.reduceEqDiff, Nat.reduceMul, List.length_nil, Nat.reduceLT, true_and, and_true, noSh, isSc, impv, or_true, Bool.false_eq_true, Bool.not_true]
    rw [dc_false fun g : finer s t => dc_not.1 h2 g.tops]
  simp only [r_cons, r_kont, r_op1, r_op1g, r_gd, r_go1, r_mv, r_mf, r_mf1, r_op3, r_fa, r_fa1, r_ltr, r_ld, r_ld1, r_kcn, r_kfnn, r_sn0, r_sn1, r_sn4, r_sn5, r_ca, r_ca1, ptd, keyOf, freshK, lk, pt, addO, xv, ↓reduceIte, Nat.reduceEqDiff, Nat.reduceMul, List.length_nil, Nat.reduceLT, true_and, List.map_cons, List.map_nil, List.cons_append, List.nil_append, List.getElem?_cons_zero, List.drop_succ_cons, List.drop_zero, mens, men, noSh, isSc, impv, or_true, List.all_cons, List.all_nil, isCell, Bool.and_self, and_self]
  refine kca_intro (sem_coFk (cs := [cSorting s]) g_coF2 g_ixF2 cmpKA2.len t.apart (by omega) (fun x _ lvl S => sem_isFiner_1 x s b7 lvl S)) ?_
  cases h3 : t.apart.any fun p => !decide (p ∈ s.apart)
  · simp only [r_cons, r_nil, r_kont, r_seq1, r_fn2, r_rt, r_op1, r_op1g, r_gd, r_go1, r_mv, r_nt, r_nt1, r_pk, r_pkt, r_fin, r_kfe1, r_kcx, r_exps0, r_exps1, r_kex, r_exp1, r_expv2, ptd, keyOf, freshK, lk, pt, addO, xv, kv, kc, ↓reduceIte, Nat.reduceEqDiff, Nat.reduceMul, List.length_nil, Nat.reduceLT, true_and, and_true, noSh, isSc, impv, or_true, Bool.not_false]
    have : finer s t := ⟨hal, dc_iff.1 h2, fun k h h2 => hA k h h h2, hB, fun p hp => by
      have := List.any_eq_false.1 h3 p hp
      simpa using this⟩
    rw [dc_true this]
  · simp only [r_cons, r_nil, r_kont, r_seq1, r_fn2, r_rt, r_op1, r_op1g, r_gd, r_go1, r_mv, r_nt, r_nt1, r_pk, r_pkt, r_fin, r_kfe1, r_kcx, r_exps0, r_exps1, r_kex, r_exp1, r_expv2, ptd, keyOf, freshK, lk, pt, addO, xv, kv, kc, ↓reduceIte, Nat.reduceEqDiff, Nat.reduceMul, List.length_nil, Nat.reduceLT, true_and, and_true, noSh, isSc, impv, or_true, Bool.not_true]
    rw [dc_false fun g : finer s t => by
      obtain ⟨n, hn, h4⟩ := List.any_eq_true.1 h3
      simp [g.apart n hn] at h4]

theorem sem_sameSorts_1 (a b : List Int) (ha : a.length ≤ 4294967296) (lvl : Nat) (S : Sto) : Sem Go.Proofs.Tryd.prog fid_impl_sameSorts_1 lvl [tI a, tI b] S (iB (decide (a = b))) S := by
  refine sem_of_chk k_impl_sameSorts_1 trivial ?_
  simp only [c_impl_sameSorts_1, r_cons, r_nil, r_kont, r_seq1, r_rg, r_sq, r_wpF, r_op1, r_mv, r_kcn, r_sn0, r_sn1, r_ca, r_ca1, ptd, lk, pt, xv, kv, kc, params, ↓reduceIte, Nat.reduceEqDiff, reduceCtorEq, List.length_cons, List.length_nil, Nat.reduceAdd, Nat.reduceLeDiff, Nat.reduceLT, true_and, List.map_cons, List.map_nil, List.cons_append, List.nil_append, mens, men, Nat.zero_add, and_self]
  refine kca_intro (sem_eq1 g_eqI cmpTI a b (by omega)) ?_
  simp only [r_cons, r_nil, r_kont, r_seq1, r_fn2, r_rt, r_op1, r_mv, r_fin, r_kfe1, r_kcx, r_exps0, r_exps1, r_kex, r_exp1, r_expv2, ptd, keyOf, freshK, lk, pt, addO, xv, ↓reduceIte, Nat.reduceEqDiff, Nat.reduceMul, reduceCtorEq, List.length_nil, Nat.reduceLT, noSh, isSc, impv, or_true, and_self]

theorem sem_sameSorts (sig : List TControl) (s t : TSorting) (g1 : sortOK sig s) (g2 : sortOK sig t) (hn : sig.length ≤ 4294967296) (hbs : ∀ y ∈ sig, bdControl 4294967296 y) (hs : bdSorting 4294967296 s) (ht : bdSorting 4294967296 t) (lvl : Nat) (S : Sto) : Sem Go.Proofs.Tryd.prog fid_impl_sameSorts lvl [.tr (.sl (sig.map cControl)), .ag ((cSorting s).map .tr), .ag ((cSorting t).map .tr)] S (iB (dc (alike s t))) S := by
  refine sem_of_chk k_impl_sameSorts trivial ?_
  simp only [c_impl_sameSorts, cSorting, r_cons, r_nil, r_kont, r_seq1, r_rg, r_sq, r_wpF, r_op1, r_go1, r_mv, r_bt, r_bt1, r_ld, r_ld4, r_kcn, r_kagn, r_sn0, r_sn1, r_sn3, r_ca, r_ca1, ptd, lk, pt, xv, kv, kc, params, ↓reduceIte, Nat.reduceEqDiff, reduceCtorEq, List.length_cons, List.length_nil, Nat.reduceAdd, Nat.reduceLeDiff, Nat.reduceLT, true_and, List.map_cons, List.map_nil, List.cons_append, List.nil_append, List.take_succ_cons, List.take_zero, mens, men, List.all_cons, List.all_nil, isCell, Bool.and_true, Bool.and_self, cellsOf, totr, totrs, tocs, Nat.zero_add, Nat.le_refl, and_self]
  refine kca_intro (sem_impl_IsSorting sig s hn hbs hs) ?_
  rw [dc_true g1]
  simp only [r_cons, r_kont, r_op1, r_op1g, r_gd, r_go1, r_mv, r_ld, r_ld4, r_kcn, r_kagn, r_sn0, r_sn1, r_sn3, r_ca, r_ca1, ptd, keyOf, freshK, lk, pt, addO, xv, ↓reduceIte, Nat.reduceEqDiff, Nat.reduceMul, reduceCtorEq, List.length_cons, List.length_nil, Nat.reduceAdd, Nat.reduceLT, true_and, List.map_cons, List.map_nil, List.cons_append, List.nil_append, List.take_succ_cons, List.take_zero, mens, men, noSh, isSc, impv, or_true, Nat.zero_add, Nat.le_refl, and_self]
  refine kca_intro (sem_impl_IsSorting sig t hn hbs ht) ?_
  rw [dc_true g2]
  obtain ⟨b1, b2, b3, b4, b5, b6, b7⟩ := hs
  by_cases h : s.most.length = t.most.length
  · simp only [h, List.length_map, r_cons, r_kont, r_op1, r_op1g, r_gd, r_go1, r_mv, r_bi, r_eqi, r_ln, r_ln1, r_pk, r_pkt, r_op3, r_fa, r_fa1, r_ltr, r_ld, r_ld1, r_kcn, r_kfnn, r_sn0, r_sn1, r_sn4, r_ca, r_ca1, ptd, keyOf, freshK, lk, pt, addO, xv, kv, kc, ↓reduceIte, Nat.reduceEqDiff, Nat.reduceMul, reduceCtorEq, List.length_nil, Nat.reduceLT, true_and, decide_true, List.map_cons, List.map_nil, List.cons_append, List.nil_append, List.getElem?_cons_zero, List.drop_succ_cons, List.drop_zero, mens, men, noSh, isSc, impv, or_true, List.length_map, and_self]
    refine kca_intro (sem_eqF1 (t := fun l => Tr.sl (rI l)) (cs := []) g_eqFI s.sorts t.sorts (by omega) (fun x hx y _ lvl S => sem_sameSorts_1 x y (b5 x hx) lvl S)) ?_
    simp only [r_cons, r_nil, r_kont, r_seq1, r_fn2, r_rt, r_op1, r_go1, r_mv, r_pk, r_pkt, r_fin, r_kfe1, r_kcx, r_exps0, r_exps1, r_kex, r_exp1, r_expv2, ptd, keyOf, freshK, lk, pt, addO, xv, kv, kc, ↓reduceIte, Nat.reduceEqDiff, Nat.reduceMul, reduceCtorEq, List.length_nil, Nat.reduceLT, true_and, and_true, noSh, isSc, impv, or_true]
    rw [dc_congr (p := alike s t) ⟨fun g => g.2, fun g => ⟨h, g⟩⟩, dc_decide]
  · have h2 : ¬ (s.most.length : Int) = t.most.length := by omega
    simp only [h2, List.length_map, r_cons, r_nil, r_kont, r_seq1, r_fn2, r_rt, r_op1, r_op1g, r_gd, r_go1, r_mv, r_bi, r_eqi, r_ln, r_ln1, r_pk, r_pkt, r_pkf, r_op3, r_fa, r_fa1, r_ltr, r_ld, r_ld1, r_fin, r_kfe1, r_kcx, r_exps0, r_exps1, r_kex, r_exp1, r_expv2, ptd, keyOf, freshK, lk, pt, addO, xv, kv, kc, ↓reduceIte, Nat.reduceEqDiff, Nat.reduceMul, reduceCtorEq, List.length_nil, Nat.reduceLT, true_and, and_true, decide_false, List.getElem?_cons_zero, List.drop_succ_cons, List.drop_zero, noSh, isSc, impv, or_true, Bool.false_eq_true, Bool.not_true, List.length_map]
    rw [dc_false fun g : alike s t => h g.1]

theorem sem_impl_IsFiner (sig : List TControl) (s t : TSorting) (hn : sig.length ≤ 4294967296) (hbs : ∀ y ∈ sig, bdControl 4294967296 y) (hs : bdSorting 4294967296 s) (ht : bdSorting 4294967296 t) (lvl : Nat) (S : Sto) : Sem Go.Proofs.Tryd.prog fid_impl_IsFiner lvl [.tr (.sl (sig.map cControl)), .ag ((cSorting s).map .tr), .ag ((cSorting t).map .tr)] S (.tu [iB (r0_IsFiner sig s t), iB (r1_IsFiner sig s t)]) S := by
  refine sem_of_chk k_impl_IsFiner (by simp [low, men, mens]) ?_
  simp only [c_impl_IsFiner, cSorting, r_cons, r_nil, r_kont, r_seq1, r_rg, r_sq, r_wpF, r_op1, r_go1, r_mv, r_bt, r_bt1, r_ld, r_ld4, r_kcn, r_kagn, r_sn0, r_sn1, r_sn3, r_ca, r_ca1, ptd, lk, pt, xv, kv, kc, params, ↓reduceIte, Nat.reduceEqDiff, reduceCtorEq, List.length_cons, List.length_nil, Nat.reduceAdd, Nat.reduceLeDiff, Nat.reduceLT, true_and, List.map_cons, List.map_nil, List.cons_append, List.nil_append, List.take_succ_cons, List.take_zero, mens, men, List.all_cons, List.all_nil, isCell, Bool.and_true, Bool.and_self, cellsOf, totr, totrs, tocs, Nat.zero_add, Nat.le_refl, and_self]
  refine kca_intro (sem_impl_IsSorting sig s hn hbs hs) ?_
  unfold r0_IsFiner r1_IsFiner
  cases h1 : dc (sortOK sig s)
  · simp only [r_cons, r_nil, r_kont, r_seq1, r_seq3, r_fn2, r_rg, r_sq, r_rt, r_cd, r_cd2, r_op1, r_op1g, r_gd, r_go1, r_mv, r_nt, r_nt1, r_pk, r_pkt, r_fin, r_kfe2, r_kcx, r_exps0, r_exps1, r_kex, r_exp1, r_expv2, ptd, keyOf, freshK, lk, pt, addO, xv, kv, kc, ↓reduceIte, Nat.reduceEqDiff, Nat.reduceMul, reduceCtorEq, List.length_nil, Nat.reduceLT, true_and, and_true, noSh, isSc, impv, or_true, Bool.true_eq_false, Bool.not_false]
    rw [dc_false fun g => dc_not.1 h1 g.1, dc_false fun g => dc_not.1 h1 g.1]
  simp only [r_cons, r_kont, r_op1, r_op1g, r_gd, r_go1, r_mv, r_nt, r_nt1, r_ld, r_ld4, r_kcn, r_kagn, r_sn0, r_sn1, r_sn3, r_ca, r_ca1, ptd, keyOf, freshK, lk, pt, addO, xv, ↓reduceIte, Nat.reduceEqDiff, Nat.reduceMul, reduceCtorEq, List.length_cons, List.length_nil, Nat.reduceAdd, Nat.reduceLT, true_and, List.map_cons, List.map_nil, List.cons_append, List.nil_append, List.take_succ_cons, List.take_zero, mens, men, noSh, isSc, impv, or_true, Bool.not_true, Nat.zero_add, Nat.le_refl, and_self]
  refine kca_intro (sem_impl_IsSorting sig t hn hbs ht) ?_
  cases h2 : dc (sortOK sig t)
  · simp only [r_cons, r_nil, r_kont, r_seq1, r_seq3, r_fn2, r_rg, r_sq, r_rt, r_cd, r_cd2, r_op1, r_op1g, r_gd, r_go1, r_mv, r_nt, r_nt1, r_pk, r_pkf, r_fin, r_kfe2, r_kcx, r_exps0, r_exps1, r_kex, r_exp1, r_expv2, ptd, keyOf, freshK, lk, pt, addO, xv, kv, kc, ↓reduceIte, Nat.reduceEqDiff, Nat.reduceMul, reduceCtorEq, List.length_nil, Nat.reduceLT, true_and, and_true, noSh, isSc, impv, or_true, Bool.not_false]
    rw [dc_false fun g => dc_not.1 h2 g.2.1, dc_false fun g => dc_not.1 h2 g.2]
  simp only [r_cons, r_nil, r_kont, r_seq1, r_sk, r_rg, r_sq, r_cd, r_cd2, r_op1, r_op1g, r_gd, r_go1, r_mv, r_nt, r_nt1, r_pk, r_pkf, r_ld, r_ld4, r_kcn, r_kagn, r_sn0, r_sn1, r_sn3, r_ca, r_ca1, ptd, keyOf, freshK, lk, pt, addO, xv, kv, kc, ↓reduceIte, Nat.reduceEqDiff, Nat.reduceMul, reduceCtorEq, List.length_cons, List.length_nil, Nat.reduceAdd, Nat.reduceLT, true_and, List.map_cons, List.map_nil, List.cons_append, List.nil_append, List.take_succ_cons, List.take_zero, mens, men, noSh, isSc, impv, or_true, Bool.false_eq_true, Bool.not_true, Nat.zero_add, Nat.le_refl, and_self]
  have g1 := dc_iff.1 h1
  have g2 := dc_iff.1 h2
  refine kca_intro (sem_sameSorts sig s t g1 g2 hn hbs hs ht) ?_
  cases h3 : dc (alike s t)
  · simp only [r_cons, r_nil, r_kont, r_seq1, r_fn2, r_rt, r_op1, r_op1g, r_gd, r_go1, r_mv, r_pk, r_pkf, r_fin, r_kfe2, r_kcx, r_exps0, r_exps1, r_kex, r_exp1, r_expv2, ptd, keyOf, freshK, lk, pt, addO, xv, kv, kc, ↓reduceIte, Nat.reduceEqDiff, Nat.reduceMul, reduceCtorEq, List.length_nil, Nat.reduceLT, true_and, and_true, noSh, isSc, impv, or_true, Bool.false_eq_true, Bool.not_true]
    rw [dc_false (p := sortOK sig s ∧ sortOK sig t ∧ finer s t) fun g => dc_not.1 h3 g.2.2.al, dc_true (p := sortOK sig s ∧ sortOK sig t) ⟨g1, g2⟩]
  simp only [r_cons, r_kont, r_op1, r_op1g, r_gd, r_go1, r_mv, r_ld, r_ld4, r_kcn, r_kagn, r_sn0, r_sn1, r_sn3, r_ca, r_ca1, ptd, keyOf, freshK, lk, pt, addO, xv, ↓reduceIte, Nat.reduceEqDiff, Nat.reduceMul, reduceCtorEq, List.length_cons, List.length_nil, Nat.reduceAdd, Nat.reduceLT, true_and, List.map_cons, List.map_nil, List.cons_append, List.nil_append, List.take_succ_cons, List.take_zero, mens, men, noSh, isSc, impv, or_true, Nat.zero_add, Nat.le_refl, and_self]
  refine kca_intro (sem_isFiner s t (dc_iff.1 h3) (by rw [g1.nestL, g2.nestL]) hs ht) ?_
  simp only [r_cons, r_nil, r_kont, r_seq1, r_fn2, r_rt, r_op1, r_go1, r_mv, r_pk, r_pkt, r_fin, r_kfe2, r_kcx, r_exps0, r_exps1, r_kex, r_exp1, r_expv2, ptd, keyOf, freshK, lk, pt, addO, xv, kv, kc, ↓reduceIte, Nat.reduceEqDiff, Nat.reduceMul, reduceCtorEq, List.length_nil, Nat.reduceLT, true_and, and_true, noSh, isSc, impv, or_true]
  rw [dc_congr (p := sortOK sig s ∧ sortOK sig t ∧ finer s t) ⟨fun g => g.2.2, fun g => ⟨g1, g2, g⟩⟩, dc_true (p := sortOK sig s ∧ sortOK sig t) ⟨g1, g2⟩]
end Go.Fd

/-
  The annotated codes of the functions, printed by a program of mine (gen.py), and the check that they belong to the program.
-/
namespace Go.Fd
def c_laws_FnExactIsFiner : F2 :=
  { nt := 76, res := [.t 6 [0]], body :=
   (.sq (.rg none [⟨some 4, none, .bt (.t 1)⟩,
      ⟨some 5, none, .bt (.t 2)⟩,
      ⟨some 6, none, .mv (.k (.bool false)) none⟩])
   (.sq (.rg none [⟨some 7, none, .mv (.k (.int .i64 1048576)) none⟩])
   (.sq (.rg none [⟨some 15, none, .mv (.t 0) none⟩,
      ⟨some 16, none, .mv (.t 7) none⟩,
      ⟨some 17, none, .ca .pure false (.f fid_laws_szControlS) [.t 15, .t 16]⟩,
      ⟨some 7, none, .mv (.t 17) none⟩])
   (.sq (.sq (.rg none [⟨some 18, none, .mv (.t 7) none⟩,
       ⟨some 19, none, .bi .lss 0 (.t 18) (.k (.int .i64 0))⟩])
    (.cd (.t 19) (.sq (.rg none [⟨some 6, none, .mv (.k (.bool true)) none⟩])
     (.rt))
    (.sk)))
   (.sq (.rg none [⟨some 20, none, .ld (some 5) (.t 4)⟩,
      ⟨some 21, none, .mv (.t 7) none⟩,
      ⟨some 22, none, .ca .pure false (.f fid_laws_szSorting) [.t 20, .t 21]⟩,
      ⟨some 7, none, .mv (.t 22) none⟩])
   (.sq (.sq (.rg none [⟨some 23, none, .mv (.t 7) none⟩,
       ⟨some 24, none, .bi .lss 0 (.t 23) (.k (.int .i64 0))⟩])
    (.cd (.t 24) (.sq (.rg none [⟨some 6, none, .mv (.k (.bool true)) none⟩])
     (.rt))
    (.sk)))
   (.sq (.rg none [⟨some 25, none, .ld (some 5) (.t 5)⟩,
      ⟨some 26, none, .mv (.t 7) none⟩,
      ⟨some 27, none, .ca .pure false (.f fid_laws_szSorting) [.t 25, .t 26]⟩,
      ⟨some 7, none, .mv (.t 27) none⟩])
   (.sq (.sq (.rg none [⟨some 28, none, .mv (.t 7) none⟩,
       ⟨some 29, none, .bi .lss 0 (.t 28) (.k (.int .i64 0))⟩])
    (.cd (.t 29) (.sq (.rg none [⟨some 6, none, .mv (.k (.bool true)) none⟩])
     (.rt))
    (.sk)))
   (.sq (.rg (some 0) [⟨some 31, none, .mv (.t 0) none⟩,
      ⟨some 32, none, .ca .pure false (.f fid_laws_toControlS) [.t 31]⟩,
      ⟨some 33, none, .ld (some 5) (.t 4)⟩,
      ⟨some 34, none, .ca .pure false (.f fid_laws_toSorting) [.t 33]⟩,
      ⟨some 35, none, .ld (some 5) (.t 5)⟩,
      ⟨some 36, none, .ca .pure false (.f fid_laws_toSorting) [.t 35]⟩,
      ⟨some 37, none, .ca .pure false (.f fid_spec_IsFiner) [.t 32, .t 34, .t 36]⟩,
      ⟨some 30, none, .mv (.t 37) none⟩,
      ⟨some 38, none, .ex 0 (.t 30)⟩,
      ⟨some 39, none, .ex 1 (.t 30)⟩,
      ⟨some 8, none, .mv (.t 38) none⟩,
      ⟨some 9, none, .mv (.t 39) none⟩])
   (.sq (.rg none [⟨some 40, none, .mv (.t 0) none⟩,
      ⟨some 41, none, .ca .pure false (.f fid_laws_toControlS) [.t 40]⟩,
      ⟨some 10, none, .mv (.t 41) none⟩])
   (.sq (.rg none [⟨some 42, none, .ld (some 5) (.t 4)⟩,
      ⟨some 43, none, .ca .pure false (.f fid_laws_toSorting) [.t 42]⟩,
      ⟨some 11, none, .al [.slice none 0 0, .slice none 0 0, .slice none 0 0, .slice none 0 0, .slice none 0 0] []⟩,
      ⟨none, none, .st 5 (.t 11) (.t 43)⟩])
   (.sq (.rg none [⟨some 44, none, .ld (some 5) (.t 5)⟩,
      ⟨some 45, none, .ca .pure false (.f fid_laws_toSorting) [.t 44]⟩,
      ⟨some 12, none, .al [.slice none 0 0, .slice none 0 0, .slice none 0 0, .slice none 0 0, .slice none 0 0] []⟩,
      ⟨none, none, .st 5 (.t 12) (.t 45)⟩])
   (.sq (.rg none [⟨some 47, none, .mv (.t 10) none⟩,
      ⟨some 48, none, .ld (some 5) (.t 11)⟩,
      ⟨some 49, none, .ld (some 5) (.t 12)⟩,
      ⟨some 50, none, .ca .pure false (.f fid_impl_IsFiner) [.t 47, .t 48, .t 49]⟩,
      ⟨some 46, none, .mv (.t 50) none⟩,
      ⟨some 51, none, .ex 0 (.t 46)⟩,
      ⟨some 52, none, .ex 1 (.t 46)⟩,
      ⟨some 13, none, .mv (.t 51) none⟩,
      ⟨some 14, none, .mv (.t 52) none⟩])
   (.sq (.sq (.rg none [⟨some 53, none, .mv (.t 13) none⟩,
       ⟨some 54, none, .mv (.t 8) none⟩,
       ⟨some 55, none, .bi .neq 2 (.t 53) (.t 54)⟩,
       ⟨some 56, none, .mv (.t 55) none⟩,
       ⟨some 57, (some (56, false)), .mv (.t 14) none⟩,
       ⟨some 58, (some (56, false)), .mv (.t 9) none⟩,
       ⟨some 59, (some (56, false)), .bi .neq 2 (.t 57) (.t 58)⟩,
       ⟨some 60, none, .pk (.t 56) (.k (.bool true)) (.t 59)⟩])
    (.cd (.t 60) (.sq (.rg none [⟨some 6, none, .mv (.k (.bool false)) none⟩])
     (.rt))
    (.sk)))
   (.sq (.sq (.rg none [⟨some 61, none, .mv (.t 10) none⟩,
       ⟨some 62, none, .mv (.t 0) none⟩,
       ⟨some 63, none, .ca .pure false (.f fid_laws_toControlS) [.t 62]⟩,
       ⟨some 64, none, .ca .pure false (.f fid_laws_eqControlS) [.t 61, .t 63]⟩,
       ⟨some 65, none, .nt (.t 64)⟩])
    (.cd (.t 65) (.sq (.rg none [⟨some 6, none, .mv (.k (.bool false)) none⟩])
     (.rt))
    (.sk)))
   (.sq (.sq (.rg (some 0) [⟨some 66, none, .ld (some 5) (.t 11)⟩,
       ⟨some 67, none, .ld (some 5) (.t 4)⟩,
       ⟨some 68, none, .ca .pure false (.f fid_laws_toSorting) [.t 67]⟩,
       ⟨some 69, none, .ca .pure false (.f fid_laws_eqSorting) [.t 66, .t 68]⟩,
       ⟨some 70, none, .nt (.t 69)⟩])
    (.cd (.t 70) (.sq (.rg none [⟨some 6, none, .mv (.k (.bool false)) none⟩])
     (.rt))
    (.sk)))
   (.sq (.sq (.rg (some 0) [⟨some 71, none, .ld (some 5) (.t 12)⟩,
       ⟨some 72, none, .ld (some 5) (.t 5)⟩,
       ⟨some 73, none, .ca .pure false (.f fid_laws_toSorting) [.t 72]⟩,
       ⟨some 74, none, .ca .pure false (.f fid_laws_eqSorting) [.t 71, .t 73]⟩,
       ⟨some 75, none, .nt (.t 74)⟩])
    (.cd (.t 75) (.sq (.rg none [⟨some 6, none, .mv (.k (.bool false)) none⟩])
     (.rt))
    (.sk)))
   (.sq (.rg none [⟨some 6, none, .mv (.k (.bool true)) none⟩])
   (.rt))))))))))))))))))) }
theorem k_laws_FnExactIsFiner : chkF Go.Proofs.Tryd.prog fid_laws_FnExactIsFiner c_laws_FnExactIsFiner = true := by kernel_rfl

end Go.Fd

/-
  THE TEXT OF A MARK; THE MARKS OF NUMBERS AND TEXTS. Own work.
-/
namespace Go.Fd
set_option maxRecDepth 20000
def mt (q : Nat) (o : ByteArray) : ByteArray := if q = 0 then o else mt (q / 10) (⟨#[UInt8.ofNat (48 + q % 10)]⟩ ++ o)
  termination_by q
  decreasing_by omega
end Go.Fd

/-
  WHAT THE MARKING FUNCTIONS DO (printed by lawgen.py). Own work.
-/
namespace Go.Fd
set_option maxRecDepth 20000
end Go.Fd

/-
  The annotated codes of the functions, printed by a program of mine (gen.py), and the check that they belong to the program.
-/
namespace Go.Fd
def c_laws_toControlS : F2 :=
  { nt := 23, res := [.t 2 [4]], body :=
   (.sq (.rg none [⟨some 2, none, .mv (.k (.slice none 0 0)) none⟩])
   (.sq (.rg none [⟨some 5, none, .mv (.t 0) none⟩,
      ⟨some 6, none, .ln (.t 5)⟩,
      ⟨some 7, none, .ms 3 [.string ⟨#[]⟩, .int .i64 0, .int .i64 0] (.t 6)⟩,
      ⟨some 3, none, .mv (.t 7) none⟩])
   (.sq (.sq (.rg none [⟨some 4, none, .mv (.k (.int .i64 0)) none⟩])
    (.bl 0 (.lp [0, 3, 4] [224] (.sq (.sq (.rg none [⟨some 8, none, .mv (.t 4) none⟩,
          ⟨some 9, none, .mv (.t 0) none⟩,
          ⟨some 10, none, .ln (.t 9)⟩,
          ⟨some 11, none, .bi .lss 0 (.t 8) (.t 10)⟩])
       (.cd (.t 11) (.sk)
       (.ex 0)))
      (.sq (.bl 1 (.rg none [⟨some 14, none, .mv (.t 3) none⟩,
          ⟨some 15, none, .mv (.t 4) none⟩,
          ⟨some 16, none, .mv (.t 0) none⟩,
          ⟨some 17, none, .mv (.t 4) none⟩,
          ⟨some 18, none, .ia 3 (.t 16) (.t 17)⟩,
          ⟨some 19, none, .ld (some 3) (.t 18)⟩,
          ⟨some 20, none, .ca .pure true (.f fid_laws_toControl) [.t 19]⟩,
          ⟨some 21, none, .ia 3 (.t 14) (.t 15)⟩,
          ⟨none, none, .st 3 (.t 21) (.t 20)⟩]))
      (.rg none [⟨some 12, none, .mv (.t 4) none⟩,
        ⟨some 13, none, .bi .add 0 (.t 12) (.k (.int .i64 1))⟩,
        ⟨some 4, none, .mv (.t 13) none⟩]))))))
   (.sq (.rg none [⟨some 22, none, .mv (.t 3) none⟩,
      ⟨some 2, none, .mv (.t 22) none⟩])
   (.rt))))) }
theorem k_laws_toControlS : chkF Go.Proofs.Tryd.prog fid_laws_toControlS c_laws_toControlS = true := by kernel_rfl

def c_laws_eqSorting : F2 :=
  { nt := 35, res := [.t 4 [0]], body :=
   (.sq (.rg none [⟨some 2, none, .bt (.t 0)⟩,
      ⟨some 3, none, .bt (.t 1)⟩,
      ⟨some 4, none, .mv (.k (.bool false)) none⟩])
   (.sq (.sq (.rg none [⟨some 5, none, .fa 0 (.t 2)⟩,
       ⟨some 6, none, .ld none (.t 5)⟩,
       ⟨some 7, none, .fa 0 (.t 3)⟩,
       ⟨some 8, none, .ld none (.t 7)⟩,
       ⟨some 9, none, .ca .pure false (.f fid_laws_eqIntS) [.t 6, .t 8]⟩,
       ⟨some 10, none, .nt (.t 9)⟩])
    (.cd (.t 10) (.sq (.rg none [⟨some 4, none, .mv (.k (.bool false)) none⟩])
     (.rt))
    (.sk)))
   (.sq (.sq (.rg none [⟨some 11, none, .fa 1 (.t 2)⟩,
       ⟨some 12, none, .ld none (.t 11)⟩,
       ⟨some 13, none, .fa 1 (.t 3)⟩,
       ⟨some 14, none, .ld none (.t 13)⟩,
       ⟨some 15, none, .ca .pure false (.f fid_laws_eqIntSS) [.t 12, .t 14]⟩,
       ⟨some 16, none, .nt (.t 15)⟩])
    (.cd (.t 16) (.sq (.rg none [⟨some 4, none, .mv (.k (.bool false)) none⟩])
     (.rt))
    (.sk)))
   (.sq (.sq (.rg none [⟨some 17, none, .fa 2 (.t 2)⟩,
       ⟨some 18, none, .ld none (.t 17)⟩,
       ⟨some 19, none, .fa 2 (.t 3)⟩,
       ⟨some 20, none, .ld none (.t 19)⟩,
       ⟨some 21, none, .ca .pure false (.f fid_laws_eqIntSS) [.t 18, .t 20]⟩,
       ⟨some 22, none, .nt (.t 21)⟩])
    (.cd (.t 22) (.sq (.rg none [⟨some 4, none, .mv (.k (.bool false)) none⟩])
     (.rt))
    (.sk)))
   (.sq (.sq (.rg none [⟨some 23, none, .fa 3 (.t 2)⟩,
       ⟨some 24, none, .ld none (.t 23)⟩,
       ⟨some 25, none, .fa 3 (.t 3)⟩,
       ⟨some 26, none, .ld none (.t 25)⟩,
       ⟨some 27, none, .ca .pure false (.f fid_laws_eqIntS) [.t 24, .t 26]⟩,
       ⟨some 28, none, .nt (.t 27)⟩])
    (.cd (.t 28) (.sq (.rg none [⟨some 4, none, .mv (.k (.bool false)) none⟩])
     (.rt))
    (.sk)))
   (.sq (.sq (.rg none [⟨some 29, none, .fa 4 (.t 2)⟩,
       ⟨some 30, none, .ld none (.t 29)⟩,
       ⟨some 31, none, .fa 4 (.t 3)⟩,
       ⟨some 32, none, .ld none (.t 31)⟩,
       ⟨some 33, none, .ca .pure false (.f fid_laws_eqIntA2S) [.t 30, .t 32]⟩,
       ⟨some 34, none, .nt (.t 33)⟩])
    (.cd (.t 34) (.sq (.rg none [⟨some 4, none, .mv (.k (.bool false)) none⟩])
     (.rt))
    (.sk)))
   (.sq (.rg none [⟨some 4, none, .mv (.k (.bool true)) none⟩])
   (.rt)))))))) }
theorem k_laws_eqSorting : chkF Go.Proofs.Tryd.prog fid_laws_eqSorting c_laws_eqSorting = true := by kernel_rfl

def c_laws_szSorting : F2 :=
  { nt := 36, res := [.t 4 [0]], body :=
   (.sq (.rg none [⟨some 2, none, .bt (.t 0)⟩,
      ⟨some 4, none, .mv (.k (.int .i64 0)) none⟩])
   (.sq (.rg none [⟨some 5, none, .fa 0 (.t 2)⟩,
      ⟨some 6, none, .ld none (.t 5)⟩,
      ⟨some 7, none, .mv (.t 1) none⟩,
      ⟨some 8, none, .ca .pure false (.f fid_laws_szIntS) [.t 6, .t 7]⟩,
      ⟨some 1, none, .mv (.t 8) none⟩])
   (.sq (.sq (.rg none [⟨some 9, none, .mv (.t 1) none⟩,
       ⟨some 10, none, .bi .lss 0 (.t 9) (.k (.int .i64 0))⟩])
    (.cd (.t 10) (.sq (.rg none [⟨some 4, none, .mv (.k (.int .i64 (-1))) none⟩])
     (.rt))
    (.sk)))
   (.sq (.rg none [⟨some 11, none, .fa 1 (.t 2)⟩,
      ⟨some 12, none, .ld none (.t 11)⟩,
      ⟨some 13, none, .mv (.t 1) none⟩,
      ⟨some 14, none, .ca .pure false (.f fid_laws_szIntSS) [.t 12, .t 13]⟩,
      ⟨some 1, none, .mv (.t 14) none⟩])
   (.sq (.sq (.rg none [⟨some 15, none, .mv (.t 1) none⟩,
       ⟨some 16, none, .bi .lss 0 (.t 15) (.k (.int .i64 0))⟩])
    (.cd (.t 16) (.sq (.rg none [⟨some 4, none, .mv (.k (.int .i64 (-1))) none⟩])
     (.rt))
    (.sk)))
   (.sq (.rg none [⟨some 17, none, .fa 2 (.t 2)⟩,
      ⟨some 18, none, .ld none (.t 17)⟩,
      ⟨some 19, none, .mv (.t 1) none⟩,
      ⟨some 20, none, .ca .pure false (.f fid_laws_szIntSS) [.t 18, .t 19]⟩,
      ⟨some 1, none, .mv (.t 20) none⟩])
   (.sq (.sq (.rg none [⟨some 21, none, .mv (.t 1) none⟩,
       ⟨some 22, none, .bi .lss 0 (.t 21) (.k (.int .i64 0))⟩])
    (.cd (.t 22) (.sq (.rg none [⟨some 4, none, .mv (.k (.int .i64 (-1))) none⟩])
     (.rt))
    (.sk)))
   (.sq (.rg none [⟨some 23, none, .fa 3 (.t 2)⟩,
      ⟨some 24, none, .ld none (.t 23)⟩,
      ⟨some 25, none, .mv (.t 1) none⟩,
      ⟨some 26, none, .ca .pure false (.f fid_laws_szIntS) [.t 24, .t 25]⟩,
      ⟨some 1, none, .mv (.t 26) none⟩])
   (.sq (.sq (.rg none [⟨some 27, none, .mv (.t 1) none⟩,
       ⟨some 28, none, .bi .lss 0 (.t 27) (.k (.int .i64 0))⟩])
    (.cd (.t 28) (.sq (.rg none [⟨some 4, none, .mv (.k (.int .i64 (-1))) none⟩])
     (.rt))
    (.sk)))
   (.sq (.rg none [⟨some 29, none, .fa 4 (.t 2)⟩,
      ⟨some 30, none, .ld none (.t 29)⟩,
      ⟨some 31, none, .mv (.t 1) none⟩,
      ⟨some 32, none, .ca .pure false (.f fid_laws_szIntA2S) [.t 30, .t 31]⟩,
      ⟨some 1, none, .mv (.t 32) none⟩])
   (.sq (.sq (.rg none [⟨some 33, none, .mv (.t 1) none⟩,
       ⟨some 34, none, .bi .lss 0 (.t 33) (.k (.int .i64 0))⟩])
    (.cd (.t 34) (.sq (.rg none [⟨some 4, none, .mv (.k (.int .i64 (-1))) none⟩])
     (.rt))
    (.sk)))
   (.sq (.rg none [⟨some 35, none, .mv (.t 1) none⟩,
      ⟨some 4, none, .mv (.t 35) none⟩])
   (.rt))))))))))))) }
theorem k_laws_szSorting : chkF Go.Proofs.Tryd.prog fid_laws_szSorting c_laws_szSorting = true := by kernel_rfl

def c_laws_toSorting : F2 :=
  { nt := 25, res := [.c 2 (some 5) [2, 2, 2, 2, 3]], body :=
   (.sq (.rg none [⟨some 1, none, .bt (.t 0)⟩,
      ⟨some 2, none, .al [.slice none 0 0, .slice none 0 0, .slice none 0 0, .slice none 0 0, .slice none 0 0] []⟩])
   (.sq (.rg none [⟨some 3, none, .al [.slice none 0 0, .slice none 0 0, .slice none 0 0, .slice none 0 0, .slice none 0 0] []⟩])
   (.sq (.rg none [⟨some 4, none, .fa 0 (.t 1)⟩,
      ⟨some 5, none, .ld none (.t 4)⟩,
      ⟨some 6, none, .ca .pure true (.f fid_laws_toIntS) [.t 5]⟩,
      ⟨some 7, none, .fa 0 (.t 3)⟩,
      ⟨none, none, .st 1 (.t 7) (.t 6)⟩])
   (.sq (.rg none [⟨some 8, none, .fa 1 (.t 1)⟩,
      ⟨some 9, none, .ld none (.t 8)⟩,
      ⟨some 10, none, .ca .pure true (.f fid_laws_toIntSS) [.t 9]⟩,
      ⟨some 11, none, .fa 1 (.t 3)⟩,
      ⟨none, none, .st 1 (.t 11) (.t 10)⟩])
   (.sq (.rg none [⟨some 12, none, .fa 2 (.t 1)⟩,
      ⟨some 13, none, .ld none (.t 12)⟩,
      ⟨some 14, none, .ca .pure true (.f fid_laws_toIntSS) [.t 13]⟩,
      ⟨some 15, none, .fa 2 (.t 3)⟩,
      ⟨none, none, .st 1 (.t 15) (.t 14)⟩])
   (.sq (.rg none [⟨some 16, none, .fa 3 (.t 1)⟩,
      ⟨some 17, none, .ld none (.t 16)⟩,
      ⟨some 18, none, .ca .pure true (.f fid_laws_toIntS) [.t 17]⟩,
      ⟨some 19, none, .fa 3 (.t 3)⟩,
      ⟨none, none, .st 1 (.t 19) (.t 18)⟩])
   (.sq (.rg none [⟨some 20, none, .fa 4 (.t 1)⟩,
      ⟨some 21, none, .ld none (.t 20)⟩,
      ⟨some 22, none, .ca .pure true (.f fid_laws_toIntA2S) [.t 21]⟩,
      ⟨some 23, none, .fa 4 (.t 3)⟩,
      ⟨none, none, .st 1 (.t 23) (.t 22)⟩])
   (.sq (.rg none [⟨some 24, none, .ld (some 5) (.t 3)⟩,
      ⟨none, none, .st 5 (.t 2) (.t 24)⟩])
   (.rt))))))))) }
theorem k_laws_toSorting : chkF Go.Proofs.Tryd.prog fid_laws_toSorting c_laws_toSorting = true := by kernel_rfl

def c_laws_szControl : F2 :=
  { nt := 13, res := [.t 4 [0]], body :=
   (.sq (.rg none [⟨some 2, none, .bt (.t 0)⟩,
      ⟨some 4, none, .mv (.k (.int .i64 0)) none⟩])
   (.sq (.rg none [⟨some 5, none, .mv (.t 1) none⟩,
      ⟨some 6, none, .fa 0 (.t 2)⟩,
      ⟨some 7, none, .ld none (.t 6)⟩,
      ⟨some 8, none, .lg (.t 7)⟩,
      ⟨some 9, none, .bi .sub 0 (.t 5) (.t 8)⟩,
      ⟨some 1, none, .mv (.t 9) none⟩])
   (.sq (.sq (.rg none [⟨some 10, none, .mv (.t 1) none⟩,
       ⟨some 11, none, .bi .lss 0 (.t 10) (.k (.int .i64 0))⟩])
    (.cd (.t 11) (.sq (.rg none [⟨some 4, none, .mv (.k (.int .i64 (-1))) none⟩])
     (.rt))
    (.sk)))
   (.sq (.rg none [⟨some 12, none, .mv (.t 1) none⟩,
      ⟨some 4, none, .mv (.t 12) none⟩])
   (.rt))))) }
theorem k_laws_szControl : chkF Go.Proofs.Tryd.prog fid_laws_szControl c_laws_szControl = true := by kernel_rfl

def c_laws_toControl : F2 :=
  { nt := 14, res := [.c 2 (some 3) [0, 0, 0]], body :=
   (.sq (.rg none [⟨some 1, none, .bt (.t 0)⟩,
      ⟨some 2, none, .al [.string ⟨#[]⟩, .int .i64 0, .int .i64 0] []⟩])
   (.sq (.rg none [⟨some 3, none, .al [.string ⟨#[]⟩, .int .i64 0, .int .i64 0] []⟩])
   (.sq (.rg none [⟨some 4, none, .fa 0 (.t 1)⟩,
      ⟨some 5, none, .ld none (.t 4)⟩,
      ⟨some 6, none, .fa 0 (.t 3)⟩,
      ⟨none, none, .st 1 (.t 6) (.t 5)⟩])
   (.sq (.rg none [⟨some 7, none, .fa 1 (.t 1)⟩,
      ⟨some 8, none, .ld none (.t 7)⟩,
      ⟨some 9, none, .fa 1 (.t 3)⟩,
      ⟨none, none, .st 1 (.t 9) (.t 8)⟩])
   (.sq (.rg none [⟨some 10, none, .fa 2 (.t 1)⟩,
      ⟨some 11, none, .ld none (.t 10)⟩,
      ⟨some 12, none, .fa 2 (.t 3)⟩,
      ⟨none, none, .st 1 (.t 12) (.t 11)⟩])
   (.sq (.rg none [⟨some 13, none, .ld (some 3) (.t 3)⟩,
      ⟨none, none, .st 3 (.t 2) (.t 13)⟩])
   (.rt))))))) }
theorem k_laws_toControl : chkF Go.Proofs.Tryd.prog fid_laws_toControl c_laws_toControl = true := by kernel_rfl

def c_laws_eqControl : F2 :=
  { nt := 20, res := [.t 4 [0]], body :=
   (.sq (.rg none [⟨some 2, none, .bt (.t 0)⟩,
      ⟨some 3, none, .bt (.t 1)⟩,
      ⟨some 4, none, .mv (.k (.bool false)) none⟩])
   (.sq (.sq (.rg none [⟨some 5, none, .fa 0 (.t 2)⟩,
       ⟨some 6, none, .ld none (.t 5)⟩,
       ⟨some 7, none, .fa 0 (.t 3)⟩,
       ⟨some 8, none, .ld none (.t 7)⟩,
       ⟨some 9, none, .bi .neq 0 (.t 6) (.t 8)⟩])
    (.cd (.t 9) (.sq (.rg none [⟨some 4, none, .mv (.k (.bool false)) none⟩])
     (.rt))
    (.sk)))
   (.sq (.sq (.rg none [⟨some 10, none, .fa 1 (.t 2)⟩,
       ⟨some 11, none, .ld none (.t 10)⟩,
       ⟨some 12, none, .fa 1 (.t 3)⟩,
       ⟨some 13, none, .ld none (.t 12)⟩,
       ⟨some 14, none, .bi .neq 0 (.t 11) (.t 13)⟩])
    (.cd (.t 14) (.sq (.rg none [⟨some 4, none, .mv (.k (.bool false)) none⟩])
     (.rt))
    (.sk)))
   (.sq (.sq (.rg none [⟨some 15, none, .fa 2 (.t 2)⟩,
       ⟨some 16, none, .ld none (.t 15)⟩,
       ⟨some 17, none, .fa 2 (.t 3)⟩,
       ⟨some 18, none, .ld none (.t 17)⟩,
       ⟨some 19, none, .bi .neq 0 (.t 16) (.t 18)⟩])
    (.cd (.t 19) (.sq (.rg none [⟨some 4, none, .mv (.k (.bool false)) none⟩])
     (.rt))
    (.sk)))
   (.sq (.rg none [⟨some 4, none, .mv (.k (.bool true)) none⟩])
   (.rt)))))) }
theorem k_laws_eqControl : chkF Go.Proofs.Tryd.prog fid_laws_eqControl c_laws_eqControl = true := by kernel_rfl

def c_laws_toIntSS : F2 :=
  { nt := 23, res := [.t 2 [2]], body :=
   (.sq (.rg none [⟨some 2, none, .mv (.k (.slice none 0 0)) none⟩])
   (.sq (.rg none [⟨some 5, none, .mv (.t 0) none⟩,
      ⟨some 6, none, .ln (.t 5)⟩,
      ⟨some 7, none, .ms 1 [.slice none 0 0] (.t 6)⟩,
      ⟨some 3, none, .mv (.t 7) none⟩])
   (.sq (.sq (.rg none [⟨some 4, none, .mv (.k (.int .i64 0)) none⟩])
    (.bl 0 (.lp [0, 3, 4] [224, 640] (.sq (.sq (.rg none [⟨some 8, none, .mv (.t 4) none⟩,
          ⟨some 9, none, .mv (.t 0) none⟩,
          ⟨some 10, none, .ln (.t 9)⟩,
          ⟨some 11, none, .bi .lss 0 (.t 8) (.t 10)⟩])
       (.cd (.t 11) (.sk)
       (.ex 0)))
      (.sq (.bl 1 (.rg none [⟨some 14, none, .mv (.t 3) none⟩,
          ⟨some 15, none, .mv (.t 4) none⟩,
          ⟨some 16, none, .mv (.t 0) none⟩,
          ⟨some 17, none, .mv (.t 4) none⟩,
          ⟨some 18, none, .ia 1 (.t 16) (.t 17)⟩,
          ⟨some 19, none, .ld none (.t 18)⟩,
          ⟨some 20, none, .ca .pure true (.f fid_laws_toIntS) [.t 19]⟩,
          ⟨some 21, none, .ia 1 (.t 14) (.t 15)⟩,
          ⟨none, none, .st 1 (.t 21) (.t 20)⟩]))
      (.rg none [⟨some 12, none, .mv (.t 4) none⟩,
        ⟨some 13, none, .bi .add 0 (.t 12) (.k (.int .i64 1))⟩,
        ⟨some 4, none, .mv (.t 13) none⟩]))))))
   (.sq (.rg none [⟨some 22, none, .mv (.t 3) none⟩,
      ⟨some 2, none, .mv (.t 22) none⟩])
   (.rt))))) }
theorem k_laws_toIntSS : chkF Go.Proofs.Tryd.prog fid_laws_toIntSS c_laws_toIntSS = true := by kernel_rfl

def c_laws_toIntA2S : F2 :=
  { nt := 23, res := [.t 2 [3]], body :=
   (.sq (.rg none [⟨some 2, none, .mv (.k (.slice none 0 0)) none⟩])
   (.sq (.rg none [⟨some 5, none, .mv (.t 0) none⟩,
      ⟨some 6, none, .ln (.t 5)⟩,
      ⟨some 7, none, .ms 2 [.int .i64 0, .int .i64 0] (.t 6)⟩,
      ⟨some 3, none, .mv (.t 7) none⟩])
   (.sq (.sq (.rg none [⟨some 4, none, .mv (.k (.int .i64 0)) none⟩])
    (.bl 0 (.lp [0, 3, 4] [224] (.sq (.sq (.rg none [⟨some 8, none, .mv (.t 4) none⟩,
          ⟨some 9, none, .mv (.t 0) none⟩,
          ⟨some 10, none, .ln (.t 9)⟩,
          ⟨some 11, none, .bi .lss 0 (.t 8) (.t 10)⟩])
       (.cd (.t 11) (.sk)
       (.ex 0)))
      (.sq (.bl 1 (.rg none [⟨some 14, none, .mv (.t 3) none⟩,
          ⟨some 15, none, .mv (.t 4) none⟩,
          ⟨some 16, none, .mv (.t 0) none⟩,
          ⟨some 17, none, .mv (.t 4) none⟩,
          ⟨some 18, none, .ia 2 (.t 16) (.t 17)⟩,
          ⟨some 19, none, .ld (some 2) (.t 18)⟩,
          ⟨some 20, none, .ca .pure true (.f fid_laws_toIntA2) [.t 19]⟩,
          ⟨some 21, none, .ia 2 (.t 14) (.t 15)⟩,
          ⟨none, none, .st 2 (.t 21) (.t 20)⟩]))
      (.rg none [⟨some 12, none, .mv (.t 4) none⟩,
        ⟨some 13, none, .bi .add 0 (.t 12) (.k (.int .i64 1))⟩,
        ⟨some 4, none, .mv (.t 13) none⟩]))))))
   (.sq (.rg none [⟨some 22, none, .mv (.t 3) none⟩,
      ⟨some 2, none, .mv (.t 22) none⟩])
   (.rt))))) }
theorem k_laws_toIntA2S : chkF Go.Proofs.Tryd.prog fid_laws_toIntA2S c_laws_toIntA2S = true := by kernel_rfl

def c_laws_eqIntA2 : F2 :=
  { nt := 17, res := [.t 4 [0]], body :=
   (.sq (.rg none [⟨some 2, none, .bt (.t 0)⟩,
      ⟨some 3, none, .bt (.t 1)⟩,
      ⟨some 4, none, .mv (.k (.bool false)) none⟩])
   (.sq (.sq (.rg none [⟨some 5, none, .mv (.k (.int .i64 0)) none⟩])
    (.bl 0 (.lp [2, 3, 5] [] (.sq (.sq (.rg none [⟨some 6, none, .mv (.t 5) none⟩,
          ⟨some 7, none, .bi .lss 0 (.t 6) (.k (.int .i64 2))⟩])
       (.cd (.t 7) (.sk)
       (.ex 0)))
      (.sq (.bl 1 (.sq (.rg (some 0) [⟨some 10, none, .mv (.t 5) none⟩,
           ⟨some 11, none, .ja 1 2 (.t 2) (.t 10)⟩,
           ⟨some 12, none, .ld none (.t 11)⟩,
           ⟨some 13, none, .mv (.t 5) none⟩,
           ⟨some 14, none, .ja 1 2 (.t 3) (.t 13)⟩,
           ⟨some 15, none, .ld none (.t 14)⟩,
           ⟨some 16, none, .bi .neq 0 (.t 12) (.t 15)⟩])
        (.cd (.t 16) (.sq (.rg none [⟨some 4, none, .mv (.k (.bool false)) none⟩])
         (.rt))
        (.sk))))
      (.rg none [⟨some 8, none, .mv (.t 5) none⟩,
        ⟨some 9, none, .bi .add 0 (.t 8) (.k (.int .i64 1))⟩,
        ⟨some 5, none, .mv (.t 9) none⟩]))))))
   (.sq (.rg none [⟨some 4, none, .mv (.k (.bool true)) none⟩])
   (.rt)))) }
theorem k_laws_eqIntA2 : chkF Go.Proofs.Tryd.prog fid_laws_eqIntA2 c_laws_eqIntA2 = true := by kernel_rfl

def c_laws_toIntA2 : F2 :=
  { nt := 15, res := [.c 2 (some 2) [0, 0]], body :=
   (.sq (.rg none [⟨some 1, none, .bt (.t 0)⟩,
      ⟨some 2, none, .al [.int .i64 0, .int .i64 0] []⟩])
   (.sq (.rg none [⟨some 3, none, .al [.int .i64 0, .int .i64 0] []⟩])
   (.sq (.sq (.rg none [⟨some 4, none, .mv (.k (.int .i64 0)) none⟩])
    (.bl 0 (.lp [1, 2, 3, 4] [64, 96] (.sq (.sq (.rg none [⟨some 5, none, .mv (.t 4) none⟩,
          ⟨some 6, none, .bi .lss 0 (.t 5) (.k (.int .i64 2))⟩])
       (.cd (.t 6) (.sk)
       (.ex 0)))
      (.sq (.bl 1 (.rg none [⟨some 9, none, .mv (.t 4) none⟩,
          ⟨some 10, none, .mv (.t 4) none⟩,
          ⟨some 11, none, .ja 1 2 (.t 1) (.t 10)⟩,
          ⟨some 12, none, .ld none (.t 11)⟩,
          ⟨some 13, none, .ja 1 2 (.t 3) (.t 9)⟩,
          ⟨none, none, .st 1 (.t 13) (.t 12)⟩]))
      (.rg none [⟨some 7, none, .mv (.t 4) none⟩,
        ⟨some 8, none, .bi .add 0 (.t 7) (.k (.int .i64 1))⟩,
        ⟨some 4, none, .mv (.t 8) none⟩]))))))
   (.sq (.rg none [⟨some 14, none, .ld (some 2) (.t 3)⟩,
      ⟨none, none, .st 2 (.t 2) (.t 14)⟩])
   (.rt))))) }
theorem k_laws_toIntA2 : chkF Go.Proofs.Tryd.prog fid_laws_toIntA2 c_laws_toIntA2 = true := by kernel_rfl

end Go.Fd

/-
  SMALL WORDS FOR MARKS. Own work.
-/
namespace Go.Fd
end Go.Fd

/-
  MARKING STRUCTS; WHETHER MARKS ARE HELD (printed by lawgen.py). Own work.
-/
namespace Go.Fd
set_option maxRecDepth 20000
end Go.Fd

/-
  HOW MANY MARKS A THING TAKES, AGAINST ITS SIZE (printed by lawgen.py). Own work.
-/
namespace Go.Fd
end Go.Fd

/-
  WHAT HOLDS OF THE HELPERS OF THE LAWS (printed by lawgen.py). Own work.
-/
namespace Go.Fd
set_option maxRecDepth 20000
theorem szN_le {n : Nat} {l : Int} (h : 0 ≤ l) : szN n l ≤ l := by unfold szN; split <;> omega
theorem szF_le {α : Type} {f : α → Int → Int} : ∀ (a : List α) (l : Int), (∀ x ∈ a, ∀ l : Int, 0 ≤ l → l ≤ 1048576 → f x l ≤ l) → 0 ≤ l → l ≤ 1048576 → szF f a l ≤ l
  | [], l, _, _, _ => Int.le_refl l
  | x :: r, l, hf, h0, h1 => by
    simp only [szF]
    have := hf x (by simp) l h0 h1
    split
    · omega
    · have h2 := szF_le r (f x l) (fun y hy => hf y (by simp [hy])) (by omega) (by omega)
      omega
theorem szL_le {α : Type} {f : α → Int → Int} (a : List α) {l : Int} (hf : ∀ x ∈ a, ∀ l : Int, 0 ≤ l → l ≤ 1048576 → f x l ≤ l) (h0 : 0 ≤ l) (h1 : l ≤ 1048576) : szL f a l ≤ l := by
  unfold szL
  split
  · omega
  · have := szF_le a (l - a.length) hf (by omega) (by omega)
    omega
theorem szTh_le {l m : Int} {g : Int → Int} (h0 : 0 ≤ l) (h : m ≤ l) (hg : 0 ≤ m → g m ≤ m) : szTh m g ≤ l := by
  unfold szTh
  split
  · omega
  · have := hg (by omega)
    omega
theorem g_szIntS : chkF Go.Proofs.Tryd.prog fid_laws_szIntS sz0 = true := by kernel_rfl
theorem sem_szIntS (a : List Int) (hl : a.length ≤ 9223372036854775807) (l : Int) (h0 : 0 ≤ l) (h1 : l ≤ 1048576) : szN a.length l ≤ l ∧ ∀ lvl S, Sem Go.Proofs.Tryd.prog fid_laws_szIntS lvl [.tr (.sl (rI a)), iI l] S (iI (szN a.length l)) S := by
  refine ⟨szN_le h0, fun lvl S => ?_⟩
  have := sem_sz0 g_szIntS (rI a) l (by simpa using hl) h0 h1 lvl S
  simpa using this
theorem g_szIntSS : chkF Go.Proofs.Tryd.prog fid_laws_szIntSS (szSl 1 none fid_laws_szIntS) = true := by kernel_rfl
theorem sem_szIntSS (a : (List (List Int))) (hl : a.length ≤ 9223372036854775807) (hb : ∀ y ∈ a, y.length ≤ 9223372036854775807) (l : Int) (h0 : 0 ≤ l) (h1 : l ≤ 1048576) : szL (fun x m => (szN x.length m)) a l ≤ l ∧ ∀ lvl S, Sem Go.Proofs.Tryd.prog fid_laws_szIntSS lvl [.tr (.sl (a.map (fun l => [Tr.sl (rI l)]))), iI l] S (iI (szL (fun x m => (szN x.length m)) a l)) S :=
  ⟨szL_le a (fun x hx l h0 h1 => (sem_szIntS x (hb x hx) l h0 h1).1) h0 h1, fun lvl S => sem_szS1 g_szIntSS (fun l => Tr.sl (rI l)) (fun x m => (szN x.length m)) a l hl h0 h1 (fun x hx l h0 h1 => sem_szIntS x (hb x hx) l h0 h1) lvl S⟩
theorem g_szIntA2S : chkF Go.Proofs.Tryd.prog fid_laws_szIntA2S sz0 = true := by kernel_rfl
theorem sem_szIntA2S (a : List (Int × Int)) (hl : a.length ≤ 9223372036854775807) (l : Int) (h0 : 0 ≤ l) (h1 : l ≤ 1048576) : szN a.length l ≤ l ∧ ∀ lvl S, Sem Go.Proofs.Tryd.prog fid_laws_szIntA2S lvl [.tr (.sl (a.map cA2)), iI l] S (iI (szN a.length l)) S := by
  refine ⟨szN_le h0, fun lvl S => ?_⟩
  have := sem_sz0 g_szIntA2S (a.map cA2) l (by simpa using hl) h0 h1 lvl S
  simpa using this
theorem sem_szSorting (x : TSorting) (hb : bdSorting 9223372036854775807 x) (l : Int) (h0 : 0 ≤ l) (h1 : l ≤ 1048576) : szSorting x l ≤ l ∧ ∀ lvl S, Sem Go.Proofs.Tryd.prog fid_laws_szSorting lvl [.ag ((cSorting x).map .tr), iI l] S (iI (szSorting x l)) S := by
  obtain ⟨b0, b1, b2, b3, b4, b5, b6⟩ := hb
  refine ⟨?_, fun lvl S => ?_⟩
  · unfold szSorting
    have q0 := sem_szIntS x.tops b0 _ h0 h1
    refine szTh_le h0 q0.1 (fun p0 => ?_)
    have r0 : _ ≤ (1048576 : Int) := Int.le_trans q0.1 h1
    have q1 := sem_szIntSS x.nest b1 b2 _ p0 r0
    refine szTh_le p0 q1.1 (fun p1 => ?_)
    have r1 : _ ≤ (1048576 : Int) := Int.le_trans q1.1 r0
    have q2 := sem_szIntSS x.sorts b3 b4 _ p1 r1
    refine szTh_le p1 q2.1 (fun p2 => ?_)
    have r2 : _ ≤ (1048576 : Int) := Int.le_trans q2.1 r1
    have q3 := sem_szIntS x.most b5 _ p2 r2
    refine szTh_le p2 q3.1 (fun p3 => ?_)
    have r3 : _ ≤ (1048576 : Int) := Int.le_trans q3.1 r2
    have q4 := sem_szIntA2S x.apart b6 _ p3 r3
    refine szTh_le p3 q4.1 (fun p4 => ?_)
    have r4 : _ ≤ (1048576 : Int) := Int.le_trans q4.1 r3
    exact Int.le_refl _
  · refine sem_of_chk k_laws_szSorting trivial ?_
    simp only [c_laws_szSorting, cSorting, List.map_cons, List.map_nil, r_cons, r_nil, r_kont, r_seq1, r_rg, r_sq, r_wpF, r_op1, r_go1, r_mv, r_bt, r_bt1, r_op3, r_fa, r_fa1, r_ltr, r_ld, r_ld1, r_kcn, r_sn0, r_sn1, r_ca, r_ca1, ptd, lk, pt, xv, kv, kc, params, ↓reduceIte, Nat.reduceEqDiff, reduceCtorEq, List.length_cons, List.length_nil, Nat.reduceAdd, Nat.reduceLeDiff, Nat.reduceLT, true_and, List.map_cons, List.map_nil, List.cons_append, List.nil_append, List.getElem?_cons_zero, List.drop_zero, mens, men, List.all_cons, List.all_nil, isCell, Bool.and_true, Bool.and_self, cellsOf, totr, totrs, tocs, Nat.zero_add, and_self]
    unfold szSorting
    have q0 := sem_szIntS x.tops b0 l h0 h1
    refine kca_intro q0.2 ?_
    simp only [r_cons, r_nil, r_kont, r_seq1, r_seq3, r_fn2, r_sk, r_rg, r_sq, r_rt, r_cd, r_cd2, r_op1, r_go1, r_mv, r_bi, r_lti, r_op3, r_fa, r_fa1, r_ltr, r_ld, r_ld1, r_kcn, r_sn0, r_sn1, r_ca, r_ca1, r_fin, r_kfe1, r_kcx, r_exps0, r_exps1, r_kex, r_exp1, r_expv2, ptd, keyOf, freshK, lk, pt, addO, xv, kv, kc, ↓reduceIte, Nat.reduceEqDiff, Nat.reduceMul, reduceCtorEq, List.length_nil, Nat.reduceLT, true_and, and_true, decide_eq_true_eq, List.map_cons, List.map_nil, List.cons_append, List.nil_append, List.getElem?_cons_zero, List.drop_succ_cons, List.drop_zero, mens, men, noSh, isSc, impv, or_true, and_self]
    obtain ⟨l1, hl1⟩ : ∃ m : Int, m = (szN x.tops.length l) := ⟨_, rfl⟩
    have u1 : l1 ≤ l := by rw [hl1]; exact q0.1
    rw [← hl1]
    split
    · rename_i hn; rw [szTh, if_pos hn]
    rename_i hn0
    rw [szTh, if_neg hn0]
    have q1 := sem_szIntSS x.nest b1 b2 l1 (show 0 ≤ l1 by omega) (show l1 ≤ 1048576 by omega)
    refine kca_intro q1.2 ?_
    simp only [r_cons, r_nil, r_kont, r_seq1, r_seq3, r_fn2, r_sk, r_rg, r_sq, r_rt, r_cd, r_cd2, r_op1, r_go1, r_mv, r_bi, r_lti, r_op3, r_fa, r_fa1, r_ltr, r_ld, r_ld1, r_kcn, r_sn0, r_sn1, r_ca, r_ca1, r_fin, r_kfe1, r_kcx, r_exps0, r_exps1, r_kex, r_exp1, r_expv2, ptd, keyOf, freshK, lk, pt, addO, xv, kv, kc, ↓reduceIte, Nat.reduceEqDiff, Nat.reduceMul, reduceCtorEq, List.length_nil, Nat.reduceLT, true_and, and_true, decide_eq_true_eq, List.map_cons, List.map_nil, List.cons_append, List.nil_append, List.getElem?_cons_zero, List.drop_succ_cons, List.drop_zero, mens, men, noSh, isSc, impv, or_true, and_self]
    obtain ⟨l2, hl2⟩ : ∃ m : Int, m = (szL (fun x m => (szN x.length m)) x.nest l1) := ⟨_, rfl⟩
    have u2 : l2 ≤ l1 := by rw [hl2]; exact q1.1
    rw [← hl2]
    split
    · rename_i hn; rw [szTh, if_pos hn]
    rename_i hn1
    rw [szTh, if_neg hn1]
    have q2 := sem_szIntSS x.sorts b3 b4 l2 (show 0 ≤ l2 by omega) (show l2 ≤ 1048576 by omega)
    refine kca_intro q2.2 ?_
    simp only [r_cons, r_nil, r_kont, r_seq1, r_seq3, r_fn2, r_sk, r_rg, r_sq, r_rt, r_cd, r_cd2, r_op1, r_go1, r_mv, r_bi, r_lti, r_op3, r_fa, r_fa1, r_ltr, r_ld, r_ld1, r_kcn, r_sn0, r_sn1, r_ca, r_ca1, r_fin, r_kfe1, r_kcx, r_exps0, r_exps1, r_kex, r_exp1, r_expv2, ptd, keyOf, freshK, lk, pt, addO, xv, kv, kc, ↓reduceIte, Nat.reduceEqDiff, Nat.reduceMul, reduceCtorEq, List.length_nil, Nat.reduceLT, true_and, and_true, decide_eq_true_eq, List.map_cons, List.map_nil, List.cons_append, List.nil_append, List.getElem?_cons_zero, List.drop_succ_cons, List.drop_zero, mens, men, noSh, isSc, impv, or_true, and_self]
    obtain ⟨l3, hl3⟩ : ∃ m : Int, m = (szL (fun x m => (szN x.length m)) x.sorts l2) := ⟨_, rfl⟩
    have u3 : l3 ≤ l2 := by rw [hl3]; exact q2.1
    rw [← hl3]
    split
    · rename_i hn; rw [szTh, if_pos hn]
    rename_i hn2
    rw [szTh, if_neg hn2]
    have q3 := sem_szIntS x.most b5 l3 (show 0 ≤ l3 by omega) (show l3 ≤ 1048576 by omega)
    refine kca_intro q3.2 ?_
    simp only [r_cons, r_nil, r_kont, r_seq1, r_seq3, r_fn2, r_sk, r_rg, r_sq, r_rt, r_cd, r_cd2, r_op1, r_go1, r_mv, r_bi, r_lti, r_op3, r_fa, r_fa1, r_ltr, r_ld, r_ld1, r_kcn, r_sn0, r_sn1, r_ca, r_ca1, r_fin, r_kfe1, r_kcx, r_exps0, r_exps1, r_kex, r_exp1, r_expv2, ptd, keyOf, freshK, lk, pt, addO, xv, kv, kc, ↓reduceIte, Nat.reduceEqDiff, Nat.reduceMul, reduceCtorEq, List.length_nil, Nat.reduceLT, true_and, and_true, decide_eq_true_eq, List.map_cons, List.map_nil, List.cons_append, List.nil_append, List.getElem?_cons_zero, List.drop_succ_cons, List.drop_zero, mens, men, noSh, isSc, impv, or_true, and_self]
    obtain ⟨l4, hl4⟩ : ∃ m : Int, m = (szN x.most.length l3) := ⟨_, rfl⟩
    have u4 : l4 ≤ l3 := by rw [hl4]; exact q3.1
    rw [← hl4]
    split
    · rename_i hn; rw [szTh, if_pos hn]
    rename_i hn3
    rw [szTh, if_neg hn3]
    have q4 := sem_szIntA2S x.apart b6 l4 (show 0 ≤ l4 by omega) (show l4 ≤ 1048576 by omega)
    refine kca_intro q4.2 ?_
    simp only [r_cons, r_nil, r_kont, r_seq1, r_seq3, r_fn2, r_sk, r_rg, r_sq, r_rt, r_cd, r_cd2, r_op1, r_go1, r_mv, r_bi, r_lti, r_fin, r_kfe1, r_kcx, r_exps0, r_exps1, r_kex, r_exp1, r_expv2, ptd, keyOf, freshK, lk, pt, addO, xv, kv, kc, ↓reduceIte, Nat.reduceEqDiff, Nat.reduceMul, reduceCtorEq, List.length_nil, Nat.reduceLT, true_and, and_true, decide_eq_true_eq, noSh, isSc, impv, or_true]
    obtain ⟨l5, hl5⟩ : ∃ m : Int, m = (szN x.apart.length l4) := ⟨_, rfl⟩
    have u5 : l5 ≤ l4 := by rw [hl5]; exact q4.1
    rw [← hl5]
    split
    · rename_i hn; rw [szTh, if_pos hn]
    rename_i hn4
    rw [szTh, if_neg hn4]
theorem sem_szControl (x : TControl) (hb : bdControl 9223372036854775807 x) (l : Int) (h0 : 0 ≤ l) (h1 : l ≤ 1048576) : szControl x l ≤ l ∧ ∀ lvl S, Sem Go.Proofs.Tryd.prog fid_laws_szControl lvl [.ag ((cControl x).map .tr), iI l] S (iI (szControl x l)) S := by
  have b0 : x.name.size ≤ 9223372036854775807 := hb
  refine ⟨?_, fun lvl S => ?_⟩
  · unfold szControl
    refine szTh_le h0 (m := l - x.name.size) (by omega) (fun p0 => ?_)
    have r0 : _ ≤ (1048576 : Int) := Int.le_trans (show l - x.name.size ≤ l by omega) h1
    exact Int.le_refl _
  · refine sem_of_chk k_laws_szControl trivial ?_
    simp only [c_laws_szControl, cControl, List.map_cons, List.map_nil, r_cons, r_nil, r_kont, r_seq1, r_seq3, r_fn2, r_sk, r_rg, r_sq, r_rt, r_cd, r_cd2, r_wpF, r_op1, r_go1, r_mv, r_bt, r_bt1, r_bi, r_sub0, r_lti, r_lg, r_lg1, r_op3, r_fa, r_fa1, r_ltr, r_ld, r_ld1, r_fin, r_kfe1, r_kcx, r_exps0, r_exps1, r_kex, r_exp1, r_expv2, ptd, lk, pt, xv, kv, kc, params, ↓reduceIte, Nat.reduceEqDiff, reduceCtorEq, List.length_cons, List.length_nil, Nat.reduceAdd, Nat.reduceLeDiff, Nat.reduceLT, true_and, and_true, decide_eq_true_eq, List.map_cons, List.map_nil, List.getElem?_cons_zero, List.drop_zero, List.all_cons, List.all_nil, isCell, Bool.and_self, cellsOf, totr, totrs, tocs, Nat.zero_add]
    unfold szControl
    refine ⟨by rw [fits_i64]; omega, ?_⟩
    obtain ⟨l1, hl1⟩ : ∃ m : Int, m = l - x.name.size := ⟨_, rfl⟩
    have u1 : l1 ≤ l := by omega
    rw [← hl1]
    split
    · rename_i hn; rw [szTh, if_pos hn]
    rename_i hn0
    rw [szTh, if_neg hn0]
theorem g_szControlS : chkF Go.Proofs.Tryd.prog fid_laws_szControlS (szSl 3 (some 3) fid_laws_szControl) = true := by kernel_rfl
theorem sem_szControlS (a : List TControl) (hl : a.length ≤ 9223372036854775807) (hb : ∀ y ∈ a, bdControl 9223372036854775807 y) (l : Int) (h0 : 0 ≤ l) (h1 : l ≤ 1048576) : szL szControl a l ≤ l ∧ ∀ lvl S, Sem Go.Proofs.Tryd.prog fid_laws_szControlS lvl [.tr (.sl (a.map cControl)), iI l] S (iI (szL szControl a l)) S :=
  ⟨szL_le a (fun x hx l h0 h1 => (sem_szControl x (hb x hx) l h0 h1).1) h0 h1, fun lvl S => sem_szSl g_szControlS cControl szControl cControl_len a l hl h0 h1 (fun x hx l h0 h1 => sem_szControl x (hb x hx) l h0 h1) lvl S⟩
end Go.Fd

/-
  WHAT HOLDS OF THE HELPERS OF THE LAWS: eq.. (printed by lawgen.py). Own work.
-/
namespace Go.Fd
set_option maxRecDepth 20000
theorem g_eqIntS : chkF Go.Proofs.Tryd.prog fid_laws_eqIntS eqS1 = true := by kernel_rfl
theorem sem_eqIntS (a b : (List Int)) (ha : a.length ≤ 9223372036854775807) (lvl : Nat) (S : Sto) : Sem Go.Proofs.Tryd.prog fid_laws_eqIntS lvl [.tr (.sl (rI a)), .tr (.sl (rI b))] S (iB (decide (a = b))) S := sem_eqI g_eqIntS a b ha lvl S
theorem g_eqIntSS : chkF Go.Proofs.Tryd.prog fid_laws_eqIntSS (eqSl 1 none fid_laws_eqIntS) = true := by kernel_rfl
theorem sem_eqIntSS (a b : (List (List Int))) (ha : a.length ≤ 9223372036854775807) (ha2 : ∀ y ∈ a, y.length ≤ 9223372036854775807) (lvl : Nat) (S : Sto) : Sem Go.Proofs.Tryd.prog fid_laws_eqIntSS lvl [.tr (.sl (a.map (fun l => [Tr.sl (rI l)]))), .tr (.sl (b.map (fun l => [Tr.sl (rI l)])))] S (iB (decide (a = b))) S :=
  sem_eqSl1 g_eqIntSS (fun l => Tr.sl (rI l)) a b ha (fun x hx y _ lvl S => sem_eqIntS x y (ha2 x hx) lvl S) lvl S
theorem sem_eqIntA2 (x y : (Int × Int)) (lvl : Nat) (S : Sto) : Sem Go.Proofs.Tryd.prog fid_laws_eqIntA2 lvl [.ag ((cA2 x).map .tr), .ag ((cA2 y).map .tr)] S (iB (decide (x = y))) S := by
  refine sem_of_chk k_laws_eqIntA2 trivial ?_
  simp only [c_laws_eqIntA2, cA2, r_cons, r_nil, r_kont, r_seq1, r_rg, r_sq, r_bl, r_wpF, r_op1, r_mv, r_bt, r_bt1, ptd, lk, pt, xv, kv, kc, params, ↓reduceIte, Nat.reduceEqDiff, reduceCtorEq, List.length_cons, List.length_nil, Nat.reduceAdd, Nat.reduceLeDiff, Nat.reduceLT, true_and, List.map_cons, List.map_nil, List.all_cons, List.all_nil, isCell, Bool.and_self, cellsOf, totr, totrs, tocs, Nat.zero_add]
  refine wp_count (α := Unit) 2 (fun j _ => ⟨lvl, [(2, .ta (cA2 x)), (3, .ta (cA2 y)), (5, iI j)], [], S⟩) (fun j _ => (cA2 x).take j = (cA2 y).take j) () ⟨by simp only [r_clean, r_okm4, r_okm11, r_okE0, r_okE1, r_okL0, ↓reduceIte, Nat.reduceEqDiff, reduceCtorEq, memB, keepB, keepOB, Bool.false_eq_true, and_self], by (simp only [r_fgt, ↓reduceIte, Nat.reduceEqDiff, reduceCtorEq, memB, keepB, keepOB, Bool.false_eq_true, Int.cast_ofNat_Int]) <;> rfl⟩ rfl ?_
  intro j _ hj hA
  have hc : j = 0 ∨ j = 1 ∨ j = 2 := by omega
  rcases hc with rfl | rfl | rfl
  · simp only [cA2, Int.cast_ofNat_Int, Nat.mul_one, r_cons, r_nil, r_kont, r_seq1, r_seq3, r_blk1, r_blk3, r_fn2, r_sk, r_rg, r_sq, r_bl, r_rt, r_cd, r_cd2, r_op1, r_go1, r_mv, r_bi, r_add0, r_nei, r_lti, r_op3, r_ixn, r_ja, r_ja1, r_ltr, r_ld, r_ld1, r_fin, r_kfe1, r_kcx, r_exps0, r_exps1, r_kex, r_exp1, r_expv2, r_fgt, r_clean, r_okm4, r_okm11, r_okE0, r_okE1, r_okL0, r_round1, r_round3, r_lt1, ptd, lk, pt, xv, kv, kc, ↓reduceIte, Nat.reduceEqDiff, Nat.reduceSub, Nat.reduceLT, true_and, and_true, decide_eq_true_eq, decide_true, List.getElem?_cons_zero, List.drop_zero, memB, keepB, keepOB, Bool.false_eq_true, Int.toNat_zero, Int.reduceLE, Int.reduceLT, ne_eq, and_self, Int.cast_ofNat_Int]
    refine ite_of (fun hne => ?_) (fun heq => ?_)
    · have : ¬ x = y := fun e => hne (by rw [e])
      simp [this]
    · refine ⟨by rw [fits_i64]; omega, cntJ_intro (N := 2) (k := 0) () (by omega) rfl ?_⟩
      simp [cA2] at hA ⊢
      simp_all
  · simp only [cA2, Int.cast_ofNat_Int, Nat.mul_one, r_cons, r_nil, r_kont, r_seq1, r_seq3, r_blk1, r_blk3, r_fn2, r_sk, r_rg, r_sq, r_bl, r_rt, r_cd, r_cd2, r_op1, r_go1, r_mv, r_bi, r_add0, r_nei, r_lti, r_op3, r_ixn, r_ja, r_ja1, r_ltr, r_ld, r_ld1, r_fin, r_kfe1, r_kcx, r_exps0, r_exps1, r_kex, r_exp1, r_expv2, r_fgt, r_clean, r_okm4, r_okm11, r_okE0, r_okE1, r_okL0, r_round1, r_round3, r_lt1, ptd, lk, pt, xv, kv, kc, ↓reduceIte, Nat.reduceEqDiff, Nat.reduceSub, Nat.reduceLT, true_and, and_true, decide_eq_true_eq, decide_true, List.getElem?_cons_zero, List.drop_succ_cons, List.drop_zero, memB, keepB, keepOB, Bool.false_eq_true, Int.toNat_one, Int.reduceLE, Int.reduceLT, ne_eq, and_self, Int.cast_ofNat_Int]
    refine ite_of (fun hne => ?_) (fun heq => ?_)
    · have : ¬ x = y := fun e => hne (by rw [e])
      simp [this]
    · refine ⟨by rw [fits_i64]; omega, cntJ_intro (N := 2) (k := 1) () (by omega) rfl ?_⟩
      simp [cA2] at hA ⊢
      simp_all
  · simp only [cA2, Int.cast_ofNat_Int, r_cons, r_nil, r_kont, r_seq1, r_seq2, r_blk2, r_fn2, r_rg, r_sq, r_ex, r_rt, r_cd, r_cd2, r_op1, r_go1, r_mv, r_bi, r_lti, r_fin, r_kfe1, r_kcx, r_exps0, r_exps1, r_kex, r_exp1, r_expv2, r_round2, r_lt1, ptd, lk, pt, xv, kv, kc, ↓reduceIte, Nat.reduceEqDiff, Nat.reduceSub, Nat.reduceLT, and_true, decide_false, Bool.false_eq_true, Int.reduceLT, Int.cast_ofNat_Int]
    have : x = y := by
      simp [cA2] at hA
      obtain ⟨x0, x1⟩ := x; obtain ⟨y0, y1⟩ := y
      simp_all
    simp [this]
theorem g_eqIntA2S : chkF Go.Proofs.Tryd.prog fid_laws_eqIntA2S (eqSl 2 (some 2) fid_laws_eqIntA2) = true := by kernel_rfl
theorem sem_eqIntA2S (a b : (List (Int × Int))) (ha : a.length ≤ 9223372036854775807) (lvl : Nat) (S : Sto) : Sem Go.Proofs.Tryd.prog fid_laws_eqIntA2S lvl [.tr (.sl (a.map cA2)), .tr (.sl (b.map cA2))] S (iB (decide (a = b))) S :=
  sem_eqSl g_eqIntA2S cA2 (fun _ => rfl) a b ha (fun x hx y _ lvl S => sem_eqIntA2 x y lvl S) lvl S
theorem sem_eqSorting (x y : TSorting) (hb : bdSorting 9223372036854775807 x) (lvl : Nat) (S : Sto) : Sem Go.Proofs.Tryd.prog fid_laws_eqSorting lvl [.ag ((cSorting x).map .tr), .ag ((cSorting y).map .tr)] S (iB (decide (x = y))) S := by
  obtain ⟨b0, b1, b2, b3, b4, b5, b6⟩ := hb
  refine sem_of_chk k_laws_eqSorting trivial ?_
  simp only [c_laws_eqSorting, cSorting, List.map_cons, List.map_nil, r_cons, r_nil, r_kont, r_seq1, r_rg, r_sq, r_wpF, r_op1, r_go1, r_mv, r_bt, r_bt1, r_op3, r_fa, r_fa1, r_ltr, r_ld, r_ld1, r_kcn, r_sn0, r_sn1, r_ca, r_ca1, ptd, lk, pt, xv, kv, kc, params, ↓reduceIte, Nat.reduceEqDiff, reduceCtorEq, List.length_cons, List.length_nil, Nat.reduceAdd, Nat.reduceLeDiff, Nat.reduceLT, true_and, List.map_cons, List.map_nil, List.cons_append, List.nil_append, List.getElem?_cons_zero, List.drop_zero, mens, men, List.all_cons, List.all_nil, isCell, Bool.and_true, Bool.and_self, cellsOf, totr, totrs, tocs, Nat.zero_add, and_self]
  refine kca_intro (sem_eqIntS x.tops y.tops b0) ?_
  simp only [Bool.not_eq_true', r_cons, r_nil, r_kont, r_seq1, r_seq3, r_fn2, r_sk, r_rg, r_sq, r_rt, r_cd, r_cd2, r_op1, r_go1, r_mv, r_nt, r_nt1, r_op3, r_fa, r_fa1, r_ltr, r_ld, r_ld1, r_kcn, r_sn0, r_sn1, r_ca, r_ca1, r_fin, r_kfe1, r_kcx, r_exps0, r_exps1, r_kex, r_exp1, r_expv2, ptd, keyOf, freshK, lk, pt, addO, xv, kv, kc, ↓reduceIte, Nat.reduceEqDiff, Nat.reduceMul, reduceCtorEq, List.length_nil, Nat.reduceLT, true_and, and_true, List.map_cons, List.map_nil, List.cons_append, List.nil_append, List.getElem?_cons_zero, List.drop_succ_cons, List.drop_zero, mens, men, noSh, isSc, impv, or_true, Bool.not_eq_true', and_self]
  refine ite_of (fun hne => ?_) (fun heq0 => ?_)
  · have : ¬ x = y := fun e => (by rw [e] at hne; simp at hne)
    simp [this]
  refine kca_intro (sem_eqIntSS x.nest y.nest b1 b2) ?_
  simp only [Bool.not_eq_true', r_cons, r_nil, r_kont, r_seq1, r_seq3, r_fn2, r_sk, r_rg, r_sq, r_rt, r_cd, r_cd2, r_op1, r_go1, r_mv, r_nt, r_nt1, r_op3, r_fa, r_fa1, r_ltr, r_ld, r_ld1, r_kcn, r_sn0, r_sn1, r_ca, r_ca1, r_fin, r_kfe1, r_kcx, r_exps0, r_exps1, r_kex, r_exp1, r_expv2, ptd, keyOf, freshK, lk, pt, addO, xv, kv, kc, ↓reduceIte, Nat.reduceEqDiff, Nat.reduceMul, reduceCtorEq, List.length_nil, Nat.reduceLT, true_and, and_true, List.map_cons, List.map_nil, List.cons_append, List.nil_append, List.getElem?_cons_zero, List.drop_succ_cons, List.drop_zero, mens, men, noSh, isSc, impv, or_true, Bool.not_eq_true', and_self]
  refine ite_of (fun hne => ?_) (fun heq1 => ?_)
  · have : ¬ x = y := fun e => (by rw [e] at hne; simp at hne)
    simp [this]
  refine kca_intro (sem_eqIntSS x.sorts y.sorts b3 b4) ?_
  simp only [Bool.not_eq_true', r_cons, r_nil, r_kont, r_seq1, r_seq3, r_fn2, r_sk, r_rg, r_sq, r_rt, r_cd, r_cd2, r_op1, r_go1, r_mv, r_nt, r_nt1, r_op3, r_fa, r_fa1, r_ltr, r_ld, r_ld1, r_kcn, r_sn0, r_sn1, r_ca, r_ca1, r_fin, r_kfe1, r_kcx, r_exps0, r_exps1, r_kex, r_exp1, r_expv2, ptd, keyOf, freshK, lk, pt, addO, xv, kv, kc, ↓reduceIte, Nat.reduceEqDiff, Nat.reduceMul, reduceCtorEq, List.length_nil, Nat.reduceLT, true_and, and_true, List.map_cons, List.map_nil, List.cons_append, List.nil_append, List.getElem?_cons_zero, List.drop_succ_cons, List.drop_zero, mens, men, noSh, isSc, impv, or_true, Bool.not_eq_true', and_self]
  refine ite_of (fun hne => ?_) (fun heq2 => ?_)
  · have : ¬ x = y := fun e => (by rw [e] at hne; simp at hne)
    simp [this]
  refine kca_intro (sem_eqIntS x.most y.most b5) ?_
  simp only [Bool.not_eq_true', r_cons, r_nil, r_kont, r_seq1, r_seq3, r_fn2, r_sk, r_rg, r_sq, r_rt, r_cd, r_cd2, r_op1, r_go1, r_mv, r_nt, r_nt1, r_op3, r_fa, r_fa1, r_ltr, r_ld, r_ld1, r_kcn, r_sn0, r_sn1, r_ca, r_ca1, r_fin, r_kfe1, r_kcx, r_exps0, r_exps1, r_kex, r_exp1, r_expv2, ptd, keyOf, freshK, lk, pt, addO, xv, kv, kc, ↓reduceIte, Nat.reduceEqDiff, Nat.reduceMul, reduceCtorEq, List.length_nil, Nat.reduceLT, true_and, and_true, List.map_cons, List.map_nil, List.cons_append, List.nil_append, List.getElem?_cons_zero, List.drop_succ_cons, List.drop_zero, mens, men, noSh, isSc, impv, or_true, Bool.not_eq_true', and_self]
  refine ite_of (fun hne => ?_) (fun heq3 => ?_)
  · have : ¬ x = y := fun e => (by rw [e] at hne; simp at hne)
    simp [this]
  refine kca_intro (sem_eqIntA2S x.apart y.apart b6) ?_
  simp only [Bool.not_eq_true', r_cons, r_nil, r_kont, r_seq1, r_seq3, r_fn2, r_sk, r_rg, r_sq, r_rt, r_cd, r_cd2, r_op1, r_go1, r_mv, r_nt, r_nt1, r_fin, r_kfe1, r_kcx, r_exps0, r_exps1, r_kex, r_exp1, r_expv2, ptd, keyOf, freshK, lk, pt, addO, xv, kv, kc, ↓reduceIte, Nat.reduceEqDiff, Nat.reduceMul, reduceCtorEq, List.length_nil, Nat.reduceLT, true_and, and_true, noSh, isSc, impv, or_true, Bool.not_eq_true']
  refine ite_of (fun hne => ?_) (fun heq4 => ?_)
  · have : ¬ x = y := fun e => (by rw [e] at hne; simp at hne)
    simp [this]
  have : x = y := by
    cases x; cases y; simp_all
  simp [this]
theorem sem_eqControl (x y : TControl) (hb : bdControl 9223372036854775807 x) (lvl : Nat) (S : Sto) : Sem Go.Proofs.Tryd.prog fid_laws_eqControl lvl [.ag ((cControl x).map .tr), .ag ((cControl y).map .tr)] S (iB (decide (x = y))) S := by
  have b0 : x.name.size ≤ 9223372036854775807 := hb
  refine sem_of_chk k_laws_eqControl trivial ?_
  simp only [c_laws_eqControl, cControl, List.map_cons, List.map_nil, r_cons, r_nil, r_kont, r_seq1, r_seq3, r_fn2, r_sk, r_rg, r_sq, r_rt, r_cd, r_cd2, r_wpF, r_op1, r_go1, r_mv, r_bt, r_bt1, r_bi, r_nei, r_nes, r_op3, r_fa, r_fa1, r_ltr, r_ld, r_ld1, r_fin, r_kfe1, r_kcx, r_exps0, r_exps1, r_kex, r_exp1, r_expv2, ptd, lk, pt, xv, kv, kc, params, ↓reduceIte, Nat.reduceEqDiff, reduceCtorEq, List.length_cons, List.length_nil, Nat.reduceAdd, Nat.reduceLeDiff, Nat.reduceLT, true_and, and_true, decide_eq_true_eq, List.map_cons, List.map_nil, List.getElem?_cons_zero, List.drop_succ_cons, List.drop_zero, List.all_cons, List.all_nil, isCell, Bool.and_self, cellsOf, totr, totrs, tocs, Nat.zero_add, ne_eq]
  refine ite_of (fun hne => ?_) (fun heq0 => ?_)
  · have : ¬ x = y := fun e => (by rw [e] at hne; simp at hne)
    simp [this]
  refine ite_of (fun hne => ?_) (fun heq1 => ?_)
  · have : ¬ x = y := fun e => (by rw [e] at hne; simp at hne)
    simp [this]
  refine ite_of (fun hne => ?_) (fun heq2 => ?_)
  · have : ¬ x = y := fun e => (by rw [e] at hne; simp at hne)
    simp [this]
  have : x = y := by
    cases x; cases y; simp_all
  simp [this]
theorem g_eqControlS : chkF Go.Proofs.Tryd.prog fid_laws_eqControlS (eqSl 3 (some 3) fid_laws_eqControl) = true := by kernel_rfl
theorem sem_eqControlS (a b : (List TControl)) (ha : a.length ≤ 9223372036854775807) (ha2 : ∀ y ∈ a, bdControl 9223372036854775807 y) (lvl : Nat) (S : Sto) : Sem Go.Proofs.Tryd.prog fid_laws_eqControlS lvl [.tr (.sl (a.map cControl)), .tr (.sl (b.map cControl))] S (iB (decide (a = b))) S :=
  sem_eqSl g_eqControlS cControl (fun _ => rfl) a b ha (fun x hx y _ lvl S => sem_eqControl x y (ha2 x hx) lvl S) lvl S
end Go.Fd
