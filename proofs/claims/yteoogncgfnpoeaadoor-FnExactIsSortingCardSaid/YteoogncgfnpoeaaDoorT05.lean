/-
  A VALID SORTING, THE PROGRAM'S SIDE. Own work.
-/
import Derived.Test.YteoogncgfnpoeaaDoorT04
import Derived.KernelRfl
import Derived.ChangeMaps5
import Derived.ChangeShapes
import Derived.Test.YteoogncgfnpoeaaDoorProg
namespace Go.Fd
set_option maxRecDepth 20000

def cmp2 (a b : A2) : Int := cmpL [a.1, a.2] [b.1, b.2]

theorem cmp2_lt {a b : A2} : cmp2 a b < 0 ↔ lt2 a b := by
  unfold cmp2 lt2
  simp only [cmpL]
  by_cases h1 : a.1 < b.1
  · simp [h1]
  · by_cases h2 : b.1 < a.1
    · simp [h1, h2]; omega
    · by_cases h3 : a.2 < b.2
      · simp [h1, h2, h3]; omega
      · by_cases h4 : b.2 < a.2 <;> simp [h1, h2, h3, h4]

theorem sem_comparePairs (a b : A2) (lvl : Nat) (S : Sto) : Sem Go.Proofs.Tryd.prog fid_impl_comparePairs lvl [.ag ((cA2 a).map .tr), .ag ((cA2 b).map .tr)] S (iI (cmp2 a b)) S := by
  refine sem_of_chk k_impl_comparePairs trivial ?_
  simp only [c_impl_comparePairs, cA2, r_cons, r_nil, r_kont, r_seq1, r_rg, r_sq, r_wpF, r_op1, r_go1, r_mv, r_bt, r_bt1, r_sa, r_sa1, r_kcn, r_sn0, r_sn2, r_ca, r_ca1, ptd, lk, pt, xv, kv, kc, params, ↓reduceIte, Nat.reduceEqDiff, reduceCtorEq, List.length_cons, List.length_nil, Nat.reduceAdd, Nat.reduceLeDiff, Nat.reduceLT, true_and, List.map_cons, List.map_nil, List.cons_append, List.nil_append, List.take_succ_cons, List.take_zero, mens, men, List.all_cons, List.all_nil, isCell, Bool.and_self, cellsOf, totr, totrs, tocs, Nat.zero_add, Nat.le_refl, and_self]
  refine kca_intro (sem_Compare [a.1, a.2] [b.1, b.2] (by simp) (by simp)) ?_
  simp only [r_cons, r_nil, r_kont, r_seq1, r_fn2, r_rt, r_op1, r_mv, r_fin, r_kfe1, r_kcx, r_exps0, r_exps1, r_kex, r_exp1, r_expv2, ptd, keyOf, freshK, lk, pt, addO, xv, ↓reduceIte, Nat.reduceEqDiff, Nat.reduceMul, reduceCtorEq, List.length_nil, Nat.reduceLT, true_and, and_true, noSh, isSc, impv, or_true]
  rfl

def apartOK (l : List A2) (many : Nat) : Prop := ∀ i, apartAt l many i

theorem sem_arePairs (l : List A2) (many : Nat) (hm : many ≤ 4294967296) (hl : l.length ≤ 4294967296) (lvl : Nat) (S : Sto) : Sem Go.Proofs.Tryd.prog fid_impl_arePairs lvl [.tr (.sl (l.map cA2)), iI many] S (iB (dc (apartOK l many))) S := by
  refine sem_of_chk k_impl_arePairs trivial ?_
  simp only [c_impl_arePairs, List.length_map, r_cons, r_nil, r_kont, r_seq1, r_rg, r_sq, r_bl, r_wpF, r_op1, r_go1, r_mv, r_ln, r_ln1, ptd, lk, pt, xv, kv, kc, params, ↓reduceIte, Nat.reduceEqDiff, reduceCtorEq, List.length_cons, List.length_nil, Nat.reduceAdd, Nat.reduceLeDiff, Nat.reduceLT, true_and, Nat.zero_add, List.length_map]
  refine wp_cnt (α := Unit) l.length (fun j _ => [(9, iI j)]) (fun j _ => []) (fun j _ => ∀ k, k < j → apartAt l many k) () (by simp only [r_clean, r_okm4, r_okE0, r_okE1, r_okL0, ↓reduceIte, Nat.reduceEqDiff, reduceCtorEq, memB, keepB, keepOB, Bool.false_eq_true, and_self]) (by (simp only [r_fgt, r_chg, r_pts0, r_pts1, r_ptOs0, pt, ↓reduceIte, Nat.reduceEqDiff, reduceCtorEq, Nat.reduceLT, memB, keepB, keepOB, Bool.false_eq_true, Int.cast_ofNat_Int]) <;> rfl) (fun k hk => absurd hk (Nat.not_lt_zero k)) ?_
  intro j _ hj hB
  simp only [r_cons, r_nil, r_kont, r_seq1, r_seq2, r_blk2, r_fn2, r_sk, r_rg, r_sq, r_bl, r_ex, r_rt, r_cd, r_cd2, r_op1, r_go1, r_mv, r_bi, r_lti, r_ixn, r_ia, r_ia1, r_fin, r_kfe1, r_kcx, r_exps0, r_exps1, r_kex, r_exp1, r_expv2, r_fgt, r_round2, r_chg, r_pts0, r_pts1, r_ptOs0, ptd, lk, pt, xv, kv, kc, ↓reduceIte, Nat.reduceEqDiff, reduceCtorEq, Nat.reduceLT, true_and, and_true, decide_eq_true_eq, memB, keepB, keepOB, Bool.false_eq_true, Int.toNat_natCast, Int.natCast_nonneg]
  refine ite_of (fun hlt => ?_) (fun hge => ?_)
  · have hja : j < l.length := by omega
    have ga := getA (c := cA2) hja
    have hno : ¬ apartAt l many j → dc (apartOK l many) = false := fun h => dc_false fun g => h (g j)
    simp only [ga, cA2, r_cons, r_nil, r_kont, r_seq1, r_rg, r_sq, r_op1, r_go1, r_mv, r_al, r_bi, r_sub1, r_op3, r_ixn, r_iae, r_ja, r_ja2, r_pack, r_setOb, r_lab, r_ld, r_ld2, r_ld4, r_kcn, r_sn0, r_sn1, r_ca, r_ca1, r_st, r_st1, r_stb, r_setAt0, r_setAt1, r_lows0, r_lows1, r_low1, r_lt1, zfill, zobs, ptd, keyOf, freshK, lk, pt, lkO, ptO, addO, xv, kv, kc, ↓reduceIte, Nat.reduceEqDiff, Nat.reduceMul, reduceCtorEq, List.length_cons, List.length_nil, Nat.reduceAdd, Nat.reduceLT, true_and, List.map_cons, List.map_nil, List.cons_append, List.nil_append, List.getElem?_cons_zero, List.getElem?_cons_succ, List.take_succ_cons, List.take_zero, mens, men, Int.toNat_zero, Int.toNat_one, Int.reduceLE, List.all_cons, List.all_nil, isCell, Bool.and_self, cellsOf, Nat.zero_add, Nat.add_zero, List.set_cons_zero, List.set_cons_succ, Nat.le_refl, and_self]
    refine kca_intro (sem_within l[j].1 0 (IntKind.wrap .i64 (l[j].2 - 1))) ?_
    cases p1 : inB l[j].1 0 (IntKind.wrap .i64 (l[j].2 - 1))
    · simp only [r_cons, r_nil, r_kont, r_seq1, r_seq3, r_blk3, r_fn2, r_rg, r_sq, r_rt, r_cd, r_cd2, r_op1, r_op1g, r_gd, r_gdu, r_go1, r_mv, r_nt, r_nt1, r_pk, r_pkt, r_fin, r_kfe1, r_kcx, r_exps0, r_exps1, r_kex, r_exp1, r_expv2, r_round3, r_lt1, ptd, keyOf, freshK, lk, pt, addO, xv, kv, kc, ↓reduceIte, Nat.reduceEqDiff, Nat.reduceMul, reduceCtorEq, List.length_nil, Nat.reduceLT, true_and, and_true, noSh, isSc, impv, or_true, Bool.true_eq_false, Bool.not_false]
      rw [hno fun h => inB_not.1 p1 (by
        have h2 := h hja
        rw [wrap_fits (by rw [fits_i64]; omega)]
        omega)]
    simp only [r_cons, r_kont, r_op1, r_op1g, r_gd, r_go1, r_mv, r_bi, r_sub0, r_nt, r_nt1, r_op3, r_ixn, r_ja, r_ja2, r_pack, r_lab, r_ld, r_ld2, r_kcn, r_sn0, r_sn1, r_ca, r_ca1, r_lt1, ptd, keyOf, freshK, lk, pt, lkO, addO, xv, kv, kc, ↓reduceIte, Nat.reduceEqDiff, Nat.reduceMul, reduceCtorEq, List.length_nil, Nat.reduceLT, true_and, List.map_cons, List.map_nil, List.cons_append, List.nil_append, List.getElem?_cons_zero, List.getElem?_cons_succ, mens, men, noSh, isSc, impv, or_true, Bool.not_true, Int.toNat_one, Int.reduceLE, Nat.zero_add, and_self]
    refine ⟨by rw [fits_i64]; omega, ?_⟩
    refine kca_intro (sem_within l[j].2 0 ((many : Int) - 1)) ?_
    cases p2 : inB l[j].2 0 ((many : Int) - 1)
    · simp only [r_cons, r_nil, r_kont, r_seq1, r_seq3, r_blk3, r_fn2, r_rg, r_sq, r_rt, r_cd, r_cd2, r_op1, r_op1g, r_gd, r_gdu, r_go1, r_mv, r_nt, r_nt1, r_pk, r_pkt, r_pkf, r_fin, r_kfe1, r_kcx, r_exps0, r_exps1, r_kex, r_exp1, r_expv2, r_round3, r_lt1, ptd, keyOf, freshK, lk, pt, addO, xv, kv, kc, ↓reduceIte, Nat.reduceEqDiff, Nat.reduceMul, reduceCtorEq, List.length_nil, Nat.reduceLT, true_and, and_true, noSh, isSc, impv, or_true, Bool.true_eq_false, Bool.not_false]
      rw [hno fun h => inB_not.1 p2 (by
        have h2 := h hja
        omega)]
    have r2 := inB_iff.1 p2
    have r1 := inB_iff.1 p1
    rw [wrap_fits (by rw [fits_i64]; omega)] at r1
    by_cases q4 : 0 < j
    · have e1 : ((j : Int) - 1).toNat = j - 1 := by omega
      have e2 : (0 : Int) ≤ j - 1 := by omega
      have q5 : (0 : Int) < j := by omega
      have gb := getA (c := cA2) (l := l) (j := j - 1) (by omega)
      simp only [q5, e1, e2, gb, cA2, r_cons, r_kont, r_op1, r_op1g, r_gd, r_go1, r_mv, r_bi, r_sub0, r_gti, r_nt, r_nt1, r_pk, r_pkf, r_op3, r_ixn, r_ia, r_iae, r_ia1, r_pack, r_ld, r_ld4, r_labm, r_ld5, r_kcn, r_kagn, r_sn0, r_sn1, r_sn3, r_ca, r_ca1, ptd, keyOf, freshK, lk, pt, lkO, addO, xv, kv, kc, ↓reduceIte, Nat.reduceEqDiff, Nat.reduceMul, reduceCtorEq, List.length_cons, List.length_nil, Nat.reduceAdd, Nat.reduceLT, true_and, decide_true, List.map_cons, List.map_nil, List.cons_append, List.nil_append, List.drop_zero, List.take_succ_cons, List.take_zero, mens, men, noSh, isSc, impv, or_true, Bool.not_true, Nat.zero_add, Nat.le_refl, and_self]
      refine ⟨by rw [fits_i64]; omega, ?_⟩
      refine kca_intro (sem_comparePairs (l[j - 1]'(by omega)) l[j]) ?_
      by_cases hc : 0 ≤ cmp2 (l[j - 1]'(by omega)) l[j]
      · simp only [hc, r_cons, r_nil, r_kont, r_seq1, r_seq3, r_blk3, r_fn2, r_rg, r_sq, r_rt, r_cd, r_cd2, r_op1, r_op1g, r_gd, r_go1, r_mv, r_bi, r_gei, r_pk, r_pkt, r_pkf, r_fin, r_kfe1, r_kcx, r_exps0, r_exps1, r_kex, r_exp1, r_expv2, r_round3, r_lt1, ptd, keyOf, freshK, lk, pt, addO, xv, kv, kc, ↓reduceIte, Nat.reduceEqDiff, Nat.reduceMul, reduceCtorEq, List.length_nil, Nat.reduceLT, true_and, and_true, decide_true, noSh, isSc, impv, or_true]
        rw [hno fun h => by
          have := cmp2_lt.2 ((h hja).2.2.2 q4)
          omega]
      · have hc2 : cmp2 (l[j - 1]'(by omega)) l[j] < 0 := by omega
        simp only [hc, r_cons, r_nil, r_kont, r_seq1, r_blk1, r_sk, r_rg, r_cd, r_cd2, r_op1, r_op1g, r_gd, r_go1, r_mv, r_bi, r_add0, r_gei, r_pk, r_pkt, r_pkf, r_fgt, r_clean, r_okm4, r_okE0, r_okE1, r_okL0, r_round1, ptd, keyOf, freshK, lk, pt, addO, xv, kv, kc, ↓reduceIte, Nat.reduceEqDiff, Nat.reduceMul, reduceCtorEq, List.length_nil, Nat.reduceLT, true_and, decide_false, noSh, isSc, impv, memB, keepB, keepOB, or_true, Bool.false_eq_true, and_self]
        exact ⟨by rw [fits_i64]; omega, cntJ_intro () hja rfl (all_succ hB fun _ => ⟨by omega, by omega, by omega, fun _ => cmp2_lt.1 hc2⟩)⟩
    · have q5 : ¬ (0 : Int) < j := by omega
      simp only [q5, r_cons, r_nil, r_kont, r_seq1, r_blk1, r_sk, r_rg, r_cd, r_cd2, r_op1, r_op1g, r_gd, r_go1, r_mv, r_bi, r_add0, r_gti, r_nt, r_nt1, r_pk, r_pkf, r_fgt, r_clean, r_okm4, r_okE0, r_okE1, r_okL0, r_round1, ptd, keyOf, freshK, lk, pt, addO, xv, kv, kc, ↓reduceIte, Nat.reduceEqDiff, Nat.reduceMul, reduceCtorEq, List.length_nil, Nat.reduceLT, true_and, decide_false, noSh, isSc, impv, memB, keepB, keepOB, or_true, Bool.false_eq_true, Bool.not_true, and_self]
      exact ⟨by rw [fits_i64]; omega, cntJ_intro () hja rfl (all_succ hB fun _ => ⟨by omega, by omega, by omega, fun h => absurd h q4⟩)⟩
  · have hj1 : j = l.length := by omega
    subst hj1
    have : apartOK l many := fun i h => hB i h h
    rw [dc_true this]

theorem sem_IsSorting_1 (n : Int) (lvl : Nat) (S : Sto) : Sem Go.Proofs.Tryd.prog fid_impl_IsSorting_1 lvl [iI n] S (iB (!inB n 0 24)) S := by
  refine sem_of_chk k_impl_IsSorting_1 trivial ?_
  simp only [c_impl_IsSorting_1, r_cons, r_nil, r_kont, r_seq1, r_rg, r_sq, r_wpF, r_op1, r_mv, r_kcn, r_sn0, r_sn1, r_ca, r_ca1, ptd, lk, pt, xv, kv, kc, params, ↓reduceIte, Nat.reduceEqDiff, reduceCtorEq, List.length_cons, List.length_nil, Nat.reduceLeDiff, Nat.reduceLT, true_and, List.map_cons, List.map_nil, List.cons_append, List.nil_append, mens, men, Nat.zero_add, and_self]
  refine kca_intro (sem_within n 0 24) ?_
  simp only [r_cons, r_nil, r_kont, r_seq1, r_fn2, r_rt, r_op1, r_go1, r_mv, r_nt, r_nt1, r_fin, r_kfe1, r_kcx, r_exps0, r_exps1, r_kex, r_exp1, r_expv2, ptd, keyOf, freshK, lk, pt, addO, xv, ↓reduceIte, Nat.reduceEqDiff, Nat.reduceMul, reduceCtorEq, List.length_nil, Nat.reduceLT, noSh, isSc, impv, or_true, and_self]

theorem sem_IsSorting_2 (n : Int) (s : TSorting) (hm : s.most.length ≤ 4294967296) (lvl : Nat) (S : Sto) : Sem Go.Proofs.Tryd.prog fid_impl_IsSorting_2 lvl [iI n, .ta (cSorting s)] S (iB (!inB n 0 ((s.most.length : Int) - 1))) S := by
  refine sem_of_chk k_impl_IsSorting_2 trivial ?_
  simp only [c_impl_IsSorting_2, cSorting, List.length_map, r_cons, r_nil, r_kont, r_seq1, r_rg, r_sq, r_wpF, r_op1, r_go1, r_mv, r_bi, r_sub0, r_ln, r_ln1, r_op3, r_fa, r_fa1, r_ltr, r_ld, r_ld1, r_kcn, r_sn0, r_sn1, r_ca, r_ca1, ptd, lk, pt, xv, kv, kc, params, ↓reduceIte, Nat.reduceEqDiff, reduceCtorEq, List.length_cons, List.length_nil, Nat.reduceAdd, Nat.reduceLeDiff, Nat.reduceLT, true_and, List.map_cons, List.map_nil, List.cons_append, List.nil_append, List.getElem?_cons_zero, List.drop_succ_cons, List.drop_zero, mens, men, Nat.zero_add, List.length_map, and_self]
  refine ⟨by rw [fits_i64]; omega, ?_⟩
  refine kca_intro (sem_within n 0 ((s.most.length : Int) - 1)) ?_
  simp only [r_cons, r_nil, r_kont, r_seq1, r_fn2, r_rt, r_op1, r_go1, r_mv, r_nt, r_nt1, r_fin, r_kfe1, r_kcx, r_exps0, r_exps1, r_kex, r_exp1, r_expv2, ptd, keyOf, freshK, lk, pt, addO, xv, ↓reduceIte, Nat.reduceEqDiff, Nat.reduceMul, reduceCtorEq, List.length_nil, Nat.reduceLT, noSh, isSc, impv, or_true, and_self]

theorem g_ixFI : chkF Go.Proofs.Tryd.prog fid_slices_IndexFunc_int_int (gIxF 1 none) = true := by kernel_rfl
theorem g_coFI : chkF Go.Proofs.Tryd.prog fid_slices_ContainsFunc_int_int (gCoF fid_slices_IndexFunc_int_int) = true := by kernel_rfl

theorem any_out {l : List Int} {a b : Int} : (l.any fun n => !inB n a b) = false ↔ ∀ n ∈ l, a ≤ n ∧ n ≤ b := by
  simp only [List.any_eq_false, Bool.not_eq_true', Bool.not_eq_false, inB_iff]

theorem sem_impl_IsSorting (sig : List TControl) (s : TSorting) (hn : sig.length ≤ 4294967296) (hbs : ∀ y ∈ sig, bdControl 4294967296 y) (hb : bdSorting 4294967296 s) (lvl : Nat) (S : Sto) : Sem Go.Proofs.Tryd.prog fid_impl_IsSorting lvl [.tr (.sl (sig.map cControl)), .ag ((cSorting s).map .tr)] S (iB (dc (sortOK sig s))) S := by
  obtain ⟨b1, b2, b3, b4, b5, b6, b7⟩ := hb
  refine sem_of_chk k_impl_IsSorting trivial ?_
  simp only [c_impl_IsSorting, cSorting, r_cons, r_nil, r_kont, r_seq1, r_rg, r_sq, r_wpF, r_op1, r_mv, r_bt, r_bt1, r_kcn, r_sn0, r_sn1, r_ca, r_ca1, ptd, lk, pt, xv, kv, kc, params, ↓reduceIte, Nat.reduceEqDiff, reduceCtorEq, List.length_cons, List.length_nil, Nat.reduceAdd, Nat.reduceLeDiff, Nat.reduceLT, true_and, List.map_cons, List.map_nil, List.cons_append, List.nil_append, mens, men, List.all_cons, List.all_nil, isCell, Bool.and_true, Bool.and_self, cellsOf, totr, totrs, tocs, Nat.zero_add, and_self]
  refine kca_intro (sem_impl_IsSignature sig (by omega) (fun y hy => monoControl (hbs y hy))) ?_
  cases h1 : dc (sigOK sig)
  · simp only [r_cons, r_nil, r_kont, r_seq1, r_seq3, r_fn2, r_rg, r_sq, r_rt, r_cd, r_cd2, r_op1, r_op1g, r_gd, r_go1, r_mv, r_nt, r_nt1, r_pk, r_pkt, r_fin, r_kfe1, r_kcx, r_exps0, r_exps1, r_kex, r_exp1, r_expv2, ptd, keyOf, freshK, lk, pt, addO, xv, kv, kc, ↓reduceIte, Nat.reduceEqDiff, Nat.reduceMul, reduceCtorEq, List.length_nil, Nat.reduceLT, true_and, and_true, noSh, isSc, impv, or_true, Bool.true_eq_false, Bool.not_false]
    rw [dc_false fun h => dc_not.1 h1 h.sg]
  simp only [List.length_map, r_cons, r_kont, r_op1, r_op1g, r_gd, r_go1, r_mv, r_nt, r_nt1, r_ln, r_ln1, r_op3, r_fa, r_fa1, r_ltr, r_ld, r_ld1, r_kcn, r_sn0, r_sn1, r_ca, r_ca1, ptd, keyOf, freshK, lk, pt, addO, xv, ↓reduceIte, Nat.reduceEqDiff, Nat.reduceMul, reduceCtorEq, List.length_nil, Nat.reduceLT, true_and, List.map_cons, List.map_nil, List.cons_append, List.nil_append, List.getElem?_cons_zero, List.drop_zero, mens, men, noSh, isSc, impv, or_true, Bool.not_true, List.length_map, and_self]
  refine kca_intro (sem_isRising s.tops sig.length (by omega) (by omega) (by omega)) ?_
  cases h2 : dc (Ris 0 ((sig.length : Int) - 1) s.tops)
  · simp only [r_cons, r_nil, r_kont, r_seq1, r_seq3, r_fn2, r_rg, r_sq, r_rt, r_cd, r_cd2, r_op1, r_op1g, r_gd, r_go1, r_mv, r_nt, r_nt1, r_pk, r_pkt, r_pkf, r_fin, r_kfe1, r_kcx, r_exps0, r_exps1, r_kex, r_exp1, r_expv2, ptd, keyOf, freshK, lk, pt, addO, xv, kv, kc, ↓reduceIte, Nat.reduceEqDiff, Nat.reduceMul, reduceCtorEq, List.length_nil, Nat.reduceLT, true_and, and_true, noSh, isSc, impv, or_true, Bool.true_eq_false, Bool.not_false]
    rw [dc_false fun h => dc_not.1 h2 h.tops]
  by_cases e3 : s.nest.length = sig.length
  case neg =>
    have e3' : ¬ (s.nest.length : Int) = sig.length := by omega
    simp only [e3', List.length_map, r_cons, r_nil, r_kont, r_seq1, r_seq3, r_fn2, r_rg, r_sq, r_rt, r_cd, r_cd2, r_op1, r_op1g, r_gd, r_go1, r_mv, r_bi, r_nei, r_nt, r_nt1, r_ln, r_ln1, r_pk, r_pkt, r_pkf, r_op3, r_fa, r_fa1, r_ltr, r_ld, r_ld1, r_fin, r_kfe1, r_kcx, r_exps0, r_exps1, r_kex, r_exp1, r_expv2, ptd, keyOf, freshK, lk, pt, addO, xv, kv, kc, ↓reduceIte, Nat.reduceEqDiff, Nat.reduceMul, reduceCtorEq, List.length_nil, Nat.reduceLT, true_and, and_true, decide_true, List.getElem?_cons_zero, List.drop_succ_cons, List.drop_zero, noSh, isSc, impv, or_true, Bool.true_eq_false, Bool.not_true, Bool.not_false, ne_eq, not_false_eq_true, List.length_map]
    rw [dc_false fun h => e3 h.nestL]
  by_cases e4 : s.sorts.length = sig.length
  case neg =>
    have e4' : ¬ (s.sorts.length : Int) = sig.length := by omega
    simp only [e3, e4', List.length_map, r_cons, r_nil, r_kont, r_seq1, r_seq3, r_fn2, r_rg, r_sq, r_rt, r_cd, r_cd2, r_op1, r_op1g, r_gd, r_go1, r_mv, r_bi, r_nei, r_nt, r_nt1, r_ln, r_ln1, r_pk, r_pkf, r_op3, r_fa, r_fa1, r_ltr, r_ld, r_ld1, r_fin, r_kfe1, r_kcx, r_exps0, r_exps1, r_kex, r_exp1, r_expv2, ptd, keyOf, freshK, lk, pt, addO, xv, kv, kc, ↓reduceIte, Nat.reduceEqDiff, Nat.reduceMul, reduceCtorEq, List.length_nil, Nat.reduceLT, true_and, and_true, decide_true, decide_false, List.getElem?_cons_zero, List.drop_succ_cons, List.drop_zero, noSh, isSc, impv, or_true, Bool.not_true, ne_eq, not_false_eq_true, not_true_eq_false, List.length_map]
    rw [dc_false fun h => e4 h.sortsL]
  simp only [e3, e4, List.length_map, r_cons, r_nil, r_kont, r_seq1, r_sk, r_rg, r_sq, r_cd, r_cd2, r_op1, r_op1g, r_gd, r_go1, r_mv, r_bi, r_nei, r_nt, r_nt1, r_ln, r_ln1, r_pk, r_pkf, r_op3, r_fa, r_fa1, r_ltr, r_ld, r_ld1, r_kcn, r_sn0, r_sn1, r_ca, r_ca1, ptd, keyOf, freshK, lk, pt, addO, xv, kv, kc, ↓reduceIte, Nat.reduceEqDiff, Nat.reduceMul, reduceCtorEq, List.length_nil, Nat.reduceLT, true_and, decide_false, List.map_cons, List.map_nil, List.cons_append, List.nil_append, List.getElem?_cons_zero, List.drop_succ_cons, List.drop_zero, mens, men, noSh, isSc, impv, or_true, Bool.false_eq_true, Bool.not_true, ne_eq, not_true_eq_false, List.length_map, and_self]
  refine kca_intro (sem_within s.most.length 1 4) ?_
  cases h4 : inB s.most.length 1 4
  · simp only [r_cons, r_nil, r_kont, r_seq1, r_seq3, r_fn2, r_rg, r_sq, r_rt, r_cd, r_cd2, r_op1, r_op1g, r_gd, r_go1, r_mv, r_nt, r_nt1, r_pk, r_pkt, r_fin, r_kfe1, r_kcx, r_exps0, r_exps1, r_kex, r_exp1, r_expv2, ptd, keyOf, freshK, lk, pt, addO, xv, kv, kc, ↓reduceIte, Nat.reduceEqDiff, Nat.reduceMul, reduceCtorEq, List.length_nil, Nat.reduceLT, true_and, and_true, noSh, isSc, impv, or_true, Bool.true_eq_false, Bool.not_false]
    rw [dc_false fun h => inB_not.1 h4 (by have := h.many; omega)]
  simp only [r_cons, r_kont, r_op1, r_op1g, r_gd, r_go1, r_mv, r_nt, r_nt1, r_op3, r_fa, r_fa1, r_ltr, r_ld, r_ld1, r_kcn, r_kfnn, r_sn0, r_sn1, r_sn4, r_ca, r_ca1, ptd, keyOf, freshK, lk, pt, addO, xv, ↓reduceIte, Nat.reduceEqDiff, Nat.reduceMul, reduceCtorEq, List.length_nil, Nat.reduceLT, true_and, List.map_cons, List.map_nil, List.cons_append, List.nil_append, List.getElem?_cons_zero, List.drop_succ_cons, List.drop_zero, mens, men, noSh, isSc, impv, or_true, Bool.not_true, and_self]
  refine kca_intro (sem_coF1 (t := tv) (cs := []) g_coFI g_ixFI s.most (by omega) (fun x _ lvl S => sem_IsSorting_1 x lvl S)) ?_
  cases h5 : s.most.any fun n => !inB n 0 24
  case true =>
    simp only [r_cons, r_nil, r_kont, r_seq1, r_seq3, r_fn2, r_rg, r_sq, r_rt, r_cd, r_cd2, r_op1, r_op1g, r_gd, r_go1, r_mv, r_pk, r_pkt, r_pkf, r_fin, r_kfe1, r_kcx, r_exps0, r_exps1, r_kex, r_exp1, r_expv2, ptd, keyOf, freshK, lk, pt, addO, xv, kv, kc, ↓reduceIte, Nat.reduceEqDiff, Nat.reduceMul, reduceCtorEq, List.length_nil, Nat.reduceLT, true_and, and_true, noSh, isSc, impv, or_true, Bool.true_eq_false, Bool.not_false]
    rw [dc_false fun h => by rw [any_out.2 h.most] at h5; cases h5]
  simp only [List.length_map, r_cons, r_kont, r_op1, r_op1g, r_gd, r_go1, r_mv, r_ln, r_ln1, r_pk, r_pkf, r_op3, r_fa, r_fa1, r_ltr, r_ld, r_ld1, r_kcn, r_sn0, r_sn1, r_ca, r_ca1, ptd, keyOf, freshK, lk, pt, addO, xv, kv, kc, ↓reduceIte, Nat.reduceEqDiff, Nat.reduceMul, reduceCtorEq, List.length_nil, Nat.reduceLT, true_and, List.map_cons, List.map_nil, List.cons_append, List.nil_append, List.getElem?_cons_zero, List.drop_succ_cons, List.drop_zero, mens, men, noSh, isSc, impv, or_true, List.length_map, and_self]
  refine kca_intro (sem_arePairs s.apart s.most.length b6 b7) ?_
  cases h6 : dc (apartOK s.apart s.most.length)
  · simp only [r_cons, r_nil, r_kont, r_seq1, r_seq3, r_fn2, r_rg, r_sq, r_rt, r_cd, r_cd2, r_op1, r_op1g, r_gd, r_go1, r_mv, r_nt, r_nt1, r_pk, r_pkf, r_fin, r_kfe1, r_kcx, r_exps0, r_exps1, r_kex, r_exp1, r_expv2, ptd, keyOf, freshK, lk, pt, addO, xv, kv, kc, ↓reduceIte, Nat.reduceEqDiff, Nat.reduceMul, reduceCtorEq, List.length_nil, Nat.reduceLT, true_and, and_true, noSh, isSc, impv, or_true, Bool.not_false]
    rw [dc_false fun h => dc_not.1 h6 h.apart]
  simp only [List.length_map, r_cons, r_nil, r_kont, r_seq1, r_sk, r_rg, r_sq, r_bl, r_cd, r_cd2, r_op1, r_op1g, r_gd, r_go1, r_mv, r_nt, r_nt1, r_ln, r_ln1, r_pk, r_pkf, ptd, keyOf, freshK, lk, pt, addO, xv, kv, kc, ↓reduceIte, Nat.reduceEqDiff, Nat.reduceMul, reduceCtorEq, List.length_nil, Nat.reduceLT, true_and, noSh, isSc, impv, or_true, Bool.false_eq_true, Bool.not_true, List.length_map]
  refine wp_cnt (α := Unit) sig.length (fun j _ => [(55, iI j)]) (fun j _ => []) (fun j _ => ∀ k, k < j → nestAt sig s.nest k ∧ sortsAt sig s.sorts s.most.length k) () (by simp only [r_clean, r_okm4, r_okm11, r_okE0, r_okE1, r_okL0, ↓reduceIte, Nat.reduceEqDiff, reduceCtorEq, memB, keepB, keepOB, Bool.false_eq_true, and_self]) (by (simp only [r_fgt, r_chg, r_pts0, r_pts1, r_ptOs0, pt, ↓reduceIte, Nat.reduceEqDiff, reduceCtorEq, Nat.reduceLT, memB, keepB, keepOB, Bool.false_eq_true, Int.cast_ofNat_Int]) <;> rfl) (fun k hk => absurd hk (Nat.not_lt_zero k)) ?_
  intro j _ hj hA
  simp only [r_cons, r_nil, r_kont, r_seq1, r_seq2, r_blk2, r_fn2, r_sk, r_rg, r_sq, r_bl, r_ex, r_rt, r_cd, r_cd2, r_op1, r_go1, r_mv, r_bi, r_lti, r_ixn, r_ia, r_ia1, r_fin, r_kfe1, r_kcx, r_exps0, r_exps1, r_kex, r_exp1, r_expv2, r_fgt, r_round2, r_chg, r_pts0, r_pts1, r_ptOs0, ptd, lk, pt, xv, kv, kc, ↓reduceIte, Nat.reduceEqDiff, reduceCtorEq, Nat.reduceLT, true_and, and_true, decide_eq_true_eq, memB, keepB, keepOB, Bool.false_eq_true, Int.toNat_natCast, Int.natCast_nonneg]
  refine ite_of (fun hlt => ?_) (fun hge => ?_)
  · have hja : j < sig.length := by omega
    have hjn : j < s.nest.length := by omega
    have hjs : j < s.sorts.length := by omega
    have ga := getA (c := cControl) hja
    have gn := getA (c := eIS) hjn
    have gs := getA (c := eIS) hjs
    have y1 : s.nest[j].length ≤ 4294967296 := b3 _ (List.getElem_mem hjn)
    have y2 : s.sorts[j].length ≤ 4294967296 := b5 _ (List.getElem_mem hjs)
    simp only [ga, gn, List.length_map, cControl, r_cons, r_nil, r_kont, r_seq1, r_rg, r_sq, r_op1, r_go1, r_mv, r_al, r_ln, r_ln1, r_op3, r_fa, r_fa1, r_ixn, r_ia, r_iae, r_ia1, r_pack, r_setOb, r_ltr, r_ld, r_ld1, r_ld4, r_kcn, r_sn0, r_sn1, r_ca, r_ca1, r_st, r_st1, r_stb, r_setAt0, r_setAt1, r_lows0, r_lows1, r_low1, r_lt1, zfill, zobs, ptd, keyOf, freshK, lk, pt, lkO, ptO, addO, xv, kc, ↓reduceIte, Nat.reduceEqDiff, Nat.reduceMul, reduceCtorEq, List.length_cons, List.length_nil, Nat.reduceAdd, Nat.reduceLT, true_and, List.map_cons, List.map_nil, List.cons_append, List.nil_append, List.getElem?_cons_zero, List.drop_succ_cons, List.drop_zero, List.take_succ_cons, List.take_zero, mens, men, Int.toNat_natCast, List.all_cons, List.all_nil, isCell, Bool.and_self, cellsOf, Nat.zero_add, Nat.add_zero, List.set_cons_zero, List.set_cons_succ, Int.natCast_nonneg, Nat.le_refl, List.length_map, and_self]
    refine kca_intro (sem_isRising s.nest[j] sig.length (by omega) (by omega) (by omega)) ?_
    cases p1 : dc (Ris 0 ((sig.length : Int) - 1) s.nest[j])
    · simp only [r_cons, r_nil, r_kont, r_seq1, r_seq3, r_blk3, r_fn2, r_rg, r_sq, r_rt, r_cd, r_cd2, r_op1, r_op1g, r_gd, r_gdu, r_go1, r_mv, r_nt, r_nt1, r_pk, r_pkt, r_fin, r_kfe1, r_kcx, r_exps0, r_exps1, r_kex, r_exp1, r_expv2, r_round3, r_lt1, ptd, keyOf, freshK, lk, pt, addO, xv, kv, kc, ↓reduceIte, Nat.reduceEqDiff, Nat.reduceMul, reduceCtorEq, List.length_nil, Nat.reduceLT, true_and, and_true, noSh, isSc, impv, or_true, Bool.true_eq_false, Bool.not_false]
      rw [dc_false fun h => dc_not.1 p1 (h.nest j hjn hja).1]
    by_cases p2 : sig[j].kind_ = 2 ∧ (0 : Int) < s.nest[j].length
    · simp only [p2.1, p2.2, gn, List.length_map, r_cons, r_nil, r_kont, r_seq1, r_seq3, r_blk3, r_fn2, r_rg, r_sq, r_rt, r_cd, r_cd2, r_op1, r_op1g, r_gd, r_go1, r_mv, r_bi, r_eqi, r_gti, r_nt, r_nt1, r_ln, r_ln1, r_pk, r_pkt, r_pkf, r_op3, r_fa, r_fa1, r_fa2, r_ixn, r_ia, r_iae, r_ia1, r_pack, r_ltr, r_lab, r_ld, r_ld1, r_ld2, r_fin, r_kfe1, r_kcx, r_exps0, r_exps1, r_kex, r_exp1, r_expv2, r_round3, r_lt1, ptd, keyOf, freshK, lk, pt, lkO, addO, xv, kv, kc, ↓reduceIte, Nat.reduceEqDiff, Nat.reduceMul, reduceCtorEq, List.length_cons, List.length_nil, Nat.reduceLT, true_and, and_true, decide_true, List.getElem?_cons_zero, List.getElem?_cons_succ, List.drop_succ_cons, List.drop_zero, noSh, isSc, impv, or_true, Bool.true_eq_false, Bool.not_true, Bool.not_false, Int.toNat_natCast, Nat.zero_add, Int.natCast_nonneg, List.length_map]
      rw [dc_false fun h => by
        have h1 := (h.nest j hjn hja).2 p2.1
        have h2 := p2.2
        rw [h1] at h2
        simp at h2]
    have hN : nestAt sig s.nest j := fun _ _ => ⟨dc_iff.1 p1, fun h => List.length_eq_zero_iff.1 (by
      have : ¬ (0 : Int) < s.nest[j].length := fun h2 => p2 ⟨h, h2⟩
      omega)⟩
    have go : ∀ K : Prop, ((¬ (s.sorts[j].length : Int) = sig[j].ports → dc (sortOK sig s) = false) → (∀ e : (s.sorts[j].length : Int) = sig[j].ports, (s.sorts[j].any (fun n => !inB n 0 ((s.most.length : Int) - 1))) = true → dc (sortOK sig s) = false) → (∀ e : (s.sorts[j].length : Int) = sig[j].ports, (s.sorts[j].any (fun n => !inB n 0 ((s.most.length : Int) - 1))) = false → sortsAt sig s.sorts s.most.length j) → K) → K := fun K h => h
      (fun h => dc_false fun g => h (g.sorts j hjs hja).1)
      (fun e h => dc_false fun g => by rw [any_out.2 (g.sorts j hjs hja).2] at h; cases h)
      (fun e h _ _ => ⟨e, any_out.1 h⟩)
    refine go _ fun g1 g2 g3 => ?_
    by_cases k1 : sig[j].kind_ = 2
    · have k2 : ¬ (0 : Int) < s.nest[j].length := fun h => p2 ⟨k1, h⟩
      by_cases k3 : (s.sorts[j].length : Int) = sig[j].ports
      case neg =>
        simp only [k1, k2, k3, gn, gs, List.length_map, r_cons, r_nil, r_kont, r_seq1, r_seq3, r_blk3, r_fn2, r_rg, r_sq, r_rt, r_cd, r_cd2, r_op1, r_op1g, r_gd, r_go1, r_mv, r_bi, r_eqi, r_nei, r_gti, r_nt, r_nt1, r_ln, r_ln1, r_pk, r_pkt, r_pkf, r_op3, r_fa, r_fa1, r_fa2, r_ixn, r_ia, r_iae, r_ia1, r_pack, r_ltr, r_lab, r_ld, r_ld1, r_ld2, r_fin, r_kfe1, r_kcx, r_exps0, r_exps1, r_kex, r_exp1, r_expv2, r_round3, r_lt1, ptd, keyOf, freshK, lk, pt, lkO, addO, xv, kv, kc, ↓reduceIte, Nat.reduceEqDiff, Nat.reduceMul, reduceCtorEq, List.length_cons, List.length_nil, Nat.reduceLT, true_and, and_true, decide_true, decide_false, List.getElem?_cons_zero, List.getElem?_cons_succ, List.drop_succ_cons, List.drop_zero, noSh, isSc, impv, or_true, Bool.true_eq_false, Bool.not_true, Bool.not_false, Int.toNat_natCast, Nat.zero_add, Int.natCast_nonneg, ne_eq, not_false_eq_true, List.length_map]
        rw [g1 k3]
      simp only [k1, k2, k3, gn, gs, List.length_map, r_cons, r_kont, r_op1, r_op1g, r_gd, r_go1, r_mv, r_bi, r_eqi, r_nei, r_gti, r_nt, r_nt1, r_mf, r_mf1, r_ln, r_ln1, r_pk, r_pkt, r_pkf, r_op3, r_fa, r_fa1, r_fa2, r_ixn, r_ia, r_iae, r_ia1, r_pack, r_ltr, r_lab, r_ld, r_ld1, r_ld2, r_kcn, r_kfnn, r_sn0, r_sn1, r_sn4, r_sn5, r_ca, r_ca1, ptd, keyOf, freshK, lk, pt, lkO, addO, xv, kv, kc, ↓reduceIte, Nat.reduceEqDiff, Nat.reduceMul, reduceCtorEq, List.length_cons, List.length_nil, Nat.reduceLT, true_and, decide_true, decide_false, List.map_cons, List.map_nil, List.cons_append, List.nil_append, List.getElem?_cons_zero, List.getElem?_cons_succ, List.drop_succ_cons, List.drop_zero, mens, men, noSh, isSc, impv, or_true, Bool.not_true, Int.toNat_natCast, List.all_cons, List.all_nil, isCell, Bool.and_self, Nat.zero_add, Int.natCast_nonneg, ne_eq, not_true_eq_false, List.length_map, and_self]
      refine kca_intro (sem_coF1 (t := tv) (cs := [cSorting s]) g_coFI g_ixFI s.sorts[j] (by omega) (fun x _ lvl S => sem_IsSorting_2 x s b6 lvl S)) ?_
      cases h7 : s.sorts[j].any fun n => !inB n 0 ((s.most.length : Int) - 1)
      case true =>
        simp only [r_cons, r_nil, r_kont, r_seq1, r_seq3, r_blk3, r_fn2, r_rg, r_sq, r_rt, r_cd, r_cd2, r_op1, r_go1, r_mv, r_pk, r_pkf, r_fin, r_kfe1, r_kcx, r_exps0, r_exps1, r_kex, r_exp1, r_expv2, r_round3, r_lt1, ptd, keyOf, freshK, lk, pt, addO, xv, kv, kc, ↓reduceIte, Nat.reduceEqDiff, Nat.reduceMul, reduceCtorEq, List.length_nil, Nat.reduceLT, true_and, and_true, noSh, isSc, impv, or_true]
        rw [g2 k3 h7]
      simp only [r_cons, r_nil, r_kont, r_seq1, r_blk1, r_sk, r_rg, r_cd, r_cd2, r_op1, r_go1, r_mv, r_bi, r_add0, r_pk, r_pkf, r_fgt, r_clean, r_okm4, r_okm11, r_okE0, r_okE1, r_okL0, r_round1, ptd, keyOf, freshK, lk, pt, addO, xv, kv, kc, ↓reduceIte, Nat.reduceEqDiff, Nat.reduceMul, reduceCtorEq, List.length_nil, Nat.reduceLT, true_and, noSh, isSc, impv, memB, keepB, keepOB, or_true, Bool.false_eq_true, and_self]
      exact ⟨by rw [fits_i64]; omega, cntJ_intro () hja rfl (all_succ hA ⟨hN, g3 k3 h7⟩)⟩
    · by_cases k3 : (s.sorts[j].length : Int) = sig[j].ports
      case neg =>
        simp only [k1, k3, gs, List.length_map, r_cons, r_nil, r_kont, r_seq1, r_seq3, r_blk3, r_fn2, r_rg, r_sq, r_rt, r_cd, r_cd2, r_op1, r_op1g, r_gd, r_go1, r_mv, r_bi, r_eqi, r_nei, r_nt, r_nt1, r_ln, r_ln1, r_pk, r_pkt, r_pkf, r_op3, r_fa, r_fa1, r_fa2, r_ixn, r_ia, r_iae, r_ia1, r_pack, r_ltr, r_lab, r_ld, r_ld1, r_ld2, r_fin, r_kfe1, r_kcx, r_exps0, r_exps1, r_kex, r_exp1, r_expv2, r_round3, r_lt1, ptd, keyOf, freshK, lk, pt, lkO, addO, xv, kv, kc, ↓reduceIte, Nat.reduceEqDiff, Nat.reduceMul, reduceCtorEq, List.length_cons, List.length_nil, Nat.reduceLT, true_and, and_true, decide_true, decide_false, List.getElem?_cons_zero, List.getElem?_cons_succ, List.drop_succ_cons, List.drop_zero, noSh, isSc, impv, or_true, Bool.false_eq_true, Bool.true_eq_false, Bool.not_true, Bool.not_false, Int.toNat_natCast, Nat.zero_add, Int.natCast_nonneg, ne_eq, not_false_eq_true, List.length_map]
        rw [g1 k3]
      simp only [k1, k3, gs, List.length_map, r_cons, r_kont, r_op1, r_op1g, r_gd, r_go1, r_mv, r_bi, r_eqi, r_nei, r_nt, r_nt1, r_mf, r_mf1, r_ln, r_ln1, r_pk, r_pkf, r_op3, r_fa, r_fa1, r_fa2, r_ixn, r_ia, r_iae, r_ia1, r_pack, r_ltr, r_lab, r_ld, r_ld1, r_ld2, r_kcn, r_kfnn, r_sn0, r_sn1, r_sn4, r_sn5, r_ca, r_ca1, ptd, keyOf, freshK, lk, pt, lkO, addO, xv, kv, kc, ↓reduceIte, Nat.reduceEqDiff, Nat.reduceMul, reduceCtorEq, List.length_cons, List.length_nil, Nat.reduceLT, true_and, decide_false, List.map_cons, List.map_nil, List.cons_append, List.nil_append, List.getElem?_cons_zero, List.getElem?_cons_succ, List.drop_succ_cons, List.drop_zero, mens, men, noSh, isSc, impv, or_true, Bool.false_eq_true, Bool.not_true, Int.toNat_natCast, List.all_cons, List.all_nil, isCell, Bool.and_self, Nat.zero_add, Int.natCast_nonneg, ne_eq, not_true_eq_false, List.length_map, and_self]
      refine kca_intro (sem_coF1 (t := tv) (cs := [cSorting s]) g_coFI g_ixFI s.sorts[j] (by omega) (fun x _ lvl S => sem_IsSorting_2 x s b6 lvl S)) ?_
      cases h7 : s.sorts[j].any fun n => !inB n 0 ((s.most.length : Int) - 1)
      case true =>
        simp only [r_cons, r_nil, r_kont, r_seq1, r_seq3, r_blk3, r_fn2, r_rg, r_sq, r_rt, r_cd, r_cd2, r_op1, r_go1, r_mv, r_pk, r_pkf, r_fin, r_kfe1, r_kcx, r_exps0, r_exps1, r_kex, r_exp1, r_expv2, r_round3, r_lt1, ptd, keyOf, freshK, lk, pt, addO, xv, kv, kc, ↓reduceIte, Nat.reduceEqDiff, Nat.reduceMul, reduceCtorEq, List.length_nil, Nat.reduceLT, true_and, and_true, noSh, isSc, impv, or_true]
        rw [g2 k3 h7]
      simp only [r_cons, r_nil, r_kont, r_seq1, r_blk1, r_sk, r_rg, r_cd, r_cd2, r_op1, r_go1, r_mv, r_bi, r_add0, r_pk, r_pkf, r_fgt, r_clean, r_okm4, r_okm11, r_okE0, r_okE1, r_okL0, r_round1, ptd, keyOf, freshK, lk, pt, addO, xv, kv, kc, ↓reduceIte, Nat.reduceEqDiff, Nat.reduceMul, reduceCtorEq, List.length_nil, Nat.reduceLT, true_and, noSh, isSc, impv, memB, keepB, keepOB, or_true, Bool.false_eq_true, and_self]
      exact ⟨by rw [fits_i64]; omega, cntJ_intro () hja rfl (all_succ hA ⟨hN, g3 k3 h7⟩)⟩
  · have hj1 : j = sig.length := by omega
    subst hj1
    have : sortOK sig s := ⟨dc_iff.1 h1, dc_iff.1 h2, e3, fun k hk h2 => (hA k h2).1 hk h2, e4, fun k hk h2 => (hA k h2).2 hk h2, by have := inB_iff.1 h4; omega, any_out.1 h5, dc_iff.1 h6⟩
    rw [dc_true this]
end Go.Fd

/-
  The annotated codes of the functions, printed by a program of mine (gen.py), and the check that they belong to the program.
-/
namespace Go.Fd
def c_laws_FnExactIsSorting : F2 :=
  { nt := 45, res := [.t 4 [0]], body :=
   (.sq (.rg none [⟨some 3, none, .bt (.t 1)⟩,
      ⟨some 4, none, .mv (.k (.bool false)) none⟩])
   (.sq (.rg none [⟨some 5, none, .mv (.k (.int .i64 1048576)) none⟩])
   (.sq (.rg none [⟨some 10, none, .mv (.t 0) none⟩,
      ⟨some 11, none, .mv (.t 5) none⟩,
      ⟨some 12, none, .ca .pure false (.f fid_laws_szControlS) [.t 10, .t 11]⟩,
      ⟨some 5, none, .mv (.t 12) none⟩])
   (.sq (.sq (.rg none [⟨some 13, none, .mv (.t 5) none⟩,
       ⟨some 14, none, .bi .lss 0 (.t 13) (.k (.int .i64 0))⟩])
    (.cd (.t 14) (.sq (.rg none [⟨some 4, none, .mv (.k (.bool true)) none⟩])
     (.rt))
    (.sk)))
   (.sq (.rg none [⟨some 15, none, .ld (some 5) (.t 3)⟩,
      ⟨some 16, none, .mv (.t 5) none⟩,
      ⟨some 17, none, .ca .pure false (.f fid_laws_szSorting) [.t 15, .t 16]⟩,
      ⟨some 5, none, .mv (.t 17) none⟩])
   (.sq (.sq (.rg none [⟨some 18, none, .mv (.t 5) none⟩,
       ⟨some 19, none, .bi .lss 0 (.t 18) (.k (.int .i64 0))⟩])
    (.cd (.t 19) (.sq (.rg none [⟨some 4, none, .mv (.k (.bool true)) none⟩])
     (.rt))
    (.sk)))
   (.sq (.rg (some 0) [⟨some 20, none, .mv (.t 0) none⟩,
      ⟨some 21, none, .ca .pure false (.f fid_laws_toControlS) [.t 20]⟩,
      ⟨some 22, none, .ld (some 5) (.t 3)⟩,
      ⟨some 23, none, .ca .pure false (.f fid_laws_toSorting) [.t 22]⟩,
      ⟨some 24, none, .ca .pure false (.f fid_spec_IsSorting) [.t 21, .t 23]⟩,
      ⟨some 6, none, .mv (.t 24) none⟩])
   (.sq (.rg none [⟨some 25, none, .mv (.t 0) none⟩,
      ⟨some 26, none, .ca .pure false (.f fid_laws_toControlS) [.t 25]⟩,
      ⟨some 7, none, .mv (.t 26) none⟩])
   (.sq (.rg none [⟨some 27, none, .ld (some 5) (.t 3)⟩,
      ⟨some 28, none, .ca .pure false (.f fid_laws_toSorting) [.t 27]⟩,
      ⟨some 8, none, .al [.slice none 0 0, .slice none 0 0, .slice none 0 0, .slice none 0 0, .slice none 0 0] []⟩,
      ⟨none, none, .st 5 (.t 8) (.t 28)⟩])
   (.sq (.rg none [⟨some 29, none, .mv (.t 7) none⟩,
      ⟨some 30, none, .ld (some 5) (.t 8)⟩,
      ⟨some 31, none, .ca .pure false (.f fid_impl_IsSorting) [.t 29, .t 30]⟩,
      ⟨some 9, none, .mv (.t 31) none⟩])
   (.sq (.sq (.rg none [⟨some 32, none, .mv (.t 9) none⟩,
       ⟨some 33, none, .mv (.t 6) none⟩,
       ⟨some 34, none, .bi .neq 2 (.t 32) (.t 33)⟩])
    (.cd (.t 34) (.sq (.rg none [⟨some 4, none, .mv (.k (.bool false)) none⟩])
     (.rt))
    (.sk)))
   (.sq (.sq (.rg none [⟨some 35, none, .mv (.t 7) none⟩,
       ⟨some 36, none, .mv (.t 0) none⟩,
       ⟨some 37, none, .ca .pure false (.f fid_laws_toControlS) [.t 36]⟩,
       ⟨some 38, none, .ca .pure false (.f fid_laws_eqControlS) [.t 35, .t 37]⟩,
       ⟨some 39, none, .nt (.t 38)⟩])
    (.cd (.t 39) (.sq (.rg none [⟨some 4, none, .mv (.k (.bool false)) none⟩])
     (.rt))
    (.sk)))
   (.sq (.sq (.rg (some 0) [⟨some 40, none, .ld (some 5) (.t 8)⟩,
       ⟨some 41, none, .ld (some 5) (.t 3)⟩,
       ⟨some 42, none, .ca .pure false (.f fid_laws_toSorting) [.t 41]⟩,
       ⟨some 43, none, .ca .pure false (.f fid_laws_eqSorting) [.t 40, .t 42]⟩,
       ⟨some 44, none, .nt (.t 43)⟩])
    (.cd (.t 44) (.sq (.rg none [⟨some 4, none, .mv (.k (.bool false)) none⟩])
     (.rt))
    (.sk)))
   (.sq (.rg none [⟨some 4, none, .mv (.k (.bool true)) none⟩])
   (.rt))))))))))))))) }
theorem k_laws_FnExactIsSorting : chkF Go.Proofs.Tryd.prog fid_laws_FnExactIsSorting c_laws_FnExactIsSorting = true := by kernel_rfl

end Go.Fd

/-
  THE TEXT OF A MARK; THE MARKS OF NUMBERS AND TEXTS. Own work.
-/
namespace Go.Fd
set_option maxRecDepth 20000
def mt (q : Nat) (o : ByteArray) : ByteArray := if q = 0 then o else mt (q / 10) (⟨#[UInt8.ofNat (48 + q % 10)]⟩ ++ o)
  termination_by q
  decreasing_by omega
end Go.Fd

/-
  WHAT THE MARKING FUNCTIONS DO (printed by lawgen.py). Own work.
-/
namespace Go.Fd
set_option maxRecDepth 20000
end Go.Fd

/-
  The annotated codes of the functions, printed by a program of mine (gen.py), and the check that they belong to the program.
-/
namespace Go.Fd
def c_laws_toControlS : F2 :=
  { nt := 23, res := [.t 2 [4]], body :=
   (.sq (.rg none [⟨some 2, none, .mv (.k (.slice none 0 0)) none⟩])
   (.sq (.rg none [⟨some 5, none, .mv (.t 0) none⟩,
      ⟨some 6, none, .ln (.t 5)⟩,
      ⟨some 7, none, .ms 3 [.string ⟨#[]⟩, .int .i64 0, .int .i64 0] (.t 6)⟩,
      ⟨some 3, none, .mv (.t 7) none⟩])
   (.sq (.sq (.rg none [⟨some 4, none, .mv (.k (.int .i64 0)) none⟩])
    (.bl 0 (.lp [0, 3, 4] [224] (.sq (.sq (.rg none [⟨some 8, none, .mv (.t 4) none⟩,
          ⟨some 9, none, .mv (.t 0) none⟩,
          ⟨some 10, none, .ln (.t 9)⟩,
          ⟨some 11, none, .bi .lss 0 (.t 8) (.t 10)⟩])
       (.cd (.t 11) (.sk)
       (.ex 0)))
      (.sq (.bl 1 (.rg none [⟨some 14, none, .mv (.t 3) none⟩,
          ⟨some 15, none, .mv (.t 4) none⟩,
          ⟨some 16, none, .mv (.t 0) none⟩,
          ⟨some 17, none, .mv (.t 4) none⟩,
          ⟨some 18, none, .ia 3 (.t 16) (.t 17)⟩,
          ⟨some 19, none, .ld (some 3) (.t 18)⟩,
          ⟨some 20, none, .ca .pure true (.f fid_laws_toControl) [.t 19]⟩,
          ⟨some 21, none, .ia 3 (.t 14) (.t 15)⟩,
          ⟨none, none, .st 3 (.t 21) (.t 20)⟩]))
      (.rg none [⟨some 12, none, .mv (.t 4) none⟩,
        ⟨some 13, none, .bi .add 0 (.t 12) (.k (.int .i64 1))⟩,
        ⟨some 4, none, .mv (.t 13) none⟩]))))))
   (.sq (.rg none [⟨some 22, none, .mv (.t 3) none⟩,
      ⟨some 2, none, .mv (.t 22) none⟩])
   (.rt))))) }
theorem k_laws_toControlS : chkF Go.Proofs.Tryd.prog fid_laws_toControlS c_laws_toControlS = true := by kernel_rfl

def c_laws_eqSorting : F2 :=
  { nt := 35, res := [.t 4 [0]], body :=
   (.sq (.rg none [⟨some 2, none, .bt (.t 0)⟩,
      ⟨some 3, none, .bt (.t 1)⟩,
      ⟨some 4, none, .mv (.k (.bool false)) none⟩])
   (.sq (.sq (.rg none [⟨some 5, none, .fa 0 (.t 2)⟩,
       ⟨some 6, none, .ld none (.t 5)⟩,
       ⟨some 7, none, .fa 0 (.t 3)⟩,
       ⟨some 8, none, .ld none (.t 7)⟩,
       ⟨some 9, none, .ca .pure false (.f fid_laws_eqIntS) [.t 6, .t 8]⟩,
       ⟨some 10, none, .nt (.t 9)⟩])
    (.cd (.t 10) (.sq (.rg none [⟨some 4, none, .mv (.k (.bool false)) none⟩])
     (.rt))
    (.sk)))
   (.sq (.sq (.rg none [⟨some 11, none, .fa 1 (.t 2)⟩,
       ⟨some 12, none, .ld none (.t 11)⟩,
       ⟨some 13, none, .fa 1 (.t 3)⟩,
       ⟨some 14, none, .ld none (.t 13)⟩,
       ⟨some 15, none, .ca .pure false (.f fid_laws_eqIntSS) [.t 12, .t 14]⟩,
       ⟨some 16, none, .nt (.t 15)⟩])
    (.cd (.t 16) (.sq (.rg none [⟨some 4, none, .mv (.k (.bool false)) none⟩])
     (.rt))
    (.sk)))
   (.sq (.sq (.rg none [⟨some 17, none, .fa 2 (.t 2)⟩,
       ⟨some 18, none, .ld none (.t 17)⟩,
       ⟨some 19, none, .fa 2 (.t 3)⟩,
       ⟨some 20, none, .ld none (.t 19)⟩,
       ⟨some 21, none, .ca .pure false (.f fid_laws_eqIntSS) [.t 18, .t 20]⟩,
       ⟨some 22, none, .nt (.t 21)⟩])
    (.cd (.t 22) (.sq (.rg none [⟨some 4, none, .mv (.k (.bool false)) none⟩])
     (.rt))
    (.sk)))
   (.sq (.sq (.rg none [⟨some 23, none, .fa 3 (.t 2)⟩,
       ⟨some 24, none, .ld none (.t 23)⟩,
       ⟨some 25, none, .fa 3 (.t 3)⟩,
       ⟨some 26, none, .ld none (.t 25)⟩,
       ⟨some 27, none, .ca .pure false (.f fid_laws_eqIntS) [.t 24, .t 26]⟩,
       ⟨some 28, none, .nt (.t 27)⟩])
    (.cd (.t 28) (.sq (.rg none [⟨some 4, none, .mv (.k (.bool false)) none⟩])
     (.rt))
    (.sk)))
   (.sq (.sq (.rg none [⟨some 29, none, .fa 4 (.t 2)⟩,
       ⟨some 30, none, .ld none (.t 29)⟩,
       ⟨some 31, none, .fa 4 (.t 3)⟩,
       ⟨some 32, none, .ld none (.t 31)⟩,
       ⟨some 33, none, .ca .pure false (.f fid_laws_eqIntA2S) [.t 30, .t 32]⟩,
       ⟨some 34, none, .nt (.t 33)⟩])
    (.cd (.t 34) (.sq (.rg none [⟨some 4, none, .mv (.k (.bool false)) none⟩])
     (.rt))
    (.sk)))
   (.sq (.rg none [⟨some 4, none, .mv (.k (.bool true)) none⟩])
   (.rt)))))))) }
theorem k_laws_eqSorting : chkF Go.Proofs.Tryd.prog fid_laws_eqSorting c_laws_eqSorting = true := by kernel_rfl

def c_laws_szSorting : F2 :=
  { nt := 36, res := [.t 4 [0]], body :=
   (.sq (.rg none [⟨some 2, none, .bt (.t 0)⟩,
      ⟨some 4, none, .mv (.k (.int .i64 0)) none⟩])
   (.sq (.rg none [⟨some 5, none, .fa 0 (.t 2)⟩,
      ⟨some 6, none, .ld none (.t 5)⟩,
      ⟨some 7, none, .mv (.t 1) none⟩,
      ⟨some 8, none, .ca .pure false (.f fid_laws_szIntS) [.t 6, .t 7]⟩,
      ⟨some 1, none, .mv (.t 8) none⟩])
   (.sq (.sq (.rg none [⟨some 9, none, .mv (.t 1) none⟩,
       ⟨some 10, none, .bi .lss 0 (.t 9) (.k (.int .i64 0))⟩])
    (.cd (.t 10) (.sq (.rg none [⟨some 4, none, .mv (.k (.int .i64 (-1))) none⟩])
     (.rt))
    (.sk)))
   (.sq (.rg none [⟨some 11, none, .fa 1 (.t 2)⟩,
      ⟨some 12, none, .ld none (.t 11)⟩,
      ⟨some 13, none, .mv (.t 1) none⟩,
      ⟨some 14, none, .ca .pure false (.f fid_laws_szIntSS) [.t 12, .t 13]⟩,
      ⟨some 1, none, .mv (.t 14) none⟩])
   (.sq (.sq (.rg none [⟨some 15, none, .mv (.t 1) none⟩,
       ⟨some 16, none, .bi .lss 0 (.t 15) (.k (.int .i64 0))⟩])
    (.cd (.t 16) (.sq (.rg none [⟨some 4, none, .mv (.k (.int .i64 (-1))) none⟩])
     (.rt))
    (.sk)))
   (.sq (.rg none [⟨some 17, none, .fa 2 (.t 2)⟩,
      ⟨some 18, none, .ld none (.t 17)⟩,
      ⟨some 19, none, .mv (.t 1) none⟩,
      ⟨some 20, none, .ca .pure false (.f fid_laws_szIntSS) [.t 18, .t 19]⟩,
      ⟨some 1, none, .mv (.t 20) none⟩])
   (.sq (.sq (.rg none [⟨some 21, none, .mv (.t 1) none⟩,
       ⟨some 22, none, .bi .lss 0 (.t 21) (.k (.int .i64 0))⟩])
    (.cd (.t 22) (.sq (.rg none [⟨some 4, none, .mv (.k (.int .i64 (-1))) none⟩])
     (.rt))
    (.sk)))
   (.sq (.rg none [⟨some 23, none, .fa 3 (.t 2)⟩,
      ⟨some 24, none, .ld none (.t 23)⟩,
      ⟨some 25, none, .mv (.t 1) none⟩,
      ⟨some 26, none, .ca .pure false (.f fid_laws_szIntS) [.t 24, .t 25]⟩,
      ⟨some 1, none, .mv (.t 26) none⟩])
   (.sq (.sq (.rg none [⟨some 27, none, .mv (.t 1) none⟩,
       ⟨some 28, none, .bi .lss 0 (.t 27) (.k (.int .i64 0))⟩])
    (.cd (.t 28) (.sq (.rg none [⟨some 4, none, .mv (.k (.int .i64 (-1))) none⟩])
     (.rt))
    (.sk)))
   (.sq (.rg none [⟨some 29, none, .fa 4 (.t 2)⟩,
      ⟨some 30, none, .ld none (.t 29)⟩,
      ⟨some 31, none, .mv (.t 1) none⟩,
      ⟨some 32, none, .ca .pure false (.f fid_laws_szIntA2S) [.t 30, .t 31]⟩,
      ⟨some 1, none, .mv (.t 32) none⟩])
   (.sq (.sq (.rg none [⟨some 33, none, .mv (.t 1) none⟩,
       ⟨some 34, none, .bi .lss 0 (.t 33) (.k (.int .i64 0))⟩])
    (.cd (.t 34) (.sq (.rg none [⟨some 4, none, .mv (.k (.int .i64 (-1))) none⟩])
     (.rt))
    (.sk)))
   (.sq (.rg none [⟨some 35, none, .mv (.t 1) none⟩,
      ⟨some 4, none, .mv (.t 35) none⟩])
   (.rt))))))))))))) }
theorem k_laws_szSorting : chkF Go.Proofs.Tryd.prog fid_laws_szSorting c_laws_szSorting = true := by kernel_rfl

def c_laws_toSorting : F2 :=
  { nt := 25, res := [.c 2 (some 5) [2, 2, 2, 2, 3]], body :=
   (.sq (.rg none [⟨some 1, none, .bt (.t 0)⟩,
      ⟨some 2, none, .al [.slice none 0 0, .slice none 0 0, .slice none 0 0, .slice none 0 0, .slice none 0 0] []⟩])
   (.sq (.rg none [⟨some 3, none, .al [.slice none 0 0, .slice none 0 0, .slice none 0 0, .slice none 0 0, .slice none 0 0] []⟩])
   (.sq (.rg none [⟨some 4, none, .fa 0 (.t 1)⟩,
      ⟨some 5, none, .ld none (.t 4)⟩,
      ⟨some 6, none, .ca .pure true (.f fid_laws_toIntS) [.t 5]⟩,
      ⟨some 7, none, .fa 0 (.t 3)⟩,
      ⟨none, none, .st 1 (.t 7) (.t 6)⟩])
   (.sq (.rg none [⟨some 8, none, .fa 1 (.t 1)⟩,
      ⟨some 9, none, .ld none (.t 8)⟩,
      ⟨some 10, none, .ca .pure true (.f fid_laws_toIntSS) [.t 9]⟩,
      ⟨some 11, none, .fa 1 (.t 3)⟩,
      ⟨none, none, .st 1 (.t 11) (.t 10)⟩])
   (.sq (.rg none [⟨some 12, none, .fa 2 (.t 1)⟩,
      ⟨some 13, none, .ld none (.t 12)⟩,
      ⟨some 14, none, .ca .pure true (.f fid_laws_toIntSS) [.t 13]⟩,
      ⟨some 15, none, .fa 2 (.t 3)⟩,
      ⟨none, none, .st 1 (.t 15) (.t 14)⟩])
   (.sq (.rg none [⟨some 16, none, .fa 3 (.t 1)⟩,
      ⟨some 17, none, .ld none (.t 16)⟩,
      ⟨some 18, none, .ca .pure true (.f fid_laws_toIntS) [.t 17]⟩,
      ⟨some 19, none, .fa 3 (.t 3)⟩,
      ⟨none, none, .st 1 (.t 19) (.t 18)⟩])
   (.sq (.rg none [⟨some 20, none, .fa 4 (.t 1)⟩,
      ⟨some 21, none, .ld none (.t 20)⟩,
      ⟨some 22, none, .ca .pure true (.f fid_laws_toIntA2S) [.t 21]⟩,
      ⟨some 23, none, .fa 4 (.t 3)⟩,
      ⟨none, none, .st 1 (.t 23) (.t 22)⟩])
   (.sq (.rg none [⟨some 24, none, .ld (some 5) (.t 3)⟩,
      ⟨none, none, .st 5 (.t 2) (.t 24)⟩])
   (.rt))))))))) }
theorem k_laws_toSorting : chkF Go.Proofs.Tryd.prog fid_laws_toSorting c_laws_toSorting = true := by kernel_rfl

def c_laws_szControl : F2 :=
  { nt := 13, res := [.t 4 [0]], body :=
   (.sq (.rg none [⟨some 2, none, .bt (.t 0)⟩,
      ⟨some 4, none, .mv (.k (.int .i64 0)) none⟩])
   (.sq (.rg none [⟨some 5, none, .mv (.t 1) none⟩,
      ⟨some 6, none, .fa 0 (.t 2)⟩,
      ⟨some 7, none, .ld none (.t 6)⟩,
      ⟨some 8, none, .lg (.t 7)⟩,
      ⟨some 9, none, .bi .sub 0 (.t 5) (.t 8)⟩,
      ⟨some 1, none, .mv (.t 9) none⟩])
   (.sq (.sq (.rg none [⟨some 10, none, .mv (.t 1) none⟩,
       ⟨some 11, none, .bi .lss 0 (.t 10) (.k (.int .i64 0))⟩])
    (.cd (.t 11) (.sq (.rg none [⟨some 4, none, .mv (.k (.int .i64 (-1))) none⟩])
     (.rt))
    (.sk)))
   (.sq (.rg none [⟨some 12, none, .mv (.t 1) none⟩,
      ⟨some 4, none, .mv (.t 12) none⟩])
   (.rt))))) }
theorem k_laws_szControl : chkF Go.Proofs.Tryd.prog fid_laws_szControl c_laws_szControl = true := by kernel_rfl

def c_laws_toControl : F2 :=
  { nt := 14, res := [.c 2 (some 3) [0, 0, 0]], body :=
   (.sq (.rg none [⟨some 1, none, .bt (.t 0)⟩,
      ⟨some 2, none, .al [.string ⟨#[]⟩, .int .i64 0, .int .i64 0] []⟩])
   (.sq (.rg none [⟨some 3, none, .al [.string ⟨#[]⟩, .int .i64 0, .int .i64 0] []⟩])
   (.sq (.rg none [⟨some 4, none, .fa 0 (.t 1)⟩,
      ⟨some 5, none, .ld none (.t 4)⟩,
      ⟨some 6, none, .fa 0 (.t 3)⟩,
      ⟨none, none, .st 1 (.t 6) (.t 5)⟩])
   (.sq (.rg none [⟨some 7, none, .fa 1 (.t 1)⟩,
      ⟨some 8, none, .ld none (.t 7)⟩,
      ⟨some 9, none, .fa 1 (.t 3)⟩,
      ⟨none, none, .st 1 (.t 9) (.t 8)⟩])
   (.sq (.rg none [⟨some 10, none, .fa 2 (.t 1)⟩,
      ⟨some 11, none, .ld none (.t 10)⟩,
      ⟨some 12, none, .fa 2 (.t 3)⟩,
      ⟨none, none, .st 1 (.t 12) (.t 11)⟩])
   (.sq (.rg none [⟨some 13, none, .ld (some 3) (.t 3)⟩,
      ⟨none, none, .st 3 (.t 2) (.t 13)⟩])
   (.rt))))))) }
theorem k_laws_toControl : chkF Go.Proofs.Tryd.prog fid_laws_toControl c_laws_toControl = true := by kernel_rfl

def c_laws_eqControl : F2 :=
  { nt := 20, res := [.t 4 [0]], body :=
   (.sq (.rg none [⟨some 2, none, .bt (.t 0)⟩,
      ⟨some 3, none, .bt (.t 1)⟩,
      ⟨some 4, none, .mv (.k (.bool false)) none⟩])
   (.sq (.sq (.rg none [⟨some 5, none, .fa 0 (.t 2)⟩,
       ⟨some 6, none, .ld none (.t 5)⟩,
       ⟨some 7, none, .fa 0 (.t 3)⟩,
       ⟨some 8, none, .ld none (.t 7)⟩,
       ⟨some 9, none, .bi .neq 0 (.t 6) (.t 8)⟩])
    (.cd (.t 9) (.sq (.rg none [⟨some 4, none, .mv (.k (.bool false)) none⟩])
     (.rt))
    (.sk)))
   (.sq (.sq (.rg none [⟨some 10, none, .fa 1 (.t 2)⟩,
       ⟨some 11, none, .ld none (.t 10)⟩,
       ⟨some 12, none, .fa 1 (.t 3)⟩,
       ⟨some 13, none, .ld none (.t 12)⟩,
       ⟨some 14, none, .bi .neq 0 (.t 11) (.t 13)⟩])
    (.cd (.t 14) (.sq (.rg none [⟨some 4, none, .mv (.k (.bool false)) none⟩])
     (.rt))
    (.sk)))
   (.sq (.sq (.rg none [⟨some 15, none, .fa 2 (.t 2)⟩,
       ⟨some 16, none, .ld none (.t 15)⟩,
       ⟨some 17, none, .fa 2 (.t 3)⟩,
       ⟨some 18, none, .ld none (.t 17)⟩,
       ⟨some 19, none, .bi .neq 0 (.t 16) (.t 18)⟩])
    (.cd (.t 19) (.sq (.rg none [⟨some 4, none, .mv (.k (.bool false)) none⟩])
     (.rt))
    (.sk)))
   (.sq (.rg none [⟨some 4, none, .mv (.k (.bool true)) none⟩])
   (.rt)))))) }
theorem k_laws_eqControl : chkF Go.Proofs.Tryd.prog fid_laws_eqControl c_laws_eqControl = true := by kernel_rfl

def c_laws_toIntSS : F2 :=
  { nt := 23, res := [.t 2 [2]], body :=
   (.sq (.rg none [⟨some 2, none, .mv (.k (.slice none 0 0)) none⟩])
   (.sq (.rg none [⟨some 5, none, .mv (.t 0) none⟩,
      ⟨some 6, none, .ln (.t 5)⟩,
      ⟨some 7, none, .ms 1 [.slice none 0 0] (.t 6)⟩,
      ⟨some 3, none, .mv (.t 7) none⟩])
   (.sq (.sq (.rg none [⟨some 4, none, .mv (.k (.int .i64 0)) none⟩])
    (.bl 0 (.lp [0, 3, 4] [224, 640] (.sq (.sq (.rg none [⟨some 8, none, .mv (.t 4) none⟩,
          ⟨some 9, none, .mv (.t 0) none⟩,
          ⟨some 10, none, .ln (.t 9)⟩,
          ⟨some 11, none, .bi .lss 0 (.t 8) (.t 10)⟩])
       (.cd (.t 11) (.sk)
       (.ex 0)))
      (.sq (.bl 1 (.rg none [⟨some 14, none, .mv (.t 3) none⟩,
          ⟨some 15, none, .mv (.t 4) none⟩,
          ⟨some 16, none, .mv (.t 0) none⟩,
          ⟨some 17, none, .mv (.t 4) none⟩,
          ⟨some 18, none, .ia 1 (.t 16) (.t 17)⟩,
          ⟨some 19, none, .ld none (.t 18)⟩,
          ⟨some 20, none, .ca .pure true (.f fid_laws_toIntS) [.t 19]⟩,
          ⟨some 21, none, .ia 1 (.t 14) (.t 15)⟩,
          ⟨none, none, .st 1 (.t 21) (.t 20)⟩]))
      (.rg none [⟨some 12, none, .mv (.t 4) none⟩,
        ⟨some 13, none, .bi .add 0 (.t 12) (.k (.int .i64 1))⟩,
        ⟨some 4, none, .mv (.t 13) none⟩]))))))
   (.sq (.rg none [⟨some 22, none, .mv (.t 3) none⟩,
      ⟨some 2, none, .mv (.t 22) none⟩])
   (.rt))))) }
theorem k_laws_toIntSS : chkF Go.Proofs.Tryd.prog fid_laws_toIntSS c_laws_toIntSS = true := by kernel_rfl

def c_laws_toIntA2S : F2 :=
  { nt := 23, res := [.t 2 [3]], body :=
   (.sq (.rg none [⟨some 2, none, .mv (.k (.slice none 0 0)) none⟩])
   (.sq (.rg none [⟨some 5, none, .mv (.t 0) none⟩,
      ⟨some 6, none, .ln (.t 5)⟩,
      ⟨some 7, none, .ms 2 [.int .i64 0, .int .i64 0] (.t 6)⟩,
      ⟨some 3, none, .mv (.t 7) none⟩])
   (.sq (.sq (.rg none [⟨some 4, none, .mv (.k (.int .i64 0)) none⟩])
    (.bl 0 (.lp [0, 3, 4] [224] (.sq (.sq (.rg none [⟨some 8, none, .mv (.t 4) none⟩,
          ⟨some 9, none, .mv (.t 0) none⟩,
          ⟨some 10, none, .ln (.t 9)⟩,
          ⟨some 11, none, .bi .lss 0 (.t 8) (.t 10)⟩])
       (.cd (.t 11) (.sk)
       (.ex 0)))
      (.sq (.bl 1 (.rg none [⟨some 14, none, .mv (.t 3) none⟩,
          ⟨some 15, none, .mv (.t 4) none⟩,
          ⟨some 16, none, .mv (.t 0) none⟩,
          ⟨some 17, none, .mv (.t 4) none⟩,
          ⟨some 18, none, .ia 2 (.t 16) (.t 17)⟩,
          ⟨some 19, none, .ld (some 2) (.t 18)⟩,
          ⟨some 20, none, .ca .pure true (.f fid_laws_toIntA2) [.t 19]⟩,
          ⟨some 21, none, .ia 2 (.t 14) (.t 15)⟩,
          ⟨none, none, .st 2 (.t 21) (.t 20)⟩]))
      (.rg none [⟨some 12, none, .mv (.t 4) none⟩,
        ⟨some 13, none, .bi .add 0 (.t 12) (.k (.int .i64 1))⟩,
        ⟨some 4, none, .mv (.t 13) none⟩]))))))
   (.sq (.rg none [⟨some 22, none, .mv (.t 3) none⟩,
      ⟨some 2, none, .mv (.t 22) none⟩])
   (.rt))))) }
theorem k_laws_toIntA2S : chkF Go.Proofs.Tryd.prog fid_laws_toIntA2S c_laws_toIntA2S = true := by kernel_rfl

def c_laws_eqIntA2 : F2 :=
  { nt := 17, res := [.t 4 [0]], body :=
   (.sq (.rg none [⟨some 2, none, .bt (.t 0)⟩,
      ⟨some 3, none, .bt (.t 1)⟩,
      ⟨some 4, none, .mv (.k (.bool false)) none⟩])
   (.sq (.sq (.rg none [⟨some 5, none, .mv (.k (.int .i64 0)) none⟩])
    (.bl 0 (.lp [2, 3, 5] [] (.sq (.sq (.rg none [⟨some 6, none, .mv (.t 5) none⟩,
          ⟨some 7, none, .bi .lss 0 (.t 6) (.k (.int .i64 2))⟩])
       (.cd (.t 7) (.sk)
       (.ex 0)))
      (.sq (.bl 1 (.sq (.rg (some 0) [⟨some 10, none, .mv (.t 5) none⟩,
           ⟨some 11, none, .ja 1 2 (.t 2) (.t 10)⟩,
           ⟨some 12, none, .ld none (.t 11)⟩,
           ⟨some 13, none, .mv (.t 5) none⟩,
           ⟨some 14, none, .ja 1 2 (.t 3) (.t 13)⟩,
           ⟨some 15, none, .ld none (.t 14)⟩,
           ⟨some 16, none, .bi .neq 0 (.t 12) (.t 15)⟩])
        (.cd (.t 16) (.sq (.rg none [⟨some 4, none, .mv (.k (.bool false)) none⟩])
         (.rt))
        (.sk))))
      (.rg none [⟨some 8, none, .mv (.t 5) none⟩,
        ⟨some 9, none, .bi .add 0 (.t 8) (.k (.int .i64 1))⟩,
        ⟨some 5, none, .mv (.t 9) none⟩]))))))
   (.sq (.rg none [⟨some 4, none, .mv (.k (.bool true)) none⟩])
   (.rt)))) }
theorem k_laws_eqIntA2 : chkF Go.Proofs.Tryd.prog fid_laws_eqIntA2 c_laws_eqIntA2 = true := by kernel_rfl

def c_laws_toIntA2 : F2 :=
  { nt := 15, res := [.c 2 (some 2) [0, 0]], body :=
   (.sq (.rg none [⟨some 1, none, .bt (.t 0)⟩,
      ⟨some 2, none, .al [.int .i64 0, .int .i64 0] []⟩])
   (.sq (.rg none [⟨some 3, none, .al [.int .i64 0, .int .i64 0] []⟩])
   (.sq (.sq (.rg none [⟨some 4, none, .mv (.k (.int .i64 0)) none⟩])
    (.bl 0 (.lp [1, 2, 3, 4] [64, 96] (.sq (.sq (.rg none [⟨some 5, none, .mv (.t 4) none⟩,
          ⟨some 6, none, .bi .lss 0 (.t 5) (.k (.int .i64 2))⟩])
       (.cd (.t 6) (.sk)
       (.ex 0)))
      (.sq (.bl 1 (.rg none [⟨some 9, none, .mv (.t 4) none⟩,
          ⟨some 10, none, .mv (.t 4) none⟩,
          ⟨some 11, none, .ja 1 2 (.t 1) (.t 10)⟩,
          ⟨some 12, none, .ld none (.t 11)⟩,
          ⟨some 13, none, .ja 1 2 (.t 3) (.t 9)⟩,
          ⟨none, none, .st 1 (.t 13) (.t 12)⟩]))
      (.rg none [⟨some 7, none, .mv (.t 4) none⟩,
        ⟨some 8, none, .bi .add 0 (.t 7) (.k (.int .i64 1))⟩,
        ⟨some 4, none, .mv (.t 8) none⟩]))))))
   (.sq (.rg none [⟨some 14, none, .ld (some 2) (.t 3)⟩,
      ⟨none, none, .st 2 (.t 2) (.t 14)⟩])
   (.rt))))) }
theorem k_laws_toIntA2 : chkF Go.Proofs.Tryd.prog fid_laws_toIntA2 c_laws_toIntA2 = true := by kernel_rfl

end Go.Fd

/-
  SMALL WORDS FOR MARKS. Own work.
-/
namespace Go.Fd
end Go.Fd

/-
  MARKING STRUCTS; WHETHER MARKS ARE HELD (printed by lawgen.py). Own work.
-/
namespace Go.Fd
set_option maxRecDepth 20000
end Go.Fd

/-
  HOW MANY MARKS A THING TAKES, AGAINST ITS SIZE (printed by lawgen.py). Own work.
-/
namespace Go.Fd
end Go.Fd

/-
  WHAT HOLDS OF THE HELPERS OF THE LAWS (printed by lawgen.py). Own work.
-/
namespace Go.Fd
set_option maxRecDepth 20000
theorem szN_le {n : Nat} {l : Int} (h : 0 ≤ l) : szN n l ≤ l := by unfold szN; split <;> omega
theorem szF_le {α : Type} {f : α → Int → Int} : ∀ (a : List α) (l : Int), (∀ x ∈ a, ∀ l : Int, 0 ≤ l → l ≤ 1048576 → f x l ≤ l) → 0 ≤ l → l ≤ 1048576 → szF f a l ≤ l
  | [], l, _, _, _ => Int.le_refl l
  | x :: r, l, hf, h0, h1 => by
    simp only [szF]
    have := hf x (by simp) l h0 h1
    split
    · omega
    · have h2 := szF_le r (f x l) (fun y hy => hf y (by simp [hy])) (by omega) (by omega)
      omega
theorem szL_le {α : Type} {f : α → Int → Int} (a : List α) {l : Int} (hf : ∀ x ∈ a, ∀ l : Int, 0 ≤ l → l ≤ 1048576 → f x l ≤ l) (h0 : 0 ≤ l) (h1 : l ≤ 1048576) : szL f a l ≤ l := by
  unfold szL
  split
  · omega
  · have := szF_le a (l - a.length) hf (by omega) (by omega)
    omega
theorem szTh_le {l m : Int} {g : Int → Int} (h0 : 0 ≤ l) (h : m ≤ l) (hg : 0 ≤ m → g m ≤ m) : szTh m g ≤ l := by
  unfold szTh
  split
  · omega
  · have := hg (by omega)
    omega
theorem g_szIntS : chkF Go.Proofs.Tryd.prog fid_laws_szIntS sz0 = true := by kernel_rfl
theorem sem_szIntS (a : List Int) (hl : a.length ≤ 9223372036854775807) (l : Int) (h0 : 0 ≤ l) (h1 : l ≤ 1048576) : szN a.length l ≤ l ∧ ∀ lvl S, Sem Go.Proofs.Tryd.prog fid_laws_szIntS lvl [.tr (.sl (rI a)), iI l] S (iI (szN a.length l)) S := by
  refine ⟨szN_le h0, fun lvl S => ?_⟩
  have := sem_sz0 g_szIntS (rI a) l (by simpa using hl) h0 h1 lvl S
  simpa using this
theorem g_szIntSS : chkF Go.Proofs.Tryd.prog fid_laws_szIntSS (szSl 1 none fid_laws_szIntS) = true := by kernel_rfl
theorem sem_szIntSS (a : (List (List Int))) (hl : a.length ≤ 9223372036854775807) (hb : ∀ y ∈ a, y.length ≤ 9223372036854775807) (l : Int) (h0 : 0 ≤ l) (h1 : l ≤ 1048576) : szL (fun x m => (szN x.length m)) a l ≤ l ∧ ∀ lvl S, Sem Go.Proofs.Tryd.prog fid_laws_szIntSS lvl [.tr (.sl (a.map (fun l => [Tr.sl (rI l)]))), iI l] S (iI (szL (fun x m => (szN x.length m)) a l)) S :=
  ⟨szL_le a (fun x hx l h0 h1 => (sem_szIntS x (hb x hx) l h0 h1).1) h0 h1, fun lvl S => sem_szS1 g_szIntSS (fun l => Tr.sl (rI l)) (fun x m => (szN x.length m)) a l hl h0 h1 (fun x hx l h0 h1 => sem_szIntS x (hb x hx) l h0 h1) lvl S⟩
theorem g_szIntA2S : chkF Go.Proofs.Tryd.prog fid_laws_szIntA2S sz0 = true := by kernel_rfl
theorem sem_szIntA2S (a : List (Int × Int)) (hl : a.length ≤ 9223372036854775807) (l : Int) (h0 : 0 ≤ l) (h1 : l ≤ 1048576) : szN a.length l ≤ l ∧ ∀ lvl S, Sem Go.Proofs.Tryd.prog fid_laws_szIntA2S lvl [.tr (.sl (a.map cA2)), iI l] S (iI (szN a.length l)) S := by
  refine ⟨szN_le h0, fun lvl S => ?_⟩
  have := sem_sz0 g_szIntA2S (a.map cA2) l (by simpa using hl) h0 h1 lvl S
  simpa using this
theorem sem_szSorting (x : TSorting) (hb : bdSorting 9223372036854775807 x) (l : Int) (h0 : 0 ≤ l) (h1 : l ≤ 1048576) : szSorting x l ≤ l ∧ ∀ lvl S, Sem Go.Proofs.Tryd.prog fid_laws_szSorting lvl [.ag ((cSorting x).map .tr), iI l] S (iI (szSorting x l)) S := by
  obtain ⟨b0, b1, b2, b3, b4, b5, b6⟩ := hb
  refine ⟨?_, fun lvl S => ?_⟩
  · unfold szSorting
    have q0 := sem_szIntS x.tops b0 _ h0 h1
    refine szTh_le h0 q0.1 (fun p0 => ?_)
    have r0 : _ ≤ (1048576 : Int) := Int.le_trans q0.1 h1
    have q1 := sem_szIntSS x.nest b1 b2 _ p0 r0
    refine szTh_le p0 q1.1 (fun p1 => ?_)
    have r1 : _ ≤ (1048576 : Int) := Int.le_trans q1.1 r0
    have q2 := sem_szIntSS x.sorts b3 b4 _ p1 r1
    refine szTh_le p1 q2.1 (fun p2 => ?_)
    have r2 : _ ≤ (1048576 : Int) := Int.le_trans q2.1 r1
    have q3 := sem_szIntS x.most b5 _ p2 r2
    refine szTh_le p2 q3.1 (fun p3 => ?_)
    have r3 : _ ≤ (1048576 : Int) := Int.le_trans q3.1 r2
    have q4 := sem_szIntA2S x.apart b6 _ p3 r3
    refine szTh_le p3 q4.1 (fun p4 => ?_)
    have r4 : _ ≤ (1048576 : Int) := Int.le_trans q4.1 r3
    exact Int.le_refl _
  · refine sem_of_chk k_laws_szSorting trivial ?_
    simp only [c_laws_szSorting, cSorting, List.map_cons, List.map_nil, r_cons, r_nil, r_kont, r_seq1, r_rg, r_sq, r_wpF, r_op1, r_go1, r_mv, r_bt, r_bt1, r_op3, r_fa, r_fa1, r_ltr, r_ld, r_ld1, r_kcn, r_sn0, r_sn1, r_ca, r_ca1, ptd, lk, pt, xv, kv, kc, params, ↓reduceIte, Nat.reduceEqDiff, reduceCtorEq, List.length_cons, List.length_nil, Nat.reduceAdd, Nat.reduceLeDiff, Nat.reduceLT, true_and, List.map_cons, List.map_nil, List.cons_append, List.nil_append, List.getElem?_cons_zero, List.drop_zero, mens, men, List.all_cons, List.all_nil, isCell, Bool.and_true, Bool.and_self, cellsOf, totr, totrs, tocs, Nat.zero_add, and_self]
    unfold szSorting
    have q0 := sem_szIntS x.tops b0 l h0 h1
    refine kca_intro q0.2 ?_
    simp only [r_cons, r_nil, r_kont, r_seq1, r_seq3, r_fn2, r_sk, r_rg, r_sq, r_rt, r_cd, r_cd2, r_op1, r_go1, r_mv, r_bi, r_lti, r_op3, r_fa, r_fa1, r_ltr, r_ld, r_ld1, r_kcn, r_sn0, r_sn1, r_ca, r_ca1, r_fin, r_kfe1, r_kcx, r_exps0, r_exps1, r_kex, r_exp1, r_expv2, ptd, keyOf, freshK, lk, pt, addO, xv, kv, kc, ↓reduceIte, Nat.reduceEqDiff, Nat.reduceMul, reduceCtorEq, List.length_nil, Nat.reduceLT, true_and, and_true, decide_eq_true_eq, List.map_cons, List.map_nil, List.cons_append, List.nil_append, List.getElem?_cons_zero, List.drop_succ_cons, List.drop_zero, mens, men, noSh, isSc, impv, or_true, and_self]
    obtain ⟨l1, hl1⟩ : ∃ m : Int, m = (szN x.tops.length l) := ⟨_, rfl⟩
    have u1 : l1 ≤ l := by rw [hl1]; exact q0.1
    rw [← hl1]
    split
    · rename_i hn; rw [szTh, if_pos hn]
    rename_i hn0
    rw [szTh, if_neg hn0]
    have q1 := sem_szIntSS x.nest b1 b2 l1 (show 0 ≤ l1 by omega) (show l1 ≤ 1048576 by omega)
    refine kca_intro q1.2 ?_
    simp only [r_cons, r_nil, r_kont, r_seq1, r_seq3, r_fn2, r_sk, r_rg, r_sq, r_rt, r_cd, r_cd2, r_op1, r_go1, r_mv, r_bi, r_lti, r_op3, r_fa, r_fa1, r_ltr, r_ld, r_ld1, r_kcn, r_sn0, r_sn1, r_ca, r_ca1, r_fin, r_kfe1, r_kcx, r_exps0, r_exps1, r_kex, r_exp1, r_expv2, ptd, keyOf, freshK, lk, pt, addO, xv, kv, kc, ↓reduceIte, Nat.reduceEqDiff, Nat.reduceMul, reduceCtorEq, List.length_nil, Nat.reduceLT, true_and, and_true, decide_eq_true_eq, List.map_cons, List.map_nil, List.cons_append, List.nil_append, List.getElem?_cons_zero, List.drop_succ_cons, List.drop_zero, mens, men, noSh, isSc, impv, or_true, and_self]
    obtain ⟨l2, hl2⟩ : ∃ m : Int, m = (szL (fun x m => (szN x.length m)) x.nest l1) := ⟨_, rfl⟩
    have u2 : l2 ≤ l1 := by rw [hl2]; exact q1.1
    rw [← hl2]
    split
    · rename_i hn; rw [szTh, if_pos hn]
    rename_i hn1
    rw [szTh, if_neg hn1]
    have q2 := sem_szIntSS x.sorts b3 b4 l2 (show 0 ≤ l2 by omega) (show l2 ≤ 1048576 by omega)
    refine kca_intro q2.2 ?_
    simp only [r_cons, r_nil, r_kont, r_seq1, r_seq3, r_fn2, r_sk, r_rg, r_sq, r_rt, r_cd, r_cd2, r_op1, r_go1, r_mv, r_bi, r_lti, r_op3, r_fa, r_fa1, r_ltr, r_ld, r_ld1, r_kcn, r_sn0, r_sn1, r_ca, r_ca1, r_fin, r_kfe1, r_kcx, r_exps0, r_exps1, r_kex, r_exp1, r_expv2, ptd, keyOf, freshK, lk, pt, addO, xv, kv, kc, ↓reduceIte, Nat.reduceEqDiff, Nat.reduceMul, reduceCtorEq, List.length_nil, Nat.reduceLT, true_and, and_true, decide_eq_true_eq, List.map_cons, List.map_nil, List.cons_append, List.nil_append, List.getElem?_cons_zero, List.drop_succ_cons, List.drop_zero, mens, men, noSh, isSc, impv, or_true, and_self]
    obtain ⟨l3, hl3⟩ : ∃ m : Int, m = (szL (fun x m => (szN x.length m)) x.sorts l2) := ⟨_, rfl⟩
    have u3 : l3 ≤ l2 := by rw [hl3]; exact q2.1
    rw [← hl3]
    split
    · rename_i hn; rw [szTh, if_pos hn]
    rename_i hn2
    rw [szTh, if_neg hn2]
    have q3 := sem_szIntS x.most b5 l3 (show 0 ≤ l3 by omega) (show l3 ≤ 1048576 by omega)
    refine kca_intro q3.2 ?_
    simp only [r_cons, r_nil, r_kont, r_seq1, r_seq3, r_fn2, r_sk, r_rg, r_sq, r_rt, r_cd, r_cd2, r_op1, r_go1, r_mv, r_bi, r_lti, r_op3, r_fa, r_fa1, r_ltr, r_ld, r_ld1, r_kcn, r_sn0, r_sn1, r_ca, r_ca1, r_fin, r_kfe1, r_kcx, r_exps0, r_exps1, r_kex, r_exp1, r_expv2, ptd, keyOf, freshK, lk, pt, addO, xv, kv, kc, ↓reduceIte, Nat.reduceEqDiff, Nat.reduceMul, reduceCtorEq, List.length_nil, Nat.reduceLT, true_and, and_true, decide_eq_true_eq, List.map_cons, List.map_nil, List.cons_append, List.nil_append, List.getElem?_cons_zero, List.drop_succ_cons, List.drop_zero, mens, men, noSh, isSc, impv, or_true, and_self]
    obtain ⟨l4, hl4⟩ : ∃ m : Int, m = (szN x.most.length l3) := ⟨_, rfl⟩
    have u4 : l4 ≤ l3 := by rw [hl4]; exact q3.1
    rw [← hl4]
    split
    · rename_i hn; rw [szTh, if_pos hn]
    rename_i hn3
    rw [szTh, if_neg hn3]
    have q4 := sem_szIntA2S x.apart b6 l4 (show 0 ≤ l4 by omega) (show l4 ≤ 1048576 by omega)
    refine kca_intro q4.2 ?_
    simp only [r_cons, r_nil, r_kont, r_seq1, r_seq3, r_fn2, r_sk, r_rg, r_sq, r_rt, r_cd, r_cd2, r_op1, r_go1, r_mv, r_bi, r_lti, r_fin, r_kfe1, r_kcx, r_exps0, r_exps1, r_kex, r_exp1, r_expv2, ptd, keyOf, freshK, lk, pt, addO, xv, kv, kc, ↓reduceIte, Nat.reduceEqDiff, Nat.reduceMul, reduceCtorEq, List.length_nil, Nat.reduceLT, true_and, and_true, decide_eq_true_eq, noSh, isSc, impv, or_true]
    obtain ⟨l5, hl5⟩ : ∃ m : Int, m = (szN x.apart.length l4) := ⟨_, rfl⟩
    have u5 : l5 ≤ l4 := by rw [hl5]; exact q4.1
    rw [← hl5]
    split
    · rename_i hn; rw [szTh, if_pos hn]
    rename_i hn4
    rw [szTh, if_neg hn4]
theorem sem_szControl (x : TControl) (hb : bdControl 9223372036854775807 x) (l : Int) (h0 : 0 ≤ l) (h1 : l ≤ 1048576) : szControl x l ≤ l ∧ ∀ lvl S, Sem Go.Proofs.Tryd.prog fid_laws_szControl lvl [.ag ((cControl x).map .tr), iI l] S (iI (szControl x l)) S := by
  have b0 : x.name.size ≤ 9223372036854775807 := hb
  refine ⟨?_, fun lvl S => ?_⟩
  · unfold szControl
    refine szTh_le h0 (m := l - x.name.size) (by omega) (fun p0 => ?_)
    have r0 : _ ≤ (1048576 : Int) := Int.le_trans (show l - x.name.size ≤ l by omega) h1
    exact Int.le_refl _
  · refine sem_of_chk k_laws_szControl trivial ?_
    simp only [c_laws_szControl, cControl, List.map_cons, List.map_nil, r_cons, r_nil, r_kont, r_seq1, r_seq3, r_fn2, r_sk, r_rg, r_sq, r_rt, r_cd, r_cd2, r_wpF, r_op1, r_go1, r_mv, r_bt, r_bt1, r_bi, r_sub0, r_lti, r_lg, r_lg1, r_op3, r_fa, r_fa1, r_ltr, r_ld, r_ld1, r_fin, r_kfe1, r_kcx, r_exps0, r_exps1, r_kex, r_exp1, r_expv2, ptd, lk, pt, xv, kv, kc, params, ↓reduceIte, Nat.reduceEqDiff, reduceCtorEq, List.length_cons, List.length_nil, Nat.reduceAdd, Nat.reduceLeDiff, Nat.reduceLT, true_and, and_true, decide_eq_true_eq, List.map_cons, List.map_nil, List.getElem?_cons_zero, List.drop_zero, List.all_cons, List.all_nil, isCell, Bool.and_self, cellsOf, totr, totrs, tocs, Nat.zero_add]
    unfold szControl
    refine ⟨by rw [fits_i64]; omega, ?_⟩
    obtain ⟨l1, hl1⟩ : ∃ m : Int, m = l - x.name.size := ⟨_, rfl⟩
    have u1 : l1 ≤ l := by omega
    rw [← hl1]
    split
    · rename_i hn; rw [szTh, if_pos hn]
    rename_i hn0
    rw [szTh, if_neg hn0]
theorem g_szControlS : chkF Go.Proofs.Tryd.prog fid_laws_szControlS (szSl 3 (some 3) fid_laws_szControl) = true := by kernel_rfl
theorem sem_szControlS (a : List TControl) (hl : a.length ≤ 9223372036854775807) (hb : ∀ y ∈ a, bdControl 9223372036854775807 y) (l : Int) (h0 : 0 ≤ l) (h1 : l ≤ 1048576) : szL szControl a l ≤ l ∧ ∀ lvl S, Sem Go.Proofs.Tryd.prog fid_laws_szControlS lvl [.tr (.sl (a.map cControl)), iI l] S (iI (szL szControl a l)) S :=
  ⟨szL_le a (fun x hx l h0 h1 => (sem_szControl x (hb x hx) l h0 h1).1) h0 h1, fun lvl S => sem_szSl g_szControlS cControl szControl cControl_len a l hl h0 h1 (fun x hx l h0 h1 => sem_szControl x (hb x hx) l h0 h1) lvl S⟩
end Go.Fd

/-
  WHAT HOLDS OF THE HELPERS OF THE LAWS: eq.. (printed by lawgen.py). Own work.
-/
namespace Go.Fd
set_option maxRecDepth 20000
theorem g_eqIntS : chkF Go.Proofs.Tryd.prog fid_laws_eqIntS eqS1 = true := by kernel_rfl
theorem sem_eqIntS (a b : (List Int)) (ha : a.length ≤ 9223372036854775807) (lvl : Nat) (S : Sto) : Sem Go.Proofs.Tryd.prog fid_laws_eqIntS lvl [.tr (.sl (rI a)), .tr (.sl (rI b))] S (iB (decide (a = b))) S := sem_eqI g_eqIntS a b ha lvl S
theorem g_eqIntSS : chkF Go.Proofs.Tryd.prog fid_laws_eqIntSS (eqSl 1 none fid_laws_eqIntS) = true := by kernel_rfl
theorem sem_eqIntSS (a b : (List (List Int))) (ha : a.length ≤ 9223372036854775807) (ha2 : ∀ y ∈ a, y.length ≤ 9223372036854775807) (lvl : Nat) (S : Sto) : Sem Go.Proofs.Tryd.prog fid_laws_eqIntSS lvl [.tr (.sl (a.map (fun l => [Tr.sl (rI l)]))), .tr (.sl (b.map (fun l => [Tr.sl (rI l)])))] S (iB (decide (a = b))) S :=
  sem_eqSl1 g_eqIntSS (fun l => Tr.sl (rI l)) a b ha (fun x hx y _ lvl S => sem_eqIntS x y (ha2 x hx) lvl S) lvl S
theorem sem_eqIntA2 (x y : (Int × Int)) (lvl : Nat) (S : Sto) : Sem Go.Proofs.Tryd.prog fid_laws_eqIntA2 lvl [.ag ((cA2 x).map .tr), .ag ((cA2 y).map .tr)] S (iB (decide (x = y))) S := by
  refine sem_of_chk k_laws_eqIntA2 trivial ?_
  simp only [c_laws_eqIntA2, cA2, r_cons, r_nil, r_kont, r_seq1, r_rg, r_sq, r_bl, r_wpF, r_op1, r_mv, r_bt, r_bt1, ptd, lk, pt, xv, kv, kc, params, ↓reduceIte, Nat.reduceEqDiff, reduceCtorEq, List.length_cons, List.length_nil, Nat.reduceAdd, Nat.reduceLeDiff, Nat.reduceLT, true_and, List.map_cons, List.map_nil, List.all_cons, List.all_nil, isCell, Bool.and_self, cellsOf, totr, totrs, tocs, Nat.zero_add]
  refine wp_count (α := Unit) 2 (fun j _ => ⟨lvl, [(2, .ta (cA2 x)), (3, .ta (cA2 y)), (5, iI j)], [], S⟩) (fun j _ => (cA2 x).take j = (cA2 y).take j) () ⟨by simp only [r_clean, r_okm4, r_okm11, r_okE0, r_okE1, r_okL0, ↓reduceIte, Nat.reduceEqDiff, reduceCtorEq, memB, keepB, keepOB, Bool.false_eq_true, and_self], by (simp only [r_fgt, ↓reduceIte, Nat.reduceEqDiff, reduceCtorEq, memB, keepB, keepOB, Bool.false_eq_true, Int.cast_ofNat_Int]) <;> rfl⟩ rfl ?_
  intro j _ hj hA
  have hc : j = 0 ∨ j = 1 ∨ j = 2 := by omega
  rcases hc with rfl | rfl | rfl
  · simp only [cA2, Int.cast_ofNat_Int, Nat.mul_one, r_cons, r_nil, r_kont, r_seq1, r_seq3, r_blk1, r_blk3, r_fn2, r_sk, r_rg, r_sq, r_bl, r_rt, r_cd, r_cd2, r_op1, r_go1, r_mv, r_bi, r_add0, r_nei, r_lti, r_op3, r_ixn, r_ja, r_ja1, r_ltr, r_ld, r_ld1, r_fin, r_kfe1, r_kcx, r_exps0, r_exps1, r_kex, r_exp1, r_expv2, r_fgt, r_clean, r_okm4, r_okm11, r_okE0, r_okE1, r_okL0, r_round1, r_round3, r_lt1, ptd, lk, pt, xv, kv, kc, ↓reduceIte, Nat.reduceEqDiff, Nat.reduceSub, Nat.reduceLT, true_and, and_true, decide_eq_true_eq, decide_true, List.getElem?_cons_zero, List.drop_zero, memB, keepB, keepOB, Bool.false_eq_true, Int.toNat_zero, Int.reduceLE, Int.reduceLT, ne_eq, and_self, Int.cast_ofNat_Int]
    refine ite_of (fun hne => ?_) (fun heq => ?_)
    · have : ¬ x = y := fun e => hne (by rw [e])
      simp [this]
    · refine ⟨by rw [fits_i64]; omega, cntJ_intro (N := 2) (k := 0) () (by omega) rfl ?_⟩
      simp [cA2] at hA ⊢
      simp_all
  · simp only [cA2, Int.cast_ofNat_Int, Nat.mul_one, r_cons, r_nil, r_kont, r_seq1, r_seq3, r_blk1, r_blk3, r_fn2, r_sk, r_rg, r_sq, r_bl, r_rt, r_cd, r_cd2, r_op1, r_go1, r_mv, r_bi, r_add0, r_nei, r_lti, r_op3, r_ixn, r_ja, r_ja1, r_ltr, r_ld, r_ld1, r_fin, r_kfe1, r_kcx, r_exps0, r_exps1, r_kex, r_exp1, r_expv2, r_fgt, r_clean, r_okm4, r_okm11, r_okE0, r_okE1, r_okL0, r_round1, r_round3, r_lt1, ptd, lk, pt, xv, kv, kc, ↓reduceIte, Nat.reduceEqDiff, Nat.reduceSub, Nat.reduceLT, true_and, and_true, decide_eq_true_eq, decide_true, List.getElem?_cons_zero, List.drop_succ_cons, List.drop_zero, memB, keepB, keepOB, Bool.false_eq_true, Int.toNat_one, Int.reduceLE, Int.reduceLT, ne_eq, and_self, Int.cast_ofNat_Int]
    refine ite_of (fun hne => ?_) (fun heq => ?_)
    · have : ¬ x = y := fun e => hne (by rw [e])
      simp [this]
    · refine ⟨by rw [fits_i64]; omega, cntJ_intro (N := 2) (k := 1) () (by omega) rfl ?_⟩
      simp [cA2] at hA ⊢
      simp_all
  · simp only [cA2, Int.cast_ofNat_Int, r_cons, r_nil, r_kont, r_seq1, r_seq2, r_blk2, r_fn2, r_rg, r_sq, r_ex, r_rt, r_cd, r_cd2, r_op1, r_go1, r_mv, r_bi, r_lti, r_fin, r_kfe1, r_kcx, r_exps0, r_exps1, r_kex, r_exp1, r_expv2, r_round2, r_lt1, ptd, lk, pt, xv, kv, kc, ↓reduceIte, Nat.reduceEqDiff, Nat.reduceSub, Nat.reduceLT, and_true, decide_false, Bool.false_eq_true, Int.reduceLT, Int.cast_ofNat_Int]
    have : x = y := by
      simp [cA2] at hA
      obtain ⟨x0, x1⟩ := x; obtain ⟨y0, y1⟩ := y
      simp_all
    simp [this]
theorem g_eqIntA2S : chkF Go.Proofs.Tryd.prog fid_laws_eqIntA2S (eqSl 2 (some 2) fid_laws_eqIntA2) = true := by kernel_rfl
theorem sem_eqIntA2S (a b : (List (Int × Int))) (ha : a.length ≤ 9223372036854775807) (lvl : Nat) (S : Sto) : Sem Go.Proofs.Tryd.prog fid_laws_eqIntA2S lvl [.tr (.sl (a.map cA2)), .tr (.sl (b.map cA2))] S (iB (decide (a = b))) S :=
  sem_eqSl g_eqIntA2S cA2 (fun _ => rfl) a b ha (fun x hx y _ lvl S => sem_eqIntA2 x y lvl S) lvl S
theorem sem_eqSorting (x y : TSorting) (hb : bdSorting 9223372036854775807 x) (lvl : Nat) (S : Sto) : Sem Go.Proofs.Tryd.prog fid_laws_eqSorting lvl [.ag ((cSorting x).map .tr), .ag ((cSorting y).map .tr)] S (iB (decide (x = y))) S := by
  obtain ⟨b0, b1, b2, b3, b4, b5, b6⟩ := hb
  refine sem_of_chk k_laws_eqSorting trivial ?_
  simp only [c_laws_eqSorting, cSorting, List.map_cons, List.map_nil, r_cons, r_nil, r_kont, r_seq1, r_rg, r_sq, r_wpF, r_op1, r_go1, r_mv, r_bt, r_bt1, r_op3, r_fa, r_fa1, r_ltr, r_ld, r_ld1, r_kcn, r_sn0, r_sn1, r_ca, r_ca1, ptd, lk, pt, xv, kv, kc, params, ↓reduceIte, Nat.reduceEqDiff, reduceCtorEq, List.length_cons, List.length_nil, Nat.reduceAdd, Nat.reduceLeDiff, Nat.reduceLT, true_and, List.map_cons, List.map_nil, List.cons_append, List.nil_append, List.getElem?_cons_zero, List.drop_zero, mens, men, List.all_cons, List.all_nil, isCell, Bool.and_true, Bool.and_self, cellsOf, totr, totrs, tocs, Nat.zero_add, and_self]
  refine kca_intro (sem_eqIntS x.tops y.tops b0) ?_
  simp only [Bool.not_eq_true', r_cons, r_nil, r_kont, r_seq1, r_seq3, r_fn2, r_sk, r_rg, r_sq, r_rt, r_cd, r_cd2, r_op1, r_go1, r_mv, r_nt, r_nt1, r_op3, r_fa, r_fa1, r_ltr, r_ld, r_ld1, r_kcn, r_sn0, r_sn1, r_ca, r_ca1, r_fin, r_kfe1, r_kcx, r_exps0, r_exps1, r_kex, r_exp1, r_expv2, ptd, keyOf, freshK, lk, pt, addO, xv, kv, kc, ↓reduceIte, Nat.reduceEqDiff, Nat.reduceMul, reduceCtorEq, List.length_nil, Nat.reduceLT, true_and, and_true, List.map_cons, List.map_nil, List.cons_append, List.nil_append, List.getElem?_cons_zero, List.drop_succ_cons, List.drop_zero, mens, men, noSh, isSc, impv, or_true, Bool.not_eq_true', and_self]
  refine ite_of (fun hne => ?_) (fun heq0 => ?_)
  · have : ¬ x = y := fun e => (by rw [e] at hne; simp at hne)
    simp [this]
  refine kca_intro (sem_eqIntSS x.nest y.nest b1 b2) ?_
  simp only [Bool.not_eq_true', r_cons, r_nil, r_kont, r_seq1, r_seq3, r_fn2, r_sk, r_rg, r_sq, r_rt, r_cd, r_cd2, r_op1, r_go1, r_mv, r_nt, r_nt1, r_op3, r_fa, r_fa1, r_ltr, r_ld, r_ld1, r_kcn, r_sn0, r_sn1, r_ca, r_ca1, r_fin, r_kfe1, r_kcx, r_exps0, r_exps1, r_kex, r_exp1, r_expv2, ptd, keyOf, freshK, lk, pt, addO, xv, kv, kc, ↓reduceIte, Nat.reduceEqDiff, Nat.reduceMul, reduceCtorEq, List.length_nil, Nat.reduceLT, true_and, and_true, List.map_cons, List.map_nil, List.cons_append, List.nil_append, List.getElem?_cons_zero, List.drop_succ_cons, List.drop_zero, mens, men, noSh, isSc, impv, or_true, Bool.not_eq_true', and_self]
  refine ite_of (fun hne => ?_) (fun heq1 => ?_)
  · have : ¬ x = y := fun e => (by rw [e] at hne; simp at hne)
    simp [this]
  refine kca_intro (sem_eqIntSS x.sorts y.sorts b3 b4) ?_
  simp only [Bool.not_eq_true', r_cons, r_nil, r_kont, r_seq1, r_seq3, r_fn2, r_sk, r_rg, r_sq, r_rt, r_cd, r_cd2, r_op1, r_go1, r_mv, r_nt, r_nt1, r_op3, r_fa, r_fa1, r_ltr, r_ld, r_ld1, r_kcn, r_sn0, r_sn1, r_ca, r_ca1, r_fin, r_kfe1, r_kcx, r_exps0, r_exps1, r_kex, r_exp1, r_expv2, ptd, keyOf, freshK, lk, pt, addO, xv, kv, kc, ↓reduceIte, Nat.reduceEqDiff, Nat.reduceMul, reduceCtorEq, List.length_nil, Nat.reduceLT, true_and, and_true, List.map_cons, List.map_nil, List.cons_append, List.nil_append, List.getElem?_cons_zero, List.drop_succ_cons, List.drop_zero, mens, men, noSh, isSc, impv, or_true, Bool.not_eq_true', and_self]
  refine ite_of (fun hne => ?_) (fun heq2 => ?_)
  · have : ¬ x = y := fun e => (by rw [e] at hne; simp at hne)
    simp [this]
  refine kca_intro (sem_eqIntS x.most y.most b5) ?_
  simp only [Bool.not_eq_true', r_cons, r_nil, r_kont, r_seq1, r_seq3, r_fn2, r_sk, r_rg, r_sq, r_rt, r_cd, r_cd2, r_op1, r_go1, r_mv, r_nt, r_nt1, r_op3, r_fa, r_fa1, r_ltr, r_ld, r_ld1, r_kcn, r_sn0, r_sn1, r_ca, r_ca1, r_fin, r_kfe1, r_kcx, r_exps0, r_exps1, r_kex, r_exp1, r_expv2, ptd, keyOf, freshK, lk, pt, addO, xv, kv, kc, ↓reduceIte, Nat.reduceEqDiff, Nat.reduceMul, reduceCtorEq, List.length_nil, Nat.reduceLT, true_and, and_true, List.map_cons, List.map_nil, List.cons_append, List.nil_append, List.getElem?_cons_zero, List.drop_succ_cons, List.drop_zero, mens, men, noSh, isSc, impv, or_true, Bool.not_eq_true', and_self]
  refine ite_of (fun hne => ?_) (fun heq3 => ?_)
  · have : ¬ x = y := fun e => (by rw [e] at hne; simp at hne)
    simp [this]
  refine kca_intro (sem_eqIntA2S x.apart y.apart b6) ?_
  simp only [Bool.not_eq_true', r_cons, r_nil, r_kont, r_seq1, r_seq3, r_fn2, r_sk, r_rg, r_sq, r_rt, r_cd, r_cd2, r_op1, r_go1, r_mv, r_nt, r_nt1, r_fin, r_kfe1, r_kcx, r_exps0, r_exps1, r_kex, r_exp1, r_expv2, ptd, keyOf, freshK, lk, pt, addO, xv, kv, kc, ↓reduceIte, Nat.reduceEqDiff, Nat.reduceMul, reduceCtorEq, List.length_nil, Nat.reduceLT, true_and, and_true, noSh, isSc, impv, or_true, Bool.not_eq_true']
  refine ite_of (fun hne => ?_) (fun heq4 => ?_)
  · have : ¬ x = y := fun e => (by rw [e] at hne; simp at hne)
    simp [this]
  have : x = y := by
    cases x; cases y; simp_all
  simp [this]
theorem sem_eqControl (x y : TControl) (hb : bdControl 9223372036854775807 x) (lvl : Nat) (S : Sto) : Sem Go.Proofs.Tryd.prog fid_laws_eqControl lvl [.ag ((cControl x).map .tr), .ag ((cControl y).map .tr)] S (iB (decide (x = y))) S := by
  have b0 : x.name.size ≤ 9223372036854775807 := hb
  refine sem_of_chk k_laws_eqControl trivial ?_
  simp only [c_laws_eqControl, cControl, List.map_cons, List.map_nil, r_cons, r_nil, r_kont, r_seq1, r_seq3, r_fn2, r_sk, r_rg, r_sq, r_rt, r_cd, r_cd2, r_wpF, r_op1, r_go1, r_mv, r_bt, r_bt1, r_bi, r_nei, r_nes, r_op3, r_fa, r_fa1, r_ltr, r_ld, r_ld1, r_fin, r_kfe1, r_kcx, r_exps0, r_exps1, r_kex, r_exp1, r_expv2, ptd, lk, pt, xv, kv, kc, params, ↓reduceIte, Nat.reduceEqDiff, reduceCtorEq, List.length_cons, List.length_nil, Nat.reduceAdd, Nat.reduceLeDiff, Nat.reduceLT, true_and, and_true, decide_eq_true_eq, List.map_cons, List.map_nil, List.getElem?_cons_zero, List.drop_succ_cons, List.drop_zero, List.all_cons, List.all_nil, isCell, Bool.and_self, cellsOf, totr, totrs, tocs, Nat.zero_add, ne_eq]
  refine ite_of (fun hne => ?_) (fun heq0 => ?_)
  · have : ¬ x = y := fun e => (by rw [e] at hne; simp at hne)
    simp [this]
  refine ite_of (fun hne => ?_) (fun heq1 => ?_)
  · have : ¬ x = y := fun e => (by rw [e] at hne; simp at hne)
    simp [this]
  refine ite_of (fun hne => ?_) (fun heq2 => ?_)
  · have : ¬ x = y := fun e => (by rw [e] at hne; simp at hne)
    simp [this]
  have : x = y := by
    cases x; cases y; simp_all
  simp [this]
theorem g_eqControlS : chkF Go.Proofs.Tryd.prog fid_laws_eqControlS (eqSl 3 (some 3) fid_laws_eqControl) = true := by kernel_rfl
theorem sem_eqControlS (a b : (List TControl)) (ha : a.length ≤ 9223372036854775807) (ha2 : ∀ y ∈ a, bdControl 9223372036854775807 y) (lvl : Nat) (S : Sto) : Sem Go.Proofs.Tryd.prog fid_laws_eqControlS lvl [.tr (.sl (a.map cControl)), .tr (.sl (b.map cControl))] S (iB (decide (a = b))) S :=
  sem_eqSl g_eqControlS cControl (fun _ => rfl) a b ha (fun x hx y _ lvl S => sem_eqControl x y (ha2 x hx) lvl S) lvl S
end Go.Fd

/-
  WHAT HOLDS OF THE HELPERS OF THE LAWS: to.. (printed by lawgen.py). Own work.
-/
namespace Go.Fd
set_option maxRecDepth 20000
theorem g_toIntS : chkF Go.Proofs.Tryd.prog fid_laws_toIntS (toS1 (.int .i64 0)) = true := by kernel_rfl
theorem sem_toIntS (a : (List Int)) (ha : a.length ≤ 4294967296) (lvl : Nat) (S : Sto) : Sem Go.Proofs.Tryd.prog fid_laws_toIntS lvl [.tr (.sl (rI a))] S (.ow 1 (rI a) true) S := sem_toI g_toIntS a ha lvl S
theorem sem_toIntSS (a : (List (List Int))) (ha : a.length ≤ 4294967296) (hb : ∀ y ∈ a, y.length ≤ 4294967296) (lvl : Nat) (S : Sto) : Sem Go.Proofs.Tryd.prog fid_laws_toIntSS lvl [.tr (.sl (a.map (fun l => [Tr.sl (rI l)])))] S (.ow 1 (a.map (fun l => [Tr.sl (rI l)])) true) S := by
  refine sem_of_chk k_laws_toIntSS trivial ?_
  simp only [c_laws_toIntSS, List.length_map, bigN, Int.natCast_nonneg, r_cons, r_nil, r_kont, r_seq1, r_rg, r_sq, r_bl, r_wpF, r_op1, r_go1, r_mv, r_ms, r_ms1, r_ln, r_ln1, r_lt1, bigN, ptd, keyOf, freshK, lk, pt, lkO, ptO, xv, kv, kc, params, trv, ↓reduceIte, Nat.reduceEqDiff, Nat.reduceMul, reduceCtorEq, List.length_cons, List.length_nil, Nat.reduceLeDiff, Nat.reduceLT, true_and, List.map_cons, List.map_nil, Int.toNat_natCast, Nat.zero_add, Int.natCast_nonneg, List.length_map, and_self, Int.cast_ofNat_Int]
  refine ⟨by omega, ?_⟩
  refine wp_count (α := Unit) a.length (fun j _ => ⟨lvl, [(0, .tr (.sl (a.map (fun l => [Tr.sl (rI l)])))), (3, .hd (lvl, 224) [] 0 a.length none a.length), (4, iI j)], [(224, .ar 1 (filled (fun l => [Tr.sl (rI l)]) [.sl []] a j) true a.length (j * 1))], S⟩) (fun _ _ => True) () ⟨by simp only [r_clean, r_okm1, r_okm4, r_okE0, r_okE1, r_okL0, r_okL2, ↓reduceIte, Nat.reduceEqDiff, reduceCtorEq, memB, keepB, keepOB, Bool.false_eq_true, and_self], by (simp only [filled_zero, r_fgt, ↓reduceIte, Nat.reduceEqDiff, Nat.reduceMul, reduceCtorEq, memB, keepB, keepOB, Bool.false_eq_true, Int.cast_ofNat_Int]) <;> rfl⟩ trivial ?_
  intro j _ hj _
  simp only [List.length_map, r_cons, r_nil, r_kont, r_seq1, r_seq2, r_blk2, r_fn2, r_sk, r_rg, r_sq, r_bl, r_ex, r_rt, r_cd, r_cd2, r_op1, r_go1, r_mv, r_bi, r_lti, r_ln, r_ln1, r_ixn, r_ia, r_ia1, r_kill, r_fin, r_kfe1, r_kcx, r_exps0, r_exps1, r_kex, r_exp1, r_expv4, r_expc7, r_exh1, r_round2, r_lt1, ptd, lk, pt, lkO, xv, ↓reduceIte, Nat.reduceEqDiff, reduceCtorEq, Nat.reduceLT, true_and, and_true, decide_eq_true_eq, List.headD_cons, scrE, scrL, scr, rmO, Int.toNat_natCast, Int.natCast_nonneg, List.length_map]
  refine ite_of (fun hlt => ?_) (fun hge => ?_)
  · have hja : j < a.length := by omega
    have ga : (a.map (fun l => [Tr.sl (rI l)]))[j]? = some ((fun l => [Tr.sl (rI l)]) a[j]) := by simp [hja]
    have gz : (filled (fun l => [Tr.sl (rI l)]) [.sl []] a j)[j]? = some [.sl []] := filled_get hja
    have hfl : (filled (fun l => [Tr.sl (rI l)]) [.sl []] a j).length = a.length := filled_length hj
    have hsem := fun lvl S => sem_toIntS a[j] (hb a[j] (List.getElem_mem hja)) lvl S
    simp only [ga, r_cons, r_kont, r_op1, r_go1, r_op3, r_iae, r_ltr, r_ld, r_ld1, r_kcn, r_sn0, r_sn1, r_ca, r_ca1, ptd, lk, pt, xv, ↓reduceIte, Nat.reduceEqDiff, reduceCtorEq, List.length_cons, List.length_nil, Nat.reduceLT, true_and, List.map_cons, List.map_nil, List.cons_append, List.nil_append, List.getElem?_cons_zero, mens, men, Nat.zero_add, and_self]
    refine kca_intro hsem ?_
    simp only [gz, Int.natCast_nonneg, hja, setp, List.set_cons_zero, Prod.mk.injEq, ne_eq, not_false_eq_true, r_cons, r_nil, r_kont, r_seq1, r_blk1, r_rg, r_op1, r_go1, r_mv, r_bi, r_add0, r_op3, r_ixn, r_ia, r_rde, r_rd3, r_stamp0, r_iah, r_iah2, r_ia3, r_pack, r_setOb, r_kill, r_fgt, r_clean, r_okm1, r_okm4, r_okE0, r_okE1, r_okL0, r_okL2, r_round1, r_st, r_st2, r_kst, r_stcs0, r_stcs1, r_sc1, r_sc3, r_sc4, r_sc2c, r_sc5, r_lt1, ptd, keyOf, freshK, lk, pt, lkO, ptO, addO, xv, kv, kc, ↓reduceIte, Nat.reduceEqDiff, Nat.reduceMul, reduceCtorEq, List.length_cons, List.length_nil, Nat.reduceLT, true_and, List.getElem?_cons_zero, noSh, impv, impc, memB, keepB, keepOB, or_true, Bool.false_eq_true, scrE, scrL, scr, scrOb, rmO, Int.toNat_natCast, isCell, Bool.and_self, cellsOf, getp, Nat.zero_add, Nat.add_zero, List.set_cons_zero, Int.natCast_nonneg, Prod.mk.injEq, ne_eq, not_false_eq_true, List.length_map, and_false, and_self]
    refine ⟨by rw [fits_i64]; omega, cntJ_intro () hja ?_ trivial⟩
    have hse := filled_set (c := (fun l => [Tr.sl (rI l)])) (z := [.sl []]) (e := [.sl (rI a[j])]) hja rfl
    rw [hse, show (j + 1) * 1 = j * 1 + 1 from by omega]
    rfl
  · have : j = a.length := by omega
    subst this
    rw [filled_all]
    simp
def oA2 (x : (Int × Int)) : IV := .ag [iI x.1, iI x.2]
theorem sem_toIntA2 (x : (Int × Int)) (lvl : Nat) (S : Sto) : Sem Go.Proofs.Tryd.prog fid_laws_toIntA2 lvl [.ag ((cA2 x).map .tr)] S (oA2 x) S := by
  refine sem_of_chk k_laws_toIntA2 (by simp [oA2, low, men, mens]) ?_
  simp only [c_laws_toIntA2, cA2, zfill, zobs, List.map_cons, List.map_nil, r_cons, r_nil, r_kont, r_seq1, r_rg, r_sq, r_bl, r_wpF, r_op1, r_mv, r_bt, r_bt1, r_al, zfill, zobs, ptd, keyOf, freshK, lk, pt, lkO, ptO, addO, xv, kv, kc, params, ↓reduceIte, Nat.reduceEqDiff, Nat.reduceMul, reduceCtorEq, List.length_cons, List.length_nil, Nat.reduceAdd, Nat.reduceLeDiff, Nat.reduceLT, true_and, List.map_cons, List.map_nil, List.all_cons, List.all_nil, isCell, Bool.and_self, cellsOf, totr, totrs, tocs, Nat.zero_add, Nat.add_zero, and_self]
  refine wp_count (α := Unit) 2 (fun j _ => ⟨lvl, [(1, .ta (cA2 x)), (2, .ab (lvl, 64) 0), (3, .ab (lvl, 96) 0), (4, iI j)], [(64, .bx [iI 0, iI 0]), (96, .bx ([iI x.1, iI x.2].take j ++ [iI 0, iI 0].drop j))], S⟩) (fun _ _ => True) () ⟨by simp only [r_clean, r_okm2, r_okm4, r_okm11, r_okms0, r_okms1, r_okE0, r_okE1, r_okL0, r_okL1, ↓reduceIte, Nat.reduceEqDiff, reduceCtorEq, memB, keepB, keepOB, Bool.false_eq_true, and_self], by (simp only [r_fgt, ↓reduceIte, Nat.reduceEqDiff, reduceCtorEq, List.nil_append, List.drop_zero, List.take_zero, memB, keepB, keepOB, Bool.false_eq_true, Int.cast_ofNat_Int]) <;> rfl⟩ trivial ?_
  intro j _ hj _
  have hc : j = 0 ∨ j = 1 ∨ j = 2 := by omega
  rcases hc with rfl | rfl | rfl
  · simp only [cA2, Int.cast_ofNat_Int, Nat.mul_one, r_setAt0, r_setAt1, List.set_cons_zero, r_cons, r_nil, r_kont, r_seq1, r_blk1, r_sk, r_rg, r_sq, r_bl, r_cd, r_cd2, r_op1, r_go1, r_mv, r_bi, r_add0, r_lti, r_op3, r_ixn, r_ja, r_ja1, r_ja2, r_pack, r_setOb, r_ltr, r_ld, r_ld1, r_fgt, r_clean, r_okm2, r_okm4, r_okm11, r_okms0, r_okms1, r_okE0, r_okE1, r_okL0, r_okL1, r_round1, r_st, r_st1, r_stb, r_setAt0, r_setAt1, r_lows0, r_lows1, r_low1, r_lt1, ptd, lk, pt, lkO, ptO, xv, kv, kc, ↓reduceIte, Nat.reduceEqDiff, List.length_cons, List.length_nil, Nat.reduceAdd, Nat.reduceSub, Nat.reduceLeDiff, Nat.reduceLT, true_and, decide_true, List.nil_append, List.getElem?_cons_zero, List.drop_zero, List.take_zero, memB, keepB, keepOB, Bool.false_eq_true, Int.toNat_zero, Int.reduceLE, Int.reduceLT, isCell, cellsOf, Nat.zero_add, Nat.add_zero, List.set_cons_zero, and_self, Int.cast_ofNat_Int]
    exact ⟨by rw [fits_i64]; omega, cntJ_intro (N := 2) (k := 0) () (by omega) rfl trivial⟩
  · simp only [cA2, Int.cast_ofNat_Int, Nat.mul_one, r_setAt0, r_setAt1, List.set_cons_zero, List.set_cons_succ, r_cons, r_nil, r_kont, r_seq1, r_blk1, r_sk, r_rg, r_sq, r_bl, r_cd, r_cd2, r_op1, r_go1, r_mv, r_bi, r_add0, r_lti, r_op3, r_ixn, r_ja, r_ja1, r_ja2, r_pack, r_setOb, r_ltr, r_ld, r_ld1, r_fgt, r_clean, r_okm2, r_okm4, r_okm11, r_okms0, r_okms1, r_okE0, r_okE1, r_okL0, r_okL1, r_round1, r_st, r_st1, r_stb, r_setAt0, r_setAt1, r_lows0, r_lows1, r_low1, r_lt1, ptd, lk, pt, lkO, ptO, xv, kv, kc, ↓reduceIte, Nat.reduceEqDiff, List.length_cons, List.length_nil, Nat.reduceAdd, Nat.reduceSub, Nat.reduceLT, true_and, decide_true, List.cons_append, List.nil_append, List.getElem?_cons_zero, List.drop_succ_cons, List.drop_zero, List.take_succ_cons, List.take_zero, memB, keepB, keepOB, Bool.false_eq_true, Int.toNat_one, Int.reduceLE, Int.reduceLT, isCell, cellsOf, Nat.zero_add, List.set_cons_zero, List.set_cons_succ, Nat.le_refl, and_self, Int.cast_ofNat_Int]
    exact ⟨by rw [fits_i64]; omega, cntJ_intro (N := 2) (k := 1) () (by omega) rfl trivial⟩
  · simp only [cA2, Int.cast_ofNat_Int, r_setAt0, r_setAt1, List.set_cons_zero, List.set_cons_succ, r_cons, r_nil, r_kont, r_seq1, r_seq2, r_blk2, r_fn2, r_rg, r_sq, r_ex, r_rt, r_cd, r_cd2, r_op1, r_go1, r_mv, r_bi, r_lti, r_pack, r_setOb, r_ld, r_labm, r_ld5, r_fin, r_kfe1, r_kcx, r_exps0, r_exps1, r_kex, r_exb1, r_exp2, r_exc, r_kagx, r_expv1, r_kxc, r_expcs0, r_expcs1, r_expc1, r_round2, r_st, r_st1, r_stb, r_setAt0, r_setAt1, r_lows0, r_lows1, r_low1, ptd, lk, pt, lkO, ptO, xv, kv, kc, ↓reduceIte, Nat.reduceEqDiff, List.length_cons, List.length_nil, Nat.reduceAdd, Nat.reduceSub, Nat.reduceLT, true_and, and_true, decide_false, List.cons_append, List.nil_append, List.drop_succ_cons, List.drop_zero, List.take_succ_cons, List.take_zero, List.headD_cons, List.tail_cons, Bool.false_eq_true, Int.reduceLT, List.all_cons, List.all_nil, isCell, Bool.and_self, cellsOf, Nat.zero_add, List.set_cons_zero, List.set_cons_succ, Nat.le_refl, and_self, Int.cast_ofNat_Int]
    rfl
theorem sem_toIntA2S (a : (List (Int × Int))) (ha : a.length ≤ 4294967296) (lvl : Nat) (S : Sto) : Sem Go.Proofs.Tryd.prog fid_laws_toIntA2S lvl [.tr (.sl (a.map cA2))] S (.ow 2 (a.map cA2) true) S := by
  refine sem_of_chk k_laws_toIntA2S trivial ?_
  simp only [c_laws_toIntA2S, List.length_map, bigN, Int.natCast_nonneg, r_cons, r_nil, r_kont, r_seq1, r_rg, r_sq, r_bl, r_wpF, r_op1, r_go1, r_mv, r_ms, r_ms1, r_ln, r_ln1, r_lt1, bigN, ptd, keyOf, freshK, lk, pt, lkO, ptO, xv, kv, kc, params, trv, ↓reduceIte, Nat.reduceEqDiff, Nat.reduceMul, reduceCtorEq, List.length_cons, List.length_nil, Nat.reduceLeDiff, Nat.reduceLT, true_and, List.map_cons, List.map_nil, Int.toNat_natCast, Nat.zero_add, Int.natCast_nonneg, List.length_map, and_self, Int.cast_ofNat_Int]
  refine ⟨by omega, ?_⟩
  refine wp_count (α := Unit) a.length (fun j _ => ⟨lvl, [(0, .tr (.sl (a.map cA2))), (3, .hd (lvl, 224) [] 0 a.length none a.length), (4, iI j)], [(224, .ar 2 (filled cA2 [tv 0, tv 0] a j) true a.length (j * 0))], S⟩) (fun _ _ => True) () ⟨by simp only [r_clean, r_okm1, r_okm4, r_okE0, r_okE1, r_okL0, r_okL2, ↓reduceIte, Nat.reduceEqDiff, reduceCtorEq, memB, keepB, keepOB, Bool.false_eq_true, and_self], by (simp only [filled_zero, r_fgt, ↓reduceIte, Nat.reduceEqDiff, Nat.reduceMul, reduceCtorEq, memB, keepB, keepOB, Bool.false_eq_true, Int.cast_ofNat_Int]) <;> rfl⟩ trivial ?_
  intro j _ hj _
  simp only [List.length_map, r_cons, r_nil, r_kont, r_seq1, r_seq2, r_blk2, r_fn2, r_sk, r_rg, r_sq, r_bl, r_ex, r_rt, r_cd, r_cd2, r_op1, r_go1, r_mv, r_bi, r_lti, r_ln, r_ln1, r_ixn, r_ia, r_ia1, r_kill, r_fin, r_kfe1, r_kcx, r_exps0, r_exps1, r_kex, r_exp1, r_expv4, r_expc7, r_exh1, r_round2, r_lt1, ptd, lk, pt, lkO, xv, ↓reduceIte, Nat.reduceEqDiff, reduceCtorEq, Nat.reduceLT, true_and, and_true, decide_eq_true_eq, List.headD_cons, scrE, scrL, scr, rmO, Int.toNat_natCast, Int.natCast_nonneg, List.length_map]
  refine ite_of (fun hlt => ?_) (fun hge => ?_)
  · have hja : j < a.length := by omega
    have ga : (a.map cA2)[j]? = some (cA2 a[j]) := by simp [hja]
    have gz : (filled cA2 [tv 0, tv 0] a j)[j]? = some [tv 0, tv 0] := filled_get hja
    have hfl : (filled cA2 [tv 0, tv 0] a j).length = a.length := filled_length hj
    have hsem := fun lvl S => sem_toIntA2 a[j] lvl S
    simp only [ga, Nat.le_refl, cA2, r_cons, r_kont, r_op1, r_go1, r_op3, r_iae, r_ld, r_ld4, r_kcn, r_kagn, r_sn0, r_sn1, r_sn3, r_ca, r_ca1, ptd, lk, pt, xv, ↓reduceIte, Nat.reduceEqDiff, reduceCtorEq, List.length_cons, List.length_nil, Nat.reduceAdd, Nat.reduceLT, true_and, List.map_cons, List.map_nil, List.cons_append, List.nil_append, List.take_succ_cons, List.take_zero, mens, men, Nat.zero_add, Nat.le_refl, and_self]
    refine kca_intro hsem ?_
    simp only [oA2, gz, Int.natCast_nonneg, hja, hfl, setp, List.getElem?_set_self, List.set_set, List.set_cons_zero, List.set_cons_succ, r_cons, r_nil, r_kont, r_seq1, r_blk1, r_rg, r_op1, r_go1, r_mv, r_bi, r_add0, r_op3, r_ixn, r_ia, r_rde, r_rd3, r_stamp0, r_iah, r_iah2, r_ia3, r_pack, r_setOb, r_fgt, r_clean, r_okm1, r_okm4, r_okE0, r_okE1, r_okL0, r_okL2, r_round1, r_st, r_st2, r_kst, r_stcs0, r_stcs1, r_sc1, r_sc3, r_sc4, r_sc2, r_lt1, ptd, keyOf, freshK, lk, pt, lkO, ptO, addO, xv, kv, kc, ↓reduceIte, Nat.reduceEqDiff, Nat.reduceMul, reduceCtorEq, List.length_cons, List.length_nil, Nat.reduceAdd, Nat.reduceLT, true_and, List.nil_append, List.getElem?_cons_zero, List.getElem?_cons_succ, noSh, noShs, isSc, impv, impvs, memB, keepB, keepOB, or_true, Bool.false_eq_true, Int.toNat_natCast, List.all_cons, List.all_nil, isCell, Bool.and_self, cellsOf, getp, Nat.zero_add, List.set_cons_zero, List.set_cons_succ, Int.natCast_nonneg, and_self]
    refine ⟨by rw [fits_i64]; omega, cntJ_intro () hja ?_ trivial⟩
    have hse := filled_set (c := cA2) (z := [tv 0, tv 0]) (e := [tv a[j].1, tv a[j].2]) hja rfl
    rw [hse, show (j + 1) * 0 = j * 0 from by omega]
    rfl
  · have : j = a.length := by omega
    subst this
    rw [filled_all]
    simp
theorem sem_toSorting (x : TSorting) (hb : bdSorting 4294967296 x) (lvl : Nat) (S : Sto) : Sem Go.Proofs.Tryd.prog fid_laws_toSorting lvl [.ag ((cSorting x).map .tr)] S (oSorting x) S := by
  obtain ⟨b0, b1, b2, b3, b4, b5, b6⟩ := hb
  refine sem_of_chk k_laws_toSorting (by simp [oSorting, low, men, mens]) ?_
  simp only [c_laws_toSorting, cSorting, zfill, zobs, List.map_cons, List.map_nil, r_cons, r_nil, r_kont, r_seq1, r_rg, r_sq, r_wpF, r_op1, r_go1, r_bt, r_bt1, r_al, r_op3, r_fa, r_fa1, r_ltr, r_ld, r_ld1, r_kcn, r_sn0, r_sn1, r_ca, r_ca1, zfill, zobs, ptd, keyOf, freshK, lk, pt, lkO, ptO, addO, xv, kc, params, ↓reduceIte, Nat.reduceEqDiff, Nat.reduceMul, reduceCtorEq, List.length_cons, List.length_nil, Nat.reduceAdd, Nat.reduceLeDiff, Nat.reduceLT, true_and, List.map_cons, List.map_nil, List.cons_append, List.nil_append, List.getElem?_cons_zero, List.drop_zero, mens, men, List.all_cons, List.all_nil, isCell, Bool.and_true, Bool.and_self, cellsOf, totr, totrs, tocs, Nat.zero_add, Nat.add_zero, and_self]
  refine kca_intro (sem_toIntS x.tops b0) ?_
  simp only [r_setAt0, r_setAt1, List.set_cons_zero, r_cons, r_nil, r_kont, r_seq1, r_rg, r_sq, r_op1, r_go1, r_op3, r_fa, r_fa1, r_fa2, r_pack, r_setOb, r_ltr, r_ld, r_ld1, r_kcn, r_sn0, r_sn1, r_ca, r_ca1, r_st, r_st1, r_stb, r_setAt0, r_setAt1, r_lows0, r_lows1, r_low3, ptd, keyOf, freshK, lk, pt, lkO, ptO, addO, xv, ↓reduceIte, Nat.reduceEqDiff, Nat.reduceMul, reduceCtorEq, List.length_cons, List.length_nil, Nat.reduceAdd, Nat.reduceLeDiff, Nat.reduceLT, true_and, List.map_cons, List.map_nil, List.cons_append, List.nil_append, List.getElem?_cons_zero, List.drop_succ_cons, List.drop_zero, mens, men, noSh, impv, impc, or_true, isCell, cellsOf, Nat.zero_add, Nat.add_zero, List.set_cons_zero, List.length_map, and_self]
  refine kca_intro (sem_toIntSS x.nest b1 b2) ?_
  simp only [r_setAt0, r_setAt1, List.set_cons_zero, List.set_cons_succ, r_cons, r_nil, r_kont, r_seq1, r_rg, r_sq, r_op1, r_go1, r_op3, r_fa, r_fa1, r_fa2, r_pack, r_setOb, r_ltr, r_ld, r_ld1, r_kcn, r_sn0, r_sn1, r_ca, r_ca1, r_st, r_st1, r_stb, r_setAt0, r_setAt1, r_lows0, r_lows1, r_low3, ptd, keyOf, freshK, lk, pt, lkO, ptO, addO, xv, ↓reduceIte, Nat.reduceEqDiff, Nat.reduceMul, reduceCtorEq, List.length_cons, List.length_nil, Nat.reduceAdd, Nat.reduceLeDiff, Nat.reduceLT, true_and, List.map_cons, List.map_nil, List.cons_append, List.nil_append, List.getElem?_cons_zero, List.drop_succ_cons, List.drop_zero, mens, men, noSh, impv, impc, or_true, isCell, cellsOf, Nat.zero_add, Nat.add_zero, List.set_cons_zero, List.set_cons_succ, List.length_map, and_self]
  refine kca_intro (sem_toIntSS x.sorts b3 b4) ?_
  simp only [r_setAt0, r_setAt1, List.set_cons_zero, List.set_cons_succ, r_cons, r_nil, r_kont, r_seq1, r_rg, r_sq, r_op1, r_go1, r_op3, r_fa, r_fa1, r_fa2, r_pack, r_setOb, r_ltr, r_ld, r_ld1, r_kcn, r_sn0, r_sn1, r_ca, r_ca1, r_st, r_st1, r_stb, r_setAt0, r_setAt1, r_lows0, r_lows1, r_low3, ptd, keyOf, freshK, lk, pt, lkO, ptO, addO, xv, ↓reduceIte, Nat.reduceEqDiff, Nat.reduceMul, reduceCtorEq, List.length_cons, List.length_nil, Nat.reduceAdd, Nat.reduceLeDiff, Nat.reduceLT, true_and, List.map_cons, List.map_nil, List.cons_append, List.nil_append, List.getElem?_cons_zero, List.drop_succ_cons, List.drop_zero, mens, men, noSh, impv, impc, or_true, isCell, cellsOf, Nat.zero_add, Nat.add_zero, List.set_cons_zero, List.set_cons_succ, List.length_map, and_self]
  refine kca_intro (sem_toIntS x.most b5) ?_
  simp only [r_setAt0, r_setAt1, List.set_cons_zero, List.set_cons_succ, r_cons, r_nil, r_kont, r_seq1, r_rg, r_sq, r_op1, r_go1, r_op3, r_fa, r_fa1, r_fa2, r_pack, r_setOb, r_ltr, r_ld, r_ld1, r_kcn, r_sn0, r_sn1, r_ca, r_ca1, r_st, r_st1, r_stb, r_setAt0, r_setAt1, r_lows0, r_lows1, r_low3, ptd, keyOf, freshK, lk, pt, lkO, ptO, addO, xv, ↓reduceIte, Nat.reduceEqDiff, Nat.reduceMul, reduceCtorEq, List.length_cons, List.length_nil, Nat.reduceAdd, Nat.reduceLeDiff, Nat.reduceLT, true_and, List.map_cons, List.map_nil, List.cons_append, List.nil_append, List.getElem?_cons_zero, List.drop_succ_cons, List.drop_zero, mens, men, noSh, impv, impc, or_true, isCell, cellsOf, Nat.zero_add, Nat.add_zero, List.set_cons_zero, List.set_cons_succ, List.length_map, and_self]
  refine kca_intro (sem_toIntA2S x.apart b6) ?_
  simp only [r_setAt0, r_setAt1, List.set_cons_zero, List.set_cons_succ, Prod.mk.injEq, r_cons, r_nil, r_kont, r_seq1, r_fn2, r_rg, r_sq, r_rt, r_op1, r_go1, r_fa, r_fa2, r_pack, r_setOb, r_kill, r_ld, r_labm, r_ld5, r_fin, r_kfe1, r_kcx, r_exps0, r_exps1, r_kex, r_exb1, r_exp2, r_exc, r_kagx, r_expv1, r_kxc, r_expcs0, r_expcs1, r_expc7, r_exh1, r_st, r_st1, r_stb, r_setAt0, r_setAt1, r_lows0, r_lows1, r_low3, ptd, keyOf, freshK, lk, pt, lkO, ptO, addO, xv, ↓reduceIte, Nat.reduceEqDiff, Nat.reduceMul, reduceCtorEq, List.length_cons, List.length_nil, Nat.reduceAdd, Nat.reduceLT, true_and, and_true, List.drop_zero, List.take_succ_cons, List.take_zero, List.headD_cons, List.tail_cons, noSh, impv, impc, or_true, scrE, scrL, scr, scrs, scrOb, rmO, List.all_cons, List.all_nil, isCell, Bool.and_self, cellsOf, Nat.zero_add, Nat.add_zero, List.set_cons_zero, List.set_cons_succ, Nat.le_refl, Prod.mk.injEq, List.length_map, and_false, and_self]
  rfl
theorem sem_toControl (x : TControl) (hb : bdControl 4294967296 x) (lvl : Nat) (S : Sto) : Sem Go.Proofs.Tryd.prog fid_laws_toControl lvl [.ag ((cControl x).map .tr)] S (oControl x) S := by
  have b0 : x.name.size ≤ 4294967296 := hb
  refine sem_of_chk k_laws_toControl (by simp [oControl, low, men, mens]) ?_
  simp only [c_laws_toControl, cControl, zfill, zobs, List.map_cons, List.map_nil, r_setAt0, r_setAt1, List.set_cons_zero, List.set_cons_succ, r_cons, r_nil, r_kont, r_seq1, r_fn2, r_rg, r_sq, r_rt, r_wpF, r_op1, r_go1, r_bt, r_bt1, r_al, r_op3, r_fa, r_fa1, r_fa2, r_pack, r_setOb, r_ltr, r_ld, r_ld1, r_labm, r_ld5, r_fin, r_kfe1, r_kcx, r_exps0, r_exps1, r_kex, r_exb1, r_exp2, r_exc, r_kagx, r_expv1, r_kxc, r_expcs0, r_expcs1, r_expc1, r_st, r_st1, r_stb, r_setAt0, r_setAt1, r_lows0, r_lows1, r_low1, zfill, zobs, ptd, keyOf, freshK, lk, pt, lkO, ptO, addO, xv, kc, params, ↓reduceIte, Nat.reduceEqDiff, Nat.reduceMul, reduceCtorEq, List.length_cons, List.length_nil, Nat.reduceAdd, Nat.reduceLeDiff, Nat.reduceLT, true_and, and_true, List.map_cons, List.map_nil, List.getElem?_cons_zero, List.drop_succ_cons, List.drop_zero, List.take_succ_cons, List.take_zero, List.headD_cons, List.tail_cons, List.all_cons, List.all_nil, isCell, Bool.and_self, cellsOf, totr, totrs, tocs, Nat.zero_add, Nat.add_zero, List.set_cons_zero, List.set_cons_succ, Nat.le_refl, and_self]
  rfl
theorem sem_toControlS (a : (List TControl)) (ha : a.length ≤ 4294967296) (hb : ∀ y ∈ a, bdControl 4294967296 y) (lvl : Nat) (S : Sto) : Sem Go.Proofs.Tryd.prog fid_laws_toControlS lvl [.tr (.sl (a.map cControl))] S (.ow 3 (a.map cControl) true) S := by
  refine sem_of_chk k_laws_toControlS trivial ?_
  simp only [c_laws_toControlS, List.length_map, bigN, Int.natCast_nonneg, r_cons, r_nil, r_kont, r_seq1, r_rg, r_sq, r_bl, r_wpF, r_op1, r_go1, r_mv, r_ms, r_ms1, r_ln, r_ln1, r_lt1, bigN, ptd, keyOf, freshK, lk, pt, lkO, ptO, xv, kv, kc, params, trv, ↓reduceIte, Nat.reduceEqDiff, Nat.reduceMul, reduceCtorEq, List.length_cons, List.length_nil, Nat.reduceLeDiff, Nat.reduceLT, true_and, List.map_cons, List.map_nil, Int.toNat_natCast, Nat.zero_add, Int.natCast_nonneg, List.length_map, and_self, Int.cast_ofNat_Int]
  refine ⟨by omega, ?_⟩
  refine wp_count (α := Unit) a.length (fun j _ => ⟨lvl, [(0, .tr (.sl (a.map cControl))), (3, .hd (lvl, 224) [] 0 a.length none a.length), (4, iI j)], [(224, .ar 3 (filled cControl [ts ⟨#[]⟩, tv 0, tv 0] a j) true a.length (j * 0))], S⟩) (fun _ _ => True) () ⟨by simp only [r_clean, r_okm1, r_okm4, r_okE0, r_okE1, r_okL0, r_okL2, ↓reduceIte, Nat.reduceEqDiff, reduceCtorEq, memB, keepB, keepOB, Bool.false_eq_true, and_self], by (simp only [filled_zero, r_fgt, ↓reduceIte, Nat.reduceEqDiff, Nat.reduceMul, reduceCtorEq, memB, keepB, keepOB, Bool.false_eq_true, Int.cast_ofNat_Int]) <;> rfl⟩ trivial ?_
  intro j _ hj _
  simp only [List.length_map, r_cons, r_nil, r_kont, r_seq1, r_seq2, r_blk2, r_fn2, r_sk, r_rg, r_sq, r_bl, r_ex, r_rt, r_cd, r_cd2, r_op1, r_go1, r_mv, r_bi, r_lti, r_ln, r_ln1, r_ixn, r_ia, r_ia1, r_kill, r_fin, r_kfe1, r_kcx, r_exps0, r_exps1, r_kex, r_exp1, r_expv4, r_expc7, r_exh1, r_round2, r_lt1, ptd, lk, pt, lkO, xv, ↓reduceIte, Nat.reduceEqDiff, reduceCtorEq, Nat.reduceLT, true_and, and_true, decide_eq_true_eq, List.headD_cons, scrE, scrL, scr, rmO, Int.toNat_natCast, Int.natCast_nonneg, List.length_map]
  refine ite_of (fun hlt => ?_) (fun hge => ?_)
  · have hja : j < a.length := by omega
    have ga : (a.map cControl)[j]? = some (cControl a[j]) := by simp [hja]
    have gz : (filled cControl [ts ⟨#[]⟩, tv 0, tv 0] a j)[j]? = some [ts ⟨#[]⟩, tv 0, tv 0] := filled_get hja
    have hfl : (filled cControl [ts ⟨#[]⟩, tv 0, tv 0] a j).length = a.length := filled_length hj
    have hsem := fun lvl S => sem_toControl a[j] (hb a[j] (List.getElem_mem hja)) lvl S
    simp only [ga, Nat.le_refl, cControl, r_cons, r_kont, r_op1, r_go1, r_op3, r_iae, r_ld, r_ld4, r_kcn, r_kagn, r_sn0, r_sn1, r_sn3, r_ca, r_ca1, ptd, lk, pt, xv, ↓reduceIte, Nat.reduceEqDiff, reduceCtorEq, List.length_cons, List.length_nil, Nat.reduceAdd, Nat.reduceLT, true_and, List.map_cons, List.map_nil, List.cons_append, List.nil_append, List.take_succ_cons, List.take_zero, mens, men, Nat.zero_add, Nat.le_refl, and_self]
    refine kca_intro hsem ?_
    simp only [oControl, gz, Int.natCast_nonneg, hja, hfl, setp, List.getElem?_set_self, List.set_set, List.set_cons_zero, List.set_cons_succ, r_cons, r_nil, r_kont, r_seq1, r_blk1, r_rg, r_op1, r_go1, r_mv, r_bi, r_add0, r_op3, r_ixn, r_ia, r_rde, r_rd3, r_stamp0, r_iah, r_iah2, r_ia3, r_pack, r_setOb, r_fgt, r_clean, r_okm1, r_okm4, r_okE0, r_okE1, r_okL0, r_okL2, r_round1, r_st, r_st2, r_kst, r_stcs0, r_stcs1, r_sc1, r_sc3, r_sc4, r_sc2, r_lt1, ptd, keyOf, freshK, lk, pt, lkO, ptO, addO, xv, kv, kc, ↓reduceIte, Nat.reduceEqDiff, Nat.reduceMul, reduceCtorEq, List.length_cons, List.length_nil, Nat.reduceAdd, Nat.reduceLT, true_and, List.nil_append, List.getElem?_cons_zero, List.getElem?_cons_succ, noSh, noShs, isSc, impv, impvs, memB, keepB, keepOB, or_true, Bool.false_eq_true, Int.toNat_natCast, List.all_cons, List.all_nil, isCell, Bool.and_self, cellsOf, getp, Nat.zero_add, List.set_cons_zero, List.set_cons_succ, Int.natCast_nonneg, and_self]
    refine ⟨by rw [fits_i64]; omega, cntJ_intro () hja ?_ trivial⟩
    have hse := filled_set (c := cControl) (z := [ts ⟨#[]⟩, tv 0, tv 0]) (e := [ts a[j].name, tv a[j].ports, tv a[j].kind_]) hja rfl
    rw [hse, show (j + 1) * 0 = j * 0 from by omega]
    rfl
  · have : j = a.length := by omega
    subst this
    rw [filled_all]
    simp
end Go.Fd

/-
  WHAT THE LAW OF IsSorting LEANS ON. Own work.
-/
namespace Go.Fd
end Go.Fd

/-
  THE LAW OF IsSorting (printed by lawtext.py). Own work.
-/
namespace Go.Fd
set_option maxRecDepth 20000
theorem sem_FnExactIsSorting (x0 : (List TControl)) (x1 : TSorting) (hb0_0 : x0.length ≤ 9223372036854775807) (hb0_1 : ∀ y ∈ x0, bdControl 9223372036854775807 y) (hb1_0 : bdSorting 9223372036854775807 x1) (lvl : Nat) (S : Sto) : Sem Go.Proofs.Tryd.prog fid_laws_FnExactIsSorting lvl [.tr (.sl (x0.map cControl)), .ag ((cSorting x1).map .tr)] S (iB true) S := by
  refine sem_of_chk k_laws_FnExactIsSorting trivial ?_
  simp only [c_laws_FnExactIsSorting, cSorting, r_cons, r_nil, r_kont, r_seq1, r_rg, r_sq, r_wpF, r_op1, r_mv, r_bt, r_bt1, r_kcn, r_sn0, r_sn1, r_ca, r_ca1, ptd, lk, pt, xv, kv, kc, params, ↓reduceIte, Nat.reduceEqDiff, reduceCtorEq, List.length_cons, List.length_nil, Nat.reduceAdd, Nat.reduceLeDiff, Nat.reduceLT, true_and, List.map_cons, List.map_nil, List.cons_append, List.nil_append, mens, men, List.all_cons, List.all_nil, isCell, Bool.and_true, Bool.and_self, cellsOf, totr, totrs, tocs, Nat.zero_add, and_self]
  have ul : (1048576 : Int) ≤ 1048576 := Int.le_refl _
  obtain ⟨_, ha0⟩ := sem_szControlS x0 hb0_0 hb0_1 (1048576) (by omega) (by omega)
  refine kca_intro ha0 ?_
  simp only [r_cons, r_nil, r_kont, r_seq1, r_seq3, r_fn2, r_sk, r_rg, r_sq, r_rt, r_cd, r_cd2, r_op1, r_go1, r_mv, r_bi, r_lti, r_ld, r_ld4, r_kcn, r_kagn, r_sn0, r_sn1, r_sn3, r_ca, r_ca1, r_fin, r_kfe1, r_kcx, r_exps0, r_exps1, r_kex, r_exp1, r_expv2, ptd, keyOf, freshK, lk, pt, addO, xv, kv, kc, ↓reduceIte, Nat.reduceEqDiff, Nat.reduceMul, reduceCtorEq, List.length_cons, List.length_nil, Nat.reduceAdd, Nat.reduceLT, true_and, decide_eq_true_eq, List.map_cons, List.map_nil, List.cons_append, List.nil_append, List.take_succ_cons, List.take_zero, mens, men, noSh, isSc, impv, or_true, Nat.zero_add, Nat.le_refl, and_self]
  refine ite_of (fun _ => trivial) (fun hz0 => ?_)
  have zp0 := (Zm_L (f := szControl) (fun y => (zpControl y)) x0) (1048576) (by omega) (by omega)
  simp only at zp0
  have hp0 := zp0.2 (by omega)
  obtain ⟨hs0_0, hs0_1⟩ := hp0
  obtain ⟨_, ha1⟩ := sem_szSorting x1 hb1_0 (szL szControl x0 (1048576)) (by omega) (by omega)
  refine kca_intro ha1 ?_
  simp only [r_cons, r_nil, r_kont, r_seq1, r_seq3, r_fn2, r_sk, r_rg, r_sq, r_rt, r_cd, r_cd2, r_op1, r_go1, r_mv, r_bi, r_lti, r_kcn, r_sn0, r_sn1, r_ca, r_ca1, r_fin, r_kfe1, r_kcx, r_exps0, r_exps1, r_kex, r_exp1, r_expv2, ptd, keyOf, freshK, lk, pt, addO, xv, kv, kc, ↓reduceIte, Nat.reduceEqDiff, Nat.reduceMul, reduceCtorEq, List.length_nil, Nat.reduceLT, true_and, decide_eq_true_eq, List.map_cons, List.map_nil, List.cons_append, List.nil_append, mens, men, noSh, isSc, impv, or_true, and_self]
  refine ite_of (fun _ => trivial) (fun hz1 => ?_)
  have zp1 := (zpSorting x1) (szL szControl x0 (1048576)) (by omega) (by omega)
  simp only at zp1
  have hp1 := zp1.2 (by omega)
  have hs1_0 := hp1
  refine kca_intro (sem_toControlS x0 hs0_0 hs0_1) ?_
  simp only [r_cons, r_kont, r_op1, r_go1, r_ld, r_ld4, r_kcn, r_kagn, r_sn0, r_sn1, r_sn3, r_ca, r_ca1, ptd, keyOf, freshK, lk, pt, addO, xv, ↓reduceIte, Nat.reduceEqDiff, Nat.reduceMul, reduceCtorEq, List.length_cons, List.length_nil, Nat.reduceAdd, Nat.reduceLT, true_and, List.map_cons, List.map_nil, List.cons_append, List.nil_append, List.take_succ_cons, List.take_zero, mens, men, noSh, impv, impc, or_true, Bool.false_eq_true, Nat.zero_add, Nat.le_refl, and_self]
  refine kca_intro (sem_toSorting x1 hs1_0) ?_
  simp only [oSorting, r_cons, r_kont, r_op1, r_kcn, r_kagn, r_sn0, r_sn1, r_sn3, r_ca, r_ca1, ptd, keyOf, freshK, lk, pt, addO, xv, ↓reduceIte, Nat.reduceEqDiff, Nat.reduceMul, reduceCtorEq, List.length_nil, Nat.reduceLT, true_and, List.map_cons, List.map_nil, List.cons_append, List.nil_append, mens, men, noSh, noShs, impv, impvs, impc, or_true, Bool.false_eq_true, and_self]
  refine kca_intro (sem_spec_IsSorting x0 x1 hs0_0 hs0_1 hs1_0) ?_
  simp only [r_cons, r_nil, r_kont, r_seq1, r_rg, r_sq, r_op1, r_mv, r_kcn, r_sn0, r_sn1, r_ca, r_ca1, ptd, keyOf, freshK, lk, pt, addO, xv, ↓reduceIte, Nat.reduceEqDiff, Nat.reduceMul, reduceCtorEq, List.length_nil, Nat.reduceLT, true_and, List.map_cons, List.map_nil, List.cons_append, List.nil_append, mens, men, noSh, isSc, impv, or_true, and_self]
  refine kca_intro (sem_toControlS x0 hs0_0 hs0_1) ?_
  simp only [r_cons, r_nil, r_kont, r_seq1, r_rg, r_sq, r_op1, r_go1, r_mv, r_ld, r_ld4, r_kcn, r_kagn, r_sn0, r_sn1, r_sn3, r_ca, r_ca1, ptd, keyOf, freshK, lk, pt, addO, xv, ↓reduceIte, Nat.reduceEqDiff, Nat.reduceMul, reduceCtorEq, List.length_cons, List.length_nil, Nat.reduceAdd, Nat.reduceLT, true_and, List.map_cons, List.map_nil, List.cons_append, List.nil_append, List.take_succ_cons, List.take_zero, mens, men, noSh, impv, impc, or_true, Bool.false_eq_true, Nat.zero_add, Nat.le_refl, and_self]
  refine kca_intro (sem_toSorting x1 hs1_0) ?_
  simp only [oSorting, r_cons, r_nil, r_kont, r_seq1, r_rg, r_sq, r_op1, r_go1, r_mv, r_al, r_pack, r_setOb, r_ld, r_labm, r_ld5, r_kcn, r_kagn, r_sn0, r_sn1, r_sn3, r_ca, r_ca1, r_st, r_st1, r_stb, r_setAt0, r_setAt1, r_lows0, r_lows1, r_low1, zfill, zobs, ptd, keyOf, freshK, lk, pt, lkO, ptO, addO, xv, kc, ↓reduceIte, Nat.reduceEqDiff, Nat.reduceMul, reduceCtorEq, List.length_cons, List.length_nil, Nat.reduceAdd, Nat.reduceLT, true_and, List.map_cons, List.map_nil, List.cons_append, List.nil_append, List.drop_zero, List.take_succ_cons, List.take_zero, mens, men, noSh, noShs, impv, impvs, impc, or_true, Bool.false_eq_true, List.all_cons, List.all_nil, isCell, Bool.and_self, cellsOf, Nat.zero_add, Nat.add_zero, List.set_cons_zero, List.set_cons_succ, Nat.le_refl, and_self]
  refine kca_intro (sem_impl_IsSorting x0 x1 hs0_0 hs0_1 hs1_0) ?_
  simp only [bne_self_eq_false, r_cons, r_nil, r_kont, r_seq1, r_sk, r_rg, r_sq, r_cd, r_cd2, r_op1, r_go1, r_mv, r_bi, r_neb, r_kcn, r_sn0, r_sn1, r_ca, r_ca1, r_lt1, ptd, keyOf, freshK, lk, pt, addO, xv, ↓reduceIte, Nat.reduceEqDiff, Nat.reduceMul, reduceCtorEq, List.length_nil, Nat.reduceLT, true_and, List.map_cons, List.map_nil, List.cons_append, List.nil_append, mens, men, noSh, isSc, impv, or_true, Bool.false_eq_true, and_self]
  refine kca_intro (sem_toControlS x0 hs0_0 hs0_1) ?_
  simp only [r_cons, r_kont, r_op1, r_kcn, r_sn0, r_sn1, r_ca, r_ca1, ptd, keyOf, freshK, lk, pt, addO, xv, ↓reduceIte, Nat.reduceEqDiff, Nat.reduceMul, reduceCtorEq, List.length_nil, Nat.reduceLT, true_and, List.map_cons, List.map_nil, List.cons_append, List.nil_append, mens, men, noSh, impv, impc, or_true, Bool.false_eq_true, and_self]
  refine kca_intro (sem_eqControlS x0 x0 hb0_0 hb0_1) ?_
  simp only [r_cons, r_nil, r_kont, r_seq1, r_sk, r_rg, r_sq, r_cd, r_cd2, r_op1, r_go1, r_nt, r_nt1, r_pack, r_ld, r_ld4, r_labm, r_ld5, r_kcn, r_kagn, r_sn0, r_sn1, r_sn3, r_ca, r_ca1, ptd, keyOf, freshK, lk, pt, lkO, addO, xv, ↓reduceIte, Nat.reduceEqDiff, Nat.reduceMul, reduceCtorEq, List.length_cons, List.length_nil, Nat.reduceAdd, Nat.reduceLT, true_and, decide_true, List.map_cons, List.map_nil, List.cons_append, List.nil_append, List.drop_zero, List.take_succ_cons, List.take_zero, mens, men, noSh, isSc, impv, or_true, Bool.false_eq_true, Bool.not_true, Nat.zero_add, Nat.le_refl, and_self]
  refine kca_intro (sem_toSorting x1 hs1_0) ?_
  simp only [oSorting, r_cons, r_kont, r_op1, r_kcn, r_kagn, r_sn0, r_sn1, r_sn3, r_ca, r_ca1, ptd, keyOf, freshK, lk, pt, addO, xv, ↓reduceIte, Nat.reduceEqDiff, Nat.reduceMul, reduceCtorEq, List.length_nil, Nat.reduceLT, true_and, List.map_cons, List.map_nil, List.cons_append, List.nil_append, mens, men, noSh, noShs, impv, impvs, impc, or_true, Bool.false_eq_true, and_self]
  refine kca_intro (sem_eqSorting x1 x1 hb1_0) ?_
  simp only [r_cons, r_nil, r_kont, r_seq1, r_fn2, r_sk, r_rg, r_sq, r_rt, r_cd, r_cd2, r_op1, r_go1, r_mv, r_nt, r_nt1, r_fin, r_kfe1, r_kcx, r_exps0, r_exps1, r_kex, r_exp1, r_expv2, ptd, keyOf, freshK, lk, pt, addO, xv, kv, kc, ↓reduceIte, Nat.reduceEqDiff, Nat.reduceMul, reduceCtorEq, List.length_nil, Nat.reduceLT, decide_true, noSh, isSc, impv, or_true, Bool.false_eq_true, Bool.not_true, and_self]
end Go.Fd

/-
  FOUNDATION 52: numbers and strings as parameters of a law. Own work.
-/
namespace Go.Fd
open Go.RowKit Go.ChangeShapes Go.ChangeMaps Go.WideMaps
section
variable {H : Type} {enc : TypeId × Value → H} {P : Program} {w : World} {t : TypeId} {v : Value} {d : DataW H} {p : List MemPlace} {sp : Nat → Bool} {hd : Bool} {base : Nat}
end
end Go.Fd

/-
  WHAT THE LAWS' ARGUMENTS READ AS (printed by lawgen.py). Own work.
-/
namespace Go.Fd
set_option maxRecDepth 20000
theorem rd_9 : Reads Go.Proofs.Tryd.prog 9 (fun n : ByteArray => [ts n]) (fun n => n.size ≤ 9223372036854775807) := Reads_string Go.Proofs.Tryd.underlying9
theorem rd_3 : Reads Go.Proofs.Tryd.prog 3 (fun n : Int => [tv n]) (fits .i64) := Reads_int Go.Proofs.Tryd.underlying3
theorem rd_48 : Reads Go.Proofs.Tryd.prog 48 cControl (fun x => bdControl 9223372036854775807 x ∧ ftControl x) := Reads_mp (Reads_struct Go.Proofs.Tryd.underlying48 (show ReadsP Go.Proofs.Tryd.prog 0 [(0, 9), (1, 3), (2, 3)] _ _ from (ReadsP_cons (k := 1) (by kernel_rfl) (fun _ => rfl) rd_9 (ReadsP_cons (k := 1) (by kernel_rfl) (fun _ => rfl) rd_3 (ReadsP_cons (k := 1) (by kernel_rfl) (fun _ => rfl) rd_3 ReadsP_nil))))) (fun p => TControl.mk p.1 p.2.1 p.2.2.1) (fun _ => rfl) (fun x h => ⟨h.1, ⟨h.2.1, h.2.2.1⟩⟩)
theorem rd_22 : Reads Go.Proofs.Tryd.prog 22 (fun l : List TControl => [Tr.sl (l.map cControl)]) (fun l => l.length ≤ 9223372036854775807 ∧ ∀ x ∈ l, (fun x => bdControl 9223372036854775807 x ∧ ftControl x) x) := Reads_slice (k := 2) Go.Proofs.Tryd.underlying22 (by kernel_rfl) (fun _ => rfl) rd_48
theorem rd_24 : Reads Go.Proofs.Tryd.prog 24 (fun l : List Int => [Tr.sl (l.map (fun n : Int => [tv n]))]) (fun l => l.length ≤ 9223372036854775807 ∧ ∀ x ∈ l, (fits .i64) x) := Reads_slice (k := 0) Go.Proofs.Tryd.underlying24 (by kernel_rfl) (fun _ => rfl) rd_3
theorem rd_25 : Reads Go.Proofs.Tryd.prog 25 (fun l : List (List Int) => [Tr.sl (l.map (fun l : List Int => [Tr.sl (l.map (fun n : Int => [tv n]))]))]) (fun l => l.length ≤ 9223372036854775807 ∧ ∀ x ∈ l, (fun l => l.length ≤ 9223372036854775807 ∧ ∀ x ∈ l, (fits .i64) x) x) := Reads_slice (k := 0) Go.Proofs.Tryd.underlying25 (by kernel_rfl) (fun _ => rfl) rd_24
theorem rd_75 : Reads Go.Proofs.Tryd.prog 75 cA2 (fun x => fits .i64 x.1 ∧ fits .i64 x.2) := Reads_mp (Reads_array1 (k := 1) Go.Proofs.Tryd.underlying75 (by kernel_rfl) (show ReadsP Go.Proofs.Tryd.prog 0 [(0, 3), (1, 3)] _ _ from (ReadsP_cons (k := 1) (by kernel_rfl) (fun _ => rfl) rd_3 (ReadsP_cons (k := 1) (by kernel_rfl) (fun _ => rfl) rd_3 ReadsP_nil)))) (fun p => (p.1, p.2.1)) (fun _ => rfl) (fun x h => ⟨h.1, h.2.1⟩)
theorem rd_26 : Reads Go.Proofs.Tryd.prog 26 (fun l : List (Int × Int) => [Tr.sl (l.map cA2)]) (fun l => l.length ≤ 9223372036854775807 ∧ ∀ x ∈ l, (fun x => fits .i64 x.1 ∧ fits .i64 x.2) x) := Reads_slice (k := 1) Go.Proofs.Tryd.underlying26 (by kernel_rfl) (fun _ => rfl) rd_75
theorem rd_38 : Reads Go.Proofs.Tryd.prog 38 cSorting (fun x => bdSorting 9223372036854775807 x ∧ ftSorting x) := Reads_mp (Reads_struct Go.Proofs.Tryd.underlying38 (show ReadsP Go.Proofs.Tryd.prog 0 [(0, 24), (1, 25), (2, 25), (3, 24), (4, 26)] _ _ from (ReadsP_cons (k := 1) (by kernel_rfl) (fun _ => rfl) rd_24 (ReadsP_cons (k := 1) (by kernel_rfl) (fun _ => rfl) rd_25 (ReadsP_cons (k := 1) (by kernel_rfl) (fun _ => rfl) rd_25 (ReadsP_cons (k := 1) (by kernel_rfl) (fun _ => rfl) rd_24 (ReadsP_cons (k := 1) (by kernel_rfl) (fun _ => rfl) rd_26 ReadsP_nil))))))) (fun p => TSorting.mk p.1 p.2.1 p.2.2.1 p.2.2.2.1 p.2.2.2.2.1) (fun _ => rfl) (fun x h => ⟨⟨h.1.1, h.2.1.1, (fun y hy => (h.2.1.2 y hy).1), h.2.2.1.1, (fun y hy => (h.2.2.1.2 y hy).1), h.2.2.2.1.1, h.2.2.2.2.1.1⟩, ⟨(fun y hy => (h.1.2 y hy)), (fun y hy => (fun yy hyy => ((h.2.1.2 y hy).2 yy hyy))), (fun y hy => (fun yy hyy => ((h.2.2.1.2 y hy).2 yy hyy))), (fun y hy => (h.2.2.2.1.2 y hy)), (fun y hy => ⟨(h.2.2.2.2.1.2 y hy).1, (h.2.2.2.2.1.2 y hy).2⟩)⟩⟩)
end Go.Fd
