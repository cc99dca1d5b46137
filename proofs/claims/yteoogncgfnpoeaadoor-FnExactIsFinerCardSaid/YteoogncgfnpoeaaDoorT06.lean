/-
  WHAT HOLDS OF THE HELPERS OF THE LAWS: to.. (printed by lawgen.py). Own work.
-/
import Derived.Test.YteoogncgfnpoeaaDoorT05
import Derived.ChangeMaps5
import Derived.ChangeShapes
import Derived.KernelRfl
import Derived.Test.YteoogncgfnpoeaaDoorProg
namespace Go.Fd
set_option maxRecDepth 20000
theorem g_toIntS : chkF Go.Proofs.Tryd.prog fid_laws_toIntS (toS1 (.int .i64 0)) = true := by kernel_rfl
theorem sem_toIntS (a : (List Int)) (ha : a.length ≤ 4294967296) (lvl : Nat) (S : Sto) : Sem Go.Proofs.Tryd.prog fid_laws_toIntS lvl [.tr (.sl (rI a))] S (.ow 1 (rI a) true) S := sem_toI g_toIntS a ha lvl S
theorem sem_toIntSS (a : (List (List Int))) (ha : a.length ≤ 4294967296) (hb : ∀ y ∈ a, y.length ≤ 4294967296) (lvl : Nat) (S : Sto) : Sem Go.Proofs.Tryd.prog fid_laws_toIntSS lvl [.tr (.sl (a.map (fun l => [Tr.sl (rI l)])))] S (.ow 1 (a.map (fun l => [Tr.sl (rI l)])) true) S := by
  refine sem_of_chk k_laws_toIntSS trivial ?_
  simp only [c_laws_toIntSS, List.length_map, bigN, Int.natCast_nonneg, r_cons, r_nil, r_kont, r_seq1, r_rg, r_sq, r_bl, r_wpF, r_op1, r_go1, r_mv, r_ms, r_ms1, r_ln, r_ln1, r_lt1, bigN, ptd, keyOf, freshK, lk, pt, lkO, ptO, xv, kv, kc, params, trv, ↓reduceIte, Nat.reduceEqDiff, Nat.reduceMul, reduceCtorEq, List.length_cons, List.length_nil, Nat.reduceLeDiff, Nat.reduceLT, true_and, List.map_cons, List.map_nil, Int.toNat_natCast, Nat.zero_add, Int.natCast_nonneg, List.length_map, and_self, Int.cast_ofNat_Int]
  refine ⟨by omega, ?_⟩
  refine wp_count (α := Unit) a.length (fun j _ => ⟨lvl, [(0, .tr (.sl (a.map (fun l => [Tr.sl (rI l)])))), (3, .hd (lvl, 224) [] 0 a.length none a.length), (4, iI j)], [(224, .ar 1 (filled (fun l => [Tr.sl (rI l)]) [.sl []] a j) true a.length (j * 1))], S⟩) (fun _ _ => True) () ⟨by simp only [r_clean, r_okm1, r_okm4, r_okE0, r_okE1, r_okL0, r_okL2, ↓reduceIte, Nat.reduceEqDiff, reduceCtorEq, memB, keepB, keepOB, Bool.false_eq_true, and_self], by (simp only [filled_zero, r_fgt, ↓reduceIte, Nat.reduceEqDiff, Nat.reduceMul, reduceCtorEq, memB, keepB, keepOB, Bool.false_eq_true, Int.cast_ofNat_Int]) <;> rfl⟩ trivial ?_
  intro j _ hj _
  simp only [List.length_map, r_cons, r_nil, r_kont, r_seq1, r_seq2, r_blk2, r_fn2, r_sk, r_rg, r_sq, r_bl, r_ex, r_rt, r_cd, r_cd2, r_op1, r_go1, r_mv, r_bi, r_lti, r_ln, r_ln1, r_ixn, r_ia, r_ia1, r_kill, r_fin, r_kfe1, r_kcx, r_exps0, r_exps1, r_kex, r_exp1, r_expv4, r_expc7, r_exh1, r_round2, r_lt1, ptd, lk, pt, lkO, xv, ↓reduceIte, Nat.reduceEqDiff, reduceCtorEq, Nat.reduceLT, true_and, and_true, decide_eq_true_eq, List.headD_cons, scrE, scrL, scr, rmO, Int.toNat_natCast, Int.natCast_nonneg, List.length_map]
  refine ite_of (fun hlt => ?_) (fun hge => ?_)
  · have hja : j < a.length := by omega
    have ga : (a.map (fun l => [Tr.sl (rI l)]))[j]? = some ((fun l => [Tr.sl (rI l)]) a[j]) := by simp [hja]
    have gz : (filled (fun l => [Tr.sl (rI l)]) [.sl []] a j)[j]? = some [.sl []] := filled_get hja
    have hfl : (filled (fun l => [Tr.sl (rI l)]) [.sl []] a j).length = a.length := filled_length hj
    have hsem := fun lvl S => sem_toIntS a[j] (hb a[j] (List.getElem_mem hja)) lvl S
    simp only [ga, r_cons, r_kont, r_op1, r_go1, r_op3, r_iae, r_ltr, r_ld, r_ld1, r_kcn, r_sn0, r_sn1, r_ca, r_ca1, ptd, lk, pt, xv, ↓reduceIte, Nat.reduceEqDiff, reduceCtorEq, List.length_cons, List.length_nil, Nat.reduceLT, true_and, List.map_cons, List.map_nil, List.cons_append, List.nil_append, List.getElem?_cons_zero, mens, men, Nat.zero_add, and_self]
    refine kca_intro hsem ?_
    simp only [gz, Int.natCast_nonneg, hja, setp, List.set_cons_zero, Prod.mk.injEq, ne_eq, not_false_eq_true, r_cons, r_nil, r_kont, r_seq1, r_blk1, r_rg, r_op1, r_go1, r_mv, r_bi, r_add0, r_op3, r_ixn, r_ia, r_rde, r_rd3, r_stamp0, r_iah, r_iah2, r_ia3, r_pack, r_setOb, r_kill, r_fgt, r_clean, r_okm1, r_okm4, r_okE0, r_okE1, r_okL0, r_okL2, r_round1, r_st, r_st2, r_kst, r_stcs0, r_stcs1, r_sc1, r_sc3, r_sc4, r_sc2c, r_sc5, r_lt1, ptd, keyOf, freshK, lk, pt, lkO, ptO, addO, xv, kv, kc, ↓reduceIte, Nat.reduceEqDiff, Nat.reduceMul, reduceCtorEq, List.length_cons, List.length_nil, Nat.reduceLT, true_and, List.getElem?_cons_zero, noSh, impv, impc, memB, keepB, keepOB, or_true, Bool.false_eq_true, scrE, scrL, scr, scrOb, rmO, Int.toNat_natCast, isCell, Bool.and_self, cellsOf, getp, Nat.zero_add, Nat.add_zero, List.set_cons_zero, Int.natCast_nonneg, Prod.mk.injEq, ne_eq, not_false_eq_true, List.length_map, and_false, and_self]
    refine ⟨by rw [fits_i64]; omega, cntJ_intro () hja ?_ trivial⟩
    have hse := filled_set (c := (fun l => [Tr.sl (rI l)])) (z := [.sl []]) (e := [.sl (rI a[j])]) hja rfl
    rw [hse, show (j + 1) * 1 = j * 1 + 1 from by omega]
    rfl
  · have : j = a.length := by omega
    subst this
    rw [filled_all]
    simp
def oA2 (x : (Int × Int)) : IV := .ag [iI x.1, iI x.2]
theorem sem_toIntA2 (x : (Int × Int)) (lvl : Nat) (S : Sto) : Sem Go.Proofs.Tryd.prog fid_laws_toIntA2 lvl [.ag ((cA2 x).map .tr)] S (oA2 x) S := by
  refine sem_of_chk k_laws_toIntA2 (by simp [oA2, low, men, mens]) ?_
  simp only [c_laws_toIntA2, cA2, zfill, zobs, List.map_cons, List.map_nil, r_cons, r_nil, r_kont, r_seq1, r_rg, r_sq, r_bl, r_wpF, r_op1, r_mv, r_bt, r_bt1, r_al, zfill, zobs, ptd, keyOf, freshK, lk, pt, lkO, ptO, addO, xv, kv, kc, params, ↓reduceIte, Nat.reduceEqDiff, Nat.reduceMul, reduceCtorEq, List.length_cons, List.length_nil, Nat.reduceAdd, Nat.reduceLeDiff, Nat.reduceLT, true_and, List.map_cons, List.map_nil, List.all_cons, List.all_nil, isCell, Bool.and_self, cellsOf, totr, totrs, tocs, Nat.zero_add, Nat.add_zero, and_self]
  refine wp_count (α := Unit) 2 (fun j _ => ⟨lvl, [(1, .ta (cA2 x)), (2, .ab (lvl, 64) 0), (3, .ab (lvl, 96) 0), (4, iI j)], [(64, .bx [iI 0, iI 0]), (96, .bx ([iI x.1, iI x.2].take j ++ [iI 0, iI 0].drop j))], S⟩) (fun _ _ => True) () ⟨by simp only [r_clean, r_okm2, r_okm4, r_okm11, r_okms0, r_okms1, r_okE0, r_okE1, r_okL0, r_okL1, ↓reduceIte, Nat.reduceEqDiff, reduceCtorEq, memB, keepB, keepOB, Bool.false_eq_true, and_self], by (simp only [r_fgt, ↓reduceIte, Nat.reduceEqDiff, reduceCtorEq, List.nil_append, List.drop_zero, List.take_zero, memB, keepB, keepOB, Bool.false_eq_true, Int.cast_ofNat_Int]) <;> rfl⟩ trivial ?_
  intro j _ hj _
  have hc : j = 0 ∨ j = 1 ∨ j = 2 := by omega
  rcases hc with rfl | rfl | rfl
  · simp only [cA2, Int.cast_ofNat_Int, Nat.mul_one, r_setAt0, r_setAt1, List.set_cons_zero, r_cons, r_nil, r_kont, r_seq1, r_blk1, r_sk, r_rg, r_sq, r_bl, r_cd, r_cd2, r_op1, r_go1, r_mv, r_bi, r_add0, r_lti, r_op3, r_ixn, r_ja, r_ja1, r_ja2, r_pack, r_setOb, r_ltr, r_ld, r_ld1, r_fgt, r_clean, r_okm2, r_okm4, r_okm11, r_okms0, r_okms1, r_okE0, r_okE1, r_okL0, r_okL1, r_round1, r_st, r_st1, r_stb, r_setAt0, r_setAt1, r_lows0, r_lows1, r_low1, r_lt1, ptd, lk, pt, lkO, ptO, xv, kv, kc, ↓reduceIte, Nat.reduceEqDiff, List.length_cons, List.length_nil, Nat.reduceAdd, Nat.reduceSub, Nat.reduceLeDiff, Nat.reduceLT, true_and, decide_true, List.nil_append, List.getElem?_cons_zero, List.drop_zero, List.take_zero, memB, keepB, keepOB, Bool.false_eq_true, Int.toNat_zero, Int.reduceLE, Int.reduceLT, isCell, cellsOf, Nat.zero_add, Nat.add_zero, List.set_cons_zero, and_self, Int.cast_ofNat_Int]
    exact ⟨by rw [fits_i64]; omega, cntJ_intro (N := 2) (k := 0) () (by omega) rfl trivial⟩
  · simp only [cA2, Int.cast_ofNat_Int, Nat.mul_one, r_setAt0, r_setAt1, List.set_cons_zero, List.set_cons_succ, r_cons, r_nil, r_kont, r_seq1, r_blk1, r_sk, r_rg, r_sq, r_bl, r_cd, r_cd2, r_op1, r_go1, r_mv, r_bi, r_add0, r_lti, r_op3, r_ixn, r_ja, r_ja1, r_ja2, r_pack, r_setOb, r_ltr, r_ld, r_ld1, r_fgt, r_clean, r_okm2, r_okm4, r_okm11, r_okms0, r_okms1, r_okE0, r_okE1, r_okL0, r_okL1, r_round1, r_st, r_st1, r_stb, r_setAt0, r_setAt1, r_lows0, r_lows1, r_low1, r_lt1, ptd, lk, pt, lkO, ptO, xv, kv, kc, ↓reduceIte, Nat.reduceEqDiff, List.length_cons, List.length_nil, Nat.reduceAdd, Nat.reduceSub, Nat.reduceLT, true_and, decide_true, List.cons_append, List.nil_append, List.getElem?_cons_zero, List.drop_succ_cons, List.drop_zero, List.take_succ_cons, List.take_zero, memB, keepB, keepOB, Bool.false_eq_true, Int.toNat_one, Int.reduceLE, Int.reduceLT, isCell, cellsOf, Nat.zero_add, List.set_cons_zero, List.set_cons_succ, Nat.le_refl, and_self, Int.cast_ofNat_Int]
    exact ⟨by rw [fits_i64]; omega, cntJ_intro (N := 2) (k := 1) () (by omega) rfl trivial⟩
  · simp only [cA2, Int.cast_ofNat_Int, r_setAt0, r_setAt1, List.set_cons_zero, List.set_cons_succ, r_cons, r_nil, r_kont, r_seq1, r_seq2, r_blk2, r_fn2, r_rg, r_sq, r_ex, r_rt, r_cd, r_cd2, r_op1, r_go1, r_mv, r_bi, r_lti, r_pack, r_setOb, r_ld, r_labm, r_ld5, r_fin, r_kfe1, r_kcx, r_exps0, r_exps1, r_kex, r_exb1, r_exp2, r_exc, r_kagx, r_expv1, r_kxc, r_expcs0, r_expcs1, r_expc1, r_round2, r_st, r_st1, r_stb, r_setAt0, r_setAt1, r_lows0, r_lows1, r_low1, ptd, lk, pt, lkO, ptO, xv, kv, kc, ↓reduceIte, Nat.reduceEqDiff, List.length_cons, List.length_nil, Nat.reduceAdd, Nat.reduceSub, Nat.reduceLT, true_and, and_true, decide_false, List.cons_append, List.nil_append, List.drop_succ_cons, List.drop_zero, List.take_succ_cons, List.take_zero, List.headD_cons, List.tail_cons, Bool.false_eq_true, Int.reduceLT, List.all_cons, List.all_nil, isCell, Bool.and_self, cellsOf, Nat.zero_add, List.set_cons_zero, List.set_cons_succ, Nat.le_refl, and_self, Int.cast_ofNat_Int]
    rfl
theorem sem_toIntA2S (a : (List (Int × Int))) (ha : a.length ≤ 4294967296) (lvl : Nat) (S : Sto) : Sem Go.Proofs.Tryd.prog fid_laws_toIntA2S lvl [.tr (.sl (a.map cA2))] S (.ow 2 (a.map cA2) true) S := by
  refine sem_of_chk k_laws_toIntA2S trivial ?_
  simp only [c_laws_toIntA2S, List.length_map, bigN, Int.natCast_nonneg, r_cons, r_nil, r_kont, r_seq1, r_rg, r_sq, r_bl, r_wpF, r_op1, r_go1, r_mv, r_ms, r_ms1, r_ln, r_ln1, r_lt1, bigN, ptd, keyOf, freshK, lk, pt, lkO, ptO, xv, kv, kc, params, trv, ↓reduceIte, Nat.reduceEqDiff, Nat.reduceMul, reduceCtorEq, List.length_cons, List.length_nil, Nat.reduceLeDiff, Nat.reduceLT, true_and, List.map_cons, List.map_nil, Int.toNat_natCast, Nat.zero_add, Int.natCast_nonneg, List.length_map, and_self, Int.cast_ofNat_Int]
  refine ⟨by omega, ?_⟩
  refine wp_count (α := Unit) a.length (fun j _ => ⟨lvl, [(0, .tr (.sl (a.map cA2))), (3, .hd (lvl, 224) [] 0 a.length none a.length), (4, iI j)], [(224, .ar 2 (filled cA2 [tv 0, tv 0] a j) true a.length (j * 0))], S⟩) (fun _ _ => True) () ⟨by simp only [r_clean, r_okm1, r_okm4, r_okE0, r_okE1, r_okL0, r_okL2, ↓reduceIte, Nat.reduceEqDiff, reduceCtorEq, memB, keepB, keepOB, Bool.false_eq_true, and_self], by (simp only [filled_zero, r_fgt, ↓reduceIte, Nat.reduceEqDiff, Nat.reduceMul, reduceCtorEq, memB, keepB, keepOB, Bool.false_eq_true, Int.cast_ofNat_Int]) <;> rfl⟩ trivial ?_
  intro j _ hj _
  simp only [List.length_map, r_cons, r_nil, r_kont, r_seq1, r_seq2, r_blk2, r_fn2, r_sk, r_rg, r_sq, r_bl, r_ex, r_rt, r_cd, r_cd2, r_op1, r_go1, r_mv, r_bi, r_lti, r_ln, r_ln1, r_ixn, r_ia, r_ia1, r_kill, r_fin, r_kfe1, r_kcx, r_exps0, r_exps1, r_kex, r_exp1, r_expv4, r_expc7, r_exh1, r_round2, r_lt1, ptd, lk, pt, lkO, xv, ↓reduceIte, Nat.reduceEqDiff, reduceCtorEq, Nat.reduceLT, true_and, and_true, decide_eq_true_eq, List.headD_cons, scrE, scrL, scr, rmO, Int.toNat_natCast, Int.natCast_nonneg, List.length_map]
  refine ite_of (fun hlt => ?_) (fun hge => ?_)
  · have hja : j < a.length := by omega
    have ga : (a.map cA2)[j]? = some (cA2 a[j]) := by simp [hja]
    have gz : (filled cA2 [tv 0, tv 0] a j)[j]? = some [tv 0, tv 0] := filled_get hja
    have hfl : (filled cA2 [tv 0, tv 0] a j).length = a.length := filled_length hj
    have hsem := fun lvl S => sem_toIntA2 a[j] lvl S
    simp only [ga, Nat.le_refl, cA2, r_cons, r_kont, r_op1, r_go1, r_op3, r_iae, r_ld, r_ld4, r_kcn, r_kagn, r_sn0, r_sn1, r_sn3, r_ca, r_ca1, ptd, lk, pt, xv, ↓reduceIte, Nat.reduceEqDiff, reduceCtorEq, List.length_cons, List.length_nil, Nat.reduceAdd, Nat.reduceLT, true_and, List.map_cons, List.map_nil, List.cons_append, List.nil_append, List.take_succ_cons, List.take_zero, mens, men, Nat.zero_add, Nat.le_refl, and_self]
    refine kca_intro hsem ?_
    simp only [oA2, gz, Int.natCast_nonneg, hja, hfl, setp, List.getElem?_set_self, List.set_set, List.set_cons_zero, List.set_cons_succ, r_cons, r_nil, r_kont, r_seq1, r_blk1, r_rg, r_op1, r_go1, r_mv, r_bi, r_add0, r_op3, r_ixn, r_ia, r_rde, r_rd3, r_stamp0, r_iah, r_iah2, r_ia3, r_pack, r_setOb, r_fgt, r_clean, r_okm1, r_okm4, r_okE0, r_okE1, r_okL0, r_okL2, r_round1, r_st, r_st2, r_kst, r_stcs0, r_stcs1, r_sc1, r_sc3, r_sc4, r_sc2, r_lt1, ptd, keyOf, freshK, lk, pt, lkO, ptO, addO, xv, kv, kc, ↓reduceIte, Nat.reduceEqDiff, Nat.reduceMul, reduceCtorEq, List.length_cons, List.length_nil, Nat.reduceAdd, Nat.reduceLT, true_and, List.nil_append, List.getElem?_cons_zero, List.getElem?_cons_succ, noSh, noShs, isSc, impv, impvs, memB, keepB, keepOB, or_true, Bool.false_eq_true, Int.toNat_natCast, List.all_cons, List.all_nil, isCell, Bool.and_self, cellsOf, getp, Nat.zero_add, List.set_cons_zero, List.set_cons_succ, Int.natCast_nonneg, and_self]
    refine ⟨by rw [fits_i64]; omega, cntJ_intro () hja ?_ trivial⟩
    have hse := filled_set (c := cA2) (z := [tv 0, tv 0]) (e := [tv a[j].1, tv a[j].2]) hja rfl
    rw [hse, show (j + 1) * 0 = j * 0 from by omega]
    rfl
  · have : j = a.length := by omega
    subst this
    rw [filled_all]
    simp
theorem sem_toSorting (x : TSorting) (hb : bdSorting 4294967296 x) (lvl : Nat) (S : Sto) : Sem Go.Proofs.Tryd.prog fid_laws_toSorting lvl [.ag ((cSorting x).map .tr)] S (oSorting x) S := by
  obtain ⟨b0, b1, b2, b3, b4, b5, b6⟩ := hb
  refine sem_of_chk k_laws_toSorting (by simp [oSorting, low, men, mens]) ?_
  simp only [c_laws_toSorting, cSorting, zfill, zobs, List.map_cons, List.map_nil, r_cons, r_nil, r_kont, r_seq1, r_rg, r_sq, r_wpF, r_op1, r_go1, r_bt, r_bt1, r_al, r_op3, r_fa, r_fa1, r_ltr, r_ld, r_ld1, r_kcn, r_sn0, r_sn1, r_ca, r_ca1, zfill, zobs, ptd, keyOf, freshK, lk, pt, lkO, ptO, addO, xv, kc, params, ↓reduceIte, Nat.reduceEqDiff, Nat.reduceMul, reduceCtorEq, List.length_cons, List.length_nil, Nat.reduceAdd, Nat.reduceLeDiff, Nat.reduceLT, true_and, List.map_cons, List.map_nil, List.cons_append, List.nil_append, List.getElem?_cons_zero, List.drop_zero, mens, men, List.all_cons, List.all_nil, isCell, Bool.and_true, Bool.and_self, cellsOf, totr, totrs, tocs, Nat.zero_add, Nat.add_zero, and_self]
  refine kca_intro (sem_toIntS x.tops b0) ?_
  simp only [r_setAt0, r_setAt1, List.set_cons_zero, r_cons, r_nil, r_kont, r_seq1, r_rg, r_sq, r_op1, r_go1, r_op3, r_fa, r_fa1, r_fa2, r_pack, r_setOb, r_ltr, r_ld, r_ld1, r_kcn, r_sn0, r_sn1, r_ca, r_ca1, r_st, r_st1, r_stb, r_setAt0, r_setAt1, r_lows0, r_lows1, r_low3, ptd, keyOf, freshK, lk, pt, lkO, ptO, addO, xv, ↓reduceIte, Nat.reduceEqDiff, Nat.reduceMul, reduceCtorEq, List.length_cons, List.length_nil, Nat.reduceAdd, Nat.reduceLeDiff, Nat.reduceLT, true_and, List.map_cons, List.map_nil, List.cons_append, List.nil_append, List.getElem?_cons_zero, List.drop_succ_cons, List.drop_zero, mens, men, noSh, impv, impc, or_true, isCell, cellsOf, Nat.zero_add, Nat.add_zero, List.set_cons_zero, List.length_map, and_self]
  refine kca_intro (sem_toIntSS x.nest b1 b2) ?_
  simp only [r_setAt0, r_setAt1, List.set_cons_zero, List.set_cons_succ, r_cons, r_nil, r_kont, r_seq1, r_rg, r_sq, r_op1, r_go1, r_op3, r_fa, r_fa1, r_fa2, r_pack, r_setOb, r_ltr, r_ld, r_ld1, r_kcn, r_sn0, r_sn1, r_ca, r_ca1, r_st, r_st1, r_stb, r_setAt0, r_setAt1, r_lows0, r_lows1, r_low3, ptd, keyOf, freshK, lk, pt, lkO, ptO, addO, xv, ↓reduceIte, Nat.reduceEqDiff, Nat.reduceMul, reduceCtorEq, List.length_cons, List.length_nil, Nat.reduceAdd, Nat.reduceLeDiff, Nat.reduceLT, true_and, List.map_cons, List.map_nil, List.cons_append, List.nil_append, List.getElem?_cons_zero, List.drop_succ_cons, List.drop_zero, mens, men, noSh, impv, impc, or_true, isCell, cellsOf, Nat.zero_add, Nat.add_zero, List.set_cons_zero, List.set_cons_succ, List.length_map, and_self]
  refine kca_intro (sem_toIntSS x.sorts b3 b4) ?_
  simp only [r_setAt0, r_setAt1, List.set_cons_zero, List.set_cons_succ, r_cons, r_nil, r_kont, r_seq1, r_rg, r_sq, r_op1, r_go1, r_op3, r_fa, r_fa1, r_fa2, r_pack, r_setOb, r_ltr, r_ld, r_ld1, r_kcn, r_sn0, r_sn1, r_ca, r_ca1, r_st, r_st1, r_stb, r_setAt0, r_setAt1, r_lows0, r_lows1, r_low3, ptd, keyOf, freshK, lk, pt, lkO, ptO, addO, xv, ↓reduceIte, Nat.reduceEqDiff, Nat.reduceMul, reduceCtorEq, List.length_cons, List.length_nil, Nat.reduceAdd, Nat.reduceLeDiff, Nat.reduceLT, true_and, List.map_cons, List.map_nil, List.cons_append, List.nil_append, List.getElem?_cons_zero, List.drop_succ_cons, List.drop_zero, mens, men, noSh, impv, impc, or_true, isCell, cellsOf, Nat.zero_add, Nat.add_zero, List.set_cons_zero, List.set_cons_succ, List.length_map, and_self]
  refine kca_intro (sem_toIntS x.most b5) ?_
  simp only [r_setAt0, r_setAt1, List.set_cons_zero, List.set_cons_succ, r_cons, r_nil, r_kont, r_seq1, r_rg, r_sq, r_op1, r_go1, r_op3, r_fa, r_fa1, r_fa2, r_pack, r_setOb, r_ltr, r_ld, r_ld1, r_kcn, r_sn0, r_sn1, r_ca, r_ca1, r_st, r_st1, r_stb, r_setAt0, r_setAt1, r_lows0, r_lows1, r_low3, ptd, keyOf, freshK, lk, pt, lkO, ptO, addO, xv, ↓reduceIte, Nat.reduceEqDiff, Nat.reduceMul, reduceCtorEq, List.length_cons, List.length_nil, Nat.reduceAdd, Nat.reduceLeDiff, Nat.reduceLT, true_and, List.map_cons, List.map_nil, List.cons_append, List.nil_append, List.getElem?_cons_zero, List.drop_succ_cons, List.drop_zero, mens, men, noSh, impv, impc, or_true, isCell, cellsOf, Nat.zero_add, Nat.add_zero, List.set_cons_zero, List.set_cons_succ, List.length_map, and_self]
  refine kca_intro (sem_toIntA2S x.apart b6) ?_
  simp only [r_setAt0, r_setAt1, List.set_cons_zero, List.set_cons_succ, Prod.mk.injEq, r_cons, r_nil, r_kont, r_seq1, r_fn2, r_rg, r_sq, r_rt, r_op1, r_go1, r_fa, r_fa2, r_pack, r_setOb, r_kill, r_ld, r_labm, r_ld5, r_fin, r_kfe1, r_kcx, r_exps0, r_exps1, r_kex, r_exb1, r_exp2, r_exc, r_kagx, r_expv1, r_kxc, r_expcs0, r_expcs1, r_expc7, r_exh1, r_st, r_st1, r_stb, r_setAt0, r_setAt1, r_lows0, r_lows1, r_low3, ptd, keyOf, freshK, lk, pt, lkO, ptO, addO, xv, ↓reduceIte, Nat.reduceEqDiff, Nat.reduceMul, reduceCtorEq, List.length_cons, List.length_nil, Nat.reduceAdd, Nat.reduceLT, true_and, and_true, List.drop_zero, List.take_succ_cons, List.take_zero, List.headD_cons, List.tail_cons, noSh, impv, impc, or_true, scrE, scrL, scr, scrs, scrOb, rmO, List.all_cons, List.all_nil, isCell, Bool.and_self, cellsOf, Nat.zero_add, Nat.add_zero, List.set_cons_zero, List.set_cons_succ, Nat.le_refl, Prod.mk.injEq, List.length_map, and_false, and_self]
  rfl
theorem sem_toControl (x : TControl) (hb : bdControl 4294967296 x) (lvl : Nat) (S : Sto) : Sem Go.Proofs.Tryd.prog fid_laws_toControl lvl [.ag ((cControl x).map .tr)] S (oControl x) S := by
  have b0 : x.name.size ≤ 4294967296 := hb
  refine sem_of_chk k_laws_toControl (by simp [oControl, low, men, mens]) ?_
  simp only [c_laws_toControl, cControl, zfill, zobs, List.map_cons, List.map_nil, r_setAt0, r_setAt1, List.set_cons_zero, List.set_cons_succ, r_cons, r_nil, r_kont, r_seq1, r_fn2, r_rg, r_sq, r_rt, r_wpF, r_op1, r_go1, r_bt, r_bt1, r_al, r_op3, r_fa, r_fa1, r_fa2, r_pack, r_setOb, r_ltr, r_ld, r_ld1, r_labm, r_ld5, r_fin, r_kfe1, r_kcx, r_exps0, r_exps1, r_kex, r_exb1, r_exp2, r_exc, r_kagx, r_expv1, r_kxc, r_expcs0, r_expcs1, r_expc1, r_st, r_st1, r_stb, r_setAt0, r_setAt1, r_lows0, r_lows1, r_low1, zfill, zobs, ptd, keyOf, freshK, lk, pt, lkO, ptO, addO, xv, kc, params, ↓reduceIte, Nat.reduceEqDiff, Nat.reduceMul, reduceCtorEq, List.length_cons, List.length_nil, Nat.reduceAdd, Nat.reduceLeDiff, Nat.reduceLT, true_and, and_true, List.map_cons, List.map_nil, List.getElem?_cons_zero, List.drop_succ_cons, List.drop_zero, List.take_succ_cons, List.take_zero, List.headD_cons, List.tail_cons, List.all_cons, List.all_nil, isCell, Bool.and_self, cellsOf, totr, totrs, tocs, Nat.zero_add, Nat.add_zero, List.set_cons_zero, List.set_cons_succ, Nat.le_refl, and_self]
  rfl
theorem sem_toControlS (a : (List TControl)) (ha : a.length ≤ 4294967296) (hb : ∀ y ∈ a, bdControl 4294967296 y) (lvl : Nat) (S : Sto) : Sem Go.Proofs.Tryd.prog fid_laws_toControlS lvl [.tr (.sl (a.map cControl))] S (.ow 3 (a.map cControl) true) S := by
  refine sem_of_chk k_laws_toControlS trivial ?_
  simp only [c_laws_toControlS, List.length_map, bigN, Int.natCast_nonneg, r_cons, r_nil, r_kont, r_seq1, r_rg, r_sq, r_bl, r_wpF, r_op1, r_go1, r_mv, r_ms, r_ms1, r_ln, r_ln1, r_lt1, bigN, ptd, keyOf, freshK, lk, pt, lkO, ptO, xv, kv, kc, params, trv, ↓reduceIte, Nat.reduceEqDiff, Nat.reduceMul, reduceCtorEq, List.length_cons, List.length_nil, Nat.reduceLeDiff, Nat.reduceLT, true_and, List.map_cons, List.map_nil, Int.toNat_natCast, Nat.zero_add, Int.natCast_nonneg, List.length_map, and_self, Int.cast_ofNat_Int]
  refine ⟨by omega, ?_⟩
  refine wp_count (α := Unit) a.length (fun j _ => ⟨lvl, [(0, .tr (.sl (a.map cControl))), (3, .hd (lvl, 224) [] 0 a.length none a.length), (4, iI j)], [(224, .ar 3 (filled cControl [ts ⟨#[]⟩, tv 0, tv 0] a j) true a.length (j * 0))], S⟩) (fun _ _ => True) () ⟨by simp only [r_clean, r_okm1, r_okm4, r_okE0, r_okE1, r_okL0, r_okL2, ↓reduceIte, Nat.reduceEqDiff, reduceCtorEq, memB, keepB, keepOB, Bool.false_eq_true, and_self], by (simp only [filled_zero, r_fgt, ↓reduceIte, Nat.reduceEqDiff, Nat.reduceMul, reduceCtorEq, memB, keepB, keepOB, Bool.false_eq_true, Int.cast_ofNat_Int]) <;> rfl⟩ trivial ?_
  intro j _ hj _
  simp only [List.length_map, r_cons, r_nil, r_kont, r_seq1, r_seq2, r_blk2, r_fn2, r_sk, r_rg, r_sq, r_bl, r_ex, r_rt, r_cd, r_cd2, r_op1, r_go1, r_mv, r_bi, r_lti, r_ln, r_ln1, r_ixn, r_ia, r_ia1, r_kill, r_fin, r_kfe1, r_kcx, r_exps0, r_exps1, r_kex, r_exp1, r_expv4, r_expc7, r_exh1, r_round2, r_lt1, ptd, lk, pt, lkO, xv, ↓reduceIte, Nat.reduceEqDiff, reduceCtorEq, Nat.reduceLT, true_and, and_true, decide_eq_true_eq, List.headD_cons, scrE, scrL, scr, rmO, Int.toNat_natCast, Int.natCast_nonneg, List.length_map]
  refine ite_of (fun hlt => ?_) (fun hge => ?_)
  · have hja : j < a.length := by omega
    have ga : (a.map cControl)[j]? = some (cControl a[j]) := by simp [hja]
    have gz : (filled cControl [ts ⟨#[]⟩, tv 0, tv 0] a j)[j]? = some [ts ⟨#[]⟩, tv 0, tv 0] := filled_get hja
    have hfl : (filled cControl [ts ⟨#[]⟩, tv 0, tv 0] a j).length = a.length := filled_length hj
    have hsem := fun lvl S => sem_toControl a[j] (hb a[j] (List.getElem_mem hja)) lvl S
    simp only [ga, Nat.le_refl, cControl, r_cons, r_kont, r_op1, r_go1, r_op3, r_iae, r_ld, r_ld4, r_kcn, r_kagn, r_sn0, r_sn1, r_sn3, r_ca, r_ca1, ptd, lk, pt, xv, ↓reduceIte, Nat.reduceEqDiff, reduceCtorEq, List.length_cons, List.length_nil, Nat.reduceAdd, Nat.reduceLT, true_and, List.map_cons, List.map_nil, List.cons_append, List.nil_append, List.take_succ_cons, List.take_zero, mens, men, Nat.zero_add, Nat.le_refl, and_self]
    refine kca_intro hsem ?_
    simp only [oControl, gz, Int.natCast_nonneg, hja, hfl, setp, List.getElem?_set_self, List.set_set, List.set_cons_zero, List.set_cons_succ, r_cons, r_nil, r_kont, r_seq1, r_blk1, r_rg, r_op1, r_go1, r_mv, r_bi, r_add0, r_op3, r_ixn, r_ia, r_rde, r_rd3, r_stamp0, r_iah, r_iah2, r_ia3, r_pack, r_setOb, r_fgt, r_clean, r_okm1, r_okm4, r_okE0, r_okE1, r_okL0, r_okL2, r_round1, r_st, r_st2, r_kst, r_stcs0, r_stcs1, r_sc1, r_sc3, r_sc4, r_sc2, r_lt1, ptd, keyOf, freshK, lk, pt, lkO, ptO, addO, xv, kv, kc, ↓reduceIte, Nat.reduceEqDiff, Nat.reduceMul, reduceCtorEq, List.length_cons, List.length_nil, Nat.reduceAdd, Nat.reduceLT, true_and, List.nil_append, List.getElem?_cons_zero, List.getElem?_cons_succ, noSh, noShs, isSc, impv, impvs, memB, keepB, keepOB, or_true, Bool.false_eq_true, Int.toNat_natCast, List.all_cons, List.all_nil, isCell, Bool.and_self, cellsOf, getp, Nat.zero_add, List.set_cons_zero, List.set_cons_succ, Int.natCast_nonneg, and_self]
    refine ⟨by rw [fits_i64]; omega, cntJ_intro () hja ?_ trivial⟩
    have hse := filled_set (c := cControl) (z := [ts ⟨#[]⟩, tv 0, tv 0]) (e := [ts a[j].name, tv a[j].ports, tv a[j].kind_]) hja rfl
    rw [hse, show (j + 1) * 0 = j * 0 from by omega]
    rfl
  · have : j = a.length := by omega
    subst this
    rw [filled_all]
    simp
end Go.Fd

/-
  WHAT THE LAW OF IsFiner LEANS ON. Own work.
-/

/-
  THE LAW OF IsFiner (printed by lawtext.py). Own work.
-/
namespace Go.Fd
set_option maxRecDepth 20000
theorem sem_FnExactIsFiner (x0 : (List TControl)) (x1 : TSorting) (x2 : TSorting) (hb0_0 : x0.length ≤ 9223372036854775807) (hb0_1 : ∀ y ∈ x0, bdControl 9223372036854775807 y) (hb1_0 : bdSorting 9223372036854775807 x1) (hb2_0 : bdSorting 9223372036854775807 x2) (lvl : Nat) (S : Sto) : Sem Go.Proofs.Tryd.prog fid_laws_FnExactIsFiner lvl [.tr (.sl (x0.map cControl)), .ag ((cSorting x1).map .tr), .ag ((cSorting x2).map .tr)] S (iB true) S := by
  refine sem_of_chk k_laws_FnExactIsFiner trivial ?_
  simp only [c_laws_FnExactIsFiner, cSorting, r_cons, r_nil, r_kont, r_seq1, r_rg, r_sq, r_wpF, r_op1, r_mv, r_bt, r_bt1, r_kcn, r_sn0, r_sn1, r_ca, r_ca1, ptd, lk, pt, xv, kv, kc, params, ↓reduceIte, Nat.reduceEqDiff, reduceCtorEq, List.length_cons, List.length_nil, Nat.reduceAdd, Nat.reduceLeDiff, Nat.reduceLT, true_and, List.map_cons, List.map_nil, List.cons_append, List.nil_append, mens, men, List.all_cons, List.all_nil, isCell, Bool.and_true, Bool.and_self, cellsOf, totr, totrs, tocs, Nat.zero_add, and_self]
  have ul : (1048576 : Int) ≤ 1048576 := Int.le_refl _
  obtain ⟨_, ha0⟩ := sem_szControlS x0 hb0_0 hb0_1 (1048576) (by omega) (by omega)
  refine kca_intro ha0 ?_
  simp only [r_cons, r_nil, r_kont, r_seq1, r_seq3, r_fn2, r_sk, r_rg, r_sq, r_rt, r_cd, r_cd2, r_op1, r_go1, r_mv, r_bi, r_lti, r_ld, r_ld4, r_kcn, r_kagn, r_sn0, r_sn1, r_sn3, r_ca, r_ca1, r_fin, r_kfe1, r_kcx, r_exps0, r_exps1, r_kex, r_exp1, r_expv2, ptd, keyOf, freshK, lk, pt, addO, xv, kv, kc, ↓reduceIte, Nat.reduceEqDiff, Nat.reduceMul, reduceCtorEq, List.length_cons, List.length_nil, Nat.reduceAdd, Nat.reduceLT, true_and, decide_eq_true_eq, List.map_cons, List.map_nil, List.cons_append, List.nil_append, List.take_succ_cons, List.take_zero, mens, men, noSh, isSc, impv, or_true, Nat.zero_add, Nat.le_refl, and_self]
  refine ite_of (fun _ => trivial) (fun hz0 => ?_)
  have zp0 := (Zm_L (f := szControl) (fun y => (zpControl y)) x0) (1048576) (by omega) (by omega)
  simp only at zp0
  have hp0 := zp0.2 (by omega)
  obtain ⟨hs0_0, hs0_1⟩ := hp0
  obtain ⟨_, ha1⟩ := sem_szSorting x1 hb1_0 (szL szControl x0 (1048576)) (by omega) (by omega)
  refine kca_intro ha1 ?_
  simp only [r_cons, r_nil, r_kont, r_seq1, r_seq3, r_fn2, r_sk, r_rg, r_sq, r_rt, r_cd, r_cd2, r_op1, r_go1, r_mv, r_bi, r_lti, r_ld, r_ld4, r_kcn, r_kagn, r_sn0, r_sn1, r_sn3, r_ca, r_ca1, r_fin, r_kfe1, r_kcx, r_exps0, r_exps1, r_kex, r_exp1, r_expv2, ptd, keyOf, freshK, lk, pt, addO, xv, kv, kc, ↓reduceIte, Nat.reduceEqDiff, Nat.reduceMul, reduceCtorEq, List.length_cons, List.length_nil, Nat.reduceAdd, Nat.reduceLT, true_and, decide_eq_true_eq, List.map_cons, List.map_nil, List.cons_append, List.nil_append, List.take_succ_cons, List.take_zero, mens, men, noSh, isSc, impv, or_true, Nat.zero_add, Nat.le_refl, and_self]
  refine ite_of (fun _ => trivial) (fun hz1 => ?_)
  have zp1 := (zpSorting x1) (szL szControl x0 (1048576)) (by omega) (by omega)
  simp only at zp1
  have hp1 := zp1.2 (by omega)
  have hs1_0 := hp1
  obtain ⟨_, ha2⟩ := sem_szSorting x2 hb2_0 (szSorting x1 (szL szControl x0 (1048576))) (by omega) (by omega)
  refine kca_intro ha2 ?_
  simp only [r_cons, r_nil, r_kont, r_seq1, r_seq3, r_fn2, r_sk, r_rg, r_sq, r_rt, r_cd, r_cd2, r_op1, r_go1, r_mv, r_bi, r_lti, r_kcn, r_sn0, r_sn1, r_ca, r_ca1, r_fin, r_kfe1, r_kcx, r_exps0, r_exps1, r_kex, r_exp1, r_expv2, ptd, keyOf, freshK, lk, pt, addO, xv, kv, kc, ↓reduceIte, Nat.reduceEqDiff, Nat.reduceMul, reduceCtorEq, List.length_nil, Nat.reduceLT, true_and, decide_eq_true_eq, List.map_cons, List.map_nil, List.cons_append, List.nil_append, mens, men, noSh, isSc, impv, or_true, and_self]
  refine ite_of (fun _ => trivial) (fun hz2 => ?_)
  have zp2 := (zpSorting x2) (szSorting x1 (szL szControl x0 (1048576))) (by omega) (by omega)
  simp only at zp2
  have hp2 := zp2.2 (by omega)
  have hs2_0 := hp2
  refine kca_intro (sem_toControlS x0 hs0_0 hs0_1) ?_
  simp only [r_cons, r_kont, r_op1, r_go1, r_ld, r_ld4, r_kcn, r_kagn, r_sn0, r_sn1, r_sn3, r_ca, r_ca1, ptd, keyOf, freshK, lk, pt, addO, xv, ↓reduceIte, Nat.reduceEqDiff, Nat.reduceMul, reduceCtorEq, List.length_cons, List.length_nil, Nat.reduceAdd, Nat.reduceLT, true_and, List.map_cons, List.map_nil, List.cons_append, List.nil_append, List.take_succ_cons, List.take_zero, mens, men, noSh, impv, impc, or_true, Bool.false_eq_true, Nat.zero_add, Nat.le_refl, and_self]
  refine kca_intro (sem_toSorting x1 hs1_0) ?_
  simp only [oSorting, r_cons, r_kont, r_op1, r_go1, r_ld, r_ld4, r_kcn, r_kagn, r_sn0, r_sn1, r_sn3, r_ca, r_ca1, ptd, keyOf, freshK, lk, pt, addO, xv, ↓reduceIte, Nat.reduceEqDiff, Nat.reduceMul, reduceCtorEq, List.length_cons, List.length_nil, Nat.reduceAdd, Nat.reduceLT, true_and, List.map_cons, List.map_nil, List.cons_append, List.nil_append, List.take_succ_cons, List.take_zero, mens, men, noSh, noShs, impv, impvs, impc, or_true, Bool.false_eq_true, Nat.zero_add, Nat.le_refl, and_self]
  refine kca_intro (sem_toSorting x2 hs2_0) ?_
  simp only [oSorting, r_cons, r_kont, r_op1, r_kcn, r_kagn, r_sn0, r_sn1, r_sn3, r_ca, r_ca1, ptd, keyOf, freshK, lk, pt, addO, xv, ↓reduceIte, Nat.reduceEqDiff, Nat.reduceMul, reduceCtorEq, List.length_nil, Nat.reduceLT, true_and, List.map_cons, List.map_nil, List.cons_append, List.nil_append, mens, men, noSh, noShs, impv, impvs, impc, or_true, Bool.false_eq_true, and_self]
  refine kca_intro (sem_spec_IsFiner x0 x1 x2 hs0_0 hs0_1 hs1_0 hs2_0) ?_
  simp only [r_cons, r_nil, r_kont, r_seq1, r_rg, r_sq, r_op1, r_go1, r_mv, r_op3, r_xt, r_xt1, r_kcn, r_sn0, r_sn1, r_ca, r_ca1, r_lt1, ptd, keyOf, freshK, lk, pt, addO, xv, ↓reduceIte, Nat.reduceEqDiff, Nat.reduceMul, reduceCtorEq, List.length_nil, Nat.reduceLT, true_and, List.map_cons, List.map_nil, List.cons_append, List.nil_append, List.getElem?_cons_zero, List.getElem?_cons_succ, mens, men, noSh, noShs, isSc, impv, impvs, or_true, and_self]
  refine kca_intro (sem_toControlS x0 hs0_0 hs0_1) ?_
  simp only [r_cons, r_nil, r_kont, r_seq1, r_rg, r_sq, r_op1, r_go1, r_mv, r_ld, r_ld4, r_kcn, r_kagn, r_sn0, r_sn1, r_sn3, r_ca, r_ca1, ptd, keyOf, freshK, lk, pt, addO, xv, ↓reduceIte, Nat.reduceEqDiff, Nat.reduceMul, reduceCtorEq, List.length_cons, List.length_nil, Nat.reduceAdd, Nat.reduceLT, true_and, List.map_cons, List.map_nil, List.cons_append, List.nil_append, List.take_succ_cons, List.take_zero, mens, men, noSh, impv, impc, or_true, Bool.false_eq_true, Nat.zero_add, Nat.le_refl, and_self]
  refine kca_intro (sem_toSorting x1 hs1_0) ?_
  simp only [oSorting, r_cons, r_nil, r_kont, r_seq1, r_rg, r_sq, r_op1, r_go1, r_al, r_pack, r_setOb, r_ld, r_ld4, r_kcn, r_kagn, r_sn0, r_sn1, r_sn3, r_ca, r_ca1, r_st, r_st1, r_stb, r_setAt0, r_setAt1, r_lows0, r_lows1, r_low1, zfill, zobs, ptd, keyOf, freshK, lk, pt, lkO, ptO, addO, xv, kc, ↓reduceIte, Nat.reduceEqDiff, Nat.reduceMul, reduceCtorEq, List.length_cons, List.length_nil, Nat.reduceAdd, Nat.reduceLT, true_and, List.map_cons, List.map_nil, List.cons_append, List.nil_append, List.take_succ_cons, List.take_zero, mens, men, noSh, noShs, impv, impvs, impc, or_true, Bool.false_eq_true, List.all_cons, List.all_nil, isCell, Bool.and_self, cellsOf, Nat.zero_add, Nat.add_zero, List.set_cons_zero, List.set_cons_succ, Nat.le_refl, and_self]
  refine kca_intro (sem_toSorting x2 hs2_0) ?_
  simp only [oSorting, r_cons, r_nil, r_kont, r_seq1, r_rg, r_sq, r_op1, r_go1, r_mv, r_al, r_pack, r_setOb, r_ld, r_labm, r_ld5, r_kcn, r_kagn, r_sn0, r_sn1, r_sn3, r_ca, r_ca1, r_st, r_st1, r_stb, r_setAt0, r_setAt1, r_lows0, r_lows1, r_low1, zfill, zobs, ptd, keyOf, freshK, lk, pt, lkO, ptO, addO, xv, kc, ↓reduceIte, Nat.reduceEqDiff, Nat.reduceMul, reduceCtorEq, List.length_cons, List.length_nil, Nat.reduceAdd, Nat.reduceLT, true_and, List.map_cons, List.map_nil, List.cons_append, List.nil_append, List.drop_zero, List.take_succ_cons, List.take_zero, mens, men, noSh, noShs, impv, impvs, impc, or_true, Bool.false_eq_true, List.all_cons, List.all_nil, isCell, Bool.and_self, cellsOf, Nat.zero_add, Nat.add_zero, List.set_cons_zero, List.set_cons_succ, Nat.le_refl, and_self]
  refine kca_intro (sem_impl_IsFiner x0 x1 x2 hs0_0 hs0_1 hs1_0 hs2_0) ?_
  simp only [bne_self_eq_false, r_cons, r_nil, r_kont, r_seq1, r_sk, r_rg, r_sq, r_cd, r_cd2, r_op1, r_op1g, r_gd, r_go1, r_mv, r_bi, r_neb, r_pk, r_pkf, r_op3, r_xt, r_xt1, r_kcn, r_sn0, r_sn1, r_ca, r_ca1, r_lt1, ptd, keyOf, freshK, lk, pt, addO, xv, kv, kc, ↓reduceIte, Nat.reduceEqDiff, Nat.reduceMul, reduceCtorEq, List.length_nil, Nat.reduceLT, true_and, List.map_cons, List.map_nil, List.cons_append, List.nil_append, List.getElem?_cons_zero, List.getElem?_cons_succ, mens, men, noSh, noShs, isSc, impv, impvs, or_true, Bool.false_eq_true, and_self]
  refine kca_intro (sem_toControlS x0 hs0_0 hs0_1) ?_
  simp only [r_cons, r_kont, r_op1, r_kcn, r_sn0, r_sn1, r_ca, r_ca1, ptd, keyOf, freshK, lk, pt, addO, xv, ↓reduceIte, Nat.reduceEqDiff, Nat.reduceMul, reduceCtorEq, List.length_nil, Nat.reduceLT, true_and, List.map_cons, List.map_nil, List.cons_append, List.nil_append, mens, men, noSh, impv, impc, or_true, Bool.false_eq_true, and_self]
  refine kca_intro (sem_eqControlS x0 x0 hb0_0 hb0_1) ?_
  simp only [r_cons, r_nil, r_kont, r_seq1, r_sk, r_rg, r_sq, r_cd, r_cd2, r_op1, r_go1, r_nt, r_nt1, r_pack, r_ld, r_ld4, r_labm, r_ld5, r_kcn, r_kagn, r_sn0, r_sn1, r_sn3, r_ca, r_ca1, ptd, keyOf, freshK, lk, pt, lkO, addO, xv, ↓reduceIte, Nat.reduceEqDiff, Nat.reduceMul, reduceCtorEq, List.length_cons, List.length_nil, Nat.reduceAdd, Nat.reduceLT, true_and, decide_true, List.map_cons, List.map_nil, List.cons_append, List.nil_append, List.drop_zero, List.take_succ_cons, List.take_zero, mens, men, noSh, isSc, impv, or_true, Bool.false_eq_true, Bool.not_true, Nat.zero_add, Nat.le_refl, and_self]
  refine kca_intro (sem_toSorting x1 hs1_0) ?_
  simp only [oSorting, r_cons, r_kont, r_op1, r_kcn, r_kagn, r_sn0, r_sn1, r_sn3, r_ca, r_ca1, ptd, keyOf, freshK, lk, pt, addO, xv, ↓reduceIte, Nat.reduceEqDiff, Nat.reduceMul, reduceCtorEq, List.length_nil, Nat.reduceLT, true_and, List.map_cons, List.map_nil, List.cons_append, List.nil_append, mens, men, noSh, noShs, impv, impvs, impc, or_true, Bool.false_eq_true, and_self]
  refine kca_intro (sem_eqSorting x1 x1 hb1_0) ?_
  simp only [r_cons, r_nil, r_kont, r_seq1, r_sk, r_rg, r_sq, r_cd, r_cd2, r_op1, r_go1, r_nt, r_nt1, r_pack, r_ld, r_ld4, r_labm, r_ld5, r_kcn, r_kagn, r_sn0, r_sn1, r_sn3, r_ca, r_ca1, ptd, keyOf, freshK, lk, pt, lkO, addO, xv, ↓reduceIte, Nat.reduceEqDiff, Nat.reduceMul, reduceCtorEq, List.length_cons, List.length_nil, Nat.reduceAdd, Nat.reduceLT, true_and, decide_true, List.map_cons, List.map_nil, List.cons_append, List.nil_append, List.drop_zero, List.take_succ_cons, List.take_zero, mens, men, noSh, isSc, impv, or_true, Bool.false_eq_true, Bool.not_true, Nat.zero_add, Nat.le_refl, and_self]
  refine kca_intro (sem_toSorting x2 hs2_0) ?_
  simp only [oSorting, r_cons, r_kont, r_op1, r_kcn, r_kagn, r_sn0, r_sn1, r_sn3, r_ca, r_ca1, ptd, keyOf, freshK, lk, pt, addO, xv, ↓reduceIte, Nat.reduceEqDiff, Nat.reduceMul, reduceCtorEq, List.length_nil, Nat.reduceLT, true_and, List.map_cons, List.map_nil, List.cons_append, List.nil_append, mens, men, noSh, noShs, impv, impvs, impc, or_true, Bool.false_eq_true, and_self]
  refine kca_intro (sem_eqSorting x2 x2 hb2_0) ?_
  simp only [r_cons, r_nil, r_kont, r_seq1, r_fn2, r_sk, r_rg, r_sq, r_rt, r_cd, r_cd2, r_op1, r_go1, r_mv, r_nt, r_nt1, r_fin, r_kfe1, r_kcx, r_exps0, r_exps1, r_kex, r_exp1, r_expv2, ptd, keyOf, freshK, lk, pt, addO, xv, kv, kc, ↓reduceIte, Nat.reduceEqDiff, Nat.reduceMul, reduceCtorEq, List.length_nil, Nat.reduceLT, decide_true, noSh, isSc, impv, or_true, Bool.false_eq_true, Bool.not_true, and_self]
end Go.Fd

/-
  FOUNDATION 52: numbers and strings as parameters of a law. Own work.
-/
namespace Go.Fd
open Go.RowKit Go.ChangeShapes Go.ChangeMaps Go.WideMaps
section
variable {H : Type} {enc : TypeId × Value → H} {P : Program} {w : World} {t : TypeId} {v : Value} {d : DataW H} {p : List MemPlace} {sp : Nat → Bool} {hd : Bool} {base : Nat}
end
end Go.Fd

/-
  WHAT THE LAWS' ARGUMENTS READ AS (printed by lawgen.py). Own work.
-/
namespace Go.Fd
set_option maxRecDepth 20000
theorem rd_9 : Reads Go.Proofs.Tryd.prog 9 (fun n : ByteArray => [ts n]) (fun n => n.size ≤ 9223372036854775807) := Reads_string Go.Proofs.Tryd.underlying9
theorem rd_3 : Reads Go.Proofs.Tryd.prog 3 (fun n : Int => [tv n]) (fits .i64) := Reads_int Go.Proofs.Tryd.underlying3
theorem rd_48 : Reads Go.Proofs.Tryd.prog 48 cControl (fun x => bdControl 9223372036854775807 x ∧ ftControl x) := Reads_mp (Reads_struct Go.Proofs.Tryd.underlying48 (show ReadsP Go.Proofs.Tryd.prog 0 [(0, 9), (1, 3), (2, 3)] _ _ from (ReadsP_cons (k := 1) (by kernel_rfl) (fun _ => rfl) rd_9 (ReadsP_cons (k := 1) (by kernel_rfl) (fun _ => rfl) rd_3 (ReadsP_cons (k := 1) (by kernel_rfl) (fun _ => rfl) rd_3 ReadsP_nil))))) (fun p => TControl.mk p.1 p.2.1 p.2.2.1) (fun _ => rfl) (fun x h => ⟨h.1, ⟨h.2.1, h.2.2.1⟩⟩)
theorem rd_22 : Reads Go.Proofs.Tryd.prog 22 (fun l : List TControl => [Tr.sl (l.map cControl)]) (fun l => l.length ≤ 9223372036854775807 ∧ ∀ x ∈ l, (fun x => bdControl 9223372036854775807 x ∧ ftControl x) x) := Reads_slice (k := 2) Go.Proofs.Tryd.underlying22 (by kernel_rfl) (fun _ => rfl) rd_48
theorem rd_24 : Reads Go.Proofs.Tryd.prog 24 (fun l : List Int => [Tr.sl (l.map (fun n : Int => [tv n]))]) (fun l => l.length ≤ 9223372036854775807 ∧ ∀ x ∈ l, (fits .i64) x) := Reads_slice (k := 0) Go.Proofs.Tryd.underlying24 (by kernel_rfl) (fun _ => rfl) rd_3
theorem rd_25 : Reads Go.Proofs.Tryd.prog 25 (fun l : List (List Int) => [Tr.sl (l.map (fun l : List Int => [Tr.sl (l.map (fun n : Int => [tv n]))]))]) (fun l => l.length ≤ 9223372036854775807 ∧ ∀ x ∈ l, (fun l => l.length ≤ 9223372036854775807 ∧ ∀ x ∈ l, (fits .i64) x) x) := Reads_slice (k := 0) Go.Proofs.Tryd.underlying25 (by kernel_rfl) (fun _ => rfl) rd_24
theorem rd_75 : Reads Go.Proofs.Tryd.prog 75 cA2 (fun x => fits .i64 x.1 ∧ fits .i64 x.2) := Reads_mp (Reads_array1 (k := 1) Go.Proofs.Tryd.underlying75 (by kernel_rfl) (show ReadsP Go.Proofs.Tryd.prog 0 [(0, 3), (1, 3)] _ _ from (ReadsP_cons (k := 1) (by kernel_rfl) (fun _ => rfl) rd_3 (ReadsP_cons (k := 1) (by kernel_rfl) (fun _ => rfl) rd_3 ReadsP_nil)))) (fun p => (p.1, p.2.1)) (fun _ => rfl) (fun x h => ⟨h.1, h.2.1⟩)
theorem rd_26 : Reads Go.Proofs.Tryd.prog 26 (fun l : List (Int × Int) => [Tr.sl (l.map cA2)]) (fun l => l.length ≤ 9223372036854775807 ∧ ∀ x ∈ l, (fun x => fits .i64 x.1 ∧ fits .i64 x.2) x) := Reads_slice (k := 1) Go.Proofs.Tryd.underlying26 (by kernel_rfl) (fun _ => rfl) rd_75
theorem rd_38 : Reads Go.Proofs.Tryd.prog 38 cSorting (fun x => bdSorting 9223372036854775807 x ∧ ftSorting x) := Reads_mp (Reads_struct Go.Proofs.Tryd.underlying38 (show ReadsP Go.Proofs.Tryd.prog 0 [(0, 24), (1, 25), (2, 25), (3, 24), (4, 26)] _ _ from (ReadsP_cons (k := 1) (by kernel_rfl) (fun _ => rfl) rd_24 (ReadsP_cons (k := 1) (by kernel_rfl) (fun _ => rfl) rd_25 (ReadsP_cons (k := 1) (by kernel_rfl) (fun _ => rfl) rd_25 (ReadsP_cons (k := 1) (by kernel_rfl) (fun _ => rfl) rd_24 (ReadsP_cons (k := 1) (by kernel_rfl) (fun _ => rfl) rd_26 ReadsP_nil))))))) (fun p => TSorting.mk p.1 p.2.1 p.2.2.1 p.2.2.2.1 p.2.2.2.2.1) (fun _ => rfl) (fun x h => ⟨⟨h.1.1, h.2.1.1, (fun y hy => (h.2.1.2 y hy).1), h.2.2.1.1, (fun y hy => (h.2.2.1.2 y hy).1), h.2.2.2.1.1, h.2.2.2.2.1.1⟩, ⟨(fun y hy => (h.1.2 y hy)), (fun y hy => (fun yy hyy => ((h.2.1.2 y hy).2 yy hyy))), (fun y hy => (fun yy hyy => ((h.2.2.1.2 y hy).2 yy hyy))), (fun y hy => (h.2.2.2.1.2 y hy)), (fun y hy => ⟨(h.2.2.2.2.1.2 y hy).1, (h.2.2.2.2.1.2 y hy).2⟩)⟩⟩)
end Go.Fd
