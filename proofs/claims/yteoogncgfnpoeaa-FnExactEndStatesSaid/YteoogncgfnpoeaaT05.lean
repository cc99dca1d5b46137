/-
  WHAT HOLDS OF THE HELPERS OF THE LAWS: to.. (printed by lawgen.py). Own work.
-/
import Derived.Test.YteoogncgfnpoeaaT04
import Derived.KernelRfl
namespace Go.Fd
set_option maxRecDepth 20000
theorem g_toIntS : chkF Go.Proofs.Try.prog fid_laws_toIntS (toS1 (.int .i64 0)) = true := by kernel_rfl
theorem sem_toIntS (a : (List Int)) (ha : a.length ≤ 4294967296) (lvl : Nat) (S : Sto) : Sem Go.Proofs.Try.prog fid_laws_toIntS lvl [.tr (.sl (rI a))] S (.ow 1 (rI a) true) S := sem_toI g_toIntS a ha lvl S
theorem sem_toNode (x : TNode) (hb : bdNode 4294967296 x) (lvl : Nat) (S : Sto) : Sem Go.Proofs.Try.prog fid_laws_toNode lvl [.ag ((cNode x).map .tr)] S (oNode x) S := by
  have b0 : x.links.length ≤ 4294967296 := hb
  refine sem_of_chk k_laws_toNode (by simp [oNode, low, men, mens]) ?_
  simp only [c_laws_toNode, cNode, zfill, zobs, List.map_cons, List.map_nil, r_setAt0, r_setAt1, List.set_cons_zero, List.set_cons_succ, r_cons, r_nil, r_kont, r_seq1, r_rg, r_sq, r_wpF, r_op1, r_go1, r_bt, r_bt1, r_al, r_op3, r_fa, r_fa1, r_fa2, r_pack, r_setOb, r_ltr, r_ld, r_ld1, r_kcn, r_sn0, r_sn1, r_ca, r_ca1, r_st, r_st1, r_stb, r_setAt0, r_setAt1, r_lows0, r_lows1, r_low1, zfill, zobs, ptd, keyOf, freshK, lk, pt, lkO, ptO, addO, xv, kc, params, ↓reduceIte, Nat.reduceEqDiff, Nat.reduceMul, reduceCtorEq, List.length_cons, List.length_nil, Nat.reduceAdd, Nat.reduceLeDiff, Nat.reduceLT, true_and, List.map_cons, List.map_nil, List.cons_append, List.nil_append, List.getElem?_cons_zero, List.drop_succ_cons, List.drop_zero, mens, men, List.all_cons, List.all_nil, isCell, Bool.and_true, Bool.true_and, Bool.and_self, cellsOf, totr, totrs, tocs, Nat.zero_add, Nat.add_zero, List.set_cons_zero, List.set_cons_succ, and_self]
  refine kca_intro (sem_toIntS x.links b0) ?_
  simp only [r_setAt0, r_setAt1, List.set_cons_zero, List.set_cons_succ, Prod.mk.injEq, r_cons, r_nil, r_kont, r_seq1, r_fn2, r_rg, r_sq, r_rt, r_op1, r_go1, r_fa, r_fa2, r_pack, r_setOb, r_kill, r_ld, r_labm, r_ld5, r_fin, r_kfe1, r_kcx, r_exps0, r_exps1, r_kex, r_exb1, r_exp2, r_exc, r_kagx, r_expv1, r_kxc, r_expcs0, r_expcs1, r_expc1, r_expc7, r_exh1, r_st, r_st1, r_stb, r_setAt0, r_setAt1, r_lows0, r_lows1, r_low1, r_low3, ptd, keyOf, freshK, lk, pt, lkO, ptO, addO, xv, ↓reduceIte, Nat.reduceEqDiff, Nat.reduceMul, reduceCtorEq, List.length_cons, List.length_nil, Nat.reduceAdd, Nat.reduceLT, true_and, and_true, List.drop_zero, List.take_succ_cons, List.take_zero, List.headD_cons, List.tail_cons, noSh, impv, impc, or_true, scrE, scrL, scr, scrs, scrOb, rmO, List.all_cons, List.all_nil, isCell, Bool.and_self, cellsOf, Nat.zero_add, Nat.add_zero, List.set_cons_zero, List.set_cons_succ, Nat.le_refl, Prod.mk.injEq, List.length_map, and_false, and_self]
  rfl
theorem sem_toNodeS (a : (List TNode)) (ha : a.length ≤ 4294967296) (hb : ∀ y ∈ a, bdNode 4294967296 y) (lvl : Nat) (S : Sto) : Sem Go.Proofs.Try.prog fid_laws_toNodeS lvl [.tr (.sl (a.map cNode))] S (.ow 3 (a.map cNode) true) S := by
  refine sem_of_chk k_laws_toNodeS trivial ?_
  simp only [c_laws_toNodeS, List.length_map, bigN, Int.natCast_nonneg, r_cons, r_nil, r_kont, r_seq1, r_rg, r_sq, r_bl, r_wpF, r_op1, r_go1, r_mv, r_ms, r_ms1, r_ln, r_ln1, r_lt1, bigN, ptd, keyOf, freshK, lk, pt, lkO, ptO, xv, kv, kc, params, trv, ↓reduceIte, Nat.reduceEqDiff, Nat.reduceMul, reduceCtorEq, List.length_cons, List.length_nil, Nat.reduceLeDiff, Nat.reduceLT, true_and, List.map_cons, List.map_nil, Int.toNat_natCast, Nat.zero_add, Int.natCast_nonneg, List.length_map, and_self, Int.cast_ofNat_Int]
  refine ⟨by omega, ?_⟩
  refine wp_count (α := Unit) a.length (fun j _ => ⟨lvl, [(0, .tr (.sl (a.map cNode))), (3, .hd (lvl, 224) [] 0 a.length none a.length), (4, iI j)], [(224, .ar 3 (filled cNode [tv 0, tv 0, .sl []] a j) true a.length (j * 1))], S⟩) (fun _ _ => True) () ⟨by simp only [r_clean, r_okm1, r_okm4, r_okE0, r_okE1, r_okL0, r_okL2, ↓reduceIte, Nat.reduceEqDiff, reduceCtorEq, memB, keepB, keepOB, Bool.false_eq_true, and_self], by (simp only [filled_zero, r_fgt, ↓reduceIte, Nat.reduceEqDiff, Nat.reduceMul, reduceCtorEq, memB, keepB, keepOB, Bool.false_eq_true, Int.cast_ofNat_Int]) <;> rfl⟩ trivial ?_
  intro j _ hj _
  simp only [List.length_map, r_cons, r_nil, r_kont, r_seq1, r_seq2, r_blk2, r_fn2, r_sk, r_rg, r_sq, r_bl, r_ex, r_rt, r_cd, r_cd2, r_op1, r_go1, r_mv, r_bi, r_lti, r_ln, r_ln1, r_ixn, r_ia, r_ia1, r_kill, r_fin, r_kfe1, r_kcx, r_exps0, r_exps1, r_kex, r_exp1, r_expv4, r_expc7, r_exh1, r_round2, r_lt1, ptd, lk, pt, lkO, xv, ↓reduceIte, Nat.reduceEqDiff, reduceCtorEq, Nat.reduceLT, true_and, and_true, decide_eq_true_eq, List.headD_cons, scrE, scrL, scr, rmO, Int.toNat_natCast, Int.natCast_nonneg, List.length_map]
  refine ite_of (fun hlt => ?_) (fun hge => ?_)
  · have hja : j < a.length := by omega
    have ga : (a.map cNode)[j]? = some (cNode a[j]) := by simp [hja]
    have gz : (filled cNode [tv 0, tv 0, .sl []] a j)[j]? = some [tv 0, tv 0, .sl []] := filled_get hja
    have hfl : (filled cNode [tv 0, tv 0, .sl []] a j).length = a.length := filled_length hj
    have hsem := fun lvl S => sem_toNode a[j] (hb a[j] (List.getElem_mem hja)) lvl S
    simp only [ga, Nat.le_refl, cNode, r_cons, r_kont, r_op1, r_go1, r_op3, r_iae, r_ld, r_ld4, r_kcn, r_kagn, r_sn0, r_sn1, r_sn3, r_ca, r_ca1, ptd, lk, pt, xv, ↓reduceIte, Nat.reduceEqDiff, reduceCtorEq, List.length_cons, List.length_nil, Nat.reduceAdd, Nat.reduceLT, true_and, List.map_cons, List.map_nil, List.cons_append, List.nil_append, List.take_succ_cons, List.take_zero, mens, men, Nat.zero_add, Nat.le_refl, and_self]
    refine kca_intro hsem ?_
    simp only [oNode, gz, Int.natCast_nonneg, hja, hfl, setp, List.getElem?_set_self, List.set_set, List.set_cons_zero, List.set_cons_succ, Prod.mk.injEq, ne_eq, not_false_eq_true, r_cons, r_nil, r_kont, r_seq1, r_blk1, r_rg, r_op1, r_go1, r_mv, r_bi, r_add0, r_op3, r_ixn, r_ia, r_rde, r_rd3, r_stamp0, r_iah, r_iah2, r_ia3, r_pack, r_setOb, r_kill, r_fgt, r_clean, r_okm1, r_okm4, r_okE0, r_okE1, r_okL0, r_okL2, r_round1, r_st, r_st2, r_kst, r_stcs0, r_stcs1, r_sc1, r_sc3, r_sc4, r_sc2, r_sc2c, r_sc5, r_lt1, ptd, keyOf, freshK, lk, pt, lkO, ptO, addO, xv, kv, kc, ↓reduceIte, Nat.reduceEqDiff, Nat.reduceMul, reduceCtorEq, List.length_cons, List.length_nil, Nat.reduceAdd, Nat.reduceLT, true_and, List.cons_append, List.nil_append, List.getElem?_cons_zero, List.getElem?_cons_succ, noSh, noShs, isSc, impv, impvs, impc, memB, keepB, keepOB, or_true, Bool.false_eq_true, scrE, scrL, scr, scrs, scrOb, rmO, Int.toNat_natCast, List.all_cons, List.all_nil, isCell, Bool.and_self, cellsOf, getp, Nat.zero_add, Nat.add_zero, List.set_cons_zero, List.set_cons_succ, Int.natCast_nonneg, Prod.mk.injEq, ne_eq, not_false_eq_true, List.length_map, and_false, and_self]
    refine ⟨by rw [fits_i64]; omega, cntJ_intro () hja ?_ trivial⟩
    have hse := filled_set (c := cNode) (z := [tv 0, tv 0, .sl []]) (e := [tv a[j].control, tv a[j].parent, .sl (rI a[j].links)]) hja rfl
    rw [hse, show (j + 1) * 1 = j * 1 + 1 from by omega]
    rfl
  · have : j = a.length := by omega
    subst this
    rw [filled_all]
    simp
theorem sem_toWire (x : TWire) (hb : bdWire 4294967296 x) (lvl : Nat) (S : Sto) : Sem Go.Proofs.Try.prog fid_laws_toWire lvl [.ag ((cWire x).map .tr)] S (oWire x) S := by
  have b0 : x.name.size ≤ 4294967296 := hb
  refine sem_of_chk k_laws_toWire (by simp [oWire, low, men, mens]) ?_
  simp only [c_laws_toWire, cWire, zfill, zobs, List.map_cons, List.map_nil, r_setAt0, r_setAt1, List.set_cons_zero, List.set_cons_succ, r_cons, r_nil, r_kont, r_seq1, r_fn2, r_rg, r_sq, r_rt, r_wpF, r_op1, r_go1, r_bt, r_bt1, r_al, r_op3, r_fa, r_fa1, r_fa2, r_pack, r_setOb, r_ltr, r_ld, r_ld1, r_labm, r_ld5, r_fin, r_kfe1, r_kcx, r_exps0, r_exps1, r_kex, r_exb1, r_exp2, r_exc, r_kagx, r_expv1, r_kxc, r_expcs0, r_expcs1, r_expc1, r_st, r_st1, r_stb, r_setAt0, r_setAt1, r_lows0, r_lows1, r_low1, zfill, zobs, ptd, keyOf, freshK, lk, pt, lkO, ptO, addO, xv, kc, params, ↓reduceIte, Nat.reduceEqDiff, Nat.reduceMul, reduceCtorEq, List.length_cons, List.length_nil, Nat.reduceAdd, Nat.reduceLeDiff, Nat.reduceLT, true_and, and_true, List.map_cons, List.map_nil, List.getElem?_cons_zero, List.drop_succ_cons, List.drop_zero, List.take_succ_cons, List.take_zero, List.headD_cons, List.tail_cons, List.all_cons, List.all_nil, isCell, Bool.and_self, cellsOf, totr, totrs, tocs, Nat.zero_add, Nat.add_zero, List.set_cons_zero, List.set_cons_succ, Nat.le_refl, and_self]
  rfl
theorem sem_toWireS (a : (List TWire)) (ha : a.length ≤ 4294967296) (hb : ∀ y ∈ a, bdWire 4294967296 y) (lvl : Nat) (S : Sto) : Sem Go.Proofs.Try.prog fid_laws_toWireS lvl [.tr (.sl (a.map cWire))] S (.ow 2 (a.map cWire) true) S := by
  refine sem_of_chk k_laws_toWireS trivial ?_
  simp only [c_laws_toWireS, List.length_map, bigN, Int.natCast_nonneg, r_cons, r_nil, r_kont, r_seq1, r_rg, r_sq, r_bl, r_wpF, r_op1, r_go1, r_mv, r_ms, r_ms1, r_ln, r_ln1, r_lt1, bigN, ptd, keyOf, freshK, lk, pt, lkO, ptO, xv, kv, kc, params, trv, ↓reduceIte, Nat.reduceEqDiff, Nat.reduceMul, reduceCtorEq, List.length_cons, List.length_nil, Nat.reduceLeDiff, Nat.reduceLT, true_and, List.map_cons, List.map_nil, Int.toNat_natCast, Nat.zero_add, Int.natCast_nonneg, List.length_map, and_self, Int.cast_ofNat_Int]
  refine ⟨by omega, ?_⟩
  refine wp_count (α := Unit) a.length (fun j _ => ⟨lvl, [(0, .tr (.sl (a.map cWire))), (3, .hd (lvl, 224) [] 0 a.length none a.length), (4, iI j)], [(224, .ar 2 (filled cWire [ts ⟨#[]⟩, tv 0] a j) true a.length (j * 0))], S⟩) (fun _ _ => True) () ⟨by simp only [r_clean, r_okm1, r_okm4, r_okE0, r_okE1, r_okL0, r_okL2, ↓reduceIte, Nat.reduceEqDiff, reduceCtorEq, memB, keepB, keepOB, Bool.false_eq_true, and_self], by (simp only [filled_zero, r_fgt, ↓reduceIte, Nat.reduceEqDiff, Nat.reduceMul, reduceCtorEq, memB, keepB, keepOB, Bool.false_eq_true, Int.cast_ofNat_Int]) <;> rfl⟩ trivial ?_
  intro j _ hj _
  simp only [List.length_map, r_cons, r_nil, r_kont, r_seq1, r_seq2, r_blk2, r_fn2, r_sk, r_rg, r_sq, r_bl, r_ex, r_rt, r_cd, r_cd2, r_op1, r_go1, r_mv, r_bi, r_lti, r_ln, r_ln1, r_ixn, r_ia, r_ia1, r_kill, r_fin, r_kfe1, r_kcx, r_exps0, r_exps1, r_kex, r_exp1, r_expv4, r_expc7, r_exh1, r_round2, r_lt1, ptd, lk, pt, lkO, xv, ↓reduceIte, Nat.reduceEqDiff, reduceCtorEq, Nat.reduceLT, true_and, and_true, decide_eq_true_eq, List.headD_cons, scrE, scrL, scr, rmO, Int.toNat_natCast, Int.natCast_nonneg, List.length_map]
  refine ite_of (fun hlt => ?_) (fun hge => ?_)
  · have hja : j < a.length := by omega
    have ga : (a.map cWire)[j]? = some (cWire a[j]) := by simp [hja]
    have gz : (filled cWire [ts ⟨#[]⟩, tv 0] a j)[j]? = some [ts ⟨#[]⟩, tv 0] := filled_get hja
    have hfl : (filled cWire [ts ⟨#[]⟩, tv 0] a j).length = a.length := filled_length hj
    have hsem := fun lvl S => sem_toWire a[j] (hb a[j] (List.getElem_mem hja)) lvl S
    simp only [ga, Nat.le_refl, cWire, r_cons, r_kont, r_op1, r_go1, r_op3, r_iae, r_ld, r_ld4, r_kcn, r_kagn, r_sn0, r_sn1, r_sn3, r_ca, r_ca1, ptd, lk, pt, xv, ↓reduceIte, Nat.reduceEqDiff, reduceCtorEq, List.length_cons, List.length_nil, Nat.reduceAdd, Nat.reduceLT, true_and, List.map_cons, List.map_nil, List.cons_append, List.nil_append, List.take_succ_cons, List.take_zero, mens, men, Nat.zero_add, Nat.le_refl, and_self]
    refine kca_intro hsem ?_
    simp only [oWire, gz, Int.natCast_nonneg, hja, hfl, setp, List.getElem?_set_self, List.set_set, List.set_cons_zero, List.set_cons_succ, r_cons, r_nil, r_kont, r_seq1, r_blk1, r_rg, r_op1, r_go1, r_mv, r_bi, r_add0, r_op3, r_ixn, r_ia, r_rde, r_rd3, r_stamp0, r_iah, r_iah2, r_ia3, r_pack, r_setOb, r_fgt, r_clean, r_okm1, r_okm4, r_okE0, r_okE1, r_okL0, r_okL2, r_round1, r_st, r_st2, r_kst, r_stcs0, r_stcs1, r_sc1, r_sc3, r_sc4, r_sc2, r_lt1, ptd, keyOf, freshK, lk, pt, lkO, ptO, addO, xv, kv, kc, ↓reduceIte, Nat.reduceEqDiff, Nat.reduceMul, reduceCtorEq, List.length_cons, List.length_nil, Nat.reduceAdd, Nat.reduceLT, true_and, List.nil_append, List.getElem?_cons_zero, List.getElem?_cons_succ, noSh, noShs, isSc, impv, impvs, memB, keepB, keepOB, or_true, Bool.false_eq_true, Int.toNat_natCast, List.all_cons, List.all_nil, isCell, Bool.and_self, cellsOf, getp, Nat.zero_add, List.set_cons_zero, List.set_cons_succ, Int.natCast_nonneg, and_self]
    refine ⟨by rw [fits_i64]; omega, cntJ_intro () hja ?_ trivial⟩
    have hse := filled_set (c := cWire) (z := [ts ⟨#[]⟩, tv 0]) (e := [ts a[j].name, tv a[j].link]) hja rfl
    rw [hse, show (j + 1) * 0 = j * 0 from by omega]
    rfl
  · have : j = a.length := by omega
    subst this
    rw [filled_all]
    simp
theorem g_toStringS : chkF Go.Proofs.Try.prog fid_laws_toStringS (toS1 (.string ⟨#[]⟩)) = true := by kernel_rfl
theorem sem_toStringS (a : (List ByteArray)) (ha : a.length ≤ 4294967296) (lvl : Nat) (S : Sto) : Sem Go.Proofs.Try.prog fid_laws_toStringS lvl [.tr (.sl (rS a))] S (.ow 1 (rS a) true) S := sem_toS g_toStringS a ha lvl S
theorem sem_toBigraph (x : TBigraph) (hb : bdBigraph 4294967296 x) (lvl : Nat) (S : Sto) : Sem Go.Proofs.Try.prog fid_laws_toBigraph lvl [.ag ((cBigraph x).map .tr)] S (oBigraph x) S := by
  obtain ⟨b0, b1, b2, b3, b4, b5, b6⟩ := hb
  refine sem_of_chk k_laws_toBigraph (by simp [oBigraph, low, men, mens]) ?_
  simp only [c_laws_toBigraph, cBigraph, zfill, zobs, List.map_cons, List.map_nil, r_setAt0, r_setAt1, List.set_cons_zero, r_cons, r_nil, r_kont, r_seq1, r_rg, r_sq, r_wpF, r_op1, r_go1, r_bt, r_bt1, r_al, r_op3, r_fa, r_fa1, r_fa2, r_pack, r_setOb, r_ltr, r_ld, r_ld1, r_kcn, r_sn0, r_sn1, r_ca, r_ca1, r_st, r_st1, r_stb, r_setAt0, r_setAt1, r_lows0, r_lows1, r_low1, zfill, zobs, ptd, keyOf, freshK, lk, pt, lkO, ptO, addO, xv, kc, params, ↓reduceIte, Nat.reduceEqDiff, Nat.reduceMul, reduceCtorEq, List.length_cons, List.length_nil, Nat.reduceAdd, Nat.reduceLeDiff, Nat.reduceLT, true_and, List.map_cons, List.map_nil, List.cons_append, List.nil_append, List.getElem?_cons_zero, List.drop_succ_cons, List.drop_zero, mens, men, List.all_cons, List.all_nil, isCell, Bool.and_true, Bool.true_and, Bool.and_self, cellsOf, totr, totrs, tocs, Nat.zero_add, Nat.add_zero, List.set_cons_zero, and_self]
  refine kca_intro (sem_toNodeS x.nodes b0 b1) ?_
  simp only [r_setAt0, r_setAt1, List.set_cons_zero, List.set_cons_succ, r_cons, r_nil, r_kont, r_seq1, r_rg, r_sq, r_op1, r_go1, r_op3, r_fa, r_fa1, r_fa2, r_pack, r_setOb, r_ltr, r_ld, r_ld1, r_kcn, r_sn0, r_sn1, r_ca, r_ca1, r_st, r_st1, r_stb, r_setAt0, r_setAt1, r_lows0, r_lows1, r_low3, ptd, keyOf, freshK, lk, pt, lkO, ptO, addO, xv, ↓reduceIte, Nat.reduceEqDiff, Nat.reduceMul, reduceCtorEq, List.length_cons, List.length_nil, Nat.reduceAdd, Nat.reduceLeDiff, Nat.reduceLT, true_and, List.map_cons, List.map_nil, List.cons_append, List.nil_append, List.getElem?_cons_zero, List.drop_succ_cons, List.drop_zero, mens, men, noSh, impv, impc, or_true, isCell, cellsOf, Nat.zero_add, Nat.add_zero, List.set_cons_zero, List.set_cons_succ, List.length_map, and_self]
  refine kca_intro (sem_toIntS x.sites b2) ?_
  simp only [r_setAt0, r_setAt1, List.set_cons_zero, List.set_cons_succ, r_cons, r_nil, r_kont, r_seq1, r_rg, r_sq, r_op1, r_go1, r_op3, r_fa, r_fa1, r_fa2, r_pack, r_setOb, r_ltr, r_ld, r_ld1, r_kcn, r_sn0, r_sn1, r_ca, r_ca1, r_st, r_st1, r_stb, r_setAt0, r_setAt1, r_lows0, r_lows1, r_low1, r_low3, ptd, keyOf, freshK, lk, pt, lkO, ptO, addO, xv, ↓reduceIte, Nat.reduceEqDiff, Nat.reduceMul, reduceCtorEq, List.length_cons, List.length_nil, Nat.reduceAdd, Nat.reduceLeDiff, Nat.reduceLT, true_and, List.map_cons, List.map_nil, List.cons_append, List.nil_append, List.getElem?_cons_zero, List.drop_succ_cons, List.drop_zero, mens, men, noSh, impv, impc, or_true, isCell, cellsOf, Nat.zero_add, Nat.add_zero, List.set_cons_zero, List.set_cons_succ, List.length_map, and_self]
  refine kca_intro (sem_toStringS x.outer b3) ?_
  simp only [r_setAt0, r_setAt1, List.set_cons_zero, List.set_cons_succ, r_cons, r_nil, r_kont, r_seq1, r_rg, r_sq, r_op1, r_go1, r_op3, r_fa, r_fa1, r_fa2, r_pack, r_setOb, r_ltr, r_ld, r_ld1, r_kcn, r_sn0, r_sn1, r_ca, r_ca1, r_st, r_st1, r_stb, r_setAt0, r_setAt1, r_lows0, r_lows1, r_low3, ptd, keyOf, freshK, lk, pt, lkO, ptO, addO, xv, ↓reduceIte, Nat.reduceEqDiff, Nat.reduceMul, reduceCtorEq, List.length_cons, List.length_nil, Nat.reduceAdd, Nat.reduceLeDiff, Nat.reduceLT, true_and, List.map_cons, List.map_nil, List.cons_append, List.nil_append, List.getElem?_cons_zero, List.drop_succ_cons, List.drop_zero, mens, men, noSh, impv, impc, or_true, isCell, cellsOf, Nat.zero_add, Nat.add_zero, List.set_cons_zero, List.set_cons_succ, List.length_map, and_self]
  refine kca_intro (sem_toWireS x.inner b5 b6) ?_
  simp only [r_setAt0, r_setAt1, List.set_cons_zero, List.set_cons_succ, Prod.mk.injEq, r_cons, r_nil, r_kont, r_seq1, r_fn2, r_rg, r_sq, r_rt, r_op1, r_go1, r_fa, r_fa2, r_pack, r_setOb, r_kill, r_ld, r_labm, r_ld5, r_fin, r_kfe1, r_kcx, r_exps0, r_exps1, r_kex, r_exb1, r_exp2, r_exc, r_kagx, r_expv1, r_kxc, r_expcs0, r_expcs1, r_expc1, r_expc7, r_exh1, r_st, r_st1, r_stb, r_setAt0, r_setAt1, r_lows0, r_lows1, r_low1, r_low3, ptd, keyOf, freshK, lk, pt, lkO, ptO, addO, xv, ↓reduceIte, Nat.reduceEqDiff, Nat.reduceMul, reduceCtorEq, List.length_cons, List.length_nil, Nat.reduceAdd, Nat.reduceLT, true_and, and_true, List.drop_zero, List.take_succ_cons, List.take_zero, List.headD_cons, List.tail_cons, noSh, impv, impc, or_true, scrE, scrL, scr, scrs, scrOb, rmO, List.all_cons, List.all_nil, isCell, Bool.and_self, cellsOf, Nat.zero_add, Nat.add_zero, List.set_cons_zero, List.set_cons_succ, Nat.le_refl, Prod.mk.injEq, List.length_map, and_false, and_self]
  rfl
theorem sem_toBigraphS (a : (List TBigraph)) (ha : a.length ≤ 4294967296) (hb : ∀ y ∈ a, bdBigraph 4294967296 y) (lvl : Nat) (S : Sto) : Sem Go.Proofs.Try.prog fid_laws_toBigraphS lvl [.tr (.sl (a.map cBigraph))] S (.ow 6 (a.map cBigraph) true) S := by
  refine sem_of_chk k_laws_toBigraphS trivial ?_
  simp only [c_laws_toBigraphS, List.length_map, bigN, Int.natCast_nonneg, r_cons, r_nil, r_kont, r_seq1, r_rg, r_sq, r_bl, r_wpF, r_op1, r_go1, r_mv, r_ms, r_ms1, r_ln, r_ln1, r_lt1, bigN, ptd, keyOf, freshK, lk, pt, lkO, ptO, xv, kv, kc, params, trv, ↓reduceIte, Nat.reduceEqDiff, Nat.reduceMul, reduceCtorEq, List.length_cons, List.length_nil, Nat.reduceLeDiff, Nat.reduceLT, true_and, List.map_cons, List.map_nil, Int.toNat_natCast, Nat.zero_add, Int.natCast_nonneg, List.length_map, and_self, Int.cast_ofNat_Int]
  refine ⟨by omega, ?_⟩
  refine wp_count (α := Unit) a.length (fun j _ => ⟨lvl, [(0, .tr (.sl (a.map cBigraph))), (3, .hd (lvl, 224) [] 0 a.length none a.length), (4, iI j)], [(224, .ar 6 (filled cBigraph [tv 0, .sl [], .sl [], tv 0, .sl [], .sl []] a j) true a.length (j * 4))], S⟩) (fun _ _ => True) () ⟨by simp only [r_clean, r_okm1, r_okm4, r_okE0, r_okE1, r_okL0, r_okL2, ↓reduceIte, Nat.reduceEqDiff, reduceCtorEq, memB, keepB, keepOB, Bool.false_eq_true, and_self], by (simp only [filled_zero, r_fgt, ↓reduceIte, Nat.reduceEqDiff, Nat.reduceMul, reduceCtorEq, memB, keepB, keepOB, Bool.false_eq_true, Int.cast_ofNat_Int]) <;> rfl⟩ trivial ?_
  intro j _ hj _
  simp only [List.length_map, r_cons, r_nil, r_kont, r_seq1, r_seq2, r_blk2, r_fn2, r_sk, r_rg, r_sq, r_bl, r_ex, r_rt, r_cd, r_cd2, r_op1, r_go1, r_mv, r_bi, r_lti, r_ln, r_ln1, r_ixn, r_ia, r_ia1, r_kill, r_fin, r_kfe1, r_kcx, r_exps0, r_exps1, r_kex, r_exp1, r_expv4, r_expc7, r_exh1, r_round2, r_lt1, ptd, lk, pt, lkO, xv, ↓reduceIte, Nat.reduceEqDiff, reduceCtorEq, Nat.reduceLT, true_and, and_true, decide_eq_true_eq, List.headD_cons, scrE, scrL, scr, rmO, Int.toNat_natCast, Int.natCast_nonneg, List.length_map]
  refine ite_of (fun hlt => ?_) (fun hge => ?_)
  · have hja : j < a.length := by omega
    have ga : (a.map cBigraph)[j]? = some (cBigraph a[j]) := by simp [hja]
    have gz : (filled cBigraph [tv 0, .sl [], .sl [], tv 0, .sl [], .sl []] a j)[j]? = some [tv 0, .sl [], .sl [], tv 0, .sl [], .sl []] := filled_get hja
    have hfl : (filled cBigraph [tv 0, .sl [], .sl [], tv 0, .sl [], .sl []] a j).length = a.length := filled_length hj
    have hsem := fun lvl S => sem_toBigraph a[j] (hb a[j] (List.getElem_mem hja)) lvl S
    simp only [ga, Nat.le_refl, cBigraph, r_cons, r_kont, r_op1, r_go1, r_op3, r_iae, r_ld, r_ld4, r_kcn, r_kagn, r_sn0, r_sn1, r_sn3, r_ca, r_ca1, ptd, lk, pt, xv, ↓reduceIte, Nat.reduceEqDiff, reduceCtorEq, List.length_cons, List.length_nil, Nat.reduceAdd, Nat.reduceLT, true_and, List.map_cons, List.map_nil, List.cons_append, List.nil_append, List.take_succ_cons, List.take_zero, mens, men, Nat.zero_add, Nat.le_refl, and_self]
    refine kca_intro hsem ?_
    simp only [oBigraph, gz, Int.natCast_nonneg, hja, hfl, setp, List.getElem?_set_self, List.set_set, List.set_cons_zero, List.set_cons_succ, Prod.mk.injEq, ne_eq, not_false_eq_true, r_cons, r_nil, r_kont, r_seq1, r_blk1, r_rg, r_op1, r_go1, r_mv, r_bi, r_add0, r_op3, r_ixn, r_ia, r_rde, r_rd3, r_stamp0, r_iah, r_iah2, r_ia3, r_pack, r_setOb, r_kill, r_fgt, r_clean, r_okm1, r_okm4, r_okE0, r_okE1, r_okL0, r_okL2, r_round1, r_st, r_st2, r_kst, r_stcs0, r_stcs1, r_sc1, r_sc3, r_sc4, r_sc2, r_sc2c, r_sc5, r_lt1, ptd, keyOf, freshK, lk, pt, lkO, ptO, addO, xv, kv, kc, ↓reduceIte, Nat.reduceEqDiff, Nat.reduceMul, reduceCtorEq, List.length_cons, List.length_nil, Nat.reduceAdd, Nat.reduceLT, true_and, List.cons_append, List.nil_append, List.getElem?_cons_zero, List.getElem?_cons_succ, noSh, noShs, isSc, impv, impvs, impc, memB, keepB, keepOB, or_true, Bool.false_eq_true, scrE, scrL, scr, scrs, scrOb, rmO, Int.toNat_natCast, List.all_cons, List.all_nil, isCell, Bool.and_self, cellsOf, getp, Nat.zero_add, Nat.add_zero, List.set_cons_zero, List.set_cons_succ, Int.natCast_nonneg, Prod.mk.injEq, ne_eq, not_false_eq_true, List.length_map, and_false, and_self]
    refine ⟨by rw [fits_i64]; omega, cntJ_intro () hja ?_ trivial⟩
    have hse := filled_set (c := cBigraph) (z := [tv 0, .sl [], .sl [], tv 0, .sl [], .sl []]) (e := [tv a[j].roots, .sl ((a[j].nodes).map cNode), .sl (rI a[j].sites), tv a[j].edges, .sl (rS a[j].outer), .sl ((a[j].inner).map cWire)]) hja rfl
    rw [hse, show (j + 1) * 4 = j * 4 + 1 + 1 + 1 + 1 from by omega]
    rfl
  · have : j = a.length := by omega
    subst this
    rw [filled_all]
    simp
def oA3 (x : (Int × Int × Int)) : IV := .ag [iI x.1, iI x.2.1, iI x.2.2]
theorem sem_toIntA3 (x : (Int × Int × Int)) (lvl : Nat) (S : Sto) : Sem Go.Proofs.Try.prog fid_laws_toIntA3 lvl [.ag ((cA3 x).map .tr)] S (oA3 x) S := by
  refine sem_of_chk k_laws_toIntA3 (by simp [oA3, low, men, mens]) ?_
  simp only [c_laws_toIntA3, cA3, zfill, zobs, List.map_cons, List.map_nil, r_cons, r_nil, r_kont, r_seq1, r_rg, r_sq, r_bl, r_wpF, r_op1, r_mv, r_bt, r_bt1, r_al, zfill, zobs, ptd, keyOf, freshK, lk, pt, lkO, ptO, addO, xv, kv, kc, params, ↓reduceIte, Nat.reduceEqDiff, Nat.reduceMul, reduceCtorEq, List.length_cons, List.length_nil, Nat.reduceAdd, Nat.reduceLeDiff, Nat.reduceLT, true_and, List.map_cons, List.map_nil, List.all_cons, List.all_nil, isCell, Bool.and_self, cellsOf, totr, totrs, tocs, Nat.zero_add, Nat.add_zero, and_self]
  refine wp_count (α := Unit) 3 (fun j _ => ⟨lvl, [(1, .ta (cA3 x)), (2, .ab (lvl, 64) 0), (3, .ab (lvl, 96) 0), (4, iI j)], [(64, .bx [iI 0, iI 0, iI 0]), (96, .bx ([iI x.1, iI x.2.1, iI x.2.2].take j ++ [iI 0, iI 0, iI 0].drop j))], S⟩) (fun _ _ => True) () ⟨by simp only [r_clean, r_okm2, r_okm4, r_okm11, r_okms0, r_okms1, r_okE0, r_okE1, r_okL0, r_okL1, ↓reduceIte, Nat.reduceEqDiff, reduceCtorEq, memB, keepB, keepOB, Bool.false_eq_true, and_self], by (simp only [r_fgt, ↓reduceIte, Nat.reduceEqDiff, reduceCtorEq, List.nil_append, List.drop_zero, List.take_zero, memB, keepB, keepOB, Bool.false_eq_true, Int.cast_ofNat_Int]) <;> rfl⟩ trivial ?_
  intro j _ hj _
  have hc : j = 0 ∨ j = 1 ∨ j = 2 ∨ j = 3 := by omega
  rcases hc with rfl | rfl | rfl | rfl
  · simp only [cA3, Int.cast_ofNat_Int, Nat.mul_one, r_setAt0, r_setAt1, List.set_cons_zero, r_cons, r_nil, r_kont, r_seq1, r_blk1, r_sk, r_rg, r_sq, r_bl, r_cd, r_cd2, r_op1, r_go1, r_mv, r_bi, r_add0, r_lti, r_op3, r_ixn, r_ja, r_ja1, r_ja2, r_pack, r_setOb, r_ltr, r_ld, r_ld1, r_fgt, r_clean, r_okm2, r_okm4, r_okm11, r_okms0, r_okms1, r_okE0, r_okE1, r_okL0, r_okL1, r_round1, r_st, r_st1, r_stb, r_setAt0, r_setAt1, r_lows0, r_lows1, r_low1, r_lt1, ptd, lk, pt, lkO, ptO, xv, kv, kc, ↓reduceIte, Nat.reduceEqDiff, List.length_cons, List.length_nil, Nat.reduceAdd, Nat.reduceSub, Nat.reduceLeDiff, Nat.reduceLT, true_and, decide_true, List.nil_append, List.getElem?_cons_zero, List.drop_zero, List.take_zero, memB, keepB, keepOB, Bool.false_eq_true, Int.toNat_zero, Int.reduceLE, Int.reduceLT, isCell, cellsOf, Nat.zero_add, Nat.add_zero, List.set_cons_zero, and_self, Int.cast_ofNat_Int]
    exact ⟨by rw [fits_i64]; omega, cntJ_intro (N := 3) (k := 0) () (by omega) rfl trivial⟩
  · simp only [cA3, Int.cast_ofNat_Int, Nat.mul_one, r_setAt0, r_setAt1, List.set_cons_zero, List.set_cons_succ, r_cons, r_nil, r_kont, r_seq1, r_blk1, r_sk, r_rg, r_sq, r_bl, r_cd, r_cd2, r_op1, r_go1, r_mv, r_bi, r_add0, r_lti, r_op3, r_ixn, r_ja, r_ja1, r_ja2, r_pack, r_setOb, r_ltr, r_ld, r_ld1, r_fgt, r_clean, r_okm2, r_okm4, r_okm11, r_okms0, r_okms1, r_okE0, r_okE1, r_okL0, r_okL1, r_round1, r_st, r_st1, r_stb, r_setAt0, r_setAt1, r_lows0, r_lows1, r_low1, r_lt1, ptd, lk, pt, lkO, ptO, xv, kv, kc, ↓reduceIte, Nat.reduceEqDiff, List.length_cons, List.length_nil, Nat.reduceAdd, Nat.reduceSub, Nat.reduceLeDiff, Nat.reduceLT, true_and, decide_true, List.cons_append, List.nil_append, List.getElem?_cons_zero, List.drop_succ_cons, List.drop_zero, List.take_succ_cons, List.take_zero, memB, keepB, keepOB, Bool.false_eq_true, Int.toNat_one, Int.reduceLE, Int.reduceLT, isCell, cellsOf, Nat.zero_add, List.set_cons_zero, List.set_cons_succ, and_self, Int.cast_ofNat_Int]
    exact ⟨by rw [fits_i64]; omega, cntJ_intro (N := 3) (k := 1) () (by omega) rfl trivial⟩
  · simp only [cA3, Int.cast_ofNat_Int, Nat.mul_one, r_setAt0, r_setAt1, List.set_cons_zero, List.set_cons_succ, r_cons, r_nil, r_kont, r_seq1, r_blk1, r_sk, r_rg, r_sq, r_bl, r_cd, r_cd2, r_op1, r_go1, r_mv, r_bi, r_add0, r_lti, r_op3, r_ixn, r_ja, r_ja1, r_ja2, r_pack, r_setOb, r_ltr, r_ld, r_ld1, r_fgt, r_clean, r_okm2, r_okm4, r_okm11, r_okms0, r_okms1, r_okE0, r_okE1, r_okL0, r_okL1, r_round1, r_st, r_st1, r_stb, r_setAt0, r_setAt1, r_lows0, r_lows1, r_low1, r_lt1, ptd, lk, pt, lkO, ptO, xv, kv, kc, ↓reduceIte, Nat.reduceEqDiff, List.length_cons, List.length_nil, Nat.reduceAdd, Nat.reduceSub, Nat.reduceLT, true_and, decide_true, List.cons_append, List.nil_append, List.getElem?_cons_zero, List.drop_succ_cons, List.drop_zero, List.take_succ_cons, List.take_zero, memB, keepB, keepOB, Bool.false_eq_true, Int.reduceToNat, Int.reduceLE, Int.reduceLT, isCell, cellsOf, Nat.zero_add, List.set_cons_zero, List.set_cons_succ, Nat.le_refl, and_self, Int.cast_ofNat_Int]
    exact ⟨by rw [fits_i64]; omega, cntJ_intro (N := 3) (k := 2) () (by omega) rfl trivial⟩
  · simp only [cA3, Int.cast_ofNat_Int, r_setAt0, r_setAt1, List.set_cons_zero, List.set_cons_succ, r_cons, r_nil, r_kont, r_seq1, r_seq2, r_blk2, r_fn2, r_rg, r_sq, r_ex, r_rt, r_cd, r_cd2, r_op1, r_go1, r_mv, r_bi, r_lti, r_pack, r_setOb, r_ld, r_labm, r_ld5, r_fin, r_kfe1, r_kcx, r_exps0, r_exps1, r_kex, r_exb1, r_exp2, r_exc, r_kagx, r_expv1, r_kxc, r_expcs0, r_expcs1, r_expc1, r_round2, r_st, r_st1, r_stb, r_setAt0, r_setAt1, r_lows0, r_lows1, r_low1, ptd, lk, pt, lkO, ptO, xv, kv, kc, ↓reduceIte, Nat.reduceEqDiff, List.length_cons, List.length_nil, Nat.reduceAdd, Nat.reduceSub, Nat.reduceLT, true_and, and_true, decide_false, List.cons_append, List.nil_append, List.drop_succ_cons, List.drop_zero, List.take_succ_cons, List.take_zero, List.headD_cons, List.tail_cons, Bool.false_eq_true, Int.reduceLT, List.all_cons, List.all_nil, isCell, Bool.and_self, cellsOf, Nat.zero_add, List.set_cons_zero, List.set_cons_succ, Nat.le_refl, and_self, Int.cast_ofNat_Int]
    rfl
theorem sem_toIntA3S (a : (List (Int × Int × Int))) (ha : a.length ≤ 4294967296) (lvl : Nat) (S : Sto) : Sem Go.Proofs.Try.prog fid_laws_toIntA3S lvl [.tr (.sl (a.map cA3))] S (.ow 3 (a.map cA3) true) S := by
  refine sem_of_chk k_laws_toIntA3S trivial ?_
  simp only [c_laws_toIntA3S, List.length_map, bigN, Int.natCast_nonneg, r_cons, r_nil, r_kont, r_seq1, r_rg, r_sq, r_bl, r_wpF, r_op1, r_go1, r_mv, r_ms, r_ms1, r_ln, r_ln1, r_lt1, bigN, ptd, keyOf, freshK, lk, pt, lkO, ptO, xv, kv, kc, params, trv, ↓reduceIte, Nat.reduceEqDiff, Nat.reduceMul, reduceCtorEq, List.length_cons, List.length_nil, Nat.reduceLeDiff, Nat.reduceLT, true_and, List.map_cons, List.map_nil, Int.toNat_natCast, Nat.zero_add, Int.natCast_nonneg, List.length_map, and_self, Int.cast_ofNat_Int]
  refine ⟨by omega, ?_⟩
  refine wp_count (α := Unit) a.length (fun j _ => ⟨lvl, [(0, .tr (.sl (a.map cA3))), (3, .hd (lvl, 224) [] 0 a.length none a.length), (4, iI j)], [(224, .ar 3 (filled cA3 [tv 0, tv 0, tv 0] a j) true a.length (j * 0))], S⟩) (fun _ _ => True) () ⟨by simp only [r_clean, r_okm1, r_okm4, r_okE0, r_okE1, r_okL0, r_okL2, ↓reduceIte, Nat.reduceEqDiff, reduceCtorEq, memB, keepB, keepOB, Bool.false_eq_true, and_self], by (simp only [filled_zero, r_fgt, ↓reduceIte, Nat.reduceEqDiff, Nat.reduceMul, reduceCtorEq, memB, keepB, keepOB, Bool.false_eq_true, Int.cast_ofNat_Int]) <;> rfl⟩ trivial ?_
  intro j _ hj _
  simp only [List.length_map, r_cons, r_nil, r_kont, r_seq1, r_seq2, r_blk2, r_fn2, r_sk, r_rg, r_sq, r_bl, r_ex, r_rt, r_cd, r_cd2, r_op1, r_go1, r_mv, r_bi, r_lti, r_ln, r_ln1, r_ixn, r_ia, r_ia1, r_kill, r_fin, r_kfe1, r_kcx, r_exps0, r_exps1, r_kex, r_exp1, r_expv4, r_expc7, r_exh1, r_round2, r_lt1, ptd, lk, pt, lkO, xv, ↓reduceIte, Nat.reduceEqDiff, reduceCtorEq, Nat.reduceLT, true_and, and_true, decide_eq_true_eq, List.headD_cons, scrE, scrL, scr, rmO, Int.toNat_natCast, Int.natCast_nonneg, List.length_map]
  refine ite_of (fun hlt => ?_) (fun hge => ?_)
  · have hja : j < a.length := by omega
    have ga : (a.map cA3)[j]? = some (cA3 a[j]) := by simp [hja]
    have gz : (filled cA3 [tv 0, tv 0, tv 0] a j)[j]? = some [tv 0, tv 0, tv 0] := filled_get hja
    have hfl : (filled cA3 [tv 0, tv 0, tv 0] a j).length = a.length := filled_length hj
    have hsem := fun lvl S => sem_toIntA3 a[j] lvl S
    simp only [ga, Nat.le_refl, cA3, r_cons, r_kont, r_op1, r_go1, r_op3, r_iae, r_ld, r_ld4, r_kcn, r_kagn, r_sn0, r_sn1, r_sn3, r_ca, r_ca1, ptd, lk, pt, xv, ↓reduceIte, Nat.reduceEqDiff, reduceCtorEq, List.length_cons, List.length_nil, Nat.reduceAdd, Nat.reduceLT, true_and, List.map_cons, List.map_nil, List.cons_append, List.nil_append, List.take_succ_cons, List.take_zero, mens, men, Nat.zero_add, Nat.le_refl, and_self]
    refine kca_intro hsem ?_
    simp only [oA3, gz, Int.natCast_nonneg, hja, hfl, setp, List.getElem?_set_self, List.set_set, List.set_cons_zero, List.set_cons_succ, r_cons, r_nil, r_kont, r_seq1, r_blk1, r_rg, r_op1, r_go1, r_mv, r_bi, r_add0, r_op3, r_ixn, r_ia, r_rde, r_rd3, r_stamp0, r_iah, r_iah2, r_ia3, r_pack, r_setOb, r_fgt, r_clean, r_okm1, r_okm4, r_okE0, r_okE1, r_okL0, r_okL2, r_round1, r_st, r_st2, r_kst, r_stcs0, r_stcs1, r_sc1, r_sc3, r_sc4, r_sc2, r_lt1, ptd, keyOf, freshK, lk, pt, lkO, ptO, addO, xv, kv, kc, ↓reduceIte, Nat.reduceEqDiff, Nat.reduceMul, reduceCtorEq, List.length_cons, List.length_nil, Nat.reduceAdd, Nat.reduceLT, true_and, List.nil_append, List.getElem?_cons_zero, List.getElem?_cons_succ, noSh, noShs, isSc, impv, impvs, memB, keepB, keepOB, or_true, Bool.false_eq_true, Int.toNat_natCast, List.all_cons, List.all_nil, isCell, Bool.and_self, cellsOf, getp, Nat.zero_add, List.set_cons_zero, List.set_cons_succ, Int.natCast_nonneg, and_self]
    refine ⟨by rw [fits_i64]; omega, cntJ_intro () hja ?_ trivial⟩
    have hse := filled_set (c := cA3) (z := [tv 0, tv 0, tv 0]) (e := [tv a[j].1, tv a[j].2.1, tv a[j].2.2]) hja rfl
    rw [hse, show (j + 1) * 0 = j * 0 from by omega]
    rfl
  · have : j = a.length := by omega
    subst this
    rw [filled_all]
    simp
theorem sem_toSystem (x : TSystem) (hb : bdSystem 4294967296 x) (lvl : Nat) (S : Sto) : Sem Go.Proofs.Try.prog fid_laws_toSystem lvl [.ag ((cSystem x).map .tr)] S (oSystem x) S := by
  obtain ⟨b0, b1, b2⟩ := hb
  refine sem_of_chk k_laws_toSystem (by simp [oSystem, low, men, mens]) ?_
  simp only [c_laws_toSystem, cSystem, zfill, zobs, List.map_cons, List.map_nil, r_cons, r_nil, r_kont, r_seq1, r_rg, r_sq, r_wpF, r_op1, r_go1, r_bt, r_bt1, r_al, r_op3, r_fa, r_fa1, r_ltr, r_ld, r_ld1, r_kcn, r_sn0, r_sn1, r_ca, r_ca1, zfill, zobs, ptd, keyOf, freshK, lk, pt, lkO, ptO, addO, xv, kc, params, ↓reduceIte, Nat.reduceEqDiff, Nat.reduceMul, reduceCtorEq, List.length_cons, List.length_nil, Nat.reduceAdd, Nat.reduceLeDiff, Nat.reduceLT, true_and, List.map_cons, List.map_nil, List.cons_append, List.nil_append, List.getElem?_cons_zero, List.drop_zero, mens, men, List.all_cons, List.all_nil, isCell, Bool.and_true, Bool.and_self, cellsOf, totr, totrs, tocs, Nat.zero_add, Nat.add_zero, and_self]
  refine kca_intro (sem_toBigraphS x.states b0 b1) ?_
  simp only [r_setAt0, r_setAt1, List.set_cons_zero, r_cons, r_nil, r_kont, r_seq1, r_rg, r_sq, r_op1, r_go1, r_op3, r_fa, r_fa1, r_fa2, r_pack, r_setOb, r_ltr, r_ld, r_ld1, r_kcn, r_sn0, r_sn1, r_ca, r_ca1, r_st, r_st1, r_stb, r_setAt0, r_setAt1, r_lows0, r_lows1, r_low3, ptd, keyOf, freshK, lk, pt, lkO, ptO, addO, xv, ↓reduceIte, Nat.reduceEqDiff, Nat.reduceMul, reduceCtorEq, List.length_cons, List.length_nil, Nat.reduceAdd, Nat.reduceLeDiff, Nat.reduceLT, true_and, List.map_cons, List.map_nil, List.cons_append, List.nil_append, List.getElem?_cons_zero, List.drop_succ_cons, List.drop_zero, mens, men, noSh, impv, impc, or_true, isCell, cellsOf, Nat.zero_add, Nat.add_zero, List.set_cons_zero, List.length_map, and_self]
  refine kca_intro (sem_toIntA3S x.steps b2) ?_
  simp only [r_setAt0, r_setAt1, List.set_cons_zero, List.set_cons_succ, Prod.mk.injEq, r_cons, r_nil, r_kont, r_seq1, r_fn2, r_rg, r_sq, r_rt, r_op1, r_go1, r_fa, r_fa2, r_pack, r_setOb, r_kill, r_ld, r_labm, r_ld5, r_fin, r_kfe1, r_kcx, r_exps0, r_exps1, r_kex, r_exb1, r_exp2, r_exc, r_kagx, r_expv1, r_kxc, r_expcs0, r_expcs1, r_expc7, r_exh1, r_st, r_st1, r_stb, r_setAt0, r_setAt1, r_lows0, r_lows1, r_low3, ptd, keyOf, freshK, lk, pt, lkO, ptO, addO, xv, ↓reduceIte, Nat.reduceEqDiff, Nat.reduceMul, reduceCtorEq, List.length_cons, List.length_nil, Nat.reduceAdd, Nat.reduceLT, true_and, and_true, List.drop_zero, List.take_succ_cons, List.take_zero, List.headD_cons, List.tail_cons, noSh, impv, impc, or_true, scrE, scrL, scr, scrs, scrOb, rmO, List.all_cons, List.all_nil, isCell, Bool.and_self, cellsOf, Nat.zero_add, Nat.add_zero, List.set_cons_zero, List.set_cons_succ, Nat.le_refl, Prod.mk.injEq, List.length_map, and_false, and_self]
  rfl
end Go.Fd

/-
  WHAT HOLDS OF IsClosedSet AND WHAT IT CALLS. Own work.
-/
namespace Go.Fd
set_option maxRecDepth 20000

/-- A step that is well formed. -/
def stOK (n m : Int) (s : A3) : Prop := inB s.1 0 (n - 1) = true ∧ inB s.2.1 0 m = true ∧ inB s.2.2 0 (n - 1) = true
def StRis (n m : Int) (l : List A3) : Prop := ∀ i, i < l.length → stOK n m (g3 l i) ∧ (0 < i → lt3 (g3 l (i - 1)) (g3 l i))
def sysOK (s : TSystem) : Prop := StRis s.states.length 5 s.steps ∧ inB s.states.length 1 40 = true

theorem sem_areSteps (l : List A3) (n : Int) (m : Int) (hl : l.length ≤ 9223372036854775807) (hn : 0 ≤ n) (hn2 : n ≤ 9223372036854775807) (hm : 0 ≤ m) (hm2 : m ≤ 9223372036854775807) (lvl : Nat) (S : Sto) : Sem Go.Proofs.Try.prog fid_impl_areSteps lvl [.tr (.sl (l.map cA3)), iI n, iI m] S (iB (dc (StRis n (m - 1) l))) S := by
  refine sem_of_chk k_impl_areSteps trivial ?_
  have hfn : fits .i64 (n - 1) := by rw [fits_i64]; omega
  have hfm : fits .i64 (m - 1) := by rw [fits_i64]; omega
  simp only [c_impl_areSteps, List.length_map, r_cons, r_nil, r_kont, r_seq1, r_rg, r_sq, r_bl, r_wpF, r_op1, r_go1, r_mv, r_ln, r_ln1, ptd, lk, pt, xv, kv, kc, params, ↓reduceIte, Nat.reduceEqDiff, reduceCtorEq, List.length_cons, List.length_nil, Nat.reduceAdd, Nat.reduceLeDiff, Nat.reduceLT, true_and, Nat.zero_add, List.length_map]
  refine wp_count (α := Unit) l.length (fun j _ => ⟨lvl, [(0, .tr (.sl (l.map cA3))), (1, iI n), (2, iI m), (9, .tr (.sl (l.map cA3))), (10, iI l.length), (11, iI j)], [], S⟩) (fun j _ => ∀ i, i < j → stOK n (m - 1) (g3 l i) ∧ (0 < i → lt3 (g3 l (i - 1)) (g3 l i))) () ⟨by simp only [r_clean, r_okm4, r_okE0, r_okE1, r_okL0, ↓reduceIte, Nat.reduceEqDiff, reduceCtorEq, memB, keepB, keepOB, Bool.false_eq_true, and_self], by (simp only [r_fgt, ↓reduceIte, Nat.reduceEqDiff, reduceCtorEq, memB, keepB, keepOB, Bool.false_eq_true, Int.cast_ofNat_Int]) <;> rfl⟩ (fun i hi => by omega) ?_
  intro j _ hj hA
  simp only [r_cons, r_nil, r_kont, r_seq1, r_seq2, r_blk2, r_fn2, r_sk, r_rg, r_sq, r_bl, r_ex, r_rt, r_cd, r_cd2, r_op1, r_go1, r_mv, r_bi, r_lti, r_ixn, r_ia, r_ia1, r_fin, r_kfe1, r_kcx, r_exps0, r_exps1, r_kex, r_exp1, r_expv2, r_round2, ptd, lk, pt, xv, kv, kc, ↓reduceIte, Nat.reduceEqDiff, reduceCtorEq, Nat.reduceLT, true_and, and_true, decide_eq_true_eq, Int.toNat_natCast, Int.natCast_nonneg]
  refine ite_of (fun hlt => ?_) (fun hge => ?_)
  · have hja : j < l.length := by omega
    have ga := rA_get hja
    simp only [ga, cA3, hfn, zfill, zobs, addO, lkO, ptO, setAt, setOb, lows, r_cons, r_nil, r_kont, r_seq1, r_rg, r_sq, r_op1, r_go1, r_mv, r_al, r_bi, r_sub0, r_op3, r_ixn, r_iae, r_ja, r_ja2, r_pack, r_lab, r_ld, r_ld2, r_ld4, r_kcn, r_sn0, r_sn1, r_ca, r_ca1, r_st, r_st1, r_stb, r_lt1, zfill, zobs, ptd, keyOf, freshK, lk, pt, lkO, ptO, addO, xv, kv, kc, ↓reduceIte, Nat.reduceEqDiff, Nat.reduceMul, reduceCtorEq, List.length_cons, List.length_nil, Nat.reduceAdd, Nat.reduceLT, true_and, List.map_cons, List.map_nil, List.cons_append, List.nil_append, List.getElem?_cons_zero, List.take_succ_cons, List.take_zero, mens, men, Int.toNat_zero, Int.reduceLE, List.all_cons, List.all_nil, isCell, Bool.and_self, cellsOf, Nat.zero_add, Nat.add_zero, List.set_cons_zero, List.set_cons_succ, Nat.le_refl, and_self]
    refine kca_intro (sem_within (g3 l j).1 0 (n - 1)) ?_
    simp only [hfm, r_cons, r_nil, r_kont, r_seq1, r_seq3, r_blk3, r_fn2, r_rg, r_sq, r_rt, r_cd, r_cd2, r_op1, r_op1g, r_gd, r_gdu, r_go1, r_mv, r_bi, r_sub0, r_nt, r_nt1, r_pk, r_pkt, r_op3, r_ixn, r_ja, r_ja2, r_pack, r_lab, r_ld, r_ld2, r_kcn, r_sn0, r_sn1, r_ca, r_ca1, r_fin, r_kfe1, r_kcx, r_exps0, r_exps1, r_kex, r_exp1, r_expv2, r_round3, r_lt1, ptd, keyOf, freshK, lk, pt, lkO, addO, xv, kv, kc, ↓reduceIte, Nat.reduceEqDiff, Nat.reduceMul, reduceCtorEq, List.length_nil, Nat.reduceLT, true_and, and_true, List.map_cons, List.map_nil, List.cons_append, List.nil_append, List.getElem?_cons_zero, List.getElem?_cons_succ, mens, men, noSh, isSc, impv, or_true, Bool.true_eq_false, Bool.not_false, Int.toNat_one, Int.reduceLE, Nat.zero_add, Bool.not_eq_false', and_self]
    have no : ¬ stOK n (m - 1) (g3 l j) → ¬ StRis n (m - 1) l := fun h hr => h (hr j hja).1
    refine ite_of (fun h1 => ?_) (fun h1 => ?_)
    · refine kca_intro (sem_within (g3 l j).2.1 0 (m - 1)) ?_
      simp only [hfn, r_cons, r_nil, r_kont, r_seq1, r_seq3, r_blk3, r_fn2, r_rg, r_sq, r_rt, r_cd, r_cd2, r_op1, r_op1g, r_gd, r_gdu, r_go1, r_mv, r_bi, r_sub0, r_nt, r_nt1, r_pk, r_pkt, r_pkf, r_op3, r_ixn, r_ja, r_ja2, r_pack, r_lab, r_ld, r_ld2, r_kcn, r_sn0, r_sn1, r_ca, r_ca1, r_fin, r_kfe1, r_kcx, r_exps0, r_exps1, r_kex, r_exp1, r_expv2, r_round3, r_lt1, ptd, keyOf, freshK, lk, pt, lkO, addO, xv, kv, kc, ↓reduceIte, Nat.reduceEqDiff, Nat.reduceMul, reduceCtorEq, List.length_nil, Nat.reduceLT, true_and, and_true, List.map_cons, List.map_nil, List.cons_append, List.nil_append, List.getElem?_cons_zero, List.getElem?_cons_succ, mens, men, noSh, isSc, impv, or_true, Bool.true_eq_false, Bool.not_false, Int.reduceToNat, Int.reduceLE, Nat.zero_add, Bool.not_eq_false', and_self]
      refine ite_of (fun h2 => ?_) (fun h2 => ?_)
      · refine kca_intro (sem_within (g3 l j).2.2 0 (n - 1)) ?_
        simp only [r_cons, r_nil, r_kont, r_seq1, r_seq3, r_blk1, r_blk3, r_fn2, r_sk, r_rg, r_sq, r_rt, r_cd, r_cd2, r_op1, r_op1g, r_gd, r_gdu, r_go1, r_mv, r_bi, r_add0, r_sub0, r_gti, r_nt, r_nt1, r_pk, r_pkt, r_pkf, r_ixn, r_ia, r_ia1, r_fin, r_kfe1, r_kcx, r_exps0, r_exps1, r_kex, r_exp1, r_expv2, r_fgt, r_clean, r_okm4, r_okE0, r_okE1, r_okL0, r_round1, r_round3, r_lt1, ptd, keyOf, freshK, lk, pt, addO, xv, kv, kc, ↓reduceIte, Nat.reduceEqDiff, Nat.reduceMul, reduceCtorEq, List.length_nil, Nat.reduceLT, true_and, and_true, decide_eq_true_eq, noSh, isSc, impv, memB, keepB, keepOB, or_true, Bool.false_eq_true, Bool.true_eq_false, Bool.not_true, Bool.not_false, Bool.not_eq_false', and_self]
        refine ite_of (fun h3 => ?_) (fun h3 => ?_)
        · have hok : stOK n (m - 1) (g3 l j) := ⟨h1, h2, h3⟩
          have hgo : (0 < j → lt3 (g3 l (j - 1)) (g3 l j)) → ∀ i, i < j + 1 → stOK n (m - 1) (g3 l i) ∧ (0 < i → lt3 (g3 l (i - 1)) (g3 l i)) := fun hp i hi => by
            by_cases e : i = j
            · subst e; exact ⟨hok, hp⟩
            · exact hA i (by omega)
          refine ite_of (fun hpos => ?_) (fun hpos => ?_)
          · have hp : ((j : Int) - 1).toNat = j - 1 := by omega
            have hp0 : (0 : Int) ≤ j - 1 := by omega
            have gb := rA_get (l := l) (i := j - 1) (by omega)
            simp only [hp, hp0, gb, cA3, r_cons, r_kont, r_op1g, r_gd, r_go1, r_op3, r_iae, r_pack, r_ld, r_ld4, r_labm, r_ld5, r_kcn, r_kagn, r_sn0, r_sn1, r_sn3, r_ca, r_ca1, ptd, lk, pt, lkO, xv, ↓reduceIte, Nat.reduceEqDiff, reduceCtorEq, List.length_cons, List.length_nil, Nat.reduceAdd, Nat.reduceLT, true_and, List.map_cons, List.map_nil, List.cons_append, List.nil_append, List.drop_zero, List.take_succ_cons, List.take_zero, mens, men, Nat.zero_add, Nat.le_refl, and_self]
            refine ⟨by rw [fits_i64]; omega, ?_⟩
            refine kca_intro (sem_compareSteps (g3 l (j - 1)) (g3 l j)) ?_
            simp only [r_cons, r_nil, r_kont, r_seq1, r_seq3, r_blk1, r_blk3, r_fn2, r_sk, r_rg, r_sq, r_rt, r_cd, r_cd2, r_op1, r_op1g, r_gd, r_go1, r_mv, r_bi, r_add0, r_gei, r_pk, r_pkt, r_pkf, r_fin, r_kfe1, r_kcx, r_exps0, r_exps1, r_kex, r_exp1, r_expv2, r_fgt, r_clean, r_okm4, r_okE0, r_okE1, r_okL0, r_round1, r_round3, r_lt1, ptd, keyOf, freshK, lk, pt, addO, xv, kv, kc, ↓reduceIte, Nat.reduceEqDiff, Nat.reduceMul, reduceCtorEq, List.length_nil, Nat.reduceLT, true_and, and_true, decide_eq_true_eq, noSh, isSc, impv, memB, keepB, keepOB, or_true, Bool.false_eq_true, and_self]
            refine ite_of (fun hge => ?_) (fun hlt2 => ?_)
            · have : ¬ StRis n (m - 1) l := fun hr => by have := cmp3_lt.2 ((hr j hja).2 (by omega)); omega
              rw [dc_false this]
            · exact ⟨by rw [fits_i64]; omega, cntJ_intro () hja rfl (hgo fun _ => cmp3_lt.1 (by omega))⟩
          · exact ⟨by rw [fits_i64]; omega, cntJ_intro () hja rfl (hgo fun h => by omega)⟩
        · rw [dc_false (no fun h => h3 h.2.2)]
      · rw [dc_false (no fun h => h2 h.2.1)]
    · rw [dc_false (no fun h => h1 h.1)]
  · have : j = l.length := by omega
    subst this
    rw [dc_true (p := StRis n (m - 1) l) hA]

theorem sem_l10Good (x : TSystem) (hx : x.states.length ≤ 9223372036854775807) (hl : x.steps.length ≤ 9223372036854775807) (lvl : Nat) (S : Sto) : Sem Go.Proofs.Try.prog fid_spec_l10Good lvl [.ag ((cSystem x).map .tr)] S (iB (dc (sysOK x))) S := by
  refine sem_of_chk k_spec_l10Good trivial ?_
  generalize en : (x.states.length : Int) = n
  have hfn : fits .i64 (n - 1) := by rw [fits_i64]; omega
  simp only [c_spec_l10Good, cSystem, List.length_map, en, r_cons, r_nil, r_kont, r_seq1, r_rg, r_sq, r_bl, r_wpF, r_op1, r_go1, r_mv, r_bt, r_bt1, r_ln, r_ln1, r_op3, r_fa, r_fa1, r_ltr, r_ld, r_ld1, ptd, lk, pt, xv, kv, kc, params, ↓reduceIte, Nat.reduceEqDiff, reduceCtorEq, List.length_cons, List.length_nil, Nat.reduceLeDiff, Nat.reduceLT, true_and, List.map_cons, List.map_nil, List.getElem?_cons_zero, List.drop_zero, List.all_cons, List.all_nil, isCell, Bool.and_true, Bool.and_self, cellsOf, totr, totrs, tocs, Nat.zero_add, List.length_map]
  refine wp_count (α := Unit) x.steps.length (fun j _ => ⟨lvl, [(1, .ta (cSystem x)), (3, iI n), (4, iI j)], [], S⟩) (fun j _ => ∀ i, i < j → stOK n 5 (g3 x.steps i) ∧ (0 < i → lt3 (g3 x.steps (i - 1)) (g3 x.steps i))) () ⟨by simp only [r_clean, r_okm4, r_okm11, r_okE0, r_okE1, r_okL0, ↓reduceIte, Nat.reduceEqDiff, reduceCtorEq, memB, keepB, keepOB, Bool.false_eq_true, and_self], by (simp only [cSystem, r_fgt, ↓reduceIte, Nat.reduceEqDiff, reduceCtorEq, memB, keepB, keepOB, Bool.false_eq_true, Int.cast_ofNat_Int]) <;> rfl⟩ (fun i hi => by omega) ?_
  intro j _ hj hA
  simp only [List.length_map, cSystem, r_cons, r_nil, r_kont, r_seq1, r_seq2, r_blk2, r_sk, r_rg, r_sq, r_bl, r_ex, r_cd, r_cd2, r_op1, r_go1, r_mv, r_bi, r_lti, r_ln, r_ln1, r_op3, r_fa, r_fa1, r_ixn, r_ia, r_ia1, r_ltr, r_ld, r_ld1, r_kcn, r_sn0, r_sn1, r_ca, r_ca1, r_round2, ptd, lk, pt, xv, kv, kc, ↓reduceIte, Nat.reduceEqDiff, Nat.reduceLT, true_and, decide_eq_true_eq, List.map_cons, List.map_nil, List.cons_append, List.nil_append, List.getElem?_cons_zero, List.drop_succ_cons, List.drop_zero, mens, men, Int.toNat_natCast, Int.natCast_nonneg, List.length_map, and_self]
  refine ite_of (fun hlt => ?_) (fun hge => ?_)
  · have hja : j < x.steps.length := by omega
    have ga := rA_get hja
    simp only [ga, cA3, hfn, zfill, zobs, addO, lkO, ptO, setAt, setOb, lows, r_cons, r_nil, r_kont, r_seq1, r_rg, r_sq, r_op1, r_go1, r_mv, r_al, r_bi, r_sub0, r_op3, r_ixn, r_iae, r_ja, r_ja2, r_pack, r_lab, r_ld, r_ld2, r_ld4, r_kcn, r_sn0, r_sn1, r_ca, r_ca1, r_st, r_st1, r_stb, zfill, zobs, ptd, keyOf, freshK, lk, pt, lkO, ptO, addO, xv, kv, kc, ↓reduceIte, Nat.reduceEqDiff, Nat.reduceMul, List.length_cons, List.length_nil, Nat.reduceAdd, Nat.reduceLT, true_and, List.map_cons, List.map_nil, List.cons_append, List.nil_append, List.getElem?_cons_zero, List.take_succ_cons, List.take_zero, mens, men, Int.toNat_zero, Int.reduceLE, List.all_cons, List.all_nil, isCell, Bool.and_self, cellsOf, Nat.zero_add, Nat.add_zero, List.set_cons_zero, List.set_cons_succ, Nat.le_refl, and_self]
    refine kca_intro (sem_l1In (g3 x.steps j).1 0 (n - 1)) ?_
    simp only [r_cons, r_nil, r_kont, r_seq1, r_seq3, r_blk3, r_fn2, r_rg, r_sq, r_rt, r_cd, r_cd2, r_op1, r_op1g, r_gd, r_gdu, r_go1, r_mv, r_nt, r_nt1, r_pk, r_pkt, r_op3, r_ixn, r_ja, r_ja2, r_pack, r_lab, r_ld, r_ld2, r_kcn, r_sn0, r_sn1, r_ca, r_ca1, r_fin, r_kfe1, r_kcx, r_exps0, r_exps1, r_kex, r_exp1, r_expv2, r_round3, r_lt1, ptd, keyOf, freshK, lk, pt, lkO, addO, xv, kv, kc, ↓reduceIte, Nat.reduceEqDiff, Nat.reduceMul, List.length_nil, Nat.reduceLT, true_and, and_true, List.map_cons, List.map_nil, List.cons_append, List.nil_append, List.getElem?_cons_zero, List.getElem?_cons_succ, mens, men, noSh, isSc, impv, or_true, Bool.true_eq_false, Bool.not_false, Int.toNat_one, Int.reduceLE, Nat.zero_add, Bool.not_eq_false', and_self]
    have no : ¬ stOK n 5 (g3 x.steps j) → ¬ sysOK x := fun h hr => h (by have := (hr.1 j hja).1; rw [en] at this; exact this)
    refine ite_of (fun h1 => ?_) (fun h1 => ?_)
    · refine kca_intro (sem_l1In (g3 x.steps j).2.1 0 5) ?_
      simp only [hfn, r_cons, r_nil, r_kont, r_seq1, r_seq3, r_blk3, r_fn2, r_rg, r_sq, r_rt, r_cd, r_cd2, r_op1, r_op1g, r_gd, r_gdu, r_go1, r_mv, r_bi, r_sub0, r_nt, r_nt1, r_pk, r_pkt, r_pkf, r_op3, r_ixn, r_ja, r_ja2, r_pack, r_lab, r_ld, r_ld2, r_kcn, r_sn0, r_sn1, r_ca, r_ca1, r_fin, r_kfe1, r_kcx, r_exps0, r_exps1, r_kex, r_exp1, r_expv2, r_round3, r_lt1, ptd, keyOf, freshK, lk, pt, lkO, addO, xv, kv, kc, ↓reduceIte, Nat.reduceEqDiff, Nat.reduceMul, List.length_nil, Nat.reduceLT, true_and, and_true, List.map_cons, List.map_nil, List.cons_append, List.nil_append, List.getElem?_cons_zero, List.getElem?_cons_succ, mens, men, noSh, isSc, impv, or_true, Bool.true_eq_false, Bool.not_false, Int.reduceToNat, Int.reduceLE, Nat.zero_add, Bool.not_eq_false', and_self]
      refine ite_of (fun h2 => ?_) (fun h2 => ?_)
      · refine kca_intro (sem_l1In (g3 x.steps j).2.2 0 (n - 1)) ?_
        simp only [r_cons, r_nil, r_kont, r_seq1, r_seq3, r_blk1, r_blk3, r_fn2, r_sk, r_rg, r_sq, r_rt, r_cd, r_cd2, r_op1, r_op1g, r_gd, r_gdu, r_go1, r_mv, r_bi, r_add0, r_sub0, r_gti, r_nt, r_nt1, r_pk, r_pkt, r_pkf, r_op3, r_fa, r_fa1, r_ixn, r_ia, r_ia1, r_ltr, r_ld, r_ld1, r_fin, r_kfe1, r_kcx, r_exps0, r_exps1, r_kex, r_exp1, r_expv2, r_fgt, r_clean, r_okm4, r_okm11, r_okE0, r_okE1, r_okL0, r_round1, r_round3, r_lt1, ptd, keyOf, freshK, lk, pt, addO, xv, kv, kc, ↓reduceIte, Nat.reduceEqDiff, Nat.reduceMul, List.length_nil, Nat.reduceLT, true_and, and_true, decide_eq_true_eq, List.getElem?_cons_zero, List.drop_succ_cons, List.drop_zero, noSh, isSc, impv, memB, keepB, keepOB, or_true, Bool.false_eq_true, Bool.true_eq_false, Bool.not_true, Bool.not_false, Bool.not_eq_false', and_self]
        refine ite_of (fun h3 => ?_) (fun h3 => ?_)
        · have hok : stOK n 5 (g3 x.steps j) := ⟨h1, h2, h3⟩
          have hgo : (0 < j → lt3 (g3 x.steps (j - 1)) (g3 x.steps j)) → ∀ i, i < j + 1 → stOK n 5 (g3 x.steps i) ∧ (0 < i → lt3 (g3 x.steps (i - 1)) (g3 x.steps i)) := fun hp i hi => by
            by_cases e : i = j
            · subst e; exact ⟨hok, hp⟩
            · exact hA i (by omega)
          refine ite_of (fun hpos => ?_) (fun hpos => ?_)
          · have hp : ((j : Int) - 1).toNat = j - 1 := by omega
            have hp0 : (0 : Int) ≤ j - 1 := by omega
            have gb := rA_get (l := x.steps) (i := j - 1) (by omega)
            simp only [hp, hp0, gb, cA3, r_cons, r_kont, r_op1g, r_gd, r_go1, r_op3, r_iae, r_pack, r_ld, r_ld4, r_labm, r_ld5, r_kcn, r_kagn, r_sn0, r_sn1, r_sn3, r_ca, r_ca1, ptd, lk, pt, lkO, xv, ↓reduceIte, Nat.reduceEqDiff, List.length_cons, List.length_nil, Nat.reduceAdd, Nat.reduceLT, true_and, List.map_cons, List.map_nil, List.cons_append, List.nil_append, List.drop_zero, List.take_succ_cons, List.take_zero, mens, men, Nat.zero_add, Nat.le_refl, and_self]
            refine ⟨by rw [fits_i64]; omega, ?_⟩
            refine kca_intro (sem_l10Before (g3 x.steps (j - 1)) (g3 x.steps j)) ?_
            simp only [r_cons, r_nil, r_kont, r_seq1, r_seq3, r_blk1, r_blk3, r_fn2, r_sk, r_rg, r_sq, r_rt, r_cd, r_cd2, r_op1, r_op1g, r_gd, r_go1, r_mv, r_bi, r_add0, r_nt, r_nt1, r_pk, r_pkt, r_pkf, r_fin, r_kfe1, r_kcx, r_exps0, r_exps1, r_kex, r_exp1, r_expv2, r_fgt, r_clean, r_okm4, r_okm11, r_okE0, r_okE1, r_okL0, r_round1, r_round3, r_lt1, ptd, keyOf, freshK, lk, pt, addO, xv, kv, kc, ↓reduceIte, Nat.reduceEqDiff, Nat.reduceMul, List.length_nil, Nat.reduceLT, true_and, and_true, noSh, isSc, impv, memB, keepB, keepOB, or_true, Bool.false_eq_true, Bool.not_eq_true', and_self]
            refine ite_of (fun hge => ?_) (fun hlt2 => ?_)
            · have : ¬ sysOK x := fun hr => dc_not.1 hge ((hr.1 j hja).2 (by omega))
              rw [dc_false this]
            · exact ⟨by rw [fits_i64]; omega, cntJ_intro () hja rfl (hgo fun _ => dc_iff.1 (by simpa using hlt2))⟩
          · exact ⟨by rw [fits_i64]; omega, cntJ_intro () hja rfl (hgo fun h => by omega)⟩
        · rw [dc_false (no fun h => h3 h.2.2)]
      · rw [dc_false (no fun h => h2 h.2.1)]
    · rw [dc_false (no fun h => h1 h.1)]
  · have : j = x.steps.length := by omega
    subst this
    refine kca_intro (sem_l1In n 1 40) ?_
    simp only [r_cons, r_nil, r_kont, r_seq1, r_fn2, r_rt, r_op1, r_mv, r_fin, r_kfe1, r_kcx, r_exps0, r_exps1, r_kex, r_exp1, r_expv2, r_lt1, ptd, keyOf, freshK, lk, pt, addO, xv, ↓reduceIte, Nat.reduceEqDiff, Nat.reduceMul, List.length_nil, Nat.reduceLT, true_and, and_true, noSh, isSc, impv, or_true]
    have hr : StRis x.states.length 5 x.steps := by rw [en]; exact hA
    cases h : inB n 1 40 with
    | true => rw [dc_true (p := sysOK x) ⟨hr, by rw [en]; exact h⟩]
    | false => rw [dc_false (p := sysOK x) (fun hh => by rw [sysOK, en, h] at hh; exact absurd hh.2 (by simp))]

theorem sem_isSystem (x : TSystem) (hx : x.states.length ≤ 9223372036854775807) (hl : x.steps.length ≤ 9223372036854775807) (lvl : Nat) (S : Sto) : Sem Go.Proofs.Try.prog fid_impl_isSystem lvl [.ag ((cSystem x).map .tr)] S (iB (dc (sysOK x))) S := by
  refine sem_of_chk k_impl_isSystem trivial ?_
  simp only [c_impl_isSystem, cSystem, List.length_map, r_cons, r_nil, r_kont, r_seq1, r_rg, r_sq, r_wpF, r_op1, r_go1, r_mv, r_bt, r_bt1, r_ln, r_ln1, r_op3, r_fa, r_fa1, r_ltr, r_ld, r_ld1, r_kcn, r_sn0, r_sn1, r_ca, r_ca1, ptd, lk, pt, xv, kv, kc, params, ↓reduceIte, Nat.reduceEqDiff, reduceCtorEq, List.length_cons, List.length_nil, Nat.reduceLeDiff, Nat.reduceLT, true_and, List.map_cons, List.map_nil, List.cons_append, List.nil_append, List.getElem?_cons_zero, List.drop_zero, mens, men, List.all_cons, List.all_nil, isCell, Bool.and_true, Bool.and_self, cellsOf, totr, totrs, tocs, Nat.zero_add, List.length_map, and_self]
  refine kca_intro (sem_within x.states.length 1 40) ?_
  simp only [List.length_map, r_cons, r_nil, r_kont, r_seq1, r_fn2, r_rt, r_op1, r_op1g, r_gd, r_go1, r_mv, r_ln, r_ln1, r_pk, r_pkf, r_op3, r_fa, r_fa1, r_ltr, r_ld, r_ld1, r_kcn, r_sn0, r_sn1, r_ca, r_ca1, r_fin, r_kfe1, r_kcx, r_exps0, r_exps1, r_kex, r_exp1, r_expv2, ptd, keyOf, freshK, lk, pt, addO, xv, kv, kc, ↓reduceIte, Nat.reduceEqDiff, Nat.reduceMul, reduceCtorEq, List.length_nil, Nat.reduceLT, true_and, and_true, List.map_cons, List.map_nil, List.cons_append, List.nil_append, List.getElem?_cons_zero, List.drop_succ_cons, List.drop_zero, mens, men, noSh, isSc, impv, or_true, Bool.false_eq_true, Bool.not_true, List.length_map, and_self]
  refine ite_of (fun h => ?_) (fun h => ?_)
  · refine kca_intro (sem_areSteps x.steps x.states.length 6 hl (by omega) (by omega) (by omega) (by omega)) ?_
    simp only [r_cons, r_nil, r_kont, r_seq1, r_fn2, r_rt, r_op1, r_go1, r_mv, r_pk, r_pkt, r_fin, r_kfe1, r_kcx, r_exps0, r_exps1, r_kex, r_exp1, r_expv2, ptd, keyOf, freshK, lk, pt, addO, xv, kv, kc, ↓reduceIte, Nat.reduceEqDiff, Nat.reduceMul, reduceCtorEq, List.length_nil, Nat.reduceLT, true_and, and_true, noSh, isSc, impv, or_true]
    rw [dc_congr (p := sysOK x) (q := StRis x.states.length 5 x.steps) ⟨fun hh => hh.1, fun hh => ⟨hh, h⟩⟩]
    rfl
  · rw [dc_false (p := sysOK x) (fun hh => h hh.2)]

end Go.Fd

/-
  WHAT HOLDS OF EndStates, BOTH SIDES. Own work.
-/
namespace Go.Fd
set_option maxRecDepth 20000

theorem rI_append (a b : List Int) : rI (a ++ b) = rI a ++ rI b := List.map_append
/-- The steps that leave a state. -/
def frm (x : TSystem) (s : Int) (j : Nat) : List A3 := (x.steps.take j).filter fun p => decide (p.1 = s)
theorem frm_yes {x : TSystem} {s : Int} {j : Nat} (hj : j < x.steps.length) (h : (g3 x.steps j).1 = s) : frm x s (j + 1) = frm x s j ++ [g3 x.steps j] := by
  have e : g3 x.steps j = x.steps[j] := by simp [hj]
  unfold frm
  rw [List.take_succ_eq_append_getElem hj, List.filter_append, ← e]
  simp only [List.filter_cons, h, decide_true, if_true, List.filter_nil]
theorem frm_no {x : TSystem} {s : Int} {j : Nat} (hj : j < x.steps.length) (h : ¬ (g3 x.steps j).1 = s) : frm x s (j + 1) = frm x s j := by
  have e : g3 x.steps j = x.steps[j] := by simp [hj]
  unfold frm
  rw [List.take_succ_eq_append_getElem hj, List.filter_append, ← e]
  simp only [List.filter_cons, h, decide_false, Bool.false_eq_true, if_false, List.filter_nil, List.append_nil]
theorem frm_le {x : TSystem} {s : Int} {j : Nat} : (frm x s j).length ≤ j := Nat.le_trans (List.length_filter_le _ _) (by rw [List.length_take]; omega)
theorem sem_l10From (x : TSystem) (s : Int) (hl : x.steps.length ≤ 4294967296) (lvl : Nat) (S : Sto) : Sem Go.Proofs.Try.prog fid_spec_l10From lvl [.ag ((cSystem x).map .tr), iI s] S (.ow 3 ((frm x s x.steps.length).map cA3) true) S := by
  refine sem_of_chk k_spec_l10From trivial ?_
  simp only [c_spec_l10From, cSystem, r_cons, r_nil, r_kont, r_seq1, r_rg, r_sq, r_bl, r_wpF, r_op1, r_mv, r_bt, r_bt1, r_bs, r_fills0, r_kfill, r_lt1, ptd, keyOf, freshK, lk, pt, lkO, ptO, xv, kv, kc, params, ↓reduceIte, Nat.reduceEqDiff, Nat.reduceMul, reduceCtorEq, List.length_cons, List.length_nil, Nat.reduceAdd, Nat.reduceLeDiff, Nat.reduceLT, true_and, List.map_cons, List.map_nil, List.all_cons, List.all_nil, isCell, Bool.and_true, Bool.and_self, cellsOf, totr, totrs, tocs, Nat.zero_add, List.replicate_zero, and_self]
  refine wp_count (α := Unit) x.steps.length (fun j y => ⟨lvl, [(1, iI s), (2, .ta (cSystem x)), (5, .hd (lvl, 224) [] 0 (frm x s j).length none (frm x s j).length), (6, iI j)], [(224, .ar 3 ((frm x s j).map cA3) true (frm x s j).length 0)], S⟩) (fun _ _ => True) () ⟨by simp only [r_clean, r_okm1, r_okm4, r_okm11, r_okE0, r_okE1, r_okL0, r_okL2, ↓reduceIte, Nat.reduceEqDiff, reduceCtorEq, memB, keepB, keepOB, Bool.false_eq_true, and_self], by (simp only [cSystem, r_fgt, ↓reduceIte, Nat.reduceEqDiff, reduceCtorEq, memB, keepB, keepOB, Bool.false_eq_true, Int.cast_ofNat_Int]) <;> rfl⟩ trivial ?_
  intro j _ hj _
  simp only [List.length_map, cSystem, r_cons, r_nil, r_kont, r_seq1, r_seq2, r_blk2, r_fn2, r_sk, r_rg, r_sq, r_bl, r_ex, r_rt, r_cd, r_cd2, r_op1, r_go1, r_mv, r_bi, r_lti, r_ln, r_ln1, r_op3, r_fa, r_fa1, r_ixn, r_ia, r_ia1, r_kill, r_ltr, r_ld, r_ld1, r_fin, r_kfe1, r_kcx, r_exps0, r_exps1, r_kex, r_exp1, r_expv4, r_expc7, r_exh1, r_round2, r_lt1, ptd, lk, pt, lkO, xv, ↓reduceIte, Nat.reduceEqDiff, Nat.reduceLT, true_and, and_true, decide_eq_true_eq, List.getElem?_cons_zero, List.drop_succ_cons, List.drop_zero, List.headD_cons, scrE, scrL, scr, rmO, Int.toNat_natCast, Int.natCast_nonneg, List.length_map]
  refine ite_of (fun hlt => ?_) (fun hge => ?_)
  · have hja : j < x.steps.length := by omega
    have ga := rA_get hja
    simp only [ga, cA3, List.length_map, r_cons, r_nil, r_kont, r_seq1, r_blk1, r_sk, r_rg, r_cd, r_cd2, r_op1, r_go1, r_mv, r_bs, r_fills0, r_fills1, r_fl2, r_kfill, r_bi, r_add0, r_eqi, r_op3, r_fa, r_fa1, r_ixn, r_ia, r_iae, r_ia1, r_rde, r_rd3, r_stamp0, r_ja, r_ja1, r_pack, r_ltr, r_ld, r_ld1, r_ld4, r_fgt, r_clean, r_okm1, r_okm4, r_okm11, r_okE0, r_okE1, r_okL0, r_okL2, r_round1, r_apgo, r_apx2, r_aph, r_ap, r_kap, r_ap0h, r_rep1, r_cut1, r_scr1, r_unr1, r_max, r_lt1, bigN, ptd, keyOf, freshK, lk, pt, lkO, ptO, xv, kv, kc, trv, ↓reduceIte, Nat.reduceEqDiff, Nat.reduceMul, List.length_cons, List.length_nil, Nat.reduceAdd, Nat.reduceLeDiff, Nat.reduceLT, true_and, decide_eq_true_eq, List.map_cons, List.map_nil, List.getElem?_cons_zero, List.drop_succ_cons, List.drop_zero, List.take_succ_cons, List.take_zero, isSc, memB, keepB, keepOB, Bool.false_eq_true, Int.toNat_natCast, Int.toNat_zero, Int.reduceLE, List.all_cons, List.all_nil, isCell, Bool.and_self, cellsOf, totr, totrs, tocs, getp, Nat.zero_add, List.set_cons_zero, Int.natCast_nonneg, Nat.le_refl, List.length_map, and_self]
    refine ite_of (fun he => ?_) (fun hne => ?_)
    · have hle := frm_le (x := x) (s := s) (j := j)
      refine ⟨by omega, by rw [fits_i64]; omega, cntJ_intro () hja ?_ trivial⟩
      rw [frm_yes hja he, List.length_append, List.map_append]
      rfl
    · refine ⟨by rw [fits_i64]; omega, cntJ_intro () hja ?_ trivial⟩
      rw [frm_no hja hne]
      rfl
  · have : j = x.steps.length := by omega
    subst this
    rfl

theorem sem_System_next (x : TSystem) (s : Int) (hl : x.steps.length ≤ 4294967296) (lvl : Nat) (S : Sto) : Sem Go.Proofs.Try.prog fid_impl_System_next lvl [.ag ((cSystem x).map .tr), iI s] S (.ow 1 (rI ((frm x s x.steps.length).map (·.2.2))) true) S := by
  refine sem_of_chk k_impl_System_next trivial ?_
  simp only [c_impl_System_next, cSystem, List.length_map, r_cons, r_nil, r_kont, r_seq1, r_rg, r_sq, r_bl, r_wpF, r_op1, r_go1, r_mv, r_bt, r_bt1, r_bs, r_fills0, r_kfill, r_ln, r_ln1, r_op3, r_fa, r_fa1, r_ltr, r_ld, r_ld1, ptd, keyOf, freshK, lk, pt, lkO, ptO, xv, kv, kc, params, ↓reduceIte, Nat.reduceEqDiff, Nat.reduceMul, reduceCtorEq, List.length_cons, List.length_nil, Nat.reduceAdd, Nat.reduceLeDiff, Nat.reduceLT, true_and, List.map_cons, List.map_nil, List.getElem?_cons_zero, List.drop_succ_cons, List.drop_zero, List.all_cons, List.all_nil, isCell, Bool.and_true, Bool.and_self, cellsOf, totr, totrs, tocs, Nat.zero_add, List.length_map, List.replicate_zero, and_self]
  refine wp_count (α := Unit) x.steps.length (fun j y => ⟨lvl, [(1, iI s), (5, .hd (lvl, 256) [] 0 (frm x s j).length none (frm x s j).length), (10, .tr (.sl (x.steps.map cA3))), (11, iI x.steps.length), (12, iI j)], [(256, .ar 1 (rI ((frm x s j).map (·.2.2))) true (frm x s j).length 0)], S⟩) (fun _ _ => True) () ⟨by simp only [r_clean, r_okm1, r_okm4, r_okE0, r_okE1, r_okL0, r_okL2, ↓reduceIte, Nat.reduceEqDiff, reduceCtorEq, memB, keepB, keepOB, Bool.false_eq_true, and_self], by (simp only [r_fgt, ↓reduceIte, Nat.reduceEqDiff, reduceCtorEq, memB, keepB, keepOB, Bool.false_eq_true, Int.cast_ofNat_Int]) <;> rfl⟩ trivial ?_
  intro j _ hj _
  simp only [List.length_map, r_cons, r_nil, r_kont, r_seq1, r_seq2, r_blk2, r_fn2, r_sk, r_rg, r_sq, r_bl, r_ex, r_rt, r_cd, r_cd2, r_op1, r_go1, r_mv, r_bi, r_lti, r_ixn, r_ia, r_ia1, r_kill, r_fin, r_kfe1, r_kcx, r_exps0, r_exps1, r_kex, r_exp1, r_expv4, r_expc7, r_exh1, r_round2, r_lt1, ptd, lk, pt, lkO, xv, ↓reduceIte, Nat.reduceEqDiff, Nat.reduceLT, true_and, and_true, decide_eq_true_eq, List.headD_cons, scrE, scrL, scr, rmO, Int.toNat_natCast, Int.natCast_nonneg, List.length_map]
  refine ite_of (fun hlt => ?_) (fun hge => ?_)
  · have hja : j < x.steps.length := by omega
    have ga := rA_get hja
    simp only [ga, cA3, List.length_map, zfill, zobs, addO, lkO, ptO, setAt, setOb, lows, r_cons, r_nil, r_kont, r_seq1, r_blk1, r_sk, r_rg, r_sq, r_cd, r_cd2, r_op1, r_go1, r_mv, r_al, r_bs, r_fills0, r_fills1, r_fl2, r_kfill, r_bi, r_add0, r_eqi, r_op3, r_ixn, r_iae, r_rde, r_rd3, r_stamp0, r_ja, r_ja2, r_pack, r_lab, r_ld, r_ld2, r_ld4, r_fgt, r_clean, r_okm1, r_okm4, r_okE0, r_okE1, r_okL0, r_okL2, r_round1, r_st, r_st1, r_stb, r_apgo, r_apx2, r_aph, r_ap, r_kap, r_ap0h, r_rep1, r_cut1, r_scr1, r_unr1, r_max, r_lt1, bigN, zfill, zobs, ptd, keyOf, freshK, lk, pt, lkO, ptO, addO, xv, kv, kc, trv, ↓reduceIte, Nat.reduceEqDiff, Nat.reduceMul, List.length_cons, List.length_nil, Nat.reduceAdd, Nat.reduceLeDiff, Nat.reduceLT, true_and, decide_eq_true_eq, List.map_cons, List.map_nil, List.getElem?_cons_zero, List.getElem?_cons_succ, List.take_succ_cons, List.take_zero, mens, men, isSc, memB, keepB, keepOB, Bool.false_eq_true, Int.toNat_zero, Int.reduceToNat, Int.reduceLE, List.all_cons, List.all_nil, isCell, Bool.and_self, cellsOf, totr, totrs, tocs, getp, Nat.zero_add, Nat.add_zero, List.set_cons_zero, List.set_cons_succ, Nat.le_refl, List.length_map, and_self]
    refine ite_of (fun he => ?_) (fun hne => ?_)
    · have hle := frm_le (x := x) (s := s) (j := j)
      refine ⟨by omega, by rw [fits_i64]; omega, cntJ_intro () hja ?_ trivial⟩
      rw [frm_yes hja he, List.length_append, List.map_append, rI_append]
      rfl
    · refine ⟨by rw [fits_i64]; omega, cntJ_intro () hja ?_ trivial⟩
      rw [frm_no hja hne]
      rfl
  · have : j = x.steps.length := by omega
    subst this
    rfl

/-- The states that nothing leaves, of the first j. -/
def ends (x : TSystem) : Nat → List Int
  | 0 => []
  | j + 1 => if (frm x j x.steps.length).length = 0 then ends x j ++ [(j : Int)] else ends x j
theorem ends_le {x : TSystem} : ∀ {j : Nat}, (ends x j).length ≤ j
  | 0 => Nat.le_refl 0
  | j + 1 => by
    unfold ends
    have := ends_le (x := x) (j := j)
    split
    · rw [List.length_append, List.length_singleton]; omega
    · omega
theorem ends_yes {x : TSystem} {j : Nat} (h : (frm x j x.steps.length).length = 0) : ends x (j + 1) = ends x j ++ [(j : Int)] := by rw [ends, if_pos h]
theorem ends_no {x : TSystem} {j : Nat} (h : ¬ (frm x j x.steps.length).length = 0) : ends x (j + 1) = ends x j := by rw [ends, if_neg h]
open Classical in
/-- What both answer. -/
noncomputable def r0_EndStates (x : TSystem) : List Int := if sysOK x then ends x x.states.length else []
theorem r0_EndStates_yes {x : TSystem} (h : sysOK x) : r0_EndStates x = ends x x.states.length := if_pos h
theorem r0_EndStates_no {x : TSystem} (h : ¬ sysOK x) : r0_EndStates x = [] := if_neg h
theorem sem_spec_EndStates0 (x : TSystem) (hx : x.states.length ≤ 4294967296) (hl : x.steps.length ≤ 4294967296) (lvl : Nat) (S : Sto) : Sem Go.Proofs.Try.prog fid_spec_EndStates lvl [.ag ((cSystem x).map .tr)] S (.tu [.ow 1 (rI (r0_EndStates x)) true, iB (dc (sysOK x))]) S := by
  refine sem_of_chk k_spec_EndStates ⟨trivial, trivial, trivial⟩ ?_
  simp only [c_spec_EndStates, cSystem, r_cons, r_nil, r_kont, r_seq1, r_rg, r_sq, r_wpF, r_op1, r_go1, r_mv, r_bt, r_bt1, r_bs, r_fills0, r_kfill, r_ld, r_ld4, r_kcn, r_kagn, r_sn0, r_sn1, r_sn3, r_ca, r_ca1, ptd, keyOf, freshK, lk, pt, lkO, ptO, xv, kv, kc, params, ↓reduceIte, Nat.reduceEqDiff, Nat.reduceMul, reduceCtorEq, List.length_cons, List.length_nil, Nat.reduceAdd, Nat.reduceLeDiff, Nat.reduceLT, true_and, List.map_cons, List.map_nil, List.cons_append, List.nil_append, List.take_succ_cons, List.take_zero, mens, men, List.all_cons, List.all_nil, isCell, Bool.and_true, Bool.and_self, cellsOf, totr, totrs, tocs, Nat.zero_add, Nat.le_refl, List.replicate_zero, and_self]
  refine kca_intro (sem_l10Good x (by omega) (by omega)) ?_
  simp only [r_cons, r_nil, r_kont, r_seq1, r_seq3, r_fn2, r_sk, r_rg, r_sq, r_bl, r_rt, r_cd, r_cd2, r_op1, r_go1, r_mv, r_nt, r_nt1, r_kill, r_fin, r_kfe2, r_kcx, r_exps0, r_exps1, r_kex, r_exp1, r_expv2, r_expv4, r_expc7, r_exh1, r_lt1, ptd, keyOf, freshK, lk, pt, lkO, addO, xv, kv, kc, ↓reduceIte, Nat.reduceEqDiff, Nat.reduceMul, reduceCtorEq, List.length_nil, Nat.reduceLT, true_and, and_true, List.headD_cons, noSh, isSc, impv, or_true, scrE, scrL, scr, scrs, rmO, Bool.not_eq_true']
  refine ite_of (fun h => ?_) (fun h => ?_)
  · have hn := dc_not.1 h
    rw [r0_EndStates_no hn, h]
    rfl
  · have hG : sysOK x := dc_iff.1 (by simpa using h)
    refine wp_count (α := Unit) x.states.length (fun j y => ⟨lvl, [(1, .ta (cSystem x)), (4, .hd (lvl, 192) [] 0 (ends x j).length none (ends x j).length), (5, iI j)], [(192, .ar 1 (rI (ends x j)) true (ends x j).length 0)], S⟩) (fun _ _ => True) () ⟨by simp only [r_clean, r_okm1, r_okm4, r_okm11, r_okE0, r_okE1, r_okL0, r_okL2, ↓reduceIte, Nat.reduceEqDiff, reduceCtorEq, memB, keepB, keepOB, Bool.false_eq_true, and_self], by (simp only [cSystem, r_fgt, ↓reduceIte, Nat.reduceEqDiff, reduceCtorEq, memB, keepB, keepOB, Bool.false_eq_true, Int.cast_ofNat_Int]) <;> rfl⟩ trivial ?_
    intro j _ hj _
    simp only [List.length_map, cSystem, r_cons, r_nil, r_kont, r_seq1, r_seq2, r_blk2, r_fn2, r_sk, r_rg, r_sq, r_bl, r_ex, r_rt, r_cd, r_cd2, r_op1, r_go1, r_mv, r_bi, r_lti, r_ln, r_ln1, r_op3, r_fa, r_fa1, r_kill, r_ltr, r_ld, r_ld1, r_ld4, r_kcn, r_kagn, r_sn0, r_sn1, r_sn3, r_ca, r_ca1, r_fin, r_kfe2, r_kcx, r_exps0, r_exps1, r_kex, r_exp1, r_expv2, r_expv4, r_expc7, r_exh1, r_round2, r_lt1, ptd, lk, pt, lkO, xv, kv, kc, ↓reduceIte, Nat.reduceEqDiff, List.length_cons, List.length_nil, Nat.reduceAdd, Nat.reduceLT, true_and, and_true, decide_eq_true_eq, List.map_cons, List.map_nil, List.cons_append, List.nil_append, List.getElem?_cons_zero, List.drop_zero, List.take_succ_cons, List.take_zero, List.headD_cons, mens, men, scrE, scrL, scr, rmO, Nat.zero_add, Nat.le_refl, List.length_map, and_self]
    refine ite_of (fun hlt => ?_) (fun hge => ?_)
    · have hja : j < x.states.length := by omega
      refine kca_intro (sem_l10From x j hl) ?_
      simp only [List.length_map, r_cons, r_nil, r_kont, r_seq1, r_blk1, r_sk, r_rg, r_cd, r_cd2, r_op1, r_go1, r_mv, r_bs, r_fills0, r_fills1, r_fl2, r_kfill, r_bi, r_add0, r_eqi, r_ln, r_ln1, r_op3, r_rde, r_rd3, r_stamp0, r_pack, r_fgt, r_clean, r_okm1, r_okm4, r_okm11, r_okE0, r_okE1, r_okL0, r_okL2, r_round1, r_apgo, r_apx2, r_aph, r_ap, r_kap, r_ap0h, r_rep1, r_cut1, r_scr1, r_unr1, r_max, r_lt1, bigN, ptd, keyOf, freshK, lk, pt, lkO, ptO, addO, xv, kv, kc, trv, ↓reduceIte, Nat.reduceEqDiff, Nat.reduceMul, List.length_cons, List.length_nil, Nat.reduceLeDiff, Nat.reduceLT, true_and, decide_eq_true_eq, List.map_cons, List.map_nil, noSh, isSc, impv, impc, memB, keepB, keepOB, or_true, Bool.false_eq_true, List.all_cons, List.all_nil, isCell, Bool.and_self, cellsOf, totr, totrs, tocs, getp, Nat.zero_add, List.set_cons_zero, Nat.le_refl, List.length_map, and_self]
      refine ite_of (fun he => ?_) (fun hne => ?_)
      · have hle := ends_le (x := x) (j := j)
        refine ⟨by omega, by rw [fits_i64]; omega, cntJ_intro () hja ?_ trivial⟩
        rw [ends_yes (by omega), List.length_append, rI_append]
        rfl
      · refine ⟨by rw [fits_i64]; omega, cntJ_intro () hja ?_ trivial⟩
        rw [ends_no (by omega)]
        rfl
    · have : j = x.states.length := by omega
      subst this
      rw [r0_EndStates_yes hG, dc_true hG]
theorem sem_impl_EndStates0 (x : TSystem) (hx : x.states.length ≤ 4294967296) (hl : x.steps.length ≤ 4294967296) (lvl : Nat) (S : Sto) : Sem Go.Proofs.Try.prog fid_impl_EndStates lvl [.ag ((cSystem x).map .tr)] S (.tu [.ow 1 (rI (r0_EndStates x)) true, iB (dc (sysOK x))]) S := by
  refine sem_of_chk k_impl_EndStates ⟨trivial, trivial, trivial⟩ ?_
  simp only [c_impl_EndStates, cSystem, r_cons, r_nil, r_kont, r_seq1, r_rg, r_sq, r_wpF, r_op1, r_go1, r_mv, r_bt, r_bt1, r_ld, r_ld4, r_kcn, r_kagn, r_sn0, r_sn1, r_sn3, r_ca, r_ca1, ptd, lk, pt, xv, kv, kc, params, ↓reduceIte, Nat.reduceEqDiff, reduceCtorEq, List.length_cons, List.length_nil, Nat.reduceAdd, Nat.reduceLeDiff, Nat.reduceLT, true_and, List.map_cons, List.map_nil, List.cons_append, List.nil_append, List.take_succ_cons, List.take_zero, mens, men, List.all_cons, List.all_nil, isCell, Bool.and_true, Bool.and_self, cellsOf, totr, totrs, tocs, Nat.zero_add, Nat.le_refl, and_self]
  refine kca_intro (sem_isSystem x (by omega) (by omega)) ?_
  simp only [List.length_map, r_cons, r_nil, r_kont, r_seq1, r_seq3, r_fn2, r_sk, r_rg, r_sq, r_bl, r_rt, r_cd, r_cd2, r_op1, r_go1, r_mv, r_bs, r_fills0, r_kfill, r_nt, r_nt1, r_ln, r_ln1, r_op3, r_fa, r_fa1, r_ltr, r_ld, r_ld1, r_fin, r_kfe2, r_kcx, r_exps0, r_exps1, r_kex, r_exp1, r_expv2, r_expv3, r_expc2, ptd, keyOf, freshK, lk, pt, lkO, ptO, addO, xv, kv, kc, ↓reduceIte, Nat.reduceEqDiff, Nat.reduceMul, reduceCtorEq, List.length_nil, Nat.reduceLT, true_and, and_true, List.map_nil, List.getElem?_cons_zero, List.drop_zero, List.headD_cons, noSh, isSc, impv, or_true, Bool.not_eq_true', List.length_map, List.replicate_zero, and_self]
  refine ite_of (fun h => ?_) (fun h => ?_)
  · have hn := dc_not.1 h
    rw [r0_EndStates_no hn, h]
    rfl
  · have hG : sysOK x := dc_iff.1 (by simpa using h)
    refine wp_count (α := Unit) x.states.length (fun j y => ⟨lvl, [(1, .ta (cSystem x)), (4, .hd (lvl, 288) [] 0 (ends x j).length none (ends x j).length), (12, iI x.states.length), (13, iI j)], [(288, .ar 1 (rI (ends x j)) true (ends x j).length 0)], S⟩) (fun _ _ => True) () ⟨by simp only [r_clean, r_okm1, r_okm4, r_okm11, r_okE0, r_okE1, r_okL0, r_okL2, ↓reduceIte, Nat.reduceEqDiff, reduceCtorEq, memB, keepB, keepOB, Bool.false_eq_true, and_self], by (simp only [cSystem, r_fgt, ↓reduceIte, Nat.reduceEqDiff, reduceCtorEq, memB, keepB, keepOB, Bool.false_eq_true, Int.cast_ofNat_Int]) <;> rfl⟩ trivial ?_
    intro j _ hj _
    simp only [List.length_map, cSystem, r_cons, r_nil, r_kont, r_seq1, r_seq2, r_blk2, r_fn2, r_sk, r_rg, r_sq, r_bl, r_ex, r_rt, r_cd, r_cd2, r_op1, r_go1, r_mv, r_bi, r_lti, r_kill, r_ld, r_ld4, r_kcn, r_kagn, r_sn0, r_sn1, r_sn3, r_ca, r_ca1, r_fin, r_kfe2, r_kcx, r_exps0, r_exps1, r_kex, r_exp1, r_expv2, r_expv4, r_expc7, r_exh1, r_round2, r_lt1, ptd, lk, pt, lkO, xv, kv, kc, ↓reduceIte, Nat.reduceEqDiff, List.length_cons, List.length_nil, Nat.reduceAdd, Nat.reduceLT, true_and, and_true, decide_eq_true_eq, List.map_cons, List.map_nil, List.cons_append, List.nil_append, List.take_succ_cons, List.take_zero, List.headD_cons, mens, men, scrE, scrL, scr, rmO, Nat.zero_add, Nat.le_refl, List.length_map, and_self]
    refine ite_of (fun hlt => ?_) (fun hge => ?_)
    · have hja : j < x.states.length := by omega
      refine kca_intro (sem_System_next x j hl) ?_
      simp only [List.length_map, r_cons, r_nil, r_kont, r_seq1, r_blk1, r_sk, r_rg, r_cd, r_cd2, r_op1, r_go1, r_mv, r_bs, r_fills0, r_fills1, r_fl2, r_kfill, r_bi, r_add0, r_eqi, r_ln, r_ln1, r_op3, r_rde, r_rd3, r_stamp0, r_pack, r_fgt, r_clean, r_okm1, r_okm4, r_okm11, r_okE0, r_okE1, r_okL0, r_okL2, r_round1, r_apgo, r_apx2, r_aph, r_ap, r_kap, r_ap0h, r_rep1, r_cut1, r_scr1, r_unr1, r_max, r_lt1, bigN, ptd, keyOf, freshK, lk, pt, lkO, ptO, addO, xv, kv, kc, trv, ↓reduceIte, Nat.reduceEqDiff, Nat.reduceMul, List.length_cons, List.length_nil, Nat.reduceLeDiff, Nat.reduceLT, true_and, decide_eq_true_eq, List.map_cons, List.map_nil, noSh, isSc, impv, impc, memB, keepB, keepOB, or_true, Bool.false_eq_true, List.all_cons, List.all_nil, isCell, Bool.and_self, cellsOf, totr, totrs, tocs, getp, Nat.zero_add, List.set_cons_zero, Nat.le_refl, List.length_map, and_self]
      refine ite_of (fun he => ?_) (fun hne => ?_)
      · have hle := ends_le (x := x) (j := j)
        refine ⟨by omega, by rw [fits_i64]; omega, cntJ_intro () hja ?_ trivial⟩
        rw [ends_yes (by omega), List.length_append, rI_append]
        rfl
      · refine ⟨by rw [fits_i64]; omega, cntJ_intro () hja ?_ trivial⟩
        rw [ends_no (by omega)]
        rfl
    · have : j = x.states.length := by omega
      subst this
      rw [r0_EndStates_yes hG, dc_true hG]
noncomputable def r1_EndStates (x : TSystem) : Bool := dc (sysOK x)
theorem sem_spec_EndStates (x : TSystem) (hb : bdSystem 4294967296 x) (lvl : Nat) (S : Sto) : Sem Go.Proofs.Try.prog fid_spec_EndStates lvl [.ag ((cSystem x).map .tr)] S (.tu [.ow 1 (rI (r0_EndStates x)) true, iB (r1_EndStates x)]) S := sem_spec_EndStates0 x hb.1 hb.2.2 lvl S
theorem sem_impl_EndStates (x : TSystem) (hb : bdSystem 4294967296 x) (lvl : Nat) (S : Sto) : Sem Go.Proofs.Try.prog fid_impl_EndStates lvl [.ag ((cSystem x).map .tr)] S (.tu [.ow 1 (rI (r0_EndStates x)) true, iB (r1_EndStates x)]) S := sem_impl_EndStates0 x hb.1 hb.2.2 lvl S
end Go.Fd

/-
  The annotated codes of the functions, printed by a program of mine (gen.py), and the check that they belong to the program.
-/
namespace Go.Fd
def c_laws_FnExactEndStates : F2 :=
  { nt := 96, res := [.t 2 [0]], body :=
   (.sq (.rg none [⟨some 1, none, .bt (.t 0)⟩,
      ⟨some 2, none, .mv (.k (.bool false)) none⟩])
   (.sq (.rg none [⟨some 3, none, .mv (.k (.int .i64 1048576)) none⟩])
   (.sq (.rg none [⟨some 14, none, .ld (some 2) (.t 1)⟩,
      ⟨some 15, none, .mv (.t 3) none⟩,
      ⟨some 16, none, .ca .pure false (.f fid_laws_szSystem) [.t 14, .t 15]⟩,
      ⟨some 3, none, .mv (.t 16) none⟩])
   (.sq (.sq (.rg none [⟨some 17, none, .mv (.t 3) none⟩,
       ⟨some 18, none, .bi .lss 0 (.t 17) (.k (.int .i64 0))⟩])
    (.cd (.t 18) (.sq (.rg none [⟨some 2, none, .mv (.k (.bool true)) none⟩])
     (.rt))
    (.sk)))
   (.sq (.rg none [⟨some 20, none, .ld (some 2) (.t 1)⟩,
      ⟨some 21, none, .ca .pure false (.f fid_laws_toSystem) [.t 20]⟩,
      ⟨some 22, none, .ca .pure false (.f fid_spec_EndStates) [.t 21]⟩,
      ⟨some 19, none, .mv (.t 22) none⟩,
      ⟨some 23, none, .ex 0 (.t 19)⟩,
      ⟨some 24, none, .ex 1 (.t 19)⟩,
      ⟨some 4, none, .mv (.t 23) none⟩,
      ⟨some 5, none, .mv (.t 24) none⟩])
   (.sq (.rg none [⟨some 25, none, .ld (some 2) (.t 1)⟩,
      ⟨some 26, none, .ca .pure true (.f fid_laws_toSystem) [.t 25]⟩,
      ⟨some 6, none, .al [.slice none 0 0, .slice none 0 0] []⟩,
      ⟨none, none, .st 2 (.t 6) (.t 26)⟩])
   (.sq (.rg none [⟨some 28, none, .ld (some 2) (.t 6)⟩,
      ⟨some 29, none, .ca .pure true (.f fid_impl_EndStates) [.t 28]⟩,
      ⟨some 27, none, .mv (.t 29) none⟩,
      ⟨some 30, none, .ex 0 (.t 27)⟩,
      ⟨some 31, none, .ex 1 (.t 27)⟩,
      ⟨some 7, none, .mv (.t 30) none⟩,
      ⟨some 8, none, .mv (.t 31) none⟩])
   (.sq (.sq (.rg none [⟨some 32, none, .mv (.t 7) none⟩,
       ⟨some 33, none, .mv (.t 4) none⟩,
       ⟨some 34, none, .ca .pure false (.f fid_laws_eqIntS) [.t 32, .t 33]⟩,
       ⟨some 35, none, .nt (.t 34)⟩,
       ⟨some 36, none, .mv (.t 35) none⟩,
       ⟨some 37, (some (36, false)), .mv (.t 8) none⟩,
       ⟨some 38, (some (36, false)), .mv (.t 5) none⟩,
       ⟨some 39, (some (36, false)), .bi .neq 2 (.t 37) (.t 38)⟩,
       ⟨some 40, none, .pk (.t 36) (.k (.bool true)) (.t 39)⟩])
    (.cd (.t 40) (.sq (.rg none [⟨some 2, none, .mv (.k (.bool false)) none⟩])
     (.rt))
    (.sk)))
   (.sq (.sq (.rg (some 0) [⟨some 41, none, .ld (some 2) (.t 6)⟩,
       ⟨some 42, none, .ld (some 2) (.t 1)⟩,
       ⟨some 43, none, .ca .pure false (.f fid_laws_toSystem) [.t 42]⟩,
       ⟨some 44, none, .ca .pure false (.f fid_laws_eqSystem) [.t 41, .t 43]⟩,
       ⟨some 45, none, .nt (.t 44)⟩])
    (.cd (.t 45) (.sq (.rg none [⟨some 2, none, .mv (.k (.bool false)) none⟩])
     (.rt))
    (.sk)))
   (.sq (.rg none [⟨some 9, none, .mv (.k (.int .i64 1)) none⟩])
   (.sq (.rg none [⟨some 46, none, .ld (some 2) (.t 6)⟩,
      ⟨some 47, none, .mv (.t 9) none⟩,
      ⟨some 48, none, .ca .any true (.f fid_laws_markSystem) [.t 46, .t 47]⟩,
      ⟨some 9, none, .mv (.t 48) none⟩])
   (.sq (.sq (.rg none [⟨some 49, none, .mv (.t 9) none⟩,
       ⟨some 50, none, .bi .lss 0 (.t 49) (.k (.int .i64 0))⟩,
       ⟨some 51, none, .mv (.t 50) none⟩,
       ⟨some 52, (some (51, false)), .mv (.t 7) none⟩,
       ⟨some 53, (some (51, false)), .mv (.t 4) none⟩,
       ⟨some 54, (some (51, false)), .ca .pure false (.f fid_laws_eqIntS) [.t 52, .t 53]⟩,
       ⟨some 55, (some (51, false)), .nt (.t 54)⟩,
       ⟨some 56, none, .pk (.t 51) (.k (.bool true)) (.t 55)⟩,
       ⟨some 57, none, .mv (.t 56) none⟩,
       ⟨some 58, (some (57, false)), .mv (.t 8) none⟩,
       ⟨some 59, (some (57, false)), .mv (.t 5) none⟩,
       ⟨some 60, (some (57, false)), .bi .neq 2 (.t 58) (.t 59)⟩,
       ⟨some 61, none, .pk (.t 57) (.k (.bool true)) (.t 60)⟩])
    (.cd (.t 61) (.sq (.rg none [⟨some 2, none, .mv (.k (.bool false)) none⟩])
     (.rt))
    (.sk)))
   (.sq (.rg none [⟨some 10, none, .mv (.k (.int .i64 1)) none⟩])
   (.sq (.rg none [⟨some 62, none, .mv (.t 7) none⟩,
      ⟨some 63, none, .mv (.t 10) none⟩,
      ⟨some 64, none, .ca .any true (.f fid_laws_markIntS) [.t 62, .t 63]⟩,
      ⟨some 10, none, .mv (.t 64) none⟩])
   (.sq (.rg none [⟨some 11, none, .mv (.k (.int .i64 1)) none⟩])
   (.sq (.rg none [⟨some 65, none, .mv (.t 7) none⟩,
      ⟨some 66, none, .mv (.t 11) none⟩,
      ⟨some 67, none, .ca .pure false (.f fid_laws_heldIntS) [.t 65, .t 66]⟩,
      ⟨some 11, none, .mv (.t 67) none⟩])
   (.sq (.sq (.rg none [⟨some 68, none, .mv (.t 11) none⟩,
       ⟨some 69, none, .bi .lss 0 (.t 68) (.k (.int .i64 0))⟩])
    (.cd (.t 69) (.sq (.rg none [⟨some 2, none, .mv (.k (.bool false)) none⟩])
     (.rt))
    (.sk)))
   (.sq (.sq (.rg none [⟨some 70, none, .mv (.t 11) none⟩,
       ⟨some 71, none, .mv (.t 10) none⟩,
       ⟨some 72, none, .bi .neq 0 (.t 70) (.t 71)⟩])
    (.cd (.t 72) (.sq (.rg none [⟨some 2, none, .mv (.k (.bool false)) none⟩])
     (.rt))
    (.sk)))
   (.sq (.rg none [⟨some 74, none, .ld (some 2) (.t 1)⟩,
      ⟨some 75, none, .ca .pure false (.f fid_laws_toSystem) [.t 74]⟩,
      ⟨some 76, none, .ca .pure false (.f fid_impl_EndStates) [.t 75]⟩,
      ⟨some 73, none, .mv (.t 76) none⟩,
      ⟨some 77, none, .ex 0 (.t 73)⟩,
      ⟨some 78, none, .ex 1 (.t 73)⟩,
      ⟨some 12, none, .mv (.t 77) none⟩,
      ⟨some 13, none, .mv (.t 78) none⟩])
   (.sq (.sq (.rg none [⟨some 79, none, .mv (.t 12) none⟩,
       ⟨some 80, none, .mv (.t 4) none⟩,
       ⟨some 81, none, .ca .pure false (.f fid_laws_eqIntS) [.t 79, .t 80]⟩,
       ⟨some 82, none, .nt (.t 81)⟩,
       ⟨some 83, none, .mv (.t 82) none⟩,
       ⟨some 84, (some (83, false)), .mv (.t 13) none⟩,
       ⟨some 85, (some (83, false)), .mv (.t 5) none⟩,
       ⟨some 86, (some (83, false)), .bi .neq 2 (.t 84) (.t 85)⟩,
       ⟨some 87, none, .pk (.t 83) (.k (.bool true)) (.t 86)⟩])
    (.cd (.t 87) (.sq (.rg none [⟨some 2, none, .mv (.k (.bool false)) none⟩])
     (.rt))
    (.sk)))
   (.sq (.rg none [⟨some 11, none, .mv (.k (.int .i64 1)) none⟩])
   (.sq (.rg none [⟨some 88, none, .mv (.t 7) none⟩,
      ⟨some 89, none, .mv (.t 11) none⟩,
      ⟨some 90, none, .ca .pure false (.f fid_laws_heldIntS) [.t 88, .t 89]⟩,
      ⟨some 11, none, .mv (.t 90) none⟩])
   (.sq (.sq (.rg none [⟨some 91, none, .mv (.t 11) none⟩,
       ⟨some 92, none, .bi .lss 0 (.t 91) (.k (.int .i64 0))⟩])
    (.cd (.t 92) (.sq (.rg none [⟨some 2, none, .mv (.k (.bool false)) none⟩])
     (.rt))
    (.sk)))
   (.sq (.sq (.rg none [⟨some 93, none, .mv (.t 11) none⟩,
       ⟨some 94, none, .mv (.t 10) none⟩,
       ⟨some 95, none, .bi .neq 0 (.t 93) (.t 94)⟩])
    (.cd (.t 95) (.sq (.rg none [⟨some 2, none, .mv (.k (.bool false)) none⟩])
     (.rt))
    (.sk)))
   (.sq (.rg none [⟨some 2, none, .mv (.k (.bool true)) none⟩])
   (.rt)))))))))))))))))))))))))) }
theorem k_laws_FnExactEndStates : chkF Go.Proofs.Try.prog fid_laws_FnExactEndStates c_laws_FnExactEndStates = true := by kernel_rfl

def c_laws_markSystem : F2 :=
  { nt := 14, res := [.t 4 [0]], body :=
   (.sq (.rg none [⟨some 2, none, .bx (.t 0)⟩,
      ⟨some 4, none, .mv (.k (.int .i64 0)) none⟩])
   (.sq (.rg none [⟨some 5, none, .fa 0 (.t 2)⟩,
      ⟨some 6, none, .ld none (.t 5)⟩,
      ⟨some 7, none, .mv (.t 1) none⟩,
      ⟨some 8, none, .ca .any true (.f fid_laws_markBigraphS) [.t 6, .t 7]⟩,
      ⟨some 1, none, .mv (.t 8) none⟩])
   (.sq (.rg none [⟨some 9, none, .fa 1 (.t 2)⟩,
      ⟨some 10, none, .ld none (.t 9)⟩,
      ⟨some 11, none, .mv (.t 1) none⟩,
      ⟨some 12, none, .ca .any true (.f fid_laws_markIntA3S) [.t 10, .t 11]⟩,
      ⟨some 1, none, .mv (.t 12) none⟩])
   (.sq (.rg none [⟨some 13, none, .mv (.t 1) none⟩,
      ⟨some 4, none, .mv (.t 13) none⟩])
   (.rt))))) }
theorem k_laws_markSystem : chkF Go.Proofs.Try.prog fid_laws_markSystem c_laws_markSystem = true := by kernel_rfl

def c_laws_markIntS : F2 :=
  { nt := 19, res := [.t 4 [0]], body :=
   (.sq (.rg none [⟨some 4, none, .mv (.k (.int .i64 0)) none⟩])
   (.sq (.sq (.rg none [⟨some 5, none, .mv (.k (.int .i64 0)) none⟩])
    (.bl 0 (.lp [0, 1, 5] [] (.sq (.sq (.rg none [⟨some 6, none, .mv (.t 5) none⟩,
          ⟨some 7, none, .mv (.t 0) none⟩,
          ⟨some 8, none, .ln (.t 7)⟩,
          ⟨some 9, none, .bi .lss 0 (.t 6) (.t 8)⟩])
       (.cd (.t 9) (.sk)
       (.ex 0)))
      (.sq (.bl 1 (.sq (.rg none [⟨some 12, none, .mv (.t 0) none⟩,
           ⟨some 13, none, .mv (.t 5) none⟩,
           ⟨some 14, none, .mv (.t 1) none⟩,
           ⟨some 15, none, .ia 1 (.t 12) (.t 13)⟩,
           ⟨none, none, .st 1 (.t 15) (.t 14)⟩])
        (.rg none [⟨some 16, none, .mv (.t 1) none⟩,
          ⟨some 17, none, .bi .add 0 (.t 16) (.k (.int .i64 1))⟩,
          ⟨some 1, none, .mv (.t 17) none⟩])))
      (.rg none [⟨some 10, none, .mv (.t 5) none⟩,
        ⟨some 11, none, .bi .add 0 (.t 10) (.k (.int .i64 1))⟩,
        ⟨some 5, none, .mv (.t 11) none⟩]))))))
   (.sq (.rg none [⟨some 18, none, .mv (.t 1) none⟩,
      ⟨some 4, none, .mv (.t 18) none⟩])
   (.rt)))) }
theorem k_laws_markIntS : chkF Go.Proofs.Try.prog fid_laws_markIntS c_laws_markIntS = true := by kernel_rfl

def c_laws_heldIntS : F2 :=
  { nt := 21, res := [.t 4 [0]], body :=
   (.sq (.rg none [⟨some 4, none, .mv (.k (.int .i64 0)) none⟩])
   (.sq (.sq (.rg none [⟨some 5, none, .mv (.k (.int .i64 0)) none⟩])
    (.bl 0 (.lp [0, 1, 5] [] (.sq (.sq (.rg none [⟨some 6, none, .mv (.t 5) none⟩,
          ⟨some 7, none, .mv (.t 0) none⟩,
          ⟨some 8, none, .ln (.t 7)⟩,
          ⟨some 9, none, .bi .lss 0 (.t 6) (.t 8)⟩])
       (.cd (.t 9) (.sk)
       (.ex 0)))
      (.sq (.bl 1 (.sq (.sq (.rg none [⟨some 12, none, .mv (.t 0) none⟩,
            ⟨some 13, none, .mv (.t 5) none⟩,
            ⟨some 14, none, .ia 1 (.t 12) (.t 13)⟩,
            ⟨some 15, none, .ld none (.t 14)⟩,
            ⟨some 16, none, .mv (.t 1) none⟩,
            ⟨some 17, none, .bi .neq 0 (.t 15) (.t 16)⟩])
         (.cd (.t 17) (.sq (.rg none [⟨some 4, none, .mv (.k (.int .i64 (-1))) none⟩])
          (.rt))
         (.sk)))
        (.rg none [⟨some 18, none, .mv (.t 1) none⟩,
          ⟨some 19, none, .bi .add 0 (.t 18) (.k (.int .i64 1))⟩,
          ⟨some 1, none, .mv (.t 19) none⟩])))
      (.rg none [⟨some 10, none, .mv (.t 5) none⟩,
        ⟨some 11, none, .bi .add 0 (.t 10) (.k (.int .i64 1))⟩,
        ⟨some 5, none, .mv (.t 11) none⟩]))))))
   (.sq (.rg none [⟨some 20, none, .mv (.t 1) none⟩,
      ⟨some 4, none, .mv (.t 20) none⟩])
   (.rt)))) }
theorem k_laws_heldIntS : chkF Go.Proofs.Try.prog fid_laws_heldIntS c_laws_heldIntS = true := by kernel_rfl

def c_laws_markBigraphS : F2 :=
  { nt := 55, res := [.t 4 [0]], body :=
   (.sq (.rg none [⟨some 4, none, .mv (.k (.int .i64 0)) none⟩])
   (.sq (.sq (.rg none [⟨some 5, none, .mv (.k (.int .i64 0)) none⟩])
    (.bl 0 (.lp [0, 1, 5] [] (.sq (.sq (.rg none [⟨some 6, none, .mv (.t 5) none⟩,
          ⟨some 7, none, .mv (.t 0) none⟩,
          ⟨some 8, none, .ln (.t 7)⟩,
          ⟨some 9, none, .bi .lss 0 (.t 6) (.t 8)⟩])
       (.cd (.t 9) (.sk)
       (.ex 0)))
      (.sq (.bl 1 (.sq (.rg none [⟨some 12, none, .mv (.t 0) none⟩,
           ⟨some 13, none, .mv (.t 5) none⟩,
           ⟨some 14, none, .mv (.t 1) none⟩,
           ⟨some 15, none, .ia 6 (.t 12) (.t 13)⟩,
           ⟨some 16, none, .fa 0 (.t 15)⟩,
           ⟨none, none, .st 1 (.t 16) (.t 14)⟩])
        (.sq (.rg none [⟨some 17, none, .mv (.t 1) none⟩,
           ⟨some 18, none, .bi .add 0 (.t 17) (.k (.int .i64 1))⟩,
           ⟨some 1, none, .mv (.t 18) none⟩])
        (.sq (.rg none [⟨some 19, none, .mv (.t 0) none⟩,
           ⟨some 20, none, .mv (.t 5) none⟩,
           ⟨some 21, none, .ia 6 (.t 19) (.t 20)⟩,
           ⟨some 22, none, .fa 1 (.t 21)⟩,
           ⟨some 23, none, .ld none (.t 22)⟩,
           ⟨some 24, none, .mv (.t 1) none⟩,
           ⟨some 25, none, .ca .any true (.f fid_laws_markNodeS) [.t 23, .t 24]⟩,
           ⟨some 1, none, .mv (.t 25) none⟩])
        (.sq (.rg none [⟨some 26, none, .mv (.t 0) none⟩,
           ⟨some 27, none, .mv (.t 5) none⟩,
           ⟨some 28, none, .ia 6 (.t 26) (.t 27)⟩,
           ⟨some 29, none, .fa 2 (.t 28)⟩,
           ⟨some 30, none, .ld none (.t 29)⟩,
           ⟨some 31, none, .mv (.t 1) none⟩,
           ⟨some 32, none, .ca .any true (.f fid_laws_markIntS) [.t 30, .t 31]⟩,
           ⟨some 1, none, .mv (.t 32) none⟩])
        (.sq (.rg none [⟨some 33, none, .mv (.t 0) none⟩,
           ⟨some 34, none, .mv (.t 5) none⟩,
           ⟨some 35, none, .mv (.t 1) none⟩,
           ⟨some 36, none, .ia 6 (.t 33) (.t 34)⟩,
           ⟨some 37, none, .fa 3 (.t 36)⟩,
           ⟨none, none, .st 1 (.t 37) (.t 35)⟩])
        (.sq (.rg none [⟨some 38, none, .mv (.t 1) none⟩,
           ⟨some 39, none, .bi .add 0 (.t 38) (.k (.int .i64 1))⟩,
           ⟨some 1, none, .mv (.t 39) none⟩])
        (.sq (.rg none [⟨some 40, none, .mv (.t 0) none⟩,
           ⟨some 41, none, .mv (.t 5) none⟩,
           ⟨some 42, none, .ia 6 (.t 40) (.t 41)⟩,
           ⟨some 43, none, .fa 4 (.t 42)⟩,
           ⟨some 44, none, .ld none (.t 43)⟩,
           ⟨some 45, none, .mv (.t 1) none⟩,
           ⟨some 46, none, .ca .any true (.f fid_laws_markStringS) [.t 44, .t 45]⟩,
           ⟨some 1, none, .mv (.t 46) none⟩])
        (.rg none [⟨some 47, none, .mv (.t 0) none⟩,
          ⟨some 48, none, .mv (.t 5) none⟩,
          ⟨some 49, none, .ia 6 (.t 47) (.t 48)⟩,
          ⟨some 50, none, .fa 5 (.t 49)⟩,
          ⟨some 51, none, .ld none (.t 50)⟩,
          ⟨some 52, none, .mv (.t 1) none⟩,
          ⟨some 53, none, .ca .any true (.f fid_laws_markWireS) [.t 51, .t 52]⟩,
          ⟨some 1, none, .mv (.t 53) none⟩])))))))))
      (.rg none [⟨some 10, none, .mv (.t 5) none⟩,
        ⟨some 11, none, .bi .add 0 (.t 10) (.k (.int .i64 1))⟩,
        ⟨some 5, none, .mv (.t 11) none⟩]))))))
   (.sq (.rg none [⟨some 54, none, .mv (.t 1) none⟩,
      ⟨some 4, none, .mv (.t 54) none⟩])
   (.rt)))) }
theorem k_laws_markBigraphS : chkF Go.Proofs.Try.prog fid_laws_markBigraphS c_laws_markBigraphS = true := by kernel_rfl

def c_laws_markIntA3S : F2 :=
  { nt := 26, res := [.t 4 [0]], body :=
   (.sq (.rg none [⟨some 4, none, .mv (.k (.int .i64 0)) none⟩])
   (.sq (.sq (.rg none [⟨some 5, none, .mv (.k (.int .i64 0)) none⟩])
    (.bl 0 (.lp [0, 1, 5] [] (.sq (.sq (.rg none [⟨some 7, none, .mv (.t 5) none⟩,
          ⟨some 8, none, .mv (.t 0) none⟩,
          ⟨some 9, none, .ln (.t 8)⟩,
          ⟨some 10, none, .bi .lss 0 (.t 7) (.t 9)⟩])
       (.cd (.t 10) (.sk)
       (.ex 0)))
      (.sq (.bl 1 (.sq (.rg none [⟨some 6, none, .mv (.k (.int .i64 0)) none⟩])
        (.bl 2 (.lp [0, 1, 5, 6] [] (.sq (.sq (.rg none [⟨some 13, none, .mv (.t 6) none⟩,
              ⟨some 14, none, .bi .lss 0 (.t 13) (.k (.int .i64 3))⟩])
           (.cd (.t 14) (.sk)
           (.ex 2)))
          (.sq (.bl 3 (.sq (.rg none [⟨some 17, none, .mv (.t 0) none⟩,
               ⟨some 18, none, .mv (.t 5) none⟩,
               ⟨some 19, none, .mv (.t 6) none⟩,
               ⟨some 20, none, .mv (.t 1) none⟩,
               ⟨some 21, none, .ia 3 (.t 17) (.t 18)⟩,
               ⟨some 22, none, .ja 1 3 (.t 21) (.t 19)⟩,
               ⟨none, none, .st 1 (.t 22) (.t 20)⟩])
            (.rg none [⟨some 23, none, .mv (.t 1) none⟩,
              ⟨some 24, none, .bi .add 0 (.t 23) (.k (.int .i64 1))⟩,
              ⟨some 1, none, .mv (.t 24) none⟩])))
          (.rg none [⟨some 15, none, .mv (.t 6) none⟩,
            ⟨some 16, none, .bi .add 0 (.t 15) (.k (.int .i64 1))⟩,
            ⟨some 6, none, .mv (.t 16) none⟩])))))))
      (.rg none [⟨some 11, none, .mv (.t 5) none⟩,
        ⟨some 12, none, .bi .add 0 (.t 11) (.k (.int .i64 1))⟩,
        ⟨some 5, none, .mv (.t 12) none⟩]))))))
   (.sq (.rg none [⟨some 25, none, .mv (.t 1) none⟩,
      ⟨some 4, none, .mv (.t 25) none⟩])
   (.rt)))) }
theorem k_laws_markIntA3S : chkF Go.Proofs.Try.prog fid_laws_markIntA3S c_laws_markIntA3S = true := by kernel_rfl

def c_laws_markNodeS : F2 :=
  { nt := 34, res := [.t 4 [0]], body :=
   (.sq (.rg none [⟨some 4, none, .mv (.k (.int .i64 0)) none⟩])
   (.sq (.sq (.rg none [⟨some 5, none, .mv (.k (.int .i64 0)) none⟩])
    (.bl 0 (.lp [0, 1, 5] [] (.sq (.sq (.rg none [⟨some 6, none, .mv (.t 5) none⟩,
          ⟨some 7, none, .mv (.t 0) none⟩,
          ⟨some 8, none, .ln (.t 7)⟩,
          ⟨some 9, none, .bi .lss 0 (.t 6) (.t 8)⟩])
       (.cd (.t 9) (.sk)
       (.ex 0)))
      (.sq (.bl 1 (.sq (.rg none [⟨some 12, none, .mv (.t 0) none⟩,
           ⟨some 13, none, .mv (.t 5) none⟩,
           ⟨some 14, none, .mv (.t 1) none⟩,
           ⟨some 15, none, .ia 3 (.t 12) (.t 13)⟩,
           ⟨some 16, none, .fa 0 (.t 15)⟩,
           ⟨none, none, .st 1 (.t 16) (.t 14)⟩])
        (.sq (.rg none [⟨some 17, none, .mv (.t 1) none⟩,
           ⟨some 18, none, .bi .add 0 (.t 17) (.k (.int .i64 1))⟩,
           ⟨some 1, none, .mv (.t 18) none⟩])
        (.sq (.rg none [⟨some 19, none, .mv (.t 0) none⟩,
           ⟨some 20, none, .mv (.t 5) none⟩,
           ⟨some 21, none, .mv (.t 1) none⟩,
           ⟨some 22, none, .ia 3 (.t 19) (.t 20)⟩,
           ⟨some 23, none, .fa 1 (.t 22)⟩,
           ⟨none, none, .st 1 (.t 23) (.t 21)⟩])
        (.sq (.rg none [⟨some 24, none, .mv (.t 1) none⟩,
           ⟨some 25, none, .bi .add 0 (.t 24) (.k (.int .i64 1))⟩,
           ⟨some 1, none, .mv (.t 25) none⟩])
        (.rg none [⟨some 26, none, .mv (.t 0) none⟩,
          ⟨some 27, none, .mv (.t 5) none⟩,
          ⟨some 28, none, .ia 3 (.t 26) (.t 27)⟩,
          ⟨some 29, none, .fa 2 (.t 28)⟩,
          ⟨some 30, none, .ld none (.t 29)⟩,
          ⟨some 31, none, .mv (.t 1) none⟩,
          ⟨some 32, none, .ca .any true (.f fid_laws_markIntS) [.t 30, .t 31]⟩,
          ⟨some 1, none, .mv (.t 32) none⟩]))))))
      (.rg none [⟨some 10, none, .mv (.t 5) none⟩,
        ⟨some 11, none, .bi .add 0 (.t 10) (.k (.int .i64 1))⟩,
        ⟨some 5, none, .mv (.t 11) none⟩]))))))
   (.sq (.rg none [⟨some 33, none, .mv (.t 1) none⟩,
      ⟨some 4, none, .mv (.t 33) none⟩])
   (.rt)))) }
theorem k_laws_markNodeS : chkF Go.Proofs.Try.prog fid_laws_markNodeS c_laws_markNodeS = true := by kernel_rfl

def c_laws_markStringS : F2 :=
  { nt := 20, res := [.t 4 [0]], body :=
   (.sq (.rg none [⟨some 4, none, .mv (.k (.int .i64 0)) none⟩])
   (.sq (.sq (.rg none [⟨some 5, none, .mv (.k (.int .i64 0)) none⟩])
    (.bl 0 (.lp [0, 1, 5] [] (.sq (.sq (.rg none [⟨some 6, none, .mv (.t 5) none⟩,
          ⟨some 7, none, .mv (.t 0) none⟩,
          ⟨some 8, none, .ln (.t 7)⟩,
          ⟨some 9, none, .bi .lss 0 (.t 6) (.t 8)⟩])
       (.cd (.t 9) (.sk)
       (.ex 0)))
      (.sq (.bl 1 (.sq (.rg none [⟨some 12, none, .mv (.t 0) none⟩,
           ⟨some 13, none, .mv (.t 5) none⟩,
           ⟨some 14, none, .mv (.t 1) none⟩,
           ⟨some 15, none, .ca .pure false (.f fid_laws_markText) [.t 14]⟩,
           ⟨some 16, none, .ia 1 (.t 12) (.t 13)⟩,
           ⟨none, none, .st 1 (.t 16) (.t 15)⟩])
        (.rg none [⟨some 17, none, .mv (.t 1) none⟩,
          ⟨some 18, none, .bi .add 0 (.t 17) (.k (.int .i64 1))⟩,
          ⟨some 1, none, .mv (.t 18) none⟩])))
      (.rg none [⟨some 10, none, .mv (.t 5) none⟩,
        ⟨some 11, none, .bi .add 0 (.t 10) (.k (.int .i64 1))⟩,
        ⟨some 5, none, .mv (.t 11) none⟩]))))))
   (.sq (.rg none [⟨some 19, none, .mv (.t 1) none⟩,
      ⟨some 4, none, .mv (.t 19) none⟩])
   (.rt)))) }
theorem k_laws_markStringS : chkF Go.Proofs.Try.prog fid_laws_markStringS c_laws_markStringS = true := by kernel_rfl

def c_laws_markWireS : F2 :=
  { nt := 28, res := [.t 4 [0]], body :=
   (.sq (.rg none [⟨some 4, none, .mv (.k (.int .i64 0)) none⟩])
   (.sq (.sq (.rg none [⟨some 5, none, .mv (.k (.int .i64 0)) none⟩])
    (.bl 0 (.lp [0, 1, 5] [] (.sq (.sq (.rg none [⟨some 6, none, .mv (.t 5) none⟩,
          ⟨some 7, none, .mv (.t 0) none⟩,
          ⟨some 8, none, .ln (.t 7)⟩,
          ⟨some 9, none, .bi .lss 0 (.t 6) (.t 8)⟩])
       (.cd (.t 9) (.sk)
       (.ex 0)))
      (.sq (.bl 1 (.sq (.rg none [⟨some 12, none, .mv (.t 0) none⟩,
           ⟨some 13, none, .mv (.t 5) none⟩,
           ⟨some 14, none, .mv (.t 1) none⟩,
           ⟨some 15, none, .ca .pure false (.f fid_laws_markText) [.t 14]⟩,
           ⟨some 16, none, .ia 2 (.t 12) (.t 13)⟩,
           ⟨some 17, none, .fa 0 (.t 16)⟩,
           ⟨none, none, .st 1 (.t 17) (.t 15)⟩])
        (.sq (.rg none [⟨some 18, none, .mv (.t 1) none⟩,
           ⟨some 19, none, .bi .add 0 (.t 18) (.k (.int .i64 1))⟩,
           ⟨some 1, none, .mv (.t 19) none⟩])
        (.sq (.rg none [⟨some 20, none, .mv (.t 0) none⟩,
           ⟨some 21, none, .mv (.t 5) none⟩,
           ⟨some 22, none, .mv (.t 1) none⟩,
           ⟨some 23, none, .ia 2 (.t 20) (.t 21)⟩,
           ⟨some 24, none, .fa 1 (.t 23)⟩,
           ⟨none, none, .st 1 (.t 24) (.t 22)⟩])
        (.rg none [⟨some 25, none, .mv (.t 1) none⟩,
          ⟨some 26, none, .bi .add 0 (.t 25) (.k (.int .i64 1))⟩,
          ⟨some 1, none, .mv (.t 26) none⟩])))))
      (.rg none [⟨some 10, none, .mv (.t 5) none⟩,
        ⟨some 11, none, .bi .add 0 (.t 10) (.k (.int .i64 1))⟩,
        ⟨some 5, none, .mv (.t 11) none⟩]))))))
   (.sq (.rg none [⟨some 27, none, .mv (.t 1) none⟩,
      ⟨some 4, none, .mv (.t 27) none⟩])
   (.rt)))) }
theorem k_laws_markWireS : chkF Go.Proofs.Try.prog fid_laws_markWireS c_laws_markWireS = true := by kernel_rfl

def c_laws_markText : F2 :=
  { nt := 20, res := [.t 2 [0]], body :=
   (.sq (.rg none [⟨some 2, none, .mv (.k (.string ⟨#[]⟩)) none⟩])
   (.sq (.sq (.rg none [⟨some 4, none, .mv (.t 0) none⟩,
       ⟨some 5, none, .bi .leq 0 (.t 4) (.k (.int .i64 0))⟩])
    (.cd (.t 5) (.sq (.rg none [⟨some 2, none, .mv (.k (.string ⟨#[109, 48]⟩)) none⟩])
     (.rt))
    (.sk)))
   (.sq (.rg none [⟨some 3, none, .mv (.k (.string ⟨#[]⟩)) none⟩])
   (.sq (.bl 0 (.lp [0, 3] [] (.sq (.sq (.rg none [⟨some 6, none, .mv (.t 0) none⟩,
          ⟨some 7, none, .bi .gtr 0 (.t 6) (.k (.int .i64 0))⟩])
       (.cd (.t 7) (.sk)
       (.ex 0)))
      (.bl 1 (.sq (.rg none [⟨some 8, none, .mv (.t 0) none⟩,
          ⟨some 9, none, .bi .rem 0 (.t 8) (.k (.int .i64 10))⟩,
          ⟨some 10, none, .bi .add 0 (.k (.int .i64 48)) (.t 9)⟩,
          ⟨some 11, none, .cv (.int .u8) (.t 10)⟩,
          ⟨some 12, none, .bs 1 1 [.int .u8 0] [(0, .t 11)]⟩,
          ⟨some 13, none, .sb (.t 12)⟩,
          ⟨some 14, none, .mv (.t 3) none⟩,
          ⟨some 15, none, .bi .add 0 (.t 13) (.t 14)⟩,
          ⟨some 3, none, .mv (.t 15) none⟩])
       (.rg none [⟨some 16, none, .mv (.t 0) none⟩,
         ⟨some 17, none, .bi .quo 0 (.t 16) (.k (.int .i64 10))⟩,
         ⟨some 0, none, .mv (.t 17) none⟩]))))))
   (.sq (.rg none [⟨some 18, none, .mv (.t 3) none⟩,
      ⟨some 19, none, .bi .add 0 (.k (.string ⟨#[109]⟩)) (.t 18)⟩,
      ⟨some 2, none, .mv (.t 19) none⟩])
   (.rt)))))) }
theorem k_laws_markText : chkF Go.Proofs.Try.prog fid_laws_markText c_laws_markText = true := by kernel_rfl

end Go.Fd

/-
  THE TEXT OF A MARK; THE MARKS OF NUMBERS AND TEXTS. Own work.
-/
namespace Go.Fd
set_option maxRecDepth 20000
abbrev mInt (_ : Int) (k : Int) : Int := k
abbrev nInt (_ : Int) : Nat := 1
def mt (q : Nat) (o : ByteArray) : ByteArray := if q = 0 then o else mt (q / 10) (⟨#[UInt8.ofNat (48 + q % 10)]⟩ ++ o)
  termination_by q
  decreasing_by omega
theorem mt_pos {q : Nat} {o : ByteArray} (h : 0 < q) : mt q o = mt (q / 10) (⟨#[UInt8.ofNat (48 + q % 10)]⟩ ++ o) := by
  rw [mt, if_neg (by omega)]
theorem mt_zero {o : ByteArray} : mt 0 o = o := by rw [mt, if_pos rfl]
def markT (k : Int) : ByteArray := if k ≤ 0 then ⟨#[109, 48]⟩ else ⟨#[109]⟩ ++ mt k.toNat ⟨#[]⟩
theorem sem_markText (k : Int) (h : k ≤ 4611686018427387904) (lvl : Nat) (S : Sto) : Sem Go.Proofs.Try.prog fid_laws_markText lvl [iI k] S (iS (markT k)) S := by
  refine sem_of_chk k_laws_markText trivial ?_
  simp only [c_laws_markText, r_cons, r_nil, r_kont, r_seq1, r_seq3, r_fn2, r_sk, r_rg, r_sq, r_bl, r_rt, r_cd, r_cd2, r_wpF, r_op1, r_go1, r_mv, r_bi, r_lei, r_fin, r_kfe1, r_kcx, r_exps0, r_exps1, r_kex, r_exp1, r_expv2, r_lt1, ptd, lk, pt, xv, kv, kc, params, ↓reduceIte, Nat.reduceEqDiff, reduceCtorEq, List.length_cons, List.length_nil, Nat.reduceLeDiff, Nat.reduceLT, true_and, and_true, decide_eq_true_eq, Nat.zero_add]
  unfold markT
  refine ite_of (fun h0 => ?_) (fun h0 => ?_)
  · rw [if_pos h0]
  · rw [if_neg h0]
    obtain ⟨K, hK⟩ : ∃ K : Nat, k = K := ⟨k.toNat, by omega⟩
    subst hK
    rw [Int.toNat_natCast]
    refine wp_count (α := Nat × ByteArray) K (fun j y => ⟨lvl, [(0, iI y.1), (3, iS y.2)], [], S⟩) (fun j y => y.1 + j ≤ K ∧ mt y.1 y.2 = mt K ⟨#[]⟩ ∧ y.1 * 10 ^ y.2.size ≤ K ∧ y.2.size ≤ 19) (K, ⟨#[]⟩) ⟨by simp only [r_clean, r_okm4, r_okE0, r_okE1, r_okL0, ↓reduceIte, Nat.reduceEqDiff, reduceCtorEq, memB, keepB, keepOB, Bool.false_eq_true, and_self], by simp only [r_fgt, ↓reduceIte, Nat.reduceEqDiff, reduceCtorEq, memB, keepB, keepOB, Bool.false_eq_true]⟩ ⟨Nat.le_refl _, rfl, Nat.le_of_eq (Nat.mul_one K), (by decide : (0 : Nat) ≤ 19)⟩ ?_
    intro j y hj hA
    obtain ⟨q, o⟩ := y
    obtain ⟨h1, h2, h3, h4⟩ := hA
    simp only at h1 h2 h3 h4
    simp only [r_cons, r_nil, r_kont, r_seq1, r_seq2, r_blk2, r_fn2, r_sk, r_rg, r_sq, r_bl, r_ex, r_rt, r_cd, r_cd2, r_op1, r_go1, r_mv, r_bs, r_fills0, r_fills1, r_fl2, r_kfill, r_bi, r_add0, r_rem, r_gti, r_adds, r_cv, r_cv1, r_op3, r_rde, r_rd3, r_stamp0, r_pack, r_sbh, r_sb, r_sb3, r_fin, r_kfe1, r_kcx, r_exps0, r_exps1, r_kex, r_exp1, r_expv2, r_round2, r_rep1, r_cut1, r_lt1, bigN, ptd, keyOf, freshK, lk, pt, lkO, ptO, xv, kv, kc, trv, ↓reduceIte, Nat.reduceEqDiff, Nat.reduceMul, reduceCtorEq, List.length_cons, List.length_nil, Nat.reduceLT, true_and, and_true, decide_eq_true_eq, List.map_cons, List.map_nil, Int.reduceLT, isCell, Bool.and_self, cellsOf, totr, totrs, tocs, getp, Nat.zero_add, List.set_cons_zero, Int.natCast_nonneg, Nat.le_refl, and_self]
    refine ite_of (fun hq => ?_) (fun hq => ?_)
    · have hq0 : 0 < q := by omega
      have hby : byR [[Tr.v (Value.int IntKind.u8 (48 + (q : Int) % 10))]] = some [UInt8.ofNat (48 + q % 10)] := by
        have e : (48 + (q : Int) % 10).toNat = 48 + q % 10 := by omega
        simp only [byR, Option.map_some, e]
      have h5 : o.size < 19 := by
        apply Classical.byContradiction
        intro hc
        have e : o.size = 19 := by omega
        rw [e] at h3
        have : 1 * 10 ^ 19 ≤ q * 10 ^ 19 := Nat.mul_le_mul_right _ hq0
        omega
      have h6 : q / 10 * 10 ^ (o.size + 1) ≤ K := by
        refine Nat.le_trans ?_ h3
        rw [Nat.pow_succ, Nat.mul_comm (10 ^ o.size) 10, ← Nat.mul_assoc]
        exact Nat.mul_le_mul_right _ (by omega)
      rw [hby]
      simp only [r_cons, r_nil, r_kont, r_seq1, r_blk1, r_rg, r_op1, r_go1, r_mv, r_bi, r_quo, r_adds, r_op3, r_sby, r_fgt, r_clean, r_okm4, r_okE0, r_okE1, r_okL0, r_round1, bigN, ptd, lk, pt, xv, kv, kc, ↓reduceIte, Nat.reduceEqDiff, reduceCtorEq, Nat.reduceLT, true_and, memB, keepB, keepOB, Bool.false_eq_true, Int.reduceLT, Int.natCast_nonneg, and_self]
      have hs : (ByteArray.mk #[UInt8.ofNat (48 + q % 10)] ++ o).size = o.size + 1 := by
        rw [ByteArray.size_append, Nat.add_comm]; rfl
      have e8 : fits .u8 (48 + (q : Int) % 10) := by
        constructor
        · show (0 : Int) ≤ _; omega
        · show _ ≤ (255 : Int); omega
      refine ⟨by rw [fits_i64]; omega, e8, ?_, by rw [fits_i64]; omega, cntJ_intro (q / 10, ByteArray.mk #[UInt8.ofNat (48 + q % 10)] ++ o) (by omega) ?_ ⟨by simp only; omega, ?_, ?_, ?_⟩⟩
      · show 1 + o.size ≤ 4294967296
        omega
      · rfl
      · rw [← h2, mt_pos hq0]
      · simp only [hs]; exact h6
      · simp only [hs]; omega
    · have : q = 0 := by omega
      subst this
      rw [← h2, mt_zero]
      refine ⟨?_, rfl⟩
      show 1 + o.size ≤ 4294967296
      omega
abbrev mStr (_ : ByteArray) (k : Int) : ByteArray := markT k
abbrev nStr (_ : ByteArray) : Nat := 1
end Go.Fd

/-
  WHAT THE MARKING FUNCTIONS DO (printed by lawgen.py). Own work.
-/
namespace Go.Fd
set_option maxRecDepth 20000
theorem mark_IntS : MarkS Go.Proofs.Try.prog fid_laws_markIntS (fun n : Int => [tv n]) mInt nInt (fun _ => True) := by
  intro a k lvl S id p es r0 kk hw ver st cap hid hv hst h0 hk hl hB
  have hne : id.1 ≠ lvl := by omega
  have hgp : ∀ r, getp (putp es p r) p = some r := fun r => getp_putp hv
  refine sem_of_chk k_laws_markIntS trivial ?_
  simp only [c_laws_markIntS, r_cons, r_nil, r_kont, r_seq1, r_rg, r_sq, r_bl, r_wpF, r_op1, r_mv, ptd, pt, xv, kv, kc, params, ↓reduceIte, Nat.reduceEqDiff, reduceCtorEq, List.length_cons, List.length_nil, Nat.reduceAdd, Nat.reduceLeDiff, Nat.reduceLT, true_and, Nat.zero_add]
  refine wp_count (α := Unit) a.length (fun j _ => ⟨lvl, [(0, .hd id p 0 a.length cap st), (1, iI (kJ nInt a k j)), (5, iI j)], [], sset S id (.ar kk (putp es p ((lJ mInt nInt a k j).map (fun n : Int => [tv n]))) true hw ver)⟩) (fun _ _ => True) () ⟨by simp only [r_okmo hne, r_clean, r_okm4, r_okE0, r_okE1, r_okL0, ↓reduceIte, Nat.reduceEqDiff, reduceCtorEq, memB, keepB, keepOB, Bool.false_eq_true, and_self], by (simp only [kJ_zero, lJ_zero, r_fgt, ↓reduceIte, Nat.reduceEqDiff, reduceCtorEq, memB, keepB, keepOB, Bool.false_eq_true, Int.cast_ofNat_Int]) <;> rfl⟩ trivial ?_
  intro j _ hj _
  simp only [r_cons, r_nil, r_kont, r_seq1, r_seq2, r_blk2, r_fn2, r_sk, r_rg, r_sq, r_bl, r_ex, r_rt, r_cd, r_cd2, r_op1, r_go1, r_mv, r_bi, r_lti, r_ln, r_ln3, r_ixn, r_ia, r_ia3, r_fin, r_kfe1, r_kcx, r_exps0, r_exps1, r_kex, r_exp1, r_expv2, r_round2, r_lt1, ptd, lk, pt, xv, ↓reduceIte, Nat.reduceEqDiff, reduceCtorEq, Nat.reduceLT, true_and, decide_eq_true_eq, Int.toNat_natCast, Int.natCast_nonneg]
  refine ite_of (fun hlt => ?_) (fun hge => ?_)
  · have hja : j < a.length := by omega
    obtain ⟨R, hjR, hR, hR'⟩ := lJ_row mInt nInt (fun n : Int => [tv n]) (k := k) hja
    have hge2 := kJ_le nInt (a := a) (k := k) (j := j + 1)
    rw [kJ_succ nInt hja] at hge2
    have hge3 := kJ_ge nInt (a := a) (k := k) (j := j)
    rw [hR]
    try simp only [nInt] at hge2
    try simp only [r_packo hne, r_setObo hne, psset_sset, r_sset, hst, hgp, rset_get hjR, setp_row hv hjR, Nat.zero_add, hja, r_okmo hne, tv, r_cons, r_nil, r_kont, r_seq1, r_blk1, r_rg, r_op1, r_go1, r_mv, r_bi, r_add0, r_op3, r_rde, r_rd3, r_iah, r_iah2, r_sset, r_fgt, r_clean, r_okm4, r_okE0, r_okE1, r_okL0, r_round1, r_st, r_st2, r_kst, r_stcs0, r_stcs1, r_sc1, r_sc3, r_sc4, r_sc2, r_lt1, ptd, lk, pt, xv, kv, kc, ↓reduceIte, Nat.reduceEqDiff, reduceCtorEq, List.length_cons, List.length_nil, Nat.reduceLT, true_and, List.getElem?_cons_zero, isSc, memB, keepB, keepOB, Bool.false_eq_true, isCell, cellsOf, Nat.zero_add, List.set_cons_zero, and_self]
    refine ⟨by rw [fits_i64]; omega, ⟨by rw [fits_i64]; omega, cntJ_intro () hja ?_ trivial⟩⟩
    rw [kJ_succ nInt hja, hR']
    simp only [nInt, mInt, tv, Int.natCast_add, Int.natCast_one]
    try rfl
  · have : j = a.length := by omega
    subst this
    rw [kJ_all, lJ_all]
    exact ⟨rfl, rfl⟩
def mNode (x : TNode) (k : Int) : TNode := { control := k, parent := k + 1, links := mL mInt nInt x.links (k + 1 + 1) }
def nNode (x : TNode) : Nat := 1 + 1 + nL nInt x.links
theorem mark_NodeS : MarkS Go.Proofs.Try.prog fid_laws_markNodeS cNode mNode nNode (bdNode 4294967296) := by
  intro a k lvl S id p es r0 kk hw ver st cap hid hv hst h0 hk hl hB
  have hne : id.1 ≠ lvl := by omega
  have hgp : ∀ r, getp (putp es p r) p = some r := fun r => getp_putp hv
  refine sem_of_chk k_laws_markNodeS trivial ?_
  simp only [c_laws_markNodeS, r_cons, r_nil, r_kont, r_seq1, r_rg, r_sq, r_bl, r_wpF, r_op1, r_mv, ptd, pt, xv, kv, kc, params, ↓reduceIte, Nat.reduceEqDiff, reduceCtorEq, List.length_cons, List.length_nil, Nat.reduceAdd, Nat.reduceLeDiff, Nat.reduceLT, true_and, Nat.zero_add]
  refine wp_count (α := Unit) a.length (fun j _ => ⟨lvl, [(0, .hd id p 0 a.length cap st), (1, iI (kJ nNode a k j)), (5, iI j)], [], sset S id (.ar kk (putp es p ((lJ mNode nNode a k j).map cNode)) true hw ver)⟩) (fun _ _ => True) () ⟨by simp only [r_okmo hne, r_clean, r_okm4, r_okE0, r_okE1, r_okL0, ↓reduceIte, Nat.reduceEqDiff, reduceCtorEq, memB, keepB, keepOB, Bool.false_eq_true, and_self], by (simp only [kJ_zero, lJ_zero, r_fgt, ↓reduceIte, Nat.reduceEqDiff, reduceCtorEq, memB, keepB, keepOB, Bool.false_eq_true, Int.cast_ofNat_Int]) <;> rfl⟩ trivial ?_
  intro j _ hj _
  simp only [r_cons, r_nil, r_kont, r_seq1, r_seq2, r_blk2, r_fn2, r_sk, r_rg, r_sq, r_bl, r_ex, r_rt, r_cd, r_cd2, r_op1, r_go1, r_mv, r_bi, r_lti, r_ln, r_ln3, r_ixn, r_ia, r_ia3, r_fin, r_kfe1, r_kcx, r_exps0, r_exps1, r_kex, r_exp1, r_expv2, r_round2, r_lt1, ptd, lk, pt, xv, ↓reduceIte, Nat.reduceEqDiff, reduceCtorEq, Nat.reduceLT, true_and, decide_eq_true_eq, Int.toNat_natCast, Int.natCast_nonneg]
  refine ite_of (fun hlt => ?_) (fun hge => ?_)
  · have hja : j < a.length := by omega
    obtain ⟨R, hjR, hR, hR'⟩ := lJ_row mNode nNode cNode (k := k) hja
    have hge2 := kJ_le nNode (a := a) (k := k) (j := j + 1)
    rw [kJ_succ nNode hja] at hge2
    have hge3 := kJ_ge nNode (a := a) (k := k) (j := j)
    rw [hR]
    try simp only [nNode] at hge2
    have hb := hB _ (List.getElem_mem hja)
    have b0 : (a[j]).links.length ≤ 4294967296 := hb
    try simp only [r_packo hne, r_setObo hne, psset_sset, r_sset, hst, hgp, rset_get hjR, setp_row hv hjR, Nat.zero_add, hja, List.length_map, cNode, r_cons, r_nil, r_kont, r_seq1, r_rg, r_sq, r_op1, r_go1, r_mv, r_bi, r_add0, r_op3, r_fa, r_fa3, r_ixn, r_ia, r_rde, r_rd3, r_iah, r_iah2, r_ia3, r_sset, r_lae, r_lae2, r_lae3, r_ld, r_ld3, r_cay, r_cay1, r_st, r_st2, r_kst, r_stcs0, r_stcs1, r_sc1, r_sc3, r_sc4, r_sc2, ptd, lk, pt, xv, kv, kc, ↓reduceIte, Nat.reduceEqDiff, reduceCtorEq, List.length_cons, List.length_nil, Nat.reduceAdd, Nat.reduceLT, true_and, List.map_cons, List.map_nil, List.cons_append, List.nil_append, List.getElem?_cons_zero, List.getElem?_cons_succ, isSc, Int.toNat_natCast, isCell, cellsOf, cvt, Nat.zero_add, Nat.add_zero, List.set_cons_zero, List.set_cons_succ, Int.natCast_nonneg, List.length_map]
    refine ⟨by rw [fits_i64]; omega, ⟨by rw [fits_i64]; omega, ?_⟩⟩
    simp only [arg1]
    refine kcy_mark mark_IntS hid hv (by omega) (by omega) b0 (fun _ _ => trivial) hjR rfl (by simp only [List.length_map]) ?_
    simp only [List.set_cons_succ, List.set_cons_zero, r_okmo hne, r_cons, r_nil, r_kont, r_seq1, r_blk1, r_rg, r_op1, r_go1, r_mv, r_bi, r_add0, r_fgt, r_clean, r_okm4, r_okE0, r_okE1, r_okL0, r_round1, r_lt1, ptd, lk, pt, xv, kv, kc, ↓reduceIte, Nat.reduceEqDiff, reduceCtorEq, Nat.reduceLT, true_and, memB, keepB, keepOB, Bool.false_eq_true, List.set_cons_zero, List.set_cons_succ, and_self]
    refine ⟨by rw [fits_i64]; omega, cntJ_intro () hja ?_ trivial⟩
    rw [kJ_succ nNode hja, hR']
    simp only [nNode, mNode, cNode, Int.natCast_add, Int.natCast_one, Int.add_assoc]
    try rfl
  · have : j = a.length := by omega
    subst this
    rw [kJ_all, lJ_all]
    exact ⟨rfl, rfl⟩
theorem mark_StringS : MarkS Go.Proofs.Try.prog fid_laws_markStringS (fun n : ByteArray => [ts n]) mStr nStr (fun x => x.size ≤ 4294967296) := by
  intro a k lvl S id p es r0 kk hw ver st cap hid hv hst h0 hk hl hB
  have hne : id.1 ≠ lvl := by omega
  have hgp : ∀ r, getp (putp es p r) p = some r := fun r => getp_putp hv
  refine sem_of_chk k_laws_markStringS trivial ?_
  simp only [c_laws_markStringS, r_cons, r_nil, r_kont, r_seq1, r_rg, r_sq, r_bl, r_wpF, r_op1, r_mv, ptd, pt, xv, kv, kc, params, ↓reduceIte, Nat.reduceEqDiff, reduceCtorEq, List.length_cons, List.length_nil, Nat.reduceAdd, Nat.reduceLeDiff, Nat.reduceLT, true_and, Nat.zero_add]
  refine wp_count (α := Unit) a.length (fun j _ => ⟨lvl, [(0, .hd id p 0 a.length cap st), (1, iI (kJ nStr a k j)), (5, iI j)], [], sset S id (.ar kk (putp es p ((lJ mStr nStr a k j).map (fun n : ByteArray => [ts n]))) true hw ver)⟩) (fun _ _ => True) () ⟨by simp only [r_okmo hne, r_clean, r_okm4, r_okE0, r_okE1, r_okL0, ↓reduceIte, Nat.reduceEqDiff, reduceCtorEq, memB, keepB, keepOB, Bool.false_eq_true, and_self], by (simp only [kJ_zero, lJ_zero, r_fgt, ↓reduceIte, Nat.reduceEqDiff, reduceCtorEq, memB, keepB, keepOB, Bool.false_eq_true, Int.cast_ofNat_Int]) <;> rfl⟩ trivial ?_
  intro j _ hj _
  simp only [r_cons, r_nil, r_kont, r_seq1, r_seq2, r_blk2, r_fn2, r_sk, r_rg, r_sq, r_bl, r_ex, r_rt, r_cd, r_cd2, r_op1, r_go1, r_mv, r_bi, r_lti, r_ln, r_ln3, r_kcn, r_sn0, r_sn1, r_ca, r_ca1, r_fin, r_kfe1, r_kcx, r_exps0, r_exps1, r_kex, r_exp1, r_expv2, r_round2, r_lt1, ptd, lk, pt, xv, ↓reduceIte, Nat.reduceEqDiff, reduceCtorEq, Nat.reduceLT, decide_eq_true_eq, List.map_cons, List.map_nil, List.cons_append, List.nil_append, mens, men, and_self]
  refine ite_of (fun hlt => ?_) (fun hge => ?_)
  · have hja : j < a.length := by omega
    obtain ⟨R, hjR, hR, hR'⟩ := lJ_row mStr nStr (fun n : ByteArray => [ts n]) (k := k) hja
    have hge2 := kJ_le nStr (a := a) (k := k) (j := j + 1)
    rw [kJ_succ nStr hja] at hge2
    have hge3 := kJ_ge nStr (a := a) (k := k) (j := j)
    rw [hR]
    try simp only [nStr] at hge2
    try simp only [r_packo hne, r_setObo hne, psset_sset, r_sset, hst, hgp, rset_get hjR, setp_row hv hjR, Nat.zero_add, hja, r_okmo hne, List.length_map, tv, r_cons, r_nil, r_kont, r_seq1, r_seq2, r_seq3, r_blk1, r_blk2, r_blk3, r_fn1, r_fn2, r_fn3, r_sk, r_rg, r_sq, r_bl, r_ex, r_rt, r_fg, r_cd, r_cd2, r_wpF, r_op1, r_op1g, r_gd, r_gdu, r_go1, r_mv, r_mvn, r_mvn1, r_bx, r_bx1, r_bv, r_bv1, r_bt, r_bt1, r_al, r_bd, r_bs, r_fills0, r_fills1, r_fl2, r_kfill, r_ms, r_ms1, r_bi, r_add0, r_sub0, r_mul0, r_add1, r_sub1, r_mul1, r_quo, r_rem, r_eqi, r_nei, r_lti, r_lei, r_gti, r_gei, r_eqb, r_neb, r_eqn, r_nen, r_eqe, r_nee, r_adds, r_eqs, r_nes, r_lts, r_gts, r_les, r_ges, r_qa, r_nt, r_nt1, r_ng, r_ng1, r_cv, r_cv1, r_cv2, r_cv3, r_cv4, r_mf, r_mf1, r_ln, r_ln1, r_ln2, r_ln3, r_lg, r_lg1, r_la, r_mm, r_mm1, r_mm2, r_pk, r_pkt, r_pkf, r_op3, r_xt, r_xt1, r_nc, r_nc1, r_nc2, r_nc3, r_fa, r_fa1, r_fa2, r_fa3, r_fd, r_fd1, r_fd2, r_ixn, r_ia, r_iae, r_ia1, r_ia2, r_rde, r_rd3, r_stamp0, r_stamp1, r_iah, r_iah2, r_ia3, r_ja, r_ja1, r_ja2, r_ja3, r_ixb, r_ix, r_ix1, r_jx, r_jx1, r_jx2, r_pack, r_setOb, r_kill, r_sto, r_sset, r_ltr, r_lab, r_lae, r_lae2, r_lae3, r_lmae, r_lmae2, r_ld, r_ld1, r_ld2, r_ld3, r_ld4, r_labm, r_ld5, r_ld6, r_bn0, r_bn1, r_sxt, r_sxt2, r_sxt3, r_sxh, r_sxh2, r_sxh3, r_sx, r_sx1, r_sx2, r_sx3, r_sst, r_sst2, r_ss, r_ss1, r_sa, r_sa1, r_sby, r_sbh, r_sb, r_sb1, r_sb2, r_sb3, r_kcn, r_kagn, r_kfnn, r_khdn, r_sn0, r_sn1, r_sn2, r_sn3, r_sn4, r_sn5, r_sn6, r_sn7, r_sn8, r_ca, r_ca1, r_cas, r_cas1, r_cay, r_cay1, r_fin, r_kfe0, r_kfe1, r_kfe2, r_kcx, r_exps0, r_exps1, r_kex, r_exp1, r_exbc, r_exb1, r_exb2, r_exp2, r_exc, r_kagx, r_expv1, r_expv2, r_expv3, r_expv4, r_expv5, r_expv6, r_expv7, r_kxc, r_expcs0, r_expcs1, r_expc1, r_expc2, r_expc3, r_expc4, r_expc4a, r_expc4b, r_expc4c, r_expc4d, r_expc4e, r_expc4f, r_expc5, r_expc6, r_expc7, r_exh0, r_exh1, r_fgt, r_clean, r_okm1, r_okm2, r_okm2s, r_okm3, r_okm4, r_okm5, r_okm6, r_okm7, r_okm8, r_okm9, r_okm10, r_okm11, r_okms0, r_okms1, r_okE0, r_okE1, r_okL0, r_okL1, r_okL2, r_round1, r_round2, r_round3, r_st, r_st1, r_st2, r_stb, r_setAt0, r_setAt1, r_lows0, r_lows1, r_low1, r_low2, r_low3, r_low4, r_low5, r_low6, r_low7, r_low8, r_low9, r_low10, r_kst, r_stcs0, r_stcs1, r_sc1, r_sc3, r_sc4, r_sc2, r_sc2a, r_sc2b, r_sc2c, r_sc5, r_bw, r_kbw, r_bw1, r_bw2, r_kmv, r_kmc, r_mvcs0, r_mvcs1, r_mvc1, r_mvc2, r_mvc3, r_mvc4, r_mv5, r_apgo, r_apx1, r_apx2, r_aph, r_ap, r_ap0, r_ap1, r_ap0c, r_ap1c, r_kap, r_ap0h, r_ap2h, r_ap5, r_kaps, r_aps, r_ap2s, r_snm, r_mensm, r_op3n, r_chg, r_pts0, r_pts1, r_ptOs0, r_ptOs1, r_kabn, r_sn9, r_kta, r_snb, r_kct, r_ksnc, r_snc0, r_snc1, r_snct, r_sncc, r_ksnh, r_snch, r_rep1, r_cut1, r_scr1, r_unr1, r_max, r_lt1, bigN, fpart, okp, zfill, zobs, ptd, keyOf, freshK, lk, pt, lkO, ptO, addO, xv, kv, kc, params, trv, ↓reduceIte, Nat.reduceEqDiff, Nat.reduceMul, reduceCtorEq, List.length_cons, List.length_nil, Option.getD_some, Option.getD_none, Nat.reduceAdd, Nat.reduceSub, Nat.reduceLeDiff, Nat.reduceLT, true_and, and_true, decide_eq_true_eq, decide_true, decide_false, Option.map_some, Option.map_none, Option.isSome_some, Option.isSome_none, Option.isNone_some, Option.isNone_none, List.map_cons, List.map_nil, List.cons_append, List.nil_append, List.getElem?_cons_zero, List.getElem?_cons_succ, List.drop_succ_cons, List.drop_zero, List.take_succ_cons, List.take_zero, List.headD_cons, List.headD_nil, List.tail_cons, List.tail_nil, mens, men, noSh, noShs, isSc, impv, impvs, impc, memB, keepB, keepOB, or_true, true_or, or_false, false_or, Bool.false_eq_true, Bool.true_eq_false, if_true, if_false, Bool.not_true, Bool.not_false, scrE, scrL, scr, scrs, scrOb, rmO, Int.toNat_natCast, Int.toNat_zero, Int.toNat_one, Int.reduceToNat, Int.reduceLE, Int.reduceLT, List.all_cons, List.all_nil, isCell, Bool.and_true, Bool.true_and, Bool.and_self, cellsOf, totr, totrs, tocs, getp, cvt, cvts, Nat.zero_add, Nat.add_zero, List.set_cons_zero, List.set_cons_succ, Bool.not_eq_true', Bool.not_eq_false', Int.natCast_nonneg, Nat.le_refl, Prod.mk.injEq, ne_eq, not_false_eq_true, not_true_eq_false, List.length_map, List.length_replicate, List.replicate_zero, and_false, false_and, and_self, Int.cast_ofNat_Int]
    refine kca_intro (sem_markText (kJ nStr a k j) (by omega)) ?_
    simp only [r_packo hne, r_setObo hne, psset_sset, r_sset, hst, hgp, rset_get hjR, setp_row hv hjR, Nat.zero_add, hja, r_okmo hne, r_cons, r_nil, r_kont, r_seq1, r_blk1, r_rg, r_op1, r_go1, r_mv, r_bi, r_add0, r_op3, r_ixn, r_ia, r_rde, r_rd3, r_iah, r_iah2, r_ia3, r_sset, r_fgt, r_clean, r_okm4, r_okE0, r_okE1, r_okL0, r_round1, r_st, r_st2, r_kst, r_stcs0, r_stcs1, r_sc1, r_sc3, r_sc4, r_sc2, r_lt1, ptd, keyOf, freshK, lk, pt, addO, xv, kv, kc, ↓reduceIte, Nat.reduceEqDiff, Nat.reduceMul, reduceCtorEq, List.length_cons, List.length_nil, Nat.reduceLT, true_and, List.getElem?_cons_zero, noSh, isSc, impv, memB, keepB, keepOB, or_true, Bool.false_eq_true, Int.toNat_natCast, isCell, cellsOf, Nat.zero_add, List.set_cons_zero, Int.natCast_nonneg, and_self]
    refine ⟨by rw [fits_i64]; omega, ⟨by rw [fits_i64]; omega, cntJ_intro () hja ?_ trivial⟩⟩
    rw [kJ_succ nStr hja, hR']
    simp only [nStr, mStr, Int.natCast_add, Int.natCast_one]
    try rfl
  · have : j = a.length := by omega
    subst this
    rw [kJ_all, lJ_all]
    exact ⟨rfl, rfl⟩
def mWire (x : TWire) (k : Int) : TWire := { name := markT (k), link := k + 1 }
def nWire (x : TWire) : Nat := 1 + 1
theorem mark_WireS : MarkS Go.Proofs.Try.prog fid_laws_markWireS cWire mWire nWire (bdWire 4294967296) := by
  intro a k lvl S id p es r0 kk hw ver st cap hid hv hst h0 hk hl hB
  have hne : id.1 ≠ lvl := by omega
  have hgp : ∀ r, getp (putp es p r) p = some r := fun r => getp_putp hv
  refine sem_of_chk k_laws_markWireS trivial ?_
  simp only [c_laws_markWireS, r_cons, r_nil, r_kont, r_seq1, r_rg, r_sq, r_bl, r_wpF, r_op1, r_mv, ptd, pt, xv, kv, kc, params, ↓reduceIte, Nat.reduceEqDiff, reduceCtorEq, List.length_cons, List.length_nil, Nat.reduceAdd, Nat.reduceLeDiff, Nat.reduceLT, true_and, Nat.zero_add]
  refine wp_count (α := Unit) a.length (fun j _ => ⟨lvl, [(0, .hd id p 0 a.length cap st), (1, iI (kJ nWire a k j)), (5, iI j)], [], sset S id (.ar kk (putp es p ((lJ mWire nWire a k j).map cWire)) true hw ver)⟩) (fun _ _ => True) () ⟨by simp only [r_okmo hne, r_clean, r_okm4, r_okE0, r_okE1, r_okL0, ↓reduceIte, Nat.reduceEqDiff, reduceCtorEq, memB, keepB, keepOB, Bool.false_eq_true, and_self], by (simp only [kJ_zero, lJ_zero, r_fgt, ↓reduceIte, Nat.reduceEqDiff, reduceCtorEq, memB, keepB, keepOB, Bool.false_eq_true, Int.cast_ofNat_Int]) <;> rfl⟩ trivial ?_
  intro j _ hj _
  simp only [r_cons, r_nil, r_kont, r_seq1, r_seq2, r_blk2, r_fn2, r_sk, r_rg, r_sq, r_bl, r_ex, r_rt, r_cd, r_cd2, r_op1, r_go1, r_mv, r_bi, r_lti, r_ln, r_ln3, r_kcn, r_sn0, r_sn1, r_ca, r_ca1, r_fin, r_kfe1, r_kcx, r_exps0, r_exps1, r_kex, r_exp1, r_expv2, r_round2, r_lt1, ptd, lk, pt, xv, ↓reduceIte, Nat.reduceEqDiff, reduceCtorEq, Nat.reduceLT, decide_eq_true_eq, List.map_cons, List.map_nil, List.cons_append, List.nil_append, mens, men, and_self]
  refine ite_of (fun hlt => ?_) (fun hge => ?_)
  · have hja : j < a.length := by omega
    obtain ⟨R, hjR, hR, hR'⟩ := lJ_row mWire nWire cWire (k := k) hja
    have hge2 := kJ_le nWire (a := a) (k := k) (j := j + 1)
    rw [kJ_succ nWire hja] at hge2
    have hge3 := kJ_ge nWire (a := a) (k := k) (j := j)
    rw [hR]
    try simp only [nWire] at hge2
    have hb := hB _ (List.getElem_mem hja)
    have b0 : (a[j]).name.size ≤ 4294967296 := hb
    try simp only [cWire]
    refine kca_intro (sem_markText (kJ nWire a k j) (by omega)) ?_
    simp only [r_packo hne, r_setObo hne, psset_sset, r_sset, hst, hgp, rset_get hjR, setp_row hv hjR, Nat.zero_add, hja, r_okmo hne, r_cons, r_nil, r_kont, r_seq1, r_blk1, r_rg, r_sq, r_op1, r_go1, r_mv, r_bi, r_add0, r_op3, r_fa, r_fa3, r_ixn, r_ia, r_rde, r_rd3, r_iah, r_iah2, r_ia3, r_sset, r_fgt, r_clean, r_okm4, r_okE0, r_okE1, r_okL0, r_round1, r_st, r_st2, r_kst, r_stcs0, r_stcs1, r_sc1, r_sc3, r_sc4, r_sc2, r_lt1, ptd, keyOf, freshK, lk, pt, addO, xv, kv, kc, ↓reduceIte, Nat.reduceEqDiff, Nat.reduceMul, reduceCtorEq, List.length_cons, List.length_nil, Nat.reduceAdd, Nat.reduceLT, true_and, List.getElem?_cons_zero, List.getElem?_cons_succ, noSh, isSc, impv, memB, keepB, keepOB, or_true, Bool.false_eq_true, Int.toNat_natCast, isCell, cellsOf, Nat.zero_add, Nat.add_zero, List.set_cons_zero, List.set_cons_succ, Int.natCast_nonneg, and_self]
    refine ⟨by rw [fits_i64]; omega, ⟨by rw [fits_i64]; omega, ⟨by rw [fits_i64]; omega, cntJ_intro () hja ?_ trivial⟩⟩⟩
    rw [kJ_succ nWire hja, hR']
    simp only [nWire, mWire, cWire, Int.natCast_add, Int.natCast_one, Int.add_assoc]
    try rfl
  · have : j = a.length := by omega
    subst this
    rw [kJ_all, lJ_all]
    exact ⟨rfl, rfl⟩
def mBigraph (x : TBigraph) (k : Int) : TBigraph := { roots := k, nodes := mL mNode nNode x.nodes (k + 1), sites := mL mInt nInt x.sites (k + 1 + (nL nNode x.nodes : Nat)), edges := k + 1 + (nL nNode x.nodes : Nat) + (nL nInt x.sites : Nat), outer := mL mStr nStr x.outer (k + 1 + (nL nNode x.nodes : Nat) + (nL nInt x.sites : Nat) + 1), inner := mL mWire nWire x.inner (k + 1 + (nL nNode x.nodes : Nat) + (nL nInt x.sites : Nat) + 1 + (nL nStr x.outer : Nat)) }
def nBigraph (x : TBigraph) : Nat := 1 + nL nNode x.nodes + nL nInt x.sites + 1 + nL nStr x.outer + nL nWire x.inner
theorem mark_BigraphS : MarkS Go.Proofs.Try.prog fid_laws_markBigraphS cBigraph mBigraph nBigraph (bdBigraph 4294967296) := by
  intro a k lvl S id p es r0 kk hw ver st cap hid hv hst h0 hk hl hB
  have hne : id.1 ≠ lvl := by omega
  have hgp : ∀ r, getp (putp es p r) p = some r := fun r => getp_putp hv
  refine sem_of_chk k_laws_markBigraphS trivial ?_
  simp only [c_laws_markBigraphS, r_cons, r_nil, r_kont, r_seq1, r_rg, r_sq, r_bl, r_wpF, r_op1, r_mv, ptd, pt, xv, kv, kc, params, ↓reduceIte, Nat.reduceEqDiff, reduceCtorEq, List.length_cons, List.length_nil, Nat.reduceAdd, Nat.reduceLeDiff, Nat.reduceLT, true_and, Nat.zero_add]
  refine wp_count (α := Unit) a.length (fun j _ => ⟨lvl, [(0, .hd id p 0 a.length cap st), (1, iI (kJ nBigraph a k j)), (5, iI j)], [], sset S id (.ar kk (putp es p ((lJ mBigraph nBigraph a k j).map cBigraph)) true hw ver)⟩) (fun _ _ => True) () ⟨by simp only [r_okmo hne, r_clean, r_okm4, r_okE0, r_okE1, r_okL0, ↓reduceIte, Nat.reduceEqDiff, reduceCtorEq, memB, keepB, keepOB, Bool.false_eq_true, and_self], by (simp only [kJ_zero, lJ_zero, r_fgt, ↓reduceIte, Nat.reduceEqDiff, reduceCtorEq, memB, keepB, keepOB, Bool.false_eq_true, Int.cast_ofNat_Int]) <;> rfl⟩ trivial ?_
  intro j _ hj _
  simp only [r_cons, r_nil, r_kont, r_seq1, r_seq2, r_blk2, r_fn2, r_sk, r_rg, r_sq, r_bl, r_ex, r_rt, r_cd, r_cd2, r_op1, r_go1, r_mv, r_bi, r_lti, r_ln, r_ln3, r_ixn, r_ia, r_ia3, r_fin, r_kfe1, r_kcx, r_exps0, r_exps1, r_kex, r_exp1, r_expv2, r_round2, r_lt1, ptd, lk, pt, xv, ↓reduceIte, Nat.reduceEqDiff, reduceCtorEq, Nat.reduceLT, true_and, decide_eq_true_eq, Int.toNat_natCast, Int.natCast_nonneg]
  refine ite_of (fun hlt => ?_) (fun hge => ?_)
  · have hja : j < a.length := by omega
    obtain ⟨R, hjR, hR, hR'⟩ := lJ_row mBigraph nBigraph cBigraph (k := k) hja
    have hge2 := kJ_le nBigraph (a := a) (k := k) (j := j + 1)
    rw [kJ_succ nBigraph hja] at hge2
    have hge3 := kJ_ge nBigraph (a := a) (k := k) (j := j)
    rw [hR]
    try simp only [nBigraph] at hge2
    have hb := hB _ (List.getElem_mem hja)
    obtain ⟨b0, b1, b2, b3, b4, b5, b6⟩ := hb
    try simp only [r_packo hne, r_setObo hne, psset_sset, r_sset, hst, hgp, rset_get hjR, setp_row hv hjR, Nat.zero_add, hja, List.length_map, cBigraph, r_cons, r_nil, r_kont, r_seq1, r_rg, r_sq, r_op1, r_go1, r_mv, r_bi, r_add0, r_op3, r_fa, r_fa3, r_ixn, r_ia, r_rde, r_rd3, r_iah, r_iah2, r_ia3, r_sset, r_lae, r_lae2, r_lae3, r_ld, r_ld3, r_cay, r_cay1, r_st, r_st2, r_kst, r_stcs0, r_stcs1, r_sc1, r_sc3, r_sc4, r_sc2, ptd, lk, pt, xv, kv, kc, ↓reduceIte, Nat.reduceEqDiff, reduceCtorEq, List.length_cons, List.length_nil, Nat.reduceAdd, Nat.reduceLT, true_and, List.map_cons, List.map_nil, List.cons_append, List.nil_append, List.getElem?_cons_zero, List.getElem?_cons_succ, isSc, Int.toNat_natCast, isCell, cellsOf, cvt, Nat.zero_add, Nat.add_zero, List.set_cons_zero, Int.natCast_nonneg, List.length_map]
    refine ⟨by rw [fits_i64]; omega, ?_⟩
    simp only [arg1]
    refine kcy_mark mark_NodeS hid hv (by omega) (by omega) b0 b1 hjR rfl (by simp only [List.length_map]) ?_
    simp only [List.set_cons_succ, List.set_cons_zero, r_packo hne, r_sset, hst, hgp, rset_get hjR, Nat.zero_add, hja, List.length_map, r_cons, r_nil, r_kont, r_seq1, r_rg, r_sq, r_op1, r_go1, r_mv, r_op3, r_fa, r_fa3, r_ixn, r_ia, r_rde, r_rd3, r_iah, r_iah2, r_ia3, r_sset, r_lae, r_lae2, r_lae3, r_ld, r_ld3, r_cay, r_cay1, ptd, lk, pt, xv, ↓reduceIte, Nat.reduceEqDiff, reduceCtorEq, List.length_cons, List.length_nil, Nat.reduceAdd, Nat.reduceLT, true_and, List.map_cons, List.map_nil, List.cons_append, List.nil_append, List.getElem?_cons_zero, List.getElem?_cons_succ, Int.toNat_natCast, cvt, Nat.zero_add, List.set_cons_zero, List.set_cons_succ, Int.natCast_nonneg, List.length_map]
    simp only [arg1]
    refine kcy_mark mark_IntS hid hv (by omega) (by omega) b2 (fun _ _ => trivial) hjR rfl (by simp only [List.length_map]) ?_
    simp only [List.set_cons_succ, List.set_cons_zero, r_packo hne, r_setObo hne, psset_sset, r_sset, hst, hgp, rset_get hjR, setp_row hv hjR, Nat.zero_add, hja, List.length_map, r_cons, r_nil, r_kont, r_seq1, r_rg, r_sq, r_op1, r_go1, r_mv, r_bi, r_add0, r_op3, r_fa, r_fa3, r_ixn, r_ia, r_rde, r_rd3, r_iah, r_iah2, r_ia3, r_sset, r_lae, r_lae2, r_lae3, r_ld, r_ld3, r_cay, r_cay1, r_st, r_st2, r_kst, r_stcs0, r_stcs1, r_sc1, r_sc3, r_sc4, r_sc2, ptd, lk, pt, xv, kv, kc, ↓reduceIte, Nat.reduceEqDiff, reduceCtorEq, List.length_cons, List.length_nil, Nat.reduceAdd, Nat.reduceLT, true_and, List.map_cons, List.map_nil, List.cons_append, List.nil_append, List.getElem?_cons_zero, List.getElem?_cons_succ, isSc, Int.toNat_natCast, isCell, cellsOf, cvt, Nat.zero_add, List.set_cons_zero, List.set_cons_succ, Int.natCast_nonneg, List.length_map]
    refine ⟨by rw [fits_i64]; omega, ?_⟩
    simp only [arg1]
    refine kcy_mark mark_StringS hid hv (by omega) (by omega) b3 b4 hjR rfl (by simp only [List.length_map]) ?_
    simp only [List.set_cons_succ, List.set_cons_zero, r_packo hne, r_sset, hst, hgp, rset_get hjR, Nat.zero_add, hja, List.length_map, r_cons, r_nil, r_kont, r_seq1, r_rg, r_op1, r_go1, r_mv, r_op3, r_fa, r_fa3, r_ixn, r_ia, r_rde, r_rd3, r_iah, r_iah2, r_ia3, r_sset, r_lae, r_lae2, r_lae3, r_ld, r_ld3, r_cay, r_cay1, ptd, lk, pt, xv, ↓reduceIte, Nat.reduceEqDiff, reduceCtorEq, List.length_cons, List.length_nil, Nat.reduceAdd, Nat.reduceLT, true_and, List.map_cons, List.map_nil, List.cons_append, List.nil_append, List.getElem?_cons_zero, List.getElem?_cons_succ, Int.toNat_natCast, cvt, Nat.zero_add, List.set_cons_zero, List.set_cons_succ, Int.natCast_nonneg, List.length_map]
    simp only [arg1]
    refine kcy_mark mark_WireS hid hv (by omega) (by omega) b5 b6 hjR rfl (by simp only [List.length_map]) ?_
    simp only [List.set_cons_succ, List.set_cons_zero, r_okmo hne, r_cons, r_nil, r_kont, r_seq1, r_blk1, r_rg, r_op1, r_go1, r_mv, r_bi, r_add0, r_fgt, r_clean, r_okm4, r_okE0, r_okE1, r_okL0, r_round1, r_lt1, ptd, lk, pt, xv, kv, kc, ↓reduceIte, Nat.reduceEqDiff, reduceCtorEq, Nat.reduceLT, true_and, memB, keepB, keepOB, Bool.false_eq_true, List.set_cons_zero, List.set_cons_succ, and_self]
    refine ⟨by rw [fits_i64]; omega, cntJ_intro () hja ?_ trivial⟩
    rw [kJ_succ nBigraph hja, hR']
    simp only [nBigraph, mBigraph, cBigraph, Int.natCast_add, Int.natCast_one, Int.add_assoc]
    try rfl
  · have : j = a.length := by omega
    subst this
    rw [kJ_all, lJ_all]
    exact ⟨rfl, rfl⟩
def mIntA3 (x : (Int × Int × Int)) (k : Int) : (Int × Int × Int) := (k, k + 1, k + 2)
def nIntA3 (x : (Int × Int × Int)) : Nat := 1 + 1 + 1
theorem mark_IntA3S : MarkS Go.Proofs.Try.prog fid_laws_markIntA3S cA3 mIntA3 nIntA3 (fun _ => True) := by
  intro a k lvl S id p es r0 kk hw ver st cap hid hv hst h0 hk hl hB
  have hne : id.1 ≠ lvl := by omega
  have hgp : ∀ r, getp (putp es p r) p = some r := fun r => getp_putp hv
  refine sem_of_chk k_laws_markIntA3S trivial ?_
  simp only [c_laws_markIntA3S, r_cons, r_nil, r_kont, r_seq1, r_rg, r_sq, r_bl, r_wpF, r_op1, r_mv, ptd, pt, xv, kv, kc, params, ↓reduceIte, Nat.reduceEqDiff, reduceCtorEq, List.length_cons, List.length_nil, Nat.reduceAdd, Nat.reduceLeDiff, Nat.reduceLT, true_and, Nat.zero_add]
  refine wp_count (α := Unit) a.length (fun j _ => ⟨lvl, [(0, .hd id p 0 a.length cap st), (1, iI (kJ nIntA3 a k j)), (5, iI j)], [], sset S id (.ar kk (putp es p ((lJ mIntA3 nIntA3 a k j).map cA3)) true hw ver)⟩) (fun _ _ => True) () ⟨by simp only [r_okmo hne, r_clean, r_okm4, r_okE0, r_okE1, r_okL0, ↓reduceIte, Nat.reduceEqDiff, reduceCtorEq, memB, keepB, keepOB, Bool.false_eq_true, and_self], by (simp only [kJ_zero, lJ_zero, r_fgt, ↓reduceIte, Nat.reduceEqDiff, reduceCtorEq, memB, keepB, keepOB, Bool.false_eq_true, Int.cast_ofNat_Int]) <;> rfl⟩ trivial ?_
  intro j _ hj _
  simp only [r_cons, r_nil, r_kont, r_seq1, r_seq2, r_blk2, r_fn2, r_sk, r_rg, r_sq, r_bl, r_ex, r_rt, r_cd, r_cd2, r_op1, r_go1, r_mv, r_bi, r_lti, r_ln, r_ln3, r_fin, r_kfe1, r_kcx, r_exps0, r_exps1, r_kex, r_exp1, r_expv2, r_round2, r_lt1, ptd, lk, pt, xv, kv, kc, ↓reduceIte, Nat.reduceEqDiff, reduceCtorEq, Nat.reduceLT, decide_eq_true_eq]
  refine ite_of (fun hlt => ?_) (fun hge => ?_)
  · have hja : j < a.length := by omega
    obtain ⟨R, hjR, hR, hR'⟩ := lJ_row mIntA3 nIntA3 cA3 (k := k) hja
    have hge2 := kJ_le nIntA3 (a := a) (k := k) (j := j + 1)
    rw [kJ_succ nIntA3 hja] at hge2
    have hge3 := kJ_ge nIntA3 (a := a) (k := k) (j := j)
    rw [hR]
    try simp only [nIntA3] at hge2
    simp only [cA3]
    refine wp_count (α := Unit) 3 (fun i _ => ⟨lvl, [(0, .hd id p 0 a.length cap st), (1, iI (kJ nIntA3 a k j + i)), (5, iI j), (6, iI i)], [], sset S id (.ar kk (putp es p (R.set j [if 0 < i then tv (kJ nIntA3 a k j) else tv a[j].1, if 1 < i then tv (kJ nIntA3 a k j + 1) else tv a[j].2.1, if 2 < i then tv (kJ nIntA3 a k j + 2) else tv a[j].2.2])) true hw ver)⟩) (fun _ _ => True) () ⟨by simp only [r_okmo hne, r_clean, r_okm4, r_okE0, r_okE1, r_okL0, ↓reduceIte, Nat.reduceEqDiff, reduceCtorEq, memB, keepB, keepOB, Bool.false_eq_true, and_self], by simp only [Int.add_zero, Nat.lt_irrefl, Nat.not_lt_zero, r_fgt, ↓reduceIte, Nat.reduceEqDiff, reduceCtorEq, memB, keepB, keepOB, Bool.false_eq_true, Int.cast_ofNat_Int]; try rfl⟩ trivial ?_
    intro i _ hi _
    have hc : i = 0 ∨ i = 1 ∨ i = 2 ∨ i = 3 := by omega
    rcases hc with rfl | rfl | rfl | rfl
    · simp only [r_packo hne, r_setObo hne, psset_sset, r_sset, hst, hgp, rset_get hjR, setp_row hv hjR, Nat.zero_add, hja, r_okmo hne, Int.cast_ofNat_Int, Nat.mul_one, Int.add_zero, Int.reduceAdd, Nat.lt_irrefl, Nat.not_lt_zero, Nat.reduceAdd, r_cons, r_nil, r_kont, r_seq1, r_blk1, r_sk, r_rg, r_sq, r_bl, r_cd, r_cd2, r_op1, r_go1, r_mv, r_bi, r_add0, r_lti, r_op3, r_ixn, r_ia, r_rde, r_rd3, r_iah, r_iah2, r_ia3, r_ja, r_ja3, r_sset, r_fgt, r_clean, r_okm4, r_okE0, r_okE1, r_okL0, r_round1, r_st, r_st2, r_kst, r_stcs0, r_stcs1, r_sc1, r_sc3, r_sc4, r_sc2, r_lt1, ptd, lk, pt, xv, kv, kc, ↓reduceIte, Nat.reduceEqDiff, reduceCtorEq, List.length_cons, List.length_nil, Nat.reduceAdd, Nat.reduceSub, Nat.reduceLT, true_and, decide_true, List.getElem?_cons_zero, isSc, memB, keepB, keepOB, Bool.false_eq_true, Int.toNat_natCast, Int.toNat_zero, Int.reduceLE, Int.reduceLT, isCell, cellsOf, Nat.zero_add, Nat.add_zero, List.set_cons_zero, Int.natCast_nonneg, and_self, Int.cast_ofNat_Int]
      refine ⟨by rw [fits_i64]; omega, by rw [fits_i64]; omega, cntJ_intro (N := 3) (k := 0) () (by omega) ?_ trivial⟩
      rw [show kJ nIntA3 a k j + 1 = kJ nIntA3 a k j + ((1 : Nat) : Int) from by omega]
      rfl
    · simp only [r_packo hne, r_setObo hne, psset_sset, r_sset, hst, hgp, rset_get hjR, setp_row hv hjR, Nat.zero_add, hja, r_okmo hne, Int.cast_ofNat_Int, Nat.mul_one, Int.reduceAdd, Nat.lt_irrefl, Nat.not_lt_zero, Nat.reduceAdd, r_cons, r_nil, r_kont, r_seq1, r_blk1, r_sk, r_rg, r_sq, r_bl, r_cd, r_cd2, r_op1, r_go1, r_mv, r_bi, r_add0, r_lti, r_op3, r_ixn, r_ia, r_rde, r_rd3, r_iah, r_iah2, r_ia3, r_ja, r_ja3, r_sset, r_fgt, r_clean, r_okm4, r_okE0, r_okE1, r_okL0, r_round1, r_st, r_st2, r_kst, r_stcs0, r_stcs1, r_sc1, r_sc3, r_sc4, r_sc2, r_lt1, ptd, lk, pt, xv, kv, kc, ↓reduceIte, Nat.reduceEqDiff, reduceCtorEq, List.length_cons, List.length_nil, Nat.reduceAdd, Nat.reduceSub, Nat.reduceLT, true_and, decide_true, List.getElem?_cons_zero, List.getElem?_cons_succ, isSc, memB, keepB, keepOB, Bool.false_eq_true, Int.toNat_natCast, Int.toNat_one, Int.reduceLE, Int.reduceLT, isCell, cellsOf, Nat.zero_add, List.set_cons_zero, List.set_cons_succ, Int.natCast_nonneg, and_self, Int.cast_ofNat_Int]
      refine ⟨by rw [fits_i64]; omega, by rw [fits_i64]; omega, cntJ_intro (N := 3) (k := 1) () (by omega) ?_ trivial⟩
      rw [show kJ nIntA3 a k j + 1 + 1 = kJ nIntA3 a k j + ((2 : Nat) : Int) from by omega]
      rfl
    · simp only [r_packo hne, r_setObo hne, psset_sset, r_sset, hst, hgp, rset_get hjR, setp_row hv hjR, Nat.zero_add, hja, r_okmo hne, Int.cast_ofNat_Int, Nat.mul_one, Int.reduceAdd, Nat.lt_irrefl, Nat.not_lt_zero, Nat.reduceAdd, r_cons, r_nil, r_kont, r_seq1, r_blk1, r_sk, r_rg, r_sq, r_bl, r_cd, r_cd2, r_op1, r_go1, r_mv, r_bi, r_add0, r_lti, r_op3, r_ixn, r_ia, r_rde, r_rd3, r_iah, r_iah2, r_ia3, r_ja, r_ja3, r_sset, r_fgt, r_clean, r_okm4, r_okE0, r_okE1, r_okL0, r_round1, r_st, r_st2, r_kst, r_stcs0, r_stcs1, r_sc1, r_sc3, r_sc4, r_sc2, r_lt1, ptd, lk, pt, xv, kv, kc, ↓reduceIte, Nat.reduceEqDiff, reduceCtorEq, List.length_cons, List.length_nil, Nat.reduceAdd, Nat.reduceSub, Nat.reduceLT, true_and, decide_true, List.getElem?_cons_zero, List.getElem?_cons_succ, isSc, memB, keepB, keepOB, Bool.false_eq_true, Int.toNat_natCast, Int.reduceToNat, Int.reduceLE, Int.reduceLT, isCell, cellsOf, Nat.zero_add, List.set_cons_zero, List.set_cons_succ, Int.natCast_nonneg, and_self, Int.cast_ofNat_Int]
      refine ⟨by rw [fits_i64]; omega, by rw [fits_i64]; omega, cntJ_intro (N := 3) (k := 2) () (by omega) ?_ trivial⟩
      rw [show kJ nIntA3 a k j + 2 + 1 = kJ nIntA3 a k j + ((3 : Nat) : Int) from by omega]
      rfl
    · simp only [r_okmo hne, Int.cast_ofNat_Int, Nat.not_lt_zero, r_cons, r_nil, r_kont, r_seq1, r_seq2, r_blk1, r_blk2, r_rg, r_sq, r_ex, r_cd, r_cd2, r_op1, r_go1, r_mv, r_bi, r_add0, r_lti, r_fgt, r_clean, r_okm4, r_okE0, r_okE1, r_okL0, r_round1, r_round2, r_lt1, ptd, lk, pt, xv, kv, kc, ↓reduceIte, Nat.reduceEqDiff, reduceCtorEq, Nat.reduceSub, Nat.reduceLT, true_and, decide_false, memB, keepB, keepOB, Bool.false_eq_true, Int.reduceLT, and_self, Int.cast_ofNat_Int]
      refine ⟨by rw [fits_i64]; omega, cntJ_intro () hja ?_ trivial⟩
      rw [kJ_succ nIntA3 hja, hR']
      rfl
  · have : j = a.length := by omega
    subst this
    rw [kJ_all, lJ_all]
    exact ⟨rfl, rfl⟩
end Go.Fd

/-
  SMALL WORDS FOR MARKS. Own work.
-/
namespace Go.Fd
theorem sset_ne {S : Sto} {id i : Oid} {ob : Ob} (h : i ≠ id) : sset S id ob i = S i := if_neg h
theorem mL_get {α : Type} {m : α → Int → α} {n : α → Nat} : ∀ {a : List α} {k : Int} {j : Nat} (h : j < a.length), (mL m n a k)[j]? = some (m a[j] (kJ n a k j))
  | [], _, _, h => by cases h
  | x :: r, k, 0, _ => by simp [mL, kJ, nL]
  | x :: r, k, j + 1, h => by
    simp only [mL, List.getElem?_cons_succ, List.getElem_cons_succ]
    rw [mL_get (by simpa using h)]
    simp only [kJ, List.take_succ_cons, nL]
    congr 2
    omega
theorem mL_row {α : Type} {c : α → List Tr} {m : α → Int → α} {n : α → Nat} {a : List α} {k : Int} {j : Nat} (h : j < a.length) : ((mL m n a k).map c)[j]? = some (c (m a[j] (kJ n a k j))) := by
  rw [List.getElem?_map, mL_get h]; rfl
theorem cut_mL {α : Type} {c : α → List Tr} {m : α → Int → α} {n : α → Nat} {a : List α} {k : Int} : cut ((mL m n a k).map c) 0 a.length = (mL m n a k).map c := by
  simp only [cut, List.drop_zero]
  exact List.take_of_length_le (by rw [List.length_map, mL_length]; exact Nat.le_refl _)
theorem cut_map {α : Type} {c : α → List Tr} {a : List α} : cut (a.map c) 0 a.length = a.map c := by
  simp only [cut, List.drop_zero]
  exact List.take_of_length_le (by rw [List.length_map]; exact Nat.le_refl _)
end Go.Fd

/-
  MARKING STRUCTS; WHETHER MARKS ARE HELD (printed by lawgen.py). Own work.
-/
namespace Go.Fd
set_option maxRecDepth 20000
def nSystem (x : TSystem) : Nat := nL nBigraph x.states + nL nIntA3 x.steps
theorem sem_markSystem (x : TSystem) (k : Int) (lvl : Nat) (S : Sto) (i1 i2 : Oid) (k1 h1 v1 k2 h2 v2 : Nat) (c1 c2 : Option Nat) (l1 : i1.1 < lvl) (l2 : i2.1 < lvl) (n2_1 : i2 ≠ i1) (s1 : S i1 = some (.ar k1 (x.states.map cBigraph) true h1 v1)) (s2 : S i2 = some (.ar k2 (x.steps.map cA3) true h2 v2)) (h0 : 0 ≤ k) (hk : k + nSystem x ≤ 4611686018427387904) (hb : bdSystem 4294967296 x) :
    Sem Go.Proofs.Try.prog fid_laws_markSystem lvl [.ag [.hd i1 [] 0 x.states.length c1 h1, .hd i2 [] 0 x.steps.length c2 h2], iI k] S (iI (k + nSystem x)) (sset (sset S i1 (.ar k1 (((mL mBigraph nBigraph x.states (k))).map cBigraph) true h1 v1)) i2 (.ar k2 (((mL mIntA3 nIntA3 x.steps (k + (nL nBigraph x.states : Nat)))).map cA3) true h2 v2)) := by
  obtain ⟨b0, b1, b2⟩ := hb
  have e1 : i1.1 ≠ lvl := by omega
  have e2 : i2.1 ≠ lvl := by omega
  simp only [nSystem] at hk
  refine sem_of_chk k_laws_markSystem trivial ?_
  simp only [c_laws_markSystem, r_cons, r_nil, r_kont, r_seq1, r_rg, r_sq, r_wpF, r_op1, r_go1, r_mv, r_bx, r_bx1, r_op3, r_fa, r_fa2, r_pack, r_lab, r_ld, r_ld2, r_cay, r_cay1, ptd, keyOf, freshK, lk, pt, lkO, ptO, xv, kv, kc, params, ↓reduceIte, Nat.reduceEqDiff, Nat.reduceMul, reduceCtorEq, List.length_cons, List.length_nil, Nat.reduceAdd, Nat.reduceLeDiff, Nat.reduceLT, true_and, List.map_cons, List.map_nil, List.cons_append, List.nil_append, List.getElem?_cons_zero, List.all_cons, List.all_nil, isCell, Bool.and_self, cellsOf, Nat.zero_add, Nat.add_zero, and_self]
  simp only [arg1]
  refine kcy_mark0 mark_BigraphS l1 s1 (by omega) (by omega) b0 b1 ?_
  simp only [r_cons, r_nil, r_kont, r_seq1, r_rg, r_sq, r_op1, r_go1, r_mv, r_op3, r_fa, r_fa2, r_pack, r_lab, r_ld, r_ld2, r_cay, r_cay1, ptd, lk, pt, lkO, xv, ↓reduceIte, Nat.reduceEqDiff, reduceCtorEq, Nat.reduceLT, List.map_cons, List.map_nil, List.cons_append, List.nil_append, List.getElem?_cons_zero, List.getElem?_cons_succ, Nat.zero_add]
  simp only [arg1]
  refine kcy_mark0 mark_IntA3S l2 (by rw [sset_ne n2_1]; exact s2) (by omega) (by omega) b2 (fun _ _ => trivial) ?_
  simp only [r_cons, r_nil, r_kont, r_seq1, r_fn2, r_rg, r_sq, r_rt, r_op1, r_mv, r_fin, r_kfe1, r_kcx, r_exps0, r_exps1, r_kex, r_exp1, r_expv2, ptd, lk, pt, xv, ↓reduceIte, Nat.reduceEqDiff, reduceCtorEq, Nat.reduceLT, and_true]
  simp only [nSystem, Int.natCast_add, ← Int.add_assoc]
  try exact ⟨rfl, rfl⟩
theorem kcy_markSystem {x : TSystem} {k : Int} {lvl a1 a2 : Nat} {out : Sto} {k1 h1 v1 k2 h2 v2 : Nat} {c1 c2 : Option Nat} {env : List (Nat × IV)} {loc : List (Nat × Ob)} {d : Option Nat} {K : St → Prop} (n2_1 : a2 ≠ a1) (s1 : lkO a1 loc = some (.ar k1 (x.states.map cBigraph) true h1 v1)) (s2 : lkO a2 loc = some (.ar k2 (x.steps.map cA3) true h2 v2)) (h0 : 0 ≤ k) (hk : k + nSystem x ≤ 4611686018427387904) (hb : bdSystem 4294967296 x)
    (hK : K ⟨lvl, ptd d (iI (k + nSystem x)) env, (ptO a2 (.ar k2 (((mL mIntA3 nIntA3 x.steps (k + (nL nBigraph x.states : Nat)))).map cA3) true h2 v2) (ptO a1 (.ar k1 (((mL mBigraph nBigraph x.states (k))).map cBigraph) true h1 v1) loc)), out⟩) :
    kcy (Sem Go.Proofs.Try.prog) fid_laws_markSystem true lvl env loc out d K [.ag [.hd (lvl, a1) [] 0 x.states.length c1 h1, .hd (lvl, a2) [] 0 x.steps.length c2 h2], iI k] := by
  refine kcy_intro (r := iI (k + nSystem x)) (ptO a2 (.ar k2 (((mL mIntA3 nIntA3 x.steps (k + (nL nBigraph x.states : Nat)))).map cA3) true h2 v2) (ptO a1 (.ar k1 (((mL mBigraph nBigraph x.states (k))).map cBigraph) true h1 v1) loc)) out (fun _ _ => rfl) ?_ ⟨trivial, hK⟩
  rw [packS_ptO, packS_ptO]
  exact sem_markSystem x k (lvl + 1) _ (lvl, a1) (lvl, a2) k1 h1 v1 k2 h2 v2 c1 c2 (Nat.lt_succ_self _) (Nat.lt_succ_self _) (fun e => n2_1 (congrArg Prod.snd e)) (by rw [r_pack]; exact s1) (by rw [r_pack]; exact s2) h0 hk hb
theorem held_IntS (a : List Int) (k : Int) (hl : a.length ≤ 4294967296) (h0 : 0 ≤ k) (hk : k + nL nInt a ≤ 4611686018427387904) (lvl : Nat) (S : Sto) : Sem Go.Proofs.Try.prog fid_laws_heldIntS lvl [.tr (.sl (rI (mL mInt nInt a k))), iI k] S (iI (k + nL nInt a)) S := by
  refine sem_of_chk k_laws_heldIntS trivial ?_
  simp only [c_laws_heldIntS, r_cons, r_nil, r_kont, r_seq1, r_rg, r_sq, r_bl, r_wpF, r_op1, r_mv, ptd, pt, xv, kv, kc, params, ↓reduceIte, Nat.reduceEqDiff, reduceCtorEq, List.length_cons, List.length_nil, Nat.reduceAdd, Nat.reduceLeDiff, Nat.reduceLT, true_and, Nat.zero_add]
  refine wp_count (α := Unit) a.length (fun j _ => ⟨lvl, [(0, .tr (.sl (rI (mL mInt nInt a k)))), (1, iI (kJ nInt a k j)), (5, iI j)], [], S⟩) (fun _ _ => True) () ⟨by simp only [r_clean, r_okm4, r_okE0, r_okE1, r_okL0, ↓reduceIte, Nat.reduceEqDiff, reduceCtorEq, memB, keepB, keepOB, Bool.false_eq_true, and_self], by (simp only [kJ_zero, r_fgt, ↓reduceIte, Nat.reduceEqDiff, reduceCtorEq, memB, keepB, keepOB, Bool.false_eq_true, Int.cast_ofNat_Int]) <;> rfl⟩ trivial ?_
  intro j _ hj _
  simp only [List.length_map, mL_length, r_cons, r_nil, r_kont, r_seq1, r_seq2, r_blk2, r_fn2, r_sk, r_rg, r_sq, r_bl, r_ex, r_rt, r_cd, r_cd2, r_op1, r_go1, r_mv, r_bi, r_lti, r_ln, r_ln1, r_ixn, r_ia, r_ia1, r_fin, r_kfe1, r_kcx, r_exps0, r_exps1, r_kex, r_exp1, r_expv2, r_round2, r_lt1, ptd, lk, pt, xv, ↓reduceIte, Nat.reduceEqDiff, reduceCtorEq, Nat.reduceLT, true_and, and_true, decide_eq_true_eq, Int.toNat_natCast, Int.natCast_nonneg, List.length_map]
  refine ite_of (fun hlt => ?_) (fun hge => ?_)
  · have hja : j < a.length := by omega
    have ga := mL_row (c := (fun n : Int => [tv n])) (m := mInt) (n := nInt) (k := k) hja
    have hge2 := kJ_le nInt (a := a) (k := k) (j := j + 1)
    rw [kJ_succ nInt hja] at hge2
    have hge3 := kJ_ge nInt (a := a) (k := k) (j := j)
    try simp only [nInt] at hge2
    simp only [ga, mInt, mInt, Nat.zero_add, ne_eq, not_true_eq_false, r_cons, r_nil, r_kont, r_seq1, r_blk1, r_sk, r_rg, r_cd, r_cd2, r_op1, r_go1, r_mv, r_bi, r_add0, r_nei, r_op3, r_iae, r_ltr, r_ld, r_ld1, r_fgt, r_clean, r_okm4, r_okE0, r_okE1, r_okL0, r_round1, r_lt1, ptd, lk, pt, xv, kv, kc, ↓reduceIte, Nat.reduceEqDiff, reduceCtorEq, List.length_cons, List.length_nil, Nat.reduceLT, true_and, decide_false, List.getElem?_cons_zero, memB, keepB, keepOB, Bool.false_eq_true, Nat.zero_add, ne_eq, not_true_eq_false, and_self]
    refine ⟨by rw [fits_i64]; omega, ⟨by rw [fits_i64]; omega, cntJ_intro () hja ?_ trivial⟩⟩
    rw [kJ_succ nInt hja]
    simp only [nInt, Int.natCast_add, Int.natCast_one]
    try rfl
  · have : j = a.length := by omega
    subst this
    rw [kJ_all]
end Go.Fd

/-
  HOW MANY MARKS SMALL THINGS TAKE. Own work.
-/
namespace Go.Fd
theorem nL_int : ∀ (l : List Int), nL nInt l = l.length
  | [] => rfl
  | x :: r => by simp only [nL, List.length_cons, nL_int r, nInt]; omega
end Go.Fd

/-
  HOW MANY MARKS A THING TAKES, AGAINST ITS SIZE (printed by lawgen.py). Own work.
-/
namespace Go.Fd
theorem zqNode (x : TNode) : Zq 256 (fun l => szNode x l) (nNode x) := Zq_imp (Zq_th (by omega) (by omega) (Zq_N nInt (fun _ => (by decide : 1 ≤ 256)) x.links) Zq_id) (by simp only [nNode]; omega)
theorem zqWire (x : TWire) : Zq 256 (fun l => szWire x l) (nWire x) := Zq_imp (Zq_th (by omega) (by omega) (Zq_str x.name.size) Zq_id) (by simp only [nWire]; omega)
theorem zqBigraph (x : TBigraph) : Zq 256 (fun l => szBigraph x l) (nBigraph x) := Zq_imp (Zq_th (by omega) (by omega) (Zq_L (n := nNode) (fun y => Zq_imp (zqNode y) (by omega)) x.nodes) (Zq_th (by omega) (by omega) (Zq_N nInt (fun _ => (by decide : 1 ≤ 256)) x.sites) (Zq_th (by omega) (by omega) (Zq_L (n := nStr) (fun y => Zq_str1 y.size) x.outer) (Zq_th (by omega) (by omega) (Zq_L (n := nWire) (fun y => Zq_imp (zqWire y) (by omega)) x.inner) Zq_id)))) (by simp only [nBigraph]; omega)
theorem zqSystem (x : TSystem) : Zq 0 (fun l => szSystem x l) (nSystem x) := Zq_imp (Zq_th (by omega) (by omega) (Zq_L (n := nBigraph) (fun y => Zq_imp (zqBigraph y) (by omega)) x.states) (Zq_th (by omega) (by omega) (Zq_N nIntA3 (fun _ => (by decide : 1 + 1 + 1 ≤ 256)) x.steps) Zq_id)) (by simp only [nSystem]; omega)
end Go.Fd

/-
  WHAT HOLDS OF THE HELPERS OF THE LAWS: eq.. (printed by lawgen.py). Own work.
-/
namespace Go.Fd
set_option maxRecDepth 20000
theorem g_eqIntS : chkF Go.Proofs.Try.prog fid_laws_eqIntS eqS1 = true := by kernel_rfl
theorem sem_eqIntS (a b : (List Int)) (ha : a.length ≤ 9223372036854775807) (lvl : Nat) (S : Sto) : Sem Go.Proofs.Try.prog fid_laws_eqIntS lvl [.tr (.sl (rI a)), .tr (.sl (rI b))] S (iB (decide (a = b))) S := sem_eqI g_eqIntS a b ha lvl S
theorem sem_eqNode (x y : TNode) (hb : bdNode 9223372036854775807 x) (lvl : Nat) (S : Sto) : Sem Go.Proofs.Try.prog fid_laws_eqNode lvl [.ag ((cNode x).map .tr), .ag ((cNode y).map .tr)] S (iB (decide (x = y))) S := by
  have b0 : x.links.length ≤ 9223372036854775807 := hb
  refine sem_of_chk k_laws_eqNode trivial ?_
  simp only [c_laws_eqNode, cNode, List.map_cons, List.map_nil, r_cons, r_nil, r_kont, r_seq1, r_seq3, r_fn2, r_sk, r_rg, r_sq, r_rt, r_cd, r_cd2, r_wpF, r_op1, r_go1, r_mv, r_bt, r_bt1, r_bi, r_nei, r_op3, r_fa, r_fa1, r_ltr, r_ld, r_ld1, r_kcn, r_sn0, r_sn1, r_ca, r_ca1, r_fin, r_kfe1, r_kcx, r_exps0, r_exps1, r_kex, r_exp1, r_expv2, ptd, lk, pt, xv, kv, kc, params, ↓reduceIte, Nat.reduceEqDiff, reduceCtorEq, List.length_cons, List.length_nil, Nat.reduceAdd, Nat.reduceLeDiff, Nat.reduceLT, true_and, and_true, decide_eq_true_eq, List.map_cons, List.map_nil, List.cons_append, List.nil_append, List.getElem?_cons_zero, List.drop_succ_cons, List.drop_zero, mens, men, List.all_cons, List.all_nil, isCell, Bool.and_true, Bool.true_and, Bool.and_self, cellsOf, totr, totrs, tocs, Nat.zero_add, ne_eq, and_self]
  refine ite_of (fun hne => ?_) (fun heq0 => ?_)
  · have : ¬ x = y := fun e => (by rw [e] at hne; simp at hne)
    simp [this]
  refine ite_of (fun hne => ?_) (fun heq1 => ?_)
  · have : ¬ x = y := fun e => (by rw [e] at hne; simp at hne)
    simp [this]
  refine kca_intro (sem_eqIntS x.links y.links b0) ?_
  simp only [Bool.not_eq_true', r_cons, r_nil, r_kont, r_seq1, r_seq3, r_fn2, r_sk, r_rg, r_sq, r_rt, r_cd, r_cd2, r_op1, r_go1, r_mv, r_nt, r_nt1, r_fin, r_kfe1, r_kcx, r_exps0, r_exps1, r_kex, r_exp1, r_expv2, ptd, keyOf, freshK, lk, pt, addO, xv, kv, kc, ↓reduceIte, Nat.reduceEqDiff, Nat.reduceMul, reduceCtorEq, List.length_nil, Nat.reduceLT, true_and, and_true, noSh, isSc, impv, or_true, Bool.not_eq_true']
  refine ite_of (fun hne => ?_) (fun heq2 => ?_)
  · have : ¬ x = y := fun e => (by rw [e] at hne; simp at hne)
    simp [this]
  have : x = y := by
    cases x; cases y; simp_all
  simp [this]
theorem g_eqNodeS : chkF Go.Proofs.Try.prog fid_laws_eqNodeS (eqSl 3 (some 3) fid_laws_eqNode) = true := by kernel_rfl
theorem sem_eqNodeS (a b : (List TNode)) (ha : a.length ≤ 9223372036854775807) (ha2 : ∀ y ∈ a, bdNode 9223372036854775807 y) (lvl : Nat) (S : Sto) : Sem Go.Proofs.Try.prog fid_laws_eqNodeS lvl [.tr (.sl (a.map cNode)), .tr (.sl (b.map cNode))] S (iB (decide (a = b))) S :=
  sem_eqSl g_eqNodeS cNode (fun _ => rfl) a b ha (fun x hx y _ lvl S => sem_eqNode x y (ha2 x hx) lvl S) lvl S
theorem sem_eqWire (x y : TWire) (hb : bdWire 9223372036854775807 x) (lvl : Nat) (S : Sto) : Sem Go.Proofs.Try.prog fid_laws_eqWire lvl [.ag ((cWire x).map .tr), .ag ((cWire y).map .tr)] S (iB (decide (x = y))) S := by
  have b0 : x.name.size ≤ 9223372036854775807 := hb
  refine sem_of_chk k_laws_eqWire trivial ?_
  simp only [c_laws_eqWire, cWire, List.map_cons, List.map_nil, r_cons, r_nil, r_kont, r_seq1, r_seq3, r_fn2, r_sk, r_rg, r_sq, r_rt, r_cd, r_cd2, r_wpF, r_op1, r_go1, r_mv, r_bt, r_bt1, r_bi, r_nei, r_nes, r_op3, r_fa, r_fa1, r_ltr, r_ld, r_ld1, r_fin, r_kfe1, r_kcx, r_exps0, r_exps1, r_kex, r_exp1, r_expv2, ptd, lk, pt, xv, kv, kc, params, ↓reduceIte, Nat.reduceEqDiff, reduceCtorEq, List.length_cons, List.length_nil, Nat.reduceAdd, Nat.reduceLeDiff, Nat.reduceLT, true_and, and_true, decide_eq_true_eq, List.map_cons, List.map_nil, List.getElem?_cons_zero, List.drop_succ_cons, List.drop_zero, List.all_cons, List.all_nil, isCell, Bool.and_self, cellsOf, totr, totrs, tocs, Nat.zero_add, ne_eq]
  refine ite_of (fun hne => ?_) (fun heq0 => ?_)
  · have : ¬ x = y := fun e => (by rw [e] at hne; simp at hne)
    simp [this]
  refine ite_of (fun hne => ?_) (fun heq1 => ?_)
  · have : ¬ x = y := fun e => (by rw [e] at hne; simp at hne)
    simp [this]
  have : x = y := by
    cases x; cases y; simp_all
  simp [this]
theorem g_eqWireS : chkF Go.Proofs.Try.prog fid_laws_eqWireS (eqSl 2 (some 2) fid_laws_eqWire) = true := by kernel_rfl
theorem sem_eqWireS (a b : (List TWire)) (ha : a.length ≤ 9223372036854775807) (ha2 : ∀ y ∈ a, bdWire 9223372036854775807 y) (lvl : Nat) (S : Sto) : Sem Go.Proofs.Try.prog fid_laws_eqWireS lvl [.tr (.sl (a.map cWire)), .tr (.sl (b.map cWire))] S (iB (decide (a = b))) S :=
  sem_eqSl g_eqWireS cWire (fun _ => rfl) a b ha (fun x hx y _ lvl S => sem_eqWire x y (ha2 x hx) lvl S) lvl S
theorem g_eqStringS : chkF Go.Proofs.Try.prog fid_laws_eqStringS eqS1 = true := by kernel_rfl
theorem sem_eqStringS (a b : (List ByteArray)) (ha : a.length ≤ 9223372036854775807) (lvl : Nat) (S : Sto) : Sem Go.Proofs.Try.prog fid_laws_eqStringS lvl [.tr (.sl (rS a)), .tr (.sl (rS b))] S (iB (decide (a = b))) S := sem_eqS g_eqStringS a b ha lvl S
theorem sem_eqBigraph (x y : TBigraph) (hb : bdBigraph 9223372036854775807 x) (lvl : Nat) (S : Sto) : Sem Go.Proofs.Try.prog fid_laws_eqBigraph lvl [.ag ((cBigraph x).map .tr), .ag ((cBigraph y).map .tr)] S (iB (decide (x = y))) S := by
  obtain ⟨b0, b1, b2, b3, b4, b5, b6⟩ := hb
  refine sem_of_chk k_laws_eqBigraph trivial ?_
  simp only [c_laws_eqBigraph, cBigraph, List.map_cons, List.map_nil, r_cons, r_nil, r_kont, r_seq1, r_seq3, r_fn2, r_sk, r_rg, r_sq, r_rt, r_cd, r_cd2, r_wpF, r_op1, r_go1, r_mv, r_bt, r_bt1, r_bi, r_nei, r_op3, r_fa, r_fa1, r_ltr, r_ld, r_ld1, r_kcn, r_sn0, r_sn1, r_ca, r_ca1, r_fin, r_kfe1, r_kcx, r_exps0, r_exps1, r_kex, r_exp1, r_expv2, ptd, lk, pt, xv, kv, kc, params, ↓reduceIte, Nat.reduceEqDiff, reduceCtorEq, List.length_cons, List.length_nil, Nat.reduceAdd, Nat.reduceLeDiff, Nat.reduceLT, true_and, and_true, decide_eq_true_eq, List.map_cons, List.map_nil, List.cons_append, List.nil_append, List.getElem?_cons_zero, List.drop_succ_cons, List.drop_zero, mens, men, List.all_cons, List.all_nil, isCell, Bool.and_true, Bool.true_and, Bool.and_self, cellsOf, totr, totrs, tocs, Nat.zero_add, ne_eq, and_self]
  refine ite_of (fun hne => ?_) (fun heq0 => ?_)
  · have : ¬ x = y := fun e => (by rw [e] at hne; simp at hne)
    simp [this]
  refine kca_intro (sem_eqNodeS x.nodes y.nodes b0 b1) ?_
  simp only [Bool.not_eq_true', r_cons, r_nil, r_kont, r_seq1, r_seq3, r_fn2, r_sk, r_rg, r_sq, r_rt, r_cd, r_cd2, r_op1, r_go1, r_mv, r_nt, r_nt1, r_op3, r_fa, r_fa1, r_ltr, r_ld, r_ld1, r_kcn, r_sn0, r_sn1, r_ca, r_ca1, r_fin, r_kfe1, r_kcx, r_exps0, r_exps1, r_kex, r_exp1, r_expv2, ptd, keyOf, freshK, lk, pt, addO, xv, kv, kc, ↓reduceIte, Nat.reduceEqDiff, Nat.reduceMul, reduceCtorEq, List.length_nil, Nat.reduceLT, true_and, and_true, List.map_cons, List.map_nil, List.cons_append, List.nil_append, List.getElem?_cons_zero, List.drop_succ_cons, List.drop_zero, mens, men, noSh, isSc, impv, or_true, Bool.not_eq_true', and_self]
  refine ite_of (fun hne => ?_) (fun heq1 => ?_)
  · have : ¬ x = y := fun e => (by rw [e] at hne; simp at hne)
    simp [this]
  refine kca_intro (sem_eqIntS x.sites y.sites b2) ?_
  simp only [Bool.not_eq_true', r_cons, r_nil, r_kont, r_seq1, r_seq3, r_fn2, r_sk, r_rg, r_sq, r_rt, r_cd, r_cd2, r_op1, r_go1, r_mv, r_bi, r_nei, r_nt, r_nt1, r_op3, r_fa, r_fa1, r_ltr, r_ld, r_ld1, r_kcn, r_sn0, r_sn1, r_ca, r_ca1, r_fin, r_kfe1, r_kcx, r_exps0, r_exps1, r_kex, r_exp1, r_expv2, ptd, keyOf, freshK, lk, pt, addO, xv, kv, kc, ↓reduceIte, Nat.reduceEqDiff, Nat.reduceMul, reduceCtorEq, List.length_nil, Nat.reduceLT, true_and, and_true, decide_eq_true_eq, List.map_cons, List.map_nil, List.cons_append, List.nil_append, List.getElem?_cons_zero, List.drop_succ_cons, List.drop_zero, mens, men, noSh, isSc, impv, or_true, Bool.not_eq_true', ne_eq, and_self]
  refine ite_of (fun hne => ?_) (fun heq2 => ?_)
  · have : ¬ x = y := fun e => (by rw [e] at hne; simp at hne)
    simp [this]
  refine ite_of (fun hne => ?_) (fun heq3 => ?_)
  · have : ¬ x = y := fun e => (by rw [e] at hne; simp at hne)
    simp [this]
  refine kca_intro (sem_eqStringS x.outer y.outer b3) ?_
  simp only [Bool.not_eq_true', r_cons, r_nil, r_kont, r_seq1, r_seq3, r_fn2, r_sk, r_rg, r_sq, r_rt, r_cd, r_cd2, r_op1, r_go1, r_mv, r_nt, r_nt1, r_op3, r_fa, r_fa1, r_ltr, r_ld, r_ld1, r_kcn, r_sn0, r_sn1, r_ca, r_ca1, r_fin, r_kfe1, r_kcx, r_exps0, r_exps1, r_kex, r_exp1, r_expv2, ptd, keyOf, freshK, lk, pt, addO, xv, kv, kc, ↓reduceIte, Nat.reduceEqDiff, Nat.reduceMul, reduceCtorEq, List.length_nil, Nat.reduceLT, true_and, and_true, List.map_cons, List.map_nil, List.cons_append, List.nil_append, List.getElem?_cons_zero, List.drop_succ_cons, List.drop_zero, mens, men, noSh, isSc, impv, or_true, Bool.not_eq_true', and_self]
  refine ite_of (fun hne => ?_) (fun heq4 => ?_)
  · have : ¬ x = y := fun e => (by rw [e] at hne; simp at hne)
    simp [this]
  refine kca_intro (sem_eqWireS x.inner y.inner b5 b6) ?_
  simp only [Bool.not_eq_true', r_cons, r_nil, r_kont, r_seq1, r_seq3, r_fn2, r_sk, r_rg, r_sq, r_rt, r_cd, r_cd2, r_op1, r_go1, r_mv, r_nt, r_nt1, r_fin, r_kfe1, r_kcx, r_exps0, r_exps1, r_kex, r_exp1, r_expv2, ptd, keyOf, freshK, lk, pt, addO, xv, kv, kc, ↓reduceIte, Nat.reduceEqDiff, Nat.reduceMul, reduceCtorEq, List.length_nil, Nat.reduceLT, true_and, and_true, noSh, isSc, impv, or_true, Bool.not_eq_true']
  refine ite_of (fun hne => ?_) (fun heq5 => ?_)
  · have : ¬ x = y := fun e => (by rw [e] at hne; simp at hne)
    simp [this]
  have : x = y := by
    cases x; cases y; simp_all
  simp [this]
theorem g_eqBigraphS : chkF Go.Proofs.Try.prog fid_laws_eqBigraphS (eqSl 6 (some 6) fid_laws_eqBigraph) = true := by kernel_rfl
theorem sem_eqBigraphS (a b : (List TBigraph)) (ha : a.length ≤ 9223372036854775807) (ha2 : ∀ y ∈ a, bdBigraph 9223372036854775807 y) (lvl : Nat) (S : Sto) : Sem Go.Proofs.Try.prog fid_laws_eqBigraphS lvl [.tr (.sl (a.map cBigraph)), .tr (.sl (b.map cBigraph))] S (iB (decide (a = b))) S :=
  sem_eqSl g_eqBigraphS cBigraph (fun _ => rfl) a b ha (fun x hx y _ lvl S => sem_eqBigraph x y (ha2 x hx) lvl S) lvl S
theorem sem_eqIntA3 (x y : (Int × Int × Int)) (lvl : Nat) (S : Sto) : Sem Go.Proofs.Try.prog fid_laws_eqIntA3 lvl [.ag ((cA3 x).map .tr), .ag ((cA3 y).map .tr)] S (iB (decide (x = y))) S := by
  refine sem_of_chk k_laws_eqIntA3 trivial ?_
  simp only [c_laws_eqIntA3, cA3, r_cons, r_nil, r_kont, r_seq1, r_rg, r_sq, r_bl, r_wpF, r_op1, r_mv, r_bt, r_bt1, ptd, lk, pt, xv, kv, kc, params, ↓reduceIte, Nat.reduceEqDiff, reduceCtorEq, List.length_cons, List.length_nil, Nat.reduceAdd, Nat.reduceLeDiff, Nat.reduceLT, true_and, List.map_cons, List.map_nil, List.all_cons, List.all_nil, isCell, Bool.and_self, cellsOf, totr, totrs, tocs, Nat.zero_add]
  refine wp_count (α := Unit) 3 (fun j _ => ⟨lvl, [(2, .ta (cA3 x)), (3, .ta (cA3 y)), (5, iI j)], [], S⟩) (fun j _ => (cA3 x).take j = (cA3 y).take j) () ⟨by simp only [r_clean, r_okm4, r_okm11, r_okE0, r_okE1, r_okL0, ↓reduceIte, Nat.reduceEqDiff, reduceCtorEq, memB, keepB, keepOB, Bool.false_eq_true, and_self], by (simp only [r_fgt, ↓reduceIte, Nat.reduceEqDiff, reduceCtorEq, memB, keepB, keepOB, Bool.false_eq_true, Int.cast_ofNat_Int]) <;> rfl⟩ rfl ?_
  intro j _ hj hA
  have hc : j = 0 ∨ j = 1 ∨ j = 2 ∨ j = 3 := by omega
  rcases hc with rfl | rfl | rfl | rfl
  · simp only [cA3, Int.cast_ofNat_Int, Nat.mul_one, r_cons, r_nil, r_kont, r_seq1, r_seq3, r_blk1, r_blk3, r_fn2, r_sk, r_rg, r_sq, r_bl, r_rt, r_cd, r_cd2, r_op1, r_go1, r_mv, r_bi, r_add0, r_nei, r_lti, r_op3, r_ixn, r_ja, r_ja1, r_ltr, r_ld, r_ld1, r_fin, r_kfe1, r_kcx, r_exps0, r_exps1, r_kex, r_exp1, r_expv2, r_fgt, r_clean, r_okm4, r_okm11, r_okE0, r_okE1, r_okL0, r_round1, r_round3, r_lt1, ptd, lk, pt, xv, kv, kc, ↓reduceIte, Nat.reduceEqDiff, Nat.reduceSub, Nat.reduceLT, true_and, and_true, decide_eq_true_eq, decide_true, List.getElem?_cons_zero, List.drop_zero, memB, keepB, keepOB, Bool.false_eq_true, Int.toNat_zero, Int.reduceLE, Int.reduceLT, ne_eq, and_self, Int.cast_ofNat_Int]
    refine ite_of (fun hne => ?_) (fun heq => ?_)
    · have : ¬ x = y := fun e => hne (by rw [e])
      simp [this]
    · refine ⟨by rw [fits_i64]; omega, cntJ_intro (N := 3) (k := 0) () (by omega) rfl ?_⟩
      simp [cA3] at hA ⊢
      simp_all
  · simp only [cA3, Int.cast_ofNat_Int, Nat.mul_one, r_cons, r_nil, r_kont, r_seq1, r_seq3, r_blk1, r_blk3, r_fn2, r_sk, r_rg, r_sq, r_bl, r_rt, r_cd, r_cd2, r_op1, r_go1, r_mv, r_bi, r_add0, r_nei, r_lti, r_op3, r_ixn, r_ja, r_ja1, r_ltr, r_ld, r_ld1, r_fin, r_kfe1, r_kcx, r_exps0, r_exps1, r_kex, r_exp1, r_expv2, r_fgt, r_clean, r_okm4, r_okm11, r_okE0, r_okE1, r_okL0, r_round1, r_round3, r_lt1, ptd, lk, pt, xv, kv, kc, ↓reduceIte, Nat.reduceEqDiff, Nat.reduceSub, Nat.reduceLT, true_and, and_true, decide_eq_true_eq, decide_true, List.getElem?_cons_zero, List.drop_succ_cons, List.drop_zero, memB, keepB, keepOB, Bool.false_eq_true, Int.toNat_one, Int.reduceLE, Int.reduceLT, ne_eq, and_self, Int.cast_ofNat_Int]
    refine ite_of (fun hne => ?_) (fun heq => ?_)
    · have : ¬ x = y := fun e => hne (by rw [e])
      simp [this]
    · refine ⟨by rw [fits_i64]; omega, cntJ_intro (N := 3) (k := 1) () (by omega) rfl ?_⟩
      simp [cA3] at hA ⊢
      simp_all
  · simp only [cA3, Int.cast_ofNat_Int, Nat.mul_one, r_cons, r_nil, r_kont, r_seq1, r_seq3, r_blk1, r_blk3, r_fn2, r_sk, r_rg, r_sq, r_bl, r_rt, r_cd, r_cd2, r_op1, r_go1, r_mv, r_bi, r_add0, r_nei, r_lti, r_op3, r_ixn, r_ja, r_ja1, r_ltr, r_ld, r_ld1, r_fin, r_kfe1, r_kcx, r_exps0, r_exps1, r_kex, r_exp1, r_expv2, r_fgt, r_clean, r_okm4, r_okm11, r_okE0, r_okE1, r_okL0, r_round1, r_round3, r_lt1, ptd, lk, pt, xv, kv, kc, ↓reduceIte, Nat.reduceEqDiff, Nat.reduceSub, Nat.reduceLT, true_and, and_true, decide_eq_true_eq, decide_true, List.getElem?_cons_zero, List.drop_succ_cons, List.drop_zero, memB, keepB, keepOB, Bool.false_eq_true, Int.reduceToNat, Int.reduceLE, Int.reduceLT, ne_eq, and_self, Int.cast_ofNat_Int]
    refine ite_of (fun hne => ?_) (fun heq => ?_)
    · have : ¬ x = y := fun e => hne (by rw [e])
      simp [this]
    · refine ⟨by rw [fits_i64]; omega, cntJ_intro (N := 3) (k := 2) () (by omega) rfl ?_⟩
      simp [cA3] at hA ⊢
      simp_all
  · simp only [cA3, Int.cast_ofNat_Int, r_cons, r_nil, r_kont, r_seq1, r_seq2, r_blk2, r_fn2, r_rg, r_sq, r_ex, r_rt, r_cd, r_cd2, r_op1, r_go1, r_mv, r_bi, r_lti, r_fin, r_kfe1, r_kcx, r_exps0, r_exps1, r_kex, r_exp1, r_expv2, r_round2, r_lt1, ptd, lk, pt, xv, kv, kc, ↓reduceIte, Nat.reduceEqDiff, Nat.reduceSub, Nat.reduceLT, and_true, decide_false, Bool.false_eq_true, Int.reduceLT, Int.cast_ofNat_Int]
    have : x = y := by
      simp [cA3] at hA
      obtain ⟨x0, x1, x2⟩ := x; obtain ⟨y0, y1, y2⟩ := y
      simp_all
    simp [this]
theorem g_eqIntA3S : chkF Go.Proofs.Try.prog fid_laws_eqIntA3S (eqSl 3 (some 3) fid_laws_eqIntA3) = true := by kernel_rfl
theorem sem_eqIntA3S (a b : (List (Int × Int × Int))) (ha : a.length ≤ 9223372036854775807) (lvl : Nat) (S : Sto) : Sem Go.Proofs.Try.prog fid_laws_eqIntA3S lvl [.tr (.sl (a.map cA3)), .tr (.sl (b.map cA3))] S (iB (decide (a = b))) S :=
  sem_eqSl g_eqIntA3S cA3 (fun _ => rfl) a b ha (fun x hx y _ lvl S => sem_eqIntA3 x y lvl S) lvl S
theorem sem_eqSystem (x y : TSystem) (hb : bdSystem 9223372036854775807 x) (lvl : Nat) (S : Sto) : Sem Go.Proofs.Try.prog fid_laws_eqSystem lvl [.ag ((cSystem x).map .tr), .ag ((cSystem y).map .tr)] S (iB (decide (x = y))) S := by
  obtain ⟨b0, b1, b2⟩ := hb
  refine sem_of_chk k_laws_eqSystem trivial ?_
  simp only [c_laws_eqSystem, cSystem, List.map_cons, List.map_nil, r_cons, r_nil, r_kont, r_seq1, r_rg, r_sq, r_wpF, r_op1, r_go1, r_mv, r_bt, r_bt1, r_op3, r_fa, r_fa1, r_ltr, r_ld, r_ld1, r_kcn, r_sn0, r_sn1, r_ca, r_ca1, ptd, lk, pt, xv, kv, kc, params, ↓reduceIte, Nat.reduceEqDiff, reduceCtorEq, List.length_cons, List.length_nil, Nat.reduceAdd, Nat.reduceLeDiff, Nat.reduceLT, true_and, List.map_cons, List.map_nil, List.cons_append, List.nil_append, List.getElem?_cons_zero, List.drop_zero, mens, men, List.all_cons, List.all_nil, isCell, Bool.and_true, Bool.and_self, cellsOf, totr, totrs, tocs, Nat.zero_add, and_self]
  refine kca_intro (sem_eqBigraphS x.states y.states b0 b1) ?_
  simp only [Bool.not_eq_true', r_cons, r_nil, r_kont, r_seq1, r_seq3, r_fn2, r_sk, r_rg, r_sq, r_rt, r_cd, r_cd2, r_op1, r_go1, r_mv, r_nt, r_nt1, r_op3, r_fa, r_fa1, r_ltr, r_ld, r_ld1, r_kcn, r_sn0, r_sn1, r_ca, r_ca1, r_fin, r_kfe1, r_kcx, r_exps0, r_exps1, r_kex, r_exp1, r_expv2, ptd, keyOf, freshK, lk, pt, addO, xv, kv, kc, ↓reduceIte, Nat.reduceEqDiff, Nat.reduceMul, reduceCtorEq, List.length_nil, Nat.reduceLT, true_and, and_true, List.map_cons, List.map_nil, List.cons_append, List.nil_append, List.getElem?_cons_zero, List.drop_succ_cons, List.drop_zero, mens, men, noSh, isSc, impv, or_true, Bool.not_eq_true', and_self]
  refine ite_of (fun hne => ?_) (fun heq0 => ?_)
  · have : ¬ x = y := fun e => (by rw [e] at hne; simp at hne)
    simp [this]
  refine kca_intro (sem_eqIntA3S x.steps y.steps b2) ?_
  simp only [Bool.not_eq_true', r_cons, r_nil, r_kont, r_seq1, r_seq3, r_fn2, r_sk, r_rg, r_sq, r_rt, r_cd, r_cd2, r_op1, r_go1, r_mv, r_nt, r_nt1, r_fin, r_kfe1, r_kcx, r_exps0, r_exps1, r_kex, r_exp1, r_expv2, ptd, keyOf, freshK, lk, pt, addO, xv, kv, kc, ↓reduceIte, Nat.reduceEqDiff, Nat.reduceMul, reduceCtorEq, List.length_nil, Nat.reduceLT, true_and, and_true, noSh, isSc, impv, or_true, Bool.not_eq_true']
  refine ite_of (fun hne => ?_) (fun heq1 => ?_)
  · have : ¬ x = y := fun e => (by rw [e] at hne; simp at hne)
    simp [this]
  have : x = y := by
    cases x; cases y; simp_all
  simp [this]
end Go.Fd

/-
  WHAT A SIZE THAT IS LEFT SAYS OF BOUNDS (printed by lawgen.py). Own work.
-/
namespace Go.Fd
/-- A measure that only falls, and what it shows where something is left. -/
def Zm (s : Int → Int) (P : Prop) : Prop := ∀ l : Int, 0 ≤ l → l ≤ 1048576 → s l ≤ l ∧ (0 ≤ s l → P)
theorem Zm_id : Zm (fun l => l) True := fun _ _ _ => ⟨Int.le_refl _, fun _ => trivial⟩
theorem Zm_th {s g : Int → Int} {P Q : Prop} (hs : Zm s P) (hg : Zm g Q) : Zm (fun l => szTh (s l) g) (P ∧ Q) := fun l h0 h1 => by
  have a := hs l h0 h1
  by_cases h : s l < 0
  · simp only [szTh, if_pos h]
    exact ⟨by omega, fun h => by omega⟩
  · simp only [szTh, if_neg h]
    have b := hg (s l) (by omega) (by omega)
    exact ⟨by omega, fun h2 => ⟨a.2 (by omega), b.2 h2⟩⟩
theorem Zm_N (n : Nat) : Zm (fun l => szN n l) (n ≤ 4294967296) := fun l h0 h1 => by
  simp only [szN]
  split
  · exact ⟨by omega, fun h => by omega⟩
  · exact ⟨by omega, fun h => by omega⟩
theorem Zm_str (n : Nat) : Zm (fun l => l - n) (n ≤ 4294967296) := fun l h0 h1 => ⟨by simp only; omega, fun h => by simp only at h; omega⟩
theorem Zm_F {α : Type} {f : α → Int → Int} {P : α → Prop} (hf : ∀ x, Zm (f x) (P x)) : ∀ (a : List α), Zm (fun l => szF f a l) (∀ y ∈ a, P y)
  | [] => fun l _ _ => ⟨Int.le_refl l, fun _ y hy => by cases hy⟩
  | x :: r => fun l h0 h1 => by
    simp only [szF]
    have a := hf x l h0 h1
    split
    · exact ⟨by omega, fun h => by omega⟩
    · have b := Zm_F hf r (f x l) (by omega) (by omega)
      refine ⟨by simp only at b; omega, fun h y hy => ?_⟩
      cases hy with
      | head => exact a.2 (by omega)
      | tail _ hy => exact b.2 h y hy
theorem Zm_L {α : Type} {f : α → Int → Int} {P : α → Prop} (hf : ∀ x, Zm (f x) (P x)) (a : List α) : Zm (fun l => szL f a l) (a.length ≤ 4294967296 ∧ ∀ y ∈ a, P y) := fun l h0 h1 => by
  simp only [szL]
  split
  · exact ⟨by omega, fun h => by omega⟩
  · have b := Zm_F hf a (l - a.length) (by omega) (by omega)
    simp only at b
    exact ⟨by omega, fun h => ⟨by omega, b.2 h⟩⟩
theorem Zm_imp {s : Int → Int} {P Q : Prop} (h : Zm s P) (hq : P → Q) : Zm s Q := fun l h0 h1 => ⟨(h l h0 h1).1, fun h2 => hq ((h l h0 h1).2 h2)⟩
theorem zpNode (x : TNode) : Zm (fun l => szNode x l) (bdNode 4294967296 x) := by
  unfold szNode
  exact Zm_imp (Zm_th (Zm_N _) Zm_id) (fun h => by unfold bdNode; simp only [and_true] at h ⊢; exact h)
theorem zpWire (x : TWire) : Zm (fun l => szWire x l) (bdWire 4294967296 x) := by
  unfold szWire
  exact Zm_imp (Zm_th (Zm_str _) Zm_id) (fun h => by unfold bdWire; simp only [and_true] at h ⊢; exact h)
theorem zpBigraph (x : TBigraph) : Zm (fun l => szBigraph x l) (bdBigraph 4294967296 x) := by
  unfold szBigraph
  exact Zm_imp (Zm_th (Zm_L (fun y => (zpNode _)) _) (Zm_th (Zm_N _) (Zm_th (Zm_L (fun y => (Zm_str _)) _) (Zm_th (Zm_L (fun y => (zpWire _)) _) Zm_id)))) (fun h => by unfold bdBigraph; simp only [and_assoc, and_true] at h ⊢; exact h)
theorem zpSystem (x : TSystem) : Zm (fun l => szSystem x l) (bdSystem 4294967296 x) := by
  unfold szSystem
  exact Zm_imp (Zm_th (Zm_L (fun y => (zpBigraph _)) _) (Zm_th (Zm_N _) Zm_id)) (fun h => by unfold bdSystem; simp only [and_assoc, and_true] at h ⊢; exact h)
end Go.Fd

/-
  THE END STATES ARE FEW. Own work.
-/
namespace Go.Fd
theorem ok_EndStates (x : TSystem) (hb : bdSystem 4294967296 x) : (r0_EndStates x).length ≤ 4294967296 ∧ 1 + (nL nInt (r0_EndStates x) : Int) ≤ 4611686018427387904 := by
  have h : (r0_EndStates x).length ≤ 4294967296 := by
    unfold r0_EndStates
    have := ends_le (x := x) (j := x.states.length)
    have := hb.1
    split
    · omega
    · simp
  rw [nL_int]
  exact ⟨h, by omega⟩
end Go.Fd
