/-
  THE LAW OF EndStates (printed by lawtext.py). Own work.
-/
import Derived.Test.YteoogncgfnpoeaaT05
import Derived.ChangeMaps5
import Derived.ChangeShapes
import Derived.KernelRfl
import Derived.Test.YteoogncgfnpoeaaProg
namespace Go.Fd
set_option maxRecDepth 20000
theorem sem_FnExactEndStates (x0 : TSystem) (hb0_0 : bdSystem 9223372036854775807 x0) (lvl : Nat) (S : Sto) : Sem Go.Proofs.Try.prog fid_laws_FnExactEndStates lvl [.ag ((cSystem x0).map .tr)] S (iB true) S := by
  refine sem_of_chk k_laws_FnExactEndStates trivial ?_
  simp only [c_laws_FnExactEndStates, cSystem, r_cons, r_nil, r_kont, r_seq1, r_rg, r_sq, r_wpF, r_op1, r_go1, r_mv, r_bt, r_bt1, r_ld, r_ld4, r_kcn, r_kagn, r_sn0, r_sn1, r_sn3, r_ca, r_ca1, ptd, lk, pt, xv, kv, kc, params, ↓reduceIte, Nat.reduceEqDiff, reduceCtorEq, List.length_cons, List.length_nil, Nat.reduceAdd, Nat.reduceLeDiff, Nat.reduceLT, true_and, List.map_cons, List.map_nil, List.cons_append, List.nil_append, List.take_succ_cons, List.take_zero, mens, men, List.all_cons, List.all_nil, isCell, Bool.and_true, Bool.and_self, cellsOf, totr, totrs, tocs, Nat.zero_add, Nat.le_refl, and_self]
  have ul : (1048576 : Int) ≤ 1048576 := Int.le_refl _
  obtain ⟨_, ha0⟩ := sem_szSystem x0 hb0_0 (1048576) (by omega) (by omega)
  refine kca_intro ha0 ?_
  simp only [r_cons, r_nil, r_kont, r_seq1, r_seq3, r_fn2, r_sk, r_rg, r_sq, r_rt, r_cd, r_cd2, r_op1, r_go1, r_mv, r_bi, r_lti, r_ld, r_ld4, r_kcn, r_kagn, r_sn0, r_sn1, r_sn3, r_ca, r_ca1, r_fin, r_kfe1, r_kcx, r_exps0, r_exps1, r_kex, r_exp1, r_expv2, ptd, keyOf, freshK, lk, pt, addO, xv, kv, kc, ↓reduceIte, Nat.reduceEqDiff, Nat.reduceMul, reduceCtorEq, List.length_cons, List.length_nil, Nat.reduceAdd, Nat.reduceLT, true_and, decide_eq_true_eq, List.map_cons, List.map_nil, List.cons_append, List.nil_append, List.take_succ_cons, List.take_zero, mens, men, noSh, isSc, impv, or_true, Nat.zero_add, Nat.le_refl, and_self]
  refine ite_of (fun _ => trivial) (fun hz0 => ?_)
  have zp0 := (zpSystem x0) (1048576) (by omega) (by omega)
  have zq0 := (zqSystem x0) (1048576) (by omega) (by omega)
  simp only at zp0 zq0
  have hp0 := zp0.2 (by omega)
  have hq0 := zq0.2 (by omega)
  have hs0_0 := hp0
  refine kca_intro (sem_toSystem x0 hs0_0) ?_
  simp only [oSystem, r_cons, r_kont, r_op1, r_kcn, r_kagn, r_sn0, r_sn1, r_sn3, r_ca, r_ca1, ptd, keyOf, freshK, lk, pt, addO, xv, ↓reduceIte, Nat.reduceEqDiff, Nat.reduceMul, reduceCtorEq, List.length_nil, Nat.reduceLT, true_and, List.map_cons, List.map_nil, List.cons_append, List.nil_append, mens, men, noSh, noShs, impv, impvs, impc, or_true, Bool.false_eq_true, and_self]
  refine kca_intro (sem_spec_EndStates x0 hs0_0) ?_
  simp only [r_cons, r_nil, r_kont, r_seq1, r_rg, r_sq, r_op1, r_go1, r_mv, r_op3, r_xt, r_xt1, r_ld, r_ld4, r_kcn, r_kagn, r_sn0, r_sn1, r_sn3, r_ca, r_ca1, r_lt1, ptd, keyOf, freshK, lk, pt, addO, xv, ↓reduceIte, Nat.reduceEqDiff, Nat.reduceMul, reduceCtorEq, List.length_cons, List.length_nil, Nat.reduceAdd, Nat.reduceLT, true_and, List.map_cons, List.map_nil, List.cons_append, List.nil_append, List.getElem?_cons_zero, List.getElem?_cons_succ, List.take_succ_cons, List.take_zero, mens, men, noSh, noShs, isSc, impv, impvs, impc, or_true, Bool.false_eq_true, Nat.zero_add, Nat.le_refl, and_self]
  refine kca_intro (sem_toSystem x0 hs0_0) ?_
  simp only [List.length_map, cut_map, oSystem, r_cons, r_nil, r_kont, r_seq1, r_rg, r_sq, r_op1, r_go1, r_al, r_op3, r_rde, r_rd3, r_stamp0, r_pack, r_setOb, r_ld, r_labm, r_ld5, r_kcn, r_kagn, r_khdn, r_sn0, r_sn3, r_sn8, r_ca, r_ca1, r_st, r_st1, r_stb, r_setAt0, r_setAt1, r_lows0, r_lows1, r_low3, zfill, zobs, ptd, keyOf, freshK, lk, pt, lkO, ptO, addO, xv, kc, ↓reduceIte, Nat.reduceEqDiff, Nat.reduceMul, reduceCtorEq, List.length_cons, List.length_nil, Nat.reduceAdd, Nat.reduceLT, true_and, and_true, List.map_cons, List.map_nil, List.cons_append, List.nil_append, List.drop_zero, List.take_succ_cons, List.take_zero, mens, men, noSh, noShs, impv, impvs, impc, or_true, List.all_cons, List.all_nil, isCell, Bool.and_self, cellsOf, getp, Nat.zero_add, Nat.add_zero, List.set_cons_zero, List.set_cons_succ, Nat.le_refl, List.length_map, and_self]
  refine kca_intro (sem_impl_EndStates x0 hs0_0) ?_
  simp only [List.length_map, cut_map, r_cons, r_nil, r_kont, r_seq1, r_rg, r_sq, r_op1, r_go1, r_mv, r_op3, r_xt, r_xt1, r_rde, r_rd3, r_stamp0, r_pack, r_kcn, r_khdn, r_sn0, r_sn1, r_sn8, r_ca, r_ca1, r_lt1, ptd, keyOf, freshK, lk, pt, lkO, ptO, addO, xv, ↓reduceIte, Nat.reduceEqDiff, Nat.reduceMul, reduceCtorEq, List.length_cons, List.length_nil, Nat.reduceLT, true_and, and_true, List.map_cons, List.map_nil, List.cons_append, List.nil_append, List.getElem?_cons_zero, List.getElem?_cons_succ, mens, men, noSh, noShs, isSc, impv, impvs, impc, or_true, getp, Nat.zero_add, Nat.add_zero, Nat.le_refl, List.length_map, and_self]
  obtain ⟨hr0_0, hrn⟩ := ok_EndStates x0 hs0_0
  refine kca_intro (sem_eqIntS (r0_EndStates x0) (r0_EndStates x0) (by omega)) ?_
  simp only [bne_self_eq_false, r_cons, r_nil, r_kont, r_seq1, r_sk, r_rg, r_sq, r_cd, r_cd2, r_op1, r_op1g, r_gd, r_go1, r_mv, r_bi, r_neb, r_nt, r_nt1, r_pk, r_pkf, r_pack, r_ld, r_ld4, r_labm, r_ld5, r_kcn, r_kagn, r_sn0, r_sn1, r_sn3, r_ca, r_ca1, ptd, keyOf, freshK, lk, pt, lkO, addO, xv, kv, kc, ↓reduceIte, Nat.reduceEqDiff, Nat.reduceMul, reduceCtorEq, List.length_cons, List.length_nil, Nat.reduceAdd, Nat.reduceLT, true_and, decide_true, List.map_cons, List.map_nil, List.cons_append, List.nil_append, List.drop_zero, List.take_succ_cons, List.take_zero, mens, men, noSh, isSc, impv, or_true, Bool.false_eq_true, Bool.not_true, Nat.zero_add, Nat.le_refl, and_self]
  refine kca_intro (sem_toSystem x0 hs0_0) ?_
  simp only [List.length_map, cut_map, oSystem, r_cons, r_kont, r_op1, r_op3, r_rde, r_rd3, r_stamp0, r_pack, r_kcn, r_kagn, r_khdn, r_sn0, r_sn1, r_sn3, r_sn8, r_ca, r_ca1, ptd, keyOf, freshK, lk, pt, lkO, addO, xv, ↓reduceIte, Nat.reduceEqDiff, Nat.reduceMul, reduceCtorEq, List.length_nil, Nat.reduceLT, true_and, and_true, List.map_cons, List.map_nil, List.cons_append, List.nil_append, mens, men, noSh, noShs, impv, impvs, impc, or_true, Bool.false_eq_true, getp, Nat.zero_add, Nat.le_refl, List.length_map, and_self]
  refine kca_intro (sem_eqSystem x0 x0 hb0_0) ?_
  simp only [r_cons, r_nil, r_kont, r_seq1, r_sk, r_rg, r_sq, r_cd, r_cd2, r_op1, r_go1, r_mv, r_nt, r_nt1, r_pack, r_ld, r_labm, r_ld5, r_cay, r_cay1, ptd, keyOf, freshK, lk, pt, lkO, addO, xv, kv, kc, ↓reduceIte, Nat.reduceEqDiff, Nat.reduceMul, reduceCtorEq, List.length_cons, List.length_nil, Nat.reduceAdd, Nat.reduceLT, true_and, decide_true, List.map_cons, List.map_nil, List.cons_append, List.nil_append, List.drop_zero, List.take_succ_cons, List.take_zero, noSh, isSc, impv, or_true, Bool.false_eq_true, Bool.not_true, Nat.zero_add, Nat.le_refl]
  simp only [arg1]
  refine kcy_markSystem (x := x0) (by decide) rfl rfl (by omega) (by omega) hs0_0 ?_
  simp only [List.length_map, cut_map, r_cons, r_nil, r_kont, r_seq1, r_seq3, r_fn2, r_rg, r_sq, r_rt, r_cd, r_cd2, r_op1, r_op1g, r_gd, r_go1, r_mv, r_bi, r_lti, r_pk, r_pkt, r_op3, r_rde, r_rd3, r_stamp0, r_pack, r_kcn, r_khdn, r_sn0, r_sn1, r_sn8, r_ca, r_ca1, r_fin, r_kfe1, r_kcx, r_exps0, r_exps1, r_kex, r_exp1, r_expv2, ptd, lk, pt, lkO, ptO, xv, kv, kc, ↓reduceIte, Nat.reduceEqDiff, reduceCtorEq, Nat.reduceLT, true_and, and_true, List.map_cons, List.map_nil, List.cons_append, List.nil_append, mens, men, Bool.true_eq_false, Bool.not_false, getp, Nat.zero_add, Nat.le_refl, List.length_map, and_self]
  have hk0 : ¬ (1 + (nSystem x0 : Nat) < (0 : Int)) := by omega
  simp only [hk0, ↓reduceIte, decide_false]
  refine kca_intro (sem_eqIntS (r0_EndStates x0) (r0_EndStates x0) (by omega)) ?_
  simp only [bne_self_eq_false, r_cons, r_nil, r_kont, r_seq1, r_sk, r_rg, r_sq, r_cd, r_cd2, r_op1, r_op1g, r_gd, r_go1, r_mv, r_bi, r_neb, r_nt, r_nt1, r_pk, r_pkf, r_cay, r_cay1, ptd, keyOf, freshK, lk, pt, addO, xv, kv, kc, ↓reduceIte, Nat.reduceEqDiff, Nat.reduceMul, reduceCtorEq, List.length_nil, Nat.reduceLT, true_and, decide_true, List.map_cons, List.map_nil, List.cons_append, List.nil_append, noSh, isSc, impv, or_true, Bool.false_eq_true, Bool.not_true]
  simp only [arg1]
  refine kcy_mark1 mark_IntS (a := (r0_EndStates x0)) rfl (by omega) (by omega) hr0_0 (fun _ _ => trivial) ?_
  simp only [List.length_map, cut_mL, mL_length, r_cons, r_nil, r_kont, r_seq1, r_rg, r_sq, r_op1, r_mv, r_op3, r_rde, r_rd3, r_stamp0, r_pack, r_kcn, r_khdn, r_sn0, r_sn1, r_sn8, r_ca, r_ca1, ptd, lk, pt, lkO, ptO, xv, kv, kc, ↓reduceIte, Nat.reduceEqDiff, reduceCtorEq, Nat.reduceLT, true_and, and_true, List.map_cons, List.map_nil, List.cons_append, List.nil_append, mens, men, getp, Nat.zero_add, Nat.le_refl, List.length_map, and_self]
  refine kca_intro (held_IntS (r0_EndStates x0) (1) hr0_0 (by omega) (by omega)) ?_
  have hh0 : ¬ (1 + (nL nInt (r0_EndStates x0) : Nat) < (0 : Int)) := by omega
  simp only [hh0, ne_eq, not_true_eq_false, r_cons, r_nil, r_kont, r_seq1, r_sk, r_rg, r_sq, r_cd, r_cd2, r_op1, r_go1, r_mv, r_bi, r_nei, r_lti, r_ld, r_ld4, r_kcn, r_kagn, r_sn0, r_sn1, r_sn3, r_ca, r_ca1, ptd, keyOf, freshK, lk, pt, addO, xv, kv, kc, ↓reduceIte, Nat.reduceEqDiff, Nat.reduceMul, reduceCtorEq, List.length_cons, List.length_nil, Nat.reduceAdd, Nat.reduceLT, true_and, decide_false, List.map_cons, List.map_nil, List.cons_append, List.nil_append, List.take_succ_cons, List.take_zero, mens, men, noSh, isSc, impv, or_true, Bool.false_eq_true, Nat.zero_add, Nat.le_refl, ne_eq, not_true_eq_false, and_self]
  refine kca_intro (sem_toSystem x0 hs0_0) ?_
  simp only [oSystem, r_cons, r_kont, r_op1, r_kcn, r_kagn, r_sn0, r_sn1, r_sn3, r_ca, r_ca1, ptd, keyOf, freshK, lk, pt, addO, xv, ↓reduceIte, Nat.reduceEqDiff, Nat.reduceMul, reduceCtorEq, List.length_nil, Nat.reduceLT, true_and, List.map_cons, List.map_nil, List.cons_append, List.nil_append, mens, men, noSh, noShs, impv, impvs, impc, or_true, Bool.false_eq_true, and_self]
  refine kca_intro (sem_impl_EndStates x0 hs0_0) ?_
  simp only [r_cons, r_nil, r_kont, r_seq1, r_rg, r_sq, r_op1, r_go1, r_mv, r_op3, r_xt, r_xt1, r_kcn, r_sn0, r_sn1, r_ca, r_ca1, r_lt1, ptd, keyOf, freshK, lk, pt, addO, xv, ↓reduceIte, Nat.reduceEqDiff, Nat.reduceMul, reduceCtorEq, List.length_nil, Nat.reduceLT, true_and, List.map_cons, List.map_nil, List.cons_append, List.nil_append, List.getElem?_cons_zero, List.getElem?_cons_succ, mens, men, noSh, noShs, isSc, impv, impvs, impc, or_true, Bool.false_eq_true, and_self]
  refine kca_intro (sem_eqIntS (r0_EndStates x0) (r0_EndStates x0) (by omega)) ?_
  simp only [List.length_map, cut_mL, mL_length, bne_self_eq_false, r_cons, r_nil, r_kont, r_seq1, r_sk, r_rg, r_sq, r_cd, r_cd2, r_op1, r_op1g, r_gd, r_go1, r_mv, r_bi, r_neb, r_nt, r_nt1, r_pk, r_pkf, r_op3, r_rde, r_rd3, r_stamp0, r_pack, r_kcn, r_khdn, r_sn0, r_sn1, r_sn8, r_ca, r_ca1, ptd, keyOf, freshK, lk, pt, lkO, addO, xv, kv, kc, ↓reduceIte, Nat.reduceEqDiff, Nat.reduceMul, reduceCtorEq, List.length_nil, Nat.reduceLT, true_and, and_true, decide_true, List.map_cons, List.map_nil, List.cons_append, List.nil_append, mens, men, noSh, isSc, impv, or_true, Bool.false_eq_true, Bool.not_true, getp, Nat.zero_add, Nat.le_refl, List.length_map, and_self]
  refine kca_intro (held_IntS (r0_EndStates x0) (1) hr0_0 (by omega) (by omega)) ?_
  have hh0 : ¬ (1 + (nL nInt (r0_EndStates x0) : Nat) < (0 : Int)) := by omega
  simp only [hh0, ne_eq, not_true_eq_false, r_cons, r_nil, r_kont, r_seq1, r_fn2, r_sk, r_rg, r_sq, r_rt, r_cd, r_cd2, r_op1, r_go1, r_mv, r_bi, r_nei, r_lti, r_fin, r_kfe1, r_kcx, r_exps0, r_exps1, r_kex, r_exp1, r_expv2, ptd, keyOf, freshK, lk, pt, addO, xv, kv, kc, ↓reduceIte, Nat.reduceEqDiff, Nat.reduceMul, reduceCtorEq, List.length_nil, Nat.reduceLT, decide_false, noSh, isSc, impv, or_true, Bool.false_eq_true, ne_eq, not_true_eq_false, and_self]
end Go.Fd

/-
  FOUNDATION 52: numbers and strings as parameters of a law. Own work.
-/
namespace Go.Fd
open Go.RowKit Go.ChangeShapes Go.ChangeMaps Go.WideMaps
section
variable {H : Type} {enc : TypeId × Value → H} {P : Program} {w : World} {t : TypeId} {v : Value} {d : DataW H} {p : List MemPlace} {sp : Nat → Bool} {hd : Bool} {base : Nat}
end
end Go.Fd

/-
  WHAT THE LAWS' ARGUMENTS READ AS (printed by lawgen.py). Own work.
-/
namespace Go.Fd
set_option maxRecDepth 20000
theorem rd_3 : Reads Go.Proofs.Try.prog 3 (fun n : Int => [tv n]) (fits .i64) := Reads_int Go.Proofs.Try.underlying3
theorem rd_38 : Reads Go.Proofs.Try.prog 38 (fun l : List Int => [Tr.sl (l.map (fun n : Int => [tv n]))]) (fun l => l.length ≤ 9223372036854775807 ∧ ∀ x ∈ l, (fits .i64) x) := Reads_slice (k := 0) Go.Proofs.Try.underlying38 (by kernel_rfl) (fun _ => rfl) rd_3
theorem rd_131 : Reads Go.Proofs.Try.prog 131 cNode (fun x => bdNode 9223372036854775807 x ∧ ftNode x) := Reads_mp (Reads_struct Go.Proofs.Try.underlying131 (show ReadsP Go.Proofs.Try.prog 0 [(0, 3), (1, 3), (2, 38)] _ _ from (ReadsP_cons (k := 1) (by kernel_rfl) (fun _ => rfl) rd_3 (ReadsP_cons (k := 1) (by kernel_rfl) (fun _ => rfl) rd_3 (ReadsP_cons (k := 1) (by kernel_rfl) (fun _ => rfl) rd_38 ReadsP_nil))))) (fun p => TNode.mk p.1 p.2.1 p.2.2.1) (fun _ => rfl) (fun x h => ⟨h.2.2.1.1, ⟨h.1, h.2.1, (fun y hy => (h.2.2.1.2 y hy))⟩⟩)
theorem rd_92 : Reads Go.Proofs.Try.prog 92 (fun l : List TNode => [Tr.sl (l.map cNode)]) (fun l => l.length ≤ 9223372036854775807 ∧ ∀ x ∈ l, (fun x => bdNode 9223372036854775807 x ∧ ftNode x) x) := Reads_slice (k := 2) Go.Proofs.Try.underlying92 (by kernel_rfl) (fun _ => rfl) rd_131
theorem rd_9 : Reads Go.Proofs.Try.prog 9 (fun n : ByteArray => [ts n]) (fun n => n.size ≤ 9223372036854775807) := Reads_string Go.Proofs.Try.underlying9
theorem rd_26 : Reads Go.Proofs.Try.prog 26 (fun l : List ByteArray => [Tr.sl (l.map (fun n : ByteArray => [ts n]))]) (fun l => l.length ≤ 9223372036854775807 ∧ ∀ x ∈ l, (fun n => n.size ≤ 9223372036854775807) x) := Reads_slice (k := 0) Go.Proofs.Try.underlying26 (by kernel_rfl) (fun _ => rfl) rd_9
theorem rd_133 : Reads Go.Proofs.Try.prog 133 cWire (fun x => bdWire 9223372036854775807 x ∧ ftWire x) := Reads_mp (Reads_struct Go.Proofs.Try.underlying133 (show ReadsP Go.Proofs.Try.prog 0 [(0, 9), (1, 3)] _ _ from (ReadsP_cons (k := 1) (by kernel_rfl) (fun _ => rfl) rd_9 (ReadsP_cons (k := 1) (by kernel_rfl) (fun _ => rfl) rd_3 ReadsP_nil)))) (fun p => TWire.mk p.1 p.2.1) (fun _ => rfl) (fun x h => ⟨h.1, h.2.1⟩)
theorem rd_93 : Reads Go.Proofs.Try.prog 93 (fun l : List TWire => [Tr.sl (l.map cWire)]) (fun l => l.length ≤ 9223372036854775807 ∧ ∀ x ∈ l, (fun x => bdWire 9223372036854775807 x ∧ ftWire x) x) := Reads_slice (k := 1) Go.Proofs.Try.underlying93 (by kernel_rfl) (fun _ => rfl) rd_133
theorem rd_95 : Reads Go.Proofs.Try.prog 95 cBigraph (fun x => bdBigraph 9223372036854775807 x ∧ ftBigraph x) := Reads_mp (Reads_struct Go.Proofs.Try.underlying95 (show ReadsP Go.Proofs.Try.prog 0 [(0, 3), (1, 92), (2, 38), (3, 3), (4, 26), (5, 93)] _ _ from (ReadsP_cons (k := 1) (by kernel_rfl) (fun _ => rfl) rd_3 (ReadsP_cons (k := 1) (by kernel_rfl) (fun _ => rfl) rd_92 (ReadsP_cons (k := 1) (by kernel_rfl) (fun _ => rfl) rd_38 (ReadsP_cons (k := 1) (by kernel_rfl) (fun _ => rfl) rd_3 (ReadsP_cons (k := 1) (by kernel_rfl) (fun _ => rfl) rd_26 (ReadsP_cons (k := 1) (by kernel_rfl) (fun _ => rfl) rd_93 ReadsP_nil)))))))) (fun p => TBigraph.mk p.1 p.2.1 p.2.2.1 p.2.2.2.1 p.2.2.2.2.1 p.2.2.2.2.2.1) (fun _ => rfl) (fun x h => ⟨⟨h.2.1.1, (fun y hy => (h.2.1.2 y hy).1), h.2.2.1.1, h.2.2.2.2.1.1, (fun y hy => (h.2.2.2.2.1.2 y hy)), h.2.2.2.2.2.1.1, (fun y hy => (h.2.2.2.2.2.1.2 y hy).1)⟩, ⟨h.1, (fun y hy => (h.2.1.2 y hy).2), (fun y hy => (h.2.2.1.2 y hy)), h.2.2.2.1, (fun y hy => (h.2.2.2.2.2.1.2 y hy).2)⟩⟩)
theorem rd_34 : Reads Go.Proofs.Try.prog 34 (fun l : List TBigraph => [Tr.sl (l.map cBigraph)]) (fun l => l.length ≤ 9223372036854775807 ∧ ∀ x ∈ l, (fun x => bdBigraph 9223372036854775807 x ∧ ftBigraph x) x) := Reads_slice (k := 5) Go.Proofs.Try.underlying34 (by kernel_rfl) (fun _ => rfl) rd_95
theorem rd_72 : Reads Go.Proofs.Try.prog 72 cA3 (fun x => fits .i64 x.1 ∧ fits .i64 x.2.1 ∧ fits .i64 x.2.2) := Reads_mp (Reads_array1 (k := 1) Go.Proofs.Try.underlying72 (by kernel_rfl) (show ReadsP Go.Proofs.Try.prog 0 [(0, 3), (1, 3), (2, 3)] _ _ from (ReadsP_cons (k := 1) (by kernel_rfl) (fun _ => rfl) rd_3 (ReadsP_cons (k := 1) (by kernel_rfl) (fun _ => rfl) rd_3 (ReadsP_cons (k := 1) (by kernel_rfl) (fun _ => rfl) rd_3 ReadsP_nil))))) (fun p => (p.1, p.2.1, p.2.2.1)) (fun _ => rfl) (fun x h => ⟨h.1, h.2.1, h.2.2.1⟩)
theorem rd_35 : Reads Go.Proofs.Try.prog 35 (fun l : List (Int × Int × Int) => [Tr.sl (l.map cA3)]) (fun l => l.length ≤ 9223372036854775807 ∧ ∀ x ∈ l, (fun x => fits .i64 x.1 ∧ fits .i64 x.2.1 ∧ fits .i64 x.2.2) x) := Reads_slice (k := 2) Go.Proofs.Try.underlying35 (by kernel_rfl) (fun _ => rfl) rd_72
theorem rd_37 : Reads Go.Proofs.Try.prog 37 cSystem (fun x => bdSystem 9223372036854775807 x ∧ ftSystem x) := Reads_mp (Reads_struct Go.Proofs.Try.underlying37 (show ReadsP Go.Proofs.Try.prog 0 [(0, 34), (1, 35)] _ _ from (ReadsP_cons (k := 1) (by kernel_rfl) (fun _ => rfl) rd_34 (ReadsP_cons (k := 1) (by kernel_rfl) (fun _ => rfl) rd_35 ReadsP_nil)))) (fun p => TSystem.mk p.1 p.2.1) (fun _ => rfl) (fun x h => ⟨⟨h.1.1, (fun y hy => (h.1.2 y hy).1), h.2.1.1⟩, ⟨(fun y hy => (h.1.2 y hy).2), (fun y hy => ⟨(h.2.1.2 y hy).1, (h.2.1.2 y hy).2.1, (h.2.1.2 y hy).2.2⟩)⟩⟩)
end Go.Fd
