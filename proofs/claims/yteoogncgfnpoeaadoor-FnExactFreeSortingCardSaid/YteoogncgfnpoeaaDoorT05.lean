/-
  MARKING STRUCTS; WHETHER MARKS ARE HELD (printed by lawgen.py). Own work.
-/
import Derived.Test.YteoogncgfnpoeaaDoorT04
import Derived.ChangeMaps5
import Derived.ChangeShapes
import Derived.KernelRfl
import Derived.Test.YteoogncgfnpoeaaDoorProg
namespace Go.Fd
set_option maxRecDepth 20000
def nSorting (x : TSorting) : Nat := nL nInt x.tops + nL nIntS x.nest + nL nIntS x.sorts + nL nInt x.most + nL nIntA2 x.apart
theorem sem_markSorting (x : TSorting) (k : Int) (lvl : Nat) (S : Sto) (i1 i2 i3 i4 i5 : Oid) (k1 h1 v1 k2 h2 v2 k3 h3 v3 k4 h4 v4 k5 h5 v5 : Nat) (c1 c2 c3 c4 c5 : Option Nat) (l1 : i1.1 < lvl) (l2 : i2.1 < lvl) (l3 : i3.1 < lvl) (l4 : i4.1 < lvl) (l5 : i5.1 < lvl) (n2_1 : i2 ≠ i1) (n3_1 : i3 ≠ i1) (n3_2 : i3 ≠ i2) (n4_1 : i4 ≠ i1) (n4_2 : i4 ≠ i2) (n4_3 : i4 ≠ i3) (n5_1 : i5 ≠ i1) (n5_2 : i5 ≠ i2) (n5_3 : i5 ≠ i3) (n5_4 : i5 ≠ i4) (s1 : S i1 = some (.ar k1 (rI x.tops) true h1 v1)) (s2 : S i2 = some (.ar k2 (x.nest.map (fun l => [Tr.sl (rI l)])) true h2 v2)) (s3 : S i3 = some (.ar k3 (x.sorts.map (fun l => [Tr.sl (rI l)])) true h3 v3)) (s4 : S i4 = some (.ar k4 (rI x.most) true h4 v4)) (s5 : S i5 = some (.ar k5 (x.apart.map cA2) true h5 v5)) (h0 : 0 ≤ k) (hk : k + nSorting x ≤ 4611686018427387904) (hb : bdSorting 4294967296 x) :
    Sem Go.Proofs.Tryd.prog fid_laws_markSorting lvl [.ag [.hd i1 [] 0 x.tops.length c1 h1, .hd i2 [] 0 x.nest.length c2 h2, .hd i3 [] 0 x.sorts.length c3 h3, .hd i4 [] 0 x.most.length c4 h4, .hd i5 [] 0 x.apart.length c5 h5], iI k] S (iI (k + nSorting x)) (sset (sset (sset (sset (sset S i1 (.ar k1 (rI (mL mInt nInt x.tops (k))) true h1 v1)) i2 (.ar k2 (((mL mIntS nIntS x.nest (k + (nL nInt x.tops : Nat)))).map (fun l => [Tr.sl (rI l)])) true h2 v2)) i3 (.ar k3 (((mL mIntS nIntS x.sorts (k + (nL nInt x.tops : Nat) + (nL nIntS x.nest : Nat)))).map (fun l => [Tr.sl (rI l)])) true h3 v3)) i4 (.ar k4 (rI (mL mInt nInt x.most (k + (nL nInt x.tops : Nat) + (nL nIntS x.nest : Nat) + (nL nIntS x.sorts : Nat)))) true h4 v4)) i5 (.ar k5 (((mL mIntA2 nIntA2 x.apart (k + (nL nInt x.tops : Nat) + (nL nIntS x.nest : Nat) + (nL nIntS x.sorts : Nat) + (nL nInt x.most : Nat)))).map cA2) true h5 v5)) := by
  obtain ⟨b0, b1, b2, b3, b4, b5, b6⟩ := hb
  have e1 : i1.1 ≠ lvl := by omega
  have e2 : i2.1 ≠ lvl := by omega
  have e3 : i3.1 ≠ lvl := by omega
  have e4 : i4.1 ≠ lvl := by omega
  have e5 : i5.1 ≠ lvl := by omega
  simp only [nSorting] at hk
  refine sem_of_chk k_laws_markSorting trivial ?_
  simp only [c_laws_markSorting, r_cons, r_nil, r_kont, r_seq1, r_rg, r_sq, r_wpF, r_op1, r_go1, r_mv, r_bx, r_bx1, r_op3, r_fa, r_fa2, r_pack, r_lab, r_ld, r_ld2, r_cay, r_cay1, ptd, keyOf, freshK, lk, pt, lkO, ptO, xv, kv, kc, params, ↓reduceIte, Nat.reduceEqDiff, Nat.reduceMul, reduceCtorEq, List.length_cons, List.length_nil, Nat.reduceAdd, Nat.reduceLeDiff, Nat.reduceLT, true_and, List.map_cons, List.map_nil, List.cons_append, List.nil_append, List.getElem?_cons_zero, List.all_cons, List.all_nil, isCell, Bool.and_self, cellsOf, Nat.zero_add, Nat.add_zero, and_self]
  simp only [arg1]
  refine kcy_mark0 mark_IntS l1 s1 (by omega) (by omega) b0 (fun _ _ => trivial) ?_
  simp only [r_cons, r_nil, r_kont, r_seq1, r_rg, r_sq, r_op1, r_go1, r_mv, r_op3, r_fa, r_fa2, r_pack, r_lab, r_ld, r_ld2, r_cay, r_cay1, ptd, lk, pt, lkO, xv, ↓reduceIte, Nat.reduceEqDiff, reduceCtorEq, Nat.reduceLT, List.map_cons, List.map_nil, List.cons_append, List.nil_append, List.getElem?_cons_zero, List.getElem?_cons_succ, Nat.zero_add]
  simp only [arg1]
  refine kcy_mark0 mark_IntSS l2 (by rw [sset_ne n2_1]; exact s2) (by omega) (by omega) b1 b2 ?_
  simp only [r_cons, r_nil, r_kont, r_seq1, r_rg, r_sq, r_op1, r_go1, r_mv, r_op3, r_fa, r_fa2, r_pack, r_lab, r_ld, r_ld2, r_cay, r_cay1, ptd, lk, pt, lkO, xv, ↓reduceIte, Nat.reduceEqDiff, reduceCtorEq, Nat.reduceLT, List.map_cons, List.map_nil, List.cons_append, List.nil_append, List.getElem?_cons_zero, List.getElem?_cons_succ, Nat.zero_add]
  simp only [arg1]
  refine kcy_mark0 mark_IntSS l3 (by rw [sset_ne n3_2, sset_ne n3_1]; exact s3) (by omega) (by omega) b3 b4 ?_
  simp only [r_cons, r_nil, r_kont, r_seq1, r_rg, r_sq, r_op1, r_go1, r_mv, r_op3, r_fa, r_fa2, r_pack, r_lab, r_ld, r_ld2, r_cay, r_cay1, ptd, lk, pt, lkO, xv, ↓reduceIte, Nat.reduceEqDiff, reduceCtorEq, Nat.reduceLT, List.map_cons, List.map_nil, List.cons_append, List.nil_append, List.getElem?_cons_zero, List.getElem?_cons_succ, Nat.zero_add]
  simp only [arg1]
  refine kcy_mark0 mark_IntS l4 (by rw [sset_ne n4_3, sset_ne n4_2, sset_ne n4_1]; exact s4) (by omega) (by omega) b5 (fun _ _ => trivial) ?_
  simp only [r_cons, r_nil, r_kont, r_seq1, r_rg, r_sq, r_op1, r_go1, r_mv, r_op3, r_fa, r_fa2, r_pack, r_lab, r_ld, r_ld2, r_cay, r_cay1, ptd, lk, pt, lkO, xv, ↓reduceIte, Nat.reduceEqDiff, reduceCtorEq, Nat.reduceLT, List.map_cons, List.map_nil, List.cons_append, List.nil_append, List.getElem?_cons_zero, List.getElem?_cons_succ, Nat.zero_add]
  simp only [arg1]
  refine kcy_mark0 mark_IntA2S l5 (by rw [sset_ne n5_4, sset_ne n5_3, sset_ne n5_2, sset_ne n5_1]; exact s5) (by omega) (by omega) b6 (fun _ _ => trivial) ?_
  simp only [r_cons, r_nil, r_kont, r_seq1, r_fn2, r_rg, r_sq, r_rt, r_op1, r_mv, r_fin, r_kfe1, r_kcx, r_exps0, r_exps1, r_kex, r_exp1, r_expv2, ptd, lk, pt, xv, ↓reduceIte, Nat.reduceEqDiff, reduceCtorEq, Nat.reduceLT, and_true]
  simp only [nSorting, Int.natCast_add, ← Int.add_assoc]
  try exact ⟨rfl, rfl⟩
theorem kcy_markSorting {x : TSorting} {k : Int} {lvl a1 a2 a3 a4 a5 : Nat} {out : Sto} {k1 h1 v1 k2 h2 v2 k3 h3 v3 k4 h4 v4 k5 h5 v5 : Nat} {c1 c2 c3 c4 c5 : Option Nat} {env : List (Nat × IV)} {loc : List (Nat × Ob)} {d : Option Nat} {K : St → Prop} (n2_1 : a2 ≠ a1) (n3_1 : a3 ≠ a1) (n3_2 : a3 ≠ a2) (n4_1 : a4 ≠ a1) (n4_2 : a4 ≠ a2) (n4_3 : a4 ≠ a3) (n5_1 : a5 ≠ a1) (n5_2 : a5 ≠ a2) (n5_3 : a5 ≠ a3) (n5_4 : a5 ≠ a4) (s1 : lkO a1 loc = some (.ar k1 (rI x.tops) true h1 v1)) (s2 : lkO a2 loc = some (.ar k2 (x.nest.map (fun l => [Tr.sl (rI l)])) true h2 v2)) (s3 : lkO a3 loc = some (.ar k3 (x.sorts.map (fun l => [Tr.sl (rI l)])) true h3 v3)) (s4 : lkO a4 loc = some (.ar k4 (rI x.most) true h4 v4)) (s5 : lkO a5 loc = some (.ar k5 (x.apart.map cA2) true h5 v5)) (h0 : 0 ≤ k) (hk : k + nSorting x ≤ 4611686018427387904) (hb : bdSorting 4294967296 x)
    (hK : K ⟨lvl, ptd d (iI (k + nSorting x)) env, (ptO a5 (.ar k5 (((mL mIntA2 nIntA2 x.apart (k + (nL nInt x.tops : Nat) + (nL nIntS x.nest : Nat) + (nL nIntS x.sorts : Nat) + (nL nInt x.most : Nat)))).map cA2) true h5 v5) (ptO a4 (.ar k4 (rI (mL mInt nInt x.most (k + (nL nInt x.tops : Nat) + (nL nIntS x.nest : Nat) + (nL nIntS x.sorts : Nat)))) true h4 v4) (ptO a3 (.ar k3 (((mL mIntS nIntS x.sorts (k + (nL nInt x.tops : Nat) + (nL nIntS x.nest : Nat)))).map (fun l => [Tr.sl (rI l)])) true h3 v3) (ptO a2 (.ar k2 (((mL mIntS nIntS x.nest (k + (nL nInt x.tops : Nat)))).map (fun l => [Tr.sl (rI l)])) true h2 v2) (ptO a1 (.ar k1 (rI (mL mInt nInt x.tops (k))) true h1 v1) loc))))), out⟩) :
    kcy (Sem Go.Proofs.Tryd.prog) fid_laws_markSorting true lvl env loc out d K [.ag [.hd (lvl, a1) [] 0 x.tops.length c1 h1, .hd (lvl, a2) [] 0 x.nest.length c2 h2, .hd (lvl, a3) [] 0 x.sorts.length c3 h3, .hd (lvl, a4) [] 0 x.most.length c4 h4, .hd (lvl, a5) [] 0 x.apart.length c5 h5], iI k] := by
  refine kcy_intro (r := iI (k + nSorting x)) (ptO a5 (.ar k5 (((mL mIntA2 nIntA2 x.apart (k + (nL nInt x.tops : Nat) + (nL nIntS x.nest : Nat) + (nL nIntS x.sorts : Nat) + (nL nInt x.most : Nat)))).map cA2) true h5 v5) (ptO a4 (.ar k4 (rI (mL mInt nInt x.most (k + (nL nInt x.tops : Nat) + (nL nIntS x.nest : Nat) + (nL nIntS x.sorts : Nat)))) true h4 v4) (ptO a3 (.ar k3 (((mL mIntS nIntS x.sorts (k + (nL nInt x.tops : Nat) + (nL nIntS x.nest : Nat)))).map (fun l => [Tr.sl (rI l)])) true h3 v3) (ptO a2 (.ar k2 (((mL mIntS nIntS x.nest (k + (nL nInt x.tops : Nat)))).map (fun l => [Tr.sl (rI l)])) true h2 v2) (ptO a1 (.ar k1 (rI (mL mInt nInt x.tops (k))) true h1 v1) loc))))) out (fun _ _ => rfl) ?_ ⟨trivial, hK⟩
  rw [packS_ptO, packS_ptO, packS_ptO, packS_ptO, packS_ptO]
  exact sem_markSorting x k (lvl + 1) _ (lvl, a1) (lvl, a2) (lvl, a3) (lvl, a4) (lvl, a5) k1 h1 v1 k2 h2 v2 k3 h3 v3 k4 h4 v4 k5 h5 v5 c1 c2 c3 c4 c5 (Nat.lt_succ_self _) (Nat.lt_succ_self _) (Nat.lt_succ_self _) (Nat.lt_succ_self _) (Nat.lt_succ_self _) (fun e => n2_1 (congrArg Prod.snd e)) (fun e => n3_1 (congrArg Prod.snd e)) (fun e => n3_2 (congrArg Prod.snd e)) (fun e => n4_1 (congrArg Prod.snd e)) (fun e => n4_2 (congrArg Prod.snd e)) (fun e => n4_3 (congrArg Prod.snd e)) (fun e => n5_1 (congrArg Prod.snd e)) (fun e => n5_2 (congrArg Prod.snd e)) (fun e => n5_3 (congrArg Prod.snd e)) (fun e => n5_4 (congrArg Prod.snd e)) (by rw [r_pack]; exact s1) (by rw [r_pack]; exact s2) (by rw [r_pack]; exact s3) (by rw [r_pack]; exact s4) (by rw [r_pack]; exact s5) h0 hk hb
/-- What a marked one holds. -/
def mstSorting (x : TSorting) (k : Int) : TSorting := { x with tops := mL mInt nInt x.tops (k), nest := mL mIntS nIntS x.nest (k + (nL nInt x.tops : Nat)), sorts := mL mIntS nIntS x.sorts (k + (nL nInt x.tops : Nat) + (nL nIntS x.nest : Nat)), most := mL mInt nInt x.most (k + (nL nInt x.tops : Nat) + (nL nIntS x.nest : Nat) + (nL nIntS x.sorts : Nat)), apart := mL mIntA2 nIntA2 x.apart (k + (nL nInt x.tops : Nat) + (nL nIntS x.nest : Nat) + (nL nIntS x.sorts : Nat) + (nL nInt x.most : Nat)) }
theorem held_IntS (a : List Int) (k : Int) (hl : a.length ≤ 4294967296) (h0 : 0 ≤ k) (hk : k + nL nInt a ≤ 4611686018427387904) (lvl : Nat) (S : Sto) : Sem Go.Proofs.Tryd.prog fid_laws_heldIntS lvl [.tr (.sl (rI (mL mInt nInt a k))), iI k] S (iI (k + nL nInt a)) S := by
  refine sem_of_chk k_laws_heldIntS trivial ?_
  simp only [c_laws_heldIntS, r_cons, r_nil, r_kont, r_seq1, r_rg, r_sq, r_bl, r_wpF, r_op1, r_mv, ptd, pt, xv, kv, kc, params, ↓reduceIte, Nat.reduceEqDiff, reduceCtorEq, List.length_cons, List.length_nil, Nat.reduceAdd, Nat.reduceLeDiff, Nat.reduceLT, true_and, Nat.zero_add]
  refine wp_count (α := Unit) a.length (fun j _ => ⟨lvl, [(0, .tr (.sl (rI (mL mInt nInt a k)))), (1, iI (kJ nInt a k j)), (5, iI j)], [], S⟩) (fun _ _ => True) () ⟨by simp only [r_clean, r_okm4, r_okE0, r_okE1, r_okL0, ↓reduceIte, Nat.reduceEqDiff, reduceCtorEq, memB, keepB, keepOB, Bool.false_eq_true, and_self], by (simp only [kJ_zero, r_fgt, ↓reduceIte, Nat.reduceEqDiff, reduceCtorEq, memB, keepB, keepOB, Bool.false_eq_true, Int.cast_ofNat_Int]) <;> rfl⟩ trivial ?_
  intro j _ hj _
  simp only [List.length_map, mL_length, r_cons, r_nil, r_kont, r_seq1, r_seq2, r_blk2, r_fn2, r_sk, r_rg, r_sq, r_bl, r_ex, r_rt, r_cd, r_cd2, r_op1, r_go1, r_mv, r_bi, r_lti, r_ln, r_ln1, r_ixn, r_ia, r_ia1, r_fin, r_kfe1, r_kcx, r_exps0, r_exps1, r_kex, r_exp1, r_expv2, r_round2, r_lt1, ptd, lk, pt, xv, ↓reduceIte, Nat.reduceEqDiff, reduceCtorEq, Nat.reduceLT, true_and, and_true, decide_eq_true_eq, Int.toNat_natCast, Int.natCast_nonneg, List.length_map]
  refine ite_of (fun hlt => ?_) (fun hge => ?_)
  · have hja : j < a.length := by omega
    have ga := mL_row (c := (fun n : Int => [tv n])) (m := mInt) (n := nInt) (k := k) hja
    have hge2 := kJ_le nInt (a := a) (k := k) (j := j + 1)
    rw [kJ_succ nInt hja] at hge2
    have hge3 := kJ_ge nInt (a := a) (k := k) (j := j)
    try simp only [nInt] at hge2
    simp only [ga, mInt, mInt, Nat.zero_add, ne_eq, not_true_eq_false, r_cons, r_nil, r_kont, r_seq1, r_blk1, r_sk, r_rg, r_cd, r_cd2, r_op1, r_go1, r_mv, r_bi, r_add0, r_nei, r_op3, r_iae, r_ltr, r_ld, r_ld1, r_fgt, r_clean, r_okm4, r_okE0, r_okE1, r_okL0, r_round1, r_lt1, ptd, lk, pt, xv, kv, kc, ↓reduceIte, Nat.reduceEqDiff, reduceCtorEq, List.length_cons, List.length_nil, Nat.reduceLT, true_and, decide_false, List.getElem?_cons_zero, memB, keepB, keepOB, Bool.false_eq_true, Nat.zero_add, ne_eq, not_true_eq_false, and_self]
    refine ⟨by rw [fits_i64]; omega, ⟨by rw [fits_i64]; omega, cntJ_intro () hja ?_ trivial⟩⟩
    rw [kJ_succ nInt hja]
    simp only [nInt, Int.natCast_add, Int.natCast_one]
    try rfl
  · have : j = a.length := by omega
    subst this
    rw [kJ_all]
theorem held_IntSS (a : List (List Int)) (k : Int) (hl : a.length ≤ 4294967296) (hB : ∀ x ∈ a, (fun x => x.length ≤ 4294967296) x) (h0 : 0 ≤ k) (hk : k + nL nIntS a ≤ 4611686018427387904) (lvl : Nat) (S : Sto) : Sem Go.Proofs.Tryd.prog fid_laws_heldIntSS lvl [.tr (.sl (((mL mIntS nIntS a k)).map (fun l => [Tr.sl (rI l)]))), iI k] S (iI (k + nL nIntS a)) S := by
  refine sem_of_chk k_laws_heldIntSS trivial ?_
  simp only [c_laws_heldIntSS, r_cons, r_nil, r_kont, r_seq1, r_rg, r_sq, r_bl, r_wpF, r_op1, r_mv, ptd, pt, xv, kv, kc, params, ↓reduceIte, Nat.reduceEqDiff, reduceCtorEq, List.length_cons, List.length_nil, Nat.reduceAdd, Nat.reduceLeDiff, Nat.reduceLT, true_and, Nat.zero_add]
  refine wp_count (α := Unit) a.length (fun j _ => ⟨lvl, [(0, .tr (.sl (((mL mIntS nIntS a k)).map (fun l => [Tr.sl (rI l)])))), (1, iI (kJ nIntS a k j)), (5, iI j)], [], S⟩) (fun _ _ => True) () ⟨by simp only [r_clean, r_okm4, r_okE0, r_okE1, r_okL0, ↓reduceIte, Nat.reduceEqDiff, reduceCtorEq, memB, keepB, keepOB, Bool.false_eq_true, and_self], by (simp only [kJ_zero, r_fgt, ↓reduceIte, Nat.reduceEqDiff, reduceCtorEq, memB, keepB, keepOB, Bool.false_eq_true, Int.cast_ofNat_Int]) <;> rfl⟩ trivial ?_
  intro j _ hj _
  simp only [List.length_map, mL_length, r_cons, r_nil, r_kont, r_seq1, r_seq2, r_blk2, r_fn2, r_sk, r_rg, r_sq, r_bl, r_ex, r_rt, r_cd, r_cd2, r_op1, r_go1, r_mv, r_bi, r_lti, r_ln, r_ln1, r_ixn, r_ia, r_ia1, r_fin, r_kfe1, r_kcx, r_exps0, r_exps1, r_kex, r_exp1, r_expv2, r_round2, r_lt1, ptd, lk, pt, xv, ↓reduceIte, Nat.reduceEqDiff, reduceCtorEq, Nat.reduceLT, true_and, and_true, decide_eq_true_eq, Int.toNat_natCast, Int.natCast_nonneg, List.length_map]
  refine ite_of (fun hlt => ?_) (fun hge => ?_)
  · have hja : j < a.length := by omega
    have ga := mL_row (c := (fun l => [Tr.sl (rI l)])) (m := mIntS) (n := nIntS) (k := k) hja
    have hge2 := kJ_le nIntS (a := a) (k := k) (j := j + 1)
    rw [kJ_succ nIntS hja] at hge2
    have hge3 := kJ_ge nIntS (a := a) (k := k) (j := j)
    try simp only [nIntS] at hge2
    have hb := hB _ (List.getElem_mem hja)
    simp only [ga, mIntS, Nat.zero_add, r_cons, r_kont, r_op1, r_go1, r_mv, r_op3, r_iae, r_ltr, r_ld, r_ld1, r_kcn, r_sn0, r_sn1, r_ca, r_ca1, ptd, lk, pt, xv, ↓reduceIte, Nat.reduceEqDiff, reduceCtorEq, List.length_cons, List.length_nil, Nat.reduceLT, true_and, List.map_cons, List.map_nil, List.cons_append, List.nil_append, List.getElem?_cons_zero, mens, men, Nat.zero_add, and_self]
    refine kca_intro (held_IntS (a[j]) (kJ nIntS a k j) hb (by omega) (by omega)) ?_
    have hz0 : ¬ (kJ nIntS a k j + (nL nInt (a[j]) : Nat) < 0) := by omega
    simp only [hz0, r_cons, r_nil, r_kont, r_seq1, r_blk1, r_sk, r_rg, r_sq, r_cd, r_cd2, r_op1, r_go1, r_mv, r_bi, r_add0, r_lti, r_fgt, r_clean, r_okm4, r_okE0, r_okE1, r_okL0, r_round1, r_lt1, ptd, keyOf, freshK, lk, pt, addO, xv, kv, kc, ↓reduceIte, Nat.reduceEqDiff, Nat.reduceMul, reduceCtorEq, List.length_nil, Nat.reduceLT, true_and, decide_false, noSh, isSc, impv, memB, keepB, keepOB, or_true, Bool.false_eq_true, and_self]
    refine ⟨by rw [fits_i64]; omega, cntJ_intro () hja ?_ trivial⟩
    rw [kJ_succ nIntS hja]
    simp only [nIntS, Int.natCast_add, Int.natCast_one]
    try rfl
  · have : j = a.length := by omega
    subst this
    rw [kJ_all]
theorem held_IntA2S (a : List (Int × Int)) (k : Int) (hl : a.length ≤ 4294967296) (h0 : 0 ≤ k) (hk : k + nL nIntA2 a ≤ 4611686018427387904) (lvl : Nat) (S : Sto) : Sem Go.Proofs.Tryd.prog fid_laws_heldIntA2S lvl [.tr (.sl (((mL mIntA2 nIntA2 a k)).map cA2)), iI k] S (iI (k + nL nIntA2 a)) S := by
  refine sem_of_chk k_laws_heldIntA2S trivial ?_
  simp only [c_laws_heldIntA2S, r_cons, r_nil, r_kont, r_seq1, r_rg, r_sq, r_bl, r_wpF, r_op1, r_mv, ptd, pt, xv, kv, kc, params, ↓reduceIte, Nat.reduceEqDiff, reduceCtorEq, List.length_cons, List.length_nil, Nat.reduceAdd, Nat.reduceLeDiff, Nat.reduceLT, true_and, Nat.zero_add]
  refine wp_count (α := Unit) a.length (fun j _ => ⟨lvl, [(0, .tr (.sl (((mL mIntA2 nIntA2 a k)).map cA2))), (1, iI (kJ nIntA2 a k j)), (5, iI j)], [], S⟩) (fun _ _ => True) () ⟨by simp only [r_clean, r_okm4, r_okE0, r_okE1, r_okL0, ↓reduceIte, Nat.reduceEqDiff, reduceCtorEq, memB, keepB, keepOB, Bool.false_eq_true, and_self], by (simp only [kJ_zero, r_fgt, ↓reduceIte, Nat.reduceEqDiff, reduceCtorEq, memB, keepB, keepOB, Bool.false_eq_true, Int.cast_ofNat_Int]) <;> rfl⟩ trivial ?_
  intro j _ hj _
  simp only [List.length_map, mL_length, r_cons, r_nil, r_kont, r_seq1, r_seq2, r_blk2, r_fn2, r_sk, r_rg, r_sq, r_bl, r_ex, r_rt, r_cd, r_cd2, r_op1, r_go1, r_mv, r_bi, r_lti, r_ln, r_ln1, r_fin, r_kfe1, r_kcx, r_exps0, r_exps1, r_kex, r_exp1, r_expv2, r_round2, r_lt1, ptd, lk, pt, xv, kv, kc, ↓reduceIte, Nat.reduceEqDiff, reduceCtorEq, Nat.reduceLT, and_true, decide_eq_true_eq, List.length_map]
  refine ite_of (fun hlt => ?_) (fun hge => ?_)
  · have hja : j < a.length := by omega
    have ga := mL_row (c := cA2) (m := mIntA2) (n := nIntA2) (k := k) hja
    have hge2 := kJ_le nIntA2 (a := a) (k := k) (j := j + 1)
    rw [kJ_succ nIntA2 hja] at hge2
    have hge3 := kJ_ge nIntA2 (a := a) (k := k) (j := j)
    try simp only [nIntA2] at hge2
    try simp only [ga, Nat.zero_add, hja, r_cons, r_nil, r_kont, r_seq1, r_seq2, r_seq3, r_blk1, r_blk2, r_blk3, r_fn1, r_fn2, r_fn3, r_sk, r_rg, r_sq, r_bl, r_ex, r_rt, r_fg, r_cd, r_cd2, r_wpF, r_op1, r_op1g, r_gd, r_gdu, r_go1, r_mv, r_mvn, r_mvn1, r_bx, r_bx1, r_bv, r_bv1, r_bt, r_bt1, r_al, r_bd, r_bs, r_fills0, r_fills1, r_fl2, r_kfill, r_ms, r_ms1, r_bi, r_add0, r_sub0, r_mul0, r_add1, r_sub1, r_mul1, r_quo, r_rem, r_eqi, r_nei, r_lti, r_lei, r_gti, r_gei, r_eqb, r_neb, r_eqn, r_nen, r_eqe, r_nee, r_adds, r_eqs, r_nes, r_lts, r_gts, r_les, r_ges, r_qa, r_nt, r_nt1, r_ng, r_ng1, r_cv, r_cv1, r_cv2, r_cv3, r_cv4, r_mf, r_mf1, r_ln, r_ln1, r_ln2, r_ln3, r_lg, r_lg1, r_la, r_mm, r_mm1, r_mm2, r_pk, r_pkt, r_pkf, r_op3, r_xt, r_xt1, r_nc, r_nc1, r_nc2, r_nc3, r_fa, r_fa1, r_fa2, r_fa3, r_fd, r_fd1, r_fd2, r_ixn, r_ia, r_iae, r_ia1, r_ia2, r_rde, r_rd3, r_stamp0, r_stamp1, r_iah, r_iah2, r_ia3, r_ja, r_ja1, r_ja2, r_ja3, r_ixb, r_ix, r_ix1, r_jx, r_jx1, r_jx2, r_pack, r_setOb, r_kill, r_sto, r_sset, r_ltr, r_lab, r_lae, r_lae2, r_lae3, r_lmae, r_lmae2, r_ld, r_ld1, r_ld2, r_ld3, r_ld4, r_labm, r_ld5, r_ld6, r_bn0, r_bn1, r_sxt, r_sxt2, r_sxt3, r_sxh, r_sxh2, r_sxh3, r_sx, r_sx1, r_sx2, r_sx3, r_sst, r_sst2, r_ss, r_ss1, r_sa, r_sa1, r_sby, r_sbh, r_sb, r_sb1, r_sb2, r_sb3, r_kcn, r_kagn, r_kfnn, r_khdn, r_sn0, r_sn1, r_sn2, r_sn3, r_sn4, r_sn5, r_sn6, r_sn7, r_sn8, r_ca, r_ca1, r_cas, r_cas1, r_cay, r_cay1, r_fin, r_kfe0, r_kfe1, r_kfe2, r_kcx, r_exps0, r_exps1, r_kex, r_exp1, r_exbc, r_exb1, r_exb2, r_exp2, r_exc, r_kagx, r_expv1, r_expv2, r_expv3, r_expv4, r_expv5, r_expv6, r_expv7, r_kxc, r_expcs0, r_expcs1, r_expc1, r_expc2, r_expc3, r_expc4, r_expc4a, r_expc4b, r_expc4c, r_expc4d, r_expc4e, r_expc4f, r_expc5, r_expc6, r_expc7, r_exh0, r_exh1, r_fgt, r_clean, r_okm1, r_okm2, r_okm2s, r_okm3, r_okm4, r_okm5, r_okm6, r_okm7, r_okm8, r_okm9, r_okm10, r_okm11, r_okms0, r_okms1, r_okE0, r_okE1, r_okL0, r_okL1, r_okL2, r_round1, r_round2, r_round3, r_st, r_st1, r_st2, r_stb, r_setAt0, r_setAt1, r_lows0, r_lows1, r_low1, r_low2, r_low3, r_low4, r_low5, r_low6, r_low7, r_low8, r_low9, r_low10, r_kst, r_stcs0, r_stcs1, r_sc1, r_sc3, r_sc4, r_sc2, r_sc2a, r_sc2b, r_sc2c, r_sc5, r_bw, r_kbw, r_bw1, r_bw2, r_kmv, r_kmc, r_mvcs0, r_mvcs1, r_mvc1, r_mvc2, r_mvc3, r_mvc4, r_mv5, r_apgo, r_apx1, r_apx2, r_aph, r_ap, r_ap0, r_ap1, r_ap0c, r_ap1c, r_kap, r_ap0h, r_ap2h, r_ap5, r_kaps, r_aps, r_ap2s, r_snm, r_mensm, r_op3n, r_chg, r_pts0, r_pts1, r_ptOs0, r_ptOs1, r_kabn, r_sn9, r_kta, r_snb, r_kct, r_ksnc, r_snc0, r_snc1, r_snct, r_sncc, r_ksnh, r_snch, r_rep1, r_cut1, r_scr1, r_unr1, r_max, r_lt1, bigN, fpart, okp, zfill, zobs, ptd, keyOf, freshK, lk, pt, lkO, ptO, addO, xv, kv, kc, params, trv, ↓reduceIte, Nat.reduceEqDiff, Nat.reduceMul, reduceCtorEq, List.length_cons, List.length_nil, Option.getD_some, Option.getD_none, Nat.reduceAdd, Nat.reduceSub, Nat.reduceLeDiff, Nat.reduceLT, true_and, and_true, decide_eq_true_eq, decide_true, decide_false, Option.map_some, Option.map_none, Option.isSome_some, Option.isSome_none, Option.isNone_some, Option.isNone_none, List.map_cons, List.map_nil, List.cons_append, List.nil_append, List.getElem?_cons_zero, List.getElem?_cons_succ, List.drop_succ_cons, List.drop_zero, List.take_succ_cons, List.take_zero, List.headD_cons, List.headD_nil, List.tail_cons, List.tail_nil, mens, men, noSh, noShs, isSc, impv, impvs, impc, memB, keepB, keepOB, or_true, true_or, or_false, false_or, Bool.false_eq_true, Bool.true_eq_false, if_true, if_false, Bool.not_true, Bool.not_false, scrE, scrL, scr, scrs, scrOb, rmO, Int.toNat_natCast, Int.toNat_zero, Int.toNat_one, Int.reduceToNat, Int.reduceLE, Int.reduceLT, List.all_cons, List.all_nil, isCell, Bool.and_true, Bool.true_and, Bool.and_self, cellsOf, totr, totrs, tocs, getp, cvt, cvts, Nat.zero_add, Nat.add_zero, List.set_cons_zero, List.set_cons_succ, Bool.not_eq_true', Bool.not_eq_false', Int.natCast_nonneg, Nat.le_refl, Prod.mk.injEq, ne_eq, not_false_eq_true, not_true_eq_false, List.length_map, List.length_replicate, List.replicate_zero, and_false, false_and, and_self, Int.cast_ofNat_Int]
    refine wp_count (α := Unit) 2 (fun i _ => ⟨lvl, [(0, .tr (.sl (((mL mIntA2 nIntA2 a k)).map cA2))), (1, iI (kJ nIntA2 a k j + i)), (5, iI j), (6, iI i)], [], S⟩) (fun _ _ => True) () ⟨by simp only [r_clean, r_okm4, r_okE0, r_okE1, r_okL0, ↓reduceIte, Nat.reduceEqDiff, reduceCtorEq, memB, keepB, keepOB, Bool.false_eq_true, and_self], by (simp only [Int.add_zero, r_fgt, ↓reduceIte, Nat.reduceEqDiff, reduceCtorEq, memB, keepB, keepOB, Bool.false_eq_true, Int.cast_ofNat_Int]) <;> rfl⟩ trivial ?_
    intro i _ hi _
    have hc : i = 0 ∨ i = 1 ∨ i = 2 := by omega
    rcases hc with rfl | rfl | rfl
    · simp only [ga, cA2, mIntA2, Nat.zero_add, Int.cast_ofNat_Int, Nat.mul_one, Int.add_zero, Int.reduceAdd, Nat.not_lt_zero, Nat.reduceAdd, ne_eq, not_true_eq_false, r_cons, r_nil, r_kont, r_seq1, r_blk1, r_sk, r_rg, r_sq, r_bl, r_cd, r_cd2, r_op1, r_go1, r_mv, r_bi, r_add0, r_nei, r_lti, r_op3, r_ixn, r_ia, r_iae, r_ia1, r_ja, r_ja1, r_ltr, r_ld, r_ld1, r_fgt, r_clean, r_okm4, r_okE0, r_okE1, r_okL0, r_round1, r_lt1, ptd, lk, pt, xv, kv, kc, ↓reduceIte, Nat.reduceEqDiff, reduceCtorEq, List.length_cons, List.length_nil, Nat.reduceAdd, Nat.reduceSub, Nat.reduceLT, true_and, decide_true, decide_false, List.getElem?_cons_zero, List.drop_zero, memB, keepB, keepOB, Bool.false_eq_true, Int.toNat_natCast, Int.toNat_zero, Int.reduceLE, Int.reduceLT, Nat.zero_add, Int.natCast_nonneg, ne_eq, not_true_eq_false, and_self, Int.cast_ofNat_Int]
      refine ⟨by rw [fits_i64]; omega, by rw [fits_i64]; omega, cntJ_intro (N := 2) (k := 0) () (by omega) ?_ trivial⟩
      rw [show kJ nIntA2 a k j + 1 = kJ nIntA2 a k j + ((1 : Nat) : Int) from by omega]
      rfl
    · simp only [ga, cA2, mIntA2, Nat.zero_add, Int.cast_ofNat_Int, Nat.mul_one, Int.reduceAdd, Nat.not_lt_zero, Nat.reduceAdd, ne_eq, not_true_eq_false, r_cons, r_nil, r_kont, r_seq1, r_blk1, r_sk, r_rg, r_sq, r_bl, r_cd, r_cd2, r_op1, r_go1, r_mv, r_bi, r_add0, r_nei, r_lti, r_op3, r_ixn, r_ia, r_iae, r_ia1, r_ja, r_ja1, r_ltr, r_ld, r_ld1, r_fgt, r_clean, r_okm4, r_okE0, r_okE1, r_okL0, r_round1, r_lt1, ptd, lk, pt, xv, kv, kc, ↓reduceIte, Nat.reduceEqDiff, reduceCtorEq, List.length_cons, List.length_nil, Nat.reduceAdd, Nat.reduceSub, Nat.reduceLT, true_and, decide_true, decide_false, List.getElem?_cons_zero, List.drop_succ_cons, List.drop_zero, memB, keepB, keepOB, Bool.false_eq_true, Int.toNat_natCast, Int.toNat_one, Int.reduceLE, Int.reduceLT, Nat.zero_add, Int.natCast_nonneg, ne_eq, not_true_eq_false, and_self, Int.cast_ofNat_Int]
      refine ⟨by rw [fits_i64]; omega, by rw [fits_i64]; omega, cntJ_intro (N := 2) (k := 1) () (by omega) ?_ trivial⟩
      rw [show kJ nIntA2 a k j + 1 + 1 = kJ nIntA2 a k j + ((2 : Nat) : Int) from by omega]
      rfl
    · simp only [Int.cast_ofNat_Int, Nat.not_lt_zero, r_cons, r_nil, r_kont, r_seq1, r_seq2, r_blk1, r_blk2, r_rg, r_sq, r_ex, r_cd, r_cd2, r_op1, r_go1, r_mv, r_bi, r_add0, r_lti, r_fgt, r_clean, r_okm4, r_okE0, r_okE1, r_okL0, r_round1, r_round2, r_lt1, ptd, lk, pt, xv, kv, kc, ↓reduceIte, Nat.reduceEqDiff, reduceCtorEq, Nat.reduceSub, Nat.reduceLT, true_and, decide_false, memB, keepB, keepOB, Bool.false_eq_true, Int.reduceLT, and_self, Int.cast_ofNat_Int]
      refine ⟨by rw [fits_i64]; omega, cntJ_intro () hja ?_ trivial⟩
      rw [kJ_succ nIntA2 hja]
      rfl
  · have : j = a.length := by omega
    subst this
    rw [kJ_all]
theorem held_Sorting (x : TSorting) (k : Int) (hb : bdSorting 4294967296 x) (h0 : 0 ≤ k) (hk : k + nSorting x ≤ 4611686018427387904) (lvl : Nat) (S : Sto) : Sem Go.Proofs.Tryd.prog fid_laws_heldSorting lvl [.ag ((cSorting (mstSorting x k)).map .tr), iI k] S (iI (k + nSorting x)) S := by
  obtain ⟨b0, b1, b2, b3, b4, b5, b6⟩ := hb
  simp only [nSorting] at hk
  refine sem_of_chk k_laws_heldSorting trivial ?_
  simp only [c_laws_heldSorting, cSorting, mstSorting, r_cons, r_nil, r_kont, r_seq1, r_rg, r_sq, r_wpF, r_op1, r_go1, r_mv, r_bt, r_bt1, r_op3, r_fa, r_fa1, r_ltr, r_ld, r_ld1, r_kcn, r_sn0, r_sn1, r_ca, r_ca1, ptd, lk, pt, xv, kv, kc, params, ↓reduceIte, Nat.reduceEqDiff, reduceCtorEq, List.length_cons, List.length_nil, Nat.reduceAdd, Nat.reduceLeDiff, Nat.reduceLT, true_and, List.map_cons, List.map_nil, List.cons_append, List.nil_append, List.getElem?_cons_zero, List.drop_zero, mens, men, List.all_cons, List.all_nil, isCell, Bool.and_true, Bool.and_self, cellsOf, totr, totrs, tocs, Nat.zero_add, and_self]
  refine kca_intro (held_IntS x.tops (k) b0 (by omega) (by omega)) ?_
  have hz0 : ¬ (k + (nL nInt x.tops : Nat) < 0) := by omega
  simp only [hz0, r_cons, r_nil, r_kont, r_seq1, r_sk, r_rg, r_sq, r_cd, r_cd2, r_op1, r_go1, r_mv, r_bi, r_lti, r_op3, r_fa, r_fa1, r_ltr, r_ld, r_ld1, r_kcn, r_sn0, r_sn1, r_ca, r_ca1, ptd, keyOf, freshK, lk, pt, addO, xv, kv, kc, ↓reduceIte, Nat.reduceEqDiff, Nat.reduceMul, reduceCtorEq, List.length_nil, Nat.reduceLT, true_and, decide_false, List.map_cons, List.map_nil, List.cons_append, List.nil_append, List.getElem?_cons_zero, List.drop_succ_cons, List.drop_zero, mens, men, noSh, isSc, impv, or_true, Bool.false_eq_true, and_self]
  refine kca_intro (held_IntSS x.nest (k + (nL nInt x.tops : Nat)) b1 b2 (by omega) (by omega)) ?_
  have hz1 : ¬ (k + (nL nInt x.tops : Nat) + (nL nIntS x.nest : Nat) < 0) := by omega
  simp only [hz1, r_cons, r_nil, r_kont, r_seq1, r_sk, r_rg, r_sq, r_cd, r_cd2, r_op1, r_go1, r_mv, r_bi, r_lti, r_op3, r_fa, r_fa1, r_ltr, r_ld, r_ld1, r_kcn, r_sn0, r_sn1, r_ca, r_ca1, ptd, keyOf, freshK, lk, pt, addO, xv, kv, kc, ↓reduceIte, Nat.reduceEqDiff, Nat.reduceMul, reduceCtorEq, List.length_nil, Nat.reduceLT, true_and, decide_false, List.map_cons, List.map_nil, List.cons_append, List.nil_append, List.getElem?_cons_zero, List.drop_succ_cons, List.drop_zero, mens, men, noSh, isSc, impv, or_true, Bool.false_eq_true, and_self]
  refine kca_intro (held_IntSS x.sorts (k + (nL nInt x.tops : Nat) + (nL nIntS x.nest : Nat)) b3 b4 (by omega) (by omega)) ?_
  have hz2 : ¬ (k + (nL nInt x.tops : Nat) + (nL nIntS x.nest : Nat) + (nL nIntS x.sorts : Nat) < 0) := by omega
  simp only [hz2, r_cons, r_nil, r_kont, r_seq1, r_sk, r_rg, r_sq, r_cd, r_cd2, r_op1, r_go1, r_mv, r_bi, r_lti, r_op3, r_fa, r_fa1, r_ltr, r_ld, r_ld1, r_kcn, r_sn0, r_sn1, r_ca, r_ca1, ptd, keyOf, freshK, lk, pt, addO, xv, kv, kc, ↓reduceIte, Nat.reduceEqDiff, Nat.reduceMul, reduceCtorEq, List.length_nil, Nat.reduceLT, true_and, decide_false, List.map_cons, List.map_nil, List.cons_append, List.nil_append, List.getElem?_cons_zero, List.drop_succ_cons, List.drop_zero, mens, men, noSh, isSc, impv, or_true, Bool.false_eq_true, and_self]
  refine kca_intro (held_IntS x.most (k + (nL nInt x.tops : Nat) + (nL nIntS x.nest : Nat) + (nL nIntS x.sorts : Nat)) b5 (by omega) (by omega)) ?_
  have hz3 : ¬ (k + (nL nInt x.tops : Nat) + (nL nIntS x.nest : Nat) + (nL nIntS x.sorts : Nat) + (nL nInt x.most : Nat) < 0) := by omega
  simp only [hz3, r_cons, r_nil, r_kont, r_seq1, r_sk, r_rg, r_sq, r_cd, r_cd2, r_op1, r_go1, r_mv, r_bi, r_lti, r_op3, r_fa, r_fa1, r_ltr, r_ld, r_ld1, r_kcn, r_sn0, r_sn1, r_ca, r_ca1, ptd, keyOf, freshK, lk, pt, addO, xv, kv, kc, ↓reduceIte, Nat.reduceEqDiff, Nat.reduceMul, reduceCtorEq, List.length_nil, Nat.reduceLT, true_and, decide_false, List.map_cons, List.map_nil, List.cons_append, List.nil_append, List.getElem?_cons_zero, List.drop_succ_cons, List.drop_zero, mens, men, noSh, isSc, impv, or_true, Bool.false_eq_true, and_self]
  refine kca_intro (held_IntA2S x.apart (k + (nL nInt x.tops : Nat) + (nL nIntS x.nest : Nat) + (nL nIntS x.sorts : Nat) + (nL nInt x.most : Nat)) b6 (by omega) (by omega)) ?_
  have hz4 : ¬ (k + (nL nInt x.tops : Nat) + (nL nIntS x.nest : Nat) + (nL nIntS x.sorts : Nat) + (nL nInt x.most : Nat) + (nL nIntA2 x.apart : Nat) < 0) := by omega
  simp only [hz4, r_cons, r_nil, r_kont, r_seq1, r_fn2, r_sk, r_rg, r_sq, r_rt, r_cd, r_cd2, r_op1, r_go1, r_mv, r_bi, r_lti, r_fin, r_kfe1, r_kcx, r_exps0, r_exps1, r_kex, r_exp1, r_expv2, ptd, keyOf, freshK, lk, pt, addO, xv, kv, kc, ↓reduceIte, Nat.reduceEqDiff, Nat.reduceMul, reduceCtorEq, List.length_nil, Nat.reduceLT, true_and, and_true, decide_false, noSh, isSc, impv, or_true, Bool.false_eq_true]
  simp only [nSorting, Int.natCast_add, ← Int.add_assoc]
end Go.Fd

/-
  HOW MANY MARKS SMALL THINGS TAKE. Own work.
-/
namespace Go.Fd
theorem nL_int : ∀ (l : List Int), nL nInt l = l.length
  | [] => rfl
  | x :: r => by simp only [nL, List.length_cons, nL_int r, nInt]; omega
theorem nL_le {α : Type} {n : α → Nat} {B : Nat} : ∀ (l : List α), (∀ x ∈ l, n x ≤ B) → nL n l ≤ l.length * B
  | [], _ => Nat.zero_le _
  | x :: r, h => by
    have h1 := h x (by simp)
    have h2 := nL_le r (fun y hy => h y (by simp [hy]))
    simp only [nL, List.length_cons, Nat.add_mul]
    omega
theorem nL_IS {B : Nat} (l : List (List Int)) (h : ∀ x ∈ l, x.length ≤ B) : nL nIntS l ≤ l.length * B := nL_le l fun x hx => by simp only [nIntS, nL_int]; exact h x hx
end Go.Fd

/-
  HOW MANY MARKS A THING TAKES, AGAINST ITS SIZE (printed by lawgen.py). Own work.
-/
namespace Go.Fd
theorem zqControl (x : TControl) : Zq 256 (fun l => szControl x l) (nControl x) := Zq_imp (Zq_th (by omega) (by omega) (Zq_str x.name.size) Zq_id) (by simp only [nControl]; omega)
end Go.Fd

/-
  WHAT HOLDS OF THE HELPERS OF THE LAWS (printed by lawgen.py). Own work.
-/
namespace Go.Fd
set_option maxRecDepth 20000
theorem szF_le {α : Type} {f : α → Int → Int} : ∀ (a : List α) (l : Int), (∀ x ∈ a, ∀ l : Int, 0 ≤ l → l ≤ 1048576 → f x l ≤ l) → 0 ≤ l → l ≤ 1048576 → szF f a l ≤ l
  | [], l, _, _, _ => Int.le_refl l
  | x :: r, l, hf, h0, h1 => by
    simp only [szF]
    have := hf x (by simp) l h0 h1
    split
    · omega
    · have h2 := szF_le r (f x l) (fun y hy => hf y (by simp [hy])) (by omega) (by omega)
      omega
theorem szL_le {α : Type} {f : α → Int → Int} (a : List α) {l : Int} (hf : ∀ x ∈ a, ∀ l : Int, 0 ≤ l → l ≤ 1048576 → f x l ≤ l) (h0 : 0 ≤ l) (h1 : l ≤ 1048576) : szL f a l ≤ l := by
  unfold szL
  split
  · omega
  · have := szF_le a (l - a.length) hf (by omega) (by omega)
    omega
theorem szTh_le {l m : Int} {g : Int → Int} (h0 : 0 ≤ l) (h : m ≤ l) (hg : 0 ≤ m → g m ≤ m) : szTh m g ≤ l := by
  unfold szTh
  split
  · omega
  · have := hg (by omega)
    omega
theorem sem_szControl (x : TControl) (hb : bdControl 9223372036854775807 x) (l : Int) (h0 : 0 ≤ l) (h1 : l ≤ 1048576) : szControl x l ≤ l ∧ ∀ lvl S, Sem Go.Proofs.Tryd.prog fid_laws_szControl lvl [.ag ((cControl x).map .tr), iI l] S (iI (szControl x l)) S := by
  have b0 : x.name.size ≤ 9223372036854775807 := hb
  refine ⟨?_, fun lvl S => ?_⟩
  · unfold szControl
    refine szTh_le h0 (m := l - x.name.size) (by omega) (fun p0 => ?_)
    have r0 : _ ≤ (1048576 : Int) := Int.le_trans (show l - x.name.size ≤ l by omega) h1
    exact Int.le_refl _
  · refine sem_of_chk k_laws_szControl trivial ?_
    simp only [c_laws_szControl, cControl, List.map_cons, List.map_nil, r_cons, r_nil, r_kont, r_seq1, r_seq3, r_fn2, r_sk, r_rg, r_sq, r_rt, r_cd, r_cd2, r_wpF, r_op1, r_go1, r_mv, r_bt, r_bt1, r_bi, r_sub0, r_lti, r_lg, r_lg1, r_op3, r_fa, r_fa1, r_ltr, r_ld, r_ld1, r_fin, r_kfe1, r_kcx, r_exps0, r_exps1, r_kex, r_exp1, r_expv2, ptd, lk, pt, xv, kv, kc, params, ↓reduceIte, Nat.reduceEqDiff, reduceCtorEq, List.length_cons, List.length_nil, Nat.reduceAdd, Nat.reduceLeDiff, Nat.reduceLT, true_and, and_true, decide_eq_true_eq, List.map_cons, List.map_nil, List.getElem?_cons_zero, List.drop_zero, List.all_cons, List.all_nil, isCell, Bool.and_self, cellsOf, totr, totrs, tocs, Nat.zero_add]
    unfold szControl
    refine ⟨by rw [fits_i64]; omega, ?_⟩
    obtain ⟨l1, hl1⟩ : ∃ m : Int, m = l - x.name.size := ⟨_, rfl⟩
    have u1 : l1 ≤ l := by omega
    rw [← hl1]
    split
    · rename_i hn; rw [szTh, if_pos hn]
    rename_i hn0
    rw [szTh, if_neg hn0]
theorem g_szControlS : chkF Go.Proofs.Tryd.prog fid_laws_szControlS (szSl 3 (some 3) fid_laws_szControl) = true := by kernel_rfl
theorem sem_szControlS (a : List TControl) (hl : a.length ≤ 9223372036854775807) (hb : ∀ y ∈ a, bdControl 9223372036854775807 y) (l : Int) (h0 : 0 ≤ l) (h1 : l ≤ 1048576) : szL szControl a l ≤ l ∧ ∀ lvl S, Sem Go.Proofs.Tryd.prog fid_laws_szControlS lvl [.tr (.sl (a.map cControl)), iI l] S (iI (szL szControl a l)) S :=
  ⟨szL_le a (fun x hx l h0 h1 => (sem_szControl x (hb x hx) l h0 h1).1) h0 h1, fun lvl S => sem_szSl g_szControlS cControl szControl cControl_len a l hl h0 h1 (fun x hx l h0 h1 => sem_szControl x (hb x hx) l h0 h1) lvl S⟩
end Go.Fd

/-
  WHAT HOLDS OF THE HELPERS OF THE LAWS: eq.. (printed by lawgen.py). Own work.
-/
namespace Go.Fd
set_option maxRecDepth 20000
theorem g_eqIntS : chkF Go.Proofs.Tryd.prog fid_laws_eqIntS eqS1 = true := by kernel_rfl
theorem sem_eqIntS (a b : (List Int)) (ha : a.length ≤ 9223372036854775807) (lvl : Nat) (S : Sto) : Sem Go.Proofs.Tryd.prog fid_laws_eqIntS lvl [.tr (.sl (rI a)), .tr (.sl (rI b))] S (iB (decide (a = b))) S := sem_eqI g_eqIntS a b ha lvl S
theorem g_eqIntSS : chkF Go.Proofs.Tryd.prog fid_laws_eqIntSS (eqSl 1 none fid_laws_eqIntS) = true := by kernel_rfl
theorem sem_eqIntSS (a b : (List (List Int))) (ha : a.length ≤ 9223372036854775807) (ha2 : ∀ y ∈ a, y.length ≤ 9223372036854775807) (lvl : Nat) (S : Sto) : Sem Go.Proofs.Tryd.prog fid_laws_eqIntSS lvl [.tr (.sl (a.map (fun l => [Tr.sl (rI l)]))), .tr (.sl (b.map (fun l => [Tr.sl (rI l)])))] S (iB (decide (a = b))) S :=
  sem_eqSl1 g_eqIntSS (fun l => Tr.sl (rI l)) a b ha (fun x hx y _ lvl S => sem_eqIntS x y (ha2 x hx) lvl S) lvl S
theorem sem_eqIntA2 (x y : (Int × Int)) (lvl : Nat) (S : Sto) : Sem Go.Proofs.Tryd.prog fid_laws_eqIntA2 lvl [.ag ((cA2 x).map .tr), .ag ((cA2 y).map .tr)] S (iB (decide (x = y))) S := by
  refine sem_of_chk k_laws_eqIntA2 trivial ?_
  simp only [c_laws_eqIntA2, cA2, r_cons, r_nil, r_kont, r_seq1, r_rg, r_sq, r_bl, r_wpF, r_op1, r_mv, r_bt, r_bt1, ptd, lk, pt, xv, kv, kc, params, ↓reduceIte, Nat.reduceEqDiff, reduceCtorEq, List.length_cons, List.length_nil, Nat.reduceAdd, Nat.reduceLeDiff, Nat.reduceLT, true_and, List.map_cons, List.map_nil, List.all_cons, List.all_nil, isCell, Bool.and_self, cellsOf, totr, totrs, tocs, Nat.zero_add]
  refine wp_count (α := Unit) 2 (fun j _ => ⟨lvl, [(2, .ta (cA2 x)), (3, .ta (cA2 y)), (5, iI j)], [], S⟩) (fun j _ => (cA2 x).take j = (cA2 y).take j) () ⟨by simp only [r_clean, r_okm4, r_okm11, r_okE0, r_okE1, r_okL0, ↓reduceIte, Nat.reduceEqDiff, reduceCtorEq, memB, keepB, keepOB, Bool.false_eq_true, and_self], by (simp only [r_fgt, ↓reduceIte, Nat.reduceEqDiff, reduceCtorEq, memB, keepB, keepOB, Bool.false_eq_true, Int.cast_ofNat_Int]) <;> rfl⟩ rfl ?_
  intro j _ hj hA
  have hc : j = 0 ∨ j = 1 ∨ j = 2 := by omega
  rcases hc with rfl | rfl | rfl
  · simp only [cA2, Int.cast_ofNat_Int, Nat.mul_one, r_cons, r_nil, r_kont, r_seq1, r_seq3, r_blk1, r_blk3, r_fn2, r_sk, r_rg, r_sq, r_bl, r_rt, r_cd, r_cd2, r_op1, r_go1, r_mv, r_bi, r_add0, r_nei, r_lti, r_op3, r_ixn, r_ja, r_ja1, r_ltr, r_ld, r_ld1, r_fin, r_kfe1, r_kcx, r_exps0, r_exps1, r_kex, r_exp1, r_expv2, r_fgt, r_clean, r_okm4, r_okm11, r_okE0, r_okE1, r_okL0, r_round1, r_round3, r_lt1, ptd, lk, pt, xv, kv, kc, ↓reduceIte, Nat.reduceEqDiff, Nat.reduceSub, Nat.reduceLT, true_and, and_true, decide_eq_true_eq, decide_true, List.getElem?_cons_zero, List.drop_zero, memB, keepB, keepOB, Bool.false_eq_true, Int.toNat_zero, Int.reduceLE, Int.reduceLT, ne_eq, and_self, Int.cast_ofNat_Int]
    refine ite_of (fun hne => ?_) (fun heq => ?_)
    · have : ¬ x = y := fun e => hne (by rw [e])
      simp [this]
    · refine ⟨by rw [fits_i64]; omega, cntJ_intro (N := 2) (k := 0) () (by omega) rfl ?_⟩
      simp [cA2] at hA ⊢
      simp_all
  · simp only [cA2, Int.cast_ofNat_Int, Nat.mul_one, r_cons, r_nil, r_kont, r_seq1, r_seq3, r_blk1, r_blk3, r_fn2, r_sk, r_rg, r_sq, r_bl, r_rt, r_cd, r_cd2, r_op1, r_go1, r_mv, r_bi, r_add0, r_nei, r_lti, r_op3, r_ixn, r_ja, r_ja1, r_ltr, r_ld, r_ld1, r_fin, r_kfe1, r_kcx, r_exps0, r_exps1, r_kex, r_exp1, r_expv2, r_fgt, r_clean, r_okm4, r_okm11, r_okE0, r_okE1, r_okL0, r_round1, r_round3, r_lt1, ptd, lk, pt, xv, kv, kc, ↓reduceIte, Nat.reduceEqDiff, Nat.reduceSub, Nat.reduceLT, true_and, and_true, decide_eq_true_eq, decide_true, List.getElem?_cons_zero, List.drop_succ_cons, List.drop_zero, memB, keepB, keepOB, Bool.false_eq_true, Int.toNat_one, Int.reduceLE, Int.reduceLT, ne_eq, and_self, Int.cast_ofNat_Int]
    refine ite_of (fun hne => ?_) (fun heq => ?_)
    · have : ¬ x = y := fun e => hne (by rw [e])
      simp [this]
    · refine ⟨by rw [fits_i64]; omega, cntJ_intro (N := 2) (k := 1) () (by omega) rfl ?_⟩
      simp [cA2] at hA ⊢
      simp_all
  · simp only [cA2, Int.cast_ofNat_Int, r_cons, r_nil, r_kont, r_seq1, r_seq2, r_blk2, r_fn2, r_rg, r_sq, r_ex, r_rt, r_cd, r_cd2, r_op1, r_go1, r_mv, r_bi, r_lti, r_fin, r_kfe1, r_kcx, r_exps0, r_exps1, r_kex, r_exp1, r_expv2, r_round2, r_lt1, ptd, lk, pt, xv, kv, kc, ↓reduceIte, Nat.reduceEqDiff, Nat.reduceSub, Nat.reduceLT, and_true, decide_false, Bool.false_eq_true, Int.reduceLT, Int.cast_ofNat_Int]
    have : x = y := by
      simp [cA2] at hA
      obtain ⟨x0, x1⟩ := x; obtain ⟨y0, y1⟩ := y
      simp_all
    simp [this]
theorem g_eqIntA2S : chkF Go.Proofs.Tryd.prog fid_laws_eqIntA2S (eqSl 2 (some 2) fid_laws_eqIntA2) = true := by kernel_rfl
theorem sem_eqIntA2S (a b : (List (Int × Int))) (ha : a.length ≤ 9223372036854775807) (lvl : Nat) (S : Sto) : Sem Go.Proofs.Tryd.prog fid_laws_eqIntA2S lvl [.tr (.sl (a.map cA2)), .tr (.sl (b.map cA2))] S (iB (decide (a = b))) S :=
  sem_eqSl g_eqIntA2S cA2 (fun _ => rfl) a b ha (fun x hx y _ lvl S => sem_eqIntA2 x y lvl S) lvl S
theorem sem_eqSorting (x y : TSorting) (hb : bdSorting 9223372036854775807 x) (lvl : Nat) (S : Sto) : Sem Go.Proofs.Tryd.prog fid_laws_eqSorting lvl [.ag ((cSorting x).map .tr), .ag ((cSorting y).map .tr)] S (iB (decide (x = y))) S := by
  obtain ⟨b0, b1, b2, b3, b4, b5, b6⟩ := hb
  refine sem_of_chk k_laws_eqSorting trivial ?_
  simp only [c_laws_eqSorting, cSorting, List.map_cons, List.map_nil, r_cons, r_nil, r_kont, r_seq1, r_rg, r_sq, r_wpF, r_op1, r_go1, r_mv, r_bt, r_bt1, r_op3, r_fa, r_fa1, r_ltr, r_ld, r_ld1, r_kcn, r_sn0, r_sn1, r_ca, r_ca1, ptd, lk, pt, xv, kv, kc, params, ↓reduceIte, Nat.reduceEqDiff, reduceCtorEq, List.length_cons, List.length_nil, Nat.reduceAdd, Nat.reduceLeDiff, Nat.reduceLT, true_and, List.map_cons, List.map_nil, List.cons_append, List.nil_append, List.getElem?_cons_zero, List.drop_zero, mens, men, List.all_cons, List.all_nil, isCell, Bool.and_true, Bool.and_self, cellsOf, totr, totrs, tocs, Nat.zero_add, and_self]
  refine kca_intro (sem_eqIntS x.tops y.tops b0) ?_
  simp only [Bool.not_eq_true', r_cons, r_nil, r_kont, r_seq1, r_seq3, r_fn2, r_sk, r_rg, r_sq, r_rt, r_cd, r_cd2, r_op1, r_go1, r_mv, r_nt, r_nt1, r_op3, r_fa, r_fa1, r_ltr, r_ld, r_ld1, r_kcn, r_sn0, r_sn1, r_ca, r_ca1, r_fin, r_kfe1, r_kcx, r_exps0, r_exps1, r_kex, r_exp1, r_expv2, ptd, keyOf, freshK, lk, pt, addO, xv, kv, kc, ↓reduceIte, Nat.reduceEqDiff, Nat.reduceMul, reduceCtorEq, List.length_nil, Nat.reduceLT, true_and, and_true, List.map_cons, List.map_nil, List.cons_append, List.nil_append, List.getElem?_cons_zero, List.drop_succ_cons, List.drop_zero, mens, men, noSh, isSc, impv, or_true, Bool.not_eq_true', and_self]
  refine ite_of (fun hne => ?_) (fun heq0 => ?_)
  · have : ¬ x = y := fun e => (by rw [e] at hne; simp at hne)
    simp [this]
  refine kca_intro (sem_eqIntSS x.nest y.nest b1 b2) ?_
  simp only [Bool.not_eq_true', r_cons, r_nil, r_kont, r_seq1, r_seq3, r_fn2, r_sk, r_rg, r_sq, r_rt, r_cd, r_cd2, r_op1, r_go1, r_mv, r_nt, r_nt1, r_op3, r_fa, r_fa1, r_ltr, r_ld, r_ld1, r_kcn, r_sn0, r_sn1, r_ca, r_ca1, r_fin, r_kfe1, r_kcx, r_exps0, r_exps1, r_kex, r_exp1, r_expv2, ptd, keyOf, freshK, lk, pt, addO, xv, kv, kc, ↓reduceIte, Nat.reduceEqDiff, Nat.reduceMul, reduceCtorEq, List.length_nil, Nat.reduceLT, true_and, and_true, List.map_cons, List.map_nil, List.cons_append, List.nil_append, List.getElem?_cons_zero, List.drop_succ_cons, List.drop_zero, mens, men, noSh, isSc, impv, or_true, Bool.not_eq_true', and_self]
  refine ite_of (fun hne => ?_) (fun heq1 => ?_)
  · have : ¬ x = y := fun e => (by rw [e] at hne; simp at hne)
    simp [this]
  refine kca_intro (sem_eqIntSS x.sorts y.sorts b3 b4) ?_
  simp only [Bool.not_eq_true', r_cons, r_nil, r_kont, r_seq1, r_seq3, r_fn2, r_sk, r_rg, r_sq, r_rt, r_cd, r_cd2, r_op1, r_go1, r_mv, r_nt, r_nt1, r_op3, r_fa, r_fa1, r_ltr, r_ld, r_ld1, r_kcn, r_sn0, r_sn1, r_ca, r_ca1, r_fin, r_kfe1, r_kcx, r_exps0, r_exps1, r_kex, r_exp1, r_expv2, ptd, keyOf, freshK, lk, pt, addO, xv, kv, kc, ↓reduceIte, Nat.reduceEqDiff, Nat.reduceMul, reduceCtorEq, List.length_nil, Nat.reduceLT, true_and, and_true, List.map_cons, List.map_nil, List.cons_append, List.nil_append, List.getElem?_cons_zero, List.drop_succ_cons, List.drop_zero, mens, men, noSh, isSc, impv, or_true, Bool.not_eq_true', and_self]
  refine ite_of (fun hne => ?_) (fun heq2 => ?_)
  · have : ¬ x = y := fun e => (by rw [e] at hne; simp at hne)
    simp [this]
  refine kca_intro (sem_eqIntS x.most y.most b5) ?_
  simp only [Bool.not_eq_true', r_cons, r_nil, r_kont, r_seq1, r_seq3, r_fn2, r_sk, r_rg, r_sq, r_rt, r_cd, r_cd2, r_op1, r_go1, r_mv, r_nt, r_nt1, r_op3, r_fa, r_fa1, r_ltr, r_ld, r_ld1, r_kcn, r_sn0, r_sn1, r_ca, r_ca1, r_fin, r_kfe1, r_kcx, r_exps0, r_exps1, r_kex, r_exp1, r_expv2, ptd, keyOf, freshK, lk, pt, addO, xv, kv, kc, ↓reduceIte, Nat.reduceEqDiff, Nat.reduceMul, reduceCtorEq, List.length_nil, Nat.reduceLT, true_and, and_true, List.map_cons, List.map_nil, List.cons_append, List.nil_append, List.getElem?_cons_zero, List.drop_succ_cons, List.drop_zero, mens, men, noSh, isSc, impv, or_true, Bool.not_eq_true', and_self]
  refine ite_of (fun hne => ?_) (fun heq3 => ?_)
  · have : ¬ x = y := fun e => (by rw [e] at hne; simp at hne)
    simp [this]
  refine kca_intro (sem_eqIntA2S x.apart y.apart b6) ?_
  simp only [Bool.not_eq_true', r_cons, r_nil, r_kont, r_seq1, r_seq3, r_fn2, r_sk, r_rg, r_sq, r_rt, r_cd, r_cd2, r_op1, r_go1, r_mv, r_nt, r_nt1, r_fin, r_kfe1, r_kcx, r_exps0, r_exps1, r_kex, r_exp1, r_expv2, ptd, keyOf, freshK, lk, pt, addO, xv, kv, kc, ↓reduceIte, Nat.reduceEqDiff, Nat.reduceMul, reduceCtorEq, List.length_nil, Nat.reduceLT, true_and, and_true, noSh, isSc, impv, or_true, Bool.not_eq_true']
  refine ite_of (fun hne => ?_) (fun heq4 => ?_)
  · have : ¬ x = y := fun e => (by rw [e] at hne; simp at hne)
    simp [this]
  have : x = y := by
    cases x; cases y; simp_all
  simp [this]
theorem sem_eqControl (x y : TControl) (hb : bdControl 9223372036854775807 x) (lvl : Nat) (S : Sto) : Sem Go.Proofs.Tryd.prog fid_laws_eqControl lvl [.ag ((cControl x).map .tr), .ag ((cControl y).map .tr)] S (iB (decide (x = y))) S := by
  have b0 : x.name.size ≤ 9223372036854775807 := hb
  refine sem_of_chk k_laws_eqControl trivial ?_
  simp only [c_laws_eqControl, cControl, List.map_cons, List.map_nil, r_cons, r_nil, r_kont, r_seq1, r_seq3, r_fn2, r_sk, r_rg, r_sq, r_rt, r_cd, r_cd2, r_wpF, r_op1, r_go1, r_mv, r_bt, r_bt1, r_bi, r_nei, r_nes, r_op3, r_fa, r_fa1, r_ltr, r_ld, r_ld1, r_fin, r_kfe1, r_kcx, r_exps0, r_exps1, r_kex, r_exp1, r_expv2, ptd, lk, pt, xv, kv, kc, params, ↓reduceIte, Nat.reduceEqDiff, reduceCtorEq, List.length_cons, List.length_nil, Nat.reduceAdd, Nat.reduceLeDiff, Nat.reduceLT, true_and, and_true, decide_eq_true_eq, List.map_cons, List.map_nil, List.getElem?_cons_zero, List.drop_succ_cons, List.drop_zero, List.all_cons, List.all_nil, isCell, Bool.and_self, cellsOf, totr, totrs, tocs, Nat.zero_add, ne_eq]
  refine ite_of (fun hne => ?_) (fun heq0 => ?_)
  · have : ¬ x = y := fun e => (by rw [e] at hne; simp at hne)
    simp [this]
  refine ite_of (fun hne => ?_) (fun heq1 => ?_)
  · have : ¬ x = y := fun e => (by rw [e] at hne; simp at hne)
    simp [this]
  refine ite_of (fun hne => ?_) (fun heq2 => ?_)
  · have : ¬ x = y := fun e => (by rw [e] at hne; simp at hne)
    simp [this]
  have : x = y := by
    cases x; cases y; simp_all
  simp [this]
theorem g_eqControlS : chkF Go.Proofs.Tryd.prog fid_laws_eqControlS (eqSl 3 (some 3) fid_laws_eqControl) = true := by kernel_rfl
theorem sem_eqControlS (a b : (List TControl)) (ha : a.length ≤ 9223372036854775807) (ha2 : ∀ y ∈ a, bdControl 9223372036854775807 y) (lvl : Nat) (S : Sto) : Sem Go.Proofs.Tryd.prog fid_laws_eqControlS lvl [.tr (.sl (a.map cControl)), .tr (.sl (b.map cControl))] S (iB (decide (a = b))) S :=
  sem_eqSl g_eqControlS cControl (fun _ => rfl) a b ha (fun x hx y _ lvl S => sem_eqControl x y (ha2 x hx) lvl S) lvl S
end Go.Fd

/-
  WHAT HOLDS OF THE HELPERS OF THE LAWS: to.. (printed by lawgen.py). Own work.
-/
namespace Go.Fd
set_option maxRecDepth 20000
theorem sem_toControl (x : TControl) (hb : bdControl 4294967296 x) (lvl : Nat) (S : Sto) : Sem Go.Proofs.Tryd.prog fid_laws_toControl lvl [.ag ((cControl x).map .tr)] S (oControl x) S := by
  have b0 : x.name.size ≤ 4294967296 := hb
  refine sem_of_chk k_laws_toControl (by simp [oControl, low, men, mens]) ?_
  simp only [c_laws_toControl, cControl, zfill, zobs, List.map_cons, List.map_nil, r_setAt0, r_setAt1, List.set_cons_zero, List.set_cons_succ, r_cons, r_nil, r_kont, r_seq1, r_fn2, r_rg, r_sq, r_rt, r_wpF, r_op1, r_go1, r_bt, r_bt1, r_al, r_op3, r_fa, r_fa1, r_fa2, r_pack, r_setOb, r_ltr, r_ld, r_ld1, r_labm, r_ld5, r_fin, r_kfe1, r_kcx, r_exps0, r_exps1, r_kex, r_exb1, r_exp2, r_exc, r_kagx, r_expv1, r_kxc, r_expcs0, r_expcs1, r_expc1, r_st, r_st1, r_stb, r_setAt0, r_setAt1, r_lows0, r_lows1, r_low1, zfill, zobs, ptd, keyOf, freshK, lk, pt, lkO, ptO, addO, xv, kc, params, ↓reduceIte, Nat.reduceEqDiff, Nat.reduceMul, reduceCtorEq, List.length_cons, List.length_nil, Nat.reduceAdd, Nat.reduceLeDiff, Nat.reduceLT, true_and, and_true, List.map_cons, List.map_nil, List.getElem?_cons_zero, List.drop_succ_cons, List.drop_zero, List.take_succ_cons, List.take_zero, List.headD_cons, List.tail_cons, List.all_cons, List.all_nil, isCell, Bool.and_self, cellsOf, totr, totrs, tocs, Nat.zero_add, Nat.add_zero, List.set_cons_zero, List.set_cons_succ, Nat.le_refl, and_self]
  rfl
theorem sem_toControlS (a : (List TControl)) (ha : a.length ≤ 4294967296) (hb : ∀ y ∈ a, bdControl 4294967296 y) (lvl : Nat) (S : Sto) : Sem Go.Proofs.Tryd.prog fid_laws_toControlS lvl [.tr (.sl (a.map cControl))] S (.ow 3 (a.map cControl) true) S := by
  refine sem_of_chk k_laws_toControlS trivial ?_
  simp only [c_laws_toControlS, List.length_map, bigN, Int.natCast_nonneg, r_cons, r_nil, r_kont, r_seq1, r_rg, r_sq, r_bl, r_wpF, r_op1, r_go1, r_mv, r_ms, r_ms1, r_ln, r_ln1, r_lt1, bigN, ptd, keyOf, freshK, lk, pt, lkO, ptO, xv, kv, kc, params, trv, ↓reduceIte, Nat.reduceEqDiff, Nat.reduceMul, reduceCtorEq, List.length_cons, List.length_nil, Nat.reduceLeDiff, Nat.reduceLT, true_and, List.map_cons, List.map_nil, Int.toNat_natCast, Nat.zero_add, Int.natCast_nonneg, List.length_map, and_self, Int.cast_ofNat_Int]
  refine ⟨by omega, ?_⟩
  refine wp_count (α := Unit) a.length (fun j _ => ⟨lvl, [(0, .tr (.sl (a.map cControl))), (3, .hd (lvl, 224) [] 0 a.length none a.length), (4, iI j)], [(224, .ar 3 (filled cControl [ts ⟨#[]⟩, tv 0, tv 0] a j) true a.length (j * 0))], S⟩) (fun _ _ => True) () ⟨by simp only [r_clean, r_okm1, r_okm4, r_okE0, r_okE1, r_okL0, r_okL2, ↓reduceIte, Nat.reduceEqDiff, reduceCtorEq, memB, keepB, keepOB, Bool.false_eq_true, and_self], by (simp only [filled_zero, r_fgt, ↓reduceIte, Nat.reduceEqDiff, Nat.reduceMul, reduceCtorEq, memB, keepB, keepOB, Bool.false_eq_true, Int.cast_ofNat_Int]) <;> rfl⟩ trivial ?_
  intro j _ hj _
  simp only [List.length_map, r_cons, r_nil, r_kont, r_seq1, r_seq2, r_blk2, r_fn2, r_sk, r_rg, r_sq, r_bl, r_ex, r_rt, r_cd, r_cd2, r_op1, r_go1, r_mv, r_bi, r_lti, r_ln, r_ln1, r_ixn, r_ia, r_ia1, r_kill, r_fin, r_kfe1, r_kcx, r_exps0, r_exps1, r_kex, r_exp1, r_expv4, r_expc7, r_exh1, r_round2, r_lt1, ptd, lk, pt, lkO, xv, ↓reduceIte, Nat.reduceEqDiff, reduceCtorEq, Nat.reduceLT, true_and, and_true, decide_eq_true_eq, List.headD_cons, scrE, scrL, scr, rmO, Int.toNat_natCast, Int.natCast_nonneg, List.length_map]
  refine ite_of (fun hlt => ?_) (fun hge => ?_)
  · have hja : j < a.length := by omega
    have ga : (a.map cControl)[j]? = some (cControl a[j]) := by simp [hja]
    have gz : (filled cControl [ts ⟨#[]⟩, tv 0, tv 0] a j)[j]? = some [ts ⟨#[]⟩, tv 0, tv 0] := filled_get hja
    have hfl : (filled cControl [ts ⟨#[]⟩, tv 0, tv 0] a j).length = a.length := filled_length hj
    have hsem := fun lvl S => sem_toControl a[j] (hb a[j] (List.getElem_mem hja)) lvl S
    simp only [ga, Nat.le_refl, cControl, r_cons, r_kont, r_op1, r_go1, r_op3, r_iae, r_ld, r_ld4, r_kcn, r_kagn, r_sn0, r_sn1, r_sn3, r_ca, r_ca1, ptd, lk, pt, xv, ↓reduceIte, Nat.reduceEqDiff, reduceCtorEq, List.length_cons, List.length_nil, Nat.reduceAdd, Nat.reduceLT, true_and, List.map_cons, List.map_nil, List.cons_append, List.nil_append, List.take_succ_cons, List.take_zero, mens, men, Nat.zero_add, Nat.le_refl, and_self]
    refine kca_intro hsem ?_
    simp only [oControl, gz, Int.natCast_nonneg, hja, hfl, setp, List.getElem?_set_self, List.set_set, List.set_cons_zero, List.set_cons_succ, r_cons, r_nil, r_kont, r_seq1, r_blk1, r_rg, r_op1, r_go1, r_mv, r_bi, r_add0, r_op3, r_ixn, r_ia, r_rde, r_rd3, r_stamp0, r_iah, r_iah2, r_ia3, r_pack, r_setOb, r_fgt, r_clean, r_okm1, r_okm4, r_okE0, r_okE1, r_okL0, r_okL2, r_round1, r_st, r_st2, r_kst, r_stcs0, r_stcs1, r_sc1, r_sc3, r_sc4, r_sc2, r_lt1, ptd, keyOf, freshK, lk, pt, lkO, ptO, addO, xv, kv, kc, ↓reduceIte, Nat.reduceEqDiff, Nat.reduceMul, reduceCtorEq, List.length_cons, List.length_nil, Nat.reduceAdd, Nat.reduceLT, true_and, List.nil_append, List.getElem?_cons_zero, List.getElem?_cons_succ, noSh, noShs, isSc, impv, impvs, memB, keepB, keepOB, or_true, Bool.false_eq_true, Int.toNat_natCast, List.all_cons, List.all_nil, isCell, Bool.and_self, cellsOf, getp, Nat.zero_add, List.set_cons_zero, List.set_cons_succ, Int.natCast_nonneg, and_self]
    refine ⟨by rw [fits_i64]; omega, cntJ_intro () hja ?_ trivial⟩
    have hse := filled_set (c := cControl) (z := [ts ⟨#[]⟩, tv 0, tv 0]) (e := [ts a[j].name, tv a[j].ports, tv a[j].kind_]) hja rfl
    rw [hse, show (j + 1) * 0 = j * 0 from by omega]
    rfl
  · have : j = a.length := by omega
    subst this
    rw [filled_all]
    simp
end Go.Fd

/-
  THE FREE SORTING IS SMALL. Own work.
-/
namespace Go.Fd
theorem ok_FreeSorting (sig : List TControl) (hn : sig.length ≤ 4294967296) (hb : ∀ y ∈ sig, bdControl 4294967296 y) : bdSorting 4294967296 (r0_FreeSorting sig) ∧ 1 + (nSorting (r0_FreeSorting sig) : Int) ≤ 4611686018427387904 := by
  unfold r0_FreeSorting
  split
  · rename_i h
    have hl := h.2.2
    have e1 : (freeNest sig).length = sig.length := by simp [freeNest]
    have e2 : (freeSorts sig).length = sig.length := by simp [freeSorts]
    have e3 : ∀ y ∈ freeNest sig, y.length ≤ 6 := fun y hy => by
      obtain ⟨c, _, rfl⟩ := List.mem_map.1 hy
      split
      · exact Nat.zero_le _
      · rw [upto_len]; exact hl
    have e4 : ∀ y ∈ freeSorts sig, y.length ≤ 3 := fun y hy => by
      obtain ⟨c, hc, rfl⟩ := List.mem_map.1 hy
      obtain ⟨i, hi, rfl⟩ := List.getElem_of_mem hc
      have := ((h.1 i hi).1).2.1
      rw [List.length_replicate]
      omega
    have n1 := nL_IS (B := 6) (freeNest sig) e3
    have n2 := nL_IS (B := 3) (freeSorts sig) e4
    have n3 := nL_int (upto sig.length)
    refine ⟨⟨by simp only [upto_len]; omega, by simp only; omega, fun y hy => Nat.le_trans (e3 y hy) (by omega), by simp only; omega, fun y hy => Nat.le_trans (e4 y hy) (by omega), by simp, by simp⟩, ?_⟩
    simp only [nSorting, nL_int, upto_len, nL, nInt] at *
    omega
  · refine ⟨⟨by simp, by simp, by simp, by simp, by simp, by simp, by simp⟩, ?_⟩
    simp [nSorting, nL]
end Go.Fd

/-
  THE LAW OF FreeSorting (printed by lawtext.py). Own work.
-/
namespace Go.Fd
set_option maxRecDepth 20000
theorem sem_FnExactFreeSorting (x0 : (List TControl)) (hb0_0 : x0.length ≤ 9223372036854775807) (hb0_1 : ∀ y ∈ x0, bdControl 9223372036854775807 y) (lvl : Nat) (S : Sto) : Sem Go.Proofs.Tryd.prog fid_laws_FnExactFreeSorting lvl [.tr (.sl (x0.map cControl))] S (iB true) S := by
  refine sem_of_chk k_laws_FnExactFreeSorting trivial ?_
  simp only [c_laws_FnExactFreeSorting, r_cons, r_nil, r_kont, r_seq1, r_rg, r_sq, r_wpF, r_op1, r_mv, r_kcn, r_sn0, r_sn1, r_ca, r_ca1, ptd, lk, pt, xv, kv, kc, params, ↓reduceIte, Nat.reduceEqDiff, reduceCtorEq, List.length_cons, List.length_nil, Nat.reduceLeDiff, Nat.reduceLT, true_and, List.map_cons, List.map_nil, List.cons_append, List.nil_append, mens, men, Nat.zero_add, and_self]
  have ul : (1048576 : Int) ≤ 1048576 := Int.le_refl _
  obtain ⟨_, ha0⟩ := sem_szControlS x0 hb0_0 hb0_1 (1048576) (by omega) (by omega)
  refine kca_intro ha0 ?_
  simp only [r_cons, r_nil, r_kont, r_seq1, r_seq3, r_fn2, r_sk, r_rg, r_sq, r_rt, r_cd, r_cd2, r_op1, r_go1, r_mv, r_bi, r_lti, r_kcn, r_sn0, r_sn1, r_ca, r_ca1, r_fin, r_kfe1, r_kcx, r_exps0, r_exps1, r_kex, r_exp1, r_expv2, ptd, keyOf, freshK, lk, pt, addO, xv, kv, kc, ↓reduceIte, Nat.reduceEqDiff, Nat.reduceMul, reduceCtorEq, List.length_nil, Nat.reduceLT, true_and, decide_eq_true_eq, List.map_cons, List.map_nil, List.cons_append, List.nil_append, mens, men, noSh, isSc, impv, or_true, and_self]
  refine ite_of (fun _ => trivial) (fun hz0 => ?_)
  have zp0 := (Zm_L (f := szControl) (fun y => (zpControl y)) x0) (1048576) (by omega) (by omega)
  have zq0 := (Zq_L (f := szControl) (n := nControl) (fun y => Zq_imp (zqControl y) (by omega)) x0) (1048576) (by omega) (by omega)
  simp only at zp0 zq0
  have hp0 := zp0.2 (by omega)
  have hq0 := zq0.2 (by omega)
  obtain ⟨hs0_0, hs0_1⟩ := hp0
  refine kca_intro (sem_toControlS x0 hs0_0 hs0_1) ?_
  simp only [r_cons, r_kont, r_op1, r_kcn, r_sn0, r_sn1, r_ca, r_ca1, ptd, keyOf, freshK, lk, pt, addO, xv, ↓reduceIte, Nat.reduceEqDiff, Nat.reduceMul, reduceCtorEq, List.length_nil, Nat.reduceLT, true_and, List.map_cons, List.map_nil, List.cons_append, List.nil_append, mens, men, noSh, impv, impc, or_true, Bool.false_eq_true, and_self]
  refine kca_intro (sem_spec_FreeSorting x0 hs0_0 hs0_1) ?_
  simp only [oSorting, r_cons, r_nil, r_kont, r_seq1, r_rg, r_sq, r_op1, r_go1, r_mv, r_al, r_op3, r_xt, r_xt1, r_pack, r_setOb, r_kcn, r_sn0, r_sn1, r_ca, r_ca1, r_st, r_st1, r_stb, r_setAt0, r_setAt1, r_lows0, r_lows1, r_low1, r_lt1, zfill, zobs, ptd, keyOf, freshK, lk, pt, lkO, ptO, addO, xv, kc, ↓reduceIte, Nat.reduceEqDiff, Nat.reduceMul, reduceCtorEq, List.length_cons, List.length_nil, Nat.reduceAdd, Nat.reduceLT, true_and, List.map_cons, List.map_nil, List.cons_append, List.nil_append, List.getElem?_cons_zero, List.getElem?_cons_succ, mens, men, noSh, noShs, isSc, impv, impvs, impc, or_true, Bool.false_eq_true, List.all_cons, List.all_nil, isCell, Bool.and_self, cellsOf, Nat.zero_add, Nat.add_zero, List.set_cons_zero, List.set_cons_succ, Nat.le_refl, and_self]
  refine kca_intro (sem_toControlS x0 hs0_0 hs0_1) ?_
  simp only [List.length_map, cut_map, r_cons, r_nil, r_kont, r_seq1, r_rg, r_sq, r_op1, r_mv, r_op3, r_rde, r_rd3, r_stamp0, r_pack, r_kcn, r_khdn, r_sn0, r_sn8, r_ca, r_ca1, ptd, keyOf, freshK, lk, pt, lkO, ptO, addO, xv, ↓reduceIte, Nat.reduceEqDiff, Nat.reduceMul, reduceCtorEq, List.length_cons, List.length_nil, Nat.reduceLT, true_and, and_true, List.map_cons, List.map_nil, List.cons_append, List.nil_append, mens, men, noSh, impv, impc, or_true, getp, Nat.zero_add, Nat.add_zero, Nat.le_refl, List.length_map, and_self]
  refine kca_intro (sem_impl_FreeSorting x0 hs0_0 hs0_1) ?_
  simp only [List.length_map, cut_map, oSorting, r_cons, r_nil, r_kont, r_seq1, r_rg, r_sq, r_op1, r_go1, r_mv, r_al, r_op3, r_xt, r_xt1, r_rde, r_rd3, r_stamp0, r_pack, r_setOb, r_ld, r_labm, r_ld5, r_kcn, r_kagn, r_khdn, r_sn0, r_sn1, r_sn3, r_sn8, r_ca, r_ca1, r_st, r_st1, r_stb, r_setAt0, r_setAt1, r_lows0, r_lows1, r_low3, r_lt1, zfill, zobs, ptd, keyOf, freshK, lk, pt, lkO, ptO, addO, xv, kc, ↓reduceIte, Nat.reduceEqDiff, Nat.reduceMul, reduceCtorEq, List.length_cons, List.length_nil, Nat.reduceAdd, Nat.reduceLT, true_and, and_true, List.map_cons, List.map_nil, List.cons_append, List.nil_append, List.getElem?_cons_zero, List.getElem?_cons_succ, List.drop_zero, List.take_succ_cons, List.take_zero, mens, men, noSh, noShs, isSc, impv, impvs, impc, or_true, List.all_cons, List.all_nil, isCell, Bool.and_self, cellsOf, getp, Nat.zero_add, Nat.add_zero, List.set_cons_zero, List.set_cons_succ, Nat.le_refl, List.length_map, and_self]
  obtain ⟨hr0_0, hrn⟩ := ok_FreeSorting x0 hs0_0 hs0_1
  refine kca_intro (sem_eqSorting (r0_FreeSorting x0) (r0_FreeSorting x0) (monoSorting hr0_0)) ?_
  simp only [bne_self_eq_false, r_cons, r_nil, r_kont, r_seq1, r_sk, r_rg, r_sq, r_cd, r_cd2, r_op1, r_op1g, r_gd, r_go1, r_mv, r_bi, r_neb, r_nt, r_nt1, r_pk, r_pkf, r_kcn, r_sn0, r_sn1, r_ca, r_ca1, ptd, keyOf, freshK, lk, pt, addO, xv, kv, kc, ↓reduceIte, Nat.reduceEqDiff, Nat.reduceMul, reduceCtorEq, List.length_nil, Nat.reduceLT, true_and, decide_true, List.map_cons, List.map_nil, List.cons_append, List.nil_append, mens, men, noSh, isSc, impv, or_true, Bool.false_eq_true, Bool.not_true, and_self]
  refine kca_intro (sem_toControlS x0 hs0_0 hs0_1) ?_
  simp only [List.length_map, cut_map, r_cons, r_kont, r_op1, r_op3, r_rde, r_rd3, r_stamp0, r_pack, r_kcn, r_khdn, r_sn0, r_sn1, r_sn8, r_ca, r_ca1, ptd, keyOf, freshK, lk, pt, lkO, addO, xv, ↓reduceIte, Nat.reduceEqDiff, Nat.reduceMul, reduceCtorEq, List.length_nil, Nat.reduceLT, true_and, and_true, List.map_cons, List.map_nil, List.cons_append, List.nil_append, mens, men, noSh, impv, impc, or_true, Bool.false_eq_true, getp, Nat.zero_add, Nat.le_refl, List.length_map, and_self]
  refine kca_intro (sem_eqControlS x0 x0 hb0_0 hb0_1) ?_
  simp only [r_cons, r_nil, r_kont, r_seq1, r_sk, r_rg, r_sq, r_cd, r_cd2, r_op1, r_go1, r_mv, r_nt, r_nt1, r_cay, r_cay1, ptd, keyOf, freshK, lk, pt, addO, xv, kv, kc, ↓reduceIte, Nat.reduceEqDiff, Nat.reduceMul, reduceCtorEq, List.length_nil, Nat.reduceLT, true_and, decide_true, List.map_cons, List.map_nil, List.cons_append, List.nil_append, noSh, isSc, impv, or_true, Bool.false_eq_true, Bool.not_true]
  simp only [arg1]
  refine kcy_mark1 mark_ControlS (a := x0) rfl (by omega) (by omega) hs0_0 hs0_1 ?_
  simp only [List.length_map, cut_map, r_cons, r_nil, r_kont, r_seq1, r_seq3, r_fn2, r_rg, r_sq, r_rt, r_cd, r_cd2, r_op1, r_op1g, r_gd, r_go1, r_mv, r_bi, r_lti, r_pk, r_pkt, r_op3, r_rde, r_rd3, r_stamp0, r_pack, r_ld, r_labm, r_ld5, r_kcn, r_kagn, r_khdn, r_sn0, r_sn1, r_sn3, r_sn8, r_ca, r_ca1, r_fin, r_kfe1, r_kcx, r_exps0, r_exps1, r_kex, r_exp1, r_expv2, ptd, lk, pt, lkO, ptO, xv, kv, kc, ↓reduceIte, Nat.reduceEqDiff, reduceCtorEq, List.length_cons, List.length_nil, Nat.reduceAdd, Nat.reduceLT, true_and, and_true, List.map_cons, List.map_nil, List.cons_append, List.nil_append, List.drop_zero, List.take_succ_cons, List.take_zero, mens, men, Bool.true_eq_false, Bool.not_false, getp, Nat.zero_add, Nat.le_refl, List.length_map, and_self]
  have hk0 : ¬ (1 + (nL nControl x0 : Nat) < (0 : Int)) := by omega
  simp only [hk0, ↓reduceIte, decide_false]
  refine kca_intro (sem_eqSorting (r0_FreeSorting x0) (r0_FreeSorting x0) (monoSorting hr0_0)) ?_
  simp only [bne_self_eq_false, r_cons, r_nil, r_kont, r_seq1, r_sk, r_rg, r_sq, r_cd, r_cd2, r_op1, r_op1g, r_gd, r_go1, r_mv, r_bi, r_neb, r_nt, r_nt1, r_pk, r_pkf, r_pack, r_ld, r_labm, r_ld5, r_cay, r_cay1, ptd, keyOf, freshK, lk, pt, lkO, addO, xv, kv, kc, ↓reduceIte, Nat.reduceEqDiff, Nat.reduceMul, reduceCtorEq, List.length_cons, List.length_nil, Nat.reduceAdd, Nat.reduceLT, true_and, decide_true, List.map_cons, List.map_nil, List.cons_append, List.nil_append, List.drop_zero, List.take_succ_cons, List.take_zero, noSh, isSc, impv, or_true, Bool.false_eq_true, Bool.not_true, Nat.zero_add, Nat.le_refl]
  simp only [arg1]
  refine kcy_markSorting (x := (r0_FreeSorting x0)) (by decide) (by decide) (by decide) (by decide) (by decide) (by decide) (by decide) (by decide) (by decide) (by decide) rfl rfl rfl rfl rfl (by omega) (by omega) hr0_0 ?_
  simp only [List.length_map, cut_mL, mL_length, r_cons, r_nil, r_kont, r_seq1, r_rg, r_sq, r_op1, r_go1, r_mv, r_op3, r_rde, r_rd3, r_stamp0, r_pack, r_ld, r_labm, r_ld5, r_kcn, r_kagn, r_khdn, r_sn0, r_sn1, r_sn3, r_sn8, r_ca, r_ca1, ptd, lk, pt, lkO, ptO, xv, kv, kc, ↓reduceIte, Nat.reduceEqDiff, reduceCtorEq, List.length_cons, List.length_nil, Nat.reduceAdd, Nat.reduceLT, true_and, and_true, List.map_cons, List.map_nil, List.cons_append, List.nil_append, List.drop_zero, List.take_succ_cons, List.take_zero, mens, men, getp, Nat.zero_add, Nat.le_refl, List.length_map, and_self]
  refine kca_intro (held_Sorting (r0_FreeSorting x0) (1) hr0_0 (by omega) (by omega)) ?_
  have hh0 : ¬ (1 + (nSorting (r0_FreeSorting x0) : Nat) < (0 : Int)) := by omega
  simp only [hh0, ne_eq, not_true_eq_false, r_cons, r_nil, r_kont, r_seq1, r_sk, r_rg, r_sq, r_cd, r_cd2, r_op1, r_go1, r_mv, r_bi, r_nei, r_lti, r_kcn, r_sn0, r_sn1, r_ca, r_ca1, ptd, keyOf, freshK, lk, pt, addO, xv, kv, kc, ↓reduceIte, Nat.reduceEqDiff, Nat.reduceMul, reduceCtorEq, List.length_nil, Nat.reduceLT, true_and, decide_false, List.map_cons, List.map_nil, List.cons_append, List.nil_append, mens, men, noSh, isSc, impv, or_true, Bool.false_eq_true, ne_eq, not_true_eq_false, and_self]
  refine kca_intro (sem_toControlS x0 hs0_0 hs0_1) ?_
  simp only [r_cons, r_kont, r_op1, r_kcn, r_sn0, r_sn1, r_ca, r_ca1, ptd, keyOf, freshK, lk, pt, addO, xv, ↓reduceIte, Nat.reduceEqDiff, Nat.reduceMul, reduceCtorEq, List.length_nil, Nat.reduceLT, true_and, List.map_cons, List.map_nil, List.cons_append, List.nil_append, mens, men, noSh, impv, impc, or_true, Bool.false_eq_true, and_self]
  refine kca_intro (sem_impl_FreeSorting x0 hs0_0 hs0_1) ?_
  simp only [oSorting, r_cons, r_nil, r_kont, r_seq1, r_rg, r_sq, r_op1, r_go1, r_mv, r_al, r_op3, r_xt, r_xt1, r_pack, r_setOb, r_ld, r_labm, r_ld5, r_kcn, r_kagn, r_sn0, r_sn1, r_sn3, r_ca, r_ca1, r_st, r_st1, r_stb, r_setAt0, r_setAt1, r_lows0, r_lows1, r_low1, r_lt1, zfill, zobs, ptd, keyOf, freshK, lk, pt, lkO, ptO, addO, xv, kc, ↓reduceIte, Nat.reduceEqDiff, Nat.reduceMul, reduceCtorEq, List.length_cons, List.length_nil, Nat.reduceAdd, Nat.reduceLT, true_and, List.map_cons, List.map_nil, List.cons_append, List.nil_append, List.getElem?_cons_zero, List.getElem?_cons_succ, List.drop_zero, List.take_succ_cons, List.take_zero, mens, men, noSh, noShs, isSc, impv, impvs, impc, or_true, Bool.false_eq_true, List.all_cons, List.all_nil, isCell, Bool.and_self, cellsOf, Nat.zero_add, Nat.add_zero, List.set_cons_zero, List.set_cons_succ, Nat.le_refl, and_self]
  refine kca_intro (sem_eqSorting (r0_FreeSorting x0) (r0_FreeSorting x0) (monoSorting hr0_0)) ?_
  simp only [List.length_map, cut_mL, mL_length, bne_self_eq_false, r_cons, r_nil, r_kont, r_seq1, r_sk, r_rg, r_sq, r_cd, r_cd2, r_op1, r_op1g, r_gd, r_go1, r_mv, r_bi, r_neb, r_nt, r_nt1, r_pk, r_pkf, r_op3, r_rde, r_rd3, r_stamp0, r_pack, r_ld, r_labm, r_ld5, r_kcn, r_kagn, r_khdn, r_sn0, r_sn1, r_sn3, r_sn8, r_ca, r_ca1, ptd, keyOf, freshK, lk, pt, lkO, addO, xv, kv, kc, ↓reduceIte, Nat.reduceEqDiff, Nat.reduceMul, reduceCtorEq, List.length_cons, List.length_nil, Nat.reduceAdd, Nat.reduceLT, true_and, and_true, decide_true, List.map_cons, List.map_nil, List.cons_append, List.nil_append, List.drop_zero, List.take_succ_cons, List.take_zero, mens, men, noSh, isSc, impv, or_true, Bool.false_eq_true, Bool.not_true, getp, Nat.zero_add, Nat.le_refl, List.length_map, and_self]
  refine kca_intro (held_Sorting (r0_FreeSorting x0) (1) hr0_0 (by omega) (by omega)) ?_
  have hh0 : ¬ (1 + (nSorting (r0_FreeSorting x0) : Nat) < (0 : Int)) := by omega
  simp only [hh0, ne_eq, not_true_eq_false, r_cons, r_nil, r_kont, r_seq1, r_fn2, r_sk, r_rg, r_sq, r_rt, r_cd, r_cd2, r_op1, r_go1, r_mv, r_bi, r_nei, r_lti, r_fin, r_kfe1, r_kcx, r_exps0, r_exps1, r_kex, r_exp1, r_expv2, ptd, keyOf, freshK, lk, pt, addO, xv, kv, kc, ↓reduceIte, Nat.reduceEqDiff, Nat.reduceMul, reduceCtorEq, List.length_nil, Nat.reduceLT, decide_false, noSh, isSc, impv, or_true, Bool.false_eq_true, ne_eq, not_true_eq_false, and_self]
end Go.Fd

/-
  FOUNDATION 52: numbers and strings as parameters of a law. Own work.
-/
namespace Go.Fd
open Go.RowKit Go.ChangeShapes Go.ChangeMaps Go.WideMaps
section
variable {H : Type} {enc : TypeId × Value → H} {P : Program} {w : World} {t : TypeId} {v : Value} {d : DataW H} {p : List MemPlace} {sp : Nat → Bool} {hd : Bool} {base : Nat}
end
end Go.Fd

/-
  WHAT THE LAWS' ARGUMENTS READ AS (printed by lawgen.py). Own work.
-/
namespace Go.Fd
set_option maxRecDepth 20000
theorem rd_9 : Reads Go.Proofs.Tryd.prog 9 (fun n : ByteArray => [ts n]) (fun n => n.size ≤ 9223372036854775807) := Reads_string Go.Proofs.Tryd.underlying9
theorem rd_3 : Reads Go.Proofs.Tryd.prog 3 (fun n : Int => [tv n]) (fits .i64) := Reads_int Go.Proofs.Tryd.underlying3
theorem rd_48 : Reads Go.Proofs.Tryd.prog 48 cControl (fun x => bdControl 9223372036854775807 x ∧ ftControl x) := Reads_mp (Reads_struct Go.Proofs.Tryd.underlying48 (show ReadsP Go.Proofs.Tryd.prog 0 [(0, 9), (1, 3), (2, 3)] _ _ from (ReadsP_cons (k := 1) (by kernel_rfl) (fun _ => rfl) rd_9 (ReadsP_cons (k := 1) (by kernel_rfl) (fun _ => rfl) rd_3 (ReadsP_cons (k := 1) (by kernel_rfl) (fun _ => rfl) rd_3 ReadsP_nil))))) (fun p => TControl.mk p.1 p.2.1 p.2.2.1) (fun _ => rfl) (fun x h => ⟨h.1, ⟨h.2.1, h.2.2.1⟩⟩)
theorem rd_22 : Reads Go.Proofs.Tryd.prog 22 (fun l : List TControl => [Tr.sl (l.map cControl)]) (fun l => l.length ≤ 9223372036854775807 ∧ ∀ x ∈ l, (fun x => bdControl 9223372036854775807 x ∧ ftControl x) x) := Reads_slice (k := 2) Go.Proofs.Tryd.underlying22 (by kernel_rfl) (fun _ => rfl) rd_48
end Go.Fd
