/-
  WHAT A VALID BIGRAPH IS, BOTH SIDES. Own work.
-/
import Derived.Test.YtpffmchkhlmbiaaDoorT04
namespace Go.Fd
set_option maxRecDepth 20000

theorem allN {P : Nat → Prop} {j : Nat} (h : ∀ k, k < j → P k) (hj : P j) : ∀ k, k < j + 1 → P k := fun k hk => by
  by_cases e : k = j
  · subst e; exact hj
  · exact h k (by omega)

theorem inB_dc {n a b : Int} : inB n a b = dc (a ≤ n ∧ n ≤ b) := by
  unfold inB
  rw [dc_decide, Bool.decide_and]

theorem bl_tri : ∀ (x y : List UInt8), (!Op.bytesLess x y) = (Op.bytesLess y x || decide (x = y))
  | [], [] => by simp [Op.bytesLess]
  | [], _ :: _ => by simp [Op.bytesLess]
  | _ :: _, [] => by simp [Op.bytesLess]
  | a :: x, b :: y => by
    have ih := bl_tri x y
    simp only [Op.bytesLess]
    by_cases h : a = b
    · subst h
      have e : ¬ a < a := UInt8.lt_irrefl a
      simp [e, ih]
    · by_cases h1 : a < b
      · have h2 : ¬ b < a := fun h2 => UInt8.lt_irrefl a (UInt8.lt_trans h1 h2)
        have h3 : ¬ b = a := fun e => h e.symm
        simp [h, h1, h2, h3]
      · have h2 : b < a := by
          rcases UInt8.lt_or_lt_of_ne h with h | h
          · exact absurd h h1
          · exact h
        simp [h, h1, h2]

/-- One text before another. -/
def ltS (s t : ByteArray) : Prop := Op.bytesLess s.data.toList t.data.toList = true

theorem ltS_geq {s t : ByteArray} : (!Op.bytesLess s.data.toList t.data.toList) = !dc (ltS s t) := by
  unfold ltS
  rw [dc_decide, Bool.decide_eq_true]

theorem ltS_leq {s t : ByteArray} : (Op.bytesLess t.data.toList s.data.toList || decide (t = s)) = !dc (ltS s t) := by
  rw [← ltS_geq, bl_tri]
  congr 1
  have : t = s ↔ s.data.toList = t.data.toList := ⟨fun h => by rw [h], fun h => by
    cases s with | mk s => cases t with | mk t => exact congrArg ByteArray.mk (Array.toList_inj.1 h.symm)⟩
  simp only [this]

def nmAt (l : List ByteArray) (i : Nat) : Prop := ∀ h : i < l.length, isNm l[i] ∧ ∀ _ : 0 < i, ltS (l[i - 1]'(by omega)) l[i]

def namesOK (l : List ByteArray) : Prop := (∀ i, nmAt l i) ∧ l.length ≤ 16

theorem sem_l2Names (l : List ByteArray) (hl : l.length ≤ 4294967296) (hb : ∀ y ∈ l, y.size ≤ 4294967296) (lvl : Nat) (S : Sto) : Sem Go.Proofs.Tryd.prog fid_spec_l2Names lvl [.tr (.sl (rS l))] S (iB (dc (namesOK l))) S := by
  refine sem_of_chk k_spec_l2Names trivial ?_
  simp only [c_spec_l2Names, r_cons, r_nil, r_kont, r_seq1, r_rg, r_sq, r_bl, r_wpF, r_op1, r_mv, ptd, pt, xv, kv, kc, params, ↓reduceIte, Nat.reduceEqDiff, reduceCtorEq, List.length_cons, List.length_nil, Nat.reduceLeDiff, Nat.reduceLT, true_and, Nat.zero_add]
  refine wp_cnt (α := Unit) l.length (fun j _ => [(3, iI j)]) (fun j _ => []) (fun j _ => ∀ k, k < j → nmAt l k) () (by simp only [r_clean, r_okm4, r_okE0, r_okE1, r_okL0, ↓reduceIte, Nat.reduceEqDiff, reduceCtorEq, memB, keepB, keepOB, Bool.false_eq_true, and_self]) (by (simp only [r_fgt, r_chg, r_pts0, r_pts1, r_ptOs0, pt, ↓reduceIte, Nat.reduceEqDiff, reduceCtorEq, Nat.reduceLT, memB, keepB, keepOB, Bool.false_eq_true, Int.cast_ofNat_Int]) <;> rfl) (fun k hk => absurd hk (Nat.not_lt_zero k)) ?_
  intro j _ hj hA
  simp only [List.length_map, r_cons, r_nil, r_kont, r_seq1, r_seq2, r_blk2, r_fn2, r_sk, r_rg, r_sq, r_bl, r_ex, r_rt, r_cd, r_cd2, r_op1, r_go1, r_mv, r_bi, r_lti, r_lei, r_ln, r_ln1, r_ixn, r_ia, r_ia1, r_fin, r_kfe1, r_kcx, r_exps0, r_exps1, r_kex, r_exp1, r_expv2, r_fgt, r_round2, r_chg, r_pts0, r_pts1, r_ptOs0, r_lt1, ptd, lk, pt, xv, kv, kc, ↓reduceIte, Nat.reduceEqDiff, reduceCtorEq, Nat.reduceLT, true_and, and_true, decide_eq_true_eq, memB, keepB, keepOB, Bool.false_eq_true, Int.toNat_natCast, Int.natCast_nonneg, List.length_map]
  refine ite_of (fun hlt => ?_) (fun hge => ?_)
  · have hja : j < l.length := by omega
    have ga := getA (c := fun s => [ts s]) hja
    have hno : ¬ nmAt l j → dc (namesOK l) = false := fun h => dc_false fun g => h (g.1 j)
    simp only [ga, r_cons, r_kont, r_op1, r_go1, r_op3, r_iae, r_ltr, r_ld, r_ld1, r_kcn, r_sn0, r_sn1, r_ca, r_ca1, ptd, lk, pt, xv, ↓reduceIte, Nat.reduceEqDiff, reduceCtorEq, List.length_cons, List.length_nil, Nat.reduceLT, true_and, List.map_cons, List.map_nil, List.cons_append, List.nil_append, List.getElem?_cons_zero, mens, men, Nat.zero_add, and_self]
    refine kca_intro (sem_l2Name l[j] (by have := hb _ (List.getElem_mem hja); omega)) ?_
    cases h1 : dc (isNm l[j])
    · simp only [r_cons, r_nil, r_kont, r_seq1, r_seq3, r_blk3, r_fn2, r_rg, r_sq, r_rt, r_cd, r_cd2, r_op1, r_op1g, r_gd, r_gdu, r_go1, r_mv, r_nt, r_nt1, r_pk, r_pkt, r_fin, r_kfe1, r_kcx, r_exps0, r_exps1, r_kex, r_exp1, r_expv2, r_round3, r_lt1, ptd, keyOf, freshK, lk, pt, addO, xv, kv, kc, ↓reduceIte, Nat.reduceEqDiff, Nat.reduceMul, reduceCtorEq, List.length_nil, Nat.reduceLT, true_and, and_true, noSh, isSc, impv, or_true, Bool.true_eq_false, Bool.not_false]
      rw [hno fun h => dc_not.1 h1 (h hja).1]
    by_cases q : 0 < j
    · have e1 : ((j : Int) - 1).toNat = j - 1 := by omega
      have e2 : (0 : Int) ≤ j - 1 := by omega
      have q5 : (0 : Int) < j := by omega
      have gb := getA (c := fun s => [ts s]) (l := l) (j := j - 1) (by omega)
      simp only [q5, e1, e2, ga, gb, r_cons, r_nil, r_kont, r_seq1, r_seq3, r_blk1, r_blk3, r_fn2, r_sk, r_rg, r_sq, r_rt, r_cd, r_cd2, r_op1, r_op1g, r_gd, r_go1, r_mv, r_bi, r_add0, r_sub0, r_gti, r_ges, r_nt, r_nt1, r_pk, r_pkt, r_pkf, r_op3, r_ixn, r_ia, r_iae, r_ia1, r_ltr, r_ld, r_ld1, r_fin, r_kfe1, r_kcx, r_exps0, r_exps1, r_kex, r_exp1, r_expv2, r_fgt, r_clean, r_okm4, r_okE0, r_okE1, r_okL0, r_round1, r_round3, r_lt1, ptd, keyOf, freshK, lk, pt, addO, xv, kv, kc, ↓reduceIte, Nat.reduceEqDiff, Nat.reduceMul, reduceCtorEq, List.length_cons, List.length_nil, Nat.reduceLT, true_and, and_true, decide_true, List.getElem?_cons_zero, noSh, isSc, impv, memB, keepB, keepOB, or_true, Bool.false_eq_true, Bool.not_true, Int.toNat_natCast, Nat.zero_add, Bool.not_eq_true', Int.natCast_nonneg, and_self]
      cases hc : Op.bytesLess (l[j - 1]'(by omega)).data.toList l[j].data.toList
      · simp only [↓reduceIte]
        exact ⟨by rw [fits_i64]; omega, by rw [hno fun h => by have := (h hja).2 q; unfold ltS at this; rw [this] at hc; cases hc]⟩
      · simp only [↓reduceIte, Bool.true_eq_false]
        exact ⟨by rw [fits_i64]; omega, by rw [fits_i64]; omega, cntJ_intro () hja rfl (allN hA fun _ => ⟨dc_iff.1 h1, fun _ => hc⟩)⟩
    · have q5 : ¬ (0 : Int) < j := by omega
      simp only [q5, r_cons, r_nil, r_kont, r_seq1, r_blk1, r_sk, r_rg, r_cd, r_cd2, r_op1, r_op1g, r_gd, r_go1, r_mv, r_bi, r_add0, r_gti, r_nt, r_nt1, r_pk, r_pkf, r_fgt, r_clean, r_okm4, r_okE0, r_okE1, r_okL0, r_round1, r_lt1, ptd, keyOf, freshK, lk, pt, addO, xv, kv, kc, ↓reduceIte, Nat.reduceEqDiff, Nat.reduceMul, reduceCtorEq, List.length_nil, Nat.reduceLT, true_and, decide_false, noSh, isSc, impv, memB, keepB, keepOB, or_true, Bool.false_eq_true, Bool.not_true, and_self]
      exact ⟨by rw [fits_i64]; omega, cntJ_intro () hja rfl (allN hA fun _ => ⟨dc_iff.1 h1, fun h => absurd h q⟩)⟩
  · have hj1 : j = l.length := by omega
    subst hj1
    rw [dc_congr (p := namesOK l) (q := (l.length : Int) ≤ 16) ⟨fun g => by have := g.2; omega, fun g => ⟨fun i h => hA i h h, by omega⟩⟩, dc_decide]

theorem sem_areNames (l : List ByteArray) (hl : l.length ≤ 4294967296) (hb : ∀ y ∈ l, y.size ≤ 4294967296) (lvl : Nat) (S : Sto) : Sem Go.Proofs.Tryd.prog fid_impl_areNames lvl [.tr (.sl (rS l))] S (iB (dc (namesOK l))) S := by
  refine sem_of_chk k_impl_areNames trivial ?_
  simp only [c_impl_areNames, List.length_map, r_cons, r_nil, r_kont, r_seq1, r_rg, r_sq, r_bl, r_wpF, r_op1, r_go1, r_mv, r_ln, r_ln1, ptd, lk, pt, xv, kv, kc, params, ↓reduceIte, Nat.reduceEqDiff, reduceCtorEq, List.length_cons, List.length_nil, Nat.reduceLeDiff, Nat.reduceLT, true_and, Nat.zero_add, List.length_map]
  refine wp_cnt (α := Unit) l.length (fun j _ => [(7, iI j)]) (fun j _ => []) (fun j _ => ∀ k, k < j → nmAt l k) () (by simp only [r_clean, r_okm4, r_okE0, r_okE1, r_okL0, ↓reduceIte, Nat.reduceEqDiff, reduceCtorEq, memB, keepB, keepOB, Bool.false_eq_true, and_self]) (by (simp only [r_fgt, r_chg, r_pts0, r_pts1, r_ptOs0, pt, ↓reduceIte, Nat.reduceEqDiff, reduceCtorEq, Nat.reduceLT, memB, keepB, keepOB, Bool.false_eq_true, Int.cast_ofNat_Int]) <;> rfl) (fun k hk => absurd hk (Nat.not_lt_zero k)) ?_
  intro j _ hj hA
  simp only [List.length_map, r_cons, r_nil, r_kont, r_seq1, r_seq2, r_blk2, r_fn2, r_sk, r_rg, r_sq, r_bl, r_ex, r_rt, r_cd, r_cd2, r_op1, r_go1, r_mv, r_bi, r_lti, r_lei, r_ln, r_ln1, r_ixn, r_ia, r_ia1, r_fin, r_kfe1, r_kcx, r_exps0, r_exps1, r_kex, r_exp1, r_expv2, r_fgt, r_round2, r_chg, r_pts0, r_pts1, r_ptOs0, ptd, lk, pt, xv, kv, kc, ↓reduceIte, Nat.reduceEqDiff, reduceCtorEq, Nat.reduceLT, true_and, and_true, decide_eq_true_eq, memB, keepB, keepOB, Bool.false_eq_true, Int.toNat_natCast, Int.natCast_nonneg, List.length_map]
  refine ite_of (fun hlt => ?_) (fun hge => ?_)
  · have hja : j < l.length := by omega
    have ga := getA (c := fun s => [ts s]) hja
    have hno : ¬ nmAt l j → dc (namesOK l) = false := fun h => dc_false fun g => h (g.1 j)
    simp only [ga, r_cons, r_nil, r_kont, r_seq1, r_rg, r_sq, r_op1, r_go1, r_mv, r_op3, r_iae, r_ltr, r_ld, r_ld1, r_kcn, r_sn0, r_sn1, r_ca, r_ca1, r_lt1, ptd, lk, pt, xv, ↓reduceIte, Nat.reduceEqDiff, reduceCtorEq, List.length_cons, List.length_nil, Nat.reduceLT, true_and, List.map_cons, List.map_nil, List.cons_append, List.nil_append, List.getElem?_cons_zero, mens, men, Nat.zero_add, and_self]
    refine kca_intro (sem_isName l[j] (by have := hb _ (List.getElem_mem hja); omega)) ?_
    cases h1 : dc (isNm l[j])
    · simp only [r_cons, r_nil, r_kont, r_seq1, r_seq3, r_blk3, r_fn2, r_rg, r_sq, r_rt, r_cd, r_cd2, r_op1, r_op1g, r_gd, r_gdu, r_go1, r_mv, r_nt, r_nt1, r_pk, r_pkt, r_fin, r_kfe1, r_kcx, r_exps0, r_exps1, r_kex, r_exp1, r_expv2, r_round3, r_lt1, ptd, keyOf, freshK, lk, pt, addO, xv, kv, kc, ↓reduceIte, Nat.reduceEqDiff, Nat.reduceMul, reduceCtorEq, List.length_nil, Nat.reduceLT, true_and, and_true, noSh, isSc, impv, or_true, Bool.true_eq_false, Bool.not_false]
      rw [hno fun h => dc_not.1 h1 (h hja).1]
    by_cases q : 0 < j
    · have e1 : ((j : Int) - 1).toNat = j - 1 := by omega
      have e2 : (0 : Int) ≤ j - 1 := by omega
      have q5 : (0 : Int) < j := by omega
      have gb := getA (c := fun s => [ts s]) (l := l) (j := j - 1) (by omega)
      simp only [q5, e1, e2, gb, r_cons, r_nil, r_kont, r_seq1, r_seq3, r_blk1, r_blk3, r_fn2, r_sk, r_rg, r_sq, r_rt, r_cd, r_cd2, r_op1, r_op1g, r_gd, r_go1, r_mv, r_bi, r_add0, r_sub0, r_gti, r_les, r_nt, r_nt1, r_pk, r_pkt, r_pkf, r_op3, r_ixn, r_ia, r_iae, r_ia1, r_ltr, r_ld, r_ld1, r_fin, r_kfe1, r_kcx, r_exps0, r_exps1, r_kex, r_exp1, r_expv2, r_fgt, r_clean, r_okm4, r_okE0, r_okE1, r_okL0, r_round1, r_round3, r_lt1, ptd, keyOf, freshK, lk, pt, addO, xv, kv, kc, ↓reduceIte, Nat.reduceEqDiff, Nat.reduceMul, reduceCtorEq, List.length_cons, List.length_nil, Nat.reduceLT, true_and, and_true, decide_true, List.getElem?_cons_zero, noSh, isSc, impv, memB, keepB, keepOB, or_true, Bool.false_eq_true, Bool.not_true, Nat.zero_add, and_self]
      rw [ltS_leq]
      cases hc : dc (ltS (l[j - 1]'(by omega)) l[j])
      · simp only [↓reduceIte, Bool.not_false]
        exact ⟨by rw [fits_i64]; omega, by rw [hno fun h => dc_not.1 hc ((h hja).2 q)]⟩
      · simp only [↓reduceIte, Bool.false_eq_true, Bool.not_true]
        exact ⟨by rw [fits_i64]; omega, by rw [fits_i64]; omega, cntJ_intro () hja rfl (allN hA fun _ => ⟨dc_iff.1 h1, fun _ => dc_iff.1 hc⟩)⟩
    · have q5 : ¬ (0 : Int) < j := by omega
      simp only [q5, r_cons, r_nil, r_kont, r_seq1, r_blk1, r_sk, r_rg, r_cd, r_cd2, r_op1, r_op1g, r_gd, r_go1, r_mv, r_bi, r_add0, r_gti, r_nt, r_nt1, r_pk, r_pkf, r_fgt, r_clean, r_okm4, r_okE0, r_okE1, r_okL0, r_round1, ptd, keyOf, freshK, lk, pt, addO, xv, kv, kc, ↓reduceIte, Nat.reduceEqDiff, Nat.reduceMul, reduceCtorEq, List.length_nil, Nat.reduceLT, true_and, decide_false, noSh, isSc, impv, memB, keepB, keepOB, or_true, Bool.false_eq_true, Bool.not_true, and_self]
      exact ⟨by rw [fits_i64]; omega, cntJ_intro () hja rfl (allN hA fun _ => ⟨dc_iff.1 h1, fun h => absurd h q⟩)⟩
  · have hj1 : j = l.length := by omega
    subst hj1
    rw [dc_congr (p := namesOK l) (q := (l.length : Int) ≤ 16) ⟨fun g => by have := g.2; omega, fun g => ⟨fun i h => hA i h h, by omega⟩⟩, dc_decide]

def linkOK (b : TBigraph) (l : Int) : Prop := 0 ≤ l ∧ l ≤ b.edges + b.outer.length - 1

theorem sem_l2Link (b : TBigraph) (l : Int) (he : 0 ≤ b.edges ∧ b.edges ≤ 8) (ho : b.outer.length ≤ 4294967296) (lvl : Nat) (S : Sto) : Sem Go.Proofs.Tryd.prog fid_spec_l2Link lvl [.ag ((cBigraph b).map .tr), iI l] S (iB (dc (linkOK b l))) S := by
  refine sem_of_chk k_spec_l2Link trivial ?_
  simp only [c_spec_l2Link, cBigraph, List.length_map, r_cons, r_nil, r_kont, r_seq1, r_rg, r_sq, r_wpF, r_op1, r_go1, r_mv, r_bt, r_bt1, r_bi, r_add0, r_sub0, r_ln, r_ln1, r_op3, r_fa, r_fa1, r_ltr, r_ld, r_ld1, r_kcn, r_sn0, r_sn1, r_ca, r_ca1, ptd, lk, pt, xv, kv, kc, params, ↓reduceIte, Nat.reduceEqDiff, reduceCtorEq, List.length_cons, List.length_nil, Nat.reduceAdd, Nat.reduceLeDiff, Nat.reduceLT, true_and, List.map_cons, List.map_nil, List.cons_append, List.nil_append, List.getElem?_cons_zero, List.drop_succ_cons, List.drop_zero, mens, men, List.all_cons, List.all_nil, isCell, Bool.and_true, Bool.true_and, Bool.and_self, cellsOf, totr, totrs, tocs, Nat.zero_add, List.length_map, and_self]
  refine ⟨by rw [fits_i64]; omega, by rw [fits_i64]; omega, ?_⟩
  refine kca_intro (sem_l1In l 0 (b.edges + b.outer.length - 1)) ?_
  simp only [r_cons, r_nil, r_kont, r_seq1, r_fn2, r_rt, r_op1, r_mv, r_fin, r_kfe1, r_kcx, r_exps0, r_exps1, r_kex, r_exp1, r_expv2, ptd, keyOf, freshK, lk, pt, addO, xv, ↓reduceIte, Nat.reduceEqDiff, Nat.reduceMul, reduceCtorEq, List.length_nil, Nat.reduceLT, true_and, and_true, noSh, isSc, impv, or_true]
  rw [inB_dc]
  rfl

theorem sem_isLink (b : TBigraph) (l : Int) (he : 0 ≤ b.edges ∧ b.edges ≤ 8) (ho : b.outer.length ≤ 4294967296) (lvl : Nat) (S : Sto) : Sem Go.Proofs.Tryd.prog fid_impl_Bigraph_isLink lvl [.ag ((cBigraph b).map .tr), iI l] S (iB (dc (linkOK b l))) S := by
  refine sem_of_chk k_impl_Bigraph_isLink trivial ?_
  simp only [c_impl_Bigraph_isLink, cBigraph, List.length_map, r_cons, r_nil, r_kont, r_seq1, r_rg, r_sq, r_wpF, r_op1, r_go1, r_mv, r_bt, r_bt1, r_bi, r_add0, r_sub0, r_ln, r_ln1, r_op3, r_fa, r_fa1, r_ltr, r_ld, r_ld1, r_kcn, r_sn0, r_sn1, r_ca, r_ca1, ptd, lk, pt, xv, kv, kc, params, ↓reduceIte, Nat.reduceEqDiff, reduceCtorEq, List.length_cons, List.length_nil, Nat.reduceAdd, Nat.reduceLeDiff, Nat.reduceLT, true_and, List.map_cons, List.map_nil, List.cons_append, List.nil_append, List.getElem?_cons_zero, List.drop_succ_cons, List.drop_zero, mens, men, List.all_cons, List.all_nil, isCell, Bool.and_true, Bool.true_and, Bool.and_self, cellsOf, totr, totrs, tocs, Nat.zero_add, List.length_map, and_self]
  refine ⟨by rw [fits_i64]; omega, by rw [fits_i64]; omega, ?_⟩
  refine kca_intro (sem_within l 0 (b.edges + b.outer.length - 1)) ?_
  simp only [r_cons, r_nil, r_kont, r_seq1, r_fn2, r_rt, r_op1, r_mv, r_fin, r_kfe1, r_kcx, r_exps0, r_exps1, r_kex, r_exp1, r_expv2, ptd, keyOf, freshK, lk, pt, addO, xv, ↓reduceIte, Nat.reduceEqDiff, Nat.reduceMul, reduceCtorEq, List.length_nil, Nat.reduceLT, true_and, and_true, noSh, isSc, impv, or_true]
  rw [inB_dc]
  rfl

/-- The kind of a control. -/
def kindAt (sig : List TControl) (c : Int) : Int := ((sig[c.toNat]?).map TControl.kind_).getD 0
def portsAt (sig : List TControl) (c : Int) : Int := ((sig[c.toNat]?).map TControl.ports).getD 0
def ctlAt (b : TBigraph) (p : Int) : Int := ((b.nodes[p.toNat]?).map TNode.control).getD 0

def under (sig : List TControl) (b : TBigraph) (p below : Int) : Prop := (p < 0 ∧ -b.roots ≤ p) ∨ (0 ≤ p ∧ p < below ∧ ¬ kindAt sig (ctlAt b p) = 2)

def ctlsOK (sig : List TControl) (b : TBigraph) (n : Nat) : Prop := ∀ i, i < n → ∀ h : i < b.nodes.length, 0 ≤ b.nodes[i].control ∧ b.nodes[i].control ≤ (sig.length : Int) - 1

theorem sem_l2Under (sig : List TControl) (b : TBigraph) (p : Int) (k : Nat) (hp : fits .i64 p) (hr : 0 ≤ b.roots ∧ b.roots ≤ 4) (hk : k ≤ b.nodes.length) (hc : ctlsOK sig b k) (lvl : Nat) (S : Sto) : Sem Go.Proofs.Tryd.prog fid_spec_l2Under lvl [.tr (.sl (sig.map cControl)), .ag ((cBigraph b).map .tr), iI p, iI k] S (iB (dc (under sig b p k))) S := by
  rw [fits_i64] at hp
  refine sem_of_chk k_spec_l2Under trivial ?_
  simp only [c_spec_l2Under, cBigraph, r_cons, r_nil, r_kont, r_seq1, r_fn2, r_sk, r_rg, r_sq, r_rt, r_cd, r_cd2, r_wpF, r_op1, r_op1g, r_gd, r_go1, r_mv, r_bt, r_bt1, r_bi, r_sub0, r_lti, r_pk, r_pkf, r_op3, r_fa, r_fa1, r_ixn, r_ia, r_ia1, r_ltr, r_ld, r_ld1, r_kcn, r_sn0, r_sn1, r_ca, r_ca1, r_fin, r_kfe1, r_kcx, r_exps0, r_exps1, r_kex, r_exp1, r_expv2, ptd, lk, pt, xv, kv, kc, params, ↓reduceIte, Nat.reduceEqDiff, reduceCtorEq, List.length_cons, List.length_nil, Nat.reduceAdd, Nat.reduceLeDiff, Nat.reduceLT, true_and, and_true, decide_eq_true_eq, List.map_cons, List.map_nil, List.cons_append, List.nil_append, List.getElem?_cons_zero, List.drop_succ_cons, List.drop_zero, mens, men, Bool.false_eq_true, Bool.not_true, List.all_cons, List.all_nil, isCell, Bool.and_true, Bool.true_and, Bool.and_self, cellsOf, totr, totrs, tocs, Nat.zero_add, and_self]
  refine ite_of (fun hneg => ?_) (fun hpos => ?_)
  · refine ⟨by rw [fits_i64]; omega, by rw [fits_i64]; omega, ?_⟩
    refine kca_intro (sem_l1In (-1 - p) 0 (b.roots - 1)) ?_
    simp only [r_cons, r_nil, r_kont, r_seq1, r_seq3, r_fn2, r_rt, r_op1, r_mv, r_fin, r_kfe1, r_kcx, r_exps0, r_exps1, r_kex, r_exp1, r_expv2, ptd, keyOf, freshK, lk, pt, addO, xv, ↓reduceIte, Nat.reduceEqDiff, Nat.reduceMul, reduceCtorEq, List.length_nil, Nat.reduceLT, true_and, and_true, noSh, isSc, impv, or_true]
    have hiff : (0 ≤ -1 - p ∧ -1 - p ≤ b.roots - 1) ↔ under sig b p k := ⟨fun h => .inl (by omega), fun h => by rcases h with h | h <;> omega⟩
    rw [inB_dc, dc_congr hiff]
  · refine ite_of (fun hb => ?_) (fun hb => ?_)
    · obtain ⟨q, rfl⟩ : ∃ q : Nat, p = q := ⟨p.toNat, by omega⟩
      have hq : q < b.nodes.length := by omega
      have ga := getA (c := cNode) hq
      obtain ⟨m1, m2⟩ := hc q (by omega) hq
      obtain ⟨m, hm⟩ : ∃ m : Nat, b.nodes[q].control = m := ⟨b.nodes[q].control.toNat, by omega⟩
      have hms : m < sig.length := by omega
      have gs := getA (c := cControl) hms
      simp only [hb, ga, gs, cNode, cControl, hm, Int.toNat_natCast, Int.natCast_nonneg, r_cons, r_nil, r_kont, r_seq1, r_fn2, r_rt, r_op1, r_op1g, r_gd, r_go1, r_mv, r_bi, r_nei, r_pk, r_pkt, r_op3, r_fa, r_fa1, r_ixn, r_ia, r_iae, r_ia1, r_ltr, r_ld, r_ld1, r_fin, r_kfe1, r_kcx, r_exps0, r_exps1, r_kex, r_exp1, r_expv2, ptd, lk, pt, xv, kv, kc, ↓reduceIte, Nat.reduceEqDiff, reduceCtorEq, List.length_cons, List.length_nil, Nat.reduceAdd, Nat.reduceLT, true_and, and_true, decide_true, List.getElem?_cons_zero, List.drop_succ_cons, List.drop_zero, Int.toNat_natCast, Nat.zero_add, Int.natCast_nonneg, ne_eq]
      have e : kindAt sig (ctlAt b q) = sig[m].kind_ := by simp [kindAt, ctlAt, hq, hm, hms]
      have hiff : under sig b q k ↔ ¬ sig[m].kind_ = 2 := by
        constructor
        · intro h
          rcases h with h | h
          · omega
          · rw [← e]; exact h.2.2
        · intro h
          exact .inr ⟨by omega, hb, by rw [e]; exact h⟩
      rw [dc_congr hiff, dc_decide]
    · rw [dc_false fun h : under sig b p k => by rcases h with h | h <;> omega]

theorem sem_isParent (sig : List TControl) (b : TBigraph) (p : Int) (k : Nat) (hr : 0 ≤ b.roots ∧ b.roots ≤ 4) (hk : k ≤ b.nodes.length) (hc : ctlsOK sig b k) (lvl : Nat) (S : Sto) : Sem Go.Proofs.Tryd.prog fid_impl_Bigraph_isParent lvl [.ag ((cBigraph b).map .tr), .tr (.sl (sig.map cControl)), iI p, iI k] S (iB (dc (under sig b p k))) S := by
  refine sem_of_chk k_impl_Bigraph_isParent trivial ?_
  simp only [c_impl_Bigraph_isParent, cBigraph, r_cons, r_nil, r_kont, r_seq1, r_seq3, r_fn2, r_sk, r_rg, r_sq, r_rt, r_cd, r_cd2, r_wpF, r_op1, r_op1g, r_gd, r_go1, r_mv, r_bt, r_bt1, r_bi, r_lti, r_gei, r_ng, r_ng1, r_pk, r_pkf, r_op3, r_fa, r_fa1, r_ixn, r_ia, r_ia1, r_ltr, r_ld, r_ld1, r_fin, r_kfe1, r_kcx, r_exps0, r_exps1, r_kex, r_exp1, r_expv2, ptd, lk, pt, xv, kv, kc, params, ↓reduceIte, Nat.reduceEqDiff, reduceCtorEq, List.length_cons, List.length_nil, Nat.reduceAdd, Nat.reduceLeDiff, Nat.reduceLT, true_and, and_true, decide_eq_true_eq, List.map_cons, List.map_nil, List.getElem?_cons_zero, List.drop_succ_cons, List.drop_zero, Bool.false_eq_true, Bool.not_true, List.all_cons, List.all_nil, isCell, Bool.and_true, Bool.true_and, Bool.and_self, cellsOf, totr, totrs, tocs, Nat.zero_add]
  refine ite_of (fun hneg => ?_) (fun hpos => ?_)
  · refine ⟨by rw [fits_i64]; omega, ?_⟩
    have hiff : under sig b p k ↔ -b.roots ≤ p := ⟨fun h => by rcases h with h | h <;> omega, fun h => .inl (by omega)⟩
    rw [dc_congr hiff, dc_decide]
  · refine ite_of (fun hb => ?_) (fun hb => ?_)
    · obtain ⟨q, rfl⟩ : ∃ q : Nat, p = q := ⟨p.toNat, by omega⟩
      have hq : q < b.nodes.length := by omega
      have ga := getA (c := cNode) hq
      obtain ⟨m1, m2⟩ := hc q (by omega) hq
      obtain ⟨m, hm⟩ : ∃ m : Nat, b.nodes[q].control = m := ⟨b.nodes[q].control.toNat, by omega⟩
      have hms : m < sig.length := by omega
      have gs := getA (c := cControl) hms
      simp only [hb, ga, gs, cNode, cControl, hm, Int.toNat_natCast, Int.natCast_nonneg, r_cons, r_nil, r_kont, r_seq1, r_fn2, r_rt, r_op1, r_op1g, r_gd, r_go1, r_mv, r_bi, r_nei, r_pk, r_pkt, r_op3, r_fa, r_fa1, r_ixn, r_ia, r_iae, r_ia1, r_ltr, r_ld, r_ld1, r_fin, r_kfe1, r_kcx, r_exps0, r_exps1, r_kex, r_exp1, r_expv2, ptd, lk, pt, xv, kv, kc, ↓reduceIte, Nat.reduceEqDiff, reduceCtorEq, List.length_cons, List.length_nil, Nat.reduceAdd, Nat.reduceLT, true_and, and_true, decide_true, List.getElem?_cons_zero, List.drop_succ_cons, List.drop_zero, Int.toNat_natCast, Nat.zero_add, Int.natCast_nonneg, ne_eq]
      have e : kindAt sig (ctlAt b q) = sig[m].kind_ := by simp [kindAt, ctlAt, hq, hm, hms]
      have hiff : under sig b q k ↔ ¬ sig[m].kind_ = 2 := by
        constructor
        · intro h
          rcases h with h | h
          · omega
          · rw [← e]; exact h.2.2
        · intro h
          exact .inr ⟨by omega, hb, by rw [e]; exact h⟩
      rw [dc_congr hiff, dc_decide]
    · rw [dc_false fun h : under sig b p k => by rcases h with h | h <;> omega]

structure nodeOK (sig : List TControl) (b : TBigraph) (x : TNode) (i : Nat) : Prop where
  ctl : 0 ≤ x.control ∧ x.control ≤ (sig.length : Int) - 1
  par : under sig b x.parent i
  ports : (x.links.length : Int) = portsAt sig x.control
  links : ∀ l ∈ x.links, linkOK b l

theorem sem_l2Node (sig : List TControl) (b : TBigraph) (i : Nat) (hi : i < b.nodes.length) (hn : sig.length ≤ 4294967296) (hl : b.nodes[i].links.length ≤ 4294967296) (hp : fits .i64 b.nodes[i].parent) (hr : 0 ≤ b.roots ∧ b.roots ≤ 4) (he : 0 ≤ b.edges ∧ b.edges ≤ 8) (ho : b.outer.length ≤ 4294967296) (hc : ctlsOK sig b i) (lvl : Nat) (S : Sto) : Sem Go.Proofs.Tryd.prog fid_spec_l2Node lvl [.tr (.sl (sig.map cControl)), .ag ((cBigraph b).map .tr), iI i] S (iB (dc (nodeOK sig b b.nodes[i] i))) S := by
  refine sem_of_chk k_spec_l2Node trivial ?_
  have ga := getA (c := cNode) hi
  simp only [c_spec_l2Node, cBigraph, List.length_map, ga, cNode, r_cons, r_nil, r_kont, r_seq1, r_rg, r_sq, r_wpF, r_op1, r_go1, r_mv, r_bt, r_bt1, r_al, r_bi, r_sub0, r_ln, r_ln1, r_op3, r_fa, r_fa1, r_fa2, r_ixn, r_ia, r_iae, r_ia1, r_pack, r_setOb, r_ltr, r_lab, r_ld, r_ld1, r_ld2, r_ld4, r_kcn, r_sn0, r_sn1, r_ca, r_ca1, r_st, r_st1, r_stb, r_setAt0, r_setAt1, r_lows0, r_lows1, r_low1, zfill, zobs, ptd, keyOf, freshK, lk, pt, lkO, ptO, addO, xv, kv, kc, params, ↓reduceIte, Nat.reduceEqDiff, Nat.reduceMul, reduceCtorEq, List.length_cons, List.length_nil, Nat.reduceAdd, Nat.reduceLeDiff, Nat.reduceLT, true_and, List.map_cons, List.map_nil, List.cons_append, List.nil_append, List.getElem?_cons_zero, List.drop_succ_cons, List.drop_zero, List.take_succ_cons, List.take_zero, mens, men, Int.toNat_natCast, List.all_cons, List.all_nil, isCell, Bool.and_true, Bool.true_and, Bool.and_self, cellsOf, totr, totrs, tocs, Nat.zero_add, Nat.add_zero, List.set_cons_zero, List.set_cons_succ, Int.natCast_nonneg, Nat.le_refl, List.length_map, and_self]
  refine ⟨by rw [fits_i64]; omega, ?_⟩
  refine kca_intro (sem_l1In b.nodes[i].control 0 ((sig.length : Int) - 1)) ?_
  cases h1 : inB b.nodes[i].control 0 ((sig.length : Int) - 1)
  · simp only [r_cons, r_nil, r_kont, r_seq1, r_seq3, r_fn2, r_rg, r_sq, r_rt, r_cd, r_cd2, r_op1, r_op1g, r_gd, r_go1, r_mv, r_nt, r_nt1, r_pk, r_pkt, r_fin, r_kfe1, r_kcx, r_exps0, r_exps1, r_kex, r_exp1, r_expv2, ptd, keyOf, freshK, lk, pt, addO, xv, kv, kc, ↓reduceIte, Nat.reduceEqDiff, Nat.reduceMul, reduceCtorEq, List.length_nil, Nat.reduceLT, true_and, and_true, noSh, isSc, impv, or_true, Bool.true_eq_false, Bool.not_false]
    rw [dc_false fun h : nodeOK sig b b.nodes[i] i => inB_not.1 h1 h.ctl]
  have r1 := inB_iff.1 h1
  simp only [r_cons, r_kont, r_op1, r_op1g, r_gd, r_go1, r_mv, r_nt, r_nt1, r_op3, r_fa, r_fa2, r_pack, r_lab, r_ld, r_ld2, r_ld4, r_kcn, r_kagn, r_sn0, r_sn1, r_sn3, r_ca, r_ca1, ptd, keyOf, freshK, lk, pt, lkO, addO, xv, ↓reduceIte, Nat.reduceEqDiff, Nat.reduceMul, reduceCtorEq, List.length_cons, List.length_nil, Nat.reduceAdd, Nat.reduceLT, true_and, List.map_cons, List.map_nil, List.cons_append, List.nil_append, List.getElem?_cons_zero, List.getElem?_cons_succ, List.take_succ_cons, List.take_zero, mens, men, noSh, isSc, impv, or_true, Bool.not_true, Nat.zero_add, Nat.le_refl, and_self]
  refine kca_intro (sem_l2Under sig b b.nodes[i].parent i hp hr (by omega) hc) ?_
  cases h2 : dc (under sig b b.nodes[i].parent i)
  · simp only [r_cons, r_nil, r_kont, r_seq1, r_seq3, r_fn2, r_rg, r_sq, r_rt, r_cd, r_cd2, r_op1, r_op1g, r_gd, r_go1, r_mv, r_nt, r_nt1, r_pk, r_pkt, r_pkf, r_fin, r_kfe1, r_kcx, r_exps0, r_exps1, r_kex, r_exp1, r_expv2, ptd, keyOf, freshK, lk, pt, addO, xv, kv, kc, ↓reduceIte, Nat.reduceEqDiff, Nat.reduceMul, reduceCtorEq, List.length_nil, Nat.reduceLT, true_and, and_true, noSh, isSc, impv, or_true, Bool.true_eq_false, Bool.not_false]
    rw [dc_false fun h : nodeOK sig b b.nodes[i] i => dc_not.1 h2 h.par]
  obtain ⟨m, hm⟩ : ∃ m : Nat, b.nodes[i].control = m := ⟨b.nodes[i].control.toNat, by omega⟩
  have hms : m < sig.length := by omega
  have gs := getA (c := cControl) hms
  have e : portsAt sig b.nodes[i].control = sig[m].ports := by simp [portsAt, hm, hms]
  simp only [hm, gs, cControl, List.length_map, r_cons, r_nil, r_kont, r_seq1, r_seq3, r_fn2, r_sk, r_rg, r_sq, r_bl, r_rt, r_cd, r_cd2, r_op1, r_op1g, r_gd, r_go1, r_mv, r_bi, r_nei, r_nt, r_nt1, r_ln, r_ln1, r_pk, r_pkf, r_op3, r_fa, r_fa1, r_fa2, r_ixn, r_ia, r_iae, r_ia1, r_pack, r_ltr, r_lab, r_ld, r_ld1, r_ld2, r_fin, r_kfe1, r_kcx, r_exps0, r_exps1, r_kex, r_exp1, r_expv2, r_lt1, ptd, keyOf, freshK, lk, pt, lkO, addO, xv, kv, kc, ↓reduceIte, Nat.reduceEqDiff, Nat.reduceMul, reduceCtorEq, List.length_cons, List.length_nil, Nat.reduceAdd, Nat.reduceLT, true_and, and_true, decide_eq_true_eq, List.getElem?_cons_zero, List.getElem?_cons_succ, List.drop_succ_cons, List.drop_zero, noSh, isSc, impv, or_true, Bool.not_true, Int.toNat_natCast, Nat.zero_add, Nat.add_zero, Int.natCast_nonneg, ne_eq, List.length_map]
  refine ite_of (fun hne => ?_) (fun heq => ?_)
  · rw [dc_false fun h : nodeOK sig b b.nodes[i] i => by have := h.ports; rw [e] at this; exact hne this]
  refine wp_cnt (α := Unit) b.nodes[i].links.length (fun j _ => [(8, iI j)]) (fun j _ => []) (fun j _ => ∀ k, k < j → linkOK b (g0 b.nodes[i].links k)) () (by simp only [r_clean, r_okm2, r_okm4, r_okm11, r_okms0, r_okms1, r_okE0, r_okE1, r_okL0, r_okL1, ↓reduceIte, Nat.reduceEqDiff, reduceCtorEq, memB, keepB, keepOB, Bool.false_eq_true, and_self]) (by (simp only [r_fgt, r_chg, r_pts0, r_pts1, r_ptOs0, pt, ↓reduceIte, Nat.reduceEqDiff, reduceCtorEq, Nat.reduceLT, memB, keepB, keepOB, Bool.false_eq_true, Int.cast_ofNat_Int]) <;> rfl) (fun k hk => absurd hk (Nat.not_lt_zero k)) ?_
  intro j _ hj hA
  simp only [List.length_map, r_cons, r_nil, r_kont, r_seq1, r_seq2, r_blk2, r_fn2, r_sk, r_rg, r_sq, r_bl, r_ex, r_rt, r_cd, r_cd2, r_op1, r_go1, r_mv, r_bi, r_lti, r_ln, r_ln1, r_op3, r_fa, r_fa2, r_ixn, r_ia, r_ia1, r_pack, r_lab, r_ld, r_ld2, r_ld4, r_fin, r_kfe1, r_kcx, r_exps0, r_exps1, r_kex, r_exp1, r_expv2, r_fgt, r_round2, r_chg, r_pts0, r_pts1, r_ptOs0, r_lt1, ptd, lk, pt, lkO, xv, kv, kc, ↓reduceIte, Nat.reduceEqDiff, reduceCtorEq, List.length_cons, List.length_nil, Nat.reduceAdd, Nat.reduceLT, true_and, and_true, decide_eq_true_eq, List.map_cons, List.map_nil, List.getElem?_cons_zero, List.getElem?_cons_succ, List.take_succ_cons, List.take_zero, memB, keepB, keepOB, Bool.false_eq_true, Int.toNat_natCast, Nat.zero_add, Int.natCast_nonneg, Nat.le_refl, List.length_map]
  refine ite_of (fun hlt => ?_) (fun hge => ?_)
  · have hja : j < b.nodes[i].links.length := by omega
    have gl := rI_get hja
    simp only [gl, r_cons, r_kont, r_op1, r_go1, r_op3, r_iae, r_ltr, r_ld, r_ld1, r_kcn, r_kagn, r_sn0, r_sn1, r_sn3, r_ca, r_ca1, ptd, lk, pt, xv, ↓reduceIte, Nat.reduceEqDiff, List.length_cons, List.length_nil, Nat.reduceLT, true_and, List.map_cons, List.map_nil, List.cons_append, List.nil_append, List.getElem?_cons_zero, mens, men, Nat.zero_add, and_self]
    refine kca_intro (sem_l2Link b (g0 b.nodes[i].links j) he ho) ?_
    cases hc : dc (linkOK b (g0 b.nodes[i].links j))
    · simp only [r_cons, r_nil, r_kont, r_seq1, r_seq3, r_blk3, r_fn2, r_rg, r_sq, r_rt, r_cd, r_cd2, r_op1, r_go1, r_mv, r_nt, r_nt1, r_fin, r_kfe1, r_kcx, r_exps0, r_exps1, r_kex, r_exp1, r_expv2, r_round3, r_lt1, ptd, keyOf, freshK, lk, pt, addO, xv, kv, kc, ↓reduceIte, Nat.reduceEqDiff, Nat.reduceMul, List.length_nil, Nat.reduceLT, true_and, and_true, noSh, isSc, impv, or_true, Bool.not_false]
      rw [dc_false fun h : nodeOK sig b b.nodes[i] i => dc_not.1 hc (h.links _ (by simp [hja]))]
    · simp only [r_cons, r_nil, r_kont, r_seq1, r_blk1, r_sk, r_rg, r_cd, r_cd2, r_op1, r_go1, r_mv, r_bi, r_add0, r_nt, r_nt1, r_fgt, r_clean, r_okm2, r_okm4, r_okm11, r_okms0, r_okms1, r_okE0, r_okE1, r_okL0, r_okL1, r_round1, r_lt1, ptd, keyOf, freshK, lk, pt, addO, xv, kv, kc, ↓reduceIte, Nat.reduceEqDiff, Nat.reduceMul, List.length_nil, Nat.reduceLT, true_and, noSh, isSc, impv, memB, keepB, keepOB, or_true, Bool.false_eq_true, Bool.not_true, and_self]
      exact ⟨by rw [fits_i64]; omega, cntJ_intro () hja rfl (allN hA (dc_iff.1 hc))⟩
  · have hj1 : j = b.nodes[i].links.length := by omega
    subst hj1
    have : nodeOK sig b b.nodes[i] i := ⟨r1, dc_iff.1 h2, by rw [e]; omega, fun l hl => by
      obtain ⟨k, hk, rfl⟩ := List.getElem_of_mem hl
      have := hA k hk
      simpa [hk] using this⟩
    rw [dc_true this]

def inn (b : TBigraph) : List ByteArray := b.inner.map TWire.name

theorem rS_app (a b : List ByteArray) : rS (a ++ b) = rS a ++ rS b := List.map_append

theorem sem_l2Inner (b : TBigraph) (hn : b.inner.length ≤ 4294967296) (lvl : Nat) (S : Sto) : Sem Go.Proofs.Tryd.prog fid_spec_l2Inner lvl [.ag ((cBigraph b).map .tr)] S (.ow 1 (rS (inn b)) true) S := by
  refine sem_of_chk k_spec_l2Inner trivial ?_
  simp only [c_spec_l2Inner, cBigraph, r_cons, r_nil, r_kont, r_seq1, r_rg, r_sq, r_bl, r_wpF, r_op1, r_mv, r_bt, r_bt1, r_bs, r_fills0, r_kfill, r_lt1, ptd, keyOf, freshK, lk, pt, lkO, ptO, xv, kv, kc, params, ↓reduceIte, Nat.reduceEqDiff, Nat.reduceMul, reduceCtorEq, List.length_cons, List.length_nil, Nat.reduceLeDiff, Nat.reduceLT, true_and, List.map_cons, List.map_nil, List.all_cons, List.all_nil, isCell, Bool.and_true, Bool.true_and, Bool.and_self, cellsOf, totr, totrs, tocs, Nat.zero_add, List.replicate_zero, and_self]
  refine wp_cnt (α := Unit) b.inner.length (fun j _ => [(3, .hd (lvl, 160) [] 0 j none j), (4, iI j)]) (fun j _ => [(160, .ar 1 (rS ((inn b).take j)) true j 0)]) (fun _ _ => True) () (by simp only [r_clean, r_okm1, r_okm4, r_okm11, r_okE0, r_okE1, r_okL0, r_okL2, ↓reduceIte, Nat.reduceEqDiff, reduceCtorEq, memB, keepB, keepOB, Bool.false_eq_true, and_self]) (by (simp only [r_fgt, r_chg, r_pts0, r_pts1, r_ptOs0, r_ptOs1, pt, ptO, ↓reduceIte, Nat.reduceEqDiff, reduceCtorEq, Nat.reduceLT, List.map_nil, List.take_zero, memB, keepB, keepOB, Bool.false_eq_true, Int.cast_ofNat_Int]) <;> rfl) trivial ?_
  intro j _ hj _
  have hil : (inn b).length = b.inner.length := by simp [inn]
  simp only [List.length_map, r_cons, r_nil, r_kont, r_seq1, r_seq2, r_blk2, r_fn2, r_sk, r_rg, r_sq, r_bl, r_ex, r_rt, r_cd, r_cd2, r_op1, r_go1, r_mv, r_bi, r_lti, r_ln, r_ln1, r_op3, r_fa, r_fa1, r_ixn, r_ia, r_ia1, r_kill, r_ltr, r_ld, r_ld1, r_fin, r_kfe1, r_kcx, r_exps0, r_exps1, r_kex, r_exp1, r_expv4, r_expc7, r_exh1, r_fgt, r_round2, r_chg, r_pts0, r_pts1, r_ptOs0, r_ptOs1, r_lt1, ptd, lk, pt, lkO, ptO, xv, ↓reduceIte, Nat.reduceEqDiff, reduceCtorEq, Nat.reduceLT, true_and, and_true, decide_eq_true_eq, List.getElem?_cons_zero, List.drop_succ_cons, List.drop_zero, List.headD_cons, memB, keepB, keepOB, Bool.false_eq_true, scrE, scrL, scr, rmO, Int.toNat_natCast, Int.natCast_nonneg, List.length_map]
  refine ite_of (fun hlt => ?_) (fun hge => ?_)
  · have hja : j < b.inner.length := by omega
    have ga := getA (c := cWire) hja
    have hlN : (rS ((inn b).take j)).length = j := by rw [List.length_map, List.length_take]; omega
    simp only [ga, cWire, hlN, r_cons, r_nil, r_kont, r_seq1, r_blk1, r_rg, r_op1, r_go1, r_mv, r_bs, r_fills0, r_fills1, r_fl2, r_kfill, r_bi, r_add0, r_op3, r_fa, r_fa1, r_iae, r_rde, r_rd3, r_stamp0, r_pack, r_ltr, r_ld, r_ld1, r_fgt, r_clean, r_okm1, r_okm4, r_okm11, r_okE0, r_okE1, r_okL0, r_okL2, r_round1, r_apgo, r_apx2, r_aph, r_ap, r_kap, r_ap0h, r_rep1, r_cut1, r_scr1, r_unr1, r_max, r_lt1, bigN, ptd, keyOf, freshK, lk, pt, lkO, ptO, xv, kv, kc, trv, ↓reduceIte, Nat.reduceEqDiff, Nat.reduceMul, List.length_cons, List.length_nil, Nat.reduceAdd, Nat.reduceLeDiff, Nat.reduceLT, true_and, List.map_cons, List.map_nil, List.getElem?_cons_zero, List.drop_zero, isSc, memB, keepB, keepOB, Bool.false_eq_true, List.all_cons, List.all_nil, isCell, Bool.and_self, cellsOf, totr, totrs, tocs, getp, Nat.zero_add, List.set_cons_zero, Nat.le_refl, and_self]
    have hstep : rS ((inn b).take j) ++ [[ts b.inner[j].name]] = rS ((inn b).take (j + 1)) := by
      rw [List.take_succ_eq_append_getElem (by omega), rS_app]
      simp [inn]
    refine ⟨by omega, by rw [fits_i64]; omega, cntJ_intro () hja ?_ trivial⟩
    rw [← hstep]
    rfl
  · have : j = b.inner.length := by omega
    subst this
    rw [List.take_of_length_le (by omega)]
    exact ⟨hil.symm, rfl⟩
end Go.Fd

/-
  A VALID BIGRAPH: THE WHOLE, BOTH SIDES. Own work.
-/
namespace Go.Fd
set_option maxRecDepth 20000

theorem sem_innerNames (b : TBigraph) (hn : b.inner.length ≤ 4294967296) (lvl : Nat) (S : Sto) : Sem Go.Proofs.Tryd.prog fid_impl_Bigraph_innerNames lvl [.ag ((cBigraph b).map .tr)] S (.ow 1 (rS (inn b)) true) S := by
  refine sem_of_chk k_impl_Bigraph_innerNames trivial ?_
  simp only [c_impl_Bigraph_innerNames, List.length_map, cBigraph, r_cons, r_nil, r_kont, r_seq1, r_rg, r_sq, r_bl, r_wpF, r_op1, r_go1, r_mv, r_bt, r_bt1, r_bs, r_fills0, r_kfill, r_ln, r_ln1, r_op3, r_fa, r_fa1, r_ltr, r_ld, r_ld1, ptd, keyOf, freshK, lk, pt, lkO, ptO, xv, kv, kc, params, ↓reduceIte, Nat.reduceEqDiff, Nat.reduceMul, reduceCtorEq, List.length_cons, List.length_nil, Nat.reduceLeDiff, Nat.reduceLT, true_and, List.map_cons, List.map_nil, List.getElem?_cons_zero, List.drop_succ_cons, List.drop_zero, List.all_cons, List.all_nil, isCell, Bool.and_true, Bool.true_and, Bool.and_self, cellsOf, totr, totrs, tocs, Nat.zero_add, List.length_map, List.replicate_zero, and_self]
  refine wp_cnt (α := Unit) b.inner.length (fun j _ => [(3, .hd (lvl, 192) [] 0 j none j), (10, iI j)]) (fun j _ => [(192, .ar 1 (rS ((inn b).take j)) true j 0)]) (fun _ _ => True) () (by simp only [r_clean, r_okm1, r_okm4, r_okE0, r_okE1, r_okL0, r_okL2, ↓reduceIte, Nat.reduceEqDiff, reduceCtorEq, memB, keepB, keepOB, Bool.false_eq_true, and_self]) (by (simp only [r_fgt, r_chg, r_pts0, r_pts1, r_ptOs0, r_ptOs1, pt, ptO, ↓reduceIte, Nat.reduceEqDiff, reduceCtorEq, Nat.reduceLT, List.map_nil, List.take_zero, memB, keepB, keepOB, Bool.false_eq_true, Int.cast_ofNat_Int]) <;> rfl) trivial ?_
  intro j _ hj _
  have hil : (inn b).length = b.inner.length := by simp [inn]
  simp only [List.length_map, r_cons, r_nil, r_kont, r_seq1, r_seq2, r_blk2, r_fn2, r_sk, r_rg, r_sq, r_bl, r_ex, r_rt, r_cd, r_cd2, r_op1, r_go1, r_mv, r_bi, r_lti, r_ixn, r_ia, r_ia1, r_kill, r_fin, r_kfe1, r_kcx, r_exps0, r_exps1, r_kex, r_exp1, r_expv4, r_expc7, r_exh1, r_fgt, r_round2, r_chg, r_pts0, r_pts1, r_ptOs0, r_ptOs1, r_lt1, ptd, lk, pt, lkO, ptO, xv, ↓reduceIte, Nat.reduceEqDiff, reduceCtorEq, Nat.reduceLT, true_and, and_true, decide_eq_true_eq, List.headD_cons, memB, keepB, keepOB, Bool.false_eq_true, scrE, scrL, scr, rmO, Int.toNat_natCast, Int.natCast_nonneg, List.length_map]
  refine ite_of (fun hlt => ?_) (fun hge => ?_)
  · have hja : j < b.inner.length := by omega
    have ga := getA (c := cWire) hja
    have hlN : (rS ((inn b).take j)).length = j := by rw [List.length_map, List.length_take]; omega
    simp only [ga, cWire, hlN, r_cons, r_nil, r_kont, r_seq1, r_blk1, r_rg, r_op1, r_go1, r_mv, r_al, r_bs, r_fills0, r_fills1, r_fl2, r_kfill, r_bi, r_add0, r_op3, r_fa, r_fa2, r_iae, r_rde, r_rd3, r_stamp0, r_pack, r_setOb, r_lab, r_ld, r_ld2, r_ld4, r_fgt, r_clean, r_okm1, r_okm4, r_okE0, r_okE1, r_okL0, r_okL2, r_round1, r_st, r_st1, r_stb, r_setAt0, r_setAt1, r_lows0, r_lows1, r_low1, r_apgo, r_apx2, r_aph, r_ap, r_kap, r_ap0h, r_rep1, r_cut1, r_scr1, r_unr1, r_max, r_lt1, bigN, zfill, zobs, ptd, keyOf, freshK, lk, pt, lkO, ptO, addO, xv, kv, kc, trv, ↓reduceIte, Nat.reduceEqDiff, Nat.reduceMul, List.length_cons, List.length_nil, Nat.reduceAdd, Nat.reduceLeDiff, Nat.reduceLT, true_and, List.map_cons, List.map_nil, List.getElem?_cons_zero, List.take_succ_cons, List.take_zero, isSc, memB, keepB, keepOB, Bool.false_eq_true, List.all_cons, List.all_nil, isCell, Bool.and_self, cellsOf, totr, totrs, tocs, getp, Nat.zero_add, Nat.add_zero, List.set_cons_zero, List.set_cons_succ, Nat.le_refl, and_self]
    have hstep : rS ((inn b).take j) ++ [[ts b.inner[j].name]] = rS ((inn b).take (j + 1)) := by
      rw [List.take_succ_eq_append_getElem (by omega), rS_app]
      simp [inn]
    refine ⟨by omega, by rw [fits_i64]; omega, cntJ_intro () hja ?_ trivial⟩
    rw [← hstep]
    rfl
  · have : j = b.inner.length := by omega
    subst this
    rw [List.take_of_length_le (by omega)]
    exact ⟨hil.symm, rfl⟩

def nodeAt (sig : List TControl) (b : TBigraph) (i : Nat) : Prop := ∀ h : i < b.nodes.length, nodeOK sig b b.nodes[i] i

structure bigOK (sig : List TControl) (b : TBigraph) : Prop where
  sg : sigOK sig
  roots : 0 ≤ b.roots ∧ b.roots ≤ 4
  nodesL : b.nodes.length ≤ 8
  sitesL : b.sites.length ≤ 4
  edges : 0 ≤ b.edges ∧ b.edges ≤ 8
  outer : namesOK b.outer
  inn : namesOK (inn b)
  nodes : ∀ i, nodeAt sig b i
  sites : ∀ p ∈ b.sites, under sig b p b.nodes.length
  inner : ∀ w ∈ b.inner, linkOK b w.link

theorem ctls_of {sig : List TControl} {b : TBigraph} {j : Nat} (h : ∀ k, k < j → nodeAt sig b k) : ctlsOK sig b j := fun i hi hl => (h i hi hl).ctl

theorem inn_len {b : TBigraph} : (inn b).length = b.inner.length := by simp [inn]

theorem inn_mem {b : TBigraph} {n : Nat} (h : ∀ y ∈ b.inner, bdWire n y) : ∀ y ∈ inn b, y.size ≤ n := fun y hy => by
  obtain ⟨w, hw, rfl⟩ := List.mem_map.1 hy
  exact h w hw

theorem sem_l2Good (sig : List TControl) (b : TBigraph) (hn : sig.length ≤ 4294967296) (hbs : ∀ y ∈ sig, bdControl 4294967296 y) (hb : bdBigraph 4294967296 b) (hf : ftBigraph b) (lvl : Nat) (S : Sto) : Sem Go.Proofs.Tryd.prog fid_spec_l2Good lvl [.tr (.sl (sig.map cControl)), .ag ((cBigraph b).map .tr)] S (iB (dc (bigOK sig b))) S := by
  obtain ⟨b1, b2, b3, b4, b5, b6, b7⟩ := hb
  obtain ⟨f1, f2, f3, f4, f5⟩ := hf
  refine sem_of_chk k_spec_l2Good trivial ?_
  simp only [c_spec_l2Good, cBigraph, r_cons, r_nil, r_kont, r_seq1, r_rg, r_sq, r_wpF, r_op1, r_mv, r_bt, r_bt1, r_kcn, r_sn0, r_sn1, r_ca, r_ca1, ptd, lk, pt, xv, kv, kc, params, ↓reduceIte, Nat.reduceEqDiff, reduceCtorEq, List.length_cons, List.length_nil, Nat.reduceAdd, Nat.reduceLeDiff, Nat.reduceLT, true_and, List.map_cons, List.map_nil, List.cons_append, List.nil_append, mens, men, List.all_cons, List.all_nil, isCell, Bool.and_true, Bool.true_and, Bool.and_self, cellsOf, totr, totrs, tocs, Nat.zero_add, and_self]
  refine kca_intro (sem_l2Sig sig (by omega) (fun y hy => monoControl (hbs y hy))) ?_
  cases h1 : dc (sigOK sig)
  · simp only [r_cons, r_nil, r_kont, r_seq1, r_seq3, r_fn2, r_rg, r_sq, r_rt, r_cd, r_cd2, r_op1, r_op1g, r_gd, r_go1, r_mv, r_nt, r_nt1, r_pk, r_pkt, r_fin, r_kfe1, r_kcx, r_exps0, r_exps1, r_kex, r_exp1, r_expv2, ptd, keyOf, freshK, lk, pt, addO, xv, kv, kc, ↓reduceIte, Nat.reduceEqDiff, Nat.reduceMul, reduceCtorEq, List.length_nil, Nat.reduceLT, true_and, and_true, noSh, isSc, impv, or_true, Bool.true_eq_false, Bool.not_false]
    rw [dc_false fun h : bigOK sig b => dc_not.1 h1 h.sg]
  simp only [r_cons, r_kont, r_op1, r_op1g, r_gd, r_go1, r_mv, r_nt, r_nt1, r_op3, r_fa, r_fa1, r_ltr, r_ld, r_ld1, r_kcn, r_sn0, r_sn1, r_ca, r_ca1, ptd, keyOf, freshK, lk, pt, addO, xv, kv, kc, ↓reduceIte, Nat.reduceEqDiff, Nat.reduceMul, reduceCtorEq, List.length_nil, Nat.reduceLT, true_and, List.map_cons, List.map_nil, List.cons_append, List.nil_append, List.getElem?_cons_zero, List.drop_zero, mens, men, noSh, isSc, impv, or_true, Bool.not_true, and_self]
  refine kca_intro (sem_l1In b.roots 0 4) ?_
  cases h2 : inB b.roots 0 4
  · simp only [r_cons, r_nil, r_kont, r_seq1, r_seq3, r_fn2, r_rg, r_sq, r_rt, r_cd, r_cd2, r_op1, r_op1g, r_gd, r_go1, r_mv, r_nt, r_nt1, r_pk, r_pkt, r_pkf, r_fin, r_kfe1, r_kcx, r_exps0, r_exps1, r_kex, r_exp1, r_expv2, ptd, keyOf, freshK, lk, pt, addO, xv, kv, kc, ↓reduceIte, Nat.reduceEqDiff, Nat.reduceMul, reduceCtorEq, List.length_nil, Nat.reduceLT, true_and, and_true, noSh, isSc, impv, or_true, Bool.true_eq_false, Bool.not_false]
    rw [dc_false fun h : bigOK sig b => inB_not.1 h2 h.roots]
  by_cases h3 : (8 : Int) < b.nodes.length
  · simp only [h3, List.length_map, r_cons, r_nil, r_kont, r_seq1, r_seq3, r_fn2, r_rg, r_sq, r_rt, r_cd, r_cd2, r_op1, r_op1g, r_gd, r_go1, r_mv, r_bi, r_gti, r_nt, r_nt1, r_ln, r_ln1, r_pk, r_pkt, r_pkf, r_op3, r_fa, r_fa1, r_ltr, r_ld, r_ld1, r_fin, r_kfe1, r_kcx, r_exps0, r_exps1, r_kex, r_exp1, r_expv2, ptd, keyOf, freshK, lk, pt, addO, xv, kv, kc, ↓reduceIte, Nat.reduceEqDiff, Nat.reduceMul, reduceCtorEq, List.length_nil, Nat.reduceLT, true_and, and_true, decide_true, List.getElem?_cons_zero, List.drop_succ_cons, List.drop_zero, noSh, isSc, impv, or_true, Bool.true_eq_false, Bool.not_true, Bool.not_false, List.length_map]
    rw [dc_false fun h : bigOK sig b => by have := h.nodesL; omega]
  by_cases h4 : (4 : Int) < b.sites.length
  · simp only [h3, h4, List.length_map, r_cons, r_nil, r_kont, r_seq1, r_seq3, r_fn2, r_rg, r_sq, r_rt, r_cd, r_cd2, r_op1, r_op1g, r_gd, r_go1, r_mv, r_bi, r_gti, r_nt, r_nt1, r_ln, r_ln1, r_pk, r_pkt, r_pkf, r_op3, r_fa, r_fa1, r_ltr, r_ld, r_ld1, r_fin, r_kfe1, r_kcx, r_exps0, r_exps1, r_kex, r_exp1, r_expv2, ptd, keyOf, freshK, lk, pt, addO, xv, kv, kc, ↓reduceIte, Nat.reduceEqDiff, Nat.reduceMul, reduceCtorEq, List.length_nil, Nat.reduceLT, true_and, and_true, decide_true, decide_false, List.getElem?_cons_zero, List.drop_succ_cons, List.drop_zero, noSh, isSc, impv, or_true, Bool.true_eq_false, Bool.not_true, Bool.not_false, List.length_map]
    rw [dc_false fun h : bigOK sig b => by have := h.sitesL; omega]
  simp only [h3, h4, List.length_map, r_cons, r_kont, r_op1, r_op1g, r_gd, r_go1, r_mv, r_bi, r_gti, r_nt, r_nt1, r_ln, r_ln1, r_pk, r_pkf, r_op3, r_fa, r_fa1, r_ltr, r_ld, r_ld1, r_kcn, r_sn0, r_sn1, r_ca, r_ca1, ptd, keyOf, freshK, lk, pt, addO, xv, kv, kc, ↓reduceIte, Nat.reduceEqDiff, Nat.reduceMul, reduceCtorEq, List.length_nil, Nat.reduceLT, true_and, decide_false, List.map_cons, List.map_nil, List.cons_append, List.nil_append, List.getElem?_cons_zero, List.drop_succ_cons, List.drop_zero, mens, men, noSh, isSc, impv, or_true, Bool.not_true, List.length_map, and_self]
  refine kca_intro (sem_l1In b.edges 0 8) ?_
  cases h5 : inB b.edges 0 8
  · simp only [r_cons, r_nil, r_kont, r_seq1, r_seq3, r_fn2, r_rg, r_sq, r_rt, r_cd, r_cd2, r_op1, r_op1g, r_gd, r_go1, r_mv, r_nt, r_nt1, r_pk, r_pkf, r_fin, r_kfe1, r_kcx, r_exps0, r_exps1, r_kex, r_exp1, r_expv2, ptd, keyOf, freshK, lk, pt, addO, xv, kv, kc, ↓reduceIte, Nat.reduceEqDiff, Nat.reduceMul, reduceCtorEq, List.length_nil, Nat.reduceLT, true_and, and_true, noSh, isSc, impv, or_true, Bool.not_false]
    rw [dc_false fun h : bigOK sig b => inB_not.1 h5 h.edges]
  have r2 := inB_iff.1 h2
  have r5 := inB_iff.1 h5
  simp only [r_cons, r_nil, r_kont, r_seq1, r_sk, r_rg, r_sq, r_cd, r_cd2, r_op1, r_op1g, r_gd, r_go1, r_nt, r_nt1, r_pk, r_pkf, r_op3, r_fa, r_fa1, r_ltr, r_ld, r_ld1, r_kcn, r_sn0, r_sn1, r_ca, r_ca1, ptd, keyOf, freshK, lk, pt, addO, xv, kv, kc, ↓reduceIte, Nat.reduceEqDiff, Nat.reduceMul, reduceCtorEq, List.length_nil, Nat.reduceLT, true_and, List.map_cons, List.map_nil, List.cons_append, List.nil_append, List.getElem?_cons_zero, List.drop_succ_cons, List.drop_zero, mens, men, noSh, isSc, impv, or_true, Bool.false_eq_true, Bool.not_true, and_self]
  refine kca_intro (sem_l2Names b.outer (by assumption) (by assumption)) ?_
  cases h6 : dc (namesOK b.outer)
  · simp only [r_cons, r_nil, r_kont, r_seq1, r_seq3, r_fn2, r_rg, r_sq, r_rt, r_cd, r_cd2, r_op1, r_op1g, r_gd, r_go1, r_mv, r_nt, r_nt1, r_pk, r_pkt, r_fin, r_kfe1, r_kcx, r_exps0, r_exps1, r_kex, r_exp1, r_expv2, ptd, keyOf, freshK, lk, pt, addO, xv, kv, kc, ↓reduceIte, Nat.reduceEqDiff, Nat.reduceMul, reduceCtorEq, List.length_nil, Nat.reduceLT, true_and, and_true, noSh, isSc, impv, or_true, Bool.true_eq_false, Bool.not_false]
    rw [dc_false fun h : bigOK sig b => dc_not.1 h6 h.outer]
  by_cases h7 : (16 : Int) < b.inner.length
  · simp only [h7, List.length_map, r_cons, r_nil, r_kont, r_seq1, r_seq3, r_fn2, r_rg, r_sq, r_rt, r_cd, r_cd2, r_op1, r_op1g, r_gd, r_go1, r_mv, r_bi, r_gti, r_nt, r_nt1, r_ln, r_ln1, r_pk, r_pkt, r_pkf, r_op3, r_fa, r_fa1, r_ltr, r_ld, r_ld1, r_fin, r_kfe1, r_kcx, r_exps0, r_exps1, r_kex, r_exp1, r_expv2, ptd, keyOf, freshK, lk, pt, addO, xv, kv, kc, ↓reduceIte, Nat.reduceEqDiff, Nat.reduceMul, reduceCtorEq, List.length_nil, Nat.reduceLT, true_and, and_true, decide_true, List.getElem?_cons_zero, List.drop_succ_cons, List.drop_zero, noSh, isSc, impv, or_true, Bool.true_eq_false, Bool.not_true, Bool.not_false, List.length_map]
    rw [dc_false fun h : bigOK sig b => by have := h.inn.2; rw [inn_len] at this; omega]
  simp only [h7, List.length_map, r_cons, r_kont, r_op1, r_op1g, r_gd, r_go1, r_mv, r_bi, r_gti, r_nt, r_nt1, r_ln, r_ln1, r_pk, r_pkf, r_op3, r_fa, r_fa1, r_ltr, r_ld, r_ld1, r_ld4, r_kcn, r_kagn, r_sn0, r_sn1, r_sn3, r_ca, r_ca1, ptd, keyOf, freshK, lk, pt, addO, xv, kv, kc, ↓reduceIte, Nat.reduceEqDiff, Nat.reduceMul, reduceCtorEq, List.length_cons, List.length_nil, Nat.reduceAdd, Nat.reduceLT, true_and, decide_false, List.map_cons, List.map_nil, List.cons_append, List.nil_append, List.getElem?_cons_zero, List.drop_succ_cons, List.drop_zero, List.take_succ_cons, List.take_zero, mens, men, noSh, isSc, impv, or_true, Bool.not_true, Nat.zero_add, Nat.le_refl, List.length_map, and_self]
  refine kca_intro (sem_l2Inner b (by omega)) ?_
  simp only [r_cons, r_kont, r_op1g, r_gd, r_kcn, r_sn0, r_sn1, r_ca, r_ca1, ptd, keyOf, freshK, lk, pt, addO, xv, ↓reduceIte, Nat.reduceEqDiff, Nat.reduceMul, reduceCtorEq, List.length_nil, Nat.reduceLT, true_and, List.map_cons, List.map_nil, List.cons_append, List.nil_append, mens, men, noSh, impv, impc, or_true, Bool.false_eq_true, and_self]
  refine kca_intro (sem_l2Names (inn b) (by rw [inn_len]; omega) (inn_mem (by assumption))) ?_
  cases h8 : dc (namesOK (inn b))
  · simp only [r_cons, r_nil, r_kont, r_seq1, r_seq3, r_fn2, r_rg, r_sq, r_rt, r_cd, r_cd2, r_op1, r_op1g, r_gd, r_go1, r_mv, r_nt, r_nt1, r_pk, r_pkf, r_fin, r_kfe1, r_kcx, r_exps0, r_exps1, r_kex, r_exp1, r_expv2, ptd, keyOf, freshK, lk, pt, addO, xv, kv, kc, ↓reduceIte, Nat.reduceEqDiff, Nat.reduceMul, reduceCtorEq, List.length_nil, Nat.reduceLT, true_and, and_true, noSh, isSc, impv, or_true, Bool.not_false]
    rw [dc_false fun h : bigOK sig b => dc_not.1 h8 h.inn]
  simp only [r_cons, r_nil, r_kont, r_seq1, r_sk, r_rg, r_sq, r_bl, r_cd, r_cd2, r_op1, r_op1g, r_gd, r_go1, r_mv, r_nt, r_nt1, r_pk, r_pkf, ptd, keyOf, freshK, lk, pt, addO, xv, kv, kc, ↓reduceIte, Nat.reduceEqDiff, Nat.reduceMul, reduceCtorEq, List.length_nil, Nat.reduceLT, true_and, noSh, isSc, impv, or_true, Bool.false_eq_true, Bool.not_true]
  have ho := (dc_iff.1 h6).2
  refine wp_cnt (α := Unit) b.nodes.length (fun j _ => [(5, iI j)]) (fun j _ => []) (fun j _ => ∀ k, k < j → nodeAt sig b k) () (by simp only [r_clean, r_okm4, r_okm11, r_okE0, r_okE1, r_okL0, ↓reduceIte, Nat.reduceEqDiff, reduceCtorEq, memB, keepB, keepOB, Bool.false_eq_true, and_self]) (by (simp only [r_fgt, r_chg, r_pts0, r_pts1, r_ptOs0, pt, ↓reduceIte, Nat.reduceEqDiff, reduceCtorEq, Nat.reduceLT, memB, keepB, keepOB, Bool.false_eq_true, Int.cast_ofNat_Int]) <;> rfl) (fun k hk => absurd hk (Nat.not_lt_zero k)) ?_
  intro j _ hj hA
  simp only [List.length_map, r_cons, r_nil, r_kont, r_seq1, r_seq2, r_blk2, r_sk, r_rg, r_sq, r_bl, r_ex, r_cd, r_cd2, r_op1, r_go1, r_mv, r_bi, r_lti, r_ln, r_ln1, r_op3, r_fa, r_fa1, r_ltr, r_ld, r_ld1, r_ld4, r_kcn, r_kagn, r_sn0, r_sn1, r_sn3, r_ca, r_ca1, r_fgt, r_round2, r_chg, r_pts0, r_pts1, r_ptOs0, ptd, lk, pt, xv, kv, kc, ↓reduceIte, Nat.reduceEqDiff, reduceCtorEq, List.length_cons, List.length_nil, Nat.reduceAdd, Nat.reduceLT, true_and, decide_eq_true_eq, List.map_cons, List.map_nil, List.cons_append, List.nil_append, List.getElem?_cons_zero, List.drop_succ_cons, List.drop_zero, List.take_succ_cons, List.take_zero, mens, men, memB, keepB, keepOB, Bool.false_eq_true, Nat.zero_add, Nat.le_refl, List.length_map, and_self]
  refine ite_of (fun hlt => ?_) (fun hge => ?_)
  · have hja : j < b.nodes.length := by omega
    have hm := List.getElem_mem hja
    refine kca_intro (sem_l2Node sig b j hja hn (by first | exact (b2 _ hm) | exact (b3 _ hm)) (by first | exact (f1 _ hm).2.1 | exact (f2 _ hm).2.1) r2 r5 (by omega) (ctls_of hA)) ?_
    cases hc : dc (nodeOK sig b b.nodes[j] j)
    · simp only [r_cons, r_nil, r_kont, r_seq1, r_seq3, r_blk3, r_fn2, r_rg, r_sq, r_rt, r_cd, r_cd2, r_op1, r_go1, r_mv, r_nt, r_nt1, r_fin, r_kfe1, r_kcx, r_exps0, r_exps1, r_kex, r_exp1, r_expv2, r_round3, r_lt1, ptd, keyOf, freshK, lk, pt, addO, xv, kv, kc, ↓reduceIte, Nat.reduceEqDiff, Nat.reduceMul, reduceCtorEq, List.length_nil, Nat.reduceLT, true_and, and_true, noSh, isSc, impv, or_true, Bool.not_false]
      rw [dc_false fun h : bigOK sig b => dc_not.1 hc (h.nodes j hja)]
    · simp only [r_cons, r_nil, r_kont, r_seq1, r_blk1, r_sk, r_rg, r_cd, r_cd2, r_op1, r_go1, r_mv, r_bi, r_add0, r_nt, r_nt1, r_fgt, r_clean, r_okm4, r_okm11, r_okE0, r_okE1, r_okL0, r_round1, r_lt1, ptd, keyOf, freshK, lk, pt, addO, xv, kv, kc, ↓reduceIte, Nat.reduceEqDiff, Nat.reduceMul, reduceCtorEq, List.length_nil, Nat.reduceLT, true_and, noSh, isSc, impv, memB, keepB, keepOB, or_true, Bool.false_eq_true, Bool.not_true, and_self]
      exact ⟨by rw [fits_i64]; omega, cntJ_intro () hja rfl (allN hA fun _ => dc_iff.1 hc)⟩
  have hj1 : j = b.nodes.length := by omega
  subst hj1
  refine wp_cnt (α := Unit) b.sites.length (fun j _ => [(6, iI j)]) (fun j _ => []) (fun j _ => ∀ k, k < j → under sig b (g0 b.sites k) b.nodes.length) () (by simp only [r_clean, r_okm4, r_okm11, r_okE0, r_okE1, r_okL0, ↓reduceIte, Nat.reduceEqDiff, reduceCtorEq, memB, keepB, keepOB, Bool.false_eq_true, and_self]) (by (simp only [r_fgt, r_chg, r_pts0, r_pts1, r_ptOs0, pt, ↓reduceIte, Nat.reduceEqDiff, reduceCtorEq, Nat.reduceLT, memB, keepB, keepOB, Bool.false_eq_true, Int.cast_ofNat_Int]) <;> rfl) (fun k hk => absurd hk (Nat.not_lt_zero k)) ?_
  intro j _ hj hB
  simp only [List.length_map, r_cons, r_nil, r_kont, r_seq1, r_seq2, r_blk2, r_sk, r_rg, r_sq, r_bl, r_ex, r_cd, r_cd2, r_op1, r_go1, r_mv, r_bi, r_lti, r_ln, r_ln1, r_op3, r_fa, r_fa1, r_ixn, r_ia, r_ia1, r_ltr, r_ld, r_ld1, r_ld4, r_fgt, r_round2, r_chg, r_pts0, r_pts1, r_ptOs0, ptd, lk, pt, xv, kv, kc, ↓reduceIte, Nat.reduceEqDiff, reduceCtorEq, List.length_cons, List.length_nil, Nat.reduceAdd, Nat.reduceLT, true_and, decide_eq_true_eq, List.map_cons, List.map_nil, List.getElem?_cons_zero, List.drop_succ_cons, List.drop_zero, List.take_succ_cons, List.take_zero, memB, keepB, keepOB, Bool.false_eq_true, Int.toNat_natCast, Nat.zero_add, Int.natCast_nonneg, Nat.le_refl, List.length_map]
  refine ite_of (fun hlt => ?_) (fun hge => ?_)
  · have hja : j < b.sites.length := by omega
    have ga := rI_get hja
    have hg : g0 b.sites j ∈ b.sites := by simp [hja]
    simp only [ga, List.length_map, r_cons, r_kont, r_op1, r_go1, r_ln, r_ln1, r_op3, r_fa, r_fa1, r_iae, r_ltr, r_ld, r_ld1, r_kcn, r_kagn, r_sn0, r_sn1, r_sn3, r_ca, r_ca1, ptd, lk, pt, xv, ↓reduceIte, Nat.reduceEqDiff, reduceCtorEq, List.length_cons, List.length_nil, Nat.reduceLT, true_and, List.map_cons, List.map_nil, List.cons_append, List.nil_append, List.getElem?_cons_zero, List.drop_succ_cons, List.drop_zero, mens, men, Nat.zero_add, List.length_map, and_self]
    refine kca_intro (sem_l2Under sig b (g0 b.sites j) b.nodes.length (by first | exact f3 _ hg | exact f2 _ hg | exact f4 _ hg) r2 (Nat.le_refl _) (ctls_of hA)) ?_
    cases hc : dc (under sig b (g0 b.sites j) b.nodes.length)
    · simp only [r_cons, r_nil, r_kont, r_seq1, r_seq3, r_blk3, r_fn2, r_rg, r_sq, r_rt, r_cd, r_cd2, r_op1, r_go1, r_mv, r_nt, r_nt1, r_fin, r_kfe1, r_kcx, r_exps0, r_exps1, r_kex, r_exp1, r_expv2, r_round3, ptd, keyOf, freshK, lk, pt, addO, xv, kv, kc, ↓reduceIte, Nat.reduceEqDiff, Nat.reduceMul, reduceCtorEq, List.length_nil, Nat.reduceLT, true_and, and_true, noSh, isSc, impv, or_true, Bool.not_false]
      rw [dc_false fun h : bigOK sig b => dc_not.1 hc (h.sites _ hg)]
    · simp only [r_cons, r_nil, r_kont, r_seq1, r_blk1, r_sk, r_rg, r_cd, r_cd2, r_op1, r_go1, r_mv, r_bi, r_add0, r_nt, r_nt1, r_fgt, r_clean, r_okm4, r_okm11, r_okE0, r_okE1, r_okL0, r_round1, r_lt1, ptd, keyOf, freshK, lk, pt, addO, xv, kv, kc, ↓reduceIte, Nat.reduceEqDiff, Nat.reduceMul, reduceCtorEq, List.length_nil, Nat.reduceLT, true_and, noSh, isSc, impv, memB, keepB, keepOB, or_true, Bool.false_eq_true, Bool.not_true, and_self]
      exact ⟨by rw [fits_i64]; omega, cntJ_intro () hja rfl (allN hB (dc_iff.1 hc))⟩
  have hj1 : j = b.sites.length := by omega
  subst hj1
  refine wp_cnt (α := Unit) b.inner.length (fun j _ => [(7, iI j)]) (fun j _ => []) (fun j _ => ∀ k, k < j → ∀ h : k < b.inner.length, linkOK b b.inner[k].link) () (by simp only [r_clean, r_okm4, r_okm11, r_okE0, r_okE1, r_okL0, ↓reduceIte, Nat.reduceEqDiff, reduceCtorEq, memB, keepB, keepOB, Bool.false_eq_true, and_self]) (by (simp only [r_fgt, r_chg, r_pts0, r_pts1, r_ptOs0, pt, ↓reduceIte, Nat.reduceEqDiff, reduceCtorEq, Nat.reduceLT, memB, keepB, keepOB, Bool.false_eq_true, Int.cast_ofNat_Int]) <;> rfl) (fun k hk => absurd hk (Nat.not_lt_zero k)) ?_
  intro j _ hj hC
  simp only [List.length_map, r_cons, r_nil, r_kont, r_seq1, r_seq2, r_blk2, r_fn2, r_sk, r_rg, r_sq, r_bl, r_ex, r_rt, r_cd, r_cd2, r_op1, r_go1, r_mv, r_bi, r_lti, r_ln, r_ln1, r_op3, r_fa, r_fa1, r_ixn, r_ia, r_ia1, r_ltr, r_ld, r_ld1, r_ld4, r_fin, r_kfe1, r_kcx, r_exps0, r_exps1, r_kex, r_exp1, r_expv2, r_fgt, r_round2, r_chg, r_pts0, r_pts1, r_ptOs0, ptd, lk, pt, xv, kv, kc, ↓reduceIte, Nat.reduceEqDiff, reduceCtorEq, List.length_cons, List.length_nil, Nat.reduceAdd, Nat.reduceLT, true_and, and_true, decide_eq_true_eq, List.map_cons, List.map_nil, List.getElem?_cons_zero, List.drop_succ_cons, List.drop_zero, List.take_succ_cons, List.take_zero, memB, keepB, keepOB, Bool.false_eq_true, Int.toNat_natCast, Nat.zero_add, Int.natCast_nonneg, Nat.le_refl, List.length_map]
  refine ite_of (fun hlt => ?_) (fun hge => ?_)
  · have hja : j < b.inner.length := by omega
    have ga := getA (c := cWire) hja
    simp only [ga, cWire, r_cons, r_kont, r_op1, r_go1, r_op3, r_fa, r_fa1, r_iae, r_ltr, r_ld, r_ld1, r_kcn, r_kagn, r_sn0, r_sn1, r_sn3, r_ca, r_ca1, ptd, lk, pt, xv, ↓reduceIte, Nat.reduceEqDiff, List.length_cons, List.length_nil, Nat.reduceAdd, Nat.reduceLT, true_and, List.map_cons, List.map_nil, List.cons_append, List.nil_append, List.getElem?_cons_zero, List.drop_succ_cons, List.drop_zero, mens, men, Nat.zero_add, and_self]
    refine kca_intro (sem_l2Link b b.inner[j].link r5 (by omega)) ?_
    cases hc : dc (linkOK b b.inner[j].link)
    · simp only [r_cons, r_nil, r_kont, r_seq1, r_seq3, r_blk3, r_fn2, r_rg, r_sq, r_rt, r_cd, r_cd2, r_op1, r_go1, r_mv, r_nt, r_nt1, r_fin, r_kfe1, r_kcx, r_exps0, r_exps1, r_kex, r_exp1, r_expv2, r_round3, ptd, keyOf, freshK, lk, pt, addO, xv, kv, kc, ↓reduceIte, Nat.reduceEqDiff, Nat.reduceMul, List.length_nil, Nat.reduceLT, true_and, and_true, noSh, isSc, impv, or_true, Bool.not_false]
      rw [dc_false fun h : bigOK sig b => dc_not.1 hc (h.inner _ (List.getElem_mem hja))]
    · simp only [r_cons, r_nil, r_kont, r_seq1, r_blk1, r_sk, r_rg, r_cd, r_cd2, r_op1, r_go1, r_mv, r_bi, r_add0, r_nt, r_nt1, r_fgt, r_clean, r_okm4, r_okm11, r_okE0, r_okE1, r_okL0, r_round1, r_lt1, ptd, keyOf, freshK, lk, pt, addO, xv, kv, kc, ↓reduceIte, Nat.reduceEqDiff, Nat.reduceMul, List.length_nil, Nat.reduceLT, true_and, noSh, isSc, impv, memB, keepB, keepOB, or_true, Bool.false_eq_true, Bool.not_true, and_self]
      exact ⟨by rw [fits_i64]; omega, cntJ_intro () hja rfl (allN hC fun _ => dc_iff.1 hc)⟩
  have hj1 : j = b.inner.length := by omega
  subst hj1
  have : bigOK sig b := ⟨dc_iff.1 h1, r2, by omega, by omega, r5, dc_iff.1 h6, dc_iff.1 h8, fun i h => hA i h h, fun p hp => by
    obtain ⟨k, hk, rfl⟩ := List.getElem_of_mem hp
    have := hB k hk
    simpa [hk] using this, fun w hw => by
    obtain ⟨k, hk, rfl⟩ := List.getElem_of_mem hw
    exact hC k hk hk⟩
  rw [dc_true this]

theorem sem_IsBigraph_1 (l : Int) (b : TBigraph) (he : 0 ≤ b.edges ∧ b.edges ≤ 8) (ho : b.outer.length ≤ 4294967296) (lvl : Nat) (S : Sto) : Sem Go.Proofs.Tryd.prog fid_impl_IsBigraph_1 lvl [iI l, .ta (cBigraph b)] S (iB (!dc (linkOK b l))) S := by
  refine sem_of_chk k_impl_IsBigraph_1 trivial ?_
  simp only [c_impl_IsBigraph_1, cBigraph, r_cons, r_nil, r_kont, r_seq1, r_rg, r_sq, r_wpF, r_op1, r_go1, r_mv, r_ld, r_ld4, r_kcn, r_kagn, r_sn0, r_sn1, r_sn3, r_ca, r_ca1, ptd, lk, pt, xv, kv, kc, params, ↓reduceIte, Nat.reduceEqDiff, reduceCtorEq, List.length_cons, List.length_nil, Nat.reduceAdd, Nat.reduceLeDiff, Nat.reduceLT, true_and, List.map_cons, List.map_nil, List.cons_append, List.nil_append, List.take_succ_cons, List.take_zero, mens, men, Nat.zero_add, Nat.le_refl, and_self]
  refine kca_intro (sem_isLink b l he ho) ?_
  simp only [r_cons, r_nil, r_kont, r_seq1, r_fn2, r_rt, r_op1, r_go1, r_mv, r_nt, r_nt1, r_fin, r_kfe1, r_kcx, r_exps0, r_exps1, r_kex, r_exp1, r_expv2, ptd, keyOf, freshK, lk, pt, addO, xv, ↓reduceIte, Nat.reduceEqDiff, Nat.reduceMul, reduceCtorEq, List.length_nil, Nat.reduceLT, noSh, isSc, impv, or_true, and_self]

theorem sem_IsBigraph_2 (p : Int) (sig : List TControl) (b : TBigraph) (hr : 0 ≤ b.roots ∧ b.roots ≤ 4) (hc : ctlsOK sig b b.nodes.length) (lvl : Nat) (S : Sto) : Sem Go.Proofs.Tryd.prog fid_impl_IsBigraph_2 lvl [iI p, .ta (cBigraph b), .ta [Tr.sl (sig.map cControl)]] S (iB (!dc (under sig b p b.nodes.length))) S := by
  refine sem_of_chk k_impl_IsBigraph_2 trivial ?_
  simp only [c_impl_IsBigraph_2, cBigraph, List.length_map, r_cons, r_nil, r_kont, r_seq1, r_rg, r_sq, r_wpF, r_op1, r_go1, r_mv, r_ln, r_ln1, r_op3, r_fa, r_fa1, r_ltr, r_ld, r_ld1, r_ld4, r_kcn, r_kagn, r_sn0, r_sn1, r_sn3, r_ca, r_ca1, ptd, lk, pt, xv, kv, kc, params, ↓reduceIte, Nat.reduceEqDiff, reduceCtorEq, List.length_cons, List.length_nil, Nat.reduceAdd, Nat.reduceLeDiff, Nat.reduceLT, true_and, List.map_cons, List.map_nil, List.cons_append, List.nil_append, List.getElem?_cons_zero, List.drop_succ_cons, List.drop_zero, List.take_succ_cons, List.take_zero, mens, men, Nat.zero_add, Nat.le_refl, List.length_map, and_self]
  refine kca_intro (sem_isParent sig b p b.nodes.length hr (Nat.le_refl _) hc) ?_
  simp only [r_cons, r_nil, r_kont, r_seq1, r_fn2, r_rt, r_op1, r_go1, r_mv, r_nt, r_nt1, r_fin, r_kfe1, r_kcx, r_exps0, r_exps1, r_kex, r_exp1, r_expv2, ptd, keyOf, freshK, lk, pt, addO, xv, ↓reduceIte, Nat.reduceEqDiff, Nat.reduceMul, reduceCtorEq, List.length_nil, Nat.reduceLT, noSh, isSc, impv, or_true, and_self]

theorem sem_IsBigraph_3 (w : TWire) (b : TBigraph) (he : 0 ≤ b.edges ∧ b.edges ≤ 8) (ho : b.outer.length ≤ 4294967296) (lvl : Nat) (S : Sto) : Sem Go.Proofs.Tryd.prog fid_impl_IsBigraph_3 lvl [.ag ((cWire w).map .tr), .ta (cBigraph b)] S (iB (!dc (linkOK b w.link))) S := by
  refine sem_of_chk k_impl_IsBigraph_3 trivial ?_
  simp only [c_impl_IsBigraph_3, cBigraph, cWire, r_cons, r_nil, r_kont, r_seq1, r_rg, r_sq, r_wpF, r_op1, r_go1, r_mv, r_bt, r_bt1, r_op3, r_fa, r_fa1, r_ltr, r_ld, r_ld1, r_ld4, r_kcn, r_kagn, r_sn0, r_sn1, r_sn3, r_ca, r_ca1, ptd, lk, pt, xv, kv, kc, params, ↓reduceIte, Nat.reduceEqDiff, reduceCtorEq, List.length_cons, List.length_nil, Nat.reduceAdd, Nat.reduceLeDiff, Nat.reduceLT, true_and, List.map_cons, List.map_nil, List.cons_append, List.nil_append, List.getElem?_cons_zero, List.drop_succ_cons, List.drop_zero, List.take_succ_cons, List.take_zero, mens, men, List.all_cons, List.all_nil, isCell, Bool.and_self, cellsOf, totr, totrs, tocs, Nat.zero_add, Nat.le_refl, and_self]
  refine kca_intro (sem_isLink b w.link he ho) ?_
  simp only [r_cons, r_nil, r_kont, r_seq1, r_fn2, r_rt, r_op1, r_go1, r_mv, r_nt, r_nt1, r_fin, r_kfe1, r_kcx, r_exps0, r_exps1, r_kex, r_exp1, r_expv2, ptd, keyOf, freshK, lk, pt, addO, xv, ↓reduceIte, Nat.reduceEqDiff, Nat.reduceMul, reduceCtorEq, List.length_nil, Nat.reduceLT, noSh, isSc, impv, or_true, and_self]

theorem g_ixFI : chkF Go.Proofs.Tryd.prog fid_slices_IndexFunc_int_int (gIxF 1 none) = true := by kernel_rfl
theorem g_coFI : chkF Go.Proofs.Tryd.prog fid_slices_ContainsFunc_int_int (gCoF fid_slices_IndexFunc_int_int) = true := by kernel_rfl
theorem g_ixFW : chkF Go.Proofs.Tryd.prog fid_slices_IndexFunc_impl_Wire_impl_Wire (gIxF 2 (some 2)) = true := by kernel_rfl
theorem g_coFW : chkF Go.Proofs.Tryd.prog fid_slices_ContainsFunc_impl_Wire_impl_Wire (gCoF fid_slices_IndexFunc_impl_Wire_impl_Wire) = true := by kernel_rfl

theorem any_no {α : Type} {l : List α} {p : α → Prop} : (l.any fun n => !dc (p n)) = false ↔ ∀ n ∈ l, p n := by
  simp only [List.any_eq_false, Bool.not_eq_true', Bool.not_eq_false, dc_iff]

theorem sem_impl_IsBigraph (sig : List TControl) (b : TBigraph) (hn : sig.length ≤ 4294967296) (hbs : ∀ y ∈ sig, bdControl 4294967296 y) (hb : bdBigraph 4294967296 b) (lvl : Nat) (S : Sto) : Sem Go.Proofs.Tryd.prog fid_impl_IsBigraph lvl [.tr (.sl (sig.map cControl)), .ag ((cBigraph b).map .tr)] S (iB (dc (bigOK sig b))) S := by
  obtain ⟨b1, b2, b3, b4, b5, b6, b7⟩ := hb
  refine sem_of_chk k_impl_IsBigraph trivial ?_
  simp only [c_impl_IsBigraph, cBigraph, r_cons, r_nil, r_kont, r_seq1, r_rg, r_sq, r_wpF, r_op1, r_go1, r_mv, r_bt, r_bt1, r_op3, r_ltr, r_ld, r_ld1, r_kcn, r_sn0, r_sn1, r_ca, r_ca1, ptd, lk, pt, xv, kv, kc, params, ↓reduceIte, Nat.reduceEqDiff, reduceCtorEq, List.length_cons, List.length_nil, Nat.reduceAdd, Nat.reduceLeDiff, Nat.reduceLT, true_and, List.map_cons, List.map_nil, List.cons_append, List.nil_append, List.getElem?_cons_zero, mens, men, List.all_cons, List.all_nil, isCell, Bool.and_true, Bool.true_and, Bool.and_self, cellsOf, totr, totrs, tocs, Nat.zero_add, and_self]
  refine kca_intro (sem_impl_IsSignature sig (by omega) (fun y hy => monoControl (hbs y hy))) ?_
  cases h1 : dc (sigOK sig)
  · simp only [r_cons, r_nil, r_kont, r_seq1, r_seq3, r_fn2, r_rg, r_sq, r_rt, r_cd, r_cd2, r_op1, r_op1g, r_gd, r_go1, r_mv, r_nt, r_nt1, r_pk, r_pkt, r_fin, r_kfe1, r_kcx, r_exps0, r_exps1, r_kex, r_exp1, r_expv2, ptd, keyOf, freshK, lk, pt, addO, xv, kv, kc, ↓reduceIte, Nat.reduceEqDiff, Nat.reduceMul, reduceCtorEq, List.length_nil, Nat.reduceLT, true_and, and_true, noSh, isSc, impv, or_true, Bool.true_eq_false, Bool.not_false]
    rw [dc_false fun h : bigOK sig b => dc_not.1 h1 h.sg]
  simp only [r_cons, r_kont, r_op1, r_op1g, r_gd, r_go1, r_mv, r_nt, r_nt1, r_op3, r_fa, r_fa1, r_ltr, r_ld, r_ld1, r_kcn, r_sn0, r_sn1, r_ca, r_ca1, ptd, keyOf, freshK, lk, pt, addO, xv, kv, kc, ↓reduceIte, Nat.reduceEqDiff, Nat.reduceMul, reduceCtorEq, List.length_nil, Nat.reduceLT, true_and, List.map_cons, List.map_nil, List.cons_append, List.nil_append, List.getElem?_cons_zero, List.drop_zero, mens, men, noSh, isSc, impv, or_true, Bool.not_true, and_self]
  refine kca_intro (sem_within b.roots 0 4) ?_
  cases h2 : inB b.roots 0 4
  · simp only [r_cons, r_nil, r_kont, r_seq1, r_seq3, r_fn2, r_rg, r_sq, r_rt, r_cd, r_cd2, r_op1, r_op1g, r_gd, r_go1, r_mv, r_nt, r_nt1, r_pk, r_pkt, r_pkf, r_fin, r_kfe1, r_kcx, r_exps0, r_exps1, r_kex, r_exp1, r_expv2, ptd, keyOf, freshK, lk, pt, addO, xv, kv, kc, ↓reduceIte, Nat.reduceEqDiff, Nat.reduceMul, reduceCtorEq, List.length_nil, Nat.reduceLT, true_and, and_true, noSh, isSc, impv, or_true, Bool.true_eq_false, Bool.not_false]
    rw [dc_false fun h : bigOK sig b => inB_not.1 h2 h.roots]
  by_cases h3 : (8 : Int) < b.nodes.length
  · simp only [h3, List.length_map, r_cons, r_nil, r_kont, r_seq1, r_seq3, r_fn2, r_rg, r_sq, r_rt, r_cd, r_cd2, r_op1, r_op1g, r_gd, r_go1, r_mv, r_bi, r_gti, r_nt, r_nt1, r_ln, r_ln1, r_pk, r_pkt, r_pkf, r_op3, r_fa, r_fa1, r_ltr, r_ld, r_ld1, r_fin, r_kfe1, r_kcx, r_exps0, r_exps1, r_kex, r_exp1, r_expv2, ptd, keyOf, freshK, lk, pt, addO, xv, kv, kc, ↓reduceIte, Nat.reduceEqDiff, Nat.reduceMul, reduceCtorEq, List.length_nil, Nat.reduceLT, true_and, and_true, decide_true, List.getElem?_cons_zero, List.drop_succ_cons, List.drop_zero, noSh, isSc, impv, or_true, Bool.true_eq_false, Bool.not_true, Bool.not_false, List.length_map]
    rw [dc_false fun h : bigOK sig b => by have := h.nodesL; omega]
  by_cases h4 : (4 : Int) < b.sites.length
  · simp only [h3, h4, List.length_map, r_cons, r_nil, r_kont, r_seq1, r_seq3, r_fn2, r_rg, r_sq, r_rt, r_cd, r_cd2, r_op1, r_op1g, r_gd, r_go1, r_mv, r_bi, r_gti, r_nt, r_nt1, r_ln, r_ln1, r_pk, r_pkt, r_pkf, r_op3, r_fa, r_fa1, r_ltr, r_ld, r_ld1, r_fin, r_kfe1, r_kcx, r_exps0, r_exps1, r_kex, r_exp1, r_expv2, ptd, keyOf, freshK, lk, pt, addO, xv, kv, kc, ↓reduceIte, Nat.reduceEqDiff, Nat.reduceMul, reduceCtorEq, List.length_nil, Nat.reduceLT, true_and, and_true, decide_true, decide_false, List.getElem?_cons_zero, List.drop_succ_cons, List.drop_zero, noSh, isSc, impv, or_true, Bool.true_eq_false, Bool.not_true, Bool.not_false, List.length_map]
    rw [dc_false fun h : bigOK sig b => by have := h.sitesL; omega]
  simp only [h3, h4, List.length_map, r_cons, r_kont, r_op1, r_op1g, r_gd, r_go1, r_mv, r_bi, r_gti, r_nt, r_nt1, r_ln, r_ln1, r_pk, r_pkf, r_op3, r_fa, r_fa1, r_ltr, r_ld, r_ld1, r_kcn, r_sn0, r_sn1, r_ca, r_ca1, ptd, keyOf, freshK, lk, pt, addO, xv, kv, kc, ↓reduceIte, Nat.reduceEqDiff, Nat.reduceMul, reduceCtorEq, List.length_nil, Nat.reduceLT, true_and, decide_false, List.map_cons, List.map_nil, List.cons_append, List.nil_append, List.getElem?_cons_zero, List.drop_succ_cons, List.drop_zero, mens, men, noSh, isSc, impv, or_true, Bool.not_true, List.length_map, and_self]
  refine kca_intro (sem_within b.edges 0 8) ?_
  cases h5 : inB b.edges 0 8
  · simp only [r_cons, r_nil, r_kont, r_seq1, r_seq3, r_fn2, r_rg, r_sq, r_rt, r_cd, r_cd2, r_op1, r_op1g, r_gd, r_go1, r_mv, r_nt, r_nt1, r_pk, r_pkt, r_pkf, r_fin, r_kfe1, r_kcx, r_exps0, r_exps1, r_kex, r_exp1, r_expv2, ptd, keyOf, freshK, lk, pt, addO, xv, kv, kc, ↓reduceIte, Nat.reduceEqDiff, Nat.reduceMul, reduceCtorEq, List.length_nil, Nat.reduceLT, true_and, and_true, noSh, isSc, impv, or_true, Bool.true_eq_false, Bool.not_false]
    rw [dc_false fun h : bigOK sig b => inB_not.1 h5 h.edges]
  have r2 := inB_iff.1 h2
  have r5 := inB_iff.1 h5
  simp only [r_cons, r_kont, r_op1, r_op1g, r_gd, r_go1, r_mv, r_nt, r_nt1, r_pk, r_pkf, r_op3, r_fa, r_fa1, r_ltr, r_ld, r_ld1, r_kcn, r_sn0, r_sn1, r_ca, r_ca1, ptd, keyOf, freshK, lk, pt, addO, xv, kv, kc, ↓reduceIte, Nat.reduceEqDiff, Nat.reduceMul, reduceCtorEq, List.length_nil, Nat.reduceLT, true_and, List.map_cons, List.map_nil, List.cons_append, List.nil_append, List.getElem?_cons_zero, List.drop_succ_cons, List.drop_zero, mens, men, noSh, isSc, impv, or_true, Bool.not_true, and_self]
  refine kca_intro (sem_areNames b.outer (by assumption) (by assumption)) ?_
  cases h6 : dc (namesOK b.outer)
  · simp only [r_cons, r_nil, r_kont, r_seq1, r_seq3, r_fn2, r_rg, r_sq, r_rt, r_cd, r_cd2, r_op1, r_op1g, r_gd, r_go1, r_mv, r_nt, r_nt1, r_pk, r_pkt, r_pkf, r_fin, r_kfe1, r_kcx, r_exps0, r_exps1, r_kex, r_exp1, r_expv2, ptd, keyOf, freshK, lk, pt, addO, xv, kv, kc, ↓reduceIte, Nat.reduceEqDiff, Nat.reduceMul, reduceCtorEq, List.length_nil, Nat.reduceLT, true_and, and_true, noSh, isSc, impv, or_true, Bool.true_eq_false, Bool.not_false]
    rw [dc_false fun h : bigOK sig b => dc_not.1 h6 h.outer]
  simp only [r_cons, r_kont, r_op1, r_op1g, r_gd, r_go1, r_mv, r_nt, r_nt1, r_pk, r_pkf, r_ld, r_ld4, r_kcn, r_kagn, r_sn0, r_sn1, r_sn3, r_ca, r_ca1, ptd, keyOf, freshK, lk, pt, addO, xv, kv, kc, ↓reduceIte, Nat.reduceEqDiff, Nat.reduceMul, reduceCtorEq, List.length_cons, List.length_nil, Nat.reduceAdd, Nat.reduceLT, true_and, List.map_cons, List.map_nil, List.cons_append, List.nil_append, List.take_succ_cons, List.take_zero, mens, men, noSh, isSc, impv, or_true, Bool.not_true, Nat.zero_add, Nat.le_refl, and_self]
  refine kca_intro (sem_innerNames b (by omega)) ?_
  simp only [r_cons, r_kont, r_op1g, r_gd, r_kcn, r_sn0, r_sn1, r_ca, r_ca1, ptd, keyOf, freshK, lk, pt, addO, xv, ↓reduceIte, Nat.reduceEqDiff, Nat.reduceMul, reduceCtorEq, List.length_nil, Nat.reduceLT, true_and, List.map_cons, List.map_nil, List.cons_append, List.nil_append, mens, men, noSh, impv, impc, or_true, Bool.false_eq_true, and_self]
  refine kca_intro (sem_areNames (inn b) (by rw [inn_len]; omega) (inn_mem (by assumption))) ?_
  cases h8 : dc (namesOK (inn b))
  · simp only [r_cons, r_nil, r_kont, r_seq1, r_seq3, r_fn2, r_rg, r_sq, r_rt, r_cd, r_cd2, r_op1, r_op1g, r_gd, r_go1, r_mv, r_nt, r_nt1, r_pk, r_pkf, r_fin, r_kfe1, r_kcx, r_exps0, r_exps1, r_kex, r_exp1, r_expv2, ptd, keyOf, freshK, lk, pt, addO, xv, kv, kc, ↓reduceIte, Nat.reduceEqDiff, Nat.reduceMul, reduceCtorEq, List.length_nil, Nat.reduceLT, true_and, and_true, noSh, isSc, impv, or_true, Bool.not_false]
    rw [dc_false fun h : bigOK sig b => dc_not.1 h8 h.inn]
  simp only [List.length_map, r_cons, r_nil, r_kont, r_seq1, r_sk, r_rg, r_sq, r_bl, r_cd, r_cd2, r_op1, r_op1g, r_gd, r_go1, r_mv, r_nt, r_nt1, r_ln, r_ln1, r_pk, r_pkf, r_op3, r_fa, r_fa1, r_ltr, r_ld, r_ld1, ptd, keyOf, freshK, lk, pt, addO, xv, kv, kc, ↓reduceIte, Nat.reduceEqDiff, Nat.reduceMul, reduceCtorEq, List.length_nil, Nat.reduceLT, true_and, List.getElem?_cons_zero, List.drop_succ_cons, List.drop_zero, noSh, isSc, impv, or_true, Bool.false_eq_true, Bool.not_true, List.length_map]
  have ho := (dc_iff.1 h6).2
  refine wp_cnt (α := Unit) b.nodes.length (fun j _ => [(49, iI j)]) (fun j _ => []) (fun j _ => ∀ k, k < j → nodeAt sig b k) () (by simp only [r_clean, r_okm4, r_okm11, r_okE0, r_okE1, r_okL0, ↓reduceIte, Nat.reduceEqDiff, reduceCtorEq, memB, keepB, keepOB, Bool.false_eq_true, and_self]) (by (simp only [r_fgt, r_chg, r_pts0, r_pts1, r_ptOs0, pt, ↓reduceIte, Nat.reduceEqDiff, reduceCtorEq, Nat.reduceLT, memB, keepB, keepOB, Bool.false_eq_true, Int.cast_ofNat_Int]) <;> rfl) (fun k hk => absurd hk (Nat.not_lt_zero k)) ?_
  intro j _ hj hA
  simp only [r_cons, r_nil, r_kont, r_seq1, r_seq2, r_blk2, r_sk, r_rg, r_sq, r_bl, r_ex, r_cd, r_cd2, r_op1, r_go1, r_mv, r_bi, r_lti, r_mf, r_mf1, r_op3, r_fa, r_fa1, r_ixn, r_ia, r_ia1, r_ltr, r_ld, r_ld1, r_kcn, r_kfnn, r_sn0, r_sn1, r_sn4, r_sn5, r_ca, r_ca1, r_fgt, r_round2, r_chg, r_pts0, r_pts1, r_ptOs0, ptd, lk, pt, xv, ↓reduceIte, Nat.reduceEqDiff, reduceCtorEq, Nat.reduceLT, true_and, decide_eq_true_eq, List.map_cons, List.map_nil, List.cons_append, List.nil_append, List.getElem?_cons_zero, List.drop_succ_cons, List.drop_zero, mens, men, memB, keepB, keepOB, Bool.false_eq_true, Int.toNat_natCast, List.all_cons, List.all_nil, isCell, Bool.and_self, Int.natCast_nonneg, and_self]
  refine ite_of (fun hlt => ?_) (fun hge => ?_)
  · have hja : j < b.nodes.length := by omega
    have hm := List.getElem_mem hja
    have ga := getA (c := cNode) hja
    have hll : b.nodes[j].links.length ≤ 4294967296 := by first | exact (b2 _ hm) | exact (b3 _ hm)
    have hno : ¬ nodeOK sig b b.nodes[j] j → dc (bigOK sig b) = false := fun h => dc_false fun g => h (g.nodes j hja)
    simp only [ga, cNode, List.length_map, r_cons, r_nil, r_kont, r_seq1, r_rg, r_sq, r_op1, r_go1, r_mv, r_al, r_bi, r_sub0, r_ln, r_ln1, r_op3, r_fa, r_fa2, r_iae, r_pack, r_setOb, r_ltr, r_lab, r_ld, r_ld1, r_ld2, r_ld4, r_kcn, r_sn0, r_sn1, r_ca, r_ca1, r_st, r_st1, r_stb, r_setAt0, r_setAt1, r_lows0, r_lows1, r_low1, r_lt1, zfill, zobs, ptd, keyOf, freshK, lk, pt, lkO, ptO, addO, xv, kv, kc, ↓reduceIte, Nat.reduceEqDiff, Nat.reduceMul, List.length_cons, List.length_nil, Nat.reduceAdd, Nat.reduceLT, true_and, List.map_cons, List.map_nil, List.cons_append, List.nil_append, List.getElem?_cons_zero, List.take_succ_cons, List.take_zero, mens, men, List.all_cons, List.all_nil, isCell, Bool.and_self, cellsOf, Nat.zero_add, Nat.add_zero, List.set_cons_zero, List.set_cons_succ, Nat.le_refl, List.length_map, and_self]
    refine ⟨by rw [fits_i64]; omega, ?_⟩
    refine kca_intro (sem_within b.nodes[j].control 0 ((sig.length : Int) - 1)) ?_
    cases p1 : inB b.nodes[j].control 0 ((sig.length : Int) - 1)
    · simp only [r_cons, r_nil, r_kont, r_seq1, r_seq3, r_blk3, r_fn2, r_rg, r_sq, r_rt, r_cd, r_cd2, r_op1, r_op1g, r_gd, r_go1, r_mv, r_nt, r_nt1, r_pk, r_pkt, r_fin, r_kfe1, r_kcx, r_exps0, r_exps1, r_kex, r_exp1, r_expv2, r_round3, r_lt1, ptd, keyOf, freshK, lk, pt, addO, xv, kv, kc, ↓reduceIte, Nat.reduceEqDiff, Nat.reduceMul, List.length_nil, Nat.reduceLT, true_and, and_true, noSh, isSc, impv, or_true, Bool.true_eq_false, Bool.not_false]
      rw [hno fun h => inB_not.1 p1 h.ctl]
    have q1 := inB_iff.1 p1
    simp only [r_cons, r_kont, r_op1, r_op1g, r_gd, r_go1, r_mv, r_nt, r_nt1, r_op3, r_fa, r_fa2, r_pack, r_ltr, r_lab, r_ld, r_ld1, r_ld2, r_ld4, r_kcn, r_kagn, r_sn0, r_sn1, r_sn3, r_ca, r_ca1, ptd, keyOf, freshK, lk, pt, lkO, addO, xv, ↓reduceIte, Nat.reduceEqDiff, Nat.reduceMul, List.length_cons, List.length_nil, Nat.reduceAdd, Nat.reduceLT, true_and, List.map_cons, List.map_nil, List.cons_append, List.nil_append, List.getElem?_cons_zero, List.getElem?_cons_succ, List.take_succ_cons, List.take_zero, mens, men, noSh, isSc, impv, or_true, Bool.not_true, Nat.zero_add, Nat.le_refl, and_self]
    refine kca_intro (sem_isParent sig b b.nodes[j].parent j r2 (by omega) (ctls_of hA)) ?_
    cases p2 : dc (under sig b b.nodes[j].parent j)
    · simp only [r_cons, r_nil, r_kont, r_seq1, r_seq3, r_blk3, r_fn2, r_rg, r_sq, r_rt, r_cd, r_cd2, r_op1, r_op1g, r_gd, r_go1, r_mv, r_nt, r_nt1, r_pk, r_pkt, r_pkf, r_fin, r_kfe1, r_kcx, r_exps0, r_exps1, r_kex, r_exp1, r_expv2, r_round3, r_lt1, ptd, keyOf, freshK, lk, pt, addO, xv, kv, kc, ↓reduceIte, Nat.reduceEqDiff, Nat.reduceMul, List.length_nil, Nat.reduceLT, true_and, and_true, noSh, isSc, impv, or_true, Bool.true_eq_false, Bool.not_false]
      rw [hno fun h => dc_not.1 p2 h.par]
    obtain ⟨m, hmm⟩ : ∃ m : Nat, b.nodes[j].control = m := ⟨b.nodes[j].control.toNat, by omega⟩
    have hms : m < sig.length := by omega
    have gs := getA (c := cControl) hms
    have e : portsAt sig b.nodes[j].control = sig[m].ports := by simp [portsAt, hmm, hms]
    by_cases p3 : (b.nodes[j].links.length : Int) = sig[m].ports
    case neg =>
      simp only [p3, hmm, gs, Int.toNat_natCast, Int.natCast_nonneg, cControl, List.length_map, r_cons, r_nil, r_kont, r_seq1, r_seq3, r_blk3, r_fn2, r_rg, r_sq, r_rt, r_cd, r_cd2, r_op1, r_op1g, r_gd, r_go1, r_mv, r_bi, r_nei, r_nt, r_nt1, r_ln, r_ln1, r_pk, r_pkt, r_pkf, r_op3, r_fa, r_fa1, r_fa2, r_ixn, r_ia, r_iae, r_ia1, r_pack, r_ltr, r_lab, r_ld, r_ld1, r_ld2, r_fin, r_kfe1, r_kcx, r_exps0, r_exps1, r_kex, r_exp1, r_expv2, r_round3, r_lt1, ptd, keyOf, freshK, lk, pt, lkO, addO, xv, kv, kc, ↓reduceIte, Nat.reduceEqDiff, Nat.reduceMul, List.length_cons, List.length_nil, Nat.reduceAdd, Nat.reduceLT, true_and, and_true, decide_true, List.getElem?_cons_zero, List.getElem?_cons_succ, List.drop_succ_cons, List.drop_zero, noSh, isSc, impv, or_true, Bool.true_eq_false, Bool.not_true, Bool.not_false, Int.toNat_natCast, Nat.zero_add, Nat.add_zero, Int.natCast_nonneg, ne_eq, not_false_eq_true, List.length_map]
      rw [hno fun h => p3 (by rw [← e]; exact h.ports)]
    simp only [p3, hmm, gs, Int.toNat_natCast, Int.natCast_nonneg, cControl, List.length_map, r_cons, r_kont, r_op1, r_op1g, r_gd, r_go1, r_mv, r_bi, r_nei, r_nt, r_nt1, r_mf, r_mf1, r_ln, r_ln1, r_pk, r_pkf, r_op3, r_fa, r_fa1, r_fa2, r_ixn, r_ia, r_iae, r_ia1, r_pack, r_ltr, r_lab, r_ld, r_ld1, r_ld2, r_kcn, r_kfnn, r_sn0, r_sn1, r_sn4, r_sn5, r_ca, r_ca1, ptd, keyOf, freshK, lk, pt, lkO, addO, xv, kv, kc, ↓reduceIte, Nat.reduceEqDiff, Nat.reduceMul, List.length_cons, List.length_nil, Nat.reduceAdd, Nat.reduceLT, true_and, decide_false, List.map_cons, List.map_nil, List.cons_append, List.nil_append, List.getElem?_cons_zero, List.getElem?_cons_succ, List.drop_succ_cons, List.drop_zero, mens, men, noSh, isSc, impv, or_true, Bool.not_true, Int.toNat_natCast, List.all_cons, List.all_nil, isCell, Bool.and_self, Nat.zero_add, Nat.add_zero, Int.natCast_nonneg, ne_eq, not_true_eq_false, List.length_map, and_self]
    refine kca_intro (sem_coF1 (t := tv) (cs := [cBigraph b]) g_coFI g_ixFI b.nodes[j].links (by omega) (fun x _ lvl S => sem_IsBigraph_1 x b r5 (by omega) lvl S)) ?_
    cases p4 : b.nodes[j].links.any fun l => !dc (linkOK b l)
    · simp only [r_cons, r_nil, r_kont, r_seq1, r_blk1, r_sk, r_rg, r_cd, r_cd2, r_op1, r_go1, r_mv, r_bi, r_add0, r_pk, r_pkf, r_fgt, r_clean, r_okm4, r_okm11, r_okE0, r_okE1, r_okL0, r_round1, ptd, keyOf, freshK, lk, pt, addO, xv, kv, kc, ↓reduceIte, Nat.reduceEqDiff, Nat.reduceMul, List.length_nil, Nat.reduceLT, true_and, noSh, isSc, impv, memB, keepB, keepOB, or_true, Bool.false_eq_true, and_self]
      exact ⟨by rw [fits_i64]; omega, cntJ_intro () hja rfl (allN hA fun _ => ⟨q1, dc_iff.1 p2, by rw [e]; exact p3, any_no.1 p4⟩)⟩
    · simp only [r_cons, r_nil, r_kont, r_seq1, r_seq3, r_blk3, r_fn2, r_rg, r_sq, r_rt, r_cd, r_cd2, r_op1, r_go1, r_mv, r_pk, r_pkf, r_fin, r_kfe1, r_kcx, r_exps0, r_exps1, r_kex, r_exp1, r_expv2, r_round3, r_lt1, ptd, keyOf, freshK, lk, pt, addO, xv, kv, kc, ↓reduceIte, Nat.reduceEqDiff, Nat.reduceMul, List.length_nil, Nat.reduceLT, true_and, and_true, noSh, isSc, impv, or_true]
      rw [hno fun h => by rw [any_no.2 h.links] at p4; cases p4]
  have hj1 : j = b.nodes.length := by omega
  subst hj1
  refine kca_intro (sem_coF1 (t := tv) (cs := [cBigraph b, [Tr.sl (sig.map cControl)]]) g_coFI g_ixFI b.sites (by omega) (fun x _ lvl S => sem_IsBigraph_2 x sig b r2 (ctls_of hA) lvl S)) ?_
  cases h9 : b.sites.any fun p => !dc (under sig b p b.nodes.length)
  case true =>
    simp only [r_cons, r_nil, r_kont, r_seq1, r_fn2, r_rt, r_op1, r_op1g, r_gd, r_go1, r_mv, r_nt, r_nt1, r_pk, r_pkf, r_fin, r_kfe1, r_kcx, r_exps0, r_exps1, r_kex, r_exp1, r_expv2, ptd, keyOf, freshK, lk, pt, addO, xv, kv, kc, ↓reduceIte, Nat.reduceEqDiff, Nat.reduceMul, List.length_nil, Nat.reduceLT, true_and, and_true, noSh, isSc, impv, or_true, Bool.false_eq_true, Bool.not_true]
    rw [dc_false fun h : bigOK sig b => by rw [any_no.2 h.sites] at h9; cases h9]
  simp only [r_cons, r_kont, r_op1, r_op1g, r_gd, r_go1, r_mv, r_nt, r_nt1, r_mf, r_mf1, r_op3, r_fa, r_fa1, r_ltr, r_ld, r_ld1, r_kcn, r_kfnn, r_sn0, r_sn1, r_sn4, r_sn5, r_ca, r_ca1, ptd, keyOf, freshK, lk, pt, addO, xv, ↓reduceIte, Nat.reduceEqDiff, Nat.reduceMul, List.length_nil, Nat.reduceLT, true_and, List.map_cons, List.map_nil, List.cons_append, List.nil_append, List.getElem?_cons_zero, List.drop_succ_cons, List.drop_zero, mens, men, noSh, isSc, impv, or_true, Bool.not_false, List.all_cons, List.all_nil, isCell, Bool.and_self, and_self]
  refine kca_intro (sem_coFk (cs := [cBigraph b]) g_coFW g_ixFW (fun x => rfl) b.inner (by omega) (fun x _ lvl S => sem_IsBigraph_3 x b r5 (by omega) lvl S)) ?_
  cases h10 : b.inner.any fun w => !dc (linkOK b w.link)
  case true =>
    simp only [r_cons, r_nil, r_kont, r_seq1, r_fn2, r_rt, r_op1, r_op1g, r_gd, r_go1, r_mv, r_nt, r_nt1, r_pk, r_pkt, r_fin, r_kfe1, r_kcx, r_exps0, r_exps1, r_kex, r_exp1, r_expv2, ptd, keyOf, freshK, lk, pt, addO, xv, kv, kc, ↓reduceIte, Nat.reduceEqDiff, Nat.reduceMul, List.length_nil, Nat.reduceLT, true_and, and_true, noSh, isSc, impv, or_true, Bool.not_true]
    rw [dc_false fun h : bigOK sig b => by rw [(any_no (p := fun w : TWire => linkOK b w.link)).2 h.inner] at h10; cases h10]
  simp only [r_cons, r_nil, r_kont, r_seq1, r_fn2, r_rt, r_op1, r_op1g, r_gd, r_go1, r_mv, r_nt, r_nt1, r_pk, r_pkt, r_fin, r_kfe1, r_kcx, r_exps0, r_exps1, r_kex, r_exp1, r_expv2, ptd, keyOf, freshK, lk, pt, addO, xv, kv, kc, ↓reduceIte, Nat.reduceEqDiff, Nat.reduceMul, List.length_nil, Nat.reduceLT, true_and, and_true, noSh, isSc, impv, or_true, Bool.not_false]
  have : bigOK sig b := ⟨dc_iff.1 h1, r2, by omega, by omega, r5, dc_iff.1 h6, dc_iff.1 h8, fun i h => hA i h h, any_no.1 h9, any_no.1 h10⟩
  rw [dc_true this]
end Go.Fd

/-
  CHILDREN, POINTS, REDEXES, BOTH SIDES. Own work.
-/
namespace Go.Fd
set_option maxRecDepth 20000

theorem rI_app (a b : List Int) : rI (a ++ b) = rI a ++ rI b := List.map_append

/-- The numbers below n that pass a test. -/
def colI (f : Nat → Prop) [DecidablePred f] : Nat → List Int
  | 0 => []
  | j + 1 => if f j then colI f j ++ [(j : Int)] else colI f j

theorem colI_le {f : Nat → Prop} [DecidablePred f] : ∀ {j : Nat}, (colI f j).length ≤ j
  | 0 => Nat.le_refl 0
  | j + 1 => by
    unfold colI
    have := colI_le (f := f) (j := j)
    split
    · rw [List.length_append, List.length_singleton]; omega
    · omega
theorem colI_yes {f : Nat → Prop} [DecidablePred f] {j : Nat} (h : f j) : colI f (j + 1) = colI f j ++ [(j : Int)] := by rw [colI, if_pos h]
theorem colI_no {f : Nat → Prop} [DecidablePred f] {j : Nat} (h : ¬ f j) : colI f (j + 1) = colI f j := by rw [colI, if_neg h]

def parAt (b : TBigraph) (j : Nat) : Int := ((b.nodes[j]?).map TNode.parent).getD 0
theorem parAt_eq {b : TBigraph} {j : Nat} (h : j < b.nodes.length) : parAt b j = b.nodes[j].parent := by simp [parAt, h]

abbrev kidsN (b : TBigraph) (p : Int) : Nat → List Int := colI fun j => parAt b j = p
abbrev holesN (b : TBigraph) (p : Int) : Nat → List Int := colI fun j => g0 b.sites j = p
def kids (b : TBigraph) (p : Int) : List Int := kidsN b p b.nodes.length
def holes (b : TBigraph) (p : Int) : List Int := holesN b p b.sites.length

theorem sem_l2Kids (b : TBigraph) (p : Int) (hl : b.nodes.length ≤ 4294967296) (lvl : Nat) (S : Sto) : Sem Go.Proofs.Tryd.prog fid_spec_l2Kids lvl [.ag ((cBigraph b).map .tr), iI p] S (.ow 1 (rI (kids b p)) true) S := by
  refine sem_of_chk k_spec_l2Kids trivial ?_
  simp only [c_spec_l2Kids, cBigraph, r_cons, r_nil, r_kont, r_seq1, r_rg, r_sq, r_bl, r_wpF, r_op1, r_mv, r_bt, r_bt1, r_bs, r_fills0, r_kfill, r_lt1, ptd, keyOf, freshK, lk, pt, lkO, ptO, xv, kv, kc, params, ↓reduceIte, Nat.reduceEqDiff, Nat.reduceMul, reduceCtorEq, List.length_cons, List.length_nil, Nat.reduceAdd, Nat.reduceLeDiff, Nat.reduceLT, true_and, List.map_cons, List.map_nil, List.all_cons, List.all_nil, isCell, Bool.and_true, Bool.true_and, Bool.and_self, cellsOf, totr, totrs, tocs, Nat.zero_add, List.replicate_zero, and_self]
  refine wp_cnt (α := Unit) b.nodes.length (fun j _ => [(5, .hd (lvl, 224) [] 0 (kidsN b p j).length none (kidsN b p j).length), (6, iI j)]) (fun j _ => [(224, .ar 1 (rI (kidsN b p j)) true (kidsN b p j).length 0)]) (fun _ _ => True) () (by simp only [r_clean, r_okm1, r_okm4, r_okm11, r_okE0, r_okE1, r_okL0, r_okL2, ↓reduceIte, Nat.reduceEqDiff, reduceCtorEq, memB, keepB, keepOB, Bool.false_eq_true, and_self]) (by (simp only [r_fgt, r_chg, r_pts0, r_pts1, r_ptOs0, r_ptOs1, pt, ptO, ↓reduceIte, Nat.reduceEqDiff, reduceCtorEq, Nat.reduceLT, memB, keepB, keepOB, Bool.false_eq_true, Int.cast_ofNat_Int]) <;> rfl) trivial ?_
  intro j _ hj _
  simp only [List.length_map, r_cons, r_nil, r_kont, r_seq1, r_seq2, r_blk2, r_fn2, r_sk, r_rg, r_sq, r_bl, r_ex, r_rt, r_cd, r_cd2, r_op1, r_go1, r_mv, r_bi, r_lti, r_ln, r_ln1, r_op3, r_fa, r_fa1, r_ixn, r_ia, r_ia1, r_kill, r_ltr, r_ld, r_ld1, r_fin, r_kfe1, r_kcx, r_exps0, r_exps1, r_kex, r_exp1, r_expv4, r_expc7, r_exh1, r_fgt, r_round2, r_chg, r_pts0, r_pts1, r_ptOs0, r_ptOs1, r_lt1, ptd, lk, pt, lkO, ptO, xv, ↓reduceIte, Nat.reduceEqDiff, reduceCtorEq, Nat.reduceLT, true_and, and_true, decide_eq_true_eq, List.getElem?_cons_zero, List.drop_succ_cons, List.drop_zero, List.headD_cons, memB, keepB, keepOB, Bool.false_eq_true, scrE, scrL, scr, rmO, Int.toNat_natCast, Int.natCast_nonneg, List.length_map]
  refine ite_of (fun hlt => ?_) (fun hge => ?_)
  · have hja : j < b.nodes.length := by omega
    have ga := getA (c := cNode) hja
    have hle : (kidsN b p j).length ≤ j := colI_le
    simp only [ga, cNode, List.length_map, r_cons, r_nil, r_kont, r_seq1, r_blk1, r_sk, r_rg, r_cd, r_cd2, r_op1, r_go1, r_mv, r_bs, r_fills0, r_fills1, r_fl2, r_kfill, r_bi, r_add0, r_eqi, r_op3, r_fa, r_fa1, r_iae, r_rde, r_rd3, r_stamp0, r_pack, r_ltr, r_ld, r_ld1, r_fgt, r_clean, r_okm1, r_okm4, r_okm11, r_okE0, r_okE1, r_okL0, r_okL2, r_round1, r_apgo, r_apx2, r_aph, r_ap, r_kap, r_ap0h, r_rep1, r_cut1, r_scr1, r_unr1, r_max, r_lt1, bigN, ptd, keyOf, freshK, lk, pt, lkO, ptO, xv, kv, kc, trv, ↓reduceIte, Nat.reduceEqDiff, Nat.reduceMul, List.length_cons, List.length_nil, Nat.reduceAdd, Nat.reduceLeDiff, Nat.reduceLT, true_and, decide_eq_true_eq, List.map_cons, List.map_nil, List.getElem?_cons_zero, List.drop_succ_cons, List.drop_zero, isSc, memB, keepB, keepOB, Bool.false_eq_true, List.all_cons, List.all_nil, isCell, Bool.and_self, cellsOf, totr, totrs, tocs, getp, Nat.zero_add, List.set_cons_zero, Nat.le_refl, List.length_map, and_self]
    refine ite_of (fun he => ?_) (fun hne => ?_)
    · refine ⟨by omega, by rw [fits_i64]; omega, cntJ_intro () hja ?_ trivial⟩
      rw [kidsN, colI_yes (by rw [parAt_eq hja]; exact he), List.length_append, rI_app]
      rfl
    · refine ⟨by rw [fits_i64]; omega, cntJ_intro () hja ?_ trivial⟩
      rw [kidsN, colI_no (by rw [parAt_eq hja]; exact hne)]
      rfl
  · have : j = b.nodes.length := by omega
    subst this
    rfl

theorem sem_l2Holes (b : TBigraph) (p : Int) (hl : b.sites.length ≤ 4294967296) (lvl : Nat) (S : Sto) : Sem Go.Proofs.Tryd.prog fid_spec_l2Holes lvl [.ag ((cBigraph b).map .tr), iI p] S (.ow 1 (rI (holes b p)) true) S := by
  refine sem_of_chk k_spec_l2Holes trivial ?_
  simp only [c_spec_l2Holes, cBigraph, r_cons, r_nil, r_kont, r_seq1, r_rg, r_sq, r_bl, r_wpF, r_op1, r_mv, r_bt, r_bt1, r_bs, r_fills0, r_kfill, r_lt1, ptd, keyOf, freshK, lk, pt, lkO, ptO, xv, kv, kc, params, ↓reduceIte, Nat.reduceEqDiff, Nat.reduceMul, reduceCtorEq, List.length_cons, List.length_nil, Nat.reduceAdd, Nat.reduceLeDiff, Nat.reduceLT, true_and, List.map_cons, List.map_nil, List.all_cons, List.all_nil, isCell, Bool.and_true, Bool.true_and, Bool.and_self, cellsOf, totr, totrs, tocs, Nat.zero_add, List.replicate_zero, and_self]
  refine wp_cnt (α := Unit) b.sites.length (fun j _ => [(5, .hd (lvl, 224) [] 0 (holesN b p j).length none (holesN b p j).length), (6, iI j)]) (fun j _ => [(224, .ar 1 (rI (holesN b p j)) true (holesN b p j).length 0)]) (fun _ _ => True) () (by simp only [r_clean, r_okm1, r_okm4, r_okm11, r_okE0, r_okE1, r_okL0, r_okL2, ↓reduceIte, Nat.reduceEqDiff, reduceCtorEq, memB, keepB, keepOB, Bool.false_eq_true, and_self]) (by (simp only [r_fgt, r_chg, r_pts0, r_pts1, r_ptOs0, r_ptOs1, pt, ptO, ↓reduceIte, Nat.reduceEqDiff, reduceCtorEq, Nat.reduceLT, memB, keepB, keepOB, Bool.false_eq_true, Int.cast_ofNat_Int]) <;> rfl) trivial ?_
  intro j _ hj _
  simp only [List.length_map, r_cons, r_nil, r_kont, r_seq1, r_seq2, r_blk2, r_fn2, r_sk, r_rg, r_sq, r_bl, r_ex, r_rt, r_cd, r_cd2, r_op1, r_go1, r_mv, r_bi, r_lti, r_ln, r_ln1, r_op3, r_fa, r_fa1, r_ixn, r_ia, r_ia1, r_kill, r_ltr, r_ld, r_ld1, r_fin, r_kfe1, r_kcx, r_exps0, r_exps1, r_kex, r_exp1, r_expv4, r_expc7, r_exh1, r_fgt, r_round2, r_chg, r_pts0, r_pts1, r_ptOs0, r_ptOs1, r_lt1, ptd, lk, pt, lkO, ptO, xv, ↓reduceIte, Nat.reduceEqDiff, reduceCtorEq, Nat.reduceLT, true_and, and_true, decide_eq_true_eq, List.getElem?_cons_zero, List.drop_succ_cons, List.drop_zero, List.headD_cons, memB, keepB, keepOB, Bool.false_eq_true, scrE, scrL, scr, rmO, Int.toNat_natCast, Int.natCast_nonneg, List.length_map]
  refine ite_of (fun hlt => ?_) (fun hge => ?_)
  · have hja : j < b.sites.length := by omega
    have ga := rI_get hja
    have hle : (holesN b p j).length ≤ j := colI_le
    simp only [ga, List.length_map, r_cons, r_nil, r_kont, r_seq1, r_blk1, r_sk, r_rg, r_cd, r_cd2, r_op1, r_go1, r_mv, r_bs, r_fills0, r_fills1, r_fl2, r_kfill, r_bi, r_add0, r_eqi, r_op3, r_iae, r_rde, r_rd3, r_stamp0, r_pack, r_ltr, r_ld, r_ld1, r_fgt, r_clean, r_okm1, r_okm4, r_okm11, r_okE0, r_okE1, r_okL0, r_okL2, r_round1, r_apgo, r_apx2, r_aph, r_ap, r_kap, r_ap0h, r_rep1, r_cut1, r_scr1, r_unr1, r_max, r_lt1, bigN, ptd, keyOf, freshK, lk, pt, lkO, ptO, xv, kv, kc, trv, ↓reduceIte, Nat.reduceEqDiff, Nat.reduceMul, List.length_cons, List.length_nil, Nat.reduceLeDiff, Nat.reduceLT, true_and, decide_eq_true_eq, List.map_cons, List.map_nil, List.getElem?_cons_zero, isSc, memB, keepB, keepOB, Bool.false_eq_true, List.all_cons, List.all_nil, isCell, Bool.and_self, cellsOf, totr, totrs, tocs, getp, Nat.zero_add, List.set_cons_zero, Nat.le_refl, List.length_map, and_self]
    refine ite_of (fun he => ?_) (fun hne => ?_)
    · refine ⟨by omega, by rw [fits_i64]; omega, cntJ_intro () hja ?_ trivial⟩
      rw [holesN, colI_yes (f := fun j => g0 b.sites j = p) he, List.length_append, rI_app]
      rfl
    · refine ⟨by rw [fits_i64]; omega, cntJ_intro () hja ?_ trivial⟩
      rw [holesN, colI_no (f := fun j => g0 b.sites j = p) hne]
      rfl
  · have : j = b.sites.length := by omega
    subst this
    rfl

theorem sem_childrenOf (b : TBigraph) (p : Int) (hn : b.nodes.length ≤ 4294967296) (hl : b.sites.length ≤ 4294967296) (lvl : Nat) (S : Sto) : Sem Go.Proofs.Tryd.prog fid_impl_Bigraph_childrenOf lvl [.ag ((cBigraph b).map .tr), iI p] S (.tu [.ow 1 (rI (kids b p)) true, .ow 1 (rI (holes b p)) true]) S := by
  refine sem_of_chk k_impl_Bigraph_childrenOf ⟨trivial, trivial, trivial⟩ ?_
  simp only [c_impl_Bigraph_childrenOf, cBigraph, List.length_map, r_cons, r_nil, r_kont, r_seq1, r_rg, r_sq, r_bl, r_wpF, r_op1, r_go1, r_mv, r_bt, r_bt1, r_bs, r_fills0, r_kfill, r_ln, r_ln1, r_op3, r_fa, r_fa1, r_ltr, r_ld, r_ld1, ptd, keyOf, freshK, lk, pt, lkO, ptO, xv, kv, kc, params, ↓reduceIte, Nat.reduceEqDiff, Nat.reduceMul, reduceCtorEq, List.length_cons, List.length_nil, Nat.reduceAdd, Nat.reduceLeDiff, Nat.reduceLT, true_and, List.map_cons, List.map_nil, List.getElem?_cons_zero, List.drop_succ_cons, List.drop_zero, List.all_cons, List.all_nil, isCell, Bool.and_true, Bool.true_and, Bool.and_self, cellsOf, totr, totrs, tocs, Nat.zero_add, List.length_map, List.replicate_zero, and_self]
  refine wp_cnt (α := Unit) b.nodes.length (fun j _ => [(6, .hd (lvl, 384) [] 0 (kidsN b p j).length none (kidsN b p j).length), (17, iI j)]) (fun j _ => [(384, .ar 1 (rI (kidsN b p j)) true (kidsN b p j).length 0)]) (fun _ _ => True) () (by simp only [r_clean, r_okm1, r_okm4, r_okm11, r_okE0, r_okE1, r_okL0, r_okL2, ↓reduceIte, Nat.reduceEqDiff, reduceCtorEq, memB, keepB, keepOB, Bool.false_eq_true, and_self]) (by (simp only [r_fgt, r_chg, r_pts0, r_pts1, r_ptOs0, r_ptOs1, pt, ptO, ↓reduceIte, Nat.reduceEqDiff, reduceCtorEq, Nat.reduceLT, memB, keepB, keepOB, Bool.false_eq_true, Int.cast_ofNat_Int]) <;> rfl) trivial ?_
  intro j _ hj _
  simp only [List.length_map, r_cons, r_nil, r_kont, r_seq1, r_seq2, r_blk2, r_sk, r_rg, r_sq, r_bl, r_ex, r_cd, r_cd2, r_op1, r_go1, r_mv, r_bi, r_lti, r_ln, r_ln1, r_op3, r_fa, r_fa1, r_ixn, r_ia, r_ia1, r_ltr, r_ld, r_ld1, r_fgt, r_round2, r_chg, r_pts0, r_pts1, r_ptOs0, r_ptOs1, ptd, lk, pt, ptO, xv, kv, kc, ↓reduceIte, Nat.reduceEqDiff, reduceCtorEq, Nat.reduceLT, true_and, decide_eq_true_eq, List.getElem?_cons_zero, List.drop_succ_cons, List.drop_zero, memB, keepB, keepOB, Bool.false_eq_true, Int.toNat_natCast, Int.natCast_nonneg, List.length_map]
  refine ite_of (fun hlt => ?_) (fun hge => ?_)
  · have hja : j < b.nodes.length := by omega
    have ga := getA (c := cNode) hja
    have hle : (kidsN b p j).length ≤ j := colI_le
    simp only [ga, cNode, List.length_map, r_cons, r_nil, r_kont, r_seq1, r_blk1, r_sk, r_rg, r_sq, r_cd, r_cd2, r_op1, r_go1, r_mv, r_al, r_bs, r_fills0, r_fills1, r_fl2, r_kfill, r_bi, r_add0, r_eqi, r_op3, r_fa, r_fa2, r_iae, r_rde, r_rd3, r_stamp0, r_pack, r_setOb, r_lab, r_ld, r_ld2, r_ld4, r_fgt, r_clean, r_okm1, r_okm4, r_okm11, r_okE0, r_okE1, r_okL0, r_okL2, r_round1, r_st, r_st1, r_stb, r_setAt0, r_setAt1, r_lows0, r_lows1, r_low1, r_apgo, r_apx2, r_aph, r_ap, r_kap, r_ap0h, r_rep1, r_cut1, r_scr1, r_unr1, r_max, r_lt1, bigN, zfill, zobs, ptd, keyOf, freshK, lk, pt, lkO, ptO, addO, xv, kv, kc, trv, ↓reduceIte, Nat.reduceEqDiff, Nat.reduceMul, List.length_cons, List.length_nil, Nat.reduceAdd, Nat.reduceLeDiff, Nat.reduceLT, true_and, decide_eq_true_eq, List.map_cons, List.map_nil, List.getElem?_cons_zero, List.getElem?_cons_succ, List.take_succ_cons, List.take_zero, isSc, memB, keepB, keepOB, Bool.false_eq_true, List.all_cons, List.all_nil, isCell, Bool.and_self, cellsOf, totr, totrs, tocs, getp, Nat.zero_add, Nat.add_zero, List.set_cons_zero, List.set_cons_succ, Nat.le_refl, List.length_map, and_self]
    refine ite_of (fun he => ?_) (fun hne => ?_)
    · refine ⟨by omega, by rw [fits_i64]; omega, cntJ_intro () hja ?_ trivial⟩
      rw [kidsN, colI_yes (by rw [parAt_eq hja]; exact he), List.length_append, rI_app]
      rfl
    · refine ⟨by rw [fits_i64]; omega, cntJ_intro () hja ?_ trivial⟩
      rw [kidsN, colI_no (by rw [parAt_eq hja]; exact hne)]
      rfl
  have : j = b.nodes.length := by omega
  subst this
  refine wp_cnt (α := Unit) b.sites.length (fun j _ => [(7, .hd (lvl, 416) [] 0 (holesN b p j).length none (holesN b p j).length), (34, iI j)]) (fun j _ => [(416, .ar 1 (rI (holesN b p j)) true (holesN b p j).length 0)]) (fun _ _ => True) () (by simp only [r_clean, r_okm1, r_okm4, r_okE0, r_okE1, r_okL0, r_okL2, ↓reduceIte, Nat.reduceEqDiff, memB, keepB, keepOB, Bool.false_eq_true, and_self]) (by (simp only [r_fgt, r_chg, r_pts0, r_pts1, r_ptOs0, r_ptOs1, pt, ptO, ↓reduceIte, Nat.reduceEqDiff, Nat.reduceLT, memB, keepB, keepOB, Bool.false_eq_true, Int.cast_ofNat_Int]) <;> rfl) trivial ?_
  intro j _ hj _
  simp only [List.length_map, r_cons, r_nil, r_kont, r_seq1, r_seq2, r_blk2, r_fn2, r_sk, r_rg, r_sq, r_bl, r_ex, r_rt, r_cd, r_cd2, r_op1, r_go1, r_mv, r_bi, r_lti, r_ixn, r_ia, r_ia1, r_kill, r_fin, r_kfe2, r_kcx, r_exps0, r_exps1, r_kex, r_exp1, r_expv4, r_expc7, r_exh1, r_fgt, r_round2, r_chg, r_pts0, r_pts1, r_ptOs0, r_ptOs1, r_lt1, ptd, lk, pt, lkO, ptO, xv, ↓reduceIte, Nat.reduceEqDiff, Nat.reduceLT, true_and, and_true, decide_eq_true_eq, List.headD_cons, memB, keepB, keepOB, Bool.false_eq_true, scrE, scrL, scr, scrOb, rmO, Int.toNat_natCast, Int.natCast_nonneg, Prod.mk.injEq, List.length_map, and_false]
  refine ite_of (fun hlt => ?_) (fun hge => ?_)
  · have hja : j < b.sites.length := by omega
    have ga := rI_get hja
    have hle : (holesN b p j).length ≤ j := colI_le
    simp only [ga, List.length_map, r_cons, r_nil, r_kont, r_seq1, r_blk1, r_sk, r_rg, r_sq, r_cd, r_cd2, r_op1, r_go1, r_mv, r_bs, r_fills0, r_fills1, r_fl2, r_kfill, r_bi, r_add0, r_eqi, r_op3, r_iae, r_rde, r_rd3, r_stamp0, r_pack, r_ltr, r_ld, r_ld1, r_fgt, r_clean, r_okm1, r_okm4, r_okE0, r_okE1, r_okL0, r_okL2, r_round1, r_apgo, r_apx2, r_aph, r_ap, r_kap, r_ap0h, r_rep1, r_cut1, r_scr1, r_unr1, r_max, r_lt1, bigN, ptd, keyOf, freshK, lk, pt, lkO, ptO, xv, kv, kc, trv, ↓reduceIte, Nat.reduceEqDiff, Nat.reduceMul, List.length_cons, List.length_nil, Nat.reduceLeDiff, Nat.reduceLT, true_and, decide_eq_true_eq, List.map_cons, List.map_nil, List.getElem?_cons_zero, isSc, memB, keepB, keepOB, Bool.false_eq_true, List.all_cons, List.all_nil, isCell, Bool.and_self, cellsOf, totr, totrs, tocs, getp, Nat.zero_add, List.set_cons_zero, Nat.le_refl, List.length_map, and_self]
    refine ite_of (fun he => ?_) (fun hne => ?_)
    · refine ⟨by omega, by rw [fits_i64]; omega, cntJ_intro () hja ?_ trivial⟩
      rw [holesN, colI_yes (f := fun j => g0 b.sites j = p) he, List.length_append, rI_app]
      rfl
    · refine ⟨by rw [fits_i64]; omega, cntJ_intro () hja ?_ trivial⟩
      rw [holesN, colI_no (f := fun j => g0 b.sites j = p) hne]
      rfl
  · have : j = b.sites.length := by omega
    subst this
    rfl

/-! ## points -/
def cP2 (x : Int × Int) : List Tr := [tv x.1, tv x.2]
def rowP (l : Int) (i : Nat) (ls : List Int) : Nat → List (Int × Int)
  | 0 => []
  | k + 1 => if g0 ls k = l then rowP l i ls k ++ [((i : Int), (k : Int))] else rowP l i ls k
theorem rowP_le {l : Int} {i : Nat} {ls : List Int} : ∀ {k : Nat}, (rowP l i ls k).length ≤ k
  | 0 => Nat.le_refl 0
  | k + 1 => by
    unfold rowP
    have := rowP_le (l := l) (i := i) (ls := ls) (k := k)
    split
    · rw [List.length_append, List.length_singleton]; omega
    · omega
theorem rowP_yes {l : Int} {i : Nat} {ls : List Int} {k : Nat} (h : g0 ls k = l) : rowP l i ls (k + 1) = rowP l i ls k ++ [((i : Int), (k : Int))] := by rw [rowP, if_pos h]
theorem rowP_no {l : Int} {i : Nat} {ls : List Int} {k : Nat} (h : ¬ g0 ls k = l) : rowP l i ls (k + 1) = rowP l i ls k := by rw [rowP, if_neg h]

def linksAt (b : TBigraph) (j : Nat) : List Int := ((b.nodes[j]?).map TNode.links).getD []
theorem linksAt_eq {b : TBigraph} {j : Nat} (h : j < b.nodes.length) : linksAt b j = b.nodes[j].links := by simp [linksAt, h]

def portsN (b : TBigraph) (l : Int) : Nat → List (Int × Int)
  | 0 => []
  | i + 1 => portsN b l i ++ rowP l i (linksAt b i) (linksAt b i).length
def ports (b : TBigraph) (l : Int) : List (Int × Int) := portsN b l b.nodes.length

theorem portsN_le {b : TBigraph} {l : Int} (h : ∀ x ∈ b.nodes, x.links.length ≤ 1000) : ∀ {j : Nat}, j ≤ b.nodes.length → (portsN b l j).length ≤ j * 1000
  | 0, _ => Nat.zero_le _
  | j + 1, hj => by
    have ih := portsN_le h (l := l) (j := j) (by omega)
    have h1 := rowP_le (l := l) (i := j) (ls := linksAt b j) (k := (linksAt b j).length)
    have h2 := h _ (List.getElem_mem (show j < b.nodes.length by omega))
    rw [portsN, List.length_append]
    rw [linksAt_eq (by omega)] at h1 ⊢
    omega

def wlAt (b : TBigraph) (j : Nat) : Int := ((b.inner[j]?).map TWire.link).getD 0
def wnAt (b : TBigraph) (j : Nat) : ByteArray := ((b.inner[j]?).map TWire.name).getD ⟨#[]⟩
theorem wlAt_eq {b : TBigraph} {j : Nat} (h : j < b.inner.length) : wlAt b j = b.inner[j].link := by simp [wlAt, h]
theorem wnAt_eq {b : TBigraph} {j : Nat} (h : j < b.inner.length) : wnAt b j = b.inner[j].name := by simp [wnAt, h]
def endsN (b : TBigraph) (l : Int) : Nat → List ByteArray
  | 0 => []
  | j + 1 => if wlAt b j = l then endsN b l j ++ [wnAt b j] else endsN b l j
theorem endsN_le {b : TBigraph} {l : Int} : ∀ {j : Nat}, (endsN b l j).length ≤ j
  | 0 => Nat.le_refl 0
  | j + 1 => by
    unfold endsN
    have := endsN_le (b := b) (l := l) (j := j)
    split
    · rw [List.length_append, List.length_singleton]; omega
    · omega
theorem endsN_yes {b : TBigraph} {l : Int} {j : Nat} (h : wlAt b j = l) : endsN b l (j + 1) = endsN b l j ++ [wnAt b j] := by rw [endsN, if_pos h]
theorem endsN_no {b : TBigraph} {l : Int} {j : Nat} (h : ¬ wlAt b j = l) : endsN b l (j + 1) = endsN b l j := by rw [endsN, if_neg h]
def ends (b : TBigraph) (l : Int) : List ByteArray := endsN b l b.inner.length

theorem cP2_app (a b : List (Int × Int)) : (a ++ b).map cP2 = a.map cP2 ++ b.map cP2 := List.map_append

theorem sem_l2Ports (b : TBigraph) (l : Int) (hn : b.nodes.length ≤ 1000) (hk : ∀ x ∈ b.nodes, x.links.length ≤ 1000) (lvl : Nat) (S : Sto) : Sem Go.Proofs.Tryd.prog fid_spec_l2Ports lvl [.ag ((cBigraph b).map .tr), iI l] S (.ow 2 ((ports b l).map cP2) true) S := by
  refine sem_of_chk k_spec_l2Ports trivial ?_
  simp only [c_spec_l2Ports, cBigraph, r_cons, r_nil, r_kont, r_seq1, r_rg, r_sq, r_bl, r_wpF, r_op1, r_mv, r_bt, r_bt1, r_bs, r_fills0, r_kfill, ptd, keyOf, freshK, lk, pt, lkO, ptO, xv, kv, kc, params, ↓reduceIte, Nat.reduceEqDiff, Nat.reduceMul, reduceCtorEq, List.length_cons, List.length_nil, Nat.reduceAdd, Nat.reduceLeDiff, Nat.reduceLT, true_and, List.map_cons, List.map_nil, List.all_cons, List.all_nil, isCell, Bool.and_true, Bool.true_and, Bool.and_self, cellsOf, totr, totrs, tocs, Nat.zero_add, List.replicate_zero, and_self]
  refine wp_cnt (α := Unit) b.nodes.length (fun j _ => [(5, .hd (lvl, 256) [] 0 (portsN b l j).length none (portsN b l j).length), (6, iI j)]) (fun j _ => [(256, .ar 2 ((portsN b l j).map cP2) true (portsN b l j).length 0)]) (fun _ _ => True) () (by simp only [r_clean, r_okm1, r_okm4, r_okm11, r_okE0, r_okE1, r_okL0, r_okL2, ↓reduceIte, Nat.reduceEqDiff, reduceCtorEq, memB, keepB, keepOB, Bool.false_eq_true, and_self]) (by (simp only [r_fgt, r_chg, r_pts0, r_pts1, r_ptOs0, r_ptOs1, pt, ptO, ↓reduceIte, Nat.reduceEqDiff, reduceCtorEq, Nat.reduceLT, memB, keepB, keepOB, Bool.false_eq_true, Int.cast_ofNat_Int]) <;> rfl) trivial ?_
  intro j _ hj _
  simp only [List.length_map, r_cons, r_nil, r_kont, r_seq1, r_seq2, r_blk2, r_fn2, r_sk, r_rg, r_sq, r_bl, r_ex, r_rt, r_cd, r_cd2, r_op1, r_go1, r_mv, r_bi, r_lti, r_ln, r_ln1, r_op3, r_fa, r_fa1, r_kill, r_ltr, r_ld, r_ld1, r_fin, r_kfe1, r_kcx, r_exps0, r_exps1, r_kex, r_exp1, r_expv4, r_expc7, r_exh1, r_fgt, r_round2, r_chg, r_pts0, r_pts1, r_ptOs0, r_ptOs1, r_lt1, ptd, lk, pt, lkO, ptO, xv, kv, kc, ↓reduceIte, Nat.reduceEqDiff, reduceCtorEq, Nat.reduceLT, true_and, and_true, decide_eq_true_eq, List.getElem?_cons_zero, List.drop_succ_cons, List.drop_zero, List.headD_cons, memB, keepB, keepOB, Bool.false_eq_true, scrE, scrL, scr, rmO, List.length_map]
  refine ite_of (fun hlt => ?_) (fun hge => ?_)
  · have hja : j < b.nodes.length := by omega
    have ga := getA (c := cNode) hja
    have hle := portsN_le hk (l := l) hj
    have hlk := hk _ (List.getElem_mem hja)
    refine wp_cnt (α := Unit) b.nodes[j].links.length (fun k _ => [(5, .hd (lvl, 256) [] 0 (portsN b l j ++ rowP l j b.nodes[j].links k).length none (portsN b l j ++ rowP l j b.nodes[j].links k).length), (7, iI k)]) (fun k _ => [(256, .ar 2 ((portsN b l j ++ rowP l j b.nodes[j].links k).map cP2) true (portsN b l j ++ rowP l j b.nodes[j].links k).length 0)]) (fun _ _ => True) () (by simp only [r_clean, r_okm1, r_okm4, r_okm11, r_okE0, r_okE1, r_okL0, r_okL2, ↓reduceIte, Nat.reduceEqDiff, memB, keepB, keepOB, Bool.false_eq_true, and_self]) (by (simp only [rowP, List.append_nil, r_fgt, r_chg, r_pts0, r_pts1, r_ptOs0, r_ptOs1, pt, ptO, ↓reduceIte, Nat.reduceEqDiff, Nat.reduceLT, memB, keepB, keepOB, Bool.false_eq_true, Int.cast_ofNat_Int]) <;> rfl) trivial ?_
    intro k _ hkk _
    simp only [ga, cNode, List.length_map, r_cons, r_nil, r_kont, r_seq1, r_seq2, r_blk1, r_blk2, r_sk, r_rg, r_sq, r_bl, r_ex, r_cd, r_cd2, r_op1, r_go1, r_mv, r_bi, r_add0, r_lti, r_ln, r_ln1, r_op3, r_fa, r_fa1, r_ixn, r_ia, r_iae, r_ia1, r_ltr, r_ld, r_ld1, r_fgt, r_clean, r_okm1, r_okm4, r_okm11, r_okE0, r_okE1, r_okL0, r_okL2, r_round1, r_round2, r_chg, r_pts0, r_pts1, r_ptOs0, r_ptOs1, r_lt1, ptd, lk, pt, ptO, xv, kv, kc, ↓reduceIte, Nat.reduceEqDiff, List.length_cons, List.length_nil, Nat.reduceAdd, Nat.reduceLT, true_and, decide_eq_true_eq, List.getElem?_cons_zero, List.drop_succ_cons, List.drop_zero, memB, keepB, keepOB, Bool.false_eq_true, Int.toNat_natCast, Nat.zero_add, Int.natCast_nonneg, List.length_map, and_self]
    refine ite_of (fun hlt2 => ?_) (fun hge2 => ?_)
    · have hka : k < b.nodes[j].links.length := by omega
      have gl := rI_get hka
      have hr := rowP_le (l := l) (i := j) (ls := b.nodes[j].links) (k := k)
      simp only [gl, List.length_map, r_cons, r_nil, r_kont, r_seq1, r_blk1, r_sk, r_rg, r_cd, r_cd2, r_op1, r_go1, r_mv, r_bd, r_bs, r_fills0, r_fills1, r_fl2, r_kfill, r_bi, r_add0, r_eqi, r_op3, r_iae, r_rde, r_rd3, r_stamp0, r_pack, r_ltr, r_ld, r_ld1, r_fgt, r_clean, r_okm1, r_okm4, r_okm11, r_okE0, r_okE1, r_okL0, r_okL2, r_round1, r_setAt0, r_setAt1, r_apgo, r_apx2, r_aph, r_ap, r_kap, r_ap0h, r_rep1, r_cut1, r_scr1, r_unr1, r_max, r_lt1, bigN, fpart, okp, zfill, zobs, ptd, keyOf, freshK, lk, pt, lkO, ptO, addO, xv, kv, kc, trv, ↓reduceIte, Nat.reduceEqDiff, Nat.reduceMul, List.length_cons, List.length_nil, Option.getD_some, Nat.reduceAdd, Nat.reduceLeDiff, Nat.reduceLT, true_and, decide_eq_true_eq, List.map_cons, List.map_nil, List.getElem?_cons_zero, isSc, memB, keepB, keepOB, Bool.false_eq_true, List.all_cons, List.all_nil, isCell, Bool.and_self, cellsOf, totr, totrs, tocs, getp, Nat.zero_add, List.set_cons_zero, List.set_cons_succ, Nat.le_refl, List.length_map, and_self]
      refine ite_of (fun he => ?_) (fun hne => ?_)
      · refine ⟨by rw [List.length_append]; omega, by rw [fits_i64]; omega, cntJ_intro () hka ?_ trivial⟩
        rw [rowP_yes he, ← List.append_assoc, List.length_append (bs := [_]), cP2_app (portsN b l j ++ _)]
        rfl
      · refine ⟨by rw [fits_i64]; omega, cntJ_intro () hka ?_ trivial⟩
        rw [rowP_no hne]
        rfl
    · have : k = b.nodes[j].links.length := by omega
      subst this
      refine ⟨by rw [fits_i64]; omega, cntJ_intro () hja ?_ trivial⟩
      rw [portsN, linksAt_eq hja]
      rfl
  · have : j = b.nodes.length := by omega
    subst this
    rfl

theorem sem_l2Ends (b : TBigraph) (l : Int) (hn : b.inner.length ≤ 4294967296) (lvl : Nat) (S : Sto) : Sem Go.Proofs.Tryd.prog fid_spec_l2Ends lvl [.ag ((cBigraph b).map .tr), iI l] S (.ow 1 (rS (ends b l)) true) S := by
  refine sem_of_chk k_spec_l2Ends trivial ?_
  simp only [c_spec_l2Ends, cBigraph, r_cons, r_nil, r_kont, r_seq1, r_rg, r_sq, r_bl, r_wpF, r_op1, r_mv, r_bt, r_bt1, r_bs, r_fills0, r_kfill, r_lt1, ptd, keyOf, freshK, lk, pt, lkO, ptO, xv, kv, kc, params, ↓reduceIte, Nat.reduceEqDiff, Nat.reduceMul, reduceCtorEq, List.length_cons, List.length_nil, Nat.reduceAdd, Nat.reduceLeDiff, Nat.reduceLT, true_and, List.map_cons, List.map_nil, List.all_cons, List.all_nil, isCell, Bool.and_true, Bool.true_and, Bool.and_self, cellsOf, totr, totrs, tocs, Nat.zero_add, List.replicate_zero, and_self]
  refine wp_cnt (α := Unit) b.inner.length (fun j _ => [(5, .hd (lvl, 224) [] 0 (endsN b l j).length none (endsN b l j).length), (6, iI j)]) (fun j _ => [(224, .ar 1 (rS (endsN b l j)) true (endsN b l j).length 0)]) (fun _ _ => True) () (by simp only [r_clean, r_okm1, r_okm4, r_okm11, r_okE0, r_okE1, r_okL0, r_okL2, ↓reduceIte, Nat.reduceEqDiff, reduceCtorEq, memB, keepB, keepOB, Bool.false_eq_true, and_self]) (by (simp only [r_fgt, r_chg, r_pts0, r_pts1, r_ptOs0, r_ptOs1, pt, ptO, ↓reduceIte, Nat.reduceEqDiff, reduceCtorEq, Nat.reduceLT, memB, keepB, keepOB, Bool.false_eq_true, Int.cast_ofNat_Int]) <;> rfl) trivial ?_
  intro j _ hj _
  simp only [List.length_map, r_cons, r_nil, r_kont, r_seq1, r_seq2, r_blk2, r_fn2, r_sk, r_rg, r_sq, r_bl, r_ex, r_rt, r_cd, r_cd2, r_op1, r_go1, r_mv, r_bi, r_lti, r_ln, r_ln1, r_op3, r_fa, r_fa1, r_ixn, r_ia, r_ia1, r_kill, r_ltr, r_ld, r_ld1, r_fin, r_kfe1, r_kcx, r_exps0, r_exps1, r_kex, r_exp1, r_expv4, r_expc7, r_exh1, r_fgt, r_round2, r_chg, r_pts0, r_pts1, r_ptOs0, r_ptOs1, r_lt1, ptd, lk, pt, lkO, ptO, xv, ↓reduceIte, Nat.reduceEqDiff, reduceCtorEq, Nat.reduceLT, true_and, and_true, decide_eq_true_eq, List.getElem?_cons_zero, List.drop_succ_cons, List.drop_zero, List.headD_cons, memB, keepB, keepOB, Bool.false_eq_true, scrE, scrL, scr, rmO, Int.toNat_natCast, Int.natCast_nonneg, List.length_map]
  refine ite_of (fun hlt => ?_) (fun hge => ?_)
  · have hja : j < b.inner.length := by omega
    have ga := getA (c := cWire) hja
    have hle := endsN_le (b := b) (l := l) (j := j)
    simp only [ga, cWire, List.length_map, r_cons, r_nil, r_kont, r_seq1, r_blk1, r_sk, r_rg, r_cd, r_cd2, r_op1, r_go1, r_mv, r_bs, r_fills0, r_fills1, r_fl2, r_kfill, r_bi, r_add0, r_eqi, r_op3, r_fa, r_fa1, r_ixn, r_ia, r_iae, r_ia1, r_rde, r_rd3, r_stamp0, r_pack, r_ltr, r_ld, r_ld1, r_fgt, r_clean, r_okm1, r_okm4, r_okm11, r_okE0, r_okE1, r_okL0, r_okL2, r_round1, r_apgo, r_apx2, r_aph, r_ap, r_kap, r_ap0h, r_rep1, r_cut1, r_scr1, r_unr1, r_max, r_lt1, bigN, ptd, keyOf, freshK, lk, pt, lkO, ptO, xv, kv, kc, trv, ↓reduceIte, Nat.reduceEqDiff, Nat.reduceMul, List.length_cons, List.length_nil, Nat.reduceAdd, Nat.reduceLeDiff, Nat.reduceLT, true_and, decide_eq_true_eq, List.map_cons, List.map_nil, List.getElem?_cons_zero, List.drop_succ_cons, List.drop_zero, isSc, memB, keepB, keepOB, Bool.false_eq_true, Int.toNat_natCast, List.all_cons, List.all_nil, isCell, Bool.and_self, cellsOf, totr, totrs, tocs, getp, Nat.zero_add, List.set_cons_zero, Int.natCast_nonneg, Nat.le_refl, List.length_map, and_self]
    refine ite_of (fun he => ?_) (fun hne => ?_)
    · refine ⟨by omega, by rw [fits_i64]; omega, cntJ_intro () hja ?_ trivial⟩
      rw [endsN_yes (by rw [wlAt_eq hja]; exact he), List.length_append, rS_app, wnAt_eq hja]
      rfl
    · refine ⟨by rw [fits_i64]; omega, cntJ_intro () hja ?_ trivial⟩
      rw [endsN_no (by rw [wlAt_eq hja]; exact hne)]
      rfl
  · have : j = b.inner.length := by omega
    subst this
    rfl

theorem sem_pointsOf (b : TBigraph) (l : Int) (hn : b.nodes.length ≤ 1000) (hk : ∀ x ∈ b.nodes, x.links.length ≤ 1000) (hi : b.inner.length ≤ 4294967296) (lvl : Nat) (S : Sto) : Sem Go.Proofs.Tryd.prog fid_impl_Bigraph_pointsOf lvl [.ag ((cBigraph b).map .tr), iI l] S (.tu [.ow 2 ((ports b l).map cP2) true, .ow 1 (rS (ends b l)) true]) S := by
  refine sem_of_chk k_impl_Bigraph_pointsOf ⟨trivial, trivial, trivial⟩ ?_
  simp only [c_impl_Bigraph_pointsOf, cBigraph, List.length_map, r_cons, r_nil, r_kont, r_seq1, r_rg, r_sq, r_bl, r_wpF, r_op1, r_go1, r_mv, r_bt, r_bt1, r_bs, r_fills0, r_kfill, r_ln, r_ln1, r_op3, r_fa, r_fa1, r_ltr, r_ld, r_ld1, ptd, keyOf, freshK, lk, pt, lkO, ptO, xv, kv, kc, params, ↓reduceIte, Nat.reduceEqDiff, Nat.reduceMul, reduceCtorEq, List.length_cons, List.length_nil, Nat.reduceAdd, Nat.reduceLeDiff, Nat.reduceLT, true_and, List.map_cons, List.map_nil, List.getElem?_cons_zero, List.drop_succ_cons, List.drop_zero, List.all_cons, List.all_nil, isCell, Bool.and_true, Bool.true_and, Bool.and_self, cellsOf, totr, totrs, tocs, Nat.zero_add, List.length_map, List.replicate_zero, and_self]
  refine wp_cnt (α := Unit) b.nodes.length (fun j _ => [(6, .hd (lvl, 448) [] 0 (portsN b l j).length none (portsN b l j).length), (19, iI j)]) (fun j _ => [(448, .ar 2 ((portsN b l j).map cP2) true (portsN b l j).length 0)]) (fun _ _ => True) () (by simp only [r_clean, r_okm1, r_okm4, r_okm11, r_okE0, r_okE1, r_okL0, r_okL2, ↓reduceIte, Nat.reduceEqDiff, reduceCtorEq, memB, keepB, keepOB, Bool.false_eq_true, and_self]) (by (simp only [r_fgt, r_chg, r_pts0, r_pts1, r_ptOs0, r_ptOs1, pt, ptO, ↓reduceIte, Nat.reduceEqDiff, reduceCtorEq, Nat.reduceLT, memB, keepB, keepOB, Bool.false_eq_true, Int.cast_ofNat_Int]) <;> rfl) trivial ?_
  intro j _ hj _
  simp only [List.length_map, r_cons, r_nil, r_kont, r_seq1, r_seq2, r_blk2, r_sk, r_rg, r_sq, r_bl, r_ex, r_cd, r_cd2, r_op1, r_go1, r_mv, r_bi, r_lti, r_ln, r_ln1, r_op3, r_fa, r_fa1, r_ixn, r_ia, r_ia1, r_ltr, r_ld, r_ld1, r_fgt, r_round2, r_chg, r_pts0, r_pts1, r_ptOs0, r_ptOs1, ptd, lk, pt, ptO, xv, kv, kc, ↓reduceIte, Nat.reduceEqDiff, reduceCtorEq, Nat.reduceLT, true_and, decide_eq_true_eq, List.getElem?_cons_zero, List.drop_succ_cons, List.drop_zero, memB, keepB, keepOB, Bool.false_eq_true, Int.toNat_natCast, Int.natCast_nonneg, List.length_map]
  refine ite_of (fun hlt => ?_) (fun hge => ?_)
  · have hja : j < b.nodes.length := by omega
    have ga := getA (c := cNode) hja
    have hle := portsN_le hk (l := l) hj
    have hlk := hk _ (List.getElem_mem hja)
    simp only [ga, cNode, List.length_map, r_cons, r_nil, r_kont, r_seq1, r_rg, r_sq, r_bl, r_op1, r_go1, r_mv, r_al, r_ln, r_ln1, r_op3, r_fa, r_fa2, r_iae, r_pack, r_setOb, r_lab, r_ld, r_ld2, r_ld4, r_st, r_st1, r_stb, r_setAt0, r_setAt1, r_lows0, r_lows1, r_low1, r_lt1, zfill, zobs, ptd, keyOf, freshK, lk, pt, lkO, ptO, addO, xv, kv, kc, ↓reduceIte, Nat.reduceEqDiff, Nat.reduceMul, List.length_cons, List.length_nil, Nat.reduceAdd, Nat.reduceLT, true_and, List.map_cons, List.map_nil, List.getElem?_cons_zero, List.getElem?_cons_succ, List.take_succ_cons, List.take_zero, List.all_cons, List.all_nil, isCell, Bool.and_self, cellsOf, Nat.zero_add, Nat.add_zero, List.set_cons_zero, List.set_cons_succ, Nat.le_refl, List.length_map, and_self]
    refine wp_cnt (α := Unit) b.nodes[j].links.length (fun k _ => [(6, .hd (lvl, 448) [] 0 (portsN b l j ++ rowP l j b.nodes[j].links k).length none (portsN b l j ++ rowP l j b.nodes[j].links k).length), (27, iI k)]) (fun k _ => [(448, .ar 2 ((portsN b l j ++ rowP l j b.nodes[j].links k).map cP2) true (portsN b l j ++ rowP l j b.nodes[j].links k).length 0)]) (fun _ _ => True) () (by simp only [r_clean, r_okm1, r_okm4, r_okm11, r_okms0, r_okms1, r_okE0, r_okE1, r_okL0, r_okL1, r_okL2, ↓reduceIte, Nat.reduceEqDiff, memB, keepB, keepOB, Bool.false_eq_true, and_self]) (by (simp only [rowP, List.append_nil, r_fgt, r_chg, r_pts0, r_pts1, r_ptOs0, r_ptOs1, pt, ptO, ↓reduceIte, Nat.reduceEqDiff, Nat.reduceLT, memB, keepB, keepOB, Bool.false_eq_true, Int.cast_ofNat_Int]) <;> rfl) trivial ?_
    intro k _ hkk _
    simp only [r_cons, r_nil, r_kont, r_seq1, r_seq2, r_blk1, r_blk2, r_sk, r_rg, r_sq, r_bl, r_ex, r_cd, r_cd2, r_op1, r_go1, r_mv, r_bi, r_add0, r_lti, r_ixn, r_ia, r_ia1, r_fgt, r_clean, r_okm1, r_okm4, r_okm11, r_okE0, r_okE1, r_okL0, r_okL2, r_round1, r_round2, r_chg, r_pts0, r_pts1, r_ptOs0, r_ptOs1, ptd, lk, pt, ptO, xv, kv, kc, ↓reduceIte, Nat.reduceEqDiff, Nat.reduceLT, true_and, decide_eq_true_eq, memB, keepB, keepOB, Bool.false_eq_true, Int.toNat_natCast, Int.natCast_nonneg, and_self]
    refine ite_of (fun hlt2 => ?_) (fun hge2 => ?_)
    · have hka : k < b.nodes[j].links.length := by omega
      have gl := rI_get hka
      have hr := rowP_le (l := l) (i := j) (ls := b.nodes[j].links) (k := k)
      simp only [gl, List.length_map, r_cons, r_nil, r_kont, r_seq1, r_blk1, r_sk, r_rg, r_sq, r_cd, r_cd2, r_op1, r_go1, r_mv, r_bd, r_bs, r_fills0, r_fills1, r_fl2, r_kfill, r_bi, r_add0, r_eqi, r_op3, r_iae, r_rde, r_rd3, r_stamp0, r_pack, r_ltr, r_ld, r_ld1, r_fgt, r_clean, r_okm1, r_okm4, r_okm11, r_okms0, r_okms1, r_okE0, r_okE1, r_okL0, r_okL1, r_okL2, r_round1, r_setAt0, r_setAt1, r_apgo, r_apx2, r_aph, r_ap, r_kap, r_ap0h, r_rep1, r_cut1, r_scr1, r_unr1, r_max, r_lt1, bigN, fpart, okp, zfill, zobs, ptd, keyOf, freshK, lk, pt, lkO, ptO, addO, xv, kv, kc, trv, ↓reduceIte, Nat.reduceEqDiff, Nat.reduceMul, List.length_cons, List.length_nil, Option.getD_some, Nat.reduceAdd, Nat.reduceLeDiff, Nat.reduceLT, true_and, decide_eq_true_eq, List.map_cons, List.map_nil, List.getElem?_cons_zero, isSc, memB, keepB, keepOB, Bool.false_eq_true, List.all_cons, List.all_nil, isCell, Bool.and_self, cellsOf, totr, totrs, tocs, getp, Nat.zero_add, List.set_cons_zero, List.set_cons_succ, Nat.le_refl, List.length_map, and_self]
      refine ite_of (fun he => ?_) (fun hne => ?_)
      · refine ⟨by rw [List.length_append]; omega, by rw [fits_i64]; omega, cntJ_intro () hka ?_ trivial⟩
        rw [rowP_yes he, ← List.append_assoc, List.length_append (bs := [_]), cP2_app (portsN b l j ++ _)]
        rfl
      · refine ⟨by rw [fits_i64]; omega, cntJ_intro () hka ?_ trivial⟩
        rw [rowP_no hne]
        rfl
    · have : k = b.nodes[j].links.length := by omega
      subst this
      refine ⟨by rw [fits_i64]; omega, cntJ_intro () hja ?_ trivial⟩
      rw [portsN, linksAt_eq hja]
      rfl
  have : j = b.nodes.length := by omega
  subst this
  refine wp_cnt (α := Unit) b.inner.length (fun j _ => [(7, .hd (lvl, 480) [] 0 (endsN b l j).length none (endsN b l j).length), (46, iI j)]) (fun j _ => [(480, .ar 1 (rS (endsN b l j)) true (endsN b l j).length 0)]) (fun _ _ => True) () (by simp only [r_clean, r_okm1, r_okm4, r_okE0, r_okE1, r_okL0, r_okL2, ↓reduceIte, Nat.reduceEqDiff, memB, keepB, keepOB, Bool.false_eq_true, and_self]) (by (simp only [r_fgt, r_chg, r_pts0, r_pts1, r_ptOs0, r_ptOs1, pt, ptO, ↓reduceIte, Nat.reduceEqDiff, Nat.reduceLT, memB, keepB, keepOB, Bool.false_eq_true, Int.cast_ofNat_Int]) <;> rfl) trivial ?_
  intro j _ hj _
  simp only [List.length_map, r_cons, r_nil, r_kont, r_seq1, r_seq2, r_blk2, r_fn2, r_sk, r_rg, r_sq, r_bl, r_ex, r_rt, r_cd, r_cd2, r_op1, r_go1, r_mv, r_bi, r_lti, r_ixn, r_ia, r_ia1, r_kill, r_fin, r_kfe2, r_kcx, r_exps0, r_exps1, r_kex, r_exp1, r_expv4, r_expc7, r_exh1, r_fgt, r_round2, r_chg, r_pts0, r_pts1, r_ptOs0, r_ptOs1, r_lt1, ptd, lk, pt, lkO, ptO, xv, ↓reduceIte, Nat.reduceEqDiff, Nat.reduceLT, true_and, and_true, decide_eq_true_eq, List.headD_cons, memB, keepB, keepOB, Bool.false_eq_true, scrE, scrL, scr, scrOb, rmO, Int.toNat_natCast, Int.natCast_nonneg, Prod.mk.injEq, List.length_map, and_false]
  refine ite_of (fun hlt => ?_) (fun hge => ?_)
  · have hja : j < b.inner.length := by omega
    have ga := getA (c := cWire) hja
    have hle := endsN_le (b := b) (l := l) (j := j)
    simp only [ga, cWire, List.length_map, r_cons, r_nil, r_kont, r_seq1, r_blk1, r_sk, r_rg, r_sq, r_cd, r_cd2, r_op1, r_go1, r_mv, r_al, r_bs, r_fills0, r_fills1, r_fl2, r_kfill, r_bi, r_add0, r_eqi, r_op3, r_fa, r_fa2, r_iae, r_rde, r_rd3, r_stamp0, r_pack, r_setOb, r_lab, r_ld, r_ld2, r_ld4, r_fgt, r_clean, r_okm1, r_okm4, r_okE0, r_okE1, r_okL0, r_okL2, r_round1, r_st, r_st1, r_stb, r_setAt0, r_setAt1, r_lows0, r_lows1, r_low1, r_apgo, r_apx2, r_aph, r_ap, r_kap, r_ap0h, r_rep1, r_cut1, r_scr1, r_unr1, r_max, r_lt1, bigN, zfill, zobs, ptd, keyOf, freshK, lk, pt, lkO, ptO, addO, xv, kv, kc, trv, ↓reduceIte, Nat.reduceEqDiff, Nat.reduceMul, List.length_cons, List.length_nil, Nat.reduceAdd, Nat.reduceLeDiff, Nat.reduceLT, true_and, decide_eq_true_eq, List.map_cons, List.map_nil, List.getElem?_cons_zero, List.getElem?_cons_succ, List.take_succ_cons, List.take_zero, isSc, memB, keepB, keepOB, Bool.false_eq_true, List.all_cons, List.all_nil, isCell, Bool.and_self, cellsOf, totr, totrs, tocs, getp, Nat.zero_add, Nat.add_zero, List.set_cons_zero, List.set_cons_succ, Nat.le_refl, List.length_map, and_self]
    refine ite_of (fun he => ?_) (fun hne => ?_)
    · refine ⟨by omega, by rw [fits_i64]; omega, cntJ_intro () hja ?_ trivial⟩
      rw [endsN_yes (by rw [wlAt_eq hja]; exact he), List.length_append, rS_app, wnAt_eq hja]
      rfl
    · refine ⟨by rw [fits_i64]; omega, cntJ_intro () hja ?_ trivial⟩
      rw [endsN_no (by rw [wlAt_eq hja]; exact hne)]
      rfl
  · have : j = b.inner.length := by omega
    subst this
    rfl
end Go.Fd

/-
  REDEXES, BOTH SIDES. Own work.
-/
namespace Go.Fd
set_option maxRecDepth 20000

def idle (b : TBigraph) (l : Int) : Prop := (ports b l).length = 0 ∧ (ends b l).length = 0

/-- A bigraph that is small. -/
structure small (b : TBigraph) : Prop where
  nodes : b.nodes.length ≤ 8
  links : ∀ x ∈ b.nodes, x.links.length ≤ 1000
  sites : b.sites.length ≤ 4
  outer : b.outer.length ≤ 16
  inner : b.inner.length ≤ 16
  roots : 0 ≤ b.roots ∧ b.roots ≤ 4
  edges : 0 ≤ b.edges ∧ b.edges ≤ 8

theorem portsAt_le {sig : List TControl} (h : sigOK sig) (c : Int) : portsAt sig c ≤ 3 := by
  unfold portsAt
  cases e : sig[c.toNat]? with
  | none => decide
  | some x =>
    obtain ⟨hl, rfl⟩ := List.getElem?_eq_some_iff.1 e
    exact ((h.1 _ hl).1).2.1.2

theorem bigOK.small {sig : List TControl} {b : TBigraph} (h : bigOK sig b) : small b :=
  ⟨h.nodesL, fun x hx => by
    obtain ⟨k, hk, rfl⟩ := List.getElem_of_mem hx
    have h1 := (h.nodes k hk).ports
    have h2 := portsAt_le h.sg b.nodes[k].control
    omega, h.sitesL, h.outer.2, by have := h.inn.2; rw [inn_len] at this; exact this, h.roots, h.edges⟩

theorem sem_l2Idle (b : TBigraph) (l : Int) (hs : small b) (lvl : Nat) (S : Sto) : Sem Go.Proofs.Tryd.prog fid_spec_l2Idle lvl [.ag ((cBigraph b).map .tr), iI l] S (iB (dc (idle b l))) S := by
  have s1 := hs.nodes
  have s2 := hs.inner
  refine sem_of_chk k_spec_l2Idle trivial ?_
  simp only [c_spec_l2Idle, cBigraph, r_cons, r_nil, r_kont, r_seq1, r_rg, r_sq, r_wpF, r_op1, r_go1, r_mv, r_bt, r_bt1, r_ld, r_ld4, r_kcn, r_kagn, r_sn0, r_sn1, r_sn3, r_ca, r_ca1, ptd, lk, pt, xv, kv, kc, params, ↓reduceIte, Nat.reduceEqDiff, reduceCtorEq, List.length_cons, List.length_nil, Nat.reduceAdd, Nat.reduceLeDiff, Nat.reduceLT, true_and, List.map_cons, List.map_nil, List.cons_append, List.nil_append, List.take_succ_cons, List.take_zero, mens, men, List.all_cons, List.all_nil, isCell, Bool.and_true, Bool.true_and, Bool.and_self, cellsOf, totr, totrs, tocs, Nat.zero_add, Nat.le_refl, and_self]
  refine kca_intro (sem_l2Ports b l (by omega) hs.links) ?_
  by_cases h1 : (ports b l).length = 0
  · have h1' : ((ports b l).length : Int) = 0 := by omega
    simp only [h1, List.length_map, r_cons, r_kont, r_op1, r_op1g, r_gd, r_go1, r_mv, r_bi, r_eqi, r_ln, r_ln1, r_ld, r_ld4, r_kcn, r_kagn, r_sn0, r_sn1, r_sn3, r_ca, r_ca1, ptd, keyOf, freshK, lk, pt, addO, xv, kv, kc, ↓reduceIte, Nat.reduceEqDiff, Nat.reduceMul, reduceCtorEq, List.length_cons, List.length_nil, Nat.reduceAdd, Nat.reduceLT, true_and, decide_true, List.map_cons, List.map_nil, List.cons_append, List.nil_append, List.take_succ_cons, List.take_zero, mens, men, noSh, impv, impc, or_true, Bool.false_eq_true, Nat.zero_add, Nat.le_refl, List.length_map, and_self, Int.cast_ofNat_Int]
    refine kca_intro (sem_l2Ends b l (by omega)) ?_
    simp only [List.length_map, r_cons, r_nil, r_kont, r_seq1, r_fn2, r_rt, r_op1, r_op1g, r_gd, r_go1, r_mv, r_bi, r_eqi, r_ln, r_ln1, r_pk, r_pkt, r_fin, r_kfe1, r_kcx, r_exps0, r_exps1, r_kex, r_exp1, r_expv2, ptd, keyOf, freshK, lk, pt, addO, xv, kv, kc, ↓reduceIte, Nat.reduceEqDiff, Nat.reduceMul, reduceCtorEq, List.length_nil, Nat.reduceLT, true_and, and_true, noSh, impv, impc, or_true, Bool.false_eq_true, List.length_map]
    have hiff : idle b l ↔ ((ends b l).length : Int) = 0 := ⟨fun h => by have := h.2; omega, fun h => ⟨h1, by omega⟩⟩
    rw [dc_congr hiff, dc_decide]
  · have h1' : ¬ ((ports b l).length : Int) = 0 := by omega
    simp only [h1', List.length_map, r_cons, r_nil, r_kont, r_seq1, r_fn2, r_rt, r_op1, r_op1g, r_gd, r_go1, r_mv, r_bi, r_eqi, r_ln, r_ln1, r_pk, r_pkf, r_fin, r_kfe1, r_kcx, r_exps0, r_exps1, r_kex, r_exp1, r_expv2, ptd, keyOf, freshK, lk, pt, addO, xv, kv, kc, ↓reduceIte, Nat.reduceEqDiff, Nat.reduceMul, reduceCtorEq, List.length_nil, Nat.reduceLT, true_and, and_true, decide_false, noSh, impv, impc, or_true, Bool.false_eq_true, Bool.not_true, List.length_map]
    rw [dc_false fun h : idle b l => h1 h.1]

theorem sem_isIdle (b : TBigraph) (l : Int) (hs : small b) (lvl : Nat) (S : Sto) : Sem Go.Proofs.Tryd.prog fid_impl_Bigraph_isIdle lvl [.ag ((cBigraph b).map .tr), iI l] S (iB (dc (idle b l))) S := by
  have s1 := hs.nodes
  have s2 := hs.inner
  have e1 : (ports b l).length ≤ b.nodes.length * 1000 := portsN_le hs.links (Nat.le_refl _)
  have e2 : (ends b l).length ≤ b.inner.length := endsN_le
  refine sem_of_chk k_impl_Bigraph_isIdle trivial ?_
  simp only [c_impl_Bigraph_isIdle, cBigraph, r_cons, r_nil, r_kont, r_seq1, r_rg, r_sq, r_wpF, r_op1, r_go1, r_mv, r_bt, r_bt1, r_ld, r_ld4, r_kcn, r_kagn, r_sn0, r_sn1, r_sn3, r_ca, r_ca1, ptd, lk, pt, xv, kv, kc, params, ↓reduceIte, Nat.reduceEqDiff, reduceCtorEq, List.length_cons, List.length_nil, Nat.reduceAdd, Nat.reduceLeDiff, Nat.reduceLT, true_and, List.map_cons, List.map_nil, List.cons_append, List.nil_append, List.take_succ_cons, List.take_zero, mens, men, List.all_cons, List.all_nil, isCell, Bool.and_true, Bool.true_and, Bool.and_self, cellsOf, totr, totrs, tocs, Nat.zero_add, Nat.le_refl, and_self]
  refine kca_intro (sem_pointsOf b l (by omega) hs.links (by omega)) ?_
  simp only [List.length_map, r_cons, r_nil, r_kont, r_seq1, r_fn2, r_rg, r_sq, r_rt, r_op1, r_go1, r_mv, r_bi, r_add0, r_eqi, r_ln, r_ln1, r_op3, r_xt, r_xt1, r_fin, r_kfe1, r_kcx, r_exps0, r_exps1, r_kex, r_exp1, r_expv2, r_lt1, ptd, keyOf, freshK, lk, pt, addO, xv, kv, kc, ↓reduceIte, Nat.reduceEqDiff, Nat.reduceMul, reduceCtorEq, List.length_nil, Nat.reduceLT, true_and, and_true, List.nil_append, List.getElem?_cons_zero, List.getElem?_cons_succ, noSh, noShs, impv, impvs, impc, or_true, Bool.false_eq_true, List.length_map, and_self]
  refine ⟨by rw [fits_i64]; omega, ?_⟩
  have hiff : idle b l ↔ ((ports b l).length : Int) + (ends b l).length = 0 := ⟨fun h => by have := h.1; have := h.2; omega, fun h => ⟨by omega, by omega⟩⟩
  rw [dc_congr hiff, dc_decide]

structure solid (b : TBigraph) : Prop where
  inner : b.inner.length = 0
  roots : ¬ b.roots = 0
  root : ∀ r : Nat, (r : Int) < b.roots → ¬ (kids b (-1 - r)).length = 0 ∧ (holes b (-1 - r)).length = 0
  node : ∀ i : Nat, i < b.nodes.length → (holes b i).length ≤ 1
  link : ∀ l : Nat, (l : Int) < b.edges + b.outer.length → ¬ idle b l

theorem sem_l8Solid (b : TBigraph) (hs : small b) (lvl : Nat) (S : Sto) : Sem Go.Proofs.Tryd.prog fid_spec_l8Solid lvl [.ag ((cBigraph b).map .tr)] S (iB (dc (solid b))) S := by
  have s1 := hs.nodes
  have s2 := hs.inner
  have s3 := hs.sites
  have s4 := hs.outer
  obtain ⟨r1, r2⟩ := hs.roots
  obtain ⟨e1, e2⟩ := hs.edges
  refine sem_of_chk k_spec_l8Solid trivial ?_
  simp only [c_spec_l8Solid, cBigraph, List.length_map, r_cons, r_nil, r_kont, r_seq1, r_seq3, r_fn2, r_sk, r_rg, r_sq, r_bl, r_rt, r_cd, r_cd2, r_wpF, r_op1, r_op1g, r_gd, r_go1, r_mv, r_bt, r_bt1, r_bi, r_eqi, r_gti, r_ln, r_ln1, r_pk, r_pkt, r_pkf, r_op3, r_fa, r_fa1, r_ltr, r_ld, r_ld1, r_fin, r_kfe1, r_kcx, r_exps0, r_exps1, r_kex, r_exp1, r_expv2, ptd, lk, pt, xv, kv, kc, params, ↓reduceIte, Nat.reduceEqDiff, reduceCtorEq, List.length_cons, List.length_nil, Nat.reduceLeDiff, Nat.reduceLT, true_and, and_true, decide_eq_true_eq, List.map_cons, List.map_nil, List.getElem?_cons_zero, List.drop_succ_cons, List.drop_zero, Bool.true_eq_false, Bool.not_false, List.all_cons, List.all_nil, isCell, Bool.and_true, Bool.true_and, Bool.and_self, cellsOf, totr, totrs, tocs, Nat.zero_add, List.length_map]
  by_cases h1 : (0 : Int) < b.inner.length
  · simp only [h1, ↓reduceIte, decide_true, Bool.true_eq_false]
    rw [dc_false fun h : solid b => by have := h.inner; omega]
  by_cases h2 : b.roots = 0
  · simp only [h1, h2, ↓reduceIte, decide_false]
    rw [dc_false fun h : solid b => h.roots h2]
  simp only [h1, h2, ↓reduceIte, decide_false]
  refine wp_cnt (α := Unit) b.roots.toNat (fun j _ => [(3, iI j)]) (fun j _ => []) (fun j _ => ∀ r, r < j → ¬ (kids b (-1 - (r : Nat))).length = 0 ∧ (holes b (-1 - (r : Nat))).length = 0) () (by simp only [r_clean, r_okm4, r_okm11, r_okE0, r_okE1, r_okL0, ↓reduceIte, Nat.reduceEqDiff, reduceCtorEq, memB, keepB, keepOB, Bool.false_eq_true, and_self]) (by (simp only [r_fgt, r_chg, r_pts0, r_pts1, r_ptOs0, pt, ↓reduceIte, Nat.reduceEqDiff, reduceCtorEq, Nat.reduceLT, memB, keepB, keepOB, Bool.false_eq_true, Int.cast_ofNat_Int]) <;> rfl) (fun k hk => absurd hk (Nat.not_lt_zero k)) ?_
  intro j _ hj hA
  simp only [r_cons, r_nil, r_kont, r_seq1, r_seq2, r_blk2, r_sk, r_rg, r_sq, r_bl, r_ex, r_cd, r_cd2, r_op1, r_go1, r_mv, r_bi, r_sub0, r_lti, r_op3, r_fa, r_fa1, r_ltr, r_ld, r_ld1, r_ld4, r_kcn, r_kagn, r_sn0, r_sn1, r_sn3, r_ca, r_ca1, r_fgt, r_round2, r_chg, r_pts0, r_pts1, r_ptOs0, ptd, lk, pt, xv, kv, kc, ↓reduceIte, Nat.reduceEqDiff, reduceCtorEq, List.length_cons, List.length_nil, Nat.reduceAdd, Nat.reduceLT, true_and, decide_eq_true_eq, List.map_cons, List.map_nil, List.cons_append, List.nil_append, List.getElem?_cons_zero, List.drop_zero, List.take_succ_cons, List.take_zero, mens, men, memB, keepB, keepOB, Bool.false_eq_true, Nat.zero_add, Nat.le_refl, and_self]
  refine ite_of (fun hlt => ?_) (fun hge => ?_)
  · have hja : j < b.roots.toNat := by omega
    refine ⟨by rw [fits_i64]; omega, ?_⟩
    refine kca_intro (sem_l2Kids b (-1 - (j : Nat)) (by omega)) ?_
    by_cases p1 : (kids b (-1 - (j : Nat))).length = 0
    · have p1' : ((kids b (-1 - (j : Nat))).length : Int) = 0 := by omega
      simp only [p1, List.length_map, r_cons, r_nil, r_kont, r_seq1, r_seq3, r_blk3, r_fn2, r_rg, r_sq, r_rt, r_cd, r_cd2, r_op1, r_op1g, r_gd, r_go1, r_mv, r_bi, r_eqi, r_ln, r_ln1, r_pk, r_pkt, r_fin, r_kfe1, r_kcx, r_exps0, r_exps1, r_kex, r_exp1, r_expv2, r_round3, r_lt1, ptd, keyOf, freshK, lk, pt, addO, xv, kv, kc, ↓reduceIte, Nat.reduceEqDiff, Nat.reduceMul, List.length_nil, Nat.reduceLT, true_and, and_true, decide_true, noSh, impv, impc, or_true, Bool.false_eq_true, Bool.true_eq_false, Bool.not_false, List.length_map, Int.cast_ofNat_Int]
      rw [dc_false fun h : solid b => (h.root j (by omega)).1 p1]
    have p1' : ¬ ((kids b (-1 - (j : Nat))).length : Int) = 0 := by omega
    simp only [p1', List.length_map, r_cons, r_kont, r_op1, r_op1g, r_gd, r_go1, r_mv, r_bi, r_sub0, r_eqi, r_ln, r_ln1, r_ld, r_ld4, r_kcn, r_kagn, r_sn0, r_sn1, r_sn3, r_ca, r_ca1, ptd, keyOf, freshK, lk, pt, addO, xv, kv, kc, ↓reduceIte, Nat.reduceEqDiff, Nat.reduceMul, List.length_cons, List.length_nil, Nat.reduceAdd, Nat.reduceLT, true_and, decide_false, List.map_cons, List.map_nil, List.cons_append, List.nil_append, List.take_succ_cons, List.take_zero, mens, men, noSh, impv, impc, or_true, Bool.false_eq_true, Nat.zero_add, Nat.le_refl, List.length_map, and_self]
    refine ⟨by rw [fits_i64]; omega, ?_⟩
    refine kca_intro (sem_l2Holes b (-1 - (j : Nat)) (by omega)) ?_
    simp only [List.length_map, r_cons, r_nil, r_kont, r_seq1, r_seq3, r_blk1, r_blk3, r_fn2, r_sk, r_rg, r_sq, r_rt, r_cd, r_cd2, r_op1, r_op1g, r_gd, r_go1, r_mv, r_bi, r_add0, r_gti, r_ln, r_ln1, r_pk, r_pkf, r_fin, r_kfe1, r_kcx, r_exps0, r_exps1, r_kex, r_exp1, r_expv2, r_fgt, r_clean, r_okm4, r_okm11, r_okE0, r_okE1, r_okL0, r_round1, r_round3, r_lt1, ptd, keyOf, freshK, lk, pt, addO, xv, kv, kc, ↓reduceIte, Nat.reduceEqDiff, Nat.reduceMul, List.length_nil, Nat.reduceLT, true_and, and_true, decide_eq_true_eq, noSh, impv, impc, memB, keepB, keepOB, or_true, Bool.false_eq_true, List.length_map, and_self]
    refine ite_of (fun p2 => ?_) (fun p2 => ?_)
    · rw [dc_false fun h : solid b => by have := (h.root j (by omega)).2; omega]
    · exact ⟨by rw [fits_i64]; omega, cntJ_intro () hja rfl (allN hA ⟨p1, by omega⟩)⟩
  have hj1 : j = b.roots.toNat := by omega
  subst hj1
  refine wp_cnt (α := Unit) b.nodes.length (fun j _ => [(4, iI j)]) (fun j _ => []) (fun j _ => ∀ i, i < j → (holes b (i : Nat)).length ≤ 1) () (by simp only [r_clean, r_okm4, r_okm11, r_okE0, r_okE1, r_okL0, ↓reduceIte, Nat.reduceEqDiff, memB, keepB, keepOB, Bool.false_eq_true, and_self]) (by (simp only [r_fgt, r_chg, r_pts0, r_pts1, r_ptOs0, pt, ↓reduceIte, Nat.reduceEqDiff, Nat.reduceLT, memB, keepB, keepOB, Bool.false_eq_true, Int.cast_ofNat_Int]) <;> rfl) (fun k hk => absurd hk (Nat.not_lt_zero k)) ?_
  intro j _ hj hB
  simp only [List.length_map, r_cons, r_nil, r_kont, r_seq1, r_seq2, r_blk2, r_sk, r_rg, r_sq, r_bl, r_ex, r_cd, r_cd2, r_op1, r_go1, r_mv, r_bi, r_lti, r_ln, r_ln1, r_op3, r_fa, r_fa1, r_ltr, r_ld, r_ld1, r_ld4, r_kcn, r_kagn, r_sn0, r_sn1, r_sn3, r_ca, r_ca1, r_fgt, r_round2, r_chg, r_pts0, r_pts1, r_ptOs0, ptd, lk, pt, xv, kv, kc, ↓reduceIte, Nat.reduceEqDiff, List.length_cons, List.length_nil, Nat.reduceAdd, Nat.reduceLT, true_and, decide_eq_true_eq, List.map_cons, List.map_nil, List.cons_append, List.nil_append, List.getElem?_cons_zero, List.drop_succ_cons, List.drop_zero, List.take_succ_cons, List.take_zero, mens, men, memB, keepB, keepOB, Bool.false_eq_true, Nat.zero_add, Nat.le_refl, List.length_map, and_self]
  refine ite_of (fun hlt => ?_) (fun hge => ?_)
  · have hja : j < b.nodes.length := by omega
    refine kca_intro (sem_l2Holes b (j : Nat) (by omega)) ?_
    simp only [List.length_map, r_cons, r_nil, r_kont, r_seq1, r_seq3, r_blk1, r_blk3, r_fn2, r_sk, r_rg, r_sq, r_rt, r_cd, r_cd2, r_op1, r_go1, r_mv, r_bi, r_add0, r_gti, r_ln, r_ln1, r_fin, r_kfe1, r_kcx, r_exps0, r_exps1, r_kex, r_exp1, r_expv2, r_fgt, r_clean, r_okm4, r_okm11, r_okE0, r_okE1, r_okL0, r_round1, r_round3, r_lt1, ptd, keyOf, freshK, lk, pt, addO, xv, kv, kc, ↓reduceIte, Nat.reduceEqDiff, Nat.reduceMul, List.length_nil, Nat.reduceLT, true_and, and_true, decide_eq_true_eq, noSh, impv, impc, memB, keepB, keepOB, or_true, Bool.false_eq_true, List.length_map, and_self]
    refine ite_of (fun p2 => ?_) (fun p2 => ?_)
    · rw [dc_false fun h : solid b => by have := h.node j hja; omega]
    · exact ⟨by rw [fits_i64]; omega, cntJ_intro () hja rfl (allN hB (by omega))⟩
  have hj1 : j = b.nodes.length := by omega
  subst hj1
  refine wp_cnt (α := Unit) (b.edges + b.outer.length).toNat (fun j _ => [(5, iI j)]) (fun j _ => []) (fun j _ => ∀ i, i < j → ¬ idle b (i : Nat)) () (by simp only [r_clean, r_okm4, r_okm11, r_okE0, r_okE1, r_okL0, ↓reduceIte, Nat.reduceEqDiff, memB, keepB, keepOB, Bool.false_eq_true, and_self]) (by (simp only [r_fgt, r_chg, r_pts0, r_pts1, r_ptOs0, pt, ↓reduceIte, Nat.reduceEqDiff, Nat.reduceLT, memB, keepB, keepOB, Bool.false_eq_true, Int.cast_ofNat_Int]) <;> rfl) (fun k hk => absurd hk (Nat.not_lt_zero k)) ?_
  intro j _ hj hC
  simp only [List.length_map, r_cons, r_nil, r_kont, r_seq1, r_seq2, r_blk2, r_fn2, r_sk, r_rg, r_sq, r_bl, r_ex, r_rt, r_cd, r_cd2, r_op1, r_go1, r_mv, r_bi, r_add0, r_lti, r_ln, r_ln1, r_op3, r_fa, r_fa1, r_ltr, r_ld, r_ld1, r_ld4, r_kcn, r_kagn, r_sn0, r_sn1, r_sn3, r_ca, r_ca1, r_fin, r_kfe1, r_kcx, r_exps0, r_exps1, r_kex, r_exp1, r_expv2, r_fgt, r_round2, r_chg, r_pts0, r_pts1, r_ptOs0, ptd, lk, pt, xv, kv, kc, ↓reduceIte, Nat.reduceEqDiff, List.length_cons, List.length_nil, Nat.reduceAdd, Nat.reduceLT, true_and, and_true, decide_eq_true_eq, List.map_cons, List.map_nil, List.cons_append, List.nil_append, List.getElem?_cons_zero, List.drop_succ_cons, List.drop_zero, List.take_succ_cons, List.take_zero, mens, men, memB, keepB, keepOB, Bool.false_eq_true, Nat.zero_add, Nat.le_refl, List.length_map, and_self]
  refine ⟨by rw [fits_i64]; omega, ?_⟩
  refine ite_of (fun hlt => ?_) (fun hge => ?_)
  · have hja : j < (b.edges + b.outer.length).toNat := by omega
    refine kca_intro (sem_l2Idle b (j : Nat) hs) ?_
    cases hc : dc (idle b (j : Nat))
    · simp only [r_cons, r_nil, r_kont, r_seq1, r_blk1, r_sk, r_rg, r_cd, r_cd2, r_op1, r_go1, r_mv, r_bi, r_add0, r_fgt, r_clean, r_okm4, r_okm11, r_okE0, r_okE1, r_okL0, r_round1, r_lt1, ptd, keyOf, freshK, lk, pt, addO, xv, kv, kc, ↓reduceIte, Nat.reduceEqDiff, Nat.reduceMul, List.length_nil, Nat.reduceLT, true_and, noSh, isSc, impv, memB, keepB, keepOB, or_true, Bool.false_eq_true, and_self]
      exact ⟨by rw [fits_i64]; omega, cntJ_intro () hja rfl (allN hC (dc_not.1 hc))⟩
    · simp only [r_cons, r_nil, r_kont, r_seq1, r_seq3, r_blk3, r_fn2, r_rg, r_sq, r_rt, r_cd, r_cd2, r_op1, r_mv, r_fin, r_kfe1, r_kcx, r_exps0, r_exps1, r_kex, r_exp1, r_expv2, r_round3, ptd, keyOf, freshK, lk, pt, addO, xv, kv, kc, ↓reduceIte, Nat.reduceEqDiff, Nat.reduceMul, List.length_nil, Nat.reduceLT, true_and, and_true, noSh, isSc, impv, or_true]
      rw [dc_false fun h : solid b => h.link j (by omega) (dc_iff.1 hc)]
  have hj1 : j = (b.edges + b.outer.length).toNat := by omega
  subst hj1
  have : solid b := ⟨by omega, h2, fun r hr => hA r (by omega), hB, fun l hl => hC l (by omega)⟩
  rw [dc_true this]

theorem sem_impl_isRedex (b : TBigraph) (hs : small b) (lvl : Nat) (S : Sto) : Sem Go.Proofs.Tryd.prog fid_impl_isRedex lvl [.ag ((cBigraph b).map .tr)] S (iB (dc (solid b))) S := by
  have s1 := hs.nodes
  have s2 := hs.inner
  have s3 := hs.sites
  have s4 := hs.outer
  obtain ⟨r1, r2⟩ := hs.roots
  obtain ⟨e1, e2⟩ := hs.edges
  refine sem_of_chk k_impl_isRedex trivial ?_
  simp only [c_impl_isRedex, cBigraph, List.length_map, r_cons, r_nil, r_kont, r_seq1, r_seq3, r_fn2, r_sk, r_rg, r_sq, r_bl, r_rt, r_cd, r_cd2, r_wpF, r_op1, r_op1g, r_gd, r_go1, r_mv, r_bt, r_bt1, r_bi, r_eqi, r_gti, r_ng, r_ng1, r_ln, r_ln1, r_pk, r_pkt, r_pkf, r_op3, r_fa, r_fa1, r_ltr, r_ld, r_ld1, r_fin, r_kfe1, r_kcx, r_exps0, r_exps1, r_kex, r_exp1, r_expv2, ptd, lk, pt, xv, kv, kc, params, ↓reduceIte, Nat.reduceEqDiff, reduceCtorEq, List.length_cons, List.length_nil, Nat.reduceLeDiff, Nat.reduceLT, true_and, and_true, decide_eq_true_eq, List.map_cons, List.map_nil, List.getElem?_cons_zero, List.drop_succ_cons, List.drop_zero, Bool.true_eq_false, Bool.not_false, List.all_cons, List.all_nil, isCell, Bool.and_true, Bool.true_and, Bool.and_self, cellsOf, totr, totrs, tocs, Nat.zero_add, List.length_map]
  by_cases h1 : (0 : Int) < b.inner.length
  · simp only [h1, ↓reduceIte, decide_true, Bool.true_eq_false]
    rw [dc_false fun h : solid b => by have := h.inner; omega]
  by_cases h2 : b.roots = 0
  · simp only [h1, h2, ↓reduceIte, decide_false]
    rw [dc_false fun h : solid b => h.roots h2]
  simp only [h1, h2, ↓reduceIte, decide_false]
  refine ⟨by rw [fits_i64]; omega, ?_⟩
  refine wp_cnt (α := Unit) (b.roots + b.nodes.length).toNat (fun j _ => [(3, iI (-b.roots + j))]) (fun j _ => []) (fun j _ => ∀ r, r < j → ((-b.roots + (r : Nat) < 0 → ¬ (kids b (-b.roots + (r : Nat))).length = 0 ∧ (holes b (-b.roots + (r : Nat))).length = 0) ∧ (holes b (-b.roots + (r : Nat))).length ≤ 1)) () (by simp only [r_clean, r_okm4, r_okm11, r_okE0, r_okE1, r_okL0, ↓reduceIte, Nat.reduceEqDiff, reduceCtorEq, memB, keepB, keepOB, Bool.false_eq_true, and_self]) (by (simp only [Int.cast_ofNat_Int, Int.add_zero, r_fgt, r_chg, r_pts0, r_pts1, r_ptOs0, pt, ↓reduceIte, Nat.reduceEqDiff, reduceCtorEq, Nat.reduceLT, memB, keepB, keepOB, Bool.false_eq_true, Int.cast_ofNat_Int]) <;> rfl) (fun k hk => absurd hk (Nat.not_lt_zero k)) ?_
  intro j _ hj hA
  simp only [List.length_map, r_cons, r_nil, r_kont, r_seq1, r_seq2, r_blk2, r_sk, r_rg, r_sq, r_bl, r_ex, r_cd, r_cd2, r_op1, r_go1, r_mv, r_bi, r_add0, r_lti, r_ln, r_ln1, r_op3, r_fa, r_fa1, r_ltr, r_ld, r_ld1, r_ld4, r_kcn, r_kagn, r_sn0, r_sn1, r_sn3, r_ca, r_ca1, r_fgt, r_round2, r_chg, r_pts0, r_pts1, r_ptOs0, ptd, lk, pt, xv, kv, kc, ↓reduceIte, Nat.reduceEqDiff, reduceCtorEq, List.length_cons, List.length_nil, Nat.reduceAdd, Nat.reduceLT, true_and, decide_eq_true_eq, List.map_cons, List.map_nil, List.cons_append, List.nil_append, List.getElem?_cons_zero, List.drop_succ_cons, List.drop_zero, List.take_succ_cons, List.take_zero, mens, men, memB, keepB, keepOB, Bool.false_eq_true, Nat.zero_add, Nat.le_refl, List.length_map, and_self]
  refine ite_of (fun hlt => ?_) (fun hge => ?_)
  · have hja : j < (b.roots + b.nodes.length).toNat := by omega
    refine kca_intro (sem_childrenOf b (-b.roots + (j : Nat)) (by omega) (by omega)) ?_
    have hno : (solid b → False) → dc (solid b) = false := fun h => dc_false h
    have hroot : solid b → -b.roots + (j : Int) < 0 → ¬ (kids b (-b.roots + (j : Nat))).length = 0 ∧ (holes b (-b.roots + (j : Nat))).length = 0 := fun h hn => by
      have := h.root (b.roots - 1 - j).toNat (by omega)
      have e : (-1 - ((b.roots - 1 - j).toNat : Int)) = -b.roots + j := by omega
      rw [e] at this
      exact this
    have hnode : solid b → ¬ -b.roots + (j : Int) < 0 → (holes b (-b.roots + (j : Nat))).length ≤ 1 := fun h hn => by
      have := h.node (-b.roots + j).toNat (by omega)
      have e : (((-b.roots + j).toNat : Nat) : Int) = -b.roots + j := by omega
      rw [e] at this
      exact this
    have hnext : (-b.roots + (j : Int)) + 1 = -b.roots + ((j + 1 : Nat) : Int) := by omega
    by_cases q : -b.roots + (j : Int) < 0
    · by_cases k0 : (kids b (-b.roots + (j : Nat))).length = 0
      · have k0' : ((kids b (-b.roots + (j : Nat))).length : Int) = 0 := by omega
        simp only [q, k0, List.length_map, r_cons, r_nil, r_kont, r_seq1, r_seq3, r_blk3, r_fn2, r_rg, r_sq, r_rt, r_cd, r_cd2, r_op1, r_op1g, r_gd, r_go1, r_mv, r_bi, r_eqi, r_lti, r_ln, r_ln1, r_pk, r_pkt, r_op3, r_xt, r_xt1, r_fin, r_kfe1, r_kcx, r_exps0, r_exps1, r_kex, r_exp1, r_expv2, r_round3, r_lt1, ptd, keyOf, freshK, lk, pt, addO, xv, kv, kc, ↓reduceIte, Nat.reduceEqDiff, Nat.reduceMul, List.length_nil, Nat.reduceLT, true_and, and_true, decide_true, List.nil_append, List.getElem?_cons_zero, List.getElem?_cons_succ, noSh, noShs, impv, impvs, impc, or_true, Bool.false_eq_true, Bool.true_eq_false, Bool.not_false, List.length_map, and_self, Int.cast_ofNat_Int]
        rw [hno fun h => (hroot h q).1 k0]
      have k0' : ¬ ((kids b (-b.roots + (j : Nat))).length : Int) = 0 := by omega
      by_cases k1 : (holes b (-b.roots + (j : Nat))).length = 0
      · have k1a : ¬ (0 : Int) < ((holes b (-b.roots + (j : Nat))).length : Int) := by omega
        have k1b : ¬ (1 : Int) < ((holes b (-b.roots + (j : Nat))).length : Int) := by omega
        simp only [q, k0', k1a, k1b, List.length_map, r_cons, r_nil, r_kont, r_seq1, r_blk1, r_sk, r_rg, r_sq, r_cd, r_cd2, r_op1, r_op1g, r_gd, r_go1, r_mv, r_bi, r_add0, r_eqi, r_lti, r_gti, r_ln, r_ln1, r_pk, r_pkt, r_pkf, r_op3, r_xt, r_xt1, r_fgt, r_clean, r_okm4, r_okm11, r_okE0, r_okE1, r_okL0, r_round1, r_lt1, ptd, keyOf, freshK, lk, pt, addO, xv, kv, kc, ↓reduceIte, Nat.reduceEqDiff, Nat.reduceMul, List.length_nil, Nat.reduceLT, true_and, decide_true, decide_false, List.nil_append, List.getElem?_cons_zero, List.getElem?_cons_succ, noSh, noShs, impv, impvs, impc, memB, keepB, keepOB, or_true, Bool.false_eq_true, List.length_map, and_self]
        refine ⟨by rw [fits_i64]; omega, ?_⟩
        rw [hnext]
        exact cntJ_intro () hja rfl (allN hA ⟨fun _ => ⟨k0, k1⟩, by omega⟩)
      · have k1a : (0 : Int) < ((holes b (-b.roots + (j : Nat))).length : Int) := by omega
        simp only [q, k0', k1a, List.length_map, r_cons, r_nil, r_kont, r_seq1, r_seq3, r_blk3, r_fn2, r_rg, r_sq, r_rt, r_cd, r_cd2, r_op1, r_op1g, r_gd, r_go1, r_mv, r_bi, r_eqi, r_lti, r_gti, r_ln, r_ln1, r_pk, r_pkt, r_pkf, r_op3, r_xt, r_xt1, r_fin, r_kfe1, r_kcx, r_exps0, r_exps1, r_kex, r_exp1, r_expv2, r_round3, r_lt1, ptd, keyOf, freshK, lk, pt, addO, xv, kv, kc, ↓reduceIte, Nat.reduceEqDiff, Nat.reduceMul, List.length_nil, Nat.reduceLT, true_and, and_true, decide_true, decide_false, List.nil_append, List.getElem?_cons_zero, List.getElem?_cons_succ, noSh, noShs, impv, impvs, impc, or_true, Bool.false_eq_true, Bool.true_eq_false, Bool.not_false, List.length_map, and_self]
        rw [hno fun h => k1 (hroot h q).2]
    · simp only [q, List.length_map, r_cons, r_nil, r_kont, r_seq1, r_seq3, r_blk1, r_blk3, r_fn2, r_sk, r_rg, r_sq, r_rt, r_cd, r_cd2, r_op1, r_op1g, r_gd, r_gdu, r_go1, r_mv, r_bi, r_add0, r_lti, r_gti, r_ln, r_ln1, r_pk, r_pkf, r_op3, r_xt, r_xt1, r_fin, r_kfe1, r_kcx, r_exps0, r_exps1, r_kex, r_exp1, r_expv2, r_fgt, r_clean, r_okm4, r_okm11, r_okE0, r_okE1, r_okL0, r_round1, r_round3, r_lt1, ptd, keyOf, freshK, lk, pt, addO, xv, kv, kc, ↓reduceIte, Nat.reduceEqDiff, Nat.reduceMul, List.length_nil, Nat.reduceLT, true_and, and_true, decide_eq_true_eq, decide_false, List.nil_append, List.getElem?_cons_zero, List.getElem?_cons_succ, noSh, noShs, impv, impvs, impc, memB, keepB, keepOB, or_true, Bool.false_eq_true, Bool.not_true, List.length_map, and_self]
      refine ite_of (fun k2 => ?_) (fun k2 => ?_)
      · rw [hno fun h => by have := hnode h q; omega]
      · refine ⟨by rw [fits_i64]; omega, ?_⟩
        rw [hnext]
        exact cntJ_intro () hja rfl (allN hA ⟨fun h => absurd h q, by omega⟩)
  have hj1 : j = (b.roots + b.nodes.length).toNat := by omega
  subst hj1
  refine ⟨by rw [fits_i64]; omega, ?_⟩
  refine wp_cnt (α := Unit) (b.edges + b.outer.length).toNat (fun j _ => [(55, iI j)]) (fun j _ => []) (fun j _ => ∀ i, i < j → ¬ idle b (i : Nat)) () (by simp only [r_clean, r_okm4, r_okm11, r_okE0, r_okE1, r_okL0, ↓reduceIte, Nat.reduceEqDiff, memB, keepB, keepOB, Bool.false_eq_true, and_self]) (by (simp only [r_fgt, r_chg, r_pts0, r_pts1, r_ptOs0, pt, ↓reduceIte, Nat.reduceEqDiff, Nat.reduceLT, memB, keepB, keepOB, Bool.false_eq_true, Int.cast_ofNat_Int]) <;> rfl) (fun k hk => absurd hk (Nat.not_lt_zero k)) ?_
  intro j _ hj hC
  simp only [r_cons, r_nil, r_kont, r_seq1, r_seq2, r_blk2, r_fn2, r_sk, r_rg, r_sq, r_bl, r_ex, r_rt, r_cd, r_cd2, r_op1, r_go1, r_mv, r_bi, r_lti, r_ld, r_ld4, r_kcn, r_kagn, r_sn0, r_sn1, r_sn3, r_ca, r_ca1, r_fin, r_kfe1, r_kcx, r_exps0, r_exps1, r_kex, r_exp1, r_expv2, r_fgt, r_round2, r_chg, r_pts0, r_pts1, r_ptOs0, ptd, lk, pt, xv, kv, kc, ↓reduceIte, Nat.reduceEqDiff, List.length_cons, List.length_nil, Nat.reduceAdd, Nat.reduceLT, true_and, and_true, decide_eq_true_eq, List.map_cons, List.map_nil, List.cons_append, List.nil_append, List.take_succ_cons, List.take_zero, mens, men, memB, keepB, keepOB, Bool.false_eq_true, Nat.zero_add, Nat.le_refl, and_self]
  refine ite_of (fun hlt => ?_) (fun hge => ?_)
  · have hja : j < (b.edges + b.outer.length).toNat := by omega
    refine kca_intro (sem_isIdle b (j : Nat) hs) ?_
    cases hc : dc (idle b (j : Nat))
    · simp only [r_cons, r_nil, r_kont, r_seq1, r_blk1, r_sk, r_rg, r_cd, r_cd2, r_op1, r_go1, r_mv, r_bi, r_add0, r_fgt, r_clean, r_okm4, r_okm11, r_okE0, r_okE1, r_okL0, r_round1, ptd, keyOf, freshK, lk, pt, addO, xv, kv, kc, ↓reduceIte, Nat.reduceEqDiff, Nat.reduceMul, List.length_nil, Nat.reduceLT, true_and, noSh, isSc, impv, memB, keepB, keepOB, or_true, Bool.false_eq_true, and_self]
      exact ⟨by rw [fits_i64]; omega, cntJ_intro () hja rfl (allN hC (dc_not.1 hc))⟩
    · simp only [r_cons, r_nil, r_kont, r_seq1, r_seq3, r_blk3, r_fn2, r_rg, r_sq, r_rt, r_cd, r_cd2, r_op1, r_mv, r_fin, r_kfe1, r_kcx, r_exps0, r_exps1, r_kex, r_exp1, r_expv2, r_round3, ptd, keyOf, freshK, lk, pt, addO, xv, kv, kc, ↓reduceIte, Nat.reduceEqDiff, Nat.reduceMul, List.length_nil, Nat.reduceLT, true_and, and_true, noSh, isSc, impv, or_true]
      rw [dc_false fun h : solid b => h.link j (by omega) (dc_iff.1 hc)]
  have hj1 : j = (b.edges + b.outer.length).toNat := by omega
  subst hj1
  have : solid b := ⟨by omega, h2, fun r hr => by
    have := (hA (b.roots - 1 - r).toNat (by omega)).1
    have e : -b.roots + ((b.roots - 1 - r).toNat : Int) = -1 - r := by omega
    rw [e] at this
    exact this (by omega), fun i hi => by
    have := (hA (b.roots + i).toNat (by omega)).2
    have e : -b.roots + ((b.roots + i).toNat : Int) = i := by omega
    rw [e] at this
    exact this, fun l hl => hC l (by omega)⟩
  rw [dc_true this]

end Go.Fd
