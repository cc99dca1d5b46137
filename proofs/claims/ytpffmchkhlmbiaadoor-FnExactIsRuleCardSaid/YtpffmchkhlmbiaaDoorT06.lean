/-
  RULES, BOTH SIDES. Own work.
-/
import Derived.Test.YtpffmchkhlmbiaaDoorT05
import Derived.KernelRfl
import Derived.ChangeMaps5
import Derived.ChangeShapes
import Derived.Test.YtpffmchkhlmbiaaDoorProg
namespace Go.Fd
set_option maxRecDepth 20000

theorem sem_l8Redex (sig : List TControl) (b : TBigraph) (hn : sig.length ≤ 4294967296) (hbs : ∀ y ∈ sig, bdControl 4294967296 y) (hb : bdBigraph 4294967296 b) (hf : ftBigraph b) (lvl : Nat) (S : Sto) : Sem Go.Proofs.Tryd.prog fid_spec_l8Redex lvl [.tr (.sl (sig.map cControl)), .ag ((cBigraph b).map .tr)] S (iB (dc (bigOK sig b ∧ solid b))) S := by
  refine sem_of_chk k_spec_l8Redex trivial ?_
  simp only [c_spec_l8Redex, cBigraph, r_cons, r_nil, r_kont, r_seq1, r_rg, r_sq, r_wpF, r_op1, r_go1, r_mv, r_bt, r_bt1, r_ld, r_ld4, r_kcn, r_kagn, r_sn0, r_sn1, r_sn3, r_ca, r_ca1, ptd, lk, pt, xv, kv, kc, params, ↓reduceIte, Nat.reduceEqDiff, reduceCtorEq, List.length_cons, List.length_nil, Nat.reduceAdd, Nat.reduceLeDiff, Nat.reduceLT, true_and, List.map_cons, List.map_nil, List.cons_append, List.nil_append, List.take_succ_cons, List.take_zero, mens, men, List.all_cons, List.all_nil, isCell, Bool.and_true, Bool.true_and, Bool.and_self, cellsOf, totr, totrs, tocs, Nat.zero_add, Nat.le_refl, and_self]
  refine kca_intro (sem_l2Good sig b hn hbs hb hf) ?_
  cases h1 : dc (bigOK sig b)
  · simp only [r_cons, r_nil, r_kont, r_seq1, r_fn2, r_rt, r_op1, r_op1g, r_gd, r_go1, r_mv, r_pk, r_pkf, r_fin, r_kfe1, r_kcx, r_exps0, r_exps1, r_kex, r_exp1, r_expv2, ptd, keyOf, freshK, lk, pt, addO, xv, kv, kc, ↓reduceIte, Nat.reduceEqDiff, Nat.reduceMul, reduceCtorEq, List.length_nil, Nat.reduceLT, true_and, and_true, noSh, isSc, impv, or_true, Bool.false_eq_true, Bool.not_true]
    rw [dc_false fun g : bigOK sig b ∧ solid b => dc_not.1 h1 g.1]
  simp only [r_cons, r_kont, r_op1, r_op1g, r_gd, r_go1, r_mv, r_ld, r_ld4, r_kcn, r_kagn, r_sn0, r_sn1, r_sn3, r_ca, r_ca1, ptd, keyOf, freshK, lk, pt, addO, xv, ↓reduceIte, Nat.reduceEqDiff, Nat.reduceMul, reduceCtorEq, List.length_cons, List.length_nil, Nat.reduceAdd, Nat.reduceLT, true_and, List.map_cons, List.map_nil, List.cons_append, List.nil_append, List.take_succ_cons, List.take_zero, mens, men, noSh, isSc, impv, or_true, Nat.zero_add, Nat.le_refl, and_self]
  have g1 := dc_iff.1 h1
  refine kca_intro (sem_l8Solid b g1.small) ?_
  simp only [r_cons, r_nil, r_kont, r_seq1, r_fn2, r_rt, r_op1, r_go1, r_mv, r_pk, r_pkt, r_fin, r_kfe1, r_kcx, r_exps0, r_exps1, r_kex, r_exp1, r_expv2, ptd, keyOf, freshK, lk, pt, addO, xv, kv, kc, ↓reduceIte, Nat.reduceEqDiff, Nat.reduceMul, reduceCtorEq, List.length_nil, Nat.reduceLT, true_and, and_true, noSh, isSc, impv, or_true]
  rw [dc_congr (p := bigOK sig b ∧ solid b) ⟨fun g => g.2, fun g => ⟨g1, g⟩⟩]

theorem sem_l3SameNames (a b : List ByteArray) (ha : a.length ≤ 4294967296) (hb : b.length ≤ 4294967296) (lvl : Nat) (S : Sto) : Sem Go.Proofs.Tryd.prog fid_spec_l3SameNames lvl [.tr (.sl (rS a)), .tr (.sl (rS b))] S (iB (dc (a = b))) S := by
  refine sem_of_chk k_spec_l3SameNames trivial ?_
  simp only [c_spec_l3SameNames, r_cons, r_nil, r_kont, r_seq1, r_rg, r_sq, r_bl, r_wpF, r_op1, r_mv, ptd, pt, xv, kv, kc, params, ↓reduceIte, Nat.reduceEqDiff, reduceCtorEq, List.length_cons, List.length_nil, Nat.reduceAdd, Nat.reduceLeDiff, Nat.reduceLT, true_and, Nat.zero_add]
  refine wp_cnt (α := Unit) (min a.length b.length) (fun j _ => [(5, iI j)]) (fun j _ => []) (fun j _ => ∀ k, k < j → ∀ (h1 : k < a.length) (h2 : k < b.length), a[k] = b[k]) () (by simp only [r_clean, r_okm4, r_okE0, r_okE1, r_okL0, ↓reduceIte, Nat.reduceEqDiff, reduceCtorEq, memB, keepB, keepOB, Bool.false_eq_true, and_self]) (by (simp only [r_fgt, r_chg, r_pts0, r_pts1, r_ptOs0, pt, ↓reduceIte, Nat.reduceEqDiff, reduceCtorEq, Nat.reduceLT, memB, keepB, keepOB, Bool.false_eq_true, Int.cast_ofNat_Int]) <;> rfl) (fun k hk => absurd hk (Nat.not_lt_zero k)) ?_
  intro j _ hj hA
  simp only [List.length_map, r_cons, r_nil, r_kont, r_seq1, r_seq2, r_blk2, r_fn2, r_sk, r_rg, r_sq, r_bl, r_ex, r_rt, r_cd, r_cd2, r_op1, r_op1g, r_gd, r_go1, r_mv, r_bi, r_eqi, r_lti, r_ln, r_ln1, r_pk, r_pkt, r_pkf, r_ixn, r_ia, r_ia1, r_fin, r_kfe1, r_kcx, r_exps0, r_exps1, r_kex, r_exp1, r_expv2, r_fgt, r_round2, r_chg, r_pts0, r_pts1, r_ptOs0, r_lt1, ptd, lk, pt, xv, kv, kc, ↓reduceIte, Nat.reduceEqDiff, reduceCtorEq, Nat.reduceLT, true_and, and_true, decide_eq_true_eq, memB, keepB, keepOB, Bool.false_eq_true, Bool.not_true, Int.toNat_natCast, Int.natCast_nonneg, List.length_map]
  by_cases hlt : j < min a.length b.length
  · have hja : j < a.length := by omega
    have hjb : j < b.length := by omega
    have q1 : (j : Int) < a.length := by omega
    have q2 : (j : Int) < b.length := by omega
    have ga := getA (c := fun s => [ts s]) hja
    have gb := getA (c := fun s => [ts s]) hjb
    simp only [q1, q2, ga, gb, r_cons, r_nil, r_kont, r_seq1, r_seq3, r_blk1, r_blk3, r_fn2, r_sk, r_rg, r_sq, r_rt, r_cd, r_cd2, r_op1, r_go1, r_mv, r_bi, r_add0, r_nes, r_op3, r_ixn, r_ia, r_iae, r_ia1, r_ltr, r_ld, r_ld1, r_fin, r_kfe1, r_kcx, r_exps0, r_exps1, r_kex, r_exp1, r_expv2, r_fgt, r_clean, r_okm4, r_okE0, r_okE1, r_okL0, r_round1, r_round3, r_lt1, ptd, lk, pt, xv, kv, kc, ↓reduceIte, Nat.reduceEqDiff, reduceCtorEq, List.length_cons, List.length_nil, Nat.reduceLT, true_and, and_true, decide_eq_true_eq, decide_true, List.getElem?_cons_zero, memB, keepB, keepOB, Bool.false_eq_true, Int.toNat_natCast, Nat.zero_add, Int.natCast_nonneg, ne_eq, and_self]
    by_cases hc : a[j] = b[j]
    · simp only [hc, ↓reduceIte, not_true_eq_false]
      exact ⟨by rw [fits_i64]; omega, cntJ_intro () hlt rfl (allN hA fun _ _ => hc)⟩
    · simp only [hc, ↓reduceIte, not_false_eq_true]
      have : ¬ a = b := fun h => hc (by subst h; rfl)
      rw [dc_false this]
  · have fin : ((a.length : Int) = b.length) ↔ a = b := ⟨fun h => List.ext_getElem (by omega) fun k h1 h2 => hA k (by omega) h1 h2, fun h => by rw [h]⟩
    by_cases q1 : (j : Int) < a.length
    · have q2 : ¬ (j : Int) < b.length := by omega
      simp only [q1, q2, ↓reduceIte]
      rw [← dc_decide, dc_congr fin]
    · simp only [q1, ↓reduceIte]
      rw [← dc_decide, dc_congr fin]

def copyOK (r : TRule) (k : Int) : Prop := 0 ≤ k ∧ k ≤ (r.redex.sites.length : Int) - 1

structure ruleOK (sig : List TControl) (r : TRule) : Prop where
  red : bigOK sig r.redex
  sol : solid r.redex
  rea : bigOK sig r.reactum
  inn : r.reactum.inner.length = 0
  roots : r.redex.roots = r.reactum.roots
  outer : r.redex.outer = r.reactum.outer
  copies : ∀ k ∈ r.copies, copyOK r k
  len : r.copies.length = r.reactum.sites.length

def copiesOK (r : TRule) : Prop := (∀ k ∈ r.copies, copyOK r k) ∧ r.copies.length = r.reactum.sites.length

theorem sem_l9Copies (r : TRule) (hb : bdRule 4294967296 r) (lvl : Nat) (S : Sto) : Sem Go.Proofs.Tryd.prog fid_spec_l9Copies lvl [.ag ((cRule r).map .tr)] S (iB (dc (copiesOK r))) S := by
  obtain ⟨⟨a1, a2, a3, a4, a5, a6, a7⟩, ⟨b1, b2, b3, b4, b5, b6, b7⟩, b8⟩ := hb
  refine sem_of_chk k_spec_l9Copies trivial ?_
  simp only [c_spec_l9Copies, cRule, r_cons, r_nil, r_kont, r_seq1, r_rg, r_sq, r_bl, r_wpF, r_op1, r_mv, r_bt, r_bt1, ptd, lk, pt, xv, kv, kc, params, ↓reduceIte, Nat.reduceEqDiff, reduceCtorEq, List.length_cons, List.length_nil, Nat.reduceLeDiff, Nat.reduceLT, true_and, List.map_cons, List.map_nil, List.all_cons, List.all_nil, isCell, Bool.and_true, Bool.true_and, Bool.and_self, cellsOf, totr, totrs, tocs, Nat.zero_add]
  refine wp_cnt (α := Unit) r.copies.length (fun j _ => [(3, iI j)]) (fun j _ => []) (fun j _ => ∀ k, k < j → copyOK r (g0 r.copies k)) () (by simp only [r_clean, r_okm4, r_okm11, r_okE0, r_okE1, r_okL0, ↓reduceIte, Nat.reduceEqDiff, reduceCtorEq, memB, keepB, keepOB, Bool.false_eq_true, and_self]) (by (simp only [r_fgt, r_chg, r_pts0, r_pts1, r_ptOs0, pt, ↓reduceIte, Nat.reduceEqDiff, reduceCtorEq, Nat.reduceLT, memB, keepB, keepOB, Bool.false_eq_true, Int.cast_ofNat_Int]) <;> rfl) (fun k hk => absurd hk (Nat.not_lt_zero k)) ?_
  intro j _ hj hA
  simp only [List.length_map, r_cons, r_nil, r_kont, r_seq1, r_seq2, r_blk2, r_fn2, r_sk, r_rg, r_sq, r_bl, r_ex, r_rt, r_cd, r_cd2, r_op1, r_go1, r_mv, r_bi, r_eqi, r_lti, r_ln, r_ln1, r_op3, r_fa, r_fa1, r_ixn, r_ia, r_ia1, r_ltr, r_ld, r_ld1, r_fin, r_kfe1, r_kcx, r_exps0, r_exps1, r_kex, r_exp1, r_expv2, r_fgt, r_round2, r_chg, r_pts0, r_pts1, r_ptOs0, r_lt1, ptd, lk, pt, xv, ↓reduceIte, Nat.reduceEqDiff, reduceCtorEq, Nat.reduceLT, true_and, and_true, decide_eq_true_eq, List.getElem?_cons_zero, List.drop_succ_cons, List.drop_zero, memB, keepB, keepOB, Bool.false_eq_true, Int.toNat_natCast, Int.natCast_nonneg, List.length_map]
  refine ite_of (fun hlt => ?_) (fun hge => ?_)
  · have hja : j < r.copies.length := by omega
    have ga := rI_get hja
    simp only [ga, List.length_map, r_cons, r_kont, r_op1, r_go1, r_bi, r_sub0, r_ln, r_ln1, r_op3, r_fa, r_fa1, r_iae, r_ltr, r_ld, r_ld1, r_kcn, r_sn0, r_sn1, r_ca, r_ca1, ptd, lk, pt, xv, kv, kc, ↓reduceIte, Nat.reduceEqDiff, List.length_cons, List.length_nil, Nat.reduceLT, true_and, List.map_cons, List.map_nil, List.cons_append, List.nil_append, List.getElem?_cons_zero, List.drop_succ_cons, List.drop_zero, mens, men, Nat.zero_add, List.length_map, and_self]
    refine ⟨by rw [fits_i64]; omega, ?_⟩
    refine kca_intro (sem_l1In (g0 r.copies j) 0 ((r.redex.sites.length : Int) - 1)) ?_
    cases hc : inB (g0 r.copies j) 0 ((r.redex.sites.length : Int) - 1)
    · simp only [r_cons, r_nil, r_kont, r_seq1, r_seq3, r_blk3, r_fn2, r_rg, r_sq, r_rt, r_cd, r_cd2, r_op1, r_go1, r_mv, r_nt, r_nt1, r_fin, r_kfe1, r_kcx, r_exps0, r_exps1, r_kex, r_exp1, r_expv2, r_round3, r_lt1, ptd, keyOf, freshK, lk, pt, addO, xv, kv, kc, ↓reduceIte, Nat.reduceEqDiff, Nat.reduceMul, List.length_nil, Nat.reduceLT, true_and, and_true, noSh, isSc, impv, or_true, Bool.not_false]
      rw [dc_false fun h : copiesOK r => inB_not.1 hc (h.1 _ (by simp [hja]))]
    · simp only [r_cons, r_nil, r_kont, r_seq1, r_blk1, r_sk, r_rg, r_cd, r_cd2, r_op1, r_go1, r_mv, r_bi, r_add0, r_nt, r_nt1, r_fgt, r_clean, r_okm4, r_okm11, r_okE0, r_okE1, r_okL0, r_round1, r_lt1, ptd, keyOf, freshK, lk, pt, addO, xv, kv, kc, ↓reduceIte, Nat.reduceEqDiff, Nat.reduceMul, List.length_nil, Nat.reduceLT, true_and, noSh, isSc, impv, memB, keepB, keepOB, or_true, Bool.false_eq_true, Bool.not_true, and_self]
      exact ⟨by rw [fits_i64]; omega, cntJ_intro () hja rfl (allN hA (inB_iff.1 hc))⟩
  · have hj1 : j = r.copies.length := by omega
    subst hj1
    have hiff : copiesOK r ↔ (r.copies.length : Int) = r.reactum.sites.length := ⟨fun h => by have := h.2; omega, fun h => ⟨fun n hn => by
      obtain ⟨k, hk, rfl⟩ := List.getElem_of_mem hn
      have := hA k hk
      simpa [hk] using this, by omega⟩⟩
    rw [dc_congr hiff, dc_decide]

theorem sem_l9Good (sig : List TControl) (r : TRule) (hn : sig.length ≤ 4294967296) (hbs : ∀ y ∈ sig, bdControl 4294967296 y) (hb : bdRule 4294967296 r) (hf : ftRule r) (lvl : Nat) (S : Sto) : Sem Go.Proofs.Tryd.prog fid_spec_l9Good lvl [.tr (.sl (sig.map cControl)), .ag ((cRule r).map .tr)] S (iB (dc (ruleOK sig r))) S := by
  have hb0 := hb
  obtain ⟨d1, d2, d3⟩ := hb
  obtain ⟨f1, f2, f3⟩ := hf
  refine sem_of_chk k_spec_l9Good trivial ?_
  simp only [c_spec_l9Good, cRule, r_cons, r_nil, r_kont, r_seq1, r_rg, r_sq, r_wpF, r_op1, r_go1, r_mv, r_bt, r_bt1, r_fa, r_fa1, r_ld, r_ld4, r_kcn, r_kagn, r_sn0, r_sn1, r_sn3, r_ca, r_ca1, ptd, lk, pt, xv, kv, kc, params, ↓reduceIte, Nat.reduceEqDiff, reduceCtorEq, List.length_cons, List.length_nil, Nat.reduceAdd, Nat.reduceLeDiff, Nat.reduceLT, true_and, List.map_cons, List.map_nil, List.cons_append, List.nil_append, List.drop_zero, List.take_succ_cons, List.take_zero, mens, men, List.all_cons, List.all_nil, isCell, Bool.and_true, Bool.true_and, Bool.and_self, cellsOf, totr, totrs, tocs, Nat.zero_add, and_self]
  refine kca_intro (sem_l8Redex sig r.redex hn hbs d1 f1) ?_
  cases h1 : dc (bigOK sig r.redex ∧ solid r.redex)
  · simp only [r_cons, r_nil, r_kont, r_seq1, r_fn2, r_rt, r_op1, r_op1g, r_gd, r_go1, r_mv, r_pk, r_pkf, r_fin, r_kfe1, r_kcx, r_exps0, r_exps1, r_kex, r_exp1, r_expv2, ptd, keyOf, freshK, lk, pt, addO, xv, kv, kc, ↓reduceIte, Nat.reduceEqDiff, Nat.reduceMul, reduceCtorEq, List.length_nil, Nat.reduceLT, true_and, and_true, noSh, isSc, impv, or_true, Bool.false_eq_true, Bool.not_true]
    rw [dc_false fun h : ruleOK sig r => dc_not.1 h1 ⟨h.red, h.sol⟩]
  simp only [r_cons, r_kont, r_op1, r_op1g, r_gd, r_go1, r_mv, r_fa, r_fa1, r_ld, r_ld4, r_kcn, r_kagn, r_sn0, r_sn1, r_sn3, r_ca, r_ca1, ptd, keyOf, freshK, lk, pt, addO, xv, ↓reduceIte, Nat.reduceEqDiff, Nat.reduceMul, reduceCtorEq, List.length_cons, List.length_nil, Nat.reduceAdd, Nat.reduceLeDiff, Nat.reduceLT, true_and, List.map_cons, List.map_nil, List.cons_append, List.nil_append, List.drop_succ_cons, List.drop_zero, List.take_succ_cons, List.take_zero, mens, men, noSh, isSc, impv, or_true, Nat.zero_add, and_self]
  refine kca_intro (sem_l2Good sig r.reactum hn hbs d2 f2) ?_
  cases h2 : dc (bigOK sig r.reactum)
  · simp only [r_cons, r_nil, r_kont, r_seq1, r_fn2, r_rt, r_op1, r_op1g, r_gd, r_go1, r_mv, r_pk, r_pkt, r_pkf, r_fin, r_kfe1, r_kcx, r_exps0, r_exps1, r_kex, r_exp1, r_expv2, ptd, keyOf, freshK, lk, pt, addO, xv, kv, kc, ↓reduceIte, Nat.reduceEqDiff, Nat.reduceMul, reduceCtorEq, List.length_nil, Nat.reduceLT, true_and, and_true, noSh, isSc, impv, or_true, Bool.false_eq_true, Bool.not_true]
    rw [dc_false fun h : ruleOK sig r => dc_not.1 h2 h.rea]
  have g1 := dc_iff.1 h1
  have g2 := dc_iff.1 h2
  by_cases h3 : (r.reactum.inner.length : Int) = 0
  case neg =>
    simp only [h3, List.length_map, r_cons, r_nil, r_kont, r_seq1, r_fn2, r_rt, r_op1, r_op1g, r_gd, r_go1, r_mv, r_bi, r_eqi, r_ln, r_ln1, r_pk, r_pkt, r_pkf, r_op3, r_fa, r_fa1, r_ltr, r_ld, r_ld1, r_fin, r_kfe1, r_kcx, r_exps0, r_exps1, r_kex, r_exp1, r_expv2, ptd, keyOf, freshK, lk, pt, addO, xv, kv, kc, ↓reduceIte, Nat.reduceEqDiff, Nat.reduceMul, reduceCtorEq, List.length_nil, Nat.reduceLT, true_and, and_true, decide_false, List.getElem?_cons_zero, List.drop_succ_cons, List.drop_zero, noSh, isSc, impv, or_true, Bool.false_eq_true, Bool.not_true, List.length_map]
    rw [dc_false fun h : ruleOK sig r => by have := h.inn; omega]
  by_cases h4 : r.redex.roots = r.reactum.roots
  case neg =>
    simp only [h3, h4, List.length_map, r_cons, r_nil, r_kont, r_seq1, r_fn2, r_rt, r_op1, r_op1g, r_gd, r_go1, r_mv, r_bi, r_eqi, r_ln, r_ln1, r_pk, r_pkt, r_pkf, r_op3, r_fa, r_fa1, r_ltr, r_ld, r_ld1, r_fin, r_kfe1, r_kcx, r_exps0, r_exps1, r_kex, r_exp1, r_expv2, ptd, keyOf, freshK, lk, pt, addO, xv, kv, kc, ↓reduceIte, Nat.reduceEqDiff, Nat.reduceMul, reduceCtorEq, List.length_nil, Nat.reduceLT, true_and, and_true, decide_true, decide_false, List.getElem?_cons_zero, List.drop_succ_cons, List.drop_zero, noSh, isSc, impv, or_true, Bool.false_eq_true, Bool.not_true, List.length_map]
    rw [dc_false fun h : ruleOK sig r => h4 h.roots]
  have h4' : (r.redex.roots = r.reactum.roots) = True := eq_true h4
  simp only [h3, h4', List.length_map, r_cons, r_kont, r_op1, r_op1g, r_gd, r_go1, r_mv, r_bi, r_eqi, r_ln, r_ln1, r_pk, r_pkt, r_op3, r_fa, r_fa1, r_ltr, r_ld, r_ld1, r_kcn, r_sn0, r_sn1, r_ca, r_ca1, ptd, keyOf, freshK, lk, pt, addO, xv, kv, kc, ↓reduceIte, Nat.reduceEqDiff, Nat.reduceMul, reduceCtorEq, List.length_nil, Nat.reduceLT, true_and, decide_true, List.map_cons, List.map_nil, List.cons_append, List.nil_append, List.getElem?_cons_zero, List.drop_succ_cons, List.drop_zero, mens, men, noSh, isSc, impv, or_true, List.length_map, and_self]
  have o1 := g1.1.outer.2
  have o2 := g2.outer.2
  refine kca_intro (sem_l3SameNames r.redex.outer r.reactum.outer (by omega) (by omega)) ?_
  cases h5 : dc (r.redex.outer = r.reactum.outer)
  · simp only [r_cons, r_nil, r_kont, r_seq1, r_fn2, r_rt, r_op1, r_op1g, r_gd, r_go1, r_mv, r_pk, r_pkt, r_pkf, r_fin, r_kfe1, r_kcx, r_exps0, r_exps1, r_kex, r_exp1, r_expv2, ptd, keyOf, freshK, lk, pt, addO, xv, kv, kc, ↓reduceIte, Nat.reduceEqDiff, Nat.reduceMul, reduceCtorEq, List.length_nil, Nat.reduceLT, true_and, and_true, noSh, isSc, impv, or_true, Bool.false_eq_true, Bool.not_true]
    rw [dc_false fun h : ruleOK sig r => dc_not.1 h5 h.outer]
  simp only [r_cons, r_kont, r_op1, r_op1g, r_gd, r_go1, r_mv, r_pk, r_pkt, r_ld, r_ld4, r_kcn, r_kagn, r_sn0, r_sn1, r_sn3, r_ca, r_ca1, ptd, keyOf, freshK, lk, pt, addO, xv, kv, kc, ↓reduceIte, Nat.reduceEqDiff, Nat.reduceMul, reduceCtorEq, List.length_cons, List.length_nil, Nat.reduceAdd, Nat.reduceLT, true_and, List.map_cons, List.map_nil, List.cons_append, List.nil_append, List.take_succ_cons, List.take_zero, mens, men, noSh, isSc, impv, or_true, Nat.zero_add, Nat.le_refl, and_self]
  refine kca_intro (sem_l9Copies r hb0) ?_
  simp only [r_cons, r_nil, r_kont, r_seq1, r_fn2, r_rt, r_op1, r_go1, r_mv, r_pk, r_pkt, r_fin, r_kfe1, r_kcx, r_exps0, r_exps1, r_kex, r_exp1, r_expv2, ptd, keyOf, freshK, lk, pt, addO, xv, kv, kc, ↓reduceIte, Nat.reduceEqDiff, Nat.reduceMul, reduceCtorEq, List.length_nil, Nat.reduceLT, true_and, and_true, noSh, isSc, impv, or_true]
  rw [dc_congr (p := ruleOK sig r) (q := copiesOK r) ⟨fun h => ⟨h.copies, h.len⟩, fun h => ⟨g1.1, g1.2, g2, by omega, h4, dc_iff.1 h5, h.1, h.2⟩⟩]

theorem sem_spec_IsRule (sig : List TControl) (r : TRule) (hn : sig.length ≤ 4294967296) (hbs : ∀ y ∈ sig, bdControl 4294967296 y) (hb : bdRule 4294967296 r) (hf : ftRule r) (lvl : Nat) (S : Sto) : Sem Go.Proofs.Tryd.prog fid_spec_IsRule lvl [.tr (.sl (sig.map cControl)), .ag ((cRule r).map .tr)] S (iB (dc (ruleOK sig r))) S := by
  refine sem_of_chk k_spec_IsRule trivial ?_
  simp only [c_spec_IsRule, cRule, r_cons, r_nil, r_kont, r_seq1, r_rg, r_sq, r_wpF, r_op1, r_go1, r_mv, r_bt, r_bt1, r_ld, r_ld4, r_kcn, r_kagn, r_sn0, r_sn1, r_sn3, r_ca, r_ca1, ptd, lk, pt, xv, kv, kc, params, ↓reduceIte, Nat.reduceEqDiff, reduceCtorEq, List.length_cons, List.length_nil, Nat.reduceAdd, Nat.reduceLeDiff, Nat.reduceLT, true_and, List.map_cons, List.map_nil, List.cons_append, List.nil_append, List.take_succ_cons, List.take_zero, mens, men, List.all_cons, List.all_nil, isCell, Bool.and_true, Bool.true_and, Bool.and_self, cellsOf, totr, totrs, tocs, Nat.zero_add, Nat.le_refl, and_self]
  refine kca_intro (sem_l9Good sig r hn hbs hb hf) ?_
  simp only [r_cons, r_nil, r_kont, r_seq1, r_fn2, r_rt, r_op1, r_mv, r_fin, r_kfe1, r_kcx, r_exps0, r_exps1, r_kex, r_exp1, r_expv2, ptd, keyOf, freshK, lk, pt, addO, xv, ↓reduceIte, Nat.reduceEqDiff, Nat.reduceMul, reduceCtorEq, List.length_nil, Nat.reduceLT, noSh, isSc, impv, or_true, and_self]

theorem sem_areTwo (sig : List TControl) (a b : TBigraph) (hn : sig.length ≤ 4294967296) (hbs : ∀ y ∈ sig, bdControl 4294967296 y) (ha : bdBigraph 4294967296 a) (hb : bdBigraph 4294967296 b) (lvl : Nat) (S : Sto) : Sem Go.Proofs.Tryd.prog fid_impl_areTwo lvl [.tr (.sl (sig.map cControl)), .ag ((cBigraph a).map .tr), .ag ((cBigraph b).map .tr)] S (iB (dc (bigOK sig a ∧ bigOK sig b))) S := by
  refine sem_of_chk k_impl_areTwo trivial ?_
  simp only [c_impl_areTwo, cBigraph, r_cons, r_nil, r_kont, r_seq1, r_rg, r_sq, r_wpF, r_op1, r_go1, r_mv, r_bt, r_bt1, r_ld, r_ld4, r_kcn, r_kagn, r_sn0, r_sn1, r_sn3, r_ca, r_ca1, ptd, lk, pt, xv, kv, kc, params, ↓reduceIte, Nat.reduceEqDiff, reduceCtorEq, List.length_cons, List.length_nil, Nat.reduceAdd, Nat.reduceLeDiff, Nat.reduceLT, true_and, List.map_cons, List.map_nil, List.cons_append, List.nil_append, List.take_succ_cons, List.take_zero, mens, men, List.all_cons, List.all_nil, isCell, Bool.and_true, Bool.true_and, Bool.and_self, cellsOf, totr, totrs, tocs, Nat.zero_add, Nat.le_refl, and_self]
  refine kca_intro (sem_impl_IsBigraph sig a hn hbs ha) ?_
  cases h1 : dc (bigOK sig a)
  · simp only [r_cons, r_nil, r_kont, r_seq1, r_fn2, r_rt, r_op1, r_op1g, r_gd, r_go1, r_mv, r_pk, r_pkf, r_fin, r_kfe1, r_kcx, r_exps0, r_exps1, r_kex, r_exp1, r_expv2, ptd, keyOf, freshK, lk, pt, addO, xv, kv, kc, ↓reduceIte, Nat.reduceEqDiff, Nat.reduceMul, reduceCtorEq, List.length_nil, Nat.reduceLT, true_and, and_true, noSh, isSc, impv, or_true, Bool.false_eq_true, Bool.not_true]
    rw [dc_false fun h : bigOK sig a ∧ bigOK sig b => dc_not.1 h1 h.1]
  simp only [r_cons, r_kont, r_op1, r_op1g, r_gd, r_go1, r_mv, r_ld, r_ld4, r_kcn, r_kagn, r_sn0, r_sn1, r_sn3, r_ca, r_ca1, ptd, keyOf, freshK, lk, pt, addO, xv, ↓reduceIte, Nat.reduceEqDiff, Nat.reduceMul, reduceCtorEq, List.length_cons, List.length_nil, Nat.reduceAdd, Nat.reduceLT, true_and, List.map_cons, List.map_nil, List.cons_append, List.nil_append, List.take_succ_cons, List.take_zero, mens, men, noSh, isSc, impv, or_true, Nat.zero_add, Nat.le_refl, and_self]
  refine kca_intro (sem_impl_IsBigraph sig b hn hbs hb) ?_
  simp only [r_cons, r_nil, r_kont, r_seq1, r_fn2, r_rt, r_op1, r_go1, r_mv, r_pk, r_pkt, r_fin, r_kfe1, r_kcx, r_exps0, r_exps1, r_kex, r_exp1, r_expv2, ptd, keyOf, freshK, lk, pt, addO, xv, kv, kc, ↓reduceIte, Nat.reduceEqDiff, Nat.reduceMul, reduceCtorEq, List.length_nil, Nat.reduceLT, true_and, and_true, noSh, isSc, impv, or_true]
  rw [dc_congr (p := bigOK sig a ∧ bigOK sig b) (q := bigOK sig b) ⟨fun h => h.2, fun h => ⟨dc_iff.1 h1, h⟩⟩]

theorem sem_IsRule_1 (k : Int) (r : TRule) (hb : r.redex.sites.length ≤ 4294967296) (lvl : Nat) (S : Sto) : Sem Go.Proofs.Tryd.prog fid_impl_IsRule_1 lvl [iI k, .ta (cRule r)] S (iB (!dc (copyOK r k))) S := by
  refine sem_of_chk k_impl_IsRule_1 trivial ?_
  simp only [c_impl_IsRule_1, cRule, List.length_map, r_cons, r_nil, r_kont, r_seq1, r_rg, r_sq, r_wpF, r_op1, r_go1, r_mv, r_bi, r_sub0, r_ln, r_ln1, r_op3, r_fa, r_fa1, r_ltr, r_ld, r_ld1, r_kcn, r_sn0, r_sn1, r_ca, r_ca1, ptd, lk, pt, xv, kv, kc, params, ↓reduceIte, Nat.reduceEqDiff, reduceCtorEq, List.length_cons, List.length_nil, Nat.reduceAdd, Nat.reduceLeDiff, Nat.reduceLT, true_and, List.map_cons, List.map_nil, List.cons_append, List.nil_append, List.getElem?_cons_zero, List.drop_succ_cons, List.drop_zero, mens, men, Nat.zero_add, List.length_map, and_self]
  refine ⟨by rw [fits_i64]; omega, ?_⟩
  refine kca_intro (sem_within k 0 ((r.redex.sites.length : Int) - 1)) ?_
  simp only [r_cons, r_nil, r_kont, r_seq1, r_fn2, r_rt, r_op1, r_go1, r_mv, r_nt, r_nt1, r_fin, r_kfe1, r_kcx, r_exps0, r_exps1, r_kex, r_exp1, r_expv2, ptd, keyOf, freshK, lk, pt, addO, xv, ↓reduceIte, Nat.reduceEqDiff, Nat.reduceMul, reduceCtorEq, List.length_nil, Nat.reduceLT, true_and, and_true, noSh, isSc, impv, or_true]
  rw [inB_dc]
  rfl

theorem g_eqS : chkF Go.Proofs.Tryd.prog fid_slices_Equal_string_string gEq1 = true := by kernel_rfl

theorem sem_impl_IsRule (sig : List TControl) (r : TRule) (hn : sig.length ≤ 4294967296) (hbs : ∀ y ∈ sig, bdControl 4294967296 y) (hb : bdRule 4294967296 r) (_hf : ftRule r) (lvl : Nat) (S : Sto) : Sem Go.Proofs.Tryd.prog fid_impl_IsRule lvl [.tr (.sl (sig.map cControl)), .ag ((cRule r).map .tr)] S (iB (dc (ruleOK sig r))) S := by
  obtain ⟨d1, d2, d3⟩ := hb
  refine sem_of_chk k_impl_IsRule trivial ?_
  simp only [c_impl_IsRule, cRule, r_cons, r_nil, r_kont, r_seq1, r_rg, r_sq, r_wpF, r_op1, r_go1, r_mv, r_bt, r_bt1, r_fa, r_fa1, r_ld, r_ld4, r_kcn, r_kagn, r_sn0, r_sn1, r_sn3, r_ca, r_ca1, ptd, lk, pt, xv, kv, kc, params, ↓reduceIte, Nat.reduceEqDiff, reduceCtorEq, List.length_cons, List.length_nil, Nat.reduceAdd, Nat.reduceLeDiff, Nat.reduceLT, true_and, List.map_cons, List.map_nil, List.cons_append, List.nil_append, List.drop_succ_cons, List.drop_zero, List.take_succ_cons, List.take_zero, mens, men, List.all_cons, List.all_nil, isCell, Bool.and_true, Bool.true_and, Bool.and_self, cellsOf, totr, totrs, tocs, Nat.zero_add, and_self]
  refine kca_intro (sem_areTwo sig r.redex r.reactum hn hbs d1 d2) ?_
  cases h1 : dc (bigOK sig r.redex ∧ bigOK sig r.reactum)
  · simp only [r_cons, r_nil, r_kont, r_seq1, r_seq3, r_fn2, r_rg, r_sq, r_rt, r_cd, r_cd2, r_op1, r_op1g, r_gd, r_go1, r_mv, r_nt, r_nt1, r_pk, r_pkt, r_fin, r_kfe1, r_kcx, r_exps0, r_exps1, r_kex, r_exp1, r_expv2, ptd, keyOf, freshK, lk, pt, addO, xv, kv, kc, ↓reduceIte, Nat.reduceEqDiff, Nat.reduceMul, reduceCtorEq, List.length_nil, Nat.reduceLT, true_and, and_true, noSh, isSc, impv, or_true, Bool.true_eq_false, Bool.not_false]
    rw [dc_false fun h : ruleOK sig r => dc_not.1 h1 ⟨h.red, h.rea⟩]
  have g1 := dc_iff.1 h1
  simp only [r_cons, r_kont, r_op1, r_op1g, r_gd, r_go1, r_mv, r_nt, r_nt1, r_fa, r_fa1, r_ld, r_ld4, r_kcn, r_kagn, r_sn0, r_sn1, r_sn3, r_ca, r_ca1, ptd, keyOf, freshK, lk, pt, addO, xv, ↓reduceIte, Nat.reduceEqDiff, Nat.reduceMul, reduceCtorEq, List.length_cons, List.length_nil, Nat.reduceAdd, Nat.reduceLeDiff, Nat.reduceLT, true_and, List.map_cons, List.map_nil, List.cons_append, List.nil_append, List.drop_zero, List.take_succ_cons, List.take_zero, mens, men, noSh, isSc, impv, or_true, Bool.not_true, Nat.zero_add, and_self]
  refine kca_intro (sem_impl_isRedex r.redex g1.1.small) ?_
  cases h2 : dc (solid r.redex)
  · simp only [r_cons, r_nil, r_kont, r_seq1, r_seq3, r_fn2, r_rg, r_sq, r_rt, r_cd, r_cd2, r_op1, r_op1g, r_gd, r_go1, r_mv, r_nt, r_nt1, r_pk, r_pkt, r_pkf, r_fin, r_kfe1, r_kcx, r_exps0, r_exps1, r_kex, r_exp1, r_expv2, ptd, keyOf, freshK, lk, pt, addO, xv, kv, kc, ↓reduceIte, Nat.reduceEqDiff, Nat.reduceMul, reduceCtorEq, List.length_nil, Nat.reduceLT, true_and, and_true, noSh, isSc, impv, or_true, Bool.true_eq_false, Bool.not_false]
    rw [dc_false fun h : ruleOK sig r => dc_not.1 h2 h.sol]
  by_cases h3 : (0 : Int) < r.reactum.inner.length
  · simp only [h3, List.length_map, r_cons, r_nil, r_kont, r_seq1, r_seq3, r_fn2, r_rg, r_sq, r_rt, r_cd, r_cd2, r_op1, r_op1g, r_gd, r_go1, r_mv, r_bi, r_gti, r_nt, r_nt1, r_ln, r_ln1, r_pk, r_pkt, r_pkf, r_op3, r_fa, r_fa1, r_ltr, r_ld, r_ld1, r_fin, r_kfe1, r_kcx, r_exps0, r_exps1, r_kex, r_exp1, r_expv2, ptd, keyOf, freshK, lk, pt, addO, xv, kv, kc, ↓reduceIte, Nat.reduceEqDiff, Nat.reduceMul, reduceCtorEq, List.length_nil, Nat.reduceLT, true_and, and_true, decide_true, List.getElem?_cons_zero, List.drop_succ_cons, List.drop_zero, noSh, isSc, impv, or_true, Bool.true_eq_false, Bool.not_true, Bool.not_false, List.length_map]
    rw [dc_false fun h : ruleOK sig r => by have := h.inn; omega]
  by_cases h4 : r.redex.roots = r.reactum.roots
  case neg =>
    simp only [h3, h4, List.length_map, r_cons, r_nil, r_kont, r_seq1, r_seq3, r_fn2, r_rg, r_sq, r_rt, r_cd, r_cd2, r_op1, r_op1g, r_gd, r_go1, r_mv, r_bi, r_nei, r_gti, r_nt, r_nt1, r_ln, r_ln1, r_pk, r_pkt, r_pkf, r_op3, r_fa, r_fa1, r_ltr, r_ld, r_ld1, r_fin, r_kfe1, r_kcx, r_exps0, r_exps1, r_kex, r_exp1, r_expv2, ptd, keyOf, freshK, lk, pt, addO, xv, kv, kc, ↓reduceIte, Nat.reduceEqDiff, Nat.reduceMul, reduceCtorEq, List.length_nil, Nat.reduceLT, true_and, and_true, decide_true, decide_false, List.getElem?_cons_zero, List.drop_succ_cons, List.drop_zero, noSh, isSc, impv, or_true, Bool.true_eq_false, Bool.not_true, Bool.not_false, ne_eq, not_false_eq_true, List.length_map]
    rw [dc_false fun h : ruleOK sig r => h4 h.roots]
  have h4' : (r.redex.roots = r.reactum.roots) = True := eq_true h4
  simp only [h3, h4', List.length_map, r_cons, r_kont, r_op1, r_op1g, r_gd, r_go1, r_mv, r_bi, r_nei, r_gti, r_nt, r_nt1, r_ln, r_ln1, r_pk, r_pkf, r_op3, r_fa, r_fa1, r_ltr, r_ld, r_ld1, r_kcn, r_sn0, r_sn1, r_ca, r_ca1, ptd, keyOf, freshK, lk, pt, addO, xv, kv, kc, ↓reduceIte, Nat.reduceEqDiff, Nat.reduceMul, reduceCtorEq, List.length_nil, Nat.reduceLT, true_and, decide_false, List.map_cons, List.map_nil, List.cons_append, List.nil_append, List.getElem?_cons_zero, List.drop_succ_cons, List.drop_zero, mens, men, noSh, isSc, impv, or_true, Bool.not_true, ne_eq, not_true_eq_false, List.length_map, and_self]
  have o1 := g1.1.outer.2
  have o2 := g1.2.outer.2
  refine kca_intro (sem_eq1 g_eqS cmpTS r.redex.outer r.reactum.outer (by omega)) ?_
  by_cases h5 : r.redex.outer = r.reactum.outer
  case neg =>
    simp only [h5, r_cons, r_nil, r_kont, r_seq1, r_seq3, r_fn2, r_rg, r_sq, r_rt, r_cd, r_cd2, r_op1, r_op1g, r_gd, r_go1, r_mv, r_nt, r_nt1, r_pk, r_pkf, r_fin, r_kfe1, r_kcx, r_exps0, r_exps1, r_kex, r_exp1, r_expv2, ptd, keyOf, freshK, lk, pt, addO, xv, kv, kc, ↓reduceIte, Nat.reduceEqDiff, Nat.reduceMul, reduceCtorEq, List.length_nil, Nat.reduceLT, true_and, and_true, decide_false, noSh, isSc, impv, or_true, Bool.not_false]
    rw [dc_false fun h : ruleOK sig r => h5 h.outer]
  have h5' : (r.redex.outer = r.reactum.outer) = True := eq_true h5
  by_cases h6 : r.copies.length = r.reactum.sites.length
  case neg =>
    have h6' : ¬ (r.copies.length : Int) = r.reactum.sites.length := by omega
    simp only [h5', h6', List.length_map, r_cons, r_nil, r_kont, r_seq1, r_fn2, r_sk, r_rg, r_sq, r_rt, r_cd, r_cd2, r_op1, r_op1g, r_gd, r_go1, r_mv, r_bi, r_eqi, r_nt, r_nt1, r_ln, r_ln1, r_pk, r_pkf, r_op3, r_fa, r_fa1, r_ltr, r_ld, r_ld1, r_fin, r_kfe1, r_kcx, r_exps0, r_exps1, r_kex, r_exp1, r_expv2, ptd, keyOf, freshK, lk, pt, addO, xv, kv, kc, ↓reduceIte, Nat.reduceEqDiff, Nat.reduceMul, reduceCtorEq, List.length_nil, Nat.reduceLT, true_and, and_true, decide_true, decide_false, List.getElem?_cons_zero, List.drop_succ_cons, List.drop_zero, noSh, isSc, impv, or_true, Bool.false_eq_true, Bool.not_true, List.length_map]
    rw [dc_false fun h : ruleOK sig r => h6 h.len]
  have h6' : ((r.copies.length : Int) = r.reactum.sites.length) = True := eq_true (by omega)
  simp only [h5', h6', List.length_map, r_cons, r_nil, r_kont, r_seq1, r_sk, r_rg, r_sq, r_cd, r_cd2, r_op1, r_op1g, r_gd, r_go1, r_mv, r_bi, r_eqi, r_nt, r_nt1, r_mf, r_mf1, r_ln, r_ln1, r_pk, r_pkf, r_op3, r_fa, r_fa1, r_ltr, r_ld, r_ld1, r_kcn, r_kfnn, r_sn0, r_sn1, r_sn4, r_sn5, r_ca, r_ca1, ptd, keyOf, freshK, lk, pt, addO, xv, kv, kc, ↓reduceIte, Nat.reduceEqDiff, Nat.reduceMul, reduceCtorEq, List.length_nil, Nat.reduceLT, true_and, decide_true, List.map_cons, List.map_nil, List.cons_append, List.nil_append, List.getElem?_cons_zero, List.drop_succ_cons, List.drop_zero, mens, men, noSh, isSc, impv, or_true, Bool.false_eq_true, Bool.not_true, List.all_cons, List.all_nil, isCell, Bool.and_self, List.length_map, and_self]
  refine kca_intro (sem_coF1 (t := tv) (cs := [cRule r]) g_coFI g_ixFI r.copies (by omega) (fun x _ lvl S => sem_IsRule_1 x r d1.2.2.1 lvl S)) ?_
  cases h7 : r.copies.any fun k => !dc (copyOK r k)
  · simp only [r_cons, r_nil, r_kont, r_seq1, r_fn2, r_rt, r_op1, r_op1g, r_gd, r_go1, r_mv, r_nt, r_nt1, r_pk, r_pkt, r_fin, r_kfe1, r_kcx, r_exps0, r_exps1, r_kex, r_exp1, r_expv2, ptd, keyOf, freshK, lk, pt, addO, xv, kv, kc, ↓reduceIte, Nat.reduceEqDiff, Nat.reduceMul, reduceCtorEq, List.length_nil, Nat.reduceLT, true_and, and_true, noSh, isSc, impv, or_true, Bool.not_false]
    have : ruleOK sig r := ⟨g1.1, dc_iff.1 h2, g1.2, by omega, h4, h5, any_no.1 h7, h6⟩
    rw [dc_true this]
  · simp only [r_cons, r_nil, r_kont, r_seq1, r_fn2, r_rt, r_op1, r_op1g, r_gd, r_go1, r_mv, r_nt, r_nt1, r_pk, r_pkt, r_fin, r_kfe1, r_kcx, r_exps0, r_exps1, r_kex, r_exp1, r_expv2, ptd, keyOf, freshK, lk, pt, addO, xv, kv, kc, ↓reduceIte, Nat.reduceEqDiff, Nat.reduceMul, reduceCtorEq, List.length_nil, Nat.reduceLT, true_and, and_true, noSh, isSc, impv, or_true, Bool.not_true]
    rw [dc_false fun h : ruleOK sig r => by rw [any_no.2 h.copies] at h7; cases h7]
end Go.Fd

/-
  The annotated codes of the functions, printed by a program of mine (gen.py), and the check that they belong to the program.
-/
namespace Go.Fd
def c_laws_FnExactIsRule : F2 :=
  { nt := 45, res := [.t 4 [0]], body :=
   (.sq (.rg none [⟨some 3, none, .bt (.t 1)⟩,
      ⟨some 4, none, .mv (.k (.bool false)) none⟩])
   (.sq (.rg none [⟨some 5, none, .mv (.k (.int .i64 1048576)) none⟩])
   (.sq (.rg none [⟨some 10, none, .mv (.t 0) none⟩,
      ⟨some 11, none, .mv (.t 5) none⟩,
      ⟨some 12, none, .ca .pure false (.f fid_laws_szControlS) [.t 10, .t 11]⟩,
      ⟨some 5, none, .mv (.t 12) none⟩])
   (.sq (.sq (.rg none [⟨some 13, none, .mv (.t 5) none⟩,
       ⟨some 14, none, .bi .lss 0 (.t 13) (.k (.int .i64 0))⟩])
    (.cd (.t 14) (.sq (.rg none [⟨some 4, none, .mv (.k (.bool true)) none⟩])
     (.rt))
    (.sk)))
   (.sq (.rg none [⟨some 15, none, .ld (some 13) (.t 3)⟩,
      ⟨some 16, none, .mv (.t 5) none⟩,
      ⟨some 17, none, .ca .pure false (.f fid_laws_szRule) [.t 15, .t 16]⟩,
      ⟨some 5, none, .mv (.t 17) none⟩])
   (.sq (.sq (.rg none [⟨some 18, none, .mv (.t 5) none⟩,
       ⟨some 19, none, .bi .lss 0 (.t 18) (.k (.int .i64 0))⟩])
    (.cd (.t 19) (.sq (.rg none [⟨some 4, none, .mv (.k (.bool true)) none⟩])
     (.rt))
    (.sk)))
   (.sq (.rg (some 0) [⟨some 20, none, .mv (.t 0) none⟩,
      ⟨some 21, none, .ca .pure false (.f fid_laws_toControlS) [.t 20]⟩,
      ⟨some 22, none, .ld (some 13) (.t 3)⟩,
      ⟨some 23, none, .ca .pure false (.f fid_laws_toRule) [.t 22]⟩,
      ⟨some 24, none, .ca .pure false (.f fid_spec_IsRule) [.t 21, .t 23]⟩,
      ⟨some 6, none, .mv (.t 24) none⟩])
   (.sq (.rg none [⟨some 25, none, .mv (.t 0) none⟩,
      ⟨some 26, none, .ca .pure false (.f fid_laws_toControlS) [.t 25]⟩,
      ⟨some 7, none, .mv (.t 26) none⟩])
   (.sq (.rg none [⟨some 27, none, .ld (some 13) (.t 3)⟩,
      ⟨some 28, none, .ca .pure false (.f fid_laws_toRule) [.t 27]⟩,
      ⟨some 8, none, .al [.int .i64 0, .slice none 0 0, .slice none 0 0, .int .i64 0, .slice none 0 0, .slice none 0 0, .int .i64 0, .slice none 0 0, .slice none 0 0, .int .i64 0, .slice none 0 0, .slice none 0 0, .slice none 0 0] []⟩,
      ⟨none, none, .st 13 (.t 8) (.t 28)⟩])
   (.sq (.rg none [⟨some 29, none, .mv (.t 7) none⟩,
      ⟨some 30, none, .ld (some 13) (.t 8)⟩,
      ⟨some 31, none, .ca .pure false (.f fid_impl_IsRule) [.t 29, .t 30]⟩,
      ⟨some 9, none, .mv (.t 31) none⟩])
   (.sq (.sq (.rg none [⟨some 32, none, .mv (.t 9) none⟩,
       ⟨some 33, none, .mv (.t 6) none⟩,
       ⟨some 34, none, .bi .neq 2 (.t 32) (.t 33)⟩])
    (.cd (.t 34) (.sq (.rg none [⟨some 4, none, .mv (.k (.bool false)) none⟩])
     (.rt))
    (.sk)))
   (.sq (.sq (.rg none [⟨some 35, none, .mv (.t 7) none⟩,
       ⟨some 36, none, .mv (.t 0) none⟩,
       ⟨some 37, none, .ca .pure false (.f fid_laws_toControlS) [.t 36]⟩,
       ⟨some 38, none, .ca .pure false (.f fid_laws_eqControlS) [.t 35, .t 37]⟩,
       ⟨some 39, none, .nt (.t 38)⟩])
    (.cd (.t 39) (.sq (.rg none [⟨some 4, none, .mv (.k (.bool false)) none⟩])
     (.rt))
    (.sk)))
   (.sq (.sq (.rg (some 0) [⟨some 40, none, .ld (some 13) (.t 8)⟩,
       ⟨some 41, none, .ld (some 13) (.t 3)⟩,
       ⟨some 42, none, .ca .pure false (.f fid_laws_toRule) [.t 41]⟩,
       ⟨some 43, none, .ca .pure false (.f fid_laws_eqRule) [.t 40, .t 42]⟩,
       ⟨some 44, none, .nt (.t 43)⟩])
    (.cd (.t 44) (.sq (.rg none [⟨some 4, none, .mv (.k (.bool false)) none⟩])
     (.rt))
    (.sk)))
   (.sq (.rg none [⟨some 4, none, .mv (.k (.bool true)) none⟩])
   (.rt))))))))))))))) }
theorem k_laws_FnExactIsRule : chkF Go.Proofs.Tryd.prog fid_laws_FnExactIsRule c_laws_FnExactIsRule = true := by kernel_rfl

end Go.Fd

/-
  THE TEXT OF A MARK; THE MARKS OF NUMBERS AND TEXTS. Own work.
-/
namespace Go.Fd
set_option maxRecDepth 20000
def mt (q : Nat) (o : ByteArray) : ByteArray := if q = 0 then o else mt (q / 10) (⟨#[UInt8.ofNat (48 + q % 10)]⟩ ++ o)
  termination_by q
  decreasing_by omega
end Go.Fd

/-
  WHAT THE MARKING FUNCTIONS DO (printed by lawgen.py). Own work.
-/
namespace Go.Fd
set_option maxRecDepth 20000
end Go.Fd

/-
  The annotated codes of the functions, printed by a program of mine (gen.py), and the check that they belong to the program.
-/
namespace Go.Fd
def c_laws_szBigraph : F2 :=
  { nt := 30, res := [.t 4 [0]], body :=
   (.sq (.rg none [⟨some 2, none, .bt (.t 0)⟩,
      ⟨some 4, none, .mv (.k (.int .i64 0)) none⟩])
   (.sq (.rg none [⟨some 5, none, .fa 1 (.t 2)⟩,
      ⟨some 6, none, .ld none (.t 5)⟩,
      ⟨some 7, none, .mv (.t 1) none⟩,
      ⟨some 8, none, .ca .pure false (.f fid_laws_szNodeS) [.t 6, .t 7]⟩,
      ⟨some 1, none, .mv (.t 8) none⟩])
   (.sq (.sq (.rg none [⟨some 9, none, .mv (.t 1) none⟩,
       ⟨some 10, none, .bi .lss 0 (.t 9) (.k (.int .i64 0))⟩])
    (.cd (.t 10) (.sq (.rg none [⟨some 4, none, .mv (.k (.int .i64 (-1))) none⟩])
     (.rt))
    (.sk)))
   (.sq (.rg none [⟨some 11, none, .fa 2 (.t 2)⟩,
      ⟨some 12, none, .ld none (.t 11)⟩,
      ⟨some 13, none, .mv (.t 1) none⟩,
      ⟨some 14, none, .ca .pure false (.f fid_laws_szIntS) [.t 12, .t 13]⟩,
      ⟨some 1, none, .mv (.t 14) none⟩])
   (.sq (.sq (.rg none [⟨some 15, none, .mv (.t 1) none⟩,
       ⟨some 16, none, .bi .lss 0 (.t 15) (.k (.int .i64 0))⟩])
    (.cd (.t 16) (.sq (.rg none [⟨some 4, none, .mv (.k (.int .i64 (-1))) none⟩])
     (.rt))
    (.sk)))
   (.sq (.rg none [⟨some 17, none, .fa 4 (.t 2)⟩,
      ⟨some 18, none, .ld none (.t 17)⟩,
      ⟨some 19, none, .mv (.t 1) none⟩,
      ⟨some 20, none, .ca .pure false (.f fid_laws_szStringS) [.t 18, .t 19]⟩,
      ⟨some 1, none, .mv (.t 20) none⟩])
   (.sq (.sq (.rg none [⟨some 21, none, .mv (.t 1) none⟩,
       ⟨some 22, none, .bi .lss 0 (.t 21) (.k (.int .i64 0))⟩])
    (.cd (.t 22) (.sq (.rg none [⟨some 4, none, .mv (.k (.int .i64 (-1))) none⟩])
     (.rt))
    (.sk)))
   (.sq (.rg none [⟨some 23, none, .fa 5 (.t 2)⟩,
      ⟨some 24, none, .ld none (.t 23)⟩,
      ⟨some 25, none, .mv (.t 1) none⟩,
      ⟨some 26, none, .ca .pure false (.f fid_laws_szWireS) [.t 24, .t 25]⟩,
      ⟨some 1, none, .mv (.t 26) none⟩])
   (.sq (.sq (.rg none [⟨some 27, none, .mv (.t 1) none⟩,
       ⟨some 28, none, .bi .lss 0 (.t 27) (.k (.int .i64 0))⟩])
    (.cd (.t 28) (.sq (.rg none [⟨some 4, none, .mv (.k (.int .i64 (-1))) none⟩])
     (.rt))
    (.sk)))
   (.sq (.rg none [⟨some 29, none, .mv (.t 1) none⟩,
      ⟨some 4, none, .mv (.t 29) none⟩])
   (.rt))))))))))) }
theorem k_laws_szBigraph : chkF Go.Proofs.Tryd.prog fid_laws_szBigraph c_laws_szBigraph = true := by kernel_rfl

def c_laws_toControlS : F2 :=
  { nt := 23, res := [.t 2 [4]], body :=
   (.sq (.rg none [⟨some 2, none, .mv (.k (.slice none 0 0)) none⟩])
   (.sq (.rg none [⟨some 5, none, .mv (.t 0) none⟩,
      ⟨some 6, none, .ln (.t 5)⟩,
      ⟨some 7, none, .ms 3 [.string ⟨#[]⟩, .int .i64 0, .int .i64 0] (.t 6)⟩,
      ⟨some 3, none, .mv (.t 7) none⟩])
   (.sq (.sq (.rg none [⟨some 4, none, .mv (.k (.int .i64 0)) none⟩])
    (.bl 0 (.lp [0, 3, 4] [224] (.sq (.sq (.rg none [⟨some 8, none, .mv (.t 4) none⟩,
          ⟨some 9, none, .mv (.t 0) none⟩,
          ⟨some 10, none, .ln (.t 9)⟩,
          ⟨some 11, none, .bi .lss 0 (.t 8) (.t 10)⟩])
       (.cd (.t 11) (.sk)
       (.ex 0)))
      (.sq (.bl 1 (.rg none [⟨some 14, none, .mv (.t 3) none⟩,
          ⟨some 15, none, .mv (.t 4) none⟩,
          ⟨some 16, none, .mv (.t 0) none⟩,
          ⟨some 17, none, .mv (.t 4) none⟩,
          ⟨some 18, none, .ia 3 (.t 16) (.t 17)⟩,
          ⟨some 19, none, .ld (some 3) (.t 18)⟩,
          ⟨some 20, none, .ca .pure true (.f fid_laws_toControl) [.t 19]⟩,
          ⟨some 21, none, .ia 3 (.t 14) (.t 15)⟩,
          ⟨none, none, .st 3 (.t 21) (.t 20)⟩]))
      (.rg none [⟨some 12, none, .mv (.t 4) none⟩,
        ⟨some 13, none, .bi .add 0 (.t 12) (.k (.int .i64 1))⟩,
        ⟨some 4, none, .mv (.t 13) none⟩]))))))
   (.sq (.rg none [⟨some 22, none, .mv (.t 3) none⟩,
      ⟨some 2, none, .mv (.t 22) none⟩])
   (.rt))))) }
theorem k_laws_toControlS : chkF Go.Proofs.Tryd.prog fid_laws_toControlS c_laws_toControlS = true := by kernel_rfl

def c_laws_toBigraph : F2 :=
  { nt := 27, res := [.c 2 (some 6) [0, 4, 2, 0, 2, 3]], body :=
   (.sq (.rg none [⟨some 1, none, .bt (.t 0)⟩,
      ⟨some 2, none, .al [.int .i64 0, .slice none 0 0, .slice none 0 0, .int .i64 0, .slice none 0 0, .slice none 0 0] []⟩])
   (.sq (.rg none [⟨some 3, none, .al [.int .i64 0, .slice none 0 0, .slice none 0 0, .int .i64 0, .slice none 0 0, .slice none 0 0] []⟩])
   (.sq (.rg none [⟨some 4, none, .fa 0 (.t 1)⟩,
      ⟨some 5, none, .ld none (.t 4)⟩,
      ⟨some 6, none, .fa 0 (.t 3)⟩,
      ⟨none, none, .st 1 (.t 6) (.t 5)⟩])
   (.sq (.rg none [⟨some 7, none, .fa 1 (.t 1)⟩,
      ⟨some 8, none, .ld none (.t 7)⟩,
      ⟨some 9, none, .ca .pure true (.f fid_laws_toNodeS) [.t 8]⟩,
      ⟨some 10, none, .fa 1 (.t 3)⟩,
      ⟨none, none, .st 1 (.t 10) (.t 9)⟩])
   (.sq (.rg none [⟨some 11, none, .fa 2 (.t 1)⟩,
      ⟨some 12, none, .ld none (.t 11)⟩,
      ⟨some 13, none, .ca .pure true (.f fid_laws_toIntS) [.t 12]⟩,
      ⟨some 14, none, .fa 2 (.t 3)⟩,
      ⟨none, none, .st 1 (.t 14) (.t 13)⟩])
   (.sq (.rg none [⟨some 15, none, .fa 3 (.t 1)⟩,
      ⟨some 16, none, .ld none (.t 15)⟩,
      ⟨some 17, none, .fa 3 (.t 3)⟩,
      ⟨none, none, .st 1 (.t 17) (.t 16)⟩])
   (.sq (.rg none [⟨some 18, none, .fa 4 (.t 1)⟩,
      ⟨some 19, none, .ld none (.t 18)⟩,
      ⟨some 20, none, .ca .pure true (.f fid_laws_toStringS) [.t 19]⟩,
      ⟨some 21, none, .fa 4 (.t 3)⟩,
      ⟨none, none, .st 1 (.t 21) (.t 20)⟩])
   (.sq (.rg none [⟨some 22, none, .fa 5 (.t 1)⟩,
      ⟨some 23, none, .ld none (.t 22)⟩,
      ⟨some 24, none, .ca .pure true (.f fid_laws_toWireS) [.t 23]⟩,
      ⟨some 25, none, .fa 5 (.t 3)⟩,
      ⟨none, none, .st 1 (.t 25) (.t 24)⟩])
   (.sq (.rg none [⟨some 26, none, .ld (some 6) (.t 3)⟩,
      ⟨none, none, .st 6 (.t 2) (.t 26)⟩])
   (.rt)))))))))) }
theorem k_laws_toBigraph : chkF Go.Proofs.Tryd.prog fid_laws_toBigraph c_laws_toBigraph = true := by kernel_rfl

def c_laws_eqBigraph : F2 :=
  { nt := 39, res := [.t 4 [0]], body :=
   (.sq (.rg none [⟨some 2, none, .bt (.t 0)⟩,
      ⟨some 3, none, .bt (.t 1)⟩,
      ⟨some 4, none, .mv (.k (.bool false)) none⟩])
   (.sq (.sq (.rg none [⟨some 5, none, .fa 0 (.t 2)⟩,
       ⟨some 6, none, .ld none (.t 5)⟩,
       ⟨some 7, none, .fa 0 (.t 3)⟩,
       ⟨some 8, none, .ld none (.t 7)⟩,
       ⟨some 9, none, .bi .neq 0 (.t 6) (.t 8)⟩])
    (.cd (.t 9) (.sq (.rg none [⟨some 4, none, .mv (.k (.bool false)) none⟩])
     (.rt))
    (.sk)))
   (.sq (.sq (.rg none [⟨some 10, none, .fa 1 (.t 2)⟩,
       ⟨some 11, none, .ld none (.t 10)⟩,
       ⟨some 12, none, .fa 1 (.t 3)⟩,
       ⟨some 13, none, .ld none (.t 12)⟩,
       ⟨some 14, none, .ca .pure false (.f fid_laws_eqNodeS) [.t 11, .t 13]⟩,
       ⟨some 15, none, .nt (.t 14)⟩])
    (.cd (.t 15) (.sq (.rg none [⟨some 4, none, .mv (.k (.bool false)) none⟩])
     (.rt))
    (.sk)))
   (.sq (.sq (.rg none [⟨some 16, none, .fa 2 (.t 2)⟩,
       ⟨some 17, none, .ld none (.t 16)⟩,
       ⟨some 18, none, .fa 2 (.t 3)⟩,
       ⟨some 19, none, .ld none (.t 18)⟩,
       ⟨some 20, none, .ca .pure false (.f fid_laws_eqIntS) [.t 17, .t 19]⟩,
       ⟨some 21, none, .nt (.t 20)⟩])
    (.cd (.t 21) (.sq (.rg none [⟨some 4, none, .mv (.k (.bool false)) none⟩])
     (.rt))
    (.sk)))
   (.sq (.sq (.rg none [⟨some 22, none, .fa 3 (.t 2)⟩,
       ⟨some 23, none, .ld none (.t 22)⟩,
       ⟨some 24, none, .fa 3 (.t 3)⟩,
       ⟨some 25, none, .ld none (.t 24)⟩,
       ⟨some 26, none, .bi .neq 0 (.t 23) (.t 25)⟩])
    (.cd (.t 26) (.sq (.rg none [⟨some 4, none, .mv (.k (.bool false)) none⟩])
     (.rt))
    (.sk)))
   (.sq (.sq (.rg none [⟨some 27, none, .fa 4 (.t 2)⟩,
       ⟨some 28, none, .ld none (.t 27)⟩,
       ⟨some 29, none, .fa 4 (.t 3)⟩,
       ⟨some 30, none, .ld none (.t 29)⟩,
       ⟨some 31, none, .ca .pure false (.f fid_laws_eqStringS) [.t 28, .t 30]⟩,
       ⟨some 32, none, .nt (.t 31)⟩])
    (.cd (.t 32) (.sq (.rg none [⟨some 4, none, .mv (.k (.bool false)) none⟩])
     (.rt))
    (.sk)))
   (.sq (.sq (.rg none [⟨some 33, none, .fa 5 (.t 2)⟩,
       ⟨some 34, none, .ld none (.t 33)⟩,
       ⟨some 35, none, .fa 5 (.t 3)⟩,
       ⟨some 36, none, .ld none (.t 35)⟩,
       ⟨some 37, none, .ca .pure false (.f fid_laws_eqWireS) [.t 34, .t 36]⟩,
       ⟨some 38, none, .nt (.t 37)⟩])
    (.cd (.t 38) (.sq (.rg none [⟨some 4, none, .mv (.k (.bool false)) none⟩])
     (.rt))
    (.sk)))
   (.sq (.rg none [⟨some 4, none, .mv (.k (.bool true)) none⟩])
   (.rt))))))))) }
theorem k_laws_eqBigraph : chkF Go.Proofs.Tryd.prog fid_laws_eqBigraph c_laws_eqBigraph = true := by kernel_rfl

def c_laws_szRule : F2 :=
  { nt := 24, res := [.t 4 [0]], body :=
   (.sq (.rg none [⟨some 2, none, .bt (.t 0)⟩,
      ⟨some 4, none, .mv (.k (.int .i64 0)) none⟩])
   (.sq (.rg none [⟨some 5, none, .fa 0 (.t 2)⟩,
      ⟨some 6, none, .ld (some 6) (.t 5)⟩,
      ⟨some 7, none, .mv (.t 1) none⟩,
      ⟨some 8, none, .ca .pure false (.f fid_laws_szBigraph) [.t 6, .t 7]⟩,
      ⟨some 1, none, .mv (.t 8) none⟩])
   (.sq (.sq (.rg none [⟨some 9, none, .mv (.t 1) none⟩,
       ⟨some 10, none, .bi .lss 0 (.t 9) (.k (.int .i64 0))⟩])
    (.cd (.t 10) (.sq (.rg none [⟨some 4, none, .mv (.k (.int .i64 (-1))) none⟩])
     (.rt))
    (.sk)))
   (.sq (.rg none [⟨some 11, none, .fa 6 (.t 2)⟩,
      ⟨some 12, none, .ld (some 6) (.t 11)⟩,
      ⟨some 13, none, .mv (.t 1) none⟩,
      ⟨some 14, none, .ca .pure false (.f fid_laws_szBigraph) [.t 12, .t 13]⟩,
      ⟨some 1, none, .mv (.t 14) none⟩])
   (.sq (.sq (.rg none [⟨some 15, none, .mv (.t 1) none⟩,
       ⟨some 16, none, .bi .lss 0 (.t 15) (.k (.int .i64 0))⟩])
    (.cd (.t 16) (.sq (.rg none [⟨some 4, none, .mv (.k (.int .i64 (-1))) none⟩])
     (.rt))
    (.sk)))
   (.sq (.rg none [⟨some 17, none, .fa 12 (.t 2)⟩,
      ⟨some 18, none, .ld none (.t 17)⟩,
      ⟨some 19, none, .mv (.t 1) none⟩,
      ⟨some 20, none, .ca .pure false (.f fid_laws_szIntS) [.t 18, .t 19]⟩,
      ⟨some 1, none, .mv (.t 20) none⟩])
   (.sq (.sq (.rg none [⟨some 21, none, .mv (.t 1) none⟩,
       ⟨some 22, none, .bi .lss 0 (.t 21) (.k (.int .i64 0))⟩])
    (.cd (.t 22) (.sq (.rg none [⟨some 4, none, .mv (.k (.int .i64 (-1))) none⟩])
     (.rt))
    (.sk)))
   (.sq (.rg none [⟨some 23, none, .mv (.t 1) none⟩,
      ⟨some 4, none, .mv (.t 23) none⟩])
   (.rt))))))))) }
theorem k_laws_szRule : chkF Go.Proofs.Tryd.prog fid_laws_szRule c_laws_szRule = true := by kernel_rfl

def c_laws_toRule : F2 :=
  { nt := 17, res := [.c 2 (some 13) [0, 0, 0, 0, 0, 0, 0, 0, 0, 0, 0, 0, 2]], body :=
   (.sq (.rg none [⟨some 1, none, .bt (.t 0)⟩,
      ⟨some 2, none, .al [.int .i64 0, .slice none 0 0, .slice none 0 0, .int .i64 0, .slice none 0 0, .slice none 0 0, .int .i64 0, .slice none 0 0, .slice none 0 0, .int .i64 0, .slice none 0 0, .slice none 0 0, .slice none 0 0] []⟩])
   (.sq (.rg none [⟨some 3, none, .al [.int .i64 0, .slice none 0 0, .slice none 0 0, .int .i64 0, .slice none 0 0, .slice none 0 0, .int .i64 0, .slice none 0 0, .slice none 0 0, .int .i64 0, .slice none 0 0, .slice none 0 0, .slice none 0 0] []⟩])
   (.sq (.rg none [⟨some 4, none, .fa 0 (.t 1)⟩,
      ⟨some 5, none, .ld (some 6) (.t 4)⟩,
      ⟨some 6, none, .ca .pure true (.f fid_laws_toBigraph) [.t 5]⟩,
      ⟨some 7, none, .fa 0 (.t 3)⟩,
      ⟨none, none, .st 6 (.t 7) (.t 6)⟩])
   (.sq (.rg none [⟨some 8, none, .fa 6 (.t 1)⟩,
      ⟨some 9, none, .ld (some 6) (.t 8)⟩,
      ⟨some 10, none, .ca .pure true (.f fid_laws_toBigraph) [.t 9]⟩,
      ⟨some 11, none, .fa 6 (.t 3)⟩,
      ⟨none, none, .st 6 (.t 11) (.t 10)⟩])
   (.sq (.rg none [⟨some 12, none, .fa 12 (.t 1)⟩,
      ⟨some 13, none, .ld none (.t 12)⟩,
      ⟨some 14, none, .ca .pure true (.f fid_laws_toIntS) [.t 13]⟩,
      ⟨some 15, none, .fa 12 (.t 3)⟩,
      ⟨none, none, .st 1 (.t 15) (.t 14)⟩])
   (.sq (.rg none [⟨some 16, none, .ld (some 13) (.t 3)⟩,
      ⟨none, none, .st 13 (.t 2) (.t 16)⟩])
   (.rt))))))) }
theorem k_laws_toRule : chkF Go.Proofs.Tryd.prog fid_laws_toRule c_laws_toRule = true := by kernel_rfl

def c_laws_eqRule : F2 :=
  { nt := 23, res := [.t 4 [0]], body :=
   (.sq (.rg none [⟨some 2, none, .bt (.t 0)⟩,
      ⟨some 3, none, .bt (.t 1)⟩,
      ⟨some 4, none, .mv (.k (.bool false)) none⟩])
   (.sq (.sq (.rg none [⟨some 5, none, .fa 0 (.t 2)⟩,
       ⟨some 6, none, .ld (some 6) (.t 5)⟩,
       ⟨some 7, none, .fa 0 (.t 3)⟩,
       ⟨some 8, none, .ld (some 6) (.t 7)⟩,
       ⟨some 9, none, .ca .pure false (.f fid_laws_eqBigraph) [.t 6, .t 8]⟩,
       ⟨some 10, none, .nt (.t 9)⟩])
    (.cd (.t 10) (.sq (.rg none [⟨some 4, none, .mv (.k (.bool false)) none⟩])
     (.rt))
    (.sk)))
   (.sq (.sq (.rg none [⟨some 11, none, .fa 6 (.t 2)⟩,
       ⟨some 12, none, .ld (some 6) (.t 11)⟩,
       ⟨some 13, none, .fa 6 (.t 3)⟩,
       ⟨some 14, none, .ld (some 6) (.t 13)⟩,
       ⟨some 15, none, .ca .pure false (.f fid_laws_eqBigraph) [.t 12, .t 14]⟩,
       ⟨some 16, none, .nt (.t 15)⟩])
    (.cd (.t 16) (.sq (.rg none [⟨some 4, none, .mv (.k (.bool false)) none⟩])
     (.rt))
    (.sk)))
   (.sq (.sq (.rg none [⟨some 17, none, .fa 12 (.t 2)⟩,
       ⟨some 18, none, .ld none (.t 17)⟩,
       ⟨some 19, none, .fa 12 (.t 3)⟩,
       ⟨some 20, none, .ld none (.t 19)⟩,
       ⟨some 21, none, .ca .pure false (.f fid_laws_eqIntS) [.t 18, .t 20]⟩,
       ⟨some 22, none, .nt (.t 21)⟩])
    (.cd (.t 22) (.sq (.rg none [⟨some 4, none, .mv (.k (.bool false)) none⟩])
     (.rt))
    (.sk)))
   (.sq (.rg none [⟨some 4, none, .mv (.k (.bool true)) none⟩])
   (.rt)))))) }
theorem k_laws_eqRule : chkF Go.Proofs.Tryd.prog fid_laws_eqRule c_laws_eqRule = true := by kernel_rfl

def c_laws_szControl : F2 :=
  { nt := 13, res := [.t 4 [0]], body :=
   (.sq (.rg none [⟨some 2, none, .bt (.t 0)⟩,
      ⟨some 4, none, .mv (.k (.int .i64 0)) none⟩])
   (.sq (.rg none [⟨some 5, none, .mv (.t 1) none⟩,
      ⟨some 6, none, .fa 0 (.t 2)⟩,
      ⟨some 7, none, .ld none (.t 6)⟩,
      ⟨some 8, none, .lg (.t 7)⟩,
      ⟨some 9, none, .bi .sub 0 (.t 5) (.t 8)⟩,
      ⟨some 1, none, .mv (.t 9) none⟩])
   (.sq (.sq (.rg none [⟨some 10, none, .mv (.t 1) none⟩,
       ⟨some 11, none, .bi .lss 0 (.t 10) (.k (.int .i64 0))⟩])
    (.cd (.t 11) (.sq (.rg none [⟨some 4, none, .mv (.k (.int .i64 (-1))) none⟩])
     (.rt))
    (.sk)))
   (.sq (.rg none [⟨some 12, none, .mv (.t 1) none⟩,
      ⟨some 4, none, .mv (.t 12) none⟩])
   (.rt))))) }
theorem k_laws_szControl : chkF Go.Proofs.Tryd.prog fid_laws_szControl c_laws_szControl = true := by kernel_rfl

def c_laws_toControl : F2 :=
  { nt := 14, res := [.c 2 (some 3) [0, 0, 0]], body :=
   (.sq (.rg none [⟨some 1, none, .bt (.t 0)⟩,
      ⟨some 2, none, .al [.string ⟨#[]⟩, .int .i64 0, .int .i64 0] []⟩])
   (.sq (.rg none [⟨some 3, none, .al [.string ⟨#[]⟩, .int .i64 0, .int .i64 0] []⟩])
   (.sq (.rg none [⟨some 4, none, .fa 0 (.t 1)⟩,
      ⟨some 5, none, .ld none (.t 4)⟩,
      ⟨some 6, none, .fa 0 (.t 3)⟩,
      ⟨none, none, .st 1 (.t 6) (.t 5)⟩])
   (.sq (.rg none [⟨some 7, none, .fa 1 (.t 1)⟩,
      ⟨some 8, none, .ld none (.t 7)⟩,
      ⟨some 9, none, .fa 1 (.t 3)⟩,
      ⟨none, none, .st 1 (.t 9) (.t 8)⟩])
   (.sq (.rg none [⟨some 10, none, .fa 2 (.t 1)⟩,
      ⟨some 11, none, .ld none (.t 10)⟩,
      ⟨some 12, none, .fa 2 (.t 3)⟩,
      ⟨none, none, .st 1 (.t 12) (.t 11)⟩])
   (.sq (.rg none [⟨some 13, none, .ld (some 3) (.t 3)⟩,
      ⟨none, none, .st 3 (.t 2) (.t 13)⟩])
   (.rt))))))) }
theorem k_laws_toControl : chkF Go.Proofs.Tryd.prog fid_laws_toControl c_laws_toControl = true := by kernel_rfl

def c_laws_toNodeS : F2 :=
  { nt := 23, res := [.t 2 [4]], body :=
   (.sq (.rg none [⟨some 2, none, .mv (.k (.slice none 0 0)) none⟩])
   (.sq (.rg none [⟨some 5, none, .mv (.t 0) none⟩,
      ⟨some 6, none, .ln (.t 5)⟩,
      ⟨some 7, none, .ms 3 [.int .i64 0, .int .i64 0, .slice none 0 0] (.t 6)⟩,
      ⟨some 3, none, .mv (.t 7) none⟩])
   (.sq (.sq (.rg none [⟨some 4, none, .mv (.k (.int .i64 0)) none⟩])
    (.bl 0 (.lp [0, 3, 4] [224, 640] (.sq (.sq (.rg none [⟨some 8, none, .mv (.t 4) none⟩,
          ⟨some 9, none, .mv (.t 0) none⟩,
          ⟨some 10, none, .ln (.t 9)⟩,
          ⟨some 11, none, .bi .lss 0 (.t 8) (.t 10)⟩])
       (.cd (.t 11) (.sk)
       (.ex 0)))
      (.sq (.bl 1 (.rg none [⟨some 14, none, .mv (.t 3) none⟩,
          ⟨some 15, none, .mv (.t 4) none⟩,
          ⟨some 16, none, .mv (.t 0) none⟩,
          ⟨some 17, none, .mv (.t 4) none⟩,
          ⟨some 18, none, .ia 3 (.t 16) (.t 17)⟩,
          ⟨some 19, none, .ld (some 3) (.t 18)⟩,
          ⟨some 20, none, .ca .pure true (.f fid_laws_toNode) [.t 19]⟩,
          ⟨some 21, none, .ia 3 (.t 14) (.t 15)⟩,
          ⟨none, none, .st 3 (.t 21) (.t 20)⟩]))
      (.rg none [⟨some 12, none, .mv (.t 4) none⟩,
        ⟨some 13, none, .bi .add 0 (.t 12) (.k (.int .i64 1))⟩,
        ⟨some 4, none, .mv (.t 13) none⟩]))))))
   (.sq (.rg none [⟨some 22, none, .mv (.t 3) none⟩,
      ⟨some 2, none, .mv (.t 22) none⟩])
   (.rt))))) }
theorem k_laws_toNodeS : chkF Go.Proofs.Tryd.prog fid_laws_toNodeS c_laws_toNodeS = true := by kernel_rfl

def c_laws_toWireS : F2 :=
  { nt := 23, res := [.t 2 [3]], body :=
   (.sq (.rg none [⟨some 2, none, .mv (.k (.slice none 0 0)) none⟩])
   (.sq (.rg none [⟨some 5, none, .mv (.t 0) none⟩,
      ⟨some 6, none, .ln (.t 5)⟩,
      ⟨some 7, none, .ms 2 [.string ⟨#[]⟩, .int .i64 0] (.t 6)⟩,
      ⟨some 3, none, .mv (.t 7) none⟩])
   (.sq (.sq (.rg none [⟨some 4, none, .mv (.k (.int .i64 0)) none⟩])
    (.bl 0 (.lp [0, 3, 4] [224] (.sq (.sq (.rg none [⟨some 8, none, .mv (.t 4) none⟩,
          ⟨some 9, none, .mv (.t 0) none⟩,
          ⟨some 10, none, .ln (.t 9)⟩,
          ⟨some 11, none, .bi .lss 0 (.t 8) (.t 10)⟩])
       (.cd (.t 11) (.sk)
       (.ex 0)))
      (.sq (.bl 1 (.rg none [⟨some 14, none, .mv (.t 3) none⟩,
          ⟨some 15, none, .mv (.t 4) none⟩,
          ⟨some 16, none, .mv (.t 0) none⟩,
          ⟨some 17, none, .mv (.t 4) none⟩,
          ⟨some 18, none, .ia 2 (.t 16) (.t 17)⟩,
          ⟨some 19, none, .ld (some 2) (.t 18)⟩,
          ⟨some 20, none, .ca .pure true (.f fid_laws_toWire) [.t 19]⟩,
          ⟨some 21, none, .ia 2 (.t 14) (.t 15)⟩,
          ⟨none, none, .st 2 (.t 21) (.t 20)⟩]))
      (.rg none [⟨some 12, none, .mv (.t 4) none⟩,
        ⟨some 13, none, .bi .add 0 (.t 12) (.k (.int .i64 1))⟩,
        ⟨some 4, none, .mv (.t 13) none⟩]))))))
   (.sq (.rg none [⟨some 22, none, .mv (.t 3) none⟩,
      ⟨some 2, none, .mv (.t 22) none⟩])
   (.rt))))) }
theorem k_laws_toWireS : chkF Go.Proofs.Tryd.prog fid_laws_toWireS c_laws_toWireS = true := by kernel_rfl

def c_laws_eqControl : F2 :=
  { nt := 20, res := [.t 4 [0]], body :=
   (.sq (.rg none [⟨some 2, none, .bt (.t 0)⟩,
      ⟨some 3, none, .bt (.t 1)⟩,
      ⟨some 4, none, .mv (.k (.bool false)) none⟩])
   (.sq (.sq (.rg none [⟨some 5, none, .fa 0 (.t 2)⟩,
       ⟨some 6, none, .ld none (.t 5)⟩,
       ⟨some 7, none, .fa 0 (.t 3)⟩,
       ⟨some 8, none, .ld none (.t 7)⟩,
       ⟨some 9, none, .bi .neq 0 (.t 6) (.t 8)⟩])
    (.cd (.t 9) (.sq (.rg none [⟨some 4, none, .mv (.k (.bool false)) none⟩])
     (.rt))
    (.sk)))
   (.sq (.sq (.rg none [⟨some 10, none, .fa 1 (.t 2)⟩,
       ⟨some 11, none, .ld none (.t 10)⟩,
       ⟨some 12, none, .fa 1 (.t 3)⟩,
       ⟨some 13, none, .ld none (.t 12)⟩,
       ⟨some 14, none, .bi .neq 0 (.t 11) (.t 13)⟩])
    (.cd (.t 14) (.sq (.rg none [⟨some 4, none, .mv (.k (.bool false)) none⟩])
     (.rt))
    (.sk)))
   (.sq (.sq (.rg none [⟨some 15, none, .fa 2 (.t 2)⟩,
       ⟨some 16, none, .ld none (.t 15)⟩,
       ⟨some 17, none, .fa 2 (.t 3)⟩,
       ⟨some 18, none, .ld none (.t 17)⟩,
       ⟨some 19, none, .bi .neq 0 (.t 16) (.t 18)⟩])
    (.cd (.t 19) (.sq (.rg none [⟨some 4, none, .mv (.k (.bool false)) none⟩])
     (.rt))
    (.sk)))
   (.sq (.rg none [⟨some 4, none, .mv (.k (.bool true)) none⟩])
   (.rt)))))) }
theorem k_laws_eqControl : chkF Go.Proofs.Tryd.prog fid_laws_eqControl c_laws_eqControl = true := by kernel_rfl

def c_laws_szNode : F2 :=
  { nt := 12, res := [.t 4 [0]], body :=
   (.sq (.rg none [⟨some 2, none, .bt (.t 0)⟩,
      ⟨some 4, none, .mv (.k (.int .i64 0)) none⟩])
   (.sq (.rg none [⟨some 5, none, .fa 2 (.t 2)⟩,
      ⟨some 6, none, .ld none (.t 5)⟩,
      ⟨some 7, none, .mv (.t 1) none⟩,
      ⟨some 8, none, .ca .pure false (.f fid_laws_szIntS) [.t 6, .t 7]⟩,
      ⟨some 1, none, .mv (.t 8) none⟩])
   (.sq (.sq (.rg none [⟨some 9, none, .mv (.t 1) none⟩,
       ⟨some 10, none, .bi .lss 0 (.t 9) (.k (.int .i64 0))⟩])
    (.cd (.t 10) (.sq (.rg none [⟨some 4, none, .mv (.k (.int .i64 (-1))) none⟩])
     (.rt))
    (.sk)))
   (.sq (.rg none [⟨some 11, none, .mv (.t 1) none⟩,
      ⟨some 4, none, .mv (.t 11) none⟩])
   (.rt))))) }
theorem k_laws_szNode : chkF Go.Proofs.Tryd.prog fid_laws_szNode c_laws_szNode = true := by kernel_rfl

def c_laws_szWire : F2 :=
  { nt := 13, res := [.t 4 [0]], body :=
   (.sq (.rg none [⟨some 2, none, .bt (.t 0)⟩,
      ⟨some 4, none, .mv (.k (.int .i64 0)) none⟩])
   (.sq (.rg none [⟨some 5, none, .mv (.t 1) none⟩,
      ⟨some 6, none, .fa 0 (.t 2)⟩,
      ⟨some 7, none, .ld none (.t 6)⟩,
      ⟨some 8, none, .lg (.t 7)⟩,
      ⟨some 9, none, .bi .sub 0 (.t 5) (.t 8)⟩,
      ⟨some 1, none, .mv (.t 9) none⟩])
   (.sq (.sq (.rg none [⟨some 10, none, .mv (.t 1) none⟩,
       ⟨some 11, none, .bi .lss 0 (.t 10) (.k (.int .i64 0))⟩])
    (.cd (.t 11) (.sq (.rg none [⟨some 4, none, .mv (.k (.int .i64 (-1))) none⟩])
     (.rt))
    (.sk)))
   (.sq (.rg none [⟨some 12, none, .mv (.t 1) none⟩,
      ⟨some 4, none, .mv (.t 12) none⟩])
   (.rt))))) }
theorem k_laws_szWire : chkF Go.Proofs.Tryd.prog fid_laws_szWire c_laws_szWire = true := by kernel_rfl

def c_laws_toNode : F2 :=
  { nt := 15, res := [.c 2 (some 3) [0, 0, 2]], body :=
   (.sq (.rg none [⟨some 1, none, .bt (.t 0)⟩,
      ⟨some 2, none, .al [.int .i64 0, .int .i64 0, .slice none 0 0] []⟩])
   (.sq (.rg none [⟨some 3, none, .al [.int .i64 0, .int .i64 0, .slice none 0 0] []⟩])
   (.sq (.rg none [⟨some 4, none, .fa 0 (.t 1)⟩,
      ⟨some 5, none, .ld none (.t 4)⟩,
      ⟨some 6, none, .fa 0 (.t 3)⟩,
      ⟨none, none, .st 1 (.t 6) (.t 5)⟩])
   (.sq (.rg none [⟨some 7, none, .fa 1 (.t 1)⟩,
      ⟨some 8, none, .ld none (.t 7)⟩,
      ⟨some 9, none, .fa 1 (.t 3)⟩,
      ⟨none, none, .st 1 (.t 9) (.t 8)⟩])
   (.sq (.rg none [⟨some 10, none, .fa 2 (.t 1)⟩,
      ⟨some 11, none, .ld none (.t 10)⟩,
      ⟨some 12, none, .ca .pure true (.f fid_laws_toIntS) [.t 11]⟩,
      ⟨some 13, none, .fa 2 (.t 3)⟩,
      ⟨none, none, .st 1 (.t 13) (.t 12)⟩])
   (.sq (.rg none [⟨some 14, none, .ld (some 3) (.t 3)⟩,
      ⟨none, none, .st 3 (.t 2) (.t 14)⟩])
   (.rt))))))) }
theorem k_laws_toNode : chkF Go.Proofs.Tryd.prog fid_laws_toNode c_laws_toNode = true := by kernel_rfl

def c_laws_toWire : F2 :=
  { nt := 11, res := [.c 2 (some 2) [0, 0]], body :=
   (.sq (.rg none [⟨some 1, none, .bt (.t 0)⟩,
      ⟨some 2, none, .al [.string ⟨#[]⟩, .int .i64 0] []⟩])
   (.sq (.rg none [⟨some 3, none, .al [.string ⟨#[]⟩, .int .i64 0] []⟩])
   (.sq (.rg none [⟨some 4, none, .fa 0 (.t 1)⟩,
      ⟨some 5, none, .ld none (.t 4)⟩,
      ⟨some 6, none, .fa 0 (.t 3)⟩,
      ⟨none, none, .st 1 (.t 6) (.t 5)⟩])
   (.sq (.rg none [⟨some 7, none, .fa 1 (.t 1)⟩,
      ⟨some 8, none, .ld none (.t 7)⟩,
      ⟨some 9, none, .fa 1 (.t 3)⟩,
      ⟨none, none, .st 1 (.t 9) (.t 8)⟩])
   (.sq (.rg none [⟨some 10, none, .ld (some 2) (.t 3)⟩,
      ⟨none, none, .st 2 (.t 2) (.t 10)⟩])
   (.rt)))))) }
theorem k_laws_toWire : chkF Go.Proofs.Tryd.prog fid_laws_toWire c_laws_toWire = true := by kernel_rfl

def c_laws_eqNode : F2 :=
  { nt := 21, res := [.t 4 [0]], body :=
   (.sq (.rg none [⟨some 2, none, .bt (.t 0)⟩,
      ⟨some 3, none, .bt (.t 1)⟩,
      ⟨some 4, none, .mv (.k (.bool false)) none⟩])
   (.sq (.sq (.rg none [⟨some 5, none, .fa 0 (.t 2)⟩,
       ⟨some 6, none, .ld none (.t 5)⟩,
       ⟨some 7, none, .fa 0 (.t 3)⟩,
       ⟨some 8, none, .ld none (.t 7)⟩,
       ⟨some 9, none, .bi .neq 0 (.t 6) (.t 8)⟩])
    (.cd (.t 9) (.sq (.rg none [⟨some 4, none, .mv (.k (.bool false)) none⟩])
     (.rt))
    (.sk)))
   (.sq (.sq (.rg none [⟨some 10, none, .fa 1 (.t 2)⟩,
       ⟨some 11, none, .ld none (.t 10)⟩,
       ⟨some 12, none, .fa 1 (.t 3)⟩,
       ⟨some 13, none, .ld none (.t 12)⟩,
       ⟨some 14, none, .bi .neq 0 (.t 11) (.t 13)⟩])
    (.cd (.t 14) (.sq (.rg none [⟨some 4, none, .mv (.k (.bool false)) none⟩])
     (.rt))
    (.sk)))
   (.sq (.sq (.rg none [⟨some 15, none, .fa 2 (.t 2)⟩,
       ⟨some 16, none, .ld none (.t 15)⟩,
       ⟨some 17, none, .fa 2 (.t 3)⟩,
       ⟨some 18, none, .ld none (.t 17)⟩,
       ⟨some 19, none, .ca .pure false (.f fid_laws_eqIntS) [.t 16, .t 18]⟩,
       ⟨some 20, none, .nt (.t 19)⟩])
    (.cd (.t 20) (.sq (.rg none [⟨some 4, none, .mv (.k (.bool false)) none⟩])
     (.rt))
    (.sk)))
   (.sq (.rg none [⟨some 4, none, .mv (.k (.bool true)) none⟩])
   (.rt)))))) }
theorem k_laws_eqNode : chkF Go.Proofs.Tryd.prog fid_laws_eqNode c_laws_eqNode = true := by kernel_rfl

def c_laws_eqWire : F2 :=
  { nt := 15, res := [.t 4 [0]], body :=
   (.sq (.rg none [⟨some 2, none, .bt (.t 0)⟩,
      ⟨some 3, none, .bt (.t 1)⟩,
      ⟨some 4, none, .mv (.k (.bool false)) none⟩])
   (.sq (.sq (.rg none [⟨some 5, none, .fa 0 (.t 2)⟩,
       ⟨some 6, none, .ld none (.t 5)⟩,
       ⟨some 7, none, .fa 0 (.t 3)⟩,
       ⟨some 8, none, .ld none (.t 7)⟩,
       ⟨some 9, none, .bi .neq 0 (.t 6) (.t 8)⟩])
    (.cd (.t 9) (.sq (.rg none [⟨some 4, none, .mv (.k (.bool false)) none⟩])
     (.rt))
    (.sk)))
   (.sq (.sq (.rg none [⟨some 10, none, .fa 1 (.t 2)⟩,
       ⟨some 11, none, .ld none (.t 10)⟩,
       ⟨some 12, none, .fa 1 (.t 3)⟩,
       ⟨some 13, none, .ld none (.t 12)⟩,
       ⟨some 14, none, .bi .neq 0 (.t 11) (.t 13)⟩])
    (.cd (.t 14) (.sq (.rg none [⟨some 4, none, .mv (.k (.bool false)) none⟩])
     (.rt))
    (.sk)))
   (.sq (.rg none [⟨some 4, none, .mv (.k (.bool true)) none⟩])
   (.rt))))) }
theorem k_laws_eqWire : chkF Go.Proofs.Tryd.prog fid_laws_eqWire c_laws_eqWire = true := by kernel_rfl

end Go.Fd

/-
  SMALL WORDS FOR MARKS. Own work.
-/
namespace Go.Fd
theorem cut_map {α : Type} {c : α → List Tr} {a : List α} : cut (a.map c) 0 a.length = a.map c := by
  simp only [cut, List.drop_zero]
  exact List.take_of_length_le (by rw [List.length_map]; exact Nat.le_refl _)
end Go.Fd

/-
  MARKING STRUCTS; WHETHER MARKS ARE HELD (printed by lawgen.py). Own work.
-/
namespace Go.Fd
set_option maxRecDepth 20000
end Go.Fd

/-
  HOW MANY MARKS A THING TAKES, AGAINST ITS SIZE (printed by lawgen.py). Own work.
-/
namespace Go.Fd
end Go.Fd

/-
  WHAT HOLDS OF THE HELPERS OF THE LAWS (printed by lawgen.py). Own work.
-/
namespace Go.Fd
set_option maxRecDepth 20000
theorem szN_le {n : Nat} {l : Int} (h : 0 ≤ l) : szN n l ≤ l := by unfold szN; split <;> omega
theorem szF_le {α : Type} {f : α → Int → Int} : ∀ (a : List α) (l : Int), (∀ x ∈ a, ∀ l : Int, 0 ≤ l → l ≤ 1048576 → f x l ≤ l) → 0 ≤ l → l ≤ 1048576 → szF f a l ≤ l
  | [], l, _, _, _ => Int.le_refl l
  | x :: r, l, hf, h0, h1 => by
    simp only [szF]
    have := hf x (by simp) l h0 h1
    split
    · omega
    · have h2 := szF_le r (f x l) (fun y hy => hf y (by simp [hy])) (by omega) (by omega)
      omega
theorem szL_le {α : Type} {f : α → Int → Int} (a : List α) {l : Int} (hf : ∀ x ∈ a, ∀ l : Int, 0 ≤ l → l ≤ 1048576 → f x l ≤ l) (h0 : 0 ≤ l) (h1 : l ≤ 1048576) : szL f a l ≤ l := by
  unfold szL
  split
  · omega
  · have := szF_le a (l - a.length) hf (by omega) (by omega)
    omega
theorem szTh_le {l m : Int} {g : Int → Int} (h0 : 0 ≤ l) (h : m ≤ l) (hg : 0 ≤ m → g m ≤ m) : szTh m g ≤ l := by
  unfold szTh
  split
  · omega
  · have := hg (by omega)
    omega
theorem g_szIntS : chkF Go.Proofs.Tryd.prog fid_laws_szIntS sz0 = true := by kernel_rfl
theorem sem_szIntS (a : List Int) (hl : a.length ≤ 9223372036854775807) (l : Int) (h0 : 0 ≤ l) (h1 : l ≤ 1048576) : szN a.length l ≤ l ∧ ∀ lvl S, Sem Go.Proofs.Tryd.prog fid_laws_szIntS lvl [.tr (.sl (rI a)), iI l] S (iI (szN a.length l)) S := by
  refine ⟨szN_le h0, fun lvl S => ?_⟩
  have := sem_sz0 g_szIntS (rI a) l (by simpa using hl) h0 h1 lvl S
  simpa using this
theorem sem_szNode (x : TNode) (hb : bdNode 9223372036854775807 x) (l : Int) (h0 : 0 ≤ l) (h1 : l ≤ 1048576) : szNode x l ≤ l ∧ ∀ lvl S, Sem Go.Proofs.Tryd.prog fid_laws_szNode lvl [.ag ((cNode x).map .tr), iI l] S (iI (szNode x l)) S := by
  have b0 : x.links.length ≤ 9223372036854775807 := hb
  refine ⟨?_, fun lvl S => ?_⟩
  · unfold szNode
    have q0 := sem_szIntS x.links b0 _ h0 h1
    refine szTh_le h0 q0.1 (fun p0 => ?_)
    have r0 : _ ≤ (1048576 : Int) := Int.le_trans q0.1 h1
    exact Int.le_refl _
  · refine sem_of_chk k_laws_szNode trivial ?_
    simp only [c_laws_szNode, cNode, List.map_cons, List.map_nil, r_cons, r_nil, r_kont, r_seq1, r_rg, r_sq, r_wpF, r_op1, r_go1, r_mv, r_bt, r_bt1, r_op3, r_fa, r_fa1, r_ltr, r_ld, r_ld1, r_kcn, r_sn0, r_sn1, r_ca, r_ca1, ptd, lk, pt, xv, kv, kc, params, ↓reduceIte, Nat.reduceEqDiff, reduceCtorEq, List.length_cons, List.length_nil, Nat.reduceAdd, Nat.reduceLeDiff, Nat.reduceLT, true_and, List.map_cons, List.map_nil, List.cons_append, List.nil_append, List.getElem?_cons_zero, List.drop_succ_cons, List.drop_zero, mens, men, List.all_cons, List.all_nil, isCell, Bool.and_true, Bool.true_and, Bool.and_self, cellsOf, totr, totrs, tocs, Nat.zero_add, and_self]
    unfold szNode
    have q0 := sem_szIntS x.links b0 l h0 h1
    refine kca_intro q0.2 ?_
    simp only [r_cons, r_nil, r_kont, r_seq1, r_seq3, r_fn2, r_sk, r_rg, r_sq, r_rt, r_cd, r_cd2, r_op1, r_go1, r_mv, r_bi, r_lti, r_fin, r_kfe1, r_kcx, r_exps0, r_exps1, r_kex, r_exp1, r_expv2, ptd, keyOf, freshK, lk, pt, addO, xv, kv, kc, ↓reduceIte, Nat.reduceEqDiff, Nat.reduceMul, reduceCtorEq, List.length_nil, Nat.reduceLT, true_and, and_true, decide_eq_true_eq, noSh, isSc, impv, or_true]
    obtain ⟨l1, hl1⟩ : ∃ m : Int, m = (szN x.links.length l) := ⟨_, rfl⟩
    have u1 : l1 ≤ l := by rw [hl1]; exact q0.1
    rw [← hl1]
    split
    · rename_i hn; rw [szTh, if_pos hn]
    rename_i hn0
    rw [szTh, if_neg hn0]
theorem g_szNodeS : chkF Go.Proofs.Tryd.prog fid_laws_szNodeS (szSl 3 (some 3) fid_laws_szNode) = true := by kernel_rfl
theorem sem_szNodeS (a : List TNode) (hl : a.length ≤ 9223372036854775807) (hb : ∀ y ∈ a, bdNode 9223372036854775807 y) (l : Int) (h0 : 0 ≤ l) (h1 : l ≤ 1048576) : szL szNode a l ≤ l ∧ ∀ lvl S, Sem Go.Proofs.Tryd.prog fid_laws_szNodeS lvl [.tr (.sl (a.map cNode)), iI l] S (iI (szL szNode a l)) S :=
  ⟨szL_le a (fun x hx l h0 h1 => (sem_szNode x (hb x hx) l h0 h1).1) h0 h1, fun lvl S => sem_szSl g_szNodeS cNode szNode cNode_len a l hl h0 h1 (fun x hx l h0 h1 => sem_szNode x (hb x hx) l h0 h1) lvl S⟩
theorem sem_szWire (x : TWire) (hb : bdWire 9223372036854775807 x) (l : Int) (h0 : 0 ≤ l) (h1 : l ≤ 1048576) : szWire x l ≤ l ∧ ∀ lvl S, Sem Go.Proofs.Tryd.prog fid_laws_szWire lvl [.ag ((cWire x).map .tr), iI l] S (iI (szWire x l)) S := by
  have b0 : x.name.size ≤ 9223372036854775807 := hb
  refine ⟨?_, fun lvl S => ?_⟩
  · unfold szWire
    refine szTh_le h0 (m := l - x.name.size) (by omega) (fun p0 => ?_)
    have r0 : _ ≤ (1048576 : Int) := Int.le_trans (show l - x.name.size ≤ l by omega) h1
    exact Int.le_refl _
  · refine sem_of_chk k_laws_szWire trivial ?_
    simp only [c_laws_szWire, cWire, List.map_cons, List.map_nil, r_cons, r_nil, r_kont, r_seq1, r_seq3, r_fn2, r_sk, r_rg, r_sq, r_rt, r_cd, r_cd2, r_wpF, r_op1, r_go1, r_mv, r_bt, r_bt1, r_bi, r_sub0, r_lti, r_lg, r_lg1, r_op3, r_fa, r_fa1, r_ltr, r_ld, r_ld1, r_fin, r_kfe1, r_kcx, r_exps0, r_exps1, r_kex, r_exp1, r_expv2, ptd, lk, pt, xv, kv, kc, params, ↓reduceIte, Nat.reduceEqDiff, reduceCtorEq, List.length_cons, List.length_nil, Nat.reduceAdd, Nat.reduceLeDiff, Nat.reduceLT, true_and, and_true, decide_eq_true_eq, List.map_cons, List.map_nil, List.getElem?_cons_zero, List.drop_zero, List.all_cons, List.all_nil, isCell, Bool.and_self, cellsOf, totr, totrs, tocs, Nat.zero_add]
    unfold szWire
    refine ⟨by rw [fits_i64]; omega, ?_⟩
    obtain ⟨l1, hl1⟩ : ∃ m : Int, m = l - x.name.size := ⟨_, rfl⟩
    have u1 : l1 ≤ l := by omega
    rw [← hl1]
    split
    · rename_i hn; rw [szTh, if_pos hn]
    rename_i hn0
    rw [szTh, if_neg hn0]
theorem g_szWireS : chkF Go.Proofs.Tryd.prog fid_laws_szWireS (szSl 2 (some 2) fid_laws_szWire) = true := by kernel_rfl
theorem sem_szWireS (a : List TWire) (hl : a.length ≤ 9223372036854775807) (hb : ∀ y ∈ a, bdWire 9223372036854775807 y) (l : Int) (h0 : 0 ≤ l) (h1 : l ≤ 1048576) : szL szWire a l ≤ l ∧ ∀ lvl S, Sem Go.Proofs.Tryd.prog fid_laws_szWireS lvl [.tr (.sl (a.map cWire)), iI l] S (iI (szL szWire a l)) S :=
  ⟨szL_le a (fun x hx l h0 h1 => (sem_szWire x (hb x hx) l h0 h1).1) h0 h1, fun lvl S => sem_szSl g_szWireS cWire szWire cWire_len a l hl h0 h1 (fun x hx l h0 h1 => sem_szWire x (hb x hx) l h0 h1) lvl S⟩
theorem g_szStringS : chkF Go.Proofs.Tryd.prog fid_laws_szStringS szSt = true := by kernel_rfl
theorem sem_szStringS (a : List ByteArray) (hl : a.length ≤ 9223372036854775807) (hb : ∀ y ∈ a, y.size ≤ 9223372036854775807) (l : Int) (h0 : 0 ≤ l) (h1 : l ≤ 1048576) : szL (fun x m => m - x.size) a l ≤ l ∧ ∀ lvl S, Sem Go.Proofs.Tryd.prog fid_laws_szStringS lvl [tS a, iI l] S (iI (szL (fun x m => m - x.size) a l)) S :=
  ⟨szL_le a (fun x _ l _ _ => by omega) h0 h1, fun lvl S => sem_szSt g_szStringS a l hl h0 h1 hb lvl S⟩
theorem sem_szBigraph (x : TBigraph) (hb : bdBigraph 9223372036854775807 x) (l : Int) (h0 : 0 ≤ l) (h1 : l ≤ 1048576) : szBigraph x l ≤ l ∧ ∀ lvl S, Sem Go.Proofs.Tryd.prog fid_laws_szBigraph lvl [.ag ((cBigraph x).map .tr), iI l] S (iI (szBigraph x l)) S := by
  obtain ⟨b0, b1, b2, b3, b4, b5, b6⟩ := hb
  refine ⟨?_, fun lvl S => ?_⟩
  · unfold szBigraph
    have q0 := sem_szNodeS x.nodes b0 b1 _ h0 h1
    refine szTh_le h0 q0.1 (fun p0 => ?_)
    have r0 : _ ≤ (1048576 : Int) := Int.le_trans q0.1 h1
    have q1 := sem_szIntS x.sites b2 _ p0 r0
    refine szTh_le p0 q1.1 (fun p1 => ?_)
    have r1 : _ ≤ (1048576 : Int) := Int.le_trans q1.1 r0
    have q2 := sem_szStringS x.outer b3 b4 _ p1 r1
    refine szTh_le p1 q2.1 (fun p2 => ?_)
    have r2 : _ ≤ (1048576 : Int) := Int.le_trans q2.1 r1
    have q3 := sem_szWireS x.inner b5 b6 _ p2 r2
    refine szTh_le p2 q3.1 (fun p3 => ?_)
    have r3 : _ ≤ (1048576 : Int) := Int.le_trans q3.1 r2
    exact Int.le_refl _
  · refine sem_of_chk k_laws_szBigraph trivial ?_
    simp only [c_laws_szBigraph, cBigraph, List.map_cons, List.map_nil, r_cons, r_nil, r_kont, r_seq1, r_rg, r_sq, r_wpF, r_op1, r_go1, r_mv, r_bt, r_bt1, r_op3, r_fa, r_fa1, r_ltr, r_ld, r_ld1, r_kcn, r_sn0, r_sn1, r_ca, r_ca1, ptd, lk, pt, xv, kv, kc, params, ↓reduceIte, Nat.reduceEqDiff, reduceCtorEq, List.length_cons, List.length_nil, Nat.reduceAdd, Nat.reduceLeDiff, Nat.reduceLT, true_and, List.map_cons, List.map_nil, List.cons_append, List.nil_append, List.getElem?_cons_zero, List.drop_succ_cons, List.drop_zero, mens, men, List.all_cons, List.all_nil, isCell, Bool.and_true, Bool.true_and, Bool.and_self, cellsOf, totr, totrs, tocs, Nat.zero_add, and_self]
    unfold szBigraph
    have q0 := sem_szNodeS x.nodes b0 b1 l h0 h1
    refine kca_intro q0.2 ?_
    simp only [r_cons, r_nil, r_kont, r_seq1, r_seq3, r_fn2, r_sk, r_rg, r_sq, r_rt, r_cd, r_cd2, r_op1, r_go1, r_mv, r_bi, r_lti, r_op3, r_fa, r_fa1, r_ltr, r_ld, r_ld1, r_kcn, r_sn0, r_sn1, r_ca, r_ca1, r_fin, r_kfe1, r_kcx, r_exps0, r_exps1, r_kex, r_exp1, r_expv2, ptd, keyOf, freshK, lk, pt, addO, xv, kv, kc, ↓reduceIte, Nat.reduceEqDiff, Nat.reduceMul, reduceCtorEq, List.length_nil, Nat.reduceLT, true_and, and_true, decide_eq_true_eq, List.map_cons, List.map_nil, List.cons_append, List.nil_append, List.getElem?_cons_zero, List.drop_succ_cons, List.drop_zero, mens, men, noSh, isSc, impv, or_true, and_self]
    obtain ⟨l1, hl1⟩ : ∃ m : Int, m = (szL szNode x.nodes l) := ⟨_, rfl⟩
    have u1 : l1 ≤ l := by rw [hl1]; exact q0.1
    rw [← hl1]
    split
    · rename_i hn; rw [szTh, if_pos hn]
    rename_i hn0
    rw [szTh, if_neg hn0]
    have q1 := sem_szIntS x.sites b2 l1 (show 0 ≤ l1 by omega) (show l1 ≤ 1048576 by omega)
    refine kca_intro q1.2 ?_
    simp only [r_cons, r_nil, r_kont, r_seq1, r_seq3, r_fn2, r_sk, r_rg, r_sq, r_rt, r_cd, r_cd2, r_op1, r_go1, r_mv, r_bi, r_lti, r_op3, r_fa, r_fa1, r_ltr, r_ld, r_ld1, r_kcn, r_sn0, r_sn1, r_ca, r_ca1, r_fin, r_kfe1, r_kcx, r_exps0, r_exps1, r_kex, r_exp1, r_expv2, ptd, keyOf, freshK, lk, pt, addO, xv, kv, kc, ↓reduceIte, Nat.reduceEqDiff, Nat.reduceMul, reduceCtorEq, List.length_nil, Nat.reduceLT, true_and, and_true, decide_eq_true_eq, List.map_cons, List.map_nil, List.cons_append, List.nil_append, List.getElem?_cons_zero, List.drop_succ_cons, List.drop_zero, mens, men, noSh, isSc, impv, or_true, and_self]
    obtain ⟨l2, hl2⟩ : ∃ m : Int, m = (szN x.sites.length l1) := ⟨_, rfl⟩
    have u2 : l2 ≤ l1 := by rw [hl2]; exact q1.1
    rw [← hl2]
    split
    · rename_i hn; rw [szTh, if_pos hn]
    rename_i hn1
    rw [szTh, if_neg hn1]
    have q2 := sem_szStringS x.outer b3 b4 l2 (show 0 ≤ l2 by omega) (show l2 ≤ 1048576 by omega)
    refine kca_intro q2.2 ?_
    simp only [r_cons, r_nil, r_kont, r_seq1, r_seq3, r_fn2, r_sk, r_rg, r_sq, r_rt, r_cd, r_cd2, r_op1, r_go1, r_mv, r_bi, r_lti, r_op3, r_fa, r_fa1, r_ltr, r_ld, r_ld1, r_kcn, r_sn0, r_sn1, r_ca, r_ca1, r_fin, r_kfe1, r_kcx, r_exps0, r_exps1, r_kex, r_exp1, r_expv2, ptd, keyOf, freshK, lk, pt, addO, xv, kv, kc, ↓reduceIte, Nat.reduceEqDiff, Nat.reduceMul, reduceCtorEq, List.length_nil, Nat.reduceLT, true_and, and_true, decide_eq_true_eq, List.map_cons, List.map_nil, List.cons_append, List.nil_append, List.getElem?_cons_zero, List.drop_succ_cons, List.drop_zero, mens, men, noSh, isSc, impv, or_true, and_self]
    obtain ⟨l3, hl3⟩ : ∃ m : Int, m = (szL (fun x m => m - x.size) x.outer l2) := ⟨_, rfl⟩
    have u3 : l3 ≤ l2 := by rw [hl3]; exact q2.1
    rw [← hl3]
    split
    · rename_i hn; rw [szTh, if_pos hn]
    rename_i hn2
    rw [szTh, if_neg hn2]
    have q3 := sem_szWireS x.inner b5 b6 l3 (show 0 ≤ l3 by omega) (show l3 ≤ 1048576 by omega)
    refine kca_intro q3.2 ?_
    simp only [r_cons, r_nil, r_kont, r_seq1, r_seq3, r_fn2, r_sk, r_rg, r_sq, r_rt, r_cd, r_cd2, r_op1, r_go1, r_mv, r_bi, r_lti, r_fin, r_kfe1, r_kcx, r_exps0, r_exps1, r_kex, r_exp1, r_expv2, ptd, keyOf, freshK, lk, pt, addO, xv, kv, kc, ↓reduceIte, Nat.reduceEqDiff, Nat.reduceMul, reduceCtorEq, List.length_nil, Nat.reduceLT, true_and, and_true, decide_eq_true_eq, noSh, isSc, impv, or_true]
    obtain ⟨l4, hl4⟩ : ∃ m : Int, m = (szL szWire x.inner l3) := ⟨_, rfl⟩
    have u4 : l4 ≤ l3 := by rw [hl4]; exact q3.1
    rw [← hl4]
    split
    · rename_i hn; rw [szTh, if_pos hn]
    rename_i hn3
    rw [szTh, if_neg hn3]
theorem sem_szRule (x : TRule) (hb : bdRule 9223372036854775807 x) (l : Int) (h0 : 0 ≤ l) (h1 : l ≤ 1048576) : szRule x l ≤ l ∧ ∀ lvl S, Sem Go.Proofs.Tryd.prog fid_laws_szRule lvl [.ag ((cRule x).map .tr), iI l] S (iI (szRule x l)) S := by
  obtain ⟨b0, b1, b2⟩ := hb
  refine ⟨?_, fun lvl S => ?_⟩
  · unfold szRule
    have q0 := sem_szBigraph x.redex b0 _ h0 h1
    refine szTh_le h0 q0.1 (fun p0 => ?_)
    have r0 : _ ≤ (1048576 : Int) := Int.le_trans q0.1 h1
    have q1 := sem_szBigraph x.reactum b1 _ p0 r0
    refine szTh_le p0 q1.1 (fun p1 => ?_)
    have r1 : _ ≤ (1048576 : Int) := Int.le_trans q1.1 r0
    have q2 := sem_szIntS x.copies b2 _ p1 r1
    refine szTh_le p1 q2.1 (fun p2 => ?_)
    have r2 : _ ≤ (1048576 : Int) := Int.le_trans q2.1 r1
    exact Int.le_refl _
  · refine sem_of_chk k_laws_szRule trivial ?_
    simp only [c_laws_szRule, cRule, List.map_cons, List.map_nil, r_cons, r_nil, r_kont, r_seq1, r_rg, r_sq, r_wpF, r_op1, r_go1, r_mv, r_bt, r_bt1, r_fa, r_fa1, r_ld, r_ld4, r_kcn, r_kagn, r_sn0, r_sn1, r_sn3, r_ca, r_ca1, ptd, lk, pt, xv, kv, kc, params, ↓reduceIte, Nat.reduceEqDiff, reduceCtorEq, List.length_cons, List.length_nil, Nat.reduceAdd, Nat.reduceLeDiff, Nat.reduceLT, true_and, List.map_cons, List.map_nil, List.cons_append, List.nil_append, List.drop_zero, List.take_succ_cons, List.take_zero, mens, men, List.all_cons, List.all_nil, isCell, Bool.and_true, Bool.true_and, Bool.and_self, cellsOf, totr, totrs, tocs, Nat.zero_add, and_self]
    unfold szRule
    have q0 := sem_szBigraph x.redex b0 l h0 h1
    refine kca_intro q0.2 ?_
    simp only [r_cons, r_nil, r_kont, r_seq1, r_seq3, r_fn2, r_sk, r_rg, r_sq, r_rt, r_cd, r_cd2, r_op1, r_go1, r_mv, r_bi, r_lti, r_fa, r_fa1, r_ld, r_ld4, r_kcn, r_kagn, r_sn0, r_sn1, r_sn3, r_ca, r_ca1, r_fin, r_kfe1, r_kcx, r_exps0, r_exps1, r_kex, r_exp1, r_expv2, ptd, keyOf, freshK, lk, pt, addO, xv, kv, kc, ↓reduceIte, Nat.reduceEqDiff, Nat.reduceMul, reduceCtorEq, List.length_cons, List.length_nil, Nat.reduceAdd, Nat.reduceLeDiff, Nat.reduceLT, true_and, and_true, decide_eq_true_eq, List.map_cons, List.map_nil, List.cons_append, List.nil_append, List.drop_succ_cons, List.drop_zero, List.take_succ_cons, List.take_zero, mens, men, noSh, isSc, impv, or_true, Nat.zero_add, and_self]
    obtain ⟨l1, hl1⟩ : ∃ m : Int, m = (szBigraph x.redex l) := ⟨_, rfl⟩
    have u1 : l1 ≤ l := by rw [hl1]; exact q0.1
    rw [← hl1]
    split
    · rename_i hn; rw [szTh, if_pos hn]
    rename_i hn0
    rw [szTh, if_neg hn0]
    have q1 := sem_szBigraph x.reactum b1 l1 (show 0 ≤ l1 by omega) (show l1 ≤ 1048576 by omega)
    refine kca_intro q1.2 ?_
    simp only [r_cons, r_nil, r_kont, r_seq1, r_seq3, r_fn2, r_sk, r_rg, r_sq, r_rt, r_cd, r_cd2, r_op1, r_go1, r_mv, r_bi, r_lti, r_op3, r_fa, r_fa1, r_ltr, r_ld, r_ld1, r_kcn, r_sn0, r_sn1, r_ca, r_ca1, r_fin, r_kfe1, r_kcx, r_exps0, r_exps1, r_kex, r_exp1, r_expv2, ptd, keyOf, freshK, lk, pt, addO, xv, kv, kc, ↓reduceIte, Nat.reduceEqDiff, Nat.reduceMul, reduceCtorEq, List.length_nil, Nat.reduceLT, true_and, and_true, decide_eq_true_eq, List.map_cons, List.map_nil, List.cons_append, List.nil_append, List.getElem?_cons_zero, List.drop_succ_cons, List.drop_zero, mens, men, noSh, isSc, impv, or_true, and_self]
    obtain ⟨l2, hl2⟩ : ∃ m : Int, m = (szBigraph x.reactum l1) := ⟨_, rfl⟩
    have u2 : l2 ≤ l1 := by rw [hl2]; exact q1.1
    rw [← hl2]
    split
    · rename_i hn; rw [szTh, if_pos hn]
    rename_i hn1
    rw [szTh, if_neg hn1]
    have q2 := sem_szIntS x.copies b2 l2 (show 0 ≤ l2 by omega) (show l2 ≤ 1048576 by omega)
    refine kca_intro q2.2 ?_
    simp only [r_cons, r_nil, r_kont, r_seq1, r_seq3, r_fn2, r_sk, r_rg, r_sq, r_rt, r_cd, r_cd2, r_op1, r_go1, r_mv, r_bi, r_lti, r_fin, r_kfe1, r_kcx, r_exps0, r_exps1, r_kex, r_exp1, r_expv2, ptd, keyOf, freshK, lk, pt, addO, xv, kv, kc, ↓reduceIte, Nat.reduceEqDiff, Nat.reduceMul, reduceCtorEq, List.length_nil, Nat.reduceLT, true_and, and_true, decide_eq_true_eq, noSh, isSc, impv, or_true]
    obtain ⟨l3, hl3⟩ : ∃ m : Int, m = (szN x.copies.length l2) := ⟨_, rfl⟩
    have u3 : l3 ≤ l2 := by rw [hl3]; exact q2.1
    rw [← hl3]
    split
    · rename_i hn; rw [szTh, if_pos hn]
    rename_i hn2
    rw [szTh, if_neg hn2]
theorem sem_szControl (x : TControl) (hb : bdControl 9223372036854775807 x) (l : Int) (h0 : 0 ≤ l) (h1 : l ≤ 1048576) : szControl x l ≤ l ∧ ∀ lvl S, Sem Go.Proofs.Tryd.prog fid_laws_szControl lvl [.ag ((cControl x).map .tr), iI l] S (iI (szControl x l)) S := by
  have b0 : x.name.size ≤ 9223372036854775807 := hb
  refine ⟨?_, fun lvl S => ?_⟩
  · unfold szControl
    refine szTh_le h0 (m := l - x.name.size) (by omega) (fun p0 => ?_)
    have r0 : _ ≤ (1048576 : Int) := Int.le_trans (show l - x.name.size ≤ l by omega) h1
    exact Int.le_refl _
  · refine sem_of_chk k_laws_szControl trivial ?_
    simp only [c_laws_szControl, cControl, List.map_cons, List.map_nil, r_cons, r_nil, r_kont, r_seq1, r_seq3, r_fn2, r_sk, r_rg, r_sq, r_rt, r_cd, r_cd2, r_wpF, r_op1, r_go1, r_mv, r_bt, r_bt1, r_bi, r_sub0, r_lti, r_lg, r_lg1, r_op3, r_fa, r_fa1, r_ltr, r_ld, r_ld1, r_fin, r_kfe1, r_kcx, r_exps0, r_exps1, r_kex, r_exp1, r_expv2, ptd, lk, pt, xv, kv, kc, params, ↓reduceIte, Nat.reduceEqDiff, reduceCtorEq, List.length_cons, List.length_nil, Nat.reduceAdd, Nat.reduceLeDiff, Nat.reduceLT, true_and, and_true, decide_eq_true_eq, List.map_cons, List.map_nil, List.getElem?_cons_zero, List.drop_zero, List.all_cons, List.all_nil, isCell, Bool.and_self, cellsOf, totr, totrs, tocs, Nat.zero_add]
    unfold szControl
    refine ⟨by rw [fits_i64]; omega, ?_⟩
    obtain ⟨l1, hl1⟩ : ∃ m : Int, m = l - x.name.size := ⟨_, rfl⟩
    have u1 : l1 ≤ l := by omega
    rw [← hl1]
    split
    · rename_i hn; rw [szTh, if_pos hn]
    rename_i hn0
    rw [szTh, if_neg hn0]
theorem g_szControlS : chkF Go.Proofs.Tryd.prog fid_laws_szControlS (szSl 3 (some 3) fid_laws_szControl) = true := by kernel_rfl
theorem sem_szControlS (a : List TControl) (hl : a.length ≤ 9223372036854775807) (hb : ∀ y ∈ a, bdControl 9223372036854775807 y) (l : Int) (h0 : 0 ≤ l) (h1 : l ≤ 1048576) : szL szControl a l ≤ l ∧ ∀ lvl S, Sem Go.Proofs.Tryd.prog fid_laws_szControlS lvl [.tr (.sl (a.map cControl)), iI l] S (iI (szL szControl a l)) S :=
  ⟨szL_le a (fun x hx l h0 h1 => (sem_szControl x (hb x hx) l h0 h1).1) h0 h1, fun lvl S => sem_szSl g_szControlS cControl szControl cControl_len a l hl h0 h1 (fun x hx l h0 h1 => sem_szControl x (hb x hx) l h0 h1) lvl S⟩
end Go.Fd

/-
  WHAT HOLDS OF THE HELPERS OF THE LAWS: eq.. (printed by lawgen.py). Own work.
-/
namespace Go.Fd
set_option maxRecDepth 20000
theorem g_eqIntS : chkF Go.Proofs.Tryd.prog fid_laws_eqIntS eqS1 = true := by kernel_rfl
theorem sem_eqIntS (a b : (List Int)) (ha : a.length ≤ 9223372036854775807) (lvl : Nat) (S : Sto) : Sem Go.Proofs.Tryd.prog fid_laws_eqIntS lvl [.tr (.sl (rI a)), .tr (.sl (rI b))] S (iB (decide (a = b))) S := sem_eqI g_eqIntS a b ha lvl S
theorem sem_eqNode (x y : TNode) (hb : bdNode 9223372036854775807 x) (lvl : Nat) (S : Sto) : Sem Go.Proofs.Tryd.prog fid_laws_eqNode lvl [.ag ((cNode x).map .tr), .ag ((cNode y).map .tr)] S (iB (decide (x = y))) S := by
  have b0 : x.links.length ≤ 9223372036854775807 := hb
  refine sem_of_chk k_laws_eqNode trivial ?_
  simp only [c_laws_eqNode, cNode, List.map_cons, List.map_nil, r_cons, r_nil, r_kont, r_seq1, r_seq3, r_fn2, r_sk, r_rg, r_sq, r_rt, r_cd, r_cd2, r_wpF, r_op1, r_go1, r_mv, r_bt, r_bt1, r_bi, r_nei, r_op3, r_fa, r_fa1, r_ltr, r_ld, r_ld1, r_kcn, r_sn0, r_sn1, r_ca, r_ca1, r_fin, r_kfe1, r_kcx, r_exps0, r_exps1, r_kex, r_exp1, r_expv2, ptd, lk, pt, xv, kv, kc, params, ↓reduceIte, Nat.reduceEqDiff, reduceCtorEq, List.length_cons, List.length_nil, Nat.reduceAdd, Nat.reduceLeDiff, Nat.reduceLT, true_and, and_true, decide_eq_true_eq, List.map_cons, List.map_nil, List.cons_append, List.nil_append, List.getElem?_cons_zero, List.drop_succ_cons, List.drop_zero, mens, men, List.all_cons, List.all_nil, isCell, Bool.and_true, Bool.true_and, Bool.and_self, cellsOf, totr, totrs, tocs, Nat.zero_add, ne_eq, and_self]
  refine ite_of (fun hne => ?_) (fun heq0 => ?_)
  · have : ¬ x = y := fun e => (by rw [e] at hne; simp at hne)
    simp [this]
  refine ite_of (fun hne => ?_) (fun heq1 => ?_)
  · have : ¬ x = y := fun e => (by rw [e] at hne; simp at hne)
    simp [this]
  refine kca_intro (sem_eqIntS x.links y.links b0) ?_
  simp only [Bool.not_eq_true', r_cons, r_nil, r_kont, r_seq1, r_seq3, r_fn2, r_sk, r_rg, r_sq, r_rt, r_cd, r_cd2, r_op1, r_go1, r_mv, r_nt, r_nt1, r_fin, r_kfe1, r_kcx, r_exps0, r_exps1, r_kex, r_exp1, r_expv2, ptd, keyOf, freshK, lk, pt, addO, xv, kv, kc, ↓reduceIte, Nat.reduceEqDiff, Nat.reduceMul, reduceCtorEq, List.length_nil, Nat.reduceLT, true_and, and_true, noSh, isSc, impv, or_true, Bool.not_eq_true']
  refine ite_of (fun hne => ?_) (fun heq2 => ?_)
  · have : ¬ x = y := fun e => (by rw [e] at hne; simp at hne)
    simp [this]
  have : x = y := by
    cases x; cases y; simp_all
  simp [this]
theorem g_eqNodeS : chkF Go.Proofs.Tryd.prog fid_laws_eqNodeS (eqSl 3 (some 3) fid_laws_eqNode) = true := by kernel_rfl
theorem sem_eqNodeS (a b : (List TNode)) (ha : a.length ≤ 9223372036854775807) (ha2 : ∀ y ∈ a, bdNode 9223372036854775807 y) (lvl : Nat) (S : Sto) : Sem Go.Proofs.Tryd.prog fid_laws_eqNodeS lvl [.tr (.sl (a.map cNode)), .tr (.sl (b.map cNode))] S (iB (decide (a = b))) S :=
  sem_eqSl g_eqNodeS cNode (fun _ => rfl) a b ha (fun x hx y _ lvl S => sem_eqNode x y (ha2 x hx) lvl S) lvl S
theorem sem_eqWire (x y : TWire) (hb : bdWire 9223372036854775807 x) (lvl : Nat) (S : Sto) : Sem Go.Proofs.Tryd.prog fid_laws_eqWire lvl [.ag ((cWire x).map .tr), .ag ((cWire y).map .tr)] S (iB (decide (x = y))) S := by
  have b0 : x.name.size ≤ 9223372036854775807 := hb
  refine sem_of_chk k_laws_eqWire trivial ?_
  simp only [c_laws_eqWire, cWire, List.map_cons, List.map_nil, r_cons, r_nil, r_kont, r_seq1, r_seq3, r_fn2, r_sk, r_rg, r_sq, r_rt, r_cd, r_cd2, r_wpF, r_op1, r_go1, r_mv, r_bt, r_bt1, r_bi, r_nei, r_nes, r_op3, r_fa, r_fa1, r_ltr, r_ld, r_ld1, r_fin, r_kfe1, r_kcx, r_exps0, r_exps1, r_kex, r_exp1, r_expv2, ptd, lk, pt, xv, kv, kc, params, ↓reduceIte, Nat.reduceEqDiff, reduceCtorEq, List.length_cons, List.length_nil, Nat.reduceAdd, Nat.reduceLeDiff, Nat.reduceLT, true_and, and_true, decide_eq_true_eq, List.map_cons, List.map_nil, List.getElem?_cons_zero, List.drop_succ_cons, List.drop_zero, List.all_cons, List.all_nil, isCell, Bool.and_self, cellsOf, totr, totrs, tocs, Nat.zero_add, ne_eq]
  refine ite_of (fun hne => ?_) (fun heq0 => ?_)
  · have : ¬ x = y := fun e => (by rw [e] at hne; simp at hne)
    simp [this]
  refine ite_of (fun hne => ?_) (fun heq1 => ?_)
  · have : ¬ x = y := fun e => (by rw [e] at hne; simp at hne)
    simp [this]
  have : x = y := by
    cases x; cases y; simp_all
  simp [this]
theorem g_eqWireS : chkF Go.Proofs.Tryd.prog fid_laws_eqWireS (eqSl 2 (some 2) fid_laws_eqWire) = true := by kernel_rfl
theorem sem_eqWireS (a b : (List TWire)) (ha : a.length ≤ 9223372036854775807) (ha2 : ∀ y ∈ a, bdWire 9223372036854775807 y) (lvl : Nat) (S : Sto) : Sem Go.Proofs.Tryd.prog fid_laws_eqWireS lvl [.tr (.sl (a.map cWire)), .tr (.sl (b.map cWire))] S (iB (decide (a = b))) S :=
  sem_eqSl g_eqWireS cWire (fun _ => rfl) a b ha (fun x hx y _ lvl S => sem_eqWire x y (ha2 x hx) lvl S) lvl S
theorem g_eqStringS : chkF Go.Proofs.Tryd.prog fid_laws_eqStringS eqS1 = true := by kernel_rfl
theorem sem_eqStringS (a b : (List ByteArray)) (ha : a.length ≤ 9223372036854775807) (lvl : Nat) (S : Sto) : Sem Go.Proofs.Tryd.prog fid_laws_eqStringS lvl [.tr (.sl (rS a)), .tr (.sl (rS b))] S (iB (decide (a = b))) S := sem_eqS g_eqStringS a b ha lvl S
theorem sem_eqBigraph (x y : TBigraph) (hb : bdBigraph 9223372036854775807 x) (lvl : Nat) (S : Sto) : Sem Go.Proofs.Tryd.prog fid_laws_eqBigraph lvl [.ag ((cBigraph x).map .tr), .ag ((cBigraph y).map .tr)] S (iB (decide (x = y))) S := by
  obtain ⟨b0, b1, b2, b3, b4, b5, b6⟩ := hb
  refine sem_of_chk k_laws_eqBigraph trivial ?_
  simp only [c_laws_eqBigraph, cBigraph, List.map_cons, List.map_nil, r_cons, r_nil, r_kont, r_seq1, r_seq3, r_fn2, r_sk, r_rg, r_sq, r_rt, r_cd, r_cd2, r_wpF, r_op1, r_go1, r_mv, r_bt, r_bt1, r_bi, r_nei, r_op3, r_fa, r_fa1, r_ltr, r_ld, r_ld1, r_kcn, r_sn0, r_sn1, r_ca, r_ca1, r_fin, r_kfe1, r_kcx, r_exps0, r_exps1, r_kex, r_exp1, r_expv2, ptd, lk, pt, xv, kv, kc, params, ↓reduceIte, Nat.reduceEqDiff, reduceCtorEq, List.length_cons, List.length_nil, Nat.reduceAdd, Nat.reduceLeDiff, Nat.reduceLT, true_and, and_true, decide_eq_true_eq, List.map_cons, List.map_nil, List.cons_append, List.nil_append, List.getElem?_cons_zero, List.drop_succ_cons, List.drop_zero, mens, men, List.all_cons, List.all_nil, isCell, Bool.and_true, Bool.true_and, Bool.and_self, cellsOf, totr, totrs, tocs, Nat.zero_add, ne_eq, and_self]
  refine ite_of (fun hne => ?_) (fun heq0 => ?_)
  · have : ¬ x = y := fun e => (by rw [e] at hne; simp at hne)
    simp [this]
  refine kca_intro (sem_eqNodeS x.nodes y.nodes b0 b1) ?_
  simp only [Bool.not_eq_true', r_cons, r_nil, r_kont, r_seq1, r_seq3, r_fn2, r_sk, r_rg, r_sq, r_rt, r_cd, r_cd2, r_op1, r_go1, r_mv, r_nt, r_nt1, r_op3, r_fa, r_fa1, r_ltr, r_ld, r_ld1, r_kcn, r_sn0, r_sn1, r_ca, r_ca1, r_fin, r_kfe1, r_kcx, r_exps0, r_exps1, r_kex, r_exp1, r_expv2, ptd, keyOf, freshK, lk, pt, addO, xv, kv, kc, ↓reduceIte, Nat.reduceEqDiff, Nat.reduceMul, reduceCtorEq, List.length_nil, Nat.reduceLT, true_and, and_true, List.map_cons, List.map_nil, List.cons_append, List.nil_append, List.getElem?_cons_zero, List.drop_succ_cons, List.drop_zero, mens, men, noSh, isSc, impv, or_true, Bool.not_eq_true', and_self]
  refine ite_of (fun hne => ?_) (fun heq1 => ?_)
  · have : ¬ x = y := fun e => (by rw [e] at hne; simp at hne)
    simp [this]
  refine kca_intro (sem_eqIntS x.sites y.sites b2) ?_
  simp only [Bool.not_eq_true', r_cons, r_nil, r_kont, r_seq1, r_seq3, r_fn2, r_sk, r_rg, r_sq, r_rt, r_cd, r_cd2, r_op1, r_go1, r_mv, r_bi, r_nei, r_nt, r_nt1, r_op3, r_fa, r_fa1, r_ltr, r_ld, r_ld1, r_kcn, r_sn0, r_sn1, r_ca, r_ca1, r_fin, r_kfe1, r_kcx, r_exps0, r_exps1, r_kex, r_exp1, r_expv2, ptd, keyOf, freshK, lk, pt, addO, xv, kv, kc, ↓reduceIte, Nat.reduceEqDiff, Nat.reduceMul, reduceCtorEq, List.length_nil, Nat.reduceLT, true_and, and_true, decide_eq_true_eq, List.map_cons, List.map_nil, List.cons_append, List.nil_append, List.getElem?_cons_zero, List.drop_succ_cons, List.drop_zero, mens, men, noSh, isSc, impv, or_true, Bool.not_eq_true', ne_eq, and_self]
  refine ite_of (fun hne => ?_) (fun heq2 => ?_)
  · have : ¬ x = y := fun e => (by rw [e] at hne; simp at hne)
    simp [this]
  refine ite_of (fun hne => ?_) (fun heq3 => ?_)
  · have : ¬ x = y := fun e => (by rw [e] at hne; simp at hne)
    simp [this]
  refine kca_intro (sem_eqStringS x.outer y.outer b3) ?_
  simp only [Bool.not_eq_true', r_cons, r_nil, r_kont, r_seq1, r_seq3, r_fn2, r_sk, r_rg, r_sq, r_rt, r_cd, r_cd2, r_op1, r_go1, r_mv, r_nt, r_nt1, r_op3, r_fa, r_fa1, r_ltr, r_ld, r_ld1, r_kcn, r_sn0, r_sn1, r_ca, r_ca1, r_fin, r_kfe1, r_kcx, r_exps0, r_exps1, r_kex, r_exp1, r_expv2, ptd, keyOf, freshK, lk, pt, addO, xv, kv, kc, ↓reduceIte, Nat.reduceEqDiff, Nat.reduceMul, reduceCtorEq, List.length_nil, Nat.reduceLT, true_and, and_true, List.map_cons, List.map_nil, List.cons_append, List.nil_append, List.getElem?_cons_zero, List.drop_succ_cons, List.drop_zero, mens, men, noSh, isSc, impv, or_true, Bool.not_eq_true', and_self]
  refine ite_of (fun hne => ?_) (fun heq4 => ?_)
  · have : ¬ x = y := fun e => (by rw [e] at hne; simp at hne)
    simp [this]
  refine kca_intro (sem_eqWireS x.inner y.inner b5 b6) ?_
  simp only [Bool.not_eq_true', r_cons, r_nil, r_kont, r_seq1, r_seq3, r_fn2, r_sk, r_rg, r_sq, r_rt, r_cd, r_cd2, r_op1, r_go1, r_mv, r_nt, r_nt1, r_fin, r_kfe1, r_kcx, r_exps0, r_exps1, r_kex, r_exp1, r_expv2, ptd, keyOf, freshK, lk, pt, addO, xv, kv, kc, ↓reduceIte, Nat.reduceEqDiff, Nat.reduceMul, reduceCtorEq, List.length_nil, Nat.reduceLT, true_and, and_true, noSh, isSc, impv, or_true, Bool.not_eq_true']
  refine ite_of (fun hne => ?_) (fun heq5 => ?_)
  · have : ¬ x = y := fun e => (by rw [e] at hne; simp at hne)
    simp [this]
  have : x = y := by
    cases x; cases y; simp_all
  simp [this]
theorem sem_eqRule (x y : TRule) (hb : bdRule 9223372036854775807 x) (lvl : Nat) (S : Sto) : Sem Go.Proofs.Tryd.prog fid_laws_eqRule lvl [.ag ((cRule x).map .tr), .ag ((cRule y).map .tr)] S (iB (decide (x = y))) S := by
  obtain ⟨b0, b1, b2⟩ := hb
  refine sem_of_chk k_laws_eqRule trivial ?_
  simp only [c_laws_eqRule, cRule, List.map_cons, List.map_nil, r_cons, r_nil, r_kont, r_seq1, r_rg, r_sq, r_wpF, r_op1, r_go1, r_mv, r_bt, r_bt1, r_fa, r_fa1, r_ld, r_ld4, r_kcn, r_kagn, r_sn0, r_sn1, r_sn3, r_ca, r_ca1, ptd, lk, pt, xv, kv, kc, params, ↓reduceIte, Nat.reduceEqDiff, reduceCtorEq, List.length_cons, List.length_nil, Nat.reduceAdd, Nat.reduceLeDiff, Nat.reduceLT, true_and, List.map_cons, List.map_nil, List.cons_append, List.nil_append, List.drop_zero, List.take_succ_cons, List.take_zero, mens, men, List.all_cons, List.all_nil, isCell, Bool.and_true, Bool.true_and, Bool.and_self, cellsOf, totr, totrs, tocs, Nat.zero_add, and_self]
  refine kca_intro (sem_eqBigraph x.redex y.redex b0) ?_
  simp only [Bool.not_eq_true', r_cons, r_nil, r_kont, r_seq1, r_seq3, r_fn2, r_sk, r_rg, r_sq, r_rt, r_cd, r_cd2, r_op1, r_go1, r_mv, r_nt, r_nt1, r_fa, r_fa1, r_ld, r_ld4, r_kcn, r_kagn, r_sn0, r_sn1, r_sn3, r_ca, r_ca1, r_fin, r_kfe1, r_kcx, r_exps0, r_exps1, r_kex, r_exp1, r_expv2, ptd, keyOf, freshK, lk, pt, addO, xv, kv, kc, ↓reduceIte, Nat.reduceEqDiff, Nat.reduceMul, reduceCtorEq, List.length_cons, List.length_nil, Nat.reduceAdd, Nat.reduceLeDiff, Nat.reduceLT, true_and, and_true, List.map_cons, List.map_nil, List.cons_append, List.nil_append, List.drop_succ_cons, List.drop_zero, List.take_succ_cons, List.take_zero, mens, men, noSh, isSc, impv, or_true, Nat.zero_add, Bool.not_eq_true', and_self]
  refine ite_of (fun hne => ?_) (fun heq0 => ?_)
  · have : ¬ x = y := fun e => (by rw [e] at hne; simp at hne)
    simp [this]
  refine kca_intro (sem_eqBigraph x.reactum y.reactum b1) ?_
  simp only [Bool.not_eq_true', r_cons, r_nil, r_kont, r_seq1, r_seq3, r_fn2, r_sk, r_rg, r_sq, r_rt, r_cd, r_cd2, r_op1, r_go1, r_mv, r_nt, r_nt1, r_op3, r_fa, r_fa1, r_ltr, r_ld, r_ld1, r_kcn, r_sn0, r_sn1, r_ca, r_ca1, r_fin, r_kfe1, r_kcx, r_exps0, r_exps1, r_kex, r_exp1, r_expv2, ptd, keyOf, freshK, lk, pt, addO, xv, kv, kc, ↓reduceIte, Nat.reduceEqDiff, Nat.reduceMul, reduceCtorEq, List.length_nil, Nat.reduceLT, true_and, and_true, List.map_cons, List.map_nil, List.cons_append, List.nil_append, List.getElem?_cons_zero, List.drop_succ_cons, List.drop_zero, mens, men, noSh, isSc, impv, or_true, Bool.not_eq_true', and_self]
  refine ite_of (fun hne => ?_) (fun heq1 => ?_)
  · have : ¬ x = y := fun e => (by rw [e] at hne; simp at hne)
    simp [this]
  refine kca_intro (sem_eqIntS x.copies y.copies b2) ?_
  simp only [Bool.not_eq_true', r_cons, r_nil, r_kont, r_seq1, r_seq3, r_fn2, r_sk, r_rg, r_sq, r_rt, r_cd, r_cd2, r_op1, r_go1, r_mv, r_nt, r_nt1, r_fin, r_kfe1, r_kcx, r_exps0, r_exps1, r_kex, r_exp1, r_expv2, ptd, keyOf, freshK, lk, pt, addO, xv, kv, kc, ↓reduceIte, Nat.reduceEqDiff, Nat.reduceMul, reduceCtorEq, List.length_nil, Nat.reduceLT, true_and, and_true, noSh, isSc, impv, or_true, Bool.not_eq_true']
  refine ite_of (fun hne => ?_) (fun heq2 => ?_)
  · have : ¬ x = y := fun e => (by rw [e] at hne; simp at hne)
    simp [this]
  have : x = y := by
    cases x; cases y; simp_all
  simp [this]
theorem sem_eqControl (x y : TControl) (hb : bdControl 9223372036854775807 x) (lvl : Nat) (S : Sto) : Sem Go.Proofs.Tryd.prog fid_laws_eqControl lvl [.ag ((cControl x).map .tr), .ag ((cControl y).map .tr)] S (iB (decide (x = y))) S := by
  have b0 : x.name.size ≤ 9223372036854775807 := hb
  refine sem_of_chk k_laws_eqControl trivial ?_
  simp only [c_laws_eqControl, cControl, List.map_cons, List.map_nil, r_cons, r_nil, r_kont, r_seq1, r_seq3, r_fn2, r_sk, r_rg, r_sq, r_rt, r_cd, r_cd2, r_wpF, r_op1, r_go1, r_mv, r_bt, r_bt1, r_bi, r_nei, r_nes, r_op3, r_fa, r_fa1, r_ltr, r_ld, r_ld1, r_fin, r_kfe1, r_kcx, r_exps0, r_exps1, r_kex, r_exp1, r_expv2, ptd, lk, pt, xv, kv, kc, params, ↓reduceIte, Nat.reduceEqDiff, reduceCtorEq, List.length_cons, List.length_nil, Nat.reduceAdd, Nat.reduceLeDiff, Nat.reduceLT, true_and, and_true, decide_eq_true_eq, List.map_cons, List.map_nil, List.getElem?_cons_zero, List.drop_succ_cons, List.drop_zero, List.all_cons, List.all_nil, isCell, Bool.and_self, cellsOf, totr, totrs, tocs, Nat.zero_add, ne_eq]
  refine ite_of (fun hne => ?_) (fun heq0 => ?_)
  · have : ¬ x = y := fun e => (by rw [e] at hne; simp at hne)
    simp [this]
  refine ite_of (fun hne => ?_) (fun heq1 => ?_)
  · have : ¬ x = y := fun e => (by rw [e] at hne; simp at hne)
    simp [this]
  refine ite_of (fun hne => ?_) (fun heq2 => ?_)
  · have : ¬ x = y := fun e => (by rw [e] at hne; simp at hne)
    simp [this]
  have : x = y := by
    cases x; cases y; simp_all
  simp [this]
theorem g_eqControlS : chkF Go.Proofs.Tryd.prog fid_laws_eqControlS (eqSl 3 (some 3) fid_laws_eqControl) = true := by kernel_rfl
theorem sem_eqControlS (a b : (List TControl)) (ha : a.length ≤ 9223372036854775807) (ha2 : ∀ y ∈ a, bdControl 9223372036854775807 y) (lvl : Nat) (S : Sto) : Sem Go.Proofs.Tryd.prog fid_laws_eqControlS lvl [.tr (.sl (a.map cControl)), .tr (.sl (b.map cControl))] S (iB (decide (a = b))) S :=
  sem_eqSl g_eqControlS cControl (fun _ => rfl) a b ha (fun x hx y _ lvl S => sem_eqControl x y (ha2 x hx) lvl S) lvl S
end Go.Fd

/-
  WHAT HOLDS OF THE HELPERS OF THE LAWS: to.. (printed by lawgen.py). Own work.
-/
namespace Go.Fd
set_option maxRecDepth 20000
theorem g_toIntS : chkF Go.Proofs.Tryd.prog fid_laws_toIntS (toS1 (.int .i64 0)) = true := by kernel_rfl
theorem sem_toIntS (a : (List Int)) (ha : a.length ≤ 4294967296) (lvl : Nat) (S : Sto) : Sem Go.Proofs.Tryd.prog fid_laws_toIntS lvl [.tr (.sl (rI a))] S (.ow 1 (rI a) true) S := sem_toI g_toIntS a ha lvl S
theorem sem_toNode (x : TNode) (hb : bdNode 4294967296 x) (lvl : Nat) (S : Sto) : Sem Go.Proofs.Tryd.prog fid_laws_toNode lvl [.ag ((cNode x).map .tr)] S (oNode x) S := by
  have b0 : x.links.length ≤ 4294967296 := hb
  refine sem_of_chk k_laws_toNode (by simp [oNode, low, men, mens]) ?_
  simp only [c_laws_toNode, cNode, zfill, zobs, List.map_cons, List.map_nil, r_setAt0, r_setAt1, List.set_cons_zero, List.set_cons_succ, r_cons, r_nil, r_kont, r_seq1, r_rg, r_sq, r_wpF, r_op1, r_go1, r_bt, r_bt1, r_al, r_op3, r_fa, r_fa1, r_fa2, r_pack, r_setOb, r_ltr, r_ld, r_ld1, r_kcn, r_sn0, r_sn1, r_ca, r_ca1, r_st, r_st1, r_stb, r_setAt0, r_setAt1, r_lows0, r_lows1, r_low1, zfill, zobs, ptd, keyOf, freshK, lk, pt, lkO, ptO, addO, xv, kc, params, ↓reduceIte, Nat.reduceEqDiff, Nat.reduceMul, reduceCtorEq, List.length_cons, List.length_nil, Nat.reduceAdd, Nat.reduceLeDiff, Nat.reduceLT, true_and, List.map_cons, List.map_nil, List.cons_append, List.nil_append, List.getElem?_cons_zero, List.drop_succ_cons, List.drop_zero, mens, men, List.all_cons, List.all_nil, isCell, Bool.and_true, Bool.true_and, Bool.and_self, cellsOf, totr, totrs, tocs, Nat.zero_add, Nat.add_zero, List.set_cons_zero, List.set_cons_succ, and_self]
  refine kca_intro (sem_toIntS x.links b0) ?_
  simp only [r_setAt0, r_setAt1, List.set_cons_zero, List.set_cons_succ, Prod.mk.injEq, r_cons, r_nil, r_kont, r_seq1, r_fn2, r_rg, r_sq, r_rt, r_op1, r_go1, r_fa, r_fa2, r_pack, r_setOb, r_kill, r_ld, r_labm, r_ld5, r_fin, r_kfe1, r_kcx, r_exps0, r_exps1, r_kex, r_exb1, r_exp2, r_exc, r_kagx, r_expv1, r_kxc, r_expcs0, r_expcs1, r_expc1, r_expc7, r_exh1, r_st, r_st1, r_stb, r_setAt0, r_setAt1, r_lows0, r_lows1, r_low1, r_low3, ptd, keyOf, freshK, lk, pt, lkO, ptO, addO, xv, ↓reduceIte, Nat.reduceEqDiff, Nat.reduceMul, reduceCtorEq, List.length_cons, List.length_nil, Nat.reduceAdd, Nat.reduceLT, true_and, and_true, List.drop_zero, List.take_succ_cons, List.take_zero, List.headD_cons, List.tail_cons, noSh, impv, impc, or_true, scrE, scrL, scr, scrs, scrOb, rmO, List.all_cons, List.all_nil, isCell, Bool.and_self, cellsOf, Nat.zero_add, Nat.add_zero, List.set_cons_zero, List.set_cons_succ, Nat.le_refl, Prod.mk.injEq, List.length_map, and_false, and_self]
  rfl
theorem sem_toNodeS (a : (List TNode)) (ha : a.length ≤ 4294967296) (hb : ∀ y ∈ a, bdNode 4294967296 y) (lvl : Nat) (S : Sto) : Sem Go.Proofs.Tryd.prog fid_laws_toNodeS lvl [.tr (.sl (a.map cNode))] S (.ow 3 (a.map cNode) true) S := by
  refine sem_of_chk k_laws_toNodeS trivial ?_
  simp only [c_laws_toNodeS, List.length_map, bigN, Int.natCast_nonneg, r_cons, r_nil, r_kont, r_seq1, r_rg, r_sq, r_bl, r_wpF, r_op1, r_go1, r_mv, r_ms, r_ms1, r_ln, r_ln1, r_lt1, bigN, ptd, keyOf, freshK, lk, pt, lkO, ptO, xv, kv, kc, params, trv, ↓reduceIte, Nat.reduceEqDiff, Nat.reduceMul, reduceCtorEq, List.length_cons, List.length_nil, Nat.reduceLeDiff, Nat.reduceLT, true_and, List.map_cons, List.map_nil, Int.toNat_natCast, Nat.zero_add, Int.natCast_nonneg, List.length_map, and_self, Int.cast_ofNat_Int]
  refine ⟨by omega, ?_⟩
  refine wp_count (α := Unit) a.length (fun j _ => ⟨lvl, [(0, .tr (.sl (a.map cNode))), (3, .hd (lvl, 224) [] 0 a.length none a.length), (4, iI j)], [(224, .ar 3 (filled cNode [tv 0, tv 0, .sl []] a j) true a.length (j * 1))], S⟩) (fun _ _ => True) () ⟨by simp only [r_clean, r_okm1, r_okm4, r_okE0, r_okE1, r_okL0, r_okL2, ↓reduceIte, Nat.reduceEqDiff, reduceCtorEq, memB, keepB, keepOB, Bool.false_eq_true, and_self], by (simp only [filled_zero, r_fgt, ↓reduceIte, Nat.reduceEqDiff, Nat.reduceMul, reduceCtorEq, memB, keepB, keepOB, Bool.false_eq_true, Int.cast_ofNat_Int]) <;> rfl⟩ trivial ?_
  intro j _ hj _
  simp only [List.length_map, r_cons, r_nil, r_kont, r_seq1, r_seq2, r_blk2, r_fn2, r_sk, r_rg, r_sq, r_bl, r_ex, r_rt, r_cd, r_cd2, r_op1, r_go1, r_mv, r_bi, r_lti, r_ln, r_ln1, r_ixn, r_ia, r_ia1, r_kill, r_fin, r_kfe1, r_kcx, r_exps0, r_exps1, r_kex, r_exp1, r_expv4, r_expc7, r_exh1, r_round2, r_lt1, ptd, lk, pt, lkO, xv, ↓reduceIte, Nat.reduceEqDiff, reduceCtorEq, Nat.reduceLT, true_and, and_true, decide_eq_true_eq, List.headD_cons, scrE, scrL, scr, rmO, Int.toNat_natCast, Int.natCast_nonneg, List.length_map]
  refine ite_of (fun hlt => ?_) (fun hge => ?_)
  · have hja : j < a.length := by omega
    have ga : (a.map cNode)[j]? = some (cNode a[j]) := by simp [hja]
    have gz : (filled cNode [tv 0, tv 0, .sl []] a j)[j]? = some [tv 0, tv 0, .sl []] := filled_get hja
    have hfl : (filled cNode [tv 0, tv 0, .sl []] a j).length = a.length := filled_length hj
    have hsem := fun lvl S => sem_toNode a[j] (hb a[j] (List.getElem_mem hja)) lvl S
    simp only [ga, Nat.le_refl, cNode, r_cons, r_kont, r_op1, r_go1, r_op3, r_iae, r_ld, r_ld4, r_kcn, r_kagn, r_sn0, r_sn1, r_sn3, r_ca, r_ca1, ptd, lk, pt, xv, ↓reduceIte, Nat.reduceEqDiff, reduceCtorEq, List.length_cons, List.length_nil, Nat.reduceAdd, Nat.reduceLT, true_and, List.map_cons, List.map_nil, List.cons_append, List.nil_append, List.take_succ_cons, List.take_zero, mens, men, Nat.zero_add, Nat.le_refl, and_self]
    refine kca_intro hsem ?_
    simp only [oNode, gz, Int.natCast_nonneg, hja, hfl, setp, List.getElem?_set_self, List.set_set, List.set_cons_zero, List.set_cons_succ, Prod.mk.injEq, ne_eq, not_false_eq_true, r_cons, r_nil, r_kont, r_seq1, r_blk1, r_rg, r_op1, r_go1, r_mv, r_bi, r_add0, r_op3, r_ixn, r_ia, r_rde, r_rd3, r_stamp0, r_iah, r_iah2, r_ia3, r_pack, r_setOb, r_kill, r_fgt, r_clean, r_okm1, r_okm4, r_okE0, r_okE1, r_okL0, r_okL2, r_round1, r_st, r_st2, r_kst, r_stcs0, r_stcs1, r_sc1, r_sc3, r_sc4, r_sc2, r_sc2c, r_sc5, r_lt1, ptd, keyOf, freshK, lk, pt, lkO, ptO, addO, xv, kv, kc, ↓reduceIte, Nat.reduceEqDiff, Nat.reduceMul, reduceCtorEq, List.length_cons, List.length_nil, Nat.reduceAdd, Nat.reduceLT, true_and, List.cons_append, List.nil_append, List.getElem?_cons_zero, List.getElem?_cons_succ, noSh, noShs, isSc, impv, impvs, impc, memB, keepB, keepOB, or_true, Bool.false_eq_true, scrE, scrL, scr, scrs, scrOb, rmO, Int.toNat_natCast, List.all_cons, List.all_nil, isCell, Bool.and_self, cellsOf, getp, Nat.zero_add, Nat.add_zero, List.set_cons_zero, List.set_cons_succ, Int.natCast_nonneg, Prod.mk.injEq, ne_eq, not_false_eq_true, List.length_map, and_false, and_self]
    refine ⟨by rw [fits_i64]; omega, cntJ_intro () hja ?_ trivial⟩
    have hse := filled_set (c := cNode) (z := [tv 0, tv 0, .sl []]) (e := [tv a[j].control, tv a[j].parent, .sl (rI a[j].links)]) hja rfl
    rw [hse, show (j + 1) * 1 = j * 1 + 1 from by omega]
    rfl
  · have : j = a.length := by omega
    subst this
    rw [filled_all]
    simp
theorem sem_toWire (x : TWire) (hb : bdWire 4294967296 x) (lvl : Nat) (S : Sto) : Sem Go.Proofs.Tryd.prog fid_laws_toWire lvl [.ag ((cWire x).map .tr)] S (oWire x) S := by
  have b0 : x.name.size ≤ 4294967296 := hb
  refine sem_of_chk k_laws_toWire (by simp [oWire, low, men, mens]) ?_
  simp only [c_laws_toWire, cWire, zfill, zobs, List.map_cons, List.map_nil, r_setAt0, r_setAt1, List.set_cons_zero, List.set_cons_succ, r_cons, r_nil, r_kont, r_seq1, r_fn2, r_rg, r_sq, r_rt, r_wpF, r_op1, r_go1, r_bt, r_bt1, r_al, r_op3, r_fa, r_fa1, r_fa2, r_pack, r_setOb, r_ltr, r_ld, r_ld1, r_labm, r_ld5, r_fin, r_kfe1, r_kcx, r_exps0, r_exps1, r_kex, r_exb1, r_exp2, r_exc, r_kagx, r_expv1, r_kxc, r_expcs0, r_expcs1, r_expc1, r_st, r_st1, r_stb, r_setAt0, r_setAt1, r_lows0, r_lows1, r_low1, zfill, zobs, ptd, keyOf, freshK, lk, pt, lkO, ptO, addO, xv, kc, params, ↓reduceIte, Nat.reduceEqDiff, Nat.reduceMul, reduceCtorEq, List.length_cons, List.length_nil, Nat.reduceAdd, Nat.reduceLeDiff, Nat.reduceLT, true_and, and_true, List.map_cons, List.map_nil, List.getElem?_cons_zero, List.drop_succ_cons, List.drop_zero, List.take_succ_cons, List.take_zero, List.headD_cons, List.tail_cons, List.all_cons, List.all_nil, isCell, Bool.and_self, cellsOf, totr, totrs, tocs, Nat.zero_add, Nat.add_zero, List.set_cons_zero, List.set_cons_succ, Nat.le_refl, and_self]
  rfl
theorem sem_toWireS (a : (List TWire)) (ha : a.length ≤ 4294967296) (hb : ∀ y ∈ a, bdWire 4294967296 y) (lvl : Nat) (S : Sto) : Sem Go.Proofs.Tryd.prog fid_laws_toWireS lvl [.tr (.sl (a.map cWire))] S (.ow 2 (a.map cWire) true) S := by
  refine sem_of_chk k_laws_toWireS trivial ?_
  simp only [c_laws_toWireS, List.length_map, bigN, Int.natCast_nonneg, r_cons, r_nil, r_kont, r_seq1, r_rg, r_sq, r_bl, r_wpF, r_op1, r_go1, r_mv, r_ms, r_ms1, r_ln, r_ln1, r_lt1, bigN, ptd, keyOf, freshK, lk, pt, lkO, ptO, xv, kv, kc, params, trv, ↓reduceIte, Nat.reduceEqDiff, Nat.reduceMul, reduceCtorEq, List.length_cons, List.length_nil, Nat.reduceLeDiff, Nat.reduceLT, true_and, List.map_cons, List.map_nil, Int.toNat_natCast, Nat.zero_add, Int.natCast_nonneg, List.length_map, and_self, Int.cast_ofNat_Int]
  refine ⟨by omega, ?_⟩
  refine wp_count (α := Unit) a.length (fun j _ => ⟨lvl, [(0, .tr (.sl (a.map cWire))), (3, .hd (lvl, 224) [] 0 a.length none a.length), (4, iI j)], [(224, .ar 2 (filled cWire [ts ⟨#[]⟩, tv 0] a j) true a.length (j * 0))], S⟩) (fun _ _ => True) () ⟨by simp only [r_clean, r_okm1, r_okm4, r_okE0, r_okE1, r_okL0, r_okL2, ↓reduceIte, Nat.reduceEqDiff, reduceCtorEq, memB, keepB, keepOB, Bool.false_eq_true, and_self], by (simp only [filled_zero, r_fgt, ↓reduceIte, Nat.reduceEqDiff, Nat.reduceMul, reduceCtorEq, memB, keepB, keepOB, Bool.false_eq_true, Int.cast_ofNat_Int]) <;> rfl⟩ trivial ?_
  intro j _ hj _
  simp only [List.length_map, r_cons, r_nil, r_kont, r_seq1, r_seq2, r_blk2, r_fn2, r_sk, r_rg, r_sq, r_bl, r_ex, r_rt, r_cd, r_cd2, r_op1, r_go1, r_mv, r_bi, r_lti, r_ln, r_ln1, r_ixn, r_ia, r_ia1, r_kill, r_fin, r_kfe1, r_kcx, r_exps0, r_exps1, r_kex, r_exp1, r_expv4, r_expc7, r_exh1, r_round2, r_lt1, ptd, lk, pt, lkO, xv, ↓reduceIte, Nat.reduceEqDiff, reduceCtorEq, Nat.reduceLT, true_and, and_true, decide_eq_true_eq, List.headD_cons, scrE, scrL, scr, rmO, Int.toNat_natCast, Int.natCast_nonneg, List.length_map]
  refine ite_of (fun hlt => ?_) (fun hge => ?_)
  · have hja : j < a.length := by omega
    have ga : (a.map cWire)[j]? = some (cWire a[j]) := by simp [hja]
    have gz : (filled cWire [ts ⟨#[]⟩, tv 0] a j)[j]? = some [ts ⟨#[]⟩, tv 0] := filled_get hja
    have hfl : (filled cWire [ts ⟨#[]⟩, tv 0] a j).length = a.length := filled_length hj
    have hsem := fun lvl S => sem_toWire a[j] (hb a[j] (List.getElem_mem hja)) lvl S
    simp only [ga, Nat.le_refl, cWire, r_cons, r_kont, r_op1, r_go1, r_op3, r_iae, r_ld, r_ld4, r_kcn, r_kagn, r_sn0, r_sn1, r_sn3, r_ca, r_ca1, ptd, lk, pt, xv, ↓reduceIte, Nat.reduceEqDiff, reduceCtorEq, List.length_cons, List.length_nil, Nat.reduceAdd, Nat.reduceLT, true_and, List.map_cons, List.map_nil, List.cons_append, List.nil_append, List.take_succ_cons, List.take_zero, mens, men, Nat.zero_add, Nat.le_refl, and_self]
    refine kca_intro hsem ?_
    simp only [oWire, gz, Int.natCast_nonneg, hja, hfl, setp, List.getElem?_set_self, List.set_set, List.set_cons_zero, List.set_cons_succ, r_cons, r_nil, r_kont, r_seq1, r_blk1, r_rg, r_op1, r_go1, r_mv, r_bi, r_add0, r_op3, r_ixn, r_ia, r_rde, r_rd3, r_stamp0, r_iah, r_iah2, r_ia3, r_pack, r_setOb, r_fgt, r_clean, r_okm1, r_okm4, r_okE0, r_okE1, r_okL0, r_okL2, r_round1, r_st, r_st2, r_kst, r_stcs0, r_stcs1, r_sc1, r_sc3, r_sc4, r_sc2, r_lt1, ptd, keyOf, freshK, lk, pt, lkO, ptO, addO, xv, kv, kc, ↓reduceIte, Nat.reduceEqDiff, Nat.reduceMul, reduceCtorEq, List.length_cons, List.length_nil, Nat.reduceAdd, Nat.reduceLT, true_and, List.nil_append, List.getElem?_cons_zero, List.getElem?_cons_succ, noSh, noShs, isSc, impv, impvs, memB, keepB, keepOB, or_true, Bool.false_eq_true, Int.toNat_natCast, List.all_cons, List.all_nil, isCell, Bool.and_self, cellsOf, getp, Nat.zero_add, List.set_cons_zero, List.set_cons_succ, Int.natCast_nonneg, and_self]
    refine ⟨by rw [fits_i64]; omega, cntJ_intro () hja ?_ trivial⟩
    have hse := filled_set (c := cWire) (z := [ts ⟨#[]⟩, tv 0]) (e := [ts a[j].name, tv a[j].link]) hja rfl
    rw [hse, show (j + 1) * 0 = j * 0 from by omega]
    rfl
  · have : j = a.length := by omega
    subst this
    rw [filled_all]
    simp
theorem g_toStringS : chkF Go.Proofs.Tryd.prog fid_laws_toStringS (toS1 (.string ⟨#[]⟩)) = true := by kernel_rfl
theorem sem_toStringS (a : (List ByteArray)) (ha : a.length ≤ 4294967296) (lvl : Nat) (S : Sto) : Sem Go.Proofs.Tryd.prog fid_laws_toStringS lvl [.tr (.sl (rS a))] S (.ow 1 (rS a) true) S := sem_toS g_toStringS a ha lvl S
theorem sem_toBigraph (x : TBigraph) (hb : bdBigraph 4294967296 x) (lvl : Nat) (S : Sto) : Sem Go.Proofs.Tryd.prog fid_laws_toBigraph lvl [.ag ((cBigraph x).map .tr)] S (oBigraph x) S := by
  obtain ⟨b0, b1, b2, b3, b4, b5, b6⟩ := hb
  refine sem_of_chk k_laws_toBigraph (by simp [oBigraph, low, men, mens]) ?_
  simp only [c_laws_toBigraph, cBigraph, zfill, zobs, List.map_cons, List.map_nil, r_setAt0, r_setAt1, List.set_cons_zero, r_cons, r_nil, r_kont, r_seq1, r_rg, r_sq, r_wpF, r_op1, r_go1, r_bt, r_bt1, r_al, r_op3, r_fa, r_fa1, r_fa2, r_pack, r_setOb, r_ltr, r_ld, r_ld1, r_kcn, r_sn0, r_sn1, r_ca, r_ca1, r_st, r_st1, r_stb, r_setAt0, r_setAt1, r_lows0, r_lows1, r_low1, zfill, zobs, ptd, keyOf, freshK, lk, pt, lkO, ptO, addO, xv, kc, params, ↓reduceIte, Nat.reduceEqDiff, Nat.reduceMul, reduceCtorEq, List.length_cons, List.length_nil, Nat.reduceAdd, Nat.reduceLeDiff, Nat.reduceLT, true_and, List.map_cons, List.map_nil, List.cons_append, List.nil_append, List.getElem?_cons_zero, List.drop_succ_cons, List.drop_zero, mens, men, List.all_cons, List.all_nil, isCell, Bool.and_true, Bool.true_and, Bool.and_self, cellsOf, totr, totrs, tocs, Nat.zero_add, Nat.add_zero, List.set_cons_zero, and_self]
  refine kca_intro (sem_toNodeS x.nodes b0 b1) ?_
  simp only [r_setAt0, r_setAt1, List.set_cons_zero, List.set_cons_succ, r_cons, r_nil, r_kont, r_seq1, r_rg, r_sq, r_op1, r_go1, r_op3, r_fa, r_fa1, r_fa2, r_pack, r_setOb, r_ltr, r_ld, r_ld1, r_kcn, r_sn0, r_sn1, r_ca, r_ca1, r_st, r_st1, r_stb, r_setAt0, r_setAt1, r_lows0, r_lows1, r_low3, ptd, keyOf, freshK, lk, pt, lkO, ptO, addO, xv, ↓reduceIte, Nat.reduceEqDiff, Nat.reduceMul, reduceCtorEq, List.length_cons, List.length_nil, Nat.reduceAdd, Nat.reduceLeDiff, Nat.reduceLT, true_and, List.map_cons, List.map_nil, List.cons_append, List.nil_append, List.getElem?_cons_zero, List.drop_succ_cons, List.drop_zero, mens, men, noSh, impv, impc, or_true, isCell, cellsOf, Nat.zero_add, Nat.add_zero, List.set_cons_zero, List.set_cons_succ, List.length_map, and_self]
  refine kca_intro (sem_toIntS x.sites b2) ?_
  simp only [r_setAt0, r_setAt1, List.set_cons_zero, List.set_cons_succ, r_cons, r_nil, r_kont, r_seq1, r_rg, r_sq, r_op1, r_go1, r_op3, r_fa, r_fa1, r_fa2, r_pack, r_setOb, r_ltr, r_ld, r_ld1, r_kcn, r_sn0, r_sn1, r_ca, r_ca1, r_st, r_st1, r_stb, r_setAt0, r_setAt1, r_lows0, r_lows1, r_low1, r_low3, ptd, keyOf, freshK, lk, pt, lkO, ptO, addO, xv, ↓reduceIte, Nat.reduceEqDiff, Nat.reduceMul, reduceCtorEq, List.length_cons, List.length_nil, Nat.reduceAdd, Nat.reduceLeDiff, Nat.reduceLT, true_and, List.map_cons, List.map_nil, List.cons_append, List.nil_append, List.getElem?_cons_zero, List.drop_succ_cons, List.drop_zero, mens, men, noSh, impv, impc, or_true, isCell, cellsOf, Nat.zero_add, Nat.add_zero, List.set_cons_zero, List.set_cons_succ, List.length_map, and_self]
  refine kca_intro (sem_toStringS x.outer b3) ?_
  simp only [r_setAt0, r_setAt1, List.set_cons_zero, List.set_cons_succ, r_cons, r_nil, r_kont, r_seq1, r_rg, r_sq, r_op1, r_go1, r_op3, r_fa, r_fa1, r_fa2, r_pack, r_setOb, r_ltr, r_ld, r_ld1, r_kcn, r_sn0, r_sn1, r_ca, r_ca1, r_st, r_st1, r_stb, r_setAt0, r_setAt1, r_lows0, r_lows1, r_low3, ptd, keyOf, freshK, lk, pt, lkO, ptO, addO, xv, ↓reduceIte, Nat.reduceEqDiff, Nat.reduceMul, reduceCtorEq, List.length_cons, List.length_nil, Nat.reduceAdd, Nat.reduceLeDiff, Nat.reduceLT, true_and, List.map_cons, List.map_nil, List.cons_append, List.nil_append, List.getElem?_cons_zero, List.drop_succ_cons, List.drop_zero, mens, men, noSh, impv, impc, or_true, isCell, cellsOf, Nat.zero_add, Nat.add_zero, List.set_cons_zero, List.set_cons_succ, List.length_map, and_self]
  refine kca_intro (sem_toWireS x.inner b5 b6) ?_
  simp only [r_setAt0, r_setAt1, List.set_cons_zero, List.set_cons_succ, Prod.mk.injEq, r_cons, r_nil, r_kont, r_seq1, r_fn2, r_rg, r_sq, r_rt, r_op1, r_go1, r_fa, r_fa2, r_pack, r_setOb, r_kill, r_ld, r_labm, r_ld5, r_fin, r_kfe1, r_kcx, r_exps0, r_exps1, r_kex, r_exb1, r_exp2, r_exc, r_kagx, r_expv1, r_kxc, r_expcs0, r_expcs1, r_expc1, r_expc7, r_exh1, r_st, r_st1, r_stb, r_setAt0, r_setAt1, r_lows0, r_lows1, r_low1, r_low3, ptd, keyOf, freshK, lk, pt, lkO, ptO, addO, xv, ↓reduceIte, Nat.reduceEqDiff, Nat.reduceMul, reduceCtorEq, List.length_cons, List.length_nil, Nat.reduceAdd, Nat.reduceLT, true_and, and_true, List.drop_zero, List.take_succ_cons, List.take_zero, List.headD_cons, List.tail_cons, noSh, impv, impc, or_true, scrE, scrL, scr, scrs, scrOb, rmO, List.all_cons, List.all_nil, isCell, Bool.and_self, cellsOf, Nat.zero_add, Nat.add_zero, List.set_cons_zero, List.set_cons_succ, Nat.le_refl, Prod.mk.injEq, List.length_map, and_false, and_self]
  rfl
theorem sem_toRule (x : TRule) (hb : bdRule 4294967296 x) (lvl : Nat) (S : Sto) : Sem Go.Proofs.Tryd.prog fid_laws_toRule lvl [.ag ((cRule x).map .tr)] S (oRule x) S := by
  obtain ⟨b0, b1, b2⟩ := hb
  refine sem_of_chk k_laws_toRule (by simp [oRule, low, men, mens]) ?_
  simp only [c_laws_toRule, cRule, zfill, zobs, List.map_cons, List.map_nil, r_cons, r_nil, r_kont, r_seq1, r_rg, r_sq, r_wpF, r_op1, r_go1, r_bt, r_bt1, r_al, r_fa, r_fa1, r_ld, r_ld4, r_kcn, r_kagn, r_sn0, r_sn1, r_sn3, r_ca, r_ca1, zfill, zobs, ptd, keyOf, freshK, lk, pt, lkO, ptO, addO, xv, kc, params, ↓reduceIte, Nat.reduceEqDiff, Nat.reduceMul, reduceCtorEq, List.length_cons, List.length_nil, Nat.reduceAdd, Nat.reduceLeDiff, Nat.reduceLT, true_and, List.map_cons, List.map_nil, List.cons_append, List.nil_append, List.drop_zero, List.take_succ_cons, List.take_zero, mens, men, List.all_cons, List.all_nil, isCell, Bool.and_true, Bool.true_and, Bool.and_self, cellsOf, totr, totrs, tocs, Nat.zero_add, Nat.add_zero, and_self]
  refine kca_intro (sem_toBigraph x.redex b0) ?_
  simp only [oBigraph, r_setAt0, r_setAt1, List.set_cons_zero, List.set_cons_succ, r_cons, r_nil, r_kont, r_seq1, r_rg, r_sq, r_op1, r_go1, r_fa, r_fa1, r_fa2, r_pack, r_setOb, r_ld, r_ld4, r_kcn, r_kagn, r_sn0, r_sn1, r_sn3, r_ca, r_ca1, r_st, r_st1, r_stb, r_setAt0, r_setAt1, r_lows0, r_lows1, r_low1, r_low3, ptd, keyOf, freshK, lk, pt, lkO, ptO, addO, xv, ↓reduceIte, Nat.reduceEqDiff, Nat.reduceMul, reduceCtorEq, List.length_cons, List.length_nil, Nat.reduceAdd, Nat.reduceLeDiff, Nat.reduceLT, true_and, List.map_cons, List.map_nil, List.cons_append, List.nil_append, List.drop_succ_cons, List.drop_zero, List.take_succ_cons, List.take_zero, mens, men, noSh, noShs, isSc, impv, impvs, impc, or_true, List.all_cons, List.all_nil, isCell, Bool.and_self, cellsOf, Nat.zero_add, Nat.add_zero, List.set_cons_zero, List.set_cons_succ, List.length_map, and_self]
  refine kca_intro (sem_toBigraph x.reactum b1) ?_
  simp only [oBigraph, r_setAt0, r_setAt1, List.set_cons_zero, List.set_cons_succ, r_cons, r_nil, r_kont, r_seq1, r_rg, r_sq, r_op1, r_go1, r_op3, r_fa, r_fa1, r_fa2, r_pack, r_setOb, r_ltr, r_ld, r_ld1, r_kcn, r_sn0, r_sn1, r_ca, r_ca1, r_st, r_st1, r_stb, r_setAt0, r_setAt1, r_lows0, r_lows1, r_low1, r_low3, ptd, keyOf, freshK, lk, pt, lkO, ptO, addO, xv, ↓reduceIte, Nat.reduceEqDiff, Nat.reduceMul, reduceCtorEq, List.length_cons, List.length_nil, Nat.reduceAdd, Nat.reduceLeDiff, Nat.reduceLT, true_and, List.map_cons, List.map_nil, List.cons_append, List.nil_append, List.getElem?_cons_zero, List.drop_succ_cons, List.drop_zero, mens, men, noSh, noShs, isSc, impv, impvs, impc, or_true, List.all_cons, List.all_nil, isCell, Bool.and_self, cellsOf, Nat.zero_add, Nat.add_zero, List.set_cons_zero, List.set_cons_succ, List.length_map, and_self]
  refine kca_intro (sem_toIntS x.copies b2) ?_
  simp only [cut_map, r_setAt0, r_setAt1, List.set_cons_zero, List.set_cons_succ, Prod.mk.injEq, r_cons, r_nil, r_kont, r_seq1, r_fn2, r_rg, r_sq, r_rt, r_op1, r_go1, r_fa, r_fa2, r_pack, r_setOb, r_kill, r_ld, r_labm, r_ld5, r_fin, r_kfe1, r_kcx, r_exps0, r_exps1, r_kex, r_exb1, r_exp2, r_exc, r_kagx, r_expv1, r_kxc, r_expcs0, r_expcs1, r_expc1, r_expc7, r_exh0, r_exh1, r_st, r_st1, r_stb, r_setAt0, r_setAt1, r_lows0, r_lows1, r_low1, r_low3, ptd, keyOf, freshK, lk, pt, lkO, ptO, addO, xv, ↓reduceIte, Nat.reduceEqDiff, Nat.reduceMul, reduceCtorEq, List.length_cons, List.length_nil, Nat.reduceAdd, Nat.reduceLT, true_and, and_true, List.drop_zero, List.take_succ_cons, List.take_zero, List.headD_cons, List.tail_cons, noSh, impv, impc, or_true, scrE, scrL, scr, scrs, scrOb, rmO, List.all_cons, List.all_nil, isCell, Bool.and_self, cellsOf, Nat.zero_add, Nat.add_zero, List.set_cons_zero, List.set_cons_succ, Nat.le_refl, Prod.mk.injEq, List.length_map, and_false, and_self]
  rfl
theorem sem_toControl (x : TControl) (hb : bdControl 4294967296 x) (lvl : Nat) (S : Sto) : Sem Go.Proofs.Tryd.prog fid_laws_toControl lvl [.ag ((cControl x).map .tr)] S (oControl x) S := by
  have b0 : x.name.size ≤ 4294967296 := hb
  refine sem_of_chk k_laws_toControl (by simp [oControl, low, men, mens]) ?_
  simp only [c_laws_toControl, cControl, zfill, zobs, List.map_cons, List.map_nil, r_setAt0, r_setAt1, List.set_cons_zero, List.set_cons_succ, r_cons, r_nil, r_kont, r_seq1, r_fn2, r_rg, r_sq, r_rt, r_wpF, r_op1, r_go1, r_bt, r_bt1, r_al, r_op3, r_fa, r_fa1, r_fa2, r_pack, r_setOb, r_ltr, r_ld, r_ld1, r_labm, r_ld5, r_fin, r_kfe1, r_kcx, r_exps0, r_exps1, r_kex, r_exb1, r_exp2, r_exc, r_kagx, r_expv1, r_kxc, r_expcs0, r_expcs1, r_expc1, r_st, r_st1, r_stb, r_setAt0, r_setAt1, r_lows0, r_lows1, r_low1, zfill, zobs, ptd, keyOf, freshK, lk, pt, lkO, ptO, addO, xv, kc, params, ↓reduceIte, Nat.reduceEqDiff, Nat.reduceMul, reduceCtorEq, List.length_cons, List.length_nil, Nat.reduceAdd, Nat.reduceLeDiff, Nat.reduceLT, true_and, and_true, List.map_cons, List.map_nil, List.getElem?_cons_zero, List.drop_succ_cons, List.drop_zero, List.take_succ_cons, List.take_zero, List.headD_cons, List.tail_cons, List.all_cons, List.all_nil, isCell, Bool.and_self, cellsOf, totr, totrs, tocs, Nat.zero_add, Nat.add_zero, List.set_cons_zero, List.set_cons_succ, Nat.le_refl, and_self]
  rfl
theorem sem_toControlS (a : (List TControl)) (ha : a.length ≤ 4294967296) (hb : ∀ y ∈ a, bdControl 4294967296 y) (lvl : Nat) (S : Sto) : Sem Go.Proofs.Tryd.prog fid_laws_toControlS lvl [.tr (.sl (a.map cControl))] S (.ow 3 (a.map cControl) true) S := by
  refine sem_of_chk k_laws_toControlS trivial ?_
  simp only [c_laws_toControlS, List.length_map, bigN, Int.natCast_nonneg, r_cons, r_nil, r_kont, r_seq1, r_rg, r_sq, r_bl, r_wpF, r_op1, r_go1, r_mv, r_ms, r_ms1, r_ln, r_ln1, r_lt1, bigN, ptd, keyOf, freshK, lk, pt, lkO, ptO, xv, kv, kc, params, trv, ↓reduceIte, Nat.reduceEqDiff, Nat.reduceMul, reduceCtorEq, List.length_cons, List.length_nil, Nat.reduceLeDiff, Nat.reduceLT, true_and, List.map_cons, List.map_nil, Int.toNat_natCast, Nat.zero_add, Int.natCast_nonneg, List.length_map, and_self, Int.cast_ofNat_Int]
  refine ⟨by omega, ?_⟩
  refine wp_count (α := Unit) a.length (fun j _ => ⟨lvl, [(0, .tr (.sl (a.map cControl))), (3, .hd (lvl, 224) [] 0 a.length none a.length), (4, iI j)], [(224, .ar 3 (filled cControl [ts ⟨#[]⟩, tv 0, tv 0] a j) true a.length (j * 0))], S⟩) (fun _ _ => True) () ⟨by simp only [r_clean, r_okm1, r_okm4, r_okE0, r_okE1, r_okL0, r_okL2, ↓reduceIte, Nat.reduceEqDiff, reduceCtorEq, memB, keepB, keepOB, Bool.false_eq_true, and_self], by (simp only [filled_zero, r_fgt, ↓reduceIte, Nat.reduceEqDiff, Nat.reduceMul, reduceCtorEq, memB, keepB, keepOB, Bool.false_eq_true, Int.cast_ofNat_Int]) <;> rfl⟩ trivial ?_
  intro j _ hj _
  simp only [List.length_map, r_cons, r_nil, r_kont, r_seq1, r_seq2, r_blk2, r_fn2, r_sk, r_rg, r_sq, r_bl, r_ex, r_rt, r_cd, r_cd2, r_op1, r_go1, r_mv, r_bi, r_lti, r_ln, r_ln1, r_ixn, r_ia, r_ia1, r_kill, r_fin, r_kfe1, r_kcx, r_exps0, r_exps1, r_kex, r_exp1, r_expv4, r_expc7, r_exh1, r_round2, r_lt1, ptd, lk, pt, lkO, xv, ↓reduceIte, Nat.reduceEqDiff, reduceCtorEq, Nat.reduceLT, true_and, and_true, decide_eq_true_eq, List.headD_cons, scrE, scrL, scr, rmO, Int.toNat_natCast, Int.natCast_nonneg, List.length_map]
  refine ite_of (fun hlt => ?_) (fun hge => ?_)
  · have hja : j < a.length := by omega
    have ga : (a.map cControl)[j]? = some (cControl a[j]) := by simp [hja]
    have gz : (filled cControl [ts ⟨#[]⟩, tv 0, tv 0] a j)[j]? = some [ts ⟨#[]⟩, tv 0, tv 0] := filled_get hja
    have hfl : (filled cControl [ts ⟨#[]⟩, tv 0, tv 0] a j).length = a.length := filled_length hj
    have hsem := fun lvl S => sem_toControl a[j] (hb a[j] (List.getElem_mem hja)) lvl S
    simp only [ga, Nat.le_refl, cControl, r_cons, r_kont, r_op1, r_go1, r_op3, r_iae, r_ld, r_ld4, r_kcn, r_kagn, r_sn0, r_sn1, r_sn3, r_ca, r_ca1, ptd, lk, pt, xv, ↓reduceIte, Nat.reduceEqDiff, reduceCtorEq, List.length_cons, List.length_nil, Nat.reduceAdd, Nat.reduceLT, true_and, List.map_cons, List.map_nil, List.cons_append, List.nil_append, List.take_succ_cons, List.take_zero, mens, men, Nat.zero_add, Nat.le_refl, and_self]
    refine kca_intro hsem ?_
    simp only [oControl, gz, Int.natCast_nonneg, hja, hfl, setp, List.getElem?_set_self, List.set_set, List.set_cons_zero, List.set_cons_succ, r_cons, r_nil, r_kont, r_seq1, r_blk1, r_rg, r_op1, r_go1, r_mv, r_bi, r_add0, r_op3, r_ixn, r_ia, r_rde, r_rd3, r_stamp0, r_iah, r_iah2, r_ia3, r_pack, r_setOb, r_fgt, r_clean, r_okm1, r_okm4, r_okE0, r_okE1, r_okL0, r_okL2, r_round1, r_st, r_st2, r_kst, r_stcs0, r_stcs1, r_sc1, r_sc3, r_sc4, r_sc2, r_lt1, ptd, keyOf, freshK, lk, pt, lkO, ptO, addO, xv, kv, kc, ↓reduceIte, Nat.reduceEqDiff, Nat.reduceMul, reduceCtorEq, List.length_cons, List.length_nil, Nat.reduceAdd, Nat.reduceLT, true_and, List.nil_append, List.getElem?_cons_zero, List.getElem?_cons_succ, noSh, noShs, isSc, impv, impvs, memB, keepB, keepOB, or_true, Bool.false_eq_true, Int.toNat_natCast, List.all_cons, List.all_nil, isCell, Bool.and_self, cellsOf, getp, Nat.zero_add, List.set_cons_zero, List.set_cons_succ, Int.natCast_nonneg, and_self]
    refine ⟨by rw [fits_i64]; omega, cntJ_intro () hja ?_ trivial⟩
    have hse := filled_set (c := cControl) (z := [ts ⟨#[]⟩, tv 0, tv 0]) (e := [ts a[j].name, tv a[j].ports, tv a[j].kind_]) hja rfl
    rw [hse, show (j + 1) * 0 = j * 0 from by omega]
    rfl
  · have : j = a.length := by omega
    subst this
    rw [filled_all]
    simp
end Go.Fd

/-
  WHAT THE LAW OF IsRule LEANS ON. Own work.
-/

/-
  THE LAW OF IsRule (printed by lawtext.py). Own work.
-/
namespace Go.Fd
set_option maxRecDepth 20000
theorem sem_FnExactIsRule (x0 : (List TControl)) (x1 : TRule) (hb0_0 : x0.length ≤ 9223372036854775807) (hb0_1 : ∀ y ∈ x0, bdControl 9223372036854775807 y) (hb1_0 : bdRule 9223372036854775807 x1) (hf1 : ftRule x1) (lvl : Nat) (S : Sto) : Sem Go.Proofs.Tryd.prog fid_laws_FnExactIsRule lvl [.tr (.sl (x0.map cControl)), .ag ((cRule x1).map .tr)] S (iB true) S := by
  refine sem_of_chk k_laws_FnExactIsRule trivial ?_
  simp only [c_laws_FnExactIsRule, cRule, r_cons, r_nil, r_kont, r_seq1, r_rg, r_sq, r_wpF, r_op1, r_mv, r_bt, r_bt1, r_kcn, r_sn0, r_sn1, r_ca, r_ca1, ptd, lk, pt, xv, kv, kc, params, ↓reduceIte, Nat.reduceEqDiff, reduceCtorEq, List.length_cons, List.length_nil, Nat.reduceAdd, Nat.reduceLeDiff, Nat.reduceLT, true_and, List.map_cons, List.map_nil, List.cons_append, List.nil_append, mens, men, List.all_cons, List.all_nil, isCell, Bool.and_true, Bool.true_and, Bool.and_self, cellsOf, totr, totrs, tocs, Nat.zero_add, and_self]
  have ul : (1048576 : Int) ≤ 1048576 := Int.le_refl _
  obtain ⟨_, ha0⟩ := sem_szControlS x0 hb0_0 hb0_1 (1048576) (by omega) (by omega)
  refine kca_intro ha0 ?_
  simp only [r_cons, r_nil, r_kont, r_seq1, r_seq3, r_fn2, r_sk, r_rg, r_sq, r_rt, r_cd, r_cd2, r_op1, r_go1, r_mv, r_bi, r_lti, r_ld, r_ld4, r_kcn, r_kagn, r_sn0, r_sn1, r_sn3, r_ca, r_ca1, r_fin, r_kfe1, r_kcx, r_exps0, r_exps1, r_kex, r_exp1, r_expv2, ptd, keyOf, freshK, lk, pt, addO, xv, kv, kc, ↓reduceIte, Nat.reduceEqDiff, Nat.reduceMul, reduceCtorEq, List.length_cons, List.length_nil, Nat.reduceAdd, Nat.reduceLT, true_and, decide_eq_true_eq, List.map_cons, List.map_nil, List.cons_append, List.nil_append, List.take_succ_cons, List.take_zero, mens, men, noSh, isSc, impv, or_true, Nat.zero_add, Nat.le_refl, and_self]
  refine ite_of (fun _ => trivial) (fun hz0 => ?_)
  have zp0 := (Zm_L (f := szControl) (fun y => (zpControl y)) x0) (1048576) (by omega) (by omega)
  simp only at zp0
  have hp0 := zp0.2 (by omega)
  obtain ⟨hs0_0, hs0_1⟩ := hp0
  obtain ⟨_, ha1⟩ := sem_szRule x1 hb1_0 (szL szControl x0 (1048576)) (by omega) (by omega)
  refine kca_intro ha1 ?_
  simp only [r_cons, r_nil, r_kont, r_seq1, r_seq3, r_fn2, r_sk, r_rg, r_sq, r_rt, r_cd, r_cd2, r_op1, r_go1, r_mv, r_bi, r_lti, r_kcn, r_sn0, r_sn1, r_ca, r_ca1, r_fin, r_kfe1, r_kcx, r_exps0, r_exps1, r_kex, r_exp1, r_expv2, ptd, keyOf, freshK, lk, pt, addO, xv, kv, kc, ↓reduceIte, Nat.reduceEqDiff, Nat.reduceMul, reduceCtorEq, List.length_nil, Nat.reduceLT, true_and, decide_eq_true_eq, List.map_cons, List.map_nil, List.cons_append, List.nil_append, mens, men, noSh, isSc, impv, or_true, and_self]
  refine ite_of (fun _ => trivial) (fun hz1 => ?_)
  have zp1 := (zpRule x1) (szL szControl x0 (1048576)) (by omega) (by omega)
  simp only at zp1
  have hp1 := zp1.2 (by omega)
  have hs1_0 := hp1
  refine kca_intro (sem_toControlS x0 hs0_0 hs0_1) ?_
  simp only [r_cons, r_kont, r_op1, r_go1, r_ld, r_ld4, r_kcn, r_kagn, r_sn0, r_sn1, r_sn3, r_ca, r_ca1, ptd, keyOf, freshK, lk, pt, addO, xv, ↓reduceIte, Nat.reduceEqDiff, Nat.reduceMul, reduceCtorEq, List.length_cons, List.length_nil, Nat.reduceAdd, Nat.reduceLT, true_and, List.map_cons, List.map_nil, List.cons_append, List.nil_append, List.take_succ_cons, List.take_zero, mens, men, noSh, impv, impc, or_true, Bool.false_eq_true, Nat.zero_add, Nat.le_refl, and_self]
  refine kca_intro (sem_toRule x1 hs1_0) ?_
  simp only [oRule, r_cons, r_kont, r_op1, r_kcn, r_kagn, r_sn0, r_sn1, r_sn3, r_ca, r_ca1, ptd, keyOf, freshK, lk, pt, addO, xv, ↓reduceIte, Nat.reduceEqDiff, Nat.reduceMul, reduceCtorEq, List.length_nil, Nat.reduceLT, true_and, and_true, List.map_cons, List.map_nil, List.cons_append, List.nil_append, mens, men, noSh, noShs, isSc, impv, impvs, impc, or_false, Bool.false_eq_true, and_false, and_self]
  refine kca_intro (sem_spec_IsRule x0 x1 hs0_0 hs0_1 hs1_0 hf1) ?_
  simp only [r_cons, r_nil, r_kont, r_seq1, r_rg, r_sq, r_op1, r_mv, r_kcn, r_sn0, r_sn1, r_ca, r_ca1, ptd, keyOf, freshK, lk, pt, addO, xv, ↓reduceIte, Nat.reduceEqDiff, Nat.reduceMul, reduceCtorEq, List.length_nil, Nat.reduceLT, true_and, List.map_cons, List.map_nil, List.cons_append, List.nil_append, mens, men, noSh, isSc, impv, or_true, and_self]
  refine kca_intro (sem_toControlS x0 hs0_0 hs0_1) ?_
  simp only [r_cons, r_nil, r_kont, r_seq1, r_rg, r_sq, r_op1, r_go1, r_mv, r_ld, r_ld4, r_kcn, r_kagn, r_sn0, r_sn1, r_sn3, r_ca, r_ca1, ptd, keyOf, freshK, lk, pt, addO, xv, ↓reduceIte, Nat.reduceEqDiff, Nat.reduceMul, reduceCtorEq, List.length_cons, List.length_nil, Nat.reduceAdd, Nat.reduceLT, true_and, List.map_cons, List.map_nil, List.cons_append, List.nil_append, List.take_succ_cons, List.take_zero, mens, men, noSh, impv, impc, or_true, Bool.false_eq_true, Nat.zero_add, Nat.le_refl, and_self]
  refine kca_intro (sem_toRule x1 hs1_0) ?_
  simp only [oRule, r_cons, r_nil, r_kont, r_seq1, r_rg, r_sq, r_op1, r_go1, r_mv, r_al, r_pack, r_setOb, r_ld, r_labm, r_ld5, r_kcn, r_kagn, r_sn0, r_sn1, r_sn3, r_ca, r_ca1, r_st, r_st1, r_stb, r_setAt0, r_setAt1, r_lows0, r_lows1, r_low1, zfill, zobs, ptd, keyOf, freshK, lk, pt, lkO, ptO, addO, xv, kc, ↓reduceIte, Nat.reduceEqDiff, Nat.reduceMul, reduceCtorEq, List.length_cons, List.length_nil, Nat.reduceAdd, Nat.reduceLT, true_and, and_true, List.map_cons, List.map_nil, List.cons_append, List.nil_append, List.drop_zero, List.take_succ_cons, List.take_zero, mens, men, noSh, noShs, isSc, impv, impvs, impc, or_false, Bool.false_eq_true, List.all_cons, List.all_nil, isCell, Bool.and_self, cellsOf, Nat.zero_add, Nat.add_zero, List.set_cons_zero, List.set_cons_succ, Nat.le_refl, and_false, and_self]
  refine kca_intro (sem_impl_IsRule x0 x1 hs0_0 hs0_1 hs1_0 hf1) ?_
  simp only [bne_self_eq_false, r_cons, r_nil, r_kont, r_seq1, r_sk, r_rg, r_sq, r_cd, r_cd2, r_op1, r_go1, r_mv, r_bi, r_neb, r_kcn, r_sn0, r_sn1, r_ca, r_ca1, r_lt1, ptd, keyOf, freshK, lk, pt, addO, xv, ↓reduceIte, Nat.reduceEqDiff, Nat.reduceMul, reduceCtorEq, List.length_nil, Nat.reduceLT, true_and, List.map_cons, List.map_nil, List.cons_append, List.nil_append, mens, men, noSh, isSc, impv, or_true, Bool.false_eq_true, and_self]
  refine kca_intro (sem_toControlS x0 hs0_0 hs0_1) ?_
  simp only [r_cons, r_kont, r_op1, r_kcn, r_sn0, r_sn1, r_ca, r_ca1, ptd, keyOf, freshK, lk, pt, addO, xv, ↓reduceIte, Nat.reduceEqDiff, Nat.reduceMul, reduceCtorEq, List.length_nil, Nat.reduceLT, true_and, List.map_cons, List.map_nil, List.cons_append, List.nil_append, mens, men, noSh, impv, impc, or_true, Bool.false_eq_true, and_self]
  refine kca_intro (sem_eqControlS x0 x0 hb0_0 hb0_1) ?_
  simp only [r_cons, r_nil, r_kont, r_seq1, r_sk, r_rg, r_sq, r_cd, r_cd2, r_op1, r_go1, r_nt, r_nt1, r_pack, r_ld, r_ld4, r_labm, r_ld5, r_kcn, r_kagn, r_sn0, r_sn1, r_sn3, r_ca, r_ca1, ptd, keyOf, freshK, lk, pt, lkO, addO, xv, ↓reduceIte, Nat.reduceEqDiff, Nat.reduceMul, reduceCtorEq, List.length_cons, List.length_nil, Nat.reduceAdd, Nat.reduceLT, true_and, decide_true, List.map_cons, List.map_nil, List.cons_append, List.nil_append, List.drop_zero, List.take_succ_cons, List.take_zero, mens, men, noSh, isSc, impv, or_true, Bool.false_eq_true, Bool.not_true, Nat.zero_add, Nat.le_refl, and_self]
  refine kca_intro (sem_toRule x1 hs1_0) ?_
  simp only [oRule, r_cons, r_kont, r_op1, r_kcn, r_kagn, r_sn0, r_sn1, r_sn3, r_ca, r_ca1, ptd, keyOf, freshK, lk, pt, addO, xv, ↓reduceIte, Nat.reduceEqDiff, Nat.reduceMul, reduceCtorEq, List.length_nil, Nat.reduceLT, true_and, and_true, List.map_cons, List.map_nil, List.cons_append, List.nil_append, mens, men, noSh, noShs, isSc, impv, impvs, impc, or_false, Bool.false_eq_true, and_false, and_self]
  refine kca_intro (sem_eqRule x1 x1 hb1_0) ?_
  simp only [r_cons, r_nil, r_kont, r_seq1, r_fn2, r_sk, r_rg, r_sq, r_rt, r_cd, r_cd2, r_op1, r_go1, r_mv, r_nt, r_nt1, r_fin, r_kfe1, r_kcx, r_exps0, r_exps1, r_kex, r_exp1, r_expv2, ptd, keyOf, freshK, lk, pt, addO, xv, kv, kc, ↓reduceIte, Nat.reduceEqDiff, Nat.reduceMul, reduceCtorEq, List.length_nil, Nat.reduceLT, decide_true, noSh, isSc, impv, or_true, Bool.false_eq_true, Bool.not_true, and_self]
end Go.Fd

/-
  FOUNDATION 52: numbers and strings as parameters of a law. Own work.
-/
namespace Go.Fd
open Go.RowKit Go.ChangeShapes Go.ChangeMaps Go.WideMaps
section
variable {H : Type} {enc : TypeId × Value → H} {P : Program} {w : World} {t : TypeId} {v : Value} {d : DataW H} {p : List MemPlace} {sp : Nat → Bool} {hd : Bool} {base : Nat}
end
end Go.Fd

/-
  WHAT THE LAWS' ARGUMENTS READ AS (printed by lawgen.py). Own work.
-/
namespace Go.Fd
set_option maxRecDepth 20000
theorem rd_9 : Reads Go.Proofs.Tryd.prog 9 (fun n : ByteArray => [ts n]) (fun n => n.size ≤ 9223372036854775807) := Reads_string Go.Proofs.Tryd.underlying9
theorem rd_3 : Reads Go.Proofs.Tryd.prog 3 (fun n : Int => [tv n]) (fits .i64) := Reads_int Go.Proofs.Tryd.underlying3
theorem rd_54 : Reads Go.Proofs.Tryd.prog 54 cControl (fun x => bdControl 9223372036854775807 x ∧ ftControl x) := Reads_mp (Reads_struct Go.Proofs.Tryd.underlying54 (show ReadsP Go.Proofs.Tryd.prog 0 [(0, 9), (1, 3), (2, 3)] _ _ from (ReadsP_cons (k := 1) (by kernel_rfl) (fun _ => rfl) rd_9 (ReadsP_cons (k := 1) (by kernel_rfl) (fun _ => rfl) rd_3 (ReadsP_cons (k := 1) (by kernel_rfl) (fun _ => rfl) rd_3 ReadsP_nil))))) (fun p => TControl.mk p.1 p.2.1 p.2.2.1) (fun _ => rfl) (fun x h => ⟨h.1, ⟨h.2.1, h.2.2.1⟩⟩)
theorem rd_22 : Reads Go.Proofs.Tryd.prog 22 (fun l : List TControl => [Tr.sl (l.map cControl)]) (fun l => l.length ≤ 9223372036854775807 ∧ ∀ x ∈ l, (fun x => bdControl 9223372036854775807 x ∧ ftControl x) x) := Reads_slice (k := 2) Go.Proofs.Tryd.underlying22 (by kernel_rfl) (fun _ => rfl) rd_54
theorem rd_24 : Reads Go.Proofs.Tryd.prog 24 (fun l : List Int => [Tr.sl (l.map (fun n : Int => [tv n]))]) (fun l => l.length ≤ 9223372036854775807 ∧ ∀ x ∈ l, (fits .i64) x) := Reads_slice (k := 0) Go.Proofs.Tryd.underlying24 (by kernel_rfl) (fun _ => rfl) rd_3
theorem rd_78 : Reads Go.Proofs.Tryd.prog 78 cNode (fun x => bdNode 9223372036854775807 x ∧ ftNode x) := Reads_mp (Reads_struct Go.Proofs.Tryd.underlying78 (show ReadsP Go.Proofs.Tryd.prog 0 [(0, 3), (1, 3), (2, 24)] _ _ from (ReadsP_cons (k := 1) (by kernel_rfl) (fun _ => rfl) rd_3 (ReadsP_cons (k := 1) (by kernel_rfl) (fun _ => rfl) rd_3 (ReadsP_cons (k := 1) (by kernel_rfl) (fun _ => rfl) rd_24 ReadsP_nil))))) (fun p => TNode.mk p.1 p.2.1 p.2.2.1) (fun _ => rfl) (fun x h => ⟨h.2.2.1.1, ⟨h.1, h.2.1, (fun y hy => (h.2.2.1.2 y hy))⟩⟩)
theorem rd_23 : Reads Go.Proofs.Tryd.prog 23 (fun l : List TNode => [Tr.sl (l.map cNode)]) (fun l => l.length ≤ 9223372036854775807 ∧ ∀ x ∈ l, (fun x => bdNode 9223372036854775807 x ∧ ftNode x) x) := Reads_slice (k := 2) Go.Proofs.Tryd.underlying23 (by kernel_rfl) (fun _ => rfl) rd_78
theorem rd_25 : Reads Go.Proofs.Tryd.prog 25 (fun l : List ByteArray => [Tr.sl (l.map (fun n : ByteArray => [ts n]))]) (fun l => l.length ≤ 9223372036854775807 ∧ ∀ x ∈ l, (fun n => n.size ≤ 9223372036854775807) x) := Reads_slice (k := 0) Go.Proofs.Tryd.underlying25 (by kernel_rfl) (fun _ => rfl) rd_9
theorem rd_81 : Reads Go.Proofs.Tryd.prog 81 cWire (fun x => bdWire 9223372036854775807 x ∧ ftWire x) := Reads_mp (Reads_struct Go.Proofs.Tryd.underlying81 (show ReadsP Go.Proofs.Tryd.prog 0 [(0, 9), (1, 3)] _ _ from (ReadsP_cons (k := 1) (by kernel_rfl) (fun _ => rfl) rd_9 (ReadsP_cons (k := 1) (by kernel_rfl) (fun _ => rfl) rd_3 ReadsP_nil)))) (fun p => TWire.mk p.1 p.2.1) (fun _ => rfl) (fun x h => ⟨h.1, h.2.1⟩)
theorem rd_26 : Reads Go.Proofs.Tryd.prog 26 (fun l : List TWire => [Tr.sl (l.map cWire)]) (fun l => l.length ≤ 9223372036854775807 ∧ ∀ x ∈ l, (fun x => bdWire 9223372036854775807 x ∧ ftWire x) x) := Reads_slice (k := 1) Go.Proofs.Tryd.underlying26 (by kernel_rfl) (fun _ => rfl) rd_81
theorem rd_28 : Reads Go.Proofs.Tryd.prog 28 cBigraph (fun x => bdBigraph 9223372036854775807 x ∧ ftBigraph x) := Reads_mp (Reads_struct Go.Proofs.Tryd.underlying28 (show ReadsP Go.Proofs.Tryd.prog 0 [(0, 3), (1, 23), (2, 24), (3, 3), (4, 25), (5, 26)] _ _ from (ReadsP_cons (k := 1) (by kernel_rfl) (fun _ => rfl) rd_3 (ReadsP_cons (k := 1) (by kernel_rfl) (fun _ => rfl) rd_23 (ReadsP_cons (k := 1) (by kernel_rfl) (fun _ => rfl) rd_24 (ReadsP_cons (k := 1) (by kernel_rfl) (fun _ => rfl) rd_3 (ReadsP_cons (k := 1) (by kernel_rfl) (fun _ => rfl) rd_25 (ReadsP_cons (k := 1) (by kernel_rfl) (fun _ => rfl) rd_26 ReadsP_nil)))))))) (fun p => TBigraph.mk p.1 p.2.1 p.2.2.1 p.2.2.2.1 p.2.2.2.2.1 p.2.2.2.2.2.1) (fun _ => rfl) (fun x h => ⟨⟨h.2.1.1, (fun y hy => (h.2.1.2 y hy).1), h.2.2.1.1, h.2.2.2.2.1.1, (fun y hy => (h.2.2.2.2.1.2 y hy)), h.2.2.2.2.2.1.1, (fun y hy => (h.2.2.2.2.2.1.2 y hy).1)⟩, ⟨h.1, (fun y hy => (h.2.1.2 y hy).2), (fun y hy => (h.2.2.1.2 y hy)), h.2.2.2.1, (fun y hy => (h.2.2.2.2.2.1.2 y hy).2)⟩⟩)
theorem rd_44 : Reads Go.Proofs.Tryd.prog 44 cRule (fun x => bdRule 9223372036854775807 x ∧ ftRule x) := Reads_mp (Reads_struct Go.Proofs.Tryd.underlying44 (show ReadsP Go.Proofs.Tryd.prog 0 [(0, 28), (6, 28), (12, 24)] _ _ from (ReadsP_cons (k := 6) (by kernel_rfl) (fun _ => rfl) rd_28 (ReadsP_cons (k := 6) (by kernel_rfl) (fun _ => rfl) rd_28 (ReadsP_cons (k := 1) (by kernel_rfl) (fun _ => rfl) rd_24 ReadsP_nil))))) (fun p => TRule.mk p.1 p.2.1 p.2.2.1) (fun _ => rfl) (fun x h => ⟨⟨h.1.1, h.2.1.1, h.2.2.1.1⟩, ⟨h.1.2, h.2.1.2, (fun y hy => (h.2.2.1.2 y hy))⟩⟩)
end Go.Fd
