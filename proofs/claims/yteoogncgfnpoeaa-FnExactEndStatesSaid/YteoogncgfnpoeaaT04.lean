/-
  PLAIN WORDS FOR THE DATA, AND WHAT HOLDS OF THE HELPERS OF THE LAWS THAT ARE ALIKE FOR ALL KINDS OF SLICES. Own work.
-/
import Derived.Test.YteoogncgfnpoeaaT03
import Derived.Test.YteoogncgfnpoeaaProg
import Derived.KernelRfl
namespace Go.Fd
set_option maxRecDepth 10000

theorem ite_of {c : Prop} [Decidable c] {p q : Prop} (h1 : c → p) (h2 : ¬ c → q) : if c then p else q := by
  split
  · exact h1 ‹_›
  · exact h2 ‹_›
/-- How much is left when n is taken from it. -/
def szN (n : Nat) (left : Int) : Int := if left - n < 0 then -1 else left - n
/-- What is left behind the elements of a list. -/
def szF {α : Type} (f : α → Int → Int) : List α → Int → Int
  | [], l => l
  | x :: r, l => if f x l < 0 then -1 else szF f r (f x l)
def szL {α : Type} (f : α → Int → Int) (a : List α) (left : Int) : Int := if left - a.length < 0 then -1 else szF f a (left - a.length)

def sz0 : F2 :=
  { nt := 12, res := [.t 4 [0]], body :=
   (.sq (.rg none [⟨some 4, none, .mv (.k (.int .i64 0)) none⟩])
   (.sq (.rg none [⟨some 5, none, .mv (.t 1) none⟩,
      ⟨some 6, none, .mv (.t 0) none⟩,
      ⟨some 7, none, .ln (.t 6)⟩,
      ⟨some 8, none, .bi .sub 0 (.t 5) (.t 7)⟩,
      ⟨some 1, none, .mv (.t 8) none⟩])
   (.sq (.sq (.rg none [⟨some 9, none, .mv (.t 1) none⟩,
       ⟨some 10, none, .bi .lss 0 (.t 9) (.k (.int .i64 0))⟩])
    (.cd (.t 10) (.sq (.rg none [⟨some 4, none, .mv (.k (.int .i64 (-1))) none⟩])
     (.rt))
    (.sk)))
   (.sq (.rg none [⟨some 11, none, .mv (.t 1) none⟩,
      ⟨some 4, none, .mv (.t 11) none⟩])
   (.rt))))) }
theorem sem_sz0 {P : Program} {fid : FuncId} (hc : chkF P fid sz0 = true) (es : Row) (left : Int) (h : es.length ≤ 9223372036854775807) (h0 : 0 ≤ left) (h1 : left ≤ 1048576) (lvl : Nat) (S : Sto) :
    Sem P fid lvl [.tr (.sl es), iI left] S (iI (szN es.length left)) S := by
  refine sem_of_chk hc trivial ?_
  simp only [sz0, r_cons, r_nil, r_kont, r_seq1, r_seq3, r_fn2, r_sk, r_rg, r_sq, r_rt, r_cd, r_cd2, r_wpF, r_op1, r_go1, r_mv, r_bi, r_sub0, r_lti, r_ln, r_ln1, r_fin, r_kfe1, r_kcx, r_exps0, r_exps1, r_kex, r_exp1, r_expv2, ptd, lk, pt, xv, kv, kc, params, ↓reduceIte, Nat.reduceEqDiff, reduceCtorEq, List.length_cons, List.length_nil, Nat.reduceAdd, Nat.reduceLeDiff, Nat.reduceLT, true_and, and_true, decide_eq_true_eq, Nat.zero_add]
  refine ⟨by rw [fits_i64]; omega, ?_⟩
  unfold szN
  split <;> rfl

def szSl (k : Nat) (m : Option Nat) (fid : FuncId) : F2 :=
  { nt := 27, res := [.t 4 [0]], body :=
   (.sq (.rg none [⟨some 4, none, .mv (.k (.int .i64 0)) none⟩])
   (.sq (.rg none [⟨some 6, none, .mv (.t 1) none⟩,
      ⟨some 7, none, .mv (.t 0) none⟩,
      ⟨some 8, none, .ln (.t 7)⟩,
      ⟨some 9, none, .bi .sub 0 (.t 6) (.t 8)⟩,
      ⟨some 1, none, .mv (.t 9) none⟩])
   (.sq (.sq (.rg none [⟨some 10, none, .mv (.t 1) none⟩,
       ⟨some 11, none, .bi .lss 0 (.t 10) (.k (.int .i64 0))⟩])
    (.cd (.t 11) (.sq (.rg none [⟨some 4, none, .mv (.k (.int .i64 (-1))) none⟩])
     (.rt))
    (.sk)))
   (.sq (.sq (.rg none [⟨some 5, none, .mv (.k (.int .i64 0)) none⟩])
    (.bl 0 (.lp [0, 1, 5] [] (.sq (.sq (.rg none [⟨some 12, none, .mv (.t 5) none⟩,
          ⟨some 13, none, .mv (.t 0) none⟩,
          ⟨some 14, none, .ln (.t 13)⟩,
          ⟨some 15, none, .bi .lss 0 (.t 12) (.t 14)⟩])
       (.cd (.t 15) (.sk)
       (.ex 0)))
      (.sq (.bl 1 (.sq (.rg none [⟨some 18, none, .mv (.t 0) none⟩,
           ⟨some 19, none, .mv (.t 5) none⟩,
           ⟨some 20, none, .ia k (.t 18) (.t 19)⟩,
           ⟨some 21, none, .ld m (.t 20)⟩,
           ⟨some 22, none, .mv (.t 1) none⟩,
           ⟨some 23, none, .ca .pure false (.f fid) [.t 21, .t 22]⟩,
           ⟨some 1, none, .mv (.t 23) none⟩])
        (.sq (.rg none [⟨some 24, none, .mv (.t 1) none⟩,
           ⟨some 25, none, .bi .lss 0 (.t 24) (.k (.int .i64 0))⟩])
        (.cd (.t 25) (.sq (.rg none [⟨some 4, none, .mv (.k (.int .i64 (-1))) none⟩])
         (.rt))
        (.sk)))))
      (.rg none [⟨some 16, none, .mv (.t 5) none⟩,
        ⟨some 17, none, .bi .add 0 (.t 16) (.k (.int .i64 1))⟩,
        ⟨some 5, none, .mv (.t 17) none⟩]))))))
   (.sq (.rg none [⟨some 26, none, .mv (.t 1) none⟩,
      ⟨some 4, none, .mv (.t 26) none⟩])
   (.rt)))))) }
/-- Elements are structs of k cells. -/
theorem sem_szSl {P : Program} {fid fe : FuncId} {k : Nat} (hc : chkF P fid (szSl k (some k) fe) = true) {α : Type} (c : α → List Tr) (f : α → Int → Int) (hk : ∀ x, (c x).length = k) (a : List α) (left : Int) (h : a.length ≤ 9223372036854775807) (h0 : 0 ≤ left) (h1 : left ≤ 1048576)
    (hf : ∀ x ∈ a, ∀ l : Int, 0 ≤ l → l ≤ 1048576 → f x l ≤ l ∧ ∀ lvl S, Sem P fe lvl [.ag ((c x).map .tr), iI l] S (iI (f x l)) S) (lvl : Nat) (S : Sto) :
    Sem P fid lvl [.tr (.sl (a.map c)), iI left] S (iI (szL f a left)) S := by
  refine sem_of_chk hc trivial ?_
  simp only [szSl, List.length_map, r_cons, r_nil, r_kont, r_seq1, r_seq3, r_fn2, r_sk, r_rg, r_sq, r_bl, r_rt, r_cd, r_cd2, r_wpF, r_op1, r_go1, r_mv, r_bi, r_sub0, r_lti, r_ln, r_ln1, r_fin, r_kfe1, r_kcx, r_exps0, r_exps1, r_kex, r_exp1, r_expv2, r_lt1, ptd, lk, pt, xv, kv, kc, params, ↓reduceIte, Nat.reduceEqDiff, reduceCtorEq, List.length_cons, List.length_nil, Nat.reduceAdd, Nat.reduceLeDiff, Nat.reduceLT, true_and, and_true, decide_eq_true_eq, Nat.zero_add, List.length_map]
  refine ⟨by rw [fits_i64]; omega, ?_⟩
  unfold szL
  split
  · rfl
  · rename_i hlt
    generalize hr : szF f a (left - a.length) = total
    refine wp_count (α := Int) a.length (fun j l => ⟨lvl, [(0, .tr (.sl (a.map c))), (1, iI l), (5, iI j)], [], S⟩) (fun j l => 0 ≤ l ∧ l ≤ 1048576 ∧ szF f (a.drop j) l = total) (left - a.length) ⟨by simp only [r_clean, r_okm4, r_okE0, r_okE1, r_okL0, ↓reduceIte, Nat.reduceEqDiff, reduceCtorEq, memB, keepB, keepOB, Bool.false_eq_true, and_self], by (simp only [r_fgt, ↓reduceIte, Nat.reduceEqDiff, reduceCtorEq, memB, keepB, keepOB, Bool.false_eq_true, Int.cast_ofNat_Int]) <;> rfl⟩ ⟨by omega, by omega, hr⟩ ?_
    intro j l hj ⟨hl0, hl1, hl⟩
    simp only [List.length_map, r_cons, r_nil, r_kont, r_seq1, r_seq2, r_blk2, r_fn2, r_sk, r_rg, r_sq, r_bl, r_ex, r_rt, r_cd, r_cd2, r_op1, r_go1, r_mv, r_bi, r_lti, r_ln, r_ln1, r_ixn, r_ia, r_ia1, r_fin, r_kfe1, r_kcx, r_exps0, r_exps1, r_kex, r_exp1, r_expv2, r_round2, r_lt1, ptd, lk, pt, xv, ↓reduceIte, Nat.reduceEqDiff, reduceCtorEq, Nat.reduceLT, true_and, and_true, decide_eq_true_eq, Int.toNat_natCast, Int.natCast_nonneg, List.length_map]
    split
    · rename_i hlt
      have hja : j < a.length := by omega
      have ga : (a.map c)[j]? = some (c a[j]) := by simp [hja]
      have hkk := hk a[j]
      have htk : (c a[j]).take k = c a[j] := List.take_of_length_le (by omega)
      rw [List.drop_eq_getElem_cons hja] at hl
      obtain ⟨hle, hsem⟩ := hf a[j] (List.getElem_mem hja) l hl0 hl1
      simp only [ga, hkk, htk, Nat.le_refl, r_cons, r_kont, r_op1, r_go1, r_mv, r_op3, r_iae, r_ld, r_ld4, r_kcn, r_kagn, r_sn0, r_sn1, r_sn3, r_ca, r_ca1, r_snm, r_mensm, ptd, lk, pt, xv, ↓reduceIte, Nat.reduceEqDiff, reduceCtorEq, Nat.reduceLT, true_and, List.map_cons, List.map_nil, List.cons_append, List.nil_append, mens, men, Nat.le_refl, and_self]
      refine kca_intro hsem ?_
      simp only [r_cons, r_nil, r_kont, r_seq1, r_seq3, r_blk1, r_blk3, r_fn2, r_sk, r_rg, r_sq, r_rt, r_cd, r_cd2, r_op1, r_go1, r_mv, r_bi, r_add0, r_lti, r_fin, r_kfe1, r_kcx, r_exps0, r_exps1, r_kex, r_exp1, r_expv2, r_fgt, r_clean, r_okm4, r_okE0, r_okE1, r_okL0, r_round1, r_round3, r_lt1, ptd, keyOf, freshK, lk, pt, addO, xv, kv, kc, ↓reduceIte, Nat.reduceEqDiff, Nat.reduceMul, reduceCtorEq, List.length_nil, Nat.reduceLT, true_and, and_true, decide_eq_true_eq, noSh, isSc, impv, memB, keepB, keepOB, or_true, Bool.false_eq_true, and_self]
      split
      · rename_i hneg
        simp only [szF, if_pos hneg] at hl
        rw [hl]
      · rename_i hneg
        simp only [szF, if_neg hneg] at hl
        refine ⟨by rw [fits_i64]; omega, cntJ_intro (f a[j] l) hja rfl ⟨by omega, by omega, hl⟩⟩
    · rename_i hge
      have : j = a.length := by omega
      subst this
      simp only [List.drop_length, szF] at hl
      rw [hl]

def szSt : F2 :=
  { nt := 28, res := [.t 4 [0]], body :=
   (.sq (.rg none [⟨some 4, none, .mv (.k (.int .i64 0)) none⟩])
   (.sq (.rg none [⟨some 6, none, .mv (.t 1) none⟩,
      ⟨some 7, none, .mv (.t 0) none⟩,
      ⟨some 8, none, .ln (.t 7)⟩,
      ⟨some 9, none, .bi .sub 0 (.t 6) (.t 8)⟩,
      ⟨some 1, none, .mv (.t 9) none⟩])
   (.sq (.sq (.rg none [⟨some 10, none, .mv (.t 1) none⟩,
       ⟨some 11, none, .bi .lss 0 (.t 10) (.k (.int .i64 0))⟩])
    (.cd (.t 11) (.sq (.rg none [⟨some 4, none, .mv (.k (.int .i64 (-1))) none⟩])
     (.rt))
    (.sk)))
   (.sq (.sq (.rg none [⟨some 5, none, .mv (.k (.int .i64 0)) none⟩])
    (.bl 0 (.lp [0, 1, 5] [] (.sq (.sq (.rg none [⟨some 12, none, .mv (.t 5) none⟩,
          ⟨some 13, none, .mv (.t 0) none⟩,
          ⟨some 14, none, .ln (.t 13)⟩,
          ⟨some 15, none, .bi .lss 0 (.t 12) (.t 14)⟩])
       (.cd (.t 15) (.sk)
       (.ex 0)))
      (.sq (.bl 1 (.sq (.rg none [⟨some 18, none, .mv (.t 1) none⟩,
           ⟨some 19, none, .mv (.t 0) none⟩,
           ⟨some 20, none, .mv (.t 5) none⟩,
           ⟨some 21, none, .ia 1 (.t 19) (.t 20)⟩,
           ⟨some 22, none, .ld none (.t 21)⟩,
           ⟨some 23, none, .lg (.t 22)⟩,
           ⟨some 24, none, .bi .sub 0 (.t 18) (.t 23)⟩,
           ⟨some 1, none, .mv (.t 24) none⟩])
        (.sq (.rg none [⟨some 25, none, .mv (.t 1) none⟩,
           ⟨some 26, none, .bi .lss 0 (.t 25) (.k (.int .i64 0))⟩])
        (.cd (.t 26) (.sq (.rg none [⟨some 4, none, .mv (.k (.int .i64 (-1))) none⟩])
         (.rt))
        (.sk)))))
      (.rg none [⟨some 16, none, .mv (.t 5) none⟩,
        ⟨some 17, none, .bi .add 0 (.t 16) (.k (.int .i64 1))⟩,
        ⟨some 5, none, .mv (.t 17) none⟩]))))))
   (.sq (.rg none [⟨some 27, none, .mv (.t 1) none⟩,
      ⟨some 4, none, .mv (.t 27) none⟩])
   (.rt)))))) }
theorem sem_szSt {P : Program} {fid : FuncId} (hc : chkF P fid szSt = true) (a : List ByteArray) (left : Int) (h : a.length ≤ 9223372036854775807) (h0 : 0 ≤ left) (h1 : left ≤ 1048576)
    (hf : ∀ x ∈ a, x.size ≤ 9223372036854775807) (lvl : Nat) (S : Sto) :
    Sem P fid lvl [tS a, iI left] S (iI (szL (fun x l => l - x.size) a left)) S := by
  refine sem_of_chk hc trivial ?_
  simp only [szSt, List.length_map, r_cons, r_nil, r_kont, r_seq1, r_seq3, r_fn2, r_sk, r_rg, r_sq, r_bl, r_rt, r_cd, r_cd2, r_wpF, r_op1, r_go1, r_mv, r_bi, r_sub0, r_lti, r_ln, r_ln1, r_fin, r_kfe1, r_kcx, r_exps0, r_exps1, r_kex, r_exp1, r_expv2, r_lt1, ptd, lk, pt, xv, kv, kc, params, ↓reduceIte, Nat.reduceEqDiff, reduceCtorEq, List.length_cons, List.length_nil, Nat.reduceAdd, Nat.reduceLeDiff, Nat.reduceLT, true_and, and_true, decide_eq_true_eq, Nat.zero_add, List.length_map]
  refine ⟨by rw [fits_i64]; omega, ?_⟩
  unfold szL
  split
  · rfl
  · rename_i hlt
    generalize hr : szF (fun (x : ByteArray) l => l - x.size) a (left - a.length) = total
    refine wp_count (α := Int) a.length (fun j l => ⟨lvl, [(0, tS a), (1, iI l), (5, iI j)], [], S⟩) (fun j l => 0 ≤ l ∧ l ≤ 1048576 ∧ szF (fun (x : ByteArray) l => l - x.size) (a.drop j) l = total) (left - a.length) ⟨by simp only [r_clean, r_okm4, r_okE0, r_okE1, r_okL0, ↓reduceIte, Nat.reduceEqDiff, reduceCtorEq, memB, keepB, keepOB, Bool.false_eq_true, and_self], by (simp only [r_fgt, ↓reduceIte, Nat.reduceEqDiff, reduceCtorEq, memB, keepB, keepOB, Bool.false_eq_true, Int.cast_ofNat_Int]) <;> rfl⟩ ⟨by omega, by omega, hr⟩ ?_
    intro j l hj ⟨hl0, hl1, hl⟩
    simp only [List.length_map, r_cons, r_nil, r_kont, r_seq1, r_seq2, r_blk2, r_fn2, r_sk, r_rg, r_sq, r_bl, r_ex, r_rt, r_cd, r_cd2, r_op1, r_go1, r_mv, r_bi, r_lti, r_ln, r_ln1, r_ixn, r_ia, r_ia1, r_fin, r_kfe1, r_kcx, r_exps0, r_exps1, r_kex, r_exp1, r_expv2, r_round2, r_lt1, ptd, lk, pt, xv, ↓reduceIte, Nat.reduceEqDiff, reduceCtorEq, Nat.reduceLT, true_and, and_true, decide_eq_true_eq, Int.toNat_natCast, Int.natCast_nonneg, List.length_map]
    split
    · rename_i hlt
      have hja : j < a.length := by omega
      have ga : (rS a)[j]? = some [ts a[j]] := by simp [hja]
      rw [List.drop_eq_getElem_cons hja] at hl
      have hs := hf a[j] (List.getElem_mem hja)
      simp only [ga, r_cons, r_nil, r_kont, r_seq1, r_seq3, r_blk1, r_blk3, r_fn2, r_sk, r_rg, r_sq, r_rt, r_cd, r_cd2, r_op1, r_go1, r_mv, r_bi, r_add0, r_sub0, r_lti, r_lg, r_lg1, r_op3, r_iae, r_ltr, r_ld, r_ld1, r_fin, r_kfe1, r_kcx, r_exps0, r_exps1, r_kex, r_exp1, r_expv2, r_fgt, r_clean, r_okm4, r_okE0, r_okE1, r_okL0, r_round1, r_round3, r_lt1, ptd, lk, pt, xv, kv, kc, ↓reduceIte, Nat.reduceEqDiff, reduceCtorEq, List.length_cons, List.length_nil, Nat.reduceLT, true_and, and_true, decide_eq_true_eq, List.getElem?_cons_zero, memB, keepB, keepOB, Bool.false_eq_true, Nat.zero_add, and_self]
      refine ⟨by rw [fits_i64]; omega, ?_⟩
      split
      · rename_i hneg
        simp only [szF, if_pos hneg] at hl
        rw [hl]
      · rename_i hneg
        simp only [szF, if_neg hneg] at hl
        refine ⟨by rw [fits_i64]; omega, cntJ_intro (l - a[j].size) hja rfl ⟨by omega, by omega, hl⟩⟩
    · rename_i hge
      have : j = a.length := by omega
      subst this
      simp only [List.drop_length, szF] at hl
      rw [hl]

/-- Two slices of structs of k cells. -/
def eqSl (k : Nat) (m : Option Nat) (fid : FuncId) : F2 :=
  { nt := 27, res := [.t 4 [0]], body :=
   (.sq (.rg none [⟨some 4, none, .mv (.k (.bool false)) none⟩])
   (.sq (.sq (.rg none [⟨some 6, none, .mv (.t 0) none⟩,
       ⟨some 7, none, .ln (.t 6)⟩,
       ⟨some 8, none, .mv (.t 1) none⟩,
       ⟨some 9, none, .ln (.t 8)⟩,
       ⟨some 10, none, .bi .neq 0 (.t 7) (.t 9)⟩])
    (.cd (.t 10) (.sq (.rg none [⟨some 4, none, .mv (.k (.bool false)) none⟩])
     (.rt))
    (.sk)))
   (.sq (.sq (.rg none [⟨some 5, none, .mv (.k (.int .i64 0)) none⟩])
    (.bl 0 (.lp [0, 1, 5] [] (.sq (.sq (.rg none [⟨some 11, none, .mv (.t 5) none⟩,
          ⟨some 12, none, .mv (.t 0) none⟩,
          ⟨some 13, none, .ln (.t 12)⟩,
          ⟨some 14, none, .bi .lss 0 (.t 11) (.t 13)⟩])
       (.cd (.t 14) (.sk)
       (.ex 0)))
      (.sq (.bl 1 (.sq (.rg (some 0) [⟨some 17, none, .mv (.t 0) none⟩,
           ⟨some 18, none, .mv (.t 5) none⟩,
           ⟨some 19, none, .ia k (.t 17) (.t 18)⟩,
           ⟨some 20, none, .ld m (.t 19)⟩,
           ⟨some 21, none, .mv (.t 1) none⟩,
           ⟨some 22, none, .mv (.t 5) none⟩,
           ⟨some 23, none, .ia k (.t 21) (.t 22)⟩,
           ⟨some 24, none, .ld m (.t 23)⟩,
           ⟨some 25, none, .ca .pure false (.f fid) [.t 20, .t 24]⟩,
           ⟨some 26, none, .nt (.t 25)⟩])
        (.cd (.t 26) (.sq (.rg none [⟨some 4, none, .mv (.k (.bool false)) none⟩])
         (.rt))
        (.sk))))
      (.rg none [⟨some 15, none, .mv (.t 5) none⟩,
        ⟨some 16, none, .bi .add 0 (.t 15) (.k (.int .i64 1))⟩,
        ⟨some 5, none, .mv (.t 16) none⟩]))))))
   (.sq (.rg none [⟨some 4, none, .mv (.k (.bool true)) none⟩])
   (.rt))))) }
theorem list_ne_at {α : Type} {a b : List α} {j : Nat} (ha : j < a.length) (hb : j < b.length) (h : a[j] ≠ b[j]) : a ≠ b := by
  intro e; subst e; exact h rfl
theorem list_eq_all {α : Type} {a b : List α} (hl : a.length = b.length) (h : a.take a.length = b.take a.length) : a = b := by
  rw [List.take_length, hl, List.take_length] at h; exact h
theorem take_succ_eq {α : Type} {a b : List α} {j : Nat} (ha : j < a.length) (hb : j < b.length) (h : a.take j = b.take j) (e : a[j] = b[j]) : a.take (j + 1) = b.take (j + 1) := by
  rw [List.take_succ_eq_append_getElem ha, List.take_succ_eq_append_getElem hb, h, e]
theorem sem_eqSl {P : Program} {fid fe : FuncId} {k : Nat} (hc : chkF P fid (eqSl k (some k) fe) = true) {α : Type} [DecidableEq α] (c : α → List Tr) (hk : ∀ x, (c x).length = k) (a b : List α) (ha : a.length ≤ 9223372036854775807)
    (hf : ∀ x ∈ a, ∀ y ∈ b, ∀ lvl S, Sem P fe lvl [.ag ((c x).map .tr), .ag ((c y).map .tr)] S (iB (decide (x = y))) S) (lvl : Nat) (S : Sto) :
    Sem P fid lvl [.tr (.sl (a.map c)), .tr (.sl (b.map c))] S (iB (decide (a = b))) S := by
  refine sem_of_chk hc trivial ?_
  simp only [eqSl, List.length_map, r_cons, r_nil, r_kont, r_seq1, r_seq3, r_fn2, r_sk, r_rg, r_sq, r_bl, r_rt, r_cd, r_cd2, r_wpF, r_op1, r_go1, r_mv, r_bi, r_nei, r_ln, r_ln1, r_fin, r_kfe1, r_kcx, r_exps0, r_exps1, r_kex, r_exp1, r_expv2, r_lt1, ptd, lk, pt, xv, kv, kc, params, ↓reduceIte, Nat.reduceEqDiff, reduceCtorEq, List.length_cons, List.length_nil, Nat.reduceAdd, Nat.reduceLeDiff, Nat.reduceLT, true_and, and_true, decide_eq_true_eq, Nat.zero_add, ne_eq, List.length_map]
  split
  · rename_i h
    have : ¬ a = b := fun e => h (by rw [e])
    simp [this]
  · rename_i h
    have hlen : a.length = b.length := by omega
    refine wp_count (α := Unit) a.length (fun j _ => ⟨lvl, [(0, .tr (.sl (a.map c))), (1, .tr (.sl (b.map c))), (5, iI j)], [], S⟩) (fun j _ => a.take j = b.take j) () ⟨by simp only [r_clean, r_okm4, r_okE0, r_okE1, r_okL0, ↓reduceIte, Nat.reduceEqDiff, reduceCtorEq, memB, keepB, keepOB, Bool.false_eq_true, and_self], by (simp only [r_fgt, ↓reduceIte, Nat.reduceEqDiff, reduceCtorEq, memB, keepB, keepOB, Bool.false_eq_true, Int.cast_ofNat_Int]) <;> rfl⟩ rfl ?_
    intro j _ hj hA
    simp only [List.length_map, r_cons, r_nil, r_kont, r_seq1, r_seq2, r_blk2, r_fn2, r_sk, r_rg, r_sq, r_bl, r_ex, r_rt, r_cd, r_cd2, r_op1, r_go1, r_mv, r_bi, r_lti, r_ln, r_ln1, r_ixn, r_ia, r_ia1, r_fin, r_kfe1, r_kcx, r_exps0, r_exps1, r_kex, r_exp1, r_expv2, r_round2, r_lt1, ptd, lk, pt, xv, kv, kc, ↓reduceIte, Nat.reduceEqDiff, reduceCtorEq, Nat.reduceLT, true_and, and_true, decide_eq_true_eq, Int.toNat_natCast, Int.natCast_nonneg, List.length_map]
    split
    · rename_i hlt
      have hja : j < a.length := by omega
      have hjb : j < b.length := by omega
      have ga : (a.map c)[j]? = some (c a[j]) := by simp [hja]
      have gb : (b.map c)[j]? = some (c b[j]) := by simp [hjb]
      have hka := hk a[j]
      have hkb := hk b[j]
      have hta : (c a[j]).take k = c a[j] := List.take_of_length_le (by omega)
      have htb : (c b[j]).take k = c b[j] := List.take_of_length_le (by omega)
      have hsem := hf a[j] (List.getElem_mem hja) b[j] (List.getElem_mem hjb)
      simp only [ga, gb, hka, hkb, hta, htb, Int.natCast_nonneg, Nat.le_refl, r_cons, r_kont, r_op1, r_go1, r_mv, r_op3, r_ixn, r_ia, r_iae, r_ia1, r_ld, r_ld4, r_kcn, r_kagn, r_sn0, r_sn3, r_ca, r_ca1, r_snm, r_mensm, ptd, lk, pt, xv, ↓reduceIte, Nat.reduceEqDiff, reduceCtorEq, Nat.reduceLT, true_and, List.map_cons, List.map_nil, List.cons_append, List.nil_append, mens, men, Int.toNat_natCast, Int.natCast_nonneg, Nat.le_refl, and_self]
      refine kca_intro hsem ?_
      simp only [Bool.not_eq_true', r_cons, r_nil, r_kont, r_seq1, r_seq3, r_blk1, r_blk3, r_fn2, r_sk, r_rg, r_sq, r_rt, r_cd, r_cd2, r_op1, r_go1, r_mv, r_bi, r_add0, r_nt, r_nt1, r_fin, r_kfe1, r_kcx, r_exps0, r_exps1, r_kex, r_exp1, r_expv2, r_fgt, r_clean, r_okm4, r_okE0, r_okE1, r_okL0, r_round1, r_round3, r_lt1, ptd, keyOf, freshK, lk, pt, addO, xv, kv, kc, ↓reduceIte, Nat.reduceEqDiff, Nat.reduceMul, reduceCtorEq, List.length_nil, Nat.reduceLT, true_and, and_true, noSh, isSc, impv, memB, keepB, keepOB, or_true, Bool.false_eq_true, Bool.not_eq_true', and_self]
      split
      · rename_i hne
        have : ¬ a = b := list_ne_at hja hjb (by simpa using hne)
        simp [this]
      · rename_i he
        refine ⟨by rw [fits_i64]; omega, cntJ_intro () hja rfl (take_succ_eq hja hjb hA (by simpa using he))⟩
    · rename_i hge
      have : j = a.length := by omega
      subst this
      have : a = b := list_eq_all hlen hA
      simp [this]
/-- Two slices of cells that are compared by the machine. -/
def eqS1 : F2 :=
  { nt := 26, res := [.t 4 [0]], body :=
   (.sq (.rg none [⟨some 4, none, .mv (.k (.bool false)) none⟩])
   (.sq (.sq (.rg none [⟨some 6, none, .mv (.t 0) none⟩,
       ⟨some 7, none, .ln (.t 6)⟩,
       ⟨some 8, none, .mv (.t 1) none⟩,
       ⟨some 9, none, .ln (.t 8)⟩,
       ⟨some 10, none, .bi .neq 0 (.t 7) (.t 9)⟩])
    (.cd (.t 10) (.sq (.rg none [⟨some 4, none, .mv (.k (.bool false)) none⟩])
     (.rt))
    (.sk)))
   (.sq (.sq (.rg none [⟨some 5, none, .mv (.k (.int .i64 0)) none⟩])
    (.bl 0 (.lp [0, 1, 5] [] (.sq (.sq (.rg none [⟨some 11, none, .mv (.t 5) none⟩,
          ⟨some 12, none, .mv (.t 0) none⟩,
          ⟨some 13, none, .ln (.t 12)⟩,
          ⟨some 14, none, .bi .lss 0 (.t 11) (.t 13)⟩])
       (.cd (.t 14) (.sk)
       (.ex 0)))
      (.sq (.bl 1 (.sq (.rg (some 0) [⟨some 17, none, .mv (.t 0) none⟩,
           ⟨some 18, none, .mv (.t 5) none⟩,
           ⟨some 19, none, .ia 1 (.t 17) (.t 18)⟩,
           ⟨some 20, none, .ld none (.t 19)⟩,
           ⟨some 21, none, .mv (.t 1) none⟩,
           ⟨some 22, none, .mv (.t 5) none⟩,
           ⟨some 23, none, .ia 1 (.t 21) (.t 22)⟩,
           ⟨some 24, none, .ld none (.t 23)⟩,
           ⟨some 25, none, .bi .neq 0 (.t 20) (.t 24)⟩])
        (.cd (.t 25) (.sq (.rg none [⟨some 4, none, .mv (.k (.bool false)) none⟩])
         (.rt))
        (.sk))))
      (.rg none [⟨some 15, none, .mv (.t 5) none⟩,
        ⟨some 16, none, .bi .add 0 (.t 15) (.k (.int .i64 1))⟩,
        ⟨some 5, none, .mv (.t 16) none⟩]))))))
   (.sq (.rg none [⟨some 4, none, .mv (.k (.bool true)) none⟩])
   (.rt))))) }
theorem sem_eqI {P : Program} {fid : FuncId} (hc : chkF P fid eqS1 = true) (a b : List Int) (ha : a.length ≤ 9223372036854775807) (lvl : Nat) (S : Sto) : Sem P fid lvl [tI a, tI b] S (iB (decide (a = b))) S := by
  refine sem_of_chk hc trivial ?_
  simp only [eqS1, List.length_map, r_cons, r_nil, r_kont, r_seq1, r_seq3, r_fn2, r_sk, r_rg, r_sq, r_bl, r_rt, r_cd, r_cd2, r_wpF, r_op1, r_go1, r_mv, r_bi, r_nei, r_ln, r_ln1, r_fin, r_kfe1, r_kcx, r_exps0, r_exps1, r_kex, r_exp1, r_expv2, r_lt1, ptd, lk, pt, xv, kv, kc, params, ↓reduceIte, Nat.reduceEqDiff, reduceCtorEq, List.length_cons, List.length_nil, Nat.reduceAdd, Nat.reduceLeDiff, Nat.reduceLT, true_and, and_true, decide_eq_true_eq, Nat.zero_add, ne_eq, List.length_map]
  split
  · rename_i h
    have : ¬ a = b := fun e => h (by rw [e])
    simp [this]
  · rename_i h
    have hlen : a.length = b.length := by omega
    refine wp_count (α := Unit) a.length (fun j _ => ⟨lvl, [(0, tI a), (1, tI b), (5, iI j)], [], S⟩) (fun j _ => a.take j = b.take j) () ⟨by simp only [r_clean, r_okm4, r_okE0, r_okE1, r_okL0, ↓reduceIte, Nat.reduceEqDiff, reduceCtorEq, memB, keepB, keepOB, Bool.false_eq_true, and_self], by (simp only [r_fgt, ↓reduceIte, Nat.reduceEqDiff, reduceCtorEq, memB, keepB, keepOB, Bool.false_eq_true, Int.cast_ofNat_Int]) <;> rfl⟩ rfl ?_
    intro j _ hj hA
    simp only [List.length_map, r_cons, r_nil, r_kont, r_seq1, r_seq2, r_blk2, r_fn2, r_sk, r_rg, r_sq, r_bl, r_ex, r_rt, r_cd, r_cd2, r_op1, r_go1, r_mv, r_bi, r_lti, r_ln, r_ln1, r_ixn, r_ia, r_ia1, r_fin, r_kfe1, r_kcx, r_exps0, r_exps1, r_kex, r_exp1, r_expv2, r_round2, r_lt1, ptd, lk, pt, xv, kv, kc, ↓reduceIte, Nat.reduceEqDiff, reduceCtorEq, Nat.reduceLT, true_and, and_true, decide_eq_true_eq, Int.toNat_natCast, Int.natCast_nonneg, List.length_map]
    split
    · rename_i hlt
      have hja : j < a.length := by omega
      have hjb : j < b.length := by omega
      have ga : (rI a)[j]? = some [tv a[j]] := by simp [hja]
      have gb : (rI b)[j]? = some [tv b[j]] := by simp [hjb]
      simp only [ga, gb, Int.natCast_nonneg, r_cons, r_nil, r_kont, r_seq1, r_seq3, r_blk1, r_blk3, r_fn2, r_sk, r_rg, r_sq, r_rt, r_cd, r_cd2, r_op1, r_go1, r_mv, r_bi, r_add0, r_nei, r_op3, r_ixn, r_ia, r_iae, r_ia1, r_ltr, r_ld, r_ld1, r_fin, r_kfe1, r_kcx, r_exps0, r_exps1, r_kex, r_exp1, r_expv2, r_fgt, r_clean, r_okm4, r_okE0, r_okE1, r_okL0, r_round1, r_round3, r_lt1, ptd, lk, pt, xv, kv, kc, ↓reduceIte, Nat.reduceEqDiff, reduceCtorEq, List.length_cons, List.length_nil, Nat.reduceLT, true_and, and_true, decide_eq_true_eq, List.getElem?_cons_zero, memB, keepB, keepOB, Bool.false_eq_true, Int.toNat_natCast, Nat.zero_add, Int.natCast_nonneg, ne_eq, and_self]
      split
      · rename_i hne
        have : ¬ a = b := list_ne_at hja hjb (by simpa using hne)
        simp [this]
      · rename_i he
        refine ⟨by rw [fits_i64]; omega, cntJ_intro () hja rfl (take_succ_eq hja hjb hA (by simpa using he))⟩
    · rename_i hge
      have : j = a.length := by omega
      subst this
      have : a = b := list_eq_all hlen hA
      simp [this]
theorem sem_eqS {P : Program} {fid : FuncId} (hc : chkF P fid eqS1 = true) (a b : List ByteArray) (ha : a.length ≤ 9223372036854775807) (lvl : Nat) (S : Sto) : Sem P fid lvl [tS a, tS b] S (iB (decide (a = b))) S := by
  refine sem_of_chk hc trivial ?_
  simp only [eqS1, List.length_map, r_cons, r_nil, r_kont, r_seq1, r_seq3, r_fn2, r_sk, r_rg, r_sq, r_bl, r_rt, r_cd, r_cd2, r_wpF, r_op1, r_go1, r_mv, r_bi, r_nei, r_ln, r_ln1, r_fin, r_kfe1, r_kcx, r_exps0, r_exps1, r_kex, r_exp1, r_expv2, r_lt1, ptd, lk, pt, xv, kv, kc, params, ↓reduceIte, Nat.reduceEqDiff, reduceCtorEq, List.length_cons, List.length_nil, Nat.reduceAdd, Nat.reduceLeDiff, Nat.reduceLT, true_and, and_true, decide_eq_true_eq, Nat.zero_add, ne_eq, List.length_map]
  split
  · rename_i h
    have : ¬ a = b := fun e => h (by rw [e])
    simp [this]
  · rename_i h
    have hlen : a.length = b.length := by omega
    refine wp_count (α := Unit) a.length (fun j _ => ⟨lvl, [(0, tS a), (1, tS b), (5, iI j)], [], S⟩) (fun j _ => a.take j = b.take j) () ⟨by simp only [r_clean, r_okm4, r_okE0, r_okE1, r_okL0, ↓reduceIte, Nat.reduceEqDiff, reduceCtorEq, memB, keepB, keepOB, Bool.false_eq_true, and_self], by (simp only [r_fgt, ↓reduceIte, Nat.reduceEqDiff, reduceCtorEq, memB, keepB, keepOB, Bool.false_eq_true, Int.cast_ofNat_Int]) <;> rfl⟩ rfl ?_
    intro j _ hj hA
    simp only [List.length_map, r_cons, r_nil, r_kont, r_seq1, r_seq2, r_blk2, r_fn2, r_sk, r_rg, r_sq, r_bl, r_ex, r_rt, r_cd, r_cd2, r_op1, r_go1, r_mv, r_bi, r_lti, r_ln, r_ln1, r_ixn, r_ia, r_ia1, r_fin, r_kfe1, r_kcx, r_exps0, r_exps1, r_kex, r_exp1, r_expv2, r_round2, r_lt1, ptd, lk, pt, xv, kv, kc, ↓reduceIte, Nat.reduceEqDiff, reduceCtorEq, Nat.reduceLT, true_and, and_true, decide_eq_true_eq, Int.toNat_natCast, Int.natCast_nonneg, List.length_map]
    split
    · rename_i hlt
      have hja : j < a.length := by omega
      have hjb : j < b.length := by omega
      have ga : (rS a)[j]? = some [ts a[j]] := by simp [hja]
      have gb : (rS b)[j]? = some [ts b[j]] := by simp [hjb]
      simp only [ga, gb, Int.natCast_nonneg, r_cons, r_nil, r_kont, r_seq1, r_seq3, r_blk1, r_blk3, r_fn2, r_sk, r_rg, r_sq, r_rt, r_cd, r_cd2, r_op1, r_go1, r_mv, r_bi, r_add0, r_nes, r_op3, r_ixn, r_ia, r_iae, r_ia1, r_ltr, r_ld, r_ld1, r_fin, r_kfe1, r_kcx, r_exps0, r_exps1, r_kex, r_exp1, r_expv2, r_fgt, r_clean, r_okm4, r_okE0, r_okE1, r_okL0, r_round1, r_round3, r_lt1, ptd, lk, pt, xv, kv, kc, ↓reduceIte, Nat.reduceEqDiff, reduceCtorEq, List.length_cons, List.length_nil, Nat.reduceLT, true_and, and_true, decide_eq_true_eq, List.getElem?_cons_zero, memB, keepB, keepOB, Bool.false_eq_true, Int.toNat_natCast, Nat.zero_add, Int.natCast_nonneg, ne_eq, and_self]
      split
      · rename_i hne
        have : ¬ a = b := list_ne_at hja hjb (by simpa using hne)
        simp [this]
      · rename_i he
        refine ⟨by rw [fits_i64]; omega, cntJ_intro () hja rfl (take_succ_eq hja hjb hA (by simpa using he))⟩
    · rename_i hge
      have : j = a.length := by omega
      subst this
      have : a = b := list_eq_all hlen hA
      simp [this]

/-! ## a new slice, filled element by element -/
/-- The first j elements, the rest zero. -/
def filled {α : Type} (c : α → List Tr) (z : List Tr) (a : List α) (j : Nat) : Row := (a.take j).map c ++ List.replicate (a.length - j) z
theorem filled_zero {α : Type} (c : α → List Tr) (z : List Tr) (a : List α) : filled c z a 0 = List.replicate a.length z := by simp [filled]
theorem filled_all {α : Type} (c : α → List Tr) (z : List Tr) (a : List α) : filled c z a a.length = a.map c := by simp [filled]
theorem filled_length {α : Type} {c : α → List Tr} {z : List Tr} {a : List α} {j : Nat} (h : j ≤ a.length) : (filled c z a j).length = a.length := by
  simp [filled]; omega
theorem filled_get {α : Type} {c : α → List Tr} {z : List Tr} {a : List α} {j : Nat} (h : j < a.length) : (filled c z a j)[j]? = some z := by
  unfold filled
  have h1 : ((a.take j).map c).length = j := by rw [List.length_map, List.length_take]; omega
  rw [List.getElem?_append_right (by omega), h1, Nat.sub_self, List.getElem?_replicate]
  rw [if_pos (by omega)]
theorem filled_set {α : Type} {c : α → List Tr} {z e : List Tr} {a : List α} {j : Nat} (h : j < a.length) (he : e = c a[j]) : (filled c z a j).set j e = filled c z a (j + 1) := by
  subst he
  unfold filled
  have h1 : ((a.take j).map c).length = j := by simp; omega
  rw [List.set_append_right _ _ (by omega), h1, Nat.sub_self, show a.length - j = (a.length - (j + 1)) + 1 from by omega, List.replicate_succ, List.set_cons_zero, List.take_succ_eq_append_getElem h, List.map_append]
  simp
def toS1 (z : Value) : F2 :=
  { nt := 22, res := [.t 2 [2]], body :=
   (.sq (.rg none [⟨some 2, none, .mv (.k (.slice none 0 0)) none⟩])
   (.sq (.rg none [⟨some 5, none, .mv (.t 0) none⟩,
      ⟨some 6, none, .ln (.t 5)⟩,
      ⟨some 7, none, .ms 1 [z] (.t 6)⟩,
      ⟨some 3, none, .mv (.t 7) none⟩])
   (.sq (.sq (.rg none [⟨some 4, none, .mv (.k (.int .i64 0)) none⟩])
    (.bl 0 (.lp [0, 3, 4] [224] (.sq (.sq (.rg none [⟨some 8, none, .mv (.t 4) none⟩,
          ⟨some 9, none, .mv (.t 0) none⟩,
          ⟨some 10, none, .ln (.t 9)⟩,
          ⟨some 11, none, .bi .lss 0 (.t 8) (.t 10)⟩])
       (.cd (.t 11) (.sk)
       (.ex 0)))
      (.sq (.bl 1 (.rg none [⟨some 14, none, .mv (.t 3) none⟩,
          ⟨some 15, none, .mv (.t 4) none⟩,
          ⟨some 16, none, .mv (.t 0) none⟩,
          ⟨some 17, none, .mv (.t 4) none⟩,
          ⟨some 18, none, .ia 1 (.t 16) (.t 17)⟩,
          ⟨some 19, none, .ld none (.t 18)⟩,
          ⟨some 20, none, .ia 1 (.t 14) (.t 15)⟩,
          ⟨none, none, .st 1 (.t 20) (.t 19)⟩]))
      (.rg none [⟨some 12, none, .mv (.t 4) none⟩,
        ⟨some 13, none, .bi .add 0 (.t 12) (.k (.int .i64 1))⟩,
        ⟨some 4, none, .mv (.t 13) none⟩]))))))
   (.sq (.rg none [⟨some 21, none, .mv (.t 3) none⟩,
      ⟨some 2, none, .mv (.t 21) none⟩])
   (.rt))))) }
theorem sem_toI {P : Program} {fid : FuncId} (hc : chkF P fid (toS1 (.int .i64 0)) = true) (a : List Int) (ha : a.length ≤ 4294967296) (lvl : Nat) (S : Sto) : Sem P fid lvl [tI a] S (.ow 1 (rI a) true) S := by
  refine sem_of_chk hc trivial ?_
  simp only [toS1, List.length_map, bigN, Int.natCast_nonneg, r_cons, r_nil, r_kont, r_seq1, r_rg, r_sq, r_bl, r_wpF, r_op1, r_go1, r_mv, r_ms, r_ms1, r_ln, r_ln1, r_lt1, bigN, ptd, keyOf, freshK, lk, pt, lkO, ptO, xv, kv, kc, params, trv, ↓reduceIte, Nat.reduceEqDiff, Nat.reduceMul, reduceCtorEq, List.length_cons, List.length_nil, Nat.reduceLeDiff, Nat.reduceLT, true_and, List.map_cons, List.map_nil, Int.toNat_natCast, Nat.zero_add, Int.natCast_nonneg, List.length_map, and_self, Int.cast_ofNat_Int]
  refine ⟨by omega, ?_⟩
  refine wp_count (α := Unit) a.length (fun j _ => ⟨lvl, [(0, tI a), (3, .hd (lvl, 224) [] 0 a.length none a.length), (4, iI j)], [(224, .ar 1 (filled (fun n => [tv n]) [tv 0] a j) true a.length 0)], S⟩) (fun _ _ => True) () ⟨by simp only [r_clean, r_okm1, r_okm4, r_okE0, r_okE1, r_okL0, r_okL2, ↓reduceIte, Nat.reduceEqDiff, reduceCtorEq, memB, keepB, keepOB, Bool.false_eq_true, and_self], by (simp only [filled_zero, r_fgt, ↓reduceIte, Nat.reduceEqDiff, reduceCtorEq, memB, keepB, keepOB, Bool.false_eq_true, Int.cast_ofNat_Int]) <;> rfl⟩ trivial ?_
  intro j _ hj _
  simp only [List.length_map, r_cons, r_nil, r_kont, r_seq1, r_seq2, r_blk2, r_fn2, r_sk, r_rg, r_sq, r_bl, r_ex, r_rt, r_cd, r_cd2, r_op1, r_go1, r_mv, r_bi, r_lti, r_ln, r_ln1, r_ixn, r_ia, r_ia1, r_kill, r_fin, r_kfe1, r_kcx, r_exps0, r_exps1, r_kex, r_exp1, r_expv4, r_expc7, r_exh1, r_round2, r_lt1, ptd, lk, pt, lkO, xv, ↓reduceIte, Nat.reduceEqDiff, reduceCtorEq, Nat.reduceLT, true_and, and_true, decide_eq_true_eq, List.headD_cons, scrE, scrL, scr, rmO, Int.toNat_natCast, Int.natCast_nonneg, List.length_map]
  split
  · rename_i hlt
    have hja : j < a.length := by omega
    have ga : (rI a)[j]? = some [tv a[j]] := by simp [hja]
    have gz : (filled (fun n => [tv n]) [tv 0] a j)[j]? = some [tv 0] := filled_get hja
    simp only [ga, gz, Int.natCast_nonneg, hja, setp, List.set_cons_zero, r_setOb, r_cons, r_nil, r_kont, r_seq1, r_blk1, r_rg, r_op1, r_go1, r_mv, r_bi, r_add0, r_op3, r_ixn, r_ia, r_iae, r_rde, r_rd3, r_stamp0, r_iah, r_iah2, r_ia3, r_pack, r_setOb, r_ltr, r_ld, r_ld1, r_fgt, r_clean, r_okm1, r_okm4, r_okE0, r_okE1, r_okL0, r_okL2, r_round1, r_st, r_st2, r_kst, r_stcs0, r_stcs1, r_sc1, r_sc3, r_sc4, r_sc2, r_lt1, ptd, lk, pt, lkO, ptO, xv, kv, kc, ↓reduceIte, Nat.reduceEqDiff, reduceCtorEq, List.length_cons, List.length_nil, Nat.reduceLT, true_and, List.getElem?_cons_zero, isSc, memB, keepB, keepOB, Bool.false_eq_true, Int.toNat_natCast, isCell, cellsOf, getp, Nat.zero_add, List.set_cons_zero, Int.natCast_nonneg, and_self]
    refine ⟨by rw [fits_i64]; omega, cntJ_intro () hja ?_ trivial⟩
    rw [filled_set hja rfl]
    rfl
  · rename_i hge
    have : j = a.length := by omega
    subst this
    rw [filled_all]
    simp
theorem sem_toS {P : Program} {fid : FuncId} (hc : chkF P fid (toS1 (.string ⟨#[]⟩)) = true) (a : List ByteArray) (ha : a.length ≤ 4294967296) (lvl : Nat) (S : Sto) : Sem P fid lvl [tS a] S (.ow 1 (rS a) true) S := by
  refine sem_of_chk hc trivial ?_
  simp only [toS1, List.length_map, bigN, Int.natCast_nonneg, r_cons, r_nil, r_kont, r_seq1, r_rg, r_sq, r_bl, r_wpF, r_op1, r_go1, r_mv, r_ms, r_ms1, r_ln, r_ln1, r_lt1, bigN, ptd, keyOf, freshK, lk, pt, lkO, ptO, xv, kv, kc, params, trv, ↓reduceIte, Nat.reduceEqDiff, Nat.reduceMul, reduceCtorEq, List.length_cons, List.length_nil, Nat.reduceLeDiff, Nat.reduceLT, true_and, List.map_cons, List.map_nil, Int.toNat_natCast, Nat.zero_add, Int.natCast_nonneg, List.length_map, and_self, Int.cast_ofNat_Int]
  refine ⟨by omega, ?_⟩
  refine wp_count (α := Unit) a.length (fun j _ => ⟨lvl, [(0, tS a), (3, .hd (lvl, 224) [] 0 a.length none a.length), (4, iI j)], [(224, .ar 1 (filled (fun n => [ts n]) [ts ⟨#[]⟩] a j) true a.length 0)], S⟩) (fun _ _ => True) () ⟨by simp only [r_clean, r_okm1, r_okm4, r_okE0, r_okE1, r_okL0, r_okL2, ↓reduceIte, Nat.reduceEqDiff, reduceCtorEq, memB, keepB, keepOB, Bool.false_eq_true, and_self], by (simp only [filled_zero, r_fgt, ↓reduceIte, Nat.reduceEqDiff, reduceCtorEq, memB, keepB, keepOB, Bool.false_eq_true, Int.cast_ofNat_Int]) <;> rfl⟩ trivial ?_
  intro j _ hj _
  simp only [List.length_map, r_cons, r_nil, r_kont, r_seq1, r_seq2, r_blk2, r_fn2, r_sk, r_rg, r_sq, r_bl, r_ex, r_rt, r_cd, r_cd2, r_op1, r_go1, r_mv, r_bi, r_lti, r_ln, r_ln1, r_ixn, r_ia, r_ia1, r_kill, r_fin, r_kfe1, r_kcx, r_exps0, r_exps1, r_kex, r_exp1, r_expv4, r_expc7, r_exh1, r_round2, r_lt1, ptd, lk, pt, lkO, xv, ↓reduceIte, Nat.reduceEqDiff, reduceCtorEq, Nat.reduceLT, true_and, and_true, decide_eq_true_eq, List.headD_cons, scrE, scrL, scr, rmO, Int.toNat_natCast, Int.natCast_nonneg, List.length_map]
  split
  · rename_i hlt
    have hja : j < a.length := by omega
    have ga : (rS a)[j]? = some [ts a[j]] := by simp [hja]
    have gz : (filled (fun n => [ts n]) [ts ⟨#[]⟩] a j)[j]? = some [ts ⟨#[]⟩] := filled_get hja
    simp only [ga, gz, Int.natCast_nonneg, hja, setp, List.set_cons_zero, r_setOb, r_cons, r_nil, r_kont, r_seq1, r_blk1, r_rg, r_op1, r_go1, r_mv, r_bi, r_add0, r_op3, r_ixn, r_ia, r_iae, r_rde, r_rd3, r_stamp0, r_iah, r_iah2, r_ia3, r_pack, r_setOb, r_ltr, r_ld, r_ld1, r_fgt, r_clean, r_okm1, r_okm4, r_okE0, r_okE1, r_okL0, r_okL2, r_round1, r_st, r_st2, r_kst, r_stcs0, r_stcs1, r_sc1, r_sc3, r_sc4, r_sc2, r_lt1, ptd, lk, pt, lkO, ptO, xv, kv, kc, ↓reduceIte, Nat.reduceEqDiff, reduceCtorEq, List.length_cons, List.length_nil, Nat.reduceLT, true_and, List.getElem?_cons_zero, isSc, memB, keepB, keepOB, Bool.false_eq_true, Int.toNat_natCast, isCell, cellsOf, getp, Nat.zero_add, List.set_cons_zero, Int.natCast_nonneg, and_self]
    refine ⟨by rw [fits_i64]; omega, cntJ_intro () hja ?_ trivial⟩
    rw [filled_set hja rfl]
    rfl
  · rename_i hge
    have : j = a.length := by omega
    subst this
    rw [filled_all]
    simp
end Go.Fd

/-
  THE LAWS' HELPERS AT SLICES WHOSE ELEMENTS ARE ONE CELL. Own work.
-/
namespace Go.Fd
set_option maxRecDepth 10000
end Go.Fd

/-
  FOUNDATION 49: rows at a path; functions that mark what they are handed. Own work.
-/
namespace Go.Fd

/-- The slice at path p becomes r. -/
def putp : Row → Pth → Row → Row
  | _, [], r => r
  | es, (a, b) :: p, r =>
    match es[a]? with
    | some e =>
      match e[b]? with
      | some (.sl es') => es.set a (e.set b (.sl (putp es' p r)))
      | _ => es
    | none => es

theorem pgetp_cons {es es' : Row} {a b : Nat} {p : Pth} {e : List Tr} (h1 : es[a]? = some e) (h2 : e[b]? = some (.sl es')) : getp es ((a, b) :: p) = getp es' p := by
  simp only [getp, h1, h2]
theorem putp_cons {es es' : Row} {a b : Nat} {p : Pth} {e : List Tr} {r : Row} (h1 : es[a]? = some e) (h2 : e[b]? = some (.sl es')) : putp es ((a, b) :: p) r = es.set a (e.set b (.sl (putp es' p r))) := by
  simp only [putp, h1, h2]
theorem psetp_cons {es es' : Row} {a b i f : Nat} {p : Pth} {e : List Tr} {t : Tr} (h1 : es[a]? = some e) (h2 : e[b]? = some (.sl es')) : setp es ((a, b) :: p) i f t = es.set a (e.set b (.sl (setp es' p i f t))) := by
  simp only [setp, h1, h2]
theorem getp_inv {es r0 : Row} {a b : Nat} {p : Pth} (h : getp es ((a, b) :: p) = some r0) : ∃ e es', es[a]? = some e ∧ e[b]? = some (.sl es') ∧ getp es' p = some r0 := by
  simp only [getp] at h
  cases h1 : es[a]? with
  | none => rw [h1] at h; cases h
  | some e =>
    rw [h1] at h
    cases h2 : e[b]? with
    | none => simp only [h2] at h; cases h
    | some t =>
      simp only [h2] at h
      cases t with
      | v x => cases h
      | sl es' => exact ⟨e, es', rfl, h2, h⟩
theorem pset_get {α : Type} {l : List α} {a : Nat} {x y : α} (h : l[a]? = some x) : (l.set a y)[a]? = some y := by
  rw [List.getElem?_set_self]; exact (List.getElem?_eq_some_iff.1 h).1

theorem getp_putp {r : Row} : ∀ {p : Pth} {es r0 : Row}, getp es p = some r0 → getp (putp es p r) p = some r
  | [], _, _, _ => rfl
  | (a, b) :: p, es, r0, h => by
    obtain ⟨e, es', h1, h2, h3⟩ := getp_inv h
    rw [putp_cons h1 h2, pgetp_cons (pset_get h1) (pset_get h2)]
    exact getp_putp h3
theorem putp_putp {r s : Row} : ∀ {p : Pth} {es r0 : Row}, getp es p = some r0 → putp (putp es p r) p s = putp es p s
  | [], _, _, _ => rfl
  | (a, b) :: p, es, r0, h => by
    obtain ⟨e, es', h1, h2, h3⟩ := getp_inv h
    rw [putp_cons h1 h2, putp_cons h1 h2, putp_cons (pset_get h1) (pset_get h2), putp_putp h3, List.set_set, List.set_set]
theorem setp_putp {r : Row} {i f : Nat} {t : Tr} {e0 : List Tr} (hi : r[i]? = some e0) : ∀ {p : Pth} {es r0 : Row}, getp es p = some r0 → setp (putp es p r) p i f t = putp es p (r.set i (e0.set f t))
  | [], es, _, _ => by simp only [putp, setp, hi]
  | (a, b) :: p, es, r0, h => by
    obtain ⟨e, es', h1, h2, h3⟩ := getp_inv h
    rw [putp_cons h1 h2, putp_cons h1 h2, psetp_cons (pset_get h1) (pset_get h2), setp_putp hi h3, List.set_set, List.set_set]
theorem pgetp_app {q : Pth} : ∀ {p : Pth} {es r0 : Row}, getp es p = some r0 → getp es (p ++ q) = getp r0 q
  | [], es, r0, h => by simp only [getp, Option.some.injEq] at h; subst h; rfl
  | (a, b) :: p, es, r0, h => by
    obtain ⟨e, es', h1, h2, h3⟩ := getp_inv h
    rw [List.cons_append, pgetp_cons h1 h2]
    exact pgetp_app h3
theorem putp_app {q : Pth} {z : Row} : ∀ {p : Pth} {es r0 : Row}, getp es p = some r0 → putp es (p ++ q) z = putp es p (putp r0 q z)
  | [], es, r0, h => by simp only [getp, Option.some.injEq] at h; subst h; rfl
  | (a, b) :: p, es, r0, h => by
    obtain ⟨e, es', h1, h2, h3⟩ := getp_inv h
    rw [List.cons_append, putp_cons h1 h2, putp_cons h1 h2, putp_app h3]
theorem set_self {α : Type} {l : List α} {a : Nat} {x : α} (h : l[a]? = some x) : l.set a x = l := by
  obtain ⟨h1, h2⟩ := List.getElem?_eq_some_iff.1 h
  rw [← h2, List.set_getElem_self]
theorem putp_self : ∀ {p : Pth} {es r : Row}, getp es p = some r → putp es p r = es
  | [], es, r, h => by simp only [getp, Option.some.injEq] at h; subst h; rfl
  | (a, b) :: p, es, r, h => by
    obtain ⟨e, es', h1, h2, h3⟩ := getp_inv h
    rw [putp_cons h1 h2, putp_self h3, set_self h2, set_self h1]

theorem psset_sset {S : Sto} {id : Oid} {a b : Ob} : sset (sset S id a) id b = sset S id b := by
  funext i
  unfold sset
  split <;> rfl
theorem sset_self {S : Sto} {id : Oid} {a : Ob} (h : S id = some a) : sset S id a = S := by
  funext i
  unfold sset
  split
  · rename_i e; rw [e, h]
  · rfl
theorem packS_sset {lvl : Nat} {loc : List (Nat × Ob)} {S : Sto} {id : Oid} {o : Ob} (h : id.1 ≠ lvl) : packS lvl loc (sset S id o) = sset (packS lvl loc S) id o := by
  funext i
  by_cases e : i = id
  · subst e
    rw [r_packo h]
    unfold sset
    rw [if_pos rfl, if_pos rfl]
  · unfold sset packS
    simp only [if_neg e]

/-! ## marking -/
section mark
variable {α : Type} (m : α → Int → α) (n : α → Nat)
def mL : List α → Int → List α
  | [], _ => []
  | x :: r, k => m x k :: mL r (k + n x)
def nL : List α → Nat
  | [] => 0
  | x :: r => n x + nL r
theorem mL_length : ∀ (a : List α) (k : Int), (mL m n a k).length = a.length
  | [], _ => rfl
  | x :: r, k => by simp only [mL, List.length_cons, mL_length r]
theorem nL_append : ∀ (a b : List α), nL n (a ++ b) = nL n a + nL n b
  | [], b => by simp [nL]
  | x :: r, b => by simp only [List.cons_append, nL, nL_append r b]; omega
theorem mL_append : ∀ (a b : List α) (k : Int), mL m n (a ++ b) k = mL m n a k ++ mL m n b (k + nL n a)
  | [], b, k => by simp [mL, nL]
  | x :: r, b, k => by
    simp only [List.cons_append, mL, nL, mL_append r b]
    rw [show k + (n x : Int) + (nL n r : Int) = k + ((n x + nL n r : Nat) : Int) from by omega]
/-- The number, and the list, when j elements have been marked. -/
def kJ (a : List α) (k : Int) (j : Nat) : Int := k + nL n (a.take j)
def lJ (a : List α) (k : Int) (j : Nat) : List α := mL m n (a.take j) k ++ a.drop j
theorem kJ_zero {a : List α} {k : Int} : kJ n a k 0 = k := by simp [kJ, nL]
theorem lJ_zero {a : List α} {k : Int} : lJ m n a k 0 = a := by simp [lJ, mL]
theorem kJ_all {a : List α} {k : Int} : kJ n a k a.length = k + nL n a := by simp [kJ]
theorem lJ_all {a : List α} {k : Int} : lJ m n a k a.length = mL m n a k := by simp [lJ]
theorem kJ_succ {a : List α} {k : Int} {j : Nat} (h : j < a.length) : kJ n a k (j + 1) = kJ n a k j + n a[j] := by
  unfold kJ
  rw [List.take_succ_eq_append_getElem h, nL_append]
  simp only [nL]
  omega
theorem kJ_le {a : List α} {k : Int} {j : Nat} : kJ n a k j ≤ k + nL n a := by
  have : nL n a = nL n (a.take j) + nL n (a.drop j) := by rw [← nL_append, List.take_append_drop]
  unfold kJ
  omega
theorem kJ_ge {a : List α} {k : Int} {j : Nat} : k ≤ kJ n a k j := by unfold kJ; omega
theorem lJ_len {a : List α} {k : Int} {j : Nat} : (lJ m n a k j).length = a.length := by
  unfold lJ
  rw [List.length_append, mL_length, List.length_take, List.length_drop]
  omega
theorem lJ_get {a : List α} {k : Int} {j : Nat} (h : j < a.length) : (lJ m n a k j)[j]? = some a[j] := by
  unfold lJ
  have h1 : (mL m n (a.take j) k).length = j := by rw [mL_length, List.length_take]; omega
  rw [List.getElem?_append_right (by omega), h1, Nat.sub_self, List.getElem?_drop, Nat.add_zero, List.getElem?_eq_getElem h]
theorem lJ_set {a : List α} {k : Int} {j : Nat} (h : j < a.length) : (lJ m n a k j).set j (m a[j] (kJ n a k j)) = lJ m n a k (j + 1) := by
  unfold lJ
  have h1 : (mL m n (a.take j) k).length = j := by rw [mL_length, List.length_take]; omega
  rw [List.set_append_right _ _ (by omega), h1, Nat.sub_self, List.drop_eq_getElem_cons h, List.set_cons_zero, List.take_succ_eq_append_getElem h, mL_append]
  simp only [mL, kJ, List.append_assoc, List.cons_append, List.nil_append]
theorem lJ_row (c : α → List Tr) {a : List α} {k : Int} {j : Nat} (h : j < a.length) : ∃ R : Row, j < R.length ∧ (lJ m n a k j).map c = R.set j (c a[j]) ∧ (lJ m n a k (j + 1)).map c = R.set j (c (m a[j] (kJ n a k j))) := by
  refine ⟨(lJ m n a k j).map c, by rw [List.length_map, lJ_len]; exact h, ?_, ?_⟩
  · refine (set_self ?_).symm
    rw [List.getElem?_map, lJ_get m n h]; rfl
  · rw [← lJ_set m n h, List.map_set]
end mark
theorem rset_get {R : Row} {j : Nat} (h : j < R.length) (e : List Tr) : (R.set j e)[j]? = some e := List.getElem?_set_self h
theorem setp_row {es r0 : Row} {p : Pth} {R : Row} {j : Nat} (hv : getp es p = some r0) (h : j < R.length) (e : List Tr) (f : Nat) (t : Tr) : setp (putp es p (R.set j e)) p j f t = putp es p (R.set j (e.set f t)) := by
  rw [setp_putp (rset_get h e) hv, List.set_set]

/-- A function that marks the slice that it is handed, and answers the next number. -/
def MarkS (P : Program) (fid : FuncId) {α : Type} (c : α → List Tr) (m : α → Int → α) (n : α → Nat) (B : α → Prop) : Prop :=
  ∀ (a : List α) (k : Int) (lvl : Nat) (S : Sto) (id : Oid) (p : Pth) (es r0 : Row) (kk hw ver st : Nat) (cap : Option Nat), id.1 < lvl → getp es p = some r0 → stamp p st hw ver true → 0 ≤ k → k + nL n a ≤ 4611686018427387904 →
    a.length ≤ 4294967296 → (∀ x ∈ a, B x) → Sem P fid lvl [.hd id p 0 a.length cap st, iI k] (sset S id (.ar kk (putp es p (a.map c)) true hw ver)) (iI (k + nL n a)) (sset S id (.ar kk (putp es p ((mL m n a k).map c)) true hw ver))
/-- The same for a slice in a cell of a slice. -/
theorem MarkS.nested {P : Program} {fid : FuncId} {α : Type} {c : α → List Tr} {m : α → Int → α} {n : α → Nat} {B : α → Prop} (hm : MarkS P fid c m n B) {a : List α} {k : Int} {lvl : Nat} {S : Sto} {id : Oid} {p : Pth} {es r0 : Row} {kk hw ver j f : Nat} {R : Row} {e : List Tr}
    (hid : id.1 < lvl) (hv : getp es p = some r0) (h0 : 0 ≤ k) (h1 : k + nL n a ≤ 4611686018427387904) (hl : a.length ≤ 4294967296) (hB : ∀ x ∈ a, B x) (hj : j < R.length) (he : e[f]? = some (.sl (a.map c))) :
    Sem P fid lvl [.hd id (p ++ [(j, f)]) 0 a.length none ver, iI k] (sset S id (.ar kk (putp es p (R.set j e)) true hw ver)) (iI (k + nL n a)) (sset S id (.ar kk (putp es p (R.set j (e.set f (.sl ((mL m n a k).map c))))) true hw ver)) := by
  have hR : (R.set j e)[j]? = some e := by rw [List.getElem?_set_self hj]
  have g1 : getp (putp es p (R.set j e)) p = some (R.set j e) := getp_putp hv
  have g2 : getp (putp es p (R.set j e)) (p ++ [(j, f)]) = some (a.map c) := by
    rw [pgetp_app g1, pgetp_cons hR he]; rfl
  have := hm a k lvl S id (p ++ [(j, f)]) (putp es p (R.set j e)) _ kk hw ver ver none hid g2 (by cases p <;> exact ⟨rfl, rfl⟩) h0 h1 hl hB
  rw [putp_self g2, putp_app g1, putp_putp hv, putp_cons hR he] at this
  simp only [putp, List.set_set] at this
  exact this
theorem kcy_mark {P : Program} {fid : FuncId} {α : Type} {c : α → List Tr} {m : α → Int → α} {n : α → Nat} {B : α → Prop} (hm : MarkS P fid c m n B) {a : List α} {k : Int} {lvl len : Nat} {S : Sto} {id : Oid} {p : Pth} {es r0 : Row} {kk hw ver j f : Nat} {R : Row} {e : List Tr} {env : List (Nat × IV)} {loc : List (Nat × Ob)} {d : Option Nat} {K : St → Prop}
    (hid : id.1 < lvl) (hv : getp es p = some r0) (h0 : 0 ≤ k) (h1 : k + nL n a ≤ 4611686018427387904) (hl : a.length ≤ 4294967296) (hB : ∀ x ∈ a, B x) (hj : j < R.length) (he : e[f]? = some (.sl (a.map c))) (hlen : len = a.length)
    (hk : K ⟨lvl, ptd d (iI (k + nL n a)) env, loc, sset S id (.ar kk (putp es p (R.set j (e.set f (.sl ((mL m n a k).map c))))) true hw ver)⟩) :
    kcy (Sem P) fid true lvl env loc (sset S id (.ar kk (putp es p (R.set j e)) true hw ver)) d K [.hd id (p ++ [(j, f)]) 0 len none ver, iI k] := by
  subst hlen
  have hne : id.1 ≠ lvl := by omega
  refine kcy_intro (r := iI (k + nL n a)) loc (sset S id (.ar kk (putp es p (R.set j (e.set f (.sl ((mL m n a k).map c))))) true hw ver)) ?_ ?_ ⟨?_, hk⟩
  · intro i hi
    have : i ≠ id := fun e => hne (by rw [← e]; exact hi)
    unfold sset
    rw [if_neg this, if_neg this]
  · rw [packS_sset hne, packS_sset hne]
    exact hm.nested (Nat.lt_succ_of_lt hid) hv h0 h1 hl hB hj he
  · trivial
theorem packS_ptO {lvl key : Nat} {loc : List (Nat × Ob)} {out : Sto} {o : Ob} : packS lvl (ptO key o loc) out = sset (packS lvl loc out) (lvl, key) o := by
  funext i
  unfold packS sset
  by_cases h : i.1 = lvl
  · rw [if_pos h, lkO_ptO]
    by_cases h2 : i.2 = key
    · have : i = (lvl, key) := by obtain ⟨a, b⟩ := i; simp only at h h2; rw [h, h2]
      rw [if_pos h2, if_pos this]
    · have : ¬ i = (lvl, key) := fun e => h2 (by rw [e])
      rw [if_neg h2, if_neg this]
      exact (if_pos h).symm
  · have : ¬ i = (lvl, key) := fun e => h (by rw [e])
    rw [if_neg h, if_neg this]
    exact (if_neg h).symm
/-- A whole slice of an elder call's is marked. -/
theorem kcy_mark0 {P : Program} {fid : FuncId} {α : Type} {c : α → List Tr} {m : α → Int → α} {n : α → Nat} {B : α → Prop} (hm : MarkS P fid c m n B) {a : List α} {k : Int} {lvl : Nat} {out : Sto} {id : Oid} {kk hw ver : Nat} {cap : Option Nat} {env : List (Nat × IV)} {loc : List (Nat × Ob)} {d : Option Nat} {K : St → Prop}
    (hid : id.1 < lvl) (hS : out id = some (.ar kk (a.map c) true hw ver)) (h0 : 0 ≤ k) (h1 : k + nL n a ≤ 4611686018427387904) (hl : a.length ≤ 4294967296) (hB : ∀ x ∈ a, B x)
    (hk : K ⟨lvl, ptd d (iI (k + nL n a)) env, loc, sset out id (.ar kk ((mL m n a k).map c) true hw ver)⟩) :
    kcy (Sem P) fid true lvl env loc out d K [.hd id [] 0 a.length cap hw, iI k] := by
  have hne : id.1 ≠ lvl := by omega
  refine kcy_intro (r := iI (k + nL n a)) loc (sset out id (.ar kk ((mL m n a k).map c) true hw ver)) ?_ ?_ ⟨?_, hk⟩
  · intro i hi
    have : i ≠ id := fun e => hne (by rw [← e]; exact hi)
    unfold sset
    rw [if_neg this]
  · rw [packS_sset hne]
    have e : packS lvl loc out = sset (packS lvl loc out) id (.ar kk (putp (a.map c) [] (a.map c)) true hw ver) := (sset_self (by rw [r_packo hne]; exact hS)).symm
    have := hm a k (lvl + 1) (packS lvl loc out) id [] (a.map c) (a.map c) kk hw ver hw cap (Nat.lt_succ_of_lt hid) rfl rfl h0 h1 hl hB
    rw [← e] at this
    exact this
  · trivial
/-- The same for a slice of the call's own. -/
theorem kcy_mark1 {P : Program} {fid : FuncId} {α : Type} {c : α → List Tr} {m : α → Int → α} {n : α → Nat} {B : α → Prop} (hm : MarkS P fid c m n B) {a : List α} {k : Int} {lvl key : Nat} {out : Sto} {kk hw ver : Nat} {cap : Option Nat} {env : List (Nat × IV)} {loc : List (Nat × Ob)} {d : Option Nat} {K : St → Prop}
    (hS : lkO key loc = some (.ar kk (a.map c) true hw ver)) (h0 : 0 ≤ k) (h1 : k + nL n a ≤ 4611686018427387904) (hl : a.length ≤ 4294967296) (hB : ∀ x ∈ a, B x)
    (hk : K ⟨lvl, ptd d (iI (k + nL n a)) env, ptO key (.ar kk ((mL m n a k).map c) true hw ver) loc, out⟩) :
    kcy (Sem P) fid true lvl env loc out d K [.hd (lvl, key) [] 0 a.length cap hw, iI k] := by
  refine kcy_intro (r := iI (k + nL n a)) (ptO key (.ar kk ((mL m n a k).map c) true hw ver) loc) out (fun _ _ => rfl) ?_ ⟨?_, hk⟩
  · rw [packS_ptO]
    have e : packS lvl loc out = sset (packS lvl loc out) (lvl, key) (.ar kk (putp (a.map c) [] (a.map c)) true hw ver) := (sset_self (by unfold packS; rw [if_pos rfl]; exact hS)).symm
    have := hm a k (lvl + 1) (packS lvl loc out) (lvl, key) [] (a.map c) (a.map c) kk hw ver hw cap (Nat.lt_succ_self _) rfl rfl h0 h1 hl hB
    rw [← e] at this
    exact this
  · trivial
end Go.Fd

/-
  HOW MANY MARKS A THING TAKES, AGAINST ITS SIZE. Own work.
-/
namespace Go.Fd
/-- On, if something is left. -/
def szTh (l : Int) (g : Int → Int) : Int := if l < 0 then -1 else g l
def Zq (c : Int) (s : Int → Int) (q : Nat) : Prop := ∀ l : Int, 0 ≤ l → l ≤ 1048576 → s l ≤ l ∧ (0 ≤ s l → (q : Int) ≤ c + 256 * (l - s l))
theorem Zq_id : Zq 0 (fun l => l) 0 := fun l _ _ => ⟨Int.le_refl _, fun _ => by simp only; omega⟩
theorem Zq_th {c e : Int} {s g : Int → Int} {q r : Nat} (hc : 0 ≤ c) (he : 0 ≤ e) (hs : Zq c s q) (hg : Zq e g r) : Zq (c + e) (fun l => szTh (s l) g) (q + r) := fun l h0 h1 => by
  have a := hs l h0 h1
  by_cases h : s l < 0
  · simp only [szTh, if_pos h]
    exact ⟨by omega, fun h => by omega⟩
  · simp only [szTh, if_neg h]
    have b := hg (s l) (by omega) (by omega)
    refine ⟨by omega, fun h2 => ?_⟩
    have := a.2 (by omega)
    have := b.2 h2
    omega
theorem Zq_N {α : Type} (n : α → Nat) (hn : ∀ x, n x ≤ 256) (a : List α) : Zq 0 (fun l => szN a.length l) (nL n a) := fun l h0 h1 => by
  have hh : ∀ b : List α, nL n b ≤ 256 * b.length := fun b => by
    induction b with
    | nil => exact Nat.le_refl 0
    | cons x r ih => simp only [nL, List.length_cons]; have := hn x; omega
  have := hh a
  simp only [szN]
  split
  · exact ⟨by omega, fun h => by omega⟩
  · exact ⟨by omega, fun h => by omega⟩
theorem Zq_str (n : Nat) : Zq 0 (fun l => l - n) 0 := fun l h0 h1 => ⟨by simp only; omega, fun h => by simp only at h ⊢; omega⟩
theorem Zq_str1 (n : Nat) : Zq 256 (fun l => l - n) 1 := fun l h0 h1 => ⟨by simp only; omega, fun h => by simp only at h ⊢; omega⟩
theorem Zq_F {α : Type} {f : α → Int → Int} {n : α → Nat} (hf : ∀ x, Zq 256 (f x) (n x)) : ∀ (a : List α), Zq (256 * a.length) (fun l => szF f a l) (nL n a)
  | [] => fun l _ _ => ⟨Int.le_refl l, fun _ => by simp only [szF, nL, List.length_nil]; omega⟩
  | x :: r => fun l h0 h1 => by
    simp only [szF, nL, List.length_cons]
    have a := hf x l h0 h1
    split
    · exact ⟨by omega, fun h => by omega⟩
    · have b := Zq_F hf r (f x l) (by omega) (by omega)
      simp only at b
      refine ⟨by omega, fun h => ?_⟩
      have := a.2 (by omega)
      have := b.2 h
      omega
theorem Zq_L {α : Type} {f : α → Int → Int} {n : α → Nat} (hf : ∀ x, Zq 256 (f x) (n x)) (a : List α) : Zq 0 (fun l => szL f a l) (nL n a) := fun l h0 h1 => by
  simp only [szL]
  split
  · exact ⟨by omega, fun h => by omega⟩
  · have b := Zq_F hf a (l - a.length) (by omega) (by omega)
    simp only at b
    refine ⟨by omega, fun h => ?_⟩
    have := b.2 h
    omega
theorem Zq_imp {c e : Int} {s : Int → Int} {q r : Nat} (h : Zq c s q) (hq : (r : Int) + c ≤ q + e) : Zq e s r := fun l h0 h1 => by
  have a := h l h0 h1
  refine ⟨a.1, fun h2 => ?_⟩
  have := a.2 h2
  omega
end Go.Fd

/-
  THE DATA OF THE LAWS: plain types, how they lie in memory (printed by lawgen.py). Own work.
-/
namespace Go.Fd
set_option maxRecDepth 10000
def cA3 (x : (Int × Int × Int)) : List Tr := [tv x.1, tv x.2.1, tv x.2.2]
structure TNode where
  control : Int
  parent : Int
  links : (List Int)
  deriving DecidableEq
def cNode (x : TNode) : List Tr := [tv x.control, tv x.parent, .sl (rI x.links)]
theorem cNode_len (x : TNode) : (cNode x).length = 3 := rfl
def oNode (x : TNode) : IV := .ag [iI x.control, iI x.parent, .ow 1 (rI x.links) true]
def bdNode (n : Nat) (x : TNode) : Prop := x.links.length ≤ n
def ftNode (x : TNode) : Prop := fits .i64 x.control ∧ fits .i64 x.parent ∧ (∀ y ∈ x.links, fits .i64 y)
def szNode (x : TNode) (l : Int) : Int := szTh (szN x.links.length l) fun l => l
structure TWire where
  name : ByteArray
  link : Int
  deriving DecidableEq
def cWire (x : TWire) : List Tr := [ts x.name, tv x.link]
theorem cWire_len (x : TWire) : (cWire x).length = 2 := rfl
def oWire (x : TWire) : IV := .ag [iS x.name, iI x.link]
def bdWire (n : Nat) (x : TWire) : Prop := x.name.size ≤ n
def ftWire (x : TWire) : Prop := fits .i64 x.link
def szWire (x : TWire) (l : Int) : Int := szTh (l - x.name.size) fun l => l
structure TBigraph where
  roots : Int
  nodes : (List TNode)
  sites : (List Int)
  edges : Int
  outer : (List ByteArray)
  inner : (List TWire)
  deriving DecidableEq
def cBigraph (x : TBigraph) : List Tr := [tv x.roots, .sl (x.nodes.map cNode), .sl (rI x.sites), tv x.edges, .sl (rS x.outer), .sl (x.inner.map cWire)]
theorem cBigraph_len (x : TBigraph) : (cBigraph x).length = 6 := rfl
def oBigraph (x : TBigraph) : IV := .ag [iI x.roots, .ow 3 (x.nodes.map cNode) true, .ow 1 (rI x.sites) true, iI x.edges, .ow 1 (rS x.outer) true, .ow 2 (x.inner.map cWire) true]
def bdBigraph (n : Nat) (x : TBigraph) : Prop := x.nodes.length ≤ n ∧ (∀ y ∈ x.nodes, bdNode n y) ∧ x.sites.length ≤ n ∧ x.outer.length ≤ n ∧ (∀ y ∈ x.outer, y.size ≤ n) ∧ x.inner.length ≤ n ∧ (∀ y ∈ x.inner, bdWire n y)
def ftBigraph (x : TBigraph) : Prop := fits .i64 x.roots ∧ (∀ y ∈ x.nodes, ftNode y) ∧ (∀ y ∈ x.sites, fits .i64 y) ∧ fits .i64 x.edges ∧ (∀ y ∈ x.inner, ftWire y)
def szBigraph (x : TBigraph) (l : Int) : Int := szTh (szL szNode x.nodes l) fun l => szTh (szN x.sites.length l) fun l => szTh (szL (fun x m => m - x.size) x.outer l) fun l => szTh (szL szWire x.inner l) fun l => l
structure TSystem where
  states : (List TBigraph)
  steps : (List (Int × Int × Int))
  deriving DecidableEq
def cSystem (x : TSystem) : List Tr := [.sl (x.states.map cBigraph), .sl (x.steps.map cA3)]
def oSystem (x : TSystem) : IV := .ag [.ow 6 (x.states.map cBigraph) true, .ow 3 (x.steps.map cA3) true]
def bdSystem (n : Nat) (x : TSystem) : Prop := x.states.length ≤ n ∧ (∀ y ∈ x.states, bdBigraph n y) ∧ x.steps.length ≤ n
def ftSystem (x : TSystem) : Prop := (∀ y ∈ x.states, ftBigraph y) ∧ (∀ y ∈ x.steps, fits .i64 y.1 ∧ fits .i64 y.2.1 ∧ fits .i64 y.2.2)
def szSystem (x : TSystem) (l : Int) : Int := szTh (szL szBigraph x.states l) fun l => szTh (szN x.steps.length l) fun l => l
end Go.Fd

/-
  The numbers of the functions of this program, by name (printed by ids.py).
-/
namespace Go.Fd
abbrev fid_laws_FnExactEndStates : FuncId := 5
abbrev fid_laws_szSystem : FuncId := 15
abbrev fid_laws_toSystem : FuncId := 17
abbrev fid_laws_toIntS : FuncId := 18
abbrev fid_laws_eqSystem : FuncId := 20
abbrev fid_laws_eqIntS : FuncId := 21
abbrev fid_spec_EndStates : FuncId := 22
abbrev fid_impl_EndStates : FuncId := 23
abbrev fid_laws_markSystem : FuncId := 24
abbrev fid_laws_markIntS : FuncId := 25
abbrev fid_laws_heldIntS : FuncId := 26
abbrev fid_laws_szBigraphS : FuncId := 35
abbrev fid_laws_szIntA3S : FuncId := 36
abbrev fid_spec_l10Good : FuncId := 37
abbrev fid_laws_toBigraphS : FuncId := 40
abbrev fid_laws_toIntA3S : FuncId := 41
abbrev fid_laws_eqBigraphS : FuncId := 46
abbrev fid_laws_eqIntA3S : FuncId := 47
abbrev fid_spec_l10From : FuncId := 48
abbrev fid_impl_isSystem : FuncId := 49
abbrev fid_impl_System_next : FuncId := 50
abbrev fid_laws_markBigraphS : FuncId := 51
abbrev fid_laws_markIntA3S : FuncId := 52
abbrev fid_laws_szBigraph : FuncId := 58
abbrev fid_spec_l1In : FuncId := 59
abbrev fid_spec_l10Before : FuncId := 60
abbrev fid_laws_toBigraph : FuncId := 62
abbrev fid_laws_toIntA3 : FuncId := 63
abbrev fid_laws_eqBigraph : FuncId := 67
abbrev fid_laws_eqIntA3 : FuncId := 68
abbrev fid_impl_within : FuncId := 69
abbrev fid_impl_areSteps : FuncId := 70
abbrev fid_laws_markNodeS : FuncId := 71
abbrev fid_laws_markStringS : FuncId := 72
abbrev fid_laws_markWireS : FuncId := 73
abbrev fid_laws_szNodeS : FuncId := 77
abbrev fid_laws_szIntS : FuncId := 78
abbrev fid_laws_szStringS : FuncId := 79
abbrev fid_laws_szWireS : FuncId := 80
abbrev fid_laws_toNodeS : FuncId := 81
abbrev fid_laws_toStringS : FuncId := 82
abbrev fid_laws_toWireS : FuncId := 83
abbrev fid_laws_eqNodeS : FuncId := 84
abbrev fid_laws_eqStringS : FuncId := 85
abbrev fid_laws_eqWireS : FuncId := 86
abbrev fid_impl_compareSteps : FuncId := 87
abbrev fid_laws_markText : FuncId := 88
abbrev fid_laws_szNode : FuncId := 91
abbrev fid_laws_szWire : FuncId := 92
abbrev fid_laws_toNode : FuncId := 93
abbrev fid_laws_toWire : FuncId := 94
abbrev fid_laws_eqNode : FuncId := 95
abbrev fid_laws_eqWire : FuncId := 96
abbrev fid_slices_Compare_int_int : FuncId := 97
abbrev fid_cmp_Compare_int : FuncId := 98
abbrev fid_cmp_isNaN_int : FuncId := 99
end Go.Fd

/-
  The annotated codes of the functions, printed by a program of mine (gen.py), and the check that they belong to the program.
-/
namespace Go.Fd
def c_spec_EndStates : F2 :=
  { nt := 28, res := [.t 2 [2], .t 3 [0]], body :=
   (.sq (.rg none [⟨some 1, none, .bt (.t 0)⟩,
      ⟨some 2, none, .mv (.k (.slice none 0 0)) none⟩,
      ⟨some 3, none, .mv (.k (.bool false)) none⟩])
   (.sq (.rg none [⟨some 6, none, .bs 1 0 [] []⟩,
      ⟨some 4, none, .mv (.t 6) none⟩])
   (.sq (.sq (.rg none [⟨some 7, none, .ld (some 2) (.t 1)⟩,
       ⟨some 8, none, .ca .pure false (.f fid_spec_l10Good) [.t 7]⟩,
       ⟨some 9, none, .nt (.t 8)⟩])
    (.cd (.t 9) (.sq (.rg none [⟨some 10, none, .mv (.t 4) none⟩,
        ⟨some 2, none, .mv (.t 10) none⟩,
        ⟨some 3, none, .mv (.k (.bool false)) none⟩])
     (.rt))
    (.sk)))
   (.sq (.sq (.rg none [⟨some 5, none, .mv (.k (.int .i64 0)) none⟩])
    (.bl 0 (.lp [1, 4, 5] [192, 832] (.sq (.sq (.rg none [⟨some 11, none, .mv (.t 5) none⟩,
          ⟨some 12, none, .fa 0 (.t 1)⟩,
          ⟨some 13, none, .ld none (.t 12)⟩,
          ⟨some 14, none, .ln (.t 13)⟩,
          ⟨some 15, none, .bi .lss 0 (.t 11) (.t 14)⟩])
       (.cd (.t 15) (.sk)
       (.ex 0)))
      (.sq (.bl 1 (.sq (.rg none [⟨some 18, none, .ld (some 2) (.t 1)⟩,
           ⟨some 19, none, .mv (.t 5) none⟩,
           ⟨some 20, none, .ca .pure false (.f fid_spec_l10From) [.t 18, .t 19]⟩,
           ⟨some 21, none, .ln (.t 20)⟩,
           ⟨some 22, none, .bi .eql 0 (.t 21) (.k (.int .i64 0))⟩])
        (.cd (.t 22) (.rg none [⟨some 23, none, .mv (.t 4) none⟩,
           ⟨some 24, none, .mv (.t 5) none⟩,
           ⟨some 25, none, .bs 1 1 [.int .i64 0] [(0, .t 24)]⟩,
           ⟨some 26, none, .ap 1 0 (.t 23) (.t 25)⟩,
           ⟨some 4, none, .mv (.t 26) none⟩])
        (.sk))))
      (.rg none [⟨some 16, none, .mv (.t 5) none⟩,
        ⟨some 17, none, .bi .add 0 (.t 16) (.k (.int .i64 1))⟩,
        ⟨some 5, none, .mv (.t 17) none⟩]))))))
   (.sq (.rg none [⟨some 27, none, .mv (.t 4) none⟩,
      ⟨some 2, none, .mv (.t 27) none⟩,
      ⟨some 3, none, .mv (.k (.bool true)) none⟩])
   (.rt)))))) }
theorem k_spec_EndStates : chkF Go.Proofs.Try.prog fid_spec_EndStates c_spec_EndStates = true := by kernel_rfl

def c_impl_EndStates : F2 :=
  { nt := 27, res := [.t 2 [2], .t 3 [0]], body :=
   (.sq (.rg none [⟨some 1, none, .bt (.t 0)⟩,
      ⟨some 2, none, .mv (.k (.slice none 0 0)) none⟩,
      ⟨some 3, none, .mv (.k (.bool false)) none⟩])
   (.sq (.sq (.rg none [⟨some 6, none, .ld (some 2) (.t 1)⟩,
       ⟨some 7, none, .ca .pure false (.f fid_impl_isSystem) [.t 6]⟩,
       ⟨some 8, none, .nt (.t 7)⟩])
    (.cd (.t 8) (.sq (.rg none [⟨some 2, none, .mv (.k (.slice none 0 0)) none⟩,
        ⟨some 3, none, .mv (.k (.bool false)) none⟩])
     (.rt))
    (.sk)))
   (.sq (.rg none [⟨some 9, none, .bs 1 0 [] []⟩,
      ⟨some 4, none, .mv (.t 9) none⟩])
   (.sq (.sq (.rg none [⟨some 10, none, .fa 0 (.t 1)⟩,
       ⟨some 11, none, .ld none (.t 10)⟩,
       ⟨some 12, none, .ln (.t 11)⟩,
       ⟨some 13, none, .mv (.k (.int .i64 0)) none⟩])
    (.bl 0 (.lp [1, 4, 12, 13] [288, 768] (.sq (.rg none [⟨some 14, none, .bi .lss 0 (.t 13) (.t 12)⟩])
      (.sq (.cd (.t 14) (.sk)
       (.ex 0))
      (.sq (.bl 1 (.sq (.rg none [⟨some 15, none, .mv (.t 13) none⟩,
           ⟨some 5, none, .mv (.t 15) none⟩])
        (.sq (.rg none [⟨some 16, none, .ld (some 2) (.t 1)⟩,
           ⟨some 17, none, .mv (.t 5) none⟩,
           ⟨some 18, none, .ca .pure false (.f fid_impl_System_next) [.t 16, .t 17]⟩,
           ⟨some 19, none, .ln (.t 18)⟩,
           ⟨some 20, none, .bi .eql 0 (.t 19) (.k (.int .i64 0))⟩])
        (.cd (.t 20) (.rg none [⟨some 21, none, .mv (.t 4) none⟩,
           ⟨some 22, none, .mv (.t 5) none⟩,
           ⟨some 23, none, .bs 1 1 [.int .i64 0] [(0, .t 22)]⟩,
           ⟨some 24, none, .ap 1 0 (.t 21) (.t 23)⟩,
           ⟨some 4, none, .mv (.t 24) none⟩])
        (.sk)))))
      (.rg none [⟨some 25, none, .bi .add 0 (.t 13) (.k (.int .i64 1))⟩,
        ⟨some 13, none, .mv (.t 25) none⟩])))))))
   (.sq (.rg none [⟨some 26, none, .mv (.t 4) none⟩,
      ⟨some 2, none, .mv (.t 26) none⟩,
      ⟨some 3, none, .mv (.k (.bool true)) none⟩])
   (.rt)))))) }
theorem k_impl_EndStates : chkF Go.Proofs.Try.prog fid_impl_EndStates c_impl_EndStates = true := by kernel_rfl

def c_spec_l10Good : F2 :=
  { nt := 58, res := [.t 2 [0]], body :=
   (.sq (.rg none [⟨some 1, none, .bt (.t 0)⟩,
      ⟨some 2, none, .mv (.k (.bool false)) none⟩])
   (.sq (.rg none [⟨some 6, none, .fa 0 (.t 1)⟩,
      ⟨some 7, none, .ld none (.t 6)⟩,
      ⟨some 8, none, .ln (.t 7)⟩,
      ⟨some 3, none, .mv (.t 8) none⟩])
   (.sq (.sq (.rg none [⟨some 4, none, .mv (.k (.int .i64 0)) none⟩])
    (.bl 0 (.lp [1, 3, 4] [] (.sq (.sq (.rg none [⟨some 9, none, .mv (.t 4) none⟩,
          ⟨some 10, none, .fa 1 (.t 1)⟩,
          ⟨some 11, none, .ld none (.t 10)⟩,
          ⟨some 12, none, .ln (.t 11)⟩,
          ⟨some 13, none, .bi .lss 0 (.t 9) (.t 12)⟩])
       (.cd (.t 13) (.sk)
       (.ex 0)))
      (.sq (.bl 1 (.sq (.rg none [⟨some 16, none, .fa 1 (.t 1)⟩,
           ⟨some 17, none, .ld none (.t 16)⟩,
           ⟨some 18, none, .mv (.t 4) none⟩,
           ⟨some 19, none, .ia 3 (.t 17) (.t 18)⟩,
           ⟨some 20, none, .ld (some 3) (.t 19)⟩,
           ⟨some 5, none, .al [.int .i64 0, .int .i64 0, .int .i64 0] []⟩,
           ⟨none, none, .st 3 (.t 5) (.t 20)⟩])
        (.sq (.rg (some 0) [⟨some 21, none, .ja 1 3 (.t 5) (.k (.int .i64 0))⟩,
           ⟨some 22, none, .ld none (.t 21)⟩,
           ⟨some 23, none, .mv (.t 3) none⟩,
           ⟨some 24, none, .bi .sub 0 (.t 23) (.k (.int .i64 1))⟩,
           ⟨some 25, none, .ca .pure false (.f fid_spec_l1In) [.t 22, .k (.int .i64 0), .t 24]⟩,
           ⟨some 26, none, .nt (.t 25)⟩,
           ⟨some 27, none, .mv (.t 26) none⟩,
           ⟨some 28, (some (27, false)), .ja 1 3 (.t 5) (.k (.int .i64 1))⟩,
           ⟨some 29, (some (27, false)), .ld none (.t 28)⟩,
           ⟨some 30, (some (27, false)), .ca .pure false (.f fid_spec_l1In) [.t 29, .k (.int .i64 0), .k (.int .i64 5)]⟩,
           ⟨some 31, (some (27, false)), .nt (.t 30)⟩,
           ⟨some 32, none, .pk (.t 27) (.k (.bool true)) (.t 31)⟩,
           ⟨some 33, none, .mv (.t 32) none⟩,
           ⟨some 34, (some (33, false)), .ja 1 3 (.t 5) (.k (.int .i64 2))⟩,
           ⟨some 35, (some (33, false)), .ld none (.t 34)⟩,
           ⟨some 36, (some (33, false)), .mv (.t 3) none⟩,
           ⟨some 37, (some (33, false)), .bi .sub 0 (.t 36) (.k (.int .i64 1))⟩,
           ⟨some 38, (some (33, false)), .ca .pure false (.f fid_spec_l1In) [.t 35, .k (.int .i64 0), .t 37]⟩,
           ⟨some 39, (some (33, false)), .nt (.t 38)⟩,
           ⟨some 40, none, .pk (.t 33) (.k (.bool true)) (.t 39)⟩,
           ⟨some 41, none, .mv (.t 40) none⟩,
           ⟨some 42, (some (41, false)), .mv (.t 4) none⟩,
           ⟨some 43, (some (41, false)), .bi .gtr 0 (.t 42) (.k (.int .i64 0))⟩,
           ⟨some 44, (some (41, false)), .mv (.t 43) none⟩,
           ⟨some 45, (some (44, true)), .fa 1 (.t 1)⟩,
           ⟨some 46, (some (44, true)), .ld none (.t 45)⟩,
           ⟨some 47, (some (44, true)), .mv (.t 4) none⟩,
           ⟨some 48, (some (44, true)), .bi .sub 0 (.t 47) (.k (.int .i64 1))⟩,
           ⟨some 49, (some (44, true)), .ia 3 (.t 46) (.t 48)⟩,
           ⟨some 50, (some (44, true)), .ld (some 3) (.t 49)⟩,
           ⟨some 51, (some (44, true)), .ld (some 3) (.t 5)⟩,
           ⟨some 52, (some (44, true)), .ca .pure false (.f fid_spec_l10Before) [.t 50, .t 51]⟩,
           ⟨some 53, (some (44, true)), .nt (.t 52)⟩,
           ⟨some 54, (some (41, false)), .pk (.t 44) (.t 53) (.k (.bool false))⟩,
           ⟨some 55, none, .pk (.t 41) (.k (.bool true)) (.t 54)⟩])
        (.cd (.t 55) (.sq (.rg none [⟨some 2, none, .mv (.k (.bool false)) none⟩])
         (.rt))
        (.sk)))))
      (.rg none [⟨some 14, none, .mv (.t 4) none⟩,
        ⟨some 15, none, .bi .add 0 (.t 14) (.k (.int .i64 1))⟩,
        ⟨some 4, none, .mv (.t 15) none⟩]))))))
   (.sq (.rg none [⟨some 56, none, .mv (.t 3) none⟩,
      ⟨some 57, none, .ca .pure false (.f fid_spec_l1In) [.t 56, .k (.int .i64 1), .k (.int .i64 40)]⟩,
      ⟨some 2, none, .mv (.t 57) none⟩])
   (.rt))))) }
theorem k_spec_l10Good : chkF Go.Proofs.Try.prog fid_spec_l10Good c_spec_l10Good = true := by kernel_rfl

def c_spec_l10From : F2 :=
  { nt := 32, res := [.t 4 [4]], body :=
   (.sq (.rg none [⟨some 2, none, .bt (.t 0)⟩,
      ⟨some 4, none, .mv (.k (.slice none 0 0)) none⟩])
   (.sq (.rg none [⟨some 7, none, .bs 3 0 [] []⟩,
      ⟨some 5, none, .mv (.t 7) none⟩])
   (.sq (.sq (.rg none [⟨some 6, none, .mv (.k (.int .i64 0)) none⟩])
    (.bl 0 (.lp [1, 2, 5, 6] [224, 960] (.sq (.sq (.rg none [⟨some 8, none, .mv (.t 6) none⟩,
          ⟨some 9, none, .fa 1 (.t 2)⟩,
          ⟨some 10, none, .ld none (.t 9)⟩,
          ⟨some 11, none, .ln (.t 10)⟩,
          ⟨some 12, none, .bi .lss 0 (.t 8) (.t 11)⟩])
       (.cd (.t 12) (.sk)
       (.ex 0)))
      (.sq (.bl 1 (.sq (.rg none [⟨some 15, none, .fa 1 (.t 2)⟩,
           ⟨some 16, none, .ld none (.t 15)⟩,
           ⟨some 17, none, .mv (.t 6) none⟩,
           ⟨some 18, none, .ia 3 (.t 16) (.t 17)⟩,
           ⟨some 19, none, .ja 1 3 (.t 18) (.k (.int .i64 0))⟩,
           ⟨some 20, none, .ld none (.t 19)⟩,
           ⟨some 21, none, .mv (.t 1) none⟩,
           ⟨some 22, none, .bi .eql 0 (.t 20) (.t 21)⟩])
        (.cd (.t 22) (.rg none [⟨some 23, none, .mv (.t 5) none⟩,
           ⟨some 24, none, .fa 1 (.t 2)⟩,
           ⟨some 25, none, .ld none (.t 24)⟩,
           ⟨some 26, none, .mv (.t 6) none⟩,
           ⟨some 27, none, .ia 3 (.t 25) (.t 26)⟩,
           ⟨some 28, none, .ld (some 3) (.t 27)⟩,
           ⟨some 29, none, .bs 3 1 [.int .i64 0, .int .i64 0, .int .i64 0] [(0, .t 28)]⟩,
           ⟨some 30, none, .ap 3 0 (.t 23) (.t 29)⟩,
           ⟨some 5, none, .mv (.t 30) none⟩])
        (.sk))))
      (.rg none [⟨some 13, none, .mv (.t 6) none⟩,
        ⟨some 14, none, .bi .add 0 (.t 13) (.k (.int .i64 1))⟩,
        ⟨some 6, none, .mv (.t 14) none⟩]))))))
   (.sq (.rg none [⟨some 31, none, .mv (.t 5) none⟩,
      ⟨some 4, none, .mv (.t 31) none⟩])
   (.rt))))) }
theorem k_spec_l10From : chkF Go.Proofs.Try.prog fid_spec_l10From c_spec_l10From = true := by kernel_rfl

def c_impl_isSystem : F2 :=
  { nt := 15, res := [.t 2 [0]], body :=
   (.sq (.rg none [⟨some 1, none, .bt (.t 0)⟩,
      ⟨some 2, none, .mv (.k (.bool false)) none⟩])
   (.sq (.rg none [⟨some 3, none, .fa 0 (.t 1)⟩,
      ⟨some 4, none, .ld none (.t 3)⟩,
      ⟨some 5, none, .ln (.t 4)⟩,
      ⟨some 6, none, .ca .pure false (.f fid_impl_within) [.t 5, .k (.int .i64 1), .k (.int .i64 40)]⟩,
      ⟨some 7, none, .mv (.t 6) none⟩,
      ⟨some 8, (some (7, true)), .fa 1 (.t 1)⟩,
      ⟨some 9, (some (7, true)), .ld none (.t 8)⟩,
      ⟨some 10, (some (7, true)), .fa 0 (.t 1)⟩,
      ⟨some 11, (some (7, true)), .ld none (.t 10)⟩,
      ⟨some 12, (some (7, true)), .ln (.t 11)⟩,
      ⟨some 13, (some (7, true)), .ca .pure false (.f fid_impl_areSteps) [.t 9, .t 12, .k (.int .i64 6)]⟩,
      ⟨some 14, none, .pk (.t 7) (.t 13) (.k (.bool false))⟩,
      ⟨some 2, none, .mv (.t 14) none⟩])
   (.rt))) }
theorem k_impl_isSystem : chkF Go.Proofs.Try.prog fid_impl_isSystem c_impl_isSystem = true := by kernel_rfl

def c_impl_System_next : F2 :=
  { nt := 27, res := [.t 4 [2]], body :=
   (.sq (.rg none [⟨some 2, none, .bt (.t 0)⟩,
      ⟨some 4, none, .mv (.k (.slice none 0 0)) none⟩])
   (.sq (.rg none [⟨some 8, none, .bs 1 0 [] []⟩,
      ⟨some 5, none, .mv (.t 8) none⟩])
   (.sq (.sq (.rg none [⟨some 9, none, .fa 1 (.t 2)⟩,
       ⟨some 10, none, .ld none (.t 9)⟩,
       ⟨some 11, none, .ln (.t 10)⟩,
       ⟨some 12, none, .mv (.k (.int .i64 0)) none⟩])
    (.bl 0 (.lp [1, 5, 10, 11, 12] [256, 768] (.sq (.rg none [⟨some 13, none, .bi .lss 0 (.t 12) (.t 11)⟩])
      (.sq (.cd (.t 13) (.sk)
       (.ex 0))
      (.sq (.bl 1 (.sq (.rg none [⟨some 14, none, .ia 3 (.t 10) (.t 12)⟩,
           ⟨some 15, none, .ld (some 3) (.t 14)⟩,
           ⟨some 7, none, .al [.int .i64 0, .int .i64 0, .int .i64 0] []⟩,
           ⟨none, none, .st 3 (.t 7) (.t 15)⟩])
        (.sq (.rg none [⟨some 16, none, .ja 1 3 (.t 7) (.k (.int .i64 0))⟩,
           ⟨some 17, none, .ld none (.t 16)⟩,
           ⟨some 18, none, .mv (.t 1) none⟩,
           ⟨some 19, none, .bi .eql 0 (.t 17) (.t 18)⟩])
        (.cd (.t 19) (.rg none [⟨some 20, none, .mv (.t 5) none⟩,
           ⟨some 21, none, .ja 1 3 (.t 7) (.k (.int .i64 2))⟩,
           ⟨some 22, none, .ld none (.t 21)⟩,
           ⟨some 23, none, .bs 1 1 [.int .i64 0] [(0, .t 22)]⟩,
           ⟨some 24, none, .ap 1 0 (.t 20) (.t 23)⟩,
           ⟨some 5, none, .mv (.t 24) none⟩])
        (.sk)))))
      (.rg none [⟨some 25, none, .bi .add 0 (.t 12) (.k (.int .i64 1))⟩,
        ⟨some 12, none, .mv (.t 25) none⟩])))))))
   (.sq (.rg none [⟨some 26, none, .mv (.t 5) none⟩,
      ⟨some 4, none, .mv (.t 26) none⟩])
   (.rt))))) }
theorem k_impl_System_next : chkF Go.Proofs.Try.prog fid_impl_System_next c_impl_System_next = true := by kernel_rfl

def c_spec_l1In : F2 :=
  { nt := 15, res := [.t 6 [0]], body :=
   (.sq (.rg none [⟨some 6, none, .mv (.k (.bool false)) none⟩])
   (.sq (.rg none [⟨some 7, none, .mv (.t 0) none⟩,
      ⟨some 8, none, .mv (.t 1) none⟩,
      ⟨some 9, none, .bi .geq 0 (.t 7) (.t 8)⟩,
      ⟨some 10, none, .mv (.t 9) none⟩,
      ⟨some 11, (some (10, true)), .mv (.t 0) none⟩,
      ⟨some 12, (some (10, true)), .mv (.t 2) none⟩,
      ⟨some 13, (some (10, true)), .bi .leq 0 (.t 11) (.t 12)⟩,
      ⟨some 14, none, .pk (.t 10) (.t 13) (.k (.bool false))⟩,
      ⟨some 6, none, .mv (.t 14) none⟩])
   (.rt))) }
theorem k_spec_l1In : chkF Go.Proofs.Try.prog fid_spec_l1In c_spec_l1In = true := by kernel_rfl

def c_spec_l10Before : F2 :=
  { nt := 24, res := [.t 4 [0]], body :=
   (.sq (.rg none [⟨some 2, none, .bt (.t 0)⟩,
      ⟨some 3, none, .bt (.t 1)⟩,
      ⟨some 4, none, .mv (.k (.bool false)) none⟩])
   (.sq (.sq (.rg none [⟨some 5, none, .mv (.k (.int .i64 0)) none⟩])
    (.bl 0 (.lp [2, 3, 5] [] (.sq (.sq (.rg none [⟨some 6, none, .mv (.t 5) none⟩,
          ⟨some 7, none, .bi .lss 0 (.t 6) (.k (.int .i64 3))⟩])
       (.cd (.t 7) (.sk)
       (.ex 0)))
      (.sq (.bl 1 (.sq (.rg (some 0) [⟨some 10, none, .mv (.t 5) none⟩,
           ⟨some 11, none, .ja 1 3 (.t 2) (.t 10)⟩,
           ⟨some 12, none, .ld none (.t 11)⟩,
           ⟨some 13, none, .mv (.t 5) none⟩,
           ⟨some 14, none, .ja 1 3 (.t 3) (.t 13)⟩,
           ⟨some 15, none, .ld none (.t 14)⟩,
           ⟨some 16, none, .bi .neq 0 (.t 12) (.t 15)⟩])
        (.cd (.t 16) (.sq (.rg (some 0) [⟨some 17, none, .mv (.t 5) none⟩,
            ⟨some 18, none, .ja 1 3 (.t 2) (.t 17)⟩,
            ⟨some 19, none, .ld none (.t 18)⟩,
            ⟨some 20, none, .mv (.t 5) none⟩,
            ⟨some 21, none, .ja 1 3 (.t 3) (.t 20)⟩,
            ⟨some 22, none, .ld none (.t 21)⟩,
            ⟨some 23, none, .bi .lss 0 (.t 19) (.t 22)⟩,
            ⟨some 4, none, .mv (.t 23) none⟩])
         (.rt))
        (.sk))))
      (.rg none [⟨some 8, none, .mv (.t 5) none⟩,
        ⟨some 9, none, .bi .add 0 (.t 8) (.k (.int .i64 1))⟩,
        ⟨some 5, none, .mv (.t 9) none⟩]))))))
   (.sq (.rg none [⟨some 4, none, .mv (.k (.bool false)) none⟩])
   (.rt)))) }
theorem k_spec_l10Before : chkF Go.Proofs.Try.prog fid_spec_l10Before c_spec_l10Before = true := by kernel_rfl

def c_impl_within : F2 :=
  { nt := 15, res := [.t 6 [0]], body :=
   (.sq (.rg none [⟨some 6, none, .mv (.k (.bool false)) none⟩])
   (.sq (.rg none [⟨some 7, none, .mv (.t 0) none⟩,
      ⟨some 8, none, .mv (.t 1) none⟩,
      ⟨some 9, none, .bi .geq 0 (.t 7) (.t 8)⟩,
      ⟨some 10, none, .mv (.t 9) none⟩,
      ⟨some 11, (some (10, true)), .mv (.t 0) none⟩,
      ⟨some 12, (some (10, true)), .mv (.t 2) none⟩,
      ⟨some 13, (some (10, true)), .bi .leq 0 (.t 11) (.t 12)⟩,
      ⟨some 14, none, .pk (.t 10) (.t 13) (.k (.bool false))⟩,
      ⟨some 6, none, .mv (.t 14) none⟩])
   (.rt))) }
theorem k_impl_within : chkF Go.Proofs.Try.prog fid_impl_within c_impl_within = true := by kernel_rfl

def c_impl_areSteps : F2 :=
  { nt := 53, res := [.t 6 [0]], body :=
   (.sq (.rg none [⟨some 6, none, .mv (.k (.bool false)) none⟩])
   (.sq (.sq (.rg none [⟨some 9, none, .mv (.t 0) none⟩,
       ⟨some 10, none, .ln (.t 9)⟩,
       ⟨some 11, none, .mv (.k (.int .i64 0)) none⟩])
    (.bl 0 (.lp [0, 1, 2, 9, 10, 11] [] (.sq (.rg none [⟨some 12, none, .bi .lss 0 (.t 11) (.t 10)⟩])
      (.sq (.cd (.t 12) (.sk)
       (.ex 0))
      (.sq (.bl 1 (.sq (.rg none [⟨some 13, none, .mv (.t 11) none⟩,
           ⟨some 14, none, .ia 3 (.t 9) (.t 11)⟩,
           ⟨some 15, none, .ld (some 3) (.t 14)⟩,
           ⟨some 8, none, .al [.int .i64 0, .int .i64 0, .int .i64 0] []⟩,
           ⟨some 7, none, .mv (.t 13) none⟩,
           ⟨none, none, .st 3 (.t 8) (.t 15)⟩])
        (.sq (.rg (some 0) [⟨some 16, none, .ja 1 3 (.t 8) (.k (.int .i64 0))⟩,
           ⟨some 17, none, .ld none (.t 16)⟩,
           ⟨some 18, none, .mv (.t 1) none⟩,
           ⟨some 19, none, .bi .sub 0 (.t 18) (.k (.int .i64 1))⟩,
           ⟨some 20, none, .ca .pure false (.f fid_impl_within) [.t 17, .k (.int .i64 0), .t 19]⟩,
           ⟨some 21, none, .nt (.t 20)⟩,
           ⟨some 22, none, .mv (.t 21) none⟩,
           ⟨some 23, (some (22, false)), .ja 1 3 (.t 8) (.k (.int .i64 1))⟩,
           ⟨some 24, (some (22, false)), .ld none (.t 23)⟩,
           ⟨some 25, (some (22, false)), .mv (.t 2) none⟩,
           ⟨some 26, (some (22, false)), .bi .sub 0 (.t 25) (.k (.int .i64 1))⟩,
           ⟨some 27, (some (22, false)), .ca .pure false (.f fid_impl_within) [.t 24, .k (.int .i64 0), .t 26]⟩,
           ⟨some 28, (some (22, false)), .nt (.t 27)⟩,
           ⟨some 29, none, .pk (.t 22) (.k (.bool true)) (.t 28)⟩,
           ⟨some 30, none, .mv (.t 29) none⟩,
           ⟨some 31, (some (30, false)), .ja 1 3 (.t 8) (.k (.int .i64 2))⟩,
           ⟨some 32, (some (30, false)), .ld none (.t 31)⟩,
           ⟨some 33, (some (30, false)), .mv (.t 1) none⟩,
           ⟨some 34, (some (30, false)), .bi .sub 0 (.t 33) (.k (.int .i64 1))⟩,
           ⟨some 35, (some (30, false)), .ca .pure false (.f fid_impl_within) [.t 32, .k (.int .i64 0), .t 34]⟩,
           ⟨some 36, (some (30, false)), .nt (.t 35)⟩,
           ⟨some 37, none, .pk (.t 30) (.k (.bool true)) (.t 36)⟩,
           ⟨some 38, none, .mv (.t 37) none⟩,
           ⟨some 39, (some (38, false)), .mv (.t 7) none⟩,
           ⟨some 40, (some (38, false)), .bi .gtr 0 (.t 39) (.k (.int .i64 0))⟩,
           ⟨some 41, (some (38, false)), .mv (.t 40) none⟩,
           ⟨some 42, (some (41, true)), .mv (.t 0) none⟩,
           ⟨some 43, (some (41, true)), .mv (.t 7) none⟩,
           ⟨some 44, (some (41, true)), .bi .sub 0 (.t 43) (.k (.int .i64 1))⟩,
           ⟨some 45, (some (41, true)), .ia 3 (.t 42) (.t 44)⟩,
           ⟨some 46, (some (41, true)), .ld (some 3) (.t 45)⟩,
           ⟨some 47, (some (41, true)), .ld (some 3) (.t 8)⟩,
           ⟨some 48, (some (41, true)), .ca .pure false (.f fid_impl_compareSteps) [.t 46, .t 47]⟩,
           ⟨some 49, (some (41, true)), .bi .geq 0 (.t 48) (.k (.int .i64 0))⟩,
           ⟨some 50, (some (38, false)), .pk (.t 41) (.t 49) (.k (.bool false))⟩,
           ⟨some 51, none, .pk (.t 38) (.k (.bool true)) (.t 50)⟩])
        (.cd (.t 51) (.sq (.rg none [⟨some 6, none, .mv (.k (.bool false)) none⟩])
         (.rt))
        (.sk)))))
      (.rg none [⟨some 52, none, .bi .add 0 (.t 11) (.k (.int .i64 1))⟩,
        ⟨some 11, none, .mv (.t 52) none⟩])))))))
   (.sq (.rg none [⟨some 6, none, .mv (.k (.bool true)) none⟩])
   (.rt)))) }
theorem k_impl_areSteps : chkF Go.Proofs.Try.prog fid_impl_areSteps c_impl_areSteps = true := by kernel_rfl

def c_impl_compareSteps : F2 :=
  { nt := 8, res := [.t 4 [0]], body :=
   (.sq (.rg none [⟨some 2, none, .bt (.t 0)⟩,
      ⟨some 3, none, .bt (.t 1)⟩,
      ⟨some 4, none, .mv (.k (.int .i64 0)) none⟩])
   (.sq (.rg (some 0) [⟨some 5, none, .sa 3 (.t 2)⟩,
      ⟨some 6, none, .sa 3 (.t 3)⟩,
      ⟨some 7, none, .ca .pure false (.f fid_slices_Compare_int_int) [.t 5, .t 6]⟩,
      ⟨some 4, none, .mv (.t 7) none⟩])
   (.rt))) }
theorem k_impl_compareSteps : chkF Go.Proofs.Try.prog fid_impl_compareSteps c_impl_compareSteps = true := by kernel_rfl

def c_slices_Compare_int_int : F2 :=
  { nt := 36, res := [.t 4 [0]], body :=
   (.sq (.rg none [⟨some 4, none, .mv (.k (.int .i64 0)) none⟩])
   (.sq (.sq (.rg none [⟨some 9, none, .mv (.t 0) none⟩,
       ⟨some 10, none, .ln (.t 9)⟩,
       ⟨some 11, none, .mv (.k (.int .i64 0)) none⟩])
    (.bl 0 (.lp [0, 1, 9, 10, 11] [] (.sq (.rg none [⟨some 12, none, .bi .lss 0 (.t 11) (.t 10)⟩])
      (.sq (.cd (.t 12) (.sk)
       (.ex 0))
      (.sq (.bl 1 (.sq (.rg none [⟨some 13, none, .mv (.t 11) none⟩,
           ⟨some 14, none, .ia 1 (.t 9) (.t 11)⟩,
           ⟨some 15, none, .ld none (.t 14)⟩,
           ⟨some 5, none, .mv (.t 13) none⟩,
           ⟨some 6, none, .mv (.t 15) none⟩])
        (.sq (.sq (.rg none [⟨some 16, none, .mv (.t 5) none⟩,
            ⟨some 17, none, .mv (.t 1) none⟩,
            ⟨some 18, none, .ln (.t 17)⟩,
            ⟨some 19, none, .bi .geq 0 (.t 16) (.t 18)⟩])
         (.cd (.t 19) (.sq (.rg none [⟨some 4, none, .mv (.k (.int .i64 1)) none⟩])
          (.rt))
         (.sk)))
        (.sq (.rg none [⟨some 20, none, .mv (.t 1) none⟩,
           ⟨some 21, none, .mv (.t 5) none⟩,
           ⟨some 22, none, .ia 1 (.t 20) (.t 21)⟩,
           ⟨some 23, none, .ld none (.t 22)⟩,
           ⟨some 7, none, .mv (.t 23) none⟩])
        (.sq (.rg none [⟨some 24, none, .mv (.t 6) none⟩,
           ⟨some 25, none, .mv (.t 7) none⟩,
           ⟨some 26, none, .ca .pure false (.f fid_cmp_Compare_int) [.t 24, .t 25]⟩,
           ⟨some 8, none, .mv (.t 26) none⟩])
        (.sq (.rg none [⟨some 27, none, .mv (.t 8) none⟩,
           ⟨some 28, none, .bi .neq 0 (.t 27) (.k (.int .i64 0))⟩])
        (.cd (.t 28) (.sq (.rg none [⟨some 29, none, .mv (.t 8) none⟩,
            ⟨some 4, none, .mv (.t 29) none⟩])
         (.rt))
        (.sk))))))))
      (.rg none [⟨some 30, none, .bi .add 0 (.t 11) (.k (.int .i64 1))⟩,
        ⟨some 11, none, .mv (.t 30) none⟩])))))))
   (.sq (.sq (.rg none [⟨some 31, none, .mv (.t 0) none⟩,
       ⟨some 32, none, .ln (.t 31)⟩,
       ⟨some 33, none, .mv (.t 1) none⟩,
       ⟨some 34, none, .ln (.t 33)⟩,
       ⟨some 35, none, .bi .lss 0 (.t 32) (.t 34)⟩])
    (.cd (.t 35) (.sq (.rg none [⟨some 4, none, .mv (.k (.int .i64 (-1))) none⟩])
     (.rt))
    (.sk)))
   (.sq (.rg none [⟨some 4, none, .mv (.k (.int .i64 0)) none⟩])
   (.rt))))) }
theorem k_slices_Compare_int_int : chkF Go.Proofs.Try.prog fid_slices_Compare_int_int c_slices_Compare_int_int = true := by kernel_rfl

def c_cmp_Compare_int : F2 :=
  { nt := 20, res := [.t 4 [0]], body :=
   (.sq (.rg none [⟨some 4, none, .mv (.k (.int .i64 0)) none⟩])
   (.sq (.rg none [⟨some 7, none, .mv (.t 0) none⟩,
      ⟨some 8, none, .ca .pure false (.f fid_cmp_isNaN_int) [.t 7]⟩,
      ⟨some 5, none, .mv (.t 8) none⟩])
   (.sq (.rg none [⟨some 9, none, .mv (.t 1) none⟩,
      ⟨some 10, none, .ca .pure false (.f fid_cmp_isNaN_int) [.t 9]⟩,
      ⟨some 6, none, .mv (.t 10) none⟩])
   (.sq (.sq (.rg none [⟨some 11, none, .mv (.t 5) none⟩])
    (.cd (.t 11) (.sq (.sq (.rg none [⟨some 12, none, .mv (.t 6) none⟩])
      (.cd (.t 12) (.sq (.rg none [⟨some 4, none, .mv (.k (.int .i64 0)) none⟩])
       (.rt))
      (.sk)))
     (.sq (.rg none [⟨some 4, none, .mv (.k (.int .i64 (-1))) none⟩])
     (.rt)))
    (.sk)))
   (.sq (.sq (.rg none [⟨some 13, none, .mv (.t 6) none⟩])
    (.cd (.t 13) (.sq (.rg none [⟨some 4, none, .mv (.k (.int .i64 1)) none⟩])
     (.rt))
    (.sk)))
   (.sq (.sq (.rg none [⟨some 14, none, .mv (.t 0) none⟩,
       ⟨some 15, none, .mv (.t 1) none⟩,
       ⟨some 16, none, .bi .lss 0 (.t 14) (.t 15)⟩])
    (.cd (.t 16) (.sq (.rg none [⟨some 4, none, .mv (.k (.int .i64 (-1))) none⟩])
     (.rt))
    (.sk)))
   (.sq (.sq (.rg none [⟨some 17, none, .mv (.t 0) none⟩,
       ⟨some 18, none, .mv (.t 1) none⟩,
       ⟨some 19, none, .bi .gtr 0 (.t 17) (.t 18)⟩])
    (.cd (.t 19) (.sq (.rg none [⟨some 4, none, .mv (.k (.int .i64 1)) none⟩])
     (.rt))
    (.sk)))
   (.sq (.rg none [⟨some 4, none, .mv (.k (.int .i64 0)) none⟩])
   (.rt))))))))) }
theorem k_cmp_Compare_int : chkF Go.Proofs.Try.prog fid_cmp_Compare_int c_cmp_Compare_int = true := by kernel_rfl

def c_cmp_isNaN_int : F2 :=
  { nt := 6, res := [.t 2 [0]], body :=
   (.sq (.rg none [⟨some 2, none, .mv (.k (.bool false)) none⟩])
   (.sq (.rg none [⟨some 3, none, .mv (.t 0) none⟩,
      ⟨some 4, none, .mv (.t 0) none⟩,
      ⟨some 5, none, .bi .neq 0 (.t 3) (.t 4)⟩,
      ⟨some 2, none, .mv (.t 5) none⟩])
   (.rt))) }
theorem k_cmp_isNaN_int : chkF Go.Proofs.Try.prog fid_cmp_isNaN_int c_cmp_isNaN_int = true := by kernel_rfl

end Go.Fd

/-
  WHAT HOLDS OF THE PROGRAM'S AND THE REFERENCE'S SMALL FUNCTIONS ON NUMBERS. Own work.
-/
namespace Go.Fd
set_option maxRecDepth 20000

/-- A statement as a bool. -/
noncomputable def dc (p : Prop) : Bool := @decide p (Classical.propDecidable p)
theorem dc_iff {p : Prop} : dc p = true ↔ p := by unfold dc; simp
theorem dc_true {p : Prop} (h : p) : dc p = true := dc_iff.2 h
theorem dc_false {p : Prop} (h : ¬ p) : dc p = false := by
  cases hh : dc p with
  | false => rfl
  | true => exact absurd (dc_iff.1 hh) h
theorem dc_not {p : Prop} : dc p = false ↔ ¬ p := ⟨fun h hp => (by rw [dc_true hp] at h; cases h), dc_false⟩
theorem dc_congr {p q : Prop} (h : p ↔ q) : dc p = dc q := by rw [propext h]
theorem dc_decide {p : Prop} [Decidable p] : dc p = decide p := by
  by_cases h : p
  · rw [dc_true h]; simp [h]
  · rw [dc_false h]; simp [h]

abbrev g0 (l : List Int) (i : Nat) : Int := l.getD i 0
abbrev A3 := Int × Int × Int
abbrev g3 (l : List A3) (i : Nat) : A3 := l.getD i (0, 0, 0)
theorem rI_get {l : List Int} {i : Nat} (h : i < l.length) : (rI l)[i]? = some [tv (g0 l i)] := by simp [h]
theorem rA_get {l : List A3} {i : Nat} (h : i < l.length) : (l.map cA3)[i]? = some (cA3 (g3 l i)) := by simp [h]
def inB (n a b : Int) : Bool := decide (a ≤ n) && decide (n ≤ b)
theorem sem_l1In (n a b : Int) (lvl : Nat) (S : Sto) : Sem Go.Proofs.Try.prog fid_spec_l1In lvl [iI n, iI a, iI b] S (iB (inB n a b)) S := by
  refine sem_of_chk k_spec_l1In trivial ?_
  simp only [c_spec_l1In, r_cons, r_nil, r_kont, r_seq1, r_fn2, r_rg, r_sq, r_rt, r_wpF, r_op1, r_op1g, r_gd, r_go1, r_mv, r_bi, r_lei, r_gei, r_pk, r_pkt, r_pkf, r_fin, r_kfe1, r_kcx, r_exps0, r_exps1, r_kex, r_exp1, r_expv2, ptd, lk, pt, xv, kv, kc, params, ↓reduceIte, Nat.reduceEqDiff, reduceCtorEq, List.length_cons, List.length_nil, Nat.reduceAdd, Nat.reduceLeDiff, Nat.reduceLT, true_and, and_true, decide_eq_true_eq, Bool.false_eq_true, Bool.not_true, Nat.zero_add]
  refine ite_of (fun h => ?_) (fun h => ?_) <;> simp [inB, h]
theorem sem_within (n a b : Int) (lvl : Nat) (S : Sto) : Sem Go.Proofs.Try.prog fid_impl_within lvl [iI n, iI a, iI b] S (iB (inB n a b)) S := by
  refine sem_of_chk k_impl_within trivial ?_
  simp only [c_impl_within, r_cons, r_nil, r_kont, r_seq1, r_fn2, r_rg, r_sq, r_rt, r_wpF, r_op1, r_op1g, r_gd, r_go1, r_mv, r_bi, r_lei, r_gei, r_pk, r_pkt, r_pkf, r_fin, r_kfe1, r_kcx, r_exps0, r_exps1, r_kex, r_exp1, r_expv2, ptd, lk, pt, xv, kv, kc, params, ↓reduceIte, Nat.reduceEqDiff, reduceCtorEq, List.length_cons, List.length_nil, Nat.reduceAdd, Nat.reduceLeDiff, Nat.reduceLT, true_and, and_true, decide_eq_true_eq, Bool.false_eq_true, Bool.not_true, Nat.zero_add]
  refine ite_of (fun h => ?_) (fun h => ?_) <;> simp [inB, h]

/-- Lists of numbers, compared. -/
def cmpL : List Int → List Int → Int
  | [], [] => 0
  | [], _ :: _ => -1
  | _ :: _, [] => 1
  | x :: r, y :: s => if x < y then -1 else if y < x then 1 else cmpL r s
def cmpI (x y : Int) : Int := if x < y then -1 else if y < x then 1 else 0
theorem sem_isNaN (x : Int) (lvl : Nat) (S : Sto) : Sem Go.Proofs.Try.prog fid_cmp_isNaN_int lvl [iI x] S (iB false) S := by
  refine sem_of_chk k_cmp_isNaN_int trivial ?_
  simp only [c_cmp_isNaN_int, r_cons, r_nil, r_kont, r_seq1, r_fn2, r_rg, r_sq, r_rt, r_wpF, r_op1, r_go1, r_mv, r_bi, r_nei, r_fin, r_kfe1, r_kcx, r_exps0, r_exps1, r_kex, r_exp1, r_expv2, ptd, lk, pt, xv, kv, kc, params, ↓reduceIte, Nat.reduceEqDiff, reduceCtorEq, List.length_cons, List.length_nil, Nat.reduceLeDiff, Nat.reduceLT, decide_false, Nat.zero_add, ne_eq, not_true_eq_false, and_self]
theorem sem_cmp (x y : Int) (lvl : Nat) (S : Sto) : Sem Go.Proofs.Try.prog fid_cmp_Compare_int lvl [iI x, iI y] S (iI (cmpI x y)) S := by
  refine sem_of_chk k_cmp_Compare_int trivial ?_
  simp only [c_cmp_Compare_int, r_cons, r_nil, r_kont, r_seq1, r_rg, r_sq, r_wpF, r_op1, r_mv, r_kcn, r_sn0, r_sn1, r_ca, r_ca1, ptd, lk, pt, xv, kv, kc, params, ↓reduceIte, Nat.reduceEqDiff, reduceCtorEq, List.length_cons, List.length_nil, Nat.reduceAdd, Nat.reduceLeDiff, Nat.reduceLT, true_and, List.map_cons, List.map_nil, List.cons_append, List.nil_append, mens, men, Nat.zero_add, and_self]
  refine kca_intro (sem_isNaN x) ?_
  simp only [r_cons, r_nil, r_kont, r_seq1, r_rg, r_sq, r_op1, r_mv, r_kcn, r_sn0, r_sn1, r_ca, r_ca1, ptd, keyOf, freshK, lk, pt, addO, xv, ↓reduceIte, Nat.reduceEqDiff, Nat.reduceMul, reduceCtorEq, List.length_nil, Nat.reduceLT, true_and, List.map_cons, List.map_nil, List.cons_append, List.nil_append, mens, men, noSh, isSc, impv, or_true, and_self]
  refine kca_intro (sem_isNaN y) ?_
  simp only [r_cons, r_nil, r_kont, r_seq1, r_seq3, r_fn2, r_sk, r_rg, r_sq, r_rt, r_cd, r_cd2, r_op1, r_go1, r_mv, r_bi, r_lti, r_gti, r_fin, r_kfe1, r_kcx, r_exps0, r_exps1, r_kex, r_exp1, r_expv2, r_lt1, ptd, keyOf, freshK, lk, pt, addO, xv, kv, kc, ↓reduceIte, Nat.reduceEqDiff, Nat.reduceMul, reduceCtorEq, List.length_nil, Nat.reduceLT, true_and, and_true, decide_eq_true_eq, noSh, isSc, impv, or_true, Bool.false_eq_true]
  unfold cmpI
  refine ite_of (fun h => ?_) (fun h => ?_)
  · rw [if_pos h]
  · rw [if_neg h]
    refine ite_of (fun h2 => ?_) (fun h2 => ?_)
    · rw [if_pos h2]
    · rw [if_neg h2]
theorem sem_Compare (a b : List Int) (ha : a.length ≤ 9223372036854775807) (hb : b.length ≤ 9223372036854775807) (lvl : Nat) (S : Sto) : Sem Go.Proofs.Try.prog fid_slices_Compare_int_int lvl [tI a, tI b] S (iI (cmpL a b)) S := by
  refine sem_of_chk k_slices_Compare_int_int trivial ?_
  simp only [c_slices_Compare_int_int, List.length_map, r_cons, r_nil, r_kont, r_seq1, r_rg, r_sq, r_bl, r_wpF, r_op1, r_go1, r_mv, r_ln, r_ln1, ptd, lk, pt, xv, kv, kc, params, ↓reduceIte, Nat.reduceEqDiff, reduceCtorEq, List.length_cons, List.length_nil, Nat.reduceAdd, Nat.reduceLeDiff, Nat.reduceLT, true_and, Nat.zero_add, List.length_map]
  refine wp_count (α := Unit) a.length (fun j _ => ⟨lvl, [(0, tI a), (1, tI b), (9, tI a), (10, iI a.length), (11, iI j)], [], S⟩) (fun j _ => j ≤ b.length ∧ cmpL (a.drop j) (b.drop j) = cmpL a b) () ⟨by simp only [r_clean, r_okm4, r_okE0, r_okE1, r_okL0, ↓reduceIte, Nat.reduceEqDiff, reduceCtorEq, memB, keepB, keepOB, Bool.false_eq_true, and_self], by (simp only [r_fgt, ↓reduceIte, Nat.reduceEqDiff, reduceCtorEq, memB, keepB, keepOB, Bool.false_eq_true, Int.cast_ofNat_Int]) <;> rfl⟩ ⟨Nat.zero_le _, rfl⟩ ?_
  intro j _ hj ⟨hjb, hA⟩
  simp only [List.length_map, r_cons, r_nil, r_kont, r_seq1, r_seq2, r_seq3, r_blk2, r_fn2, r_sk, r_rg, r_sq, r_bl, r_ex, r_rt, r_cd, r_cd2, r_op1, r_go1, r_mv, r_bi, r_lti, r_ln, r_ln1, r_ixn, r_ia, r_ia1, r_fin, r_kfe1, r_kcx, r_exps0, r_exps1, r_kex, r_exp1, r_expv2, r_round2, ptd, lk, pt, xv, kv, kc, ↓reduceIte, Nat.reduceEqDiff, reduceCtorEq, Nat.reduceLT, true_and, and_true, decide_eq_true_eq, Int.toNat_natCast, Int.natCast_nonneg, List.length_map]
  refine ite_of (fun hlt => ?_) (fun hge => ?_)
  · have hja : j < a.length := by omega
    have ga := rI_get hja
    have e1 : a.drop j = g0 a j :: a.drop (j + 1) := by rw [List.drop_eq_getElem_cons hja]; simp [hja]
    rw [e1] at hA
    simp only [ga, List.length_map, r_cons, r_nil, r_kont, r_seq1, r_seq3, r_blk3, r_fn2, r_sk, r_rg, r_sq, r_rt, r_cd, r_cd2, r_op1, r_go1, r_mv, r_bi, r_gei, r_ln, r_ln1, r_op3, r_ixn, r_ia, r_iae, r_ia1, r_ltr, r_ld, r_ld1, r_fin, r_kfe1, r_kcx, r_exps0, r_exps1, r_kex, r_exp1, r_expv2, r_round3, r_lt1, ptd, lk, pt, xv, kv, kc, ↓reduceIte, Nat.reduceEqDiff, reduceCtorEq, List.length_cons, List.length_nil, Nat.reduceLT, true_and, and_true, decide_eq_true_eq, List.getElem?_cons_zero, Int.toNat_natCast, Nat.zero_add, Int.natCast_nonneg, List.length_map]
    refine ite_of (fun hbe => ?_) (fun hbl => ?_)
    · have : b.drop j = [] := List.drop_eq_nil_of_le (by omega)
      rw [this] at hA
      simp only [cmpL] at hA
      rw [← hA]
    · have hjb2 : j < b.length := by omega
      have gb := rI_get hjb2
      have e2 : b.drop j = g0 b j :: b.drop (j + 1) := by rw [List.drop_eq_getElem_cons hjb2]; simp [hjb2]
      rw [e2] at hA
      simp only [cmpL] at hA
      simp only [gb, r_cons, r_nil, r_kont, r_seq1, r_rg, r_sq, r_op1, r_go1, r_mv, r_op3, r_iae, r_ltr, r_ld, r_ld1, r_kcn, r_sn0, r_sn1, r_ca, r_ca1, ptd, lk, pt, xv, ↓reduceIte, Nat.reduceEqDiff, reduceCtorEq, List.length_cons, List.length_nil, Nat.reduceLT, true_and, List.map_cons, List.map_nil, List.cons_append, List.nil_append, List.getElem?_cons_zero, mens, men, Nat.zero_add, and_self]
      refine kca_intro (sem_cmp (g0 a j) (g0 b j)) ?_
      simp only [r_cons, r_nil, r_kont, r_seq1, r_seq3, r_blk1, r_blk3, r_fn2, r_sk, r_rg, r_sq, r_rt, r_cd, r_cd2, r_op1, r_go1, r_mv, r_bi, r_add0, r_nei, r_fin, r_kfe1, r_kcx, r_exps0, r_exps1, r_kex, r_exp1, r_expv2, r_fgt, r_clean, r_okm4, r_okE0, r_okE1, r_okL0, r_round1, r_round3, r_lt1, ptd, keyOf, freshK, lk, pt, addO, xv, kv, kc, ↓reduceIte, Nat.reduceEqDiff, Nat.reduceMul, reduceCtorEq, List.length_nil, Nat.reduceLT, true_and, and_true, decide_eq_true_eq, noSh, isSc, impv, memB, keepB, keepOB, or_true, Bool.false_eq_true, ne_eq, and_self]
      unfold cmpI
      by_cases h1 : g0 a j < g0 b j
      · rw [if_pos h1] at hA
        rw [if_pos h1, if_pos (by decide), ← hA]
      · rw [if_neg h1] at hA
        rw [if_neg h1]
        by_cases h2 : g0 b j < g0 a j
        · rw [if_pos h2] at hA
          rw [if_pos h2, if_pos (by decide), ← hA]
        · rw [if_neg h2] at hA
          rw [if_neg h2, if_neg (by decide)]
          exact ⟨by rw [fits_i64]; omega, cntJ_intro () hja rfl ⟨by omega, hA⟩⟩
  · have : j = a.length := by omega
    subst this
    rw [List.drop_length] at hA
    refine ite_of (fun h1 => ?_) (fun h1 => ?_)
    · have hb1 : a.length < b.length := by omega
      have e2 : b.drop a.length = g0 b a.length :: b.drop (a.length + 1) := by rw [List.drop_eq_getElem_cons hb1]; simp [hb1]
      rw [e2] at hA
      simp only [cmpL] at hA
      rw [← hA]
    · have : b.drop a.length = [] := List.drop_eq_nil_of_le (by omega)
      rw [this] at hA
      simp only [cmpL] at hA
      rw [← hA]

/-- One triple before another. -/
def lt3 (a b : A3) : Prop := a.1 < b.1 ∨ a.1 = b.1 ∧ (a.2.1 < b.2.1 ∨ a.2.1 = b.2.1 ∧ a.2.2 < b.2.2)
def cmp3 (a b : A3) : Int := cmpL [a.1, a.2.1, a.2.2] [b.1, b.2.1, b.2.2]
theorem cmp3_lt {a b : A3} : cmp3 a b < 0 ↔ lt3 a b := by
  unfold cmp3 lt3
  simp only [cmpL]
  by_cases h1 : a.1 < b.1
  · simp [h1]
  · by_cases h2 : b.1 < a.1
    · simp [h1, h2]; omega
    · by_cases h3 : a.2.1 < b.2.1
      · simp [h1, h2, h3]; omega
      · by_cases h4 : b.2.1 < a.2.1
        · simp [h1, h2, h3, h4]; omega
        · by_cases h5 : a.2.2 < b.2.2
          · simp [h1, h2, h3, h4, h5]; omega
          · by_cases h6 : b.2.2 < a.2.2 <;> simp [h1, h2, h3, h4, h5, h6]
theorem sem_compareSteps (a b : A3) (lvl : Nat) (S : Sto) : Sem Go.Proofs.Try.prog fid_impl_compareSteps lvl [.ag ((cA3 a).map .tr), .ag ((cA3 b).map .tr)] S (iI (cmp3 a b)) S := by
  refine sem_of_chk k_impl_compareSteps trivial ?_
  simp only [c_impl_compareSteps, cA3, r_cons, r_nil, r_kont, r_seq1, r_rg, r_sq, r_wpF, r_op1, r_go1, r_mv, r_bt, r_bt1, r_sa, r_sa1, r_kcn, r_sn0, r_sn2, r_ca, r_ca1, ptd, lk, pt, xv, kv, kc, params, ↓reduceIte, Nat.reduceEqDiff, reduceCtorEq, List.length_cons, List.length_nil, Nat.reduceAdd, Nat.reduceLeDiff, Nat.reduceLT, true_and, List.map_cons, List.map_nil, List.cons_append, List.nil_append, List.take_succ_cons, List.take_zero, mens, men, List.all_cons, List.all_nil, isCell, Bool.and_self, cellsOf, totr, totrs, tocs, Nat.zero_add, Nat.le_refl, and_self]
  refine kca_intro (sem_Compare [a.1, a.2.1, a.2.2] [b.1, b.2.1, b.2.2] (by simp) (by simp)) ?_
  simp only [r_cons, r_nil, r_kont, r_seq1, r_fn2, r_rt, r_op1, r_mv, r_fin, r_kfe1, r_kcx, r_exps0, r_exps1, r_kex, r_exp1, r_expv2, ptd, keyOf, freshK, lk, pt, addO, xv, ↓reduceIte, Nat.reduceEqDiff, Nat.reduceMul, reduceCtorEq, List.length_nil, Nat.reduceLT, true_and, and_true, noSh, isSc, impv, or_true]
  rfl
theorem sem_l10Before (a b : A3) (lvl : Nat) (S : Sto) : Sem Go.Proofs.Try.prog fid_spec_l10Before lvl [.ag ((cA3 a).map .tr), .ag ((cA3 b).map .tr)] S (iB (dc (lt3 a b))) S := by
  refine sem_of_chk k_spec_l10Before trivial ?_
  simp only [c_spec_l10Before, cA3, r_cons, r_nil, r_kont, r_seq1, r_rg, r_sq, r_bl, r_wpF, r_op1, r_mv, r_bt, r_bt1, ptd, lk, pt, xv, kv, kc, params, ↓reduceIte, Nat.reduceEqDiff, reduceCtorEq, List.length_cons, List.length_nil, Nat.reduceAdd, Nat.reduceLeDiff, Nat.reduceLT, true_and, List.map_cons, List.map_nil, List.all_cons, List.all_nil, isCell, Bool.and_self, cellsOf, totr, totrs, tocs, Nat.zero_add]
  refine wp_count (α := Unit) 3 (fun j _ => ⟨lvl, [(2, .ta (cA3 a)), (3, .ta (cA3 b)), (5, iI j)], [], S⟩) (fun j _ => (0 < j → a.1 = b.1) ∧ (1 < j → a.2.1 = b.2.1) ∧ (2 < j → a.2.2 = b.2.2)) () ⟨by simp only [r_clean, r_okm4, r_okm11, r_okE0, r_okE1, r_okL0, ↓reduceIte, Nat.reduceEqDiff, reduceCtorEq, memB, keepB, keepOB, Bool.false_eq_true, and_self], by (simp only [r_fgt, ↓reduceIte, Nat.reduceEqDiff, reduceCtorEq, memB, keepB, keepOB, Bool.false_eq_true, Int.cast_ofNat_Int]) <;> rfl⟩ ⟨fun h => by omega, fun h => by omega, fun h => by omega⟩ ?_
  intro j _ hj ⟨hA1, hA2, hA3⟩
  have hc : j = 0 ∨ j = 1 ∨ j = 2 ∨ j = 3 := by omega
  rcases hc with rfl | rfl | rfl | rfl
  · simp only [cA3, Int.cast_ofNat_Int, Nat.mul_one, r_cons, r_nil, r_kont, r_seq1, r_seq3, r_blk1, r_blk3, r_fn2, r_sk, r_rg, r_sq, r_bl, r_rt, r_cd, r_cd2, r_op1, r_go1, r_mv, r_bi, r_add0, r_nei, r_lti, r_op3, r_ixn, r_ja, r_ja1, r_ltr, r_ld, r_ld1, r_fin, r_kfe1, r_kcx, r_exps0, r_exps1, r_kex, r_exp1, r_expv2, r_fgt, r_clean, r_okm4, r_okm11, r_okE0, r_okE1, r_okL0, r_round1, r_round3, r_lt1, ptd, lk, pt, xv, kv, kc, ↓reduceIte, Nat.reduceEqDiff, Nat.reduceSub, Nat.reduceLT, true_and, and_true, decide_eq_true_eq, decide_true, List.getElem?_cons_zero, List.drop_zero, memB, keepB, keepOB, Bool.false_eq_true, Int.toNat_zero, Int.reduceLE, Int.reduceLT, ne_eq, and_self, Int.cast_ofNat_Int]
    refine ite_of (fun hne => ?_) (fun heq => ?_)
    · rw [dc_congr (q := a.1 < b.1) ⟨fun h => by rcases h with h | h <;> omega, fun h => .inl h⟩, dc_decide]
    · exact ⟨by rw [fits_i64]; omega, cntJ_intro (N := 3) (k := 0) () (by omega) rfl ⟨fun _ => by omega, fun h => by omega, fun h => by omega⟩⟩
  · simp only [cA3, Int.cast_ofNat_Int, Nat.mul_one, r_cons, r_nil, r_kont, r_seq1, r_seq3, r_blk1, r_blk3, r_fn2, r_sk, r_rg, r_sq, r_bl, r_rt, r_cd, r_cd2, r_op1, r_go1, r_mv, r_bi, r_add0, r_nei, r_lti, r_op3, r_ixn, r_ja, r_ja1, r_ltr, r_ld, r_ld1, r_fin, r_kfe1, r_kcx, r_exps0, r_exps1, r_kex, r_exp1, r_expv2, r_fgt, r_clean, r_okm4, r_okm11, r_okE0, r_okE1, r_okL0, r_round1, r_round3, r_lt1, ptd, lk, pt, xv, kv, kc, ↓reduceIte, Nat.reduceEqDiff, Nat.reduceSub, Nat.reduceLT, true_and, and_true, decide_eq_true_eq, decide_true, List.getElem?_cons_zero, List.drop_succ_cons, List.drop_zero, memB, keepB, keepOB, Bool.false_eq_true, Int.toNat_one, Int.reduceLE, Int.reduceLT, ne_eq, and_self, Int.cast_ofNat_Int]
    have h1 := hA1 (by omega)
    refine ite_of (fun hne => ?_) (fun heq => ?_)
    · rw [dc_congr (q := a.2.1 < b.2.1) ⟨fun h => by rcases h with h | ⟨_, h | h⟩ <;> omega, fun h => .inr ⟨h1, .inl h⟩⟩, dc_decide]
    · exact ⟨by rw [fits_i64]; omega, cntJ_intro (N := 3) (k := 1) () (by omega) rfl ⟨fun _ => h1, fun _ => by omega, fun h => by omega⟩⟩
  · simp only [cA3, Int.cast_ofNat_Int, Nat.mul_one, r_cons, r_nil, r_kont, r_seq1, r_seq3, r_blk1, r_blk3, r_fn2, r_sk, r_rg, r_sq, r_bl, r_rt, r_cd, r_cd2, r_op1, r_go1, r_mv, r_bi, r_add0, r_nei, r_lti, r_op3, r_ixn, r_ja, r_ja1, r_ltr, r_ld, r_ld1, r_fin, r_kfe1, r_kcx, r_exps0, r_exps1, r_kex, r_exp1, r_expv2, r_fgt, r_clean, r_okm4, r_okm11, r_okE0, r_okE1, r_okL0, r_round1, r_round3, r_lt1, ptd, lk, pt, xv, kv, kc, ↓reduceIte, Nat.reduceEqDiff, Nat.reduceSub, Nat.reduceLT, true_and, and_true, decide_eq_true_eq, decide_true, List.getElem?_cons_zero, List.drop_succ_cons, List.drop_zero, memB, keepB, keepOB, Bool.false_eq_true, Int.reduceToNat, Int.reduceLE, Int.reduceLT, ne_eq, and_self, Int.cast_ofNat_Int]
    have h1 := hA1 (by omega)
    have h2 := hA2 (by omega)
    refine ite_of (fun hne => ?_) (fun heq => ?_)
    · rw [dc_congr (q := a.2.2 < b.2.2) ⟨fun h => by rcases h with h | ⟨_, h | ⟨_, h⟩⟩ <;> omega, fun h => .inr ⟨h1, .inr ⟨h2, h⟩⟩⟩, dc_decide]
    · exact ⟨by rw [fits_i64]; omega, cntJ_intro (N := 3) (k := 2) () (by omega) rfl ⟨fun _ => h1, fun _ => h2, fun _ => by omega⟩⟩
  · simp only [cA3, Int.cast_ofNat_Int, r_cons, r_nil, r_kont, r_seq1, r_seq2, r_blk2, r_fn2, r_rg, r_sq, r_ex, r_rt, r_cd, r_cd2, r_op1, r_go1, r_mv, r_bi, r_lti, r_fin, r_kfe1, r_kcx, r_exps0, r_exps1, r_kex, r_exp1, r_expv2, r_round2, r_lt1, ptd, lk, pt, xv, kv, kc, ↓reduceIte, Nat.reduceEqDiff, Nat.reduceSub, Nat.reduceLT, and_true, decide_false, Bool.false_eq_true, Int.reduceLT, Int.cast_ofNat_Int]
    have : ¬ lt3 a b := by
      have h1 := hA1 (by omega)
      have h2 := hA2 (by omega)
      have h3 := hA3 (by omega)
      unfold lt3
      omega
    rw [dc_false this]
end Go.Fd

/-
  The annotated codes of the functions, printed by a program of mine (gen.py), and the check that they belong to the program.
-/
namespace Go.Fd
def c_laws_szSystem : F2 :=
  { nt := 18, res := [.t 4 [0]], body :=
   (.sq (.rg none [⟨some 2, none, .bt (.t 0)⟩,
      ⟨some 4, none, .mv (.k (.int .i64 0)) none⟩])
   (.sq (.rg none [⟨some 5, none, .fa 0 (.t 2)⟩,
      ⟨some 6, none, .ld none (.t 5)⟩,
      ⟨some 7, none, .mv (.t 1) none⟩,
      ⟨some 8, none, .ca .pure false (.f fid_laws_szBigraphS) [.t 6, .t 7]⟩,
      ⟨some 1, none, .mv (.t 8) none⟩])
   (.sq (.sq (.rg none [⟨some 9, none, .mv (.t 1) none⟩,
       ⟨some 10, none, .bi .lss 0 (.t 9) (.k (.int .i64 0))⟩])
    (.cd (.t 10) (.sq (.rg none [⟨some 4, none, .mv (.k (.int .i64 (-1))) none⟩])
     (.rt))
    (.sk)))
   (.sq (.rg none [⟨some 11, none, .fa 1 (.t 2)⟩,
      ⟨some 12, none, .ld none (.t 11)⟩,
      ⟨some 13, none, .mv (.t 1) none⟩,
      ⟨some 14, none, .ca .pure false (.f fid_laws_szIntA3S) [.t 12, .t 13]⟩,
      ⟨some 1, none, .mv (.t 14) none⟩])
   (.sq (.sq (.rg none [⟨some 15, none, .mv (.t 1) none⟩,
       ⟨some 16, none, .bi .lss 0 (.t 15) (.k (.int .i64 0))⟩])
    (.cd (.t 16) (.sq (.rg none [⟨some 4, none, .mv (.k (.int .i64 (-1))) none⟩])
     (.rt))
    (.sk)))
   (.sq (.rg none [⟨some 17, none, .mv (.t 1) none⟩,
      ⟨some 4, none, .mv (.t 17) none⟩])
   (.rt))))))) }
theorem k_laws_szSystem : chkF Go.Proofs.Try.prog fid_laws_szSystem c_laws_szSystem = true := by kernel_rfl

def c_laws_toSystem : F2 :=
  { nt := 13, res := [.c 2 (some 2) [7, 4]], body :=
   (.sq (.rg none [⟨some 1, none, .bt (.t 0)⟩,
      ⟨some 2, none, .al [.slice none 0 0, .slice none 0 0] []⟩])
   (.sq (.rg none [⟨some 3, none, .al [.slice none 0 0, .slice none 0 0] []⟩])
   (.sq (.rg none [⟨some 4, none, .fa 0 (.t 1)⟩,
      ⟨some 5, none, .ld none (.t 4)⟩,
      ⟨some 6, none, .ca .pure true (.f fid_laws_toBigraphS) [.t 5]⟩,
      ⟨some 7, none, .fa 0 (.t 3)⟩,
      ⟨none, none, .st 1 (.t 7) (.t 6)⟩])
   (.sq (.rg none [⟨some 8, none, .fa 1 (.t 1)⟩,
      ⟨some 9, none, .ld none (.t 8)⟩,
      ⟨some 10, none, .ca .pure true (.f fid_laws_toIntA3S) [.t 9]⟩,
      ⟨some 11, none, .fa 1 (.t 3)⟩,
      ⟨none, none, .st 1 (.t 11) (.t 10)⟩])
   (.sq (.rg none [⟨some 12, none, .ld (some 2) (.t 3)⟩,
      ⟨none, none, .st 2 (.t 2) (.t 12)⟩])
   (.rt)))))) }
theorem k_laws_toSystem : chkF Go.Proofs.Try.prog fid_laws_toSystem c_laws_toSystem = true := by kernel_rfl

def c_laws_eqSystem : F2 :=
  { nt := 17, res := [.t 4 [0]], body :=
   (.sq (.rg none [⟨some 2, none, .bt (.t 0)⟩,
      ⟨some 3, none, .bt (.t 1)⟩,
      ⟨some 4, none, .mv (.k (.bool false)) none⟩])
   (.sq (.sq (.rg none [⟨some 5, none, .fa 0 (.t 2)⟩,
       ⟨some 6, none, .ld none (.t 5)⟩,
       ⟨some 7, none, .fa 0 (.t 3)⟩,
       ⟨some 8, none, .ld none (.t 7)⟩,
       ⟨some 9, none, .ca .pure false (.f fid_laws_eqBigraphS) [.t 6, .t 8]⟩,
       ⟨some 10, none, .nt (.t 9)⟩])
    (.cd (.t 10) (.sq (.rg none [⟨some 4, none, .mv (.k (.bool false)) none⟩])
     (.rt))
    (.sk)))
   (.sq (.sq (.rg none [⟨some 11, none, .fa 1 (.t 2)⟩,
       ⟨some 12, none, .ld none (.t 11)⟩,
       ⟨some 13, none, .fa 1 (.t 3)⟩,
       ⟨some 14, none, .ld none (.t 13)⟩,
       ⟨some 15, none, .ca .pure false (.f fid_laws_eqIntA3S) [.t 12, .t 14]⟩,
       ⟨some 16, none, .nt (.t 15)⟩])
    (.cd (.t 16) (.sq (.rg none [⟨some 4, none, .mv (.k (.bool false)) none⟩])
     (.rt))
    (.sk)))
   (.sq (.rg none [⟨some 4, none, .mv (.k (.bool true)) none⟩])
   (.rt))))) }
theorem k_laws_eqSystem : chkF Go.Proofs.Try.prog fid_laws_eqSystem c_laws_eqSystem = true := by kernel_rfl

def c_laws_toBigraphS : F2 :=
  { nt := 23, res := [.t 2 [7]], body :=
   (.sq (.rg none [⟨some 2, none, .mv (.k (.slice none 0 0)) none⟩])
   (.sq (.rg none [⟨some 5, none, .mv (.t 0) none⟩,
      ⟨some 6, none, .ln (.t 5)⟩,
      ⟨some 7, none, .ms 6 [.int .i64 0, .slice none 0 0, .slice none 0 0, .int .i64 0, .slice none 0 0, .slice none 0 0] (.t 6)⟩,
      ⟨some 3, none, .mv (.t 7) none⟩])
   (.sq (.sq (.rg none [⟨some 4, none, .mv (.k (.int .i64 0)) none⟩])
    (.bl 0 (.lp [0, 3, 4] [224, 640, 641, 642, 643] (.sq (.sq (.rg none [⟨some 8, none, .mv (.t 4) none⟩,
          ⟨some 9, none, .mv (.t 0) none⟩,
          ⟨some 10, none, .ln (.t 9)⟩,
          ⟨some 11, none, .bi .lss 0 (.t 8) (.t 10)⟩])
       (.cd (.t 11) (.sk)
       (.ex 0)))
      (.sq (.bl 1 (.rg none [⟨some 14, none, .mv (.t 3) none⟩,
          ⟨some 15, none, .mv (.t 4) none⟩,
          ⟨some 16, none, .mv (.t 0) none⟩,
          ⟨some 17, none, .mv (.t 4) none⟩,
          ⟨some 18, none, .ia 6 (.t 16) (.t 17)⟩,
          ⟨some 19, none, .ld (some 6) (.t 18)⟩,
          ⟨some 20, none, .ca .pure true (.f fid_laws_toBigraph) [.t 19]⟩,
          ⟨some 21, none, .ia 6 (.t 14) (.t 15)⟩,
          ⟨none, none, .st 6 (.t 21) (.t 20)⟩]))
      (.rg none [⟨some 12, none, .mv (.t 4) none⟩,
        ⟨some 13, none, .bi .add 0 (.t 12) (.k (.int .i64 1))⟩,
        ⟨some 4, none, .mv (.t 13) none⟩]))))))
   (.sq (.rg none [⟨some 22, none, .mv (.t 3) none⟩,
      ⟨some 2, none, .mv (.t 22) none⟩])
   (.rt))))) }
theorem k_laws_toBigraphS : chkF Go.Proofs.Try.prog fid_laws_toBigraphS c_laws_toBigraphS = true := by kernel_rfl

def c_laws_toIntA3S : F2 :=
  { nt := 23, res := [.t 2 [4]], body :=
   (.sq (.rg none [⟨some 2, none, .mv (.k (.slice none 0 0)) none⟩])
   (.sq (.rg none [⟨some 5, none, .mv (.t 0) none⟩,
      ⟨some 6, none, .ln (.t 5)⟩,
      ⟨some 7, none, .ms 3 [.int .i64 0, .int .i64 0, .int .i64 0] (.t 6)⟩,
      ⟨some 3, none, .mv (.t 7) none⟩])
   (.sq (.sq (.rg none [⟨some 4, none, .mv (.k (.int .i64 0)) none⟩])
    (.bl 0 (.lp [0, 3, 4] [224] (.sq (.sq (.rg none [⟨some 8, none, .mv (.t 4) none⟩,
          ⟨some 9, none, .mv (.t 0) none⟩,
          ⟨some 10, none, .ln (.t 9)⟩,
          ⟨some 11, none, .bi .lss 0 (.t 8) (.t 10)⟩])
       (.cd (.t 11) (.sk)
       (.ex 0)))
      (.sq (.bl 1 (.rg none [⟨some 14, none, .mv (.t 3) none⟩,
          ⟨some 15, none, .mv (.t 4) none⟩,
          ⟨some 16, none, .mv (.t 0) none⟩,
          ⟨some 17, none, .mv (.t 4) none⟩,
          ⟨some 18, none, .ia 3 (.t 16) (.t 17)⟩,
          ⟨some 19, none, .ld (some 3) (.t 18)⟩,
          ⟨some 20, none, .ca .pure true (.f fid_laws_toIntA3) [.t 19]⟩,
          ⟨some 21, none, .ia 3 (.t 14) (.t 15)⟩,
          ⟨none, none, .st 3 (.t 21) (.t 20)⟩]))
      (.rg none [⟨some 12, none, .mv (.t 4) none⟩,
        ⟨some 13, none, .bi .add 0 (.t 12) (.k (.int .i64 1))⟩,
        ⟨some 4, none, .mv (.t 13) none⟩]))))))
   (.sq (.rg none [⟨some 22, none, .mv (.t 3) none⟩,
      ⟨some 2, none, .mv (.t 22) none⟩])
   (.rt))))) }
theorem k_laws_toIntA3S : chkF Go.Proofs.Try.prog fid_laws_toIntA3S c_laws_toIntA3S = true := by kernel_rfl

def c_laws_szBigraph : F2 :=
  { nt := 30, res := [.t 4 [0]], body :=
   (.sq (.rg none [⟨some 2, none, .bt (.t 0)⟩,
      ⟨some 4, none, .mv (.k (.int .i64 0)) none⟩])
   (.sq (.rg none [⟨some 5, none, .fa 1 (.t 2)⟩,
      ⟨some 6, none, .ld none (.t 5)⟩,
      ⟨some 7, none, .mv (.t 1) none⟩,
      ⟨some 8, none, .ca .pure false (.f fid_laws_szNodeS) [.t 6, .t 7]⟩,
      ⟨some 1, none, .mv (.t 8) none⟩])
   (.sq (.sq (.rg none [⟨some 9, none, .mv (.t 1) none⟩,
       ⟨some 10, none, .bi .lss 0 (.t 9) (.k (.int .i64 0))⟩])
    (.cd (.t 10) (.sq (.rg none [⟨some 4, none, .mv (.k (.int .i64 (-1))) none⟩])
     (.rt))
    (.sk)))
   (.sq (.rg none [⟨some 11, none, .fa 2 (.t 2)⟩,
      ⟨some 12, none, .ld none (.t 11)⟩,
      ⟨some 13, none, .mv (.t 1) none⟩,
      ⟨some 14, none, .ca .pure false (.f fid_laws_szIntS) [.t 12, .t 13]⟩,
      ⟨some 1, none, .mv (.t 14) none⟩])
   (.sq (.sq (.rg none [⟨some 15, none, .mv (.t 1) none⟩,
       ⟨some 16, none, .bi .lss 0 (.t 15) (.k (.int .i64 0))⟩])
    (.cd (.t 16) (.sq (.rg none [⟨some 4, none, .mv (.k (.int .i64 (-1))) none⟩])
     (.rt))
    (.sk)))
   (.sq (.rg none [⟨some 17, none, .fa 4 (.t 2)⟩,
      ⟨some 18, none, .ld none (.t 17)⟩,
      ⟨some 19, none, .mv (.t 1) none⟩,
      ⟨some 20, none, .ca .pure false (.f fid_laws_szStringS) [.t 18, .t 19]⟩,
      ⟨some 1, none, .mv (.t 20) none⟩])
   (.sq (.sq (.rg none [⟨some 21, none, .mv (.t 1) none⟩,
       ⟨some 22, none, .bi .lss 0 (.t 21) (.k (.int .i64 0))⟩])
    (.cd (.t 22) (.sq (.rg none [⟨some 4, none, .mv (.k (.int .i64 (-1))) none⟩])
     (.rt))
    (.sk)))
   (.sq (.rg none [⟨some 23, none, .fa 5 (.t 2)⟩,
      ⟨some 24, none, .ld none (.t 23)⟩,
      ⟨some 25, none, .mv (.t 1) none⟩,
      ⟨some 26, none, .ca .pure false (.f fid_laws_szWireS) [.t 24, .t 25]⟩,
      ⟨some 1, none, .mv (.t 26) none⟩])
   (.sq (.sq (.rg none [⟨some 27, none, .mv (.t 1) none⟩,
       ⟨some 28, none, .bi .lss 0 (.t 27) (.k (.int .i64 0))⟩])
    (.cd (.t 28) (.sq (.rg none [⟨some 4, none, .mv (.k (.int .i64 (-1))) none⟩])
     (.rt))
    (.sk)))
   (.sq (.rg none [⟨some 29, none, .mv (.t 1) none⟩,
      ⟨some 4, none, .mv (.t 29) none⟩])
   (.rt))))))))))) }
theorem k_laws_szBigraph : chkF Go.Proofs.Try.prog fid_laws_szBigraph c_laws_szBigraph = true := by kernel_rfl

def c_laws_toBigraph : F2 :=
  { nt := 27, res := [.c 2 (some 6) [0, 4, 2, 0, 2, 3]], body :=
   (.sq (.rg none [⟨some 1, none, .bt (.t 0)⟩,
      ⟨some 2, none, .al [.int .i64 0, .slice none 0 0, .slice none 0 0, .int .i64 0, .slice none 0 0, .slice none 0 0] []⟩])
   (.sq (.rg none [⟨some 3, none, .al [.int .i64 0, .slice none 0 0, .slice none 0 0, .int .i64 0, .slice none 0 0, .slice none 0 0] []⟩])
   (.sq (.rg none [⟨some 4, none, .fa 0 (.t 1)⟩,
      ⟨some 5, none, .ld none (.t 4)⟩,
      ⟨some 6, none, .fa 0 (.t 3)⟩,
      ⟨none, none, .st 1 (.t 6) (.t 5)⟩])
   (.sq (.rg none [⟨some 7, none, .fa 1 (.t 1)⟩,
      ⟨some 8, none, .ld none (.t 7)⟩,
      ⟨some 9, none, .ca .pure true (.f fid_laws_toNodeS) [.t 8]⟩,
      ⟨some 10, none, .fa 1 (.t 3)⟩,
      ⟨none, none, .st 1 (.t 10) (.t 9)⟩])
   (.sq (.rg none [⟨some 11, none, .fa 2 (.t 1)⟩,
      ⟨some 12, none, .ld none (.t 11)⟩,
      ⟨some 13, none, .ca .pure true (.f fid_laws_toIntS) [.t 12]⟩,
      ⟨some 14, none, .fa 2 (.t 3)⟩,
      ⟨none, none, .st 1 (.t 14) (.t 13)⟩])
   (.sq (.rg none [⟨some 15, none, .fa 3 (.t 1)⟩,
      ⟨some 16, none, .ld none (.t 15)⟩,
      ⟨some 17, none, .fa 3 (.t 3)⟩,
      ⟨none, none, .st 1 (.t 17) (.t 16)⟩])
   (.sq (.rg none [⟨some 18, none, .fa 4 (.t 1)⟩,
      ⟨some 19, none, .ld none (.t 18)⟩,
      ⟨some 20, none, .ca .pure true (.f fid_laws_toStringS) [.t 19]⟩,
      ⟨some 21, none, .fa 4 (.t 3)⟩,
      ⟨none, none, .st 1 (.t 21) (.t 20)⟩])
   (.sq (.rg none [⟨some 22, none, .fa 5 (.t 1)⟩,
      ⟨some 23, none, .ld none (.t 22)⟩,
      ⟨some 24, none, .ca .pure true (.f fid_laws_toWireS) [.t 23]⟩,
      ⟨some 25, none, .fa 5 (.t 3)⟩,
      ⟨none, none, .st 1 (.t 25) (.t 24)⟩])
   (.sq (.rg none [⟨some 26, none, .ld (some 6) (.t 3)⟩,
      ⟨none, none, .st 6 (.t 2) (.t 26)⟩])
   (.rt)))))))))) }
theorem k_laws_toBigraph : chkF Go.Proofs.Try.prog fid_laws_toBigraph c_laws_toBigraph = true := by kernel_rfl

def c_laws_toIntA3 : F2 :=
  { nt := 15, res := [.c 2 (some 3) [0, 0, 0]], body :=
   (.sq (.rg none [⟨some 1, none, .bt (.t 0)⟩,
      ⟨some 2, none, .al [.int .i64 0, .int .i64 0, .int .i64 0] []⟩])
   (.sq (.rg none [⟨some 3, none, .al [.int .i64 0, .int .i64 0, .int .i64 0] []⟩])
   (.sq (.sq (.rg none [⟨some 4, none, .mv (.k (.int .i64 0)) none⟩])
    (.bl 0 (.lp [1, 2, 3, 4] [64, 96] (.sq (.sq (.rg none [⟨some 5, none, .mv (.t 4) none⟩,
          ⟨some 6, none, .bi .lss 0 (.t 5) (.k (.int .i64 3))⟩])
       (.cd (.t 6) (.sk)
       (.ex 0)))
      (.sq (.bl 1 (.rg none [⟨some 9, none, .mv (.t 4) none⟩,
          ⟨some 10, none, .mv (.t 4) none⟩,
          ⟨some 11, none, .ja 1 3 (.t 1) (.t 10)⟩,
          ⟨some 12, none, .ld none (.t 11)⟩,
          ⟨some 13, none, .ja 1 3 (.t 3) (.t 9)⟩,
          ⟨none, none, .st 1 (.t 13) (.t 12)⟩]))
      (.rg none [⟨some 7, none, .mv (.t 4) none⟩,
        ⟨some 8, none, .bi .add 0 (.t 7) (.k (.int .i64 1))⟩,
        ⟨some 4, none, .mv (.t 8) none⟩]))))))
   (.sq (.rg none [⟨some 14, none, .ld (some 3) (.t 3)⟩,
      ⟨none, none, .st 3 (.t 2) (.t 14)⟩])
   (.rt))))) }
theorem k_laws_toIntA3 : chkF Go.Proofs.Try.prog fid_laws_toIntA3 c_laws_toIntA3 = true := by kernel_rfl

def c_laws_eqBigraph : F2 :=
  { nt := 39, res := [.t 4 [0]], body :=
   (.sq (.rg none [⟨some 2, none, .bt (.t 0)⟩,
      ⟨some 3, none, .bt (.t 1)⟩,
      ⟨some 4, none, .mv (.k (.bool false)) none⟩])
   (.sq (.sq (.rg none [⟨some 5, none, .fa 0 (.t 2)⟩,
       ⟨some 6, none, .ld none (.t 5)⟩,
       ⟨some 7, none, .fa 0 (.t 3)⟩,
       ⟨some 8, none, .ld none (.t 7)⟩,
       ⟨some 9, none, .bi .neq 0 (.t 6) (.t 8)⟩])
    (.cd (.t 9) (.sq (.rg none [⟨some 4, none, .mv (.k (.bool false)) none⟩])
     (.rt))
    (.sk)))
   (.sq (.sq (.rg none [⟨some 10, none, .fa 1 (.t 2)⟩,
       ⟨some 11, none, .ld none (.t 10)⟩,
       ⟨some 12, none, .fa 1 (.t 3)⟩,
       ⟨some 13, none, .ld none (.t 12)⟩,
       ⟨some 14, none, .ca .pure false (.f fid_laws_eqNodeS) [.t 11, .t 13]⟩,
       ⟨some 15, none, .nt (.t 14)⟩])
    (.cd (.t 15) (.sq (.rg none [⟨some 4, none, .mv (.k (.bool false)) none⟩])
     (.rt))
    (.sk)))
   (.sq (.sq (.rg none [⟨some 16, none, .fa 2 (.t 2)⟩,
       ⟨some 17, none, .ld none (.t 16)⟩,
       ⟨some 18, none, .fa 2 (.t 3)⟩,
       ⟨some 19, none, .ld none (.t 18)⟩,
       ⟨some 20, none, .ca .pure false (.f fid_laws_eqIntS) [.t 17, .t 19]⟩,
       ⟨some 21, none, .nt (.t 20)⟩])
    (.cd (.t 21) (.sq (.rg none [⟨some 4, none, .mv (.k (.bool false)) none⟩])
     (.rt))
    (.sk)))
   (.sq (.sq (.rg none [⟨some 22, none, .fa 3 (.t 2)⟩,
       ⟨some 23, none, .ld none (.t 22)⟩,
       ⟨some 24, none, .fa 3 (.t 3)⟩,
       ⟨some 25, none, .ld none (.t 24)⟩,
       ⟨some 26, none, .bi .neq 0 (.t 23) (.t 25)⟩])
    (.cd (.t 26) (.sq (.rg none [⟨some 4, none, .mv (.k (.bool false)) none⟩])
     (.rt))
    (.sk)))
   (.sq (.sq (.rg none [⟨some 27, none, .fa 4 (.t 2)⟩,
       ⟨some 28, none, .ld none (.t 27)⟩,
       ⟨some 29, none, .fa 4 (.t 3)⟩,
       ⟨some 30, none, .ld none (.t 29)⟩,
       ⟨some 31, none, .ca .pure false (.f fid_laws_eqStringS) [.t 28, .t 30]⟩,
       ⟨some 32, none, .nt (.t 31)⟩])
    (.cd (.t 32) (.sq (.rg none [⟨some 4, none, .mv (.k (.bool false)) none⟩])
     (.rt))
    (.sk)))
   (.sq (.sq (.rg none [⟨some 33, none, .fa 5 (.t 2)⟩,
       ⟨some 34, none, .ld none (.t 33)⟩,
       ⟨some 35, none, .fa 5 (.t 3)⟩,
       ⟨some 36, none, .ld none (.t 35)⟩,
       ⟨some 37, none, .ca .pure false (.f fid_laws_eqWireS) [.t 34, .t 36]⟩,
       ⟨some 38, none, .nt (.t 37)⟩])
    (.cd (.t 38) (.sq (.rg none [⟨some 4, none, .mv (.k (.bool false)) none⟩])
     (.rt))
    (.sk)))
   (.sq (.rg none [⟨some 4, none, .mv (.k (.bool true)) none⟩])
   (.rt))))))))) }
theorem k_laws_eqBigraph : chkF Go.Proofs.Try.prog fid_laws_eqBigraph c_laws_eqBigraph = true := by kernel_rfl

def c_laws_eqIntA3 : F2 :=
  { nt := 17, res := [.t 4 [0]], body :=
   (.sq (.rg none [⟨some 2, none, .bt (.t 0)⟩,
      ⟨some 3, none, .bt (.t 1)⟩,
      ⟨some 4, none, .mv (.k (.bool false)) none⟩])
   (.sq (.sq (.rg none [⟨some 5, none, .mv (.k (.int .i64 0)) none⟩])
    (.bl 0 (.lp [2, 3, 5] [] (.sq (.sq (.rg none [⟨some 6, none, .mv (.t 5) none⟩,
          ⟨some 7, none, .bi .lss 0 (.t 6) (.k (.int .i64 3))⟩])
       (.cd (.t 7) (.sk)
       (.ex 0)))
      (.sq (.bl 1 (.sq (.rg (some 0) [⟨some 10, none, .mv (.t 5) none⟩,
           ⟨some 11, none, .ja 1 3 (.t 2) (.t 10)⟩,
           ⟨some 12, none, .ld none (.t 11)⟩,
           ⟨some 13, none, .mv (.t 5) none⟩,
           ⟨some 14, none, .ja 1 3 (.t 3) (.t 13)⟩,
           ⟨some 15, none, .ld none (.t 14)⟩,
           ⟨some 16, none, .bi .neq 0 (.t 12) (.t 15)⟩])
        (.cd (.t 16) (.sq (.rg none [⟨some 4, none, .mv (.k (.bool false)) none⟩])
         (.rt))
        (.sk))))
      (.rg none [⟨some 8, none, .mv (.t 5) none⟩,
        ⟨some 9, none, .bi .add 0 (.t 8) (.k (.int .i64 1))⟩,
        ⟨some 5, none, .mv (.t 9) none⟩]))))))
   (.sq (.rg none [⟨some 4, none, .mv (.k (.bool true)) none⟩])
   (.rt)))) }
theorem k_laws_eqIntA3 : chkF Go.Proofs.Try.prog fid_laws_eqIntA3 c_laws_eqIntA3 = true := by kernel_rfl

def c_laws_toNodeS : F2 :=
  { nt := 23, res := [.t 2 [4]], body :=
   (.sq (.rg none [⟨some 2, none, .mv (.k (.slice none 0 0)) none⟩])
   (.sq (.rg none [⟨some 5, none, .mv (.t 0) none⟩,
      ⟨some 6, none, .ln (.t 5)⟩,
      ⟨some 7, none, .ms 3 [.int .i64 0, .int .i64 0, .slice none 0 0] (.t 6)⟩,
      ⟨some 3, none, .mv (.t 7) none⟩])
   (.sq (.sq (.rg none [⟨some 4, none, .mv (.k (.int .i64 0)) none⟩])
    (.bl 0 (.lp [0, 3, 4] [224, 640] (.sq (.sq (.rg none [⟨some 8, none, .mv (.t 4) none⟩,
          ⟨some 9, none, .mv (.t 0) none⟩,
          ⟨some 10, none, .ln (.t 9)⟩,
          ⟨some 11, none, .bi .lss 0 (.t 8) (.t 10)⟩])
       (.cd (.t 11) (.sk)
       (.ex 0)))
      (.sq (.bl 1 (.rg none [⟨some 14, none, .mv (.t 3) none⟩,
          ⟨some 15, none, .mv (.t 4) none⟩,
          ⟨some 16, none, .mv (.t 0) none⟩,
          ⟨some 17, none, .mv (.t 4) none⟩,
          ⟨some 18, none, .ia 3 (.t 16) (.t 17)⟩,
          ⟨some 19, none, .ld (some 3) (.t 18)⟩,
          ⟨some 20, none, .ca .pure true (.f fid_laws_toNode) [.t 19]⟩,
          ⟨some 21, none, .ia 3 (.t 14) (.t 15)⟩,
          ⟨none, none, .st 3 (.t 21) (.t 20)⟩]))
      (.rg none [⟨some 12, none, .mv (.t 4) none⟩,
        ⟨some 13, none, .bi .add 0 (.t 12) (.k (.int .i64 1))⟩,
        ⟨some 4, none, .mv (.t 13) none⟩]))))))
   (.sq (.rg none [⟨some 22, none, .mv (.t 3) none⟩,
      ⟨some 2, none, .mv (.t 22) none⟩])
   (.rt))))) }
theorem k_laws_toNodeS : chkF Go.Proofs.Try.prog fid_laws_toNodeS c_laws_toNodeS = true := by kernel_rfl

def c_laws_toWireS : F2 :=
  { nt := 23, res := [.t 2 [3]], body :=
   (.sq (.rg none [⟨some 2, none, .mv (.k (.slice none 0 0)) none⟩])
   (.sq (.rg none [⟨some 5, none, .mv (.t 0) none⟩,
      ⟨some 6, none, .ln (.t 5)⟩,
      ⟨some 7, none, .ms 2 [.string ⟨#[]⟩, .int .i64 0] (.t 6)⟩,
      ⟨some 3, none, .mv (.t 7) none⟩])
   (.sq (.sq (.rg none [⟨some 4, none, .mv (.k (.int .i64 0)) none⟩])
    (.bl 0 (.lp [0, 3, 4] [224] (.sq (.sq (.rg none [⟨some 8, none, .mv (.t 4) none⟩,
          ⟨some 9, none, .mv (.t 0) none⟩,
          ⟨some 10, none, .ln (.t 9)⟩,
          ⟨some 11, none, .bi .lss 0 (.t 8) (.t 10)⟩])
       (.cd (.t 11) (.sk)
       (.ex 0)))
      (.sq (.bl 1 (.rg none [⟨some 14, none, .mv (.t 3) none⟩,
          ⟨some 15, none, .mv (.t 4) none⟩,
          ⟨some 16, none, .mv (.t 0) none⟩,
          ⟨some 17, none, .mv (.t 4) none⟩,
          ⟨some 18, none, .ia 2 (.t 16) (.t 17)⟩,
          ⟨some 19, none, .ld (some 2) (.t 18)⟩,
          ⟨some 20, none, .ca .pure true (.f fid_laws_toWire) [.t 19]⟩,
          ⟨some 21, none, .ia 2 (.t 14) (.t 15)⟩,
          ⟨none, none, .st 2 (.t 21) (.t 20)⟩]))
      (.rg none [⟨some 12, none, .mv (.t 4) none⟩,
        ⟨some 13, none, .bi .add 0 (.t 12) (.k (.int .i64 1))⟩,
        ⟨some 4, none, .mv (.t 13) none⟩]))))))
   (.sq (.rg none [⟨some 22, none, .mv (.t 3) none⟩,
      ⟨some 2, none, .mv (.t 22) none⟩])
   (.rt))))) }
theorem k_laws_toWireS : chkF Go.Proofs.Try.prog fid_laws_toWireS c_laws_toWireS = true := by kernel_rfl

def c_laws_szNode : F2 :=
  { nt := 12, res := [.t 4 [0]], body :=
   (.sq (.rg none [⟨some 2, none, .bt (.t 0)⟩,
      ⟨some 4, none, .mv (.k (.int .i64 0)) none⟩])
   (.sq (.rg none [⟨some 5, none, .fa 2 (.t 2)⟩,
      ⟨some 6, none, .ld none (.t 5)⟩,
      ⟨some 7, none, .mv (.t 1) none⟩,
      ⟨some 8, none, .ca .pure false (.f fid_laws_szIntS) [.t 6, .t 7]⟩,
      ⟨some 1, none, .mv (.t 8) none⟩])
   (.sq (.sq (.rg none [⟨some 9, none, .mv (.t 1) none⟩,
       ⟨some 10, none, .bi .lss 0 (.t 9) (.k (.int .i64 0))⟩])
    (.cd (.t 10) (.sq (.rg none [⟨some 4, none, .mv (.k (.int .i64 (-1))) none⟩])
     (.rt))
    (.sk)))
   (.sq (.rg none [⟨some 11, none, .mv (.t 1) none⟩,
      ⟨some 4, none, .mv (.t 11) none⟩])
   (.rt))))) }
theorem k_laws_szNode : chkF Go.Proofs.Try.prog fid_laws_szNode c_laws_szNode = true := by kernel_rfl

def c_laws_szWire : F2 :=
  { nt := 13, res := [.t 4 [0]], body :=
   (.sq (.rg none [⟨some 2, none, .bt (.t 0)⟩,
      ⟨some 4, none, .mv (.k (.int .i64 0)) none⟩])
   (.sq (.rg none [⟨some 5, none, .mv (.t 1) none⟩,
      ⟨some 6, none, .fa 0 (.t 2)⟩,
      ⟨some 7, none, .ld none (.t 6)⟩,
      ⟨some 8, none, .lg (.t 7)⟩,
      ⟨some 9, none, .bi .sub 0 (.t 5) (.t 8)⟩,
      ⟨some 1, none, .mv (.t 9) none⟩])
   (.sq (.sq (.rg none [⟨some 10, none, .mv (.t 1) none⟩,
       ⟨some 11, none, .bi .lss 0 (.t 10) (.k (.int .i64 0))⟩])
    (.cd (.t 11) (.sq (.rg none [⟨some 4, none, .mv (.k (.int .i64 (-1))) none⟩])
     (.rt))
    (.sk)))
   (.sq (.rg none [⟨some 12, none, .mv (.t 1) none⟩,
      ⟨some 4, none, .mv (.t 12) none⟩])
   (.rt))))) }
theorem k_laws_szWire : chkF Go.Proofs.Try.prog fid_laws_szWire c_laws_szWire = true := by kernel_rfl

def c_laws_toNode : F2 :=
  { nt := 15, res := [.c 2 (some 3) [0, 0, 2]], body :=
   (.sq (.rg none [⟨some 1, none, .bt (.t 0)⟩,
      ⟨some 2, none, .al [.int .i64 0, .int .i64 0, .slice none 0 0] []⟩])
   (.sq (.rg none [⟨some 3, none, .al [.int .i64 0, .int .i64 0, .slice none 0 0] []⟩])
   (.sq (.rg none [⟨some 4, none, .fa 0 (.t 1)⟩,
      ⟨some 5, none, .ld none (.t 4)⟩,
      ⟨some 6, none, .fa 0 (.t 3)⟩,
      ⟨none, none, .st 1 (.t 6) (.t 5)⟩])
   (.sq (.rg none [⟨some 7, none, .fa 1 (.t 1)⟩,
      ⟨some 8, none, .ld none (.t 7)⟩,
      ⟨some 9, none, .fa 1 (.t 3)⟩,
      ⟨none, none, .st 1 (.t 9) (.t 8)⟩])
   (.sq (.rg none [⟨some 10, none, .fa 2 (.t 1)⟩,
      ⟨some 11, none, .ld none (.t 10)⟩,
      ⟨some 12, none, .ca .pure true (.f fid_laws_toIntS) [.t 11]⟩,
      ⟨some 13, none, .fa 2 (.t 3)⟩,
      ⟨none, none, .st 1 (.t 13) (.t 12)⟩])
   (.sq (.rg none [⟨some 14, none, .ld (some 3) (.t 3)⟩,
      ⟨none, none, .st 3 (.t 2) (.t 14)⟩])
   (.rt))))))) }
theorem k_laws_toNode : chkF Go.Proofs.Try.prog fid_laws_toNode c_laws_toNode = true := by kernel_rfl

def c_laws_toWire : F2 :=
  { nt := 11, res := [.c 2 (some 2) [0, 0]], body :=
   (.sq (.rg none [⟨some 1, none, .bt (.t 0)⟩,
      ⟨some 2, none, .al [.string ⟨#[]⟩, .int .i64 0] []⟩])
   (.sq (.rg none [⟨some 3, none, .al [.string ⟨#[]⟩, .int .i64 0] []⟩])
   (.sq (.rg none [⟨some 4, none, .fa 0 (.t 1)⟩,
      ⟨some 5, none, .ld none (.t 4)⟩,
      ⟨some 6, none, .fa 0 (.t 3)⟩,
      ⟨none, none, .st 1 (.t 6) (.t 5)⟩])
   (.sq (.rg none [⟨some 7, none, .fa 1 (.t 1)⟩,
      ⟨some 8, none, .ld none (.t 7)⟩,
      ⟨some 9, none, .fa 1 (.t 3)⟩,
      ⟨none, none, .st 1 (.t 9) (.t 8)⟩])
   (.sq (.rg none [⟨some 10, none, .ld (some 2) (.t 3)⟩,
      ⟨none, none, .st 2 (.t 2) (.t 10)⟩])
   (.rt)))))) }
theorem k_laws_toWire : chkF Go.Proofs.Try.prog fid_laws_toWire c_laws_toWire = true := by kernel_rfl

def c_laws_eqNode : F2 :=
  { nt := 21, res := [.t 4 [0]], body :=
   (.sq (.rg none [⟨some 2, none, .bt (.t 0)⟩,
      ⟨some 3, none, .bt (.t 1)⟩,
      ⟨some 4, none, .mv (.k (.bool false)) none⟩])
   (.sq (.sq (.rg none [⟨some 5, none, .fa 0 (.t 2)⟩,
       ⟨some 6, none, .ld none (.t 5)⟩,
       ⟨some 7, none, .fa 0 (.t 3)⟩,
       ⟨some 8, none, .ld none (.t 7)⟩,
       ⟨some 9, none, .bi .neq 0 (.t 6) (.t 8)⟩])
    (.cd (.t 9) (.sq (.rg none [⟨some 4, none, .mv (.k (.bool false)) none⟩])
     (.rt))
    (.sk)))
   (.sq (.sq (.rg none [⟨some 10, none, .fa 1 (.t 2)⟩,
       ⟨some 11, none, .ld none (.t 10)⟩,
       ⟨some 12, none, .fa 1 (.t 3)⟩,
       ⟨some 13, none, .ld none (.t 12)⟩,
       ⟨some 14, none, .bi .neq 0 (.t 11) (.t 13)⟩])
    (.cd (.t 14) (.sq (.rg none [⟨some 4, none, .mv (.k (.bool false)) none⟩])
     (.rt))
    (.sk)))
   (.sq (.sq (.rg none [⟨some 15, none, .fa 2 (.t 2)⟩,
       ⟨some 16, none, .ld none (.t 15)⟩,
       ⟨some 17, none, .fa 2 (.t 3)⟩,
       ⟨some 18, none, .ld none (.t 17)⟩,
       ⟨some 19, none, .ca .pure false (.f fid_laws_eqIntS) [.t 16, .t 18]⟩,
       ⟨some 20, none, .nt (.t 19)⟩])
    (.cd (.t 20) (.sq (.rg none [⟨some 4, none, .mv (.k (.bool false)) none⟩])
     (.rt))
    (.sk)))
   (.sq (.rg none [⟨some 4, none, .mv (.k (.bool true)) none⟩])
   (.rt)))))) }
theorem k_laws_eqNode : chkF Go.Proofs.Try.prog fid_laws_eqNode c_laws_eqNode = true := by kernel_rfl

def c_laws_eqWire : F2 :=
  { nt := 15, res := [.t 4 [0]], body :=
   (.sq (.rg none [⟨some 2, none, .bt (.t 0)⟩,
      ⟨some 3, none, .bt (.t 1)⟩,
      ⟨some 4, none, .mv (.k (.bool false)) none⟩])
   (.sq (.sq (.rg none [⟨some 5, none, .fa 0 (.t 2)⟩,
       ⟨some 6, none, .ld none (.t 5)⟩,
       ⟨some 7, none, .fa 0 (.t 3)⟩,
       ⟨some 8, none, .ld none (.t 7)⟩,
       ⟨some 9, none, .bi .neq 0 (.t 6) (.t 8)⟩])
    (.cd (.t 9) (.sq (.rg none [⟨some 4, none, .mv (.k (.bool false)) none⟩])
     (.rt))
    (.sk)))
   (.sq (.sq (.rg none [⟨some 10, none, .fa 1 (.t 2)⟩,
       ⟨some 11, none, .ld none (.t 10)⟩,
       ⟨some 12, none, .fa 1 (.t 3)⟩,
       ⟨some 13, none, .ld none (.t 12)⟩,
       ⟨some 14, none, .bi .neq 0 (.t 11) (.t 13)⟩])
    (.cd (.t 14) (.sq (.rg none [⟨some 4, none, .mv (.k (.bool false)) none⟩])
     (.rt))
    (.sk)))
   (.sq (.rg none [⟨some 4, none, .mv (.k (.bool true)) none⟩])
   (.rt))))) }
theorem k_laws_eqWire : chkF Go.Proofs.Try.prog fid_laws_eqWire c_laws_eqWire = true := by kernel_rfl

end Go.Fd

/-
  WHAT HOLDS OF THE HELPERS OF THE LAWS (printed by lawgen.py). Own work.
-/
namespace Go.Fd
set_option maxRecDepth 20000
theorem szN_le {n : Nat} {l : Int} (h : 0 ≤ l) : szN n l ≤ l := by unfold szN; split <;> omega
theorem szF_le {α : Type} {f : α → Int → Int} : ∀ (a : List α) (l : Int), (∀ x ∈ a, ∀ l : Int, 0 ≤ l → l ≤ 1048576 → f x l ≤ l) → 0 ≤ l → l ≤ 1048576 → szF f a l ≤ l
  | [], l, _, _, _ => Int.le_refl l
  | x :: r, l, hf, h0, h1 => by
    simp only [szF]
    have := hf x (by simp) l h0 h1
    split
    · omega
    · have h2 := szF_le r (f x l) (fun y hy => hf y (by simp [hy])) (by omega) (by omega)
      omega
theorem szL_le {α : Type} {f : α → Int → Int} (a : List α) {l : Int} (hf : ∀ x ∈ a, ∀ l : Int, 0 ≤ l → l ≤ 1048576 → f x l ≤ l) (h0 : 0 ≤ l) (h1 : l ≤ 1048576) : szL f a l ≤ l := by
  unfold szL
  split
  · omega
  · have := szF_le a (l - a.length) hf (by omega) (by omega)
    omega
theorem szTh_le {l m : Int} {g : Int → Int} (h0 : 0 ≤ l) (h : m ≤ l) (hg : 0 ≤ m → g m ≤ m) : szTh m g ≤ l := by
  unfold szTh
  split
  · omega
  · have := hg (by omega)
    omega
theorem g_szIntS : chkF Go.Proofs.Try.prog fid_laws_szIntS sz0 = true := by kernel_rfl
theorem sem_szIntS (a : List Int) (hl : a.length ≤ 9223372036854775807) (l : Int) (h0 : 0 ≤ l) (h1 : l ≤ 1048576) : szN a.length l ≤ l ∧ ∀ lvl S, Sem Go.Proofs.Try.prog fid_laws_szIntS lvl [.tr (.sl (rI a)), iI l] S (iI (szN a.length l)) S := by
  refine ⟨szN_le h0, fun lvl S => ?_⟩
  have := sem_sz0 g_szIntS (rI a) l (by simpa using hl) h0 h1 lvl S
  simpa using this
theorem sem_szNode (x : TNode) (hb : bdNode 9223372036854775807 x) (l : Int) (h0 : 0 ≤ l) (h1 : l ≤ 1048576) : szNode x l ≤ l ∧ ∀ lvl S, Sem Go.Proofs.Try.prog fid_laws_szNode lvl [.ag ((cNode x).map .tr), iI l] S (iI (szNode x l)) S := by
  have b0 : x.links.length ≤ 9223372036854775807 := hb
  refine ⟨?_, fun lvl S => ?_⟩
  · unfold szNode
    have q0 := sem_szIntS x.links b0 _ h0 h1
    refine szTh_le h0 q0.1 (fun p0 => ?_)
    have r0 : _ ≤ (1048576 : Int) := Int.le_trans q0.1 h1
    exact Int.le_refl _
  · refine sem_of_chk k_laws_szNode trivial ?_
    simp only [c_laws_szNode, cNode, List.map_cons, List.map_nil, r_cons, r_nil, r_kont, r_seq1, r_rg, r_sq, r_wpF, r_op1, r_go1, r_mv, r_bt, r_bt1, r_op3, r_fa, r_fa1, r_ltr, r_ld, r_ld1, r_kcn, r_sn0, r_sn1, r_ca, r_ca1, ptd, lk, pt, xv, kv, kc, params, ↓reduceIte, Nat.reduceEqDiff, reduceCtorEq, List.length_cons, List.length_nil, Nat.reduceAdd, Nat.reduceLeDiff, Nat.reduceLT, true_and, List.map_cons, List.map_nil, List.cons_append, List.nil_append, List.getElem?_cons_zero, List.drop_succ_cons, List.drop_zero, mens, men, List.all_cons, List.all_nil, isCell, Bool.and_true, Bool.true_and, Bool.and_self, cellsOf, totr, totrs, tocs, Nat.zero_add, and_self]
    unfold szNode
    have q0 := sem_szIntS x.links b0 l h0 h1
    refine kca_intro q0.2 ?_
    simp only [r_cons, r_nil, r_kont, r_seq1, r_seq3, r_fn2, r_sk, r_rg, r_sq, r_rt, r_cd, r_cd2, r_op1, r_go1, r_mv, r_bi, r_lti, r_fin, r_kfe1, r_kcx, r_exps0, r_exps1, r_kex, r_exp1, r_expv2, ptd, keyOf, freshK, lk, pt, addO, xv, kv, kc, ↓reduceIte, Nat.reduceEqDiff, Nat.reduceMul, reduceCtorEq, List.length_nil, Nat.reduceLT, true_and, and_true, decide_eq_true_eq, noSh, isSc, impv, or_true]
    obtain ⟨l1, hl1⟩ : ∃ m : Int, m = (szN x.links.length l) := ⟨_, rfl⟩
    have u1 : l1 ≤ l := by rw [hl1]; exact q0.1
    rw [← hl1]
    split
    · rename_i hn; rw [szTh, if_pos hn]
    rename_i hn0
    rw [szTh, if_neg hn0]
theorem g_szNodeS : chkF Go.Proofs.Try.prog fid_laws_szNodeS (szSl 3 (some 3) fid_laws_szNode) = true := by kernel_rfl
theorem sem_szNodeS (a : List TNode) (hl : a.length ≤ 9223372036854775807) (hb : ∀ y ∈ a, bdNode 9223372036854775807 y) (l : Int) (h0 : 0 ≤ l) (h1 : l ≤ 1048576) : szL szNode a l ≤ l ∧ ∀ lvl S, Sem Go.Proofs.Try.prog fid_laws_szNodeS lvl [.tr (.sl (a.map cNode)), iI l] S (iI (szL szNode a l)) S :=
  ⟨szL_le a (fun x hx l h0 h1 => (sem_szNode x (hb x hx) l h0 h1).1) h0 h1, fun lvl S => sem_szSl g_szNodeS cNode szNode cNode_len a l hl h0 h1 (fun x hx l h0 h1 => sem_szNode x (hb x hx) l h0 h1) lvl S⟩
theorem sem_szWire (x : TWire) (hb : bdWire 9223372036854775807 x) (l : Int) (h0 : 0 ≤ l) (h1 : l ≤ 1048576) : szWire x l ≤ l ∧ ∀ lvl S, Sem Go.Proofs.Try.prog fid_laws_szWire lvl [.ag ((cWire x).map .tr), iI l] S (iI (szWire x l)) S := by
  have b0 : x.name.size ≤ 9223372036854775807 := hb
  refine ⟨?_, fun lvl S => ?_⟩
  · unfold szWire
    refine szTh_le h0 (m := l - x.name.size) (by omega) (fun p0 => ?_)
    have r0 : _ ≤ (1048576 : Int) := Int.le_trans (show l - x.name.size ≤ l by omega) h1
    exact Int.le_refl _
  · refine sem_of_chk k_laws_szWire trivial ?_
    simp only [c_laws_szWire, cWire, List.map_cons, List.map_nil, r_cons, r_nil, r_kont, r_seq1, r_seq3, r_fn2, r_sk, r_rg, r_sq, r_rt, r_cd, r_cd2, r_wpF, r_op1, r_go1, r_mv, r_bt, r_bt1, r_bi, r_sub0, r_lti, r_lg, r_lg1, r_op3, r_fa, r_fa1, r_ltr, r_ld, r_ld1, r_fin, r_kfe1, r_kcx, r_exps0, r_exps1, r_kex, r_exp1, r_expv2, ptd, lk, pt, xv, kv, kc, params, ↓reduceIte, Nat.reduceEqDiff, reduceCtorEq, List.length_cons, List.length_nil, Nat.reduceAdd, Nat.reduceLeDiff, Nat.reduceLT, true_and, and_true, decide_eq_true_eq, List.map_cons, List.map_nil, List.getElem?_cons_zero, List.drop_zero, List.all_cons, List.all_nil, isCell, Bool.and_self, cellsOf, totr, totrs, tocs, Nat.zero_add]
    unfold szWire
    refine ⟨by rw [fits_i64]; omega, ?_⟩
    obtain ⟨l1, hl1⟩ : ∃ m : Int, m = l - x.name.size := ⟨_, rfl⟩
    have u1 : l1 ≤ l := by omega
    rw [← hl1]
    split
    · rename_i hn; rw [szTh, if_pos hn]
    rename_i hn0
    rw [szTh, if_neg hn0]
theorem g_szWireS : chkF Go.Proofs.Try.prog fid_laws_szWireS (szSl 2 (some 2) fid_laws_szWire) = true := by kernel_rfl
theorem sem_szWireS (a : List TWire) (hl : a.length ≤ 9223372036854775807) (hb : ∀ y ∈ a, bdWire 9223372036854775807 y) (l : Int) (h0 : 0 ≤ l) (h1 : l ≤ 1048576) : szL szWire a l ≤ l ∧ ∀ lvl S, Sem Go.Proofs.Try.prog fid_laws_szWireS lvl [.tr (.sl (a.map cWire)), iI l] S (iI (szL szWire a l)) S :=
  ⟨szL_le a (fun x hx l h0 h1 => (sem_szWire x (hb x hx) l h0 h1).1) h0 h1, fun lvl S => sem_szSl g_szWireS cWire szWire cWire_len a l hl h0 h1 (fun x hx l h0 h1 => sem_szWire x (hb x hx) l h0 h1) lvl S⟩
theorem g_szStringS : chkF Go.Proofs.Try.prog fid_laws_szStringS szSt = true := by kernel_rfl
theorem sem_szStringS (a : List ByteArray) (hl : a.length ≤ 9223372036854775807) (hb : ∀ y ∈ a, y.size ≤ 9223372036854775807) (l : Int) (h0 : 0 ≤ l) (h1 : l ≤ 1048576) : szL (fun x m => m - x.size) a l ≤ l ∧ ∀ lvl S, Sem Go.Proofs.Try.prog fid_laws_szStringS lvl [tS a, iI l] S (iI (szL (fun x m => m - x.size) a l)) S :=
  ⟨szL_le a (fun x _ l _ _ => by omega) h0 h1, fun lvl S => sem_szSt g_szStringS a l hl h0 h1 hb lvl S⟩
theorem sem_szBigraph (x : TBigraph) (hb : bdBigraph 9223372036854775807 x) (l : Int) (h0 : 0 ≤ l) (h1 : l ≤ 1048576) : szBigraph x l ≤ l ∧ ∀ lvl S, Sem Go.Proofs.Try.prog fid_laws_szBigraph lvl [.ag ((cBigraph x).map .tr), iI l] S (iI (szBigraph x l)) S := by
  obtain ⟨b0, b1, b2, b3, b4, b5, b6⟩ := hb
  refine ⟨?_, fun lvl S => ?_⟩
  · unfold szBigraph
    have q0 := sem_szNodeS x.nodes b0 b1 _ h0 h1
    refine szTh_le h0 q0.1 (fun p0 => ?_)
    have r0 : _ ≤ (1048576 : Int) := Int.le_trans q0.1 h1
    have q1 := sem_szIntS x.sites b2 _ p0 r0
    refine szTh_le p0 q1.1 (fun p1 => ?_)
    have r1 : _ ≤ (1048576 : Int) := Int.le_trans q1.1 r0
    have q2 := sem_szStringS x.outer b3 b4 _ p1 r1
    refine szTh_le p1 q2.1 (fun p2 => ?_)
    have r2 : _ ≤ (1048576 : Int) := Int.le_trans q2.1 r1
    have q3 := sem_szWireS x.inner b5 b6 _ p2 r2
    refine szTh_le p2 q3.1 (fun p3 => ?_)
    have r3 : _ ≤ (1048576 : Int) := Int.le_trans q3.1 r2
    exact Int.le_refl _
  · refine sem_of_chk k_laws_szBigraph trivial ?_
    simp only [c_laws_szBigraph, cBigraph, List.map_cons, List.map_nil, r_cons, r_nil, r_kont, r_seq1, r_rg, r_sq, r_wpF, r_op1, r_go1, r_mv, r_bt, r_bt1, r_op3, r_fa, r_fa1, r_ltr, r_ld, r_ld1, r_kcn, r_sn0, r_sn1, r_ca, r_ca1, ptd, lk, pt, xv, kv, kc, params, ↓reduceIte, Nat.reduceEqDiff, reduceCtorEq, List.length_cons, List.length_nil, Nat.reduceAdd, Nat.reduceLeDiff, Nat.reduceLT, true_and, List.map_cons, List.map_nil, List.cons_append, List.nil_append, List.getElem?_cons_zero, List.drop_succ_cons, List.drop_zero, mens, men, List.all_cons, List.all_nil, isCell, Bool.and_true, Bool.true_and, Bool.and_self, cellsOf, totr, totrs, tocs, Nat.zero_add, and_self]
    unfold szBigraph
    have q0 := sem_szNodeS x.nodes b0 b1 l h0 h1
    refine kca_intro q0.2 ?_
    simp only [r_cons, r_nil, r_kont, r_seq1, r_seq3, r_fn2, r_sk, r_rg, r_sq, r_rt, r_cd, r_cd2, r_op1, r_go1, r_mv, r_bi, r_lti, r_op3, r_fa, r_fa1, r_ltr, r_ld, r_ld1, r_kcn, r_sn0, r_sn1, r_ca, r_ca1, r_fin, r_kfe1, r_kcx, r_exps0, r_exps1, r_kex, r_exp1, r_expv2, ptd, keyOf, freshK, lk, pt, addO, xv, kv, kc, ↓reduceIte, Nat.reduceEqDiff, Nat.reduceMul, reduceCtorEq, List.length_nil, Nat.reduceLT, true_and, and_true, decide_eq_true_eq, List.map_cons, List.map_nil, List.cons_append, List.nil_append, List.getElem?_cons_zero, List.drop_succ_cons, List.drop_zero, mens, men, noSh, isSc, impv, or_true, and_self]
    obtain ⟨l1, hl1⟩ : ∃ m : Int, m = (szL szNode x.nodes l) := ⟨_, rfl⟩
    have u1 : l1 ≤ l := by rw [hl1]; exact q0.1
    rw [← hl1]
    split
    · rename_i hn; rw [szTh, if_pos hn]
    rename_i hn0
    rw [szTh, if_neg hn0]
    have q1 := sem_szIntS x.sites b2 l1 (show 0 ≤ l1 by omega) (show l1 ≤ 1048576 by omega)
    refine kca_intro q1.2 ?_
    simp only [r_cons, r_nil, r_kont, r_seq1, r_seq3, r_fn2, r_sk, r_rg, r_sq, r_rt, r_cd, r_cd2, r_op1, r_go1, r_mv, r_bi, r_lti, r_op3, r_fa, r_fa1, r_ltr, r_ld, r_ld1, r_kcn, r_sn0, r_sn1, r_ca, r_ca1, r_fin, r_kfe1, r_kcx, r_exps0, r_exps1, r_kex, r_exp1, r_expv2, ptd, keyOf, freshK, lk, pt, addO, xv, kv, kc, ↓reduceIte, Nat.reduceEqDiff, Nat.reduceMul, reduceCtorEq, List.length_nil, Nat.reduceLT, true_and, and_true, decide_eq_true_eq, List.map_cons, List.map_nil, List.cons_append, List.nil_append, List.getElem?_cons_zero, List.drop_succ_cons, List.drop_zero, mens, men, noSh, isSc, impv, or_true, and_self]
    obtain ⟨l2, hl2⟩ : ∃ m : Int, m = (szN x.sites.length l1) := ⟨_, rfl⟩
    have u2 : l2 ≤ l1 := by rw [hl2]; exact q1.1
    rw [← hl2]
    split
    · rename_i hn; rw [szTh, if_pos hn]
    rename_i hn1
    rw [szTh, if_neg hn1]
    have q2 := sem_szStringS x.outer b3 b4 l2 (show 0 ≤ l2 by omega) (show l2 ≤ 1048576 by omega)
    refine kca_intro q2.2 ?_
    simp only [r_cons, r_nil, r_kont, r_seq1, r_seq3, r_fn2, r_sk, r_rg, r_sq, r_rt, r_cd, r_cd2, r_op1, r_go1, r_mv, r_bi, r_lti, r_op3, r_fa, r_fa1, r_ltr, r_ld, r_ld1, r_kcn, r_sn0, r_sn1, r_ca, r_ca1, r_fin, r_kfe1, r_kcx, r_exps0, r_exps1, r_kex, r_exp1, r_expv2, ptd, keyOf, freshK, lk, pt, addO, xv, kv, kc, ↓reduceIte, Nat.reduceEqDiff, Nat.reduceMul, reduceCtorEq, List.length_nil, Nat.reduceLT, true_and, and_true, decide_eq_true_eq, List.map_cons, List.map_nil, List.cons_append, List.nil_append, List.getElem?_cons_zero, List.drop_succ_cons, List.drop_zero, mens, men, noSh, isSc, impv, or_true, and_self]
    obtain ⟨l3, hl3⟩ : ∃ m : Int, m = (szL (fun x m => m - x.size) x.outer l2) := ⟨_, rfl⟩
    have u3 : l3 ≤ l2 := by rw [hl3]; exact q2.1
    rw [← hl3]
    split
    · rename_i hn; rw [szTh, if_pos hn]
    rename_i hn2
    rw [szTh, if_neg hn2]
    have q3 := sem_szWireS x.inner b5 b6 l3 (show 0 ≤ l3 by omega) (show l3 ≤ 1048576 by omega)
    refine kca_intro q3.2 ?_
    simp only [r_cons, r_nil, r_kont, r_seq1, r_seq3, r_fn2, r_sk, r_rg, r_sq, r_rt, r_cd, r_cd2, r_op1, r_go1, r_mv, r_bi, r_lti, r_fin, r_kfe1, r_kcx, r_exps0, r_exps1, r_kex, r_exp1, r_expv2, ptd, keyOf, freshK, lk, pt, addO, xv, kv, kc, ↓reduceIte, Nat.reduceEqDiff, Nat.reduceMul, reduceCtorEq, List.length_nil, Nat.reduceLT, true_and, and_true, decide_eq_true_eq, noSh, isSc, impv, or_true]
    obtain ⟨l4, hl4⟩ : ∃ m : Int, m = (szL szWire x.inner l3) := ⟨_, rfl⟩
    have u4 : l4 ≤ l3 := by rw [hl4]; exact q3.1
    rw [← hl4]
    split
    · rename_i hn; rw [szTh, if_pos hn]
    rename_i hn3
    rw [szTh, if_neg hn3]
theorem g_szBigraphS : chkF Go.Proofs.Try.prog fid_laws_szBigraphS (szSl 6 (some 6) fid_laws_szBigraph) = true := by kernel_rfl
theorem sem_szBigraphS (a : List TBigraph) (hl : a.length ≤ 9223372036854775807) (hb : ∀ y ∈ a, bdBigraph 9223372036854775807 y) (l : Int) (h0 : 0 ≤ l) (h1 : l ≤ 1048576) : szL szBigraph a l ≤ l ∧ ∀ lvl S, Sem Go.Proofs.Try.prog fid_laws_szBigraphS lvl [.tr (.sl (a.map cBigraph)), iI l] S (iI (szL szBigraph a l)) S :=
  ⟨szL_le a (fun x hx l h0 h1 => (sem_szBigraph x (hb x hx) l h0 h1).1) h0 h1, fun lvl S => sem_szSl g_szBigraphS cBigraph szBigraph cBigraph_len a l hl h0 h1 (fun x hx l h0 h1 => sem_szBigraph x (hb x hx) l h0 h1) lvl S⟩
theorem g_szIntA3S : chkF Go.Proofs.Try.prog fid_laws_szIntA3S sz0 = true := by kernel_rfl
theorem sem_szIntA3S (a : List (Int × Int × Int)) (hl : a.length ≤ 9223372036854775807) (l : Int) (h0 : 0 ≤ l) (h1 : l ≤ 1048576) : szN a.length l ≤ l ∧ ∀ lvl S, Sem Go.Proofs.Try.prog fid_laws_szIntA3S lvl [.tr (.sl (a.map cA3)), iI l] S (iI (szN a.length l)) S := by
  refine ⟨szN_le h0, fun lvl S => ?_⟩
  have := sem_sz0 g_szIntA3S (a.map cA3) l (by simpa using hl) h0 h1 lvl S
  simpa using this
theorem sem_szSystem (x : TSystem) (hb : bdSystem 9223372036854775807 x) (l : Int) (h0 : 0 ≤ l) (h1 : l ≤ 1048576) : szSystem x l ≤ l ∧ ∀ lvl S, Sem Go.Proofs.Try.prog fid_laws_szSystem lvl [.ag ((cSystem x).map .tr), iI l] S (iI (szSystem x l)) S := by
  obtain ⟨b0, b1, b2⟩ := hb
  refine ⟨?_, fun lvl S => ?_⟩
  · unfold szSystem
    have q0 := sem_szBigraphS x.states b0 b1 _ h0 h1
    refine szTh_le h0 q0.1 (fun p0 => ?_)
    have r0 : _ ≤ (1048576 : Int) := Int.le_trans q0.1 h1
    have q1 := sem_szIntA3S x.steps b2 _ p0 r0
    refine szTh_le p0 q1.1 (fun p1 => ?_)
    have r1 : _ ≤ (1048576 : Int) := Int.le_trans q1.1 r0
    exact Int.le_refl _
  · refine sem_of_chk k_laws_szSystem trivial ?_
    simp only [c_laws_szSystem, cSystem, List.map_cons, List.map_nil, r_cons, r_nil, r_kont, r_seq1, r_rg, r_sq, r_wpF, r_op1, r_go1, r_mv, r_bt, r_bt1, r_op3, r_fa, r_fa1, r_ltr, r_ld, r_ld1, r_kcn, r_sn0, r_sn1, r_ca, r_ca1, ptd, lk, pt, xv, kv, kc, params, ↓reduceIte, Nat.reduceEqDiff, reduceCtorEq, List.length_cons, List.length_nil, Nat.reduceAdd, Nat.reduceLeDiff, Nat.reduceLT, true_and, List.map_cons, List.map_nil, List.cons_append, List.nil_append, List.getElem?_cons_zero, List.drop_zero, mens, men, List.all_cons, List.all_nil, isCell, Bool.and_true, Bool.and_self, cellsOf, totr, totrs, tocs, Nat.zero_add, and_self]
    unfold szSystem
    have q0 := sem_szBigraphS x.states b0 b1 l h0 h1
    refine kca_intro q0.2 ?_
    simp only [r_cons, r_nil, r_kont, r_seq1, r_seq3, r_fn2, r_sk, r_rg, r_sq, r_rt, r_cd, r_cd2, r_op1, r_go1, r_mv, r_bi, r_lti, r_op3, r_fa, r_fa1, r_ltr, r_ld, r_ld1, r_kcn, r_sn0, r_sn1, r_ca, r_ca1, r_fin, r_kfe1, r_kcx, r_exps0, r_exps1, r_kex, r_exp1, r_expv2, ptd, keyOf, freshK, lk, pt, addO, xv, kv, kc, ↓reduceIte, Nat.reduceEqDiff, Nat.reduceMul, reduceCtorEq, List.length_nil, Nat.reduceLT, true_and, and_true, decide_eq_true_eq, List.map_cons, List.map_nil, List.cons_append, List.nil_append, List.getElem?_cons_zero, List.drop_succ_cons, List.drop_zero, mens, men, noSh, isSc, impv, or_true, and_self]
    obtain ⟨l1, hl1⟩ : ∃ m : Int, m = (szL szBigraph x.states l) := ⟨_, rfl⟩
    have u1 : l1 ≤ l := by rw [hl1]; exact q0.1
    rw [← hl1]
    split
    · rename_i hn; rw [szTh, if_pos hn]
    rename_i hn0
    rw [szTh, if_neg hn0]
    have q1 := sem_szIntA3S x.steps b2 l1 (show 0 ≤ l1 by omega) (show l1 ≤ 1048576 by omega)
    refine kca_intro q1.2 ?_
    simp only [r_cons, r_nil, r_kont, r_seq1, r_seq3, r_fn2, r_sk, r_rg, r_sq, r_rt, r_cd, r_cd2, r_op1, r_go1, r_mv, r_bi, r_lti, r_fin, r_kfe1, r_kcx, r_exps0, r_exps1, r_kex, r_exp1, r_expv2, ptd, keyOf, freshK, lk, pt, addO, xv, kv, kc, ↓reduceIte, Nat.reduceEqDiff, Nat.reduceMul, reduceCtorEq, List.length_nil, Nat.reduceLT, true_and, and_true, decide_eq_true_eq, noSh, isSc, impv, or_true]
    obtain ⟨l2, hl2⟩ : ∃ m : Int, m = (szN x.steps.length l1) := ⟨_, rfl⟩
    have u2 : l2 ≤ l1 := by rw [hl2]; exact q1.1
    rw [← hl2]
    split
    · rename_i hn; rw [szTh, if_pos hn]
    rename_i hn1
    rw [szTh, if_neg hn1]
end Go.Fd
