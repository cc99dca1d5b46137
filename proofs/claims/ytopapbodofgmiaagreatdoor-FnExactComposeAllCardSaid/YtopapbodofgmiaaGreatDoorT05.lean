/-
  PLAIN WORDS FOR THE DATA, AND WHAT HOLDS OF THE HELPERS OF THE LAWS THAT ARE ALIKE FOR ALL KINDS OF SLICES. Own work.
-/
import Derived.Test.YtopapbodofgmiaaGreatDoorT04
import Derived.Test.YtopapbodofgmiaaGreatDoorProg
import Derived.KernelRfl
import Derived.Shelf.Sort.AssemblysIn
import Derived.Shelf.Strings.SlTrimAscii
set_option linter.all false
namespace Go.Fd
set_option maxRecDepth 10000

theorem ite_of {c : Prop} [Decidable c] {p q : Prop} (h1 : c → p) (h2 : ¬ c → q) : if c then p else q := by
  split
  · exact h1 ‹_›
  · exact h2 ‹_›
def szN (n : Nat) (left : Int) : Int := if left - n < 0 then -1 else left - n
def szF {α : Type} (f : α → Int → Int) : List α → Int → Int
  | [], l => l
  | x :: r, l => if f x l < 0 then -1 else szF f r (f x l)
def szL {α : Type} (f : α → Int → Int) (a : List α) (left : Int) : Int := if left - a.length < 0 then -1 else szF f a (left - a.length)

def sz0 : F2 :=
  { nt := 12, res := [.t 4 [0]], body :=
   (.sq (.rg none [⟨some 4, none, .mv (.k (.int .i64 0)) none⟩])
   (.sq (.rg none [⟨some 5, none, .mv (.t 1) none⟩,
      ⟨some 6, none, .mv (.t 0) none⟩,
      ⟨some 7, none, .ln (.t 6)⟩,
      ⟨some 8, none, .bi .sub 0 (.t 5) (.t 7)⟩,
      ⟨some 1, none, .mv (.t 8) none⟩])
   (.sq (.sq (.rg none [⟨some 9, none, .mv (.t 1) none⟩,
       ⟨some 10, none, .bi .lss 0 (.t 9) (.k (.int .i64 0))⟩])
    (.cd (.t 10) (.sq (.rg none [⟨some 4, none, .mv (.k (.int .i64 (-1))) none⟩])
     (.rt))
    (.sk)))
   (.sq (.rg none [⟨some 11, none, .mv (.t 1) none⟩,
      ⟨some 4, none, .mv (.t 11) none⟩])
   (.rt))))) }
theorem sem_sz0 {P : Program} {fid : FuncId} (hc : chkF P fid sz0 = true) (es : Row) (left : Int) (h : es.length ≤ 9223372036854775807) (h0 : 0 ≤ left) (h1 : left ≤ 1048576) (lvl : Nat) (S : Sto) :
    Sem P fid lvl [.tr (.sl es), iI left] S (iI (szN es.length left)) S := by
  refine sem_of_chk hc trivial ?_
  simp only [sz0, EVA, ↓reduceIte, Nat.reduceEqDiff, Nat.reduceMul, reduceCtorEq, Nat.reduceAdd, Nat.reduceSub, Nat.reduceLeDiff, Nat.reduceLT, Int.reduceToNat, Int.reduceLE, Int.reduceLT, mens, men]
  refine ⟨by rw [fits_i64]; omega, ?_⟩
  unfold szN
  split <;> rfl

def szSl (k : Nat) (m : Option Nat) (fid : FuncId) : F2 :=
  { nt := 27, res := [.t 4 [0]], body :=
   (.sq (.rg none [⟨some 4, none, .mv (.k (.int .i64 0)) none⟩])
   (.sq (.rg none [⟨some 6, none, .mv (.t 1) none⟩,
      ⟨some 7, none, .mv (.t 0) none⟩,
      ⟨some 8, none, .ln (.t 7)⟩,
      ⟨some 9, none, .bi .sub 0 (.t 6) (.t 8)⟩,
      ⟨some 1, none, .mv (.t 9) none⟩])
   (.sq (.sq (.rg none [⟨some 10, none, .mv (.t 1) none⟩,
       ⟨some 11, none, .bi .lss 0 (.t 10) (.k (.int .i64 0))⟩])
    (.cd (.t 11) (.sq (.rg none [⟨some 4, none, .mv (.k (.int .i64 (-1))) none⟩])
     (.rt))
    (.sk)))
   (.sq (.sq (.rg none [⟨some 5, none, .mv (.k (.int .i64 0)) none⟩])
    (.bl 0 (.lp [0, 1, 5] [] (.sq (.sq (.rg none [⟨some 12, none, .mv (.t 5) none⟩,
          ⟨some 13, none, .mv (.t 0) none⟩,
          ⟨some 14, none, .ln (.t 13)⟩,
          ⟨some 15, none, .bi .lss 0 (.t 12) (.t 14)⟩])
       (.cd (.t 15) (.sk)
       (.ex 0)))
      (.sq (.bl 1 (.sq (.rg none [⟨some 18, none, .mv (.t 0) none⟩,
           ⟨some 19, none, .mv (.t 5) none⟩,
           ⟨some 20, none, .ia k (.t 18) (.t 19)⟩,
           ⟨some 21, none, .ld m (.t 20)⟩,
           ⟨some 22, none, .mv (.t 1) none⟩,
           ⟨some 23, none, .ca .pure false (.f fid) [.t 21, .t 22]⟩,
           ⟨some 1, none, .mv (.t 23) none⟩])
        (.sq (.rg none [⟨some 24, none, .mv (.t 1) none⟩,
           ⟨some 25, none, .bi .lss 0 (.t 24) (.k (.int .i64 0))⟩])
        (.cd (.t 25) (.sq (.rg none [⟨some 4, none, .mv (.k (.int .i64 (-1))) none⟩])
         (.rt))
        (.sk)))))
      (.rg none [⟨some 16, none, .mv (.t 5) none⟩,
        ⟨some 17, none, .bi .add 0 (.t 16) (.k (.int .i64 1))⟩,
        ⟨some 5, none, .mv (.t 17) none⟩]))))))
   (.sq (.rg none [⟨some 26, none, .mv (.t 1) none⟩,
      ⟨some 4, none, .mv (.t 26) none⟩])
   (.rt)))))) }
theorem sem_szSl {P : Program} {fid fe : FuncId} {k : Nat} (hc : chkF P fid (szSl k (some k) fe) = true) {α : Type} (c : α → List Tr) (f : α → Int → Int) (hk : ∀ x, (c x).length = k) (a : List α) (left : Int) (h : a.length ≤ 9223372036854775807) (h0 : 0 ≤ left) (h1 : left ≤ 1048576)
    (hf : ∀ x ∈ a, ∀ l : Int, 0 ≤ l → l ≤ 1048576 → f x l ≤ l ∧ ∀ lvl S, Sem P fe lvl [.ag ((c x).map .tr), iI l] S (iI (f x l)) S) (lvl : Nat) (S : Sto) :
    Sem P fid lvl [.tr (.sl (a.map c)), iI left] S (iI (szL f a left)) S := by
  refine sem_of_chk hc trivial ?_
  simp only [szSl, List.length_map, EVA, ↓reduceIte, Nat.reduceEqDiff, Nat.reduceMul, reduceCtorEq, Nat.reduceAdd, Nat.reduceSub, Nat.reduceLeDiff, Nat.reduceLT, Int.reduceToNat, Int.reduceLE, Int.reduceLT, mens, men]
  refine ⟨by rw [fits_i64]; omega, ?_⟩
  unfold szL
  split
  · rfl
  · rename_i hlt
    generalize hr : szF f a (left - a.length) = total
    refine wp_count (α := Int) a.length (fun j l => ⟨lvl, [(0, .tr (.sl (a.map c))), (1, iI l), (5, iI j)], [], S⟩) (fun j l => 0 ≤ l ∧ l ≤ 1048576 ∧ szF f (a.drop j) l = total) (left - a.length) ⟨by simp only [EVA, ↓reduceIte, Nat.reduceEqDiff, Nat.reduceMul, reduceCtorEq, Nat.reduceAdd, Nat.reduceSub, Nat.reduceLeDiff, Nat.reduceLT, Int.reduceToNat, Int.reduceLE, Int.reduceLT, mens, men], by (simp only [EVA, ↓reduceIte, Nat.reduceEqDiff, Nat.reduceMul, reduceCtorEq, Nat.reduceAdd, Nat.reduceSub, Nat.reduceLeDiff, Nat.reduceLT, Int.reduceToNat, Int.reduceLE, Int.reduceLT, mens, men]) <;> rfl⟩ ⟨by omega, by omega, hr⟩ ?_
    intro j l hj ⟨hl0, hl1, hl⟩
    simp only [List.length_map, EVA, ↓reduceIte, Nat.reduceEqDiff, Nat.reduceMul, reduceCtorEq, Nat.reduceAdd, Nat.reduceSub, Nat.reduceLeDiff, Nat.reduceLT, Int.reduceToNat, Int.reduceLE, Int.reduceLT, mens, men]
    split
    · rename_i hlt
      have hja : j < a.length := by omega
      have ga : (a.map c)[j]? = some (c a[j]) := by simp [hja]
      have hkk := hk a[j]
      have htk : (c a[j]).take k = c a[j] := List.take_of_length_le (by omega)
      rw [List.drop_eq_getElem_cons hja] at hl
      obtain ⟨hle, hsem⟩ := hf a[j] (List.getElem_mem hja) l hl0 hl1
      simp only [ga, hkk, htk, Int.natCast_nonneg, Nat.le_refl, EVA, ↓reduceIte, Nat.reduceEqDiff, Nat.reduceMul, reduceCtorEq, Nat.reduceAdd, Nat.reduceSub, Nat.reduceLeDiff, Nat.reduceLT, Int.reduceToNat, Int.reduceLE, Int.reduceLT, mens, men]
      refine kca_intro hsem ?_
      simp only [EVA, ↓reduceIte, Nat.reduceEqDiff, Nat.reduceMul, reduceCtorEq, Nat.reduceAdd, Nat.reduceSub, Nat.reduceLeDiff, Nat.reduceLT, Int.reduceToNat, Int.reduceLE, Int.reduceLT, mens, men]
      split
      · rename_i hneg
        simp only [szF, if_pos hneg] at hl
        rw [hl]
      · rename_i hneg
        simp only [szF, if_neg hneg] at hl
        refine ⟨by rw [fits_i64]; omega, cntJ_intro (f a[j] l) hja rfl ⟨by omega, by omega, hl⟩⟩
    · rename_i hge
      have : j = a.length := by omega
      subst this
      simp only [List.drop_length, szF] at hl
      rw [hl]

def szSt : F2 :=
  { nt := 28, res := [.t 4 [0]], body :=
   (.sq (.rg none [⟨some 4, none, .mv (.k (.int .i64 0)) none⟩])
   (.sq (.rg none [⟨some 6, none, .mv (.t 1) none⟩,
      ⟨some 7, none, .mv (.t 0) none⟩,
      ⟨some 8, none, .ln (.t 7)⟩,
      ⟨some 9, none, .bi .sub 0 (.t 6) (.t 8)⟩,
      ⟨some 1, none, .mv (.t 9) none⟩])
   (.sq (.sq (.rg none [⟨some 10, none, .mv (.t 1) none⟩,
       ⟨some 11, none, .bi .lss 0 (.t 10) (.k (.int .i64 0))⟩])
    (.cd (.t 11) (.sq (.rg none [⟨some 4, none, .mv (.k (.int .i64 (-1))) none⟩])
     (.rt))
    (.sk)))
   (.sq (.sq (.rg none [⟨some 5, none, .mv (.k (.int .i64 0)) none⟩])
    (.bl 0 (.lp [0, 1, 5] [] (.sq (.sq (.rg none [⟨some 12, none, .mv (.t 5) none⟩,
          ⟨some 13, none, .mv (.t 0) none⟩,
          ⟨some 14, none, .ln (.t 13)⟩,
          ⟨some 15, none, .bi .lss 0 (.t 12) (.t 14)⟩])
       (.cd (.t 15) (.sk)
       (.ex 0)))
      (.sq (.bl 1 (.sq (.rg none [⟨some 18, none, .mv (.t 1) none⟩,
           ⟨some 19, none, .mv (.t 0) none⟩,
           ⟨some 20, none, .mv (.t 5) none⟩,
           ⟨some 21, none, .ia 1 (.t 19) (.t 20)⟩,
           ⟨some 22, none, .ld none (.t 21)⟩,
           ⟨some 23, none, .lg (.t 22)⟩,
           ⟨some 24, none, .bi .sub 0 (.t 18) (.t 23)⟩,
           ⟨some 1, none, .mv (.t 24) none⟩])
        (.sq (.rg none [⟨some 25, none, .mv (.t 1) none⟩,
           ⟨some 26, none, .bi .lss 0 (.t 25) (.k (.int .i64 0))⟩])
        (.cd (.t 26) (.sq (.rg none [⟨some 4, none, .mv (.k (.int .i64 (-1))) none⟩])
         (.rt))
        (.sk)))))
      (.rg none [⟨some 16, none, .mv (.t 5) none⟩,
        ⟨some 17, none, .bi .add 0 (.t 16) (.k (.int .i64 1))⟩,
        ⟨some 5, none, .mv (.t 17) none⟩]))))))
   (.sq (.rg none [⟨some 27, none, .mv (.t 1) none⟩,
      ⟨some 4, none, .mv (.t 27) none⟩])
   (.rt)))))) }
theorem sem_szSt {P : Program} {fid : FuncId} (hc : chkF P fid szSt = true) (a : List ByteArray) (left : Int) (h : a.length ≤ 9223372036854775807) (h0 : 0 ≤ left) (h1 : left ≤ 1048576)
    (hf : ∀ x ∈ a, x.size ≤ 9223372036854775807) (lvl : Nat) (S : Sto) :
    Sem P fid lvl [tS a, iI left] S (iI (szL (fun x l => l - x.size) a left)) S := by
  refine sem_of_chk hc trivial ?_
  simp only [szSt, List.length_map, EVA, ↓reduceIte, Nat.reduceEqDiff, Nat.reduceMul, reduceCtorEq, Nat.reduceAdd, Nat.reduceSub, Nat.reduceLeDiff, Nat.reduceLT, Int.reduceToNat, Int.reduceLE, Int.reduceLT, mens, men]
  refine ⟨by rw [fits_i64]; omega, ?_⟩
  unfold szL
  split
  · rfl
  · rename_i hlt
    generalize hr : szF (fun (x : ByteArray) l => l - x.size) a (left - a.length) = total
    refine wp_count (α := Int) a.length (fun j l => ⟨lvl, [(0, tS a), (1, iI l), (5, iI j)], [], S⟩) (fun j l => 0 ≤ l ∧ l ≤ 1048576 ∧ szF (fun (x : ByteArray) l => l - x.size) (a.drop j) l = total) (left - a.length) ⟨by simp only [EVA, ↓reduceIte, Nat.reduceEqDiff, Nat.reduceMul, reduceCtorEq, Nat.reduceAdd, Nat.reduceSub, Nat.reduceLeDiff, Nat.reduceLT, Int.reduceToNat, Int.reduceLE, Int.reduceLT, mens, men], by (simp only [EVA, ↓reduceIte, Nat.reduceEqDiff, Nat.reduceMul, reduceCtorEq, Nat.reduceAdd, Nat.reduceSub, Nat.reduceLeDiff, Nat.reduceLT, Int.reduceToNat, Int.reduceLE, Int.reduceLT, mens, men]) <;> rfl⟩ ⟨by omega, by omega, hr⟩ ?_
    intro j l hj ⟨hl0, hl1, hl⟩
    simp only [List.length_map, EVA, ↓reduceIte, Nat.reduceEqDiff, Nat.reduceMul, reduceCtorEq, Nat.reduceAdd, Nat.reduceSub, Nat.reduceLeDiff, Nat.reduceLT, Int.reduceToNat, Int.reduceLE, Int.reduceLT, mens, men]
    split
    · rename_i hlt
      have hja : j < a.length := by omega
      have ga : (rS a)[j]? = some [ts a[j]] := by simp [hja]
      rw [List.drop_eq_getElem_cons hja] at hl
      have hs := hf a[j] (List.getElem_mem hja)
      simp only [ga, Int.natCast_nonneg, Nat.le_refl, EVA, ↓reduceIte, Nat.reduceEqDiff, Nat.reduceMul, reduceCtorEq, Nat.reduceAdd, Nat.reduceSub, Nat.reduceLeDiff, Nat.reduceLT, Int.reduceToNat, Int.reduceLE, Int.reduceLT, mens, men]
      refine ⟨by rw [fits_i64]; omega, ?_⟩
      split
      · rename_i hneg
        simp only [szF, if_pos hneg] at hl
        rw [hl]
      · rename_i hneg
        simp only [szF, if_neg hneg] at hl
        refine ⟨by rw [fits_i64]; omega, cntJ_intro (l - a[j].size) hja rfl ⟨by omega, by omega, hl⟩⟩
    · rename_i hge
      have : j = a.length := by omega
      subst this
      simp only [List.drop_length, szF] at hl
      rw [hl]

def eqSl (k : Nat) (m : Option Nat) (fid : FuncId) : F2 :=
  { nt := 27, res := [.t 4 [0]], body :=
   (.sq (.rg none [⟨some 4, none, .mv (.k (.bool false)) none⟩])
   (.sq (.sq (.rg none [⟨some 6, none, .mv (.t 0) none⟩,
       ⟨some 7, none, .ln (.t 6)⟩,
       ⟨some 8, none, .mv (.t 1) none⟩,
       ⟨some 9, none, .ln (.t 8)⟩,
       ⟨some 10, none, .bi .neq 0 (.t 7) (.t 9)⟩])
    (.cd (.t 10) (.sq (.rg none [⟨some 4, none, .mv (.k (.bool false)) none⟩])
     (.rt))
    (.sk)))
   (.sq (.sq (.rg none [⟨some 5, none, .mv (.k (.int .i64 0)) none⟩])
    (.bl 0 (.lp [0, 1, 5] [] (.sq (.sq (.rg none [⟨some 11, none, .mv (.t 5) none⟩,
          ⟨some 12, none, .mv (.t 0) none⟩,
          ⟨some 13, none, .ln (.t 12)⟩,
          ⟨some 14, none, .bi .lss 0 (.t 11) (.t 13)⟩])
       (.cd (.t 14) (.sk)
       (.ex 0)))
      (.sq (.bl 1 (.sq (.rg (some 0) [⟨some 17, none, .mv (.t 0) none⟩,
           ⟨some 18, none, .mv (.t 5) none⟩,
           ⟨some 19, none, .ia k (.t 17) (.t 18)⟩,
           ⟨some 20, none, .ld m (.t 19)⟩,
           ⟨some 21, none, .mv (.t 1) none⟩,
           ⟨some 22, none, .mv (.t 5) none⟩,
           ⟨some 23, none, .ia k (.t 21) (.t 22)⟩,
           ⟨some 24, none, .ld m (.t 23)⟩,
           ⟨some 25, none, .ca .pure false (.f fid) [.t 20, .t 24]⟩,
           ⟨some 26, none, .nt (.t 25)⟩])
        (.cd (.t 26) (.sq (.rg none [⟨some 4, none, .mv (.k (.bool false)) none⟩])
         (.rt))
        (.sk))))
      (.rg none [⟨some 15, none, .mv (.t 5) none⟩,
        ⟨some 16, none, .bi .add 0 (.t 15) (.k (.int .i64 1))⟩,
        ⟨some 5, none, .mv (.t 16) none⟩]))))))
   (.sq (.rg none [⟨some 4, none, .mv (.k (.bool true)) none⟩])
   (.rt))))) }
theorem list_ne_at {α : Type} {a b : List α} {j : Nat} (ha : j < a.length) (hb : j < b.length) (h : a[j] ≠ b[j]) : a ≠ b := by
  intro e; subst e; exact h rfl
theorem list_eq_all {α : Type} {a b : List α} (hl : a.length = b.length) (h : a.take a.length = b.take a.length) : a = b := by
  rw [List.take_length, hl, List.take_length] at h; exact h
theorem take_succ_eq {α : Type} {a b : List α} {j : Nat} (ha : j < a.length) (hb : j < b.length) (h : a.take j = b.take j) (e : a[j] = b[j]) : a.take (j + 1) = b.take (j + 1) := by
  rw [List.take_succ_eq_append_getElem ha, List.take_succ_eq_append_getElem hb, h, e]
theorem sem_eqSl {P : Program} {fid fe : FuncId} {k : Nat} (hc : chkF P fid (eqSl k (some k) fe) = true) {α : Type} [DecidableEq α] (c : α → List Tr) (hk : ∀ x, (c x).length = k) (a b : List α) (ha : a.length ≤ 9223372036854775807)
    (hf : ∀ x ∈ a, ∀ y ∈ b, ∀ lvl S, Sem P fe lvl [.ag ((c x).map .tr), .ag ((c y).map .tr)] S (iB (decide (x = y))) S) (lvl : Nat) (S : Sto) :
    Sem P fid lvl [.tr (.sl (a.map c)), .tr (.sl (b.map c))] S (iB (decide (a = b))) S := by
  refine sem_of_chk hc trivial ?_
  simp only [eqSl, List.length_map, EVA, ↓reduceIte, Nat.reduceEqDiff, Nat.reduceMul, reduceCtorEq, Nat.reduceAdd, Nat.reduceSub, Nat.reduceLeDiff, Nat.reduceLT, Int.reduceToNat, Int.reduceLE, Int.reduceLT, mens, men]
  split
  · rename_i h
    have : ¬ a = b := fun e => h (by rw [e])
    simp [this]
  · rename_i h
    have hlen : a.length = b.length := by omega
    refine wp_count (α := Unit) a.length (fun j _ => ⟨lvl, [(0, .tr (.sl (a.map c))), (1, .tr (.sl (b.map c))), (5, iI j)], [], S⟩) (fun j _ => a.take j = b.take j) () ⟨by simp only [EVA, ↓reduceIte, Nat.reduceEqDiff, Nat.reduceMul, reduceCtorEq, Nat.reduceAdd, Nat.reduceSub, Nat.reduceLeDiff, Nat.reduceLT, Int.reduceToNat, Int.reduceLE, Int.reduceLT, mens, men], by (simp only [EVA, ↓reduceIte, Nat.reduceEqDiff, Nat.reduceMul, reduceCtorEq, Nat.reduceAdd, Nat.reduceSub, Nat.reduceLeDiff, Nat.reduceLT, Int.reduceToNat, Int.reduceLE, Int.reduceLT, mens, men]) <;> rfl⟩ rfl ?_
    intro j _ hj hA
    simp only [List.length_map, EVA, ↓reduceIte, Nat.reduceEqDiff, Nat.reduceMul, reduceCtorEq, Nat.reduceAdd, Nat.reduceSub, Nat.reduceLeDiff, Nat.reduceLT, Int.reduceToNat, Int.reduceLE, Int.reduceLT, mens, men]
    split
    · rename_i hlt
      have hja : j < a.length := by omega
      have hjb : j < b.length := by omega
      have ga : (a.map c)[j]? = some (c a[j]) := by simp [hja]
      have gb : (b.map c)[j]? = some (c b[j]) := by simp [hjb]
      have hka := hk a[j]
      have hkb := hk b[j]
      have hta : (c a[j]).take k = c a[j] := List.take_of_length_le (by omega)
      have htb : (c b[j]).take k = c b[j] := List.take_of_length_le (by omega)
      have hsem := hf a[j] (List.getElem_mem hja) b[j] (List.getElem_mem hjb)
      simp only [ga, gb, hka, hkb, hta, htb, Int.natCast_nonneg, Nat.le_refl, EVA, ↓reduceIte, Nat.reduceEqDiff, Nat.reduceMul, reduceCtorEq, Nat.reduceAdd, Nat.reduceSub, Nat.reduceLeDiff, Nat.reduceLT, Int.reduceToNat, Int.reduceLE, Int.reduceLT, mens, men]
      refine kca_intro hsem ?_
      simp only [Bool.not_eq_true', EVA, ↓reduceIte, Nat.reduceEqDiff, Nat.reduceMul, reduceCtorEq, Nat.reduceAdd, Nat.reduceSub, Nat.reduceLeDiff, Nat.reduceLT, Int.reduceToNat, Int.reduceLE, Int.reduceLT, mens, men]
      split
      · rename_i hne
        have : ¬ a = b := list_ne_at hja hjb (by simpa using hne)
        simp [this]
      · rename_i he
        refine ⟨by rw [fits_i64]; omega, cntJ_intro () hja rfl (take_succ_eq hja hjb hA (by simpa using he))⟩
    · rename_i hge
      have : j = a.length := by omega
      subst this
      have : a = b := list_eq_all hlen hA
      simp [this]
def eqS1 : F2 :=
  { nt := 26, res := [.t 4 [0]], body :=
   (.sq (.rg none [⟨some 4, none, .mv (.k (.bool false)) none⟩])
   (.sq (.sq (.rg none [⟨some 6, none, .mv (.t 0) none⟩,
       ⟨some 7, none, .ln (.t 6)⟩,
       ⟨some 8, none, .mv (.t 1) none⟩,
       ⟨some 9, none, .ln (.t 8)⟩,
       ⟨some 10, none, .bi .neq 0 (.t 7) (.t 9)⟩])
    (.cd (.t 10) (.sq (.rg none [⟨some 4, none, .mv (.k (.bool false)) none⟩])
     (.rt))
    (.sk)))
   (.sq (.sq (.rg none [⟨some 5, none, .mv (.k (.int .i64 0)) none⟩])
    (.bl 0 (.lp [0, 1, 5] [] (.sq (.sq (.rg none [⟨some 11, none, .mv (.t 5) none⟩,
          ⟨some 12, none, .mv (.t 0) none⟩,
          ⟨some 13, none, .ln (.t 12)⟩,
          ⟨some 14, none, .bi .lss 0 (.t 11) (.t 13)⟩])
       (.cd (.t 14) (.sk)
       (.ex 0)))
      (.sq (.bl 1 (.sq (.rg (some 0) [⟨some 17, none, .mv (.t 0) none⟩,
           ⟨some 18, none, .mv (.t 5) none⟩,
           ⟨some 19, none, .ia 1 (.t 17) (.t 18)⟩,
           ⟨some 20, none, .ld none (.t 19)⟩,
           ⟨some 21, none, .mv (.t 1) none⟩,
           ⟨some 22, none, .mv (.t 5) none⟩,
           ⟨some 23, none, .ia 1 (.t 21) (.t 22)⟩,
           ⟨some 24, none, .ld none (.t 23)⟩,
           ⟨some 25, none, .bi .neq 0 (.t 20) (.t 24)⟩])
        (.cd (.t 25) (.sq (.rg none [⟨some 4, none, .mv (.k (.bool false)) none⟩])
         (.rt))
        (.sk))))
      (.rg none [⟨some 15, none, .mv (.t 5) none⟩,
        ⟨some 16, none, .bi .add 0 (.t 15) (.k (.int .i64 1))⟩,
        ⟨some 5, none, .mv (.t 16) none⟩]))))))
   (.sq (.rg none [⟨some 4, none, .mv (.k (.bool true)) none⟩])
   (.rt))))) }
theorem sem_eqI {P : Program} {fid : FuncId} (hc : chkF P fid eqS1 = true) (a b : List Int) (ha : a.length ≤ 9223372036854775807) (lvl : Nat) (S : Sto) : Sem P fid lvl [tI a, tI b] S (iB (decide (a = b))) S := by
  refine sem_of_chk hc trivial ?_
  simp only [eqS1, List.length_map, EVA, ↓reduceIte, Nat.reduceEqDiff, Nat.reduceMul, reduceCtorEq, Nat.reduceAdd, Nat.reduceSub, Nat.reduceLeDiff, Nat.reduceLT, Int.reduceToNat, Int.reduceLE, Int.reduceLT, mens, men]
  split
  · rename_i h
    have : ¬ a = b := fun e => h (by rw [e])
    simp [this]
  · rename_i h
    have hlen : a.length = b.length := by omega
    refine wp_count (α := Unit) a.length (fun j _ => ⟨lvl, [(0, tI a), (1, tI b), (5, iI j)], [], S⟩) (fun j _ => a.take j = b.take j) () ⟨by simp only [EVA, ↓reduceIte, Nat.reduceEqDiff, Nat.reduceMul, reduceCtorEq, Nat.reduceAdd, Nat.reduceSub, Nat.reduceLeDiff, Nat.reduceLT, Int.reduceToNat, Int.reduceLE, Int.reduceLT, mens, men], by (simp only [EVA, ↓reduceIte, Nat.reduceEqDiff, Nat.reduceMul, reduceCtorEq, Nat.reduceAdd, Nat.reduceSub, Nat.reduceLeDiff, Nat.reduceLT, Int.reduceToNat, Int.reduceLE, Int.reduceLT, mens, men]) <;> rfl⟩ rfl ?_
    intro j _ hj hA
    simp only [List.length_map, EVA, ↓reduceIte, Nat.reduceEqDiff, Nat.reduceMul, reduceCtorEq, Nat.reduceAdd, Nat.reduceSub, Nat.reduceLeDiff, Nat.reduceLT, Int.reduceToNat, Int.reduceLE, Int.reduceLT, mens, men]
    split
    · rename_i hlt
      have hja : j < a.length := by omega
      have hjb : j < b.length := by omega
      have ga : (rI a)[j]? = some [tv a[j]] := by simp [hja]
      have gb : (rI b)[j]? = some [tv b[j]] := by simp [hjb]
      simp only [ga, gb, Int.natCast_nonneg, Nat.le_refl, EVA, ↓reduceIte, Nat.reduceEqDiff, Nat.reduceMul, reduceCtorEq, Nat.reduceAdd, Nat.reduceSub, Nat.reduceLeDiff, Nat.reduceLT, Int.reduceToNat, Int.reduceLE, Int.reduceLT, mens, men]
      split
      · rename_i hne
        have : ¬ a = b := list_ne_at hja hjb (by simpa using hne)
        simp [this]
      · rename_i he
        refine ⟨by rw [fits_i64]; omega, cntJ_intro () hja rfl (take_succ_eq hja hjb hA (by simpa using he))⟩
    · rename_i hge
      have : j = a.length := by omega
      subst this
      have : a = b := list_eq_all hlen hA
      simp [this]
theorem sem_eqS {P : Program} {fid : FuncId} (hc : chkF P fid eqS1 = true) (a b : List ByteArray) (ha : a.length ≤ 9223372036854775807) (lvl : Nat) (S : Sto) : Sem P fid lvl [tS a, tS b] S (iB (decide (a = b))) S := by
  refine sem_of_chk hc trivial ?_
  simp only [eqS1, List.length_map, EVA, ↓reduceIte, Nat.reduceEqDiff, Nat.reduceMul, reduceCtorEq, Nat.reduceAdd, Nat.reduceSub, Nat.reduceLeDiff, Nat.reduceLT, Int.reduceToNat, Int.reduceLE, Int.reduceLT, mens, men]
  split
  · rename_i h
    have : ¬ a = b := fun e => h (by rw [e])
    simp [this]
  · rename_i h
    have hlen : a.length = b.length := by omega
    refine wp_count (α := Unit) a.length (fun j _ => ⟨lvl, [(0, tS a), (1, tS b), (5, iI j)], [], S⟩) (fun j _ => a.take j = b.take j) () ⟨by simp only [EVA, ↓reduceIte, Nat.reduceEqDiff, Nat.reduceMul, reduceCtorEq, Nat.reduceAdd, Nat.reduceSub, Nat.reduceLeDiff, Nat.reduceLT, Int.reduceToNat, Int.reduceLE, Int.reduceLT, mens, men], by (simp only [EVA, ↓reduceIte, Nat.reduceEqDiff, Nat.reduceMul, reduceCtorEq, Nat.reduceAdd, Nat.reduceSub, Nat.reduceLeDiff, Nat.reduceLT, Int.reduceToNat, Int.reduceLE, Int.reduceLT, mens, men]) <;> rfl⟩ rfl ?_
    intro j _ hj hA
    simp only [List.length_map, EVA, ↓reduceIte, Nat.reduceEqDiff, Nat.reduceMul, reduceCtorEq, Nat.reduceAdd, Nat.reduceSub, Nat.reduceLeDiff, Nat.reduceLT, Int.reduceToNat, Int.reduceLE, Int.reduceLT, mens, men]
    split
    · rename_i hlt
      have hja : j < a.length := by omega
      have hjb : j < b.length := by omega
      have ga : (rS a)[j]? = some [ts a[j]] := by simp [hja]
      have gb : (rS b)[j]? = some [ts b[j]] := by simp [hjb]
      simp only [ga, gb, Int.natCast_nonneg, Nat.le_refl, EVA, ↓reduceIte, Nat.reduceEqDiff, Nat.reduceMul, reduceCtorEq, Nat.reduceAdd, Nat.reduceSub, Nat.reduceLeDiff, Nat.reduceLT, Int.reduceToNat, Int.reduceLE, Int.reduceLT, mens, men]
      split
      · rename_i hne
        have : ¬ a = b := list_ne_at hja hjb (by simpa using hne)
        simp [this]
      · rename_i he
        refine ⟨by rw [fits_i64]; omega, cntJ_intro () hja rfl (take_succ_eq hja hjb hA (by simpa using he))⟩
    · rename_i hge
      have : j = a.length := by omega
      subst this
      have : a = b := list_eq_all hlen hA
      simp [this]

def filled {α : Type} (c : α → List Tr) (z : List Tr) (a : List α) (j : Nat) : Row := (a.take j).map c ++ List.replicate (a.length - j) z
theorem filled_zero {α : Type} (c : α → List Tr) (z : List Tr) (a : List α) : filled c z a 0 = List.replicate a.length z := by simp [filled]
theorem filled_all {α : Type} (c : α → List Tr) (z : List Tr) (a : List α) : filled c z a a.length = a.map c := by simp [filled]
theorem filled_length {α : Type} {c : α → List Tr} {z : List Tr} {a : List α} {j : Nat} (h : j ≤ a.length) : (filled c z a j).length = a.length := by
  simp [filled]; omega
theorem filled_get {α : Type} {c : α → List Tr} {z : List Tr} {a : List α} {j : Nat} (h : j < a.length) : (filled c z a j)[j]? = some z := by
  unfold filled
  have h1 : ((a.take j).map c).length = j := by rw [List.length_map, List.length_take]; omega
  rw [List.getElem?_append_right (by omega), h1, Nat.sub_self, List.getElem?_replicate]
  rw [if_pos (by omega)]
theorem filled_set {α : Type} {c : α → List Tr} {z e : List Tr} {a : List α} {j : Nat} (h : j < a.length) (he : e = c a[j]) : (filled c z a j).set j e = filled c z a (j + 1) := by
  subst he
  unfold filled
  have h1 : ((a.take j).map c).length = j := by simp; omega
  rw [List.set_append_right _ _ (by omega), h1, Nat.sub_self, show a.length - j = (a.length - (j + 1)) + 1 from by omega, List.replicate_succ, List.set_cons_zero, List.take_succ_eq_append_getElem h, List.map_append]
  simp
def toS1 (z : Value) : F2 :=
  { nt := 22, res := [.t 2 [2]], body :=
   (.sq (.rg none [⟨some 2, none, .mv (.k (.slice none 0 0)) none⟩])
   (.sq (.rg none [⟨some 5, none, .mv (.t 0) none⟩,
      ⟨some 6, none, .ln (.t 5)⟩,
      ⟨some 7, none, .ms 1 [z] (.t 6)⟩,
      ⟨some 3, none, .mv (.t 7) none⟩])
   (.sq (.sq (.rg none [⟨some 4, none, .mv (.k (.int .i64 0)) none⟩])
    (.bl 0 (.lp [0, 3, 4] [224] (.sq (.sq (.rg none [⟨some 8, none, .mv (.t 4) none⟩,
          ⟨some 9, none, .mv (.t 0) none⟩,
          ⟨some 10, none, .ln (.t 9)⟩,
          ⟨some 11, none, .bi .lss 0 (.t 8) (.t 10)⟩])
       (.cd (.t 11) (.sk)
       (.ex 0)))
      (.sq (.bl 1 (.rg none [⟨some 14, none, .mv (.t 3) none⟩,
          ⟨some 15, none, .mv (.t 4) none⟩,
          ⟨some 16, none, .mv (.t 0) none⟩,
          ⟨some 17, none, .mv (.t 4) none⟩,
          ⟨some 18, none, .ia 1 (.t 16) (.t 17)⟩,
          ⟨some 19, none, .ld none (.t 18)⟩,
          ⟨some 20, none, .ia 1 (.t 14) (.t 15)⟩,
          ⟨none, none, .st 1 (.t 20) (.t 19)⟩]))
      (.rg none [⟨some 12, none, .mv (.t 4) none⟩,
        ⟨some 13, none, .bi .add 0 (.t 12) (.k (.int .i64 1))⟩,
        ⟨some 4, none, .mv (.t 13) none⟩]))))))
   (.sq (.rg none [⟨some 21, none, .mv (.t 3) none⟩,
      ⟨some 2, none, .mv (.t 21) none⟩])
   (.rt))))) }
theorem sem_toI {P : Program} {fid : FuncId} (hc : chkF P fid (toS1 (.int .i64 0)) = true) (a : List Int) (ha : a.length ≤ 4294967296) (lvl : Nat) (S : Sto) : Sem P fid lvl [tI a] S (.ow 1 (rI a) true) S := by
  refine sem_of_chk hc trivial ?_
  simp only [toS1, List.length_map, bigN, Int.natCast_nonneg, EVA, ↓reduceIte, Nat.reduceEqDiff, Nat.reduceMul, reduceCtorEq, Nat.reduceAdd, Nat.reduceSub, Nat.reduceLeDiff, Nat.reduceLT, Int.reduceToNat, Int.reduceLE, Int.reduceLT, mens, men]
  refine ⟨by omega, ?_⟩
  refine wp_count (α := Unit) a.length (fun j _ => ⟨lvl, [(0, tI a), (3, .hd (lvl, 224) [] 0 a.length none a.length), (4, iI j)], [(224, .ar 1 (filled (fun n => [tv n]) [tv 0] a j) true a.length 0)], S⟩) (fun _ _ => True) () ⟨by simp only [EVA, ↓reduceIte, Nat.reduceEqDiff, Nat.reduceMul, reduceCtorEq, Nat.reduceAdd, Nat.reduceSub, Nat.reduceLeDiff, Nat.reduceLT, Int.reduceToNat, Int.reduceLE, Int.reduceLT, mens, men], by (simp only [filled_zero, EVA, ↓reduceIte, Nat.reduceEqDiff, Nat.reduceMul, reduceCtorEq, Nat.reduceAdd, Nat.reduceSub, Nat.reduceLeDiff, Nat.reduceLT, Int.reduceToNat, Int.reduceLE, Int.reduceLT, mens, men]) <;> rfl⟩ trivial ?_
  intro j _ hj _
  simp only [List.length_map, EVA, ↓reduceIte, Nat.reduceEqDiff, Nat.reduceMul, reduceCtorEq, Nat.reduceAdd, Nat.reduceSub, Nat.reduceLeDiff, Nat.reduceLT, Int.reduceToNat, Int.reduceLE, Int.reduceLT, mens, men]
  split
  · rename_i hlt
    have hja : j < a.length := by omega
    have ga : (rI a)[j]? = some [tv a[j]] := by simp [hja]
    have gz : (filled (fun n => [tv n]) [tv 0] a j)[j]? = some [tv 0] := filled_get hja
    simp only [ga, gz, Int.natCast_nonneg, Nat.le_refl, hja, setp, List.set_cons_zero, r_setOb, EVA, ↓reduceIte, Nat.reduceEqDiff, Nat.reduceMul, reduceCtorEq, Nat.reduceAdd, Nat.reduceSub, Nat.reduceLeDiff, Nat.reduceLT, Int.reduceToNat, Int.reduceLE, Int.reduceLT, mens, men]
    refine ⟨by rw [fits_i64]; omega, cntJ_intro () hja ?_ trivial⟩
    rw [filled_set hja rfl]
    rfl
  · rename_i hge
    have : j = a.length := by omega
    subst this
    rw [filled_all]
    simp
theorem sem_toS {P : Program} {fid : FuncId} (hc : chkF P fid (toS1 (.string ⟨#[]⟩)) = true) (a : List ByteArray) (ha : a.length ≤ 4294967296) (lvl : Nat) (S : Sto) : Sem P fid lvl [tS a] S (.ow 1 (rS a) true) S := by
  refine sem_of_chk hc trivial ?_
  simp only [toS1, List.length_map, bigN, Int.natCast_nonneg, EVA, ↓reduceIte, Nat.reduceEqDiff, Nat.reduceMul, reduceCtorEq, Nat.reduceAdd, Nat.reduceSub, Nat.reduceLeDiff, Nat.reduceLT, Int.reduceToNat, Int.reduceLE, Int.reduceLT, mens, men]
  refine ⟨by omega, ?_⟩
  refine wp_count (α := Unit) a.length (fun j _ => ⟨lvl, [(0, tS a), (3, .hd (lvl, 224) [] 0 a.length none a.length), (4, iI j)], [(224, .ar 1 (filled (fun n => [ts n]) [ts ⟨#[]⟩] a j) true a.length 0)], S⟩) (fun _ _ => True) () ⟨by simp only [EVA, ↓reduceIte, Nat.reduceEqDiff, Nat.reduceMul, reduceCtorEq, Nat.reduceAdd, Nat.reduceSub, Nat.reduceLeDiff, Nat.reduceLT, Int.reduceToNat, Int.reduceLE, Int.reduceLT, mens, men], by (simp only [filled_zero, EVA, ↓reduceIte, Nat.reduceEqDiff, Nat.reduceMul, reduceCtorEq, Nat.reduceAdd, Nat.reduceSub, Nat.reduceLeDiff, Nat.reduceLT, Int.reduceToNat, Int.reduceLE, Int.reduceLT, mens, men]) <;> rfl⟩ trivial ?_
  intro j _ hj _
  simp only [List.length_map, EVA, ↓reduceIte, Nat.reduceEqDiff, Nat.reduceMul, reduceCtorEq, Nat.reduceAdd, Nat.reduceSub, Nat.reduceLeDiff, Nat.reduceLT, Int.reduceToNat, Int.reduceLE, Int.reduceLT, mens, men]
  split
  · rename_i hlt
    have hja : j < a.length := by omega
    have ga : (rS a)[j]? = some [ts a[j]] := by simp [hja]
    have gz : (filled (fun n => [ts n]) [ts ⟨#[]⟩] a j)[j]? = some [ts ⟨#[]⟩] := filled_get hja
    simp only [ga, gz, Int.natCast_nonneg, Nat.le_refl, hja, setp, List.set_cons_zero, r_setOb, EVA, ↓reduceIte, Nat.reduceEqDiff, Nat.reduceMul, reduceCtorEq, Nat.reduceAdd, Nat.reduceSub, Nat.reduceLeDiff, Nat.reduceLT, Int.reduceToNat, Int.reduceLE, Int.reduceLT, mens, men]
    refine ⟨by rw [fits_i64]; omega, cntJ_intro () hja ?_ trivial⟩
    rw [filled_set hja rfl]
    rfl
  · rename_i hge
    have : j = a.length := by omega
    subst this
    rw [filled_all]
    simp
end Go.Fd

namespace Go.Fd
set_option maxRecDepth 10000
end Go.Fd

namespace Go.Fd

def putp : Row → Pth → Row → Row
  | _, [], r => r
  | es, (a, b) :: p, r =>
    match es[a]? with
    | some e =>
      match e[b]? with
      | some (.sl es') => es.set a (e.set b (.sl (putp es' p r)))
      | _ => es
    | none => es

theorem pgetp_cons {es es' : Row} {a b : Nat} {p : Pth} {e : List Tr} (h1 : es[a]? = some e) (h2 : e[b]? = some (.sl es')) : getp es ((a, b) :: p) = getp es' p := by
  simp only [getp, h1, h2]
theorem putp_cons {es es' : Row} {a b : Nat} {p : Pth} {e : List Tr} {r : Row} (h1 : es[a]? = some e) (h2 : e[b]? = some (.sl es')) : putp es ((a, b) :: p) r = es.set a (e.set b (.sl (putp es' p r))) := by
  simp only [putp, h1, h2]
theorem psetp_cons {es es' : Row} {a b i f : Nat} {p : Pth} {e : List Tr} {t : Tr} (h1 : es[a]? = some e) (h2 : e[b]? = some (.sl es')) : setp es ((a, b) :: p) i f t = es.set a (e.set b (.sl (setp es' p i f t))) := by
  simp only [setp, h1, h2]
theorem getp_inv {es r0 : Row} {a b : Nat} {p : Pth} (h : getp es ((a, b) :: p) = some r0) : ∃ e es', es[a]? = some e ∧ e[b]? = some (.sl es') ∧ getp es' p = some r0 := by
  simp only [getp] at h
  cases h1 : es[a]? with
  | none => rw [h1] at h; cases h
  | some e =>
    rw [h1] at h
    cases h2 : e[b]? with
    | none => simp only [h2] at h; cases h
    | some t =>
      simp only [h2] at h
      cases t with
      | v x => cases h
      | sl es' => exact ⟨e, es', rfl, h2, h⟩
theorem pset_get {α : Type} {l : List α} {a : Nat} {x y : α} (h : l[a]? = some x) : (l.set a y)[a]? = some y := by
  rw [List.getElem?_set_self]; exact (List.getElem?_eq_some_iff.1 h).1

theorem getp_putp {r : Row} : ∀ {p : Pth} {es r0 : Row}, getp es p = some r0 → getp (putp es p r) p = some r
  | [], _, _, _ => rfl
  | (a, b) :: p, es, r0, h => by
    obtain ⟨e, es', h1, h2, h3⟩ := getp_inv h
    rw [putp_cons h1 h2, pgetp_cons (pset_get h1) (pset_get h2)]
    exact getp_putp h3
theorem putp_putp {r s : Row} : ∀ {p : Pth} {es r0 : Row}, getp es p = some r0 → putp (putp es p r) p s = putp es p s
  | [], _, _, _ => rfl
  | (a, b) :: p, es, r0, h => by
    obtain ⟨e, es', h1, h2, h3⟩ := getp_inv h
    rw [putp_cons h1 h2, putp_cons h1 h2, putp_cons (pset_get h1) (pset_get h2), putp_putp h3, List.set_set, List.set_set]
theorem setp_putp {r : Row} {i f : Nat} {t : Tr} {e0 : List Tr} (hi : r[i]? = some e0) : ∀ {p : Pth} {es r0 : Row}, getp es p = some r0 → setp (putp es p r) p i f t = putp es p (r.set i (e0.set f t))
  | [], es, _, _ => by simp only [putp, setp, hi]
  | (a, b) :: p, es, r0, h => by
    obtain ⟨e, es', h1, h2, h3⟩ := getp_inv h
    rw [putp_cons h1 h2, putp_cons h1 h2, psetp_cons (pset_get h1) (pset_get h2), setp_putp hi h3, List.set_set, List.set_set]
theorem pgetp_app {q : Pth} : ∀ {p : Pth} {es r0 : Row}, getp es p = some r0 → getp es (p ++ q) = getp r0 q
  | [], es, r0, h => by simp only [getp, Option.some.injEq] at h; subst h; rfl
  | (a, b) :: p, es, r0, h => by
    obtain ⟨e, es', h1, h2, h3⟩ := getp_inv h
    rw [List.cons_append, pgetp_cons h1 h2]
    exact pgetp_app h3
theorem putp_app {q : Pth} {z : Row} : ∀ {p : Pth} {es r0 : Row}, getp es p = some r0 → putp es (p ++ q) z = putp es p (putp r0 q z)
  | [], es, r0, h => by simp only [getp, Option.some.injEq] at h; subst h; rfl
  | (a, b) :: p, es, r0, h => by
    obtain ⟨e, es', h1, h2, h3⟩ := getp_inv h
    rw [List.cons_append, putp_cons h1 h2, putp_cons h1 h2, putp_app h3]
theorem set_self {α : Type} {l : List α} {a : Nat} {x : α} (h : l[a]? = some x) : l.set a x = l := by
  obtain ⟨h1, h2⟩ := List.getElem?_eq_some_iff.1 h
  rw [← h2, List.set_getElem_self]
theorem putp_self : ∀ {p : Pth} {es r : Row}, getp es p = some r → putp es p r = es
  | [], es, r, h => by simp only [getp, Option.some.injEq] at h; subst h; rfl
  | (a, b) :: p, es, r, h => by
    obtain ⟨e, es', h1, h2, h3⟩ := getp_inv h
    rw [putp_cons h1 h2, putp_self h3, set_self h2, set_self h1]

theorem psset_sset {S : Sto} {id : Oid} {a b : Ob} : sset (sset S id a) id b = sset S id b := by
  funext i
  unfold sset
  split <;> rfl
theorem sset_self {S : Sto} {id : Oid} {a : Ob} (h : S id = some a) : sset S id a = S := by
  funext i
  unfold sset
  split
  · rename_i e; rw [e, h]
  · rfl
theorem packS_sset {lvl : Nat} {loc : List (Nat × Ob)} {S : Sto} {id : Oid} {o : Ob} (h : id.1 ≠ lvl) : packS lvl loc (sset S id o) = sset (packS lvl loc S) id o := by
  funext i
  by_cases e : i = id
  · subst e
    rw [r_packo h]
    unfold sset
    rw [if_pos rfl, if_pos rfl]
  · unfold sset packS
    simp only [if_neg e]

section mark
variable {α : Type} (m : α → Int → α) (n : α → Nat)
def mL : List α → Int → List α
  | [], _ => []
  | x :: r, k => m x k :: mL r (k + n x)
def nL : List α → Nat
  | [] => 0
  | x :: r => n x + nL r
theorem mL_length : ∀ (a : List α) (k : Int), (mL m n a k).length = a.length
  | [], _ => rfl
  | x :: r, k => by simp only [mL, List.length_cons, mL_length r]
theorem nL_append : ∀ (a b : List α), nL n (a ++ b) = nL n a + nL n b
  | [], b => by simp [nL]
  | x :: r, b => by simp only [List.cons_append, nL, nL_append r b]; omega
theorem mL_append : ∀ (a b : List α) (k : Int), mL m n (a ++ b) k = mL m n a k ++ mL m n b (k + nL n a)
  | [], b, k => by simp [mL, nL]
  | x :: r, b, k => by
    simp only [List.cons_append, mL, nL, mL_append r b]
    rw [show k + (n x : Int) + (nL n r : Int) = k + ((n x + nL n r : Nat) : Int) from by omega]
def kJ (a : List α) (k : Int) (j : Nat) : Int := k + nL n (a.take j)
def lJ (a : List α) (k : Int) (j : Nat) : List α := mL m n (a.take j) k ++ a.drop j
theorem kJ_zero {a : List α} {k : Int} : kJ n a k 0 = k := by simp [kJ, nL]
theorem lJ_zero {a : List α} {k : Int} : lJ m n a k 0 = a := by simp [lJ, mL]
theorem kJ_all {a : List α} {k : Int} : kJ n a k a.length = k + nL n a := by simp [kJ]
theorem lJ_all {a : List α} {k : Int} : lJ m n a k a.length = mL m n a k := by simp [lJ]
theorem kJ_succ {a : List α} {k : Int} {j : Nat} (h : j < a.length) : kJ n a k (j + 1) = kJ n a k j + n a[j] := by
  unfold kJ
  rw [List.take_succ_eq_append_getElem h, nL_append]
  simp only [nL]
  omega
theorem kJ_le {a : List α} {k : Int} {j : Nat} : kJ n a k j ≤ k + nL n a := by
  have : nL n a = nL n (a.take j) + nL n (a.drop j) := by rw [← nL_append, List.take_append_drop]
  unfold kJ
  omega
theorem kJ_ge {a : List α} {k : Int} {j : Nat} : k ≤ kJ n a k j := by unfold kJ; omega
theorem lJ_len {a : List α} {k : Int} {j : Nat} : (lJ m n a k j).length = a.length := by
  unfold lJ
  rw [List.length_append, mL_length, List.length_take, List.length_drop]
  omega
theorem lJ_get {a : List α} {k : Int} {j : Nat} (h : j < a.length) : (lJ m n a k j)[j]? = some a[j] := by
  unfold lJ
  have h1 : (mL m n (a.take j) k).length = j := by rw [mL_length, List.length_take]; omega
  rw [List.getElem?_append_right (by omega), h1, Nat.sub_self, List.getElem?_drop, Nat.add_zero, List.getElem?_eq_getElem h]
theorem lJ_set {a : List α} {k : Int} {j : Nat} (h : j < a.length) : (lJ m n a k j).set j (m a[j] (kJ n a k j)) = lJ m n a k (j + 1) := by
  unfold lJ
  have h1 : (mL m n (a.take j) k).length = j := by rw [mL_length, List.length_take]; omega
  rw [List.set_append_right _ _ (by omega), h1, Nat.sub_self, List.drop_eq_getElem_cons h, List.set_cons_zero, List.take_succ_eq_append_getElem h, mL_append]
  simp only [mL, kJ, List.append_assoc, List.cons_append, List.nil_append]
theorem lJ_row (c : α → List Tr) {a : List α} {k : Int} {j : Nat} (h : j < a.length) : ∃ R : Row, j < R.length ∧ (lJ m n a k j).map c = R.set j (c a[j]) ∧ (lJ m n a k (j + 1)).map c = R.set j (c (m a[j] (kJ n a k j))) := by
  refine ⟨(lJ m n a k j).map c, by rw [List.length_map, lJ_len]; exact h, ?_, ?_⟩
  · refine (set_self ?_).symm
    rw [List.getElem?_map, lJ_get m n h]; rfl
  · rw [← lJ_set m n h, List.map_set]
end mark
theorem rset_get {R : Row} {j : Nat} (h : j < R.length) (e : List Tr) : (R.set j e)[j]? = some e := List.getElem?_set_self h
theorem setp_row {es r0 : Row} {p : Pth} {R : Row} {j : Nat} (hv : getp es p = some r0) (h : j < R.length) (e : List Tr) (f : Nat) (t : Tr) : setp (putp es p (R.set j e)) p j f t = putp es p (R.set j (e.set f t)) := by
  rw [setp_putp (rset_get h e) hv, List.set_set]

def MarkS (P : Program) (fid : FuncId) {α : Type} (c : α → List Tr) (m : α → Int → α) (n : α → Nat) (B : α → Prop) : Prop :=
  ∀ (a : List α) (k : Int) (lvl : Nat) (S : Sto) (id : Oid) (p : Pth) (es r0 : Row) (kk hw ver st : Nat) (cap : Option Nat), id.1 < lvl → getp es p = some r0 → stamp p st hw ver true → 0 ≤ k → k + nL n a ≤ 4611686018427387904 →
    a.length ≤ 4294967296 → (∀ x ∈ a, B x) → Sem P fid lvl [.hd id p 0 a.length cap st, iI k] (sset S id (.ar kk (putp es p (a.map c)) true hw ver)) (iI (k + nL n a)) (sset S id (.ar kk (putp es p ((mL m n a k).map c)) true hw ver))
theorem MarkS.nested {P : Program} {fid : FuncId} {α : Type} {c : α → List Tr} {m : α → Int → α} {n : α → Nat} {B : α → Prop} (hm : MarkS P fid c m n B) {a : List α} {k : Int} {lvl : Nat} {S : Sto} {id : Oid} {p : Pth} {es r0 : Row} {kk hw ver j f : Nat} {R : Row} {e : List Tr}
    (hid : id.1 < lvl) (hv : getp es p = some r0) (h0 : 0 ≤ k) (h1 : k + nL n a ≤ 4611686018427387904) (hl : a.length ≤ 4294967296) (hB : ∀ x ∈ a, B x) (hj : j < R.length) (he : e[f]? = some (.sl (a.map c))) :
    Sem P fid lvl [.hd id (p ++ [(j, f)]) 0 a.length none ver, iI k] (sset S id (.ar kk (putp es p (R.set j e)) true hw ver)) (iI (k + nL n a)) (sset S id (.ar kk (putp es p (R.set j (e.set f (.sl ((mL m n a k).map c))))) true hw ver)) := by
  have hR : (R.set j e)[j]? = some e := by rw [List.getElem?_set_self hj]
  have g1 : getp (putp es p (R.set j e)) p = some (R.set j e) := getp_putp hv
  have g2 : getp (putp es p (R.set j e)) (p ++ [(j, f)]) = some (a.map c) := by
    rw [pgetp_app g1, pgetp_cons hR he]; rfl
  have := hm a k lvl S id (p ++ [(j, f)]) (putp es p (R.set j e)) _ kk hw ver ver none hid g2 (by cases p <;> exact ⟨rfl, rfl⟩) h0 h1 hl hB
  rw [putp_self g2, putp_app g1, putp_putp hv, putp_cons hR he] at this
  simp only [putp, List.set_set] at this
  exact this
theorem kcy_mark {P : Program} {fid : FuncId} {α : Type} {c : α → List Tr} {m : α → Int → α} {n : α → Nat} {B : α → Prop} (hm : MarkS P fid c m n B) {a : List α} {k : Int} {lvl len : Nat} {S : Sto} {id : Oid} {p : Pth} {es r0 : Row} {kk hw ver j f : Nat} {R : Row} {e : List Tr} {env : List (Nat × IV)} {loc : List (Nat × Ob)} {d : Option Nat} {K : St → Prop}
    (hid : id.1 < lvl) (hv : getp es p = some r0) (h0 : 0 ≤ k) (h1 : k + nL n a ≤ 4611686018427387904) (hl : a.length ≤ 4294967296) (hB : ∀ x ∈ a, B x) (hj : j < R.length) (he : e[f]? = some (.sl (a.map c))) (hlen : len = a.length)
    (hk : K ⟨lvl, ptd d (iI (k + nL n a)) env, loc, sset S id (.ar kk (putp es p (R.set j (e.set f (.sl ((mL m n a k).map c))))) true hw ver)⟩) :
    kcy (Sem P) fid true lvl env loc (sset S id (.ar kk (putp es p (R.set j e)) true hw ver)) d K [.hd id (p ++ [(j, f)]) 0 len none ver, iI k] := by
  subst hlen
  have hne : id.1 ≠ lvl := by omega
  refine kcy_intro (r := iI (k + nL n a)) loc (sset S id (.ar kk (putp es p (R.set j (e.set f (.sl ((mL m n a k).map c))))) true hw ver)) ?_ ?_ ⟨?_, hk⟩
  · intro i hi
    have : i ≠ id := fun e => hne (by rw [← e]; exact hi)
    unfold sset
    rw [if_neg this, if_neg this]
  · rw [packS_sset hne, packS_sset hne]
    exact hm.nested (Nat.lt_succ_of_lt hid) hv h0 h1 hl hB hj he
  · trivial
theorem packS_ptO {lvl key : Nat} {loc : List (Nat × Ob)} {out : Sto} {o : Ob} : packS lvl (ptO key o loc) out = sset (packS lvl loc out) (lvl, key) o := by
  funext i
  unfold packS sset
  by_cases h : i.1 = lvl
  · rw [if_pos h, lkO_ptO]
    by_cases h2 : i.2 = key
    · have : i = (lvl, key) := by obtain ⟨a, b⟩ := i; simp only at h h2; rw [h, h2]
      rw [if_pos h2, if_pos this]
    · have : ¬ i = (lvl, key) := fun e => h2 (by rw [e])
      rw [if_neg h2, if_neg this]
      exact (if_pos h).symm
  · have : ¬ i = (lvl, key) := fun e => h (by rw [e])
    rw [if_neg h, if_neg this]
    exact (if_neg h).symm
theorem kcy_mark0 {P : Program} {fid : FuncId} {α : Type} {c : α → List Tr} {m : α → Int → α} {n : α → Nat} {B : α → Prop} (hm : MarkS P fid c m n B) {a : List α} {k : Int} {lvl : Nat} {out : Sto} {id : Oid} {kk hw ver : Nat} {cap : Option Nat} {env : List (Nat × IV)} {loc : List (Nat × Ob)} {d : Option Nat} {K : St → Prop}
    (hid : id.1 < lvl) (hS : out id = some (.ar kk (a.map c) true hw ver)) (h0 : 0 ≤ k) (h1 : k + nL n a ≤ 4611686018427387904) (hl : a.length ≤ 4294967296) (hB : ∀ x ∈ a, B x)
    (hk : K ⟨lvl, ptd d (iI (k + nL n a)) env, loc, sset out id (.ar kk ((mL m n a k).map c) true hw ver)⟩) :
    kcy (Sem P) fid true lvl env loc out d K [.hd id [] 0 a.length cap hw, iI k] := by
  have hne : id.1 ≠ lvl := by omega
  refine kcy_intro (r := iI (k + nL n a)) loc (sset out id (.ar kk ((mL m n a k).map c) true hw ver)) ?_ ?_ ⟨?_, hk⟩
  · intro i hi
    have : i ≠ id := fun e => hne (by rw [← e]; exact hi)
    unfold sset
    rw [if_neg this]
  · rw [packS_sset hne]
    have e : packS lvl loc out = sset (packS lvl loc out) id (.ar kk (putp (a.map c) [] (a.map c)) true hw ver) := (sset_self (by rw [r_packo hne]; exact hS)).symm
    have := hm a k (lvl + 1) (packS lvl loc out) id [] (a.map c) (a.map c) kk hw ver hw cap (Nat.lt_succ_of_lt hid) rfl rfl h0 h1 hl hB
    rw [← e] at this
    exact this
  · trivial
theorem kcy_mark1 {P : Program} {fid : FuncId} {α : Type} {c : α → List Tr} {m : α → Int → α} {n : α → Nat} {B : α → Prop} (hm : MarkS P fid c m n B) {a : List α} {k : Int} {lvl key : Nat} {out : Sto} {kk hw ver : Nat} {cap : Option Nat} {env : List (Nat × IV)} {loc : List (Nat × Ob)} {d : Option Nat} {K : St → Prop}
    (hS : lkO key loc = some (.ar kk (a.map c) true hw ver)) (h0 : 0 ≤ k) (h1 : k + nL n a ≤ 4611686018427387904) (hl : a.length ≤ 4294967296) (hB : ∀ x ∈ a, B x)
    (hk : K ⟨lvl, ptd d (iI (k + nL n a)) env, ptO key (.ar kk ((mL m n a k).map c) true hw ver) loc, out⟩) :
    kcy (Sem P) fid true lvl env loc out d K [.hd (lvl, key) [] 0 a.length cap hw, iI k] := by
  refine kcy_intro (r := iI (k + nL n a)) (ptO key (.ar kk ((mL m n a k).map c) true hw ver) loc) out (fun _ _ => rfl) ?_ ⟨?_, hk⟩
  · rw [packS_ptO]
    have e : packS lvl loc out = sset (packS lvl loc out) (lvl, key) (.ar kk (putp (a.map c) [] (a.map c)) true hw ver) := (sset_self (by unfold packS; rw [if_pos rfl]; exact hS)).symm
    have := hm a k (lvl + 1) (packS lvl loc out) (lvl, key) [] (a.map c) (a.map c) kk hw ver hw cap (Nat.lt_succ_self _) rfl rfl h0 h1 hl hB
    rw [← e] at this
    exact this
  · trivial
end Go.Fd

namespace Go.Fd
def szTh (l : Int) (g : Int → Int) : Int := if l < 0 then -1 else g l
def Zq (c : Int) (s : Int → Int) (q : Nat) : Prop := ∀ l : Int, 0 ≤ l → l ≤ 1048576 → s l ≤ l ∧ (0 ≤ s l → (q : Int) ≤ c + 256 * (l - s l))
theorem Zq_id : Zq 0 (fun l => l) 0 := fun l _ _ => ⟨Int.le_refl _, fun _ => by simp only; omega⟩
theorem Zq_th {c e : Int} {s g : Int → Int} {q r : Nat} (hc : 0 ≤ c) (he : 0 ≤ e) (hs : Zq c s q) (hg : Zq e g r) : Zq (c + e) (fun l => szTh (s l) g) (q + r) := fun l h0 h1 => by
  have a := hs l h0 h1
  by_cases h : s l < 0
  · simp only [szTh, if_pos h]
    exact ⟨by omega, fun h => by omega⟩
  · simp only [szTh, if_neg h]
    have b := hg (s l) (by omega) (by omega)
    refine ⟨by omega, fun h2 => ?_⟩
    have := a.2 (by omega)
    have := b.2 h2
    omega
theorem Zq_N {α : Type} (n : α → Nat) (hn : ∀ x, n x ≤ 256) (a : List α) : Zq 0 (fun l => szN a.length l) (nL n a) := fun l h0 h1 => by
  have hh : ∀ b : List α, nL n b ≤ 256 * b.length := fun b => by
    induction b with
    | nil => exact Nat.le_refl 0
    | cons x r ih => simp only [nL, List.length_cons]; have := hn x; omega
  have := hh a
  simp only [szN]
  split
  · exact ⟨by omega, fun h => by omega⟩
  · exact ⟨by omega, fun h => by omega⟩
theorem Zq_str (n : Nat) : Zq 0 (fun l => l - n) 0 := fun l h0 h1 => ⟨by simp only; omega, fun h => by simp only at h ⊢; omega⟩
theorem Zq_str1 (n : Nat) : Zq 256 (fun l => l - n) 1 := fun l h0 h1 => ⟨by simp only; omega, fun h => by simp only at h ⊢; omega⟩
theorem Zq_F {α : Type} {f : α → Int → Int} {n : α → Nat} (hf : ∀ x, Zq 256 (f x) (n x)) : ∀ (a : List α), Zq (256 * a.length) (fun l => szF f a l) (nL n a)
  | [] => fun l _ _ => ⟨Int.le_refl l, fun _ => by simp only [szF, nL, List.length_nil]; omega⟩
  | x :: r => fun l h0 h1 => by
    simp only [szF, nL, List.length_cons]
    have a := hf x l h0 h1
    split
    · exact ⟨by omega, fun h => by omega⟩
    · have b := Zq_F hf r (f x l) (by omega) (by omega)
      simp only at b
      refine ⟨by omega, fun h => ?_⟩
      have := a.2 (by omega)
      have := b.2 h
      omega
theorem Zq_L {α : Type} {f : α → Int → Int} {n : α → Nat} (hf : ∀ x, Zq 256 (f x) (n x)) (a : List α) : Zq 0 (fun l => szL f a l) (nL n a) := fun l h0 h1 => by
  simp only [szL]
  split
  · exact ⟨by omega, fun h => by omega⟩
  · have b := Zq_F hf a (l - a.length) (by omega) (by omega)
    simp only at b
    refine ⟨by omega, fun h => ?_⟩
    have := b.2 h
    omega
theorem Zq_imp {c e : Int} {s : Int → Int} {q r : Nat} (h : Zq c s q) (hq : (r : Int) + c ≤ q + e) : Zq e s r := fun l h0 h1 => by
  have a := h l h0 h1
  refine ⟨a.1, fun h2 => ?_⟩
  have := a.2 h2
  omega
end Go.Fd

namespace Go.Fd
set_option maxRecDepth 10000
structure TNode where
  control : Int
  parent : Int
  links : (List Int)
  deriving DecidableEq
def cNode (x : TNode) : List Tr := [tv x.control, tv x.parent, .sl (rI x.links)]
theorem cNode_len (x : TNode) : (cNode x).length = 3 := rfl
def oNode (x : TNode) : IV := .ag [iI x.control, iI x.parent, .ow 1 (rI x.links) true]
def bdNode (n : Nat) (x : TNode) : Prop := x.links.length ≤ n
def ftNode (x : TNode) : Prop := fits .i64 x.control ∧ fits .i64 x.parent ∧ (∀ y ∈ x.links, fits .i64 y)
def szNode (x : TNode) (l : Int) : Int := szTh (szN x.links.length l) fun l => l
structure TWire where
  name : ByteArray
  link : Int
  deriving DecidableEq
def cWire (x : TWire) : List Tr := [ts x.name, tv x.link]
theorem cWire_len (x : TWire) : (cWire x).length = 2 := rfl
def oWire (x : TWire) : IV := .ag [iS x.name, iI x.link]
def bdWire (n : Nat) (x : TWire) : Prop := x.name.size ≤ n
def ftWire (x : TWire) : Prop := fits .i64 x.link
def szWire (x : TWire) (l : Int) : Int := szTh (l - x.name.size) fun l => l
structure TBigraph where
  roots : Int
  nodes : (List TNode)
  sites : (List Int)
  edges : Int
  outer : (List ByteArray)
  inner : (List TWire)
  deriving DecidableEq
def cBigraph (x : TBigraph) : List Tr := [tv x.roots, .sl (x.nodes.map cNode), .sl (rI x.sites), tv x.edges, .sl (rS x.outer), .sl (x.inner.map cWire)]
theorem cBigraph_len (x : TBigraph) : (cBigraph x).length = 6 := rfl
def oBigraph (x : TBigraph) : IV := .ag [iI x.roots, .ow 3 (x.nodes.map cNode) true, .ow 1 (rI x.sites) true, iI x.edges, .ow 1 (rS x.outer) true, .ow 2 (x.inner.map cWire) true]
def bdBigraph (n : Nat) (x : TBigraph) : Prop := x.nodes.length ≤ n ∧ (∀ y ∈ x.nodes, bdNode n y) ∧ x.sites.length ≤ n ∧ x.outer.length ≤ n ∧ (∀ y ∈ x.outer, y.size ≤ n) ∧ x.inner.length ≤ n ∧ (∀ y ∈ x.inner, bdWire n y)
def ftBigraph (x : TBigraph) : Prop := fits .i64 x.roots ∧ (∀ y ∈ x.nodes, ftNode y) ∧ (∀ y ∈ x.sites, fits .i64 y) ∧ fits .i64 x.edges ∧ (∀ y ∈ x.inner, ftWire y)
def szBigraph (x : TBigraph) (l : Int) : Int := szTh (szL szNode x.nodes l) fun l => szTh (szN x.sites.length l) fun l => szTh (szL (fun x m => m - x.size) x.outer l) fun l => szTh (szL szWire x.inner l) fun l => l
structure TControl where
  name : ByteArray
  ports : Int
  kind_ : Int
  deriving DecidableEq
def cControl (x : TControl) : List Tr := [ts x.name, tv x.ports, tv x.kind_]
theorem cControl_len (x : TControl) : (cControl x).length = 3 := rfl
def oControl (x : TControl) : IV := .ag [iS x.name, iI x.ports, iI x.kind_]
def bdControl (n : Nat) (x : TControl) : Prop := x.name.size ≤ n
def ftControl (x : TControl) : Prop := fits .i64 x.ports ∧ fits .i64 x.kind_
def szControl (x : TControl) (l : Int) : Int := szTh (l - x.name.size) fun l => l
end Go.Fd

namespace Go.Fd
abbrev fid_laws_FnExactComposeAll : FuncId := 6
abbrev fid_laws_szControlS : FuncId := 10
abbrev fid_laws_szBigraph : FuncId := 11
abbrev fid_laws_toControlS : FuncId := 13
abbrev fid_laws_toBigraph : FuncId := 14
abbrev fid_laws_eqBigraph : FuncId := 16
abbrev fid_laws_eqControlS : FuncId := 17
abbrev fid_laws_markControlS : FuncId := 18
abbrev fid_laws_markBigraph : FuncId := 19
abbrev fid_laws_heldBigraph : FuncId := 20
abbrev fid_impl_ComposeBigraphs : FuncId := 22
abbrev fid_laws_szBigraphS : FuncId := 25
abbrev fid_spec_ComposeAll : FuncId := 26
abbrev fid_laws_toBigraphS : FuncId := 27
abbrev fid_impl_ComposeAll : FuncId := 28
abbrev fid_laws_eqBigraphS : FuncId := 29
abbrev fid_laws_markBigraphS : FuncId := 30
abbrev fid_laws_szControl : FuncId := 37
abbrev fid_laws_szNodeS : FuncId := 38
abbrev fid_laws_szIntS : FuncId := 39
abbrev fid_laws_szStringS : FuncId := 40
abbrev fid_laws_szWireS : FuncId := 41
abbrev fid_spec_l2Good : FuncId := 42
abbrev fid_spec_l1In : FuncId := 43
abbrev fid_spec_l2At : FuncId := 44
abbrev fid_spec_l2Give : FuncId := 46
abbrev fid_spec_l4Named : FuncId := 48
abbrev fid_laws_toControl : FuncId := 49
abbrev fid_laws_toNodeS : FuncId := 50
abbrev fid_laws_toIntS : FuncId := 51
abbrev fid_laws_toStringS : FuncId := 52
abbrev fid_laws_toWireS : FuncId := 53
abbrev fid_impl_IsBigraph : FuncId := 54
abbrev fid_impl_within : FuncId := 55
abbrev fid_impl_isName : FuncId := 56
abbrev fid_impl_valid : FuncId := 58
abbrev fid_impl_Bigraph_relinked : FuncId := 59
abbrev fid_slices_Clone_string_string : FuncId := 60
abbrev fid_laws_eqNodeS : FuncId := 62
abbrev fid_laws_eqIntS : FuncId := 63
abbrev fid_laws_eqStringS : FuncId := 64
abbrev fid_laws_eqWireS : FuncId := 65
abbrev fid_laws_eqControl : FuncId := 66
abbrev fid_laws_markText : FuncId := 67
abbrev fid_laws_markNodeS : FuncId := 68
abbrev fid_laws_markIntS : FuncId := 69
abbrev fid_laws_markStringS : FuncId := 70
abbrev fid_laws_markWireS : FuncId := 71
abbrev fid_laws_heldNodeS : FuncId := 72
abbrev fid_laws_heldIntS : FuncId := 73
abbrev fid_laws_heldStringS : FuncId := 74
abbrev fid_laws_heldWireS : FuncId := 75
abbrev fid_spec_l4Compose : FuncId := 76
abbrev fid_impl_fits : FuncId := 77
abbrev fid_impl_composed : FuncId := 78
abbrev fid_impl_joined : FuncId := 80
abbrev fid_spec_l2Own : FuncId := 84
abbrev fid_impl_Bigraph_innerNames : FuncId := 87
abbrev fid_spec_l2Inner : FuncId := 91
abbrev fid_laws_szNode : FuncId := 95
abbrev fid_laws_szWire : FuncId := 96
abbrev fid_spec_l2Sig : FuncId := 97
abbrev fid_spec_l2Names : FuncId := 98
abbrev fid_spec_l2Node : FuncId := 99
abbrev fid_spec_l2Under : FuncId := 100
abbrev fid_spec_l2Link : FuncId := 101
abbrev fid_spec_l4Roots : FuncId := 102
abbrev fid_spec_l4Nodes : FuncId := 103
abbrev fid_spec_l4Sites : FuncId := 104
abbrev fid_spec_l4Wires : FuncId := 105
abbrev fid_laws_toNode : FuncId := 106
abbrev fid_laws_toWire : FuncId := 107
abbrev fid_impl_IsSignature : FuncId := 108
abbrev fid_impl_areNames : FuncId := 109
abbrev fid_impl_Bigraph_isParent : FuncId := 110
abbrev fid_slices_ContainsFunc_int_int : FuncId := 111
abbrev fid_impl_IsBigraph_1 : FuncId := 112
abbrev fid_impl_Bigraph_isLink : FuncId := 113
abbrev fid_impl_IsBigraph_2 : FuncId := 114
abbrev fid_slices_ContainsFunc_impl_Wire_impl_Wire : FuncId := 115
abbrev fid_impl_IsBigraph_3 : FuncId := 116
abbrev fid_strings_Trim : FuncId := 117
abbrev fid_slices_Index_string_string : FuncId := 118
abbrev fid_impl_ownBigraph : FuncId := 119
abbrev fid_impl_sortedNames : FuncId := 120
abbrev fid_impl_Bigraph_relinked_1 : FuncId := 121
abbrev fid_impl_Bigraph_endOf : FuncId := 122
abbrev fid_laws_eqNode : FuncId := 123
abbrev fid_laws_eqWire : FuncId := 124
abbrev fid_spec_l4Fits : FuncId := 125
abbrev fid_spec_l4After : FuncId := 126
abbrev fid_slices_Equal_string_string : FuncId := 127
abbrev fid_impl_composed_1 : FuncId := 128
abbrev fid_impl_composed_2 : FuncId := 129
abbrev fid_spec_l4Under : FuncId := 130
abbrev fid_impl_joined_1 : FuncId := 131
abbrev fid_impl_joined_2 : FuncId := 132
abbrev fid_slices_Clone_int_int : FuncId := 133
abbrev fid_impl_moved : FuncId := 134
abbrev fid_spec_l2Renumber : FuncId := 136
abbrev fid_spec_l4Edges : FuncId := 143
abbrev fid_spec_l4Parent : FuncId := 145
abbrev fid_spec_l2Name : FuncId := 146
abbrev fid_slices_ContainsFunc_impl_Control_impl_Control : FuncId := 147
abbrev fid_impl_IsSignature_1 : FuncId := 148
abbrev fid_slices_IndexFunc_int_int : FuncId := 149
abbrev fid_slices_IndexFunc_impl_Wire_impl_Wire : FuncId := 150
abbrev fid_slices_Clone_impl_Wire_impl_Wire : FuncId := 158
abbrev fid_slices_Sort_string_string : FuncId := 159
abbrev fid_slices_Compact_string_string : FuncId := 160
abbrev fid_spec_l4Equal : FuncId := 161
abbrev fid_spec_l2Tie : FuncId := 162
abbrev fid_spec_l2Move : FuncId := 163
abbrev fid_math_bits_Len : FuncId := 166
abbrev fid_slices_IndexFunc_impl_Control_impl_Control : FuncId := 167
abbrev fid_slices_pdqsortOrdered_string : FuncId := 172
abbrev fid_math_bits_Len32 : FuncId := 181
abbrev fid_math_bits_Len64 : FuncId := 182
abbrev fid_slices_insertionSortOrdered_string : FuncId := 186
abbrev fid_slices_heapSortOrdered_string : FuncId := 187
abbrev fid_slices_breakPatternsOrdered_string : FuncId := 188
abbrev fid_slices_choosePivotOrdered_string : FuncId := 189
abbrev fid_slices_reverseRangeOrdered_string : FuncId := 190
abbrev fid_slices_partialInsertionSortOrdered_string : FuncId := 191
abbrev fid_cmp_Less_string : FuncId := 192
abbrev fid_slices_partitionEqualOrdered_string : FuncId := 193
abbrev fid_slices_partitionOrdered_string : FuncId := 194
abbrev fid_cmp_isNaN_string : FuncId := 207
end Go.Fd

namespace Go.Fd
def c_impl_ComposeBigraphs : F2 :=
  { nt := 32, res := [.c 6 (some 6) [0, 4, 2, 0, 2, 3], .t 7 [0]], body :=
   (.sq (rg [oo 4 (.bt (.t 1)),
 oo 5 (.bt (.t 2)),
 oo 6 (.al [.int .i64 0, .slice none 0 0, .slice none 0 0, .int .i64 0, .slice none 0 0, .slice none 0 0] []),
 om 7 (.k (.bool false))])
 (.sq (.sq (rg [om 8 (.t 0),
 oo 9 (.ld (some 6) (.t 4)),
 oo 10 (.ca .pure false (.f fid_impl_IsBigraph) [.t 8, .t 9]),
 oo 11 (.nt (.t 10)),
 om 12 (.t 11),
 og 13 12 false (.mv (.t 0) none),
 og 14 12 false (.ld (some 6) (.t 5)),
 og 15 12 false (.ca .pure false (.f fid_impl_IsBigraph) [.t 13, .t 14]),
 og 16 12 false (.nt (.t 15)),
 oo 17 (.pk (.t 12) (.k (.bool true)) (.t 16)),
 om 18 (.t 17),
 og 19 18 false (.ld (some 6) (.t 4)),
 og 20 18 false (.ld (some 6) (.t 5)),
 og 21 18 false (.ca .pure false (.f fid_impl_fits) [.t 19, .t 20]),
 og 22 18 false (.nt (.t 21)),
 oo 23 (.pk (.t 18) (.k (.bool true)) (.t 22))])
 (.cd (.t 23) (.sq (rg [oo 24 (.bd [.int .i64 0, .slice none 0 0, .slice none 0 0, .int .i64 0, .slice none 0 0, .slice none 0 0] [] []),
 on1 (.st 6 (.t 6) (.t 24)),
 om 7 (.k (.bool false))])
 (.rt))
 (.sk)))
 (.sq (rg [om 25 (.t 0),
 oo 26 (.ld (some 6) (.t 4)),
 oo 27 (.ld (some 6) (.t 5)),
 oo 28 (.ca .pure false (.f fid_impl_composed) [.t 26, .t 27]),
 oo 29 (.ca .pure true (.f fid_impl_valid) [.t 25, .t 28]),
 oo 30 (.ex 0 (.t 29)),
 oo 31 (.ex 1 (.t 29)),
 on1 (.st 6 (.t 6) (.t 30)),
 om 7 (.t 31)])
 (.rt)))) }
theorem k_impl_ComposeBigraphs : chkF Go.Proofs.Tryz.prog fid_impl_ComposeBigraphs c_impl_ComposeBigraphs = true := by kernel_rfl

def c_spec_ComposeAll : F2 :=
  { nt := 48, res := [.c 4 (some 6) [0, 4, 2, 0, 2, 3], .t 5 [0]], body :=
   (.sq (rg [oo 4 (.al [.int .i64 0, .slice none 0 0, .slice none 0 0, .int .i64 0, .slice none 0 0, .slice none 0 0] []),
 om 5 (.k (.bool false))])
 (.sq (.sq (rg [om 10 (.t 1),
 oo 11 (.ln (.t 10)),
 oo 12 (.ca .pure false (.f fid_spec_l1In) [.t 11, i6 1, i6 8]),
 oo 13 (.nt (.t 12)),
 om 14 (.t 13),
 og 15 14 false (.mv (.t 0) none),
 og 16 14 false (.mv (.t 1) none),
 og 17 14 false (.ia 6 (.t 16) (i6 0)),
 og 18 14 false (.ld (some 6) (.t 17)),
 og 19 14 false (.ca .pure false (.f fid_spec_l2Good) [.t 15, .t 18]),
 og 20 14 false (.nt (.t 19)),
 oo 21 (.pk (.t 14) (.k (.bool true)) (.t 20))])
 (.cd (.t 21) (.sq (rg [oo 22 (.bd [.int .i64 0, .slice none 0 0, .slice none 0 0, .int .i64 0, .slice none 0 0, .slice none 0 0] [] []),
 on1 (.st 6 (.t 4) (.t 22)),
 om 5 (.k (.bool false))])
 (.rt))
 (.sk)))
 (.sq (rg [om 23 (.t 1),
 oo 24 (.ia 6 (.t 23) (i6 0)),
 oo 25 (.ld (some 6) (.t 24)),
 oo 26 (.ca .pure false (.f fid_spec_l2Own) [.t 25]),
 oo 6 (.al [.int .i64 0, .slice none 0 0, .slice none 0 0, .int .i64 0, .slice none 0 0, .slice none 0 0] []),
 on1 (.st 6 (.t 6) (.t 26))])
 (.sq (.sq (rg [om 7 (i6 1)])
 (.bl 0 (.lp [0, 1, 4, 6, 7] [128, 192] (.sq (.sq (rg [om 27 (.t 7),
 om 28 (.t 1),
 oo 29 (.ln (.t 28)),
 oo 30 (.bi .lss 0 (.t 27) (.t 29))])
 (.cd (.t 30) (.sk)
 (.ex 0)))
 (.sq (.bl 1 (.sq (.rg (some 0) [om 34 (.t 0),
 oo 35 (.ld (some 6) (.t 6)),
 om 36 (.t 1),
 om 37 (.t 7),
 oo 38 (.ia 6 (.t 36) (.t 37)),
 oo 39 (.ld (some 6) (.t 38)),
 oo 40 (.ca .pure false (.f fid_spec_l4Compose) [.t 34, .t 35, .t 39]),
 om 33 (.t 40),
 oo 41 (.ex 0 (.t 33)),
 oo 42 (.ex 1 (.t 33)),
 oo 8 (.al [.int .i64 0, .slice none 0 0, .slice none 0 0, .int .i64 0, .slice none 0 0, .slice none 0 0] []),
 on1 (.s0 6 (.t 8) (.t 41)),
 om 9 (.t 42)])
 (.sq (.sq (rg [om 43 (.t 9),
 oo 44 (.nt (.t 43))])
 (.cd (.t 44) (.sq (rg [oo 45 (.bd [.int .i64 0, .slice none 0 0, .slice none 0 0, .int .i64 0, .slice none 0 0, .slice none 0 0] [] []),
 on1 (.st 6 (.t 4) (.t 45)),
 om 5 (.k (.bool false))])
 (.rt))
 (.sk)))
 (rg [oo 46 (.ld (some 6) (.t 8)),
 on1 (.st 6 (.t 6) (.t 46))]))))
 (rg [om 31 (.t 7),
 oo 32 (.bi .add 0 (.t 31) (i6 1)),
 om 7 (.t 32)]))))))
 (.sq (rg [oo 47 (.ld (some 6) (.t 6)),
 on1 (.st 6 (.t 4) (.t 47)),
 om 5 (.k (.bool true))])
 (.rt)))))) }
theorem k_spec_ComposeAll : chkF Go.Proofs.Tryz.prog fid_spec_ComposeAll c_spec_ComposeAll = true := by kernel_rfl

def c_impl_ComposeAll : F2 :=
  { nt := 42, res := [.c 4 (some 6) [0, 4, 2, 0, 2, 3], .t 5 [0]], body :=
   (.sq (rg [oo 4 (.al [.int .i64 0, .slice none 0 0, .slice none 0 0, .int .i64 0, .slice none 0 0, .slice none 0 0] []),
 om 5 (.k (.bool false))])
 (.sq (.sq (rg [om 10 (.t 1),
 oo 11 (.ln (.t 10)),
 oo 12 (.ca .pure false (.f fid_impl_within) [.t 11, i6 1, i6 8]),
 oo 13 (.nt (.t 12))])
 (.cd (.t 13) (.sq (rg [oo 14 (.bd [.int .i64 0, .slice none 0 0, .slice none 0 0, .int .i64 0, .slice none 0 0, .slice none 0 0] [] []),
 on1 (.st 6 (.t 4) (.t 14)),
 om 5 (.k (.bool false))])
 (.rt))
 (.sk)))
 (.sq (rg [om 16 (.t 0),
 om 17 (.t 1),
 oo 18 (.ia 6 (.t 17) (i6 0)),
 oo 19 (.ld (some 6) (.t 18)),
 oo 20 (.ca .pure true (.f fid_impl_valid) [.t 16, .t 19]),
 om 15 (.t 20),
 oo 21 (.ex 0 (.t 15)),
 oo 22 (.ex 1 (.t 15)),
 oo 6 (.al [.int .i64 0, .slice none 0 0, .slice none 0 0, .int .i64 0, .slice none 0 0, .slice none 0 0] []),
 on1 (.st 6 (.t 6) (.t 21)),
 om 7 (.t 22)])
 (.sq (.sq (rg [om 23 (.t 1),
 oo 24 (.sx 6 (.t 23) (some (i6 1)) none none),
 oo 25 (.ln (.t 24)),
 om 26 (i6 0)])
 (.bl 0 (.lp [0, 4, 6, 7, 24, 25, 26] [128, 192, 640, 641, 642, 643, 1152, 1153, 1154, 1155] (.sq (rg [oo 27 (.bi .lss 0 (.t 26) (.t 25))])
 (.sq (.cd (.t 27) (.sk)
 (.ex 0))
 (.sq (.bl 1 (.sq (rg [oo 28 (.ia 6 (.t 24) (.t 26)),
 oo 29 (.ld (some 6) (.t 28)),
 oo 9 (.al [.int .i64 0, .slice none 0 0, .slice none 0 0, .int .i64 0, .slice none 0 0, .slice none 0 0] []),
 on1 (.st 6 (.t 9) (.t 29))])
 (.sq (.sq (rg [om 30 (.t 7),
 oo 31 (.nt (.t 30))])
 (.cd (.t 31) (.ex 0)
 (.sk)))
 (rg [om 33 (.t 0),
 oo 34 (.lz 6 (.t 6)),
 oo 35 (.ld (some 6) (.t 9)),
 oo 36 (.ca .pure true (.f fid_impl_ComposeBigraphs) [.t 33, .t 34, .t 35]),
 om 32 (.t 36),
 oo 37 (.ex 0 (.t 32)),
 oo 38 (.ex 1 (.t 32)),
 on1 (.st 6 (.t 6) (.t 37)),
 om 7 (.t 38)]))))
 (rg [oo 39 (.bi .add 0 (.t 26) (i6 1)),
 om 26 (.t 39)])))))))
 (.sq (rg [oo 40 (.ld (some 6) (.t 6)),
 om 41 (.t 7),
 on1 (.st 6 (.t 4) (.t 40)),
 om 5 (.t 41)])
 (.rt)))))) }
theorem k_impl_ComposeAll : chkF Go.Proofs.Tryz.prog fid_impl_ComposeAll c_impl_ComposeAll = true := by kernel_rfl

def c_spec_l2Good : F2 :=
  { nt := 98, res := [.t 4 [0]], body :=
   (.sq (rg [oo 3 (.bt (.t 1)),
 om 4 (.k (.bool false))])
 (.sq (.sq (rg [om 8 (.t 0),
 oo 9 (.ca .pure false (.f fid_spec_l2Sig) [.t 8]),
 oo 10 (.nt (.t 9)),
 om 11 (.t 10),
 og 12 11 false (.fa 0 (.t 3)),
 og 13 11 false (.ld none (.t 12)),
 og 14 11 false (.ca .pure false (.f fid_spec_l1In) [.t 13, i6 0, i6 4]),
 og 15 11 false (.nt (.t 14)),
 oo 16 (.pk (.t 11) (.k (.bool true)) (.t 15)),
 om 17 (.t 16),
 og 18 17 false (.fa 1 (.t 3)),
 og 19 17 false (.ld none (.t 18)),
 og 20 17 false (.ln (.t 19)),
 og 21 17 false (.bi .gtr 0 (.t 20) (i6 8)),
 oo 22 (.pk (.t 17) (.k (.bool true)) (.t 21)),
 om 23 (.t 22),
 og 24 23 false (.fa 2 (.t 3)),
 og 25 23 false (.ld none (.t 24)),
 og 26 23 false (.ln (.t 25)),
 og 27 23 false (.bi .gtr 0 (.t 26) (i6 4)),
 oo 28 (.pk (.t 23) (.k (.bool true)) (.t 27)),
 om 29 (.t 28),
 og 30 29 false (.fa 3 (.t 3)),
 og 31 29 false (.ld none (.t 30)),
 og 32 29 false (.ca .pure false (.f fid_spec_l1In) [.t 31, i6 0, i6 8]),
 og 33 29 false (.nt (.t 32)),
 oo 34 (.pk (.t 29) (.k (.bool true)) (.t 33))])
 (.cd (.t 34) (.sq (rg [om 4 (.k (.bool false))])
 (.rt))
 (.sk)))
 (.sq (.sq (rg [oo 35 (.fa 4 (.t 3)),
 oo 36 (.ld none (.t 35)),
 oo 37 (.ca .pure false (.f fid_spec_l2Names) [.t 36]),
 oo 38 (.nt (.t 37)),
 om 39 (.t 38),
 og 40 39 false (.fa 5 (.t 3)),
 og 41 39 false (.ld none (.t 40)),
 og 42 39 false (.ln (.t 41)),
 og 43 39 false (.bi .gtr 0 (.t 42) (i6 16)),
 oo 44 (.pk (.t 39) (.k (.bool true)) (.t 43)),
 om 45 (.t 44),
 og 46 45 false (.ld (some 6) (.t 3)),
 og 47 45 false (.ca .pure false (.f fid_spec_l2Inner) [.t 46]),
 og 48 45 false (.ca .pure false (.f fid_spec_l2Names) [.t 47]),
 og 49 45 false (.nt (.t 48)),
 oo 50 (.pk (.t 45) (.k (.bool true)) (.t 49))])
 (.cd (.t 50) (.sq (rg [om 4 (.k (.bool false))])
 (.rt))
 (.sk)))
 (.sq (.sq (rg [om 5 (i6 0)])
 (.bl 0 (.lp [0, 3, 5] [] (.sq (.sq (rg [om 51 (.t 5),
 oo 52 (.fa 1 (.t 3)),
 oo 53 (.ld none (.t 52)),
 oo 54 (.ln (.t 53)),
 oo 55 (.bi .lss 0 (.t 51) (.t 54))])
 (.cd (.t 55) (.sk)
 (.ex 0)))
 (.sq (.bl 1 (.sq (rg [om 58 (.t 0),
 oo 59 (.ld (some 6) (.t 3)),
 om 60 (.t 5),
 oo 61 (.ca .pure false (.f fid_spec_l2Node) [.t 58, .t 59, .t 60]),
 oo 62 (.nt (.t 61))])
 (.cd (.t 62) (.sq (rg [om 4 (.k (.bool false))])
 (.rt))
 (.sk))))
 (rg [om 56 (.t 5),
 oo 57 (.bi .add 0 (.t 56) (i6 1)),
 om 5 (.t 57)]))))))
 (.sq (.sq (rg [om 6 (i6 0)])
 (.bl 2 (.lp [0, 3, 6] [] (.sq (.sq (rg [om 63 (.t 6),
 oo 64 (.fa 2 (.t 3)),
 oo 65 (.ld none (.t 64)),
 oo 66 (.ln (.t 65)),
 oo 67 (.bi .lss 0 (.t 63) (.t 66))])
 (.cd (.t 67) (.sk)
 (.ex 2)))
 (.sq (.bl 3 (.sq (.rg (some 0) [om 70 (.t 0),
 oo 71 (.ld (some 6) (.t 3)),
 oo 72 (.fa 2 (.t 3)),
 oo 73 (.ld none (.t 72)),
 om 74 (.t 6),
 oo 75 (.ia 1 (.t 73) (.t 74)),
 oo 76 (.ld none (.t 75)),
 oo 77 (.fa 1 (.t 3)),
 oo 78 (.ld none (.t 77)),
 oo 79 (.ln (.t 78)),
 oo 80 (.ca .pure false (.f fid_spec_l2Under) [.t 70, .t 71, .t 76, .t 79]),
 oo 81 (.nt (.t 80))])
 (.cd (.t 81) (.sq (rg [om 4 (.k (.bool false))])
 (.rt))
 (.sk))))
 (rg [om 68 (.t 6),
 oo 69 (.bi .add 0 (.t 68) (i6 1)),
 om 6 (.t 69)]))))))
 (.sq (.sq (rg [om 7 (i6 0)])
 (.bl 4 (.lp [3, 7] [] (.sq (.sq (rg [om 82 (.t 7),
 oo 83 (.fa 5 (.t 3)),
 oo 84 (.ld none (.t 83)),
 oo 85 (.ln (.t 84)),
 oo 86 (.bi .lss 0 (.t 82) (.t 85))])
 (.cd (.t 86) (.sk)
 (.ex 4)))
 (.sq (.bl 5 (.sq (.rg (some 0) [oo 89 (.ld (some 6) (.t 3)),
 oo 90 (.fa 5 (.t 3)),
 oo 91 (.ld none (.t 90)),
 om 92 (.t 7),
 oo 93 (.ia 2 (.t 91) (.t 92)),
 oo 94 (.fa 1 (.t 93)),
 oo 95 (.ld none (.t 94)),
 oo 96 (.ca .pure false (.f fid_spec_l2Link) [.t 89, .t 95]),
 oo 97 (.nt (.t 96))])
 (.cd (.t 97) (.sq (rg [om 4 (.k (.bool false))])
 (.rt))
 (.sk))))
 (rg [om 87 (.t 7),
 oo 88 (.bi .add 0 (.t 87) (i6 1)),
 om 7 (.t 88)]))))))
 (.sq (rg [om 4 (.k (.bool true))])
 (.rt)))))))) }
theorem k_spec_l2Good : chkF Go.Proofs.Tryz.prog fid_spec_l2Good c_spec_l2Good = true := by kernel_rfl

def c_spec_l1In : F2 :=
  { nt := 15, res := [.t 6 [0]], body :=
   (.sq (rg [om 6 (.k (.bool false))])
 (.sq (rg [om 7 (.t 0),
 om 8 (.t 1),
 oo 9 (.bi .geq 0 (.t 7) (.t 8)),
 om 10 (.t 9),
 og 11 10 true (.mv (.t 0) none),
 og 12 10 true (.mv (.t 2) none),
 og 13 10 true (.bi .leq 0 (.t 11) (.t 12)),
 oo 14 (.pk (.t 10) (.t 13) (.k (.bool false))),
 om 6 (.t 14)])
 (.rt))) }
theorem k_spec_l1In : chkF Go.Proofs.Tryz.prog fid_spec_l1In c_spec_l1In = true := by kernel_rfl

def c_spec_l2At : F2 :=
  { nt := 19, res := [.t 4 [0]], body :=
   (.sq (rg [om 4 (i6 0)])
 (.sq (.sq (rg [om 5 (i6 0)])
 (.bl 0 (.lp [0, 1, 5] [] (.sq (.sq (rg [om 6 (.t 5),
 om 7 (.t 0),
 oo 8 (.ln (.t 7)),
 oo 9 (.bi .lss 0 (.t 6) (.t 8))])
 (.cd (.t 9) (.sk)
 (.ex 0)))
 (.sq (.bl 1 (.sq (rg [om 12 (.t 0),
 om 13 (.t 5),
 oo 14 (.ia 1 (.t 12) (.t 13)),
 oo 15 (.ld none (.t 14)),
 om 16 (.t 1),
 oo 17 (.bi .eql 0 (.t 15) (.t 16))])
 (.cd (.t 17) (.sq (rg [om 18 (.t 5),
 om 4 (.t 18)])
 (.rt))
 (.sk))))
 (rg [om 10 (.t 5),
 oo 11 (.bi .add 0 (.t 10) (i6 1)),
 om 5 (.t 11)]))))))
 (.sq (rg [om 4 (i6 (-1))])
 (.rt)))) }
theorem k_spec_l2At : chkF Go.Proofs.Tryz.prog fid_spec_l2At c_spec_l2At = true := by kernel_rfl

def c_spec_l2Give : F2 :=
  { nt := 12, res := [.c 4 (some 6) [0, 4, 2, 0, 2, 3], .t 5 [0]], body :=
   (.sq (rg [oo 3 (.bt (.t 1)),
 oo 4 (.al [.int .i64 0, .slice none 0 0, .slice none 0 0, .int .i64 0, .slice none 0 0, .slice none 0 0] []),
 om 5 (.k (.bool false))])
 (.sq (.sq (rg [om 6 (.t 0),
 oo 7 (.ld (some 6) (.t 3)),
 oo 8 (.ca .pure false (.f fid_spec_l2Good) [.t 6, .t 7]),
 oo 9 (.nt (.t 8))])
 (.cd (.t 9) (.sq (rg [oo 10 (.bd [.int .i64 0, .slice none 0 0, .slice none 0 0, .int .i64 0, .slice none 0 0, .slice none 0 0] [] []),
 on1 (.st 6 (.t 4) (.t 10)),
 om 5 (.k (.bool false))])
 (.rt))
 (.sk)))
 (.sq (rg [oo 11 (.ld (some 6) (.t 3)),
 on1 (.st 6 (.t 4) (.t 11)),
 om 5 (.k (.bool true))])
 (.rt)))) }
theorem k_spec_l2Give : chkF Go.Proofs.Tryz.prog fid_spec_l2Give c_spec_l2Give = true := by kernel_rfl

def c_spec_l4Named : F2 :=
  { nt := 28, res := [.t 6 [2]], body :=
   (.sq (rg [om 6 (.k (.slice none 0 0))])
 (.sq (rg [oo 9 (.bs 1 0 [] []),
 om 7 (.t 9)])
 (.sq (.sq (rg [om 8 (i6 0)])
 (.bl 0 (.lp [0, 1, 2, 7, 8] [288, 832] (.sq (.sq (rg [om 10 (.t 8),
 om 11 (.t 0),
 oo 12 (.ln (.t 11)),
 oo 13 (.bi .lss 0 (.t 10) (.t 12))])
 (.cd (.t 13) (.sk)
 (.ex 0)))
 (.sq (.bl 1 (rg [om 16 (.t 7),
 om 17 (.t 1),
 om 18 (.t 2),
 om 19 (.t 0),
 om 20 (.t 8),
 oo 21 (.ia 1 (.t 19) (.t 20)),
 oo 22 (.ld none (.t 21)),
 oo 23 (.ca .pure false (.f fid_spec_l2At) [.t 18, .t 22]),
 oo 24 (.bi .add 0 (.t 17) (.t 23)),
 oo 25 (.bs 1 1 [.int .i64 0] [(0, .t 24)]),
 oo 26 (.ap 1 0 (.t 16) (.t 25)),
 om 7 (.t 26)]))
 (rg [om 14 (.t 8),
 oo 15 (.bi .add 0 (.t 14) (i6 1)),
 om 8 (.t 15)]))))))
 (.sq (rg [om 27 (.t 7),
 om 6 (.t 27)])
 (.rt))))) }
theorem k_spec_l4Named : chkF Go.Proofs.Tryz.prog fid_spec_l4Named c_spec_l4Named = true := by kernel_rfl

def c_impl_IsBigraph : F2 :=
  { nt := 101, res := [.t 4 [0]], body :=
   (.sq (rg [oo 2 (.bt (.t 0)),
 oo 3 (.bt (.t 1)),
 om 4 (.k (.bool false))])
 (.sq (.sq (rg [oo 7 (.ld none (.t 2)),
 oo 8 (.ca .pure false (.f fid_impl_IsSignature) [.t 7]),
 oo 9 (.nt (.t 8)),
 om 10 (.t 9),
 og 11 10 false (.fa 0 (.t 3)),
 og 12 10 false (.ld none (.t 11)),
 og 13 10 false (.ca .pure false (.f fid_impl_within) [.t 12, i6 0, i6 4]),
 og 14 10 false (.nt (.t 13)),
 oo 15 (.pk (.t 10) (.k (.bool true)) (.t 14)),
 om 16 (.t 15),
 og 17 16 false (.fa 1 (.t 3)),
 og 18 16 false (.ld none (.t 17)),
 og 19 16 false (.ln (.t 18)),
 og 20 16 false (.bi .gtr 0 (.t 19) (i6 8)),
 oo 21 (.pk (.t 16) (.k (.bool true)) (.t 20)),
 om 22 (.t 21),
 og 23 22 false (.fa 2 (.t 3)),
 og 24 22 false (.ld none (.t 23)),
 og 25 22 false (.ln (.t 24)),
 og 26 22 false (.bi .gtr 0 (.t 25) (i6 4)),
 oo 27 (.pk (.t 22) (.k (.bool true)) (.t 26)),
 om 28 (.t 27),
 og 29 28 false (.fa 3 (.t 3)),
 og 30 28 false (.ld none (.t 29)),
 og 31 28 false (.ca .pure false (.f fid_impl_within) [.t 30, i6 0, i6 8]),
 og 32 28 false (.nt (.t 31)),
 oo 33 (.pk (.t 28) (.k (.bool true)) (.t 32)),
 om 34 (.t 33),
 og 35 34 false (.fa 4 (.t 3)),
 og 36 34 false (.ld none (.t 35)),
 og 37 34 false (.ca .pure false (.f fid_impl_areNames) [.t 36]),
 og 38 34 false (.nt (.t 37)),
 oo 39 (.pk (.t 34) (.k (.bool true)) (.t 38)),
 om 40 (.t 39),
 og 41 40 false (.ld (some 6) (.t 3)),
 og 42 40 false (.ca .pure false (.f fid_impl_Bigraph_innerNames) [.t 41]),
 og 43 40 false (.ca .pure false (.f fid_impl_areNames) [.t 42]),
 og 44 40 false (.nt (.t 43)),
 oo 45 (.pk (.t 40) (.k (.bool true)) (.t 44))])
 (.cd (.t 45) (.sq (rg [om 4 (.k (.bool false))])
 (.rt))
 (.sk)))
 (.sq (.sq (rg [oo 46 (.fa 1 (.t 3)),
 oo 47 (.ld none (.t 46)),
 oo 48 (.ln (.t 47)),
 om 49 (i6 0)])
 (.bl 0 (.lp [2, 3, 47, 48, 49] [] (.sq (rg [oo 50 (.bi .lss 0 (.t 49) (.t 48))])
 (.sq (.cd (.t 50) (.sk)
 (.ex 0))
 (.sq (.bl 1 (.sq (rg [om 51 (.t 49),
 oo 52 (.ia 3 (.t 47) (.t 49)),
 oo 53 (.ld (some 3) (.t 52)),
 oo 6 (.al [.int .i64 0, .int .i64 0, .slice none 0 0] []),
 om 5 (.t 51),
 on1 (.st 3 (.t 6) (.t 53))])
 (.sq (.rg (some 0) [oo 54 (.fa 0 (.t 6)),
 oo 55 (.ld none (.t 54)),
 oo 56 (.ld none (.t 2)),
 oo 57 (.ln (.t 56)),
 oo 58 (.bi .sub 0 (.t 57) (i6 1)),
 oo 59 (.ca .pure false (.f fid_impl_within) [.t 55, i6 0, .t 58]),
 oo 60 (.nt (.t 59)),
 om 61 (.t 60),
 og 62 61 false (.ld (some 6) (.t 3)),
 og 63 61 false (.ld none (.t 2)),
 og 64 61 false (.fa 1 (.t 6)),
 og 65 61 false (.ld none (.t 64)),
 og 66 61 false (.mv (.t 5) none),
 og 67 61 false (.ca .pure false (.f fid_impl_Bigraph_isParent) [.t 62, .t 63, .t 65, .t 66]),
 og 68 61 false (.nt (.t 67)),
 oo 69 (.pk (.t 61) (.k (.bool true)) (.t 68)),
 om 70 (.t 69),
 og 71 70 false (.fa 2 (.t 6)),
 og 72 70 false (.ld none (.t 71)),
 og 73 70 false (.ln (.t 72)),
 og 74 70 false (.ld none (.t 2)),
 og 75 70 false (.fa 0 (.t 6)),
 og 76 70 false (.ld none (.t 75)),
 og 77 70 false (.ia 3 (.t 74) (.t 76)),
 og 78 70 false (.fa 1 (.t 77)),
 og 79 70 false (.ld none (.t 78)),
 og 80 70 false (.bi .neq 0 (.t 73) (.t 79)),
 oo 81 (.pk (.t 70) (.k (.bool true)) (.t 80)),
 om 82 (.t 81),
 og 83 82 false (.fa 2 (.t 6)),
 og 84 82 false (.ld none (.t 83)),
 og 85 82 false (.mf fid_impl_IsBigraph_1 [.t 3]),
 og 86 82 false (.ca .pure false (.f fid_slices_ContainsFunc_int_int) [.t 84, .t 85]),
 oo 87 (.pk (.t 82) (.k (.bool true)) (.t 86))])
 (.cd (.t 87) (.sq (rg [om 4 (.k (.bool false))])
 (.rt))
 (.sk)))))
 (rg [oo 88 (.bi .add 0 (.t 49) (i6 1)),
 om 49 (.t 88)])))))))
 (.sq (rg [oo 89 (.fa 2 (.t 3)),
 oo 90 (.ld none (.t 89)),
 oo 91 (.mf fid_impl_IsBigraph_2 [.t 3, .t 2]),
 oo 92 (.ca .pure false (.f fid_slices_ContainsFunc_int_int) [.t 90, .t 91]),
 oo 93 (.nt (.t 92)),
 om 94 (.t 93),
 og 95 94 true (.fa 5 (.t 3)),
 og 96 94 true (.ld none (.t 95)),
 og 97 94 true (.mf fid_impl_IsBigraph_3 [.t 3]),
 og 98 94 true (.ca .pure false (.f fid_slices_ContainsFunc_impl_Wire_impl_Wire) [.t 96, .t 97]),
 og 99 94 true (.nt (.t 98)),
 oo 100 (.pk (.t 94) (.t 99) (.k (.bool false))),
 om 4 (.t 100)])
 (.rt))))) }
theorem k_impl_IsBigraph : chkF Go.Proofs.Tryz.prog fid_impl_IsBigraph c_impl_IsBigraph = true := by kernel_rfl

def c_impl_within : F2 :=
  { nt := 15, res := [.t 6 [0]], body :=
   (.sq (rg [om 6 (.k (.bool false))])
 (.sq (rg [om 7 (.t 0),
 om 8 (.t 1),
 oo 9 (.bi .geq 0 (.t 7) (.t 8)),
 om 10 (.t 9),
 og 11 10 true (.mv (.t 0) none),
 og 12 10 true (.mv (.t 2) none),
 og 13 10 true (.bi .leq 0 (.t 11) (.t 12)),
 oo 14 (.pk (.t 10) (.t 13) (.k (.bool false))),
 om 6 (.t 14)])
 (.rt))) }
theorem k_impl_within : chkF Go.Proofs.Tryz.prog fid_impl_within c_impl_within = true := by kernel_rfl

def c_impl_isName : F2 :=
  { nt := 11, res := [.t 2 [0]], body :=
   (.sq (rg [om 2 (.k (.bool false))])
 (.sq (rg [om 3 (.t 0),
 oo 4 (.lg (.t 3)),
 oo 5 (.ca .pure false (.f fid_impl_within) [.t 4, i6 1, i6 4]),
 om 6 (.t 5),
 og 7 6 true (.mv (.t 0) none),
 og 8 6 true (.ca .pure false (.f fid_strings_Trim) [.t 7, .k (.string ⟨#[97, 98, 99, 100, 101, 102, 103, 104, 105, 106, 107, 108, 109, 110, 111, 112, 113, 114, 115, 116, 117, 118, 119, 120, 121, 122]⟩)]),
 og 9 6 true (.bi .eql 0 (.t 8) (.k (.string ⟨#[]⟩))),
 oo 10 (.pk (.t 6) (.t 9) (.k (.bool false))),
 om 2 (.t 10)])
 (.rt))) }
theorem k_impl_isName : chkF Go.Proofs.Tryz.prog fid_impl_isName c_impl_isName = true := by kernel_rfl

def c_impl_valid : F2 :=
  { nt := 13, res := [.c 4 (some 6) [0, 4, 2, 0, 2, 3], .t 5 [0]], body :=
   (.sq (rg [oo 3 (.bt (.t 1)),
 oo 4 (.al [.int .i64 0, .slice none 0 0, .slice none 0 0, .int .i64 0, .slice none 0 0, .slice none 0 0] []),
 om 5 (.k (.bool false))])
 (.sq (.sq (rg [om 6 (.t 0),
 oo 7 (.ld (some 6) (.t 3)),
 oo 8 (.ca .pure false (.f fid_impl_IsBigraph) [.t 6, .t 7]),
 oo 9 (.nt (.t 8))])
 (.cd (.t 9) (.sq (rg [oo 10 (.bd [.int .i64 0, .slice none 0 0, .slice none 0 0, .int .i64 0, .slice none 0 0, .slice none 0 0] [] []),
 on1 (.st 6 (.t 4) (.t 10)),
 om 5 (.k (.bool false))])
 (.rt))
 (.sk)))
 (.sq (rg [oo 11 (.ld (some 6) (.t 3)),
 oo 12 (.ca .pure true (.f fid_impl_ownBigraph) [.t 11]),
 on1 (.st 6 (.t 4) (.t 12)),
 om 5 (.k (.bool true))])
 (.rt)))) }
theorem k_impl_valid : chkF Go.Proofs.Tryz.prog fid_impl_valid c_impl_valid = true := by kernel_rfl

def c_impl_Bigraph_relinked : F2 :=
  { nt := 68, res := [.c 8 (some 6) [0, 4, 2, 0, 2, 3]], body :=
   (.sq (rg [oo 4 (.bt (.t 0)),
 oo 5 (.bt (.t 1)),
 oo 7 (.bx (.t 3)),
 oo 8 (.al [.int .i64 0, .slice none 0 0, .slice none 0 0, .int .i64 0, .slice none 0 0, .slice none 0 0] [])])
 (.sq (rg [oo 17 (.ld (some 6) (.t 4)),
 oo 18 (.ca .pure true (.f fid_impl_ownBigraph) [.t 17]),
 oo 9 (.al [.int .i64 0, .slice none 0 0, .slice none 0 0, .int .i64 0, .slice none 0 0, .slice none 0 0] []),
 on1 (.st 6 (.t 9) (.t 18))])
 (.sq (.rg (some 0) [oo 19 (.ld none (.t 5)),
 om 20 (.t 2),
 oo 21 (.ca .pure true (.f fid_impl_sortedNames) [.t 20]),
 oo 22 (.fa 3 (.t 9)),
 on1 (.st 1 (.t 22) (.t 19)),
 oo 23 (.fa 4 (.t 9)),
 on1 (.st 1 (.t 23) (.t 21))])
 (.sq (rg [oo 24 (.mf fid_impl_Bigraph_relinked_1 [.t 7, .t 4, .t 5, .t 9]),
 om 10 (.t 24)])
 (.sq (.sq (rg [oo 25 (.fa 1 (.t 9)),
 oo 26 (.ld none (.t 25)),
 oo 27 (.ln (.t 26)),
 om 28 (i6 0)])
 (.bl 0 (.lp [8, 9, 10, 26, 27, 28] [224, 256, 288, 576, 577, 578, 579, 672] (.sq (rg [oo 29 (.bi .lss 0 (.t 28) (.t 27))])
 (.sq (.cd (.t 29) (.sk)
 (.ex 0))
 (.sq (.bl 1 (.sq (rg [oo 30 (.ia 3 (.t 26) (.t 28)),
 oo 31 (.ld (some 3) (.t 30)),
 oo 12 (.al [.int .i64 0, .int .i64 0, .slice none 0 0] []),
 on1 (.st 3 (.t 12) (.t 31))])
 (.sq (rg [oo 32 (.fa 2 (.t 12)),
 oo 33 (.ld none (.t 32)),
 oo 34 (.ln (.t 33)),
 om 35 (i6 0)])
 (.bl 2 (.lp [8, 9, 10, 12, 26, 27, 28, 33, 34, 35] [224, 256, 288, 384, 576, 577, 578, 579, 672] (.sq (rg [oo 36 (.bi .lss 0 (.t 35) (.t 34))])
 (.sq (.cd (.t 36) (.sk)
 (.ex 2))
 (.sq (.bl 3 (.sq (rg [om 37 (.t 35),
 oo 38 (.ia 1 (.t 33) (.t 35)),
 oo 39 (.ld none (.t 38)),
 om 13 (.t 37),
 om 14 (.t 39)])
 (.rg (some 0) [oo 40 (.fa 2 (.t 12)),
 oo 41 (.ld none (.t 40)),
 om 42 (.t 13),
 om 43 (.t 10),
 om 44 (.t 14),
 oo 45 (.ca .see false (.t 43) [.t 44]),
 oo 46 (.ia 1 (.t 41) (.t 42)),
 on1 (.st 1 (.t 46) (.t 45))])))
 (rg [oo 47 (.bi .add 0 (.t 35) (i6 1)),
 om 35 (.t 47)])))))))))
 (rg [oo 48 (.bi .add 0 (.t 28) (i6 1)),
 om 28 (.t 48)])))))))
 (.sq (.sq (rg [oo 49 (.fa 5 (.t 9)),
 oo 50 (.ld none (.t 49)),
 oo 51 (.ln (.t 50)),
 om 52 (i6 0)])
 (.bl 4 (.lp [8, 9, 10, 50, 51, 52] [224, 256, 288, 576, 577, 578, 579, 672] (.sq (rg [oo 53 (.bi .lss 0 (.t 52) (.t 51))])
 (.sq (.cd (.t 53) (.sk)
 (.ex 4))
 (.sq (.bl 5 (.sq (rg [om 54 (.t 52),
 oo 55 (.ia 2 (.t 50) (.t 52)),
 oo 56 (.ld (some 2) (.t 55)),
 oo 16 (.al [.string ⟨#[]⟩, .int .i64 0] []),
 om 15 (.t 54),
 on1 (.st 2 (.t 16) (.t 56))])
 (.rg (some 0) [oo 57 (.fa 5 (.t 9)),
 oo 58 (.ld none (.t 57)),
 om 59 (.t 15),
 om 60 (.t 10),
 oo 61 (.fa 1 (.t 16)),
 oo 62 (.ld none (.t 61)),
 oo 63 (.ca .see false (.t 60) [.t 62]),
 oo 64 (.ia 2 (.t 58) (.t 59)),
 oo 65 (.fa 1 (.t 64)),
 on1 (.st 1 (.t 65) (.t 63))])))
 (rg [oo 66 (.bi .add 0 (.t 52) (i6 1)),
 om 52 (.t 66)])))))))
 (.sq (rg [oo 67 (.ld (some 6) (.t 9)),
 on1 (.st 6 (.t 8) (.t 67))])
 (.rt)))))))) }
theorem k_impl_Bigraph_relinked : chkF Go.Proofs.Tryz.prog fid_impl_Bigraph_relinked c_impl_Bigraph_relinked = true := by kernel_rfl

def c_slices_Clone_string_string : F2 :=
  { nt := 8, res := [.t 2 [2]], body :=
   (.sq (rg [om 2 (.k (.slice none 0 0))])
 (.sq (.sq (rg [om 3 (.t 0),
 oo 4 (.nl false (.t 3))])
 (.cd (.t 4) (.sq (rg [om 2 (.k (.slice none 0 0))])
 (.rt))
 (.sk)))
 (.sq (rg [oo 5 (.bs 1 0 [] []),
 om 6 (.t 0),
 oo 7 (.ap 1 0 (.t 5) (.t 6)),
 om 2 (.t 7)])
 (.rt)))) }
theorem k_slices_Clone_string_string : chkF Go.Proofs.Tryz.prog fid_slices_Clone_string_string c_slices_Clone_string_string = true := by kernel_rfl

def c_spec_l4Compose : F2 :=
  { nt := 32, res := [.c 6 (some 6) [0, 4, 2, 0, 2, 3], .t 7 [0]], body :=
   (.sq (rg [oo 4 (.bt (.t 1)),
 oo 5 (.bt (.t 2)),
 oo 6 (.al [.int .i64 0, .slice none 0 0, .slice none 0 0, .int .i64 0, .slice none 0 0, .slice none 0 0] []),
 om 7 (.k (.bool false))])
 (.sq (.sq (rg [om 8 (.t 0),
 oo 9 (.ld (some 6) (.t 4)),
 oo 10 (.ca .pure false (.f fid_spec_l2Good) [.t 8, .t 9]),
 oo 11 (.nt (.t 10)),
 om 12 (.t 11),
 og 13 12 false (.mv (.t 0) none),
 og 14 12 false (.ld (some 6) (.t 5)),
 og 15 12 false (.ca .pure false (.f fid_spec_l2Good) [.t 13, .t 14]),
 og 16 12 false (.nt (.t 15)),
 oo 17 (.pk (.t 12) (.k (.bool true)) (.t 16)),
 om 18 (.t 17),
 og 19 18 false (.ld (some 6) (.t 4)),
 og 20 18 false (.ld (some 6) (.t 5)),
 og 21 18 false (.ca .pure false (.f fid_spec_l4Fits) [.t 19, .t 20]),
 og 22 18 false (.nt (.t 21)),
 oo 23 (.pk (.t 18) (.k (.bool true)) (.t 22))])
 (.cd (.t 23) (.sq (rg [oo 24 (.bd [.int .i64 0, .slice none 0 0, .slice none 0 0, .int .i64 0, .slice none 0 0, .slice none 0 0] [] []),
 on1 (.st 6 (.t 6) (.t 24)),
 om 7 (.k (.bool false))])
 (.rt))
 (.sk)))
 (.sq (rg [om 25 (.t 0),
 oo 26 (.ld (some 6) (.t 4)),
 oo 27 (.ld (some 6) (.t 5)),
 oo 28 (.ca .pure false (.f fid_spec_l4After) [.t 26, .t 27]),
 oo 29 (.ca .pure true (.f fid_spec_l2Give) [.t 25, .t 28]),
 oo 30 (.ex 0 (.t 29)),
 oo 31 (.ex 1 (.t 29)),
 on1 (.st 6 (.t 6) (.t 30)),
 om 7 (.t 31)])
 (.rt)))) }
theorem k_spec_l4Compose : chkF Go.Proofs.Tryz.prog fid_spec_l4Compose c_spec_l4Compose = true := by kernel_rfl

def c_impl_fits : F2 :=
  { nt := 18, res := [.t 4 [0]], body :=
   (.sq (rg [oo 2 (.bt (.t 0)),
 oo 3 (.bt (.t 1)),
 om 4 (.k (.bool false))])
 (.sq (.rg (some 0) [oo 5 (.fa 2 (.t 2)),
 oo 6 (.ld none (.t 5)),
 oo 7 (.ln (.t 6)),
 oo 8 (.fa 0 (.t 3)),
 oo 9 (.ld none (.t 8)),
 oo 10 (.bi .eql 0 (.t 7) (.t 9)),
 om 11 (.t 10),
 og 12 11 true (.ld (some 6) (.t 2)),
 og 13 11 true (.ca .pure false (.f fid_impl_Bigraph_innerNames) [.t 12]),
 og 14 11 true (.fa 4 (.t 3)),
 og 15 11 true (.ld none (.t 14)),
 og 16 11 true (.ca .pure false (.f fid_slices_Equal_string_string) [.t 13, .t 15]),
 oo 17 (.pk (.t 11) (.t 16) (.k (.bool false))),
 om 4 (.t 17)])
 (.rt))) }
theorem k_impl_fits : chkF Go.Proofs.Tryz.prog fid_impl_fits c_impl_fits = true := by kernel_rfl

def c_impl_composed : F2 :=
  { nt := 17, res := [.c 4 (some 6) [0, 0, 0, 0, 0, 0]], body :=
   (.sq (rg [oo 2 (.bt (.t 0)),
 oo 3 (.bt (.t 1)),
 oo 4 (.al [.int .i64 0, .slice none 0 0, .slice none 0 0, .int .i64 0, .slice none 0 0, .slice none 0 0] [])])
 (.sq (rg [oo 6 (.ld (some 6) (.t 2)),
 oo 7 (.ca .pure false (.f fid_impl_Bigraph_innerNames) [.t 6]),
 oo 5 (.al [.slice none 0 0] []),
 on1 (.st 1 (.t 5) (.t 7))])
 (.sq (rg [oo 8 (.ld (some 6) (.t 2)),
 oo 9 (.ld (some 6) (.t 3)),
 oo 10 (.fa 0 (.t 2)),
 oo 11 (.ld none (.t 10)),
 oo 12 (.fa 4 (.t 2)),
 oo 13 (.ld none (.t 12)),
 oo 14 (.mf fid_impl_composed_1 [.t 2]),
 oo 15 (.mz fid_impl_composed_2 [.t 2, .t 5]),
 oo 16 (.ca .pure false (.f fid_impl_joined) [.t 8, .t 9, .t 11, .k (.slice none 0 0), .t 13, .t 14, .t 15]),
 on1 (.st 6 (.t 4) (.t 16))])
 (.rt)))) }
theorem k_impl_composed : chkF Go.Proofs.Tryz.prog fid_impl_composed c_impl_composed = true := by kernel_rfl

def c_impl_joined : F2 :=
  { nt := 86, res := [.c 14 (some 6) [0, 4, 2, 0, 2, 0]], body :=
   (.sq (rg [oo 7 (.bt (.t 0)),
 oo 8 (.bt (.t 1)),
 oo 13 (.bx (.t 6)),
 oo 14 (.al [.int .i64 0, .slice none 0 0, .slice none 0 0, .int .i64 0, .slice none 0 0, .slice none 0 0] [])])
 (.sq (rg [oo 23 (.fa 3 (.t 7)),
 oo 24 (.ld none (.t 23)),
 oo 25 (.fa 3 (.t 8)),
 oo 26 (.ld none (.t 25)),
 oo 27 (.bi .add 0 (.t 24) (.t 26)),
 om 15 (.t 27)])
 (.sq (rg [oo 28 (.ld (some 6) (.t 7)),
 om 29 (.t 15),
 om 30 (.t 4),
 oo 31 (.ca .pure true (.f fid_impl_Bigraph_relinked) [.t 28, .t 29, .t 30, .f fid_impl_joined_1]),
 oo 16 (.al [.int .i64 0, .slice none 0 0, .slice none 0 0, .int .i64 0, .slice none 0 0, .slice none 0 0] []),
 on1 (.st 6 (.t 16) (.t 31))])
 (.sq (rg [oo 32 (.ld (some 6) (.t 8)),
 om 33 (.t 15),
 om 34 (.t 4),
 oo 35 (.mf fid_impl_joined_2 [.t 7, .t 13]),
 oo 36 (.ca .see false (.f fid_impl_Bigraph_relinked) [.t 32, .t 33, .t 34, .t 35]),
 oo 17 (.al [.int .i64 0, .slice none 0 0, .slice none 0 0, .int .i64 0, .slice none 0 0, .slice none 0 0] []),
 on1 (.st 6 (.t 17) (.t 36))])
 (.sq (.rg (some 0) [om 37 (.t 2),
 oo 38 (.fa 1 (.t 16)),
 oo 39 (.ld none (.t 38)),
 om 40 (.t 3),
 oo 41 (.ca .pure true (.f fid_slices_Clone_int_int) [.t 40]),
 om 42 (.t 15),
 oo 43 (.fa 4 (.t 16)),
 oo 44 (.ld none (.t 43)),
 oo 45 (.fa 5 (.t 17)),
 oo 46 (.ld none (.t 45)),
 oo 47 (.bd [.int .i64 0, .slice none 0 0, .slice none 0 0, .int .i64 0, .slice none 0 0, .slice none 0 0] [(0, 1, .t 37), (1, 1, .t 39), (2, 1, .t 41), (3, 1, .t 42), (4, 1, .t 44), (5, 1, .t 46)] []),
 oo 18 (.al [.int .i64 0, .slice none 0 0, .slice none 0 0, .int .i64 0, .slice none 0 0, .slice none 0 0] []),
 on1 (.st 6 (.t 18) (.t 47))])
 (.sq (.sq (rg [oo 48 (.fa 1 (.t 17)),
 oo 49 (.ld none (.t 48)),
 oo 50 (.ln (.t 49)),
 om 51 (i6 0)])
 (.bl 0 (.lp [5, 7, 8, 14, 18, 49, 50, 51] [448, 512, 544, 576, 992, 993, 994, 995, 1312, 2080, 2624] (.sq (rg [oo 52 (.bi .lss 0 (.t 51) (.t 50))])
 (.sq (.cd (.t 52) (.sk)
 (.ex 0))
 (.sq (.bl 1 (.sq (rg [oo 53 (.ia 3 (.t 49) (.t 51)),
 oo 54 (.ld (some 3) (.t 53)),
 oo 20 (.al [.int .i64 0, .int .i64 0, .slice none 0 0] []),
 on1 (.st 3 (.t 20) (.t 54))])
 (.sq (rg [oo 55 (.ld (some 6) (.t 7)),
 oo 56 (.fa 1 (.t 20)),
 oo 57 (.ld none (.t 56)),
 om 58 (.t 5),
 oo 59 (.ca .pure false (.f fid_impl_moved) [.t 55, .t 57, .t 58]),
 oo 60 (.fa 1 (.t 20)),
 on1 (.st 1 (.t 60) (.t 59))])
 (rg [oo 61 (.fa 1 (.t 18)),
 oo 62 (.ld none (.t 61)),
 oo 63 (.ld (some 3) (.t 20)),
 oo 64 (.bw 3 1 [.int .i64 0, .int .i64 0, .slice none 0 0] [(0, .t 63)]),
 oo 65 (.ap 3 2 (.t 62) (.t 64)),
 oo 66 (.fa 1 (.t 18)),
 on1 (.st 1 (.t 66) (.t 65))]))))
 (rg [oo 67 (.bi .add 0 (.t 51) (i6 1)),
 om 51 (.t 67)])))))))
 (.sq (.sq (rg [oo 68 (.fa 2 (.t 8)),
 oo 69 (.ld none (.t 68)),
 oo 70 (.ln (.t 69)),
 om 71 (i6 0)])
 (.bl 2 (.lp [5, 7, 14, 18, 69, 70, 71] [448, 512, 544, 576, 992, 993, 994, 995, 1312, 2080, 2624] (.sq (rg [oo 72 (.bi .lss 0 (.t 71) (.t 70))])
 (.sq (.cd (.t 72) (.sk)
 (.ex 2))
 (.sq (.bl 3 (.sq (rg [oo 73 (.ia 1 (.t 69) (.t 71)),
 oo 74 (.ld none (.t 73)),
 om 22 (.t 74)])
 (.rg (some 0) [oo 75 (.fa 2 (.t 18)),
 oo 76 (.ld none (.t 75)),
 oo 77 (.ld (some 6) (.t 7)),
 om 78 (.t 22),
 om 79 (.t 5),
 oo 80 (.ca .pure false (.f fid_impl_moved) [.t 77, .t 78, .t 79]),
 oo 81 (.bs 1 1 [.int .i64 0] [(0, .t 80)]),
 oo 82 (.ap 1 0 (.t 76) (.t 81)),
 oo 83 (.fa 2 (.t 18)),
 on1 (.st 1 (.t 83) (.t 82))])))
 (rg [oo 84 (.bi .add 0 (.t 71) (i6 1)),
 om 71 (.t 84)])))))))
 (.sq (rg [oo 85 (.ld (some 6) (.t 18)),
 on1 (.st 6 (.t 14) (.t 85))])
 (.rt))))))))) }
theorem k_impl_joined : chkF Go.Proofs.Tryz.prog fid_impl_joined c_impl_joined = true := by kernel_rfl

def c_spec_l2Own : F2 :=
  { nt := 34, res := [.c 2 (some 6) [0, 4, 2, 0, 2, 3]], body :=
   (.sq (rg [oo 1 (.bt (.t 0)),
 oo 2 (.al [.int .i64 0, .slice none 0 0, .slice none 0 0, .int .i64 0, .slice none 0 0, .slice none 0 0] [])])
 (.sq (rg [oo 7 (.bs 1 0 [] []),
 oo 8 (.bs 1 0 [] []),
 om 3 (.t 7),
 om 4 (.t 8)])
 (.sq (.sq (rg [om 5 (i6 0)])
 (.bl 0 (.lp [1, 2, 3, 4, 5] [64, 224, 256, 608, 928, 1056, 1057, 1058, 1059] (.sq (.sq (rg [om 9 (.t 5),
 oo 10 (.fa 1 (.t 1)),
 oo 11 (.ld none (.t 10)),
 oo 12 (.ln (.t 11)),
 oo 13 (.bi .lss 0 (.t 9) (.t 12))])
 (.cd (.t 13) (.sk)
 (.ex 0)))
 (.sq (.bl 1 (rg [om 16 (.t 3),
 om 17 (.t 5),
 oo 18 (.bs 1 1 [.int .i64 0] [(0, .t 17)]),
 oo 19 (.ap 1 0 (.t 16) (.t 18)),
 om 3 (.t 19)]))
 (rg [om 14 (.t 5),
 oo 15 (.bi .add 0 (.t 14) (i6 1)),
 om 5 (.t 15)]))))))
 (.sq (.sq (rg [om 6 (i6 0)])
 (.bl 2 (.lp [1, 2, 3, 4, 6] [64, 224, 256, 608, 928, 1056, 1057, 1058, 1059] (.sq (.sq (rg [om 20 (.t 6),
 oo 21 (.fa 3 (.t 1)),
 oo 22 (.ld none (.t 21)),
 oo 23 (.bi .lss 0 (.t 20) (.t 22))])
 (.cd (.t 23) (.sk)
 (.ex 2)))
 (.sq (.bl 3 (rg [om 26 (.t 4),
 om 27 (.t 6),
 oo 28 (.bs 1 1 [.int .i64 0] [(0, .t 27)]),
 oo 29 (.ap 1 0 (.t 26) (.t 28)),
 om 4 (.t 29)]))
 (rg [om 24 (.t 6),
 oo 25 (.bi .add 0 (.t 24) (i6 1)),
 om 6 (.t 25)]))))))
 (.sq (rg [oo 30 (.ld (some 6) (.t 1)),
 om 31 (.t 3),
 om 32 (.t 4),
 oo 33 (.ca .pure true (.f fid_spec_l2Renumber) [.t 30, .t 31, .t 32]),
 on1 (.st 6 (.t 2) (.t 33))])
 (.rt)))))) }
theorem k_spec_l2Own : chkF Go.Proofs.Tryz.prog fid_spec_l2Own c_spec_l2Own = true := by kernel_rfl

def c_impl_Bigraph_innerNames : F2 :=
  { nt := 21, res := [.t 2 [2]], body :=
   (.sq (rg [oo 1 (.bt (.t 0)),
 om 2 (.k (.slice none 0 0))])
 (.sq (rg [oo 6 (.bs 1 0 [] []),
 om 3 (.t 6)])
 (.sq (.sq (rg [oo 7 (.fa 5 (.t 1)),
 oo 8 (.ld none (.t 7)),
 oo 9 (.ln (.t 8)),
 om 10 (i6 0)])
 (.bl 0 (.lp [3, 8, 9, 10] [192, 576] (.sq (rg [oo 11 (.bi .lss 0 (.t 10) (.t 9))])
 (.sq (.cd (.t 11) (.sk)
 (.ex 0))
 (.sq (.bl 1 (.sq (rg [oo 12 (.ia 2 (.t 8) (.t 10)),
 oo 13 (.ld (some 2) (.t 12)),
 oo 5 (.al [.string ⟨#[]⟩, .int .i64 0] []),
 on1 (.st 2 (.t 5) (.t 13))])
 (rg [om 14 (.t 3),
 oo 15 (.fa 0 (.t 5)),
 oo 16 (.ld none (.t 15)),
 oo 17 (.bs 1 1 [.string ⟨#[]⟩] [(0, .t 16)]),
 oo 18 (.ap 1 0 (.t 14) (.t 17)),
 om 3 (.t 18)])))
 (rg [oo 19 (.bi .add 0 (.t 10) (i6 1)),
 om 10 (.t 19)])))))))
 (.sq (rg [om 20 (.t 3),
 om 2 (.t 20)])
 (.rt))))) }
theorem k_impl_Bigraph_innerNames : chkF Go.Proofs.Tryz.prog fid_impl_Bigraph_innerNames c_impl_Bigraph_innerNames = true := by kernel_rfl

def c_spec_l2Inner : F2 :=
  { nt := 23, res := [.t 2 [2]], body :=
   (.sq (rg [oo 1 (.bt (.t 0)),
 om 2 (.k (.slice none 0 0))])
 (.sq (rg [oo 5 (.bs 1 0 [] []),
 om 3 (.t 5)])
 (.sq (.sq (rg [om 4 (i6 0)])
 (.bl 0 (.lp [1, 3, 4] [160, 672] (.sq (.sq (rg [om 6 (.t 4),
 oo 7 (.fa 5 (.t 1)),
 oo 8 (.ld none (.t 7)),
 oo 9 (.ln (.t 8)),
 oo 10 (.bi .lss 0 (.t 6) (.t 9))])
 (.cd (.t 10) (.sk)
 (.ex 0)))
 (.sq (.bl 1 (rg [om 13 (.t 3),
 oo 14 (.fa 5 (.t 1)),
 oo 15 (.ld none (.t 14)),
 om 16 (.t 4),
 oo 17 (.ia 2 (.t 15) (.t 16)),
 oo 18 (.fa 0 (.t 17)),
 oo 19 (.ld none (.t 18)),
 oo 20 (.bs 1 1 [.string ⟨#[]⟩] [(0, .t 19)]),
 oo 21 (.ap 1 0 (.t 13) (.t 20)),
 om 3 (.t 21)]))
 (rg [om 11 (.t 4),
 oo 12 (.bi .add 0 (.t 11) (i6 1)),
 om 4 (.t 12)]))))))
 (.sq (rg [om 22 (.t 3),
 om 2 (.t 22)])
 (.rt))))) }
theorem k_spec_l2Inner : chkF Go.Proofs.Tryz.prog fid_spec_l2Inner c_spec_l2Inner = true := by kernel_rfl

def c_spec_l2Sig : F2 :=
  { nt := 55, res := [.t 2 [0]], body :=
   (.sq (rg [om 2 (.k (.bool false))])
 (.sq (.sq (rg [om 3 (i6 0)])
 (.bl 0 (.lp [0, 3] [] (.sq (.sq (rg [om 5 (.t 3),
 om 6 (.t 0),
 oo 7 (.ln (.t 6)),
 oo 8 (.bi .lss 0 (.t 5) (.t 7))])
 (.cd (.t 8) (.sk)
 (.ex 0)))
 (.sq (.bl 1 (.sq (.sq (rg [om 11 (.t 0),
 om 12 (.t 3),
 oo 13 (.ia 3 (.t 11) (.t 12)),
 oo 14 (.fa 0 (.t 13)),
 oo 15 (.ld none (.t 14)),
 oo 16 (.ca .pure false (.f fid_spec_l2Name) [.t 15]),
 oo 17 (.nt (.t 16)),
 om 18 (.t 17),
 og 19 18 false (.mv (.t 0) none),
 og 20 18 false (.mv (.t 3) none),
 og 21 18 false (.ia 3 (.t 19) (.t 20)),
 og 22 18 false (.fa 1 (.t 21)),
 og 23 18 false (.ld none (.t 22)),
 og 24 18 false (.ca .pure false (.f fid_spec_l1In) [.t 23, i6 0, i6 3]),
 og 25 18 false (.nt (.t 24)),
 oo 26 (.pk (.t 18) (.k (.bool true)) (.t 25)),
 om 27 (.t 26),
 og 28 27 false (.mv (.t 0) none),
 og 29 27 false (.mv (.t 3) none),
 og 30 27 false (.ia 3 (.t 28) (.t 29)),
 og 31 27 false (.fa 2 (.t 30)),
 og 32 27 false (.ld none (.t 31)),
 og 33 27 false (.ca .pure false (.f fid_spec_l1In) [.t 32, i6 0, i6 2]),
 og 34 27 false (.nt (.t 33)),
 oo 35 (.pk (.t 27) (.k (.bool true)) (.t 34))])
 (.cd (.t 35) (.sq (rg [om 2 (.k (.bool false))])
 (.rt))
 (.sk)))
 (.sq (rg [om 4 (i6 0)])
 (.bl 2 (.lp [0, 3, 4] [] (.sq (.sq (rg [om 36 (.t 4),
 om 37 (.t 3),
 oo 38 (.bi .lss 0 (.t 36) (.t 37))])
 (.cd (.t 38) (.sk)
 (.ex 2)))
 (.sq (.bl 3 (.sq (.rg (some 0) [om 41 (.t 0),
 om 42 (.t 4),
 oo 43 (.ia 3 (.t 41) (.t 42)),
 oo 44 (.fa 0 (.t 43)),
 oo 45 (.ld none (.t 44)),
 om 46 (.t 0),
 om 47 (.t 3),
 oo 48 (.ia 3 (.t 46) (.t 47)),
 oo 49 (.fa 0 (.t 48)),
 oo 50 (.ld none (.t 49)),
 oo 51 (.bi .eql 0 (.t 45) (.t 50))])
 (.cd (.t 51) (.sq (rg [om 2 (.k (.bool false))])
 (.rt))
 (.sk))))
 (rg [om 39 (.t 4),
 oo 40 (.bi .add 0 (.t 39) (i6 1)),
 om 4 (.t 40)]))))))))
 (rg [om 9 (.t 3),
 oo 10 (.bi .add 0 (.t 9) (i6 1)),
 om 3 (.t 10)]))))))
 (.sq (rg [om 52 (.t 0),
 oo 53 (.ln (.t 52)),
 oo 54 (.ca .pure false (.f fid_spec_l1In) [.t 53, i6 1, i6 6]),
 om 2 (.t 54)])
 (.rt)))) }
theorem k_spec_l2Sig : chkF Go.Proofs.Tryz.prog fid_spec_l2Sig c_spec_l2Sig = true := by kernel_rfl

def c_spec_l2Names : F2 :=
  { nt := 35, res := [.t 2 [0]], body :=
   (.sq (rg [om 2 (.k (.bool false))])
 (.sq (.sq (rg [om 3 (i6 0)])
 (.bl 0 (.lp [0, 3] [] (.sq (.sq (rg [om 4 (.t 3),
 om 5 (.t 0),
 oo 6 (.ln (.t 5)),
 oo 7 (.bi .lss 0 (.t 4) (.t 6))])
 (.cd (.t 7) (.sk)
 (.ex 0)))
 (.sq (.bl 1 (.sq (.rg (some 0) [om 10 (.t 0),
 om 11 (.t 3),
 oo 12 (.ia 1 (.t 10) (.t 11)),
 oo 13 (.ld none (.t 12)),
 oo 14 (.ca .pure false (.f fid_spec_l2Name) [.t 13]),
 oo 15 (.nt (.t 14)),
 om 16 (.t 15),
 og 17 16 false (.mv (.t 3) none),
 og 18 16 false (.bi .gtr 0 (.t 17) (i6 0)),
 og 19 16 false (.mv (.t 18) none),
 og 20 19 true (.mv (.t 0) none),
 og 21 19 true (.mv (.t 3) none),
 og 22 19 true (.bi .sub 0 (.t 21) (i6 1)),
 og 23 19 true (.ia 1 (.t 20) (.t 22)),
 og 24 19 true (.ld none (.t 23)),
 og 25 19 true (.mv (.t 0) none),
 og 26 19 true (.mv (.t 3) none),
 og 27 19 true (.ia 1 (.t 25) (.t 26)),
 og 28 19 true (.ld none (.t 27)),
 og 29 19 true (.bi .geq 0 (.t 24) (.t 28)),
 og 30 16 false (.pk (.t 19) (.t 29) (.k (.bool false))),
 oo 31 (.pk (.t 16) (.k (.bool true)) (.t 30))])
 (.cd (.t 31) (.sq (rg [om 2 (.k (.bool false))])
 (.rt))
 (.sk))))
 (rg [om 8 (.t 3),
 oo 9 (.bi .add 0 (.t 8) (i6 1)),
 om 3 (.t 9)]))))))
 (.sq (rg [om 32 (.t 0),
 oo 33 (.ln (.t 32)),
 oo 34 (.bi .leq 0 (.t 33) (i6 16)),
 om 2 (.t 34)])
 (.rt)))) }
theorem k_spec_l2Names : chkF Go.Proofs.Tryz.prog fid_spec_l2Names c_spec_l2Names = true := by kernel_rfl

def c_spec_l2Node : F2 :=
  { nt := 57, res := [.t 6 [0]], body :=
   (.sq (rg [oo 4 (.bt (.t 1)),
 om 6 (.k (.bool false))])
 (.sq (rg [oo 9 (.fa 1 (.t 4)),
 oo 10 (.ld none (.t 9)),
 om 11 (.t 2),
 oo 12 (.ia 3 (.t 10) (.t 11)),
 oo 13 (.ld (some 3) (.t 12)),
 oo 7 (.al [.int .i64 0, .int .i64 0, .slice none 0 0] []),
 on1 (.st 3 (.t 7) (.t 13))])
 (.sq (.sq (.rg (some 0) [oo 14 (.fa 0 (.t 7)),
 oo 15 (.ld none (.t 14)),
 om 16 (.t 0),
 oo 17 (.ln (.t 16)),
 oo 18 (.bi .sub 0 (.t 17) (i6 1)),
 oo 19 (.ca .pure false (.f fid_spec_l1In) [.t 15, i6 0, .t 18]),
 oo 20 (.nt (.t 19)),
 om 21 (.t 20),
 og 22 21 false (.mv (.t 0) none),
 og 23 21 false (.ld (some 6) (.t 4)),
 og 24 21 false (.fa 1 (.t 7)),
 og 25 21 false (.ld none (.t 24)),
 og 26 21 false (.mv (.t 2) none),
 og 27 21 false (.ca .pure false (.f fid_spec_l2Under) [.t 22, .t 23, .t 25, .t 26]),
 og 28 21 false (.nt (.t 27)),
 oo 29 (.pk (.t 21) (.k (.bool true)) (.t 28)),
 om 30 (.t 29),
 og 31 30 false (.fa 2 (.t 7)),
 og 32 30 false (.ld none (.t 31)),
 og 33 30 false (.ln (.t 32)),
 og 34 30 false (.mv (.t 0) none),
 og 35 30 false (.fa 0 (.t 7)),
 og 36 30 false (.ld none (.t 35)),
 og 37 30 false (.ia 3 (.t 34) (.t 36)),
 og 38 30 false (.fa 1 (.t 37)),
 og 39 30 false (.ld none (.t 38)),
 og 40 30 false (.bi .neq 0 (.t 33) (.t 39)),
 oo 41 (.pk (.t 30) (.k (.bool true)) (.t 40))])
 (.cd (.t 41) (.sq (rg [om 6 (.k (.bool false))])
 (.rt))
 (.sk)))
 (.sq (.sq (rg [om 8 (i6 0)])
 (.bl 0 (.lp [4, 7, 8] [224] (.sq (.sq (rg [om 42 (.t 8),
 oo 43 (.fa 2 (.t 7)),
 oo 44 (.ld none (.t 43)),
 oo 45 (.ln (.t 44)),
 oo 46 (.bi .lss 0 (.t 42) (.t 45))])
 (.cd (.t 46) (.sk)
 (.ex 0)))
 (.sq (.bl 1 (.sq (.rg (some 0) [oo 49 (.ld (some 6) (.t 4)),
 oo 50 (.fa 2 (.t 7)),
 oo 51 (.ld none (.t 50)),
 om 52 (.t 8),
 oo 53 (.ia 1 (.t 51) (.t 52)),
 oo 54 (.ld none (.t 53)),
 oo 55 (.ca .pure false (.f fid_spec_l2Link) [.t 49, .t 54]),
 oo 56 (.nt (.t 55))])
 (.cd (.t 56) (.sq (rg [om 6 (.k (.bool false))])
 (.rt))
 (.sk))))
 (rg [om 47 (.t 8),
 oo 48 (.bi .add 0 (.t 47) (i6 1)),
 om 8 (.t 48)]))))))
 (.sq (rg [om 6 (.k (.bool true))])
 (.rt)))))) }
theorem k_spec_l2Node : chkF Go.Proofs.Tryz.prog fid_spec_l2Node c_spec_l2Node = true := by kernel_rfl

def c_spec_l2Under : F2 :=
  { nt := 33, res := [.t 8 [0]], body :=
   (.sq (rg [oo 5 (.bt (.t 1)),
 om 8 (.k (.bool false))])
 (.sq (.sq (rg [om 9 (.t 2),
 oo 10 (.bi .lss 0 (.t 9) (i6 0))])
 (.cd (.t 10) (.sq (rg [om 11 (.t 2),
 oo 12 (.bi .sub 0 (i6 (-1)) (.t 11)),
 oo 13 (.fa 0 (.t 5)),
 oo 14 (.ld none (.t 13)),
 oo 15 (.bi .sub 0 (.t 14) (i6 1)),
 oo 16 (.ca .pure false (.f fid_spec_l1In) [.t 12, i6 0, .t 15]),
 om 8 (.t 16)])
 (.rt))
 (.sk)))
 (.sq (rg [om 17 (.t 2),
 om 18 (.t 3),
 oo 19 (.bi .lss 0 (.t 17) (.t 18)),
 om 20 (.t 19),
 og 21 20 true (.mv (.t 0) none),
 og 22 20 true (.fa 1 (.t 5)),
 og 23 20 true (.ld none (.t 22)),
 og 24 20 true (.mv (.t 2) none),
 og 25 20 true (.ia 3 (.t 23) (.t 24)),
 og 26 20 true (.fa 0 (.t 25)),
 og 27 20 true (.ld none (.t 26)),
 og 28 20 true (.ia 3 (.t 21) (.t 27)),
 og 29 20 true (.fa 2 (.t 28)),
 og 30 20 true (.ld none (.t 29)),
 og 31 20 true (.bi .neq 0 (.t 30) (i6 2)),
 oo 32 (.pk (.t 20) (.t 31) (.k (.bool false))),
 om 8 (.t 32)])
 (.rt)))) }
theorem k_spec_l2Under : chkF Go.Proofs.Tryz.prog fid_spec_l2Under c_spec_l2Under = true := by kernel_rfl

def c_spec_l2Link : F2 :=
  { nt := 14, res := [.t 4 [0]], body :=
   (.sq (rg [oo 2 (.bt (.t 0)),
 om 4 (.k (.bool false))])
 (.sq (rg [om 5 (.t 1),
 oo 6 (.fa 3 (.t 2)),
 oo 7 (.ld none (.t 6)),
 oo 8 (.fa 4 (.t 2)),
 oo 9 (.ld none (.t 8)),
 oo 10 (.ln (.t 9)),
 oo 11 (.bi .add 0 (.t 7) (.t 10)),
 oo 12 (.bi .sub 0 (.t 11) (i6 1)),
 oo 13 (.ca .pure false (.f fid_spec_l1In) [.t 5, i6 0, .t 12]),
 om 4 (.t 13)])
 (.rt))) }
theorem k_spec_l2Link : chkF Go.Proofs.Tryz.prog fid_spec_l2Link c_spec_l2Link = true := by kernel_rfl

def c_spec_l4Roots : F2 :=
  { nt := 21, res := [.t 4 [2]], body :=
   (.sq (rg [om 4 (.k (.slice none 0 0))])
 (.sq (rg [oo 7 (.bs 1 0 [] []),
 om 5 (.t 7)])
 (.sq (.sq (rg [om 6 (i6 0)])
 (.bl 0 (.lp [0, 1, 5, 6] [224, 608] (.sq (.sq (rg [om 8 (.t 6),
 om 9 (.t 1),
 oo 10 (.bi .lss 0 (.t 8) (.t 9))])
 (.cd (.t 10) (.sk)
 (.ex 0)))
 (.sq (.bl 1 (rg [om 13 (.t 5),
 om 14 (.t 0),
 oo 15 (.bi .sub 0 (i6 (-1)) (.t 14)),
 om 16 (.t 6),
 oo 17 (.bi .sub 0 (.t 15) (.t 16)),
 oo 18 (.bs 1 1 [.int .i64 0] [(0, .t 17)]),
 oo 19 (.ap 1 0 (.t 13) (.t 18)),
 om 5 (.t 19)]))
 (rg [om 11 (.t 6),
 oo 12 (.bi .add 0 (.t 11) (i6 1)),
 om 6 (.t 12)]))))))
 (.sq (rg [om 20 (.t 5),
 om 4 (.t 20)])
 (.rt))))) }
theorem k_spec_l4Roots : chkF Go.Proofs.Tryz.prog fid_spec_l4Roots c_spec_l4Roots = true := by kernel_rfl

def c_spec_l4Nodes : F2 :=
  { nt := 69, res := [.t 8 [4]], body :=
   (.sq (rg [oo 4 (.bt (.t 0)),
 om 8 (.k (.slice none 0 0))])
 (.sq (rg [oo 13 (.bs 3 0 [] []),
 om 9 (.t 13)])
 (.sq (.sq (rg [om 10 (i6 0)])
 (.bl 0 (.lp [1, 2, 3, 4, 9, 10] [416, 2144] (.sq (.sq (rg [om 14 (.t 10),
 oo 15 (.fa 1 (.t 4)),
 oo 16 (.ld none (.t 15)),
 oo 17 (.ln (.t 16)),
 oo 18 (.bi .lss 0 (.t 14) (.t 17))])
 (.cd (.t 18) (.sk)
 (.ex 0)))
 (.sq (.bl 1 (.sq (rg [oo 21 (.bs 1 0 [] []),
 om 11 (.t 21)])
 (.sq (.sq (rg [om 12 (i6 0)])
 (.bl 2 (.lp [1, 2, 3, 4, 9, 10, 11, 12] [416, 672, 1504, 2144] (.sq (.sq (rg [om 22 (.t 12),
 oo 23 (.fa 1 (.t 4)),
 oo 24 (.ld none (.t 23)),
 om 25 (.t 10),
 oo 26 (.ia 3 (.t 24) (.t 25)),
 oo 27 (.fa 2 (.t 26)),
 oo 28 (.ld none (.t 27)),
 oo 29 (.ln (.t 28)),
 oo 30 (.bi .lss 0 (.t 22) (.t 29))])
 (.cd (.t 30) (.sk)
 (.ex 2)))
 (.sq (.bl 3 (rg [om 33 (.t 11),
 om 34 (.t 3),
 oo 35 (.fa 1 (.t 4)),
 oo 36 (.ld none (.t 35)),
 om 37 (.t 10),
 oo 38 (.ia 3 (.t 36) (.t 37)),
 oo 39 (.fa 2 (.t 38)),
 oo 40 (.ld none (.t 39)),
 om 41 (.t 12),
 oo 42 (.ia 1 (.t 40) (.t 41)),
 oo 43 (.ld none (.t 42)),
 oo 44 (.ia 1 (.t 34) (.t 43)),
 oo 45 (.ld none (.t 44)),
 oo 46 (.bs 1 1 [.int .i64 0] [(0, .t 45)]),
 oo 47 (.ap 1 0 (.t 33) (.t 46)),
 om 11 (.t 47)]))
 (rg [om 31 (.t 12),
 oo 32 (.bi .add 0 (.t 31) (i6 1)),
 om 12 (.t 32)]))))))
 (.rg (some 0) [om 48 (.t 9),
 oo 49 (.fa 1 (.t 4)),
 oo 50 (.ld none (.t 49)),
 om 51 (.t 10),
 oo 52 (.ia 3 (.t 50) (.t 51)),
 oo 53 (.fa 0 (.t 52)),
 oo 54 (.ld none (.t 53)),
 oo 55 (.fa 1 (.t 4)),
 oo 56 (.ld none (.t 55)),
 om 57 (.t 10),
 oo 58 (.ia 3 (.t 56) (.t 57)),
 oo 59 (.fa 1 (.t 58)),
 oo 60 (.ld none (.t 59)),
 om 61 (.t 1),
 om 62 (.t 2),
 oo 63 (.ca .pure false (.f fid_spec_l4Parent) [.t 60, .t 61, .t 62]),
 om 64 (.t 11),
 oo 65 (.bd [.int .i64 0, .int .i64 0, .slice none 0 0] [(0, 1, .t 54), (1, 1, .t 63), (2, 1, .t 64)] []),
 oo 66 (.bv 3 1 [.int .i64 0, .int .i64 0, .slice none 0 0] [(0, .t 65)]),
 oo 67 (.ap 3 2 (.t 48) (.t 66)),
 om 9 (.t 67)]))))
 (rg [om 19 (.t 10),
 oo 20 (.bi .add 0 (.t 19) (i6 1)),
 om 10 (.t 20)]))))))
 (.sq (rg [om 68 (.t 9),
 om 8 (.t 68)])
 (.rt))))) }
theorem k_spec_l4Nodes : chkF Go.Proofs.Tryz.prog fid_spec_l4Nodes c_spec_l4Nodes = true := by kernel_rfl

def c_spec_l4Sites : F2 :=
  { nt := 29, res := [.t 6 [2]], body :=
   (.sq (rg [oo 3 (.bt (.t 0)),
 om 6 (.k (.slice none 0 0))])
 (.sq (rg [oo 9 (.bs 1 0 [] []),
 om 7 (.t 9)])
 (.sq (.sq (rg [om 8 (i6 0)])
 (.bl 0 (.lp [1, 2, 3, 7, 8] [288, 864] (.sq (.sq (rg [om 10 (.t 8),
 oo 11 (.fa 2 (.t 3)),
 oo 12 (.ld none (.t 11)),
 oo 13 (.ln (.t 12)),
 oo 14 (.bi .lss 0 (.t 10) (.t 13))])
 (.cd (.t 14) (.sk)
 (.ex 0)))
 (.sq (.bl 1 (rg [om 17 (.t 7),
 oo 18 (.fa 2 (.t 3)),
 oo 19 (.ld none (.t 18)),
 om 20 (.t 8),
 oo 21 (.ia 1 (.t 19) (.t 20)),
 oo 22 (.ld none (.t 21)),
 om 23 (.t 1),
 om 24 (.t 2),
 oo 25 (.ca .pure false (.f fid_spec_l4Parent) [.t 22, .t 23, .t 24]),
 oo 26 (.bs 1 1 [.int .i64 0] [(0, .t 25)]),
 oo 27 (.ap 1 0 (.t 17) (.t 26)),
 om 7 (.t 27)]))
 (rg [om 15 (.t 8),
 oo 16 (.bi .add 0 (.t 15) (i6 1)),
 om 8 (.t 16)]))))))
 (.sq (rg [om 28 (.t 7),
 om 6 (.t 28)])
 (.rt))))) }
theorem k_spec_l4Sites : chkF Go.Proofs.Tryz.prog fid_spec_l4Sites c_spec_l4Sites = true := by kernel_rfl

def c_spec_l4Wires : F2 :=
  { nt := 35, res := [.t 4 [3]], body :=
   (.sq (rg [oo 2 (.bt (.t 0)),
 om 4 (.k (.slice none 0 0))])
 (.sq (rg [oo 7 (.bs 2 0 [] []),
 om 5 (.t 7)])
 (.sq (.sq (rg [om 6 (i6 0)])
 (.bl 0 (.lp [1, 2, 5, 6] [224, 1056] (.sq (.sq (rg [om 8 (.t 6),
 oo 9 (.fa 5 (.t 2)),
 oo 10 (.ld none (.t 9)),
 oo 11 (.ln (.t 10)),
 oo 12 (.bi .lss 0 (.t 8) (.t 11))])
 (.cd (.t 12) (.sk)
 (.ex 0)))
 (.sq (.bl 1 (.rg (some 0) [om 15 (.t 5),
 oo 16 (.fa 5 (.t 2)),
 oo 17 (.ld none (.t 16)),
 om 18 (.t 6),
 oo 19 (.ia 2 (.t 17) (.t 18)),
 oo 20 (.fa 0 (.t 19)),
 oo 21 (.ld none (.t 20)),
 om 22 (.t 1),
 oo 23 (.fa 5 (.t 2)),
 oo 24 (.ld none (.t 23)),
 om 25 (.t 6),
 oo 26 (.ia 2 (.t 24) (.t 25)),
 oo 27 (.fa 1 (.t 26)),
 oo 28 (.ld none (.t 27)),
 oo 29 (.ia 1 (.t 22) (.t 28)),
 oo 30 (.ld none (.t 29)),
 oo 31 (.bd [.string ⟨#[]⟩, .int .i64 0] [(0, 1, .t 21), (1, 1, .t 30)] []),
 oo 32 (.bs 2 1 [.string ⟨#[]⟩, .int .i64 0] [(0, .t 31)]),
 oo 33 (.ap 2 0 (.t 15) (.t 32)),
 om 5 (.t 33)]))
 (rg [om 13 (.t 6),
 oo 14 (.bi .add 0 (.t 13) (i6 1)),
 om 6 (.t 14)]))))))
 (.sq (rg [om 34 (.t 5),
 om 4 (.t 34)])
 (.rt))))) }
theorem k_spec_l4Wires : chkF Go.Proofs.Tryz.prog fid_spec_l4Wires c_spec_l4Wires = true := by kernel_rfl

def c_impl_IsSignature : F2 :=
  { nt := 40, res := [.t 2 [0]], body :=
   (.sq (rg [om 2 (.k (.bool false))])
 (.sq (.sq (rg [om 5 (.t 0),
 oo 6 (.ln (.t 5)),
 oo 7 (.ca .pure false (.f fid_impl_within) [.t 6, i6 1, i6 6]),
 oo 8 (.nt (.t 7))])
 (.cd (.t 8) (.sq (rg [om 2 (.k (.bool false))])
 (.rt))
 (.sk)))
 (.sq (.sq (rg [om 9 (.t 0),
 oo 10 (.ln (.t 9)),
 om 11 (i6 0)])
 (.bl 0 (.lp [0, 9, 10, 11] [] (.sq (rg [oo 12 (.bi .lss 0 (.t 11) (.t 10))])
 (.sq (.cd (.t 12) (.sk)
 (.ex 0))
 (.sq (.bl 1 (.sq (rg [om 13 (.t 11),
 oo 14 (.ia 3 (.t 9) (.t 11)),
 oo 15 (.ld (some 3) (.t 14)),
 oo 4 (.al [.string ⟨#[]⟩, .int .i64 0, .int .i64 0] []),
 om 3 (.t 13),
 on1 (.st 3 (.t 4) (.t 15))])
 (.sq (rg [oo 16 (.fa 0 (.t 4)),
 oo 17 (.ld none (.t 16)),
 oo 18 (.ca .pure false (.f fid_impl_isName) [.t 17]),
 oo 19 (.nt (.t 18)),
 om 20 (.t 19),
 og 21 20 false (.fa 1 (.t 4)),
 og 22 20 false (.ld none (.t 21)),
 og 23 20 false (.ca .pure false (.f fid_impl_within) [.t 22, i6 0, i6 3]),
 og 24 20 false (.nt (.t 23)),
 oo 25 (.pk (.t 20) (.k (.bool true)) (.t 24)),
 om 26 (.t 25),
 og 27 26 false (.fa 2 (.t 4)),
 og 28 26 false (.ld none (.t 27)),
 og 29 26 false (.ca .pure false (.f fid_impl_within) [.t 28, i6 0, i6 2]),
 og 30 26 false (.nt (.t 29)),
 oo 31 (.pk (.t 26) (.k (.bool true)) (.t 30)),
 om 32 (.t 31),
 og 33 32 false (.mv (.t 0) none),
 og 34 32 false (.mv (.t 3) none),
 og 35 32 false (.sx 3 (.t 33) none (some (.t 34)) none),
 og 36 32 false (.mf fid_impl_IsSignature_1 [.t 4]),
 og 37 32 false (.ca .pure false (.f fid_slices_ContainsFunc_impl_Control_impl_Control) [.t 35, .t 36]),
 oo 38 (.pk (.t 32) (.k (.bool true)) (.t 37))])
 (.cd (.t 38) (.sq (rg [om 2 (.k (.bool false))])
 (.rt))
 (.sk)))))
 (rg [oo 39 (.bi .add 0 (.t 11) (i6 1)),
 om 11 (.t 39)])))))))
 (.sq (rg [om 2 (.k (.bool true))])
 (.rt))))) }
theorem k_impl_IsSignature : chkF Go.Proofs.Tryz.prog fid_impl_IsSignature c_impl_IsSignature = true := by kernel_rfl

def c_impl_areNames : F2 :=
  { nt := 32, res := [.t 2 [0]], body :=
   (.sq (rg [om 2 (.k (.bool false))])
 (.sq (.sq (rg [om 5 (.t 0),
 oo 6 (.ln (.t 5)),
 om 7 (i6 0)])
 (.bl 0 (.lp [0, 5, 6, 7] [] (.sq (rg [oo 8 (.bi .lss 0 (.t 7) (.t 6))])
 (.sq (.cd (.t 8) (.sk)
 (.ex 0))
 (.sq (.bl 1 (.sq (rg [om 9 (.t 7),
 oo 10 (.ia 1 (.t 5) (.t 7)),
 oo 11 (.ld none (.t 10)),
 om 3 (.t 9),
 om 4 (.t 11)])
 (.sq (rg [om 12 (.t 4),
 oo 13 (.ca .pure false (.f fid_impl_isName) [.t 12]),
 oo 14 (.nt (.t 13)),
 om 15 (.t 14),
 og 16 15 false (.mv (.t 3) none),
 og 17 15 false (.bi .gtr 0 (.t 16) (i6 0)),
 og 18 15 false (.mv (.t 17) none),
 og 19 18 true (.mv (.t 4) none),
 og 20 18 true (.mv (.t 0) none),
 og 21 18 true (.mv (.t 3) none),
 og 22 18 true (.bi .sub 0 (.t 21) (i6 1)),
 og 23 18 true (.ia 1 (.t 20) (.t 22)),
 og 24 18 true (.ld none (.t 23)),
 og 25 18 true (.bi .leq 0 (.t 19) (.t 24)),
 og 26 15 false (.pk (.t 18) (.t 25) (.k (.bool false))),
 oo 27 (.pk (.t 15) (.k (.bool true)) (.t 26))])
 (.cd (.t 27) (.sq (rg [om 2 (.k (.bool false))])
 (.rt))
 (.sk)))))
 (rg [oo 28 (.bi .add 0 (.t 7) (i6 1)),
 om 7 (.t 28)])))))))
 (.sq (rg [om 29 (.t 0),
 oo 30 (.ln (.t 29)),
 oo 31 (.bi .leq 0 (.t 30) (i6 16)),
 om 2 (.t 31)])
 (.rt)))) }
theorem k_impl_areNames : chkF Go.Proofs.Tryz.prog fid_impl_areNames c_impl_areNames = true := by kernel_rfl

def c_impl_Bigraph_isParent : F2 :=
  { nt := 32, res := [.t 8 [0]], body :=
   (.sq (rg [oo 4 (.bt (.t 0)),
 om 8 (.k (.bool false))])
 (.sq (.sq (rg [om 9 (.t 2),
 oo 10 (.bi .lss 0 (.t 9) (i6 0))])
 (.cd (.t 10) (.sq (rg [om 11 (.t 2),
 oo 12 (.fa 0 (.t 4)),
 oo 13 (.ld none (.t 12)),
 oo 14 (.ng (.t 13)),
 oo 15 (.bi .geq 0 (.t 11) (.t 14)),
 om 8 (.t 15)])
 (.rt))
 (.sk)))
 (.sq (rg [om 16 (.t 2),
 om 17 (.t 3),
 oo 18 (.bi .lss 0 (.t 16) (.t 17)),
 om 19 (.t 18),
 og 20 19 true (.mv (.t 1) none),
 og 21 19 true (.fa 1 (.t 4)),
 og 22 19 true (.ld none (.t 21)),
 og 23 19 true (.mv (.t 2) none),
 og 24 19 true (.ia 3 (.t 22) (.t 23)),
 og 25 19 true (.fa 0 (.t 24)),
 og 26 19 true (.ld none (.t 25)),
 og 27 19 true (.ia 3 (.t 20) (.t 26)),
 og 28 19 true (.fa 2 (.t 27)),
 og 29 19 true (.ld none (.t 28)),
 og 30 19 true (.bi .neq 0 (.t 29) (i6 2)),
 oo 31 (.pk (.t 19) (.t 30) (.k (.bool false))),
 om 8 (.t 31)])
 (.rt)))) }
theorem k_impl_Bigraph_isParent : chkF Go.Proofs.Tryz.prog fid_impl_Bigraph_isParent c_impl_Bigraph_isParent = true := by kernel_rfl

def c_impl_IsBigraph_1 : F2 :=
  { nt := 8, res := [.t 3 [0]], body :=
   (.sq (rg [om 3 (.k (.bool false))])
 (.sq (rg [oo 4 (.ld (some 6) (.t 1)),
 om 5 (.t 0),
 oo 6 (.ca .pure false (.f fid_impl_Bigraph_isLink) [.t 4, .t 5]),
 oo 7 (.nt (.t 6)),
 om 3 (.t 7)])
 (.rt))) }
theorem k_impl_IsBigraph_1 : chkF Go.Proofs.Tryz.prog fid_impl_IsBigraph_1 c_impl_IsBigraph_1 = true := by kernel_rfl

def c_impl_Bigraph_isLink : F2 :=
  { nt := 14, res := [.t 4 [0]], body :=
   (.sq (rg [oo 2 (.bt (.t 0)),
 om 4 (.k (.bool false))])
 (.sq (rg [om 5 (.t 1),
 oo 6 (.fa 3 (.t 2)),
 oo 7 (.ld none (.t 6)),
 oo 8 (.fa 4 (.t 2)),
 oo 9 (.ld none (.t 8)),
 oo 10 (.ln (.t 9)),
 oo 11 (.bi .add 0 (.t 7) (.t 10)),
 oo 12 (.bi .sub 0 (.t 11) (i6 1)),
 oo 13 (.ca .pure false (.f fid_impl_within) [.t 5, i6 0, .t 12]),
 om 4 (.t 13)])
 (.rt))) }
theorem k_impl_Bigraph_isLink : chkF Go.Proofs.Tryz.prog fid_impl_Bigraph_isLink c_impl_Bigraph_isLink = true := by kernel_rfl

def c_impl_IsBigraph_2 : F2 :=
  { nt := 13, res := [.t 4 [0]], body :=
   (.sq (rg [om 4 (.k (.bool false))])
 (.sq (rg [oo 5 (.ld (some 6) (.t 1)),
 oo 6 (.ld none (.t 2)),
 om 7 (.t 0),
 oo 8 (.fa 1 (.t 1)),
 oo 9 (.ld none (.t 8)),
 oo 10 (.ln (.t 9)),
 oo 11 (.ca .pure false (.f fid_impl_Bigraph_isParent) [.t 5, .t 6, .t 7, .t 10]),
 oo 12 (.nt (.t 11)),
 om 4 (.t 12)])
 (.rt))) }
theorem k_impl_IsBigraph_2 : chkF Go.Proofs.Tryz.prog fid_impl_IsBigraph_2 c_impl_IsBigraph_2 = true := by kernel_rfl

def c_impl_IsBigraph_3 : F2 :=
  { nt := 9, res := [.t 3 [0]], body :=
   (.sq (rg [oo 2 (.bt (.t 0)),
 om 3 (.k (.bool false))])
 (.sq (rg [oo 4 (.ld (some 6) (.t 1)),
 oo 5 (.fa 1 (.t 2)),
 oo 6 (.ld none (.t 5)),
 oo 7 (.ca .pure false (.f fid_impl_Bigraph_isLink) [.t 4, .t 6]),
 oo 8 (.nt (.t 7)),
 om 3 (.t 8)])
 (.rt))) }
theorem k_impl_IsBigraph_3 : chkF Go.Proofs.Tryz.prog fid_impl_IsBigraph_3 c_impl_IsBigraph_3 = true := by kernel_rfl

def c_impl_ownBigraph : F2 :=
  { nt := 42, res := [.c 2 (some 6) [0, 4, 2, 0, 2, 3]], body :=
   (.sq (rg [oo 1 (.bt (.t 0)),
 oo 2 (.al [.int .i64 0, .slice none 0 0, .slice none 0 0, .int .i64 0, .slice none 0 0, .slice none 0 0] [])])
 (.sq (.rg (some 0) [oo 6 (.fa 0 (.t 1)),
 oo 7 (.ld none (.t 6)),
 oo 8 (.fa 2 (.t 1)),
 oo 9 (.ld none (.t 8)),
 oo 10 (.ca .pure true (.f fid_slices_Clone_int_int) [.t 9]),
 oo 11 (.fa 3 (.t 1)),
 oo 12 (.ld none (.t 11)),
 oo 13 (.fa 4 (.t 1)),
 oo 14 (.ld none (.t 13)),
 oo 15 (.ca .pure true (.f fid_slices_Clone_string_string) [.t 14]),
 oo 16 (.fa 5 (.t 1)),
 oo 17 (.ld none (.t 16)),
 oo 18 (.ca .pure true (.f fid_slices_Clone_impl_Wire_impl_Wire) [.t 17]),
 oo 19 (.bd [.int .i64 0, .slice none 0 0, .slice none 0 0, .int .i64 0, .slice none 0 0, .slice none 0 0] [(0, 1, .t 7), (2, 1, .t 10), (3, 1, .t 12), (4, 1, .t 15), (5, 1, .t 18)] [(1, 3)]),
 oo 3 (.al [.int .i64 0, .slice none 0 0, .slice none 0 0, .int .i64 0, .slice none 0 0, .slice none 0 0] []),
 on1 (.st 6 (.t 3) (.t 19))])
 (.sq (.sq (rg [oo 20 (.fa 1 (.t 1)),
 oo 21 (.ld none (.t 20)),
 oo 22 (.ln (.t 21)),
 om 23 (i6 0)])
 (.bl 0 (.lp [2, 3, 21, 22, 23] [64, 96, 320, 480, 576, 608, 1216] (.sq (rg [oo 24 (.bi .lss 0 (.t 23) (.t 22))])
 (.sq (.cd (.t 24) (.sk)
 (.ex 0))
 (.sq (.bl 1 (.sq (rg [oo 25 (.ia 3 (.t 21) (.t 23)),
 oo 26 (.ld (some 3) (.t 25)),
 oo 5 (.al [.int .i64 0, .int .i64 0, .slice none 0 0] []),
 on1 (.st 3 (.t 5) (.t 26))])
 (.rg (some 0) [oo 27 (.fa 1 (.t 3)),
 oo 28 (.ld none (.t 27)),
 oo 29 (.fa 0 (.t 5)),
 oo 30 (.ld none (.t 29)),
 oo 31 (.fa 1 (.t 5)),
 oo 32 (.ld none (.t 31)),
 oo 33 (.fa 2 (.t 5)),
 oo 34 (.ld none (.t 33)),
 oo 35 (.ca .pure true (.f fid_slices_Clone_int_int) [.t 34]),
 oo 36 (.bd [.int .i64 0, .int .i64 0, .slice none 0 0] [(0, 1, .t 30), (1, 1, .t 32), (2, 1, .t 35)] []),
 oo 37 (.bv 3 1 [.int .i64 0, .int .i64 0, .slice none 0 0] [(0, .t 36)]),
 oo 38 (.ap 3 2 (.t 28) (.t 37)),
 oo 39 (.fa 1 (.t 3)),
 on1 (.st 1 (.t 39) (.t 38))])))
 (rg [oo 40 (.bi .add 0 (.t 23) (i6 1)),
 om 23 (.t 40)])))))))
 (.sq (rg [oo 41 (.ld (some 6) (.t 3)),
 on1 (.st 6 (.t 2) (.t 41))])
 (.rt))))) }
theorem k_impl_ownBigraph : chkF Go.Proofs.Tryz.prog fid_impl_ownBigraph c_impl_ownBigraph = true := by kernel_rfl

def c_impl_sortedNames : F2 :=
  { nt := 10, res := [.t 2 [2]], body :=
   (.sq (rg [om 2 (.k (.slice none 0 0))])
 (.sq (rg [om 4 (.t 0),
 oo 5 (.ca .pure true (.f fid_slices_Clone_string_string) [.t 4]),
 om 3 (.t 5)])
 (.sq (rg [om 6 (.t 3),
 oo 7 (.ca .any false (.f fid_slices_Sort_string_string) [.t 6])])
 (.sq (rg [om 8 (.t 3),
 oo 9 (.ca .any false (.f fid_slices_Compact_string_string) [.t 8]),
 om 2 (.t 9)])
 (.rt))))) }
theorem k_impl_sortedNames : chkF Go.Proofs.Tryz.prog fid_impl_sortedNames c_impl_sortedNames = true := by kernel_rfl

def c_impl_Bigraph_relinked_1 : F2 :=
  { nt := 25, res := [.t 6 [0]], body :=
   (.sq (rg [om 6 (i6 0)])
 (.sq (.rg (some 0) [oo 8 (.ld none (.t 1)),
 oo 9 (.ld (some 6) (.t 2)),
 om 10 (.t 0),
 oo 11 (.ca .pure false (.f fid_impl_Bigraph_endOf) [.t 9, .t 10]),
 oo 12 (.ca .see false (.t 8) [.t 11]),
 oo 7 (.al [.int .i64 0, .string ⟨#[]⟩] []),
 on1 (.st 2 (.t 7) (.t 12))])
 (.sq (.sq (rg [oo 13 (.fa 1 (.t 7)),
 oo 14 (.ld none (.t 13)),
 oo 15 (.bi .eql 0 (.t 14) (.k (.string ⟨#[]⟩)))])
 (.cd (.t 15) (.sq (rg [oo 16 (.fa 0 (.t 7)),
 oo 17 (.ld none (.t 16)),
 om 6 (.t 17)])
 (.rt))
 (.sk)))
 (.sq (.rg (some 0) [oo 18 (.ld none (.t 3)),
 oo 19 (.fa 4 (.t 4)),
 oo 20 (.ld none (.t 19)),
 oo 21 (.fa 1 (.t 7)),
 oo 22 (.ld none (.t 21)),
 oo 23 (.ca .pure false (.f fid_slices_Index_string_string) [.t 20, .t 22]),
 oo 24 (.bi .add 0 (.t 18) (.t 23)),
 om 6 (.t 24)])
 (.rt))))) }
theorem k_impl_Bigraph_relinked_1 : chkF Go.Proofs.Tryz.prog fid_impl_Bigraph_relinked_1 c_impl_Bigraph_relinked_1 = true := by kernel_rfl

def c_impl_Bigraph_endOf : F2 :=
  { nt := 20, res := [.c 4 (some 2) [0, 0]], body :=
   (.sq (rg [oo 2 (.bt (.t 0)),
 oo 4 (.al [.int .i64 0, .string ⟨#[]⟩] [])])
 (.sq (.sq (rg [om 5 (.t 1),
 oo 6 (.fa 3 (.t 2)),
 oo 7 (.ld none (.t 6)),
 oo 8 (.bi .lss 0 (.t 5) (.t 7))])
 (.cd (.t 8) (.sq (rg [om 9 (.t 1),
 oo 10 (.bd [.int .i64 0, .string ⟨#[]⟩] [(0, 1, .t 9)] []),
 on1 (.st 2 (.t 4) (.t 10))])
 (.rt))
 (.sk)))
 (.sq (rg [oo 11 (.fa 4 (.t 2)),
 oo 12 (.ld none (.t 11)),
 om 13 (.t 1),
 oo 14 (.fa 3 (.t 2)),
 oo 15 (.ld none (.t 14)),
 oo 16 (.bi .sub 0 (.t 13) (.t 15)),
 oo 17 (.ia 1 (.t 12) (.t 16)),
 oo 18 (.ld none (.t 17)),
 oo 19 (.bd [.int .i64 0, .string ⟨#[]⟩] [(1, 1, .t 18)] []),
 on1 (.st 2 (.t 4) (.t 19))])
 (.rt)))) }
theorem k_impl_Bigraph_endOf : chkF Go.Proofs.Tryz.prog fid_impl_Bigraph_endOf c_impl_Bigraph_endOf = true := by kernel_rfl

def c_spec_l4Fits : F2 :=
  { nt := 18, res := [.t 4 [0]], body :=
   (.sq (rg [oo 2 (.bt (.t 0)),
 oo 3 (.bt (.t 1)),
 om 4 (.k (.bool false))])
 (.sq (.rg (some 0) [oo 5 (.fa 2 (.t 2)),
 oo 6 (.ld none (.t 5)),
 oo 7 (.ln (.t 6)),
 oo 8 (.fa 0 (.t 3)),
 oo 9 (.ld none (.t 8)),
 oo 10 (.bi .eql 0 (.t 7) (.t 9)),
 om 11 (.t 10),
 og 12 11 true (.ld (some 6) (.t 2)),
 og 13 11 true (.ca .pure false (.f fid_spec_l2Inner) [.t 12]),
 og 14 11 true (.fa 4 (.t 3)),
 og 15 11 true (.ld none (.t 14)),
 og 16 11 true (.ca .pure false (.f fid_spec_l4Equal) [.t 13, .t 15]),
 oo 17 (.pk (.t 11) (.t 16) (.k (.bool false))),
 om 4 (.t 17)])
 (.rt))) }
theorem k_spec_l4Fits : chkF Go.Proofs.Tryz.prog fid_spec_l4Fits c_spec_l4Fits = true := by kernel_rfl

def c_spec_l4After : F2 :=
  { nt := 51, res := [.c 4 (some 6) [0, 4, 2, 0, 2, 3]], body :=
   (.sq (rg [oo 2 (.bt (.t 0)),
 oo 3 (.bt (.t 1)),
 oo 4 (.al [.int .i64 0, .slice none 0 0, .slice none 0 0, .int .i64 0, .slice none 0 0, .slice none 0 0] [])])
 (.sq (rg [oo 9 (.fa 4 (.t 2)),
 oo 10 (.ld none (.t 9)),
 oo 11 (.fa 3 (.t 2)),
 oo 12 (.ld none (.t 11)),
 oo 13 (.fa 3 (.t 3)),
 oo 14 (.ld none (.t 13)),
 oo 15 (.bi .add 0 (.t 12) (.t 14)),
 oo 16 (.fa 4 (.t 2)),
 oo 17 (.ld none (.t 16)),
 oo 18 (.ca .pure false (.f fid_spec_l4Named) [.t 10, .t 15, .t 17]),
 om 5 (.t 18)])
 (.sq (rg [oo 19 (.fa 3 (.t 2)),
 oo 20 (.ld none (.t 19)),
 oo 21 (.ca .pure true (.f fid_spec_l4Edges) [i6 0, .t 20]),
 om 22 (.t 5),
 oo 23 (.ap 1 0 (.t 21) (.t 22)),
 oo 24 (.bs 1 0 [] []),
 om 6 (.t 23),
 om 7 (.t 24)])
 (.sq (.sq (rg [om 8 (i6 0)])
 (.bl 0 (.lp [2, 3, 4, 5, 6, 7, 8] [128, 672, 736, 768, 1376, 1600, 1601, 1602, 1603] (.sq (.sq (rg [om 25 (.t 8),
 oo 26 (.fa 5 (.t 2)),
 oo 27 (.ld none (.t 26)),
 oo 28 (.ln (.t 27)),
 oo 29 (.bi .lss 0 (.t 25) (.t 28))])
 (.cd (.t 29) (.sk)
 (.ex 0)))
 (.sq (.bl 1 (rg [om 32 (.t 7),
 om 33 (.t 6),
 oo 34 (.fa 5 (.t 2)),
 oo 35 (.ld none (.t 34)),
 om 36 (.t 8),
 oo 37 (.ia 2 (.t 35) (.t 36)),
 oo 38 (.fa 1 (.t 37)),
 oo 39 (.ld none (.t 38)),
 oo 40 (.ia 1 (.t 33) (.t 39)),
 oo 41 (.ld none (.t 40)),
 oo 42 (.bs 1 1 [.int .i64 0] [(0, .t 41)]),
 oo 43 (.ap 1 0 (.t 32) (.t 42)),
 om 7 (.t 43)]))
 (rg [om 30 (.t 8),
 oo 31 (.bi .add 0 (.t 30) (i6 1)),
 om 8 (.t 31)]))))))
 (.sq (rg [oo 44 (.ld (some 6) (.t 2)),
 oo 45 (.ld (some 6) (.t 3)),
 oo 46 (.fa 4 (.t 2)),
 oo 47 (.ld none (.t 46)),
 om 48 (.t 5),
 oo 49 (.fz (.t 7)),
 oo 50 (.ca .pure true (.f fid_spec_l4Under) [.t 44, .t 45, .t 47, .t 48, .t 49]),
 on1 (.st 6 (.t 4) (.t 50))])
 (.rt)))))) }
theorem k_spec_l4After : chkF Go.Proofs.Tryz.prog fid_spec_l4After c_spec_l4After = true := by kernel_rfl

def c_impl_composed_1 : F2 :=
  { nt := 10, res := [.t 3 [0]], body :=
   (.sq (rg [om 3 (i6 0)])
 (.sq (rg [oo 4 (.fa 2 (.t 1)),
 oo 5 (.ld none (.t 4)),
 om 6 (.t 0),
 oo 7 (.bi .sub 0 (i6 (-1)) (.t 6)),
 oo 8 (.ia 1 (.t 5) (.t 7)),
 oo 9 (.ld none (.t 8)),
 om 3 (.t 9)])
 (.rt))) }
theorem k_impl_composed_1 : chkF Go.Proofs.Tryz.prog fid_impl_composed_1 c_impl_composed_1 = true := by kernel_rfl

def c_impl_composed_2 : F2 :=
  { nt := 15, res := [.c 4 (some 2) [0, 0]], body :=
   (.sq (rg [oo 4 (.al [.int .i64 0, .string ⟨#[]⟩] [])])
 (.sq (.rg (some 0) [oo 5 (.ld (some 6) (.t 1)),
 oo 6 (.fa 5 (.t 1)),
 oo 7 (.ld none (.t 6)),
 oo 8 (.ld none (.t 2)),
 om 9 (.t 0),
 oo 10 (.ca .pure false (.f fid_slices_Index_string_string) [.t 8, .t 9]),
 oo 11 (.ia 2 (.t 7) (.t 10)),
 oo 12 (.fa 1 (.t 11)),
 oo 13 (.ld none (.t 12)),
 oo 14 (.ca .pure false (.f fid_impl_Bigraph_endOf) [.t 5, .t 13]),
 on1 (.st 2 (.t 4) (.t 14))])
 (.rt))) }
theorem k_impl_composed_2 : chkF Go.Proofs.Tryz.prog fid_impl_composed_2 c_impl_composed_2 = true := by kernel_rfl

def c_spec_l4Under : F2 :=
  { nt := 65, res := [.c 10 (some 6) [0, 4, 2, 0, 2, 3]], body :=
   (.sq (rg [oo 5 (.bt (.t 0)),
 oo 6 (.bt (.t 1)),
 oo 10 (.al [.int .i64 0, .slice none 0 0, .slice none 0 0, .int .i64 0, .slice none 0 0, .slice none 0 0] [])])
 (.sq (rg [oo 15 (.fa 0 (.t 5)),
 oo 16 (.ld none (.t 15)),
 oo 17 (.ca .pure false (.f fid_spec_l4Roots) [i6 0, .t 16]),
 om 11 (.t 17)])
 (.sq (.rg (some 0) [oo 18 (.fa 3 (.t 5)),
 oo 19 (.ld none (.t 18)),
 oo 20 (.ca .pure true (.f fid_spec_l4Edges) [i6 0, .t 19]),
 om 21 (.t 3),
 oo 22 (.a0 1 (.t 20) (.t 21)),
 oo 23 (.fa 3 (.t 5)),
 oo 24 (.lt none (.t 23)),
 oo 25 (.fa 3 (.t 6)),
 oo 26 (.lt none (.t 25)),
 oo 27 (.ca .pure true (.f fid_spec_l4Edges) [.t 24, .t 26]),
 om 28 (.t 4),
 oo 29 (.ap 1 0 (.t 27) (.t 28)),
 om 12 (.t 22),
 om 13 (.t 29)])
 (.sq (rg [oo 30 (.ld (some 6) (.t 5)),
 om 31 (.t 11),
 oo 32 (.ca .pure false (.f fid_spec_l4Sites) [.t 30, i6 0, .t 31]),
 om 14 (.t 32)])
 (.sq (.rg (some 0) [oo 33 (.fa 0 (.t 5)),
 oo 34 (.lt none (.t 33)),
 oo 35 (.ld (some 6) (.t 5)),
 om 36 (.t 11),
 om 37 (.t 12),
 oo 38 (.ca .pure true (.f fid_spec_l4Nodes) [.t 35, i6 0, .t 36, .t 37]),
 oo 39 (.ld (some 6) (.t 6)),
 oo 40 (.fa 1 (.t 5)),
 oo 41 (.ld none (.t 40)),
 oo 42 (.ln (.t 41)),
 om 43 (.t 14),
 om 44 (.t 13),
 oo 45 (.ca .pure false (.f fid_spec_l4Nodes) [.t 39, .t 42, .t 43, .t 44]),
 oo 46 (.a1 3 (.t 38) (.t 45)),
 oo 47 (.lt (some 6) (.t 6)),
 oo 48 (.fa 1 (.t 5)),
 oo 49 (.lt none (.t 48)),
 oo 50 (.ln (.t 49)),
 om 51 (.t 14),
 oo 52 (.ca .pure true (.f fid_spec_l4Sites) [.t 47, .t 50, .t 51]),
 oo 53 (.fa 3 (.t 5)),
 oo 54 (.lt none (.t 53)),
 oo 55 (.fa 3 (.t 6)),
 oo 56 (.lt none (.t 55)),
 oo 57 (.bi .add 0 (.t 54) (.t 56)),
 oo 58 (.bs 1 0 [] []),
 om 59 (.t 2),
 oo 60 (.a0 1 (.t 58) (.t 59)),
 oo 61 (.lt (some 6) (.t 6)),
 om 62 (.t 13),
 oo 63 (.ca .pure true (.f fid_spec_l4Wires) [.t 61, .t 62]),
 oo 64 (.bd [.int .i64 0, .slice none 0 0, .slice none 0 0, .int .i64 0, .slice none 0 0, .slice none 0 0] [(0, 1, .t 34), (1, 1, .t 46), (2, 1, .t 52), (3, 1, .t 57), (4, 1, .t 60), (5, 1, .t 63)] []),
 on1 (.st 6 (.t 10) (.t 64))])
 (.rt)))))) }
theorem k_spec_l4Under : chkF Go.Proofs.Tryz.prog fid_spec_l4Under c_spec_l4Under = true := by kernel_rfl

def c_impl_joined_1 : F2 :=
  { nt := 4, res := [.c 2 (some 2) [0, 0]], body :=
   (.sq (rg [oo 1 (.bt (.t 0)),
 oo 2 (.al [.int .i64 0, .string ⟨#[]⟩] [])])
 (.sq (rg [oo 3 (.ld (some 2) (.t 1)),
 on1 (.st 2 (.t 2) (.t 3))])
 (.rt))) }
theorem k_impl_joined_1 : chkF Go.Proofs.Tryz.prog fid_impl_joined_1 c_impl_joined_1 = true := by kernel_rfl

def c_impl_joined_2 : F2 :=
  { nt := 18, res := [.c 4 (some 2) [0, 0]], body :=
   (.sq (rg [oo 3 (.bt (.t 0)),
 oo 4 (.al [.int .i64 0, .string ⟨#[]⟩] [])])
 (.sq (.sq (rg [oo 5 (.fa 1 (.t 3)),
 oo 6 (.ld none (.t 5)),
 oo 7 (.bi .eql 0 (.t 6) (.k (.string ⟨#[]⟩)))])
 (.cd (.t 7) (.sq (rg [oo 8 (.fa 0 (.t 3)),
 oo 9 (.ld none (.t 8)),
 oo 10 (.fa 3 (.t 1)),
 oo 11 (.ld none (.t 10)),
 oo 12 (.bi .add 0 (.t 9) (.t 11)),
 oo 13 (.bd [.int .i64 0, .string ⟨#[]⟩] [(0, 1, .t 12)] []),
 on1 (.st 2 (.t 4) (.t 13))])
 (.rt))
 (.sk)))
 (.sq (rg [oo 14 (.ld none (.t 2)),
 oo 15 (.fa 1 (.t 3)),
 oo 16 (.ld none (.t 15)),
 oo 17 (.ca .pure false (.t 14) [.t 16]),
 on1 (.st 2 (.t 4) (.t 17))])
 (.rt)))) }
theorem k_impl_joined_2 : chkF Go.Proofs.Tryz.prog fid_impl_joined_2 c_impl_joined_2 = true := by kernel_rfl

def c_slices_Clone_int_int : F2 :=
  { nt := 8, res := [.t 2 [2]], body :=
   (.sq (rg [om 2 (.k (.slice none 0 0))])
 (.sq (.sq (rg [om 3 (.t 0),
 oo 4 (.nl false (.t 3))])
 (.cd (.t 4) (.sq (rg [om 2 (.k (.slice none 0 0))])
 (.rt))
 (.sk)))
 (.sq (rg [oo 5 (.bs 1 0 [] []),
 om 6 (.t 0),
 oo 7 (.ap 1 0 (.t 5) (.t 6)),
 om 2 (.t 7)])
 (.rt)))) }
theorem k_slices_Clone_int_int : chkF Go.Proofs.Tryz.prog fid_slices_Clone_int_int c_slices_Clone_int_int = true := by kernel_rfl

def c_impl_moved : F2 :=
  { nt := 17, res := [.t 6 [0]], body :=
   (.sq (rg [oo 3 (.bt (.t 0)),
 om 6 (i6 0)])
 (.sq (.sq (rg [om 7 (.t 1),
 oo 8 (.bi .geq 0 (.t 7) (i6 0))])
 (.cd (.t 8) (.sq (rg [om 9 (.t 1),
 oo 10 (.fa 1 (.t 3)),
 oo 11 (.ld none (.t 10)),
 oo 12 (.ln (.t 11)),
 oo 13 (.bi .add 0 (.t 9) (.t 12)),
 om 6 (.t 13)])
 (.rt))
 (.sk)))
 (.sq (rg [om 14 (.t 2),
 om 15 (.t 1),
 oo 16 (.ca .pure false (.t 14) [.t 15]),
 om 6 (.t 16)])
 (.rt)))) }
theorem k_impl_moved : chkF Go.Proofs.Tryz.prog fid_impl_moved c_impl_moved = true := by kernel_rfl

def c_spec_l2Renumber : F2 :=
  { nt := 131, res := [.c 6 (some 6) [0, 4, 2, 0, 2, 3]], body :=
   (.sq (rg [oo 3 (.bt (.t 0)),
 oo 6 (.al [.int .i64 0, .slice none 0 0, .slice none 0 0, .int .i64 0, .slice none 0 0, .slice none 0 0] [])])
 (.sq (.rg (some 0) [oo 13 (.fa 0 (.t 3)),
 oo 14 (.lt none (.t 13)),
 oo 15 (.fa 1 (.t 3)),
 oo 16 (.lt none (.t 15)),
 oo 17 (.ln (.t 16)),
 oo 18 (.ms 3 [.int .i64 0, .int .i64 0, .slice none 0 0] (.t 17)),
 oo 19 (.fa 3 (.t 3)),
 oo 20 (.lt none (.t 19)),
 oo 21 (.bs 1 0 [] []),
 oo 22 (.fa 4 (.t 3)),
 oo 23 (.ld none (.t 22)),
 oo 24 (.a0 1 (.t 21) (.t 23)),
 oo 25 (.bd [.int .i64 0, .slice none 0 0, .slice none 0 0, .int .i64 0, .slice none 0 0, .slice none 0 0] [(0, 1, .t 14), (1, 1, .t 18), (3, 1, .t 20), (4, 1, .t 24)] [(2, 1), (5, 2)]),
 oo 7 (.al [.int .i64 0, .slice none 0 0, .slice none 0 0, .int .i64 0, .slice none 0 0, .slice none 0 0] []),
 on1 (.st 6 (.t 7) (.t 25))])
 (.sq (.sq (rg [om 8 (i6 0)])
 (.bl 0 (.lp [1, 2, 3, 6, 7, 8] [192, 224, 576, 672, 768, 800, 801, 1056, 1888, 3200, 4096] (.sq (.sq (rg [om 26 (.t 8),
 oo 27 (.fa 1 (.t 3)),
 oo 28 (.ld none (.t 27)),
 oo 29 (.ln (.t 28)),
 oo 30 (.bi .lss 0 (.t 26) (.t 29))])
 (.cd (.t 30) (.sk)
 (.ex 0)))
 (.sq (.bl 1 (.sq (rg [oo 33 (.bs 1 0 [] []),
 om 9 (.t 33)])
 (.sq (.sq (rg [om 10 (i6 0)])
 (.bl 2 (.lp [1, 2, 3, 6, 7, 8, 9, 10] [192, 224, 576, 672, 768, 800, 801, 1056, 1888, 3200, 4096] (.sq (.sq (rg [om 34 (.t 10),
 oo 35 (.fa 1 (.t 3)),
 oo 36 (.ld none (.t 35)),
 om 37 (.t 8),
 oo 38 (.ia 3 (.t 36) (.t 37)),
 oo 39 (.fa 2 (.t 38)),
 oo 40 (.ld none (.t 39)),
 oo 41 (.ln (.t 40)),
 oo 42 (.bi .lss 0 (.t 34) (.t 41))])
 (.cd (.t 42) (.sk)
 (.ex 2)))
 (.sq (.bl 3 (.rg (some 0) [om 45 (.t 9),
 oo 46 (.ld (some 6) (.t 3)),
 oo 47 (.fa 1 (.t 3)),
 oo 48 (.ld none (.t 47)),
 om 49 (.t 8),
 oo 50 (.ia 3 (.t 48) (.t 49)),
 oo 51 (.fa 2 (.t 50)),
 oo 52 (.ld none (.t 51)),
 om 53 (.t 10),
 oo 54 (.ia 1 (.t 52) (.t 53)),
 oo 55 (.ld none (.t 54)),
 om 56 (.t 2),
 oo 57 (.ca .pure false (.f fid_spec_l2Tie) [.t 46, .t 55, .t 56]),
 oo 58 (.bs 1 1 [.int .i64 0] [(0, .t 57)]),
 oo 59 (.ap 1 0 (.t 45) (.t 58)),
 om 9 (.t 59)]))
 (rg [om 43 (.t 10),
 oo 44 (.bi .add 0 (.t 43) (i6 1)),
 om 10 (.t 44)]))))))
 (.rg (some 0) [oo 60 (.fa 1 (.t 7)),
 oo 61 (.ld none (.t 60)),
 om 62 (.t 1),
 om 63 (.t 8),
 oo 64 (.ia 1 (.t 62) (.t 63)),
 oo 65 (.ld none (.t 64)),
 oo 66 (.fa 1 (.t 3)),
 oo 67 (.ld none (.t 66)),
 om 68 (.t 8),
 oo 69 (.ia 3 (.t 67) (.t 68)),
 oo 70 (.fa 0 (.t 69)),
 oo 71 (.ld none (.t 70)),
 oo 72 (.fa 1 (.t 3)),
 oo 73 (.ld none (.t 72)),
 om 74 (.t 8),
 oo 75 (.ia 3 (.t 73) (.t 74)),
 oo 76 (.fa 1 (.t 75)),
 oo 77 (.ld none (.t 76)),
 om 78 (.t 1),
 oo 79 (.ca .pure false (.f fid_spec_l2Move) [.t 77, .t 78]),
 om 80 (.t 9),
 oo 81 (.bd [.int .i64 0, .int .i64 0, .slice none 0 0] [(0, 1, .t 71), (1, 1, .t 79), (2, 1, .t 80)] []),
 oo 82 (.ia 3 (.t 61) (.t 65)),
 on1 (.st 3 (.t 82) (.t 81))]))))
 (rg [om 31 (.t 8),
 oo 32 (.bi .add 0 (.t 31) (i6 1)),
 om 8 (.t 32)]))))))
 (.sq (.sq (rg [om 11 (i6 0)])
 (.bl 4 (.lp [1, 2, 3, 6, 7, 11] [192, 224, 576, 672, 768, 800, 801, 1056, 1888, 3200, 4096] (.sq (.sq (rg [om 83 (.t 11),
 oo 84 (.fa 2 (.t 3)),
 oo 85 (.ld none (.t 84)),
 oo 86 (.ln (.t 85)),
 oo 87 (.bi .lss 0 (.t 83) (.t 86))])
 (.cd (.t 87) (.sk)
 (.ex 4)))
 (.sq (.bl 5 (.rg (some 0) [oo 90 (.fa 2 (.t 7)),
 oo 91 (.ld none (.t 90)),
 oo 92 (.fa 2 (.t 3)),
 oo 93 (.ld none (.t 92)),
 om 94 (.t 11),
 oo 95 (.ia 1 (.t 93) (.t 94)),
 oo 96 (.ld none (.t 95)),
 om 97 (.t 1),
 oo 98 (.ca .pure false (.f fid_spec_l2Move) [.t 96, .t 97]),
 oo 99 (.bs 1 1 [.int .i64 0] [(0, .t 98)]),
 oo 100 (.ap 1 0 (.t 91) (.t 99)),
 oo 101 (.fa 2 (.t 7)),
 on1 (.st 1 (.t 101) (.t 100))]))
 (rg [om 88 (.t 11),
 oo 89 (.bi .add 0 (.t 88) (i6 1)),
 om 11 (.t 89)]))))))
 (.sq (.sq (rg [om 12 (i6 0)])
 (.bl 6 (.lp [2, 3, 6, 7, 12] [192, 224, 576, 672, 768, 800, 801, 1056, 1888, 3200, 4096] (.sq (.sq (rg [om 102 (.t 12),
 oo 103 (.fa 5 (.t 3)),
 oo 104 (.ld none (.t 103)),
 oo 105 (.ln (.t 104)),
 oo 106 (.bi .lss 0 (.t 102) (.t 105))])
 (.cd (.t 106) (.sk)
 (.ex 6)))
 (.sq (.bl 7 (.rg (some 0) [oo 109 (.fa 5 (.t 7)),
 oo 110 (.ld none (.t 109)),
 oo 111 (.fa 5 (.t 3)),
 oo 112 (.ld none (.t 111)),
 om 113 (.t 12),
 oo 114 (.ia 2 (.t 112) (.t 113)),
 oo 115 (.fa 0 (.t 114)),
 oo 116 (.ld none (.t 115)),
 oo 117 (.ld (some 6) (.t 3)),
 oo 118 (.fa 5 (.t 3)),
 oo 119 (.ld none (.t 118)),
 om 120 (.t 12),
 oo 121 (.ia 2 (.t 119) (.t 120)),
 oo 122 (.fa 1 (.t 121)),
 oo 123 (.ld none (.t 122)),
 om 124 (.t 2),
 oo 125 (.ca .pure false (.f fid_spec_l2Tie) [.t 117, .t 123, .t 124]),
 oo 126 (.bd [.string ⟨#[]⟩, .int .i64 0] [(0, 1, .t 116), (1, 1, .t 125)] []),
 oo 127 (.bs 2 1 [.string ⟨#[]⟩, .int .i64 0] [(0, .t 126)]),
 oo 128 (.ap 2 0 (.t 110) (.t 127)),
 oo 129 (.fa 5 (.t 7)),
 on1 (.st 1 (.t 129) (.t 128))]))
 (rg [om 107 (.t 12),
 oo 108 (.bi .add 0 (.t 107) (i6 1)),
 om 12 (.t 108)]))))))
 (.sq (rg [oo 130 (.ld (some 6) (.t 7)),
 on1 (.st 6 (.t 6) (.t 130))])
 (.rt))))))) }
theorem k_spec_l2Renumber : chkF Go.Proofs.Tryz.prog fid_spec_l2Renumber c_spec_l2Renumber = true := by kernel_rfl

def c_spec_l4Edges : F2 :=
  { nt := 20, res := [.t 4 [2]], body :=
   (.sq (rg [om 4 (.k (.slice none 0 0))])
 (.sq (rg [oo 7 (.bs 1 0 [] []),
 om 5 (.t 7)])
 (.sq (.sq (rg [om 6 (i6 0)])
 (.bl 0 (.lp [0, 1, 5, 6] [224, 576] (.sq (.sq (rg [om 8 (.t 6),
 om 9 (.t 1),
 oo 10 (.bi .lss 0 (.t 8) (.t 9))])
 (.cd (.t 10) (.sk)
 (.ex 0)))
 (.sq (.bl 1 (rg [om 13 (.t 5),
 om 14 (.t 0),
 om 15 (.t 6),
 oo 16 (.bi .add 0 (.t 14) (.t 15)),
 oo 17 (.bs 1 1 [.int .i64 0] [(0, .t 16)]),
 oo 18 (.ap 1 0 (.t 13) (.t 17)),
 om 5 (.t 18)]))
 (rg [om 11 (.t 6),
 oo 12 (.bi .add 0 (.t 11) (i6 1)),
 om 6 (.t 12)]))))))
 (.sq (rg [om 19 (.t 5),
 om 4 (.t 19)])
 (.rt))))) }
theorem k_spec_l4Edges : chkF Go.Proofs.Tryz.prog fid_spec_l4Edges c_spec_l4Edges = true := by kernel_rfl

def c_spec_l4Parent : F2 :=
  { nt := 17, res := [.t 6 [0]], body :=
   (.sq (rg [om 6 (i6 0)])
 (.sq (.sq (rg [om 7 (.t 0),
 oo 8 (.bi .lss 0 (.t 7) (i6 0))])
 (.cd (.t 8) (.sq (rg [om 9 (.t 2),
 om 10 (.t 0),
 oo 11 (.bi .sub 0 (i6 (-1)) (.t 10)),
 oo 12 (.ia 1 (.t 9) (.t 11)),
 oo 13 (.ld none (.t 12)),
 om 6 (.t 13)])
 (.rt))
 (.sk)))
 (.sq (rg [om 14 (.t 0),
 om 15 (.t 1),
 oo 16 (.bi .add 0 (.t 14) (.t 15)),
 om 6 (.t 16)])
 (.rt)))) }
theorem k_spec_l4Parent : chkF Go.Proofs.Tryz.prog fid_spec_l4Parent c_spec_l4Parent = true := by kernel_rfl

def c_spec_l2Name : F2 :=
  { nt := 23, res := [.t 2 [0]], body :=
   (.sq (rg [om 2 (.k (.bool false))])
 (.sq (.sq (rg [om 3 (i6 0)])
 (.bl 0 (.lp [0, 3] [] (.sq (.sq (rg [om 4 (.t 3),
 om 5 (.t 0),
 oo 6 (.lg (.t 5)),
 oo 7 (.bi .lss 0 (.t 4) (.t 6))])
 (.cd (.t 7) (.sk)
 (.ex 0)))
 (.sq (.bl 1 (.sq (rg [om 10 (.t 0),
 om 11 (.t 3),
 oo 12 (.ix (.t 10) (.t 11)),
 oo 13 (.bi .lss 0 (.t 12) (.k (.int .u8 97))),
 om 14 (.t 13),
 og 15 14 false (.mv (.t 0) none),
 og 16 14 false (.mv (.t 3) none),
 og 17 14 false (.ix (.t 15) (.t 16)),
 og 18 14 false (.bi .gtr 0 (.t 17) (.k (.int .u8 122))),
 oo 19 (.pk (.t 14) (.k (.bool true)) (.t 18))])
 (.cd (.t 19) (.sq (rg [om 2 (.k (.bool false))])
 (.rt))
 (.sk))))
 (rg [om 8 (.t 3),
 oo 9 (.bi .add 0 (.t 8) (i6 1)),
 om 3 (.t 9)]))))))
 (.sq (rg [om 20 (.t 0),
 oo 21 (.lg (.t 20)),
 oo 22 (.ca .pure false (.f fid_spec_l1In) [.t 21, i6 1, i6 4]),
 om 2 (.t 22)])
 (.rt)))) }
theorem k_spec_l2Name : chkF Go.Proofs.Tryz.prog fid_spec_l2Name c_spec_l2Name = true := by kernel_rfl

def c_impl_IsSignature_1 : F2 :=
  { nt := 9, res := [.t 3 [0]], body :=
   (.sq (rg [oo 2 (.bt (.t 0)),
 om 3 (.k (.bool false))])
 (.sq (rg [oo 4 (.fa 0 (.t 2)),
 oo 5 (.ld none (.t 4)),
 oo 6 (.fa 0 (.t 1)),
 oo 7 (.ld none (.t 6)),
 oo 8 (.bi .eql 0 (.t 5) (.t 7)),
 om 3 (.t 8)])
 (.rt))) }
theorem k_impl_IsSignature_1 : chkF Go.Proofs.Tryz.prog fid_impl_IsSignature_1 c_impl_IsSignature_1 = true := by kernel_rfl

def c_slices_Clone_impl_Wire_impl_Wire : F2 :=
  { nt := 8, res := [.t 2 [3]], body :=
   (.sq (rg [om 2 (.k (.slice none 0 0))])
 (.sq (.sq (rg [om 3 (.t 0),
 oo 4 (.nl false (.t 3))])
 (.cd (.t 4) (.sq (rg [om 2 (.k (.slice none 0 0))])
 (.rt))
 (.sk)))
 (.sq (rg [oo 5 (.bs 2 0 [] []),
 om 6 (.t 0),
 oo 7 (.ap 2 0 (.t 5) (.t 6)),
 om 2 (.t 7)])
 (.rt)))) }
theorem k_slices_Clone_impl_Wire_impl_Wire : chkF Go.Proofs.Tryz.prog fid_slices_Clone_impl_Wire_impl_Wire c_slices_Clone_impl_Wire_impl_Wire = true := by kernel_rfl

def c_slices_Sort_string_string : F2 :=
  { nt := 11, res := [], body :=
   (.sq (rg [om 3 (.t 0),
 oo 4 (.ln (.t 3)),
 om 2 (.t 4)])
 (rg [om 5 (.t 0),
 om 6 (.t 2),
 om 7 (.t 2),
 oo 8 (.cv (.int .u64) (.t 7)),
 oo 9 (.ca .pure false (.f fid_math_bits_Len) [.t 8]),
 oo 10 (.ca .any false (.f fid_slices_pdqsortOrdered_string) [.t 5, i6 0, .t 6, .t 9])])) }
theorem k_slices_Sort_string_string : chkF Go.Proofs.Tryz.prog fid_slices_Sort_string_string c_slices_Sort_string_string = true := by kernel_rfl

def c_slices_Compact_string_string : F2 :=
  { nt := 61, res := [.t 2 [2]], body :=
   (.sq (rg [om 2 (.k (.slice none 0 0))])
 (.sq (.sq (rg [om 6 (.t 0),
 oo 7 (.ln (.t 6)),
 oo 8 (.bi .lss 0 (.t 7) (i6 2))])
 (.cd (.t 8) (.sq (rg [om 9 (.t 0),
 om 2 (.t 9)])
 (.rt))
 (.sk)))
 (.sq (.sq (rg [om 3 (i6 1)])
 (.bl 0 (.lp [0, 3] [] (.sq (.sq (rg [om 10 (.t 3),
 om 11 (.t 0),
 oo 12 (.ln (.t 11)),
 oo 13 (.bi .lss 0 (.t 10) (.t 12))])
 (.cd (.t 13) (.sk)
 (.ex 0)))
 (.sq (.bl 1 (.sq (.rg (some 0) [om 16 (.t 0),
 om 17 (.t 3),
 oo 18 (.ia 1 (.t 16) (.t 17)),
 oo 19 (.ld none (.t 18)),
 om 20 (.t 0),
 om 21 (.t 3),
 oo 22 (.bi .sub 0 (.t 21) (i6 1)),
 oo 23 (.ia 1 (.t 20) (.t 22)),
 oo 24 (.ld none (.t 23)),
 oo 25 (.bi .eql 0 (.t 19) (.t 24))])
 (.cd (.t 25) (.sq (rg [om 26 (.t 0),
 om 27 (.t 3),
 oo 28 (.sx 1 (.t 26) (some (.t 27)) none none),
 om 4 (.t 28)])
 (.sq (.sq (rg [om 5 (i6 1)])
 (.bl 2 (.lp [0, 3, 4, 5] [] (.sq (.sq (rg [om 29 (.t 5),
 om 30 (.t 4),
 oo 31 (.ln (.t 30)),
 oo 32 (.bi .lss 0 (.t 29) (.t 31))])
 (.cd (.t 32) (.sk)
 (.ex 2)))
 (.sq (.bl 3 (.sq (.rg (some 0) [om 35 (.t 4),
 om 36 (.t 5),
 oo 37 (.ia 1 (.t 35) (.t 36)),
 oo 38 (.ld none (.t 37)),
 om 39 (.t 4),
 om 40 (.t 5),
 oo 41 (.bi .sub 0 (.t 40) (i6 1)),
 oo 42 (.ia 1 (.t 39) (.t 41)),
 oo 43 (.ld none (.t 42)),
 oo 44 (.bi .neq 0 (.t 38) (.t 43))])
 (.cd (.t 44) (.sq (rg [om 45 (.t 0),
 om 46 (.t 3),
 om 47 (.t 4),
 om 48 (.t 5),
 oo 49 (.ia 1 (.t 47) (.t 48)),
 oo 50 (.ld none (.t 49)),
 oo 51 (.ia 1 (.t 45) (.t 46)),
 on1 (.st 1 (.t 51) (.t 50))])
 (rg [om 52 (.t 3),
 oo 53 (.bi .add 0 (.t 52) (i6 1)),
 om 3 (.t 53)]))
 (.sk))))
 (rg [om 33 (.t 5),
 oo 34 (.bi .add 0 (.t 33) (i6 1)),
 om 5 (.t 34)]))))))
 (.sq (rg [om 54 (.t 0),
 om 55 (.t 3),
 oo 56 (.sx 1 (.t 54) (some (.t 55)) none none),
 on1 (.cl 1 [.string ⟨#[]⟩] (.t 56))])
 (.sq (rg [om 57 (.t 0),
 om 58 (.t 3),
 oo 59 (.sx 1 (.t 57) none (some (.t 58)) none),
 om 2 (.t 59)])
 (.rt)))))
 (.sk))))
 (rg [om 14 (.t 3),
 oo 15 (.bi .add 0 (.t 14) (i6 1)),
 om 3 (.t 15)]))))))
 (.sq (rg [om 60 (.t 0),
 om 2 (.t 60)])
 (.rt))))) }
theorem k_slices_Compact_string_string : chkF Go.Proofs.Tryz.prog fid_slices_Compact_string_string c_slices_Compact_string_string = true := by kernel_rfl

def c_spec_l4Equal : F2 :=
  { nt := 26, res := [.t 4 [0]], body :=
   (.sq (rg [om 4 (.k (.bool false))])
 (.sq (.sq (rg [om 6 (.t 0),
 oo 7 (.ln (.t 6)),
 om 8 (.t 1),
 oo 9 (.ln (.t 8)),
 oo 10 (.bi .neq 0 (.t 7) (.t 9))])
 (.cd (.t 10) (.sq (rg [om 4 (.k (.bool false))])
 (.rt))
 (.sk)))
 (.sq (.sq (rg [om 5 (i6 0)])
 (.bl 0 (.lp [0, 1, 5] [] (.sq (.sq (rg [om 11 (.t 5),
 om 12 (.t 0),
 oo 13 (.ln (.t 12)),
 oo 14 (.bi .lss 0 (.t 11) (.t 13))])
 (.cd (.t 14) (.sk)
 (.ex 0)))
 (.sq (.bl 1 (.sq (.rg (some 0) [om 17 (.t 0),
 om 18 (.t 5),
 oo 19 (.ia 1 (.t 17) (.t 18)),
 oo 20 (.ld none (.t 19)),
 om 21 (.t 1),
 om 22 (.t 5),
 oo 23 (.ia 1 (.t 21) (.t 22)),
 oo 24 (.ld none (.t 23)),
 oo 25 (.bi .neq 0 (.t 20) (.t 24))])
 (.cd (.t 25) (.sq (rg [om 4 (.k (.bool false))])
 (.rt))
 (.sk))))
 (rg [om 15 (.t 5),
 oo 16 (.bi .add 0 (.t 15) (i6 1)),
 om 5 (.t 16)]))))))
 (.sq (rg [om 4 (.k (.bool true))])
 (.rt))))) }
theorem k_spec_l4Equal : chkF Go.Proofs.Tryz.prog fid_spec_l4Equal c_spec_l4Equal = true := by kernel_rfl

def c_spec_l2Tie : F2 :=
  { nt := 16, res := [.t 6 [0]], body :=
   (.sq (rg [oo 3 (.bt (.t 0)),
 om 6 (i6 0)])
 (.sq (.sq (rg [om 7 (.t 1),
 oo 8 (.fa 3 (.t 3)),
 oo 9 (.ld none (.t 8)),
 oo 10 (.bi .geq 0 (.t 7) (.t 9))])
 (.cd (.t 10) (.sq (rg [om 11 (.t 1),
 om 6 (.t 11)])
 (.rt))
 (.sk)))
 (.sq (rg [om 12 (.t 2),
 om 13 (.t 1),
 oo 14 (.ia 1 (.t 12) (.t 13)),
 oo 15 (.ld none (.t 14)),
 om 6 (.t 15)])
 (.rt)))) }
theorem k_spec_l2Tie : chkF Go.Proofs.Tryz.prog fid_spec_l2Tie c_spec_l2Tie = true := by kernel_rfl

def c_spec_l2Move : F2 :=
  { nt := 12, res := [.t 4 [0]], body :=
   (.sq (rg [om 4 (i6 0)])
 (.sq (.sq (rg [om 5 (.t 0),
 oo 6 (.bi .lss 0 (.t 5) (i6 0))])
 (.cd (.t 6) (.sq (rg [om 7 (.t 0),
 om 4 (.t 7)])
 (.rt))
 (.sk)))
 (.sq (rg [om 8 (.t 1),
 om 9 (.t 0),
 oo 10 (.ia 1 (.t 8) (.t 9)),
 oo 11 (.ld none (.t 10)),
 om 4 (.t 11)])
 (.rt)))) }
theorem k_spec_l2Move : chkF Go.Proofs.Tryz.prog fid_spec_l2Move c_spec_l2Move = true := by kernel_rfl

def c_math_bits_Len : F2 :=
  { nt := 8, res := [.t 2 [0]], body :=
   (.sq (rg [om 2 (i6 0)])
 (.sq (.cd (.k (.bool false)) (.sq (rg [om 3 (.t 0),
 oo 4 (.cv (.int .u32) (.t 3)),
 oo 5 (.ca .pure false (.f fid_math_bits_Len32) [.t 4]),
 om 2 (.t 5)])
 (.rt))
 (.sk))
 (.sq (rg [om 6 (.t 0),
 oo 7 (.ca .pure false (.f fid_math_bits_Len64) [.t 6]),
 om 2 (.t 7)])
 (.rt)))) }
theorem k_math_bits_Len : chkF Go.Proofs.Tryz.prog fid_math_bits_Len c_math_bits_Len = true := by kernel_rfl

def c_slices_pdqsortOrdered_string : F2 :=
  { nt := 134, res := [], body :=
   (.sq (rg [om 8 (.k (.bool true))])
 (.sq (rg [om 9 (.k (.bool true))])
 (.bl 0 (.lp [0, 1, 2, 3, 8, 9] [] (.bl 1 (.sq (rg [om 19 (.t 2),
 om 20 (.t 1),
 oo 21 (.bi .sub 0 (.t 19) (.t 20)),
 om 10 (.t 21)])
 (.sq (.sq (rg [om 22 (.t 10),
 oo 23 (.bi .leq 0 (.t 22) (i6 12))])
 (.cd (.t 23) (.sq (rg [om 24 (.t 0),
 om 25 (.t 1),
 om 26 (.t 2),
 oo 27 (.ca .any false (.f fid_slices_insertionSortOrdered_string) [.t 24, .t 25, .t 26])])
 (.rt))
 (.sk)))
 (.sq (.sq (rg [om 28 (.t 3),
 oo 29 (.bi .eql 0 (.t 28) (i6 0))])
 (.cd (.t 29) (.sq (rg [om 30 (.t 0),
 om 31 (.t 1),
 om 32 (.t 2),
 oo 33 (.ca .pure false (.f fid_slices_heapSortOrdered_string) [.t 30, .t 31, .t 32])])
 (.rt))
 (.sk)))
 (.sq (.sq (rg [om 34 (.t 8),
 oo 35 (.nt (.t 34))])
 (.cd (.t 35) (.sq (rg [om 36 (.t 0),
 om 37 (.t 1),
 om 38 (.t 2),
 oo 39 (.ca .pure false (.f fid_slices_breakPatternsOrdered_string) [.t 36, .t 37, .t 38])])
 (rg [om 40 (.t 3),
 oo 41 (.bi .sub 0 (.t 40) (i6 1)),
 om 3 (.t 41)]))
 (.sk)))
 (.sq (rg [om 43 (.t 0),
 om 44 (.t 1),
 om 45 (.t 2),
 oo 46 (.ca .pure false (.f fid_slices_choosePivotOrdered_string) [.t 43, .t 44, .t 45]),
 om 42 (.t 46),
 oo 47 (.ex 0 (.t 42)),
 oo 48 (.ex 1 (.t 42)),
 om 11 (.t 47),
 om 12 (.t 48)])
 (.sq (.sq (rg [om 49 (.t 12),
 oo 50 (.bi .eql 0 (.t 49) (i6 2))])
 (.cd (.t 50) (.sq (rg [om 51 (.t 0),
 om 52 (.t 1),
 om 53 (.t 2),
 oo 54 (.ca .pure false (.f fid_slices_reverseRangeOrdered_string) [.t 51, .t 52, .t 53])])
 (.sq (rg [om 55 (.t 2),
 oo 56 (.bi .sub 0 (.t 55) (i6 1)),
 om 57 (.t 11),
 om 58 (.t 1),
 oo 59 (.bi .sub 0 (.t 57) (.t 58)),
 oo 60 (.bi .sub 0 (.t 56) (.t 59)),
 om 11 (.t 60)])
 (rg [om 12 (i6 1)])))
 (.sk)))
 (.sq (.sq (rg [om 61 (.t 8),
 om 62 (.t 61),
 og 63 62 true (.mv (.t 9) none),
 oo 64 (.pk (.t 62) (.t 63) (.k (.bool false))),
 om 65 (.t 64),
 og 66 65 true (.mv (.t 12) none),
 og 67 65 true (.bi .eql 0 (.t 66) (i6 1)),
 oo 68 (.pk (.t 65) (.t 67) (.k (.bool false)))])
 (.cd (.t 68) (.sq (rg [om 69 (.t 0),
 om 70 (.t 1),
 om 71 (.t 2),
 oo 72 (.ca .pure false (.f fid_slices_partialInsertionSortOrdered_string) [.t 69, .t 70, .t 71])])
 (.cd (.t 72) (.rt)
 (.sk)))
 (.sk)))
 (.sq (.sq (.rg (some 0) [om 73 (.t 1),
 oo 74 (.bi .gtr 0 (.t 73) (i6 0)),
 om 75 (.t 74),
 og 76 75 true (.mv (.t 0) none),
 og 77 75 true (.mv (.t 1) none),
 og 78 75 true (.bi .sub 0 (.t 77) (i6 1)),
 og 79 75 true (.ia 1 (.t 76) (.t 78)),
 og 80 75 true (.ld none (.t 79)),
 og 81 75 true (.mv (.t 0) none),
 og 82 75 true (.mv (.t 11) none),
 og 83 75 true (.ia 1 (.t 81) (.t 82)),
 og 84 75 true (.ld none (.t 83)),
 og 85 75 true (.ca .pure false (.f fid_cmp_Less_string) [.t 80, .t 84]),
 og 86 75 true (.nt (.t 85)),
 oo 87 (.pk (.t 75) (.t 86) (.k (.bool false)))])
 (.cd (.t 87) (.sq (rg [om 88 (.t 0),
 om 89 (.t 1),
 om 90 (.t 2),
 om 91 (.t 11),
 oo 92 (.ca .pure false (.f fid_slices_partitionEqualOrdered_string) [.t 88, .t 89, .t 90, .t 91]),
 om 13 (.t 92)])
 (.sq (rg [om 93 (.t 13),
 om 1 (.t 93)])
 (.ex 1)))
 (.sk)))
 (.sq (rg [om 95 (.t 0),
 om 96 (.t 1),
 om 97 (.t 2),
 om 98 (.t 11),
 oo 99 (.ca .pure false (.f fid_slices_partitionOrdered_string) [.t 95, .t 96, .t 97, .t 98]),
 om 94 (.t 99),
 oo 100 (.ex 0 (.t 94)),
 oo 101 (.ex 1 (.t 94)),
 om 14 (.t 100),
 om 15 (.t 101)])
 (.sq (rg [om 102 (.t 15),
 om 9 (.t 102)])
 (.sq (rg [om 103 (.t 14),
 om 104 (.t 1),
 oo 105 (.bi .sub 0 (.t 103) (.t 104)),
 om 106 (.t 2),
 om 107 (.t 14),
 oo 108 (.bi .sub 0 (.t 106) (.t 107)),
 om 16 (.t 105),
 om 17 (.t 108)])
 (.sq (rg [om 109 (.t 10),
 oo 110 (.bi .quo 0 (.t 109) (i6 8)),
 om 18 (.t 110)])
 (.sq (rg [om 111 (.t 16),
 om 112 (.t 17),
 oo 113 (.bi .lss 0 (.t 111) (.t 112))])
 (.cd (.t 113) (.sq (rg [om 114 (.t 16),
 om 115 (.t 18),
 oo 116 (.bi .geq 0 (.t 114) (.t 115)),
 om 8 (.t 116)])
 (.sq (rg [om 117 (.t 0),
 om 118 (.t 1),
 om 119 (.t 14),
 om 120 (.t 3),
 oo 121 (.ca .any false (.f fid_slices_pdqsortOrdered_string) [.t 117, .t 118, .t 119, .t 120])])
 (rg [om 122 (.t 14),
 oo 123 (.bi .add 0 (.t 122) (i6 1)),
 om 1 (.t 123)])))
 (.sq (rg [om 124 (.t 17),
 om 125 (.t 18),
 oo 126 (.bi .geq 0 (.t 124) (.t 125)),
 om 8 (.t 126)])
 (.sq (rg [om 127 (.t 0),
 om 128 (.t 14),
 oo 129 (.bi .add 0 (.t 128) (i6 1)),
 om 130 (.t 2),
 om 131 (.t 3),
 oo 132 (.ca .any false (.f fid_slices_pdqsortOrdered_string) [.t 127, .t 129, .t 130, .t 131])])
 (rg [om 133 (.t 14),
 om 2 (.t 133)])))))))))))))))))))))) }
theorem k_slices_pdqsortOrdered_string : chkF Go.Proofs.Tryz.prog fid_slices_pdqsortOrdered_string c_slices_pdqsortOrdered_string = true := by kernel_rfl

def c_math_bits_Len64 : F2 :=
  { nt := 25, res := [.t 2 [0]], body :=
   (.sq (rg [om 2 (i6 0)])
 (.sq (.sq (rg [om 3 (.t 0),
 oo 4 (.bi .geq 0 (.t 3) (.k (.int .u64 4294967296)))])
 (.cd (.t 4) (.sq (rg [om 5 (.t 0),
 oo 6 (.bi .shr 0 (.t 5) (.k (.int .u64 32))),
 om 0 (.t 6)])
 (rg [om 2 (i6 32)]))
 (.sk)))
 (.sq (.sq (rg [om 7 (.t 0),
 oo 8 (.bi .geq 0 (.t 7) (.k (.int .u64 65536)))])
 (.cd (.t 8) (.sq (rg [om 9 (.t 0),
 oo 10 (.bi .shr 0 (.t 9) (.k (.int .u64 16))),
 om 0 (.t 10)])
 (rg [om 11 (.t 2),
 oo 12 (.bi .add 0 (.t 11) (i6 16)),
 om 2 (.t 12)]))
 (.sk)))
 (.sq (.sq (rg [om 13 (.t 0),
 oo 14 (.bi .geq 0 (.t 13) (.k (.int .u64 256)))])
 (.cd (.t 14) (.sq (rg [om 15 (.t 0),
 oo 16 (.bi .shr 0 (.t 15) (.k (.int .u64 8))),
 om 0 (.t 16)])
 (rg [om 17 (.t 2),
 oo 18 (.bi .add 0 (.t 17) (i6 8)),
 om 2 (.t 18)]))
 (.sk)))
 (.sq (rg [om 19 (.t 2),
 om 20 (.t 0),
 oo 21 (.cv (.int .u8) (.t 20)),
 oo 22 (.ix (.k (.string ⟨#[0, 1, 2, 2, 3, 3, 3, 3, 4, 4, 4, 4, 4, 4, 4, 4, 5, 5, 5, 5, 5, 5, 5, 5, 5, 5, 5, 5, 5, 5, 5, 5, 6, 6, 6, 6, 6, 6, 6, 6, 6, 6, 6, 6, 6, 6, 6, 6, 6, 6, 6, 6, 6, 6, 6, 6, 6, 6, 6, 6, 6, 6, 6, 6, 7, 7, 7, 7, 7, 7, 7, 7, 7, 7, 7, 7, 7, 7, 7, 7, 7, 7, 7, 7, 7, 7, 7, 7, 7, 7, 7, 7, 7, 7, 7, 7, 7, 7, 7, 7, 7, 7, 7, 7, 7, 7, 7, 7, 7, 7, 7, 7, 7, 7, 7, 7, 7, 7, 7, 7, 7, 7, 7, 7, 7, 7, 7, 7, 8, 8, 8, 8, 8, 8, 8, 8, 8, 8, 8, 8, 8, 8, 8, 8, 8, 8, 8, 8, 8, 8, 8, 8, 8, 8, 8, 8, 8, 8, 8, 8, 8, 8, 8, 8, 8, 8, 8, 8, 8, 8, 8, 8, 8, 8, 8, 8, 8, 8, 8, 8, 8, 8, 8, 8, 8, 8, 8, 8, 8, 8, 8, 8, 8, 8, 8, 8, 8, 8, 8, 8, 8, 8, 8, 8, 8, 8, 8, 8, 8, 8, 8, 8, 8, 8, 8, 8, 8, 8, 8, 8, 8, 8, 8, 8, 8, 8, 8, 8, 8, 8, 8, 8, 8, 8, 8, 8, 8, 8, 8, 8, 8, 8, 8, 8, 8, 8, 8, 8, 8, 8, 8, 8, 8, 8, 8, 8]⟩)) (.t 21)),
 oo 23 (.cv (.int .i64) (.t 22)),
 oo 24 (.bi .add 0 (.t 19) (.t 23)),
 om 2 (.t 24)])
 (.rt)))))) }
theorem k_math_bits_Len64 : chkF Go.Proofs.Tryz.prog fid_math_bits_Len64 c_math_bits_Len64 = true := by kernel_rfl

def c_slices_insertionSortOrdered_string : F2 :=
  { nt := 49, res := [], body :=
   (.sq (rg [om 8 (.t 1),
 oo 9 (.bi .add 0 (.t 8) (i6 1)),
 om 6 (.t 9)])
 (.bl 0 (.lp [0, 1, 2, 6] [] (.sq (.sq (rg [om 10 (.t 6),
 om 11 (.t 2),
 oo 12 (.bi .lss 0 (.t 10) (.t 11))])
 (.cd (.t 12) (.sk)
 (.ex 0)))
 (.sq (.bl 1 (.sq (rg [om 15 (.t 6),
 om 7 (.t 15)])
 (.bl 2 (.lp [0, 1, 2, 6, 7] [] (.sq (.sq (.rg (some 0) [om 16 (.t 7),
 om 17 (.t 1),
 oo 18 (.bi .gtr 0 (.t 16) (.t 17)),
 om 19 (.t 18),
 og 20 19 true (.mv (.t 0) none),
 og 21 19 true (.mv (.t 7) none),
 og 22 19 true (.ia 1 (.t 20) (.t 21)),
 og 23 19 true (.ld none (.t 22)),
 og 24 19 true (.mv (.t 0) none),
 og 25 19 true (.mv (.t 7) none),
 og 26 19 true (.bi .sub 0 (.t 25) (i6 1)),
 og 27 19 true (.ia 1 (.t 24) (.t 26)),
 og 28 19 true (.ld none (.t 27)),
 og 29 19 true (.ca .pure false (.f fid_cmp_Less_string) [.t 23, .t 28]),
 oo 30 (.pk (.t 19) (.t 29) (.k (.bool false)))])
 (.cd (.t 30) (.sk)
 (.ex 2)))
 (.sq (.bl 3 (.rg (some 0) [om 33 (.t 0),
 om 34 (.t 7),
 om 35 (.t 0),
 om 36 (.t 7),
 oo 37 (.bi .sub 0 (.t 36) (i6 1)),
 om 38 (.t 0),
 om 39 (.t 7),
 oo 40 (.bi .sub 0 (.t 39) (i6 1)),
 oo 41 (.ia 1 (.t 38) (.t 40)),
 oo 42 (.ld none (.t 41)),
 om 43 (.t 0),
 om 44 (.t 7),
 oo 45 (.ia 1 (.t 43) (.t 44)),
 oo 46 (.ld none (.t 45)),
 oo 47 (.ia 1 (.t 33) (.t 34)),
 on1 (.s0 1 (.t 47) (.t 42)),
 oo 48 (.ia 1 (.t 35) (.t 37)),
 on1 (.st 1 (.t 48) (.t 46))]))
 (rg [om 31 (.t 7),
 oo 32 (.bi .sub 0 (.t 31) (i6 1)),
 om 7 (.t 32)])))))))
 (rg [om 13 (.t 6),
 oo 14 (.bi .add 0 (.t 13) (i6 1)),
 om 6 (.t 14)])))))) }
theorem k_slices_insertionSortOrdered_string : chkF Go.Proofs.Tryz.prog fid_slices_insertionSortOrdered_string c_slices_insertionSortOrdered_string = true := by kernel_rfl

def c_cmp_Less_string : F2 :=
  { nt := 17, res := [.t 4 [0]], body :=
   (.sq (rg [om 4 (.k (.bool false))])
 (.sq (rg [om 5 (.t 0),
 oo 6 (.ca .pure false (.f fid_cmp_isNaN_string) [.t 5]),
 om 7 (.t 6),
 og 8 7 true (.mv (.t 1) none),
 og 9 7 true (.ca .pure false (.f fid_cmp_isNaN_string) [.t 8]),
 og 10 7 true (.nt (.t 9)),
 oo 11 (.pk (.t 7) (.t 10) (.k (.bool false))),
 om 12 (.t 11),
 og 13 12 false (.mv (.t 0) none),
 og 14 12 false (.mv (.t 1) none),
 og 15 12 false (.bi .lss 0 (.t 13) (.t 14)),
 oo 16 (.pk (.t 12) (.k (.bool true)) (.t 15)),
 om 4 (.t 16)])
 (.rt))) }
theorem k_cmp_Less_string : chkF Go.Proofs.Tryz.prog fid_cmp_Less_string c_cmp_Less_string = true := by kernel_rfl

def c_cmp_isNaN_string : F2 :=
  { nt := 6, res := [.t 2 [0]], body :=
   (.sq (rg [om 2 (.k (.bool false))])
 (.sq (rg [om 3 (.t 0),
 om 4 (.t 0),
 oo 5 (.bi .neq 0 (.t 3) (.t 4)),
 om 2 (.t 5)])
 (.rt))) }
theorem k_cmp_isNaN_string : chkF Go.Proofs.Tryz.prog fid_cmp_isNaN_string c_cmp_isNaN_string = true := by kernel_rfl

end Go.Fd

namespace Go.Fd
def gIxF (k : Nat) (m : Option Nat) : F2 :=
  { nt := 19, res := [.t 4 [0]], body :=
   (.sq (.rg none [⟨some 4, none, .mv (.k (.int .i64 0)) none⟩])
   (.sq (.sq (.rg none [⟨some 6, none, .mv (.t 0) none⟩,
       ⟨some 7, none, .ln (.t 6)⟩,
       ⟨some 8, none, .mv (.k (.int .i64 0)) none⟩])
    (.bl 0 (.lp [0, 1, 7, 8] [] (.sq (.rg none [⟨some 9, none, .bi .lss 0 (.t 8) (.t 7)⟩])
      (.sq (.cd (.t 9) (.sk)
       (.ex 0))
      (.sq (.bl 1 (.sq (.rg none [⟨some 10, none, .mv (.t 8) none⟩,
           ⟨some 5, none, .mv (.t 10) none⟩])
        (.sq (.rg none [⟨some 11, none, .mv (.t 1) none⟩,
           ⟨some 12, none, .mv (.t 0) none⟩,
           ⟨some 13, none, .mv (.t 5) none⟩,
           ⟨some 14, none, .ia k (.t 12) (.t 13)⟩,
           ⟨some 15, none, .ld m (.t 14)⟩,
           ⟨some 16, none, .ca .pure false (.t 11) [.t 15]⟩])
        (.cd (.t 16) (.sq (.rg none [⟨some 17, none, .mv (.t 5) none⟩,
            ⟨some 4, none, .mv (.t 17) none⟩])
         (.rt))
        (.sk)))))
      (.rg none [⟨some 18, none, .bi .add 0 (.t 8) (.k (.int .i64 1))⟩,
        ⟨some 8, none, .mv (.t 18) none⟩])))))))
   (.sq (.rg none [⟨some 4, none, .mv (.k (.int .i64 (-1))) none⟩])
   (.rt)))) }
def gCoF (fi : FuncId) : F2 :=
  { nt := 9, res := [.t 4 [0]], body :=
   (.sq (.rg none [⟨some 4, none, .mv (.k (.bool false)) none⟩])
   (.sq (.rg none [⟨some 5, none, .mv (.t 0) none⟩,
      ⟨some 6, none, .mv (.t 1) none⟩,
      ⟨some 7, none, .ca .pure false (.f fi) [.t 5, .t 6]⟩,
      ⟨some 8, none, .bi .geq 0 (.t 7) (.k (.int .i64 0))⟩,
      ⟨some 4, none, .mv (.t 8) none⟩])
   (.rt))) }
def gEq1  : F2 :=
  { nt := 26, res := [.t 4 [0]], body :=
   (.sq (.rg none [⟨some 4, none, .mv (.k (.bool false)) none⟩])
   (.sq (.sq (.rg none [⟨some 6, none, .mv (.t 0) none⟩,
       ⟨some 7, none, .ln (.t 6)⟩,
       ⟨some 8, none, .mv (.t 1) none⟩,
       ⟨some 9, none, .ln (.t 8)⟩,
       ⟨some 10, none, .bi .neq 0 (.t 7) (.t 9)⟩])
    (.cd (.t 10) (.sq (.rg none [⟨some 4, none, .mv (.k (.bool false)) none⟩])
     (.rt))
    (.sk)))
   (.sq (.sq (.rg none [⟨some 11, none, .mv (.t 0) none⟩,
       ⟨some 12, none, .ln (.t 11)⟩,
       ⟨some 13, none, .mv (.k (.int .i64 0)) none⟩])
    (.bl 0 (.lp [0, 1, 12, 13] [] (.sq (.rg none [⟨some 14, none, .bi .lss 0 (.t 13) (.t 12)⟩])
      (.sq (.cd (.t 14) (.sk)
       (.ex 0))
      (.sq (.bl 1 (.sq (.rg none [⟨some 15, none, .mv (.t 13) none⟩,
           ⟨some 5, none, .mv (.t 15) none⟩])
        (.sq (.rg (some 0) [⟨some 16, none, .mv (.t 0) none⟩,
           ⟨some 17, none, .mv (.t 5) none⟩,
           ⟨some 18, none, .ia 1 (.t 16) (.t 17)⟩,
           ⟨some 19, none, .ld none (.t 18)⟩,
           ⟨some 20, none, .mv (.t 1) none⟩,
           ⟨some 21, none, .mv (.t 5) none⟩,
           ⟨some 22, none, .ia 1 (.t 20) (.t 21)⟩,
           ⟨some 23, none, .ld none (.t 22)⟩,
           ⟨some 24, none, .bi .neq 0 (.t 19) (.t 23)⟩])
        (.cd (.t 24) (.sq (.rg none [⟨some 4, none, .mv (.k (.bool false)) none⟩])
         (.rt))
        (.sk)))))
      (.rg none [⟨some 25, none, .bi .add 0 (.t 13) (.k (.int .i64 1))⟩,
        ⟨some 13, none, .mv (.t 25) none⟩])))))))
   (.sq (.rg none [⟨some 4, none, .mv (.k (.bool true)) none⟩])
   (.rt))))) }
def gIx1  : F2 :=
  { nt := 19, res := [.t 4 [0]], body :=
   (.sq (.rg none [⟨some 4, none, .mv (.k (.int .i64 0)) none⟩])
   (.sq (.sq (.rg none [⟨some 6, none, .mv (.t 0) none⟩,
       ⟨some 7, none, .ln (.t 6)⟩,
       ⟨some 8, none, .mv (.k (.int .i64 0)) none⟩])
    (.bl 0 (.lp [0, 1, 7, 8] [] (.sq (.rg none [⟨some 9, none, .bi .lss 0 (.t 8) (.t 7)⟩])
      (.sq (.cd (.t 9) (.sk)
       (.ex 0))
      (.sq (.bl 1 (.sq (.rg none [⟨some 10, none, .mv (.t 8) none⟩,
           ⟨some 5, none, .mv (.t 10) none⟩])
        (.sq (.rg none [⟨some 11, none, .mv (.t 1) none⟩,
           ⟨some 12, none, .mv (.t 0) none⟩,
           ⟨some 13, none, .mv (.t 5) none⟩,
           ⟨some 14, none, .ia 1 (.t 12) (.t 13)⟩,
           ⟨some 15, none, .ld none (.t 14)⟩,
           ⟨some 16, none, .bi .eql 0 (.t 11) (.t 15)⟩])
        (.cd (.t 16) (.sq (.rg none [⟨some 17, none, .mv (.t 5) none⟩,
            ⟨some 4, none, .mv (.t 17) none⟩])
         (.rt))
        (.sk)))))
      (.rg none [⟨some 18, none, .bi .add 0 (.t 8) (.k (.int .i64 1))⟩,
        ⟨some 8, none, .mv (.t 18) none⟩])))))))
   (.sq (.rg none [⟨some 4, none, .mv (.k (.int .i64 (-1))) none⟩])
   (.rt)))) }
end Go.Fd

namespace Go.Fd
set_option maxRecDepth 20000

section rules
variable {L : Sto} {F : List IV → Prop} {lvl : Nat}
theorem r_snta : ∀ {l : List (List Tr)} {F : List IV → Prop}, snaps L (l.map IV.ta) F = F (l.map IV.ta)
  | [], F => r_sn0
  | x :: r, F => by
    simp only [List.map_cons]
    rw [r_sn5, r_snta]
    rfl
theorem r_mensta {Pd : Oid → Prop} : ∀ {l : List (List Tr)}, mens Pd (l.map IV.ta) = True
  | [] => rfl
  | x :: r => by
    simp only [List.map_cons, mens, men, true_and]
    exact r_mensta
theorem r_okmsta {js : List Nat} {l : List (List Tr)} : okms lvl js (l.map IV.ta) = True := r_mensta
end rules

section
variable {P : Program} {α : Type}
theorem getA {α β : Type} {c : α → β} {l : List α} {j : Nat} (h : j < l.length) : (l.map c)[j]? = some (c l[j]) := by simp [h]
theorem cut_take0 {α : Type} {c : α → List Tr} {l : List α} {j : Nat} : cut (l.map c) 0 (j - 0) = (l.take j).map c := by
  simp only [cut, List.drop_zero, Nat.sub_zero, List.map_take]
theorem drop_cons {α : Type} {l : List α} {j : Nat} (h : j < l.length) : l.drop j = l[j] :: l.drop (j + 1) := List.drop_eq_getElem_cons h

def ixF (f : α → Bool) : List α → Int → Int
  | [], _ => -1
  | x :: r, j => if f x = true then j else ixF f r (j + 1)
theorem ixF_cons {f : α → Bool} {x : α} {r : List α} {j : Int} : ixF f (x :: r) j = if f x = true then j else ixF f r (j + 1) := rfl
theorem ixF_any {f : α → Bool} : ∀ {l : List α} {j : Int}, 0 ≤ j → (0 ≤ ixF f l j ↔ l.any f = true)
  | [], j, _ => by simp [ixF]
  | x :: r, j, h => by
    rw [ixF_cons, List.any_cons]
    cases hx : f x with
    | true => simp [h]
    | false =>
      simp only [Bool.false_eq_true, if_false, Bool.false_or]
      exact ixF_any (by omega)

theorem sem_ixF1 {fid : FuncId} (hc : chkF P fid (gIxF 1 none) = true) {t : α → Tr} {f : α → Bool} {fe : FuncId} {cs : List (List Tr)} (l : List α) (hl : l.length ≤ 9223372036854775807)
    (hf : ∀ x ∈ l, ∀ lvl S, Sem P fe lvl (.tr (t x) :: cs.map IV.ta) S (iB (f x)) S) (lvl : Nat) (S : Sto) : Sem P fid lvl [.tr (.sl (l.map fun x => [t x])), .fn fe (cs.map IV.ta)] S (iI (ixF f l 0)) S := by
  refine sem_of_chk hc trivial ?_
  simp only [gIxF, List.length_map, r_okmsta, EVA, ↓reduceIte, Nat.reduceEqDiff, Nat.reduceMul, reduceCtorEq, Nat.reduceAdd, Nat.reduceSub, Nat.reduceLeDiff, Nat.reduceLT, Int.reduceToNat, Int.reduceLE, Int.reduceLT, mens, men]
  refine wp_cnt (α := Unit) l.length (fun j _ => [(8, iI j)]) (fun _ _ => []) (fun j _ => ixF f (l.drop j) j = ixF f l 0) () (by simp only [r_okmsta, EVA, ↓reduceIte, Nat.reduceEqDiff, Nat.reduceMul, reduceCtorEq, Nat.reduceAdd, Nat.reduceSub, Nat.reduceLeDiff, Nat.reduceLT, Int.reduceToNat, Int.reduceLE, Int.reduceLT, mens, men]) (by (simp only [EVA, ↓reduceIte, Nat.reduceEqDiff, Nat.reduceMul, reduceCtorEq, Nat.reduceAdd, Nat.reduceSub, Nat.reduceLeDiff, Nat.reduceLT, Int.reduceToNat, Int.reduceLE, Int.reduceLT, mens, men]) <;> rfl) rfl ?_
  intro j _ hj hA
  simp only [List.length_map, r_okmsta, EVA, ↓reduceIte, Nat.reduceEqDiff, Nat.reduceMul, reduceCtorEq, Nat.reduceAdd, Nat.reduceSub, Nat.reduceLeDiff, Nat.reduceLT, Int.reduceToNat, Int.reduceLE, Int.reduceLT, mens, men]
  refine ite_of (fun hlt => ?_) (fun hge => ?_)
  · have hja : j < l.length := by omega
    have ga := getA (c := fun x => [t x]) hja
    rw [drop_cons hja, ixF_cons] at hA
    simp only [ga, r_okmsta, r_snta, r_mensta, EVA, ↓reduceIte, Nat.reduceEqDiff, Nat.reduceMul, reduceCtorEq, Nat.reduceAdd, Nat.reduceSub, Nat.reduceLeDiff, Nat.reduceLT, Int.reduceToNat, Int.reduceLE, Int.reduceLT, mens, men]
    refine kca_intro (hf _ (List.getElem_mem hja)) ?_
    simp only [r_mensta, r_okmsta, EVA, ↓reduceIte, Nat.reduceEqDiff, Nat.reduceMul, reduceCtorEq, Nat.reduceAdd, Nat.reduceSub, Nat.reduceLeDiff, Nat.reduceLT, Int.reduceToNat, Int.reduceLE, Int.reduceLT, mens, men]
    refine ite_of (fun h => ?_) (fun h => ?_)
    · rw [if_pos h] at hA
      rw [← hA]
    · rw [if_neg h] at hA
      exact ⟨by rw [fits_i64]; omega, cntJ_intro () hja rfl hA⟩
  · have : j = l.length := by omega
    subst this
    rw [List.drop_length] at hA
    rw [← hA]
    rfl
theorem sem_ixFk {k : Nat} {fid : FuncId} (hc : chkF P fid (gIxF k (some k)) = true) {c : α → List Tr} (hk : ∀ x, (c x).length = k) {f : α → Bool} {fe : FuncId} {cs : List (List Tr)} (l : List α) (hl : l.length ≤ 9223372036854775807)
    (hf : ∀ x ∈ l, ∀ lvl S, Sem P fe lvl (.ag ((c x).map .tr) :: cs.map IV.ta) S (iB (f x)) S) (lvl : Nat) (S : Sto) : Sem P fid lvl [.tr (.sl (l.map c)), .fn fe (cs.map IV.ta)] S (iI (ixF f l 0)) S := by
  refine sem_of_chk hc trivial ?_
  simp only [gIxF, List.length_map, r_okmsta, EVA, ↓reduceIte, Nat.reduceEqDiff, Nat.reduceMul, reduceCtorEq, Nat.reduceAdd, Nat.reduceSub, Nat.reduceLeDiff, Nat.reduceLT, Int.reduceToNat, Int.reduceLE, Int.reduceLT, mens, men]
  refine wp_cnt (α := Unit) l.length (fun j _ => [(8, iI j)]) (fun _ _ => []) (fun j _ => ixF f (l.drop j) j = ixF f l 0) () (by simp only [r_okmsta, EVA, ↓reduceIte, Nat.reduceEqDiff, Nat.reduceMul, reduceCtorEq, Nat.reduceAdd, Nat.reduceSub, Nat.reduceLeDiff, Nat.reduceLT, Int.reduceToNat, Int.reduceLE, Int.reduceLT, mens, men]) (by (simp only [EVA, ↓reduceIte, Nat.reduceEqDiff, Nat.reduceMul, reduceCtorEq, Nat.reduceAdd, Nat.reduceSub, Nat.reduceLeDiff, Nat.reduceLT, Int.reduceToNat, Int.reduceLE, Int.reduceLT, mens, men]) <;> rfl) rfl ?_
  intro j _ hj hA
  simp only [List.length_map, r_okmsta, EVA, ↓reduceIte, Nat.reduceEqDiff, Nat.reduceMul, reduceCtorEq, Nat.reduceAdd, Nat.reduceSub, Nat.reduceLeDiff, Nat.reduceLT, Int.reduceToNat, Int.reduceLE, Int.reduceLT, mens, men]
  refine ite_of (fun hlt => ?_) (fun hge => ?_)
  · have hja : j < l.length := by omega
    have ga := getA (c := c) hja
    have hkk := hk l[j]
    have htk : (c l[j]).take k = c l[j] := List.take_of_length_le (by omega)
    rw [drop_cons hja, ixF_cons] at hA
    simp only [ga, hkk, htk, r_okmsta, r_snta, r_snm, r_mensta, r_mensm, EVA, ↓reduceIte, Nat.reduceEqDiff, Nat.reduceMul, reduceCtorEq, Nat.reduceAdd, Nat.reduceSub, Nat.reduceLeDiff, Nat.reduceLT, Int.reduceToNat, Int.reduceLE, Int.reduceLT, mens, men]
    refine kca_intro (hf _ (List.getElem_mem hja)) ?_
    simp only [r_mensta, r_mensm, r_okmsta, EVA, ↓reduceIte, Nat.reduceEqDiff, Nat.reduceMul, reduceCtorEq, Nat.reduceAdd, Nat.reduceSub, Nat.reduceLeDiff, Nat.reduceLT, Int.reduceToNat, Int.reduceLE, Int.reduceLT, mens, men]
    refine ite_of (fun h => ?_) (fun h => ?_)
    · rw [if_pos h] at hA
      rw [← hA]
    · rw [if_neg h] at hA
      exact ⟨by rw [fits_i64]; omega, cntJ_intro () hja rfl hA⟩
  · have : j = l.length := by omega
    subst this
    rw [List.drop_length] at hA
    rw [← hA]
    rfl
theorem sem_coF {fid fi : FuncId} (hc : chkF P fid (gCoF fi) = true) {es : Row} {f : α → Bool} {fe : FuncId} {cs : List (List Tr)} {l : List α}
    (hi : ∀ lvl S, Sem P fi lvl [.tr (.sl es), .fn fe (cs.map IV.ta)] S (iI (ixF f l 0)) S) (lvl : Nat) (S : Sto) : Sem P fid lvl [.tr (.sl es), .fn fe (cs.map IV.ta)] S (iB (l.any f)) S := by
  refine sem_of_chk hc trivial ?_
  simp only [gCoF, r_snta, r_mensta, r_okmsta, EVA, ↓reduceIte, Nat.reduceEqDiff, Nat.reduceMul, reduceCtorEq, Nat.reduceAdd, Nat.reduceSub, Nat.reduceLeDiff, Nat.reduceLT, Int.reduceToNat, Int.reduceLE, Int.reduceLT, mens, men]
  refine kca_intro hi ?_
  simp only [r_snta, r_mensta, EVA, ↓reduceIte, Nat.reduceEqDiff, Nat.reduceMul, reduceCtorEq, Nat.reduceAdd, Nat.reduceSub, Nat.reduceLeDiff, Nat.reduceLT, Int.reduceToNat, Int.reduceLE, Int.reduceLT, mens, men]
  have := ixF_any (f := f) (l := l) (Int.le_refl 0)
  by_cases h : l.any f = true
  · simp [h, this.2 h]
  · simp [h, mt this.1 h]
theorem sem_coF1 {fid fi : FuncId} (hc : chkF P fid (gCoF fi) = true) (hi : chkF P fi (gIxF 1 none) = true) {t : α → Tr} {f : α → Bool} {fe : FuncId} {cs : List (List Tr)} (l : List α) (hl : l.length ≤ 9223372036854775807)
    (hf : ∀ x ∈ l, ∀ lvl S, Sem P fe lvl (.tr (t x) :: cs.map IV.ta) S (iB (f x)) S) (lvl : Nat) (S : Sto) : Sem P fid lvl [.tr (.sl (l.map fun x => [t x])), .fn fe (cs.map IV.ta)] S (iB (l.any f)) S :=
  sem_coF hc (sem_ixF1 hi l hl hf) lvl S
theorem sem_coFk {k : Nat} {fid fi : FuncId} (hc : chkF P fid (gCoF fi) = true) (hi : chkF P fi (gIxF k (some k)) = true) {c : α → List Tr} (hk : ∀ x, (c x).length = k) {f : α → Bool} {fe : FuncId} {cs : List (List Tr)} (l : List α) (hl : l.length ≤ 9223372036854775807)
    (hf : ∀ x ∈ l, ∀ lvl S, Sem P fe lvl (.ag ((c x).map .tr) :: cs.map IV.ta) S (iB (f x)) S) (lvl : Nat) (S : Sto) : Sem P fid lvl [.tr (.sl (l.map c)), .fn fe (cs.map IV.ta)] S (iB (l.any f)) S :=
  sem_coF hc (sem_ixFk hi hk l hl hf) lvl S

structure Cmp (t : α → Tr) : Prop where
  neq : ∀ (x y : α) (F : IV → Prop), bi2 .neq 0 (.tr (t x)) (.tr (t y)) F = F (iB (!(@decide (x = y) (Classical.propDecidable _))))
  eql : ∀ (x y : α) (F : IV → Prop), bi2 .eql 0 (.tr (t x)) (.tr (t y)) F = F (iB (@decide (x = y) (Classical.propDecidable _)))
theorem cmpTS : Cmp ts := ⟨fun x y F => by rw [r_nes]; congr 2; by_cases h : x = y <;> simp [h], fun x y F => by rw [r_eqs]; congr 2; by_cases h : x = y <;> simp [h]⟩
theorem sem_eq1 {fid : FuncId} (hc : chkF P fid gEq1 = true) [DecidableEq α] {t : α → Tr} (hT : Cmp t) (a b : List α) (ha : a.length ≤ 9223372036854775807) (lvl : Nat) (S : Sto) : Sem P fid lvl [.tr (.sl (a.map fun x => [t x])), .tr (.sl (b.map fun x => [t x]))] S (iB (decide (a = b))) S := by
  refine sem_of_chk hc trivial ?_
  simp only [gEq1, List.length_map, EVA, ↓reduceIte, Nat.reduceEqDiff, Nat.reduceMul, reduceCtorEq, Nat.reduceAdd, Nat.reduceSub, Nat.reduceLeDiff, Nat.reduceLT, Int.reduceToNat, Int.reduceLE, Int.reduceLT, mens, men]
  refine ite_of (fun h => ?_) (fun h => ?_)
  · have : ¬ a = b := fun e => h (by rw [e])
    simp [this]
  have hlen : a.length = b.length := by omega
  refine wp_cnt (α := Unit) a.length (fun j _ => [(13, iI j)]) (fun _ _ => []) (fun j _ => a.take j = b.take j) () (by simp only [EVA, ↓reduceIte, Nat.reduceEqDiff, Nat.reduceMul, reduceCtorEq, Nat.reduceAdd, Nat.reduceSub, Nat.reduceLeDiff, Nat.reduceLT, Int.reduceToNat, Int.reduceLE, Int.reduceLT, mens, men]) (by (simp only [EVA, ↓reduceIte, Nat.reduceEqDiff, Nat.reduceMul, reduceCtorEq, Nat.reduceAdd, Nat.reduceSub, Nat.reduceLeDiff, Nat.reduceLT, Int.reduceToNat, Int.reduceLE, Int.reduceLT, mens, men]) <;> rfl) rfl ?_
  intro j _ hj hA
  simp only [List.length_map, EVA, ↓reduceIte, Nat.reduceEqDiff, Nat.reduceMul, reduceCtorEq, Nat.reduceAdd, Nat.reduceSub, Nat.reduceLeDiff, Nat.reduceLT, Int.reduceToNat, Int.reduceLE, Int.reduceLT, mens, men]
  refine ite_of (fun hlt => ?_) (fun hge => ?_)
  · have hja : j < a.length := by omega
    have hjb : j < b.length := by omega
    have ga := getA (c := fun x => [t x]) hja
    have gb := getA (c := fun x => [t x]) hjb
    have hq := hT.neq a[j] b[j]
    simp only [ga, gb, hq, EVA, ↓reduceIte, Nat.reduceEqDiff, Nat.reduceMul, reduceCtorEq, Nat.reduceAdd, Nat.reduceSub, Nat.reduceLeDiff, Nat.reduceLT, Int.reduceToNat, Int.reduceLE, Int.reduceLT, mens, men]
    refine ite_of (fun hne => ?_) (fun he => ?_)
    · have : ¬ a = b := list_ne_at hja hjb (by simpa using hne)
      simp [this]
    · exact ⟨by rw [fits_i64]; omega, cntJ_intro () hja rfl (take_succ_eq hja hjb hA (by simpa using he))⟩
  · have : j = a.length := by omega
    subst this
    have : a = b := list_eq_all hlen hA
    simp [this]

theorem sem_ix1 {fid : FuncId} (hc : chkF P fid gIx1 = true) [DecidableEq α] {t : α → Tr} (hT : Cmp t) (l : List α) (v : α) (hl : l.length ≤ 9223372036854775807) (lvl : Nat) (S : Sto) : Sem P fid lvl [.tr (.sl (l.map fun x => [t x])), .tr (t v)] S (iI (ixF (fun x => decide (v = x)) l 0)) S := by
  refine sem_of_chk hc trivial ?_
  simp only [gIx1, List.length_map, EVA, ↓reduceIte, Nat.reduceEqDiff, Nat.reduceMul, reduceCtorEq, Nat.reduceAdd, Nat.reduceSub, Nat.reduceLeDiff, Nat.reduceLT, Int.reduceToNat, Int.reduceLE, Int.reduceLT, mens, men]
  refine wp_cnt (α := Unit) l.length (fun j _ => [(8, iI j)]) (fun _ _ => []) (fun j _ => ixF (fun x => decide (v = x)) (l.drop j) j = ixF (fun x => decide (v = x)) l 0) () (by simp only [EVA, ↓reduceIte, Nat.reduceEqDiff, Nat.reduceMul, reduceCtorEq, Nat.reduceAdd, Nat.reduceSub, Nat.reduceLeDiff, Nat.reduceLT, Int.reduceToNat, Int.reduceLE, Int.reduceLT, mens, men]) (by (simp only [EVA, ↓reduceIte, Nat.reduceEqDiff, Nat.reduceMul, reduceCtorEq, Nat.reduceAdd, Nat.reduceSub, Nat.reduceLeDiff, Nat.reduceLT, Int.reduceToNat, Int.reduceLE, Int.reduceLT, mens, men]) <;> rfl) rfl ?_
  intro j _ hj hA
  simp only [List.length_map, EVA, ↓reduceIte, Nat.reduceEqDiff, Nat.reduceMul, reduceCtorEq, Nat.reduceAdd, Nat.reduceSub, Nat.reduceLeDiff, Nat.reduceLT, Int.reduceToNat, Int.reduceLE, Int.reduceLT, mens, men]
  refine ite_of (fun hlt => ?_) (fun hge => ?_)
  · have hja : j < l.length := by omega
    have ga := getA (c := fun x => [t x]) hja
    have hq := hT.eql v l[j]
    rw [drop_cons hja, ixF_cons] at hA
    simp only [ga, hq, EVA, ↓reduceIte, Nat.reduceEqDiff, Nat.reduceMul, reduceCtorEq, Nat.reduceAdd, Nat.reduceSub, Nat.reduceLeDiff, Nat.reduceLT, Int.reduceToNat, Int.reduceLE, Int.reduceLT, mens, men]
    refine ite_of (fun h => ?_) (fun h => ?_)
    · rw [if_pos (by simpa using h)] at hA
      rw [← hA]
    · rw [if_neg (by simpa using h)] at hA
      exact ⟨by rw [fits_i64]; omega, cntJ_intro () hja rfl hA⟩
  · have : j = l.length := by omega
    subst this
    rw [List.drop_length] at hA
    rw [← hA]
    rfl
end
end Go.Fd

namespace Go.Fd
set_option maxRecDepth 20000

noncomputable def dc (p : Prop) : Bool := @decide p (Classical.propDecidable p)
theorem dc_iff {p : Prop} : dc p = true ↔ p := by unfold dc; simp
theorem dc_true {p : Prop} (h : p) : dc p = true := dc_iff.2 h
theorem dc_false {p : Prop} (h : ¬ p) : dc p = false := by
  cases hh : dc p with
  | false => rfl
  | true => exact absurd (dc_iff.1 hh) h
theorem dc_not {p : Prop} : dc p = false ↔ ¬ p := ⟨fun h hp => (by rw [dc_true hp] at h; cases h), dc_false⟩
theorem dc_congr {p q : Prop} (h : p ↔ q) : dc p = dc q := by rw [propext h]
theorem dc_decide {p : Prop} [Decidable p] : dc p = decide p := by
  by_cases h : p
  · rw [dc_true h]; simp [h]
  · rw [dc_false h]; simp [h]

abbrev g0 (l : List Int) (i : Nat) : Int := l.getD i 0
abbrev A3 := Int × Int × Int
abbrev g3 (l : List A3) (i : Nat) : A3 := l.getD i (0, 0, 0)
theorem rI_get {l : List Int} {i : Nat} (h : i < l.length) : (rI l)[i]? = some [tv (g0 l i)] := by simp [h]
def inB (n a b : Int) : Bool := decide (a ≤ n) && decide (n ≤ b)
theorem inB_iff {n a b : Int} : inB n a b = true ↔ a ≤ n ∧ n ≤ b := by simp [inB]
theorem inB_not {n a b : Int} : inB n a b = false ↔ ¬ (a ≤ n ∧ n ≤ b) := by
  rw [← inB_iff]; cases inB n a b <;> simp

theorem sem_l1In (n a b : Int) (lvl : Nat) (S : Sto) : Sem Go.Proofs.Tryz.prog fid_spec_l1In lvl [iI n, iI a, iI b] S (iB (inB n a b)) S := by
  refine sem_of_chk k_spec_l1In trivial ?_
  simp only [c_spec_l1In, EVA, ↓reduceIte, Nat.reduceEqDiff, Nat.reduceMul, reduceCtorEq, Nat.reduceAdd, Nat.reduceSub, Nat.reduceLeDiff, Nat.reduceLT, Int.reduceToNat, Int.reduceLE, Int.reduceLT, mens, men]
  refine ite_of (fun h => ?_) (fun h => ?_) <;> simp [inB, h]
theorem sem_within (n a b : Int) (lvl : Nat) (S : Sto) : Sem Go.Proofs.Tryz.prog fid_impl_within lvl [iI n, iI a, iI b] S (iB (inB n a b)) S := by
  refine sem_of_chk k_impl_within trivial ?_
  simp only [c_impl_within, EVA, ↓reduceIte, Nat.reduceEqDiff, Nat.reduceMul, reduceCtorEq, Nat.reduceAdd, Nat.reduceSub, Nat.reduceLeDiff, Nat.reduceLT, Int.reduceToNat, Int.reduceLE, Int.reduceLT, mens, men]
  refine ite_of (fun h => ?_) (fun h => ?_) <;> simp [inB, h]

end Go.Fd

namespace Go.Proofs
open Go.Shelf
def Tryz.lays160_ren : Go.Shelf.Ren := ⟨fun | 160 => 117 | 232 => 152 | 231 => 151 | 227 => 153 | 234 => 155 | 233 => 154 | 236 => 157 | 235 => 156 | 228 => 168 | 271 => 171 | 151 => 170 | 197 => 169 | 120 => 185 | 152 => 184 | 260 => 183 | 137 => 200 | 119 => 201 | 224 => 202 | 225 => 203 | 217 => 209 | 266 => 211 | n => n, fun | 9 => 9 | 4 => 4 | 3 => 3 | 5 => 5 | 117 => 143 | 116 => 142 | 0 => 0 | 124 => 146 | 21 => 21 | 105 => 157 | 46 => 154 | 119 => 186 | 139 => 189 | 138 => 188 | n => n, fun | 3 => 0 | 4 => 1 | n => n⟩
theorem Tryz.lays160 : Go.Proofs.Lays.n160 Tryz.prog Tryz.lays160_ren := {
    mixed := by kernel_rfl,
    f119 := Tryz.func201.trans (congrArg some (by kernel_rfl)),
    f120 := Tryz.func185.trans (congrArg some (by kernel_rfl)),
    f137 := Tryz.func200.trans (congrArg some (by kernel_rfl)),
    f151 := Tryz.func170.trans (congrArg some (by kernel_rfl)),
    f152 := Tryz.func184.trans (congrArg some (by kernel_rfl)),
    f160 := Tryz.func117.trans (congrArg some (by kernel_rfl)),
    f197 := Tryz.func169.trans (congrArg some (by kernel_rfl)),
    f217 := Tryz.func209.trans (congrArg some (by kernel_rfl)),
    f224 := Tryz.func202.trans (congrArg some (by kernel_rfl)),
    f225 := Tryz.func203.trans (congrArg some (by kernel_rfl)),
    f227 := Tryz.func153.trans (congrArg some (by kernel_rfl)),
    f228 := Tryz.func168.trans (congrArg some (by kernel_rfl)),
    f231 := Tryz.func151.trans (congrArg some (by kernel_rfl)),
    f232 := Tryz.func152.trans (congrArg some (by kernel_rfl)),
    f233 := Tryz.func154.trans (congrArg some (by kernel_rfl)),
    f234 := Tryz.func155.trans (congrArg some (by kernel_rfl)),
    f235 := Tryz.func156.trans (congrArg some (by kernel_rfl)),
    f236 := Tryz.func157.trans (congrArg some (by kernel_rfl)),
    f260 := Tryz.func183.trans (congrArg some (by kernel_rfl)),
    f266 := Tryz.func211.trans (congrArg some (by kernel_rfl)),
    f271 := Tryz.func171.trans (congrArg some (by kernel_rfl)),
    t0 := Tryz.underlying0,
    a0 := Tryz.isAgg0,
    z0 := Tryz.sizeOf0,
    v0 := Tryz.zeroValue0,
    t3 := Tryz.underlying3,
    a3 := Tryz.isAgg3,
    z3 := Tryz.sizeOf3,
    v3 := Tryz.zeroValue3,
    t4 := Tryz.underlying4,
    a4 := Tryz.isAgg4,
    z4 := Tryz.sizeOf4,
    v4 := Tryz.zeroValue4,
    t5 := Tryz.underlying5,
    a5 := Tryz.isAgg5,
    z5 := Tryz.sizeOf5,
    v5 := Tryz.zeroValue5,
    t9 := Tryz.underlying9,
    a9 := Tryz.isAgg9,
    z9 := Tryz.sizeOf9,
    v9 := Tryz.zeroValue9,
    t21 := Tryz.underlying21,
    a21 := Tryz.isAgg21,
    z21 := Tryz.sizeOf21,
    v21 := Tryz.zeroValue21,
    t46 := Tryz.underlying154,
    a46 := Tryz.isAgg154,
    z46 := Tryz.sizeOf154,
    v46 := Tryz.zeroValue154,
    t105 := Tryz.underlying157,
    a105 := Tryz.isAgg157,
    z105 := Tryz.sizeOf157,
    v105 := Tryz.zeroValue157,
    t116 := Tryz.underlying142,
    a116 := Tryz.isAgg142,
    z116 := Tryz.sizeOf142,
    t117 := Tryz.underlying143,
    a117 := Tryz.isAgg143,
    z117 := Tryz.sizeOf143,
    v117 := Tryz.zeroValue143,
    t119 := Tryz.underlying186,
    a119 := Tryz.isAgg186,
    z119 := Tryz.sizeOf186,
    t124 := Tryz.underlying146,
    a124 := Tryz.isAgg146,
    z124 := Tryz.sizeOf146,
    v124 := Tryz.zeroValue146,
    t138 := Tryz.underlying188,
    a138 := Tryz.isAgg188,
    z138 := Tryz.sizeOf188,
    v138 := Tryz.zeroValue188,
    t139 := Tryz.underlying189,
    a139 := Tryz.isAgg189,
    z139 := Tryz.sizeOf189,
    v139 := Tryz.zeroValue189,
    g3 := by kernel_rfl,
    g4 := by kernel_rfl }
def Tryz.lays190_ren : Go.Shelf.Ren := ⟨fun | 190 => 159 | 125 => 166 | 258 => 172 | 128 => 181 | 129 => 182 | 302 => 186 | 303 => 187 | 304 => 188 | 305 => 189 | 306 => 190 | 307 => 191 | 308 => 192 | 309 => 193 | 310 => 194 | 333 => 204 | 329 => 196 | 330 => 197 | 334 => 205 | 335 => 206 | 336 => 207 | 344 => 210 | n => n, fun | 31 => 25 | 9 => 9 | 3 => 3 | 46 => 154 | 0 => 0 | 51 => 170 | 53 => 172 | 4 => 4 | 183 => 163 | 182 => 162 | 131 => 167 | 5 => 5 | 218 => 180 | 222 => 184 | 228 => 195 | 229 => 196 | n => n, fun | n => n⟩
theorem Tryz.lays190 : Go.Proofs.Lays.n190 Tryz.prog Tryz.lays190_ren := {
    mixed := by kernel_rfl,
    f125 := Tryz.func166.trans (congrArg some (by kernel_rfl)),
    f128 := Tryz.func181.trans (congrArg some (by kernel_rfl)),
    f129 := Tryz.func182.trans (congrArg some (by kernel_rfl)),
    f190 := Tryz.func159.trans (congrArg some (by kernel_rfl)),
    f258 := Tryz.func172.trans (congrArg some (by kernel_rfl)),
    f302 := Tryz.func186.trans (congrArg some (by kernel_rfl)),
    f303 := Tryz.func187.trans (congrArg some (by kernel_rfl)),
    f304 := Tryz.func188.trans (congrArg some (by kernel_rfl)),
    f305 := Tryz.func189.trans (congrArg some (by kernel_rfl)),
    f306 := Tryz.func190.trans (congrArg some (by kernel_rfl)),
    f307 := Tryz.func191.trans (congrArg some (by kernel_rfl)),
    f308 := Tryz.func192.trans (congrArg some (by kernel_rfl)),
    f309 := Tryz.func193.trans (congrArg some (by kernel_rfl)),
    f310 := Tryz.func194.trans (congrArg some (by kernel_rfl)),
    f329 := Tryz.func196.trans (congrArg some (by kernel_rfl)),
    f330 := Tryz.func197.trans (congrArg some (by kernel_rfl)),
    f333 := Tryz.func204.trans (congrArg some (by kernel_rfl)),
    f334 := Tryz.func205.trans (congrArg some (by kernel_rfl)),
    f335 := Tryz.func206.trans (congrArg some (by kernel_rfl)),
    f336 := Tryz.func207.trans (congrArg some (by kernel_rfl)),
    f344 := Tryz.func210.trans (congrArg some (by kernel_rfl)),
    t0 := Tryz.underlying0,
    a0 := Tryz.isAgg0,
    z0 := Tryz.sizeOf0,
    v0 := Tryz.zeroValue0,
    t3 := Tryz.underlying3,
    a3 := Tryz.isAgg3,
    z3 := Tryz.sizeOf3,
    v3 := Tryz.zeroValue3,
    t4 := Tryz.underlying4,
    a4 := Tryz.isAgg4,
    z4 := Tryz.sizeOf4,
    v4 := Tryz.zeroValue4,
    t5 := Tryz.underlying5,
    a5 := Tryz.isAgg5,
    z5 := Tryz.sizeOf5,
    v5 := Tryz.zeroValue5,
    t9 := Tryz.underlying9,
    a9 := Tryz.isAgg9,
    z9 := Tryz.sizeOf9,
    v9 := Tryz.zeroValue9,
    t31 := Tryz.underlying25,
    a31 := Tryz.isAgg25,
    z31 := Tryz.sizeOf25,
    v31 := Tryz.zeroValue25,
    t46 := Tryz.underlying154,
    a46 := Tryz.isAgg154,
    z46 := Tryz.sizeOf154,
    v46 := Tryz.zeroValue154,
    t51 := Tryz.underlying170,
    a51 := Tryz.isAgg170,
    z51 := Tryz.sizeOf170,
    v51 := Tryz.zeroValue170,
    t53 := Tryz.underlying172,
    a53 := Tryz.isAgg172,
    z53 := Tryz.sizeOf172,
    v53 := Tryz.zeroValue172,
    t131 := Tryz.underlying167,
    a131 := Tryz.isAgg167,
    z131 := Tryz.sizeOf167,
    v131 := Tryz.zeroValue167,
    t182 := Tryz.underlying162,
    a182 := Tryz.isAgg162,
    z182 := Tryz.sizeOf162,
    v182 := Tryz.zeroValue162,
    t183 := Tryz.underlying163,
    a183 := Tryz.isAgg163,
    z183 := Tryz.sizeOf163,
    v183 := Tryz.zeroValue163,
    t218 := Tryz.underlying180,
    a218 := Tryz.isAgg180,
    z218 := Tryz.sizeOf180,
    v218 := Tryz.zeroValue180,
    t222 := Tryz.underlying184,
    a222 := Tryz.isAgg184,
    z222 := Tryz.sizeOf184,
    v222 := Tryz.zeroValue184,
    t228 := Tryz.underlying195,
    a228 := Tryz.isAgg195,
    z228 := Tryz.sizeOf195,
    v228 := Tryz.zeroValue195,
    t229 := Tryz.underlying196,
    a229 := Tryz.isAgg196,
    z229 := Tryz.sizeOf196,
    v229 := Tryz.zeroValue196 }
end Go.Proofs
