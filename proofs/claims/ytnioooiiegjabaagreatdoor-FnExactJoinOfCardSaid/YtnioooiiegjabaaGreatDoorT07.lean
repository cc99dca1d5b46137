/-
  The annotated codes of the functions, printed by a program of mine (gen.py), and the check that they belong to the program.
-/
import Derived.Test.YtnioooiiegjabaaGreatDoorT06
import Derived.KernelRfl
import Derived.Test.YtnioooiiegjabaaGreatDoorProg
set_option linter.all false
namespace Go.Fd
def c_laws_szSorting : F2 :=
  { nt := 36, res := [.t 4 [0]], body :=
   (.sq (rg [oo 2 (.bt (.t 0)),
 om 4 (i6 0)])
 (.sq (rg [oo 5 (.fa 0 (.t 2)),
 oo 6 (.ld none (.t 5)),
 om 7 (.t 1),
 oo 8 (.ca .pure false (.f fid_laws_szIntS) [.t 6, .t 7]),
 om 1 (.t 8)])
 (.sq (.sq (rg [om 9 (.t 1),
 oo 10 (.bi .lss 0 (.t 9) (i6 0))])
 (.cd (.t 10) (.sq (rg [om 4 (i6 (-1))])
 (.rt))
 (.sk)))
 (.sq (rg [oo 11 (.fa 1 (.t 2)),
 oo 12 (.ld none (.t 11)),
 om 13 (.t 1),
 oo 14 (.ca .pure false (.f fid_laws_szIntSS) [.t 12, .t 13]),
 om 1 (.t 14)])
 (.sq (.sq (rg [om 15 (.t 1),
 oo 16 (.bi .lss 0 (.t 15) (i6 0))])
 (.cd (.t 16) (.sq (rg [om 4 (i6 (-1))])
 (.rt))
 (.sk)))
 (.sq (rg [oo 17 (.fa 2 (.t 2)),
 oo 18 (.ld none (.t 17)),
 om 19 (.t 1),
 oo 20 (.ca .pure false (.f fid_laws_szIntSS) [.t 18, .t 19]),
 om 1 (.t 20)])
 (.sq (.sq (rg [om 21 (.t 1),
 oo 22 (.bi .lss 0 (.t 21) (i6 0))])
 (.cd (.t 22) (.sq (rg [om 4 (i6 (-1))])
 (.rt))
 (.sk)))
 (.sq (rg [oo 23 (.fa 3 (.t 2)),
 oo 24 (.ld none (.t 23)),
 om 25 (.t 1),
 oo 26 (.ca .pure false (.f fid_laws_szIntS) [.t 24, .t 25]),
 om 1 (.t 26)])
 (.sq (.sq (rg [om 27 (.t 1),
 oo 28 (.bi .lss 0 (.t 27) (i6 0))])
 (.cd (.t 28) (.sq (rg [om 4 (i6 (-1))])
 (.rt))
 (.sk)))
 (.sq (rg [oo 29 (.fa 4 (.t 2)),
 oo 30 (.ld none (.t 29)),
 om 31 (.t 1),
 oo 32 (.ca .pure false (.f fid_laws_szIntA2S) [.t 30, .t 31]),
 om 1 (.t 32)])
 (.sq (.sq (rg [om 33 (.t 1),
 oo 34 (.bi .lss 0 (.t 33) (i6 0))])
 (.cd (.t 34) (.sq (rg [om 4 (i6 (-1))])
 (.rt))
 (.sk)))
 (.sq (rg [om 35 (.t 1),
 om 4 (.t 35)])
 (.rt))))))))))))) }
theorem k_laws_szSorting : chkF Go.Proofs.Tryz.prog fid_laws_szSorting c_laws_szSorting = true := by kernel_rfl

def c_laws_toControlS : F2 :=
  { nt := 23, res := [.t 2 [4]], body :=
   (.sq (rg [om 2 (.k (.slice none 0 0))])
 (.sq (rg [om 5 (.t 0),
 oo 6 (.ln (.t 5)),
 oo 7 (.ms 3 [.string ⟨#[]⟩, .int .i64 0, .int .i64 0] (.t 6)),
 om 3 (.t 7)])
 (.sq (.sq (rg [om 4 (i6 0)])
 (.bl 0 (.lp [0, 3, 4] [224] (.sq (.sq (rg [om 8 (.t 4),
 om 9 (.t 0),
 oo 10 (.ln (.t 9)),
 oo 11 (.bi .lss 0 (.t 8) (.t 10))])
 (.cd (.t 11) (.sk)
 (.ex 0)))
 (.sq (.bl 1 (rg [om 14 (.t 3),
 om 15 (.t 4),
 om 16 (.t 0),
 om 17 (.t 4),
 oo 18 (.ia 3 (.t 16) (.t 17)),
 oo 19 (.ld (some 3) (.t 18)),
 oo 20 (.ca .pure true (.f fid_laws_toControl) [.t 19]),
 oo 21 (.ia 3 (.t 14) (.t 15)),
 on1 (.st 3 (.t 21) (.t 20))]))
 (rg [om 12 (.t 4),
 oo 13 (.bi .add 0 (.t 12) (i6 1)),
 om 4 (.t 13)]))))))
 (.sq (rg [om 22 (.t 3),
 om 2 (.t 22)])
 (.rt))))) }
theorem k_laws_toControlS : chkF Go.Proofs.Tryz.prog fid_laws_toControlS c_laws_toControlS = true := by kernel_rfl

def c_laws_toSorting : F2 :=
  { nt := 25, res := [.c 2 (some 5) [2, 2, 2, 2, 3]], body :=
   (.sq (rg [oo 1 (.bt (.t 0)),
 oo 2 (.al [.slice none 0 0, .slice none 0 0, .slice none 0 0, .slice none 0 0, .slice none 0 0] [])])
 (.sq (rg [oo 3 (.al [.slice none 0 0, .slice none 0 0, .slice none 0 0, .slice none 0 0, .slice none 0 0] [])])
 (.sq (rg [oo 4 (.fa 0 (.t 1)),
 oo 5 (.ld none (.t 4)),
 oo 6 (.ca .pure true (.f fid_laws_toIntS) [.t 5]),
 oo 7 (.fa 0 (.t 3)),
 on1 (.st 1 (.t 7) (.t 6))])
 (.sq (rg [oo 8 (.fa 1 (.t 1)),
 oo 9 (.ld none (.t 8)),
 oo 10 (.ca .pure true (.f fid_laws_toIntSS) [.t 9]),
 oo 11 (.fa 1 (.t 3)),
 on1 (.st 1 (.t 11) (.t 10))])
 (.sq (rg [oo 12 (.fa 2 (.t 1)),
 oo 13 (.ld none (.t 12)),
 oo 14 (.ca .pure true (.f fid_laws_toIntSS) [.t 13]),
 oo 15 (.fa 2 (.t 3)),
 on1 (.st 1 (.t 15) (.t 14))])
 (.sq (rg [oo 16 (.fa 3 (.t 1)),
 oo 17 (.ld none (.t 16)),
 oo 18 (.ca .pure true (.f fid_laws_toIntS) [.t 17]),
 oo 19 (.fa 3 (.t 3)),
 on1 (.st 1 (.t 19) (.t 18))])
 (.sq (rg [oo 20 (.fa 4 (.t 1)),
 oo 21 (.ld none (.t 20)),
 oo 22 (.ca .pure true (.f fid_laws_toIntA2S) [.t 21]),
 oo 23 (.fa 4 (.t 3)),
 on1 (.st 1 (.t 23) (.t 22))])
 (.sq (rg [oo 24 (.ld (some 5) (.t 3)),
 on1 (.st 5 (.t 2) (.t 24))])
 (.rt))))))))) }
theorem k_laws_toSorting : chkF Go.Proofs.Tryz.prog fid_laws_toSorting c_laws_toSorting = true := by kernel_rfl

def c_laws_eqSorting : F2 :=
  { nt := 35, res := [.t 4 [0]], body :=
   (.sq (rg [oo 2 (.bt (.t 0)),
 oo 3 (.bt (.t 1)),
 om 4 (.k (.bool false))])
 (.sq (.sq (rg [oo 5 (.fa 0 (.t 2)),
 oo 6 (.ld none (.t 5)),
 oo 7 (.fa 0 (.t 3)),
 oo 8 (.ld none (.t 7)),
 oo 9 (.ca .pure false (.f fid_laws_eqIntS) [.t 6, .t 8]),
 oo 10 (.nt (.t 9))])
 (.cd (.t 10) (.sq (rg [om 4 (.k (.bool false))])
 (.rt))
 (.sk)))
 (.sq (.sq (rg [oo 11 (.fa 1 (.t 2)),
 oo 12 (.ld none (.t 11)),
 oo 13 (.fa 1 (.t 3)),
 oo 14 (.ld none (.t 13)),
 oo 15 (.ca .pure false (.f fid_laws_eqIntSS) [.t 12, .t 14]),
 oo 16 (.nt (.t 15))])
 (.cd (.t 16) (.sq (rg [om 4 (.k (.bool false))])
 (.rt))
 (.sk)))
 (.sq (.sq (rg [oo 17 (.fa 2 (.t 2)),
 oo 18 (.ld none (.t 17)),
 oo 19 (.fa 2 (.t 3)),
 oo 20 (.ld none (.t 19)),
 oo 21 (.ca .pure false (.f fid_laws_eqIntSS) [.t 18, .t 20]),
 oo 22 (.nt (.t 21))])
 (.cd (.t 22) (.sq (rg [om 4 (.k (.bool false))])
 (.rt))
 (.sk)))
 (.sq (.sq (rg [oo 23 (.fa 3 (.t 2)),
 oo 24 (.ld none (.t 23)),
 oo 25 (.fa 3 (.t 3)),
 oo 26 (.ld none (.t 25)),
 oo 27 (.ca .pure false (.f fid_laws_eqIntS) [.t 24, .t 26]),
 oo 28 (.nt (.t 27))])
 (.cd (.t 28) (.sq (rg [om 4 (.k (.bool false))])
 (.rt))
 (.sk)))
 (.sq (.sq (rg [oo 29 (.fa 4 (.t 2)),
 oo 30 (.ld none (.t 29)),
 oo 31 (.fa 4 (.t 3)),
 oo 32 (.ld none (.t 31)),
 oo 33 (.ca .pure false (.f fid_laws_eqIntA2S) [.t 30, .t 32]),
 oo 34 (.nt (.t 33))])
 (.cd (.t 34) (.sq (rg [om 4 (.k (.bool false))])
 (.rt))
 (.sk)))
 (.sq (rg [om 4 (.k (.bool true))])
 (.rt)))))))) }
theorem k_laws_eqSorting : chkF Go.Proofs.Tryz.prog fid_laws_eqSorting c_laws_eqSorting = true := by kernel_rfl

def c_laws_szControl : F2 :=
  { nt := 13, res := [.t 4 [0]], body :=
   (.sq (rg [oo 2 (.bt (.t 0)),
 om 4 (i6 0)])
 (.sq (rg [om 5 (.t 1),
 oo 6 (.fa 0 (.t 2)),
 oo 7 (.ld none (.t 6)),
 oo 8 (.lg (.t 7)),
 oo 9 (.bi .sub 0 (.t 5) (.t 8)),
 om 1 (.t 9)])
 (.sq (.sq (rg [om 10 (.t 1),
 oo 11 (.bi .lss 0 (.t 10) (i6 0))])
 (.cd (.t 11) (.sq (rg [om 4 (i6 (-1))])
 (.rt))
 (.sk)))
 (.sq (rg [om 12 (.t 1),
 om 4 (.t 12)])
 (.rt))))) }
theorem k_laws_szControl : chkF Go.Proofs.Tryz.prog fid_laws_szControl c_laws_szControl = true := by kernel_rfl

def c_laws_toControl : F2 :=
  { nt := 14, res := [.c 2 (some 3) [0, 0, 0]], body :=
   (.sq (rg [oo 1 (.bt (.t 0)),
 oo 2 (.al [.string ⟨#[]⟩, .int .i64 0, .int .i64 0] [])])
 (.sq (rg [oo 3 (.al [.string ⟨#[]⟩, .int .i64 0, .int .i64 0] [])])
 (.sq (rg [oo 4 (.fa 0 (.t 1)),
 oo 5 (.ld none (.t 4)),
 oo 6 (.fa 0 (.t 3)),
 on1 (.st 1 (.t 6) (.t 5))])
 (.sq (rg [oo 7 (.fa 1 (.t 1)),
 oo 8 (.ld none (.t 7)),
 oo 9 (.fa 1 (.t 3)),
 on1 (.st 1 (.t 9) (.t 8))])
 (.sq (rg [oo 10 (.fa 2 (.t 1)),
 oo 11 (.ld none (.t 10)),
 oo 12 (.fa 2 (.t 3)),
 on1 (.st 1 (.t 12) (.t 11))])
 (.sq (rg [oo 13 (.ld (some 3) (.t 3)),
 on1 (.st 3 (.t 2) (.t 13))])
 (.rt))))))) }
theorem k_laws_toControl : chkF Go.Proofs.Tryz.prog fid_laws_toControl c_laws_toControl = true := by kernel_rfl

def c_laws_toIntSS : F2 :=
  { nt := 23, res := [.t 2 [2]], body :=
   (.sq (rg [om 2 (.k (.slice none 0 0))])
 (.sq (rg [om 5 (.t 0),
 oo 6 (.ln (.t 5)),
 oo 7 (.ms 1 [.slice none 0 0] (.t 6)),
 om 3 (.t 7)])
 (.sq (.sq (rg [om 4 (i6 0)])
 (.bl 0 (.lp [0, 3, 4] [224, 640] (.sq (.sq (rg [om 8 (.t 4),
 om 9 (.t 0),
 oo 10 (.ln (.t 9)),
 oo 11 (.bi .lss 0 (.t 8) (.t 10))])
 (.cd (.t 11) (.sk)
 (.ex 0)))
 (.sq (.bl 1 (rg [om 14 (.t 3),
 om 15 (.t 4),
 om 16 (.t 0),
 om 17 (.t 4),
 oo 18 (.ia 1 (.t 16) (.t 17)),
 oo 19 (.ld none (.t 18)),
 oo 20 (.ca .pure true (.f fid_laws_toIntS) [.t 19]),
 oo 21 (.ia 1 (.t 14) (.t 15)),
 on1 (.st 1 (.t 21) (.t 20))]))
 (rg [om 12 (.t 4),
 oo 13 (.bi .add 0 (.t 12) (i6 1)),
 om 4 (.t 13)]))))))
 (.sq (rg [om 22 (.t 3),
 om 2 (.t 22)])
 (.rt))))) }
theorem k_laws_toIntSS : chkF Go.Proofs.Tryz.prog fid_laws_toIntSS c_laws_toIntSS = true := by kernel_rfl

def c_laws_toIntA2S : F2 :=
  { nt := 23, res := [.t 2 [3]], body :=
   (.sq (rg [om 2 (.k (.slice none 0 0))])
 (.sq (rg [om 5 (.t 0),
 oo 6 (.ln (.t 5)),
 oo 7 (.ms 2 [.int .i64 0, .int .i64 0] (.t 6)),
 om 3 (.t 7)])
 (.sq (.sq (rg [om 4 (i6 0)])
 (.bl 0 (.lp [0, 3, 4] [224] (.sq (.sq (rg [om 8 (.t 4),
 om 9 (.t 0),
 oo 10 (.ln (.t 9)),
 oo 11 (.bi .lss 0 (.t 8) (.t 10))])
 (.cd (.t 11) (.sk)
 (.ex 0)))
 (.sq (.bl 1 (rg [om 14 (.t 3),
 om 15 (.t 4),
 om 16 (.t 0),
 om 17 (.t 4),
 oo 18 (.ia 2 (.t 16) (.t 17)),
 oo 19 (.ld (some 2) (.t 18)),
 oo 20 (.ca .pure true (.f fid_laws_toIntA2) [.t 19]),
 oo 21 (.ia 2 (.t 14) (.t 15)),
 on1 (.st 2 (.t 21) (.t 20))]))
 (rg [om 12 (.t 4),
 oo 13 (.bi .add 0 (.t 12) (i6 1)),
 om 4 (.t 13)]))))))
 (.sq (rg [om 22 (.t 3),
 om 2 (.t 22)])
 (.rt))))) }
theorem k_laws_toIntA2S : chkF Go.Proofs.Tryz.prog fid_laws_toIntA2S c_laws_toIntA2S = true := by kernel_rfl

def c_laws_eqControl : F2 :=
  { nt := 20, res := [.t 4 [0]], body :=
   (.sq (rg [oo 2 (.bt (.t 0)),
 oo 3 (.bt (.t 1)),
 om 4 (.k (.bool false))])
 (.sq (.sq (rg [oo 5 (.fa 0 (.t 2)),
 oo 6 (.ld none (.t 5)),
 oo 7 (.fa 0 (.t 3)),
 oo 8 (.ld none (.t 7)),
 oo 9 (.bi .neq 0 (.t 6) (.t 8))])
 (.cd (.t 9) (.sq (rg [om 4 (.k (.bool false))])
 (.rt))
 (.sk)))
 (.sq (.sq (rg [oo 10 (.fa 1 (.t 2)),
 oo 11 (.ld none (.t 10)),
 oo 12 (.fa 1 (.t 3)),
 oo 13 (.ld none (.t 12)),
 oo 14 (.bi .neq 0 (.t 11) (.t 13))])
 (.cd (.t 14) (.sq (rg [om 4 (.k (.bool false))])
 (.rt))
 (.sk)))
 (.sq (.sq (rg [oo 15 (.fa 2 (.t 2)),
 oo 16 (.ld none (.t 15)),
 oo 17 (.fa 2 (.t 3)),
 oo 18 (.ld none (.t 17)),
 oo 19 (.bi .neq 0 (.t 16) (.t 18))])
 (.cd (.t 19) (.sq (rg [om 4 (.k (.bool false))])
 (.rt))
 (.sk)))
 (.sq (rg [om 4 (.k (.bool true))])
 (.rt)))))) }
theorem k_laws_eqControl : chkF Go.Proofs.Tryz.prog fid_laws_eqControl c_laws_eqControl = true := by kernel_rfl

def c_laws_toIntA2 : F2 :=
  { nt := 15, res := [.c 2 (some 2) [0, 0]], body :=
   (.sq (rg [oo 1 (.bt (.t 0)),
 oo 2 (.al [.int .i64 0, .int .i64 0] [])])
 (.sq (rg [oo 3 (.al [.int .i64 0, .int .i64 0] [])])
 (.sq (.sq (rg [om 4 (i6 0)])
 (.bl 0 (.lp [1, 2, 3, 4] [64, 96] (.sq (.sq (rg [om 5 (.t 4),
 oo 6 (.bi .lss 0 (.t 5) (i6 2))])
 (.cd (.t 6) (.sk)
 (.ex 0)))
 (.sq (.bl 1 (rg [om 9 (.t 4),
 om 10 (.t 4),
 oo 11 (.ja 1 2 (.t 1) (.t 10)),
 oo 12 (.ld none (.t 11)),
 oo 13 (.ja 1 2 (.t 3) (.t 9)),
 on1 (.st 1 (.t 13) (.t 12))]))
 (rg [om 7 (.t 4),
 oo 8 (.bi .add 0 (.t 7) (i6 1)),
 om 4 (.t 8)]))))))
 (.sq (rg [oo 14 (.ld (some 2) (.t 3)),
 on1 (.st 2 (.t 2) (.t 14))])
 (.rt))))) }
theorem k_laws_toIntA2 : chkF Go.Proofs.Tryz.prog fid_laws_toIntA2 c_laws_toIntA2 = true := by kernel_rfl

def c_laws_eqIntA2 : F2 :=
  { nt := 17, res := [.t 4 [0]], body :=
   (.sq (rg [oo 2 (.bt (.t 0)),
 oo 3 (.bt (.t 1)),
 om 4 (.k (.bool false))])
 (.sq (.sq (rg [om 5 (i6 0)])
 (.bl 0 (.lp [2, 3, 5] [] (.sq (.sq (rg [om 6 (.t 5),
 oo 7 (.bi .lss 0 (.t 6) (i6 2))])
 (.cd (.t 7) (.sk)
 (.ex 0)))
 (.sq (.bl 1 (.sq (.rg (some 0) [om 10 (.t 5),
 oo 11 (.ja 1 2 (.t 2) (.t 10)),
 oo 12 (.ld none (.t 11)),
 om 13 (.t 5),
 oo 14 (.ja 1 2 (.t 3) (.t 13)),
 oo 15 (.ld none (.t 14)),
 oo 16 (.bi .neq 0 (.t 12) (.t 15))])
 (.cd (.t 16) (.sq (rg [om 4 (.k (.bool false))])
 (.rt))
 (.sk))))
 (rg [om 8 (.t 5),
 oo 9 (.bi .add 0 (.t 8) (i6 1)),
 om 5 (.t 9)]))))))
 (.sq (rg [om 4 (.k (.bool true))])
 (.rt)))) }
theorem k_laws_eqIntA2 : chkF Go.Proofs.Tryz.prog fid_laws_eqIntA2 c_laws_eqIntA2 = true := by kernel_rfl

end Go.Fd

/-
  SMALL WORDS FOR MARKS. Own work.
-/
namespace Go.Fd
theorem sset_ne {S : Sto} {id i : Oid} {ob : Ob} (h : i ≠ id) : sset S id ob i = S i := if_neg h
theorem mL_get {α : Type} {m : α → Int → α} {n : α → Nat} : ∀ {a : List α} {k : Int} {j : Nat} (h : j < a.length), (mL m n a k)[j]? = some (m a[j] (kJ n a k j))
  | [], _, _, h => by cases h
  | x :: r, k, 0, _ => by simp [mL, kJ, nL]
  | x :: r, k, j + 1, h => by
    simp only [mL, List.getElem?_cons_succ, List.getElem_cons_succ]
    rw [mL_get (by simpa using h)]
    simp only [kJ, List.take_succ_cons, nL]
    congr 2
    omega
theorem mL_row {α : Type} {c : α → List Tr} {m : α → Int → α} {n : α → Nat} {a : List α} {k : Int} {j : Nat} (h : j < a.length) : ((mL m n a k).map c)[j]? = some (c (m a[j] (kJ n a k j))) := by
  rw [List.getElem?_map, mL_get h]; rfl
theorem cut_mL {α : Type} {c : α → List Tr} {m : α → Int → α} {n : α → Nat} {a : List α} {k : Int} : cut ((mL m n a k).map c) 0 a.length = (mL m n a k).map c := by
  simp only [cut, List.drop_zero]
  exact List.take_of_length_le (by rw [List.length_map, mL_length]; exact Nat.le_refl _)
theorem cut_map {α : Type} {c : α → List Tr} {a : List α} : cut (a.map c) 0 a.length = a.map c := by
  simp only [cut, List.drop_zero]
  exact List.take_of_length_le (by rw [List.length_map]; exact Nat.le_refl _)
end Go.Fd

/-
  MARKING STRUCTS; WHETHER MARKS ARE HELD (printed by lawgen.py). Own work.
-/
namespace Go.Fd
set_option maxRecDepth 20000
def nSorting (x : TSorting) : Nat := nL nInt x.tops + nL nIntS x.nest + nL nIntS x.sorts + nL nInt x.most + nL nIntA2 x.apart
theorem sem_markSorting (x : TSorting) (k : Int) (lvl : Nat) (S : Sto) (i1 i2 i3 i4 i5 : Oid) (k1 h1 v1 k2 h2 v2 k3 h3 v3 k4 h4 v4 k5 h5 v5 : Nat) (c1 c2 c3 c4 c5 : Option Nat) (l1 : i1.1 < lvl) (l2 : i2.1 < lvl) (l3 : i3.1 < lvl) (l4 : i4.1 < lvl) (l5 : i5.1 < lvl) (n2_1 : i2 ≠ i1) (n3_1 : i3 ≠ i1) (n3_2 : i3 ≠ i2) (n4_1 : i4 ≠ i1) (n4_2 : i4 ≠ i2) (n4_3 : i4 ≠ i3) (n5_1 : i5 ≠ i1) (n5_2 : i5 ≠ i2) (n5_3 : i5 ≠ i3) (n5_4 : i5 ≠ i4) (s1 : S i1 = some (.ar k1 (rI x.tops) true h1 v1)) (s2 : S i2 = some (.ar k2 (x.nest.map (fun l => [Tr.sl (rI l)])) true h2 v2)) (s3 : S i3 = some (.ar k3 (x.sorts.map (fun l => [Tr.sl (rI l)])) true h3 v3)) (s4 : S i4 = some (.ar k4 (rI x.most) true h4 v4)) (s5 : S i5 = some (.ar k5 (x.apart.map cA2) true h5 v5)) (h0 : 0 ≤ k) (hk : k + nSorting x ≤ 4611686018427387904) (hb : bdSorting 4294967296 x) :
    Sem Go.Proofs.Tryz.prog fid_laws_markSorting lvl [.ag [.hd i1 [] 0 x.tops.length c1 h1, .hd i2 [] 0 x.nest.length c2 h2, .hd i3 [] 0 x.sorts.length c3 h3, .hd i4 [] 0 x.most.length c4 h4, .hd i5 [] 0 x.apart.length c5 h5], iI k] S (iI (k + nSorting x)) (sset (sset (sset (sset (sset S i1 (.ar k1 (rI (mL mInt nInt x.tops (k))) true h1 v1)) i2 (.ar k2 (((mL mIntS nIntS x.nest (k + (nL nInt x.tops : Nat)))).map (fun l => [Tr.sl (rI l)])) true h2 v2)) i3 (.ar k3 (((mL mIntS nIntS x.sorts (k + (nL nInt x.tops : Nat) + (nL nIntS x.nest : Nat)))).map (fun l => [Tr.sl (rI l)])) true h3 v3)) i4 (.ar k4 (rI (mL mInt nInt x.most (k + (nL nInt x.tops : Nat) + (nL nIntS x.nest : Nat) + (nL nIntS x.sorts : Nat)))) true h4 v4)) i5 (.ar k5 (((mL mIntA2 nIntA2 x.apart (k + (nL nInt x.tops : Nat) + (nL nIntS x.nest : Nat) + (nL nIntS x.sorts : Nat) + (nL nInt x.most : Nat)))).map cA2) true h5 v5)) := by
  obtain ⟨b0, b1, b2, b3, b4, b5, b6⟩ := hb
  have e1 : i1.1 ≠ lvl := by omega
  have e2 : i2.1 ≠ lvl := by omega
  have e3 : i3.1 ≠ lvl := by omega
  have e4 : i4.1 ≠ lvl := by omega
  have e5 : i5.1 ≠ lvl := by omega
  simp only [nSorting] at hk
  refine sem_of_chk k_laws_markSorting trivial ?_
  simp only [c_laws_markSorting, r_okmo e1, r_okmo e2, r_okmo e3, r_okmo e4, r_okmo e5, EVA, ↓reduceIte, Nat.reduceEqDiff, Nat.reduceMul, reduceCtorEq, Nat.reduceAdd, Nat.reduceSub, Nat.reduceLeDiff, Nat.reduceLT, Int.reduceToNat, Int.reduceLE, Int.reduceLT, mens, men]
  simp only [arg1]
  refine kcy_mark0 mark_IntS l1 s1 (by omega) (by omega) b0 (fun _ _ => trivial) ?_
  simp only [r_okmo e1, r_okmo e2, r_okmo e3, r_okmo e4, r_okmo e5, EVA, ↓reduceIte, Nat.reduceEqDiff, Nat.reduceMul, reduceCtorEq, Nat.reduceAdd, Nat.reduceSub, Nat.reduceLeDiff, Nat.reduceLT, Int.reduceToNat, Int.reduceLE, Int.reduceLT, mens, men]
  simp only [arg1]
  refine kcy_mark0 mark_IntSS l2 (by rw [sset_ne n2_1]; exact s2) (by omega) (by omega) b1 b2 ?_
  simp only [r_okmo e1, r_okmo e2, r_okmo e3, r_okmo e4, r_okmo e5, EVA, ↓reduceIte, Nat.reduceEqDiff, Nat.reduceMul, reduceCtorEq, Nat.reduceAdd, Nat.reduceSub, Nat.reduceLeDiff, Nat.reduceLT, Int.reduceToNat, Int.reduceLE, Int.reduceLT, mens, men]
  simp only [arg1]
  refine kcy_mark0 mark_IntSS l3 (by rw [sset_ne n3_2, sset_ne n3_1]; exact s3) (by omega) (by omega) b3 b4 ?_
  simp only [r_okmo e1, r_okmo e2, r_okmo e3, r_okmo e4, r_okmo e5, EVA, ↓reduceIte, Nat.reduceEqDiff, Nat.reduceMul, reduceCtorEq, Nat.reduceAdd, Nat.reduceSub, Nat.reduceLeDiff, Nat.reduceLT, Int.reduceToNat, Int.reduceLE, Int.reduceLT, mens, men]
  simp only [arg1]
  refine kcy_mark0 mark_IntS l4 (by rw [sset_ne n4_3, sset_ne n4_2, sset_ne n4_1]; exact s4) (by omega) (by omega) b5 (fun _ _ => trivial) ?_
  simp only [r_okmo e1, r_okmo e2, r_okmo e3, r_okmo e4, r_okmo e5, EVA, ↓reduceIte, Nat.reduceEqDiff, Nat.reduceMul, reduceCtorEq, Nat.reduceAdd, Nat.reduceSub, Nat.reduceLeDiff, Nat.reduceLT, Int.reduceToNat, Int.reduceLE, Int.reduceLT, mens, men]
  simp only [arg1]
  refine kcy_mark0 mark_IntA2S l5 (by rw [sset_ne n5_4, sset_ne n5_3, sset_ne n5_2, sset_ne n5_1]; exact s5) (by omega) (by omega) b6 (fun _ _ => trivial) ?_
  simp only [r_okmo e1, r_okmo e2, r_okmo e3, r_okmo e4, r_okmo e5, EVA, ↓reduceIte, Nat.reduceEqDiff, Nat.reduceMul, reduceCtorEq, Nat.reduceAdd, Nat.reduceSub, Nat.reduceLeDiff, Nat.reduceLT, Int.reduceToNat, Int.reduceLE, Int.reduceLT, mens, men]
  simp only [nSorting, Int.natCast_add, ← Int.add_assoc]
  try exact ⟨rfl, rfl⟩
theorem kcy_markSorting {x : TSorting} {k : Int} {lvl a1 a2 a3 a4 a5 : Nat} {out : Sto} {k1 h1 v1 k2 h2 v2 k3 h3 v3 k4 h4 v4 k5 h5 v5 : Nat} {c1 c2 c3 c4 c5 : Option Nat} {env : List (Nat × IV)} {loc : List (Nat × Ob)} {d : Option Nat} {K : St → Prop} (n2_1 : a2 ≠ a1) (n3_1 : a3 ≠ a1) (n3_2 : a3 ≠ a2) (n4_1 : a4 ≠ a1) (n4_2 : a4 ≠ a2) (n4_3 : a4 ≠ a3) (n5_1 : a5 ≠ a1) (n5_2 : a5 ≠ a2) (n5_3 : a5 ≠ a3) (n5_4 : a5 ≠ a4) (s1 : lkO a1 loc = some (.ar k1 (rI x.tops) true h1 v1)) (s2 : lkO a2 loc = some (.ar k2 (x.nest.map (fun l => [Tr.sl (rI l)])) true h2 v2)) (s3 : lkO a3 loc = some (.ar k3 (x.sorts.map (fun l => [Tr.sl (rI l)])) true h3 v3)) (s4 : lkO a4 loc = some (.ar k4 (rI x.most) true h4 v4)) (s5 : lkO a5 loc = some (.ar k5 (x.apart.map cA2) true h5 v5)) (h0 : 0 ≤ k) (hk : k + nSorting x ≤ 4611686018427387904) (hb : bdSorting 4294967296 x)
    (hK : K ⟨lvl, ptd d (iI (k + nSorting x)) env, (ptO a5 (.ar k5 (((mL mIntA2 nIntA2 x.apart (k + (nL nInt x.tops : Nat) + (nL nIntS x.nest : Nat) + (nL nIntS x.sorts : Nat) + (nL nInt x.most : Nat)))).map cA2) true h5 v5) (ptO a4 (.ar k4 (rI (mL mInt nInt x.most (k + (nL nInt x.tops : Nat) + (nL nIntS x.nest : Nat) + (nL nIntS x.sorts : Nat)))) true h4 v4) (ptO a3 (.ar k3 (((mL mIntS nIntS x.sorts (k + (nL nInt x.tops : Nat) + (nL nIntS x.nest : Nat)))).map (fun l => [Tr.sl (rI l)])) true h3 v3) (ptO a2 (.ar k2 (((mL mIntS nIntS x.nest (k + (nL nInt x.tops : Nat)))).map (fun l => [Tr.sl (rI l)])) true h2 v2) (ptO a1 (.ar k1 (rI (mL mInt nInt x.tops (k))) true h1 v1) loc))))), out⟩) :
    kcy (Sem Go.Proofs.Tryz.prog) fid_laws_markSorting true lvl env loc out d K [.ag [.hd (lvl, a1) [] 0 x.tops.length c1 h1, .hd (lvl, a2) [] 0 x.nest.length c2 h2, .hd (lvl, a3) [] 0 x.sorts.length c3 h3, .hd (lvl, a4) [] 0 x.most.length c4 h4, .hd (lvl, a5) [] 0 x.apart.length c5 h5], iI k] := by
  refine kcy_intro (r := iI (k + nSorting x)) (ptO a5 (.ar k5 (((mL mIntA2 nIntA2 x.apart (k + (nL nInt x.tops : Nat) + (nL nIntS x.nest : Nat) + (nL nIntS x.sorts : Nat) + (nL nInt x.most : Nat)))).map cA2) true h5 v5) (ptO a4 (.ar k4 (rI (mL mInt nInt x.most (k + (nL nInt x.tops : Nat) + (nL nIntS x.nest : Nat) + (nL nIntS x.sorts : Nat)))) true h4 v4) (ptO a3 (.ar k3 (((mL mIntS nIntS x.sorts (k + (nL nInt x.tops : Nat) + (nL nIntS x.nest : Nat)))).map (fun l => [Tr.sl (rI l)])) true h3 v3) (ptO a2 (.ar k2 (((mL mIntS nIntS x.nest (k + (nL nInt x.tops : Nat)))).map (fun l => [Tr.sl (rI l)])) true h2 v2) (ptO a1 (.ar k1 (rI (mL mInt nInt x.tops (k))) true h1 v1) loc))))) out (fun _ _ => rfl) ?_ ⟨trivial, hK⟩
  rw [packS_ptO, packS_ptO, packS_ptO, packS_ptO, packS_ptO]
  exact sem_markSorting x k (lvl + 1) _ (lvl, a1) (lvl, a2) (lvl, a3) (lvl, a4) (lvl, a5) k1 h1 v1 k2 h2 v2 k3 h3 v3 k4 h4 v4 k5 h5 v5 c1 c2 c3 c4 c5 (Nat.lt_succ_self _) (Nat.lt_succ_self _) (Nat.lt_succ_self _) (Nat.lt_succ_self _) (Nat.lt_succ_self _) (fun e => n2_1 (congrArg Prod.snd e)) (fun e => n3_1 (congrArg Prod.snd e)) (fun e => n3_2 (congrArg Prod.snd e)) (fun e => n4_1 (congrArg Prod.snd e)) (fun e => n4_2 (congrArg Prod.snd e)) (fun e => n4_3 (congrArg Prod.snd e)) (fun e => n5_1 (congrArg Prod.snd e)) (fun e => n5_2 (congrArg Prod.snd e)) (fun e => n5_3 (congrArg Prod.snd e)) (fun e => n5_4 (congrArg Prod.snd e)) (by rw [r_pack]; exact s1) (by rw [r_pack]; exact s2) (by rw [r_pack]; exact s3) (by rw [r_pack]; exact s4) (by rw [r_pack]; exact s5) h0 hk hb
/-- What a marked one holds. -/
def mstSorting (x : TSorting) (k : Int) : TSorting := { x with tops := mL mInt nInt x.tops (k), nest := mL mIntS nIntS x.nest (k + (nL nInt x.tops : Nat)), sorts := mL mIntS nIntS x.sorts (k + (nL nInt x.tops : Nat) + (nL nIntS x.nest : Nat)), most := mL mInt nInt x.most (k + (nL nInt x.tops : Nat) + (nL nIntS x.nest : Nat) + (nL nIntS x.sorts : Nat)), apart := mL mIntA2 nIntA2 x.apart (k + (nL nInt x.tops : Nat) + (nL nIntS x.nest : Nat) + (nL nIntS x.sorts : Nat) + (nL nInt x.most : Nat)) }
theorem held_IntS (a : List Int) (k : Int) (hl : a.length ≤ 4294967296) (h0 : 0 ≤ k) (hk : k + nL nInt a ≤ 4611686018427387904) (lvl : Nat) (S : Sto) : Sem Go.Proofs.Tryz.prog fid_laws_heldIntS lvl [.tr (.sl (rI (mL mInt nInt a k))), iI k] S (iI (k + nL nInt a)) S := by
  refine sem_of_chk k_laws_heldIntS trivial ?_
  simp only [c_laws_heldIntS, EVA, ↓reduceIte, Nat.reduceEqDiff, Nat.reduceMul, reduceCtorEq, Nat.reduceAdd, Nat.reduceSub, Nat.reduceLeDiff, Nat.reduceLT, Int.reduceToNat, Int.reduceLE, Int.reduceLT, mens, men]
  refine wp_count (α := Unit) a.length (fun j _ => ⟨lvl, [(0, .tr (.sl (rI (mL mInt nInt a k)))), (1, iI (kJ nInt a k j)), (5, iI j)], [], S⟩) (fun _ _ => True) () ⟨by simp only [EVA, ↓reduceIte, Nat.reduceEqDiff, Nat.reduceMul, reduceCtorEq, Nat.reduceAdd, Nat.reduceSub, Nat.reduceLeDiff, Nat.reduceLT, Int.reduceToNat, Int.reduceLE, Int.reduceLT, mens, men], by (simp only [kJ_zero, EVA, ↓reduceIte, Nat.reduceEqDiff, Nat.reduceMul, reduceCtorEq, Nat.reduceAdd, Nat.reduceSub, Nat.reduceLeDiff, Nat.reduceLT, Int.reduceToNat, Int.reduceLE, Int.reduceLT, mens, men]) <;> rfl⟩ trivial ?_
  intro j _ hj _
  simp only [List.length_map, mL_length, EVA, ↓reduceIte, Nat.reduceEqDiff, Nat.reduceMul, reduceCtorEq, Nat.reduceAdd, Nat.reduceSub, Nat.reduceLeDiff, Nat.reduceLT, Int.reduceToNat, Int.reduceLE, Int.reduceLT, mens, men]
  refine ite_of (fun hlt => ?_) (fun hge => ?_)
  · have hja : j < a.length := by omega
    have ga := mL_row (c := (fun n : Int => [tv n])) (m := mInt) (n := nInt) (k := k) hja
    have hge2 := kJ_le nInt (a := a) (k := k) (j := j + 1)
    rw [kJ_succ nInt hja] at hge2
    have hge3 := kJ_ge nInt (a := a) (k := k) (j := j)
    try simp only [nInt] at hge2
    simp only [ga, mInt, mStr, Nat.zero_add, hja, ne_eq, not_true_eq_false, EVA, ↓reduceIte, Nat.reduceEqDiff, Nat.reduceMul, reduceCtorEq, Nat.reduceAdd, Nat.reduceSub, Nat.reduceLeDiff, Nat.reduceLT, Int.reduceToNat, Int.reduceLE, Int.reduceLT, mens, men]
    refine ⟨by rw [fits_i64]; omega, ⟨by rw [fits_i64]; omega, cntJ_intro () hja ?_ trivial⟩⟩
    rw [kJ_succ nInt hja]
    simp only [nInt, Int.natCast_add, Int.natCast_one, Int.add_assoc]
    try rfl
  · have : j = a.length := by omega
    subst this
    rw [kJ_all]
theorem held_IntSS (a : List (List Int)) (k : Int) (hl : a.length ≤ 4294967296) (hB : ∀ x ∈ a, (fun x => x.length ≤ 4294967296) x) (h0 : 0 ≤ k) (hk : k + nL nIntS a ≤ 4611686018427387904) (lvl : Nat) (S : Sto) : Sem Go.Proofs.Tryz.prog fid_laws_heldIntSS lvl [.tr (.sl (((mL mIntS nIntS a k)).map (fun l => [Tr.sl (rI l)]))), iI k] S (iI (k + nL nIntS a)) S := by
  refine sem_of_chk k_laws_heldIntSS trivial ?_
  simp only [c_laws_heldIntSS, EVA, ↓reduceIte, Nat.reduceEqDiff, Nat.reduceMul, reduceCtorEq, Nat.reduceAdd, Nat.reduceSub, Nat.reduceLeDiff, Nat.reduceLT, Int.reduceToNat, Int.reduceLE, Int.reduceLT, mens, men]
  refine wp_count (α := Unit) a.length (fun j _ => ⟨lvl, [(0, .tr (.sl (((mL mIntS nIntS a k)).map (fun l => [Tr.sl (rI l)])))), (1, iI (kJ nIntS a k j)), (5, iI j)], [], S⟩) (fun _ _ => True) () ⟨by simp only [EVA, ↓reduceIte, Nat.reduceEqDiff, Nat.reduceMul, reduceCtorEq, Nat.reduceAdd, Nat.reduceSub, Nat.reduceLeDiff, Nat.reduceLT, Int.reduceToNat, Int.reduceLE, Int.reduceLT, mens, men], by (simp only [kJ_zero, EVA, ↓reduceIte, Nat.reduceEqDiff, Nat.reduceMul, reduceCtorEq, Nat.reduceAdd, Nat.reduceSub, Nat.reduceLeDiff, Nat.reduceLT, Int.reduceToNat, Int.reduceLE, Int.reduceLT, mens, men]) <;> rfl⟩ trivial ?_
  intro j _ hj _
  simp only [List.length_map, mL_length, EVA, ↓reduceIte, Nat.reduceEqDiff, Nat.reduceMul, reduceCtorEq, Nat.reduceAdd, Nat.reduceSub, Nat.reduceLeDiff, Nat.reduceLT, Int.reduceToNat, Int.reduceLE, Int.reduceLT, mens, men]
  refine ite_of (fun hlt => ?_) (fun hge => ?_)
  · have hja : j < a.length := by omega
    have ga := mL_row (c := (fun l => [Tr.sl (rI l)])) (m := mIntS) (n := nIntS) (k := k) hja
    have hge2 := kJ_le nIntS (a := a) (k := k) (j := j + 1)
    rw [kJ_succ nIntS hja] at hge2
    have hge3 := kJ_ge nIntS (a := a) (k := k) (j := j)
    try simp only [nIntS] at hge2
    have hb := hB _ (List.getElem_mem hja)
    simp only [ga, mIntS, mInt, mStr, Nat.zero_add, hja, ne_eq, not_true_eq_false, EVA, ↓reduceIte, Nat.reduceEqDiff, Nat.reduceMul, reduceCtorEq, Nat.reduceAdd, Nat.reduceSub, Nat.reduceLeDiff, Nat.reduceLT, Int.reduceToNat, Int.reduceLE, Int.reduceLT, mens, men]
    refine kca_intro (held_IntS (a[j]) (kJ nIntS a k j) hb (by omega) (by omega)) ?_
    have hz0 : ¬ (kJ nIntS a k j + (nL nInt (a[j]) : Nat) < 0) := by omega
    simp only [ga, mIntS, mInt, mStr, Nat.zero_add, hja, ne_eq, not_true_eq_false, hz0, EVA, ↓reduceIte, Nat.reduceEqDiff, Nat.reduceMul, reduceCtorEq, Nat.reduceAdd, Nat.reduceSub, Nat.reduceLeDiff, Nat.reduceLT, Int.reduceToNat, Int.reduceLE, Int.reduceLT, mens, men]
    refine ⟨by rw [fits_i64]; omega, cntJ_intro () hja ?_ trivial⟩
    rw [kJ_succ nIntS hja]
    simp only [nIntS, Int.natCast_add, Int.natCast_one, Int.add_assoc]
    try rfl
  · have : j = a.length := by omega
    subst this
    rw [kJ_all]
theorem held_IntA2S (a : List (Int × Int)) (k : Int) (hl : a.length ≤ 4294967296) (h0 : 0 ≤ k) (hk : k + nL nIntA2 a ≤ 4611686018427387904) (lvl : Nat) (S : Sto) : Sem Go.Proofs.Tryz.prog fid_laws_heldIntA2S lvl [.tr (.sl (((mL mIntA2 nIntA2 a k)).map cA2)), iI k] S (iI (k + nL nIntA2 a)) S := by
  refine sem_of_chk k_laws_heldIntA2S trivial ?_
  simp only [c_laws_heldIntA2S, EVA, ↓reduceIte, Nat.reduceEqDiff, Nat.reduceMul, reduceCtorEq, Nat.reduceAdd, Nat.reduceSub, Nat.reduceLeDiff, Nat.reduceLT, Int.reduceToNat, Int.reduceLE, Int.reduceLT, mens, men]
  refine wp_count (α := Unit) a.length (fun j _ => ⟨lvl, [(0, .tr (.sl (((mL mIntA2 nIntA2 a k)).map cA2))), (1, iI (kJ nIntA2 a k j)), (5, iI j)], [], S⟩) (fun _ _ => True) () ⟨by simp only [EVA, ↓reduceIte, Nat.reduceEqDiff, Nat.reduceMul, reduceCtorEq, Nat.reduceAdd, Nat.reduceSub, Nat.reduceLeDiff, Nat.reduceLT, Int.reduceToNat, Int.reduceLE, Int.reduceLT, mens, men], by (simp only [kJ_zero, EVA, ↓reduceIte, Nat.reduceEqDiff, Nat.reduceMul, reduceCtorEq, Nat.reduceAdd, Nat.reduceSub, Nat.reduceLeDiff, Nat.reduceLT, Int.reduceToNat, Int.reduceLE, Int.reduceLT, mens, men]) <;> rfl⟩ trivial ?_
  intro j _ hj _
  simp only [List.length_map, mL_length, EVA, ↓reduceIte, Nat.reduceEqDiff, Nat.reduceMul, reduceCtorEq, Nat.reduceAdd, Nat.reduceSub, Nat.reduceLeDiff, Nat.reduceLT, Int.reduceToNat, Int.reduceLE, Int.reduceLT, mens, men]
  refine ite_of (fun hlt => ?_) (fun hge => ?_)
  · have hja : j < a.length := by omega
    have ga := mL_row (c := cA2) (m := mIntA2) (n := nIntA2) (k := k) hja
    have hge2 := kJ_le nIntA2 (a := a) (k := k) (j := j + 1)
    rw [kJ_succ nIntA2 hja] at hge2
    have hge3 := kJ_ge nIntA2 (a := a) (k := k) (j := j)
    try simp only [nIntA2] at hge2
    try simp only [ga, Nat.zero_add, hja, EVA, ↓reduceIte, Nat.reduceEqDiff, Nat.reduceMul, reduceCtorEq, Nat.reduceAdd, Nat.reduceSub, Nat.reduceLeDiff, Nat.reduceLT, Int.reduceToNat, Int.reduceLE, Int.reduceLT, mens, men]
    refine wp_count (α := Unit) 2 (fun i _ => ⟨lvl, [(0, .tr (.sl (((mL mIntA2 nIntA2 a k)).map cA2))), (1, iI (kJ nIntA2 a k j + i)), (5, iI j), (6, iI i)], [], S⟩) (fun _ _ => True) () ⟨by simp only [EVA, ↓reduceIte, Nat.reduceEqDiff, Nat.reduceMul, reduceCtorEq, Nat.reduceAdd, Nat.reduceSub, Nat.reduceLeDiff, Nat.reduceLT, Int.reduceToNat, Int.reduceLE, Int.reduceLT, mens, men], by (simp only [Int.natCast_zero, Int.add_zero, EVA, ↓reduceIte, Nat.reduceEqDiff, Nat.reduceMul, reduceCtorEq, Nat.reduceAdd, Nat.reduceSub, Nat.reduceLeDiff, Nat.reduceLT, Int.reduceToNat, Int.reduceLE, Int.reduceLT, mens, men]) <;> rfl⟩ trivial ?_
    intro i _ hi _
    have hc : i = 0 ∨ i = 1 ∨ i = 2 := by omega
    rcases hc with rfl | rfl | rfl
    · simp only [ga, cA2, mIntA2, Nat.zero_add, hja, Int.cast_ofNat_Int, Int.natCast_zero, Nat.zero_mul, Nat.one_mul, Nat.mul_one, Int.add_zero, Int.natCast_one, Int.reduceAdd, Nat.lt_irrefl, Nat.not_lt_zero, Nat.zero_lt_one, Nat.reduceAdd, ne_eq, not_true_eq_false, EVA, ↓reduceIte, Nat.reduceEqDiff, Nat.reduceMul, reduceCtorEq, Nat.reduceSub, Nat.reduceLeDiff, Nat.reduceLT, Int.reduceToNat, Int.reduceLE, Int.reduceLT, mens, men]
      refine ⟨by rw [fits_i64]; omega, by rw [fits_i64]; omega, cntJ_intro (N := 2) (k := 0) () (by omega) ?_ trivial⟩
      rw [show kJ nIntA2 a k j + 1 = kJ nIntA2 a k j + ((1 : Nat) : Int) from by omega]
      rfl
    · simp only [ga, cA2, mIntA2, Nat.zero_add, hja, Int.cast_ofNat_Int, Int.natCast_zero, Nat.zero_mul, Nat.one_mul, Nat.mul_one, Int.add_zero, Int.natCast_one, Int.reduceAdd, Nat.lt_irrefl, Nat.not_lt_zero, Nat.zero_lt_one, Nat.reduceAdd, ne_eq, not_true_eq_false, EVA, ↓reduceIte, Nat.reduceEqDiff, Nat.reduceMul, reduceCtorEq, Nat.reduceSub, Nat.reduceLeDiff, Nat.reduceLT, Int.reduceToNat, Int.reduceLE, Int.reduceLT, mens, men]
      refine ⟨by rw [fits_i64]; omega, by rw [fits_i64]; omega, cntJ_intro (N := 2) (k := 1) () (by omega) ?_ trivial⟩
      rw [show kJ nIntA2 a k j + 1 + 1 = kJ nIntA2 a k j + ((2 : Nat) : Int) from by omega]
      rfl
    · simp only [ga, cA2, mIntA2, Nat.zero_add, hja, Int.cast_ofNat_Int, Int.natCast_zero, Nat.zero_mul, Nat.one_mul, Nat.mul_one, Int.add_zero, Int.natCast_one, Int.reduceAdd, Nat.lt_irrefl, Nat.not_lt_zero, Nat.zero_lt_one, Nat.reduceAdd, ne_eq, not_true_eq_false, EVA, ↓reduceIte, Nat.reduceEqDiff, Nat.reduceMul, reduceCtorEq, Nat.reduceSub, Nat.reduceLeDiff, Nat.reduceLT, Int.reduceToNat, Int.reduceLE, Int.reduceLT, mens, men]
      refine ⟨by rw [fits_i64]; omega, cntJ_intro () hja ?_ trivial⟩
      rw [kJ_succ nIntA2 hja]
      rfl
  · have : j = a.length := by omega
    subst this
    rw [kJ_all]
theorem held_Sorting (x : TSorting) (k : Int) (hb : bdSorting 4294967296 x) (h0 : 0 ≤ k) (hk : k + nSorting x ≤ 4611686018427387904) (lvl : Nat) (S : Sto) : Sem Go.Proofs.Tryz.prog fid_laws_heldSorting lvl [.ag ((cSorting (mstSorting x k)).map .tr), iI k] S (iI (k + nSorting x)) S := by
  obtain ⟨b0, b1, b2, b3, b4, b5, b6⟩ := hb
  simp only [nSorting] at hk
  refine sem_of_chk k_laws_heldSorting trivial ?_
  simp only [c_laws_heldSorting, cSorting, mstSorting, EVA, ↓reduceIte, Nat.reduceEqDiff, Nat.reduceMul, reduceCtorEq, Nat.reduceAdd, Nat.reduceSub, Nat.reduceLeDiff, Nat.reduceLT, Int.reduceToNat, Int.reduceLE, Int.reduceLT, mens, men]
  refine kca_intro (held_IntS x.tops (k) b0 (by omega) (by omega)) ?_
  have hz0 : ¬ (k + (nL nInt x.tops : Nat) < 0) := by omega
  simp only [cSorting, mstSorting, hz0, EVA, ↓reduceIte, Nat.reduceEqDiff, Nat.reduceMul, reduceCtorEq, Nat.reduceAdd, Nat.reduceSub, Nat.reduceLeDiff, Nat.reduceLT, Int.reduceToNat, Int.reduceLE, Int.reduceLT, mens, men]
  refine kca_intro (held_IntSS x.nest (k + (nL nInt x.tops : Nat)) b1 b2 (by omega) (by omega)) ?_
  have hz1 : ¬ (k + (nL nInt x.tops : Nat) + (nL nIntS x.nest : Nat) < 0) := by omega
  simp only [cSorting, mstSorting, hz1, EVA, ↓reduceIte, Nat.reduceEqDiff, Nat.reduceMul, reduceCtorEq, Nat.reduceAdd, Nat.reduceSub, Nat.reduceLeDiff, Nat.reduceLT, Int.reduceToNat, Int.reduceLE, Int.reduceLT, mens, men]
  refine kca_intro (held_IntSS x.sorts (k + (nL nInt x.tops : Nat) + (nL nIntS x.nest : Nat)) b3 b4 (by omega) (by omega)) ?_
  have hz2 : ¬ (k + (nL nInt x.tops : Nat) + (nL nIntS x.nest : Nat) + (nL nIntS x.sorts : Nat) < 0) := by omega
  simp only [cSorting, mstSorting, hz2, EVA, ↓reduceIte, Nat.reduceEqDiff, Nat.reduceMul, reduceCtorEq, Nat.reduceAdd, Nat.reduceSub, Nat.reduceLeDiff, Nat.reduceLT, Int.reduceToNat, Int.reduceLE, Int.reduceLT, mens, men]
  refine kca_intro (held_IntS x.most (k + (nL nInt x.tops : Nat) + (nL nIntS x.nest : Nat) + (nL nIntS x.sorts : Nat)) b5 (by omega) (by omega)) ?_
  have hz3 : ¬ (k + (nL nInt x.tops : Nat) + (nL nIntS x.nest : Nat) + (nL nIntS x.sorts : Nat) + (nL nInt x.most : Nat) < 0) := by omega
  simp only [cSorting, mstSorting, hz3, EVA, ↓reduceIte, Nat.reduceEqDiff, Nat.reduceMul, reduceCtorEq, Nat.reduceAdd, Nat.reduceSub, Nat.reduceLeDiff, Nat.reduceLT, Int.reduceToNat, Int.reduceLE, Int.reduceLT, mens, men]
  refine kca_intro (held_IntA2S x.apart (k + (nL nInt x.tops : Nat) + (nL nIntS x.nest : Nat) + (nL nIntS x.sorts : Nat) + (nL nInt x.most : Nat)) b6 (by omega) (by omega)) ?_
  have hz4 : ¬ (k + (nL nInt x.tops : Nat) + (nL nIntS x.nest : Nat) + (nL nIntS x.sorts : Nat) + (nL nInt x.most : Nat) + (nL nIntA2 x.apart : Nat) < 0) := by omega
  simp only [cSorting, mstSorting, hz4, EVA, ↓reduceIte, Nat.reduceEqDiff, Nat.reduceMul, reduceCtorEq, Nat.reduceAdd, Nat.reduceSub, Nat.reduceLeDiff, Nat.reduceLT, Int.reduceToNat, Int.reduceLE, Int.reduceLT, mens, men]
  simp only [nSorting, Int.natCast_add, ← Int.add_assoc]
end Go.Fd

/-
  HOW MANY MARKS SMALL THINGS TAKE. Own work.
-/
namespace Go.Fd
theorem nL_int : ∀ (l : List Int), nL nInt l = l.length
  | [] => rfl
  | x :: r => by simp only [nL, List.length_cons, nL_int r, nInt]; omega
theorem nL_le {α : Type} {n : α → Nat} {B : Nat} : ∀ (l : List α), (∀ x ∈ l, n x ≤ B) → nL n l ≤ l.length * B
  | [], _ => Nat.zero_le _
  | x :: r, h => by
    have h1 := h x (by simp)
    have h2 := nL_le r (fun y hy => h y (by simp [hy]))
    simp only [nL, List.length_cons, Nat.add_mul]
    omega
end Go.Fd

/-
  HOW MANY NUMBERS LISTS OF PAIRS AND LISTS OF LISTS HOLD AT MOST. Own work.
-/
namespace Go.Fd
theorem nL_IS {B : Nat} (l : List (List Int)) (h : ∀ x ∈ l, x.length ≤ B) : nL nIntS l ≤ l.length * B := nL_le l fun x hx => by simp only [nIntS, nL_int]; exact h x hx
end Go.Fd

/-
  HOW MANY MARKS A THING TAKES, AGAINST ITS SIZE (printed by lawgen.py). Own work.
-/
namespace Go.Fd
theorem zqSorting (x : TSorting) : Zq 0 (fun l => szSorting x l) (nSorting x) := Zq_imp (Zq_th (by omega) (by omega) (Zq_N nInt (fun _ => (by decide : 1 ≤ 256)) x.tops) (Zq_th (by omega) (by omega) (Zq_L (n := nIntS) (fun y => Zq_imp (Zq_N nInt (fun _ => (by decide : 1 ≤ 256)) y) (by simp only [nIntS]; omega)) x.nest) (Zq_th (by omega) (by omega) (Zq_L (n := nIntS) (fun y => Zq_imp (Zq_N nInt (fun _ => (by decide : 1 ≤ 256)) y) (by simp only [nIntS]; omega)) x.sorts) (Zq_th (by omega) (by omega) (Zq_N nInt (fun _ => (by decide : 1 ≤ 256)) x.most) (Zq_th (by omega) (by omega) (Zq_N nIntA2 (fun _ => (by decide : 1 + 1 ≤ 256)) x.apart) Zq_id))))) (by simp only [nSorting]; omega)
theorem zqControl (x : TControl) : Zq 256 (fun l => szControl x l) (nControl x) := Zq_imp (Zq_th (by omega) (by omega) (Zq_str x.name.size) Zq_id) (by simp only [nControl]; omega)
end Go.Fd

/-
  WHAT HOLDS OF THE HELPERS OF THE LAWS (printed by lawgen.py). Own work.
-/
namespace Go.Fd
set_option maxRecDepth 20000
theorem szN_le {n : Nat} {l : Int} (h : 0 ≤ l) : szN n l ≤ l := by unfold szN; split <;> omega
theorem szF_le {α : Type} {f : α → Int → Int} : ∀ (a : List α) (l : Int), (∀ x ∈ a, ∀ l : Int, 0 ≤ l → l ≤ 1048576 → f x l ≤ l) → 0 ≤ l → l ≤ 1048576 → szF f a l ≤ l
  | [], l, _, _, _ => Int.le_refl l
  | x :: r, l, hf, h0, h1 => by
    simp only [szF]
    have := hf x (by simp) l h0 h1
    split
    · omega
    · have h2 := szF_le r (f x l) (fun y hy => hf y (by simp [hy])) (by omega) (by omega)
      omega
theorem szL_le {α : Type} {f : α → Int → Int} (a : List α) {l : Int} (hf : ∀ x ∈ a, ∀ l : Int, 0 ≤ l → l ≤ 1048576 → f x l ≤ l) (h0 : 0 ≤ l) (h1 : l ≤ 1048576) : szL f a l ≤ l := by
  unfold szL
  split
  · omega
  · have := szF_le a (l - a.length) hf (by omega) (by omega)
    omega
theorem szTh_le {l m : Int} {g : Int → Int} (h0 : 0 ≤ l) (h : m ≤ l) (hg : 0 ≤ m → g m ≤ m) : szTh m g ≤ l := by
  unfold szTh
  split
  · omega
  · have := hg (by omega)
    omega
theorem g_szIntS : chkF Go.Proofs.Tryz.prog fid_laws_szIntS sz0 = true := by kernel_rfl
theorem sem_szIntS (a : List Int) (hl : a.length ≤ 9223372036854775807) (l : Int) (h0 : 0 ≤ l) (h1 : l ≤ 1048576) : szN a.length l ≤ l ∧ ∀ lvl S, Sem Go.Proofs.Tryz.prog fid_laws_szIntS lvl [.tr (.sl (rI a)), iI l] S (iI (szN a.length l)) S := by
  refine ⟨szN_le h0, fun lvl S => ?_⟩
  have := sem_sz0 g_szIntS (rI a) l (by simpa using hl) h0 h1 lvl S
  simpa using this
theorem g_szIntSS : chkF Go.Proofs.Tryz.prog fid_laws_szIntSS (szSl 1 none fid_laws_szIntS) = true := by kernel_rfl
theorem sem_szIntSS (a : (List (List Int))) (hl : a.length ≤ 9223372036854775807) (hb : ∀ y ∈ a, y.length ≤ 9223372036854775807) (l : Int) (h0 : 0 ≤ l) (h1 : l ≤ 1048576) : szL (fun x m => (szN x.length m)) a l ≤ l ∧ ∀ lvl S, Sem Go.Proofs.Tryz.prog fid_laws_szIntSS lvl [.tr (.sl (a.map (fun l => [Tr.sl (rI l)]))), iI l] S (iI (szL (fun x m => (szN x.length m)) a l)) S :=
  ⟨szL_le a (fun x hx l h0 h1 => (sem_szIntS x (hb x hx) l h0 h1).1) h0 h1, fun lvl S => sem_szS1 g_szIntSS (fun l => Tr.sl (rI l)) (fun x m => (szN x.length m)) a l hl h0 h1 (fun x hx l h0 h1 => sem_szIntS x (hb x hx) l h0 h1) lvl S⟩
theorem g_szIntA2S : chkF Go.Proofs.Tryz.prog fid_laws_szIntA2S sz0 = true := by kernel_rfl
theorem sem_szIntA2S (a : List (Int × Int)) (hl : a.length ≤ 9223372036854775807) (l : Int) (h0 : 0 ≤ l) (h1 : l ≤ 1048576) : szN a.length l ≤ l ∧ ∀ lvl S, Sem Go.Proofs.Tryz.prog fid_laws_szIntA2S lvl [.tr (.sl (a.map cA2)), iI l] S (iI (szN a.length l)) S := by
  refine ⟨szN_le h0, fun lvl S => ?_⟩
  have := sem_sz0 g_szIntA2S (a.map cA2) l (by simpa using hl) h0 h1 lvl S
  simpa using this
theorem sem_szSorting (x : TSorting) (hb : bdSorting 9223372036854775807 x) (l : Int) (h0 : 0 ≤ l) (h1 : l ≤ 1048576) : szSorting x l ≤ l ∧ ∀ lvl S, Sem Go.Proofs.Tryz.prog fid_laws_szSorting lvl [.ag ((cSorting x).map .tr), iI l] S (iI (szSorting x l)) S := by
  obtain ⟨b0, b1, b2, b3, b4, b5, b6⟩ := hb
  refine ⟨?_, fun lvl S => ?_⟩
  · unfold szSorting
    have q0 := sem_szIntS x.tops b0 _ h0 h1
    refine szTh_le h0 q0.1 (fun p0 => ?_)
    have r0 : _ ≤ (1048576 : Int) := Int.le_trans q0.1 h1
    have q1 := sem_szIntSS x.nest b1 b2 _ p0 r0
    refine szTh_le p0 q1.1 (fun p1 => ?_)
    have r1 : _ ≤ (1048576 : Int) := Int.le_trans q1.1 r0
    have q2 := sem_szIntSS x.sorts b3 b4 _ p1 r1
    refine szTh_le p1 q2.1 (fun p2 => ?_)
    have r2 : _ ≤ (1048576 : Int) := Int.le_trans q2.1 r1
    have q3 := sem_szIntS x.most b5 _ p2 r2
    refine szTh_le p2 q3.1 (fun p3 => ?_)
    have r3 : _ ≤ (1048576 : Int) := Int.le_trans q3.1 r2
    have q4 := sem_szIntA2S x.apart b6 _ p3 r3
    refine szTh_le p3 q4.1 (fun p4 => ?_)
    have r4 : _ ≤ (1048576 : Int) := Int.le_trans q4.1 r3
    exact Int.le_refl _
  · refine sem_of_chk k_laws_szSorting trivial ?_
    simp only [c_laws_szSorting, cSorting, List.map_cons, List.map_nil, EVA, ↓reduceIte, Nat.reduceEqDiff, Nat.reduceMul, reduceCtorEq, Nat.reduceAdd, Nat.reduceSub, Nat.reduceLeDiff, Nat.reduceLT, Int.reduceToNat, Int.reduceLE, Int.reduceLT, mens, men]
    unfold szSorting
    have q0 := sem_szIntS x.tops b0 l h0 h1
    refine kca_intro q0.2 ?_
    simp only [EVA, ↓reduceIte, Nat.reduceEqDiff, Nat.reduceMul, reduceCtorEq, Nat.reduceAdd, Nat.reduceSub, Nat.reduceLeDiff, Nat.reduceLT, Int.reduceToNat, Int.reduceLE, Int.reduceLT, mens, men]
    obtain ⟨l1, hl1⟩ : ∃ m : Int, m = (szN x.tops.length l) := ⟨_, rfl⟩
    have u1 : l1 ≤ l := by rw [hl1]; exact q0.1
    rw [← hl1]
    split
    · rename_i hn; rw [szTh, if_pos hn]
    rename_i hn0
    rw [szTh, if_neg hn0]
    have q1 := sem_szIntSS x.nest b1 b2 l1 (show 0 ≤ l1 by omega) (show l1 ≤ 1048576 by omega)
    refine kca_intro q1.2 ?_
    simp only [EVA, ↓reduceIte, Nat.reduceEqDiff, Nat.reduceMul, reduceCtorEq, Nat.reduceAdd, Nat.reduceSub, Nat.reduceLeDiff, Nat.reduceLT, Int.reduceToNat, Int.reduceLE, Int.reduceLT, mens, men]
    obtain ⟨l2, hl2⟩ : ∃ m : Int, m = (szL (fun x m => (szN x.length m)) x.nest l1) := ⟨_, rfl⟩
    have u2 : l2 ≤ l1 := by rw [hl2]; exact q1.1
    rw [← hl2]
    split
    · rename_i hn; rw [szTh, if_pos hn]
    rename_i hn1
    rw [szTh, if_neg hn1]
    have q2 := sem_szIntSS x.sorts b3 b4 l2 (show 0 ≤ l2 by omega) (show l2 ≤ 1048576 by omega)
    refine kca_intro q2.2 ?_
    simp only [EVA, ↓reduceIte, Nat.reduceEqDiff, Nat.reduceMul, reduceCtorEq, Nat.reduceAdd, Nat.reduceSub, Nat.reduceLeDiff, Nat.reduceLT, Int.reduceToNat, Int.reduceLE, Int.reduceLT, mens, men]
    obtain ⟨l3, hl3⟩ : ∃ m : Int, m = (szL (fun x m => (szN x.length m)) x.sorts l2) := ⟨_, rfl⟩
    have u3 : l3 ≤ l2 := by rw [hl3]; exact q2.1
    rw [← hl3]
    split
    · rename_i hn; rw [szTh, if_pos hn]
    rename_i hn2
    rw [szTh, if_neg hn2]
    have q3 := sem_szIntS x.most b5 l3 (show 0 ≤ l3 by omega) (show l3 ≤ 1048576 by omega)
    refine kca_intro q3.2 ?_
    simp only [EVA, ↓reduceIte, Nat.reduceEqDiff, Nat.reduceMul, reduceCtorEq, Nat.reduceAdd, Nat.reduceSub, Nat.reduceLeDiff, Nat.reduceLT, Int.reduceToNat, Int.reduceLE, Int.reduceLT, mens, men]
    obtain ⟨l4, hl4⟩ : ∃ m : Int, m = (szN x.most.length l3) := ⟨_, rfl⟩
    have u4 : l4 ≤ l3 := by rw [hl4]; exact q3.1
    rw [← hl4]
    split
    · rename_i hn; rw [szTh, if_pos hn]
    rename_i hn3
    rw [szTh, if_neg hn3]
    have q4 := sem_szIntA2S x.apart b6 l4 (show 0 ≤ l4 by omega) (show l4 ≤ 1048576 by omega)
    refine kca_intro q4.2 ?_
    simp only [EVA, ↓reduceIte, Nat.reduceEqDiff, Nat.reduceMul, reduceCtorEq, Nat.reduceAdd, Nat.reduceSub, Nat.reduceLeDiff, Nat.reduceLT, Int.reduceToNat, Int.reduceLE, Int.reduceLT, mens, men]
    obtain ⟨l5, hl5⟩ : ∃ m : Int, m = (szN x.apart.length l4) := ⟨_, rfl⟩
    have u5 : l5 ≤ l4 := by rw [hl5]; exact q4.1
    rw [← hl5]
    split
    · rename_i hn; rw [szTh, if_pos hn]
    rename_i hn4
    rw [szTh, if_neg hn4]
theorem sem_szControl (x : TControl) (hb : bdControl 9223372036854775807 x) (l : Int) (h0 : 0 ≤ l) (h1 : l ≤ 1048576) : szControl x l ≤ l ∧ ∀ lvl S, Sem Go.Proofs.Tryz.prog fid_laws_szControl lvl [.ag ((cControl x).map .tr), iI l] S (iI (szControl x l)) S := by
  have b0 : x.name.size ≤ 9223372036854775807 := hb
  refine ⟨?_, fun lvl S => ?_⟩
  · unfold szControl
    refine szTh_le h0 (m := l - x.name.size) (by omega) (fun p0 => ?_)
    have r0 : _ ≤ (1048576 : Int) := Int.le_trans (show l - x.name.size ≤ l by omega) h1
    exact Int.le_refl _
  · refine sem_of_chk k_laws_szControl trivial ?_
    simp only [c_laws_szControl, cControl, List.map_cons, List.map_nil, EVA, ↓reduceIte, Nat.reduceEqDiff, Nat.reduceMul, reduceCtorEq, Nat.reduceAdd, Nat.reduceSub, Nat.reduceLeDiff, Nat.reduceLT, Int.reduceToNat, Int.reduceLE, Int.reduceLT, mens, men]
    unfold szControl
    refine ⟨by rw [fits_i64]; omega, ?_⟩
    obtain ⟨l1, hl1⟩ : ∃ m : Int, m = l - x.name.size := ⟨_, rfl⟩
    have u1 : l1 ≤ l := by omega
    rw [← hl1]
    split
    · rename_i hn; rw [szTh, if_pos hn]
    rename_i hn0
    rw [szTh, if_neg hn0]
theorem g_szControlS : chkF Go.Proofs.Tryz.prog fid_laws_szControlS (szSl 3 (some 3) fid_laws_szControl) = true := by kernel_rfl
theorem sem_szControlS (a : List TControl) (hl : a.length ≤ 9223372036854775807) (hb : ∀ y ∈ a, bdControl 9223372036854775807 y) (l : Int) (h0 : 0 ≤ l) (h1 : l ≤ 1048576) : szL szControl a l ≤ l ∧ ∀ lvl S, Sem Go.Proofs.Tryz.prog fid_laws_szControlS lvl [.tr (.sl (a.map cControl)), iI l] S (iI (szL szControl a l)) S :=
  ⟨szL_le a (fun x hx l h0 h1 => (sem_szControl x (hb x hx) l h0 h1).1) h0 h1, fun lvl S => sem_szSl g_szControlS cControl szControl cControl_len a l hl h0 h1 (fun x hx l h0 h1 => sem_szControl x (hb x hx) l h0 h1) lvl S⟩
end Go.Fd

/-
  WHAT HOLDS OF THE HELPERS OF THE LAWS: eq.. (printed by lawgen.py). Own work.
-/
namespace Go.Fd
set_option maxRecDepth 20000
theorem g_eqIntS : chkF Go.Proofs.Tryz.prog fid_laws_eqIntS eqS1 = true := by kernel_rfl
theorem sem_eqIntS (a b : (List Int)) (ha : a.length ≤ 9223372036854775807) (lvl : Nat) (S : Sto) : Sem Go.Proofs.Tryz.prog fid_laws_eqIntS lvl [.tr (.sl (rI a)), .tr (.sl (rI b))] S (iB (decide (a = b))) S := sem_eqI g_eqIntS a b ha lvl S
theorem g_eqIntSS : chkF Go.Proofs.Tryz.prog fid_laws_eqIntSS (eqSl 1 none fid_laws_eqIntS) = true := by kernel_rfl
theorem sem_eqIntSS (a b : (List (List Int))) (ha : a.length ≤ 9223372036854775807) (ha2 : ∀ y ∈ a, y.length ≤ 9223372036854775807) (lvl : Nat) (S : Sto) : Sem Go.Proofs.Tryz.prog fid_laws_eqIntSS lvl [.tr (.sl (a.map (fun l => [Tr.sl (rI l)]))), .tr (.sl (b.map (fun l => [Tr.sl (rI l)])))] S (iB (decide (a = b))) S :=
  sem_eqSl1 g_eqIntSS (fun l => Tr.sl (rI l)) a b ha (fun x hx y _ lvl S => sem_eqIntS x y (ha2 x hx) lvl S) lvl S
theorem sem_eqIntA2 (x y : (Int × Int)) (lvl : Nat) (S : Sto) : Sem Go.Proofs.Tryz.prog fid_laws_eqIntA2 lvl [.ag ((cA2 x).map .tr), .ag ((cA2 y).map .tr)] S (iB (decide (x = y))) S := by
  refine sem_of_chk k_laws_eqIntA2 trivial ?_
  simp only [c_laws_eqIntA2, cA2, EVA, ↓reduceIte, Nat.reduceEqDiff, Nat.reduceMul, reduceCtorEq, Nat.reduceAdd, Nat.reduceSub, Nat.reduceLeDiff, Nat.reduceLT, Int.reduceToNat, Int.reduceLE, Int.reduceLT, mens, men]
  refine wp_count (α := Unit) 2 (fun j _ => ⟨lvl, [(2, .ta (cA2 x)), (3, .ta (cA2 y)), (5, iI j)], [], S⟩) (fun j _ => (cA2 x).take j = (cA2 y).take j) () ⟨by simp only [EVA, ↓reduceIte, Nat.reduceEqDiff, Nat.reduceMul, reduceCtorEq, Nat.reduceAdd, Nat.reduceSub, Nat.reduceLeDiff, Nat.reduceLT, Int.reduceToNat, Int.reduceLE, Int.reduceLT, mens, men], by (simp only [EVA, ↓reduceIte, Nat.reduceEqDiff, Nat.reduceMul, reduceCtorEq, Nat.reduceAdd, Nat.reduceSub, Nat.reduceLeDiff, Nat.reduceLT, Int.reduceToNat, Int.reduceLE, Int.reduceLT, mens, men]) <;> rfl⟩ rfl ?_
  intro j _ hj hA
  have hc : j = 0 ∨ j = 1 ∨ j = 2 := by omega
  rcases hc with rfl | rfl | rfl
  · simp only [cA2, Int.cast_ofNat_Int, Int.natCast_zero, Nat.zero_mul, Nat.one_mul, Nat.mul_one, EVA, ↓reduceIte, Nat.reduceEqDiff, Nat.reduceMul, reduceCtorEq, Nat.reduceAdd, Nat.reduceSub, Nat.reduceLeDiff, Nat.reduceLT, Int.reduceToNat, Int.reduceLE, Int.reduceLT, mens, men]
    refine ite_of (fun hne => ?_) (fun heq => ?_)
    · have : ¬ x = y := fun e => hne (by rw [e])
      simp [this]
    · refine ⟨by rw [fits_i64]; omega, cntJ_intro (N := 2) (k := 0) () (by omega) rfl ?_⟩
      simp [cA2] at hA ⊢
      simp_all
  · simp only [cA2, Int.cast_ofNat_Int, Int.natCast_zero, Nat.zero_mul, Nat.one_mul, Nat.mul_one, EVA, ↓reduceIte, Nat.reduceEqDiff, Nat.reduceMul, reduceCtorEq, Nat.reduceAdd, Nat.reduceSub, Nat.reduceLeDiff, Nat.reduceLT, Int.reduceToNat, Int.reduceLE, Int.reduceLT, mens, men]
    refine ite_of (fun hne => ?_) (fun heq => ?_)
    · have : ¬ x = y := fun e => hne (by rw [e])
      simp [this]
    · refine ⟨by rw [fits_i64]; omega, cntJ_intro (N := 2) (k := 1) () (by omega) rfl ?_⟩
      simp [cA2] at hA ⊢
      simp_all
  · simp only [cA2, Int.cast_ofNat_Int, EVA, ↓reduceIte, Nat.reduceEqDiff, Nat.reduceMul, reduceCtorEq, Nat.reduceAdd, Nat.reduceSub, Nat.reduceLeDiff, Nat.reduceLT, Int.reduceToNat, Int.reduceLE, Int.reduceLT, mens, men]
    have : x = y := by
      simp [cA2] at hA
      obtain ⟨x0, x1⟩ := x; obtain ⟨y0, y1⟩ := y
      simp_all
    simp [this]
theorem g_eqIntA2S : chkF Go.Proofs.Tryz.prog fid_laws_eqIntA2S (eqSl 2 (some 2) fid_laws_eqIntA2) = true := by kernel_rfl
theorem sem_eqIntA2S (a b : (List (Int × Int))) (ha : a.length ≤ 9223372036854775807) (lvl : Nat) (S : Sto) : Sem Go.Proofs.Tryz.prog fid_laws_eqIntA2S lvl [.tr (.sl (a.map cA2)), .tr (.sl (b.map cA2))] S (iB (decide (a = b))) S :=
  sem_eqSl g_eqIntA2S cA2 (fun _ => rfl) a b ha (fun x hx y _ lvl S => sem_eqIntA2 x y lvl S) lvl S
theorem sem_eqSorting (x y : TSorting) (hb : bdSorting 9223372036854775807 x) (lvl : Nat) (S : Sto) : Sem Go.Proofs.Tryz.prog fid_laws_eqSorting lvl [.ag ((cSorting x).map .tr), .ag ((cSorting y).map .tr)] S (iB (decide (x = y))) S := by
  obtain ⟨b0, b1, b2, b3, b4, b5, b6⟩ := hb
  refine sem_of_chk k_laws_eqSorting trivial ?_
  simp only [c_laws_eqSorting, cSorting, List.map_cons, List.map_nil, EVA, ↓reduceIte, Nat.reduceEqDiff, Nat.reduceMul, reduceCtorEq, Nat.reduceAdd, Nat.reduceSub, Nat.reduceLeDiff, Nat.reduceLT, Int.reduceToNat, Int.reduceLE, Int.reduceLT, mens, men]
  refine kca_intro (sem_eqIntS x.tops y.tops b0) ?_
  simp only [Bool.not_eq_true', EVA, ↓reduceIte, Nat.reduceEqDiff, Nat.reduceMul, reduceCtorEq, Nat.reduceAdd, Nat.reduceSub, Nat.reduceLeDiff, Nat.reduceLT, Int.reduceToNat, Int.reduceLE, Int.reduceLT, mens, men]
  refine ite_of (fun hne => ?_) (fun heq0 => ?_)
  · have : ¬ x = y := fun e => (by rw [e] at hne; simp at hne)
    simp [this]
  refine kca_intro (sem_eqIntSS x.nest y.nest b1 b2) ?_
  simp only [Bool.not_eq_true', EVA, ↓reduceIte, Nat.reduceEqDiff, Nat.reduceMul, reduceCtorEq, Nat.reduceAdd, Nat.reduceSub, Nat.reduceLeDiff, Nat.reduceLT, Int.reduceToNat, Int.reduceLE, Int.reduceLT, mens, men]
  refine ite_of (fun hne => ?_) (fun heq1 => ?_)
  · have : ¬ x = y := fun e => (by rw [e] at hne; simp at hne)
    simp [this]
  refine kca_intro (sem_eqIntSS x.sorts y.sorts b3 b4) ?_
  simp only [Bool.not_eq_true', EVA, ↓reduceIte, Nat.reduceEqDiff, Nat.reduceMul, reduceCtorEq, Nat.reduceAdd, Nat.reduceSub, Nat.reduceLeDiff, Nat.reduceLT, Int.reduceToNat, Int.reduceLE, Int.reduceLT, mens, men]
  refine ite_of (fun hne => ?_) (fun heq2 => ?_)
  · have : ¬ x = y := fun e => (by rw [e] at hne; simp at hne)
    simp [this]
  refine kca_intro (sem_eqIntS x.most y.most b5) ?_
  simp only [Bool.not_eq_true', EVA, ↓reduceIte, Nat.reduceEqDiff, Nat.reduceMul, reduceCtorEq, Nat.reduceAdd, Nat.reduceSub, Nat.reduceLeDiff, Nat.reduceLT, Int.reduceToNat, Int.reduceLE, Int.reduceLT, mens, men]
  refine ite_of (fun hne => ?_) (fun heq3 => ?_)
  · have : ¬ x = y := fun e => (by rw [e] at hne; simp at hne)
    simp [this]
  refine kca_intro (sem_eqIntA2S x.apart y.apart b6) ?_
  simp only [Bool.not_eq_true', EVA, ↓reduceIte, Nat.reduceEqDiff, Nat.reduceMul, reduceCtorEq, Nat.reduceAdd, Nat.reduceSub, Nat.reduceLeDiff, Nat.reduceLT, Int.reduceToNat, Int.reduceLE, Int.reduceLT, mens, men]
  refine ite_of (fun hne => ?_) (fun heq4 => ?_)
  · have : ¬ x = y := fun e => (by rw [e] at hne; simp at hne)
    simp [this]
  have : x = y := by
    cases x; cases y; simp_all
  simp [this]
theorem sem_eqControl (x y : TControl) (hb : bdControl 9223372036854775807 x) (lvl : Nat) (S : Sto) : Sem Go.Proofs.Tryz.prog fid_laws_eqControl lvl [.ag ((cControl x).map .tr), .ag ((cControl y).map .tr)] S (iB (decide (x = y))) S := by
  have b0 : x.name.size ≤ 9223372036854775807 := hb
  refine sem_of_chk k_laws_eqControl trivial ?_
  simp only [c_laws_eqControl, cControl, List.map_cons, List.map_nil, EVA, ↓reduceIte, Nat.reduceEqDiff, Nat.reduceMul, reduceCtorEq, Nat.reduceAdd, Nat.reduceSub, Nat.reduceLeDiff, Nat.reduceLT, Int.reduceToNat, Int.reduceLE, Int.reduceLT, mens, men]
  refine ite_of (fun hne => ?_) (fun heq0 => ?_)
  · have : ¬ x = y := fun e => (by rw [e] at hne; simp at hne)
    simp [this]
  refine ite_of (fun hne => ?_) (fun heq1 => ?_)
  · have : ¬ x = y := fun e => (by rw [e] at hne; simp at hne)
    simp [this]
  refine ite_of (fun hne => ?_) (fun heq2 => ?_)
  · have : ¬ x = y := fun e => (by rw [e] at hne; simp at hne)
    simp [this]
  have : x = y := by
    cases x; cases y; simp_all
  simp [this]
theorem g_eqControlS : chkF Go.Proofs.Tryz.prog fid_laws_eqControlS (eqSl 3 (some 3) fid_laws_eqControl) = true := by kernel_rfl
theorem sem_eqControlS (a b : (List TControl)) (ha : a.length ≤ 9223372036854775807) (ha2 : ∀ y ∈ a, bdControl 9223372036854775807 y) (lvl : Nat) (S : Sto) : Sem Go.Proofs.Tryz.prog fid_laws_eqControlS lvl [.tr (.sl (a.map cControl)), .tr (.sl (b.map cControl))] S (iB (decide (a = b))) S :=
  sem_eqSl g_eqControlS cControl (fun _ => rfl) a b ha (fun x hx y _ lvl S => sem_eqControl x y (ha2 x hx) lvl S) lvl S
end Go.Fd

/-
  WHAT HOLDS OF THE HELPERS OF THE LAWS: to.. (printed by lawgen.py). Own work.
-/
namespace Go.Fd
set_option maxRecDepth 20000
theorem g_toIntS : chkF Go.Proofs.Tryz.prog fid_laws_toIntS (toS1 (.int .i64 0)) = true := by kernel_rfl
theorem sem_toIntS (a : (List Int)) (ha : a.length ≤ 4294967296) (lvl : Nat) (S : Sto) : Sem Go.Proofs.Tryz.prog fid_laws_toIntS lvl [.tr (.sl (rI a))] S (.ow 1 (rI a) true) S := sem_toI g_toIntS a ha lvl S
theorem sem_toIntSS (a : (List (List Int))) (ha : a.length ≤ 4294967296) (hb : ∀ y ∈ a, y.length ≤ 4294967296) (lvl : Nat) (S : Sto) : Sem Go.Proofs.Tryz.prog fid_laws_toIntSS lvl [.tr (.sl (a.map (fun l => [Tr.sl (rI l)])))] S (.ow 1 (a.map (fun l => [Tr.sl (rI l)])) true) S := by
  refine sem_of_chk k_laws_toIntSS trivial ?_
  simp only [c_laws_toIntSS, List.length_map, bigN, Int.natCast_nonneg, EVA, ↓reduceIte, Nat.reduceEqDiff, Nat.reduceMul, reduceCtorEq, Nat.reduceAdd, Nat.reduceSub, Nat.reduceLeDiff, Nat.reduceLT, Int.reduceToNat, Int.reduceLE, Int.reduceLT, mens, men]
  refine ⟨by omega, ?_⟩
  refine wp_count (α := Unit) a.length (fun j _ => ⟨lvl, [(0, .tr (.sl (a.map (fun l => [Tr.sl (rI l)])))), (3, .hd (lvl, 224) [] 0 a.length none a.length), (4, iI j)], [(224, .ar 1 (filled (fun l => [Tr.sl (rI l)]) [.sl []] a j) true a.length (j * 1))], S⟩) (fun _ _ => True) () ⟨by simp only [EVA, ↓reduceIte, Nat.reduceEqDiff, Nat.reduceMul, reduceCtorEq, Nat.reduceAdd, Nat.reduceSub, Nat.reduceLeDiff, Nat.reduceLT, Int.reduceToNat, Int.reduceLE, Int.reduceLT, mens, men], by (simp only [filled_zero, EVA, ↓reduceIte, Nat.reduceEqDiff, Nat.reduceMul, reduceCtorEq, Nat.reduceAdd, Nat.reduceSub, Nat.reduceLeDiff, Nat.reduceLT, Int.reduceToNat, Int.reduceLE, Int.reduceLT, mens, men]) <;> rfl⟩ trivial ?_
  intro j _ hj _
  simp only [List.length_map, EVA, ↓reduceIte, Nat.reduceEqDiff, Nat.reduceMul, reduceCtorEq, Nat.reduceAdd, Nat.reduceSub, Nat.reduceLeDiff, Nat.reduceLT, Int.reduceToNat, Int.reduceLE, Int.reduceLT, mens, men]
  refine ite_of (fun hlt => ?_) (fun hge => ?_)
  · have hja : j < a.length := by omega
    have ga : (a.map (fun l => [Tr.sl (rI l)]))[j]? = some ((fun l => [Tr.sl (rI l)]) a[j]) := by simp [hja]
    have gz : (filled (fun l => [Tr.sl (rI l)]) [.sl []] a j)[j]? = some [.sl []] := filled_get hja
    have hfl : (filled (fun l => [Tr.sl (rI l)]) [.sl []] a j).length = a.length := filled_length hj
    have hsem := fun lvl S => sem_toIntS a[j] (hb a[j] (List.getElem_mem hja)) lvl S
    simp only [ga, gz, Int.natCast_nonneg, Nat.le_refl, hja, Nat.reduceLeDiff, EVA, ↓reduceIte, Nat.reduceEqDiff, Nat.reduceMul, reduceCtorEq, Nat.reduceAdd, Nat.reduceSub, Nat.reduceLT, Int.reduceToNat, Int.reduceLE, Int.reduceLT, mens, men]
    refine kca_intro hsem ?_
    simp only [gz, Int.natCast_nonneg, Nat.le_refl, hja, hfl, setp, List.getElem?_set_self, List.set_set, List.length_set, List.set_cons_zero, List.set_cons_succ, Prod.mk.injEq, ne_eq, not_false_eq_true, EVA, ↓reduceIte, Nat.reduceEqDiff, Nat.reduceMul, reduceCtorEq, Nat.reduceAdd, Nat.reduceSub, Nat.reduceLeDiff, Nat.reduceLT, Int.reduceToNat, Int.reduceLE, Int.reduceLT, mens, men]
    refine ⟨by rw [fits_i64]; omega, cntJ_intro () hja ?_ trivial⟩
    have hse := filled_set (c := (fun l => [Tr.sl (rI l)])) (z := [.sl []]) (e := [.sl (rI a[j])]) hja rfl
    rw [hse, show (j + 1) * 1 = j * 1 + 1 from by omega]
    rfl
  · have : j = a.length := by omega
    subst this
    rw [filled_all]
    simp
def oA2 (x : (Int × Int)) : IV := .ag [iI x.1, iI x.2]
theorem sem_toIntA2 (x : (Int × Int)) (lvl : Nat) (S : Sto) : Sem Go.Proofs.Tryz.prog fid_laws_toIntA2 lvl [.ag ((cA2 x).map .tr)] S (oA2 x) S := by
  refine sem_of_chk k_laws_toIntA2 (by simp [oA2, low, men, mens]) ?_
  simp only [c_laws_toIntA2, cA2, zfill, zobs, List.map_cons, List.map_nil, EVA, ↓reduceIte, Nat.reduceEqDiff, Nat.reduceMul, reduceCtorEq, Nat.reduceAdd, Nat.reduceSub, Nat.reduceLeDiff, Nat.reduceLT, Int.reduceToNat, Int.reduceLE, Int.reduceLT, mens, men]
  refine wp_count (α := Unit) 2 (fun j _ => ⟨lvl, [(1, .ta (cA2 x)), (2, .ab (lvl, 64) 0), (3, .ab (lvl, 96) 0), (4, iI j)], [(64, .bx [iI 0, iI 0]), (96, .bx ([iI x.1, iI x.2].take j ++ [iI 0, iI 0].drop j))], S⟩) (fun _ _ => True) () ⟨by simp only [EVA, ↓reduceIte, Nat.reduceEqDiff, Nat.reduceMul, reduceCtorEq, Nat.reduceAdd, Nat.reduceSub, Nat.reduceLeDiff, Nat.reduceLT, Int.reduceToNat, Int.reduceLE, Int.reduceLT, mens, men], by (simp only [EVA, ↓reduceIte, Nat.reduceEqDiff, Nat.reduceMul, reduceCtorEq, Nat.reduceAdd, Nat.reduceSub, Nat.reduceLeDiff, Nat.reduceLT, Int.reduceToNat, Int.reduceLE, Int.reduceLT, mens, men]) <;> rfl⟩ trivial ?_
  intro j _ hj _
  have hc : j = 0 ∨ j = 1 ∨ j = 2 := by omega
  rcases hc with rfl | rfl | rfl
  · simp only [cA2, Int.cast_ofNat_Int, Int.natCast_zero, Nat.zero_mul, Nat.one_mul, Nat.mul_one, r_setAt0, r_setAt1, List.set_cons_zero, List.set_cons_succ, EVA, ↓reduceIte, Nat.reduceEqDiff, Nat.reduceMul, reduceCtorEq, Nat.reduceAdd, Nat.reduceSub, Nat.reduceLeDiff, Nat.reduceLT, Int.reduceToNat, Int.reduceLE, Int.reduceLT, mens, men]
    exact ⟨by rw [fits_i64]; omega, cntJ_intro (N := 2) (k := 0) () (by omega) rfl trivial⟩
  · simp only [cA2, Int.cast_ofNat_Int, Int.natCast_zero, Nat.zero_mul, Nat.one_mul, Nat.mul_one, r_setAt0, r_setAt1, List.set_cons_zero, List.set_cons_succ, EVA, ↓reduceIte, Nat.reduceEqDiff, Nat.reduceMul, reduceCtorEq, Nat.reduceAdd, Nat.reduceSub, Nat.reduceLeDiff, Nat.reduceLT, Int.reduceToNat, Int.reduceLE, Int.reduceLT, mens, men]
    exact ⟨by rw [fits_i64]; omega, cntJ_intro (N := 2) (k := 1) () (by omega) rfl trivial⟩
  · simp only [cA2, Int.cast_ofNat_Int, r_setAt0, r_setAt1, List.set_cons_zero, List.set_cons_succ, EVA, ↓reduceIte, Nat.reduceEqDiff, Nat.reduceMul, reduceCtorEq, Nat.reduceAdd, Nat.reduceSub, Nat.reduceLeDiff, Nat.reduceLT, Int.reduceToNat, Int.reduceLE, Int.reduceLT, mens, men]
    rfl
theorem sem_toIntA2S (a : (List (Int × Int))) (ha : a.length ≤ 4294967296) (lvl : Nat) (S : Sto) : Sem Go.Proofs.Tryz.prog fid_laws_toIntA2S lvl [.tr (.sl (a.map cA2))] S (.ow 2 (a.map cA2) true) S := by
  refine sem_of_chk k_laws_toIntA2S trivial ?_
  simp only [c_laws_toIntA2S, List.length_map, bigN, Int.natCast_nonneg, EVA, ↓reduceIte, Nat.reduceEqDiff, Nat.reduceMul, reduceCtorEq, Nat.reduceAdd, Nat.reduceSub, Nat.reduceLeDiff, Nat.reduceLT, Int.reduceToNat, Int.reduceLE, Int.reduceLT, mens, men]
  refine ⟨by omega, ?_⟩
  refine wp_count (α := Unit) a.length (fun j _ => ⟨lvl, [(0, .tr (.sl (a.map cA2))), (3, .hd (lvl, 224) [] 0 a.length none a.length), (4, iI j)], [(224, .ar 2 (filled cA2 [tv 0, tv 0] a j) true a.length (j * 0))], S⟩) (fun _ _ => True) () ⟨by simp only [EVA, ↓reduceIte, Nat.reduceEqDiff, Nat.reduceMul, reduceCtorEq, Nat.reduceAdd, Nat.reduceSub, Nat.reduceLeDiff, Nat.reduceLT, Int.reduceToNat, Int.reduceLE, Int.reduceLT, mens, men], by (simp only [filled_zero, EVA, ↓reduceIte, Nat.reduceEqDiff, Nat.reduceMul, reduceCtorEq, Nat.reduceAdd, Nat.reduceSub, Nat.reduceLeDiff, Nat.reduceLT, Int.reduceToNat, Int.reduceLE, Int.reduceLT, mens, men]) <;> rfl⟩ trivial ?_
  intro j _ hj _
  simp only [List.length_map, EVA, ↓reduceIte, Nat.reduceEqDiff, Nat.reduceMul, reduceCtorEq, Nat.reduceAdd, Nat.reduceSub, Nat.reduceLeDiff, Nat.reduceLT, Int.reduceToNat, Int.reduceLE, Int.reduceLT, mens, men]
  refine ite_of (fun hlt => ?_) (fun hge => ?_)
  · have hja : j < a.length := by omega
    have ga : (a.map cA2)[j]? = some (cA2 a[j]) := by simp [hja]
    have gz : (filled cA2 [tv 0, tv 0] a j)[j]? = some [tv 0, tv 0] := filled_get hja
    have hfl : (filled cA2 [tv 0, tv 0] a j).length = a.length := filled_length hj
    have hsem := fun lvl S => sem_toIntA2 a[j] lvl S
    simp only [ga, gz, Int.natCast_nonneg, Nat.le_refl, hja, cA2, oA2, Nat.reduceLeDiff, EVA, ↓reduceIte, Nat.reduceEqDiff, Nat.reduceMul, reduceCtorEq, Nat.reduceAdd, Nat.reduceSub, Nat.reduceLT, Int.reduceToNat, Int.reduceLE, Int.reduceLT, mens, men]
    refine kca_intro hsem ?_
    simp only [oA2, gz, Int.natCast_nonneg, Nat.le_refl, hja, hfl, setp, List.getElem?_set_self, List.set_set, List.length_set, List.set_cons_zero, List.set_cons_succ, Prod.mk.injEq, ne_eq, not_false_eq_true, EVA, ↓reduceIte, Nat.reduceEqDiff, Nat.reduceMul, reduceCtorEq, Nat.reduceAdd, Nat.reduceSub, Nat.reduceLeDiff, Nat.reduceLT, Int.reduceToNat, Int.reduceLE, Int.reduceLT, mens, men]
    refine ⟨by rw [fits_i64]; omega, cntJ_intro () hja ?_ trivial⟩
    have hse := filled_set (c := cA2) (z := [tv 0, tv 0]) (e := [tv a[j].1, tv a[j].2]) hja rfl
    rw [hse, show (j + 1) * 0 = j * 0 from by omega]
    rfl
  · have : j = a.length := by omega
    subst this
    rw [filled_all]
    simp
theorem sem_toSorting (x : TSorting) (hb : bdSorting 4294967296 x) (lvl : Nat) (S : Sto) : Sem Go.Proofs.Tryz.prog fid_laws_toSorting lvl [.ag ((cSorting x).map .tr)] S (oSorting x) S := by
  obtain ⟨b0, b1, b2, b3, b4, b5, b6⟩ := hb
  refine sem_of_chk k_laws_toSorting (by simp [oSorting, low, men, mens]) ?_
  simp only [c_laws_toSorting, cSorting, zfill, zobs, List.map_cons, List.map_nil, r_setAt0, r_setAt1, List.set_cons_zero, List.set_cons_succ, EVA, ↓reduceIte, Nat.reduceEqDiff, Nat.reduceMul, reduceCtorEq, Nat.reduceAdd, Nat.reduceSub, Nat.reduceLeDiff, Nat.reduceLT, Int.reduceToNat, Int.reduceLE, Int.reduceLT, mens, men]
  refine kca_intro (sem_toIntS x.tops b0) ?_
  simp only [r_setAt0, r_setAt1, List.set_cons_zero, List.set_cons_succ, Prod.mk.injEq, EVA, ↓reduceIte, Nat.reduceEqDiff, Nat.reduceMul, reduceCtorEq, Nat.reduceAdd, Nat.reduceSub, Nat.reduceLeDiff, Nat.reduceLT, Int.reduceToNat, Int.reduceLE, Int.reduceLT, mens, men]
  refine kca_intro (sem_toIntSS x.nest b1 b2) ?_
  simp only [r_setAt0, r_setAt1, List.set_cons_zero, List.set_cons_succ, Prod.mk.injEq, EVA, ↓reduceIte, Nat.reduceEqDiff, Nat.reduceMul, reduceCtorEq, Nat.reduceAdd, Nat.reduceSub, Nat.reduceLeDiff, Nat.reduceLT, Int.reduceToNat, Int.reduceLE, Int.reduceLT, mens, men]
  refine kca_intro (sem_toIntSS x.sorts b3 b4) ?_
  simp only [r_setAt0, r_setAt1, List.set_cons_zero, List.set_cons_succ, Prod.mk.injEq, EVA, ↓reduceIte, Nat.reduceEqDiff, Nat.reduceMul, reduceCtorEq, Nat.reduceAdd, Nat.reduceSub, Nat.reduceLeDiff, Nat.reduceLT, Int.reduceToNat, Int.reduceLE, Int.reduceLT, mens, men]
  refine kca_intro (sem_toIntS x.most b5) ?_
  simp only [r_setAt0, r_setAt1, List.set_cons_zero, List.set_cons_succ, Prod.mk.injEq, EVA, ↓reduceIte, Nat.reduceEqDiff, Nat.reduceMul, reduceCtorEq, Nat.reduceAdd, Nat.reduceSub, Nat.reduceLeDiff, Nat.reduceLT, Int.reduceToNat, Int.reduceLE, Int.reduceLT, mens, men]
  refine kca_intro (sem_toIntA2S x.apart b6) ?_
  simp only [r_setAt0, r_setAt1, List.set_cons_zero, List.set_cons_succ, Prod.mk.injEq, EVA, ↓reduceIte, Nat.reduceEqDiff, Nat.reduceMul, reduceCtorEq, Nat.reduceAdd, Nat.reduceSub, Nat.reduceLeDiff, Nat.reduceLT, Int.reduceToNat, Int.reduceLE, Int.reduceLT, mens, men]
  rfl
theorem sem_toControl (x : TControl) (hb : bdControl 4294967296 x) (lvl : Nat) (S : Sto) : Sem Go.Proofs.Tryz.prog fid_laws_toControl lvl [.ag ((cControl x).map .tr)] S (oControl x) S := by
  have b0 : x.name.size ≤ 4294967296 := hb
  refine sem_of_chk k_laws_toControl (by simp [oControl, low, men, mens]) ?_
  simp only [c_laws_toControl, cControl, zfill, zobs, List.map_cons, List.map_nil, r_setAt0, r_setAt1, List.set_cons_zero, List.set_cons_succ, EVA, ↓reduceIte, Nat.reduceEqDiff, Nat.reduceMul, reduceCtorEq, Nat.reduceAdd, Nat.reduceSub, Nat.reduceLeDiff, Nat.reduceLT, Int.reduceToNat, Int.reduceLE, Int.reduceLT, mens, men]
  rfl
theorem sem_toControlS (a : (List TControl)) (ha : a.length ≤ 4294967296) (hb : ∀ y ∈ a, bdControl 4294967296 y) (lvl : Nat) (S : Sto) : Sem Go.Proofs.Tryz.prog fid_laws_toControlS lvl [.tr (.sl (a.map cControl))] S (.ow 3 (a.map cControl) true) S := by
  refine sem_of_chk k_laws_toControlS trivial ?_
  simp only [c_laws_toControlS, List.length_map, bigN, Int.natCast_nonneg, EVA, ↓reduceIte, Nat.reduceEqDiff, Nat.reduceMul, reduceCtorEq, Nat.reduceAdd, Nat.reduceSub, Nat.reduceLeDiff, Nat.reduceLT, Int.reduceToNat, Int.reduceLE, Int.reduceLT, mens, men]
  refine ⟨by omega, ?_⟩
  refine wp_count (α := Unit) a.length (fun j _ => ⟨lvl, [(0, .tr (.sl (a.map cControl))), (3, .hd (lvl, 224) [] 0 a.length none a.length), (4, iI j)], [(224, .ar 3 (filled cControl [ts ⟨#[]⟩, tv 0, tv 0] a j) true a.length (j * 0))], S⟩) (fun _ _ => True) () ⟨by simp only [EVA, ↓reduceIte, Nat.reduceEqDiff, Nat.reduceMul, reduceCtorEq, Nat.reduceAdd, Nat.reduceSub, Nat.reduceLeDiff, Nat.reduceLT, Int.reduceToNat, Int.reduceLE, Int.reduceLT, mens, men], by (simp only [filled_zero, EVA, ↓reduceIte, Nat.reduceEqDiff, Nat.reduceMul, reduceCtorEq, Nat.reduceAdd, Nat.reduceSub, Nat.reduceLeDiff, Nat.reduceLT, Int.reduceToNat, Int.reduceLE, Int.reduceLT, mens, men]) <;> rfl⟩ trivial ?_
  intro j _ hj _
  simp only [List.length_map, EVA, ↓reduceIte, Nat.reduceEqDiff, Nat.reduceMul, reduceCtorEq, Nat.reduceAdd, Nat.reduceSub, Nat.reduceLeDiff, Nat.reduceLT, Int.reduceToNat, Int.reduceLE, Int.reduceLT, mens, men]
  refine ite_of (fun hlt => ?_) (fun hge => ?_)
  · have hja : j < a.length := by omega
    have ga : (a.map cControl)[j]? = some (cControl a[j]) := by simp [hja]
    have gz : (filled cControl [ts ⟨#[]⟩, tv 0, tv 0] a j)[j]? = some [ts ⟨#[]⟩, tv 0, tv 0] := filled_get hja
    have hfl : (filled cControl [ts ⟨#[]⟩, tv 0, tv 0] a j).length = a.length := filled_length hj
    have hsem := fun lvl S => sem_toControl a[j] (hb a[j] (List.getElem_mem hja)) lvl S
    simp only [ga, gz, Int.natCast_nonneg, Nat.le_refl, hja, cControl, oControl, Nat.reduceLeDiff, EVA, ↓reduceIte, Nat.reduceEqDiff, Nat.reduceMul, reduceCtorEq, Nat.reduceAdd, Nat.reduceSub, Nat.reduceLT, Int.reduceToNat, Int.reduceLE, Int.reduceLT, mens, men]
    refine kca_intro hsem ?_
    simp only [oControl, gz, Int.natCast_nonneg, Nat.le_refl, hja, hfl, setp, List.getElem?_set_self, List.set_set, List.length_set, List.set_cons_zero, List.set_cons_succ, Prod.mk.injEq, ne_eq, not_false_eq_true, EVA, ↓reduceIte, Nat.reduceEqDiff, Nat.reduceMul, reduceCtorEq, Nat.reduceAdd, Nat.reduceSub, Nat.reduceLeDiff, Nat.reduceLT, Int.reduceToNat, Int.reduceLE, Int.reduceLT, mens, men]
    refine ⟨by rw [fits_i64]; omega, cntJ_intro () hja ?_ trivial⟩
    have hse := filled_set (c := cControl) (z := [ts ⟨#[]⟩, tv 0, tv 0]) (e := [ts a[j].name, tv a[j].ports, tv a[j].kind_]) hja rfl
    rw [hse, show (j + 1) * 0 = j * 0 from by omega]
    rfl
  · have : j = a.length := by omega
    subst this
    rw [filled_all]
    simp
end Go.Fd

/-
  THE FREE SORTING IS SMALL. Own work.
-/
namespace Go.Fd
end Go.Fd

/-
  WHAT THE LAW OF JoinOf LEANS ON. Own work.
-/
namespace Go.Fd
theorem nL_P : ∀ l : List A2, nL nIntA2 l = 2 * l.length
  | [] => rfl
  | x :: r => by
    simp only [nL, nIntA2, nL_P r, List.length_cons]
    omega
theorem ok_smallS {x : TSorting} (h : bdSorting 12 x) : bdSorting 4294967296 x ∧ 1 + (nSorting x : Int) ≤ 4611686018427387904 := by
  refine ⟨monoS (by omega) h, ?_⟩
  obtain ⟨b1, b2, b3, b4, b5, b6, b7⟩ := h
  have n1 := nL_IS (B := 12) x.nest b3
  have n2 := nL_IS (B := 12) x.sorts b5
  simp only [nSorting, nL_int, nL_P] at *
  omega
theorem zip_all {f : List Int → List Int → List Int} {a b : List (List Int)} {n : Nat} (h : ∀ k (h : k < a.length) (h2 : k < b.length), (f a[k] b[k]).length ≤ n) : ∀ y ∈ List.zipWith f a b, y.length ≤ n := fun y hy => by
  obtain ⟨k, hk, rfl⟩ := List.getElem_of_mem hy
  rw [List.length_zipWith] at hk
  rw [List.getElem_zipWith]
  exact h k (by omega) (by omega)
theorem ok_JoinOf (sig : List TControl) (s t : TSorting) (_hn : sig.length ≤ 4294967296) (_hbs : ∀ y ∈ sig, bdControl 4294967296 y) (_hs : bdSorting 4294967296 s) (_ht : bdSorting 4294967296 t) : bdSorting 4294967296 (r0_JoinOf sig s t) ∧ 1 + (nSorting (r0_JoinOf sig s t) : Int) ≤ 4611686018427387904 := by
  refine ok_smallS ?_
  unfold r0_JoinOf
  split
  · rename_i h
    have ms := small_of h.1
    have mt := small_of h.2.1
    have e1 := eithI_le (a := s.tops) (b := t.tops)
    obtain ⟨b1, b2, b3, b4, b5, b6, b7⟩ := ms
    obtain ⟨c1, c2, c3, c4, c5, c6, c7⟩ := mt
    exact ⟨by simp only; omega, by simp only [List.length_zipWith]; omega, zip_all fun k h h2 => by
      have := eithI_le (a := s.nest[k]) (b := t.nest[k])
      have := b3 _ (List.getElem_mem h)
      have := c3 _ (List.getElem_mem h2)
      omega, by simp only; omega, fun y hy => by have := b5 y hy; omega, by simp only [List.length_zipWith]; omega, Nat.le_trans (List.length_filter_le ..) (by omega)⟩
  · exact ⟨by simp [emptyS], by simp [emptyS], by simp [emptyS], by simp [emptyS], by simp [emptyS], by simp [emptyS], by simp [emptyS]⟩
end Go.Fd

/-
  THE LAW OF JoinOf (printed by lawtext.py). Own work.
-/
namespace Go.Fd
set_option maxRecDepth 20000
set_option maxHeartbeats 1000000 in
theorem sem_FnExactJoinOf (x0 : (List TControl)) (x1 : TSorting) (x2 : TSorting) (hb0_0 : x0.length ≤ 9223372036854775807) (hb0_1 : ∀ y ∈ x0, bdControl 9223372036854775807 y) (hb1_0 : bdSorting 9223372036854775807 x1) (hb2_0 : bdSorting 9223372036854775807 x2) (lvl : Nat) (S : Sto) : Sem Go.Proofs.Tryz.prog fid_laws_FnExactJoinOf lvl [.tr (.sl (x0.map cControl)), .ag ((cSorting x1).map .tr), .ag ((cSorting x2).map .tr)] S (iB true) S := by
  refine sem_of_chk k_laws_FnExactJoinOf trivial ?_
  simp only [c_laws_FnExactJoinOf, List.length_map, cut_map, cut_mL, mL_length, ne_eq, not_true_eq_false, bne_self_eq_false, cSorting, oSorting, EVA, ↓reduceIte, Nat.reduceEqDiff, Nat.reduceMul, reduceCtorEq, Nat.reduceAdd, Nat.reduceSub, Nat.reduceLeDiff, Nat.reduceLT, Int.reduceToNat, Int.reduceLE, Int.reduceLT, mens, men]
  have ul : (1048576 : Int) ≤ 1048576 := Int.le_refl _
  obtain ⟨_, ha0⟩ := sem_szControlS x0 hb0_0 hb0_1 (1048576) (by omega) (by omega)
  refine kca_intro ha0 ?_
  simp only [List.length_map, cut_map, cut_mL, mL_length, ne_eq, not_true_eq_false, bne_self_eq_false, cSorting, oSorting, EVA, ↓reduceIte, Nat.reduceEqDiff, Nat.reduceMul, reduceCtorEq, Nat.reduceAdd, Nat.reduceSub, Nat.reduceLeDiff, Nat.reduceLT, Int.reduceToNat, Int.reduceLE, Int.reduceLT, mens, men]
  refine ite_of (fun _ => trivial) (fun hz0 => ?_)
  have zp0 := (Zm_L (f := szControl) (fun y => (zpControl y)) x0) (1048576) (by omega) (by omega)
  have zq0 := (Zq_L (f := szControl) (n := nControl) (fun y => Zq_imp (zqControl y) (by omega)) x0) (1048576) (by omega) (by omega)
  simp only at zp0 zq0
  have hp0 := zp0.2 (by omega)
  have hq0 := zq0.2 (by omega)
  obtain ⟨hs0_0, hs0_1⟩ := hp0
  obtain ⟨_, ha1⟩ := sem_szSorting x1 hb1_0 (szL szControl x0 (1048576)) (by omega) (by omega)
  refine kca_intro ha1 ?_
  simp only [List.length_map, cut_map, cut_mL, mL_length, ne_eq, not_true_eq_false, bne_self_eq_false, cSorting, oSorting, EVA, ↓reduceIte, Nat.reduceEqDiff, Nat.reduceMul, reduceCtorEq, Nat.reduceAdd, Nat.reduceSub, Nat.reduceLeDiff, Nat.reduceLT, Int.reduceToNat, Int.reduceLE, Int.reduceLT, mens, men]
  refine ite_of (fun _ => trivial) (fun hz1 => ?_)
  have zp1 := (zpSorting x1) (szL szControl x0 (1048576)) (by omega) (by omega)
  have zq1 := (zqSorting x1) (szL szControl x0 (1048576)) (by omega) (by omega)
  simp only at zp1 zq1
  have hp1 := zp1.2 (by omega)
  have hq1 := zq1.2 (by omega)
  have hs1_0 := hp1
  obtain ⟨_, ha2⟩ := sem_szSorting x2 hb2_0 (szSorting x1 (szL szControl x0 (1048576))) (by omega) (by omega)
  refine kca_intro ha2 ?_
  simp only [List.length_map, cut_map, cut_mL, mL_length, ne_eq, not_true_eq_false, bne_self_eq_false, cSorting, oSorting, EVA, ↓reduceIte, Nat.reduceEqDiff, Nat.reduceMul, reduceCtorEq, Nat.reduceAdd, Nat.reduceSub, Nat.reduceLeDiff, Nat.reduceLT, Int.reduceToNat, Int.reduceLE, Int.reduceLT, mens, men]
  refine ite_of (fun _ => trivial) (fun hz2 => ?_)
  have zp2 := (zpSorting x2) (szSorting x1 (szL szControl x0 (1048576))) (by omega) (by omega)
  have zq2 := (zqSorting x2) (szSorting x1 (szL szControl x0 (1048576))) (by omega) (by omega)
  simp only at zp2 zq2
  have hp2 := zp2.2 (by omega)
  have hq2 := zq2.2 (by omega)
  have hs2_0 := hp2
  refine kca_intro (sem_toControlS x0 hs0_0 hs0_1) ?_
  simp only [List.length_map, cut_map, cut_mL, mL_length, ne_eq, not_true_eq_false, bne_self_eq_false, cSorting, oSorting, EVA, ↓reduceIte, Nat.reduceEqDiff, Nat.reduceMul, reduceCtorEq, Nat.reduceAdd, Nat.reduceSub, Nat.reduceLeDiff, Nat.reduceLT, Int.reduceToNat, Int.reduceLE, Int.reduceLT, mens, men]
  refine kca_intro (sem_toSorting x1 hs1_0) ?_
  simp only [List.length_map, cut_map, cut_mL, mL_length, ne_eq, not_true_eq_false, bne_self_eq_false, cSorting, oSorting, EVA, ↓reduceIte, Nat.reduceEqDiff, Nat.reduceMul, reduceCtorEq, Nat.reduceAdd, Nat.reduceSub, Nat.reduceLeDiff, Nat.reduceLT, Int.reduceToNat, Int.reduceLE, Int.reduceLT, mens, men]
  refine kca_intro (sem_toSorting x2 hs2_0) ?_
  simp only [List.length_map, cut_map, cut_mL, mL_length, ne_eq, not_true_eq_false, bne_self_eq_false, cSorting, oSorting, EVA, ↓reduceIte, Nat.reduceEqDiff, Nat.reduceMul, reduceCtorEq, Nat.reduceAdd, Nat.reduceSub, Nat.reduceLeDiff, Nat.reduceLT, Int.reduceToNat, Int.reduceLE, Int.reduceLT, mens, men]
  by_cases hB : bothS x0 x1 x2
  · refine kca_intro (sem_spec_JoinOf_y x0 x1 x2 hs0_0 hs0_1 hs1_0 hs2_0 hB) ?_
    simp only [List.length_map, cut_map, cut_mL, mL_length, ne_eq, not_true_eq_false, bne_self_eq_false, cSorting, oSorting, EVA, ↓reduceIte, Nat.reduceEqDiff, Nat.reduceMul, reduceCtorEq, Nat.reduceAdd, Nat.reduceSub, Nat.reduceLeDiff, Nat.reduceLT, Int.reduceToNat, Int.reduceLE, Int.reduceLT, mens, men]
    refine kca_intro (sem_toControlS x0 hs0_0 hs0_1) ?_
    simp only [List.length_map, cut_map, cut_mL, mL_length, ne_eq, not_true_eq_false, bne_self_eq_false, cSorting, oSorting, EVA, ↓reduceIte, Nat.reduceEqDiff, Nat.reduceMul, reduceCtorEq, Nat.reduceAdd, Nat.reduceSub, Nat.reduceLeDiff, Nat.reduceLT, Int.reduceToNat, Int.reduceLE, Int.reduceLT, mens, men]
    refine kca_intro (sem_toSorting x1 hs1_0) ?_
    simp only [List.length_map, cut_map, cut_mL, mL_length, ne_eq, not_true_eq_false, bne_self_eq_false, cSorting, oSorting, EVA, ↓reduceIte, Nat.reduceEqDiff, Nat.reduceMul, reduceCtorEq, Nat.reduceAdd, Nat.reduceSub, Nat.reduceLeDiff, Nat.reduceLT, Int.reduceToNat, Int.reduceLE, Int.reduceLT, mens, men]
    refine kca_intro (sem_toSorting x2 hs2_0) ?_
    simp only [List.length_map, cut_map, cut_mL, mL_length, ne_eq, not_true_eq_false, bne_self_eq_false, cSorting, oSorting, EVA, ↓reduceIte, Nat.reduceEqDiff, Nat.reduceMul, reduceCtorEq, Nat.reduceAdd, Nat.reduceSub, Nat.reduceLeDiff, Nat.reduceLT, Int.reduceToNat, Int.reduceLE, Int.reduceLT, mens, men]
    refine kca_intro (sem_impl_JoinOf x0 x1 x2 hs0_0 hs0_1 hs1_0 hs2_0) ?_
    simp only [List.length_map, cut_map, cut_mL, mL_length, ne_eq, not_true_eq_false, bne_self_eq_false, cSorting, oSorting, EVA, ↓reduceIte, Nat.reduceEqDiff, Nat.reduceMul, reduceCtorEq, Nat.reduceAdd, Nat.reduceSub, Nat.reduceLeDiff, Nat.reduceLT, Int.reduceToNat, Int.reduceLE, Int.reduceLT, mens, men]
    obtain ⟨hr0_0, hrn⟩ := ok_JoinOf x0 x1 x2 hs0_0 hs0_1 hs1_0 hs2_0
    refine kca_intro (sem_eqSorting (r0_JoinOf x0 x1 x2) (r0_JoinOf x0 x1 x2) (monoSorting hr0_0)) ?_
    simp only [List.length_map, cut_map, cut_mL, mL_length, ne_eq, not_true_eq_false, bne_self_eq_false, cSorting, oSorting, EVA, ↓reduceIte, Nat.reduceEqDiff, Nat.reduceMul, reduceCtorEq, Nat.reduceAdd, Nat.reduceSub, Nat.reduceLeDiff, Nat.reduceLT, Int.reduceToNat, Int.reduceLE, Int.reduceLT, mens, men]
    refine kca_intro (sem_toControlS x0 hs0_0 hs0_1) ?_
    simp only [List.length_map, cut_map, cut_mL, mL_length, ne_eq, not_true_eq_false, bne_self_eq_false, cSorting, oSorting, EVA, ↓reduceIte, Nat.reduceEqDiff, Nat.reduceMul, reduceCtorEq, Nat.reduceAdd, Nat.reduceSub, Nat.reduceLeDiff, Nat.reduceLT, Int.reduceToNat, Int.reduceLE, Int.reduceLT, mens, men]
    refine kca_intro (sem_eqControlS x0 x0 hb0_0 hb0_1) ?_
    simp only [List.length_map, cut_map, cut_mL, mL_length, ne_eq, not_true_eq_false, bne_self_eq_false, cSorting, oSorting, EVA, ↓reduceIte, Nat.reduceEqDiff, Nat.reduceMul, reduceCtorEq, Nat.reduceAdd, Nat.reduceSub, Nat.reduceLeDiff, Nat.reduceLT, Int.reduceToNat, Int.reduceLE, Int.reduceLT, mens, men]
    refine kca_intro (sem_toSorting x1 hs1_0) ?_
    simp only [List.length_map, cut_map, cut_mL, mL_length, ne_eq, not_true_eq_false, bne_self_eq_false, cSorting, oSorting, EVA, ↓reduceIte, Nat.reduceEqDiff, Nat.reduceMul, reduceCtorEq, Nat.reduceAdd, Nat.reduceSub, Nat.reduceLeDiff, Nat.reduceLT, Int.reduceToNat, Int.reduceLE, Int.reduceLT, mens, men]
    refine kca_intro (sem_eqSorting x1 x1 hb1_0) ?_
    simp only [List.length_map, cut_map, cut_mL, mL_length, ne_eq, not_true_eq_false, bne_self_eq_false, cSorting, oSorting, EVA, ↓reduceIte, Nat.reduceEqDiff, Nat.reduceMul, reduceCtorEq, Nat.reduceAdd, Nat.reduceSub, Nat.reduceLeDiff, Nat.reduceLT, Int.reduceToNat, Int.reduceLE, Int.reduceLT, mens, men]
    refine kca_intro (sem_toSorting x2 hs2_0) ?_
    simp only [List.length_map, cut_map, cut_mL, mL_length, ne_eq, not_true_eq_false, bne_self_eq_false, cSorting, oSorting, EVA, ↓reduceIte, Nat.reduceEqDiff, Nat.reduceMul, reduceCtorEq, Nat.reduceAdd, Nat.reduceSub, Nat.reduceLeDiff, Nat.reduceLT, Int.reduceToNat, Int.reduceLE, Int.reduceLT, mens, men]
    refine kca_intro (sem_eqSorting x2 x2 hb2_0) ?_
    simp only [List.length_map, cut_map, cut_mL, mL_length, ne_eq, not_true_eq_false, bne_self_eq_false, cSorting, oSorting, EVA, ↓reduceIte, Nat.reduceEqDiff, Nat.reduceMul, reduceCtorEq, Nat.reduceAdd, Nat.reduceSub, Nat.reduceLeDiff, Nat.reduceLT, Int.reduceToNat, Int.reduceLE, Int.reduceLT, mens, men]
    simp only [arg1]
    refine kcy_mark1 mark_ControlS (a := x0) rfl (by omega) (by omega) hs0_0 hs0_1 ?_
    simp only [List.length_map, cut_map, cut_mL, mL_length, ne_eq, not_true_eq_false, bne_self_eq_false, cSorting, oSorting, EVA, ↓reduceIte, Nat.reduceEqDiff, Nat.reduceMul, reduceCtorEq, Nat.reduceAdd, Nat.reduceSub, Nat.reduceLeDiff, Nat.reduceLT, Int.reduceToNat, Int.reduceLE, Int.reduceLT, mens, men]
    simp only [arg1]
    refine kcy_markSorting (x := x1) (by decide) (by decide) (by decide) (by decide) (by decide) (by decide) (by decide) (by decide) (by decide) (by decide) rfl rfl rfl rfl rfl (by omega) (by omega) hs1_0 ?_
    simp only [List.length_map, cut_map, cut_mL, mL_length, ne_eq, not_true_eq_false, bne_self_eq_false, cSorting, oSorting, EVA, ↓reduceIte, Nat.reduceEqDiff, Nat.reduceMul, reduceCtorEq, Nat.reduceAdd, Nat.reduceSub, Nat.reduceLeDiff, Nat.reduceLT, Int.reduceToNat, Int.reduceLE, Int.reduceLT, mens, men]
    simp only [arg1]
    refine kcy_markSorting (x := x2) (by decide) (by decide) (by decide) (by decide) (by decide) (by decide) (by decide) (by decide) (by decide) (by decide) rfl rfl rfl rfl rfl (by omega) (by omega) hs2_0 ?_
    simp only [List.length_map, cut_map, cut_mL, mL_length, ne_eq, not_true_eq_false, bne_self_eq_false, cSorting, oSorting, EVA, ↓reduceIte, Nat.reduceEqDiff, Nat.reduceMul, reduceCtorEq, Nat.reduceAdd, Nat.reduceSub, Nat.reduceLeDiff, Nat.reduceLT, Int.reduceToNat, Int.reduceLE, Int.reduceLT, mens, men]
    have hk0 : ¬ (1 + (nL nControl x0 : Nat) + (nSorting x1 : Nat) + (nSorting x2 : Nat) < (0 : Int)) := by omega
    simp only [hk0, List.length_map, cut_map, cut_mL, mL_length, ne_eq, not_true_eq_false, bne_self_eq_false, cSorting, oSorting, EVA, ↓reduceIte, Nat.reduceEqDiff, Nat.reduceMul, reduceCtorEq, Nat.reduceAdd, Nat.reduceSub, Nat.reduceLeDiff, Nat.reduceLT, Int.reduceToNat, Int.reduceLE, Int.reduceLT, mens, men]
    refine kca_intro (sem_eqSorting (r0_JoinOf x0 x1 x2) (r0_JoinOf x0 x1 x2) (monoSorting hr0_0)) ?_
    simp only [List.length_map, cut_map, cut_mL, mL_length, ne_eq, not_true_eq_false, bne_self_eq_false, cSorting, oSorting, EVA, ↓reduceIte, Nat.reduceEqDiff, Nat.reduceMul, reduceCtorEq, Nat.reduceAdd, Nat.reduceSub, Nat.reduceLeDiff, Nat.reduceLT, Int.reduceToNat, Int.reduceLE, Int.reduceLT, mens, men]
    simp only [arg1]
    refine kcy_markSorting (x := (r0_JoinOf x0 x1 x2)) (by decide) (by decide) (by decide) (by decide) (by decide) (by decide) (by decide) (by decide) (by decide) (by decide) rfl rfl rfl rfl rfl (by omega) (by omega) hr0_0 ?_
    simp only [List.length_map, cut_map, cut_mL, mL_length, ne_eq, not_true_eq_false, bne_self_eq_false, cSorting, oSorting, EVA, ↓reduceIte, Nat.reduceEqDiff, Nat.reduceMul, reduceCtorEq, Nat.reduceAdd, Nat.reduceSub, Nat.reduceLeDiff, Nat.reduceLT, Int.reduceToNat, Int.reduceLE, Int.reduceLT, mens, men]
    refine kca_intro (held_Sorting (r0_JoinOf x0 x1 x2) (1) hr0_0 (by omega) (by omega)) ?_
    have hh0 : ¬ (1 + (nSorting (r0_JoinOf x0 x1 x2) : Nat) < (0 : Int)) := by omega
    simp only [hh0, List.length_map, cut_map, cut_mL, mL_length, ne_eq, not_true_eq_false, bne_self_eq_false, cSorting, oSorting, EVA, ↓reduceIte, Nat.reduceEqDiff, Nat.reduceMul, reduceCtorEq, Nat.reduceAdd, Nat.reduceSub, Nat.reduceLeDiff, Nat.reduceLT, Int.reduceToNat, Int.reduceLE, Int.reduceLT, mens, men]
    refine kca_intro (sem_toControlS x0 hs0_0 hs0_1) ?_
    simp only [List.length_map, cut_map, cut_mL, mL_length, ne_eq, not_true_eq_false, bne_self_eq_false, cSorting, oSorting, EVA, ↓reduceIte, Nat.reduceEqDiff, Nat.reduceMul, reduceCtorEq, Nat.reduceAdd, Nat.reduceSub, Nat.reduceLeDiff, Nat.reduceLT, Int.reduceToNat, Int.reduceLE, Int.reduceLT, mens, men]
    refine kca_intro (sem_toSorting x1 hs1_0) ?_
    simp only [List.length_map, cut_map, cut_mL, mL_length, ne_eq, not_true_eq_false, bne_self_eq_false, cSorting, oSorting, EVA, ↓reduceIte, Nat.reduceEqDiff, Nat.reduceMul, reduceCtorEq, Nat.reduceAdd, Nat.reduceSub, Nat.reduceLeDiff, Nat.reduceLT, Int.reduceToNat, Int.reduceLE, Int.reduceLT, mens, men]
    refine kca_intro (sem_toSorting x2 hs2_0) ?_
    simp only [List.length_map, cut_map, cut_mL, mL_length, ne_eq, not_true_eq_false, bne_self_eq_false, cSorting, oSorting, EVA, ↓reduceIte, Nat.reduceEqDiff, Nat.reduceMul, reduceCtorEq, Nat.reduceAdd, Nat.reduceSub, Nat.reduceLeDiff, Nat.reduceLT, Int.reduceToNat, Int.reduceLE, Int.reduceLT, mens, men]
    refine kca_intro (sem_impl_JoinOf x0 x1 x2 hs0_0 hs0_1 hs1_0 hs2_0) ?_
    simp only [List.length_map, cut_map, cut_mL, mL_length, ne_eq, not_true_eq_false, bne_self_eq_false, cSorting, oSorting, EVA, ↓reduceIte, Nat.reduceEqDiff, Nat.reduceMul, reduceCtorEq, Nat.reduceAdd, Nat.reduceSub, Nat.reduceLeDiff, Nat.reduceLT, Int.reduceToNat, Int.reduceLE, Int.reduceLT, mens, men]
    refine kca_intro (sem_eqSorting (r0_JoinOf x0 x1 x2) (r0_JoinOf x0 x1 x2) (monoSorting hr0_0)) ?_
    simp only [List.length_map, cut_map, cut_mL, mL_length, ne_eq, not_true_eq_false, bne_self_eq_false, cSorting, oSorting, EVA, ↓reduceIte, Nat.reduceEqDiff, Nat.reduceMul, reduceCtorEq, Nat.reduceAdd, Nat.reduceSub, Nat.reduceLeDiff, Nat.reduceLT, Int.reduceToNat, Int.reduceLE, Int.reduceLT, mens, men]
    refine kca_intro (held_Sorting (r0_JoinOf x0 x1 x2) (1) hr0_0 (by omega) (by omega)) ?_
    have hh0 : ¬ (1 + (nSorting (r0_JoinOf x0 x1 x2) : Nat) < (0 : Int)) := by omega
    simp only [hh0, List.length_map, cut_map, cut_mL, mL_length, ne_eq, not_true_eq_false, bne_self_eq_false, cSorting, oSorting, EVA, ↓reduceIte, Nat.reduceEqDiff, Nat.reduceMul, reduceCtorEq, Nat.reduceAdd, Nat.reduceSub, Nat.reduceLeDiff, Nat.reduceLT, Int.reduceToNat, Int.reduceLE, Int.reduceLT, mens, men]
  · refine kca_intro (sem_spec_JoinOf_n x0 x1 x2 hs0_0 hs0_1 hs1_0 hs2_0 hB) ?_
    simp only [List.length_map, cut_map, cut_mL, mL_length, ne_eq, not_true_eq_false, bne_self_eq_false, cSorting, oSorting, EVA, ↓reduceIte, Nat.reduceEqDiff, Nat.reduceMul, reduceCtorEq, Nat.reduceAdd, Nat.reduceSub, Nat.reduceLeDiff, Nat.reduceLT, Int.reduceToNat, Int.reduceLE, Int.reduceLT, mens, men]
    refine kca_intro (sem_toControlS x0 hs0_0 hs0_1) ?_
    simp only [List.length_map, cut_map, cut_mL, mL_length, ne_eq, not_true_eq_false, bne_self_eq_false, cSorting, oSorting, EVA, ↓reduceIte, Nat.reduceEqDiff, Nat.reduceMul, reduceCtorEq, Nat.reduceAdd, Nat.reduceSub, Nat.reduceLeDiff, Nat.reduceLT, Int.reduceToNat, Int.reduceLE, Int.reduceLT, mens, men]
    refine kca_intro (sem_toSorting x1 hs1_0) ?_
    simp only [List.length_map, cut_map, cut_mL, mL_length, ne_eq, not_true_eq_false, bne_self_eq_false, cSorting, oSorting, EVA, ↓reduceIte, Nat.reduceEqDiff, Nat.reduceMul, reduceCtorEq, Nat.reduceAdd, Nat.reduceSub, Nat.reduceLeDiff, Nat.reduceLT, Int.reduceToNat, Int.reduceLE, Int.reduceLT, mens, men]
    refine kca_intro (sem_toSorting x2 hs2_0) ?_
    simp only [List.length_map, cut_map, cut_mL, mL_length, ne_eq, not_true_eq_false, bne_self_eq_false, cSorting, oSorting, EVA, ↓reduceIte, Nat.reduceEqDiff, Nat.reduceMul, reduceCtorEq, Nat.reduceAdd, Nat.reduceSub, Nat.reduceLeDiff, Nat.reduceLT, Int.reduceToNat, Int.reduceLE, Int.reduceLT, mens, men]
    refine kca_intro (sem_impl_JoinOf x0 x1 x2 hs0_0 hs0_1 hs1_0 hs2_0) ?_
    simp only [List.length_map, cut_map, cut_mL, mL_length, ne_eq, not_true_eq_false, bne_self_eq_false, cSorting, oSorting, EVA, ↓reduceIte, Nat.reduceEqDiff, Nat.reduceMul, reduceCtorEq, Nat.reduceAdd, Nat.reduceSub, Nat.reduceLeDiff, Nat.reduceLT, Int.reduceToNat, Int.reduceLE, Int.reduceLT, mens, men]
    obtain ⟨hr0_0, hrn⟩ := ok_JoinOf x0 x1 x2 hs0_0 hs0_1 hs1_0 hs2_0
    refine kca_intro (sem_eqSorting (r0_JoinOf x0 x1 x2) (r0_JoinOf x0 x1 x2) (monoSorting hr0_0)) ?_
    simp only [List.length_map, cut_map, cut_mL, mL_length, ne_eq, not_true_eq_false, bne_self_eq_false, cSorting, oSorting, EVA, ↓reduceIte, Nat.reduceEqDiff, Nat.reduceMul, reduceCtorEq, Nat.reduceAdd, Nat.reduceSub, Nat.reduceLeDiff, Nat.reduceLT, Int.reduceToNat, Int.reduceLE, Int.reduceLT, mens, men]
    refine kca_intro (sem_toControlS x0 hs0_0 hs0_1) ?_
    simp only [List.length_map, cut_map, cut_mL, mL_length, ne_eq, not_true_eq_false, bne_self_eq_false, cSorting, oSorting, EVA, ↓reduceIte, Nat.reduceEqDiff, Nat.reduceMul, reduceCtorEq, Nat.reduceAdd, Nat.reduceSub, Nat.reduceLeDiff, Nat.reduceLT, Int.reduceToNat, Int.reduceLE, Int.reduceLT, mens, men]
    refine kca_intro (sem_eqControlS x0 x0 hb0_0 hb0_1) ?_
    simp only [List.length_map, cut_map, cut_mL, mL_length, ne_eq, not_true_eq_false, bne_self_eq_false, cSorting, oSorting, EVA, ↓reduceIte, Nat.reduceEqDiff, Nat.reduceMul, reduceCtorEq, Nat.reduceAdd, Nat.reduceSub, Nat.reduceLeDiff, Nat.reduceLT, Int.reduceToNat, Int.reduceLE, Int.reduceLT, mens, men]
    refine kca_intro (sem_toSorting x1 hs1_0) ?_
    simp only [List.length_map, cut_map, cut_mL, mL_length, ne_eq, not_true_eq_false, bne_self_eq_false, cSorting, oSorting, EVA, ↓reduceIte, Nat.reduceEqDiff, Nat.reduceMul, reduceCtorEq, Nat.reduceAdd, Nat.reduceSub, Nat.reduceLeDiff, Nat.reduceLT, Int.reduceToNat, Int.reduceLE, Int.reduceLT, mens, men]
    refine kca_intro (sem_eqSorting x1 x1 hb1_0) ?_
    simp only [List.length_map, cut_map, cut_mL, mL_length, ne_eq, not_true_eq_false, bne_self_eq_false, cSorting, oSorting, EVA, ↓reduceIte, Nat.reduceEqDiff, Nat.reduceMul, reduceCtorEq, Nat.reduceAdd, Nat.reduceSub, Nat.reduceLeDiff, Nat.reduceLT, Int.reduceToNat, Int.reduceLE, Int.reduceLT, mens, men]
    refine kca_intro (sem_toSorting x2 hs2_0) ?_
    simp only [List.length_map, cut_map, cut_mL, mL_length, ne_eq, not_true_eq_false, bne_self_eq_false, cSorting, oSorting, EVA, ↓reduceIte, Nat.reduceEqDiff, Nat.reduceMul, reduceCtorEq, Nat.reduceAdd, Nat.reduceSub, Nat.reduceLeDiff, Nat.reduceLT, Int.reduceToNat, Int.reduceLE, Int.reduceLT, mens, men]
    refine kca_intro (sem_eqSorting x2 x2 hb2_0) ?_
    simp only [List.length_map, cut_map, cut_mL, mL_length, ne_eq, not_true_eq_false, bne_self_eq_false, cSorting, oSorting, EVA, ↓reduceIte, Nat.reduceEqDiff, Nat.reduceMul, reduceCtorEq, Nat.reduceAdd, Nat.reduceSub, Nat.reduceLeDiff, Nat.reduceLT, Int.reduceToNat, Int.reduceLE, Int.reduceLT, mens, men]
    simp only [arg1]
    refine kcy_mark1 mark_ControlS (a := x0) rfl (by omega) (by omega) hs0_0 hs0_1 ?_
    simp only [List.length_map, cut_map, cut_mL, mL_length, ne_eq, not_true_eq_false, bne_self_eq_false, cSorting, oSorting, EVA, ↓reduceIte, Nat.reduceEqDiff, Nat.reduceMul, reduceCtorEq, Nat.reduceAdd, Nat.reduceSub, Nat.reduceLeDiff, Nat.reduceLT, Int.reduceToNat, Int.reduceLE, Int.reduceLT, mens, men]
    simp only [arg1]
    refine kcy_markSorting (x := x1) (by decide) (by decide) (by decide) (by decide) (by decide) (by decide) (by decide) (by decide) (by decide) (by decide) rfl rfl rfl rfl rfl (by omega) (by omega) hs1_0 ?_
    simp only [List.length_map, cut_map, cut_mL, mL_length, ne_eq, not_true_eq_false, bne_self_eq_false, cSorting, oSorting, EVA, ↓reduceIte, Nat.reduceEqDiff, Nat.reduceMul, reduceCtorEq, Nat.reduceAdd, Nat.reduceSub, Nat.reduceLeDiff, Nat.reduceLT, Int.reduceToNat, Int.reduceLE, Int.reduceLT, mens, men]
    simp only [arg1]
    refine kcy_markSorting (x := x2) (by decide) (by decide) (by decide) (by decide) (by decide) (by decide) (by decide) (by decide) (by decide) (by decide) rfl rfl rfl rfl rfl (by omega) (by omega) hs2_0 ?_
    simp only [List.length_map, cut_map, cut_mL, mL_length, ne_eq, not_true_eq_false, bne_self_eq_false, cSorting, oSorting, EVA, ↓reduceIte, Nat.reduceEqDiff, Nat.reduceMul, reduceCtorEq, Nat.reduceAdd, Nat.reduceSub, Nat.reduceLeDiff, Nat.reduceLT, Int.reduceToNat, Int.reduceLE, Int.reduceLT, mens, men]
    have hk0 : ¬ (1 + (nL nControl x0 : Nat) + (nSorting x1 : Nat) + (nSorting x2 : Nat) < (0 : Int)) := by omega
    simp only [hk0, List.length_map, cut_map, cut_mL, mL_length, ne_eq, not_true_eq_false, bne_self_eq_false, cSorting, oSorting, EVA, ↓reduceIte, Nat.reduceEqDiff, Nat.reduceMul, reduceCtorEq, Nat.reduceAdd, Nat.reduceSub, Nat.reduceLeDiff, Nat.reduceLT, Int.reduceToNat, Int.reduceLE, Int.reduceLT, mens, men]
    refine kca_intro (sem_eqSorting (r0_JoinOf x0 x1 x2) (r0_JoinOf x0 x1 x2) (monoSorting hr0_0)) ?_
    simp only [List.length_map, cut_map, cut_mL, mL_length, ne_eq, not_true_eq_false, bne_self_eq_false, cSorting, oSorting, EVA, ↓reduceIte, Nat.reduceEqDiff, Nat.reduceMul, reduceCtorEq, Nat.reduceAdd, Nat.reduceSub, Nat.reduceLeDiff, Nat.reduceLT, Int.reduceToNat, Int.reduceLE, Int.reduceLT, mens, men]
    simp only [arg1]
    refine kcy_markSorting (x := (r0_JoinOf x0 x1 x2)) (by decide) (by decide) (by decide) (by decide) (by decide) (by decide) (by decide) (by decide) (by decide) (by decide) rfl rfl rfl rfl rfl (by omega) (by omega) hr0_0 ?_
    simp only [List.length_map, cut_map, cut_mL, mL_length, ne_eq, not_true_eq_false, bne_self_eq_false, cSorting, oSorting, EVA, ↓reduceIte, Nat.reduceEqDiff, Nat.reduceMul, reduceCtorEq, Nat.reduceAdd, Nat.reduceSub, Nat.reduceLeDiff, Nat.reduceLT, Int.reduceToNat, Int.reduceLE, Int.reduceLT, mens, men]
    refine kca_intro (held_Sorting (r0_JoinOf x0 x1 x2) (1) hr0_0 (by omega) (by omega)) ?_
    have hh0 : ¬ (1 + (nSorting (r0_JoinOf x0 x1 x2) : Nat) < (0 : Int)) := by omega
    simp only [hh0, List.length_map, cut_map, cut_mL, mL_length, ne_eq, not_true_eq_false, bne_self_eq_false, cSorting, oSorting, EVA, ↓reduceIte, Nat.reduceEqDiff, Nat.reduceMul, reduceCtorEq, Nat.reduceAdd, Nat.reduceSub, Nat.reduceLeDiff, Nat.reduceLT, Int.reduceToNat, Int.reduceLE, Int.reduceLT, mens, men]
    refine kca_intro (sem_toControlS x0 hs0_0 hs0_1) ?_
    simp only [List.length_map, cut_map, cut_mL, mL_length, ne_eq, not_true_eq_false, bne_self_eq_false, cSorting, oSorting, EVA, ↓reduceIte, Nat.reduceEqDiff, Nat.reduceMul, reduceCtorEq, Nat.reduceAdd, Nat.reduceSub, Nat.reduceLeDiff, Nat.reduceLT, Int.reduceToNat, Int.reduceLE, Int.reduceLT, mens, men]
    refine kca_intro (sem_toSorting x1 hs1_0) ?_
    simp only [List.length_map, cut_map, cut_mL, mL_length, ne_eq, not_true_eq_false, bne_self_eq_false, cSorting, oSorting, EVA, ↓reduceIte, Nat.reduceEqDiff, Nat.reduceMul, reduceCtorEq, Nat.reduceAdd, Nat.reduceSub, Nat.reduceLeDiff, Nat.reduceLT, Int.reduceToNat, Int.reduceLE, Int.reduceLT, mens, men]
    refine kca_intro (sem_toSorting x2 hs2_0) ?_
    simp only [List.length_map, cut_map, cut_mL, mL_length, ne_eq, not_true_eq_false, bne_self_eq_false, cSorting, oSorting, EVA, ↓reduceIte, Nat.reduceEqDiff, Nat.reduceMul, reduceCtorEq, Nat.reduceAdd, Nat.reduceSub, Nat.reduceLeDiff, Nat.reduceLT, Int.reduceToNat, Int.reduceLE, Int.reduceLT, mens, men]
    refine kca_intro (sem_impl_JoinOf x0 x1 x2 hs0_0 hs0_1 hs1_0 hs2_0) ?_
    simp only [List.length_map, cut_map, cut_mL, mL_length, ne_eq, not_true_eq_false, bne_self_eq_false, cSorting, oSorting, EVA, ↓reduceIte, Nat.reduceEqDiff, Nat.reduceMul, reduceCtorEq, Nat.reduceAdd, Nat.reduceSub, Nat.reduceLeDiff, Nat.reduceLT, Int.reduceToNat, Int.reduceLE, Int.reduceLT, mens, men]
    refine kca_intro (sem_eqSorting (r0_JoinOf x0 x1 x2) (r0_JoinOf x0 x1 x2) (monoSorting hr0_0)) ?_
    simp only [List.length_map, cut_map, cut_mL, mL_length, ne_eq, not_true_eq_false, bne_self_eq_false, cSorting, oSorting, EVA, ↓reduceIte, Nat.reduceEqDiff, Nat.reduceMul, reduceCtorEq, Nat.reduceAdd, Nat.reduceSub, Nat.reduceLeDiff, Nat.reduceLT, Int.reduceToNat, Int.reduceLE, Int.reduceLT, mens, men]
    refine kca_intro (held_Sorting (r0_JoinOf x0 x1 x2) (1) hr0_0 (by omega) (by omega)) ?_
    have hh0 : ¬ (1 + (nSorting (r0_JoinOf x0 x1 x2) : Nat) < (0 : Int)) := by omega
    simp only [hh0, List.length_map, cut_map, cut_mL, mL_length, ne_eq, not_true_eq_false, bne_self_eq_false, cSorting, oSorting, EVA, ↓reduceIte, Nat.reduceEqDiff, Nat.reduceMul, reduceCtorEq, Nat.reduceAdd, Nat.reduceSub, Nat.reduceLeDiff, Nat.reduceLT, Int.reduceToNat, Int.reduceLE, Int.reduceLT, mens, men]
end Go.Fd

/-
  WHAT THE LAWS' ARGUMENTS READ AS (printed by lawgen.py). Own work.
-/
namespace Go.Fd
set_option maxRecDepth 20000
theorem rd_9 : Reads Go.Proofs.Tryz.prog 9 (fun n : ByteArray => [ts n]) (fun n => n.size ≤ 9223372036854775807) := Reads_string Go.Proofs.Tryz.underlying9
theorem rd_3 : Reads Go.Proofs.Tryz.prog 3 (fun n : Int => [tv n]) (fits .i64) := Reads_int Go.Proofs.Tryz.underlying3
theorem rd_46 : Reads Go.Proofs.Tryz.prog 46 cControl (fun x => bdControl 9223372036854775807 x ∧ ftControl x) := Reads_mp (Reads_struct Go.Proofs.Tryz.underlying46 (show ReadsP Go.Proofs.Tryz.prog 0 [(0, 9), (1, 3), (2, 3)] _ _ from (ReadsP_cons (k := 1) (by kernel_rfl) (fun _ => rfl) rd_9 (ReadsP_cons (k := 1) (by kernel_rfl) (fun _ => rfl) rd_3 (ReadsP_cons (k := 1) (by kernel_rfl) (fun _ => rfl) rd_3 ReadsP_nil))))) (fun p => TControl.mk p.1 p.2.1 p.2.2.1) (fun _ => rfl) (fun x h => ⟨h.1, ⟨h.2.1, h.2.2.1⟩⟩)
theorem rd_22 : Reads Go.Proofs.Tryz.prog 22 (fun l : List TControl => [Tr.sl (l.map cControl)]) (fun l => l.length ≤ 9223372036854775807 ∧ ∀ x ∈ l, (fun x => bdControl 9223372036854775807 x ∧ ftControl x) x) := Reads_slice (k := 2) Go.Proofs.Tryz.underlying22 (by kernel_rfl) (fun _ => rfl) rd_46
theorem rd_23 : Reads Go.Proofs.Tryz.prog 23 (fun l : List Int => [Tr.sl (l.map (fun n : Int => [tv n]))]) (fun l => l.length ≤ 9223372036854775807 ∧ ∀ x ∈ l, (fits .i64) x) := Reads_slice (k := 0) Go.Proofs.Tryz.underlying23 (by kernel_rfl) (fun _ => rfl) rd_3
theorem rd_24 : Reads Go.Proofs.Tryz.prog 24 (fun l : List (List Int) => [Tr.sl (l.map (fun l : List Int => [Tr.sl (l.map (fun n : Int => [tv n]))]))]) (fun l => l.length ≤ 9223372036854775807 ∧ ∀ x ∈ l, (fun l => l.length ≤ 9223372036854775807 ∧ ∀ x ∈ l, (fits .i64) x) x) := Reads_slice (k := 0) Go.Proofs.Tryz.underlying24 (by kernel_rfl) (fun _ => rfl) rd_23
theorem rd_66 : Reads Go.Proofs.Tryz.prog 66 cA2 (fun x => fits .i64 x.1 ∧ fits .i64 x.2) := Reads_mp (Reads_array1 (k := 1) Go.Proofs.Tryz.underlying66 (by kernel_rfl) (show ReadsP Go.Proofs.Tryz.prog 0 [(0, 3), (1, 3)] _ _ from (ReadsP_cons (k := 1) (by kernel_rfl) (fun _ => rfl) rd_3 (ReadsP_cons (k := 1) (by kernel_rfl) (fun _ => rfl) rd_3 ReadsP_nil)))) (fun p => (p.1, p.2.1)) (fun _ => rfl) (fun x h => ⟨h.1, h.2.1⟩)
theorem rd_25 : Reads Go.Proofs.Tryz.prog 25 (fun l : List (Int × Int) => [Tr.sl (l.map cA2)]) (fun l => l.length ≤ 9223372036854775807 ∧ ∀ x ∈ l, (fun x => fits .i64 x.1 ∧ fits .i64 x.2) x) := Reads_slice (k := 1) Go.Proofs.Tryz.underlying25 (by kernel_rfl) (fun _ => rfl) rd_66
theorem rd_27 : Reads Go.Proofs.Tryz.prog 27 cSorting (fun x => bdSorting 9223372036854775807 x ∧ ftSorting x) := Reads_mp (Reads_struct Go.Proofs.Tryz.underlying27 (show ReadsP Go.Proofs.Tryz.prog 0 [(0, 23), (1, 24), (2, 24), (3, 23), (4, 25)] _ _ from (ReadsP_cons (k := 1) (by kernel_rfl) (fun _ => rfl) rd_23 (ReadsP_cons (k := 1) (by kernel_rfl) (fun _ => rfl) rd_24 (ReadsP_cons (k := 1) (by kernel_rfl) (fun _ => rfl) rd_24 (ReadsP_cons (k := 1) (by kernel_rfl) (fun _ => rfl) rd_23 (ReadsP_cons (k := 1) (by kernel_rfl) (fun _ => rfl) rd_25 ReadsP_nil))))))) (fun p => TSorting.mk p.1 p.2.1 p.2.2.1 p.2.2.2.1 p.2.2.2.2.1) (fun _ => rfl) (fun x h => ⟨⟨h.1.1, h.2.1.1, (fun y hy => (h.2.1.2 y hy).1), h.2.2.1.1, (fun y hy => (h.2.2.1.2 y hy).1), h.2.2.2.1.1, h.2.2.2.2.1.1⟩, ⟨(fun y hy => (h.1.2 y hy)), (fun y hy => (fun yy hyy => ((h.2.1.2 y hy).2 yy hyy))), (fun y hy => (fun yy hyy => ((h.2.2.1.2 y hy).2 yy hyy))), (fun y hy => (h.2.2.2.1.2 y hy)), (fun y hy => ⟨(h.2.2.2.2.1.2 y hy).1, (h.2.2.2.2.1.2 y hy).2⟩)⟩⟩)
end Go.Fd
