/-
  WHAT HOLDS OF THE HELPERS OF THE LAWS (printed by lawgen.py). Own work.
-/
import Derived.Test.YtopapbodofgmiaaGreatDoorT07
import Derived.KernelRfl
import Derived.Test.YtopapbodofgmiaaGreatDoorProg
set_option linter.all false
namespace Go.Fd
set_option maxRecDepth 20000
theorem Zr6 {n : Nat} {l : Int} (h : 0 <= l) : szN n l <= l := by unfold szN; split <;> omega
theorem Zm0 {α : Type} {f : α -> Int -> Int} : ∀ (a : List α) (l : Int), (∀ x ∈ a, ∀ l : Int, 0 <= l -> l <= 1048576 -> f x l <= l) -> 0 <= l -> l <= 1048576 -> szF f a l <= l
 | [], l, _, _, _ => Int.le_refl l
 | x :: r, l, hf, h0, h1 => by
  simp only [szF]
  have := hf x (by simp) l h0 h1
  split
  ·omega
  ·have h2 := Zm0 r (f x l) (fun y hy => hf y (by simp [hy])) (by omega) (by omega)
   omega
theorem Zis {α : Type} {f : α -> Int -> Int} (a : List α) {l : Int} (hf : ∀ x ∈ a, ∀ l : Int, 0 <= l -> l <= 1048576 -> f x l <= l) (h0 : 0 <= l) (h1 : l <= 1048576) : szL f a l <= l := by
 unfold szL
 split
 ·omega
 ·have := Zm0 a (l - a.length) hf (by omega) (by omega)
  omega
theorem Zav {l m : Int} {g : Int -> Int} (h0 : 0 <= l) (h : m <= l) (hg : 0 <= m -> g m <= m) : ZaU m g <= l := by
 unfold ZaU
 split
 ·omega
 ·have := hg (by omega)
  omega
theorem Zmg : Z2 Go.Proofs.Tryz.prog Qi sz0 = true := by kernel_rfl
theorem DL (a : List Int) (hl : a.length <= 9223372036854775807) (l : Int) (h0 : 0 <= l) (h1 : l <= 1048576) : szN a.length l <= l /\ ∀ lvl S, Sem Go.Proofs.Tryz.prog Qi lvl [.tr (.sl (rI a)), iI l] S (iI (szN a.length l)) S := by
 refine ⟨Zr6 h0, fun lvl S => ?_⟩
 have := Zoi Zmg (rI a) l (by simpa using hl) h0 h1 lvl S
 simpa using this
theorem Zeq (x : TNode) (hb : Q6 9223372036854775807 x) (l : Int) (h0 : 0 <= l) (h1 : l <= 1048576) : Uz x l <= l /\ ∀ lvl S, Sem Go.Proofs.Tryz.prog XP lvl [.ag ((ZK x).map .tr), iI l] S (iI (Uz x l)) S := by
 have b0 : x.links.length <= 9223372036854775807 := hb
 refine ⟨?_, fun lvl S => ?_⟩
 ·unfold Uz
  have q0 := DL x.links b0 _ h0 h1
  refine Zav h0 q0.1 (fun p0 => ?_)
  have r0 : _ <= (1048576 : Int) := Int.le_trans q0.1 h1
  exact Int.le_refl _
 ·refine Zf Zfv trivial ?_
  simp only [Zbo, ZK, List.map_cons, List.map_nil, EVA, ↓reduceIte, Nat.reduceEqDiff, Nat.reduceMul, reduceCtorEq, Nat.reduceAdd, Nat.reduceSub, Nat.reduceLeDiff, Nat.reduceLT, Int.reduceToNat, Int.reduceLE, Int.reduceLT, Ze, men]
  unfold Uz
  have q0 := DL x.links b0 l h0 h1
  refine Zb q0.2 ?_
  simp only [EVA, ↓reduceIte, Nat.reduceEqDiff, Nat.reduceMul, reduceCtorEq, Nat.reduceAdd, Nat.reduceSub, Nat.reduceLeDiff, Nat.reduceLT, Int.reduceToNat, Int.reduceLE, Int.reduceLT, Ze, men]
  obtain ⟨l1, hl1⟩ : ∃ m : Int, m = (szN x.links.length l) := ⟨_, rfl⟩
  have u1 : l1 <= l := by rw [hl1]; exact q0.1
  rw [<- hl1]
  split
  ·rename_i hn; rw [ZaU, if_pos hn]
  rename_i hn0
  rw [ZaU, if_neg hn0]
theorem ZkL : Z2 Go.Proofs.Tryz.prog Xe (ZrA 3 (some 3) XP) = true := by kernel_rfl
theorem ZdE (a : List TNode) (hl : a.length <= 9223372036854775807) (hb : ∀ y ∈ a, Q6 9223372036854775807 y) (l : Int) (h0 : 0 <= l) (h1 : l <= 1048576) : szL Uz a l <= l /\ ∀ lvl S, Sem Go.Proofs.Tryz.prog Xe lvl [.tr (.sl (a.map ZK)), iI l] S (iI (szL Uz a l)) S :=
 ⟨Zis a (fun x hx l h0 h1 => (Zeq x (hb x hx) l h0 h1).1) h0 h1, fun lvl S => Ze4 ZkL ZK Uz ZjT a l hl h0 h1 (fun x hx l h0 h1 => Zeq x (hb x hx) l h0 h1) lvl S⟩
theorem Zer (x : TWire) (hb : V4 9223372036854775807 x) (l : Int) (h0 : 0 <= l) (h1 : l <= 1048576) : UA x l <= l /\ ∀ lvl S, Sem Go.Proofs.Tryz.prog XQ lvl [.ag ((ZO x).map .tr), iI l] S (iI (UA x l)) S := by
 have b0 : x.name.size <= 9223372036854775807 := hb
 refine ⟨?_, fun lvl S => ?_⟩
 ·unfold UA
  refine Zav h0 (m := l - x.name.size) (by omega) (fun p0 => ?_)
  have r0 : _ <= (1048576 : Int) := Int.le_trans (show l - x.name.size <= l by omega) h1
  exact Int.le_refl _
 ·refine Zf Zfw trivial ?_
  simp only [Zbp, ZO, List.map_cons, List.map_nil, EVA, ↓reduceIte, Nat.reduceEqDiff, Nat.reduceMul, reduceCtorEq, Nat.reduceAdd, Nat.reduceSub, Nat.reduceLeDiff, Nat.reduceLT, Int.reduceToNat, Int.reduceLE, Int.reduceLT, Ze, men]
  unfold UA
  refine ⟨by rw [Zg]; omega, ?_⟩
  obtain ⟨l1, hl1⟩ : ∃ m : Int, m = l - x.name.size := ⟨_, rfl⟩
  have u1 : l1 <= l := by omega
  rw [<- hl1]
  split
  ·rename_i hn; rw [ZaU, if_pos hn]
  rename_i hn0
  rw [ZaU, if_neg hn0]
theorem ZkM : Z2 Go.Proofs.Tryz.prog Xf (ZrA 2 (some 2) XQ) = true := by kernel_rfl
theorem ZdF (a : List TWire) (hl : a.length <= 9223372036854775807) (hb : ∀ y ∈ a, V4 9223372036854775807 y) (l : Int) (h0 : 0 <= l) (h1 : l <= 1048576) : szL UA a l <= l /\ ∀ lvl S, Sem Go.Proofs.Tryz.prog Xf lvl [.tr (.sl (a.map ZO)), iI l] S (iI (szL UA a l)) S :=
 ⟨Zis a (fun x hx l h0 h1 => (Zer x (hb x hx) l h0 h1).1) h0 h1, fun lvl S => Ze4 ZkM ZO UA ZjV a l hl h0 h1 (fun x hx l h0 h1 => Zer x (hb x hx) l h0 h1) lvl S⟩
theorem Zhy : Z2 Go.Proofs.Tryz.prog Qj ZvM = true := by kernel_rfl
theorem Zbu (a : List ByteArray) (hl : a.length <= 9223372036854775807) (hb : ∀ y ∈ a, y.size <= 9223372036854775807) (l : Int) (h0 : 0 <= l) (h1 : l <= 1048576) : szL (fun x m => m - x.size) a l <= l /\ ∀ lvl S, Sem Go.Proofs.Tryz.prog Qj lvl [tS a, iI l] S (iI (szL (fun x m => m - x.size) a l)) S :=
 ⟨Zis a (fun x _ l _ _ => by omega) h0 h1, fun lvl S => ZlN Zhy a l hl h0 h1 hb lvl S⟩
theorem Vi (x : TBigraph) (hb : Zl 9223372036854775807 x) (l : Int) (h0 : 0 <= l) (h1 : l <= 1048576) : JU x l <= l /\ ∀ lvl S, Sem Go.Proofs.Tryz.prog Je lvl [.ag ((Za x).map .tr), iI l] S (iI (JU x l)) S := by
 obtain ⟨b0, b1, b2, b3, b4, b5, b6⟩ := hb
 refine ⟨?_, fun lvl S => ?_⟩
 ·unfold JU
  have q0 := ZdE x.nodes b0 b1 _ h0 h1
  refine Zav h0 q0.1 (fun p0 => ?_)
  have r0 : _ <= (1048576 : Int) := Int.le_trans q0.1 h1
  have q1 := DL x.sites b2 _ p0 r0
  refine Zav p0 q1.1 (fun p1 => ?_)
  have r1 : _ <= (1048576 : Int) := Int.le_trans q1.1 r0
  have q2 := Zbu x.outer b3 b4 _ p1 r1
  refine Zav p1 q2.1 (fun p2 => ?_)
  have r2 : _ <= (1048576 : Int) := Int.le_trans q2.1 r1
  have q3 := ZdF x.inner b5 b6 _ p2 r2
  refine Zav p2 q3.1 (fun p3 => ?_)
  have r3 : _ <= (1048576 : Int) := Int.le_trans q3.1 r2
  exact Int.le_refl _
 ·refine Zf Zct trivial ?_
  simp only [UK, Za, List.map_cons, List.map_nil, EVA, ↓reduceIte, Nat.reduceEqDiff, Nat.reduceMul, reduceCtorEq, Nat.reduceAdd, Nat.reduceSub, Nat.reduceLeDiff, Nat.reduceLT, Int.reduceToNat, Int.reduceLE, Int.reduceLT, Ze, men]
  unfold JU
  have q0 := ZdE x.nodes b0 b1 l h0 h1
  refine Zb q0.2 ?_
  simp only [EVA, ↓reduceIte, Nat.reduceEqDiff, Nat.reduceMul, reduceCtorEq, Nat.reduceAdd, Nat.reduceSub, Nat.reduceLeDiff, Nat.reduceLT, Int.reduceToNat, Int.reduceLE, Int.reduceLT, Ze, men]
  obtain ⟨l1, hl1⟩ : ∃ m : Int, m = (szL Uz x.nodes l) := ⟨_, rfl⟩
  have u1 : l1 <= l := by rw [hl1]; exact q0.1
  rw [<- hl1]
  split
  ·rename_i hn; rw [ZaU, if_pos hn]
  rename_i hn0
  rw [ZaU, if_neg hn0]
  have q1 := DL x.sites b2 l1 (show 0 <= l1 by omega) (show l1 <= 1048576 by omega)
  refine Zb q1.2 ?_
  simp only [EVA, ↓reduceIte, Nat.reduceEqDiff, Nat.reduceMul, reduceCtorEq, Nat.reduceAdd, Nat.reduceSub, Nat.reduceLeDiff, Nat.reduceLT, Int.reduceToNat, Int.reduceLE, Int.reduceLT, Ze, men]
  obtain ⟨l2, hl2⟩ : ∃ m : Int, m = (szN x.sites.length l1) := ⟨_, rfl⟩
  have u2 : l2 <= l1 := by rw [hl2]; exact q1.1
  rw [<- hl2]
  split
  ·rename_i hn; rw [ZaU, if_pos hn]
  rename_i hn1
  rw [ZaU, if_neg hn1]
  have q2 := Zbu x.outer b3 b4 l2 (show 0 <= l2 by omega) (show l2 <= 1048576 by omega)
  refine Zb q2.2 ?_
  simp only [EVA, ↓reduceIte, Nat.reduceEqDiff, Nat.reduceMul, reduceCtorEq, Nat.reduceAdd, Nat.reduceSub, Nat.reduceLeDiff, Nat.reduceLT, Int.reduceToNat, Int.reduceLE, Int.reduceLT, Ze, men]
  obtain ⟨l3, hl3⟩ : ∃ m : Int, m = (szL (fun x m => m - x.size) x.outer l2) := ⟨_, rfl⟩
  have u3 : l3 <= l2 := by rw [hl3]; exact q2.1
  rw [<- hl3]
  split
  ·rename_i hn; rw [ZaU, if_pos hn]
  rename_i hn2
  rw [ZaU, if_neg hn2]
  have q3 := ZdF x.inner b5 b6 l3 (show 0 <= l3 by omega) (show l3 <= 1048576 by omega)
  refine Zb q3.2 ?_
  simp only [EVA, ↓reduceIte, Nat.reduceEqDiff, Nat.reduceMul, reduceCtorEq, Nat.reduceAdd, Nat.reduceSub, Nat.reduceLeDiff, Nat.reduceLT, Int.reduceToNat, Int.reduceLE, Int.reduceLT, Ze, men]
  obtain ⟨l4, hl4⟩ : ∃ m : Int, m = (szL UA x.inner l3) := ⟨_, rfl⟩
  have u4 : l4 <= l3 := by rw [hl4]; exact q3.1
  rw [<- hl4]
  split
  ·rename_i hn; rw [ZaU, if_pos hn]
  rename_i hn3
  rw [ZaU, if_neg hn3]
theorem Zbv (x : TControl) (hb : ZD 9223372036854775807 x) (l : Int) (h0 : 0 <= l) (h1 : l <= 1048576) : ZL x l <= l /\ ∀ lvl S, Sem Go.Proofs.Tryz.prog Qh lvl [.ag ((Zn x).map .tr), iI l] S (iI (ZL x l)) S := by
 have b0 : x.name.size <= 9223372036854775807 := hb
 refine ⟨?_, fun lvl S => ?_⟩
 ·unfold ZL
  refine Zav h0 (m := l - x.name.size) (by omega) (fun p0 => ?_)
  have r0 : _ <= (1048576 : Int) := Int.le_trans (show l - x.name.size <= l by omega) h1
  exact Int.le_refl _
 ·refine Zf Zcw trivial ?_
  simp only [UN, Zn, List.map_cons, List.map_nil, EVA, ↓reduceIte, Nat.reduceEqDiff, Nat.reduceMul, reduceCtorEq, Nat.reduceAdd, Nat.reduceSub, Nat.reduceLeDiff, Nat.reduceLT, Int.reduceToNat, Int.reduceLE, Int.reduceLT, Ze, men]
  unfold ZL
  refine ⟨by rw [Zg]; omega, ?_⟩
  obtain ⟨l1, hl1⟩ : ∃ m : Int, m = l - x.name.size := ⟨_, rfl⟩
  have u1 : l1 <= l := by omega
  rw [<- hl1]
  split
  ·rename_i hn; rw [ZaU, if_pos hn]
  rename_i hn0
  rw [ZaU, if_neg hn0]
theorem ZgM : Z2 Go.Proofs.Tryz.prog J2 (ZrA 3 (some 3) Qh) = true := by kernel_rfl
theorem WC (a : List TControl) (hl : a.length <= 9223372036854775807) (hb : ∀ y ∈ a, ZD 9223372036854775807 y) (l : Int) (h0 : 0 <= l) (h1 : l <= 1048576) : szL ZL a l <= l /\ ∀ lvl S, Sem Go.Proofs.Tryz.prog J2 lvl [.tr (.sl (a.map Zn)), iI l] S (iI (szL ZL a l)) S :=
 ⟨Zis a (fun x hx l h0 h1 => (Zbv x (hb x hx) l h0 h1).1) h0 h1, fun lvl S => Ze4 ZgM Zn ZL Zb4 a l hl h0 h1 (fun x hx l h0 h1 => Zbv x (hb x hx) l h0 h1) lvl S⟩
end Go.Fd

/-
  WHAT HOLDS OF THE HELPERS OF THE LAWS: eq.. (printed by lawgen.py). Own work.
-/
namespace Go.Fd
set_option maxRecDepth 20000
theorem Zmh : Z2 Go.Proofs.Tryz.prog Qo ZoV = true := by kernel_rfl
theorem Zes (a b : (List Int)) (ha : a.length <= 9223372036854775807) (lvl : Nat) (S : Sto) : Sem Go.Proofs.Tryz.prog Qo lvl [.tr (.sl (rI a)), .tr (.sl (rI b))] S (iB (decide (a = b))) S := Zoj Zmh a b ha lvl S
theorem Zi0 (x y : TNode) (hb : Q6 9223372036854775807 x) (lvl : Nat) (S : Sto) : Sem Go.Proofs.Tryz.prog XV lvl [.ag ((ZK x).map .tr), .ag ((ZK y).map .tr)] S (iB (decide (x = y))) S := by
 have b0 : x.links.length <= 9223372036854775807 := hb
 refine Zf Zfz trivial ?_
 simp only [Zbs, ZK, List.map_cons, List.map_nil, EVA, ↓reduceIte, Nat.reduceEqDiff, Nat.reduceMul, reduceCtorEq, Nat.reduceAdd, Nat.reduceSub, Nat.reduceLeDiff, Nat.reduceLT, Int.reduceToNat, Int.reduceLE, Int.reduceLT, Ze, men]
 refine Zu (fun hne => ?_) (fun heq0 => ?_)
 ·have : ¬ x = y := fun e => (by rw [e] at hne; simp at hne)
  simp [this]
 refine Zu (fun hne => ?_) (fun heq1 => ?_)
 ·have : ¬ x = y := fun e => (by rw [e] at hne; simp at hne)
  simp [this]
 refine Zb (Zes x.links y.links b0) ?_
 simp only [Bool.not_eq_true', EVA, ↓reduceIte, Nat.reduceEqDiff, Nat.reduceMul, reduceCtorEq, Nat.reduceAdd, Nat.reduceSub, Nat.reduceLeDiff, Nat.reduceLT, Int.reduceToNat, Int.reduceLE, Int.reduceLT, Ze, men]
 refine Zu (fun hne => ?_) (fun heq2 => ?_)
 ·have : ¬ x = y := fun e => (by rw [e] at hne; simp at hne)
  simp [this]
 have : x = y := by
  cases x; cases y; simp_all
 simp [this]
theorem ZkN : Z2 Go.Proofs.Tryz.prog Xi (ZrB 3 (some 3) XV) = true := by kernel_rfl
theorem Zhz (a b : (List TNode)) (ha : a.length <= 9223372036854775807) (ha2 : ∀ y ∈ a, Q6 9223372036854775807 y) (lvl : Nat) (S : Sto) : Sem Go.Proofs.Tryz.prog Xi lvl [.tr (.sl (a.map ZK)), .tr (.sl (b.map ZK))] S (iB (decide (a = b))) S :=
 Ze5 ZkN ZK (fun _ => rfl) a b ha (fun x hx y _ lvl S => Zi0 x y (ha2 x hx) lvl S) lvl S
theorem Zi1 (x y : TWire) (hb : V4 9223372036854775807 x) (lvl : Nat) (S : Sto) : Sem Go.Proofs.Tryz.prog XW lvl [.ag ((ZO x).map .tr), .ag ((ZO y).map .tr)] S (iB (decide (x = y))) S := by
 have b0 : x.name.size <= 9223372036854775807 := hb
 refine Zf ZfA trivial ?_
 simp only [Zbt, ZO, List.map_cons, List.map_nil, EVA, ↓reduceIte, Nat.reduceEqDiff, Nat.reduceMul, reduceCtorEq, Nat.reduceAdd, Nat.reduceSub, Nat.reduceLeDiff, Nat.reduceLT, Int.reduceToNat, Int.reduceLE, Int.reduceLT, Ze, men]
 refine Zu (fun hne => ?_) (fun heq0 => ?_)
 ·have : ¬ x = y := fun e => (by rw [e] at hne; simp at hne)
  simp [this]
 refine Zu (fun hne => ?_) (fun heq1 => ?_)
 ·have : ¬ x = y := fun e => (by rw [e] at hne; simp at hne)
  simp [this]
 have : x = y := by
  cases x; cases y; simp_all
 simp [this]
theorem ZkO : Z2 Go.Proofs.Tryz.prog Xj (ZrB 2 (some 2) XW) = true := by kernel_rfl
theorem ZhA (a b : (List TWire)) (ha : a.length <= 9223372036854775807) (ha2 : ∀ y ∈ a, V4 9223372036854775807 y) (lvl : Nat) (S : Sto) : Sem Go.Proofs.Tryz.prog Xj lvl [.tr (.sl (a.map ZO)), .tr (.sl (b.map ZO))] S (iB (decide (a = b))) S :=
 Ze5 ZkO ZO (fun _ => rfl) a b ha (fun x hx y _ lvl S => Zi1 x y (ha2 x hx) lvl S) lvl S
theorem ZhB : Z2 Go.Proofs.Tryz.prog Qp ZoV = true := by kernel_rfl
theorem ZfB (a b : (List ByteArray)) (ha : a.length <= 9223372036854775807) (lvl : Nat) (S : Sto) : Sem Go.Proofs.Tryz.prog Qp lvl [.tr (.sl (rS a)), .tr (.sl (rS b))] S (iB (decide (a = b))) S := Zok ZhB a b ha lvl S
theorem Zv (x y : TBigraph) (hb : Zl 9223372036854775807 x) (lvl : Nat) (S : Sto) : Sem Go.Proofs.Tryz.prog Zz lvl [.ag ((Za x).map .tr), .ag ((Za y).map .tr)] S (iB (decide (x = y))) S := by
 obtain ⟨b0, b1, b2, b3, b4, b5, b6⟩ := hb
 refine Zf Zcv trivial ?_
 simp only [UM, Za, List.map_cons, List.map_nil, EVA, ↓reduceIte, Nat.reduceEqDiff, Nat.reduceMul, reduceCtorEq, Nat.reduceAdd, Nat.reduceSub, Nat.reduceLeDiff, Nat.reduceLT, Int.reduceToNat, Int.reduceLE, Int.reduceLT, Ze, men]
 refine Zu (fun hne => ?_) (fun heq0 => ?_)
 ·have : ¬ x = y := fun e => (by rw [e] at hne; simp at hne)
  simp [this]
 refine Zb (Zhz x.nodes y.nodes b0 b1) ?_
 simp only [Bool.not_eq_true', EVA, ↓reduceIte, Nat.reduceEqDiff, Nat.reduceMul, reduceCtorEq, Nat.reduceAdd, Nat.reduceSub, Nat.reduceLeDiff, Nat.reduceLT, Int.reduceToNat, Int.reduceLE, Int.reduceLT, Ze, men]
 refine Zu (fun hne => ?_) (fun heq1 => ?_)
 ·have : ¬ x = y := fun e => (by rw [e] at hne; simp at hne)
  simp [this]
 refine Zb (Zes x.sites y.sites b2) ?_
 simp only [Bool.not_eq_true', EVA, ↓reduceIte, Nat.reduceEqDiff, Nat.reduceMul, reduceCtorEq, Nat.reduceAdd, Nat.reduceSub, Nat.reduceLeDiff, Nat.reduceLT, Int.reduceToNat, Int.reduceLE, Int.reduceLT, Ze, men]
 refine Zu (fun hne => ?_) (fun heq2 => ?_)
 ·have : ¬ x = y := fun e => (by rw [e] at hne; simp at hne)
  simp [this]
 refine Zu (fun hne => ?_) (fun heq3 => ?_)
 ·have : ¬ x = y := fun e => (by rw [e] at hne; simp at hne)
  simp [this]
 refine Zb (ZfB x.outer y.outer b3) ?_
 simp only [Bool.not_eq_true', EVA, ↓reduceIte, Nat.reduceEqDiff, Nat.reduceMul, reduceCtorEq, Nat.reduceAdd, Nat.reduceSub, Nat.reduceLeDiff, Nat.reduceLT, Int.reduceToNat, Int.reduceLE, Int.reduceLT, Ze, men]
 refine Zu (fun hne => ?_) (fun heq4 => ?_)
 ·have : ¬ x = y := fun e => (by rw [e] at hne; simp at hne)
  simp [this]
 refine Zb (ZhA x.inner y.inner b5 b6) ?_
 simp only [Bool.not_eq_true', EVA, ↓reduceIte, Nat.reduceEqDiff, Nat.reduceMul, reduceCtorEq, Nat.reduceAdd, Nat.reduceSub, Nat.reduceLeDiff, Nat.reduceLT, Int.reduceToNat, Int.reduceLE, Int.reduceLT, Ze, men]
 refine Zu (fun hne => ?_) (fun heq5 => ?_)
 ·have : ¬ x = y := fun e => (by rw [e] at hne; simp at hne)
  simp [this]
 have : x = y := by
  cases x; cases y; simp_all
 simp [this]
theorem ZfC (x y : TControl) (hb : ZD 9223372036854775807 x) (lvl : Nat) (S : Sto) : Sem Go.Proofs.Tryz.prog Qq lvl [.ag ((Zn x).map .tr), .ag ((Zn y).map .tr)] S (iB (decide (x = y))) S := by
 have b0 : x.name.size <= 9223372036854775807 := hb
 refine Zf Zcy trivial ?_
 simp only [UP, Zn, List.map_cons, List.map_nil, EVA, ↓reduceIte, Nat.reduceEqDiff, Nat.reduceMul, reduceCtorEq, Nat.reduceAdd, Nat.reduceSub, Nat.reduceLeDiff, Nat.reduceLT, Int.reduceToNat, Int.reduceLE, Int.reduceLT, Ze, men]
 refine Zu (fun hne => ?_) (fun heq0 => ?_)
 ·have : ¬ x = y := fun e => (by rw [e] at hne; simp at hne)
  simp [this]
 refine Zu (fun hne => ?_) (fun heq1 => ?_)
 ·have : ¬ x = y := fun e => (by rw [e] at hne; simp at hne)
  simp [this]
 refine Zu (fun hne => ?_) (fun heq2 => ?_)
 ·have : ¬ x = y := fun e => (by rw [e] at hne; simp at hne)
  simp [this]
 have : x = y := by
  cases x; cases y; simp_all
 simp [this]
theorem ZgN : Z2 Go.Proofs.Tryz.prog J3 (ZrB 3 (some 3) Qq) = true := by kernel_rfl
theorem YH (a b : (List TControl)) (ha : a.length <= 9223372036854775807) (ha2 : ∀ y ∈ a, ZD 9223372036854775807 y) (lvl : Nat) (S : Sto) : Sem Go.Proofs.Tryz.prog J3 lvl [.tr (.sl (a.map Zn)), .tr (.sl (b.map Zn))] S (iB (decide (a = b))) S :=
 Ze5 ZgN Zn (fun _ => rfl) a b ha (fun x hx y _ lvl S => ZfC x y (ha2 x hx) lvl S) lvl S
end Go.Fd

/-
  WHAT HOLDS OF THE HELPERS OF THE LAWS: to.. (printed by lawgen.py). Own work.
-/
namespace Go.Fd
set_option maxRecDepth 20000
theorem Zmi : Z2 Go.Proofs.Tryz.prog Ql (ZoW (.int .i64 0)) = true := by kernel_rfl
theorem Zet (a : (List Int)) (ha : a.length <= 4294967296) (lvl : Nat) (S : Sto) : Sem Go.Proofs.Tryz.prog Ql lvl [.tr (.sl (rI a))] S (.ow 1 (rI a) true) S := Zol Zmi a ha lvl S
theorem Zi2 (x : TNode) (hb : Q6 4294967296 x) (lvl : Nat) (S : Sto) : Sem Go.Proofs.Tryz.prog XT lvl [.ag ((ZK x).map .tr)] S (ZlP x) S := by
 have b0 : x.links.length <= 4294967296 := hb
 refine Zf Zfx (by simp [ZlP, low, men, Ze]) ?_
 simp only [Zbq, ZK, zfill, zobs, List.map_cons, List.map_nil, QV, QW, List.set_cons_zero, List.set_cons_succ, EVA, ↓reduceIte, Nat.reduceEqDiff, Nat.reduceMul, reduceCtorEq, Nat.reduceAdd, Nat.reduceSub, Nat.reduceLeDiff, Nat.reduceLT, Int.reduceToNat, Int.reduceLE, Int.reduceLT, Ze, men]
 refine Zb (Zet x.links b0) ?_
 simp only [QV, QW, List.set_cons_zero, List.set_cons_succ, Prod.mk.injEq, EVA, ↓reduceIte, Nat.reduceEqDiff, Nat.reduceMul, reduceCtorEq, Nat.reduceAdd, Nat.reduceSub, Nat.reduceLeDiff, Nat.reduceLT, Int.reduceToNat, Int.reduceLE, Int.reduceLT, Ze, men]
 rfl
theorem ZhC (a : (List TNode)) (ha : a.length <= 4294967296) (hb : ∀ y ∈ a, Q6 4294967296 y) (lvl : Nat) (S : Sto) : Sem Go.Proofs.Tryz.prog Xg lvl [.tr (.sl (a.map ZK))] S (.ow 3 (a.map ZK) true) S := by
 refine Zf Zd3 trivial ?_
 simp only [Zah, List.length_map, bigN, Int.natCast_nonneg, EVA, ↓reduceIte, Nat.reduceEqDiff, Nat.reduceMul, reduceCtorEq, Nat.reduceAdd, Nat.reduceSub, Nat.reduceLeDiff, Nat.reduceLT, Int.reduceToNat, Int.reduceLE, Int.reduceLT, Ze, men]
 refine ⟨by omega, ?_⟩
 refine Z6 (α := Unit) a.length (fun j _ => ⟨lvl, [(0, .tr (.sl (a.map ZK))), (3, .hd (lvl, 224) [] 0 a.length none a.length), (4, iI j)], [(224, .ar 3 (YN ZK [tv 0, tv 0, .sl []] a j) true a.length (j * 1))], S⟩) (fun _ _ => True) () ⟨by simp only [EVA, ↓reduceIte, Nat.reduceEqDiff, Nat.reduceMul, reduceCtorEq, Nat.reduceAdd, Nat.reduceSub, Nat.reduceLeDiff, Nat.reduceLT, Int.reduceToNat, Int.reduceLE, Int.reduceLT, Ze, men], by (simp only [XO, EVA, ↓reduceIte, Nat.reduceEqDiff, Nat.reduceMul, reduceCtorEq, Nat.reduceAdd, Nat.reduceSub, Nat.reduceLeDiff, Nat.reduceLT, Int.reduceToNat, Int.reduceLE, Int.reduceLT, Ze, men]) <;> rfl⟩ trivial ?_
 intro j _ hj _
 simp only [List.length_map, EVA, ↓reduceIte, Nat.reduceEqDiff, Nat.reduceMul, reduceCtorEq, Nat.reduceAdd, Nat.reduceSub, Nat.reduceLeDiff, Nat.reduceLT, Int.reduceToNat, Int.reduceLE, Int.reduceLT, Ze, men]
 refine Zu (fun hlt => ?_) (fun hge => ?_)
 ·have hja : j < a.length := by omega
  have ga : (a.map ZK)[j]? = some (ZK a[j]) := by simp [hja]
  have gz : (YN ZK [tv 0, tv 0, .sl []] a j)[j]? = some [tv 0, tv 0, .sl []] := WQ hja
  have hfl : (YN ZK [tv 0, tv 0, .sl []] a j).length = a.length := Ul hj
  have hsem := fun lvl S => Zi2 a[j] (hb a[j] (List.getElem_mem hja)) lvl S
  simp only [ga, gz, Int.natCast_nonneg, Nat.le_refl, hja, ZK, ZlP, Nat.reduceLeDiff, EVA, ↓reduceIte, Nat.reduceEqDiff, Nat.reduceMul, reduceCtorEq, Nat.reduceAdd, Nat.reduceSub, Nat.reduceLT, Int.reduceToNat, Int.reduceLE, Int.reduceLT, Ze, men]
  refine Zb hsem ?_
  simp only [ZlP, gz, Int.natCast_nonneg, Nat.le_refl, hja, hfl, YC, List.getElem?_set_self, List.set_set, List.length_set, List.set_cons_zero, List.set_cons_succ, Prod.mk.injEq, ne_eq, not_false_eq_true, EVA, ↓reduceIte, Nat.reduceEqDiff, Nat.reduceMul, reduceCtorEq, Nat.reduceAdd, Nat.reduceSub, Nat.reduceLeDiff, Nat.reduceLT, Int.reduceToNat, Int.reduceLE, Int.reduceLT, Ze, men]
  refine ⟨by rw [Zg]; omega, Zi () hja ?_ trivial⟩
  have hse := WR (c := ZK) (z := [tv 0, tv 0, .sl []]) (e := [tv a[j].control, tv a[j].parent, .sl (rI a[j].links)]) hja rfl
  rw [hse, show (j + 1) * 1 = j * 1 + 1 from by omega]
  rfl
 ·have : j = a.length := by omega
  subst this
  rw [WP]
  simp
theorem Zi3 (x : TWire) (hb : V4 4294967296 x) (lvl : Nat) (S : Sto) : Sem Go.Proofs.Tryz.prog XU lvl [.ag ((ZO x).map .tr)] S (ZlQ x) S := by
 have b0 : x.name.size <= 4294967296 := hb
 refine Zf Zfy (by simp [ZlQ, low, men, Ze]) ?_
 simp only [Zbr, ZO, zfill, zobs, List.map_cons, List.map_nil, QV, QW, List.set_cons_zero, List.set_cons_succ, EVA, ↓reduceIte, Nat.reduceEqDiff, Nat.reduceMul, reduceCtorEq, Nat.reduceAdd, Nat.reduceSub, Nat.reduceLeDiff, Nat.reduceLT, Int.reduceToNat, Int.reduceLE, Int.reduceLT, Ze, men]
 rfl
theorem ZhD (a : (List TWire)) (ha : a.length <= 4294967296) (hb : ∀ y ∈ a, V4 4294967296 y) (lvl : Nat) (S : Sto) : Sem Go.Proofs.Tryz.prog Xh lvl [.tr (.sl (a.map ZO))] S (.ow 2 (a.map ZO) true) S := by
 refine Zf Zd4 trivial ?_
 simp only [Zai, List.length_map, bigN, Int.natCast_nonneg, EVA, ↓reduceIte, Nat.reduceEqDiff, Nat.reduceMul, reduceCtorEq, Nat.reduceAdd, Nat.reduceSub, Nat.reduceLeDiff, Nat.reduceLT, Int.reduceToNat, Int.reduceLE, Int.reduceLT, Ze, men]
 refine ⟨by omega, ?_⟩
 refine Z6 (α := Unit) a.length (fun j _ => ⟨lvl, [(0, .tr (.sl (a.map ZO))), (3, .hd (lvl, 224) [] 0 a.length none a.length), (4, iI j)], [(224, .ar 2 (YN ZO [ts ⟨#[]⟩, tv 0] a j) true a.length (j * 0))], S⟩) (fun _ _ => True) () ⟨by simp only [EVA, ↓reduceIte, Nat.reduceEqDiff, Nat.reduceMul, reduceCtorEq, Nat.reduceAdd, Nat.reduceSub, Nat.reduceLeDiff, Nat.reduceLT, Int.reduceToNat, Int.reduceLE, Int.reduceLT, Ze, men], by (simp only [XO, EVA, ↓reduceIte, Nat.reduceEqDiff, Nat.reduceMul, reduceCtorEq, Nat.reduceAdd, Nat.reduceSub, Nat.reduceLeDiff, Nat.reduceLT, Int.reduceToNat, Int.reduceLE, Int.reduceLT, Ze, men]) <;> rfl⟩ trivial ?_
 intro j _ hj _
 simp only [List.length_map, EVA, ↓reduceIte, Nat.reduceEqDiff, Nat.reduceMul, reduceCtorEq, Nat.reduceAdd, Nat.reduceSub, Nat.reduceLeDiff, Nat.reduceLT, Int.reduceToNat, Int.reduceLE, Int.reduceLT, Ze, men]
 refine Zu (fun hlt => ?_) (fun hge => ?_)
 ·have hja : j < a.length := by omega
  have ga : (a.map ZO)[j]? = some (ZO a[j]) := by simp [hja]
  have gz : (YN ZO [ts ⟨#[]⟩, tv 0] a j)[j]? = some [ts ⟨#[]⟩, tv 0] := WQ hja
  have hfl : (YN ZO [ts ⟨#[]⟩, tv 0] a j).length = a.length := Ul hj
  have hsem := fun lvl S => Zi3 a[j] (hb a[j] (List.getElem_mem hja)) lvl S
  simp only [ga, gz, Int.natCast_nonneg, Nat.le_refl, hja, ZO, ZlQ, Nat.reduceLeDiff, EVA, ↓reduceIte, Nat.reduceEqDiff, Nat.reduceMul, reduceCtorEq, Nat.reduceAdd, Nat.reduceSub, Nat.reduceLT, Int.reduceToNat, Int.reduceLE, Int.reduceLT, Ze, men]
  refine Zb hsem ?_
  simp only [ZlQ, gz, Int.natCast_nonneg, Nat.le_refl, hja, hfl, YC, List.getElem?_set_self, List.set_set, List.length_set, List.set_cons_zero, List.set_cons_succ, Prod.mk.injEq, ne_eq, not_false_eq_true, EVA, ↓reduceIte, Nat.reduceEqDiff, Nat.reduceMul, reduceCtorEq, Nat.reduceAdd, Nat.reduceSub, Nat.reduceLeDiff, Nat.reduceLT, Int.reduceToNat, Int.reduceLE, Int.reduceLT, Ze, men]
  refine ⟨by rw [Zg]; omega, Zi () hja ?_ trivial⟩
  have hse := WR (c := ZO) (z := [ts ⟨#[]⟩, tv 0]) (e := [ts a[j].name, tv a[j].link]) hja rfl
  rw [hse, show (j + 1) * 0 = j * 0 from by omega]
  rfl
 ·have : j = a.length := by omega
  subst this
  rw [WP]
  simp
theorem ZhE : Z2 Go.Proofs.Tryz.prog Qm (ZoW (.string ⟨#[]⟩)) = true := by kernel_rfl
theorem ZfD (a : (List ByteArray)) (ha : a.length <= 4294967296) (lvl : Nat) (S : Sto) : Sem Go.Proofs.Tryz.prog Qm lvl [.tr (.sl (rS a))] S (.ow 1 (rS a) true) S := Zom ZhE a ha lvl S
theorem Zo (x : TBigraph) (hb : Zl 4294967296 x) (lvl : Nat) (S : Sto) : Sem Go.Proofs.Tryz.prog Zr lvl [.ag ((Za x).map .tr)] S (Zc x) S := by
 obtain ⟨b0, b1, b2, b3, b4, b5, b6⟩ := hb
 refine Zf Zcu (by simp [Zc, low, men, Ze]) ?_
 simp only [UL, Za, zfill, zobs, List.map_cons, List.map_nil, QV, QW, List.set_cons_zero, List.set_cons_succ, EVA, ↓reduceIte, Nat.reduceEqDiff, Nat.reduceMul, reduceCtorEq, Nat.reduceAdd, Nat.reduceSub, Nat.reduceLeDiff, Nat.reduceLT, Int.reduceToNat, Int.reduceLE, Int.reduceLT, Ze, men]
 refine Zb (ZhC x.nodes b0 b1) ?_
 simp only [QV, QW, List.set_cons_zero, List.set_cons_succ, Prod.mk.injEq, EVA, ↓reduceIte, Nat.reduceEqDiff, Nat.reduceMul, reduceCtorEq, Nat.reduceAdd, Nat.reduceSub, Nat.reduceLeDiff, Nat.reduceLT, Int.reduceToNat, Int.reduceLE, Int.reduceLT, Ze, men]
 refine Zb (Zet x.sites b2) ?_
 simp only [QV, QW, List.set_cons_zero, List.set_cons_succ, Prod.mk.injEq, EVA, ↓reduceIte, Nat.reduceEqDiff, Nat.reduceMul, reduceCtorEq, Nat.reduceAdd, Nat.reduceSub, Nat.reduceLeDiff, Nat.reduceLT, Int.reduceToNat, Int.reduceLE, Int.reduceLT, Ze, men]
 refine Zb (ZfD x.outer b3) ?_
 simp only [QV, QW, List.set_cons_zero, List.set_cons_succ, Prod.mk.injEq, EVA, ↓reduceIte, Nat.reduceEqDiff, Nat.reduceMul, reduceCtorEq, Nat.reduceAdd, Nat.reduceSub, Nat.reduceLeDiff, Nat.reduceLT, Int.reduceToNat, Int.reduceLE, Int.reduceLT, Ze, men]
 refine Zb (ZhD x.inner b5 b6) ?_
 simp only [QV, QW, List.set_cons_zero, List.set_cons_succ, Prod.mk.injEq, EVA, ↓reduceIte, Nat.reduceEqDiff, Nat.reduceMul, reduceCtorEq, Nat.reduceAdd, Nat.reduceSub, Nat.reduceLeDiff, Nat.reduceLT, Int.reduceToNat, Int.reduceLE, Int.reduceLT, Ze, men]
 rfl
theorem ZfE (x : TControl) (hb : ZD 4294967296 x) (lvl : Nat) (S : Sto) : Sem Go.Proofs.Tryz.prog Qk lvl [.ag ((Zn x).map .tr)] S (ZcG x) S := by
 have b0 : x.name.size <= 4294967296 := hb
 refine Zf Zcx (by simp [ZcG, low, men, Ze]) ?_
 simp only [UO, Zn, zfill, zobs, List.map_cons, List.map_nil, QV, QW, List.set_cons_zero, List.set_cons_succ, EVA, ↓reduceIte, Nat.reduceEqDiff, Nat.reduceMul, reduceCtorEq, Nat.reduceAdd, Nat.reduceSub, Nat.reduceLeDiff, Nat.reduceLT, Int.reduceToNat, Int.reduceLE, Int.reduceLT, Ze, men]
 rfl
theorem ZE (a : (List TControl)) (ha : a.length <= 4294967296) (hb : ∀ y ∈ a, ZD 4294967296 y) (lvl : Nat) (S : Sto) : Sem Go.Proofs.Tryz.prog ZF lvl [.tr (.sl (a.map Zn))] S (.ow 3 (a.map Zn) true) S := by
 refine Zf ZbU trivial ?_
 simp only [W2, List.length_map, bigN, Int.natCast_nonneg, EVA, ↓reduceIte, Nat.reduceEqDiff, Nat.reduceMul, reduceCtorEq, Nat.reduceAdd, Nat.reduceSub, Nat.reduceLeDiff, Nat.reduceLT, Int.reduceToNat, Int.reduceLE, Int.reduceLT, Ze, men]
 refine ⟨by omega, ?_⟩
 refine Z6 (α := Unit) a.length (fun j _ => ⟨lvl, [(0, .tr (.sl (a.map Zn))), (3, .hd (lvl, 224) [] 0 a.length none a.length), (4, iI j)], [(224, .ar 3 (YN Zn [ts ⟨#[]⟩, tv 0, tv 0] a j) true a.length (j * 0))], S⟩) (fun _ _ => True) () ⟨by simp only [EVA, ↓reduceIte, Nat.reduceEqDiff, Nat.reduceMul, reduceCtorEq, Nat.reduceAdd, Nat.reduceSub, Nat.reduceLeDiff, Nat.reduceLT, Int.reduceToNat, Int.reduceLE, Int.reduceLT, Ze, men], by (simp only [XO, EVA, ↓reduceIte, Nat.reduceEqDiff, Nat.reduceMul, reduceCtorEq, Nat.reduceAdd, Nat.reduceSub, Nat.reduceLeDiff, Nat.reduceLT, Int.reduceToNat, Int.reduceLE, Int.reduceLT, Ze, men]) <;> rfl⟩ trivial ?_
 intro j _ hj _
 simp only [List.length_map, EVA, ↓reduceIte, Nat.reduceEqDiff, Nat.reduceMul, reduceCtorEq, Nat.reduceAdd, Nat.reduceSub, Nat.reduceLeDiff, Nat.reduceLT, Int.reduceToNat, Int.reduceLE, Int.reduceLT, Ze, men]
 refine Zu (fun hlt => ?_) (fun hge => ?_)
 ·have hja : j < a.length := by omega
  have ga : (a.map Zn)[j]? = some (Zn a[j]) := by simp [hja]
  have gz : (YN Zn [ts ⟨#[]⟩, tv 0, tv 0] a j)[j]? = some [ts ⟨#[]⟩, tv 0, tv 0] := WQ hja
  have hfl : (YN Zn [ts ⟨#[]⟩, tv 0, tv 0] a j).length = a.length := Ul hj
  have hsem := fun lvl S => ZfE a[j] (hb a[j] (List.getElem_mem hja)) lvl S
  simp only [ga, gz, Int.natCast_nonneg, Nat.le_refl, hja, Zn, ZcG, Nat.reduceLeDiff, EVA, ↓reduceIte, Nat.reduceEqDiff, Nat.reduceMul, reduceCtorEq, Nat.reduceAdd, Nat.reduceSub, Nat.reduceLT, Int.reduceToNat, Int.reduceLE, Int.reduceLT, Ze, men]
  refine Zb hsem ?_
  simp only [ZcG, gz, Int.natCast_nonneg, Nat.le_refl, hja, hfl, YC, List.getElem?_set_self, List.set_set, List.length_set, List.set_cons_zero, List.set_cons_succ, Prod.mk.injEq, ne_eq, not_false_eq_true, EVA, ↓reduceIte, Nat.reduceEqDiff, Nat.reduceMul, reduceCtorEq, Nat.reduceAdd, Nat.reduceSub, Nat.reduceLeDiff, Nat.reduceLT, Int.reduceToNat, Int.reduceLE, Int.reduceLT, Ze, men]
  refine ⟨by rw [Zg]; omega, Zi () hja ?_ trivial⟩
  have hse := WR (c := Zn) (z := [ts ⟨#[]⟩, tv 0, tv 0]) (e := [ts a[j].name, tv a[j].ports, tv a[j].kind_]) hja rfl
  rw [hse, show (j + 1) * 0 = j * 0 from by omega]
  rfl
 ·have : j = a.length := by omega
  subst this
  rw [WP]
  simp
end Go.Fd

/-
  WHAT THE LAW OF CloseName LEANS ON. Own work.
-/
namespace Go.Fd
theorem Zit {α : Type} {f : α -> Nat} {B : Nat} (l : List α) (h : ∀ x ∈ l, f x <= B) {n : Nat} (hl : l.length <= n) : nL f l <= n * B := Nat.le_trans (Zr3 l h) (Nat.mul_le_mul_right _ hl)
theorem ZkP {sig : List TControl} {b : TBigraph} (h : bigOK sig b) : Zl 4294967296 b /\ 1 + (ZI b : Int) <= 4611686018427387904 := by
 refine ⟨WB (by omega) (ZcH h), ?_⟩
 have hs := h.small
 have n1 := Zit (f := JQ) (B := 1002) b.nodes (fun x hx => by have := hs.links x hx; simp only [JQ, ZmZ]; omega) hs.nodes
 have n2 := Zit (f := Xz) (B := 1) b.sites (fun x _ => by simp [Xz]) hs.sites
 have n3 := Zit (f := Ut) (B := 1) b.outer (fun x _ => by simp [Ut]) hs.outer
 have n4 := Zit (f := Y3) (B := 2) b.inner (fun x _ => by simp [Y3]) hs.inner
 unfold ZI
 omega
theorem ZhF : Zl 4294967296 QG /\ 1 + (ZI QG : Int) <= 4611686018427387904 := by
 refine ⟨⟨by simp [QG], by simp [QG], by simp [QG], by simp [QG], by simp [QG], by simp [QG], by simp [QG]⟩, ?_⟩
 simp [ZI, QG, nL]
end Go.Fd

/-
  WHAT THE LAWS' ARGUMENTS READ AS (printed by lawgen.py). Own work.
-/
namespace Go.Fd
set_option maxRecDepth 20000
theorem ZvT : XK Go.Proofs.Tryz.prog 9 (fun n : ByteArray => [ts n]) (fun n => n.size <= 9223372036854775807) := Zf3 Go.Proofs.Tryz.underlying9
theorem Zm1 : XK Go.Proofs.Tryz.prog 3 (fun n : Int => [tv n]) (Q1 .i64) := ZjP Go.Proofs.Tryz.underlying3
theorem ZvU : XK Go.Proofs.Tryz.prog 57 Zn (fun x => ZD 9223372036854775807 x /\ Zgf x) := ZcF (We Go.Proofs.Tryz.underlying57 (show Zb3 Go.Proofs.Tryz.prog 0 [(0, 9), (1, 3), (2, 3)] _ _ from (Jt (k := 1) (by kernel_rfl) (fun _ => rfl) ZvT (Jt (k := 1) (by kernel_rfl) (fun _ => rfl) Zm1 (Jt (k := 1) (by kernel_rfl) (fun _ => rfl) Zm1 DH))))) (fun p => TControl.mk p.1 p.2.1 p.2.2.1) (fun _ => rfl) (fun x h => ⟨h.1, ⟨h.2.1, h.2.2.1⟩⟩)
theorem ZoO : XK Go.Proofs.Tryz.prog 22 (fun l : List TControl => [Tr.sl (l.map Zn)]) (fun l => l.length <= 9223372036854775807 /\ ∀ x ∈ l, (fun x => ZD 9223372036854775807 x /\ Zgf x) x) := XL (k := 2) Go.Proofs.Tryz.underlying22 (by kernel_rfl) (fun _ => rfl) ZvU
theorem Zr7 : XK Go.Proofs.Tryz.prog 24 (fun l : List Int => [Tr.sl (l.map (fun n : Int => [tv n]))]) (fun l => l.length <= 9223372036854775807 /\ ∀ x ∈ l, (Q1 .i64) x) := XL (k := 0) Go.Proofs.Tryz.underlying24 (by kernel_rfl) (fun _ => rfl) Zm1
theorem ZvV : XK Go.Proofs.Tryz.prog 99 ZK (fun x => Q6 9223372036854775807 x /\ ZjU x) := ZcF (We Go.Proofs.Tryz.underlying99 (show Zb3 Go.Proofs.Tryz.prog 0 [(0, 3), (1, 3), (2, 24)] _ _ from (Jt (k := 1) (by kernel_rfl) (fun _ => rfl) Zm1 (Jt (k := 1) (by kernel_rfl) (fun _ => rfl) Zm1 (Jt (k := 1) (by kernel_rfl) (fun _ => rfl) Zr7 DH))))) (fun p => TNode.mk p.1 p.2.1 p.2.2.1) (fun _ => rfl) (fun x h => ⟨h.2.2.1.1, ⟨h.1, h.2.1, (fun y hy => (h.2.2.1.2 y hy))⟩⟩)
theorem ZvW : XK Go.Proofs.Tryz.prog 23 (fun l : List TNode => [Tr.sl (l.map ZK)]) (fun l => l.length <= 9223372036854775807 /\ ∀ x ∈ l, (fun x => Q6 9223372036854775807 x /\ ZjU x) x) := XL (k := 2) Go.Proofs.Tryz.underlying23 (by kernel_rfl) (fun _ => rfl) ZvV
theorem ZvX : XK Go.Proofs.Tryz.prog 25 (fun l : List ByteArray => [Tr.sl (l.map (fun n : ByteArray => [ts n]))]) (fun l => l.length <= 9223372036854775807 /\ ∀ x ∈ l, (fun n => n.size <= 9223372036854775807) x) := XL (k := 0) Go.Proofs.Tryz.underlying25 (by kernel_rfl) (fun _ => rfl) ZvT
theorem Zr8 : XK Go.Proofs.Tryz.prog 102 ZO (fun x => V4 9223372036854775807 x /\ ZjW x) := ZcF (We Go.Proofs.Tryz.underlying102 (show Zb3 Go.Proofs.Tryz.prog 0 [(0, 9), (1, 3)] _ _ from (Jt (k := 1) (by kernel_rfl) (fun _ => rfl) ZvT (Jt (k := 1) (by kernel_rfl) (fun _ => rfl) Zm1 DH)))) (fun p => TWire.mk p.1 p.2.1) (fun _ => rfl) (fun x h => ⟨h.1, h.2.1⟩)
theorem ZvY : XK Go.Proofs.Tryz.prog 26 (fun l : List TWire => [Tr.sl (l.map ZO)]) (fun l => l.length <= 9223372036854775807 /\ ∀ x ∈ l, (fun x => V4 9223372036854775807 x /\ ZjW x) x) := XL (k := 1) Go.Proofs.Tryz.underlying26 (by kernel_rfl) (fun _ => rfl) Zr8
theorem Zi4 : XK Go.Proofs.Tryz.prog 28 Za (fun x => Zl 9223372036854775807 x /\ Zx x) := ZcF (We Go.Proofs.Tryz.underlying28 (show Zb3 Go.Proofs.Tryz.prog 0 [(0, 3), (1, 23), (2, 24), (3, 3), (4, 25), (5, 26)] _ _ from (Jt (k := 1) (by kernel_rfl) (fun _ => rfl) Zm1 (Jt (k := 1) (by kernel_rfl) (fun _ => rfl) ZvW (Jt (k := 1) (by kernel_rfl) (fun _ => rfl) Zr7 (Jt (k := 1) (by kernel_rfl) (fun _ => rfl) Zm1 (Jt (k := 1) (by kernel_rfl) (fun _ => rfl) ZvX (Jt (k := 1) (by kernel_rfl) (fun _ => rfl) ZvY DH)))))))) (fun p => TBigraph.mk p.1 p.2.1 p.2.2.1 p.2.2.2.1 p.2.2.2.2.1 p.2.2.2.2.2.1) (fun _ => rfl) (fun x h => ⟨⟨h.2.1.1, (fun y hy => (h.2.1.2 y hy).1), h.2.2.1.1, h.2.2.2.2.1.1, (fun y hy => (h.2.2.2.2.1.2 y hy)), h.2.2.2.2.2.1.1, (fun y hy => (h.2.2.2.2.2.1.2 y hy).1)⟩, ⟨h.1, (fun y hy => (h.2.1.2 y hy).2), (fun y hy => (h.2.2.1.2 y hy)), h.2.2.2.1, (fun y hy => (h.2.2.2.2.2.1.2 y hy).2)⟩⟩)
end Go.Fd

/-
  THE MERGED PRODUCT, IN PLAIN TERMS. Own work.
-/
namespace Go.Fd
set_option maxRecDepth 20000
def ZgO (p : Int) : Int := max (-1) p
def Zm2 (x : TNode) : TNode := ⟨x.control, ZgO x.parent, x.links⟩
def ZfF (b : TBigraph) : TBigraph := ⟨1, b.nodes.map Zm2, b.sites.map ZgO, b.edges, b.outer, b.inner⟩
def ZkQ (b : TBigraph) : Prop := 0 <= b.roots /\ (∀ x ∈ b.nodes, -b.roots <= x.parent) /\ ∀ p ∈ b.sites, -b.roots <= p
theorem DM {sig : List TControl} {b : TBigraph} {p U3 : Int} (h : -b.roots <= p) : W0 sig (ZfF b) (ZgO p) U3 ↔ W0 sig b p U3 := by
 unfold W0 ZgO
 by_cases h0 : 0 <= p
 ·rw [show max (-1) p = p by omega]
  have e : Zgq (ZfF b) p = Zgq b p := by
   unfold Zgq ZfF
   rw [List.getElem?_map]
   cases b.nodes[p.toNat]? <;> rfl
  rw [e]
  constructor
  ·rintro (q | q)
   ·omega
   ·exact .inr q
  ·rintro (q | q)
   ·omega
   ·exact .inr q
 ·have e : max (-1) p = -1 := by omega
  rw [e]
  constructor
  ·intro _
   exact .inl ⟨by omega, h⟩
  ·intro _
   refine .inl ⟨by omega, ?_⟩
   show -(1 : Int) <= -1
   omega
theorem ZkR {sig : List TControl} {b : TBigraph} (h : ZkQ b) : bigOK sig (ZfF b) /\ b.roots <= 4 ↔ bigOK sig b := by
 obtain ⟨h0, h1, h2⟩ := h
 have hl : (ZfF b).nodes.length = b.nodes.length := List.length_map ..
 have hs : (ZfF b).sites.length = b.sites.length := List.length_map ..
 constructor
 ·rintro ⟨g, hr⟩
  refine ⟨g.sg, ⟨h0, hr⟩, by rw [<- hl]; exact g.nodesL, by rw [<- hs]; exact g.sitesL, g.edges, g.outer, g.inn, fun i hi => ?_, fun p hp => ?_, g.inner⟩
  ·have q := g.nodes i (by rw [hl]; exact hi)
   have e : (ZfF b).nodes[i]'(by rw [hl]; exact hi) = Zm2 b.nodes[i] := by simp [ZfF]
   rw [e] at q
   exact ⟨q.ctl, (DM (h1 _ (List.getElem_mem hi))).1 q.par, q.ports, q.links⟩
  ·have q := g.sites (ZgO p) (List.mem_map.2 ⟨p, hp, rfl⟩)
   rw [hl] at q
   exact (DM (h2 p hp)).1 q
 ·intro g
  refine ⟨⟨g.sg, by show (0 : Int) <= 1 /\ (1 : Int) <= 4; omega, by rw [hl]; exact g.nodesL, by rw [hs]; exact g.sitesL, g.edges, g.outer, g.inn, fun i hi => ?_, fun p hp => ?_, g.inner⟩, g.roots.2⟩
  ·have hi2 : i < b.nodes.length := by rw [<- hl]; exact hi
   have q := g.nodes i hi2
   have e : (ZfF b).nodes[i] = Zm2 b.nodes[i] := by simp [ZfF]
   rw [e]
   exact ⟨q.ctl, (DM (h1 _ (List.getElem_mem hi2))).2 q.par, q.ports, q.links⟩
  ·obtain ⟨p0, hp0, rfl⟩ := List.mem_map.1 hp
   rw [hl]
   exact (DM (h2 p0 hp0)).2 (g.sites p0 hp0)
theorem ZbW {sig : List TControl} {a b : TBigraph} (ha : bigOK sig a) (hb : bigOK sig b) : ZkQ (Zax a b) := by
 have ra := ha.roots; have rb := hb.roots
 have hbes : ∀ p, -b.roots <= p -> -(a.roots + b.roots) <= Zhv a p := fun p hp => by
  unfold Zhv
  split <;> omega
 refine ⟨?_, fun x hx => ?_, fun p hp => ?_⟩
 ·show 0 <= a.roots + b.roots
  omega
 ·show -(a.roots + b.roots) <= x.parent
  rcases List.mem_append.1 hx with hx | hx
  ·obtain ⟨y, hy, rfl⟩ := List.mem_map.1 hx
   obtain ⟨k, hk, rfl⟩ := List.getElem_of_mem hy
   have := Yi ra.1 (ha.nodes k hk).par
   show _ <= (a.nodes[k]).parent
   omega
  ·obtain ⟨y, hy, rfl⟩ := List.mem_map.1 hx
   obtain ⟨k, hk, rfl⟩ := List.getElem_of_mem hy
   exact hbes _ (Yi rb.1 (hb.nodes k hk).par)
 ·show -(a.roots + b.roots) <= p
  rcases List.mem_append.1 hp with hp | hp
  ·have := Yi ra.1 (ha.sites p hp)
   omega
  ·obtain ⟨y, hy, rfl⟩ := List.mem_map.1 hp
   exact hbes _ (Yi rb.1 (hb.sites y hy))
theorem Zr9 {n : Nat} {b : TBigraph} (h : Zl n b) : Zl n (ZfF b) := by
 obtain ⟨b1, b2, b3, b4, b5, b6, b7⟩ := h
 refine ⟨by simpa [ZfF] using b1, fun y hy => ?_, by simpa [ZfF] using b3, b4, b5, b6, b7⟩
 obtain ⟨x, hx, rfl⟩ := List.mem_map.1 hy
 exact b2 x hx
theorem ZkS {p : Int} (h : Q1 .i64 p) : Q1 .i64 (ZgO p) := by
 rw [Zg] at *
 unfold ZgO
 omega
theorem Zsa {b : TBigraph} (h : Zx b) : Zx (ZfF b) := by
 obtain ⟨f1, f2, f3, f4, f5⟩ := h
 refine ⟨by rw [Zg, show (ZfF b).roots = 1 from rfl]; omega, fun y hy => ?_, fun y hy => ?_, f4, f5⟩
 ·obtain ⟨x, hx, rfl⟩ := List.mem_map.1 hy
  obtain ⟨g1, g2, g3⟩ := f2 x hx
  exact ⟨g1, ZkS g2, g3⟩
 ·obtain ⟨x, hx, rfl⟩ := List.mem_map.1 hy
  exact ZkS (f3 x hx)
theorem Ziu {b : TBigraph} {n : Nat} (hn : b.roots = n) {p : Int} (h : -b.roots <= p) : Zeo 0 (List.replicate n (-1)) p = ZgO p := by
 unfold Zeo ZgO
 by_cases h0 : 0 <= p
 ·rw [if_neg (by omega)]
  omega
 ·rw [if_pos (by omega)]
  have hk : (-1 - p).toNat < n := by omega
  show (List.replicate n (-1 : Int)).getD _ 0 = _
  rw [List.getD_eq_getElem?_getD, List.getElem?_replicate, if_pos hk]
  show (-1 : Int) = _
  omega
noncomputable def ZdG (a b : TBigraph) : TBigraph := ZfF (Zax a b)
open Classical in
noncomputable def Zs (sig : List TControl) (a b : TBigraph) : TBigraph := if YU sig a b then ZdG a b else QG
noncomputable def Ys (sig : List TControl) (a b : TBigraph) : Bool := dc (YU sig a b)
end Go.Fd

/-
  THE MERGED PRODUCT, BOTH SIDES. Own work.
-/
namespace Go.Fd
set_option maxRecDepth 20000
def prt {α : Type} (f : α -> α) (l : List α) (j : Nat) : List α := (l.take j).map f ++ l.drop j
theorem ZoP {α : Type} {f : α -> α} {l : List α} : prt f l 0 = l := by simp [prt]
theorem ZoQ {α : Type} {f : α -> α} {l : List α} : prt f l l.length = l.map f := by simp [prt]
theorem ZbX {α : Type} {f : α -> α} {l : List α} {j : Nat} : (prt f l j).length = l.length := by simp [prt]; omega
theorem ZkT {α : Type} {f : α -> α} {l : List α} {j : Nat} (h : j < l.length) : (prt f l j)[j]? = some l[j] := by
 have : ((l.take j).map f).length = j := by rw [List.length_map, List.length_take]; omega
 rw [prt, List.getElem?_append_right (by omega), this, List.getElem?_drop]
 simp [h]
theorem ZkU {α : Type} {f : α -> α} {l : List α} {j : Nat} (h : j < l.length) : (prt f l j).set j (f l[j]) = prt f l (j + 1) := by
 have hl : ((l.take j).map f).length = j := by rw [List.length_map, List.length_take]; omega
 unfold prt
 rw [List.set_append_right _ _ (by omega), hl, Nat.sub_self, List.drop_eq_getElem_cons h, List.set_cons_zero, List.take_succ_eq_append_getElem h, List.map_append, List.append_assoc]
 rfl
theorem ZhG {l : List TNode} {j : Nat} (h : j < l.length) : ((prt Zm2 l j).map ZK)[j]? = some [tv l[j].control, tv l[j].parent, Tr.sl (rI l[j].links)] := by rw [List.getElem?_map, ZkT h]; rfl
theorem ZkV {l : List TNode} {j : Nat} (h : j < l.length) : YC ((prt Zm2 l j).map ZK) [] j 1 (Tr.v (.int .i64 (max (-1) l[j].parent))) = (prt Zm2 l (j + 1)).map ZK := by
 rw [Zfs (ZhG h), <- ZkU h, List.map_set]
 rfl
theorem Zmj {l : List Int} {j : Nat} (h : j < l.length) : (rI (prt ZgO l j))[j]? = some [tv l[j]] := by
 show ((prt ZgO l j).map _)[j]? = _
 rw [List.getElem?_map, ZkT h]
 rfl
theorem Zmk {l : List Int} {j : Nat} (h : j < l.length) : YC (rI (prt ZgO l j)) [] j 0 (Tr.v (.int .i64 (max (-1) l[j]))) = rI (prt ZgO l (j + 1)) := by
 rw [ZmO (by rw [ZbX]; exact h), show max (-1) l[j] = ZgO l[j] from rfl, ZkU h]
theorem ZdH (b : TBigraph) (hb : Zl 4294967290 b) (lvl : Nat) (S : Sto) : Sem Go.Proofs.Tryz.prog JX lvl [.ag ((Za b).map .tr)] S (Zc (ZfF b)) S := by
 refine Zf X5 (by simp [Zc, low, men, Ze]) ?_
 simp only [Vj, Za, EVA, ↓reduceIte, Nat.reduceEqDiff, Nat.reduceMul, reduceCtorEq, Nat.reduceAdd, Nat.reduceSub, Nat.reduceLeDiff, Nat.reduceLT, Int.reduceToNat, Int.reduceLE, Int.reduceLT, Ze, men]
 have q := WA b hb
 simp only [Za, List.map_cons, List.map_nil] at q
 obtain ⟨b1, b2, b3, b4, b5, b6, b7⟩ := hb
 refine Zb q ?_
 simp only [Zc, Za, List.length_map, EVA, ↓reduceIte, Nat.reduceEqDiff, Nat.reduceMul, reduceCtorEq, Nat.reduceAdd, Nat.reduceSub, Nat.reduceLeDiff, Nat.reduceLT, Int.reduceToNat, Int.reduceLE, Int.reduceLT, Ze, men]
 refine Z9 (α := Unit) b.nodes.length (fun j _ => [(14, iI j)]) (fun j _ => [(288, .ar 3 ((prt Zm2 b.nodes j).map ZK) true b.nodes.length 0)]) (fun _ _ => True) () (by simp only [EVA, ↓reduceIte, Nat.reduceEqDiff, Nat.reduceMul, reduceCtorEq, Nat.reduceAdd, Nat.reduceSub, Nat.reduceLeDiff, Nat.reduceLT, Int.reduceToNat, Int.reduceLE, Int.reduceLT, Ze, men]) (by (simp only [ZoP, EVA, ↓reduceIte, Nat.reduceEqDiff, Nat.reduceMul, reduceCtorEq, Nat.reduceAdd, Nat.reduceSub, Nat.reduceLeDiff, Nat.reduceLT, Int.reduceToNat, Int.reduceLE, Int.reduceLT, Ze, men]) <;> rfl) trivial ?_
 intro j _ hj _
 simp only [List.length_map, EVA, ↓reduceIte, Nat.reduceEqDiff, Nat.reduceMul, reduceCtorEq, Nat.reduceAdd, Nat.reduceSub, Nat.reduceLeDiff, Nat.reduceLT, Int.reduceToNat, Int.reduceLE, Int.reduceLT, Ze, men]
 refine Zu (fun hlt => ?_) (fun hge => ?_)
 ·have hja : j < b.nodes.length := by omega
  have ga := ZhG hja
  have hst := ZkV hja
  simp only [ga, hst, hja, ZbX, List.length_map, EVA, ↓reduceIte, Nat.reduceEqDiff, Nat.reduceMul, reduceCtorEq, Nat.reduceAdd, Nat.reduceSub, Nat.reduceLeDiff, Nat.reduceLT, Int.reduceToNat, Int.reduceLE, Int.reduceLT, Ze, men]
  exact ⟨by rw [Zg]; omega, Zi () hja rfl trivial⟩
 ·have : j = b.nodes.length := by omega
  subst this
  rw [ZoQ]
  refine Z9 (α := Unit) b.sites.length (fun j _ => [(31, iI j)]) (fun j _ => [(289, .ar 1 (rI (prt ZgO b.sites j)) true b.sites.length 0)]) (fun _ _ => True) () (by simp only [EVA, ↓reduceIte, Nat.reduceEqDiff, Nat.reduceMul, reduceCtorEq, Nat.reduceAdd, Nat.reduceSub, Nat.reduceLeDiff, Nat.reduceLT, Int.reduceToNat, Int.reduceLE, Int.reduceLT, Ze, men]) (by (simp only [ZoP, EVA, ↓reduceIte, Nat.reduceEqDiff, Nat.reduceMul, reduceCtorEq, Nat.reduceAdd, Nat.reduceSub, Nat.reduceLeDiff, Nat.reduceLT, Int.reduceToNat, Int.reduceLE, Int.reduceLT, Ze, men]) <;> rfl) trivial ?_
  intro j _ hj _
  simp only [List.length_map, EVA, ↓reduceIte, Nat.reduceEqDiff, Nat.reduceMul, reduceCtorEq, Nat.reduceAdd, Nat.reduceSub, Nat.reduceLeDiff, Nat.reduceLT, Int.reduceToNat, Int.reduceLE, Int.reduceLT, Ze, men]
  refine Zu (fun hlt => ?_) (fun hge => ?_)
  ·have hja : j < b.sites.length := by omega
   have ga := Zmj hja
   have hst := Zmk hja
   simp only [ga, hst, hja, ZbX, List.length_map, EVA, ↓reduceIte, Nat.reduceEqDiff, Nat.reduceMul, reduceCtorEq, Nat.reduceAdd, Nat.reduceSub, Nat.reduceLeDiff, Nat.reduceLT, Int.reduceToNat, Int.reduceLE, Int.reduceLT, Ze, men]
   exact ⟨by rw [Zg]; omega, Zi () hja rfl trivial⟩
  ·have : j = b.sites.length := by omega
   subst this
   rw [ZoQ]
   simp only [ZbX, List.length_map, EVA, ↓reduceIte, Nat.reduceEqDiff, Nat.reduceMul, reduceCtorEq, Nat.reduceAdd, Nat.reduceSub, Nat.reduceLeDiff, Nat.reduceLT, Int.reduceToNat, Int.reduceLE, Int.reduceLT, Ze, men]
   try rfl
structure easy (b : TBigraph) : Prop where
 root : ZkQ b
 bd : Zl 4294967290 b
 r4 : b.roots <= 4294967290
 edges : 0 <= b.edges /\ b.edges <= 4294967290
 par : ∀ x ∈ b.nodes, x.parent < b.nodes.length /\ ∀ l ∈ x.links, 0 <= l
 site : ∀ p ∈ b.sites, p < b.nodes.length
 link : ∀ w ∈ b.inner, 0 <= w.link
theorem ZkW {n : Nat} : rI (List.replicate n (-1)) ++ [[tv (-1)]] = rI (List.replicate (n + 1) (-1)) := by
 rw [List.replicate_succ', UE]
 rfl
theorem ZkX (b : TBigraph) (h : easy b) (lvl : Nat) (S : Sto) : Sem Go.Proofs.Tryz.prog Wv lvl [.ag ((Za b).map .tr)] S (Zc (ZfF b)) S := by
 obtain ⟨E, hE⟩ : ∃ E : Nat, b.edges = E := ⟨b.edges.toNat, by have := h.edges; omega⟩
 obtain ⟨R, hR⟩ : ∃ R : Nat, b.roots = R := ⟨b.roots.toNat, by have := h.root.1; omega⟩
 have hr4 := h.r4; have he4 := h.edges
 have hbd := h.bd
 obtain ⟨b1, b2, b3, b4, b5, b6, b7⟩ := h.bd
 refine Zf Zgi (by simp [Zc, low, men, Ze]) ?_
 simp only [Zb7, Za, EVA, ↓reduceIte, Nat.reduceEqDiff, Nat.reduceMul, reduceCtorEq, Nat.reduceAdd, Nat.reduceSub, Nat.reduceLeDiff, Nat.reduceLT, Int.reduceToNat, Int.reduceLE, Int.reduceLT, Ze, men]
 have q := Zkv b E hE hbd (by omega) h.par h.site h.link
 simp only [Za, List.map_cons, List.map_nil] at q
 refine Zb q ?_
 simp only [Zc, Za, List.length_map, EVA, ↓reduceIte, Nat.reduceEqDiff, Nat.reduceMul, reduceCtorEq, Nat.reduceAdd, Nat.reduceSub, Nat.reduceLeDiff, Nat.reduceLT, Int.reduceToNat, Int.reduceLE, Int.reduceLT, Ze, men]
 refine Z9 (α := Unit) R (fun j _ => [(4, .hd (lvl, 288) [] 0 j none j), (5, iI j)]) (fun j _ => [(288, .ar 1 (rI (List.replicate j (-1))) true j 0)]) (fun _ _ => True) () (by simp only [EVA, ↓reduceIte, Nat.reduceEqDiff, Nat.reduceMul, reduceCtorEq, Nat.reduceAdd, Nat.reduceSub, Nat.reduceLeDiff, Nat.reduceLT, Int.reduceToNat, Int.reduceLE, Int.reduceLT, Ze, men]) (by (simp only [EVA, ↓reduceIte, Nat.reduceEqDiff, Nat.reduceMul, reduceCtorEq, Nat.reduceAdd, Nat.reduceSub, Nat.reduceLeDiff, Nat.reduceLT, Int.reduceToNat, Int.reduceLE, Int.reduceLT, Ze, men]) <;> rfl) trivial ?_
 intro j _ hj _
 simp only [hR, List.length_map, EVA, ↓reduceIte, Nat.reduceEqDiff, Nat.reduceMul, reduceCtorEq, Nat.reduceAdd, Nat.reduceSub, Nat.reduceLeDiff, Nat.reduceLT, Int.reduceToNat, Int.reduceLE, Int.reduceLT, Ze, men]
 refine Zu (fun hlt => ?_) (fun hge => ?_)
 ·have hja : j < R := by omega
  simp only [ZkW, hja, List.length_map, EVA, ↓reduceIte, Nat.reduceEqDiff, Nat.reduceMul, reduceCtorEq, Nat.reduceAdd, Nat.reduceSub, Nat.reduceLeDiff, Nat.reduceLT, Int.reduceToNat, Int.reduceLE, Int.reduceLT, Ze, men]
  exact ⟨by omega, by rw [Zg]; omega, Zi () hja rfl trivial⟩
 ·have : j = R := by omega
  subst this
  have hlr : (List.replicate j (-1 : Int)).length = j := List.length_replicate
  have hcr : cut (rI (List.replicate j (-1))) 0 j = rI (List.replicate j (-1)) := Dm (by rw [List.length_map, hlr])
  have hroot := h.root
  have hpar : ∀ p, -b.roots <= p -> p < 4294967296 -> (-4294967296 <= p /\ p <= 4294967296) /\ (p < 0 -> (-1 - p).toNat < (List.replicate j (-1 : Int)).length) := fun p h1 h2 => ⟨by omega, fun h3 => by rw [hlr]; omega⟩
  refine Z9 (α := Unit) b.nodes.length (fun j _ => [(6, iI j)]) (fun j _ => [(256, .ar 3 ((prt Zm2 b.nodes j).map ZK) true b.nodes.length 0)]) (fun _ _ => True) () (by simp only [EVA, ↓reduceIte, Nat.reduceEqDiff, Nat.reduceMul, reduceCtorEq, Nat.reduceAdd, Nat.reduceSub, Nat.reduceLeDiff, Nat.reduceLT, Int.reduceToNat, Int.reduceLE, Int.reduceLT, Ze, men]) (by (simp only [ZoP, EVA, ↓reduceIte, Nat.reduceEqDiff, Nat.reduceMul, reduceCtorEq, Nat.reduceAdd, Nat.reduceSub, Nat.reduceLeDiff, Nat.reduceLT, Int.reduceToNat, Int.reduceLE, Int.reduceLT, Ze, men]) <;> rfl) trivial ?_
  intro i _ hi _
  simp only [List.length_map, EVA, ↓reduceIte, Nat.reduceEqDiff, Nat.reduceMul, reduceCtorEq, Nat.reduceAdd, Nat.reduceSub, Nat.reduceLeDiff, Nat.reduceLT, Int.reduceToNat, Int.reduceLE, Int.reduceLT, Ze, men]
  refine Zu (fun hlt => ?_) (fun hge => ?_)
  ·have hia : i < b.nodes.length := by omega
   have ga := ZhG hia
   have hst := ZkV hia
   have hx := List.getElem_mem hia
   have hp1 := hroot.2.1 _ hx
   have hp2 := (h.par _ hx).1
   obtain ⟨g1, g2⟩ := hpar _ hp1 (by omega)
   have e := Ziu hR hp1
   simp only [ga, hcr, hia, ZbX, List.length_map, EVA, ↓reduceIte, Nat.reduceEqDiff, Nat.reduceMul, reduceCtorEq, Nat.reduceAdd, Nat.reduceSub, Nat.reduceLeDiff, Nat.reduceLT, Int.reduceToNat, Int.reduceLE, Int.reduceLT, Ze, men]
   refine Zb (Do b.nodes[i].parent 0 (List.replicate j (-1)) g1 (by omega) g2) ?_
   rw [e]
   unfold ZgO
   simp only [ga, hst, hia, ZbX, List.length_map, EVA, ↓reduceIte, Nat.reduceEqDiff, Nat.reduceMul, reduceCtorEq, Nat.reduceAdd, Nat.reduceSub, Nat.reduceLeDiff, Nat.reduceLT, Int.reduceToNat, Int.reduceLE, Int.reduceLT, Ze, men]
   exact ⟨by rw [Zg]; omega, Zi () hia rfl trivial⟩
  ·have : i = b.nodes.length := by omega
   subst this
   rw [ZoQ]
   have qs := Zar b 0 (List.replicate j (-1)) (by omega) (by omega) fun p hp => by
    have := h.site p hp
    exact hpar p (hroot.2.2 p hp) (by omega)
   rw [show b.sites.map (Zeo 0 (List.replicate j (-1))) = b.sites.map ZgO from List.map_congr_left fun p hp => Ziu hR (hroot.2.2 p hp)] at qs
   simp only [Za, hR, List.map_cons, List.map_nil] at qs
   simp only [Za, hcr, hR, List.length_map, EVA, ↓reduceIte, Nat.reduceEqDiff, Nat.reduceMul, reduceCtorEq, Nat.reduceAdd, Nat.reduceSub, Nat.reduceLeDiff, Nat.reduceLT, Int.reduceToNat, Int.reduceLE, Int.reduceLT, Ze, men]
   refine Zb qs ?_
   simp only [ZfF, List.length_map, EVA, ↓reduceIte, Nat.reduceEqDiff, Nat.reduceMul, reduceCtorEq, Nat.reduceAdd, Nat.reduceSub, Nat.reduceLeDiff, Nat.reduceLT, Int.reduceToNat, Int.reduceLE, Int.reduceLT, Ze, men]
   try rfl
theorem ZkY {sig : List TControl} {a b : TBigraph} (ha : bigOK sig a) (hb : bigOK sig b) {l : Int} (hl : Jd a l) : 0 <= g0 (ZiU a b) l.toNat := by
 have ea := ha.edges; have eb := hb.edges
 unfold ZiU Zma
 rcases Vg hl with ⟨h0, h1⟩ | ⟨i, hi, rfl⟩
 ·rw [Zel h0 h1]; omega
 ·rw [Zem ea.1 hi]
  have : a.outer[i] ∈ Xy a b := setS_mem.2 (List.mem_append.2 (.inl (List.getElem_mem hi)))
  have := ixS_nn.2 this
  omega
theorem ZkZ {sig : List TControl} {a b : TBigraph} (ha : bigOK sig a) (hb : bigOK sig b) {l : Int} (hl : Jd b l) : 0 <= g0 (ZkC a b) l.toNat := by
 have ea := ha.edges; have eb := hb.edges
 unfold ZkC ZmR
 rcases Vg hl with ⟨h0, h1⟩ | ⟨i, hi, rfl⟩
 ·rw [Zel h0 h1]; omega
 ·rw [Zem eb.1 hi]
  have : b.outer[i] ∈ Xy a b := setS_mem.2 (List.mem_append.2 (.inr (List.getElem_mem hi)))
  have := ixS_nn.2 this
  omega
theorem Zml {sig : List TControl} {a b : TBigraph} (ha : bigOK sig a) (hb : bigOK sig b) : easy (Zax a b) := by
 have ra := ha.roots; have rb := hb.roots
 have ea := ha.edges; have eb := hb.edges
 have a1 := ha.small.nodes; have b1 := hb.small.nodes
 have hlen : (Zax a b).nodes.length = a.nodes.length + b.nodes.length := by
  simp [Zax, ZoI, Zo3, Zbh]
 have hbes : ∀ p : Int, p < b.nodes.length -> Zhv a p < (a.nodes.length + b.nodes.length : Nat) := fun p hp => by
  unfold Zhv
  split <;> omega
 refine ⟨ZbW ha hb, Zcg ha hb, by show a.roots + b.roots <= _; omega, by show 0 <= a.edges + b.edges /\ a.edges + b.edges <= _; omega, fun x hx => ?_, fun p hp => ?_, fun w hw => ?_⟩
 ·rw [hlen]
  rcases List.mem_append.1 hx with hx | hx
  ·obtain ⟨y, hy, rfl⟩ := List.mem_map.1 hx
   obtain ⟨k, hk, rfl⟩ := List.getElem_of_mem hy
   have h1 := (Zdw ha hy).1
   refine ⟨by show (a.nodes[k]).parent < _; omega, fun l hl => ?_⟩
   obtain ⟨l0, hl0, rfl⟩ := List.mem_map.1 hl
   exact ZkY ha hb ((ha.nodes k hk).links l0 hl0)
  ·obtain ⟨y, hy, rfl⟩ := List.mem_map.1 hx
   obtain ⟨k, hk, rfl⟩ := List.getElem_of_mem hy
   have h1 := (Zdw hb hy).1
   refine ⟨hbes _ h1, fun l hl => ?_⟩
   obtain ⟨l0, hl0, rfl⟩ := List.mem_map.1 hl
   exact ZkZ ha hb ((hb.nodes k hk).links l0 hl0)
 ·rw [hlen]
  rcases List.mem_append.1 hp with hp | hp
  ·have := DK ha hp
   omega
  ·obtain ⟨y, hy, rfl⟩ := List.mem_map.1 hp
   exact hbes _ (DK hb hy)
 ·rcases Zhx hw with h | h
  ·obtain ⟨x, hx, rfl⟩ := List.mem_map.1 h
   exact ZkY ha hb (ha.inner x hx)
  ·obtain ⟨x, hx, rfl⟩ := List.mem_map.1 h
   exact ZkZ ha hb (hb.inner x hx)
theorem Yj (sig : List TControl) (a b : TBigraph) (hn : sig.length <= 4294967296) (hbs : ∀ y ∈ sig, ZD 4294967296 y) (hba : Zl 4294967296 a) (hbb : Zl 4294967296 b) (fa : Zx a) (fb : Zx b) (lvl : Nat) (S : Sto) : Sem Go.Proofs.Tryz.prog Yc lvl [.tr (.sl (sig.map Zn)), .ag ((Za a).map .tr), .ag ((Za b).map .tr)] S (.tu [Zc (Zs sig a b), iB (Ys sig a b)]) S := by
 refine Zf Zan (by simp [Zc, low, men, Ze]) ?_
 simp only [XY, Za, EVA, ↓reduceIte, Nat.reduceEqDiff, Nat.reduceMul, reduceCtorEq, Nat.reduceAdd, Nat.reduceSub, Nat.reduceLeDiff, Nat.reduceLT, Int.reduceToNat, Int.reduceLE, Int.reduceLT, Ze, men]
 have q := Z8 sig a b hn hbs hba hbb fa fb
 unfold Zk Jh at q
 simp only [Za, List.map_cons, List.map_nil] at q
 unfold Zs Ys
 by_cases hq : YU sig a b
 ·rw [if_pos hq, Jn hq] at q
  rw [if_pos hq, Jn hq]
  refine Zb q ?_
  have qm := ZdH (Zax a b) (Zcg hq.1 hq.2.1)
  simp only [Za, List.map_cons, List.map_nil] at qm
  simp only [Zc, Zh, List.length_map, EVA, ↓reduceIte, Nat.reduceEqDiff, Nat.reduceMul, reduceCtorEq, Nat.reduceAdd, Nat.reduceSub, Nat.reduceLeDiff, Nat.reduceLT, Int.reduceToNat, Int.reduceLE, Int.reduceLT, Ze, men]
  refine Zb qm ?_
  simp only [Zc, List.length_map, EVA, ↓reduceIte, Nat.reduceEqDiff, Nat.reduceMul, reduceCtorEq, Nat.reduceAdd, Nat.reduceSub, Nat.reduceLeDiff, Nat.reduceLT, Int.reduceToNat, Int.reduceLE, Int.reduceLT, Ze, men]
  try rfl
 ·rw [if_neg hq, Zp hq] at q
  rw [if_neg hq, Zp hq]
  refine Zb q ?_
  simp only [Zc, List.length_map, EVA, ↓reduceIte, Nat.reduceEqDiff, Nat.reduceMul, reduceCtorEq, Nat.reduceAdd, Nat.reduceSub, Nat.reduceLeDiff, Nat.reduceLT, Int.reduceToNat, Int.reduceLE, Int.reduceLT, Ze, men]
  try rfl
theorem W4 (sig : List TControl) (a b : TBigraph) (hn : sig.length <= 4294967296) (hbs : ∀ y ∈ sig, ZD 4294967296 y) (hba : Zl 4294967296 a) (hbb : Zl 4294967296 b) (fa : Zx a) (fb : Zx b) (lvl : Nat) (S : Sto) : Sem Go.Proofs.Tryz.prog JN lvl [.tr (.sl (sig.map Zn)), .ag ((Za a).map .tr), .ag ((Za b).map .tr)] S (.tu [@ite IV (YU sig a b) (Classical.propDecidable _) (.ag ((Za (ZdG a b)).map .tr)) (Zc QG), iB (dc (YU sig a b))]) S := by
 refine Zf Zam (by split <;> simp [Zc, Za, low, men, Ze]) ?_
 simp only [XX, Za, EVA, ↓reduceIte, Nat.reduceEqDiff, Nat.reduceMul, reduceCtorEq, Nat.reduceAdd, Nat.reduceSub, Nat.reduceLeDiff, Nat.reduceLT, Int.reduceToNat, Int.reduceLE, Int.reduceLT, Ze, men]
 have i1 := V6 sig a hn hbs hba fa
 have i2 := V6 sig b hn hbs hbb fb
 simp only [Za, List.map_cons, List.map_nil] at i1 i2
 refine Zb i1 ?_
 cases h1 : dc (bigOK sig a)
 ·have hno : ¬ YU sig a b := fun g => dc_not.1 h1 g.1
  rw [if_neg hno, Zp hno]
  simp only [EVA, ↓reduceIte, Nat.reduceEqDiff, Nat.reduceMul, reduceCtorEq, Nat.reduceAdd, Nat.reduceSub, Nat.reduceLeDiff, Nat.reduceLT, Int.reduceToNat, Int.reduceLE, Int.reduceLT, Ze, men]
  rfl
 have hA := dc_iff.1 h1
 simp only [Za, List.length_map, EVA, ↓reduceIte, Nat.reduceEqDiff, Nat.reduceMul, reduceCtorEq, Nat.reduceAdd, Nat.reduceSub, Nat.reduceLeDiff, Nat.reduceLT, Int.reduceToNat, Int.reduceLE, Int.reduceLT, Ze, men]
 refine Zb i2 ?_
 cases h2 : dc (bigOK sig b)
 ·have hno : ¬ YU sig a b := fun g => dc_not.1 h2 g.2.1
  rw [if_neg hno, Zp hno]
  simp only [EVA, ↓reduceIte, Nat.reduceEqDiff, Nat.reduceMul, reduceCtorEq, Nat.reduceAdd, Nat.reduceSub, Nat.reduceLeDiff, Nat.reduceLT, Int.reduceToNat, Int.reduceLE, Int.reduceLT, Ze, men]
  rfl
 have hB := dc_iff.1 h2
 simp only [Za, List.length_map, EVA, ↓reduceIte, Nat.reduceEqDiff, Nat.reduceMul, reduceCtorEq, Nat.reduceAdd, Nat.reduceSub, Nat.reduceLeDiff, Nat.reduceLT, Int.reduceToNat, Int.reduceLE, Int.reduceLT, Ze, men]
 have sa := hA.small; have sb := hB.small
 have a3 := sa.inner; have b3 := sb.inner
 have n1 := V1 a (by omega)
 have n2 := V1 b (by omega)
 simp only [Za, List.map_cons, List.map_nil] at n1 n2
 refine Zb n1 ?_
 simp only [Za, List.length_map, EVA, ↓reduceIte, Nat.reduceEqDiff, Nat.reduceMul, reduceCtorEq, Nat.reduceAdd, Nat.reduceSub, Nat.reduceLeDiff, Nat.reduceLT, Int.reduceToNat, Int.reduceLE, Int.reduceLT, Ze, men]
 refine Zb n2 ?_
 simp only [Za, List.length_map, EVA, ↓reduceIte, Nat.reduceEqDiff, Nat.reduceMul, reduceCtorEq, Nat.reduceAdd, Nat.reduceSub, Nat.reduceLeDiff, Nat.reduceLT, Int.reduceToNat, Int.reduceLE, Int.reduceLT, Ze, men]
 refine Zb (Uq (inn a) (inn b) (by rw [Xn]; omega) (by rw [Xn]; omega)) ?_
 cases h3 : dc (∀ x ∈ inn a, x ∉ inn b)
 ·have hno : ¬ YU sig a b := fun g => dc_not.1 h3 g.2.2.1
  rw [if_neg hno, Zp hno]
  simp only [EVA, ↓reduceIte, Nat.reduceEqDiff, Nat.reduceMul, reduceCtorEq, Nat.reduceAdd, Nat.reduceSub, Nat.reduceLeDiff, Nat.reduceLT, Int.reduceToNat, Int.reduceLE, Int.reduceLT, Ze, men]
  rfl
 have hD := dc_iff.1 h3
 simp only [Za, EVA, ↓reduceIte, Nat.reduceEqDiff, Nat.reduceMul, reduceCtorEq, Nat.reduceAdd, Nat.reduceSub, Nat.reduceLeDiff, Nat.reduceLT, Int.reduceToNat, Int.reduceLE, Int.reduceLT, Ze, men]
 have qc := ZbR sig a b hA hB
 have hiff := ZkR (ZbW hA hB) (sig := sig)
 simp only [Za, ZmW, List.map_cons, List.map_nil] at qc
 refine Zb qc ?_
 simp only [Za, List.length_map, EVA, ↓reduceIte, Nat.reduceEqDiff, Nat.reduceMul, reduceCtorEq, Nat.reduceAdd, Nat.reduceSub, Nat.reduceLeDiff, Nat.reduceLT, Int.reduceToNat, Int.reduceLE, Int.reduceLT, Ze, men]
 refine Zu (fun h4 => ?_) (fun h4 => ?_)
 ·have qo := ZkX (Zax a b) (Zml hA hB)
  simp only [Za, List.map_cons, List.map_nil] at qo
  simp only [Zh]
  refine Zb qo ?_
  simp only [Zc, Za, List.length_map, EVA, ↓reduceIte, Nat.reduceEqDiff, Nat.reduceMul, reduceCtorEq, Nat.reduceAdd, Nat.reduceSub, Nat.reduceLeDiff, Nat.reduceLT, Int.reduceToNat, Int.reduceLE, Int.reduceLT, Ze, men]
  have hbd := Zr9 (Zcg hA hB)
  have hft := Zsa (Zep hA hB fa fb)
  by_cases hq : bigOK sig (Zax a b)
  ·have qG := Dp sig (ZdG a b) hn hbs (WB (by omega) hbd) hft (hiff.2 hq).1
   simp only [Za, ZdG, List.map_cons, List.map_nil] at qG
   have hyes : YU sig a b := ⟨hA, hB, hD, hq⟩
   rw [if_pos hyes, Jn hyes]
   refine Zb qG ?_
   simp only [Zc, Za, ZdG, List.length_map, EVA, ↓reduceIte, Nat.reduceEqDiff, Nat.reduceMul, reduceCtorEq, Nat.reduceAdd, Nat.reduceSub, Nat.reduceLeDiff, Nat.reduceLT, Int.reduceToNat, Int.reduceLE, Int.reduceLT, Ze, men]
  ·have qG := Dq sig (ZdG a b) hn hbs (WB (by omega) hbd) hft (fun g => hq (hiff.1 ⟨g, h4⟩))
   simp only [Za, ZdG, List.map_cons, List.map_nil] at qG
   have hno : ¬ YU sig a b := fun g => hq g.2.2.2
   rw [if_neg hno, Zp hno]
   refine Zb qG ?_
   simp only [Zc, Za, List.length_map, EVA, ↓reduceIte, Nat.reduceEqDiff, Nat.reduceMul, reduceCtorEq, Nat.reduceAdd, Nat.reduceSub, Nat.reduceLeDiff, Nat.reduceLT, Int.reduceToNat, Int.reduceLE, Int.reduceLT, Ze, men]
   try rfl
 ·have hno : ¬ YU sig a b := fun g => h4 g.2.2.2.roots.2
  rw [if_neg hno, Zp hno]
  rfl
theorem Uu (sig : List TControl) (a b : TBigraph) (hn : sig.length <= 4294967296) (hbs : ∀ y ∈ sig, ZD 4294967296 y) (hba : Zl 4294967296 a) (hbb : Zl 4294967296 b) (fa : Zx a) (fb : Zx b) (hB : YU sig a b) (lvl : Nat) (S : Sto) : Sem Go.Proofs.Tryz.prog JN lvl [.tr (.sl (sig.map Zn)), .ag ((Za a).map .tr), .ag ((Za b).map .tr)] S (.tu [.ag ((Za (Zs sig a b)).map .tr), iB (Ys sig a b)]) S := by
 have h := W4 sig a b hn hbs hba hbb fa fb lvl S
 unfold Zs Ys
 rw [if_pos hB, Jn hB]
 rw [if_pos hB, Jn hB] at h
 exact h
theorem Uv (sig : List TControl) (a b : TBigraph) (hn : sig.length <= 4294967296) (hbs : ∀ y ∈ sig, ZD 4294967296 y) (hba : Zl 4294967296 a) (hbb : Zl 4294967296 b) (fa : Zx a) (fb : Zx b) (hB : ¬ YU sig a b) (lvl : Nat) (S : Sto) : Sem Go.Proofs.Tryz.prog JN lvl [.tr (.sl (sig.map Zn)), .ag ((Za a).map .tr), .ag ((Za b).map .tr)] S (.tu [Zc (Zs sig a b), iB (Ys sig a b)]) S := by
 have h := W4 sig a b hn hbs hba hbb fa fb lvl S
 unfold Zs Ys
 rw [if_neg hB, Zp hB]
 rw [if_neg hB, Zp hB] at h
 exact h
end Go.Fd
