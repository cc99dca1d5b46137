/-
  WHAT HOLDS OF THE HELPERS OF THE LAWS (printed by lawgen.py). Own work.
-/
import Derived.Test.YtopapbodofgmiaaGreatDoorT07
import Derived.KernelRfl
import Derived.Test.YtopapbodofgmiaaGreatDoorProg
set_option linter.all false
namespace Go.Fd
set_option maxRecDepth 20000
theorem szN_le {n : Nat} {l : Int} (h : 0 ≤ l) : szN n l ≤ l := by unfold szN; split <;> omega
theorem szF_le {α : Type} {f : α → Int → Int} : ∀ (a : List α) (l : Int), (∀ x ∈ a, ∀ l : Int, 0 ≤ l → l ≤ 1048576 → f x l ≤ l) → 0 ≤ l → l ≤ 1048576 → szF f a l ≤ l
  | [], l, _, _, _ => Int.le_refl l
  | x :: r, l, hf, h0, h1 => by
    simp only [szF]
    have := hf x (by simp) l h0 h1
    split
    · omega
    · have h2 := szF_le r (f x l) (fun y hy => hf y (by simp [hy])) (by omega) (by omega)
      omega
theorem szL_le {α : Type} {f : α → Int → Int} (a : List α) {l : Int} (hf : ∀ x ∈ a, ∀ l : Int, 0 ≤ l → l ≤ 1048576 → f x l ≤ l) (h0 : 0 ≤ l) (h1 : l ≤ 1048576) : szL f a l ≤ l := by
  unfold szL
  split
  · omega
  · have := szF_le a (l - a.length) hf (by omega) (by omega)
    omega
theorem szTh_le {l m : Int} {g : Int → Int} (h0 : 0 ≤ l) (h : m ≤ l) (hg : 0 ≤ m → g m ≤ m) : szTh m g ≤ l := by
  unfold szTh
  split
  · omega
  · have := hg (by omega)
    omega
theorem g_szIntS : chkF Go.Proofs.Tryz.prog fid_laws_szIntS sz0 = true := by kernel_rfl
theorem sem_szIntS (a : List Int) (hl : a.length ≤ 9223372036854775807) (l : Int) (h0 : 0 ≤ l) (h1 : l ≤ 1048576) : szN a.length l ≤ l ∧ ∀ lvl S, Sem Go.Proofs.Tryz.prog fid_laws_szIntS lvl [.tr (.sl (rI a)), iI l] S (iI (szN a.length l)) S := by
  refine ⟨szN_le h0, fun lvl S => ?_⟩
  have := sem_sz0 g_szIntS (rI a) l (by simpa using hl) h0 h1 lvl S
  simpa using this
theorem sem_szNode (x : TNode) (hb : bdNode 9223372036854775807 x) (l : Int) (h0 : 0 ≤ l) (h1 : l ≤ 1048576) : szNode x l ≤ l ∧ ∀ lvl S, Sem Go.Proofs.Tryz.prog fid_laws_szNode lvl [.ag ((cNode x).map .tr), iI l] S (iI (szNode x l)) S := by
  have b0 : x.links.length ≤ 9223372036854775807 := hb
  refine ⟨?_, fun lvl S => ?_⟩
  · unfold szNode
    have q0 := sem_szIntS x.links b0 _ h0 h1
    refine szTh_le h0 q0.1 (fun p0 => ?_)
    have r0 : _ ≤ (1048576 : Int) := Int.le_trans q0.1 h1
    exact Int.le_refl _
  · refine sem_of_chk k_laws_szNode trivial ?_
    simp only [c_laws_szNode, cNode, List.map_cons, List.map_nil, EVA, ↓reduceIte, Nat.reduceEqDiff, Nat.reduceMul, reduceCtorEq, Nat.reduceAdd, Nat.reduceSub, Nat.reduceLeDiff, Nat.reduceLT, Int.reduceToNat, Int.reduceLE, Int.reduceLT, mens, men]
    unfold szNode
    have q0 := sem_szIntS x.links b0 l h0 h1
    refine kca_intro q0.2 ?_
    simp only [EVA, ↓reduceIte, Nat.reduceEqDiff, Nat.reduceMul, reduceCtorEq, Nat.reduceAdd, Nat.reduceSub, Nat.reduceLeDiff, Nat.reduceLT, Int.reduceToNat, Int.reduceLE, Int.reduceLT, mens, men]
    obtain ⟨l1, hl1⟩ : ∃ m : Int, m = (szN x.links.length l) := ⟨_, rfl⟩
    have u1 : l1 ≤ l := by rw [hl1]; exact q0.1
    rw [← hl1]
    split
    · rename_i hn; rw [szTh, if_pos hn]
    rename_i hn0
    rw [szTh, if_neg hn0]
theorem g_szNodeS : chkF Go.Proofs.Tryz.prog fid_laws_szNodeS (szSl 3 (some 3) fid_laws_szNode) = true := by kernel_rfl
theorem sem_szNodeS (a : List TNode) (hl : a.length ≤ 9223372036854775807) (hb : ∀ y ∈ a, bdNode 9223372036854775807 y) (l : Int) (h0 : 0 ≤ l) (h1 : l ≤ 1048576) : szL szNode a l ≤ l ∧ ∀ lvl S, Sem Go.Proofs.Tryz.prog fid_laws_szNodeS lvl [.tr (.sl (a.map cNode)), iI l] S (iI (szL szNode a l)) S :=
  ⟨szL_le a (fun x hx l h0 h1 => (sem_szNode x (hb x hx) l h0 h1).1) h0 h1, fun lvl S => sem_szSl g_szNodeS cNode szNode cNode_len a l hl h0 h1 (fun x hx l h0 h1 => sem_szNode x (hb x hx) l h0 h1) lvl S⟩
theorem sem_szWire (x : TWire) (hb : bdWire 9223372036854775807 x) (l : Int) (h0 : 0 ≤ l) (h1 : l ≤ 1048576) : szWire x l ≤ l ∧ ∀ lvl S, Sem Go.Proofs.Tryz.prog fid_laws_szWire lvl [.ag ((cWire x).map .tr), iI l] S (iI (szWire x l)) S := by
  have b0 : x.name.size ≤ 9223372036854775807 := hb
  refine ⟨?_, fun lvl S => ?_⟩
  · unfold szWire
    refine szTh_le h0 (m := l - x.name.size) (by omega) (fun p0 => ?_)
    have r0 : _ ≤ (1048576 : Int) := Int.le_trans (show l - x.name.size ≤ l by omega) h1
    exact Int.le_refl _
  · refine sem_of_chk k_laws_szWire trivial ?_
    simp only [c_laws_szWire, cWire, List.map_cons, List.map_nil, EVA, ↓reduceIte, Nat.reduceEqDiff, Nat.reduceMul, reduceCtorEq, Nat.reduceAdd, Nat.reduceSub, Nat.reduceLeDiff, Nat.reduceLT, Int.reduceToNat, Int.reduceLE, Int.reduceLT, mens, men]
    unfold szWire
    refine ⟨by rw [fits_i64]; omega, ?_⟩
    obtain ⟨l1, hl1⟩ : ∃ m : Int, m = l - x.name.size := ⟨_, rfl⟩
    have u1 : l1 ≤ l := by omega
    rw [← hl1]
    split
    · rename_i hn; rw [szTh, if_pos hn]
    rename_i hn0
    rw [szTh, if_neg hn0]
theorem g_szWireS : chkF Go.Proofs.Tryz.prog fid_laws_szWireS (szSl 2 (some 2) fid_laws_szWire) = true := by kernel_rfl
theorem sem_szWireS (a : List TWire) (hl : a.length ≤ 9223372036854775807) (hb : ∀ y ∈ a, bdWire 9223372036854775807 y) (l : Int) (h0 : 0 ≤ l) (h1 : l ≤ 1048576) : szL szWire a l ≤ l ∧ ∀ lvl S, Sem Go.Proofs.Tryz.prog fid_laws_szWireS lvl [.tr (.sl (a.map cWire)), iI l] S (iI (szL szWire a l)) S :=
  ⟨szL_le a (fun x hx l h0 h1 => (sem_szWire x (hb x hx) l h0 h1).1) h0 h1, fun lvl S => sem_szSl g_szWireS cWire szWire cWire_len a l hl h0 h1 (fun x hx l h0 h1 => sem_szWire x (hb x hx) l h0 h1) lvl S⟩
theorem g_szStringS : chkF Go.Proofs.Tryz.prog fid_laws_szStringS szSt = true := by kernel_rfl
theorem sem_szStringS (a : List ByteArray) (hl : a.length ≤ 9223372036854775807) (hb : ∀ y ∈ a, y.size ≤ 9223372036854775807) (l : Int) (h0 : 0 ≤ l) (h1 : l ≤ 1048576) : szL (fun x m => m - x.size) a l ≤ l ∧ ∀ lvl S, Sem Go.Proofs.Tryz.prog fid_laws_szStringS lvl [tS a, iI l] S (iI (szL (fun x m => m - x.size) a l)) S :=
  ⟨szL_le a (fun x _ l _ _ => by omega) h0 h1, fun lvl S => sem_szSt g_szStringS a l hl h0 h1 hb lvl S⟩
theorem sem_szBigraph (x : TBigraph) (hb : bdBigraph 9223372036854775807 x) (l : Int) (h0 : 0 ≤ l) (h1 : l ≤ 1048576) : szBigraph x l ≤ l ∧ ∀ lvl S, Sem Go.Proofs.Tryz.prog fid_laws_szBigraph lvl [.ag ((cBigraph x).map .tr), iI l] S (iI (szBigraph x l)) S := by
  obtain ⟨b0, b1, b2, b3, b4, b5, b6⟩ := hb
  refine ⟨?_, fun lvl S => ?_⟩
  · unfold szBigraph
    have q0 := sem_szNodeS x.nodes b0 b1 _ h0 h1
    refine szTh_le h0 q0.1 (fun p0 => ?_)
    have r0 : _ ≤ (1048576 : Int) := Int.le_trans q0.1 h1
    have q1 := sem_szIntS x.sites b2 _ p0 r0
    refine szTh_le p0 q1.1 (fun p1 => ?_)
    have r1 : _ ≤ (1048576 : Int) := Int.le_trans q1.1 r0
    have q2 := sem_szStringS x.outer b3 b4 _ p1 r1
    refine szTh_le p1 q2.1 (fun p2 => ?_)
    have r2 : _ ≤ (1048576 : Int) := Int.le_trans q2.1 r1
    have q3 := sem_szWireS x.inner b5 b6 _ p2 r2
    refine szTh_le p2 q3.1 (fun p3 => ?_)
    have r3 : _ ≤ (1048576 : Int) := Int.le_trans q3.1 r2
    exact Int.le_refl _
  · refine sem_of_chk k_laws_szBigraph trivial ?_
    simp only [c_laws_szBigraph, cBigraph, List.map_cons, List.map_nil, EVA, ↓reduceIte, Nat.reduceEqDiff, Nat.reduceMul, reduceCtorEq, Nat.reduceAdd, Nat.reduceSub, Nat.reduceLeDiff, Nat.reduceLT, Int.reduceToNat, Int.reduceLE, Int.reduceLT, mens, men]
    unfold szBigraph
    have q0 := sem_szNodeS x.nodes b0 b1 l h0 h1
    refine kca_intro q0.2 ?_
    simp only [EVA, ↓reduceIte, Nat.reduceEqDiff, Nat.reduceMul, reduceCtorEq, Nat.reduceAdd, Nat.reduceSub, Nat.reduceLeDiff, Nat.reduceLT, Int.reduceToNat, Int.reduceLE, Int.reduceLT, mens, men]
    obtain ⟨l1, hl1⟩ : ∃ m : Int, m = (szL szNode x.nodes l) := ⟨_, rfl⟩
    have u1 : l1 ≤ l := by rw [hl1]; exact q0.1
    rw [← hl1]
    split
    · rename_i hn; rw [szTh, if_pos hn]
    rename_i hn0
    rw [szTh, if_neg hn0]
    have q1 := sem_szIntS x.sites b2 l1 (show 0 ≤ l1 by omega) (show l1 ≤ 1048576 by omega)
    refine kca_intro q1.2 ?_
    simp only [EVA, ↓reduceIte, Nat.reduceEqDiff, Nat.reduceMul, reduceCtorEq, Nat.reduceAdd, Nat.reduceSub, Nat.reduceLeDiff, Nat.reduceLT, Int.reduceToNat, Int.reduceLE, Int.reduceLT, mens, men]
    obtain ⟨l2, hl2⟩ : ∃ m : Int, m = (szN x.sites.length l1) := ⟨_, rfl⟩
    have u2 : l2 ≤ l1 := by rw [hl2]; exact q1.1
    rw [← hl2]
    split
    · rename_i hn; rw [szTh, if_pos hn]
    rename_i hn1
    rw [szTh, if_neg hn1]
    have q2 := sem_szStringS x.outer b3 b4 l2 (show 0 ≤ l2 by omega) (show l2 ≤ 1048576 by omega)
    refine kca_intro q2.2 ?_
    simp only [EVA, ↓reduceIte, Nat.reduceEqDiff, Nat.reduceMul, reduceCtorEq, Nat.reduceAdd, Nat.reduceSub, Nat.reduceLeDiff, Nat.reduceLT, Int.reduceToNat, Int.reduceLE, Int.reduceLT, mens, men]
    obtain ⟨l3, hl3⟩ : ∃ m : Int, m = (szL (fun x m => m - x.size) x.outer l2) := ⟨_, rfl⟩
    have u3 : l3 ≤ l2 := by rw [hl3]; exact q2.1
    rw [← hl3]
    split
    · rename_i hn; rw [szTh, if_pos hn]
    rename_i hn2
    rw [szTh, if_neg hn2]
    have q3 := sem_szWireS x.inner b5 b6 l3 (show 0 ≤ l3 by omega) (show l3 ≤ 1048576 by omega)
    refine kca_intro q3.2 ?_
    simp only [EVA, ↓reduceIte, Nat.reduceEqDiff, Nat.reduceMul, reduceCtorEq, Nat.reduceAdd, Nat.reduceSub, Nat.reduceLeDiff, Nat.reduceLT, Int.reduceToNat, Int.reduceLE, Int.reduceLT, mens, men]
    obtain ⟨l4, hl4⟩ : ∃ m : Int, m = (szL szWire x.inner l3) := ⟨_, rfl⟩
    have u4 : l4 ≤ l3 := by rw [hl4]; exact q3.1
    rw [← hl4]
    split
    · rename_i hn; rw [szTh, if_pos hn]
    rename_i hn3
    rw [szTh, if_neg hn3]
theorem sem_szControl (x : TControl) (hb : bdControl 9223372036854775807 x) (l : Int) (h0 : 0 ≤ l) (h1 : l ≤ 1048576) : szControl x l ≤ l ∧ ∀ lvl S, Sem Go.Proofs.Tryz.prog fid_laws_szControl lvl [.ag ((cControl x).map .tr), iI l] S (iI (szControl x l)) S := by
  have b0 : x.name.size ≤ 9223372036854775807 := hb
  refine ⟨?_, fun lvl S => ?_⟩
  · unfold szControl
    refine szTh_le h0 (m := l - x.name.size) (by omega) (fun p0 => ?_)
    have r0 : _ ≤ (1048576 : Int) := Int.le_trans (show l - x.name.size ≤ l by omega) h1
    exact Int.le_refl _
  · refine sem_of_chk k_laws_szControl trivial ?_
    simp only [c_laws_szControl, cControl, List.map_cons, List.map_nil, EVA, ↓reduceIte, Nat.reduceEqDiff, Nat.reduceMul, reduceCtorEq, Nat.reduceAdd, Nat.reduceSub, Nat.reduceLeDiff, Nat.reduceLT, Int.reduceToNat, Int.reduceLE, Int.reduceLT, mens, men]
    unfold szControl
    refine ⟨by rw [fits_i64]; omega, ?_⟩
    obtain ⟨l1, hl1⟩ : ∃ m : Int, m = l - x.name.size := ⟨_, rfl⟩
    have u1 : l1 ≤ l := by omega
    rw [← hl1]
    split
    · rename_i hn; rw [szTh, if_pos hn]
    rename_i hn0
    rw [szTh, if_neg hn0]
theorem g_szControlS : chkF Go.Proofs.Tryz.prog fid_laws_szControlS (szSl 3 (some 3) fid_laws_szControl) = true := by kernel_rfl
theorem sem_szControlS (a : List TControl) (hl : a.length ≤ 9223372036854775807) (hb : ∀ y ∈ a, bdControl 9223372036854775807 y) (l : Int) (h0 : 0 ≤ l) (h1 : l ≤ 1048576) : szL szControl a l ≤ l ∧ ∀ lvl S, Sem Go.Proofs.Tryz.prog fid_laws_szControlS lvl [.tr (.sl (a.map cControl)), iI l] S (iI (szL szControl a l)) S :=
  ⟨szL_le a (fun x hx l h0 h1 => (sem_szControl x (hb x hx) l h0 h1).1) h0 h1, fun lvl S => sem_szSl g_szControlS cControl szControl cControl_len a l hl h0 h1 (fun x hx l h0 h1 => sem_szControl x (hb x hx) l h0 h1) lvl S⟩
end Go.Fd

/-
  WHAT HOLDS OF THE HELPERS OF THE LAWS: eq.. (printed by lawgen.py). Own work.
-/
namespace Go.Fd
set_option maxRecDepth 20000
theorem g_eqIntS : chkF Go.Proofs.Tryz.prog fid_laws_eqIntS eqS1 = true := by kernel_rfl
theorem sem_eqIntS (a b : (List Int)) (ha : a.length ≤ 9223372036854775807) (lvl : Nat) (S : Sto) : Sem Go.Proofs.Tryz.prog fid_laws_eqIntS lvl [.tr (.sl (rI a)), .tr (.sl (rI b))] S (iB (decide (a = b))) S := sem_eqI g_eqIntS a b ha lvl S
theorem sem_eqNode (x y : TNode) (hb : bdNode 9223372036854775807 x) (lvl : Nat) (S : Sto) : Sem Go.Proofs.Tryz.prog fid_laws_eqNode lvl [.ag ((cNode x).map .tr), .ag ((cNode y).map .tr)] S (iB (decide (x = y))) S := by
  have b0 : x.links.length ≤ 9223372036854775807 := hb
  refine sem_of_chk k_laws_eqNode trivial ?_
  simp only [c_laws_eqNode, cNode, List.map_cons, List.map_nil, EVA, ↓reduceIte, Nat.reduceEqDiff, Nat.reduceMul, reduceCtorEq, Nat.reduceAdd, Nat.reduceSub, Nat.reduceLeDiff, Nat.reduceLT, Int.reduceToNat, Int.reduceLE, Int.reduceLT, mens, men]
  refine ite_of (fun hne => ?_) (fun heq0 => ?_)
  · have : ¬ x = y := fun e => (by rw [e] at hne; simp at hne)
    simp [this]
  refine ite_of (fun hne => ?_) (fun heq1 => ?_)
  · have : ¬ x = y := fun e => (by rw [e] at hne; simp at hne)
    simp [this]
  refine kca_intro (sem_eqIntS x.links y.links b0) ?_
  simp only [Bool.not_eq_true', EVA, ↓reduceIte, Nat.reduceEqDiff, Nat.reduceMul, reduceCtorEq, Nat.reduceAdd, Nat.reduceSub, Nat.reduceLeDiff, Nat.reduceLT, Int.reduceToNat, Int.reduceLE, Int.reduceLT, mens, men]
  refine ite_of (fun hne => ?_) (fun heq2 => ?_)
  · have : ¬ x = y := fun e => (by rw [e] at hne; simp at hne)
    simp [this]
  have : x = y := by
    cases x; cases y; simp_all
  simp [this]
theorem g_eqNodeS : chkF Go.Proofs.Tryz.prog fid_laws_eqNodeS (eqSl 3 (some 3) fid_laws_eqNode) = true := by kernel_rfl
theorem sem_eqNodeS (a b : (List TNode)) (ha : a.length ≤ 9223372036854775807) (ha2 : ∀ y ∈ a, bdNode 9223372036854775807 y) (lvl : Nat) (S : Sto) : Sem Go.Proofs.Tryz.prog fid_laws_eqNodeS lvl [.tr (.sl (a.map cNode)), .tr (.sl (b.map cNode))] S (iB (decide (a = b))) S :=
  sem_eqSl g_eqNodeS cNode (fun _ => rfl) a b ha (fun x hx y _ lvl S => sem_eqNode x y (ha2 x hx) lvl S) lvl S
theorem sem_eqWire (x y : TWire) (hb : bdWire 9223372036854775807 x) (lvl : Nat) (S : Sto) : Sem Go.Proofs.Tryz.prog fid_laws_eqWire lvl [.ag ((cWire x).map .tr), .ag ((cWire y).map .tr)] S (iB (decide (x = y))) S := by
  have b0 : x.name.size ≤ 9223372036854775807 := hb
  refine sem_of_chk k_laws_eqWire trivial ?_
  simp only [c_laws_eqWire, cWire, List.map_cons, List.map_nil, EVA, ↓reduceIte, Nat.reduceEqDiff, Nat.reduceMul, reduceCtorEq, Nat.reduceAdd, Nat.reduceSub, Nat.reduceLeDiff, Nat.reduceLT, Int.reduceToNat, Int.reduceLE, Int.reduceLT, mens, men]
  refine ite_of (fun hne => ?_) (fun heq0 => ?_)
  · have : ¬ x = y := fun e => (by rw [e] at hne; simp at hne)
    simp [this]
  refine ite_of (fun hne => ?_) (fun heq1 => ?_)
  · have : ¬ x = y := fun e => (by rw [e] at hne; simp at hne)
    simp [this]
  have : x = y := by
    cases x; cases y; simp_all
  simp [this]
theorem g_eqWireS : chkF Go.Proofs.Tryz.prog fid_laws_eqWireS (eqSl 2 (some 2) fid_laws_eqWire) = true := by kernel_rfl
theorem sem_eqWireS (a b : (List TWire)) (ha : a.length ≤ 9223372036854775807) (ha2 : ∀ y ∈ a, bdWire 9223372036854775807 y) (lvl : Nat) (S : Sto) : Sem Go.Proofs.Tryz.prog fid_laws_eqWireS lvl [.tr (.sl (a.map cWire)), .tr (.sl (b.map cWire))] S (iB (decide (a = b))) S :=
  sem_eqSl g_eqWireS cWire (fun _ => rfl) a b ha (fun x hx y _ lvl S => sem_eqWire x y (ha2 x hx) lvl S) lvl S
theorem g_eqStringS : chkF Go.Proofs.Tryz.prog fid_laws_eqStringS eqS1 = true := by kernel_rfl
theorem sem_eqStringS (a b : (List ByteArray)) (ha : a.length ≤ 9223372036854775807) (lvl : Nat) (S : Sto) : Sem Go.Proofs.Tryz.prog fid_laws_eqStringS lvl [.tr (.sl (rS a)), .tr (.sl (rS b))] S (iB (decide (a = b))) S := sem_eqS g_eqStringS a b ha lvl S
theorem sem_eqBigraph (x y : TBigraph) (hb : bdBigraph 9223372036854775807 x) (lvl : Nat) (S : Sto) : Sem Go.Proofs.Tryz.prog fid_laws_eqBigraph lvl [.ag ((cBigraph x).map .tr), .ag ((cBigraph y).map .tr)] S (iB (decide (x = y))) S := by
  obtain ⟨b0, b1, b2, b3, b4, b5, b6⟩ := hb
  refine sem_of_chk k_laws_eqBigraph trivial ?_
  simp only [c_laws_eqBigraph, cBigraph, List.map_cons, List.map_nil, EVA, ↓reduceIte, Nat.reduceEqDiff, Nat.reduceMul, reduceCtorEq, Nat.reduceAdd, Nat.reduceSub, Nat.reduceLeDiff, Nat.reduceLT, Int.reduceToNat, Int.reduceLE, Int.reduceLT, mens, men]
  refine ite_of (fun hne => ?_) (fun heq0 => ?_)
  · have : ¬ x = y := fun e => (by rw [e] at hne; simp at hne)
    simp [this]
  refine kca_intro (sem_eqNodeS x.nodes y.nodes b0 b1) ?_
  simp only [Bool.not_eq_true', EVA, ↓reduceIte, Nat.reduceEqDiff, Nat.reduceMul, reduceCtorEq, Nat.reduceAdd, Nat.reduceSub, Nat.reduceLeDiff, Nat.reduceLT, Int.reduceToNat, Int.reduceLE, Int.reduceLT, mens, men]
  refine ite_of (fun hne => ?_) (fun heq1 => ?_)
  · have : ¬ x = y := fun e => (by rw [e] at hne; simp at hne)
    simp [this]
  refine kca_intro (sem_eqIntS x.sites y.sites b2) ?_
  simp only [Bool.not_eq_true', EVA, ↓reduceIte, Nat.reduceEqDiff, Nat.reduceMul, reduceCtorEq, Nat.reduceAdd, Nat.reduceSub, Nat.reduceLeDiff, Nat.reduceLT, Int.reduceToNat, Int.reduceLE, Int.reduceLT, mens, men]
  refine ite_of (fun hne => ?_) (fun heq2 => ?_)
  · have : ¬ x = y := fun e => (by rw [e] at hne; simp at hne)
    simp [this]
  refine ite_of (fun hne => ?_) (fun heq3 => ?_)
  · have : ¬ x = y := fun e => (by rw [e] at hne; simp at hne)
    simp [this]
  refine kca_intro (sem_eqStringS x.outer y.outer b3) ?_
  simp only [Bool.not_eq_true', EVA, ↓reduceIte, Nat.reduceEqDiff, Nat.reduceMul, reduceCtorEq, Nat.reduceAdd, Nat.reduceSub, Nat.reduceLeDiff, Nat.reduceLT, Int.reduceToNat, Int.reduceLE, Int.reduceLT, mens, men]
  refine ite_of (fun hne => ?_) (fun heq4 => ?_)
  · have : ¬ x = y := fun e => (by rw [e] at hne; simp at hne)
    simp [this]
  refine kca_intro (sem_eqWireS x.inner y.inner b5 b6) ?_
  simp only [Bool.not_eq_true', EVA, ↓reduceIte, Nat.reduceEqDiff, Nat.reduceMul, reduceCtorEq, Nat.reduceAdd, Nat.reduceSub, Nat.reduceLeDiff, Nat.reduceLT, Int.reduceToNat, Int.reduceLE, Int.reduceLT, mens, men]
  refine ite_of (fun hne => ?_) (fun heq5 => ?_)
  · have : ¬ x = y := fun e => (by rw [e] at hne; simp at hne)
    simp [this]
  have : x = y := by
    cases x; cases y; simp_all
  simp [this]
theorem sem_eqControl (x y : TControl) (hb : bdControl 9223372036854775807 x) (lvl : Nat) (S : Sto) : Sem Go.Proofs.Tryz.prog fid_laws_eqControl lvl [.ag ((cControl x).map .tr), .ag ((cControl y).map .tr)] S (iB (decide (x = y))) S := by
  have b0 : x.name.size ≤ 9223372036854775807 := hb
  refine sem_of_chk k_laws_eqControl trivial ?_
  simp only [c_laws_eqControl, cControl, List.map_cons, List.map_nil, EVA, ↓reduceIte, Nat.reduceEqDiff, Nat.reduceMul, reduceCtorEq, Nat.reduceAdd, Nat.reduceSub, Nat.reduceLeDiff, Nat.reduceLT, Int.reduceToNat, Int.reduceLE, Int.reduceLT, mens, men]
  refine ite_of (fun hne => ?_) (fun heq0 => ?_)
  · have : ¬ x = y := fun e => (by rw [e] at hne; simp at hne)
    simp [this]
  refine ite_of (fun hne => ?_) (fun heq1 => ?_)
  · have : ¬ x = y := fun e => (by rw [e] at hne; simp at hne)
    simp [this]
  refine ite_of (fun hne => ?_) (fun heq2 => ?_)
  · have : ¬ x = y := fun e => (by rw [e] at hne; simp at hne)
    simp [this]
  have : x = y := by
    cases x; cases y; simp_all
  simp [this]
theorem g_eqControlS : chkF Go.Proofs.Tryz.prog fid_laws_eqControlS (eqSl 3 (some 3) fid_laws_eqControl) = true := by kernel_rfl
theorem sem_eqControlS (a b : (List TControl)) (ha : a.length ≤ 9223372036854775807) (ha2 : ∀ y ∈ a, bdControl 9223372036854775807 y) (lvl : Nat) (S : Sto) : Sem Go.Proofs.Tryz.prog fid_laws_eqControlS lvl [.tr (.sl (a.map cControl)), .tr (.sl (b.map cControl))] S (iB (decide (a = b))) S :=
  sem_eqSl g_eqControlS cControl (fun _ => rfl) a b ha (fun x hx y _ lvl S => sem_eqControl x y (ha2 x hx) lvl S) lvl S
end Go.Fd

/-
  WHAT HOLDS OF THE HELPERS OF THE LAWS: to.. (printed by lawgen.py). Own work.
-/
namespace Go.Fd
set_option maxRecDepth 20000
theorem g_toIntS : chkF Go.Proofs.Tryz.prog fid_laws_toIntS (toS1 (.int .i64 0)) = true := by kernel_rfl
theorem sem_toIntS (a : (List Int)) (ha : a.length ≤ 4294967296) (lvl : Nat) (S : Sto) : Sem Go.Proofs.Tryz.prog fid_laws_toIntS lvl [.tr (.sl (rI a))] S (.ow 1 (rI a) true) S := sem_toI g_toIntS a ha lvl S
theorem sem_toNode (x : TNode) (hb : bdNode 4294967296 x) (lvl : Nat) (S : Sto) : Sem Go.Proofs.Tryz.prog fid_laws_toNode lvl [.ag ((cNode x).map .tr)] S (oNode x) S := by
  have b0 : x.links.length ≤ 4294967296 := hb
  refine sem_of_chk k_laws_toNode (by simp [oNode, low, men, mens]) ?_
  simp only [c_laws_toNode, cNode, zfill, zobs, List.map_cons, List.map_nil, r_setAt0, r_setAt1, List.set_cons_zero, List.set_cons_succ, EVA, ↓reduceIte, Nat.reduceEqDiff, Nat.reduceMul, reduceCtorEq, Nat.reduceAdd, Nat.reduceSub, Nat.reduceLeDiff, Nat.reduceLT, Int.reduceToNat, Int.reduceLE, Int.reduceLT, mens, men]
  refine kca_intro (sem_toIntS x.links b0) ?_
  simp only [r_setAt0, r_setAt1, List.set_cons_zero, List.set_cons_succ, Prod.mk.injEq, EVA, ↓reduceIte, Nat.reduceEqDiff, Nat.reduceMul, reduceCtorEq, Nat.reduceAdd, Nat.reduceSub, Nat.reduceLeDiff, Nat.reduceLT, Int.reduceToNat, Int.reduceLE, Int.reduceLT, mens, men]
  rfl
theorem sem_toNodeS (a : (List TNode)) (ha : a.length ≤ 4294967296) (hb : ∀ y ∈ a, bdNode 4294967296 y) (lvl : Nat) (S : Sto) : Sem Go.Proofs.Tryz.prog fid_laws_toNodeS lvl [.tr (.sl (a.map cNode))] S (.ow 3 (a.map cNode) true) S := by
  refine sem_of_chk k_laws_toNodeS trivial ?_
  simp only [c_laws_toNodeS, List.length_map, bigN, Int.natCast_nonneg, EVA, ↓reduceIte, Nat.reduceEqDiff, Nat.reduceMul, reduceCtorEq, Nat.reduceAdd, Nat.reduceSub, Nat.reduceLeDiff, Nat.reduceLT, Int.reduceToNat, Int.reduceLE, Int.reduceLT, mens, men]
  refine ⟨by omega, ?_⟩
  refine wp_count (α := Unit) a.length (fun j _ => ⟨lvl, [(0, .tr (.sl (a.map cNode))), (3, .hd (lvl, 224) [] 0 a.length none a.length), (4, iI j)], [(224, .ar 3 (filled cNode [tv 0, tv 0, .sl []] a j) true a.length (j * 1))], S⟩) (fun _ _ => True) () ⟨by simp only [EVA, ↓reduceIte, Nat.reduceEqDiff, Nat.reduceMul, reduceCtorEq, Nat.reduceAdd, Nat.reduceSub, Nat.reduceLeDiff, Nat.reduceLT, Int.reduceToNat, Int.reduceLE, Int.reduceLT, mens, men], by (simp only [filled_zero, EVA, ↓reduceIte, Nat.reduceEqDiff, Nat.reduceMul, reduceCtorEq, Nat.reduceAdd, Nat.reduceSub, Nat.reduceLeDiff, Nat.reduceLT, Int.reduceToNat, Int.reduceLE, Int.reduceLT, mens, men]) <;> rfl⟩ trivial ?_
  intro j _ hj _
  simp only [List.length_map, EVA, ↓reduceIte, Nat.reduceEqDiff, Nat.reduceMul, reduceCtorEq, Nat.reduceAdd, Nat.reduceSub, Nat.reduceLeDiff, Nat.reduceLT, Int.reduceToNat, Int.reduceLE, Int.reduceLT, mens, men]
  refine ite_of (fun hlt => ?_) (fun hge => ?_)
  · have hja : j < a.length := by omega
    have ga : (a.map cNode)[j]? = some (cNode a[j]) := by simp [hja]
    have gz : (filled cNode [tv 0, tv 0, .sl []] a j)[j]? = some [tv 0, tv 0, .sl []] := filled_get hja
    have hfl : (filled cNode [tv 0, tv 0, .sl []] a j).length = a.length := filled_length hj
    have hsem := fun lvl S => sem_toNode a[j] (hb a[j] (List.getElem_mem hja)) lvl S
    simp only [ga, gz, Int.natCast_nonneg, Nat.le_refl, hja, cNode, oNode, Nat.reduceLeDiff, EVA, ↓reduceIte, Nat.reduceEqDiff, Nat.reduceMul, reduceCtorEq, Nat.reduceAdd, Nat.reduceSub, Nat.reduceLT, Int.reduceToNat, Int.reduceLE, Int.reduceLT, mens, men]
    refine kca_intro hsem ?_
    simp only [oNode, gz, Int.natCast_nonneg, Nat.le_refl, hja, hfl, setp, List.getElem?_set_self, List.set_set, List.length_set, List.set_cons_zero, List.set_cons_succ, Prod.mk.injEq, ne_eq, not_false_eq_true, EVA, ↓reduceIte, Nat.reduceEqDiff, Nat.reduceMul, reduceCtorEq, Nat.reduceAdd, Nat.reduceSub, Nat.reduceLeDiff, Nat.reduceLT, Int.reduceToNat, Int.reduceLE, Int.reduceLT, mens, men]
    refine ⟨by rw [fits_i64]; omega, cntJ_intro () hja ?_ trivial⟩
    have hse := filled_set (c := cNode) (z := [tv 0, tv 0, .sl []]) (e := [tv a[j].control, tv a[j].parent, .sl (rI a[j].links)]) hja rfl
    rw [hse, show (j + 1) * 1 = j * 1 + 1 from by omega]
    rfl
  · have : j = a.length := by omega
    subst this
    rw [filled_all]
    simp
theorem sem_toWire (x : TWire) (hb : bdWire 4294967296 x) (lvl : Nat) (S : Sto) : Sem Go.Proofs.Tryz.prog fid_laws_toWire lvl [.ag ((cWire x).map .tr)] S (oWire x) S := by
  have b0 : x.name.size ≤ 4294967296 := hb
  refine sem_of_chk k_laws_toWire (by simp [oWire, low, men, mens]) ?_
  simp only [c_laws_toWire, cWire, zfill, zobs, List.map_cons, List.map_nil, r_setAt0, r_setAt1, List.set_cons_zero, List.set_cons_succ, EVA, ↓reduceIte, Nat.reduceEqDiff, Nat.reduceMul, reduceCtorEq, Nat.reduceAdd, Nat.reduceSub, Nat.reduceLeDiff, Nat.reduceLT, Int.reduceToNat, Int.reduceLE, Int.reduceLT, mens, men]
  rfl
theorem sem_toWireS (a : (List TWire)) (ha : a.length ≤ 4294967296) (hb : ∀ y ∈ a, bdWire 4294967296 y) (lvl : Nat) (S : Sto) : Sem Go.Proofs.Tryz.prog fid_laws_toWireS lvl [.tr (.sl (a.map cWire))] S (.ow 2 (a.map cWire) true) S := by
  refine sem_of_chk k_laws_toWireS trivial ?_
  simp only [c_laws_toWireS, List.length_map, bigN, Int.natCast_nonneg, EVA, ↓reduceIte, Nat.reduceEqDiff, Nat.reduceMul, reduceCtorEq, Nat.reduceAdd, Nat.reduceSub, Nat.reduceLeDiff, Nat.reduceLT, Int.reduceToNat, Int.reduceLE, Int.reduceLT, mens, men]
  refine ⟨by omega, ?_⟩
  refine wp_count (α := Unit) a.length (fun j _ => ⟨lvl, [(0, .tr (.sl (a.map cWire))), (3, .hd (lvl, 224) [] 0 a.length none a.length), (4, iI j)], [(224, .ar 2 (filled cWire [ts ⟨#[]⟩, tv 0] a j) true a.length (j * 0))], S⟩) (fun _ _ => True) () ⟨by simp only [EVA, ↓reduceIte, Nat.reduceEqDiff, Nat.reduceMul, reduceCtorEq, Nat.reduceAdd, Nat.reduceSub, Nat.reduceLeDiff, Nat.reduceLT, Int.reduceToNat, Int.reduceLE, Int.reduceLT, mens, men], by (simp only [filled_zero, EVA, ↓reduceIte, Nat.reduceEqDiff, Nat.reduceMul, reduceCtorEq, Nat.reduceAdd, Nat.reduceSub, Nat.reduceLeDiff, Nat.reduceLT, Int.reduceToNat, Int.reduceLE, Int.reduceLT, mens, men]) <;> rfl⟩ trivial ?_
  intro j _ hj _
  simp only [List.length_map, EVA, ↓reduceIte, Nat.reduceEqDiff, Nat.reduceMul, reduceCtorEq, Nat.reduceAdd, Nat.reduceSub, Nat.reduceLeDiff, Nat.reduceLT, Int.reduceToNat, Int.reduceLE, Int.reduceLT, mens, men]
  refine ite_of (fun hlt => ?_) (fun hge => ?_)
  · have hja : j < a.length := by omega
    have ga : (a.map cWire)[j]? = some (cWire a[j]) := by simp [hja]
    have gz : (filled cWire [ts ⟨#[]⟩, tv 0] a j)[j]? = some [ts ⟨#[]⟩, tv 0] := filled_get hja
    have hfl : (filled cWire [ts ⟨#[]⟩, tv 0] a j).length = a.length := filled_length hj
    have hsem := fun lvl S => sem_toWire a[j] (hb a[j] (List.getElem_mem hja)) lvl S
    simp only [ga, gz, Int.natCast_nonneg, Nat.le_refl, hja, cWire, oWire, Nat.reduceLeDiff, EVA, ↓reduceIte, Nat.reduceEqDiff, Nat.reduceMul, reduceCtorEq, Nat.reduceAdd, Nat.reduceSub, Nat.reduceLT, Int.reduceToNat, Int.reduceLE, Int.reduceLT, mens, men]
    refine kca_intro hsem ?_
    simp only [oWire, gz, Int.natCast_nonneg, Nat.le_refl, hja, hfl, setp, List.getElem?_set_self, List.set_set, List.length_set, List.set_cons_zero, List.set_cons_succ, Prod.mk.injEq, ne_eq, not_false_eq_true, EVA, ↓reduceIte, Nat.reduceEqDiff, Nat.reduceMul, reduceCtorEq, Nat.reduceAdd, Nat.reduceSub, Nat.reduceLeDiff, Nat.reduceLT, Int.reduceToNat, Int.reduceLE, Int.reduceLT, mens, men]
    refine ⟨by rw [fits_i64]; omega, cntJ_intro () hja ?_ trivial⟩
    have hse := filled_set (c := cWire) (z := [ts ⟨#[]⟩, tv 0]) (e := [ts a[j].name, tv a[j].link]) hja rfl
    rw [hse, show (j + 1) * 0 = j * 0 from by omega]
    rfl
  · have : j = a.length := by omega
    subst this
    rw [filled_all]
    simp
theorem g_toStringS : chkF Go.Proofs.Tryz.prog fid_laws_toStringS (toS1 (.string ⟨#[]⟩)) = true := by kernel_rfl
theorem sem_toStringS (a : (List ByteArray)) (ha : a.length ≤ 4294967296) (lvl : Nat) (S : Sto) : Sem Go.Proofs.Tryz.prog fid_laws_toStringS lvl [.tr (.sl (rS a))] S (.ow 1 (rS a) true) S := sem_toS g_toStringS a ha lvl S
theorem sem_toBigraph (x : TBigraph) (hb : bdBigraph 4294967296 x) (lvl : Nat) (S : Sto) : Sem Go.Proofs.Tryz.prog fid_laws_toBigraph lvl [.ag ((cBigraph x).map .tr)] S (oBigraph x) S := by
  obtain ⟨b0, b1, b2, b3, b4, b5, b6⟩ := hb
  refine sem_of_chk k_laws_toBigraph (by simp [oBigraph, low, men, mens]) ?_
  simp only [c_laws_toBigraph, cBigraph, zfill, zobs, List.map_cons, List.map_nil, r_setAt0, r_setAt1, List.set_cons_zero, List.set_cons_succ, EVA, ↓reduceIte, Nat.reduceEqDiff, Nat.reduceMul, reduceCtorEq, Nat.reduceAdd, Nat.reduceSub, Nat.reduceLeDiff, Nat.reduceLT, Int.reduceToNat, Int.reduceLE, Int.reduceLT, mens, men]
  refine kca_intro (sem_toNodeS x.nodes b0 b1) ?_
  simp only [r_setAt0, r_setAt1, List.set_cons_zero, List.set_cons_succ, Prod.mk.injEq, EVA, ↓reduceIte, Nat.reduceEqDiff, Nat.reduceMul, reduceCtorEq, Nat.reduceAdd, Nat.reduceSub, Nat.reduceLeDiff, Nat.reduceLT, Int.reduceToNat, Int.reduceLE, Int.reduceLT, mens, men]
  refine kca_intro (sem_toIntS x.sites b2) ?_
  simp only [r_setAt0, r_setAt1, List.set_cons_zero, List.set_cons_succ, Prod.mk.injEq, EVA, ↓reduceIte, Nat.reduceEqDiff, Nat.reduceMul, reduceCtorEq, Nat.reduceAdd, Nat.reduceSub, Nat.reduceLeDiff, Nat.reduceLT, Int.reduceToNat, Int.reduceLE, Int.reduceLT, mens, men]
  refine kca_intro (sem_toStringS x.outer b3) ?_
  simp only [r_setAt0, r_setAt1, List.set_cons_zero, List.set_cons_succ, Prod.mk.injEq, EVA, ↓reduceIte, Nat.reduceEqDiff, Nat.reduceMul, reduceCtorEq, Nat.reduceAdd, Nat.reduceSub, Nat.reduceLeDiff, Nat.reduceLT, Int.reduceToNat, Int.reduceLE, Int.reduceLT, mens, men]
  refine kca_intro (sem_toWireS x.inner b5 b6) ?_
  simp only [r_setAt0, r_setAt1, List.set_cons_zero, List.set_cons_succ, Prod.mk.injEq, EVA, ↓reduceIte, Nat.reduceEqDiff, Nat.reduceMul, reduceCtorEq, Nat.reduceAdd, Nat.reduceSub, Nat.reduceLeDiff, Nat.reduceLT, Int.reduceToNat, Int.reduceLE, Int.reduceLT, mens, men]
  rfl
theorem sem_toControl (x : TControl) (hb : bdControl 4294967296 x) (lvl : Nat) (S : Sto) : Sem Go.Proofs.Tryz.prog fid_laws_toControl lvl [.ag ((cControl x).map .tr)] S (oControl x) S := by
  have b0 : x.name.size ≤ 4294967296 := hb
  refine sem_of_chk k_laws_toControl (by simp [oControl, low, men, mens]) ?_
  simp only [c_laws_toControl, cControl, zfill, zobs, List.map_cons, List.map_nil, r_setAt0, r_setAt1, List.set_cons_zero, List.set_cons_succ, EVA, ↓reduceIte, Nat.reduceEqDiff, Nat.reduceMul, reduceCtorEq, Nat.reduceAdd, Nat.reduceSub, Nat.reduceLeDiff, Nat.reduceLT, Int.reduceToNat, Int.reduceLE, Int.reduceLT, mens, men]
  rfl
theorem sem_toControlS (a : (List TControl)) (ha : a.length ≤ 4294967296) (hb : ∀ y ∈ a, bdControl 4294967296 y) (lvl : Nat) (S : Sto) : Sem Go.Proofs.Tryz.prog fid_laws_toControlS lvl [.tr (.sl (a.map cControl))] S (.ow 3 (a.map cControl) true) S := by
  refine sem_of_chk k_laws_toControlS trivial ?_
  simp only [c_laws_toControlS, List.length_map, bigN, Int.natCast_nonneg, EVA, ↓reduceIte, Nat.reduceEqDiff, Nat.reduceMul, reduceCtorEq, Nat.reduceAdd, Nat.reduceSub, Nat.reduceLeDiff, Nat.reduceLT, Int.reduceToNat, Int.reduceLE, Int.reduceLT, mens, men]
  refine ⟨by omega, ?_⟩
  refine wp_count (α := Unit) a.length (fun j _ => ⟨lvl, [(0, .tr (.sl (a.map cControl))), (3, .hd (lvl, 224) [] 0 a.length none a.length), (4, iI j)], [(224, .ar 3 (filled cControl [ts ⟨#[]⟩, tv 0, tv 0] a j) true a.length (j * 0))], S⟩) (fun _ _ => True) () ⟨by simp only [EVA, ↓reduceIte, Nat.reduceEqDiff, Nat.reduceMul, reduceCtorEq, Nat.reduceAdd, Nat.reduceSub, Nat.reduceLeDiff, Nat.reduceLT, Int.reduceToNat, Int.reduceLE, Int.reduceLT, mens, men], by (simp only [filled_zero, EVA, ↓reduceIte, Nat.reduceEqDiff, Nat.reduceMul, reduceCtorEq, Nat.reduceAdd, Nat.reduceSub, Nat.reduceLeDiff, Nat.reduceLT, Int.reduceToNat, Int.reduceLE, Int.reduceLT, mens, men]) <;> rfl⟩ trivial ?_
  intro j _ hj _
  simp only [List.length_map, EVA, ↓reduceIte, Nat.reduceEqDiff, Nat.reduceMul, reduceCtorEq, Nat.reduceAdd, Nat.reduceSub, Nat.reduceLeDiff, Nat.reduceLT, Int.reduceToNat, Int.reduceLE, Int.reduceLT, mens, men]
  refine ite_of (fun hlt => ?_) (fun hge => ?_)
  · have hja : j < a.length := by omega
    have ga : (a.map cControl)[j]? = some (cControl a[j]) := by simp [hja]
    have gz : (filled cControl [ts ⟨#[]⟩, tv 0, tv 0] a j)[j]? = some [ts ⟨#[]⟩, tv 0, tv 0] := filled_get hja
    have hfl : (filled cControl [ts ⟨#[]⟩, tv 0, tv 0] a j).length = a.length := filled_length hj
    have hsem := fun lvl S => sem_toControl a[j] (hb a[j] (List.getElem_mem hja)) lvl S
    simp only [ga, gz, Int.natCast_nonneg, Nat.le_refl, hja, cControl, oControl, Nat.reduceLeDiff, EVA, ↓reduceIte, Nat.reduceEqDiff, Nat.reduceMul, reduceCtorEq, Nat.reduceAdd, Nat.reduceSub, Nat.reduceLT, Int.reduceToNat, Int.reduceLE, Int.reduceLT, mens, men]
    refine kca_intro hsem ?_
    simp only [oControl, gz, Int.natCast_nonneg, Nat.le_refl, hja, hfl, setp, List.getElem?_set_self, List.set_set, List.length_set, List.set_cons_zero, List.set_cons_succ, Prod.mk.injEq, ne_eq, not_false_eq_true, EVA, ↓reduceIte, Nat.reduceEqDiff, Nat.reduceMul, reduceCtorEq, Nat.reduceAdd, Nat.reduceSub, Nat.reduceLeDiff, Nat.reduceLT, Int.reduceToNat, Int.reduceLE, Int.reduceLT, mens, men]
    refine ⟨by rw [fits_i64]; omega, cntJ_intro () hja ?_ trivial⟩
    have hse := filled_set (c := cControl) (z := [ts ⟨#[]⟩, tv 0, tv 0]) (e := [ts a[j].name, tv a[j].ports, tv a[j].kind_]) hja rfl
    rw [hse, show (j + 1) * 0 = j * 0 from by omega]
    rfl
  · have : j = a.length := by omega
    subst this
    rw [filled_all]
    simp
end Go.Fd

/-
  WHAT THE LAW OF CloseName LEANS ON. Own work.
-/
namespace Go.Fd
theorem nL_one {α : Type} {f : α → Nat} {B : Nat} (l : List α) (h : ∀ x ∈ l, f x ≤ B) {n : Nat} (hl : l.length ≤ n) : nL f l ≤ n * B := Nat.le_trans (nL_le l h) (Nat.mul_le_mul_right _ hl)
theorem ok_big {sig : List TControl} {b : TBigraph} (h : bigOK sig b) : bdBigraph 4294967296 b ∧ 1 + (nBigraph b : Int) ≤ 4611686018427387904 := by
  refine ⟨bd_mono (by omega) (bd_small h), ?_⟩
  have hs := h.small
  have n1 := nL_one (f := nNode) (B := 1002) b.nodes (fun x hx => by have := hs.links x hx; simp only [nNode, nL_int]; omega) hs.nodes
  have n2 := nL_one (f := nInt) (B := 1) b.sites (fun x _ => by simp [nInt]) hs.sites
  have n3 := nL_one (f := nStr) (B := 1) b.outer (fun x _ => by simp [nStr]) hs.outer
  have n4 := nL_one (f := nWire) (B := 2) b.inner (fun x _ => by simp [nWire]) hs.inner
  unfold nBigraph
  omega
theorem ok_none : bdBigraph 4294967296 emptyB ∧ 1 + (nBigraph emptyB : Int) ≤ 4611686018427387904 := by
  refine ⟨⟨by simp [emptyB], by simp [emptyB], by simp [emptyB], by simp [emptyB], by simp [emptyB], by simp [emptyB], by simp [emptyB]⟩, ?_⟩
  simp [nBigraph, emptyB, nL]
end Go.Fd

/-
  WHAT THE LAW OF ComposeBigraphs LEANS ON. Own work.
-/
namespace Go.Fd
theorem ok_ComposeBigraphs (sig : List TControl) (a b : TBigraph) (_hn : sig.length ≤ 4294967296) (_hbs : ∀ y ∈ sig, bdControl 4294967296 y) (_ha : bdBigraph 4294967296 a) (_hb : bdBigraph 4294967296 b) : bdBigraph 4294967296 (r0_ComposeBigraphs sig a b) ∧ 1 + (nBigraph (r0_ComposeBigraphs sig a b) : Int) ≤ 4611686018427387904 := by
  unfold r0_ComposeBigraphs
  split
  · rename_i h; exact ok_big h.2.2.2
  · exact ok_none
end Go.Fd

/-
  THE LAW OF ComposeBigraphs (printed by lawtext.py). Own work.
-/
namespace Go.Fd
set_option maxRecDepth 20000
set_option maxHeartbeats 2000000 in
theorem sem_FnExactComposeBigraphs (x0 : (List TControl)) (x1 : TBigraph) (x2 : TBigraph) (hb0_0 : x0.length ≤ 9223372036854775807) (hb0_1 : ∀ y ∈ x0, bdControl 9223372036854775807 y) (hb1_0 : bdBigraph 9223372036854775807 x1) (hb2_0 : bdBigraph 9223372036854775807 x2) (hf1 : ftBigraph x1) (hf2 : ftBigraph x2) (lvl : Nat) (S : Sto) : Sem Go.Proofs.Tryz.prog fid_laws_FnExactComposeBigraphs lvl [.tr (.sl (x0.map cControl)), .ag ((cBigraph x1).map .tr), .ag ((cBigraph x2).map .tr)] S (iB true) S := by
  refine sem_of_chk k_laws_FnExactComposeBigraphs trivial ?_
  simp only [c_laws_FnExactComposeBigraphs, List.length_map, cut_map, cut_mL, mL_length, ne_eq, not_true_eq_false, bne_self_eq_false, cBigraph, oBigraph, EVA, ↓reduceIte, Nat.reduceEqDiff, Nat.reduceMul, reduceCtorEq, Nat.reduceAdd, Nat.reduceSub, Nat.reduceLeDiff, Nat.reduceLT, Int.reduceToNat, Int.reduceLE, Int.reduceLT, mens, men]
  have ul : (1048576 : Int) ≤ 1048576 := Int.le_refl _
  obtain ⟨_, ha0⟩ := sem_szControlS x0 hb0_0 hb0_1 (1048576) (by omega) (by omega)
  refine kca_intro ha0 ?_
  simp only [List.length_map, cut_map, cut_mL, mL_length, ne_eq, not_true_eq_false, bne_self_eq_false, cBigraph, oBigraph, EVA, ↓reduceIte, Nat.reduceEqDiff, Nat.reduceMul, reduceCtorEq, Nat.reduceAdd, Nat.reduceSub, Nat.reduceLeDiff, Nat.reduceLT, Int.reduceToNat, Int.reduceLE, Int.reduceLT, mens, men]
  refine ite_of (fun _ => trivial) (fun hz0 => ?_)
  have zp0 := (Zm_L (f := szControl) (fun y => (zpControl y)) x0) (1048576) (by omega) (by omega)
  have zq0 := (Zq_L (f := szControl) (n := nControl) (fun y => Zq_imp (zqControl y) (by omega)) x0) (1048576) (by omega) (by omega)
  simp only at zp0 zq0
  have hp0 := zp0.2 (by omega)
  have hq0 := zq0.2 (by omega)
  obtain ⟨hs0_0, hs0_1⟩ := hp0
  obtain ⟨_, ha1⟩ := sem_szBigraph x1 hb1_0 (szL szControl x0 (1048576)) (by omega) (by omega)
  refine kca_intro ha1 ?_
  simp only [List.length_map, cut_map, cut_mL, mL_length, ne_eq, not_true_eq_false, bne_self_eq_false, cBigraph, oBigraph, EVA, ↓reduceIte, Nat.reduceEqDiff, Nat.reduceMul, reduceCtorEq, Nat.reduceAdd, Nat.reduceSub, Nat.reduceLeDiff, Nat.reduceLT, Int.reduceToNat, Int.reduceLE, Int.reduceLT, mens, men]
  refine ite_of (fun _ => trivial) (fun hz1 => ?_)
  have zp1 := (zpBigraph x1) (szL szControl x0 (1048576)) (by omega) (by omega)
  have zq1 := (zqBigraph x1) (szL szControl x0 (1048576)) (by omega) (by omega)
  simp only at zp1 zq1
  have hp1 := zp1.2 (by omega)
  have hq1 := zq1.2 (by omega)
  have hs1_0 := hp1
  obtain ⟨_, ha2⟩ := sem_szBigraph x2 hb2_0 (szBigraph x1 (szL szControl x0 (1048576))) (by omega) (by omega)
  refine kca_intro ha2 ?_
  simp only [List.length_map, cut_map, cut_mL, mL_length, ne_eq, not_true_eq_false, bne_self_eq_false, cBigraph, oBigraph, EVA, ↓reduceIte, Nat.reduceEqDiff, Nat.reduceMul, reduceCtorEq, Nat.reduceAdd, Nat.reduceSub, Nat.reduceLeDiff, Nat.reduceLT, Int.reduceToNat, Int.reduceLE, Int.reduceLT, mens, men]
  refine ite_of (fun _ => trivial) (fun hz2 => ?_)
  have zp2 := (zpBigraph x2) (szBigraph x1 (szL szControl x0 (1048576))) (by omega) (by omega)
  have zq2 := (zqBigraph x2) (szBigraph x1 (szL szControl x0 (1048576))) (by omega) (by omega)
  simp only at zp2 zq2
  have hp2 := zp2.2 (by omega)
  have hq2 := zq2.2 (by omega)
  have hs2_0 := hp2
  refine kca_intro (sem_toControlS x0 hs0_0 hs0_1) ?_
  simp only [List.length_map, cut_map, cut_mL, mL_length, ne_eq, not_true_eq_false, bne_self_eq_false, cBigraph, oBigraph, EVA, ↓reduceIte, Nat.reduceEqDiff, Nat.reduceMul, reduceCtorEq, Nat.reduceAdd, Nat.reduceSub, Nat.reduceLeDiff, Nat.reduceLT, Int.reduceToNat, Int.reduceLE, Int.reduceLT, mens, men]
  refine kca_intro (sem_toBigraph x1 hs1_0) ?_
  simp only [List.length_map, cut_map, cut_mL, mL_length, ne_eq, not_true_eq_false, bne_self_eq_false, cBigraph, oBigraph, EVA, ↓reduceIte, Nat.reduceEqDiff, Nat.reduceMul, reduceCtorEq, Nat.reduceAdd, Nat.reduceSub, Nat.reduceLeDiff, Nat.reduceLT, Int.reduceToNat, Int.reduceLE, Int.reduceLT, mens, men]
  refine kca_intro (sem_toBigraph x2 hs2_0) ?_
  simp only [List.length_map, cut_map, cut_mL, mL_length, ne_eq, not_true_eq_false, bne_self_eq_false, cBigraph, oBigraph, EVA, ↓reduceIte, Nat.reduceEqDiff, Nat.reduceMul, reduceCtorEq, Nat.reduceAdd, Nat.reduceSub, Nat.reduceLeDiff, Nat.reduceLT, Int.reduceToNat, Int.reduceLE, Int.reduceLT, mens, men]
  by_cases hB : compOK x0 x1 x2
  · refine kca_intro (sem_spec_ComposeBigraphs_y x0 x1 x2 hs0_0 hs0_1 hs1_0 hs2_0 hf1 hf2 hB) ?_
    simp only [List.length_map, cut_map, cut_mL, mL_length, ne_eq, not_true_eq_false, bne_self_eq_false, cBigraph, oBigraph, EVA, ↓reduceIte, Nat.reduceEqDiff, Nat.reduceMul, reduceCtorEq, Nat.reduceAdd, Nat.reduceSub, Nat.reduceLeDiff, Nat.reduceLT, Int.reduceToNat, Int.reduceLE, Int.reduceLT, mens, men]
    refine kca_intro (sem_toControlS x0 hs0_0 hs0_1) ?_
    simp only [List.length_map, cut_map, cut_mL, mL_length, ne_eq, not_true_eq_false, bne_self_eq_false, cBigraph, oBigraph, EVA, ↓reduceIte, Nat.reduceEqDiff, Nat.reduceMul, reduceCtorEq, Nat.reduceAdd, Nat.reduceSub, Nat.reduceLeDiff, Nat.reduceLT, Int.reduceToNat, Int.reduceLE, Int.reduceLT, mens, men]
    refine kca_intro (sem_toBigraph x1 hs1_0) ?_
    simp only [List.length_map, cut_map, cut_mL, mL_length, ne_eq, not_true_eq_false, bne_self_eq_false, cBigraph, oBigraph, EVA, ↓reduceIte, Nat.reduceEqDiff, Nat.reduceMul, reduceCtorEq, Nat.reduceAdd, Nat.reduceSub, Nat.reduceLeDiff, Nat.reduceLT, Int.reduceToNat, Int.reduceLE, Int.reduceLT, mens, men]
    refine kca_intro (sem_toBigraph x2 hs2_0) ?_
    simp only [List.length_map, cut_map, cut_mL, mL_length, ne_eq, not_true_eq_false, bne_self_eq_false, cBigraph, oBigraph, EVA, ↓reduceIte, Nat.reduceEqDiff, Nat.reduceMul, reduceCtorEq, Nat.reduceAdd, Nat.reduceSub, Nat.reduceLeDiff, Nat.reduceLT, Int.reduceToNat, Int.reduceLE, Int.reduceLT, mens, men]
    refine kca_intro (sem_impl_ComposeBigraphs x0 x1 x2 hs0_0 hs0_1 hs1_0 hs2_0 hf1 hf2) ?_
    simp only [List.length_map, cut_map, cut_mL, mL_length, ne_eq, not_true_eq_false, bne_self_eq_false, cBigraph, oBigraph, EVA, ↓reduceIte, Nat.reduceEqDiff, Nat.reduceMul, reduceCtorEq, Nat.reduceAdd, Nat.reduceSub, Nat.reduceLeDiff, Nat.reduceLT, Int.reduceToNat, Int.reduceLE, Int.reduceLT, mens, men]
    obtain ⟨hr0_0, hrn⟩ := ok_ComposeBigraphs x0 x1 x2 hs0_0 hs0_1 hs1_0 hs2_0
    refine kca_intro (sem_eqBigraph (r0_ComposeBigraphs x0 x1 x2) (r0_ComposeBigraphs x0 x1 x2) (monoBigraph hr0_0)) ?_
    simp only [List.length_map, cut_map, cut_mL, mL_length, ne_eq, not_true_eq_false, bne_self_eq_false, cBigraph, oBigraph, EVA, ↓reduceIte, Nat.reduceEqDiff, Nat.reduceMul, reduceCtorEq, Nat.reduceAdd, Nat.reduceSub, Nat.reduceLeDiff, Nat.reduceLT, Int.reduceToNat, Int.reduceLE, Int.reduceLT, mens, men]
    refine kca_intro (sem_toControlS x0 hs0_0 hs0_1) ?_
    simp only [List.length_map, cut_map, cut_mL, mL_length, ne_eq, not_true_eq_false, bne_self_eq_false, cBigraph, oBigraph, EVA, ↓reduceIte, Nat.reduceEqDiff, Nat.reduceMul, reduceCtorEq, Nat.reduceAdd, Nat.reduceSub, Nat.reduceLeDiff, Nat.reduceLT, Int.reduceToNat, Int.reduceLE, Int.reduceLT, mens, men]
    refine kca_intro (sem_eqControlS x0 x0 hb0_0 hb0_1) ?_
    simp only [List.length_map, cut_map, cut_mL, mL_length, ne_eq, not_true_eq_false, bne_self_eq_false, cBigraph, oBigraph, EVA, ↓reduceIte, Nat.reduceEqDiff, Nat.reduceMul, reduceCtorEq, Nat.reduceAdd, Nat.reduceSub, Nat.reduceLeDiff, Nat.reduceLT, Int.reduceToNat, Int.reduceLE, Int.reduceLT, mens, men]
    refine kca_intro (sem_toBigraph x1 hs1_0) ?_
    simp only [List.length_map, cut_map, cut_mL, mL_length, ne_eq, not_true_eq_false, bne_self_eq_false, cBigraph, oBigraph, EVA, ↓reduceIte, Nat.reduceEqDiff, Nat.reduceMul, reduceCtorEq, Nat.reduceAdd, Nat.reduceSub, Nat.reduceLeDiff, Nat.reduceLT, Int.reduceToNat, Int.reduceLE, Int.reduceLT, mens, men]
    refine kca_intro (sem_eqBigraph x1 x1 hb1_0) ?_
    simp only [List.length_map, cut_map, cut_mL, mL_length, ne_eq, not_true_eq_false, bne_self_eq_false, cBigraph, oBigraph, EVA, ↓reduceIte, Nat.reduceEqDiff, Nat.reduceMul, reduceCtorEq, Nat.reduceAdd, Nat.reduceSub, Nat.reduceLeDiff, Nat.reduceLT, Int.reduceToNat, Int.reduceLE, Int.reduceLT, mens, men]
    refine kca_intro (sem_toBigraph x2 hs2_0) ?_
    simp only [List.length_map, cut_map, cut_mL, mL_length, ne_eq, not_true_eq_false, bne_self_eq_false, cBigraph, oBigraph, EVA, ↓reduceIte, Nat.reduceEqDiff, Nat.reduceMul, reduceCtorEq, Nat.reduceAdd, Nat.reduceSub, Nat.reduceLeDiff, Nat.reduceLT, Int.reduceToNat, Int.reduceLE, Int.reduceLT, mens, men]
    refine kca_intro (sem_eqBigraph x2 x2 hb2_0) ?_
    simp only [List.length_map, cut_map, cut_mL, mL_length, ne_eq, not_true_eq_false, bne_self_eq_false, cBigraph, oBigraph, EVA, ↓reduceIte, Nat.reduceEqDiff, Nat.reduceMul, reduceCtorEq, Nat.reduceAdd, Nat.reduceSub, Nat.reduceLeDiff, Nat.reduceLT, Int.reduceToNat, Int.reduceLE, Int.reduceLT, mens, men]
    simp only [arg1]
    refine kcy_mark1 mark_ControlS (a := x0) rfl (by omega) (by omega) hs0_0 hs0_1 ?_
    simp only [List.length_map, cut_map, cut_mL, mL_length, ne_eq, not_true_eq_false, bne_self_eq_false, cBigraph, oBigraph, EVA, ↓reduceIte, Nat.reduceEqDiff, Nat.reduceMul, reduceCtorEq, Nat.reduceAdd, Nat.reduceSub, Nat.reduceLeDiff, Nat.reduceLT, Int.reduceToNat, Int.reduceLE, Int.reduceLT, mens, men]
    simp only [arg1]
    refine kcy_markBigraph (x := x1) (by decide) (by decide) (by decide) (by decide) (by decide) (by decide) rfl rfl rfl rfl (by omega) (by omega) hs1_0 ?_
    simp only [List.length_map, cut_map, cut_mL, mL_length, ne_eq, not_true_eq_false, bne_self_eq_false, cBigraph, oBigraph, EVA, ↓reduceIte, Nat.reduceEqDiff, Nat.reduceMul, reduceCtorEq, Nat.reduceAdd, Nat.reduceSub, Nat.reduceLeDiff, Nat.reduceLT, Int.reduceToNat, Int.reduceLE, Int.reduceLT, mens, men]
    simp only [arg1]
    refine kcy_markBigraph (x := x2) (by decide) (by decide) (by decide) (by decide) (by decide) (by decide) rfl rfl rfl rfl (by omega) (by omega) hs2_0 ?_
    simp only [List.length_map, cut_map, cut_mL, mL_length, ne_eq, not_true_eq_false, bne_self_eq_false, cBigraph, oBigraph, EVA, ↓reduceIte, Nat.reduceEqDiff, Nat.reduceMul, reduceCtorEq, Nat.reduceAdd, Nat.reduceSub, Nat.reduceLeDiff, Nat.reduceLT, Int.reduceToNat, Int.reduceLE, Int.reduceLT, mens, men]
    have hk0 : ¬ (1 + (nL nControl x0 : Nat) + (nBigraph x1 : Nat) + (nBigraph x2 : Nat) < (0 : Int)) := by omega
    simp only [hk0, List.length_map, cut_map, cut_mL, mL_length, ne_eq, not_true_eq_false, bne_self_eq_false, cBigraph, oBigraph, EVA, ↓reduceIte, Nat.reduceEqDiff, Nat.reduceMul, reduceCtorEq, Nat.reduceAdd, Nat.reduceSub, Nat.reduceLeDiff, Nat.reduceLT, Int.reduceToNat, Int.reduceLE, Int.reduceLT, mens, men]
    refine kca_intro (sem_eqBigraph (r0_ComposeBigraphs x0 x1 x2) (r0_ComposeBigraphs x0 x1 x2) (monoBigraph hr0_0)) ?_
    simp only [List.length_map, cut_map, cut_mL, mL_length, ne_eq, not_true_eq_false, bne_self_eq_false, cBigraph, oBigraph, EVA, ↓reduceIte, Nat.reduceEqDiff, Nat.reduceMul, reduceCtorEq, Nat.reduceAdd, Nat.reduceSub, Nat.reduceLeDiff, Nat.reduceLT, Int.reduceToNat, Int.reduceLE, Int.reduceLT, mens, men]
    simp only [arg1]
    refine kcy_markBigraph (x := (r0_ComposeBigraphs x0 x1 x2)) (by decide) (by decide) (by decide) (by decide) (by decide) (by decide) rfl rfl rfl rfl (by omega) (by omega) hr0_0 ?_
    simp only [List.length_map, cut_map, cut_mL, mL_length, ne_eq, not_true_eq_false, bne_self_eq_false, cBigraph, oBigraph, EVA, ↓reduceIte, Nat.reduceEqDiff, Nat.reduceMul, reduceCtorEq, Nat.reduceAdd, Nat.reduceSub, Nat.reduceLeDiff, Nat.reduceLT, Int.reduceToNat, Int.reduceLE, Int.reduceLT, mens, men]
    refine kca_intro (held_Bigraph (r0_ComposeBigraphs x0 x1 x2) (1) hr0_0 (by omega) (by omega)) ?_
    have hh0 : ¬ (1 + (nBigraph (r0_ComposeBigraphs x0 x1 x2) : Nat) < (0 : Int)) := by omega
    simp only [hh0, List.length_map, cut_map, cut_mL, mL_length, ne_eq, not_true_eq_false, bne_self_eq_false, cBigraph, oBigraph, EVA, ↓reduceIte, Nat.reduceEqDiff, Nat.reduceMul, reduceCtorEq, Nat.reduceAdd, Nat.reduceSub, Nat.reduceLeDiff, Nat.reduceLT, Int.reduceToNat, Int.reduceLE, Int.reduceLT, mens, men]
    refine kca_intro (sem_toControlS x0 hs0_0 hs0_1) ?_
    simp only [List.length_map, cut_map, cut_mL, mL_length, ne_eq, not_true_eq_false, bne_self_eq_false, cBigraph, oBigraph, EVA, ↓reduceIte, Nat.reduceEqDiff, Nat.reduceMul, reduceCtorEq, Nat.reduceAdd, Nat.reduceSub, Nat.reduceLeDiff, Nat.reduceLT, Int.reduceToNat, Int.reduceLE, Int.reduceLT, mens, men]
    refine kca_intro (sem_toBigraph x1 hs1_0) ?_
    simp only [List.length_map, cut_map, cut_mL, mL_length, ne_eq, not_true_eq_false, bne_self_eq_false, cBigraph, oBigraph, EVA, ↓reduceIte, Nat.reduceEqDiff, Nat.reduceMul, reduceCtorEq, Nat.reduceAdd, Nat.reduceSub, Nat.reduceLeDiff, Nat.reduceLT, Int.reduceToNat, Int.reduceLE, Int.reduceLT, mens, men]
    refine kca_intro (sem_toBigraph x2 hs2_0) ?_
    simp only [List.length_map, cut_map, cut_mL, mL_length, ne_eq, not_true_eq_false, bne_self_eq_false, cBigraph, oBigraph, EVA, ↓reduceIte, Nat.reduceEqDiff, Nat.reduceMul, reduceCtorEq, Nat.reduceAdd, Nat.reduceSub, Nat.reduceLeDiff, Nat.reduceLT, Int.reduceToNat, Int.reduceLE, Int.reduceLT, mens, men]
    refine kca_intro (sem_impl_ComposeBigraphs x0 x1 x2 hs0_0 hs0_1 hs1_0 hs2_0 hf1 hf2) ?_
    simp only [List.length_map, cut_map, cut_mL, mL_length, ne_eq, not_true_eq_false, bne_self_eq_false, cBigraph, oBigraph, EVA, ↓reduceIte, Nat.reduceEqDiff, Nat.reduceMul, reduceCtorEq, Nat.reduceAdd, Nat.reduceSub, Nat.reduceLeDiff, Nat.reduceLT, Int.reduceToNat, Int.reduceLE, Int.reduceLT, mens, men]
    refine kca_intro (sem_eqBigraph (r0_ComposeBigraphs x0 x1 x2) (r0_ComposeBigraphs x0 x1 x2) (monoBigraph hr0_0)) ?_
    simp only [List.length_map, cut_map, cut_mL, mL_length, ne_eq, not_true_eq_false, bne_self_eq_false, cBigraph, oBigraph, EVA, ↓reduceIte, Nat.reduceEqDiff, Nat.reduceMul, reduceCtorEq, Nat.reduceAdd, Nat.reduceSub, Nat.reduceLeDiff, Nat.reduceLT, Int.reduceToNat, Int.reduceLE, Int.reduceLT, mens, men]
    refine kca_intro (held_Bigraph (r0_ComposeBigraphs x0 x1 x2) (1) hr0_0 (by omega) (by omega)) ?_
    have hh0 : ¬ (1 + (nBigraph (r0_ComposeBigraphs x0 x1 x2) : Nat) < (0 : Int)) := by omega
    simp only [hh0, List.length_map, cut_map, cut_mL, mL_length, ne_eq, not_true_eq_false, bne_self_eq_false, cBigraph, oBigraph, EVA, ↓reduceIte, Nat.reduceEqDiff, Nat.reduceMul, reduceCtorEq, Nat.reduceAdd, Nat.reduceSub, Nat.reduceLeDiff, Nat.reduceLT, Int.reduceToNat, Int.reduceLE, Int.reduceLT, mens, men]
  · refine kca_intro (sem_spec_ComposeBigraphs_n x0 x1 x2 hs0_0 hs0_1 hs1_0 hs2_0 hf1 hf2 hB) ?_
    simp only [List.length_map, cut_map, cut_mL, mL_length, ne_eq, not_true_eq_false, bne_self_eq_false, cBigraph, oBigraph, EVA, ↓reduceIte, Nat.reduceEqDiff, Nat.reduceMul, reduceCtorEq, Nat.reduceAdd, Nat.reduceSub, Nat.reduceLeDiff, Nat.reduceLT, Int.reduceToNat, Int.reduceLE, Int.reduceLT, mens, men]
    refine kca_intro (sem_toControlS x0 hs0_0 hs0_1) ?_
    simp only [List.length_map, cut_map, cut_mL, mL_length, ne_eq, not_true_eq_false, bne_self_eq_false, cBigraph, oBigraph, EVA, ↓reduceIte, Nat.reduceEqDiff, Nat.reduceMul, reduceCtorEq, Nat.reduceAdd, Nat.reduceSub, Nat.reduceLeDiff, Nat.reduceLT, Int.reduceToNat, Int.reduceLE, Int.reduceLT, mens, men]
    refine kca_intro (sem_toBigraph x1 hs1_0) ?_
    simp only [List.length_map, cut_map, cut_mL, mL_length, ne_eq, not_true_eq_false, bne_self_eq_false, cBigraph, oBigraph, EVA, ↓reduceIte, Nat.reduceEqDiff, Nat.reduceMul, reduceCtorEq, Nat.reduceAdd, Nat.reduceSub, Nat.reduceLeDiff, Nat.reduceLT, Int.reduceToNat, Int.reduceLE, Int.reduceLT, mens, men]
    refine kca_intro (sem_toBigraph x2 hs2_0) ?_
    simp only [List.length_map, cut_map, cut_mL, mL_length, ne_eq, not_true_eq_false, bne_self_eq_false, cBigraph, oBigraph, EVA, ↓reduceIte, Nat.reduceEqDiff, Nat.reduceMul, reduceCtorEq, Nat.reduceAdd, Nat.reduceSub, Nat.reduceLeDiff, Nat.reduceLT, Int.reduceToNat, Int.reduceLE, Int.reduceLT, mens, men]
    refine kca_intro (sem_impl_ComposeBigraphs x0 x1 x2 hs0_0 hs0_1 hs1_0 hs2_0 hf1 hf2) ?_
    simp only [List.length_map, cut_map, cut_mL, mL_length, ne_eq, not_true_eq_false, bne_self_eq_false, cBigraph, oBigraph, EVA, ↓reduceIte, Nat.reduceEqDiff, Nat.reduceMul, reduceCtorEq, Nat.reduceAdd, Nat.reduceSub, Nat.reduceLeDiff, Nat.reduceLT, Int.reduceToNat, Int.reduceLE, Int.reduceLT, mens, men]
    obtain ⟨hr0_0, hrn⟩ := ok_ComposeBigraphs x0 x1 x2 hs0_0 hs0_1 hs1_0 hs2_0
    refine kca_intro (sem_eqBigraph (r0_ComposeBigraphs x0 x1 x2) (r0_ComposeBigraphs x0 x1 x2) (monoBigraph hr0_0)) ?_
    simp only [List.length_map, cut_map, cut_mL, mL_length, ne_eq, not_true_eq_false, bne_self_eq_false, cBigraph, oBigraph, EVA, ↓reduceIte, Nat.reduceEqDiff, Nat.reduceMul, reduceCtorEq, Nat.reduceAdd, Nat.reduceSub, Nat.reduceLeDiff, Nat.reduceLT, Int.reduceToNat, Int.reduceLE, Int.reduceLT, mens, men]
    refine kca_intro (sem_toControlS x0 hs0_0 hs0_1) ?_
    simp only [List.length_map, cut_map, cut_mL, mL_length, ne_eq, not_true_eq_false, bne_self_eq_false, cBigraph, oBigraph, EVA, ↓reduceIte, Nat.reduceEqDiff, Nat.reduceMul, reduceCtorEq, Nat.reduceAdd, Nat.reduceSub, Nat.reduceLeDiff, Nat.reduceLT, Int.reduceToNat, Int.reduceLE, Int.reduceLT, mens, men]
    refine kca_intro (sem_eqControlS x0 x0 hb0_0 hb0_1) ?_
    simp only [List.length_map, cut_map, cut_mL, mL_length, ne_eq, not_true_eq_false, bne_self_eq_false, cBigraph, oBigraph, EVA, ↓reduceIte, Nat.reduceEqDiff, Nat.reduceMul, reduceCtorEq, Nat.reduceAdd, Nat.reduceSub, Nat.reduceLeDiff, Nat.reduceLT, Int.reduceToNat, Int.reduceLE, Int.reduceLT, mens, men]
    refine kca_intro (sem_toBigraph x1 hs1_0) ?_
    simp only [List.length_map, cut_map, cut_mL, mL_length, ne_eq, not_true_eq_false, bne_self_eq_false, cBigraph, oBigraph, EVA, ↓reduceIte, Nat.reduceEqDiff, Nat.reduceMul, reduceCtorEq, Nat.reduceAdd, Nat.reduceSub, Nat.reduceLeDiff, Nat.reduceLT, Int.reduceToNat, Int.reduceLE, Int.reduceLT, mens, men]
    refine kca_intro (sem_eqBigraph x1 x1 hb1_0) ?_
    simp only [List.length_map, cut_map, cut_mL, mL_length, ne_eq, not_true_eq_false, bne_self_eq_false, cBigraph, oBigraph, EVA, ↓reduceIte, Nat.reduceEqDiff, Nat.reduceMul, reduceCtorEq, Nat.reduceAdd, Nat.reduceSub, Nat.reduceLeDiff, Nat.reduceLT, Int.reduceToNat, Int.reduceLE, Int.reduceLT, mens, men]
    refine kca_intro (sem_toBigraph x2 hs2_0) ?_
    simp only [List.length_map, cut_map, cut_mL, mL_length, ne_eq, not_true_eq_false, bne_self_eq_false, cBigraph, oBigraph, EVA, ↓reduceIte, Nat.reduceEqDiff, Nat.reduceMul, reduceCtorEq, Nat.reduceAdd, Nat.reduceSub, Nat.reduceLeDiff, Nat.reduceLT, Int.reduceToNat, Int.reduceLE, Int.reduceLT, mens, men]
    refine kca_intro (sem_eqBigraph x2 x2 hb2_0) ?_
    simp only [List.length_map, cut_map, cut_mL, mL_length, ne_eq, not_true_eq_false, bne_self_eq_false, cBigraph, oBigraph, EVA, ↓reduceIte, Nat.reduceEqDiff, Nat.reduceMul, reduceCtorEq, Nat.reduceAdd, Nat.reduceSub, Nat.reduceLeDiff, Nat.reduceLT, Int.reduceToNat, Int.reduceLE, Int.reduceLT, mens, men]
    simp only [arg1]
    refine kcy_mark1 mark_ControlS (a := x0) rfl (by omega) (by omega) hs0_0 hs0_1 ?_
    simp only [List.length_map, cut_map, cut_mL, mL_length, ne_eq, not_true_eq_false, bne_self_eq_false, cBigraph, oBigraph, EVA, ↓reduceIte, Nat.reduceEqDiff, Nat.reduceMul, reduceCtorEq, Nat.reduceAdd, Nat.reduceSub, Nat.reduceLeDiff, Nat.reduceLT, Int.reduceToNat, Int.reduceLE, Int.reduceLT, mens, men]
    simp only [arg1]
    refine kcy_markBigraph (x := x1) (by decide) (by decide) (by decide) (by decide) (by decide) (by decide) rfl rfl rfl rfl (by omega) (by omega) hs1_0 ?_
    simp only [List.length_map, cut_map, cut_mL, mL_length, ne_eq, not_true_eq_false, bne_self_eq_false, cBigraph, oBigraph, EVA, ↓reduceIte, Nat.reduceEqDiff, Nat.reduceMul, reduceCtorEq, Nat.reduceAdd, Nat.reduceSub, Nat.reduceLeDiff, Nat.reduceLT, Int.reduceToNat, Int.reduceLE, Int.reduceLT, mens, men]
    simp only [arg1]
    refine kcy_markBigraph (x := x2) (by decide) (by decide) (by decide) (by decide) (by decide) (by decide) rfl rfl rfl rfl (by omega) (by omega) hs2_0 ?_
    simp only [List.length_map, cut_map, cut_mL, mL_length, ne_eq, not_true_eq_false, bne_self_eq_false, cBigraph, oBigraph, EVA, ↓reduceIte, Nat.reduceEqDiff, Nat.reduceMul, reduceCtorEq, Nat.reduceAdd, Nat.reduceSub, Nat.reduceLeDiff, Nat.reduceLT, Int.reduceToNat, Int.reduceLE, Int.reduceLT, mens, men]
    have hk0 : ¬ (1 + (nL nControl x0 : Nat) + (nBigraph x1 : Nat) + (nBigraph x2 : Nat) < (0 : Int)) := by omega
    simp only [hk0, List.length_map, cut_map, cut_mL, mL_length, ne_eq, not_true_eq_false, bne_self_eq_false, cBigraph, oBigraph, EVA, ↓reduceIte, Nat.reduceEqDiff, Nat.reduceMul, reduceCtorEq, Nat.reduceAdd, Nat.reduceSub, Nat.reduceLeDiff, Nat.reduceLT, Int.reduceToNat, Int.reduceLE, Int.reduceLT, mens, men]
    refine kca_intro (sem_eqBigraph (r0_ComposeBigraphs x0 x1 x2) (r0_ComposeBigraphs x0 x1 x2) (monoBigraph hr0_0)) ?_
    simp only [List.length_map, cut_map, cut_mL, mL_length, ne_eq, not_true_eq_false, bne_self_eq_false, cBigraph, oBigraph, EVA, ↓reduceIte, Nat.reduceEqDiff, Nat.reduceMul, reduceCtorEq, Nat.reduceAdd, Nat.reduceSub, Nat.reduceLeDiff, Nat.reduceLT, Int.reduceToNat, Int.reduceLE, Int.reduceLT, mens, men]
    simp only [arg1]
    refine kcy_markBigraph (x := (r0_ComposeBigraphs x0 x1 x2)) (by decide) (by decide) (by decide) (by decide) (by decide) (by decide) rfl rfl rfl rfl (by omega) (by omega) hr0_0 ?_
    simp only [List.length_map, cut_map, cut_mL, mL_length, ne_eq, not_true_eq_false, bne_self_eq_false, cBigraph, oBigraph, EVA, ↓reduceIte, Nat.reduceEqDiff, Nat.reduceMul, reduceCtorEq, Nat.reduceAdd, Nat.reduceSub, Nat.reduceLeDiff, Nat.reduceLT, Int.reduceToNat, Int.reduceLE, Int.reduceLT, mens, men]
    refine kca_intro (held_Bigraph (r0_ComposeBigraphs x0 x1 x2) (1) hr0_0 (by omega) (by omega)) ?_
    have hh0 : ¬ (1 + (nBigraph (r0_ComposeBigraphs x0 x1 x2) : Nat) < (0 : Int)) := by omega
    simp only [hh0, List.length_map, cut_map, cut_mL, mL_length, ne_eq, not_true_eq_false, bne_self_eq_false, cBigraph, oBigraph, EVA, ↓reduceIte, Nat.reduceEqDiff, Nat.reduceMul, reduceCtorEq, Nat.reduceAdd, Nat.reduceSub, Nat.reduceLeDiff, Nat.reduceLT, Int.reduceToNat, Int.reduceLE, Int.reduceLT, mens, men]
    refine kca_intro (sem_toControlS x0 hs0_0 hs0_1) ?_
    simp only [List.length_map, cut_map, cut_mL, mL_length, ne_eq, not_true_eq_false, bne_self_eq_false, cBigraph, oBigraph, EVA, ↓reduceIte, Nat.reduceEqDiff, Nat.reduceMul, reduceCtorEq, Nat.reduceAdd, Nat.reduceSub, Nat.reduceLeDiff, Nat.reduceLT, Int.reduceToNat, Int.reduceLE, Int.reduceLT, mens, men]
    refine kca_intro (sem_toBigraph x1 hs1_0) ?_
    simp only [List.length_map, cut_map, cut_mL, mL_length, ne_eq, not_true_eq_false, bne_self_eq_false, cBigraph, oBigraph, EVA, ↓reduceIte, Nat.reduceEqDiff, Nat.reduceMul, reduceCtorEq, Nat.reduceAdd, Nat.reduceSub, Nat.reduceLeDiff, Nat.reduceLT, Int.reduceToNat, Int.reduceLE, Int.reduceLT, mens, men]
    refine kca_intro (sem_toBigraph x2 hs2_0) ?_
    simp only [List.length_map, cut_map, cut_mL, mL_length, ne_eq, not_true_eq_false, bne_self_eq_false, cBigraph, oBigraph, EVA, ↓reduceIte, Nat.reduceEqDiff, Nat.reduceMul, reduceCtorEq, Nat.reduceAdd, Nat.reduceSub, Nat.reduceLeDiff, Nat.reduceLT, Int.reduceToNat, Int.reduceLE, Int.reduceLT, mens, men]
    refine kca_intro (sem_impl_ComposeBigraphs x0 x1 x2 hs0_0 hs0_1 hs1_0 hs2_0 hf1 hf2) ?_
    simp only [List.length_map, cut_map, cut_mL, mL_length, ne_eq, not_true_eq_false, bne_self_eq_false, cBigraph, oBigraph, EVA, ↓reduceIte, Nat.reduceEqDiff, Nat.reduceMul, reduceCtorEq, Nat.reduceAdd, Nat.reduceSub, Nat.reduceLeDiff, Nat.reduceLT, Int.reduceToNat, Int.reduceLE, Int.reduceLT, mens, men]
    refine kca_intro (sem_eqBigraph (r0_ComposeBigraphs x0 x1 x2) (r0_ComposeBigraphs x0 x1 x2) (monoBigraph hr0_0)) ?_
    simp only [List.length_map, cut_map, cut_mL, mL_length, ne_eq, not_true_eq_false, bne_self_eq_false, cBigraph, oBigraph, EVA, ↓reduceIte, Nat.reduceEqDiff, Nat.reduceMul, reduceCtorEq, Nat.reduceAdd, Nat.reduceSub, Nat.reduceLeDiff, Nat.reduceLT, Int.reduceToNat, Int.reduceLE, Int.reduceLT, mens, men]
    refine kca_intro (held_Bigraph (r0_ComposeBigraphs x0 x1 x2) (1) hr0_0 (by omega) (by omega)) ?_
    have hh0 : ¬ (1 + (nBigraph (r0_ComposeBigraphs x0 x1 x2) : Nat) < (0 : Int)) := by omega
    simp only [hh0, List.length_map, cut_map, cut_mL, mL_length, ne_eq, not_true_eq_false, bne_self_eq_false, cBigraph, oBigraph, EVA, ↓reduceIte, Nat.reduceEqDiff, Nat.reduceMul, reduceCtorEq, Nat.reduceAdd, Nat.reduceSub, Nat.reduceLeDiff, Nat.reduceLT, Int.reduceToNat, Int.reduceLE, Int.reduceLT, mens, men]
end Go.Fd

/-
  WHAT THE LAWS' ARGUMENTS READ AS (printed by lawgen.py). Own work.
-/
namespace Go.Fd
set_option maxRecDepth 20000
theorem rd_9 : Reads Go.Proofs.Tryz.prog 9 (fun n : ByteArray => [ts n]) (fun n => n.size ≤ 9223372036854775807) := Reads_string Go.Proofs.Tryz.underlying9
theorem rd_3 : Reads Go.Proofs.Tryz.prog 3 (fun n : Int => [tv n]) (fits .i64) := Reads_int Go.Proofs.Tryz.underlying3
theorem rd_57 : Reads Go.Proofs.Tryz.prog 57 cControl (fun x => bdControl 9223372036854775807 x ∧ ftControl x) := Reads_mp (Reads_struct Go.Proofs.Tryz.underlying57 (show ReadsP Go.Proofs.Tryz.prog 0 [(0, 9), (1, 3), (2, 3)] _ _ from (ReadsP_cons (k := 1) (by kernel_rfl) (fun _ => rfl) rd_9 (ReadsP_cons (k := 1) (by kernel_rfl) (fun _ => rfl) rd_3 (ReadsP_cons (k := 1) (by kernel_rfl) (fun _ => rfl) rd_3 ReadsP_nil))))) (fun p => TControl.mk p.1 p.2.1 p.2.2.1) (fun _ => rfl) (fun x h => ⟨h.1, ⟨h.2.1, h.2.2.1⟩⟩)
theorem rd_22 : Reads Go.Proofs.Tryz.prog 22 (fun l : List TControl => [Tr.sl (l.map cControl)]) (fun l => l.length ≤ 9223372036854775807 ∧ ∀ x ∈ l, (fun x => bdControl 9223372036854775807 x ∧ ftControl x) x) := Reads_slice (k := 2) Go.Proofs.Tryz.underlying22 (by kernel_rfl) (fun _ => rfl) rd_57
theorem rd_24 : Reads Go.Proofs.Tryz.prog 24 (fun l : List Int => [Tr.sl (l.map (fun n : Int => [tv n]))]) (fun l => l.length ≤ 9223372036854775807 ∧ ∀ x ∈ l, (fits .i64) x) := Reads_slice (k := 0) Go.Proofs.Tryz.underlying24 (by kernel_rfl) (fun _ => rfl) rd_3
theorem rd_99 : Reads Go.Proofs.Tryz.prog 99 cNode (fun x => bdNode 9223372036854775807 x ∧ ftNode x) := Reads_mp (Reads_struct Go.Proofs.Tryz.underlying99 (show ReadsP Go.Proofs.Tryz.prog 0 [(0, 3), (1, 3), (2, 24)] _ _ from (ReadsP_cons (k := 1) (by kernel_rfl) (fun _ => rfl) rd_3 (ReadsP_cons (k := 1) (by kernel_rfl) (fun _ => rfl) rd_3 (ReadsP_cons (k := 1) (by kernel_rfl) (fun _ => rfl) rd_24 ReadsP_nil))))) (fun p => TNode.mk p.1 p.2.1 p.2.2.1) (fun _ => rfl) (fun x h => ⟨h.2.2.1.1, ⟨h.1, h.2.1, (fun y hy => (h.2.2.1.2 y hy))⟩⟩)
theorem rd_23 : Reads Go.Proofs.Tryz.prog 23 (fun l : List TNode => [Tr.sl (l.map cNode)]) (fun l => l.length ≤ 9223372036854775807 ∧ ∀ x ∈ l, (fun x => bdNode 9223372036854775807 x ∧ ftNode x) x) := Reads_slice (k := 2) Go.Proofs.Tryz.underlying23 (by kernel_rfl) (fun _ => rfl) rd_99
theorem rd_25 : Reads Go.Proofs.Tryz.prog 25 (fun l : List ByteArray => [Tr.sl (l.map (fun n : ByteArray => [ts n]))]) (fun l => l.length ≤ 9223372036854775807 ∧ ∀ x ∈ l, (fun n => n.size ≤ 9223372036854775807) x) := Reads_slice (k := 0) Go.Proofs.Tryz.underlying25 (by kernel_rfl) (fun _ => rfl) rd_9
theorem rd_102 : Reads Go.Proofs.Tryz.prog 102 cWire (fun x => bdWire 9223372036854775807 x ∧ ftWire x) := Reads_mp (Reads_struct Go.Proofs.Tryz.underlying102 (show ReadsP Go.Proofs.Tryz.prog 0 [(0, 9), (1, 3)] _ _ from (ReadsP_cons (k := 1) (by kernel_rfl) (fun _ => rfl) rd_9 (ReadsP_cons (k := 1) (by kernel_rfl) (fun _ => rfl) rd_3 ReadsP_nil)))) (fun p => TWire.mk p.1 p.2.1) (fun _ => rfl) (fun x h => ⟨h.1, h.2.1⟩)
theorem rd_26 : Reads Go.Proofs.Tryz.prog 26 (fun l : List TWire => [Tr.sl (l.map cWire)]) (fun l => l.length ≤ 9223372036854775807 ∧ ∀ x ∈ l, (fun x => bdWire 9223372036854775807 x ∧ ftWire x) x) := Reads_slice (k := 1) Go.Proofs.Tryz.underlying26 (by kernel_rfl) (fun _ => rfl) rd_102
theorem rd_28 : Reads Go.Proofs.Tryz.prog 28 cBigraph (fun x => bdBigraph 9223372036854775807 x ∧ ftBigraph x) := Reads_mp (Reads_struct Go.Proofs.Tryz.underlying28 (show ReadsP Go.Proofs.Tryz.prog 0 [(0, 3), (1, 23), (2, 24), (3, 3), (4, 25), (5, 26)] _ _ from (ReadsP_cons (k := 1) (by kernel_rfl) (fun _ => rfl) rd_3 (ReadsP_cons (k := 1) (by kernel_rfl) (fun _ => rfl) rd_23 (ReadsP_cons (k := 1) (by kernel_rfl) (fun _ => rfl) rd_24 (ReadsP_cons (k := 1) (by kernel_rfl) (fun _ => rfl) rd_3 (ReadsP_cons (k := 1) (by kernel_rfl) (fun _ => rfl) rd_25 (ReadsP_cons (k := 1) (by kernel_rfl) (fun _ => rfl) rd_26 ReadsP_nil)))))))) (fun p => TBigraph.mk p.1 p.2.1 p.2.2.1 p.2.2.2.1 p.2.2.2.2.1 p.2.2.2.2.2.1) (fun _ => rfl) (fun x h => ⟨⟨h.2.1.1, (fun y hy => (h.2.1.2 y hy).1), h.2.2.1.1, h.2.2.2.2.1.1, (fun y hy => (h.2.2.2.2.1.2 y hy)), h.2.2.2.2.2.1.1, (fun y hy => (h.2.2.2.2.2.1.2 y hy).1)⟩, ⟨h.1, (fun y hy => (h.2.1.2 y hy).2), (fun y hy => (h.2.2.1.2 y hy)), h.2.2.2.1, (fun y hy => (h.2.2.2.2.2.1.2 y hy).2)⟩⟩)
end Go.Fd
