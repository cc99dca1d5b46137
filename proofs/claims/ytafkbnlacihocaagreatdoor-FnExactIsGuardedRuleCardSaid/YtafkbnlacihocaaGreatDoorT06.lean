/-
  WHAT HOLDS OF THE HELPERS OF THE LAWS: eq.. (printed by lawgen.py). Own work.
-/
import Derived.Test.YtafkbnlacihocaaGreatDoorT05
import Derived.KernelRfl
import Derived.Test.YtafkbnlacihocaaGreatDoorProg
set_option linter.all false
namespace Go.Fd
set_option maxRecDepth 20000
theorem g_eqIntS : chkF Go.Proofs.Tryz.prog fid_laws_eqIntS eqS1 = true := by kernel_rfl
theorem sem_eqIntS (a b : (List Int)) (ha : a.length ≤ 9223372036854775807) (lvl : Nat) (S : Sto) : Sem Go.Proofs.Tryz.prog fid_laws_eqIntS lvl [.tr (.sl (rI a)), .tr (.sl (rI b))] S (iB (decide (a = b))) S := sem_eqI g_eqIntS a b ha lvl S
theorem sem_eqNode (x y : TNode) (hb : bdNode 9223372036854775807 x) (lvl : Nat) (S : Sto) : Sem Go.Proofs.Tryz.prog fid_laws_eqNode lvl [.ag ((cNode x).map .tr), .ag ((cNode y).map .tr)] S (iB (decide (x = y))) S := by
  have b0 : x.links.length ≤ 9223372036854775807 := hb
  refine sem_of_chk k_laws_eqNode trivial ?_
  simp only [c_laws_eqNode, cNode, List.map_cons, List.map_nil, EVA, ↓reduceIte, Nat.reduceEqDiff, Nat.reduceMul, reduceCtorEq, Nat.reduceAdd, Nat.reduceSub, Nat.reduceLeDiff, Nat.reduceLT, Int.reduceToNat, Int.reduceLE, Int.reduceLT, mens, men]
  refine ite_of (fun hne => ?_) (fun heq0 => ?_)
  · have : ¬ x = y := fun e => (by rw [e] at hne; simp at hne)
    simp [this]
  refine ite_of (fun hne => ?_) (fun heq1 => ?_)
  · have : ¬ x = y := fun e => (by rw [e] at hne; simp at hne)
    simp [this]
  refine kca_intro (sem_eqIntS x.links y.links b0) ?_
  simp only [Bool.not_eq_true', EVA, ↓reduceIte, Nat.reduceEqDiff, Nat.reduceMul, reduceCtorEq, Nat.reduceAdd, Nat.reduceSub, Nat.reduceLeDiff, Nat.reduceLT, Int.reduceToNat, Int.reduceLE, Int.reduceLT, mens, men]
  refine ite_of (fun hne => ?_) (fun heq2 => ?_)
  · have : ¬ x = y := fun e => (by rw [e] at hne; simp at hne)
    simp [this]
  have : x = y := by
    cases x; cases y; simp_all
  simp [this]
theorem g_eqNodeS : chkF Go.Proofs.Tryz.prog fid_laws_eqNodeS (eqSl 3 (some 3) fid_laws_eqNode) = true := by kernel_rfl
theorem sem_eqNodeS (a b : (List TNode)) (ha : a.length ≤ 9223372036854775807) (ha2 : ∀ y ∈ a, bdNode 9223372036854775807 y) (lvl : Nat) (S : Sto) : Sem Go.Proofs.Tryz.prog fid_laws_eqNodeS lvl [.tr (.sl (a.map cNode)), .tr (.sl (b.map cNode))] S (iB (decide (a = b))) S :=
  sem_eqSl g_eqNodeS cNode (fun _ => rfl) a b ha (fun x hx y _ lvl S => sem_eqNode x y (ha2 x hx) lvl S) lvl S
theorem sem_eqWire (x y : TWire) (hb : bdWire 9223372036854775807 x) (lvl : Nat) (S : Sto) : Sem Go.Proofs.Tryz.prog fid_laws_eqWire lvl [.ag ((cWire x).map .tr), .ag ((cWire y).map .tr)] S (iB (decide (x = y))) S := by
  have b0 : x.name.size ≤ 9223372036854775807 := hb
  refine sem_of_chk k_laws_eqWire trivial ?_
  simp only [c_laws_eqWire, cWire, List.map_cons, List.map_nil, EVA, ↓reduceIte, Nat.reduceEqDiff, Nat.reduceMul, reduceCtorEq, Nat.reduceAdd, Nat.reduceSub, Nat.reduceLeDiff, Nat.reduceLT, Int.reduceToNat, Int.reduceLE, Int.reduceLT, mens, men]
  refine ite_of (fun hne => ?_) (fun heq0 => ?_)
  · have : ¬ x = y := fun e => (by rw [e] at hne; simp at hne)
    simp [this]
  refine ite_of (fun hne => ?_) (fun heq1 => ?_)
  · have : ¬ x = y := fun e => (by rw [e] at hne; simp at hne)
    simp [this]
  have : x = y := by
    cases x; cases y; simp_all
  simp [this]
theorem g_eqWireS : chkF Go.Proofs.Tryz.prog fid_laws_eqWireS (eqSl 2 (some 2) fid_laws_eqWire) = true := by kernel_rfl
theorem sem_eqWireS (a b : (List TWire)) (ha : a.length ≤ 9223372036854775807) (ha2 : ∀ y ∈ a, bdWire 9223372036854775807 y) (lvl : Nat) (S : Sto) : Sem Go.Proofs.Tryz.prog fid_laws_eqWireS lvl [.tr (.sl (a.map cWire)), .tr (.sl (b.map cWire))] S (iB (decide (a = b))) S :=
  sem_eqSl g_eqWireS cWire (fun _ => rfl) a b ha (fun x hx y _ lvl S => sem_eqWire x y (ha2 x hx) lvl S) lvl S
theorem g_eqStringS : chkF Go.Proofs.Tryz.prog fid_laws_eqStringS eqS1 = true := by kernel_rfl
theorem sem_eqStringS (a b : (List ByteArray)) (ha : a.length ≤ 9223372036854775807) (lvl : Nat) (S : Sto) : Sem Go.Proofs.Tryz.prog fid_laws_eqStringS lvl [.tr (.sl (rS a)), .tr (.sl (rS b))] S (iB (decide (a = b))) S := sem_eqS g_eqStringS a b ha lvl S
theorem sem_eqBigraph (x y : TBigraph) (hb : bdBigraph 9223372036854775807 x) (lvl : Nat) (S : Sto) : Sem Go.Proofs.Tryz.prog fid_laws_eqBigraph lvl [.ag ((cBigraph x).map .tr), .ag ((cBigraph y).map .tr)] S (iB (decide (x = y))) S := by
  obtain ⟨b0, b1, b2, b3, b4, b5, b6⟩ := hb
  refine sem_of_chk k_laws_eqBigraph trivial ?_
  simp only [c_laws_eqBigraph, cBigraph, List.map_cons, List.map_nil, EVA, ↓reduceIte, Nat.reduceEqDiff, Nat.reduceMul, reduceCtorEq, Nat.reduceAdd, Nat.reduceSub, Nat.reduceLeDiff, Nat.reduceLT, Int.reduceToNat, Int.reduceLE, Int.reduceLT, mens, men]
  refine ite_of (fun hne => ?_) (fun heq0 => ?_)
  · have : ¬ x = y := fun e => (by rw [e] at hne; simp at hne)
    simp [this]
  refine kca_intro (sem_eqNodeS x.nodes y.nodes b0 b1) ?_
  simp only [Bool.not_eq_true', EVA, ↓reduceIte, Nat.reduceEqDiff, Nat.reduceMul, reduceCtorEq, Nat.reduceAdd, Nat.reduceSub, Nat.reduceLeDiff, Nat.reduceLT, Int.reduceToNat, Int.reduceLE, Int.reduceLT, mens, men]
  refine ite_of (fun hne => ?_) (fun heq1 => ?_)
  · have : ¬ x = y := fun e => (by rw [e] at hne; simp at hne)
    simp [this]
  refine kca_intro (sem_eqIntS x.sites y.sites b2) ?_
  simp only [Bool.not_eq_true', EVA, ↓reduceIte, Nat.reduceEqDiff, Nat.reduceMul, reduceCtorEq, Nat.reduceAdd, Nat.reduceSub, Nat.reduceLeDiff, Nat.reduceLT, Int.reduceToNat, Int.reduceLE, Int.reduceLT, mens, men]
  refine ite_of (fun hne => ?_) (fun heq2 => ?_)
  · have : ¬ x = y := fun e => (by rw [e] at hne; simp at hne)
    simp [this]
  refine ite_of (fun hne => ?_) (fun heq3 => ?_)
  · have : ¬ x = y := fun e => (by rw [e] at hne; simp at hne)
    simp [this]
  refine kca_intro (sem_eqStringS x.outer y.outer b3) ?_
  simp only [Bool.not_eq_true', EVA, ↓reduceIte, Nat.reduceEqDiff, Nat.reduceMul, reduceCtorEq, Nat.reduceAdd, Nat.reduceSub, Nat.reduceLeDiff, Nat.reduceLT, Int.reduceToNat, Int.reduceLE, Int.reduceLT, mens, men]
  refine ite_of (fun hne => ?_) (fun heq4 => ?_)
  · have : ¬ x = y := fun e => (by rw [e] at hne; simp at hne)
    simp [this]
  refine kca_intro (sem_eqWireS x.inner y.inner b5 b6) ?_
  simp only [Bool.not_eq_true', EVA, ↓reduceIte, Nat.reduceEqDiff, Nat.reduceMul, reduceCtorEq, Nat.reduceAdd, Nat.reduceSub, Nat.reduceLeDiff, Nat.reduceLT, Int.reduceToNat, Int.reduceLE, Int.reduceLT, mens, men]
  refine ite_of (fun hne => ?_) (fun heq5 => ?_)
  · have : ¬ x = y := fun e => (by rw [e] at hne; simp at hne)
    simp [this]
  have : x = y := by
    cases x; cases y; simp_all
  simp [this]
theorem sem_eqRule (x y : TRule) (hb : bdRule 9223372036854775807 x) (lvl : Nat) (S : Sto) : Sem Go.Proofs.Tryz.prog fid_laws_eqRule lvl [.ag ((cRule x).map .tr), .ag ((cRule y).map .tr)] S (iB (decide (x = y))) S := by
  obtain ⟨b0, b1, b2⟩ := hb
  refine sem_of_chk k_laws_eqRule trivial ?_
  simp only [c_laws_eqRule, cRule, List.map_cons, List.map_nil, EVA, ↓reduceIte, Nat.reduceEqDiff, Nat.reduceMul, reduceCtorEq, Nat.reduceAdd, Nat.reduceSub, Nat.reduceLeDiff, Nat.reduceLT, Int.reduceToNat, Int.reduceLE, Int.reduceLT, mens, men]
  refine kca_intro (sem_eqBigraph x.redex y.redex b0) ?_
  simp only [Bool.not_eq_true', EVA, ↓reduceIte, Nat.reduceEqDiff, Nat.reduceMul, reduceCtorEq, Nat.reduceAdd, Nat.reduceSub, Nat.reduceLeDiff, Nat.reduceLT, Int.reduceToNat, Int.reduceLE, Int.reduceLT, mens, men]
  refine ite_of (fun hne => ?_) (fun heq0 => ?_)
  · have : ¬ x = y := fun e => (by rw [e] at hne; simp at hne)
    simp [this]
  refine kca_intro (sem_eqBigraph x.reactum y.reactum b1) ?_
  simp only [Bool.not_eq_true', EVA, ↓reduceIte, Nat.reduceEqDiff, Nat.reduceMul, reduceCtorEq, Nat.reduceAdd, Nat.reduceSub, Nat.reduceLeDiff, Nat.reduceLT, Int.reduceToNat, Int.reduceLE, Int.reduceLT, mens, men]
  refine ite_of (fun hne => ?_) (fun heq1 => ?_)
  · have : ¬ x = y := fun e => (by rw [e] at hne; simp at hne)
    simp [this]
  refine kca_intro (sem_eqIntS x.copies y.copies b2) ?_
  simp only [Bool.not_eq_true', EVA, ↓reduceIte, Nat.reduceEqDiff, Nat.reduceMul, reduceCtorEq, Nat.reduceAdd, Nat.reduceSub, Nat.reduceLeDiff, Nat.reduceLT, Int.reduceToNat, Int.reduceLE, Int.reduceLT, mens, men]
  refine ite_of (fun hne => ?_) (fun heq2 => ?_)
  · have : ¬ x = y := fun e => (by rw [e] at hne; simp at hne)
    simp [this]
  have : x = y := by
    cases x; cases y; simp_all
  simp [this]
theorem sem_eqGuard (x y : TGuard) (hb : bdGuard 9223372036854775807 x) (lvl : Nat) (S : Sto) : Sem Go.Proofs.Tryz.prog fid_laws_eqGuard lvl [.ag ((cGuard x).map .tr), .ag ((cGuard y).map .tr)] S (iB (decide (x = y))) S := by
  have b0 : bdBigraph 9223372036854775807 x.pattern := hb
  refine sem_of_chk k_laws_eqGuard trivial ?_
  simp only [c_laws_eqGuard, cGuard, List.map_cons, List.map_nil, EVA, ↓reduceIte, Nat.reduceEqDiff, Nat.reduceMul, reduceCtorEq, Nat.reduceAdd, Nat.reduceSub, Nat.reduceLeDiff, Nat.reduceLT, Int.reduceToNat, Int.reduceLE, Int.reduceLT, mens, men]
  refine ite_of (fun hne => ?_) (fun heq0 => ?_)
  · have : ¬ x = y := fun e => (by rw [e] at hne; simp at hne)
    simp [this]
  refine ite_of (fun hne => ?_) (fun heq1 => ?_)
  · have : ¬ x = y := fun e => (by rw [e] at hne; simp at hne)
    simp [this]
  refine kca_intro (sem_eqBigraph x.pattern y.pattern b0) ?_
  simp only [Bool.not_eq_true', EVA, ↓reduceIte, Nat.reduceEqDiff, Nat.reduceMul, reduceCtorEq, Nat.reduceAdd, Nat.reduceSub, Nat.reduceLeDiff, Nat.reduceLT, Int.reduceToNat, Int.reduceLE, Int.reduceLT, mens, men]
  refine ite_of (fun hne => ?_) (fun heq2 => ?_)
  · have : ¬ x = y := fun e => (by rw [e] at hne; simp at hne)
    simp [this]
  have : x = y := by
    cases x; cases y; simp_all
  simp [this]
theorem g_eqGuardS : chkF Go.Proofs.Tryz.prog fid_laws_eqGuardS (eqSl 8 (some 8) fid_laws_eqGuard) = true := by kernel_rfl
theorem sem_eqGuardS (a b : (List TGuard)) (ha : a.length ≤ 9223372036854775807) (ha2 : ∀ y ∈ a, bdGuard 9223372036854775807 y) (lvl : Nat) (S : Sto) : Sem Go.Proofs.Tryz.prog fid_laws_eqGuardS lvl [.tr (.sl (a.map cGuard)), .tr (.sl (b.map cGuard))] S (iB (decide (a = b))) S :=
  sem_eqSl g_eqGuardS cGuard (fun _ => rfl) a b ha (fun x hx y _ lvl S => sem_eqGuard x y (ha2 x hx) lvl S) lvl S
theorem sem_eqGuardedRule (x y : TGuardedRule) (hb : bdGuardedRule 9223372036854775807 x) (lvl : Nat) (S : Sto) : Sem Go.Proofs.Tryz.prog fid_laws_eqGuardedRule lvl [.ag ((cGuardedRule x).map .tr), .ag ((cGuardedRule y).map .tr)] S (iB (decide (x = y))) S := by
  obtain ⟨b0, b1, b2⟩ := hb
  refine sem_of_chk k_laws_eqGuardedRule trivial ?_
  simp only [c_laws_eqGuardedRule, cGuardedRule, List.map_cons, List.map_nil, EVA, ↓reduceIte, Nat.reduceEqDiff, Nat.reduceMul, reduceCtorEq, Nat.reduceAdd, Nat.reduceSub, Nat.reduceLeDiff, Nat.reduceLT, Int.reduceToNat, Int.reduceLE, Int.reduceLT, mens, men]
  refine kca_intro (sem_eqRule x.rule y.rule b0) ?_
  simp only [Bool.not_eq_true', EVA, ↓reduceIte, Nat.reduceEqDiff, Nat.reduceMul, reduceCtorEq, Nat.reduceAdd, Nat.reduceSub, Nat.reduceLeDiff, Nat.reduceLT, Int.reduceToNat, Int.reduceLE, Int.reduceLT, mens, men]
  refine ite_of (fun hne => ?_) (fun heq0 => ?_)
  · have : ¬ x = y := fun e => (by rw [e] at hne; simp at hne)
    simp [this]
  refine kca_intro (sem_eqGuardS x.guards y.guards b1 b2) ?_
  simp only [Bool.not_eq_true', EVA, ↓reduceIte, Nat.reduceEqDiff, Nat.reduceMul, reduceCtorEq, Nat.reduceAdd, Nat.reduceSub, Nat.reduceLeDiff, Nat.reduceLT, Int.reduceToNat, Int.reduceLE, Int.reduceLT, mens, men]
  refine ite_of (fun hne => ?_) (fun heq1 => ?_)
  · have : ¬ x = y := fun e => (by rw [e] at hne; simp at hne)
    simp [this]
  refine ite_of (fun hne => ?_) (fun heq2 => ?_)
  · have : ¬ x = y := fun e => (by rw [e] at hne; simp at hne)
    simp [this]
  have : x = y := by
    cases x; cases y; simp_all
  simp [this]
theorem sem_eqControl (x y : TControl) (hb : bdControl 9223372036854775807 x) (lvl : Nat) (S : Sto) : Sem Go.Proofs.Tryz.prog fid_laws_eqControl lvl [.ag ((cControl x).map .tr), .ag ((cControl y).map .tr)] S (iB (decide (x = y))) S := by
  have b0 : x.name.size ≤ 9223372036854775807 := hb
  refine sem_of_chk k_laws_eqControl trivial ?_
  simp only [c_laws_eqControl, cControl, List.map_cons, List.map_nil, EVA, ↓reduceIte, Nat.reduceEqDiff, Nat.reduceMul, reduceCtorEq, Nat.reduceAdd, Nat.reduceSub, Nat.reduceLeDiff, Nat.reduceLT, Int.reduceToNat, Int.reduceLE, Int.reduceLT, mens, men]
  refine ite_of (fun hne => ?_) (fun heq0 => ?_)
  · have : ¬ x = y := fun e => (by rw [e] at hne; simp at hne)
    simp [this]
  refine ite_of (fun hne => ?_) (fun heq1 => ?_)
  · have : ¬ x = y := fun e => (by rw [e] at hne; simp at hne)
    simp [this]
  refine ite_of (fun hne => ?_) (fun heq2 => ?_)
  · have : ¬ x = y := fun e => (by rw [e] at hne; simp at hne)
    simp [this]
  have : x = y := by
    cases x; cases y; simp_all
  simp [this]
theorem g_eqControlS : chkF Go.Proofs.Tryz.prog fid_laws_eqControlS (eqSl 3 (some 3) fid_laws_eqControl) = true := by kernel_rfl
theorem sem_eqControlS (a b : (List TControl)) (ha : a.length ≤ 9223372036854775807) (ha2 : ∀ y ∈ a, bdControl 9223372036854775807 y) (lvl : Nat) (S : Sto) : Sem Go.Proofs.Tryz.prog fid_laws_eqControlS lvl [.tr (.sl (a.map cControl)), .tr (.sl (b.map cControl))] S (iB (decide (a = b))) S :=
  sem_eqSl g_eqControlS cControl (fun _ => rfl) a b ha (fun x hx y _ lvl S => sem_eqControl x y (ha2 x hx) lvl S) lvl S
end Go.Fd

/-
  WHAT HOLDS OF THE HELPERS OF THE LAWS: to.. (printed by lawgen.py). Own work.
-/
namespace Go.Fd
set_option maxRecDepth 20000
theorem g_toIntS : chkF Go.Proofs.Tryz.prog fid_laws_toIntS (toS1 (.int .i64 0)) = true := by kernel_rfl
theorem sem_toIntS (a : (List Int)) (ha : a.length ≤ 4294967296) (lvl : Nat) (S : Sto) : Sem Go.Proofs.Tryz.prog fid_laws_toIntS lvl [.tr (.sl (rI a))] S (.ow 1 (rI a) true) S := sem_toI g_toIntS a ha lvl S
theorem sem_toNode (x : TNode) (hb : bdNode 4294967296 x) (lvl : Nat) (S : Sto) : Sem Go.Proofs.Tryz.prog fid_laws_toNode lvl [.ag ((cNode x).map .tr)] S (oNode x) S := by
  have b0 : x.links.length ≤ 4294967296 := hb
  refine sem_of_chk k_laws_toNode (by simp [oNode, low, men, mens]) ?_
  simp only [c_laws_toNode, cNode, zfill, zobs, List.map_cons, List.map_nil, r_setAt0, r_setAt1, List.set_cons_zero, List.set_cons_succ, EVA, ↓reduceIte, Nat.reduceEqDiff, Nat.reduceMul, reduceCtorEq, Nat.reduceAdd, Nat.reduceSub, Nat.reduceLeDiff, Nat.reduceLT, Int.reduceToNat, Int.reduceLE, Int.reduceLT, mens, men]
  refine kca_intro (sem_toIntS x.links b0) ?_
  simp only [r_setAt0, r_setAt1, List.set_cons_zero, List.set_cons_succ, Prod.mk.injEq, EVA, ↓reduceIte, Nat.reduceEqDiff, Nat.reduceMul, reduceCtorEq, Nat.reduceAdd, Nat.reduceSub, Nat.reduceLeDiff, Nat.reduceLT, Int.reduceToNat, Int.reduceLE, Int.reduceLT, mens, men]
  rfl
theorem sem_toNodeS (a : (List TNode)) (ha : a.length ≤ 4294967296) (hb : ∀ y ∈ a, bdNode 4294967296 y) (lvl : Nat) (S : Sto) : Sem Go.Proofs.Tryz.prog fid_laws_toNodeS lvl [.tr (.sl (a.map cNode))] S (.ow 3 (a.map cNode) true) S := by
  refine sem_of_chk k_laws_toNodeS trivial ?_
  simp only [c_laws_toNodeS, List.length_map, bigN, Int.natCast_nonneg, EVA, ↓reduceIte, Nat.reduceEqDiff, Nat.reduceMul, reduceCtorEq, Nat.reduceAdd, Nat.reduceSub, Nat.reduceLeDiff, Nat.reduceLT, Int.reduceToNat, Int.reduceLE, Int.reduceLT, mens, men]
  refine ⟨by omega, ?_⟩
  refine wp_count (α := Unit) a.length (fun j _ => ⟨lvl, [(0, .tr (.sl (a.map cNode))), (3, .hd (lvl, 224) [] 0 a.length none a.length), (4, iI j)], [(224, .ar 3 (filled cNode [tv 0, tv 0, .sl []] a j) true a.length (j * 1))], S⟩) (fun _ _ => True) () ⟨by simp only [EVA, ↓reduceIte, Nat.reduceEqDiff, Nat.reduceMul, reduceCtorEq, Nat.reduceAdd, Nat.reduceSub, Nat.reduceLeDiff, Nat.reduceLT, Int.reduceToNat, Int.reduceLE, Int.reduceLT, mens, men], by (simp only [filled_zero, EVA, ↓reduceIte, Nat.reduceEqDiff, Nat.reduceMul, reduceCtorEq, Nat.reduceAdd, Nat.reduceSub, Nat.reduceLeDiff, Nat.reduceLT, Int.reduceToNat, Int.reduceLE, Int.reduceLT, mens, men]) <;> rfl⟩ trivial ?_
  intro j _ hj _
  simp only [List.length_map, EVA, ↓reduceIte, Nat.reduceEqDiff, Nat.reduceMul, reduceCtorEq, Nat.reduceAdd, Nat.reduceSub, Nat.reduceLeDiff, Nat.reduceLT, Int.reduceToNat, Int.reduceLE, Int.reduceLT, mens, men]
  refine ite_of (fun hlt => ?_) (fun hge => ?_)
  · have hja : j < a.length := by omega
    have ga : (a.map cNode)[j]? = some (cNode a[j]) := by simp [hja]
    have gz : (filled cNode [tv 0, tv 0, .sl []] a j)[j]? = some [tv 0, tv 0, .sl []] := filled_get hja
    have hfl : (filled cNode [tv 0, tv 0, .sl []] a j).length = a.length := filled_length hj
    have hsem := fun lvl S => sem_toNode a[j] (hb a[j] (List.getElem_mem hja)) lvl S
    simp only [ga, gz, Int.natCast_nonneg, Nat.le_refl, hja, cNode, oNode, Nat.reduceLeDiff, EVA, ↓reduceIte, Nat.reduceEqDiff, Nat.reduceMul, reduceCtorEq, Nat.reduceAdd, Nat.reduceSub, Nat.reduceLT, Int.reduceToNat, Int.reduceLE, Int.reduceLT, mens, men]
    refine kca_intro hsem ?_
    simp only [oNode, gz, Int.natCast_nonneg, Nat.le_refl, hja, hfl, setp, List.getElem?_set_self, List.set_set, List.length_set, List.set_cons_zero, List.set_cons_succ, Prod.mk.injEq, ne_eq, not_false_eq_true, EVA, ↓reduceIte, Nat.reduceEqDiff, Nat.reduceMul, reduceCtorEq, Nat.reduceAdd, Nat.reduceSub, Nat.reduceLeDiff, Nat.reduceLT, Int.reduceToNat, Int.reduceLE, Int.reduceLT, mens, men]
    refine ⟨by rw [fits_i64]; omega, cntJ_intro () hja ?_ trivial⟩
    have hse := filled_set (c := cNode) (z := [tv 0, tv 0, .sl []]) (e := [tv a[j].control, tv a[j].parent, .sl (rI a[j].links)]) hja rfl
    rw [hse, show (j + 1) * 1 = j * 1 + 1 from by omega]
    rfl
  · have : j = a.length := by omega
    subst this
    rw [filled_all]
    simp
theorem sem_toWire (x : TWire) (hb : bdWire 4294967296 x) (lvl : Nat) (S : Sto) : Sem Go.Proofs.Tryz.prog fid_laws_toWire lvl [.ag ((cWire x).map .tr)] S (oWire x) S := by
  have b0 : x.name.size ≤ 4294967296 := hb
  refine sem_of_chk k_laws_toWire (by simp [oWire, low, men, mens]) ?_
  simp only [c_laws_toWire, cWire, zfill, zobs, List.map_cons, List.map_nil, r_setAt0, r_setAt1, List.set_cons_zero, List.set_cons_succ, EVA, ↓reduceIte, Nat.reduceEqDiff, Nat.reduceMul, reduceCtorEq, Nat.reduceAdd, Nat.reduceSub, Nat.reduceLeDiff, Nat.reduceLT, Int.reduceToNat, Int.reduceLE, Int.reduceLT, mens, men]
  rfl
theorem sem_toWireS (a : (List TWire)) (ha : a.length ≤ 4294967296) (hb : ∀ y ∈ a, bdWire 4294967296 y) (lvl : Nat) (S : Sto) : Sem Go.Proofs.Tryz.prog fid_laws_toWireS lvl [.tr (.sl (a.map cWire))] S (.ow 2 (a.map cWire) true) S := by
  refine sem_of_chk k_laws_toWireS trivial ?_
  simp only [c_laws_toWireS, List.length_map, bigN, Int.natCast_nonneg, EVA, ↓reduceIte, Nat.reduceEqDiff, Nat.reduceMul, reduceCtorEq, Nat.reduceAdd, Nat.reduceSub, Nat.reduceLeDiff, Nat.reduceLT, Int.reduceToNat, Int.reduceLE, Int.reduceLT, mens, men]
  refine ⟨by omega, ?_⟩
  refine wp_count (α := Unit) a.length (fun j _ => ⟨lvl, [(0, .tr (.sl (a.map cWire))), (3, .hd (lvl, 224) [] 0 a.length none a.length), (4, iI j)], [(224, .ar 2 (filled cWire [ts ⟨#[]⟩, tv 0] a j) true a.length (j * 0))], S⟩) (fun _ _ => True) () ⟨by simp only [EVA, ↓reduceIte, Nat.reduceEqDiff, Nat.reduceMul, reduceCtorEq, Nat.reduceAdd, Nat.reduceSub, Nat.reduceLeDiff, Nat.reduceLT, Int.reduceToNat, Int.reduceLE, Int.reduceLT, mens, men], by (simp only [filled_zero, EVA, ↓reduceIte, Nat.reduceEqDiff, Nat.reduceMul, reduceCtorEq, Nat.reduceAdd, Nat.reduceSub, Nat.reduceLeDiff, Nat.reduceLT, Int.reduceToNat, Int.reduceLE, Int.reduceLT, mens, men]) <;> rfl⟩ trivial ?_
  intro j _ hj _
  simp only [List.length_map, EVA, ↓reduceIte, Nat.reduceEqDiff, Nat.reduceMul, reduceCtorEq, Nat.reduceAdd, Nat.reduceSub, Nat.reduceLeDiff, Nat.reduceLT, Int.reduceToNat, Int.reduceLE, Int.reduceLT, mens, men]
  refine ite_of (fun hlt => ?_) (fun hge => ?_)
  · have hja : j < a.length := by omega
    have ga : (a.map cWire)[j]? = some (cWire a[j]) := by simp [hja]
    have gz : (filled cWire [ts ⟨#[]⟩, tv 0] a j)[j]? = some [ts ⟨#[]⟩, tv 0] := filled_get hja
    have hfl : (filled cWire [ts ⟨#[]⟩, tv 0] a j).length = a.length := filled_length hj
    have hsem := fun lvl S => sem_toWire a[j] (hb a[j] (List.getElem_mem hja)) lvl S
    simp only [ga, gz, Int.natCast_nonneg, Nat.le_refl, hja, cWire, oWire, Nat.reduceLeDiff, EVA, ↓reduceIte, Nat.reduceEqDiff, Nat.reduceMul, reduceCtorEq, Nat.reduceAdd, Nat.reduceSub, Nat.reduceLT, Int.reduceToNat, Int.reduceLE, Int.reduceLT, mens, men]
    refine kca_intro hsem ?_
    simp only [oWire, gz, Int.natCast_nonneg, Nat.le_refl, hja, hfl, setp, List.getElem?_set_self, List.set_set, List.length_set, List.set_cons_zero, List.set_cons_succ, Prod.mk.injEq, ne_eq, not_false_eq_true, EVA, ↓reduceIte, Nat.reduceEqDiff, Nat.reduceMul, reduceCtorEq, Nat.reduceAdd, Nat.reduceSub, Nat.reduceLeDiff, Nat.reduceLT, Int.reduceToNat, Int.reduceLE, Int.reduceLT, mens, men]
    refine ⟨by rw [fits_i64]; omega, cntJ_intro () hja ?_ trivial⟩
    have hse := filled_set (c := cWire) (z := [ts ⟨#[]⟩, tv 0]) (e := [ts a[j].name, tv a[j].link]) hja rfl
    rw [hse, show (j + 1) * 0 = j * 0 from by omega]
    rfl
  · have : j = a.length := by omega
    subst this
    rw [filled_all]
    simp
theorem g_toStringS : chkF Go.Proofs.Tryz.prog fid_laws_toStringS (toS1 (.string ⟨#[]⟩)) = true := by kernel_rfl
theorem sem_toStringS (a : (List ByteArray)) (ha : a.length ≤ 4294967296) (lvl : Nat) (S : Sto) : Sem Go.Proofs.Tryz.prog fid_laws_toStringS lvl [.tr (.sl (rS a))] S (.ow 1 (rS a) true) S := sem_toS g_toStringS a ha lvl S
theorem sem_toBigraph (x : TBigraph) (hb : bdBigraph 4294967296 x) (lvl : Nat) (S : Sto) : Sem Go.Proofs.Tryz.prog fid_laws_toBigraph lvl [.ag ((cBigraph x).map .tr)] S (oBigraph x) S := by
  obtain ⟨b0, b1, b2, b3, b4, b5, b6⟩ := hb
  refine sem_of_chk k_laws_toBigraph (by simp [oBigraph, low, men, mens]) ?_
  simp only [c_laws_toBigraph, cBigraph, zfill, zobs, List.map_cons, List.map_nil, r_setAt0, r_setAt1, List.set_cons_zero, List.set_cons_succ, EVA, ↓reduceIte, Nat.reduceEqDiff, Nat.reduceMul, reduceCtorEq, Nat.reduceAdd, Nat.reduceSub, Nat.reduceLeDiff, Nat.reduceLT, Int.reduceToNat, Int.reduceLE, Int.reduceLT, mens, men]
  refine kca_intro (sem_toNodeS x.nodes b0 b1) ?_
  simp only [r_setAt0, r_setAt1, List.set_cons_zero, List.set_cons_succ, Prod.mk.injEq, EVA, ↓reduceIte, Nat.reduceEqDiff, Nat.reduceMul, reduceCtorEq, Nat.reduceAdd, Nat.reduceSub, Nat.reduceLeDiff, Nat.reduceLT, Int.reduceToNat, Int.reduceLE, Int.reduceLT, mens, men]
  refine kca_intro (sem_toIntS x.sites b2) ?_
  simp only [r_setAt0, r_setAt1, List.set_cons_zero, List.set_cons_succ, Prod.mk.injEq, EVA, ↓reduceIte, Nat.reduceEqDiff, Nat.reduceMul, reduceCtorEq, Nat.reduceAdd, Nat.reduceSub, Nat.reduceLeDiff, Nat.reduceLT, Int.reduceToNat, Int.reduceLE, Int.reduceLT, mens, men]
  refine kca_intro (sem_toStringS x.outer b3) ?_
  simp only [r_setAt0, r_setAt1, List.set_cons_zero, List.set_cons_succ, Prod.mk.injEq, EVA, ↓reduceIte, Nat.reduceEqDiff, Nat.reduceMul, reduceCtorEq, Nat.reduceAdd, Nat.reduceSub, Nat.reduceLeDiff, Nat.reduceLT, Int.reduceToNat, Int.reduceLE, Int.reduceLT, mens, men]
  refine kca_intro (sem_toWireS x.inner b5 b6) ?_
  simp only [r_setAt0, r_setAt1, List.set_cons_zero, List.set_cons_succ, Prod.mk.injEq, EVA, ↓reduceIte, Nat.reduceEqDiff, Nat.reduceMul, reduceCtorEq, Nat.reduceAdd, Nat.reduceSub, Nat.reduceLeDiff, Nat.reduceLT, Int.reduceToNat, Int.reduceLE, Int.reduceLT, mens, men]
  rfl
theorem sem_toRule (x : TRule) (hb : bdRule 4294967296 x) (lvl : Nat) (S : Sto) : Sem Go.Proofs.Tryz.prog fid_laws_toRule lvl [.ag ((cRule x).map .tr)] S (oRule x) S := by
  obtain ⟨b0, b1, b2⟩ := hb
  refine sem_of_chk k_laws_toRule (by simp [oRule, low, men, mens]) ?_
  simp only [c_laws_toRule, cRule, zfill, zobs, List.map_cons, List.map_nil, r_setAt0, r_setAt1, List.set_cons_zero, List.set_cons_succ, EVA, ↓reduceIte, Nat.reduceEqDiff, Nat.reduceMul, reduceCtorEq, Nat.reduceAdd, Nat.reduceSub, Nat.reduceLeDiff, Nat.reduceLT, Int.reduceToNat, Int.reduceLE, Int.reduceLT, mens, men]
  refine kca_intro (sem_toBigraph x.redex b0) ?_
  simp only [oBigraph, cut_map, r_setAt0, r_setAt1, List.set_cons_zero, List.set_cons_succ, Prod.mk.injEq, EVA, ↓reduceIte, Nat.reduceEqDiff, Nat.reduceMul, reduceCtorEq, Nat.reduceAdd, Nat.reduceSub, Nat.reduceLeDiff, Nat.reduceLT, Int.reduceToNat, Int.reduceLE, Int.reduceLT, mens, men]
  refine kca_intro (sem_toBigraph x.reactum b1) ?_
  simp only [oBigraph, cut_map, r_setAt0, r_setAt1, List.set_cons_zero, List.set_cons_succ, Prod.mk.injEq, EVA, ↓reduceIte, Nat.reduceEqDiff, Nat.reduceMul, reduceCtorEq, Nat.reduceAdd, Nat.reduceSub, Nat.reduceLeDiff, Nat.reduceLT, Int.reduceToNat, Int.reduceLE, Int.reduceLT, mens, men]
  refine kca_intro (sem_toIntS x.copies b2) ?_
  simp only [cut_map, r_setAt0, r_setAt1, List.set_cons_zero, List.set_cons_succ, Prod.mk.injEq, EVA, ↓reduceIte, Nat.reduceEqDiff, Nat.reduceMul, reduceCtorEq, Nat.reduceAdd, Nat.reduceSub, Nat.reduceLeDiff, Nat.reduceLT, Int.reduceToNat, Int.reduceLE, Int.reduceLT, mens, men]
  rfl
theorem sem_toGuard (x : TGuard) (hb : bdGuard 4294967296 x) (lvl : Nat) (S : Sto) : Sem Go.Proofs.Tryz.prog fid_laws_toGuard lvl [.ag ((cGuard x).map .tr)] S (oGuard x) S := by
  have b0 : bdBigraph 4294967296 x.pattern := hb
  refine sem_of_chk k_laws_toGuard (by simp [oGuard, low, men, mens]) ?_
  simp only [c_laws_toGuard, cGuard, zfill, zobs, List.map_cons, List.map_nil, r_setAt0, r_setAt1, List.set_cons_zero, List.set_cons_succ, EVA, ↓reduceIte, Nat.reduceEqDiff, Nat.reduceMul, reduceCtorEq, Nat.reduceAdd, Nat.reduceSub, Nat.reduceLeDiff, Nat.reduceLT, Int.reduceToNat, Int.reduceLE, Int.reduceLT, mens, men]
  refine kca_intro (sem_toBigraph x.pattern b0) ?_
  simp only [oBigraph, cut_map, r_setAt0, r_setAt1, List.set_cons_zero, List.set_cons_succ, Prod.mk.injEq, EVA, ↓reduceIte, Nat.reduceEqDiff, Nat.reduceMul, reduceCtorEq, Nat.reduceAdd, Nat.reduceSub, Nat.reduceLeDiff, Nat.reduceLT, Int.reduceToNat, Int.reduceLE, Int.reduceLT, mens, men]
  rfl
theorem sem_toGuardS (a : (List TGuard)) (ha : a.length ≤ 4294967296) (hb : ∀ y ∈ a, bdGuard 4294967296 y) (lvl : Nat) (S : Sto) : Sem Go.Proofs.Tryz.prog fid_laws_toGuardS lvl [.tr (.sl (a.map cGuard))] S (.ow 8 (a.map cGuard) (decide (a.length = 0))) S := by
  refine sem_of_chk k_laws_toGuardS trivial ?_
  simp only [c_laws_toGuardS, List.length_map, bigN, Int.natCast_nonneg, EVA, ↓reduceIte, Nat.reduceEqDiff, Nat.reduceMul, reduceCtorEq, Nat.reduceAdd, Nat.reduceSub, Nat.reduceLeDiff, Nat.reduceLT, Int.reduceToNat, Int.reduceLE, Int.reduceLT, mens, men]
  refine ⟨by omega, ?_⟩
  refine wp_count (α := Unit) a.length (fun j _ => ⟨lvl, [(0, .tr (.sl (a.map cGuard))), (3, .hd (lvl, 224) [] 0 a.length none a.length), (4, iI j)], [(224, .ar 8 (filled cGuard [tv 0, tb false, tv 0, .sl [], .sl [], tv 0, .sl [], .sl []] a j) (decide (j = 0)) a.length (j * 4))], S⟩) (fun _ _ => True) () ⟨by simp only [EVA, ↓reduceIte, Nat.reduceEqDiff, Nat.reduceMul, reduceCtorEq, Nat.reduceAdd, Nat.reduceSub, Nat.reduceLeDiff, Nat.reduceLT, Int.reduceToNat, Int.reduceLE, Int.reduceLT, mens, men], by (simp only [filled_zero, EVA, ↓reduceIte, Nat.reduceEqDiff, Nat.reduceMul, reduceCtorEq, Nat.reduceAdd, Nat.reduceSub, Nat.reduceLeDiff, Nat.reduceLT, Int.reduceToNat, Int.reduceLE, Int.reduceLT, mens, men]) <;> rfl⟩ trivial ?_
  intro j _ hj _
  simp only [List.length_map, EVA, ↓reduceIte, Nat.reduceEqDiff, Nat.reduceMul, reduceCtorEq, Nat.reduceAdd, Nat.reduceSub, Nat.reduceLeDiff, Nat.reduceLT, Int.reduceToNat, Int.reduceLE, Int.reduceLT, mens, men]
  refine ite_of (fun hlt => ?_) (fun hge => ?_)
  · have hja : j < a.length := by omega
    have ga : (a.map cGuard)[j]? = some (cGuard a[j]) := by simp [hja]
    have gz : (filled cGuard [tv 0, tb false, tv 0, .sl [], .sl [], tv 0, .sl [], .sl []] a j)[j]? = some [tv 0, tb false, tv 0, .sl [], .sl [], tv 0, .sl [], .sl []] := filled_get hja
    have hfl : (filled cGuard [tv 0, tb false, tv 0, .sl [], .sl [], tv 0, .sl [], .sl []] a j).length = a.length := filled_length hj
    have hsem := fun lvl S => sem_toGuard a[j] (hb a[j] (List.getElem_mem hja)) lvl S
    simp only [ga, gz, Int.natCast_nonneg, Nat.le_refl, hja, cGuard, oGuard, Nat.reduceLeDiff, EVA, ↓reduceIte, Nat.reduceEqDiff, Nat.reduceMul, reduceCtorEq, Nat.reduceAdd, Nat.reduceSub, Nat.reduceLT, Int.reduceToNat, Int.reduceLE, Int.reduceLT, mens, men]
    refine kca_intro hsem ?_
    simp only [oGuard, gz, Int.natCast_nonneg, Nat.le_refl, hja, hfl, setp, List.getElem?_set_self, List.set_set, List.length_set, List.set_cons_zero, List.set_cons_succ, Prod.mk.injEq, ne_eq, not_false_eq_true, EVA, ↓reduceIte, Nat.reduceEqDiff, Nat.reduceMul, reduceCtorEq, Nat.reduceAdd, Nat.reduceSub, Nat.reduceLeDiff, Nat.reduceLT, Int.reduceToNat, Int.reduceLE, Int.reduceLT, mens, men]
    refine ⟨by rw [fits_i64]; omega, cntJ_intro () hja ?_ trivial⟩
    have hse := filled_set (c := cGuard) (z := [tv 0, tb false, tv 0, .sl [], .sl [], tv 0, .sl [], .sl []]) (e := [tv a[j].where_, tb a[j].not_, tv a[j].pattern.roots, .sl ((a[j].pattern.nodes).map cNode), .sl (rI a[j].pattern.sites), tv a[j].pattern.edges, .sl (rS a[j].pattern.outer), .sl ((a[j].pattern.inner).map cWire)]) hja rfl
    rw [hse, show (j + 1) * 4 = j * 4 + 1 + 1 + 1 + 1 from by omega]
    rfl
  · have : j = a.length := by omega
    subst this
    rw [filled_all]
    simp
theorem sem_toGuardedRule (x : TGuardedRule) (hb : bdGuardedRule 4294967296 x) (lvl : Nat) (S : Sto) : Sem Go.Proofs.Tryz.prog fid_laws_toGuardedRule lvl [.ag ((cGuardedRule x).map .tr)] S (oGuardedRule x) S := by
  obtain ⟨b0, b1, b2⟩ := hb
  refine sem_of_chk k_laws_toGuardedRule (by simp [oGuardedRule, low, men, mens]) ?_
  simp only [c_laws_toGuardedRule, cGuardedRule, zfill, zobs, List.map_cons, List.map_nil, r_setAt0, r_setAt1, List.set_cons_zero, List.set_cons_succ, EVA, ↓reduceIte, Nat.reduceEqDiff, Nat.reduceMul, reduceCtorEq, Nat.reduceAdd, Nat.reduceSub, Nat.reduceLeDiff, Nat.reduceLT, Int.reduceToNat, Int.reduceLE, Int.reduceLT, mens, men]
  refine kca_intro (sem_toRule x.rule b0) ?_
  simp only [oRule, cut_map, r_setAt0, r_setAt1, List.set_cons_zero, List.set_cons_succ, Prod.mk.injEq, EVA, ↓reduceIte, Nat.reduceEqDiff, Nat.reduceMul, reduceCtorEq, Nat.reduceAdd, Nat.reduceSub, Nat.reduceLeDiff, Nat.reduceLT, Int.reduceToNat, Int.reduceLE, Int.reduceLT, mens, men]
  refine kca_intro (sem_toGuardS x.guards b1 b2) ?_
  simp only [cut_map, r_setAt0, r_setAt1, List.set_cons_zero, List.set_cons_succ, Prod.mk.injEq, EVA, ↓reduceIte, Nat.reduceEqDiff, Nat.reduceMul, reduceCtorEq, Nat.reduceAdd, Nat.reduceSub, Nat.reduceLeDiff, Nat.reduceLT, Int.reduceToNat, Int.reduceLE, Int.reduceLT, mens, men]
  rfl
theorem sem_toControl (x : TControl) (hb : bdControl 4294967296 x) (lvl : Nat) (S : Sto) : Sem Go.Proofs.Tryz.prog fid_laws_toControl lvl [.ag ((cControl x).map .tr)] S (oControl x) S := by
  have b0 : x.name.size ≤ 4294967296 := hb
  refine sem_of_chk k_laws_toControl (by simp [oControl, low, men, mens]) ?_
  simp only [c_laws_toControl, cControl, zfill, zobs, List.map_cons, List.map_nil, r_setAt0, r_setAt1, List.set_cons_zero, List.set_cons_succ, EVA, ↓reduceIte, Nat.reduceEqDiff, Nat.reduceMul, reduceCtorEq, Nat.reduceAdd, Nat.reduceSub, Nat.reduceLeDiff, Nat.reduceLT, Int.reduceToNat, Int.reduceLE, Int.reduceLT, mens, men]
  rfl
theorem sem_toControlS (a : (List TControl)) (ha : a.length ≤ 4294967296) (hb : ∀ y ∈ a, bdControl 4294967296 y) (lvl : Nat) (S : Sto) : Sem Go.Proofs.Tryz.prog fid_laws_toControlS lvl [.tr (.sl (a.map cControl))] S (.ow 3 (a.map cControl) true) S := by
  refine sem_of_chk k_laws_toControlS trivial ?_
  simp only [c_laws_toControlS, List.length_map, bigN, Int.natCast_nonneg, EVA, ↓reduceIte, Nat.reduceEqDiff, Nat.reduceMul, reduceCtorEq, Nat.reduceAdd, Nat.reduceSub, Nat.reduceLeDiff, Nat.reduceLT, Int.reduceToNat, Int.reduceLE, Int.reduceLT, mens, men]
  refine ⟨by omega, ?_⟩
  refine wp_count (α := Unit) a.length (fun j _ => ⟨lvl, [(0, .tr (.sl (a.map cControl))), (3, .hd (lvl, 224) [] 0 a.length none a.length), (4, iI j)], [(224, .ar 3 (filled cControl [ts ⟨#[]⟩, tv 0, tv 0] a j) true a.length (j * 0))], S⟩) (fun _ _ => True) () ⟨by simp only [EVA, ↓reduceIte, Nat.reduceEqDiff, Nat.reduceMul, reduceCtorEq, Nat.reduceAdd, Nat.reduceSub, Nat.reduceLeDiff, Nat.reduceLT, Int.reduceToNat, Int.reduceLE, Int.reduceLT, mens, men], by (simp only [filled_zero, EVA, ↓reduceIte, Nat.reduceEqDiff, Nat.reduceMul, reduceCtorEq, Nat.reduceAdd, Nat.reduceSub, Nat.reduceLeDiff, Nat.reduceLT, Int.reduceToNat, Int.reduceLE, Int.reduceLT, mens, men]) <;> rfl⟩ trivial ?_
  intro j _ hj _
  simp only [List.length_map, EVA, ↓reduceIte, Nat.reduceEqDiff, Nat.reduceMul, reduceCtorEq, Nat.reduceAdd, Nat.reduceSub, Nat.reduceLeDiff, Nat.reduceLT, Int.reduceToNat, Int.reduceLE, Int.reduceLT, mens, men]
  refine ite_of (fun hlt => ?_) (fun hge => ?_)
  · have hja : j < a.length := by omega
    have ga : (a.map cControl)[j]? = some (cControl a[j]) := by simp [hja]
    have gz : (filled cControl [ts ⟨#[]⟩, tv 0, tv 0] a j)[j]? = some [ts ⟨#[]⟩, tv 0, tv 0] := filled_get hja
    have hfl : (filled cControl [ts ⟨#[]⟩, tv 0, tv 0] a j).length = a.length := filled_length hj
    have hsem := fun lvl S => sem_toControl a[j] (hb a[j] (List.getElem_mem hja)) lvl S
    simp only [ga, gz, Int.natCast_nonneg, Nat.le_refl, hja, cControl, oControl, Nat.reduceLeDiff, EVA, ↓reduceIte, Nat.reduceEqDiff, Nat.reduceMul, reduceCtorEq, Nat.reduceAdd, Nat.reduceSub, Nat.reduceLT, Int.reduceToNat, Int.reduceLE, Int.reduceLT, mens, men]
    refine kca_intro hsem ?_
    simp only [oControl, gz, Int.natCast_nonneg, Nat.le_refl, hja, hfl, setp, List.getElem?_set_self, List.set_set, List.length_set, List.set_cons_zero, List.set_cons_succ, Prod.mk.injEq, ne_eq, not_false_eq_true, EVA, ↓reduceIte, Nat.reduceEqDiff, Nat.reduceMul, reduceCtorEq, Nat.reduceAdd, Nat.reduceSub, Nat.reduceLeDiff, Nat.reduceLT, Int.reduceToNat, Int.reduceLE, Int.reduceLT, mens, men]
    refine ⟨by rw [fits_i64]; omega, cntJ_intro () hja ?_ trivial⟩
    have hse := filled_set (c := cControl) (z := [ts ⟨#[]⟩, tv 0, tv 0]) (e := [ts a[j].name, tv a[j].ports, tv a[j].kind_]) hja rfl
    rw [hse, show (j + 1) * 0 = j * 0 from by omega]
    rfl
  · have : j = a.length := by omega
    subst this
    rw [filled_all]
    simp
end Go.Fd

/-
  WHAT THE LAW OF IsGuardedRule LEANS ON. Own work.
-/

/-
  THE LAW OF IsGuardedRule (printed by lawtext.py). Own work.
-/
namespace Go.Fd
set_option maxRecDepth 20000
theorem sem_FnExactIsGuardedRule (x0 : (List TControl)) (x1 : TGuardedRule) (hb0_0 : x0.length ≤ 9223372036854775807) (hb0_1 : ∀ y ∈ x0, bdControl 9223372036854775807 y) (hb1_0 : bdGuardedRule 9223372036854775807 x1) (hf1 : ftGuardedRule x1) (lvl : Nat) (S : Sto) : Sem Go.Proofs.Tryz.prog fid_laws_FnExactIsGuardedRule lvl [.tr (.sl (x0.map cControl)), .ag ((cGuardedRule x1).map .tr)] S (iB true) S := by
  refine sem_of_chk k_laws_FnExactIsGuardedRule trivial ?_
  simp only [c_laws_FnExactIsGuardedRule, List.length_map, cut_map, cut_mL, mL_length, ne_eq, not_true_eq_false, bne_self_eq_false, cBigraph, oBigraph, cGuardedRule, oGuardedRule, cRule, oRule, EVA, ↓reduceIte, Nat.reduceEqDiff, Nat.reduceMul, reduceCtorEq, Nat.reduceAdd, Nat.reduceSub, Nat.reduceLeDiff, Nat.reduceLT, Int.reduceToNat, Int.reduceLE, Int.reduceLT, mens, men]
  have ul : (1048576 : Int) ≤ 1048576 := Int.le_refl _
  obtain ⟨_, ha0⟩ := sem_szControlS x0 hb0_0 hb0_1 (1048576) (by omega) (by omega)
  refine kca_intro ha0 ?_
  simp only [List.length_map, cut_map, cut_mL, mL_length, ne_eq, not_true_eq_false, bne_self_eq_false, cBigraph, oBigraph, cGuardedRule, oGuardedRule, cRule, oRule, EVA, ↓reduceIte, Nat.reduceEqDiff, Nat.reduceMul, reduceCtorEq, Nat.reduceAdd, Nat.reduceSub, Nat.reduceLeDiff, Nat.reduceLT, Int.reduceToNat, Int.reduceLE, Int.reduceLT, mens, men]
  refine ite_of (fun _ => trivial) (fun hz0 => ?_)
  have zp0 := (Zm_L (f := szControl) (fun y => (zpControl y)) x0) (1048576) (by omega) (by omega)
  simp only at zp0
  have hp0 := zp0.2 (by omega)
  obtain ⟨hs0_0, hs0_1⟩ := hp0
  obtain ⟨_, ha1⟩ := sem_szGuardedRule x1 hb1_0 (szL szControl x0 (1048576)) (by omega) (by omega)
  refine kca_intro ha1 ?_
  simp only [List.length_map, cut_map, cut_mL, mL_length, ne_eq, not_true_eq_false, bne_self_eq_false, cBigraph, oBigraph, cGuardedRule, oGuardedRule, cRule, oRule, EVA, ↓reduceIte, Nat.reduceEqDiff, Nat.reduceMul, reduceCtorEq, Nat.reduceAdd, Nat.reduceSub, Nat.reduceLeDiff, Nat.reduceLT, Int.reduceToNat, Int.reduceLE, Int.reduceLT, mens, men]
  refine ite_of (fun _ => trivial) (fun hz1 => ?_)
  have zp1 := (zpGuardedRule x1) (szL szControl x0 (1048576)) (by omega) (by omega)
  simp only at zp1
  have hp1 := zp1.2 (by omega)
  have hs1_0 := hp1
  refine kca_intro (sem_toControlS x0 hs0_0 hs0_1) ?_
  simp only [List.length_map, cut_map, cut_mL, mL_length, ne_eq, not_true_eq_false, bne_self_eq_false, cBigraph, oBigraph, cGuardedRule, oGuardedRule, cRule, oRule, EVA, ↓reduceIte, Nat.reduceEqDiff, Nat.reduceMul, reduceCtorEq, Nat.reduceAdd, Nat.reduceSub, Nat.reduceLeDiff, Nat.reduceLT, Int.reduceToNat, Int.reduceLE, Int.reduceLT, mens, men]
  refine kca_intro (sem_toGuardedRule x1 hs1_0) ?_
  simp only [List.length_map, cut_map, cut_mL, mL_length, ne_eq, not_true_eq_false, bne_self_eq_false, cBigraph, oBigraph, cGuardedRule, oGuardedRule, cRule, oRule, EVA, ↓reduceIte, Nat.reduceEqDiff, Nat.reduceMul, reduceCtorEq, Nat.reduceAdd, Nat.reduceSub, Nat.reduceLeDiff, Nat.reduceLT, Int.reduceToNat, Int.reduceLE, Int.reduceLT, mens, men]
  refine kca_intro (sem_spec_IsGuardedRule x0 x1 hs0_0 hs0_1 hs1_0 hf1) ?_
  simp only [List.length_map, cut_map, cut_mL, mL_length, ne_eq, not_true_eq_false, bne_self_eq_false, cBigraph, oBigraph, cGuardedRule, oGuardedRule, cRule, oRule, EVA, ↓reduceIte, Nat.reduceEqDiff, Nat.reduceMul, reduceCtorEq, Nat.reduceAdd, Nat.reduceSub, Nat.reduceLeDiff, Nat.reduceLT, Int.reduceToNat, Int.reduceLE, Int.reduceLT, mens, men]
  refine kca_intro (sem_toControlS x0 hs0_0 hs0_1) ?_
  simp only [List.length_map, cut_map, cut_mL, mL_length, ne_eq, not_true_eq_false, bne_self_eq_false, cBigraph, oBigraph, cGuardedRule, oGuardedRule, cRule, oRule, EVA, ↓reduceIte, Nat.reduceEqDiff, Nat.reduceMul, reduceCtorEq, Nat.reduceAdd, Nat.reduceSub, Nat.reduceLeDiff, Nat.reduceLT, Int.reduceToNat, Int.reduceLE, Int.reduceLT, mens, men]
  refine kca_intro (sem_toGuardedRule x1 hs1_0) ?_
  simp only [List.length_map, cut_map, cut_mL, mL_length, ne_eq, not_true_eq_false, bne_self_eq_false, cBigraph, oBigraph, cGuardedRule, oGuardedRule, cRule, oRule, EVA, ↓reduceIte, Nat.reduceEqDiff, Nat.reduceMul, reduceCtorEq, Nat.reduceAdd, Nat.reduceSub, Nat.reduceLeDiff, Nat.reduceLT, Int.reduceToNat, Int.reduceLE, Int.reduceLT, mens, men]
  refine kca_intro (sem_impl_IsGuardedRule x0 x1 hs0_0 hs0_1 hs1_0 hf1) ?_
  simp only [List.length_map, cut_map, cut_mL, mL_length, ne_eq, not_true_eq_false, bne_self_eq_false, cBigraph, oBigraph, cGuardedRule, oGuardedRule, cRule, oRule, EVA, ↓reduceIte, Nat.reduceEqDiff, Nat.reduceMul, reduceCtorEq, Nat.reduceAdd, Nat.reduceSub, Nat.reduceLeDiff, Nat.reduceLT, Int.reduceToNat, Int.reduceLE, Int.reduceLT, mens, men]
  refine kca_intro (sem_toControlS x0 hs0_0 hs0_1) ?_
  simp only [List.length_map, cut_map, cut_mL, mL_length, ne_eq, not_true_eq_false, bne_self_eq_false, cBigraph, oBigraph, cGuardedRule, oGuardedRule, cRule, oRule, EVA, ↓reduceIte, Nat.reduceEqDiff, Nat.reduceMul, reduceCtorEq, Nat.reduceAdd, Nat.reduceSub, Nat.reduceLeDiff, Nat.reduceLT, Int.reduceToNat, Int.reduceLE, Int.reduceLT, mens, men]
  refine kca_intro (sem_eqControlS x0 x0 hb0_0 hb0_1) ?_
  simp only [List.length_map, cut_map, cut_mL, mL_length, ne_eq, not_true_eq_false, bne_self_eq_false, cBigraph, oBigraph, cGuardedRule, oGuardedRule, cRule, oRule, EVA, ↓reduceIte, Nat.reduceEqDiff, Nat.reduceMul, reduceCtorEq, Nat.reduceAdd, Nat.reduceSub, Nat.reduceLeDiff, Nat.reduceLT, Int.reduceToNat, Int.reduceLE, Int.reduceLT, mens, men]
  refine kca_intro (sem_toGuardedRule x1 hs1_0) ?_
  simp only [List.length_map, cut_map, cut_mL, mL_length, ne_eq, not_true_eq_false, bne_self_eq_false, cBigraph, oBigraph, cGuardedRule, oGuardedRule, cRule, oRule, EVA, ↓reduceIte, Nat.reduceEqDiff, Nat.reduceMul, reduceCtorEq, Nat.reduceAdd, Nat.reduceSub, Nat.reduceLeDiff, Nat.reduceLT, Int.reduceToNat, Int.reduceLE, Int.reduceLT, mens, men]
  refine kca_intro (sem_eqGuardedRule x1 x1 hb1_0) ?_
  simp only [List.length_map, cut_map, cut_mL, mL_length, ne_eq, not_true_eq_false, bne_self_eq_false, cBigraph, oBigraph, cGuardedRule, oGuardedRule, cRule, oRule, EVA, ↓reduceIte, Nat.reduceEqDiff, Nat.reduceMul, reduceCtorEq, Nat.reduceAdd, Nat.reduceSub, Nat.reduceLeDiff, Nat.reduceLT, Int.reduceToNat, Int.reduceLE, Int.reduceLT, mens, men]
end Go.Fd

/-
  WHAT THE LAWS' ARGUMENTS READ AS (printed by lawgen.py). Own work.
-/
namespace Go.Fd
set_option maxRecDepth 20000
theorem rd_9 : Reads Go.Proofs.Tryz.prog 9 (fun n : ByteArray => [ts n]) (fun n => n.size ≤ 9223372036854775807) := Reads_string Go.Proofs.Tryz.underlying9
theorem rd_3 : Reads Go.Proofs.Tryz.prog 3 (fun n : Int => [tv n]) (fits .i64) := Reads_int Go.Proofs.Tryz.underlying3
theorem rd_83 : Reads Go.Proofs.Tryz.prog 83 cControl (fun x => bdControl 9223372036854775807 x ∧ ftControl x) := Reads_mp (Reads_struct Go.Proofs.Tryz.underlying83 (show ReadsP Go.Proofs.Tryz.prog 0 [(0, 9), (1, 3), (2, 3)] _ _ from (ReadsP_cons (k := 1) (by kernel_rfl) (fun _ => rfl) rd_9 (ReadsP_cons (k := 1) (by kernel_rfl) (fun _ => rfl) rd_3 (ReadsP_cons (k := 1) (by kernel_rfl) (fun _ => rfl) rd_3 ReadsP_nil))))) (fun p => TControl.mk p.1 p.2.1 p.2.2.1) (fun _ => rfl) (fun x h => ⟨h.1, ⟨h.2.1, h.2.2.1⟩⟩)
theorem rd_22 : Reads Go.Proofs.Tryz.prog 22 (fun l : List TControl => [Tr.sl (l.map cControl)]) (fun l => l.length ≤ 9223372036854775807 ∧ ∀ x ∈ l, (fun x => bdControl 9223372036854775807 x ∧ ftControl x) x) := Reads_slice (k := 2) Go.Proofs.Tryz.underlying22 (by kernel_rfl) (fun _ => rfl) rd_83
theorem rd_24 : Reads Go.Proofs.Tryz.prog 24 (fun l : List Int => [Tr.sl (l.map (fun n : Int => [tv n]))]) (fun l => l.length ≤ 9223372036854775807 ∧ ∀ x ∈ l, (fits .i64) x) := Reads_slice (k := 0) Go.Proofs.Tryz.underlying24 (by kernel_rfl) (fun _ => rfl) rd_3
theorem rd_144 : Reads Go.Proofs.Tryz.prog 144 cNode (fun x => bdNode 9223372036854775807 x ∧ ftNode x) := Reads_mp (Reads_struct Go.Proofs.Tryz.underlying144 (show ReadsP Go.Proofs.Tryz.prog 0 [(0, 3), (1, 3), (2, 24)] _ _ from (ReadsP_cons (k := 1) (by kernel_rfl) (fun _ => rfl) rd_3 (ReadsP_cons (k := 1) (by kernel_rfl) (fun _ => rfl) rd_3 (ReadsP_cons (k := 1) (by kernel_rfl) (fun _ => rfl) rd_24 ReadsP_nil))))) (fun p => TNode.mk p.1 p.2.1 p.2.2.1) (fun _ => rfl) (fun x h => ⟨h.2.2.1.1, ⟨h.1, h.2.1, (fun y hy => (h.2.2.1.2 y hy))⟩⟩)
theorem rd_23 : Reads Go.Proofs.Tryz.prog 23 (fun l : List TNode => [Tr.sl (l.map cNode)]) (fun l => l.length ≤ 9223372036854775807 ∧ ∀ x ∈ l, (fun x => bdNode 9223372036854775807 x ∧ ftNode x) x) := Reads_slice (k := 2) Go.Proofs.Tryz.underlying23 (by kernel_rfl) (fun _ => rfl) rd_144
theorem rd_25 : Reads Go.Proofs.Tryz.prog 25 (fun l : List ByteArray => [Tr.sl (l.map (fun n : ByteArray => [ts n]))]) (fun l => l.length ≤ 9223372036854775807 ∧ ∀ x ∈ l, (fun n => n.size ≤ 9223372036854775807) x) := Reads_slice (k := 0) Go.Proofs.Tryz.underlying25 (by kernel_rfl) (fun _ => rfl) rd_9
theorem rd_147 : Reads Go.Proofs.Tryz.prog 147 cWire (fun x => bdWire 9223372036854775807 x ∧ ftWire x) := Reads_mp (Reads_struct Go.Proofs.Tryz.underlying147 (show ReadsP Go.Proofs.Tryz.prog 0 [(0, 9), (1, 3)] _ _ from (ReadsP_cons (k := 1) (by kernel_rfl) (fun _ => rfl) rd_9 (ReadsP_cons (k := 1) (by kernel_rfl) (fun _ => rfl) rd_3 ReadsP_nil)))) (fun p => TWire.mk p.1 p.2.1) (fun _ => rfl) (fun x h => ⟨h.1, h.2.1⟩)
theorem rd_26 : Reads Go.Proofs.Tryz.prog 26 (fun l : List TWire => [Tr.sl (l.map cWire)]) (fun l => l.length ≤ 9223372036854775807 ∧ ∀ x ∈ l, (fun x => bdWire 9223372036854775807 x ∧ ftWire x) x) := Reads_slice (k := 1) Go.Proofs.Tryz.underlying26 (by kernel_rfl) (fun _ => rfl) rd_147
theorem rd_28 : Reads Go.Proofs.Tryz.prog 28 cBigraph (fun x => bdBigraph 9223372036854775807 x ∧ ftBigraph x) := Reads_mp (Reads_struct Go.Proofs.Tryz.underlying28 (show ReadsP Go.Proofs.Tryz.prog 0 [(0, 3), (1, 23), (2, 24), (3, 3), (4, 25), (5, 26)] _ _ from (ReadsP_cons (k := 1) (by kernel_rfl) (fun _ => rfl) rd_3 (ReadsP_cons (k := 1) (by kernel_rfl) (fun _ => rfl) rd_23 (ReadsP_cons (k := 1) (by kernel_rfl) (fun _ => rfl) rd_24 (ReadsP_cons (k := 1) (by kernel_rfl) (fun _ => rfl) rd_3 (ReadsP_cons (k := 1) (by kernel_rfl) (fun _ => rfl) rd_25 (ReadsP_cons (k := 1) (by kernel_rfl) (fun _ => rfl) rd_26 ReadsP_nil)))))))) (fun p => TBigraph.mk p.1 p.2.1 p.2.2.1 p.2.2.2.1 p.2.2.2.2.1 p.2.2.2.2.2.1) (fun _ => rfl) (fun x h => ⟨⟨h.2.1.1, (fun y hy => (h.2.1.2 y hy).1), h.2.2.1.1, h.2.2.2.2.1.1, (fun y hy => (h.2.2.2.2.1.2 y hy)), h.2.2.2.2.2.1.1, (fun y hy => (h.2.2.2.2.2.1.2 y hy).1)⟩, ⟨h.1, (fun y hy => (h.2.1.2 y hy).2), (fun y hy => (h.2.2.1.2 y hy)), h.2.2.2.1, (fun y hy => (h.2.2.2.2.2.1.2 y hy).2)⟩⟩)
theorem rd_30 : Reads Go.Proofs.Tryz.prog 30 cRule (fun x => bdRule 9223372036854775807 x ∧ ftRule x) := Reads_mp (Reads_struct Go.Proofs.Tryz.underlying30 (show ReadsP Go.Proofs.Tryz.prog 0 [(0, 28), (6, 28), (12, 24)] _ _ from (ReadsP_cons (k := 6) (by kernel_rfl) (fun _ => rfl) rd_28 (ReadsP_cons (k := 6) (by kernel_rfl) (fun _ => rfl) rd_28 (ReadsP_cons (k := 1) (by kernel_rfl) (fun _ => rfl) rd_24 ReadsP_nil))))) (fun p => TRule.mk p.1 p.2.1 p.2.2.1) (fun _ => rfl) (fun x h => ⟨⟨h.1.1, h.2.1.1, h.2.2.1.1⟩, ⟨h.1.2, h.2.1.2, (fun y hy => (h.2.2.1.2 y hy))⟩⟩)
theorem rd_4 : Reads Go.Proofs.Tryz.prog 4 (fun n : Bool => [tb n]) (fun _ => True) := Reads_bool Go.Proofs.Tryz.underlying4
theorem rd_135 : Reads Go.Proofs.Tryz.prog 135 cGuard (fun x => bdGuard 9223372036854775807 x ∧ ftGuard x) := Reads_mp (Reads_struct Go.Proofs.Tryz.underlying135 (show ReadsP Go.Proofs.Tryz.prog 0 [(0, 3), (1, 4), (2, 28)] _ _ from (ReadsP_cons (k := 1) (by kernel_rfl) (fun _ => rfl) rd_3 (ReadsP_cons (k := 1) (by kernel_rfl) (fun _ => rfl) rd_4 (ReadsP_cons (k := 6) (by kernel_rfl) (fun _ => rfl) rd_28 ReadsP_nil))))) (fun p => TGuard.mk p.1 p.2.1 p.2.2.1) (fun _ => rfl) (fun x h => ⟨h.2.2.1.1, ⟨h.1, h.2.2.1.2⟩⟩)
theorem rd_31 : Reads Go.Proofs.Tryz.prog 31 (fun l : List TGuard => [Tr.sl (l.map cGuard)]) (fun l => l.length ≤ 9223372036854775807 ∧ ∀ x ∈ l, (fun x => bdGuard 9223372036854775807 x ∧ ftGuard x) x) := Reads_slice (k := 7) Go.Proofs.Tryz.underlying31 (by kernel_rfl) (fun _ => rfl) rd_135
theorem rd_33 : Reads Go.Proofs.Tryz.prog 33 cGuardedRule (fun x => bdGuardedRule 9223372036854775807 x ∧ ftGuardedRule x) := Reads_mp (Reads_struct Go.Proofs.Tryz.underlying33 (show ReadsP Go.Proofs.Tryz.prog 0 [(0, 30), (13, 31), (14, 3)] _ _ from (ReadsP_cons (k := 13) (by kernel_rfl) (fun _ => rfl) rd_30 (ReadsP_cons (k := 1) (by kernel_rfl) (fun _ => rfl) rd_31 (ReadsP_cons (k := 1) (by kernel_rfl) (fun _ => rfl) rd_3 ReadsP_nil))))) (fun p => TGuardedRule.mk p.1 p.2.1 p.2.2.1) (fun _ => rfl) (fun x h => ⟨⟨h.1.1, h.2.1.1, (fun y hy => (h.2.1.2 y hy).1)⟩, ⟨h.1.2, (fun y hy => (h.2.1.2 y hy).2), h.2.2.1⟩⟩)
end Go.Fd
