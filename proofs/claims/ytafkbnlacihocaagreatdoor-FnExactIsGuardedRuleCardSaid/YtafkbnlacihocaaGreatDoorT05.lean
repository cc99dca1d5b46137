/-
  WHAT A VALID BIGRAPH IS, BOTH SIDES. Own work.
-/
import Derived.Test.YtafkbnlacihocaaGreatDoorT04
import Derived.KernelRfl
set_option linter.all false
namespace Go.Fd
set_option maxRecDepth 20000

theorem allN {P : Nat → Prop} {j : Nat} (h : ∀ k, k < j → P k) (hj : P j) : ∀ k, k < j + 1 → P k := fun k hk => by
  by_cases e : k = j
  · subst e; exact hj
  · exact h k (by omega)

theorem inB_dc {n a b : Int} : inB n a b = dc (a ≤ n ∧ n ≤ b) := by
  unfold inB
  rw [dc_decide, Bool.decide_and]

theorem bl_tri : ∀ (x y : List UInt8), (!Op.bytesLess x y) = (Op.bytesLess y x || decide (x = y))
  | [], [] => by simp [Op.bytesLess]
  | [], _ :: _ => by simp [Op.bytesLess]
  | _ :: _, [] => by simp [Op.bytesLess]
  | a :: x, b :: y => by
    have ih := bl_tri x y
    simp only [Op.bytesLess]
    by_cases h : a = b
    · subst h
      have e : ¬ a < a := UInt8.lt_irrefl a
      simp [e, ih]
    · by_cases h1 : a < b
      · have h2 : ¬ b < a := fun h2 => UInt8.lt_irrefl a (UInt8.lt_trans h1 h2)
        have h3 : ¬ b = a := fun e => h e.symm
        simp [h, h1, h2, h3]
      · have h2 : b < a := by
          rcases UInt8.lt_or_lt_of_ne h with h | h
          · exact absurd h h1
          · exact h
        simp [h, h1, h2]

/-- One text before another. -/
def ltS (s t : ByteArray) : Prop := Op.bytesLess s.data.toList t.data.toList = true

theorem ltS_geq {s t : ByteArray} : (!Op.bytesLess s.data.toList t.data.toList) = !dc (ltS s t) := by
  unfold ltS
  rw [dc_decide, Bool.decide_eq_true]

theorem ltS_leq {s t : ByteArray} : (Op.bytesLess t.data.toList s.data.toList || decide (t = s)) = !dc (ltS s t) := by
  rw [← ltS_geq, bl_tri]
  congr 1
  have : t = s ↔ s.data.toList = t.data.toList := ⟨fun h => by rw [h], fun h => by
    cases s with | mk s => cases t with | mk t => exact congrArg ByteArray.mk (Array.toList_inj.1 h.symm)⟩
  simp only [this]

def nmAt (l : List ByteArray) (i : Nat) : Prop := ∀ h : i < l.length, isNm l[i] ∧ ∀ _ : 0 < i, ltS (l[i - 1]'(by omega)) l[i]

def namesOK (l : List ByteArray) : Prop := (∀ i, nmAt l i) ∧ l.length ≤ 16

theorem sem_l2Names (l : List ByteArray) (hl : l.length ≤ 4294967296) (hb : ∀ y ∈ l, y.size ≤ 4294967296) (lvl : Nat) (S : Sto) : Sem Go.Proofs.Tryz.prog fid_spec_l2Names lvl [.tr (.sl (rS l))] S (iB (dc (namesOK l))) S := by
  refine sem_of_chk k_spec_l2Names trivial ?_
  simp only [c_spec_l2Names, List.length_map, EVA, ↓reduceIte, Nat.reduceEqDiff, Nat.reduceMul, reduceCtorEq, Nat.reduceAdd, Nat.reduceSub, Nat.reduceLeDiff, Nat.reduceLT, Int.reduceToNat, Int.reduceLE, Int.reduceLT, mens, men]
  refine wp_cnt (α := Unit) l.length (fun j _ => [(3, iI j)]) (fun j _ => []) (fun j _ => ∀ k, k < j → nmAt l k) () (by simp only [EVA, ↓reduceIte, Nat.reduceEqDiff, Nat.reduceMul, reduceCtorEq, Nat.reduceAdd, Nat.reduceSub, Nat.reduceLeDiff, Nat.reduceLT, Int.reduceToNat, Int.reduceLE, Int.reduceLT, mens, men]) (by (simp only [EVA, ↓reduceIte, Nat.reduceEqDiff, Nat.reduceMul, reduceCtorEq, Nat.reduceAdd, Nat.reduceSub, Nat.reduceLeDiff, Nat.reduceLT, Int.reduceToNat, Int.reduceLE, Int.reduceLT, mens, men]) <;> rfl) (fun k hk => absurd hk (Nat.not_lt_zero k)) ?_
  intro j _ hj hA
  simp only [List.length_map, EVA, ↓reduceIte, Nat.reduceEqDiff, Nat.reduceMul, reduceCtorEq, Nat.reduceAdd, Nat.reduceSub, Nat.reduceLeDiff, Nat.reduceLT, Int.reduceToNat, Int.reduceLE, Int.reduceLT, mens, men]
  refine ite_of (fun hlt => ?_) (fun hge => ?_)
  · have hja : j < l.length := by omega
    have ga := getA (c := fun s => [ts s]) hja
    have hno : ¬ nmAt l j → dc (namesOK l) = false := fun h => dc_false fun g => h (g.1 j)
    simp only [ga, List.length_map, EVA, ↓reduceIte, Nat.reduceEqDiff, Nat.reduceMul, reduceCtorEq, Nat.reduceAdd, Nat.reduceSub, Nat.reduceLeDiff, Nat.reduceLT, Int.reduceToNat, Int.reduceLE, Int.reduceLT, mens, men]
    refine kca_intro (sem_l2Name l[j] (by have := hb _ (List.getElem_mem hja); omega)) ?_
    cases h1 : dc (isNm l[j])
    · simp only [EVA, ↓reduceIte, Nat.reduceEqDiff, Nat.reduceMul, reduceCtorEq, Nat.reduceAdd, Nat.reduceSub, Nat.reduceLeDiff, Nat.reduceLT, Int.reduceToNat, Int.reduceLE, Int.reduceLT, mens, men]
      rw [hno fun h => dc_not.1 h1 (h hja).1]
    by_cases q : 0 < j
    · have e1 : ((j : Int) - 1).toNat = j - 1 := by omega
      have e2 : (0 : Int) ≤ j - 1 := by omega
      have q5 : (0 : Int) < j := by omega
      have gb := getA (c := fun s => [ts s]) (l := l) (j := j - 1) (by omega)
      simp only [q5, e1, e2, ga, gb, List.length_map, EVA, ↓reduceIte, Nat.reduceEqDiff, Nat.reduceMul, reduceCtorEq, Nat.reduceAdd, Nat.reduceSub, Nat.reduceLeDiff, Nat.reduceLT, Int.reduceToNat, Int.reduceLE, Int.reduceLT, mens, men]
      cases hc : Op.bytesLess (l[j - 1]'(by omega)).data.toList l[j].data.toList
      · simp only [EVA, ↓reduceIte, Nat.reduceEqDiff, Nat.reduceMul, reduceCtorEq, Nat.reduceAdd, Nat.reduceSub, Nat.reduceLeDiff, Nat.reduceLT, Int.reduceToNat, Int.reduceLE, Int.reduceLT, mens, men]
        exact ⟨by rw [fits_i64]; omega, by rw [hno fun h => by have := (h hja).2 q; unfold ltS at this; rw [this] at hc; cases hc]⟩
      · simp only [EVA, ↓reduceIte, Nat.reduceEqDiff, Nat.reduceMul, reduceCtorEq, Nat.reduceAdd, Nat.reduceSub, Nat.reduceLeDiff, Nat.reduceLT, Int.reduceToNat, Int.reduceLE, Int.reduceLT, mens, men]
        exact ⟨by rw [fits_i64]; omega, by rw [fits_i64]; omega, cntJ_intro () hja rfl (allN hA fun _ => ⟨dc_iff.1 h1, fun _ => hc⟩)⟩
    · have q5 : ¬ (0 : Int) < j := by omega
      simp only [q5, ga, List.length_map, EVA, ↓reduceIte, Nat.reduceEqDiff, Nat.reduceMul, reduceCtorEq, Nat.reduceAdd, Nat.reduceSub, Nat.reduceLeDiff, Nat.reduceLT, Int.reduceToNat, Int.reduceLE, Int.reduceLT, mens, men]
      exact ⟨by rw [fits_i64]; omega, cntJ_intro () hja rfl (allN hA fun _ => ⟨dc_iff.1 h1, fun h => absurd h q⟩)⟩
  · have hj1 : j = l.length := by omega
    subst hj1
    rw [dc_congr (p := namesOK l) (q := (l.length : Int) ≤ 16) ⟨fun g => by have := g.2; omega, fun g => ⟨fun i h => hA i h h, by omega⟩⟩, dc_decide]

theorem sem_areNames (l : List ByteArray) (hl : l.length ≤ 4294967296) (hb : ∀ y ∈ l, y.size ≤ 4294967296) (lvl : Nat) (S : Sto) : Sem Go.Proofs.Tryz.prog fid_impl_areNames lvl [.tr (.sl (rS l))] S (iB (dc (namesOK l))) S := by
  refine sem_of_chk k_impl_areNames trivial ?_
  simp only [c_impl_areNames, List.length_map, EVA, ↓reduceIte, Nat.reduceEqDiff, Nat.reduceMul, reduceCtorEq, Nat.reduceAdd, Nat.reduceSub, Nat.reduceLeDiff, Nat.reduceLT, Int.reduceToNat, Int.reduceLE, Int.reduceLT, mens, men]
  refine wp_cnt (α := Unit) l.length (fun j _ => [(7, iI j)]) (fun j _ => []) (fun j _ => ∀ k, k < j → nmAt l k) () (by simp only [EVA, ↓reduceIte, Nat.reduceEqDiff, Nat.reduceMul, reduceCtorEq, Nat.reduceAdd, Nat.reduceSub, Nat.reduceLeDiff, Nat.reduceLT, Int.reduceToNat, Int.reduceLE, Int.reduceLT, mens, men]) (by (simp only [EVA, ↓reduceIte, Nat.reduceEqDiff, Nat.reduceMul, reduceCtorEq, Nat.reduceAdd, Nat.reduceSub, Nat.reduceLeDiff, Nat.reduceLT, Int.reduceToNat, Int.reduceLE, Int.reduceLT, mens, men]) <;> rfl) (fun k hk => absurd hk (Nat.not_lt_zero k)) ?_
  intro j _ hj hA
  simp only [List.length_map, EVA, ↓reduceIte, Nat.reduceEqDiff, Nat.reduceMul, reduceCtorEq, Nat.reduceAdd, Nat.reduceSub, Nat.reduceLeDiff, Nat.reduceLT, Int.reduceToNat, Int.reduceLE, Int.reduceLT, mens, men]
  refine ite_of (fun hlt => ?_) (fun hge => ?_)
  · have hja : j < l.length := by omega
    have ga := getA (c := fun s => [ts s]) hja
    have hno : ¬ nmAt l j → dc (namesOK l) = false := fun h => dc_false fun g => h (g.1 j)
    simp only [ga, List.length_map, EVA, ↓reduceIte, Nat.reduceEqDiff, Nat.reduceMul, reduceCtorEq, Nat.reduceAdd, Nat.reduceSub, Nat.reduceLeDiff, Nat.reduceLT, Int.reduceToNat, Int.reduceLE, Int.reduceLT, mens, men]
    refine kca_intro (sem_isName l[j] (by have := hb _ (List.getElem_mem hja); omega)) ?_
    cases h1 : dc (isNm l[j])
    · simp only [EVA, ↓reduceIte, Nat.reduceEqDiff, Nat.reduceMul, reduceCtorEq, Nat.reduceAdd, Nat.reduceSub, Nat.reduceLeDiff, Nat.reduceLT, Int.reduceToNat, Int.reduceLE, Int.reduceLT, mens, men]
      rw [hno fun h => dc_not.1 h1 (h hja).1]
    by_cases q : 0 < j
    · have e1 : ((j : Int) - 1).toNat = j - 1 := by omega
      have e2 : (0 : Int) ≤ j - 1 := by omega
      have q5 : (0 : Int) < j := by omega
      have gb := getA (c := fun s => [ts s]) (l := l) (j := j - 1) (by omega)
      simp only [q5, e1, e2, ga, gb, List.length_map, EVA, ↓reduceIte, Nat.reduceEqDiff, Nat.reduceMul, reduceCtorEq, Nat.reduceAdd, Nat.reduceSub, Nat.reduceLeDiff, Nat.reduceLT, Int.reduceToNat, Int.reduceLE, Int.reduceLT, mens, men]
      rw [ltS_leq]
      cases hc : dc (ltS (l[j - 1]'(by omega)) l[j])
      · simp only [EVA, ↓reduceIte, Nat.reduceEqDiff, Nat.reduceMul, reduceCtorEq, Nat.reduceAdd, Nat.reduceSub, Nat.reduceLeDiff, Nat.reduceLT, Int.reduceToNat, Int.reduceLE, Int.reduceLT, mens, men]
        exact ⟨by rw [fits_i64]; omega, by rw [hno fun h => dc_not.1 hc ((h hja).2 q)]⟩
      · simp only [EVA, ↓reduceIte, Nat.reduceEqDiff, Nat.reduceMul, reduceCtorEq, Nat.reduceAdd, Nat.reduceSub, Nat.reduceLeDiff, Nat.reduceLT, Int.reduceToNat, Int.reduceLE, Int.reduceLT, mens, men]
        exact ⟨by rw [fits_i64]; omega, by rw [fits_i64]; omega, cntJ_intro () hja rfl (allN hA fun _ => ⟨dc_iff.1 h1, fun _ => dc_iff.1 hc⟩)⟩
    · have q5 : ¬ (0 : Int) < j := by omega
      simp only [q5, ga, List.length_map, EVA, ↓reduceIte, Nat.reduceEqDiff, Nat.reduceMul, reduceCtorEq, Nat.reduceAdd, Nat.reduceSub, Nat.reduceLeDiff, Nat.reduceLT, Int.reduceToNat, Int.reduceLE, Int.reduceLT, mens, men]
      exact ⟨by rw [fits_i64]; omega, cntJ_intro () hja rfl (allN hA fun _ => ⟨dc_iff.1 h1, fun h => absurd h q⟩)⟩
  · have hj1 : j = l.length := by omega
    subst hj1
    rw [dc_congr (p := namesOK l) (q := (l.length : Int) ≤ 16) ⟨fun g => by have := g.2; omega, fun g => ⟨fun i h => hA i h h, by omega⟩⟩, dc_decide]

def linkOK (b : TBigraph) (l : Int) : Prop := 0 ≤ l ∧ l ≤ b.edges + b.outer.length - 1

theorem sem_l2Link (b : TBigraph) (l : Int) (he : 0 ≤ b.edges ∧ b.edges ≤ 8) (ho : b.outer.length ≤ 4294967296) (lvl : Nat) (S : Sto) : Sem Go.Proofs.Tryz.prog fid_spec_l2Link lvl [.ag ((cBigraph b).map .tr), iI l] S (iB (dc (linkOK b l))) S := by
  refine sem_of_chk k_spec_l2Link trivial ?_
  simp only [c_spec_l2Link, cBigraph, List.length_map, EVA, ↓reduceIte, Nat.reduceEqDiff, Nat.reduceMul, reduceCtorEq, Nat.reduceAdd, Nat.reduceSub, Nat.reduceLeDiff, Nat.reduceLT, Int.reduceToNat, Int.reduceLE, Int.reduceLT, mens, men]
  refine ⟨by rw [fits_i64]; omega, by rw [fits_i64]; omega, ?_⟩
  refine kca_intro (sem_l1In l 0 (b.edges + b.outer.length - 1)) ?_
  simp only [EVA, ↓reduceIte, Nat.reduceEqDiff, Nat.reduceMul, reduceCtorEq, Nat.reduceAdd, Nat.reduceSub, Nat.reduceLeDiff, Nat.reduceLT, Int.reduceToNat, Int.reduceLE, Int.reduceLT, mens, men]
  rw [inB_dc]
  rfl

theorem sem_isLink (b : TBigraph) (l : Int) (he : 0 ≤ b.edges ∧ b.edges ≤ 8) (ho : b.outer.length ≤ 4294967296) (lvl : Nat) (S : Sto) : Sem Go.Proofs.Tryz.prog fid_impl_Bigraph_isLink lvl [.ag ((cBigraph b).map .tr), iI l] S (iB (dc (linkOK b l))) S := by
  refine sem_of_chk k_impl_Bigraph_isLink trivial ?_
  simp only [c_impl_Bigraph_isLink, cBigraph, List.length_map, EVA, ↓reduceIte, Nat.reduceEqDiff, Nat.reduceMul, reduceCtorEq, Nat.reduceAdd, Nat.reduceSub, Nat.reduceLeDiff, Nat.reduceLT, Int.reduceToNat, Int.reduceLE, Int.reduceLT, mens, men]
  refine ⟨by rw [fits_i64]; omega, by rw [fits_i64]; omega, ?_⟩
  refine kca_intro (sem_within l 0 (b.edges + b.outer.length - 1)) ?_
  simp only [EVA, ↓reduceIte, Nat.reduceEqDiff, Nat.reduceMul, reduceCtorEq, Nat.reduceAdd, Nat.reduceSub, Nat.reduceLeDiff, Nat.reduceLT, Int.reduceToNat, Int.reduceLE, Int.reduceLT, mens, men]
  rw [inB_dc]
  rfl

/-- The kind of a control. -/
def kindAt (sig : List TControl) (c : Int) : Int := ((sig[c.toNat]?).map TControl.kind_).getD 0
def portsAt (sig : List TControl) (c : Int) : Int := ((sig[c.toNat]?).map TControl.ports).getD 0
def ctlAt (b : TBigraph) (p : Int) : Int := ((b.nodes[p.toNat]?).map TNode.control).getD 0

def under (sig : List TControl) (b : TBigraph) (p below : Int) : Prop := (p < 0 ∧ -b.roots ≤ p) ∨ (0 ≤ p ∧ p < below ∧ ¬ kindAt sig (ctlAt b p) = 2)

def ctlsOK (sig : List TControl) (b : TBigraph) (n : Nat) : Prop := ∀ i, i < n → ∀ h : i < b.nodes.length, 0 ≤ b.nodes[i].control ∧ b.nodes[i].control ≤ (sig.length : Int) - 1

theorem sem_l2Under (sig : List TControl) (b : TBigraph) (p : Int) (k : Nat) (hp : fits .i64 p) (hr : 0 ≤ b.roots ∧ b.roots ≤ 4) (hk : k ≤ b.nodes.length) (hc : ctlsOK sig b k) (lvl : Nat) (S : Sto) : Sem Go.Proofs.Tryz.prog fid_spec_l2Under lvl [.tr (.sl (sig.map cControl)), .ag ((cBigraph b).map .tr), iI p, iI k] S (iB (dc (under sig b p k))) S := by
  rw [fits_i64] at hp
  refine sem_of_chk k_spec_l2Under trivial ?_
  simp only [c_spec_l2Under, cBigraph, List.length_map, EVA, ↓reduceIte, Nat.reduceEqDiff, Nat.reduceMul, reduceCtorEq, Nat.reduceAdd, Nat.reduceSub, Nat.reduceLeDiff, Nat.reduceLT, Int.reduceToNat, Int.reduceLE, Int.reduceLT, mens, men]
  refine ite_of (fun hneg => ?_) (fun hpos => ?_)
  · refine ⟨by rw [fits_i64]; omega, by rw [fits_i64]; omega, ?_⟩
    refine kca_intro (sem_l1In (-1 - p) 0 (b.roots - 1)) ?_
    simp only [EVA, ↓reduceIte, Nat.reduceEqDiff, Nat.reduceMul, reduceCtorEq, Nat.reduceAdd, Nat.reduceSub, Nat.reduceLeDiff, Nat.reduceLT, Int.reduceToNat, Int.reduceLE, Int.reduceLT, mens, men]
    have hiff : (0 ≤ -1 - p ∧ -1 - p ≤ b.roots - 1) ↔ under sig b p k := ⟨fun h => .inl (by omega), fun h => by rcases h with h | h <;> omega⟩
    rw [inB_dc, dc_congr hiff]
  · refine ite_of (fun hb => ?_) (fun hb => ?_)
    · obtain ⟨q, rfl⟩ : ∃ q : Nat, p = q := ⟨p.toNat, by omega⟩
      have hq : q < b.nodes.length := by omega
      have ga := getA (c := cNode) hq
      obtain ⟨m1, m2⟩ := hc q (by omega) hq
      obtain ⟨m, hm⟩ : ∃ m : Nat, b.nodes[q].control = m := ⟨b.nodes[q].control.toNat, by omega⟩
      have hms : m < sig.length := by omega
      have gs := getA (c := cControl) hms
      simp only [hb, ga, gs, cNode, cControl, hm, Int.toNat_natCast, Int.natCast_nonneg, List.length_map, EVA, ↓reduceIte, Nat.reduceEqDiff, Nat.reduceMul, reduceCtorEq, Nat.reduceAdd, Nat.reduceSub, Nat.reduceLeDiff, Nat.reduceLT, Int.reduceToNat, Int.reduceLE, Int.reduceLT, mens, men]
      have e : kindAt sig (ctlAt b q) = sig[m].kind_ := by simp [kindAt, ctlAt, hq, hm, hms]
      have hiff : under sig b q k ↔ ¬ sig[m].kind_ = 2 := by
        constructor
        · intro h
          rcases h with h | h
          · omega
          · rw [← e]; exact h.2.2
        · intro h
          exact .inr ⟨by omega, hb, by rw [e]; exact h⟩
      rw [dc_congr hiff, dc_decide]
    · rw [dc_false fun h : under sig b p k => by rcases h with h | h <;> omega]

theorem sem_isParent (sig : List TControl) (b : TBigraph) (p : Int) (k : Nat) (hr : 0 ≤ b.roots ∧ b.roots ≤ 4) (hk : k ≤ b.nodes.length) (hc : ctlsOK sig b k) (lvl : Nat) (S : Sto) : Sem Go.Proofs.Tryz.prog fid_impl_Bigraph_isParent lvl [.ag ((cBigraph b).map .tr), .tr (.sl (sig.map cControl)), iI p, iI k] S (iB (dc (under sig b p k))) S := by
  refine sem_of_chk k_impl_Bigraph_isParent trivial ?_
  simp only [c_impl_Bigraph_isParent, cBigraph, List.length_map, EVA, ↓reduceIte, Nat.reduceEqDiff, Nat.reduceMul, reduceCtorEq, Nat.reduceAdd, Nat.reduceSub, Nat.reduceLeDiff, Nat.reduceLT, Int.reduceToNat, Int.reduceLE, Int.reduceLT, mens, men]
  refine ite_of (fun hneg => ?_) (fun hpos => ?_)
  · refine ⟨by rw [fits_i64]; omega, ?_⟩
    have hiff : under sig b p k ↔ -b.roots ≤ p := ⟨fun h => by rcases h with h | h <;> omega, fun h => .inl (by omega)⟩
    rw [dc_congr hiff, dc_decide]
  · refine ite_of (fun hb => ?_) (fun hb => ?_)
    · obtain ⟨q, rfl⟩ : ∃ q : Nat, p = q := ⟨p.toNat, by omega⟩
      have hq : q < b.nodes.length := by omega
      have ga := getA (c := cNode) hq
      obtain ⟨m1, m2⟩ := hc q (by omega) hq
      obtain ⟨m, hm⟩ : ∃ m : Nat, b.nodes[q].control = m := ⟨b.nodes[q].control.toNat, by omega⟩
      have hms : m < sig.length := by omega
      have gs := getA (c := cControl) hms
      simp only [hb, ga, gs, cNode, cControl, hm, Int.toNat_natCast, Int.natCast_nonneg, List.length_map, EVA, ↓reduceIte, Nat.reduceEqDiff, Nat.reduceMul, reduceCtorEq, Nat.reduceAdd, Nat.reduceSub, Nat.reduceLeDiff, Nat.reduceLT, Int.reduceToNat, Int.reduceLE, Int.reduceLT, mens, men]
      have e : kindAt sig (ctlAt b q) = sig[m].kind_ := by simp [kindAt, ctlAt, hq, hm, hms]
      have hiff : under sig b q k ↔ ¬ sig[m].kind_ = 2 := by
        constructor
        · intro h
          rcases h with h | h
          · omega
          · rw [← e]; exact h.2.2
        · intro h
          exact .inr ⟨by omega, hb, by rw [e]; exact h⟩
      rw [dc_congr hiff, dc_decide]
    · rw [dc_false fun h : under sig b p k => by rcases h with h | h <;> omega]

structure nodeOK (sig : List TControl) (b : TBigraph) (x : TNode) (i : Nat) : Prop where
  ctl : 0 ≤ x.control ∧ x.control ≤ (sig.length : Int) - 1
  par : under sig b x.parent i
  ports : (x.links.length : Int) = portsAt sig x.control
  links : ∀ l ∈ x.links, linkOK b l

theorem sem_l2Node (sig : List TControl) (b : TBigraph) (i : Nat) (hi : i < b.nodes.length) (hn : sig.length ≤ 4294967296) (hl : b.nodes[i].links.length ≤ 4294967296) (hp : fits .i64 b.nodes[i].parent) (hr : 0 ≤ b.roots ∧ b.roots ≤ 4) (he : 0 ≤ b.edges ∧ b.edges ≤ 8) (ho : b.outer.length ≤ 4294967296) (hc : ctlsOK sig b i) (lvl : Nat) (S : Sto) : Sem Go.Proofs.Tryz.prog fid_spec_l2Node lvl [.tr (.sl (sig.map cControl)), .ag ((cBigraph b).map .tr), iI i] S (iB (dc (nodeOK sig b b.nodes[i] i))) S := by
  refine sem_of_chk k_spec_l2Node trivial ?_
  have ga := getA (c := cNode) hi
  simp only [c_spec_l2Node, cBigraph, List.length_map, ga, cNode, EVA, ↓reduceIte, Nat.reduceEqDiff, Nat.reduceMul, reduceCtorEq, Nat.reduceAdd, Nat.reduceSub, Nat.reduceLeDiff, Nat.reduceLT, Int.reduceToNat, Int.reduceLE, Int.reduceLT, mens, men]
  refine ⟨by rw [fits_i64]; omega, ?_⟩
  refine kca_intro (sem_l1In b.nodes[i].control 0 ((sig.length : Int) - 1)) ?_
  cases h1 : inB b.nodes[i].control 0 ((sig.length : Int) - 1)
  · simp only [EVA, ↓reduceIte, Nat.reduceEqDiff, Nat.reduceMul, reduceCtorEq, Nat.reduceAdd, Nat.reduceSub, Nat.reduceLeDiff, Nat.reduceLT, Int.reduceToNat, Int.reduceLE, Int.reduceLT, mens, men]
    rw [dc_false fun h : nodeOK sig b b.nodes[i] i => inB_not.1 h1 h.ctl]
  have r1 := inB_iff.1 h1
  simp only [cBigraph, List.length_map, cNode, EVA, ↓reduceIte, Nat.reduceEqDiff, Nat.reduceMul, reduceCtorEq, Nat.reduceAdd, Nat.reduceSub, Nat.reduceLeDiff, Nat.reduceLT, Int.reduceToNat, Int.reduceLE, Int.reduceLT, mens, men]
  refine kca_intro (sem_l2Under sig b b.nodes[i].parent i hp hr (by omega) hc) ?_
  cases h2 : dc (under sig b b.nodes[i].parent i)
  · simp only [EVA, ↓reduceIte, Nat.reduceEqDiff, Nat.reduceMul, reduceCtorEq, Nat.reduceAdd, Nat.reduceSub, Nat.reduceLeDiff, Nat.reduceLT, Int.reduceToNat, Int.reduceLE, Int.reduceLT, mens, men]
    rw [dc_false fun h : nodeOK sig b b.nodes[i] i => dc_not.1 h2 h.par]
  obtain ⟨m, hm⟩ : ∃ m : Nat, b.nodes[i].control = m := ⟨b.nodes[i].control.toNat, by omega⟩
  have hms : m < sig.length := by omega
  have gs := getA (c := cControl) hms
  have e : portsAt sig b.nodes[i].control = sig[m].ports := by simp [portsAt, hm, hms]
  simp only [hm, gs, cControl, cBigraph, List.length_map, cNode, EVA, ↓reduceIte, Nat.reduceEqDiff, Nat.reduceMul, reduceCtorEq, Nat.reduceAdd, Nat.reduceSub, Nat.reduceLeDiff, Nat.reduceLT, Int.reduceToNat, Int.reduceLE, Int.reduceLT, mens, men]
  refine ite_of (fun hne => ?_) (fun heq => ?_)
  · rw [dc_false fun h : nodeOK sig b b.nodes[i] i => by have := h.ports; rw [e] at this; exact hne this]
  refine wp_cnt (α := Unit) b.nodes[i].links.length (fun j _ => [(8, iI j)]) (fun j _ => []) (fun j _ => ∀ k, k < j → linkOK b (g0 b.nodes[i].links k)) () (by simp only [EVA, ↓reduceIte, Nat.reduceEqDiff, Nat.reduceMul, reduceCtorEq, Nat.reduceAdd, Nat.reduceSub, Nat.reduceLeDiff, Nat.reduceLT, Int.reduceToNat, Int.reduceLE, Int.reduceLT, mens, men]) (by (simp only [EVA, ↓reduceIte, Nat.reduceEqDiff, Nat.reduceMul, reduceCtorEq, Nat.reduceAdd, Nat.reduceSub, Nat.reduceLeDiff, Nat.reduceLT, Int.reduceToNat, Int.reduceLE, Int.reduceLT, mens, men]) <;> rfl) (fun k hk => absurd hk (Nat.not_lt_zero k)) ?_
  intro j _ hj hA
  simp only [List.length_map, EVA, ↓reduceIte, Nat.reduceEqDiff, Nat.reduceMul, reduceCtorEq, Nat.reduceAdd, Nat.reduceSub, Nat.reduceLeDiff, Nat.reduceLT, Int.reduceToNat, Int.reduceLE, Int.reduceLT, mens, men]
  refine ite_of (fun hlt => ?_) (fun hge => ?_)
  · have hja : j < b.nodes[i].links.length := by omega
    have gl := rI_get hja
    simp only [gl, List.length_map, EVA, ↓reduceIte, Nat.reduceEqDiff, Nat.reduceMul, reduceCtorEq, Nat.reduceAdd, Nat.reduceSub, Nat.reduceLeDiff, Nat.reduceLT, Int.reduceToNat, Int.reduceLE, Int.reduceLT, mens, men]
    refine kca_intro (sem_l2Link b (g0 b.nodes[i].links j) he ho) ?_
    cases hc : dc (linkOK b (g0 b.nodes[i].links j))
    · simp only [EVA, ↓reduceIte, Nat.reduceEqDiff, Nat.reduceMul, reduceCtorEq, Nat.reduceAdd, Nat.reduceSub, Nat.reduceLeDiff, Nat.reduceLT, Int.reduceToNat, Int.reduceLE, Int.reduceLT, mens, men]
      rw [dc_false fun h : nodeOK sig b b.nodes[i] i => dc_not.1 hc (h.links _ (by simp [hja]))]
    · simp only [EVA, ↓reduceIte, Nat.reduceEqDiff, Nat.reduceMul, reduceCtorEq, Nat.reduceAdd, Nat.reduceSub, Nat.reduceLeDiff, Nat.reduceLT, Int.reduceToNat, Int.reduceLE, Int.reduceLT, mens, men]
      exact ⟨by rw [fits_i64]; omega, cntJ_intro () hja rfl (allN hA (dc_iff.1 hc))⟩
  · have hj1 : j = b.nodes[i].links.length := by omega
    subst hj1
    have : nodeOK sig b b.nodes[i] i := ⟨r1, dc_iff.1 h2, by rw [e]; omega, fun l hl => by
      obtain ⟨k, hk, rfl⟩ := List.getElem_of_mem hl
      have := hA k hk
      simpa [hk] using this⟩
    rw [dc_true this]

def inn (b : TBigraph) : List ByteArray := b.inner.map TWire.name

theorem rS_app (a b : List ByteArray) : rS (a ++ b) = rS a ++ rS b := List.map_append

theorem sem_l2Inner (b : TBigraph) (hn : b.inner.length ≤ 4294967296) (lvl : Nat) (S : Sto) : Sem Go.Proofs.Tryz.prog fid_spec_l2Inner lvl [.ag ((cBigraph b).map .tr)] S (.ow 1 (rS (inn b)) true) S := by
  refine sem_of_chk k_spec_l2Inner trivial ?_
  simp only [c_spec_l2Inner, List.length_map, cBigraph, EVA, ↓reduceIte, Nat.reduceEqDiff, Nat.reduceMul, reduceCtorEq, Nat.reduceAdd, Nat.reduceSub, Nat.reduceLeDiff, Nat.reduceLT, Int.reduceToNat, Int.reduceLE, Int.reduceLT, mens, men]
  refine wp_cnt (α := Unit) b.inner.length (fun j _ => [(3, .hd (lvl, 160) [] 0 j none j), (4, iI j)]) (fun j _ => [(160, .ar 1 (rS ((inn b).take j)) true j 0)]) (fun _ _ => True) () (by simp only [EVA, ↓reduceIte, Nat.reduceEqDiff, Nat.reduceMul, reduceCtorEq, Nat.reduceAdd, Nat.reduceSub, Nat.reduceLeDiff, Nat.reduceLT, Int.reduceToNat, Int.reduceLE, Int.reduceLT, mens, men]) (by (simp only [EVA, ↓reduceIte, Nat.reduceEqDiff, Nat.reduceMul, reduceCtorEq, Nat.reduceAdd, Nat.reduceSub, Nat.reduceLeDiff, Nat.reduceLT, Int.reduceToNat, Int.reduceLE, Int.reduceLT, mens, men]) <;> rfl) trivial ?_
  intro j _ hj _
  have hil : (inn b).length = b.inner.length := by simp [inn]
  simp only [List.length_map, EVA, ↓reduceIte, Nat.reduceEqDiff, Nat.reduceMul, reduceCtorEq, Nat.reduceAdd, Nat.reduceSub, Nat.reduceLeDiff, Nat.reduceLT, Int.reduceToNat, Int.reduceLE, Int.reduceLT, mens, men]
  refine ite_of (fun hlt => ?_) (fun hge => ?_)
  · have hja : j < b.inner.length := by omega
    have ga := getA (c := cWire) hja
    have hlN : (rS ((inn b).take j)).length = j := by rw [List.length_map, List.length_take]; omega
    simp only [ga, cWire, hlN, List.length_map, EVA, ↓reduceIte, Nat.reduceEqDiff, Nat.reduceMul, reduceCtorEq, Nat.reduceAdd, Nat.reduceSub, Nat.reduceLeDiff, Nat.reduceLT, Int.reduceToNat, Int.reduceLE, Int.reduceLT, mens, men]
    have hstep : rS ((inn b).take j) ++ [[ts b.inner[j].name]] = rS ((inn b).take (j + 1)) := by
      rw [List.take_succ_eq_append_getElem (by omega), rS_app]
      simp [inn]
    refine ⟨by omega, by rw [fits_i64]; omega, cntJ_intro () hja ?_ trivial⟩
    rw [← hstep]
    rfl
  · have : j = b.inner.length := by omega
    subst this
    rw [List.take_of_length_le (by omega)]
    exact ⟨hil.symm, rfl⟩
end Go.Fd

/-
  A VALID BIGRAPH: THE WHOLE, BOTH SIDES. Own work.
-/
namespace Go.Fd
set_option maxRecDepth 20000

theorem sem_innerNames (b : TBigraph) (hn : b.inner.length ≤ 4294967296) (lvl : Nat) (S : Sto) : Sem Go.Proofs.Tryz.prog fid_impl_Bigraph_innerNames lvl [.ag ((cBigraph b).map .tr)] S (.ow 1 (rS (inn b)) true) S := by
  refine sem_of_chk k_impl_Bigraph_innerNames trivial ?_
  simp only [c_impl_Bigraph_innerNames, List.length_map, cBigraph, EVA, ↓reduceIte, Nat.reduceEqDiff, Nat.reduceMul, reduceCtorEq, Nat.reduceAdd, Nat.reduceSub, Nat.reduceLeDiff, Nat.reduceLT, Int.reduceToNat, Int.reduceLE, Int.reduceLT, mens, men]
  refine wp_cnt (α := Unit) b.inner.length (fun j _ => [(3, .hd (lvl, 192) [] 0 j none j), (10, iI j)]) (fun j _ => [(192, .ar 1 (rS ((inn b).take j)) true j 0)]) (fun _ _ => True) () (by simp only [EVA, ↓reduceIte, Nat.reduceEqDiff, Nat.reduceMul, reduceCtorEq, Nat.reduceAdd, Nat.reduceSub, Nat.reduceLeDiff, Nat.reduceLT, Int.reduceToNat, Int.reduceLE, Int.reduceLT, mens, men]) (by (simp only [EVA, ↓reduceIte, Nat.reduceEqDiff, Nat.reduceMul, reduceCtorEq, Nat.reduceAdd, Nat.reduceSub, Nat.reduceLeDiff, Nat.reduceLT, Int.reduceToNat, Int.reduceLE, Int.reduceLT, mens, men]) <;> rfl) trivial ?_
  intro j _ hj _
  have hil : (inn b).length = b.inner.length := by simp [inn]
  simp only [List.length_map, EVA, ↓reduceIte, Nat.reduceEqDiff, Nat.reduceMul, reduceCtorEq, Nat.reduceAdd, Nat.reduceSub, Nat.reduceLeDiff, Nat.reduceLT, Int.reduceToNat, Int.reduceLE, Int.reduceLT, mens, men]
  refine ite_of (fun hlt => ?_) (fun hge => ?_)
  · have hja : j < b.inner.length := by omega
    have ga := getA (c := cWire) hja
    have hlN : (rS ((inn b).take j)).length = j := by rw [List.length_map, List.length_take]; omega
    simp only [ga, cWire, hlN, List.length_map, EVA, ↓reduceIte, Nat.reduceEqDiff, Nat.reduceMul, reduceCtorEq, Nat.reduceAdd, Nat.reduceSub, Nat.reduceLeDiff, Nat.reduceLT, Int.reduceToNat, Int.reduceLE, Int.reduceLT, mens, men]
    have hstep : rS ((inn b).take j) ++ [[ts b.inner[j].name]] = rS ((inn b).take (j + 1)) := by
      rw [List.take_succ_eq_append_getElem (by omega), rS_app]
      simp [inn]
    refine ⟨by omega, by rw [fits_i64]; omega, cntJ_intro () hja ?_ trivial⟩
    rw [← hstep]
    rfl
  · have : j = b.inner.length := by omega
    subst this
    rw [List.take_of_length_le (by omega)]
    exact ⟨hil.symm, rfl⟩

def nodeAt (sig : List TControl) (b : TBigraph) (i : Nat) : Prop := ∀ h : i < b.nodes.length, nodeOK sig b b.nodes[i] i

structure bigOK (sig : List TControl) (b : TBigraph) : Prop where
  sg : sigOK sig
  roots : 0 ≤ b.roots ∧ b.roots ≤ 4
  nodesL : b.nodes.length ≤ 8
  sitesL : b.sites.length ≤ 4
  edges : 0 ≤ b.edges ∧ b.edges ≤ 8
  outer : namesOK b.outer
  inn : namesOK (inn b)
  nodes : ∀ i, nodeAt sig b i
  sites : ∀ p ∈ b.sites, under sig b p b.nodes.length
  inner : ∀ w ∈ b.inner, linkOK b w.link

theorem ctls_of {sig : List TControl} {b : TBigraph} {j : Nat} (h : ∀ k, k < j → nodeAt sig b k) : ctlsOK sig b j := fun i hi hl => (h i hi hl).ctl

theorem inn_len {b : TBigraph} : (inn b).length = b.inner.length := by simp [inn]

theorem inn_mem {b : TBigraph} {n : Nat} (h : ∀ y ∈ b.inner, bdWire n y) : ∀ y ∈ inn b, y.size ≤ n := fun y hy => by
  obtain ⟨w, hw, rfl⟩ := List.mem_map.1 hy
  exact h w hw

theorem sem_l2Good (sig : List TControl) (b : TBigraph) (hn : sig.length ≤ 4294967296) (hbs : ∀ y ∈ sig, bdControl 4294967296 y) (hb : bdBigraph 4294967296 b) (hf : ftBigraph b) (lvl : Nat) (S : Sto) : Sem Go.Proofs.Tryz.prog fid_spec_l2Good lvl [.tr (.sl (sig.map cControl)), .ag ((cBigraph b).map .tr)] S (iB (dc (bigOK sig b))) S := by
  obtain ⟨b1, b2, b3, b4, b5, b6, b7⟩ := hb
  obtain ⟨f1, f2, f3, f4, f5⟩ := hf
  refine sem_of_chk k_spec_l2Good trivial ?_
  simp only [c_spec_l2Good, List.length_map, cBigraph, EVA, ↓reduceIte, Nat.reduceEqDiff, Nat.reduceMul, reduceCtorEq, Nat.reduceAdd, Nat.reduceSub, Nat.reduceLeDiff, Nat.reduceLT, Int.reduceToNat, Int.reduceLE, Int.reduceLT, mens, men]
  refine kca_intro (sem_l2Sig sig (by omega) (fun y hy => monoControl (hbs y hy))) ?_
  cases h1 : dc (sigOK sig)
  · simp only [EVA, ↓reduceIte, Nat.reduceEqDiff, Nat.reduceMul, reduceCtorEq, Nat.reduceAdd, Nat.reduceSub, Nat.reduceLeDiff, Nat.reduceLT, Int.reduceToNat, Int.reduceLE, Int.reduceLT, mens, men]
    rw [dc_false fun h : bigOK sig b => dc_not.1 h1 h.sg]
  simp only [List.length_map, cBigraph, EVA, ↓reduceIte, Nat.reduceEqDiff, Nat.reduceMul, reduceCtorEq, Nat.reduceAdd, Nat.reduceSub, Nat.reduceLeDiff, Nat.reduceLT, Int.reduceToNat, Int.reduceLE, Int.reduceLT, mens, men]
  refine kca_intro (sem_l1In b.roots 0 4) ?_
  cases h2 : inB b.roots 0 4
  · simp only [EVA, ↓reduceIte, Nat.reduceEqDiff, Nat.reduceMul, reduceCtorEq, Nat.reduceAdd, Nat.reduceSub, Nat.reduceLeDiff, Nat.reduceLT, Int.reduceToNat, Int.reduceLE, Int.reduceLT, mens, men]
    rw [dc_false fun h : bigOK sig b => inB_not.1 h2 h.roots]
  by_cases h3 : (8 : Int) < b.nodes.length
  · simp only [h3, List.length_map, cBigraph, EVA, ↓reduceIte, Nat.reduceEqDiff, Nat.reduceMul, reduceCtorEq, Nat.reduceAdd, Nat.reduceSub, Nat.reduceLeDiff, Nat.reduceLT, Int.reduceToNat, Int.reduceLE, Int.reduceLT, mens, men]
    rw [dc_false fun h : bigOK sig b => by have := h.nodesL; omega]
  by_cases h4 : (4 : Int) < b.sites.length
  · simp only [h3, h4, List.length_map, cBigraph, EVA, ↓reduceIte, Nat.reduceEqDiff, Nat.reduceMul, reduceCtorEq, Nat.reduceAdd, Nat.reduceSub, Nat.reduceLeDiff, Nat.reduceLT, Int.reduceToNat, Int.reduceLE, Int.reduceLT, mens, men]
    rw [dc_false fun h : bigOK sig b => by have := h.sitesL; omega]
  simp only [h3, h4, List.length_map, cBigraph, EVA, ↓reduceIte, Nat.reduceEqDiff, Nat.reduceMul, reduceCtorEq, Nat.reduceAdd, Nat.reduceSub, Nat.reduceLeDiff, Nat.reduceLT, Int.reduceToNat, Int.reduceLE, Int.reduceLT, mens, men]
  refine kca_intro (sem_l1In b.edges 0 8) ?_
  cases h5 : inB b.edges 0 8
  · simp only [EVA, ↓reduceIte, Nat.reduceEqDiff, Nat.reduceMul, reduceCtorEq, Nat.reduceAdd, Nat.reduceSub, Nat.reduceLeDiff, Nat.reduceLT, Int.reduceToNat, Int.reduceLE, Int.reduceLT, mens, men]
    rw [dc_false fun h : bigOK sig b => inB_not.1 h5 h.edges]
  have r2 := inB_iff.1 h2
  have r5 := inB_iff.1 h5
  simp only [List.length_map, cBigraph, EVA, ↓reduceIte, Nat.reduceEqDiff, Nat.reduceMul, reduceCtorEq, Nat.reduceAdd, Nat.reduceSub, Nat.reduceLeDiff, Nat.reduceLT, Int.reduceToNat, Int.reduceLE, Int.reduceLT, mens, men]
  refine kca_intro (sem_l2Names b.outer (by assumption) (by assumption)) ?_
  cases h6 : dc (namesOK b.outer)
  · simp only [EVA, ↓reduceIte, Nat.reduceEqDiff, Nat.reduceMul, reduceCtorEq, Nat.reduceAdd, Nat.reduceSub, Nat.reduceLeDiff, Nat.reduceLT, Int.reduceToNat, Int.reduceLE, Int.reduceLT, mens, men]
    rw [dc_false fun h : bigOK sig b => dc_not.1 h6 h.outer]
  by_cases h7 : (16 : Int) < b.inner.length
  · simp only [h7, List.length_map, cBigraph, EVA, ↓reduceIte, Nat.reduceEqDiff, Nat.reduceMul, reduceCtorEq, Nat.reduceAdd, Nat.reduceSub, Nat.reduceLeDiff, Nat.reduceLT, Int.reduceToNat, Int.reduceLE, Int.reduceLT, mens, men]
    rw [dc_false fun h : bigOK sig b => by have := h.inn.2; rw [inn_len] at this; omega]
  simp only [h7, List.length_map, cBigraph, EVA, ↓reduceIte, Nat.reduceEqDiff, Nat.reduceMul, reduceCtorEq, Nat.reduceAdd, Nat.reduceSub, Nat.reduceLeDiff, Nat.reduceLT, Int.reduceToNat, Int.reduceLE, Int.reduceLT, mens, men]
  refine kca_intro (sem_l2Inner b (by omega)) ?_
  simp only [List.length_map, cBigraph, EVA, ↓reduceIte, Nat.reduceEqDiff, Nat.reduceMul, reduceCtorEq, Nat.reduceAdd, Nat.reduceSub, Nat.reduceLeDiff, Nat.reduceLT, Int.reduceToNat, Int.reduceLE, Int.reduceLT, mens, men]
  refine kca_intro (sem_l2Names (inn b) (by rw [inn_len]; omega) (inn_mem (by assumption))) ?_
  cases h8 : dc (namesOK (inn b))
  · simp only [EVA, ↓reduceIte, Nat.reduceEqDiff, Nat.reduceMul, reduceCtorEq, Nat.reduceAdd, Nat.reduceSub, Nat.reduceLeDiff, Nat.reduceLT, Int.reduceToNat, Int.reduceLE, Int.reduceLT, mens, men]
    rw [dc_false fun h : bigOK sig b => dc_not.1 h8 h.inn]
  simp only [List.length_map, cBigraph, EVA, ↓reduceIte, Nat.reduceEqDiff, Nat.reduceMul, reduceCtorEq, Nat.reduceAdd, Nat.reduceSub, Nat.reduceLeDiff, Nat.reduceLT, Int.reduceToNat, Int.reduceLE, Int.reduceLT, mens, men]
  have ho := (dc_iff.1 h6).2
  refine wp_cnt (α := Unit) b.nodes.length (fun j _ => [(5, iI j)]) (fun j _ => []) (fun j _ => ∀ k, k < j → nodeAt sig b k) () (by simp only [EVA, ↓reduceIte, Nat.reduceEqDiff, Nat.reduceMul, reduceCtorEq, Nat.reduceAdd, Nat.reduceSub, Nat.reduceLeDiff, Nat.reduceLT, Int.reduceToNat, Int.reduceLE, Int.reduceLT, mens, men]) (by (simp only [EVA, ↓reduceIte, Nat.reduceEqDiff, Nat.reduceMul, reduceCtorEq, Nat.reduceAdd, Nat.reduceSub, Nat.reduceLeDiff, Nat.reduceLT, Int.reduceToNat, Int.reduceLE, Int.reduceLT, mens, men]) <;> rfl) (fun k hk => absurd hk (Nat.not_lt_zero k)) ?_
  intro j _ hj hA
  simp only [List.length_map, cBigraph, EVA, ↓reduceIte, Nat.reduceEqDiff, Nat.reduceMul, reduceCtorEq, Nat.reduceAdd, Nat.reduceSub, Nat.reduceLeDiff, Nat.reduceLT, Int.reduceToNat, Int.reduceLE, Int.reduceLT, mens, men]
  refine ite_of (fun hlt => ?_) (fun hge => ?_)
  · have hja : j < b.nodes.length := by omega
    have hm := List.getElem_mem hja
    refine kca_intro (sem_l2Node sig b j hja hn (by first | exact (b2 _ hm) | exact (b3 _ hm)) (by first | exact (f1 _ hm).2.1 | exact (f2 _ hm).2.1) r2 r5 (by omega) (ctls_of hA)) ?_
    cases hc : dc (nodeOK sig b b.nodes[j] j)
    · simp only [EVA, ↓reduceIte, Nat.reduceEqDiff, Nat.reduceMul, reduceCtorEq, Nat.reduceAdd, Nat.reduceSub, Nat.reduceLeDiff, Nat.reduceLT, Int.reduceToNat, Int.reduceLE, Int.reduceLT, mens, men]
      rw [dc_false fun h : bigOK sig b => dc_not.1 hc (h.nodes j hja)]
    · simp only [EVA, ↓reduceIte, Nat.reduceEqDiff, Nat.reduceMul, reduceCtorEq, Nat.reduceAdd, Nat.reduceSub, Nat.reduceLeDiff, Nat.reduceLT, Int.reduceToNat, Int.reduceLE, Int.reduceLT, mens, men]
      exact ⟨by rw [fits_i64]; omega, cntJ_intro () hja rfl (allN hA fun _ => dc_iff.1 hc)⟩
  have hj1 : j = b.nodes.length := by omega
  subst hj1
  refine wp_cnt (α := Unit) b.sites.length (fun j _ => [(6, iI j)]) (fun j _ => []) (fun j _ => ∀ k, k < j → under sig b (g0 b.sites k) b.nodes.length) () (by simp only [EVA, ↓reduceIte, Nat.reduceEqDiff, Nat.reduceMul, reduceCtorEq, Nat.reduceAdd, Nat.reduceSub, Nat.reduceLeDiff, Nat.reduceLT, Int.reduceToNat, Int.reduceLE, Int.reduceLT, mens, men]) (by (simp only [EVA, ↓reduceIte, Nat.reduceEqDiff, Nat.reduceMul, reduceCtorEq, Nat.reduceAdd, Nat.reduceSub, Nat.reduceLeDiff, Nat.reduceLT, Int.reduceToNat, Int.reduceLE, Int.reduceLT, mens, men]) <;> rfl) (fun k hk => absurd hk (Nat.not_lt_zero k)) ?_
  intro j _ hj hB
  simp only [List.length_map, cBigraph, EVA, ↓reduceIte, Nat.reduceEqDiff, Nat.reduceMul, reduceCtorEq, Nat.reduceAdd, Nat.reduceSub, Nat.reduceLeDiff, Nat.reduceLT, Int.reduceToNat, Int.reduceLE, Int.reduceLT, mens, men]
  refine ite_of (fun hlt => ?_) (fun hge => ?_)
  · have hja : j < b.sites.length := by omega
    have ga := rI_get hja
    have hg : g0 b.sites j ∈ b.sites := by simp [hja]
    simp only [ga, List.length_map, cBigraph, EVA, ↓reduceIte, Nat.reduceEqDiff, Nat.reduceMul, reduceCtorEq, Nat.reduceAdd, Nat.reduceSub, Nat.reduceLeDiff, Nat.reduceLT, Int.reduceToNat, Int.reduceLE, Int.reduceLT, mens, men]
    refine kca_intro (sem_l2Under sig b (g0 b.sites j) b.nodes.length (by first | exact f3 _ hg | exact f2 _ hg | exact f4 _ hg) r2 (Nat.le_refl _) (ctls_of hA)) ?_
    cases hc : dc (under sig b (g0 b.sites j) b.nodes.length)
    · simp only [EVA, ↓reduceIte, Nat.reduceEqDiff, Nat.reduceMul, reduceCtorEq, Nat.reduceAdd, Nat.reduceSub, Nat.reduceLeDiff, Nat.reduceLT, Int.reduceToNat, Int.reduceLE, Int.reduceLT, mens, men]
      rw [dc_false fun h : bigOK sig b => dc_not.1 hc (h.sites _ hg)]
    · simp only [EVA, ↓reduceIte, Nat.reduceEqDiff, Nat.reduceMul, reduceCtorEq, Nat.reduceAdd, Nat.reduceSub, Nat.reduceLeDiff, Nat.reduceLT, Int.reduceToNat, Int.reduceLE, Int.reduceLT, mens, men]
      exact ⟨by rw [fits_i64]; omega, cntJ_intro () hja rfl (allN hB (dc_iff.1 hc))⟩
  have hj1 : j = b.sites.length := by omega
  subst hj1
  refine wp_cnt (α := Unit) b.inner.length (fun j _ => [(7, iI j)]) (fun j _ => []) (fun j _ => ∀ k, k < j → ∀ h : k < b.inner.length, linkOK b b.inner[k].link) () (by simp only [EVA, ↓reduceIte, Nat.reduceEqDiff, Nat.reduceMul, reduceCtorEq, Nat.reduceAdd, Nat.reduceSub, Nat.reduceLeDiff, Nat.reduceLT, Int.reduceToNat, Int.reduceLE, Int.reduceLT, mens, men]) (by (simp only [EVA, ↓reduceIte, Nat.reduceEqDiff, Nat.reduceMul, reduceCtorEq, Nat.reduceAdd, Nat.reduceSub, Nat.reduceLeDiff, Nat.reduceLT, Int.reduceToNat, Int.reduceLE, Int.reduceLT, mens, men]) <;> rfl) (fun k hk => absurd hk (Nat.not_lt_zero k)) ?_
  intro j _ hj hC
  simp only [List.length_map, cBigraph, EVA, ↓reduceIte, Nat.reduceEqDiff, Nat.reduceMul, reduceCtorEq, Nat.reduceAdd, Nat.reduceSub, Nat.reduceLeDiff, Nat.reduceLT, Int.reduceToNat, Int.reduceLE, Int.reduceLT, mens, men]
  refine ite_of (fun hlt => ?_) (fun hge => ?_)
  · have hja : j < b.inner.length := by omega
    have ga := getA (c := cWire) hja
    simp only [ga, cWire, List.length_map, cBigraph, EVA, ↓reduceIte, Nat.reduceEqDiff, Nat.reduceMul, reduceCtorEq, Nat.reduceAdd, Nat.reduceSub, Nat.reduceLeDiff, Nat.reduceLT, Int.reduceToNat, Int.reduceLE, Int.reduceLT, mens, men]
    refine kca_intro (sem_l2Link b b.inner[j].link r5 (by omega)) ?_
    cases hc : dc (linkOK b b.inner[j].link)
    · simp only [EVA, ↓reduceIte, Nat.reduceEqDiff, Nat.reduceMul, reduceCtorEq, Nat.reduceAdd, Nat.reduceSub, Nat.reduceLeDiff, Nat.reduceLT, Int.reduceToNat, Int.reduceLE, Int.reduceLT, mens, men]
      rw [dc_false fun h : bigOK sig b => dc_not.1 hc (h.inner _ (List.getElem_mem hja))]
    · simp only [EVA, ↓reduceIte, Nat.reduceEqDiff, Nat.reduceMul, reduceCtorEq, Nat.reduceAdd, Nat.reduceSub, Nat.reduceLeDiff, Nat.reduceLT, Int.reduceToNat, Int.reduceLE, Int.reduceLT, mens, men]
      exact ⟨by rw [fits_i64]; omega, cntJ_intro () hja rfl (allN hC fun _ => dc_iff.1 hc)⟩
  have hj1 : j = b.inner.length := by omega
  subst hj1
  have : bigOK sig b := ⟨dc_iff.1 h1, r2, by omega, by omega, r5, dc_iff.1 h6, dc_iff.1 h8, fun i h => hA i h h, fun p hp => by
    obtain ⟨k, hk, rfl⟩ := List.getElem_of_mem hp
    have := hB k hk
    simpa [hk] using this, fun w hw => by
    obtain ⟨k, hk, rfl⟩ := List.getElem_of_mem hw
    exact hC k hk hk⟩
  rw [dc_true this]

theorem sem_IsBigraph_1 (l : Int) (b : TBigraph) (he : 0 ≤ b.edges ∧ b.edges ≤ 8) (ho : b.outer.length ≤ 4294967296) (lvl : Nat) (S : Sto) : Sem Go.Proofs.Tryz.prog fid_impl_IsBigraph_1 lvl [iI l, .ta (cBigraph b)] S (iB (!dc (linkOK b l))) S := by
  refine sem_of_chk k_impl_IsBigraph_1 trivial ?_
  simp only [c_impl_IsBigraph_1, cBigraph, EVA, ↓reduceIte, Nat.reduceEqDiff, Nat.reduceMul, reduceCtorEq, Nat.reduceAdd, Nat.reduceSub, Nat.reduceLeDiff, Nat.reduceLT, Int.reduceToNat, Int.reduceLE, Int.reduceLT, mens, men]
  refine kca_intro (sem_isLink b l he ho) ?_
  simp only [EVA, ↓reduceIte, Nat.reduceEqDiff, Nat.reduceMul, reduceCtorEq, Nat.reduceAdd, Nat.reduceSub, Nat.reduceLeDiff, Nat.reduceLT, Int.reduceToNat, Int.reduceLE, Int.reduceLT, mens, men]

theorem sem_IsBigraph_2 (p : Int) (sig : List TControl) (b : TBigraph) (hr : 0 ≤ b.roots ∧ b.roots ≤ 4) (hc : ctlsOK sig b b.nodes.length) (lvl : Nat) (S : Sto) : Sem Go.Proofs.Tryz.prog fid_impl_IsBigraph_2 lvl [iI p, .ta (cBigraph b), .ta [Tr.sl (sig.map cControl)]] S (iB (!dc (under sig b p b.nodes.length))) S := by
  refine sem_of_chk k_impl_IsBigraph_2 trivial ?_
  simp only [c_impl_IsBigraph_2, cBigraph, List.length_map, EVA, ↓reduceIte, Nat.reduceEqDiff, Nat.reduceMul, reduceCtorEq, Nat.reduceAdd, Nat.reduceSub, Nat.reduceLeDiff, Nat.reduceLT, Int.reduceToNat, Int.reduceLE, Int.reduceLT, mens, men]
  refine kca_intro (sem_isParent sig b p b.nodes.length hr (Nat.le_refl _) hc) ?_
  simp only [EVA, ↓reduceIte, Nat.reduceEqDiff, Nat.reduceMul, reduceCtorEq, Nat.reduceAdd, Nat.reduceSub, Nat.reduceLeDiff, Nat.reduceLT, Int.reduceToNat, Int.reduceLE, Int.reduceLT, mens, men]

theorem sem_IsBigraph_3 (w : TWire) (b : TBigraph) (he : 0 ≤ b.edges ∧ b.edges ≤ 8) (ho : b.outer.length ≤ 4294967296) (lvl : Nat) (S : Sto) : Sem Go.Proofs.Tryz.prog fid_impl_IsBigraph_3 lvl [.ag ((cWire w).map .tr), .ta (cBigraph b)] S (iB (!dc (linkOK b w.link))) S := by
  refine sem_of_chk k_impl_IsBigraph_3 trivial ?_
  simp only [c_impl_IsBigraph_3, cBigraph, cWire, EVA, ↓reduceIte, Nat.reduceEqDiff, Nat.reduceMul, reduceCtorEq, Nat.reduceAdd, Nat.reduceSub, Nat.reduceLeDiff, Nat.reduceLT, Int.reduceToNat, Int.reduceLE, Int.reduceLT, mens, men]
  refine kca_intro (sem_isLink b w.link he ho) ?_
  simp only [EVA, ↓reduceIte, Nat.reduceEqDiff, Nat.reduceMul, reduceCtorEq, Nat.reduceAdd, Nat.reduceSub, Nat.reduceLeDiff, Nat.reduceLT, Int.reduceToNat, Int.reduceLE, Int.reduceLT, mens, men]

theorem g_ixFW : chkF Go.Proofs.Tryz.prog fid_slices_IndexFunc_impl_Wire_impl_Wire (gIxF 2 (some 2)) = true := by kernel_rfl
theorem g_coFW : chkF Go.Proofs.Tryz.prog fid_slices_ContainsFunc_impl_Wire_impl_Wire (gCoF fid_slices_IndexFunc_impl_Wire_impl_Wire) = true := by kernel_rfl

theorem any_no {α : Type} {l : List α} {p : α → Prop} : (l.any fun n => !dc (p n)) = false ↔ ∀ n ∈ l, p n := by
  simp only [List.any_eq_false, Bool.not_eq_true', Bool.not_eq_false, dc_iff]

theorem sem_impl_IsBigraph (sig : List TControl) (b : TBigraph) (hn : sig.length ≤ 4294967296) (hbs : ∀ y ∈ sig, bdControl 4294967296 y) (hb : bdBigraph 4294967296 b) (lvl : Nat) (S : Sto) : Sem Go.Proofs.Tryz.prog fid_impl_IsBigraph lvl [.tr (.sl (sig.map cControl)), .ag ((cBigraph b).map .tr)] S (iB (dc (bigOK sig b))) S := by
  obtain ⟨b1, b2, b3, b4, b5, b6, b7⟩ := hb
  refine sem_of_chk k_impl_IsBigraph trivial ?_
  simp only [c_impl_IsBigraph, List.length_map, cBigraph, EVA, ↓reduceIte, Nat.reduceEqDiff, Nat.reduceMul, reduceCtorEq, Nat.reduceAdd, Nat.reduceSub, Nat.reduceLeDiff, Nat.reduceLT, Int.reduceToNat, Int.reduceLE, Int.reduceLT, mens, men]
  refine kca_intro (sem_impl_IsSignature sig (by omega) (fun y hy => monoControl (hbs y hy))) ?_
  cases h1 : dc (sigOK sig)
  · simp only [EVA, ↓reduceIte, Nat.reduceEqDiff, Nat.reduceMul, reduceCtorEq, Nat.reduceAdd, Nat.reduceSub, Nat.reduceLeDiff, Nat.reduceLT, Int.reduceToNat, Int.reduceLE, Int.reduceLT, mens, men]
    rw [dc_false fun h : bigOK sig b => dc_not.1 h1 h.sg]
  simp only [List.length_map, cBigraph, EVA, ↓reduceIte, Nat.reduceEqDiff, Nat.reduceMul, reduceCtorEq, Nat.reduceAdd, Nat.reduceSub, Nat.reduceLeDiff, Nat.reduceLT, Int.reduceToNat, Int.reduceLE, Int.reduceLT, mens, men]
  refine kca_intro (sem_within b.roots 0 4) ?_
  cases h2 : inB b.roots 0 4
  · simp only [EVA, ↓reduceIte, Nat.reduceEqDiff, Nat.reduceMul, reduceCtorEq, Nat.reduceAdd, Nat.reduceSub, Nat.reduceLeDiff, Nat.reduceLT, Int.reduceToNat, Int.reduceLE, Int.reduceLT, mens, men]
    rw [dc_false fun h : bigOK sig b => inB_not.1 h2 h.roots]
  by_cases h3 : (8 : Int) < b.nodes.length
  · simp only [h3, List.length_map, cBigraph, EVA, ↓reduceIte, Nat.reduceEqDiff, Nat.reduceMul, reduceCtorEq, Nat.reduceAdd, Nat.reduceSub, Nat.reduceLeDiff, Nat.reduceLT, Int.reduceToNat, Int.reduceLE, Int.reduceLT, mens, men]
    rw [dc_false fun h : bigOK sig b => by have := h.nodesL; omega]
  by_cases h4 : (4 : Int) < b.sites.length
  · simp only [h3, h4, List.length_map, cBigraph, EVA, ↓reduceIte, Nat.reduceEqDiff, Nat.reduceMul, reduceCtorEq, Nat.reduceAdd, Nat.reduceSub, Nat.reduceLeDiff, Nat.reduceLT, Int.reduceToNat, Int.reduceLE, Int.reduceLT, mens, men]
    rw [dc_false fun h : bigOK sig b => by have := h.sitesL; omega]
  simp only [h3, h4, List.length_map, cBigraph, EVA, ↓reduceIte, Nat.reduceEqDiff, Nat.reduceMul, reduceCtorEq, Nat.reduceAdd, Nat.reduceSub, Nat.reduceLeDiff, Nat.reduceLT, Int.reduceToNat, Int.reduceLE, Int.reduceLT, mens, men]
  refine kca_intro (sem_within b.edges 0 8) ?_
  cases h5 : inB b.edges 0 8
  · simp only [EVA, ↓reduceIte, Nat.reduceEqDiff, Nat.reduceMul, reduceCtorEq, Nat.reduceAdd, Nat.reduceSub, Nat.reduceLeDiff, Nat.reduceLT, Int.reduceToNat, Int.reduceLE, Int.reduceLT, mens, men]
    rw [dc_false fun h : bigOK sig b => inB_not.1 h5 h.edges]
  have r2 := inB_iff.1 h2
  have r5 := inB_iff.1 h5
  simp only [List.length_map, cBigraph, EVA, ↓reduceIte, Nat.reduceEqDiff, Nat.reduceMul, reduceCtorEq, Nat.reduceAdd, Nat.reduceSub, Nat.reduceLeDiff, Nat.reduceLT, Int.reduceToNat, Int.reduceLE, Int.reduceLT, mens, men]
  refine kca_intro (sem_areNames b.outer (by assumption) (by assumption)) ?_
  cases h6 : dc (namesOK b.outer)
  · simp only [EVA, ↓reduceIte, Nat.reduceEqDiff, Nat.reduceMul, reduceCtorEq, Nat.reduceAdd, Nat.reduceSub, Nat.reduceLeDiff, Nat.reduceLT, Int.reduceToNat, Int.reduceLE, Int.reduceLT, mens, men]
    rw [dc_false fun h : bigOK sig b => dc_not.1 h6 h.outer]
  simp only [List.length_map, cBigraph, EVA, ↓reduceIte, Nat.reduceEqDiff, Nat.reduceMul, reduceCtorEq, Nat.reduceAdd, Nat.reduceSub, Nat.reduceLeDiff, Nat.reduceLT, Int.reduceToNat, Int.reduceLE, Int.reduceLT, mens, men]
  refine kca_intro (sem_innerNames b (by omega)) ?_
  simp only [List.length_map, cBigraph, EVA, ↓reduceIte, Nat.reduceEqDiff, Nat.reduceMul, reduceCtorEq, Nat.reduceAdd, Nat.reduceSub, Nat.reduceLeDiff, Nat.reduceLT, Int.reduceToNat, Int.reduceLE, Int.reduceLT, mens, men]
  refine kca_intro (sem_areNames (inn b) (by rw [inn_len]; omega) (inn_mem (by assumption))) ?_
  cases h8 : dc (namesOK (inn b))
  · simp only [EVA, ↓reduceIte, Nat.reduceEqDiff, Nat.reduceMul, reduceCtorEq, Nat.reduceAdd, Nat.reduceSub, Nat.reduceLeDiff, Nat.reduceLT, Int.reduceToNat, Int.reduceLE, Int.reduceLT, mens, men]
    rw [dc_false fun h : bigOK sig b => dc_not.1 h8 h.inn]
  simp only [List.length_map, cBigraph, EVA, ↓reduceIte, Nat.reduceEqDiff, Nat.reduceMul, reduceCtorEq, Nat.reduceAdd, Nat.reduceSub, Nat.reduceLeDiff, Nat.reduceLT, Int.reduceToNat, Int.reduceLE, Int.reduceLT, mens, men]
  have ho := (dc_iff.1 h6).2
  refine wp_cnt (α := Unit) b.nodes.length (fun j _ => [(49, iI j)]) (fun j _ => []) (fun j _ => ∀ k, k < j → nodeAt sig b k) () (by simp only [EVA, ↓reduceIte, Nat.reduceEqDiff, Nat.reduceMul, reduceCtorEq, Nat.reduceAdd, Nat.reduceSub, Nat.reduceLeDiff, Nat.reduceLT, Int.reduceToNat, Int.reduceLE, Int.reduceLT, mens, men]) (by (simp only [EVA, ↓reduceIte, Nat.reduceEqDiff, Nat.reduceMul, reduceCtorEq, Nat.reduceAdd, Nat.reduceSub, Nat.reduceLeDiff, Nat.reduceLT, Int.reduceToNat, Int.reduceLE, Int.reduceLT, mens, men]) <;> rfl) (fun k hk => absurd hk (Nat.not_lt_zero k)) ?_
  intro j _ hj hA
  simp only [List.length_map, cBigraph, EVA, ↓reduceIte, Nat.reduceEqDiff, Nat.reduceMul, reduceCtorEq, Nat.reduceAdd, Nat.reduceSub, Nat.reduceLeDiff, Nat.reduceLT, Int.reduceToNat, Int.reduceLE, Int.reduceLT, mens, men]
  refine ite_of (fun hlt => ?_) (fun hge => ?_)
  · have hja : j < b.nodes.length := by omega
    have hm := List.getElem_mem hja
    have ga := getA (c := cNode) hja
    have hll : b.nodes[j].links.length ≤ 4294967296 := by first | exact (b2 _ hm) | exact (b3 _ hm)
    have hno : ¬ nodeOK sig b b.nodes[j] j → dc (bigOK sig b) = false := fun h => dc_false fun g => h (g.nodes j hja)
    simp only [ga, cNode, List.length_map, cBigraph, EVA, ↓reduceIte, Nat.reduceEqDiff, Nat.reduceMul, reduceCtorEq, Nat.reduceAdd, Nat.reduceSub, Nat.reduceLeDiff, Nat.reduceLT, Int.reduceToNat, Int.reduceLE, Int.reduceLT, mens, men]
    refine ⟨by rw [fits_i64]; omega, ?_⟩
    refine kca_intro (sem_within b.nodes[j].control 0 ((sig.length : Int) - 1)) ?_
    cases p1 : inB b.nodes[j].control 0 ((sig.length : Int) - 1)
    · simp only [EVA, ↓reduceIte, Nat.reduceEqDiff, Nat.reduceMul, reduceCtorEq, Nat.reduceAdd, Nat.reduceSub, Nat.reduceLeDiff, Nat.reduceLT, Int.reduceToNat, Int.reduceLE, Int.reduceLT, mens, men]
      rw [hno fun h => inB_not.1 p1 h.ctl]
    have q1 := inB_iff.1 p1
    simp only [cNode, List.length_map, cBigraph, EVA, ↓reduceIte, Nat.reduceEqDiff, Nat.reduceMul, reduceCtorEq, Nat.reduceAdd, Nat.reduceSub, Nat.reduceLeDiff, Nat.reduceLT, Int.reduceToNat, Int.reduceLE, Int.reduceLT, mens, men]
    refine kca_intro (sem_isParent sig b b.nodes[j].parent j r2 (by omega) (ctls_of hA)) ?_
    cases p2 : dc (under sig b b.nodes[j].parent j)
    · simp only [EVA, ↓reduceIte, Nat.reduceEqDiff, Nat.reduceMul, reduceCtorEq, Nat.reduceAdd, Nat.reduceSub, Nat.reduceLeDiff, Nat.reduceLT, Int.reduceToNat, Int.reduceLE, Int.reduceLT, mens, men]
      rw [hno fun h => dc_not.1 p2 h.par]
    obtain ⟨m, hmm⟩ : ∃ m : Nat, b.nodes[j].control = m := ⟨b.nodes[j].control.toNat, by omega⟩
    have hms : m < sig.length := by omega
    have gs := getA (c := cControl) hms
    have e : portsAt sig b.nodes[j].control = sig[m].ports := by simp [portsAt, hmm, hms]
    by_cases p3 : (b.nodes[j].links.length : Int) = sig[m].ports
    case neg =>
      simp only [p3, hmm, gs, Int.toNat_natCast, Int.natCast_nonneg, cControl, cNode, List.length_map, cBigraph, EVA, ↓reduceIte, Nat.reduceEqDiff, Nat.reduceMul, reduceCtorEq, Nat.reduceAdd, Nat.reduceSub, Nat.reduceLeDiff, Nat.reduceLT, Int.reduceToNat, Int.reduceLE, Int.reduceLT, mens, men]
      rw [hno fun h => p3 (by rw [← e]; exact h.ports)]
    simp only [p3, hmm, gs, Int.toNat_natCast, Int.natCast_nonneg, cControl, cNode, List.length_map, cBigraph, EVA, ↓reduceIte, Nat.reduceEqDiff, Nat.reduceMul, reduceCtorEq, Nat.reduceAdd, Nat.reduceSub, Nat.reduceLeDiff, Nat.reduceLT, Int.reduceToNat, Int.reduceLE, Int.reduceLT, mens, men]
    refine kca_intro (sem_coF1 (t := tv) (cs := [cBigraph b]) g_coFI g_ixFI b.nodes[j].links (by omega) (fun x _ lvl S => sem_IsBigraph_1 x b r5 (by omega) lvl S)) ?_
    cases p4 : b.nodes[j].links.any fun l => !dc (linkOK b l)
    · simp only [EVA, ↓reduceIte, Nat.reduceEqDiff, Nat.reduceMul, reduceCtorEq, Nat.reduceAdd, Nat.reduceSub, Nat.reduceLeDiff, Nat.reduceLT, Int.reduceToNat, Int.reduceLE, Int.reduceLT, mens, men]
      exact ⟨by rw [fits_i64]; omega, cntJ_intro () hja rfl (allN hA fun _ => ⟨q1, dc_iff.1 p2, by rw [e]; exact p3, any_no.1 p4⟩)⟩
    · simp only [EVA, ↓reduceIte, Nat.reduceEqDiff, Nat.reduceMul, reduceCtorEq, Nat.reduceAdd, Nat.reduceSub, Nat.reduceLeDiff, Nat.reduceLT, Int.reduceToNat, Int.reduceLE, Int.reduceLT, mens, men]
      rw [hno fun h => by rw [any_no.2 h.links] at p4; cases p4]
  have hj1 : j = b.nodes.length := by omega
  subst hj1
  refine kca_intro (sem_coF1 (t := tv) (cs := [cBigraph b, [Tr.sl (sig.map cControl)]]) g_coFI g_ixFI b.sites (by omega) (fun x _ lvl S => sem_IsBigraph_2 x sig b r2 (ctls_of hA) lvl S)) ?_
  cases h9 : b.sites.any fun p => !dc (under sig b p b.nodes.length)
  case true =>
    simp only [EVA, ↓reduceIte, Nat.reduceEqDiff, Nat.reduceMul, reduceCtorEq, Nat.reduceAdd, Nat.reduceSub, Nat.reduceLeDiff, Nat.reduceLT, Int.reduceToNat, Int.reduceLE, Int.reduceLT, mens, men]
    rw [dc_false fun h : bigOK sig b => by rw [any_no.2 h.sites] at h9; cases h9]
  simp only [List.length_map, cBigraph, EVA, ↓reduceIte, Nat.reduceEqDiff, Nat.reduceMul, reduceCtorEq, Nat.reduceAdd, Nat.reduceSub, Nat.reduceLeDiff, Nat.reduceLT, Int.reduceToNat, Int.reduceLE, Int.reduceLT, mens, men]
  refine kca_intro (sem_coFk (cs := [cBigraph b]) g_coFW g_ixFW (fun x => rfl) b.inner (by omega) (fun x _ lvl S => sem_IsBigraph_3 x b r5 (by omega) lvl S)) ?_
  cases h10 : b.inner.any fun w => !dc (linkOK b w.link)
  case true =>
    simp only [EVA, ↓reduceIte, Nat.reduceEqDiff, Nat.reduceMul, reduceCtorEq, Nat.reduceAdd, Nat.reduceSub, Nat.reduceLeDiff, Nat.reduceLT, Int.reduceToNat, Int.reduceLE, Int.reduceLT, mens, men]
    rw [dc_false fun h : bigOK sig b => by rw [(any_no (p := fun w : TWire => linkOK b w.link)).2 h.inner] at h10; cases h10]
  simp only [EVA, ↓reduceIte, Nat.reduceEqDiff, Nat.reduceMul, reduceCtorEq, Nat.reduceAdd, Nat.reduceSub, Nat.reduceLeDiff, Nat.reduceLT, Int.reduceToNat, Int.reduceLE, Int.reduceLT, mens, men]
  have : bigOK sig b := ⟨dc_iff.1 h1, r2, by omega, by omega, r5, dc_iff.1 h6, dc_iff.1 h8, fun i h => hA i h h, any_no.1 h9, any_no.1 h10⟩
  rw [dc_true this]
end Go.Fd

/-
  CHILDREN, POINTS, REDEXES, BOTH SIDES. Own work.
-/
namespace Go.Fd
set_option maxRecDepth 20000

/-- The numbers below n that pass a test. -/
def colI (f : Nat → Prop) [DecidablePred f] : Nat → List Int
  | 0 => []
  | j + 1 => if f j then colI f j ++ [(j : Int)] else colI f j

theorem colI_le {f : Nat → Prop} [DecidablePred f] : ∀ {j : Nat}, (colI f j).length ≤ j
  | 0 => Nat.le_refl 0
  | j + 1 => by
    unfold colI
    have := colI_le (f := f) (j := j)
    split
    · rw [List.length_append, List.length_singleton]; omega
    · omega
theorem colI_yes {f : Nat → Prop} [DecidablePred f] {j : Nat} (h : f j) : colI f (j + 1) = colI f j ++ [(j : Int)] := by rw [colI, if_pos h]
theorem colI_no {f : Nat → Prop} [DecidablePred f] {j : Nat} (h : ¬ f j) : colI f (j + 1) = colI f j := by rw [colI, if_neg h]

def parAt (b : TBigraph) (j : Nat) : Int := ((b.nodes[j]?).map TNode.parent).getD 0
theorem parAt_eq {b : TBigraph} {j : Nat} (h : j < b.nodes.length) : parAt b j = b.nodes[j].parent := by simp [parAt, h]

abbrev kidsN (b : TBigraph) (p : Int) : Nat → List Int := colI fun j => parAt b j = p
abbrev holesN (b : TBigraph) (p : Int) : Nat → List Int := colI fun j => g0 b.sites j = p
def kids (b : TBigraph) (p : Int) : List Int := kidsN b p b.nodes.length
def holes (b : TBigraph) (p : Int) : List Int := holesN b p b.sites.length

theorem sem_l2Kids (b : TBigraph) (p : Int) (hl : b.nodes.length ≤ 4294967296) (lvl : Nat) (S : Sto) : Sem Go.Proofs.Tryz.prog fid_spec_l2Kids lvl [.ag ((cBigraph b).map .tr), iI p] S (.ow 1 (rI (kids b p)) true) S := by
  refine sem_of_chk k_spec_l2Kids trivial ?_
  simp only [c_spec_l2Kids, cBigraph, List.length_map, EVA, ↓reduceIte, Nat.reduceEqDiff, Nat.reduceMul, reduceCtorEq, Nat.reduceAdd, Nat.reduceSub, Nat.reduceLeDiff, Nat.reduceLT, Int.reduceToNat, Int.reduceLE, Int.reduceLT, mens, men]
  refine wp_cnt (α := Unit) b.nodes.length (fun j _ => [(5, .hd (lvl, 224) [] 0 (kidsN b p j).length none (kidsN b p j).length), (6, iI j)]) (fun j _ => [(224, .ar 1 (rI (kidsN b p j)) true (kidsN b p j).length 0)]) (fun _ _ => True) () (by simp only [EVA, ↓reduceIte, Nat.reduceEqDiff, Nat.reduceMul, reduceCtorEq, Nat.reduceAdd, Nat.reduceSub, Nat.reduceLeDiff, Nat.reduceLT, Int.reduceToNat, Int.reduceLE, Int.reduceLT, mens, men]) (by (simp only [EVA, ↓reduceIte, Nat.reduceEqDiff, Nat.reduceMul, reduceCtorEq, Nat.reduceAdd, Nat.reduceSub, Nat.reduceLeDiff, Nat.reduceLT, Int.reduceToNat, Int.reduceLE, Int.reduceLT, mens, men]) <;> rfl) trivial ?_
  intro j _ hj _
  simp only [List.length_map, EVA, ↓reduceIte, Nat.reduceEqDiff, Nat.reduceMul, reduceCtorEq, Nat.reduceAdd, Nat.reduceSub, Nat.reduceLeDiff, Nat.reduceLT, Int.reduceToNat, Int.reduceLE, Int.reduceLT, mens, men]
  refine ite_of (fun hlt => ?_) (fun hge => ?_)
  · have hja : j < b.nodes.length := by omega
    have ga := getA (c := cNode) hja
    have hle : (kidsN b p j).length ≤ j := colI_le
    simp only [ga, cNode, List.length_map, EVA, ↓reduceIte, Nat.reduceEqDiff, Nat.reduceMul, reduceCtorEq, Nat.reduceAdd, Nat.reduceSub, Nat.reduceLeDiff, Nat.reduceLT, Int.reduceToNat, Int.reduceLE, Int.reduceLT, mens, men]
    refine ite_of (fun he => ?_) (fun hne => ?_)
    · refine ⟨by omega, by rw [fits_i64]; omega, cntJ_intro () hja ?_ trivial⟩
      rw [kidsN, colI_yes (by rw [parAt_eq hja]; exact he), List.length_append, rI_app]
      rfl
    · refine ⟨by rw [fits_i64]; omega, cntJ_intro () hja ?_ trivial⟩
      rw [kidsN, colI_no (by rw [parAt_eq hja]; exact hne)]
      rfl
  · have : j = b.nodes.length := by omega
    subst this
    rfl

theorem sem_l2Holes (b : TBigraph) (p : Int) (hl : b.sites.length ≤ 4294967296) (lvl : Nat) (S : Sto) : Sem Go.Proofs.Tryz.prog fid_spec_l2Holes lvl [.ag ((cBigraph b).map .tr), iI p] S (.ow 1 (rI (holes b p)) true) S := by
  refine sem_of_chk k_spec_l2Holes trivial ?_
  simp only [c_spec_l2Holes, cBigraph, List.length_map, EVA, ↓reduceIte, Nat.reduceEqDiff, Nat.reduceMul, reduceCtorEq, Nat.reduceAdd, Nat.reduceSub, Nat.reduceLeDiff, Nat.reduceLT, Int.reduceToNat, Int.reduceLE, Int.reduceLT, mens, men]
  refine wp_cnt (α := Unit) b.sites.length (fun j _ => [(5, .hd (lvl, 224) [] 0 (holesN b p j).length none (holesN b p j).length), (6, iI j)]) (fun j _ => [(224, .ar 1 (rI (holesN b p j)) true (holesN b p j).length 0)]) (fun _ _ => True) () (by simp only [EVA, ↓reduceIte, Nat.reduceEqDiff, Nat.reduceMul, reduceCtorEq, Nat.reduceAdd, Nat.reduceSub, Nat.reduceLeDiff, Nat.reduceLT, Int.reduceToNat, Int.reduceLE, Int.reduceLT, mens, men]) (by (simp only [EVA, ↓reduceIte, Nat.reduceEqDiff, Nat.reduceMul, reduceCtorEq, Nat.reduceAdd, Nat.reduceSub, Nat.reduceLeDiff, Nat.reduceLT, Int.reduceToNat, Int.reduceLE, Int.reduceLT, mens, men]) <;> rfl) trivial ?_
  intro j _ hj _
  simp only [List.length_map, EVA, ↓reduceIte, Nat.reduceEqDiff, Nat.reduceMul, reduceCtorEq, Nat.reduceAdd, Nat.reduceSub, Nat.reduceLeDiff, Nat.reduceLT, Int.reduceToNat, Int.reduceLE, Int.reduceLT, mens, men]
  refine ite_of (fun hlt => ?_) (fun hge => ?_)
  · have hja : j < b.sites.length := by omega
    have ga := rI_get hja
    have hle : (holesN b p j).length ≤ j := colI_le
    simp only [ga, List.length_map, EVA, ↓reduceIte, Nat.reduceEqDiff, Nat.reduceMul, reduceCtorEq, Nat.reduceAdd, Nat.reduceSub, Nat.reduceLeDiff, Nat.reduceLT, Int.reduceToNat, Int.reduceLE, Int.reduceLT, mens, men]
    refine ite_of (fun he => ?_) (fun hne => ?_)
    · refine ⟨by omega, by rw [fits_i64]; omega, cntJ_intro () hja ?_ trivial⟩
      rw [holesN, colI_yes (f := fun j => g0 b.sites j = p) he, List.length_append, rI_app]
      rfl
    · refine ⟨by rw [fits_i64]; omega, cntJ_intro () hja ?_ trivial⟩
      rw [holesN, colI_no (f := fun j => g0 b.sites j = p) hne]
      rfl
  · have : j = b.sites.length := by omega
    subst this
    rfl

theorem sem_childrenOf (b : TBigraph) (p : Int) (hn : b.nodes.length ≤ 4294967296) (hl : b.sites.length ≤ 4294967296) (lvl : Nat) (S : Sto) : Sem Go.Proofs.Tryz.prog fid_impl_Bigraph_childrenOf lvl [.ag ((cBigraph b).map .tr), iI p] S (.tu [.ow 1 (rI (kids b p)) true, .ow 1 (rI (holes b p)) true]) S := by
  refine sem_of_chk k_impl_Bigraph_childrenOf ⟨trivial, trivial, trivial⟩ ?_
  simp only [c_impl_Bigraph_childrenOf, cBigraph, List.length_map, EVA, ↓reduceIte, Nat.reduceEqDiff, Nat.reduceMul, reduceCtorEq, Nat.reduceAdd, Nat.reduceSub, Nat.reduceLeDiff, Nat.reduceLT, Int.reduceToNat, Int.reduceLE, Int.reduceLT, mens, men]
  refine wp_cnt (α := Unit) b.nodes.length (fun j _ => [(6, .hd (lvl, 384) [] 0 (kidsN b p j).length none (kidsN b p j).length), (17, iI j)]) (fun j _ => [(384, .ar 1 (rI (kidsN b p j)) true (kidsN b p j).length 0)]) (fun _ _ => True) () (by simp only [EVA, ↓reduceIte, Nat.reduceEqDiff, Nat.reduceMul, reduceCtorEq, Nat.reduceAdd, Nat.reduceSub, Nat.reduceLeDiff, Nat.reduceLT, Int.reduceToNat, Int.reduceLE, Int.reduceLT, mens, men]) (by (simp only [EVA, ↓reduceIte, Nat.reduceEqDiff, Nat.reduceMul, reduceCtorEq, Nat.reduceAdd, Nat.reduceSub, Nat.reduceLeDiff, Nat.reduceLT, Int.reduceToNat, Int.reduceLE, Int.reduceLT, mens, men]) <;> rfl) trivial ?_
  intro j _ hj _
  simp only [List.length_map, EVA, ↓reduceIte, Nat.reduceEqDiff, Nat.reduceMul, reduceCtorEq, Nat.reduceAdd, Nat.reduceSub, Nat.reduceLeDiff, Nat.reduceLT, Int.reduceToNat, Int.reduceLE, Int.reduceLT, mens, men]
  refine ite_of (fun hlt => ?_) (fun hge => ?_)
  · have hja : j < b.nodes.length := by omega
    have ga := getA (c := cNode) hja
    have hle : (kidsN b p j).length ≤ j := colI_le
    simp only [ga, cNode, List.length_map, EVA, ↓reduceIte, Nat.reduceEqDiff, Nat.reduceMul, reduceCtorEq, Nat.reduceAdd, Nat.reduceSub, Nat.reduceLeDiff, Nat.reduceLT, Int.reduceToNat, Int.reduceLE, Int.reduceLT, mens, men]
    refine ite_of (fun he => ?_) (fun hne => ?_)
    · refine ⟨by omega, by rw [fits_i64]; omega, cntJ_intro () hja ?_ trivial⟩
      rw [kidsN, colI_yes (by rw [parAt_eq hja]; exact he), List.length_append, rI_app]
      rfl
    · refine ⟨by rw [fits_i64]; omega, cntJ_intro () hja ?_ trivial⟩
      rw [kidsN, colI_no (by rw [parAt_eq hja]; exact hne)]
      rfl
  have : j = b.nodes.length := by omega
  subst this
  refine wp_cnt (α := Unit) b.sites.length (fun j _ => [(7, .hd (lvl, 416) [] 0 (holesN b p j).length none (holesN b p j).length), (34, iI j)]) (fun j _ => [(416, .ar 1 (rI (holesN b p j)) true (holesN b p j).length 0)]) (fun _ _ => True) () (by simp only [EVA, ↓reduceIte, Nat.reduceEqDiff, Nat.reduceMul, reduceCtorEq, Nat.reduceAdd, Nat.reduceSub, Nat.reduceLeDiff, Nat.reduceLT, Int.reduceToNat, Int.reduceLE, Int.reduceLT, mens, men]) (by (simp only [EVA, ↓reduceIte, Nat.reduceEqDiff, Nat.reduceMul, reduceCtorEq, Nat.reduceAdd, Nat.reduceSub, Nat.reduceLeDiff, Nat.reduceLT, Int.reduceToNat, Int.reduceLE, Int.reduceLT, mens, men]) <;> rfl) trivial ?_
  intro j _ hj _
  simp only [List.length_map, EVA, ↓reduceIte, Nat.reduceEqDiff, Nat.reduceMul, reduceCtorEq, Nat.reduceAdd, Nat.reduceSub, Nat.reduceLeDiff, Nat.reduceLT, Int.reduceToNat, Int.reduceLE, Int.reduceLT, mens, men]
  refine ite_of (fun hlt => ?_) (fun hge => ?_)
  · have hja : j < b.sites.length := by omega
    have ga := rI_get hja
    have hle : (holesN b p j).length ≤ j := colI_le
    simp only [ga, List.length_map, EVA, ↓reduceIte, Nat.reduceEqDiff, Nat.reduceMul, reduceCtorEq, Nat.reduceAdd, Nat.reduceSub, Nat.reduceLeDiff, Nat.reduceLT, Int.reduceToNat, Int.reduceLE, Int.reduceLT, mens, men]
    refine ite_of (fun he => ?_) (fun hne => ?_)
    · refine ⟨by omega, by rw [fits_i64]; omega, cntJ_intro () hja ?_ trivial⟩
      rw [holesN, colI_yes (f := fun j => g0 b.sites j = p) he, List.length_append, rI_app]
      rfl
    · refine ⟨by rw [fits_i64]; omega, cntJ_intro () hja ?_ trivial⟩
      rw [holesN, colI_no (f := fun j => g0 b.sites j = p) hne]
      rfl
  · have : j = b.sites.length := by omega
    subst this
    rfl

/-! ## points -/
def cP2 (x : Int × Int) : List Tr := [tv x.1, tv x.2]
def rowP (l : Int) (i : Nat) (ls : List Int) : Nat → List (Int × Int)
  | 0 => []
  | k + 1 => if g0 ls k = l then rowP l i ls k ++ [((i : Int), (k : Int))] else rowP l i ls k
theorem rowP_le {l : Int} {i : Nat} {ls : List Int} : ∀ {k : Nat}, (rowP l i ls k).length ≤ k
  | 0 => Nat.le_refl 0
  | k + 1 => by
    unfold rowP
    have := rowP_le (l := l) (i := i) (ls := ls) (k := k)
    split
    · rw [List.length_append, List.length_singleton]; omega
    · omega
theorem rowP_yes {l : Int} {i : Nat} {ls : List Int} {k : Nat} (h : g0 ls k = l) : rowP l i ls (k + 1) = rowP l i ls k ++ [((i : Int), (k : Int))] := by rw [rowP, if_pos h]
theorem rowP_no {l : Int} {i : Nat} {ls : List Int} {k : Nat} (h : ¬ g0 ls k = l) : rowP l i ls (k + 1) = rowP l i ls k := by rw [rowP, if_neg h]

def linksAt (b : TBigraph) (j : Nat) : List Int := ((b.nodes[j]?).map TNode.links).getD []
theorem linksAt_eq {b : TBigraph} {j : Nat} (h : j < b.nodes.length) : linksAt b j = b.nodes[j].links := by simp [linksAt, h]

def portsN (b : TBigraph) (l : Int) : Nat → List (Int × Int)
  | 0 => []
  | i + 1 => portsN b l i ++ rowP l i (linksAt b i) (linksAt b i).length
def ports (b : TBigraph) (l : Int) : List (Int × Int) := portsN b l b.nodes.length

theorem portsN_le {b : TBigraph} {l : Int} (h : ∀ x ∈ b.nodes, x.links.length ≤ 1000) : ∀ {j : Nat}, j ≤ b.nodes.length → (portsN b l j).length ≤ j * 1000
  | 0, _ => Nat.zero_le _
  | j + 1, hj => by
    have ih := portsN_le h (l := l) (j := j) (by omega)
    have h1 := rowP_le (l := l) (i := j) (ls := linksAt b j) (k := (linksAt b j).length)
    have h2 := h _ (List.getElem_mem (show j < b.nodes.length by omega))
    rw [portsN, List.length_append]
    rw [linksAt_eq (by omega)] at h1 ⊢
    omega

def wlAt (b : TBigraph) (j : Nat) : Int := ((b.inner[j]?).map TWire.link).getD 0
def wnAt (b : TBigraph) (j : Nat) : ByteArray := ((b.inner[j]?).map TWire.name).getD ⟨#[]⟩
theorem wlAt_eq {b : TBigraph} {j : Nat} (h : j < b.inner.length) : wlAt b j = b.inner[j].link := by simp [wlAt, h]
theorem wnAt_eq {b : TBigraph} {j : Nat} (h : j < b.inner.length) : wnAt b j = b.inner[j].name := by simp [wnAt, h]
def endsN (b : TBigraph) (l : Int) : Nat → List ByteArray
  | 0 => []
  | j + 1 => if wlAt b j = l then endsN b l j ++ [wnAt b j] else endsN b l j
theorem endsN_le {b : TBigraph} {l : Int} : ∀ {j : Nat}, (endsN b l j).length ≤ j
  | 0 => Nat.le_refl 0
  | j + 1 => by
    unfold endsN
    have := endsN_le (b := b) (l := l) (j := j)
    split
    · rw [List.length_append, List.length_singleton]; omega
    · omega
theorem endsN_yes {b : TBigraph} {l : Int} {j : Nat} (h : wlAt b j = l) : endsN b l (j + 1) = endsN b l j ++ [wnAt b j] := by rw [endsN, if_pos h]
theorem endsN_no {b : TBigraph} {l : Int} {j : Nat} (h : ¬ wlAt b j = l) : endsN b l (j + 1) = endsN b l j := by rw [endsN, if_neg h]
def ends (b : TBigraph) (l : Int) : List ByteArray := endsN b l b.inner.length

theorem cP2_app (a b : List (Int × Int)) : (a ++ b).map cP2 = a.map cP2 ++ b.map cP2 := List.map_append

theorem sem_l2Ports (b : TBigraph) (l : Int) (hn : b.nodes.length ≤ 1000) (hk : ∀ x ∈ b.nodes, x.links.length ≤ 1000) (lvl : Nat) (S : Sto) : Sem Go.Proofs.Tryz.prog fid_spec_l2Ports lvl [.ag ((cBigraph b).map .tr), iI l] S (.ow 2 ((ports b l).map cP2) true) S := by
  refine sem_of_chk k_spec_l2Ports trivial ?_
  simp only [c_spec_l2Ports, cBigraph, List.length_map, EVA, ↓reduceIte, Nat.reduceEqDiff, Nat.reduceMul, reduceCtorEq, Nat.reduceAdd, Nat.reduceSub, Nat.reduceLeDiff, Nat.reduceLT, Int.reduceToNat, Int.reduceLE, Int.reduceLT, mens, men]
  refine wp_cnt (α := Unit) b.nodes.length (fun j _ => [(5, .hd (lvl, 256) [] 0 (portsN b l j).length none (portsN b l j).length), (6, iI j)]) (fun j _ => [(256, .ar 2 ((portsN b l j).map cP2) true (portsN b l j).length 0)]) (fun _ _ => True) () (by simp only [EVA, ↓reduceIte, Nat.reduceEqDiff, Nat.reduceMul, reduceCtorEq, Nat.reduceAdd, Nat.reduceSub, Nat.reduceLeDiff, Nat.reduceLT, Int.reduceToNat, Int.reduceLE, Int.reduceLT, mens, men]) (by (simp only [EVA, ↓reduceIte, Nat.reduceEqDiff, Nat.reduceMul, reduceCtorEq, Nat.reduceAdd, Nat.reduceSub, Nat.reduceLeDiff, Nat.reduceLT, Int.reduceToNat, Int.reduceLE, Int.reduceLT, mens, men]) <;> rfl) trivial ?_
  intro j _ hj _
  simp only [List.length_map, EVA, ↓reduceIte, Nat.reduceEqDiff, Nat.reduceMul, reduceCtorEq, Nat.reduceAdd, Nat.reduceSub, Nat.reduceLeDiff, Nat.reduceLT, Int.reduceToNat, Int.reduceLE, Int.reduceLT, mens, men]
  refine ite_of (fun hlt => ?_) (fun hge => ?_)
  · have hja : j < b.nodes.length := by omega
    have ga := getA (c := cNode) hja
    have hle := portsN_le hk (l := l) hj
    have hlk := hk _ (List.getElem_mem hja)
    refine wp_cnt (α := Unit) b.nodes[j].links.length (fun k _ => [(5, .hd (lvl, 256) [] 0 (portsN b l j ++ rowP l j b.nodes[j].links k).length none (portsN b l j ++ rowP l j b.nodes[j].links k).length), (7, iI k)]) (fun k _ => [(256, .ar 2 ((portsN b l j ++ rowP l j b.nodes[j].links k).map cP2) true (portsN b l j ++ rowP l j b.nodes[j].links k).length 0)]) (fun _ _ => True) () (by simp only [EVA, ↓reduceIte, Nat.reduceEqDiff, Nat.reduceMul, reduceCtorEq, Nat.reduceAdd, Nat.reduceSub, Nat.reduceLeDiff, Nat.reduceLT, Int.reduceToNat, Int.reduceLE, Int.reduceLT, mens, men]) (by (simp only [rowP, List.append_nil, EVA, ↓reduceIte, Nat.reduceEqDiff, Nat.reduceMul, reduceCtorEq, Nat.reduceAdd, Nat.reduceSub, Nat.reduceLeDiff, Nat.reduceLT, Int.reduceToNat, Int.reduceLE, Int.reduceLT, mens, men]) <;> rfl) trivial ?_
    intro k _ hkk _
    simp only [ga, cNode, List.length_map, EVA, ↓reduceIte, Nat.reduceEqDiff, Nat.reduceMul, reduceCtorEq, Nat.reduceAdd, Nat.reduceSub, Nat.reduceLeDiff, Nat.reduceLT, Int.reduceToNat, Int.reduceLE, Int.reduceLT, mens, men]
    refine ite_of (fun hlt2 => ?_) (fun hge2 => ?_)
    · have hka : k < b.nodes[j].links.length := by omega
      have gl := rI_get hka
      have hr := rowP_le (l := l) (i := j) (ls := b.nodes[j].links) (k := k)
      simp only [ga, gl, cNode, List.length_map, EVA, ↓reduceIte, Nat.reduceEqDiff, Nat.reduceMul, reduceCtorEq, Nat.reduceAdd, Nat.reduceSub, Nat.reduceLeDiff, Nat.reduceLT, Int.reduceToNat, Int.reduceLE, Int.reduceLT, mens, men]
      refine ite_of (fun he => ?_) (fun hne => ?_)
      · refine ⟨by rw [List.length_append]; omega, by rw [fits_i64]; omega, cntJ_intro () hka ?_ trivial⟩
        rw [rowP_yes he, ← List.append_assoc, List.length_append (bs := [_]), cP2_app (portsN b l j ++ _)]
        rfl
      · refine ⟨by rw [fits_i64]; omega, cntJ_intro () hka ?_ trivial⟩
        rw [rowP_no hne]
        rfl
    · have : k = b.nodes[j].links.length := by omega
      subst this
      refine ⟨by rw [fits_i64]; omega, cntJ_intro () hja ?_ trivial⟩
      rw [portsN, linksAt_eq hja]
      rfl
  · have : j = b.nodes.length := by omega
    subst this
    rfl

theorem sem_l2Ends (b : TBigraph) (l : Int) (hn : b.inner.length ≤ 4294967296) (lvl : Nat) (S : Sto) : Sem Go.Proofs.Tryz.prog fid_spec_l2Ends lvl [.ag ((cBigraph b).map .tr), iI l] S (.ow 1 (rS (ends b l)) true) S := by
  refine sem_of_chk k_spec_l2Ends trivial ?_
  simp only [c_spec_l2Ends, cBigraph, List.length_map, EVA, ↓reduceIte, Nat.reduceEqDiff, Nat.reduceMul, reduceCtorEq, Nat.reduceAdd, Nat.reduceSub, Nat.reduceLeDiff, Nat.reduceLT, Int.reduceToNat, Int.reduceLE, Int.reduceLT, mens, men]
  refine wp_cnt (α := Unit) b.inner.length (fun j _ => [(5, .hd (lvl, 224) [] 0 (endsN b l j).length none (endsN b l j).length), (6, iI j)]) (fun j _ => [(224, .ar 1 (rS (endsN b l j)) true (endsN b l j).length 0)]) (fun _ _ => True) () (by simp only [EVA, ↓reduceIte, Nat.reduceEqDiff, Nat.reduceMul, reduceCtorEq, Nat.reduceAdd, Nat.reduceSub, Nat.reduceLeDiff, Nat.reduceLT, Int.reduceToNat, Int.reduceLE, Int.reduceLT, mens, men]) (by (simp only [EVA, ↓reduceIte, Nat.reduceEqDiff, Nat.reduceMul, reduceCtorEq, Nat.reduceAdd, Nat.reduceSub, Nat.reduceLeDiff, Nat.reduceLT, Int.reduceToNat, Int.reduceLE, Int.reduceLT, mens, men]) <;> rfl) trivial ?_
  intro j _ hj _
  simp only [List.length_map, EVA, ↓reduceIte, Nat.reduceEqDiff, Nat.reduceMul, reduceCtorEq, Nat.reduceAdd, Nat.reduceSub, Nat.reduceLeDiff, Nat.reduceLT, Int.reduceToNat, Int.reduceLE, Int.reduceLT, mens, men]
  refine ite_of (fun hlt => ?_) (fun hge => ?_)
  · have hja : j < b.inner.length := by omega
    have ga := getA (c := cWire) hja
    have hle := endsN_le (b := b) (l := l) (j := j)
    simp only [ga, cWire, List.length_map, EVA, ↓reduceIte, Nat.reduceEqDiff, Nat.reduceMul, reduceCtorEq, Nat.reduceAdd, Nat.reduceSub, Nat.reduceLeDiff, Nat.reduceLT, Int.reduceToNat, Int.reduceLE, Int.reduceLT, mens, men]
    refine ite_of (fun he => ?_) (fun hne => ?_)
    · refine ⟨by omega, by rw [fits_i64]; omega, cntJ_intro () hja ?_ trivial⟩
      rw [endsN_yes (by rw [wlAt_eq hja]; exact he), List.length_append, rS_app, wnAt_eq hja]
      rfl
    · refine ⟨by rw [fits_i64]; omega, cntJ_intro () hja ?_ trivial⟩
      rw [endsN_no (by rw [wlAt_eq hja]; exact hne)]
      rfl
  · have : j = b.inner.length := by omega
    subst this
    rfl

theorem sem_pointsOf (b : TBigraph) (l : Int) (hn : b.nodes.length ≤ 1000) (hk : ∀ x ∈ b.nodes, x.links.length ≤ 1000) (hi : b.inner.length ≤ 4294967296) (lvl : Nat) (S : Sto) : Sem Go.Proofs.Tryz.prog fid_impl_Bigraph_pointsOf lvl [.ag ((cBigraph b).map .tr), iI l] S (.tu [.ow 2 ((ports b l).map cP2) true, .ow 1 (rS (ends b l)) true]) S := by
  refine sem_of_chk k_impl_Bigraph_pointsOf ⟨trivial, trivial, trivial⟩ ?_
  simp only [c_impl_Bigraph_pointsOf, cBigraph, List.length_map, EVA, ↓reduceIte, Nat.reduceEqDiff, Nat.reduceMul, reduceCtorEq, Nat.reduceAdd, Nat.reduceSub, Nat.reduceLeDiff, Nat.reduceLT, Int.reduceToNat, Int.reduceLE, Int.reduceLT, mens, men]
  refine wp_cnt (α := Unit) b.nodes.length (fun j _ => [(6, .hd (lvl, 448) [] 0 (portsN b l j).length none (portsN b l j).length), (19, iI j)]) (fun j _ => [(448, .ar 2 ((portsN b l j).map cP2) true (portsN b l j).length 0)]) (fun _ _ => True) () (by simp only [EVA, ↓reduceIte, Nat.reduceEqDiff, Nat.reduceMul, reduceCtorEq, Nat.reduceAdd, Nat.reduceSub, Nat.reduceLeDiff, Nat.reduceLT, Int.reduceToNat, Int.reduceLE, Int.reduceLT, mens, men]) (by (simp only [EVA, ↓reduceIte, Nat.reduceEqDiff, Nat.reduceMul, reduceCtorEq, Nat.reduceAdd, Nat.reduceSub, Nat.reduceLeDiff, Nat.reduceLT, Int.reduceToNat, Int.reduceLE, Int.reduceLT, mens, men]) <;> rfl) trivial ?_
  intro j _ hj _
  simp only [List.length_map, EVA, ↓reduceIte, Nat.reduceEqDiff, Nat.reduceMul, reduceCtorEq, Nat.reduceAdd, Nat.reduceSub, Nat.reduceLeDiff, Nat.reduceLT, Int.reduceToNat, Int.reduceLE, Int.reduceLT, mens, men]
  refine ite_of (fun hlt => ?_) (fun hge => ?_)
  · have hja : j < b.nodes.length := by omega
    have ga := getA (c := cNode) hja
    have hle := portsN_le hk (l := l) hj
    have hlk := hk _ (List.getElem_mem hja)
    simp only [ga, cNode, List.length_map, EVA, ↓reduceIte, Nat.reduceEqDiff, Nat.reduceMul, reduceCtorEq, Nat.reduceAdd, Nat.reduceSub, Nat.reduceLeDiff, Nat.reduceLT, Int.reduceToNat, Int.reduceLE, Int.reduceLT, mens, men]
    refine wp_cnt (α := Unit) b.nodes[j].links.length (fun k _ => [(6, .hd (lvl, 448) [] 0 (portsN b l j ++ rowP l j b.nodes[j].links k).length none (portsN b l j ++ rowP l j b.nodes[j].links k).length), (27, iI k)]) (fun k _ => [(448, .ar 2 ((portsN b l j ++ rowP l j b.nodes[j].links k).map cP2) true (portsN b l j ++ rowP l j b.nodes[j].links k).length 0)]) (fun _ _ => True) () (by simp only [EVA, ↓reduceIte, Nat.reduceEqDiff, Nat.reduceMul, reduceCtorEq, Nat.reduceAdd, Nat.reduceSub, Nat.reduceLeDiff, Nat.reduceLT, Int.reduceToNat, Int.reduceLE, Int.reduceLT, mens, men]) (by (simp only [rowP, List.append_nil, EVA, ↓reduceIte, Nat.reduceEqDiff, Nat.reduceMul, reduceCtorEq, Nat.reduceAdd, Nat.reduceSub, Nat.reduceLeDiff, Nat.reduceLT, Int.reduceToNat, Int.reduceLE, Int.reduceLT, mens, men]) <;> rfl) trivial ?_
    intro k _ hkk _
    simp only [ga, cNode, List.length_map, EVA, ↓reduceIte, Nat.reduceEqDiff, Nat.reduceMul, reduceCtorEq, Nat.reduceAdd, Nat.reduceSub, Nat.reduceLeDiff, Nat.reduceLT, Int.reduceToNat, Int.reduceLE, Int.reduceLT, mens, men]
    refine ite_of (fun hlt2 => ?_) (fun hge2 => ?_)
    · have hka : k < b.nodes[j].links.length := by omega
      have gl := rI_get hka
      have hr := rowP_le (l := l) (i := j) (ls := b.nodes[j].links) (k := k)
      simp only [ga, gl, cNode, List.length_map, EVA, ↓reduceIte, Nat.reduceEqDiff, Nat.reduceMul, reduceCtorEq, Nat.reduceAdd, Nat.reduceSub, Nat.reduceLeDiff, Nat.reduceLT, Int.reduceToNat, Int.reduceLE, Int.reduceLT, mens, men]
      refine ite_of (fun he => ?_) (fun hne => ?_)
      · refine ⟨by rw [List.length_append]; omega, by rw [fits_i64]; omega, cntJ_intro () hka ?_ trivial⟩
        rw [rowP_yes he, ← List.append_assoc, List.length_append (bs := [_]), cP2_app (portsN b l j ++ _)]
        rfl
      · refine ⟨by rw [fits_i64]; omega, cntJ_intro () hka ?_ trivial⟩
        rw [rowP_no hne]
        rfl
    · have : k = b.nodes[j].links.length := by omega
      subst this
      refine ⟨by rw [fits_i64]; omega, cntJ_intro () hja ?_ trivial⟩
      rw [portsN, linksAt_eq hja]
      rfl
  have : j = b.nodes.length := by omega
  subst this
  refine wp_cnt (α := Unit) b.inner.length (fun j _ => [(7, .hd (lvl, 480) [] 0 (endsN b l j).length none (endsN b l j).length), (46, iI j)]) (fun j _ => [(480, .ar 1 (rS (endsN b l j)) true (endsN b l j).length 0)]) (fun _ _ => True) () (by simp only [EVA, ↓reduceIte, Nat.reduceEqDiff, Nat.reduceMul, reduceCtorEq, Nat.reduceAdd, Nat.reduceSub, Nat.reduceLeDiff, Nat.reduceLT, Int.reduceToNat, Int.reduceLE, Int.reduceLT, mens, men]) (by (simp only [EVA, ↓reduceIte, Nat.reduceEqDiff, Nat.reduceMul, reduceCtorEq, Nat.reduceAdd, Nat.reduceSub, Nat.reduceLeDiff, Nat.reduceLT, Int.reduceToNat, Int.reduceLE, Int.reduceLT, mens, men]) <;> rfl) trivial ?_
  intro j _ hj _
  simp only [List.length_map, EVA, ↓reduceIte, Nat.reduceEqDiff, Nat.reduceMul, reduceCtorEq, Nat.reduceAdd, Nat.reduceSub, Nat.reduceLeDiff, Nat.reduceLT, Int.reduceToNat, Int.reduceLE, Int.reduceLT, mens, men]
  refine ite_of (fun hlt => ?_) (fun hge => ?_)
  · have hja : j < b.inner.length := by omega
    have ga := getA (c := cWire) hja
    have hle := endsN_le (b := b) (l := l) (j := j)
    simp only [ga, cWire, List.length_map, EVA, ↓reduceIte, Nat.reduceEqDiff, Nat.reduceMul, reduceCtorEq, Nat.reduceAdd, Nat.reduceSub, Nat.reduceLeDiff, Nat.reduceLT, Int.reduceToNat, Int.reduceLE, Int.reduceLT, mens, men]
    refine ite_of (fun he => ?_) (fun hne => ?_)
    · refine ⟨by omega, by rw [fits_i64]; omega, cntJ_intro () hja ?_ trivial⟩
      rw [endsN_yes (by rw [wlAt_eq hja]; exact he), List.length_append, rS_app, wnAt_eq hja]
      rfl
    · refine ⟨by rw [fits_i64]; omega, cntJ_intro () hja ?_ trivial⟩
      rw [endsN_no (by rw [wlAt_eq hja]; exact hne)]
      rfl
  · have : j = b.inner.length := by omega
    subst this
    rfl
end Go.Fd

/-
  REDEXES, BOTH SIDES. Own work.
-/
namespace Go.Fd
set_option maxRecDepth 20000

def idle (b : TBigraph) (l : Int) : Prop := (ports b l).length = 0 ∧ (ends b l).length = 0

/-- A bigraph that is small. -/
structure small (b : TBigraph) : Prop where
  nodes : b.nodes.length ≤ 8
  links : ∀ x ∈ b.nodes, x.links.length ≤ 1000
  sites : b.sites.length ≤ 4
  outer : b.outer.length ≤ 16
  inner : b.inner.length ≤ 16
  roots : 0 ≤ b.roots ∧ b.roots ≤ 4
  edges : 0 ≤ b.edges ∧ b.edges ≤ 8

theorem portsAt_le {sig : List TControl} (h : sigOK sig) (c : Int) : portsAt sig c ≤ 3 := by
  unfold portsAt
  cases e : sig[c.toNat]? with
  | none => decide
  | some x =>
    obtain ⟨hl, rfl⟩ := List.getElem?_eq_some_iff.1 e
    exact ((h.1 _ hl).1).2.1.2

theorem bigOK.small {sig : List TControl} {b : TBigraph} (h : bigOK sig b) : small b :=
  ⟨h.nodesL, fun x hx => by
    obtain ⟨k, hk, rfl⟩ := List.getElem_of_mem hx
    have h1 := (h.nodes k hk).ports
    have h2 := portsAt_le h.sg b.nodes[k].control
    omega, h.sitesL, h.outer.2, by have := h.inn.2; rw [inn_len] at this; exact this, h.roots, h.edges⟩

theorem sem_l2Idle (b : TBigraph) (l : Int) (hs : small b) (lvl : Nat) (S : Sto) : Sem Go.Proofs.Tryz.prog fid_spec_l2Idle lvl [.ag ((cBigraph b).map .tr), iI l] S (iB (dc (idle b l))) S := by
  have s1 := hs.nodes
  have s2 := hs.inner
  refine sem_of_chk k_spec_l2Idle trivial ?_
  simp only [c_spec_l2Idle, cBigraph, List.length_map, EVA, ↓reduceIte, Nat.reduceEqDiff, Nat.reduceMul, reduceCtorEq, Nat.reduceAdd, Nat.reduceSub, Nat.reduceLeDiff, Nat.reduceLT, Int.reduceToNat, Int.reduceLE, Int.reduceLT, mens, men]
  refine kca_intro (sem_l2Ports b l (by omega) hs.links) ?_
  by_cases h1 : (ports b l).length = 0
  · have h1' : ((ports b l).length : Int) = 0 := by omega
    simp only [h1, h1', cBigraph, List.length_map, EVA, ↓reduceIte, Nat.reduceEqDiff, Nat.reduceMul, reduceCtorEq, Nat.reduceAdd, Nat.reduceSub, Nat.reduceLeDiff, Nat.reduceLT, Int.reduceToNat, Int.reduceLE, Int.reduceLT, mens, men]
    refine kca_intro (sem_l2Ends b l (by omega)) ?_
    simp only [List.length_map, EVA, ↓reduceIte, Nat.reduceEqDiff, Nat.reduceMul, reduceCtorEq, Nat.reduceAdd, Nat.reduceSub, Nat.reduceLeDiff, Nat.reduceLT, Int.reduceToNat, Int.reduceLE, Int.reduceLT, mens, men]
    have hiff : idle b l ↔ ((ends b l).length : Int) = 0 := ⟨fun h => by have := h.2; omega, fun h => ⟨h1, by omega⟩⟩
    rw [dc_congr hiff, dc_decide]
  · have h1' : ¬ ((ports b l).length : Int) = 0 := by omega
    simp only [h1', cBigraph, List.length_map, EVA, ↓reduceIte, Nat.reduceEqDiff, Nat.reduceMul, reduceCtorEq, Nat.reduceAdd, Nat.reduceSub, Nat.reduceLeDiff, Nat.reduceLT, Int.reduceToNat, Int.reduceLE, Int.reduceLT, mens, men]
    rw [dc_false fun h : idle b l => h1 h.1]

theorem sem_isIdle (b : TBigraph) (l : Int) (hs : small b) (lvl : Nat) (S : Sto) : Sem Go.Proofs.Tryz.prog fid_impl_Bigraph_isIdle lvl [.ag ((cBigraph b).map .tr), iI l] S (iB (dc (idle b l))) S := by
  have s1 := hs.nodes
  have s2 := hs.inner
  have e1 : (ports b l).length ≤ b.nodes.length * 1000 := portsN_le hs.links (Nat.le_refl _)
  have e2 : (ends b l).length ≤ b.inner.length := endsN_le
  refine sem_of_chk k_impl_Bigraph_isIdle trivial ?_
  simp only [c_impl_Bigraph_isIdle, cBigraph, List.length_map, EVA, ↓reduceIte, Nat.reduceEqDiff, Nat.reduceMul, reduceCtorEq, Nat.reduceAdd, Nat.reduceSub, Nat.reduceLeDiff, Nat.reduceLT, Int.reduceToNat, Int.reduceLE, Int.reduceLT, mens, men]
  refine kca_intro (sem_pointsOf b l (by omega) hs.links (by omega)) ?_
  simp only [List.length_map, EVA, ↓reduceIte, Nat.reduceEqDiff, Nat.reduceMul, reduceCtorEq, Nat.reduceAdd, Nat.reduceSub, Nat.reduceLeDiff, Nat.reduceLT, Int.reduceToNat, Int.reduceLE, Int.reduceLT, mens, men]
  refine ⟨by rw [fits_i64]; omega, ?_⟩
  have hiff : idle b l ↔ ((ports b l).length : Int) + (ends b l).length = 0 := ⟨fun h => by have := h.1; have := h.2; omega, fun h => ⟨by omega, by omega⟩⟩
  rw [dc_congr hiff, dc_decide]

structure solid (b : TBigraph) : Prop where
  inner : b.inner.length = 0
  roots : ¬ b.roots = 0
  root : ∀ r : Nat, (r : Int) < b.roots → ¬ (kids b (-1 - r)).length = 0 ∧ (holes b (-1 - r)).length = 0
  node : ∀ i : Nat, i < b.nodes.length → (holes b i).length ≤ 1
  link : ∀ l : Nat, (l : Int) < b.edges + b.outer.length → ¬ idle b l

theorem sem_l8Solid (b : TBigraph) (hs : small b) (lvl : Nat) (S : Sto) : Sem Go.Proofs.Tryz.prog fid_spec_l8Solid lvl [.ag ((cBigraph b).map .tr)] S (iB (dc (solid b))) S := by
  have s1 := hs.nodes
  have s2 := hs.inner
  have s3 := hs.sites
  have s4 := hs.outer
  obtain ⟨r1, r2⟩ := hs.roots
  obtain ⟨e1, e2⟩ := hs.edges
  refine sem_of_chk k_spec_l8Solid trivial ?_
  simp only [c_spec_l8Solid, cBigraph, List.length_map, EVA, ↓reduceIte, Nat.reduceEqDiff, Nat.reduceMul, reduceCtorEq, Nat.reduceAdd, Nat.reduceSub, Nat.reduceLeDiff, Nat.reduceLT, Int.reduceToNat, Int.reduceLE, Int.reduceLT, mens, men]
  by_cases h1 : (0 : Int) < b.inner.length
  · simp only [h1, List.length_map, EVA, ↓reduceIte, Nat.reduceEqDiff, Nat.reduceMul, reduceCtorEq, Nat.reduceAdd, Nat.reduceSub, Nat.reduceLeDiff, Nat.reduceLT, Int.reduceToNat, Int.reduceLE, Int.reduceLT, mens, men]
    rw [dc_false fun h : solid b => by have := h.inner; omega]
  by_cases h2 : b.roots = 0
  · simp only [h1, h2, List.length_map, EVA, ↓reduceIte, Nat.reduceEqDiff, Nat.reduceMul, reduceCtorEq, Nat.reduceAdd, Nat.reduceSub, Nat.reduceLeDiff, Nat.reduceLT, Int.reduceToNat, Int.reduceLE, Int.reduceLT, mens, men]
    rw [dc_false fun h : solid b => h.roots h2]
  simp only [h1, h2, List.length_map, EVA, ↓reduceIte, Nat.reduceEqDiff, Nat.reduceMul, reduceCtorEq, Nat.reduceAdd, Nat.reduceSub, Nat.reduceLeDiff, Nat.reduceLT, Int.reduceToNat, Int.reduceLE, Int.reduceLT, mens, men]
  refine wp_cnt (α := Unit) b.roots.toNat (fun j _ => [(3, iI j)]) (fun j _ => []) (fun j _ => ∀ r, r < j → ¬ (kids b (-1 - (r : Nat))).length = 0 ∧ (holes b (-1 - (r : Nat))).length = 0) () (by simp only [EVA, ↓reduceIte, Nat.reduceEqDiff, Nat.reduceMul, reduceCtorEq, Nat.reduceAdd, Nat.reduceSub, Nat.reduceLeDiff, Nat.reduceLT, Int.reduceToNat, Int.reduceLE, Int.reduceLT, mens, men]) (by (simp only [EVA, ↓reduceIte, Nat.reduceEqDiff, Nat.reduceMul, reduceCtorEq, Nat.reduceAdd, Nat.reduceSub, Nat.reduceLeDiff, Nat.reduceLT, Int.reduceToNat, Int.reduceLE, Int.reduceLT, mens, men]) <;> rfl) (fun k hk => absurd hk (Nat.not_lt_zero k)) ?_
  intro j _ hj hA
  simp only [List.length_map, EVA, ↓reduceIte, Nat.reduceEqDiff, Nat.reduceMul, reduceCtorEq, Nat.reduceAdd, Nat.reduceSub, Nat.reduceLeDiff, Nat.reduceLT, Int.reduceToNat, Int.reduceLE, Int.reduceLT, mens, men]
  refine ite_of (fun hlt => ?_) (fun hge => ?_)
  · have hja : j < b.roots.toNat := by omega
    refine ⟨by rw [fits_i64]; omega, ?_⟩
    refine kca_intro (sem_l2Kids b (-1 - (j : Nat)) (by omega)) ?_
    by_cases p1 : (kids b (-1 - (j : Nat))).length = 0
    · have p1' : ((kids b (-1 - (j : Nat))).length : Int) = 0 := by omega
      simp only [p1, p1', List.length_map, EVA, ↓reduceIte, Nat.reduceEqDiff, Nat.reduceMul, reduceCtorEq, Nat.reduceAdd, Nat.reduceSub, Nat.reduceLeDiff, Nat.reduceLT, Int.reduceToNat, Int.reduceLE, Int.reduceLT, mens, men]
      rw [dc_false fun h : solid b => (h.root j (by omega)).1 p1]
    have p1' : ¬ ((kids b (-1 - (j : Nat))).length : Int) = 0 := by omega
    simp only [p1', List.length_map, EVA, ↓reduceIte, Nat.reduceEqDiff, Nat.reduceMul, reduceCtorEq, Nat.reduceAdd, Nat.reduceSub, Nat.reduceLeDiff, Nat.reduceLT, Int.reduceToNat, Int.reduceLE, Int.reduceLT, mens, men]
    refine ⟨by rw [fits_i64]; omega, ?_⟩
    refine kca_intro (sem_l2Holes b (-1 - (j : Nat)) (by omega)) ?_
    simp only [List.length_map, EVA, ↓reduceIte, Nat.reduceEqDiff, Nat.reduceMul, reduceCtorEq, Nat.reduceAdd, Nat.reduceSub, Nat.reduceLeDiff, Nat.reduceLT, Int.reduceToNat, Int.reduceLE, Int.reduceLT, mens, men]
    refine ite_of (fun p2 => ?_) (fun p2 => ?_)
    · rw [dc_false fun h : solid b => by have := (h.root j (by omega)).2; omega]
    · exact ⟨by rw [fits_i64]; omega, cntJ_intro () hja rfl (allN hA ⟨p1, by omega⟩)⟩
  have hj1 : j = b.roots.toNat := by omega
  subst hj1
  refine wp_cnt (α := Unit) b.nodes.length (fun j _ => [(4, iI j)]) (fun j _ => []) (fun j _ => ∀ i, i < j → (holes b (i : Nat)).length ≤ 1) () (by simp only [EVA, ↓reduceIte, Nat.reduceEqDiff, Nat.reduceMul, reduceCtorEq, Nat.reduceAdd, Nat.reduceSub, Nat.reduceLeDiff, Nat.reduceLT, Int.reduceToNat, Int.reduceLE, Int.reduceLT, mens, men]) (by (simp only [EVA, ↓reduceIte, Nat.reduceEqDiff, Nat.reduceMul, reduceCtorEq, Nat.reduceAdd, Nat.reduceSub, Nat.reduceLeDiff, Nat.reduceLT, Int.reduceToNat, Int.reduceLE, Int.reduceLT, mens, men]) <;> rfl) (fun k hk => absurd hk (Nat.not_lt_zero k)) ?_
  intro j _ hj hB
  simp only [List.length_map, EVA, ↓reduceIte, Nat.reduceEqDiff, Nat.reduceMul, reduceCtorEq, Nat.reduceAdd, Nat.reduceSub, Nat.reduceLeDiff, Nat.reduceLT, Int.reduceToNat, Int.reduceLE, Int.reduceLT, mens, men]
  refine ite_of (fun hlt => ?_) (fun hge => ?_)
  · have hja : j < b.nodes.length := by omega
    refine kca_intro (sem_l2Holes b (j : Nat) (by omega)) ?_
    simp only [List.length_map, EVA, ↓reduceIte, Nat.reduceEqDiff, Nat.reduceMul, reduceCtorEq, Nat.reduceAdd, Nat.reduceSub, Nat.reduceLeDiff, Nat.reduceLT, Int.reduceToNat, Int.reduceLE, Int.reduceLT, mens, men]
    refine ite_of (fun p2 => ?_) (fun p2 => ?_)
    · rw [dc_false fun h : solid b => by have := h.node j hja; omega]
    · exact ⟨by rw [fits_i64]; omega, cntJ_intro () hja rfl (allN hB (by omega))⟩
  have hj1 : j = b.nodes.length := by omega
  subst hj1
  refine wp_cnt (α := Unit) (b.edges + b.outer.length).toNat (fun j _ => [(5, iI j)]) (fun j _ => []) (fun j _ => ∀ i, i < j → ¬ idle b (i : Nat)) () (by simp only [EVA, ↓reduceIte, Nat.reduceEqDiff, Nat.reduceMul, reduceCtorEq, Nat.reduceAdd, Nat.reduceSub, Nat.reduceLeDiff, Nat.reduceLT, Int.reduceToNat, Int.reduceLE, Int.reduceLT, mens, men]) (by (simp only [EVA, ↓reduceIte, Nat.reduceEqDiff, Nat.reduceMul, reduceCtorEq, Nat.reduceAdd, Nat.reduceSub, Nat.reduceLeDiff, Nat.reduceLT, Int.reduceToNat, Int.reduceLE, Int.reduceLT, mens, men]) <;> rfl) (fun k hk => absurd hk (Nat.not_lt_zero k)) ?_
  intro j _ hj hC
  simp only [List.length_map, EVA, ↓reduceIte, Nat.reduceEqDiff, Nat.reduceMul, reduceCtorEq, Nat.reduceAdd, Nat.reduceSub, Nat.reduceLeDiff, Nat.reduceLT, Int.reduceToNat, Int.reduceLE, Int.reduceLT, mens, men]
  refine ⟨by rw [fits_i64]; omega, ?_⟩
  refine ite_of (fun hlt => ?_) (fun hge => ?_)
  · have hja : j < (b.edges + b.outer.length).toNat := by omega
    refine kca_intro (sem_l2Idle b (j : Nat) hs) ?_
    cases hc : dc (idle b (j : Nat))
    · simp only [EVA, ↓reduceIte, Nat.reduceEqDiff, Nat.reduceMul, reduceCtorEq, Nat.reduceAdd, Nat.reduceSub, Nat.reduceLeDiff, Nat.reduceLT, Int.reduceToNat, Int.reduceLE, Int.reduceLT, mens, men]
      exact ⟨by rw [fits_i64]; omega, cntJ_intro () hja rfl (allN hC (dc_not.1 hc))⟩
    · simp only [EVA, ↓reduceIte, Nat.reduceEqDiff, Nat.reduceMul, reduceCtorEq, Nat.reduceAdd, Nat.reduceSub, Nat.reduceLeDiff, Nat.reduceLT, Int.reduceToNat, Int.reduceLE, Int.reduceLT, mens, men]
      rw [dc_false fun h : solid b => h.link j (by omega) (dc_iff.1 hc)]
  have hj1 : j = (b.edges + b.outer.length).toNat := by omega
  subst hj1
  have : solid b := ⟨by omega, h2, fun r hr => hA r (by omega), hB, fun l hl => hC l (by omega)⟩
  rw [dc_true this]

theorem sem_impl_isRedex (b : TBigraph) (hs : small b) (lvl : Nat) (S : Sto) : Sem Go.Proofs.Tryz.prog fid_impl_isRedex lvl [.ag ((cBigraph b).map .tr)] S (iB (dc (solid b))) S := by
  have s1 := hs.nodes
  have s2 := hs.inner
  have s3 := hs.sites
  have s4 := hs.outer
  obtain ⟨r1, r2⟩ := hs.roots
  obtain ⟨e1, e2⟩ := hs.edges
  refine sem_of_chk k_impl_isRedex trivial ?_
  simp only [c_impl_isRedex, cBigraph, List.length_map, EVA, ↓reduceIte, Nat.reduceEqDiff, Nat.reduceMul, reduceCtorEq, Nat.reduceAdd, Nat.reduceSub, Nat.reduceLeDiff, Nat.reduceLT, Int.reduceToNat, Int.reduceLE, Int.reduceLT, mens, men]
  by_cases h1 : (0 : Int) < b.inner.length
  · simp only [h1, List.length_map, EVA, ↓reduceIte, Nat.reduceEqDiff, Nat.reduceMul, reduceCtorEq, Nat.reduceAdd, Nat.reduceSub, Nat.reduceLeDiff, Nat.reduceLT, Int.reduceToNat, Int.reduceLE, Int.reduceLT, mens, men]
    rw [dc_false fun h : solid b => by have := h.inner; omega]
  by_cases h2 : b.roots = 0
  · simp only [h1, h2, List.length_map, EVA, ↓reduceIte, Nat.reduceEqDiff, Nat.reduceMul, reduceCtorEq, Nat.reduceAdd, Nat.reduceSub, Nat.reduceLeDiff, Nat.reduceLT, Int.reduceToNat, Int.reduceLE, Int.reduceLT, mens, men]
    rw [dc_false fun h : solid b => h.roots h2]
  simp only [h1, h2, List.length_map, EVA, ↓reduceIte, Nat.reduceEqDiff, Nat.reduceMul, reduceCtorEq, Nat.reduceAdd, Nat.reduceSub, Nat.reduceLeDiff, Nat.reduceLT, Int.reduceToNat, Int.reduceLE, Int.reduceLT, mens, men]
  refine ⟨by rw [fits_i64]; omega, ?_⟩
  refine wp_cnt (α := Unit) (b.roots + b.nodes.length).toNat (fun j _ => [(3, iI (-b.roots + j))]) (fun j _ => []) (fun j _ => ∀ r, r < j → ((-b.roots + (r : Nat) < 0 → ¬ (kids b (-b.roots + (r : Nat))).length = 0 ∧ (holes b (-b.roots + (r : Nat))).length = 0) ∧ (holes b (-b.roots + (r : Nat))).length ≤ 1)) () (by simp only [EVA, ↓reduceIte, Nat.reduceEqDiff, Nat.reduceMul, reduceCtorEq, Nat.reduceAdd, Nat.reduceSub, Nat.reduceLeDiff, Nat.reduceLT, Int.reduceToNat, Int.reduceLE, Int.reduceLT, mens, men]) (by (simp only [Int.natCast_zero, Int.cast_ofNat_Int, Int.add_zero, EVA, ↓reduceIte, Nat.reduceEqDiff, Nat.reduceMul, reduceCtorEq, Nat.reduceAdd, Nat.reduceSub, Nat.reduceLeDiff, Nat.reduceLT, Int.reduceToNat, Int.reduceLE, Int.reduceLT, mens, men]) <;> rfl) (fun k hk => absurd hk (Nat.not_lt_zero k)) ?_
  intro j _ hj hA
  simp only [List.length_map, EVA, ↓reduceIte, Nat.reduceEqDiff, Nat.reduceMul, reduceCtorEq, Nat.reduceAdd, Nat.reduceSub, Nat.reduceLeDiff, Nat.reduceLT, Int.reduceToNat, Int.reduceLE, Int.reduceLT, mens, men]
  refine ite_of (fun hlt => ?_) (fun hge => ?_)
  · have hja : j < (b.roots + b.nodes.length).toNat := by omega
    refine kca_intro (sem_childrenOf b (-b.roots + (j : Nat)) (by omega) (by omega)) ?_
    have hno : (solid b → False) → dc (solid b) = false := fun h => dc_false h
    have hroot : solid b → -b.roots + (j : Int) < 0 → ¬ (kids b (-b.roots + (j : Nat))).length = 0 ∧ (holes b (-b.roots + (j : Nat))).length = 0 := fun h hn => by
      have := h.root (b.roots - 1 - j).toNat (by omega)
      have e : (-1 - ((b.roots - 1 - j).toNat : Int)) = -b.roots + j := by omega
      rw [e] at this
      exact this
    have hnode : solid b → ¬ -b.roots + (j : Int) < 0 → (holes b (-b.roots + (j : Nat))).length ≤ 1 := fun h hn => by
      have := h.node (-b.roots + j).toNat (by omega)
      have e : (((-b.roots + j).toNat : Nat) : Int) = -b.roots + j := by omega
      rw [e] at this
      exact this
    have hnext : (-b.roots + (j : Int)) + 1 = -b.roots + ((j + 1 : Nat) : Int) := by omega
    by_cases q : -b.roots + (j : Int) < 0
    · by_cases k0 : (kids b (-b.roots + (j : Nat))).length = 0
      · have k0' : ((kids b (-b.roots + (j : Nat))).length : Int) = 0 := by omega
        simp only [q, k0, k0', List.length_map, EVA, ↓reduceIte, Nat.reduceEqDiff, Nat.reduceMul, reduceCtorEq, Nat.reduceAdd, Nat.reduceSub, Nat.reduceLeDiff, Nat.reduceLT, Int.reduceToNat, Int.reduceLE, Int.reduceLT, mens, men]
        rw [hno fun h => (hroot h q).1 k0]
      have k0' : ¬ ((kids b (-b.roots + (j : Nat))).length : Int) = 0 := by omega
      by_cases k1 : (holes b (-b.roots + (j : Nat))).length = 0
      · have k1a : ¬ (0 : Int) < ((holes b (-b.roots + (j : Nat))).length : Int) := by omega
        have k1b : ¬ (1 : Int) < ((holes b (-b.roots + (j : Nat))).length : Int) := by omega
        simp only [q, k0', k1a, k1b, List.length_map, EVA, ↓reduceIte, Nat.reduceEqDiff, Nat.reduceMul, reduceCtorEq, Nat.reduceAdd, Nat.reduceSub, Nat.reduceLeDiff, Nat.reduceLT, Int.reduceToNat, Int.reduceLE, Int.reduceLT, mens, men]
        refine ⟨by rw [fits_i64]; omega, ?_⟩
        rw [hnext]
        exact cntJ_intro () hja rfl (allN hA ⟨fun _ => ⟨k0, k1⟩, by omega⟩)
      · have k1a : (0 : Int) < ((holes b (-b.roots + (j : Nat))).length : Int) := by omega
        simp only [q, k0', k1a, List.length_map, EVA, ↓reduceIte, Nat.reduceEqDiff, Nat.reduceMul, reduceCtorEq, Nat.reduceAdd, Nat.reduceSub, Nat.reduceLeDiff, Nat.reduceLT, Int.reduceToNat, Int.reduceLE, Int.reduceLT, mens, men]
        rw [hno fun h => k1 (hroot h q).2]
    · simp only [q, List.length_map, EVA, ↓reduceIte, Nat.reduceEqDiff, Nat.reduceMul, reduceCtorEq, Nat.reduceAdd, Nat.reduceSub, Nat.reduceLeDiff, Nat.reduceLT, Int.reduceToNat, Int.reduceLE, Int.reduceLT, mens, men]
      refine ite_of (fun k2 => ?_) (fun k2 => ?_)
      · rw [hno fun h => by have := hnode h q; omega]
      · refine ⟨by rw [fits_i64]; omega, ?_⟩
        rw [hnext]
        exact cntJ_intro () hja rfl (allN hA ⟨fun h => absurd h q, by omega⟩)
  have hj1 : j = (b.roots + b.nodes.length).toNat := by omega
  subst hj1
  refine ⟨by rw [fits_i64]; omega, ?_⟩
  refine wp_cnt (α := Unit) (b.edges + b.outer.length).toNat (fun j _ => [(55, iI j)]) (fun j _ => []) (fun j _ => ∀ i, i < j → ¬ idle b (i : Nat)) () (by simp only [EVA, ↓reduceIte, Nat.reduceEqDiff, Nat.reduceMul, reduceCtorEq, Nat.reduceAdd, Nat.reduceSub, Nat.reduceLeDiff, Nat.reduceLT, Int.reduceToNat, Int.reduceLE, Int.reduceLT, mens, men]) (by (simp only [EVA, ↓reduceIte, Nat.reduceEqDiff, Nat.reduceMul, reduceCtorEq, Nat.reduceAdd, Nat.reduceSub, Nat.reduceLeDiff, Nat.reduceLT, Int.reduceToNat, Int.reduceLE, Int.reduceLT, mens, men]) <;> rfl) (fun k hk => absurd hk (Nat.not_lt_zero k)) ?_
  intro j _ hj hC
  simp only [List.length_map, EVA, ↓reduceIte, Nat.reduceEqDiff, Nat.reduceMul, reduceCtorEq, Nat.reduceAdd, Nat.reduceSub, Nat.reduceLeDiff, Nat.reduceLT, Int.reduceToNat, Int.reduceLE, Int.reduceLT, mens, men]
  refine ite_of (fun hlt => ?_) (fun hge => ?_)
  · have hja : j < (b.edges + b.outer.length).toNat := by omega
    refine kca_intro (sem_isIdle b (j : Nat) hs) ?_
    cases hc : dc (idle b (j : Nat))
    · simp only [EVA, ↓reduceIte, Nat.reduceEqDiff, Nat.reduceMul, reduceCtorEq, Nat.reduceAdd, Nat.reduceSub, Nat.reduceLeDiff, Nat.reduceLT, Int.reduceToNat, Int.reduceLE, Int.reduceLT, mens, men]
      exact ⟨by rw [fits_i64]; omega, cntJ_intro () hja rfl (allN hC (dc_not.1 hc))⟩
    · simp only [EVA, ↓reduceIte, Nat.reduceEqDiff, Nat.reduceMul, reduceCtorEq, Nat.reduceAdd, Nat.reduceSub, Nat.reduceLeDiff, Nat.reduceLT, Int.reduceToNat, Int.reduceLE, Int.reduceLT, mens, men]
      rw [dc_false fun h : solid b => h.link j (by omega) (dc_iff.1 hc)]
  have hj1 : j = (b.edges + b.outer.length).toNat := by omega
  subst hj1
  have : solid b := ⟨by omega, h2, fun r hr => by
    have := (hA (b.roots - 1 - r).toNat (by omega)).1
    have e : -b.roots + ((b.roots - 1 - r).toNat : Int) = -1 - r := by omega
    rw [e] at this
    exact this (by omega), fun i hi => by
    have := (hA (b.roots + i).toNat (by omega)).2
    have e : -b.roots + ((b.roots + i).toNat : Int) = i := by omega
    rw [e] at this
    exact this, fun l hl => hC l (by omega)⟩
  rw [dc_true this]

end Go.Fd

/-
  RULES, BOTH SIDES. Own work.
-/
namespace Go.Fd
set_option maxRecDepth 20000

theorem sem_l8Redex (sig : List TControl) (b : TBigraph) (hn : sig.length ≤ 4294967296) (hbs : ∀ y ∈ sig, bdControl 4294967296 y) (hb : bdBigraph 4294967296 b) (hf : ftBigraph b) (lvl : Nat) (S : Sto) : Sem Go.Proofs.Tryz.prog fid_spec_l8Redex lvl [.tr (.sl (sig.map cControl)), .ag ((cBigraph b).map .tr)] S (iB (dc (bigOK sig b ∧ solid b))) S := by
  refine sem_of_chk k_spec_l8Redex trivial ?_
  simp only [c_spec_l8Redex, List.length_map, cBigraph, EVA, ↓reduceIte, Nat.reduceEqDiff, Nat.reduceMul, reduceCtorEq, Nat.reduceAdd, Nat.reduceSub, Nat.reduceLeDiff, Nat.reduceLT, Int.reduceToNat, Int.reduceLE, Int.reduceLT, mens, men]
  refine kca_intro (sem_l2Good sig b hn hbs hb hf) ?_
  cases h1 : dc (bigOK sig b)
  · simp only [EVA, ↓reduceIte, Nat.reduceEqDiff, Nat.reduceMul, reduceCtorEq, Nat.reduceAdd, Nat.reduceSub, Nat.reduceLeDiff, Nat.reduceLT, Int.reduceToNat, Int.reduceLE, Int.reduceLT, mens, men]
    rw [dc_false fun g : bigOK sig b ∧ solid b => dc_not.1 h1 g.1]
  simp only [List.length_map, cBigraph, EVA, ↓reduceIte, Nat.reduceEqDiff, Nat.reduceMul, reduceCtorEq, Nat.reduceAdd, Nat.reduceSub, Nat.reduceLeDiff, Nat.reduceLT, Int.reduceToNat, Int.reduceLE, Int.reduceLT, mens, men]
  have g1 := dc_iff.1 h1
  refine kca_intro (sem_l8Solid b g1.small) ?_
  simp only [EVA, ↓reduceIte, Nat.reduceEqDiff, Nat.reduceMul, reduceCtorEq, Nat.reduceAdd, Nat.reduceSub, Nat.reduceLeDiff, Nat.reduceLT, Int.reduceToNat, Int.reduceLE, Int.reduceLT, mens, men]
  rw [dc_congr (p := bigOK sig b ∧ solid b) ⟨fun g => g.2, fun g => ⟨g1, g⟩⟩]

theorem sem_l3SameNames (a b : List ByteArray) (ha : a.length ≤ 4294967296) (hb : b.length ≤ 4294967296) (lvl : Nat) (S : Sto) : Sem Go.Proofs.Tryz.prog fid_spec_l3SameNames lvl [.tr (.sl (rS a)), .tr (.sl (rS b))] S (iB (dc (a = b))) S := by
  refine sem_of_chk k_spec_l3SameNames trivial ?_
  simp only [c_spec_l3SameNames, List.length_map, EVA, ↓reduceIte, Nat.reduceEqDiff, Nat.reduceMul, reduceCtorEq, Nat.reduceAdd, Nat.reduceSub, Nat.reduceLeDiff, Nat.reduceLT, Int.reduceToNat, Int.reduceLE, Int.reduceLT, mens, men]
  refine wp_cnt (α := Unit) (min a.length b.length) (fun j _ => [(5, iI j)]) (fun j _ => []) (fun j _ => ∀ k, k < j → ∀ (h1 : k < a.length) (h2 : k < b.length), a[k] = b[k]) () (by simp only [EVA, ↓reduceIte, Nat.reduceEqDiff, Nat.reduceMul, reduceCtorEq, Nat.reduceAdd, Nat.reduceSub, Nat.reduceLeDiff, Nat.reduceLT, Int.reduceToNat, Int.reduceLE, Int.reduceLT, mens, men]) (by (simp only [EVA, ↓reduceIte, Nat.reduceEqDiff, Nat.reduceMul, reduceCtorEq, Nat.reduceAdd, Nat.reduceSub, Nat.reduceLeDiff, Nat.reduceLT, Int.reduceToNat, Int.reduceLE, Int.reduceLT, mens, men]) <;> rfl) (fun k hk => absurd hk (Nat.not_lt_zero k)) ?_
  intro j _ hj hA
  simp only [List.length_map, EVA, ↓reduceIte, Nat.reduceEqDiff, Nat.reduceMul, reduceCtorEq, Nat.reduceAdd, Nat.reduceSub, Nat.reduceLeDiff, Nat.reduceLT, Int.reduceToNat, Int.reduceLE, Int.reduceLT, mens, men]
  by_cases hlt : j < min a.length b.length
  · have hja : j < a.length := by omega
    have hjb : j < b.length := by omega
    have q1 : (j : Int) < a.length := by omega
    have q2 : (j : Int) < b.length := by omega
    have ga := getA (c := fun s => [ts s]) hja
    have gb := getA (c := fun s => [ts s]) hjb
    simp only [q1, q2, ga, gb, List.length_map, EVA, ↓reduceIte, Nat.reduceEqDiff, Nat.reduceMul, reduceCtorEq, Nat.reduceAdd, Nat.reduceSub, Nat.reduceLeDiff, Nat.reduceLT, Int.reduceToNat, Int.reduceLE, Int.reduceLT, mens, men]
    by_cases hc : a[j] = b[j]
    · simp only [hc, EVA, ↓reduceIte, Nat.reduceEqDiff, Nat.reduceMul, reduceCtorEq, Nat.reduceAdd, Nat.reduceSub, Nat.reduceLeDiff, Nat.reduceLT, Int.reduceToNat, Int.reduceLE, Int.reduceLT, mens, men]
      exact ⟨by rw [fits_i64]; omega, cntJ_intro () hlt rfl (allN hA fun _ _ => hc)⟩
    · simp only [hc, EVA, ↓reduceIte, Nat.reduceEqDiff, Nat.reduceMul, reduceCtorEq, Nat.reduceAdd, Nat.reduceSub, Nat.reduceLeDiff, Nat.reduceLT, Int.reduceToNat, Int.reduceLE, Int.reduceLT, mens, men]
      have : ¬ a = b := fun h => hc (by subst h; rfl)
      rw [dc_false this]
  · have fin : ((a.length : Int) = b.length) ↔ a = b := ⟨fun h => List.ext_getElem (by omega) fun k h1 h2 => hA k (by omega) h1 h2, fun h => by rw [h]⟩
    by_cases q1 : (j : Int) < a.length
    · have q2 : ¬ (j : Int) < b.length := by omega
      simp only [q1, q2, List.length_map, EVA, ↓reduceIte, Nat.reduceEqDiff, Nat.reduceMul, reduceCtorEq, Nat.reduceAdd, Nat.reduceSub, Nat.reduceLeDiff, Nat.reduceLT, Int.reduceToNat, Int.reduceLE, Int.reduceLT, mens, men]
      rw [← dc_decide, dc_congr fin]
    · simp only [q1, List.length_map, EVA, ↓reduceIte, Nat.reduceEqDiff, Nat.reduceMul, reduceCtorEq, Nat.reduceAdd, Nat.reduceSub, Nat.reduceLeDiff, Nat.reduceLT, Int.reduceToNat, Int.reduceLE, Int.reduceLT, mens, men]
      rw [← dc_decide, dc_congr fin]

def copyOK (r : TRule) (k : Int) : Prop := 0 ≤ k ∧ k ≤ (r.redex.sites.length : Int) - 1

structure ruleOK (sig : List TControl) (r : TRule) : Prop where
  red : bigOK sig r.redex
  sol : solid r.redex
  rea : bigOK sig r.reactum
  inn : r.reactum.inner.length = 0
  roots : r.redex.roots = r.reactum.roots
  outer : r.redex.outer = r.reactum.outer
  copies : ∀ k ∈ r.copies, copyOK r k
  len : r.copies.length = r.reactum.sites.length

def copiesOK (r : TRule) : Prop := (∀ k ∈ r.copies, copyOK r k) ∧ r.copies.length = r.reactum.sites.length

theorem sem_l9Copies (r : TRule) (hb : bdRule 4294967296 r) (lvl : Nat) (S : Sto) : Sem Go.Proofs.Tryz.prog fid_spec_l9Copies lvl [.ag ((cRule r).map .tr)] S (iB (dc (copiesOK r))) S := by
  obtain ⟨⟨a1, a2, a3, a4, a5, a6, a7⟩, ⟨b1, b2, b3, b4, b5, b6, b7⟩, b8⟩ := hb
  refine sem_of_chk k_spec_l9Copies trivial ?_
  simp only [c_spec_l9Copies, cRule, List.length_map, EVA, ↓reduceIte, Nat.reduceEqDiff, Nat.reduceMul, reduceCtorEq, Nat.reduceAdd, Nat.reduceSub, Nat.reduceLeDiff, Nat.reduceLT, Int.reduceToNat, Int.reduceLE, Int.reduceLT, mens, men]
  refine wp_cnt (α := Unit) r.copies.length (fun j _ => [(3, iI j)]) (fun j _ => []) (fun j _ => ∀ k, k < j → copyOK r (g0 r.copies k)) () (by simp only [EVA, ↓reduceIte, Nat.reduceEqDiff, Nat.reduceMul, reduceCtorEq, Nat.reduceAdd, Nat.reduceSub, Nat.reduceLeDiff, Nat.reduceLT, Int.reduceToNat, Int.reduceLE, Int.reduceLT, mens, men]) (by (simp only [EVA, ↓reduceIte, Nat.reduceEqDiff, Nat.reduceMul, reduceCtorEq, Nat.reduceAdd, Nat.reduceSub, Nat.reduceLeDiff, Nat.reduceLT, Int.reduceToNat, Int.reduceLE, Int.reduceLT, mens, men]) <;> rfl) (fun k hk => absurd hk (Nat.not_lt_zero k)) ?_
  intro j _ hj hA
  simp only [List.length_map, EVA, ↓reduceIte, Nat.reduceEqDiff, Nat.reduceMul, reduceCtorEq, Nat.reduceAdd, Nat.reduceSub, Nat.reduceLeDiff, Nat.reduceLT, Int.reduceToNat, Int.reduceLE, Int.reduceLT, mens, men]
  refine ite_of (fun hlt => ?_) (fun hge => ?_)
  · have hja : j < r.copies.length := by omega
    have ga := rI_get hja
    simp only [ga, List.length_map, EVA, ↓reduceIte, Nat.reduceEqDiff, Nat.reduceMul, reduceCtorEq, Nat.reduceAdd, Nat.reduceSub, Nat.reduceLeDiff, Nat.reduceLT, Int.reduceToNat, Int.reduceLE, Int.reduceLT, mens, men]
    refine ⟨by rw [fits_i64]; omega, ?_⟩
    refine kca_intro (sem_l1In (g0 r.copies j) 0 ((r.redex.sites.length : Int) - 1)) ?_
    cases hc : inB (g0 r.copies j) 0 ((r.redex.sites.length : Int) - 1)
    · simp only [EVA, ↓reduceIte, Nat.reduceEqDiff, Nat.reduceMul, reduceCtorEq, Nat.reduceAdd, Nat.reduceSub, Nat.reduceLeDiff, Nat.reduceLT, Int.reduceToNat, Int.reduceLE, Int.reduceLT, mens, men]
      rw [dc_false fun h : copiesOK r => inB_not.1 hc (h.1 _ (by simp [hja]))]
    · simp only [EVA, ↓reduceIte, Nat.reduceEqDiff, Nat.reduceMul, reduceCtorEq, Nat.reduceAdd, Nat.reduceSub, Nat.reduceLeDiff, Nat.reduceLT, Int.reduceToNat, Int.reduceLE, Int.reduceLT, mens, men]
      exact ⟨by rw [fits_i64]; omega, cntJ_intro () hja rfl (allN hA (inB_iff.1 hc))⟩
  · have hj1 : j = r.copies.length := by omega
    subst hj1
    have hiff : copiesOK r ↔ (r.copies.length : Int) = r.reactum.sites.length := ⟨fun h => by have := h.2; omega, fun h => ⟨fun n hn => by
      obtain ⟨k, hk, rfl⟩ := List.getElem_of_mem hn
      have := hA k hk
      simpa [hk] using this, by omega⟩⟩
    rw [dc_congr hiff, dc_decide]

theorem sem_l9Good (sig : List TControl) (r : TRule) (hn : sig.length ≤ 4294967296) (hbs : ∀ y ∈ sig, bdControl 4294967296 y) (hb : bdRule 4294967296 r) (hf : ftRule r) (lvl : Nat) (S : Sto) : Sem Go.Proofs.Tryz.prog fid_spec_l9Good lvl [.tr (.sl (sig.map cControl)), .ag ((cRule r).map .tr)] S (iB (dc (ruleOK sig r))) S := by
  have hb0 := hb
  obtain ⟨d1, d2, d3⟩ := hb
  obtain ⟨f1, f2, f3⟩ := hf
  refine sem_of_chk k_spec_l9Good trivial ?_
  simp only [c_spec_l9Good, cRule, List.length_map, EVA, ↓reduceIte, Nat.reduceEqDiff, Nat.reduceMul, reduceCtorEq, Nat.reduceAdd, Nat.reduceSub, Nat.reduceLeDiff, Nat.reduceLT, Int.reduceToNat, Int.reduceLE, Int.reduceLT, mens, men]
  refine kca_intro (sem_l8Redex sig r.redex hn hbs d1 f1) ?_
  cases h1 : dc (bigOK sig r.redex ∧ solid r.redex)
  · simp only [EVA, ↓reduceIte, Nat.reduceEqDiff, Nat.reduceMul, reduceCtorEq, Nat.reduceAdd, Nat.reduceSub, Nat.reduceLeDiff, Nat.reduceLT, Int.reduceToNat, Int.reduceLE, Int.reduceLT, mens, men]
    rw [dc_false fun h : ruleOK sig r => dc_not.1 h1 ⟨h.red, h.sol⟩]
  simp only [cRule, List.length_map, EVA, ↓reduceIte, Nat.reduceEqDiff, Nat.reduceMul, reduceCtorEq, Nat.reduceAdd, Nat.reduceSub, Nat.reduceLeDiff, Nat.reduceLT, Int.reduceToNat, Int.reduceLE, Int.reduceLT, mens, men]
  refine kca_intro (sem_l2Good sig r.reactum hn hbs d2 f2) ?_
  cases h2 : dc (bigOK sig r.reactum)
  · simp only [EVA, ↓reduceIte, Nat.reduceEqDiff, Nat.reduceMul, reduceCtorEq, Nat.reduceAdd, Nat.reduceSub, Nat.reduceLeDiff, Nat.reduceLT, Int.reduceToNat, Int.reduceLE, Int.reduceLT, mens, men]
    rw [dc_false fun h : ruleOK sig r => dc_not.1 h2 h.rea]
  have g1 := dc_iff.1 h1
  have g2 := dc_iff.1 h2
  by_cases h3 : (r.reactum.inner.length : Int) = 0
  case neg =>
    simp only [h3, cRule, List.length_map, EVA, ↓reduceIte, Nat.reduceEqDiff, Nat.reduceMul, reduceCtorEq, Nat.reduceAdd, Nat.reduceSub, Nat.reduceLeDiff, Nat.reduceLT, Int.reduceToNat, Int.reduceLE, Int.reduceLT, mens, men]
    rw [dc_false fun h : ruleOK sig r => by have := h.inn; omega]
  by_cases h4 : r.redex.roots = r.reactum.roots
  case neg =>
    simp only [h3, h4, cRule, List.length_map, EVA, ↓reduceIte, Nat.reduceEqDiff, Nat.reduceMul, reduceCtorEq, Nat.reduceAdd, Nat.reduceSub, Nat.reduceLeDiff, Nat.reduceLT, Int.reduceToNat, Int.reduceLE, Int.reduceLT, mens, men]
    rw [dc_false fun h : ruleOK sig r => h4 h.roots]
  have h4' : (r.redex.roots = r.reactum.roots) = True := eq_true h4
  simp only [h3, h4', cRule, List.length_map, EVA, ↓reduceIte, Nat.reduceEqDiff, Nat.reduceMul, reduceCtorEq, Nat.reduceAdd, Nat.reduceSub, Nat.reduceLeDiff, Nat.reduceLT, Int.reduceToNat, Int.reduceLE, Int.reduceLT, mens, men]
  have o1 := g1.1.outer.2
  have o2 := g2.outer.2
  refine kca_intro (sem_l3SameNames r.redex.outer r.reactum.outer (by omega) (by omega)) ?_
  cases h5 : dc (r.redex.outer = r.reactum.outer)
  · simp only [EVA, ↓reduceIte, Nat.reduceEqDiff, Nat.reduceMul, reduceCtorEq, Nat.reduceAdd, Nat.reduceSub, Nat.reduceLeDiff, Nat.reduceLT, Int.reduceToNat, Int.reduceLE, Int.reduceLT, mens, men]
    rw [dc_false fun h : ruleOK sig r => dc_not.1 h5 h.outer]
  simp only [cRule, List.length_map, EVA, ↓reduceIte, Nat.reduceEqDiff, Nat.reduceMul, reduceCtorEq, Nat.reduceAdd, Nat.reduceSub, Nat.reduceLeDiff, Nat.reduceLT, Int.reduceToNat, Int.reduceLE, Int.reduceLT, mens, men]
  refine kca_intro (sem_l9Copies r hb0) ?_
  simp only [EVA, ↓reduceIte, Nat.reduceEqDiff, Nat.reduceMul, reduceCtorEq, Nat.reduceAdd, Nat.reduceSub, Nat.reduceLeDiff, Nat.reduceLT, Int.reduceToNat, Int.reduceLE, Int.reduceLT, mens, men]
  rw [dc_congr (p := ruleOK sig r) (q := copiesOK r) ⟨fun h => ⟨h.copies, h.len⟩, fun h => ⟨g1.1, g1.2, g2, by omega, h4, dc_iff.1 h5, h.1, h.2⟩⟩]

theorem sem_areTwo (sig : List TControl) (a b : TBigraph) (hn : sig.length ≤ 4294967296) (hbs : ∀ y ∈ sig, bdControl 4294967296 y) (ha : bdBigraph 4294967296 a) (hb : bdBigraph 4294967296 b) (lvl : Nat) (S : Sto) : Sem Go.Proofs.Tryz.prog fid_impl_areTwo lvl [.tr (.sl (sig.map cControl)), .ag ((cBigraph a).map .tr), .ag ((cBigraph b).map .tr)] S (iB (dc (bigOK sig a ∧ bigOK sig b))) S := by
  refine sem_of_chk k_impl_areTwo trivial ?_
  simp only [c_impl_areTwo, cBigraph, List.length_map, EVA, ↓reduceIte, Nat.reduceEqDiff, Nat.reduceMul, reduceCtorEq, Nat.reduceAdd, Nat.reduceSub, Nat.reduceLeDiff, Nat.reduceLT, Int.reduceToNat, Int.reduceLE, Int.reduceLT, mens, men]
  refine kca_intro (sem_impl_IsBigraph sig a hn hbs ha) ?_
  cases h1 : dc (bigOK sig a)
  · simp only [EVA, ↓reduceIte, Nat.reduceEqDiff, Nat.reduceMul, reduceCtorEq, Nat.reduceAdd, Nat.reduceSub, Nat.reduceLeDiff, Nat.reduceLT, Int.reduceToNat, Int.reduceLE, Int.reduceLT, mens, men]
    rw [dc_false fun h : bigOK sig a ∧ bigOK sig b => dc_not.1 h1 h.1]
  simp only [cBigraph, List.length_map, EVA, ↓reduceIte, Nat.reduceEqDiff, Nat.reduceMul, reduceCtorEq, Nat.reduceAdd, Nat.reduceSub, Nat.reduceLeDiff, Nat.reduceLT, Int.reduceToNat, Int.reduceLE, Int.reduceLT, mens, men]
  refine kca_intro (sem_impl_IsBigraph sig b hn hbs hb) ?_
  simp only [EVA, ↓reduceIte, Nat.reduceEqDiff, Nat.reduceMul, reduceCtorEq, Nat.reduceAdd, Nat.reduceSub, Nat.reduceLeDiff, Nat.reduceLT, Int.reduceToNat, Int.reduceLE, Int.reduceLT, mens, men]
  rw [dc_congr (p := bigOK sig a ∧ bigOK sig b) (q := bigOK sig b) ⟨fun h => h.2, fun h => ⟨dc_iff.1 h1, h⟩⟩]

theorem sem_IsRule_1 (k : Int) (r : TRule) (hb : r.redex.sites.length ≤ 4294967296) (lvl : Nat) (S : Sto) : Sem Go.Proofs.Tryz.prog fid_impl_IsRule_1 lvl [iI k, .ta (cRule r)] S (iB (!dc (copyOK r k))) S := by
  refine sem_of_chk k_impl_IsRule_1 trivial ?_
  simp only [c_impl_IsRule_1, cRule, List.length_map, EVA, ↓reduceIte, Nat.reduceEqDiff, Nat.reduceMul, reduceCtorEq, Nat.reduceAdd, Nat.reduceSub, Nat.reduceLeDiff, Nat.reduceLT, Int.reduceToNat, Int.reduceLE, Int.reduceLT, mens, men]
  refine ⟨by rw [fits_i64]; omega, ?_⟩
  refine kca_intro (sem_within k 0 ((r.redex.sites.length : Int) - 1)) ?_
  simp only [EVA, ↓reduceIte, Nat.reduceEqDiff, Nat.reduceMul, reduceCtorEq, Nat.reduceAdd, Nat.reduceSub, Nat.reduceLeDiff, Nat.reduceLT, Int.reduceToNat, Int.reduceLE, Int.reduceLT, mens, men]
  rw [inB_dc]
  rfl

theorem g_eqS : chkF Go.Proofs.Tryz.prog fid_slices_Equal_string_string gEq1 = true := by kernel_rfl

theorem sem_impl_IsRule (sig : List TControl) (r : TRule) (hn : sig.length ≤ 4294967296) (hbs : ∀ y ∈ sig, bdControl 4294967296 y) (hb : bdRule 4294967296 r) (_hf : ftRule r) (lvl : Nat) (S : Sto) : Sem Go.Proofs.Tryz.prog fid_impl_IsRule lvl [.tr (.sl (sig.map cControl)), .ag ((cRule r).map .tr)] S (iB (dc (ruleOK sig r))) S := by
  obtain ⟨d1, d2, d3⟩ := hb
  refine sem_of_chk k_impl_IsRule trivial ?_
  simp only [c_impl_IsRule, cRule, List.length_map, EVA, ↓reduceIte, Nat.reduceEqDiff, Nat.reduceMul, reduceCtorEq, Nat.reduceAdd, Nat.reduceSub, Nat.reduceLeDiff, Nat.reduceLT, Int.reduceToNat, Int.reduceLE, Int.reduceLT, mens, men]
  refine kca_intro (sem_areTwo sig r.redex r.reactum hn hbs d1 d2) ?_
  cases h1 : dc (bigOK sig r.redex ∧ bigOK sig r.reactum)
  · simp only [EVA, ↓reduceIte, Nat.reduceEqDiff, Nat.reduceMul, reduceCtorEq, Nat.reduceAdd, Nat.reduceSub, Nat.reduceLeDiff, Nat.reduceLT, Int.reduceToNat, Int.reduceLE, Int.reduceLT, mens, men]
    rw [dc_false fun h : ruleOK sig r => dc_not.1 h1 ⟨h.red, h.rea⟩]
  have g1 := dc_iff.1 h1
  simp only [cRule, List.length_map, EVA, ↓reduceIte, Nat.reduceEqDiff, Nat.reduceMul, reduceCtorEq, Nat.reduceAdd, Nat.reduceSub, Nat.reduceLeDiff, Nat.reduceLT, Int.reduceToNat, Int.reduceLE, Int.reduceLT, mens, men]
  refine kca_intro (sem_impl_isRedex r.redex g1.1.small) ?_
  cases h2 : dc (solid r.redex)
  · simp only [EVA, ↓reduceIte, Nat.reduceEqDiff, Nat.reduceMul, reduceCtorEq, Nat.reduceAdd, Nat.reduceSub, Nat.reduceLeDiff, Nat.reduceLT, Int.reduceToNat, Int.reduceLE, Int.reduceLT, mens, men]
    rw [dc_false fun h : ruleOK sig r => dc_not.1 h2 h.sol]
  by_cases h3 : (0 : Int) < r.reactum.inner.length
  · simp only [h3, cRule, List.length_map, EVA, ↓reduceIte, Nat.reduceEqDiff, Nat.reduceMul, reduceCtorEq, Nat.reduceAdd, Nat.reduceSub, Nat.reduceLeDiff, Nat.reduceLT, Int.reduceToNat, Int.reduceLE, Int.reduceLT, mens, men]
    rw [dc_false fun h : ruleOK sig r => by have := h.inn; omega]
  by_cases h4 : r.redex.roots = r.reactum.roots
  case neg =>
    simp only [h3, h4, cRule, List.length_map, EVA, ↓reduceIte, Nat.reduceEqDiff, Nat.reduceMul, reduceCtorEq, Nat.reduceAdd, Nat.reduceSub, Nat.reduceLeDiff, Nat.reduceLT, Int.reduceToNat, Int.reduceLE, Int.reduceLT, mens, men]
    rw [dc_false fun h : ruleOK sig r => h4 h.roots]
  have h4' : (r.redex.roots = r.reactum.roots) = True := eq_true h4
  simp only [h3, h4', cRule, List.length_map, EVA, ↓reduceIte, Nat.reduceEqDiff, Nat.reduceMul, reduceCtorEq, Nat.reduceAdd, Nat.reduceSub, Nat.reduceLeDiff, Nat.reduceLT, Int.reduceToNat, Int.reduceLE, Int.reduceLT, mens, men]
  have o1 := g1.1.outer.2
  have o2 := g1.2.outer.2
  refine kca_intro (sem_eq1 g_eqS cmpTS r.redex.outer r.reactum.outer (by omega)) ?_
  by_cases h5 : r.redex.outer = r.reactum.outer
  case neg =>
    simp only [h5, cRule, List.length_map, EVA, ↓reduceIte, Nat.reduceEqDiff, Nat.reduceMul, reduceCtorEq, Nat.reduceAdd, Nat.reduceSub, Nat.reduceLeDiff, Nat.reduceLT, Int.reduceToNat, Int.reduceLE, Int.reduceLT, mens, men]
    rw [dc_false fun h : ruleOK sig r => h5 h.outer]
  have h5' : (r.redex.outer = r.reactum.outer) = True := eq_true h5
  by_cases h6 : r.copies.length = r.reactum.sites.length
  case neg =>
    have h6' : ¬ (r.copies.length : Int) = r.reactum.sites.length := by omega
    simp only [h5', h6', cRule, List.length_map, EVA, ↓reduceIte, Nat.reduceEqDiff, Nat.reduceMul, reduceCtorEq, Nat.reduceAdd, Nat.reduceSub, Nat.reduceLeDiff, Nat.reduceLT, Int.reduceToNat, Int.reduceLE, Int.reduceLT, mens, men]
    rw [dc_false fun h : ruleOK sig r => h6 h.len]
  have h6' : ((r.copies.length : Int) = r.reactum.sites.length) = True := eq_true (by omega)
  simp only [h5', h6', cRule, List.length_map, EVA, ↓reduceIte, Nat.reduceEqDiff, Nat.reduceMul, reduceCtorEq, Nat.reduceAdd, Nat.reduceSub, Nat.reduceLeDiff, Nat.reduceLT, Int.reduceToNat, Int.reduceLE, Int.reduceLT, mens, men]
  refine kca_intro (sem_coF1 (t := tv) (cs := [cRule r]) g_coFI g_ixFI r.copies (by omega) (fun x _ lvl S => sem_IsRule_1 x r d1.2.2.1 lvl S)) ?_
  cases h7 : r.copies.any fun k => !dc (copyOK r k)
  · simp only [EVA, ↓reduceIte, Nat.reduceEqDiff, Nat.reduceMul, reduceCtorEq, Nat.reduceAdd, Nat.reduceSub, Nat.reduceLeDiff, Nat.reduceLT, Int.reduceToNat, Int.reduceLE, Int.reduceLT, mens, men]
    have : ruleOK sig r := ⟨g1.1, dc_iff.1 h2, g1.2, by omega, h4, h5, any_no.1 h7, h6⟩
    rw [dc_true this]
  · simp only [EVA, ↓reduceIte, Nat.reduceEqDiff, Nat.reduceMul, reduceCtorEq, Nat.reduceAdd, Nat.reduceSub, Nat.reduceLeDiff, Nat.reduceLT, Int.reduceToNat, Int.reduceLE, Int.reduceLT, mens, men]
    rw [dc_false fun h : ruleOK sig r => by rw [any_no.2 h.copies] at h7; cases h7]
end Go.Fd

/-
  GUARDED RULES, BOTH SIDES. Own work.
-/
namespace Go.Fd
set_option maxRecDepth 20000

structure guardOK (sig : List TControl) (g : TGuard) : Prop where
  wh : 1 ≤ g.where_ ∧ g.where_ ≤ 3
  big : bigOK sig g.pattern
  sol : solid g.pattern

theorem sem_l9Guard (sig : List TControl) (g : TGuard) (hn : sig.length ≤ 4294967296) (hbs : ∀ y ∈ sig, bdControl 4294967296 y) (hb : bdGuard 4294967296 g) (hf : ftGuard g) (lvl : Nat) (S : Sto) : Sem Go.Proofs.Tryz.prog fid_spec_l9Guard lvl [.tr (.sl (sig.map cControl)), .ag ((cGuard g).map .tr)] S (iB (dc (guardOK sig g))) S := by
  refine sem_of_chk k_spec_l9Guard trivial ?_
  simp only [c_spec_l9Guard, cGuard, List.length_map, EVA, ↓reduceIte, Nat.reduceEqDiff, Nat.reduceMul, reduceCtorEq, Nat.reduceAdd, Nat.reduceSub, Nat.reduceLeDiff, Nat.reduceLT, Int.reduceToNat, Int.reduceLE, Int.reduceLT, mens, men]
  refine kca_intro (sem_l1In g.where_ 1 3) ?_
  cases h1 : inB g.where_ 1 3
  · simp only [EVA, ↓reduceIte, Nat.reduceEqDiff, Nat.reduceMul, reduceCtorEq, Nat.reduceAdd, Nat.reduceSub, Nat.reduceLeDiff, Nat.reduceLT, Int.reduceToNat, Int.reduceLE, Int.reduceLT, mens, men]
    rw [dc_false fun h : guardOK sig g => inB_not.1 h1 h.wh]
  simp only [cGuard, List.length_map, EVA, ↓reduceIte, Nat.reduceEqDiff, Nat.reduceMul, reduceCtorEq, Nat.reduceAdd, Nat.reduceSub, Nat.reduceLeDiff, Nat.reduceLT, Int.reduceToNat, Int.reduceLE, Int.reduceLT, mens, men]
  refine kca_intro (sem_l8Redex sig g.pattern hn hbs hb hf.2) ?_
  simp only [EVA, ↓reduceIte, Nat.reduceEqDiff, Nat.reduceMul, reduceCtorEq, Nat.reduceAdd, Nat.reduceSub, Nat.reduceLeDiff, Nat.reduceLT, Int.reduceToNat, Int.reduceLE, Int.reduceLT, mens, men]
  rw [dc_congr (p := guardOK sig g) (q := bigOK sig g.pattern ∧ solid g.pattern) ⟨fun h => ⟨h.big, h.sol⟩, fun h => ⟨inB_iff.1 h1, h.1, h.2⟩⟩]

structure guardedOK (sig : List TControl) (g : TGuardedRule) : Prop where
  guards : ∀ x ∈ g.guards, guardOK sig x
  rule : ruleOK sig g.rule
  few : g.guards.length ≤ 4
  prio : 0 ≤ g.priority ∧ g.priority ≤ 9

theorem sem_l9Guarded (sig : List TControl) (g : TGuardedRule) (hn : sig.length ≤ 4294967296) (hbs : ∀ y ∈ sig, bdControl 4294967296 y) (hb : bdGuardedRule 4294967296 g) (hf : ftGuardedRule g) (lvl : Nat) (S : Sto) : Sem Go.Proofs.Tryz.prog fid_spec_l9Guarded lvl [.tr (.sl (sig.map cControl)), .ag ((cGuardedRule g).map .tr)] S (iB (dc (guardedOK sig g))) S := by
  obtain ⟨d1, d2, d3⟩ := hb
  obtain ⟨f1, f2, f3⟩ := hf
  refine sem_of_chk k_spec_l9Guarded trivial ?_
  simp only [c_spec_l9Guarded, cGuardedRule, List.length_map, EVA, ↓reduceIte, Nat.reduceEqDiff, Nat.reduceMul, reduceCtorEq, Nat.reduceAdd, Nat.reduceSub, Nat.reduceLeDiff, Nat.reduceLT, Int.reduceToNat, Int.reduceLE, Int.reduceLT, mens, men]
  refine wp_cnt (α := Unit) g.guards.length (fun j _ => [(5, iI j)]) (fun j _ => []) (fun j _ => ∀ k, k < j → ∀ h : k < g.guards.length, guardOK sig g.guards[k]) () (by simp only [EVA, ↓reduceIte, Nat.reduceEqDiff, Nat.reduceMul, reduceCtorEq, Nat.reduceAdd, Nat.reduceSub, Nat.reduceLeDiff, Nat.reduceLT, Int.reduceToNat, Int.reduceLE, Int.reduceLT, mens, men]) (by (simp only [EVA, ↓reduceIte, Nat.reduceEqDiff, Nat.reduceMul, reduceCtorEq, Nat.reduceAdd, Nat.reduceSub, Nat.reduceLeDiff, Nat.reduceLT, Int.reduceToNat, Int.reduceLE, Int.reduceLT, mens, men]) <;> rfl) (fun k hk => absurd hk (Nat.not_lt_zero k)) ?_
  intro j _ hj hA
  simp only [List.length_map, EVA, ↓reduceIte, Nat.reduceEqDiff, Nat.reduceMul, reduceCtorEq, Nat.reduceAdd, Nat.reduceSub, Nat.reduceLeDiff, Nat.reduceLT, Int.reduceToNat, Int.reduceLE, Int.reduceLT, mens, men]
  refine ite_of (fun hlt => ?_) (fun hge => ?_)
  · have hja : j < g.guards.length := by omega
    have ga := getA (c := cGuard) hja
    have hm := List.getElem_mem hja
    simp only [ga, cGuard, List.length_map, EVA, ↓reduceIte, Nat.reduceEqDiff, Nat.reduceMul, reduceCtorEq, Nat.reduceAdd, Nat.reduceSub, Nat.reduceLeDiff, Nat.reduceLT, Int.reduceToNat, Int.reduceLE, Int.reduceLT, mens, men]
    refine kca_intro (sem_l9Guard sig g.guards[j] hn hbs (d3 _ hm) (f2 _ hm)) ?_
    cases hc : dc (guardOK sig g.guards[j])
    · simp only [EVA, ↓reduceIte, Nat.reduceEqDiff, Nat.reduceMul, reduceCtorEq, Nat.reduceAdd, Nat.reduceSub, Nat.reduceLeDiff, Nat.reduceLT, Int.reduceToNat, Int.reduceLE, Int.reduceLT, mens, men]
      rw [dc_false fun h : guardedOK sig g => dc_not.1 hc (h.guards _ hm)]
    · simp only [EVA, ↓reduceIte, Nat.reduceEqDiff, Nat.reduceMul, reduceCtorEq, Nat.reduceAdd, Nat.reduceSub, Nat.reduceLeDiff, Nat.reduceLT, Int.reduceToNat, Int.reduceLE, Int.reduceLT, mens, men]
      exact ⟨by rw [fits_i64]; omega, cntJ_intro () hja rfl (allN hA fun _ => dc_iff.1 hc)⟩
  have hj1 : j = g.guards.length := by omega
  subst hj1
  refine kca_intro (sem_l9Good sig g.rule hn hbs d1 f1) ?_
  cases h1 : dc (ruleOK sig g.rule)
  · simp only [EVA, ↓reduceIte, Nat.reduceEqDiff, Nat.reduceMul, reduceCtorEq, Nat.reduceAdd, Nat.reduceSub, Nat.reduceLeDiff, Nat.reduceLT, Int.reduceToNat, Int.reduceLE, Int.reduceLT, mens, men]
    rw [dc_false fun h : guardedOK sig g => dc_not.1 h1 h.rule]
  by_cases h2 : (g.guards.length : Int) ≤ 4
  case neg =>
    simp only [h2, cGuardedRule, List.length_map, EVA, ↓reduceIte, Nat.reduceEqDiff, Nat.reduceMul, reduceCtorEq, Nat.reduceAdd, Nat.reduceSub, Nat.reduceLeDiff, Nat.reduceLT, Int.reduceToNat, Int.reduceLE, Int.reduceLT, mens, men]
    rw [dc_false fun h : guardedOK sig g => by have := h.few; omega]
  simp only [h2, cGuardedRule, List.length_map, EVA, ↓reduceIte, Nat.reduceEqDiff, Nat.reduceMul, reduceCtorEq, Nat.reduceAdd, Nat.reduceSub, Nat.reduceLeDiff, Nat.reduceLT, Int.reduceToNat, Int.reduceLE, Int.reduceLT, mens, men]
  refine kca_intro (sem_l1In g.priority 0 9) ?_
  simp only [EVA, ↓reduceIte, Nat.reduceEqDiff, Nat.reduceMul, reduceCtorEq, Nat.reduceAdd, Nat.reduceSub, Nat.reduceLeDiff, Nat.reduceLT, Int.reduceToNat, Int.reduceLE, Int.reduceLT, mens, men]
  rw [inB_dc, dc_congr (p := guardedOK sig g) (q := 0 ≤ g.priority ∧ g.priority ≤ 9) ⟨fun h => h.prio, fun h => ⟨fun x hx => by
    obtain ⟨k, hk, rfl⟩ := List.getElem_of_mem hx
    exact hA k hk hk, dc_iff.1 h1, by omega, h⟩⟩]

theorem sem_spec_IsGuardedRule (sig : List TControl) (g : TGuardedRule) (hn : sig.length ≤ 4294967296) (hbs : ∀ y ∈ sig, bdControl 4294967296 y) (hb : bdGuardedRule 4294967296 g) (hf : ftGuardedRule g) (lvl : Nat) (S : Sto) : Sem Go.Proofs.Tryz.prog fid_spec_IsGuardedRule lvl [.tr (.sl (sig.map cControl)), .ag ((cGuardedRule g).map .tr)] S (iB (dc (guardedOK sig g))) S := by
  refine sem_of_chk k_spec_IsGuardedRule trivial ?_
  simp only [c_spec_IsGuardedRule, cGuardedRule, List.length_map, EVA, ↓reduceIte, Nat.reduceEqDiff, Nat.reduceMul, reduceCtorEq, Nat.reduceAdd, Nat.reduceSub, Nat.reduceLeDiff, Nat.reduceLT, Int.reduceToNat, Int.reduceLE, Int.reduceLT, mens, men]
  refine kca_intro (sem_l9Guarded sig g hn hbs hb hf) ?_
  simp only [EVA, ↓reduceIte, Nat.reduceEqDiff, Nat.reduceMul, reduceCtorEq, Nat.reduceAdd, Nat.reduceSub, Nat.reduceLeDiff, Nat.reduceLT, Int.reduceToNat, Int.reduceLE, Int.reduceLT, mens, men]

theorem sem_isGuard (sig : List TControl) (g : TGuard) (hn : sig.length ≤ 4294967296) (hbs : ∀ y ∈ sig, bdControl 4294967296 y) (hb : bdGuard 4294967296 g) (lvl : Nat) (S : Sto) : Sem Go.Proofs.Tryz.prog fid_impl_isGuard lvl [.tr (.sl (sig.map cControl)), .ag ((cGuard g).map .tr)] S (iB (dc (guardOK sig g))) S := by
  refine sem_of_chk k_impl_isGuard trivial ?_
  simp only [c_impl_isGuard, cGuard, List.length_map, EVA, ↓reduceIte, Nat.reduceEqDiff, Nat.reduceMul, reduceCtorEq, Nat.reduceAdd, Nat.reduceSub, Nat.reduceLeDiff, Nat.reduceLT, Int.reduceToNat, Int.reduceLE, Int.reduceLT, mens, men]
  refine kca_intro (sem_within g.where_ 1 3) ?_
  cases h1 : inB g.where_ 1 3
  · simp only [EVA, ↓reduceIte, Nat.reduceEqDiff, Nat.reduceMul, reduceCtorEq, Nat.reduceAdd, Nat.reduceSub, Nat.reduceLeDiff, Nat.reduceLT, Int.reduceToNat, Int.reduceLE, Int.reduceLT, mens, men]
    rw [dc_false fun h : guardOK sig g => inB_not.1 h1 h.wh]
  simp only [cGuard, List.length_map, EVA, ↓reduceIte, Nat.reduceEqDiff, Nat.reduceMul, reduceCtorEq, Nat.reduceAdd, Nat.reduceSub, Nat.reduceLeDiff, Nat.reduceLT, Int.reduceToNat, Int.reduceLE, Int.reduceLT, mens, men]
  refine kca_intro (sem_impl_IsBigraph sig g.pattern hn hbs hb) ?_
  cases h2 : dc (bigOK sig g.pattern)
  · simp only [EVA, ↓reduceIte, Nat.reduceEqDiff, Nat.reduceMul, reduceCtorEq, Nat.reduceAdd, Nat.reduceSub, Nat.reduceLeDiff, Nat.reduceLT, Int.reduceToNat, Int.reduceLE, Int.reduceLT, mens, men]
    rw [dc_false fun h : guardOK sig g => dc_not.1 h2 h.big]
  simp only [cGuard, List.length_map, EVA, ↓reduceIte, Nat.reduceEqDiff, Nat.reduceMul, reduceCtorEq, Nat.reduceAdd, Nat.reduceSub, Nat.reduceLeDiff, Nat.reduceLT, Int.reduceToNat, Int.reduceLE, Int.reduceLT, mens, men]
  have g2 := dc_iff.1 h2
  refine kca_intro (sem_impl_isRedex g.pattern g2.small) ?_
  simp only [EVA, ↓reduceIte, Nat.reduceEqDiff, Nat.reduceMul, reduceCtorEq, Nat.reduceAdd, Nat.reduceSub, Nat.reduceLeDiff, Nat.reduceLT, Int.reduceToNat, Int.reduceLE, Int.reduceLT, mens, men]
  rw [dc_congr (p := guardOK sig g) (q := solid g.pattern) ⟨fun h => h.sol, fun h => ⟨inB_iff.1 h1, g2, h⟩⟩]

theorem sem_IsGuardedRule_1 (sig : List TControl) (g : TGuard) (hn : sig.length ≤ 4294967296) (hbs : ∀ y ∈ sig, bdControl 4294967296 y) (hb : bdGuard 4294967296 g) (lvl : Nat) (S : Sto) : Sem Go.Proofs.Tryz.prog fid_impl_IsGuardedRule_1 lvl [.ag ((cGuard g).map .tr), .ta [Tr.sl (sig.map cControl)]] S (iB (!dc (guardOK sig g))) S := by
  refine sem_of_chk k_impl_IsGuardedRule_1 trivial ?_
  simp only [c_impl_IsGuardedRule_1, cGuard, EVA, ↓reduceIte, Nat.reduceEqDiff, Nat.reduceMul, reduceCtorEq, Nat.reduceAdd, Nat.reduceSub, Nat.reduceLeDiff, Nat.reduceLT, Int.reduceToNat, Int.reduceLE, Int.reduceLT, mens, men]
  refine kca_intro (sem_isGuard sig g hn hbs hb) ?_
  simp only [EVA, ↓reduceIte, Nat.reduceEqDiff, Nat.reduceMul, reduceCtorEq, Nat.reduceAdd, Nat.reduceSub, Nat.reduceLeDiff, Nat.reduceLT, Int.reduceToNat, Int.reduceLE, Int.reduceLT, mens, men]

theorem g_ixFG : chkF Go.Proofs.Tryz.prog fid_slices_IndexFunc_impl_Guard_impl_Guard (gIxF 8 (some 8)) = true := by kernel_rfl
theorem g_coFG : chkF Go.Proofs.Tryz.prog fid_slices_ContainsFunc_impl_Guard_impl_Guard (gCoF fid_slices_IndexFunc_impl_Guard_impl_Guard) = true := by kernel_rfl

theorem sem_impl_IsGuardedRule (sig : List TControl) (g : TGuardedRule) (hn : sig.length ≤ 4294967296) (hbs : ∀ y ∈ sig, bdControl 4294967296 y) (hb : bdGuardedRule 4294967296 g) (hf : ftGuardedRule g) (lvl : Nat) (S : Sto) : Sem Go.Proofs.Tryz.prog fid_impl_IsGuardedRule lvl [.tr (.sl (sig.map cControl)), .ag ((cGuardedRule g).map .tr)] S (iB (dc (guardedOK sig g))) S := by
  obtain ⟨d1, d2, d3⟩ := hb
  refine sem_of_chk k_impl_IsGuardedRule trivial ?_
  simp only [c_impl_IsGuardedRule, cGuardedRule, List.length_map, EVA, ↓reduceIte, Nat.reduceEqDiff, Nat.reduceMul, reduceCtorEq, Nat.reduceAdd, Nat.reduceSub, Nat.reduceLeDiff, Nat.reduceLT, Int.reduceToNat, Int.reduceLE, Int.reduceLT, mens, men]
  refine kca_intro (sem_impl_IsRule sig g.rule hn hbs d1 hf.1) ?_
  cases h1 : dc (ruleOK sig g.rule)
  · simp only [EVA, ↓reduceIte, Nat.reduceEqDiff, Nat.reduceMul, reduceCtorEq, Nat.reduceAdd, Nat.reduceSub, Nat.reduceLeDiff, Nat.reduceLT, Int.reduceToNat, Int.reduceLE, Int.reduceLT, mens, men]
    rw [dc_false fun h : guardedOK sig g => dc_not.1 h1 h.rule]
  by_cases h2 : (g.guards.length : Int) ≤ 4
  case neg =>
    simp only [h2, cGuardedRule, List.length_map, EVA, ↓reduceIte, Nat.reduceEqDiff, Nat.reduceMul, reduceCtorEq, Nat.reduceAdd, Nat.reduceSub, Nat.reduceLeDiff, Nat.reduceLT, Int.reduceToNat, Int.reduceLE, Int.reduceLT, mens, men]
    rw [dc_false fun h : guardedOK sig g => by have := h.few; omega]
  simp only [h2, cGuardedRule, List.length_map, EVA, ↓reduceIte, Nat.reduceEqDiff, Nat.reduceMul, reduceCtorEq, Nat.reduceAdd, Nat.reduceSub, Nat.reduceLeDiff, Nat.reduceLT, Int.reduceToNat, Int.reduceLE, Int.reduceLT, mens, men]
  refine kca_intro (sem_within g.priority 0 9) ?_
  cases h3 : inB g.priority 0 9
  · simp only [EVA, ↓reduceIte, Nat.reduceEqDiff, Nat.reduceMul, reduceCtorEq, Nat.reduceAdd, Nat.reduceSub, Nat.reduceLeDiff, Nat.reduceLT, Int.reduceToNat, Int.reduceLE, Int.reduceLT, mens, men]
    rw [dc_false fun h : guardedOK sig g => inB_not.1 h3 h.prio]
  simp only [cGuardedRule, List.length_map, EVA, ↓reduceIte, Nat.reduceEqDiff, Nat.reduceMul, reduceCtorEq, Nat.reduceAdd, Nat.reduceSub, Nat.reduceLeDiff, Nat.reduceLT, Int.reduceToNat, Int.reduceLE, Int.reduceLT, mens, men]
  refine kca_intro (sem_coFk (cs := [[Tr.sl (sig.map cControl)]]) g_coFG g_ixFG cGuard_len g.guards (by omega) (fun x hx lvl S => sem_IsGuardedRule_1 sig x hn hbs (d3 x hx) lvl S)) ?_
  cases h4 : g.guards.any fun x => !dc (guardOK sig x)
  · simp only [EVA, ↓reduceIte, Nat.reduceEqDiff, Nat.reduceMul, reduceCtorEq, Nat.reduceAdd, Nat.reduceSub, Nat.reduceLeDiff, Nat.reduceLT, Int.reduceToNat, Int.reduceLE, Int.reduceLT, mens, men]
    have : guardedOK sig g := ⟨any_no.1 h4, dc_iff.1 h1, by omega, inB_iff.1 h3⟩
    rw [dc_true this]
  · simp only [EVA, ↓reduceIte, Nat.reduceEqDiff, Nat.reduceMul, reduceCtorEq, Nat.reduceAdd, Nat.reduceSub, Nat.reduceLeDiff, Nat.reduceLT, Int.reduceToNat, Int.reduceLE, Int.reduceLT, mens, men]
    rw [dc_false fun h : guardedOK sig g => by rw [any_no.2 h.guards] at h4; cases h4]
end Go.Fd

/-
  The annotated codes of the functions, printed by a program of mine (gen.py), and the check that they belong to the program.
-/
namespace Go.Fd
def c_laws_FnExactIsGuardedRule : F2 :=
  { nt := 45, res := [.t 4 [0]], body :=
   (.sq (rg [oo 3 (.bt (.t 1)),
 om 4 (.k (.bool false))])
 (.sq (rg [om 5 (i6 1048576)])
 (.sq (rg [om 10 (.t 0),
 om 11 (.t 5),
 oo 12 (.ca .pure false (.f fid_laws_szControlS) [.t 10, .t 11]),
 om 5 (.t 12)])
 (.sq (.sq (rg [om 13 (.t 5),
 oo 14 (.bi .lss 0 (.t 13) (i6 0))])
 (.cd (.t 14) (.sq (rg [om 4 (.k (.bool true))])
 (.rt))
 (.sk)))
 (.sq (rg [oo 15 (.ld (some 15) (.t 3)),
 om 16 (.t 5),
 oo 17 (.ca .pure false (.f fid_laws_szGuardedRule) [.t 15, .t 16]),
 om 5 (.t 17)])
 (.sq (.sq (rg [om 18 (.t 5),
 oo 19 (.bi .lss 0 (.t 18) (i6 0))])
 (.cd (.t 19) (.sq (rg [om 4 (.k (.bool true))])
 (.rt))
 (.sk)))
 (.sq (.rg (some 0) [om 20 (.t 0),
 oo 21 (.ca .pure false (.f fid_laws_toControlS) [.t 20]),
 oo 22 (.ld (some 15) (.t 3)),
 oo 23 (.ca .pure false (.f fid_laws_toGuardedRule) [.t 22]),
 oo 24 (.ca .pure false (.f fid_spec_IsGuardedRule) [.t 21, .t 23]),
 om 6 (.t 24)])
 (.sq (rg [om 25 (.t 0),
 oo 26 (.ca .pure false (.f fid_laws_toControlS) [.t 25]),
 om 7 (.t 26)])
 (.sq (rg [oo 27 (.ld (some 15) (.t 3)),
 oo 28 (.ca .pure false (.f fid_laws_toGuardedRule) [.t 27]),
 oo 8 (.al [.int .i64 0, .slice none 0 0, .slice none 0 0, .int .i64 0, .slice none 0 0, .slice none 0 0, .int .i64 0, .slice none 0 0, .slice none 0 0, .int .i64 0, .slice none 0 0, .slice none 0 0, .slice none 0 0, .slice none 0 0, .int .i64 0] []),
 on1 (.st 15 (.t 8) (.t 28))])
 (.sq (rg [om 29 (.t 7),
 oo 30 (.ld (some 15) (.t 8)),
 oo 31 (.ca .pure false (.f fid_impl_IsGuardedRule) [.t 29, .t 30]),
 om 9 (.t 31)])
 (.sq (.sq (rg [om 32 (.t 9),
 om 33 (.t 6),
 oo 34 (.bi .neq 2 (.t 32) (.t 33))])
 (.cd (.t 34) (.sq (rg [om 4 (.k (.bool false))])
 (.rt))
 (.sk)))
 (.sq (.sq (rg [om 35 (.t 7),
 om 36 (.t 0),
 oo 37 (.ca .pure false (.f fid_laws_toControlS) [.t 36]),
 oo 38 (.ca .pure false (.f fid_laws_eqControlS) [.t 35, .t 37]),
 oo 39 (.nt (.t 38))])
 (.cd (.t 39) (.sq (rg [om 4 (.k (.bool false))])
 (.rt))
 (.sk)))
 (.sq (.sq (.rg (some 0) [oo 40 (.ld (some 15) (.t 8)),
 oo 41 (.ld (some 15) (.t 3)),
 oo 42 (.ca .pure false (.f fid_laws_toGuardedRule) [.t 41]),
 oo 43 (.ca .pure false (.f fid_laws_eqGuardedRule) [.t 40, .t 42]),
 oo 44 (.nt (.t 43))])
 (.cd (.t 44) (.sq (rg [om 4 (.k (.bool false))])
 (.rt))
 (.sk)))
 (.sq (rg [om 4 (.k (.bool true))])
 (.rt))))))))))))))) }
theorem k_laws_FnExactIsGuardedRule : chkF Go.Proofs.Tryz.prog fid_laws_FnExactIsGuardedRule c_laws_FnExactIsGuardedRule = true := by kernel_rfl

end Go.Fd

/-
  THE TEXT OF A MARK; THE MARKS OF NUMBERS AND TEXTS. Own work.
-/
namespace Go.Fd
set_option maxRecDepth 20000
def mt (q : Nat) (o : ByteArray) : ByteArray := if q = 0 then o else mt (q / 10) (⟨#[UInt8.ofNat (48 + q % 10)]⟩ ++ o)
  termination_by q
  decreasing_by omega
end Go.Fd

/-
  WHAT THE MARKING FUNCTIONS DO (printed by lawgen.py). Own work.
-/
namespace Go.Fd
set_option maxRecDepth 20000
end Go.Fd

/-
  The annotated codes of the functions, printed by a program of mine (gen.py), and the check that they belong to the program.
-/
namespace Go.Fd
def c_laws_szGuardedRule : F2 :=
  { nt := 18, res := [.t 4 [0]], body :=
   (.sq (rg [oo 2 (.bt (.t 0)),
 om 4 (i6 0)])
 (.sq (rg [oo 5 (.fa 0 (.t 2)),
 oo 6 (.ld (some 13) (.t 5)),
 om 7 (.t 1),
 oo 8 (.ca .pure false (.f fid_laws_szRule) [.t 6, .t 7]),
 om 1 (.t 8)])
 (.sq (.sq (rg [om 9 (.t 1),
 oo 10 (.bi .lss 0 (.t 9) (i6 0))])
 (.cd (.t 10) (.sq (rg [om 4 (i6 (-1))])
 (.rt))
 (.sk)))
 (.sq (rg [oo 11 (.fa 13 (.t 2)),
 oo 12 (.ld none (.t 11)),
 om 13 (.t 1),
 oo 14 (.ca .pure false (.f fid_laws_szGuardS) [.t 12, .t 13]),
 om 1 (.t 14)])
 (.sq (.sq (rg [om 15 (.t 1),
 oo 16 (.bi .lss 0 (.t 15) (i6 0))])
 (.cd (.t 16) (.sq (rg [om 4 (i6 (-1))])
 (.rt))
 (.sk)))
 (.sq (rg [om 17 (.t 1),
 om 4 (.t 17)])
 (.rt))))))) }
theorem k_laws_szGuardedRule : chkF Go.Proofs.Tryz.prog fid_laws_szGuardedRule c_laws_szGuardedRule = true := by kernel_rfl

def c_laws_toControlS : F2 :=
  { nt := 23, res := [.t 2 [4]], body :=
   (.sq (rg [om 2 (.k (.slice none 0 0))])
 (.sq (rg [om 5 (.t 0),
 oo 6 (.ln (.t 5)),
 oo 7 (.ms 3 [.string ⟨#[]⟩, .int .i64 0, .int .i64 0] (.t 6)),
 om 3 (.t 7)])
 (.sq (.sq (rg [om 4 (i6 0)])
 (.bl 0 (.lp [0, 3, 4] [224] (.sq (.sq (rg [om 8 (.t 4),
 om 9 (.t 0),
 oo 10 (.ln (.t 9)),
 oo 11 (.bi .lss 0 (.t 8) (.t 10))])
 (.cd (.t 11) (.sk)
 (.ex 0)))
 (.sq (.bl 1 (rg [om 14 (.t 3),
 om 15 (.t 4),
 om 16 (.t 0),
 om 17 (.t 4),
 oo 18 (.ia 3 (.t 16) (.t 17)),
 oo 19 (.ld (some 3) (.t 18)),
 oo 20 (.ca .pure true (.f fid_laws_toControl) [.t 19]),
 oo 21 (.ia 3 (.t 14) (.t 15)),
 on1 (.st 3 (.t 21) (.t 20))]))
 (rg [om 12 (.t 4),
 oo 13 (.bi .add 0 (.t 12) (i6 1)),
 om 4 (.t 13)]))))))
 (.sq (rg [om 22 (.t 3),
 om 2 (.t 22)])
 (.rt))))) }
theorem k_laws_toControlS : chkF Go.Proofs.Tryz.prog fid_laws_toControlS c_laws_toControlS = true := by kernel_rfl

def c_laws_toGuardedRule : F2 :=
  { nt := 16, res := [.c 2 (some 15) [0, 0, 0, 0, 0, 0, 0, 0, 0, 0, 0, 0, 0, 9, 0]], body :=
   (.sq (rg [oo 1 (.bt (.t 0)),
 oo 2 (.al [.int .i64 0, .slice none 0 0, .slice none 0 0, .int .i64 0, .slice none 0 0, .slice none 0 0, .int .i64 0, .slice none 0 0, .slice none 0 0, .int .i64 0, .slice none 0 0, .slice none 0 0, .slice none 0 0, .slice none 0 0, .int .i64 0] [])])
 (.sq (rg [oo 3 (.al [.int .i64 0, .slice none 0 0, .slice none 0 0, .int .i64 0, .slice none 0 0, .slice none 0 0, .int .i64 0, .slice none 0 0, .slice none 0 0, .int .i64 0, .slice none 0 0, .slice none 0 0, .slice none 0 0, .slice none 0 0, .int .i64 0] [])])
 (.sq (rg [oo 4 (.fa 0 (.t 1)),
 oo 5 (.ld (some 13) (.t 4)),
 oo 6 (.ca .pure true (.f fid_laws_toRule) [.t 5]),
 oo 7 (.fa 0 (.t 3)),
 on1 (.st 13 (.t 7) (.t 6))])
 (.sq (rg [oo 8 (.fa 13 (.t 1)),
 oo 9 (.ld none (.t 8)),
 oo 10 (.ca .pure true (.f fid_laws_toGuardS) [.t 9]),
 oo 11 (.fa 13 (.t 3)),
 on1 (.st 1 (.t 11) (.t 10))])
 (.sq (rg [oo 12 (.fa 14 (.t 1)),
 oo 13 (.ld none (.t 12)),
 oo 14 (.fa 14 (.t 3)),
 on1 (.st 1 (.t 14) (.t 13))])
 (.sq (rg [oo 15 (.ld (some 15) (.t 3)),
 on1 (.st 15 (.t 2) (.t 15))])
 (.rt))))))) }
theorem k_laws_toGuardedRule : chkF Go.Proofs.Tryz.prog fid_laws_toGuardedRule c_laws_toGuardedRule = true := by kernel_rfl

def c_laws_eqGuardedRule : F2 :=
  { nt := 22, res := [.t 4 [0]], body :=
   (.sq (rg [oo 2 (.bt (.t 0)),
 oo 3 (.bt (.t 1)),
 om 4 (.k (.bool false))])
 (.sq (.sq (rg [oo 5 (.fa 0 (.t 2)),
 oo 6 (.ld (some 13) (.t 5)),
 oo 7 (.fa 0 (.t 3)),
 oo 8 (.ld (some 13) (.t 7)),
 oo 9 (.ca .pure false (.f fid_laws_eqRule) [.t 6, .t 8]),
 oo 10 (.nt (.t 9))])
 (.cd (.t 10) (.sq (rg [om 4 (.k (.bool false))])
 (.rt))
 (.sk)))
 (.sq (.sq (rg [oo 11 (.fa 13 (.t 2)),
 oo 12 (.ld none (.t 11)),
 oo 13 (.fa 13 (.t 3)),
 oo 14 (.ld none (.t 13)),
 oo 15 (.ca .pure false (.f fid_laws_eqGuardS) [.t 12, .t 14]),
 oo 16 (.nt (.t 15))])
 (.cd (.t 16) (.sq (rg [om 4 (.k (.bool false))])
 (.rt))
 (.sk)))
 (.sq (.sq (rg [oo 17 (.fa 14 (.t 2)),
 oo 18 (.ld none (.t 17)),
 oo 19 (.fa 14 (.t 3)),
 oo 20 (.ld none (.t 19)),
 oo 21 (.bi .neq 0 (.t 18) (.t 20))])
 (.cd (.t 21) (.sq (rg [om 4 (.k (.bool false))])
 (.rt))
 (.sk)))
 (.sq (rg [om 4 (.k (.bool true))])
 (.rt)))))) }
theorem k_laws_eqGuardedRule : chkF Go.Proofs.Tryz.prog fid_laws_eqGuardedRule c_laws_eqGuardedRule = true := by kernel_rfl

def c_laws_szBigraph : F2 :=
  { nt := 30, res := [.t 4 [0]], body :=
   (.sq (rg [oo 2 (.bt (.t 0)),
 om 4 (i6 0)])
 (.sq (rg [oo 5 (.fa 1 (.t 2)),
 oo 6 (.ld none (.t 5)),
 om 7 (.t 1),
 oo 8 (.ca .pure false (.f fid_laws_szNodeS) [.t 6, .t 7]),
 om 1 (.t 8)])
 (.sq (.sq (rg [om 9 (.t 1),
 oo 10 (.bi .lss 0 (.t 9) (i6 0))])
 (.cd (.t 10) (.sq (rg [om 4 (i6 (-1))])
 (.rt))
 (.sk)))
 (.sq (rg [oo 11 (.fa 2 (.t 2)),
 oo 12 (.ld none (.t 11)),
 om 13 (.t 1),
 oo 14 (.ca .pure false (.f fid_laws_szIntS) [.t 12, .t 13]),
 om 1 (.t 14)])
 (.sq (.sq (rg [om 15 (.t 1),
 oo 16 (.bi .lss 0 (.t 15) (i6 0))])
 (.cd (.t 16) (.sq (rg [om 4 (i6 (-1))])
 (.rt))
 (.sk)))
 (.sq (rg [oo 17 (.fa 4 (.t 2)),
 oo 18 (.ld none (.t 17)),
 om 19 (.t 1),
 oo 20 (.ca .pure false (.f fid_laws_szStringS) [.t 18, .t 19]),
 om 1 (.t 20)])
 (.sq (.sq (rg [om 21 (.t 1),
 oo 22 (.bi .lss 0 (.t 21) (i6 0))])
 (.cd (.t 22) (.sq (rg [om 4 (i6 (-1))])
 (.rt))
 (.sk)))
 (.sq (rg [oo 23 (.fa 5 (.t 2)),
 oo 24 (.ld none (.t 23)),
 om 25 (.t 1),
 oo 26 (.ca .pure false (.f fid_laws_szWireS) [.t 24, .t 25]),
 om 1 (.t 26)])
 (.sq (.sq (rg [om 27 (.t 1),
 oo 28 (.bi .lss 0 (.t 27) (i6 0))])
 (.cd (.t 28) (.sq (rg [om 4 (i6 (-1))])
 (.rt))
 (.sk)))
 (.sq (rg [om 29 (.t 1),
 om 4 (.t 29)])
 (.rt))))))))))) }
theorem k_laws_szBigraph : chkF Go.Proofs.Tryz.prog fid_laws_szBigraph c_laws_szBigraph = true := by kernel_rfl

def c_laws_toBigraph : F2 :=
  { nt := 27, res := [.c 2 (some 6) [0, 4, 2, 0, 2, 3]], body :=
   (.sq (rg [oo 1 (.bt (.t 0)),
 oo 2 (.al [.int .i64 0, .slice none 0 0, .slice none 0 0, .int .i64 0, .slice none 0 0, .slice none 0 0] [])])
 (.sq (rg [oo 3 (.al [.int .i64 0, .slice none 0 0, .slice none 0 0, .int .i64 0, .slice none 0 0, .slice none 0 0] [])])
 (.sq (rg [oo 4 (.fa 0 (.t 1)),
 oo 5 (.ld none (.t 4)),
 oo 6 (.fa 0 (.t 3)),
 on1 (.st 1 (.t 6) (.t 5))])
 (.sq (rg [oo 7 (.fa 1 (.t 1)),
 oo 8 (.ld none (.t 7)),
 oo 9 (.ca .pure true (.f fid_laws_toNodeS) [.t 8]),
 oo 10 (.fa 1 (.t 3)),
 on1 (.st 1 (.t 10) (.t 9))])
 (.sq (rg [oo 11 (.fa 2 (.t 1)),
 oo 12 (.ld none (.t 11)),
 oo 13 (.ca .pure true (.f fid_laws_toIntS) [.t 12]),
 oo 14 (.fa 2 (.t 3)),
 on1 (.st 1 (.t 14) (.t 13))])
 (.sq (rg [oo 15 (.fa 3 (.t 1)),
 oo 16 (.ld none (.t 15)),
 oo 17 (.fa 3 (.t 3)),
 on1 (.st 1 (.t 17) (.t 16))])
 (.sq (rg [oo 18 (.fa 4 (.t 1)),
 oo 19 (.ld none (.t 18)),
 oo 20 (.ca .pure true (.f fid_laws_toStringS) [.t 19]),
 oo 21 (.fa 4 (.t 3)),
 on1 (.st 1 (.t 21) (.t 20))])
 (.sq (rg [oo 22 (.fa 5 (.t 1)),
 oo 23 (.ld none (.t 22)),
 oo 24 (.ca .pure true (.f fid_laws_toWireS) [.t 23]),
 oo 25 (.fa 5 (.t 3)),
 on1 (.st 1 (.t 25) (.t 24))])
 (.sq (rg [oo 26 (.ld (some 6) (.t 3)),
 on1 (.st 6 (.t 2) (.t 26))])
 (.rt)))))))))) }
theorem k_laws_toBigraph : chkF Go.Proofs.Tryz.prog fid_laws_toBigraph c_laws_toBigraph = true := by kernel_rfl

def c_laws_eqBigraph : F2 :=
  { nt := 39, res := [.t 4 [0]], body :=
   (.sq (rg [oo 2 (.bt (.t 0)),
 oo 3 (.bt (.t 1)),
 om 4 (.k (.bool false))])
 (.sq (.sq (rg [oo 5 (.fa 0 (.t 2)),
 oo 6 (.ld none (.t 5)),
 oo 7 (.fa 0 (.t 3)),
 oo 8 (.ld none (.t 7)),
 oo 9 (.bi .neq 0 (.t 6) (.t 8))])
 (.cd (.t 9) (.sq (rg [om 4 (.k (.bool false))])
 (.rt))
 (.sk)))
 (.sq (.sq (rg [oo 10 (.fa 1 (.t 2)),
 oo 11 (.ld none (.t 10)),
 oo 12 (.fa 1 (.t 3)),
 oo 13 (.ld none (.t 12)),
 oo 14 (.ca .pure false (.f fid_laws_eqNodeS) [.t 11, .t 13]),
 oo 15 (.nt (.t 14))])
 (.cd (.t 15) (.sq (rg [om 4 (.k (.bool false))])
 (.rt))
 (.sk)))
 (.sq (.sq (rg [oo 16 (.fa 2 (.t 2)),
 oo 17 (.ld none (.t 16)),
 oo 18 (.fa 2 (.t 3)),
 oo 19 (.ld none (.t 18)),
 oo 20 (.ca .pure false (.f fid_laws_eqIntS) [.t 17, .t 19]),
 oo 21 (.nt (.t 20))])
 (.cd (.t 21) (.sq (rg [om 4 (.k (.bool false))])
 (.rt))
 (.sk)))
 (.sq (.sq (rg [oo 22 (.fa 3 (.t 2)),
 oo 23 (.ld none (.t 22)),
 oo 24 (.fa 3 (.t 3)),
 oo 25 (.ld none (.t 24)),
 oo 26 (.bi .neq 0 (.t 23) (.t 25))])
 (.cd (.t 26) (.sq (rg [om 4 (.k (.bool false))])
 (.rt))
 (.sk)))
 (.sq (.sq (rg [oo 27 (.fa 4 (.t 2)),
 oo 28 (.ld none (.t 27)),
 oo 29 (.fa 4 (.t 3)),
 oo 30 (.ld none (.t 29)),
 oo 31 (.ca .pure false (.f fid_laws_eqStringS) [.t 28, .t 30]),
 oo 32 (.nt (.t 31))])
 (.cd (.t 32) (.sq (rg [om 4 (.k (.bool false))])
 (.rt))
 (.sk)))
 (.sq (.sq (rg [oo 33 (.fa 5 (.t 2)),
 oo 34 (.ld none (.t 33)),
 oo 35 (.fa 5 (.t 3)),
 oo 36 (.ld none (.t 35)),
 oo 37 (.ca .pure false (.f fid_laws_eqWireS) [.t 34, .t 36]),
 oo 38 (.nt (.t 37))])
 (.cd (.t 38) (.sq (rg [om 4 (.k (.bool false))])
 (.rt))
 (.sk)))
 (.sq (rg [om 4 (.k (.bool true))])
 (.rt))))))))) }
theorem k_laws_eqBigraph : chkF Go.Proofs.Tryz.prog fid_laws_eqBigraph c_laws_eqBigraph = true := by kernel_rfl

def c_laws_szControl : F2 :=
  { nt := 13, res := [.t 4 [0]], body :=
   (.sq (rg [oo 2 (.bt (.t 0)),
 om 4 (i6 0)])
 (.sq (rg [om 5 (.t 1),
 oo 6 (.fa 0 (.t 2)),
 oo 7 (.ld none (.t 6)),
 oo 8 (.lg (.t 7)),
 oo 9 (.bi .sub 0 (.t 5) (.t 8)),
 om 1 (.t 9)])
 (.sq (.sq (rg [om 10 (.t 1),
 oo 11 (.bi .lss 0 (.t 10) (i6 0))])
 (.cd (.t 11) (.sq (rg [om 4 (i6 (-1))])
 (.rt))
 (.sk)))
 (.sq (rg [om 12 (.t 1),
 om 4 (.t 12)])
 (.rt))))) }
theorem k_laws_szControl : chkF Go.Proofs.Tryz.prog fid_laws_szControl c_laws_szControl = true := by kernel_rfl

def c_laws_szRule : F2 :=
  { nt := 24, res := [.t 4 [0]], body :=
   (.sq (rg [oo 2 (.bt (.t 0)),
 om 4 (i6 0)])
 (.sq (rg [oo 5 (.fa 0 (.t 2)),
 oo 6 (.ld (some 6) (.t 5)),
 om 7 (.t 1),
 oo 8 (.ca .pure false (.f fid_laws_szBigraph) [.t 6, .t 7]),
 om 1 (.t 8)])
 (.sq (.sq (rg [om 9 (.t 1),
 oo 10 (.bi .lss 0 (.t 9) (i6 0))])
 (.cd (.t 10) (.sq (rg [om 4 (i6 (-1))])
 (.rt))
 (.sk)))
 (.sq (rg [oo 11 (.fa 6 (.t 2)),
 oo 12 (.ld (some 6) (.t 11)),
 om 13 (.t 1),
 oo 14 (.ca .pure false (.f fid_laws_szBigraph) [.t 12, .t 13]),
 om 1 (.t 14)])
 (.sq (.sq (rg [om 15 (.t 1),
 oo 16 (.bi .lss 0 (.t 15) (i6 0))])
 (.cd (.t 16) (.sq (rg [om 4 (i6 (-1))])
 (.rt))
 (.sk)))
 (.sq (rg [oo 17 (.fa 12 (.t 2)),
 oo 18 (.ld none (.t 17)),
 om 19 (.t 1),
 oo 20 (.ca .pure false (.f fid_laws_szIntS) [.t 18, .t 19]),
 om 1 (.t 20)])
 (.sq (.sq (rg [om 21 (.t 1),
 oo 22 (.bi .lss 0 (.t 21) (i6 0))])
 (.cd (.t 22) (.sq (rg [om 4 (i6 (-1))])
 (.rt))
 (.sk)))
 (.sq (rg [om 23 (.t 1),
 om 4 (.t 23)])
 (.rt))))))))) }
theorem k_laws_szRule : chkF Go.Proofs.Tryz.prog fid_laws_szRule c_laws_szRule = true := by kernel_rfl

def c_laws_toControl : F2 :=
  { nt := 14, res := [.c 2 (some 3) [0, 0, 0]], body :=
   (.sq (rg [oo 1 (.bt (.t 0)),
 oo 2 (.al [.string ⟨#[]⟩, .int .i64 0, .int .i64 0] [])])
 (.sq (rg [oo 3 (.al [.string ⟨#[]⟩, .int .i64 0, .int .i64 0] [])])
 (.sq (rg [oo 4 (.fa 0 (.t 1)),
 oo 5 (.ld none (.t 4)),
 oo 6 (.fa 0 (.t 3)),
 on1 (.st 1 (.t 6) (.t 5))])
 (.sq (rg [oo 7 (.fa 1 (.t 1)),
 oo 8 (.ld none (.t 7)),
 oo 9 (.fa 1 (.t 3)),
 on1 (.st 1 (.t 9) (.t 8))])
 (.sq (rg [oo 10 (.fa 2 (.t 1)),
 oo 11 (.ld none (.t 10)),
 oo 12 (.fa 2 (.t 3)),
 on1 (.st 1 (.t 12) (.t 11))])
 (.sq (rg [oo 13 (.ld (some 3) (.t 3)),
 on1 (.st 3 (.t 2) (.t 13))])
 (.rt))))))) }
theorem k_laws_toControl : chkF Go.Proofs.Tryz.prog fid_laws_toControl c_laws_toControl = true := by kernel_rfl

def c_laws_toRule : F2 :=
  { nt := 17, res := [.c 2 (some 13) [0, 0, 0, 0, 0, 0, 0, 0, 0, 0, 0, 0, 2]], body :=
   (.sq (rg [oo 1 (.bt (.t 0)),
 oo 2 (.al [.int .i64 0, .slice none 0 0, .slice none 0 0, .int .i64 0, .slice none 0 0, .slice none 0 0, .int .i64 0, .slice none 0 0, .slice none 0 0, .int .i64 0, .slice none 0 0, .slice none 0 0, .slice none 0 0] [])])
 (.sq (rg [oo 3 (.al [.int .i64 0, .slice none 0 0, .slice none 0 0, .int .i64 0, .slice none 0 0, .slice none 0 0, .int .i64 0, .slice none 0 0, .slice none 0 0, .int .i64 0, .slice none 0 0, .slice none 0 0, .slice none 0 0] [])])
 (.sq (rg [oo 4 (.fa 0 (.t 1)),
 oo 5 (.ld (some 6) (.t 4)),
 oo 6 (.ca .pure true (.f fid_laws_toBigraph) [.t 5]),
 oo 7 (.fa 0 (.t 3)),
 on1 (.st 6 (.t 7) (.t 6))])
 (.sq (rg [oo 8 (.fa 6 (.t 1)),
 oo 9 (.ld (some 6) (.t 8)),
 oo 10 (.ca .pure true (.f fid_laws_toBigraph) [.t 9]),
 oo 11 (.fa 6 (.t 3)),
 on1 (.st 6 (.t 11) (.t 10))])
 (.sq (rg [oo 12 (.fa 12 (.t 1)),
 oo 13 (.ld none (.t 12)),
 oo 14 (.ca .pure true (.f fid_laws_toIntS) [.t 13]),
 oo 15 (.fa 12 (.t 3)),
 on1 (.st 1 (.t 15) (.t 14))])
 (.sq (rg [oo 16 (.ld (some 13) (.t 3)),
 on1 (.st 13 (.t 2) (.t 16))])
 (.rt))))))) }
theorem k_laws_toRule : chkF Go.Proofs.Tryz.prog fid_laws_toRule c_laws_toRule = true := by kernel_rfl

def c_laws_toGuardS : F2 :=
  { nt := 23, res := [.t 2 [9]], body :=
   (.sq (rg [om 2 (.k (.slice none 0 0))])
 (.sq (rg [om 5 (.t 0),
 oo 6 (.ln (.t 5)),
 oo 7 (.ms 8 [.int .i64 0, .bool false, .int .i64 0, .slice none 0 0, .slice none 0 0, .int .i64 0, .slice none 0 0, .slice none 0 0] (.t 6)),
 om 3 (.t 7)])
 (.sq (.sq (rg [om 4 (i6 0)])
 (.bl 0 (.lp [0, 3, 4] [224, 640, 641, 642, 643] (.sq (.sq (rg [om 8 (.t 4),
 om 9 (.t 0),
 oo 10 (.ln (.t 9)),
 oo 11 (.bi .lss 0 (.t 8) (.t 10))])
 (.cd (.t 11) (.sk)
 (.ex 0)))
 (.sq (.bl 1 (rg [om 14 (.t 3),
 om 15 (.t 4),
 om 16 (.t 0),
 om 17 (.t 4),
 oo 18 (.ia 8 (.t 16) (.t 17)),
 oo 19 (.ld (some 8) (.t 18)),
 oo 20 (.ca .pure true (.f fid_laws_toGuard) [.t 19]),
 oo 21 (.ia 8 (.t 14) (.t 15)),
 on1 (.st 8 (.t 21) (.t 20))]))
 (rg [om 12 (.t 4),
 oo 13 (.bi .add 0 (.t 12) (i6 1)),
 om 4 (.t 13)]))))))
 (.sq (rg [om 22 (.t 3),
 om 2 (.t 22)])
 (.rt))))) }
theorem k_laws_toGuardS : chkF Go.Proofs.Tryz.prog fid_laws_toGuardS c_laws_toGuardS = true := by kernel_rfl

def c_laws_eqControl : F2 :=
  { nt := 20, res := [.t 4 [0]], body :=
   (.sq (rg [oo 2 (.bt (.t 0)),
 oo 3 (.bt (.t 1)),
 om 4 (.k (.bool false))])
 (.sq (.sq (rg [oo 5 (.fa 0 (.t 2)),
 oo 6 (.ld none (.t 5)),
 oo 7 (.fa 0 (.t 3)),
 oo 8 (.ld none (.t 7)),
 oo 9 (.bi .neq 0 (.t 6) (.t 8))])
 (.cd (.t 9) (.sq (rg [om 4 (.k (.bool false))])
 (.rt))
 (.sk)))
 (.sq (.sq (rg [oo 10 (.fa 1 (.t 2)),
 oo 11 (.ld none (.t 10)),
 oo 12 (.fa 1 (.t 3)),
 oo 13 (.ld none (.t 12)),
 oo 14 (.bi .neq 0 (.t 11) (.t 13))])
 (.cd (.t 14) (.sq (rg [om 4 (.k (.bool false))])
 (.rt))
 (.sk)))
 (.sq (.sq (rg [oo 15 (.fa 2 (.t 2)),
 oo 16 (.ld none (.t 15)),
 oo 17 (.fa 2 (.t 3)),
 oo 18 (.ld none (.t 17)),
 oo 19 (.bi .neq 0 (.t 16) (.t 18))])
 (.cd (.t 19) (.sq (rg [om 4 (.k (.bool false))])
 (.rt))
 (.sk)))
 (.sq (rg [om 4 (.k (.bool true))])
 (.rt)))))) }
theorem k_laws_eqControl : chkF Go.Proofs.Tryz.prog fid_laws_eqControl c_laws_eqControl = true := by kernel_rfl

def c_laws_eqRule : F2 :=
  { nt := 23, res := [.t 4 [0]], body :=
   (.sq (rg [oo 2 (.bt (.t 0)),
 oo 3 (.bt (.t 1)),
 om 4 (.k (.bool false))])
 (.sq (.sq (rg [oo 5 (.fa 0 (.t 2)),
 oo 6 (.ld (some 6) (.t 5)),
 oo 7 (.fa 0 (.t 3)),
 oo 8 (.ld (some 6) (.t 7)),
 oo 9 (.ca .pure false (.f fid_laws_eqBigraph) [.t 6, .t 8]),
 oo 10 (.nt (.t 9))])
 (.cd (.t 10) (.sq (rg [om 4 (.k (.bool false))])
 (.rt))
 (.sk)))
 (.sq (.sq (rg [oo 11 (.fa 6 (.t 2)),
 oo 12 (.ld (some 6) (.t 11)),
 oo 13 (.fa 6 (.t 3)),
 oo 14 (.ld (some 6) (.t 13)),
 oo 15 (.ca .pure false (.f fid_laws_eqBigraph) [.t 12, .t 14]),
 oo 16 (.nt (.t 15))])
 (.cd (.t 16) (.sq (rg [om 4 (.k (.bool false))])
 (.rt))
 (.sk)))
 (.sq (.sq (rg [oo 17 (.fa 12 (.t 2)),
 oo 18 (.ld none (.t 17)),
 oo 19 (.fa 12 (.t 3)),
 oo 20 (.ld none (.t 19)),
 oo 21 (.ca .pure false (.f fid_laws_eqIntS) [.t 18, .t 20]),
 oo 22 (.nt (.t 21))])
 (.cd (.t 22) (.sq (rg [om 4 (.k (.bool false))])
 (.rt))
 (.sk)))
 (.sq (rg [om 4 (.k (.bool true))])
 (.rt)))))) }
theorem k_laws_eqRule : chkF Go.Proofs.Tryz.prog fid_laws_eqRule c_laws_eqRule = true := by kernel_rfl

def c_laws_toNodeS : F2 :=
  { nt := 23, res := [.t 2 [4]], body :=
   (.sq (rg [om 2 (.k (.slice none 0 0))])
 (.sq (rg [om 5 (.t 0),
 oo 6 (.ln (.t 5)),
 oo 7 (.ms 3 [.int .i64 0, .int .i64 0, .slice none 0 0] (.t 6)),
 om 3 (.t 7)])
 (.sq (.sq (rg [om 4 (i6 0)])
 (.bl 0 (.lp [0, 3, 4] [224, 640] (.sq (.sq (rg [om 8 (.t 4),
 om 9 (.t 0),
 oo 10 (.ln (.t 9)),
 oo 11 (.bi .lss 0 (.t 8) (.t 10))])
 (.cd (.t 11) (.sk)
 (.ex 0)))
 (.sq (.bl 1 (rg [om 14 (.t 3),
 om 15 (.t 4),
 om 16 (.t 0),
 om 17 (.t 4),
 oo 18 (.ia 3 (.t 16) (.t 17)),
 oo 19 (.ld (some 3) (.t 18)),
 oo 20 (.ca .pure true (.f fid_laws_toNode) [.t 19]),
 oo 21 (.ia 3 (.t 14) (.t 15)),
 on1 (.st 3 (.t 21) (.t 20))]))
 (rg [om 12 (.t 4),
 oo 13 (.bi .add 0 (.t 12) (i6 1)),
 om 4 (.t 13)]))))))
 (.sq (rg [om 22 (.t 3),
 om 2 (.t 22)])
 (.rt))))) }
theorem k_laws_toNodeS : chkF Go.Proofs.Tryz.prog fid_laws_toNodeS c_laws_toNodeS = true := by kernel_rfl

def c_laws_toWireS : F2 :=
  { nt := 23, res := [.t 2 [3]], body :=
   (.sq (rg [om 2 (.k (.slice none 0 0))])
 (.sq (rg [om 5 (.t 0),
 oo 6 (.ln (.t 5)),
 oo 7 (.ms 2 [.string ⟨#[]⟩, .int .i64 0] (.t 6)),
 om 3 (.t 7)])
 (.sq (.sq (rg [om 4 (i6 0)])
 (.bl 0 (.lp [0, 3, 4] [224] (.sq (.sq (rg [om 8 (.t 4),
 om 9 (.t 0),
 oo 10 (.ln (.t 9)),
 oo 11 (.bi .lss 0 (.t 8) (.t 10))])
 (.cd (.t 11) (.sk)
 (.ex 0)))
 (.sq (.bl 1 (rg [om 14 (.t 3),
 om 15 (.t 4),
 om 16 (.t 0),
 om 17 (.t 4),
 oo 18 (.ia 2 (.t 16) (.t 17)),
 oo 19 (.ld (some 2) (.t 18)),
 oo 20 (.ca .pure true (.f fid_laws_toWire) [.t 19]),
 oo 21 (.ia 2 (.t 14) (.t 15)),
 on1 (.st 2 (.t 21) (.t 20))]))
 (rg [om 12 (.t 4),
 oo 13 (.bi .add 0 (.t 12) (i6 1)),
 om 4 (.t 13)]))))))
 (.sq (rg [om 22 (.t 3),
 om 2 (.t 22)])
 (.rt))))) }
theorem k_laws_toWireS : chkF Go.Proofs.Tryz.prog fid_laws_toWireS c_laws_toWireS = true := by kernel_rfl

def c_laws_szGuard : F2 :=
  { nt := 12, res := [.t 4 [0]], body :=
   (.sq (rg [oo 2 (.bt (.t 0)),
 om 4 (i6 0)])
 (.sq (rg [oo 5 (.fa 2 (.t 2)),
 oo 6 (.ld (some 6) (.t 5)),
 om 7 (.t 1),
 oo 8 (.ca .pure false (.f fid_laws_szBigraph) [.t 6, .t 7]),
 om 1 (.t 8)])
 (.sq (.sq (rg [om 9 (.t 1),
 oo 10 (.bi .lss 0 (.t 9) (i6 0))])
 (.cd (.t 10) (.sq (rg [om 4 (i6 (-1))])
 (.rt))
 (.sk)))
 (.sq (rg [om 11 (.t 1),
 om 4 (.t 11)])
 (.rt))))) }
theorem k_laws_szGuard : chkF Go.Proofs.Tryz.prog fid_laws_szGuard c_laws_szGuard = true := by kernel_rfl

def c_laws_toGuard : F2 :=
  { nt := 15, res := [.c 2 (some 8) [0, 0, 0, 0, 0, 0, 0, 0]], body :=
   (.sq (rg [oo 1 (.bt (.t 0)),
 oo 2 (.al [.int .i64 0, .bool false, .int .i64 0, .slice none 0 0, .slice none 0 0, .int .i64 0, .slice none 0 0, .slice none 0 0] [])])
 (.sq (rg [oo 3 (.al [.int .i64 0, .bool false, .int .i64 0, .slice none 0 0, .slice none 0 0, .int .i64 0, .slice none 0 0, .slice none 0 0] [])])
 (.sq (rg [oo 4 (.fa 0 (.t 1)),
 oo 5 (.ld none (.t 4)),
 oo 6 (.fa 0 (.t 3)),
 on1 (.st 1 (.t 6) (.t 5))])
 (.sq (rg [oo 7 (.fa 1 (.t 1)),
 oo 8 (.ld none (.t 7)),
 oo 9 (.fa 1 (.t 3)),
 on1 (.st 1 (.t 9) (.t 8))])
 (.sq (rg [oo 10 (.fa 2 (.t 1)),
 oo 11 (.ld (some 6) (.t 10)),
 oo 12 (.ca .pure true (.f fid_laws_toBigraph) [.t 11]),
 oo 13 (.fa 2 (.t 3)),
 on1 (.st 6 (.t 13) (.t 12))])
 (.sq (rg [oo 14 (.ld (some 8) (.t 3)),
 on1 (.st 8 (.t 2) (.t 14))])
 (.rt))))))) }
theorem k_laws_toGuard : chkF Go.Proofs.Tryz.prog fid_laws_toGuard c_laws_toGuard = true := by kernel_rfl

def c_laws_eqGuard : F2 :=
  { nt := 21, res := [.t 4 [0]], body :=
   (.sq (rg [oo 2 (.bt (.t 0)),
 oo 3 (.bt (.t 1)),
 om 4 (.k (.bool false))])
 (.sq (.sq (rg [oo 5 (.fa 0 (.t 2)),
 oo 6 (.ld none (.t 5)),
 oo 7 (.fa 0 (.t 3)),
 oo 8 (.ld none (.t 7)),
 oo 9 (.bi .neq 0 (.t 6) (.t 8))])
 (.cd (.t 9) (.sq (rg [om 4 (.k (.bool false))])
 (.rt))
 (.sk)))
 (.sq (.sq (rg [oo 10 (.fa 1 (.t 2)),
 oo 11 (.ld none (.t 10)),
 oo 12 (.fa 1 (.t 3)),
 oo 13 (.ld none (.t 12)),
 oo 14 (.bi .neq 2 (.t 11) (.t 13))])
 (.cd (.t 14) (.sq (rg [om 4 (.k (.bool false))])
 (.rt))
 (.sk)))
 (.sq (.sq (rg [oo 15 (.fa 2 (.t 2)),
 oo 16 (.ld (some 6) (.t 15)),
 oo 17 (.fa 2 (.t 3)),
 oo 18 (.ld (some 6) (.t 17)),
 oo 19 (.ca .pure false (.f fid_laws_eqBigraph) [.t 16, .t 18]),
 oo 20 (.nt (.t 19))])
 (.cd (.t 20) (.sq (rg [om 4 (.k (.bool false))])
 (.rt))
 (.sk)))
 (.sq (rg [om 4 (.k (.bool true))])
 (.rt)))))) }
theorem k_laws_eqGuard : chkF Go.Proofs.Tryz.prog fid_laws_eqGuard c_laws_eqGuard = true := by kernel_rfl

def c_laws_szNode : F2 :=
  { nt := 12, res := [.t 4 [0]], body :=
   (.sq (rg [oo 2 (.bt (.t 0)),
 om 4 (i6 0)])
 (.sq (rg [oo 5 (.fa 2 (.t 2)),
 oo 6 (.ld none (.t 5)),
 om 7 (.t 1),
 oo 8 (.ca .pure false (.f fid_laws_szIntS) [.t 6, .t 7]),
 om 1 (.t 8)])
 (.sq (.sq (rg [om 9 (.t 1),
 oo 10 (.bi .lss 0 (.t 9) (i6 0))])
 (.cd (.t 10) (.sq (rg [om 4 (i6 (-1))])
 (.rt))
 (.sk)))
 (.sq (rg [om 11 (.t 1),
 om 4 (.t 11)])
 (.rt))))) }
theorem k_laws_szNode : chkF Go.Proofs.Tryz.prog fid_laws_szNode c_laws_szNode = true := by kernel_rfl

def c_laws_szWire : F2 :=
  { nt := 13, res := [.t 4 [0]], body :=
   (.sq (rg [oo 2 (.bt (.t 0)),
 om 4 (i6 0)])
 (.sq (rg [om 5 (.t 1),
 oo 6 (.fa 0 (.t 2)),
 oo 7 (.ld none (.t 6)),
 oo 8 (.lg (.t 7)),
 oo 9 (.bi .sub 0 (.t 5) (.t 8)),
 om 1 (.t 9)])
 (.sq (.sq (rg [om 10 (.t 1),
 oo 11 (.bi .lss 0 (.t 10) (i6 0))])
 (.cd (.t 11) (.sq (rg [om 4 (i6 (-1))])
 (.rt))
 (.sk)))
 (.sq (rg [om 12 (.t 1),
 om 4 (.t 12)])
 (.rt))))) }
theorem k_laws_szWire : chkF Go.Proofs.Tryz.prog fid_laws_szWire c_laws_szWire = true := by kernel_rfl

def c_laws_toNode : F2 :=
  { nt := 15, res := [.c 2 (some 3) [0, 0, 2]], body :=
   (.sq (rg [oo 1 (.bt (.t 0)),
 oo 2 (.al [.int .i64 0, .int .i64 0, .slice none 0 0] [])])
 (.sq (rg [oo 3 (.al [.int .i64 0, .int .i64 0, .slice none 0 0] [])])
 (.sq (rg [oo 4 (.fa 0 (.t 1)),
 oo 5 (.ld none (.t 4)),
 oo 6 (.fa 0 (.t 3)),
 on1 (.st 1 (.t 6) (.t 5))])
 (.sq (rg [oo 7 (.fa 1 (.t 1)),
 oo 8 (.ld none (.t 7)),
 oo 9 (.fa 1 (.t 3)),
 on1 (.st 1 (.t 9) (.t 8))])
 (.sq (rg [oo 10 (.fa 2 (.t 1)),
 oo 11 (.ld none (.t 10)),
 oo 12 (.ca .pure true (.f fid_laws_toIntS) [.t 11]),
 oo 13 (.fa 2 (.t 3)),
 on1 (.st 1 (.t 13) (.t 12))])
 (.sq (rg [oo 14 (.ld (some 3) (.t 3)),
 on1 (.st 3 (.t 2) (.t 14))])
 (.rt))))))) }
theorem k_laws_toNode : chkF Go.Proofs.Tryz.prog fid_laws_toNode c_laws_toNode = true := by kernel_rfl

def c_laws_toWire : F2 :=
  { nt := 11, res := [.c 2 (some 2) [0, 0]], body :=
   (.sq (rg [oo 1 (.bt (.t 0)),
 oo 2 (.al [.string ⟨#[]⟩, .int .i64 0] [])])
 (.sq (rg [oo 3 (.al [.string ⟨#[]⟩, .int .i64 0] [])])
 (.sq (rg [oo 4 (.fa 0 (.t 1)),
 oo 5 (.ld none (.t 4)),
 oo 6 (.fa 0 (.t 3)),
 on1 (.st 1 (.t 6) (.t 5))])
 (.sq (rg [oo 7 (.fa 1 (.t 1)),
 oo 8 (.ld none (.t 7)),
 oo 9 (.fa 1 (.t 3)),
 on1 (.st 1 (.t 9) (.t 8))])
 (.sq (rg [oo 10 (.ld (some 2) (.t 3)),
 on1 (.st 2 (.t 2) (.t 10))])
 (.rt)))))) }
theorem k_laws_toWire : chkF Go.Proofs.Tryz.prog fid_laws_toWire c_laws_toWire = true := by kernel_rfl

def c_laws_eqNode : F2 :=
  { nt := 21, res := [.t 4 [0]], body :=
   (.sq (rg [oo 2 (.bt (.t 0)),
 oo 3 (.bt (.t 1)),
 om 4 (.k (.bool false))])
 (.sq (.sq (rg [oo 5 (.fa 0 (.t 2)),
 oo 6 (.ld none (.t 5)),
 oo 7 (.fa 0 (.t 3)),
 oo 8 (.ld none (.t 7)),
 oo 9 (.bi .neq 0 (.t 6) (.t 8))])
 (.cd (.t 9) (.sq (rg [om 4 (.k (.bool false))])
 (.rt))
 (.sk)))
 (.sq (.sq (rg [oo 10 (.fa 1 (.t 2)),
 oo 11 (.ld none (.t 10)),
 oo 12 (.fa 1 (.t 3)),
 oo 13 (.ld none (.t 12)),
 oo 14 (.bi .neq 0 (.t 11) (.t 13))])
 (.cd (.t 14) (.sq (rg [om 4 (.k (.bool false))])
 (.rt))
 (.sk)))
 (.sq (.sq (rg [oo 15 (.fa 2 (.t 2)),
 oo 16 (.ld none (.t 15)),
 oo 17 (.fa 2 (.t 3)),
 oo 18 (.ld none (.t 17)),
 oo 19 (.ca .pure false (.f fid_laws_eqIntS) [.t 16, .t 18]),
 oo 20 (.nt (.t 19))])
 (.cd (.t 20) (.sq (rg [om 4 (.k (.bool false))])
 (.rt))
 (.sk)))
 (.sq (rg [om 4 (.k (.bool true))])
 (.rt)))))) }
theorem k_laws_eqNode : chkF Go.Proofs.Tryz.prog fid_laws_eqNode c_laws_eqNode = true := by kernel_rfl

def c_laws_eqWire : F2 :=
  { nt := 15, res := [.t 4 [0]], body :=
   (.sq (rg [oo 2 (.bt (.t 0)),
 oo 3 (.bt (.t 1)),
 om 4 (.k (.bool false))])
 (.sq (.sq (rg [oo 5 (.fa 0 (.t 2)),
 oo 6 (.ld none (.t 5)),
 oo 7 (.fa 0 (.t 3)),
 oo 8 (.ld none (.t 7)),
 oo 9 (.bi .neq 0 (.t 6) (.t 8))])
 (.cd (.t 9) (.sq (rg [om 4 (.k (.bool false))])
 (.rt))
 (.sk)))
 (.sq (.sq (rg [oo 10 (.fa 1 (.t 2)),
 oo 11 (.ld none (.t 10)),
 oo 12 (.fa 1 (.t 3)),
 oo 13 (.ld none (.t 12)),
 oo 14 (.bi .neq 0 (.t 11) (.t 13))])
 (.cd (.t 14) (.sq (rg [om 4 (.k (.bool false))])
 (.rt))
 (.sk)))
 (.sq (rg [om 4 (.k (.bool true))])
 (.rt))))) }
theorem k_laws_eqWire : chkF Go.Proofs.Tryz.prog fid_laws_eqWire c_laws_eqWire = true := by kernel_rfl

end Go.Fd

/-
  SMALL WORDS FOR MARKS. Own work.
-/
namespace Go.Fd
theorem cut_mL {α : Type} {c : α → List Tr} {m : α → Int → α} {n : α → Nat} {a : List α} {k : Int} : cut ((mL m n a k).map c) 0 a.length = (mL m n a k).map c := by
  simp only [cut, List.drop_zero]
  exact List.take_of_length_le (by rw [List.length_map, mL_length]; exact Nat.le_refl _)
theorem cut_map {α : Type} {c : α → List Tr} {a : List α} : cut (a.map c) 0 a.length = a.map c := by
  simp only [cut, List.drop_zero]
  exact List.take_of_length_le (by rw [List.length_map]; exact Nat.le_refl _)
end Go.Fd

/-
  MARKING STRUCTS; WHETHER MARKS ARE HELD (printed by lawgen.py). Own work.
-/
namespace Go.Fd
set_option maxRecDepth 20000
end Go.Fd

/-
  HOW MANY MARKS A THING TAKES, AGAINST ITS SIZE (printed by lawgen.py). Own work.
-/
namespace Go.Fd
end Go.Fd

/-
  WHAT HOLDS OF THE HELPERS OF THE LAWS (printed by lawgen.py). Own work.
-/
namespace Go.Fd
set_option maxRecDepth 20000
theorem szN_le {n : Nat} {l : Int} (h : 0 ≤ l) : szN n l ≤ l := by unfold szN; split <;> omega
theorem szF_le {α : Type} {f : α → Int → Int} : ∀ (a : List α) (l : Int), (∀ x ∈ a, ∀ l : Int, 0 ≤ l → l ≤ 1048576 → f x l ≤ l) → 0 ≤ l → l ≤ 1048576 → szF f a l ≤ l
  | [], l, _, _, _ => Int.le_refl l
  | x :: r, l, hf, h0, h1 => by
    simp only [szF]
    have := hf x (by simp) l h0 h1
    split
    · omega
    · have h2 := szF_le r (f x l) (fun y hy => hf y (by simp [hy])) (by omega) (by omega)
      omega
theorem szL_le {α : Type} {f : α → Int → Int} (a : List α) {l : Int} (hf : ∀ x ∈ a, ∀ l : Int, 0 ≤ l → l ≤ 1048576 → f x l ≤ l) (h0 : 0 ≤ l) (h1 : l ≤ 1048576) : szL f a l ≤ l := by
  unfold szL
  split
  · omega
  · have := szF_le a (l - a.length) hf (by omega) (by omega)
    omega
theorem szTh_le {l m : Int} {g : Int → Int} (h0 : 0 ≤ l) (h : m ≤ l) (hg : 0 ≤ m → g m ≤ m) : szTh m g ≤ l := by
  unfold szTh
  split
  · omega
  · have := hg (by omega)
    omega
theorem g_szIntS : chkF Go.Proofs.Tryz.prog fid_laws_szIntS sz0 = true := by kernel_rfl
theorem sem_szIntS (a : List Int) (hl : a.length ≤ 9223372036854775807) (l : Int) (h0 : 0 ≤ l) (h1 : l ≤ 1048576) : szN a.length l ≤ l ∧ ∀ lvl S, Sem Go.Proofs.Tryz.prog fid_laws_szIntS lvl [.tr (.sl (rI a)), iI l] S (iI (szN a.length l)) S := by
  refine ⟨szN_le h0, fun lvl S => ?_⟩
  have := sem_sz0 g_szIntS (rI a) l (by simpa using hl) h0 h1 lvl S
  simpa using this
theorem sem_szNode (x : TNode) (hb : bdNode 9223372036854775807 x) (l : Int) (h0 : 0 ≤ l) (h1 : l ≤ 1048576) : szNode x l ≤ l ∧ ∀ lvl S, Sem Go.Proofs.Tryz.prog fid_laws_szNode lvl [.ag ((cNode x).map .tr), iI l] S (iI (szNode x l)) S := by
  have b0 : x.links.length ≤ 9223372036854775807 := hb
  refine ⟨?_, fun lvl S => ?_⟩
  · unfold szNode
    have q0 := sem_szIntS x.links b0 _ h0 h1
    refine szTh_le h0 q0.1 (fun p0 => ?_)
    have r0 : _ ≤ (1048576 : Int) := Int.le_trans q0.1 h1
    exact Int.le_refl _
  · refine sem_of_chk k_laws_szNode trivial ?_
    simp only [c_laws_szNode, cNode, List.map_cons, List.map_nil, EVA, ↓reduceIte, Nat.reduceEqDiff, Nat.reduceMul, reduceCtorEq, Nat.reduceAdd, Nat.reduceSub, Nat.reduceLeDiff, Nat.reduceLT, Int.reduceToNat, Int.reduceLE, Int.reduceLT, mens, men]
    unfold szNode
    have q0 := sem_szIntS x.links b0 l h0 h1
    refine kca_intro q0.2 ?_
    simp only [EVA, ↓reduceIte, Nat.reduceEqDiff, Nat.reduceMul, reduceCtorEq, Nat.reduceAdd, Nat.reduceSub, Nat.reduceLeDiff, Nat.reduceLT, Int.reduceToNat, Int.reduceLE, Int.reduceLT, mens, men]
    obtain ⟨l1, hl1⟩ : ∃ m : Int, m = (szN x.links.length l) := ⟨_, rfl⟩
    have u1 : l1 ≤ l := by rw [hl1]; exact q0.1
    rw [← hl1]
    split
    · rename_i hn; rw [szTh, if_pos hn]
    rename_i hn0
    rw [szTh, if_neg hn0]
theorem g_szNodeS : chkF Go.Proofs.Tryz.prog fid_laws_szNodeS (szSl 3 (some 3) fid_laws_szNode) = true := by kernel_rfl
theorem sem_szNodeS (a : List TNode) (hl : a.length ≤ 9223372036854775807) (hb : ∀ y ∈ a, bdNode 9223372036854775807 y) (l : Int) (h0 : 0 ≤ l) (h1 : l ≤ 1048576) : szL szNode a l ≤ l ∧ ∀ lvl S, Sem Go.Proofs.Tryz.prog fid_laws_szNodeS lvl [.tr (.sl (a.map cNode)), iI l] S (iI (szL szNode a l)) S :=
  ⟨szL_le a (fun x hx l h0 h1 => (sem_szNode x (hb x hx) l h0 h1).1) h0 h1, fun lvl S => sem_szSl g_szNodeS cNode szNode cNode_len a l hl h0 h1 (fun x hx l h0 h1 => sem_szNode x (hb x hx) l h0 h1) lvl S⟩
theorem sem_szWire (x : TWire) (hb : bdWire 9223372036854775807 x) (l : Int) (h0 : 0 ≤ l) (h1 : l ≤ 1048576) : szWire x l ≤ l ∧ ∀ lvl S, Sem Go.Proofs.Tryz.prog fid_laws_szWire lvl [.ag ((cWire x).map .tr), iI l] S (iI (szWire x l)) S := by
  have b0 : x.name.size ≤ 9223372036854775807 := hb
  refine ⟨?_, fun lvl S => ?_⟩
  · unfold szWire
    refine szTh_le h0 (m := l - x.name.size) (by omega) (fun p0 => ?_)
    have r0 : _ ≤ (1048576 : Int) := Int.le_trans (show l - x.name.size ≤ l by omega) h1
    exact Int.le_refl _
  · refine sem_of_chk k_laws_szWire trivial ?_
    simp only [c_laws_szWire, cWire, List.map_cons, List.map_nil, EVA, ↓reduceIte, Nat.reduceEqDiff, Nat.reduceMul, reduceCtorEq, Nat.reduceAdd, Nat.reduceSub, Nat.reduceLeDiff, Nat.reduceLT, Int.reduceToNat, Int.reduceLE, Int.reduceLT, mens, men]
    unfold szWire
    refine ⟨by rw [fits_i64]; omega, ?_⟩
    obtain ⟨l1, hl1⟩ : ∃ m : Int, m = l - x.name.size := ⟨_, rfl⟩
    have u1 : l1 ≤ l := by omega
    rw [← hl1]
    split
    · rename_i hn; rw [szTh, if_pos hn]
    rename_i hn0
    rw [szTh, if_neg hn0]
theorem g_szWireS : chkF Go.Proofs.Tryz.prog fid_laws_szWireS (szSl 2 (some 2) fid_laws_szWire) = true := by kernel_rfl
theorem sem_szWireS (a : List TWire) (hl : a.length ≤ 9223372036854775807) (hb : ∀ y ∈ a, bdWire 9223372036854775807 y) (l : Int) (h0 : 0 ≤ l) (h1 : l ≤ 1048576) : szL szWire a l ≤ l ∧ ∀ lvl S, Sem Go.Proofs.Tryz.prog fid_laws_szWireS lvl [.tr (.sl (a.map cWire)), iI l] S (iI (szL szWire a l)) S :=
  ⟨szL_le a (fun x hx l h0 h1 => (sem_szWire x (hb x hx) l h0 h1).1) h0 h1, fun lvl S => sem_szSl g_szWireS cWire szWire cWire_len a l hl h0 h1 (fun x hx l h0 h1 => sem_szWire x (hb x hx) l h0 h1) lvl S⟩
theorem g_szStringS : chkF Go.Proofs.Tryz.prog fid_laws_szStringS szSt = true := by kernel_rfl
theorem sem_szStringS (a : List ByteArray) (hl : a.length ≤ 9223372036854775807) (hb : ∀ y ∈ a, y.size ≤ 9223372036854775807) (l : Int) (h0 : 0 ≤ l) (h1 : l ≤ 1048576) : szL (fun x m => m - x.size) a l ≤ l ∧ ∀ lvl S, Sem Go.Proofs.Tryz.prog fid_laws_szStringS lvl [tS a, iI l] S (iI (szL (fun x m => m - x.size) a l)) S :=
  ⟨szL_le a (fun x _ l _ _ => by omega) h0 h1, fun lvl S => sem_szSt g_szStringS a l hl h0 h1 hb lvl S⟩
theorem sem_szBigraph (x : TBigraph) (hb : bdBigraph 9223372036854775807 x) (l : Int) (h0 : 0 ≤ l) (h1 : l ≤ 1048576) : szBigraph x l ≤ l ∧ ∀ lvl S, Sem Go.Proofs.Tryz.prog fid_laws_szBigraph lvl [.ag ((cBigraph x).map .tr), iI l] S (iI (szBigraph x l)) S := by
  obtain ⟨b0, b1, b2, b3, b4, b5, b6⟩ := hb
  refine ⟨?_, fun lvl S => ?_⟩
  · unfold szBigraph
    have q0 := sem_szNodeS x.nodes b0 b1 _ h0 h1
    refine szTh_le h0 q0.1 (fun p0 => ?_)
    have r0 : _ ≤ (1048576 : Int) := Int.le_trans q0.1 h1
    have q1 := sem_szIntS x.sites b2 _ p0 r0
    refine szTh_le p0 q1.1 (fun p1 => ?_)
    have r1 : _ ≤ (1048576 : Int) := Int.le_trans q1.1 r0
    have q2 := sem_szStringS x.outer b3 b4 _ p1 r1
    refine szTh_le p1 q2.1 (fun p2 => ?_)
    have r2 : _ ≤ (1048576 : Int) := Int.le_trans q2.1 r1
    have q3 := sem_szWireS x.inner b5 b6 _ p2 r2
    refine szTh_le p2 q3.1 (fun p3 => ?_)
    have r3 : _ ≤ (1048576 : Int) := Int.le_trans q3.1 r2
    exact Int.le_refl _
  · refine sem_of_chk k_laws_szBigraph trivial ?_
    simp only [c_laws_szBigraph, cBigraph, List.map_cons, List.map_nil, EVA, ↓reduceIte, Nat.reduceEqDiff, Nat.reduceMul, reduceCtorEq, Nat.reduceAdd, Nat.reduceSub, Nat.reduceLeDiff, Nat.reduceLT, Int.reduceToNat, Int.reduceLE, Int.reduceLT, mens, men]
    unfold szBigraph
    have q0 := sem_szNodeS x.nodes b0 b1 l h0 h1
    refine kca_intro q0.2 ?_
    simp only [EVA, ↓reduceIte, Nat.reduceEqDiff, Nat.reduceMul, reduceCtorEq, Nat.reduceAdd, Nat.reduceSub, Nat.reduceLeDiff, Nat.reduceLT, Int.reduceToNat, Int.reduceLE, Int.reduceLT, mens, men]
    obtain ⟨l1, hl1⟩ : ∃ m : Int, m = (szL szNode x.nodes l) := ⟨_, rfl⟩
    have u1 : l1 ≤ l := by rw [hl1]; exact q0.1
    rw [← hl1]
    split
    · rename_i hn; rw [szTh, if_pos hn]
    rename_i hn0
    rw [szTh, if_neg hn0]
    have q1 := sem_szIntS x.sites b2 l1 (show 0 ≤ l1 by omega) (show l1 ≤ 1048576 by omega)
    refine kca_intro q1.2 ?_
    simp only [EVA, ↓reduceIte, Nat.reduceEqDiff, Nat.reduceMul, reduceCtorEq, Nat.reduceAdd, Nat.reduceSub, Nat.reduceLeDiff, Nat.reduceLT, Int.reduceToNat, Int.reduceLE, Int.reduceLT, mens, men]
    obtain ⟨l2, hl2⟩ : ∃ m : Int, m = (szN x.sites.length l1) := ⟨_, rfl⟩
    have u2 : l2 ≤ l1 := by rw [hl2]; exact q1.1
    rw [← hl2]
    split
    · rename_i hn; rw [szTh, if_pos hn]
    rename_i hn1
    rw [szTh, if_neg hn1]
    have q2 := sem_szStringS x.outer b3 b4 l2 (show 0 ≤ l2 by omega) (show l2 ≤ 1048576 by omega)
    refine kca_intro q2.2 ?_
    simp only [EVA, ↓reduceIte, Nat.reduceEqDiff, Nat.reduceMul, reduceCtorEq, Nat.reduceAdd, Nat.reduceSub, Nat.reduceLeDiff, Nat.reduceLT, Int.reduceToNat, Int.reduceLE, Int.reduceLT, mens, men]
    obtain ⟨l3, hl3⟩ : ∃ m : Int, m = (szL (fun x m => m - x.size) x.outer l2) := ⟨_, rfl⟩
    have u3 : l3 ≤ l2 := by rw [hl3]; exact q2.1
    rw [← hl3]
    split
    · rename_i hn; rw [szTh, if_pos hn]
    rename_i hn2
    rw [szTh, if_neg hn2]
    have q3 := sem_szWireS x.inner b5 b6 l3 (show 0 ≤ l3 by omega) (show l3 ≤ 1048576 by omega)
    refine kca_intro q3.2 ?_
    simp only [EVA, ↓reduceIte, Nat.reduceEqDiff, Nat.reduceMul, reduceCtorEq, Nat.reduceAdd, Nat.reduceSub, Nat.reduceLeDiff, Nat.reduceLT, Int.reduceToNat, Int.reduceLE, Int.reduceLT, mens, men]
    obtain ⟨l4, hl4⟩ : ∃ m : Int, m = (szL szWire x.inner l3) := ⟨_, rfl⟩
    have u4 : l4 ≤ l3 := by rw [hl4]; exact q3.1
    rw [← hl4]
    split
    · rename_i hn; rw [szTh, if_pos hn]
    rename_i hn3
    rw [szTh, if_neg hn3]
theorem sem_szRule (x : TRule) (hb : bdRule 9223372036854775807 x) (l : Int) (h0 : 0 ≤ l) (h1 : l ≤ 1048576) : szRule x l ≤ l ∧ ∀ lvl S, Sem Go.Proofs.Tryz.prog fid_laws_szRule lvl [.ag ((cRule x).map .tr), iI l] S (iI (szRule x l)) S := by
  obtain ⟨b0, b1, b2⟩ := hb
  refine ⟨?_, fun lvl S => ?_⟩
  · unfold szRule
    have q0 := sem_szBigraph x.redex b0 _ h0 h1
    refine szTh_le h0 q0.1 (fun p0 => ?_)
    have r0 : _ ≤ (1048576 : Int) := Int.le_trans q0.1 h1
    have q1 := sem_szBigraph x.reactum b1 _ p0 r0
    refine szTh_le p0 q1.1 (fun p1 => ?_)
    have r1 : _ ≤ (1048576 : Int) := Int.le_trans q1.1 r0
    have q2 := sem_szIntS x.copies b2 _ p1 r1
    refine szTh_le p1 q2.1 (fun p2 => ?_)
    have r2 : _ ≤ (1048576 : Int) := Int.le_trans q2.1 r1
    exact Int.le_refl _
  · refine sem_of_chk k_laws_szRule trivial ?_
    simp only [c_laws_szRule, cRule, List.map_cons, List.map_nil, EVA, ↓reduceIte, Nat.reduceEqDiff, Nat.reduceMul, reduceCtorEq, Nat.reduceAdd, Nat.reduceSub, Nat.reduceLeDiff, Nat.reduceLT, Int.reduceToNat, Int.reduceLE, Int.reduceLT, mens, men]
    unfold szRule
    have q0 := sem_szBigraph x.redex b0 l h0 h1
    refine kca_intro q0.2 ?_
    simp only [EVA, ↓reduceIte, Nat.reduceEqDiff, Nat.reduceMul, reduceCtorEq, Nat.reduceAdd, Nat.reduceSub, Nat.reduceLeDiff, Nat.reduceLT, Int.reduceToNat, Int.reduceLE, Int.reduceLT, mens, men]
    obtain ⟨l1, hl1⟩ : ∃ m : Int, m = (szBigraph x.redex l) := ⟨_, rfl⟩
    have u1 : l1 ≤ l := by rw [hl1]; exact q0.1
    rw [← hl1]
    split
    · rename_i hn; rw [szTh, if_pos hn]
    rename_i hn0
    rw [szTh, if_neg hn0]
    have q1 := sem_szBigraph x.reactum b1 l1 (show 0 ≤ l1 by omega) (show l1 ≤ 1048576 by omega)
    refine kca_intro q1.2 ?_
    simp only [EVA, ↓reduceIte, Nat.reduceEqDiff, Nat.reduceMul, reduceCtorEq, Nat.reduceAdd, Nat.reduceSub, Nat.reduceLeDiff, Nat.reduceLT, Int.reduceToNat, Int.reduceLE, Int.reduceLT, mens, men]
    obtain ⟨l2, hl2⟩ : ∃ m : Int, m = (szBigraph x.reactum l1) := ⟨_, rfl⟩
    have u2 : l2 ≤ l1 := by rw [hl2]; exact q1.1
    rw [← hl2]
    split
    · rename_i hn; rw [szTh, if_pos hn]
    rename_i hn1
    rw [szTh, if_neg hn1]
    have q2 := sem_szIntS x.copies b2 l2 (show 0 ≤ l2 by omega) (show l2 ≤ 1048576 by omega)
    refine kca_intro q2.2 ?_
    simp only [EVA, ↓reduceIte, Nat.reduceEqDiff, Nat.reduceMul, reduceCtorEq, Nat.reduceAdd, Nat.reduceSub, Nat.reduceLeDiff, Nat.reduceLT, Int.reduceToNat, Int.reduceLE, Int.reduceLT, mens, men]
    obtain ⟨l3, hl3⟩ : ∃ m : Int, m = (szN x.copies.length l2) := ⟨_, rfl⟩
    have u3 : l3 ≤ l2 := by rw [hl3]; exact q2.1
    rw [← hl3]
    split
    · rename_i hn; rw [szTh, if_pos hn]
    rename_i hn2
    rw [szTh, if_neg hn2]
theorem sem_szGuard (x : TGuard) (hb : bdGuard 9223372036854775807 x) (l : Int) (h0 : 0 ≤ l) (h1 : l ≤ 1048576) : szGuard x l ≤ l ∧ ∀ lvl S, Sem Go.Proofs.Tryz.prog fid_laws_szGuard lvl [.ag ((cGuard x).map .tr), iI l] S (iI (szGuard x l)) S := by
  have b0 : bdBigraph 9223372036854775807 x.pattern := hb
  refine ⟨?_, fun lvl S => ?_⟩
  · unfold szGuard
    have q0 := sem_szBigraph x.pattern b0 _ h0 h1
    refine szTh_le h0 q0.1 (fun p0 => ?_)
    have r0 : _ ≤ (1048576 : Int) := Int.le_trans q0.1 h1
    exact Int.le_refl _
  · refine sem_of_chk k_laws_szGuard trivial ?_
    simp only [c_laws_szGuard, cGuard, List.map_cons, List.map_nil, EVA, ↓reduceIte, Nat.reduceEqDiff, Nat.reduceMul, reduceCtorEq, Nat.reduceAdd, Nat.reduceSub, Nat.reduceLeDiff, Nat.reduceLT, Int.reduceToNat, Int.reduceLE, Int.reduceLT, mens, men]
    unfold szGuard
    have q0 := sem_szBigraph x.pattern b0 l h0 h1
    refine kca_intro q0.2 ?_
    simp only [EVA, ↓reduceIte, Nat.reduceEqDiff, Nat.reduceMul, reduceCtorEq, Nat.reduceAdd, Nat.reduceSub, Nat.reduceLeDiff, Nat.reduceLT, Int.reduceToNat, Int.reduceLE, Int.reduceLT, mens, men]
    obtain ⟨l1, hl1⟩ : ∃ m : Int, m = (szBigraph x.pattern l) := ⟨_, rfl⟩
    have u1 : l1 ≤ l := by rw [hl1]; exact q0.1
    rw [← hl1]
    split
    · rename_i hn; rw [szTh, if_pos hn]
    rename_i hn0
    rw [szTh, if_neg hn0]
theorem g_szGuardS : chkF Go.Proofs.Tryz.prog fid_laws_szGuardS (szSl 8 (some 8) fid_laws_szGuard) = true := by kernel_rfl
theorem sem_szGuardS (a : List TGuard) (hl : a.length ≤ 9223372036854775807) (hb : ∀ y ∈ a, bdGuard 9223372036854775807 y) (l : Int) (h0 : 0 ≤ l) (h1 : l ≤ 1048576) : szL szGuard a l ≤ l ∧ ∀ lvl S, Sem Go.Proofs.Tryz.prog fid_laws_szGuardS lvl [.tr (.sl (a.map cGuard)), iI l] S (iI (szL szGuard a l)) S :=
  ⟨szL_le a (fun x hx l h0 h1 => (sem_szGuard x (hb x hx) l h0 h1).1) h0 h1, fun lvl S => sem_szSl g_szGuardS cGuard szGuard cGuard_len a l hl h0 h1 (fun x hx l h0 h1 => sem_szGuard x (hb x hx) l h0 h1) lvl S⟩
theorem sem_szGuardedRule (x : TGuardedRule) (hb : bdGuardedRule 9223372036854775807 x) (l : Int) (h0 : 0 ≤ l) (h1 : l ≤ 1048576) : szGuardedRule x l ≤ l ∧ ∀ lvl S, Sem Go.Proofs.Tryz.prog fid_laws_szGuardedRule lvl [.ag ((cGuardedRule x).map .tr), iI l] S (iI (szGuardedRule x l)) S := by
  obtain ⟨b0, b1, b2⟩ := hb
  refine ⟨?_, fun lvl S => ?_⟩
  · unfold szGuardedRule
    have q0 := sem_szRule x.rule b0 _ h0 h1
    refine szTh_le h0 q0.1 (fun p0 => ?_)
    have r0 : _ ≤ (1048576 : Int) := Int.le_trans q0.1 h1
    have q1 := sem_szGuardS x.guards b1 b2 _ p0 r0
    refine szTh_le p0 q1.1 (fun p1 => ?_)
    have r1 : _ ≤ (1048576 : Int) := Int.le_trans q1.1 r0
    exact Int.le_refl _
  · refine sem_of_chk k_laws_szGuardedRule trivial ?_
    simp only [c_laws_szGuardedRule, cGuardedRule, List.map_cons, List.map_nil, EVA, ↓reduceIte, Nat.reduceEqDiff, Nat.reduceMul, reduceCtorEq, Nat.reduceAdd, Nat.reduceSub, Nat.reduceLeDiff, Nat.reduceLT, Int.reduceToNat, Int.reduceLE, Int.reduceLT, mens, men]
    unfold szGuardedRule
    have q0 := sem_szRule x.rule b0 l h0 h1
    refine kca_intro q0.2 ?_
    simp only [EVA, ↓reduceIte, Nat.reduceEqDiff, Nat.reduceMul, reduceCtorEq, Nat.reduceAdd, Nat.reduceSub, Nat.reduceLeDiff, Nat.reduceLT, Int.reduceToNat, Int.reduceLE, Int.reduceLT, mens, men]
    obtain ⟨l1, hl1⟩ : ∃ m : Int, m = (szRule x.rule l) := ⟨_, rfl⟩
    have u1 : l1 ≤ l := by rw [hl1]; exact q0.1
    rw [← hl1]
    split
    · rename_i hn; rw [szTh, if_pos hn]
    rename_i hn0
    rw [szTh, if_neg hn0]
    have q1 := sem_szGuardS x.guards b1 b2 l1 (show 0 ≤ l1 by omega) (show l1 ≤ 1048576 by omega)
    refine kca_intro q1.2 ?_
    simp only [EVA, ↓reduceIte, Nat.reduceEqDiff, Nat.reduceMul, reduceCtorEq, Nat.reduceAdd, Nat.reduceSub, Nat.reduceLeDiff, Nat.reduceLT, Int.reduceToNat, Int.reduceLE, Int.reduceLT, mens, men]
    obtain ⟨l2, hl2⟩ : ∃ m : Int, m = (szL szGuard x.guards l1) := ⟨_, rfl⟩
    have u2 : l2 ≤ l1 := by rw [hl2]; exact q1.1
    rw [← hl2]
    split
    · rename_i hn; rw [szTh, if_pos hn]
    rename_i hn1
    rw [szTh, if_neg hn1]
theorem sem_szControl (x : TControl) (hb : bdControl 9223372036854775807 x) (l : Int) (h0 : 0 ≤ l) (h1 : l ≤ 1048576) : szControl x l ≤ l ∧ ∀ lvl S, Sem Go.Proofs.Tryz.prog fid_laws_szControl lvl [.ag ((cControl x).map .tr), iI l] S (iI (szControl x l)) S := by
  have b0 : x.name.size ≤ 9223372036854775807 := hb
  refine ⟨?_, fun lvl S => ?_⟩
  · unfold szControl
    refine szTh_le h0 (m := l - x.name.size) (by omega) (fun p0 => ?_)
    have r0 : _ ≤ (1048576 : Int) := Int.le_trans (show l - x.name.size ≤ l by omega) h1
    exact Int.le_refl _
  · refine sem_of_chk k_laws_szControl trivial ?_
    simp only [c_laws_szControl, cControl, List.map_cons, List.map_nil, EVA, ↓reduceIte, Nat.reduceEqDiff, Nat.reduceMul, reduceCtorEq, Nat.reduceAdd, Nat.reduceSub, Nat.reduceLeDiff, Nat.reduceLT, Int.reduceToNat, Int.reduceLE, Int.reduceLT, mens, men]
    unfold szControl
    refine ⟨by rw [fits_i64]; omega, ?_⟩
    obtain ⟨l1, hl1⟩ : ∃ m : Int, m = l - x.name.size := ⟨_, rfl⟩
    have u1 : l1 ≤ l := by omega
    rw [← hl1]
    split
    · rename_i hn; rw [szTh, if_pos hn]
    rename_i hn0
    rw [szTh, if_neg hn0]
theorem g_szControlS : chkF Go.Proofs.Tryz.prog fid_laws_szControlS (szSl 3 (some 3) fid_laws_szControl) = true := by kernel_rfl
theorem sem_szControlS (a : List TControl) (hl : a.length ≤ 9223372036854775807) (hb : ∀ y ∈ a, bdControl 9223372036854775807 y) (l : Int) (h0 : 0 ≤ l) (h1 : l ≤ 1048576) : szL szControl a l ≤ l ∧ ∀ lvl S, Sem Go.Proofs.Tryz.prog fid_laws_szControlS lvl [.tr (.sl (a.map cControl)), iI l] S (iI (szL szControl a l)) S :=
  ⟨szL_le a (fun x hx l h0 h1 => (sem_szControl x (hb x hx) l h0 h1).1) h0 h1, fun lvl S => sem_szSl g_szControlS cControl szControl cControl_len a l hl h0 h1 (fun x hx l h0 h1 => sem_szControl x (hb x hx) l h0 h1) lvl S⟩
end Go.Fd
