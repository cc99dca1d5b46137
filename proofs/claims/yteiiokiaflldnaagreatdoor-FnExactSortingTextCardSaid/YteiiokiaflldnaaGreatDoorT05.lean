/-
  WHAT A VALID SORTING IS, BOTH SIDES. Own work.
-/
import Derived.Test.YteiiokiaflldnaaGreatDoorT04
import Derived.KernelRfl
import Derived.Test.YteiiokiaflldnaaGreatDoorProg
set_option linter.all false
namespace Go.Fd
set_option maxRecDepth 20000

theorem sem_l7Controls (sig : List TControl) (l : List Int) (hn : sig.length ≤ 4294967296) (hl : l.length ≤ 9223372036854775807) (lvl : Nat) (S : Sto) : Sem Go.Proofs.Tryz.prog fid_spec_l7Controls lvl [.tr (.sl (sig.map cControl)), tI l] S (iB (dc (Ris 0 ((sig.length : Int) - 1) l))) S := by
  refine sem_of_chk k_spec_l7Controls trivial ?_
  simp only [c_spec_l7Controls, List.length_map, EVA, ↓reduceIte, Nat.reduceEqDiff, Nat.reduceMul, reduceCtorEq, Nat.reduceAdd, Nat.reduceSub, Nat.reduceLeDiff, Nat.reduceLT, Int.reduceToNat, Int.reduceLE, Int.reduceLT, mens, men]
  refine ⟨by rw [fits_i64]; omega, ?_⟩
  refine kca_intro (sem_l1Rising l 0 ((sig.length : Int) - 1) hl) ?_
  simp only [EVA, ↓reduceIte, Nat.reduceEqDiff, Nat.reduceMul, reduceCtorEq, Nat.reduceAdd, Nat.reduceSub, Nat.reduceLeDiff, Nat.reduceLT, Int.reduceToNat, Int.reduceLE, Int.reduceLT, mens, men]

def nestOK (sig : List TControl) (nest : List (List Int)) : Prop := nest.length = sig.length ∧ ∀ k, nestAt sig nest k

theorem sem_l7Nest (sig : List TControl) (nest : List (List Int)) (hn : sig.length ≤ 4294967296) (hl : nest.length ≤ 4294967296) (hb : ∀ y ∈ nest, y.length ≤ 4294967296) (lvl : Nat) (S : Sto) : Sem Go.Proofs.Tryz.prog fid_spec_l7Nest lvl [.tr (.sl (sig.map cControl)), .tr (.sl (nest.map eIS))] S (iB (dc (nestOK sig nest))) S := by
  refine sem_of_chk k_spec_l7Nest trivial ?_
  simp only [c_spec_l7Nest, List.length_map, EVA, ↓reduceIte, Nat.reduceEqDiff, Nat.reduceMul, reduceCtorEq, Nat.reduceAdd, Nat.reduceSub, Nat.reduceLeDiff, Nat.reduceLT, Int.reduceToNat, Int.reduceLE, Int.reduceLT, mens, men]
  refine ite_of (fun hne => ?_) (fun heq => ?_)
  · have : ¬ nestOK sig nest := fun h => by have := h.1; omega
    rw [dc_false this]
  have hE : nest.length = sig.length := by omega
  refine wp_cnt (α := Unit) nest.length (fun j _ => [(5, iI j)]) (fun j _ => []) (fun j _ => ∀ k, k < j → nestAt sig nest k) () (by simp only [EVA, ↓reduceIte, Nat.reduceEqDiff, Nat.reduceMul, reduceCtorEq, Nat.reduceAdd, Nat.reduceSub, Nat.reduceLeDiff, Nat.reduceLT, Int.reduceToNat, Int.reduceLE, Int.reduceLT, mens, men]) (by (simp only [EVA, ↓reduceIte, Nat.reduceEqDiff, Nat.reduceMul, reduceCtorEq, Nat.reduceAdd, Nat.reduceSub, Nat.reduceLeDiff, Nat.reduceLT, Int.reduceToNat, Int.reduceLE, Int.reduceLT, mens, men]) <;> rfl) (fun k hk => absurd hk (Nat.not_lt_zero k)) ?_
  intro j _ hj hA
  simp only [List.length_map, EVA, ↓reduceIte, Nat.reduceEqDiff, Nat.reduceMul, reduceCtorEq, Nat.reduceAdd, Nat.reduceSub, Nat.reduceLeDiff, Nat.reduceLT, Int.reduceToNat, Int.reduceLE, Int.reduceLT, mens, men]
  refine ite_of (fun hlt => ?_) (fun hge => ?_)
  · have hja : j < nest.length := by omega
    have hjs : j < sig.length := by omega
    have ga := getA (c := eIS) hja
    have gs := getA (c := cControl) hjs
    have hy : nest[j].length ≤ 4294967296 := hb _ (List.getElem_mem hja)
    simp only [ga, gs, List.length_map, cControl, EVA, ↓reduceIte, Nat.reduceEqDiff, Nat.reduceMul, reduceCtorEq, Nat.reduceAdd, Nat.reduceSub, Nat.reduceLeDiff, Nat.reduceLT, Int.reduceToNat, Int.reduceLE, Int.reduceLT, mens, men]
    refine kca_intro (sem_l7Controls sig nest[j] hn (by omega)) ?_
    cases hc : dc (Ris 0 ((sig.length : Int) - 1) nest[j])
    · simp only [EVA, ↓reduceIte, Nat.reduceEqDiff, Nat.reduceMul, reduceCtorEq, Nat.reduceAdd, Nat.reduceSub, Nat.reduceLeDiff, Nat.reduceLT, Int.reduceToNat, Int.reduceLE, Int.reduceLT, mens, men]
      have : ¬ nestOK sig nest := fun h => dc_not.1 hc (h.2 j hja hjs).1
      rw [dc_false this]
    have hR := dc_iff.1 hc
    by_cases hk : sig[j].kind_ = 2
    · simp only [ga, gs, List.length_map, cControl, hk, EVA, ↓reduceIte, Nat.reduceEqDiff, Nat.reduceMul, reduceCtorEq, Nat.reduceAdd, Nat.reduceSub, Nat.reduceLeDiff, Nat.reduceLT, Int.reduceToNat, Int.reduceLE, Int.reduceLT, mens, men]
      refine ite_of (fun hpos => ?_) (fun hz => ?_)
      · have : ¬ nestOK sig nest := fun h => by
          have := (h.2 j hja hjs).2 hk
          rw [this] at hpos
          simp at hpos
        rw [dc_false this]
      · have hz2 : nest[j] = [] := List.length_eq_zero_iff.1 (by omega)
        exact ⟨by rw [fits_i64]; omega, cntJ_intro () hja rfl (all_succ hA fun _ _ => ⟨hR, fun _ => hz2⟩)⟩
    · simp only [ga, gs, List.length_map, cControl, hk, EVA, ↓reduceIte, Nat.reduceEqDiff, Nat.reduceMul, reduceCtorEq, Nat.reduceAdd, Nat.reduceSub, Nat.reduceLeDiff, Nat.reduceLT, Int.reduceToNat, Int.reduceLE, Int.reduceLT, mens, men]
      exact ⟨by rw [fits_i64]; omega, cntJ_intro () hja rfl (all_succ hA fun _ _ => ⟨hR, fun h => absurd h hk⟩)⟩
  · have : j = nest.length := by omega
    subst this
    have : nestOK sig nest := ⟨hE, fun k h h2 => hA k h h h2⟩
    rw [dc_true this]

def sortsOK (sig : List TControl) (sorts : List (List Int)) (many : Nat) : Prop := sorts.length = sig.length ∧ ∀ k, sortsAt sig sorts many k

theorem sem_l7Sorts (sig : List TControl) (sorts : List (List Int)) (many : Nat) (hm : many ≤ 4294967296) (hn : sig.length ≤ 4294967296) (hl : sorts.length ≤ 4294967296) (hb : ∀ y ∈ sorts, y.length ≤ 4294967296) (lvl : Nat) (S : Sto) : Sem Go.Proofs.Tryz.prog fid_spec_l7Sorts lvl [.tr (.sl (sig.map cControl)), .tr (.sl (sorts.map eIS)), iI many] S (iB (dc (sortsOK sig sorts many))) S := by
  refine sem_of_chk k_spec_l7Sorts trivial ?_
  simp only [c_spec_l7Sorts, List.length_map, EVA, ↓reduceIte, Nat.reduceEqDiff, Nat.reduceMul, reduceCtorEq, Nat.reduceAdd, Nat.reduceSub, Nat.reduceLeDiff, Nat.reduceLT, Int.reduceToNat, Int.reduceLE, Int.reduceLT, mens, men]
  refine ite_of (fun hne => ?_) (fun heq => ?_)
  · have : ¬ sortsOK sig sorts many := fun h => by have := h.1; omega
    rw [dc_false this]
  have hE : sorts.length = sig.length := by omega
  refine wp_cnt (α := Unit) sorts.length (fun j _ => [(7, iI j)]) (fun j _ => []) (fun j _ => ∀ k, k < j → sortsAt sig sorts many k) () (by simp only [EVA, ↓reduceIte, Nat.reduceEqDiff, Nat.reduceMul, reduceCtorEq, Nat.reduceAdd, Nat.reduceSub, Nat.reduceLeDiff, Nat.reduceLT, Int.reduceToNat, Int.reduceLE, Int.reduceLT, mens, men]) (by (simp only [EVA, ↓reduceIte, Nat.reduceEqDiff, Nat.reduceMul, reduceCtorEq, Nat.reduceAdd, Nat.reduceSub, Nat.reduceLeDiff, Nat.reduceLT, Int.reduceToNat, Int.reduceLE, Int.reduceLT, mens, men]) <;> rfl) (fun k hk => absurd hk (Nat.not_lt_zero k)) ?_
  intro j _ hj hA
  simp only [List.length_map, EVA, ↓reduceIte, Nat.reduceEqDiff, Nat.reduceMul, reduceCtorEq, Nat.reduceAdd, Nat.reduceSub, Nat.reduceLeDiff, Nat.reduceLT, Int.reduceToNat, Int.reduceLE, Int.reduceLT, mens, men]
  refine ite_of (fun hlt => ?_) (fun hge => ?_)
  · have hja : j < sorts.length := by omega
    have hjs : j < sig.length := by omega
    have ga := getA (c := eIS) hja
    have gs := getA (c := cControl) hjs
    have hy : sorts[j].length ≤ 4294967296 := hb _ (List.getElem_mem hja)
    simp only [ga, gs, List.length_map, cControl, EVA, ↓reduceIte, Nat.reduceEqDiff, Nat.reduceMul, reduceCtorEq, Nat.reduceAdd, Nat.reduceSub, Nat.reduceLeDiff, Nat.reduceLT, Int.reduceToNat, Int.reduceLE, Int.reduceLT, mens, men]
    refine ite_of (fun hne => ?_) (fun heq => ?_)
    · have : ¬ sortsOK sig sorts many := fun h => hne (h.2 j hja hjs).1
      rw [dc_false this]
    have heq2 : (sorts[j].length : Int) = sig[j].ports := by omega
    refine wp_cnt (α := Unit) sorts[j].length (fun i _ => [(8, iI i)]) (fun i _ => []) (fun i _ => ∀ k, k < i → 0 ≤ g0 sorts[j] k ∧ g0 sorts[j] k ≤ (many : Int) - 1) () (by simp only [EVA, ↓reduceIte, Nat.reduceEqDiff, Nat.reduceMul, reduceCtorEq, Nat.reduceAdd, Nat.reduceSub, Nat.reduceLeDiff, Nat.reduceLT, Int.reduceToNat, Int.reduceLE, Int.reduceLT, mens, men]) (by (simp only [EVA, ↓reduceIte, Nat.reduceEqDiff, Nat.reduceMul, reduceCtorEq, Nat.reduceAdd, Nat.reduceSub, Nat.reduceLeDiff, Nat.reduceLT, Int.reduceToNat, Int.reduceLE, Int.reduceLT, mens, men]) <;> rfl) (fun k hk => absurd hk (Nat.not_lt_zero k)) ?_
    intro i _ hi hB
    simp only [ga, gs, List.length_map, cControl, EVA, ↓reduceIte, Nat.reduceEqDiff, Nat.reduceMul, reduceCtorEq, Nat.reduceAdd, Nat.reduceSub, Nat.reduceLeDiff, Nat.reduceLT, Int.reduceToNat, Int.reduceLE, Int.reduceLT, mens, men]
    refine ite_of (fun hlt2 => ?_) (fun hge2 => ?_)
    · have hia : i < sorts[j].length := by omega
      have gi := rI_get hia
      simp only [ga, gs, gi, List.length_map, EVA, ↓reduceIte, Nat.reduceEqDiff, Nat.reduceMul, reduceCtorEq, Nat.reduceAdd, Nat.reduceSub, Nat.reduceLeDiff, Nat.reduceLT, Int.reduceToNat, Int.reduceLE, Int.reduceLT, mens, men]
      refine ⟨by rw [fits_i64]; omega, ?_⟩
      refine kca_intro (sem_l1In (g0 sorts[j] i) 0 ((many : Int) - 1)) ?_
      cases hc : inB (g0 sorts[j] i) 0 ((many : Int) - 1)
      · simp only [EVA, ↓reduceIte, Nat.reduceEqDiff, Nat.reduceMul, reduceCtorEq, Nat.reduceAdd, Nat.reduceSub, Nat.reduceLeDiff, Nat.reduceLT, Int.reduceToNat, Int.reduceLE, Int.reduceLT, mens, men]
        have : ¬ sortsOK sig sorts many := fun h => inB_not.1 hc (by
          have := (h.2 j hja hjs).2 (g0 sorts[j] i) (by simp [hia])
          exact this)
        rw [dc_false this]
      · simp only [EVA, ↓reduceIte, Nat.reduceEqDiff, Nat.reduceMul, reduceCtorEq, Nat.reduceAdd, Nat.reduceSub, Nat.reduceLeDiff, Nat.reduceLT, Int.reduceToNat, Int.reduceLE, Int.reduceLT, mens, men]
        exact ⟨by rw [fits_i64]; omega, cntJ_intro () hia rfl (all_succ hB (inB_iff.1 hc))⟩
    · have : i = sorts[j].length := by omega
      subst this
      exact ⟨by rw [fits_i64]; omega, cntJ_intro () hja rfl (all_succ hA fun _ _ => ⟨heq2, fun n hn => by
        obtain ⟨k, hk, rfl⟩ := List.getElem_of_mem hn
        have := hB k hk
        simpa [hk] using this⟩)⟩
  · have : j = sorts.length := by omega
    subst this
    have : sortsOK sig sorts many := ⟨hE, fun k h h2 => hA k h h h2⟩
    rw [dc_true this]

theorem sem_l7Before (a b : A2) (lvl : Nat) (S : Sto) : Sem Go.Proofs.Tryz.prog fid_spec_l7Before lvl [.ag ((cA2 a).map .tr), .ag ((cA2 b).map .tr)] S (iB (dc (lt2 a b))) S := by
  refine sem_of_chk k_spec_l7Before trivial ?_
  simp only [c_spec_l7Before, cA2, EVA, ↓reduceIte, Nat.reduceEqDiff, Nat.reduceMul, reduceCtorEq, Nat.reduceAdd, Nat.reduceSub, Nat.reduceLeDiff, Nat.reduceLT, Int.reduceToNat, Int.reduceLE, Int.reduceLT, mens, men]
  by_cases h1 : a.1 < b.1
  · simp only [h1, EVA, ↓reduceIte, Nat.reduceEqDiff, Nat.reduceMul, reduceCtorEq, Nat.reduceAdd, Nat.reduceSub, Nat.reduceLeDiff, Nat.reduceLT, Int.reduceToNat, Int.reduceLE, Int.reduceLT, mens, men]
    have : lt2 a b := .inl h1
    rw [dc_true this]
  by_cases h2 : a.1 = b.1
  · have h3 : ¬ b.1 < b.1 := Int.lt_irrefl _
    simp only [h1, h2, h3, EVA, ↓reduceIte, Nat.reduceEqDiff, Nat.reduceMul, reduceCtorEq, Nat.reduceAdd, Nat.reduceSub, Nat.reduceLeDiff, Nat.reduceLT, Int.reduceToNat, Int.reduceLE, Int.reduceLT, mens, men]
    have : lt2 a b ↔ a.2 < b.2 := ⟨fun h => by rcases h with h | h <;> omega, fun h => .inr ⟨h2, h⟩⟩
    rw [dc_congr this, dc_decide]
  · simp only [h1, h2, EVA, ↓reduceIte, Nat.reduceEqDiff, Nat.reduceMul, reduceCtorEq, Nat.reduceAdd, Nat.reduceSub, Nat.reduceLeDiff, Nat.reduceLT, Int.reduceToNat, Int.reduceLE, Int.reduceLT, mens, men]
    have : ¬ lt2 a b := fun h => by rcases h with h | h <;> omega
    rw [dc_false this]

theorem sortOK_iff {sig : List TControl} {s : TSorting} : sortOK sig s ↔ sigOK sig ∧ Ris 0 ((sig.length : Int) - 1) s.tops ∧ nestOK sig s.nest ∧ sortsOK sig s.sorts s.most.length ∧ (1 ≤ s.most.length ∧ s.most.length ≤ 4) ∧ (∀ n ∈ s.most, 0 ≤ n ∧ n ≤ 24) ∧ ∀ i, apartAt s.apart s.most.length i :=
  ⟨fun h => ⟨h.sg, h.tops, ⟨h.nestL, h.nest⟩, ⟨h.sortsL, h.sorts⟩, h.many, h.most, h.apart⟩, fun ⟨a, b, c, d, e, f, g⟩ => ⟨a, b, c.1, c.2, d.1, d.2, e, f, g⟩⟩

theorem sem_l7Good (sig : List TControl) (s : TSorting) (hn : sig.length ≤ 4294967296) (hbs : ∀ y ∈ sig, bdControl 4294967296 y) (hb : bdSorting 4294967296 s) (lvl : Nat) (S : Sto) : Sem Go.Proofs.Tryz.prog fid_spec_l7Good lvl [.tr (.sl (sig.map cControl)), .ag ((cSorting s).map .tr)] S (iB (dc (sortOK sig s))) S := by
  obtain ⟨b1, b2, b3, b4, b5, b6, b7⟩ := hb
  refine sem_of_chk k_spec_l7Good trivial ?_
  simp only [c_spec_l7Good, List.length_map, cSorting, EVA, ↓reduceIte, Nat.reduceEqDiff, Nat.reduceMul, reduceCtorEq, Nat.reduceAdd, Nat.reduceSub, Nat.reduceLeDiff, Nat.reduceLT, Int.reduceToNat, Int.reduceLE, Int.reduceLT, mens, men]
  refine kca_intro (sem_l2Sig sig (by omega) (fun y hy => monoControl (hbs y hy))) ?_
  cases h1 : dc (sigOK sig)
  · simp only [EVA, ↓reduceIte, Nat.reduceEqDiff, Nat.reduceMul, reduceCtorEq, Nat.reduceAdd, Nat.reduceSub, Nat.reduceLeDiff, Nat.reduceLT, Int.reduceToNat, Int.reduceLE, Int.reduceLT, mens, men]
    rw [dc_false fun h => dc_not.1 h1 h.sg]
  simp only [List.length_map, cSorting, EVA, ↓reduceIte, Nat.reduceEqDiff, Nat.reduceMul, reduceCtorEq, Nat.reduceAdd, Nat.reduceSub, Nat.reduceLeDiff, Nat.reduceLT, Int.reduceToNat, Int.reduceLE, Int.reduceLT, mens, men]
  refine kca_intro (sem_l7Controls sig s.tops hn (by omega)) ?_
  cases h2 : dc (Ris 0 ((sig.length : Int) - 1) s.tops)
  · simp only [EVA, ↓reduceIte, Nat.reduceEqDiff, Nat.reduceMul, reduceCtorEq, Nat.reduceAdd, Nat.reduceSub, Nat.reduceLeDiff, Nat.reduceLT, Int.reduceToNat, Int.reduceLE, Int.reduceLT, mens, men]
    rw [dc_false fun h => dc_not.1 h2 h.tops]
  simp only [List.length_map, cSorting, EVA, ↓reduceIte, Nat.reduceEqDiff, Nat.reduceMul, reduceCtorEq, Nat.reduceAdd, Nat.reduceSub, Nat.reduceLeDiff, Nat.reduceLT, Int.reduceToNat, Int.reduceLE, Int.reduceLT, mens, men]
  refine kca_intro (sem_l7Nest sig s.nest hn b2 b3) ?_
  cases h3 : dc (nestOK sig s.nest)
  · simp only [EVA, ↓reduceIte, Nat.reduceEqDiff, Nat.reduceMul, reduceCtorEq, Nat.reduceAdd, Nat.reduceSub, Nat.reduceLeDiff, Nat.reduceLT, Int.reduceToNat, Int.reduceLE, Int.reduceLT, mens, men]
    rw [dc_false fun h => dc_not.1 h3 ⟨h.nestL, h.nest⟩]
  simp only [List.length_map, cSorting, EVA, ↓reduceIte, Nat.reduceEqDiff, Nat.reduceMul, reduceCtorEq, Nat.reduceAdd, Nat.reduceSub, Nat.reduceLeDiff, Nat.reduceLT, Int.reduceToNat, Int.reduceLE, Int.reduceLT, mens, men]
  refine kca_intro (sem_l1In s.most.length 1 4) ?_
  cases h4 : inB s.most.length 1 4
  · simp only [EVA, ↓reduceIte, Nat.reduceEqDiff, Nat.reduceMul, reduceCtorEq, Nat.reduceAdd, Nat.reduceSub, Nat.reduceLeDiff, Nat.reduceLT, Int.reduceToNat, Int.reduceLE, Int.reduceLT, mens, men]
    rw [dc_false fun h => inB_not.1 h4 (by have := h.many; omega)]
  simp only [List.length_map, cSorting, EVA, ↓reduceIte, Nat.reduceEqDiff, Nat.reduceMul, reduceCtorEq, Nat.reduceAdd, Nat.reduceSub, Nat.reduceLeDiff, Nat.reduceLT, Int.reduceToNat, Int.reduceLE, Int.reduceLT, mens, men]
  refine kca_intro (sem_l7Sorts sig s.sorts s.most.length b6 hn b4 b5) ?_
  cases h5 : dc (sortsOK sig s.sorts s.most.length)
  · simp only [EVA, ↓reduceIte, Nat.reduceEqDiff, Nat.reduceMul, reduceCtorEq, Nat.reduceAdd, Nat.reduceSub, Nat.reduceLeDiff, Nat.reduceLT, Int.reduceToNat, Int.reduceLE, Int.reduceLT, mens, men]
    rw [dc_false fun h => dc_not.1 h5 ⟨h.sortsL, h.sorts⟩]
  simp only [List.length_map, cSorting, EVA, ↓reduceIte, Nat.reduceEqDiff, Nat.reduceMul, reduceCtorEq, Nat.reduceAdd, Nat.reduceSub, Nat.reduceLeDiff, Nat.reduceLT, Int.reduceToNat, Int.reduceLE, Int.reduceLT, mens, men]
  refine wp_cnt (α := Unit) s.most.length (fun j _ => [(5, iI j)]) (fun j _ => []) (fun j _ => ∀ k, k < j → 0 ≤ g0 s.most k ∧ g0 s.most k ≤ 24) () (by simp only [EVA, ↓reduceIte, Nat.reduceEqDiff, Nat.reduceMul, reduceCtorEq, Nat.reduceAdd, Nat.reduceSub, Nat.reduceLeDiff, Nat.reduceLT, Int.reduceToNat, Int.reduceLE, Int.reduceLT, mens, men]) (by (simp only [EVA, ↓reduceIte, Nat.reduceEqDiff, Nat.reduceMul, reduceCtorEq, Nat.reduceAdd, Nat.reduceSub, Nat.reduceLeDiff, Nat.reduceLT, Int.reduceToNat, Int.reduceLE, Int.reduceLT, mens, men]) <;> rfl) (fun k hk => absurd hk (Nat.not_lt_zero k)) ?_
  intro j _ hj hA
  simp only [List.length_map, cSorting, EVA, ↓reduceIte, Nat.reduceEqDiff, Nat.reduceMul, reduceCtorEq, Nat.reduceAdd, Nat.reduceSub, Nat.reduceLeDiff, Nat.reduceLT, Int.reduceToNat, Int.reduceLE, Int.reduceLT, mens, men]
  refine ite_of (fun hlt => ?_) (fun hge => ?_)
  · have hja : j < s.most.length := by omega
    have ga := rI_get hja
    simp only [ga, List.length_map, cSorting, EVA, ↓reduceIte, Nat.reduceEqDiff, Nat.reduceMul, reduceCtorEq, Nat.reduceAdd, Nat.reduceSub, Nat.reduceLeDiff, Nat.reduceLT, Int.reduceToNat, Int.reduceLE, Int.reduceLT, mens, men]
    refine kca_intro (sem_l1In (g0 s.most j) 0 24) ?_
    cases hc : inB (g0 s.most j) 0 24
    · simp only [EVA, ↓reduceIte, Nat.reduceEqDiff, Nat.reduceMul, reduceCtorEq, Nat.reduceAdd, Nat.reduceSub, Nat.reduceLeDiff, Nat.reduceLT, Int.reduceToNat, Int.reduceLE, Int.reduceLT, mens, men]
      rw [dc_false fun h => inB_not.1 hc (h.most _ (by simp [hja]))]
    · simp only [EVA, ↓reduceIte, Nat.reduceEqDiff, Nat.reduceMul, reduceCtorEq, Nat.reduceAdd, Nat.reduceSub, Nat.reduceLeDiff, Nat.reduceLT, Int.reduceToNat, Int.reduceLE, Int.reduceLT, mens, men]
      exact ⟨by rw [fits_i64]; omega, cntJ_intro () hja rfl (all_succ hA (inB_iff.1 hc))⟩
  have hj0 : j = s.most.length := by omega
  subst hj0
  have hM : ∀ n ∈ s.most, 0 ≤ n ∧ n ≤ 24 := fun n hn => by
    obtain ⟨k, hk, rfl⟩ := List.getElem_of_mem hn
    have := hA k hk
    simpa [hk] using this
  refine wp_cnt (α := Unit) s.apart.length (fun j _ => [(6, iI j)]) (fun j _ => []) (fun j _ => ∀ k, k < j → apartAt s.apart s.most.length k) () (by simp only [EVA, ↓reduceIte, Nat.reduceEqDiff, Nat.reduceMul, reduceCtorEq, Nat.reduceAdd, Nat.reduceSub, Nat.reduceLeDiff, Nat.reduceLT, Int.reduceToNat, Int.reduceLE, Int.reduceLT, mens, men]) (by (simp only [EVA, ↓reduceIte, Nat.reduceEqDiff, Nat.reduceMul, reduceCtorEq, Nat.reduceAdd, Nat.reduceSub, Nat.reduceLeDiff, Nat.reduceLT, Int.reduceToNat, Int.reduceLE, Int.reduceLT, mens, men]) <;> rfl) (fun k hk => absurd hk (Nat.not_lt_zero k)) ?_
  intro j _ hj hB
  simp only [List.length_map, cSorting, EVA, ↓reduceIte, Nat.reduceEqDiff, Nat.reduceMul, reduceCtorEq, Nat.reduceAdd, Nat.reduceSub, Nat.reduceLeDiff, Nat.reduceLT, Int.reduceToNat, Int.reduceLE, Int.reduceLT, mens, men]
  refine ite_of (fun hlt => ?_) (fun hge => ?_)
  · have hja : j < s.apart.length := by omega
    have ga := getA (c := cA2) hja
    have hno : ¬ apartAt s.apart s.most.length j → dc (sortOK sig s) = false := fun h => dc_false fun g => h (g.apart j)
    simp only [ga, List.length_map, cSorting, cA2, EVA, ↓reduceIte, Nat.reduceEqDiff, Nat.reduceMul, reduceCtorEq, Nat.reduceAdd, Nat.reduceSub, Nat.reduceLeDiff, Nat.reduceLT, Int.reduceToNat, Int.reduceLE, Int.reduceLT, mens, men]
    by_cases q1 : s.apart[j].1 < 0
    · simp only [q1, EVA, ↓reduceIte, Nat.reduceEqDiff, Nat.reduceMul, reduceCtorEq, Nat.reduceAdd, Nat.reduceSub, Nat.reduceLeDiff, Nat.reduceLT, Int.reduceToNat, Int.reduceLE, Int.reduceLT, mens, men]
      rw [hno fun h => by have := (h hja).1; omega]
    by_cases q2 : s.apart[j].1 ≥ s.apart[j].2
    · simp only [q1, q2, EVA, ↓reduceIte, Nat.reduceEqDiff, Nat.reduceMul, reduceCtorEq, Nat.reduceAdd, Nat.reduceSub, Nat.reduceLeDiff, Nat.reduceLT, Int.reduceToNat, Int.reduceLE, Int.reduceLT, mens, men]
      rw [hno fun h => by have := (h hja).2.1; omega]
    by_cases q3 : s.apart[j].2 ≥ (s.most.length : Int)
    · simp only [q1, q2, q3, List.length_map, cSorting, EVA, ↓reduceIte, Nat.reduceEqDiff, Nat.reduceMul, reduceCtorEq, Nat.reduceAdd, Nat.reduceSub, Nat.reduceLeDiff, Nat.reduceLT, Int.reduceToNat, Int.reduceLE, Int.reduceLT, mens, men]
      rw [hno fun h => by have := (h hja).2.2.1; omega]
    by_cases q4 : 0 < j
    · have e1 : ((j : Int) - 1).toNat = j - 1 := by omega
      have e2 : (0 : Int) ≤ j - 1 := by omega
      have q5 : (0 : Int) < j := by omega
      have gb := getA (c := cA2) (l := s.apart) (j := j - 1) (by omega)
      simp only [q1, q2, q3, q5, e1, e2, ga, gb, List.length_map, cSorting, cA2, EVA, ↓reduceIte, Nat.reduceEqDiff, Nat.reduceMul, reduceCtorEq, Nat.reduceAdd, Nat.reduceSub, Nat.reduceLeDiff, Nat.reduceLT, Int.reduceToNat, Int.reduceLE, Int.reduceLT, mens, men]
      refine ⟨by rw [fits_i64]; omega, ?_⟩
      refine kca_intro (sem_l7Before (s.apart[j - 1]'(by omega)) s.apart[j]) ?_
      cases hc : dc (lt2 (s.apart[j - 1]'(by omega)) s.apart[j])
      · simp only [EVA, ↓reduceIte, Nat.reduceEqDiff, Nat.reduceMul, reduceCtorEq, Nat.reduceAdd, Nat.reduceSub, Nat.reduceLeDiff, Nat.reduceLT, Int.reduceToNat, Int.reduceLE, Int.reduceLT, mens, men]
        rw [hno fun h => dc_not.1 hc ((h hja).2.2.2 q4)]
      · simp only [EVA, ↓reduceIte, Nat.reduceEqDiff, Nat.reduceMul, reduceCtorEq, Nat.reduceAdd, Nat.reduceSub, Nat.reduceLeDiff, Nat.reduceLT, Int.reduceToNat, Int.reduceLE, Int.reduceLT, mens, men]
        exact ⟨by rw [fits_i64]; omega, cntJ_intro () hja rfl (all_succ hB fun _ => ⟨by omega, by omega, by omega, fun _ => dc_iff.1 hc⟩)⟩
    · have q5 : ¬ (0 : Int) < j := by omega
      simp only [q1, q2, q3, q5, ga, List.length_map, cSorting, cA2, EVA, ↓reduceIte, Nat.reduceEqDiff, Nat.reduceMul, reduceCtorEq, Nat.reduceAdd, Nat.reduceSub, Nat.reduceLeDiff, Nat.reduceLT, Int.reduceToNat, Int.reduceLE, Int.reduceLT, mens, men]
      exact ⟨by rw [fits_i64]; omega, cntJ_intro () hja rfl (all_succ hB fun _ => ⟨by omega, by omega, by omega, fun h => absurd h q4⟩)⟩
  · have hj1 : j = s.apart.length := by omega
    subst hj1
    rw [dc_true (sortOK_iff.2 ⟨dc_iff.1 h1, dc_iff.1 h2, dc_iff.1 h3, dc_iff.1 h5, by have := inB_iff.1 h4; omega, hM, fun i h => hB i h h⟩)]

end Go.Fd

/-
  A VALID SORTING, THE PROGRAM'S SIDE. Own work.
-/
namespace Go.Fd
set_option maxRecDepth 20000

def cmp2 (a b : A2) : Int := cmpL [a.1, a.2] [b.1, b.2]

theorem cmp2_lt {a b : A2} : cmp2 a b < 0 ↔ lt2 a b := by
  unfold cmp2 lt2
  simp only [cmpL]
  by_cases h1 : a.1 < b.1
  · simp [h1]
  · by_cases h2 : b.1 < a.1
    · simp [h1, h2]; omega
    · by_cases h3 : a.2 < b.2
      · simp [h1, h2, h3]; omega
      · by_cases h4 : b.2 < a.2 <;> simp [h1, h2, h3, h4]

theorem sem_comparePairs (a b : A2) (lvl : Nat) (S : Sto) : Sem Go.Proofs.Tryz.prog fid_impl_comparePairs lvl [.ag ((cA2 a).map .tr), .ag ((cA2 b).map .tr)] S (iI (cmp2 a b)) S := by
  refine sem_of_chk k_impl_comparePairs trivial ?_
  simp only [c_impl_comparePairs, cA2, EVA, ↓reduceIte, Nat.reduceEqDiff, Nat.reduceMul, reduceCtorEq, Nat.reduceAdd, Nat.reduceSub, Nat.reduceLeDiff, Nat.reduceLT, Int.reduceToNat, Int.reduceLE, Int.reduceLT, mens, men]
  refine kca_intro (sem_Compare [a.1, a.2] [b.1, b.2] (by simp) (by simp)) ?_
  simp only [EVA, ↓reduceIte, Nat.reduceEqDiff, Nat.reduceMul, reduceCtorEq, Nat.reduceAdd, Nat.reduceSub, Nat.reduceLeDiff, Nat.reduceLT, Int.reduceToNat, Int.reduceLE, Int.reduceLT, mens, men]
  rfl

def apartOK (l : List A2) (many : Nat) : Prop := ∀ i, apartAt l many i

theorem sem_arePairs (l : List A2) (many : Nat) (hm : many ≤ 4294967296) (hl : l.length ≤ 4294967296) (lvl : Nat) (S : Sto) : Sem Go.Proofs.Tryz.prog fid_impl_arePairs lvl [.tr (.sl (l.map cA2)), iI many] S (iB (dc (apartOK l many))) S := by
  refine sem_of_chk k_impl_arePairs trivial ?_
  simp only [c_impl_arePairs, List.length_map, EVA, ↓reduceIte, Nat.reduceEqDiff, Nat.reduceMul, reduceCtorEq, Nat.reduceAdd, Nat.reduceSub, Nat.reduceLeDiff, Nat.reduceLT, Int.reduceToNat, Int.reduceLE, Int.reduceLT, mens, men]
  refine wp_cnt (α := Unit) l.length (fun j _ => [(9, iI j)]) (fun j _ => []) (fun j _ => ∀ k, k < j → apartAt l many k) () (by simp only [EVA, ↓reduceIte, Nat.reduceEqDiff, Nat.reduceMul, reduceCtorEq, Nat.reduceAdd, Nat.reduceSub, Nat.reduceLeDiff, Nat.reduceLT, Int.reduceToNat, Int.reduceLE, Int.reduceLT, mens, men]) (by (simp only [EVA, ↓reduceIte, Nat.reduceEqDiff, Nat.reduceMul, reduceCtorEq, Nat.reduceAdd, Nat.reduceSub, Nat.reduceLeDiff, Nat.reduceLT, Int.reduceToNat, Int.reduceLE, Int.reduceLT, mens, men]) <;> rfl) (fun k hk => absurd hk (Nat.not_lt_zero k)) ?_
  intro j _ hj hB
  simp only [List.length_map, EVA, ↓reduceIte, Nat.reduceEqDiff, Nat.reduceMul, reduceCtorEq, Nat.reduceAdd, Nat.reduceSub, Nat.reduceLeDiff, Nat.reduceLT, Int.reduceToNat, Int.reduceLE, Int.reduceLT, mens, men]
  refine ite_of (fun hlt => ?_) (fun hge => ?_)
  · have hja : j < l.length := by omega
    have ga := getA (c := cA2) hja
    have hno : ¬ apartAt l many j → dc (apartOK l many) = false := fun h => dc_false fun g => h (g j)
    simp only [ga, List.length_map, cA2, EVA, ↓reduceIte, Nat.reduceEqDiff, Nat.reduceMul, reduceCtorEq, Nat.reduceAdd, Nat.reduceSub, Nat.reduceLeDiff, Nat.reduceLT, Int.reduceToNat, Int.reduceLE, Int.reduceLT, mens, men]
    refine kca_intro (sem_within l[j].1 0 (IntKind.wrap .i64 (l[j].2 - 1))) ?_
    cases p1 : inB l[j].1 0 (IntKind.wrap .i64 (l[j].2 - 1))
    · simp only [EVA, ↓reduceIte, Nat.reduceEqDiff, Nat.reduceMul, reduceCtorEq, Nat.reduceAdd, Nat.reduceSub, Nat.reduceLeDiff, Nat.reduceLT, Int.reduceToNat, Int.reduceLE, Int.reduceLT, mens, men]
      rw [hno fun h => inB_not.1 p1 (by
        have h2 := h hja
        rw [wrap_fits (by rw [fits_i64]; omega)]
        omega)]
    simp only [ga, List.length_map, cA2, EVA, ↓reduceIte, Nat.reduceEqDiff, Nat.reduceMul, reduceCtorEq, Nat.reduceAdd, Nat.reduceSub, Nat.reduceLeDiff, Nat.reduceLT, Int.reduceToNat, Int.reduceLE, Int.reduceLT, mens, men]
    refine ⟨by rw [fits_i64]; omega, ?_⟩
    refine kca_intro (sem_within l[j].2 0 ((many : Int) - 1)) ?_
    cases p2 : inB l[j].2 0 ((many : Int) - 1)
    · simp only [EVA, ↓reduceIte, Nat.reduceEqDiff, Nat.reduceMul, reduceCtorEq, Nat.reduceAdd, Nat.reduceSub, Nat.reduceLeDiff, Nat.reduceLT, Int.reduceToNat, Int.reduceLE, Int.reduceLT, mens, men]
      rw [hno fun h => inB_not.1 p2 (by
        have h2 := h hja
        omega)]
    have r2 := inB_iff.1 p2
    have r1 := inB_iff.1 p1
    rw [wrap_fits (by rw [fits_i64]; omega)] at r1
    by_cases q4 : 0 < j
    · have e1 : ((j : Int) - 1).toNat = j - 1 := by omega
      have e2 : (0 : Int) ≤ j - 1 := by omega
      have q5 : (0 : Int) < j := by omega
      have gb := getA (c := cA2) (l := l) (j := j - 1) (by omega)
      simp only [q5, e1, e2, ga, gb, List.length_map, cA2, EVA, ↓reduceIte, Nat.reduceEqDiff, Nat.reduceMul, reduceCtorEq, Nat.reduceAdd, Nat.reduceSub, Nat.reduceLeDiff, Nat.reduceLT, Int.reduceToNat, Int.reduceLE, Int.reduceLT, mens, men]
      refine ⟨by rw [fits_i64]; omega, ?_⟩
      refine kca_intro (sem_comparePairs (l[j - 1]'(by omega)) l[j]) ?_
      by_cases hc : 0 ≤ cmp2 (l[j - 1]'(by omega)) l[j]
      · simp only [hc, EVA, ↓reduceIte, Nat.reduceEqDiff, Nat.reduceMul, reduceCtorEq, Nat.reduceAdd, Nat.reduceSub, Nat.reduceLeDiff, Nat.reduceLT, Int.reduceToNat, Int.reduceLE, Int.reduceLT, mens, men]
        rw [hno fun h => by
          have := cmp2_lt.2 ((h hja).2.2.2 q4)
          omega]
      · have hc2 : cmp2 (l[j - 1]'(by omega)) l[j] < 0 := by omega
        simp only [hc, EVA, ↓reduceIte, Nat.reduceEqDiff, Nat.reduceMul, reduceCtorEq, Nat.reduceAdd, Nat.reduceSub, Nat.reduceLeDiff, Nat.reduceLT, Int.reduceToNat, Int.reduceLE, Int.reduceLT, mens, men]
        exact ⟨by rw [fits_i64]; omega, cntJ_intro () hja rfl (all_succ hB fun _ => ⟨by omega, by omega, by omega, fun _ => cmp2_lt.1 hc2⟩)⟩
    · have q5 : ¬ (0 : Int) < j := by omega
      simp only [q5, ga, List.length_map, cA2, EVA, ↓reduceIte, Nat.reduceEqDiff, Nat.reduceMul, reduceCtorEq, Nat.reduceAdd, Nat.reduceSub, Nat.reduceLeDiff, Nat.reduceLT, Int.reduceToNat, Int.reduceLE, Int.reduceLT, mens, men]
      exact ⟨by rw [fits_i64]; omega, cntJ_intro () hja rfl (all_succ hB fun _ => ⟨by omega, by omega, by omega, fun h => absurd h q4⟩)⟩
  · have hj1 : j = l.length := by omega
    subst hj1
    have : apartOK l many := fun i h => hB i h h
    rw [dc_true this]

theorem sem_IsSorting_1 (n : Int) (lvl : Nat) (S : Sto) : Sem Go.Proofs.Tryz.prog fid_impl_IsSorting_1 lvl [iI n] S (iB (!inB n 0 24)) S := by
  refine sem_of_chk k_impl_IsSorting_1 trivial ?_
  simp only [c_impl_IsSorting_1, EVA, ↓reduceIte, Nat.reduceEqDiff, Nat.reduceMul, reduceCtorEq, Nat.reduceAdd, Nat.reduceSub, Nat.reduceLeDiff, Nat.reduceLT, Int.reduceToNat, Int.reduceLE, Int.reduceLT, mens, men]
  refine kca_intro (sem_within n 0 24) ?_
  simp only [EVA, ↓reduceIte, Nat.reduceEqDiff, Nat.reduceMul, reduceCtorEq, Nat.reduceAdd, Nat.reduceSub, Nat.reduceLeDiff, Nat.reduceLT, Int.reduceToNat, Int.reduceLE, Int.reduceLT, mens, men]

theorem sem_IsSorting_2 (n : Int) (s : TSorting) (hm : s.most.length ≤ 4294967296) (lvl : Nat) (S : Sto) : Sem Go.Proofs.Tryz.prog fid_impl_IsSorting_2 lvl [iI n, .ta (cSorting s)] S (iB (!inB n 0 ((s.most.length : Int) - 1))) S := by
  refine sem_of_chk k_impl_IsSorting_2 trivial ?_
  simp only [c_impl_IsSorting_2, cSorting, List.length_map, EVA, ↓reduceIte, Nat.reduceEqDiff, Nat.reduceMul, reduceCtorEq, Nat.reduceAdd, Nat.reduceSub, Nat.reduceLeDiff, Nat.reduceLT, Int.reduceToNat, Int.reduceLE, Int.reduceLT, mens, men]
  refine ⟨by rw [fits_i64]; omega, ?_⟩
  refine kca_intro (sem_within n 0 ((s.most.length : Int) - 1)) ?_
  simp only [EVA, ↓reduceIte, Nat.reduceEqDiff, Nat.reduceMul, reduceCtorEq, Nat.reduceAdd, Nat.reduceSub, Nat.reduceLeDiff, Nat.reduceLT, Int.reduceToNat, Int.reduceLE, Int.reduceLT, mens, men]

theorem any_out {l : List Int} {a b : Int} : (l.any fun n => !inB n a b) = false ↔ ∀ n ∈ l, a ≤ n ∧ n ≤ b := by
  simp only [List.any_eq_false, Bool.not_eq_true', Bool.not_eq_false, inB_iff]

theorem sem_impl_IsSorting (sig : List TControl) (s : TSorting) (hn : sig.length ≤ 4294967296) (hbs : ∀ y ∈ sig, bdControl 4294967296 y) (hb : bdSorting 4294967296 s) (lvl : Nat) (S : Sto) : Sem Go.Proofs.Tryz.prog fid_impl_IsSorting lvl [.tr (.sl (sig.map cControl)), .ag ((cSorting s).map .tr)] S (iB (dc (sortOK sig s))) S := by
  obtain ⟨b1, b2, b3, b4, b5, b6, b7⟩ := hb
  refine sem_of_chk k_impl_IsSorting trivial ?_
  simp only [c_impl_IsSorting, List.length_map, cSorting, EVA, ↓reduceIte, Nat.reduceEqDiff, Nat.reduceMul, reduceCtorEq, Nat.reduceAdd, Nat.reduceSub, Nat.reduceLeDiff, Nat.reduceLT, Int.reduceToNat, Int.reduceLE, Int.reduceLT, mens, men]
  refine kca_intro (sem_impl_IsSignature sig (by omega) (fun y hy => monoControl (hbs y hy))) ?_
  cases h1 : dc (sigOK sig)
  · simp only [EVA, ↓reduceIte, Nat.reduceEqDiff, Nat.reduceMul, reduceCtorEq, Nat.reduceAdd, Nat.reduceSub, Nat.reduceLeDiff, Nat.reduceLT, Int.reduceToNat, Int.reduceLE, Int.reduceLT, mens, men]
    rw [dc_false fun h => dc_not.1 h1 h.sg]
  simp only [List.length_map, cSorting, EVA, ↓reduceIte, Nat.reduceEqDiff, Nat.reduceMul, reduceCtorEq, Nat.reduceAdd, Nat.reduceSub, Nat.reduceLeDiff, Nat.reduceLT, Int.reduceToNat, Int.reduceLE, Int.reduceLT, mens, men]
  refine kca_intro (sem_isRising s.tops sig.length (by omega) (by omega) (by omega)) ?_
  cases h2 : dc (Ris 0 ((sig.length : Int) - 1) s.tops)
  · simp only [EVA, ↓reduceIte, Nat.reduceEqDiff, Nat.reduceMul, reduceCtorEq, Nat.reduceAdd, Nat.reduceSub, Nat.reduceLeDiff, Nat.reduceLT, Int.reduceToNat, Int.reduceLE, Int.reduceLT, mens, men]
    rw [dc_false fun h => dc_not.1 h2 h.tops]
  by_cases e3 : s.nest.length = sig.length
  case neg =>
    have e3' : ¬ (s.nest.length : Int) = sig.length := by omega
    simp only [e3', List.length_map, cSorting, EVA, ↓reduceIte, Nat.reduceEqDiff, Nat.reduceMul, reduceCtorEq, Nat.reduceAdd, Nat.reduceSub, Nat.reduceLeDiff, Nat.reduceLT, Int.reduceToNat, Int.reduceLE, Int.reduceLT, mens, men]
    rw [dc_false fun h => e3 h.nestL]
  by_cases e4 : s.sorts.length = sig.length
  case neg =>
    have e4' : ¬ (s.sorts.length : Int) = sig.length := by omega
    simp only [e3, e4', List.length_map, cSorting, EVA, ↓reduceIte, Nat.reduceEqDiff, Nat.reduceMul, reduceCtorEq, Nat.reduceAdd, Nat.reduceSub, Nat.reduceLeDiff, Nat.reduceLT, Int.reduceToNat, Int.reduceLE, Int.reduceLT, mens, men]
    rw [dc_false fun h => e4 h.sortsL]
  simp only [e3, e4, List.length_map, cSorting, EVA, ↓reduceIte, Nat.reduceEqDiff, Nat.reduceMul, reduceCtorEq, Nat.reduceAdd, Nat.reduceSub, Nat.reduceLeDiff, Nat.reduceLT, Int.reduceToNat, Int.reduceLE, Int.reduceLT, mens, men]
  refine kca_intro (sem_within s.most.length 1 4) ?_
  cases h4 : inB s.most.length 1 4
  · simp only [EVA, ↓reduceIte, Nat.reduceEqDiff, Nat.reduceMul, reduceCtorEq, Nat.reduceAdd, Nat.reduceSub, Nat.reduceLeDiff, Nat.reduceLT, Int.reduceToNat, Int.reduceLE, Int.reduceLT, mens, men]
    rw [dc_false fun h => inB_not.1 h4 (by have := h.many; omega)]
  simp only [List.length_map, cSorting, EVA, ↓reduceIte, Nat.reduceEqDiff, Nat.reduceMul, reduceCtorEq, Nat.reduceAdd, Nat.reduceSub, Nat.reduceLeDiff, Nat.reduceLT, Int.reduceToNat, Int.reduceLE, Int.reduceLT, mens, men]
  refine kca_intro (sem_coF1 (t := tv) (cs := []) g_coFI g_ixFI s.most (by omega) (fun x _ lvl S => sem_IsSorting_1 x lvl S)) ?_
  cases h5 : s.most.any fun n => !inB n 0 24
  case true =>
    simp only [EVA, ↓reduceIte, Nat.reduceEqDiff, Nat.reduceMul, reduceCtorEq, Nat.reduceAdd, Nat.reduceSub, Nat.reduceLeDiff, Nat.reduceLT, Int.reduceToNat, Int.reduceLE, Int.reduceLT, mens, men]
    rw [dc_false fun h => by rw [any_out.2 h.most] at h5; cases h5]
  simp only [List.length_map, cSorting, EVA, ↓reduceIte, Nat.reduceEqDiff, Nat.reduceMul, reduceCtorEq, Nat.reduceAdd, Nat.reduceSub, Nat.reduceLeDiff, Nat.reduceLT, Int.reduceToNat, Int.reduceLE, Int.reduceLT, mens, men]
  refine kca_intro (sem_arePairs s.apart s.most.length b6 b7) ?_
  cases h6 : dc (apartOK s.apart s.most.length)
  · simp only [EVA, ↓reduceIte, Nat.reduceEqDiff, Nat.reduceMul, reduceCtorEq, Nat.reduceAdd, Nat.reduceSub, Nat.reduceLeDiff, Nat.reduceLT, Int.reduceToNat, Int.reduceLE, Int.reduceLT, mens, men]
    rw [dc_false fun h => dc_not.1 h6 h.apart]
  simp only [List.length_map, cSorting, EVA, ↓reduceIte, Nat.reduceEqDiff, Nat.reduceMul, reduceCtorEq, Nat.reduceAdd, Nat.reduceSub, Nat.reduceLeDiff, Nat.reduceLT, Int.reduceToNat, Int.reduceLE, Int.reduceLT, mens, men]
  refine wp_cnt (α := Unit) sig.length (fun j _ => [(55, iI j)]) (fun j _ => []) (fun j _ => ∀ k, k < j → nestAt sig s.nest k ∧ sortsAt sig s.sorts s.most.length k) () (by simp only [EVA, ↓reduceIte, Nat.reduceEqDiff, Nat.reduceMul, reduceCtorEq, Nat.reduceAdd, Nat.reduceSub, Nat.reduceLeDiff, Nat.reduceLT, Int.reduceToNat, Int.reduceLE, Int.reduceLT, mens, men]) (by (simp only [EVA, ↓reduceIte, Nat.reduceEqDiff, Nat.reduceMul, reduceCtorEq, Nat.reduceAdd, Nat.reduceSub, Nat.reduceLeDiff, Nat.reduceLT, Int.reduceToNat, Int.reduceLE, Int.reduceLT, mens, men]) <;> rfl) (fun k hk => absurd hk (Nat.not_lt_zero k)) ?_
  intro j _ hj hA
  simp only [List.length_map, cSorting, EVA, ↓reduceIte, Nat.reduceEqDiff, Nat.reduceMul, reduceCtorEq, Nat.reduceAdd, Nat.reduceSub, Nat.reduceLeDiff, Nat.reduceLT, Int.reduceToNat, Int.reduceLE, Int.reduceLT, mens, men]
  refine ite_of (fun hlt => ?_) (fun hge => ?_)
  · have hja : j < sig.length := by omega
    have hjn : j < s.nest.length := by omega
    have hjs : j < s.sorts.length := by omega
    have ga := getA (c := cControl) hja
    have gn := getA (c := eIS) hjn
    have gs := getA (c := eIS) hjs
    have y1 : s.nest[j].length ≤ 4294967296 := b3 _ (List.getElem_mem hjn)
    have y2 : s.sorts[j].length ≤ 4294967296 := b5 _ (List.getElem_mem hjs)
    simp only [ga, gn, gs, List.length_map, cSorting, cControl, EVA, ↓reduceIte, Nat.reduceEqDiff, Nat.reduceMul, reduceCtorEq, Nat.reduceAdd, Nat.reduceSub, Nat.reduceLeDiff, Nat.reduceLT, Int.reduceToNat, Int.reduceLE, Int.reduceLT, mens, men]
    refine kca_intro (sem_isRising s.nest[j] sig.length (by omega) (by omega) (by omega)) ?_
    cases p1 : dc (Ris 0 ((sig.length : Int) - 1) s.nest[j])
    · simp only [EVA, ↓reduceIte, Nat.reduceEqDiff, Nat.reduceMul, reduceCtorEq, Nat.reduceAdd, Nat.reduceSub, Nat.reduceLeDiff, Nat.reduceLT, Int.reduceToNat, Int.reduceLE, Int.reduceLT, mens, men]
      rw [dc_false fun h => dc_not.1 p1 (h.nest j hjn hja).1]
    by_cases p2 : sig[j].kind_ = 2 ∧ (0 : Int) < s.nest[j].length
    · simp only [p2.1, p2.2, ga, gn, gs, List.length_map, cSorting, cControl, EVA, ↓reduceIte, Nat.reduceEqDiff, Nat.reduceMul, reduceCtorEq, Nat.reduceAdd, Nat.reduceSub, Nat.reduceLeDiff, Nat.reduceLT, Int.reduceToNat, Int.reduceLE, Int.reduceLT, mens, men]
      rw [dc_false fun h => by
        have h1 := (h.nest j hjn hja).2 p2.1
        have h2 := p2.2
        rw [h1] at h2
        simp at h2]
    have hN : nestAt sig s.nest j := fun _ _ => ⟨dc_iff.1 p1, fun h => List.length_eq_zero_iff.1 (by
      have : ¬ (0 : Int) < s.nest[j].length := fun h2 => p2 ⟨h, h2⟩
      omega)⟩
    have go : ∀ K : Prop, ((¬ (s.sorts[j].length : Int) = sig[j].ports → dc (sortOK sig s) = false) → (∀ e : (s.sorts[j].length : Int) = sig[j].ports, (s.sorts[j].any (fun n => !inB n 0 ((s.most.length : Int) - 1))) = true → dc (sortOK sig s) = false) → (∀ e : (s.sorts[j].length : Int) = sig[j].ports, (s.sorts[j].any (fun n => !inB n 0 ((s.most.length : Int) - 1))) = false → sortsAt sig s.sorts s.most.length j) → K) → K := fun K h => h
      (fun h => dc_false fun g => h (g.sorts j hjs hja).1)
      (fun e h => dc_false fun g => by rw [any_out.2 (g.sorts j hjs hja).2] at h; cases h)
      (fun e h _ _ => ⟨e, any_out.1 h⟩)
    refine go _ fun g1 g2 g3 => ?_
    by_cases k1 : sig[j].kind_ = 2
    · have k2 : ¬ (0 : Int) < s.nest[j].length := fun h => p2 ⟨k1, h⟩
      by_cases k3 : (s.sorts[j].length : Int) = sig[j].ports
      case neg =>
        simp only [k1, k2, k3, ga, gn, gs, List.length_map, cSorting, cControl, EVA, ↓reduceIte, Nat.reduceEqDiff, Nat.reduceMul, reduceCtorEq, Nat.reduceAdd, Nat.reduceSub, Nat.reduceLeDiff, Nat.reduceLT, Int.reduceToNat, Int.reduceLE, Int.reduceLT, mens, men]
        rw [g1 k3]
      simp only [k1, k2, k3, ga, gn, gs, List.length_map, cSorting, cControl, EVA, ↓reduceIte, Nat.reduceEqDiff, Nat.reduceMul, reduceCtorEq, Nat.reduceAdd, Nat.reduceSub, Nat.reduceLeDiff, Nat.reduceLT, Int.reduceToNat, Int.reduceLE, Int.reduceLT, mens, men]
      refine kca_intro (sem_coF1 (t := tv) (cs := [cSorting s]) g_coFI g_ixFI s.sorts[j] (by omega) (fun x _ lvl S => sem_IsSorting_2 x s b6 lvl S)) ?_
      cases h7 : s.sorts[j].any fun n => !inB n 0 ((s.most.length : Int) - 1)
      case true =>
        simp only [EVA, ↓reduceIte, Nat.reduceEqDiff, Nat.reduceMul, reduceCtorEq, Nat.reduceAdd, Nat.reduceSub, Nat.reduceLeDiff, Nat.reduceLT, Int.reduceToNat, Int.reduceLE, Int.reduceLT, mens, men]
        rw [g2 k3 h7]
      simp only [EVA, ↓reduceIte, Nat.reduceEqDiff, Nat.reduceMul, reduceCtorEq, Nat.reduceAdd, Nat.reduceSub, Nat.reduceLeDiff, Nat.reduceLT, Int.reduceToNat, Int.reduceLE, Int.reduceLT, mens, men]
      exact ⟨by rw [fits_i64]; omega, cntJ_intro () hja rfl (all_succ hA ⟨hN, g3 k3 h7⟩)⟩
    · by_cases k3 : (s.sorts[j].length : Int) = sig[j].ports
      case neg =>
        simp only [k1, k3, ga, gn, gs, List.length_map, cSorting, cControl, EVA, ↓reduceIte, Nat.reduceEqDiff, Nat.reduceMul, reduceCtorEq, Nat.reduceAdd, Nat.reduceSub, Nat.reduceLeDiff, Nat.reduceLT, Int.reduceToNat, Int.reduceLE, Int.reduceLT, mens, men]
        rw [g1 k3]
      simp only [k1, k3, ga, gn, gs, List.length_map, cSorting, cControl, EVA, ↓reduceIte, Nat.reduceEqDiff, Nat.reduceMul, reduceCtorEq, Nat.reduceAdd, Nat.reduceSub, Nat.reduceLeDiff, Nat.reduceLT, Int.reduceToNat, Int.reduceLE, Int.reduceLT, mens, men]
      refine kca_intro (sem_coF1 (t := tv) (cs := [cSorting s]) g_coFI g_ixFI s.sorts[j] (by omega) (fun x _ lvl S => sem_IsSorting_2 x s b6 lvl S)) ?_
      cases h7 : s.sorts[j].any fun n => !inB n 0 ((s.most.length : Int) - 1)
      case true =>
        simp only [EVA, ↓reduceIte, Nat.reduceEqDiff, Nat.reduceMul, reduceCtorEq, Nat.reduceAdd, Nat.reduceSub, Nat.reduceLeDiff, Nat.reduceLT, Int.reduceToNat, Int.reduceLE, Int.reduceLT, mens, men]
        rw [g2 k3 h7]
      simp only [EVA, ↓reduceIte, Nat.reduceEqDiff, Nat.reduceMul, reduceCtorEq, Nat.reduceAdd, Nat.reduceSub, Nat.reduceLeDiff, Nat.reduceLT, Int.reduceToNat, Int.reduceLE, Int.reduceLT, mens, men]
      exact ⟨by rw [fits_i64]; omega, cntJ_intro () hja rfl (all_succ hA ⟨hN, g3 k3 h7⟩)⟩
  · have hj1 : j = sig.length := by omega
    subst hj1
    have : sortOK sig s := ⟨dc_iff.1 h1, dc_iff.1 h2, e3, fun k hk h2 => (hA k h2).1 hk h2, e4, fun k hk h2 => (hA k h2).2 hk h2, by have := inB_iff.1 h4; omega, any_out.1 h5, dc_iff.1 h6⟩
    rw [dc_true this]
end Go.Fd

/-
  TEXTS OF SORTINGS: WHAT THEY ARE. Own work.
-/
namespace Go.Fd
set_option maxRecDepth 20000

/-! ## bytes -/
def bl (s : ByteArray) : List UInt8 := s.data.toList
theorem bl_app (a b : ByteArray) : bl (a ++ b) = bl a ++ bl b := by simp [bl, ByteArray.data_append]
theorem bl_ext {a b : ByteArray} (h : bl a = bl b) : a = b := by
  cases a with | mk a => cases b with | mk b => exact congrArg ByteArray.mk (Array.toList_inj.1 h)
theorem bl_mk (l : List UInt8) : bl ⟨l.toArray⟩ = l := by simp [bl]
theorem bl_len (a : ByteArray) : (bl a).length = a.size := (size_list a).symm
abbrev SP : ByteArray := ⟨#[32]⟩

/-! ## numbers below a hundred -/
def decT (n : Int) : ByteArray := ⟨(Lib.decDigits n.toNat).toArray⟩
theorem dd1 {u : Nat} (h : u < 10) : Lib.decDigits u = [UInt8.ofNat (48 + u)] := by rw [Lib.decDigits, dif_pos h]
theorem dd2 {u : Nat} (h0 : 10 ≤ u) (h : u < 100) : Lib.decDigits u = [UInt8.ofNat (48 + u / 10), UInt8.ofNat (48 + u % 10)] := by
  rw [Lib.decDigits, dif_neg (by omega), dd1 (by omega)]
  rfl
theorem decT_le {n : Int} (h0 : 0 ≤ n) (h1 : n < 100) : (decT n).size ≤ 2 := by
  rw [← bl_len, decT, bl_mk]
  by_cases h : n.toNat < 10
  · rw [dd1 h]; simp
  · rw [dd2 (by omega) (by omega)]; simp
abbrev DIG : ByteArray := ⟨#[48, 49, 50, 51, 52, 53, 54, 55, 56, 57]⟩
theorem dig0 : ∀ n : Fin 10, bl (DIG.extract n.val (n.val + 1)) = [UInt8.ofNat (48 + n.val)] := by decide +kernel
theorem dig1 {n : Nat} (h : n < 10) : DIG.extract n (n + 1) = decT n := bl_ext (by
  rw [dig0 ⟨n, h⟩, decT, bl_mk, Int.toNat_natCast, dd1 h])
theorem dig2 {n : Nat} (h0 : 10 ≤ n) (h : n < 100) : decT ((n / 10 : Nat) : Int) ++ DIG.extract (n % 10) (n % 10 + 1) = decT n := bl_ext (by
  rw [bl_app, dig0 ⟨n % 10, by omega⟩, decT, bl_mk, Int.toNat_natCast, dd1 (by omega), decT, bl_mk, Int.toNat_natCast, dd2 h0 h]
  rfl)

/-! ## what is said of a list, one behind the other -/
def foldT (f : Int → ByteArray) (w : ByteArray) (l : List Int) : ByteArray := l.foldl (fun w k => w ++ f k) w
theorem foldT_succ {f : Int → ByteArray} {w : ByteArray} {l : List Int} {j : Nat} (h : j < l.length) : foldT f w (l.take (j + 1)) = foldT f w (l.take j) ++ f (g0 l j) := by
  have e : g0 l j = l[j] := by simp [h]
  unfold foldT
  rw [List.take_succ_eq_append_getElem h, List.foldl_append, e]
  rfl
theorem bl_foldT (f : Int → ByteArray) : ∀ (l : List Int) (w : ByteArray), bl (foldT f w l) = bl w ++ l.flatMap fun k => bl (f k)
  | [], w => by simp [foldT]
  | k :: r, w => by
    have := bl_foldT f r (w ++ f k)
    unfold foldT at this ⊢
    rw [List.foldl_cons, this, bl_app, List.flatMap_cons, List.append_assoc]
theorem foldT_size {f : Int → ByteArray} {B : Nat} : ∀ (l : List Int) (w : ByteArray), (∀ k ∈ l, (f k).size ≤ B) → (foldT f w l).size ≤ w.size + l.length * B
  | [], w, _ => by simp [foldT]
  | k :: r, w, h => by
    have ih := foldT_size (f := f) (B := B) r (w ++ f k) fun q hq => h q (by simp [hq])
    have h1 := h k (by simp)
    unfold foldT at ih ⊢
    rw [List.foldl_cons]
    rw [ByteArray.size_append] at ih
    rw [List.length_cons, Nat.succ_mul]
    omega

def nameAt (sig : List TControl) (k : Int) : ByteArray := ((sig[k.toNat]?).map TControl.name).getD ⟨#[]⟩
theorem nameAt_eq {sig : List TControl} {k : Nat} (h : k < sig.length) : nameAt sig k = sig[k].name := by simp [nameAt, h]
theorem nameAt_size {sig : List TControl} (h : sigOK sig) (k : Int) : (nameAt sig k).size ≤ 4 := by
  unfold nameAt
  cases e : sig[k.toNat]? with
  | none => decide
  | some x =>
    obtain ⟨hl, rfl⟩ := List.getElem?_eq_some_iff.1 e
    exact ((h.1 _ hl).1).1.2.2

theorem Ris_at {lo hi : Int} {l : List Int} (h : Ris lo hi l) : ∀ {i : Nat}, i < l.length → lo + i ≤ g0 l i
  | 0, hi => by have := (h 0 hi).1; omega
  | i + 1, hi => by
    have ih := Ris_at h (i := i) (by omega)
    have := (h (i + 1) hi).2.2 (by omega)
    simp only [Nat.add_sub_cancel] at this
    omega
theorem Ris_len {hi : Int} {l : List Int} (h : Ris 0 hi l) : (l.length : Int) ≤ hi + 1 ∨ l = [] := by
  cases e : l.length with
  | zero => exact .inr (List.eq_nil_of_length_eq_zero e)
  | succ n =>
    have h1 := Ris_at h (i := n) (by omega)
    have h2 := (h n (by omega)).2.1
    exact .inl (by omega)

/-! ## pairs -/
def foldP (f : A2 → ByteArray) (w : ByteArray) (l : List A2) : ByteArray := l.foldl (fun w k => w ++ f k) w
theorem foldP_succ {f : A2 → ByteArray} {w : ByteArray} {l : List A2} {j : Nat} (h : j < l.length) : foldP f w (l.take (j + 1)) = foldP f w (l.take j) ++ f l[j] := by
  unfold foldP
  rw [List.take_succ_eq_append_getElem h, List.foldl_append]
  rfl
theorem bl_foldP (f : A2 → ByteArray) : ∀ (l : List A2) (w : ByteArray), bl (foldP f w l) = bl w ++ l.flatMap fun k => bl (f k)
  | [], w => by simp [foldP]
  | k :: r, w => by
    have := bl_foldP f r (w ++ f k)
    unfold foldP at this ⊢
    rw [List.foldl_cons, this, bl_app, List.flatMap_cons, List.append_assoc]
theorem foldP_size {f : A2 → ByteArray} {B : Nat} : ∀ (l : List A2) (w : ByteArray), (∀ k ∈ l, (f k).size ≤ B) → (foldP f w l).size ≤ w.size + l.length * B
  | [], w, _ => by simp [foldP]
  | k :: r, w, h => by
    have ih := foldP_size (f := f) (B := B) r (w ++ f k) fun q hq => h q (by simp [hq])
    have h1 := h k (by simp)
    unfold foldP at ih ⊢
    rw [List.foldl_cons]
    rw [ByteArray.size_append] at ih
    rw [List.length_cons, Nat.succ_mul]
    omega
end Go.Fd

/-
  TEXTS OF SORTINGS: WHAT THE LIBRARY AND THE SMALL FUNCTIONS SAY. Own work.
-/
namespace Go.Fd
open Go.RowKit
set_option maxRecDepth 20000

/-! ## the library -/
theorem sem_Itoa {n : Int} (h0 : 0 ≤ n) (h1 : n < 100) (lvl : Nat) (S : Sto) : Sem Go.Proofs.Tryz.prog fid_strconv_Itoa lvl [iI n] S (iS (decT n)) S := by
  obtain ⟨u, rfl⟩ := Int.eq_ofNat_of_zero_le h0
  exact sem_of_scal (xs := [.int .i64 u]) (callB_ok (by kernel_rfl)) rfl (fun w => (Go.Proofs.Any.strconv_Itoa_small Go.Proofs.Tryz.lays171 u (by omega) w).mono fun e w' ⟨h, h'⟩ => ⟨h, h' ▸ Below.refl _ _⟩)

theorem sem_dec {n : Int} (h0 : 0 ≤ n) (h1 : n < 100) (lvl : Nat) (S : Sto) : Sem Go.Proofs.Tryz.prog fid_impl_dec lvl [iI n] S (iS (decT n)) S := by
  refine sem_of_chk k_impl_dec trivial ?_
  simp only [c_impl_dec, EVA, ↓reduceIte, Nat.reduceEqDiff, Nat.reduceMul, reduceCtorEq, Nat.reduceAdd, Nat.reduceSub, Nat.reduceLeDiff, Nat.reduceLT, Int.reduceToNat, Int.reduceLE, Int.reduceLT, mens, men]
  refine kca_intro (sem_Itoa h0 h1) ?_
  simp only [EVA, ↓reduceIte, Nat.reduceEqDiff, Nat.reduceMul, reduceCtorEq, Nat.reduceAdd, Nat.reduceSub, Nat.reduceLeDiff, Nat.reduceLT, Int.reduceToNat, Int.reduceLE, Int.reduceLT, mens, men]

theorem extraB : Go.Proofs.Builder.Extra Go.Proofs.Tryz.prog Go.Proofs.Tryz.lays156_ren where
  sizeBuilder := by kernel_rfl
  liesBuilder := by kernel_rfl
  t5 := Go.Proofs.Tryz.underlying5
  a5 := Go.Proofs.Tryz.isAgg5
  z5 := Go.Proofs.Tryz.sizeOf5
  v5 := Go.Proofs.Tryz.zeroValue5
  infoByte := by kernel_rfl
  cellsByte := by kernel_rfl
  sizeByte := by kernel_rfl
  neB5 := by decide

def joinT (xs : List ByteArray) (sep : ByteArray) : ByteArray := ⟨(Lib.join (xs.map fun x => x.data.toList) sep.data.toList).toArray⟩
theorem bl_joinT {x : ByteArray} {r : List ByteArray} {sep : ByteArray} : bl (joinT (x :: r) sep) = bl x ++ r.flatMap fun y => bl sep ++ bl y := by
  unfold joinT
  rw [bl_mk, List.map_cons, Lib.join_cons, Lib.joinTail, List.map_map, List.flatMap_def]
  rfl

theorem sem_Join (xs : List ByteArray) (sep : ByteArray) (hN : xs.length ≤ 4294967296) (hlen : (joinT xs sep).size ≤ 140737488355328) (lvl : Nat) (S : Sto) : Sem Go.Proofs.Tryz.prog fid_strings_Join lvl [tS xs, iS sep] S (iS (joinT xs sep)) S := by
  have hlen' : (Lib.join (xs.map fun x => x.data.toList) sep.data.toList).length ≤ 140737488355328 := by
    rw [← bl_len, joinT, bl_mk] at hlen
    exact hlen
  refine sem_of_ext (callB_ok (by kernel_rfl)) rfl trivial fun _ G w vs hok hv => ?_
  simp only [VRs] at hv
  obtain ⟨v, vr, rfl, h1, v2, vr2, rfl, h2, rfl⟩ := hv
  have h2' : Rds w (Av G S w) v2 (.v (.string sep)) := h2
  cases h2'
  have h1' : Rds w (Av G S w) v (.sl (rS xs)) := h1
  generalize hes : rS xs = es at h1'
  have hnil : xs = [] → ∀ a c, Calls Go.Proofs.Tryz.prog fid_strings_Join #[.slice a 0 c, .string sep] w fun e w' => ∃ v, e = .returned v ∧ VR G S w' (iS (joinT xs sep)) v ∧ Below w.heap.size w w' := by
    rintro rfl a c
    refine (Go.Proofs.Any.strings_Join_none Go.Proofs.Tryz.lays156 extraB a c sep w).mono fun e w' ⟨he, hw⟩ => ⟨_, he, ?_, hw ▸ Below.refl _ _⟩
    exact Rds.v _ rfl
  cases h1' with
  | nil a c => exact hnil (by cases xs with | nil => rfl | cons x r => cases hes) a c
  | sl b o c k _ f hA hk hl hc hr =>
    subst hes
    by_cases hx : xs = []
    · subst hx
      exact hnil rfl _ _
    obtain ⟨x0, r0, hxs⟩ : ∃ x r, xs = x :: r := by
      cases xs with
      | nil => exact absurd rfl hx
      | cons x r => exact ⟨x, r, rfl⟩
    have hk1 : k = 1 := (hk [ts x0] (by simp [hxs])).symm
    subst hk1
    rw [List.length_map] at hl ⊢
    refine (Go.Proofs.Any.strings_Join Go.Proofs.Tryz.lays156 extraB b o c xs sep w ?_ hA.1 (by omega) hl hlen').mono fun e w' ⟨he, hw⟩ => ⟨_, he, Rds.v _ rfl, hw⟩
    intro j x hj
    have e1 : (rS xs)[j]? = some [ts x] := by simp [hj]
    have e2 := hc j _ 0 _ e1 rfl
    have e3 := hr j _ 0 _ e1 rfl
    rw [show o + j * 1 + 0 = o + j by omega] at e2
    rw [e2]
    generalize f j 0 = y at e3
    cases e3
    rfl

/-! ## numbers -/
theorem sem_l1Num1 {n : Nat} (h : n < 10) (lvl : Nat) (S : Sto) : Sem Go.Proofs.Tryz.prog fid_spec_l1Num lvl [iI n] S (iS (decT n)) S := by
  refine sem_of_chk k_spec_l1Num trivial ?_
  have h0 : ¬ (n : Int) < 0 := by omega
  have h1 : (n : Int) < 10 := by omega
  have h2 : ((n : Int) + 1).toNat = n + 1 := by omega
  simp only [c_spec_l1Num, h0, h1, h2, EVA, ↓reduceIte, Nat.reduceEqDiff, Nat.reduceMul, reduceCtorEq, Nat.reduceAdd, Nat.reduceSub, Nat.reduceLeDiff, Nat.reduceLT, Int.reduceToNat, Int.reduceLE, Int.reduceLT, mens, men]
  refine ⟨by rw [fits_i64]; omega, by omega, by omega, ?_, ?_⟩
  · show n + 1 ≤ 10
    omega
  · rw [← dig1 h]
theorem sem_l1Num2 {n : Nat} (h0 : 10 ≤ n) (h : n < 100) (lvl : Nat) (S : Sto) : Sem Go.Proofs.Tryz.prog fid_spec_l1Num lvl [iI n] S (iS (decT n)) S := by
  refine sem_of_chk k_spec_l1Num trivial ?_
  have g0 : ¬ (n : Int) < 0 := by omega
  have g1 : ¬ (n : Int) < 10 := by omega
  have e1 : (n : Int) / 10 = ((n / 10 : Nat) : Int) := by omega
  have e2 : (n : Int) % 10 = ((n % 10 : Nat) : Int) := by omega
  have e3 : (((n % 10 : Nat) : Int) + 1).toNat = n % 10 + 1 := by omega
  simp only [c_spec_l1Num, g0, g1, e1, e2, e3, EVA, ↓reduceIte, Nat.reduceEqDiff, Nat.reduceMul, reduceCtorEq, Nat.reduceAdd, Nat.reduceSub, Nat.reduceLeDiff, Nat.reduceLT, Int.reduceToNat, Int.reduceLE, Int.reduceLT, mens, men]
  refine ⟨by rw [fits_i64]; omega, ?_⟩
  refine kca_intro (sem_l1Num1 (n := n / 10) (by omega)) ?_
  simp only [e2, e3, EVA, ↓reduceIte, Nat.reduceEqDiff, Nat.reduceMul, reduceCtorEq, Nat.reduceAdd, Nat.reduceSub, Nat.reduceLeDiff, Nat.reduceLT, Int.reduceToNat, Int.reduceLE, Int.reduceLT, mens, men]
  have s1 := decT_le (n := ((n / 10 : Nat) : Int)) (by omega) (by omega)
  have d2 := dig2 h0 h
  refine ⟨by rw [fits_i64]; omega, by omega, by omega, ?_, ?_, ?_⟩
  · show n % 10 + 1 ≤ 10
    omega
  · have := congrArg ByteArray.size d2
    rw [ByteArray.size_append] at this
    have s2 := decT_le (n := (n : Int)) (by omega) (by omega)
    show (decT ((n / 10 : Nat) : Int)).size + (DIG.extract (n % 10) (n % 10 + 1)).size ≤ 4294967296
    omega
  · rw [← d2]
theorem sem_l1Num {n : Int} (h0 : 0 ≤ n) (h1 : n < 100) (lvl : Nat) (S : Sto) : Sem Go.Proofs.Tryz.prog fid_spec_l1Num lvl [iI n] S (iS (decT n)) S := by
  obtain ⟨u, rfl⟩ := Int.eq_ofNat_of_zero_le h0
  by_cases h : u < 10
  · exact sem_l1Num1 h lvl S
  · exact sem_l1Num2 (by omega) (by omega) lvl S

/-! ## names -/
theorem szSP : (⟨#[32]⟩ : ByteArray).size = 1 := rfl
abbrev nmT (sig : List TControl) (k : Int) : ByteArray := SP ++ nameAt sig k
abbrev spT (k : Int) : ByteArray := SP ++ decT k
def inL (n : Nat) (l : List Int) : Prop := ∀ k ∈ l, 0 ≤ k ∧ k < n
theorem Ris_inL {n : Nat} {l : List Int} (h : Ris 0 ((n : Int) - 1) l) : inL n l := fun k hk => by
  obtain ⟨i, hi, rfl⟩ := List.getElem_of_mem hk
  have := h i hi
  have e : g0 l i = l[i] := by simp [hi]
  rw [e] at this
  omega
theorem nmT_size {sig : List TControl} (h : sigOK sig) (k : Int) : (nmT sig k).size ≤ 5 := by
  have := nameAt_size h k
  rw [ByteArray.size_append, show SP.size = 1 from rfl]
  omega
theorem spT_size {k : Int} (h0 : 0 ≤ k) (h1 : k < 100) : (spT k).size ≤ 3 := by
  have := decT_le h0 h1
  rw [ByteArray.size_append, show SP.size = 1 from rfl]
  omega

theorem sem_named (sig : List TControl) (word : ByteArray) (l : List Int) (hs : sigOK sig) (hl : inL sig.length l) (hw : word.size ≤ 1000) (hL : l.length ≤ 100) (lvl : Nat) (S : Sto) : Sem Go.Proofs.Tryz.prog fid_impl_named lvl [.tr (.sl (sig.map cControl)), iS word, tI l] S (iS (foldT (nmT sig) word l)) S := by
  refine sem_of_chk k_impl_named trivial ?_
  simp only [c_impl_named, List.length_map, EVA, ↓reduceIte, Nat.reduceEqDiff, Nat.reduceMul, reduceCtorEq, Nat.reduceAdd, Nat.reduceSub, Nat.reduceLeDiff, Nat.reduceLT, Int.reduceToNat, Int.reduceLE, Int.reduceLT, mens, men]
  refine wp_cnt (α := Unit) l.length (fun j _ => [(1, iS (foldT (nmT sig) word (l.take j))), (11, iI j)]) (fun j _ => []) (fun _ _ => True) () (by simp only [EVA, ↓reduceIte, Nat.reduceEqDiff, Nat.reduceMul, reduceCtorEq, Nat.reduceAdd, Nat.reduceSub, Nat.reduceLeDiff, Nat.reduceLT, Int.reduceToNat, Int.reduceLE, Int.reduceLT, mens, men]) (by (simp only [EVA, ↓reduceIte, Nat.reduceEqDiff, Nat.reduceMul, reduceCtorEq, Nat.reduceAdd, Nat.reduceSub, Nat.reduceLeDiff, Nat.reduceLT, Int.reduceToNat, Int.reduceLE, Int.reduceLT, mens, men]) <;> rfl) trivial ?_
  intro j _ hj _
  simp only [List.length_map, EVA, ↓reduceIte, Nat.reduceEqDiff, Nat.reduceMul, reduceCtorEq, Nat.reduceAdd, Nat.reduceSub, Nat.reduceLeDiff, Nat.reduceLT, Int.reduceToNat, Int.reduceLE, Int.reduceLT, mens, men]
  refine ite_of (fun hlt => ?_) (fun hge => ?_)
  · have hja : j < l.length := by omega
    have ga := rI_get hja
    have e : g0 l j = l[j] := by simp [hja]
    have hk := hl l[j] (List.getElem_mem hja)
    rw [← e] at hk
    have gs := getA (c := cControl) (l := sig) (j := (g0 l j).toNat) (by omega)
    have q1 : g0 l j < (sig.length : Int) := hk.2
    have en : nameAt sig (g0 l j) = (sig[(g0 l j).toNat]'(by omega)).name := by
      unfold nameAt
      rw [List.getElem?_eq_getElem (by omega)]
      rfl
    have z1 := foldT_size (f := nmT sig) (B := 5) (l.take j) word fun k _ => nmT_size hs k
    have z2 : (l.take j).length = j := by rw [List.length_take]; omega
    have z3 := nmT_size hs (g0 l j)
    rw [z2] at z1
    unfold nmT at z3
    rw [en, ByteArray.size_append, szSP] at z3
    simp only [ga, hk.1, q1, gs, cControl, List.length_map, ByteArray.size_append, szSP, EVA, ↓reduceIte, Nat.reduceEqDiff, Nat.reduceMul, reduceCtorEq, Nat.reduceAdd, Nat.reduceSub, Nat.reduceLeDiff, Nat.reduceLT, Int.reduceToNat, Int.reduceLE, Int.reduceLT, mens, men]
    exact ⟨by omega, by omega, by rw [fits_i64]; omega, cntJ_intro () hja (by rw [foldT_succ hja, nmT, en]; rfl) trivial⟩
  · have : j = l.length := by omega
    subst this
    rw [List.take_length]
theorem sem_l7Named (sig : List TControl) (l : List Int) (hs : sigOK sig) (hl : inL sig.length l) (hL : l.length ≤ 100) (lvl : Nat) (S : Sto) : Sem Go.Proofs.Tryz.prog fid_spec_l7Named lvl [.tr (.sl (sig.map cControl)), tI l] S (iS (foldT (nmT sig) ⟨#[]⟩ l)) S := by
  refine sem_of_chk k_spec_l7Named trivial ?_
  simp only [c_spec_l7Named, List.length_map, EVA, ↓reduceIte, Nat.reduceEqDiff, Nat.reduceMul, reduceCtorEq, Nat.reduceAdd, Nat.reduceSub, Nat.reduceLeDiff, Nat.reduceLT, Int.reduceToNat, Int.reduceLE, Int.reduceLT, mens, men]
  refine wp_cnt (α := Unit) l.length (fun j _ => [(5, iS (foldT (nmT sig) ⟨#[]⟩ (l.take j))), (6, iI j)]) (fun j _ => []) (fun _ _ => True) () (by simp only [EVA, ↓reduceIte, Nat.reduceEqDiff, Nat.reduceMul, reduceCtorEq, Nat.reduceAdd, Nat.reduceSub, Nat.reduceLeDiff, Nat.reduceLT, Int.reduceToNat, Int.reduceLE, Int.reduceLT, mens, men]) (by (simp only [EVA, ↓reduceIte, Nat.reduceEqDiff, Nat.reduceMul, reduceCtorEq, Nat.reduceAdd, Nat.reduceSub, Nat.reduceLeDiff, Nat.reduceLT, Int.reduceToNat, Int.reduceLE, Int.reduceLT, mens, men]) <;> rfl) trivial ?_
  intro j _ hj _
  simp only [List.length_map, EVA, ↓reduceIte, Nat.reduceEqDiff, Nat.reduceMul, reduceCtorEq, Nat.reduceAdd, Nat.reduceSub, Nat.reduceLeDiff, Nat.reduceLT, Int.reduceToNat, Int.reduceLE, Int.reduceLT, mens, men]
  refine ite_of (fun hlt => ?_) (fun hge => ?_)
  · have hja : j < l.length := by omega
    have ga := rI_get hja
    have e : g0 l j = l[j] := by simp [hja]
    have hk := hl l[j] (List.getElem_mem hja)
    rw [← e] at hk
    have gs := getA (c := cControl) (l := sig) (j := (g0 l j).toNat) (by omega)
    have q1 : g0 l j < (sig.length : Int) := hk.2
    have en : nameAt sig (g0 l j) = (sig[(g0 l j).toNat]'(by omega)).name := by
      unfold nameAt
      rw [List.getElem?_eq_getElem (by omega)]
      rfl
    have z1 := foldT_size (f := nmT sig) (B := 5) (l.take j) ⟨#[]⟩ fun k _ => nmT_size hs k
    have z2 : (l.take j).length = j := by rw [List.length_take]; omega
    have z3 := nmT_size hs (g0 l j)
    rw [z2, show (⟨#[]⟩ : ByteArray).size = 0 from rfl] at z1
    unfold nmT at z3
    rw [en, ByteArray.size_append, szSP] at z3
    simp only [ga, hk.1, q1, gs, cControl, List.length_map, ByteArray.size_append, szSP, EVA, ↓reduceIte, Nat.reduceEqDiff, Nat.reduceMul, reduceCtorEq, Nat.reduceAdd, Nat.reduceSub, Nat.reduceLeDiff, Nat.reduceLT, Int.reduceToNat, Int.reduceLE, Int.reduceLT, mens, men]
    exact ⟨by omega, by omega, by rw [fits_i64]; omega, cntJ_intro () hja (by rw [foldT_succ hja, nmT, en, ← ByteArray.append_assoc]; rfl) trivial⟩
  · have : j = l.length := by omega
    subst this
    rw [List.take_length]

/-! ## numbers behind each other -/
def smallL (l : List Int) : Prop := ∀ k ∈ l, 0 ≤ k ∧ k < 100
theorem sem_digits (l : List Int) (hl : smallL l) (hL : l.length ≤ 100) (lvl : Nat) (S : Sto) : Sem Go.Proofs.Tryz.prog fid_impl_digits lvl [tI l] S (iS (foldT decT ⟨#[]⟩ l)) S := by
  refine sem_of_chk k_impl_digits trivial ?_
  simp only [c_impl_digits, List.length_map, EVA, ↓reduceIte, Nat.reduceEqDiff, Nat.reduceMul, reduceCtorEq, Nat.reduceAdd, Nat.reduceSub, Nat.reduceLeDiff, Nat.reduceLT, Int.reduceToNat, Int.reduceLE, Int.reduceLT, mens, men]
  refine wp_cnt (α := Unit) l.length (fun j _ => [(3, iS (foldT decT ⟨#[]⟩ (l.take j))), (8, iI j)]) (fun j _ => []) (fun _ _ => True) () (by simp only [EVA, ↓reduceIte, Nat.reduceEqDiff, Nat.reduceMul, reduceCtorEq, Nat.reduceAdd, Nat.reduceSub, Nat.reduceLeDiff, Nat.reduceLT, Int.reduceToNat, Int.reduceLE, Int.reduceLT, mens, men]) (by (simp only [EVA, ↓reduceIte, Nat.reduceEqDiff, Nat.reduceMul, reduceCtorEq, Nat.reduceAdd, Nat.reduceSub, Nat.reduceLeDiff, Nat.reduceLT, Int.reduceToNat, Int.reduceLE, Int.reduceLT, mens, men]) <;> rfl) trivial ?_
  intro j _ hj _
  simp only [List.length_map, EVA, ↓reduceIte, Nat.reduceEqDiff, Nat.reduceMul, reduceCtorEq, Nat.reduceAdd, Nat.reduceSub, Nat.reduceLeDiff, Nat.reduceLT, Int.reduceToNat, Int.reduceLE, Int.reduceLT, mens, men]
  refine ite_of (fun hlt => ?_) (fun hge => ?_)
  · have hja : j < l.length := by omega
    have ga := rI_get hja
    have e : g0 l j = l[j] := by simp [hja]
    have hk := hl l[j] (List.getElem_mem hja)
    rw [← e] at hk
    have z1 := foldT_size (f := decT) (B := 2) (l.take j) ⟨#[]⟩ fun k hk => decT_le (hl k (List.mem_of_mem_take hk)).1 (hl k (List.mem_of_mem_take hk)).2
    have z2 : (l.take j).length = j := by rw [List.length_take]; omega
    have z3 := decT_le hk.1 hk.2
    rw [z2, show (⟨#[]⟩ : ByteArray).size = 0 from rfl] at z1
    simp only [ga, List.length_map, EVA, ↓reduceIte, Nat.reduceEqDiff, Nat.reduceMul, reduceCtorEq, Nat.reduceAdd, Nat.reduceSub, Nat.reduceLeDiff, Nat.reduceLT, Int.reduceToNat, Int.reduceLE, Int.reduceLT, mens, men]
    refine kca_intro (sem_dec hk.1 hk.2) ?_
    simp only [EVA, ↓reduceIte, Nat.reduceEqDiff, Nat.reduceMul, reduceCtorEq, Nat.reduceAdd, Nat.reduceSub, Nat.reduceLeDiff, Nat.reduceLT, Int.reduceToNat, Int.reduceLE, Int.reduceLT, mens, men]
    exact ⟨by omega, by rw [fits_i64]; omega, cntJ_intro () hja (by rw [foldT_succ hja]; rfl) trivial⟩
  · have : j = l.length := by omega
    subst this
    rw [List.take_length]

theorem sem_numbered (word : ByteArray) (l : List Int) (hl : smallL l) (hw : word.size ≤ 1000) (hL : l.length ≤ 100) (lvl : Nat) (S : Sto) : Sem Go.Proofs.Tryz.prog fid_impl_numbered lvl [iS word, tI l] S (iS (foldT spT word l)) S := by
  refine sem_of_chk k_impl_numbered trivial ?_
  simp only [c_impl_numbered, List.length_map, EVA, ↓reduceIte, Nat.reduceEqDiff, Nat.reduceMul, reduceCtorEq, Nat.reduceAdd, Nat.reduceSub, Nat.reduceLeDiff, Nat.reduceLT, Int.reduceToNat, Int.reduceLE, Int.reduceLT, mens, men]
  refine wp_cnt (α := Unit) l.length (fun j _ => [(0, iS (foldT spT word (l.take j))), (9, iI j)]) (fun j _ => []) (fun _ _ => True) () (by simp only [EVA, ↓reduceIte, Nat.reduceEqDiff, Nat.reduceMul, reduceCtorEq, Nat.reduceAdd, Nat.reduceSub, Nat.reduceLeDiff, Nat.reduceLT, Int.reduceToNat, Int.reduceLE, Int.reduceLT, mens, men]) (by (simp only [EVA, ↓reduceIte, Nat.reduceEqDiff, Nat.reduceMul, reduceCtorEq, Nat.reduceAdd, Nat.reduceSub, Nat.reduceLeDiff, Nat.reduceLT, Int.reduceToNat, Int.reduceLE, Int.reduceLT, mens, men]) <;> rfl) trivial ?_
  intro j _ hj _
  simp only [List.length_map, EVA, ↓reduceIte, Nat.reduceEqDiff, Nat.reduceMul, reduceCtorEq, Nat.reduceAdd, Nat.reduceSub, Nat.reduceLeDiff, Nat.reduceLT, Int.reduceToNat, Int.reduceLE, Int.reduceLT, mens, men]
  refine ite_of (fun hlt => ?_) (fun hge => ?_)
  · have hja : j < l.length := by omega
    have ga := rI_get hja
    have e : g0 l j = l[j] := by simp [hja]
    have hk := hl l[j] (List.getElem_mem hja)
    rw [← e] at hk
    have z1 := foldT_size (f := spT) (B := 3) (l.take j) word fun k hk => spT_size (hl k (List.mem_of_mem_take hk)).1 (hl k (List.mem_of_mem_take hk)).2
    have z2 : (l.take j).length = j := by rw [List.length_take]; omega
    have z3 := decT_le hk.1 hk.2
    rw [z2] at z1
    simp only [ga, List.length_map, EVA, ↓reduceIte, Nat.reduceEqDiff, Nat.reduceMul, reduceCtorEq, Nat.reduceAdd, Nat.reduceSub, Nat.reduceLeDiff, Nat.reduceLT, Int.reduceToNat, Int.reduceLE, Int.reduceLT, mens, men]
    refine kca_intro (sem_dec hk.1 hk.2) ?_
    simp only [ByteArray.size_append, szSP, EVA, ↓reduceIte, Nat.reduceEqDiff, Nat.reduceMul, reduceCtorEq, Nat.reduceAdd, Nat.reduceSub, Nat.reduceLeDiff, Nat.reduceLT, Int.reduceToNat, Int.reduceLE, Int.reduceLT, mens, men]
    exact ⟨by omega, by omega, by rw [fits_i64]; omega, cntJ_intro () hja (by rw [foldT_succ hja]; rfl) trivial⟩
  · have : j = l.length := by omega
    subst this
    rw [List.take_length]

theorem sem_l2Words (l : List Int) (hl : smallL l) (hL : l.length ≤ 100) (lvl : Nat) (S : Sto) : Sem Go.Proofs.Tryz.prog fid_spec_l2Words lvl [tI l] S (iS (foldT spT ⟨#[]⟩ l)) S := by
  refine sem_of_chk k_spec_l2Words trivial ?_
  simp only [c_spec_l2Words, List.length_map, EVA, ↓reduceIte, Nat.reduceEqDiff, Nat.reduceMul, reduceCtorEq, Nat.reduceAdd, Nat.reduceSub, Nat.reduceLeDiff, Nat.reduceLT, Int.reduceToNat, Int.reduceLE, Int.reduceLT, mens, men]
  refine wp_cnt (α := Unit) l.length (fun j _ => [(3, iS (foldT spT ⟨#[]⟩ (l.take j))), (4, iI j)]) (fun j _ => []) (fun _ _ => True) () (by simp only [EVA, ↓reduceIte, Nat.reduceEqDiff, Nat.reduceMul, reduceCtorEq, Nat.reduceAdd, Nat.reduceSub, Nat.reduceLeDiff, Nat.reduceLT, Int.reduceToNat, Int.reduceLE, Int.reduceLT, mens, men]) (by (simp only [EVA, ↓reduceIte, Nat.reduceEqDiff, Nat.reduceMul, reduceCtorEq, Nat.reduceAdd, Nat.reduceSub, Nat.reduceLeDiff, Nat.reduceLT, Int.reduceToNat, Int.reduceLE, Int.reduceLT, mens, men]) <;> rfl) trivial ?_
  intro j _ hj _
  simp only [List.length_map, EVA, ↓reduceIte, Nat.reduceEqDiff, Nat.reduceMul, reduceCtorEq, Nat.reduceAdd, Nat.reduceSub, Nat.reduceLeDiff, Nat.reduceLT, Int.reduceToNat, Int.reduceLE, Int.reduceLT, mens, men]
  refine ite_of (fun hlt => ?_) (fun hge => ?_)
  · have hja : j < l.length := by omega
    have ga := rI_get hja
    have e : g0 l j = l[j] := by simp [hja]
    have hk := hl l[j] (List.getElem_mem hja)
    rw [← e] at hk
    have z1 := foldT_size (f := spT) (B := 3) (l.take j) ⟨#[]⟩ fun k hk => spT_size (hl k (List.mem_of_mem_take hk)).1 (hl k (List.mem_of_mem_take hk)).2
    have z2 : (l.take j).length = j := by rw [List.length_take]; omega
    have z3 := decT_le hk.1 hk.2
    rw [z2, show (⟨#[]⟩ : ByteArray).size = 0 from rfl] at z1
    simp only [ga, List.length_map, ByteArray.size_append, szSP, EVA, ↓reduceIte, Nat.reduceEqDiff, Nat.reduceMul, reduceCtorEq, Nat.reduceAdd, Nat.reduceSub, Nat.reduceLeDiff, Nat.reduceLT, Int.reduceToNat, Int.reduceLE, Int.reduceLT, mens, men]
    refine ⟨by omega, kca_intro (sem_l1Num hk.1 hk.2) ?_⟩
    simp only [ByteArray.size_append, szSP, EVA, ↓reduceIte, Nat.reduceEqDiff, Nat.reduceMul, reduceCtorEq, Nat.reduceAdd, Nat.reduceSub, Nat.reduceLeDiff, Nat.reduceLT, Int.reduceToNat, Int.reduceLE, Int.reduceLT, mens, men]
    exact ⟨by omega, by rw [fits_i64]; omega, cntJ_intro () hja (by rw [foldT_succ hja, spT, ← ByteArray.append_assoc]; rfl) trivial⟩
  · have : j = l.length := by omega
    subst this
    rw [List.take_length]
end Go.Fd

/-
  TEXTS OF SORTINGS: BOTH SIDES. Own work.
-/
namespace Go.Fd
open Go.RowKit
set_option maxRecDepth 20000

abbrev COL : ByteArray := ⟨#[58]⟩
abbrev DASH : ByteArray := ⟨#[45]⟩
abbrev SEMI : ByteArray := ⟨#[59, 32]⟩
abbrev TOPS : ByteArray := ⟨#[116, 111, 112, 115]⟩
abbrev MOST : ByteArray := ⟨#[109, 111, 115, 116]⟩
abbrev APART : ByteArray := ⟨#[97, 112, 97, 114, 116]⟩
def rowN (l : List (List Int)) (k : Nat) : List Int := l[k]?.getD []
theorem rowN_eq {l : List (List Int)} {k : Nat} (h : k < l.length) : rowN l k = l[k] := by simp [rowN, h]
def headT (sig : List TControl) (s : TSorting) : ByteArray := foldT (nmT sig) TOPS s.tops
def part0 (sig : List TControl) (s : TSorting) (k : Nat) : ByteArray := (nameAt sig k ++ COL) ++ foldT decT ⟨#[]⟩ (rowN s.sorts k)
def partT (sig : List TControl) (s : TSorting) (k : Nat) : ByteArray := foldT (nmT sig) (part0 sig s k) (rowN s.nest k)
def partsT (sig : List TControl) (s : TSorting) : List ByteArray := (List.range sig.length).map (partT sig s)
def mostT (s : TSorting) : ByteArray := foldT spT MOST s.most
def pairT (p : A2) : ByteArray := ((SP ++ decT p.1) ++ DASH) ++ decT p.2
def apartT (s : TSorting) : ByteArray := foldP pairT APART s.apart
def wordsT (sig : List TControl) (s : TSorting) : List ByteArray := (headT sig s :: partsT sig s) ++ [mostT s, apartT s]
def sortingT (sig : List TControl) (s : TSorting) : ByteArray := joinT (wordsT sig s) SEMI

theorem partsT_len {sig : List TControl} {s : TSorting} : (partsT sig s).length = sig.length := by simp [partsT]
theorem partsT_succ {sig : List TControl} {s : TSorting} {j : Nat} (h : j < sig.length) : ((partsT sig s).take j).map (fun n => [ts n]) ++ [[ts (partT sig s j)]] = ((partsT sig s).take (j + 1)).map fun n => [ts n] := by
  rw [List.take_succ_eq_append_getElem (by rw [partsT_len]; exact h)]
  simp [partsT]

structure FitT (sig : List TControl) (s : TSorting) : Prop where
  tops : inL sig.length s.tops
  topsL : s.tops.length ≤ 6
  nest : ∀ k, k < sig.length → inL sig.length (rowN s.nest k) ∧ (rowN s.nest k).length ≤ 6
  sorts : ∀ k, k < sig.length → smallL (rowN s.sorts k) ∧ (rowN s.sorts k).length ≤ 3
  most : smallL s.most
  mostL : s.most.length ≤ 4
  apart : ∀ p ∈ s.apart, (0 ≤ p.1 ∧ p.1 < 100) ∧ 0 ≤ p.2 ∧ p.2 < 100
  apartL : s.apart.length ≤ 16

theorem apart_at {l : List A2} {m : Nat} (hm : m ≤ 4) (h : ∀ i, apartAt l m i) : ∀ i (hi : i < l.length), (i : Int) ≤ 4 * l[i].1 + l[i].2
  | 0, hi => by have := h 0 hi; omega
  | i + 1, hi => by
    have ih := apart_at hm h i (by omega)
    have h1 := h i (by omega)
    have h2 := h (i + 1) hi
    have h3 := h2.2.2.2 (by omega)
    simp only [Nat.add_sub_cancel, lt2] at h3
    omega

theorem fitT {sig : List TControl} {s : TSorting} (h : sortOK sig s) : FitT sig s := by
  have hn := h.sg.2.2
  have ris6 : ∀ l, Ris 0 ((sig.length : Int) - 1) l → l.length ≤ 6 := fun l hl => by
    rcases Ris_len hl with h1 | h1
    · omega
    · rw [h1]; simp
  have hm := h.many
  refine ⟨Ris_inL h.tops, ris6 _ h.tops, fun k hk => ?_, fun k hk => ?_, fun k hk => by have := h.most k hk; omega, hm.2, fun p hp => ?_, ?_⟩
  · have := h.nest k (by rw [h.nestL]; exact hk) hk
    rw [rowN_eq (by rw [h.nestL]; exact hk)]
    exact ⟨Ris_inL this.1, ris6 _ this.1⟩
  · have := h.sorts k (by rw [h.sortsL]; exact hk) hk
    rw [rowN_eq (by rw [h.sortsL]; exact hk)]
    have hp := (h.sg.1 k hk).1.2.1
    exact ⟨fun n hn => by have := this.2 n hn; omega, by omega⟩
  · obtain ⟨i, hi, rfl⟩ := List.getElem_of_mem hp
    have := h.apart i hi
    omega
  · cases e : s.apart.length with
    | zero => omega
    | succ n =>
      have h1 := apart_at hm.2 h.apart n (by omega)
      have h2 := h.apart n (by omega)
      omega

/-! ## lengths -/
theorem headT_size {sig : List TControl} {s : TSorting} (hs : sigOK sig) (f : FitT sig s) : (headT sig s).size ≤ 34 := by
  have := foldT_size (f := nmT sig) (B := 5) s.tops TOPS fun k _ => nmT_size hs k
  have h := f.topsL
  unfold headT
  have : TOPS.size = 4 := rfl
  omega
theorem part0_size {sig : List TControl} {s : TSorting} (hs : sigOK sig) (f : FitT sig s) {k : Nat} (hk : k < sig.length) : (part0 sig s k).size ≤ 11 := by
  have h1 := nameAt_size hs k
  have h2 := f.sorts k hk
  have h3 := foldT_size (f := decT) (B := 2) (rowN s.sorts k) ⟨#[]⟩ fun n hn => decT_le (h2.1 n hn).1 (h2.1 n hn).2
  have e0 : (⟨#[]⟩ : ByteArray).size = 0 := rfl
  have e1 : COL.size = 1 := rfl
  unfold part0
  rw [ByteArray.size_append, ByteArray.size_append]
  omega
theorem partT_size {sig : List TControl} {s : TSorting} (hs : sigOK sig) (f : FitT sig s) {k : Nat} (hk : k < sig.length) : (partT sig s k).size ≤ 200 := by
  have h1 := part0_size hs f hk
  have h2 := (f.nest k hk).2
  have h3 := foldT_size (f := nmT sig) (B := 5) (rowN s.nest k) (part0 sig s k) fun k _ => nmT_size hs k
  unfold partT
  omega
theorem mostT_size {s : TSorting} {sig : List TControl} (f : FitT sig s) : (mostT s).size ≤ 16 := by
  have h3 := foldT_size (f := spT) (B := 3) s.most MOST fun n hn => spT_size (f.most n hn).1 (f.most n hn).2
  have := f.mostL
  have e1 : MOST.size = 4 := rfl
  unfold mostT
  omega
theorem pairT_size {p : A2} (h : (0 ≤ p.1 ∧ p.1 < 100) ∧ 0 ≤ p.2 ∧ p.2 < 100) : (pairT p).size ≤ 6 := by
  have h1 := decT_le h.1.1 h.1.2
  have h2 := decT_le h.2.1 h.2.2
  unfold pairT
  rw [ByteArray.size_append, ByteArray.size_append, ByteArray.size_append, szSP, show DASH.size = 1 from rfl]
  omega
theorem apartT_size {s : TSorting} {sig : List TControl} (f : FitT sig s) : (apartT s).size ≤ 101 := by
  have h3 := foldP_size (f := pairT) (B := 6) s.apart APART fun n hn => pairT_size (f.apart n hn)
  have := f.apartL
  have e1 : APART.size = 5 := rfl
  unfold apartT
  omega
theorem flat_le {B : Nat} {sep : ByteArray} : ∀ {r : List ByteArray}, (∀ x ∈ r, x.size ≤ B) → (r.flatMap fun y => bl sep ++ bl y).length ≤ r.length * (B + sep.size)
  | [], _ => by simp
  | x :: r, h => by
    have ih := flat_le (r := r) (sep := sep) fun y hy => h y (by simp [hy])
    have h1 := h x (by simp)
    rw [List.flatMap_cons, List.length_append, List.length_append, bl_len, bl_len, List.length_cons, Nat.succ_mul]
    omega
theorem joinT_size {B : Nat} {sep x : ByteArray} {r : List ByteArray} (h0 : x.size ≤ B) (h : ∀ x ∈ r, x.size ≤ B) : (joinT (x :: r) sep).size ≤ B + r.length * (B + sep.size) := by
  rw [← bl_len, bl_joinT, List.length_append, bl_len]
  have := flat_le (sep := sep) h
  omega
theorem sortingT_size {sig : List TControl} {s : TSorting} (hs : sigOK sig) (f : FitT sig s) : (sortingT sig s).size ≤ 100000 := by
  unfold sortingT wordsT
  rw [List.cons_append]
  have h := joinT_size (B := 200) (sep := SEMI) (x := headT sig s) (r := partsT sig s ++ [mostT s, apartT s]) (by have := headT_size hs f; omega) fun x hx => by
    rcases List.mem_append.1 hx with h | h
    · obtain ⟨k, hk, rfl⟩ := List.mem_map.1 h
      exact partT_size hs f (List.mem_range.1 hk)
    · have h1 := mostT_size f
      have h2 := apartT_size f
      simp only [List.mem_cons, List.not_mem_nil, or_false] at h
      rcases h with rfl | rfl <;> omega
  rw [List.length_append, partsT_len, show SEMI.size = 2 from rfl] at h
  have := hs.2.2
  simp only [List.length_cons, List.length_nil] at h
  omega

/-! ## the program's side -/
theorem nameAt_get {sig : List TControl} {j : Nat} (h : j < sig.length) : sig[j].name = nameAt sig (j : Int) := (nameAt_eq h).symm
theorem sem_sortingText (sig : List TControl) (s : TSorting) (hok : sortOK sig s) (lvl : Nat) (S : Sto) : Sem Go.Proofs.Tryz.prog fid_impl_sortingText lvl [.tr (.sl (sig.map cControl)), .ag ((cSorting s).map .tr)] S (iS (sortingT sig s)) S := by
  have hs := hok.sg
  have f := fitT hok
  have hn6 := hs.2.2
  refine sem_of_chk k_impl_sortingText trivial ?_
  simp only [c_impl_sortingText, List.length_map, cSorting, EVA, ↓reduceIte, Nat.reduceEqDiff, Nat.reduceMul, reduceCtorEq, Nat.reduceAdd, Nat.reduceSub, Nat.reduceLeDiff, Nat.reduceLT, Int.reduceToNat, Int.reduceLE, Int.reduceLT, mens, men]
  refine kca_intro (sem_named sig TOPS s.tops hs f.tops (by decide) (by have := f.topsL; omega)) ?_
  simp only [List.length_map, cSorting, EVA, ↓reduceIte, Nat.reduceEqDiff, Nat.reduceMul, reduceCtorEq, Nat.reduceAdd, Nat.reduceSub, Nat.reduceLeDiff, Nat.reduceLT, Int.reduceToNat, Int.reduceLE, Int.reduceLT, mens, men]
  refine wp_cnt (α := Unit) sig.length (fun j _ => [(5, .hd (lvl, 480) [] 0 (j + 1) none (j + 1)), (18, iI j)]) (fun j _ => [(480, .ar 1 (rS (headT sig s :: (partsT sig s).take j)) true (j + 1) 0)]) (fun _ _ => True) () (by simp only [EVA, ↓reduceIte, Nat.reduceEqDiff, Nat.reduceMul, reduceCtorEq, Nat.reduceAdd, Nat.reduceSub, Nat.reduceLeDiff, Nat.reduceLT, Int.reduceToNat, Int.reduceLE, Int.reduceLT, mens, men]) (by (simp only [EVA, ↓reduceIte, Nat.reduceEqDiff, Nat.reduceMul, reduceCtorEq, Nat.reduceAdd, Nat.reduceSub, Nat.reduceLeDiff, Nat.reduceLT, Int.reduceToNat, Int.reduceLE, Int.reduceLT, mens, men]) <;> rfl) trivial ?_
  intro j _ hj _
  simp only [List.length_map, cSorting, EVA, ↓reduceIte, Nat.reduceEqDiff, Nat.reduceMul, reduceCtorEq, Nat.reduceAdd, Nat.reduceSub, Nat.reduceLeDiff, Nat.reduceLT, Int.reduceToNat, Int.reduceLE, Int.reduceLT, mens, men]
  refine ite_of (fun hlt => ?_) (fun hge => ?_)
  · have hja : j < sig.length := by omega
    have ga := getA (c := cControl) hja
    have gs := getA (c := eIS) (l := s.sorts) (j := j) (by rw [hok.sortsL]; exact hja)
    have gn := getA (c := eIS) (l := s.nest) (j := j) (by rw [hok.nestL]; exact hja)
    rw [← rowN_eq] at gs gn
    have fs := f.sorts j hja
    have fn := f.nest j hja
    have hl1 : (rS (headT sig s :: (partsT sig s).take j)).length = j + 1 := by
      rw [List.length_map, List.length_cons, List.length_take, partsT_len]; omega
    have z0 := nameAt_size hs (j : Int)
    have z1 := part0_size hs f hja
    have z2 : (foldT decT ⟨#[]⟩ (rowN s.sorts j)).size ≤ 6 := by
      have h3 := foldT_size (f := decT) (B := 2) (rowN s.sorts j) ⟨#[]⟩ fun n hn => decT_le (fs.1 n hn).1 (fs.1 n hn).2
      have e0 : (⟨#[]⟩ : ByteArray).size = 0 := rfl
      omega
    have zc : (⟨#[58]⟩ : ByteArray).size = 1 := rfl
    have hlm : (((partsT sig s).take j).map fun n => [ts n]).length = j := by
      rw [List.length_map, List.length_take, partsT_len]; omega
    have st := partsT_succ (s := s) hja
    simp only [ga, gs, gn, nameAt_get hja, cControl, List.length_map, cSorting, EVA, ↓reduceIte, Nat.reduceEqDiff, Nat.reduceMul, reduceCtorEq, Nat.reduceAdd, Nat.reduceSub, Nat.reduceLeDiff, Nat.reduceLT, Int.reduceToNat, Int.reduceLE, Int.reduceLT, mens, men]
    refine ⟨by omega, kca_intro (sem_digits (rowN s.sorts j) fs.1 (by omega)) ?_⟩
    simp only [gs, gn, ByteArray.size_append, List.length_map, cSorting, EVA, ↓reduceIte, Nat.reduceEqDiff, Nat.reduceMul, reduceCtorEq, Nat.reduceAdd, Nat.reduceSub, Nat.reduceLeDiff, Nat.reduceLT, Int.reduceToNat, Int.reduceLE, Int.reduceLT, mens, men]
    refine ⟨by omega, kca_intro (sem_named sig (part0 sig s j) (rowN s.nest j) hs fn.1 (by omega) (by omega)) ?_⟩
    simp only [List.length_map, cSorting, hlm, EVA, ↓reduceIte, Nat.reduceEqDiff, Nat.reduceMul, reduceCtorEq, Nat.reduceAdd, Nat.reduceSub, Nat.reduceLeDiff, Nat.reduceLT, Int.reduceToNat, Int.reduceLE, Int.reduceLT, mens, men]
    exact ⟨by omega, by rw [fits_i64]; omega, cntJ_intro () hja (by rw [← st]; rfl) trivial⟩
  · have : j = sig.length := by omega
    subst this
    rw [List.take_of_length_le (by rw [partsT_len]; omega)]
    refine wp_cnt (α := Unit) s.apart.length (fun i _ => [(8, iS (foldP pairT APART (s.apart.take i))), (47, iI i)]) (fun _ _ => []) (fun _ _ => True) () (by simp only [EVA, ↓reduceIte, Nat.reduceEqDiff, Nat.reduceMul, reduceCtorEq, Nat.reduceAdd, Nat.reduceSub, Nat.reduceLeDiff, Nat.reduceLT, Int.reduceToNat, Int.reduceLE, Int.reduceLT, mens, men]) (by (simp only [EVA, ↓reduceIte, Nat.reduceEqDiff, Nat.reduceMul, reduceCtorEq, Nat.reduceAdd, Nat.reduceSub, Nat.reduceLeDiff, Nat.reduceLT, Int.reduceToNat, Int.reduceLE, Int.reduceLT, mens, men]) <;> rfl) trivial ?_
    intro i _ hi _
    simp only [List.length_map, cSorting, EVA, ↓reduceIte, Nat.reduceEqDiff, Nat.reduceMul, reduceCtorEq, Nat.reduceAdd, Nat.reduceSub, Nat.reduceLeDiff, Nat.reduceLT, Int.reduceToNat, Int.reduceLE, Int.reduceLT, mens, men]
    refine ite_of (fun hlt2 => ?_) (fun hge2 => ?_)
    · have hia : i < s.apart.length := by omega
      have gp := getA (c := cA2) hia
      have hp := f.apart _ (List.getElem_mem hia)
      have z1 := foldP_size (f := pairT) (B := 6) (s.apart.take i) APART fun n hn => pairT_size (f.apart n (List.mem_of_mem_take hn))
      have z2 : (s.apart.take i).length = i := by rw [List.length_take]; omega
      have e1 : APART.size = 5 := rfl
      have e2 : (⟨#[45]⟩ : ByteArray).size = 1 := rfl
      have z3 := decT_le hp.1.1 hp.1.2
      have z4 := decT_le hp.2.1 hp.2.2
      have aL := f.apartL
      rw [z2] at z1
      simp only [gp, cA2, List.length_map, cSorting, EVA, ↓reduceIte, Nat.reduceEqDiff, Nat.reduceMul, reduceCtorEq, Nat.reduceAdd, Nat.reduceSub, Nat.reduceLeDiff, Nat.reduceLT, Int.reduceToNat, Int.reduceLE, Int.reduceLT, mens, men]
      refine kca_intro (sem_dec hp.1.1 hp.1.2) ?_
      simp only [gp, cA2, szSP, e2, ByteArray.size_append, EVA, ↓reduceIte, Nat.reduceEqDiff, Nat.reduceMul, reduceCtorEq, Nat.reduceAdd, Nat.reduceSub, Nat.reduceLeDiff, Nat.reduceLT, Int.reduceToNat, Int.reduceLE, Int.reduceLT, mens, men]
      refine ⟨by omega, by omega, kca_intro (sem_dec hp.2.1 hp.2.2) ?_⟩
      simp only [szSP, e2, ByteArray.size_append, EVA, ↓reduceIte, Nat.reduceEqDiff, Nat.reduceMul, reduceCtorEq, Nat.reduceAdd, Nat.reduceSub, Nat.reduceLeDiff, Nat.reduceLT, Int.reduceToNat, Int.reduceLE, Int.reduceLT, mens, men]
      exact ⟨by omega, by omega, by rw [fits_i64]; omega, cntJ_intro () hia (by rw [foldP_succ hia]; rfl) trivial⟩
    · have : i = s.apart.length := by omega
      subst this
      rw [List.take_length]
      refine kca_intro (sem_numbered MOST s.most f.most (by decide) (by have := f.mostL; omega)) ?_
      have hl2 : ((partsT sig s).map fun n => [ts n]).length = sig.length := by rw [List.length_map, partsT_len]
      have hrep : cut (((List.replicate 2 [Tr.v (Value.string ⟨#[]⟩)]).set 0 [Tr.v (Value.string (foldT spT MOST s.most))]).set 1 [Tr.v (Value.string (foldP pairT APART s.apart))]) 0 2 = [[ts (foldT spT MOST s.most)], [ts (foldP pairT APART s.apart)]] := rfl
      have hcut : cut ([ts (headT sig s)] :: (((partsT sig s).map fun n => [ts n]) ++ [[ts (foldT spT MOST s.most)], [ts (foldP pairT APART s.apart)]])) 0 (sig.length + 1 + 2) = rS (wordsT sig s) := by
        rw [cut_all (by simp [partsT_len])]
        simp [wordsT, mostT, apartT]
      have hsc : ScR [[ts (foldT spT MOST s.most)], [ts (foldP pairT APART s.apart)]] := fun e he t ht => by
        simp only [List.mem_cons, List.not_mem_nil, or_false] at he
        rcases he with rfl | rfl <;> (simp only [List.mem_cons, List.not_mem_nil, or_false] at ht; subst ht; rfl)
      have hun : UnR 1 [[ts (foldT spT MOST s.most)], [ts (foldP pairT APART s.apart)]] := fun e he => by
        simp only [List.mem_cons, List.not_mem_nil, or_false] at he
        rcases he with rfl | rfl <;> rfl
      have hz : (joinT (wordsT sig s) SEMI).size ≤ 100000 := sortingT_size hs f
      have hwl : (wordsT sig s).length ≤ 4294967296 := by
        unfold wordsT
        rw [List.length_append, List.length_cons, partsT_len]
        simp only [List.length_cons, List.length_nil]
        omega
      simp only [List.length_map, cSorting, hl2, partsT_len, hrep, hcut, hsc, hun, List.length_set, List.length_append, List.length_cons, List.length_nil, EVA, ↓reduceIte, Nat.reduceEqDiff, Nat.reduceMul, reduceCtorEq, Nat.reduceAdd, Nat.reduceSub, Nat.reduceLeDiff, Nat.reduceLT, Int.reduceToNat, Int.reduceLE, Int.reduceLT, mens, men]
      refine ⟨by omega, kca_intro (sem_Join (wordsT sig s) SEMI hwl (by omega)) ?_⟩
      simp only [EVA, ↓reduceIte, Nat.reduceEqDiff, Nat.reduceMul, reduceCtorEq, Nat.reduceAdd, Nat.reduceSub, Nat.reduceLeDiff, Nat.reduceLT, Int.reduceToNat, Int.reduceLE, Int.reduceLT, mens, men]
      rfl

/-! ## the reference's side -/
theorem bl_part {sig : List TControl} {s : TSorting} {k : Nat} {x : ByteArray} : bl (foldT decT (((x ++ SEMI) ++ nameAt sig k) ++ COL) (rowN s.sorts k) ++ foldT (nmT sig) ⟨#[]⟩ (rowN s.nest k)) = bl x ++ (bl SEMI ++ bl (partT sig s k)) := by
  unfold partT part0
  simp only [bl_app, bl_foldT, List.append_assoc]
  rfl
theorem txt_size {sig : List TControl} {s : TSorting} (hs : sigOK sig) (f : FitT sig s) {x : ByteArray} {j : Nat} (h : bl x = bl (headT sig s) ++ ((partsT sig s).take j).flatMap fun y => bl SEMI ++ bl y) : x.size ≤ 2000 := by
  have h1 := headT_size hs f
  have h2 := flat_le (B := 200) (sep := SEMI) (r := (partsT sig s).take j) fun y hy => by
    obtain ⟨k, hk, rfl⟩ := List.mem_map.1 (List.mem_of_mem_take hy)
    exact partT_size hs f (List.mem_range.1 hk)
  have h3 : ((partsT sig s).take j).length ≤ 6 := by
    have := hs.2.2
    rw [List.length_take, partsT_len]
    omega
  have h4 := congrArg List.length h
  rw [List.length_append, bl_len, bl_len] at h4
  rw [show SEMI.size = 2 from rfl] at h2
  omega
theorem bl_succ {sig : List TControl} {s : TSorting} {x : ByteArray} {j : Nat} (hj : j < sig.length) (h : bl x = bl (headT sig s) ++ ((partsT sig s).take j).flatMap fun y => bl SEMI ++ bl y) : bl x ++ (bl SEMI ++ bl (partT sig s j)) = bl (headT sig s) ++ ((partsT sig s).take (j + 1)).flatMap fun y => bl SEMI ++ bl y := by
  rw [h, List.take_succ_eq_append_getElem (by rw [partsT_len]; exact hj), List.flatMap_append, List.append_assoc]
  simp [partsT]
theorem sem_l7Text (sig : List TControl) (s : TSorting) (hok : sortOK sig s) (lvl : Nat) (S : Sto) : Sem Go.Proofs.Tryz.prog fid_spec_l7Text lvl [.tr (.sl (sig.map cControl)), .ag ((cSorting s).map .tr)] S (iS (sortingT sig s)) S := by
  have hs := hok.sg
  have f := fitT hok
  have hn6 := hs.2.2
  have c2 : (⟨#[59, 32]⟩ : ByteArray).size = 2 := rfl
  have c1 : (⟨#[58]⟩ : ByteArray).size = 1 := rfl
  have c4 : (⟨#[116, 111, 112, 115]⟩ : ByteArray).size = 4 := rfl
  refine sem_of_chk k_spec_l7Text trivial ?_
  simp only [c_spec_l7Text, List.length_map, cSorting, EVA, ↓reduceIte, Nat.reduceEqDiff, Nat.reduceMul, reduceCtorEq, Nat.reduceAdd, Nat.reduceSub, Nat.reduceLeDiff, Nat.reduceLT, Int.reduceToNat, Int.reduceLE, Int.reduceLT, mens, men]
  refine kca_intro (sem_l7Named sig s.tops hs f.tops (by have := f.topsL; omega)) ?_
  have hT : TOPS ++ foldT (nmT sig) ⟨#[]⟩ s.tops = headT sig s := bl_ext (by
    unfold headT
    simp only [bl_app, bl_foldT]
    rfl)
  have hTs := congrArg ByteArray.size hT
  rw [ByteArray.size_append] at hTs
  have hH := headT_size hs f
  simp only [List.length_map, cSorting, EVA, ↓reduceIte, Nat.reduceEqDiff, Nat.reduceMul, reduceCtorEq, Nat.reduceAdd, Nat.reduceSub, Nat.reduceLeDiff, Nat.reduceLT, Int.reduceToNat, Int.reduceLE, Int.reduceLT, mens, men]
  refine ⟨by omega, ?_⟩
  refine wp_cnt (α := ByteArray) sig.length (fun j x => [(5, iS x), (6, iI j)]) (fun _ _ => []) (fun j x => bl x = bl (headT sig s) ++ ((partsT sig s).take j).flatMap fun y => bl SEMI ++ bl y) (TOPS ++ foldT (nmT sig) ⟨#[]⟩ s.tops) (by simp only [EVA, ↓reduceIte, Nat.reduceEqDiff, Nat.reduceMul, reduceCtorEq, Nat.reduceAdd, Nat.reduceSub, Nat.reduceLeDiff, Nat.reduceLT, Int.reduceToNat, Int.reduceLE, Int.reduceLT, mens, men]) (by (simp only [EVA, ↓reduceIte, Nat.reduceEqDiff, Nat.reduceMul, reduceCtorEq, Nat.reduceAdd, Nat.reduceSub, Nat.reduceLeDiff, Nat.reduceLT, Int.reduceToNat, Int.reduceLE, Int.reduceLT, mens, men]) <;> rfl) (by rw [hT]; simp) ?_
  intro j x hj hA
  simp only [List.length_map, cSorting, EVA, ↓reduceIte, Nat.reduceEqDiff, Nat.reduceMul, reduceCtorEq, Nat.reduceAdd, Nat.reduceSub, Nat.reduceLeDiff, Nat.reduceLT, Int.reduceToNat, Int.reduceLE, Int.reduceLT, mens, men]
  refine ite_of (fun hlt => ?_) (fun hge => ?_)
  · have hja : j < sig.length := by omega
    have hx := txt_size hs f hA
    have ga := getA (c := cControl) hja
    have gs := getA (c := eIS) (l := s.sorts) (j := j) (by rw [hok.sortsL]; exact hja)
    have gn := getA (c := eIS) (l := s.nest) (j := j) (by rw [hok.nestL]; exact hja)
    rw [← rowN_eq] at gs gn
    have fs := f.sorts j hja
    have fn := f.nest j hja
    have z0 := nameAt_size hs (j : Int)
    simp only [ga, gs, gn, c1, c2, ByteArray.size_append, nameAt_get hja, cControl, List.length_map, cSorting, EVA, ↓reduceIte, Nat.reduceEqDiff, Nat.reduceMul, reduceCtorEq, Nat.reduceAdd, Nat.reduceSub, Nat.reduceLeDiff, Nat.reduceLT, Int.reduceToNat, Int.reduceLE, Int.reduceLT, mens, men]
    refine ⟨by omega, by omega, by omega, ?_⟩
    refine wp_cnt (α := Unit) (rowN s.sorts j).length (fun i _ => [(5, iS (foldT decT (((x ++ SEMI) ++ nameAt sig j) ++ COL) ((rowN s.sorts j).take i))), (7, iI i)]) (fun _ _ => []) (fun _ _ => True) () (by simp only [EVA, ↓reduceIte, Nat.reduceEqDiff, Nat.reduceMul, reduceCtorEq, Nat.reduceAdd, Nat.reduceSub, Nat.reduceLeDiff, Nat.reduceLT, Int.reduceToNat, Int.reduceLE, Int.reduceLT, mens, men]) (by (simp only [EVA, ↓reduceIte, Nat.reduceEqDiff, Nat.reduceMul, reduceCtorEq, Nat.reduceAdd, Nat.reduceSub, Nat.reduceLeDiff, Nat.reduceLT, Int.reduceToNat, Int.reduceLE, Int.reduceLT, mens, men]) <;> rfl) trivial ?_
    intro i _ hi _
    have d1 := foldT_size (f := decT) (B := 2) ((rowN s.sorts j).take i) (((x ++ SEMI) ++ nameAt sig j) ++ COL) fun n hn => decT_le (fs.1 n (List.mem_of_mem_take hn)).1 (fs.1 n (List.mem_of_mem_take hn)).2
    have d2 : ((rowN s.sorts j).take i).length = i := by rw [List.length_take]; omega
    rw [d2, ByteArray.size_append, ByteArray.size_append, ByteArray.size_append, c1, c2] at d1
    simp only [gs, List.length_map, cSorting, EVA, ↓reduceIte, Nat.reduceEqDiff, Nat.reduceMul, reduceCtorEq, Nat.reduceAdd, Nat.reduceSub, Nat.reduceLeDiff, Nat.reduceLT, Int.reduceToNat, Int.reduceLE, Int.reduceLT, mens, men]
    refine ite_of (fun hlt2 => ?_) (fun hge2 => ?_)
    · have hia : i < (rowN s.sorts j).length := by omega
      have gi := rI_get hia
      have e : g0 (rowN s.sorts j) i = (rowN s.sorts j)[i] := by simp [hia]
      have hk := fs.1 _ (List.getElem_mem hia)
      rw [← e] at hk
      have d3 := decT_le hk.1 hk.2
      simp only [gs, gi, List.length_map, cSorting, EVA, ↓reduceIte, Nat.reduceEqDiff, Nat.reduceMul, reduceCtorEq, Nat.reduceAdd, Nat.reduceSub, Nat.reduceLeDiff, Nat.reduceLT, Int.reduceToNat, Int.reduceLE, Int.reduceLT, mens, men]
      refine kca_intro (sem_l1Num hk.1 hk.2) ?_
      simp only [EVA, ↓reduceIte, Nat.reduceEqDiff, Nat.reduceMul, reduceCtorEq, Nat.reduceAdd, Nat.reduceSub, Nat.reduceLeDiff, Nat.reduceLT, Int.reduceToNat, Int.reduceLE, Int.reduceLT, mens, men]
      exact ⟨by omega, by rw [fits_i64]; omega, cntJ_intro () hia (by rw [foldT_succ hia]; rfl) trivial⟩
    · have : i = (rowN s.sorts j).length := by omega
      subst this
      rw [List.take_length] at d1 ⊢
      simp only [gn, List.length_map, cSorting, EVA, ↓reduceIte, Nat.reduceEqDiff, Nat.reduceMul, reduceCtorEq, Nat.reduceAdd, Nat.reduceSub, Nat.reduceLeDiff, Nat.reduceLT, Int.reduceToNat, Int.reduceLE, Int.reduceLT, mens, men]
      refine kca_intro (sem_l7Named sig (rowN s.nest j) hs fn.1 (by omega)) ?_
      have d4 := foldT_size (f := nmT sig) (B := 5) (rowN s.nest j) ⟨#[]⟩ fun k _ => nmT_size hs k
      rw [show (⟨#[]⟩ : ByteArray).size = 0 from rfl] at d4
      simp only [EVA, ↓reduceIte, Nat.reduceEqDiff, Nat.reduceMul, reduceCtorEq, Nat.reduceAdd, Nat.reduceSub, Nat.reduceLeDiff, Nat.reduceLT, Int.reduceToNat, Int.reduceLE, Int.reduceLT, mens, men]
      refine ⟨by omega, by rw [fits_i64]; omega, cntJ_intro (foldT decT (((x ++ SEMI) ++ nameAt sig j) ++ COL) (rowN s.sorts j) ++ foldT (nmT sig) ⟨#[]⟩ (rowN s.nest j)) hja rfl ?_⟩
      rw [bl_part]
      exact bl_succ hja hA
  · have : j = sig.length := by omega
    subst this
    have hx := txt_size hs f hA
    rw [List.take_of_length_le (by rw [partsT_len]; omega)] at hA
    have m1 := foldT_size (f := spT) (B := 3) s.most ⟨#[]⟩ fun n hn => spT_size (f.most n hn).1 (f.most n hn).2
    have m2 := f.mostL
    have c6 : (⟨#[59, 32, 109, 111, 115, 116]⟩ : ByteArray).size = 6 := rfl
    have c7 : (⟨#[59, 32, 97, 112, 97, 114, 116]⟩ : ByteArray).size = 7 := rfl
    have cd : (⟨#[45]⟩ : ByteArray).size = 1 := rfl
    rw [show (⟨#[]⟩ : ByteArray).size = 0 from rfl] at m1
    simp only [c6, ByteArray.size_append, List.length_map, cSorting, EVA, ↓reduceIte, Nat.reduceEqDiff, Nat.reduceMul, reduceCtorEq, Nat.reduceAdd, Nat.reduceSub, Nat.reduceLeDiff, Nat.reduceLT, Int.reduceToNat, Int.reduceLE, Int.reduceLT, mens, men]
    refine ⟨by omega, kca_intro (sem_l2Words s.most f.most (by omega)) ?_⟩
    simp only [c6, c7, ByteArray.size_append, List.length_map, cSorting, EVA, ↓reduceIte, Nat.reduceEqDiff, Nat.reduceMul, reduceCtorEq, Nat.reduceAdd, Nat.reduceSub, Nat.reduceLeDiff, Nat.reduceLT, Int.reduceToNat, Int.reduceLE, Int.reduceLT, mens, men]
    refine ⟨by omega, by omega, ?_⟩
    refine wp_cnt (α := Unit) s.apart.length (fun i _ => [(5, iS (foldP pairT (((x ++ ⟨#[59, 32, 109, 111, 115, 116]⟩) ++ foldT spT ⟨#[]⟩ s.most) ++ ⟨#[59, 32, 97, 112, 97, 114, 116]⟩) (s.apart.take i))), (8, iI i)]) (fun _ _ => []) (fun _ _ => True) () (by simp only [EVA, ↓reduceIte, Nat.reduceEqDiff, Nat.reduceMul, reduceCtorEq, Nat.reduceAdd, Nat.reduceSub, Nat.reduceLeDiff, Nat.reduceLT, Int.reduceToNat, Int.reduceLE, Int.reduceLT, mens, men]) (by (simp only [EVA, ↓reduceIte, Nat.reduceEqDiff, Nat.reduceMul, reduceCtorEq, Nat.reduceAdd, Nat.reduceSub, Nat.reduceLeDiff, Nat.reduceLT, Int.reduceToNat, Int.reduceLE, Int.reduceLT, mens, men]) <;> rfl) trivial ?_
    intro i _ hi _
    simp only [List.length_map, cSorting, EVA, ↓reduceIte, Nat.reduceEqDiff, Nat.reduceMul, reduceCtorEq, Nat.reduceAdd, Nat.reduceSub, Nat.reduceLeDiff, Nat.reduceLT, Int.reduceToNat, Int.reduceLE, Int.reduceLT, mens, men]
    refine ite_of (fun hlt2 => ?_) (fun hge2 => ?_)
    · have hia : i < s.apart.length := by omega
      have gp := getA (c := cA2) hia
      have hp := f.apart _ (List.getElem_mem hia)
      have z1 := foldP_size (f := pairT) (B := 6) (s.apart.take i) (((x ++ ⟨#[59, 32, 109, 111, 115, 116]⟩) ++ foldT spT ⟨#[]⟩ s.most) ++ ⟨#[59, 32, 97, 112, 97, 114, 116]⟩) fun n hn => pairT_size (f.apart n (List.mem_of_mem_take hn))
      have z2 : (s.apart.take i).length = i := by rw [List.length_take]; omega
      have z3 := decT_le hp.1.1 hp.1.2
      have z4 := decT_le hp.2.1 hp.2.2
      have aL := f.apartL
      rw [z2, ByteArray.size_append, ByteArray.size_append, ByteArray.size_append, c6, c7] at z1
      simp only [gp, cA2, szSP, cd, ByteArray.size_append, List.length_map, cSorting, EVA, ↓reduceIte, Nat.reduceEqDiff, Nat.reduceMul, reduceCtorEq, Nat.reduceAdd, Nat.reduceSub, Nat.reduceLeDiff, Nat.reduceLT, Int.reduceToNat, Int.reduceLE, Int.reduceLT, mens, men]
      refine ⟨by omega, kca_intro (sem_l1Num hp.1.1 hp.1.2) ?_⟩
      simp only [gp, cA2, szSP, cd, ByteArray.size_append, EVA, ↓reduceIte, Nat.reduceEqDiff, Nat.reduceMul, reduceCtorEq, Nat.reduceAdd, Nat.reduceSub, Nat.reduceLeDiff, Nat.reduceLT, Int.reduceToNat, Int.reduceLE, Int.reduceLT, mens, men]
      refine ⟨by omega, by omega, kca_intro (sem_l1Num hp.2.1 hp.2.2) ?_⟩
      simp only [szSP, cd, ByteArray.size_append, EVA, ↓reduceIte, Nat.reduceEqDiff, Nat.reduceMul, reduceCtorEq, Nat.reduceAdd, Nat.reduceSub, Nat.reduceLeDiff, Nat.reduceLT, Int.reduceToNat, Int.reduceLE, Int.reduceLT, mens, men]
      exact ⟨by omega, by rw [fits_i64]; omega, cntJ_intro () hia (by rw [foldP_succ hia, pairT, ← ByteArray.append_assoc, ← ByteArray.append_assoc, ← ByteArray.append_assoc]; rfl) trivial⟩
    · have : i = s.apart.length := by omega
      subst this
      rw [List.take_length]
      have hfin : foldP pairT (((x ++ ⟨#[59, 32, 109, 111, 115, 116]⟩) ++ foldT spT ⟨#[]⟩ s.most) ++ ⟨#[59, 32, 97, 112, 97, 114, 116]⟩) s.apart = sortingT sig s := bl_ext (by
        unfold sortingT wordsT
        rw [List.cons_append, bl_joinT, List.flatMap_append, ← List.append_assoc, ← hA]
        unfold mostT apartT
        simp only [bl_app, bl_foldP, bl_foldT, List.flatMap_cons, List.flatMap_nil, List.append_assoc, List.append_nil]
        rfl)
      rw [hfin]

/-! ## SortingText -/
open Classical in
noncomputable def r0_SortingText (sig : List TControl) (s : TSorting) : ByteArray := if sortOK sig s then sortingT sig s else ⟨#[]⟩
noncomputable def r1_SortingText (sig : List TControl) (s : TSorting) : Bool := dc (sortOK sig s)

theorem sem_spec_SortingText (sig : List TControl) (s : TSorting) (hn : sig.length ≤ 4294967296) (hbs : ∀ y ∈ sig, bdControl 4294967296 y) (hb : bdSorting 4294967296 s) (lvl : Nat) (S : Sto) : Sem Go.Proofs.Tryz.prog fid_spec_SortingText lvl [.tr (.sl (sig.map cControl)), .ag ((cSorting s).map .tr)] S (.tu [iS (r0_SortingText sig s), iB (r1_SortingText sig s)]) S := by
  refine sem_of_chk k_spec_SortingText (by simp [low, men, mens]) ?_
  simp only [c_spec_SortingText, List.length_map, cSorting, EVA, ↓reduceIte, Nat.reduceEqDiff, Nat.reduceMul, reduceCtorEq, Nat.reduceAdd, Nat.reduceSub, Nat.reduceLeDiff, Nat.reduceLT, Int.reduceToNat, Int.reduceLE, Int.reduceLT, mens, men]
  refine kca_intro (sem_l7Good sig s hn hbs hb) ?_
  unfold r0_SortingText r1_SortingText
  cases hg : dc (sortOK sig s)
  · simp only [EVA, ↓reduceIte, Nat.reduceEqDiff, Nat.reduceMul, reduceCtorEq, Nat.reduceAdd, Nat.reduceSub, Nat.reduceLeDiff, Nat.reduceLT, Int.reduceToNat, Int.reduceLE, Int.reduceLT, mens, men]
    rw [if_neg (dc_not.1 hg)]
  have hG := dc_iff.1 hg
  rw [if_pos hG]
  simp only [List.length_map, cSorting, EVA, ↓reduceIte, Nat.reduceEqDiff, Nat.reduceMul, reduceCtorEq, Nat.reduceAdd, Nat.reduceSub, Nat.reduceLeDiff, Nat.reduceLT, Int.reduceToNat, Int.reduceLE, Int.reduceLT, mens, men]
  refine kca_intro (sem_l7Text sig s hG) ?_
  simp only [EVA, ↓reduceIte, Nat.reduceEqDiff, Nat.reduceMul, reduceCtorEq, Nat.reduceAdd, Nat.reduceSub, Nat.reduceLeDiff, Nat.reduceLT, Int.reduceToNat, Int.reduceLE, Int.reduceLT, mens, men]

theorem sem_impl_SortingText (sig : List TControl) (s : TSorting) (hn : sig.length ≤ 4294967296) (hbs : ∀ y ∈ sig, bdControl 4294967296 y) (hb : bdSorting 4294967296 s) (lvl : Nat) (S : Sto) : Sem Go.Proofs.Tryz.prog fid_impl_SortingText lvl [.tr (.sl (sig.map cControl)), .ag ((cSorting s).map .tr)] S (.tu [iS (r0_SortingText sig s), iB (r1_SortingText sig s)]) S := by
  refine sem_of_chk k_impl_SortingText (by simp [low, men, mens]) ?_
  simp only [c_impl_SortingText, List.length_map, cSorting, EVA, ↓reduceIte, Nat.reduceEqDiff, Nat.reduceMul, reduceCtorEq, Nat.reduceAdd, Nat.reduceSub, Nat.reduceLeDiff, Nat.reduceLT, Int.reduceToNat, Int.reduceLE, Int.reduceLT, mens, men]
  refine kca_intro (sem_impl_IsSorting sig s hn hbs hb) ?_
  unfold r0_SortingText r1_SortingText
  cases hg : dc (sortOK sig s)
  · simp only [EVA, ↓reduceIte, Nat.reduceEqDiff, Nat.reduceMul, reduceCtorEq, Nat.reduceAdd, Nat.reduceSub, Nat.reduceLeDiff, Nat.reduceLT, Int.reduceToNat, Int.reduceLE, Int.reduceLT, mens, men]
    rw [if_neg (dc_not.1 hg)]
  have hG := dc_iff.1 hg
  rw [if_pos hG]
  simp only [List.length_map, cSorting, EVA, ↓reduceIte, Nat.reduceEqDiff, Nat.reduceMul, reduceCtorEq, Nat.reduceAdd, Nat.reduceSub, Nat.reduceLeDiff, Nat.reduceLT, Int.reduceToNat, Int.reduceLE, Int.reduceLT, mens, men]
  refine kca_intro (sem_sortingText sig s hG) ?_
  simp only [EVA, ↓reduceIte, Nat.reduceEqDiff, Nat.reduceMul, reduceCtorEq, Nat.reduceAdd, Nat.reduceSub, Nat.reduceLeDiff, Nat.reduceLT, Int.reduceToNat, Int.reduceLE, Int.reduceLT, mens, men]
end Go.Fd

/-
  The annotated codes of the functions, printed by a program of mine (gen.py), and the check that they belong to the program.
-/
namespace Go.Fd
def c_laws_FnExactSortingText : F2 :=
  { nt := 58, res := [.t 4 [0]], body :=
   (.sq (rg [oo 3 (.bt (.t 1)),
 om 4 (.k (.bool false))])
 (.sq (rg [om 5 (i6 1048576)])
 (.sq (rg [om 12 (.t 0),
 om 13 (.t 5),
 oo 14 (.ca .pure false (.f fid_laws_szControlS) [.t 12, .t 13]),
 om 5 (.t 14)])
 (.sq (.sq (rg [om 15 (.t 5),
 oo 16 (.bi .lss 0 (.t 15) (i6 0))])
 (.cd (.t 16) (.sq (rg [om 4 (.k (.bool true))])
 (.rt))
 (.sk)))
 (.sq (rg [oo 17 (.ld (some 5) (.t 3)),
 om 18 (.t 5),
 oo 19 (.ca .pure false (.f fid_laws_szSorting) [.t 17, .t 18]),
 om 5 (.t 19)])
 (.sq (.sq (rg [om 20 (.t 5),
 oo 21 (.bi .lss 0 (.t 20) (i6 0))])
 (.cd (.t 21) (.sq (rg [om 4 (.k (.bool true))])
 (.rt))
 (.sk)))
 (.sq (.rg (some 0) [om 23 (.t 0),
 oo 24 (.ca .pure false (.f fid_laws_toControlS) [.t 23]),
 oo 25 (.ld (some 5) (.t 3)),
 oo 26 (.ca .pure false (.f fid_laws_toSorting) [.t 25]),
 oo 27 (.ca .pure false (.f fid_spec_SortingText) [.t 24, .t 26]),
 om 22 (.t 27),
 oo 28 (.ex 0 (.t 22)),
 oo 29 (.ex 1 (.t 22)),
 om 6 (.t 28),
 om 7 (.t 29)])
 (.sq (rg [om 30 (.t 0),
 oo 31 (.ca .pure false (.f fid_laws_toControlS) [.t 30]),
 om 8 (.t 31)])
 (.sq (rg [oo 32 (.ld (some 5) (.t 3)),
 oo 33 (.ca .pure false (.f fid_laws_toSorting) [.t 32]),
 oo 9 (.al [.slice none 0 0, .slice none 0 0, .slice none 0 0, .slice none 0 0, .slice none 0 0] []),
 on1 (.st 5 (.t 9) (.t 33))])
 (.sq (rg [om 35 (.t 8),
 oo 36 (.ld (some 5) (.t 9)),
 oo 37 (.ca .pure false (.f fid_impl_SortingText) [.t 35, .t 36]),
 om 34 (.t 37),
 oo 38 (.ex 0 (.t 34)),
 oo 39 (.ex 1 (.t 34)),
 om 10 (.t 38),
 om 11 (.t 39)])
 (.sq (.sq (rg [om 40 (.t 10),
 om 41 (.t 6),
 oo 42 (.bi .neq 0 (.t 40) (.t 41)),
 om 43 (.t 42),
 og 44 43 false (.mv (.t 11) none),
 og 45 43 false (.mv (.t 7) none),
 og 46 43 false (.bi .neq 2 (.t 44) (.t 45)),
 oo 47 (.pk (.t 43) (.k (.bool true)) (.t 46))])
 (.cd (.t 47) (.sq (rg [om 4 (.k (.bool false))])
 (.rt))
 (.sk)))
 (.sq (.sq (rg [om 48 (.t 8),
 om 49 (.t 0),
 oo 50 (.ca .pure false (.f fid_laws_toControlS) [.t 49]),
 oo 51 (.ca .pure false (.f fid_laws_eqControlS) [.t 48, .t 50]),
 oo 52 (.nt (.t 51))])
 (.cd (.t 52) (.sq (rg [om 4 (.k (.bool false))])
 (.rt))
 (.sk)))
 (.sq (.sq (.rg (some 0) [oo 53 (.ld (some 5) (.t 9)),
 oo 54 (.ld (some 5) (.t 3)),
 oo 55 (.ca .pure false (.f fid_laws_toSorting) [.t 54]),
 oo 56 (.ca .pure false (.f fid_laws_eqSorting) [.t 53, .t 55]),
 oo 57 (.nt (.t 56))])
 (.cd (.t 57) (.sq (rg [om 4 (.k (.bool false))])
 (.rt))
 (.sk)))
 (.sq (rg [om 4 (.k (.bool true))])
 (.rt))))))))))))))) }
theorem k_laws_FnExactSortingText : chkF Go.Proofs.Tryz.prog fid_laws_FnExactSortingText c_laws_FnExactSortingText = true := by kernel_rfl

end Go.Fd

/-
  THE TEXT OF A MARK; THE MARKS OF NUMBERS AND TEXTS. Own work.
-/
namespace Go.Fd
set_option maxRecDepth 20000
def mt (q : Nat) (o : ByteArray) : ByteArray := if q = 0 then o else mt (q / 10) (⟨#[UInt8.ofNat (48 + q % 10)]⟩ ++ o)
  termination_by q
  decreasing_by omega
end Go.Fd

/-
  WHAT THE MARKING FUNCTIONS DO (printed by lawgen.py). Own work.
-/
namespace Go.Fd
set_option maxRecDepth 20000
end Go.Fd

/-
  The annotated codes of the functions, printed by a program of mine (gen.py), and the check that they belong to the program.
-/
namespace Go.Fd
def c_laws_szSorting : F2 :=
  { nt := 36, res := [.t 4 [0]], body :=
   (.sq (rg [oo 2 (.bt (.t 0)),
 om 4 (i6 0)])
 (.sq (rg [oo 5 (.fa 0 (.t 2)),
 oo 6 (.ld none (.t 5)),
 om 7 (.t 1),
 oo 8 (.ca .pure false (.f fid_laws_szIntS) [.t 6, .t 7]),
 om 1 (.t 8)])
 (.sq (.sq (rg [om 9 (.t 1),
 oo 10 (.bi .lss 0 (.t 9) (i6 0))])
 (.cd (.t 10) (.sq (rg [om 4 (i6 (-1))])
 (.rt))
 (.sk)))
 (.sq (rg [oo 11 (.fa 1 (.t 2)),
 oo 12 (.ld none (.t 11)),
 om 13 (.t 1),
 oo 14 (.ca .pure false (.f fid_laws_szIntSS) [.t 12, .t 13]),
 om 1 (.t 14)])
 (.sq (.sq (rg [om 15 (.t 1),
 oo 16 (.bi .lss 0 (.t 15) (i6 0))])
 (.cd (.t 16) (.sq (rg [om 4 (i6 (-1))])
 (.rt))
 (.sk)))
 (.sq (rg [oo 17 (.fa 2 (.t 2)),
 oo 18 (.ld none (.t 17)),
 om 19 (.t 1),
 oo 20 (.ca .pure false (.f fid_laws_szIntSS) [.t 18, .t 19]),
 om 1 (.t 20)])
 (.sq (.sq (rg [om 21 (.t 1),
 oo 22 (.bi .lss 0 (.t 21) (i6 0))])
 (.cd (.t 22) (.sq (rg [om 4 (i6 (-1))])
 (.rt))
 (.sk)))
 (.sq (rg [oo 23 (.fa 3 (.t 2)),
 oo 24 (.ld none (.t 23)),
 om 25 (.t 1),
 oo 26 (.ca .pure false (.f fid_laws_szIntS) [.t 24, .t 25]),
 om 1 (.t 26)])
 (.sq (.sq (rg [om 27 (.t 1),
 oo 28 (.bi .lss 0 (.t 27) (i6 0))])
 (.cd (.t 28) (.sq (rg [om 4 (i6 (-1))])
 (.rt))
 (.sk)))
 (.sq (rg [oo 29 (.fa 4 (.t 2)),
 oo 30 (.ld none (.t 29)),
 om 31 (.t 1),
 oo 32 (.ca .pure false (.f fid_laws_szIntA2S) [.t 30, .t 31]),
 om 1 (.t 32)])
 (.sq (.sq (rg [om 33 (.t 1),
 oo 34 (.bi .lss 0 (.t 33) (i6 0))])
 (.cd (.t 34) (.sq (rg [om 4 (i6 (-1))])
 (.rt))
 (.sk)))
 (.sq (rg [om 35 (.t 1),
 om 4 (.t 35)])
 (.rt))))))))))))) }
theorem k_laws_szSorting : chkF Go.Proofs.Tryz.prog fid_laws_szSorting c_laws_szSorting = true := by kernel_rfl

def c_laws_toControlS : F2 :=
  { nt := 23, res := [.t 2 [4]], body :=
   (.sq (rg [om 2 (.k (.slice none 0 0))])
 (.sq (rg [om 5 (.t 0),
 oo 6 (.ln (.t 5)),
 oo 7 (.ms 3 [.string ⟨#[]⟩, .int .i64 0, .int .i64 0] (.t 6)),
 om 3 (.t 7)])
 (.sq (.sq (rg [om 4 (i6 0)])
 (.bl 0 (.lp [0, 3, 4] [224] (.sq (.sq (rg [om 8 (.t 4),
 om 9 (.t 0),
 oo 10 (.ln (.t 9)),
 oo 11 (.bi .lss 0 (.t 8) (.t 10))])
 (.cd (.t 11) (.sk)
 (.ex 0)))
 (.sq (.bl 1 (rg [om 14 (.t 3),
 om 15 (.t 4),
 om 16 (.t 0),
 om 17 (.t 4),
 oo 18 (.ia 3 (.t 16) (.t 17)),
 oo 19 (.ld (some 3) (.t 18)),
 oo 20 (.ca .pure true (.f fid_laws_toControl) [.t 19]),
 oo 21 (.ia 3 (.t 14) (.t 15)),
 on1 (.st 3 (.t 21) (.t 20))]))
 (rg [om 12 (.t 4),
 oo 13 (.bi .add 0 (.t 12) (i6 1)),
 om 4 (.t 13)]))))))
 (.sq (rg [om 22 (.t 3),
 om 2 (.t 22)])
 (.rt))))) }
theorem k_laws_toControlS : chkF Go.Proofs.Tryz.prog fid_laws_toControlS c_laws_toControlS = true := by kernel_rfl

def c_laws_toSorting : F2 :=
  { nt := 25, res := [.c 2 (some 5) [2, 2, 2, 2, 3]], body :=
   (.sq (rg [oo 1 (.bt (.t 0)),
 oo 2 (.al [.slice none 0 0, .slice none 0 0, .slice none 0 0, .slice none 0 0, .slice none 0 0] [])])
 (.sq (rg [oo 3 (.al [.slice none 0 0, .slice none 0 0, .slice none 0 0, .slice none 0 0, .slice none 0 0] [])])
 (.sq (rg [oo 4 (.fa 0 (.t 1)),
 oo 5 (.ld none (.t 4)),
 oo 6 (.ca .pure true (.f fid_laws_toIntS) [.t 5]),
 oo 7 (.fa 0 (.t 3)),
 on1 (.st 1 (.t 7) (.t 6))])
 (.sq (rg [oo 8 (.fa 1 (.t 1)),
 oo 9 (.ld none (.t 8)),
 oo 10 (.ca .pure true (.f fid_laws_toIntSS) [.t 9]),
 oo 11 (.fa 1 (.t 3)),
 on1 (.st 1 (.t 11) (.t 10))])
 (.sq (rg [oo 12 (.fa 2 (.t 1)),
 oo 13 (.ld none (.t 12)),
 oo 14 (.ca .pure true (.f fid_laws_toIntSS) [.t 13]),
 oo 15 (.fa 2 (.t 3)),
 on1 (.st 1 (.t 15) (.t 14))])
 (.sq (rg [oo 16 (.fa 3 (.t 1)),
 oo 17 (.ld none (.t 16)),
 oo 18 (.ca .pure true (.f fid_laws_toIntS) [.t 17]),
 oo 19 (.fa 3 (.t 3)),
 on1 (.st 1 (.t 19) (.t 18))])
 (.sq (rg [oo 20 (.fa 4 (.t 1)),
 oo 21 (.ld none (.t 20)),
 oo 22 (.ca .pure true (.f fid_laws_toIntA2S) [.t 21]),
 oo 23 (.fa 4 (.t 3)),
 on1 (.st 1 (.t 23) (.t 22))])
 (.sq (rg [oo 24 (.ld (some 5) (.t 3)),
 on1 (.st 5 (.t 2) (.t 24))])
 (.rt))))))))) }
theorem k_laws_toSorting : chkF Go.Proofs.Tryz.prog fid_laws_toSorting c_laws_toSorting = true := by kernel_rfl

def c_laws_eqSorting : F2 :=
  { nt := 35, res := [.t 4 [0]], body :=
   (.sq (rg [oo 2 (.bt (.t 0)),
 oo 3 (.bt (.t 1)),
 om 4 (.k (.bool false))])
 (.sq (.sq (rg [oo 5 (.fa 0 (.t 2)),
 oo 6 (.ld none (.t 5)),
 oo 7 (.fa 0 (.t 3)),
 oo 8 (.ld none (.t 7)),
 oo 9 (.ca .pure false (.f fid_laws_eqIntS) [.t 6, .t 8]),
 oo 10 (.nt (.t 9))])
 (.cd (.t 10) (.sq (rg [om 4 (.k (.bool false))])
 (.rt))
 (.sk)))
 (.sq (.sq (rg [oo 11 (.fa 1 (.t 2)),
 oo 12 (.ld none (.t 11)),
 oo 13 (.fa 1 (.t 3)),
 oo 14 (.ld none (.t 13)),
 oo 15 (.ca .pure false (.f fid_laws_eqIntSS) [.t 12, .t 14]),
 oo 16 (.nt (.t 15))])
 (.cd (.t 16) (.sq (rg [om 4 (.k (.bool false))])
 (.rt))
 (.sk)))
 (.sq (.sq (rg [oo 17 (.fa 2 (.t 2)),
 oo 18 (.ld none (.t 17)),
 oo 19 (.fa 2 (.t 3)),
 oo 20 (.ld none (.t 19)),
 oo 21 (.ca .pure false (.f fid_laws_eqIntSS) [.t 18, .t 20]),
 oo 22 (.nt (.t 21))])
 (.cd (.t 22) (.sq (rg [om 4 (.k (.bool false))])
 (.rt))
 (.sk)))
 (.sq (.sq (rg [oo 23 (.fa 3 (.t 2)),
 oo 24 (.ld none (.t 23)),
 oo 25 (.fa 3 (.t 3)),
 oo 26 (.ld none (.t 25)),
 oo 27 (.ca .pure false (.f fid_laws_eqIntS) [.t 24, .t 26]),
 oo 28 (.nt (.t 27))])
 (.cd (.t 28) (.sq (rg [om 4 (.k (.bool false))])
 (.rt))
 (.sk)))
 (.sq (.sq (rg [oo 29 (.fa 4 (.t 2)),
 oo 30 (.ld none (.t 29)),
 oo 31 (.fa 4 (.t 3)),
 oo 32 (.ld none (.t 31)),
 oo 33 (.ca .pure false (.f fid_laws_eqIntA2S) [.t 30, .t 32]),
 oo 34 (.nt (.t 33))])
 (.cd (.t 34) (.sq (rg [om 4 (.k (.bool false))])
 (.rt))
 (.sk)))
 (.sq (rg [om 4 (.k (.bool true))])
 (.rt)))))))) }
theorem k_laws_eqSorting : chkF Go.Proofs.Tryz.prog fid_laws_eqSorting c_laws_eqSorting = true := by kernel_rfl

def c_laws_szControl : F2 :=
  { nt := 13, res := [.t 4 [0]], body :=
   (.sq (rg [oo 2 (.bt (.t 0)),
 om 4 (i6 0)])
 (.sq (rg [om 5 (.t 1),
 oo 6 (.fa 0 (.t 2)),
 oo 7 (.ld none (.t 6)),
 oo 8 (.lg (.t 7)),
 oo 9 (.bi .sub 0 (.t 5) (.t 8)),
 om 1 (.t 9)])
 (.sq (.sq (rg [om 10 (.t 1),
 oo 11 (.bi .lss 0 (.t 10) (i6 0))])
 (.cd (.t 11) (.sq (rg [om 4 (i6 (-1))])
 (.rt))
 (.sk)))
 (.sq (rg [om 12 (.t 1),
 om 4 (.t 12)])
 (.rt))))) }
theorem k_laws_szControl : chkF Go.Proofs.Tryz.prog fid_laws_szControl c_laws_szControl = true := by kernel_rfl

def c_laws_toControl : F2 :=
  { nt := 14, res := [.c 2 (some 3) [0, 0, 0]], body :=
   (.sq (rg [oo 1 (.bt (.t 0)),
 oo 2 (.al [.string ⟨#[]⟩, .int .i64 0, .int .i64 0] [])])
 (.sq (rg [oo 3 (.al [.string ⟨#[]⟩, .int .i64 0, .int .i64 0] [])])
 (.sq (rg [oo 4 (.fa 0 (.t 1)),
 oo 5 (.ld none (.t 4)),
 oo 6 (.fa 0 (.t 3)),
 on1 (.st 1 (.t 6) (.t 5))])
 (.sq (rg [oo 7 (.fa 1 (.t 1)),
 oo 8 (.ld none (.t 7)),
 oo 9 (.fa 1 (.t 3)),
 on1 (.st 1 (.t 9) (.t 8))])
 (.sq (rg [oo 10 (.fa 2 (.t 1)),
 oo 11 (.ld none (.t 10)),
 oo 12 (.fa 2 (.t 3)),
 on1 (.st 1 (.t 12) (.t 11))])
 (.sq (rg [oo 13 (.ld (some 3) (.t 3)),
 on1 (.st 3 (.t 2) (.t 13))])
 (.rt))))))) }
theorem k_laws_toControl : chkF Go.Proofs.Tryz.prog fid_laws_toControl c_laws_toControl = true := by kernel_rfl

def c_laws_toIntSS : F2 :=
  { nt := 23, res := [.t 2 [2]], body :=
   (.sq (rg [om 2 (.k (.slice none 0 0))])
 (.sq (rg [om 5 (.t 0),
 oo 6 (.ln (.t 5)),
 oo 7 (.ms 1 [.slice none 0 0] (.t 6)),
 om 3 (.t 7)])
 (.sq (.sq (rg [om 4 (i6 0)])
 (.bl 0 (.lp [0, 3, 4] [224, 640] (.sq (.sq (rg [om 8 (.t 4),
 om 9 (.t 0),
 oo 10 (.ln (.t 9)),
 oo 11 (.bi .lss 0 (.t 8) (.t 10))])
 (.cd (.t 11) (.sk)
 (.ex 0)))
 (.sq (.bl 1 (rg [om 14 (.t 3),
 om 15 (.t 4),
 om 16 (.t 0),
 om 17 (.t 4),
 oo 18 (.ia 1 (.t 16) (.t 17)),
 oo 19 (.ld none (.t 18)),
 oo 20 (.ca .pure true (.f fid_laws_toIntS) [.t 19]),
 oo 21 (.ia 1 (.t 14) (.t 15)),
 on1 (.st 1 (.t 21) (.t 20))]))
 (rg [om 12 (.t 4),
 oo 13 (.bi .add 0 (.t 12) (i6 1)),
 om 4 (.t 13)]))))))
 (.sq (rg [om 22 (.t 3),
 om 2 (.t 22)])
 (.rt))))) }
theorem k_laws_toIntSS : chkF Go.Proofs.Tryz.prog fid_laws_toIntSS c_laws_toIntSS = true := by kernel_rfl

def c_laws_toIntA2S : F2 :=
  { nt := 23, res := [.t 2 [3]], body :=
   (.sq (rg [om 2 (.k (.slice none 0 0))])
 (.sq (rg [om 5 (.t 0),
 oo 6 (.ln (.t 5)),
 oo 7 (.ms 2 [.int .i64 0, .int .i64 0] (.t 6)),
 om 3 (.t 7)])
 (.sq (.sq (rg [om 4 (i6 0)])
 (.bl 0 (.lp [0, 3, 4] [224] (.sq (.sq (rg [om 8 (.t 4),
 om 9 (.t 0),
 oo 10 (.ln (.t 9)),
 oo 11 (.bi .lss 0 (.t 8) (.t 10))])
 (.cd (.t 11) (.sk)
 (.ex 0)))
 (.sq (.bl 1 (rg [om 14 (.t 3),
 om 15 (.t 4),
 om 16 (.t 0),
 om 17 (.t 4),
 oo 18 (.ia 2 (.t 16) (.t 17)),
 oo 19 (.ld (some 2) (.t 18)),
 oo 20 (.ca .pure true (.f fid_laws_toIntA2) [.t 19]),
 oo 21 (.ia 2 (.t 14) (.t 15)),
 on1 (.st 2 (.t 21) (.t 20))]))
 (rg [om 12 (.t 4),
 oo 13 (.bi .add 0 (.t 12) (i6 1)),
 om 4 (.t 13)]))))))
 (.sq (rg [om 22 (.t 3),
 om 2 (.t 22)])
 (.rt))))) }
theorem k_laws_toIntA2S : chkF Go.Proofs.Tryz.prog fid_laws_toIntA2S c_laws_toIntA2S = true := by kernel_rfl

def c_laws_eqControl : F2 :=
  { nt := 20, res := [.t 4 [0]], body :=
   (.sq (rg [oo 2 (.bt (.t 0)),
 oo 3 (.bt (.t 1)),
 om 4 (.k (.bool false))])
 (.sq (.sq (rg [oo 5 (.fa 0 (.t 2)),
 oo 6 (.ld none (.t 5)),
 oo 7 (.fa 0 (.t 3)),
 oo 8 (.ld none (.t 7)),
 oo 9 (.bi .neq 0 (.t 6) (.t 8))])
 (.cd (.t 9) (.sq (rg [om 4 (.k (.bool false))])
 (.rt))
 (.sk)))
 (.sq (.sq (rg [oo 10 (.fa 1 (.t 2)),
 oo 11 (.ld none (.t 10)),
 oo 12 (.fa 1 (.t 3)),
 oo 13 (.ld none (.t 12)),
 oo 14 (.bi .neq 0 (.t 11) (.t 13))])
 (.cd (.t 14) (.sq (rg [om 4 (.k (.bool false))])
 (.rt))
 (.sk)))
 (.sq (.sq (rg [oo 15 (.fa 2 (.t 2)),
 oo 16 (.ld none (.t 15)),
 oo 17 (.fa 2 (.t 3)),
 oo 18 (.ld none (.t 17)),
 oo 19 (.bi .neq 0 (.t 16) (.t 18))])
 (.cd (.t 19) (.sq (rg [om 4 (.k (.bool false))])
 (.rt))
 (.sk)))
 (.sq (rg [om 4 (.k (.bool true))])
 (.rt)))))) }
theorem k_laws_eqControl : chkF Go.Proofs.Tryz.prog fid_laws_eqControl c_laws_eqControl = true := by kernel_rfl

def c_laws_toIntA2 : F2 :=
  { nt := 15, res := [.c 2 (some 2) [0, 0]], body :=
   (.sq (rg [oo 1 (.bt (.t 0)),
 oo 2 (.al [.int .i64 0, .int .i64 0] [])])
 (.sq (rg [oo 3 (.al [.int .i64 0, .int .i64 0] [])])
 (.sq (.sq (rg [om 4 (i6 0)])
 (.bl 0 (.lp [1, 2, 3, 4] [64, 96] (.sq (.sq (rg [om 5 (.t 4),
 oo 6 (.bi .lss 0 (.t 5) (i6 2))])
 (.cd (.t 6) (.sk)
 (.ex 0)))
 (.sq (.bl 1 (rg [om 9 (.t 4),
 om 10 (.t 4),
 oo 11 (.ja 1 2 (.t 1) (.t 10)),
 oo 12 (.ld none (.t 11)),
 oo 13 (.ja 1 2 (.t 3) (.t 9)),
 on1 (.st 1 (.t 13) (.t 12))]))
 (rg [om 7 (.t 4),
 oo 8 (.bi .add 0 (.t 7) (i6 1)),
 om 4 (.t 8)]))))))
 (.sq (rg [oo 14 (.ld (some 2) (.t 3)),
 on1 (.st 2 (.t 2) (.t 14))])
 (.rt))))) }
theorem k_laws_toIntA2 : chkF Go.Proofs.Tryz.prog fid_laws_toIntA2 c_laws_toIntA2 = true := by kernel_rfl

def c_laws_eqIntA2 : F2 :=
  { nt := 17, res := [.t 4 [0]], body :=
   (.sq (rg [oo 2 (.bt (.t 0)),
 oo 3 (.bt (.t 1)),
 om 4 (.k (.bool false))])
 (.sq (.sq (rg [om 5 (i6 0)])
 (.bl 0 (.lp [2, 3, 5] [] (.sq (.sq (rg [om 6 (.t 5),
 oo 7 (.bi .lss 0 (.t 6) (i6 2))])
 (.cd (.t 7) (.sk)
 (.ex 0)))
 (.sq (.bl 1 (.sq (.rg (some 0) [om 10 (.t 5),
 oo 11 (.ja 1 2 (.t 2) (.t 10)),
 oo 12 (.ld none (.t 11)),
 om 13 (.t 5),
 oo 14 (.ja 1 2 (.t 3) (.t 13)),
 oo 15 (.ld none (.t 14)),
 oo 16 (.bi .neq 0 (.t 12) (.t 15))])
 (.cd (.t 16) (.sq (rg [om 4 (.k (.bool false))])
 (.rt))
 (.sk))))
 (rg [om 8 (.t 5),
 oo 9 (.bi .add 0 (.t 8) (i6 1)),
 om 5 (.t 9)]))))))
 (.sq (rg [om 4 (.k (.bool true))])
 (.rt)))) }
theorem k_laws_eqIntA2 : chkF Go.Proofs.Tryz.prog fid_laws_eqIntA2 c_laws_eqIntA2 = true := by kernel_rfl

end Go.Fd

/-
  SMALL WORDS FOR MARKS. Own work.
-/
namespace Go.Fd
theorem cut_mL {α : Type} {c : α → List Tr} {m : α → Int → α} {n : α → Nat} {a : List α} {k : Int} : cut ((mL m n a k).map c) 0 a.length = (mL m n a k).map c := by
  simp only [cut, List.drop_zero]
  exact List.take_of_length_le (by rw [List.length_map, mL_length]; exact Nat.le_refl _)
theorem cut_map {α : Type} {c : α → List Tr} {a : List α} : cut (a.map c) 0 a.length = a.map c := by
  simp only [cut, List.drop_zero]
  exact List.take_of_length_le (by rw [List.length_map]; exact Nat.le_refl _)
end Go.Fd

/-
  MARKING STRUCTS; WHETHER MARKS ARE HELD (printed by lawgen.py). Own work.
-/
namespace Go.Fd
set_option maxRecDepth 20000
end Go.Fd

/-
  HOW MANY MARKS A THING TAKES, AGAINST ITS SIZE (printed by lawgen.py). Own work.
-/
namespace Go.Fd
end Go.Fd

/-
  WHAT HOLDS OF THE HELPERS OF THE LAWS (printed by lawgen.py). Own work.
-/
namespace Go.Fd
set_option maxRecDepth 20000
theorem szN_le {n : Nat} {l : Int} (h : 0 ≤ l) : szN n l ≤ l := by unfold szN; split <;> omega
theorem szF_le {α : Type} {f : α → Int → Int} : ∀ (a : List α) (l : Int), (∀ x ∈ a, ∀ l : Int, 0 ≤ l → l ≤ 1048576 → f x l ≤ l) → 0 ≤ l → l ≤ 1048576 → szF f a l ≤ l
  | [], l, _, _, _ => Int.le_refl l
  | x :: r, l, hf, h0, h1 => by
    simp only [szF]
    have := hf x (by simp) l h0 h1
    split
    · omega
    · have h2 := szF_le r (f x l) (fun y hy => hf y (by simp [hy])) (by omega) (by omega)
      omega
theorem szL_le {α : Type} {f : α → Int → Int} (a : List α) {l : Int} (hf : ∀ x ∈ a, ∀ l : Int, 0 ≤ l → l ≤ 1048576 → f x l ≤ l) (h0 : 0 ≤ l) (h1 : l ≤ 1048576) : szL f a l ≤ l := by
  unfold szL
  split
  · omega
  · have := szF_le a (l - a.length) hf (by omega) (by omega)
    omega
theorem szTh_le {l m : Int} {g : Int → Int} (h0 : 0 ≤ l) (h : m ≤ l) (hg : 0 ≤ m → g m ≤ m) : szTh m g ≤ l := by
  unfold szTh
  split
  · omega
  · have := hg (by omega)
    omega
theorem g_szIntS : chkF Go.Proofs.Tryz.prog fid_laws_szIntS sz0 = true := by kernel_rfl
theorem sem_szIntS (a : List Int) (hl : a.length ≤ 9223372036854775807) (l : Int) (h0 : 0 ≤ l) (h1 : l ≤ 1048576) : szN a.length l ≤ l ∧ ∀ lvl S, Sem Go.Proofs.Tryz.prog fid_laws_szIntS lvl [.tr (.sl (rI a)), iI l] S (iI (szN a.length l)) S := by
  refine ⟨szN_le h0, fun lvl S => ?_⟩
  have := sem_sz0 g_szIntS (rI a) l (by simpa using hl) h0 h1 lvl S
  simpa using this
theorem g_szIntSS : chkF Go.Proofs.Tryz.prog fid_laws_szIntSS (szSl 1 none fid_laws_szIntS) = true := by kernel_rfl
theorem sem_szIntSS (a : (List (List Int))) (hl : a.length ≤ 9223372036854775807) (hb : ∀ y ∈ a, y.length ≤ 9223372036854775807) (l : Int) (h0 : 0 ≤ l) (h1 : l ≤ 1048576) : szL (fun x m => (szN x.length m)) a l ≤ l ∧ ∀ lvl S, Sem Go.Proofs.Tryz.prog fid_laws_szIntSS lvl [.tr (.sl (a.map (fun l => [Tr.sl (rI l)]))), iI l] S (iI (szL (fun x m => (szN x.length m)) a l)) S :=
  ⟨szL_le a (fun x hx l h0 h1 => (sem_szIntS x (hb x hx) l h0 h1).1) h0 h1, fun lvl S => sem_szS1 g_szIntSS (fun l => Tr.sl (rI l)) (fun x m => (szN x.length m)) a l hl h0 h1 (fun x hx l h0 h1 => sem_szIntS x (hb x hx) l h0 h1) lvl S⟩
theorem g_szIntA2S : chkF Go.Proofs.Tryz.prog fid_laws_szIntA2S sz0 = true := by kernel_rfl
theorem sem_szIntA2S (a : List (Int × Int)) (hl : a.length ≤ 9223372036854775807) (l : Int) (h0 : 0 ≤ l) (h1 : l ≤ 1048576) : szN a.length l ≤ l ∧ ∀ lvl S, Sem Go.Proofs.Tryz.prog fid_laws_szIntA2S lvl [.tr (.sl (a.map cA2)), iI l] S (iI (szN a.length l)) S := by
  refine ⟨szN_le h0, fun lvl S => ?_⟩
  have := sem_sz0 g_szIntA2S (a.map cA2) l (by simpa using hl) h0 h1 lvl S
  simpa using this
theorem sem_szSorting (x : TSorting) (hb : bdSorting 9223372036854775807 x) (l : Int) (h0 : 0 ≤ l) (h1 : l ≤ 1048576) : szSorting x l ≤ l ∧ ∀ lvl S, Sem Go.Proofs.Tryz.prog fid_laws_szSorting lvl [.ag ((cSorting x).map .tr), iI l] S (iI (szSorting x l)) S := by
  obtain ⟨b0, b1, b2, b3, b4, b5, b6⟩ := hb
  refine ⟨?_, fun lvl S => ?_⟩
  · unfold szSorting
    have q0 := sem_szIntS x.tops b0 _ h0 h1
    refine szTh_le h0 q0.1 (fun p0 => ?_)
    have r0 : _ ≤ (1048576 : Int) := Int.le_trans q0.1 h1
    have q1 := sem_szIntSS x.nest b1 b2 _ p0 r0
    refine szTh_le p0 q1.1 (fun p1 => ?_)
    have r1 : _ ≤ (1048576 : Int) := Int.le_trans q1.1 r0
    have q2 := sem_szIntSS x.sorts b3 b4 _ p1 r1
    refine szTh_le p1 q2.1 (fun p2 => ?_)
    have r2 : _ ≤ (1048576 : Int) := Int.le_trans q2.1 r1
    have q3 := sem_szIntS x.most b5 _ p2 r2
    refine szTh_le p2 q3.1 (fun p3 => ?_)
    have r3 : _ ≤ (1048576 : Int) := Int.le_trans q3.1 r2
    have q4 := sem_szIntA2S x.apart b6 _ p3 r3
    refine szTh_le p3 q4.1 (fun p4 => ?_)
    have r4 : _ ≤ (1048576 : Int) := Int.le_trans q4.1 r3
    exact Int.le_refl _
  · refine sem_of_chk k_laws_szSorting trivial ?_
    simp only [c_laws_szSorting, cSorting, List.map_cons, List.map_nil, EVA, ↓reduceIte, Nat.reduceEqDiff, Nat.reduceMul, reduceCtorEq, Nat.reduceAdd, Nat.reduceSub, Nat.reduceLeDiff, Nat.reduceLT, Int.reduceToNat, Int.reduceLE, Int.reduceLT, mens, men]
    unfold szSorting
    have q0 := sem_szIntS x.tops b0 l h0 h1
    refine kca_intro q0.2 ?_
    simp only [EVA, ↓reduceIte, Nat.reduceEqDiff, Nat.reduceMul, reduceCtorEq, Nat.reduceAdd, Nat.reduceSub, Nat.reduceLeDiff, Nat.reduceLT, Int.reduceToNat, Int.reduceLE, Int.reduceLT, mens, men]
    obtain ⟨l1, hl1⟩ : ∃ m : Int, m = (szN x.tops.length l) := ⟨_, rfl⟩
    have u1 : l1 ≤ l := by rw [hl1]; exact q0.1
    rw [← hl1]
    split
    · rename_i hn; rw [szTh, if_pos hn]
    rename_i hn0
    rw [szTh, if_neg hn0]
    have q1 := sem_szIntSS x.nest b1 b2 l1 (show 0 ≤ l1 by omega) (show l1 ≤ 1048576 by omega)
    refine kca_intro q1.2 ?_
    simp only [EVA, ↓reduceIte, Nat.reduceEqDiff, Nat.reduceMul, reduceCtorEq, Nat.reduceAdd, Nat.reduceSub, Nat.reduceLeDiff, Nat.reduceLT, Int.reduceToNat, Int.reduceLE, Int.reduceLT, mens, men]
    obtain ⟨l2, hl2⟩ : ∃ m : Int, m = (szL (fun x m => (szN x.length m)) x.nest l1) := ⟨_, rfl⟩
    have u2 : l2 ≤ l1 := by rw [hl2]; exact q1.1
    rw [← hl2]
    split
    · rename_i hn; rw [szTh, if_pos hn]
    rename_i hn1
    rw [szTh, if_neg hn1]
    have q2 := sem_szIntSS x.sorts b3 b4 l2 (show 0 ≤ l2 by omega) (show l2 ≤ 1048576 by omega)
    refine kca_intro q2.2 ?_
    simp only [EVA, ↓reduceIte, Nat.reduceEqDiff, Nat.reduceMul, reduceCtorEq, Nat.reduceAdd, Nat.reduceSub, Nat.reduceLeDiff, Nat.reduceLT, Int.reduceToNat, Int.reduceLE, Int.reduceLT, mens, men]
    obtain ⟨l3, hl3⟩ : ∃ m : Int, m = (szL (fun x m => (szN x.length m)) x.sorts l2) := ⟨_, rfl⟩
    have u3 : l3 ≤ l2 := by rw [hl3]; exact q2.1
    rw [← hl3]
    split
    · rename_i hn; rw [szTh, if_pos hn]
    rename_i hn2
    rw [szTh, if_neg hn2]
    have q3 := sem_szIntS x.most b5 l3 (show 0 ≤ l3 by omega) (show l3 ≤ 1048576 by omega)
    refine kca_intro q3.2 ?_
    simp only [EVA, ↓reduceIte, Nat.reduceEqDiff, Nat.reduceMul, reduceCtorEq, Nat.reduceAdd, Nat.reduceSub, Nat.reduceLeDiff, Nat.reduceLT, Int.reduceToNat, Int.reduceLE, Int.reduceLT, mens, men]
    obtain ⟨l4, hl4⟩ : ∃ m : Int, m = (szN x.most.length l3) := ⟨_, rfl⟩
    have u4 : l4 ≤ l3 := by rw [hl4]; exact q3.1
    rw [← hl4]
    split
    · rename_i hn; rw [szTh, if_pos hn]
    rename_i hn3
    rw [szTh, if_neg hn3]
    have q4 := sem_szIntA2S x.apart b6 l4 (show 0 ≤ l4 by omega) (show l4 ≤ 1048576 by omega)
    refine kca_intro q4.2 ?_
    simp only [EVA, ↓reduceIte, Nat.reduceEqDiff, Nat.reduceMul, reduceCtorEq, Nat.reduceAdd, Nat.reduceSub, Nat.reduceLeDiff, Nat.reduceLT, Int.reduceToNat, Int.reduceLE, Int.reduceLT, mens, men]
    obtain ⟨l5, hl5⟩ : ∃ m : Int, m = (szN x.apart.length l4) := ⟨_, rfl⟩
    have u5 : l5 ≤ l4 := by rw [hl5]; exact q4.1
    rw [← hl5]
    split
    · rename_i hn; rw [szTh, if_pos hn]
    rename_i hn4
    rw [szTh, if_neg hn4]
theorem sem_szControl (x : TControl) (hb : bdControl 9223372036854775807 x) (l : Int) (h0 : 0 ≤ l) (h1 : l ≤ 1048576) : szControl x l ≤ l ∧ ∀ lvl S, Sem Go.Proofs.Tryz.prog fid_laws_szControl lvl [.ag ((cControl x).map .tr), iI l] S (iI (szControl x l)) S := by
  have b0 : x.name.size ≤ 9223372036854775807 := hb
  refine ⟨?_, fun lvl S => ?_⟩
  · unfold szControl
    refine szTh_le h0 (m := l - x.name.size) (by omega) (fun p0 => ?_)
    have r0 : _ ≤ (1048576 : Int) := Int.le_trans (show l - x.name.size ≤ l by omega) h1
    exact Int.le_refl _
  · refine sem_of_chk k_laws_szControl trivial ?_
    simp only [c_laws_szControl, cControl, List.map_cons, List.map_nil, EVA, ↓reduceIte, Nat.reduceEqDiff, Nat.reduceMul, reduceCtorEq, Nat.reduceAdd, Nat.reduceSub, Nat.reduceLeDiff, Nat.reduceLT, Int.reduceToNat, Int.reduceLE, Int.reduceLT, mens, men]
    unfold szControl
    refine ⟨by rw [fits_i64]; omega, ?_⟩
    obtain ⟨l1, hl1⟩ : ∃ m : Int, m = l - x.name.size := ⟨_, rfl⟩
    have u1 : l1 ≤ l := by omega
    rw [← hl1]
    split
    · rename_i hn; rw [szTh, if_pos hn]
    rename_i hn0
    rw [szTh, if_neg hn0]
theorem g_szControlS : chkF Go.Proofs.Tryz.prog fid_laws_szControlS (szSl 3 (some 3) fid_laws_szControl) = true := by kernel_rfl
theorem sem_szControlS (a : List TControl) (hl : a.length ≤ 9223372036854775807) (hb : ∀ y ∈ a, bdControl 9223372036854775807 y) (l : Int) (h0 : 0 ≤ l) (h1 : l ≤ 1048576) : szL szControl a l ≤ l ∧ ∀ lvl S, Sem Go.Proofs.Tryz.prog fid_laws_szControlS lvl [.tr (.sl (a.map cControl)), iI l] S (iI (szL szControl a l)) S :=
  ⟨szL_le a (fun x hx l h0 h1 => (sem_szControl x (hb x hx) l h0 h1).1) h0 h1, fun lvl S => sem_szSl g_szControlS cControl szControl cControl_len a l hl h0 h1 (fun x hx l h0 h1 => sem_szControl x (hb x hx) l h0 h1) lvl S⟩
end Go.Fd

/-
  WHAT HOLDS OF THE HELPERS OF THE LAWS: eq.. (printed by lawgen.py). Own work.
-/
namespace Go.Fd
set_option maxRecDepth 20000
theorem g_eqIntS : chkF Go.Proofs.Tryz.prog fid_laws_eqIntS eqS1 = true := by kernel_rfl
theorem sem_eqIntS (a b : (List Int)) (ha : a.length ≤ 9223372036854775807) (lvl : Nat) (S : Sto) : Sem Go.Proofs.Tryz.prog fid_laws_eqIntS lvl [.tr (.sl (rI a)), .tr (.sl (rI b))] S (iB (decide (a = b))) S := sem_eqI g_eqIntS a b ha lvl S
theorem g_eqIntSS : chkF Go.Proofs.Tryz.prog fid_laws_eqIntSS (eqSl 1 none fid_laws_eqIntS) = true := by kernel_rfl
theorem sem_eqIntSS (a b : (List (List Int))) (ha : a.length ≤ 9223372036854775807) (ha2 : ∀ y ∈ a, y.length ≤ 9223372036854775807) (lvl : Nat) (S : Sto) : Sem Go.Proofs.Tryz.prog fid_laws_eqIntSS lvl [.tr (.sl (a.map (fun l => [Tr.sl (rI l)]))), .tr (.sl (b.map (fun l => [Tr.sl (rI l)])))] S (iB (decide (a = b))) S :=
  sem_eqSl1 g_eqIntSS (fun l => Tr.sl (rI l)) a b ha (fun x hx y _ lvl S => sem_eqIntS x y (ha2 x hx) lvl S) lvl S
theorem sem_eqIntA2 (x y : (Int × Int)) (lvl : Nat) (S : Sto) : Sem Go.Proofs.Tryz.prog fid_laws_eqIntA2 lvl [.ag ((cA2 x).map .tr), .ag ((cA2 y).map .tr)] S (iB (decide (x = y))) S := by
  refine sem_of_chk k_laws_eqIntA2 trivial ?_
  simp only [c_laws_eqIntA2, cA2, EVA, ↓reduceIte, Nat.reduceEqDiff, Nat.reduceMul, reduceCtorEq, Nat.reduceAdd, Nat.reduceSub, Nat.reduceLeDiff, Nat.reduceLT, Int.reduceToNat, Int.reduceLE, Int.reduceLT, mens, men]
  refine wp_count (α := Unit) 2 (fun j _ => ⟨lvl, [(2, .ta (cA2 x)), (3, .ta (cA2 y)), (5, iI j)], [], S⟩) (fun j _ => (cA2 x).take j = (cA2 y).take j) () ⟨by simp only [EVA, ↓reduceIte, Nat.reduceEqDiff, Nat.reduceMul, reduceCtorEq, Nat.reduceAdd, Nat.reduceSub, Nat.reduceLeDiff, Nat.reduceLT, Int.reduceToNat, Int.reduceLE, Int.reduceLT, mens, men], by (simp only [EVA, ↓reduceIte, Nat.reduceEqDiff, Nat.reduceMul, reduceCtorEq, Nat.reduceAdd, Nat.reduceSub, Nat.reduceLeDiff, Nat.reduceLT, Int.reduceToNat, Int.reduceLE, Int.reduceLT, mens, men]) <;> rfl⟩ rfl ?_
  intro j _ hj hA
  have hc : j = 0 ∨ j = 1 ∨ j = 2 := by omega
  rcases hc with rfl | rfl | rfl
  · simp only [cA2, Int.cast_ofNat_Int, Int.natCast_zero, Nat.zero_mul, Nat.one_mul, Nat.mul_one, EVA, ↓reduceIte, Nat.reduceEqDiff, Nat.reduceMul, reduceCtorEq, Nat.reduceAdd, Nat.reduceSub, Nat.reduceLeDiff, Nat.reduceLT, Int.reduceToNat, Int.reduceLE, Int.reduceLT, mens, men]
    refine ite_of (fun hne => ?_) (fun heq => ?_)
    · have : ¬ x = y := fun e => hne (by rw [e])
      simp [this]
    · refine ⟨by rw [fits_i64]; omega, cntJ_intro (N := 2) (k := 0) () (by omega) rfl ?_⟩
      simp [cA2] at hA ⊢
      simp_all
  · simp only [cA2, Int.cast_ofNat_Int, Int.natCast_zero, Nat.zero_mul, Nat.one_mul, Nat.mul_one, EVA, ↓reduceIte, Nat.reduceEqDiff, Nat.reduceMul, reduceCtorEq, Nat.reduceAdd, Nat.reduceSub, Nat.reduceLeDiff, Nat.reduceLT, Int.reduceToNat, Int.reduceLE, Int.reduceLT, mens, men]
    refine ite_of (fun hne => ?_) (fun heq => ?_)
    · have : ¬ x = y := fun e => hne (by rw [e])
      simp [this]
    · refine ⟨by rw [fits_i64]; omega, cntJ_intro (N := 2) (k := 1) () (by omega) rfl ?_⟩
      simp [cA2] at hA ⊢
      simp_all
  · simp only [cA2, Int.cast_ofNat_Int, EVA, ↓reduceIte, Nat.reduceEqDiff, Nat.reduceMul, reduceCtorEq, Nat.reduceAdd, Nat.reduceSub, Nat.reduceLeDiff, Nat.reduceLT, Int.reduceToNat, Int.reduceLE, Int.reduceLT, mens, men]
    have : x = y := by
      simp [cA2] at hA
      obtain ⟨x0, x1⟩ := x; obtain ⟨y0, y1⟩ := y
      simp_all
    simp [this]
theorem g_eqIntA2S : chkF Go.Proofs.Tryz.prog fid_laws_eqIntA2S (eqSl 2 (some 2) fid_laws_eqIntA2) = true := by kernel_rfl
theorem sem_eqIntA2S (a b : (List (Int × Int))) (ha : a.length ≤ 9223372036854775807) (lvl : Nat) (S : Sto) : Sem Go.Proofs.Tryz.prog fid_laws_eqIntA2S lvl [.tr (.sl (a.map cA2)), .tr (.sl (b.map cA2))] S (iB (decide (a = b))) S :=
  sem_eqSl g_eqIntA2S cA2 (fun _ => rfl) a b ha (fun x hx y _ lvl S => sem_eqIntA2 x y lvl S) lvl S
theorem sem_eqSorting (x y : TSorting) (hb : bdSorting 9223372036854775807 x) (lvl : Nat) (S : Sto) : Sem Go.Proofs.Tryz.prog fid_laws_eqSorting lvl [.ag ((cSorting x).map .tr), .ag ((cSorting y).map .tr)] S (iB (decide (x = y))) S := by
  obtain ⟨b0, b1, b2, b3, b4, b5, b6⟩ := hb
  refine sem_of_chk k_laws_eqSorting trivial ?_
  simp only [c_laws_eqSorting, cSorting, List.map_cons, List.map_nil, EVA, ↓reduceIte, Nat.reduceEqDiff, Nat.reduceMul, reduceCtorEq, Nat.reduceAdd, Nat.reduceSub, Nat.reduceLeDiff, Nat.reduceLT, Int.reduceToNat, Int.reduceLE, Int.reduceLT, mens, men]
  refine kca_intro (sem_eqIntS x.tops y.tops b0) ?_
  simp only [Bool.not_eq_true', EVA, ↓reduceIte, Nat.reduceEqDiff, Nat.reduceMul, reduceCtorEq, Nat.reduceAdd, Nat.reduceSub, Nat.reduceLeDiff, Nat.reduceLT, Int.reduceToNat, Int.reduceLE, Int.reduceLT, mens, men]
  refine ite_of (fun hne => ?_) (fun heq0 => ?_)
  · have : ¬ x = y := fun e => (by rw [e] at hne; simp at hne)
    simp [this]
  refine kca_intro (sem_eqIntSS x.nest y.nest b1 b2) ?_
  simp only [Bool.not_eq_true', EVA, ↓reduceIte, Nat.reduceEqDiff, Nat.reduceMul, reduceCtorEq, Nat.reduceAdd, Nat.reduceSub, Nat.reduceLeDiff, Nat.reduceLT, Int.reduceToNat, Int.reduceLE, Int.reduceLT, mens, men]
  refine ite_of (fun hne => ?_) (fun heq1 => ?_)
  · have : ¬ x = y := fun e => (by rw [e] at hne; simp at hne)
    simp [this]
  refine kca_intro (sem_eqIntSS x.sorts y.sorts b3 b4) ?_
  simp only [Bool.not_eq_true', EVA, ↓reduceIte, Nat.reduceEqDiff, Nat.reduceMul, reduceCtorEq, Nat.reduceAdd, Nat.reduceSub, Nat.reduceLeDiff, Nat.reduceLT, Int.reduceToNat, Int.reduceLE, Int.reduceLT, mens, men]
  refine ite_of (fun hne => ?_) (fun heq2 => ?_)
  · have : ¬ x = y := fun e => (by rw [e] at hne; simp at hne)
    simp [this]
  refine kca_intro (sem_eqIntS x.most y.most b5) ?_
  simp only [Bool.not_eq_true', EVA, ↓reduceIte, Nat.reduceEqDiff, Nat.reduceMul, reduceCtorEq, Nat.reduceAdd, Nat.reduceSub, Nat.reduceLeDiff, Nat.reduceLT, Int.reduceToNat, Int.reduceLE, Int.reduceLT, mens, men]
  refine ite_of (fun hne => ?_) (fun heq3 => ?_)
  · have : ¬ x = y := fun e => (by rw [e] at hne; simp at hne)
    simp [this]
  refine kca_intro (sem_eqIntA2S x.apart y.apart b6) ?_
  simp only [Bool.not_eq_true', EVA, ↓reduceIte, Nat.reduceEqDiff, Nat.reduceMul, reduceCtorEq, Nat.reduceAdd, Nat.reduceSub, Nat.reduceLeDiff, Nat.reduceLT, Int.reduceToNat, Int.reduceLE, Int.reduceLT, mens, men]
  refine ite_of (fun hne => ?_) (fun heq4 => ?_)
  · have : ¬ x = y := fun e => (by rw [e] at hne; simp at hne)
    simp [this]
  have : x = y := by
    cases x; cases y; simp_all
  simp [this]
theorem sem_eqControl (x y : TControl) (hb : bdControl 9223372036854775807 x) (lvl : Nat) (S : Sto) : Sem Go.Proofs.Tryz.prog fid_laws_eqControl lvl [.ag ((cControl x).map .tr), .ag ((cControl y).map .tr)] S (iB (decide (x = y))) S := by
  have b0 : x.name.size ≤ 9223372036854775807 := hb
  refine sem_of_chk k_laws_eqControl trivial ?_
  simp only [c_laws_eqControl, cControl, List.map_cons, List.map_nil, EVA, ↓reduceIte, Nat.reduceEqDiff, Nat.reduceMul, reduceCtorEq, Nat.reduceAdd, Nat.reduceSub, Nat.reduceLeDiff, Nat.reduceLT, Int.reduceToNat, Int.reduceLE, Int.reduceLT, mens, men]
  refine ite_of (fun hne => ?_) (fun heq0 => ?_)
  · have : ¬ x = y := fun e => (by rw [e] at hne; simp at hne)
    simp [this]
  refine ite_of (fun hne => ?_) (fun heq1 => ?_)
  · have : ¬ x = y := fun e => (by rw [e] at hne; simp at hne)
    simp [this]
  refine ite_of (fun hne => ?_) (fun heq2 => ?_)
  · have : ¬ x = y := fun e => (by rw [e] at hne; simp at hne)
    simp [this]
  have : x = y := by
    cases x; cases y; simp_all
  simp [this]
theorem g_eqControlS : chkF Go.Proofs.Tryz.prog fid_laws_eqControlS (eqSl 3 (some 3) fid_laws_eqControl) = true := by kernel_rfl
theorem sem_eqControlS (a b : (List TControl)) (ha : a.length ≤ 9223372036854775807) (ha2 : ∀ y ∈ a, bdControl 9223372036854775807 y) (lvl : Nat) (S : Sto) : Sem Go.Proofs.Tryz.prog fid_laws_eqControlS lvl [.tr (.sl (a.map cControl)), .tr (.sl (b.map cControl))] S (iB (decide (a = b))) S :=
  sem_eqSl g_eqControlS cControl (fun _ => rfl) a b ha (fun x hx y _ lvl S => sem_eqControl x y (ha2 x hx) lvl S) lvl S
end Go.Fd

/-
  WHAT HOLDS OF THE HELPERS OF THE LAWS: to.. (printed by lawgen.py). Own work.
-/
namespace Go.Fd
set_option maxRecDepth 20000
theorem g_toIntS : chkF Go.Proofs.Tryz.prog fid_laws_toIntS (toS1 (.int .i64 0)) = true := by kernel_rfl
theorem sem_toIntS (a : (List Int)) (ha : a.length ≤ 4294967296) (lvl : Nat) (S : Sto) : Sem Go.Proofs.Tryz.prog fid_laws_toIntS lvl [.tr (.sl (rI a))] S (.ow 1 (rI a) true) S := sem_toI g_toIntS a ha lvl S
theorem sem_toIntSS (a : (List (List Int))) (ha : a.length ≤ 4294967296) (hb : ∀ y ∈ a, y.length ≤ 4294967296) (lvl : Nat) (S : Sto) : Sem Go.Proofs.Tryz.prog fid_laws_toIntSS lvl [.tr (.sl (a.map (fun l => [Tr.sl (rI l)])))] S (.ow 1 (a.map (fun l => [Tr.sl (rI l)])) true) S := by
  refine sem_of_chk k_laws_toIntSS trivial ?_
  simp only [c_laws_toIntSS, List.length_map, bigN, Int.natCast_nonneg, EVA, ↓reduceIte, Nat.reduceEqDiff, Nat.reduceMul, reduceCtorEq, Nat.reduceAdd, Nat.reduceSub, Nat.reduceLeDiff, Nat.reduceLT, Int.reduceToNat, Int.reduceLE, Int.reduceLT, mens, men]
  refine ⟨by omega, ?_⟩
  refine wp_count (α := Unit) a.length (fun j _ => ⟨lvl, [(0, .tr (.sl (a.map (fun l => [Tr.sl (rI l)])))), (3, .hd (lvl, 224) [] 0 a.length none a.length), (4, iI j)], [(224, .ar 1 (filled (fun l => [Tr.sl (rI l)]) [.sl []] a j) true a.length (j * 1))], S⟩) (fun _ _ => True) () ⟨by simp only [EVA, ↓reduceIte, Nat.reduceEqDiff, Nat.reduceMul, reduceCtorEq, Nat.reduceAdd, Nat.reduceSub, Nat.reduceLeDiff, Nat.reduceLT, Int.reduceToNat, Int.reduceLE, Int.reduceLT, mens, men], by (simp only [filled_zero, EVA, ↓reduceIte, Nat.reduceEqDiff, Nat.reduceMul, reduceCtorEq, Nat.reduceAdd, Nat.reduceSub, Nat.reduceLeDiff, Nat.reduceLT, Int.reduceToNat, Int.reduceLE, Int.reduceLT, mens, men]) <;> rfl⟩ trivial ?_
  intro j _ hj _
  simp only [List.length_map, EVA, ↓reduceIte, Nat.reduceEqDiff, Nat.reduceMul, reduceCtorEq, Nat.reduceAdd, Nat.reduceSub, Nat.reduceLeDiff, Nat.reduceLT, Int.reduceToNat, Int.reduceLE, Int.reduceLT, mens, men]
  refine ite_of (fun hlt => ?_) (fun hge => ?_)
  · have hja : j < a.length := by omega
    have ga : (a.map (fun l => [Tr.sl (rI l)]))[j]? = some ((fun l => [Tr.sl (rI l)]) a[j]) := by simp [hja]
    have gz : (filled (fun l => [Tr.sl (rI l)]) [.sl []] a j)[j]? = some [.sl []] := filled_get hja
    have hfl : (filled (fun l => [Tr.sl (rI l)]) [.sl []] a j).length = a.length := filled_length hj
    have hsem := fun lvl S => sem_toIntS a[j] (hb a[j] (List.getElem_mem hja)) lvl S
    simp only [ga, gz, Int.natCast_nonneg, Nat.le_refl, hja, Nat.reduceLeDiff, EVA, ↓reduceIte, Nat.reduceEqDiff, Nat.reduceMul, reduceCtorEq, Nat.reduceAdd, Nat.reduceSub, Nat.reduceLT, Int.reduceToNat, Int.reduceLE, Int.reduceLT, mens, men]
    refine kca_intro hsem ?_
    simp only [gz, Int.natCast_nonneg, Nat.le_refl, hja, hfl, setp, List.getElem?_set_self, List.set_set, List.length_set, List.set_cons_zero, List.set_cons_succ, Prod.mk.injEq, ne_eq, not_false_eq_true, EVA, ↓reduceIte, Nat.reduceEqDiff, Nat.reduceMul, reduceCtorEq, Nat.reduceAdd, Nat.reduceSub, Nat.reduceLeDiff, Nat.reduceLT, Int.reduceToNat, Int.reduceLE, Int.reduceLT, mens, men]
    refine ⟨by rw [fits_i64]; omega, cntJ_intro () hja ?_ trivial⟩
    have hse := filled_set (c := (fun l => [Tr.sl (rI l)])) (z := [.sl []]) (e := [.sl (rI a[j])]) hja rfl
    rw [hse, show (j + 1) * 1 = j * 1 + 1 from by omega]
    rfl
  · have : j = a.length := by omega
    subst this
    rw [filled_all]
    simp
def oA2 (x : (Int × Int)) : IV := .ag [iI x.1, iI x.2]
theorem sem_toIntA2 (x : (Int × Int)) (lvl : Nat) (S : Sto) : Sem Go.Proofs.Tryz.prog fid_laws_toIntA2 lvl [.ag ((cA2 x).map .tr)] S (oA2 x) S := by
  refine sem_of_chk k_laws_toIntA2 (by simp [oA2, low, men, mens]) ?_
  simp only [c_laws_toIntA2, cA2, zfill, zobs, List.map_cons, List.map_nil, EVA, ↓reduceIte, Nat.reduceEqDiff, Nat.reduceMul, reduceCtorEq, Nat.reduceAdd, Nat.reduceSub, Nat.reduceLeDiff, Nat.reduceLT, Int.reduceToNat, Int.reduceLE, Int.reduceLT, mens, men]
  refine wp_count (α := Unit) 2 (fun j _ => ⟨lvl, [(1, .ta (cA2 x)), (2, .ab (lvl, 64) 0), (3, .ab (lvl, 96) 0), (4, iI j)], [(64, .bx [iI 0, iI 0]), (96, .bx ([iI x.1, iI x.2].take j ++ [iI 0, iI 0].drop j))], S⟩) (fun _ _ => True) () ⟨by simp only [EVA, ↓reduceIte, Nat.reduceEqDiff, Nat.reduceMul, reduceCtorEq, Nat.reduceAdd, Nat.reduceSub, Nat.reduceLeDiff, Nat.reduceLT, Int.reduceToNat, Int.reduceLE, Int.reduceLT, mens, men], by (simp only [EVA, ↓reduceIte, Nat.reduceEqDiff, Nat.reduceMul, reduceCtorEq, Nat.reduceAdd, Nat.reduceSub, Nat.reduceLeDiff, Nat.reduceLT, Int.reduceToNat, Int.reduceLE, Int.reduceLT, mens, men]) <;> rfl⟩ trivial ?_
  intro j _ hj _
  have hc : j = 0 ∨ j = 1 ∨ j = 2 := by omega
  rcases hc with rfl | rfl | rfl
  · simp only [cA2, Int.cast_ofNat_Int, Int.natCast_zero, Nat.zero_mul, Nat.one_mul, Nat.mul_one, r_setAt0, r_setAt1, List.set_cons_zero, List.set_cons_succ, EVA, ↓reduceIte, Nat.reduceEqDiff, Nat.reduceMul, reduceCtorEq, Nat.reduceAdd, Nat.reduceSub, Nat.reduceLeDiff, Nat.reduceLT, Int.reduceToNat, Int.reduceLE, Int.reduceLT, mens, men]
    exact ⟨by rw [fits_i64]; omega, cntJ_intro (N := 2) (k := 0) () (by omega) rfl trivial⟩
  · simp only [cA2, Int.cast_ofNat_Int, Int.natCast_zero, Nat.zero_mul, Nat.one_mul, Nat.mul_one, r_setAt0, r_setAt1, List.set_cons_zero, List.set_cons_succ, EVA, ↓reduceIte, Nat.reduceEqDiff, Nat.reduceMul, reduceCtorEq, Nat.reduceAdd, Nat.reduceSub, Nat.reduceLeDiff, Nat.reduceLT, Int.reduceToNat, Int.reduceLE, Int.reduceLT, mens, men]
    exact ⟨by rw [fits_i64]; omega, cntJ_intro (N := 2) (k := 1) () (by omega) rfl trivial⟩
  · simp only [cA2, Int.cast_ofNat_Int, r_setAt0, r_setAt1, List.set_cons_zero, List.set_cons_succ, EVA, ↓reduceIte, Nat.reduceEqDiff, Nat.reduceMul, reduceCtorEq, Nat.reduceAdd, Nat.reduceSub, Nat.reduceLeDiff, Nat.reduceLT, Int.reduceToNat, Int.reduceLE, Int.reduceLT, mens, men]
    rfl
theorem sem_toIntA2S (a : (List (Int × Int))) (ha : a.length ≤ 4294967296) (lvl : Nat) (S : Sto) : Sem Go.Proofs.Tryz.prog fid_laws_toIntA2S lvl [.tr (.sl (a.map cA2))] S (.ow 2 (a.map cA2) true) S := by
  refine sem_of_chk k_laws_toIntA2S trivial ?_
  simp only [c_laws_toIntA2S, List.length_map, bigN, Int.natCast_nonneg, EVA, ↓reduceIte, Nat.reduceEqDiff, Nat.reduceMul, reduceCtorEq, Nat.reduceAdd, Nat.reduceSub, Nat.reduceLeDiff, Nat.reduceLT, Int.reduceToNat, Int.reduceLE, Int.reduceLT, mens, men]
  refine ⟨by omega, ?_⟩
  refine wp_count (α := Unit) a.length (fun j _ => ⟨lvl, [(0, .tr (.sl (a.map cA2))), (3, .hd (lvl, 224) [] 0 a.length none a.length), (4, iI j)], [(224, .ar 2 (filled cA2 [tv 0, tv 0] a j) true a.length (j * 0))], S⟩) (fun _ _ => True) () ⟨by simp only [EVA, ↓reduceIte, Nat.reduceEqDiff, Nat.reduceMul, reduceCtorEq, Nat.reduceAdd, Nat.reduceSub, Nat.reduceLeDiff, Nat.reduceLT, Int.reduceToNat, Int.reduceLE, Int.reduceLT, mens, men], by (simp only [filled_zero, EVA, ↓reduceIte, Nat.reduceEqDiff, Nat.reduceMul, reduceCtorEq, Nat.reduceAdd, Nat.reduceSub, Nat.reduceLeDiff, Nat.reduceLT, Int.reduceToNat, Int.reduceLE, Int.reduceLT, mens, men]) <;> rfl⟩ trivial ?_
  intro j _ hj _
  simp only [List.length_map, EVA, ↓reduceIte, Nat.reduceEqDiff, Nat.reduceMul, reduceCtorEq, Nat.reduceAdd, Nat.reduceSub, Nat.reduceLeDiff, Nat.reduceLT, Int.reduceToNat, Int.reduceLE, Int.reduceLT, mens, men]
  refine ite_of (fun hlt => ?_) (fun hge => ?_)
  · have hja : j < a.length := by omega
    have ga : (a.map cA2)[j]? = some (cA2 a[j]) := by simp [hja]
    have gz : (filled cA2 [tv 0, tv 0] a j)[j]? = some [tv 0, tv 0] := filled_get hja
    have hfl : (filled cA2 [tv 0, tv 0] a j).length = a.length := filled_length hj
    have hsem := fun lvl S => sem_toIntA2 a[j] lvl S
    simp only [ga, gz, Int.natCast_nonneg, Nat.le_refl, hja, cA2, oA2, Nat.reduceLeDiff, EVA, ↓reduceIte, Nat.reduceEqDiff, Nat.reduceMul, reduceCtorEq, Nat.reduceAdd, Nat.reduceSub, Nat.reduceLT, Int.reduceToNat, Int.reduceLE, Int.reduceLT, mens, men]
    refine kca_intro hsem ?_
    simp only [oA2, gz, Int.natCast_nonneg, Nat.le_refl, hja, hfl, setp, List.getElem?_set_self, List.set_set, List.length_set, List.set_cons_zero, List.set_cons_succ, Prod.mk.injEq, ne_eq, not_false_eq_true, EVA, ↓reduceIte, Nat.reduceEqDiff, Nat.reduceMul, reduceCtorEq, Nat.reduceAdd, Nat.reduceSub, Nat.reduceLeDiff, Nat.reduceLT, Int.reduceToNat, Int.reduceLE, Int.reduceLT, mens, men]
    refine ⟨by rw [fits_i64]; omega, cntJ_intro () hja ?_ trivial⟩
    have hse := filled_set (c := cA2) (z := [tv 0, tv 0]) (e := [tv a[j].1, tv a[j].2]) hja rfl
    rw [hse, show (j + 1) * 0 = j * 0 from by omega]
    rfl
  · have : j = a.length := by omega
    subst this
    rw [filled_all]
    simp
theorem sem_toSorting (x : TSorting) (hb : bdSorting 4294967296 x) (lvl : Nat) (S : Sto) : Sem Go.Proofs.Tryz.prog fid_laws_toSorting lvl [.ag ((cSorting x).map .tr)] S (oSorting x) S := by
  obtain ⟨b0, b1, b2, b3, b4, b5, b6⟩ := hb
  refine sem_of_chk k_laws_toSorting (by simp [oSorting, low, men, mens]) ?_
  simp only [c_laws_toSorting, cSorting, zfill, zobs, List.map_cons, List.map_nil, r_setAt0, r_setAt1, List.set_cons_zero, List.set_cons_succ, EVA, ↓reduceIte, Nat.reduceEqDiff, Nat.reduceMul, reduceCtorEq, Nat.reduceAdd, Nat.reduceSub, Nat.reduceLeDiff, Nat.reduceLT, Int.reduceToNat, Int.reduceLE, Int.reduceLT, mens, men]
  refine kca_intro (sem_toIntS x.tops b0) ?_
  simp only [r_setAt0, r_setAt1, List.set_cons_zero, List.set_cons_succ, Prod.mk.injEq, EVA, ↓reduceIte, Nat.reduceEqDiff, Nat.reduceMul, reduceCtorEq, Nat.reduceAdd, Nat.reduceSub, Nat.reduceLeDiff, Nat.reduceLT, Int.reduceToNat, Int.reduceLE, Int.reduceLT, mens, men]
  refine kca_intro (sem_toIntSS x.nest b1 b2) ?_
  simp only [r_setAt0, r_setAt1, List.set_cons_zero, List.set_cons_succ, Prod.mk.injEq, EVA, ↓reduceIte, Nat.reduceEqDiff, Nat.reduceMul, reduceCtorEq, Nat.reduceAdd, Nat.reduceSub, Nat.reduceLeDiff, Nat.reduceLT, Int.reduceToNat, Int.reduceLE, Int.reduceLT, mens, men]
  refine kca_intro (sem_toIntSS x.sorts b3 b4) ?_
  simp only [r_setAt0, r_setAt1, List.set_cons_zero, List.set_cons_succ, Prod.mk.injEq, EVA, ↓reduceIte, Nat.reduceEqDiff, Nat.reduceMul, reduceCtorEq, Nat.reduceAdd, Nat.reduceSub, Nat.reduceLeDiff, Nat.reduceLT, Int.reduceToNat, Int.reduceLE, Int.reduceLT, mens, men]
  refine kca_intro (sem_toIntS x.most b5) ?_
  simp only [r_setAt0, r_setAt1, List.set_cons_zero, List.set_cons_succ, Prod.mk.injEq, EVA, ↓reduceIte, Nat.reduceEqDiff, Nat.reduceMul, reduceCtorEq, Nat.reduceAdd, Nat.reduceSub, Nat.reduceLeDiff, Nat.reduceLT, Int.reduceToNat, Int.reduceLE, Int.reduceLT, mens, men]
  refine kca_intro (sem_toIntA2S x.apart b6) ?_
  simp only [r_setAt0, r_setAt1, List.set_cons_zero, List.set_cons_succ, Prod.mk.injEq, EVA, ↓reduceIte, Nat.reduceEqDiff, Nat.reduceMul, reduceCtorEq, Nat.reduceAdd, Nat.reduceSub, Nat.reduceLeDiff, Nat.reduceLT, Int.reduceToNat, Int.reduceLE, Int.reduceLT, mens, men]
  rfl
theorem sem_toControl (x : TControl) (hb : bdControl 4294967296 x) (lvl : Nat) (S : Sto) : Sem Go.Proofs.Tryz.prog fid_laws_toControl lvl [.ag ((cControl x).map .tr)] S (oControl x) S := by
  have b0 : x.name.size ≤ 4294967296 := hb
  refine sem_of_chk k_laws_toControl (by simp [oControl, low, men, mens]) ?_
  simp only [c_laws_toControl, cControl, zfill, zobs, List.map_cons, List.map_nil, r_setAt0, r_setAt1, List.set_cons_zero, List.set_cons_succ, EVA, ↓reduceIte, Nat.reduceEqDiff, Nat.reduceMul, reduceCtorEq, Nat.reduceAdd, Nat.reduceSub, Nat.reduceLeDiff, Nat.reduceLT, Int.reduceToNat, Int.reduceLE, Int.reduceLT, mens, men]
  rfl
theorem sem_toControlS (a : (List TControl)) (ha : a.length ≤ 4294967296) (hb : ∀ y ∈ a, bdControl 4294967296 y) (lvl : Nat) (S : Sto) : Sem Go.Proofs.Tryz.prog fid_laws_toControlS lvl [.tr (.sl (a.map cControl))] S (.ow 3 (a.map cControl) true) S := by
  refine sem_of_chk k_laws_toControlS trivial ?_
  simp only [c_laws_toControlS, List.length_map, bigN, Int.natCast_nonneg, EVA, ↓reduceIte, Nat.reduceEqDiff, Nat.reduceMul, reduceCtorEq, Nat.reduceAdd, Nat.reduceSub, Nat.reduceLeDiff, Nat.reduceLT, Int.reduceToNat, Int.reduceLE, Int.reduceLT, mens, men]
  refine ⟨by omega, ?_⟩
  refine wp_count (α := Unit) a.length (fun j _ => ⟨lvl, [(0, .tr (.sl (a.map cControl))), (3, .hd (lvl, 224) [] 0 a.length none a.length), (4, iI j)], [(224, .ar 3 (filled cControl [ts ⟨#[]⟩, tv 0, tv 0] a j) true a.length (j * 0))], S⟩) (fun _ _ => True) () ⟨by simp only [EVA, ↓reduceIte, Nat.reduceEqDiff, Nat.reduceMul, reduceCtorEq, Nat.reduceAdd, Nat.reduceSub, Nat.reduceLeDiff, Nat.reduceLT, Int.reduceToNat, Int.reduceLE, Int.reduceLT, mens, men], by (simp only [filled_zero, EVA, ↓reduceIte, Nat.reduceEqDiff, Nat.reduceMul, reduceCtorEq, Nat.reduceAdd, Nat.reduceSub, Nat.reduceLeDiff, Nat.reduceLT, Int.reduceToNat, Int.reduceLE, Int.reduceLT, mens, men]) <;> rfl⟩ trivial ?_
  intro j _ hj _
  simp only [List.length_map, EVA, ↓reduceIte, Nat.reduceEqDiff, Nat.reduceMul, reduceCtorEq, Nat.reduceAdd, Nat.reduceSub, Nat.reduceLeDiff, Nat.reduceLT, Int.reduceToNat, Int.reduceLE, Int.reduceLT, mens, men]
  refine ite_of (fun hlt => ?_) (fun hge => ?_)
  · have hja : j < a.length := by omega
    have ga : (a.map cControl)[j]? = some (cControl a[j]) := by simp [hja]
    have gz : (filled cControl [ts ⟨#[]⟩, tv 0, tv 0] a j)[j]? = some [ts ⟨#[]⟩, tv 0, tv 0] := filled_get hja
    have hfl : (filled cControl [ts ⟨#[]⟩, tv 0, tv 0] a j).length = a.length := filled_length hj
    have hsem := fun lvl S => sem_toControl a[j] (hb a[j] (List.getElem_mem hja)) lvl S
    simp only [ga, gz, Int.natCast_nonneg, Nat.le_refl, hja, cControl, oControl, Nat.reduceLeDiff, EVA, ↓reduceIte, Nat.reduceEqDiff, Nat.reduceMul, reduceCtorEq, Nat.reduceAdd, Nat.reduceSub, Nat.reduceLT, Int.reduceToNat, Int.reduceLE, Int.reduceLT, mens, men]
    refine kca_intro hsem ?_
    simp only [oControl, gz, Int.natCast_nonneg, Nat.le_refl, hja, hfl, setp, List.getElem?_set_self, List.set_set, List.length_set, List.set_cons_zero, List.set_cons_succ, Prod.mk.injEq, ne_eq, not_false_eq_true, EVA, ↓reduceIte, Nat.reduceEqDiff, Nat.reduceMul, reduceCtorEq, Nat.reduceAdd, Nat.reduceSub, Nat.reduceLeDiff, Nat.reduceLT, Int.reduceToNat, Int.reduceLE, Int.reduceLT, mens, men]
    refine ⟨by rw [fits_i64]; omega, cntJ_intro () hja ?_ trivial⟩
    have hse := filled_set (c := cControl) (z := [ts ⟨#[]⟩, tv 0, tv 0]) (e := [ts a[j].name, tv a[j].ports, tv a[j].kind_]) hja rfl
    rw [hse, show (j + 1) * 0 = j * 0 from by omega]
    rfl
  · have : j = a.length := by omega
    subst this
    rw [filled_all]
    simp
end Go.Fd

/-
  WHAT THE LAW OF SortingText LEANS ON. Own work.
-/

/-
  THE LAW OF SortingText (printed by lawtext.py). Own work.
-/
namespace Go.Fd
set_option maxRecDepth 20000
theorem sem_FnExactSortingText (x0 : (List TControl)) (x1 : TSorting) (hb0_0 : x0.length ≤ 9223372036854775807) (hb0_1 : ∀ y ∈ x0, bdControl 9223372036854775807 y) (hb1_0 : bdSorting 9223372036854775807 x1) (lvl : Nat) (S : Sto) : Sem Go.Proofs.Tryz.prog fid_laws_FnExactSortingText lvl [.tr (.sl (x0.map cControl)), .ag ((cSorting x1).map .tr)] S (iB true) S := by
  refine sem_of_chk k_laws_FnExactSortingText trivial ?_
  simp only [c_laws_FnExactSortingText, List.length_map, cut_map, cut_mL, mL_length, ne_eq, not_true_eq_false, bne_self_eq_false, cSorting, oSorting, EVA, ↓reduceIte, Nat.reduceEqDiff, Nat.reduceMul, reduceCtorEq, Nat.reduceAdd, Nat.reduceSub, Nat.reduceLeDiff, Nat.reduceLT, Int.reduceToNat, Int.reduceLE, Int.reduceLT, mens, men]
  have ul : (1048576 : Int) ≤ 1048576 := Int.le_refl _
  obtain ⟨_, ha0⟩ := sem_szControlS x0 hb0_0 hb0_1 (1048576) (by omega) (by omega)
  refine kca_intro ha0 ?_
  simp only [List.length_map, cut_map, cut_mL, mL_length, ne_eq, not_true_eq_false, bne_self_eq_false, cSorting, oSorting, EVA, ↓reduceIte, Nat.reduceEqDiff, Nat.reduceMul, reduceCtorEq, Nat.reduceAdd, Nat.reduceSub, Nat.reduceLeDiff, Nat.reduceLT, Int.reduceToNat, Int.reduceLE, Int.reduceLT, mens, men]
  refine ite_of (fun _ => trivial) (fun hz0 => ?_)
  have zp0 := (Zm_L (f := szControl) (fun y => (zpControl y)) x0) (1048576) (by omega) (by omega)
  simp only at zp0
  have hp0 := zp0.2 (by omega)
  obtain ⟨hs0_0, hs0_1⟩ := hp0
  obtain ⟨_, ha1⟩ := sem_szSorting x1 hb1_0 (szL szControl x0 (1048576)) (by omega) (by omega)
  refine kca_intro ha1 ?_
  simp only [List.length_map, cut_map, cut_mL, mL_length, ne_eq, not_true_eq_false, bne_self_eq_false, cSorting, oSorting, EVA, ↓reduceIte, Nat.reduceEqDiff, Nat.reduceMul, reduceCtorEq, Nat.reduceAdd, Nat.reduceSub, Nat.reduceLeDiff, Nat.reduceLT, Int.reduceToNat, Int.reduceLE, Int.reduceLT, mens, men]
  refine ite_of (fun _ => trivial) (fun hz1 => ?_)
  have zp1 := (zpSorting x1) (szL szControl x0 (1048576)) (by omega) (by omega)
  simp only at zp1
  have hp1 := zp1.2 (by omega)
  have hs1_0 := hp1
  refine kca_intro (sem_toControlS x0 hs0_0 hs0_1) ?_
  simp only [List.length_map, cut_map, cut_mL, mL_length, ne_eq, not_true_eq_false, bne_self_eq_false, cSorting, oSorting, EVA, ↓reduceIte, Nat.reduceEqDiff, Nat.reduceMul, reduceCtorEq, Nat.reduceAdd, Nat.reduceSub, Nat.reduceLeDiff, Nat.reduceLT, Int.reduceToNat, Int.reduceLE, Int.reduceLT, mens, men]
  refine kca_intro (sem_toSorting x1 hs1_0) ?_
  simp only [List.length_map, cut_map, cut_mL, mL_length, ne_eq, not_true_eq_false, bne_self_eq_false, cSorting, oSorting, EVA, ↓reduceIte, Nat.reduceEqDiff, Nat.reduceMul, reduceCtorEq, Nat.reduceAdd, Nat.reduceSub, Nat.reduceLeDiff, Nat.reduceLT, Int.reduceToNat, Int.reduceLE, Int.reduceLT, mens, men]
  refine kca_intro (sem_spec_SortingText x0 x1 hs0_0 hs0_1 hs1_0) ?_
  simp only [List.length_map, cut_map, cut_mL, mL_length, ne_eq, not_true_eq_false, bne_self_eq_false, cSorting, oSorting, EVA, ↓reduceIte, Nat.reduceEqDiff, Nat.reduceMul, reduceCtorEq, Nat.reduceAdd, Nat.reduceSub, Nat.reduceLeDiff, Nat.reduceLT, Int.reduceToNat, Int.reduceLE, Int.reduceLT, mens, men]
  refine kca_intro (sem_toControlS x0 hs0_0 hs0_1) ?_
  simp only [List.length_map, cut_map, cut_mL, mL_length, ne_eq, not_true_eq_false, bne_self_eq_false, cSorting, oSorting, EVA, ↓reduceIte, Nat.reduceEqDiff, Nat.reduceMul, reduceCtorEq, Nat.reduceAdd, Nat.reduceSub, Nat.reduceLeDiff, Nat.reduceLT, Int.reduceToNat, Int.reduceLE, Int.reduceLT, mens, men]
  refine kca_intro (sem_toSorting x1 hs1_0) ?_
  simp only [List.length_map, cut_map, cut_mL, mL_length, ne_eq, not_true_eq_false, bne_self_eq_false, cSorting, oSorting, EVA, ↓reduceIte, Nat.reduceEqDiff, Nat.reduceMul, reduceCtorEq, Nat.reduceAdd, Nat.reduceSub, Nat.reduceLeDiff, Nat.reduceLT, Int.reduceToNat, Int.reduceLE, Int.reduceLT, mens, men]
  refine kca_intro (sem_impl_SortingText x0 x1 hs0_0 hs0_1 hs1_0) ?_
  simp only [List.length_map, cut_map, cut_mL, mL_length, ne_eq, not_true_eq_false, bne_self_eq_false, cSorting, oSorting, EVA, ↓reduceIte, Nat.reduceEqDiff, Nat.reduceMul, reduceCtorEq, Nat.reduceAdd, Nat.reduceSub, Nat.reduceLeDiff, Nat.reduceLT, Int.reduceToNat, Int.reduceLE, Int.reduceLT, mens, men]
  refine kca_intro (sem_toControlS x0 hs0_0 hs0_1) ?_
  simp only [List.length_map, cut_map, cut_mL, mL_length, ne_eq, not_true_eq_false, bne_self_eq_false, cSorting, oSorting, EVA, ↓reduceIte, Nat.reduceEqDiff, Nat.reduceMul, reduceCtorEq, Nat.reduceAdd, Nat.reduceSub, Nat.reduceLeDiff, Nat.reduceLT, Int.reduceToNat, Int.reduceLE, Int.reduceLT, mens, men]
  refine kca_intro (sem_eqControlS x0 x0 hb0_0 hb0_1) ?_
  simp only [List.length_map, cut_map, cut_mL, mL_length, ne_eq, not_true_eq_false, bne_self_eq_false, cSorting, oSorting, EVA, ↓reduceIte, Nat.reduceEqDiff, Nat.reduceMul, reduceCtorEq, Nat.reduceAdd, Nat.reduceSub, Nat.reduceLeDiff, Nat.reduceLT, Int.reduceToNat, Int.reduceLE, Int.reduceLT, mens, men]
  refine kca_intro (sem_toSorting x1 hs1_0) ?_
  simp only [List.length_map, cut_map, cut_mL, mL_length, ne_eq, not_true_eq_false, bne_self_eq_false, cSorting, oSorting, EVA, ↓reduceIte, Nat.reduceEqDiff, Nat.reduceMul, reduceCtorEq, Nat.reduceAdd, Nat.reduceSub, Nat.reduceLeDiff, Nat.reduceLT, Int.reduceToNat, Int.reduceLE, Int.reduceLT, mens, men]
  refine kca_intro (sem_eqSorting x1 x1 hb1_0) ?_
  simp only [List.length_map, cut_map, cut_mL, mL_length, ne_eq, not_true_eq_false, bne_self_eq_false, cSorting, oSorting, EVA, ↓reduceIte, Nat.reduceEqDiff, Nat.reduceMul, reduceCtorEq, Nat.reduceAdd, Nat.reduceSub, Nat.reduceLeDiff, Nat.reduceLT, Int.reduceToNat, Int.reduceLE, Int.reduceLT, mens, men]
end Go.Fd

/-
  WHAT THE LAWS' ARGUMENTS READ AS (printed by lawgen.py). Own work.
-/
namespace Go.Fd
set_option maxRecDepth 20000
theorem rd_9 : Reads Go.Proofs.Tryz.prog 9 (fun n : ByteArray => [ts n]) (fun n => n.size ≤ 9223372036854775807) := Reads_string Go.Proofs.Tryz.underlying9
theorem rd_3 : Reads Go.Proofs.Tryz.prog 3 (fun n : Int => [tv n]) (fits .i64) := Reads_int Go.Proofs.Tryz.underlying3
theorem rd_46 : Reads Go.Proofs.Tryz.prog 46 cControl (fun x => bdControl 9223372036854775807 x ∧ ftControl x) := Reads_mp (Reads_struct Go.Proofs.Tryz.underlying46 (show ReadsP Go.Proofs.Tryz.prog 0 [(0, 9), (1, 3), (2, 3)] _ _ from (ReadsP_cons (k := 1) (by kernel_rfl) (fun _ => rfl) rd_9 (ReadsP_cons (k := 1) (by kernel_rfl) (fun _ => rfl) rd_3 (ReadsP_cons (k := 1) (by kernel_rfl) (fun _ => rfl) rd_3 ReadsP_nil))))) (fun p => TControl.mk p.1 p.2.1 p.2.2.1) (fun _ => rfl) (fun x h => ⟨h.1, ⟨h.2.1, h.2.2.1⟩⟩)
theorem rd_22 : Reads Go.Proofs.Tryz.prog 22 (fun l : List TControl => [Tr.sl (l.map cControl)]) (fun l => l.length ≤ 9223372036854775807 ∧ ∀ x ∈ l, (fun x => bdControl 9223372036854775807 x ∧ ftControl x) x) := Reads_slice (k := 2) Go.Proofs.Tryz.underlying22 (by kernel_rfl) (fun _ => rfl) rd_46
theorem rd_23 : Reads Go.Proofs.Tryz.prog 23 (fun l : List Int => [Tr.sl (l.map (fun n : Int => [tv n]))]) (fun l => l.length ≤ 9223372036854775807 ∧ ∀ x ∈ l, (fits .i64) x) := Reads_slice (k := 0) Go.Proofs.Tryz.underlying23 (by kernel_rfl) (fun _ => rfl) rd_3
theorem rd_24 : Reads Go.Proofs.Tryz.prog 24 (fun l : List (List Int) => [Tr.sl (l.map (fun l : List Int => [Tr.sl (l.map (fun n : Int => [tv n]))]))]) (fun l => l.length ≤ 9223372036854775807 ∧ ∀ x ∈ l, (fun l => l.length ≤ 9223372036854775807 ∧ ∀ x ∈ l, (fits .i64) x) x) := Reads_slice (k := 0) Go.Proofs.Tryz.underlying24 (by kernel_rfl) (fun _ => rfl) rd_23
theorem rd_66 : Reads Go.Proofs.Tryz.prog 66 cA2 (fun x => fits .i64 x.1 ∧ fits .i64 x.2) := Reads_mp (Reads_array1 (k := 1) Go.Proofs.Tryz.underlying66 (by kernel_rfl) (show ReadsP Go.Proofs.Tryz.prog 0 [(0, 3), (1, 3)] _ _ from (ReadsP_cons (k := 1) (by kernel_rfl) (fun _ => rfl) rd_3 (ReadsP_cons (k := 1) (by kernel_rfl) (fun _ => rfl) rd_3 ReadsP_nil)))) (fun p => (p.1, p.2.1)) (fun _ => rfl) (fun x h => ⟨h.1, h.2.1⟩)
theorem rd_25 : Reads Go.Proofs.Tryz.prog 25 (fun l : List (Int × Int) => [Tr.sl (l.map cA2)]) (fun l => l.length ≤ 9223372036854775807 ∧ ∀ x ∈ l, (fun x => fits .i64 x.1 ∧ fits .i64 x.2) x) := Reads_slice (k := 1) Go.Proofs.Tryz.underlying25 (by kernel_rfl) (fun _ => rfl) rd_66
theorem rd_27 : Reads Go.Proofs.Tryz.prog 27 cSorting (fun x => bdSorting 9223372036854775807 x ∧ ftSorting x) := Reads_mp (Reads_struct Go.Proofs.Tryz.underlying27 (show ReadsP Go.Proofs.Tryz.prog 0 [(0, 23), (1, 24), (2, 24), (3, 23), (4, 25)] _ _ from (ReadsP_cons (k := 1) (by kernel_rfl) (fun _ => rfl) rd_23 (ReadsP_cons (k := 1) (by kernel_rfl) (fun _ => rfl) rd_24 (ReadsP_cons (k := 1) (by kernel_rfl) (fun _ => rfl) rd_24 (ReadsP_cons (k := 1) (by kernel_rfl) (fun _ => rfl) rd_23 (ReadsP_cons (k := 1) (by kernel_rfl) (fun _ => rfl) rd_25 ReadsP_nil))))))) (fun p => TSorting.mk p.1 p.2.1 p.2.2.1 p.2.2.2.1 p.2.2.2.2.1) (fun _ => rfl) (fun x h => ⟨⟨h.1.1, h.2.1.1, (fun y hy => (h.2.1.2 y hy).1), h.2.2.1.1, (fun y hy => (h.2.2.1.2 y hy).1), h.2.2.2.1.1, h.2.2.2.2.1.1⟩, ⟨(fun y hy => (h.1.2 y hy)), (fun y hy => (fun yy hyy => ((h.2.1.2 y hy).2 yy hyy))), (fun y hy => (fun yy hyy => ((h.2.2.1.2 y hy).2 yy hyy))), (fun y hy => (h.2.2.2.1.2 y hy)), (fun y hy => ⟨(h.2.2.2.2.1.2 y hy).1, (h.2.2.2.2.1.2 y hy).2⟩)⟩⟩)
end Go.Fd
