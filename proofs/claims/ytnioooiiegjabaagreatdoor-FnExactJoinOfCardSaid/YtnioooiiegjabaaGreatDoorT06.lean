/-
  A VALID SORTING, THE PROGRAM'S SIDE. Own work.
-/
import Derived.Test.YtnioooiiegjabaaGreatDoorT05
import Derived.KernelRfl
set_option linter.all false
namespace Go.Fd
set_option maxRecDepth 20000

def cmp2 (a b : A2) : Int := cmpL [a.1, a.2] [b.1, b.2]

theorem cmp2_lt {a b : A2} : cmp2 a b < 0 ↔ lt2 a b := by
  unfold cmp2 lt2
  simp only [cmpL]
  by_cases h1 : a.1 < b.1
  · simp [h1]
  · by_cases h2 : b.1 < a.1
    · simp [h1, h2]; omega
    · by_cases h3 : a.2 < b.2
      · simp [h1, h2, h3]; omega
      · by_cases h4 : b.2 < a.2 <;> simp [h1, h2, h3, h4]

theorem sem_comparePairs (a b : A2) (lvl : Nat) (S : Sto) : Sem Go.Proofs.Tryz.prog fid_impl_comparePairs lvl [.ag ((cA2 a).map .tr), .ag ((cA2 b).map .tr)] S (iI (cmp2 a b)) S := by
  refine sem_of_chk k_impl_comparePairs trivial ?_
  simp only [c_impl_comparePairs, cA2, EVA, ↓reduceIte, Nat.reduceEqDiff, Nat.reduceMul, reduceCtorEq, Nat.reduceAdd, Nat.reduceSub, Nat.reduceLeDiff, Nat.reduceLT, Int.reduceToNat, Int.reduceLE, Int.reduceLT, mens, men]
  refine kca_intro (sem_Compare [a.1, a.2] [b.1, b.2] (by simp) (by simp)) ?_
  simp only [EVA, ↓reduceIte, Nat.reduceEqDiff, Nat.reduceMul, reduceCtorEq, Nat.reduceAdd, Nat.reduceSub, Nat.reduceLeDiff, Nat.reduceLT, Int.reduceToNat, Int.reduceLE, Int.reduceLT, mens, men]
  rfl

def apartOK (l : List A2) (many : Nat) : Prop := ∀ i, apartAt l many i

theorem sem_arePairs (l : List A2) (many : Nat) (hm : many ≤ 4294967296) (hl : l.length ≤ 4294967296) (lvl : Nat) (S : Sto) : Sem Go.Proofs.Tryz.prog fid_impl_arePairs lvl [.tr (.sl (l.map cA2)), iI many] S (iB (dc (apartOK l many))) S := by
  refine sem_of_chk k_impl_arePairs trivial ?_
  simp only [c_impl_arePairs, List.length_map, EVA, ↓reduceIte, Nat.reduceEqDiff, Nat.reduceMul, reduceCtorEq, Nat.reduceAdd, Nat.reduceSub, Nat.reduceLeDiff, Nat.reduceLT, Int.reduceToNat, Int.reduceLE, Int.reduceLT, mens, men]
  refine wp_cnt (α := Unit) l.length (fun j _ => [(9, iI j)]) (fun j _ => []) (fun j _ => ∀ k, k < j → apartAt l many k) () (by simp only [EVA, ↓reduceIte, Nat.reduceEqDiff, Nat.reduceMul, reduceCtorEq, Nat.reduceAdd, Nat.reduceSub, Nat.reduceLeDiff, Nat.reduceLT, Int.reduceToNat, Int.reduceLE, Int.reduceLT, mens, men]) (by (simp only [EVA, ↓reduceIte, Nat.reduceEqDiff, Nat.reduceMul, reduceCtorEq, Nat.reduceAdd, Nat.reduceSub, Nat.reduceLeDiff, Nat.reduceLT, Int.reduceToNat, Int.reduceLE, Int.reduceLT, mens, men]) <;> rfl) (fun k hk => absurd hk (Nat.not_lt_zero k)) ?_
  intro j _ hj hB
  simp only [List.length_map, EVA, ↓reduceIte, Nat.reduceEqDiff, Nat.reduceMul, reduceCtorEq, Nat.reduceAdd, Nat.reduceSub, Nat.reduceLeDiff, Nat.reduceLT, Int.reduceToNat, Int.reduceLE, Int.reduceLT, mens, men]
  refine ite_of (fun hlt => ?_) (fun hge => ?_)
  · have hja : j < l.length := by omega
    have ga := getA (c := cA2) hja
    have hno : ¬ apartAt l many j → dc (apartOK l many) = false := fun h => dc_false fun g => h (g j)
    simp only [ga, List.length_map, cA2, EVA, ↓reduceIte, Nat.reduceEqDiff, Nat.reduceMul, reduceCtorEq, Nat.reduceAdd, Nat.reduceSub, Nat.reduceLeDiff, Nat.reduceLT, Int.reduceToNat, Int.reduceLE, Int.reduceLT, mens, men]
    refine kca_intro (sem_within l[j].1 0 (IntKind.wrap .i64 (l[j].2 - 1))) ?_
    cases p1 : inB l[j].1 0 (IntKind.wrap .i64 (l[j].2 - 1))
    · simp only [EVA, ↓reduceIte, Nat.reduceEqDiff, Nat.reduceMul, reduceCtorEq, Nat.reduceAdd, Nat.reduceSub, Nat.reduceLeDiff, Nat.reduceLT, Int.reduceToNat, Int.reduceLE, Int.reduceLT, mens, men]
      rw [hno fun h => inB_not.1 p1 (by
        have h2 := h hja
        rw [wrap_fits (by rw [fits_i64]; omega)]
        omega)]
    simp only [ga, List.length_map, cA2, EVA, ↓reduceIte, Nat.reduceEqDiff, Nat.reduceMul, reduceCtorEq, Nat.reduceAdd, Nat.reduceSub, Nat.reduceLeDiff, Nat.reduceLT, Int.reduceToNat, Int.reduceLE, Int.reduceLT, mens, men]
    refine ⟨by rw [fits_i64]; omega, ?_⟩
    refine kca_intro (sem_within l[j].2 0 ((many : Int) - 1)) ?_
    cases p2 : inB l[j].2 0 ((many : Int) - 1)
    · simp only [EVA, ↓reduceIte, Nat.reduceEqDiff, Nat.reduceMul, reduceCtorEq, Nat.reduceAdd, Nat.reduceSub, Nat.reduceLeDiff, Nat.reduceLT, Int.reduceToNat, Int.reduceLE, Int.reduceLT, mens, men]
      rw [hno fun h => inB_not.1 p2 (by
        have h2 := h hja
        omega)]
    have r2 := inB_iff.1 p2
    have r1 := inB_iff.1 p1
    rw [wrap_fits (by rw [fits_i64]; omega)] at r1
    by_cases q4 : 0 < j
    · have e1 : ((j : Int) - 1).toNat = j - 1 := by omega
      have e2 : (0 : Int) ≤ j - 1 := by omega
      have q5 : (0 : Int) < j := by omega
      have gb := getA (c := cA2) (l := l) (j := j - 1) (by omega)
      simp only [q5, e1, e2, ga, gb, List.length_map, cA2, EVA, ↓reduceIte, Nat.reduceEqDiff, Nat.reduceMul, reduceCtorEq, Nat.reduceAdd, Nat.reduceSub, Nat.reduceLeDiff, Nat.reduceLT, Int.reduceToNat, Int.reduceLE, Int.reduceLT, mens, men]
      refine ⟨by rw [fits_i64]; omega, ?_⟩
      refine kca_intro (sem_comparePairs (l[j - 1]'(by omega)) l[j]) ?_
      by_cases hc : 0 ≤ cmp2 (l[j - 1]'(by omega)) l[j]
      · simp only [hc, EVA, ↓reduceIte, Nat.reduceEqDiff, Nat.reduceMul, reduceCtorEq, Nat.reduceAdd, Nat.reduceSub, Nat.reduceLeDiff, Nat.reduceLT, Int.reduceToNat, Int.reduceLE, Int.reduceLT, mens, men]
        rw [hno fun h => by
          have := cmp2_lt.2 ((h hja).2.2.2 q4)
          omega]
      · have hc2 : cmp2 (l[j - 1]'(by omega)) l[j] < 0 := by omega
        simp only [hc, EVA, ↓reduceIte, Nat.reduceEqDiff, Nat.reduceMul, reduceCtorEq, Nat.reduceAdd, Nat.reduceSub, Nat.reduceLeDiff, Nat.reduceLT, Int.reduceToNat, Int.reduceLE, Int.reduceLT, mens, men]
        exact ⟨by rw [fits_i64]; omega, cntJ_intro () hja rfl (all_succ hB fun _ => ⟨by omega, by omega, by omega, fun _ => cmp2_lt.1 hc2⟩)⟩
    · have q5 : ¬ (0 : Int) < j := by omega
      simp only [q5, ga, List.length_map, cA2, EVA, ↓reduceIte, Nat.reduceEqDiff, Nat.reduceMul, reduceCtorEq, Nat.reduceAdd, Nat.reduceSub, Nat.reduceLeDiff, Nat.reduceLT, Int.reduceToNat, Int.reduceLE, Int.reduceLT, mens, men]
      exact ⟨by rw [fits_i64]; omega, cntJ_intro () hja rfl (all_succ hB fun _ => ⟨by omega, by omega, by omega, fun h => absurd h q4⟩)⟩
  · have hj1 : j = l.length := by omega
    subst hj1
    have : apartOK l many := fun i h => hB i h h
    rw [dc_true this]

theorem sem_IsSorting_1 (n : Int) (lvl : Nat) (S : Sto) : Sem Go.Proofs.Tryz.prog fid_impl_IsSorting_1 lvl [iI n] S (iB (!inB n 0 24)) S := by
  refine sem_of_chk k_impl_IsSorting_1 trivial ?_
  simp only [c_impl_IsSorting_1, EVA, ↓reduceIte, Nat.reduceEqDiff, Nat.reduceMul, reduceCtorEq, Nat.reduceAdd, Nat.reduceSub, Nat.reduceLeDiff, Nat.reduceLT, Int.reduceToNat, Int.reduceLE, Int.reduceLT, mens, men]
  refine kca_intro (sem_within n 0 24) ?_
  simp only [EVA, ↓reduceIte, Nat.reduceEqDiff, Nat.reduceMul, reduceCtorEq, Nat.reduceAdd, Nat.reduceSub, Nat.reduceLeDiff, Nat.reduceLT, Int.reduceToNat, Int.reduceLE, Int.reduceLT, mens, men]

theorem sem_IsSorting_2 (n : Int) (s : TSorting) (hm : s.most.length ≤ 4294967296) (lvl : Nat) (S : Sto) : Sem Go.Proofs.Tryz.prog fid_impl_IsSorting_2 lvl [iI n, .ta (cSorting s)] S (iB (!inB n 0 ((s.most.length : Int) - 1))) S := by
  refine sem_of_chk k_impl_IsSorting_2 trivial ?_
  simp only [c_impl_IsSorting_2, cSorting, List.length_map, EVA, ↓reduceIte, Nat.reduceEqDiff, Nat.reduceMul, reduceCtorEq, Nat.reduceAdd, Nat.reduceSub, Nat.reduceLeDiff, Nat.reduceLT, Int.reduceToNat, Int.reduceLE, Int.reduceLT, mens, men]
  refine ⟨by rw [fits_i64]; omega, ?_⟩
  refine kca_intro (sem_within n 0 ((s.most.length : Int) - 1)) ?_
  simp only [EVA, ↓reduceIte, Nat.reduceEqDiff, Nat.reduceMul, reduceCtorEq, Nat.reduceAdd, Nat.reduceSub, Nat.reduceLeDiff, Nat.reduceLT, Int.reduceToNat, Int.reduceLE, Int.reduceLT, mens, men]

theorem any_out {l : List Int} {a b : Int} : (l.any fun n => !inB n a b) = false ↔ ∀ n ∈ l, a ≤ n ∧ n ≤ b := by
  simp only [List.any_eq_false, Bool.not_eq_true', Bool.not_eq_false, inB_iff]

theorem sem_impl_IsSorting (sig : List TControl) (s : TSorting) (hn : sig.length ≤ 4294967296) (hbs : ∀ y ∈ sig, bdControl 4294967296 y) (hb : bdSorting 4294967296 s) (lvl : Nat) (S : Sto) : Sem Go.Proofs.Tryz.prog fid_impl_IsSorting lvl [.tr (.sl (sig.map cControl)), .ag ((cSorting s).map .tr)] S (iB (dc (sortOK sig s))) S := by
  obtain ⟨b1, b2, b3, b4, b5, b6, b7⟩ := hb
  refine sem_of_chk k_impl_IsSorting trivial ?_
  simp only [c_impl_IsSorting, List.length_map, cSorting, EVA, ↓reduceIte, Nat.reduceEqDiff, Nat.reduceMul, reduceCtorEq, Nat.reduceAdd, Nat.reduceSub, Nat.reduceLeDiff, Nat.reduceLT, Int.reduceToNat, Int.reduceLE, Int.reduceLT, mens, men]
  refine kca_intro (sem_impl_IsSignature sig (by omega) (fun y hy => monoControl (hbs y hy))) ?_
  cases h1 : dc (sigOK sig)
  · simp only [EVA, ↓reduceIte, Nat.reduceEqDiff, Nat.reduceMul, reduceCtorEq, Nat.reduceAdd, Nat.reduceSub, Nat.reduceLeDiff, Nat.reduceLT, Int.reduceToNat, Int.reduceLE, Int.reduceLT, mens, men]
    rw [dc_false fun h => dc_not.1 h1 h.sg]
  simp only [List.length_map, cSorting, EVA, ↓reduceIte, Nat.reduceEqDiff, Nat.reduceMul, reduceCtorEq, Nat.reduceAdd, Nat.reduceSub, Nat.reduceLeDiff, Nat.reduceLT, Int.reduceToNat, Int.reduceLE, Int.reduceLT, mens, men]
  refine kca_intro (sem_isRising s.tops sig.length (by omega) (by omega) (by omega)) ?_
  cases h2 : dc (Ris 0 ((sig.length : Int) - 1) s.tops)
  · simp only [EVA, ↓reduceIte, Nat.reduceEqDiff, Nat.reduceMul, reduceCtorEq, Nat.reduceAdd, Nat.reduceSub, Nat.reduceLeDiff, Nat.reduceLT, Int.reduceToNat, Int.reduceLE, Int.reduceLT, mens, men]
    rw [dc_false fun h => dc_not.1 h2 h.tops]
  by_cases e3 : s.nest.length = sig.length
  case neg =>
    have e3' : ¬ (s.nest.length : Int) = sig.length := by omega
    simp only [e3', List.length_map, cSorting, EVA, ↓reduceIte, Nat.reduceEqDiff, Nat.reduceMul, reduceCtorEq, Nat.reduceAdd, Nat.reduceSub, Nat.reduceLeDiff, Nat.reduceLT, Int.reduceToNat, Int.reduceLE, Int.reduceLT, mens, men]
    rw [dc_false fun h => e3 h.nestL]
  by_cases e4 : s.sorts.length = sig.length
  case neg =>
    have e4' : ¬ (s.sorts.length : Int) = sig.length := by omega
    simp only [e3, e4', List.length_map, cSorting, EVA, ↓reduceIte, Nat.reduceEqDiff, Nat.reduceMul, reduceCtorEq, Nat.reduceAdd, Nat.reduceSub, Nat.reduceLeDiff, Nat.reduceLT, Int.reduceToNat, Int.reduceLE, Int.reduceLT, mens, men]
    rw [dc_false fun h => e4 h.sortsL]
  simp only [e3, e4, List.length_map, cSorting, EVA, ↓reduceIte, Nat.reduceEqDiff, Nat.reduceMul, reduceCtorEq, Nat.reduceAdd, Nat.reduceSub, Nat.reduceLeDiff, Nat.reduceLT, Int.reduceToNat, Int.reduceLE, Int.reduceLT, mens, men]
  refine kca_intro (sem_within s.most.length 1 4) ?_
  cases h4 : inB s.most.length 1 4
  · simp only [EVA, ↓reduceIte, Nat.reduceEqDiff, Nat.reduceMul, reduceCtorEq, Nat.reduceAdd, Nat.reduceSub, Nat.reduceLeDiff, Nat.reduceLT, Int.reduceToNat, Int.reduceLE, Int.reduceLT, mens, men]
    rw [dc_false fun h => inB_not.1 h4 (by have := h.many; omega)]
  simp only [List.length_map, cSorting, EVA, ↓reduceIte, Nat.reduceEqDiff, Nat.reduceMul, reduceCtorEq, Nat.reduceAdd, Nat.reduceSub, Nat.reduceLeDiff, Nat.reduceLT, Int.reduceToNat, Int.reduceLE, Int.reduceLT, mens, men]
  refine kca_intro (sem_coF1 (t := tv) (cs := []) g_coFI g_ixFI s.most (by omega) (fun x _ lvl S => sem_IsSorting_1 x lvl S)) ?_
  cases h5 : s.most.any fun n => !inB n 0 24
  case true =>
    simp only [EVA, ↓reduceIte, Nat.reduceEqDiff, Nat.reduceMul, reduceCtorEq, Nat.reduceAdd, Nat.reduceSub, Nat.reduceLeDiff, Nat.reduceLT, Int.reduceToNat, Int.reduceLE, Int.reduceLT, mens, men]
    rw [dc_false fun h => by rw [any_out.2 h.most] at h5; cases h5]
  simp only [List.length_map, cSorting, EVA, ↓reduceIte, Nat.reduceEqDiff, Nat.reduceMul, reduceCtorEq, Nat.reduceAdd, Nat.reduceSub, Nat.reduceLeDiff, Nat.reduceLT, Int.reduceToNat, Int.reduceLE, Int.reduceLT, mens, men]
  refine kca_intro (sem_arePairs s.apart s.most.length b6 b7) ?_
  cases h6 : dc (apartOK s.apart s.most.length)
  · simp only [EVA, ↓reduceIte, Nat.reduceEqDiff, Nat.reduceMul, reduceCtorEq, Nat.reduceAdd, Nat.reduceSub, Nat.reduceLeDiff, Nat.reduceLT, Int.reduceToNat, Int.reduceLE, Int.reduceLT, mens, men]
    rw [dc_false fun h => dc_not.1 h6 h.apart]
  simp only [List.length_map, cSorting, EVA, ↓reduceIte, Nat.reduceEqDiff, Nat.reduceMul, reduceCtorEq, Nat.reduceAdd, Nat.reduceSub, Nat.reduceLeDiff, Nat.reduceLT, Int.reduceToNat, Int.reduceLE, Int.reduceLT, mens, men]
  refine wp_cnt (α := Unit) sig.length (fun j _ => [(55, iI j)]) (fun j _ => []) (fun j _ => ∀ k, k < j → nestAt sig s.nest k ∧ sortsAt sig s.sorts s.most.length k) () (by simp only [EVA, ↓reduceIte, Nat.reduceEqDiff, Nat.reduceMul, reduceCtorEq, Nat.reduceAdd, Nat.reduceSub, Nat.reduceLeDiff, Nat.reduceLT, Int.reduceToNat, Int.reduceLE, Int.reduceLT, mens, men]) (by (simp only [EVA, ↓reduceIte, Nat.reduceEqDiff, Nat.reduceMul, reduceCtorEq, Nat.reduceAdd, Nat.reduceSub, Nat.reduceLeDiff, Nat.reduceLT, Int.reduceToNat, Int.reduceLE, Int.reduceLT, mens, men]) <;> rfl) (fun k hk => absurd hk (Nat.not_lt_zero k)) ?_
  intro j _ hj hA
  simp only [List.length_map, cSorting, EVA, ↓reduceIte, Nat.reduceEqDiff, Nat.reduceMul, reduceCtorEq, Nat.reduceAdd, Nat.reduceSub, Nat.reduceLeDiff, Nat.reduceLT, Int.reduceToNat, Int.reduceLE, Int.reduceLT, mens, men]
  refine ite_of (fun hlt => ?_) (fun hge => ?_)
  · have hja : j < sig.length := by omega
    have hjn : j < s.nest.length := by omega
    have hjs : j < s.sorts.length := by omega
    have ga := getA (c := cControl) hja
    have gn := getA (c := eIS) hjn
    have gs := getA (c := eIS) hjs
    have y1 : s.nest[j].length ≤ 4294967296 := b3 _ (List.getElem_mem hjn)
    have y2 : s.sorts[j].length ≤ 4294967296 := b5 _ (List.getElem_mem hjs)
    simp only [ga, gn, gs, List.length_map, cSorting, cControl, EVA, ↓reduceIte, Nat.reduceEqDiff, Nat.reduceMul, reduceCtorEq, Nat.reduceAdd, Nat.reduceSub, Nat.reduceLeDiff, Nat.reduceLT, Int.reduceToNat, Int.reduceLE, Int.reduceLT, mens, men]
    refine kca_intro (sem_isRising s.nest[j] sig.length (by omega) (by omega) (by omega)) ?_
    cases p1 : dc (Ris 0 ((sig.length : Int) - 1) s.nest[j])
    · simp only [EVA, ↓reduceIte, Nat.reduceEqDiff, Nat.reduceMul, reduceCtorEq, Nat.reduceAdd, Nat.reduceSub, Nat.reduceLeDiff, Nat.reduceLT, Int.reduceToNat, Int.reduceLE, Int.reduceLT, mens, men]
      rw [dc_false fun h => dc_not.1 p1 (h.nest j hjn hja).1]
    by_cases p2 : sig[j].kind_ = 2 ∧ (0 : Int) < s.nest[j].length
    · simp only [p2.1, p2.2, ga, gn, gs, List.length_map, cSorting, cControl, EVA, ↓reduceIte, Nat.reduceEqDiff, Nat.reduceMul, reduceCtorEq, Nat.reduceAdd, Nat.reduceSub, Nat.reduceLeDiff, Nat.reduceLT, Int.reduceToNat, Int.reduceLE, Int.reduceLT, mens, men]
      rw [dc_false fun h => by
        have h1 := (h.nest j hjn hja).2 p2.1
        have h2 := p2.2
        rw [h1] at h2
        simp at h2]
    have hN : nestAt sig s.nest j := fun _ _ => ⟨dc_iff.1 p1, fun h => List.length_eq_zero_iff.1 (by
      have : ¬ (0 : Int) < s.nest[j].length := fun h2 => p2 ⟨h, h2⟩
      omega)⟩
    have go : ∀ K : Prop, ((¬ (s.sorts[j].length : Int) = sig[j].ports → dc (sortOK sig s) = false) → (∀ e : (s.sorts[j].length : Int) = sig[j].ports, (s.sorts[j].any (fun n => !inB n 0 ((s.most.length : Int) - 1))) = true → dc (sortOK sig s) = false) → (∀ e : (s.sorts[j].length : Int) = sig[j].ports, (s.sorts[j].any (fun n => !inB n 0 ((s.most.length : Int) - 1))) = false → sortsAt sig s.sorts s.most.length j) → K) → K := fun K h => h
      (fun h => dc_false fun g => h (g.sorts j hjs hja).1)
      (fun e h => dc_false fun g => by rw [any_out.2 (g.sorts j hjs hja).2] at h; cases h)
      (fun e h _ _ => ⟨e, any_out.1 h⟩)
    refine go _ fun g1 g2 g3 => ?_
    by_cases k1 : sig[j].kind_ = 2
    · have k2 : ¬ (0 : Int) < s.nest[j].length := fun h => p2 ⟨k1, h⟩
      by_cases k3 : (s.sorts[j].length : Int) = sig[j].ports
      case neg =>
        simp only [k1, k2, k3, ga, gn, gs, List.length_map, cSorting, cControl, EVA, ↓reduceIte, Nat.reduceEqDiff, Nat.reduceMul, reduceCtorEq, Nat.reduceAdd, Nat.reduceSub, Nat.reduceLeDiff, Nat.reduceLT, Int.reduceToNat, Int.reduceLE, Int.reduceLT, mens, men]
        rw [g1 k3]
      simp only [k1, k2, k3, ga, gn, gs, List.length_map, cSorting, cControl, EVA, ↓reduceIte, Nat.reduceEqDiff, Nat.reduceMul, reduceCtorEq, Nat.reduceAdd, Nat.reduceSub, Nat.reduceLeDiff, Nat.reduceLT, Int.reduceToNat, Int.reduceLE, Int.reduceLT, mens, men]
      refine kca_intro (sem_coF1 (t := tv) (cs := [cSorting s]) g_coFI g_ixFI s.sorts[j] (by omega) (fun x _ lvl S => sem_IsSorting_2 x s b6 lvl S)) ?_
      cases h7 : s.sorts[j].any fun n => !inB n 0 ((s.most.length : Int) - 1)
      case true =>
        simp only [EVA, ↓reduceIte, Nat.reduceEqDiff, Nat.reduceMul, reduceCtorEq, Nat.reduceAdd, Nat.reduceSub, Nat.reduceLeDiff, Nat.reduceLT, Int.reduceToNat, Int.reduceLE, Int.reduceLT, mens, men]
        rw [g2 k3 h7]
      simp only [EVA, ↓reduceIte, Nat.reduceEqDiff, Nat.reduceMul, reduceCtorEq, Nat.reduceAdd, Nat.reduceSub, Nat.reduceLeDiff, Nat.reduceLT, Int.reduceToNat, Int.reduceLE, Int.reduceLT, mens, men]
      exact ⟨by rw [fits_i64]; omega, cntJ_intro () hja rfl (all_succ hA ⟨hN, g3 k3 h7⟩)⟩
    · by_cases k3 : (s.sorts[j].length : Int) = sig[j].ports
      case neg =>
        simp only [k1, k3, ga, gn, gs, List.length_map, cSorting, cControl, EVA, ↓reduceIte, Nat.reduceEqDiff, Nat.reduceMul, reduceCtorEq, Nat.reduceAdd, Nat.reduceSub, Nat.reduceLeDiff, Nat.reduceLT, Int.reduceToNat, Int.reduceLE, Int.reduceLT, mens, men]
        rw [g1 k3]
      simp only [k1, k3, ga, gn, gs, List.length_map, cSorting, cControl, EVA, ↓reduceIte, Nat.reduceEqDiff, Nat.reduceMul, reduceCtorEq, Nat.reduceAdd, Nat.reduceSub, Nat.reduceLeDiff, Nat.reduceLT, Int.reduceToNat, Int.reduceLE, Int.reduceLT, mens, men]
      refine kca_intro (sem_coF1 (t := tv) (cs := [cSorting s]) g_coFI g_ixFI s.sorts[j] (by omega) (fun x _ lvl S => sem_IsSorting_2 x s b6 lvl S)) ?_
      cases h7 : s.sorts[j].any fun n => !inB n 0 ((s.most.length : Int) - 1)
      case true =>
        simp only [EVA, ↓reduceIte, Nat.reduceEqDiff, Nat.reduceMul, reduceCtorEq, Nat.reduceAdd, Nat.reduceSub, Nat.reduceLeDiff, Nat.reduceLT, Int.reduceToNat, Int.reduceLE, Int.reduceLT, mens, men]
        rw [g2 k3 h7]
      simp only [EVA, ↓reduceIte, Nat.reduceEqDiff, Nat.reduceMul, reduceCtorEq, Nat.reduceAdd, Nat.reduceSub, Nat.reduceLeDiff, Nat.reduceLT, Int.reduceToNat, Int.reduceLE, Int.reduceLT, mens, men]
      exact ⟨by rw [fits_i64]; omega, cntJ_intro () hja rfl (all_succ hA ⟨hN, g3 k3 h7⟩)⟩
  · have hj1 : j = sig.length := by omega
    subst hj1
    have : sortOK sig s := ⟨dc_iff.1 h1, dc_iff.1 h2, e3, fun k hk h2 => (hA k h2).1 hk h2, e4, fun k hk h2 => (hA k h2).2 hk h2, by have := inB_iff.1 h4; omega, any_out.1 h5, dc_iff.1 h6⟩
    rw [dc_true this]
end Go.Fd

/-
  FINER SORTINGS, BOTH SIDES. Own work.
-/
namespace Go.Fd
set_option maxRecDepth 20000

theorem cmpKA2 : CmpK 2 [0, 0] cA2 := ⟨fun _ => rfl, fun x y F => by
  obtain ⟨x1, x2⟩ := x
  obtain ⟨y1, y2⟩ := y
  by_cases h1 : x1 = y1 <;> by_cases h2 : x2 = y2 <;> simp [eq2, cA2, eqvs, eqv, h1, h2]⟩

theorem ext_g0 {a b : List Int} (h : a.length = b.length) (hg : ∀ k, k < a.length → g0 a k = g0 b k) : a = b := by
  refine List.ext_getElem h fun k h1 h2 => ?_
  have := hg k h1
  simpa [h1, h2] using this

theorem sem_l1Same (a b : List Int) (ha : a.length ≤ 4294967296) (hb : b.length ≤ 4294967296) (lvl : Nat) (S : Sto) : Sem Go.Proofs.Tryz.prog fid_spec_l1Same lvl [tI a, tI b] S (iB (dc (a = b))) S := by
  refine sem_of_chk k_spec_l1Same trivial ?_
  simp only [c_spec_l1Same, List.length_map, EVA, ↓reduceIte, Nat.reduceEqDiff, Nat.reduceMul, reduceCtorEq, Nat.reduceAdd, Nat.reduceSub, Nat.reduceLeDiff, Nat.reduceLT, Int.reduceToNat, Int.reduceLE, Int.reduceLT, mens, men]
  refine ite_of (fun hne => ?_) (fun heq => ?_)
  · have : ¬ a = b := fun h => by subst h; exact hne rfl
    rw [dc_false this]
  have hE : a.length = b.length := by omega
  refine wp_cnt (α := Unit) a.length (fun j _ => [(5, iI j)]) (fun j _ => []) (fun j _ => ∀ k, k < j → g0 a k = g0 b k) () (by simp only [EVA, ↓reduceIte, Nat.reduceEqDiff, Nat.reduceMul, reduceCtorEq, Nat.reduceAdd, Nat.reduceSub, Nat.reduceLeDiff, Nat.reduceLT, Int.reduceToNat, Int.reduceLE, Int.reduceLT, mens, men]) (by (simp only [EVA, ↓reduceIte, Nat.reduceEqDiff, Nat.reduceMul, reduceCtorEq, Nat.reduceAdd, Nat.reduceSub, Nat.reduceLeDiff, Nat.reduceLT, Int.reduceToNat, Int.reduceLE, Int.reduceLT, mens, men]) <;> rfl) (fun k hk => absurd hk (Nat.not_lt_zero k)) ?_
  intro j _ hj hA
  simp only [List.length_map, EVA, ↓reduceIte, Nat.reduceEqDiff, Nat.reduceMul, reduceCtorEq, Nat.reduceAdd, Nat.reduceSub, Nat.reduceLeDiff, Nat.reduceLT, Int.reduceToNat, Int.reduceLE, Int.reduceLT, mens, men]
  refine ite_of (fun hlt => ?_) (fun hge => ?_)
  · have hja : j < a.length := by omega
    have hjb : j < b.length := by omega
    have ga := rI_get hja
    have gb := rI_get hjb
    simp only [ga, gb, List.length_map, EVA, ↓reduceIte, Nat.reduceEqDiff, Nat.reduceMul, reduceCtorEq, Nat.reduceAdd, Nat.reduceSub, Nat.reduceLeDiff, Nat.reduceLT, Int.reduceToNat, Int.reduceLE, Int.reduceLT, mens, men]
    refine ite_of (fun hne => ?_) (fun heq => ?_)
    · have : ¬ a = b := fun h => hne (by rw [h])
      rw [dc_false this]
    · exact ⟨by rw [fits_i64]; omega, cntJ_intro () hja rfl (all_succ hA (by omega))⟩
  · have hj1 : j = a.length := by omega
    subst hj1
    rw [dc_true (ext_g0 hE hA)]

theorem sem_l7SameTable (a b : List (List Int)) (ha : a.length ≤ 4294967296) (hb : b.length ≤ 4294967296) (ha2 : ∀ y ∈ a, y.length ≤ 4294967296) (hb2 : ∀ y ∈ b, y.length ≤ 4294967296) (lvl : Nat) (S : Sto) : Sem Go.Proofs.Tryz.prog fid_spec_l7SameTable lvl [.tr (.sl (a.map eIS)), .tr (.sl (b.map eIS))] S (iB (dc (a = b))) S := by
  refine sem_of_chk k_spec_l7SameTable trivial ?_
  simp only [c_spec_l7SameTable, List.length_map, EVA, ↓reduceIte, Nat.reduceEqDiff, Nat.reduceMul, reduceCtorEq, Nat.reduceAdd, Nat.reduceSub, Nat.reduceLeDiff, Nat.reduceLT, Int.reduceToNat, Int.reduceLE, Int.reduceLT, mens, men]
  refine ite_of (fun hne => ?_) (fun heq => ?_)
  · have : ¬ a = b := fun h => by subst h; exact hne rfl
    rw [dc_false this]
  have hE : a.length = b.length := by omega
  refine wp_cnt (α := Unit) a.length (fun j _ => [(5, iI j)]) (fun j _ => []) (fun j _ => ∀ k, k < j → ∀ (h1 : k < a.length) (h2 : k < b.length), a[k] = b[k]) () (by simp only [EVA, ↓reduceIte, Nat.reduceEqDiff, Nat.reduceMul, reduceCtorEq, Nat.reduceAdd, Nat.reduceSub, Nat.reduceLeDiff, Nat.reduceLT, Int.reduceToNat, Int.reduceLE, Int.reduceLT, mens, men]) (by (simp only [EVA, ↓reduceIte, Nat.reduceEqDiff, Nat.reduceMul, reduceCtorEq, Nat.reduceAdd, Nat.reduceSub, Nat.reduceLeDiff, Nat.reduceLT, Int.reduceToNat, Int.reduceLE, Int.reduceLT, mens, men]) <;> rfl) (fun k hk => absurd hk (Nat.not_lt_zero k)) ?_
  intro j _ hj hA
  simp only [List.length_map, EVA, ↓reduceIte, Nat.reduceEqDiff, Nat.reduceMul, reduceCtorEq, Nat.reduceAdd, Nat.reduceSub, Nat.reduceLeDiff, Nat.reduceLT, Int.reduceToNat, Int.reduceLE, Int.reduceLT, mens, men]
  refine ite_of (fun hlt => ?_) (fun hge => ?_)
  · have hja : j < a.length := by omega
    have hjb : j < b.length := by omega
    have ga := getA (c := eIS) hja
    have gb := getA (c := eIS) hjb
    simp only [ga, gb, List.length_map, EVA, ↓reduceIte, Nat.reduceEqDiff, Nat.reduceMul, reduceCtorEq, Nat.reduceAdd, Nat.reduceSub, Nat.reduceLeDiff, Nat.reduceLT, Int.reduceToNat, Int.reduceLE, Int.reduceLT, mens, men]
    refine kca_intro (sem_l1Same a[j] b[j] (ha2 _ (List.getElem_mem hja)) (hb2 _ (List.getElem_mem hjb))) ?_
    cases hc : dc (a[j] = b[j])
    · simp only [EVA, ↓reduceIte, Nat.reduceEqDiff, Nat.reduceMul, reduceCtorEq, Nat.reduceAdd, Nat.reduceSub, Nat.reduceLeDiff, Nat.reduceLT, Int.reduceToNat, Int.reduceLE, Int.reduceLT, mens, men]
      have : ¬ a = b := fun h => dc_not.1 hc (by subst h; rfl)
      rw [dc_false this]
    · simp only [EVA, ↓reduceIte, Nat.reduceEqDiff, Nat.reduceMul, reduceCtorEq, Nat.reduceAdd, Nat.reduceSub, Nat.reduceLeDiff, Nat.reduceLT, Int.reduceToNat, Int.reduceLE, Int.reduceLT, mens, men]
      exact ⟨by rw [fits_i64]; omega, cntJ_intro () hja rfl (all_succ hA fun _ _ => dc_iff.1 hc)⟩
  · have hj1 : j = a.length := by omega
    subst hj1
    rw [dc_true (List.ext_getElem hE fun k h1 h2 => hA k h1 h1 h2)]

theorem sem_l7Pair (l : List A2) (p : A2) (hl : l.length ≤ 4294967296) (lvl : Nat) (S : Sto) : Sem Go.Proofs.Tryz.prog fid_spec_l7Pair lvl [.tr (.sl (l.map cA2)), .ag ((cA2 p).map .tr)] S (iB (dc (p ∈ l))) S := by
  refine sem_of_chk k_spec_l7Pair trivial ?_
  simp only [c_spec_l7Pair, List.length_map, cA2, EVA, ↓reduceIte, Nat.reduceEqDiff, Nat.reduceMul, reduceCtorEq, Nat.reduceAdd, Nat.reduceSub, Nat.reduceLeDiff, Nat.reduceLT, Int.reduceToNat, Int.reduceLE, Int.reduceLT, mens, men]
  refine wp_cnt (α := Unit) l.length (fun j _ => [(5, iI j)]) (fun j _ => []) (fun j _ => ∀ k, k < j → ∀ h : k < l.length, ¬ l[k] = p) () (by simp only [EVA, ↓reduceIte, Nat.reduceEqDiff, Nat.reduceMul, reduceCtorEq, Nat.reduceAdd, Nat.reduceSub, Nat.reduceLeDiff, Nat.reduceLT, Int.reduceToNat, Int.reduceLE, Int.reduceLT, mens, men]) (by (simp only [EVA, ↓reduceIte, Nat.reduceEqDiff, Nat.reduceMul, reduceCtorEq, Nat.reduceAdd, Nat.reduceSub, Nat.reduceLeDiff, Nat.reduceLT, Int.reduceToNat, Int.reduceLE, Int.reduceLT, mens, men]) <;> rfl) (fun k hk => absurd hk (Nat.not_lt_zero k)) ?_
  intro j _ hj hA
  simp only [List.length_map, EVA, ↓reduceIte, Nat.reduceEqDiff, Nat.reduceMul, reduceCtorEq, Nat.reduceAdd, Nat.reduceSub, Nat.reduceLeDiff, Nat.reduceLT, Int.reduceToNat, Int.reduceLE, Int.reduceLT, mens, men]
  refine ite_of (fun hlt => ?_) (fun hge => ?_)
  · have hja : j < l.length := by omega
    have ga := getA (c := cA2) hja
    have he := cmpKA2.eql l[j] p
    simp only [cA2, List.map_cons, List.map_nil] at he
    simp only [ga, List.length_map, cA2, EVA, ↓reduceIte, Nat.reduceEqDiff, Nat.reduceMul, reduceCtorEq, Nat.reduceAdd, Nat.reduceSub, Nat.reduceLeDiff, Nat.reduceLT, Int.reduceToNat, Int.reduceLE, Int.reduceLT, mens, men]
    rw [he]
    by_cases hc : l[j] = p
    · simp only [hc, EVA, ↓reduceIte, Nat.reduceEqDiff, Nat.reduceMul, reduceCtorEq, Nat.reduceAdd, Nat.reduceSub, Nat.reduceLeDiff, Nat.reduceLT, Int.reduceToNat, Int.reduceLE, Int.reduceLT, mens, men]
      rw [dc_true (hc ▸ List.getElem_mem hja)]
    · simp only [hc, EVA, ↓reduceIte, Nat.reduceEqDiff, Nat.reduceMul, reduceCtorEq, Nat.reduceAdd, Nat.reduceSub, Nat.reduceLeDiff, Nat.reduceLT, Int.reduceToNat, Int.reduceLE, Int.reduceLT, mens, men]
      exact ⟨by rw [fits_i64]; omega, cntJ_intro () hja rfl (all_succ hA fun _ => hc)⟩
  · have hj1 : j = l.length := by omega
    subst hj1
    have : ¬ p ∈ l := fun h => by
      obtain ⟨k, hk, e⟩ := List.getElem_of_mem h
      exact hA k hk hk e
    rw [dc_false this]

def alike (s t : TSorting) : Prop := s.most.length = t.most.length ∧ s.sorts = t.sorts

theorem sem_l7Alike (s t : TSorting) (hs : bdSorting 4294967296 s) (ht : bdSorting 4294967296 t) (lvl : Nat) (S : Sto) : Sem Go.Proofs.Tryz.prog fid_spec_l7Alike lvl [.ag ((cSorting s).map .tr), .ag ((cSorting t).map .tr)] S (iB (dc (alike s t))) S := by
  obtain ⟨_, _, _, b4, b5, b6, _⟩ := hs
  obtain ⟨_, _, _, c4, c5, c6, _⟩ := ht
  refine sem_of_chk k_spec_l7Alike trivial ?_
  simp only [c_spec_l7Alike, List.length_map, cSorting, EVA, ↓reduceIte, Nat.reduceEqDiff, Nat.reduceMul, reduceCtorEq, Nat.reduceAdd, Nat.reduceSub, Nat.reduceLeDiff, Nat.reduceLT, Int.reduceToNat, Int.reduceLE, Int.reduceLT, mens, men]
  by_cases h : s.most.length = t.most.length
  · simp only [h, List.length_map, cSorting, EVA, ↓reduceIte, Nat.reduceEqDiff, Nat.reduceMul, reduceCtorEq, Nat.reduceAdd, Nat.reduceSub, Nat.reduceLeDiff, Nat.reduceLT, Int.reduceToNat, Int.reduceLE, Int.reduceLT, mens, men]
    refine kca_intro (sem_l7SameTable s.sorts t.sorts b4 c4 b5 c5) ?_
    simp only [EVA, ↓reduceIte, Nat.reduceEqDiff, Nat.reduceMul, reduceCtorEq, Nat.reduceAdd, Nat.reduceSub, Nat.reduceLeDiff, Nat.reduceLT, Int.reduceToNat, Int.reduceLE, Int.reduceLT, mens, men]
    rw [dc_congr (p := alike s t) ⟨fun g => g.2, fun g => ⟨h, g⟩⟩]
  · have h2 : ¬ (s.most.length : Int) = t.most.length := by omega
    simp only [h2, List.length_map, cSorting, EVA, ↓reduceIte, Nat.reduceEqDiff, Nat.reduceMul, reduceCtorEq, Nat.reduceAdd, Nat.reduceSub, Nat.reduceLeDiff, Nat.reduceLT, Int.reduceToNat, Int.reduceLE, Int.reduceLT, mens, men]
    rw [dc_false fun g : alike s t => h g.1]

theorem g_co2 : chkF Go.Proofs.Tryz.prog fid_slices_Contains_2_int_2_int (gCoK 2 fid_slices_Index_2_int_2_int) = true := by kernel_rfl
theorem g_ix2 : chkF Go.Proofs.Tryz.prog fid_slices_Index_2_int_2_int (gIxK 2 [0, 0]) = true := by kernel_rfl
theorem g_eqI : chkF Go.Proofs.Tryz.prog fid_slices_Equal_int_int gEq1 = true := by kernel_rfl
theorem g_eqFI : chkF Go.Proofs.Tryz.prog fid_slices_EqualFunc_int_int_int_int (gEqF 1 none) = true := by kernel_rfl

theorem sem_sameSorts_1 (a b : List Int) (ha : a.length ≤ 4294967296) (lvl : Nat) (S : Sto) : Sem Go.Proofs.Tryz.prog fid_impl_sameSorts_1 lvl [tI a, tI b] S (iB (decide (a = b))) S := by
  refine sem_of_chk k_impl_sameSorts_1 trivial ?_
  simp only [c_impl_sameSorts_1, EVA, ↓reduceIte, Nat.reduceEqDiff, Nat.reduceMul, reduceCtorEq, Nat.reduceAdd, Nat.reduceSub, Nat.reduceLeDiff, Nat.reduceLT, Int.reduceToNat, Int.reduceLE, Int.reduceLT, mens, men]
  refine kca_intro (sem_eq1 g_eqI cmpTI a b (by omega)) ?_
  simp only [EVA, ↓reduceIte, Nat.reduceEqDiff, Nat.reduceMul, reduceCtorEq, Nat.reduceAdd, Nat.reduceSub, Nat.reduceLeDiff, Nat.reduceLT, Int.reduceToNat, Int.reduceLE, Int.reduceLT, mens, men]

theorem sem_sameSorts (sig : List TControl) (s t : TSorting) (g1 : sortOK sig s) (g2 : sortOK sig t) (hn : sig.length ≤ 4294967296) (hbs : ∀ y ∈ sig, bdControl 4294967296 y) (hs : bdSorting 4294967296 s) (ht : bdSorting 4294967296 t) (lvl : Nat) (S : Sto) : Sem Go.Proofs.Tryz.prog fid_impl_sameSorts lvl [.tr (.sl (sig.map cControl)), .ag ((cSorting s).map .tr), .ag ((cSorting t).map .tr)] S (iB (dc (alike s t))) S := by
  refine sem_of_chk k_impl_sameSorts trivial ?_
  simp only [c_impl_sameSorts, List.length_map, cSorting, EVA, ↓reduceIte, Nat.reduceEqDiff, Nat.reduceMul, reduceCtorEq, Nat.reduceAdd, Nat.reduceSub, Nat.reduceLeDiff, Nat.reduceLT, Int.reduceToNat, Int.reduceLE, Int.reduceLT, mens, men]
  refine kca_intro (sem_impl_IsSorting sig s hn hbs hs) ?_
  rw [dc_true g1]
  simp only [List.length_map, cSorting, EVA, ↓reduceIte, Nat.reduceEqDiff, Nat.reduceMul, reduceCtorEq, Nat.reduceAdd, Nat.reduceSub, Nat.reduceLeDiff, Nat.reduceLT, Int.reduceToNat, Int.reduceLE, Int.reduceLT, mens, men]
  refine kca_intro (sem_impl_IsSorting sig t hn hbs ht) ?_
  rw [dc_true g2]
  obtain ⟨b1, b2, b3, b4, b5, b6, b7⟩ := hs
  by_cases h : s.most.length = t.most.length
  · simp only [h, List.length_map, cSorting, EVA, ↓reduceIte, Nat.reduceEqDiff, Nat.reduceMul, reduceCtorEq, Nat.reduceAdd, Nat.reduceSub, Nat.reduceLeDiff, Nat.reduceLT, Int.reduceToNat, Int.reduceLE, Int.reduceLT, mens, men]
    refine kca_intro (sem_eqF1 (t := fun l => Tr.sl (rI l)) (cs := []) g_eqFI s.sorts t.sorts (by omega) (fun x hx y _ lvl S => sem_sameSorts_1 x y (b5 x hx) lvl S)) ?_
    simp only [EVA, ↓reduceIte, Nat.reduceEqDiff, Nat.reduceMul, reduceCtorEq, Nat.reduceAdd, Nat.reduceSub, Nat.reduceLeDiff, Nat.reduceLT, Int.reduceToNat, Int.reduceLE, Int.reduceLT, mens, men]
    rw [dc_congr (p := alike s t) ⟨fun g => g.2, fun g => ⟨h, g⟩⟩, dc_decide]
  · have h2 : ¬ (s.most.length : Int) = t.most.length := by omega
    simp only [h2, List.length_map, cSorting, EVA, ↓reduceIte, Nat.reduceEqDiff, Nat.reduceMul, reduceCtorEq, Nat.reduceAdd, Nat.reduceSub, Nat.reduceLeDiff, Nat.reduceLT, Int.reduceToNat, Int.reduceLE, Int.reduceLT, mens, men]
    rw [dc_false fun g : alike s t => h g.1]

end Go.Fd

/-
  JOIN AND MEET, THE REFERENCE'S SIDE. Own work.
-/
namespace Go.Fd
set_option maxRecDepth 20000
/-- n is put in its place. -/
def putI (n : Int) (l : List Int) : List Int := if (l.dropWhile fun x => decide (x < n)).head? = some n then l else (l.takeWhile fun x => decide (x < n)) ++ n :: (l.dropWhile fun x => decide (x < n))
theorem while_at {n : Int} : ∀ {l : List Int} {j : Nat}, (∀ k, k < j → g0 l k < n) → j ≤ l.length → (j < l.length → ¬ g0 l j < n) → (l.takeWhile fun x => decide (x < n)) = l.take j ∧ (l.dropWhile fun x => decide (x < n)) = l.drop j
  | [], j, _, h2, _ => by
    have : j = 0 := by simpa using h2
    subst this
    simp
  | x :: r, 0, _, _, h3 => by
    have := h3 (by simp)
    have e : ¬ x < n := this
    simp [e]
  | x :: r, j + 1, h1, h2, h3 => by
    have e : x < n := h1 0 (by omega)
    have ih := while_at (l := r) (j := j) (n := n) (fun k hk => h1 (k + 1) (by omega)) (by simpa using h2) (fun h => h3 (by simpa using h))
    simp [e, ih.1, ih.2]
theorem cutI0 {l : List Int} {j : Nat} : cut (rI l) 0 (j - 0) = rI (l.take j) := cut_take0 (c := fun n : Int => [tv n])
theorem cutI1 {l : List Int} {j : Nat} : cut (rI l) j (l.length - j) = rI (l.drop j) := by
  simp only [cut, List.map_drop]
  exact List.take_of_length_le (by simp)
theorem sem_l1Put (l : List Int) (n : Int) (hl : l.length ≤ 4294967290) (lvl : Nat) (S : Sto) : Sem Go.Proofs.Tryz.prog fid_spec_l1Put lvl [tI l, iI n] S (tI (putI n l)) S := by
  refine sem_of_chk k_spec_l1Put trivial ?_
  simp only [c_spec_l1Put, List.length_map, EVA, ↓reduceIte, Nat.reduceEqDiff, Nat.reduceMul, reduceCtorEq, Nat.reduceAdd, Nat.reduceSub, Nat.reduceLeDiff, Nat.reduceLT, Int.reduceToNat, Int.reduceLE, Int.reduceLT, mens, men]
  refine wp_cnt (α := Unit) l.length (fun j _ => [(5, iI j)]) (fun _ _ => []) (fun j _ => ∀ k, k < j → g0 l k < n) () (by simp only [EVA, ↓reduceIte, Nat.reduceEqDiff, Nat.reduceMul, reduceCtorEq, Nat.reduceAdd, Nat.reduceSub, Nat.reduceLeDiff, Nat.reduceLT, Int.reduceToNat, Int.reduceLE, Int.reduceLT, mens, men]) (by (simp only [EVA, ↓reduceIte, Nat.reduceEqDiff, Nat.reduceMul, reduceCtorEq, Nat.reduceAdd, Nat.reduceSub, Nat.reduceLeDiff, Nat.reduceLT, Int.reduceToNat, Int.reduceLE, Int.reduceLT, mens, men]) <;> rfl) (fun k hk => absurd hk (Nat.not_lt_zero k)) ?_
  intro j _ hj hA
  simp only [List.length_map, EVA, ↓reduceIte, Nat.reduceEqDiff, Nat.reduceMul, reduceCtorEq, Nat.reduceAdd, Nat.reduceSub, Nat.reduceLeDiff, Nat.reduceLT, Int.reduceToNat, Int.reduceLE, Int.reduceLT, mens, men]
  have scr : ∀ x : List Int, ScR (rI x) := fun x e he t ht => by
    obtain ⟨n, _, rfl⟩ := List.mem_map.1 he
    simp only [List.mem_cons, List.not_mem_nil, or_false] at ht
    subst ht
    rfl
  have unr : ∀ x : List Int, UnR 1 (rI x) := fun x => UnR_map (fun n : Int => [tv n]) (fun _ => rfl) x
  have fin : (j < l.length → ¬ g0 l j < n) → (j < l.length → g0 l j ≠ n) → rI (l.take j) ++ [[tv n]] ++ rI (l.drop j) = rI (putI n l) := fun h1 h2 => by
    obtain ⟨e1, e2⟩ := while_at hA hj h1
    unfold putI
    rw [e1, e2, if_neg]
    · simp
    · intro e
      rw [List.head?_drop] at e
      have hjl := (List.getElem?_eq_some_iff.1 e).1
      refine h2 hjl ?_
      show l.getD j 0 = n
      rw [List.getD_eq_getElem?_getD, e]
      rfl
  have lt : (l.take j).length = j := by rw [List.length_take]; omega
  have ld : (l.drop j).length = l.length - j := List.length_drop
  by_cases hja : j < l.length
  · have ga := rI_get hja
    have h1 : (j : Int) < l.length := by omega
    by_cases hlt : g0 l j < n
    · simp only [h1, hja, ga, hlt, List.length_map, EVA, ↓reduceIte, Nat.reduceEqDiff, Nat.reduceMul, reduceCtorEq, Nat.reduceAdd, Nat.reduceSub, Nat.reduceLeDiff, Nat.reduceLT, Int.reduceToNat, Int.reduceLE, Int.reduceLT, mens, men]
      exact ⟨by rw [fits_i64]; omega, cntJ_intro () hja rfl (all_succ hA hlt)⟩
    · by_cases he : g0 l j = n
      · have hnn : ¬ n < n := by omega
        simp only [h1, hja, ga, hlt, he, hnn, List.length_map, EVA, ↓reduceIte, Nat.reduceEqDiff, Nat.reduceMul, reduceCtorEq, Nat.reduceAdd, Nat.reduceSub, Nat.reduceLeDiff, Nat.reduceLT, Int.reduceToNat, Int.reduceLE, Int.reduceLT, mens, men]
        have e2 := (while_at hA hj fun _ => hlt).2
        have : putI n l = l := by
          unfold putI
          rw [if_pos]
          rw [e2, List.head?_drop, List.getElem?_eq_getElem hja]
          have : g0 l j = l[j] := by simp [hja]
          rw [← this, he]
        rw [this]
      · have hf := fin (fun _ => hlt) (fun _ => he)
        have hlen := congrArg List.length hf
        simp only [List.length_append, List.length_map, List.length_cons, List.length_nil, lt, ld] at hlen
        simp only [h1, hja, ga, hlt, he, List.length_map, cutI0, cutI1, scr, unr, hf, List.length_append, lt, ld, EVA, ↓reduceIte, Nat.reduceEqDiff, Nat.reduceMul, reduceCtorEq, Nat.reduceAdd, Nat.reduceSub, Nat.reduceLeDiff, Nat.reduceLT, Int.reduceToNat, Int.reduceLE, Int.reduceLT, mens, men]
        refine ⟨fun _ => trivial, by omega, by omega, by omega, by omega, fun _ => trivial, by omega, by omega, by omega, ?_⟩
        rw [cut_all (by rw [List.length_map]; omega)]
  · have h1 : ¬ (j : Int) < l.length := by omega
    have hf := fin (fun h => absurd h hja) (fun h => absurd h hja)
    have hlen := congrArg List.length hf
    simp only [List.length_append, List.length_map, List.length_cons, List.length_nil, lt, ld] at hlen
    simp only [h1, List.length_map, cutI0, cutI1, scr, unr, hf, List.length_append, lt, ld, EVA, ↓reduceIte, Nat.reduceEqDiff, Nat.reduceMul, reduceCtorEq, Nat.reduceAdd, Nat.reduceSub, Nat.reduceLeDiff, Nat.reduceLT, Int.reduceToNat, Int.reduceLE, Int.reduceLT, mens, men]
    refine ⟨fun _ => trivial, by omega, by omega, by omega, by omega, fun _ => trivial, by omega, by omega, by omega, ?_⟩
    rw [cut_all (by rw [List.length_map]; omega)]
/-- The numbers of both lists. -/
def eithI (a b : List Int) : List Int := b.foldl (fun l n => putI n l) a
theorem eithI_succ {a b : List Int} {j : Nat} (h : j < b.length) : eithI a (b.take (j + 1)) = putI (g0 b j) (eithI a (b.take j)) := by
  have e : g0 b j = b[j] := by simp [h]
  unfold eithI
  rw [List.take_succ_eq_append_getElem h, List.foldl_append, e]
  rfl
theorem putI_le {n : Int} {l : List Int} : (putI n l).length ≤ l.length + 1 := by
  unfold putI
  split
  · omega
  · have := congrArg List.length (List.takeWhile_append_dropWhile (p := fun x => decide (x < n)) (l := l))
    simp only [List.length_append, List.length_cons] at this ⊢
    omega
theorem eithI_le {a b : List Int} : (eithI a b).length ≤ a.length + b.length := by
  induction b generalizing a with
  | nil => simp [eithI]
  | cons n r ih =>
    have h1 := ih (a := putI n a)
    have h2 := putI_le (n := n) (l := a)
    have : eithI a (n :: r) = eithI (putI n a) r := rfl
    rw [this, List.length_cons]
    omega
theorem scrJ {l : List Int} : ScR (rI l) = True := eq_true fun e he t ht => by
  obtain ⟨n, _, rfl⟩ := List.mem_map.1 he
  simp only [List.mem_cons, List.not_mem_nil, or_false] at ht
  subst ht
  rfl
theorem unrJ {l : List Int} : UnR 1 (rI l) = True := eq_true (UnR_map (fun n : Int => [tv n]) (fun _ => rfl) l)
theorem sem_l1OwnJ (l : List Int) (hl : l.length ≤ 4294967296) (lvl : Nat) (S : Sto) : Sem Go.Proofs.Tryz.prog fid_spec_l1Own lvl [tI l] S (.ow 1 (rI l) true) S := by
  refine sem_of_chk k_spec_l1Own trivial ?_
  simp only [c_spec_l1Own, List.length_map, scrJ, unrJ, EVA, ↓reduceIte, Nat.reduceEqDiff, Nat.reduceMul, reduceCtorEq, Nat.reduceAdd, Nat.reduceSub, Nat.reduceLeDiff, Nat.reduceLT, Int.reduceToNat, Int.reduceLE, Int.reduceLT, mens, men]
  exact hl
theorem sem_l7Either (a b : List Int) (h : a.length + b.length ≤ 4294967290) (lvl : Nat) (S : Sto) : Sem Go.Proofs.Tryz.prog fid_spec_l7Either lvl [tI a, tI b] S (tI (eithI a b)) S := by
  refine sem_of_chk k_spec_l7Either trivial ?_
  simp only [c_spec_l7Either, List.length_map, EVA, ↓reduceIte, Nat.reduceEqDiff, Nat.reduceMul, reduceCtorEq, Nat.reduceAdd, Nat.reduceSub, Nat.reduceLeDiff, Nat.reduceLT, Int.reduceToNat, Int.reduceLE, Int.reduceLT, mens, men]
  refine kca_intro (sem_l1OwnJ a (by omega)) ?_
  simp only [List.length_map, EVA, ↓reduceIte, Nat.reduceEqDiff, Nat.reduceMul, reduceCtorEq, Nat.reduceAdd, Nat.reduceSub, Nat.reduceLeDiff, Nat.reduceLT, Int.reduceToNat, Int.reduceLE, Int.reduceLT, mens, men]
  refine wp_cnt (α := Unit) b.length (fun j _ => [(5, tI (eithI a (b.take j))), (6, iI j)]) (fun _ _ => []) (fun _ _ => True) () (by simp only [EVA, ↓reduceIte, Nat.reduceEqDiff, Nat.reduceMul, reduceCtorEq, Nat.reduceAdd, Nat.reduceSub, Nat.reduceLeDiff, Nat.reduceLT, Int.reduceToNat, Int.reduceLE, Int.reduceLT, mens, men]) (by (simp only [EVA, ↓reduceIte, Nat.reduceEqDiff, Nat.reduceMul, reduceCtorEq, Nat.reduceAdd, Nat.reduceSub, Nat.reduceLeDiff, Nat.reduceLT, Int.reduceToNat, Int.reduceLE, Int.reduceLT, mens, men]) <;> rfl) trivial ?_
  intro j _ hj _
  simp only [List.length_map, EVA, ↓reduceIte, Nat.reduceEqDiff, Nat.reduceMul, reduceCtorEq, Nat.reduceAdd, Nat.reduceSub, Nat.reduceLeDiff, Nat.reduceLT, Int.reduceToNat, Int.reduceLE, Int.reduceLT, mens, men]
  refine ite_of (fun hlt => ?_) (fun hge => ?_)
  · have hja : j < b.length := by omega
    have ga := rI_get hja
    have hle := eithI_le (a := a) (b := b.take j)
    rw [List.length_take] at hle
    have hs := eithI_succ (a := a) hja
    simp only [ga, List.length_map, EVA, ↓reduceIte, Nat.reduceEqDiff, Nat.reduceMul, reduceCtorEq, Nat.reduceAdd, Nat.reduceSub, Nat.reduceLeDiff, Nat.reduceLT, Int.reduceToNat, Int.reduceLE, Int.reduceLT, mens, men]
    refine kca_intro (sem_l1Put (eithI a (b.take j)) (g0 b j) (by omega)) ?_
    simp only [EVA, ↓reduceIte, Nat.reduceEqDiff, Nat.reduceMul, reduceCtorEq, Nat.reduceAdd, Nat.reduceSub, Nat.reduceLeDiff, Nat.reduceLT, Int.reduceToNat, Int.reduceLE, Int.reduceLT, mens, men]
    exact ⟨by rw [fits_i64]; omega, cntJ_intro () hja (by rw [hs]; rfl) trivial⟩
  · have : j = b.length := by omega
    subst this
    rw [List.take_length]
theorem sem_l7Table (ls : List (List Int)) (hl : ls.length ≤ 4294967290) (hb : ∀ l ∈ ls, l.length ≤ 4294967290) (lvl : Nat) (S : Sto) : Sem Go.Proofs.Tryz.prog fid_spec_l7Table lvl [.tr (.sl (ls.map eIS))] S (.ow 1 (ls.map eIS) true) S := by
  refine sem_of_chk k_spec_l7Table trivial ?_
  simp only [c_spec_l7Table, List.length_map, EVA, ↓reduceIte, Nat.reduceEqDiff, Nat.reduceMul, reduceCtorEq, Nat.reduceAdd, Nat.reduceSub, Nat.reduceLeDiff, Nat.reduceLT, Int.reduceToNat, Int.reduceLE, Int.reduceLT, mens, men]
  refine wp_cnt (α := Unit) ls.length (fun j _ => [(3, .hd (lvl, 160) [] 0 j none j), (4, iI j)]) (fun j _ => [(160, .ar 1 ((ls.take j).map eIS) true j 0)]) (fun _ _ => True) () (by simp only [EVA, ↓reduceIte, Nat.reduceEqDiff, Nat.reduceMul, reduceCtorEq, Nat.reduceAdd, Nat.reduceSub, Nat.reduceLeDiff, Nat.reduceLT, Int.reduceToNat, Int.reduceLE, Int.reduceLT, mens, men]) (by (simp only [EVA, ↓reduceIte, Nat.reduceEqDiff, Nat.reduceMul, reduceCtorEq, Nat.reduceAdd, Nat.reduceSub, Nat.reduceLeDiff, Nat.reduceLT, Int.reduceToNat, Int.reduceLE, Int.reduceLT, mens, men]) <;> rfl) trivial ?_
  intro j _ hj _
  simp only [List.length_map, EVA, ↓reduceIte, Nat.reduceEqDiff, Nat.reduceMul, reduceCtorEq, Nat.reduceAdd, Nat.reduceSub, Nat.reduceLeDiff, Nat.reduceLT, Int.reduceToNat, Int.reduceLE, Int.reduceLT, mens, men]
  refine ite_of (fun hlt => ?_) (fun hge => ?_)
  · have hja : j < ls.length := by omega
    have ga := getA (c := eIS) hja
    have hx := hb _ (List.getElem_mem hja)
    have hlm : ((ls.take j).map eIS).length = j := by rw [List.length_map, List.length_take]; omega
    have hs : (ls.take (j + 1)).map eIS = (ls.take j).map eIS ++ [[Tr.sl (rI ls[j])]] := by
      rw [List.take_succ_eq_append_getElem hja, List.map_append]
      rfl
    simp only [ga, List.length_map, EVA, ↓reduceIte, Nat.reduceEqDiff, Nat.reduceMul, reduceCtorEq, Nat.reduceAdd, Nat.reduceSub, Nat.reduceLeDiff, Nat.reduceLT, Int.reduceToNat, Int.reduceLE, Int.reduceLT, mens, men]
    refine kca_intro (sem_l1OwnJ ls[j] (by omega)) ?_
    simp only [hlm, List.length_map, EVA, ↓reduceIte, Nat.reduceEqDiff, Nat.reduceMul, reduceCtorEq, Nat.reduceAdd, Nat.reduceSub, Nat.reduceLeDiff, Nat.reduceLT, Int.reduceToNat, Int.reduceLE, Int.reduceLT, mens, men]
    exact ⟨by omega, by rw [fits_i64]; omega, cntJ_intro () hja (by rw [hs]; rfl) trivial⟩
  · have : j = ls.length := by omega
    subst this
    rw [List.take_length]
    exact ⟨rfl, rfl⟩
end Go.Fd

/-
  GROWING, JOINING ROWS OF NUMBERS, SORTING: GENERIC FUNCTIONS OF slices ON NUMBERS. Own work.
-/
namespace Go.Fd
set_option maxRecDepth 20000

theorem sem_GrowI (n : Nat) (hn : n ≤ 4294967296) (lvl : Nat) (S : Sto) : Sem Go.Proofs.Tryz.prog fid_slices_Grow_int_int lvl [.cs [], iI n] S (.ow 1 [] true) S := by
  refine sem_of_chk k_slices_Grow_int_int trivial ?_
  simp only [c_slices_Grow_int_int, EVA, ↓reduceIte, Nat.reduceEqDiff, Nat.reduceMul, reduceCtorEq, Nat.reduceAdd, Nat.reduceSub, Nat.reduceLeDiff, Nat.reduceLT, Int.reduceToNat, Int.reduceLE, Int.reduceLT, mens, men]
  rw [if_neg (by omega)]
  refine ⟨by rw [fits_i64]; omega, by rw [fits_i64]; omega, ?_⟩
  split
  · exact ⟨fun e he => by (cases he), by omega, by omega, by omega⟩
  · trivial
theorem flat_take {α : Type} {ls : List (List α)} {j : Nat} (h : j < ls.length) : (ls.take (j + 1)).flatten = (ls.take j).flatten ++ ls[j] := by
  rw [List.take_succ_eq_append_getElem h, List.flatten_append]
  simp
theorem flat_take_le {α : Type} {ls : List (List α)} {j : Nat} : ((ls.take j).flatten).length ≤ ls.flatten.length := by
  have h := congrArg (fun l => l.flatten.length) (List.take_append_drop j ls)
  simp only [List.flatten_append, List.length_append] at h
  omega

theorem scrI2 {l : List Int} : ScR (rI l) = True := eq_true fun e he t ht => by
  obtain ⟨n, _, rfl⟩ := List.mem_map.1 he
  simp only [List.mem_cons, List.not_mem_nil, or_false] at ht
  subst ht
  rfl
theorem unrI2 {l : List Int} : UnR 1 (rI l) = True := eq_true (UnR_map (fun n : Int => [tv n]) (fun _ => rfl) l)
theorem sem_ConcatI (ls : List (List Int)) (hl : ls.length ≤ 4294967296) (ht : ls.flatten.length ≤ 4294967296) (lvl : Nat) (S : Sto) : Sem Go.Proofs.Tryz.prog fid_slices_Concat_int_int lvl [.tr (.sl (ls.map eIS))] S (.ow 1 (rI ls.flatten) true) S := by
  refine sem_of_chk k_slices_Concat_int_int trivial ?_
  simp only [c_slices_Concat_int_int, List.length_map, EVA, ↓reduceIte, Nat.reduceEqDiff, Nat.reduceMul, reduceCtorEq, Nat.reduceAdd, Nat.reduceSub, Nat.reduceLeDiff, Nat.reduceLT, Int.reduceToNat, Int.reduceLE, Int.reduceLT, mens, men]
  refine wp_cnt (α := Unit) ls.length (fun j _ => [(3, iI ((ls.take j).flatten).length), (11, iI j)]) (fun _ _ => []) (fun _ _ => True) () (by simp only [EVA, ↓reduceIte, Nat.reduceEqDiff, Nat.reduceMul, reduceCtorEq, Nat.reduceAdd, Nat.reduceSub, Nat.reduceLeDiff, Nat.reduceLT, Int.reduceToNat, Int.reduceLE, Int.reduceLT, mens, men]) (by (simp only [EVA, ↓reduceIte, Nat.reduceEqDiff, Nat.reduceMul, reduceCtorEq, Nat.reduceAdd, Nat.reduceSub, Nat.reduceLeDiff, Nat.reduceLT, Int.reduceToNat, Int.reduceLE, Int.reduceLT, mens, men]) <;> rfl) trivial ?_
  intro j _ hj _
  simp only [List.length_map, EVA, ↓reduceIte, Nat.reduceEqDiff, Nat.reduceMul, reduceCtorEq, Nat.reduceAdd, Nat.reduceSub, Nat.reduceLeDiff, Nat.reduceLT, Int.reduceToNat, Int.reduceLE, Int.reduceLT, mens, men]
  refine ite_of (fun hlt => ?_) (fun hge => ?_)
  · have hja : j < ls.length := by omega
    have ga := getA (c := eIS) hja
    have h1 := flat_take (ls := ls) hja
    have h2 := flat_take_le (ls := ls) (j := j + 1)
    rw [h1, List.length_append] at h2
    simp only [ga, List.length_map, EVA, ↓reduceIte, Nat.reduceEqDiff, Nat.reduceMul, reduceCtorEq, Nat.reduceAdd, Nat.reduceSub, Nat.reduceLeDiff, Nat.reduceLT, Int.reduceToNat, Int.reduceLE, Int.reduceLT, mens, men]
    refine ⟨by rw [fits_i64]; omega, ?_⟩
    rw [if_neg (by omega)]
    exact ⟨by rw [fits_i64]; omega, cntJ_intro () hja (by rw [h1, List.length_append]; rfl) trivial⟩
  · have : j = ls.length := by omega
    subst this
    rw [List.take_length]
    refine kcs_intro (sem_GrowI _ ht _ _) ?_
    simp only [List.length_map, EVA, ↓reduceIte, Nat.reduceEqDiff, Nat.reduceMul, reduceCtorEq, Nat.reduceAdd, Nat.reduceSub, Nat.reduceLeDiff, Nat.reduceLT, Int.reduceToNat, Int.reduceLE, Int.reduceLT, mens, men]
    refine wp_cnt (α := Unit) ls.length (fun j _ => [(6, .hd (lvl, 768) [] 0 ((ls.take j).flatten).length none ((ls.take j).flatten).length), (27, iI j)]) (fun j _ => [(768, .ar 1 (rI (ls.take j).flatten) true ((ls.take j).flatten).length 0)]) (fun _ _ => True) () (by simp only [EVA, ↓reduceIte, Nat.reduceEqDiff, Nat.reduceMul, reduceCtorEq, Nat.reduceAdd, Nat.reduceSub, Nat.reduceLeDiff, Nat.reduceLT, Int.reduceToNat, Int.reduceLE, Int.reduceLT, mens, men]) (by (simp only [EVA, ↓reduceIte, Nat.reduceEqDiff, Nat.reduceMul, reduceCtorEq, Nat.reduceAdd, Nat.reduceSub, Nat.reduceLeDiff, Nat.reduceLT, Int.reduceToNat, Int.reduceLE, Int.reduceLT, mens, men]) <;> rfl) trivial ?_
    intro j _ hj _
    simp only [List.length_map, EVA, ↓reduceIte, Nat.reduceEqDiff, Nat.reduceMul, reduceCtorEq, Nat.reduceAdd, Nat.reduceSub, Nat.reduceLeDiff, Nat.reduceLT, Int.reduceToNat, Int.reduceLE, Int.reduceLT, mens, men]
    refine ite_of (fun hlt2 => ?_) (fun hge2 => ?_)
    · have hja : j < ls.length := by omega
      have ga := getA (c := eIS) hja
      have h1 := flat_take (ls := ls) hja
      have h2 := flat_take_le (ls := ls) (j := j + 1)
      rw [h1, List.length_append] at h2
      simp only [ga, scrI2, unrI2, List.length_map, EVA, ↓reduceIte, Nat.reduceEqDiff, Nat.reduceMul, reduceCtorEq, Nat.reduceAdd, Nat.reduceSub, Nat.reduceLeDiff, Nat.reduceLT, Int.reduceToNat, Int.reduceLE, Int.reduceLT, mens, men]
      exact ⟨by omega, by rw [fits_i64]; omega, cntJ_intro () hja (by rw [h1, List.length_append, rI_app, Nat.max_eq_right (Nat.le_add_right _ _)]; rfl) trivial⟩
    · have : j = ls.length := by omega
      subst this
      rw [List.take_length]
end Go.Fd

/-
  SORTING A FEW NUMBERS: insertionSortOrdered ON ANOTHER'S ROW. Own work.
-/
namespace Go.Fd
set_option maxRecDepth 20000

theorem sem_Less (a b : Int) (lvl : Nat) (S : Sto) : Sem Go.Proofs.Tryz.prog fid_cmp_Less_int lvl [iI a, iI b] S (iB (decide (a < b))) S := by
  refine sem_of_chk k_cmp_Less_int trivial ?_
  simp only [c_cmp_Less_int, EVA, ↓reduceIte, Nat.reduceEqDiff, Nat.reduceMul, reduceCtorEq, Nat.reduceAdd, Nat.reduceSub, Nat.reduceLeDiff, Nat.reduceLT, Int.reduceToNat, Int.reduceLE, Int.reduceLT, mens, men]
  refine kca_intro (sem_isNaN a) ?_
  simp only [EVA, ↓reduceIte, Nat.reduceEqDiff, Nat.reduceMul, reduceCtorEq, Nat.reduceAdd, Nat.reduceSub, Nat.reduceLeDiff, Nat.reduceLT, Int.reduceToNat, Int.reduceLE, Int.reduceLT, mens, men]
  
/-- Rising below i. -/
def upTo (x : List Int) (i : Nat) : Prop := ∀ p q, p < q → q < i → g0 x p ≤ g0 x q
/-- Rising up to i but for place j, whose number is below those behind it. -/
def upBut (x : List Int) (i j : Nat) : Prop := (∀ p q, p < q → q ≤ i → p ≠ j → q ≠ j → g0 x p ≤ g0 x q) ∧ ∀ q, j < q → q ≤ i → g0 x j ≤ g0 x q
def swp (x : List Int) (j : Nat) : List Int := (x.set j (g0 x (j - 1))).set (j - 1) (g0 x j)

theorem g0_set {y : List Int} {a b : Nat} {v : Int} (h : a < y.length) : g0 (y.set a v) b = if a = b then v else g0 y b := by
  show (y.set a v).getD b 0 = if a = b then v else y.getD b 0
  rw [List.getD_eq_getElem?_getD, List.getElem?_set, List.getD_eq_getElem?_getD]
  by_cases e : a = b
  · rw [if_pos e, if_pos e, if_pos (by omega)]; rfl
  · rw [if_neg e, if_neg e]
theorem upBut_zero {y : List Int} {i : Nat} (h : upBut y i 0) : upTo y (i + 1) := fun p q h1 h2 => by
  by_cases e : p = 0
  · subst e; exact h.2 q h1 (by omega)
  · exact h.1 p q h1 (by omega) e (by omega)
theorem upBut_stop {y : List Int} {i j : Nat} (h : upBut y i j) (hj : 0 < j) (hji : j ≤ i) (hle : g0 y (j - 1) ≤ g0 y j) : upTo y (i + 1) := fun p q h1 h2 => by
  by_cases e : p = j
  · subst e; exact h.2 q h1 (by omega)
  · by_cases e2 : q = j
    · subst e2
      by_cases e3 : p = q - 1
      · subst e3; exact hle
      · exact Int.le_trans (h.1 p (q - 1) (by omega) (by omega) e (by omega)) hle
    · exact h.1 p q h1 (by omega) e e2
theorem upBut_swp {y : List Int} {i j : Nat} (h : upBut y i j) (hj : 0 < j) (hji : j ≤ i) (hi : i < y.length) (hlt : g0 y j < g0 y (j - 1)) : upBut (swp y j) i (j - 1) := by
  have e : ∀ b, g0 (swp y j) b = if j - 1 = b then g0 y j else if j = b then g0 y (j - 1) else g0 y b := fun b => by
    unfold swp
    rw [g0_set (by rw [List.length_set]; omega), g0_set (by omega)]
  refine ⟨fun p q h1 h2 h3 h4 => ?_, fun q h1 h2 => ?_⟩
  · rw [e p, e q, if_neg (show ¬ j - 1 = p from fun g => h3 g.symm), if_neg (show ¬ j - 1 = q from fun g => h4 g.symm)]
    by_cases ep : j = p
    · rw [if_pos ep, if_neg (show ¬ j = q by omega)]
      exact h.1 (j - 1) q (by omega) h2 (by omega) (by omega)
    · rw [if_neg ep]
      by_cases eq : j = q
      · rw [if_pos eq]
        exact h.1 p (j - 1) (by omega) (by omega) (by omega) (by omega)
      · rw [if_neg eq]
        exact h.1 p q h1 h2 (fun g => ep g.symm) (fun g => eq g.symm)
  · rw [e (j - 1), e q, if_pos rfl, if_neg (show ¬ j - 1 = q by omega)]
    by_cases eq : j = q
    · rw [if_pos eq]; omega
    · rw [if_neg eq]
      exact h.2 q (by omega) h2
theorem swp_perm {y : List Int} {j : Nat} (hj : 0 < j) (hi : j < y.length) : (swp y j).Perm y := by
  have h := @List.set_set_perm _ y j (j - 1) hi (by omega)
  have e1 : g0 y j = y[j] := by simp [g0, hi]
  have e2 : g0 y (j - 1) = y[j - 1]'(by omega) := by
    show y.getD (j - 1) 0 = _
    rw [List.getD_eq_getElem?_getD, List.getElem?_eq_getElem (by omega)]
    rfl
  unfold swp
  rw [e1, e2]
  exact h
theorem setpI {y : List Int} {j : Nat} {v : Int} (h : j < y.length) : setp (rI y) [] j 0 (.v (.int .i64 v)) = rI (y.set j v) := by
  simp only [setp]
  rw [rI_get h]
  exact (List.map_set (f := fun n : Int => [tv n]) (l := y) (i := j) (a := v)).symm

theorem sem_insI (l : List Int) (hl : l.length ≤ 12) (lvl : Nat) (S : Sto) (id : Oid) (u : Bool) (hw ver : Nat) (hid : id.1 < lvl) (hS : S id = some (.ar 1 (rI l) u hw ver)) (srt : List Int) (hsrt : ∀ x : List Int, x.Perm l → upTo x l.length → x = srt) :
    Sem Go.Proofs.Tryz.prog fid_slices_insertionSortOrdered_int lvl [.hd id [] 0 l.length none hw, iI 0, iI l.length] S (.tu []) (sset S id (.ar 1 (rI srt) u hw ver)) := by
  have hne : id.1 ≠ lvl := by omega
  refine sem_of_chk k_slices_insertionSortOrdered_int trivial ?_
  simp only [c_slices_insertionSortOrdered_int, EVA, ↓reduceIte, Nat.reduceEqDiff, Nat.reduceMul, reduceCtorEq, Nat.reduceAdd, Nat.reduceSub, Nat.reduceLeDiff, Nat.reduceLT, Int.reduceToNat, Int.reduceLE, Int.reduceLT, mens, men]
  refine ⟨by rw [fits_i64]; omega, ?_⟩
  refine wp_count (α := List Int) l.length (fun k x => ⟨lvl, [(0, .hd id [] 0 l.length none hw), (1, iI 0), (2, iI l.length), (6, iI ((k + 1 : Nat) : Int))], [], sset S id (.ar 1 (rI x) u hw ver)⟩) (fun k x => x.Perm l ∧ upTo x (k + 1)) l ⟨by simp only [r_okmo hne, EVA, ↓reduceIte, Nat.reduceEqDiff, Nat.reduceMul, reduceCtorEq, Nat.reduceAdd, Nat.reduceSub, Nat.reduceLeDiff, Nat.reduceLT, Int.reduceToNat, Int.reduceLE, Int.reduceLT, mens, men], by (simp only [sset_self hS, EVA, ↓reduceIte, Nat.reduceEqDiff, Nat.reduceMul, reduceCtorEq, Nat.reduceAdd, Nat.reduceSub, Nat.reduceLeDiff, Nat.reduceLT, Int.reduceToNat, Int.reduceLE, Int.reduceLT, mens, men]) <;> rfl⟩ ⟨List.Perm.refl _, fun p q h1 h2 => by omega⟩ ?_
  intro k x hk ⟨hA1, hA2⟩
  have hxl : x.length = l.length := hA1.length_eq
  simp only [EVA, ↓reduceIte, Nat.reduceEqDiff, Nat.reduceMul, reduceCtorEq, Nat.reduceAdd, Nat.reduceSub, Nat.reduceLeDiff, Nat.reduceLT, Int.reduceToNat, Int.reduceLE, Int.reduceLT, mens, men]
  refine ite_of (fun hlt => ?_) (fun hge => ?_)
  · have hk1 : k + 1 < l.length := by omega
    refine wp_count (α := List Int) (k + 1) (fun m y => ⟨lvl, [(0, .hd id [] 0 l.length none hw), (1, iI 0), (2, iI l.length), (6, iI ((k + 1 : Nat) : Int)), (7, iI ((k + 1 - m : Nat) : Int))], [], sset S id (.ar 1 (rI y) u hw ver)⟩) (fun m y => y.Perm l ∧ upBut y (k + 1) (k + 1 - m)) x ⟨by simp only [r_okmo hne, EVA, ↓reduceIte, Nat.reduceEqDiff, Nat.reduceMul, reduceCtorEq, Nat.reduceAdd, Nat.reduceSub, Nat.reduceLeDiff, Nat.reduceLT, Int.reduceToNat, Int.reduceLE, Int.reduceLT, mens, men], by (simp only [EVA, ↓reduceIte, Nat.reduceEqDiff, Nat.reduceMul, reduceCtorEq, Nat.reduceAdd, Nat.reduceSub, Nat.reduceLeDiff, Nat.reduceLT, Int.reduceToNat, Int.reduceLE, Int.reduceLT, mens, men]) <;> rfl⟩ ⟨hA1, fun p q h1 h2 h3 h4 => hA2 p q h1 (by omega), fun q h1 h2 => by omega⟩ ?_
    intro m y hm ⟨hB1, hB2⟩
    have hyl : y.length = l.length := hB1.length_eq
    generalize hj : k + 1 - m = j at hB2 ⊢
    by_cases hj0 : j = 0
    · subst hj0
      simp only [EVA, ↓reduceIte, Nat.reduceEqDiff, Nat.reduceMul, reduceCtorEq, Nat.reduceAdd, Nat.reduceSub, Nat.reduceLeDiff, Nat.reduceLT, Int.reduceToNat, Int.reduceLE, Int.reduceLT, mens, men]
      exact ⟨by rw [fits_i64]; omega, fun h => absurd h hne, cntJ_intro y (by omega) rfl ⟨hB1, upBut_zero hB2⟩⟩
    · have g1 : (0 : Int) < j := by omega
      have e1 : ((j : Int) - 1) = ((j - 1 : Nat) : Int) := by omega
      have gj := rI_get (l := y) (i := j) (by omega)
      have gj1 := rI_get (l := y) (i := j - 1) (by omega)
      have l1 : j < l.length := by omega
      have l2 : j - 1 < l.length := by omega
      simp only [g1, r_packo hne, r_sset, e1, gj, gj1, l1, l2, Nat.zero_add, EVA, ↓reduceIte, Nat.reduceEqDiff, Nat.reduceMul, reduceCtorEq, Nat.reduceAdd, Nat.reduceSub, Nat.reduceLeDiff, Nat.reduceLT, Int.reduceToNat, Int.reduceLE, Int.reduceLT, mens, men]
      refine ⟨by rw [fits_i64]; omega, kca_intro (sem_Less (g0 y j) (g0 y (j - 1))) ?_⟩
      by_cases hlt2 : g0 y j < g0 y (j - 1)
      · have s1 := setpI (y := y) (j := j) (v := g0 y (j - 1)) (by omega)
        have s2 := setpI (y := y.set j (g0 y (j - 1))) (j := j - 1) (v := g0 y j) (by rw [List.length_set]; omega)
        have gj2 := rI_get (l := y.set j (g0 y (j - 1))) (i := j - 1) (by rw [List.length_set]; omega)
        simp only [hlt2, g1, r_packo hne, r_setObo hne, psset_sset, r_sset, r_okmo hne, e1, gj, gj1, gj2, s1, s2, l1, l2, Nat.zero_add, EVA, ↓reduceIte, Nat.reduceEqDiff, Nat.reduceMul, reduceCtorEq, Nat.reduceAdd, Nat.reduceSub, Nat.reduceLeDiff, Nat.reduceLT, Int.reduceToNat, Int.reduceLE, Int.reduceLT, mens, men]
        subst hj
        refine ⟨by rw [fits_i64]; omega, by rw [fits_i64]; omega, by rw [fits_i64]; omega, cntJ_intro (swp y (k + 1 - m)) (by omega) (by rw [show k + 1 - (m + 1) = k + 1 - m - 1 from by omega]; rfl) ⟨(swp_perm (by omega) (by omega)).trans hB1, ?_⟩⟩
        rw [show k + 1 - (m + 1) = k + 1 - m - 1 from by omega]
        exact upBut_swp hB2 (by omega) (by omega) (by omega) hlt2
      · simp only [hlt2, EVA, ↓reduceIte, Nat.reduceEqDiff, Nat.reduceMul, reduceCtorEq, Nat.reduceAdd, Nat.reduceSub, Nat.reduceLeDiff, Nat.reduceLT, Int.reduceToNat, Int.reduceLE, Int.reduceLT, mens, men]
        exact ⟨by rw [fits_i64]; omega, fun h => absurd h hne, cntJ_intro y (by omega) rfl ⟨hB1, upBut_stop hB2 (by omega) (by omega) (by omega)⟩⟩
  · have : k + 1 = l.length ∨ k = l.length := by omega
    have hup : upTo x l.length := fun p q h1 h2 => hA2 p q h1 (by omega)
    have hx := hsrt x hA1 hup
    rw [hx]
end Go.Fd

/-
  SORTING A FEW NUMBERS: slices.Sort. Own work.
-/
namespace Go.Fd
set_option maxRecDepth 20000

theorem sem_pdqI (l : List Int) (hl : l.length ≤ 12) (r : Int) (lvl : Nat) (S : Sto) (id : Oid) (u : Bool) (hw ver : Nat) (hid : id.1 < lvl) (hS : S id = some (.ar 1 (rI l) u hw ver)) (srt : List Int) (hsrt : ∀ x : List Int, x.Perm l → upTo x l.length → x = srt) :
    Sem Go.Proofs.Tryz.prog fid_slices_pdqsortOrdered_int lvl [.hd id [] 0 l.length none hw, iI 0, iI l.length, iI r] S (.tu []) (sset S id (.ar 1 (rI srt) u hw ver)) := by
  have hne : id.1 ≠ lvl := by omega
  refine sem_of_chk k_slices_pdqsortOrdered_int trivial ?_
  simp only [c_slices_pdqsortOrdered_int, EVA, ↓reduceIte, Nat.reduceEqDiff, Nat.reduceMul, reduceCtorEq, Nat.reduceAdd, Nat.reduceSub, Nat.reduceLeDiff, Nat.reduceLT, Int.reduceToNat, Int.reduceLE, Int.reduceLT, mens, men]
  refine wp_count (α := Unit) 0 (fun _ _ => ⟨lvl, [(0, .hd id [] 0 l.length none hw), (1, iI 0), (2, iI l.length), (3, iI r), (8, iB true), (9, iB true)], [], S⟩) (fun _ _ => True) () ⟨by simp only [r_okmo hne, EVA, ↓reduceIte, Nat.reduceEqDiff, Nat.reduceMul, reduceCtorEq, Nat.reduceAdd, Nat.reduceSub, Nat.reduceLeDiff, Nat.reduceLT, Int.reduceToNat, Int.reduceLE, Int.reduceLT, mens, men], by (simp only [EVA, ↓reduceIte, Nat.reduceEqDiff, Nat.reduceMul, reduceCtorEq, Nat.reduceAdd, Nat.reduceSub, Nat.reduceLeDiff, Nat.reduceLT, Int.reduceToNat, Int.reduceLE, Int.reduceLT, mens, men]) <;> rfl⟩ trivial ?_
  intro _ _ _ _
  have h12 : (l.length : Int) - 0 ≤ 12 := by omega
  simp only [h12, EVA, ↓reduceIte, Nat.reduceEqDiff, Nat.reduceMul, reduceCtorEq, Nat.reduceAdd, Nat.reduceSub, Nat.reduceLeDiff, Nat.reduceLT, Int.reduceToNat, Int.reduceLE, Int.reduceLT, mens, men]
  refine ⟨by rw [fits_i64]; omega, ?_⟩
  simp only [arg1]
  refine kcy_intro [] (sset S id (.ar 1 (rI srt) u hw ver)) (fun i hi => by unfold sset; rw [if_neg (fun e => hne (by rw [← e]; exact hi))]) (by
    rw [packS_sset hne]
    exact sem_insI l hl (lvl + 1) (packS lvl [] S) id u hw ver (by omega) (by rw [r_packo hne]; exact hS) srt hsrt) ?_
  simp only [r_okmo hne, EVA, ↓reduceIte, Nat.reduceEqDiff, Nat.reduceMul, reduceCtorEq, Nat.reduceAdd, Nat.reduceSub, Nat.reduceLeDiff, Nat.reduceLT, Int.reduceToNat, Int.reduceLE, Int.reduceLT, mens, men]

theorem sem_len64 {v : Int} (h0 : 0 ≤ v) (h : v ≤ 12) : ∃ r : Int, ∀ (lvl : Nat) (S : Sto), Sem Go.Proofs.Tryz.prog fid_math_bits_Len64 lvl [.tr (.v (.int .u64 v))] S (iI r) S := by
  have : v = 0 ∨ v = 1 ∨ v = 2 ∨ v = 3 ∨ v = 4 ∨ v = 5 ∨ v = 6 ∨ v = 7 ∨ v = 8 ∨ v = 9 ∨ v = 10 ∨ v = 11 ∨ v = 12 := by omega
  rcases this with rfl | rfl | rfl | rfl | rfl | rfl | rfl | rfl | rfl | rfl | rfl | rfl | rfl
  · refine ⟨0, fun lvl S => sem_of_chk k_math_bits_Len64 trivial ?_⟩
    simp only [c_math_bits_Len64, EVA, ↓reduceIte, Nat.reduceEqDiff, Nat.reduceMul, reduceCtorEq, Nat.reduceAdd, Nat.reduceSub, Nat.reduceLeDiff, Nat.reduceLT, Int.reduceToNat, Int.reduceLE, Int.reduceLT, mens, men]
    simp [fits, IntKind.min, IntKind.max, IntKind.signed, IntKind.bits]
  · refine ⟨1, fun lvl S => sem_of_chk k_math_bits_Len64 trivial ?_⟩
    simp only [c_math_bits_Len64, EVA, ↓reduceIte, Nat.reduceEqDiff, Nat.reduceMul, reduceCtorEq, Nat.reduceAdd, Nat.reduceSub, Nat.reduceLeDiff, Nat.reduceLT, Int.reduceToNat, Int.reduceLE, Int.reduceLT, mens, men]
    simp [fits, IntKind.min, IntKind.max, IntKind.signed, IntKind.bits]
  · refine ⟨2, fun lvl S => sem_of_chk k_math_bits_Len64 trivial ?_⟩
    simp only [c_math_bits_Len64, EVA, ↓reduceIte, Nat.reduceEqDiff, Nat.reduceMul, reduceCtorEq, Nat.reduceAdd, Nat.reduceSub, Nat.reduceLeDiff, Nat.reduceLT, Int.reduceToNat, Int.reduceLE, Int.reduceLT, mens, men]
    simp [fits, IntKind.min, IntKind.max, IntKind.signed, IntKind.bits]
  · refine ⟨2, fun lvl S => sem_of_chk k_math_bits_Len64 trivial ?_⟩
    simp only [c_math_bits_Len64, EVA, ↓reduceIte, Nat.reduceEqDiff, Nat.reduceMul, reduceCtorEq, Nat.reduceAdd, Nat.reduceSub, Nat.reduceLeDiff, Nat.reduceLT, Int.reduceToNat, Int.reduceLE, Int.reduceLT, mens, men]
    simp [fits, IntKind.min, IntKind.max, IntKind.signed, IntKind.bits]
  · refine ⟨3, fun lvl S => sem_of_chk k_math_bits_Len64 trivial ?_⟩
    simp only [c_math_bits_Len64, EVA, ↓reduceIte, Nat.reduceEqDiff, Nat.reduceMul, reduceCtorEq, Nat.reduceAdd, Nat.reduceSub, Nat.reduceLeDiff, Nat.reduceLT, Int.reduceToNat, Int.reduceLE, Int.reduceLT, mens, men]
    simp [fits, IntKind.min, IntKind.max, IntKind.signed, IntKind.bits]
  · refine ⟨3, fun lvl S => sem_of_chk k_math_bits_Len64 trivial ?_⟩
    simp only [c_math_bits_Len64, EVA, ↓reduceIte, Nat.reduceEqDiff, Nat.reduceMul, reduceCtorEq, Nat.reduceAdd, Nat.reduceSub, Nat.reduceLeDiff, Nat.reduceLT, Int.reduceToNat, Int.reduceLE, Int.reduceLT, mens, men]
    simp [fits, IntKind.min, IntKind.max, IntKind.signed, IntKind.bits]
  · refine ⟨3, fun lvl S => sem_of_chk k_math_bits_Len64 trivial ?_⟩
    simp only [c_math_bits_Len64, EVA, ↓reduceIte, Nat.reduceEqDiff, Nat.reduceMul, reduceCtorEq, Nat.reduceAdd, Nat.reduceSub, Nat.reduceLeDiff, Nat.reduceLT, Int.reduceToNat, Int.reduceLE, Int.reduceLT, mens, men]
    simp [fits, IntKind.min, IntKind.max, IntKind.signed, IntKind.bits]
  · refine ⟨3, fun lvl S => sem_of_chk k_math_bits_Len64 trivial ?_⟩
    simp only [c_math_bits_Len64, EVA, ↓reduceIte, Nat.reduceEqDiff, Nat.reduceMul, reduceCtorEq, Nat.reduceAdd, Nat.reduceSub, Nat.reduceLeDiff, Nat.reduceLT, Int.reduceToNat, Int.reduceLE, Int.reduceLT, mens, men]
    simp [fits, IntKind.min, IntKind.max, IntKind.signed, IntKind.bits]
  · refine ⟨4, fun lvl S => sem_of_chk k_math_bits_Len64 trivial ?_⟩
    simp only [c_math_bits_Len64, EVA, ↓reduceIte, Nat.reduceEqDiff, Nat.reduceMul, reduceCtorEq, Nat.reduceAdd, Nat.reduceSub, Nat.reduceLeDiff, Nat.reduceLT, Int.reduceToNat, Int.reduceLE, Int.reduceLT, mens, men]
    simp [fits, IntKind.min, IntKind.max, IntKind.signed, IntKind.bits]
  · refine ⟨4, fun lvl S => sem_of_chk k_math_bits_Len64 trivial ?_⟩
    simp only [c_math_bits_Len64, EVA, ↓reduceIte, Nat.reduceEqDiff, Nat.reduceMul, reduceCtorEq, Nat.reduceAdd, Nat.reduceSub, Nat.reduceLeDiff, Nat.reduceLT, Int.reduceToNat, Int.reduceLE, Int.reduceLT, mens, men]
    simp [fits, IntKind.min, IntKind.max, IntKind.signed, IntKind.bits]
  · refine ⟨4, fun lvl S => sem_of_chk k_math_bits_Len64 trivial ?_⟩
    simp only [c_math_bits_Len64, EVA, ↓reduceIte, Nat.reduceEqDiff, Nat.reduceMul, reduceCtorEq, Nat.reduceAdd, Nat.reduceSub, Nat.reduceLeDiff, Nat.reduceLT, Int.reduceToNat, Int.reduceLE, Int.reduceLT, mens, men]
    simp [fits, IntKind.min, IntKind.max, IntKind.signed, IntKind.bits]
  · refine ⟨4, fun lvl S => sem_of_chk k_math_bits_Len64 trivial ?_⟩
    simp only [c_math_bits_Len64, EVA, ↓reduceIte, Nat.reduceEqDiff, Nat.reduceMul, reduceCtorEq, Nat.reduceAdd, Nat.reduceSub, Nat.reduceLeDiff, Nat.reduceLT, Int.reduceToNat, Int.reduceLE, Int.reduceLT, mens, men]
    simp [fits, IntKind.min, IntKind.max, IntKind.signed, IntKind.bits]
  · refine ⟨4, fun lvl S => sem_of_chk k_math_bits_Len64 trivial ?_⟩
    simp only [c_math_bits_Len64, EVA, ↓reduceIte, Nat.reduceEqDiff, Nat.reduceMul, reduceCtorEq, Nat.reduceAdd, Nat.reduceSub, Nat.reduceLeDiff, Nat.reduceLT, Int.reduceToNat, Int.reduceLE, Int.reduceLT, mens, men]
    simp [fits, IntKind.min, IntKind.max, IntKind.signed, IntKind.bits]
theorem sem_len {v : Int} (h0 : 0 ≤ v) (h : v ≤ 12) : ∃ r : Int, ∀ (lvl : Nat) (S : Sto), Sem Go.Proofs.Tryz.prog fid_math_bits_Len lvl [.tr (.v (.int .u64 v))] S (iI r) S := by
  obtain ⟨r, hr⟩ := sem_len64 h0 h
  refine ⟨r, fun lvl S => sem_of_chk k_math_bits_Len trivial ?_⟩
  simp only [c_math_bits_Len, EVA, ↓reduceIte, Nat.reduceEqDiff, Nat.reduceMul, reduceCtorEq, Nat.reduceAdd, Nat.reduceSub, Nat.reduceLeDiff, Nat.reduceLT, Int.reduceToNat, Int.reduceLE, Int.reduceLT, mens, men]
  refine kca_intro hr ?_
  simp only [EVA, ↓reduceIte, Nat.reduceEqDiff, Nat.reduceMul, reduceCtorEq, Nat.reduceAdd, Nat.reduceSub, Nat.reduceLeDiff, Nat.reduceLT, Int.reduceToNat, Int.reduceLE, Int.reduceLT, mens, men]

theorem sem_SortI (l : List Int) (hl : l.length ≤ 12) (lvl : Nat) (S : Sto) (id : Oid) (u : Bool) (hw ver : Nat) (hid : id.1 < lvl) (hS : S id = some (.ar 1 (rI l) u hw ver)) (srt : List Int) (hsrt : ∀ x : List Int, x.Perm l → upTo x l.length → x = srt) :
    Sem Go.Proofs.Tryz.prog fid_slices_Sort_int_int lvl [.hd id [] 0 l.length none hw] S (.tu []) (sset S id (.ar 1 (rI srt) u hw ver)) := by
  have hne : id.1 ≠ lvl := by omega
  obtain ⟨r, hr⟩ := sem_len (v := (l.length : Int)) (by omega) (by omega)
  refine sem_of_chk k_slices_Sort_int_int trivial ?_
  simp only [c_slices_Sort_int_int, EVA, ↓reduceIte, Nat.reduceEqDiff, Nat.reduceMul, reduceCtorEq, Nat.reduceAdd, Nat.reduceSub, Nat.reduceLeDiff, Nat.reduceLT, Int.reduceToNat, Int.reduceLE, Int.reduceLT, mens, men]
  refine ⟨⟨by show (0 : Int) ≤ l.length; omega, by show (l.length : Int) ≤ 18446744073709551615; omega⟩, kca_intro hr ?_⟩
  simp only [EVA, ↓reduceIte, Nat.reduceEqDiff, Nat.reduceMul, reduceCtorEq, Nat.reduceAdd, Nat.reduceSub, Nat.reduceLeDiff, Nat.reduceLT, Int.reduceToNat, Int.reduceLE, Int.reduceLT, mens, men]
  refine kcy_intro [] (sset S id (.ar 1 (rI srt) u hw ver)) (fun i hi => by unfold sset; rw [if_neg (fun e => hne (by rw [← e]; exact hi))]) (by
    rw [packS_sset hne]
    exact sem_pdqI l hl r (lvl + 1) (packS lvl [] S) id u hw ver (by omega) (by rw [r_packo hne]; exact hS) srt hsrt) ?_
  simp only [r_okmo hne, EVA, ↓reduceIte, Nat.reduceEqDiff, Nat.reduceMul, reduceCtorEq, Nat.reduceAdd, Nat.reduceSub, Nat.reduceLeDiff, Nat.reduceLT, Int.reduceToNat, Int.reduceLE, Int.reduceLT, mens, men]
end Go.Fd

/-
  NEIGHBOURS THAT ARE EQUAL FALL AWAY: slices.Compact ON ANOTHER'S ROW. Own work.
-/
namespace Go.Fd
set_option maxRecDepth 20000

/-- The first m elements without those that equal the one before. -/
def cz {α : Type} [DecidableEq α] (g : Nat → α) : Nat → List α
  | 0 => []
  | m + 1 => cz g m ++ if m ≠ 0 ∧ g m = g (m - 1) then [] else [g m]
theorem cz_eq {α : Type} [DecidableEq α] {g : Nat → α} {m : Nat} (h0 : m ≠ 0) (h : g m = g (m - 1)) : cz g (m + 1) = cz g m := by
  rw [cz, if_pos ⟨h0, h⟩, List.append_nil]
theorem cz_ne {α : Type} [DecidableEq α] {g : Nat → α} {m : Nat} (h : g m ≠ g (m - 1)) : cz g (m + 1) = cz g m ++ [g m] := by
  rw [cz, if_neg (fun e => h e.2)]

theorem cz_take {l : List Int} : ∀ {n : Nat}, n ≤ l.length → (∀ m, 0 < m → m < n → g0 l m ≠ g0 l (m - 1)) → cz (g0 l) n = l.take n
  | 0, _, _ => by simp [cz]
  | n + 1, hn, h => by
    have ih := cz_take (n := n) (by omega) fun m h0 h1 => h m h0 (by omega)
    have hx : cz (g0 l) (n + 1) = cz (g0 l) n ++ [g0 l n] := by
      rw [cz, if_neg (fun e => h n (by omega) (by omega) e.2)]
    rw [hx, ih, List.take_succ_eq_append_getElem (by omega)]
    have : g0 l n = l[n]'(by omega) := by
      show l.getD n 0 = _
      rw [List.getD_eq_getElem?_getD, List.getElem?_eq_getElem (by omega)]
      rfl
    rw [this]
theorem take_set_succ {α : Type} {y : List α} {i : Nat} {v : α} (h : i < y.length) : (y.set i v).take (i + 1) = y.take i ++ [v] := by
  rw [List.take_succ_eq_append_getElem (by rw [List.length_set]; exact h), List.getElem_set_self, List.take_set_of_le (Nat.le_refl i)]

theorem widI {lvl : Nat} {S : Sto} {id : Oid} {k hw ver : Nat} {es : Row} {u : Bool} (hne : id.1 ≠ lvl) (hS : S id = some (.ar k es u hw ver)) : wid (packS lvl [] S) id [] k := by
  unfold wid
  rw [r_packo hne, hS]

theorem sem_CompactI (l : List Int) (hl : l.length ≤ 4294967290) (lvl : Nat) (S : Sto) (id : Oid) (u : Bool) (hw ver : Nat) (hid : id.1 < lvl) (hS : S id = some (.ar 1 (rI l) u hw ver)) :
    ∃ v2, Sem Go.Proofs.Tryz.prog fid_slices_Compact_int_int lvl [.hd id [] 0 l.length none hw] S (.hd id [] 0 (cz (g0 l) l.length).length none hw) (sset S id (.ar 1 (rI (cz (g0 l) l.length)) u hw v2)) := by
  have hne : id.1 ≠ lvl := by omega
  by_cases hd : ∀ m, 0 < m → m < l.length → g0 l m ≠ g0 l (m - 1)
  · refine ⟨ver, ?_⟩
    rw [cz_take (Nat.le_refl _) hd, List.take_length, sset_self hS]
    refine sem_of_chk k_slices_Compact_int_int hid ?_
    simp only [c_slices_Compact_int_int, EVA, ↓reduceIte, Nat.reduceEqDiff, Nat.reduceMul, reduceCtorEq, Nat.reduceAdd, Nat.reduceSub, Nat.reduceLeDiff, Nat.reduceLT, Int.reduceToNat, Int.reduceLE, Int.reduceLT, mens, men]
    by_cases h2 : (l.length : Int) < 2
    · rw [if_pos h2]
      simp only [r_expc8 hne, EVA, ↓reduceIte, Nat.reduceEqDiff, Nat.reduceMul, reduceCtorEq, Nat.reduceAdd, Nat.reduceSub, Nat.reduceLeDiff, Nat.reduceLT, Int.reduceToNat, Int.reduceLE, Int.reduceLT, mens, men]
    rw [if_neg h2]
    refine wp_count (α := Unit) l.length (fun k _ => ⟨lvl, [(0, .hd id [] 0 l.length none hw), (3, iI ((k + 1 : Nat) : Int))], [], S⟩) (fun k _ => k + 1 ≤ l.length) () ⟨by simp only [r_okmo hne, EVA, ↓reduceIte, Nat.reduceEqDiff, Nat.reduceMul, reduceCtorEq, Nat.reduceAdd, Nat.reduceSub, Nat.reduceLeDiff, Nat.reduceLT, Int.reduceToNat, Int.reduceLE, Int.reduceLT, mens, men], by (simp only [EVA, ↓reduceIte, Nat.reduceEqDiff, Nat.reduceMul, reduceCtorEq, Nat.reduceAdd, Nat.reduceSub, Nat.reduceLeDiff, Nat.reduceLT, Int.reduceToNat, Int.reduceLE, Int.reduceLT, mens, men]) <;> rfl⟩ (by omega) ?_
    intro k _ hk hA
    simp only [EVA, ↓reduceIte, Nat.reduceEqDiff, Nat.reduceMul, reduceCtorEq, Nat.reduceAdd, Nat.reduceSub, Nat.reduceLeDiff, Nat.reduceLT, Int.reduceToNat, Int.reduceLE, Int.reduceLT, mens, men]
    refine ite_of (fun hlt => ?_) (fun hge => ?_)
    · have gj := rI_get (l := l) (i := k + 1) (by omega)
      have gj1 := rI_get (l := l) (i := k) (by omega)
      have l1 : k + 1 < l.length := by omega
      have l2 : k < l.length := by omega
      have hx := hd (k + 1) (by omega) l1
      rw [Nat.add_sub_cancel] at hx
      have e1 : (((k + 1 : Nat) : Int) - 1) = (k : Int) := by omega
      simp only [r_packo hne, hS, e1, gj, gj1, l1, l2, hx, Nat.zero_add, r_okmo hne, EVA, ↓reduceIte, Nat.reduceEqDiff, Nat.reduceMul, reduceCtorEq, Nat.reduceAdd, Nat.reduceSub, Nat.reduceLeDiff, Nat.reduceLT, Int.reduceToNat, Int.reduceLE, Int.reduceLT, mens, men]
      exact ⟨by rw [fits_i64]; omega, by rw [fits_i64]; omega, cntJ_intro () (by omega) rfl (by omega)⟩
    · simp only [r_expc8 hne, EVA, ↓reduceIte, Nat.reduceEqDiff, Nat.reduceMul, reduceCtorEq, Nat.reduceAdd, Nat.reduceSub, Nat.reduceLeDiff, Nat.reduceLT, Int.reduceToNat, Int.reduceLE, Int.reduceLT, mens, men]
  · refine ⟨ver + 1, ?_⟩
    refine sem_of_chk k_slices_Compact_int_int hid ?_
    simp only [c_slices_Compact_int_int, EVA, ↓reduceIte, Nat.reduceEqDiff, Nat.reduceMul, reduceCtorEq, Nat.reduceAdd, Nat.reduceSub, Nat.reduceLeDiff, Nat.reduceLT, Int.reduceToNat, Int.reduceLE, Int.reduceLT, mens, men]
    by_cases h2 : (l.length : Int) < 2
    · exact absurd (fun m h0 h1 => by omega) hd
    rw [if_neg h2]
    refine wp_count (α := Unit) l.length (fun k _ => ⟨lvl, [(0, .hd id [] 0 l.length none hw), (3, iI ((k + 1 : Nat) : Int))], [], S⟩) (fun k _ => k + 1 ≤ l.length ∧ ∀ m, 0 < m → m < k + 1 → g0 l m ≠ g0 l (m - 1)) () ⟨by simp only [r_okmo hne, EVA, ↓reduceIte, Nat.reduceEqDiff, Nat.reduceMul, reduceCtorEq, Nat.reduceAdd, Nat.reduceSub, Nat.reduceLeDiff, Nat.reduceLT, Int.reduceToNat, Int.reduceLE, Int.reduceLT, mens, men], by (simp only [EVA, ↓reduceIte, Nat.reduceEqDiff, Nat.reduceMul, reduceCtorEq, Nat.reduceAdd, Nat.reduceSub, Nat.reduceLeDiff, Nat.reduceLT, Int.reduceToNat, Int.reduceLE, Int.reduceLT, mens, men]) <;> rfl⟩ ⟨by omega, fun m h0 h1 => by omega⟩ ?_
    intro k _ hk ⟨hA, hB⟩
    simp only [EVA, ↓reduceIte, Nat.reduceEqDiff, Nat.reduceMul, reduceCtorEq, Nat.reduceAdd, Nat.reduceSub, Nat.reduceLeDiff, Nat.reduceLT, Int.reduceToNat, Int.reduceLE, Int.reduceLT, mens, men]
    refine ite_of (fun hlt => ?_) (fun hge => ?_)
    · have gj := rI_get (l := l) (i := k + 1) (by omega)
      have gj1 := rI_get (l := l) (i := k) (by omega)
      have l1 : k + 1 < l.length := by omega
      have l2 : k < l.length := by omega
      have e1 : (((k + 1 : Nat) : Int) - 1) = (k : Int) := by omega
      by_cases hx : g0 l (k + 1) = g0 l k
      · have hc1 := cz_take (l := l) (n := k + 1) (by omega) hB
        have hc2 : cz (g0 l) (k + 1 + 1) = cz (g0 l) (k + 1) := cz_eq (by omega) (by rw [Nat.add_sub_cancel]; exact hx)
        simp only [r_packo hne, hS, e1, gj, gj1, l1, l2, hx, Nat.zero_add, r_okmo hne, EVA, ↓reduceIte, Nat.reduceEqDiff, Nat.reduceMul, reduceCtorEq, Nat.reduceAdd, Nat.reduceSub, Nat.reduceLeDiff, Nat.reduceLT, Int.reduceToNat, Int.reduceLE, Int.reduceLT, mens, men]
        refine ⟨by rw [fits_i64]; omega, by omega, widI hne hS, ?_⟩
        refine wp_count (α := Nat × List Int) l.length (fun m x => ⟨lvl, [(0, .hd id [] 0 l.length none hw), (3, iI (x.1 : Int)), (4, .hd id [] (k + 1) (l.length - (k + 1)) none hw), (5, iI ((m + 1 : Nat) : Int))], [], sset S id (.ar 1 (rI x.2) u hw ver)⟩) (fun m x => k + 1 + m + 1 ≤ l.length ∧ x.2.length = l.length ∧ x.1 = (cz (g0 l) (k + 1 + m + 1)).length ∧ x.2.take x.1 = cz (g0 l) (k + 1 + m + 1) ∧ x.1 ≤ k + 1 + m ∧ ∀ q, k + 1 + m ≤ q → g0 x.2 q = g0 l q) (k + 1, l) ⟨by simp only [r_okmo hne, EVA, ↓reduceIte, Nat.reduceEqDiff, Nat.reduceMul, reduceCtorEq, Nat.reduceAdd, Nat.reduceSub, Nat.reduceLeDiff, Nat.reduceLT, Int.reduceToNat, Int.reduceLE, Int.reduceLT, mens, men], by (simp only [sset_self hS, EVA, ↓reduceIte, Nat.reduceEqDiff, Nat.reduceMul, reduceCtorEq, Nat.reduceAdd, Nat.reduceSub, Nat.reduceLeDiff, Nat.reduceLT, Int.reduceToNat, Int.reduceLE, Int.reduceLT, mens, men]) <;> rfl⟩ ⟨by omega, rfl, by rw [Nat.add_zero, hc2, hc1, List.length_take]; omega, by rw [Nat.add_zero, hc2, hc1], by omega, fun _ _ => rfl⟩ ?_
        intro m ⟨i, y⟩ hm ⟨hm1, hy, hi, ht, hle, hq⟩
        dsimp only at hy hi ht hle hq
        simp only [EVA, ↓reduceIte, Nat.reduceEqDiff, Nat.reduceMul, reduceCtorEq, Nat.reduceAdd, Nat.reduceSub, Nat.reduceLeDiff, Nat.reduceLT, Int.reduceToNat, Int.reduceLE, Int.reduceLT, mens, men]
        refine ite_of (fun hlt2 => ?_) (fun hge2 => ?_)
        · have b1 : k + 1 + (m + 1) < l.length := by omega
          have b2 : m + 1 < l.length - (k + 1) := by omega
          have b3 : m < l.length - (k + 1) := by omega
          have gy := rI_get (l := y) (i := k + 1 + (m + 1)) (by omega)
          have gy1 := rI_get (l := y) (i := k + 1 + m) (by omega)
          have q1 := hq (k + 1 + (m + 1)) (by omega)
          have q2 := hq (k + 1 + m) (by omega)
          have e2 : (((m + 1 : Nat) : Int) - 1) = (m : Int) := by omega
          have b4 : i < l.length := by omega
          by_cases hx2 : g0 l (k + 1 + (m + 1)) = g0 l (k + 1 + m)
          · have hc3 : cz (g0 l) (k + 1 + (m + 1) + 1) = cz (g0 l) (k + 1 + m + 1) := cz_eq (by omega) hx2
            simp only [r_packo hne, r_sset, e2, gy, gy1, q1, q2, b2, b3, hx2, r_okmo hne, EVA, ↓reduceIte, Nat.reduceEqDiff, Nat.reduceMul, reduceCtorEq, Nat.reduceAdd, Nat.reduceSub, Nat.reduceLeDiff, Nat.reduceLT, Int.reduceToNat, Int.reduceLE, Int.reduceLT, mens, men]
            exact ⟨by rw [fits_i64]; omega, by rw [fits_i64]; omega, cntJ_intro (i, y) (by omega) rfl ⟨by omega, hy, by rw [show k + 1 + (m + 1) + 1 = k + 1 + (m + 1) + 1 from rfl, hc3]; exact hi, by rw [hc3]; exact ht, by show i ≤ k + 1 + (m + 1); omega, fun q hqq => hq q (by omega)⟩⟩
          · have hc3 : cz (g0 l) (k + 1 + (m + 1) + 1) = cz (g0 l) (k + 1 + m + 1) ++ [g0 l (k + 1 + (m + 1))] := cz_ne hx2
            have s1 := setpI (y := y) (j := i) (v := g0 l (k + 1 + (m + 1))) (by omega)
            have gy0 := rI_get (l := y) (i := i) (by omega)
            simp only [r_packo hne, r_setObo hne, psset_sset, r_sset, e2, gy, gy0, gy1, q1, q2, b2, b3, b4, hx2, s1, Nat.zero_add, r_okmo hne, EVA, ↓reduceIte, Nat.reduceEqDiff, Nat.reduceMul, reduceCtorEq, Nat.reduceAdd, Nat.reduceSub, Nat.reduceLeDiff, Nat.reduceLT, Int.reduceToNat, Int.reduceLE, Int.reduceLT, mens, men]
            exact ⟨by rw [fits_i64]; omega, by rw [fits_i64]; omega, by rw [fits_i64]; omega, cntJ_intro (i + 1, y.set i (g0 l (k + 1 + (m + 1)))) (by omega) rfl ⟨by omega, by rw [List.length_set]; exact hy, by rw [hc3, List.length_append, ← hi]; rfl, by rw [take_set_succ (by omega), ht, hc3], by show i + 1 ≤ k + 1 + (m + 1); omega, fun q hqq => by
              rw [g0_set (by omega), if_neg (by omega)]
              exact hq q (by omega)⟩⟩
        · have en : k + 1 + m + 1 = l.length := by omega
          rw [en] at hi ht
          refine ⟨by omega, widI hne (r_sset ..), ?_⟩
          have tk : (rI y).take i = rI (cz (g0 l) l.length) := by rw [← ht]; exact (List.map_take ..).symm
          simp only [r_packo hne, r_setObo hne, psset_sset, r_sset, tk, List.length_map, hy, EVA, ↓reduceIte, Nat.reduceEqDiff, Nat.reduceMul, reduceCtorEq, Nat.reduceAdd, Nat.reduceSub, Nat.reduceLeDiff, Nat.reduceLT, Int.reduceToNat, Int.reduceLE, Int.reduceLT, mens, men]
          refine ⟨by omega, by omega, by omega, by omega, widI hne (r_sset ..), ?_⟩
          simp only [r_expc8 hne, Nat.sub_zero, hi, EVA, ↓reduceIte, Nat.reduceEqDiff, Nat.reduceMul, reduceCtorEq, Nat.reduceAdd, Nat.reduceSub, Nat.reduceLeDiff, Nat.reduceLT, Int.reduceToNat, Int.reduceLE, Int.reduceLT, mens, men]
      · simp only [r_packo hne, hS, e1, gj, gj1, l1, l2, hx, Nat.zero_add, r_okmo hne, EVA, ↓reduceIte, Nat.reduceEqDiff, Nat.reduceMul, reduceCtorEq, Nat.reduceAdd, Nat.reduceSub, Nat.reduceLeDiff, Nat.reduceLT, Int.reduceToNat, Int.reduceLE, Int.reduceLT, mens, men]
        exact ⟨by rw [fits_i64]; omega, by rw [fits_i64]; omega, cntJ_intro () (by omega) rfl ⟨by omega, fun m h0 h1 => by
          by_cases e : m = k + 1
          · subst e; exact hx
          · exact hB m h0 (by omega)⟩⟩
    · exact absurd (fun m h0 h1 => hB m h0 (by omega)) hd

/-- A call that changes one own object; or one of another. -/
theorem kcy_own {C : Contract} {env : List (Nat × IV)} {loc : List (Nat × Ob)} {out : Sto} {d : Option Nat} {K : St → Prop} {fid : FuncId} {imp : Bool} {lvl : Nat} {args : List IV} {r : IV} (key : Nat) (o : Ob) (h : C fid (lvl + 1) args (packS lvl loc out) r (sset (packS lvl loc out) (lvl, key) o))
    (hk : freshK (keyOf d) (ptO key o loc) (impv imp lvl (keyOf d) 0 r).2.length ∧ K ⟨lvl, ptd d (impv imp lvl (keyOf d) 0 r).1 env, addO (keyOf d) (impv imp lvl (keyOf d) 0 r).2 (ptO key o loc), out⟩) : kcy C fid imp lvl env loc out d K args :=
  kcy_intro (ptO key o loc) out (fun _ _ => rfl) (by rw [packS_ptO]; exact h) hk

theorem kcy_ownx {C : Contract} {env : List (Nat × IV)} {loc : List (Nat × Ob)} {out : Sto} {d : Option Nat} {K : St → Prop} {fid : FuncId} {imp : Bool} {lvl : Nat} {args : List IV} {r : IV} (key : Nat) (o : Nat → Ob) (h : ∃ v, C fid (lvl + 1) args (packS lvl loc out) r (sset (packS lvl loc out) (lvl, key) (o v)))
    (hk : ∀ v, freshK (keyOf d) (ptO key (o v) loc) (impv imp lvl (keyOf d) 0 r).2.length ∧ K ⟨lvl, ptd d (impv imp lvl (keyOf d) 0 r).1 env, addO (keyOf d) (impv imp lvl (keyOf d) 0 r).2 (ptO key (o v) loc), out⟩) : kcy C fid imp lvl env loc out d K args := by
  obtain ⟨v, h⟩ := h
  exact kcy_own key (o v) h (hk v)

theorem sem_either (a b : List Int) (hl : a.length + b.length ≤ 12) (srt : List Int) (hsrt : ∀ x : List Int, x.Perm (a ++ b) → upTo x (a ++ b).length → x = srt) (hp : srt.length = (a ++ b).length) (lvl : Nat) (S : Sto) :
    Sem Go.Proofs.Tryz.prog fid_impl_either lvl [tI a, tI b] S (.ow 1 (rI (cz (g0 srt) srt.length)) true) S := by
  refine sem_of_chk k_impl_either trivial ?_
  simp only [c_impl_either, EVA, ↓reduceIte, Nat.reduceEqDiff, Nat.reduceMul, reduceCtorEq, Nat.reduceAdd, Nat.reduceSub, Nat.reduceLeDiff, Nat.reduceLT, Int.reduceToNat, Int.reduceLE, Int.reduceLT, mens, men]
  have hf : [a, b].flatten = a ++ b := by simp
  have hc := sem_ConcatI [a, b] (by simp) (by rw [hf, List.length_append]; omega)
  rw [hf] at hc
  refine ⟨by simp, by simp, kca_intro hc ?_⟩
  simp only [EVA, ↓reduceIte, Nat.reduceEqDiff, Nat.reduceMul, reduceCtorEq, Nat.reduceAdd, Nat.reduceSub, Nat.reduceLeDiff, Nat.reduceLT, Int.reduceToNat, Int.reduceLE, Int.reduceLT, mens, men]
  have n1 : (a ++ b).length ≤ 12 := by rw [List.length_append]; omega
  have s1 := fun S' hS => sem_SortI (a ++ b) n1 (lvl + 1) S' (lvl, 288) true (a ++ b).length 0 (Nat.lt_succ_self _) hS srt hsrt
  refine kcy_own 288 _ (s1 _ ?_) ?_
  · rw [r_pack]; rfl
  simp only [EVA, ↓reduceIte, Nat.reduceEqDiff, Nat.reduceMul, reduceCtorEq, Nat.reduceAdd, Nat.reduceSub, Nat.reduceLeDiff, Nat.reduceLT, Int.reduceToNat, Int.reduceLE, Int.reduceLT, mens, men]
  have s2 := fun S' hS => sem_CompactI srt (by omega) (lvl + 1) S' (lvl, 288) true (a ++ b).length 0 (Nat.lt_succ_self _) hS
  rw [show arg1 (IV.hd (lvl, 288) [] 0 (a ++ b).length none (a ++ b).length) = IV.hd (lvl, 288) [] 0 srt.length none (a ++ b).length from by rw [hp]; rfl]
  refine kcy_ownx 288 _ (s2 _ ?_) fun v => ?_
  · rw [r_pack]; rfl
  simp only [List.length_map, EVA, ↓reduceIte, Nat.reduceEqDiff, Nat.reduceMul, reduceCtorEq, Nat.reduceAdd, Nat.reduceSub, Nat.reduceLeDiff, Nat.reduceLT, Int.reduceToNat, Int.reduceLE, Int.reduceLT, mens, men]
end Go.Fd

/-
  NUMBERS FALL OUT OF ANOTHER'S ROW: slices.DeleteFunc; common. Own work.
-/
namespace Go.Fd
set_option maxRecDepth 20000

theorem sem_CloneJ (l : List Int) (hl : l.length ≤ 4294967296) (lvl : Nat) (S : Sto) : Sem Go.Proofs.Tryz.prog fid_slices_Clone_int_int lvl [tI l] S (.ow 1 (rI l) true) S := by
  refine sem_of_chk k_slices_Clone_int_int trivial ?_
  simp only [c_slices_Clone_int_int, List.length_map, scrI2, unrI2, EVA, ↓reduceIte, Nat.reduceEqDiff, Nat.reduceMul, reduceCtorEq, Nat.reduceAdd, Nat.reduceSub, Nat.reduceLeDiff, Nat.reduceLT, Int.reduceToNat, Int.reduceLE, Int.reduceLT, mens, men]
  exact ⟨hl, fun h => by rw [h]⟩
theorem sem_combined (s t : TSorting) (fl fm : FuncId) (L : List Int → List Int → List Int) (M : Int → Int → Int) (hs : bdSorting 4294967280 s) (ht : bdSorting 4294967280 t) (e1 : s.nest.length = t.nest.length) (e2 : s.sorts.length = s.nest.length) (e3 : s.most.length = t.most.length)
    (h0 : ∀ lvl S, Sem Go.Proofs.Tryz.prog fl lvl [tI s.tops, tI t.tops] S (.ow 1 (rI (L s.tops t.tops)) true) S) (hN : ∀ k (h : k < s.nest.length) (h2 : k < t.nest.length) lvl S, Sem Go.Proofs.Tryz.prog fl lvl [tI s.nest[k], tI t.nest[k]] S (.ow 1 (rI (L s.nest[k] t.nest[k])) true) S)
    (hM : ∀ a b lvl S, Sem Go.Proofs.Tryz.prog fm lvl [iI a, iI b] S (iI (M a b)) S) (lvl : Nat) (S : Sto) :
    Sem Go.Proofs.Tryz.prog fid_impl_combined lvl [.ag ((cSorting s).map .tr), .ag ((cSorting t).map .tr), .fn fl [], .fn fm []] S (oSorting ⟨L s.tops t.tops, List.zipWith L s.nest t.nest, s.sorts, List.zipWith M s.most t.most, []⟩) S := by
  obtain ⟨b1, b2, b3, b4, b5, b6, b7⟩ := hs
  obtain ⟨c1, c2, c3, c4, c5, c6, c7⟩ := ht
  refine sem_of_chk k_impl_combined (by simp [oSorting, low, men, mens]) ?_
  simp only [c_impl_combined, cSorting, EVA, ↓reduceIte, Nat.reduceEqDiff, Nat.reduceMul, reduceCtorEq, Nat.reduceAdd, Nat.reduceSub, Nat.reduceLeDiff, Nat.reduceLT, Int.reduceToNat, Int.reduceLE, Int.reduceLT, mens, men]
  refine kca_intro h0 ?_
  simp only [List.length_map, EVA, ↓reduceIte, Nat.reduceEqDiff, Nat.reduceMul, reduceCtorEq, Nat.reduceAdd, Nat.reduceSub, Nat.reduceLeDiff, Nat.reduceLT, Int.reduceToNat, Int.reduceLE, Int.reduceLT, mens, men]
  have n1 : (List.zipWith L s.nest t.nest).length = s.nest.length := by rw [List.length_zipWith]; omega
  have n2 : (List.zipWith M s.most t.most).length = s.most.length := by rw [List.length_zipWith]; omega
  refine wp_cnt (α := Unit) s.nest.length (fun j _ => [(23, iI j)]) (fun j _ => [(288, .bx [.hd (lvl, 576) [] 0 (L s.tops t.tops).length none (L s.tops t.tops).length, .hd (lvl, 608) [] 0 j none j, .hd (lvl, 609) [] 0 j none j, .hd (lvl, 610) [] 0 0 none 0, .cs []]), (608, .ar 1 (((List.zipWith L s.nest t.nest).take j).map eIS) true j 0), (609, .ar 1 ((s.sorts.take j).map eIS) true j 0)]) (fun _ _ => True) () (by simp only [EVA, ↓reduceIte, Nat.reduceEqDiff, Nat.reduceMul, reduceCtorEq, Nat.reduceAdd, Nat.reduceSub, Nat.reduceLeDiff, Nat.reduceLT, Int.reduceToNat, Int.reduceLE, Int.reduceLT, mens, men]) (by (simp only [EVA, ↓reduceIte, Nat.reduceEqDiff, Nat.reduceMul, reduceCtorEq, Nat.reduceAdd, Nat.reduceSub, Nat.reduceLeDiff, Nat.reduceLT, Int.reduceToNat, Int.reduceLE, Int.reduceLT, mens, men]) <;> rfl) trivial ?_
  intro j _ hj _
  simp only [List.length_map, EVA, ↓reduceIte, Nat.reduceEqDiff, Nat.reduceMul, reduceCtorEq, Nat.reduceAdd, Nat.reduceSub, Nat.reduceLeDiff, Nat.reduceLT, Int.reduceToNat, Int.reduceLE, Int.reduceLT, mens, men]
  refine ite_of (fun hlt => ?_) (fun hge => ?_)
  · have hja : j < s.nest.length := by omega
    have hjb : j < t.nest.length := by omega
    have hjc : j < s.sorts.length := by omega
    have ga := getA (c := eIS) hja
    have gb := getA (c := eIS) hjb
    have gc := getA (c := eIS) hjc
    have k5 := b5 _ (List.getElem_mem hjc)
    have hl1 : (((List.zipWith L s.nest t.nest).take j).map eIS).length = j := by rw [List.length_map, List.length_take]; omega
    have hl2 : ((s.sorts.take j).map eIS).length = j := by rw [List.length_map, List.length_take]; omega
    have st1 : ((List.zipWith L s.nest t.nest).take j).map eIS ++ [[Tr.sl (rI (L s.nest[j] t.nest[j]))]] = ((List.zipWith L s.nest t.nest).take (j + 1)).map eIS := by
      rw [List.take_succ_eq_append_getElem (by omega), List.map_append, List.getElem_zipWith]
      rfl
    have st2 : (s.sorts.take j).map eIS ++ [[Tr.sl (rI s.sorts[j])]] = (s.sorts.take (j + 1)).map eIS := by
      rw [List.take_succ_eq_append_getElem (by omega), List.map_append]
      rfl
    simp only [ga, gb, gc, hja, hjb, hjc, EVA, ↓reduceIte, Nat.reduceEqDiff, Nat.reduceMul, reduceCtorEq, Nat.reduceAdd, Nat.reduceSub, Nat.reduceLeDiff, Nat.reduceLT, Int.reduceToNat, Int.reduceLE, Int.reduceLT, mens, men]
    refine kca_intro (hN j hja hjb) ?_
    simp only [ga, gb, gc, hja, hjb, hjc, hl1, hl2, EVA, ↓reduceIte, Nat.reduceEqDiff, Nat.reduceMul, reduceCtorEq, Nat.reduceAdd, Nat.reduceSub, Nat.reduceLeDiff, Nat.reduceLT, Int.reduceToNat, Int.reduceLE, Int.reduceLT, mens, men]
    refine ⟨by omega, kca_intro (sem_CloneJ s.sorts[j] (by omega)) ?_⟩
    simp only [hl1, hl2, st1, st2, EVA, ↓reduceIte, Nat.reduceEqDiff, Nat.reduceMul, reduceCtorEq, Nat.reduceAdd, Nat.reduceSub, Nat.reduceLeDiff, Nat.reduceLT, Int.reduceToNat, Int.reduceLE, Int.reduceLT, mens, men]
    exact ⟨by omega, by rw [fits_i64]; omega, cntJ_intro () hja rfl trivial⟩
  · have : j = s.nest.length := by omega
    subst this
    have f1 : (List.zipWith L s.nest t.nest).take s.nest.length = List.zipWith L s.nest t.nest := List.take_of_length_le (by omega)
    have f2 : s.sorts.take s.nest.length = s.sorts := List.take_of_length_le (by omega)
    rw [f1, f2]
    refine wp_cnt (α := Unit) s.most.length (fun j _ => [(58, iI j)]) (fun j _ => [(288, .bx [.hd (lvl, 576) [] 0 (L s.tops t.tops).length none (L s.tops t.tops).length, .hd (lvl, 608) [] 0 s.nest.length none s.nest.length, .hd (lvl, 609) [] 0 s.nest.length none s.nest.length, .hd (lvl, 610) [] 0 j none j, .cs []]), (610, .ar 1 (rI ((List.zipWith M s.most t.most).take j)) true j 0)]) (fun _ _ => True) () (by simp only [EVA, ↓reduceIte, Nat.reduceEqDiff, Nat.reduceMul, reduceCtorEq, Nat.reduceAdd, Nat.reduceSub, Nat.reduceLeDiff, Nat.reduceLT, Int.reduceToNat, Int.reduceLE, Int.reduceLT, mens, men]) (by (simp only [EVA, ↓reduceIte, Nat.reduceEqDiff, Nat.reduceMul, reduceCtorEq, Nat.reduceAdd, Nat.reduceSub, Nat.reduceLeDiff, Nat.reduceLT, Int.reduceToNat, Int.reduceLE, Int.reduceLT, mens, men]) <;> rfl) trivial ?_
    intro j _ hj _
    simp only [List.length_map, EVA, ↓reduceIte, Nat.reduceEqDiff, Nat.reduceMul, reduceCtorEq, Nat.reduceAdd, Nat.reduceSub, Nat.reduceLeDiff, Nat.reduceLT, Int.reduceToNat, Int.reduceLE, Int.reduceLT, mens, men]
    refine ite_of (fun hlt => ?_) (fun hge => ?_)
    · have hja : j < s.most.length := by omega
      have hjb : j < t.most.length := by omega
      have ga := rI_get hja
      have gb := rI_get hjb
      have hl1 : (rI ((List.zipWith M s.most t.most).take j)).length = j := by rw [List.length_map, List.length_take]; omega
      have st1 : rI ((List.zipWith M s.most t.most).take j) ++ [[tv (M (g0 s.most j) (g0 t.most j))]] = rI ((List.zipWith M s.most t.most).take (j + 1)) := by
        rw [List.take_succ_eq_append_getElem (by omega), rI_app, List.getElem_zipWith]
        simp [hja, hjb]
      simp only [ga, gb, hja, hjb, EVA, ↓reduceIte, Nat.reduceEqDiff, Nat.reduceMul, reduceCtorEq, Nat.reduceAdd, Nat.reduceSub, Nat.reduceLeDiff, Nat.reduceLT, Int.reduceToNat, Int.reduceLE, Int.reduceLT, mens, men]
      refine kca_intro (hM (g0 s.most j) (g0 t.most j)) ?_
      simp only [ga, gb, hja, hjb, hl1, st1, EVA, ↓reduceIte, Nat.reduceEqDiff, Nat.reduceMul, reduceCtorEq, Nat.reduceAdd, Nat.reduceSub, Nat.reduceLeDiff, Nat.reduceLT, Int.reduceToNat, Int.reduceLE, Int.reduceLT, mens, men]
      exact ⟨by omega, by rw [fits_i64]; omega, cntJ_intro () hja rfl trivial⟩
    · have : j = s.most.length := by omega
      subst this
      have f3 : (List.zipWith M s.most t.most).take s.most.length = List.zipWith M s.most t.most := List.take_of_length_le (by omega)
      rw [f3]
      exact ⟨n1.symm, e2.symm, n2.symm, rfl⟩
end Go.Fd

/-
  SORTING A FEW PAIRS: insertionSortCmpFunc ON ANOTHER'S ROW; RISING LISTS OF ANY ORDER. Own work.
-/
namespace Go.Fd
set_option maxRecDepth 20000

section
variable {α : Type} {e0 : α} {lt : α → α → Prop}
/-- The element at a place. -/
def gx (e0 : α) (l : List α) (i : Nat) : α := l.getD i e0
theorem gx_eq {l : List α} {i : Nat} (h : i < l.length) : gx e0 l i = l[i] := by
  unfold gx
  rw [List.getD_eq_getElem?_getD, List.getElem?_eq_getElem h]
  rfl
def upToG (e0 : α) (lt : α → α → Prop) (x : List α) (i : Nat) : Prop := ∀ p q, p < q → q < i → ¬ lt (gx e0 x q) (gx e0 x p)
end

def ltP (a b : A2) : Prop := cmp2 a b < 0
end Go.Fd

/-
  LISTS IN ORDER: THE ONE RISING LIST OF SOME MEMBERS. Own work.
-/
namespace Go.Fd
set_option maxRecDepth 20000

structure Ords {α : Type} (lt : α → α → Prop) : Prop where
  irr : ∀ a, ¬ lt a a
  tr : ∀ a b c, lt a b → lt b c → lt a c
  tri : ∀ a b, lt a b ∨ a = b ∨ lt b a
theorem Ords.asym {α : Type} {lt : α → α → Prop} (O : Ords lt) (a b : α) (h : lt a b) : ¬ lt b a := fun g => O.irr a (O.tr _ _ _ h g)

section
variable {α : Type} {e0 : α} {lt : α → α → Prop}
theorem eq_of_mem (O : Ords lt) : ∀ {x y : List α}, x.Pairwise lt → y.Pairwise lt → (∀ c, c ∈ x ↔ c ∈ y) → x = y
  | [], [], _, _, _ => rfl
  | [], b :: s, _, _, h => by have := (h b).2 (by simp); simp at this
  | a :: r, [], _, _, h => by have := (h a).1 (by simp); simp at this
  | a :: r, b :: s, hx, hy, h => by
    rw [List.pairwise_cons] at hx hy
    have e : a = b := by
      rcases List.mem_cons.1 ((h a).1 (by simp)) with e | h1
      · exact e
      · rcases List.mem_cons.1 ((h b).2 (by simp)) with e | h2
        · exact e.symm
        · exact absurd (hy.1 a h1) (O.asym _ _ (hx.1 b h2))
    subst e
    congr 1
    refine eq_of_mem O hx.2 hy.2 fun c => ⟨fun hc => ?_, fun hc => ?_⟩
    · rcases List.mem_cons.1 ((h c).1 (by simp [hc])) with e | h1
      · subst e; exact absurd (hx.1 c hc) (O.irr c)
      · exact h1
    · rcases List.mem_cons.1 ((h c).2 (by simp [hc])) with e | h1
      · subst e; exact absurd (hy.1 c hc) (O.irr c)
      · exact h1
theorem perm_eq (O : Ords lt) : ∀ {x y : List α}, x.Pairwise (fun a b => ¬ lt b a) → y.Pairwise (fun a b => ¬ lt b a) → x.Perm y → x = y
  | [], y, _, _, h => by rw [List.nil_perm.1 h]
  | a :: r, [], _, _, h => by have := h.length_eq; simp at this
  | a :: r, b :: s, hx, hy, h => by
    rw [List.pairwise_cons] at hx hy
    have e : a = b := by
      rcases List.mem_cons.1 (h.mem_iff.1 (List.mem_cons_self (a := a) (l := r))) with e | h1
      · exact e
      · rcases List.mem_cons.1 (h.mem_iff.2 (List.mem_cons_self (a := b) (l := s))) with e | h2
        · exact e.symm
        · rcases O.tri a b with g | g | g
          · exact absurd g (hy.1 a h1)
          · exact g
          · exact absurd g (hx.1 b h2)
    subst e
    congr 1
    exact perm_eq O hx.2 hy.2 h.cons_inv
theorem upToG_pw {x : List α} (h : upToG e0 lt x x.length) : x.Pairwise (fun a b => ¬ lt b a) := List.pairwise_iff_getElem.2 fun i j hi hj hij => by
  have := h i j hij hj
  rwa [gx_eq hi, gx_eq hj] at this
/-- The rising permutation. -/
noncomputable def srtG (lt : α → α → Prop) (l : List α) : List α := l.mergeSort fun a b => @decide (¬ lt b a) (Classical.propDecidable _)
theorem srtG_perm {l : List α} : (srtG lt l).Perm l := List.mergeSort_perm ..
theorem srtG_pw (O : Ords lt) {l : List α} : (srtG lt l).Pairwise (fun a b => ¬ lt b a) := by
  classical
  have h := List.pairwise_mergeSort (le := fun a b => @decide (¬ lt b a) (Classical.propDecidable _)) (fun a b c h1 h2 => by
    simp only [decide_eq_true_eq] at *
    intro g
    rcases O.tri a b with k | k | k
    · exact h2 (O.tr _ _ _ g k)
    · subst k; exact h2 g
    · exact h1 k) (fun a b => by
    simp only [Bool.or_eq_true, decide_eq_true_eq]
    by_cases g : lt b a
    · exact .inr (O.asym _ _ g)
    · exact .inl g) l
  exact h.imp (fun h => by simpa using h)
theorem srtG_one (O : Ords lt) {l x : List α} (hp : x.Perm l) (hu : upToG e0 lt x l.length) : x = srtG lt l := by
  rw [← hp.length_eq] at hu
  exact perm_eq O (upToG_pw hu) (srtG_pw O) (hp.trans srtG_perm.symm)
theorem cz_mem [DecidableEq α] {g : Nat → α} {c : α} : ∀ {n : Nat}, c ∈ cz g n ↔ ∃ i, i < n ∧ g i = c
  | 0 => by simp [cz]
  | n + 1 => by
    rw [cz, List.mem_append, cz_mem (n := n)]
    constructor
    · rintro (⟨i, h1, h2⟩ | h)
      · exact ⟨i, by omega, h2⟩
      · split at h
        · cases h
        · exact ⟨n, by omega, (List.mem_singleton.1 h).symm⟩
    · rintro ⟨i, h1, h2⟩
      by_cases e : i = n
      · subst e
        by_cases k : i ≠ 0 ∧ g i = g (i - 1)
        · exact .inl ⟨i - 1, by omega, k.2.symm.trans h2⟩
        · rw [if_neg k]; exact .inr (by simp [h2])
      · exact .inl ⟨i, by omega, h2⟩
theorem cz_pw (O : Ords lt) [DecidableEq α] {g : Nat → α} : ∀ {n : Nat}, (∀ i j, i < j → j < n → ¬ lt (g j) (g i)) → (cz g n).Pairwise lt
  | 0, _ => by simp [cz]
  | n + 1, h => by
    have ih := cz_pw O (n := n) fun i j h1 h2 => h i j h1 (by omega)
    by_cases k : n ≠ 0 ∧ g n = g (n - 1)
    · rw [cz_eq k.1 k.2]; exact ih
    · have hx : cz g (n + 1) = cz g n ++ [g n] := by rw [cz, if_neg k]
      rw [hx, List.pairwise_append]
      refine ⟨ih, by simp, fun c hc d hd => ?_⟩
      rw [List.mem_singleton] at hd
      subst hd
      obtain ⟨i, h1, rfl⟩ := cz_mem.1 hc
      have hn0 : n ≠ 0 := by omega
      rcases O.tri (g i) (g n) with e | e | e
      · exact e
      · exfalso
        have e1 : ¬ lt (g n) (g (n - 1)) := h (n - 1) n (by omega) (by omega)
        have e2 : ¬ lt (g (n - 1)) (g i) := by
          by_cases q : i = n - 1
          · subst q; exact O.irr _
          · exact h i (n - 1) (by omega) (by omega)
        rw [e] at e2
        rcases O.tri (g n) (g (n - 1)) with q | q | q
        · exact e1 q
        · exact k ⟨hn0, q⟩
        · exact e2 q
      · exact absurd e (h i n h1 (by omega))
/-- The members of a list in order, each once. -/
noncomputable def setG [DecidableEq α] (e0 : α) (lt : α → α → Prop) (l : List α) : List α := cz (gx e0 (srtG lt l)) (srtG lt l).length
theorem setG_pw (O : Ords lt) [DecidableEq α] {l : List α} : (setG e0 lt l).Pairwise lt := cz_pw O fun i j h1 h2 => by
  rw [gx_eq h2, gx_eq (Nat.lt_trans h1 h2)]
  exact List.pairwise_iff_getElem.1 (srtG_pw O) i j _ _ h1
theorem setG_mem [DecidableEq α] {l : List α} {c : α} : c ∈ setG e0 lt l ↔ c ∈ l := by
  unfold setG
  rw [cz_mem, ← (srtG_perm (lt := lt) (l := l)).mem_iff]
  constructor
  · rintro ⟨i, h1, h2⟩
    rw [gx_eq h1] at h2
    rw [← h2]; exact List.getElem_mem h1
  · intro h
    obtain ⟨i, h1, h2⟩ := List.getElem_of_mem h
    exact ⟨i, h1, by rw [gx_eq h1]; exact h2⟩
theorem setG_eq (O : Ords lt) [DecidableEq α] {l y : List α} (hy : y.Pairwise lt) (h : ∀ c, c ∈ l ↔ c ∈ y) : setG e0 lt l = y := eq_of_mem O (setG_pw O) hy fun c => setG_mem.trans (h c)
end
theorem ordsI : Ords (fun a b : Int => a < b) := ⟨fun a => Int.lt_irrefl a, fun a b c => Int.lt_trans, fun a b => Int.lt_trichotomy a b⟩
theorem ordsP : Ords ltP := by
  refine ⟨fun a => ?_, fun a b c h1 h2 => ?_, fun a b => ?_⟩
  · unfold ltP; rw [cmp2_lt]; unfold lt2; omega
  · unfold ltP at *; rw [cmp2_lt] at *; unfold lt2 at *; omega
  · unfold ltP; rw [cmp2_lt, cmp2_lt]; unfold lt2
    obtain ⟨a1, a2⟩ := a
    obtain ⟨b1, b2⟩ := b
    simp only [Prod.mk.injEq]
    omega
theorem ris_pw {lo hi : Int} {l : List Int} (h : Ris lo hi l) : l.Pairwise (fun a b => a < b) := by
  have key : ∀ d i, i + d + 1 < l.length → g0 l i < g0 l (i + d + 1) := fun d => by
    induction d with
    | zero => intro i hi; have := (h (i + 0 + 1) hi).2.2 (by omega); simpa using this
    | succ d ih =>
      intro i hi
      have h1 := ih i (by omega)
      have h2 := (h (i + (d + 1) + 1) hi).2.2 (by omega)
      rw [show i + (d + 1) + 1 - 1 = i + d + 1 from by omega] at h2
      omega
  refine List.pairwise_iff_getElem.2 fun i j hi hj hij => ?_
  have := key (j - i - 1) i (by omega)
  rw [show i + (j - i - 1) + 1 = j from by omega] at this
  simpa [hi, hj] using this
theorem ris_in {lo hi : Int} {l : List Int} (h : Ris lo hi l) {n : Int} (hn : n ∈ l) : lo ≤ n ∧ n ≤ hi := by
  obtain ⟨i, hi, rfl⟩ := List.getElem_of_mem hn
  have := h i hi
  simp [hi] at this
  exact ⟨this.1, this.2.1⟩
theorem pw_len {lo : Int} : ∀ {l : List Int} {k : Nat}, l.Pairwise (fun a b => a < b) → (∀ n ∈ l, lo ≤ n ∧ n < lo + k) → l.length ≤ k := fun {l k} hp hb => by
  induction l generalizing lo k with
  | nil => simp
  | cons a r ih =>
    rw [List.pairwise_cons] at hp
    have ha := hb a (by simp)
    have := ih (lo := a + 1) (k := (lo + k - (a + 1)).toNat) hp.2 fun n hn => by
      have h1 := hp.1 n hn
      have h2 := hb n (by simp [hn])
      omega
    rw [List.length_cons]
    omega
end Go.Fd

/-
  JOIN AND MEET, THE PROGRAM'S SIDE. Own work.
-/
namespace Go.Fd
set_option maxRecDepth 20000

theorem putI_mem {n c : Int} {l : List Int} : c ∈ putI n l ↔ c = n ∨ c ∈ l := by
  unfold putI
  have hl := List.takeWhile_append_dropWhile (p := fun x => decide (x < n)) (l := l)
  split
  · rename_i h
    constructor
    · exact .inr
    · rintro (rfl | h2)
      · have : c ∈ l.dropWhile fun x => decide (x < c) := by
          cases hd : l.dropWhile fun x => decide (x < c) with
          | nil => rw [hd] at h; cases h
          | cons a r => rw [hd] at h; simp at h; simp [h]
        rw [← hl]; exact List.mem_append_right _ this
      · exact h2
  · rw [List.mem_append, List.mem_cons]
    constructor
    · rintro (h | h | h)
      · exact .inr (hl ▸ List.mem_append_left _ h)
      · exact .inl h
      · exact .inr (hl ▸ List.mem_append_right _ h)
    · rintro (h | h)
      · exact .inr (.inl h)
      · rw [← hl, List.mem_append] at h
        rcases h with h | h
        · exact .inl h
        · exact .inr (.inr h)
theorem putI_cons {n a : Int} {r : List Int} (h : a < n) : putI n (a :: r) = a :: putI n r := by
  unfold putI
  have e1 : (a :: r).dropWhile (fun x => decide (x < n)) = r.dropWhile fun x => decide (x < n) := by simp [h]
  have e2 : (a :: r).takeWhile (fun x => decide (x < n)) = a :: r.takeWhile fun x => decide (x < n) := by simp [h]
  rw [e1, e2]
  split <;> simp
theorem putI_pw {n : Int} : ∀ {l : List Int}, l.Pairwise (fun a b => a < b) → (putI n l).Pairwise (fun a b => a < b)
  | [], _ => by simp [putI]
  | a :: r, h => by
    rw [List.pairwise_cons] at h
    by_cases e : a < n
    · rw [putI_cons e, List.pairwise_cons]
      refine ⟨fun c hc => ?_, putI_pw h.2⟩
      rcases putI_mem.1 hc with rfl | hc
      · exact e
      · exact h.1 c hc
    · have e1 : (a :: r).dropWhile (fun x => decide (x < n)) = a :: r := by simp [e]
      have e2 : (a :: r).takeWhile (fun x => decide (x < n)) = [] := by simp [e]
      unfold putI
      rw [e1, e2]
      split
      · exact List.pairwise_cons.2 h
      · rename_i hne
        simp only [List.head?_cons, Option.some.injEq] at hne
        rw [List.nil_append, List.pairwise_cons]
        refine ⟨fun c hc => ?_, List.pairwise_cons.2 h⟩
        rcases List.mem_cons.1 hc with rfl | hc
        · omega
        · have := h.1 c hc; omega
theorem eithI_pw {a b : List Int} (h : a.Pairwise (fun a b => a < b)) : (eithI a b).Pairwise (fun a b => a < b) := by
  induction b generalizing a with
  | nil => exact h
  | cons n r ih => exact ih (putI_pw h)
theorem eithI_mem {a b : List Int} {c : Int} : c ∈ eithI a b ↔ c ∈ a ∨ c ∈ b := by
  induction b generalizing a with
  | nil => simp [eithI]
  | cons n r ih =>
    have : eithI a (n :: r) = eithI (putI n a) r := rfl
    rw [this, ih, putI_mem, List.mem_cons]
    constructor
    · rintro ((h | h) | h)
      · exact .inr (.inl h)
      · exact .inl h
      · exact .inr (.inr h)
    · rintro (h | h | h)
      · exact .inl (.inr h)
      · exact .inl (.inl h)
      · exact .inr h
theorem sem_eitherR {lo hi lo2 hi2 : Int} (a b : List Int) (ha : Ris lo hi a) (hb : Ris lo2 hi2 b) (hl : a.length + b.length ≤ 12) (lvl : Nat) (S : Sto) : Sem Go.Proofs.Tryz.prog fid_impl_either lvl [tI a, tI b] S (.ow 1 (rI (eithI a b)) true) S := by
  have h := sem_either a b hl (srtG (fun a b => a < b) (a ++ b)) (fun x hp hu => srtG_one (e0 := 0) ordsI hp fun p q h1 h2 => by
    have := hu p q h1 h2
    show ¬ g0 x q < g0 x p
    omega) srtG_perm.length_eq lvl S
  have e : cz (g0 (srtG (fun a b => a < b) (a ++ b))) (srtG (fun a b => a < b) (a ++ b)).length = eithI a b :=
    setG_eq (e0 := 0) ordsI (eithI_pw (ris_pw ha)) fun c => by rw [List.mem_append, eithI_mem]
  rw [e] at h
  exact h

theorem sem_sameSortsJ (sig : List TControl) (s t : TSorting) (hn : sig.length ≤ 4294967296) (hbs : ∀ y ∈ sig, bdControl 4294967296 y) (hs : bdSorting 4294967296 s) (ht : bdSorting 4294967296 t) (lvl : Nat) (S : Sto) : Sem Go.Proofs.Tryz.prog fid_impl_sameSorts lvl [.tr (.sl (sig.map cControl)), .ag ((cSorting s).map .tr), .ag ((cSorting t).map .tr)] S (iB (dc (sortOK sig s ∧ sortOK sig t ∧ alike s t))) S := by
  by_cases g1 : sortOK sig s
  · by_cases g2 : sortOK sig t
    · rw [dc_congr (p := sortOK sig s ∧ sortOK sig t ∧ alike s t) ⟨fun g => g.2.2, fun g => ⟨g1, g2, g⟩⟩]
      exact sem_sameSorts sig s t g1 g2 hn hbs hs ht lvl S
    · rw [dc_false fun g : sortOK sig s ∧ sortOK sig t ∧ alike s t => g2 g.2.1]
      refine sem_of_chk k_impl_sameSorts trivial ?_
      simp only [c_impl_sameSorts, List.length_map, cSorting, EVA, ↓reduceIte, Nat.reduceEqDiff, Nat.reduceMul, reduceCtorEq, Nat.reduceAdd, Nat.reduceSub, Nat.reduceLeDiff, Nat.reduceLT, Int.reduceToNat, Int.reduceLE, Int.reduceLT, mens, men]
      refine kca_intro (sem_impl_IsSorting sig s hn hbs hs) ?_
      rw [dc_true g1]
      simp only [List.length_map, cSorting, EVA, ↓reduceIte, Nat.reduceEqDiff, Nat.reduceMul, reduceCtorEq, Nat.reduceAdd, Nat.reduceSub, Nat.reduceLeDiff, Nat.reduceLT, Int.reduceToNat, Int.reduceLE, Int.reduceLT, mens, men]
      refine kca_intro (sem_impl_IsSorting sig t hn hbs ht) ?_
      rw [dc_false g2]
      simp only [EVA, ↓reduceIte, Nat.reduceEqDiff, Nat.reduceMul, reduceCtorEq, Nat.reduceAdd, Nat.reduceSub, Nat.reduceLeDiff, Nat.reduceLT, Int.reduceToNat, Int.reduceLE, Int.reduceLT, mens, men]
  · rw [dc_false fun g : sortOK sig s ∧ sortOK sig t ∧ alike s t => g1 g.1]
    refine sem_of_chk k_impl_sameSorts trivial ?_
    simp only [c_impl_sameSorts, List.length_map, cSorting, EVA, ↓reduceIte, Nat.reduceEqDiff, Nat.reduceMul, reduceCtorEq, Nat.reduceAdd, Nat.reduceSub, Nat.reduceLeDiff, Nat.reduceLT, Int.reduceToNat, Int.reduceLE, Int.reduceLT, mens, men]
    refine kca_intro (sem_impl_IsSorting sig s hn hbs hs) ?_
    rw [dc_false g1]
    simp only [EVA, ↓reduceIte, Nat.reduceEqDiff, Nat.reduceMul, reduceCtorEq, Nat.reduceAdd, Nat.reduceSub, Nat.reduceLeDiff, Nat.reduceLT, Int.reduceToNat, Int.reduceLE, Int.reduceLT, mens, men]
theorem sem_JoinOf_1 (a b : Int) (lvl : Nat) (S : Sto) : Sem Go.Proofs.Tryz.prog fid_impl_JoinOf_1 lvl [iI a, iI b] S (iI (if a < b then b else a)) S := by
  refine sem_of_chk k_impl_JoinOf_1 trivial ?_
  simp only [c_impl_JoinOf_1, EVA, ↓reduceIte, Nat.reduceEqDiff, Nat.reduceMul, reduceCtorEq, Nat.reduceAdd, Nat.reduceSub, Nat.reduceLeDiff, Nat.reduceLT, Int.reduceToNat, Int.reduceLE, Int.reduceLT, mens, men]
  rw [show max a b = if a < b then b else a from by rw [Int.max_def]; split <;> split <;> omega]
def mxI (a b : Int) : Int := if a < b then b else a
/-- All pairs of sorts. -/
def all6 : List A2 := [(0, 1), (0, 2), (0, 3), (1, 2), (1, 3), (2, 3)]
theorem all6_pw : all6.Pairwise ltP := by
  unfold all6 ltP
  simp only [List.pairwise_cons, cmp2_lt]
  simp [lt2]
theorem all6_mem {p : A2} : p ∈ all6 ↔ 0 ≤ p.1 ∧ p.1 < p.2 ∧ p.2 < 4 := by
  obtain ⟨a, b⟩ := p
  simp only [all6, List.mem_cons, List.not_mem_nil, or_false, Prod.mk.injEq]
  omega
theorem apart_pw {l : List A2} {many : Nat} (h : ∀ i, apartAt l many i) : l.Pairwise ltP := by
  have key : ∀ d i (hi : i + d + 1 < l.length), ltP (l[i]'(by omega)) (l[i + d + 1]'hi) := fun d => by
    induction d with
    | zero =>
      intro i hi
      have := (h (i + 0 + 1) hi).2.2.2 (by omega)
      exact cmp2_lt.2 this
    | succ d ih =>
      intro i hi
      have h1 := ih i (by omega)
      have h2 := (h (i + (d + 1) + 1) hi).2.2.2 (by omega)
      exact ordsP.tr _ _ _ h1 (cmp2_lt.2 h2)
  refine List.pairwise_iff_getElem.2 fun i j hi hj hij => ?_
  have := key (j - i - 1) i (by omega)
  simp only [show i + (j - i - 1) + 1 = j from by omega] at this
  exact this
theorem apart_mem {l : List A2} {many : Nat} (hm : many ≤ 4) (h : ∀ i, apartAt l many i) {p : A2} (hp : p ∈ l) : p ∈ all6 := by
  obtain ⟨i, hi, rfl⟩ := List.getElem_of_mem hp
  have := h i hi
  exact all6_mem.2 ⟨this.1, this.2.1, by omega⟩
theorem apart_eq {l : List A2} {many : Nat} (hm : many ≤ 4) (h : ∀ i, apartAt l many i) : l = all6.filter fun p => decide (p ∈ l) :=
  eq_of_mem ordsP (apart_pw h) (all6_pw.filter _) fun c => by
    rw [List.mem_filter, decide_eq_true_eq]
    exact ⟨fun g => ⟨apart_mem hm h g, g⟩, fun g => g.2⟩
theorem apart_le {l : List A2} {many : Nat} (hm : many ≤ 4) (h : ∀ i, apartAt l many i) : l.length ≤ 6 := by
  rw [apart_eq hm h]
  exact List.length_filter_le ..
theorem monoS {a b : Nat} {x : TSorting} (hab : a ≤ b) (h : bdSorting a x) : bdSorting b x :=
  ⟨Nat.le_trans h.1 hab, Nat.le_trans h.2.1 hab, fun y hy => Nat.le_trans (h.2.2.1 y hy) hab, Nat.le_trans h.2.2.2.1 hab, fun y hy => Nat.le_trans (h.2.2.2.2.1 y hy) hab, Nat.le_trans h.2.2.2.2.2.1 hab, Nat.le_trans h.2.2.2.2.2.2 hab⟩
theorem small_of {sig : List TControl} {s : TSorting} (h : sortOK sig s) : bdSorting 6 s := by
  have hs := h.sg
  have hl := hs.2.2
  refine ⟨?_, by rw [h.nestL]; omega, fun y hy => ?_, by rw [h.sortsL]; omega, fun y hy => ?_, by have := h.many; omega, apart_le h.many.2 h.apart⟩
  · exact Nat.le_trans (pw_len (lo := 0) (k := sig.length) (ris_pw h.tops) fun n hn => by have := ris_in h.tops hn; omega) (by omega)
  · obtain ⟨k, hk, rfl⟩ := List.getElem_of_mem hy
    have hr := (h.nest k hk (by rw [← h.nestL]; exact hk)).1
    exact Nat.le_trans (pw_len (lo := 0) (k := sig.length) (ris_pw hr) fun n hn => by have := ris_in hr hn; omega) (by omega)
  · obtain ⟨k, hk, rfl⟩ := List.getElem_of_mem hy
    have hk2 : k < sig.length := by rw [← h.sortsL]; exact hk
    have hr := (h.sorts k hk hk2).1
    have := ((hs.1 k hk2).1).2.1
    omega

/-- What the answer is where there is none. -/
def emptyS : TSorting := ⟨[], [], [], [], []⟩
def bothS (sig : List TControl) (s t : TSorting) : Prop := sortOK sig s ∧ sortOK sig t ∧ alike s t
open Classical in
noncomputable def r0_JoinOf (sig : List TControl) (s t : TSorting) : TSorting := if bothS sig s t then ⟨eithI s.tops t.tops, List.zipWith eithI s.nest t.nest, s.sorts, List.zipWith mxI s.most t.most, s.apart.filter fun p => decide (p ∈ t.apart)⟩ else emptyS
noncomputable def r1_JoinOf (sig : List TControl) (s t : TSorting) : Bool := dc (bothS sig s t)
theorem sem_impl_JoinOf (sig : List TControl) (s t : TSorting) (hn : sig.length ≤ 4294967296) (hbs : ∀ y ∈ sig, bdControl 4294967296 y) (hs : bdSorting 4294967296 s) (ht : bdSorting 4294967296 t) (lvl : Nat) (S : Sto) : Sem Go.Proofs.Tryz.prog fid_impl_JoinOf lvl [.tr (.sl (sig.map cControl)), .ag ((cSorting s).map .tr), .ag ((cSorting t).map .tr)] S (.tu [oSorting (r0_JoinOf sig s t), iB (r1_JoinOf sig s t)]) S := by
  refine sem_of_chk k_impl_JoinOf (by simp [oSorting, low, men, mens]) ?_
  simp only [c_impl_JoinOf, List.length_map, cSorting, EVA, ↓reduceIte, Nat.reduceEqDiff, Nat.reduceMul, reduceCtorEq, Nat.reduceAdd, Nat.reduceSub, Nat.reduceLeDiff, Nat.reduceLT, Int.reduceToNat, Int.reduceLE, Int.reduceLT, mens, men]
  refine kca_intro (sem_sameSortsJ sig s t hn hbs hs ht) ?_
  unfold r0_JoinOf r1_JoinOf
  cases hB : dc (bothS sig s t)
  · have hB2 : dc (sortOK sig s ∧ sortOK sig t ∧ alike s t) = false := hB
    simp only [hB2, EVA, ↓reduceIte, Nat.reduceEqDiff, Nat.reduceMul, reduceCtorEq, Nat.reduceAdd, Nat.reduceSub, Nat.reduceLeDiff, Nat.reduceLT, Int.reduceToNat, Int.reduceLE, Int.reduceLT, mens, men]
    rw [if_neg (dc_not.1 hB)]
    rfl
  have hB2 : dc (sortOK sig s ∧ sortOK sig t ∧ alike s t) = true := hB
  obtain ⟨gs, gt, hal⟩ := dc_iff.1 hB
  rw [if_pos (dc_iff.1 hB)]
  simp only [hB2, List.length_map, cSorting, EVA, ↓reduceIte, Nat.reduceEqDiff, Nat.reduceMul, reduceCtorEq, Nat.reduceAdd, Nat.reduceSub, Nat.reduceLeDiff, Nat.reduceLT, Int.reduceToNat, Int.reduceLE, Int.reduceLT, mens, men]
  have ms := small_of gs
  have mt := small_of gt
  have hS : s.tops.length + t.tops.length ≤ 12 := by have := ms.1; have := mt.1; omega
  refine kca_intro (sem_combined s t fid_impl_either fid_impl_JoinOf_1 eithI mxI (monoS (by omega) ms) (monoS (by omega) mt) (by rw [gs.nestL, gt.nestL]) (by rw [gs.sortsL, gs.nestL]) hal.1 (fun lvl S => sem_eitherR _ _ gs.tops gt.tops hS lvl S) (fun k h h2 lvl S => sem_eitherR _ _ (gs.nest k h (by rw [← gs.nestL]; exact h)).1 (gt.nest k h2 (by rw [← gt.nestL]; exact h2)).1 (by have := ms.2.2.1 _ (List.getElem_mem h); have := mt.2.2.1 _ (List.getElem_mem h2); omega) lvl S) (fun a b lvl S => sem_JoinOf_1 a b lvl S)) ?_
  simp only [oSorting, List.length_map, cSorting, EVA, ↓reduceIte, Nat.reduceEqDiff, Nat.reduceMul, reduceCtorEq, Nat.reduceAdd, Nat.reduceSub, Nat.reduceLeDiff, Nat.reduceLT, Int.reduceToNat, Int.reduceLE, Int.reduceLT, mens, men]
  refine wp_cnt (α := Unit) s.apart.length (fun j _ => [(23, iI j)]) (fun j _ => [(256, .bx [.hd (lvl, 608) [] 0 (eithI s.tops t.tops).length none (eithI s.tops t.tops).length, .hd (lvl, 609) [] 0 (List.zipWith eithI s.nest t.nest).length none (List.zipWith eithI s.nest t.nest).length, .hd (lvl, 610) [] 0 s.sorts.length none s.sorts.length, .hd (lvl, 611) [] 0 (List.zipWith mxI s.most t.most).length none (List.zipWith mxI s.most t.most).length, .hd (lvl, 612) [] 0 ((s.apart.take j).filter fun p => decide (p ∈ t.apart)).length none ((s.apart.take j).filter fun p => decide (p ∈ t.apart)).length]), (612, .ar 2 (((s.apart.take j).filter fun p => decide (p ∈ t.apart)).map cA2) true ((s.apart.take j).filter fun p => decide (p ∈ t.apart)).length 0)]) (fun _ _ => True) () (by simp only [List.length_map, EVA, ↓reduceIte, Nat.reduceEqDiff, Nat.reduceMul, reduceCtorEq, Nat.reduceAdd, Nat.reduceSub, Nat.reduceLeDiff, Nat.reduceLT, Int.reduceToNat, Int.reduceLE, Int.reduceLT, mens, men]) (by (simp only [List.length_map, EVA, ↓reduceIte, Nat.reduceEqDiff, Nat.reduceMul, reduceCtorEq, Nat.reduceAdd, Nat.reduceSub, Nat.reduceLeDiff, Nat.reduceLT, Int.reduceToNat, Int.reduceLE, Int.reduceLT, mens, men]) <;> rfl) trivial ?_
  intro j _ hj _
  simp only [List.length_map, EVA, ↓reduceIte, Nat.reduceEqDiff, Nat.reduceMul, reduceCtorEq, Nat.reduceAdd, Nat.reduceSub, Nat.reduceLeDiff, Nat.reduceLT, Int.reduceToNat, Int.reduceLE, Int.reduceLT, mens, men]
  have b7 := ms.2.2.2.2.2.2
  have c7 := mt.2.2.2.2.2.2
  refine ite_of (fun hlt => ?_) (fun hge => ?_)
  · have hja : j < s.apart.length := by omega
    have ga := getA (c := cA2) hja
    have hle : ((s.apart.take j).filter fun p => decide (p ∈ t.apart)).length ≤ j := Nat.le_trans (List.length_filter_le ..) (by rw [List.length_take]; omega)
    simp only [ga, hja, cA2, EVA, ↓reduceIte, Nat.reduceEqDiff, Nat.reduceMul, reduceCtorEq, Nat.reduceAdd, Nat.reduceSub, Nat.reduceLeDiff, Nat.reduceLT, Int.reduceToNat, Int.reduceLE, Int.reduceLT, mens, men]
    refine kca_intro (sem_coK g_co2 g_ix2 cmpKA2 t.apart s.apart[j] (by omega)) ?_
    have hst : (s.apart.take (j + 1)).filter (fun p => decide (p ∈ t.apart)) = (s.apart.take j).filter (fun p => decide (p ∈ t.apart)) ++ if s.apart[j] ∈ t.apart then [s.apart[j]] else [] := by
      rw [List.take_succ_eq_append_getElem hja, List.filter_append]
      by_cases hx : s.apart[j] ∈ t.apart <;> simp [hx]
    by_cases hx : s.apart[j] ∈ t.apart
    · rw [if_pos hx] at hst
      simp only [hx, ga, hja, cA2, List.length_map, EVA, ↓reduceIte, Nat.reduceEqDiff, Nat.reduceMul, reduceCtorEq, Nat.reduceAdd, Nat.reduceSub, Nat.reduceLeDiff, Nat.reduceLT, Int.reduceToNat, Int.reduceLE, Int.reduceLT, mens, men]
      exact ⟨by omega, by rw [fits_i64]; omega, cntJ_intro () hja (by rw [hst, List.length_append, List.map_append]; rfl) trivial⟩
    · rw [if_neg hx, List.append_nil] at hst
      simp only [hx, EVA, ↓reduceIte, Nat.reduceEqDiff, Nat.reduceMul, reduceCtorEq, Nat.reduceAdd, Nat.reduceSub, Nat.reduceLeDiff, Nat.reduceLT, Int.reduceToNat, Int.reduceLE, Int.reduceLT, mens, men]
      exact ⟨by rw [fits_i64]; omega, cntJ_intro () hja (by rw [hst]; rfl) trivial⟩
  · have : j = s.apart.length := by omega
    subst this
    rw [List.take_length]

end Go.Fd

/-
  JOIN AND MEET, THE REFERENCE'S SIDE, ITS END. Own work.
-/
namespace Go.Fd
set_option maxRecDepth 20000

theorem sem_l1Most (a b : Int) (lvl : Nat) (S : Sto) : Sem Go.Proofs.Tryz.prog fid_spec_l1Most lvl [iI a, iI b] S (iI (mxI a b)) S := by
  refine sem_of_chk k_spec_l1Most trivial ?_
  simp only [c_spec_l1Most, EVA, ↓reduceIte, Nat.reduceEqDiff, Nat.reduceMul, reduceCtorEq, Nat.reduceAdd, Nat.reduceSub, Nat.reduceLeDiff, Nat.reduceLT, Int.reduceToNat, Int.reduceLE, Int.reduceLT, mens, men]
  unfold mxI
  by_cases h1 : a < b
  · have h2 : ¬ b < a := by omega
    rw [if_pos h1, if_neg h2]
  · by_cases h2 : b < a
    · rw [if_neg h1, if_pos h2]
    · have : a = b := by omega
      rw [if_neg h1, if_neg h2, this]

/-- Whether a pair is taken. -/
def takeP (a b : List A2) (both : Bool) (p : A2) : Bool := (decide (p ∈ a) && decide (p ∈ b)) || (!both && (decide (p ∈ a) || decide (p ∈ b)))
def rowP (x m : Nat) : List A2 := (List.range m).map fun i => ((x : Int), ((x + 1 + i : Nat) : Int))
def allP (n : Nat) : List A2 := (List.range n).flatMap fun x => rowP x (3 - x)
theorem rowP_succ {x m : Nat} : rowP x (m + 1) = rowP x m ++ [((x : Int), ((x + 1 + m : Nat) : Int))] := by simp [rowP, List.range_succ]
theorem allP_succ {n : Nat} : allP (n + 1) = allP n ++ rowP n (3 - n) := by simp [allP, List.range_succ]
theorem allP_4 : allP 4 = all6 := by decide
theorem rowP_len {x m : Nat} : (rowP x m).length = m := by simp [rowP]
theorem allP_le : ∀ {n : Nat}, (allP n).length ≤ 3 * n
  | 0 => by simp [allP]
  | n + 1 => by
    have := allP_le (n := n)
    rw [allP_succ, List.length_append, rowP_len]
    omega
theorem filt_snoc {α : Type} {f : α → Bool} {l : List α} {p : α} : (l ++ [p]).filter f = l.filter f ++ if f p = true then [p] else [] := by
  rw [List.filter_append]
  cases hx : f p <;> simp [hx]
theorem sem_l7Pairs (a b : List A2) (both : Bool) (ha : a.length ≤ 4294967290) (hb : b.length ≤ 4294967290) (lvl : Nat) (S : Sto) : Sem Go.Proofs.Tryz.prog fid_spec_l7Pairs lvl [.tr (.sl (a.map cA2)), .tr (.sl (b.map cA2)), iB both] S (.ow 2 ((all6.filter (takeP a b both)).map cA2) true) S := by
  refine sem_of_chk k_spec_l7Pairs trivial ?_
  simp only [c_spec_l7Pairs, EVA, ↓reduceIte, Nat.reduceEqDiff, Nat.reduceMul, reduceCtorEq, Nat.reduceAdd, Nat.reduceSub, Nat.reduceLeDiff, Nat.reduceLT, Int.reduceToNat, Int.reduceLE, Int.reduceLT, mens, men]
  refine wp_cnt (α := Unit) 4 (fun j _ => [(7, .hd (lvl, 416) [] 0 ((allP j).filter (takeP a b both)).length none ((allP j).filter (takeP a b both)).length), (8, iI j)]) (fun j _ => [(416, .ar 2 (((allP j).filter (takeP a b both)).map cA2) true ((allP j).filter (takeP a b both)).length 0)]) (fun _ _ => True) () (by simp only [EVA, ↓reduceIte, Nat.reduceEqDiff, Nat.reduceMul, reduceCtorEq, Nat.reduceAdd, Nat.reduceSub, Nat.reduceLeDiff, Nat.reduceLT, Int.reduceToNat, Int.reduceLE, Int.reduceLT, mens, men]) (by (simp only [EVA, ↓reduceIte, Nat.reduceEqDiff, Nat.reduceMul, reduceCtorEq, Nat.reduceAdd, Nat.reduceSub, Nat.reduceLeDiff, Nat.reduceLT, Int.reduceToNat, Int.reduceLE, Int.reduceLT, mens, men]) <;> rfl) trivial ?_
  intro j _ hj _
  simp only [List.length_map, EVA, ↓reduceIte, Nat.reduceEqDiff, Nat.reduceMul, reduceCtorEq, Nat.reduceAdd, Nat.reduceSub, Nat.reduceLeDiff, Nat.reduceLT, Int.reduceToNat, Int.reduceLE, Int.reduceLT, mens, men]
  refine ite_of (fun hlt => ?_) (fun hge => ?_)
  · have hj3 : j ≤ 3 := by omega
    refine ⟨by rw [fits_i64]; omega, ?_⟩
    refine wp_cnt (α := Unit) (3 - j) (fun m _ => [(7, .hd (lvl, 416) [] 0 ((allP j ++ rowP j m).filter (takeP a b both)).length none ((allP j ++ rowP j m).filter (takeP a b both)).length), (9, iI ((j + 1 + m : Nat) : Int))]) (fun m _ => [(416, .ar 2 (((allP j ++ rowP j m).filter (takeP a b both)).map cA2) true ((allP j ++ rowP j m).filter (takeP a b both)).length 0)]) (fun _ _ => True) () (by simp only [EVA, ↓reduceIte, Nat.reduceEqDiff, Nat.reduceMul, reduceCtorEq, Nat.reduceAdd, Nat.reduceSub, Nat.reduceLeDiff, Nat.reduceLT, Int.reduceToNat, Int.reduceLE, Int.reduceLT, mens, men]) (by simp only [EVA, ↓reduceIte, Nat.reduceEqDiff, Nat.reduceMul, reduceCtorEq, Nat.reduceAdd, Nat.reduceSub, Nat.reduceLeDiff, Nat.reduceLT, Int.reduceToNat, Int.reduceLE, Int.reduceLT, mens, men]; simp [rowP]) trivial ?_
    intro m _ hm _
    simp only [List.length_map, EVA, ↓reduceIte, Nat.reduceEqDiff, Nat.reduceMul, reduceCtorEq, Nat.reduceAdd, Nat.reduceSub, Nat.reduceLeDiff, Nat.reduceLT, Int.reduceToNat, Int.reduceLE, Int.reduceLT, mens, men]
    refine ite_of (fun hlt2 => ?_) (fun hge2 => ?_)
    · have hm3 : m < 3 - j := by omega
      refine kca_intro (sem_l7Pair a ((j : Int), ((j + 1 + m : Nat) : Int)) (by omega)) ?_
      simp only [EVA, ↓reduceIte, Nat.reduceEqDiff, Nat.reduceMul, reduceCtorEq, Nat.reduceAdd, Nat.reduceSub, Nat.reduceLeDiff, Nat.reduceLT, Int.reduceToNat, Int.reduceLE, Int.reduceLT, mens, men]
      refine kca_intro (sem_l7Pair b ((j : Int), ((j + 1 + m : Nat) : Int)) (by omega)) ?_
      rw [dc_decide, dc_decide]
      have hst : (allP j ++ rowP j (m + 1)).filter (takeP a b both) = (allP j ++ rowP j m).filter (takeP a b both) ++ if takeP a b both ((j : Int), ((j + 1 + m : Nat) : Int)) = true then [((j : Int), ((j + 1 + m : Nat) : Int))] else [] := by
        rw [rowP_succ, ← List.append_assoc, filt_snoc]
      have hle : ((allP j ++ rowP j m).filter (takeP a b both)).length ≤ 20 := by
        refine Nat.le_trans (List.length_filter_le ..) ?_
        have := allP_le (n := j)
        rw [List.length_append, rowP_len]
        omega
      cases hx : takeP a b both ((j : Int), ((j + 1 + m : Nat) : Int)) with
      | true =>
        rw [if_pos hx] at hst
        unfold takeP at hx
        revert hx
        cases decide (((j : Int), ((j + 1 + m : Nat) : Int)) ∈ a) <;> cases decide (((j : Int), ((j + 1 + m : Nat) : Int)) ∈ b) <;> cases both <;> intro hx <;> first
          | exact absurd hx (by decide)
          | (simp only [cA2, List.length_map, EVA, ↓reduceIte, Nat.reduceEqDiff, Nat.reduceMul, reduceCtorEq, Nat.reduceAdd, Nat.reduceSub, Nat.reduceLeDiff, Nat.reduceLT, Int.reduceToNat, Int.reduceLE, Int.reduceLT, mens, men]
             exact ⟨by omega, by rw [fits_i64]; omega, cntJ_intro () hm3 (by rw [hst, List.length_append, List.map_append]; rfl) trivial⟩)
      | false =>
        rw [if_neg (by rw [hx]; decide), List.append_nil] at hst
        unfold takeP at hx
        revert hx
        cases decide (((j : Int), ((j + 1 + m : Nat) : Int)) ∈ a) <;> cases decide (((j : Int), ((j + 1 + m : Nat) : Int)) ∈ b) <;> cases both <;> intro hx <;> first
          | exact absurd hx (by decide)
          | (simp only [EVA, ↓reduceIte, Nat.reduceEqDiff, Nat.reduceMul, reduceCtorEq, Nat.reduceAdd, Nat.reduceSub, Nat.reduceLeDiff, Nat.reduceLT, Int.reduceToNat, Int.reduceLE, Int.reduceLT, mens, men]
             exact ⟨by rw [fits_i64]; omega, cntJ_intro () hm3 (by rw [hst]; rfl) trivial⟩)
    · have : m = 3 - j := by omega
      subst this
      exact ⟨by rw [fits_i64]; omega, cntJ_intro () (by omega) (by rw [allP_succ]; rfl) trivial⟩
  · have : j = 4 := by omega
    subst this
    rw [allP_4]

end Go.Fd

/-
  JOIN AND MEET, THE REFERENCE'S SIDE: THE MIXTURE. Own work.
-/
namespace Go.Fd
set_option maxRecDepth 20000

/-- Whether a number is zero. -/
def isZ : Nat → Bool
  | 0 => true
  | _ + 1 => false
theorem sem_l7Mixed_J (s t : TSorting) (hs : bdSorting 4294967280 s) (ht : bdSorting 4294967280 t) (e0 : s.tops.length + t.tops.length ≤ 4294967280) (e0' : ∀ k (h : k < s.nest.length) (h2 : k < t.nest.length), s.nest[k].length + t.nest[k].length ≤ 4294967280) (e1 : s.nest.length = t.nest.length) (e2 : s.sorts.length = s.nest.length) (e3 : s.most.length = t.most.length) (lvl : Nat) (S : Sto) :
    Sem Go.Proofs.Tryz.prog fid_spec_l7Mixed lvl [.ag ((cSorting s).map .tr), .ag ((cSorting t).map .tr), iB false] S (.ag [tI (eithI s.tops t.tops), .ow 1 ((List.zipWith eithI s.nest t.nest).map eIS) (isZ s.nest.length), .ow 1 (s.sorts.map eIS) true, .ow 1 (rI (List.zipWith mxI s.most t.most)) true, .ow 2 ((all6.filter (takeP s.apart t.apart true)).map cA2) true]) S := by
  obtain ⟨b1, b2, b3, b4, b5, b6, b7⟩ := hs
  obtain ⟨c1, c2, c3, c4, c5, c6, c7⟩ := ht
  refine sem_of_chk k_spec_l7Mixed (by simp [low, men, mens]) ?_
  simp only [c_spec_l7Mixed, cSorting, EVA, ↓reduceIte, Nat.reduceEqDiff, Nat.reduceMul, reduceCtorEq, Nat.reduceAdd, Nat.reduceSub, Nat.reduceLeDiff, Nat.reduceLT, Int.reduceToNat, Int.reduceLE, Int.reduceLT, mens, men]
  refine kca_intro (sem_l7Either s.tops t.tops (by omega)) ?_
  simp only [List.length_map, EVA, ↓reduceIte, Nat.reduceEqDiff, Nat.reduceMul, reduceCtorEq, Nat.reduceAdd, Nat.reduceSub, Nat.reduceLeDiff, Nat.reduceLT, Int.reduceToNat, Int.reduceLE, Int.reduceLT, mens, men]
  refine kca_intro (sem_l7Table s.sorts (by omega) (fun l hl => by have := b5 l hl; omega)) ?_
  simp only [List.length_map, EVA, ↓reduceIte, Nat.reduceEqDiff, Nat.reduceMul, reduceCtorEq, Nat.reduceAdd, Nat.reduceSub, Nat.reduceLeDiff, Nat.reduceLT, Int.reduceToNat, Int.reduceLE, Int.reduceLT, mens, men]
  refine kca_intro (sem_l7Pairs s.apart t.apart true (by omega) (by omega)) ?_
  simp only [List.length_map, EVA, ↓reduceIte, Nat.reduceEqDiff, Nat.reduceMul, reduceCtorEq, Nat.reduceAdd, Nat.reduceSub, Nat.reduceLeDiff, Nat.reduceLT, Int.reduceToNat, Int.reduceLE, Int.reduceLT, mens, men]
  have n1 : (List.zipWith eithI s.nest t.nest).length = s.nest.length := by rw [List.length_zipWith]; omega
  have n2 : (List.zipWith mxI s.most t.most).length = s.most.length := by rw [List.length_zipWith]; omega
  refine wp_cnt (α := Unit) s.nest.length (fun j _ => [(8, iI j)]) (fun j _ => [(224, .bx [tI (eithI s.tops t.tops), .hd (lvl, 480) [] 0 j none j, .hd (lvl, 576) [] 0 s.sorts.length none s.sorts.length, .hd (lvl, 608) [] 0 0 none 0, .hd (lvl, 832) [] 0 (all6.filter (takeP s.apart t.apart true)).length none (all6.filter (takeP s.apart t.apart true)).length]), (480, .ar 1 (((List.zipWith eithI s.nest t.nest).take j).map eIS) (isZ j) j 0)]) (fun _ _ => True) () (by simp only [EVA, ↓reduceIte, Nat.reduceEqDiff, Nat.reduceMul, reduceCtorEq, Nat.reduceAdd, Nat.reduceSub, Nat.reduceLeDiff, Nat.reduceLT, Int.reduceToNat, Int.reduceLE, Int.reduceLT, mens, men]) (by (simp only [EVA, ↓reduceIte, Nat.reduceEqDiff, Nat.reduceMul, reduceCtorEq, Nat.reduceAdd, Nat.reduceSub, Nat.reduceLeDiff, Nat.reduceLT, Int.reduceToNat, Int.reduceLE, Int.reduceLT, mens, men]) <;> rfl) trivial ?_
  intro j _ hj _
  simp only [List.length_map, EVA, ↓reduceIte, Nat.reduceEqDiff, Nat.reduceMul, reduceCtorEq, Nat.reduceAdd, Nat.reduceSub, Nat.reduceLeDiff, Nat.reduceLT, Int.reduceToNat, Int.reduceLE, Int.reduceLT, mens, men]
  refine ite_of (fun hlt => ?_) (fun hge => ?_)
  · have hja : j < s.nest.length := by omega
    have hjb : j < t.nest.length := by omega
    have ga := getA (c := eIS) hja
    have gb := getA (c := eIS) hjb
    have hl1 : (((List.zipWith eithI s.nest t.nest).take j).map eIS).length = j := by rw [List.length_map, List.length_take]; omega
    have hq := e0' j hja hjb
    have st1 : ((List.zipWith eithI s.nest t.nest).take j).map eIS ++ [[Tr.sl (rI (eithI s.nest[j] t.nest[j]))]] = ((List.zipWith eithI s.nest t.nest).take (j + 1)).map eIS := by
      rw [List.take_succ_eq_append_getElem (by omega), List.map_append, List.getElem_zipWith]
      rfl
    simp only [ga, gb, hja, hjb, EVA, ↓reduceIte, Nat.reduceEqDiff, Nat.reduceMul, reduceCtorEq, Nat.reduceAdd, Nat.reduceSub, Nat.reduceLeDiff, Nat.reduceLT, Int.reduceToNat, Int.reduceLE, Int.reduceLT, mens, men]
    refine kca_intro (sem_l7Either s.nest[j] t.nest[j] (by omega)) ?_
    simp only [ga, gb, hja, hjb, hl1, st1, Bool.and_false, EVA, ↓reduceIte, Nat.reduceEqDiff, Nat.reduceMul, reduceCtorEq, Nat.reduceAdd, Nat.reduceSub, Nat.reduceLeDiff, Nat.reduceLT, Int.reduceToNat, Int.reduceLE, Int.reduceLT, mens, men]
    exact ⟨by omega, by rw [fits_i64]; omega, cntJ_intro () hja rfl trivial⟩
  · have : j = s.nest.length := by omega
    subst this
    have f1 : (List.zipWith eithI s.nest t.nest).take s.nest.length = List.zipWith eithI s.nest t.nest := List.take_of_length_le (by omega)
    rw [f1]
    refine wp_cnt (α := Unit) s.most.length (fun j _ => [(9, iI j)]) (fun j _ => [(224, .bx [tI (eithI s.tops t.tops), .hd (lvl, 480) [] 0 s.nest.length none s.nest.length, .hd (lvl, 576) [] 0 s.sorts.length none s.sorts.length, .hd (lvl, 608) [] 0 j none j, .hd (lvl, 832) [] 0 (all6.filter (takeP s.apart t.apart true)).length none (all6.filter (takeP s.apart t.apart true)).length]), (608, .ar 1 (rI ((List.zipWith mxI s.most t.most).take j)) true j 0)]) (fun _ _ => True) () (by simp only [EVA, ↓reduceIte, Nat.reduceEqDiff, Nat.reduceMul, reduceCtorEq, Nat.reduceAdd, Nat.reduceSub, Nat.reduceLeDiff, Nat.reduceLT, Int.reduceToNat, Int.reduceLE, Int.reduceLT, mens, men]) (by (simp only [EVA, ↓reduceIte, Nat.reduceEqDiff, Nat.reduceMul, reduceCtorEq, Nat.reduceAdd, Nat.reduceSub, Nat.reduceLeDiff, Nat.reduceLT, Int.reduceToNat, Int.reduceLE, Int.reduceLT, mens, men]) <;> rfl) trivial ?_
    intro j _ hj _
    simp only [List.length_map, EVA, ↓reduceIte, Nat.reduceEqDiff, Nat.reduceMul, reduceCtorEq, Nat.reduceAdd, Nat.reduceSub, Nat.reduceLeDiff, Nat.reduceLT, Int.reduceToNat, Int.reduceLE, Int.reduceLT, mens, men]
    refine ite_of (fun hlt => ?_) (fun hge => ?_)
    · have hja : j < s.most.length := by omega
      have hjb : j < t.most.length := by omega
      have ga := rI_get hja
      have gb := rI_get hjb
      have hl1 : (rI ((List.zipWith mxI s.most t.most).take j)).length = j := by rw [List.length_map, List.length_take]; omega
      have st1 : rI ((List.zipWith mxI s.most t.most).take j) ++ [[tv (mxI (g0 s.most j) (g0 t.most j))]] = rI ((List.zipWith mxI s.most t.most).take (j + 1)) := by
        rw [List.take_succ_eq_append_getElem (by omega), rI_app, List.getElem_zipWith]
        simp [hja, hjb]
      simp only [ga, gb, hja, hjb, EVA, ↓reduceIte, Nat.reduceEqDiff, Nat.reduceMul, reduceCtorEq, Nat.reduceAdd, Nat.reduceSub, Nat.reduceLeDiff, Nat.reduceLT, Int.reduceToNat, Int.reduceLE, Int.reduceLT, mens, men]
      refine kca_intro (sem_l1Most (g0 s.most j) (g0 t.most j)) ?_
      simp only [ga, gb, hja, hjb, hl1, st1, EVA, ↓reduceIte, Nat.reduceEqDiff, Nat.reduceMul, reduceCtorEq, Nat.reduceAdd, Nat.reduceSub, Nat.reduceLeDiff, Nat.reduceLT, Int.reduceToNat, Int.reduceLE, Int.reduceLT, mens, men]
      exact ⟨by omega, by rw [fits_i64]; omega, cntJ_intro () hja rfl trivial⟩
    · have : j = s.most.length := by omega
      subst this
      have f3 : (List.zipWith mxI s.most t.most).take s.most.length = List.zipWith mxI s.most t.most := List.take_of_length_le (by omega)
      rw [f3]
      exact ⟨n1.symm, n2.symm, rfl⟩
theorem pairs_J {a b : List A2} {many : Nat} (hm : many ≤ 4) (ha : ∀ i, apartAt a many i) : all6.filter (takeP a b true) = a.filter fun p => decide (p ∈ b) :=
  eq_of_mem ordsP (all6_pw.filter _) ((apart_pw ha).filter _) fun c => by
    rw [List.mem_filter, List.mem_filter, decide_eq_true_eq]
    unfold takeP
    constructor
    · rintro ⟨_, h⟩
      simpa using h
    · rintro ⟨h1, h2⟩
      exact ⟨apart_mem hm ha h1, by simp [h1, h2]⟩
theorem small_mix {s t : TSorting} (ms : bdSorting 6 s) (mt : bdSorting 6 t) : ∀ k (h : k < s.nest.length) (h2 : k < t.nest.length), s.nest[k].length + t.nest[k].length ≤ 4294967280 := fun k h h2 => by
  have := ms.2.2.1 _ (List.getElem_mem h); have := mt.2.2.1 _ (List.getElem_mem h2); omega

theorem sem_spec_JoinOf_n (sig : List TControl) (s t : TSorting) (hn : sig.length ≤ 4294967296) (hbs : ∀ y ∈ sig, bdControl 4294967296 y) (hs : bdSorting 4294967296 s) (ht : bdSorting 4294967296 t) (hB : ¬ bothS sig s t) (lvl : Nat) (S : Sto) : Sem Go.Proofs.Tryz.prog fid_spec_JoinOf lvl [.tr (.sl (sig.map cControl)), .ag ((cSorting s).map .tr), .ag ((cSorting t).map .tr)] S (.tu [oSorting (r0_JoinOf sig s t), iB (r1_JoinOf sig s t)]) S := by
  rw [show r0_JoinOf sig s t = emptyS from if_neg hB]
  refine sem_of_chk k_spec_JoinOf (by simp [oSorting, low, men, mens]) ?_
  simp only [c_spec_JoinOf, List.length_map, cSorting, EVA, ↓reduceIte, Nat.reduceEqDiff, Nat.reduceMul, reduceCtorEq, Nat.reduceAdd, Nat.reduceSub, Nat.reduceLeDiff, Nat.reduceLT, Int.reduceToNat, Int.reduceLE, Int.reduceLT, mens, men]
  refine kca_intro (sem_l7Good sig s hn hbs hs) ?_
  unfold r1_JoinOf
  rw [dc_false hB]
  cases h1 : dc (sortOK sig s)
  · simp only [EVA, ↓reduceIte, Nat.reduceEqDiff, Nat.reduceMul, reduceCtorEq, Nat.reduceAdd, Nat.reduceSub, Nat.reduceLeDiff, Nat.reduceLT, Int.reduceToNat, Int.reduceLE, Int.reduceLT, mens, men]
    rfl
  simp only [List.length_map, cSorting, EVA, ↓reduceIte, Nat.reduceEqDiff, Nat.reduceMul, reduceCtorEq, Nat.reduceAdd, Nat.reduceSub, Nat.reduceLeDiff, Nat.reduceLT, Int.reduceToNat, Int.reduceLE, Int.reduceLT, mens, men]
  refine kca_intro (sem_l7Good sig t hn hbs ht) ?_
  cases h2 : dc (sortOK sig t)
  · simp only [EVA, ↓reduceIte, Nat.reduceEqDiff, Nat.reduceMul, reduceCtorEq, Nat.reduceAdd, Nat.reduceSub, Nat.reduceLeDiff, Nat.reduceLT, Int.reduceToNat, Int.reduceLE, Int.reduceLT, mens, men]
    rfl
  simp only [List.length_map, cSorting, EVA, ↓reduceIte, Nat.reduceEqDiff, Nat.reduceMul, reduceCtorEq, Nat.reduceAdd, Nat.reduceSub, Nat.reduceLeDiff, Nat.reduceLT, Int.reduceToNat, Int.reduceLE, Int.reduceLT, mens, men]
  refine kca_intro (sem_l7Alike s t hs ht) ?_
  cases h3 : dc (alike s t)
  · simp only [EVA, ↓reduceIte, Nat.reduceEqDiff, Nat.reduceMul, reduceCtorEq, Nat.reduceAdd, Nat.reduceSub, Nat.reduceLeDiff, Nat.reduceLT, Int.reduceToNat, Int.reduceLE, Int.reduceLT, mens, men]
    rfl
  exact absurd ⟨dc_iff.1 h1, dc_iff.1 h2, dc_iff.1 h3⟩ hB

theorem sem_spec_JoinOf_y (sig : List TControl) (s t : TSorting) (hn : sig.length ≤ 4294967296) (hbs : ∀ y ∈ sig, bdControl 4294967296 y) (hs : bdSorting 4294967296 s) (ht : bdSorting 4294967296 t) (hB : bothS sig s t) (lvl : Nat) (S : Sto) : Sem Go.Proofs.Tryz.prog fid_spec_JoinOf lvl [.tr (.sl (sig.map cControl)), .ag ((cSorting s).map .tr), .ag ((cSorting t).map .tr)] S (.tu [.ag [tI (r0_JoinOf sig s t).tops, .ow 1 ((r0_JoinOf sig s t).nest.map eIS) (isZ s.nest.length), .ow 1 ((r0_JoinOf sig s t).sorts.map eIS) true, .ow 1 (rI (r0_JoinOf sig s t).most) true, .ow 2 ((r0_JoinOf sig s t).apart.map cA2) true], iB (r1_JoinOf sig s t)]) S := by
  refine sem_of_chk k_spec_JoinOf (by simp [low, men, mens]) ?_
  simp only [c_spec_JoinOf, List.length_map, cSorting, EVA, ↓reduceIte, Nat.reduceEqDiff, Nat.reduceMul, reduceCtorEq, Nat.reduceAdd, Nat.reduceSub, Nat.reduceLeDiff, Nat.reduceLT, Int.reduceToNat, Int.reduceLE, Int.reduceLT, mens, men]
  refine kca_intro (sem_l7Good sig s hn hbs hs) ?_
  obtain ⟨gs, gt, hal⟩ := hB
  rw [dc_true gs]
  simp only [List.length_map, cSorting, EVA, ↓reduceIte, Nat.reduceEqDiff, Nat.reduceMul, reduceCtorEq, Nat.reduceAdd, Nat.reduceSub, Nat.reduceLeDiff, Nat.reduceLT, Int.reduceToNat, Int.reduceLE, Int.reduceLT, mens, men]
  refine kca_intro (sem_l7Good sig t hn hbs ht) ?_
  rw [dc_true gt]
  simp only [List.length_map, cSorting, EVA, ↓reduceIte, Nat.reduceEqDiff, Nat.reduceMul, reduceCtorEq, Nat.reduceAdd, Nat.reduceSub, Nat.reduceLeDiff, Nat.reduceLT, Int.reduceToNat, Int.reduceLE, Int.reduceLT, mens, men]
  refine kca_intro (sem_l7Alike s t hs ht) ?_
  rw [dc_true hal]
  have ms := small_of gs
  have mt := small_of gt
  have b1 := ms.1
  have c1 := mt.1
  simp only [List.length_map, cSorting, EVA, ↓reduceIte, Nat.reduceEqDiff, Nat.reduceMul, reduceCtorEq, Nat.reduceAdd, Nat.reduceSub, Nat.reduceLeDiff, Nat.reduceLT, Int.reduceToNat, Int.reduceLE, Int.reduceLT, mens, men]
  refine kca_intro (sem_l7Mixed_J s t (monoS (by omega) ms) (monoS (by omega) mt) (by omega) (small_mix ms mt) (by rw [gs.nestL, gt.nestL]) (by rw [gs.sortsL, gs.nestL]) hal.1) ?_
  rw [pairs_J gs.many.2 gs.apart]
  have hB : bothS sig s t := ⟨gs, gt, hal⟩
  unfold r1_JoinOf r0_JoinOf
  rw [dc_true hB]
  rw [if_pos hB]
  simp only [List.length_map, cSorting, EVA, ↓reduceIte, Nat.reduceEqDiff, Nat.reduceMul, reduceCtorEq, Nat.reduceAdd, Nat.reduceSub, Nat.reduceLeDiff, Nat.reduceLT, Int.reduceToNat, Int.reduceLE, Int.reduceLT, mens, men]

end Go.Fd

/-
  The annotated codes of the functions, printed by a program of mine (gen.py), and the check that they belong to the program.
-/
namespace Go.Fd
def c_laws_FnExactJoinOf : F2 :=
  { nt := 142, res := [.t 6 [0]], body :=
   (.sq (rg [oo 4 (.bt (.t 1)),
 oo 5 (.bt (.t 2)),
 om 6 (.k (.bool false))])
 (.sq (rg [om 7 (i6 1048576)])
 (.sq (rg [om 20 (.t 0),
 om 21 (.t 7),
 oo 22 (.ca .pure false (.f fid_laws_szControlS) [.t 20, .t 21]),
 om 7 (.t 22)])
 (.sq (.sq (rg [om 23 (.t 7),
 oo 24 (.bi .lss 0 (.t 23) (i6 0))])
 (.cd (.t 24) (.sq (rg [om 6 (.k (.bool true))])
 (.rt))
 (.sk)))
 (.sq (rg [oo 25 (.ld (some 5) (.t 4)),
 om 26 (.t 7),
 oo 27 (.ca .pure false (.f fid_laws_szSorting) [.t 25, .t 26]),
 om 7 (.t 27)])
 (.sq (.sq (rg [om 28 (.t 7),
 oo 29 (.bi .lss 0 (.t 28) (i6 0))])
 (.cd (.t 29) (.sq (rg [om 6 (.k (.bool true))])
 (.rt))
 (.sk)))
 (.sq (rg [oo 30 (.ld (some 5) (.t 5)),
 om 31 (.t 7),
 oo 32 (.ca .pure false (.f fid_laws_szSorting) [.t 30, .t 31]),
 om 7 (.t 32)])
 (.sq (.sq (rg [om 33 (.t 7),
 oo 34 (.bi .lss 0 (.t 33) (i6 0))])
 (.cd (.t 34) (.sq (rg [om 6 (.k (.bool true))])
 (.rt))
 (.sk)))
 (.sq (.rg (some 0) [om 36 (.t 0),
 oo 37 (.ca .pure false (.f fid_laws_toControlS) [.t 36]),
 oo 38 (.ld (some 5) (.t 4)),
 oo 39 (.ca .pure false (.f fid_laws_toSorting) [.t 38]),
 oo 40 (.ld (some 5) (.t 5)),
 oo 41 (.ca .pure false (.f fid_laws_toSorting) [.t 40]),
 oo 42 (.ca .pure false (.f fid_spec_JoinOf) [.t 37, .t 39, .t 41]),
 om 35 (.t 42),
 oo 43 (.ex 0 (.t 35)),
 oo 44 (.ex 1 (.t 35)),
 oo 8 (.al [.slice none 0 0, .slice none 0 0, .slice none 0 0, .slice none 0 0, .slice none 0 0] []),
 on1 (.s0 5 (.t 8) (.t 43)),
 om 9 (.t 44)])
 (.sq (rg [om 45 (.t 0),
 oo 46 (.ca .pure true (.f fid_laws_toControlS) [.t 45]),
 om 10 (.t 46)])
 (.sq (rg [oo 47 (.ld (some 5) (.t 4)),
 oo 48 (.ca .pure true (.f fid_laws_toSorting) [.t 47]),
 oo 11 (.al [.slice none 0 0, .slice none 0 0, .slice none 0 0, .slice none 0 0, .slice none 0 0] []),
 on1 (.st 5 (.t 11) (.t 48))])
 (.sq (rg [oo 49 (.ld (some 5) (.t 5)),
 oo 50 (.ca .pure true (.f fid_laws_toSorting) [.t 49]),
 oo 12 (.al [.slice none 0 0, .slice none 0 0, .slice none 0 0, .slice none 0 0, .slice none 0 0] []),
 on1 (.st 5 (.t 12) (.t 50))])
 (.sq (rg [om 52 (.t 10),
 oo 53 (.ld (some 5) (.t 11)),
 oo 54 (.ld (some 5) (.t 12)),
 oo 55 (.ca .pure true (.f fid_impl_JoinOf) [.t 52, .t 53, .t 54]),
 om 51 (.t 55),
 oo 56 (.ex 0 (.t 51)),
 oo 57 (.ex 1 (.t 51)),
 oo 13 (.al [.slice none 0 0, .slice none 0 0, .slice none 0 0, .slice none 0 0, .slice none 0 0] []),
 on1 (.st 5 (.t 13) (.t 56)),
 om 14 (.t 57)])
 (.sq (.sq (rg [oo 58 (.ld (some 5) (.t 13)),
 oo 59 (.ld (some 5) (.t 8)),
 oo 60 (.ca .pure false (.f fid_laws_eqSorting) [.t 58, .t 59]),
 oo 61 (.nt (.t 60)),
 om 62 (.t 61),
 og 63 62 false (.mv (.t 14) none),
 og 64 62 false (.mv (.t 9) none),
 og 65 62 false (.bi .neq 2 (.t 63) (.t 64)),
 oo 66 (.pk (.t 62) (.k (.bool true)) (.t 65))])
 (.cd (.t 66) (.sq (rg [om 6 (.k (.bool false))])
 (.rt))
 (.sk)))
 (.sq (.sq (rg [om 67 (.t 10),
 om 68 (.t 0),
 oo 69 (.ca .pure false (.f fid_laws_toControlS) [.t 68]),
 oo 70 (.ca .pure false (.f fid_laws_eqControlS) [.t 67, .t 69]),
 oo 71 (.nt (.t 70))])
 (.cd (.t 71) (.sq (rg [om 6 (.k (.bool false))])
 (.rt))
 (.sk)))
 (.sq (.sq (.rg (some 0) [oo 72 (.ld (some 5) (.t 11)),
 oo 73 (.ld (some 5) (.t 4)),
 oo 74 (.ca .pure false (.f fid_laws_toSorting) [.t 73]),
 oo 75 (.ca .pure false (.f fid_laws_eqSorting) [.t 72, .t 74]),
 oo 76 (.nt (.t 75))])
 (.cd (.t 76) (.sq (rg [om 6 (.k (.bool false))])
 (.rt))
 (.sk)))
 (.sq (.sq (.rg (some 0) [oo 77 (.ld (some 5) (.t 12)),
 oo 78 (.ld (some 5) (.t 5)),
 oo 79 (.ca .pure false (.f fid_laws_toSorting) [.t 78]),
 oo 80 (.ca .pure false (.f fid_laws_eqSorting) [.t 77, .t 79]),
 oo 81 (.nt (.t 80))])
 (.cd (.t 81) (.sq (rg [om 6 (.k (.bool false))])
 (.rt))
 (.sk)))
 (.sq (rg [om 15 (i6 1)])
 (.sq (rg [om 82 (.t 10),
 om 83 (.t 15),
 oo 84 (.ca .any true (.f fid_laws_markControlS) [.t 82, .t 83]),
 om 15 (.t 84)])
 (.sq (rg [oo 85 (.ld (some 5) (.t 11)),
 om 86 (.t 15),
 oo 87 (.ca .any true (.f fid_laws_markSorting) [.t 85, .t 86]),
 om 15 (.t 87)])
 (.sq (rg [oo 88 (.ld (some 5) (.t 12)),
 om 89 (.t 15),
 oo 90 (.ca .any true (.f fid_laws_markSorting) [.t 88, .t 89]),
 om 15 (.t 90)])
 (.sq (.sq (rg [om 91 (.t 15),
 oo 92 (.bi .lss 0 (.t 91) (i6 0)),
 om 93 (.t 92),
 og 94 93 false (.ld (some 5) (.t 13)),
 og 95 93 false (.ld (some 5) (.t 8)),
 og 96 93 false (.ca .pure false (.f fid_laws_eqSorting) [.t 94, .t 95]),
 og 97 93 false (.nt (.t 96)),
 oo 98 (.pk (.t 93) (.k (.bool true)) (.t 97)),
 om 99 (.t 98),
 og 100 99 false (.mv (.t 14) none),
 og 101 99 false (.mv (.t 9) none),
 og 102 99 false (.bi .neq 2 (.t 100) (.t 101)),
 oo 103 (.pk (.t 99) (.k (.bool true)) (.t 102))])
 (.cd (.t 103) (.sq (rg [om 6 (.k (.bool false))])
 (.rt))
 (.sk)))
 (.sq (rg [om 16 (i6 1)])
 (.sq (rg [oo 104 (.ld (some 5) (.t 13)),
 om 105 (.t 16),
 oo 106 (.ca .any true (.f fid_laws_markSorting) [.t 104, .t 105]),
 om 16 (.t 106)])
 (.sq (rg [om 17 (i6 1)])
 (.sq (rg [oo 107 (.ld (some 5) (.t 13)),
 om 108 (.t 17),
 oo 109 (.ca .pure false (.f fid_laws_heldSorting) [.t 107, .t 108]),
 om 17 (.t 109)])
 (.sq (.sq (rg [om 110 (.t 17),
 oo 111 (.bi .lss 0 (.t 110) (i6 0))])
 (.cd (.t 111) (.sq (rg [om 6 (.k (.bool false))])
 (.rt))
 (.sk)))
 (.sq (.sq (rg [om 112 (.t 17),
 om 113 (.t 16),
 oo 114 (.bi .neq 0 (.t 112) (.t 113))])
 (.cd (.t 114) (.sq (rg [om 6 (.k (.bool false))])
 (.rt))
 (.sk)))
 (.sq (.rg (some 0) [om 116 (.t 0),
 oo 117 (.ca .pure false (.f fid_laws_toControlS) [.t 116]),
 oo 118 (.ld (some 5) (.t 4)),
 oo 119 (.ca .pure false (.f fid_laws_toSorting) [.t 118]),
 oo 120 (.ld (some 5) (.t 5)),
 oo 121 (.ca .pure false (.f fid_laws_toSorting) [.t 120]),
 oo 122 (.ca .pure false (.f fid_impl_JoinOf) [.t 117, .t 119, .t 121]),
 om 115 (.t 122),
 oo 123 (.ex 0 (.t 115)),
 oo 124 (.ex 1 (.t 115)),
 oo 18 (.al [.slice none 0 0, .slice none 0 0, .slice none 0 0, .slice none 0 0, .slice none 0 0] []),
 on1 (.s0 5 (.t 18) (.t 123)),
 om 19 (.t 124)])
 (.sq (.sq (rg [oo 125 (.ld (some 5) (.t 18)),
 oo 126 (.ld (some 5) (.t 8)),
 oo 127 (.ca .pure false (.f fid_laws_eqSorting) [.t 125, .t 126]),
 oo 128 (.nt (.t 127)),
 om 129 (.t 128),
 og 130 129 false (.mv (.t 19) none),
 og 131 129 false (.mv (.t 9) none),
 og 132 129 false (.bi .neq 2 (.t 130) (.t 131)),
 oo 133 (.pk (.t 129) (.k (.bool true)) (.t 132))])
 (.cd (.t 133) (.sq (rg [om 6 (.k (.bool false))])
 (.rt))
 (.sk)))
 (.sq (rg [om 17 (i6 1)])
 (.sq (rg [oo 134 (.ld (some 5) (.t 13)),
 om 135 (.t 17),
 oo 136 (.ca .pure false (.f fid_laws_heldSorting) [.t 134, .t 135]),
 om 17 (.t 136)])
 (.sq (.sq (rg [om 137 (.t 17),
 oo 138 (.bi .lss 0 (.t 137) (i6 0))])
 (.cd (.t 138) (.sq (rg [om 6 (.k (.bool false))])
 (.rt))
 (.sk)))
 (.sq (.sq (rg [om 139 (.t 17),
 om 140 (.t 16),
 oo 141 (.bi .neq 0 (.t 139) (.t 140))])
 (.cd (.t 141) (.sq (rg [om 6 (.k (.bool false))])
 (.rt))
 (.sk)))
 (.sq (rg [om 6 (.k (.bool true))])
 (.rt)))))))))))))))))))))))))))))))))))) }
theorem k_laws_FnExactJoinOf : chkF Go.Proofs.Tryz.prog fid_laws_FnExactJoinOf c_laws_FnExactJoinOf = true := by kernel_rfl

def c_laws_markControlS : F2 :=
  { nt := 35, res := [.t 4 [0]], body :=
   (.sq (rg [om 4 (i6 0)])
 (.sq (.sq (rg [om 5 (i6 0)])
 (.bl 0 (.lp [0, 1, 5] [] (.sq (.sq (rg [om 6 (.t 5),
 om 7 (.t 0),
 oo 8 (.ln (.t 7)),
 oo 9 (.bi .lss 0 (.t 6) (.t 8))])
 (.cd (.t 9) (.sk)
 (.ex 0)))
 (.sq (.bl 1 (.sq (rg [om 12 (.t 0),
 om 13 (.t 5),
 om 14 (.t 1),
 oo 15 (.ca .pure false (.f fid_laws_markText) [.t 14]),
 oo 16 (.ia 3 (.t 12) (.t 13)),
 oo 17 (.fa 0 (.t 16)),
 on1 (.st 1 (.t 17) (.t 15))])
 (.sq (rg [om 18 (.t 1),
 oo 19 (.bi .add 0 (.t 18) (i6 1)),
 om 1 (.t 19)])
 (.sq (rg [om 20 (.t 0),
 om 21 (.t 5),
 om 22 (.t 1),
 oo 23 (.ia 3 (.t 20) (.t 21)),
 oo 24 (.fa 1 (.t 23)),
 on1 (.st 1 (.t 24) (.t 22))])
 (.sq (rg [om 25 (.t 1),
 oo 26 (.bi .add 0 (.t 25) (i6 1)),
 om 1 (.t 26)])
 (.sq (rg [om 27 (.t 0),
 om 28 (.t 5),
 om 29 (.t 1),
 oo 30 (.ia 3 (.t 27) (.t 28)),
 oo 31 (.fa 2 (.t 30)),
 on1 (.st 1 (.t 31) (.t 29))])
 (rg [om 32 (.t 1),
 oo 33 (.bi .add 0 (.t 32) (i6 1)),
 om 1 (.t 33)])))))))
 (rg [om 10 (.t 5),
 oo 11 (.bi .add 0 (.t 10) (i6 1)),
 om 5 (.t 11)]))))))
 (.sq (rg [om 34 (.t 1),
 om 4 (.t 34)])
 (.rt)))) }
theorem k_laws_markControlS : chkF Go.Proofs.Tryz.prog fid_laws_markControlS c_laws_markControlS = true := by kernel_rfl

def c_laws_markSorting : F2 :=
  { nt := 26, res := [.t 4 [0]], body :=
   (.sq (rg [oo 2 (.bx (.t 0)),
 om 4 (i6 0)])
 (.sq (rg [oo 5 (.fa 0 (.t 2)),
 oo 6 (.ld none (.t 5)),
 om 7 (.t 1),
 oo 8 (.ca .any true (.f fid_laws_markIntS) [.t 6, .t 7]),
 om 1 (.t 8)])
 (.sq (rg [oo 9 (.fa 1 (.t 2)),
 oo 10 (.ld none (.t 9)),
 om 11 (.t 1),
 oo 12 (.ca .any true (.f fid_laws_markIntSS) [.t 10, .t 11]),
 om 1 (.t 12)])
 (.sq (rg [oo 13 (.fa 2 (.t 2)),
 oo 14 (.ld none (.t 13)),
 om 15 (.t 1),
 oo 16 (.ca .any true (.f fid_laws_markIntSS) [.t 14, .t 15]),
 om 1 (.t 16)])
 (.sq (rg [oo 17 (.fa 3 (.t 2)),
 oo 18 (.ld none (.t 17)),
 om 19 (.t 1),
 oo 20 (.ca .any true (.f fid_laws_markIntS) [.t 18, .t 19]),
 om 1 (.t 20)])
 (.sq (rg [oo 21 (.fa 4 (.t 2)),
 oo 22 (.ld none (.t 21)),
 om 23 (.t 1),
 oo 24 (.ca .any true (.f fid_laws_markIntA2S) [.t 22, .t 23]),
 om 1 (.t 24)])
 (.sq (rg [om 25 (.t 1),
 om 4 (.t 25)])
 (.rt)))))))) }
theorem k_laws_markSorting : chkF Go.Proofs.Tryz.prog fid_laws_markSorting c_laws_markSorting = true := by kernel_rfl

def c_laws_heldSorting : F2 :=
  { nt := 36, res := [.t 4 [0]], body :=
   (.sq (rg [oo 2 (.bt (.t 0)),
 om 4 (i6 0)])
 (.sq (rg [oo 5 (.fa 0 (.t 2)),
 oo 6 (.ld none (.t 5)),
 om 7 (.t 1),
 oo 8 (.ca .pure false (.f fid_laws_heldIntS) [.t 6, .t 7]),
 om 1 (.t 8)])
 (.sq (.sq (rg [om 9 (.t 1),
 oo 10 (.bi .lss 0 (.t 9) (i6 0))])
 (.cd (.t 10) (.sq (rg [om 4 (i6 (-1))])
 (.rt))
 (.sk)))
 (.sq (rg [oo 11 (.fa 1 (.t 2)),
 oo 12 (.ld none (.t 11)),
 om 13 (.t 1),
 oo 14 (.ca .pure false (.f fid_laws_heldIntSS) [.t 12, .t 13]),
 om 1 (.t 14)])
 (.sq (.sq (rg [om 15 (.t 1),
 oo 16 (.bi .lss 0 (.t 15) (i6 0))])
 (.cd (.t 16) (.sq (rg [om 4 (i6 (-1))])
 (.rt))
 (.sk)))
 (.sq (rg [oo 17 (.fa 2 (.t 2)),
 oo 18 (.ld none (.t 17)),
 om 19 (.t 1),
 oo 20 (.ca .pure false (.f fid_laws_heldIntSS) [.t 18, .t 19]),
 om 1 (.t 20)])
 (.sq (.sq (rg [om 21 (.t 1),
 oo 22 (.bi .lss 0 (.t 21) (i6 0))])
 (.cd (.t 22) (.sq (rg [om 4 (i6 (-1))])
 (.rt))
 (.sk)))
 (.sq (rg [oo 23 (.fa 3 (.t 2)),
 oo 24 (.ld none (.t 23)),
 om 25 (.t 1),
 oo 26 (.ca .pure false (.f fid_laws_heldIntS) [.t 24, .t 25]),
 om 1 (.t 26)])
 (.sq (.sq (rg [om 27 (.t 1),
 oo 28 (.bi .lss 0 (.t 27) (i6 0))])
 (.cd (.t 28) (.sq (rg [om 4 (i6 (-1))])
 (.rt))
 (.sk)))
 (.sq (rg [oo 29 (.fa 4 (.t 2)),
 oo 30 (.ld none (.t 29)),
 om 31 (.t 1),
 oo 32 (.ca .pure false (.f fid_laws_heldIntA2S) [.t 30, .t 31]),
 om 1 (.t 32)])
 (.sq (.sq (rg [om 33 (.t 1),
 oo 34 (.bi .lss 0 (.t 33) (i6 0))])
 (.cd (.t 34) (.sq (rg [om 4 (i6 (-1))])
 (.rt))
 (.sk)))
 (.sq (rg [om 35 (.t 1),
 om 4 (.t 35)])
 (.rt))))))))))))) }
theorem k_laws_heldSorting : chkF Go.Proofs.Tryz.prog fid_laws_heldSorting c_laws_heldSorting = true := by kernel_rfl

def c_laws_markText : F2 :=
  { nt := 20, res := [.t 2 [0]], body :=
   (.sq (rg [om 2 (.k (.string ⟨#[]⟩))])
 (.sq (.sq (rg [om 4 (.t 0),
 oo 5 (.bi .leq 0 (.t 4) (i6 0))])
 (.cd (.t 5) (.sq (rg [om 2 (.k (.string ⟨#[109, 48]⟩))])
 (.rt))
 (.sk)))
 (.sq (rg [om 3 (.k (.string ⟨#[]⟩))])
 (.sq (.bl 0 (.lp [0, 3] [] (.sq (.sq (rg [om 6 (.t 0),
 oo 7 (.bi .gtr 0 (.t 6) (i6 0))])
 (.cd (.t 7) (.sk)
 (.ex 0)))
 (.bl 1 (.sq (rg [om 8 (.t 0),
 oo 9 (.bi .rem 0 (.t 8) (i6 10)),
 oo 10 (.bi .add 0 (i6 48) (.t 9)),
 oo 11 (.cv (.int .u8) (.t 10)),
 oo 12 (.bs 1 1 [.int .u8 0] [(0, .t 11)]),
 oo 13 (.sb (.t 12)),
 om 14 (.t 3),
 oo 15 (.bi .add 0 (.t 13) (.t 14)),
 om 3 (.t 15)])
 (rg [om 16 (.t 0),
 oo 17 (.bi .quo 0 (.t 16) (i6 10)),
 om 0 (.t 17)]))))))
 (.sq (rg [om 18 (.t 3),
 oo 19 (.bi .add 0 (.k (.string ⟨#[109]⟩)) (.t 18)),
 om 2 (.t 19)])
 (.rt)))))) }
theorem k_laws_markText : chkF Go.Proofs.Tryz.prog fid_laws_markText c_laws_markText = true := by kernel_rfl

def c_laws_markIntS : F2 :=
  { nt := 19, res := [.t 4 [0]], body :=
   (.sq (rg [om 4 (i6 0)])
 (.sq (.sq (rg [om 5 (i6 0)])
 (.bl 0 (.lp [0, 1, 5] [] (.sq (.sq (rg [om 6 (.t 5),
 om 7 (.t 0),
 oo 8 (.ln (.t 7)),
 oo 9 (.bi .lss 0 (.t 6) (.t 8))])
 (.cd (.t 9) (.sk)
 (.ex 0)))
 (.sq (.bl 1 (.sq (rg [om 12 (.t 0),
 om 13 (.t 5),
 om 14 (.t 1),
 oo 15 (.ia 1 (.t 12) (.t 13)),
 on1 (.st 1 (.t 15) (.t 14))])
 (rg [om 16 (.t 1),
 oo 17 (.bi .add 0 (.t 16) (i6 1)),
 om 1 (.t 17)])))
 (rg [om 10 (.t 5),
 oo 11 (.bi .add 0 (.t 10) (i6 1)),
 om 5 (.t 11)]))))))
 (.sq (rg [om 18 (.t 1),
 om 4 (.t 18)])
 (.rt)))) }
theorem k_laws_markIntS : chkF Go.Proofs.Tryz.prog fid_laws_markIntS c_laws_markIntS = true := by kernel_rfl

def c_laws_markIntSS : F2 :=
  { nt := 19, res := [.t 4 [0]], body :=
   (.sq (rg [om 4 (i6 0)])
 (.sq (.sq (rg [om 5 (i6 0)])
 (.bl 0 (.lp [0, 1, 5] [] (.sq (.sq (rg [om 6 (.t 5),
 om 7 (.t 0),
 oo 8 (.ln (.t 7)),
 oo 9 (.bi .lss 0 (.t 6) (.t 8))])
 (.cd (.t 9) (.sk)
 (.ex 0)))
 (.sq (.bl 1 (rg [om 12 (.t 0),
 om 13 (.t 5),
 oo 14 (.ia 1 (.t 12) (.t 13)),
 oo 15 (.ld none (.t 14)),
 om 16 (.t 1),
 oo 17 (.ca .any true (.f fid_laws_markIntS) [.t 15, .t 16]),
 om 1 (.t 17)]))
 (rg [om 10 (.t 5),
 oo 11 (.bi .add 0 (.t 10) (i6 1)),
 om 5 (.t 11)]))))))
 (.sq (rg [om 18 (.t 1),
 om 4 (.t 18)])
 (.rt)))) }
theorem k_laws_markIntSS : chkF Go.Proofs.Tryz.prog fid_laws_markIntSS c_laws_markIntSS = true := by kernel_rfl

def c_laws_markIntA2S : F2 :=
  { nt := 26, res := [.t 4 [0]], body :=
   (.sq (rg [om 4 (i6 0)])
 (.sq (.sq (rg [om 5 (i6 0)])
 (.bl 0 (.lp [0, 1, 5] [] (.sq (.sq (rg [om 7 (.t 5),
 om 8 (.t 0),
 oo 9 (.ln (.t 8)),
 oo 10 (.bi .lss 0 (.t 7) (.t 9))])
 (.cd (.t 10) (.sk)
 (.ex 0)))
 (.sq (.bl 1 (.sq (rg [om 6 (i6 0)])
 (.bl 2 (.lp [0, 1, 5, 6] [] (.sq (.sq (rg [om 13 (.t 6),
 oo 14 (.bi .lss 0 (.t 13) (i6 2))])
 (.cd (.t 14) (.sk)
 (.ex 2)))
 (.sq (.bl 3 (.sq (rg [om 17 (.t 0),
 om 18 (.t 5),
 om 19 (.t 6),
 om 20 (.t 1),
 oo 21 (.ia 2 (.t 17) (.t 18)),
 oo 22 (.ja 1 2 (.t 21) (.t 19)),
 on1 (.st 1 (.t 22) (.t 20))])
 (rg [om 23 (.t 1),
 oo 24 (.bi .add 0 (.t 23) (i6 1)),
 om 1 (.t 24)])))
 (rg [om 15 (.t 6),
 oo 16 (.bi .add 0 (.t 15) (i6 1)),
 om 6 (.t 16)])))))))
 (rg [om 11 (.t 5),
 oo 12 (.bi .add 0 (.t 11) (i6 1)),
 om 5 (.t 12)]))))))
 (.sq (rg [om 25 (.t 1),
 om 4 (.t 25)])
 (.rt)))) }
theorem k_laws_markIntA2S : chkF Go.Proofs.Tryz.prog fid_laws_markIntA2S c_laws_markIntA2S = true := by kernel_rfl

def c_laws_heldIntS : F2 :=
  { nt := 21, res := [.t 4 [0]], body :=
   (.sq (rg [om 4 (i6 0)])
 (.sq (.sq (rg [om 5 (i6 0)])
 (.bl 0 (.lp [0, 1, 5] [] (.sq (.sq (rg [om 6 (.t 5),
 om 7 (.t 0),
 oo 8 (.ln (.t 7)),
 oo 9 (.bi .lss 0 (.t 6) (.t 8))])
 (.cd (.t 9) (.sk)
 (.ex 0)))
 (.sq (.bl 1 (.sq (.sq (rg [om 12 (.t 0),
 om 13 (.t 5),
 oo 14 (.ia 1 (.t 12) (.t 13)),
 oo 15 (.ld none (.t 14)),
 om 16 (.t 1),
 oo 17 (.bi .neq 0 (.t 15) (.t 16))])
 (.cd (.t 17) (.sq (rg [om 4 (i6 (-1))])
 (.rt))
 (.sk)))
 (rg [om 18 (.t 1),
 oo 19 (.bi .add 0 (.t 18) (i6 1)),
 om 1 (.t 19)])))
 (rg [om 10 (.t 5),
 oo 11 (.bi .add 0 (.t 10) (i6 1)),
 om 5 (.t 11)]))))))
 (.sq (rg [om 20 (.t 1),
 om 4 (.t 20)])
 (.rt)))) }
theorem k_laws_heldIntS : chkF Go.Proofs.Tryz.prog fid_laws_heldIntS c_laws_heldIntS = true := by kernel_rfl

def c_laws_heldIntSS : F2 :=
  { nt := 21, res := [.t 4 [0]], body :=
   (.sq (rg [om 4 (i6 0)])
 (.sq (.sq (rg [om 5 (i6 0)])
 (.bl 0 (.lp [0, 1, 5] [] (.sq (.sq (rg [om 6 (.t 5),
 om 7 (.t 0),
 oo 8 (.ln (.t 7)),
 oo 9 (.bi .lss 0 (.t 6) (.t 8))])
 (.cd (.t 9) (.sk)
 (.ex 0)))
 (.sq (.bl 1 (.sq (rg [om 12 (.t 0),
 om 13 (.t 5),
 oo 14 (.ia 1 (.t 12) (.t 13)),
 oo 15 (.ld none (.t 14)),
 om 16 (.t 1),
 oo 17 (.ca .pure false (.f fid_laws_heldIntS) [.t 15, .t 16]),
 om 1 (.t 17)])
 (.sq (rg [om 18 (.t 1),
 oo 19 (.bi .lss 0 (.t 18) (i6 0))])
 (.cd (.t 19) (.sq (rg [om 4 (i6 (-1))])
 (.rt))
 (.sk)))))
 (rg [om 10 (.t 5),
 oo 11 (.bi .add 0 (.t 10) (i6 1)),
 om 5 (.t 11)]))))))
 (.sq (rg [om 20 (.t 1),
 om 4 (.t 20)])
 (.rt)))) }
theorem k_laws_heldIntSS : chkF Go.Proofs.Tryz.prog fid_laws_heldIntSS c_laws_heldIntSS = true := by kernel_rfl

def c_laws_heldIntA2S : F2 :=
  { nt := 28, res := [.t 4 [0]], body :=
   (.sq (rg [om 4 (i6 0)])
 (.sq (.sq (rg [om 5 (i6 0)])
 (.bl 0 (.lp [0, 1, 5] [] (.sq (.sq (rg [om 7 (.t 5),
 om 8 (.t 0),
 oo 9 (.ln (.t 8)),
 oo 10 (.bi .lss 0 (.t 7) (.t 9))])
 (.cd (.t 10) (.sk)
 (.ex 0)))
 (.sq (.bl 1 (.sq (rg [om 6 (i6 0)])
 (.bl 2 (.lp [0, 1, 5, 6] [] (.sq (.sq (rg [om 13 (.t 6),
 oo 14 (.bi .lss 0 (.t 13) (i6 2))])
 (.cd (.t 14) (.sk)
 (.ex 2)))
 (.sq (.bl 3 (.sq (.sq (rg [om 17 (.t 0),
 om 18 (.t 5),
 om 19 (.t 6),
 oo 20 (.ia 2 (.t 17) (.t 18)),
 oo 21 (.ja 1 2 (.t 20) (.t 19)),
 oo 22 (.ld none (.t 21)),
 om 23 (.t 1),
 oo 24 (.bi .neq 0 (.t 22) (.t 23))])
 (.cd (.t 24) (.sq (rg [om 4 (i6 (-1))])
 (.rt))
 (.sk)))
 (rg [om 25 (.t 1),
 oo 26 (.bi .add 0 (.t 25) (i6 1)),
 om 1 (.t 26)])))
 (rg [om 15 (.t 6),
 oo 16 (.bi .add 0 (.t 15) (i6 1)),
 om 6 (.t 16)])))))))
 (rg [om 11 (.t 5),
 oo 12 (.bi .add 0 (.t 11) (i6 1)),
 om 5 (.t 12)]))))))
 (.sq (rg [om 27 (.t 1),
 om 4 (.t 27)])
 (.rt)))) }
theorem k_laws_heldIntA2S : chkF Go.Proofs.Tryz.prog fid_laws_heldIntA2S c_laws_heldIntA2S = true := by kernel_rfl

end Go.Fd

/-
  THE TEXT OF A MARK; THE MARKS OF NUMBERS AND TEXTS. Own work.
-/
namespace Go.Fd
set_option maxRecDepth 20000
abbrev mInt (_ : Int) (k : Int) : Int := k
abbrev nInt (_ : Int) : Nat := 1
def mt (q : Nat) (o : ByteArray) : ByteArray := if q = 0 then o else mt (q / 10) (⟨#[UInt8.ofNat (48 + q % 10)]⟩ ++ o)
  termination_by q
  decreasing_by omega
theorem mt_pos {q : Nat} {o : ByteArray} (h : 0 < q) : mt q o = mt (q / 10) (⟨#[UInt8.ofNat (48 + q % 10)]⟩ ++ o) := by
  rw [mt, if_neg (by omega)]
theorem mt_zero {o : ByteArray} : mt 0 o = o := by rw [mt, if_pos rfl]
def markT (k : Int) : ByteArray := if k ≤ 0 then ⟨#[109, 48]⟩ else ⟨#[109]⟩ ++ mt k.toNat ⟨#[]⟩
theorem sem_markText (k : Int) (h : k ≤ 4611686018427387904) (lvl : Nat) (S : Sto) : Sem Go.Proofs.Tryz.prog fid_laws_markText lvl [iI k] S (iS (markT k)) S := by
  refine sem_of_chk k_laws_markText trivial ?_
  simp only [c_laws_markText, EVA, ↓reduceIte, Nat.reduceEqDiff, Nat.reduceMul, reduceCtorEq, Nat.reduceAdd, Nat.reduceSub, Nat.reduceLeDiff, Nat.reduceLT, Int.reduceToNat, Int.reduceLE, Int.reduceLT, mens, men]
  unfold markT
  refine ite_of (fun h0 => ?_) (fun h0 => ?_)
  · rw [if_pos h0]
  · rw [if_neg h0]
    obtain ⟨K, hK⟩ : ∃ K : Nat, k = K := ⟨k.toNat, by omega⟩
    subst hK
    rw [Int.toNat_natCast]
    refine wp_count (α := Nat × ByteArray) K (fun j y => ⟨lvl, [(0, iI y.1), (3, iS y.2)], [], S⟩) (fun j y => y.1 + j ≤ K ∧ mt y.1 y.2 = mt K ⟨#[]⟩ ∧ y.1 * 10 ^ y.2.size ≤ K ∧ y.2.size ≤ 19) (K, ⟨#[]⟩) ⟨by simp only [EVA, ↓reduceIte, Nat.reduceEqDiff, Nat.reduceMul, reduceCtorEq, Nat.reduceAdd, Nat.reduceSub, Nat.reduceLeDiff, Nat.reduceLT, Int.reduceToNat, Int.reduceLE, Int.reduceLT, mens, men], by simp only [EVA, ↓reduceIte, Nat.reduceEqDiff, Nat.reduceMul, reduceCtorEq, Nat.reduceAdd, Nat.reduceSub, Nat.reduceLeDiff, Nat.reduceLT, Int.reduceToNat, Int.reduceLE, Int.reduceLT, mens, men]⟩ ⟨Nat.le_refl _, rfl, Nat.le_of_eq (Nat.mul_one K), (by decide : (0 : Nat) ≤ 19)⟩ ?_
    intro j y hj hA
    obtain ⟨q, o⟩ := y
    obtain ⟨h1, h2, h3, h4⟩ := hA
    simp only at h1 h2 h3 h4
    simp only [EVA, ↓reduceIte, Nat.reduceEqDiff, Nat.reduceMul, reduceCtorEq, Nat.reduceAdd, Nat.reduceSub, Nat.reduceLeDiff, Nat.reduceLT, Int.reduceToNat, Int.reduceLE, Int.reduceLT, mens, men]
    refine ite_of (fun hq => ?_) (fun hq => ?_)
    · have hq0 : 0 < q := by omega
      have hby : byR [[Tr.v (Value.int IntKind.u8 (48 + (q : Int) % 10))]] = some [UInt8.ofNat (48 + q % 10)] := by
        have e : (48 + (q : Int) % 10).toNat = 48 + q % 10 := by omega
        simp only [cut, List.replicate_one, List.set_cons_zero, List.drop_zero, List.take_succ_cons, List.take_zero, byR, Option.map_some, e]
      have h5 : o.size < 19 := by
        apply Classical.byContradiction
        intro hc
        have e : o.size = 19 := by omega
        rw [e] at h3
        have : 1 * 10 ^ 19 ≤ q * 10 ^ 19 := Nat.mul_le_mul_right _ hq0
        omega
      have h6 : q / 10 * 10 ^ (o.size + 1) ≤ K := by
        refine Nat.le_trans ?_ h3
        rw [Nat.pow_succ, Nat.mul_comm (10 ^ o.size) 10, ← Nat.mul_assoc]
        exact Nat.mul_le_mul_right _ (by omega)
      rw [hby]
      simp only [EVA, ↓reduceIte, Nat.reduceEqDiff, Nat.reduceMul, reduceCtorEq, Nat.reduceAdd, Nat.reduceSub, Nat.reduceLeDiff, Nat.reduceLT, Int.reduceToNat, Int.reduceLE, Int.reduceLT, mens, men]
      have hs : (ByteArray.mk #[UInt8.ofNat (48 + q % 10)] ++ o).size = o.size + 1 := by
        rw [ByteArray.size_append, Nat.add_comm]; rfl
      have e8 : fits .u8 (48 + (q : Int) % 10) := by
        constructor
        · show (0 : Int) ≤ _; omega
        · show _ ≤ (255 : Int); omega
      refine ⟨by rw [fits_i64]; omega, e8, ?_, by rw [fits_i64]; omega, cntJ_intro (q / 10, ByteArray.mk #[UInt8.ofNat (48 + q % 10)] ++ o) (by omega) ?_ ⟨by simp only; omega, ?_, ?_, ?_⟩⟩
      · show 1 + o.size ≤ 4294967296
        omega
      · rfl
      · rw [← h2, mt_pos hq0]
      · simp only [hs]; exact h6
      · simp only [hs]; omega
    · have : q = 0 := by omega
      subst this
      rw [← h2, mt_zero]
      refine ⟨?_, rfl⟩
      show 1 + o.size ≤ 4294967296
      omega
abbrev mStr (_ : ByteArray) (k : Int) : ByteArray := markT k
end Go.Fd

/-
  WHAT THE MARKING FUNCTIONS DO (printed by lawgen.py). Own work.
-/
namespace Go.Fd
set_option maxRecDepth 20000
theorem mark_IntS : MarkS Go.Proofs.Tryz.prog fid_laws_markIntS (fun n : Int => [tv n]) mInt nInt (fun _ => True) := by
  intro a k lvl S id p es r0 kk hw ver st cap hid hv hst h0 hk hl hB
  have hne : id.1 ≠ lvl := by omega
  have hgp : ∀ r, getp (putp es p r) p = some r := fun r => getp_putp hv
  refine sem_of_chk k_laws_markIntS trivial ?_
  simp only [c_laws_markIntS, EVA, ↓reduceIte, Nat.reduceEqDiff, Nat.reduceMul, reduceCtorEq, Nat.reduceAdd, Nat.reduceSub, Nat.reduceLeDiff, Nat.reduceLT, Int.reduceToNat, Int.reduceLE, Int.reduceLT, mens, men]
  refine wp_count (α := Unit) a.length (fun j _ => ⟨lvl, [(0, .hd id p 0 a.length cap st), (1, iI (kJ nInt a k j)), (5, iI j)], [], sset S id (.ar kk (putp es p ((lJ mInt nInt a k j).map (fun n : Int => [tv n]))) true hw ver)⟩) (fun _ _ => True) () ⟨by simp only [r_okmo hne, EVA, ↓reduceIte, Nat.reduceEqDiff, Nat.reduceMul, reduceCtorEq, Nat.reduceAdd, Nat.reduceSub, Nat.reduceLeDiff, Nat.reduceLT, Int.reduceToNat, Int.reduceLE, Int.reduceLT, mens, men], by (simp only [kJ_zero, lJ_zero, EVA, ↓reduceIte, Nat.reduceEqDiff, Nat.reduceMul, reduceCtorEq, Nat.reduceAdd, Nat.reduceSub, Nat.reduceLeDiff, Nat.reduceLT, Int.reduceToNat, Int.reduceLE, Int.reduceLT, mens, men]) <;> rfl⟩ trivial ?_
  intro j _ hj _
  simp only [List.length_map, EVA, ↓reduceIte, Nat.reduceEqDiff, Nat.reduceMul, reduceCtorEq, Nat.reduceAdd, Nat.reduceSub, Nat.reduceLeDiff, Nat.reduceLT, Int.reduceToNat, Int.reduceLE, Int.reduceLT, mens, men]
  refine ite_of (fun hlt => ?_) (fun hge => ?_)
  · have hja : j < a.length := by omega
    obtain ⟨R, hjR, hR, hR'⟩ := lJ_row mInt nInt (fun n : Int => [tv n]) (k := k) hja
    have hge2 := kJ_le nInt (a := a) (k := k) (j := j + 1)
    rw [kJ_succ nInt hja] at hge2
    have hge3 := kJ_ge nInt (a := a) (k := k) (j := j)
    rw [hR]
    try simp only [nInt] at hge2
    try simp only [r_packo hne, r_setObo hne, psset_sset, r_sset, hst, hgp, rset_get hjR, setp_row hv hjR, Nat.zero_add, hja, r_okmo hne, List.length_map, tv, EVA, ↓reduceIte, Nat.reduceEqDiff, Nat.reduceMul, reduceCtorEq, Nat.reduceAdd, Nat.reduceSub, Nat.reduceLeDiff, Nat.reduceLT, Int.reduceToNat, Int.reduceLE, Int.reduceLT, mens, men]
    refine ⟨by rw [fits_i64]; omega, ⟨by rw [fits_i64]; omega, cntJ_intro () hja ?_ trivial⟩⟩
    rw [kJ_succ nInt hja, hR']
    simp only [nInt, mInt, tv, Int.natCast_add, Int.natCast_one, Int.add_assoc]
    try rfl
  · have : j = a.length := by omega
    subst this
    rw [kJ_all, lJ_all]
    exact ⟨rfl, rfl⟩
def mIntS (x : (List Int)) (k : Int) : (List Int) := mL mInt nInt x (k)
def nIntS (x : (List Int)) : Nat := nL nInt x
theorem mark_IntSS : MarkS Go.Proofs.Tryz.prog fid_laws_markIntSS (fun l => [Tr.sl (rI l)]) mIntS nIntS (fun x => x.length ≤ 4294967296) := by
  intro a k lvl S id p es r0 kk hw ver st cap hid hv hst h0 hk hl hB
  have hne : id.1 ≠ lvl := by omega
  have hgp : ∀ r, getp (putp es p r) p = some r := fun r => getp_putp hv
  refine sem_of_chk k_laws_markIntSS trivial ?_
  simp only [c_laws_markIntSS, EVA, ↓reduceIte, Nat.reduceEqDiff, Nat.reduceMul, reduceCtorEq, Nat.reduceAdd, Nat.reduceSub, Nat.reduceLeDiff, Nat.reduceLT, Int.reduceToNat, Int.reduceLE, Int.reduceLT, mens, men]
  refine wp_count (α := Unit) a.length (fun j _ => ⟨lvl, [(0, .hd id p 0 a.length cap st), (1, iI (kJ nIntS a k j)), (5, iI j)], [], sset S id (.ar kk (putp es p ((lJ mIntS nIntS a k j).map (fun l => [Tr.sl (rI l)]))) true hw ver)⟩) (fun _ _ => True) () ⟨by simp only [r_okmo hne, EVA, ↓reduceIte, Nat.reduceEqDiff, Nat.reduceMul, reduceCtorEq, Nat.reduceAdd, Nat.reduceSub, Nat.reduceLeDiff, Nat.reduceLT, Int.reduceToNat, Int.reduceLE, Int.reduceLT, mens, men], by (simp only [kJ_zero, lJ_zero, EVA, ↓reduceIte, Nat.reduceEqDiff, Nat.reduceMul, reduceCtorEq, Nat.reduceAdd, Nat.reduceSub, Nat.reduceLeDiff, Nat.reduceLT, Int.reduceToNat, Int.reduceLE, Int.reduceLT, mens, men]) <;> rfl⟩ trivial ?_
  intro j _ hj _
  simp only [List.length_map, EVA, ↓reduceIte, Nat.reduceEqDiff, Nat.reduceMul, reduceCtorEq, Nat.reduceAdd, Nat.reduceSub, Nat.reduceLeDiff, Nat.reduceLT, Int.reduceToNat, Int.reduceLE, Int.reduceLT, mens, men]
  refine ite_of (fun hlt => ?_) (fun hge => ?_)
  · have hja : j < a.length := by omega
    obtain ⟨R, hjR, hR, hR'⟩ := lJ_row mIntS nIntS (fun l => [Tr.sl (rI l)]) (k := k) hja
    have hge2 := kJ_le nIntS (a := a) (k := k) (j := j + 1)
    rw [kJ_succ nIntS hja] at hge2
    have hge3 := kJ_ge nIntS (a := a) (k := k) (j := j)
    rw [hR]
    try simp only [nIntS] at hge2
    have hb := hB _ (List.getElem_mem hja)
    have b0 : (a[j]).length ≤ 4294967296 := hb
    try simp only [r_packo hne, r_setObo hne, psset_sset, r_sset, hst, hgp, rset_get hjR, setp_row hv hjR, Nat.zero_add, hja, r_okmo hne, List.length_map, tv, EVA, ↓reduceIte, Nat.reduceEqDiff, Nat.reduceMul, reduceCtorEq, Nat.reduceAdd, Nat.reduceSub, Nat.reduceLeDiff, Nat.reduceLT, Int.reduceToNat, Int.reduceLE, Int.reduceLT, mens, men]
    simp only [arg1]
    refine kcy_mark mark_IntS hid hv (by omega) (by omega) b0 (fun _ _ => trivial) hjR rfl (by simp only [List.length_map]) ?_
    simp only [List.set_cons_succ, List.set_cons_zero, r_packo hne, r_setObo hne, psset_sset, r_sset, hst, hgp, rset_get hjR, setp_row hv hjR, Nat.zero_add, hja, r_okmo hne, List.length_map, tv, EVA, ↓reduceIte, Nat.reduceEqDiff, Nat.reduceMul, reduceCtorEq, Nat.reduceAdd, Nat.reduceSub, Nat.reduceLeDiff, Nat.reduceLT, Int.reduceToNat, Int.reduceLE, Int.reduceLT, mens, men]
    refine ⟨by rw [fits_i64]; omega, cntJ_intro () hja ?_ trivial⟩
    rw [kJ_succ nIntS hja, hR']
    simp only [nIntS, mIntS, tv, Int.natCast_add, Int.natCast_one, Int.add_assoc]
    try rfl
  · have : j = a.length := by omega
    subst this
    rw [kJ_all, lJ_all]
    exact ⟨rfl, rfl⟩
def mIntA2 (x : (Int × Int)) (k : Int) : (Int × Int) := (k, k + 1)
def nIntA2 (x : (Int × Int)) : Nat := 1 + 1
theorem mark_IntA2S : MarkS Go.Proofs.Tryz.prog fid_laws_markIntA2S cA2 mIntA2 nIntA2 (fun _ => True) := by
  intro a k lvl S id p es r0 kk hw ver st cap hid hv hst h0 hk hl hB
  have hne : id.1 ≠ lvl := by omega
  have hgp : ∀ r, getp (putp es p r) p = some r := fun r => getp_putp hv
  refine sem_of_chk k_laws_markIntA2S trivial ?_
  simp only [c_laws_markIntA2S, EVA, ↓reduceIte, Nat.reduceEqDiff, Nat.reduceMul, reduceCtorEq, Nat.reduceAdd, Nat.reduceSub, Nat.reduceLeDiff, Nat.reduceLT, Int.reduceToNat, Int.reduceLE, Int.reduceLT, mens, men]
  refine wp_count (α := Unit) a.length (fun j _ => ⟨lvl, [(0, .hd id p 0 a.length cap st), (1, iI (kJ nIntA2 a k j)), (5, iI j)], [], sset S id (.ar kk (putp es p ((lJ mIntA2 nIntA2 a k j).map cA2)) true hw ver)⟩) (fun _ _ => True) () ⟨by simp only [r_okmo hne, EVA, ↓reduceIte, Nat.reduceEqDiff, Nat.reduceMul, reduceCtorEq, Nat.reduceAdd, Nat.reduceSub, Nat.reduceLeDiff, Nat.reduceLT, Int.reduceToNat, Int.reduceLE, Int.reduceLT, mens, men], by (simp only [kJ_zero, lJ_zero, EVA, ↓reduceIte, Nat.reduceEqDiff, Nat.reduceMul, reduceCtorEq, Nat.reduceAdd, Nat.reduceSub, Nat.reduceLeDiff, Nat.reduceLT, Int.reduceToNat, Int.reduceLE, Int.reduceLT, mens, men]) <;> rfl⟩ trivial ?_
  intro j _ hj _
  simp only [List.length_map, EVA, ↓reduceIte, Nat.reduceEqDiff, Nat.reduceMul, reduceCtorEq, Nat.reduceAdd, Nat.reduceSub, Nat.reduceLeDiff, Nat.reduceLT, Int.reduceToNat, Int.reduceLE, Int.reduceLT, mens, men]
  refine ite_of (fun hlt => ?_) (fun hge => ?_)
  · have hja : j < a.length := by omega
    obtain ⟨R, hjR, hR, hR'⟩ := lJ_row mIntA2 nIntA2 cA2 (k := k) hja
    have hge2 := kJ_le nIntA2 (a := a) (k := k) (j := j + 1)
    rw [kJ_succ nIntA2 hja] at hge2
    have hge3 := kJ_ge nIntA2 (a := a) (k := k) (j := j)
    rw [hR]
    try simp only [nIntA2] at hge2
    simp only [r_packo hne, r_setObo hne, psset_sset, r_sset, hst, hgp, rset_get hjR, setp_row hv hjR, Nat.zero_add, hja, r_okmo hne, List.length_map, cA2, EVA, ↓reduceIte, Nat.reduceEqDiff, Nat.reduceMul, reduceCtorEq, Nat.reduceAdd, Nat.reduceSub, Nat.reduceLeDiff, Nat.reduceLT, Int.reduceToNat, Int.reduceLE, Int.reduceLT, mens, men]
    refine wp_count (α := Unit) 2 (fun i _ => ⟨lvl, [(0, .hd id p 0 a.length cap st), (1, iI (kJ nIntA2 a k j + i)), (5, iI j), (6, iI i)], [], sset S id (.ar kk (putp es p (R.set j [if 0 < i then tv (kJ nIntA2 a k j) else tv a[j].1, if 1 < i then tv (kJ nIntA2 a k j + 1) else tv a[j].2])) true hw ver)⟩) (fun _ _ => True) () ⟨by simp only [r_okmo hne, EVA, ↓reduceIte, Nat.reduceEqDiff, Nat.reduceMul, reduceCtorEq, Nat.reduceAdd, Nat.reduceSub, Nat.reduceLeDiff, Nat.reduceLT, Int.reduceToNat, Int.reduceLE, Int.reduceLT, mens, men], by simp only [Int.natCast_zero, Int.add_zero, Nat.lt_irrefl, Nat.not_lt_zero, EVA, ↓reduceIte, Nat.reduceEqDiff, Nat.reduceMul, reduceCtorEq, Nat.reduceAdd, Nat.reduceSub, Nat.reduceLeDiff, Nat.reduceLT, Int.reduceToNat, Int.reduceLE, Int.reduceLT, mens, men]; try rfl⟩ trivial ?_
    intro i _ hi _
    have hc : i = 0 ∨ i = 1 ∨ i = 2 := by omega
    rcases hc with rfl | rfl | rfl
    · simp only [r_packo hne, r_setObo hne, psset_sset, r_sset, hst, hgp, rset_get hjR, setp_row hv hjR, Nat.zero_add, hja, r_okmo hne, List.length_map, cA2, Int.cast_ofNat_Int, Int.natCast_zero, Nat.zero_mul, Nat.one_mul, Nat.mul_one, Int.add_zero, Int.natCast_one, Int.reduceAdd, Nat.lt_irrefl, Nat.not_lt_zero, Nat.zero_lt_one, Nat.reduceAdd, EVA, ↓reduceIte, Nat.reduceEqDiff, Nat.reduceMul, reduceCtorEq, Nat.reduceSub, Nat.reduceLeDiff, Nat.reduceLT, Int.reduceToNat, Int.reduceLE, Int.reduceLT, mens, men]
      refine ⟨by rw [fits_i64]; omega, by rw [fits_i64]; omega, cntJ_intro (N := 2) (k := 0) () (by omega) ?_ trivial⟩
      rw [show kJ nIntA2 a k j + 1 = kJ nIntA2 a k j + ((1 : Nat) : Int) from by omega]
      rfl
    · simp only [r_packo hne, r_setObo hne, psset_sset, r_sset, hst, hgp, rset_get hjR, setp_row hv hjR, Nat.zero_add, hja, r_okmo hne, List.length_map, cA2, Int.cast_ofNat_Int, Int.natCast_zero, Nat.zero_mul, Nat.one_mul, Nat.mul_one, Int.add_zero, Int.natCast_one, Int.reduceAdd, Nat.lt_irrefl, Nat.not_lt_zero, Nat.zero_lt_one, Nat.reduceAdd, EVA, ↓reduceIte, Nat.reduceEqDiff, Nat.reduceMul, reduceCtorEq, Nat.reduceSub, Nat.reduceLeDiff, Nat.reduceLT, Int.reduceToNat, Int.reduceLE, Int.reduceLT, mens, men]
      refine ⟨by rw [fits_i64]; omega, by rw [fits_i64]; omega, cntJ_intro (N := 2) (k := 1) () (by omega) ?_ trivial⟩
      rw [show kJ nIntA2 a k j + 1 + 1 = kJ nIntA2 a k j + ((2 : Nat) : Int) from by omega]
      rfl
    · simp only [r_packo hne, r_setObo hne, psset_sset, r_sset, hst, hgp, rset_get hjR, setp_row hv hjR, Nat.zero_add, hja, r_okmo hne, List.length_map, cA2, Int.cast_ofNat_Int, Int.natCast_zero, Nat.zero_mul, Nat.one_mul, Nat.mul_one, Int.add_zero, Int.natCast_one, Int.reduceAdd, Nat.lt_irrefl, Nat.not_lt_zero, Nat.zero_lt_one, Nat.reduceAdd, EVA, ↓reduceIte, Nat.reduceEqDiff, Nat.reduceMul, reduceCtorEq, Nat.reduceSub, Nat.reduceLeDiff, Nat.reduceLT, Int.reduceToNat, Int.reduceLE, Int.reduceLT, mens, men]
      refine ⟨by rw [fits_i64]; omega, cntJ_intro () hja ?_ trivial⟩
      rw [kJ_succ nIntA2 hja, hR']
      rfl
  · have : j = a.length := by omega
    subst this
    rw [kJ_all, lJ_all]
    exact ⟨rfl, rfl⟩
def mControl (x : TControl) (k : Int) : TControl := { name := markT (k), ports := k + 1, kind_ := k + 1 + 1 }
def nControl (x : TControl) : Nat := 1 + 1 + 1
theorem mark_ControlS : MarkS Go.Proofs.Tryz.prog fid_laws_markControlS cControl mControl nControl (bdControl 4294967296) := by
  intro a k lvl S id p es r0 kk hw ver st cap hid hv hst h0 hk hl hB
  have hne : id.1 ≠ lvl := by omega
  have hgp : ∀ r, getp (putp es p r) p = some r := fun r => getp_putp hv
  refine sem_of_chk k_laws_markControlS trivial ?_
  simp only [c_laws_markControlS, EVA, ↓reduceIte, Nat.reduceEqDiff, Nat.reduceMul, reduceCtorEq, Nat.reduceAdd, Nat.reduceSub, Nat.reduceLeDiff, Nat.reduceLT, Int.reduceToNat, Int.reduceLE, Int.reduceLT, mens, men]
  refine wp_count (α := Unit) a.length (fun j _ => ⟨lvl, [(0, .hd id p 0 a.length cap st), (1, iI (kJ nControl a k j)), (5, iI j)], [], sset S id (.ar kk (putp es p ((lJ mControl nControl a k j).map cControl)) true hw ver)⟩) (fun _ _ => True) () ⟨by simp only [r_okmo hne, EVA, ↓reduceIte, Nat.reduceEqDiff, Nat.reduceMul, reduceCtorEq, Nat.reduceAdd, Nat.reduceSub, Nat.reduceLeDiff, Nat.reduceLT, Int.reduceToNat, Int.reduceLE, Int.reduceLT, mens, men], by (simp only [kJ_zero, lJ_zero, EVA, ↓reduceIte, Nat.reduceEqDiff, Nat.reduceMul, reduceCtorEq, Nat.reduceAdd, Nat.reduceSub, Nat.reduceLeDiff, Nat.reduceLT, Int.reduceToNat, Int.reduceLE, Int.reduceLT, mens, men]) <;> rfl⟩ trivial ?_
  intro j _ hj _
  simp only [List.length_map, EVA, ↓reduceIte, Nat.reduceEqDiff, Nat.reduceMul, reduceCtorEq, Nat.reduceAdd, Nat.reduceSub, Nat.reduceLeDiff, Nat.reduceLT, Int.reduceToNat, Int.reduceLE, Int.reduceLT, mens, men]
  refine ite_of (fun hlt => ?_) (fun hge => ?_)
  · have hja : j < a.length := by omega
    obtain ⟨R, hjR, hR, hR'⟩ := lJ_row mControl nControl cControl (k := k) hja
    have hge2 := kJ_le nControl (a := a) (k := k) (j := j + 1)
    rw [kJ_succ nControl hja] at hge2
    have hge3 := kJ_ge nControl (a := a) (k := k) (j := j)
    rw [hR]
    try simp only [nControl] at hge2
    have hb := hB _ (List.getElem_mem hja)
    have b0 : (a[j]).name.size ≤ 4294967296 := hb
    try simp only [r_packo hne, r_setObo hne, psset_sset, r_sset, hst, hgp, rset_get hjR, setp_row hv hjR, Nat.zero_add, hja, r_okmo hne, List.length_map, cControl, EVA, ↓reduceIte, Nat.reduceEqDiff, Nat.reduceMul, reduceCtorEq, Nat.reduceAdd, Nat.reduceSub, Nat.reduceLeDiff, Nat.reduceLT, Int.reduceToNat, Int.reduceLE, Int.reduceLT, mens, men]
    refine kca_intro (sem_markText (kJ nControl a k j) (by omega)) ?_
    simp only [r_packo hne, r_setObo hne, psset_sset, r_sset, hst, hgp, rset_get hjR, setp_row hv hjR, Nat.zero_add, hja, r_okmo hne, List.length_map, cControl, EVA, ↓reduceIte, Nat.reduceEqDiff, Nat.reduceMul, reduceCtorEq, Nat.reduceAdd, Nat.reduceSub, Nat.reduceLeDiff, Nat.reduceLT, Int.reduceToNat, Int.reduceLE, Int.reduceLT, mens, men]
    refine ⟨by rw [fits_i64]; omega, ⟨by rw [fits_i64]; omega, ⟨by rw [fits_i64]; omega, ⟨by rw [fits_i64]; omega, cntJ_intro () hja ?_ trivial⟩⟩⟩⟩
    rw [kJ_succ nControl hja, hR']
    simp only [nControl, mControl, cControl, Int.natCast_add, Int.natCast_one, Int.add_assoc]
    try rfl
  · have : j = a.length := by omega
    subst this
    rw [kJ_all, lJ_all]
    exact ⟨rfl, rfl⟩
end Go.Fd
