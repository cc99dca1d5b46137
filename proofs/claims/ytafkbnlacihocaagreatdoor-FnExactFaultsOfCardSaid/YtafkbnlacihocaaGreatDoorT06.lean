/-
  PORTS OF EACH SORT, FAULTS, CHOICES, BOTH SIDES. Own work.
-/
import Derived.Test.YtafkbnlacihocaaGreatDoorT05
import Derived.KernelRfl
set_option linter.all false
namespace Go.Fd
set_option maxRecDepth 20000

theorem sem_l7On (sig : List TControl) (s : TSorting) (b : TBigraph) (l : Int) (h2 : two sig s b) (lvl : Nat) (S : Sto) : Sem Go.Proofs.Tryz.prog fid_spec_l7On lvl [.ag ((cSorting s).map .tr), .ag ((cBigraph b).map .tr), iI l] S (.ow 1 (rI (onL s b l)) true) S := by
  have hsm := h2.big.small
  have hmany := h2.srt.many
  refine sem_of_chk k_spec_l7On trivial ?_
  simp only [c_spec_l7On, cSorting, cBigraph, List.length_map, EVA, ↓reduceIte, Nat.reduceEqDiff, Nat.reduceMul, reduceCtorEq, Nat.reduceAdd, Nat.reduceSub, Nat.reduceLeDiff, Nat.reduceLT, Int.reduceToNat, Int.reduceLE, Int.reduceLT, mens, men]
  refine ⟨by omega, ?_⟩
  refine kca_intro (sem_l2Ports b l (by have := hsm.nodes; omega) hsm.links) ?_
  simp only [List.length_map, EVA, ↓reduceIte, Nat.reduceEqDiff, Nat.reduceMul, reduceCtorEq, Nat.reduceAdd, Nat.reduceSub, Nat.reduceLeDiff, Nat.reduceLT, Int.reduceToNat, Int.reduceLE, Int.reduceLT, mens, men]
  refine wp_cnt (α := Unit) (ports b l).length (fun j _ => [(9, iI j)]) (fun j _ => [(448, .ar 1 (rI (onN s b ((ports b l).take j))) true s.most.length 0)]) (fun _ _ => True) () (by simp only [EVA, ↓reduceIte, Nat.reduceEqDiff, Nat.reduceMul, reduceCtorEq, Nat.reduceAdd, Nat.reduceSub, Nat.reduceLeDiff, Nat.reduceLT, Int.reduceToNat, Int.reduceLE, Int.reduceLT, mens, men]) (by (simp only [rep_rI, EVA, ↓reduceIte, Nat.reduceEqDiff, Nat.reduceMul, reduceCtorEq, Nat.reduceAdd, Nat.reduceSub, Nat.reduceLeDiff, Nat.reduceLT, Int.reduceToNat, Int.reduceLE, Int.reduceLT, mens, men]) <;> rfl) trivial ?_
  intro j _ hj _
  simp only [List.length_map, EVA, ↓reduceIte, Nat.reduceEqDiff, Nat.reduceMul, reduceCtorEq, Nat.reduceAdd, Nat.reduceSub, Nat.reduceLeDiff, Nat.reduceLT, Int.reduceToNat, Int.reduceLE, Int.reduceLT, mens, men]
  refine ite_of (fun hlt => ?_) (fun hge => ?_)
  · have hja : j < (ports b l).length := by omega
    obtain ⟨i, m, c, q, hi, hc, e1, e2, hm, e3, hq, e4⟩ := h2.port (List.getElem_mem hja)
    have gp := getA (c := cP2) hja
    rw [e1] at gp
    have gn := getA (c := cNode) hi
    have gs := getA (c := eIS) hc
    have gm := rI_get hm
    have hbn := Bn_onN s b ((ports b l).take j)
    have hq2 : q < (onN s b ((ports b l).take j)).length := by rw [hbn.len]; exact hq
    have gq := rI_get hq2
    have hg := hbn.g (by omega) q
    have hl8 := ports_le hsm l
    rw [List.length_take] at hg
    simp only [gp, cP2, gn, cNode, e2, gs, gm, e3, gq, hq, Int.toNat_natCast, Int.natCast_nonneg, List.length_map, isSc, EVA, ↓reduceIte, Nat.reduceEqDiff, Nat.reduceMul, reduceCtorEq, Nat.reduceAdd, Nat.reduceSub, Nat.reduceLeDiff, Nat.reduceLT, Int.reduceToNat, Int.reduceLE, Int.reduceLT, mens, men]
    refine ⟨by rw [fits_i64]; omega, by rw [fits_i64]; omega, cntJ_intro () hja ?_ trivial⟩
    rw [setp_rI hq2, onN_succ hja, e4]
    rfl
  · have : j = (ports b l).length := by omega
    subst this
    rw [List.take_length]
    refine ⟨(Bn_onN s b (ports b l)).len.symm, ?_⟩
    rfl

theorem sem_sortsOn (sig : List TControl) (s : TSorting) (b : TBigraph) (l : Int) (h2 : two sig s b) (lvl : Nat) (S : Sto) : Sem Go.Proofs.Tryz.prog fid_impl_Sorting_sortsOn lvl [.ag ((cSorting s).map .tr), .ag ((cBigraph b).map .tr), iI l] S (.ow 1 (rI (onL s b l)) true) S := by
  have hsm := h2.big.small
  have hmany := h2.srt.many
  refine sem_of_chk k_impl_Sorting_sortsOn trivial ?_
  simp only [c_impl_Sorting_sortsOn, cSorting, cBigraph, List.length_map, EVA, ↓reduceIte, Nat.reduceEqDiff, Nat.reduceMul, reduceCtorEq, Nat.reduceAdd, Nat.reduceSub, Nat.reduceLeDiff, Nat.reduceLT, Int.reduceToNat, Int.reduceLE, Int.reduceLT, mens, men]
  refine ⟨by omega, ?_⟩
  refine kca_intro (sem_pointsOf b l (by have := hsm.nodes; omega) hsm.links (by have := hsm.inner; omega)) ?_
  simp only [List.length_map, EVA, ↓reduceIte, Nat.reduceEqDiff, Nat.reduceMul, reduceCtorEq, Nat.reduceAdd, Nat.reduceSub, Nat.reduceLeDiff, Nat.reduceLT, Int.reduceToNat, Int.reduceLE, Int.reduceLT, mens, men]
  refine wp_cnt (α := Unit) (ports b l).length (fun j _ => [(24, iI j)]) (fun j _ => [(480, .ar 1 (rI (onN s b ((ports b l).take j))) true s.most.length 0)]) (fun _ _ => True) () (by simp only [EVA, ↓reduceIte, Nat.reduceEqDiff, Nat.reduceMul, reduceCtorEq, Nat.reduceAdd, Nat.reduceSub, Nat.reduceLeDiff, Nat.reduceLT, Int.reduceToNat, Int.reduceLE, Int.reduceLT, mens, men]) (by (simp only [rep_rI, EVA, ↓reduceIte, Nat.reduceEqDiff, Nat.reduceMul, reduceCtorEq, Nat.reduceAdd, Nat.reduceSub, Nat.reduceLeDiff, Nat.reduceLT, Int.reduceToNat, Int.reduceLE, Int.reduceLT, mens, men]) <;> rfl) trivial ?_
  intro j _ hj _
  simp only [List.length_map, EVA, ↓reduceIte, Nat.reduceEqDiff, Nat.reduceMul, reduceCtorEq, Nat.reduceAdd, Nat.reduceSub, Nat.reduceLeDiff, Nat.reduceLT, Int.reduceToNat, Int.reduceLE, Int.reduceLT, mens, men]
  refine ite_of (fun hlt => ?_) (fun hge => ?_)
  · have hja : j < (ports b l).length := by omega
    obtain ⟨i, m, c, q, hi, hc, e1, e2, hm, e3, hq, e4⟩ := h2.port (List.getElem_mem hja)
    have gp := getA (c := cP2) hja
    rw [e1] at gp
    have gn := getA (c := cNode) hi
    have gs := getA (c := eIS) hc
    have gm := rI_get hm
    have hbn := Bn_onN s b ((ports b l).take j)
    have hq2 : q < (onN s b ((ports b l).take j)).length := by rw [hbn.len]; exact hq
    have gq := rI_get hq2
    have hg := hbn.g (by omega) q
    have hl8 := ports_le hsm l
    rw [List.length_take] at hg
    simp only [gp, cP2, gn, cNode, e2, gs, gm, e3, gq, hq, Int.toNat_natCast, Int.natCast_nonneg, List.length_map, isSc, EVA, ↓reduceIte, Nat.reduceEqDiff, Nat.reduceMul, reduceCtorEq, Nat.reduceAdd, Nat.reduceSub, Nat.reduceLeDiff, Nat.reduceLT, Int.reduceToNat, Int.reduceLE, Int.reduceLT, mens, men]
    refine ⟨by rw [fits_i64]; omega, by rw [fits_i64]; omega, cntJ_intro () hja ?_ trivial⟩
    rw [setp_rI hq2, onN_succ hja, e4]
    rfl
  · have : j = (ports b l).length := by omega
    subst this
    rw [List.take_length]
    refine ⟨(Bn_onN s b (ports b l)).len.symm, ?_⟩
    rfl

theorem sem_l7Allowed (sig : List TControl) (s : TSorting) (b : TBigraph) (p : Int) (h2 : two sig s b) (hp : p < b.nodes.length) (lvl : Nat) (S : Sto) : Sem Go.Proofs.Tryz.prog fid_spec_l7Allowed lvl [.ag ((cSorting s).map .tr), .ag ((cBigraph b).map .tr), iI p] S (tI (chs s b p)) S := by
  refine sem_of_chk k_spec_l7Allowed trivial ?_
  simp only [c_spec_l7Allowed, cSorting, cBigraph, List.length_map, EVA, ↓reduceIte, Nat.reduceEqDiff, Nat.reduceMul, reduceCtorEq, Nat.reduceAdd, Nat.reduceSub, Nat.reduceLeDiff, Nat.reduceLT, Int.reduceToNat, Int.reduceLE, Int.reduceLT, mens, men]
  refine ite_of (fun hlt => ?_) (fun hge => ?_)
  · unfold chs
    rw [if_pos hlt]
  · obtain ⟨i, rfl⟩ : ∃ i : Nat, p = i := ⟨p.toNat, by omega⟩
    have hi : i < b.nodes.length := by omega
    obtain ⟨c, e1, e2, c1, c2, c3⟩ := h2.ctl hi
    have gn := getA (c := cNode) hi
    have gs := getA (c := eIS) c2
    simp only [gn, cNode, e1, gs, Int.toNat_natCast, Int.natCast_nonneg, List.length_map, EVA, ↓reduceIte, Nat.reduceEqDiff, Nat.reduceMul, reduceCtorEq, Nat.reduceAdd, Nat.reduceSub, Nat.reduceLeDiff, Nat.reduceLT, Int.reduceToNat, Int.reduceLE, Int.reduceLT, mens, men]
    unfold chs
    rw [if_neg hge, e2]
    simp [nestOf, c2]

theorem sem_choices (sig : List TControl) (s : TSorting) (b : TBigraph) (p : Int) (h2 : two sig s b) (hp : p < b.nodes.length) (lvl : Nat) (S : Sto) : Sem Go.Proofs.Tryz.prog fid_impl_Sorting_choices lvl [.ag ((cSorting s).map .tr), .ag ((cBigraph b).map .tr), iI p] S (tI (chs s b p)) S := by
  refine sem_of_chk k_impl_Sorting_choices trivial ?_
  simp only [c_impl_Sorting_choices, cSorting, cBigraph, List.length_map, EVA, ↓reduceIte, Nat.reduceEqDiff, Nat.reduceMul, reduceCtorEq, Nat.reduceAdd, Nat.reduceSub, Nat.reduceLeDiff, Nat.reduceLT, Int.reduceToNat, Int.reduceLE, Int.reduceLT, mens, men]
  refine ite_of (fun hlt => ?_) (fun hge => ?_)
  · unfold chs
    rw [if_pos hlt]
  · obtain ⟨i, rfl⟩ : ∃ i : Nat, p = i := ⟨p.toNat, by omega⟩
    have hi : i < b.nodes.length := by omega
    obtain ⟨c, e1, e2, c1, c2, c3⟩ := h2.ctl hi
    have gn := getA (c := cNode) hi
    have gs := getA (c := eIS) c2
    simp only [gn, cNode, e1, gs, Int.toNat_natCast, Int.natCast_nonneg, List.length_map, EVA, ↓reduceIte, Nat.reduceEqDiff, Nat.reduceMul, reduceCtorEq, Nat.reduceAdd, Nat.reduceSub, Nat.reduceLeDiff, Nat.reduceLT, Int.reduceToNat, Int.reduceLE, Int.reduceLT, mens, men]
    unfold chs
    rw [if_neg hge, e2]
    simp [nestOf, c2]

theorem two.par {sig : List TControl} {s : TSorting} {b : TBigraph} (h2 : two sig s b) {j : Nat} (hj : j < b.nodes.length) : -4 ≤ b.nodes[j].parent ∧ b.nodes[j].parent < b.nodes.length := by
  have h1 := (h2.big.nodes j hj).par
  have h3 := h2.big.roots
  rcases h1 with h1 | h1 <;> omega
theorem two.chsL {sig : List TControl} {s : TSorting} {b : TBigraph} (h2 : two sig s b) (hs : bdSorting 4294967296 s) (p : Int) : (chs s b p).length ≤ 4294967296 := by
  obtain ⟨b1, b2, b3, b4, b5, b6, b7⟩ := hs
  unfold chs
  split
  · exact b1
  · unfold nestOf
    cases e : s.nest[(ctlAt b p).toNat]? with
    | none => simp
    | some x =>
      obtain ⟨hl, rfl⟩ := List.getElem?_eq_some_iff.1 e
      exact b3 _ (List.getElem_mem hl)

theorem sem_l7Placed (sig : List TControl) (s : TSorting) (b : TBigraph) (j : Nat) (h2 : two sig s b) (hs : bdSorting 4294967296 s) (hj : j < b.nodes.length) (lvl : Nat) (S : Sto) : Sem Go.Proofs.Tryz.prog fid_spec_l7Placed lvl [.ag ((cSorting s).map .tr), .ag ((cBigraph b).map .tr), iI j] S (.ow 3 ((placed s b j).map cFault) true) S := by
  have hp := h2.par hj
  obtain ⟨c, e1, e2, c1, c2, c3⟩ := h2.ctl hj
  have gn := getA (c := cNode) hj
  refine sem_of_chk k_spec_l7Placed trivial ?_
  simp only [c_spec_l7Placed, cSorting, cBigraph, List.length_map, gn, cNode, EVA, ↓reduceIte, Nat.reduceEqDiff, Nat.reduceMul, reduceCtorEq, Nat.reduceAdd, Nat.reduceSub, Nat.reduceLeDiff, Nat.reduceLT, Int.reduceToNat, Int.reduceLE, Int.reduceLT, mens, men]
  refine kca_intro (sem_l7Allowed sig s b b.nodes[j].parent h2 (by omega)) ?_
  simp only [cSorting, cBigraph, List.length_map, gn, cNode, EVA, ↓reduceIte, Nat.reduceEqDiff, Nat.reduceMul, reduceCtorEq, Nat.reduceAdd, Nat.reduceSub, Nat.reduceLeDiff, Nat.reduceLT, Int.reduceToNat, Int.reduceLE, Int.reduceLT, mens, men]
  refine kca_intro (sem_l1Has (chs s b b.nodes[j].parent) b.nodes[j].control (by have := h2.chsL hs b.nodes[j].parent; omega)) ?_
  have ep : parAt b j = b.nodes[j].parent := parAt_eq hj
  by_cases hm : b.nodes[j].control ∈ chs s b b.nodes[j].parent
  · simp only [hm, EVA, ↓reduceIte, Nat.reduceEqDiff, Nat.reduceMul, reduceCtorEq, Nat.reduceAdd, Nat.reduceSub, Nat.reduceLeDiff, Nat.reduceLT, Int.reduceToNat, Int.reduceLE, Int.reduceLT, mens, men]
    unfold placed
    rw [ep, e2, ← e1, if_pos hm]
    rfl
  · simp only [hm, cSorting, cBigraph, List.length_map, gn, cNode, EVA, ↓reduceIte, Nat.reduceEqDiff, Nat.reduceMul, reduceCtorEq, Nat.reduceAdd, Nat.reduceSub, Nat.reduceLeDiff, Nat.reduceLT, Int.reduceToNat, Int.reduceLE, Int.reduceLT, mens, men]
    refine ite_of (fun hlt => ?_) (fun hge => ?_)
    · refine ⟨by rw [fits_i64]; omega, ?_⟩
      unfold placed
      rw [ep, e2, ← e1, if_neg hm, if_pos hlt]
      rfl
    · unfold placed
      rw [ep, e2, ← e1, if_neg hm, if_neg hge]
      rfl

theorem scrF {l : List TFault} : ScR (l.map cFault) = True := eq_true (ScR_F l)
theorem unrF {l : List TFault} : UnR 3 (l.map cFault) = True := eq_true (UnR_F l)
theorem max_add {n m : Nat} : max n (n + m) = n + m := by omega
theorem apart_at {sig : List TControl} {s : TSorting} (g : sortOK sig s) {j : Nat} (h : j < s.apart.length) : ∃ x y : Nat, s.apart[j].1 = x ∧ s.apart[j].2 = y ∧ x < s.most.length ∧ y < s.most.length := by
  have := g.apart j h
  exact ⟨s.apart[j].1.toNat, s.apart[j].2.toNat, by omega, by omega, by omega, by omega⟩

theorem sem_l7Shared (sig : List TControl) (s : TSorting) (l : Int) (cs : List Int) (g : sortOK sig s) (hc : cs.length = s.most.length) (lvl : Nat) (S : Sto) : Sem Go.Proofs.Tryz.prog fid_spec_l7Shared lvl [.ag ((cSorting s).map .tr), iI l, tI cs] S (.ow 3 ((shared s l cs).map cFault) true) S := by
  have hmany := g.many
  have hapl := g.apartL
  refine sem_of_chk k_spec_l7Shared trivial ?_
  simp only [c_spec_l7Shared, cSorting, List.length_map, EVA, ↓reduceIte, Nat.reduceEqDiff, Nat.reduceMul, reduceCtorEq, Nat.reduceAdd, Nat.reduceSub, Nat.reduceLeDiff, Nat.reduceLT, Int.reduceToNat, Int.reduceLE, Int.reduceLT, mens, men]
  refine wp_cnt (α := Unit) cs.length (fun j _ => [(7, .hd (lvl, 320) [] 0 (colL (fMany s l cs) j).length none (colL (fMany s l cs) j).length), (8, iI j)]) (fun j _ => [(320, .ar 3 ((colL (fMany s l cs) j).map cFault) true (colL (fMany s l cs) j).length 0)]) (fun _ _ => True) () (by simp only [EVA, ↓reduceIte, Nat.reduceEqDiff, Nat.reduceMul, reduceCtorEq, Nat.reduceAdd, Nat.reduceSub, Nat.reduceLeDiff, Nat.reduceLT, Int.reduceToNat, Int.reduceLE, Int.reduceLT, mens, men]) (by (simp only [EVA, ↓reduceIte, Nat.reduceEqDiff, Nat.reduceMul, reduceCtorEq, Nat.reduceAdd, Nat.reduceSub, Nat.reduceLeDiff, Nat.reduceLT, Int.reduceToNat, Int.reduceLE, Int.reduceLT, mens, men]) <;> rfl) trivial ?_
  intro j _ hj _
  simp only [List.length_map, EVA, ↓reduceIte, Nat.reduceEqDiff, Nat.reduceMul, reduceCtorEq, Nat.reduceAdd, Nat.reduceSub, Nat.reduceLeDiff, Nat.reduceLT, Int.reduceToNat, Int.reduceLE, Int.reduceLT, mens, men]
  refine ite_of (fun hlt => ?_) (fun hge => ?_)
  · have hja : j < cs.length := by omega
    have gc := rI_get hja
    have gm := rI_get (l := s.most) (i := j) (by omega)
    have hle := colL_le (f := fMany s l cs) (B := 1) (j := j) fun k _ => fMany_le
    simp only [gc, gm, List.length_map, EVA, ↓reduceIte, Nat.reduceEqDiff, Nat.reduceMul, reduceCtorEq, Nat.reduceAdd, Nat.reduceSub, Nat.reduceLeDiff, Nat.reduceLT, Int.reduceToNat, Int.reduceLE, Int.reduceLT, mens, men]
    refine ite_of (fun he => ?_) (fun hne => ?_)
    · refine ⟨by omega, by rw [fits_i64]; omega, cntJ_intro () hja ?_ trivial⟩
      have e : fMany s l cs j = [⟨3, l, j⟩] := by unfold fMany; rw [if_pos he]
      rw [colL_succ, e, List.length_append, cF_app]
      rfl
    · refine ⟨by rw [fits_i64]; omega, cntJ_intro () hja ?_ trivial⟩
      have e : fMany s l cs j = [] := by unfold fMany; rw [if_neg hne]
      rw [colL_succ, e, List.append_nil]
      rfl
  have hj1 : j = cs.length := by omega
  subst hj1
  refine wp_cnt (α := Unit) s.apart.length (fun j _ => [(7, .hd (lvl, 320) [] 0 (colL (fMany s l cs) cs.length ++ colL (fApart s l cs) j).length none (colL (fMany s l cs) cs.length ++ colL (fApart s l cs) j).length), (9, iI j)]) (fun j _ => [(320, .ar 3 ((colL (fMany s l cs) cs.length ++ colL (fApart s l cs) j).map cFault) true (colL (fMany s l cs) cs.length ++ colL (fApart s l cs) j).length 0)]) (fun _ _ => True) () (by simp only [EVA, ↓reduceIte, Nat.reduceEqDiff, Nat.reduceMul, reduceCtorEq, Nat.reduceAdd, Nat.reduceSub, Nat.reduceLeDiff, Nat.reduceLT, Int.reduceToNat, Int.reduceLE, Int.reduceLT, mens, men]) (by (simp only [colL_zero, List.append_nil, EVA, ↓reduceIte, Nat.reduceEqDiff, Nat.reduceMul, reduceCtorEq, Nat.reduceAdd, Nat.reduceSub, Nat.reduceLeDiff, Nat.reduceLT, Int.reduceToNat, Int.reduceLE, Int.reduceLT, mens, men]) <;> rfl) trivial ?_
  intro j _ hj _
  simp only [List.length_map, EVA, ↓reduceIte, Nat.reduceEqDiff, Nat.reduceMul, reduceCtorEq, Nat.reduceAdd, Nat.reduceSub, Nat.reduceLeDiff, Nat.reduceLT, Int.reduceToNat, Int.reduceLE, Int.reduceLT, mens, men]
  refine ite_of (fun hlt => ?_) (fun hge => ?_)
  · have hja : j < s.apart.length := by omega
    have ga := getA (c := cA2) hja
    obtain ⟨x, y, ex, ey, hx, hy⟩ := apart_at g hja
    have gx := rI_get (l := cs) (i := x) (by omega)
    have gy := rI_get (l := cs) (i := y) (by omega)
    have hle := colL_le (f := fMany s l cs) (B := 1) (j := cs.length) fun k _ => fMany_le
    have hle2 := colL_le (f := fApart s l cs) (B := 1) (j := j) fun k _ => fApart_le
    have hap := apAt_eq hja
    by_cases h1 : 0 < g0 cs x
    · by_cases h2 : 0 < g0 cs y
      · simp only [ga, cA2, ex, ey, gx, gy, h1, h2, List.length_map, EVA, ↓reduceIte, Nat.reduceEqDiff, Nat.reduceMul, reduceCtorEq, Nat.reduceAdd, Nat.reduceSub, Nat.reduceLeDiff, Nat.reduceLT, Int.reduceToNat, Int.reduceLE, Int.reduceLT, mens, men]
        refine ⟨by rw [List.length_append]; omega, by rw [fits_i64]; omega, cntJ_intro () hja ?_ trivial⟩
        have e : fApart s l cs j = [⟨4, l, j⟩] := by unfold fApart; rw [if_pos (by rw [hap, ex, ey]; exact ⟨h1, h2⟩)]
        rw [colL_succ, ← List.append_assoc, e, List.length_append (bs := [_]), cF_app (colL (fMany s l cs) cs.length ++ _)]
        rfl
      · simp only [ga, cA2, ex, ey, gx, gy, h1, h2, List.length_map, EVA, ↓reduceIte, Nat.reduceEqDiff, Nat.reduceMul, reduceCtorEq, Nat.reduceAdd, Nat.reduceSub, Nat.reduceLeDiff, Nat.reduceLT, Int.reduceToNat, Int.reduceLE, Int.reduceLT, mens, men]
        refine ⟨by rw [fits_i64]; omega, cntJ_intro () hja ?_ trivial⟩
        have e : fApart s l cs j = [] := by unfold fApart; rw [if_neg (by rw [hap, ex, ey]; exact fun h => h2 h.2)]
        rw [colL_succ, e, List.append_nil]
        rfl
    · simp only [ga, cA2, ex, ey, gx, gy, h1, List.length_map, EVA, ↓reduceIte, Nat.reduceEqDiff, Nat.reduceMul, reduceCtorEq, Nat.reduceAdd, Nat.reduceSub, Nat.reduceLeDiff, Nat.reduceLT, Int.reduceToNat, Int.reduceLE, Int.reduceLT, mens, men]
      refine ⟨by rw [fits_i64]; omega, cntJ_intro () hja ?_ trivial⟩
      have e : fApart s l cs j = [] := by unfold fApart; rw [if_neg (by rw [hap, ex, ey]; exact fun h => h1 h.1)]
      rw [colL_succ, e, List.append_nil]
      rfl
  · have : j = s.apart.length := by omega
    subst this
    rfl

theorem sem_linkFaults (sig : List TControl) (s : TSorting) (l : Int) (cs : List Int) (g : sortOK sig s) (hc : cs.length = s.most.length) (lvl : Nat) (S : Sto) : Sem Go.Proofs.Tryz.prog fid_impl_Sorting_linkFaults lvl [.ag ((cSorting s).map .tr), iI l, tI cs] S (.ow 3 ((shared s l cs).map cFault) true) S := by
  have hmany := g.many
  have hapl := g.apartL
  refine sem_of_chk k_impl_Sorting_linkFaults trivial ?_
  simp only [c_impl_Sorting_linkFaults, cSorting, List.length_map, EVA, ↓reduceIte, Nat.reduceEqDiff, Nat.reduceMul, reduceCtorEq, Nat.reduceAdd, Nat.reduceSub, Nat.reduceLeDiff, Nat.reduceLT, Int.reduceToNat, Int.reduceLE, Int.reduceLT, mens, men]
  refine wp_cnt (α := Unit) cs.length (fun j _ => [(7, .hd (lvl, 384) [] 0 (colL (fMany s l cs) j).length none (colL (fMany s l cs) j).length), (15, iI j)]) (fun j _ => [(384, .ar 3 ((colL (fMany s l cs) j).map cFault) true (colL (fMany s l cs) j).length 0)]) (fun _ _ => True) () (by simp only [EVA, ↓reduceIte, Nat.reduceEqDiff, Nat.reduceMul, reduceCtorEq, Nat.reduceAdd, Nat.reduceSub, Nat.reduceLeDiff, Nat.reduceLT, Int.reduceToNat, Int.reduceLE, Int.reduceLT, mens, men]) (by (simp only [EVA, ↓reduceIte, Nat.reduceEqDiff, Nat.reduceMul, reduceCtorEq, Nat.reduceAdd, Nat.reduceSub, Nat.reduceLeDiff, Nat.reduceLT, Int.reduceToNat, Int.reduceLE, Int.reduceLT, mens, men]) <;> rfl) trivial ?_
  intro j _ hj _
  simp only [List.length_map, EVA, ↓reduceIte, Nat.reduceEqDiff, Nat.reduceMul, reduceCtorEq, Nat.reduceAdd, Nat.reduceSub, Nat.reduceLeDiff, Nat.reduceLT, Int.reduceToNat, Int.reduceLE, Int.reduceLT, mens, men]
  refine ite_of (fun hlt => ?_) (fun hge => ?_)
  · have hja : j < cs.length := by omega
    have gc := rI_get hja
    have gm := rI_get (l := s.most) (i := j) (by omega)
    have hle := colL_le (f := fMany s l cs) (B := 1) (j := j) fun k _ => fMany_le
    simp only [gc, gm, List.length_map, EVA, ↓reduceIte, Nat.reduceEqDiff, Nat.reduceMul, reduceCtorEq, Nat.reduceAdd, Nat.reduceSub, Nat.reduceLeDiff, Nat.reduceLT, Int.reduceToNat, Int.reduceLE, Int.reduceLT, mens, men]
    refine ite_of (fun he => ?_) (fun hne => ?_)
    · refine ⟨by omega, by rw [fits_i64]; omega, cntJ_intro () hja ?_ trivial⟩
      have e : fMany s l cs j = [⟨3, l, j⟩] := by unfold fMany; rw [if_pos he]
      rw [colL_succ, e, List.length_append, cF_app]
      rfl
    · refine ⟨by rw [fits_i64]; omega, cntJ_intro () hja ?_ trivial⟩
      have e : fMany s l cs j = [] := by unfold fMany; rw [if_neg hne]
      rw [colL_succ, e, List.append_nil]
      rfl
  have hj1 : j = cs.length := by omega
  subst hj1
  refine wp_cnt (α := Unit) s.apart.length (fun j _ => [(7, .hd (lvl, 384) [] 0 (colL (fMany s l cs) cs.length ++ colL (fApart s l cs) j).length none (colL (fMany s l cs) cs.length ++ colL (fApart s l cs) j).length), (37, iI j)]) (fun j _ => [(384, .ar 3 ((colL (fMany s l cs) cs.length ++ colL (fApart s l cs) j).map cFault) true (colL (fMany s l cs) cs.length ++ colL (fApart s l cs) j).length 0)]) (fun _ _ => True) () (by simp only [EVA, ↓reduceIte, Nat.reduceEqDiff, Nat.reduceMul, reduceCtorEq, Nat.reduceAdd, Nat.reduceSub, Nat.reduceLeDiff, Nat.reduceLT, Int.reduceToNat, Int.reduceLE, Int.reduceLT, mens, men]) (by (simp only [colL_zero, List.append_nil, EVA, ↓reduceIte, Nat.reduceEqDiff, Nat.reduceMul, reduceCtorEq, Nat.reduceAdd, Nat.reduceSub, Nat.reduceLeDiff, Nat.reduceLT, Int.reduceToNat, Int.reduceLE, Int.reduceLT, mens, men]) <;> rfl) trivial ?_
  intro j _ hj _
  simp only [List.length_map, EVA, ↓reduceIte, Nat.reduceEqDiff, Nat.reduceMul, reduceCtorEq, Nat.reduceAdd, Nat.reduceSub, Nat.reduceLeDiff, Nat.reduceLT, Int.reduceToNat, Int.reduceLE, Int.reduceLT, mens, men]
  refine ite_of (fun hlt => ?_) (fun hge => ?_)
  · have hja : j < s.apart.length := by omega
    have ga := getA (c := cA2) hja
    obtain ⟨x, y, ex, ey, hx, hy⟩ := apart_at g hja
    have gx := rI_get (l := cs) (i := x) (by omega)
    have gy := rI_get (l := cs) (i := y) (by omega)
    have hle := colL_le (f := fMany s l cs) (B := 1) (j := cs.length) fun k _ => fMany_le
    have hle2 := colL_le (f := fApart s l cs) (B := 1) (j := j) fun k _ => fApart_le
    have hap := apAt_eq hja
    by_cases h1 : 0 < g0 cs x
    · by_cases h2 : 0 < g0 cs y
      · simp only [ga, cA2, ex, ey, gx, gy, h1, h2, List.length_map, EVA, ↓reduceIte, Nat.reduceEqDiff, Nat.reduceMul, reduceCtorEq, Nat.reduceAdd, Nat.reduceSub, Nat.reduceLeDiff, Nat.reduceLT, Int.reduceToNat, Int.reduceLE, Int.reduceLT, mens, men]
        refine ⟨by rw [List.length_append]; omega, by rw [fits_i64]; omega, cntJ_intro () hja ?_ trivial⟩
        have e : fApart s l cs j = [⟨4, l, j⟩] := by unfold fApart; rw [if_pos (by rw [hap, ex, ey]; exact ⟨h1, h2⟩)]
        rw [colL_succ, ← List.append_assoc, e, List.length_append (bs := [_]), cF_app (colL (fMany s l cs) cs.length ++ _)]
        rfl
      · simp only [ga, cA2, ex, ey, gx, gy, h1, h2, List.length_map, EVA, ↓reduceIte, Nat.reduceEqDiff, Nat.reduceMul, reduceCtorEq, Nat.reduceAdd, Nat.reduceSub, Nat.reduceLeDiff, Nat.reduceLT, Int.reduceToNat, Int.reduceLE, Int.reduceLT, mens, men]
        refine ⟨by rw [fits_i64]; omega, cntJ_intro () hja ?_ trivial⟩
        have e : fApart s l cs j = [] := by unfold fApart; rw [if_neg (by rw [hap, ex, ey]; exact fun h => h2 h.2)]
        rw [colL_succ, e, List.append_nil]
        rfl
    · simp only [ga, cA2, ex, ey, gx, gy, h1, List.length_map, EVA, ↓reduceIte, Nat.reduceEqDiff, Nat.reduceMul, reduceCtorEq, Nat.reduceAdd, Nat.reduceSub, Nat.reduceLeDiff, Nat.reduceLT, Int.reduceToNat, Int.reduceLE, Int.reduceLT, mens, men]
      refine ⟨by rw [fits_i64]; omega, cntJ_intro () hja ?_ trivial⟩
      have e : fApart s l cs j = [] := by unfold fApart; rw [if_neg (by rw [hap, ex, ey]; exact fun h => h1 h.1)]
      rw [colL_succ, e, List.append_nil]
      rfl
  · have : j = s.apart.length := by omega
    subst this
    rfl
end Go.Fd

/-
  ALL FAULTS, BOTH SIDES; SORTED OR NOT. Own work.
-/
namespace Go.Fd
set_option maxRecDepth 20000

theorem two.links {sig : List TControl} {s : TSorting} {b : TBigraph} (h2 : two sig s b) : (linksN b : Int) = b.edges + b.outer.length := by
  have := h2.big.edges
  unfold linksN
  omega
theorem placed_lens {s : TSorting} {b : TBigraph} {j : Nat} : (colL (placed s b) j).length ≤ j := by
  have := colL_le (f := placed s b) (B := 1) (j := j) fun k _ => placed_le
  omega
theorem two.lens {sig : List TControl} {s : TSorting} {b : TBigraph} (h2 : two sig s b) {j : Nat} : (colL (fun l : Nat => shared s l (onL s b l)) j).length ≤ j * 20 :=
  colL_le (f := fun l : Nat => shared s l (onL s b l)) (B := 20) fun k _ => shared_le h2.srt (Bn_onL h2.big.small k).len

theorem sem_l7Faults (sig : List TControl) (s : TSorting) (b : TBigraph) (h2 : two sig s b) (hs : bdSorting 4294967296 s) (lvl : Nat) (S : Sto) : Sem Go.Proofs.Tryz.prog fid_spec_l7Faults lvl [.ag ((cSorting s).map .tr), .ag ((cBigraph b).map .tr)] S (.ow 3 ((faults s b).map cFault) true) S := by
  have hsm := h2.big.small
  have hN := h2.links
  have hN2 := linksN_le hsm
  have hn8 := hsm.nodes
  refine sem_of_chk k_spec_l7Faults trivial ?_
  simp only [c_spec_l7Faults, cSorting, cBigraph, List.length_map, EVA, ↓reduceIte, Nat.reduceEqDiff, Nat.reduceMul, reduceCtorEq, Nat.reduceAdd, Nat.reduceSub, Nat.reduceLeDiff, Nat.reduceLT, Int.reduceToNat, Int.reduceLE, Int.reduceLT, mens, men]
  refine wp_cnt (α := Unit) b.nodes.length (fun j _ => [(5, .hd (lvl, 256) [] 0 (colL (placed s b) j).length none (colL (placed s b) j).length), (6, iI j)]) (fun j _ => [(256, .ar 3 ((colL (placed s b) j).map cFault) true (colL (placed s b) j).length 0)]) (fun _ _ => True) () (by simp only [EVA, ↓reduceIte, Nat.reduceEqDiff, Nat.reduceMul, reduceCtorEq, Nat.reduceAdd, Nat.reduceSub, Nat.reduceLeDiff, Nat.reduceLT, Int.reduceToNat, Int.reduceLE, Int.reduceLT, mens, men]) (by (simp only [EVA, ↓reduceIte, Nat.reduceEqDiff, Nat.reduceMul, reduceCtorEq, Nat.reduceAdd, Nat.reduceSub, Nat.reduceLeDiff, Nat.reduceLT, Int.reduceToNat, Int.reduceLE, Int.reduceLT, mens, men]) <;> rfl) trivial ?_
  intro j _ hj _
  simp only [cSorting, cBigraph, List.length_map, EVA, ↓reduceIte, Nat.reduceEqDiff, Nat.reduceMul, reduceCtorEq, Nat.reduceAdd, Nat.reduceSub, Nat.reduceLeDiff, Nat.reduceLT, Int.reduceToNat, Int.reduceLE, Int.reduceLT, mens, men]
  refine ite_of (fun hlt => ?_) (fun hge => ?_)
  · have hja : j < b.nodes.length := by omega
    have hle := placed_lens (s := s) (b := b) (j := j)
    have hp1 := placed_le (s := s) (b := b) (k := j)
    refine kca_intro (sem_l7Placed sig s b j h2 hs hja) ?_
    simp only [List.length_map, scrF, unrF, max_add, EVA, ↓reduceIte, Nat.reduceEqDiff, Nat.reduceMul, reduceCtorEq, Nat.reduceAdd, Nat.reduceSub, Nat.reduceLeDiff, Nat.reduceLT, Int.reduceToNat, Int.reduceLE, Int.reduceLT, mens, men]
    refine ⟨by omega, by rw [fits_i64]; omega, cntJ_intro () hja ?_ trivial⟩
    rw [colL_succ, List.length_append, cF_app]
    rfl
  have hj1 : j = b.nodes.length := by omega
  subst hj1
  refine wp_cnt (α := Unit) (linksN b) (fun j _ => [(5, .hd (lvl, 256) [] 0 (colL (placed s b) b.nodes.length ++ colL (fun l : Nat => shared s l (onL s b l)) j).length none (colL (placed s b) b.nodes.length ++ colL (fun l : Nat => shared s l (onL s b l)) j).length), (7, iI j)]) (fun j _ => [(256, .ar 3 ((colL (placed s b) b.nodes.length ++ colL (fun l : Nat => shared s l (onL s b l)) j).map cFault) true (colL (placed s b) b.nodes.length ++ colL (fun l : Nat => shared s l (onL s b l)) j).length 0)]) (fun _ _ => True) () (by simp only [EVA, ↓reduceIte, Nat.reduceEqDiff, Nat.reduceMul, reduceCtorEq, Nat.reduceAdd, Nat.reduceSub, Nat.reduceLeDiff, Nat.reduceLT, Int.reduceToNat, Int.reduceLE, Int.reduceLT, mens, men]) (by (simp only [colL_zero, List.append_nil, EVA, ↓reduceIte, Nat.reduceEqDiff, Nat.reduceMul, reduceCtorEq, Nat.reduceAdd, Nat.reduceSub, Nat.reduceLeDiff, Nat.reduceLT, Int.reduceToNat, Int.reduceLE, Int.reduceLT, mens, men]) <;> rfl) trivial ?_
  intro j _ hj _
  simp only [cSorting, cBigraph, List.length_map, EVA, ↓reduceIte, Nat.reduceEqDiff, Nat.reduceMul, reduceCtorEq, Nat.reduceAdd, Nat.reduceSub, Nat.reduceLeDiff, Nat.reduceLT, Int.reduceToNat, Int.reduceLE, Int.reduceLT, mens, men]
  refine ⟨by rw [fits_i64]; omega, ite_of (fun hlt => ?_) (fun hge => ?_)⟩
  · have hja : j < linksN b := by omega
    have hle := placed_lens (s := s) (b := b) (j := b.nodes.length)
    have hle2 := h2.lens (j := j)
    have hsl := shared_le h2.srt (l := j) (Bn_onL (s := s) hsm j).len
    refine kca_intro (sem_l7On sig s b j h2) ?_
    simp only [cSorting, cBigraph, List.length_map, EVA, ↓reduceIte, Nat.reduceEqDiff, Nat.reduceMul, reduceCtorEq, Nat.reduceAdd, Nat.reduceSub, Nat.reduceLeDiff, Nat.reduceLT, Int.reduceToNat, Int.reduceLE, Int.reduceLT, mens, men]
    refine kca_intro (sem_l7Shared sig s j (onL s b j) h2.srt (Bn_onL hsm j).len) ?_
    simp only [List.length_map, scrF, unrF, max_add, EVA, ↓reduceIte, Nat.reduceEqDiff, Nat.reduceMul, reduceCtorEq, Nat.reduceAdd, Nat.reduceSub, Nat.reduceLeDiff, Nat.reduceLT, Int.reduceToNat, Int.reduceLE, Int.reduceLT, mens, men]
    refine ⟨by rw [List.length_append]; omega, by rw [fits_i64]; omega, cntJ_intro () hja ?_ trivial⟩
    rw [colL_succ, ← List.append_assoc, List.length_append (bs := shared s j (onL s b j)), cF_app (colL (placed s b) b.nodes.length ++ _)]
    rfl
  · have : j = linksN b := by omega
    subst this
    rfl

theorem sem_faults (sig : List TControl) (s : TSorting) (b : TBigraph) (h2 : two sig s b) (hs : bdSorting 4294967296 s) (lvl : Nat) (S : Sto) : Sem Go.Proofs.Tryz.prog fid_impl_Sorting_faults lvl [.ag ((cSorting s).map .tr), .ag ((cBigraph b).map .tr)] S (.ow 3 ((faults s b).map cFault) true) S := by
  have hsm := h2.big.small
  have hN := h2.links
  have hN2 := linksN_le hsm
  have hn8 := hsm.nodes
  refine sem_of_chk k_impl_Sorting_faults trivial ?_
  simp only [c_impl_Sorting_faults, cSorting, cBigraph, List.length_map, EVA, ↓reduceIte, Nat.reduceEqDiff, Nat.reduceMul, reduceCtorEq, Nat.reduceAdd, Nat.reduceSub, Nat.reduceLeDiff, Nat.reduceLT, Int.reduceToNat, Int.reduceLE, Int.reduceLT, mens, men]
  refine wp_cnt (α := Unit) b.nodes.length (fun j _ => [(5, .hd (lvl, 288) [] 0 (colL (placed s b) j).length none (colL (placed s b) j).length), (13, iI j)]) (fun j _ => [(288, .ar 3 ((colL (placed s b) j).map cFault) true (colL (placed s b) j).length 0)]) (fun _ _ => True) () (by simp only [EVA, ↓reduceIte, Nat.reduceEqDiff, Nat.reduceMul, reduceCtorEq, Nat.reduceAdd, Nat.reduceSub, Nat.reduceLeDiff, Nat.reduceLT, Int.reduceToNat, Int.reduceLE, Int.reduceLT, mens, men]) (by (simp only [EVA, ↓reduceIte, Nat.reduceEqDiff, Nat.reduceMul, reduceCtorEq, Nat.reduceAdd, Nat.reduceSub, Nat.reduceLeDiff, Nat.reduceLT, Int.reduceToNat, Int.reduceLE, Int.reduceLT, mens, men]) <;> rfl) trivial ?_
  intro j _ hj _
  simp only [cSorting, cBigraph, List.length_map, EVA, ↓reduceIte, Nat.reduceEqDiff, Nat.reduceMul, reduceCtorEq, Nat.reduceAdd, Nat.reduceSub, Nat.reduceLeDiff, Nat.reduceLT, Int.reduceToNat, Int.reduceLE, Int.reduceLT, mens, men]
  refine ite_of (fun hlt => ?_) (fun hge => ?_)
  · have hja : j < b.nodes.length := by omega
    have hle := placed_lens (s := s) (b := b) (j := j)
    have hp := h2.par hja
    obtain ⟨c, e1, e2, c1, c2, c3⟩ := h2.ctl hja
    have gn := getA (c := cNode) hja
    have ep : parAt b j = b.nodes[j].parent := parAt_eq hja
    simp only [cSorting, cBigraph, List.length_map, gn, cNode, EVA, ↓reduceIte, Nat.reduceEqDiff, Nat.reduceMul, reduceCtorEq, Nat.reduceAdd, Nat.reduceSub, Nat.reduceLeDiff, Nat.reduceLT, Int.reduceToNat, Int.reduceLE, Int.reduceLT, mens, men]
    refine kca_intro (sem_choices sig s b b.nodes[j].parent h2 (by omega)) ?_
    simp only [cSorting, cBigraph, List.length_map, EVA, ↓reduceIte, Nat.reduceEqDiff, Nat.reduceMul, reduceCtorEq, Nat.reduceAdd, Nat.reduceSub, Nat.reduceLeDiff, Nat.reduceLT, Int.reduceToNat, Int.reduceLE, Int.reduceLT, mens, men]
    refine kca_intro (sem_Contains (chs s b b.nodes[j].parent) b.nodes[j].control (by have := h2.chsL hs b.nodes[j].parent; omega)) ?_
    by_cases hm : b.nodes[j].control ∈ chs s b b.nodes[j].parent
    · simp only [hm, List.length_map, EVA, ↓reduceIte, Nat.reduceEqDiff, Nat.reduceMul, reduceCtorEq, Nat.reduceAdd, Nat.reduceSub, Nat.reduceLeDiff, Nat.reduceLT, Int.reduceToNat, Int.reduceLE, Int.reduceLT, mens, men]
      refine ⟨by rw [fits_i64]; omega, cntJ_intro () hja ?_ trivial⟩
      have e : placed s b j = [] := by unfold placed; rw [ep, e2, ← e1, if_pos hm]
      rw [colL_succ, e, List.append_nil]
      rfl
    · simp only [hm, List.length_map, EVA, ↓reduceIte, Nat.reduceEqDiff, Nat.reduceMul, reduceCtorEq, Nat.reduceAdd, Nat.reduceSub, Nat.reduceLeDiff, Nat.reduceLT, Int.reduceToNat, Int.reduceLE, Int.reduceLT, mens, men]
      refine ite_of (fun hlt => ?_) (fun hge => ?_)
      · have e : placed s b j = [⟨1, j, -1 - b.nodes[j].parent⟩] := by unfold placed; rw [ep, e2, ← e1, if_neg hm, if_pos hlt]
        refine ⟨by rw [fits_i64]; omega, by omega, by rw [fits_i64]; omega, cntJ_intro () hja ?_ trivial⟩
        rw [colL_succ, e, List.length_append, cF_app]
        rfl
      · have e : placed s b j = [⟨2, j, b.nodes[j].parent⟩] := by unfold placed; rw [ep, e2, ← e1, if_neg hm, if_neg hge]
        refine ⟨by omega, by rw [fits_i64]; omega, cntJ_intro () hja ?_ trivial⟩
        rw [colL_succ, e, List.length_append, cF_app]
        rfl
  have hj1 : j = b.nodes.length := by omega
  subst hj1
  refine ⟨by rw [fits_i64]; omega, ?_⟩
  refine wp_cnt (α := Unit) (linksN b) (fun j _ => [(5, .hd (lvl, 288) [] 0 (colL (placed s b) b.nodes.length ++ colL (fun l : Nat => shared s l (onL s b l)) j).length none (colL (placed s b) b.nodes.length ++ colL (fun l : Nat => shared s l (onL s b l)) j).length), (53, iI j)]) (fun j _ => [(288, .ar 3 ((colL (placed s b) b.nodes.length ++ colL (fun l : Nat => shared s l (onL s b l)) j).map cFault) true (colL (placed s b) b.nodes.length ++ colL (fun l : Nat => shared s l (onL s b l)) j).length 0)]) (fun _ _ => True) () (by simp only [EVA, ↓reduceIte, Nat.reduceEqDiff, Nat.reduceMul, reduceCtorEq, Nat.reduceAdd, Nat.reduceSub, Nat.reduceLeDiff, Nat.reduceLT, Int.reduceToNat, Int.reduceLE, Int.reduceLT, mens, men]) (by (simp only [colL_zero, List.append_nil, EVA, ↓reduceIte, Nat.reduceEqDiff, Nat.reduceMul, reduceCtorEq, Nat.reduceAdd, Nat.reduceSub, Nat.reduceLeDiff, Nat.reduceLT, Int.reduceToNat, Int.reduceLE, Int.reduceLT, mens, men]) <;> rfl) trivial ?_
  intro j _ hj _
  simp only [cSorting, cBigraph, List.length_map, EVA, ↓reduceIte, Nat.reduceEqDiff, Nat.reduceMul, reduceCtorEq, Nat.reduceAdd, Nat.reduceSub, Nat.reduceLeDiff, Nat.reduceLT, Int.reduceToNat, Int.reduceLE, Int.reduceLT, mens, men]
  refine ite_of (fun hlt => ?_) (fun hge => ?_)
  · have hja : j < linksN b := by omega
    have hle := placed_lens (s := s) (b := b) (j := b.nodes.length)
    have hle2 := h2.lens (j := j)
    have hsl := shared_le h2.srt (l := j) (Bn_onL (s := s) hsm j).len
    refine kca_intro (sem_sortsOn sig s b j h2) ?_
    simp only [cSorting, cBigraph, List.length_map, EVA, ↓reduceIte, Nat.reduceEqDiff, Nat.reduceMul, reduceCtorEq, Nat.reduceAdd, Nat.reduceSub, Nat.reduceLeDiff, Nat.reduceLT, Int.reduceToNat, Int.reduceLE, Int.reduceLT, mens, men]
    refine kca_intro (sem_linkFaults sig s j (onL s b j) h2.srt (Bn_onL hsm j).len) ?_
    simp only [List.length_map, scrF, unrF, max_add, EVA, ↓reduceIte, Nat.reduceEqDiff, Nat.reduceMul, reduceCtorEq, Nat.reduceAdd, Nat.reduceSub, Nat.reduceLeDiff, Nat.reduceLT, Int.reduceToNat, Int.reduceLE, Int.reduceLT, mens, men]
    refine ⟨by rw [List.length_append]; omega, by rw [fits_i64]; omega, cntJ_intro () hja ?_ trivial⟩
    rw [colL_succ, ← List.append_assoc, List.length_append (bs := shared s j (onL s b j)), cF_app (colL (placed s b) b.nodes.length ++ _)]
    rfl
  · have : j = linksN b := by omega
    subst this
    rfl

/-! ## valid ones -/
theorem sem_l7Two (sig : List TControl) (s : TSorting) (b : TBigraph) (hn : sig.length ≤ 4294967296) (hbs : ∀ y ∈ sig, bdControl 4294967296 y) (hs : bdSorting 4294967296 s) (hb : bdBigraph 4294967296 b) (hf : ftBigraph b) (lvl : Nat) (S : Sto) : Sem Go.Proofs.Tryz.prog fid_spec_l7Two lvl [.tr (.sl (sig.map cControl)), .ag ((cSorting s).map .tr), .ag ((cBigraph b).map .tr)] S (iB (dc (two sig s b))) S := by
  refine sem_of_chk k_spec_l7Two trivial ?_
  simp only [c_spec_l7Two, cSorting, cBigraph, List.length_map, EVA, ↓reduceIte, Nat.reduceEqDiff, Nat.reduceMul, reduceCtorEq, Nat.reduceAdd, Nat.reduceSub, Nat.reduceLeDiff, Nat.reduceLT, Int.reduceToNat, Int.reduceLE, Int.reduceLT, mens, men]
  refine kca_intro (sem_l7Good sig s hn hbs hs) ?_
  cases h1 : dc (sortOK sig s)
  · simp only [EVA, ↓reduceIte, Nat.reduceEqDiff, Nat.reduceMul, reduceCtorEq, Nat.reduceAdd, Nat.reduceSub, Nat.reduceLeDiff, Nat.reduceLT, Int.reduceToNat, Int.reduceLE, Int.reduceLT, mens, men]
    rw [dc_false fun h : two sig s b => dc_not.1 h1 h.srt]
  simp only [cSorting, cBigraph, List.length_map, EVA, ↓reduceIte, Nat.reduceEqDiff, Nat.reduceMul, reduceCtorEq, Nat.reduceAdd, Nat.reduceSub, Nat.reduceLeDiff, Nat.reduceLT, Int.reduceToNat, Int.reduceLE, Int.reduceLT, mens, men]
  refine kca_intro (sem_l2Good sig b hn hbs hb hf) ?_
  simp only [EVA, ↓reduceIte, Nat.reduceEqDiff, Nat.reduceMul, reduceCtorEq, Nat.reduceAdd, Nat.reduceSub, Nat.reduceLeDiff, Nat.reduceLT, Int.reduceToNat, Int.reduceLE, Int.reduceLT, mens, men]
  rw [dc_congr (p := two sig s b) ⟨fun h => h.big, fun h => ⟨dc_iff.1 h1, h⟩⟩]
theorem sem_isSortedBy (sig : List TControl) (s : TSorting) (b : TBigraph) (hn : sig.length ≤ 4294967296) (hbs : ∀ y ∈ sig, bdControl 4294967296 y) (hs : bdSorting 4294967296 s) (hb : bdBigraph 4294967296 b) (lvl : Nat) (S : Sto) : Sem Go.Proofs.Tryz.prog fid_impl_isSortedBy lvl [.tr (.sl (sig.map cControl)), .ag ((cSorting s).map .tr), .ag ((cBigraph b).map .tr)] S (iB (dc (two sig s b))) S := by
  refine sem_of_chk k_impl_isSortedBy trivial ?_
  simp only [c_impl_isSortedBy, cSorting, cBigraph, List.length_map, EVA, ↓reduceIte, Nat.reduceEqDiff, Nat.reduceMul, reduceCtorEq, Nat.reduceAdd, Nat.reduceSub, Nat.reduceLeDiff, Nat.reduceLT, Int.reduceToNat, Int.reduceLE, Int.reduceLT, mens, men]
  refine kca_intro (sem_impl_IsSorting sig s hn hbs hs) ?_
  cases h1 : dc (sortOK sig s)
  · simp only [EVA, ↓reduceIte, Nat.reduceEqDiff, Nat.reduceMul, reduceCtorEq, Nat.reduceAdd, Nat.reduceSub, Nat.reduceLeDiff, Nat.reduceLT, Int.reduceToNat, Int.reduceLE, Int.reduceLT, mens, men]
    rw [dc_false fun h : two sig s b => dc_not.1 h1 h.srt]
  simp only [cSorting, cBigraph, List.length_map, EVA, ↓reduceIte, Nat.reduceEqDiff, Nat.reduceMul, reduceCtorEq, Nat.reduceAdd, Nat.reduceSub, Nat.reduceLeDiff, Nat.reduceLT, Int.reduceToNat, Int.reduceLE, Int.reduceLT, mens, men]
  refine kca_intro (sem_impl_IsBigraph sig b hn hbs hb) ?_
  simp only [EVA, ↓reduceIte, Nat.reduceEqDiff, Nat.reduceMul, reduceCtorEq, Nat.reduceAdd, Nat.reduceSub, Nat.reduceLeDiff, Nat.reduceLT, Int.reduceToNat, Int.reduceLE, Int.reduceLT, mens, men]
  rw [dc_congr (p := two sig s b) ⟨fun h => h.big, fun h => ⟨dc_iff.1 h1, h⟩⟩]

/-! ## sorted -/
end Go.Fd

/-
  THE LAWS' FUNCTIONS ON SORTED BIGRAPHS, BOTH SIDES. Own work.
-/
namespace Go.Fd
set_option maxRecDepth 20000

open Classical in
noncomputable def r0_FaultsOf (sig : List TControl) (s : TSorting) (b : TBigraph) : List TFault := if two sig s b then faults s b else []
noncomputable def r1_FaultsOf (sig : List TControl) (s : TSorting) (b : TBigraph) : Bool := dc (two sig s b)
theorem sem_spec_FaultsOf (sig : List TControl) (s : TSorting) (b : TBigraph) (hn : sig.length ≤ 4294967296) (hbs : ∀ y ∈ sig, bdControl 4294967296 y) (hs : bdSorting 4294967296 s) (hb : bdBigraph 4294967296 b) (hf : ftBigraph b) (lvl : Nat) (S : Sto) : Sem Go.Proofs.Tryz.prog fid_spec_FaultsOf lvl [.tr (.sl (sig.map cControl)), .ag ((cSorting s).map .tr), .ag ((cBigraph b).map .tr)] S (.tu [.ow 3 ((r0_FaultsOf sig s b).map cFault) true, iB (r1_FaultsOf sig s b)]) S := by
  refine sem_of_chk k_spec_FaultsOf ⟨trivial, trivial, trivial⟩ ?_
  simp only [c_spec_FaultsOf, cSorting, cBigraph, List.length_map, EVA, ↓reduceIte, Nat.reduceEqDiff, Nat.reduceMul, reduceCtorEq, Nat.reduceAdd, Nat.reduceSub, Nat.reduceLeDiff, Nat.reduceLT, Int.reduceToNat, Int.reduceLE, Int.reduceLT, mens, men]
  refine kca_intro (sem_l7Two sig s b hn hbs hs hb hf) ?_
  unfold r0_FaultsOf r1_FaultsOf
  cases h1 : dc (two sig s b)
  · simp only [EVA, ↓reduceIte, Nat.reduceEqDiff, Nat.reduceMul, reduceCtorEq, Nat.reduceAdd, Nat.reduceSub, Nat.reduceLeDiff, Nat.reduceLT, Int.reduceToNat, Int.reduceLE, Int.reduceLT, mens, men]
    rw [if_neg (dc_not.1 h1)]
    rfl
  have h2 := dc_iff.1 h1
  rw [if_pos h2]
  simp only [cSorting, cBigraph, List.length_map, EVA, ↓reduceIte, Nat.reduceEqDiff, Nat.reduceMul, reduceCtorEq, Nat.reduceAdd, Nat.reduceSub, Nat.reduceLeDiff, Nat.reduceLT, Int.reduceToNat, Int.reduceLE, Int.reduceLT, mens, men]
  refine kca_intro (sem_l7Faults sig s b h2 hs) ?_
  simp only [List.length_map, EVA, ↓reduceIte, Nat.reduceEqDiff, Nat.reduceMul, reduceCtorEq, Nat.reduceAdd, Nat.reduceSub, Nat.reduceLeDiff, Nat.reduceLT, Int.reduceToNat, Int.reduceLE, Int.reduceLT, mens, men]

theorem sem_impl_FaultsOf (sig : List TControl) (s : TSorting) (b : TBigraph) (hn : sig.length ≤ 4294967296) (hbs : ∀ y ∈ sig, bdControl 4294967296 y) (hs : bdSorting 4294967296 s) (hb : bdBigraph 4294967296 b) (_hf : ftBigraph b) (lvl : Nat) (S : Sto) : Sem Go.Proofs.Tryz.prog fid_impl_FaultsOf lvl [.tr (.sl (sig.map cControl)), .ag ((cSorting s).map .tr), .ag ((cBigraph b).map .tr)] S (.tu [.ow 3 ((r0_FaultsOf sig s b).map cFault) true, iB (r1_FaultsOf sig s b)]) S := by
  refine sem_of_chk k_impl_FaultsOf ⟨trivial, trivial, trivial⟩ ?_
  simp only [c_impl_FaultsOf, cSorting, cBigraph, List.length_map, EVA, ↓reduceIte, Nat.reduceEqDiff, Nat.reduceMul, reduceCtorEq, Nat.reduceAdd, Nat.reduceSub, Nat.reduceLeDiff, Nat.reduceLT, Int.reduceToNat, Int.reduceLE, Int.reduceLT, mens, men]
  refine kca_intro (sem_isSortedBy sig s b hn hbs hs hb) ?_
  unfold r0_FaultsOf r1_FaultsOf
  cases h1 : dc (two sig s b)
  · simp only [EVA, ↓reduceIte, Nat.reduceEqDiff, Nat.reduceMul, reduceCtorEq, Nat.reduceAdd, Nat.reduceSub, Nat.reduceLeDiff, Nat.reduceLT, Int.reduceToNat, Int.reduceLE, Int.reduceLT, mens, men]
    rw [if_neg (dc_not.1 h1)]
    rfl
  have h2 := dc_iff.1 h1
  rw [if_pos h2]
  simp only [cSorting, cBigraph, List.length_map, EVA, ↓reduceIte, Nat.reduceEqDiff, Nat.reduceMul, reduceCtorEq, Nat.reduceAdd, Nat.reduceSub, Nat.reduceLeDiff, Nat.reduceLT, Int.reduceToNat, Int.reduceLE, Int.reduceLT, mens, men]
  refine kca_intro (sem_faults sig s b h2 hs) ?_
  simp only [List.length_map, EVA, ↓reduceIte, Nat.reduceEqDiff, Nat.reduceMul, reduceCtorEq, Nat.reduceAdd, Nat.reduceSub, Nat.reduceLeDiff, Nat.reduceLT, Int.reduceToNat, Int.reduceLE, Int.reduceLT, mens, men]

end Go.Fd

/-
  The annotated codes of the functions, printed by a program of mine (gen.py), and the check that they belong to the program.
-/
namespace Go.Fd
def c_laws_FnExactFaultsOf : F2 :=
  { nt := 142, res := [.t 6 [0]], body :=
   (.sq (rg [oo 4 (.bt (.t 1)),
 oo 5 (.bt (.t 2)),
 om 6 (.k (.bool false))])
 (.sq (rg [om 7 (i6 1048576)])
 (.sq (rg [om 20 (.t 0),
 om 21 (.t 7),
 oo 22 (.ca .pure false (.f fid_laws_szControlS) [.t 20, .t 21]),
 om 7 (.t 22)])
 (.sq (.sq (rg [om 23 (.t 7),
 oo 24 (.bi .lss 0 (.t 23) (i6 0))])
 (.cd (.t 24) (.sq (rg [om 6 (.k (.bool true))])
 (.rt))
 (.sk)))
 (.sq (rg [oo 25 (.ld (some 5) (.t 4)),
 om 26 (.t 7),
 oo 27 (.ca .pure false (.f fid_laws_szSorting) [.t 25, .t 26]),
 om 7 (.t 27)])
 (.sq (.sq (rg [om 28 (.t 7),
 oo 29 (.bi .lss 0 (.t 28) (i6 0))])
 (.cd (.t 29) (.sq (rg [om 6 (.k (.bool true))])
 (.rt))
 (.sk)))
 (.sq (rg [oo 30 (.ld (some 6) (.t 5)),
 om 31 (.t 7),
 oo 32 (.ca .pure false (.f fid_laws_szBigraph) [.t 30, .t 31]),
 om 7 (.t 32)])
 (.sq (.sq (rg [om 33 (.t 7),
 oo 34 (.bi .lss 0 (.t 33) (i6 0))])
 (.cd (.t 34) (.sq (rg [om 6 (.k (.bool true))])
 (.rt))
 (.sk)))
 (.sq (.rg (some 0) [om 36 (.t 0),
 oo 37 (.ca .pure false (.f fid_laws_toControlS) [.t 36]),
 oo 38 (.ld (some 5) (.t 4)),
 oo 39 (.ca .pure false (.f fid_laws_toSorting) [.t 38]),
 oo 40 (.ld (some 6) (.t 5)),
 oo 41 (.ca .pure false (.f fid_laws_toBigraph) [.t 40]),
 oo 42 (.ca .pure false (.f fid_spec_FaultsOf) [.t 37, .t 39, .t 41]),
 om 35 (.t 42),
 oo 43 (.ex 0 (.t 35)),
 oo 44 (.ex 1 (.t 35)),
 om 8 (.t 43),
 om 9 (.t 44)])
 (.sq (rg [om 45 (.t 0),
 oo 46 (.ca .pure true (.f fid_laws_toControlS) [.t 45]),
 om 10 (.t 46)])
 (.sq (rg [oo 47 (.ld (some 5) (.t 4)),
 oo 48 (.ca .pure true (.f fid_laws_toSorting) [.t 47]),
 oo 11 (.al [.slice none 0 0, .slice none 0 0, .slice none 0 0, .slice none 0 0, .slice none 0 0] []),
 on1 (.st 5 (.t 11) (.t 48))])
 (.sq (rg [oo 49 (.ld (some 6) (.t 5)),
 oo 50 (.ca .pure true (.f fid_laws_toBigraph) [.t 49]),
 oo 12 (.al [.int .i64 0, .slice none 0 0, .slice none 0 0, .int .i64 0, .slice none 0 0, .slice none 0 0] []),
 on1 (.st 6 (.t 12) (.t 50))])
 (.sq (rg [om 52 (.t 10),
 oo 53 (.ld (some 5) (.t 11)),
 oo 54 (.ld (some 6) (.t 12)),
 oo 55 (.ca .pure true (.f fid_impl_FaultsOf) [.t 52, .t 53, .t 54]),
 om 51 (.t 55),
 oo 56 (.ex 0 (.t 51)),
 oo 57 (.ex 1 (.t 51)),
 om 13 (.t 56),
 om 14 (.t 57)])
 (.sq (.sq (rg [om 58 (.t 13),
 om 59 (.t 8),
 oo 60 (.ca .pure false (.f fid_laws_eqFaultS) [.t 58, .t 59]),
 oo 61 (.nt (.t 60)),
 om 62 (.t 61),
 og 63 62 false (.mv (.t 14) none),
 og 64 62 false (.mv (.t 9) none),
 og 65 62 false (.bi .neq 2 (.t 63) (.t 64)),
 oo 66 (.pk (.t 62) (.k (.bool true)) (.t 65))])
 (.cd (.t 66) (.sq (rg [om 6 (.k (.bool false))])
 (.rt))
 (.sk)))
 (.sq (.sq (rg [om 67 (.t 10),
 om 68 (.t 0),
 oo 69 (.ca .pure false (.f fid_laws_toControlS) [.t 68]),
 oo 70 (.ca .pure false (.f fid_laws_eqControlS) [.t 67, .t 69]),
 oo 71 (.nt (.t 70))])
 (.cd (.t 71) (.sq (rg [om 6 (.k (.bool false))])
 (.rt))
 (.sk)))
 (.sq (.sq (.rg (some 0) [oo 72 (.ld (some 5) (.t 11)),
 oo 73 (.ld (some 5) (.t 4)),
 oo 74 (.ca .pure false (.f fid_laws_toSorting) [.t 73]),
 oo 75 (.ca .pure false (.f fid_laws_eqSorting) [.t 72, .t 74]),
 oo 76 (.nt (.t 75))])
 (.cd (.t 76) (.sq (rg [om 6 (.k (.bool false))])
 (.rt))
 (.sk)))
 (.sq (.sq (.rg (some 0) [oo 77 (.ld (some 6) (.t 12)),
 oo 78 (.ld (some 6) (.t 5)),
 oo 79 (.ca .pure false (.f fid_laws_toBigraph) [.t 78]),
 oo 80 (.ca .pure false (.f fid_laws_eqBigraph) [.t 77, .t 79]),
 oo 81 (.nt (.t 80))])
 (.cd (.t 81) (.sq (rg [om 6 (.k (.bool false))])
 (.rt))
 (.sk)))
 (.sq (rg [om 15 (i6 1)])
 (.sq (rg [om 82 (.t 10),
 om 83 (.t 15),
 oo 84 (.ca .any true (.f fid_laws_markControlS) [.t 82, .t 83]),
 om 15 (.t 84)])
 (.sq (rg [oo 85 (.ld (some 5) (.t 11)),
 om 86 (.t 15),
 oo 87 (.ca .any true (.f fid_laws_markSorting) [.t 85, .t 86]),
 om 15 (.t 87)])
 (.sq (rg [oo 88 (.ld (some 6) (.t 12)),
 om 89 (.t 15),
 oo 90 (.ca .any true (.f fid_laws_markBigraph) [.t 88, .t 89]),
 om 15 (.t 90)])
 (.sq (.sq (rg [om 91 (.t 15),
 oo 92 (.bi .lss 0 (.t 91) (i6 0)),
 om 93 (.t 92),
 og 94 93 false (.mv (.t 13) none),
 og 95 93 false (.mv (.t 8) none),
 og 96 93 false (.ca .pure false (.f fid_laws_eqFaultS) [.t 94, .t 95]),
 og 97 93 false (.nt (.t 96)),
 oo 98 (.pk (.t 93) (.k (.bool true)) (.t 97)),
 om 99 (.t 98),
 og 100 99 false (.mv (.t 14) none),
 og 101 99 false (.mv (.t 9) none),
 og 102 99 false (.bi .neq 2 (.t 100) (.t 101)),
 oo 103 (.pk (.t 99) (.k (.bool true)) (.t 102))])
 (.cd (.t 103) (.sq (rg [om 6 (.k (.bool false))])
 (.rt))
 (.sk)))
 (.sq (rg [om 16 (i6 1)])
 (.sq (rg [om 104 (.t 13),
 om 105 (.t 16),
 oo 106 (.ca .any true (.f fid_laws_markFaultS) [.t 104, .t 105]),
 om 16 (.t 106)])
 (.sq (rg [om 17 (i6 1)])
 (.sq (rg [om 107 (.t 13),
 om 108 (.t 17),
 oo 109 (.ca .pure false (.f fid_laws_heldFaultS) [.t 107, .t 108]),
 om 17 (.t 109)])
 (.sq (.sq (rg [om 110 (.t 17),
 oo 111 (.bi .lss 0 (.t 110) (i6 0))])
 (.cd (.t 111) (.sq (rg [om 6 (.k (.bool false))])
 (.rt))
 (.sk)))
 (.sq (.sq (rg [om 112 (.t 17),
 om 113 (.t 16),
 oo 114 (.bi .neq 0 (.t 112) (.t 113))])
 (.cd (.t 114) (.sq (rg [om 6 (.k (.bool false))])
 (.rt))
 (.sk)))
 (.sq (.rg (some 0) [om 116 (.t 0),
 oo 117 (.ca .pure false (.f fid_laws_toControlS) [.t 116]),
 oo 118 (.ld (some 5) (.t 4)),
 oo 119 (.ca .pure false (.f fid_laws_toSorting) [.t 118]),
 oo 120 (.ld (some 6) (.t 5)),
 oo 121 (.ca .pure false (.f fid_laws_toBigraph) [.t 120]),
 oo 122 (.ca .pure false (.f fid_impl_FaultsOf) [.t 117, .t 119, .t 121]),
 om 115 (.t 122),
 oo 123 (.ex 0 (.t 115)),
 oo 124 (.ex 1 (.t 115)),
 om 18 (.t 123),
 om 19 (.t 124)])
 (.sq (.sq (rg [om 125 (.t 18),
 om 126 (.t 8),
 oo 127 (.ca .pure false (.f fid_laws_eqFaultS) [.t 125, .t 126]),
 oo 128 (.nt (.t 127)),
 om 129 (.t 128),
 og 130 129 false (.mv (.t 19) none),
 og 131 129 false (.mv (.t 9) none),
 og 132 129 false (.bi .neq 2 (.t 130) (.t 131)),
 oo 133 (.pk (.t 129) (.k (.bool true)) (.t 132))])
 (.cd (.t 133) (.sq (rg [om 6 (.k (.bool false))])
 (.rt))
 (.sk)))
 (.sq (rg [om 17 (i6 1)])
 (.sq (rg [om 134 (.t 13),
 om 135 (.t 17),
 oo 136 (.ca .pure false (.f fid_laws_heldFaultS) [.t 134, .t 135]),
 om 17 (.t 136)])
 (.sq (.sq (rg [om 137 (.t 17),
 oo 138 (.bi .lss 0 (.t 137) (i6 0))])
 (.cd (.t 138) (.sq (rg [om 6 (.k (.bool false))])
 (.rt))
 (.sk)))
 (.sq (.sq (rg [om 139 (.t 17),
 om 140 (.t 16),
 oo 141 (.bi .neq 0 (.t 139) (.t 140))])
 (.cd (.t 141) (.sq (rg [om 6 (.k (.bool false))])
 (.rt))
 (.sk)))
 (.sq (rg [om 6 (.k (.bool true))])
 (.rt)))))))))))))))))))))))))))))))))))) }
theorem k_laws_FnExactFaultsOf : chkF Go.Proofs.Tryz.prog fid_laws_FnExactFaultsOf c_laws_FnExactFaultsOf = true := by kernel_rfl

def c_laws_markControlS : F2 :=
  { nt := 35, res := [.t 4 [0]], body :=
   (.sq (rg [om 4 (i6 0)])
 (.sq (.sq (rg [om 5 (i6 0)])
 (.bl 0 (.lp [0, 1, 5] [] (.sq (.sq (rg [om 6 (.t 5),
 om 7 (.t 0),
 oo 8 (.ln (.t 7)),
 oo 9 (.bi .lss 0 (.t 6) (.t 8))])
 (.cd (.t 9) (.sk)
 (.ex 0)))
 (.sq (.bl 1 (.sq (rg [om 12 (.t 0),
 om 13 (.t 5),
 om 14 (.t 1),
 oo 15 (.ca .pure false (.f fid_laws_markText) [.t 14]),
 oo 16 (.ia 3 (.t 12) (.t 13)),
 oo 17 (.fa 0 (.t 16)),
 on1 (.st 1 (.t 17) (.t 15))])
 (.sq (rg [om 18 (.t 1),
 oo 19 (.bi .add 0 (.t 18) (i6 1)),
 om 1 (.t 19)])
 (.sq (rg [om 20 (.t 0),
 om 21 (.t 5),
 om 22 (.t 1),
 oo 23 (.ia 3 (.t 20) (.t 21)),
 oo 24 (.fa 1 (.t 23)),
 on1 (.st 1 (.t 24) (.t 22))])
 (.sq (rg [om 25 (.t 1),
 oo 26 (.bi .add 0 (.t 25) (i6 1)),
 om 1 (.t 26)])
 (.sq (rg [om 27 (.t 0),
 om 28 (.t 5),
 om 29 (.t 1),
 oo 30 (.ia 3 (.t 27) (.t 28)),
 oo 31 (.fa 2 (.t 30)),
 on1 (.st 1 (.t 31) (.t 29))])
 (rg [om 32 (.t 1),
 oo 33 (.bi .add 0 (.t 32) (i6 1)),
 om 1 (.t 33)])))))))
 (rg [om 10 (.t 5),
 oo 11 (.bi .add 0 (.t 10) (i6 1)),
 om 5 (.t 11)]))))))
 (.sq (rg [om 34 (.t 1),
 om 4 (.t 34)])
 (.rt)))) }
theorem k_laws_markControlS : chkF Go.Proofs.Tryz.prog fid_laws_markControlS c_laws_markControlS = true := by kernel_rfl

def c_laws_markSorting : F2 :=
  { nt := 26, res := [.t 4 [0]], body :=
   (.sq (rg [oo 2 (.bx (.t 0)),
 om 4 (i6 0)])
 (.sq (rg [oo 5 (.fa 0 (.t 2)),
 oo 6 (.ld none (.t 5)),
 om 7 (.t 1),
 oo 8 (.ca .any true (.f fid_laws_markIntS) [.t 6, .t 7]),
 om 1 (.t 8)])
 (.sq (rg [oo 9 (.fa 1 (.t 2)),
 oo 10 (.ld none (.t 9)),
 om 11 (.t 1),
 oo 12 (.ca .any true (.f fid_laws_markIntSS) [.t 10, .t 11]),
 om 1 (.t 12)])
 (.sq (rg [oo 13 (.fa 2 (.t 2)),
 oo 14 (.ld none (.t 13)),
 om 15 (.t 1),
 oo 16 (.ca .any true (.f fid_laws_markIntSS) [.t 14, .t 15]),
 om 1 (.t 16)])
 (.sq (rg [oo 17 (.fa 3 (.t 2)),
 oo 18 (.ld none (.t 17)),
 om 19 (.t 1),
 oo 20 (.ca .any true (.f fid_laws_markIntS) [.t 18, .t 19]),
 om 1 (.t 20)])
 (.sq (rg [oo 21 (.fa 4 (.t 2)),
 oo 22 (.ld none (.t 21)),
 om 23 (.t 1),
 oo 24 (.ca .any true (.f fid_laws_markIntA2S) [.t 22, .t 23]),
 om 1 (.t 24)])
 (.sq (rg [om 25 (.t 1),
 om 4 (.t 25)])
 (.rt)))))))) }
theorem k_laws_markSorting : chkF Go.Proofs.Tryz.prog fid_laws_markSorting c_laws_markSorting = true := by kernel_rfl

def c_laws_markBigraph : F2 :=
  { nt := 22, res := [.t 4 [0]], body :=
   (.sq (rg [oo 2 (.bx (.t 0)),
 om 4 (i6 0)])
 (.sq (rg [oo 5 (.fa 1 (.t 2)),
 oo 6 (.ld none (.t 5)),
 om 7 (.t 1),
 oo 8 (.ca .any true (.f fid_laws_markNodeS) [.t 6, .t 7]),
 om 1 (.t 8)])
 (.sq (rg [oo 9 (.fa 2 (.t 2)),
 oo 10 (.ld none (.t 9)),
 om 11 (.t 1),
 oo 12 (.ca .any true (.f fid_laws_markIntS) [.t 10, .t 11]),
 om 1 (.t 12)])
 (.sq (rg [oo 13 (.fa 4 (.t 2)),
 oo 14 (.ld none (.t 13)),
 om 15 (.t 1),
 oo 16 (.ca .any true (.f fid_laws_markStringS) [.t 14, .t 15]),
 om 1 (.t 16)])
 (.sq (rg [oo 17 (.fa 5 (.t 2)),
 oo 18 (.ld none (.t 17)),
 om 19 (.t 1),
 oo 20 (.ca .any true (.f fid_laws_markWireS) [.t 18, .t 19]),
 om 1 (.t 20)])
 (.sq (rg [om 21 (.t 1),
 om 4 (.t 21)])
 (.rt))))))) }
theorem k_laws_markBigraph : chkF Go.Proofs.Tryz.prog fid_laws_markBigraph c_laws_markBigraph = true := by kernel_rfl

def c_laws_markIntS : F2 :=
  { nt := 19, res := [.t 4 [0]], body :=
   (.sq (rg [om 4 (i6 0)])
 (.sq (.sq (rg [om 5 (i6 0)])
 (.bl 0 (.lp [0, 1, 5] [] (.sq (.sq (rg [om 6 (.t 5),
 om 7 (.t 0),
 oo 8 (.ln (.t 7)),
 oo 9 (.bi .lss 0 (.t 6) (.t 8))])
 (.cd (.t 9) (.sk)
 (.ex 0)))
 (.sq (.bl 1 (.sq (rg [om 12 (.t 0),
 om 13 (.t 5),
 om 14 (.t 1),
 oo 15 (.ia 1 (.t 12) (.t 13)),
 on1 (.st 1 (.t 15) (.t 14))])
 (rg [om 16 (.t 1),
 oo 17 (.bi .add 0 (.t 16) (i6 1)),
 om 1 (.t 17)])))
 (rg [om 10 (.t 5),
 oo 11 (.bi .add 0 (.t 10) (i6 1)),
 om 5 (.t 11)]))))))
 (.sq (rg [om 18 (.t 1),
 om 4 (.t 18)])
 (.rt)))) }
theorem k_laws_markIntS : chkF Go.Proofs.Tryz.prog fid_laws_markIntS c_laws_markIntS = true := by kernel_rfl

def c_laws_markFaultS : F2 :=
  { nt := 34, res := [.t 4 [0]], body :=
   (.sq (rg [om 4 (i6 0)])
 (.sq (.sq (rg [om 5 (i6 0)])
 (.bl 0 (.lp [0, 1, 5] [] (.sq (.sq (rg [om 6 (.t 5),
 om 7 (.t 0),
 oo 8 (.ln (.t 7)),
 oo 9 (.bi .lss 0 (.t 6) (.t 8))])
 (.cd (.t 9) (.sk)
 (.ex 0)))
 (.sq (.bl 1 (.sq (rg [om 12 (.t 0),
 om 13 (.t 5),
 om 14 (.t 1),
 oo 15 (.ia 3 (.t 12) (.t 13)),
 oo 16 (.fa 0 (.t 15)),
 on1 (.st 1 (.t 16) (.t 14))])
 (.sq (rg [om 17 (.t 1),
 oo 18 (.bi .add 0 (.t 17) (i6 1)),
 om 1 (.t 18)])
 (.sq (rg [om 19 (.t 0),
 om 20 (.t 5),
 om 21 (.t 1),
 oo 22 (.ia 3 (.t 19) (.t 20)),
 oo 23 (.fa 1 (.t 22)),
 on1 (.st 1 (.t 23) (.t 21))])
 (.sq (rg [om 24 (.t 1),
 oo 25 (.bi .add 0 (.t 24) (i6 1)),
 om 1 (.t 25)])
 (.sq (rg [om 26 (.t 0),
 om 27 (.t 5),
 om 28 (.t 1),
 oo 29 (.ia 3 (.t 26) (.t 27)),
 oo 30 (.fa 2 (.t 29)),
 on1 (.st 1 (.t 30) (.t 28))])
 (rg [om 31 (.t 1),
 oo 32 (.bi .add 0 (.t 31) (i6 1)),
 om 1 (.t 32)])))))))
 (rg [om 10 (.t 5),
 oo 11 (.bi .add 0 (.t 10) (i6 1)),
 om 5 (.t 11)]))))))
 (.sq (rg [om 33 (.t 1),
 om 4 (.t 33)])
 (.rt)))) }
theorem k_laws_markFaultS : chkF Go.Proofs.Tryz.prog fid_laws_markFaultS c_laws_markFaultS = true := by kernel_rfl

def c_laws_heldFaultS : F2 :=
  { nt := 40, res := [.t 4 [0]], body :=
   (.sq (rg [om 4 (i6 0)])
 (.sq (.sq (rg [om 5 (i6 0)])
 (.bl 0 (.lp [0, 1, 5] [] (.sq (.sq (rg [om 6 (.t 5),
 om 7 (.t 0),
 oo 8 (.ln (.t 7)),
 oo 9 (.bi .lss 0 (.t 6) (.t 8))])
 (.cd (.t 9) (.sk)
 (.ex 0)))
 (.sq (.bl 1 (.sq (.sq (rg [om 12 (.t 0),
 om 13 (.t 5),
 oo 14 (.ia 3 (.t 12) (.t 13)),
 oo 15 (.fa 0 (.t 14)),
 oo 16 (.ld none (.t 15)),
 om 17 (.t 1),
 oo 18 (.bi .neq 0 (.t 16) (.t 17))])
 (.cd (.t 18) (.sq (rg [om 4 (i6 (-1))])
 (.rt))
 (.sk)))
 (.sq (rg [om 19 (.t 1),
 oo 20 (.bi .add 0 (.t 19) (i6 1)),
 om 1 (.t 20)])
 (.sq (.sq (rg [om 21 (.t 0),
 om 22 (.t 5),
 oo 23 (.ia 3 (.t 21) (.t 22)),
 oo 24 (.fa 1 (.t 23)),
 oo 25 (.ld none (.t 24)),
 om 26 (.t 1),
 oo 27 (.bi .neq 0 (.t 25) (.t 26))])
 (.cd (.t 27) (.sq (rg [om 4 (i6 (-1))])
 (.rt))
 (.sk)))
 (.sq (rg [om 28 (.t 1),
 oo 29 (.bi .add 0 (.t 28) (i6 1)),
 om 1 (.t 29)])
 (.sq (.sq (rg [om 30 (.t 0),
 om 31 (.t 5),
 oo 32 (.ia 3 (.t 30) (.t 31)),
 oo 33 (.fa 2 (.t 32)),
 oo 34 (.ld none (.t 33)),
 om 35 (.t 1),
 oo 36 (.bi .neq 0 (.t 34) (.t 35))])
 (.cd (.t 36) (.sq (rg [om 4 (i6 (-1))])
 (.rt))
 (.sk)))
 (rg [om 37 (.t 1),
 oo 38 (.bi .add 0 (.t 37) (i6 1)),
 om 1 (.t 38)])))))))
 (rg [om 10 (.t 5),
 oo 11 (.bi .add 0 (.t 10) (i6 1)),
 om 5 (.t 11)]))))))
 (.sq (rg [om 39 (.t 1),
 om 4 (.t 39)])
 (.rt)))) }
theorem k_laws_heldFaultS : chkF Go.Proofs.Tryz.prog fid_laws_heldFaultS c_laws_heldFaultS = true := by kernel_rfl

def c_laws_markText : F2 :=
  { nt := 20, res := [.t 2 [0]], body :=
   (.sq (rg [om 2 (.k (.string ⟨#[]⟩))])
 (.sq (.sq (rg [om 4 (.t 0),
 oo 5 (.bi .leq 0 (.t 4) (i6 0))])
 (.cd (.t 5) (.sq (rg [om 2 (.k (.string ⟨#[109, 48]⟩))])
 (.rt))
 (.sk)))
 (.sq (rg [om 3 (.k (.string ⟨#[]⟩))])
 (.sq (.bl 0 (.lp [0, 3] [] (.sq (.sq (rg [om 6 (.t 0),
 oo 7 (.bi .gtr 0 (.t 6) (i6 0))])
 (.cd (.t 7) (.sk)
 (.ex 0)))
 (.bl 1 (.sq (rg [om 8 (.t 0),
 oo 9 (.bi .rem 0 (.t 8) (i6 10)),
 oo 10 (.bi .add 0 (i6 48) (.t 9)),
 oo 11 (.cv (.int .u8) (.t 10)),
 oo 12 (.bs 1 1 [.int .u8 0] [(0, .t 11)]),
 oo 13 (.sb (.t 12)),
 om 14 (.t 3),
 oo 15 (.bi .add 0 (.t 13) (.t 14)),
 om 3 (.t 15)])
 (rg [om 16 (.t 0),
 oo 17 (.bi .quo 0 (.t 16) (i6 10)),
 om 0 (.t 17)]))))))
 (.sq (rg [om 18 (.t 3),
 oo 19 (.bi .add 0 (.k (.string ⟨#[109]⟩)) (.t 18)),
 om 2 (.t 19)])
 (.rt)))))) }
theorem k_laws_markText : chkF Go.Proofs.Tryz.prog fid_laws_markText c_laws_markText = true := by kernel_rfl

def c_laws_markIntSS : F2 :=
  { nt := 19, res := [.t 4 [0]], body :=
   (.sq (rg [om 4 (i6 0)])
 (.sq (.sq (rg [om 5 (i6 0)])
 (.bl 0 (.lp [0, 1, 5] [] (.sq (.sq (rg [om 6 (.t 5),
 om 7 (.t 0),
 oo 8 (.ln (.t 7)),
 oo 9 (.bi .lss 0 (.t 6) (.t 8))])
 (.cd (.t 9) (.sk)
 (.ex 0)))
 (.sq (.bl 1 (rg [om 12 (.t 0),
 om 13 (.t 5),
 oo 14 (.ia 1 (.t 12) (.t 13)),
 oo 15 (.ld none (.t 14)),
 om 16 (.t 1),
 oo 17 (.ca .any true (.f fid_laws_markIntS) [.t 15, .t 16]),
 om 1 (.t 17)]))
 (rg [om 10 (.t 5),
 oo 11 (.bi .add 0 (.t 10) (i6 1)),
 om 5 (.t 11)]))))))
 (.sq (rg [om 18 (.t 1),
 om 4 (.t 18)])
 (.rt)))) }
theorem k_laws_markIntSS : chkF Go.Proofs.Tryz.prog fid_laws_markIntSS c_laws_markIntSS = true := by kernel_rfl

def c_laws_markIntA2S : F2 :=
  { nt := 26, res := [.t 4 [0]], body :=
   (.sq (rg [om 4 (i6 0)])
 (.sq (.sq (rg [om 5 (i6 0)])
 (.bl 0 (.lp [0, 1, 5] [] (.sq (.sq (rg [om 7 (.t 5),
 om 8 (.t 0),
 oo 9 (.ln (.t 8)),
 oo 10 (.bi .lss 0 (.t 7) (.t 9))])
 (.cd (.t 10) (.sk)
 (.ex 0)))
 (.sq (.bl 1 (.sq (rg [om 6 (i6 0)])
 (.bl 2 (.lp [0, 1, 5, 6] [] (.sq (.sq (rg [om 13 (.t 6),
 oo 14 (.bi .lss 0 (.t 13) (i6 2))])
 (.cd (.t 14) (.sk)
 (.ex 2)))
 (.sq (.bl 3 (.sq (rg [om 17 (.t 0),
 om 18 (.t 5),
 om 19 (.t 6),
 om 20 (.t 1),
 oo 21 (.ia 2 (.t 17) (.t 18)),
 oo 22 (.ja 1 2 (.t 21) (.t 19)),
 on1 (.st 1 (.t 22) (.t 20))])
 (rg [om 23 (.t 1),
 oo 24 (.bi .add 0 (.t 23) (i6 1)),
 om 1 (.t 24)])))
 (rg [om 15 (.t 6),
 oo 16 (.bi .add 0 (.t 15) (i6 1)),
 om 6 (.t 16)])))))))
 (rg [om 11 (.t 5),
 oo 12 (.bi .add 0 (.t 11) (i6 1)),
 om 5 (.t 12)]))))))
 (.sq (rg [om 25 (.t 1),
 om 4 (.t 25)])
 (.rt)))) }
theorem k_laws_markIntA2S : chkF Go.Proofs.Tryz.prog fid_laws_markIntA2S c_laws_markIntA2S = true := by kernel_rfl

def c_laws_markNodeS : F2 :=
  { nt := 34, res := [.t 4 [0]], body :=
   (.sq (rg [om 4 (i6 0)])
 (.sq (.sq (rg [om 5 (i6 0)])
 (.bl 0 (.lp [0, 1, 5] [] (.sq (.sq (rg [om 6 (.t 5),
 om 7 (.t 0),
 oo 8 (.ln (.t 7)),
 oo 9 (.bi .lss 0 (.t 6) (.t 8))])
 (.cd (.t 9) (.sk)
 (.ex 0)))
 (.sq (.bl 1 (.sq (rg [om 12 (.t 0),
 om 13 (.t 5),
 om 14 (.t 1),
 oo 15 (.ia 3 (.t 12) (.t 13)),
 oo 16 (.fa 0 (.t 15)),
 on1 (.st 1 (.t 16) (.t 14))])
 (.sq (rg [om 17 (.t 1),
 oo 18 (.bi .add 0 (.t 17) (i6 1)),
 om 1 (.t 18)])
 (.sq (rg [om 19 (.t 0),
 om 20 (.t 5),
 om 21 (.t 1),
 oo 22 (.ia 3 (.t 19) (.t 20)),
 oo 23 (.fa 1 (.t 22)),
 on1 (.st 1 (.t 23) (.t 21))])
 (.sq (rg [om 24 (.t 1),
 oo 25 (.bi .add 0 (.t 24) (i6 1)),
 om 1 (.t 25)])
 (rg [om 26 (.t 0),
 om 27 (.t 5),
 oo 28 (.ia 3 (.t 26) (.t 27)),
 oo 29 (.fa 2 (.t 28)),
 oo 30 (.ld none (.t 29)),
 om 31 (.t 1),
 oo 32 (.ca .any true (.f fid_laws_markIntS) [.t 30, .t 31]),
 om 1 (.t 32)]))))))
 (rg [om 10 (.t 5),
 oo 11 (.bi .add 0 (.t 10) (i6 1)),
 om 5 (.t 11)]))))))
 (.sq (rg [om 33 (.t 1),
 om 4 (.t 33)])
 (.rt)))) }
theorem k_laws_markNodeS : chkF Go.Proofs.Tryz.prog fid_laws_markNodeS c_laws_markNodeS = true := by kernel_rfl

def c_laws_markStringS : F2 :=
  { nt := 20, res := [.t 4 [0]], body :=
   (.sq (rg [om 4 (i6 0)])
 (.sq (.sq (rg [om 5 (i6 0)])
 (.bl 0 (.lp [0, 1, 5] [] (.sq (.sq (rg [om 6 (.t 5),
 om 7 (.t 0),
 oo 8 (.ln (.t 7)),
 oo 9 (.bi .lss 0 (.t 6) (.t 8))])
 (.cd (.t 9) (.sk)
 (.ex 0)))
 (.sq (.bl 1 (.sq (rg [om 12 (.t 0),
 om 13 (.t 5),
 om 14 (.t 1),
 oo 15 (.ca .pure false (.f fid_laws_markText) [.t 14]),
 oo 16 (.ia 1 (.t 12) (.t 13)),
 on1 (.st 1 (.t 16) (.t 15))])
 (rg [om 17 (.t 1),
 oo 18 (.bi .add 0 (.t 17) (i6 1)),
 om 1 (.t 18)])))
 (rg [om 10 (.t 5),
 oo 11 (.bi .add 0 (.t 10) (i6 1)),
 om 5 (.t 11)]))))))
 (.sq (rg [om 19 (.t 1),
 om 4 (.t 19)])
 (.rt)))) }
theorem k_laws_markStringS : chkF Go.Proofs.Tryz.prog fid_laws_markStringS c_laws_markStringS = true := by kernel_rfl

def c_laws_markWireS : F2 :=
  { nt := 28, res := [.t 4 [0]], body :=
   (.sq (rg [om 4 (i6 0)])
 (.sq (.sq (rg [om 5 (i6 0)])
 (.bl 0 (.lp [0, 1, 5] [] (.sq (.sq (rg [om 6 (.t 5),
 om 7 (.t 0),
 oo 8 (.ln (.t 7)),
 oo 9 (.bi .lss 0 (.t 6) (.t 8))])
 (.cd (.t 9) (.sk)
 (.ex 0)))
 (.sq (.bl 1 (.sq (rg [om 12 (.t 0),
 om 13 (.t 5),
 om 14 (.t 1),
 oo 15 (.ca .pure false (.f fid_laws_markText) [.t 14]),
 oo 16 (.ia 2 (.t 12) (.t 13)),
 oo 17 (.fa 0 (.t 16)),
 on1 (.st 1 (.t 17) (.t 15))])
 (.sq (rg [om 18 (.t 1),
 oo 19 (.bi .add 0 (.t 18) (i6 1)),
 om 1 (.t 19)])
 (.sq (rg [om 20 (.t 0),
 om 21 (.t 5),
 om 22 (.t 1),
 oo 23 (.ia 2 (.t 20) (.t 21)),
 oo 24 (.fa 1 (.t 23)),
 on1 (.st 1 (.t 24) (.t 22))])
 (rg [om 25 (.t 1),
 oo 26 (.bi .add 0 (.t 25) (i6 1)),
 om 1 (.t 26)])))))
 (rg [om 10 (.t 5),
 oo 11 (.bi .add 0 (.t 10) (i6 1)),
 om 5 (.t 11)]))))))
 (.sq (rg [om 27 (.t 1),
 om 4 (.t 27)])
 (.rt)))) }
theorem k_laws_markWireS : chkF Go.Proofs.Tryz.prog fid_laws_markWireS c_laws_markWireS = true := by kernel_rfl

end Go.Fd

/-
  THE TEXT OF A MARK; THE MARKS OF NUMBERS AND TEXTS. Own work.
-/
namespace Go.Fd
set_option maxRecDepth 20000
abbrev mInt (_ : Int) (k : Int) : Int := k
abbrev nInt (_ : Int) : Nat := 1
def mt (q : Nat) (o : ByteArray) : ByteArray := if q = 0 then o else mt (q / 10) (⟨#[UInt8.ofNat (48 + q % 10)]⟩ ++ o)
  termination_by q
  decreasing_by omega
theorem mt_pos {q : Nat} {o : ByteArray} (h : 0 < q) : mt q o = mt (q / 10) (⟨#[UInt8.ofNat (48 + q % 10)]⟩ ++ o) := by
  rw [mt, if_neg (by omega)]
theorem mt_zero {o : ByteArray} : mt 0 o = o := by rw [mt, if_pos rfl]
def markT (k : Int) : ByteArray := if k ≤ 0 then ⟨#[109, 48]⟩ else ⟨#[109]⟩ ++ mt k.toNat ⟨#[]⟩
theorem sem_markText (k : Int) (h : k ≤ 4611686018427387904) (lvl : Nat) (S : Sto) : Sem Go.Proofs.Tryz.prog fid_laws_markText lvl [iI k] S (iS (markT k)) S := by
  refine sem_of_chk k_laws_markText trivial ?_
  simp only [c_laws_markText, EVA, ↓reduceIte, Nat.reduceEqDiff, Nat.reduceMul, reduceCtorEq, Nat.reduceAdd, Nat.reduceSub, Nat.reduceLeDiff, Nat.reduceLT, Int.reduceToNat, Int.reduceLE, Int.reduceLT, mens, men]
  unfold markT
  refine ite_of (fun h0 => ?_) (fun h0 => ?_)
  · rw [if_pos h0]
  · rw [if_neg h0]
    obtain ⟨K, hK⟩ : ∃ K : Nat, k = K := ⟨k.toNat, by omega⟩
    subst hK
    rw [Int.toNat_natCast]
    refine wp_count (α := Nat × ByteArray) K (fun j y => ⟨lvl, [(0, iI y.1), (3, iS y.2)], [], S⟩) (fun j y => y.1 + j ≤ K ∧ mt y.1 y.2 = mt K ⟨#[]⟩ ∧ y.1 * 10 ^ y.2.size ≤ K ∧ y.2.size ≤ 19) (K, ⟨#[]⟩) ⟨by simp only [EVA, ↓reduceIte, Nat.reduceEqDiff, Nat.reduceMul, reduceCtorEq, Nat.reduceAdd, Nat.reduceSub, Nat.reduceLeDiff, Nat.reduceLT, Int.reduceToNat, Int.reduceLE, Int.reduceLT, mens, men], by simp only [EVA, ↓reduceIte, Nat.reduceEqDiff, Nat.reduceMul, reduceCtorEq, Nat.reduceAdd, Nat.reduceSub, Nat.reduceLeDiff, Nat.reduceLT, Int.reduceToNat, Int.reduceLE, Int.reduceLT, mens, men]⟩ ⟨Nat.le_refl _, rfl, Nat.le_of_eq (Nat.mul_one K), (by decide : (0 : Nat) ≤ 19)⟩ ?_
    intro j y hj hA
    obtain ⟨q, o⟩ := y
    obtain ⟨h1, h2, h3, h4⟩ := hA
    simp only at h1 h2 h3 h4
    simp only [EVA, ↓reduceIte, Nat.reduceEqDiff, Nat.reduceMul, reduceCtorEq, Nat.reduceAdd, Nat.reduceSub, Nat.reduceLeDiff, Nat.reduceLT, Int.reduceToNat, Int.reduceLE, Int.reduceLT, mens, men]
    refine ite_of (fun hq => ?_) (fun hq => ?_)
    · have hq0 : 0 < q := by omega
      have hby : byR [[Tr.v (Value.int IntKind.u8 (48 + (q : Int) % 10))]] = some [UInt8.ofNat (48 + q % 10)] := by
        have e : (48 + (q : Int) % 10).toNat = 48 + q % 10 := by omega
        simp only [cut, List.replicate_one, List.set_cons_zero, List.drop_zero, List.take_succ_cons, List.take_zero, byR, Option.map_some, e]
      have h5 : o.size < 19 := by
        apply Classical.byContradiction
        intro hc
        have e : o.size = 19 := by omega
        rw [e] at h3
        have : 1 * 10 ^ 19 ≤ q * 10 ^ 19 := Nat.mul_le_mul_right _ hq0
        omega
      have h6 : q / 10 * 10 ^ (o.size + 1) ≤ K := by
        refine Nat.le_trans ?_ h3
        rw [Nat.pow_succ, Nat.mul_comm (10 ^ o.size) 10, ← Nat.mul_assoc]
        exact Nat.mul_le_mul_right _ (by omega)
      rw [hby]
      simp only [EVA, ↓reduceIte, Nat.reduceEqDiff, Nat.reduceMul, reduceCtorEq, Nat.reduceAdd, Nat.reduceSub, Nat.reduceLeDiff, Nat.reduceLT, Int.reduceToNat, Int.reduceLE, Int.reduceLT, mens, men]
      have hs : (ByteArray.mk #[UInt8.ofNat (48 + q % 10)] ++ o).size = o.size + 1 := by
        rw [ByteArray.size_append, Nat.add_comm]; rfl
      have e8 : fits .u8 (48 + (q : Int) % 10) := by
        constructor
        · show (0 : Int) ≤ _; omega
        · show _ ≤ (255 : Int); omega
      refine ⟨by rw [fits_i64]; omega, e8, ?_, by rw [fits_i64]; omega, cntJ_intro (q / 10, ByteArray.mk #[UInt8.ofNat (48 + q % 10)] ++ o) (by omega) ?_ ⟨by simp only; omega, ?_, ?_, ?_⟩⟩
      · show 1 + o.size ≤ 4294967296
        omega
      · rfl
      · rw [← h2, mt_pos hq0]
      · simp only [hs]; exact h6
      · simp only [hs]; omega
    · have : q = 0 := by omega
      subst this
      rw [← h2, mt_zero]
      refine ⟨?_, rfl⟩
      show 1 + o.size ≤ 4294967296
      omega
abbrev mStr (_ : ByteArray) (k : Int) : ByteArray := markT k
abbrev nStr (_ : ByteArray) : Nat := 1
end Go.Fd

/-
  WHAT THE MARKING FUNCTIONS DO (printed by lawgen.py). Own work.
-/
namespace Go.Fd
set_option maxRecDepth 20000
theorem mark_IntS : MarkS Go.Proofs.Tryz.prog fid_laws_markIntS (fun n : Int => [tv n]) mInt nInt (fun _ => True) := by
  intro a k lvl S id p es r0 kk hw ver st cap hid hv hst h0 hk hl hB
  have hne : id.1 ≠ lvl := by omega
  have hgp : ∀ r, getp (putp es p r) p = some r := fun r => getp_putp hv
  refine sem_of_chk k_laws_markIntS trivial ?_
  simp only [c_laws_markIntS, EVA, ↓reduceIte, Nat.reduceEqDiff, Nat.reduceMul, reduceCtorEq, Nat.reduceAdd, Nat.reduceSub, Nat.reduceLeDiff, Nat.reduceLT, Int.reduceToNat, Int.reduceLE, Int.reduceLT, mens, men]
  refine wp_count (α := Unit) a.length (fun j _ => ⟨lvl, [(0, .hd id p 0 a.length cap st), (1, iI (kJ nInt a k j)), (5, iI j)], [], sset S id (.ar kk (putp es p ((lJ mInt nInt a k j).map (fun n : Int => [tv n]))) true hw ver)⟩) (fun _ _ => True) () ⟨by simp only [r_okmo hne, EVA, ↓reduceIte, Nat.reduceEqDiff, Nat.reduceMul, reduceCtorEq, Nat.reduceAdd, Nat.reduceSub, Nat.reduceLeDiff, Nat.reduceLT, Int.reduceToNat, Int.reduceLE, Int.reduceLT, mens, men], by (simp only [kJ_zero, lJ_zero, EVA, ↓reduceIte, Nat.reduceEqDiff, Nat.reduceMul, reduceCtorEq, Nat.reduceAdd, Nat.reduceSub, Nat.reduceLeDiff, Nat.reduceLT, Int.reduceToNat, Int.reduceLE, Int.reduceLT, mens, men]) <;> rfl⟩ trivial ?_
  intro j _ hj _
  simp only [List.length_map, EVA, ↓reduceIte, Nat.reduceEqDiff, Nat.reduceMul, reduceCtorEq, Nat.reduceAdd, Nat.reduceSub, Nat.reduceLeDiff, Nat.reduceLT, Int.reduceToNat, Int.reduceLE, Int.reduceLT, mens, men]
  refine ite_of (fun hlt => ?_) (fun hge => ?_)
  · have hja : j < a.length := by omega
    obtain ⟨R, hjR, hR, hR'⟩ := lJ_row mInt nInt (fun n : Int => [tv n]) (k := k) hja
    have hge2 := kJ_le nInt (a := a) (k := k) (j := j + 1)
    rw [kJ_succ nInt hja] at hge2
    have hge3 := kJ_ge nInt (a := a) (k := k) (j := j)
    rw [hR]
    try simp only [nInt] at hge2
    try simp only [r_packo hne, r_setObo hne, psset_sset, r_sset, hst, hgp, rset_get hjR, setp_row hv hjR, Nat.zero_add, hja, r_okmo hne, List.length_map, tv, EVA, ↓reduceIte, Nat.reduceEqDiff, Nat.reduceMul, reduceCtorEq, Nat.reduceAdd, Nat.reduceSub, Nat.reduceLeDiff, Nat.reduceLT, Int.reduceToNat, Int.reduceLE, Int.reduceLT, mens, men]
    refine ⟨by rw [fits_i64]; omega, ⟨by rw [fits_i64]; omega, cntJ_intro () hja ?_ trivial⟩⟩
    rw [kJ_succ nInt hja, hR']
    simp only [nInt, mInt, tv, Int.natCast_add, Int.natCast_one, Int.add_assoc]
    try rfl
  · have : j = a.length := by omega
    subst this
    rw [kJ_all, lJ_all]
    exact ⟨rfl, rfl⟩
def mNode (x : TNode) (k : Int) : TNode := { control := k, parent := k + 1, links := mL mInt nInt x.links (k + 1 + 1) }
def nNode (x : TNode) : Nat := 1 + 1 + nL nInt x.links
theorem mark_NodeS : MarkS Go.Proofs.Tryz.prog fid_laws_markNodeS cNode mNode nNode (bdNode 4294967296) := by
  intro a k lvl S id p es r0 kk hw ver st cap hid hv hst h0 hk hl hB
  have hne : id.1 ≠ lvl := by omega
  have hgp : ∀ r, getp (putp es p r) p = some r := fun r => getp_putp hv
  refine sem_of_chk k_laws_markNodeS trivial ?_
  simp only [c_laws_markNodeS, EVA, ↓reduceIte, Nat.reduceEqDiff, Nat.reduceMul, reduceCtorEq, Nat.reduceAdd, Nat.reduceSub, Nat.reduceLeDiff, Nat.reduceLT, Int.reduceToNat, Int.reduceLE, Int.reduceLT, mens, men]
  refine wp_count (α := Unit) a.length (fun j _ => ⟨lvl, [(0, .hd id p 0 a.length cap st), (1, iI (kJ nNode a k j)), (5, iI j)], [], sset S id (.ar kk (putp es p ((lJ mNode nNode a k j).map cNode)) true hw ver)⟩) (fun _ _ => True) () ⟨by simp only [r_okmo hne, EVA, ↓reduceIte, Nat.reduceEqDiff, Nat.reduceMul, reduceCtorEq, Nat.reduceAdd, Nat.reduceSub, Nat.reduceLeDiff, Nat.reduceLT, Int.reduceToNat, Int.reduceLE, Int.reduceLT, mens, men], by (simp only [kJ_zero, lJ_zero, EVA, ↓reduceIte, Nat.reduceEqDiff, Nat.reduceMul, reduceCtorEq, Nat.reduceAdd, Nat.reduceSub, Nat.reduceLeDiff, Nat.reduceLT, Int.reduceToNat, Int.reduceLE, Int.reduceLT, mens, men]) <;> rfl⟩ trivial ?_
  intro j _ hj _
  simp only [List.length_map, EVA, ↓reduceIte, Nat.reduceEqDiff, Nat.reduceMul, reduceCtorEq, Nat.reduceAdd, Nat.reduceSub, Nat.reduceLeDiff, Nat.reduceLT, Int.reduceToNat, Int.reduceLE, Int.reduceLT, mens, men]
  refine ite_of (fun hlt => ?_) (fun hge => ?_)
  · have hja : j < a.length := by omega
    obtain ⟨R, hjR, hR, hR'⟩ := lJ_row mNode nNode cNode (k := k) hja
    have hge2 := kJ_le nNode (a := a) (k := k) (j := j + 1)
    rw [kJ_succ nNode hja] at hge2
    have hge3 := kJ_ge nNode (a := a) (k := k) (j := j)
    rw [hR]
    try simp only [nNode] at hge2
    have hb := hB _ (List.getElem_mem hja)
    have b0 : (a[j]).links.length ≤ 4294967296 := hb
    try simp only [r_packo hne, r_setObo hne, psset_sset, r_sset, hst, hgp, rset_get hjR, setp_row hv hjR, Nat.zero_add, hja, r_okmo hne, List.length_map, cNode, EVA, ↓reduceIte, Nat.reduceEqDiff, Nat.reduceMul, reduceCtorEq, Nat.reduceAdd, Nat.reduceSub, Nat.reduceLeDiff, Nat.reduceLT, Int.reduceToNat, Int.reduceLE, Int.reduceLT, mens, men]
    refine ⟨by rw [fits_i64]; omega, ⟨by rw [fits_i64]; omega, ?_⟩⟩
    simp only [arg1]
    refine kcy_mark mark_IntS hid hv (by omega) (by omega) b0 (fun _ _ => trivial) hjR rfl (by simp only [List.length_map]) ?_
    simp only [List.set_cons_succ, List.set_cons_zero, r_packo hne, r_setObo hne, psset_sset, r_sset, hst, hgp, rset_get hjR, setp_row hv hjR, Nat.zero_add, hja, r_okmo hne, List.length_map, cNode, EVA, ↓reduceIte, Nat.reduceEqDiff, Nat.reduceMul, reduceCtorEq, Nat.reduceAdd, Nat.reduceSub, Nat.reduceLeDiff, Nat.reduceLT, Int.reduceToNat, Int.reduceLE, Int.reduceLT, mens, men]
    refine ⟨by rw [fits_i64]; omega, cntJ_intro () hja ?_ trivial⟩
    rw [kJ_succ nNode hja, hR']
    simp only [nNode, mNode, cNode, Int.natCast_add, Int.natCast_one, Int.add_assoc]
    try rfl
  · have : j = a.length := by omega
    subst this
    rw [kJ_all, lJ_all]
    exact ⟨rfl, rfl⟩
theorem mark_StringS : MarkS Go.Proofs.Tryz.prog fid_laws_markStringS (fun n : ByteArray => [ts n]) mStr nStr (fun x => x.size ≤ 4294967296) := by
  intro a k lvl S id p es r0 kk hw ver st cap hid hv hst h0 hk hl hB
  have hne : id.1 ≠ lvl := by omega
  have hgp : ∀ r, getp (putp es p r) p = some r := fun r => getp_putp hv
  refine sem_of_chk k_laws_markStringS trivial ?_
  simp only [c_laws_markStringS, EVA, ↓reduceIte, Nat.reduceEqDiff, Nat.reduceMul, reduceCtorEq, Nat.reduceAdd, Nat.reduceSub, Nat.reduceLeDiff, Nat.reduceLT, Int.reduceToNat, Int.reduceLE, Int.reduceLT, mens, men]
  refine wp_count (α := Unit) a.length (fun j _ => ⟨lvl, [(0, .hd id p 0 a.length cap st), (1, iI (kJ nStr a k j)), (5, iI j)], [], sset S id (.ar kk (putp es p ((lJ mStr nStr a k j).map (fun n : ByteArray => [ts n]))) true hw ver)⟩) (fun _ _ => True) () ⟨by simp only [r_okmo hne, EVA, ↓reduceIte, Nat.reduceEqDiff, Nat.reduceMul, reduceCtorEq, Nat.reduceAdd, Nat.reduceSub, Nat.reduceLeDiff, Nat.reduceLT, Int.reduceToNat, Int.reduceLE, Int.reduceLT, mens, men], by (simp only [kJ_zero, lJ_zero, EVA, ↓reduceIte, Nat.reduceEqDiff, Nat.reduceMul, reduceCtorEq, Nat.reduceAdd, Nat.reduceSub, Nat.reduceLeDiff, Nat.reduceLT, Int.reduceToNat, Int.reduceLE, Int.reduceLT, mens, men]) <;> rfl⟩ trivial ?_
  intro j _ hj _
  simp only [List.length_map, EVA, ↓reduceIte, Nat.reduceEqDiff, Nat.reduceMul, reduceCtorEq, Nat.reduceAdd, Nat.reduceSub, Nat.reduceLeDiff, Nat.reduceLT, Int.reduceToNat, Int.reduceLE, Int.reduceLT, mens, men]
  refine ite_of (fun hlt => ?_) (fun hge => ?_)
  · have hja : j < a.length := by omega
    obtain ⟨R, hjR, hR, hR'⟩ := lJ_row mStr nStr (fun n : ByteArray => [ts n]) (k := k) hja
    have hge2 := kJ_le nStr (a := a) (k := k) (j := j + 1)
    rw [kJ_succ nStr hja] at hge2
    have hge3 := kJ_ge nStr (a := a) (k := k) (j := j)
    rw [hR]
    try simp only [nStr] at hge2
    try simp only [r_packo hne, r_setObo hne, psset_sset, r_sset, hst, hgp, rset_get hjR, setp_row hv hjR, Nat.zero_add, hja, r_okmo hne, List.length_map, tv, EVA, ↓reduceIte, Nat.reduceEqDiff, Nat.reduceMul, reduceCtorEq, Nat.reduceAdd, Nat.reduceSub, Nat.reduceLeDiff, Nat.reduceLT, Int.reduceToNat, Int.reduceLE, Int.reduceLT, mens, men]
    refine kca_intro (sem_markText (kJ nStr a k j) (by omega)) ?_
    simp only [r_packo hne, r_setObo hne, psset_sset, r_sset, hst, hgp, rset_get hjR, setp_row hv hjR, Nat.zero_add, hja, r_okmo hne, List.length_map, tv, EVA, ↓reduceIte, Nat.reduceEqDiff, Nat.reduceMul, reduceCtorEq, Nat.reduceAdd, Nat.reduceSub, Nat.reduceLeDiff, Nat.reduceLT, Int.reduceToNat, Int.reduceLE, Int.reduceLT, mens, men]
    refine ⟨by rw [fits_i64]; omega, ⟨by rw [fits_i64]; omega, cntJ_intro () hja ?_ trivial⟩⟩
    rw [kJ_succ nStr hja, hR']
    simp only [nStr, mStr, tv, Int.natCast_add, Int.natCast_one, Int.add_assoc]
    try rfl
  · have : j = a.length := by omega
    subst this
    rw [kJ_all, lJ_all]
    exact ⟨rfl, rfl⟩
def mWire (x : TWire) (k : Int) : TWire := { name := markT (k), link := k + 1 }
def nWire (x : TWire) : Nat := 1 + 1
theorem mark_WireS : MarkS Go.Proofs.Tryz.prog fid_laws_markWireS cWire mWire nWire (bdWire 4294967296) := by
  intro a k lvl S id p es r0 kk hw ver st cap hid hv hst h0 hk hl hB
  have hne : id.1 ≠ lvl := by omega
  have hgp : ∀ r, getp (putp es p r) p = some r := fun r => getp_putp hv
  refine sem_of_chk k_laws_markWireS trivial ?_
  simp only [c_laws_markWireS, EVA, ↓reduceIte, Nat.reduceEqDiff, Nat.reduceMul, reduceCtorEq, Nat.reduceAdd, Nat.reduceSub, Nat.reduceLeDiff, Nat.reduceLT, Int.reduceToNat, Int.reduceLE, Int.reduceLT, mens, men]
  refine wp_count (α := Unit) a.length (fun j _ => ⟨lvl, [(0, .hd id p 0 a.length cap st), (1, iI (kJ nWire a k j)), (5, iI j)], [], sset S id (.ar kk (putp es p ((lJ mWire nWire a k j).map cWire)) true hw ver)⟩) (fun _ _ => True) () ⟨by simp only [r_okmo hne, EVA, ↓reduceIte, Nat.reduceEqDiff, Nat.reduceMul, reduceCtorEq, Nat.reduceAdd, Nat.reduceSub, Nat.reduceLeDiff, Nat.reduceLT, Int.reduceToNat, Int.reduceLE, Int.reduceLT, mens, men], by (simp only [kJ_zero, lJ_zero, EVA, ↓reduceIte, Nat.reduceEqDiff, Nat.reduceMul, reduceCtorEq, Nat.reduceAdd, Nat.reduceSub, Nat.reduceLeDiff, Nat.reduceLT, Int.reduceToNat, Int.reduceLE, Int.reduceLT, mens, men]) <;> rfl⟩ trivial ?_
  intro j _ hj _
  simp only [List.length_map, EVA, ↓reduceIte, Nat.reduceEqDiff, Nat.reduceMul, reduceCtorEq, Nat.reduceAdd, Nat.reduceSub, Nat.reduceLeDiff, Nat.reduceLT, Int.reduceToNat, Int.reduceLE, Int.reduceLT, mens, men]
  refine ite_of (fun hlt => ?_) (fun hge => ?_)
  · have hja : j < a.length := by omega
    obtain ⟨R, hjR, hR, hR'⟩ := lJ_row mWire nWire cWire (k := k) hja
    have hge2 := kJ_le nWire (a := a) (k := k) (j := j + 1)
    rw [kJ_succ nWire hja] at hge2
    have hge3 := kJ_ge nWire (a := a) (k := k) (j := j)
    rw [hR]
    try simp only [nWire] at hge2
    have hb := hB _ (List.getElem_mem hja)
    have b0 : (a[j]).name.size ≤ 4294967296 := hb
    try simp only [r_packo hne, r_setObo hne, psset_sset, r_sset, hst, hgp, rset_get hjR, setp_row hv hjR, Nat.zero_add, hja, r_okmo hne, List.length_map, cWire, EVA, ↓reduceIte, Nat.reduceEqDiff, Nat.reduceMul, reduceCtorEq, Nat.reduceAdd, Nat.reduceSub, Nat.reduceLeDiff, Nat.reduceLT, Int.reduceToNat, Int.reduceLE, Int.reduceLT, mens, men]
    refine kca_intro (sem_markText (kJ nWire a k j) (by omega)) ?_
    simp only [r_packo hne, r_setObo hne, psset_sset, r_sset, hst, hgp, rset_get hjR, setp_row hv hjR, Nat.zero_add, hja, r_okmo hne, List.length_map, cWire, EVA, ↓reduceIte, Nat.reduceEqDiff, Nat.reduceMul, reduceCtorEq, Nat.reduceAdd, Nat.reduceSub, Nat.reduceLeDiff, Nat.reduceLT, Int.reduceToNat, Int.reduceLE, Int.reduceLT, mens, men]
    refine ⟨by rw [fits_i64]; omega, ⟨by rw [fits_i64]; omega, ⟨by rw [fits_i64]; omega, cntJ_intro () hja ?_ trivial⟩⟩⟩
    rw [kJ_succ nWire hja, hR']
    simp only [nWire, mWire, cWire, Int.natCast_add, Int.natCast_one, Int.add_assoc]
    try rfl
  · have : j = a.length := by omega
    subst this
    rw [kJ_all, lJ_all]
    exact ⟨rfl, rfl⟩
def mIntS (x : (List Int)) (k : Int) : (List Int) := mL mInt nInt x (k)
def nIntS (x : (List Int)) : Nat := nL nInt x
theorem mark_IntSS : MarkS Go.Proofs.Tryz.prog fid_laws_markIntSS (fun l => [Tr.sl (rI l)]) mIntS nIntS (fun x => x.length ≤ 4294967296) := by
  intro a k lvl S id p es r0 kk hw ver st cap hid hv hst h0 hk hl hB
  have hne : id.1 ≠ lvl := by omega
  have hgp : ∀ r, getp (putp es p r) p = some r := fun r => getp_putp hv
  refine sem_of_chk k_laws_markIntSS trivial ?_
  simp only [c_laws_markIntSS, EVA, ↓reduceIte, Nat.reduceEqDiff, Nat.reduceMul, reduceCtorEq, Nat.reduceAdd, Nat.reduceSub, Nat.reduceLeDiff, Nat.reduceLT, Int.reduceToNat, Int.reduceLE, Int.reduceLT, mens, men]
  refine wp_count (α := Unit) a.length (fun j _ => ⟨lvl, [(0, .hd id p 0 a.length cap st), (1, iI (kJ nIntS a k j)), (5, iI j)], [], sset S id (.ar kk (putp es p ((lJ mIntS nIntS a k j).map (fun l => [Tr.sl (rI l)]))) true hw ver)⟩) (fun _ _ => True) () ⟨by simp only [r_okmo hne, EVA, ↓reduceIte, Nat.reduceEqDiff, Nat.reduceMul, reduceCtorEq, Nat.reduceAdd, Nat.reduceSub, Nat.reduceLeDiff, Nat.reduceLT, Int.reduceToNat, Int.reduceLE, Int.reduceLT, mens, men], by (simp only [kJ_zero, lJ_zero, EVA, ↓reduceIte, Nat.reduceEqDiff, Nat.reduceMul, reduceCtorEq, Nat.reduceAdd, Nat.reduceSub, Nat.reduceLeDiff, Nat.reduceLT, Int.reduceToNat, Int.reduceLE, Int.reduceLT, mens, men]) <;> rfl⟩ trivial ?_
  intro j _ hj _
  simp only [List.length_map, EVA, ↓reduceIte, Nat.reduceEqDiff, Nat.reduceMul, reduceCtorEq, Nat.reduceAdd, Nat.reduceSub, Nat.reduceLeDiff, Nat.reduceLT, Int.reduceToNat, Int.reduceLE, Int.reduceLT, mens, men]
  refine ite_of (fun hlt => ?_) (fun hge => ?_)
  · have hja : j < a.length := by omega
    obtain ⟨R, hjR, hR, hR'⟩ := lJ_row mIntS nIntS (fun l => [Tr.sl (rI l)]) (k := k) hja
    have hge2 := kJ_le nIntS (a := a) (k := k) (j := j + 1)
    rw [kJ_succ nIntS hja] at hge2
    have hge3 := kJ_ge nIntS (a := a) (k := k) (j := j)
    rw [hR]
    try simp only [nIntS] at hge2
    have hb := hB _ (List.getElem_mem hja)
    have b0 : (a[j]).length ≤ 4294967296 := hb
    try simp only [r_packo hne, r_setObo hne, psset_sset, r_sset, hst, hgp, rset_get hjR, setp_row hv hjR, Nat.zero_add, hja, r_okmo hne, List.length_map, tv, EVA, ↓reduceIte, Nat.reduceEqDiff, Nat.reduceMul, reduceCtorEq, Nat.reduceAdd, Nat.reduceSub, Nat.reduceLeDiff, Nat.reduceLT, Int.reduceToNat, Int.reduceLE, Int.reduceLT, mens, men]
    simp only [arg1]
    refine kcy_mark mark_IntS hid hv (by omega) (by omega) b0 (fun _ _ => trivial) hjR rfl (by simp only [List.length_map]) ?_
    simp only [List.set_cons_succ, List.set_cons_zero, r_packo hne, r_setObo hne, psset_sset, r_sset, hst, hgp, rset_get hjR, setp_row hv hjR, Nat.zero_add, hja, r_okmo hne, List.length_map, tv, EVA, ↓reduceIte, Nat.reduceEqDiff, Nat.reduceMul, reduceCtorEq, Nat.reduceAdd, Nat.reduceSub, Nat.reduceLeDiff, Nat.reduceLT, Int.reduceToNat, Int.reduceLE, Int.reduceLT, mens, men]
    refine ⟨by rw [fits_i64]; omega, cntJ_intro () hja ?_ trivial⟩
    rw [kJ_succ nIntS hja, hR']
    simp only [nIntS, mIntS, tv, Int.natCast_add, Int.natCast_one, Int.add_assoc]
    try rfl
  · have : j = a.length := by omega
    subst this
    rw [kJ_all, lJ_all]
    exact ⟨rfl, rfl⟩
def mIntA2 (x : (Int × Int)) (k : Int) : (Int × Int) := (k, k + 1)
def nIntA2 (x : (Int × Int)) : Nat := 1 + 1
theorem mark_IntA2S : MarkS Go.Proofs.Tryz.prog fid_laws_markIntA2S cA2 mIntA2 nIntA2 (fun _ => True) := by
  intro a k lvl S id p es r0 kk hw ver st cap hid hv hst h0 hk hl hB
  have hne : id.1 ≠ lvl := by omega
  have hgp : ∀ r, getp (putp es p r) p = some r := fun r => getp_putp hv
  refine sem_of_chk k_laws_markIntA2S trivial ?_
  simp only [c_laws_markIntA2S, EVA, ↓reduceIte, Nat.reduceEqDiff, Nat.reduceMul, reduceCtorEq, Nat.reduceAdd, Nat.reduceSub, Nat.reduceLeDiff, Nat.reduceLT, Int.reduceToNat, Int.reduceLE, Int.reduceLT, mens, men]
  refine wp_count (α := Unit) a.length (fun j _ => ⟨lvl, [(0, .hd id p 0 a.length cap st), (1, iI (kJ nIntA2 a k j)), (5, iI j)], [], sset S id (.ar kk (putp es p ((lJ mIntA2 nIntA2 a k j).map cA2)) true hw ver)⟩) (fun _ _ => True) () ⟨by simp only [r_okmo hne, EVA, ↓reduceIte, Nat.reduceEqDiff, Nat.reduceMul, reduceCtorEq, Nat.reduceAdd, Nat.reduceSub, Nat.reduceLeDiff, Nat.reduceLT, Int.reduceToNat, Int.reduceLE, Int.reduceLT, mens, men], by (simp only [kJ_zero, lJ_zero, EVA, ↓reduceIte, Nat.reduceEqDiff, Nat.reduceMul, reduceCtorEq, Nat.reduceAdd, Nat.reduceSub, Nat.reduceLeDiff, Nat.reduceLT, Int.reduceToNat, Int.reduceLE, Int.reduceLT, mens, men]) <;> rfl⟩ trivial ?_
  intro j _ hj _
  simp only [List.length_map, EVA, ↓reduceIte, Nat.reduceEqDiff, Nat.reduceMul, reduceCtorEq, Nat.reduceAdd, Nat.reduceSub, Nat.reduceLeDiff, Nat.reduceLT, Int.reduceToNat, Int.reduceLE, Int.reduceLT, mens, men]
  refine ite_of (fun hlt => ?_) (fun hge => ?_)
  · have hja : j < a.length := by omega
    obtain ⟨R, hjR, hR, hR'⟩ := lJ_row mIntA2 nIntA2 cA2 (k := k) hja
    have hge2 := kJ_le nIntA2 (a := a) (k := k) (j := j + 1)
    rw [kJ_succ nIntA2 hja] at hge2
    have hge3 := kJ_ge nIntA2 (a := a) (k := k) (j := j)
    rw [hR]
    try simp only [nIntA2] at hge2
    simp only [r_packo hne, r_setObo hne, psset_sset, r_sset, hst, hgp, rset_get hjR, setp_row hv hjR, Nat.zero_add, hja, r_okmo hne, List.length_map, cA2, EVA, ↓reduceIte, Nat.reduceEqDiff, Nat.reduceMul, reduceCtorEq, Nat.reduceAdd, Nat.reduceSub, Nat.reduceLeDiff, Nat.reduceLT, Int.reduceToNat, Int.reduceLE, Int.reduceLT, mens, men]
    refine wp_count (α := Unit) 2 (fun i _ => ⟨lvl, [(0, .hd id p 0 a.length cap st), (1, iI (kJ nIntA2 a k j + i)), (5, iI j), (6, iI i)], [], sset S id (.ar kk (putp es p (R.set j [if 0 < i then tv (kJ nIntA2 a k j) else tv a[j].1, if 1 < i then tv (kJ nIntA2 a k j + 1) else tv a[j].2])) true hw ver)⟩) (fun _ _ => True) () ⟨by simp only [r_okmo hne, EVA, ↓reduceIte, Nat.reduceEqDiff, Nat.reduceMul, reduceCtorEq, Nat.reduceAdd, Nat.reduceSub, Nat.reduceLeDiff, Nat.reduceLT, Int.reduceToNat, Int.reduceLE, Int.reduceLT, mens, men], by simp only [Int.natCast_zero, Int.add_zero, Nat.lt_irrefl, Nat.not_lt_zero, EVA, ↓reduceIte, Nat.reduceEqDiff, Nat.reduceMul, reduceCtorEq, Nat.reduceAdd, Nat.reduceSub, Nat.reduceLeDiff, Nat.reduceLT, Int.reduceToNat, Int.reduceLE, Int.reduceLT, mens, men]; try rfl⟩ trivial ?_
    intro i _ hi _
    have hc : i = 0 ∨ i = 1 ∨ i = 2 := by omega
    rcases hc with rfl | rfl | rfl
    · simp only [r_packo hne, r_setObo hne, psset_sset, r_sset, hst, hgp, rset_get hjR, setp_row hv hjR, Nat.zero_add, hja, r_okmo hne, List.length_map, cA2, Int.cast_ofNat_Int, Int.natCast_zero, Nat.zero_mul, Nat.one_mul, Nat.mul_one, Int.add_zero, Int.natCast_one, Int.reduceAdd, Nat.lt_irrefl, Nat.not_lt_zero, Nat.zero_lt_one, Nat.reduceAdd, EVA, ↓reduceIte, Nat.reduceEqDiff, Nat.reduceMul, reduceCtorEq, Nat.reduceSub, Nat.reduceLeDiff, Nat.reduceLT, Int.reduceToNat, Int.reduceLE, Int.reduceLT, mens, men]
      refine ⟨by rw [fits_i64]; omega, by rw [fits_i64]; omega, cntJ_intro (N := 2) (k := 0) () (by omega) ?_ trivial⟩
      rw [show kJ nIntA2 a k j + 1 = kJ nIntA2 a k j + ((1 : Nat) : Int) from by omega]
      rfl
    · simp only [r_packo hne, r_setObo hne, psset_sset, r_sset, hst, hgp, rset_get hjR, setp_row hv hjR, Nat.zero_add, hja, r_okmo hne, List.length_map, cA2, Int.cast_ofNat_Int, Int.natCast_zero, Nat.zero_mul, Nat.one_mul, Nat.mul_one, Int.add_zero, Int.natCast_one, Int.reduceAdd, Nat.lt_irrefl, Nat.not_lt_zero, Nat.zero_lt_one, Nat.reduceAdd, EVA, ↓reduceIte, Nat.reduceEqDiff, Nat.reduceMul, reduceCtorEq, Nat.reduceSub, Nat.reduceLeDiff, Nat.reduceLT, Int.reduceToNat, Int.reduceLE, Int.reduceLT, mens, men]
      refine ⟨by rw [fits_i64]; omega, by rw [fits_i64]; omega, cntJ_intro (N := 2) (k := 1) () (by omega) ?_ trivial⟩
      rw [show kJ nIntA2 a k j + 1 + 1 = kJ nIntA2 a k j + ((2 : Nat) : Int) from by omega]
      rfl
    · simp only [r_packo hne, r_setObo hne, psset_sset, r_sset, hst, hgp, rset_get hjR, setp_row hv hjR, Nat.zero_add, hja, r_okmo hne, List.length_map, cA2, Int.cast_ofNat_Int, Int.natCast_zero, Nat.zero_mul, Nat.one_mul, Nat.mul_one, Int.add_zero, Int.natCast_one, Int.reduceAdd, Nat.lt_irrefl, Nat.not_lt_zero, Nat.zero_lt_one, Nat.reduceAdd, EVA, ↓reduceIte, Nat.reduceEqDiff, Nat.reduceMul, reduceCtorEq, Nat.reduceSub, Nat.reduceLeDiff, Nat.reduceLT, Int.reduceToNat, Int.reduceLE, Int.reduceLT, mens, men]
      refine ⟨by rw [fits_i64]; omega, cntJ_intro () hja ?_ trivial⟩
      rw [kJ_succ nIntA2 hja, hR']
      rfl
  · have : j = a.length := by omega
    subst this
    rw [kJ_all, lJ_all]
    exact ⟨rfl, rfl⟩
def mControl (x : TControl) (k : Int) : TControl := { name := markT (k), ports := k + 1, kind_ := k + 1 + 1 }
def nControl (x : TControl) : Nat := 1 + 1 + 1
theorem mark_ControlS : MarkS Go.Proofs.Tryz.prog fid_laws_markControlS cControl mControl nControl (bdControl 4294967296) := by
  intro a k lvl S id p es r0 kk hw ver st cap hid hv hst h0 hk hl hB
  have hne : id.1 ≠ lvl := by omega
  have hgp : ∀ r, getp (putp es p r) p = some r := fun r => getp_putp hv
  refine sem_of_chk k_laws_markControlS trivial ?_
  simp only [c_laws_markControlS, EVA, ↓reduceIte, Nat.reduceEqDiff, Nat.reduceMul, reduceCtorEq, Nat.reduceAdd, Nat.reduceSub, Nat.reduceLeDiff, Nat.reduceLT, Int.reduceToNat, Int.reduceLE, Int.reduceLT, mens, men]
  refine wp_count (α := Unit) a.length (fun j _ => ⟨lvl, [(0, .hd id p 0 a.length cap st), (1, iI (kJ nControl a k j)), (5, iI j)], [], sset S id (.ar kk (putp es p ((lJ mControl nControl a k j).map cControl)) true hw ver)⟩) (fun _ _ => True) () ⟨by simp only [r_okmo hne, EVA, ↓reduceIte, Nat.reduceEqDiff, Nat.reduceMul, reduceCtorEq, Nat.reduceAdd, Nat.reduceSub, Nat.reduceLeDiff, Nat.reduceLT, Int.reduceToNat, Int.reduceLE, Int.reduceLT, mens, men], by (simp only [kJ_zero, lJ_zero, EVA, ↓reduceIte, Nat.reduceEqDiff, Nat.reduceMul, reduceCtorEq, Nat.reduceAdd, Nat.reduceSub, Nat.reduceLeDiff, Nat.reduceLT, Int.reduceToNat, Int.reduceLE, Int.reduceLT, mens, men]) <;> rfl⟩ trivial ?_
  intro j _ hj _
  simp only [List.length_map, EVA, ↓reduceIte, Nat.reduceEqDiff, Nat.reduceMul, reduceCtorEq, Nat.reduceAdd, Nat.reduceSub, Nat.reduceLeDiff, Nat.reduceLT, Int.reduceToNat, Int.reduceLE, Int.reduceLT, mens, men]
  refine ite_of (fun hlt => ?_) (fun hge => ?_)
  · have hja : j < a.length := by omega
    obtain ⟨R, hjR, hR, hR'⟩ := lJ_row mControl nControl cControl (k := k) hja
    have hge2 := kJ_le nControl (a := a) (k := k) (j := j + 1)
    rw [kJ_succ nControl hja] at hge2
    have hge3 := kJ_ge nControl (a := a) (k := k) (j := j)
    rw [hR]
    try simp only [nControl] at hge2
    have hb := hB _ (List.getElem_mem hja)
    have b0 : (a[j]).name.size ≤ 4294967296 := hb
    try simp only [r_packo hne, r_setObo hne, psset_sset, r_sset, hst, hgp, rset_get hjR, setp_row hv hjR, Nat.zero_add, hja, r_okmo hne, List.length_map, cControl, EVA, ↓reduceIte, Nat.reduceEqDiff, Nat.reduceMul, reduceCtorEq, Nat.reduceAdd, Nat.reduceSub, Nat.reduceLeDiff, Nat.reduceLT, Int.reduceToNat, Int.reduceLE, Int.reduceLT, mens, men]
    refine kca_intro (sem_markText (kJ nControl a k j) (by omega)) ?_
    simp only [r_packo hne, r_setObo hne, psset_sset, r_sset, hst, hgp, rset_get hjR, setp_row hv hjR, Nat.zero_add, hja, r_okmo hne, List.length_map, cControl, EVA, ↓reduceIte, Nat.reduceEqDiff, Nat.reduceMul, reduceCtorEq, Nat.reduceAdd, Nat.reduceSub, Nat.reduceLeDiff, Nat.reduceLT, Int.reduceToNat, Int.reduceLE, Int.reduceLT, mens, men]
    refine ⟨by rw [fits_i64]; omega, ⟨by rw [fits_i64]; omega, ⟨by rw [fits_i64]; omega, ⟨by rw [fits_i64]; omega, cntJ_intro () hja ?_ trivial⟩⟩⟩⟩
    rw [kJ_succ nControl hja, hR']
    simp only [nControl, mControl, cControl, Int.natCast_add, Int.natCast_one, Int.add_assoc]
    try rfl
  · have : j = a.length := by omega
    subst this
    rw [kJ_all, lJ_all]
    exact ⟨rfl, rfl⟩
def mFault (x : TFault) (k : Int) : TFault := { kind_ := k, at_ := k + 1, with_ := k + 1 + 1 }
def nFault (x : TFault) : Nat := 1 + 1 + 1
theorem mark_FaultS : MarkS Go.Proofs.Tryz.prog fid_laws_markFaultS cFault mFault nFault (fun _ => True) := by
  intro a k lvl S id p es r0 kk hw ver st cap hid hv hst h0 hk hl hB
  have hne : id.1 ≠ lvl := by omega
  have hgp : ∀ r, getp (putp es p r) p = some r := fun r => getp_putp hv
  refine sem_of_chk k_laws_markFaultS trivial ?_
  simp only [c_laws_markFaultS, EVA, ↓reduceIte, Nat.reduceEqDiff, Nat.reduceMul, reduceCtorEq, Nat.reduceAdd, Nat.reduceSub, Nat.reduceLeDiff, Nat.reduceLT, Int.reduceToNat, Int.reduceLE, Int.reduceLT, mens, men]
  refine wp_count (α := Unit) a.length (fun j _ => ⟨lvl, [(0, .hd id p 0 a.length cap st), (1, iI (kJ nFault a k j)), (5, iI j)], [], sset S id (.ar kk (putp es p ((lJ mFault nFault a k j).map cFault)) true hw ver)⟩) (fun _ _ => True) () ⟨by simp only [r_okmo hne, EVA, ↓reduceIte, Nat.reduceEqDiff, Nat.reduceMul, reduceCtorEq, Nat.reduceAdd, Nat.reduceSub, Nat.reduceLeDiff, Nat.reduceLT, Int.reduceToNat, Int.reduceLE, Int.reduceLT, mens, men], by (simp only [kJ_zero, lJ_zero, EVA, ↓reduceIte, Nat.reduceEqDiff, Nat.reduceMul, reduceCtorEq, Nat.reduceAdd, Nat.reduceSub, Nat.reduceLeDiff, Nat.reduceLT, Int.reduceToNat, Int.reduceLE, Int.reduceLT, mens, men]) <;> rfl⟩ trivial ?_
  intro j _ hj _
  simp only [List.length_map, EVA, ↓reduceIte, Nat.reduceEqDiff, Nat.reduceMul, reduceCtorEq, Nat.reduceAdd, Nat.reduceSub, Nat.reduceLeDiff, Nat.reduceLT, Int.reduceToNat, Int.reduceLE, Int.reduceLT, mens, men]
  refine ite_of (fun hlt => ?_) (fun hge => ?_)
  · have hja : j < a.length := by omega
    obtain ⟨R, hjR, hR, hR'⟩ := lJ_row mFault nFault cFault (k := k) hja
    have hge2 := kJ_le nFault (a := a) (k := k) (j := j + 1)
    rw [kJ_succ nFault hja] at hge2
    have hge3 := kJ_ge nFault (a := a) (k := k) (j := j)
    rw [hR]
    try simp only [nFault] at hge2
    try simp only [r_packo hne, r_setObo hne, psset_sset, r_sset, hst, hgp, rset_get hjR, setp_row hv hjR, Nat.zero_add, hja, r_okmo hne, List.length_map, cFault, EVA, ↓reduceIte, Nat.reduceEqDiff, Nat.reduceMul, reduceCtorEq, Nat.reduceAdd, Nat.reduceSub, Nat.reduceLeDiff, Nat.reduceLT, Int.reduceToNat, Int.reduceLE, Int.reduceLT, mens, men]
    refine ⟨by rw [fits_i64]; omega, ⟨by rw [fits_i64]; omega, ⟨by rw [fits_i64]; omega, ⟨by rw [fits_i64]; omega, cntJ_intro () hja ?_ trivial⟩⟩⟩⟩
    rw [kJ_succ nFault hja, hR']
    simp only [nFault, mFault, cFault, Int.natCast_add, Int.natCast_one, Int.add_assoc]
    try rfl
  · have : j = a.length := by omega
    subst this
    rw [kJ_all, lJ_all]
    exact ⟨rfl, rfl⟩
end Go.Fd

/-
  The annotated codes of the functions, printed by a program of mine (gen.py), and the check that they belong to the program.
-/
namespace Go.Fd
def c_laws_toControlS : F2 :=
  { nt := 23, res := [.t 2 [4]], body :=
   (.sq (rg [om 2 (.k (.slice none 0 0))])
 (.sq (rg [om 5 (.t 0),
 oo 6 (.ln (.t 5)),
 oo 7 (.ms 3 [.string ⟨#[]⟩, .int .i64 0, .int .i64 0] (.t 6)),
 om 3 (.t 7)])
 (.sq (.sq (rg [om 4 (i6 0)])
 (.bl 0 (.lp [0, 3, 4] [224] (.sq (.sq (rg [om 8 (.t 4),
 om 9 (.t 0),
 oo 10 (.ln (.t 9)),
 oo 11 (.bi .lss 0 (.t 8) (.t 10))])
 (.cd (.t 11) (.sk)
 (.ex 0)))
 (.sq (.bl 1 (rg [om 14 (.t 3),
 om 15 (.t 4),
 om 16 (.t 0),
 om 17 (.t 4),
 oo 18 (.ia 3 (.t 16) (.t 17)),
 oo 19 (.ld (some 3) (.t 18)),
 oo 20 (.ca .pure true (.f fid_laws_toControl) [.t 19]),
 oo 21 (.ia 3 (.t 14) (.t 15)),
 on1 (.st 3 (.t 21) (.t 20))]))
 (rg [om 12 (.t 4),
 oo 13 (.bi .add 0 (.t 12) (i6 1)),
 om 4 (.t 13)]))))))
 (.sq (rg [om 22 (.t 3),
 om 2 (.t 22)])
 (.rt))))) }
theorem k_laws_toControlS : chkF Go.Proofs.Tryz.prog fid_laws_toControlS c_laws_toControlS = true := by kernel_rfl

def c_laws_szSorting : F2 :=
  { nt := 36, res := [.t 4 [0]], body :=
   (.sq (rg [oo 2 (.bt (.t 0)),
 om 4 (i6 0)])
 (.sq (rg [oo 5 (.fa 0 (.t 2)),
 oo 6 (.ld none (.t 5)),
 om 7 (.t 1),
 oo 8 (.ca .pure false (.f fid_laws_szIntS) [.t 6, .t 7]),
 om 1 (.t 8)])
 (.sq (.sq (rg [om 9 (.t 1),
 oo 10 (.bi .lss 0 (.t 9) (i6 0))])
 (.cd (.t 10) (.sq (rg [om 4 (i6 (-1))])
 (.rt))
 (.sk)))
 (.sq (rg [oo 11 (.fa 1 (.t 2)),
 oo 12 (.ld none (.t 11)),
 om 13 (.t 1),
 oo 14 (.ca .pure false (.f fid_laws_szIntSS) [.t 12, .t 13]),
 om 1 (.t 14)])
 (.sq (.sq (rg [om 15 (.t 1),
 oo 16 (.bi .lss 0 (.t 15) (i6 0))])
 (.cd (.t 16) (.sq (rg [om 4 (i6 (-1))])
 (.rt))
 (.sk)))
 (.sq (rg [oo 17 (.fa 2 (.t 2)),
 oo 18 (.ld none (.t 17)),
 om 19 (.t 1),
 oo 20 (.ca .pure false (.f fid_laws_szIntSS) [.t 18, .t 19]),
 om 1 (.t 20)])
 (.sq (.sq (rg [om 21 (.t 1),
 oo 22 (.bi .lss 0 (.t 21) (i6 0))])
 (.cd (.t 22) (.sq (rg [om 4 (i6 (-1))])
 (.rt))
 (.sk)))
 (.sq (rg [oo 23 (.fa 3 (.t 2)),
 oo 24 (.ld none (.t 23)),
 om 25 (.t 1),
 oo 26 (.ca .pure false (.f fid_laws_szIntS) [.t 24, .t 25]),
 om 1 (.t 26)])
 (.sq (.sq (rg [om 27 (.t 1),
 oo 28 (.bi .lss 0 (.t 27) (i6 0))])
 (.cd (.t 28) (.sq (rg [om 4 (i6 (-1))])
 (.rt))
 (.sk)))
 (.sq (rg [oo 29 (.fa 4 (.t 2)),
 oo 30 (.ld none (.t 29)),
 om 31 (.t 1),
 oo 32 (.ca .pure false (.f fid_laws_szIntA2S) [.t 30, .t 31]),
 om 1 (.t 32)])
 (.sq (.sq (rg [om 33 (.t 1),
 oo 34 (.bi .lss 0 (.t 33) (i6 0))])
 (.cd (.t 34) (.sq (rg [om 4 (i6 (-1))])
 (.rt))
 (.sk)))
 (.sq (rg [om 35 (.t 1),
 om 4 (.t 35)])
 (.rt))))))))))))) }
theorem k_laws_szSorting : chkF Go.Proofs.Tryz.prog fid_laws_szSorting c_laws_szSorting = true := by kernel_rfl

def c_laws_szBigraph : F2 :=
  { nt := 30, res := [.t 4 [0]], body :=
   (.sq (rg [oo 2 (.bt (.t 0)),
 om 4 (i6 0)])
 (.sq (rg [oo 5 (.fa 1 (.t 2)),
 oo 6 (.ld none (.t 5)),
 om 7 (.t 1),
 oo 8 (.ca .pure false (.f fid_laws_szNodeS) [.t 6, .t 7]),
 om 1 (.t 8)])
 (.sq (.sq (rg [om 9 (.t 1),
 oo 10 (.bi .lss 0 (.t 9) (i6 0))])
 (.cd (.t 10) (.sq (rg [om 4 (i6 (-1))])
 (.rt))
 (.sk)))
 (.sq (rg [oo 11 (.fa 2 (.t 2)),
 oo 12 (.ld none (.t 11)),
 om 13 (.t 1),
 oo 14 (.ca .pure false (.f fid_laws_szIntS) [.t 12, .t 13]),
 om 1 (.t 14)])
 (.sq (.sq (rg [om 15 (.t 1),
 oo 16 (.bi .lss 0 (.t 15) (i6 0))])
 (.cd (.t 16) (.sq (rg [om 4 (i6 (-1))])
 (.rt))
 (.sk)))
 (.sq (rg [oo 17 (.fa 4 (.t 2)),
 oo 18 (.ld none (.t 17)),
 om 19 (.t 1),
 oo 20 (.ca .pure false (.f fid_laws_szStringS) [.t 18, .t 19]),
 om 1 (.t 20)])
 (.sq (.sq (rg [om 21 (.t 1),
 oo 22 (.bi .lss 0 (.t 21) (i6 0))])
 (.cd (.t 22) (.sq (rg [om 4 (i6 (-1))])
 (.rt))
 (.sk)))
 (.sq (rg [oo 23 (.fa 5 (.t 2)),
 oo 24 (.ld none (.t 23)),
 om 25 (.t 1),
 oo 26 (.ca .pure false (.f fid_laws_szWireS) [.t 24, .t 25]),
 om 1 (.t 26)])
 (.sq (.sq (rg [om 27 (.t 1),
 oo 28 (.bi .lss 0 (.t 27) (i6 0))])
 (.cd (.t 28) (.sq (rg [om 4 (i6 (-1))])
 (.rt))
 (.sk)))
 (.sq (rg [om 29 (.t 1),
 om 4 (.t 29)])
 (.rt))))))))))) }
theorem k_laws_szBigraph : chkF Go.Proofs.Tryz.prog fid_laws_szBigraph c_laws_szBigraph = true := by kernel_rfl

def c_laws_toSorting : F2 :=
  { nt := 25, res := [.c 2 (some 5) [2, 2, 2, 2, 3]], body :=
   (.sq (rg [oo 1 (.bt (.t 0)),
 oo 2 (.al [.slice none 0 0, .slice none 0 0, .slice none 0 0, .slice none 0 0, .slice none 0 0] [])])
 (.sq (rg [oo 3 (.al [.slice none 0 0, .slice none 0 0, .slice none 0 0, .slice none 0 0, .slice none 0 0] [])])
 (.sq (rg [oo 4 (.fa 0 (.t 1)),
 oo 5 (.ld none (.t 4)),
 oo 6 (.ca .pure true (.f fid_laws_toIntS) [.t 5]),
 oo 7 (.fa 0 (.t 3)),
 on1 (.st 1 (.t 7) (.t 6))])
 (.sq (rg [oo 8 (.fa 1 (.t 1)),
 oo 9 (.ld none (.t 8)),
 oo 10 (.ca .pure true (.f fid_laws_toIntSS) [.t 9]),
 oo 11 (.fa 1 (.t 3)),
 on1 (.st 1 (.t 11) (.t 10))])
 (.sq (rg [oo 12 (.fa 2 (.t 1)),
 oo 13 (.ld none (.t 12)),
 oo 14 (.ca .pure true (.f fid_laws_toIntSS) [.t 13]),
 oo 15 (.fa 2 (.t 3)),
 on1 (.st 1 (.t 15) (.t 14))])
 (.sq (rg [oo 16 (.fa 3 (.t 1)),
 oo 17 (.ld none (.t 16)),
 oo 18 (.ca .pure true (.f fid_laws_toIntS) [.t 17]),
 oo 19 (.fa 3 (.t 3)),
 on1 (.st 1 (.t 19) (.t 18))])
 (.sq (rg [oo 20 (.fa 4 (.t 1)),
 oo 21 (.ld none (.t 20)),
 oo 22 (.ca .pure true (.f fid_laws_toIntA2S) [.t 21]),
 oo 23 (.fa 4 (.t 3)),
 on1 (.st 1 (.t 23) (.t 22))])
 (.sq (rg [oo 24 (.ld (some 5) (.t 3)),
 on1 (.st 5 (.t 2) (.t 24))])
 (.rt))))))))) }
theorem k_laws_toSorting : chkF Go.Proofs.Tryz.prog fid_laws_toSorting c_laws_toSorting = true := by kernel_rfl

def c_laws_toBigraph : F2 :=
  { nt := 27, res := [.c 2 (some 6) [0, 4, 2, 0, 2, 3]], body :=
   (.sq (rg [oo 1 (.bt (.t 0)),
 oo 2 (.al [.int .i64 0, .slice none 0 0, .slice none 0 0, .int .i64 0, .slice none 0 0, .slice none 0 0] [])])
 (.sq (rg [oo 3 (.al [.int .i64 0, .slice none 0 0, .slice none 0 0, .int .i64 0, .slice none 0 0, .slice none 0 0] [])])
 (.sq (rg [oo 4 (.fa 0 (.t 1)),
 oo 5 (.ld none (.t 4)),
 oo 6 (.fa 0 (.t 3)),
 on1 (.st 1 (.t 6) (.t 5))])
 (.sq (rg [oo 7 (.fa 1 (.t 1)),
 oo 8 (.ld none (.t 7)),
 oo 9 (.ca .pure true (.f fid_laws_toNodeS) [.t 8]),
 oo 10 (.fa 1 (.t 3)),
 on1 (.st 1 (.t 10) (.t 9))])
 (.sq (rg [oo 11 (.fa 2 (.t 1)),
 oo 12 (.ld none (.t 11)),
 oo 13 (.ca .pure true (.f fid_laws_toIntS) [.t 12]),
 oo 14 (.fa 2 (.t 3)),
 on1 (.st 1 (.t 14) (.t 13))])
 (.sq (rg [oo 15 (.fa 3 (.t 1)),
 oo 16 (.ld none (.t 15)),
 oo 17 (.fa 3 (.t 3)),
 on1 (.st 1 (.t 17) (.t 16))])
 (.sq (rg [oo 18 (.fa 4 (.t 1)),
 oo 19 (.ld none (.t 18)),
 oo 20 (.ca .pure true (.f fid_laws_toStringS) [.t 19]),
 oo 21 (.fa 4 (.t 3)),
 on1 (.st 1 (.t 21) (.t 20))])
 (.sq (rg [oo 22 (.fa 5 (.t 1)),
 oo 23 (.ld none (.t 22)),
 oo 24 (.ca .pure true (.f fid_laws_toWireS) [.t 23]),
 oo 25 (.fa 5 (.t 3)),
 on1 (.st 1 (.t 25) (.t 24))])
 (.sq (rg [oo 26 (.ld (some 6) (.t 3)),
 on1 (.st 6 (.t 2) (.t 26))])
 (.rt)))))))))) }
theorem k_laws_toBigraph : chkF Go.Proofs.Tryz.prog fid_laws_toBigraph c_laws_toBigraph = true := by kernel_rfl

def c_laws_eqSorting : F2 :=
  { nt := 35, res := [.t 4 [0]], body :=
   (.sq (rg [oo 2 (.bt (.t 0)),
 oo 3 (.bt (.t 1)),
 om 4 (.k (.bool false))])
 (.sq (.sq (rg [oo 5 (.fa 0 (.t 2)),
 oo 6 (.ld none (.t 5)),
 oo 7 (.fa 0 (.t 3)),
 oo 8 (.ld none (.t 7)),
 oo 9 (.ca .pure false (.f fid_laws_eqIntS) [.t 6, .t 8]),
 oo 10 (.nt (.t 9))])
 (.cd (.t 10) (.sq (rg [om 4 (.k (.bool false))])
 (.rt))
 (.sk)))
 (.sq (.sq (rg [oo 11 (.fa 1 (.t 2)),
 oo 12 (.ld none (.t 11)),
 oo 13 (.fa 1 (.t 3)),
 oo 14 (.ld none (.t 13)),
 oo 15 (.ca .pure false (.f fid_laws_eqIntSS) [.t 12, .t 14]),
 oo 16 (.nt (.t 15))])
 (.cd (.t 16) (.sq (rg [om 4 (.k (.bool false))])
 (.rt))
 (.sk)))
 (.sq (.sq (rg [oo 17 (.fa 2 (.t 2)),
 oo 18 (.ld none (.t 17)),
 oo 19 (.fa 2 (.t 3)),
 oo 20 (.ld none (.t 19)),
 oo 21 (.ca .pure false (.f fid_laws_eqIntSS) [.t 18, .t 20]),
 oo 22 (.nt (.t 21))])
 (.cd (.t 22) (.sq (rg [om 4 (.k (.bool false))])
 (.rt))
 (.sk)))
 (.sq (.sq (rg [oo 23 (.fa 3 (.t 2)),
 oo 24 (.ld none (.t 23)),
 oo 25 (.fa 3 (.t 3)),
 oo 26 (.ld none (.t 25)),
 oo 27 (.ca .pure false (.f fid_laws_eqIntS) [.t 24, .t 26]),
 oo 28 (.nt (.t 27))])
 (.cd (.t 28) (.sq (rg [om 4 (.k (.bool false))])
 (.rt))
 (.sk)))
 (.sq (.sq (rg [oo 29 (.fa 4 (.t 2)),
 oo 30 (.ld none (.t 29)),
 oo 31 (.fa 4 (.t 3)),
 oo 32 (.ld none (.t 31)),
 oo 33 (.ca .pure false (.f fid_laws_eqIntA2S) [.t 30, .t 32]),
 oo 34 (.nt (.t 33))])
 (.cd (.t 34) (.sq (rg [om 4 (.k (.bool false))])
 (.rt))
 (.sk)))
 (.sq (rg [om 4 (.k (.bool true))])
 (.rt)))))))) }
theorem k_laws_eqSorting : chkF Go.Proofs.Tryz.prog fid_laws_eqSorting c_laws_eqSorting = true := by kernel_rfl

def c_laws_eqBigraph : F2 :=
  { nt := 39, res := [.t 4 [0]], body :=
   (.sq (rg [oo 2 (.bt (.t 0)),
 oo 3 (.bt (.t 1)),
 om 4 (.k (.bool false))])
 (.sq (.sq (rg [oo 5 (.fa 0 (.t 2)),
 oo 6 (.ld none (.t 5)),
 oo 7 (.fa 0 (.t 3)),
 oo 8 (.ld none (.t 7)),
 oo 9 (.bi .neq 0 (.t 6) (.t 8))])
 (.cd (.t 9) (.sq (rg [om 4 (.k (.bool false))])
 (.rt))
 (.sk)))
 (.sq (.sq (rg [oo 10 (.fa 1 (.t 2)),
 oo 11 (.ld none (.t 10)),
 oo 12 (.fa 1 (.t 3)),
 oo 13 (.ld none (.t 12)),
 oo 14 (.ca .pure false (.f fid_laws_eqNodeS) [.t 11, .t 13]),
 oo 15 (.nt (.t 14))])
 (.cd (.t 15) (.sq (rg [om 4 (.k (.bool false))])
 (.rt))
 (.sk)))
 (.sq (.sq (rg [oo 16 (.fa 2 (.t 2)),
 oo 17 (.ld none (.t 16)),
 oo 18 (.fa 2 (.t 3)),
 oo 19 (.ld none (.t 18)),
 oo 20 (.ca .pure false (.f fid_laws_eqIntS) [.t 17, .t 19]),
 oo 21 (.nt (.t 20))])
 (.cd (.t 21) (.sq (rg [om 4 (.k (.bool false))])
 (.rt))
 (.sk)))
 (.sq (.sq (rg [oo 22 (.fa 3 (.t 2)),
 oo 23 (.ld none (.t 22)),
 oo 24 (.fa 3 (.t 3)),
 oo 25 (.ld none (.t 24)),
 oo 26 (.bi .neq 0 (.t 23) (.t 25))])
 (.cd (.t 26) (.sq (rg [om 4 (.k (.bool false))])
 (.rt))
 (.sk)))
 (.sq (.sq (rg [oo 27 (.fa 4 (.t 2)),
 oo 28 (.ld none (.t 27)),
 oo 29 (.fa 4 (.t 3)),
 oo 30 (.ld none (.t 29)),
 oo 31 (.ca .pure false (.f fid_laws_eqStringS) [.t 28, .t 30]),
 oo 32 (.nt (.t 31))])
 (.cd (.t 32) (.sq (rg [om 4 (.k (.bool false))])
 (.rt))
 (.sk)))
 (.sq (.sq (rg [oo 33 (.fa 5 (.t 2)),
 oo 34 (.ld none (.t 33)),
 oo 35 (.fa 5 (.t 3)),
 oo 36 (.ld none (.t 35)),
 oo 37 (.ca .pure false (.f fid_laws_eqWireS) [.t 34, .t 36]),
 oo 38 (.nt (.t 37))])
 (.cd (.t 38) (.sq (rg [om 4 (.k (.bool false))])
 (.rt))
 (.sk)))
 (.sq (rg [om 4 (.k (.bool true))])
 (.rt))))))))) }
theorem k_laws_eqBigraph : chkF Go.Proofs.Tryz.prog fid_laws_eqBigraph c_laws_eqBigraph = true := by kernel_rfl

def c_laws_szControl : F2 :=
  { nt := 13, res := [.t 4 [0]], body :=
   (.sq (rg [oo 2 (.bt (.t 0)),
 om 4 (i6 0)])
 (.sq (rg [om 5 (.t 1),
 oo 6 (.fa 0 (.t 2)),
 oo 7 (.ld none (.t 6)),
 oo 8 (.lg (.t 7)),
 oo 9 (.bi .sub 0 (.t 5) (.t 8)),
 om 1 (.t 9)])
 (.sq (.sq (rg [om 10 (.t 1),
 oo 11 (.bi .lss 0 (.t 10) (i6 0))])
 (.cd (.t 11) (.sq (rg [om 4 (i6 (-1))])
 (.rt))
 (.sk)))
 (.sq (rg [om 12 (.t 1),
 om 4 (.t 12)])
 (.rt))))) }
theorem k_laws_szControl : chkF Go.Proofs.Tryz.prog fid_laws_szControl c_laws_szControl = true := by kernel_rfl

def c_laws_toControl : F2 :=
  { nt := 14, res := [.c 2 (some 3) [0, 0, 0]], body :=
   (.sq (rg [oo 1 (.bt (.t 0)),
 oo 2 (.al [.string ⟨#[]⟩, .int .i64 0, .int .i64 0] [])])
 (.sq (rg [oo 3 (.al [.string ⟨#[]⟩, .int .i64 0, .int .i64 0] [])])
 (.sq (rg [oo 4 (.fa 0 (.t 1)),
 oo 5 (.ld none (.t 4)),
 oo 6 (.fa 0 (.t 3)),
 on1 (.st 1 (.t 6) (.t 5))])
 (.sq (rg [oo 7 (.fa 1 (.t 1)),
 oo 8 (.ld none (.t 7)),
 oo 9 (.fa 1 (.t 3)),
 on1 (.st 1 (.t 9) (.t 8))])
 (.sq (rg [oo 10 (.fa 2 (.t 1)),
 oo 11 (.ld none (.t 10)),
 oo 12 (.fa 2 (.t 3)),
 on1 (.st 1 (.t 12) (.t 11))])
 (.sq (rg [oo 13 (.ld (some 3) (.t 3)),
 on1 (.st 3 (.t 2) (.t 13))])
 (.rt))))))) }
theorem k_laws_toControl : chkF Go.Proofs.Tryz.prog fid_laws_toControl c_laws_toControl = true := by kernel_rfl

def c_laws_eqControl : F2 :=
  { nt := 20, res := [.t 4 [0]], body :=
   (.sq (rg [oo 2 (.bt (.t 0)),
 oo 3 (.bt (.t 1)),
 om 4 (.k (.bool false))])
 (.sq (.sq (rg [oo 5 (.fa 0 (.t 2)),
 oo 6 (.ld none (.t 5)),
 oo 7 (.fa 0 (.t 3)),
 oo 8 (.ld none (.t 7)),
 oo 9 (.bi .neq 0 (.t 6) (.t 8))])
 (.cd (.t 9) (.sq (rg [om 4 (.k (.bool false))])
 (.rt))
 (.sk)))
 (.sq (.sq (rg [oo 10 (.fa 1 (.t 2)),
 oo 11 (.ld none (.t 10)),
 oo 12 (.fa 1 (.t 3)),
 oo 13 (.ld none (.t 12)),
 oo 14 (.bi .neq 0 (.t 11) (.t 13))])
 (.cd (.t 14) (.sq (rg [om 4 (.k (.bool false))])
 (.rt))
 (.sk)))
 (.sq (.sq (rg [oo 15 (.fa 2 (.t 2)),
 oo 16 (.ld none (.t 15)),
 oo 17 (.fa 2 (.t 3)),
 oo 18 (.ld none (.t 17)),
 oo 19 (.bi .neq 0 (.t 16) (.t 18))])
 (.cd (.t 19) (.sq (rg [om 4 (.k (.bool false))])
 (.rt))
 (.sk)))
 (.sq (rg [om 4 (.k (.bool true))])
 (.rt)))))) }
theorem k_laws_eqControl : chkF Go.Proofs.Tryz.prog fid_laws_eqControl c_laws_eqControl = true := by kernel_rfl

def c_laws_toIntSS : F2 :=
  { nt := 23, res := [.t 2 [2]], body :=
   (.sq (rg [om 2 (.k (.slice none 0 0))])
 (.sq (rg [om 5 (.t 0),
 oo 6 (.ln (.t 5)),
 oo 7 (.ms 1 [.slice none 0 0] (.t 6)),
 om 3 (.t 7)])
 (.sq (.sq (rg [om 4 (i6 0)])
 (.bl 0 (.lp [0, 3, 4] [224, 640] (.sq (.sq (rg [om 8 (.t 4),
 om 9 (.t 0),
 oo 10 (.ln (.t 9)),
 oo 11 (.bi .lss 0 (.t 8) (.t 10))])
 (.cd (.t 11) (.sk)
 (.ex 0)))
 (.sq (.bl 1 (rg [om 14 (.t 3),
 om 15 (.t 4),
 om 16 (.t 0),
 om 17 (.t 4),
 oo 18 (.ia 1 (.t 16) (.t 17)),
 oo 19 (.ld none (.t 18)),
 oo 20 (.ca .pure true (.f fid_laws_toIntS) [.t 19]),
 oo 21 (.ia 1 (.t 14) (.t 15)),
 on1 (.st 1 (.t 21) (.t 20))]))
 (rg [om 12 (.t 4),
 oo 13 (.bi .add 0 (.t 12) (i6 1)),
 om 4 (.t 13)]))))))
 (.sq (rg [om 22 (.t 3),
 om 2 (.t 22)])
 (.rt))))) }
theorem k_laws_toIntSS : chkF Go.Proofs.Tryz.prog fid_laws_toIntSS c_laws_toIntSS = true := by kernel_rfl

def c_laws_toIntA2S : F2 :=
  { nt := 23, res := [.t 2 [3]], body :=
   (.sq (rg [om 2 (.k (.slice none 0 0))])
 (.sq (rg [om 5 (.t 0),
 oo 6 (.ln (.t 5)),
 oo 7 (.ms 2 [.int .i64 0, .int .i64 0] (.t 6)),
 om 3 (.t 7)])
 (.sq (.sq (rg [om 4 (i6 0)])
 (.bl 0 (.lp [0, 3, 4] [224] (.sq (.sq (rg [om 8 (.t 4),
 om 9 (.t 0),
 oo 10 (.ln (.t 9)),
 oo 11 (.bi .lss 0 (.t 8) (.t 10))])
 (.cd (.t 11) (.sk)
 (.ex 0)))
 (.sq (.bl 1 (rg [om 14 (.t 3),
 om 15 (.t 4),
 om 16 (.t 0),
 om 17 (.t 4),
 oo 18 (.ia 2 (.t 16) (.t 17)),
 oo 19 (.ld (some 2) (.t 18)),
 oo 20 (.ca .pure true (.f fid_laws_toIntA2) [.t 19]),
 oo 21 (.ia 2 (.t 14) (.t 15)),
 on1 (.st 2 (.t 21) (.t 20))]))
 (rg [om 12 (.t 4),
 oo 13 (.bi .add 0 (.t 12) (i6 1)),
 om 4 (.t 13)]))))))
 (.sq (rg [om 22 (.t 3),
 om 2 (.t 22)])
 (.rt))))) }
theorem k_laws_toIntA2S : chkF Go.Proofs.Tryz.prog fid_laws_toIntA2S c_laws_toIntA2S = true := by kernel_rfl

def c_laws_toNodeS : F2 :=
  { nt := 23, res := [.t 2 [4]], body :=
   (.sq (rg [om 2 (.k (.slice none 0 0))])
 (.sq (rg [om 5 (.t 0),
 oo 6 (.ln (.t 5)),
 oo 7 (.ms 3 [.int .i64 0, .int .i64 0, .slice none 0 0] (.t 6)),
 om 3 (.t 7)])
 (.sq (.sq (rg [om 4 (i6 0)])
 (.bl 0 (.lp [0, 3, 4] [224, 640] (.sq (.sq (rg [om 8 (.t 4),
 om 9 (.t 0),
 oo 10 (.ln (.t 9)),
 oo 11 (.bi .lss 0 (.t 8) (.t 10))])
 (.cd (.t 11) (.sk)
 (.ex 0)))
 (.sq (.bl 1 (rg [om 14 (.t 3),
 om 15 (.t 4),
 om 16 (.t 0),
 om 17 (.t 4),
 oo 18 (.ia 3 (.t 16) (.t 17)),
 oo 19 (.ld (some 3) (.t 18)),
 oo 20 (.ca .pure true (.f fid_laws_toNode) [.t 19]),
 oo 21 (.ia 3 (.t 14) (.t 15)),
 on1 (.st 3 (.t 21) (.t 20))]))
 (rg [om 12 (.t 4),
 oo 13 (.bi .add 0 (.t 12) (i6 1)),
 om 4 (.t 13)]))))))
 (.sq (rg [om 22 (.t 3),
 om 2 (.t 22)])
 (.rt))))) }
theorem k_laws_toNodeS : chkF Go.Proofs.Tryz.prog fid_laws_toNodeS c_laws_toNodeS = true := by kernel_rfl

def c_laws_toWireS : F2 :=
  { nt := 23, res := [.t 2 [3]], body :=
   (.sq (rg [om 2 (.k (.slice none 0 0))])
 (.sq (rg [om 5 (.t 0),
 oo 6 (.ln (.t 5)),
 oo 7 (.ms 2 [.string ⟨#[]⟩, .int .i64 0] (.t 6)),
 om 3 (.t 7)])
 (.sq (.sq (rg [om 4 (i6 0)])
 (.bl 0 (.lp [0, 3, 4] [224] (.sq (.sq (rg [om 8 (.t 4),
 om 9 (.t 0),
 oo 10 (.ln (.t 9)),
 oo 11 (.bi .lss 0 (.t 8) (.t 10))])
 (.cd (.t 11) (.sk)
 (.ex 0)))
 (.sq (.bl 1 (rg [om 14 (.t 3),
 om 15 (.t 4),
 om 16 (.t 0),
 om 17 (.t 4),
 oo 18 (.ia 2 (.t 16) (.t 17)),
 oo 19 (.ld (some 2) (.t 18)),
 oo 20 (.ca .pure true (.f fid_laws_toWire) [.t 19]),
 oo 21 (.ia 2 (.t 14) (.t 15)),
 on1 (.st 2 (.t 21) (.t 20))]))
 (rg [om 12 (.t 4),
 oo 13 (.bi .add 0 (.t 12) (i6 1)),
 om 4 (.t 13)]))))))
 (.sq (rg [om 22 (.t 3),
 om 2 (.t 22)])
 (.rt))))) }
theorem k_laws_toWireS : chkF Go.Proofs.Tryz.prog fid_laws_toWireS c_laws_toWireS = true := by kernel_rfl

def c_laws_eqFault : F2 :=
  { nt := 20, res := [.t 4 [0]], body :=
   (.sq (rg [oo 2 (.bt (.t 0)),
 oo 3 (.bt (.t 1)),
 om 4 (.k (.bool false))])
 (.sq (.sq (rg [oo 5 (.fa 0 (.t 2)),
 oo 6 (.ld none (.t 5)),
 oo 7 (.fa 0 (.t 3)),
 oo 8 (.ld none (.t 7)),
 oo 9 (.bi .neq 0 (.t 6) (.t 8))])
 (.cd (.t 9) (.sq (rg [om 4 (.k (.bool false))])
 (.rt))
 (.sk)))
 (.sq (.sq (rg [oo 10 (.fa 1 (.t 2)),
 oo 11 (.ld none (.t 10)),
 oo 12 (.fa 1 (.t 3)),
 oo 13 (.ld none (.t 12)),
 oo 14 (.bi .neq 0 (.t 11) (.t 13))])
 (.cd (.t 14) (.sq (rg [om 4 (.k (.bool false))])
 (.rt))
 (.sk)))
 (.sq (.sq (rg [oo 15 (.fa 2 (.t 2)),
 oo 16 (.ld none (.t 15)),
 oo 17 (.fa 2 (.t 3)),
 oo 18 (.ld none (.t 17)),
 oo 19 (.bi .neq 0 (.t 16) (.t 18))])
 (.cd (.t 19) (.sq (rg [om 4 (.k (.bool false))])
 (.rt))
 (.sk)))
 (.sq (rg [om 4 (.k (.bool true))])
 (.rt)))))) }
theorem k_laws_eqFault : chkF Go.Proofs.Tryz.prog fid_laws_eqFault c_laws_eqFault = true := by kernel_rfl

def c_laws_szNode : F2 :=
  { nt := 12, res := [.t 4 [0]], body :=
   (.sq (rg [oo 2 (.bt (.t 0)),
 om 4 (i6 0)])
 (.sq (rg [oo 5 (.fa 2 (.t 2)),
 oo 6 (.ld none (.t 5)),
 om 7 (.t 1),
 oo 8 (.ca .pure false (.f fid_laws_szIntS) [.t 6, .t 7]),
 om 1 (.t 8)])
 (.sq (.sq (rg [om 9 (.t 1),
 oo 10 (.bi .lss 0 (.t 9) (i6 0))])
 (.cd (.t 10) (.sq (rg [om 4 (i6 (-1))])
 (.rt))
 (.sk)))
 (.sq (rg [om 11 (.t 1),
 om 4 (.t 11)])
 (.rt))))) }
theorem k_laws_szNode : chkF Go.Proofs.Tryz.prog fid_laws_szNode c_laws_szNode = true := by kernel_rfl

def c_laws_szWire : F2 :=
  { nt := 13, res := [.t 4 [0]], body :=
   (.sq (rg [oo 2 (.bt (.t 0)),
 om 4 (i6 0)])
 (.sq (rg [om 5 (.t 1),
 oo 6 (.fa 0 (.t 2)),
 oo 7 (.ld none (.t 6)),
 oo 8 (.lg (.t 7)),
 oo 9 (.bi .sub 0 (.t 5) (.t 8)),
 om 1 (.t 9)])
 (.sq (.sq (rg [om 10 (.t 1),
 oo 11 (.bi .lss 0 (.t 10) (i6 0))])
 (.cd (.t 11) (.sq (rg [om 4 (i6 (-1))])
 (.rt))
 (.sk)))
 (.sq (rg [om 12 (.t 1),
 om 4 (.t 12)])
 (.rt))))) }
theorem k_laws_szWire : chkF Go.Proofs.Tryz.prog fid_laws_szWire c_laws_szWire = true := by kernel_rfl

def c_laws_toIntA2 : F2 :=
  { nt := 15, res := [.c 2 (some 2) [0, 0]], body :=
   (.sq (rg [oo 1 (.bt (.t 0)),
 oo 2 (.al [.int .i64 0, .int .i64 0] [])])
 (.sq (rg [oo 3 (.al [.int .i64 0, .int .i64 0] [])])
 (.sq (.sq (rg [om 4 (i6 0)])
 (.bl 0 (.lp [1, 2, 3, 4] [64, 96] (.sq (.sq (rg [om 5 (.t 4),
 oo 6 (.bi .lss 0 (.t 5) (i6 2))])
 (.cd (.t 6) (.sk)
 (.ex 0)))
 (.sq (.bl 1 (rg [om 9 (.t 4),
 om 10 (.t 4),
 oo 11 (.ja 1 2 (.t 1) (.t 10)),
 oo 12 (.ld none (.t 11)),
 oo 13 (.ja 1 2 (.t 3) (.t 9)),
 on1 (.st 1 (.t 13) (.t 12))]))
 (rg [om 7 (.t 4),
 oo 8 (.bi .add 0 (.t 7) (i6 1)),
 om 4 (.t 8)]))))))
 (.sq (rg [oo 14 (.ld (some 2) (.t 3)),
 on1 (.st 2 (.t 2) (.t 14))])
 (.rt))))) }
theorem k_laws_toIntA2 : chkF Go.Proofs.Tryz.prog fid_laws_toIntA2 c_laws_toIntA2 = true := by kernel_rfl

def c_laws_toNode : F2 :=
  { nt := 15, res := [.c 2 (some 3) [0, 0, 2]], body :=
   (.sq (rg [oo 1 (.bt (.t 0)),
 oo 2 (.al [.int .i64 0, .int .i64 0, .slice none 0 0] [])])
 (.sq (rg [oo 3 (.al [.int .i64 0, .int .i64 0, .slice none 0 0] [])])
 (.sq (rg [oo 4 (.fa 0 (.t 1)),
 oo 5 (.ld none (.t 4)),
 oo 6 (.fa 0 (.t 3)),
 on1 (.st 1 (.t 6) (.t 5))])
 (.sq (rg [oo 7 (.fa 1 (.t 1)),
 oo 8 (.ld none (.t 7)),
 oo 9 (.fa 1 (.t 3)),
 on1 (.st 1 (.t 9) (.t 8))])
 (.sq (rg [oo 10 (.fa 2 (.t 1)),
 oo 11 (.ld none (.t 10)),
 oo 12 (.ca .pure true (.f fid_laws_toIntS) [.t 11]),
 oo 13 (.fa 2 (.t 3)),
 on1 (.st 1 (.t 13) (.t 12))])
 (.sq (rg [oo 14 (.ld (some 3) (.t 3)),
 on1 (.st 3 (.t 2) (.t 14))])
 (.rt))))))) }
theorem k_laws_toNode : chkF Go.Proofs.Tryz.prog fid_laws_toNode c_laws_toNode = true := by kernel_rfl

def c_laws_toWire : F2 :=
  { nt := 11, res := [.c 2 (some 2) [0, 0]], body :=
   (.sq (rg [oo 1 (.bt (.t 0)),
 oo 2 (.al [.string ⟨#[]⟩, .int .i64 0] [])])
 (.sq (rg [oo 3 (.al [.string ⟨#[]⟩, .int .i64 0] [])])
 (.sq (rg [oo 4 (.fa 0 (.t 1)),
 oo 5 (.ld none (.t 4)),
 oo 6 (.fa 0 (.t 3)),
 on1 (.st 1 (.t 6) (.t 5))])
 (.sq (rg [oo 7 (.fa 1 (.t 1)),
 oo 8 (.ld none (.t 7)),
 oo 9 (.fa 1 (.t 3)),
 on1 (.st 1 (.t 9) (.t 8))])
 (.sq (rg [oo 10 (.ld (some 2) (.t 3)),
 on1 (.st 2 (.t 2) (.t 10))])
 (.rt)))))) }
theorem k_laws_toWire : chkF Go.Proofs.Tryz.prog fid_laws_toWire c_laws_toWire = true := by kernel_rfl

def c_laws_eqIntA2 : F2 :=
  { nt := 17, res := [.t 4 [0]], body :=
   (.sq (rg [oo 2 (.bt (.t 0)),
 oo 3 (.bt (.t 1)),
 om 4 (.k (.bool false))])
 (.sq (.sq (rg [om 5 (i6 0)])
 (.bl 0 (.lp [2, 3, 5] [] (.sq (.sq (rg [om 6 (.t 5),
 oo 7 (.bi .lss 0 (.t 6) (i6 2))])
 (.cd (.t 7) (.sk)
 (.ex 0)))
 (.sq (.bl 1 (.sq (.rg (some 0) [om 10 (.t 5),
 oo 11 (.ja 1 2 (.t 2) (.t 10)),
 oo 12 (.ld none (.t 11)),
 om 13 (.t 5),
 oo 14 (.ja 1 2 (.t 3) (.t 13)),
 oo 15 (.ld none (.t 14)),
 oo 16 (.bi .neq 0 (.t 12) (.t 15))])
 (.cd (.t 16) (.sq (rg [om 4 (.k (.bool false))])
 (.rt))
 (.sk))))
 (rg [om 8 (.t 5),
 oo 9 (.bi .add 0 (.t 8) (i6 1)),
 om 5 (.t 9)]))))))
 (.sq (rg [om 4 (.k (.bool true))])
 (.rt)))) }
theorem k_laws_eqIntA2 : chkF Go.Proofs.Tryz.prog fid_laws_eqIntA2 c_laws_eqIntA2 = true := by kernel_rfl

def c_laws_eqNode : F2 :=
  { nt := 21, res := [.t 4 [0]], body :=
   (.sq (rg [oo 2 (.bt (.t 0)),
 oo 3 (.bt (.t 1)),
 om 4 (.k (.bool false))])
 (.sq (.sq (rg [oo 5 (.fa 0 (.t 2)),
 oo 6 (.ld none (.t 5)),
 oo 7 (.fa 0 (.t 3)),
 oo 8 (.ld none (.t 7)),
 oo 9 (.bi .neq 0 (.t 6) (.t 8))])
 (.cd (.t 9) (.sq (rg [om 4 (.k (.bool false))])
 (.rt))
 (.sk)))
 (.sq (.sq (rg [oo 10 (.fa 1 (.t 2)),
 oo 11 (.ld none (.t 10)),
 oo 12 (.fa 1 (.t 3)),
 oo 13 (.ld none (.t 12)),
 oo 14 (.bi .neq 0 (.t 11) (.t 13))])
 (.cd (.t 14) (.sq (rg [om 4 (.k (.bool false))])
 (.rt))
 (.sk)))
 (.sq (.sq (rg [oo 15 (.fa 2 (.t 2)),
 oo 16 (.ld none (.t 15)),
 oo 17 (.fa 2 (.t 3)),
 oo 18 (.ld none (.t 17)),
 oo 19 (.ca .pure false (.f fid_laws_eqIntS) [.t 16, .t 18]),
 oo 20 (.nt (.t 19))])
 (.cd (.t 20) (.sq (rg [om 4 (.k (.bool false))])
 (.rt))
 (.sk)))
 (.sq (rg [om 4 (.k (.bool true))])
 (.rt)))))) }
theorem k_laws_eqNode : chkF Go.Proofs.Tryz.prog fid_laws_eqNode c_laws_eqNode = true := by kernel_rfl

def c_laws_eqWire : F2 :=
  { nt := 15, res := [.t 4 [0]], body :=
   (.sq (rg [oo 2 (.bt (.t 0)),
 oo 3 (.bt (.t 1)),
 om 4 (.k (.bool false))])
 (.sq (.sq (rg [oo 5 (.fa 0 (.t 2)),
 oo 6 (.ld none (.t 5)),
 oo 7 (.fa 0 (.t 3)),
 oo 8 (.ld none (.t 7)),
 oo 9 (.bi .neq 0 (.t 6) (.t 8))])
 (.cd (.t 9) (.sq (rg [om 4 (.k (.bool false))])
 (.rt))
 (.sk)))
 (.sq (.sq (rg [oo 10 (.fa 1 (.t 2)),
 oo 11 (.ld none (.t 10)),
 oo 12 (.fa 1 (.t 3)),
 oo 13 (.ld none (.t 12)),
 oo 14 (.bi .neq 0 (.t 11) (.t 13))])
 (.cd (.t 14) (.sq (rg [om 4 (.k (.bool false))])
 (.rt))
 (.sk)))
 (.sq (rg [om 4 (.k (.bool true))])
 (.rt))))) }
theorem k_laws_eqWire : chkF Go.Proofs.Tryz.prog fid_laws_eqWire c_laws_eqWire = true := by kernel_rfl

end Go.Fd

/-
  SMALL WORDS FOR MARKS. Own work.
-/
namespace Go.Fd
theorem sset_ne {S : Sto} {id i : Oid} {ob : Ob} (h : i ≠ id) : sset S id ob i = S i := if_neg h
theorem mL_get {α : Type} {m : α → Int → α} {n : α → Nat} : ∀ {a : List α} {k : Int} {j : Nat} (h : j < a.length), (mL m n a k)[j]? = some (m a[j] (kJ n a k j))
  | [], _, _, h => by cases h
  | x :: r, k, 0, _ => by simp [mL, kJ, nL]
  | x :: r, k, j + 1, h => by
    simp only [mL, List.getElem?_cons_succ, List.getElem_cons_succ]
    rw [mL_get (by simpa using h)]
    simp only [kJ, List.take_succ_cons, nL]
    congr 2
    omega
theorem mL_row {α : Type} {c : α → List Tr} {m : α → Int → α} {n : α → Nat} {a : List α} {k : Int} {j : Nat} (h : j < a.length) : ((mL m n a k).map c)[j]? = some (c (m a[j] (kJ n a k j))) := by
  rw [List.getElem?_map, mL_get h]; rfl
theorem cut_mL {α : Type} {c : α → List Tr} {m : α → Int → α} {n : α → Nat} {a : List α} {k : Int} : cut ((mL m n a k).map c) 0 a.length = (mL m n a k).map c := by
  simp only [cut, List.drop_zero]
  exact List.take_of_length_le (by rw [List.length_map, mL_length]; exact Nat.le_refl _)
theorem cut_map {α : Type} {c : α → List Tr} {a : List α} : cut (a.map c) 0 a.length = a.map c := by
  simp only [cut, List.drop_zero]
  exact List.take_of_length_le (by rw [List.length_map]; exact Nat.le_refl _)
end Go.Fd

/-
  MARKING STRUCTS; WHETHER MARKS ARE HELD (printed by lawgen.py). Own work.
-/
namespace Go.Fd
set_option maxRecDepth 20000
def nBigraph (x : TBigraph) : Nat := nL nNode x.nodes + nL nInt x.sites + nL nStr x.outer + nL nWire x.inner
theorem sem_markBigraph (x : TBigraph) (k : Int) (lvl : Nat) (S : Sto) (i1 i2 i3 i4 : Oid) (k1 h1 v1 k2 h2 v2 k3 h3 v3 k4 h4 v4 : Nat) (c1 c2 c3 c4 : Option Nat) (l1 : i1.1 < lvl) (l2 : i2.1 < lvl) (l3 : i3.1 < lvl) (l4 : i4.1 < lvl) (n2_1 : i2 ≠ i1) (n3_1 : i3 ≠ i1) (n3_2 : i3 ≠ i2) (n4_1 : i4 ≠ i1) (n4_2 : i4 ≠ i2) (n4_3 : i4 ≠ i3) (s1 : S i1 = some (.ar k1 (x.nodes.map cNode) true h1 v1)) (s2 : S i2 = some (.ar k2 (rI x.sites) true h2 v2)) (s3 : S i3 = some (.ar k3 (rS x.outer) true h3 v3)) (s4 : S i4 = some (.ar k4 (x.inner.map cWire) true h4 v4)) (h0 : 0 ≤ k) (hk : k + nBigraph x ≤ 4611686018427387904) (hb : bdBigraph 4294967296 x) :
    Sem Go.Proofs.Tryz.prog fid_laws_markBigraph lvl [.ag [iI x.roots, .hd i1 [] 0 x.nodes.length c1 h1, .hd i2 [] 0 x.sites.length c2 h2, iI x.edges, .hd i3 [] 0 x.outer.length c3 h3, .hd i4 [] 0 x.inner.length c4 h4], iI k] S (iI (k + nBigraph x)) (sset (sset (sset (sset S i1 (.ar k1 (((mL mNode nNode x.nodes (k))).map cNode) true h1 v1)) i2 (.ar k2 (rI (mL mInt nInt x.sites (k + (nL nNode x.nodes : Nat)))) true h2 v2)) i3 (.ar k3 (rS (mL mStr nStr x.outer (k + (nL nNode x.nodes : Nat) + (nL nInt x.sites : Nat)))) true h3 v3)) i4 (.ar k4 (((mL mWire nWire x.inner (k + (nL nNode x.nodes : Nat) + (nL nInt x.sites : Nat) + (nL nStr x.outer : Nat)))).map cWire) true h4 v4)) := by
  obtain ⟨b0, b1, b2, b3, b4, b5, b6⟩ := hb
  have e1 : i1.1 ≠ lvl := by omega
  have e2 : i2.1 ≠ lvl := by omega
  have e3 : i3.1 ≠ lvl := by omega
  have e4 : i4.1 ≠ lvl := by omega
  simp only [nBigraph] at hk
  refine sem_of_chk k_laws_markBigraph trivial ?_
  simp only [c_laws_markBigraph, r_okmo e1, r_okmo e2, r_okmo e3, r_okmo e4, EVA, ↓reduceIte, Nat.reduceEqDiff, Nat.reduceMul, reduceCtorEq, Nat.reduceAdd, Nat.reduceSub, Nat.reduceLeDiff, Nat.reduceLT, Int.reduceToNat, Int.reduceLE, Int.reduceLT, mens, men]
  simp only [arg1]
  refine kcy_mark0 mark_NodeS l1 s1 (by omega) (by omega) b0 b1 ?_
  simp only [r_okmo e1, r_okmo e2, r_okmo e3, r_okmo e4, EVA, ↓reduceIte, Nat.reduceEqDiff, Nat.reduceMul, reduceCtorEq, Nat.reduceAdd, Nat.reduceSub, Nat.reduceLeDiff, Nat.reduceLT, Int.reduceToNat, Int.reduceLE, Int.reduceLT, mens, men]
  simp only [arg1]
  refine kcy_mark0 mark_IntS l2 (by rw [sset_ne n2_1]; exact s2) (by omega) (by omega) b2 (fun _ _ => trivial) ?_
  simp only [r_okmo e1, r_okmo e2, r_okmo e3, r_okmo e4, EVA, ↓reduceIte, Nat.reduceEqDiff, Nat.reduceMul, reduceCtorEq, Nat.reduceAdd, Nat.reduceSub, Nat.reduceLeDiff, Nat.reduceLT, Int.reduceToNat, Int.reduceLE, Int.reduceLT, mens, men]
  simp only [arg1]
  refine kcy_mark0 mark_StringS l3 (by rw [sset_ne n3_2, sset_ne n3_1]; exact s3) (by omega) (by omega) b3 b4 ?_
  simp only [r_okmo e1, r_okmo e2, r_okmo e3, r_okmo e4, EVA, ↓reduceIte, Nat.reduceEqDiff, Nat.reduceMul, reduceCtorEq, Nat.reduceAdd, Nat.reduceSub, Nat.reduceLeDiff, Nat.reduceLT, Int.reduceToNat, Int.reduceLE, Int.reduceLT, mens, men]
  simp only [arg1]
  refine kcy_mark0 mark_WireS l4 (by rw [sset_ne n4_3, sset_ne n4_2, sset_ne n4_1]; exact s4) (by omega) (by omega) b5 b6 ?_
  simp only [r_okmo e1, r_okmo e2, r_okmo e3, r_okmo e4, EVA, ↓reduceIte, Nat.reduceEqDiff, Nat.reduceMul, reduceCtorEq, Nat.reduceAdd, Nat.reduceSub, Nat.reduceLeDiff, Nat.reduceLT, Int.reduceToNat, Int.reduceLE, Int.reduceLT, mens, men]
  simp only [nBigraph, Int.natCast_add, ← Int.add_assoc]
  try exact ⟨rfl, rfl⟩
theorem kcy_markBigraph {x : TBigraph} {k : Int} {lvl a1 a2 a3 a4 : Nat} {out : Sto} {k1 h1 v1 k2 h2 v2 k3 h3 v3 k4 h4 v4 : Nat} {c1 c2 c3 c4 : Option Nat} {env : List (Nat × IV)} {loc : List (Nat × Ob)} {d : Option Nat} {K : St → Prop} (n2_1 : a2 ≠ a1) (n3_1 : a3 ≠ a1) (n3_2 : a3 ≠ a2) (n4_1 : a4 ≠ a1) (n4_2 : a4 ≠ a2) (n4_3 : a4 ≠ a3) (s1 : lkO a1 loc = some (.ar k1 (x.nodes.map cNode) true h1 v1)) (s2 : lkO a2 loc = some (.ar k2 (rI x.sites) true h2 v2)) (s3 : lkO a3 loc = some (.ar k3 (rS x.outer) true h3 v3)) (s4 : lkO a4 loc = some (.ar k4 (x.inner.map cWire) true h4 v4)) (h0 : 0 ≤ k) (hk : k + nBigraph x ≤ 4611686018427387904) (hb : bdBigraph 4294967296 x)
    (hK : K ⟨lvl, ptd d (iI (k + nBigraph x)) env, (ptO a4 (.ar k4 (((mL mWire nWire x.inner (k + (nL nNode x.nodes : Nat) + (nL nInt x.sites : Nat) + (nL nStr x.outer : Nat)))).map cWire) true h4 v4) (ptO a3 (.ar k3 (rS (mL mStr nStr x.outer (k + (nL nNode x.nodes : Nat) + (nL nInt x.sites : Nat)))) true h3 v3) (ptO a2 (.ar k2 (rI (mL mInt nInt x.sites (k + (nL nNode x.nodes : Nat)))) true h2 v2) (ptO a1 (.ar k1 (((mL mNode nNode x.nodes (k))).map cNode) true h1 v1) loc)))), out⟩) :
    kcy (Sem Go.Proofs.Tryz.prog) fid_laws_markBigraph true lvl env loc out d K [.ag [iI x.roots, .hd (lvl, a1) [] 0 x.nodes.length c1 h1, .hd (lvl, a2) [] 0 x.sites.length c2 h2, iI x.edges, .hd (lvl, a3) [] 0 x.outer.length c3 h3, .hd (lvl, a4) [] 0 x.inner.length c4 h4], iI k] := by
  refine kcy_intro (r := iI (k + nBigraph x)) (ptO a4 (.ar k4 (((mL mWire nWire x.inner (k + (nL nNode x.nodes : Nat) + (nL nInt x.sites : Nat) + (nL nStr x.outer : Nat)))).map cWire) true h4 v4) (ptO a3 (.ar k3 (rS (mL mStr nStr x.outer (k + (nL nNode x.nodes : Nat) + (nL nInt x.sites : Nat)))) true h3 v3) (ptO a2 (.ar k2 (rI (mL mInt nInt x.sites (k + (nL nNode x.nodes : Nat)))) true h2 v2) (ptO a1 (.ar k1 (((mL mNode nNode x.nodes (k))).map cNode) true h1 v1) loc)))) out (fun _ _ => rfl) ?_ ⟨trivial, hK⟩
  rw [packS_ptO, packS_ptO, packS_ptO, packS_ptO]
  exact sem_markBigraph x k (lvl + 1) _ (lvl, a1) (lvl, a2) (lvl, a3) (lvl, a4) k1 h1 v1 k2 h2 v2 k3 h3 v3 k4 h4 v4 c1 c2 c3 c4 (Nat.lt_succ_self _) (Nat.lt_succ_self _) (Nat.lt_succ_self _) (Nat.lt_succ_self _) (fun e => n2_1 (congrArg Prod.snd e)) (fun e => n3_1 (congrArg Prod.snd e)) (fun e => n3_2 (congrArg Prod.snd e)) (fun e => n4_1 (congrArg Prod.snd e)) (fun e => n4_2 (congrArg Prod.snd e)) (fun e => n4_3 (congrArg Prod.snd e)) (by rw [r_pack]; exact s1) (by rw [r_pack]; exact s2) (by rw [r_pack]; exact s3) (by rw [r_pack]; exact s4) h0 hk hb
def nSorting (x : TSorting) : Nat := nL nInt x.tops + nL nIntS x.nest + nL nIntS x.sorts + nL nInt x.most + nL nIntA2 x.apart
theorem sem_markSorting (x : TSorting) (k : Int) (lvl : Nat) (S : Sto) (i1 i2 i3 i4 i5 : Oid) (k1 h1 v1 k2 h2 v2 k3 h3 v3 k4 h4 v4 k5 h5 v5 : Nat) (c1 c2 c3 c4 c5 : Option Nat) (l1 : i1.1 < lvl) (l2 : i2.1 < lvl) (l3 : i3.1 < lvl) (l4 : i4.1 < lvl) (l5 : i5.1 < lvl) (n2_1 : i2 ≠ i1) (n3_1 : i3 ≠ i1) (n3_2 : i3 ≠ i2) (n4_1 : i4 ≠ i1) (n4_2 : i4 ≠ i2) (n4_3 : i4 ≠ i3) (n5_1 : i5 ≠ i1) (n5_2 : i5 ≠ i2) (n5_3 : i5 ≠ i3) (n5_4 : i5 ≠ i4) (s1 : S i1 = some (.ar k1 (rI x.tops) true h1 v1)) (s2 : S i2 = some (.ar k2 (x.nest.map (fun l => [Tr.sl (rI l)])) true h2 v2)) (s3 : S i3 = some (.ar k3 (x.sorts.map (fun l => [Tr.sl (rI l)])) true h3 v3)) (s4 : S i4 = some (.ar k4 (rI x.most) true h4 v4)) (s5 : S i5 = some (.ar k5 (x.apart.map cA2) true h5 v5)) (h0 : 0 ≤ k) (hk : k + nSorting x ≤ 4611686018427387904) (hb : bdSorting 4294967296 x) :
    Sem Go.Proofs.Tryz.prog fid_laws_markSorting lvl [.ag [.hd i1 [] 0 x.tops.length c1 h1, .hd i2 [] 0 x.nest.length c2 h2, .hd i3 [] 0 x.sorts.length c3 h3, .hd i4 [] 0 x.most.length c4 h4, .hd i5 [] 0 x.apart.length c5 h5], iI k] S (iI (k + nSorting x)) (sset (sset (sset (sset (sset S i1 (.ar k1 (rI (mL mInt nInt x.tops (k))) true h1 v1)) i2 (.ar k2 (((mL mIntS nIntS x.nest (k + (nL nInt x.tops : Nat)))).map (fun l => [Tr.sl (rI l)])) true h2 v2)) i3 (.ar k3 (((mL mIntS nIntS x.sorts (k + (nL nInt x.tops : Nat) + (nL nIntS x.nest : Nat)))).map (fun l => [Tr.sl (rI l)])) true h3 v3)) i4 (.ar k4 (rI (mL mInt nInt x.most (k + (nL nInt x.tops : Nat) + (nL nIntS x.nest : Nat) + (nL nIntS x.sorts : Nat)))) true h4 v4)) i5 (.ar k5 (((mL mIntA2 nIntA2 x.apart (k + (nL nInt x.tops : Nat) + (nL nIntS x.nest : Nat) + (nL nIntS x.sorts : Nat) + (nL nInt x.most : Nat)))).map cA2) true h5 v5)) := by
  obtain ⟨b0, b1, b2, b3, b4, b5, b6⟩ := hb
  have e1 : i1.1 ≠ lvl := by omega
  have e2 : i2.1 ≠ lvl := by omega
  have e3 : i3.1 ≠ lvl := by omega
  have e4 : i4.1 ≠ lvl := by omega
  have e5 : i5.1 ≠ lvl := by omega
  simp only [nSorting] at hk
  refine sem_of_chk k_laws_markSorting trivial ?_
  simp only [c_laws_markSorting, r_okmo e1, r_okmo e2, r_okmo e3, r_okmo e4, r_okmo e5, EVA, ↓reduceIte, Nat.reduceEqDiff, Nat.reduceMul, reduceCtorEq, Nat.reduceAdd, Nat.reduceSub, Nat.reduceLeDiff, Nat.reduceLT, Int.reduceToNat, Int.reduceLE, Int.reduceLT, mens, men]
  simp only [arg1]
  refine kcy_mark0 mark_IntS l1 s1 (by omega) (by omega) b0 (fun _ _ => trivial) ?_
  simp only [r_okmo e1, r_okmo e2, r_okmo e3, r_okmo e4, r_okmo e5, EVA, ↓reduceIte, Nat.reduceEqDiff, Nat.reduceMul, reduceCtorEq, Nat.reduceAdd, Nat.reduceSub, Nat.reduceLeDiff, Nat.reduceLT, Int.reduceToNat, Int.reduceLE, Int.reduceLT, mens, men]
  simp only [arg1]
  refine kcy_mark0 mark_IntSS l2 (by rw [sset_ne n2_1]; exact s2) (by omega) (by omega) b1 b2 ?_
  simp only [r_okmo e1, r_okmo e2, r_okmo e3, r_okmo e4, r_okmo e5, EVA, ↓reduceIte, Nat.reduceEqDiff, Nat.reduceMul, reduceCtorEq, Nat.reduceAdd, Nat.reduceSub, Nat.reduceLeDiff, Nat.reduceLT, Int.reduceToNat, Int.reduceLE, Int.reduceLT, mens, men]
  simp only [arg1]
  refine kcy_mark0 mark_IntSS l3 (by rw [sset_ne n3_2, sset_ne n3_1]; exact s3) (by omega) (by omega) b3 b4 ?_
  simp only [r_okmo e1, r_okmo e2, r_okmo e3, r_okmo e4, r_okmo e5, EVA, ↓reduceIte, Nat.reduceEqDiff, Nat.reduceMul, reduceCtorEq, Nat.reduceAdd, Nat.reduceSub, Nat.reduceLeDiff, Nat.reduceLT, Int.reduceToNat, Int.reduceLE, Int.reduceLT, mens, men]
  simp only [arg1]
  refine kcy_mark0 mark_IntS l4 (by rw [sset_ne n4_3, sset_ne n4_2, sset_ne n4_1]; exact s4) (by omega) (by omega) b5 (fun _ _ => trivial) ?_
  simp only [r_okmo e1, r_okmo e2, r_okmo e3, r_okmo e4, r_okmo e5, EVA, ↓reduceIte, Nat.reduceEqDiff, Nat.reduceMul, reduceCtorEq, Nat.reduceAdd, Nat.reduceSub, Nat.reduceLeDiff, Nat.reduceLT, Int.reduceToNat, Int.reduceLE, Int.reduceLT, mens, men]
  simp only [arg1]
  refine kcy_mark0 mark_IntA2S l5 (by rw [sset_ne n5_4, sset_ne n5_3, sset_ne n5_2, sset_ne n5_1]; exact s5) (by omega) (by omega) b6 (fun _ _ => trivial) ?_
  simp only [r_okmo e1, r_okmo e2, r_okmo e3, r_okmo e4, r_okmo e5, EVA, ↓reduceIte, Nat.reduceEqDiff, Nat.reduceMul, reduceCtorEq, Nat.reduceAdd, Nat.reduceSub, Nat.reduceLeDiff, Nat.reduceLT, Int.reduceToNat, Int.reduceLE, Int.reduceLT, mens, men]
  simp only [nSorting, Int.natCast_add, ← Int.add_assoc]
  try exact ⟨rfl, rfl⟩
theorem kcy_markSorting {x : TSorting} {k : Int} {lvl a1 a2 a3 a4 a5 : Nat} {out : Sto} {k1 h1 v1 k2 h2 v2 k3 h3 v3 k4 h4 v4 k5 h5 v5 : Nat} {c1 c2 c3 c4 c5 : Option Nat} {env : List (Nat × IV)} {loc : List (Nat × Ob)} {d : Option Nat} {K : St → Prop} (n2_1 : a2 ≠ a1) (n3_1 : a3 ≠ a1) (n3_2 : a3 ≠ a2) (n4_1 : a4 ≠ a1) (n4_2 : a4 ≠ a2) (n4_3 : a4 ≠ a3) (n5_1 : a5 ≠ a1) (n5_2 : a5 ≠ a2) (n5_3 : a5 ≠ a3) (n5_4 : a5 ≠ a4) (s1 : lkO a1 loc = some (.ar k1 (rI x.tops) true h1 v1)) (s2 : lkO a2 loc = some (.ar k2 (x.nest.map (fun l => [Tr.sl (rI l)])) true h2 v2)) (s3 : lkO a3 loc = some (.ar k3 (x.sorts.map (fun l => [Tr.sl (rI l)])) true h3 v3)) (s4 : lkO a4 loc = some (.ar k4 (rI x.most) true h4 v4)) (s5 : lkO a5 loc = some (.ar k5 (x.apart.map cA2) true h5 v5)) (h0 : 0 ≤ k) (hk : k + nSorting x ≤ 4611686018427387904) (hb : bdSorting 4294967296 x)
    (hK : K ⟨lvl, ptd d (iI (k + nSorting x)) env, (ptO a5 (.ar k5 (((mL mIntA2 nIntA2 x.apart (k + (nL nInt x.tops : Nat) + (nL nIntS x.nest : Nat) + (nL nIntS x.sorts : Nat) + (nL nInt x.most : Nat)))).map cA2) true h5 v5) (ptO a4 (.ar k4 (rI (mL mInt nInt x.most (k + (nL nInt x.tops : Nat) + (nL nIntS x.nest : Nat) + (nL nIntS x.sorts : Nat)))) true h4 v4) (ptO a3 (.ar k3 (((mL mIntS nIntS x.sorts (k + (nL nInt x.tops : Nat) + (nL nIntS x.nest : Nat)))).map (fun l => [Tr.sl (rI l)])) true h3 v3) (ptO a2 (.ar k2 (((mL mIntS nIntS x.nest (k + (nL nInt x.tops : Nat)))).map (fun l => [Tr.sl (rI l)])) true h2 v2) (ptO a1 (.ar k1 (rI (mL mInt nInt x.tops (k))) true h1 v1) loc))))), out⟩) :
    kcy (Sem Go.Proofs.Tryz.prog) fid_laws_markSorting true lvl env loc out d K [.ag [.hd (lvl, a1) [] 0 x.tops.length c1 h1, .hd (lvl, a2) [] 0 x.nest.length c2 h2, .hd (lvl, a3) [] 0 x.sorts.length c3 h3, .hd (lvl, a4) [] 0 x.most.length c4 h4, .hd (lvl, a5) [] 0 x.apart.length c5 h5], iI k] := by
  refine kcy_intro (r := iI (k + nSorting x)) (ptO a5 (.ar k5 (((mL mIntA2 nIntA2 x.apart (k + (nL nInt x.tops : Nat) + (nL nIntS x.nest : Nat) + (nL nIntS x.sorts : Nat) + (nL nInt x.most : Nat)))).map cA2) true h5 v5) (ptO a4 (.ar k4 (rI (mL mInt nInt x.most (k + (nL nInt x.tops : Nat) + (nL nIntS x.nest : Nat) + (nL nIntS x.sorts : Nat)))) true h4 v4) (ptO a3 (.ar k3 (((mL mIntS nIntS x.sorts (k + (nL nInt x.tops : Nat) + (nL nIntS x.nest : Nat)))).map (fun l => [Tr.sl (rI l)])) true h3 v3) (ptO a2 (.ar k2 (((mL mIntS nIntS x.nest (k + (nL nInt x.tops : Nat)))).map (fun l => [Tr.sl (rI l)])) true h2 v2) (ptO a1 (.ar k1 (rI (mL mInt nInt x.tops (k))) true h1 v1) loc))))) out (fun _ _ => rfl) ?_ ⟨trivial, hK⟩
  rw [packS_ptO, packS_ptO, packS_ptO, packS_ptO, packS_ptO]
  exact sem_markSorting x k (lvl + 1) _ (lvl, a1) (lvl, a2) (lvl, a3) (lvl, a4) (lvl, a5) k1 h1 v1 k2 h2 v2 k3 h3 v3 k4 h4 v4 k5 h5 v5 c1 c2 c3 c4 c5 (Nat.lt_succ_self _) (Nat.lt_succ_self _) (Nat.lt_succ_self _) (Nat.lt_succ_self _) (Nat.lt_succ_self _) (fun e => n2_1 (congrArg Prod.snd e)) (fun e => n3_1 (congrArg Prod.snd e)) (fun e => n3_2 (congrArg Prod.snd e)) (fun e => n4_1 (congrArg Prod.snd e)) (fun e => n4_2 (congrArg Prod.snd e)) (fun e => n4_3 (congrArg Prod.snd e)) (fun e => n5_1 (congrArg Prod.snd e)) (fun e => n5_2 (congrArg Prod.snd e)) (fun e => n5_3 (congrArg Prod.snd e)) (fun e => n5_4 (congrArg Prod.snd e)) (by rw [r_pack]; exact s1) (by rw [r_pack]; exact s2) (by rw [r_pack]; exact s3) (by rw [r_pack]; exact s4) (by rw [r_pack]; exact s5) h0 hk hb
theorem held_FaultS (a : List TFault) (k : Int) (hl : a.length ≤ 4294967296) (h0 : 0 ≤ k) (hk : k + nL nFault a ≤ 4611686018427387904) (lvl : Nat) (S : Sto) : Sem Go.Proofs.Tryz.prog fid_laws_heldFaultS lvl [.tr (.sl (((mL mFault nFault a k)).map cFault)), iI k] S (iI (k + nL nFault a)) S := by
  refine sem_of_chk k_laws_heldFaultS trivial ?_
  simp only [c_laws_heldFaultS, EVA, ↓reduceIte, Nat.reduceEqDiff, Nat.reduceMul, reduceCtorEq, Nat.reduceAdd, Nat.reduceSub, Nat.reduceLeDiff, Nat.reduceLT, Int.reduceToNat, Int.reduceLE, Int.reduceLT, mens, men]
  refine wp_count (α := Unit) a.length (fun j _ => ⟨lvl, [(0, .tr (.sl (((mL mFault nFault a k)).map cFault))), (1, iI (kJ nFault a k j)), (5, iI j)], [], S⟩) (fun _ _ => True) () ⟨by simp only [EVA, ↓reduceIte, Nat.reduceEqDiff, Nat.reduceMul, reduceCtorEq, Nat.reduceAdd, Nat.reduceSub, Nat.reduceLeDiff, Nat.reduceLT, Int.reduceToNat, Int.reduceLE, Int.reduceLT, mens, men], by (simp only [kJ_zero, EVA, ↓reduceIte, Nat.reduceEqDiff, Nat.reduceMul, reduceCtorEq, Nat.reduceAdd, Nat.reduceSub, Nat.reduceLeDiff, Nat.reduceLT, Int.reduceToNat, Int.reduceLE, Int.reduceLT, mens, men]) <;> rfl⟩ trivial ?_
  intro j _ hj _
  simp only [List.length_map, mL_length, EVA, ↓reduceIte, Nat.reduceEqDiff, Nat.reduceMul, reduceCtorEq, Nat.reduceAdd, Nat.reduceSub, Nat.reduceLeDiff, Nat.reduceLT, Int.reduceToNat, Int.reduceLE, Int.reduceLT, mens, men]
  refine ite_of (fun hlt => ?_) (fun hge => ?_)
  · have hja : j < a.length := by omega
    have ga := mL_row (c := cFault) (m := mFault) (n := nFault) (k := k) hja
    have hge2 := kJ_le nFault (a := a) (k := k) (j := j + 1)
    rw [kJ_succ nFault hja] at hge2
    have hge3 := kJ_ge nFault (a := a) (k := k) (j := j)
    try simp only [nFault] at hge2
    simp only [ga, cFault, mFault, mInt, mStr, Nat.zero_add, hja, ne_eq, not_true_eq_false, EVA, ↓reduceIte, Nat.reduceEqDiff, Nat.reduceMul, reduceCtorEq, Nat.reduceAdd, Nat.reduceSub, Nat.reduceLeDiff, Nat.reduceLT, Int.reduceToNat, Int.reduceLE, Int.reduceLT, mens, men]
    refine ⟨by rw [fits_i64]; omega, ⟨by rw [fits_i64]; omega, ⟨by rw [fits_i64]; omega, ⟨by rw [fits_i64]; omega, cntJ_intro () hja ?_ trivial⟩⟩⟩⟩
    rw [kJ_succ nFault hja]
    simp only [nFault, Int.natCast_add, Int.natCast_one, Int.add_assoc]
    try rfl
  · have : j = a.length := by omega
    subst this
    rw [kJ_all]
end Go.Fd

/-
  HOW MANY MARKS A THING TAKES, AGAINST ITS SIZE (printed by lawgen.py). Own work.
-/
namespace Go.Fd
theorem zqNode (x : TNode) : Zq 256 (fun l => szNode x l) (nNode x) := Zq_imp (Zq_th (by omega) (by omega) (Zq_N nInt (fun _ => (by decide : 1 ≤ 256)) x.links) Zq_id) (by simp only [nNode]; omega)
theorem zqWire (x : TWire) : Zq 256 (fun l => szWire x l) (nWire x) := Zq_imp (Zq_th (by omega) (by omega) (Zq_str x.name.size) Zq_id) (by simp only [nWire]; omega)
theorem zqBigraph (x : TBigraph) : Zq 0 (fun l => szBigraph x l) (nBigraph x) := Zq_imp (Zq_th (by omega) (by omega) (Zq_L (n := nNode) (fun y => Zq_imp (zqNode y) (by omega)) x.nodes) (Zq_th (by omega) (by omega) (Zq_N nInt (fun _ => (by decide : 1 ≤ 256)) x.sites) (Zq_th (by omega) (by omega) (Zq_L (n := nStr) (fun y => Zq_str1 y.size) x.outer) (Zq_th (by omega) (by omega) (Zq_L (n := nWire) (fun y => Zq_imp (zqWire y) (by omega)) x.inner) Zq_id)))) (by simp only [nBigraph]; omega)
theorem zqSorting (x : TSorting) : Zq 0 (fun l => szSorting x l) (nSorting x) := Zq_imp (Zq_th (by omega) (by omega) (Zq_N nInt (fun _ => (by decide : 1 ≤ 256)) x.tops) (Zq_th (by omega) (by omega) (Zq_L (n := nIntS) (fun y => Zq_imp (Zq_N nInt (fun _ => (by decide : 1 ≤ 256)) y) (by simp only [nIntS]; omega)) x.nest) (Zq_th (by omega) (by omega) (Zq_L (n := nIntS) (fun y => Zq_imp (Zq_N nInt (fun _ => (by decide : 1 ≤ 256)) y) (by simp only [nIntS]; omega)) x.sorts) (Zq_th (by omega) (by omega) (Zq_N nInt (fun _ => (by decide : 1 ≤ 256)) x.most) (Zq_th (by omega) (by omega) (Zq_N nIntA2 (fun _ => (by decide : 1 + 1 ≤ 256)) x.apart) Zq_id))))) (by simp only [nSorting]; omega)
theorem zqControl (x : TControl) : Zq 256 (fun l => szControl x l) (nControl x) := Zq_imp (Zq_th (by omega) (by omega) (Zq_str x.name.size) Zq_id) (by simp only [nControl]; omega)
end Go.Fd

/-
  WHAT HOLDS OF THE HELPERS OF THE LAWS (printed by lawgen.py). Own work.
-/
namespace Go.Fd
set_option maxRecDepth 20000
theorem szN_le {n : Nat} {l : Int} (h : 0 ≤ l) : szN n l ≤ l := by unfold szN; split <;> omega
theorem szF_le {α : Type} {f : α → Int → Int} : ∀ (a : List α) (l : Int), (∀ x ∈ a, ∀ l : Int, 0 ≤ l → l ≤ 1048576 → f x l ≤ l) → 0 ≤ l → l ≤ 1048576 → szF f a l ≤ l
  | [], l, _, _, _ => Int.le_refl l
  | x :: r, l, hf, h0, h1 => by
    simp only [szF]
    have := hf x (by simp) l h0 h1
    split
    · omega
    · have h2 := szF_le r (f x l) (fun y hy => hf y (by simp [hy])) (by omega) (by omega)
      omega
theorem szL_le {α : Type} {f : α → Int → Int} (a : List α) {l : Int} (hf : ∀ x ∈ a, ∀ l : Int, 0 ≤ l → l ≤ 1048576 → f x l ≤ l) (h0 : 0 ≤ l) (h1 : l ≤ 1048576) : szL f a l ≤ l := by
  unfold szL
  split
  · omega
  · have := szF_le a (l - a.length) hf (by omega) (by omega)
    omega
theorem szTh_le {l m : Int} {g : Int → Int} (h0 : 0 ≤ l) (h : m ≤ l) (hg : 0 ≤ m → g m ≤ m) : szTh m g ≤ l := by
  unfold szTh
  split
  · omega
  · have := hg (by omega)
    omega
theorem g_szIntS : chkF Go.Proofs.Tryz.prog fid_laws_szIntS sz0 = true := by kernel_rfl
theorem sem_szIntS (a : List Int) (hl : a.length ≤ 9223372036854775807) (l : Int) (h0 : 0 ≤ l) (h1 : l ≤ 1048576) : szN a.length l ≤ l ∧ ∀ lvl S, Sem Go.Proofs.Tryz.prog fid_laws_szIntS lvl [.tr (.sl (rI a)), iI l] S (iI (szN a.length l)) S := by
  refine ⟨szN_le h0, fun lvl S => ?_⟩
  have := sem_sz0 g_szIntS (rI a) l (by simpa using hl) h0 h1 lvl S
  simpa using this
theorem sem_szNode (x : TNode) (hb : bdNode 9223372036854775807 x) (l : Int) (h0 : 0 ≤ l) (h1 : l ≤ 1048576) : szNode x l ≤ l ∧ ∀ lvl S, Sem Go.Proofs.Tryz.prog fid_laws_szNode lvl [.ag ((cNode x).map .tr), iI l] S (iI (szNode x l)) S := by
  have b0 : x.links.length ≤ 9223372036854775807 := hb
  refine ⟨?_, fun lvl S => ?_⟩
  · unfold szNode
    have q0 := sem_szIntS x.links b0 _ h0 h1
    refine szTh_le h0 q0.1 (fun p0 => ?_)
    have r0 : _ ≤ (1048576 : Int) := Int.le_trans q0.1 h1
    exact Int.le_refl _
  · refine sem_of_chk k_laws_szNode trivial ?_
    simp only [c_laws_szNode, cNode, List.map_cons, List.map_nil, EVA, ↓reduceIte, Nat.reduceEqDiff, Nat.reduceMul, reduceCtorEq, Nat.reduceAdd, Nat.reduceSub, Nat.reduceLeDiff, Nat.reduceLT, Int.reduceToNat, Int.reduceLE, Int.reduceLT, mens, men]
    unfold szNode
    have q0 := sem_szIntS x.links b0 l h0 h1
    refine kca_intro q0.2 ?_
    simp only [EVA, ↓reduceIte, Nat.reduceEqDiff, Nat.reduceMul, reduceCtorEq, Nat.reduceAdd, Nat.reduceSub, Nat.reduceLeDiff, Nat.reduceLT, Int.reduceToNat, Int.reduceLE, Int.reduceLT, mens, men]
    obtain ⟨l1, hl1⟩ : ∃ m : Int, m = (szN x.links.length l) := ⟨_, rfl⟩
    have u1 : l1 ≤ l := by rw [hl1]; exact q0.1
    rw [← hl1]
    split
    · rename_i hn; rw [szTh, if_pos hn]
    rename_i hn0
    rw [szTh, if_neg hn0]
theorem g_szNodeS : chkF Go.Proofs.Tryz.prog fid_laws_szNodeS (szSl 3 (some 3) fid_laws_szNode) = true := by kernel_rfl
theorem sem_szNodeS (a : List TNode) (hl : a.length ≤ 9223372036854775807) (hb : ∀ y ∈ a, bdNode 9223372036854775807 y) (l : Int) (h0 : 0 ≤ l) (h1 : l ≤ 1048576) : szL szNode a l ≤ l ∧ ∀ lvl S, Sem Go.Proofs.Tryz.prog fid_laws_szNodeS lvl [.tr (.sl (a.map cNode)), iI l] S (iI (szL szNode a l)) S :=
  ⟨szL_le a (fun x hx l h0 h1 => (sem_szNode x (hb x hx) l h0 h1).1) h0 h1, fun lvl S => sem_szSl g_szNodeS cNode szNode cNode_len a l hl h0 h1 (fun x hx l h0 h1 => sem_szNode x (hb x hx) l h0 h1) lvl S⟩
theorem sem_szWire (x : TWire) (hb : bdWire 9223372036854775807 x) (l : Int) (h0 : 0 ≤ l) (h1 : l ≤ 1048576) : szWire x l ≤ l ∧ ∀ lvl S, Sem Go.Proofs.Tryz.prog fid_laws_szWire lvl [.ag ((cWire x).map .tr), iI l] S (iI (szWire x l)) S := by
  have b0 : x.name.size ≤ 9223372036854775807 := hb
  refine ⟨?_, fun lvl S => ?_⟩
  · unfold szWire
    refine szTh_le h0 (m := l - x.name.size) (by omega) (fun p0 => ?_)
    have r0 : _ ≤ (1048576 : Int) := Int.le_trans (show l - x.name.size ≤ l by omega) h1
    exact Int.le_refl _
  · refine sem_of_chk k_laws_szWire trivial ?_
    simp only [c_laws_szWire, cWire, List.map_cons, List.map_nil, EVA, ↓reduceIte, Nat.reduceEqDiff, Nat.reduceMul, reduceCtorEq, Nat.reduceAdd, Nat.reduceSub, Nat.reduceLeDiff, Nat.reduceLT, Int.reduceToNat, Int.reduceLE, Int.reduceLT, mens, men]
    unfold szWire
    refine ⟨by rw [fits_i64]; omega, ?_⟩
    obtain ⟨l1, hl1⟩ : ∃ m : Int, m = l - x.name.size := ⟨_, rfl⟩
    have u1 : l1 ≤ l := by omega
    rw [← hl1]
    split
    · rename_i hn; rw [szTh, if_pos hn]
    rename_i hn0
    rw [szTh, if_neg hn0]
theorem g_szWireS : chkF Go.Proofs.Tryz.prog fid_laws_szWireS (szSl 2 (some 2) fid_laws_szWire) = true := by kernel_rfl
theorem sem_szWireS (a : List TWire) (hl : a.length ≤ 9223372036854775807) (hb : ∀ y ∈ a, bdWire 9223372036854775807 y) (l : Int) (h0 : 0 ≤ l) (h1 : l ≤ 1048576) : szL szWire a l ≤ l ∧ ∀ lvl S, Sem Go.Proofs.Tryz.prog fid_laws_szWireS lvl [.tr (.sl (a.map cWire)), iI l] S (iI (szL szWire a l)) S :=
  ⟨szL_le a (fun x hx l h0 h1 => (sem_szWire x (hb x hx) l h0 h1).1) h0 h1, fun lvl S => sem_szSl g_szWireS cWire szWire cWire_len a l hl h0 h1 (fun x hx l h0 h1 => sem_szWire x (hb x hx) l h0 h1) lvl S⟩
theorem g_szStringS : chkF Go.Proofs.Tryz.prog fid_laws_szStringS szSt = true := by kernel_rfl
theorem sem_szStringS (a : List ByteArray) (hl : a.length ≤ 9223372036854775807) (hb : ∀ y ∈ a, y.size ≤ 9223372036854775807) (l : Int) (h0 : 0 ≤ l) (h1 : l ≤ 1048576) : szL (fun x m => m - x.size) a l ≤ l ∧ ∀ lvl S, Sem Go.Proofs.Tryz.prog fid_laws_szStringS lvl [tS a, iI l] S (iI (szL (fun x m => m - x.size) a l)) S :=
  ⟨szL_le a (fun x _ l _ _ => by omega) h0 h1, fun lvl S => sem_szSt g_szStringS a l hl h0 h1 hb lvl S⟩
theorem sem_szBigraph (x : TBigraph) (hb : bdBigraph 9223372036854775807 x) (l : Int) (h0 : 0 ≤ l) (h1 : l ≤ 1048576) : szBigraph x l ≤ l ∧ ∀ lvl S, Sem Go.Proofs.Tryz.prog fid_laws_szBigraph lvl [.ag ((cBigraph x).map .tr), iI l] S (iI (szBigraph x l)) S := by
  obtain ⟨b0, b1, b2, b3, b4, b5, b6⟩ := hb
  refine ⟨?_, fun lvl S => ?_⟩
  · unfold szBigraph
    have q0 := sem_szNodeS x.nodes b0 b1 _ h0 h1
    refine szTh_le h0 q0.1 (fun p0 => ?_)
    have r0 : _ ≤ (1048576 : Int) := Int.le_trans q0.1 h1
    have q1 := sem_szIntS x.sites b2 _ p0 r0
    refine szTh_le p0 q1.1 (fun p1 => ?_)
    have r1 : _ ≤ (1048576 : Int) := Int.le_trans q1.1 r0
    have q2 := sem_szStringS x.outer b3 b4 _ p1 r1
    refine szTh_le p1 q2.1 (fun p2 => ?_)
    have r2 : _ ≤ (1048576 : Int) := Int.le_trans q2.1 r1
    have q3 := sem_szWireS x.inner b5 b6 _ p2 r2
    refine szTh_le p2 q3.1 (fun p3 => ?_)
    have r3 : _ ≤ (1048576 : Int) := Int.le_trans q3.1 r2
    exact Int.le_refl _
  · refine sem_of_chk k_laws_szBigraph trivial ?_
    simp only [c_laws_szBigraph, cBigraph, List.map_cons, List.map_nil, EVA, ↓reduceIte, Nat.reduceEqDiff, Nat.reduceMul, reduceCtorEq, Nat.reduceAdd, Nat.reduceSub, Nat.reduceLeDiff, Nat.reduceLT, Int.reduceToNat, Int.reduceLE, Int.reduceLT, mens, men]
    unfold szBigraph
    have q0 := sem_szNodeS x.nodes b0 b1 l h0 h1
    refine kca_intro q0.2 ?_
    simp only [EVA, ↓reduceIte, Nat.reduceEqDiff, Nat.reduceMul, reduceCtorEq, Nat.reduceAdd, Nat.reduceSub, Nat.reduceLeDiff, Nat.reduceLT, Int.reduceToNat, Int.reduceLE, Int.reduceLT, mens, men]
    obtain ⟨l1, hl1⟩ : ∃ m : Int, m = (szL szNode x.nodes l) := ⟨_, rfl⟩
    have u1 : l1 ≤ l := by rw [hl1]; exact q0.1
    rw [← hl1]
    split
    · rename_i hn; rw [szTh, if_pos hn]
    rename_i hn0
    rw [szTh, if_neg hn0]
    have q1 := sem_szIntS x.sites b2 l1 (show 0 ≤ l1 by omega) (show l1 ≤ 1048576 by omega)
    refine kca_intro q1.2 ?_
    simp only [EVA, ↓reduceIte, Nat.reduceEqDiff, Nat.reduceMul, reduceCtorEq, Nat.reduceAdd, Nat.reduceSub, Nat.reduceLeDiff, Nat.reduceLT, Int.reduceToNat, Int.reduceLE, Int.reduceLT, mens, men]
    obtain ⟨l2, hl2⟩ : ∃ m : Int, m = (szN x.sites.length l1) := ⟨_, rfl⟩
    have u2 : l2 ≤ l1 := by rw [hl2]; exact q1.1
    rw [← hl2]
    split
    · rename_i hn; rw [szTh, if_pos hn]
    rename_i hn1
    rw [szTh, if_neg hn1]
    have q2 := sem_szStringS x.outer b3 b4 l2 (show 0 ≤ l2 by omega) (show l2 ≤ 1048576 by omega)
    refine kca_intro q2.2 ?_
    simp only [EVA, ↓reduceIte, Nat.reduceEqDiff, Nat.reduceMul, reduceCtorEq, Nat.reduceAdd, Nat.reduceSub, Nat.reduceLeDiff, Nat.reduceLT, Int.reduceToNat, Int.reduceLE, Int.reduceLT, mens, men]
    obtain ⟨l3, hl3⟩ : ∃ m : Int, m = (szL (fun x m => m - x.size) x.outer l2) := ⟨_, rfl⟩
    have u3 : l3 ≤ l2 := by rw [hl3]; exact q2.1
    rw [← hl3]
    split
    · rename_i hn; rw [szTh, if_pos hn]
    rename_i hn2
    rw [szTh, if_neg hn2]
    have q3 := sem_szWireS x.inner b5 b6 l3 (show 0 ≤ l3 by omega) (show l3 ≤ 1048576 by omega)
    refine kca_intro q3.2 ?_
    simp only [EVA, ↓reduceIte, Nat.reduceEqDiff, Nat.reduceMul, reduceCtorEq, Nat.reduceAdd, Nat.reduceSub, Nat.reduceLeDiff, Nat.reduceLT, Int.reduceToNat, Int.reduceLE, Int.reduceLT, mens, men]
    obtain ⟨l4, hl4⟩ : ∃ m : Int, m = (szL szWire x.inner l3) := ⟨_, rfl⟩
    have u4 : l4 ≤ l3 := by rw [hl4]; exact q3.1
    rw [← hl4]
    split
    · rename_i hn; rw [szTh, if_pos hn]
    rename_i hn3
    rw [szTh, if_neg hn3]
theorem g_szIntSS : chkF Go.Proofs.Tryz.prog fid_laws_szIntSS (szSl 1 none fid_laws_szIntS) = true := by kernel_rfl
theorem sem_szIntSS (a : (List (List Int))) (hl : a.length ≤ 9223372036854775807) (hb : ∀ y ∈ a, y.length ≤ 9223372036854775807) (l : Int) (h0 : 0 ≤ l) (h1 : l ≤ 1048576) : szL (fun x m => (szN x.length m)) a l ≤ l ∧ ∀ lvl S, Sem Go.Proofs.Tryz.prog fid_laws_szIntSS lvl [.tr (.sl (a.map (fun l => [Tr.sl (rI l)]))), iI l] S (iI (szL (fun x m => (szN x.length m)) a l)) S :=
  ⟨szL_le a (fun x hx l h0 h1 => (sem_szIntS x (hb x hx) l h0 h1).1) h0 h1, fun lvl S => sem_szS1 g_szIntSS (fun l => Tr.sl (rI l)) (fun x m => (szN x.length m)) a l hl h0 h1 (fun x hx l h0 h1 => sem_szIntS x (hb x hx) l h0 h1) lvl S⟩
theorem g_szIntA2S : chkF Go.Proofs.Tryz.prog fid_laws_szIntA2S sz0 = true := by kernel_rfl
theorem sem_szIntA2S (a : List (Int × Int)) (hl : a.length ≤ 9223372036854775807) (l : Int) (h0 : 0 ≤ l) (h1 : l ≤ 1048576) : szN a.length l ≤ l ∧ ∀ lvl S, Sem Go.Proofs.Tryz.prog fid_laws_szIntA2S lvl [.tr (.sl (a.map cA2)), iI l] S (iI (szN a.length l)) S := by
  refine ⟨szN_le h0, fun lvl S => ?_⟩
  have := sem_sz0 g_szIntA2S (a.map cA2) l (by simpa using hl) h0 h1 lvl S
  simpa using this
theorem sem_szSorting (x : TSorting) (hb : bdSorting 9223372036854775807 x) (l : Int) (h0 : 0 ≤ l) (h1 : l ≤ 1048576) : szSorting x l ≤ l ∧ ∀ lvl S, Sem Go.Proofs.Tryz.prog fid_laws_szSorting lvl [.ag ((cSorting x).map .tr), iI l] S (iI (szSorting x l)) S := by
  obtain ⟨b0, b1, b2, b3, b4, b5, b6⟩ := hb
  refine ⟨?_, fun lvl S => ?_⟩
  · unfold szSorting
    have q0 := sem_szIntS x.tops b0 _ h0 h1
    refine szTh_le h0 q0.1 (fun p0 => ?_)
    have r0 : _ ≤ (1048576 : Int) := Int.le_trans q0.1 h1
    have q1 := sem_szIntSS x.nest b1 b2 _ p0 r0
    refine szTh_le p0 q1.1 (fun p1 => ?_)
    have r1 : _ ≤ (1048576 : Int) := Int.le_trans q1.1 r0
    have q2 := sem_szIntSS x.sorts b3 b4 _ p1 r1
    refine szTh_le p1 q2.1 (fun p2 => ?_)
    have r2 : _ ≤ (1048576 : Int) := Int.le_trans q2.1 r1
    have q3 := sem_szIntS x.most b5 _ p2 r2
    refine szTh_le p2 q3.1 (fun p3 => ?_)
    have r3 : _ ≤ (1048576 : Int) := Int.le_trans q3.1 r2
    have q4 := sem_szIntA2S x.apart b6 _ p3 r3
    refine szTh_le p3 q4.1 (fun p4 => ?_)
    have r4 : _ ≤ (1048576 : Int) := Int.le_trans q4.1 r3
    exact Int.le_refl _
  · refine sem_of_chk k_laws_szSorting trivial ?_
    simp only [c_laws_szSorting, cSorting, List.map_cons, List.map_nil, EVA, ↓reduceIte, Nat.reduceEqDiff, Nat.reduceMul, reduceCtorEq, Nat.reduceAdd, Nat.reduceSub, Nat.reduceLeDiff, Nat.reduceLT, Int.reduceToNat, Int.reduceLE, Int.reduceLT, mens, men]
    unfold szSorting
    have q0 := sem_szIntS x.tops b0 l h0 h1
    refine kca_intro q0.2 ?_
    simp only [EVA, ↓reduceIte, Nat.reduceEqDiff, Nat.reduceMul, reduceCtorEq, Nat.reduceAdd, Nat.reduceSub, Nat.reduceLeDiff, Nat.reduceLT, Int.reduceToNat, Int.reduceLE, Int.reduceLT, mens, men]
    obtain ⟨l1, hl1⟩ : ∃ m : Int, m = (szN x.tops.length l) := ⟨_, rfl⟩
    have u1 : l1 ≤ l := by rw [hl1]; exact q0.1
    rw [← hl1]
    split
    · rename_i hn; rw [szTh, if_pos hn]
    rename_i hn0
    rw [szTh, if_neg hn0]
    have q1 := sem_szIntSS x.nest b1 b2 l1 (show 0 ≤ l1 by omega) (show l1 ≤ 1048576 by omega)
    refine kca_intro q1.2 ?_
    simp only [EVA, ↓reduceIte, Nat.reduceEqDiff, Nat.reduceMul, reduceCtorEq, Nat.reduceAdd, Nat.reduceSub, Nat.reduceLeDiff, Nat.reduceLT, Int.reduceToNat, Int.reduceLE, Int.reduceLT, mens, men]
    obtain ⟨l2, hl2⟩ : ∃ m : Int, m = (szL (fun x m => (szN x.length m)) x.nest l1) := ⟨_, rfl⟩
    have u2 : l2 ≤ l1 := by rw [hl2]; exact q1.1
    rw [← hl2]
    split
    · rename_i hn; rw [szTh, if_pos hn]
    rename_i hn1
    rw [szTh, if_neg hn1]
    have q2 := sem_szIntSS x.sorts b3 b4 l2 (show 0 ≤ l2 by omega) (show l2 ≤ 1048576 by omega)
    refine kca_intro q2.2 ?_
    simp only [EVA, ↓reduceIte, Nat.reduceEqDiff, Nat.reduceMul, reduceCtorEq, Nat.reduceAdd, Nat.reduceSub, Nat.reduceLeDiff, Nat.reduceLT, Int.reduceToNat, Int.reduceLE, Int.reduceLT, mens, men]
    obtain ⟨l3, hl3⟩ : ∃ m : Int, m = (szL (fun x m => (szN x.length m)) x.sorts l2) := ⟨_, rfl⟩
    have u3 : l3 ≤ l2 := by rw [hl3]; exact q2.1
    rw [← hl3]
    split
    · rename_i hn; rw [szTh, if_pos hn]
    rename_i hn2
    rw [szTh, if_neg hn2]
    have q3 := sem_szIntS x.most b5 l3 (show 0 ≤ l3 by omega) (show l3 ≤ 1048576 by omega)
    refine kca_intro q3.2 ?_
    simp only [EVA, ↓reduceIte, Nat.reduceEqDiff, Nat.reduceMul, reduceCtorEq, Nat.reduceAdd, Nat.reduceSub, Nat.reduceLeDiff, Nat.reduceLT, Int.reduceToNat, Int.reduceLE, Int.reduceLT, mens, men]
    obtain ⟨l4, hl4⟩ : ∃ m : Int, m = (szN x.most.length l3) := ⟨_, rfl⟩
    have u4 : l4 ≤ l3 := by rw [hl4]; exact q3.1
    rw [← hl4]
    split
    · rename_i hn; rw [szTh, if_pos hn]
    rename_i hn3
    rw [szTh, if_neg hn3]
    have q4 := sem_szIntA2S x.apart b6 l4 (show 0 ≤ l4 by omega) (show l4 ≤ 1048576 by omega)
    refine kca_intro q4.2 ?_
    simp only [EVA, ↓reduceIte, Nat.reduceEqDiff, Nat.reduceMul, reduceCtorEq, Nat.reduceAdd, Nat.reduceSub, Nat.reduceLeDiff, Nat.reduceLT, Int.reduceToNat, Int.reduceLE, Int.reduceLT, mens, men]
    obtain ⟨l5, hl5⟩ : ∃ m : Int, m = (szN x.apart.length l4) := ⟨_, rfl⟩
    have u5 : l5 ≤ l4 := by rw [hl5]; exact q4.1
    rw [← hl5]
    split
    · rename_i hn; rw [szTh, if_pos hn]
    rename_i hn4
    rw [szTh, if_neg hn4]
theorem sem_szControl (x : TControl) (hb : bdControl 9223372036854775807 x) (l : Int) (h0 : 0 ≤ l) (h1 : l ≤ 1048576) : szControl x l ≤ l ∧ ∀ lvl S, Sem Go.Proofs.Tryz.prog fid_laws_szControl lvl [.ag ((cControl x).map .tr), iI l] S (iI (szControl x l)) S := by
  have b0 : x.name.size ≤ 9223372036854775807 := hb
  refine ⟨?_, fun lvl S => ?_⟩
  · unfold szControl
    refine szTh_le h0 (m := l - x.name.size) (by omega) (fun p0 => ?_)
    have r0 : _ ≤ (1048576 : Int) := Int.le_trans (show l - x.name.size ≤ l by omega) h1
    exact Int.le_refl _
  · refine sem_of_chk k_laws_szControl trivial ?_
    simp only [c_laws_szControl, cControl, List.map_cons, List.map_nil, EVA, ↓reduceIte, Nat.reduceEqDiff, Nat.reduceMul, reduceCtorEq, Nat.reduceAdd, Nat.reduceSub, Nat.reduceLeDiff, Nat.reduceLT, Int.reduceToNat, Int.reduceLE, Int.reduceLT, mens, men]
    unfold szControl
    refine ⟨by rw [fits_i64]; omega, ?_⟩
    obtain ⟨l1, hl1⟩ : ∃ m : Int, m = l - x.name.size := ⟨_, rfl⟩
    have u1 : l1 ≤ l := by omega
    rw [← hl1]
    split
    · rename_i hn; rw [szTh, if_pos hn]
    rename_i hn0
    rw [szTh, if_neg hn0]
theorem g_szControlS : chkF Go.Proofs.Tryz.prog fid_laws_szControlS (szSl 3 (some 3) fid_laws_szControl) = true := by kernel_rfl
theorem sem_szControlS (a : List TControl) (hl : a.length ≤ 9223372036854775807) (hb : ∀ y ∈ a, bdControl 9223372036854775807 y) (l : Int) (h0 : 0 ≤ l) (h1 : l ≤ 1048576) : szL szControl a l ≤ l ∧ ∀ lvl S, Sem Go.Proofs.Tryz.prog fid_laws_szControlS lvl [.tr (.sl (a.map cControl)), iI l] S (iI (szL szControl a l)) S :=
  ⟨szL_le a (fun x hx l h0 h1 => (sem_szControl x (hb x hx) l h0 h1).1) h0 h1, fun lvl S => sem_szSl g_szControlS cControl szControl cControl_len a l hl h0 h1 (fun x hx l h0 h1 => sem_szControl x (hb x hx) l h0 h1) lvl S⟩
end Go.Fd

/-
  WHAT HOLDS OF THE HELPERS OF THE LAWS: eq.. (printed by lawgen.py). Own work.
-/
namespace Go.Fd
set_option maxRecDepth 20000
theorem g_eqIntS : chkF Go.Proofs.Tryz.prog fid_laws_eqIntS eqS1 = true := by kernel_rfl
theorem sem_eqIntS (a b : (List Int)) (ha : a.length ≤ 9223372036854775807) (lvl : Nat) (S : Sto) : Sem Go.Proofs.Tryz.prog fid_laws_eqIntS lvl [.tr (.sl (rI a)), .tr (.sl (rI b))] S (iB (decide (a = b))) S := sem_eqI g_eqIntS a b ha lvl S
theorem sem_eqNode (x y : TNode) (hb : bdNode 9223372036854775807 x) (lvl : Nat) (S : Sto) : Sem Go.Proofs.Tryz.prog fid_laws_eqNode lvl [.ag ((cNode x).map .tr), .ag ((cNode y).map .tr)] S (iB (decide (x = y))) S := by
  have b0 : x.links.length ≤ 9223372036854775807 := hb
  refine sem_of_chk k_laws_eqNode trivial ?_
  simp only [c_laws_eqNode, cNode, List.map_cons, List.map_nil, EVA, ↓reduceIte, Nat.reduceEqDiff, Nat.reduceMul, reduceCtorEq, Nat.reduceAdd, Nat.reduceSub, Nat.reduceLeDiff, Nat.reduceLT, Int.reduceToNat, Int.reduceLE, Int.reduceLT, mens, men]
  refine ite_of (fun hne => ?_) (fun heq0 => ?_)
  · have : ¬ x = y := fun e => (by rw [e] at hne; simp at hne)
    simp [this]
  refine ite_of (fun hne => ?_) (fun heq1 => ?_)
  · have : ¬ x = y := fun e => (by rw [e] at hne; simp at hne)
    simp [this]
  refine kca_intro (sem_eqIntS x.links y.links b0) ?_
  simp only [Bool.not_eq_true', EVA, ↓reduceIte, Nat.reduceEqDiff, Nat.reduceMul, reduceCtorEq, Nat.reduceAdd, Nat.reduceSub, Nat.reduceLeDiff, Nat.reduceLT, Int.reduceToNat, Int.reduceLE, Int.reduceLT, mens, men]
  refine ite_of (fun hne => ?_) (fun heq2 => ?_)
  · have : ¬ x = y := fun e => (by rw [e] at hne; simp at hne)
    simp [this]
  have : x = y := by
    cases x; cases y; simp_all
  simp [this]
theorem g_eqNodeS : chkF Go.Proofs.Tryz.prog fid_laws_eqNodeS (eqSl 3 (some 3) fid_laws_eqNode) = true := by kernel_rfl
theorem sem_eqNodeS (a b : (List TNode)) (ha : a.length ≤ 9223372036854775807) (ha2 : ∀ y ∈ a, bdNode 9223372036854775807 y) (lvl : Nat) (S : Sto) : Sem Go.Proofs.Tryz.prog fid_laws_eqNodeS lvl [.tr (.sl (a.map cNode)), .tr (.sl (b.map cNode))] S (iB (decide (a = b))) S :=
  sem_eqSl g_eqNodeS cNode (fun _ => rfl) a b ha (fun x hx y _ lvl S => sem_eqNode x y (ha2 x hx) lvl S) lvl S
theorem sem_eqWire (x y : TWire) (hb : bdWire 9223372036854775807 x) (lvl : Nat) (S : Sto) : Sem Go.Proofs.Tryz.prog fid_laws_eqWire lvl [.ag ((cWire x).map .tr), .ag ((cWire y).map .tr)] S (iB (decide (x = y))) S := by
  have b0 : x.name.size ≤ 9223372036854775807 := hb
  refine sem_of_chk k_laws_eqWire trivial ?_
  simp only [c_laws_eqWire, cWire, List.map_cons, List.map_nil, EVA, ↓reduceIte, Nat.reduceEqDiff, Nat.reduceMul, reduceCtorEq, Nat.reduceAdd, Nat.reduceSub, Nat.reduceLeDiff, Nat.reduceLT, Int.reduceToNat, Int.reduceLE, Int.reduceLT, mens, men]
  refine ite_of (fun hne => ?_) (fun heq0 => ?_)
  · have : ¬ x = y := fun e => (by rw [e] at hne; simp at hne)
    simp [this]
  refine ite_of (fun hne => ?_) (fun heq1 => ?_)
  · have : ¬ x = y := fun e => (by rw [e] at hne; simp at hne)
    simp [this]
  have : x = y := by
    cases x; cases y; simp_all
  simp [this]
theorem g_eqWireS : chkF Go.Proofs.Tryz.prog fid_laws_eqWireS (eqSl 2 (some 2) fid_laws_eqWire) = true := by kernel_rfl
theorem sem_eqWireS (a b : (List TWire)) (ha : a.length ≤ 9223372036854775807) (ha2 : ∀ y ∈ a, bdWire 9223372036854775807 y) (lvl : Nat) (S : Sto) : Sem Go.Proofs.Tryz.prog fid_laws_eqWireS lvl [.tr (.sl (a.map cWire)), .tr (.sl (b.map cWire))] S (iB (decide (a = b))) S :=
  sem_eqSl g_eqWireS cWire (fun _ => rfl) a b ha (fun x hx y _ lvl S => sem_eqWire x y (ha2 x hx) lvl S) lvl S
theorem g_eqStringS : chkF Go.Proofs.Tryz.prog fid_laws_eqStringS eqS1 = true := by kernel_rfl
theorem sem_eqStringS (a b : (List ByteArray)) (ha : a.length ≤ 9223372036854775807) (lvl : Nat) (S : Sto) : Sem Go.Proofs.Tryz.prog fid_laws_eqStringS lvl [.tr (.sl (rS a)), .tr (.sl (rS b))] S (iB (decide (a = b))) S := sem_eqS g_eqStringS a b ha lvl S
theorem sem_eqBigraph (x y : TBigraph) (hb : bdBigraph 9223372036854775807 x) (lvl : Nat) (S : Sto) : Sem Go.Proofs.Tryz.prog fid_laws_eqBigraph lvl [.ag ((cBigraph x).map .tr), .ag ((cBigraph y).map .tr)] S (iB (decide (x = y))) S := by
  obtain ⟨b0, b1, b2, b3, b4, b5, b6⟩ := hb
  refine sem_of_chk k_laws_eqBigraph trivial ?_
  simp only [c_laws_eqBigraph, cBigraph, List.map_cons, List.map_nil, EVA, ↓reduceIte, Nat.reduceEqDiff, Nat.reduceMul, reduceCtorEq, Nat.reduceAdd, Nat.reduceSub, Nat.reduceLeDiff, Nat.reduceLT, Int.reduceToNat, Int.reduceLE, Int.reduceLT, mens, men]
  refine ite_of (fun hne => ?_) (fun heq0 => ?_)
  · have : ¬ x = y := fun e => (by rw [e] at hne; simp at hne)
    simp [this]
  refine kca_intro (sem_eqNodeS x.nodes y.nodes b0 b1) ?_
  simp only [Bool.not_eq_true', EVA, ↓reduceIte, Nat.reduceEqDiff, Nat.reduceMul, reduceCtorEq, Nat.reduceAdd, Nat.reduceSub, Nat.reduceLeDiff, Nat.reduceLT, Int.reduceToNat, Int.reduceLE, Int.reduceLT, mens, men]
  refine ite_of (fun hne => ?_) (fun heq1 => ?_)
  · have : ¬ x = y := fun e => (by rw [e] at hne; simp at hne)
    simp [this]
  refine kca_intro (sem_eqIntS x.sites y.sites b2) ?_
  simp only [Bool.not_eq_true', EVA, ↓reduceIte, Nat.reduceEqDiff, Nat.reduceMul, reduceCtorEq, Nat.reduceAdd, Nat.reduceSub, Nat.reduceLeDiff, Nat.reduceLT, Int.reduceToNat, Int.reduceLE, Int.reduceLT, mens, men]
  refine ite_of (fun hne => ?_) (fun heq2 => ?_)
  · have : ¬ x = y := fun e => (by rw [e] at hne; simp at hne)
    simp [this]
  refine ite_of (fun hne => ?_) (fun heq3 => ?_)
  · have : ¬ x = y := fun e => (by rw [e] at hne; simp at hne)
    simp [this]
  refine kca_intro (sem_eqStringS x.outer y.outer b3) ?_
  simp only [Bool.not_eq_true', EVA, ↓reduceIte, Nat.reduceEqDiff, Nat.reduceMul, reduceCtorEq, Nat.reduceAdd, Nat.reduceSub, Nat.reduceLeDiff, Nat.reduceLT, Int.reduceToNat, Int.reduceLE, Int.reduceLT, mens, men]
  refine ite_of (fun hne => ?_) (fun heq4 => ?_)
  · have : ¬ x = y := fun e => (by rw [e] at hne; simp at hne)
    simp [this]
  refine kca_intro (sem_eqWireS x.inner y.inner b5 b6) ?_
  simp only [Bool.not_eq_true', EVA, ↓reduceIte, Nat.reduceEqDiff, Nat.reduceMul, reduceCtorEq, Nat.reduceAdd, Nat.reduceSub, Nat.reduceLeDiff, Nat.reduceLT, Int.reduceToNat, Int.reduceLE, Int.reduceLT, mens, men]
  refine ite_of (fun hne => ?_) (fun heq5 => ?_)
  · have : ¬ x = y := fun e => (by rw [e] at hne; simp at hne)
    simp [this]
  have : x = y := by
    cases x; cases y; simp_all
  simp [this]
theorem g_eqIntSS : chkF Go.Proofs.Tryz.prog fid_laws_eqIntSS (eqSl 1 none fid_laws_eqIntS) = true := by kernel_rfl
theorem sem_eqIntSS (a b : (List (List Int))) (ha : a.length ≤ 9223372036854775807) (ha2 : ∀ y ∈ a, y.length ≤ 9223372036854775807) (lvl : Nat) (S : Sto) : Sem Go.Proofs.Tryz.prog fid_laws_eqIntSS lvl [.tr (.sl (a.map (fun l => [Tr.sl (rI l)]))), .tr (.sl (b.map (fun l => [Tr.sl (rI l)])))] S (iB (decide (a = b))) S :=
  sem_eqSl1 g_eqIntSS (fun l => Tr.sl (rI l)) a b ha (fun x hx y _ lvl S => sem_eqIntS x y (ha2 x hx) lvl S) lvl S
theorem sem_eqIntA2 (x y : (Int × Int)) (lvl : Nat) (S : Sto) : Sem Go.Proofs.Tryz.prog fid_laws_eqIntA2 lvl [.ag ((cA2 x).map .tr), .ag ((cA2 y).map .tr)] S (iB (decide (x = y))) S := by
  refine sem_of_chk k_laws_eqIntA2 trivial ?_
  simp only [c_laws_eqIntA2, cA2, EVA, ↓reduceIte, Nat.reduceEqDiff, Nat.reduceMul, reduceCtorEq, Nat.reduceAdd, Nat.reduceSub, Nat.reduceLeDiff, Nat.reduceLT, Int.reduceToNat, Int.reduceLE, Int.reduceLT, mens, men]
  refine wp_count (α := Unit) 2 (fun j _ => ⟨lvl, [(2, .ta (cA2 x)), (3, .ta (cA2 y)), (5, iI j)], [], S⟩) (fun j _ => (cA2 x).take j = (cA2 y).take j) () ⟨by simp only [EVA, ↓reduceIte, Nat.reduceEqDiff, Nat.reduceMul, reduceCtorEq, Nat.reduceAdd, Nat.reduceSub, Nat.reduceLeDiff, Nat.reduceLT, Int.reduceToNat, Int.reduceLE, Int.reduceLT, mens, men], by (simp only [EVA, ↓reduceIte, Nat.reduceEqDiff, Nat.reduceMul, reduceCtorEq, Nat.reduceAdd, Nat.reduceSub, Nat.reduceLeDiff, Nat.reduceLT, Int.reduceToNat, Int.reduceLE, Int.reduceLT, mens, men]) <;> rfl⟩ rfl ?_
  intro j _ hj hA
  have hc : j = 0 ∨ j = 1 ∨ j = 2 := by omega
  rcases hc with rfl | rfl | rfl
  · simp only [cA2, Int.cast_ofNat_Int, Int.natCast_zero, Nat.zero_mul, Nat.one_mul, Nat.mul_one, EVA, ↓reduceIte, Nat.reduceEqDiff, Nat.reduceMul, reduceCtorEq, Nat.reduceAdd, Nat.reduceSub, Nat.reduceLeDiff, Nat.reduceLT, Int.reduceToNat, Int.reduceLE, Int.reduceLT, mens, men]
    refine ite_of (fun hne => ?_) (fun heq => ?_)
    · have : ¬ x = y := fun e => hne (by rw [e])
      simp [this]
    · refine ⟨by rw [fits_i64]; omega, cntJ_intro (N := 2) (k := 0) () (by omega) rfl ?_⟩
      simp [cA2] at hA ⊢
      simp_all
  · simp only [cA2, Int.cast_ofNat_Int, Int.natCast_zero, Nat.zero_mul, Nat.one_mul, Nat.mul_one, EVA, ↓reduceIte, Nat.reduceEqDiff, Nat.reduceMul, reduceCtorEq, Nat.reduceAdd, Nat.reduceSub, Nat.reduceLeDiff, Nat.reduceLT, Int.reduceToNat, Int.reduceLE, Int.reduceLT, mens, men]
    refine ite_of (fun hne => ?_) (fun heq => ?_)
    · have : ¬ x = y := fun e => hne (by rw [e])
      simp [this]
    · refine ⟨by rw [fits_i64]; omega, cntJ_intro (N := 2) (k := 1) () (by omega) rfl ?_⟩
      simp [cA2] at hA ⊢
      simp_all
  · simp only [cA2, Int.cast_ofNat_Int, EVA, ↓reduceIte, Nat.reduceEqDiff, Nat.reduceMul, reduceCtorEq, Nat.reduceAdd, Nat.reduceSub, Nat.reduceLeDiff, Nat.reduceLT, Int.reduceToNat, Int.reduceLE, Int.reduceLT, mens, men]
    have : x = y := by
      simp [cA2] at hA
      obtain ⟨x0, x1⟩ := x; obtain ⟨y0, y1⟩ := y
      simp_all
    simp [this]
theorem g_eqIntA2S : chkF Go.Proofs.Tryz.prog fid_laws_eqIntA2S (eqSl 2 (some 2) fid_laws_eqIntA2) = true := by kernel_rfl
theorem sem_eqIntA2S (a b : (List (Int × Int))) (ha : a.length ≤ 9223372036854775807) (lvl : Nat) (S : Sto) : Sem Go.Proofs.Tryz.prog fid_laws_eqIntA2S lvl [.tr (.sl (a.map cA2)), .tr (.sl (b.map cA2))] S (iB (decide (a = b))) S :=
  sem_eqSl g_eqIntA2S cA2 (fun _ => rfl) a b ha (fun x hx y _ lvl S => sem_eqIntA2 x y lvl S) lvl S
theorem sem_eqSorting (x y : TSorting) (hb : bdSorting 9223372036854775807 x) (lvl : Nat) (S : Sto) : Sem Go.Proofs.Tryz.prog fid_laws_eqSorting lvl [.ag ((cSorting x).map .tr), .ag ((cSorting y).map .tr)] S (iB (decide (x = y))) S := by
  obtain ⟨b0, b1, b2, b3, b4, b5, b6⟩ := hb
  refine sem_of_chk k_laws_eqSorting trivial ?_
  simp only [c_laws_eqSorting, cSorting, List.map_cons, List.map_nil, EVA, ↓reduceIte, Nat.reduceEqDiff, Nat.reduceMul, reduceCtorEq, Nat.reduceAdd, Nat.reduceSub, Nat.reduceLeDiff, Nat.reduceLT, Int.reduceToNat, Int.reduceLE, Int.reduceLT, mens, men]
  refine kca_intro (sem_eqIntS x.tops y.tops b0) ?_
  simp only [Bool.not_eq_true', EVA, ↓reduceIte, Nat.reduceEqDiff, Nat.reduceMul, reduceCtorEq, Nat.reduceAdd, Nat.reduceSub, Nat.reduceLeDiff, Nat.reduceLT, Int.reduceToNat, Int.reduceLE, Int.reduceLT, mens, men]
  refine ite_of (fun hne => ?_) (fun heq0 => ?_)
  · have : ¬ x = y := fun e => (by rw [e] at hne; simp at hne)
    simp [this]
  refine kca_intro (sem_eqIntSS x.nest y.nest b1 b2) ?_
  simp only [Bool.not_eq_true', EVA, ↓reduceIte, Nat.reduceEqDiff, Nat.reduceMul, reduceCtorEq, Nat.reduceAdd, Nat.reduceSub, Nat.reduceLeDiff, Nat.reduceLT, Int.reduceToNat, Int.reduceLE, Int.reduceLT, mens, men]
  refine ite_of (fun hne => ?_) (fun heq1 => ?_)
  · have : ¬ x = y := fun e => (by rw [e] at hne; simp at hne)
    simp [this]
  refine kca_intro (sem_eqIntSS x.sorts y.sorts b3 b4) ?_
  simp only [Bool.not_eq_true', EVA, ↓reduceIte, Nat.reduceEqDiff, Nat.reduceMul, reduceCtorEq, Nat.reduceAdd, Nat.reduceSub, Nat.reduceLeDiff, Nat.reduceLT, Int.reduceToNat, Int.reduceLE, Int.reduceLT, mens, men]
  refine ite_of (fun hne => ?_) (fun heq2 => ?_)
  · have : ¬ x = y := fun e => (by rw [e] at hne; simp at hne)
    simp [this]
  refine kca_intro (sem_eqIntS x.most y.most b5) ?_
  simp only [Bool.not_eq_true', EVA, ↓reduceIte, Nat.reduceEqDiff, Nat.reduceMul, reduceCtorEq, Nat.reduceAdd, Nat.reduceSub, Nat.reduceLeDiff, Nat.reduceLT, Int.reduceToNat, Int.reduceLE, Int.reduceLT, mens, men]
  refine ite_of (fun hne => ?_) (fun heq3 => ?_)
  · have : ¬ x = y := fun e => (by rw [e] at hne; simp at hne)
    simp [this]
  refine kca_intro (sem_eqIntA2S x.apart y.apart b6) ?_
  simp only [Bool.not_eq_true', EVA, ↓reduceIte, Nat.reduceEqDiff, Nat.reduceMul, reduceCtorEq, Nat.reduceAdd, Nat.reduceSub, Nat.reduceLeDiff, Nat.reduceLT, Int.reduceToNat, Int.reduceLE, Int.reduceLT, mens, men]
  refine ite_of (fun hne => ?_) (fun heq4 => ?_)
  · have : ¬ x = y := fun e => (by rw [e] at hne; simp at hne)
    simp [this]
  have : x = y := by
    cases x; cases y; simp_all
  simp [this]
theorem sem_eqControl (x y : TControl) (hb : bdControl 9223372036854775807 x) (lvl : Nat) (S : Sto) : Sem Go.Proofs.Tryz.prog fid_laws_eqControl lvl [.ag ((cControl x).map .tr), .ag ((cControl y).map .tr)] S (iB (decide (x = y))) S := by
  have b0 : x.name.size ≤ 9223372036854775807 := hb
  refine sem_of_chk k_laws_eqControl trivial ?_
  simp only [c_laws_eqControl, cControl, List.map_cons, List.map_nil, EVA, ↓reduceIte, Nat.reduceEqDiff, Nat.reduceMul, reduceCtorEq, Nat.reduceAdd, Nat.reduceSub, Nat.reduceLeDiff, Nat.reduceLT, Int.reduceToNat, Int.reduceLE, Int.reduceLT, mens, men]
  refine ite_of (fun hne => ?_) (fun heq0 => ?_)
  · have : ¬ x = y := fun e => (by rw [e] at hne; simp at hne)
    simp [this]
  refine ite_of (fun hne => ?_) (fun heq1 => ?_)
  · have : ¬ x = y := fun e => (by rw [e] at hne; simp at hne)
    simp [this]
  refine ite_of (fun hne => ?_) (fun heq2 => ?_)
  · have : ¬ x = y := fun e => (by rw [e] at hne; simp at hne)
    simp [this]
  have : x = y := by
    cases x; cases y; simp_all
  simp [this]
theorem g_eqControlS : chkF Go.Proofs.Tryz.prog fid_laws_eqControlS (eqSl 3 (some 3) fid_laws_eqControl) = true := by kernel_rfl
theorem sem_eqControlS (a b : (List TControl)) (ha : a.length ≤ 9223372036854775807) (ha2 : ∀ y ∈ a, bdControl 9223372036854775807 y) (lvl : Nat) (S : Sto) : Sem Go.Proofs.Tryz.prog fid_laws_eqControlS lvl [.tr (.sl (a.map cControl)), .tr (.sl (b.map cControl))] S (iB (decide (a = b))) S :=
  sem_eqSl g_eqControlS cControl (fun _ => rfl) a b ha (fun x hx y _ lvl S => sem_eqControl x y (ha2 x hx) lvl S) lvl S
theorem sem_eqFault (x y : TFault) (lvl : Nat) (S : Sto) : Sem Go.Proofs.Tryz.prog fid_laws_eqFault lvl [.ag ((cFault x).map .tr), .ag ((cFault y).map .tr)] S (iB (decide (x = y))) S := by
  refine sem_of_chk k_laws_eqFault trivial ?_
  simp only [c_laws_eqFault, cFault, List.map_cons, List.map_nil, EVA, ↓reduceIte, Nat.reduceEqDiff, Nat.reduceMul, reduceCtorEq, Nat.reduceAdd, Nat.reduceSub, Nat.reduceLeDiff, Nat.reduceLT, Int.reduceToNat, Int.reduceLE, Int.reduceLT, mens, men]
  refine ite_of (fun hne => ?_) (fun heq0 => ?_)
  · have : ¬ x = y := fun e => (by rw [e] at hne; simp at hne)
    simp [this]
  refine ite_of (fun hne => ?_) (fun heq1 => ?_)
  · have : ¬ x = y := fun e => (by rw [e] at hne; simp at hne)
    simp [this]
  refine ite_of (fun hne => ?_) (fun heq2 => ?_)
  · have : ¬ x = y := fun e => (by rw [e] at hne; simp at hne)
    simp [this]
  have : x = y := by
    cases x; cases y; simp_all
  simp [this]
theorem g_eqFaultS : chkF Go.Proofs.Tryz.prog fid_laws_eqFaultS (eqSl 3 (some 3) fid_laws_eqFault) = true := by kernel_rfl
theorem sem_eqFaultS (a b : (List TFault)) (ha : a.length ≤ 9223372036854775807) (lvl : Nat) (S : Sto) : Sem Go.Proofs.Tryz.prog fid_laws_eqFaultS lvl [.tr (.sl (a.map cFault)), .tr (.sl (b.map cFault))] S (iB (decide (a = b))) S :=
  sem_eqSl g_eqFaultS cFault (fun _ => rfl) a b ha (fun x hx y _ lvl S => sem_eqFault x y lvl S) lvl S
end Go.Fd
