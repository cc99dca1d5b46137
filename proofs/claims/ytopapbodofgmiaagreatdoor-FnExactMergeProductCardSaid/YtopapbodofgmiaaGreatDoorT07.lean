/-
  ONE BIGRAPH UNDER ANOTHER, THE PROGRAM'S SIDE: joined. Own work.
-/
import Derived.Test.YtopapbodofgmiaaGreatDoorT06
import Derived.Shelf.SlSortCmp.WholeK
import Derived.KernelRfl
set_option linter.all false
namespace Go.Fd
set_option maxRecDepth 20000
theorem ZgC (e : Int × ByteArray) (lvl : Nat) (S : Sto) : Sem Go.Proofs.Tryz.prog Vd lvl [oE e] S (oE e) S := by
 refine Zf Zdf (by simp [low, men, Ze]) ?_
 simp only [Df, EVA, ↓reduceIte, Nat.reduceEqDiff, Nat.reduceMul, reduceCtorEq, Nat.reduceAdd, Nat.reduceSub, Nat.reduceLeDiff, Nat.reduceLT, Int.reduceToNat, Int.reduceLE, Int.reduceLT, Ze, men]
theorem ZgD (a : TBigraph) (e : Int × ByteArray) (nf : FuncId) (cs : List (List Tr)) (nm : ByteArray -> Int × ByteArray) (h1 : -4294967296 <= e.1 /\ e.1 <= 4294967296) (h2 : 0 <= a.edges /\ a.edges <= 4294967296) (hN : e.2 ≠ e0S -> ∀ lvl S, Sem Go.Proofs.Tryz.prog nf lvl (iS e.2 :: cs.map IV.ta) S (oE (nm e.2)) S)
  (lvl : Nat) (S : Sto) (id : Oid) (hid : id.1 < lvl) (sN : S id = some (.bx [.fn nf (cs.map IV.ta)])) : Sem Go.Proofs.Tryz.prog J0 lvl [oE e, .ta (Za a), .ab id 0] S (oE (Zdy a nm e)) S := by
 have hne : id.1 ≠ lvl := by omega
 refine Zf Zdg (by simp [low, men, Ze]) ?_
 simp only [Dg, Za, Js hne, sN, EVA, ↓reduceIte, Nat.reduceEqDiff, Nat.reduceMul, reduceCtorEq, Nat.reduceAdd, Nat.reduceSub, Nat.reduceLeDiff, Nat.reduceLT, Int.reduceToNat, Int.reduceLE, Int.reduceLT, Ze, men]
 unfold Zdy
 by_cases h : e.2 = e0S
 ·rw [if_pos h]
  have h' : e.2 = { data := #[] } := h
  simp only [h', EVA, ↓reduceIte, Nat.reduceEqDiff, Nat.reduceMul, reduceCtorEq, Nat.reduceAdd, Nat.reduceSub, Nat.reduceLeDiff, Nat.reduceLT, Int.reduceToNat, Int.reduceLE, Int.reduceLT, Ze, men]
  rw [Zg]; omega
 ·rw [if_neg h]
  have h' : ¬ e.2 = { data := #[] } := h
  simp only [h', Js hne, sN, Dj, YB, EVA, ↓reduceIte, Nat.reduceEqDiff, Nat.reduceMul, reduceCtorEq, Nat.reduceAdd, Nat.reduceSub, Nat.reduceLeDiff, Nat.reduceLT, Int.reduceToNat, Int.reduceLE, Int.reduceLT, Ze, men]
  refine Zb (hN h) ?_
  simp only [EVA, ↓reduceIte, Nat.reduceEqDiff, Nat.reduceMul, reduceCtorEq, Nat.reduceAdd, Nat.reduceSub, Nat.reduceLeDiff, Nat.reduceLT, Int.reduceToNat, Int.reduceLE, Int.reduceLT, Ze, men]
def ZoG (n : Int) (pl : Int -> Int) (p : Int) : Int := if 0 <= p then p + n else pl p
theorem ZgE (a : TBigraph) (p : Int) (pf : FuncId) (cs : List (List Tr)) (pl : Int -> Int) (hn : a.nodes.length <= 4294967296) (hp : -4294967296 <= p /\ p <= 4294967296) (hP : p < 0 -> ∀ lvl S, Sem Go.Proofs.Tryz.prog pf lvl (iI p :: cs.map IV.ta) S (iI (pl p)) S) (lvl : Nat) (S : Sto) : Sem Go.Proofs.Tryz.prog QY lvl [.ag ((Za a).map .tr), iI p, .fn pf (cs.map IV.ta)] S (iI (ZoG a.nodes.length pl p)) S := by
 refine Zf Zgk trivial ?_
 simp only [Zb9, Za, List.length_map, EVA, ↓reduceIte, Nat.reduceEqDiff, Nat.reduceMul, reduceCtorEq, Nat.reduceAdd, Nat.reduceSub, Nat.reduceLeDiff, Nat.reduceLT, Int.reduceToNat, Int.reduceLE, Int.reduceLT, Ze, men]
 unfold ZoG
 by_cases h : 0 <= p
 ·rw [if_pos h]
  simp only [h, List.length_map, EVA, ↓reduceIte, Nat.reduceEqDiff, Nat.reduceMul, reduceCtorEq, Nat.reduceAdd, Nat.reduceSub, Nat.reduceLeDiff, Nat.reduceLT, Int.reduceToNat, Int.reduceLE, Int.reduceLT, Ze, men]
  rw [Zg]; omega
 ·rw [if_neg h]
  simp only [h, Dj, YB, EVA, ↓reduceIte, Nat.reduceEqDiff, Nat.reduceMul, reduceCtorEq, Nat.reduceAdd, Nat.reduceSub, Nat.reduceLeDiff, Nat.reduceLT, Int.reduceToNat, Int.reduceLE, Int.reduceLT, Ze, men]
  refine Zb (hP (by omega)) ?_
  simp only [EVA, ↓reduceIte, Nat.reduceEqDiff, Nat.reduceMul, reduceCtorEq, Nat.reduceAdd, Nat.reduceSub, Nat.reduceLeDiff, Nat.reduceLT, Int.reduceToNat, Int.reduceLE, Int.reduceLT, Ze, men]
theorem Zhr {id : Oid} : ∀ {l : List (List Tr)}, scrs id (l.map IV.ta) = l.map IV.ta
 | [] => rfl
 | x :: r => by
  simp only [List.map_cons, scrs, scr]
  rw [Zhr]
theorem ZiR (sig : List TControl) (a b : TBigraph) (ha : bigOK sig a) (hb : bigOK sig b) (roots : Int) (ss : List Int) (hss : ss.length <= 1000) (o : List ByteArray) (ho : o.length <= 1000) (pf : FuncId) (ps : List (List Tr)) (pl : Int -> Int) (nf : FuncId) (ns : List (List Tr)) (nm : ByteArray -> Int × ByteArray)
  (hP : ∀ p, -b.roots <= p -> p < 0 -> ∀ lvl S, Sem Go.Proofs.Tryz.prog pf lvl (iI p :: ps.map IV.ta) S (iI (pl p)) S) (hN : ∀ x ∈ b.outer, ∀ lvl S, Sem Go.Proofs.Tryz.prog nf lvl (iS x :: ns.map IV.ta) S (oE (nm x)) S)
  (lvl : Nat) (S : Sto) : Sem Go.Proofs.Tryz.prog Qv lvl [.ag ((Za a).map .tr), .ag ((Za b).map .tr), iI roots, tI ss, .tr (.sl (rS o)), .fn pf (ps.map IV.ta), .fn nf (ns.map IV.ta)] S
   (.ag [iI roots, .ow 3 ((Zbh a b roots ss (Xc o) (Zek a (a.edges + b.edges) (Xc o) fun x => x) (Zek b (a.edges + b.edges) (Xc o) (Zdy a nm)) (ZoG a.nodes.length pl)).nodes.map ZK) (decide (b.nodes.length = 0)), .ow 1 (rI (ss ++ b.sites.map (ZoG a.nodes.length pl))) true, iI (a.edges + b.edges), .ow 1 (rS (Xc o)) true, .tr (.sl ((b.inner.map (Zas (Zek b (a.edges + b.edges) (Xc o) (Zdy a nm)))).map ZO))]) S := by
 have ra := ha.roots; have rb := hb.roots
 have ea := ha.edges; have eb := hb.edges
 have sa := ha.small; have sb := hb.small
 have a1 := sa.nodes; have a2 := sa.sites; have a3 := sa.inner; have a4 := sa.outer
 have b1 := sb.nodes; have b2 := sb.sites; have b3 := sb.inner; have b4 := sb.outer
 have lnA : ∀ x ∈ a.nodes, ∀ l ∈ x.links, Jd a l := fun x hx l hl => by
  obtain ⟨k, hk, rfl⟩ := List.getElem_of_mem hx
  exact (ha.nodes k hk).links l hl
 have lnB : ∀ x ∈ b.nodes, ∀ l ∈ x.links, Jd b l := fun x hx l hl => by
  obtain ⟨k, hk, rfl⟩ := List.getElem_of_mem hx
  exact (hb.nodes k hk).links l hl
 obtain ⟨FL, hFL⟩ : ∃ F, F = Zek a (a.edges + b.edges) (Xc o) fun x => x := ⟨_, rfl⟩
 obtain ⟨FR, hFR⟩ : ∃ F, F = Zek b (a.edges + b.edges) (Xc o) (Zdy a nm) := ⟨_, rfl⟩
 obtain ⟨mv, hmv⟩ : ∃ F, F = ZoG a.nodes.length pl := ⟨_, rfl⟩
 have q1 := Zcd a (a.edges + b.edges) o Vd [] (fun x => x) ea.1 (WB (by omega) (ZcH ha)) (by omega) (by omega) (by omega) lnA ha.inner (fun l _ lvl S => ZgC (ZdI a l) lvl S)
 have hR : ∀ loc : List (Nat × Ob), lkO 416 loc = some (.bx [.fn nf (ns.map IV.ta)]) -> ∀ l' S', Ze (Zew (ZR lvl loc S) S' l') [.ag ((Za b).map .tr), iI (a.edges + b.edges), .tr (.sl (rS o)), .fn J0 [.ta (Za a), .ab (lvl, 416) 0]] -> Sem Go.Proofs.Tryz.prog ZU l' [.ag ((Za b).map .tr), iI (a.edges + b.edges), .tr (.sl (rS o)), .fn J0 [.ta (Za a), .ab (lvl, 416) 0]] S' (Zc (Zkh b FR (a.edges + b.edges) (Xc o))) S' := fun loc h1 l' S' hs => by
  have hc : Ze (Ziv (ZR lvl loc S) S' l') [.ta (Za a), .ab (lvl, 416) 0] := by
   have h2 := (Zgz hs).2.2.2.1
   simp only [men] at h2
   exact h2
  rw [hFR]
  exact Zbf b (a.edges + b.edges) o J0 _ (ZR lvl loc S) (Zdy a nm) eb.1 (WB (by omega) (ZcH hb)) (by omega) (by omega) (by omega) lnB hb.inner (fun l hl l'' S'' hs2 => by
   have hz := hs2.2.1
   simp only [men] at hz
   refine ZgD a (ZdI b l) nf ns nm (Zl9 eb hl) (by omega) (fun hne => hN _ ?_) l'' S'' (lvl, 416) hz.1 (hz.2 _ (by rw [Yn]; exact h1))
   rcases Vg hl with ⟨g0, g1⟩ | ⟨i, hi, rfl⟩
   ·rw [Zgw g1] at hne
    exact absurd rfl hne
   ·rw [Zgx hi]
    exact List.getElem_mem hi) l' S' hc
 rw [<- hFL] at q1
 rw [<- hFL, <- hFR, <- hmv]
 simp only [Za, Zc, Zkh, List.map_cons, List.map_nil] at q1 hR
 obtain ⟨N1, hN1⟩ : ∃ l, l = a.nodes.map (fun x => ({ control := x.control, parent := x.parent, links := List.map FL x.links } : TNode)) := ⟨_, rfl⟩
 obtain ⟨B1, hB1⟩ : ∃ l, l = b.nodes.map (fun x => ({ control := x.control, parent := x.parent, links := List.map FR x.links } : TNode)) := ⟨_, rfl⟩
 obtain ⟨B2, hB2⟩ : ∃ l, l = b.nodes.map (fun x => ({ control := x.control, parent := mv x.parent, links := List.map FR x.links } : TNode)) := ⟨_, rfl⟩
 have lN1 : N1.length = a.nodes.length := by rw [hN1, List.length_map]
 have lB1 : B1.length = b.nodes.length := by rw [hB1, List.length_map]
 have lB2 : B2.length = b.nodes.length := by rw [hB2, List.length_map]
 simp only [<- hN1] at q1
 have hW1 : b.inner.map (fun w => ({ name := w.name, link := FR w.link } : TWire)) = b.inner.map (Zas FR) := rfl
 simp only [<- hB1, hW1] at hR
 refine Zf Ze9 (by simp [low, men, Ze]) ?_
 simp only [Za0, Za, EVA, ↓reduceIte, Nat.reduceEqDiff, Nat.reduceMul, reduceCtorEq, Nat.reduceAdd, Nat.reduceSub, Nat.reduceLeDiff, Nat.reduceLT, Int.reduceToNat, Int.reduceLE, Int.reduceLT, Ze, men]
 refine ⟨by rw [Zg]; omega, ?_⟩
 refine Zb q1 ?_
 simp only [lN1, List.length_map, EVA, ↓reduceIte, Nat.reduceEqDiff, Nat.reduceMul, reduceCtorEq, Nat.reduceAdd, Nat.reduceSub, Nat.reduceLeDiff, Nat.reduceLT, Int.reduceToNat, Int.reduceLE, Int.reduceLT, Ze, men]
 refine ZaO (hR _ rfl) ?_
 simp only [lN1, lB1, List.length_map, EVA, ↓reduceIte, Nat.reduceEqDiff, Nat.reduceMul, reduceCtorEq, Nat.reduceAdd, Nat.reduceSub, Nat.reduceLeDiff, Nat.reduceLT, Int.reduceToNat, Int.reduceLE, Int.reduceLT, Ze, men]
 refine Zb (Zaq ss (by omega)) ?_
 simp only [lN1, lB1, List.length_map, EVA, ↓reduceIte, Nat.reduceEqDiff, Nat.reduceMul, reduceCtorEq, Nat.reduceAdd, Nat.reduceSub, Nat.reduceLeDiff, Nat.reduceLT, Int.reduceToNat, Int.reduceLE, Int.reduceLT, Ze, men]
 refine Z9 (α := Unit) b.nodes.length (fun j _ => [(51, iI j)]) (fun j _ => [(576, .bx [iI roots, .hd (lvl, 992) [] 0 (a.nodes.length + j) none (a.nodes.length + j), .hd (lvl, 1312) [] 0 ss.length none ss.length, iI (a.edges + b.edges), .hd (lvl, 994) [] 0 (Xc o).length none (Xc o).length, .tr (.sl ((b.inner.map (Zas FR)).map ZO))]), (992, .ar 3 ((N1 ++ B2.take j).map ZK) (decide (j = 0)) (a.nodes.length + j) 0)]) (fun _ _ => True) () (by simp only [Yh, EVA, ↓reduceIte, Nat.reduceEqDiff, Nat.reduceMul, reduceCtorEq, Nat.reduceAdd, Nat.reduceSub, Nat.reduceLeDiff, Nat.reduceLT, Int.reduceToNat, Int.reduceLE, Int.reduceLT, Ze, men]) (by simp only [hN1, EVA, ↓reduceIte, Nat.reduceEqDiff, Nat.reduceMul, reduceCtorEq, Nat.reduceAdd, Nat.reduceSub, Nat.reduceLeDiff, Nat.reduceLT, Int.reduceToNat, Int.reduceLE, Int.reduceLT, Ze, men]; simp) trivial ?_
 intro j _ hj _
 simp only [List.length_map, EVA, ↓reduceIte, Nat.reduceEqDiff, Nat.reduceMul, reduceCtorEq, Nat.reduceAdd, Nat.reduceSub, Nat.reduceLeDiff, Nat.reduceLT, Int.reduceToNat, Int.reduceLE, Int.reduceLT, Ze, men]
 refine Zu (fun hlt => ?_) (fun hge => ?_)
 ·have hja : j < b.nodes.length := by omega
  have ga : (B1.map ZK)[j]? = some [tv b.nodes[j].control, tv b.nodes[j].parent, Tr.sl (rI (b.nodes[j].links.map FR))] := by
   rw [hB1, List.getElem?_map, List.getElem?_map, List.getElem?_eq_getElem hja]
   rfl
  have hx := List.getElem_mem hja
  have hbp := Zdw hb hx
  have hge := Yi rb.1 (hb.nodes j hja).par
  simp only [ga, hja, Yh, Dj, YB, List.length_map, EVA, ↓reduceIte, Nat.reduceEqDiff, Nat.reduceMul, reduceCtorEq, Nat.reduceAdd, Nat.reduceSub, Nat.reduceLeDiff, Nat.reduceLT, Int.reduceToNat, Int.reduceLE, Int.reduceLT, Ze, men]
  have q3 := ZgE a b.nodes[j].parent pf ps pl (by omega) (by omega) (fun h => hP _ hge h)
  rw [<- hmv] at q3
  simp only [Za, List.map_cons, List.map_nil] at q3
  refine Zb q3 ?_
  have hs : (N1 ++ B2.take j).map ZK ++ [[tv b.nodes[j].control, tv (mv b.nodes[j].parent), Tr.sl (rI (b.nodes[j].links.map FR))]] = (N1 ++ B2.take (j + 1)).map ZK := by
   have hj2 : j < B2.length := by omega
   rw [List.take_succ_eq_append_getElem hj2, <- List.append_assoc, List.map_append (l₂ := [B2[j]])]
   simp [hB2, ZK]
  have hl : (N1 ++ B2.take j).length = a.nodes.length + j := by rw [List.length_append, List.length_take]; omega
  simp only [hs, hl, Bool.and_false, Zhr, Yh, Dj, YB, List.length_map, EVA, ↓reduceIte, Nat.reduceEqDiff, Nat.reduceMul, reduceCtorEq, Nat.reduceAdd, Nat.reduceSub, Nat.reduceLeDiff, Nat.reduceLT, Int.reduceToNat, Int.reduceLE, Int.reduceLT, Ze, men]
  exact ⟨by omega, by rw [Zg]; omega, Zi () hja rfl trivial⟩
 ·have : j = b.nodes.length := by omega
  subst this
  rw [show B2.take b.nodes.length = B2 from by rw [<- lB2, List.take_length]]
  refine Z9 (α := Unit) b.sites.length (fun j _ => [(71, iI j)]) (fun j _ => [(576, .bx [iI roots, .hd (lvl, 992) [] 0 (a.nodes.length + b.nodes.length) none (a.nodes.length + b.nodes.length), .hd (lvl, 1312) [] 0 (ss.length + j) none (ss.length + j), iI (a.edges + b.edges), .hd (lvl, 994) [] 0 (Xc o).length none (Xc o).length, .tr (.sl ((b.inner.map (Zas FR)).map ZO))]), (1312, .ar 1 (rI (ss ++ (b.sites.take j).map mv)) true (ss.length + j) 0)]) (fun _ _ => True) () (by simp only [Yh, EVA, ↓reduceIte, Nat.reduceEqDiff, Nat.reduceMul, reduceCtorEq, Nat.reduceAdd, Nat.reduceSub, Nat.reduceLeDiff, Nat.reduceLT, Int.reduceToNat, Int.reduceLE, Int.reduceLT, Ze, men]) (by simp only [EVA, ↓reduceIte, Nat.reduceEqDiff, Nat.reduceMul, reduceCtorEq, Nat.reduceAdd, Nat.reduceSub, Nat.reduceLeDiff, Nat.reduceLT, Int.reduceToNat, Int.reduceLE, Int.reduceLT, Ze, men]; simp) trivial ?_
  intro j _ hj _
  simp only [List.length_map, EVA, ↓reduceIte, Nat.reduceEqDiff, Nat.reduceMul, reduceCtorEq, Nat.reduceAdd, Nat.reduceSub, Nat.reduceLeDiff, Nat.reduceLT, Int.reduceToNat, Int.reduceLE, Int.reduceLT, Ze, men]
  refine Zu (fun hlt => ?_) (fun hge => ?_)
  ·have hja : j < b.sites.length := by omega
   have ga := X2 hja
   have e0 : g0 b.sites j = b.sites[j] := by simp [hja]
   have hx := List.getElem_mem hja
   have hbp := DK hb hx
   have hge := Yi rb.1 (hb.sites _ hx)
   rw [<- e0] at hbp hge
   simp only [ga, hja, Yh, Dj, YB, List.length_map, EVA, ↓reduceIte, Nat.reduceEqDiff, Nat.reduceMul, reduceCtorEq, Nat.reduceAdd, Nat.reduceSub, Nat.reduceLeDiff, Nat.reduceLT, Int.reduceToNat, Int.reduceLE, Int.reduceLT, Ze, men]
   have q3 := ZgE a (g0 b.sites j) pf ps pl (by omega) (by omega) (fun h => hP _ hge h)
   rw [<- hmv] at q3
   simp only [Za, List.map_cons, List.map_nil] at q3
   refine Zb q3 ?_
   have hs : rI (ss ++ (b.sites.take j).map mv) ++ [[tv (mv (g0 b.sites j))]] = rI (ss ++ (b.sites.take (j + 1)).map mv) := by
    rw [List.take_succ_eq_append_getElem hja, List.map_append, <- List.append_assoc, UE (ss ++ _), e0]
    rfl
   have hl : (ss ++ (b.sites.take j).map mv).length = ss.length + j := by rw [List.length_append, List.length_map, List.length_take]; omega
   simp only [hs, hl, Bool.and_false, Zhr, Yh, Dj, YB, List.length_map, EVA, ↓reduceIte, Nat.reduceEqDiff, Nat.reduceMul, reduceCtorEq, Nat.reduceAdd, Nat.reduceSub, Nat.reduceLeDiff, Nat.reduceLT, Int.reduceToNat, Int.reduceLE, Int.reduceLT, Ze, men]
   exact ⟨by omega, by rw [Zg]; omega, Zi () hja rfl trivial⟩
  ·have : j = b.sites.length := by omega
   subst this
   rw [List.take_length]
   exact ⟨by rw [List.length_append]; omega, by rw [List.length_append, List.length_map], by rw [hN1, hB2]; rfl⟩
abbrev Zws (b : TBigraph) (u : Bool) : IV := .ag [iI b.roots, .ow 3 (b.nodes.map ZK) u, .ow 1 (rI b.sites) true, iI b.edges, .ow 1 (rS b.outer) true, .tr (.sl (b.inner.map ZO))]
theorem Zhs (sig : List TControl) (a b X : TBigraph) (ha : bigOK sig a) (hb : bigOK sig b) (roots : Int) (ss : List Int) (hss : ss.length <= 1000) (o : List ByteArray) (ho : o.length <= 1000) (pf : FuncId) (ps : List (List Tr)) (pl : Int -> Int) (nf : FuncId) (ns : List (List Tr)) (nm : ByteArray -> Int × ByteArray)
  (hP : ∀ p, -b.roots <= p -> p < 0 -> ∀ lvl S, Sem Go.Proofs.Tryz.prog pf lvl (iI p :: ps.map IV.ta) S (iI (pl p)) S) (hN : ∀ x ∈ b.outer, ∀ lvl S, Sem Go.Proofs.Tryz.prog nf lvl (iS x :: ns.map IV.ta) S (oE (nm x)) S)
  (hX : Zbh a b roots ss (Xc o) (Zek a (a.edges + b.edges) (Xc o) fun x => x) (Zek b (a.edges + b.edges) (Xc o) (Zdy a nm)) (ZoG a.nodes.length pl) = X)
  (lvl : Nat) (S : Sto) : Sem Go.Proofs.Tryz.prog Qv lvl [.ag ((Za a).map .tr), .ag ((Za b).map .tr), iI roots, tI ss, .tr (.sl (rS o)), .fn pf (ps.map IV.ta), .fn nf (ns.map IV.ta)] S (Zws X (decide (b.nodes.length = 0))) S := by
 subst hX
 exact ZiR sig a b ha hb roots ss hss o ho pf ps pl nf ns nm hP hN lvl S
end Go.Fd

/-
  A BIGRAPH AFTER ANOTHER: BOTH SIDES. Own work.
-/
namespace Go.Fd
set_option maxRecDepth 20000
theorem ZoH {sig : List TControl} {a b : TBigraph} (ha : bigOK sig a) (hb : bigOK sig b) {o : List ByteArray} (ho : o.length <= 100) : (∀ l, Jd a l -> sm (g0 (Zma a (a.edges + b.edges) o) l.toNat)) := fun l hl => by
 have ea := ha.edges; have eb := hb.edges
 exact ZoE ha (by omega) ho hl
end Go.Fd

/-
  A BIGRAPH NESTED IN ANOTHER: BOTH SIDES. Own work.
-/
namespace Go.Fd
set_option maxRecDepth 20000
theorem ZiS (s : ByteArray) (lvl : Nat) (S : Sto) : Sem Go.Proofs.Tryz.prog Qw lvl [iS s] S (oE (0, s)) S := by
 refine Zf Zfa (by simp [low, men, Ze]) ?_
 simp only [Za1, EVA, ↓reduceIte, Nat.reduceEqDiff, Nat.reduceMul, reduceCtorEq, Nat.reduceAdd, Nat.reduceSub, Nat.reduceLeDiff, Nat.reduceLT, Int.reduceToNat, Int.reduceLE, Int.reduceLT, Ze, men]
theorem Zkz (n : Nat) (hn : n <= 4294967296) (lvl : Nat) (S : Sto) : Sem Go.Proofs.Tryz.prog JS lvl [.cs [], iI n] S (.ow 1 [] true) S := by
 refine Zf XZ trivial ?_
 simp only [YZ, EVA, ↓reduceIte, Nat.reduceEqDiff, Nat.reduceMul, reduceCtorEq, Nat.reduceAdd, Nat.reduceSub, Nat.reduceLeDiff, Nat.reduceLT, Int.reduceToNat, Int.reduceLE, Int.reduceLT, Ze, men]
 rw [if_neg (by omega)]
 refine ⟨by rw [Zg]; omega, by rw [Zg]; omega, ?_⟩
 split
 ·exact ⟨fun e he => by (cases he), by omega, by omega, by omega⟩
 ·trivial
theorem ZgF {α : Type} {ls : List (List α)} {j : Nat} (h : j < ls.length) : (ls.take (j + 1)).flatten = (ls.take j).flatten ++ ls[j] := by
 rw [List.take_succ_eq_append_getElem h, List.flatten_append]
 simp
theorem Zcf {α : Type} {ls : List (List α)} {j : Nat} : ((ls.take j).flatten).length <= ls.flatten.length := by
 have h := congrArg (fun l => l.flatten.length) (List.take_append_drop j ls)
 simp only [List.flatten_append, List.length_append] at h
 omega
abbrev eSS (l : List ByteArray) : List Tr := [Tr.sl (rS l)]
theorem Zht (ls : List (List ByteArray)) (hl : ls.length <= 4294967296) (ht : ls.flatten.length <= 4294967296) (lvl : Nat) (S : Sto) : Sem Go.Proofs.Tryz.prog JG lvl [.tr (.sl (ls.map eSS))] S (.ow 1 (rS ls.flatten) true) S := by
 refine Zf Xm trivial ?_
 simp only [YF, List.length_map, EVA, ↓reduceIte, Nat.reduceEqDiff, Nat.reduceMul, reduceCtorEq, Nat.reduceAdd, Nat.reduceSub, Nat.reduceLeDiff, Nat.reduceLT, Int.reduceToNat, Int.reduceLE, Int.reduceLT, Ze, men]
 refine Z9 (α := Unit) ls.length (fun j _ => [(3, iI ((ls.take j).flatten).length), (11, iI j)]) (fun _ _ => []) (fun _ _ => True) () (by simp only [EVA, ↓reduceIte, Nat.reduceEqDiff, Nat.reduceMul, reduceCtorEq, Nat.reduceAdd, Nat.reduceSub, Nat.reduceLeDiff, Nat.reduceLT, Int.reduceToNat, Int.reduceLE, Int.reduceLT, Ze, men]) (by (simp only [EVA, ↓reduceIte, Nat.reduceEqDiff, Nat.reduceMul, reduceCtorEq, Nat.reduceAdd, Nat.reduceSub, Nat.reduceLeDiff, Nat.reduceLT, Int.reduceToNat, Int.reduceLE, Int.reduceLT, Ze, men]) <;> rfl) trivial ?_
 intro j _ hj _
 simp only [List.length_map, EVA, ↓reduceIte, Nat.reduceEqDiff, Nat.reduceMul, reduceCtorEq, Nat.reduceAdd, Nat.reduceSub, Nat.reduceLeDiff, Nat.reduceLT, Int.reduceToNat, Int.reduceLE, Int.reduceLT, Ze, men]
 refine Zu (fun hlt => ?_) (fun hge => ?_)
 ·have hja : j < ls.length := by omega
  have ga := Zaw (c := eSS) hja
  have h1 := ZgF (ls := ls) hja
  have h2 := Zcf (ls := ls) (j := j + 1)
  rw [h1, List.length_append] at h2
  simp only [ga, List.length_map, EVA, ↓reduceIte, Nat.reduceEqDiff, Nat.reduceMul, reduceCtorEq, Nat.reduceAdd, Nat.reduceSub, Nat.reduceLeDiff, Nat.reduceLT, Int.reduceToNat, Int.reduceLE, Int.reduceLT, Ze, men]
  refine ⟨by rw [Zg]; omega, ?_⟩
  rw [if_neg (by omega)]
  exact ⟨by rw [Zg]; omega, Zi () hja (by rw [h1, List.length_append]; rfl) trivial⟩
 ·have : j = ls.length := by omega
  subst this
  rw [List.take_length]
  refine ZjO (Zkz _ ht _ _) ?_
  simp only [List.length_map, EVA, ↓reduceIte, Nat.reduceEqDiff, Nat.reduceMul, reduceCtorEq, Nat.reduceAdd, Nat.reduceSub, Nat.reduceLeDiff, Nat.reduceLT, Int.reduceToNat, Int.reduceLE, Int.reduceLT, Ze, men]
  refine Z9 (α := Unit) ls.length (fun j _ => [(6, .hd (lvl, 768) [] 0 ((ls.take j).flatten).length none ((ls.take j).flatten).length), (27, iI j)]) (fun j _ => [(768, .ar 1 (rS (ls.take j).flatten) true ((ls.take j).flatten).length 0)]) (fun _ _ => True) () (by simp only [EVA, ↓reduceIte, Nat.reduceEqDiff, Nat.reduceMul, reduceCtorEq, Nat.reduceAdd, Nat.reduceSub, Nat.reduceLeDiff, Nat.reduceLT, Int.reduceToNat, Int.reduceLE, Int.reduceLT, Ze, men]) (by (simp only [EVA, ↓reduceIte, Nat.reduceEqDiff, Nat.reduceMul, reduceCtorEq, Nat.reduceAdd, Nat.reduceSub, Nat.reduceLeDiff, Nat.reduceLT, Int.reduceToNat, Int.reduceLE, Int.reduceLT, Ze, men]) <;> rfl) trivial ?_
  intro j _ hj _
  simp only [List.length_map, EVA, ↓reduceIte, Nat.reduceEqDiff, Nat.reduceMul, reduceCtorEq, Nat.reduceAdd, Nat.reduceSub, Nat.reduceLeDiff, Nat.reduceLT, Int.reduceToNat, Int.reduceLE, Int.reduceLT, Ze, men]
  refine Zu (fun hlt2 => ?_) (fun hge2 => ?_)
  ·have hja : j < ls.length := by omega
   have ga := Zaw (c := eSS) hja
   have h1 := ZgF (ls := ls) hja
   have h2 := Zcf (ls := ls) (j := j + 1)
   rw [h1, List.length_append] at h2
   simp only [ga, Zo1, Zo2, List.length_map, EVA, ↓reduceIte, Nat.reduceEqDiff, Nat.reduceMul, reduceCtorEq, Nat.reduceAdd, Nat.reduceSub, Nat.reduceLeDiff, Nat.reduceLT, Int.reduceToNat, Int.reduceLE, Int.reduceLT, Ze, men]
   exact ⟨by omega, by rw [Zg]; omega, Zi () hja (by rw [h1, List.length_append, Zic, Nat.max_eq_right (Nat.le_add_right _ _)]; rfl) trivial⟩
  ·have : j = ls.length := by omega
   subst this
   rw [List.take_length]
theorem Dr {a b : TBigraph} : (Xy a b).length <= a.outer.length + b.outer.length := Nat.le_trans Zik (by rw [List.length_append]; omega)
end Go.Fd

/-
  BIGRAPHS SIDE BY SIDE: IN PLAIN TERMS, AND THE REFERENCE'S SIDE. Own work.
-/
namespace Go.Fd
set_option maxRecDepth 20000
def wlt (x y : TWire) : Prop := ltS x.name y.name
open Classical in
noncomputable def Zi7 : List TWire -> TWire -> List TWire
 | [], w => [w]
 | x :: r, w => if wlt x w then x :: Zi7 r w else w :: x :: r
theorem ZkA {w : TWire} : ∀ {O : List TWire} {k : Nat}, k <= O.length -> (∀ y ∈ O.take k, wlt y w) -> (∀ h : k < O.length, ¬ wlt O[k] w) -> Zi7 O w = O.take k ++ ([w] ++ O.drop k)
 | [], 0, _, _, _ => rfl
 | [], k + 1, h, _, _ => by simp at h
 | x :: r, 0, _, _, h2 => by
  have : ¬ wlt x w := h2 (by simp)
  rw [Zi7, if_neg this]
  rfl
 | x :: r, k + 1, h, h1, h2 => by
  have : wlt x w := h1 x (by simp)
  rw [Zi7, if_pos this, ZkA (k := k) (by simpa using h) (fun y hy => h1 y (by simp [hy])) (fun h3 => by
   have := h2 (by simpa using h3)
   simpa using this)]
  simp
theorem insW_perm {w : TWire} : ∀ {O : List TWire}, (Zi7 O w).Perm (w :: O)
 | [] => List.Perm.refl _
 | x :: r => by
  rw [Zi7]
  split
  ·exact (List.Perm.cons x insW_perm).trans (List.Perm.swap w x r)
  ·exact List.Perm.refl _
theorem ZkB {w : TWire} : ∀ {O : List TWire}, O.Pairwise wlt -> (∀ x ∈ O, x.name ≠ w.name) -> (Zi7 O w).Pairwise wlt
 | [], _, _ => List.pairwise_singleton ..
 | x :: r, h, hn => by
  have hc := List.pairwise_cons.1 h
  rw [Zi7]
  split
  ·rename_i hlt
   refine List.pairwise_cons.2 ⟨fun y hy => ?_, ZkB hc.2 fun z hz => hn z (by simp [hz])⟩
   rcases List.mem_cons.1 (insW_perm.mem_iff.1 hy) with rfl | hy
   ·exact hlt
   ·exact hc.1 y hy
  ·rename_i hlt
   have hwx : wlt w x := by
    rcases ordsS.tri x.name w.name with q | q | q
    ·exact absurd q hlt
    ·exact absurd q (hn x (by simp))
    ·exact q
   refine List.pairwise_cons.2 ⟨fun y hy => ?_, h⟩
   rcases List.mem_cons.1 hy with rfl | hy
   ·exact hwx
   ·exact ordsS.tr _ _ _ hwx (hc.1 y hy)
noncomputable def W1 (a b : List TWire) : List TWire := b.foldl Zi7 a
theorem wjoin_perm : ∀ {b a : List TWire}, (W1 a b).Perm (a ++ b)
 | [], a => by simp [W1]
 | w :: r, a => by
  have h := wjoin_perm (b := r) (a := Zi7 a w)
  refine h.trans ?_
  refine (insW_perm.append_right r).trans ?_
  exact List.perm_middle.symm
theorem Zbj {a b : List TWire} : (W1 a b).length = a.length + b.length := by rw [wjoin_perm.length_eq, List.length_append]
theorem ZiT {a b : List TWire} {j : Nat} (h : j < b.length) : W1 a (b.take (j + 1)) = Zi7 (W1 a (b.take j)) b[j] := by
 unfold W1
 rw [List.take_succ_eq_append_getElem h, List.foldl_append]
 rfl
theorem Zin : ∀ {b a : List TWire}, a.Pairwise wlt -> b.Pairwise wlt -> (∀ x ∈ a, ∀ y ∈ b, x.name ≠ y.name) -> (W1 a b).Pairwise wlt
 | [], a, ha, _, _ => ha
 | w :: r, a, ha, hb, hd => by
  have hc := List.pairwise_cons.1 hb
  refine Zin (b := r) (a := Zi7 a w) (ZkB ha fun x hx => hd x hx w (by simp)) hc.2 fun x hx y hy => ?_
  rcases List.mem_cons.1 (insW_perm.mem_iff.1 hx) with rfl | hx
  ·intro e
   have := hc.1 y hy
   unfold wlt at this
   rw [e] at this
   exact ordsS.irr _ this
  ·exact hd x hx y (by simp [hy])
theorem ZrW {l : List TWire} {j : Nat} : cut (l.map ZO) 0 (j - 0) = (l.take j).map ZO := by simp [cut, List.map_take]
theorem ZrX {l : List TWire} {j : Nat} : cut (l.map ZO) j (l.length - j) = (l.drop j).map ZO := by
 simp only [cut, <- List.map_drop]
 rw [List.take_of_length_le (by rw [List.length_map, List.length_drop]; omega)]
theorem ZmX {a b : List TWire} {x : TWire} : a.map ZO ++ [[Tr.v (Value.string x.name), Tr.v (Value.int .i64 x.link)]] ++ b.map ZO = (a ++ ([x] ++ b)).map ZO := by simp [ZO]
theorem Zhu (a b : List TWire) (hl : a.length + b.length <= 4294967290) (lvl : Nat) (S : Sto) : Sem Go.Proofs.Tryz.prog Xk lvl [.tr (.sl (a.map ZO)), .tr (.sl (b.map ZO))] S (.ow 2 ((W1 a b).map ZO) true) S := by
 refine Zf ZdY (by simp [low, men, Ze]) ?_
 simp only [Zaf, ZrP, ZrQ, Nat.zero_max, List.length_map, EVA, ↓reduceIte, Nat.reduceEqDiff, Nat.reduceMul, reduceCtorEq, Nat.reduceAdd, Nat.reduceSub, Nat.reduceLeDiff, Nat.reduceLT, Int.reduceToNat, Int.reduceLE, Int.reduceLT, Ze, men]
 refine ⟨by omega, ?_⟩
 refine Z9 (α := Unit) b.length (fun j _ => [(5, .hd (lvl, 160) [] 0 (W1 a (b.take j)).length none (W1 a (b.take j)).length), (6, iI j)]) (fun j _ => [(160, .ar 2 ((W1 a (b.take j)).map ZO) true (W1 a (b.take j)).length 0)]) (fun _ _ => True) () (by simp only [EVA, ↓reduceIte, Nat.reduceEqDiff, Nat.reduceMul, reduceCtorEq, Nat.reduceAdd, Nat.reduceSub, Nat.reduceLeDiff, Nat.reduceLT, Int.reduceToNat, Int.reduceLE, Int.reduceLT, Ze, men]) (by simp only [List.take_zero, W1, List.foldl_nil]; (simp only [EVA, ↓reduceIte, Nat.reduceEqDiff, Nat.reduceMul, reduceCtorEq, Nat.reduceAdd, Nat.reduceSub, Nat.reduceLeDiff, Nat.reduceLT, Int.reduceToNat, Int.reduceLE, Int.reduceLT, Ze, men]) <;> rfl) trivial ?_
 intro j _ hj _
 simp only [List.length_map, EVA, ↓reduceIte, Nat.reduceEqDiff, Nat.reduceMul, reduceCtorEq, Nat.reduceAdd, Nat.reduceSub, Nat.reduceLeDiff, Nat.reduceLT, Int.reduceToNat, Int.reduceLE, Int.reduceLT, Ze, men]
 refine Zu (fun hlt => ?_) (fun hge => ?_)
 ·have hja : j < b.length := by omega
  have ga := Zaw (c := ZO) hja
  obtain ⟨O, hO⟩ : ∃ O, O = W1 a (b.take j) := ⟨_, rfl⟩
  have hOl : O.length = a.length + j := by rw [hO, Zbj, List.length_take]; omega
  have hsucc := ZiT (a := a) hja
  rw [<- hO] at hsucc
  rw [<- hO]
  refine Z9 (α := Unit) O.length (fun k _ => [(7, iI k)]) (fun _ _ => []) (fun k _ => ∀ y ∈ O.take k, wlt y b[j]) () (by simp only [EVA, ↓reduceIte, Nat.reduceEqDiff, Nat.reduceMul, reduceCtorEq, Nat.reduceAdd, Nat.reduceSub, Nat.reduceLeDiff, Nat.reduceLT, Int.reduceToNat, Int.reduceLE, Int.reduceLT, Ze, men]) (by (simp only [EVA, ↓reduceIte, Nat.reduceEqDiff, Nat.reduceMul, reduceCtorEq, Nat.reduceAdd, Nat.reduceSub, Nat.reduceLeDiff, Nat.reduceLT, Int.reduceToNat, Int.reduceLE, Int.reduceLT, Ze, men]) <;> rfl) (by simp) ?_
  intro k _ hk hK
  have hput := ZkA (w := b[j]) hk hK
  have hpl : (O.take k ++ ([b[j]] ++ O.drop k)).length = O.length + 1 := by
   simp only [List.length_append, List.length_take, List.length_drop, List.length_cons, List.length_nil]
   omega
  have hm : min k O.length = k := by omega
  have hq1 : k + 1 + (O.length - k) = O.length + 1 := by omega
  have hq2 : max (max (max 0 k) (k + 1)) (O.length + 1) = O.length + 1 := by omega
  have hq3 : k + (O.length - k) = O.length := by omega
  have hfit : Q1 .i64 ((j : Int) + 1) := by rw [Zg]; omega
  simp only [List.length_map, EVA, ↓reduceIte, Nat.reduceEqDiff, Nat.reduceMul, reduceCtorEq, Nat.reduceAdd, Nat.reduceSub, Nat.reduceLeDiff, Nat.reduceLT, Int.reduceToNat, Int.reduceLE, Int.reduceLT, Ze, men]
  refine Zu (fun hlt2 => ?_) (fun hge2 => ?_)
  ·have hka : k < O.length := by omega
   have gk := Zaw (c := ZO) hka
   simp only [ga, gk, ZO, hja, hka, hm, hq1, hq2, hq3, ZrW, ZrX, ZrP, ZrQ, List.length_append, List.length_take, List.length_drop, List.length_map, EVA, ↓reduceIte, Nat.reduceEqDiff, Nat.reduceMul, reduceCtorEq, Nat.reduceAdd, Nat.reduceSub, Nat.reduceLeDiff, Nat.reduceLT, Int.reduceToNat, Int.reduceLE, Int.reduceLT, Ze, men]
   refine Zu (fun h1 => ?_) (fun h1 => ?_)
   ·exact ⟨by rw [Zg]; omega, Zi () hka rfl fun y hy => by
     rw [List.take_succ_eq_append_getElem hka] at hy
     rcases List.mem_append.1 hy with hy | hy
     ·exact hK y hy
     ·rw [List.mem_singleton.1 hy]; exact h1⟩
   ·have hp := hput fun _ => h1
    exact ⟨by omega, by omega, by omega, by omega, by omega, by omega, by omega, by omega, hfit, Zi () hja (by rw [hsucc, hp, hpl, <- ZmX]; rfl) trivial⟩
  ·have : k = O.length := by omega
   subst this
   simp only [ga, ZO, hja, hm, hq1, hq2, hq3, ZrW, ZrX, ZrP, ZrQ, List.length_append, List.length_take, List.length_drop, List.length_map, EVA, ↓reduceIte, Nat.reduceEqDiff, Nat.reduceMul, reduceCtorEq, Nat.reduceAdd, Nat.reduceSub, Nat.reduceLeDiff, Nat.reduceLT, Int.reduceToNat, Int.reduceLE, Int.reduceLT, Ze, men]
   have hp := hput fun h => absurd h (by omega)
   rw [List.take_length] at hp hpl
   exact ⟨by omega, by omega, by omega, by omega, by omega, hfit, Zi () hja (by rw [hsucc, hp, hpl, <- ZmX]; rfl) trivial⟩
 ·have : j = b.length := by omega
  subst this
  rw [List.take_length]
theorem Uq (a b : List ByteArray) (ha : a.length <= 4294967290) (hb : b.length <= 4294967290) (lvl : Nat) (S : Sto) : Sem Go.Proofs.Tryz.prog J9 lvl [.tr (.sl (rS a)), .tr (.sl (rS b))] S (iB (dc (∀ x ∈ a, x ∉ b))) S := by
 refine Zf ZdP trivial ?_
 simp only [D0, List.length_map, EVA, ↓reduceIte, Nat.reduceEqDiff, Nat.reduceMul, reduceCtorEq, Nat.reduceAdd, Nat.reduceSub, Nat.reduceLeDiff, Nat.reduceLT, Int.reduceToNat, Int.reduceLE, Int.reduceLT, Ze, men]
 refine Z9 (α := Unit) a.length (fun j _ => [(5, iI j)]) (fun _ _ => []) (fun j _ => ∀ x ∈ a.take j, x ∉ b) () (by simp only [EVA, ↓reduceIte, Nat.reduceEqDiff, Nat.reduceMul, reduceCtorEq, Nat.reduceAdd, Nat.reduceSub, Nat.reduceLeDiff, Nat.reduceLT, Int.reduceToNat, Int.reduceLE, Int.reduceLT, Ze, men]) (by (simp only [EVA, ↓reduceIte, Nat.reduceEqDiff, Nat.reduceMul, reduceCtorEq, Nat.reduceAdd, Nat.reduceSub, Nat.reduceLeDiff, Nat.reduceLT, Int.reduceToNat, Int.reduceLE, Int.reduceLT, Ze, men]) <;> rfl) (by simp) ?_
 intro j _ hj hA
 simp only [List.length_map, EVA, ↓reduceIte, Nat.reduceEqDiff, Nat.reduceMul, reduceCtorEq, Nat.reduceAdd, Nat.reduceSub, Nat.reduceLeDiff, Nat.reduceLT, Int.reduceToNat, Int.reduceLE, Int.reduceLT, Ze, men]
 refine Zu (fun hlt => ?_) (fun hge => ?_)
 ·have hja : j < a.length := by omega
  have ga := Zgt (e0 := e0S) (c := fun n : ByteArray => [ts n]) hja
  rw [Dl hja] at ga
  simp only [ga, hja, List.length_map, EVA, ↓reduceIte, Nat.reduceEqDiff, Nat.reduceMul, reduceCtorEq, Nat.reduceAdd, Nat.reduceSub, Nat.reduceLeDiff, Nat.reduceLT, Int.reduceToNat, Int.reduceLE, Int.reduceLT, Ze, men]
  refine Zb (Zih b a[j] (by omega)) ?_
  by_cases hm : a[j] ∈ b
  ·have h0 := ixS_nn.2 hm
   have hno : ¬ ∀ x ∈ a, x ∉ b := fun g => g _ (List.getElem_mem hja) hm
   rw [Zp hno]
   simp only [h0, EVA, ↓reduceIte, Nat.reduceEqDiff, Nat.reduceMul, reduceCtorEq, Nat.reduceAdd, Nat.reduceSub, Nat.reduceLeDiff, Nat.reduceLT, Int.reduceToNat, Int.reduceLE, Int.reduceLT, Ze, men]
  ·have h0 : ¬ (0 : Int) <= ixS b a[j] := fun g => hm (ixS_nn.1 g)
   simp only [h0, EVA, ↓reduceIte, Nat.reduceEqDiff, Nat.reduceMul, reduceCtorEq, Nat.reduceAdd, Nat.reduceSub, Nat.reduceLeDiff, Nat.reduceLT, Int.reduceToNat, Int.reduceLE, Int.reduceLT, Ze, men]
   exact ⟨by rw [Zg]; omega, Zi () hja rfl (by
    intro x hx
    rw [List.take_succ_eq_append_getElem hja] at hx
    rcases List.mem_append.1 hx with hx | hx
    ·exact hA x hx
    ·rw [List.mem_singleton.1 hx]; exact hm)⟩
 ·have : j = a.length := by omega
  subst this
  rw [List.take_length] at hA
  rw [Jn hA]
def ZoI (J : TBigraph) (w : List TWire) : TBigraph := ⟨J.roots, J.nodes, J.sites, J.edges, J.outer, w⟩
def Zhv (a : TBigraph) (p : Int) : Int := if 0 <= p then p + a.nodes.length else p - a.roots
noncomputable def ZiU (a b : TBigraph) : List Int := Zma a (a.edges + b.edges) (Xy a b)
noncomputable def ZkC (a b : TBigraph) : List Int := ZmR a b fun x => a.edges + b.edges + ixS (Xy a b) x
noncomputable def Zo3 (a b : TBigraph) : TBigraph := Zbh a b (a.roots + b.roots) a.sites (Xy a b) (fun l => g0 (ZiU a b) l.toNat) (fun l => g0 (ZkC a b) l.toNat) (Zhv a)
noncomputable def Zax (a b : TBigraph) : TBigraph := ZoI (Zo3 a b) (W1 (a.inner.map (Zas fun l => g0 (ZiU a b) l.toNat)) (b.inner.map (Zas fun l => g0 (ZkC a b) l.toNat)))
theorem Zhw {r : Int} {n : Nat} {k : Nat} (h : k < n) : g0 (Yw r n) k = -1 - r - (k : Int) := by
 show (Yw r n).getD k 0 = _
 rw [List.getD_eq_getElem?_getD, Yw, List.getElem?_map, List.getElem?_range h]
 simp
theorem Zio {a b : TBigraph} {n : Nat} (hn : b.roots = n) {p : Int} (h : -b.roots <= p) : Zeo a.nodes.length (Yw a.roots n) p = Zhv a p := by
 unfold Zeo Zhv
 by_cases h0 : 0 <= p
 ·rw [if_neg (by omega), if_pos h0]
 ·rw [if_pos (by omega), if_neg h0, Zhw (by omega)]
  omega
theorem ZkD {sig : List TControl} {a b : TBigraph} (h : bigOK sig b) {n : Nat} (hn : b.roots = n) {ls : List Int} : b.nodes.map (Zfp a.nodes.length (Yw a.roots n) ls) = b.nodes.map (fun x => ({ control := x.control, parent := Zhv a x.parent, links := x.links.map fun l => g0 ls l.toNat } : TNode)) := List.map_congr_left fun x hx => by
 obtain ⟨k, hk, rfl⟩ := List.getElem_of_mem hx
 unfold Zfp
 rw [Zio hn (Yi h.roots.1 (h.nodes k hk).par)]
theorem ZkE {sig : List TControl} {a b : TBigraph} (h : bigOK sig b) {n : Nat} (hn : b.roots = n) : b.sites.map (Zeo a.nodes.length (Yw a.roots n)) = b.sites.map (Zhv a) := List.map_congr_left fun p hp => Zio hn (Yi h.roots.1 (h.sites p hp))
theorem ZbR (sig : List TControl) (a b : TBigraph) (ha : bigOK sig a) (hb : bigOK sig b) (lvl : Nat) (S : Sto) : Sem Go.Proofs.Tryz.prog YW lvl [.ag ((Za a).map .tr), .ag ((Za b).map .tr)] S (ZmW (Zax a b) false) S := by
 have ra := ha.roots; have rb := hb.roots
 have ea := ha.edges; have eb := hb.edges
 have sa := ha.small; have sb := hb.small
 have a1 := sa.nodes; have a2 := sa.sites; have a3 := sa.inner; have a4 := sa.outer
 have b1 := sb.nodes; have b2 := sb.sites; have b3 := sb.inner; have b4 := sb.outer
 have hol := Dr (a := a) (b := b)
 obtain ⟨n, hn⟩ : ∃ n : Nat, a.roots = n := ⟨a.roots.toNat, by omega⟩
 obtain ⟨n2, hn2⟩ : ∃ n : Nat, b.roots = n := ⟨b.roots.toNat, by omega⟩
 obtain ⟨m, hm⟩ : ∃ m : Nat, a.edges = m := ⟨a.edges.toNat, by omega⟩
 obtain ⟨k, hk⟩ : ∃ k : Nat, b.edges = k := ⟨b.edges.toNat, by omega⟩
 obtain ⟨L, hL⟩ : ∃ L, L = ZiU a b := ⟨_, rfl⟩
 obtain ⟨R, hR⟩ : ∃ R, R = ZkC a b := ⟨_, rfl⟩
 have lenL : (L.length : Int) = a.edges + a.outer.length := by rw [hL]; exact Zim ea.1
 have lenR : (R.length : Int) = b.edges + b.outer.length := by rw [hR]; exact Zim eb.1
 have w1 : rI (Dn 0 m) ++ rI (a.outer.map fun x => (m : Int) + k + ixS (Xy a b) x) = rI L := by rw [<- UE, hL, ZiU, <- ZoA hm, hm, hk]
 have w2 : m + a.outer.length = L.length := by omega
 have w3 : rI (Dn (m : Int) k) ++ rI (b.outer.map fun x => (m : Int) + k + ixS (Xy a b) x) = rI R := by rw [<- UE, hR, ZkC, <- ZoB hk, hm, hk]
 have w4 : k + b.outer.length = R.length := by omega
 have w5 : max m L.length = L.length := by omega
 have w6 : max k R.length = R.length := by omega
 have c1 : cut (rI L) 0 L.length = rI L := Dm (by rw [List.length_map])
 have c2 : cut (rI R) 0 R.length = rI R := Dm (by rw [List.length_map])
 refine Zf Zfb (by simp [low, men, Ze]) ?_
 simp only [Za2, Za, Zo1, Zo2, hn, hn2, hm, hk, Nat.zero_max, List.length_map, EVA, ↓reduceIte, Nat.reduceEqDiff, Nat.reduceMul, reduceCtorEq, Nat.reduceAdd, Nat.reduceSub, Nat.reduceLeDiff, Nat.reduceLT, Int.reduceToNat, Int.reduceLE, Int.reduceLT, Ze, men]
 rw [show cut (rS a.outer ++ rS b.outer) 0 (a.outer.length + b.outer.length) = rS (a.outer ++ b.outer) from by
  rw [<- Zic]
  exact Dm (by simp [rS])]
 refine ⟨by omega, by omega, by simp [rS], Zb (ZgB (a.outer ++ b.outer) (by rw [List.length_append]; omega)) ?_⟩
 rw [show Xc (a.outer ++ b.outer) = Xy a b from rfl]
 simp only [Za, hm, hk, List.length_map, EVA, ↓reduceIte, Nat.reduceEqDiff, Nat.reduceMul, reduceCtorEq, Nat.reduceAdd, Nat.reduceSub, Nat.reduceLeDiff, Nat.reduceLT, Int.reduceToNat, Int.reduceLE, Int.reduceLT, Ze, men]
 have c0 : cut (rS (Xy a b)) 0 (Xy a b).length = rS (Xy a b) := Dm (by rw [List.length_map])
 refine ⟨by rw [Zg]; omega, Zb (Zdr 0 m (by omega) (by omega)) ?_⟩
 simp only [Za, c0, hm, hk, fromN_len, List.length_map, EVA, ↓reduceIte, Nat.reduceEqDiff, Nat.reduceMul, reduceCtorEq, Nat.reduceAdd, Nat.reduceSub, Nat.reduceLeDiff, Nat.reduceLT, Int.reduceToNat, Int.reduceLE, Int.reduceLT, Ze, men]
 refine Zb (Zdx a.outer (m + k) (Xy a b) (by omega) (by omega) (by omega)) ?_
 simp only [Za, c0, Zl6, Zl7, hm, hk, w1, w2, w5, fromN_len, List.length_append, List.length_map, EVA, ↓reduceIte, Nat.reduceEqDiff, Nat.reduceMul, reduceCtorEq, Nat.reduceAdd, Nat.reduceSub, Nat.reduceLeDiff, Nat.reduceLT, Int.reduceToNat, Int.reduceLE, Int.reduceLT, Ze, men]
 refine ⟨by omega, Zb (Zdr m k (by omega) (by omega)) ?_⟩
 simp only [Za, c0, hm, hk, fromN_len, List.length_map, EVA, ↓reduceIte, Nat.reduceEqDiff, Nat.reduceMul, reduceCtorEq, Nat.reduceAdd, Nat.reduceSub, Nat.reduceLeDiff, Nat.reduceLT, Int.reduceToNat, Int.reduceLE, Int.reduceLT, Ze, men]
 refine Zb (Zdx b.outer (m + k) (Xy a b) (by omega) (by omega) (by omega)) ?_
 simp only [Za, c0, Zl6, Zl7, hm, hk, w3, w4, w6, fromN_len, List.length_append, List.length_map, EVA, ↓reduceIte, Nat.reduceEqDiff, Nat.reduceMul, reduceCtorEq, Nat.reduceAdd, Nat.reduceSub, Nat.reduceLeDiff, Nat.reduceLT, Int.reduceToNat, Int.reduceLE, Int.reduceLT, Ze, men]
 refine ⟨by omega, Zb (Zds 0 n (by omega) (by omega)) ?_⟩
 simp only [Za, hm, hk, List.length_map, EVA, ↓reduceIte, Nat.reduceEqDiff, Nat.reduceMul, reduceCtorEq, Nat.reduceAdd, Nat.reduceSub, Nat.reduceLeDiff, Nat.reduceLT, Int.reduceToNat, Int.reduceLE, Int.reduceLT, Ze, men]
 refine Zb (Zds n n2 (by omega) (by omega)) ?_
 simp only [Za, hm, hk, c1, c2, List.length_map, EVA, ↓reduceIte, Nat.reduceEqDiff, Nat.reduceMul, reduceCtorEq, Nat.reduceAdd, Nat.reduceSub, Nat.reduceLeDiff, Nat.reduceLT, Int.reduceToNat, Int.reduceLE, Int.reduceLT, Ze, men]
 refine ⟨by rw [Zg]; omega, ?_⟩
 have q2 := Zdu a 0 (Yw 0 n) L (by omega) (by omega) (ZmT ha (by rw [rootsN_len]; omega) lenL)
 rw [Zmb ha hn] at q2
 simp only [Za, hn, hm, List.map_cons, List.map_nil] at q2
 refine Zb q2 ?_
 simp only [Za, hm, hk, c1, c2, List.length_map, EVA, ↓reduceIte, Nat.reduceEqDiff, Nat.reduceMul, reduceCtorEq, Nat.reduceAdd, Nat.reduceSub, Nat.reduceLeDiff, Nat.reduceLT, Int.reduceToNat, Int.reduceLE, Int.reduceLT, Ze, men]
 have q3 := Zdu b a.nodes.length (Yw a.roots n2) R (by omega) (by omega) (ZmT hb (by rw [rootsN_len]; omega) lenR)
 rw [ZkD hb hn2] at q3
 simp only [Za, hn, hn2, hk, List.map_cons, List.map_nil] at q3
 refine Zb q3 ?_
 simp only [Za, ZxG, hm, hk, c1, c2, List.length_append, List.length_map, EVA, ↓reduceIte, Nat.reduceEqDiff, Nat.reduceMul, reduceCtorEq, Nat.reduceAdd, Nat.reduceSub, Nat.reduceLeDiff, Nat.reduceLT, Int.reduceToNat, Int.reduceLE, Int.reduceLT, Ze, men]
 refine ⟨by omega, ?_⟩
 have q4 := Zar a 0 (Yw 0 n) (by omega) (by omega) (ZmU ha (by rw [rootsN_len]; omega))
 rw [Zmc ha hn] at q4
 simp only [Za, hn, hm, List.map_cons, List.map_nil] at q4
 refine Zb q4 ?_
 simp only [Za, hm, hk, c1, c2, List.length_append, List.length_map, EVA, ↓reduceIte, Nat.reduceEqDiff, Nat.reduceMul, reduceCtorEq, Nat.reduceAdd, Nat.reduceSub, Nat.reduceLeDiff, Nat.reduceLT, Int.reduceToNat, Int.reduceLE, Int.reduceLT, Ze, men]
 have q5 := Zar b a.nodes.length (Yw a.roots n2) (by omega) (by omega) (ZmU hb (by rw [rootsN_len]; omega))
 rw [ZkE hb hn2] at q5
 simp only [Za, hn, hn2, hk, List.map_cons, List.map_nil] at q5
 refine Zb q5 ?_
 simp only [Za, Zl6, Zl7, hm, hk, c1, c2, List.length_append, List.length_map, EVA, ↓reduceIte, Nat.reduceEqDiff, Nat.reduceMul, reduceCtorEq, Nat.reduceAdd, Nat.reduceSub, Nat.reduceLeDiff, Nat.reduceLT, Int.reduceToNat, Int.reduceLE, Int.reduceLT, Ze, men]
 refine ⟨by omega, ?_⟩
 have q6 := Zdt a L (by omega) (ZmV ha lenL)
 simp only [Za, hn, hm, List.map_cons, List.map_nil] at q6
 refine Zb q6 ?_
 simp only [Za, hm, hk, c1, c2, List.length_append, List.length_map, EVA, ↓reduceIte, Nat.reduceEqDiff, Nat.reduceMul, reduceCtorEq, Nat.reduceAdd, Nat.reduceSub, Nat.reduceLeDiff, Nat.reduceLT, Int.reduceToNat, Int.reduceLE, Int.reduceLT, Ze, men]
 have q7 := Zdt b R (by omega) (ZmV hb lenR)
 simp only [Za, hn2, hk, List.map_cons, List.map_nil] at q7
 refine Zb q7 ?_
 simp only [Za, hm, hk, c1, c2, List.length_append, List.length_map, EVA, ↓reduceIte, Nat.reduceEqDiff, Nat.reduceMul, reduceCtorEq, Nat.reduceAdd, Nat.reduceSub, Nat.reduceLeDiff, Nat.reduceLT, Int.reduceToNat, Int.reduceLE, Int.reduceLT, Ze, men]
 have q8 := Zhu (a.inner.map (Zho L)) (b.inner.map (Zho R)) (by rw [List.length_map, List.length_map]; omega)
 refine Zb q8 ?_
 simp only [Za, hm, hk, c1, c2, Zbj, List.length_append, List.length_map, EVA, ↓reduceIte, Nat.reduceEqDiff, Nat.reduceMul, reduceCtorEq, Nat.reduceAdd, Nat.reduceSub, Nat.reduceLeDiff, Nat.reduceLT, Int.reduceToNat, Int.reduceLE, Int.reduceLT, Ze, men]
 simp only [ZmW, Zax, Zo3, ZoI, Zbh, <- hL, <- hR, List.map_append, UE, hn, hn2, hm, hk]
 rfl
end Go.Fd

/-
  SORTING WIRES BY NAME: THE LIBRARY'S CONTRACT AT THIS PROGRAM. Own work.
-/
namespace Go.Proofs
open Go.Shelf Go.RowKit Go.Lib Go.Sort
instance : Inhabited Go.Fd.TWire := ⟨⟨⟨#[]⟩, 0⟩⟩
def ZrY (w : Go.Fd.TWire) : List Value := [.string w.name, .int .i64 w.link]
def Zmd (x y : Go.Fd.TWire) : Int := if Op.bytesLess x.name.data.toList y.name.data.toList then -1 else 1
set_option maxHeartbeats 1000000 in
theorem ZvS (x y : Go.Fd.TWire) (W : World) : Calls Tryz.prog 142 #[.agg #[.string x.name, .int .i64 x.link], .agg #[.string y.name, .int .i64 y.link]] W fun e w' => e = .returned (.int .i64 (Zmd x y)) /\ ∃ q os', w' = grow (W.drewN q) os' := by
 have hr : Zmd x y = if Op.bytesLess x.name.toList y.name.toList then -1 else 1 := by
  unfold Zmd
  rw [ByteArray.toList_eq, ByteArray.toList_eq]
 generalize Zmd x y = r at hr ⊢
 go_enter Tryz.func142, Tryz.ntmps142
 go_wp2
 ·rename_i h
  rw [h] at hr
  have hr : r = -1 := hr
  subst hr
  go_ret
  exact ⟨rfl, 0, _, by rw [alloc_eq_grow, alloc_eq_grow, grow_grow]; rfl⟩
 ·rename_i h
  rw [h] at hr
  have hr : r = 1 := hr
  subst hr
  go_ret
  exact ⟨rfl, 0, _, by rw [alloc_eq_grow, alloc_eq_grow, grow_grow]; rfl⟩
theorem Zip (x y : Go.Fd.TWire) : ltOf Zmd x y = Op.bytesLess x.name.data.toList y.name.data.toList := by
 unfold ltOf Zmd
 cases Op.bytesLess x.name.data.toList y.name.data.toList <;> rfl
theorem ZxH : SWO (ltOf Zmd) where
 irrefl x := by rw [Zip]; exact Go.Fd.bl_irr _
 trans x y z h1 h2 := by
  rw [Zip] at *
  exact Go.Fd.ordsS.tr _ _ _ h1 h2
 ntrans x y z h1 h2 := by
  rw [Zip] at *
  have := Go.Fd.ltS_tr z.name y.name x.name
  have k : ¬ Go.Fd.ltS x.name z.name := Go.Fd.ltS_tr z.name y.name x.name (by unfold Go.Fd.ltS; rw [h2]; decide) (by unfold Go.Fd.ltS; rw [h1]; decide)
  unfold Go.Fd.ltS at k
  simpa using k
theorem Zme (blk off size : Nat) (w : World) : CmpLays Tryz.prog 142 #[] ZrY 2 Zmd blk off size w :=
 fun _ _ _ _ x y => ZvS x y _
end Go.Proofs
namespace Go.Fd
open Go.Sort Go.Proofs
theorem Zwt : ∀ {x y : List TWire}, x.Pairwise wlt -> y.Pairwise wlt -> x.Perm y -> x = y
 | [], y, _, _, h => (List.Perm.nil_eq h)
 | a :: r, [], _, _, h => by simp at h
 | a :: r, b :: t, hx, hy, h => by
  have hcx := List.pairwise_cons.1 hx
  have hcy := List.pairwise_cons.1 hy
  have hab : a = b := by
   have h1 : a ∈ b :: t := h.mem_iff.1 (by simp)
   have h2 : b ∈ a :: r := h.mem_iff.2 (by simp)
   rcases List.mem_cons.1 h1 with e | h1
   ·exact e
   ·rcases List.mem_cons.1 h2 with e | h2
    ·exact e.symm
    ·exact absurd (hcx.1 b h2) (ordsS.asym _ _ (hcy.1 a h1))
  subst hab
  rw [Zwt hcx.2 hcy.2 h.cons_inv]
theorem ZxI {x y : List TWire} (hy : y.Pairwise wlt) (hp : x.Perm y) (hx : ∀ i j (hi : i < x.length) (hj : j < x.length), i < j -> ¬ wlt x[j] x[i]) : x.Pairwise wlt := by
 have hnd : x.Nodup := hp.nodup_iff.2 (hy.imp fun {a b} h e => by subst e; exact ordsS.irr _ h)
 refine List.pairwise_iff_getElem.2 fun i j hi hj hij => ?_
 rcases ordsS.tri (x[i]).name (x[j]).name with q | q | q
 ·exact q
 ·have h1 : x[i] ∈ y := hp.mem_iff.1 (List.getElem_mem hi)
  have h2 : x[j] ∈ y := hp.mem_iff.1 (List.getElem_mem hj)
  obtain ⟨a, ha, ea⟩ := List.getElem_of_mem h1
  obtain ⟨b, hb, eb⟩ := List.getElem_of_mem h2
  have hpg := List.pairwise_iff_getElem.1 hy
  have hab : a = b := by
   rcases Nat.lt_trichotomy a b with g | g | g
   ·have := hpg a b ha hb g
    unfold wlt at this
    rw [ea, eb, q] at this
    exact absurd this (ordsS.irr _)
   ·exact g
   ·have := hpg b a hb ha g
    unfold wlt at this
    rw [ea, eb, q] at this
    exact absurd this (ordsS.irr _)
  subst hab
  have e : x[i] = x[j] := ea.symm.trans eb
  have := List.pairwise_iff_getElem.1 hnd i j hi hj hij
  exact absurd e this
 ·exact absurd q (hx i j hi hj hij)
theorem ZkF (lvl : Nat) (S : Sto) (id : Oid) (hw : Nat) (hid : id.1 < lvl) : Sem Tryz.prog Z4 lvl [.hd id [] 0 0 none hw, iI 0, iI 0, .fn Jm []] S (.tu []) S := by
 have hne : id.1 ≠ lvl := by omega
 refine Zf Y1 trivial ?_
 simp only [JP, EVA, ↓reduceIte, Nat.reduceEqDiff, Nat.reduceMul, reduceCtorEq, Nat.reduceAdd, Nat.reduceSub, Nat.reduceLeDiff, Nat.reduceLT, Int.reduceToNat, Int.reduceLE, Int.reduceLT, Ze, men]
 refine ⟨by rw [Zg]; omega, ?_⟩
 refine Z6 (α := Unit) 0 (fun _ _ => ⟨lvl, [(0, .hd id [] 0 0 none hw), (1, iI 0), (2, iI 0), (3, .fn Jm []), (8, iI 1)], [], S⟩) (fun _ _ => True) () ⟨by simp only [ZW hne, EVA, ↓reduceIte, Nat.reduceEqDiff, Nat.reduceMul, reduceCtorEq, Nat.reduceAdd, Nat.reduceSub, Nat.reduceLeDiff, Nat.reduceLT, Int.reduceToNat, Int.reduceLE, Int.reduceLT, Ze, men], by (simp only [EVA, ↓reduceIte, Nat.reduceEqDiff, Nat.reduceMul, reduceCtorEq, Nat.reduceAdd, Nat.reduceSub, Nat.reduceLeDiff, Nat.reduceLT, Int.reduceToNat, Int.reduceLE, Int.reduceLT, Ze, men]) <;> rfl⟩ trivial ?_
 intro _ _ _ _
 simp only [EVA, ↓reduceIte, Nat.reduceEqDiff, Nat.reduceMul, reduceCtorEq, Nat.reduceAdd, Nat.reduceSub, Nat.reduceLeDiff, Nat.reduceLT, Int.reduceToNat, Int.reduceLE, Int.reduceLT, Ze, men]
theorem ZkG (r : Int) (lvl : Nat) (S : Sto) (id : Oid) (hw : Nat) (hid : id.1 < lvl) : Sem Tryz.prog ZQ lvl [.hd id [] 0 0 none hw, iI 0, iI 0, iI r, .fn Jm []] S (.tu []) S := by
 have hne : id.1 ≠ lvl := by omega
 refine Zf QD trivial ?_
 simp only [Yg, EVA, ↓reduceIte, Nat.reduceEqDiff, Nat.reduceMul, reduceCtorEq, Nat.reduceAdd, Nat.reduceSub, Nat.reduceLeDiff, Nat.reduceLT, Int.reduceToNat, Int.reduceLE, Int.reduceLT, Ze, men]
 refine Z6 (α := Unit) 0 (fun _ _ => ⟨lvl, [(0, .hd id [] 0 0 none hw), (1, iI 0), (2, iI 0), (3, iI r), (4, .fn Jm []), (10, iB true), (11, iB true)], [], S⟩) (fun _ _ => True) () ⟨by simp only [ZW hne, EVA, ↓reduceIte, Nat.reduceEqDiff, Nat.reduceMul, reduceCtorEq, Nat.reduceAdd, Nat.reduceSub, Nat.reduceLeDiff, Nat.reduceLT, Int.reduceToNat, Int.reduceLE, Int.reduceLT, Ze, men], by (simp only [EVA, ↓reduceIte, Nat.reduceEqDiff, Nat.reduceMul, reduceCtorEq, Nat.reduceAdd, Nat.reduceSub, Nat.reduceLeDiff, Nat.reduceLT, Int.reduceToNat, Int.reduceLE, Int.reduceLT, Ze, men]) <;> rfl⟩ trivial ?_
 intro _ _ _ _
 simp only [EVA, ↓reduceIte, Nat.reduceEqDiff, Nat.reduceMul, reduceCtorEq, Nat.reduceAdd, Nat.reduceSub, Nat.reduceLeDiff, Nat.reduceLT, Int.reduceToNat, Int.reduceLE, Int.reduceLT, Ze, men]
 refine ⟨by rw [Zg]; omega, ?_⟩
 simp only [WD]
 refine Qg [] S (fun _ _ => rfl) (ZkF (lvl + 1) (ZR lvl [] S) id hw (by omega)) ?_
 simp only [ZW hne, EVA, ↓reduceIte, Nat.reduceEqDiff, Nat.reduceMul, reduceCtorEq, Nat.reduceAdd, Nat.reduceSub, Nat.reduceLeDiff, Nat.reduceLT, Int.reduceToNat, Int.reduceLE, Int.reduceLT, Ze, men]
theorem ZiV (lvl : Nat) (S : Sto) (id : Oid) (u : Bool) (hw ver : Nat) (hid : id.1 < lvl) (hS : S id = some (.ar 2 [] u hw ver)) : Sem Tryz.prog ZT lvl [.hd id [] 0 0 none hw, .fn Jm []] S (.tu []) (ZZ S id (.ar 2 [] u hw ver)) := by
 rw [XN hS]
 have hne : id.1 ≠ lvl := by omega
 obtain ⟨r, hr⟩ := Zke (v := 0) (by omega) (by omega)
 refine Zf Vv trivial ?_
 simp only [JW, EVA, ↓reduceIte, Nat.reduceEqDiff, Nat.reduceMul, reduceCtorEq, Nat.reduceAdd, Nat.reduceSub, Nat.reduceLeDiff, Nat.reduceLT, Int.reduceToNat, Int.reduceLE, Int.reduceLT, Ze, men]
 refine ⟨⟨by decide, by decide⟩, Zb hr ?_⟩
 simp only [EVA, ↓reduceIte, Nat.reduceEqDiff, Nat.reduceMul, reduceCtorEq, Nat.reduceAdd, Nat.reduceSub, Nat.reduceLeDiff, Nat.reduceLT, Int.reduceToNat, Int.reduceLE, Int.reduceLT, Ze, men]
 refine Qg [] S (fun _ _ => rfl) (ZkG r (lvl + 1) (ZR lvl [] S) id hw (by omega)) ?_
 simp only [ZW hne, EVA, ↓reduceIte, Nat.reduceEqDiff, Nat.reduceMul, reduceCtorEq, Nat.reduceAdd, Nat.reduceSub, Nat.reduceLeDiff, Nat.reduceLT, Int.reduceToNat, Int.reduceLE, Int.reduceLT, Ze, men]
theorem ZkH (l ys : List TWire) (hp : ys.Perm l) (hs : ys.Pairwise wlt) (hl : l.length <= 4294967296) (lvl : Nat) (S : Sto) (id : Oid) (u : Bool) (hw ver : Nat) (hid : id.1 < lvl) (hS : S id = some (.ar 2 (l.map ZO) u hw ver)) :
  Sem Tryz.prog ZT lvl [.hd id [] 0 l.length none hw, .fn Jm []] S (.tu []) (ZZ S id (.ar 2 (ys.map ZO) u hw ver)) := by
 by_cases h0 : l = []
 ·subst h0
  have hy : ys = [] := List.length_eq_zero_iff.1 (by simpa using hp.length_eq)
  subst hy
  exact ZiV lvl S id u hw ver hid hS
 ·have hpos : 0 < l.length := List.length_pos_iff.2 h0
  refine Ze3 (enc := ZrY) (k := 2) (fun _ => rfl) (by decide) (Zfi (by kernel_rfl)) hid hS (fun x v hv => by simp [ZrY] at hv; rcases hv with rfl | rfl <;> rfl) hp.length_eq hpos fun b cap w hH hb => ?_
  have hcon := AnyQ.slices_SortFunc Tryz.sortW 2 Tryz.isAgg108 Tryz.sizeOf108 ZrY (fun _ => rfl) (fun x v hv => by simp [ZrY] at hv; rcases hv with rfl | rfl <;> rfl) Zmd ZxH 142 #[] b 0 cap l.toArray w (enters_of Tryz.func142 (by kernel_rfl) rfl) (Zme b 0 _ w) hH hb (by simp; omega)
  have hsz : l.toArray.size = l.length := by simp
  rw [hsz] at hcon
  refine Calls.mono hcon ?_
  rintro e w' ⟨rfl, d', n, os, hperm, hsort, rfl⟩
  refine ⟨rfl, n, os, ?_⟩
  have hds : d'.size = l.length := by rw [hperm.1, hsz]
  have hd : d'.toList = ys := by
   have h1 : d'.toList.Perm l := by
    have := hperm.2.2
    rw [show d'.extract 0 l.length = d' from by rw [<- hds]; exact Array.extract_size, show l.toArray.extract 0 l.length = l.toArray from by rw [<- hsz]; exact Array.extract_size] at this
    simpa using this
   refine Zwt (ZxI hs (h1.trans hp.symm) fun i j hi hj hij hlt => ?_) hs (h1.trans hp.symm)
   have hjj : j < d'.size := by simpa using hj
   have hii : i < d'.size := by simpa using hi
   have := hsort i j (Nat.zero_le _) hij (by omega)
   rw [Zip] at this
   have h2 : d'[j]! = d'.toList[j] := by simp [hjj]
   have h3 : d'[i]! = d'.toList[i] := by simp [hii]
   rw [h2, h3] at this
   unfold wlt ltS at hlt
   rw [this] at hlt
   cases hlt
  rw [<- hd]
end Go.Fd

/-
  BIGRAPHS SIDE BY SIDE, THE PROGRAM'S SIDE. Own work.
-/
namespace Go.Fd
set_option maxRecDepth 20000
theorem ZoJ : Z2 Go.Proofs.Tryz.prog J6 (Zk3 1 none) = true := by kernel_rfl
theorem ZrZ : Z2 Go.Proofs.Tryz.prog JV (ZmG J6) = true := by kernel_rfl
theorem Zco (b : List ByteArray) (s : ByteArray) (hb : b.length <= 4294967296) (lvl : Nat) (S : Sto) : Sem Go.Proofs.Tryz.prog Ye lvl [iS s, .ta [Tr.sl (rS b)]] S (iB (dc (s ∈ b))) S := by
 refine Zf Zao trivial ?_
 simp only [X0, EVA, ↓reduceIte, Nat.reduceEqDiff, Nat.reduceMul, reduceCtorEq, Nat.reduceAdd, Nat.reduceSub, Nat.reduceLeDiff, Nat.reduceLT, Int.reduceToNat, Int.reduceLE, Int.reduceLT, Ze, men]
 refine Zb (Zfq b s hb) ?_
 simp only [EVA, ↓reduceIte, Nat.reduceEqDiff, Nat.reduceMul, reduceCtorEq, Nat.reduceAdd, Nat.reduceSub, Nat.reduceLeDiff, Nat.reduceLT, Int.reduceToNat, Int.reduceLE, Int.reduceLT, Ze, men]
theorem Zag (a b : List ByteArray) (ha : a.length <= 4294967296) (hb : b.length <= 4294967296) (lvl : Nat) (S : Sto) : Sem Go.Proofs.Tryz.prog Yx lvl [.tr (.sl (rS a)), .tr (.sl (rS b))] S (iB (!dc (∀ x ∈ a, x ∉ b))) S := by
 have q := Zfh (P := Go.Proofs.Tryz.prog) ZrZ ZoJ (t := fun n : ByteArray => ts n) (f := fun s => dc (s ∈ b)) (fe := Ye) (cs := [[Tr.sl (rS b)]]) a (by omega) (fun x _ lvl S => Zco b x hb lvl S)
 have e : a.any (fun s => dc (s ∈ b)) = !dc (∀ x ∈ a, x ∉ b) := by
  cases h : dc (∀ x ∈ a, x ∉ b)
  ·have h1 := dc_not.1 h
   have : ∃ x ∈ a, x ∈ b := Classical.byContradiction fun g => h1 fun x hx hb => g ⟨x, hx, hb⟩
   obtain ⟨x, hx, hxb⟩ := this
   simp only [Bool.not_false, List.any_eq_true]
   exact ⟨x, hx, Jn hxb⟩
  ·have h1 := dc_iff.1 h
   simp only [Bool.not_true, List.any_eq_false]
   intro x hx
   rw [Zp (h1 x hx)]
   decide
 rw [e] at q
 refine Zf ZbJ trivial ?_
 simp only [WT, EVA, ↓reduceIte, Nat.reduceEqDiff, Nat.reduceMul, reduceCtorEq, Nat.reduceAdd, Nat.reduceSub, Nat.reduceLeDiff, Nat.reduceLT, Int.reduceToNat, Int.reduceLE, Int.reduceLT, Ze, men]
 refine Zb q ?_
 simp only [EVA, ↓reduceIte, Nat.reduceEqDiff, Nat.reduceMul, reduceCtorEq, Nat.reduceAdd, Nat.reduceSub, Nat.reduceLeDiff, Nat.reduceLT, Int.reduceToNat, Int.reduceLE, Int.reduceLT, Ze, men]
theorem Zd0 (a : TBigraph) (p : Int) (hp : -4294967296 <= p /\ p <= 4294967296) (ha : 0 <= a.roots /\ a.roots <= 4) (lvl : Nat) (S : Sto) : Sem Go.Proofs.Tryz.prog Yy lvl [iI p, .ta (Za a)] S (iI (p - a.roots)) S := by
 refine Zf ZbM trivial ?_
 simp only [WW, Za, EVA, ↓reduceIte, Nat.reduceEqDiff, Nat.reduceMul, reduceCtorEq, Nat.reduceAdd, Nat.reduceSub, Nat.reduceLeDiff, Nat.reduceLT, Int.reduceToNat, Int.reduceLE, Int.reduceLT, Ze, men]
 rw [Zg]; omega
theorem Zd1 (e : Int × ByteArray) (lvl : Nat) (S : Sto) : Sem Go.Proofs.Tryz.prog Yz lvl [oE e] S (oE e) S := by
 refine Zf ZbN (by simp [low, men, Ze]) ?_
 simp only [WX, EVA, ↓reduceIte, Nat.reduceEqDiff, Nat.reduceMul, reduceCtorEq, Nat.reduceAdd, Nat.reduceSub, Nat.reduceLeDiff, Nat.reduceLT, Int.reduceToNat, Int.reduceLE, Int.reduceLT, Ze, men]
theorem Zwu {b : TBigraph} {F : Int -> Int} : (b.inner.map (Zas F)).map TWire.name = inn b := by simp [inn, Zas]
theorem Ziq {sig : List TControl} {b : TBigraph} (h : bigOK sig b) {F : Int -> Int} : (b.inner.map (Zas F)).Pairwise wlt := by
 have hp := Zl5 h.inn
 unfold inn at hp
 rw [List.pairwise_map] at hp ⊢
 exact hp
theorem Zr0 {sig : List TControl} {a b : TBigraph} (ha : bigOK sig a) (hb : bigOK sig b) (hd : ∀ x ∈ inn a, x ∉ inn b) {F F' : Int -> Int} : (W1 (a.inner.map (Zas F)) (b.inner.map (Zas F'))).Pairwise wlt :=
 Zin (Ziq ha) (Ziq hb) fun x hx y hy e => by
  refine hd x.name ?_ ?_
  ·rw [<- Zwu (F := F)]; exact List.mem_map.2 ⟨x, hx, rfl⟩
  ·rw [<- Zwu (F := F'), e]; exact List.mem_map.2 ⟨y, hy, rfl⟩
theorem Zmf {a : TBigraph} : ZoG a.nodes.length (fun p => p - a.roots) = Zhv a := rfl
theorem ZoK {sig : List TControl} {a b : TBigraph} (ha : bigOK sig a) (hb : bigOK sig b) :
  Zbh a b (a.roots + b.roots) a.sites (Xy a b) (Zek a (a.edges + b.edges) (Xy a b) fun x => x) (Zek b (a.edges + b.edges) (Xy a b) (Zdy a fun s => (0, s))) (Zhv a) = Zo3 a b :=
 Zhq ha hb (fun l hl => Zwr ha hl) (fun l hl => ZxF hb (fun i hi => if_neg (Zfo hb.outer (List.getElem_mem hi))) hl) fun p _ => rfl
theorem ZoL {sig : List TControl} {a b : TBigraph} (ha : bigOK sig a) : a.inner.map (Zas (Zek a (a.edges + b.edges) (Xy a b) fun x => x)) = a.inner.map (Zas fun l => g0 (ZiU a b) l.toNat) := List.map_congr_left fun w hw => by
 unfold Zas
 rw [Zwr ha (ha.inner w hw)]
 rfl
theorem ZgG (sig : List TControl) (a b : TBigraph) (ha : bigOK sig a) (hb : bigOK sig b) (hd : ∀ x ∈ inn a, x ∉ inn b) (lvl : Nat) (S : Sto) : Sem Go.Proofs.Tryz.prog QP lvl [.ag ((Za a).map .tr), .ag ((Za b).map .tr)] S (ZmW (Zax a b) (decide (b.nodes.length = 0))) S := by
 have ra := ha.roots; have rb := hb.roots
 have ea := ha.edges; have eb := hb.edges
 have sa := ha.small; have sb := hb.small
 have a1 := sa.nodes; have a2 := sa.sites; have a3 := sa.inner; have a4 := sa.outer
 have b1 := sb.nodes; have b2 := sb.sites; have b3 := sb.inner; have b4 := sb.outer
 have hol := Dr (a := a) (b := b)
 have lnA : ∀ x ∈ a.nodes, ∀ l ∈ x.links, Jd a l := fun x hx l hl => by
  obtain ⟨k, hk, rfl⟩ := List.getElem_of_mem hx
  exact (ha.nodes k hk).links l hl
 have hfl : [a.outer, b.outer].flatten = a.outer ++ b.outer := by simp
 have hc := Zht [a.outer, b.outer] (by simp) (by rw [hfl, List.length_append]; omega)
 rw [hfl] at hc
 have qj := Zhs sig a b (Zo3 a b) ha hb (a.roots + b.roots) a.sites (by omega) (a.outer ++ b.outer) (by rw [List.length_append]; omega) Yy [Za a] (fun p => p - a.roots) Qw [] (fun s => (0, s)) (fun p h1 h2 lvl S => Zd0 a p (by omega) ra lvl S) (fun x _ lvl S => ZiS x lvl S) (by rw [Zmf]; exact ZoK ha hb)
 have qr := Zcd a (a.edges + b.edges) (a.outer ++ b.outer) Yz [] (fun x => x) ea.1 (WB (by omega) (ZcH ha)) (by omega) (by omega) (by rw [List.length_append]; omega) lnA ha.inner (fun l _ lvl S => Zd1 (ZdI a l) lvl S)
 refine Zf Zdc (by simp [low, men, Ze]) ?_
 simp only [Db, Za, EVA, ↓reduceIte, Nat.reduceEqDiff, Nat.reduceMul, reduceCtorEq, Nat.reduceAdd, Nat.reduceSub, Nat.reduceLeDiff, Nat.reduceLT, Int.reduceToNat, Int.reduceLE, Int.reduceLT, Ze, men]
 refine ⟨by simp, by simp, Zb hc ?_⟩
 simp only [Za, List.length_map, EVA, ↓reduceIte, Nat.reduceEqDiff, Nat.reduceMul, reduceCtorEq, Nat.reduceAdd, Nat.reduceSub, Nat.reduceLeDiff, Nat.reduceLT, Int.reduceToNat, Int.reduceLE, Int.reduceLT, Ze, men]
 simp only [Za, Zws, List.map_cons, List.map_nil] at qj
 refine ⟨by rw [Zg]; omega, Zb qj ?_⟩
 simp only [Za, List.length_map, EVA, ↓reduceIte, Nat.reduceEqDiff, Nat.reduceMul, reduceCtorEq, Nat.reduceAdd, Nat.reduceSub, Nat.reduceLeDiff, Nat.reduceLT, Int.reduceToNat, Int.reduceLE, Int.reduceLT, Ze, men]
 rw [show Xc (a.outer ++ b.outer) = Xy a b from rfl] at qr
 have hA1 : a.inner.map (fun w => ({ name := w.name, link := Zek a (a.edges + b.edges) (Xy a b) (fun x => x) w.link } : TWire)) = a.inner.map (Zas fun l => g0 (ZiU a b) l.toNat) := ZoL ha
 simp only [Za, Zc, Zkh, List.map_cons, List.map_nil] at qr
 simp only [hA1] at qr
 obtain ⟨A1, hA⟩ : ∃ l, l = a.inner.map (Zas fun l => g0 (ZiU a b) l.toNat) := ⟨_, rfl⟩
 obtain ⟨B1, hB⟩ : ∃ l, l = (Zo3 a b).inner := ⟨_, rfl⟩
 have hBb : B1 = b.inner.map (Zas fun l => g0 (ZkC a b) l.toNat) := hB
 have lA : A1.length = a.inner.length := by rw [hA, List.length_map]
 have lB : B1.length = b.inner.length := by rw [hBb, List.length_map]
 have hpw : (W1 A1 B1).Pairwise wlt := by rw [hA, hBb]; exact Zr0 ha hb hd
 have hmx : max a.inner.length (a.inner.length + b.inner.length) = a.inner.length + b.inner.length := by omega
 have hpi : (Zax a b).inner = W1 A1 B1 := by rw [hA, hBb]; rfl
 rw [<- hA] at qr
 rw [<- hB]
 refine Zb qr ?_
 simp only [Za, ZrP, ZrQ, lA, lB, hmx, List.length_append, List.length_map, EVA, ↓reduceIte, Nat.reduceEqDiff, Nat.reduceMul, reduceCtorEq, Nat.reduceAdd, Nat.reduceSub, Nat.reduceLeDiff, Nat.reduceLT, Int.reduceToNat, Int.reduceLE, Int.reduceLT, Ze, men]
 rw [<- List.map_append]
 refine ⟨by omega, ?_⟩
 have hab : (A1 ++ B1).length = a.inner.length + b.inner.length := by rw [List.length_append]; omega
 have s1 := fun S' hS => ZkH (A1 ++ B1) (W1 A1 B1) wjoin_perm hpw (by omega) (lvl + 1) S' (lvl, 963) true (a.inner.length + b.inner.length) 0 (Nat.lt_succ_self _) hS
 rw [hab] at s1
 refine Zhh 963 _ (s1 _ ?_) ?_
 ·rw [Yn]; rfl
 simp only [Zbj, lA, lB, List.length_map, EVA, ↓reduceIte, Nat.reduceEqDiff, Nat.reduceMul, reduceCtorEq, Nat.reduceAdd, Nat.reduceSub, Nat.reduceLeDiff, Nat.reduceLT, Int.reduceToNat, Int.reduceLE, Int.reduceLT, Ze, men]
 simp only [ZmW, hpi]
 rfl
theorem ZkI {sig : List TControl} {a b : TBigraph} (ha : bigOK sig a) (hb : bigOK sig b) : ∀ l, Jd b l -> sm (g0 (ZkC a b) l.toNat) := fun l hl => by
 have ea := ha.edges; have eb := hb.edges
 have a4 := ha.small.outer; have b4 := hb.small.outer
 have hol := Dr (a := a) (b := b)
 refine ZoF ha hb (fun x hx => ?_) hl
 have := Zii (l := Xy a b) (s := x)
 have := Zij (l := Xy a b) (s := x)
 unfold sm
 omega
theorem ZkJ {sig : List TControl} {a b : TBigraph} (ha : bigOK sig a) (hb : bigOK sig b) : ∀ l, Jd a l -> sm (g0 (ZiU a b) l.toNat) := fun l hl => by
 have a4 := ha.small.outer; have b4 := hb.small.outer
 have hol := Dr (a := a) (b := b)
 exact ZoH ha hb (by omega) l hl
theorem Zhx {a b : TBigraph} {w : TWire} (h : w ∈ (Zax a b).inner) : w ∈ a.inner.map (Zas fun l => g0 (ZiU a b) l.toNat) \/ w ∈ b.inner.map (Zas fun l => g0 (ZkC a b) l.toNat) := List.mem_append.1 (wjoin_perm.mem_iff.1 h)
theorem Zcg {sig : List TControl} {a b : TBigraph} (ha : bigOK sig a) (hb : bigOK sig b) : Zl 4294967290 (Zax a b) := by
 have sa := ha.small; have sb := hb.small
 have a2 := sa.sites; have a3 := sa.inner; have b3 := sb.inner; have a4 := sa.outer; have b4 := sb.outer
 have hol := Dr (a := a) (b := b)
 obtain ⟨b1, b2, b3', b4', b5, b6, b7⟩ := ZoC (roots := a.roots + b.roots) (ss := a.sites) (o := Xy a b) (FL := fun l => g0 (ZiU a b) l.toNat) (FR := fun l => g0 (ZkC a b) l.toNat) (mv := Zhv a) ha hb (by omega) (by omega) fun y hy => by
  rcases List.mem_append.1 (setS_mem.1 hy) with hy | hy
  ·have := QR ha.outer hy; omega
  ·have := QR hb.outer hy; omega
 refine ⟨b1, b2, b3', b4', b5, ?_, fun w hw => ?_⟩
 ·show (W1 _ _).length <= _
  rw [Zbj, List.length_map, List.length_map]
  omega
 ·rcases Zhx hw with h | h
  ·obtain ⟨x, hx, rfl⟩ := List.mem_map.1 h
   have := QR ha.inn (List.mem_map.2 ⟨x, hx, rfl⟩)
   simp only [V4, Zas]
   omega
  ·obtain ⟨x, hx, rfl⟩ := List.mem_map.1 h
   have := QR hb.inn (List.mem_map.2 ⟨x, hx, rfl⟩)
   simp only [V4, Zas]
   omega
theorem Zr1 {sig : List TControl} {a b : TBigraph} (ha : bigOK sig a) (hb : bigOK sig b) {p : Int} (h1 : -b.roots <= p) (h2 : p < b.nodes.length) : sm (Zhv a p) := by
 have a1 := ha.small.nodes; have b1 := hb.small.nodes
 have ra := ha.roots; have rb := hb.roots
 unfold Zhv sm
 split <;> omega
theorem ZoM {sig : List TControl} {a : TBigraph} (ha : bigOK sig a) : ∀ p ∈ a.sites, sm p := fun p hp => by
 have h1 := Yi ha.roots.1 (ha.sites p hp)
 have h2 := DK ha hp
 have ra := ha.roots
 have a1 := ha.small.nodes
 unfold sm
 omega
theorem Zep {sig : List TControl} {a b : TBigraph} (ha : bigOK sig a) (hb : bigOK sig b) (fa : Zx a) (fb : Zx b) : Zx (Zax a b) := by
 have ra := ha.roots; have rb := hb.roots
 obtain ⟨f1, f2, f3, f4, f5⟩ := ZoD (roots := a.roots + b.roots) (ss := a.sites) (o := Xy a b) (FL := fun l => g0 (ZiU a b) l.toNat) (FR := fun l => g0 (ZkC a b) l.toNat) (mv := Zhv a) ha hb fa fb (by unfold sm; omega) (ZoM ha) (ZkJ ha hb) (ZkI ha hb) fun p h1 h2 => Zr1 ha hb h1 h2
 refine ⟨f1, f2, f3, f4, fun w hw => ?_⟩
 rcases Zhx hw with h | h
 ·obtain ⟨x, hx, rfl⟩ := List.mem_map.1 h
  exact Zbi (ZkJ ha hb _ (ha.inner x hx))
 ·obtain ⟨x, hx, rfl⟩ := List.mem_map.1 h
  exact Zbi (ZkI ha hb _ (hb.inner x hx))
def YU (sig : List TControl) (a b : TBigraph) : Prop := bigOK sig a /\ bigOK sig b /\ (∀ x ∈ inn a, x ∉ inn b) /\ bigOK sig (Zax a b)
open Classical in
noncomputable def Zk (sig : List TControl) (a b : TBigraph) : TBigraph := if YU sig a b then Zax a b else QG
noncomputable def Jh (sig : List TControl) (a b : TBigraph) : Bool := dc (YU sig a b)
theorem Z8 (sig : List TControl) (a b : TBigraph) (hn : sig.length <= 4294967296) (hbs : ∀ y ∈ sig, ZD 4294967296 y) (hba : Zl 4294967296 a) (hbb : Zl 4294967296 b) (fa : Zx a) (fb : Zx b) (lvl : Nat) (S : Sto) : Sem Go.Proofs.Tryz.prog Z7 lvl [.tr (.sl (sig.map Zn)), .ag ((Za a).map .tr), .ag ((Za b).map .tr)] S (.tu [Zc (Zk sig a b), iB (Jh sig a b)]) S := by
 refine Zf US (by simp [Zc, low, men, Ze]) ?_
 simp only [QK, Za, EVA, ↓reduceIte, Nat.reduceEqDiff, Nat.reduceMul, reduceCtorEq, Nat.reduceAdd, Nat.reduceSub, Nat.reduceLeDiff, Nat.reduceLT, Int.reduceToNat, Int.reduceLE, Int.reduceLT, Ze, men]
 have i1 := QF sig a hn hbs hba
 have i2 := QF sig b hn hbs hbb
 simp only [Za, List.map_cons, List.map_nil] at i1 i2
 refine Zb i1 ?_
 unfold Zk Jh
 cases h1 : dc (bigOK sig a)
 ·have hno : ¬ YU sig a b := fun g => dc_not.1 h1 g.1
  rw [if_neg hno, Zp hno]
  simp only [EVA, ↓reduceIte, Nat.reduceEqDiff, Nat.reduceMul, reduceCtorEq, Nat.reduceAdd, Nat.reduceSub, Nat.reduceLeDiff, Nat.reduceLT, Int.reduceToNat, Int.reduceLE, Int.reduceLT, Ze, men]
  rfl
 have hA := dc_iff.1 h1
 simp only [Za, EVA, ↓reduceIte, Nat.reduceEqDiff, Nat.reduceMul, reduceCtorEq, Nat.reduceAdd, Nat.reduceSub, Nat.reduceLeDiff, Nat.reduceLT, Int.reduceToNat, Int.reduceLE, Int.reduceLT, Ze, men]
 refine Zb i2 ?_
 cases h2 : dc (bigOK sig b)
 ·have hno : ¬ YU sig a b := fun g => dc_not.1 h2 g.2.1
  rw [if_neg hno, Zp hno]
  simp only [EVA, ↓reduceIte, Nat.reduceEqDiff, Nat.reduceMul, reduceCtorEq, Nat.reduceAdd, Nat.reduceSub, Nat.reduceLeDiff, Nat.reduceLT, Int.reduceToNat, Int.reduceLE, Int.reduceLT, Ze, men]
  rfl
 have hB := dc_iff.1 h2
 have sa := hA.small; have sb := hB.small
 have a3 := sa.inner; have b3 := sb.inner
 simp only [Za, EVA, ↓reduceIte, Nat.reduceEqDiff, Nat.reduceMul, reduceCtorEq, Nat.reduceAdd, Nat.reduceSub, Nat.reduceLeDiff, Nat.reduceLT, Int.reduceToNat, Int.reduceLE, Int.reduceLT, Ze, men]
 have n1 := Wz a (by omega)
 have n2 := Wz b (by omega)
 simp only [Za, List.map_cons, List.map_nil] at n1 n2
 refine Zb n1 ?_
 simp only [Za, List.length_map, EVA, ↓reduceIte, Nat.reduceEqDiff, Nat.reduceMul, reduceCtorEq, Nat.reduceAdd, Nat.reduceSub, Nat.reduceLeDiff, Nat.reduceLT, Int.reduceToNat, Int.reduceLE, Int.reduceLT, Ze, men]
 refine Zb n2 ?_
 simp only [Za, List.length_map, EVA, ↓reduceIte, Nat.reduceEqDiff, Nat.reduceMul, reduceCtorEq, Nat.reduceAdd, Nat.reduceSub, Nat.reduceLeDiff, Nat.reduceLT, Int.reduceToNat, Int.reduceLE, Int.reduceLT, Ze, men]
 refine Zb (Zag (inn a) (inn b) (by rw [Xn]; omega) (by rw [Xn]; omega)) ?_
 cases h3 : dc (∀ x ∈ inn a, x ∉ inn b)
 ·have hno : ¬ YU sig a b := fun g => dc_not.1 h3 g.2.2.1
  rw [if_neg hno, Zp hno]
  simp only [EVA, ↓reduceIte, Nat.reduceEqDiff, Nat.reduceMul, reduceCtorEq, Nat.reduceAdd, Nat.reduceSub, Nat.reduceLeDiff, Nat.reduceLT, Int.reduceToNat, Int.reduceLE, Int.reduceLT, Ze, men]
  rfl
 have hD := dc_iff.1 h3
 simp only [Za, EVA, ↓reduceIte, Nat.reduceEqDiff, Nat.reduceMul, reduceCtorEq, Nat.reduceAdd, Nat.reduceSub, Nat.reduceLeDiff, Nat.reduceLT, Int.reduceToNat, Int.reduceLE, Int.reduceLT, Ze, men]
 have qc := ZgG sig a b hA hB hD
 simp only [Za, ZmW, List.map_cons, List.map_nil] at qc
 refine Zb qc ?_
 simp only [Za, List.length_map, EVA, ↓reduceIte, Nat.reduceEqDiff, Nat.reduceMul, reduceCtorEq, Nat.reduceAdd, Nat.reduceSub, Nat.reduceLeDiff, Nat.reduceLT, Int.reduceToNat, Int.reduceLE, Int.reduceLT, Ze, men]
 have qv := Zkq sig (Zax a b) hn hbs (Zcg hA hB) (Zep hA hB fa fb)
 simp only [Za, List.map_cons, List.map_nil] at qv
 refine Zb qv ?_
 cases h6 : dc (bigOK sig (Zax a b))
 ·have hno : ¬ YU sig a b := fun g => dc_not.1 h6 g.2.2.2
  rw [if_neg hno, Zp hno, if_neg (dc_not.1 h6)]
  simp only [Zc, List.length_map, EVA, ↓reduceIte, Nat.reduceEqDiff, Nat.reduceMul, reduceCtorEq, Nat.reduceAdd, Nat.reduceSub, Nat.reduceLeDiff, Nat.reduceLT, Int.reduceToNat, Int.reduceLE, Int.reduceLT, Ze, men]
  rfl
 ·have hyes : YU sig a b := ⟨hA, hB, hD, dc_iff.1 h6⟩
  rw [if_pos hyes, Jn hyes, if_pos (dc_iff.1 h6)]
  simp only [Zc, List.length_map, EVA, ↓reduceIte, Nat.reduceEqDiff, Nat.reduceMul, reduceCtorEq, Nat.reduceAdd, Nat.reduceSub, Nat.reduceLeDiff, Nat.reduceLT, Int.reduceToNat, Int.reduceLE, Int.reduceLT, Ze, men]
end Go.Fd

/-
  BIGRAPHS SIDE BY SIDE: THE REFERENCE'S ANSWERS; JUXTAPOSITION (printed by mkpar.py). Own work.
-/
namespace Go.Fd
set_option maxRecDepth 20000
theorem Zd2 (sig : List TControl) (a b : TBigraph) (hn : sig.length <= 4294967296) (hbs : ∀ y ∈ sig, ZD 4294967296 y) (hba : Zl 4294967296 a) (hbb : Zl 4294967296 b) (fa : Zx a) (fb : Zx b) (lvl : Nat) (S : Sto) : Sem Go.Proofs.Tryz.prog VX lvl [.tr (.sl (sig.map Zn)), .ag ((Za a).map .tr), .ag ((Za b).map .tr)] S (.tu [@ite IV (YU sig a b) (Classical.propDecidable _) (.ag ((Za (Zax a b)).map .tr)) (Zc QG), iB (dc (YU sig a b))]) S := by
 refine Zf ZbI (by split <;> simp [Zc, Za, low, men, Ze]) ?_
 simp only [WS, Za, EVA, ↓reduceIte, Nat.reduceEqDiff, Nat.reduceMul, reduceCtorEq, Nat.reduceAdd, Nat.reduceSub, Nat.reduceLeDiff, Nat.reduceLT, Int.reduceToNat, Int.reduceLE, Int.reduceLT, Ze, men]
 have i1 := V6 sig a hn hbs hba fa
 have i2 := V6 sig b hn hbs hbb fb
 simp only [Za, List.map_cons, List.map_nil] at i1 i2
 refine Zb i1 ?_
 cases h1 : dc (bigOK sig a)
 ·have hno : ¬ YU sig a b := fun g => dc_not.1 h1 g.1
  rw [if_neg hno, Zp hno]
  simp only [EVA, ↓reduceIte, Nat.reduceEqDiff, Nat.reduceMul, reduceCtorEq, Nat.reduceAdd, Nat.reduceSub, Nat.reduceLeDiff, Nat.reduceLT, Int.reduceToNat, Int.reduceLE, Int.reduceLT, Ze, men]
  rfl
 have hA := dc_iff.1 h1
 simp only [Za, List.length_map, EVA, ↓reduceIte, Nat.reduceEqDiff, Nat.reduceMul, reduceCtorEq, Nat.reduceAdd, Nat.reduceSub, Nat.reduceLeDiff, Nat.reduceLT, Int.reduceToNat, Int.reduceLE, Int.reduceLT, Ze, men]
 refine Zb i2 ?_
 cases h2 : dc (bigOK sig b)
 ·have hno : ¬ YU sig a b := fun g => dc_not.1 h2 g.2.1
  rw [if_neg hno, Zp hno]
  simp only [EVA, ↓reduceIte, Nat.reduceEqDiff, Nat.reduceMul, reduceCtorEq, Nat.reduceAdd, Nat.reduceSub, Nat.reduceLeDiff, Nat.reduceLT, Int.reduceToNat, Int.reduceLE, Int.reduceLT, Ze, men]
  rfl
 have hB := dc_iff.1 h2
 simp only [Za, List.length_map, EVA, ↓reduceIte, Nat.reduceEqDiff, Nat.reduceMul, reduceCtorEq, Nat.reduceAdd, Nat.reduceSub, Nat.reduceLeDiff, Nat.reduceLT, Int.reduceToNat, Int.reduceLE, Int.reduceLT, Ze, men]
 have sa := hA.small; have sb := hB.small
 have a3 := sa.inner; have b3 := sb.inner; have a4 := sa.outer; have b4 := sb.outer
 have n1 := V1 a (by omega)
 have n2 := V1 b (by omega)
 simp only [Za, List.map_cons, List.map_nil] at n1 n2
 refine Zb n1 ?_
 simp only [Za, List.length_map, EVA, ↓reduceIte, Nat.reduceEqDiff, Nat.reduceMul, reduceCtorEq, Nat.reduceAdd, Nat.reduceSub, Nat.reduceLeDiff, Nat.reduceLT, Int.reduceToNat, Int.reduceLE, Int.reduceLT, Ze, men]
 refine Zb n2 ?_
 simp only [Za, List.length_map, EVA, ↓reduceIte, Nat.reduceEqDiff, Nat.reduceMul, reduceCtorEq, Nat.reduceAdd, Nat.reduceSub, Nat.reduceLeDiff, Nat.reduceLT, Int.reduceToNat, Int.reduceLE, Int.reduceLT, Ze, men]
 refine Zb (Uq (inn a) (inn b) (by rw [Xn]; omega) (by rw [Xn]; omega)) ?_
 cases h3 : dc (∀ x ∈ inn a, x ∉ inn b)
 ·have hno : ¬ YU sig a b := fun g => dc_not.1 h3 g.2.2.1
  rw [if_neg hno, Zp hno]
  simp only [EVA, ↓reduceIte, Nat.reduceEqDiff, Nat.reduceMul, reduceCtorEq, Nat.reduceAdd, Nat.reduceSub, Nat.reduceLeDiff, Nat.reduceLT, Int.reduceToNat, Int.reduceLE, Int.reduceLT, Ze, men]
  rfl
 have hD := dc_iff.1 h3
 simp only [Za, EVA, ↓reduceIte, Nat.reduceEqDiff, Nat.reduceMul, reduceCtorEq, Nat.reduceAdd, Nat.reduceSub, Nat.reduceLeDiff, Nat.reduceLT, Int.reduceToNat, Int.reduceLE, Int.reduceLT, Ze, men]
 have qc := ZbR sig a b hA hB
 simp only [Za, ZmW, List.map_cons, List.map_nil] at qc
 refine Zb qc ?_
 simp only [Za, List.length_map, EVA, ↓reduceIte, Nat.reduceEqDiff, Nat.reduceMul, reduceCtorEq, Nat.reduceAdd, Nat.reduceSub, Nat.reduceLeDiff, Nat.reduceLT, Int.reduceToNat, Int.reduceLE, Int.reduceLT, Ze, men]
 by_cases hq : bigOK sig (Zax a b)
 ·have qG := Dp sig (Zax a b) hn hbs (WB (by omega) (Zcg hA hB)) (Zep hA hB fa fb) hq
  simp only [Za, List.map_cons, List.map_nil] at qG
  have hyes : YU sig a b := ⟨hA, hB, hD, hq⟩
  rw [if_pos hyes, Jn hyes]
  refine Zb qG ?_
  simp only [Zc, Za, List.length_map, EVA, ↓reduceIte, Nat.reduceEqDiff, Nat.reduceMul, reduceCtorEq, Nat.reduceAdd, Nat.reduceSub, Nat.reduceLeDiff, Nat.reduceLT, Int.reduceToNat, Int.reduceLE, Int.reduceLT, Ze, men]
 ·have qG := Dq sig (Zax a b) hn hbs (WB (by omega) (Zcg hA hB)) (Zep hA hB fa fb) hq
  simp only [Za, List.map_cons, List.map_nil] at qG
  have hno : ¬ YU sig a b := fun g => hq g.2.2.2
  rw [if_neg hno, Zp hno]
  refine Zb qG ?_
  simp only [Zc, Za, List.length_map, EVA, ↓reduceIte, Nat.reduceEqDiff, Nat.reduceMul, reduceCtorEq, Nat.reduceAdd, Nat.reduceSub, Nat.reduceLeDiff, Nat.reduceLT, Int.reduceToNat, Int.reduceLE, Int.reduceLT, Ze, men]
  try rfl
theorem Y2 (sig : List TControl) (a b : TBigraph) (hn : sig.length <= 4294967296) (hbs : ∀ y ∈ sig, ZD 4294967296 y) (hba : Zl 4294967296 a) (hbb : Zl 4294967296 b) (fa : Zx a) (fb : Zx b) (lvl : Nat) (S : Sto) : Sem Go.Proofs.Tryz.prog Jp lvl [.tr (.sl (sig.map Zn)), .ag ((Za a).map .tr), .ag ((Za b).map .tr)] S (.tu [@ite IV (YU sig a b) (Classical.propDecidable _) (.ag ((Za (Zax a b)).map .tr)) (Zc QG), iB (dc (YU sig a b))]) S := by
 have q := Zd2 sig a b hn hbs hba hbb fa fb
 refine Zf UR (by split <;> simp [Zc, Za, low, men, Ze]) ?_
 by_cases hq : YU sig a b
 ·rw [if_pos hq, Jn hq]
  rw [if_pos hq, Jn hq] at q
  simp only [YM, Za, EVA, ↓reduceIte, Nat.reduceEqDiff, Nat.reduceMul, reduceCtorEq, Nat.reduceAdd, Nat.reduceSub, Nat.reduceLeDiff, Nat.reduceLT, Int.reduceToNat, Int.reduceLE, Int.reduceLT, Ze, men]
  simp only [Za, List.map_cons, List.map_nil] at q
  refine Zb q ?_
  simp only [Zc, Za, List.length_map, EVA, ↓reduceIte, Nat.reduceEqDiff, Nat.reduceMul, reduceCtorEq, Nat.reduceAdd, Nat.reduceSub, Nat.reduceLeDiff, Nat.reduceLT, Int.reduceToNat, Int.reduceLE, Int.reduceLT, Ze, men]
 ·rw [if_neg hq, Zp hq]
  rw [if_neg hq, Zp hq] at q
  simp only [YM, Za, EVA, ↓reduceIte, Nat.reduceEqDiff, Nat.reduceMul, reduceCtorEq, Nat.reduceAdd, Nat.reduceSub, Nat.reduceLeDiff, Nat.reduceLT, Int.reduceToNat, Int.reduceLE, Int.reduceLT, Ze, men]
  simp only [Za, List.map_cons, List.map_nil] at q
  refine Zb q ?_
  simp only [Zc, Za, List.length_map, EVA, ↓reduceIte, Nat.reduceEqDiff, Nat.reduceMul, reduceCtorEq, Nat.reduceAdd, Nat.reduceSub, Nat.reduceLeDiff, Nat.reduceLT, Int.reduceToNat, Int.reduceLE, Int.reduceLT, Ze, men]
  try rfl
theorem X7 (sig : List TControl) (a b : TBigraph) (hn : sig.length <= 4294967296) (hbs : ∀ y ∈ sig, ZD 4294967296 y) (hba : Zl 4294967296 a) (hbb : Zl 4294967296 b) (fa : Zx a) (fb : Zx b) (hB : YU sig a b) (lvl : Nat) (S : Sto) : Sem Go.Proofs.Tryz.prog Jp lvl [.tr (.sl (sig.map Zn)), .ag ((Za a).map .tr), .ag ((Za b).map .tr)] S (.tu [.ag ((Za (Zk sig a b)).map .tr), iB (Jh sig a b)]) S := by
 have h := Y2 sig a b hn hbs hba hbb fa fb lvl S
 unfold Zk Jh
 rw [if_pos hB, Jn hB]
 rw [if_pos hB, Jn hB] at h
 exact h
theorem X8 (sig : List TControl) (a b : TBigraph) (hn : sig.length <= 4294967296) (hbs : ∀ y ∈ sig, ZD 4294967296 y) (hba : Zl 4294967296 a) (hbb : Zl 4294967296 b) (fa : Zx a) (fb : Zx b) (hB : ¬ YU sig a b) (lvl : Nat) (S : Sto) : Sem Go.Proofs.Tryz.prog Jp lvl [.tr (.sl (sig.map Zn)), .ag ((Za a).map .tr), .ag ((Za b).map .tr)] S (.tu [Zc (Zk sig a b), iB (Jh sig a b)]) S := by
 have h := Y2 sig a b hn hbs hba hbb fa fb lvl S
 unfold Zk Jh
 rw [if_neg hB, Zp hB]
 rw [if_neg hB, Zp hB] at h
 exact h
def Ur (sig : List TControl) (a b : TBigraph) : Prop := (∀ x ∈ a.outer, x ∉ b.outer) /\ YU sig a b
open Classical in
noncomputable def Zy (sig : List TControl) (a b : TBigraph) : TBigraph := if Ur sig a b then Zax a b else QG
noncomputable def V7 (sig : List TControl) (a b : TBigraph) : Bool := dc (Ur sig a b)
theorem ZgH (sig : List TControl) (a b : TBigraph) (hn : sig.length <= 4294967296) (hbs : ∀ y ∈ sig, ZD 4294967296 y) (hba : Zl 4294967296 a) (hbb : Zl 4294967296 b) (fa : Zx a) (fb : Zx b) (lvl : Nat) (S : Sto) : Sem Go.Proofs.Tryz.prog QQ lvl [.tr (.sl (sig.map Zn)), .ag ((Za a).map .tr), .ag ((Za b).map .tr)] S (.tu [@ite IV (Ur sig a b) (Classical.propDecidable _) (.ag ((Za (Zax a b)).map .tr)) (Zc QG), iB (dc (Ur sig a b))]) S := by
 refine Zf Zdd (by split <;> simp [Zc, Za, low, men, Ze]) ?_
 simp only [Dc, Za, EVA, ↓reduceIte, Nat.reduceEqDiff, Nat.reduceMul, reduceCtorEq, Nat.reduceAdd, Nat.reduceSub, Nat.reduceLeDiff, Nat.reduceLT, Int.reduceToNat, Int.reduceLE, Int.reduceLT, Ze, men]
 have i1 := V6 sig a hn hbs hba fa
 have i2 := V6 sig b hn hbs hbb fb
 simp only [Za, List.map_cons, List.map_nil] at i1 i2
 refine Zb i1 ?_
 cases h1 : dc (bigOK sig a)
 ·have hno : ¬ Ur sig a b := fun g => dc_not.1 h1 g.2.1
  rw [if_neg hno, Zp hno]
  simp only [EVA, ↓reduceIte, Nat.reduceEqDiff, Nat.reduceMul, reduceCtorEq, Nat.reduceAdd, Nat.reduceSub, Nat.reduceLeDiff, Nat.reduceLT, Int.reduceToNat, Int.reduceLE, Int.reduceLT, Ze, men]
  rfl
 have hA := dc_iff.1 h1
 simp only [Za, List.length_map, EVA, ↓reduceIte, Nat.reduceEqDiff, Nat.reduceMul, reduceCtorEq, Nat.reduceAdd, Nat.reduceSub, Nat.reduceLeDiff, Nat.reduceLT, Int.reduceToNat, Int.reduceLE, Int.reduceLT, Ze, men]
 refine Zb i2 ?_
 cases h2 : dc (bigOK sig b)
 ·have hno : ¬ Ur sig a b := fun g => dc_not.1 h2 g.2.2.1
  rw [if_neg hno, Zp hno]
  simp only [EVA, ↓reduceIte, Nat.reduceEqDiff, Nat.reduceMul, reduceCtorEq, Nat.reduceAdd, Nat.reduceSub, Nat.reduceLeDiff, Nat.reduceLT, Int.reduceToNat, Int.reduceLE, Int.reduceLT, Ze, men]
  rfl
 have hB := dc_iff.1 h2
 simp only [Za, List.length_map, EVA, ↓reduceIte, Nat.reduceEqDiff, Nat.reduceMul, reduceCtorEq, Nat.reduceAdd, Nat.reduceSub, Nat.reduceLeDiff, Nat.reduceLT, Int.reduceToNat, Int.reduceLE, Int.reduceLT, Ze, men]
 have sa := hA.small; have sb := hB.small
 have a3 := sa.inner; have b3 := sb.inner; have a4 := sa.outer; have b4 := sb.outer
 refine Zb (Uq a.outer b.outer (by omega) (by omega)) ?_
 cases h0 : dc (∀ x ∈ a.outer, x ∉ b.outer)
 ·have hno : ¬ Ur sig a b := fun g => dc_not.1 h0 g.1
  rw [if_neg hno, Zp hno]
  simp only [EVA, ↓reduceIte, Nat.reduceEqDiff, Nat.reduceMul, reduceCtorEq, Nat.reduceAdd, Nat.reduceSub, Nat.reduceLeDiff, Nat.reduceLT, Int.reduceToNat, Int.reduceLE, Int.reduceLT, Ze, men]
  rfl
 have hO := dc_iff.1 h0
 simp only [Za, List.length_map, EVA, ↓reduceIte, Nat.reduceEqDiff, Nat.reduceMul, reduceCtorEq, Nat.reduceAdd, Nat.reduceSub, Nat.reduceLeDiff, Nat.reduceLT, Int.reduceToNat, Int.reduceLE, Int.reduceLT, Ze, men]
 have n1 := V1 a (by omega)
 have n2 := V1 b (by omega)
 simp only [Za, List.map_cons, List.map_nil] at n1 n2
 refine Zb n1 ?_
 simp only [Za, List.length_map, EVA, ↓reduceIte, Nat.reduceEqDiff, Nat.reduceMul, reduceCtorEq, Nat.reduceAdd, Nat.reduceSub, Nat.reduceLeDiff, Nat.reduceLT, Int.reduceToNat, Int.reduceLE, Int.reduceLT, Ze, men]
 refine Zb n2 ?_
 simp only [Za, List.length_map, EVA, ↓reduceIte, Nat.reduceEqDiff, Nat.reduceMul, reduceCtorEq, Nat.reduceAdd, Nat.reduceSub, Nat.reduceLeDiff, Nat.reduceLT, Int.reduceToNat, Int.reduceLE, Int.reduceLT, Ze, men]
 refine Zb (Uq (inn a) (inn b) (by rw [Xn]; omega) (by rw [Xn]; omega)) ?_
 cases h3 : dc (∀ x ∈ inn a, x ∉ inn b)
 ·have hno : ¬ Ur sig a b := fun g => dc_not.1 h3 g.2.2.2.1
  rw [if_neg hno, Zp hno]
  simp only [EVA, ↓reduceIte, Nat.reduceEqDiff, Nat.reduceMul, reduceCtorEq, Nat.reduceAdd, Nat.reduceSub, Nat.reduceLeDiff, Nat.reduceLT, Int.reduceToNat, Int.reduceLE, Int.reduceLT, Ze, men]
  rfl
 have hD := dc_iff.1 h3
 simp only [Za, EVA, ↓reduceIte, Nat.reduceEqDiff, Nat.reduceMul, reduceCtorEq, Nat.reduceAdd, Nat.reduceSub, Nat.reduceLeDiff, Nat.reduceLT, Int.reduceToNat, Int.reduceLE, Int.reduceLT, Ze, men]
 have qc := ZbR sig a b hA hB
 simp only [Za, ZmW, List.map_cons, List.map_nil] at qc
 refine Zb qc ?_
 simp only [Za, List.length_map, EVA, ↓reduceIte, Nat.reduceEqDiff, Nat.reduceMul, reduceCtorEq, Nat.reduceAdd, Nat.reduceSub, Nat.reduceLeDiff, Nat.reduceLT, Int.reduceToNat, Int.reduceLE, Int.reduceLT, Ze, men]
 by_cases hq : bigOK sig (Zax a b)
 ·have qG := Dp sig (Zax a b) hn hbs (WB (by omega) (Zcg hA hB)) (Zep hA hB fa fb) hq
  simp only [Za, List.map_cons, List.map_nil] at qG
  have hyes : Ur sig a b := ⟨hO, hA, hB, hD, hq⟩
  rw [if_pos hyes, Jn hyes]
  refine Zb qG ?_
  simp only [Zc, Za, List.length_map, EVA, ↓reduceIte, Nat.reduceEqDiff, Nat.reduceMul, reduceCtorEq, Nat.reduceAdd, Nat.reduceSub, Nat.reduceLeDiff, Nat.reduceLT, Int.reduceToNat, Int.reduceLE, Int.reduceLT, Ze, men]
 ·have qG := Dq sig (Zax a b) hn hbs (WB (by omega) (Zcg hA hB)) (Zep hA hB fa fb) hq
  simp only [Za, List.map_cons, List.map_nil] at qG
  have hno : ¬ Ur sig a b := fun g => hq g.2.2.2.2
  rw [if_neg hno, Zp hno]
  refine Zb qG ?_
  simp only [Zc, Za, List.length_map, EVA, ↓reduceIte, Nat.reduceEqDiff, Nat.reduceMul, reduceCtorEq, Nat.reduceAdd, Nat.reduceSub, Nat.reduceLeDiff, Nat.reduceLT, Int.reduceToNat, Int.reduceLE, Int.reduceLT, Ze, men]
  try rfl
theorem Q9 (sig : List TControl) (a b : TBigraph) (hn : sig.length <= 4294967296) (hbs : ∀ y ∈ sig, ZD 4294967296 y) (hba : Zl 4294967296 a) (hbb : Zl 4294967296 b) (fa : Zx a) (fb : Zx b) (lvl : Nat) (S : Sto) : Sem Go.Proofs.Tryz.prog Yb lvl [.tr (.sl (sig.map Zn)), .ag ((Za a).map .tr), .ag ((Za b).map .tr)] S (.tu [@ite IV (Ur sig a b) (Classical.propDecidable _) (.ag ((Za (Zax a b)).map .tr)) (Zc QG), iB (dc (Ur sig a b))]) S := by
 have q := ZgH sig a b hn hbs hba hbb fa fb
 refine Zf Zck (by split <;> simp [Zc, Za, low, men, Ze]) ?_
 by_cases hq : Ur sig a b
 ·rw [if_pos hq, Jn hq]
  rw [if_pos hq, Jn hq] at q
  simp only [Xl, Za, EVA, ↓reduceIte, Nat.reduceEqDiff, Nat.reduceMul, reduceCtorEq, Nat.reduceAdd, Nat.reduceSub, Nat.reduceLeDiff, Nat.reduceLT, Int.reduceToNat, Int.reduceLE, Int.reduceLT, Ze, men]
  simp only [Za, List.map_cons, List.map_nil] at q
  refine Zb q ?_
  simp only [Zc, Za, List.length_map, EVA, ↓reduceIte, Nat.reduceEqDiff, Nat.reduceMul, reduceCtorEq, Nat.reduceAdd, Nat.reduceSub, Nat.reduceLeDiff, Nat.reduceLT, Int.reduceToNat, Int.reduceLE, Int.reduceLT, Ze, men]
 ·rw [if_neg hq, Zp hq]
  rw [if_neg hq, Zp hq] at q
  simp only [Xl, Za, EVA, ↓reduceIte, Nat.reduceEqDiff, Nat.reduceMul, reduceCtorEq, Nat.reduceAdd, Nat.reduceSub, Nat.reduceLeDiff, Nat.reduceLT, Int.reduceToNat, Int.reduceLE, Int.reduceLT, Ze, men]
  simp only [Za, List.map_cons, List.map_nil] at q
  refine Zb q ?_
  simp only [Zc, Za, List.length_map, EVA, ↓reduceIte, Nat.reduceEqDiff, Nat.reduceMul, reduceCtorEq, Nat.reduceAdd, Nat.reduceSub, Nat.reduceLeDiff, Nat.reduceLT, Int.reduceToNat, Int.reduceLE, Int.reduceLT, Ze, men]
  try rfl
theorem DS (sig : List TControl) (a b : TBigraph) (hn : sig.length <= 4294967296) (hbs : ∀ y ∈ sig, ZD 4294967296 y) (hba : Zl 4294967296 a) (hbb : Zl 4294967296 b) (fa : Zx a) (fb : Zx b) (hB : Ur sig a b) (lvl : Nat) (S : Sto) : Sem Go.Proofs.Tryz.prog Yb lvl [.tr (.sl (sig.map Zn)), .ag ((Za a).map .tr), .ag ((Za b).map .tr)] S (.tu [.ag ((Za (Zy sig a b)).map .tr), iB (V7 sig a b)]) S := by
 have h := Q9 sig a b hn hbs hba hbb fa fb lvl S
 unfold Zy V7
 rw [if_pos hB, Jn hB]
 rw [if_pos hB, Jn hB] at h
 exact h
theorem DT (sig : List TControl) (a b : TBigraph) (hn : sig.length <= 4294967296) (hbs : ∀ y ∈ sig, ZD 4294967296 y) (hba : Zl 4294967296 a) (hbb : Zl 4294967296 b) (fa : Zx a) (fb : Zx b) (hB : ¬ Ur sig a b) (lvl : Nat) (S : Sto) : Sem Go.Proofs.Tryz.prog Yb lvl [.tr (.sl (sig.map Zn)), .ag ((Za a).map .tr), .ag ((Za b).map .tr)] S (.tu [Zc (Zy sig a b), iB (V7 sig a b)]) S := by
 have h := Q9 sig a b hn hbs hba hbb fa fb lvl S
 unfold Zy V7
 rw [if_neg hB, Zp hB]
 rw [if_neg hB, Zp hB] at h
 exact h
theorem YS (sig : List TControl) (a b : TBigraph) (hn : sig.length <= 4294967296) (hbs : ∀ y ∈ sig, ZD 4294967296 y) (hba : Zl 4294967296 a) (hbb : Zl 4294967296 b) (fa : Zx a) (fb : Zx b) (lvl : Nat) (S : Sto) : Sem Go.Proofs.Tryz.prog YP lvl [.tr (.sl (sig.map Zn)), .ag ((Za a).map .tr), .ag ((Za b).map .tr)] S (.tu [Zc (Zy sig a b), iB (V7 sig a b)]) S := by
 refine Zf Zcl (by simp [Zc, low, men, Ze]) ?_
 simp only [UC, Za, EVA, ↓reduceIte, Nat.reduceEqDiff, Nat.reduceMul, reduceCtorEq, Nat.reduceAdd, Nat.reduceSub, Nat.reduceLeDiff, Nat.reduceLT, Int.reduceToNat, Int.reduceLE, Int.reduceLT, Ze, men]
 refine Zb (Zag a.outer b.outer (by have := hba.2.2.2.1; omega) (by have := hbb.2.2.2.1; omega)) ?_
 unfold Zy V7
 cases h0 : dc (∀ x ∈ a.outer, x ∉ b.outer)
 ·have hno : ¬ Ur sig a b := fun g => dc_not.1 h0 g.1
  rw [if_neg hno, Zp hno]
  simp only [EVA, ↓reduceIte, Nat.reduceEqDiff, Nat.reduceMul, reduceCtorEq, Nat.reduceAdd, Nat.reduceSub, Nat.reduceLeDiff, Nat.reduceLT, Int.reduceToNat, Int.reduceLE, Int.reduceLT, Ze, men]
  rfl
 have hO := dc_iff.1 h0
 simp only [Za, EVA, ↓reduceIte, Nat.reduceEqDiff, Nat.reduceMul, reduceCtorEq, Nat.reduceAdd, Nat.reduceSub, Nat.reduceLeDiff, Nat.reduceLT, Int.reduceToNat, Int.reduceLE, Int.reduceLT, Ze, men]
 have q := Z8 sig a b hn hbs hba hbb fa fb
 unfold Zk Jh at q
 simp only [Za, List.map_cons, List.map_nil] at q
 by_cases hq : YU sig a b
 ·have hyes : Ur sig a b := ⟨hO, hq⟩
  rw [if_pos hq, Jn hq] at q
  rw [if_pos hyes, Jn hyes]
  refine Zb q ?_
  simp only [Zc, List.length_map, EVA, ↓reduceIte, Nat.reduceEqDiff, Nat.reduceMul, reduceCtorEq, Nat.reduceAdd, Nat.reduceSub, Nat.reduceLeDiff, Nat.reduceLT, Int.reduceToNat, Int.reduceLE, Int.reduceLT, Ze, men]
 ·have hno : ¬ Ur sig a b := fun g => hq g.2
  rw [if_neg hq, Zp hq] at q
  rw [if_neg hno, Zp hno]
  refine Zb q ?_
  simp only [Zc, List.length_map, EVA, ↓reduceIte, Nat.reduceEqDiff, Nat.reduceMul, reduceCtorEq, Nat.reduceAdd, Nat.reduceSub, Nat.reduceLeDiff, Nat.reduceLT, Int.reduceToNat, Int.reduceLE, Int.reduceLT, Ze, men]
  try rfl
end Go.Fd

/-
  The annotated codes of the functions, printed by a program of mine (gen.py), and the check that they belong to the program.
-/
namespace Go.Fd
def YG : F2 :=
 { nt := 142, res := [.t 6 [0]], body :=
  (.sq (rg [oo 4 (.bt (.t 1)),
 oo 5 (.bt (.t 2)),
 om 6 (.k (.bool false))])
 (.sq (rg [om 7 (i6 1048576)])
 (.sq (rg [om 20 (.t 0),
 om 21 (.t 7),
 oo 22 (.ca .pure false (.f J2) [.t 20, .t 21]),
 om 7 (.t 22)])
 (.sq (.sq (rg [om 23 (.t 7),
 oo 24 (.bi .lss 0 (.t 23) (i6 0))])
 (.cd (.t 24) (.sq (rg [om 6 (.k (.bool true))])
 (.rt))
 (.sk)))
 (.sq (rg [oo 25 (.ld (some 6) (.t 4)),
 om 26 (.t 7),
 oo 27 (.ca .pure false (.f Je) [.t 25, .t 26]),
 om 7 (.t 27)])
 (.sq (.sq (rg [om 28 (.t 7),
 oo 29 (.bi .lss 0 (.t 28) (i6 0))])
 (.cd (.t 29) (.sq (rg [om 6 (.k (.bool true))])
 (.rt))
 (.sk)))
 (.sq (rg [oo 30 (.ld (some 6) (.t 5)),
 om 31 (.t 7),
 oo 32 (.ca .pure false (.f Je) [.t 30, .t 31]),
 om 7 (.t 32)])
 (.sq (.sq (rg [om 33 (.t 7),
 oo 34 (.bi .lss 0 (.t 33) (i6 0))])
 (.cd (.t 34) (.sq (rg [om 6 (.k (.bool true))])
 (.rt))
 (.sk)))
 (.sq (.rg (some 0) [om 36 (.t 0),
 oo 37 (.ca .pure false (.f ZF) [.t 36]),
 oo 38 (.ld (some 6) (.t 4)),
 oo 39 (.ca .pure false (.f Zr) [.t 38]),
 oo 40 (.ld (some 6) (.t 5)),
 oo 41 (.ca .pure false (.f Zr) [.t 40]),
 oo 42 (.ca .pure false (.f Jp) [.t 37, .t 39, .t 41]),
 om 35 (.t 42),
 oo 43 (.ex 0 (.t 35)),
 oo 44 (.ex 1 (.t 35)),
 oo 8 (.al [.int .i64 0, .slice none 0 0, .slice none 0 0, .int .i64 0, .slice none 0 0, .slice none 0 0] []),
 on1 (.s0 6 (.t 8) (.t 43)),
 om 9 (.t 44)])
 (.sq (rg [om 45 (.t 0),
 oo 46 (.ca .pure true (.f ZF) [.t 45]),
 om 10 (.t 46)])
 (.sq (rg [oo 47 (.ld (some 6) (.t 4)),
 oo 48 (.ca .pure true (.f Zr) [.t 47]),
 oo 11 (.al [.int .i64 0, .slice none 0 0, .slice none 0 0, .int .i64 0, .slice none 0 0, .slice none 0 0] []),
 on1 (.st 6 (.t 11) (.t 48))])
 (.sq (rg [oo 49 (.ld (some 6) (.t 5)),
 oo 50 (.ca .pure true (.f Zr) [.t 49]),
 oo 12 (.al [.int .i64 0, .slice none 0 0, .slice none 0 0, .int .i64 0, .slice none 0 0, .slice none 0 0] []),
 on1 (.st 6 (.t 12) (.t 50))])
 (.sq (rg [om 52 (.t 10),
 oo 53 (.ld (some 6) (.t 11)),
 oo 54 (.ld (some 6) (.t 12)),
 oo 55 (.ca .pure true (.f Z7) [.t 52, .t 53, .t 54]),
 om 51 (.t 55),
 oo 56 (.ex 0 (.t 51)),
 oo 57 (.ex 1 (.t 51)),
 oo 13 (.al [.int .i64 0, .slice none 0 0, .slice none 0 0, .int .i64 0, .slice none 0 0, .slice none 0 0] []),
 on1 (.st 6 (.t 13) (.t 56)),
 om 14 (.t 57)])
 (.sq (.sq (rg [oo 58 (.ld (some 6) (.t 13)),
 oo 59 (.ld (some 6) (.t 8)),
 oo 60 (.ca .pure false (.f Zz) [.t 58, .t 59]),
 oo 61 (.nt (.t 60)),
 om 62 (.t 61),
 og 63 62 false (.mv (.t 14) none),
 og 64 62 false (.mv (.t 9) none),
 og 65 62 false (.bi .neq 2 (.t 63) (.t 64)),
 oo 66 (.pk (.t 62) (.k (.bool true)) (.t 65))])
 (.cd (.t 66) (.sq (rg [om 6 (.k (.bool false))])
 (.rt))
 (.sk)))
 (.sq (.sq (rg [om 67 (.t 10),
 om 68 (.t 0),
 oo 69 (.ca .pure false (.f ZF) [.t 68]),
 oo 70 (.ca .pure false (.f J3) [.t 67, .t 69]),
 oo 71 (.nt (.t 70))])
 (.cd (.t 71) (.sq (rg [om 6 (.k (.bool false))])
 (.rt))
 (.sk)))
 (.sq (.sq (.rg (some 0) [oo 72 (.ld (some 6) (.t 11)),
 oo 73 (.ld (some 6) (.t 4)),
 oo 74 (.ca .pure false (.f Zr) [.t 73]),
 oo 75 (.ca .pure false (.f Zz) [.t 72, .t 74]),
 oo 76 (.nt (.t 75))])
 (.cd (.t 76) (.sq (rg [om 6 (.k (.bool false))])
 (.rt))
 (.sk)))
 (.sq (.sq (.rg (some 0) [oo 77 (.ld (some 6) (.t 12)),
 oo 78 (.ld (some 6) (.t 5)),
 oo 79 (.ca .pure false (.f Zr) [.t 78]),
 oo 80 (.ca .pure false (.f Zz) [.t 77, .t 79]),
 oo 81 (.nt (.t 80))])
 (.cd (.t 81) (.sq (rg [om 6 (.k (.bool false))])
 (.rt))
 (.sk)))
 (.sq (rg [om 15 (i6 1)])
 (.sq (rg [om 82 (.t 10),
 om 83 (.t 15),
 oo 84 (.ca .any true (.f JM) [.t 82, .t 83]),
 om 15 (.t 84)])
 (.sq (rg [oo 85 (.ld (some 6) (.t 11)),
 om 86 (.t 15),
 oo 87 (.ca .any true (.f ZJ) [.t 85, .t 86]),
 om 15 (.t 87)])
 (.sq (rg [oo 88 (.ld (some 6) (.t 12)),
 om 89 (.t 15),
 oo 90 (.ca .any true (.f ZJ) [.t 88, .t 89]),
 om 15 (.t 90)])
 (.sq (.sq (rg [om 91 (.t 15),
 oo 92 (.bi .lss 0 (.t 91) (i6 0)),
 om 93 (.t 92),
 og 94 93 false (.ld (some 6) (.t 13)),
 og 95 93 false (.ld (some 6) (.t 8)),
 og 96 93 false (.ca .pure false (.f Zz) [.t 94, .t 95]),
 og 97 93 false (.nt (.t 96)),
 oo 98 (.pk (.t 93) (.k (.bool true)) (.t 97)),
 om 99 (.t 98),
 og 100 99 false (.mv (.t 14) none),
 og 101 99 false (.mv (.t 9) none),
 og 102 99 false (.bi .neq 2 (.t 100) (.t 101)),
 oo 103 (.pk (.t 99) (.k (.bool true)) (.t 102))])
 (.cd (.t 103) (.sq (rg [om 6 (.k (.bool false))])
 (.rt))
 (.sk)))
 (.sq (rg [om 16 (i6 1)])
 (.sq (rg [oo 104 (.ld (some 6) (.t 13)),
 om 105 (.t 16),
 oo 106 (.ca .any true (.f ZJ) [.t 104, .t 105]),
 om 16 (.t 106)])
 (.sq (rg [om 17 (i6 1)])
 (.sq (rg [oo 107 (.ld (some 6) (.t 13)),
 om 108 (.t 17),
 oo 109 (.ca .pure false (.f Z3) [.t 107, .t 108]),
 om 17 (.t 109)])
 (.sq (.sq (rg [om 110 (.t 17),
 oo 111 (.bi .lss 0 (.t 110) (i6 0))])
 (.cd (.t 111) (.sq (rg [om 6 (.k (.bool false))])
 (.rt))
 (.sk)))
 (.sq (.sq (rg [om 112 (.t 17),
 om 113 (.t 16),
 oo 114 (.bi .neq 0 (.t 112) (.t 113))])
 (.cd (.t 114) (.sq (rg [om 6 (.k (.bool false))])
 (.rt))
 (.sk)))
 (.sq (.rg (some 0) [om 116 (.t 0),
 oo 117 (.ca .pure false (.f ZF) [.t 116]),
 oo 118 (.ld (some 6) (.t 4)),
 oo 119 (.ca .pure false (.f Zr) [.t 118]),
 oo 120 (.ld (some 6) (.t 5)),
 oo 121 (.ca .pure false (.f Zr) [.t 120]),
 oo 122 (.ca .pure false (.f Z7) [.t 117, .t 119, .t 121]),
 om 115 (.t 122),
 oo 123 (.ex 0 (.t 115)),
 oo 124 (.ex 1 (.t 115)),
 oo 18 (.al [.int .i64 0, .slice none 0 0, .slice none 0 0, .int .i64 0, .slice none 0 0, .slice none 0 0] []),
 on1 (.s0 6 (.t 18) (.t 123)),
 om 19 (.t 124)])
 (.sq (.sq (rg [oo 125 (.ld (some 6) (.t 18)),
 oo 126 (.ld (some 6) (.t 8)),
 oo 127 (.ca .pure false (.f Zz) [.t 125, .t 126]),
 oo 128 (.nt (.t 127)),
 om 129 (.t 128),
 og 130 129 false (.mv (.t 19) none),
 og 131 129 false (.mv (.t 9) none),
 og 132 129 false (.bi .neq 2 (.t 130) (.t 131)),
 oo 133 (.pk (.t 129) (.k (.bool true)) (.t 132))])
 (.cd (.t 133) (.sq (rg [om 6 (.k (.bool false))])
 (.rt))
 (.sk)))
 (.sq (rg [om 17 (i6 1)])
 (.sq (rg [oo 134 (.ld (some 6) (.t 13)),
 om 135 (.t 17),
 oo 136 (.ca .pure false (.f Z3) [.t 134, .t 135]),
 om 17 (.t 136)])
 (.sq (.sq (rg [om 137 (.t 17),
 oo 138 (.bi .lss 0 (.t 137) (i6 0))])
 (.cd (.t 138) (.sq (rg [om 6 (.k (.bool false))])
 (.rt))
 (.sk)))
 (.sq (.sq (rg [om 139 (.t 17),
 om 140 (.t 16),
 oo 141 (.bi .neq 0 (.t 139) (.t 140))])
 (.cd (.t 141) (.sq (rg [om 6 (.k (.bool false))])
 (.rt))
 (.sk)))
 (.sq (rg [om 6 (.k (.bool true))])
 (.rt)))))))))))))))))))))))))))))))))))) }
theorem Xo : Z2 Go.Proofs.Tryz.prog Yo YG = true := by kernel_rfl
def QH : F2 :=
 { nt := 142, res := [.t 6 [0]], body :=
  (.sq (rg [oo 4 (.bt (.t 1)),
 oo 5 (.bt (.t 2)),
 om 6 (.k (.bool false))])
 (.sq (rg [om 7 (i6 1048576)])
 (.sq (rg [om 20 (.t 0),
 om 21 (.t 7),
 oo 22 (.ca .pure false (.f J2) [.t 20, .t 21]),
 om 7 (.t 22)])
 (.sq (.sq (rg [om 23 (.t 7),
 oo 24 (.bi .lss 0 (.t 23) (i6 0))])
 (.cd (.t 24) (.sq (rg [om 6 (.k (.bool true))])
 (.rt))
 (.sk)))
 (.sq (rg [oo 25 (.ld (some 6) (.t 4)),
 om 26 (.t 7),
 oo 27 (.ca .pure false (.f Je) [.t 25, .t 26]),
 om 7 (.t 27)])
 (.sq (.sq (rg [om 28 (.t 7),
 oo 29 (.bi .lss 0 (.t 28) (i6 0))])
 (.cd (.t 29) (.sq (rg [om 6 (.k (.bool true))])
 (.rt))
 (.sk)))
 (.sq (rg [oo 30 (.ld (some 6) (.t 5)),
 om 31 (.t 7),
 oo 32 (.ca .pure false (.f Je) [.t 30, .t 31]),
 om 7 (.t 32)])
 (.sq (.sq (rg [om 33 (.t 7),
 oo 34 (.bi .lss 0 (.t 33) (i6 0))])
 (.cd (.t 34) (.sq (rg [om 6 (.k (.bool true))])
 (.rt))
 (.sk)))
 (.sq (.rg (some 0) [om 36 (.t 0),
 oo 37 (.ca .pure false (.f ZF) [.t 36]),
 oo 38 (.ld (some 6) (.t 4)),
 oo 39 (.ca .pure false (.f Zr) [.t 38]),
 oo 40 (.ld (some 6) (.t 5)),
 oo 41 (.ca .pure false (.f Zr) [.t 40]),
 oo 42 (.ca .pure false (.f Yb) [.t 37, .t 39, .t 41]),
 om 35 (.t 42),
 oo 43 (.ex 0 (.t 35)),
 oo 44 (.ex 1 (.t 35)),
 oo 8 (.al [.int .i64 0, .slice none 0 0, .slice none 0 0, .int .i64 0, .slice none 0 0, .slice none 0 0] []),
 on1 (.s0 6 (.t 8) (.t 43)),
 om 9 (.t 44)])
 (.sq (rg [om 45 (.t 0),
 oo 46 (.ca .pure true (.f ZF) [.t 45]),
 om 10 (.t 46)])
 (.sq (rg [oo 47 (.ld (some 6) (.t 4)),
 oo 48 (.ca .pure true (.f Zr) [.t 47]),
 oo 11 (.al [.int .i64 0, .slice none 0 0, .slice none 0 0, .int .i64 0, .slice none 0 0, .slice none 0 0] []),
 on1 (.st 6 (.t 11) (.t 48))])
 (.sq (rg [oo 49 (.ld (some 6) (.t 5)),
 oo 50 (.ca .pure true (.f Zr) [.t 49]),
 oo 12 (.al [.int .i64 0, .slice none 0 0, .slice none 0 0, .int .i64 0, .slice none 0 0, .slice none 0 0] []),
 on1 (.st 6 (.t 12) (.t 50))])
 (.sq (rg [om 52 (.t 10),
 oo 53 (.ld (some 6) (.t 11)),
 oo 54 (.ld (some 6) (.t 12)),
 oo 55 (.ca .pure true (.f YP) [.t 52, .t 53, .t 54]),
 om 51 (.t 55),
 oo 56 (.ex 0 (.t 51)),
 oo 57 (.ex 1 (.t 51)),
 oo 13 (.al [.int .i64 0, .slice none 0 0, .slice none 0 0, .int .i64 0, .slice none 0 0, .slice none 0 0] []),
 on1 (.st 6 (.t 13) (.t 56)),
 om 14 (.t 57)])
 (.sq (.sq (rg [oo 58 (.ld (some 6) (.t 13)),
 oo 59 (.ld (some 6) (.t 8)),
 oo 60 (.ca .pure false (.f Zz) [.t 58, .t 59]),
 oo 61 (.nt (.t 60)),
 om 62 (.t 61),
 og 63 62 false (.mv (.t 14) none),
 og 64 62 false (.mv (.t 9) none),
 og 65 62 false (.bi .neq 2 (.t 63) (.t 64)),
 oo 66 (.pk (.t 62) (.k (.bool true)) (.t 65))])
 (.cd (.t 66) (.sq (rg [om 6 (.k (.bool false))])
 (.rt))
 (.sk)))
 (.sq (.sq (rg [om 67 (.t 10),
 om 68 (.t 0),
 oo 69 (.ca .pure false (.f ZF) [.t 68]),
 oo 70 (.ca .pure false (.f J3) [.t 67, .t 69]),
 oo 71 (.nt (.t 70))])
 (.cd (.t 71) (.sq (rg [om 6 (.k (.bool false))])
 (.rt))
 (.sk)))
 (.sq (.sq (.rg (some 0) [oo 72 (.ld (some 6) (.t 11)),
 oo 73 (.ld (some 6) (.t 4)),
 oo 74 (.ca .pure false (.f Zr) [.t 73]),
 oo 75 (.ca .pure false (.f Zz) [.t 72, .t 74]),
 oo 76 (.nt (.t 75))])
 (.cd (.t 76) (.sq (rg [om 6 (.k (.bool false))])
 (.rt))
 (.sk)))
 (.sq (.sq (.rg (some 0) [oo 77 (.ld (some 6) (.t 12)),
 oo 78 (.ld (some 6) (.t 5)),
 oo 79 (.ca .pure false (.f Zr) [.t 78]),
 oo 80 (.ca .pure false (.f Zz) [.t 77, .t 79]),
 oo 81 (.nt (.t 80))])
 (.cd (.t 81) (.sq (rg [om 6 (.k (.bool false))])
 (.rt))
 (.sk)))
 (.sq (rg [om 15 (i6 1)])
 (.sq (rg [om 82 (.t 10),
 om 83 (.t 15),
 oo 84 (.ca .any true (.f JM) [.t 82, .t 83]),
 om 15 (.t 84)])
 (.sq (rg [oo 85 (.ld (some 6) (.t 11)),
 om 86 (.t 15),
 oo 87 (.ca .any true (.f ZJ) [.t 85, .t 86]),
 om 15 (.t 87)])
 (.sq (rg [oo 88 (.ld (some 6) (.t 12)),
 om 89 (.t 15),
 oo 90 (.ca .any true (.f ZJ) [.t 88, .t 89]),
 om 15 (.t 90)])
 (.sq (.sq (rg [om 91 (.t 15),
 oo 92 (.bi .lss 0 (.t 91) (i6 0)),
 om 93 (.t 92),
 og 94 93 false (.ld (some 6) (.t 13)),
 og 95 93 false (.ld (some 6) (.t 8)),
 og 96 93 false (.ca .pure false (.f Zz) [.t 94, .t 95]),
 og 97 93 false (.nt (.t 96)),
 oo 98 (.pk (.t 93) (.k (.bool true)) (.t 97)),
 om 99 (.t 98),
 og 100 99 false (.mv (.t 14) none),
 og 101 99 false (.mv (.t 9) none),
 og 102 99 false (.bi .neq 2 (.t 100) (.t 101)),
 oo 103 (.pk (.t 99) (.k (.bool true)) (.t 102))])
 (.cd (.t 103) (.sq (rg [om 6 (.k (.bool false))])
 (.rt))
 (.sk)))
 (.sq (rg [om 16 (i6 1)])
 (.sq (rg [oo 104 (.ld (some 6) (.t 13)),
 om 105 (.t 16),
 oo 106 (.ca .any true (.f ZJ) [.t 104, .t 105]),
 om 16 (.t 106)])
 (.sq (rg [om 17 (i6 1)])
 (.sq (rg [oo 107 (.ld (some 6) (.t 13)),
 om 108 (.t 17),
 oo 109 (.ca .pure false (.f Z3) [.t 107, .t 108]),
 om 17 (.t 109)])
 (.sq (.sq (rg [om 110 (.t 17),
 oo 111 (.bi .lss 0 (.t 110) (i6 0))])
 (.cd (.t 111) (.sq (rg [om 6 (.k (.bool false))])
 (.rt))
 (.sk)))
 (.sq (.sq (rg [om 112 (.t 17),
 om 113 (.t 16),
 oo 114 (.bi .neq 0 (.t 112) (.t 113))])
 (.cd (.t 114) (.sq (rg [om 6 (.k (.bool false))])
 (.rt))
 (.sk)))
 (.sq (.rg (some 0) [om 116 (.t 0),
 oo 117 (.ca .pure false (.f ZF) [.t 116]),
 oo 118 (.ld (some 6) (.t 4)),
 oo 119 (.ca .pure false (.f Zr) [.t 118]),
 oo 120 (.ld (some 6) (.t 5)),
 oo 121 (.ca .pure false (.f Zr) [.t 120]),
 oo 122 (.ca .pure false (.f YP) [.t 117, .t 119, .t 121]),
 om 115 (.t 122),
 oo 123 (.ex 0 (.t 115)),
 oo 124 (.ex 1 (.t 115)),
 oo 18 (.al [.int .i64 0, .slice none 0 0, .slice none 0 0, .int .i64 0, .slice none 0 0, .slice none 0 0] []),
 on1 (.s0 6 (.t 18) (.t 123)),
 om 19 (.t 124)])
 (.sq (.sq (rg [oo 125 (.ld (some 6) (.t 18)),
 oo 126 (.ld (some 6) (.t 8)),
 oo 127 (.ca .pure false (.f Zz) [.t 125, .t 126]),
 oo 128 (.nt (.t 127)),
 om 129 (.t 128),
 og 130 129 false (.mv (.t 19) none),
 og 131 129 false (.mv (.t 9) none),
 og 132 129 false (.bi .neq 2 (.t 130) (.t 131)),
 oo 133 (.pk (.t 129) (.k (.bool true)) (.t 132))])
 (.cd (.t 133) (.sq (rg [om 6 (.k (.bool false))])
 (.rt))
 (.sk)))
 (.sq (rg [om 17 (i6 1)])
 (.sq (rg [oo 134 (.ld (some 6) (.t 13)),
 om 135 (.t 17),
 oo 136 (.ca .pure false (.f Z3) [.t 134, .t 135]),
 om 17 (.t 136)])
 (.sq (.sq (rg [om 137 (.t 17),
 oo 138 (.bi .lss 0 (.t 137) (i6 0))])
 (.cd (.t 138) (.sq (rg [om 6 (.k (.bool false))])
 (.rt))
 (.sk)))
 (.sq (.sq (rg [om 139 (.t 17),
 om 140 (.t 16),
 oo 141 (.bi .neq 0 (.t 139) (.t 140))])
 (.cd (.t 141) (.sq (rg [om 6 (.k (.bool false))])
 (.rt))
 (.sk)))
 (.sq (rg [om 6 (.k (.bool true))])
 (.rt)))))))))))))))))))))))))))))))))))) }
theorem Us : Z2 Go.Proofs.Tryz.prog VE QH = true := by kernel_rfl
def Vk : F2 :=
 { nt := 142, res := [.t 6 [0]], body :=
  (.sq (rg [oo 4 (.bt (.t 1)),
 oo 5 (.bt (.t 2)),
 om 6 (.k (.bool false))])
 (.sq (rg [om 7 (i6 1048576)])
 (.sq (rg [om 20 (.t 0),
 om 21 (.t 7),
 oo 22 (.ca .pure false (.f J2) [.t 20, .t 21]),
 om 7 (.t 22)])
 (.sq (.sq (rg [om 23 (.t 7),
 oo 24 (.bi .lss 0 (.t 23) (i6 0))])
 (.cd (.t 24) (.sq (rg [om 6 (.k (.bool true))])
 (.rt))
 (.sk)))
 (.sq (rg [oo 25 (.ld (some 6) (.t 4)),
 om 26 (.t 7),
 oo 27 (.ca .pure false (.f Je) [.t 25, .t 26]),
 om 7 (.t 27)])
 (.sq (.sq (rg [om 28 (.t 7),
 oo 29 (.bi .lss 0 (.t 28) (i6 0))])
 (.cd (.t 29) (.sq (rg [om 6 (.k (.bool true))])
 (.rt))
 (.sk)))
 (.sq (rg [oo 30 (.ld (some 6) (.t 5)),
 om 31 (.t 7),
 oo 32 (.ca .pure false (.f Je) [.t 30, .t 31]),
 om 7 (.t 32)])
 (.sq (.sq (rg [om 33 (.t 7),
 oo 34 (.bi .lss 0 (.t 33) (i6 0))])
 (.cd (.t 34) (.sq (rg [om 6 (.k (.bool true))])
 (.rt))
 (.sk)))
 (.sq (.rg (some 0) [om 36 (.t 0),
 oo 37 (.ca .pure false (.f ZF) [.t 36]),
 oo 38 (.ld (some 6) (.t 4)),
 oo 39 (.ca .pure false (.f Zr) [.t 38]),
 oo 40 (.ld (some 6) (.t 5)),
 oo 41 (.ca .pure false (.f Zr) [.t 40]),
 oo 42 (.ca .pure false (.f JN) [.t 37, .t 39, .t 41]),
 om 35 (.t 42),
 oo 43 (.ex 0 (.t 35)),
 oo 44 (.ex 1 (.t 35)),
 oo 8 (.al [.int .i64 0, .slice none 0 0, .slice none 0 0, .int .i64 0, .slice none 0 0, .slice none 0 0] []),
 on1 (.s0 6 (.t 8) (.t 43)),
 om 9 (.t 44)])
 (.sq (rg [om 45 (.t 0),
 oo 46 (.ca .pure true (.f ZF) [.t 45]),
 om 10 (.t 46)])
 (.sq (rg [oo 47 (.ld (some 6) (.t 4)),
 oo 48 (.ca .pure true (.f Zr) [.t 47]),
 oo 11 (.al [.int .i64 0, .slice none 0 0, .slice none 0 0, .int .i64 0, .slice none 0 0, .slice none 0 0] []),
 on1 (.st 6 (.t 11) (.t 48))])
 (.sq (rg [oo 49 (.ld (some 6) (.t 5)),
 oo 50 (.ca .pure true (.f Zr) [.t 49]),
 oo 12 (.al [.int .i64 0, .slice none 0 0, .slice none 0 0, .int .i64 0, .slice none 0 0, .slice none 0 0] []),
 on1 (.st 6 (.t 12) (.t 50))])
 (.sq (rg [om 52 (.t 10),
 oo 53 (.ld (some 6) (.t 11)),
 oo 54 (.ld (some 6) (.t 12)),
 oo 55 (.ca .pure true (.f Yc) [.t 52, .t 53, .t 54]),
 om 51 (.t 55),
 oo 56 (.ex 0 (.t 51)),
 oo 57 (.ex 1 (.t 51)),
 oo 13 (.al [.int .i64 0, .slice none 0 0, .slice none 0 0, .int .i64 0, .slice none 0 0, .slice none 0 0] []),
 on1 (.st 6 (.t 13) (.t 56)),
 om 14 (.t 57)])
 (.sq (.sq (rg [oo 58 (.ld (some 6) (.t 13)),
 oo 59 (.ld (some 6) (.t 8)),
 oo 60 (.ca .pure false (.f Zz) [.t 58, .t 59]),
 oo 61 (.nt (.t 60)),
 om 62 (.t 61),
 og 63 62 false (.mv (.t 14) none),
 og 64 62 false (.mv (.t 9) none),
 og 65 62 false (.bi .neq 2 (.t 63) (.t 64)),
 oo 66 (.pk (.t 62) (.k (.bool true)) (.t 65))])
 (.cd (.t 66) (.sq (rg [om 6 (.k (.bool false))])
 (.rt))
 (.sk)))
 (.sq (.sq (rg [om 67 (.t 10),
 om 68 (.t 0),
 oo 69 (.ca .pure false (.f ZF) [.t 68]),
 oo 70 (.ca .pure false (.f J3) [.t 67, .t 69]),
 oo 71 (.nt (.t 70))])
 (.cd (.t 71) (.sq (rg [om 6 (.k (.bool false))])
 (.rt))
 (.sk)))
 (.sq (.sq (.rg (some 0) [oo 72 (.ld (some 6) (.t 11)),
 oo 73 (.ld (some 6) (.t 4)),
 oo 74 (.ca .pure false (.f Zr) [.t 73]),
 oo 75 (.ca .pure false (.f Zz) [.t 72, .t 74]),
 oo 76 (.nt (.t 75))])
 (.cd (.t 76) (.sq (rg [om 6 (.k (.bool false))])
 (.rt))
 (.sk)))
 (.sq (.sq (.rg (some 0) [oo 77 (.ld (some 6) (.t 12)),
 oo 78 (.ld (some 6) (.t 5)),
 oo 79 (.ca .pure false (.f Zr) [.t 78]),
 oo 80 (.ca .pure false (.f Zz) [.t 77, .t 79]),
 oo 81 (.nt (.t 80))])
 (.cd (.t 81) (.sq (rg [om 6 (.k (.bool false))])
 (.rt))
 (.sk)))
 (.sq (rg [om 15 (i6 1)])
 (.sq (rg [om 82 (.t 10),
 om 83 (.t 15),
 oo 84 (.ca .any true (.f JM) [.t 82, .t 83]),
 om 15 (.t 84)])
 (.sq (rg [oo 85 (.ld (some 6) (.t 11)),
 om 86 (.t 15),
 oo 87 (.ca .any true (.f ZJ) [.t 85, .t 86]),
 om 15 (.t 87)])
 (.sq (rg [oo 88 (.ld (some 6) (.t 12)),
 om 89 (.t 15),
 oo 90 (.ca .any true (.f ZJ) [.t 88, .t 89]),
 om 15 (.t 90)])
 (.sq (.sq (rg [om 91 (.t 15),
 oo 92 (.bi .lss 0 (.t 91) (i6 0)),
 om 93 (.t 92),
 og 94 93 false (.ld (some 6) (.t 13)),
 og 95 93 false (.ld (some 6) (.t 8)),
 og 96 93 false (.ca .pure false (.f Zz) [.t 94, .t 95]),
 og 97 93 false (.nt (.t 96)),
 oo 98 (.pk (.t 93) (.k (.bool true)) (.t 97)),
 om 99 (.t 98),
 og 100 99 false (.mv (.t 14) none),
 og 101 99 false (.mv (.t 9) none),
 og 102 99 false (.bi .neq 2 (.t 100) (.t 101)),
 oo 103 (.pk (.t 99) (.k (.bool true)) (.t 102))])
 (.cd (.t 103) (.sq (rg [om 6 (.k (.bool false))])
 (.rt))
 (.sk)))
 (.sq (rg [om 16 (i6 1)])
 (.sq (rg [oo 104 (.ld (some 6) (.t 13)),
 om 105 (.t 16),
 oo 106 (.ca .any true (.f ZJ) [.t 104, .t 105]),
 om 16 (.t 106)])
 (.sq (rg [om 17 (i6 1)])
 (.sq (rg [oo 107 (.ld (some 6) (.t 13)),
 om 108 (.t 17),
 oo 109 (.ca .pure false (.f Z3) [.t 107, .t 108]),
 om 17 (.t 109)])
 (.sq (.sq (rg [om 110 (.t 17),
 oo 111 (.bi .lss 0 (.t 110) (i6 0))])
 (.cd (.t 111) (.sq (rg [om 6 (.k (.bool false))])
 (.rt))
 (.sk)))
 (.sq (.sq (rg [om 112 (.t 17),
 om 113 (.t 16),
 oo 114 (.bi .neq 0 (.t 112) (.t 113))])
 (.cd (.t 114) (.sq (rg [om 6 (.k (.bool false))])
 (.rt))
 (.sk)))
 (.sq (.rg (some 0) [om 116 (.t 0),
 oo 117 (.ca .pure false (.f ZF) [.t 116]),
 oo 118 (.ld (some 6) (.t 4)),
 oo 119 (.ca .pure false (.f Zr) [.t 118]),
 oo 120 (.ld (some 6) (.t 5)),
 oo 121 (.ca .pure false (.f Zr) [.t 120]),
 oo 122 (.ca .pure false (.f Yc) [.t 117, .t 119, .t 121]),
 om 115 (.t 122),
 oo 123 (.ex 0 (.t 115)),
 oo 124 (.ex 1 (.t 115)),
 oo 18 (.al [.int .i64 0, .slice none 0 0, .slice none 0 0, .int .i64 0, .slice none 0 0, .slice none 0 0] []),
 on1 (.s0 6 (.t 18) (.t 123)),
 om 19 (.t 124)])
 (.sq (.sq (rg [oo 125 (.ld (some 6) (.t 18)),
 oo 126 (.ld (some 6) (.t 8)),
 oo 127 (.ca .pure false (.f Zz) [.t 125, .t 126]),
 oo 128 (.nt (.t 127)),
 om 129 (.t 128),
 og 130 129 false (.mv (.t 19) none),
 og 131 129 false (.mv (.t 9) none),
 og 132 129 false (.bi .neq 2 (.t 130) (.t 131)),
 oo 133 (.pk (.t 129) (.k (.bool true)) (.t 132))])
 (.cd (.t 133) (.sq (rg [om 6 (.k (.bool false))])
 (.rt))
 (.sk)))
 (.sq (rg [om 17 (i6 1)])
 (.sq (rg [oo 134 (.ld (some 6) (.t 13)),
 om 135 (.t 17),
 oo 136 (.ca .pure false (.f Z3) [.t 134, .t 135]),
 om 17 (.t 136)])
 (.sq (.sq (rg [om 137 (.t 17),
 oo 138 (.bi .lss 0 (.t 137) (i6 0))])
 (.cd (.t 138) (.sq (rg [om 6 (.k (.bool false))])
 (.rt))
 (.sk)))
 (.sq (.sq (rg [om 139 (.t 17),
 om 140 (.t 16),
 oo 141 (.bi .neq 0 (.t 139) (.t 140))])
 (.cd (.t 141) (.sq (rg [om 6 (.k (.bool false))])
 (.rt))
 (.sk)))
 (.sq (rg [om 6 (.k (.bool true))])
 (.rt)))))))))))))))))))))))))))))))))))) }
theorem X9 : Z2 Go.Proofs.Tryz.prog YO Vk = true := by kernel_rfl
def X4 : F2 :=
 { nt := 35, res := [.t 4 [0]], body :=
  (.sq (rg [om 4 (i6 0)])
 (.sq (.sq (rg [om 5 (i6 0)])
 (.bl 0 (.lp [0, 1, 5] [] (.sq (.sq (rg [om 6 (.t 5),
 om 7 (.t 0),
 oo 8 (.ln (.t 7)),
 oo 9 (.bi .lss 0 (.t 6) (.t 8))])
 (.cd (.t 9) (.sk)
 (.ex 0)))
 (.sq (.bl 1 (.sq (rg [om 12 (.t 0),
 om 13 (.t 5),
 om 14 (.t 1),
 oo 15 (.ca .pure false (.f JF) [.t 14]),
 oo 16 (.ia 3 (.t 12) (.t 13)),
 oo 17 (.fa 0 (.t 16)),
 on1 (.st 1 (.t 17) (.t 15))])
 (.sq (rg [om 18 (.t 1),
 oo 19 (.bi .add 0 (.t 18) (i6 1)),
 om 1 (.t 19)])
 (.sq (rg [om 20 (.t 0),
 om 21 (.t 5),
 om 22 (.t 1),
 oo 23 (.ia 3 (.t 20) (.t 21)),
 oo 24 (.fa 1 (.t 23)),
 on1 (.st 1 (.t 24) (.t 22))])
 (.sq (rg [om 25 (.t 1),
 oo 26 (.bi .add 0 (.t 25) (i6 1)),
 om 1 (.t 26)])
 (.sq (rg [om 27 (.t 0),
 om 28 (.t 5),
 om 29 (.t 1),
 oo 30 (.ia 3 (.t 27) (.t 28)),
 oo 31 (.fa 2 (.t 30)),
 on1 (.st 1 (.t 31) (.t 29))])
 (rg [om 32 (.t 1),
 oo 33 (.bi .add 0 (.t 32) (i6 1)),
 om 1 (.t 33)])))))))
 (rg [om 10 (.t 5),
 oo 11 (.bi .add 0 (.t 10) (i6 1)),
 om 5 (.t 11)]))))))
 (.sq (rg [om 34 (.t 1),
 om 4 (.t 34)])
 (.rt)))) }
theorem Zau : Z2 Go.Proofs.Tryz.prog JM X4 = true := by kernel_rfl
def Wn : F2 :=
 { nt := 22, res := [.t 4 [0]], body :=
  (.sq (rg [oo 2 (.bx (.t 0)),
 om 4 (i6 0)])
 (.sq (rg [oo 5 (.fa 1 (.t 2)),
 oo 6 (.ld none (.t 5)),
 om 7 (.t 1),
 oo 8 (.ca .any true (.f Qr) [.t 6, .t 7]),
 om 1 (.t 8)])
 (.sq (rg [oo 9 (.fa 2 (.t 2)),
 oo 10 (.ld none (.t 9)),
 om 11 (.t 1),
 oo 12 (.ca .any true (.f Va) [.t 10, .t 11]),
 om 1 (.t 12)])
 (.sq (rg [oo 13 (.fa 4 (.t 2)),
 oo 14 (.ld none (.t 13)),
 om 15 (.t 1),
 oo 16 (.ca .any true (.f Vm) [.t 14, .t 15]),
 om 1 (.t 16)])
 (.sq (rg [oo 17 (.fa 5 (.t 2)),
 oo 18 (.ld none (.t 17)),
 om 19 (.t 1),
 oo 20 (.ca .any true (.f Qs) [.t 18, .t 19]),
 om 1 (.t 20)])
 (.sq (rg [om 21 (.t 1),
 om 4 (.t 21)])
 (.rt))))))) }
theorem Zbk : Z2 Go.Proofs.Tryz.prog ZJ Wn = true := by kernel_rfl
def Wo : F2 :=
 { nt := 30, res := [.t 4 [0]], body :=
  (.sq (rg [oo 2 (.bt (.t 0)),
 om 4 (i6 0)])
 (.sq (rg [oo 5 (.fa 1 (.t 2)),
 oo 6 (.ld none (.t 5)),
 om 7 (.t 1),
 oo 8 (.ca .pure false (.f Qt) [.t 6, .t 7]),
 om 1 (.t 8)])
 (.sq (.sq (rg [om 9 (.t 1),
 oo 10 (.bi .lss 0 (.t 9) (i6 0))])
 (.cd (.t 10) (.sq (rg [om 4 (i6 (-1))])
 (.rt))
 (.sk)))
 (.sq (rg [oo 11 (.fa 2 (.t 2)),
 oo 12 (.ld none (.t 11)),
 om 13 (.t 1),
 oo 14 (.ca .pure false (.f Vb) [.t 12, .t 13]),
 om 1 (.t 14)])
 (.sq (.sq (rg [om 15 (.t 1),
 oo 16 (.bi .lss 0 (.t 15) (i6 0))])
 (.cd (.t 16) (.sq (rg [om 4 (i6 (-1))])
 (.rt))
 (.sk)))
 (.sq (rg [oo 17 (.fa 4 (.t 2)),
 oo 18 (.ld none (.t 17)),
 om 19 (.t 1),
 oo 20 (.ca .pure false (.f Vn) [.t 18, .t 19]),
 om 1 (.t 20)])
 (.sq (.sq (rg [om 21 (.t 1),
 oo 22 (.bi .lss 0 (.t 21) (i6 0))])
 (.cd (.t 22) (.sq (rg [om 4 (i6 (-1))])
 (.rt))
 (.sk)))
 (.sq (rg [oo 23 (.fa 5 (.t 2)),
 oo 24 (.ld none (.t 23)),
 om 25 (.t 1),
 oo 26 (.ca .pure false (.f Qu) [.t 24, .t 25]),
 om 1 (.t 26)])
 (.sq (.sq (rg [om 27 (.t 1),
 oo 28 (.bi .lss 0 (.t 27) (i6 0))])
 (.cd (.t 28) (.sq (rg [om 4 (i6 (-1))])
 (.rt))
 (.sk)))
 (.sq (rg [om 29 (.t 1),
 om 4 (.t 29)])
 (.rt))))))))))) }
theorem Zbl : Z2 Go.Proofs.Tryz.prog Z3 Wo = true := by kernel_rfl
def Ds : F2 :=
 { nt := 20, res := [.t 2 [0]], body :=
  (.sq (rg [om 2 (.k (.string ⟨#[]⟩))])
 (.sq (.sq (rg [om 4 (.t 0),
 oo 5 (.bi .leq 0 (.t 4) (i6 0))])
 (.cd (.t 5) (.sq (rg [om 2 (.k (.string ⟨#[109, 48]⟩))])
 (.rt))
 (.sk)))
 (.sq (rg [om 3 (.k (.string ⟨#[]⟩))])
 (.sq (.bl 0 (.lp [0, 3] [] (.sq (.sq (rg [om 6 (.t 0),
 oo 7 (.bi .gtr 0 (.t 6) (i6 0))])
 (.cd (.t 7) (.sk)
 (.ex 0)))
 (.bl 1 (.sq (rg [om 8 (.t 0),
 oo 9 (.bi .rem 0 (.t 8) (i6 10)),
 oo 10 (.bi .add 0 (i6 48) (.t 9)),
 oo 11 (.cv (.int .u8) (.t 10)),
 oo 12 (.bs 1 1 [.int .u8 0] [(0, .t 11)]),
 oo 13 (.sb (.t 12)),
 om 14 (.t 3),
 oo 15 (.bi .add 0 (.t 13) (.t 14)),
 om 3 (.t 15)])
 (rg [om 16 (.t 0),
 oo 17 (.bi .quo 0 (.t 16) (i6 10)),
 om 0 (.t 17)]))))))
 (.sq (rg [om 18 (.t 3),
 oo 19 (.bi .add 0 (.k (.string ⟨#[109]⟩)) (.t 18)),
 om 2 (.t 19)])
 (.rt)))))) }
theorem Zdz : Z2 Go.Proofs.Tryz.prog JF Ds = true := by kernel_rfl
def UG : F2 :=
 { nt := 34, res := [.t 4 [0]], body :=
  (.sq (rg [om 4 (i6 0)])
 (.sq (.sq (rg [om 5 (i6 0)])
 (.bl 0 (.lp [0, 1, 5] [] (.sq (.sq (rg [om 6 (.t 5),
 om 7 (.t 0),
 oo 8 (.ln (.t 7)),
 oo 9 (.bi .lss 0 (.t 6) (.t 8))])
 (.cd (.t 9) (.sk)
 (.ex 0)))
 (.sq (.bl 1 (.sq (rg [om 12 (.t 0),
 om 13 (.t 5),
 om 14 (.t 1),
 oo 15 (.ia 3 (.t 12) (.t 13)),
 oo 16 (.fa 0 (.t 15)),
 on1 (.st 1 (.t 16) (.t 14))])
 (.sq (rg [om 17 (.t 1),
 oo 18 (.bi .add 0 (.t 17) (i6 1)),
 om 1 (.t 18)])
 (.sq (rg [om 19 (.t 0),
 om 20 (.t 5),
 om 21 (.t 1),
 oo 22 (.ia 3 (.t 19) (.t 20)),
 oo 23 (.fa 1 (.t 22)),
 on1 (.st 1 (.t 23) (.t 21))])
 (.sq (rg [om 24 (.t 1),
 oo 25 (.bi .add 0 (.t 24) (i6 1)),
 om 1 (.t 25)])
 (rg [om 26 (.t 0),
 om 27 (.t 5),
 oo 28 (.ia 3 (.t 26) (.t 27)),
 oo 29 (.fa 2 (.t 28)),
 oo 30 (.ld none (.t 29)),
 om 31 (.t 1),
 oo 32 (.ca .any true (.f Va) [.t 30, .t 31]),
 om 1 (.t 32)]))))))
 (rg [om 10 (.t 5),
 oo 11 (.bi .add 0 (.t 10) (i6 1)),
 om 5 (.t 11)]))))))
 (.sq (rg [om 33 (.t 1),
 om 4 (.t 33)])
 (.rt)))) }
theorem Zcp : Z2 Go.Proofs.Tryz.prog Qr UG = true := by kernel_rfl
def Dt : F2 :=
 { nt := 19, res := [.t 4 [0]], body :=
  (.sq (rg [om 4 (i6 0)])
 (.sq (.sq (rg [om 5 (i6 0)])
 (.bl 0 (.lp [0, 1, 5] [] (.sq (.sq (rg [om 6 (.t 5),
 om 7 (.t 0),
 oo 8 (.ln (.t 7)),
 oo 9 (.bi .lss 0 (.t 6) (.t 8))])
 (.cd (.t 9) (.sk)
 (.ex 0)))
 (.sq (.bl 1 (.sq (rg [om 12 (.t 0),
 om 13 (.t 5),
 om 14 (.t 1),
 oo 15 (.ia 1 (.t 12) (.t 13)),
 on1 (.st 1 (.t 15) (.t 14))])
 (rg [om 16 (.t 1),
 oo 17 (.bi .add 0 (.t 16) (i6 1)),
 om 1 (.t 17)])))
 (rg [om 10 (.t 5),
 oo 11 (.bi .add 0 (.t 10) (i6 1)),
 om 5 (.t 11)]))))))
 (.sq (rg [om 18 (.t 1),
 om 4 (.t 18)])
 (.rt)))) }
theorem ZdA : Z2 Go.Proofs.Tryz.prog Va Dt = true := by kernel_rfl
def Wp : F2 :=
 { nt := 20, res := [.t 4 [0]], body :=
  (.sq (rg [om 4 (i6 0)])
 (.sq (.sq (rg [om 5 (i6 0)])
 (.bl 0 (.lp [0, 1, 5] [] (.sq (.sq (rg [om 6 (.t 5),
 om 7 (.t 0),
 oo 8 (.ln (.t 7)),
 oo 9 (.bi .lss 0 (.t 6) (.t 8))])
 (.cd (.t 9) (.sk)
 (.ex 0)))
 (.sq (.bl 1 (.sq (rg [om 12 (.t 0),
 om 13 (.t 5),
 om 14 (.t 1),
 oo 15 (.ca .pure false (.f JF) [.t 14]),
 oo 16 (.ia 1 (.t 12) (.t 13)),
 on1 (.st 1 (.t 16) (.t 15))])
 (rg [om 17 (.t 1),
 oo 18 (.bi .add 0 (.t 17) (i6 1)),
 om 1 (.t 18)])))
 (rg [om 10 (.t 5),
 oo 11 (.bi .add 0 (.t 10) (i6 1)),
 om 5 (.t 11)]))))))
 (.sq (rg [om 19 (.t 1),
 om 4 (.t 19)])
 (.rt)))) }
theorem Zbm : Z2 Go.Proofs.Tryz.prog Vm Wp = true := by kernel_rfl
def UH : F2 :=
 { nt := 28, res := [.t 4 [0]], body :=
  (.sq (rg [om 4 (i6 0)])
 (.sq (.sq (rg [om 5 (i6 0)])
 (.bl 0 (.lp [0, 1, 5] [] (.sq (.sq (rg [om 6 (.t 5),
 om 7 (.t 0),
 oo 8 (.ln (.t 7)),
 oo 9 (.bi .lss 0 (.t 6) (.t 8))])
 (.cd (.t 9) (.sk)
 (.ex 0)))
 (.sq (.bl 1 (.sq (rg [om 12 (.t 0),
 om 13 (.t 5),
 om 14 (.t 1),
 oo 15 (.ca .pure false (.f JF) [.t 14]),
 oo 16 (.ia 2 (.t 12) (.t 13)),
 oo 17 (.fa 0 (.t 16)),
 on1 (.st 1 (.t 17) (.t 15))])
 (.sq (rg [om 18 (.t 1),
 oo 19 (.bi .add 0 (.t 18) (i6 1)),
 om 1 (.t 19)])
 (.sq (rg [om 20 (.t 0),
 om 21 (.t 5),
 om 22 (.t 1),
 oo 23 (.ia 2 (.t 20) (.t 21)),
 oo 24 (.fa 1 (.t 23)),
 on1 (.st 1 (.t 24) (.t 22))])
 (rg [om 25 (.t 1),
 oo 26 (.bi .add 0 (.t 25) (i6 1)),
 om 1 (.t 26)])))))
 (rg [om 10 (.t 5),
 oo 11 (.bi .add 0 (.t 10) (i6 1)),
 om 5 (.t 11)]))))))
 (.sq (rg [om 27 (.t 1),
 om 4 (.t 27)])
 (.rt)))) }
theorem Zcq : Z2 Go.Proofs.Tryz.prog Qs UH = true := by kernel_rfl
def UI : F2 :=
 { nt := 40, res := [.t 4 [0]], body :=
  (.sq (rg [om 4 (i6 0)])
 (.sq (.sq (rg [om 5 (i6 0)])
 (.bl 0 (.lp [0, 1, 5] [] (.sq (.sq (rg [om 6 (.t 5),
 om 7 (.t 0),
 oo 8 (.ln (.t 7)),
 oo 9 (.bi .lss 0 (.t 6) (.t 8))])
 (.cd (.t 9) (.sk)
 (.ex 0)))
 (.sq (.bl 1 (.sq (.sq (rg [om 12 (.t 0),
 om 13 (.t 5),
 oo 14 (.ia 3 (.t 12) (.t 13)),
 oo 15 (.fa 0 (.t 14)),
 oo 16 (.ld none (.t 15)),
 om 17 (.t 1),
 oo 18 (.bi .neq 0 (.t 16) (.t 17))])
 (.cd (.t 18) (.sq (rg [om 4 (i6 (-1))])
 (.rt))
 (.sk)))
 (.sq (rg [om 19 (.t 1),
 oo 20 (.bi .add 0 (.t 19) (i6 1)),
 om 1 (.t 20)])
 (.sq (.sq (rg [om 21 (.t 0),
 om 22 (.t 5),
 oo 23 (.ia 3 (.t 21) (.t 22)),
 oo 24 (.fa 1 (.t 23)),
 oo 25 (.ld none (.t 24)),
 om 26 (.t 1),
 oo 27 (.bi .neq 0 (.t 25) (.t 26))])
 (.cd (.t 27) (.sq (rg [om 4 (i6 (-1))])
 (.rt))
 (.sk)))
 (.sq (rg [om 28 (.t 1),
 oo 29 (.bi .add 0 (.t 28) (i6 1)),
 om 1 (.t 29)])
 (.sq (rg [om 30 (.t 0),
 om 31 (.t 5),
 oo 32 (.ia 3 (.t 30) (.t 31)),
 oo 33 (.fa 2 (.t 32)),
 oo 34 (.ld none (.t 33)),
 om 35 (.t 1),
 oo 36 (.ca .pure false (.f Vb) [.t 34, .t 35]),
 om 1 (.t 36)])
 (.sq (rg [om 37 (.t 1),
 oo 38 (.bi .lss 0 (.t 37) (i6 0))])
 (.cd (.t 38) (.sq (rg [om 4 (i6 (-1))])
 (.rt))
 (.sk)))))))))
 (rg [om 10 (.t 5),
 oo 11 (.bi .add 0 (.t 10) (i6 1)),
 om 5 (.t 11)]))))))
 (.sq (rg [om 39 (.t 1),
 om 4 (.t 39)])
 (.rt)))) }
theorem Zcr : Z2 Go.Proofs.Tryz.prog Qt UI = true := by kernel_rfl
def Du : F2 :=
 { nt := 21, res := [.t 4 [0]], body :=
  (.sq (rg [om 4 (i6 0)])
 (.sq (.sq (rg [om 5 (i6 0)])
 (.bl 0 (.lp [0, 1, 5] [] (.sq (.sq (rg [om 6 (.t 5),
 om 7 (.t 0),
 oo 8 (.ln (.t 7)),
 oo 9 (.bi .lss 0 (.t 6) (.t 8))])
 (.cd (.t 9) (.sk)
 (.ex 0)))
 (.sq (.bl 1 (.sq (.sq (rg [om 12 (.t 0),
 om 13 (.t 5),
 oo 14 (.ia 1 (.t 12) (.t 13)),
 oo 15 (.ld none (.t 14)),
 om 16 (.t 1),
 oo 17 (.bi .neq 0 (.t 15) (.t 16))])
 (.cd (.t 17) (.sq (rg [om 4 (i6 (-1))])
 (.rt))
 (.sk)))
 (rg [om 18 (.t 1),
 oo 19 (.bi .add 0 (.t 18) (i6 1)),
 om 1 (.t 19)])))
 (rg [om 10 (.t 5),
 oo 11 (.bi .add 0 (.t 10) (i6 1)),
 om 5 (.t 11)]))))))
 (.sq (rg [om 20 (.t 1),
 om 4 (.t 20)])
 (.rt)))) }
theorem ZdB : Z2 Go.Proofs.Tryz.prog Vb Du = true := by kernel_rfl
def Wq : F2 :=
 { nt := 22, res := [.t 4 [0]], body :=
  (.sq (rg [om 4 (i6 0)])
 (.sq (.sq (rg [om 5 (i6 0)])
 (.bl 0 (.lp [0, 1, 5] [] (.sq (.sq (rg [om 6 (.t 5),
 om 7 (.t 0),
 oo 8 (.ln (.t 7)),
 oo 9 (.bi .lss 0 (.t 6) (.t 8))])
 (.cd (.t 9) (.sk)
 (.ex 0)))
 (.sq (.bl 1 (.sq (.sq (.rg (some 0) [om 12 (.t 0),
 om 13 (.t 5),
 oo 14 (.ia 1 (.t 12) (.t 13)),
 oo 15 (.ld none (.t 14)),
 om 16 (.t 1),
 oo 17 (.ca .pure false (.f JF) [.t 16]),
 oo 18 (.bi .neq 0 (.t 15) (.t 17))])
 (.cd (.t 18) (.sq (rg [om 4 (i6 (-1))])
 (.rt))
 (.sk)))
 (rg [om 19 (.t 1),
 oo 20 (.bi .add 0 (.t 19) (i6 1)),
 om 1 (.t 20)])))
 (rg [om 10 (.t 5),
 oo 11 (.bi .add 0 (.t 10) (i6 1)),
 om 5 (.t 11)]))))))
 (.sq (rg [om 21 (.t 1),
 om 4 (.t 21)])
 (.rt)))) }
theorem Zbn : Z2 Go.Proofs.Tryz.prog Vn Wq = true := by kernel_rfl
def UJ : F2 :=
 { nt := 32, res := [.t 4 [0]], body :=
  (.sq (rg [om 4 (i6 0)])
 (.sq (.sq (rg [om 5 (i6 0)])
 (.bl 0 (.lp [0, 1, 5] [] (.sq (.sq (rg [om 6 (.t 5),
 om 7 (.t 0),
 oo 8 (.ln (.t 7)),
 oo 9 (.bi .lss 0 (.t 6) (.t 8))])
 (.cd (.t 9) (.sk)
 (.ex 0)))
 (.sq (.bl 1 (.sq (.sq (.rg (some 0) [om 12 (.t 0),
 om 13 (.t 5),
 oo 14 (.ia 2 (.t 12) (.t 13)),
 oo 15 (.fa 0 (.t 14)),
 oo 16 (.ld none (.t 15)),
 om 17 (.t 1),
 oo 18 (.ca .pure false (.f JF) [.t 17]),
 oo 19 (.bi .neq 0 (.t 16) (.t 18))])
 (.cd (.t 19) (.sq (rg [om 4 (i6 (-1))])
 (.rt))
 (.sk)))
 (.sq (rg [om 20 (.t 1),
 oo 21 (.bi .add 0 (.t 20) (i6 1)),
 om 1 (.t 21)])
 (.sq (.sq (rg [om 22 (.t 0),
 om 23 (.t 5),
 oo 24 (.ia 2 (.t 22) (.t 23)),
 oo 25 (.fa 1 (.t 24)),
 oo 26 (.ld none (.t 25)),
 om 27 (.t 1),
 oo 28 (.bi .neq 0 (.t 26) (.t 27))])
 (.cd (.t 28) (.sq (rg [om 4 (i6 (-1))])
 (.rt))
 (.sk)))
 (rg [om 29 (.t 1),
 oo 30 (.bi .add 0 (.t 29) (i6 1)),
 om 1 (.t 30)])))))
 (rg [om 10 (.t 5),
 oo 11 (.bi .add 0 (.t 10) (i6 1)),
 om 5 (.t 11)]))))))
 (.sq (rg [om 31 (.t 1),
 om 4 (.t 31)])
 (.rt)))) }
theorem Zcs : Z2 Go.Proofs.Tryz.prog Qu UJ = true := by kernel_rfl
end Go.Fd

/-
  THE TEXT OF A MARK; THE MARKS OF NUMBERS AND TEXTS. Own work.
-/
namespace Go.Fd
set_option maxRecDepth 20000
abbrev Zfu (_ : Int) (k : Int) : Int := k
abbrev Xz (_ : Int) : Nat := 1
def mt (q : Nat) (o : ByteArray) : ByteArray := if q = 0 then o else mt (q / 10) (⟨#[UInt8.ofNat (48 + q % 10)]⟩ ++ o)
 termination_by q
 decreasing_by omega
theorem Zr2 {q : Nat} {o : ByteArray} (h : 0 < q) : mt q o = mt (q / 10) (⟨#[UInt8.ofNat (48 + q % 10)]⟩ ++ o) := by
 rw [mt, if_neg (by omega)]
theorem ZoN {o : ByteArray} : mt 0 o = o := by rw [mt, if_pos rfl]
def ZkK (k : Int) : ByteArray := if k <= 0 then ⟨#[109, 48]⟩ else ⟨#[109]⟩ ++ mt k.toNat ⟨#[]⟩
theorem Xa (k : Int) (h : k <= 4611686018427387904) (lvl : Nat) (S : Sto) : Sem Go.Proofs.Tryz.prog JF lvl [iI k] S (iS (ZkK k)) S := by
 refine Zf Zdz trivial ?_
 simp only [Ds, EVA, ↓reduceIte, Nat.reduceEqDiff, Nat.reduceMul, reduceCtorEq, Nat.reduceAdd, Nat.reduceSub, Nat.reduceLeDiff, Nat.reduceLT, Int.reduceToNat, Int.reduceLE, Int.reduceLT, Ze, men]
 unfold ZkK
 refine Zu (fun h0 => ?_) (fun h0 => ?_)
 ·rw [if_pos h0]
 ·rw [if_neg h0]
  obtain ⟨K, hK⟩ : ∃ K : Nat, k = K := ⟨k.toNat, by omega⟩
  subst hK
  rw [Int.toNat_natCast]
  refine Z6 (α := Nat × ByteArray) K (fun j y => ⟨lvl, [(0, iI y.1), (3, iS y.2)], [], S⟩) (fun j y => y.1 + j <= K /\ mt y.1 y.2 = mt K ⟨#[]⟩ /\ y.1 * 10 ^ y.2.size <= K /\ y.2.size <= 19) (K, ⟨#[]⟩) ⟨by simp only [EVA, ↓reduceIte, Nat.reduceEqDiff, Nat.reduceMul, reduceCtorEq, Nat.reduceAdd, Nat.reduceSub, Nat.reduceLeDiff, Nat.reduceLT, Int.reduceToNat, Int.reduceLE, Int.reduceLT, Ze, men], by simp only [EVA, ↓reduceIte, Nat.reduceEqDiff, Nat.reduceMul, reduceCtorEq, Nat.reduceAdd, Nat.reduceSub, Nat.reduceLeDiff, Nat.reduceLT, Int.reduceToNat, Int.reduceLE, Int.reduceLT, Ze, men]⟩ ⟨Nat.le_refl _, rfl, Nat.le_of_eq (Nat.mul_one K), (by decide : (0 : Nat) <= 19)⟩ ?_
  intro j y hj hA
  obtain ⟨q, o⟩ := y
  obtain ⟨h1, h2, h3, h4⟩ := hA
  simp only at h1 h2 h3 h4
  simp only [EVA, ↓reduceIte, Nat.reduceEqDiff, Nat.reduceMul, reduceCtorEq, Nat.reduceAdd, Nat.reduceSub, Nat.reduceLeDiff, Nat.reduceLT, Int.reduceToNat, Int.reduceLE, Int.reduceLT, Ze, men]
  refine Zu (fun hq => ?_) (fun hq => ?_)
  ·have hq0 : 0 < q := by omega
   have hby : byR [[Tr.v (Value.int IntKind.u8 (48 + (q : Int) % 10))]] = some [UInt8.ofNat (48 + q % 10)] := by
    have e : (48 + (q : Int) % 10).toNat = 48 + q % 10 := by omega
    simp only [cut, List.replicate_one, List.set_cons_zero, List.drop_zero, List.take_succ_cons, List.take_zero, byR, Option.map_some, e]
   have h5 : o.size < 19 := by
    apply Classical.byContradiction
    intro hc
    have e : o.size = 19 := by omega
    rw [e] at h3
    have : 1 * 10 ^ 19 <= q * 10 ^ 19 := Nat.mul_le_mul_right _ hq0
    omega
   have h6 : q / 10 * 10 ^ (o.size + 1) <= K := by
    refine Nat.le_trans ?_ h3
    rw [Nat.pow_succ, Nat.mul_comm (10 ^ o.size) 10, <- Nat.mul_assoc]
    exact Nat.mul_le_mul_right _ (by omega)
   rw [hby]
   simp only [EVA, ↓reduceIte, Nat.reduceEqDiff, Nat.reduceMul, reduceCtorEq, Nat.reduceAdd, Nat.reduceSub, Nat.reduceLeDiff, Nat.reduceLT, Int.reduceToNat, Int.reduceLE, Int.reduceLT, Ze, men]
   have hs : (ByteArray.mk #[UInt8.ofNat (48 + q % 10)] ++ o).size = o.size + 1 := by
    rw [ByteArray.size_append, Nat.add_comm]; rfl
   have e8 : Q1 .u8 (48 + (q : Int) % 10) := by
    constructor
    ·show (0 : Int) <= _; omega
    ·show _ <= (255 : Int); omega
   refine ⟨by rw [Zg]; omega, e8, ?_, by rw [Zg]; omega, Zi (q / 10, ByteArray.mk #[UInt8.ofNat (48 + q % 10)] ++ o) (by omega) ?_ ⟨by simp only; omega, ?_, ?_, ?_⟩⟩
   ·show 1 + o.size <= 4294967296
    omega
   ·rfl
   ·rw [<- h2, Zr2 hq0]
   ·simp only [hs]; exact h6
   ·simp only [hs]; omega
  ·have : q = 0 := by omega
   subst this
   rw [<- h2, ZoN]
   refine ⟨?_, rfl⟩
   show 1 + o.size <= 4294967296
   omega
abbrev ZfI (_ : ByteArray) (k : Int) : ByteArray := ZkK k
abbrev Ut (_ : ByteArray) : Nat := 1
end Go.Fd

/-
  WHAT THE MARKING FUNCTIONS DO (printed by lawgen.py). Own work.
-/
namespace Go.Fd
set_option maxRecDepth 20000
theorem ZgI : MarkS Go.Proofs.Tryz.prog Va (fun n : Int => [tv n]) Zfu Xz (fun _ => True) := by
 intro a k lvl S id p es r0 kk hw ver st cap hid hv hst h0 hk hl hB
 have hne : id.1 ≠ lvl := by omega
 have hgp : ∀ r, getp (W5 es p r) p = some r := fun r => XM hv
 refine Zf ZdA trivial ?_
 simp only [Dt, EVA, ↓reduceIte, Nat.reduceEqDiff, Nat.reduceMul, reduceCtorEq, Nat.reduceAdd, Nat.reduceSub, Nat.reduceLeDiff, Nat.reduceLT, Int.reduceToNat, Int.reduceLE, Int.reduceLT, Ze, men]
 refine Z6 (α := Unit) a.length (fun j _ => ⟨lvl, [(0, .hd id p 0 a.length cap st), (1, iI (kJ Xz a k j)), (5, iI j)], [], ZZ S id (.ar kk (W5 es p ((lJ Zfu Xz a k j).map (fun n : Int => [tv n]))) true hw ver)⟩) (fun _ _ => True) () ⟨by simp only [ZW hne, EVA, ↓reduceIte, Nat.reduceEqDiff, Nat.reduceMul, reduceCtorEq, Nat.reduceAdd, Nat.reduceSub, Nat.reduceLeDiff, Nat.reduceLT, Int.reduceToNat, Int.reduceLE, Int.reduceLT, Ze, men], by (simp only [Uk, Zc8, EVA, ↓reduceIte, Nat.reduceEqDiff, Nat.reduceMul, reduceCtorEq, Nat.reduceAdd, Nat.reduceSub, Nat.reduceLeDiff, Nat.reduceLT, Int.reduceToNat, Int.reduceLE, Int.reduceLT, Ze, men]) <;> rfl⟩ trivial ?_
 intro j _ hj _
 simp only [List.length_map, EVA, ↓reduceIte, Nat.reduceEqDiff, Nat.reduceMul, reduceCtorEq, Nat.reduceAdd, Nat.reduceSub, Nat.reduceLeDiff, Nat.reduceLT, Int.reduceToNat, Int.reduceLE, Int.reduceLT, Ze, men]
 refine Zu (fun hlt => ?_) (fun hge => ?_)
 ·have hja : j < a.length := by omega
  obtain ⟨R, hjR, hR, hR'⟩ := Zgb Zfu Xz (fun n : Int => [tv n]) (k := k) hja
  have hge2 := Ze0 Xz (a := a) (k := k) (j := j + 1)
  rw [YJ Xz hja] at hge2
  have hge3 := Ze1 Xz (a := a) (k := k) (j := j)
  rw [hR]
  try simp only [Xz] at hge2
  try simp only [Js hne, VL hne, J8, Q5, hst, hgp, QX hjR, Xu hv hjR, Nat.zero_add, hja, ZW hne, List.length_map, tv, EVA, ↓reduceIte, Nat.reduceEqDiff, Nat.reduceMul, reduceCtorEq, Nat.reduceAdd, Nat.reduceSub, Nat.reduceLeDiff, Nat.reduceLT, Int.reduceToNat, Int.reduceLE, Int.reduceLT, Ze, men]
  refine ⟨by rw [Zg]; omega, ⟨by rw [Zg]; omega, Zi () hja ?_ trivial⟩⟩
  rw [YJ Xz hja, hR']
  simp only [Xz, Zfu, tv, Int.natCast_add, Int.natCast_one, Int.add_assoc]
  try rfl
 ·have : j = a.length := by omega
  subst this
  rw [ZaQ, Zga]
  exact ⟨rfl, rfl⟩
def ZbS (x : TNode) (k : Int) : TNode := { control := k, parent := k + 1, links := mL Zfu Xz x.links (k + 1 + 1) }
def JQ (x : TNode) : Nat := 1 + 1 + nL Xz x.links
theorem ZiW : MarkS Go.Proofs.Tryz.prog Qr ZK ZbS JQ (Q6 4294967296) := by
 intro a k lvl S id p es r0 kk hw ver st cap hid hv hst h0 hk hl hB
 have hne : id.1 ≠ lvl := by omega
 have hgp : ∀ r, getp (W5 es p r) p = some r := fun r => XM hv
 refine Zf Zcp trivial ?_
 simp only [UG, EVA, ↓reduceIte, Nat.reduceEqDiff, Nat.reduceMul, reduceCtorEq, Nat.reduceAdd, Nat.reduceSub, Nat.reduceLeDiff, Nat.reduceLT, Int.reduceToNat, Int.reduceLE, Int.reduceLT, Ze, men]
 refine Z6 (α := Unit) a.length (fun j _ => ⟨lvl, [(0, .hd id p 0 a.length cap st), (1, iI (kJ JQ a k j)), (5, iI j)], [], ZZ S id (.ar kk (W5 es p ((lJ ZbS JQ a k j).map ZK)) true hw ver)⟩) (fun _ _ => True) () ⟨by simp only [ZW hne, EVA, ↓reduceIte, Nat.reduceEqDiff, Nat.reduceMul, reduceCtorEq, Nat.reduceAdd, Nat.reduceSub, Nat.reduceLeDiff, Nat.reduceLT, Int.reduceToNat, Int.reduceLE, Int.reduceLT, Ze, men], by (simp only [Uk, Zc8, EVA, ↓reduceIte, Nat.reduceEqDiff, Nat.reduceMul, reduceCtorEq, Nat.reduceAdd, Nat.reduceSub, Nat.reduceLeDiff, Nat.reduceLT, Int.reduceToNat, Int.reduceLE, Int.reduceLT, Ze, men]) <;> rfl⟩ trivial ?_
 intro j _ hj _
 simp only [List.length_map, EVA, ↓reduceIte, Nat.reduceEqDiff, Nat.reduceMul, reduceCtorEq, Nat.reduceAdd, Nat.reduceSub, Nat.reduceLeDiff, Nat.reduceLT, Int.reduceToNat, Int.reduceLE, Int.reduceLT, Ze, men]
 refine Zu (fun hlt => ?_) (fun hge => ?_)
 ·have hja : j < a.length := by omega
  obtain ⟨R, hjR, hR, hR'⟩ := Zgb ZbS JQ ZK (k := k) hja
  have hge2 := Ze0 JQ (a := a) (k := k) (j := j + 1)
  rw [YJ JQ hja] at hge2
  have hge3 := Ze1 JQ (a := a) (k := k) (j := j)
  rw [hR]
  try simp only [JQ] at hge2
  have hb := hB _ (List.getElem_mem hja)
  have b0 : (a[j]).links.length <= 4294967296 := hb
  try simp only [Js hne, VL hne, J8, Q5, hst, hgp, QX hjR, Xu hv hjR, Nat.zero_add, hja, ZW hne, List.length_map, ZK, EVA, ↓reduceIte, Nat.reduceEqDiff, Nat.reduceMul, reduceCtorEq, Nat.reduceAdd, Nat.reduceSub, Nat.reduceLeDiff, Nat.reduceLT, Int.reduceToNat, Int.reduceLE, Int.reduceLT, Ze, men]
  refine ⟨by rw [Zg]; omega, ⟨by rw [Zg]; omega, ?_⟩⟩
  simp only [WD]
  refine ZlL ZgI hid hv (by omega) (by omega) b0 (fun _ _ => trivial) hjR rfl (by simp only [List.length_map]) ?_
  simp only [List.set_cons_succ, List.set_cons_zero, Js hne, VL hne, J8, Q5, hst, hgp, QX hjR, Xu hv hjR, Nat.zero_add, hja, ZW hne, List.length_map, ZK, EVA, ↓reduceIte, Nat.reduceEqDiff, Nat.reduceMul, reduceCtorEq, Nat.reduceAdd, Nat.reduceSub, Nat.reduceLeDiff, Nat.reduceLT, Int.reduceToNat, Int.reduceLE, Int.reduceLT, Ze, men]
  refine ⟨by rw [Zg]; omega, Zi () hja ?_ trivial⟩
  rw [YJ JQ hja, hR']
  simp only [JQ, ZbS, ZK, Int.natCast_add, Int.natCast_one, Int.add_assoc]
  try rfl
 ·have : j = a.length := by omega
  subst this
  rw [ZaQ, Zga]
  exact ⟨rfl, rfl⟩
theorem ZgJ : MarkS Go.Proofs.Tryz.prog Vm (fun n : ByteArray => [ts n]) ZfI Ut (fun x => x.size <= 4294967296) := by
 intro a k lvl S id p es r0 kk hw ver st cap hid hv hst h0 hk hl hB
 have hne : id.1 ≠ lvl := by omega
 have hgp : ∀ r, getp (W5 es p r) p = some r := fun r => XM hv
 refine Zf Zbm trivial ?_
 simp only [Wp, EVA, ↓reduceIte, Nat.reduceEqDiff, Nat.reduceMul, reduceCtorEq, Nat.reduceAdd, Nat.reduceSub, Nat.reduceLeDiff, Nat.reduceLT, Int.reduceToNat, Int.reduceLE, Int.reduceLT, Ze, men]
 refine Z6 (α := Unit) a.length (fun j _ => ⟨lvl, [(0, .hd id p 0 a.length cap st), (1, iI (kJ Ut a k j)), (5, iI j)], [], ZZ S id (.ar kk (W5 es p ((lJ ZfI Ut a k j).map (fun n : ByteArray => [ts n]))) true hw ver)⟩) (fun _ _ => True) () ⟨by simp only [ZW hne, EVA, ↓reduceIte, Nat.reduceEqDiff, Nat.reduceMul, reduceCtorEq, Nat.reduceAdd, Nat.reduceSub, Nat.reduceLeDiff, Nat.reduceLT, Int.reduceToNat, Int.reduceLE, Int.reduceLT, Ze, men], by (simp only [Uk, Zc8, EVA, ↓reduceIte, Nat.reduceEqDiff, Nat.reduceMul, reduceCtorEq, Nat.reduceAdd, Nat.reduceSub, Nat.reduceLeDiff, Nat.reduceLT, Int.reduceToNat, Int.reduceLE, Int.reduceLT, Ze, men]) <;> rfl⟩ trivial ?_
 intro j _ hj _
 simp only [List.length_map, EVA, ↓reduceIte, Nat.reduceEqDiff, Nat.reduceMul, reduceCtorEq, Nat.reduceAdd, Nat.reduceSub, Nat.reduceLeDiff, Nat.reduceLT, Int.reduceToNat, Int.reduceLE, Int.reduceLT, Ze, men]
 refine Zu (fun hlt => ?_) (fun hge => ?_)
 ·have hja : j < a.length := by omega
  obtain ⟨R, hjR, hR, hR'⟩ := Zgb ZfI Ut (fun n : ByteArray => [ts n]) (k := k) hja
  have hge2 := Ze0 Ut (a := a) (k := k) (j := j + 1)
  rw [YJ Ut hja] at hge2
  have hge3 := Ze1 Ut (a := a) (k := k) (j := j)
  rw [hR]
  try simp only [Ut] at hge2
  try simp only [Js hne, VL hne, J8, Q5, hst, hgp, QX hjR, Xu hv hjR, Nat.zero_add, hja, ZW hne, List.length_map, tv, EVA, ↓reduceIte, Nat.reduceEqDiff, Nat.reduceMul, reduceCtorEq, Nat.reduceAdd, Nat.reduceSub, Nat.reduceLeDiff, Nat.reduceLT, Int.reduceToNat, Int.reduceLE, Int.reduceLT, Ze, men]
  refine Zb (Xa (kJ Ut a k j) (by omega)) ?_
  simp only [Js hne, VL hne, J8, Q5, hst, hgp, QX hjR, Xu hv hjR, Nat.zero_add, hja, ZW hne, List.length_map, tv, EVA, ↓reduceIte, Nat.reduceEqDiff, Nat.reduceMul, reduceCtorEq, Nat.reduceAdd, Nat.reduceSub, Nat.reduceLeDiff, Nat.reduceLT, Int.reduceToNat, Int.reduceLE, Int.reduceLT, Ze, men]
  refine ⟨by rw [Zg]; omega, ⟨by rw [Zg]; omega, Zi () hja ?_ trivial⟩⟩
  rw [YJ Ut hja, hR']
  simp only [Ut, ZfI, tv, Int.natCast_add, Int.natCast_one, Int.add_assoc]
  try rfl
 ·have : j = a.length := by omega
  subst this
  rw [ZaQ, Zga]
  exact ⟨rfl, rfl⟩
def ZbT (x : TWire) (k : Int) : TWire := { name := ZkK (k), link := k + 1 }
def Y3 (x : TWire) : Nat := 1 + 1
theorem ZiX : MarkS Go.Proofs.Tryz.prog Qs ZO ZbT Y3 (V4 4294967296) := by
 intro a k lvl S id p es r0 kk hw ver st cap hid hv hst h0 hk hl hB
 have hne : id.1 ≠ lvl := by omega
 have hgp : ∀ r, getp (W5 es p r) p = some r := fun r => XM hv
 refine Zf Zcq trivial ?_
 simp only [UH, EVA, ↓reduceIte, Nat.reduceEqDiff, Nat.reduceMul, reduceCtorEq, Nat.reduceAdd, Nat.reduceSub, Nat.reduceLeDiff, Nat.reduceLT, Int.reduceToNat, Int.reduceLE, Int.reduceLT, Ze, men]
 refine Z6 (α := Unit) a.length (fun j _ => ⟨lvl, [(0, .hd id p 0 a.length cap st), (1, iI (kJ Y3 a k j)), (5, iI j)], [], ZZ S id (.ar kk (W5 es p ((lJ ZbT Y3 a k j).map ZO)) true hw ver)⟩) (fun _ _ => True) () ⟨by simp only [ZW hne, EVA, ↓reduceIte, Nat.reduceEqDiff, Nat.reduceMul, reduceCtorEq, Nat.reduceAdd, Nat.reduceSub, Nat.reduceLeDiff, Nat.reduceLT, Int.reduceToNat, Int.reduceLE, Int.reduceLT, Ze, men], by (simp only [Uk, Zc8, EVA, ↓reduceIte, Nat.reduceEqDiff, Nat.reduceMul, reduceCtorEq, Nat.reduceAdd, Nat.reduceSub, Nat.reduceLeDiff, Nat.reduceLT, Int.reduceToNat, Int.reduceLE, Int.reduceLT, Ze, men]) <;> rfl⟩ trivial ?_
 intro j _ hj _
 simp only [List.length_map, EVA, ↓reduceIte, Nat.reduceEqDiff, Nat.reduceMul, reduceCtorEq, Nat.reduceAdd, Nat.reduceSub, Nat.reduceLeDiff, Nat.reduceLT, Int.reduceToNat, Int.reduceLE, Int.reduceLT, Ze, men]
 refine Zu (fun hlt => ?_) (fun hge => ?_)
 ·have hja : j < a.length := by omega
  obtain ⟨R, hjR, hR, hR'⟩ := Zgb ZbT Y3 ZO (k := k) hja
  have hge2 := Ze0 Y3 (a := a) (k := k) (j := j + 1)
  rw [YJ Y3 hja] at hge2
  have hge3 := Ze1 Y3 (a := a) (k := k) (j := j)
  rw [hR]
  try simp only [Y3] at hge2
  have hb := hB _ (List.getElem_mem hja)
  have b0 : (a[j]).name.size <= 4294967296 := hb
  try simp only [Js hne, VL hne, J8, Q5, hst, hgp, QX hjR, Xu hv hjR, Nat.zero_add, hja, ZW hne, List.length_map, ZO, EVA, ↓reduceIte, Nat.reduceEqDiff, Nat.reduceMul, reduceCtorEq, Nat.reduceAdd, Nat.reduceSub, Nat.reduceLeDiff, Nat.reduceLT, Int.reduceToNat, Int.reduceLE, Int.reduceLT, Ze, men]
  refine Zb (Xa (kJ Y3 a k j) (by omega)) ?_
  simp only [Js hne, VL hne, J8, Q5, hst, hgp, QX hjR, Xu hv hjR, Nat.zero_add, hja, ZW hne, List.length_map, ZO, EVA, ↓reduceIte, Nat.reduceEqDiff, Nat.reduceMul, reduceCtorEq, Nat.reduceAdd, Nat.reduceSub, Nat.reduceLeDiff, Nat.reduceLT, Int.reduceToNat, Int.reduceLE, Int.reduceLT, Ze, men]
  refine ⟨by rw [Zg]; omega, ⟨by rw [Zg]; omega, ⟨by rw [Zg]; omega, Zi () hja ?_ trivial⟩⟩⟩
  rw [YJ Y3 hja, hR']
  simp only [Y3, ZbT, ZO, Int.natCast_add, Int.natCast_one, Int.add_assoc]
  try rfl
 ·have : j = a.length := by omega
  subst this
  rw [ZaQ, Zga]
  exact ⟨rfl, rfl⟩
def ZcI (x : TControl) (k : Int) : TControl := { name := ZkK (k), ports := k + 1, kind_ := k + 1 + 1 }
def JD (x : TControl) : Nat := 1 + 1 + 1
theorem Vh : MarkS Go.Proofs.Tryz.prog JM Zn ZcI JD (ZD 4294967296) := by
 intro a k lvl S id p es r0 kk hw ver st cap hid hv hst h0 hk hl hB
 have hne : id.1 ≠ lvl := by omega
 have hgp : ∀ r, getp (W5 es p r) p = some r := fun r => XM hv
 refine Zf Zau trivial ?_
 simp only [X4, EVA, ↓reduceIte, Nat.reduceEqDiff, Nat.reduceMul, reduceCtorEq, Nat.reduceAdd, Nat.reduceSub, Nat.reduceLeDiff, Nat.reduceLT, Int.reduceToNat, Int.reduceLE, Int.reduceLT, Ze, men]
 refine Z6 (α := Unit) a.length (fun j _ => ⟨lvl, [(0, .hd id p 0 a.length cap st), (1, iI (kJ JD a k j)), (5, iI j)], [], ZZ S id (.ar kk (W5 es p ((lJ ZcI JD a k j).map Zn)) true hw ver)⟩) (fun _ _ => True) () ⟨by simp only [ZW hne, EVA, ↓reduceIte, Nat.reduceEqDiff, Nat.reduceMul, reduceCtorEq, Nat.reduceAdd, Nat.reduceSub, Nat.reduceLeDiff, Nat.reduceLT, Int.reduceToNat, Int.reduceLE, Int.reduceLT, Ze, men], by (simp only [Uk, Zc8, EVA, ↓reduceIte, Nat.reduceEqDiff, Nat.reduceMul, reduceCtorEq, Nat.reduceAdd, Nat.reduceSub, Nat.reduceLeDiff, Nat.reduceLT, Int.reduceToNat, Int.reduceLE, Int.reduceLT, Ze, men]) <;> rfl⟩ trivial ?_
 intro j _ hj _
 simp only [List.length_map, EVA, ↓reduceIte, Nat.reduceEqDiff, Nat.reduceMul, reduceCtorEq, Nat.reduceAdd, Nat.reduceSub, Nat.reduceLeDiff, Nat.reduceLT, Int.reduceToNat, Int.reduceLE, Int.reduceLT, Ze, men]
 refine Zu (fun hlt => ?_) (fun hge => ?_)
 ·have hja : j < a.length := by omega
  obtain ⟨R, hjR, hR, hR'⟩ := Zgb ZcI JD Zn (k := k) hja
  have hge2 := Ze0 JD (a := a) (k := k) (j := j + 1)
  rw [YJ JD hja] at hge2
  have hge3 := Ze1 JD (a := a) (k := k) (j := j)
  rw [hR]
  try simp only [JD] at hge2
  have hb := hB _ (List.getElem_mem hja)
  have b0 : (a[j]).name.size <= 4294967296 := hb
  try simp only [Js hne, VL hne, J8, Q5, hst, hgp, QX hjR, Xu hv hjR, Nat.zero_add, hja, ZW hne, List.length_map, Zn, EVA, ↓reduceIte, Nat.reduceEqDiff, Nat.reduceMul, reduceCtorEq, Nat.reduceAdd, Nat.reduceSub, Nat.reduceLeDiff, Nat.reduceLT, Int.reduceToNat, Int.reduceLE, Int.reduceLT, Ze, men]
  refine Zb (Xa (kJ JD a k j) (by omega)) ?_
  simp only [Js hne, VL hne, J8, Q5, hst, hgp, QX hjR, Xu hv hjR, Nat.zero_add, hja, ZW hne, List.length_map, Zn, EVA, ↓reduceIte, Nat.reduceEqDiff, Nat.reduceMul, reduceCtorEq, Nat.reduceAdd, Nat.reduceSub, Nat.reduceLeDiff, Nat.reduceLT, Int.reduceToNat, Int.reduceLE, Int.reduceLT, Ze, men]
  refine ⟨by rw [Zg]; omega, ⟨by rw [Zg]; omega, ⟨by rw [Zg]; omega, ⟨by rw [Zg]; omega, Zi () hja ?_ trivial⟩⟩⟩⟩
  rw [YJ JD hja, hR']
  simp only [JD, ZcI, Zn, Int.natCast_add, Int.natCast_one, Int.add_assoc]
  try rfl
 ·have : j = a.length := by omega
  subst this
  rw [ZaQ, Zga]
  exact ⟨rfl, rfl⟩
end Go.Fd

/-
  The annotated codes of the functions, printed by a program of mine (gen.py), and the check that they belong to the program.
-/
namespace Go.Fd
def UK : F2 :=
 { nt := 30, res := [.t 4 [0]], body :=
  (.sq (rg [oo 2 (.bt (.t 0)),
 om 4 (i6 0)])
 (.sq (rg [oo 5 (.fa 1 (.t 2)),
 oo 6 (.ld none (.t 5)),
 om 7 (.t 1),
 oo 8 (.ca .pure false (.f Xe) [.t 6, .t 7]),
 om 1 (.t 8)])
 (.sq (.sq (rg [om 9 (.t 1),
 oo 10 (.bi .lss 0 (.t 9) (i6 0))])
 (.cd (.t 10) (.sq (rg [om 4 (i6 (-1))])
 (.rt))
 (.sk)))
 (.sq (rg [oo 11 (.fa 2 (.t 2)),
 oo 12 (.ld none (.t 11)),
 om 13 (.t 1),
 oo 14 (.ca .pure false (.f Qi) [.t 12, .t 13]),
 om 1 (.t 14)])
 (.sq (.sq (rg [om 15 (.t 1),
 oo 16 (.bi .lss 0 (.t 15) (i6 0))])
 (.cd (.t 16) (.sq (rg [om 4 (i6 (-1))])
 (.rt))
 (.sk)))
 (.sq (rg [oo 17 (.fa 4 (.t 2)),
 oo 18 (.ld none (.t 17)),
 om 19 (.t 1),
 oo 20 (.ca .pure false (.f Qj) [.t 18, .t 19]),
 om 1 (.t 20)])
 (.sq (.sq (rg [om 21 (.t 1),
 oo 22 (.bi .lss 0 (.t 21) (i6 0))])
 (.cd (.t 22) (.sq (rg [om 4 (i6 (-1))])
 (.rt))
 (.sk)))
 (.sq (rg [oo 23 (.fa 5 (.t 2)),
 oo 24 (.ld none (.t 23)),
 om 25 (.t 1),
 oo 26 (.ca .pure false (.f Xf) [.t 24, .t 25]),
 om 1 (.t 26)])
 (.sq (.sq (rg [om 27 (.t 1),
 oo 28 (.bi .lss 0 (.t 27) (i6 0))])
 (.cd (.t 28) (.sq (rg [om 4 (i6 (-1))])
 (.rt))
 (.sk)))
 (.sq (rg [om 29 (.t 1),
 om 4 (.t 29)])
 (.rt))))))))))) }
theorem Zct : Z2 Go.Proofs.Tryz.prog Je UK = true := by kernel_rfl
def W2 : F2 :=
 { nt := 23, res := [.t 2 [4]], body :=
  (.sq (rg [om 2 (.k (.slice none 0 0))])
 (.sq (rg [om 5 (.t 0),
 oo 6 (.ln (.t 5)),
 oo 7 (.ms 3 [.string ⟨#[]⟩, .int .i64 0, .int .i64 0] (.t 6)),
 om 3 (.t 7)])
 (.sq (.sq (rg [om 4 (i6 0)])
 (.bl 0 (.lp [0, 3, 4] [224] (.sq (.sq (rg [om 8 (.t 4),
 om 9 (.t 0),
 oo 10 (.ln (.t 9)),
 oo 11 (.bi .lss 0 (.t 8) (.t 10))])
 (.cd (.t 11) (.sk)
 (.ex 0)))
 (.sq (.bl 1 (rg [om 14 (.t 3),
 om 15 (.t 4),
 om 16 (.t 0),
 om 17 (.t 4),
 oo 18 (.ia 3 (.t 16) (.t 17)),
 oo 19 (.ld (some 3) (.t 18)),
 oo 20 (.ca .pure true (.f Qk) [.t 19]),
 oo 21 (.ia 3 (.t 14) (.t 15)),
 on1 (.st 3 (.t 21) (.t 20))]))
 (rg [om 12 (.t 4),
 oo 13 (.bi .add 0 (.t 12) (i6 1)),
 om 4 (.t 13)]))))))
 (.sq (rg [om 22 (.t 3),
 om 2 (.t 22)])
 (.rt))))) }
theorem ZbU : Z2 Go.Proofs.Tryz.prog ZF W2 = true := by kernel_rfl
def UL : F2 :=
 { nt := 27, res := [.c 2 (some 6) [0, 4, 2, 0, 2, 3]], body :=
  (.sq (rg [oo 1 (.bt (.t 0)),
 oo 2 (.al [.int .i64 0, .slice none 0 0, .slice none 0 0, .int .i64 0, .slice none 0 0, .slice none 0 0] [])])
 (.sq (rg [oo 3 (.al [.int .i64 0, .slice none 0 0, .slice none 0 0, .int .i64 0, .slice none 0 0, .slice none 0 0] [])])
 (.sq (rg [oo 4 (.fa 0 (.t 1)),
 oo 5 (.ld none (.t 4)),
 oo 6 (.fa 0 (.t 3)),
 on1 (.st 1 (.t 6) (.t 5))])
 (.sq (rg [oo 7 (.fa 1 (.t 1)),
 oo 8 (.ld none (.t 7)),
 oo 9 (.ca .pure true (.f Xg) [.t 8]),
 oo 10 (.fa 1 (.t 3)),
 on1 (.st 1 (.t 10) (.t 9))])
 (.sq (rg [oo 11 (.fa 2 (.t 1)),
 oo 12 (.ld none (.t 11)),
 oo 13 (.ca .pure true (.f Ql) [.t 12]),
 oo 14 (.fa 2 (.t 3)),
 on1 (.st 1 (.t 14) (.t 13))])
 (.sq (rg [oo 15 (.fa 3 (.t 1)),
 oo 16 (.ld none (.t 15)),
 oo 17 (.fa 3 (.t 3)),
 on1 (.st 1 (.t 17) (.t 16))])
 (.sq (rg [oo 18 (.fa 4 (.t 1)),
 oo 19 (.ld none (.t 18)),
 oo 20 (.ca .pure true (.f Qm) [.t 19]),
 oo 21 (.fa 4 (.t 3)),
 on1 (.st 1 (.t 21) (.t 20))])
 (.sq (rg [oo 22 (.fa 5 (.t 1)),
 oo 23 (.ld none (.t 22)),
 oo 24 (.ca .pure true (.f Xh) [.t 23]),
 oo 25 (.fa 5 (.t 3)),
 on1 (.st 1 (.t 25) (.t 24))])
 (.sq (rg [oo 26 (.ld (some 6) (.t 3)),
 on1 (.st 6 (.t 2) (.t 26))])
 (.rt)))))))))) }
theorem Zcu : Z2 Go.Proofs.Tryz.prog Zr UL = true := by kernel_rfl
def UM : F2 :=
 { nt := 39, res := [.t 4 [0]], body :=
  (.sq (rg [oo 2 (.bt (.t 0)),
 oo 3 (.bt (.t 1)),
 om 4 (.k (.bool false))])
 (.sq (.sq (rg [oo 5 (.fa 0 (.t 2)),
 oo 6 (.ld none (.t 5)),
 oo 7 (.fa 0 (.t 3)),
 oo 8 (.ld none (.t 7)),
 oo 9 (.bi .neq 0 (.t 6) (.t 8))])
 (.cd (.t 9) (.sq (rg [om 4 (.k (.bool false))])
 (.rt))
 (.sk)))
 (.sq (.sq (rg [oo 10 (.fa 1 (.t 2)),
 oo 11 (.ld none (.t 10)),
 oo 12 (.fa 1 (.t 3)),
 oo 13 (.ld none (.t 12)),
 oo 14 (.ca .pure false (.f Xi) [.t 11, .t 13]),
 oo 15 (.nt (.t 14))])
 (.cd (.t 15) (.sq (rg [om 4 (.k (.bool false))])
 (.rt))
 (.sk)))
 (.sq (.sq (rg [oo 16 (.fa 2 (.t 2)),
 oo 17 (.ld none (.t 16)),
 oo 18 (.fa 2 (.t 3)),
 oo 19 (.ld none (.t 18)),
 oo 20 (.ca .pure false (.f Qo) [.t 17, .t 19]),
 oo 21 (.nt (.t 20))])
 (.cd (.t 21) (.sq (rg [om 4 (.k (.bool false))])
 (.rt))
 (.sk)))
 (.sq (.sq (rg [oo 22 (.fa 3 (.t 2)),
 oo 23 (.ld none (.t 22)),
 oo 24 (.fa 3 (.t 3)),
 oo 25 (.ld none (.t 24)),
 oo 26 (.bi .neq 0 (.t 23) (.t 25))])
 (.cd (.t 26) (.sq (rg [om 4 (.k (.bool false))])
 (.rt))
 (.sk)))
 (.sq (.sq (rg [oo 27 (.fa 4 (.t 2)),
 oo 28 (.ld none (.t 27)),
 oo 29 (.fa 4 (.t 3)),
 oo 30 (.ld none (.t 29)),
 oo 31 (.ca .pure false (.f Qp) [.t 28, .t 30]),
 oo 32 (.nt (.t 31))])
 (.cd (.t 32) (.sq (rg [om 4 (.k (.bool false))])
 (.rt))
 (.sk)))
 (.sq (.sq (rg [oo 33 (.fa 5 (.t 2)),
 oo 34 (.ld none (.t 33)),
 oo 35 (.fa 5 (.t 3)),
 oo 36 (.ld none (.t 35)),
 oo 37 (.ca .pure false (.f Xj) [.t 34, .t 36]),
 oo 38 (.nt (.t 37))])
 (.cd (.t 38) (.sq (rg [om 4 (.k (.bool false))])
 (.rt))
 (.sk)))
 (.sq (rg [om 4 (.k (.bool true))])
 (.rt))))))))) }
theorem Zcv : Z2 Go.Proofs.Tryz.prog Zz UM = true := by kernel_rfl
def UN : F2 :=
 { nt := 13, res := [.t 4 [0]], body :=
  (.sq (rg [oo 2 (.bt (.t 0)),
 om 4 (i6 0)])
 (.sq (rg [om 5 (.t 1),
 oo 6 (.fa 0 (.t 2)),
 oo 7 (.ld none (.t 6)),
 oo 8 (.lg (.t 7)),
 oo 9 (.bi .sub 0 (.t 5) (.t 8)),
 om 1 (.t 9)])
 (.sq (.sq (rg [om 10 (.t 1),
 oo 11 (.bi .lss 0 (.t 10) (i6 0))])
 (.cd (.t 11) (.sq (rg [om 4 (i6 (-1))])
 (.rt))
 (.sk)))
 (.sq (rg [om 12 (.t 1),
 om 4 (.t 12)])
 (.rt))))) }
theorem Zcw : Z2 Go.Proofs.Tryz.prog Qh UN = true := by kernel_rfl
def UO : F2 :=
 { nt := 14, res := [.c 2 (some 3) [0, 0, 0]], body :=
  (.sq (rg [oo 1 (.bt (.t 0)),
 oo 2 (.al [.string ⟨#[]⟩, .int .i64 0, .int .i64 0] [])])
 (.sq (rg [oo 3 (.al [.string ⟨#[]⟩, .int .i64 0, .int .i64 0] [])])
 (.sq (rg [oo 4 (.fa 0 (.t 1)),
 oo 5 (.ld none (.t 4)),
 oo 6 (.fa 0 (.t 3)),
 on1 (.st 1 (.t 6) (.t 5))])
 (.sq (rg [oo 7 (.fa 1 (.t 1)),
 oo 8 (.ld none (.t 7)),
 oo 9 (.fa 1 (.t 3)),
 on1 (.st 1 (.t 9) (.t 8))])
 (.sq (rg [oo 10 (.fa 2 (.t 1)),
 oo 11 (.ld none (.t 10)),
 oo 12 (.fa 2 (.t 3)),
 on1 (.st 1 (.t 12) (.t 11))])
 (.sq (rg [oo 13 (.ld (some 3) (.t 3)),
 on1 (.st 3 (.t 2) (.t 13))])
 (.rt))))))) }
theorem Zcx : Z2 Go.Proofs.Tryz.prog Qk UO = true := by kernel_rfl
def Zah : F2 :=
 { nt := 23, res := [.t 2 [4]], body :=
  (.sq (rg [om 2 (.k (.slice none 0 0))])
 (.sq (rg [om 5 (.t 0),
 oo 6 (.ln (.t 5)),
 oo 7 (.ms 3 [.int .i64 0, .int .i64 0, .slice none 0 0] (.t 6)),
 om 3 (.t 7)])
 (.sq (.sq (rg [om 4 (i6 0)])
 (.bl 0 (.lp [0, 3, 4] [224, 640] (.sq (.sq (rg [om 8 (.t 4),
 om 9 (.t 0),
 oo 10 (.ln (.t 9)),
 oo 11 (.bi .lss 0 (.t 8) (.t 10))])
 (.cd (.t 11) (.sk)
 (.ex 0)))
 (.sq (.bl 1 (rg [om 14 (.t 3),
 om 15 (.t 4),
 om 16 (.t 0),
 om 17 (.t 4),
 oo 18 (.ia 3 (.t 16) (.t 17)),
 oo 19 (.ld (some 3) (.t 18)),
 oo 20 (.ca .pure true (.f XT) [.t 19]),
 oo 21 (.ia 3 (.t 14) (.t 15)),
 on1 (.st 3 (.t 21) (.t 20))]))
 (rg [om 12 (.t 4),
 oo 13 (.bi .add 0 (.t 12) (i6 1)),
 om 4 (.t 13)]))))))
 (.sq (rg [om 22 (.t 3),
 om 2 (.t 22)])
 (.rt))))) }
theorem Zd3 : Z2 Go.Proofs.Tryz.prog Xg Zah = true := by kernel_rfl
def Zai : F2 :=
 { nt := 23, res := [.t 2 [3]], body :=
  (.sq (rg [om 2 (.k (.slice none 0 0))])
 (.sq (rg [om 5 (.t 0),
 oo 6 (.ln (.t 5)),
 oo 7 (.ms 2 [.string ⟨#[]⟩, .int .i64 0] (.t 6)),
 om 3 (.t 7)])
 (.sq (.sq (rg [om 4 (i6 0)])
 (.bl 0 (.lp [0, 3, 4] [224] (.sq (.sq (rg [om 8 (.t 4),
 om 9 (.t 0),
 oo 10 (.ln (.t 9)),
 oo 11 (.bi .lss 0 (.t 8) (.t 10))])
 (.cd (.t 11) (.sk)
 (.ex 0)))
 (.sq (.bl 1 (rg [om 14 (.t 3),
 om 15 (.t 4),
 om 16 (.t 0),
 om 17 (.t 4),
 oo 18 (.ia 2 (.t 16) (.t 17)),
 oo 19 (.ld (some 2) (.t 18)),
 oo 20 (.ca .pure true (.f XU) [.t 19]),
 oo 21 (.ia 2 (.t 14) (.t 15)),
 on1 (.st 2 (.t 21) (.t 20))]))
 (rg [om 12 (.t 4),
 oo 13 (.bi .add 0 (.t 12) (i6 1)),
 om 4 (.t 13)]))))))
 (.sq (rg [om 22 (.t 3),
 om 2 (.t 22)])
 (.rt))))) }
theorem Zd4 : Z2 Go.Proofs.Tryz.prog Xh Zai = true := by kernel_rfl
def UP : F2 :=
 { nt := 20, res := [.t 4 [0]], body :=
  (.sq (rg [oo 2 (.bt (.t 0)),
 oo 3 (.bt (.t 1)),
 om 4 (.k (.bool false))])
 (.sq (.sq (rg [oo 5 (.fa 0 (.t 2)),
 oo 6 (.ld none (.t 5)),
 oo 7 (.fa 0 (.t 3)),
 oo 8 (.ld none (.t 7)),
 oo 9 (.bi .neq 0 (.t 6) (.t 8))])
 (.cd (.t 9) (.sq (rg [om 4 (.k (.bool false))])
 (.rt))
 (.sk)))
 (.sq (.sq (rg [oo 10 (.fa 1 (.t 2)),
 oo 11 (.ld none (.t 10)),
 oo 12 (.fa 1 (.t 3)),
 oo 13 (.ld none (.t 12)),
 oo 14 (.bi .neq 0 (.t 11) (.t 13))])
 (.cd (.t 14) (.sq (rg [om 4 (.k (.bool false))])
 (.rt))
 (.sk)))
 (.sq (.sq (rg [oo 15 (.fa 2 (.t 2)),
 oo 16 (.ld none (.t 15)),
 oo 17 (.fa 2 (.t 3)),
 oo 18 (.ld none (.t 17)),
 oo 19 (.bi .neq 0 (.t 16) (.t 18))])
 (.cd (.t 19) (.sq (rg [om 4 (.k (.bool false))])
 (.rt))
 (.sk)))
 (.sq (rg [om 4 (.k (.bool true))])
 (.rt)))))) }
theorem Zcy : Z2 Go.Proofs.Tryz.prog Qq UP = true := by kernel_rfl
def Zbo : F2 :=
 { nt := 12, res := [.t 4 [0]], body :=
  (.sq (rg [oo 2 (.bt (.t 0)),
 om 4 (i6 0)])
 (.sq (rg [oo 5 (.fa 2 (.t 2)),
 oo 6 (.ld none (.t 5)),
 om 7 (.t 1),
 oo 8 (.ca .pure false (.f Qi) [.t 6, .t 7]),
 om 1 (.t 8)])
 (.sq (.sq (rg [om 9 (.t 1),
 oo 10 (.bi .lss 0 (.t 9) (i6 0))])
 (.cd (.t 10) (.sq (rg [om 4 (i6 (-1))])
 (.rt))
 (.sk)))
 (.sq (rg [om 11 (.t 1),
 om 4 (.t 11)])
 (.rt))))) }
theorem Zfv : Z2 Go.Proofs.Tryz.prog XP Zbo = true := by kernel_rfl
def Zbp : F2 :=
 { nt := 13, res := [.t 4 [0]], body :=
  (.sq (rg [oo 2 (.bt (.t 0)),
 om 4 (i6 0)])
 (.sq (rg [om 5 (.t 1),
 oo 6 (.fa 0 (.t 2)),
 oo 7 (.ld none (.t 6)),
 oo 8 (.lg (.t 7)),
 oo 9 (.bi .sub 0 (.t 5) (.t 8)),
 om 1 (.t 9)])
 (.sq (.sq (rg [om 10 (.t 1),
 oo 11 (.bi .lss 0 (.t 10) (i6 0))])
 (.cd (.t 11) (.sq (rg [om 4 (i6 (-1))])
 (.rt))
 (.sk)))
 (.sq (rg [om 12 (.t 1),
 om 4 (.t 12)])
 (.rt))))) }
theorem Zfw : Z2 Go.Proofs.Tryz.prog XQ Zbp = true := by kernel_rfl
def Zbq : F2 :=
 { nt := 15, res := [.c 2 (some 3) [0, 0, 2]], body :=
  (.sq (rg [oo 1 (.bt (.t 0)),
 oo 2 (.al [.int .i64 0, .int .i64 0, .slice none 0 0] [])])
 (.sq (rg [oo 3 (.al [.int .i64 0, .int .i64 0, .slice none 0 0] [])])
 (.sq (rg [oo 4 (.fa 0 (.t 1)),
 oo 5 (.ld none (.t 4)),
 oo 6 (.fa 0 (.t 3)),
 on1 (.st 1 (.t 6) (.t 5))])
 (.sq (rg [oo 7 (.fa 1 (.t 1)),
 oo 8 (.ld none (.t 7)),
 oo 9 (.fa 1 (.t 3)),
 on1 (.st 1 (.t 9) (.t 8))])
 (.sq (rg [oo 10 (.fa 2 (.t 1)),
 oo 11 (.ld none (.t 10)),
 oo 12 (.ca .pure true (.f Ql) [.t 11]),
 oo 13 (.fa 2 (.t 3)),
 on1 (.st 1 (.t 13) (.t 12))])
 (.sq (rg [oo 14 (.ld (some 3) (.t 3)),
 on1 (.st 3 (.t 2) (.t 14))])
 (.rt))))))) }
theorem Zfx : Z2 Go.Proofs.Tryz.prog XT Zbq = true := by kernel_rfl
def Zbr : F2 :=
 { nt := 11, res := [.c 2 (some 2) [0, 0]], body :=
  (.sq (rg [oo 1 (.bt (.t 0)),
 oo 2 (.al [.string ⟨#[]⟩, .int .i64 0] [])])
 (.sq (rg [oo 3 (.al [.string ⟨#[]⟩, .int .i64 0] [])])
 (.sq (rg [oo 4 (.fa 0 (.t 1)),
 oo 5 (.ld none (.t 4)),
 oo 6 (.fa 0 (.t 3)),
 on1 (.st 1 (.t 6) (.t 5))])
 (.sq (rg [oo 7 (.fa 1 (.t 1)),
 oo 8 (.ld none (.t 7)),
 oo 9 (.fa 1 (.t 3)),
 on1 (.st 1 (.t 9) (.t 8))])
 (.sq (rg [oo 10 (.ld (some 2) (.t 3)),
 on1 (.st 2 (.t 2) (.t 10))])
 (.rt)))))) }
theorem Zfy : Z2 Go.Proofs.Tryz.prog XU Zbr = true := by kernel_rfl
def Zbs : F2 :=
 { nt := 21, res := [.t 4 [0]], body :=
  (.sq (rg [oo 2 (.bt (.t 0)),
 oo 3 (.bt (.t 1)),
 om 4 (.k (.bool false))])
 (.sq (.sq (rg [oo 5 (.fa 0 (.t 2)),
 oo 6 (.ld none (.t 5)),
 oo 7 (.fa 0 (.t 3)),
 oo 8 (.ld none (.t 7)),
 oo 9 (.bi .neq 0 (.t 6) (.t 8))])
 (.cd (.t 9) (.sq (rg [om 4 (.k (.bool false))])
 (.rt))
 (.sk)))
 (.sq (.sq (rg [oo 10 (.fa 1 (.t 2)),
 oo 11 (.ld none (.t 10)),
 oo 12 (.fa 1 (.t 3)),
 oo 13 (.ld none (.t 12)),
 oo 14 (.bi .neq 0 (.t 11) (.t 13))])
 (.cd (.t 14) (.sq (rg [om 4 (.k (.bool false))])
 (.rt))
 (.sk)))
 (.sq (.sq (rg [oo 15 (.fa 2 (.t 2)),
 oo 16 (.ld none (.t 15)),
 oo 17 (.fa 2 (.t 3)),
 oo 18 (.ld none (.t 17)),
 oo 19 (.ca .pure false (.f Qo) [.t 16, .t 18]),
 oo 20 (.nt (.t 19))])
 (.cd (.t 20) (.sq (rg [om 4 (.k (.bool false))])
 (.rt))
 (.sk)))
 (.sq (rg [om 4 (.k (.bool true))])
 (.rt)))))) }
theorem Zfz : Z2 Go.Proofs.Tryz.prog XV Zbs = true := by kernel_rfl
def Zbt : F2 :=
 { nt := 15, res := [.t 4 [0]], body :=
  (.sq (rg [oo 2 (.bt (.t 0)),
 oo 3 (.bt (.t 1)),
 om 4 (.k (.bool false))])
 (.sq (.sq (rg [oo 5 (.fa 0 (.t 2)),
 oo 6 (.ld none (.t 5)),
 oo 7 (.fa 0 (.t 3)),
 oo 8 (.ld none (.t 7)),
 oo 9 (.bi .neq 0 (.t 6) (.t 8))])
 (.cd (.t 9) (.sq (rg [om 4 (.k (.bool false))])
 (.rt))
 (.sk)))
 (.sq (.sq (rg [oo 10 (.fa 1 (.t 2)),
 oo 11 (.ld none (.t 10)),
 oo 12 (.fa 1 (.t 3)),
 oo 13 (.ld none (.t 12)),
 oo 14 (.bi .neq 0 (.t 11) (.t 13))])
 (.cd (.t 14) (.sq (rg [om 4 (.k (.bool false))])
 (.rt))
 (.sk)))
 (.sq (rg [om 4 (.k (.bool true))])
 (.rt))))) }
theorem ZfA : Z2 Go.Proofs.Tryz.prog XW Zbt = true := by kernel_rfl
end Go.Fd

/-
  SMALL WORDS FOR MARKS. Own work.
-/
namespace Go.Fd
theorem ZbV {S : Sto} {id i : Oid} {ob : Ob} (h : i ≠ id) : ZZ S id ob i = S i := if_neg h
theorem ZmY {α : Type} {m : α -> Int -> α} {n : α -> Nat} : ∀ {a : List α} {k : Int} {j : Nat} (h : j < a.length), (mL m n a k)[j]? = some (m a[j] (kJ n a k j))
 | [], _, _, h => by cases h
 | x :: r, k, 0, _ => by simp [mL, kJ, nL]
 | x :: r, k, j + 1, h => by
  simp only [mL, List.getElem?_cons_succ, List.getElem_cons_succ]
  rw [ZmY (by simpa using h)]
  simp only [kJ, List.take_succ_cons, nL]
  congr 2
  omega
theorem Zir {α : Type} {c : α -> List Tr} {m : α -> Int -> α} {n : α -> Nat} {a : List α} {k : Int} {j : Nat} (h : j < a.length) : ((mL m n a k).map c)[j]? = some (c (m a[j] (kJ n a k j))) := by
 rw [List.getElem?_map, ZmY h]; rfl
theorem Zj {α : Type} {c : α -> List Tr} {m : α -> Int -> α} {n : α -> Nat} {a : List α} {k : Int} : cut ((mL m n a k).map c) 0 a.length = (mL m n a k).map c := by
 simp only [cut, List.drop_zero]
 exact List.take_of_length_le (by rw [List.length_map, Zd]; exact Nat.le_refl _)
theorem Zh {α : Type} {c : α -> List Tr} {a : List α} : cut (a.map c) 0 a.length = a.map c := by
 simp only [cut, List.drop_zero]
 exact List.take_of_length_le (by rw [List.length_map]; exact Nat.le_refl _)
end Go.Fd

/-
  MARKING STRUCTS; WHETHER MARKS ARE HELD (printed by lawgen.py). Own work.
-/
namespace Go.Fd
set_option maxRecDepth 20000
def ZI (x : TBigraph) : Nat := nL JQ x.nodes + nL Xz x.sites + nL Ut x.outer + nL Y3 x.inner
theorem ZdC (x : TBigraph) (k : Int) (lvl : Nat) (S : Sto) (i1 i2 i3 i4 : Oid) (k1 h1 v1 k2 h2 v2 k3 h3 v3 k4 h4 v4 : Nat) (c1 c2 c3 c4 : Option Nat) (l1 : i1.1 < lvl) (l2 : i2.1 < lvl) (l3 : i3.1 < lvl) (l4 : i4.1 < lvl) (n2_1 : i2 ≠ i1) (n3_1 : i3 ≠ i1) (n3_2 : i3 ≠ i2) (n4_1 : i4 ≠ i1) (n4_2 : i4 ≠ i2) (n4_3 : i4 ≠ i3) (s1 : S i1 = some (.ar k1 (x.nodes.map ZK) true h1 v1)) (s2 : S i2 = some (.ar k2 (rI x.sites) true h2 v2)) (s3 : S i3 = some (.ar k3 (rS x.outer) true h3 v3)) (s4 : S i4 = some (.ar k4 (x.inner.map ZO) true h4 v4)) (h0 : 0 <= k) (hk : k + ZI x <= 4611686018427387904) (hb : Zl 4294967296 x) :
  Sem Go.Proofs.Tryz.prog ZJ lvl [.ag [iI x.roots, .hd i1 [] 0 x.nodes.length c1 h1, .hd i2 [] 0 x.sites.length c2 h2, iI x.edges, .hd i3 [] 0 x.outer.length c3 h3, .hd i4 [] 0 x.inner.length c4 h4], iI k] S (iI (k + ZI x)) (ZZ (ZZ (ZZ (ZZ S i1 (.ar k1 (((mL ZbS JQ x.nodes (k))).map ZK) true h1 v1)) i2 (.ar k2 (rI (mL Zfu Xz x.sites (k + (nL JQ x.nodes : Nat)))) true h2 v2)) i3 (.ar k3 (rS (mL ZfI Ut x.outer (k + (nL JQ x.nodes : Nat) + (nL Xz x.sites : Nat)))) true h3 v3)) i4 (.ar k4 (((mL ZbT Y3 x.inner (k + (nL JQ x.nodes : Nat) + (nL Xz x.sites : Nat) + (nL Ut x.outer : Nat)))).map ZO) true h4 v4)) := by
 obtain ⟨b0, b1, b2, b3, b4, b5, b6⟩ := hb
 have e1 : i1.1 ≠ lvl := by omega
 have e2 : i2.1 ≠ lvl := by omega
 have e3 : i3.1 ≠ lvl := by omega
 have e4 : i4.1 ≠ lvl := by omega
 simp only [ZI] at hk
 refine Zf Zbk trivial ?_
 simp only [Wn, ZW e1, ZW e2, ZW e3, ZW e4, EVA, ↓reduceIte, Nat.reduceEqDiff, Nat.reduceMul, reduceCtorEq, Nat.reduceAdd, Nat.reduceSub, Nat.reduceLeDiff, Nat.reduceLT, Int.reduceToNat, Int.reduceLE, Int.reduceLT, Ze, men]
 simp only [WD]
 refine ZaR ZiW l1 s1 (by omega) (by omega) b0 b1 ?_
 simp only [ZW e1, ZW e2, ZW e3, ZW e4, EVA, ↓reduceIte, Nat.reduceEqDiff, Nat.reduceMul, reduceCtorEq, Nat.reduceAdd, Nat.reduceSub, Nat.reduceLeDiff, Nat.reduceLT, Int.reduceToNat, Int.reduceLE, Int.reduceLT, Ze, men]
 simp only [WD]
 refine ZaR ZgI l2 (by rw [ZbV n2_1]; exact s2) (by omega) (by omega) b2 (fun _ _ => trivial) ?_
 simp only [ZW e1, ZW e2, ZW e3, ZW e4, EVA, ↓reduceIte, Nat.reduceEqDiff, Nat.reduceMul, reduceCtorEq, Nat.reduceAdd, Nat.reduceSub, Nat.reduceLeDiff, Nat.reduceLT, Int.reduceToNat, Int.reduceLE, Int.reduceLT, Ze, men]
 simp only [WD]
 refine ZaR ZgJ l3 (by rw [ZbV n3_2, ZbV n3_1]; exact s3) (by omega) (by omega) b3 b4 ?_
 simp only [ZW e1, ZW e2, ZW e3, ZW e4, EVA, ↓reduceIte, Nat.reduceEqDiff, Nat.reduceMul, reduceCtorEq, Nat.reduceAdd, Nat.reduceSub, Nat.reduceLeDiff, Nat.reduceLT, Int.reduceToNat, Int.reduceLE, Int.reduceLT, Ze, men]
 simp only [WD]
 refine ZaR ZiX l4 (by rw [ZbV n4_3, ZbV n4_2, ZbV n4_1]; exact s4) (by omega) (by omega) b5 b6 ?_
 simp only [ZW e1, ZW e2, ZW e3, ZW e4, EVA, ↓reduceIte, Nat.reduceEqDiff, Nat.reduceMul, reduceCtorEq, Nat.reduceAdd, Nat.reduceSub, Nat.reduceLeDiff, Nat.reduceLT, Int.reduceToNat, Int.reduceLE, Int.reduceLT, Ze, men]
 simp only [ZI, Int.natCast_add, <- Int.add_assoc]
 try exact ⟨rfl, rfl⟩
theorem ZH {x : TBigraph} {k : Int} {lvl a1 a2 a3 a4 : Nat} {out : Sto} {k1 h1 v1 k2 h2 v2 k3 h3 v3 k4 h4 v4 : Nat} {c1 c2 c3 c4 : Option Nat} {env : List (Nat × IV)} {loc : List (Nat × Ob)} {d : Option Nat} {K : St -> Prop} (n2_1 : a2 ≠ a1) (n3_1 : a3 ≠ a1) (n3_2 : a3 ≠ a2) (n4_1 : a4 ≠ a1) (n4_2 : a4 ≠ a2) (n4_3 : a4 ≠ a3) (s1 : lkO a1 loc = some (.ar k1 (x.nodes.map ZK) true h1 v1)) (s2 : lkO a2 loc = some (.ar k2 (rI x.sites) true h2 v2)) (s3 : lkO a3 loc = some (.ar k3 (rS x.outer) true h3 v3)) (s4 : lkO a4 loc = some (.ar k4 (x.inner.map ZO) true h4 v4)) (h0 : 0 <= k) (hk : k + ZI x <= 4611686018427387904) (hb : Zl 4294967296 x)
  (hK : K ⟨lvl, ptd d (iI (k + ZI x)) env, (ptO a4 (.ar k4 (((mL ZbT Y3 x.inner (k + (nL JQ x.nodes : Nat) + (nL Xz x.sites : Nat) + (nL Ut x.outer : Nat)))).map ZO) true h4 v4) (ptO a3 (.ar k3 (rS (mL ZfI Ut x.outer (k + (nL JQ x.nodes : Nat) + (nL Xz x.sites : Nat)))) true h3 v3) (ptO a2 (.ar k2 (rI (mL Zfu Xz x.sites (k + (nL JQ x.nodes : Nat)))) true h2 v2) (ptO a1 (.ar k1 (((mL ZbS JQ x.nodes (k))).map ZK) true h1 v1) loc)))), out⟩) :
  kcy (Sem Go.Proofs.Tryz.prog) ZJ true lvl env loc out d K [.ag [iI x.roots, .hd (lvl, a1) [] 0 x.nodes.length c1 h1, .hd (lvl, a2) [] 0 x.sites.length c2 h2, iI x.edges, .hd (lvl, a3) [] 0 x.outer.length c3 h3, .hd (lvl, a4) [] 0 x.inner.length c4 h4], iI k] := by
 refine Qg (r := iI (k + ZI x)) (ptO a4 (.ar k4 (((mL ZbT Y3 x.inner (k + (nL JQ x.nodes : Nat) + (nL Xz x.sites : Nat) + (nL Ut x.outer : Nat)))).map ZO) true h4 v4) (ptO a3 (.ar k3 (rS (mL ZfI Ut x.outer (k + (nL JQ x.nodes : Nat) + (nL Xz x.sites : Nat)))) true h3 v3) (ptO a2 (.ar k2 (rI (mL Zfu Xz x.sites (k + (nL JQ x.nodes : Nat)))) true h2 v2) (ptO a1 (.ar k1 (((mL ZbS JQ x.nodes (k))).map ZK) true h1 v1) loc)))) out (fun _ _ => rfl) ?_ ⟨trivial, hK⟩
 rw [WN, WN, WN, WN]
 exact ZdC x k (lvl + 1) _ (lvl, a1) (lvl, a2) (lvl, a3) (lvl, a4) k1 h1 v1 k2 h2 v2 k3 h3 v3 k4 h4 v4 c1 c2 c3 c4 (Nat.lt_succ_self _) (Nat.lt_succ_self _) (Nat.lt_succ_self _) (Nat.lt_succ_self _) (fun e => n2_1 (congrArg Prod.snd e)) (fun e => n3_1 (congrArg Prod.snd e)) (fun e => n3_2 (congrArg Prod.snd e)) (fun e => n4_1 (congrArg Prod.snd e)) (fun e => n4_2 (congrArg Prod.snd e)) (fun e => n4_3 (congrArg Prod.snd e)) (by rw [Yn]; exact s1) (by rw [Yn]; exact s2) (by rw [Yn]; exact s3) (by rw [Yn]; exact s4) h0 hk hb
def XC (x : TBigraph) (k : Int) : TBigraph := { x with nodes := mL ZbS JQ x.nodes (k), sites := mL Zfu Xz x.sites (k + (nL JQ x.nodes : Nat)), outer := mL ZfI Ut x.outer (k + (nL JQ x.nodes : Nat) + (nL Xz x.sites : Nat)), inner := mL ZbT Y3 x.inner (k + (nL JQ x.nodes : Nat) + (nL Xz x.sites : Nat) + (nL Ut x.outer : Nat)) }
theorem ZgK (a : List Int) (k : Int) (hl : a.length <= 4294967296) (h0 : 0 <= k) (hk : k + nL Xz a <= 4611686018427387904) (lvl : Nat) (S : Sto) : Sem Go.Proofs.Tryz.prog Vb lvl [.tr (.sl (rI (mL Zfu Xz a k))), iI k] S (iI (k + nL Xz a)) S := by
 refine Zf ZdB trivial ?_
 simp only [Du, EVA, ↓reduceIte, Nat.reduceEqDiff, Nat.reduceMul, reduceCtorEq, Nat.reduceAdd, Nat.reduceSub, Nat.reduceLeDiff, Nat.reduceLT, Int.reduceToNat, Int.reduceLE, Int.reduceLT, Ze, men]
 refine Z6 (α := Unit) a.length (fun j _ => ⟨lvl, [(0, .tr (.sl (rI (mL Zfu Xz a k)))), (1, iI (kJ Xz a k j)), (5, iI j)], [], S⟩) (fun _ _ => True) () ⟨by simp only [EVA, ↓reduceIte, Nat.reduceEqDiff, Nat.reduceMul, reduceCtorEq, Nat.reduceAdd, Nat.reduceSub, Nat.reduceLeDiff, Nat.reduceLT, Int.reduceToNat, Int.reduceLE, Int.reduceLT, Ze, men], by (simp only [Uk, EVA, ↓reduceIte, Nat.reduceEqDiff, Nat.reduceMul, reduceCtorEq, Nat.reduceAdd, Nat.reduceSub, Nat.reduceLeDiff, Nat.reduceLT, Int.reduceToNat, Int.reduceLE, Int.reduceLT, Ze, men]) <;> rfl⟩ trivial ?_
 intro j _ hj _
 simp only [List.length_map, Zd, EVA, ↓reduceIte, Nat.reduceEqDiff, Nat.reduceMul, reduceCtorEq, Nat.reduceAdd, Nat.reduceSub, Nat.reduceLeDiff, Nat.reduceLT, Int.reduceToNat, Int.reduceLE, Int.reduceLT, Ze, men]
 refine Zu (fun hlt => ?_) (fun hge => ?_)
 ·have hja : j < a.length := by omega
  have ga := Zir (c := (fun n : Int => [tv n])) (m := Zfu) (n := Xz) (k := k) hja
  have hge2 := Ze0 Xz (a := a) (k := k) (j := j + 1)
  rw [YJ Xz hja] at hge2
  have hge3 := Ze1 Xz (a := a) (k := k) (j := j)
  try simp only [Xz] at hge2
  simp only [ga, Zfu, ZfI, Nat.zero_add, hja, ne_eq, not_true_eq_false, EVA, ↓reduceIte, Nat.reduceEqDiff, Nat.reduceMul, reduceCtorEq, Nat.reduceAdd, Nat.reduceSub, Nat.reduceLeDiff, Nat.reduceLT, Int.reduceToNat, Int.reduceLE, Int.reduceLT, Ze, men]
  refine ⟨by rw [Zg]; omega, ⟨by rw [Zg]; omega, Zi () hja ?_ trivial⟩⟩
  rw [YJ Xz hja]
  simp only [Xz, Int.natCast_add, Int.natCast_one, Int.add_assoc]
  try rfl
 ·have : j = a.length := by omega
  subst this
  rw [ZaQ]
theorem ZiY (a : List TNode) (k : Int) (hl : a.length <= 4294967296) (hB : ∀ x ∈ a, (Q6 4294967296) x) (h0 : 0 <= k) (hk : k + nL JQ a <= 4611686018427387904) (lvl : Nat) (S : Sto) : Sem Go.Proofs.Tryz.prog Qt lvl [.tr (.sl (((mL ZbS JQ a k)).map ZK)), iI k] S (iI (k + nL JQ a)) S := by
 refine Zf Zcr trivial ?_
 simp only [UI, EVA, ↓reduceIte, Nat.reduceEqDiff, Nat.reduceMul, reduceCtorEq, Nat.reduceAdd, Nat.reduceSub, Nat.reduceLeDiff, Nat.reduceLT, Int.reduceToNat, Int.reduceLE, Int.reduceLT, Ze, men]
 refine Z6 (α := Unit) a.length (fun j _ => ⟨lvl, [(0, .tr (.sl (((mL ZbS JQ a k)).map ZK))), (1, iI (kJ JQ a k j)), (5, iI j)], [], S⟩) (fun _ _ => True) () ⟨by simp only [EVA, ↓reduceIte, Nat.reduceEqDiff, Nat.reduceMul, reduceCtorEq, Nat.reduceAdd, Nat.reduceSub, Nat.reduceLeDiff, Nat.reduceLT, Int.reduceToNat, Int.reduceLE, Int.reduceLT, Ze, men], by (simp only [Uk, EVA, ↓reduceIte, Nat.reduceEqDiff, Nat.reduceMul, reduceCtorEq, Nat.reduceAdd, Nat.reduceSub, Nat.reduceLeDiff, Nat.reduceLT, Int.reduceToNat, Int.reduceLE, Int.reduceLT, Ze, men]) <;> rfl⟩ trivial ?_
 intro j _ hj _
 simp only [List.length_map, Zd, EVA, ↓reduceIte, Nat.reduceEqDiff, Nat.reduceMul, reduceCtorEq, Nat.reduceAdd, Nat.reduceSub, Nat.reduceLeDiff, Nat.reduceLT, Int.reduceToNat, Int.reduceLE, Int.reduceLT, Ze, men]
 refine Zu (fun hlt => ?_) (fun hge => ?_)
 ·have hja : j < a.length := by omega
  have ga := Zir (c := ZK) (m := ZbS) (n := JQ) (k := k) hja
  have hge2 := Ze0 JQ (a := a) (k := k) (j := j + 1)
  rw [YJ JQ hja] at hge2
  have hge3 := Ze1 JQ (a := a) (k := k) (j := j)
  try simp only [JQ] at hge2
  have hb := hB _ (List.getElem_mem hja)
  simp only [ga, ZK, ZbS, Zfu, ZfI, Nat.zero_add, hja, ne_eq, not_true_eq_false, EVA, ↓reduceIte, Nat.reduceEqDiff, Nat.reduceMul, reduceCtorEq, Nat.reduceAdd, Nat.reduceSub, Nat.reduceLeDiff, Nat.reduceLT, Int.reduceToNat, Int.reduceLE, Int.reduceLT, Ze, men]
  refine ⟨by rw [Zg]; omega, ⟨by rw [Zg]; omega, ?_⟩⟩
  refine Zb (ZgK (a[j]).links (kJ JQ a k j + 1 + 1) hb (by omega) (by omega)) ?_
  have hz2 : ¬ (kJ JQ a k j + 1 + 1 + (nL Xz (a[j]).links : Nat) < 0) := by omega
  simp only [ga, ZK, ZbS, Zfu, ZfI, Nat.zero_add, hja, ne_eq, not_true_eq_false, hz2, EVA, ↓reduceIte, Nat.reduceEqDiff, Nat.reduceMul, reduceCtorEq, Nat.reduceAdd, Nat.reduceSub, Nat.reduceLeDiff, Nat.reduceLT, Int.reduceToNat, Int.reduceLE, Int.reduceLT, Ze, men]
  refine ⟨by rw [Zg]; omega, Zi () hja ?_ trivial⟩
  rw [YJ JQ hja]
  simp only [JQ, Int.natCast_add, Int.natCast_one, Int.add_assoc]
  try rfl
 ·have : j = a.length := by omega
  subst this
  rw [ZaQ]
theorem ZgL (a : List ByteArray) (k : Int) (hl : a.length <= 4294967296) (hB : ∀ x ∈ a, (fun x => x.size <= 4294967296) x) (h0 : 0 <= k) (hk : k + nL Ut a <= 4611686018427387904) (lvl : Nat) (S : Sto) : Sem Go.Proofs.Tryz.prog Vn lvl [.tr (.sl (rS (mL ZfI Ut a k))), iI k] S (iI (k + nL Ut a)) S := by
 refine Zf Zbn trivial ?_
 simp only [Wq, EVA, ↓reduceIte, Nat.reduceEqDiff, Nat.reduceMul, reduceCtorEq, Nat.reduceAdd, Nat.reduceSub, Nat.reduceLeDiff, Nat.reduceLT, Int.reduceToNat, Int.reduceLE, Int.reduceLT, Ze, men]
 refine Z6 (α := Unit) a.length (fun j _ => ⟨lvl, [(0, .tr (.sl (rS (mL ZfI Ut a k)))), (1, iI (kJ Ut a k j)), (5, iI j)], [], S⟩) (fun _ _ => True) () ⟨by simp only [EVA, ↓reduceIte, Nat.reduceEqDiff, Nat.reduceMul, reduceCtorEq, Nat.reduceAdd, Nat.reduceSub, Nat.reduceLeDiff, Nat.reduceLT, Int.reduceToNat, Int.reduceLE, Int.reduceLT, Ze, men], by (simp only [Uk, EVA, ↓reduceIte, Nat.reduceEqDiff, Nat.reduceMul, reduceCtorEq, Nat.reduceAdd, Nat.reduceSub, Nat.reduceLeDiff, Nat.reduceLT, Int.reduceToNat, Int.reduceLE, Int.reduceLT, Ze, men]) <;> rfl⟩ trivial ?_
 intro j _ hj _
 simp only [List.length_map, Zd, EVA, ↓reduceIte, Nat.reduceEqDiff, Nat.reduceMul, reduceCtorEq, Nat.reduceAdd, Nat.reduceSub, Nat.reduceLeDiff, Nat.reduceLT, Int.reduceToNat, Int.reduceLE, Int.reduceLT, Ze, men]
 refine Zu (fun hlt => ?_) (fun hge => ?_)
 ·have hja : j < a.length := by omega
  have ga := Zir (c := (fun n : ByteArray => [ts n])) (m := ZfI) (n := Ut) (k := k) hja
  have hge2 := Ze0 Ut (a := a) (k := k) (j := j + 1)
  rw [YJ Ut hja] at hge2
  have hge3 := Ze1 Ut (a := a) (k := k) (j := j)
  try simp only [Ut] at hge2
  have hb := hB _ (List.getElem_mem hja)
  simp only [ga, ZfI, Zfu, Nat.zero_add, hja, ne_eq, not_true_eq_false, EVA, ↓reduceIte, Nat.reduceEqDiff, Nat.reduceMul, reduceCtorEq, Nat.reduceAdd, Nat.reduceSub, Nat.reduceLeDiff, Nat.reduceLT, Int.reduceToNat, Int.reduceLE, Int.reduceLT, Ze, men]
  refine Zb (Xa (kJ Ut a k j) (by omega)) ?_
  simp only [ga, ZfI, Zfu, Nat.zero_add, hja, ne_eq, not_true_eq_false, EVA, ↓reduceIte, Nat.reduceEqDiff, Nat.reduceMul, reduceCtorEq, Nat.reduceAdd, Nat.reduceSub, Nat.reduceLeDiff, Nat.reduceLT, Int.reduceToNat, Int.reduceLE, Int.reduceLT, Ze, men]
  refine ⟨by rw [Zg]; omega, ⟨by rw [Zg]; omega, Zi () hja ?_ trivial⟩⟩
  rw [YJ Ut hja]
  simp only [Ut, Int.natCast_add, Int.natCast_one, Int.add_assoc]
  try rfl
 ·have : j = a.length := by omega
  subst this
  rw [ZaQ]
theorem ZiZ (a : List TWire) (k : Int) (hl : a.length <= 4294967296) (hB : ∀ x ∈ a, (V4 4294967296) x) (h0 : 0 <= k) (hk : k + nL Y3 a <= 4611686018427387904) (lvl : Nat) (S : Sto) : Sem Go.Proofs.Tryz.prog Qu lvl [.tr (.sl (((mL ZbT Y3 a k)).map ZO)), iI k] S (iI (k + nL Y3 a)) S := by
 refine Zf Zcs trivial ?_
 simp only [UJ, EVA, ↓reduceIte, Nat.reduceEqDiff, Nat.reduceMul, reduceCtorEq, Nat.reduceAdd, Nat.reduceSub, Nat.reduceLeDiff, Nat.reduceLT, Int.reduceToNat, Int.reduceLE, Int.reduceLT, Ze, men]
 refine Z6 (α := Unit) a.length (fun j _ => ⟨lvl, [(0, .tr (.sl (((mL ZbT Y3 a k)).map ZO))), (1, iI (kJ Y3 a k j)), (5, iI j)], [], S⟩) (fun _ _ => True) () ⟨by simp only [EVA, ↓reduceIte, Nat.reduceEqDiff, Nat.reduceMul, reduceCtorEq, Nat.reduceAdd, Nat.reduceSub, Nat.reduceLeDiff, Nat.reduceLT, Int.reduceToNat, Int.reduceLE, Int.reduceLT, Ze, men], by (simp only [Uk, EVA, ↓reduceIte, Nat.reduceEqDiff, Nat.reduceMul, reduceCtorEq, Nat.reduceAdd, Nat.reduceSub, Nat.reduceLeDiff, Nat.reduceLT, Int.reduceToNat, Int.reduceLE, Int.reduceLT, Ze, men]) <;> rfl⟩ trivial ?_
 intro j _ hj _
 simp only [List.length_map, Zd, EVA, ↓reduceIte, Nat.reduceEqDiff, Nat.reduceMul, reduceCtorEq, Nat.reduceAdd, Nat.reduceSub, Nat.reduceLeDiff, Nat.reduceLT, Int.reduceToNat, Int.reduceLE, Int.reduceLT, Ze, men]
 refine Zu (fun hlt => ?_) (fun hge => ?_)
 ·have hja : j < a.length := by omega
  have ga := Zir (c := ZO) (m := ZbT) (n := Y3) (k := k) hja
  have hge2 := Ze0 Y3 (a := a) (k := k) (j := j + 1)
  rw [YJ Y3 hja] at hge2
  have hge3 := Ze1 Y3 (a := a) (k := k) (j := j)
  try simp only [Y3] at hge2
  have hb := hB _ (List.getElem_mem hja)
  simp only [ga, ZO, ZbT, Zfu, ZfI, Nat.zero_add, hja, ne_eq, not_true_eq_false, EVA, ↓reduceIte, Nat.reduceEqDiff, Nat.reduceMul, reduceCtorEq, Nat.reduceAdd, Nat.reduceSub, Nat.reduceLeDiff, Nat.reduceLT, Int.reduceToNat, Int.reduceLE, Int.reduceLT, Ze, men]
  refine Zb (Xa (kJ Y3 a k j) (by omega)) ?_
  simp only [ga, ZO, ZbT, Zfu, ZfI, Nat.zero_add, hja, ne_eq, not_true_eq_false, EVA, ↓reduceIte, Nat.reduceEqDiff, Nat.reduceMul, reduceCtorEq, Nat.reduceAdd, Nat.reduceSub, Nat.reduceLeDiff, Nat.reduceLT, Int.reduceToNat, Int.reduceLE, Int.reduceLT, Ze, men]
  refine ⟨by rw [Zg]; omega, ⟨by rw [Zg]; omega, ⟨by rw [Zg]; omega, Zi () hja ?_ trivial⟩⟩⟩
  rw [YJ Y3 hja]
  simp only [Y3, Int.natCast_add, Int.natCast_one, Int.add_assoc]
  try rfl
 ·have : j = a.length := by omega
  subst this
  rw [ZaQ]
theorem Jz (x : TBigraph) (k : Int) (hb : Zl 4294967296 x) (h0 : 0 <= k) (hk : k + ZI x <= 4611686018427387904) (lvl : Nat) (S : Sto) : Sem Go.Proofs.Tryz.prog Z3 lvl [.ag ((Za (XC x k)).map .tr), iI k] S (iI (k + ZI x)) S := by
 obtain ⟨b0, b1, b2, b3, b4, b5, b6⟩ := hb
 simp only [ZI] at hk
 refine Zf Zbl trivial ?_
 simp only [Wo, Za, XC, EVA, ↓reduceIte, Nat.reduceEqDiff, Nat.reduceMul, reduceCtorEq, Nat.reduceAdd, Nat.reduceSub, Nat.reduceLeDiff, Nat.reduceLT, Int.reduceToNat, Int.reduceLE, Int.reduceLT, Ze, men]
 refine Zb (ZiY x.nodes (k) b0 b1 (by omega) (by omega)) ?_
 have hz0 : ¬ (k + (nL JQ x.nodes : Nat) < 0) := by omega
 simp only [Za, XC, hz0, EVA, ↓reduceIte, Nat.reduceEqDiff, Nat.reduceMul, reduceCtorEq, Nat.reduceAdd, Nat.reduceSub, Nat.reduceLeDiff, Nat.reduceLT, Int.reduceToNat, Int.reduceLE, Int.reduceLT, Ze, men]
 refine Zb (ZgK x.sites (k + (nL JQ x.nodes : Nat)) b2 (by omega) (by omega)) ?_
 have hz1 : ¬ (k + (nL JQ x.nodes : Nat) + (nL Xz x.sites : Nat) < 0) := by omega
 simp only [Za, XC, hz1, EVA, ↓reduceIte, Nat.reduceEqDiff, Nat.reduceMul, reduceCtorEq, Nat.reduceAdd, Nat.reduceSub, Nat.reduceLeDiff, Nat.reduceLT, Int.reduceToNat, Int.reduceLE, Int.reduceLT, Ze, men]
 refine Zb (ZgL x.outer (k + (nL JQ x.nodes : Nat) + (nL Xz x.sites : Nat)) b3 b4 (by omega) (by omega)) ?_
 have hz2 : ¬ (k + (nL JQ x.nodes : Nat) + (nL Xz x.sites : Nat) + (nL Ut x.outer : Nat) < 0) := by omega
 simp only [Za, XC, hz2, EVA, ↓reduceIte, Nat.reduceEqDiff, Nat.reduceMul, reduceCtorEq, Nat.reduceAdd, Nat.reduceSub, Nat.reduceLeDiff, Nat.reduceLT, Int.reduceToNat, Int.reduceLE, Int.reduceLT, Ze, men]
 refine Zb (ZiZ x.inner (k + (nL JQ x.nodes : Nat) + (nL Xz x.sites : Nat) + (nL Ut x.outer : Nat)) b5 b6 (by omega) (by omega)) ?_
 have hz3 : ¬ (k + (nL JQ x.nodes : Nat) + (nL Xz x.sites : Nat) + (nL Ut x.outer : Nat) + (nL Y3 x.inner : Nat) < 0) := by omega
 simp only [Za, XC, hz3, EVA, ↓reduceIte, Nat.reduceEqDiff, Nat.reduceMul, reduceCtorEq, Nat.reduceAdd, Nat.reduceSub, Nat.reduceLeDiff, Nat.reduceLT, Int.reduceToNat, Int.reduceLE, Int.reduceLT, Ze, men]
 simp only [ZI, Int.natCast_add, <- Int.add_assoc]
end Go.Fd

/-
  HOW MANY MARKS SMALL THINGS TAKE. Own work.
-/
namespace Go.Fd
theorem ZmZ : ∀ (l : List Int), nL Xz l = l.length
 | [] => rfl
 | x :: r => by simp only [nL, List.length_cons, ZmZ r, Xz]; omega
theorem Zr3 {α : Type} {n : α -> Nat} {B : Nat} : ∀ (l : List α), (∀ x ∈ l, n x <= B) -> nL n l <= l.length * B
 | [], _ => Nat.zero_le _
 | x :: r, h => by
  have h1 := h x (by simp)
  have h2 := Zr3 r (fun y hy => h y (by simp [hy]))
  simp only [nL, List.length_cons, Nat.add_mul]
  omega
end Go.Fd

/-
  HOW MANY MARKS A THING TAKES, AGAINST ITS SIZE (printed by lawgen.py). Own work.
-/
namespace Go.Fd
theorem Zr4 (x : TNode) : Zq 256 (fun l => Uz x l) (JQ x) := ZaV (Zhd (by omega) (by omega) (Zwn Xz (fun _ => (by decide : 1 <= 256)) x.links) ZlO) (by simp only [JQ]; omega)
theorem Zr5 (x : TWire) : Zq 256 (fun l => UA x l) (Y3 x) := ZaV (Zhd (by omega) (by omega) (ZmF x.name.size) ZlO) (by simp only [Y3]; omega)
theorem W3 (x : TBigraph) : Zq 256 (fun l => JU x l) (ZI x) := ZaV (Zhd (by omega) (by omega) (ZoX (n := JQ) (fun y => ZaV (Zr4 y) (by omega)) x.nodes) (Zhd (by omega) (by omega) (Zwn Xz (fun _ => (by decide : 1 <= 256)) x.sites) (Zhd (by omega) (by omega) (ZoX (n := Ut) (fun y => Zon y.size) x.outer) (Zhd (by omega) (by omega) (ZoX (n := Y3) (fun y => ZaV (Zr5 y) (by omega)) x.inner) ZlO)))) (by simp only [ZI]; omega)
theorem ZdD (x : TControl) : Zq 256 (fun l => ZL x l) (JD x) := ZaV (Zhd (by omega) (by omega) (ZmF x.name.size) ZlO) (by simp only [JD]; omega)
end Go.Fd
