/-
  A VALID BIGRAPH: THE WHOLE, BOTH SIDES. Own work.
-/
import Derived.Test.YtopapbodofgmiaaGreatDoorT05
import Derived.Shelf.Sort.Plain
set_option linter.all false
namespace Go.Fd
set_option maxRecDepth 20000
theorem Wz (b : TBigraph) (hn : b.inner.length <= 4294967296) (lvl : Nat) (S : Sto) : Sem Go.Proofs.Tryz.prog Ja lvl [.ag ((Za b).map .tr)] S (.ow 1 (rS (inn b)) true) S := by
 refine Zf Wx trivial ?_
 simp only [VH, List.length_map, Za, EVA, ↓reduceIte, Nat.reduceEqDiff, Nat.reduceMul, reduceCtorEq, Nat.reduceAdd, Nat.reduceSub, Nat.reduceLeDiff, Nat.reduceLT, Int.reduceToNat, Int.reduceLE, Int.reduceLT, Ze, men]
 refine Z9 (α := Unit) b.inner.length (fun j _ => [(3, .hd (lvl, 192) [] 0 j none j), (10, iI j)]) (fun j _ => [(192, .ar 1 (rS ((inn b).take j)) true j 0)]) (fun _ _ => True) () (by simp only [EVA, ↓reduceIte, Nat.reduceEqDiff, Nat.reduceMul, reduceCtorEq, Nat.reduceAdd, Nat.reduceSub, Nat.reduceLeDiff, Nat.reduceLT, Int.reduceToNat, Int.reduceLE, Int.reduceLT, Ze, men]) (by (simp only [EVA, ↓reduceIte, Nat.reduceEqDiff, Nat.reduceMul, reduceCtorEq, Nat.reduceAdd, Nat.reduceSub, Nat.reduceLeDiff, Nat.reduceLT, Int.reduceToNat, Int.reduceLE, Int.reduceLT, Ze, men]) <;> rfl) trivial ?_
 intro j _ hj _
 have hil : (inn b).length = b.inner.length := by simp [inn]
 simp only [List.length_map, EVA, ↓reduceIte, Nat.reduceEqDiff, Nat.reduceMul, reduceCtorEq, Nat.reduceAdd, Nat.reduceSub, Nat.reduceLeDiff, Nat.reduceLT, Int.reduceToNat, Int.reduceLE, Int.reduceLT, Ze, men]
 refine Zu (fun hlt => ?_) (fun hge => ?_)
 ·have hja : j < b.inner.length := by omega
  have ga := Zaw (c := ZO) hja
  have hlN : (rS ((inn b).take j)).length = j := by rw [List.length_map, List.length_take]; omega
  simp only [ga, ZO, hlN, List.length_map, EVA, ↓reduceIte, Nat.reduceEqDiff, Nat.reduceMul, reduceCtorEq, Nat.reduceAdd, Nat.reduceSub, Nat.reduceLeDiff, Nat.reduceLT, Int.reduceToNat, Int.reduceLE, Int.reduceLT, Ze, men]
  have hstep : rS ((inn b).take j) ++ [[ts b.inner[j].name]] = rS ((inn b).take (j + 1)) := by
   rw [List.take_succ_eq_append_getElem (by omega), Zic]
   simp [inn]
  refine ⟨by omega, by rw [Zg]; omega, Zi () hja ?_ trivial⟩
  rw [<- hstep]
  rfl
 ·have : j = b.inner.length := by omega
  subst this
  rw [List.take_of_length_le (by omega)]
  exact ⟨hil.symm, rfl⟩
def Zid (sig : List TControl) (b : TBigraph) (i : Nat) : Prop := ∀ h : i < b.nodes.length, nodeOK sig b b.nodes[i] i
structure bigOK (sig : List TControl) (b : TBigraph) : Prop where
 sg : Zcn sig
 roots : 0 <= b.roots /\ b.roots <= 4
 nodesL : b.nodes.length <= 8
 sitesL : b.sites.length <= 4
 edges : 0 <= b.edges /\ b.edges <= 8
 outer : V0 b.outer
 inn : V0 (inn b)
 nodes : ∀ i, Zid sig b i
 sites : ∀ p ∈ b.sites, W0 sig b p b.nodes.length
 inner : ∀ w ∈ b.inner, Jd b w.link
theorem Zfj {sig : List TControl} {b : TBigraph} {j : Nat} (h : ∀ k, k < j -> Zid sig b k) : Zgr sig b j := fun i hi hl => (h i hi hl).ctl
theorem Xn {b : TBigraph} : (inn b).length = b.inner.length := by simp [inn]
theorem Zj7 {b : TBigraph} {n : Nat} (h : ∀ y ∈ b.inner, V4 n y) : ∀ y ∈ inn b, y.size <= n := fun y hy => by
 obtain ⟨w, hw, rfl⟩ := List.mem_map.1 hy
 exact h w hw
theorem V6 (sig : List TControl) (b : TBigraph) (hn : sig.length <= 4294967296) (hbs : ∀ y ∈ sig, ZD 4294967296 y) (hb : Zl 4294967296 b) (hf : Zx b) (lvl : Nat) (S : Sto) : Sem Go.Proofs.Tryz.prog Ju lvl [.tr (.sl (sig.map Zn)), .ag ((Za b).map .tr)] S (iB (dc (bigOK sig b))) S := by
 obtain ⟨b1, b2, b3, b4, b5, b6, b7⟩ := hb
 obtain ⟨f1, f2, f3, f4, f5⟩ := hf
 refine Zf Ze6 trivial ?_
 simp only [ZaW, List.length_map, Za, EVA, ↓reduceIte, Nat.reduceEqDiff, Nat.reduceMul, reduceCtorEq, Nat.reduceAdd, Nat.reduceSub, Nat.reduceLeDiff, Nat.reduceLT, Int.reduceToNat, Int.reduceLE, Int.reduceLT, Ze, men]
 refine Zb (Zj3 sig (by omega) (fun y hy => Zdk (hbs y hy))) ?_
 cases h1 : dc (Zcn sig)
 ·simp only [EVA, ↓reduceIte, Nat.reduceEqDiff, Nat.reduceMul, reduceCtorEq, Nat.reduceAdd, Nat.reduceSub, Nat.reduceLeDiff, Nat.reduceLT, Int.reduceToNat, Int.reduceLE, Int.reduceLT, Ze, men]
  rw [Zp fun h : bigOK sig b => dc_not.1 h1 h.sg]
 simp only [List.length_map, Za, EVA, ↓reduceIte, Nat.reduceEqDiff, Nat.reduceMul, reduceCtorEq, Nat.reduceAdd, Nat.reduceSub, Nat.reduceLeDiff, Nat.reduceLT, Int.reduceToNat, Int.reduceLE, Int.reduceLT, Ze, men]
 refine Zb (Xx b.roots 0 4) ?_
 cases h2 : inB b.roots 0 4
 ·simp only [EVA, ↓reduceIte, Nat.reduceEqDiff, Nat.reduceMul, reduceCtorEq, Nat.reduceAdd, Nat.reduceSub, Nat.reduceLeDiff, Nat.reduceLT, Int.reduceToNat, Int.reduceLE, Int.reduceLT, Ze, men]
  rw [Zp fun h : bigOK sig b => inB_not.1 h2 h.roots]
 by_cases h3 : (8 : Int) < b.nodes.length
 ·simp only [h3, List.length_map, Za, EVA, ↓reduceIte, Nat.reduceEqDiff, Nat.reduceMul, reduceCtorEq, Nat.reduceAdd, Nat.reduceSub, Nat.reduceLeDiff, Nat.reduceLT, Int.reduceToNat, Int.reduceLE, Int.reduceLT, Ze, men]
  rw [Zp fun h : bigOK sig b => by have := h.nodesL; omega]
 by_cases h4 : (4 : Int) < b.sites.length
 ·simp only [h3, h4, List.length_map, Za, EVA, ↓reduceIte, Nat.reduceEqDiff, Nat.reduceMul, reduceCtorEq, Nat.reduceAdd, Nat.reduceSub, Nat.reduceLeDiff, Nat.reduceLT, Int.reduceToNat, Int.reduceLE, Int.reduceLT, Ze, men]
  rw [Zp fun h : bigOK sig b => by have := h.sitesL; omega]
 simp only [h3, h4, List.length_map, Za, EVA, ↓reduceIte, Nat.reduceEqDiff, Nat.reduceMul, reduceCtorEq, Nat.reduceAdd, Nat.reduceSub, Nat.reduceLeDiff, Nat.reduceLT, Int.reduceToNat, Int.reduceLE, Int.reduceLT, Ze, men]
 refine Zb (Xx b.edges 0 8) ?_
 cases h5 : inB b.edges 0 8
 ·simp only [EVA, ↓reduceIte, Nat.reduceEqDiff, Nat.reduceMul, reduceCtorEq, Nat.reduceAdd, Nat.reduceSub, Nat.reduceLeDiff, Nat.reduceLT, Int.reduceToNat, Int.reduceLE, Int.reduceLT, Ze, men]
  rw [Zp fun h : bigOK sig b => inB_not.1 h5 h.edges]
 have r2 := inB_iff.1 h2
 have r5 := inB_iff.1 h5
 simp only [List.length_map, Za, EVA, ↓reduceIte, Nat.reduceEqDiff, Nat.reduceMul, reduceCtorEq, Nat.reduceAdd, Nat.reduceSub, Nat.reduceLeDiff, Nat.reduceLT, Int.reduceToNat, Int.reduceLE, Int.reduceLT, Ze, men]
 refine Zb (Zdl b.outer (by assumption) (by assumption)) ?_
 cases h6 : dc (V0 b.outer)
 ·simp only [EVA, ↓reduceIte, Nat.reduceEqDiff, Nat.reduceMul, reduceCtorEq, Nat.reduceAdd, Nat.reduceSub, Nat.reduceLeDiff, Nat.reduceLT, Int.reduceToNat, Int.reduceLE, Int.reduceLT, Ze, men]
  rw [Zp fun h : bigOK sig b => dc_not.1 h6 h.outer]
 by_cases h7 : (16 : Int) < b.inner.length
 ·simp only [h7, List.length_map, Za, EVA, ↓reduceIte, Nat.reduceEqDiff, Nat.reduceMul, reduceCtorEq, Nat.reduceAdd, Nat.reduceSub, Nat.reduceLeDiff, Nat.reduceLT, Int.reduceToNat, Int.reduceLE, Int.reduceLT, Ze, men]
  rw [Zp fun h : bigOK sig b => by have := h.inn.2; rw [Xn] at this; omega]
 simp only [h7, List.length_map, Za, EVA, ↓reduceIte, Nat.reduceEqDiff, Nat.reduceMul, reduceCtorEq, Nat.reduceAdd, Nat.reduceSub, Nat.reduceLeDiff, Nat.reduceLT, Int.reduceToNat, Int.reduceLE, Int.reduceLT, Ze, men]
 refine Zb (V1 b (by omega)) ?_
 simp only [List.length_map, Za, EVA, ↓reduceIte, Nat.reduceEqDiff, Nat.reduceMul, reduceCtorEq, Nat.reduceAdd, Nat.reduceSub, Nat.reduceLeDiff, Nat.reduceLT, Int.reduceToNat, Int.reduceLE, Int.reduceLT, Ze, men]
 refine Zb (Zdl (inn b) (by rw [Xn]; omega) (Zj7 (by assumption))) ?_
 cases h8 : dc (V0 (inn b))
 ·simp only [EVA, ↓reduceIte, Nat.reduceEqDiff, Nat.reduceMul, reduceCtorEq, Nat.reduceAdd, Nat.reduceSub, Nat.reduceLeDiff, Nat.reduceLT, Int.reduceToNat, Int.reduceLE, Int.reduceLT, Ze, men]
  rw [Zp fun h : bigOK sig b => dc_not.1 h8 h.inn]
 simp only [List.length_map, Za, EVA, ↓reduceIte, Nat.reduceEqDiff, Nat.reduceMul, reduceCtorEq, Nat.reduceAdd, Nat.reduceSub, Nat.reduceLeDiff, Nat.reduceLT, Int.reduceToNat, Int.reduceLE, Int.reduceLT, Ze, men]
 have ho := (dc_iff.1 h6).2
 refine Z9 (α := Unit) b.nodes.length (fun j _ => [(5, iI j)]) (fun j _ => []) (fun j _ => ∀ k, k < j -> Zid sig b k) () (by simp only [EVA, ↓reduceIte, Nat.reduceEqDiff, Nat.reduceMul, reduceCtorEq, Nat.reduceAdd, Nat.reduceSub, Nat.reduceLeDiff, Nat.reduceLT, Int.reduceToNat, Int.reduceLE, Int.reduceLT, Ze, men]) (by (simp only [EVA, ↓reduceIte, Nat.reduceEqDiff, Nat.reduceMul, reduceCtorEq, Nat.reduceAdd, Nat.reduceSub, Nat.reduceLeDiff, Nat.reduceLT, Int.reduceToNat, Int.reduceLE, Int.reduceLT, Ze, men]) <;> rfl) (fun k hk => absurd hk (Nat.not_lt_zero k)) ?_
 intro j _ hj hA
 simp only [List.length_map, Za, EVA, ↓reduceIte, Nat.reduceEqDiff, Nat.reduceMul, reduceCtorEq, Nat.reduceAdd, Nat.reduceSub, Nat.reduceLeDiff, Nat.reduceLT, Int.reduceToNat, Int.reduceLE, Int.reduceLT, Ze, men]
 refine Zu (fun hlt => ?_) (fun hge => ?_)
 ·have hja : j < b.nodes.length := by omega
  have hm := List.getElem_mem hja
  refine Zb (ZiH sig b j hja hn (by first | exact (b2 _ hm) | exact (b3 _ hm)) (by first | exact (f1 _ hm).2.1 | exact (f2 _ hm).2.1) r2 r5 (by omega) (Zfj hA)) ?_
  cases hc : dc (nodeOK sig b b.nodes[j] j)
  ·simp only [EVA, ↓reduceIte, Nat.reduceEqDiff, Nat.reduceMul, reduceCtorEq, Nat.reduceAdd, Nat.reduceSub, Nat.reduceLeDiff, Nat.reduceLT, Int.reduceToNat, Int.reduceLE, Int.reduceLT, Ze, men]
   rw [Zp fun h : bigOK sig b => dc_not.1 hc (h.nodes j hja)]
  ·simp only [EVA, ↓reduceIte, Nat.reduceEqDiff, Nat.reduceMul, reduceCtorEq, Nat.reduceAdd, Nat.reduceSub, Nat.reduceLeDiff, Nat.reduceLT, Int.reduceToNat, Int.reduceLE, Int.reduceLT, Ze, men]
   exact ⟨by rw [Zg]; omega, Zi () hja rfl (ZlY hA fun _ => dc_iff.1 hc)⟩
 have hj1 : j = b.nodes.length := by omega
 subst hj1
 refine Z9 (α := Unit) b.sites.length (fun j _ => [(6, iI j)]) (fun j _ => []) (fun j _ => ∀ k, k < j -> W0 sig b (g0 b.sites k) b.nodes.length) () (by simp only [EVA, ↓reduceIte, Nat.reduceEqDiff, Nat.reduceMul, reduceCtorEq, Nat.reduceAdd, Nat.reduceSub, Nat.reduceLeDiff, Nat.reduceLT, Int.reduceToNat, Int.reduceLE, Int.reduceLT, Ze, men]) (by (simp only [EVA, ↓reduceIte, Nat.reduceEqDiff, Nat.reduceMul, reduceCtorEq, Nat.reduceAdd, Nat.reduceSub, Nat.reduceLeDiff, Nat.reduceLT, Int.reduceToNat, Int.reduceLE, Int.reduceLT, Ze, men]) <;> rfl) (fun k hk => absurd hk (Nat.not_lt_zero k)) ?_
 intro j _ hj hB
 simp only [List.length_map, Za, EVA, ↓reduceIte, Nat.reduceEqDiff, Nat.reduceMul, reduceCtorEq, Nat.reduceAdd, Nat.reduceSub, Nat.reduceLeDiff, Nat.reduceLT, Int.reduceToNat, Int.reduceLE, Int.reduceLT, Ze, men]
 refine Zu (fun hlt => ?_) (fun hge => ?_)
 ·have hja : j < b.sites.length := by omega
  have ga := X2 hja
  have hg : g0 b.sites j ∈ b.sites := by simp [hja]
  simp only [ga, List.length_map, Za, EVA, ↓reduceIte, Nat.reduceEqDiff, Nat.reduceMul, reduceCtorEq, Nat.reduceAdd, Nat.reduceSub, Nat.reduceLeDiff, Nat.reduceLT, Int.reduceToNat, Int.reduceLE, Int.reduceLT, Ze, men]
  refine Zb (Zdm sig b (g0 b.sites j) b.nodes.length (by first | exact f3 _ hg | exact f2 _ hg | exact f4 _ hg) r2 (Nat.le_refl _) (Zfj hA)) ?_
  cases hc : dc (W0 sig b (g0 b.sites j) b.nodes.length)
  ·simp only [EVA, ↓reduceIte, Nat.reduceEqDiff, Nat.reduceMul, reduceCtorEq, Nat.reduceAdd, Nat.reduceSub, Nat.reduceLeDiff, Nat.reduceLT, Int.reduceToNat, Int.reduceLE, Int.reduceLT, Ze, men]
   rw [Zp fun h : bigOK sig b => dc_not.1 hc (h.sites _ hg)]
  ·simp only [EVA, ↓reduceIte, Nat.reduceEqDiff, Nat.reduceMul, reduceCtorEq, Nat.reduceAdd, Nat.reduceSub, Nat.reduceLeDiff, Nat.reduceLT, Int.reduceToNat, Int.reduceLE, Int.reduceLT, Ze, men]
   exact ⟨by rw [Zg]; omega, Zi () hja rfl (ZlY hB (dc_iff.1 hc))⟩
 have hj1 : j = b.sites.length := by omega
 subst hj1
 refine Z9 (α := Unit) b.inner.length (fun j _ => [(7, iI j)]) (fun j _ => []) (fun j _ => ∀ k, k < j -> ∀ h : k < b.inner.length, Jd b b.inner[k].link) () (by simp only [EVA, ↓reduceIte, Nat.reduceEqDiff, Nat.reduceMul, reduceCtorEq, Nat.reduceAdd, Nat.reduceSub, Nat.reduceLeDiff, Nat.reduceLT, Int.reduceToNat, Int.reduceLE, Int.reduceLT, Ze, men]) (by (simp only [EVA, ↓reduceIte, Nat.reduceEqDiff, Nat.reduceMul, reduceCtorEq, Nat.reduceAdd, Nat.reduceSub, Nat.reduceLeDiff, Nat.reduceLT, Int.reduceToNat, Int.reduceLE, Int.reduceLT, Ze, men]) <;> rfl) (fun k hk => absurd hk (Nat.not_lt_zero k)) ?_
 intro j _ hj hC
 simp only [List.length_map, Za, EVA, ↓reduceIte, Nat.reduceEqDiff, Nat.reduceMul, reduceCtorEq, Nat.reduceAdd, Nat.reduceSub, Nat.reduceLeDiff, Nat.reduceLT, Int.reduceToNat, Int.reduceLE, Int.reduceLT, Ze, men]
 refine Zu (fun hlt => ?_) (fun hge => ?_)
 ·have hja : j < b.inner.length := by omega
  have ga := Zaw (c := ZO) hja
  simp only [ga, ZO, List.length_map, Za, EVA, ↓reduceIte, Nat.reduceEqDiff, Nat.reduceMul, reduceCtorEq, Nat.reduceAdd, Nat.reduceSub, Nat.reduceLeDiff, Nat.reduceLT, Int.reduceToNat, Int.reduceLE, Int.reduceLT, Ze, men]
  refine Zb (Zei b b.inner[j].link r5 (by omega)) ?_
  cases hc : dc (Jd b b.inner[j].link)
  ·simp only [EVA, ↓reduceIte, Nat.reduceEqDiff, Nat.reduceMul, reduceCtorEq, Nat.reduceAdd, Nat.reduceSub, Nat.reduceLeDiff, Nat.reduceLT, Int.reduceToNat, Int.reduceLE, Int.reduceLT, Ze, men]
   rw [Zp fun h : bigOK sig b => dc_not.1 hc (h.inner _ (List.getElem_mem hja))]
  ·simp only [EVA, ↓reduceIte, Nat.reduceEqDiff, Nat.reduceMul, reduceCtorEq, Nat.reduceAdd, Nat.reduceSub, Nat.reduceLeDiff, Nat.reduceLT, Int.reduceToNat, Int.reduceLE, Int.reduceLT, Ze, men]
   exact ⟨by rw [Zg]; omega, Zi () hja rfl (ZlY hC fun _ => dc_iff.1 hc)⟩
 have hj1 : j = b.inner.length := by omega
 subst hj1
 have : bigOK sig b := ⟨dc_iff.1 h1, r2, by omega, by omega, r5, dc_iff.1 h6, dc_iff.1 h8, fun i h => hA i h h, fun p hp => by
  obtain ⟨k, hk, rfl⟩ := List.getElem_of_mem hp
  have := hB k hk
  simpa [hk] using this, fun w hw => by
  obtain ⟨k, hk, rfl⟩ := List.getElem_of_mem hw
  exact hC k hk hk⟩
 rw [Jn this]
theorem Zdn (l : Int) (b : TBigraph) (he : 0 <= b.edges /\ b.edges <= 8) (ho : b.outer.length <= 4294967296) (lvl : Nat) (S : Sto) : Sem Go.Proofs.Tryz.prog Vp lvl [iI l, .ta (Za b)] S (iB (!dc (Jd b l))) S := by
 refine Zf Za6 trivial ?_
 simp only [Wg, Za, EVA, ↓reduceIte, Nat.reduceEqDiff, Nat.reduceMul, reduceCtorEq, Nat.reduceAdd, Nat.reduceSub, Nat.reduceLeDiff, Nat.reduceLT, Int.reduceToNat, Int.reduceLE, Int.reduceLT, Ze, men]
 refine Zb (Zej b l he ho) ?_
 simp only [EVA, ↓reduceIte, Nat.reduceEqDiff, Nat.reduceMul, reduceCtorEq, Nat.reduceAdd, Nat.reduceSub, Nat.reduceLeDiff, Nat.reduceLT, Int.reduceToNat, Int.reduceLE, Int.reduceLT, Ze, men]
theorem Zdo (p : Int) (sig : List TControl) (b : TBigraph) (hr : 0 <= b.roots /\ b.roots <= 4) (hc : Zgr sig b b.nodes.length) (lvl : Nat) (S : Sto) : Sem Go.Proofs.Tryz.prog Vq lvl [iI p, .ta (Za b), .ta [Tr.sl (sig.map Zn)]] S (iB (!dc (W0 sig b p b.nodes.length))) S := by
 refine Zf Za7 trivial ?_
 simp only [Wh, Za, List.length_map, EVA, ↓reduceIte, Nat.reduceEqDiff, Nat.reduceMul, reduceCtorEq, Nat.reduceAdd, Nat.reduceSub, Nat.reduceLeDiff, Nat.reduceLT, Int.reduceToNat, Int.reduceLE, Int.reduceLT, Ze, men]
 refine Zb (Zcc sig b p b.nodes.length hr (Nat.le_refl _) hc) ?_
 simp only [EVA, ↓reduceIte, Nat.reduceEqDiff, Nat.reduceMul, reduceCtorEq, Nat.reduceAdd, Nat.reduceSub, Nat.reduceLeDiff, Nat.reduceLT, Int.reduceToNat, Int.reduceLE, Int.reduceLT, Ze, men]
theorem Zdp (w : TWire) (b : TBigraph) (he : 0 <= b.edges /\ b.edges <= 8) (ho : b.outer.length <= 4294967296) (lvl : Nat) (S : Sto) : Sem Go.Proofs.Tryz.prog Vr lvl [.ag ((ZO w).map .tr), .ta (Za b)] S (iB (!dc (Jd b w.link))) S := by
 refine Zf Za8 trivial ?_
 simp only [Wi, Za, ZO, EVA, ↓reduceIte, Nat.reduceEqDiff, Nat.reduceMul, reduceCtorEq, Nat.reduceAdd, Nat.reduceSub, Nat.reduceLeDiff, Nat.reduceLT, Int.reduceToNat, Int.reduceLE, Int.reduceLT, Ze, men]
 refine Zb (Zej b w.link he ho) ?_
 simp only [EVA, ↓reduceIte, Nat.reduceEqDiff, Nat.reduceMul, reduceCtorEq, Nat.reduceAdd, Nat.reduceSub, Nat.reduceLeDiff, Nat.reduceLT, Int.reduceToNat, Int.reduceLE, Int.reduceLT, Ze, men]
theorem ZrH : Z2 Go.Proofs.Tryz.prog JI (Zk3 2 (some 2)) = true := by kernel_rfl
theorem ZrI : Z2 Go.Proofs.Tryz.prog Jx (ZmG JI) = true := by kernel_rfl
theorem any_no {α : Type} {l : List α} {p : α -> Prop} : (l.any fun n => !dc (p n)) = false ↔ ∀ n ∈ l, p n := by
 simp only [List.any_eq_false, Bool.not_eq_true', Bool.not_eq_false, dc_iff]
theorem QF (sig : List TControl) (b : TBigraph) (hn : sig.length <= 4294967296) (hbs : ∀ y ∈ sig, ZD 4294967296 y) (hb : Zl 4294967296 b) (lvl : Nat) (S : Sto) : Sem Go.Proofs.Tryz.prog Yd lvl [.tr (.sl (sig.map Zn)), .ag ((Za b).map .tr)] S (iB (dc (bigOK sig b))) S := by
 obtain ⟨b1, b2, b3, b4, b5, b6, b7⟩ := hb
 refine Zf Zcm trivial ?_
 simp only [UD, List.length_map, Za, EVA, ↓reduceIte, Nat.reduceEqDiff, Nat.reduceMul, reduceCtorEq, Nat.reduceAdd, Nat.reduceSub, Nat.reduceLeDiff, Nat.reduceLT, Int.reduceToNat, Int.reduceLE, Int.reduceLT, Ze, men]
 refine Zb (DR sig (by omega) (fun y hy => Zdk (hbs y hy))) ?_
 cases h1 : dc (Zcn sig)
 ·simp only [EVA, ↓reduceIte, Nat.reduceEqDiff, Nat.reduceMul, reduceCtorEq, Nat.reduceAdd, Nat.reduceSub, Nat.reduceLeDiff, Nat.reduceLT, Int.reduceToNat, Int.reduceLE, Int.reduceLT, Ze, men]
  rw [Zp fun h : bigOK sig b => dc_not.1 h1 h.sg]
 simp only [List.length_map, Za, EVA, ↓reduceIte, Nat.reduceEqDiff, Nat.reduceMul, reduceCtorEq, Nat.reduceAdd, Nat.reduceSub, Nat.reduceLeDiff, Nat.reduceLT, Int.reduceToNat, Int.reduceLE, Int.reduceLT, Ze, men]
 refine Zb (V5 b.roots 0 4) ?_
 cases h2 : inB b.roots 0 4
 ·simp only [EVA, ↓reduceIte, Nat.reduceEqDiff, Nat.reduceMul, reduceCtorEq, Nat.reduceAdd, Nat.reduceSub, Nat.reduceLeDiff, Nat.reduceLT, Int.reduceToNat, Int.reduceLE, Int.reduceLT, Ze, men]
  rw [Zp fun h : bigOK sig b => inB_not.1 h2 h.roots]
 by_cases h3 : (8 : Int) < b.nodes.length
 ·simp only [h3, List.length_map, Za, EVA, ↓reduceIte, Nat.reduceEqDiff, Nat.reduceMul, reduceCtorEq, Nat.reduceAdd, Nat.reduceSub, Nat.reduceLeDiff, Nat.reduceLT, Int.reduceToNat, Int.reduceLE, Int.reduceLT, Ze, men]
  rw [Zp fun h : bigOK sig b => by have := h.nodesL; omega]
 by_cases h4 : (4 : Int) < b.sites.length
 ·simp only [h3, h4, List.length_map, Za, EVA, ↓reduceIte, Nat.reduceEqDiff, Nat.reduceMul, reduceCtorEq, Nat.reduceAdd, Nat.reduceSub, Nat.reduceLeDiff, Nat.reduceLT, Int.reduceToNat, Int.reduceLE, Int.reduceLT, Ze, men]
  rw [Zp fun h : bigOK sig b => by have := h.sitesL; omega]
 simp only [h3, h4, List.length_map, Za, EVA, ↓reduceIte, Nat.reduceEqDiff, Nat.reduceMul, reduceCtorEq, Nat.reduceAdd, Nat.reduceSub, Nat.reduceLeDiff, Nat.reduceLT, Int.reduceToNat, Int.reduceLE, Int.reduceLT, Ze, men]
 refine Zb (V5 b.edges 0 8) ?_
 cases h5 : inB b.edges 0 8
 ·simp only [EVA, ↓reduceIte, Nat.reduceEqDiff, Nat.reduceMul, reduceCtorEq, Nat.reduceAdd, Nat.reduceSub, Nat.reduceLeDiff, Nat.reduceLT, Int.reduceToNat, Int.reduceLE, Int.reduceLT, Ze, men]
  rw [Zp fun h : bigOK sig b => inB_not.1 h5 h.edges]
 have r2 := inB_iff.1 h2
 have r5 := inB_iff.1 h5
 simp only [List.length_map, Za, EVA, ↓reduceIte, Nat.reduceEqDiff, Nat.reduceMul, reduceCtorEq, Nat.reduceAdd, Nat.reduceSub, Nat.reduceLeDiff, Nat.reduceLT, Int.reduceToNat, Int.reduceLE, Int.reduceLT, Ze, men]
 refine Zb (Zcb b.outer (by assumption) (by assumption)) ?_
 cases h6 : dc (V0 b.outer)
 ·simp only [EVA, ↓reduceIte, Nat.reduceEqDiff, Nat.reduceMul, reduceCtorEq, Nat.reduceAdd, Nat.reduceSub, Nat.reduceLeDiff, Nat.reduceLT, Int.reduceToNat, Int.reduceLE, Int.reduceLT, Ze, men]
  rw [Zp fun h : bigOK sig b => dc_not.1 h6 h.outer]
 simp only [List.length_map, Za, EVA, ↓reduceIte, Nat.reduceEqDiff, Nat.reduceMul, reduceCtorEq, Nat.reduceAdd, Nat.reduceSub, Nat.reduceLeDiff, Nat.reduceLT, Int.reduceToNat, Int.reduceLE, Int.reduceLT, Ze, men]
 refine Zb (Wz b (by omega)) ?_
 simp only [List.length_map, Za, EVA, ↓reduceIte, Nat.reduceEqDiff, Nat.reduceMul, reduceCtorEq, Nat.reduceAdd, Nat.reduceSub, Nat.reduceLeDiff, Nat.reduceLT, Int.reduceToNat, Int.reduceLE, Int.reduceLT, Ze, men]
 refine Zb (Zcb (inn b) (by rw [Xn]; omega) (Zj7 (by assumption))) ?_
 cases h8 : dc (V0 (inn b))
 ·simp only [EVA, ↓reduceIte, Nat.reduceEqDiff, Nat.reduceMul, reduceCtorEq, Nat.reduceAdd, Nat.reduceSub, Nat.reduceLeDiff, Nat.reduceLT, Int.reduceToNat, Int.reduceLE, Int.reduceLT, Ze, men]
  rw [Zp fun h : bigOK sig b => dc_not.1 h8 h.inn]
 simp only [List.length_map, Za, EVA, ↓reduceIte, Nat.reduceEqDiff, Nat.reduceMul, reduceCtorEq, Nat.reduceAdd, Nat.reduceSub, Nat.reduceLeDiff, Nat.reduceLT, Int.reduceToNat, Int.reduceLE, Int.reduceLT, Ze, men]
 have ho := (dc_iff.1 h6).2
 refine Z9 (α := Unit) b.nodes.length (fun j _ => [(49, iI j)]) (fun j _ => []) (fun j _ => ∀ k, k < j -> Zid sig b k) () (by simp only [EVA, ↓reduceIte, Nat.reduceEqDiff, Nat.reduceMul, reduceCtorEq, Nat.reduceAdd, Nat.reduceSub, Nat.reduceLeDiff, Nat.reduceLT, Int.reduceToNat, Int.reduceLE, Int.reduceLT, Ze, men]) (by (simp only [EVA, ↓reduceIte, Nat.reduceEqDiff, Nat.reduceMul, reduceCtorEq, Nat.reduceAdd, Nat.reduceSub, Nat.reduceLeDiff, Nat.reduceLT, Int.reduceToNat, Int.reduceLE, Int.reduceLT, Ze, men]) <;> rfl) (fun k hk => absurd hk (Nat.not_lt_zero k)) ?_
 intro j _ hj hA
 simp only [List.length_map, Za, EVA, ↓reduceIte, Nat.reduceEqDiff, Nat.reduceMul, reduceCtorEq, Nat.reduceAdd, Nat.reduceSub, Nat.reduceLeDiff, Nat.reduceLT, Int.reduceToNat, Int.reduceLE, Int.reduceLT, Ze, men]
 refine Zu (fun hlt => ?_) (fun hge => ?_)
 ·have hja : j < b.nodes.length := by omega
  have hm := List.getElem_mem hja
  have ga := Zaw (c := ZK) hja
  have hll : b.nodes[j].links.length <= 4294967296 := by first | exact (b2 _ hm) | exact (b3 _ hm)
  have hno : ¬ nodeOK sig b b.nodes[j] j -> dc (bigOK sig b) = false := fun h => Zp fun g => h (g.nodes j hja)
  simp only [ga, ZK, List.length_map, Za, EVA, ↓reduceIte, Nat.reduceEqDiff, Nat.reduceMul, reduceCtorEq, Nat.reduceAdd, Nat.reduceSub, Nat.reduceLeDiff, Nat.reduceLT, Int.reduceToNat, Int.reduceLE, Int.reduceLT, Ze, men]
  refine ⟨by rw [Zg]; omega, ?_⟩
  refine Zb (V5 b.nodes[j].control 0 ((sig.length : Int) - 1)) ?_
  cases p1 : inB b.nodes[j].control 0 ((sig.length : Int) - 1)
  ·simp only [EVA, ↓reduceIte, Nat.reduceEqDiff, Nat.reduceMul, reduceCtorEq, Nat.reduceAdd, Nat.reduceSub, Nat.reduceLeDiff, Nat.reduceLT, Int.reduceToNat, Int.reduceLE, Int.reduceLT, Ze, men]
   rw [hno fun h => inB_not.1 p1 h.ctl]
  have q1 := inB_iff.1 p1
  simp only [ZK, List.length_map, Za, EVA, ↓reduceIte, Nat.reduceEqDiff, Nat.reduceMul, reduceCtorEq, Nat.reduceAdd, Nat.reduceSub, Nat.reduceLeDiff, Nat.reduceLT, Int.reduceToNat, Int.reduceLE, Int.reduceLT, Ze, men]
  refine Zb (Zcc sig b b.nodes[j].parent j r2 (by omega) (Zfj hA)) ?_
  cases p2 : dc (W0 sig b b.nodes[j].parent j)
  ·simp only [EVA, ↓reduceIte, Nat.reduceEqDiff, Nat.reduceMul, reduceCtorEq, Nat.reduceAdd, Nat.reduceSub, Nat.reduceLeDiff, Nat.reduceLT, Int.reduceToNat, Int.reduceLE, Int.reduceLT, Ze, men]
   rw [hno fun h => dc_not.1 p2 h.par]
  obtain ⟨m, hmm⟩ : ∃ m : Nat, b.nodes[j].control = m := ⟨b.nodes[j].control.toNat, by omega⟩
  have hms : m < sig.length := by omega
  have gs := Zaw (c := Zn) hms
  have e : Zap sig b.nodes[j].control = sig[m].ports := by simp [Zap, hmm, hms]
  by_cases p3 : (b.nodes[j].links.length : Int) = sig[m].ports
  case neg =>
   simp only [p3, hmm, gs, Int.toNat_natCast, Int.natCast_nonneg, Zn, ZK, List.length_map, Za, EVA, ↓reduceIte, Nat.reduceEqDiff, Nat.reduceMul, reduceCtorEq, Nat.reduceAdd, Nat.reduceSub, Nat.reduceLeDiff, Nat.reduceLT, Int.reduceToNat, Int.reduceLE, Int.reduceLT, Ze, men]
   rw [hno fun h => p3 (by rw [<- e]; exact h.ports)]
  simp only [p3, hmm, gs, Int.toNat_natCast, Int.natCast_nonneg, Zn, ZK, List.length_map, Za, EVA, ↓reduceIte, Nat.reduceEqDiff, Nat.reduceMul, reduceCtorEq, Nat.reduceAdd, Nat.reduceSub, Nat.reduceLeDiff, Nat.reduceLT, Int.reduceToNat, Int.reduceLE, Int.reduceLT, Ze, men]
  refine Zb (Zfh (t := tv) (cs := [Za b]) ZmK ZmJ b.nodes[j].links (by omega) (fun x _ lvl S => Zdn x b r5 (by omega) lvl S)) ?_
  cases p4 : b.nodes[j].links.any fun l => !dc (Jd b l)
  ·simp only [EVA, ↓reduceIte, Nat.reduceEqDiff, Nat.reduceMul, reduceCtorEq, Nat.reduceAdd, Nat.reduceSub, Nat.reduceLeDiff, Nat.reduceLT, Int.reduceToNat, Int.reduceLE, Int.reduceLT, Ze, men]
   exact ⟨by rw [Zg]; omega, Zi () hja rfl (ZlY hA fun _ => ⟨q1, dc_iff.1 p2, by rw [e]; exact p3, any_no.1 p4⟩)⟩
  ·simp only [EVA, ↓reduceIte, Nat.reduceEqDiff, Nat.reduceMul, reduceCtorEq, Nat.reduceAdd, Nat.reduceSub, Nat.reduceLeDiff, Nat.reduceLT, Int.reduceToNat, Int.reduceLE, Int.reduceLT, Ze, men]
   rw [hno fun h => by rw [any_no.2 h.links] at p4; cases p4]
 have hj1 : j = b.nodes.length := by omega
 subst hj1
 refine Zb (Zfh (t := tv) (cs := [Za b, [Tr.sl (sig.map Zn)]]) ZmK ZmJ b.sites (by omega) (fun x _ lvl S => Zdo x sig b r2 (Zfj hA) lvl S)) ?_
 cases h9 : b.sites.any fun p => !dc (W0 sig b p b.nodes.length)
 case true =>
  simp only [EVA, ↓reduceIte, Nat.reduceEqDiff, Nat.reduceMul, reduceCtorEq, Nat.reduceAdd, Nat.reduceSub, Nat.reduceLeDiff, Nat.reduceLT, Int.reduceToNat, Int.reduceLE, Int.reduceLT, Ze, men]
  rw [Zp fun h : bigOK sig b => by rw [any_no.2 h.sites] at h9; cases h9]
 simp only [List.length_map, Za, EVA, ↓reduceIte, Nat.reduceEqDiff, Nat.reduceMul, reduceCtorEq, Nat.reduceAdd, Nat.reduceSub, Nat.reduceLeDiff, Nat.reduceLT, Int.reduceToNat, Int.reduceLE, Int.reduceLT, Ze, men]
 refine Zb (Zia (cs := [Za b]) ZrI ZrH (fun x => rfl) b.inner (by omega) (fun x _ lvl S => Zdp x b r5 (by omega) lvl S)) ?_
 cases h10 : b.inner.any fun w => !dc (Jd b w.link)
 case true =>
  simp only [EVA, ↓reduceIte, Nat.reduceEqDiff, Nat.reduceMul, reduceCtorEq, Nat.reduceAdd, Nat.reduceSub, Nat.reduceLeDiff, Nat.reduceLT, Int.reduceToNat, Int.reduceLE, Int.reduceLT, Ze, men]
  rw [Zp fun h : bigOK sig b => by rw [(any_no (p := fun w : TWire => Jd b w.link)).2 h.inner] at h10; cases h10]
 simp only [EVA, ↓reduceIte, Nat.reduceEqDiff, Nat.reduceMul, reduceCtorEq, Nat.reduceAdd, Nat.reduceSub, Nat.reduceLeDiff, Nat.reduceLT, Int.reduceToNat, Int.reduceLE, Int.reduceLT, Ze, men]
 have : bigOK sig b := ⟨dc_iff.1 h1, r2, by omega, by omega, r5, dc_iff.1 h6, dc_iff.1 h8, fun i h => hA i h h, any_no.1 h9, any_no.1 h10⟩
 rw [Jn this]
end Go.Fd

/-
  LISTS IN ORDER, OF ANY KIND: SORTED, EACH ONCE; CALLS THAT CHANGE ONE OBJECT. Own work.
-/
namespace Go.Fd
set_option maxRecDepth 20000
def cz {α : Type} [DecidableEq α] (g : Nat -> α) : Nat -> List α
 | 0 => []
 | m + 1 => cz g m ++ if m ≠ 0 /\ g m = g (m - 1) then [] else [g m]
theorem ZrJ {α : Type} [DecidableEq α] (g : Nat -> α) : ∀ m, (cz g m).length <= m
 | 0 => Nat.le_refl _
 | m + 1 => by
  have := ZrJ g m
  simp only [cz, List.length_append]
  split <;> simp <;> omega
theorem Zot {α : Type} [DecidableEq α] {g : Nat -> α} {m : Nat} (h0 : m ≠ 0) (h : g m = g (m - 1)) : cz g (m + 1) = cz g m := by
 rw [cz, if_pos ⟨h0, h⟩, List.append_nil]
theorem ZvO {α : Type} [DecidableEq α] {g : Nat -> α} {m : Nat} (h : g m ≠ g (m - 1)) : cz g (m + 1) = cz g m ++ [g m] := by
 rw [cz, if_neg (fun e => h e.2)]
theorem Zfk {α : Type} {y : List α} {i : Nat} {v : α} (h : i < y.length) : (y.set i v).take (i + 1) = y.take i ++ [v] := by
 rw [List.take_succ_eq_append_getElem (by rw [List.length_set]; exact h), List.getElem_set_self, List.take_set_of_le (Nat.le_refl i)]
theorem ZvP {lvl : Nat} {S : Sto} {id : Oid} {k hw ver : Nat} {es : Row} {u : Bool} (hne : id.1 ≠ lvl) (hS : S id = some (.ar k es u hw ver)) : wid (ZR lvl [] S) id [] k := by
 unfold wid
 rw [Js hne, hS]
theorem Zhh {C : Zt} {env : List (Nat × IV)} {loc : List (Nat × Ob)} {out : Sto} {d : Option Nat} {K : St -> Prop} {fid : FuncId} {imp : Bool} {lvl : Nat} {args : List IV} {r : IV} (key : Nat) (o : Ob) (h : C fid (lvl + 1) args (ZR lvl loc out) r (ZZ (ZR lvl loc out) (lvl, key) o))
  (hk : freshK (keyOf d) (ptO key o loc) (impv imp lvl (keyOf d) 0 r).2.length /\ K ⟨lvl, ptd d (impv imp lvl (keyOf d) 0 r).1 env, addO (keyOf d) (impv imp lvl (keyOf d) 0 r).2 (ptO key o loc), out⟩) : kcy C fid imp lvl env loc out d K args :=
 Qg (ptO key o loc) out (fun _ _ => rfl) (by rw [WN]; exact h) hk
theorem ZlZ {C : Zt} {env : List (Nat × IV)} {loc : List (Nat × Ob)} {out : Sto} {d : Option Nat} {K : St -> Prop} {fid : FuncId} {imp : Bool} {lvl : Nat} {args : List IV} {r : IV} (key : Nat) (o : Nat -> Ob) (h : ∃ v, C fid (lvl + 1) args (ZR lvl loc out) r (ZZ (ZR lvl loc out) (lvl, key) (o v)))
  (hk : ∀ v, freshK (keyOf d) (ptO key (o v) loc) (impv imp lvl (keyOf d) 0 r).2.length /\ K ⟨lvl, ptd d (impv imp lvl (keyOf d) 0 r).1 env, addO (keyOf d) (impv imp lvl (keyOf d) 0 r).2 (ptO key (o v) loc), out⟩) : kcy C fid imp lvl env loc out d K args := by
 obtain ⟨v, h⟩ := h
 exact Zhh key (o v) h (hk v)
section
variable {α : Type} {e0 : α} {lt : α -> α -> Prop}
def gx (e0 : α) (l : List α) (i : Nat) : α := l.getD i e0
theorem Dl {l : List α} {i : Nat} (h : i < l.length) : gx e0 l i = l[i] := by
 unfold gx
 rw [List.getD_eq_getElem?_getD, List.getElem?_eq_getElem h]
 rfl
def Zfl (e0 : α) (lt : α -> α -> Prop) (x : List α) (i : Nat) : Prop := ∀ p q, p < q -> q < i -> ¬ lt (gx e0 x q) (gx e0 x p)
def Zgs (e0 : α) (lt : α -> α -> Prop) (x : List α) (i j : Nat) : Prop := (∀ p q, p < q -> q <= i -> p ≠ j -> q ≠ j -> ¬ lt (gx e0 x q) (gx e0 x p)) /\ ∀ q, j < q -> q <= i -> ¬ lt (gx e0 x q) (gx e0 x j)
def ZoZ (e0 : α) (x : List α) (j : Nat) : List α := (x.set j (gx e0 x (j - 1))).set (j - 1) (gx e0 x j)
theorem Zj8 {y : List α} {a b : Nat} {v : α} (h : a < y.length) : gx e0 (y.set a v) b = if a = b then v else gx e0 y b := by
 show (y.set a v).getD b e0 = if a = b then v else y.getD b e0
 rw [List.getD_eq_getElem?_getD, List.getElem?_set, List.getD_eq_getElem?_getD]
 by_cases e : a = b
 ·rw [if_pos e, if_pos e, if_pos (by omega)]; rfl
 ·rw [if_neg e, if_neg e]
theorem Zhi {y : List α} {i : Nat} (h : Zgs e0 lt y i 0) : Zfl e0 lt y (i + 1) := fun p q h1 h2 => by
 by_cases e : p = 0
 ·subst e; exact h.2 q h1 (by omega)
 ·exact h.1 p q h1 (by omega) e (by omega)
theorem Zhj (tr : ∀ a b c, ¬ lt b a -> ¬ lt c b -> ¬ lt c a) {y : List α} {i j : Nat} (h : Zgs e0 lt y i j) (hj : 0 < j) (hji : j <= i) (hle : ¬ lt (gx e0 y j) (gx e0 y (j - 1))) : Zfl e0 lt y (i + 1) := fun p q h1 h2 => by
 by_cases e : p = j
 ·subst e; exact h.2 q h1 (by omega)
 ·by_cases e2 : q = j
  ·subst e2
   by_cases e3 : p = q - 1
   ·subst e3; exact hle
   ·exact tr _ _ _ (h.1 p (q - 1) (by omega) (by omega) e (by omega)) hle
  ·exact h.1 p q h1 (by omega) e e2
theorem ZiI (asym : ∀ a b, lt a b -> ¬ lt b a) {y : List α} {i j : Nat} (h : Zgs e0 lt y i j) (hj : 0 < j) (hji : j <= i) (hi : i < y.length) (hlt : lt (gx e0 y j) (gx e0 y (j - 1))) : Zgs e0 lt (ZoZ e0 y j) i (j - 1) := by
 have e : ∀ b, gx e0 (ZoZ e0 y j) b = if j - 1 = b then gx e0 y j else if j = b then gx e0 y (j - 1) else gx e0 y b := fun b => by
  unfold ZoZ
  rw [Zj8 (by rw [List.length_set]; omega), Zj8 (by omega)]
 refine ⟨fun p q h1 h2 h3 h4 => ?_, fun q h1 h2 => ?_⟩
 ·rw [e p, e q, if_neg (show ¬ j - 1 = p from fun g => h3 g.symm), if_neg (show ¬ j - 1 = q from fun g => h4 g.symm)]
  by_cases ep : j = p
  ·rw [if_pos ep, if_neg (show ¬ j = q by omega)]
   exact h.1 (j - 1) q (by omega) h2 (by omega) (by omega)
  ·rw [if_neg ep]
   by_cases eq : j = q
   ·rw [if_pos eq]
    exact h.1 p (j - 1) (by omega) (by omega) (by omega) (by omega)
   ·rw [if_neg eq]
    exact h.1 p q h1 h2 (fun g => ep g.symm) (fun g => eq g.symm)
 ·rw [e (j - 1), e q, if_pos rfl, if_neg (show ¬ j - 1 = q by omega)]
  by_cases eq : j = q
  ·rw [if_pos eq]; exact asym _ _ hlt
  ·rw [if_neg eq]
   exact h.2 q (by omega) h2
theorem Zj9 {y : List α} {j : Nat} (hj : 0 < j) (hi : j < y.length) : (ZoZ e0 y j).Perm y := by
 have h := @List.set_set_perm _ y j (j - 1) hi (by omega)
 unfold ZoZ
 rw [Dl hi, Dl (by omega)]
 exact h
theorem Zgt {γ : Type} {c : α -> γ} {l : List α} {i : Nat} (h : i < l.length) : (l.map c)[i]? = some (c (gx e0 l i)) := by
 rw [Dl h]; simp [h]
end
theorem Zfm {α : Type} [DecidableEq α] {e0 : α} {l : List α} : ∀ {n : Nat}, n <= l.length -> (∀ m, 0 < m -> m < n -> gx e0 l m ≠ gx e0 l (m - 1)) -> cz (gx e0 l) n = l.take n
 | 0, _, _ => by simp [cz]
 | n + 1, hn, h => by
  have ih := Zfm (n := n) (by omega) fun m h0 h1 => h m h0 (by omega)
  have hx : cz (gx e0 l) (n + 1) = cz (gx e0 l) n ++ [gx e0 l n] := by
   rw [cz, if_neg (fun e => h n (by omega) (by omega) e.2)]
  rw [hx, ih, List.take_succ_eq_append_getElem (by omega)]
  rw [Dl (by omega)]
structure Ords {α : Type} (lt : α -> α -> Prop) : Prop where
 irr : ∀ a, ¬ lt a a
 tr : ∀ a b c, lt a b -> lt b c -> lt a c
 tri : ∀ a b, lt a b \/ a = b \/ lt b a
theorem Ords.asym {α : Type} {lt : α -> α -> Prop} (O : Ords lt) (a b : α) (h : lt a b) : ¬ lt b a := fun g => O.irr a (O.tr _ _ _ h g)
section
variable {α : Type} {e0 : α} {lt : α -> α -> Prop}
theorem Zgu (O : Ords lt) : ∀ {x y : List α}, x.Pairwise lt -> y.Pairwise lt -> (∀ c, c ∈ x ↔ c ∈ y) -> x = y
 | [], [], _, _, _ => rfl
 | [], b :: s, _, _, h => by have := (h b).2 (by simp); simp at this
 | a :: r, [], _, _, h => by have := (h a).1 (by simp); simp at this
 | a :: r, b :: s, hx, hy, h => by
  rw [List.pairwise_cons] at hx hy
  have e : a = b := by
   rcases List.mem_cons.1 ((h a).1 (by simp)) with e | h1
   ·exact e
   ·rcases List.mem_cons.1 ((h b).2 (by simp)) with e | h2
    ·exact e.symm
    ·exact absurd (hy.1 a h1) (O.asym _ _ (hx.1 b h2))
  subst e
  congr 1
  refine Zgu O hx.2 hy.2 fun c => ⟨fun hc => ?_, fun hc => ?_⟩
  ·rcases List.mem_cons.1 ((h c).1 (by simp [hc])) with e | h1
   ·subst e; exact absurd (hx.1 c hc) (O.irr c)
   ·exact h1
  ·rcases List.mem_cons.1 ((h c).2 (by simp [hc])) with e | h1
   ·subst e; exact absurd (hy.1 c hc) (O.irr c)
   ·exact h1
theorem Zhk (O : Ords lt) : ∀ {x y : List α}, x.Pairwise (fun a b => ¬ lt b a) -> y.Pairwise (fun a b => ¬ lt b a) -> x.Perm y -> x = y
 | [], y, _, _, h => by rw [List.nil_perm.1 h]
 | a :: r, [], _, _, h => by have := h.length_eq; simp at this
 | a :: r, b :: s, hx, hy, h => by
  rw [List.pairwise_cons] at hx hy
  have e : a = b := by
   rcases List.mem_cons.1 (h.mem_iff.1 (List.mem_cons_self (a := a) (l := r))) with e | h1
   ·exact e
   ·rcases List.mem_cons.1 (h.mem_iff.2 (List.mem_cons_self (a := b) (l := s))) with e | h2
    ·exact e.symm
    ·rcases O.tri a b with g | g | g
     ·exact absurd g (hy.1 a h1)
     ·exact g
     ·exact absurd g (hx.1 b h2)
  subst e
  congr 1
  exact Zhk O hx.2 hy.2 h.cons_inv
theorem Zl0 {x : List α} (h : Zfl e0 lt x x.length) : x.Pairwise (fun a b => ¬ lt b a) := List.pairwise_iff_getElem.2 fun i j hi hj hij => by
 have := h i j hij hj
 rwa [Dl hi, Dl hj] at this
noncomputable def Zi5 (lt : α -> α -> Prop) (l : List α) : List α := l.mergeSort fun a b => @decide (¬ lt b a) (Classical.propDecidable _)
theorem srtG_perm {l : List α} : (Zi5 lt l).Perm l := List.mergeSort_perm ..
theorem Zhl (O : Ords lt) {l : List α} : (Zi5 lt l).Pairwise (fun a b => ¬ lt b a) := by
 classical
 have h := List.pairwise_mergeSort (le := fun a b => @decide (¬ lt b a) (Classical.propDecidable _)) (fun a b c h1 h2 => by
  simp only [decide_eq_true_eq] at *
  intro g
  rcases O.tri a b with k | k | k
  ·exact h2 (O.tr _ _ _ g k)
  ·subst k; exact h2 g
  ·exact h1 k) (fun a b => by
  simp only [Bool.or_eq_true, decide_eq_true_eq]
  by_cases g : lt b a
  ·exact .inr (O.asym _ _ g)
  ·exact .inl g) l
 exact h.imp (fun h => by simpa using h)
theorem Zl1 (O : Ords lt) {l x : List α} (hp : x.Perm l) (hu : Zfl e0 lt x l.length) : x = Zi5 lt l := by
 rw [<- hp.length_eq] at hu
 exact Zhk O (Zl0 hu) (Zhl O) (hp.trans srtG_perm.symm)
theorem cz_mem [DecidableEq α] {g : Nat -> α} {c : α} : ∀ {n : Nat}, c ∈ cz g n ↔ ∃ i, i < n /\ g i = c
 | 0 => by simp [cz]
 | n + 1 => by
  rw [cz, List.mem_append, cz_mem (n := n)]
  constructor
  ·rintro (⟨i, h1, h2⟩ | h)
   ·exact ⟨i, by omega, h2⟩
   ·split at h
    ·cases h
    ·exact ⟨n, by omega, (List.mem_singleton.1 h).symm⟩
  ·rintro ⟨i, h1, h2⟩
   by_cases e : i = n
   ·subst e
    by_cases k : i ≠ 0 /\ g i = g (i - 1)
    ·exact .inl ⟨i - 1, by omega, k.2.symm.trans h2⟩
    ·rw [if_neg k]; exact .inr (by simp [h2])
   ·exact .inl ⟨i, by omega, h2⟩
theorem ZrK (O : Ords lt) [DecidableEq α] {g : Nat -> α} : ∀ {n : Nat}, (∀ i j, i < j -> j < n -> ¬ lt (g j) (g i)) -> (cz g n).Pairwise lt
 | 0, _ => by simp [cz]
 | n + 1, h => by
  have ih := ZrK O (n := n) fun i j h1 h2 => h i j h1 (by omega)
  by_cases k : n ≠ 0 /\ g n = g (n - 1)
  ·rw [Zot k.1 k.2]; exact ih
  ·have hx : cz g (n + 1) = cz g n ++ [g n] := by rw [cz, if_neg k]
   rw [hx, List.pairwise_append]
   refine ⟨ih, by simp, fun c hc d hd => ?_⟩
   rw [List.mem_singleton] at hd
   subst hd
   obtain ⟨i, h1, rfl⟩ := cz_mem.1 hc
   have hn0 : n ≠ 0 := by omega
   rcases O.tri (g i) (g n) with e | e | e
   ·exact e
   ·exfalso
    have e1 : ¬ lt (g n) (g (n - 1)) := h (n - 1) n (by omega) (by omega)
    have e2 : ¬ lt (g (n - 1)) (g i) := by
     by_cases q : i = n - 1
     ·subst q; exact O.irr _
     ·exact h i (n - 1) (by omega) (by omega)
    rw [e] at e2
    rcases O.tri (g n) (g (n - 1)) with q | q | q
    ·exact e1 q
    ·exact k ⟨hn0, q⟩
    ·exact e2 q
   ·exact absurd e (h i n h1 (by omega))
noncomputable def Zo0 [DecidableEq α] (e0 : α) (lt : α -> α -> Prop) (l : List α) : List α := cz (gx e0 (Zi5 lt l)) (Zi5 lt l).length
theorem Zka (O : Ords lt) [DecidableEq α] {l : List α} : (Zo0 e0 lt l).Pairwise lt := ZrK O fun i j h1 h2 => by
 rw [Dl h2, Dl (Nat.lt_trans h1 h2)]
 exact List.pairwise_iff_getElem.1 (Zhl O) i j _ _ h1
theorem setG_mem [DecidableEq α] {l : List α} {c : α} : c ∈ Zo0 e0 lt l ↔ c ∈ l := by
 unfold Zo0
 rw [cz_mem, <- (srtG_perm (lt := lt) (l := l)).mem_iff]
 constructor
 ·rintro ⟨i, h1, h2⟩
  rw [Dl h1] at h2
  rw [<- h2]; exact List.getElem_mem h1
 ·intro h
  obtain ⟨i, h1, h2⟩ := List.getElem_of_mem h
  exact ⟨i, h1, by rw [Dl h1]; exact h2⟩
theorem Zhm (O : Ords lt) [DecidableEq α] {l y : List α} (hy : y.Pairwise lt) (h : ∀ c, c ∈ l ↔ c ∈ y) : Zo0 e0 lt l = y := Zgu O (Zka O) hy fun c => setG_mem.trans (h c)
theorem Zkb [DecidableEq α] {l : List α} : (Zo0 e0 lt l).length <= l.length := Nat.le_trans (ZrJ _ _) (Nat.le_of_eq srtG_perm.length_eq)
end
end Go.Fd

/-
  SORTING A FEW STRINGS: slices.Sort, slices.Compact ON ANOTHER'S ROW. Own work.
-/
namespace Go.Fd
set_option maxRecDepth 20000
abbrev e0S : ByteArray := ⟨#[]⟩
abbrev gS (l : List ByteArray) (i : Nat) : ByteArray := gx e0S l i
theorem bl_irr : ∀ (x : List UInt8), Op.bytesLess x x = false
 | [] => rfl
 | a :: x => by
  have e : ¬ a < a := UInt8.lt_irrefl a
  simp [Op.bytesLess, e, bl_irr x]
theorem Zie : ∀ (x y z : List UInt8), Op.bytesLess x y = true -> Op.bytesLess y z = true -> Op.bytesLess x z = true
 | [], [], _, h, _ => by simp [Op.bytesLess] at h
 | [], _ :: _, [], _, h => by simp [Op.bytesLess] at h
 | [], _ :: _, _ :: _, _, _ => by simp [Op.bytesLess]
 | _ :: _, [], _, h, _ => by simp [Op.bytesLess] at h
 | _ :: _, _ :: _, [], _, h => by simp [Op.bytesLess] at h
 | a :: x, b :: y, c :: z, h1, h2 => by
  have ih := Zie x y z
  have irr : ∀ a : UInt8, ¬ a < a := UInt8.lt_irrefl
  simp only [Op.bytesLess] at h1 h2 ⊢
  by_cases e1 : a = b
  ·subst e1
   simp only [irr, decide_false, Bool.false_or, beq_self_eq_true, Bool.true_and, if_true, if_false] at h1
   by_cases e2 : a = c
   ·subst e2
    simp [irr] at h1 h2 ⊢
    exact ih h1 h2
   ·by_cases l2 : a < c
    ·simp [l2]
    ·simp [l2, e2] at h2
  ·by_cases l1 : a < b
   ·by_cases e2 : b = c
    ·subst e2; simp [l1]
    ·by_cases l2 : b < c
     ·simp [UInt8.lt_trans l1 l2]
     ·simp [l2, e2] at h2
   ·simp [l1, e1] at h1
theorem ordsS : Ords ltS := by
 refine ⟨fun a h => ?_, fun a b c => Zie _ _ _, fun a b => ?_⟩
 ·unfold ltS at h
  rw [bl_irr] at h
  cases h
 ·have h := Zj6 a.data.toList b.data.toList
  unfold ltS
  cases h1 : Op.bytesLess a.data.toList b.data.toList with
  | true => exact .inl rfl
  | false =>
   rw [h1] at h
   cases h2 : Op.bytesLess b.data.toList a.data.toList with
   | true => exact .inr (.inr rfl)
   | false =>
    rw [h2] at h
    refine .inr (.inl ?_)
    have : a.data.toList = b.data.toList := by simpa using h
    cases a with | mk a => cases b with | mk b => exact congrArg ByteArray.mk (Array.toList_inj.1 this)
theorem Zl2 (a b : ByteArray) (h : ltS a b) : ¬ ltS b a := ordsS.asym a b h
theorem ltS_tr (a b c : ByteArray) (h1 : ¬ ltS b a) (h2 : ¬ ltS c b) : ¬ ltS c a := fun h => by
 rcases ordsS.tri b c with g | g | g
 ·exact h1 (ordsS.tr _ _ _ g h)
 ·subst g; exact h1 h
 ·exact h2 g
theorem Zou {y : List ByteArray} {j : Nat} {v : ByteArray} (h : j < y.length) : YC (rS y) [] j 0 (.v (.string v)) = rS (y.set j v) := by
 simp only [YC]
 rw [Zgt (e0 := e0S) (c := fun n : ByteArray => [ts n]) h]
 exact (List.map_set (f := fun n : ByteArray => [ts n]) (l := y) (i := j) (a := v)).symm
theorem ZiJ (a : ByteArray) (lvl : Nat) (S : Sto) : Sem Go.Proofs.Tryz.prog Yl lvl [iS a] S (iB false) S := by
 refine Zf Zbc trivial ?_
 simp only [Wl, EVA, ↓reduceIte, Nat.reduceEqDiff, Nat.reduceMul, reduceCtorEq, Nat.reduceAdd, Nat.reduceSub, Nat.reduceLeDiff, Nat.reduceLT, Int.reduceToNat, Int.reduceLE, Int.reduceLT, Ze, men]
theorem Zkc (a b : ByteArray) (lvl : Nat) (S : Sto) : Sem Go.Proofs.Tryz.prog YA lvl [iS a, iS b] S (iB (dc (ltS a b))) S := by
 refine Zf ZbO trivial ?_
 simp only [WY, EVA, ↓reduceIte, Nat.reduceEqDiff, Nat.reduceMul, reduceCtorEq, Nat.reduceAdd, Nat.reduceSub, Nat.reduceLeDiff, Nat.reduceLT, Int.reduceToNat, Int.reduceLE, Int.reduceLT, Ze, men]
 refine Zb (ZiJ a) ?_
 simp only [EVA, ↓reduceIte, Nat.reduceEqDiff, Nat.reduceMul, reduceCtorEq, Nat.reduceAdd, Nat.reduceSub, Nat.reduceLeDiff, Nat.reduceLT, Int.reduceToNat, Int.reduceLE, Int.reduceLT, Ze, men]
 have : Op.bytesLess a.data.toList b.data.toList = dc (ltS a b) := by
  unfold ltS
  rw [QE, Bool.decide_eq_true]
 rw [this]
theorem Zl3 (l : List ByteArray) (hl : l.length <= 12) (lvl : Nat) (S : Sto) (id : Oid) (u : Bool) (hw ver : Nat) (hid : id.1 < lvl) (hS : S id = some (.ar 1 (rS l) u hw ver)) (srt : List ByteArray) (hsrt : ∀ x : List ByteArray, x.Perm l -> Zfl e0S ltS x l.length -> x = srt) :
  Sem Go.Proofs.Tryz.prog Jb lvl [.hd id [] 0 l.length none hw, iI 0, iI l.length] S (.tu []) (ZZ S id (.ar 1 (rS srt) u hw ver)) := by
 have hne : id.1 ≠ lvl := by omega
 refine Zf VJ trivial ?_
 simp only [JZ, EVA, ↓reduceIte, Nat.reduceEqDiff, Nat.reduceMul, reduceCtorEq, Nat.reduceAdd, Nat.reduceSub, Nat.reduceLeDiff, Nat.reduceLT, Int.reduceToNat, Int.reduceLE, Int.reduceLT, Ze, men]
 refine ⟨by rw [Zg]; omega, ?_⟩
 refine Z6 (α := List ByteArray) l.length (fun k x => ⟨lvl, [(0, .hd id [] 0 l.length none hw), (1, iI 0), (2, iI l.length), (6, iI ((k + 1 : Nat) : Int))], [], ZZ S id (.ar 1 (rS x) u hw ver)⟩) (fun k x => x.Perm l /\ Zfl e0S ltS x (k + 1)) l ⟨by simp only [ZW hne, EVA, ↓reduceIte, Nat.reduceEqDiff, Nat.reduceMul, reduceCtorEq, Nat.reduceAdd, Nat.reduceSub, Nat.reduceLeDiff, Nat.reduceLT, Int.reduceToNat, Int.reduceLE, Int.reduceLT, Ze, men], by (simp only [XN hS, EVA, ↓reduceIte, Nat.reduceEqDiff, Nat.reduceMul, reduceCtorEq, Nat.reduceAdd, Nat.reduceSub, Nat.reduceLeDiff, Nat.reduceLT, Int.reduceToNat, Int.reduceLE, Int.reduceLT, Ze, men]) <;> rfl⟩ ⟨List.Perm.refl _, fun p q h1 h2 => by omega⟩ ?_
 intro k x hk ⟨hA1, hA2⟩
 have hxl : x.length = l.length := hA1.length_eq
 simp only [EVA, ↓reduceIte, Nat.reduceEqDiff, Nat.reduceMul, reduceCtorEq, Nat.reduceAdd, Nat.reduceSub, Nat.reduceLeDiff, Nat.reduceLT, Int.reduceToNat, Int.reduceLE, Int.reduceLT, Ze, men]
 refine Zu (fun hlt => ?_) (fun hge => ?_)
 ·have hk1 : k + 1 < l.length := by omega
  refine Z6 (α := List ByteArray) (k + 1) (fun m y => ⟨lvl, [(0, .hd id [] 0 l.length none hw), (1, iI 0), (2, iI l.length), (6, iI ((k + 1 : Nat) : Int)), (7, iI ((k + 1 - m : Nat) : Int))], [], ZZ S id (.ar 1 (rS y) u hw ver)⟩) (fun m y => y.Perm l /\ Zgs e0S ltS y (k + 1) (k + 1 - m)) x ⟨by simp only [ZW hne, EVA, ↓reduceIte, Nat.reduceEqDiff, Nat.reduceMul, reduceCtorEq, Nat.reduceAdd, Nat.reduceSub, Nat.reduceLeDiff, Nat.reduceLT, Int.reduceToNat, Int.reduceLE, Int.reduceLT, Ze, men], by (simp only [EVA, ↓reduceIte, Nat.reduceEqDiff, Nat.reduceMul, reduceCtorEq, Nat.reduceAdd, Nat.reduceSub, Nat.reduceLeDiff, Nat.reduceLT, Int.reduceToNat, Int.reduceLE, Int.reduceLT, Ze, men]) <;> rfl⟩ ⟨hA1, fun p q h1 h2 h3 h4 => hA2 p q h1 (by omega), fun q h1 h2 => by omega⟩ ?_
  intro m y hm ⟨hB1, hB2⟩
  have hyl : y.length = l.length := hB1.length_eq
  generalize hj : k + 1 - m = j at hB2 ⊢
  by_cases hj0 : j = 0
  ·subst hj0
   simp only [EVA, ↓reduceIte, Nat.reduceEqDiff, Nat.reduceMul, reduceCtorEq, Nat.reduceAdd, Nat.reduceSub, Nat.reduceLeDiff, Nat.reduceLT, Int.reduceToNat, Int.reduceLE, Int.reduceLT, Ze, men]
   exact ⟨by rw [Zg]; omega, fun h => absurd h hne, Zi y (by omega) rfl ⟨hB1, Zhi hB2⟩⟩
  ·have g1 : (0 : Int) < j := by omega
   have e1 : ((j : Int) - 1) = ((j - 1 : Nat) : Int) := by omega
   have gj := Zgt (e0 := e0S) (c := fun n : ByteArray => [ts n]) (l := y) (i := j) (by omega)
   have gj1 := Zgt (e0 := e0S) (c := fun n : ByteArray => [ts n]) (l := y) (i := j - 1) (by omega)
   have l1 : j < l.length := by omega
   have l2 : j - 1 < l.length := by omega
   simp only [g1, Js hne, Q5, e1, gj, gj1, l1, l2, Nat.zero_add, EVA, ↓reduceIte, Nat.reduceEqDiff, Nat.reduceMul, reduceCtorEq, Nat.reduceAdd, Nat.reduceSub, Nat.reduceLeDiff, Nat.reduceLT, Int.reduceToNat, Int.reduceLE, Int.reduceLT, Ze, men]
   refine ⟨by rw [Zg]; omega, Zb (Zkc (gS y j) (gS y (j - 1))) ?_⟩
   by_cases hlt2 : ltS (gS y j) (gS y (j - 1))
   ·rw [Jn hlt2]
    have s1 := Zou (y := y) (j := j) (v := gS y (j - 1)) (by omega)
    have s2 := Zou (y := y.set j (gS y (j - 1))) (j := j - 1) (v := gS y j) (by rw [List.length_set]; omega)
    have gj2 := Zgt (e0 := e0S) (c := fun n : ByteArray => [ts n]) (l := y.set j (gS y (j - 1))) (i := j - 1) (by rw [List.length_set]; omega)
    simp only [g1, Js hne, VL hne, J8, Q5, ZW hne, e1, gj, gj1, gj2, s1, s2, l1, l2, Nat.zero_add, EVA, ↓reduceIte, Nat.reduceEqDiff, Nat.reduceMul, reduceCtorEq, Nat.reduceAdd, Nat.reduceSub, Nat.reduceLeDiff, Nat.reduceLT, Int.reduceToNat, Int.reduceLE, Int.reduceLT, Ze, men]
    subst hj
    refine ⟨by rw [Zg]; omega, by rw [Zg]; omega, by rw [Zg]; omega, Zi (ZoZ e0S y (k + 1 - m)) (by omega) (by rw [show k + 1 - (m + 1) = k + 1 - m - 1 from by omega]; rfl) ⟨(Zj9 (by omega) (by omega)).trans hB1, ?_⟩⟩
    rw [show k + 1 - (m + 1) = k + 1 - m - 1 from by omega]
    exact ZiI Zl2 hB2 (by omega) (by omega) (by omega) hlt2
   ·rw [Zp hlt2]
    simp only [EVA, ↓reduceIte, Nat.reduceEqDiff, Nat.reduceMul, reduceCtorEq, Nat.reduceAdd, Nat.reduceSub, Nat.reduceLeDiff, Nat.reduceLT, Int.reduceToNat, Int.reduceLE, Int.reduceLT, Ze, men]
    exact ⟨by rw [Zg]; omega, fun h => absurd h hne, Zi y (by omega) rfl ⟨hB1, Zhj ltS_tr hB2 (by omega) (by omega) hlt2⟩⟩
 ·have : k + 1 = l.length \/ k = l.length := by omega
  have hup : Zfl e0S ltS x l.length := fun p q h1 h2 => hA2 p q h1 (by omega)
  have hx := hsrt x hA1 hup
  rw [hx]
theorem Zl4 (l : List ByteArray) (hl : l.length <= 12) (r : Int) (lvl : Nat) (S : Sto) (id : Oid) (u : Bool) (hw ver : Nat) (hid : id.1 < lvl) (hS : S id = some (.ar 1 (rS l) u hw ver)) (srt : List ByteArray) (hsrt : ∀ x : List ByteArray, x.Perm l -> Zfl e0S ltS x l.length -> x = srt) :
  Sem Go.Proofs.Tryz.prog ZV lvl [.hd id [] 0 l.length none hw, iI 0, iI l.length, iI r] S (.tu []) (ZZ S id (.ar 1 (rS srt) u hw ver)) := by
 have hne : id.1 ≠ lvl := by omega
 refine Zf Q8 trivial ?_
 simp only [Yv, EVA, ↓reduceIte, Nat.reduceEqDiff, Nat.reduceMul, reduceCtorEq, Nat.reduceAdd, Nat.reduceSub, Nat.reduceLeDiff, Nat.reduceLT, Int.reduceToNat, Int.reduceLE, Int.reduceLT, Ze, men]
 refine Z6 (α := Unit) 0 (fun _ _ => ⟨lvl, [(0, .hd id [] 0 l.length none hw), (1, iI 0), (2, iI l.length), (3, iI r), (8, iB true), (9, iB true)], [], S⟩) (fun _ _ => True) () ⟨by simp only [ZW hne, EVA, ↓reduceIte, Nat.reduceEqDiff, Nat.reduceMul, reduceCtorEq, Nat.reduceAdd, Nat.reduceSub, Nat.reduceLeDiff, Nat.reduceLT, Int.reduceToNat, Int.reduceLE, Int.reduceLT, Ze, men], by (simp only [EVA, ↓reduceIte, Nat.reduceEqDiff, Nat.reduceMul, reduceCtorEq, Nat.reduceAdd, Nat.reduceSub, Nat.reduceLeDiff, Nat.reduceLT, Int.reduceToNat, Int.reduceLE, Int.reduceLT, Ze, men]) <;> rfl⟩ trivial ?_
 intro _ _ _ _
 have h12 : (l.length : Int) - 0 <= 12 := by omega
 simp only [h12, EVA, ↓reduceIte, Nat.reduceEqDiff, Nat.reduceMul, reduceCtorEq, Nat.reduceAdd, Nat.reduceSub, Nat.reduceLeDiff, Nat.reduceLT, Int.reduceToNat, Int.reduceLE, Int.reduceLT, Ze, men]
 refine ⟨by rw [Zg]; omega, ?_⟩
 simp only [WD]
 refine Qg [] (ZZ S id (.ar 1 (rS srt) u hw ver)) (fun i hi => by unfold ZZ; rw [if_neg (fun e => hne (by rw [<- e]; exact hi))]) (by
  rw [WM hne]
  exact Zl3 l hl (lvl + 1) (ZR lvl [] S) id u hw ver (by omega) (by rw [Js hne]; exact hS) srt hsrt) ?_
 simp only [ZW hne, EVA, ↓reduceIte, Nat.reduceEqDiff, Nat.reduceMul, reduceCtorEq, Nat.reduceAdd, Nat.reduceSub, Nat.reduceLeDiff, Nat.reduceLT, Int.reduceToNat, Int.reduceLE, Int.reduceLT, Ze, men]
theorem Zkd {v : Int} (h0 : 0 <= v) (h : v <= 12) : ∃ r : Int, ∀ (lvl : Nat) (S : Sto), Sem Go.Proofs.Tryz.prog VZ lvl [.tr (.v (.int .u64 v))] S (iI r) S := by
 have : v = 0 \/ v = 1 \/ v = 2 \/ v = 3 \/ v = 4 \/ v = 5 \/ v = 6 \/ v = 7 \/ v = 8 \/ v = 9 \/ v = 10 \/ v = 11 \/ v = 12 := by omega
 rcases this with rfl | rfl | rfl | rfl | rfl | rfl | rfl | rfl | rfl | rfl | rfl | rfl | rfl
 ·refine ⟨0, fun lvl S => Zf ZP trivial ?_⟩
  simp only [ZM, EVA, ↓reduceIte, Nat.reduceEqDiff, Nat.reduceMul, reduceCtorEq, Nat.reduceAdd, Nat.reduceSub, Nat.reduceLeDiff, Nat.reduceLT, Int.reduceToNat, Int.reduceLE, Int.reduceLT, Ze, men]
  simp [Q1, IntKind.min, IntKind.max, IntKind.signed, IntKind.bits]
 ·refine ⟨1, fun lvl S => Zf ZP trivial ?_⟩
  simp only [ZM, EVA, ↓reduceIte, Nat.reduceEqDiff, Nat.reduceMul, reduceCtorEq, Nat.reduceAdd, Nat.reduceSub, Nat.reduceLeDiff, Nat.reduceLT, Int.reduceToNat, Int.reduceLE, Int.reduceLT, Ze, men]
  simp [Q1, IntKind.min, IntKind.max, IntKind.signed, IntKind.bits]
 ·refine ⟨2, fun lvl S => Zf ZP trivial ?_⟩
  simp only [ZM, EVA, ↓reduceIte, Nat.reduceEqDiff, Nat.reduceMul, reduceCtorEq, Nat.reduceAdd, Nat.reduceSub, Nat.reduceLeDiff, Nat.reduceLT, Int.reduceToNat, Int.reduceLE, Int.reduceLT, Ze, men]
  simp [Q1, IntKind.min, IntKind.max, IntKind.signed, IntKind.bits]
 ·refine ⟨2, fun lvl S => Zf ZP trivial ?_⟩
  simp only [ZM, EVA, ↓reduceIte, Nat.reduceEqDiff, Nat.reduceMul, reduceCtorEq, Nat.reduceAdd, Nat.reduceSub, Nat.reduceLeDiff, Nat.reduceLT, Int.reduceToNat, Int.reduceLE, Int.reduceLT, Ze, men]
  simp [Q1, IntKind.min, IntKind.max, IntKind.signed, IntKind.bits]
 ·refine ⟨3, fun lvl S => Zf ZP trivial ?_⟩
  simp only [ZM, EVA, ↓reduceIte, Nat.reduceEqDiff, Nat.reduceMul, reduceCtorEq, Nat.reduceAdd, Nat.reduceSub, Nat.reduceLeDiff, Nat.reduceLT, Int.reduceToNat, Int.reduceLE, Int.reduceLT, Ze, men]
  simp [Q1, IntKind.min, IntKind.max, IntKind.signed, IntKind.bits]
 ·refine ⟨3, fun lvl S => Zf ZP trivial ?_⟩
  simp only [ZM, EVA, ↓reduceIte, Nat.reduceEqDiff, Nat.reduceMul, reduceCtorEq, Nat.reduceAdd, Nat.reduceSub, Nat.reduceLeDiff, Nat.reduceLT, Int.reduceToNat, Int.reduceLE, Int.reduceLT, Ze, men]
  simp [Q1, IntKind.min, IntKind.max, IntKind.signed, IntKind.bits]
 ·refine ⟨3, fun lvl S => Zf ZP trivial ?_⟩
  simp only [ZM, EVA, ↓reduceIte, Nat.reduceEqDiff, Nat.reduceMul, reduceCtorEq, Nat.reduceAdd, Nat.reduceSub, Nat.reduceLeDiff, Nat.reduceLT, Int.reduceToNat, Int.reduceLE, Int.reduceLT, Ze, men]
  simp [Q1, IntKind.min, IntKind.max, IntKind.signed, IntKind.bits]
 ·refine ⟨3, fun lvl S => Zf ZP trivial ?_⟩
  simp only [ZM, EVA, ↓reduceIte, Nat.reduceEqDiff, Nat.reduceMul, reduceCtorEq, Nat.reduceAdd, Nat.reduceSub, Nat.reduceLeDiff, Nat.reduceLT, Int.reduceToNat, Int.reduceLE, Int.reduceLT, Ze, men]
  simp [Q1, IntKind.min, IntKind.max, IntKind.signed, IntKind.bits]
 ·refine ⟨4, fun lvl S => Zf ZP trivial ?_⟩
  simp only [ZM, EVA, ↓reduceIte, Nat.reduceEqDiff, Nat.reduceMul, reduceCtorEq, Nat.reduceAdd, Nat.reduceSub, Nat.reduceLeDiff, Nat.reduceLT, Int.reduceToNat, Int.reduceLE, Int.reduceLT, Ze, men]
  simp [Q1, IntKind.min, IntKind.max, IntKind.signed, IntKind.bits]
 ·refine ⟨4, fun lvl S => Zf ZP trivial ?_⟩
  simp only [ZM, EVA, ↓reduceIte, Nat.reduceEqDiff, Nat.reduceMul, reduceCtorEq, Nat.reduceAdd, Nat.reduceSub, Nat.reduceLeDiff, Nat.reduceLT, Int.reduceToNat, Int.reduceLE, Int.reduceLT, Ze, men]
  simp [Q1, IntKind.min, IntKind.max, IntKind.signed, IntKind.bits]
 ·refine ⟨4, fun lvl S => Zf ZP trivial ?_⟩
  simp only [ZM, EVA, ↓reduceIte, Nat.reduceEqDiff, Nat.reduceMul, reduceCtorEq, Nat.reduceAdd, Nat.reduceSub, Nat.reduceLeDiff, Nat.reduceLT, Int.reduceToNat, Int.reduceLE, Int.reduceLT, Ze, men]
  simp [Q1, IntKind.min, IntKind.max, IntKind.signed, IntKind.bits]
 ·refine ⟨4, fun lvl S => Zf ZP trivial ?_⟩
  simp only [ZM, EVA, ↓reduceIte, Nat.reduceEqDiff, Nat.reduceMul, reduceCtorEq, Nat.reduceAdd, Nat.reduceSub, Nat.reduceLeDiff, Nat.reduceLT, Int.reduceToNat, Int.reduceLE, Int.reduceLT, Ze, men]
  simp [Q1, IntKind.min, IntKind.max, IntKind.signed, IntKind.bits]
 ·refine ⟨4, fun lvl S => Zf ZP trivial ?_⟩
  simp only [ZM, EVA, ↓reduceIte, Nat.reduceEqDiff, Nat.reduceMul, reduceCtorEq, Nat.reduceAdd, Nat.reduceSub, Nat.reduceLeDiff, Nat.reduceLT, Int.reduceToNat, Int.reduceLE, Int.reduceLT, Ze, men]
  simp [Q1, IntKind.min, IntKind.max, IntKind.signed, IntKind.bits]
theorem Zke {v : Int} (h0 : 0 <= v) (h : v <= 12) : ∃ r : Int, ∀ (lvl : Nat) (S : Sto), Sem Go.Proofs.Tryz.prog Ve lvl [.tr (.v (.int .u64 v))] S (iI r) S := by
 obtain ⟨r, hr⟩ := Zkd h0 h
 refine ⟨r, fun lvl S => Zf Zdi trivial ?_⟩
 simp only [Di, EVA, ↓reduceIte, Nat.reduceEqDiff, Nat.reduceMul, reduceCtorEq, Nat.reduceAdd, Nat.reduceSub, Nat.reduceLeDiff, Nat.reduceLT, Int.reduceToNat, Int.reduceLE, Int.reduceLT, Ze, men]
 refine Zb hr ?_
 simp only [EVA, ↓reduceIte, Nat.reduceEqDiff, Nat.reduceMul, reduceCtorEq, Nat.reduceAdd, Nat.reduceSub, Nat.reduceLeDiff, Nat.reduceLT, Int.reduceToNat, Int.reduceLE, Int.reduceLT, Ze, men]
theorem Zkf (l : List ByteArray) (hl : l.length <= 12) (lvl : Nat) (S : Sto) (id : Oid) (u : Bool) (hw ver : Nat) (hid : id.1 < lvl) (hS : S id = some (.ar 1 (rS l) u hw ver)) (srt : List ByteArray) (hsrt : ∀ x : List ByteArray, x.Perm l -> Zfl e0S ltS x l.length -> x = srt) :
  Sem Go.Proofs.Tryz.prog ZX lvl [.hd id [] 0 l.length none hw] S (.tu []) (ZZ S id (.ar 1 (rS srt) u hw ver)) := by
 have hne : id.1 ≠ lvl := by omega
 obtain ⟨r, hr⟩ := Zke (v := (l.length : Int)) (by omega) (by omega)
 refine Zf X1 trivial ?_
 simp only [Y0, EVA, ↓reduceIte, Nat.reduceEqDiff, Nat.reduceMul, reduceCtorEq, Nat.reduceAdd, Nat.reduceSub, Nat.reduceLeDiff, Nat.reduceLT, Int.reduceToNat, Int.reduceLE, Int.reduceLT, Ze, men]
 refine ⟨⟨by show (0 : Int) <= l.length; omega, by show (l.length : Int) <= 18446744073709551615; omega⟩, Zb hr ?_⟩
 simp only [EVA, ↓reduceIte, Nat.reduceEqDiff, Nat.reduceMul, reduceCtorEq, Nat.reduceAdd, Nat.reduceSub, Nat.reduceLeDiff, Nat.reduceLT, Int.reduceToNat, Int.reduceLE, Int.reduceLT, Ze, men]
 refine Qg [] (ZZ S id (.ar 1 (rS srt) u hw ver)) (fun i hi => by unfold ZZ; rw [if_neg (fun e => hne (by rw [<- e]; exact hi))]) (by
  rw [WM hne]
  exact Zl4 l hl r (lvl + 1) (ZR lvl [] S) id u hw ver (by omega) (by rw [Js hne]; exact hS) srt hsrt) ?_
 simp only [ZW hne, EVA, ↓reduceIte, Nat.reduceEqDiff, Nat.reduceMul, reduceCtorEq, Nat.reduceAdd, Nat.reduceSub, Nat.reduceLeDiff, Nat.reduceLT, Int.reduceToNat, Int.reduceLE, Int.reduceLT, Ze, men]
theorem Zgv (l : List ByteArray) (hl : l.length <= 4294967290) (lvl : Nat) (S : Sto) (id : Oid) (u : Bool) (hw ver : Nat) (hid : id.1 < lvl) (hS : S id = some (.ar 1 (rS l) u hw ver)) :
  ∃ v2, Sem Go.Proofs.Tryz.prog JA lvl [.hd id [] 0 l.length none hw] S (.hd id [] 0 (cz (gS l) l.length).length none hw) (ZZ S id (.ar 1 (rS (cz (gS l) l.length)) u hw v2)) := by
 have hne : id.1 ≠ lvl := by omega
 by_cases hd : ∀ m, 0 < m -> m < l.length -> gS l m ≠ gS l (m - 1)
 ·refine ⟨ver, ?_⟩
  rw [Zfm (Nat.le_refl _) hd, List.take_length, XN hS]
  refine Zf Yu hid ?_
  simp only [JO, EVA, ↓reduceIte, Nat.reduceEqDiff, Nat.reduceMul, reduceCtorEq, Nat.reduceAdd, Nat.reduceSub, Nat.reduceLeDiff, Nat.reduceLT, Int.reduceToNat, Int.reduceLE, Int.reduceLT, Ze, men]
  by_cases h2 : (l.length : Int) < 2
  ·rw [if_pos h2]
   simp only [Zg6 hne, EVA, ↓reduceIte, Nat.reduceEqDiff, Nat.reduceMul, reduceCtorEq, Nat.reduceAdd, Nat.reduceSub, Nat.reduceLeDiff, Nat.reduceLT, Int.reduceToNat, Int.reduceLE, Int.reduceLT, Ze, men]
  rw [if_neg h2]
  refine Z6 (α := Unit) l.length (fun k _ => ⟨lvl, [(0, .hd id [] 0 l.length none hw), (3, iI ((k + 1 : Nat) : Int))], [], S⟩) (fun k _ => k + 1 <= l.length) () ⟨by simp only [ZW hne, EVA, ↓reduceIte, Nat.reduceEqDiff, Nat.reduceMul, reduceCtorEq, Nat.reduceAdd, Nat.reduceSub, Nat.reduceLeDiff, Nat.reduceLT, Int.reduceToNat, Int.reduceLE, Int.reduceLT, Ze, men], by (simp only [EVA, ↓reduceIte, Nat.reduceEqDiff, Nat.reduceMul, reduceCtorEq, Nat.reduceAdd, Nat.reduceSub, Nat.reduceLeDiff, Nat.reduceLT, Int.reduceToNat, Int.reduceLE, Int.reduceLT, Ze, men]) <;> rfl⟩ (by omega) ?_
  intro k _ hk hA
  simp only [EVA, ↓reduceIte, Nat.reduceEqDiff, Nat.reduceMul, reduceCtorEq, Nat.reduceAdd, Nat.reduceSub, Nat.reduceLeDiff, Nat.reduceLT, Int.reduceToNat, Int.reduceLE, Int.reduceLT, Ze, men]
  refine Zu (fun hlt => ?_) (fun hge => ?_)
  ·have gj := Zgt (e0 := e0S) (c := fun n : ByteArray => [ts n]) (l := l) (i := k + 1) (by omega)
   have gj1 := Zgt (e0 := e0S) (c := fun n : ByteArray => [ts n]) (l := l) (i := k) (by omega)
   have l1 : k + 1 < l.length := by omega
   have l2 : k < l.length := by omega
   have hx := hd (k + 1) (by omega) l1
   rw [Nat.add_sub_cancel] at hx
   have e1 : (((k + 1 : Nat) : Int) - 1) = (k : Int) := by omega
   simp only [Js hne, hS, e1, gj, gj1, l1, l2, hx, Nat.zero_add, ZW hne, EVA, ↓reduceIte, Nat.reduceEqDiff, Nat.reduceMul, reduceCtorEq, Nat.reduceAdd, Nat.reduceSub, Nat.reduceLeDiff, Nat.reduceLT, Int.reduceToNat, Int.reduceLE, Int.reduceLT, Ze, men]
   exact ⟨by rw [Zg]; omega, by rw [Zg]; omega, Zi () (by omega) rfl (by omega)⟩
  ·simp only [Zg6 hne, EVA, ↓reduceIte, Nat.reduceEqDiff, Nat.reduceMul, reduceCtorEq, Nat.reduceAdd, Nat.reduceSub, Nat.reduceLeDiff, Nat.reduceLT, Int.reduceToNat, Int.reduceLE, Int.reduceLT, Ze, men]
 ·refine ⟨ver + 1, ?_⟩
  refine Zf Yu hid ?_
  simp only [JO, EVA, ↓reduceIte, Nat.reduceEqDiff, Nat.reduceMul, reduceCtorEq, Nat.reduceAdd, Nat.reduceSub, Nat.reduceLeDiff, Nat.reduceLT, Int.reduceToNat, Int.reduceLE, Int.reduceLT, Ze, men]
  by_cases h2 : (l.length : Int) < 2
  ·exact absurd (fun m h0 h1 => by omega) hd
  rw [if_neg h2]
  refine Z6 (α := Unit) l.length (fun k _ => ⟨lvl, [(0, .hd id [] 0 l.length none hw), (3, iI ((k + 1 : Nat) : Int))], [], S⟩) (fun k _ => k + 1 <= l.length /\ ∀ m, 0 < m -> m < k + 1 -> gS l m ≠ gS l (m - 1)) () ⟨by simp only [ZW hne, EVA, ↓reduceIte, Nat.reduceEqDiff, Nat.reduceMul, reduceCtorEq, Nat.reduceAdd, Nat.reduceSub, Nat.reduceLeDiff, Nat.reduceLT, Int.reduceToNat, Int.reduceLE, Int.reduceLT, Ze, men], by (simp only [EVA, ↓reduceIte, Nat.reduceEqDiff, Nat.reduceMul, reduceCtorEq, Nat.reduceAdd, Nat.reduceSub, Nat.reduceLeDiff, Nat.reduceLT, Int.reduceToNat, Int.reduceLE, Int.reduceLT, Ze, men]) <;> rfl⟩ ⟨by omega, fun m h0 h1 => by omega⟩ ?_
  intro k _ hk ⟨hA, hB⟩
  simp only [EVA, ↓reduceIte, Nat.reduceEqDiff, Nat.reduceMul, reduceCtorEq, Nat.reduceAdd, Nat.reduceSub, Nat.reduceLeDiff, Nat.reduceLT, Int.reduceToNat, Int.reduceLE, Int.reduceLT, Ze, men]
  refine Zu (fun hlt => ?_) (fun hge => ?_)
  ·have gj := Zgt (e0 := e0S) (c := fun n : ByteArray => [ts n]) (l := l) (i := k + 1) (by omega)
   have gj1 := Zgt (e0 := e0S) (c := fun n : ByteArray => [ts n]) (l := l) (i := k) (by omega)
   have l1 : k + 1 < l.length := by omega
   have l2 : k < l.length := by omega
   have e1 : (((k + 1 : Nat) : Int) - 1) = (k : Int) := by omega
   by_cases hx : gS l (k + 1) = gS l k
   ·have hc1 := Zfm (l := l) (n := k + 1) (by omega) hB
    have hc2 : cz (gS l) (k + 1 + 1) = cz (gS l) (k + 1) := Zot (by omega) (by rw [Nat.add_sub_cancel]; exact hx)
    simp only [Js hne, hS, e1, gj, gj1, l1, l2, hx, Nat.zero_add, ZW hne, EVA, ↓reduceIte, Nat.reduceEqDiff, Nat.reduceMul, reduceCtorEq, Nat.reduceAdd, Nat.reduceSub, Nat.reduceLeDiff, Nat.reduceLT, Int.reduceToNat, Int.reduceLE, Int.reduceLT, Ze, men]
    refine ⟨by rw [Zg]; omega, by omega, ZvP hne hS, ?_⟩
    refine Z6 (α := Nat × List ByteArray) l.length (fun m x => ⟨lvl, [(0, .hd id [] 0 l.length none hw), (3, iI (x.1 : Int)), (4, .hd id [] (k + 1) (l.length - (k + 1)) none hw), (5, iI ((m + 1 : Nat) : Int))], [], ZZ S id (.ar 1 (rS x.2) u hw ver)⟩) (fun m x => k + 1 + m + 1 <= l.length /\ x.2.length = l.length /\ x.1 = (cz (gS l) (k + 1 + m + 1)).length /\ x.2.take x.1 = cz (gS l) (k + 1 + m + 1) /\ x.1 <= k + 1 + m /\ ∀ q, k + 1 + m <= q -> gS x.2 q = gS l q) (k + 1, l) ⟨by simp only [ZW hne, EVA, ↓reduceIte, Nat.reduceEqDiff, Nat.reduceMul, reduceCtorEq, Nat.reduceAdd, Nat.reduceSub, Nat.reduceLeDiff, Nat.reduceLT, Int.reduceToNat, Int.reduceLE, Int.reduceLT, Ze, men], by (simp only [XN hS, EVA, ↓reduceIte, Nat.reduceEqDiff, Nat.reduceMul, reduceCtorEq, Nat.reduceAdd, Nat.reduceSub, Nat.reduceLeDiff, Nat.reduceLT, Int.reduceToNat, Int.reduceLE, Int.reduceLT, Ze, men]) <;> rfl⟩ ⟨by omega, rfl, by rw [Nat.add_zero, hc2, hc1, List.length_take]; omega, by rw [Nat.add_zero, hc2, hc1], by omega, fun _ _ => rfl⟩ ?_
    intro m ⟨i, y⟩ hm ⟨hm1, hy, hi, ht, hle, hq⟩
    dsimp only at hy hi ht hle hq
    simp only [EVA, ↓reduceIte, Nat.reduceEqDiff, Nat.reduceMul, reduceCtorEq, Nat.reduceAdd, Nat.reduceSub, Nat.reduceLeDiff, Nat.reduceLT, Int.reduceToNat, Int.reduceLE, Int.reduceLT, Ze, men]
    refine Zu (fun hlt2 => ?_) (fun hge2 => ?_)
    ·have b1 : k + 1 + (m + 1) < l.length := by omega
     have b2 : m + 1 < l.length - (k + 1) := by omega
     have b3 : m < l.length - (k + 1) := by omega
     have gy := Zgt (e0 := e0S) (c := fun n : ByteArray => [ts n]) (l := y) (i := k + 1 + (m + 1)) (by omega)
     have gy1 := Zgt (e0 := e0S) (c := fun n : ByteArray => [ts n]) (l := y) (i := k + 1 + m) (by omega)
     have q1 := hq (k + 1 + (m + 1)) (by omega)
     have q2 := hq (k + 1 + m) (by omega)
     have e2 : (((m + 1 : Nat) : Int) - 1) = (m : Int) := by omega
     have b4 : i < l.length := by omega
     by_cases hx2 : gS l (k + 1 + (m + 1)) = gS l (k + 1 + m)
     ·have hc3 : cz (gS l) (k + 1 + (m + 1) + 1) = cz (gS l) (k + 1 + m + 1) := Zot (by omega) hx2
      simp only [Js hne, Q5, e2, gy, gy1, q1, q2, b2, b3, hx2, ZW hne, EVA, ↓reduceIte, Nat.reduceEqDiff, Nat.reduceMul, reduceCtorEq, Nat.reduceAdd, Nat.reduceSub, Nat.reduceLeDiff, Nat.reduceLT, Int.reduceToNat, Int.reduceLE, Int.reduceLT, Ze, men]
      exact ⟨by rw [Zg]; omega, by rw [Zg]; omega, Zi (i, y) (by omega) rfl ⟨by omega, hy, by rw [show k + 1 + (m + 1) + 1 = k + 1 + (m + 1) + 1 from rfl, hc3]; exact hi, by rw [hc3]; exact ht, by show i <= k + 1 + (m + 1); omega, fun q hqq => hq q (by omega)⟩⟩
     ·have hc3 : cz (gS l) (k + 1 + (m + 1) + 1) = cz (gS l) (k + 1 + m + 1) ++ [gS l (k + 1 + (m + 1))] := ZvO hx2
      have s1 := Zou (y := y) (j := i) (v := gS l (k + 1 + (m + 1))) (by omega)
      have gy0 := Zgt (e0 := e0S) (c := fun n : ByteArray => [ts n]) (l := y) (i := i) (by omega)
      simp only [Js hne, VL hne, J8, Q5, e2, gy, gy0, gy1, q1, q2, b2, b3, b4, hx2, s1, Nat.zero_add, ZW hne, EVA, ↓reduceIte, Nat.reduceEqDiff, Nat.reduceMul, reduceCtorEq, Nat.reduceAdd, Nat.reduceSub, Nat.reduceLeDiff, Nat.reduceLT, Int.reduceToNat, Int.reduceLE, Int.reduceLT, Ze, men]
      exact ⟨by rw [Zg]; omega, by rw [Zg]; omega, by rw [Zg]; omega, Zi (i + 1, y.set i (gS l (k + 1 + (m + 1)))) (by omega) rfl ⟨by omega, by rw [List.length_set]; exact hy, by rw [hc3, List.length_append, <- hi]; rfl, by rw [Zfk (by omega), ht, hc3], by show i + 1 <= k + 1 + (m + 1); omega, fun q hqq => by
       show gx e0S (y.set i (gS l (k + 1 + (m + 1)))) q = _
       rw [Zj8 (by omega), if_neg (by omega)]
       exact hq q (by omega)⟩⟩
    ·have en : k + 1 + m + 1 = l.length := by omega
     rw [en] at hi ht
     refine ⟨by omega, ZvP hne (Q5 ..), ?_⟩
     have tk : (rS y).take i = rS (cz (gS l) l.length) := by rw [<- ht]; exact (List.map_take ..).symm
     simp only [Js hne, VL hne, J8, Q5, tk, List.length_map, hy, EVA, ↓reduceIte, Nat.reduceEqDiff, Nat.reduceMul, reduceCtorEq, Nat.reduceAdd, Nat.reduceSub, Nat.reduceLeDiff, Nat.reduceLT, Int.reduceToNat, Int.reduceLE, Int.reduceLT, Ze, men]
     refine ⟨by omega, by omega, by omega, by omega, ZvP hne (Q5 ..), ?_⟩
     simp only [Zg6 hne, Nat.sub_zero, hi, EVA, ↓reduceIte, Nat.reduceEqDiff, Nat.reduceMul, reduceCtorEq, Nat.reduceAdd, Nat.reduceSub, Nat.reduceLeDiff, Nat.reduceLT, Int.reduceToNat, Int.reduceLE, Int.reduceLT, Ze, men]
   ·simp only [Js hne, hS, e1, gj, gj1, l1, l2, hx, Nat.zero_add, ZW hne, EVA, ↓reduceIte, Nat.reduceEqDiff, Nat.reduceMul, reduceCtorEq, Nat.reduceAdd, Nat.reduceSub, Nat.reduceLeDiff, Nat.reduceLT, Int.reduceToNat, Int.reduceLE, Int.reduceLT, Ze, men]
    exact ⟨by rw [Zg]; omega, by rw [Zg]; omega, Zi () (by omega) rfl ⟨by omega, fun m h0 h1 => by
     by_cases e : m = k + 1
     ·subst e; exact hx
     ·exact hB m h0 (by omega)⟩⟩
  ·exact absurd (fun m h0 h1 => hB m h0 (by omega)) hd
end Go.Fd

/-
  SORTING STRINGS, ANY NUMBER OF THEM, BY THE GUIDE'S CONTRACT. Own work.
-/
namespace Go.Fd
set_option maxRecDepth 20000
theorem ZrL : ∀ (x y : List UInt8), x < y ↔ Op.bytesLess x y = true
 | [], [] => by simp [Op.bytesLess]
 | [], _ :: _ => by simp [Op.bytesLess]
 | _ :: _, [] => by simp [Op.bytesLess]
 | a :: x, b :: y => by
  rw [List.cons_lt_cons_iff, ZrL x y]
  simp [Op.bytesLess]
abbrev bsL (s : ByteArray) : List UInt8 := s.data.toList
abbrev lbS (l : List UInt8) : ByteArray := ⟨l.toArray⟩
theorem ZrM {s : ByteArray} : lbS (bsL s) = s := by simp [lbS, bsL]
theorem ZmL {l : List ByteArray} : Zk2 Go.Proofs.encStr (l.map bsL) = rS l := by
 simp only [Zk2, List.map_map]
 refine List.map_congr_left fun s _ => ?_
 show [Tr.v (Value.string (lbS (bsL s)))] = _
 rw [ZrM]
theorem ZrN (l : List ByteArray) : (l.map bsL).mergeSort (fun x y => decide (x <= y)) = (Zi5 ltS l).map bsL := by
 have e1 : ((l.map bsL).mergeSort (fun x y => decide (x <= y))).map lbS = Zi5 ltS l := by
  refine Zhk ordsS ?_ (Zhl ordsS) (List.Perm.trans ?_ srtG_perm.symm)
  ·rw [List.pairwise_map]
   have h := List.pairwise_mergeSort (le := fun x y : List UInt8 => decide (x <= y)) (fun a b c h1 h2 => by simp only [decide_eq_true_eq] at *; exact List.le_trans h1 h2) (fun a b => by simp only [Bool.or_eq_true, decide_eq_true_eq]; exact List.le_total a b) (l.map bsL)
   refine h.imp fun {x y} h => ?_
   simp only [decide_eq_true_eq] at h
   intro hlt
   exact h ((ZrL y x).2 hlt)
  ·have h := (List.mergeSort_perm (l.map bsL) (fun x y => decide (x <= y))).map lbS
   rw [List.map_map] at h
   have : l.map (lbS ∘ bsL) = l := by
    rw [show (lbS ∘ bsL) = id from funext fun s => ZrM]
    exact List.map_id l
   rwa [this] at h
 rw [<- e1, List.map_map]
 rw [show (bsL ∘ lbS) = id from funext fun s => by simp [bsL, lbS]]
 exact (List.map_id _).symm
theorem Zfn (l : List ByteArray) (hl : l.length <= 4294967296) (lvl : Nat) (S : Sto) (id : Oid) (u : Bool) (hw ver : Nat) (hid : id.1 < lvl) (hS : S id = some (.ar 1 (rS l) u hw ver)) :
  Sem Go.Proofs.Tryz.prog ZX lvl [.hd id [] 0 l.length none hw] S (.tu []) (ZZ S id (.ar 1 (rS (Zi5 ltS l)) u hw ver)) := by
 by_cases hs : l.length <= 12
 ·exact Zkf l hs lvl S id u hw ver hid hS _ fun x hp hu => Zl1 ordsS hp hu
 ·have h := Zgd (P := Go.Proofs.Tryz.prog) (f := ZX) (lvl := lvl) (S := S) (id := id) (xs := l.map bsL) (ys := (Zi5 ltS l).map bsL) (enc := Go.Proofs.encStr) (u := u) (hw := hw) (ver := ver) (Zfi (by kernel_rfl)) hid (by rw [ZmL]; exact hS) (fun _ => rfl) (by rw [List.length_map, List.length_map, srtG_perm.length_eq])
   (fun h => absurd (congrArg List.length h) (by rw [List.length_map]; show ¬ l.length = 0; omega))
   (fun _ b cap w hH hb => by
    have := Go.Proofs.Any.slices_Sort_string Go.Proofs.Tryz.lays190 b 0 cap (l.map bsL) w hH hb (by rw [List.length_map]; omega)
    rw [ZrN] at this
    exact this)
  rw [ZmL, List.length_map] at h
  exact h
end Go.Fd

/-
  CHILDREN, POINTS, REDEXES, BOTH SIDES. Own work.
-/
namespace Go.Fd
set_option maxRecDepth 20000
def ZvQ (l : Int) (i : Nat) (ls : List Int) : Nat -> List (Int × Int)
 | 0 => []
 | k + 1 => if g0 ls k = l then ZvQ l i ls k ++ [((i : Int), (k : Int))] else ZvQ l i ls k
def Zkg (b : TBigraph) (j : Nat) : List Int := ((b.nodes[j]?).map TNode.links).getD []
def ZmM (b : TBigraph) (l : Int) : Nat -> List (Int × Int)
 | 0 => []
 | i + 1 => ZmM b l i ++ ZvQ l i (Zkg b i) (Zkg b i).length
def ports (b : TBigraph) (l : Int) : List (Int × Int) := ZmM b l b.nodes.length
def ZxC (b : TBigraph) (j : Nat) : Int := ((b.inner[j]?).map TWire.link).getD 0
def ZxD (b : TBigraph) (j : Nat) : ByteArray := ((b.inner[j]?).map TWire.name).getD ⟨#[]⟩
def Zov (b : TBigraph) (l : Int) : Nat -> List ByteArray
 | 0 => []
 | j + 1 => if ZxC b j = l then Zov b l j ++ [ZxD b j] else Zov b l j
def ZxE (b : TBigraph) (l : Int) : List ByteArray := Zov b l b.inner.length
end Go.Fd

/-
  REDEXES, BOTH SIDES. Own work.
-/
namespace Go.Fd
set_option maxRecDepth 20000
def idle (b : TBigraph) (l : Int) : Prop := (ports b l).length = 0 /\ (ZxE b l).length = 0
structure small (b : TBigraph) : Prop where
 nodes : b.nodes.length <= 8
 links : ∀ x ∈ b.nodes, x.links.length <= 1000
 sites : b.sites.length <= 4
 outer : b.outer.length <= 16
 inner : b.inner.length <= 16
 roots : 0 <= b.roots /\ b.roots <= 4
 edges : 0 <= b.edges /\ b.edges <= 8
theorem ZiK {sig : List TControl} (h : Zcn sig) (c : Int) : Zap sig c <= 3 := by
 unfold Zap
 cases e : sig[c.toNat]? with
 | none => decide
 | some x =>
  obtain ⟨hl, rfl⟩ := List.getElem?_eq_some_iff.1 e
  exact ((h.1 _ hl).1).2.1.2
theorem bigOK.small {sig : List TControl} {b : TBigraph} (h : bigOK sig b) : small b :=
 ⟨h.nodesL, fun x hx => by
  obtain ⟨k, hk, rfl⟩ := List.getElem_of_mem hx
  have h1 := (h.nodes k hk).ports
  have h2 := ZiK h.sg b.nodes[k].control
  omega, h.sitesL, h.outer.2, by have := h.inn.2; rw [Xn] at this; exact this, h.roots, h.edges⟩
end Go.Fd

/-
  SORTINGS, BOTH SIDES: VALID, FREE, FINER. Own work.
-/
namespace Go.Fd
set_option maxRecDepth 20000
def UF (n : Nat) : List Int := (List.range n).map fun i : Nat => (i : Int)
theorem Q0 {n : Nat} : (UF n).length = n := by simp [UF]
theorem Dm {es : Row} {n : Nat} (h : es.length = n) : cut es 0 n = es := by
 simp only [cut, List.drop_zero]
 exact List.take_of_length_le (by omega)
end Go.Fd

/-
  LINKS THAT ARE TURNED: WHAT COMPOSITION COMPUTES, IN PLAIN TERMS. Own work.
-/
namespace Go.Fd
set_option maxRecDepth 20000
def ZdI (b : TBigraph) (l : Int) : Int × ByteArray := if l < b.edges then (l, e0S) else (0, gS b.outer (l - b.edges).toNat)
def ixS (l : List ByteArray) (s : ByteArray) : Int := ixF (fun x => decide (s = x)) l 0
def Zek (b : TBigraph) (e : Int) (o : List ByteArray) (T : Int × ByteArray -> Int × ByteArray) (l : Int) : Int := if (T (ZdI b l)).2 = e0S then (T (ZdI b l)).1 else e + ixS o (T (ZdI b l)).2
def Zkh (b : TBigraph) (F : Int -> Int) (e : Int) (o : List ByteArray) : TBigraph := ⟨b.roots, b.nodes.map fun x => ⟨x.control, x.parent, x.links.map F⟩, b.sites, e, o, b.inner.map fun w => ⟨w.name, F w.link⟩⟩
theorem Zif {α : Type} {f : α -> Bool} : ∀ {l : List α} {j : Int}, (ixF f l j = -1 /\ ∀ x ∈ l, f x = false) \/ ∃ i, ∃ h : i < l.length, ixF f l j = j + i /\ (∀ x ∈ l.take i, f x = false) /\ f l[i] = true
 | [], j => .inl ⟨rfl, fun _ h => by cases h⟩
 | x :: r, j => by
  rw [Up]
  cases hx : f x with
  | true => exact .inr ⟨0, by simp, by simp, by simp, hx⟩
  | false =>
   rcases Zif (f := f) (l := r) (j := j + 1) with ⟨h1, h2⟩ | ⟨i, h, h1, h2, h3⟩
   ·exact .inl ⟨by simp [h1], fun y hy => by
     rcases List.mem_cons.1 hy with rfl | hy
     ·exact hx
     ·exact h2 y hy⟩
   ·refine .inr ⟨i + 1, by simpa using h, by simp only [Bool.false_eq_true, if_false, h1]; omega, fun y hy => ?_, by simpa using h3⟩
    rw [List.take_succ_cons] at hy
    rcases List.mem_cons.1 hy with rfl | hy
    ·exact hx
    ·exact h2 y hy
theorem Zig {α : Type} {f : α -> Bool} : ∀ {l : List α} {j : Int}, (∀ x ∈ l, f x = false) -> ixF f l j = -1
 | [], _, _ => rfl
 | x :: r, j, h => by
  rw [Up, h x (by simp), if_neg (by decide)]
  exact Zig fun y hy => h y (by simp [hy])
theorem ZmN {l : List ByteArray} {s : ByteArray} (h : s ∉ l) : ixS l s = -1 := Zig fun x hx => by
 simp only [decide_eq_false_iff_not]
 intro e
 exact h (e ▸ hx)
theorem ixS_nn {l : List ByteArray} {s : ByteArray} : 0 <= ixS l s ↔ s ∈ l := by
 unfold ixS
 rw [Zfg (Int.le_refl 0)]
 simp
theorem ZrO {l : List ByteArray} {s : ByteArray} (h : s ∈ l) : ixS l s < l.length := by
 rcases Zif (f := fun x => decide (s = x)) (l := l) (j := 0) with ⟨_, h2⟩ | ⟨i, hi, h1, _⟩
 ·have := h2 s h
  simp at this
 ·unfold ixS
  rw [h1]; omega
theorem Zl5 {l : List ByteArray} (h : V0 l) : l.Pairwise ltS := by
 have key : ∀ d i (hi : i + d + 1 < l.length), ltS (l[i]'(by omega)) (l[i + d + 1]'hi) := fun d => by
  induction d with
  | zero =>
   intro i hi
   exact (h.1 (i + 0 + 1) hi).2 (by omega)
  | succ d ih =>
   intro i hi
   have h1 := ih i (by omega)
   have h2 := (h.1 (i + (d + 1) + 1) hi).2 (by omega)
   exact ordsS.tr _ _ _ h1 h2
 refine List.pairwise_iff_getElem.2 fun i j hi hj hij => ?_
 have := key (j - i - 1) i (by omega)
 simp only [show i + (j - i - 1) + 1 = j from by omega] at this
 exact this
theorem Zfo {l : List ByteArray} (h : V0 l) {s : ByteArray} (hs : s ∈ l) : s ≠ e0S := by
 obtain ⟨i, hi, rfl⟩ := List.getElem_of_mem hs
 intro e
 have := (h.1 i hi).1.2.1
 rw [e] at this
 exact absurd this (by decide)
theorem Zgw {b : TBigraph} {l : Int} (h : l < b.edges) : ZdI b l = (l, e0S) := if_pos h
theorem Zgx {b : TBigraph} {i : Nat} (h : i < b.outer.length) : ZdI b (b.edges + i) = (0, b.outer[i]) := by
 unfold ZdI
 rw [if_neg (by omega), show (b.edges + (i : Int) - b.edges).toNat = i from by omega]
 rw [show gS b.outer i = b.outer[i] from Dl h]
theorem Vg {b : TBigraph} {l : Int} (h : Jd b l) : (0 <= l /\ l < b.edges) \/ ∃ i : Nat, ∃ _ : i < b.outer.length, l = b.edges + i := by
 unfold Jd at h
 by_cases hl : l < b.edges
 ·exact .inl ⟨h.1, hl⟩
 ·exact .inr ⟨(l - b.edges).toNat, by omega, by omega⟩
def Zi6 (b : TBigraph) (f : Int -> Int) (g : ByteArray -> Int) : List Int := (UF b.edges.toNat).map f ++ b.outer.map g
theorem Zel {b : TBigraph} {f : Int -> Int} {g : ByteArray -> Int} {l : Int} (h0 : 0 <= l) (h : l < b.edges) : g0 (Zi6 b f g) l.toNat = f l := by
 have hl : l.toNat < (UF b.edges.toNat).length := by rw [Q0]; omega
 have hx : l.toNat < ((UF b.edges.toNat).map f).length := by rw [List.length_map]; exact hl
 show (Zi6 b f g).getD l.toNat 0 = _
 unfold Zi6
 rw [List.getD_eq_getElem?_getD, List.getElem?_append_left hx, List.getElem?_map]
 simp [UF, List.getElem?_map, List.getElem?_range (show l.toNat < b.edges.toNat by omega)]
 congr 1
 omega
theorem Zem {b : TBigraph} {f : Int -> Int} {g : ByteArray -> Int} (hb : 0 <= b.edges) {i : Nat} (h : i < b.outer.length) : g0 (Zi6 b f g) (b.edges + i).toNat = g b.outer[i] := by
 have hl : ((UF b.edges.toNat).map f).length = b.edges.toNat := by rw [List.length_map, Q0]
 show (Zi6 b f g).getD _ 0 = _
 unfold Zi6
 rw [List.getD_eq_getElem?_getD, List.getElem?_append_right (by rw [hl]; omega), hl, List.getElem?_map, show (b.edges + (i : Int)).toNat - b.edges.toNat = i from by omega, List.getElem?_eq_getElem h]
 rfl
noncomputable def Xc (l : List ByteArray) : List ByteArray := Zo0 e0S ltS l
end Go.Fd

/-
  LINKS THAT ARE TURNED, THE PROGRAM'S SIDE. Own work.
-/
namespace Go.Fd
set_option maxRecDepth 20000
theorem Zo1 {l : List ByteArray} : ScR (rS l) = True := eq_true fun e he t ht => by
 obtain ⟨n, _, rfl⟩ := List.mem_map.1 he
 simp only [List.mem_cons, List.not_mem_nil, or_false] at ht
 subst ht
 rfl
theorem Zo2 {l : List ByteArray} : UnR 1 (rS l) = True := eq_true (ZbF (fun n : ByteArray => [ts n]) (fun _ => rfl) l)
theorem Zl6 {l : List Int} : ScR (rI l) = True := eq_true fun e he t ht => by
 obtain ⟨n, _, rfl⟩ := List.mem_map.1 he
 simp only [List.mem_cons, List.not_mem_nil, or_false] at ht
 subst ht
 rfl
theorem Zl7 {l : List Int} : UnR 1 (rI l) = True := eq_true (ZbF (fun n : Int => [tv n]) (fun _ => rfl) l)
theorem ZrP {l : List TWire} : ScR (l.map ZO) = True := eq_true fun e he t ht => by
 obtain ⟨n, _, rfl⟩ := List.mem_map.1 he
 simp only [ZO, List.mem_cons, List.not_mem_nil, or_false] at ht
 rcases ht with rfl | rfl <;> rfl
theorem ZrQ {l : List TWire} : UnR 2 (l.map ZO) = True := eq_true (ZbF ZO (fun _ => rfl) l)
theorem Zaq (l : List Int) (hl : l.length <= 4294967296) (lvl : Nat) (S : Sto) : Sem Go.Proofs.Tryz.prog Jq lvl [tI l] S (.ow 1 (rI l) true) S := by
 refine Zf UT trivial ?_
 simp only [QL, List.length_map, Zl6, Zl7, EVA, ↓reduceIte, Nat.reduceEqDiff, Nat.reduceMul, reduceCtorEq, Nat.reduceAdd, Nat.reduceSub, Nat.reduceLeDiff, Nat.reduceLT, Int.reduceToNat, Int.reduceLE, Int.reduceLT, Ze, men]
 exact ⟨hl, fun h => by rw [h]⟩
theorem Zen (l : List ByteArray) (hl : l.length <= 4294967296) (lvl : Nat) (S : Sto) : Sem Go.Proofs.Tryz.prog Jf lvl [.tr (.sl (rS l))] S (.ow 1 (rS l) true) S := by
 refine Zf Xw trivial ?_
 simp only [YR, List.length_map, Zo1, Zo2, EVA, ↓reduceIte, Nat.reduceEqDiff, Nat.reduceMul, reduceCtorEq, Nat.reduceAdd, Nat.reduceSub, Nat.reduceLeDiff, Nat.reduceLT, Int.reduceToNat, Int.reduceLE, Int.reduceLT, Ze, men]
 exact ⟨hl, fun h => by rw [h]⟩
theorem ZiL (l : List TWire) (hl : l.length <= 4294967296) (lvl : Nat) (S : Sto) : Sem Go.Proofs.Tryz.prog Jj lvl [.tr (.sl (l.map ZO))] S (.ow 2 (l.map ZO) true) S := by
 refine Zf V9 trivial ?_
 simp only [J7, List.length_map, ZrP, ZrQ, EVA, ↓reduceIte, Nat.reduceEqDiff, Nat.reduceMul, reduceCtorEq, Nat.reduceAdd, Nat.reduceSub, Nat.reduceLeDiff, Nat.reduceLT, Int.reduceToNat, Int.reduceLE, Int.reduceLT, Ze, men]
 exact ⟨hl, fun h => by rw [h]⟩
theorem Zdq (l : List ByteArray) (hl : l.length <= 4294967290) (lvl : Nat) (S : Sto) : Sem Go.Proofs.Tryz.prog Vs lvl [.tr (.sl (rS l))] S (.ow 1 (rS (Xc l)) true) S := by
 refine Zf Za9 trivial ?_
 simp only [Wj, EVA, ↓reduceIte, Nat.reduceEqDiff, Nat.reduceMul, reduceCtorEq, Nat.reduceAdd, Nat.reduceSub, Nat.reduceLeDiff, Nat.reduceLT, Int.reduceToNat, Int.reduceLE, Int.reduceLT, Ze, men]
 refine Zb (Zen l (by omega)) ?_
 simp only [EVA, ↓reduceIte, Nat.reduceEqDiff, Nat.reduceMul, reduceCtorEq, Nat.reduceAdd, Nat.reduceSub, Nat.reduceLeDiff, Nat.reduceLT, Int.reduceToNat, Int.reduceLE, Int.reduceLT, Ze, men]
 have hp : (Zi5 ltS l).length = l.length := srtG_perm.length_eq
 have s1 := fun S' hS => Zfn l (by omega) (lvl + 1) S' (lvl, 160) true l.length 0 (Nat.lt_succ_self _) hS
 refine Zhh 160 _ (s1 _ ?_) ?_
 ·rw [Yn]; rfl
 simp only [EVA, ↓reduceIte, Nat.reduceEqDiff, Nat.reduceMul, reduceCtorEq, Nat.reduceAdd, Nat.reduceSub, Nat.reduceLeDiff, Nat.reduceLT, Int.reduceToNat, Int.reduceLE, Int.reduceLT, Ze, men]
 have s2 := fun S' hS => Zgv (Zi5 ltS l) (by omega) (lvl + 1) S' (lvl, 160) true l.length 0 (Nat.lt_succ_self _) hS
 rw [show WD (IV.hd (lvl, 160) [] 0 l.length none l.length) = IV.hd (lvl, 160) [] 0 (Zi5 ltS l).length none l.length from by rw [hp]; rfl]
 refine ZlZ 160 _ (s2 _ ?_) fun v => ?_
 ·rw [Yn]; rfl
 simp only [List.length_map, EVA, ↓reduceIte, Nat.reduceEqDiff, Nat.reduceMul, reduceCtorEq, Nat.reduceAdd, Nat.reduceSub, Nat.reduceLeDiff, Nat.reduceLT, Int.reduceToNat, Int.reduceLE, Int.reduceLT, Ze, men]
 rfl
abbrev oE (e : Int × ByteArray) : IV := .ag [iI e.1, iS e.2]
theorem Zki (b : TBigraph) (l : Int) (he : 0 <= b.edges) (hl : Jd b l) (ho : b.outer.length <= 4294967296) (hb : b.edges <= 4294967296) (lvl : Nat) (S : Sto) : Sem Go.Proofs.Tryz.prog YK lvl [.ag ((Za b).map .tr), iI l] S (oE (ZdI b l)) S := by
 refine Zf DP (by simp [low, men, Ze]) ?_
 simp only [Xq, Za, EVA, ↓reduceIte, Nat.reduceEqDiff, Nat.reduceMul, reduceCtorEq, Nat.reduceAdd, Nat.reduceSub, Nat.reduceLeDiff, Nat.reduceLT, Int.reduceToNat, Int.reduceLE, Int.reduceLT, Ze, men]
 rcases Vg hl with ⟨h0, h1⟩ | ⟨i, hi, rfl⟩
 ·rw [Zgw h1]
  simp only [h1, EVA, ↓reduceIte, Nat.reduceEqDiff, Nat.reduceMul, reduceCtorEq, Nat.reduceAdd, Nat.reduceSub, Nat.reduceLeDiff, Nat.reduceLT, Int.reduceToNat, Int.reduceLE, Int.reduceLT, Ze, men]
  try rfl
 ·rw [Zgx hi]
  have h1 : ¬ b.edges + (i : Int) < b.edges := by omega
  have ga := Zgt (e0 := e0S) (c := fun n : ByteArray => [ts n]) hi
  have e1 : b.edges + (i : Int) - b.edges = i := by omega
  rw [Dl hi] at ga
  simp only [h1, e1, ga, EVA, ↓reduceIte, Nat.reduceEqDiff, Nat.reduceMul, reduceCtorEq, Nat.reduceAdd, Nat.reduceSub, Nat.reduceLeDiff, Nat.reduceLT, Int.reduceToNat, Int.reduceLE, Int.reduceLT, Ze, men]
  rw [Zg]; omega
theorem WA (b : TBigraph) (hb : Zl 4294967290 b) (lvl : Nat) (S : Sto) : Sem Go.Proofs.Tryz.prog J4 lvl [.ag ((Za b).map .tr)] S (Zc b) S := by
 obtain ⟨b1, b2, b3, b4, b5, b6, b7⟩ := hb
 refine Zf ZbK (by simp [Zc, low, men, Ze]) ?_
 simp only [WU, Za, EVA, ↓reduceIte, Nat.reduceEqDiff, Nat.reduceMul, reduceCtorEq, Nat.reduceAdd, Nat.reduceSub, Nat.reduceLeDiff, Nat.reduceLT, Int.reduceToNat, Int.reduceLE, Int.reduceLT, Ze, men]
 refine Zb (Zaq b.sites (by omega)) ?_
 simp only [List.length_map, EVA, ↓reduceIte, Nat.reduceEqDiff, Nat.reduceMul, reduceCtorEq, Nat.reduceAdd, Nat.reduceSub, Nat.reduceLeDiff, Nat.reduceLT, Int.reduceToNat, Int.reduceLE, Int.reduceLT, Ze, men]
 refine Zb (Zen b.outer (by omega)) ?_
 simp only [List.length_map, EVA, ↓reduceIte, Nat.reduceEqDiff, Nat.reduceMul, reduceCtorEq, Nat.reduceAdd, Nat.reduceSub, Nat.reduceLeDiff, Nat.reduceLT, Int.reduceToNat, Int.reduceLE, Int.reduceLT, Ze, men]
 refine Zb (ZiL b.inner (by omega)) ?_
 simp only [List.length_map, EVA, ↓reduceIte, Nat.reduceEqDiff, Nat.reduceMul, reduceCtorEq, Nat.reduceAdd, Nat.reduceSub, Nat.reduceLeDiff, Nat.reduceLT, Int.reduceToNat, Int.reduceLE, Int.reduceLT, Ze, men]
 refine Z9 (α := Unit) b.nodes.length (fun j _ => [(23, iI j)]) (fun j _ => [(96, .bx [iI b.roots, .hd (lvl, 608) [] 0 j none j, .hd (lvl, 320) [] 0 b.sites.length none b.sites.length, iI b.edges, .hd (lvl, 480) [] 0 b.outer.length none b.outer.length, .hd (lvl, 576) [] 0 b.inner.length none b.inner.length]), (608, .ar 3 ((b.nodes.take j).map ZK) true j 0)]) (fun _ _ => True) () (by simp only [EVA, ↓reduceIte, Nat.reduceEqDiff, Nat.reduceMul, reduceCtorEq, Nat.reduceAdd, Nat.reduceSub, Nat.reduceLeDiff, Nat.reduceLT, Int.reduceToNat, Int.reduceLE, Int.reduceLT, Ze, men]) (by (simp only [EVA, ↓reduceIte, Nat.reduceEqDiff, Nat.reduceMul, reduceCtorEq, Nat.reduceAdd, Nat.reduceSub, Nat.reduceLeDiff, Nat.reduceLT, Int.reduceToNat, Int.reduceLE, Int.reduceLT, Ze, men]) <;> rfl) trivial ?_
 intro j _ hj _
 simp only [List.length_map, EVA, ↓reduceIte, Nat.reduceEqDiff, Nat.reduceMul, reduceCtorEq, Nat.reduceAdd, Nat.reduceSub, Nat.reduceLeDiff, Nat.reduceLT, Int.reduceToNat, Int.reduceLE, Int.reduceLT, Ze, men]
 refine Zu (fun hlt => ?_) (fun hge => ?_)
 ·have hja : j < b.nodes.length := by omega
  have ga := Zaw (c := ZK) hja
  have k2 : b.nodes[j].links.length <= 4294967290 := b2 _ (List.getElem_mem hja)
  have hl1 : ((b.nodes.take j).map ZK).length = j := by rw [List.length_map, List.length_take]; omega
  have st1 : (b.nodes.take j).map ZK ++ [[Tr.v (Value.int .i64 b.nodes[j].control), Tr.v (Value.int .i64 b.nodes[j].parent), Tr.sl (rI b.nodes[j].links)]] = (b.nodes.take (j + 1)).map ZK := by
   rw [List.take_succ_eq_append_getElem hja, List.map_append]
   rfl
  simp only [ga, hja, ZK, EVA, ↓reduceIte, Nat.reduceEqDiff, Nat.reduceMul, reduceCtorEq, Nat.reduceAdd, Nat.reduceSub, Nat.reduceLeDiff, Nat.reduceLT, Int.reduceToNat, Int.reduceLE, Int.reduceLT, Ze, men]
  refine Zb (Zaq b.nodes[j].links (by omega)) ?_
  have hl2 : (List.map (fun x => [Tr.v (Value.int .i64 x.control), Tr.v (Value.int .i64 x.parent), Tr.sl (rI x.links)]) (b.nodes.take j)).length = j := by rw [List.length_map, List.length_take]; omega
  simp only [hl1, st1, ZK, EVA, ↓reduceIte, Nat.reduceEqDiff, Nat.reduceMul, reduceCtorEq, Nat.reduceAdd, Nat.reduceSub, Nat.reduceLeDiff, Nat.reduceLT, Int.reduceToNat, Int.reduceLE, Int.reduceLT, Ze, men]
  exact ⟨by omega, by rw [Zg]; omega, Zi () hja rfl trivial⟩
 ·have : j = b.nodes.length := by omega
  subst this
  rw [List.take_length]
  exact ⟨rfl, rfl⟩
end Go.Fd

/-
  LINKS THAT ARE TURNED, THE REFERENCE'S SIDE. Own work.
-/
namespace Go.Fd
set_option maxRecDepth 20000
theorem Zih (l : List ByteArray) (s : ByteArray) (hl : l.length <= 4294967296) (lvl : Nat) (S : Sto) : Sem Go.Proofs.Tryz.prog Xv lvl [.tr (.sl (rS l)), iS s] S (iI (ixS l s)) S := by
 refine Zf Zhf trivial ?_
 simp only [Zda, List.length_map, EVA, ↓reduceIte, Nat.reduceEqDiff, Nat.reduceMul, reduceCtorEq, Nat.reduceAdd, Nat.reduceSub, Nat.reduceLeDiff, Nat.reduceLT, Int.reduceToNat, Int.reduceLE, Int.reduceLT, Ze, men]
 refine Z9 (α := Unit) l.length (fun j _ => [(5, iI j)]) (fun _ _ => []) (fun j _ => ixF (fun x => decide (s = x)) (l.drop j) j = ixS l s) () (by simp only [EVA, ↓reduceIte, Nat.reduceEqDiff, Nat.reduceMul, reduceCtorEq, Nat.reduceAdd, Nat.reduceSub, Nat.reduceLeDiff, Nat.reduceLT, Int.reduceToNat, Int.reduceLE, Int.reduceLT, Ze, men]) (by (simp only [EVA, ↓reduceIte, Nat.reduceEqDiff, Nat.reduceMul, reduceCtorEq, Nat.reduceAdd, Nat.reduceSub, Nat.reduceLeDiff, Nat.reduceLT, Int.reduceToNat, Int.reduceLE, Int.reduceLT, Ze, men]) <;> rfl) rfl ?_
 intro j _ hj hA
 simp only [List.length_map, EVA, ↓reduceIte, Nat.reduceEqDiff, Nat.reduceMul, reduceCtorEq, Nat.reduceAdd, Nat.reduceSub, Nat.reduceLeDiff, Nat.reduceLT, Int.reduceToNat, Int.reduceLE, Int.reduceLT, Ze, men]
 refine Zu (fun hlt => ?_) (fun hge => ?_)
 ·have hja : j < l.length := by omega
  have ga := Zgt (e0 := e0S) (c := fun n : ByteArray => [ts n]) hja
  rw [Dl hja] at ga
  rw [Zbd hja, Up] at hA
  by_cases h : l[j] = s
  ·rw [if_pos (by simp [h])] at hA
   simp only [ga, h, EVA, ↓reduceIte, Nat.reduceEqDiff, Nat.reduceMul, reduceCtorEq, Nat.reduceAdd, Nat.reduceSub, Nat.reduceLeDiff, Nat.reduceLT, Int.reduceToNat, Int.reduceLE, Int.reduceLT, Ze, men]
   rw [<- hA]
  ·rw [if_neg (by simp; exact fun e => h e.symm)] at hA
   simp only [ga, h, EVA, ↓reduceIte, Nat.reduceEqDiff, Nat.reduceMul, reduceCtorEq, Nat.reduceAdd, Nat.reduceSub, Nat.reduceLeDiff, Nat.reduceLT, Int.reduceToNat, Int.reduceLE, Int.reduceLT, Ze, men]
   exact ⟨by rw [Zg]; omega, Zi () hja rfl hA⟩
 ·have : j = l.length := by omega
  subst this
  rw [List.drop_length] at hA
  rw [<- hA]
  rfl
def Dn (a : Int) (n : Nat) : List Int := (List.range n).map fun i : Nat => a + i
theorem ZiM {a : Int} {n : Nat} : Dn a (n + 1) = Dn a n ++ [a + n] := by simp [Dn, List.range_succ]
theorem fromN_len {a : Int} {n : Nat} : (Dn a n).length = n := by simp [Dn]
theorem Zdr (a : Int) (n : Nat) (ha : -4294967296 <= a /\ a <= 4294967296) (hn : n <= 4294967290) (lvl : Nat) (S : Sto) : Sem Go.Proofs.Tryz.prog VT lvl [iI a, iI n] S (.ow 1 (rI (Dn a n)) true) S := by
 refine Zf ZdX trivial ?_
 simp only [Zae, EVA, ↓reduceIte, Nat.reduceEqDiff, Nat.reduceMul, reduceCtorEq, Nat.reduceAdd, Nat.reduceSub, Nat.reduceLeDiff, Nat.reduceLT, Int.reduceToNat, Int.reduceLE, Int.reduceLT, Ze, men]
 refine Z9 (α := Unit) n (fun j _ => [(5, .hd (lvl, 224) [] 0 j none j), (6, iI j)]) (fun j _ => [(224, .ar 1 (rI (Dn a j)) true j 0)]) (fun _ _ => True) () (by simp only [EVA, ↓reduceIte, Nat.reduceEqDiff, Nat.reduceMul, reduceCtorEq, Nat.reduceAdd, Nat.reduceSub, Nat.reduceLeDiff, Nat.reduceLT, Int.reduceToNat, Int.reduceLE, Int.reduceLT, Ze, men]) (by (simp only [EVA, ↓reduceIte, Nat.reduceEqDiff, Nat.reduceMul, reduceCtorEq, Nat.reduceAdd, Nat.reduceSub, Nat.reduceLeDiff, Nat.reduceLT, Int.reduceToNat, Int.reduceLE, Int.reduceLT, Ze, men]) <;> rfl) trivial ?_
 intro j _ hj _
 simp only [List.length_map, EVA, ↓reduceIte, Nat.reduceEqDiff, Nat.reduceMul, reduceCtorEq, Nat.reduceAdd, Nat.reduceSub, Nat.reduceLeDiff, Nat.reduceLT, Int.reduceToNat, Int.reduceLE, Int.reduceLT, Ze, men]
 refine Zu (fun hlt => ?_) (fun hge => ?_)
 ·have hl := fromN_len (a := a) (n := j)
  have hs : rI (Dn a j) ++ [[Tr.v (.int .i64 (a + j))]] = rI (Dn a (j + 1)) := by rw [ZiM, UE]; rfl
  simp only [hl, hs, EVA, ↓reduceIte, Nat.reduceEqDiff, Nat.reduceMul, reduceCtorEq, Nat.reduceAdd, Nat.reduceSub, Nat.reduceLeDiff, Nat.reduceLT, Int.reduceToNat, Int.reduceLE, Int.reduceLT, Ze, men]
  exact ⟨by rw [Zg]; omega, by omega, by rw [Zg]; omega, Zi () (by omega) rfl trivial⟩
 ·have : j = n := by omega
  subst this
  exact ⟨fromN_len.symm, rfl⟩
def Yw (a : Int) (n : Nat) : List Int := (List.range n).map fun i : Nat => -1 - a - i
theorem Zhn {a : Int} {n : Nat} : Yw a (n + 1) = Yw a n ++ [-1 - a - n] := by simp [Yw, List.range_succ]
theorem rootsN_len {a : Int} {n : Nat} : (Yw a n).length = n := by simp [Yw]
theorem Zds (a : Int) (n : Nat) (ha : -4294967296 <= a /\ a <= 4294967296) (hn : n <= 4294967290) (lvl : Nat) (S : Sto) : Sem Go.Proofs.Tryz.prog VP lvl [iI a, iI n] S (.ow 1 (rI (Yw a n)) true) S := by
 refine Zf ZdT trivial ?_
 simp only [Zaa, EVA, ↓reduceIte, Nat.reduceEqDiff, Nat.reduceMul, reduceCtorEq, Nat.reduceAdd, Nat.reduceSub, Nat.reduceLeDiff, Nat.reduceLT, Int.reduceToNat, Int.reduceLE, Int.reduceLT, Ze, men]
 refine Z9 (α := Unit) n (fun j _ => [(5, .hd (lvl, 224) [] 0 j none j), (6, iI j)]) (fun j _ => [(224, .ar 1 (rI (Yw a j)) true j 0)]) (fun _ _ => True) () (by simp only [EVA, ↓reduceIte, Nat.reduceEqDiff, Nat.reduceMul, reduceCtorEq, Nat.reduceAdd, Nat.reduceSub, Nat.reduceLeDiff, Nat.reduceLT, Int.reduceToNat, Int.reduceLE, Int.reduceLT, Ze, men]) (by (simp only [EVA, ↓reduceIte, Nat.reduceEqDiff, Nat.reduceMul, reduceCtorEq, Nat.reduceAdd, Nat.reduceSub, Nat.reduceLeDiff, Nat.reduceLT, Int.reduceToNat, Int.reduceLE, Int.reduceLT, Ze, men]) <;> rfl) trivial ?_
 intro j _ hj _
 simp only [List.length_map, EVA, ↓reduceIte, Nat.reduceEqDiff, Nat.reduceMul, reduceCtorEq, Nat.reduceAdd, Nat.reduceSub, Nat.reduceLeDiff, Nat.reduceLT, Int.reduceToNat, Int.reduceLE, Int.reduceLT, Ze, men]
 refine Zu (fun hlt => ?_) (fun hge => ?_)
 ·have hl := rootsN_len (a := a) (n := j)
  have hs : rI (Yw a j) ++ [[Tr.v (.int .i64 (-1 - a - j))]] = rI (Yw a (j + 1)) := by rw [Zhn, UE]; rfl
  simp only [hl, hs, EVA, ↓reduceIte, Nat.reduceEqDiff, Nat.reduceMul, reduceCtorEq, Nat.reduceAdd, Nat.reduceSub, Nat.reduceLeDiff, Nat.reduceLT, Int.reduceToNat, Int.reduceLE, Int.reduceLT, Ze, men]
  exact ⟨by rw [Zg]; omega, by rw [Zg]; omega, by omega, by rw [Zg]; omega, Zi () (by omega) rfl trivial⟩
 ·have : j = n := by omega
  subst this
  exact ⟨rootsN_len.symm, rfl⟩
def Zeo (by_ : Int) (ps : List Int) (p : Int) : Int := if p < 0 then g0 ps (-1 - p).toNat else p + by_
theorem Do (p by_ : Int) (ps : List Int) (h0 : -4294967296 <= p /\ p <= 4294967296) (h1 : -4294967296 <= by_ /\ by_ <= 4294967296) (h2 : p < 0 -> (-1 - p).toNat < ps.length) (lvl : Nat) (S : Sto) : Sem Go.Proofs.Tryz.prog Yq lvl [iI p, iI by_, tI ps] S (iI (Zeo by_ ps p)) S := by
 refine Zf Zdh trivial ?_
 simp only [Dh, EVA, ↓reduceIte, Nat.reduceEqDiff, Nat.reduceMul, reduceCtorEq, Nat.reduceAdd, Nat.reduceSub, Nat.reduceLeDiff, Nat.reduceLT, Int.reduceToNat, Int.reduceLE, Int.reduceLT, Ze, men]
 unfold Zeo
 refine Zu (fun hlt => ?_) (fun hge => ?_)
 ·rw [if_pos hlt]
  have hk := h2 hlt
  obtain ⟨k, hkk⟩ : ∃ k : Nat, -1 - p = k := ⟨(-1 - p).toNat, by omega⟩
  rw [hkk] at hk ⊢
  rw [Int.toNat_natCast] at hk ⊢
  have ga := X2 hk
  simp only [ga, hk, EVA, ↓reduceIte, Nat.reduceEqDiff, Nat.reduceMul, reduceCtorEq, Nat.reduceAdd, Nat.reduceSub, Nat.reduceLeDiff, Nat.reduceLT, Int.reduceToNat, Int.reduceLE, Int.reduceLT, Ze, men]
  rw [Zg]; omega
 ·rw [if_neg hge]
  exact ⟨by rw [Zg]; omega, rfl⟩
theorem Zar (b : TBigraph) (by_ : Int) (ps : List Int) (hl : b.sites.length <= 4294967290) (h1 : -4294967296 <= by_ /\ by_ <= 4294967296) (hp : ∀ p ∈ b.sites, (-4294967296 <= p /\ p <= 4294967296) /\ (p < 0 -> (-1 - p).toNat < ps.length)) (lvl : Nat) (S : Sto) : Sem Go.Proofs.Tryz.prog YD lvl [.ag ((Za b).map .tr), iI by_, tI ps] S (.ow 1 (rI (b.sites.map (Zeo by_ ps))) true) S := by
 refine Zf ZdV trivial ?_
 simp only [Zac, Za, EVA, ↓reduceIte, Nat.reduceEqDiff, Nat.reduceMul, reduceCtorEq, Nat.reduceAdd, Nat.reduceSub, Nat.reduceLeDiff, Nat.reduceLT, Int.reduceToNat, Int.reduceLE, Int.reduceLT, Ze, men]
 refine Z9 (α := Unit) b.sites.length (fun j _ => [(7, .hd (lvl, 288) [] 0 j none j), (8, iI j)]) (fun j _ => [(288, .ar 1 (rI ((b.sites.take j).map (Zeo by_ ps))) true j 0)]) (fun _ _ => True) () (by simp only [EVA, ↓reduceIte, Nat.reduceEqDiff, Nat.reduceMul, reduceCtorEq, Nat.reduceAdd, Nat.reduceSub, Nat.reduceLeDiff, Nat.reduceLT, Int.reduceToNat, Int.reduceLE, Int.reduceLT, Ze, men]) (by (simp only [EVA, ↓reduceIte, Nat.reduceEqDiff, Nat.reduceMul, reduceCtorEq, Nat.reduceAdd, Nat.reduceSub, Nat.reduceLeDiff, Nat.reduceLT, Int.reduceToNat, Int.reduceLE, Int.reduceLT, Ze, men]) <;> rfl) trivial ?_
 intro j _ hj _
 simp only [List.length_map, EVA, ↓reduceIte, Nat.reduceEqDiff, Nat.reduceMul, reduceCtorEq, Nat.reduceAdd, Nat.reduceSub, Nat.reduceLeDiff, Nat.reduceLT, Int.reduceToNat, Int.reduceLE, Int.reduceLT, Ze, men]
 refine Zu (fun hlt => ?_) (fun hge => ?_)
 ·have hja : j < b.sites.length := by omega
  have ga := X2 hja
  have e0 : g0 b.sites j = b.sites[j] := by simp [hja]
  have hq := hp _ (List.getElem_mem hja)
  rw [<- e0] at hq
  have hl1 : (List.map (Zeo by_ ps) (b.sites.take j)).length = j := by rw [List.length_map, List.length_take]; omega
  have hl2 : (b.sites.take j).length = j := by rw [List.length_take]; omega
  simp only [ga, hja, EVA, ↓reduceIte, Nat.reduceEqDiff, Nat.reduceMul, reduceCtorEq, Nat.reduceAdd, Nat.reduceSub, Nat.reduceLeDiff, Nat.reduceLT, Int.reduceToNat, Int.reduceLE, Int.reduceLT, Ze, men]
  refine Zb (Do (g0 b.sites j) by_ ps hq.1 h1 hq.2) ?_
  have hs : rI ((b.sites.take j).map (Zeo by_ ps)) ++ [[Tr.v (.int .i64 (Zeo by_ ps (g0 b.sites j)))]] = rI ((b.sites.take (j + 1)).map (Zeo by_ ps)) := by
   rw [List.take_succ_eq_append_getElem hja, List.map_append, UE, e0]; rfl
  simp only [hl1, hl2, hs, List.length_map, EVA, ↓reduceIte, Nat.reduceEqDiff, Nat.reduceMul, reduceCtorEq, Nat.reduceAdd, Nat.reduceSub, Nat.reduceLeDiff, Nat.reduceLT, Int.reduceToNat, Int.reduceLE, Int.reduceLT, Ze, men]
  exact ⟨by omega, by rw [Zg]; omega, Zi () hja rfl trivial⟩
 ·have : j = b.sites.length := by omega
  subst this
  rw [List.take_length]
  exact ⟨by simp, rfl⟩
def Zho (ls : List Int) (w : TWire) : TWire := ⟨w.name, g0 ls w.link.toNat⟩
theorem Zdt (b : TBigraph) (ls : List Int) (hl : b.inner.length <= 4294967290) (hp : ∀ w ∈ b.inner, 0 <= w.link /\ w.link < ls.length) (lvl : Nat) (S : Sto) : Sem Go.Proofs.Tryz.prog VS lvl [.ag ((Za b).map .tr), tI ls] S (.ow 2 ((b.inner.map (Zho ls)).map ZO) true) S := by
 refine Zf ZdW trivial ?_
 simp only [Zad, Za, EVA, ↓reduceIte, Nat.reduceEqDiff, Nat.reduceMul, reduceCtorEq, Nat.reduceAdd, Nat.reduceSub, Nat.reduceLeDiff, Nat.reduceLT, Int.reduceToNat, Int.reduceLE, Int.reduceLT, Ze, men]
 refine Z9 (α := Unit) b.inner.length (fun j _ => [(5, .hd (lvl, 224) [] 0 j none j), (6, iI j)]) (fun j _ => [(224, .ar 2 (((b.inner.take j).map (Zho ls)).map ZO) true j 0)]) (fun _ _ => True) () (by simp only [EVA, ↓reduceIte, Nat.reduceEqDiff, Nat.reduceMul, reduceCtorEq, Nat.reduceAdd, Nat.reduceSub, Nat.reduceLeDiff, Nat.reduceLT, Int.reduceToNat, Int.reduceLE, Int.reduceLT, Ze, men]) (by (simp only [EVA, ↓reduceIte, Nat.reduceEqDiff, Nat.reduceMul, reduceCtorEq, Nat.reduceAdd, Nat.reduceSub, Nat.reduceLeDiff, Nat.reduceLT, Int.reduceToNat, Int.reduceLE, Int.reduceLT, Ze, men]) <;> rfl) trivial ?_
 intro j _ hj _
 simp only [List.length_map, EVA, ↓reduceIte, Nat.reduceEqDiff, Nat.reduceMul, reduceCtorEq, Nat.reduceAdd, Nat.reduceSub, Nat.reduceLeDiff, Nat.reduceLT, Int.reduceToNat, Int.reduceLE, Int.reduceLT, Ze, men]
 refine Zu (fun hlt => ?_) (fun hge => ?_)
 ·have hja : j < b.inner.length := by omega
  have ga := Zaw (c := ZO) hja
  have hq := hp _ (List.getElem_mem hja)
  obtain ⟨k, hk⟩ : ∃ k : Nat, b.inner[j].link = k := ⟨b.inner[j].link.toNat, by omega⟩
  have hkl : k < ls.length := by omega
  have gl := X2 hkl
  have hl2 : (b.inner.take j).length = j := by rw [List.length_take]; omega
  have hs : ((b.inner.take j).map (Zho ls)).map ZO ++ [[ts b.inner[j].name, tv (g0 ls k)]] = ((b.inner.take (j + 1)).map (Zho ls)).map ZO := by
   rw [List.take_succ_eq_append_getElem hja, List.map_append, List.map_append]
   simp [Zho, ZO, hk]
  simp only [ga, ZO, hk, gl, hja, hkl, hl2, List.length_map, EVA, ↓reduceIte, Nat.reduceEqDiff, Nat.reduceMul, reduceCtorEq, Nat.reduceAdd, Nat.reduceSub, Nat.reduceLeDiff, Nat.reduceLT, Int.reduceToNat, Int.reduceLE, Int.reduceLT, Ze, men]
  exact ⟨by omega, by rw [Zg]; omega, Zi () hja (by rw [<- hs]; rfl) trivial⟩
 ·have : j = b.inner.length := by omega
  subst this
  rw [List.take_length]
  exact ⟨by simp, rfl⟩
def Zfp (by_ : Int) (ps ls : List Int) (x : TNode) : TNode := ⟨x.control, Zeo by_ ps x.parent, x.links.map fun l => g0 ls l.toNat⟩
theorem Zdu (b : TBigraph) (by_ : Int) (ps ls : List Int) (hl : b.nodes.length <= 4294967290) (h1 : -4294967296 <= by_ /\ by_ <= 4294967296) (hp : ∀ x ∈ b.nodes, x.links.length <= 4294967290 /\ ((-4294967296 <= x.parent /\ x.parent <= 4294967296) /\ (x.parent < 0 -> (-1 - x.parent).toNat < ps.length)) /\ ∀ l ∈ x.links, 0 <= l /\ l < ls.length) (lvl : Nat) (S : Sto) : Sem Go.Proofs.Tryz.prog VQ lvl [.ag ((Za b).map .tr), iI by_, tI ps, tI ls] S (.ow 3 ((b.nodes.map (Zfp by_ ps ls)).map ZK) true) S := by
 refine Zf ZdU trivial ?_
 simp only [Zab, Za, EVA, ↓reduceIte, Nat.reduceEqDiff, Nat.reduceMul, reduceCtorEq, Nat.reduceAdd, Nat.reduceSub, Nat.reduceLeDiff, Nat.reduceLT, Int.reduceToNat, Int.reduceLE, Int.reduceLT, Ze, men]
 refine Z9 (α := Unit) b.nodes.length (fun j _ => [(9, .hd (lvl, 416) [] 0 j none j), (10, iI j)]) (fun j _ => [(416, .ar 3 (((b.nodes.take j).map (Zfp by_ ps ls)).map ZK) true j 0)]) (fun _ _ => True) () (by simp only [EVA, ↓reduceIte, Nat.reduceEqDiff, Nat.reduceMul, reduceCtorEq, Nat.reduceAdd, Nat.reduceSub, Nat.reduceLeDiff, Nat.reduceLT, Int.reduceToNat, Int.reduceLE, Int.reduceLT, Ze, men]) (by (simp only [EVA, ↓reduceIte, Nat.reduceEqDiff, Nat.reduceMul, reduceCtorEq, Nat.reduceAdd, Nat.reduceSub, Nat.reduceLeDiff, Nat.reduceLT, Int.reduceToNat, Int.reduceLE, Int.reduceLT, Ze, men]) <;> rfl) trivial ?_
 intro j _ hj _
 simp only [List.length_map, EVA, ↓reduceIte, Nat.reduceEqDiff, Nat.reduceMul, reduceCtorEq, Nat.reduceAdd, Nat.reduceSub, Nat.reduceLeDiff, Nat.reduceLT, Int.reduceToNat, Int.reduceLE, Int.reduceLT, Ze, men]
 refine Zu (fun hlt => ?_) (fun hge => ?_)
 ·have hja : j < b.nodes.length := by omega
  have ga := Zaw (c := ZK) hja
  obtain ⟨q1, q2, q3⟩ := hp _ (List.getElem_mem hja)
  have hl2 : (b.nodes.take j).length = j := by rw [List.length_take]; omega
  refine Z9 (α := Unit) b.nodes[j].links.length (fun k _ => [(11, .hd (lvl, 672) [] 0 k none k), (12, iI k)]) (fun k _ => [(672, .ar 1 (rI ((b.nodes[j].links.take k).map fun l => g0 ls l.toNat)) true k 0)]) (fun _ _ => True) () (by simp only [EVA, ↓reduceIte, Nat.reduceEqDiff, Nat.reduceMul, reduceCtorEq, Nat.reduceAdd, Nat.reduceSub, Nat.reduceLeDiff, Nat.reduceLT, Int.reduceToNat, Int.reduceLE, Int.reduceLT, Ze, men]) (by (simp only [EVA, ↓reduceIte, Nat.reduceEqDiff, Nat.reduceMul, reduceCtorEq, Nat.reduceAdd, Nat.reduceSub, Nat.reduceLeDiff, Nat.reduceLT, Int.reduceToNat, Int.reduceLE, Int.reduceLT, Ze, men]) <;> rfl) trivial ?_
  intro k _ hk _
  simp only [ga, ZK, List.length_map, EVA, ↓reduceIte, Nat.reduceEqDiff, Nat.reduceMul, reduceCtorEq, Nat.reduceAdd, Nat.reduceSub, Nat.reduceLeDiff, Nat.reduceLT, Int.reduceToNat, Int.reduceLE, Int.reduceLT, Ze, men]
  refine Zu (fun hlt2 => ?_) (fun hge2 => ?_)
  ·have hka : k < b.nodes[j].links.length := by omega
   have gl := X2 hka
   have e0 : g0 b.nodes[j].links k = b.nodes[j].links[k] := by simp [hka]
   have hq := q3 _ (List.getElem_mem hka)
   rw [<- e0] at hq
   obtain ⟨m, hm⟩ : ∃ m : Nat, g0 b.nodes[j].links k = m := ⟨(g0 b.nodes[j].links k).toNat, by omega⟩
   have hml : m < ls.length := by omega
   have gm := X2 hml
   have hl3 : (b.nodes[j].links.take k).length = k := by rw [List.length_take]; omega
   have hs : rI ((b.nodes[j].links.take k).map fun l => g0 ls l.toNat) ++ [[tv (g0 ls m)]] = rI ((b.nodes[j].links.take (k + 1)).map fun l => g0 ls l.toNat) := by
    rw [List.take_succ_eq_append_getElem hka, List.map_append, UE, <- e0]
    simp only [List.map_cons, List.map_nil, hm, Int.toNat_natCast]
   simp only [ga, ZK, gl, hm, gm, hka, hml, hl3, hs, List.length_map, EVA, ↓reduceIte, Nat.reduceEqDiff, Nat.reduceMul, reduceCtorEq, Nat.reduceAdd, Nat.reduceSub, Nat.reduceLeDiff, Nat.reduceLT, Int.reduceToNat, Int.reduceLE, Int.reduceLT, Ze, men]
   exact ⟨by omega, by rw [Zg]; omega, Zi () hka rfl trivial⟩
  ·have : k = b.nodes[j].links.length := by omega
   subst this
   rw [List.take_length]
   refine Zb (Do b.nodes[j].parent by_ ps q2.1 h1 q2.2) ?_
   have hs : ((b.nodes.take j).map (Zfp by_ ps ls)).map ZK ++ [[tv b.nodes[j].control, tv (Zeo by_ ps b.nodes[j].parent), Tr.sl (rI (b.nodes[j].links.map fun l => g0 ls l.toNat))]] = ((b.nodes.take (j + 1)).map (Zfp by_ ps ls)).map ZK := by
    rw [List.take_succ_eq_append_getElem hja, List.map_append, List.map_append]
    simp [Zfp, ZK]
   simp only [ga, ZK, hl2, List.length_map, EVA, ↓reduceIte, Nat.reduceEqDiff, Nat.reduceMul, reduceCtorEq, Nat.reduceAdd, Nat.reduceSub, Nat.reduceLeDiff, Nat.reduceLT, Int.reduceToNat, Int.reduceLE, Int.reduceLT, Ze, men]
   exact ⟨by omega, by rw [Zg]; omega, Zi () hja (by rw [<- hs]; rfl) trivial⟩
 ·have : j = b.nodes.length := by omega
  subst this
  rw [List.take_length]
  exact ⟨by simp, rfl⟩
end Go.Fd

/-
  A LINK IS TURNED: relinked AND ITS CLOSURE. Own work.
-/
namespace Go.Fd
set_option maxRecDepth 20000
theorem ZrR : Z2 Go.Proofs.Tryz.prog Jg Zsh = true := by kernel_rfl
theorem ZvR : Z2 Go.Proofs.Tryz.prog Jw (ZvN Jg) = true := by kernel_rfl
theorem ZiN (l : List ByteArray) (s : ByteArray) (hl : l.length <= 4294967296) (lvl : Nat) (S : Sto) : Sem Go.Proofs.Tryz.prog Jg lvl [.tr (.sl (rS l)), iS s] S (iI (ixS l s)) S := ZjZ ZrR ZrC l s (by omega) lvl S
theorem Zfq (l : List ByteArray) (s : ByteArray) (hl : l.length <= 4294967296) (lvl : Nat) (S : Sto) : Sem Go.Proofs.Tryz.prog Jw lvl [.tr (.sl (rS l)), iS s] S (iB (dc (s ∈ l))) S := by
 have h := Zop ZvR ZrR ZrC l s (by omega) lvl S
 have e : ∀ i : Decidable (s ∈ l), @decide (s ∈ l) i = dc (s ∈ l) := fun i => (@QE _ i).symm
 rw [e] at h
 exact h
theorem Zii {l : List ByteArray} {s : ByteArray} : -1 <= ixS l s := by
 by_cases h : s ∈ l
 ·have := ixS_nn.2 h; omega
 ·rw [ZmN h]; omega
theorem Zij {l : List ByteArray} {s : ByteArray} : ixS l s <= l.length := by
 by_cases h : s ∈ l
 ·have := ZrO h; omega
 ·rw [ZmN h]; omega
mutual
theorem Zow {P Q : Oid -> Prop} : ∀ x, men P x -> men Q x -> men (fun i => P i /\ Q i) x
 | .hd .., h, g => ⟨h, g⟩
 | .ab .., h, g => ⟨h, g⟩
 | .sv _, h, g => ⟨h, g⟩
 | .ae .., h, g => ⟨h, g⟩
 | .ag l, h, g => by simp only [men] at *; exact Zbe l h g
 | .tu l, h, g => by simp only [men] at *; exact Zbe l h g
 | .fn f l, h, g => by simp only [men] at *; exact Zbe l h g
 | .un, _, _ => trivial
 | .tr _, _, _ => trivial
 | .cs _, _, _ => trivial
 | .ta _, _, _ => trivial
 | .ow .., _, _ => trivial
 | .er, _, _ => trivial
theorem Zbe {P Q : Oid -> Prop} : ∀ l, Ze P l -> Ze Q l -> Ze (fun i => P i /\ Q i) l
 | [], _, _ => trivial
 | x :: r, h, g => ⟨Zow x h.1 g.1, Zbe r h.2 g.2⟩
end
theorem Zgy {B S S' : Sto} {loc : List (Nat × Ob)} {lvl l' : Nat} {cps : List IV} (h : Ze (Ziv B S lvl) cps) (h2 : Ze (Ziv (ZR lvl loc S) S' l') cps) : Ze (Ziv B S' l') cps :=
 ZS (fun i hi => ⟨hi.2.1, fun ob hb => hi.2.2 ob (by rw [show ZR lvl loc S i = S i from if_neg (by have := hi.1.1; omega)]; exact hi.1.2 ob hb)⟩) _ (Zbe _ h h2)
theorem Zgz {L S : Sto} {l : Nat} {cps : List IV} (h : Ze (Zew L S l) cps) : Ze (Ziv L S l) cps := ZS (fun _ hi => hi.1) _ h
theorem Zl8 {B S : Sto} {lvl : Nat} {cps : List IV} (h : Ze (Ziv B S lvl) cps) (js : List Nat) : ZhH lvl js cps = True := eq_true (ZS (fun i hi e => absurd e (by have := hi.1; omega)) _ h)
theorem Zox {B S : Sto} {lvl : Nat} {cs : List (List Tr)} : Ze (Ziv B S lvl) (cs.map IV.ta) := by rw [YB]; trivial
theorem ZdZ (b : TBigraph) (l : Int) (e : Int) (o : List ByteArray) (tf : FuncId) (cps : List IV) (B : Sto) (T : Int × ByteArray -> Int × ByteArray) (he0 : 0 <= b.edges) (hl : Jd b l) (ho : b.outer.length <= 4294967296) (hb : b.edges <= 4294967296) (he : 0 <= e /\ e <= 4294967296) (hol : o.length <= 4294967296)
  (hT : ∀ l' S', Ze (Ziv B S' l') cps -> Sem Go.Proofs.Tryz.prog tf l' (oE (ZdI b l) :: cps) S' (oE (T (ZdI b l))) S')
  (lvl : Nat) (S : Sto) (hcp : Ze (Ziv B S lvl) cps) (iT iO io : Oid) (c0 c1 c2 c3 c5 : IV) (hwo ver : Nat) (u : Bool) (hT1 : iT.1 < lvl) (hO1 : iO.1 < lvl) (ho1 : io.1 < lvl) (sT : S iT = some (.bx [.fn tf cps])) (sO : S iO = some (.bx [c0, c1, c2, c3, .hd io [] 0 o.length none hwo, c5])) (so : S io = some (.ar 1 (rS o) u hwo ver)) :
  Sem Go.Proofs.Tryz.prog Jy lvl [iI l, .ab iT 0, .ta (Za b), .ta [tv e], .ab iO 0] S (iI (Zek b e o T l)) S := by
 have hneT : iT.1 ≠ lvl := by omega
 have hneO : iO.1 ≠ lvl := by omega
 have hneo : io.1 ≠ lvl := by omega
 refine Zf Wy trivial ?_
 simp only [VI, Za, Js hneT, Js hneO, Js hneo, sT, sO, so, EVA, ↓reduceIte, Nat.reduceEqDiff, Nat.reduceMul, reduceCtorEq, Nat.reduceAdd, Nat.reduceSub, Nat.reduceLeDiff, Nat.reduceLT, Int.reduceToNat, Int.reduceLE, Int.reduceLT, Ze, men]
 refine Zb (Zki b l he0 hl ho hb) ?_
 simp only [EVA, ↓reduceIte, Nat.reduceEqDiff, Nat.reduceMul, reduceCtorEq, Nat.reduceAdd, Nat.reduceSub, Nat.reduceLeDiff, Nat.reduceLT, Int.reduceToNat, Int.reduceLE, Int.reduceLT, Ze, men]
 refine ZaO (fun l' S' hs => hT l' S' (Zgy hcp (Zgz hs.2))) ?_
 simp only [EVA, ↓reduceIte, Nat.reduceEqDiff, Nat.reduceMul, reduceCtorEq, Nat.reduceAdd, Nat.reduceSub, Nat.reduceLeDiff, Nat.reduceLT, Int.reduceToNat, Int.reduceLE, Int.reduceLT, Ze, men]
 unfold Zek
 by_cases h2 : (T (ZdI b l)).2 = e0S
 ·rw [if_pos h2]
  simp only [h2, EVA, ↓reduceIte, Nat.reduceEqDiff, Nat.reduceMul, reduceCtorEq, Nat.reduceAdd, Nat.reduceSub, Nat.reduceLeDiff, Nat.reduceLT, Int.reduceToNat, Int.reduceLE, Int.reduceLT, Ze, men]
 ·rw [if_neg h2]
  simp only [h2, Js hneO, Js hneo, sO, so, EVA, ↓reduceIte, Nat.reduceEqDiff, Nat.reduceMul, reduceCtorEq, Nat.reduceAdd, Nat.reduceSub, Nat.reduceLeDiff, Nat.reduceLT, Int.reduceToNat, Int.reduceLE, Int.reduceLT, Ze, men]
  rw [show cut (rS o) 0 o.length = rS o from Dm (by rw [List.length_map])]
  refine Zb (ZiN o (T (ZdI b l)).2 (by omega)) ?_
  have := Zii (l := o) (s := (T (ZdI b l)).2)
  have := Zij (l := o) (s := (T (ZdI b l)).2)
  simp only [EVA, ↓reduceIte, Nat.reduceEqDiff, Nat.reduceMul, reduceCtorEq, Nat.reduceAdd, Nat.reduceSub, Nat.reduceLeDiff, Nat.reduceLT, Int.reduceToNat, Int.reduceLE, Int.reduceLT, Ze, men]
  rw [Zg]; omega
theorem ZmO {y : List Int} {j : Nat} {v : Int} (h : j < y.length) : YC (rI y) [] j 0 (.v (.int .i64 v)) = rI (y.set j v) := by
 simp only [YC]
 rw [X2 h]
 exact (List.map_set (f := fun n : Int => [tv n]) (l := y) (i := j) (a := v)).symm
def ZiO (F : Int -> Int) (x : TNode) : TNode := ⟨x.control, x.parent, x.links.map F⟩
def X6 (F : Int -> Int) (l : List TNode) (j : Nat) : List TNode := (l.take j).map (ZiO F) ++ l.drop j
def X3 (F : Int -> Int) (l : List Int) (k : Nat) : List Int := (l.take k).map F ++ l.drop k
theorem Zkj {F : Int -> Int} {l : List Int} {k : Nat} : (X3 F l k).length = l.length := by simp [X3]; omega
theorem Zkk {F : Int -> Int} {l : List Int} {k : Nat} (h : k < l.length) : g0 (X3 F l k) k = g0 l k := by
 show (X3 F l k).getD k 0 = l.getD k 0
 have : ((l.take k).map F).length = k := by rw [List.length_map, List.length_take]; omega
 rw [List.getD_eq_getElem?_getD, List.getD_eq_getElem?_getD, X3, List.getElem?_append_right (by omega), this, List.getElem?_drop]
 simp
theorem Zkl {F : Int -> Int} {l : List Int} {k : Nat} (h : k < l.length) : (X3 F l k).set k (F (g0 l k)) = X3 F l (k + 1) := by
 have hl : ((l.take k).map F).length = k := by rw [List.length_map, List.length_take]; omega
 have e : g0 l k = l[k] := by simp [h]
 unfold X3
 rw [List.set_append_right _ _ (by omega), hl, Nat.sub_self, List.drop_eq_getElem_cons h, List.set_cons_zero, List.take_succ_eq_append_getElem h, List.map_append, e, List.append_assoc]
 rfl
theorem ZgA {F : Int -> Int} {l : List TNode} {j : Nat} : (X6 F l j).length = l.length := by simp [X6]; omega
theorem Zkm {F : Int -> Int} {l : List TNode} {j : Nat} (h : j < l.length) : (X6 F l j)[j]? = some l[j] := by
 have : ((l.take j).map (ZiO F)).length = j := by rw [List.length_map, List.length_take]; omega
 rw [X6, List.getElem?_append_right (by omega), this, List.getElem?_drop]
 simp [h]
theorem Zkn {F : Int -> Int} {l : List TNode} {j : Nat} (h : j < l.length) : (X6 F l j).set j (ZiO F l[j]) = X6 F l (j + 1) := by
 have hl : ((l.take j).map (ZiO F)).length = j := by rw [List.length_map, List.length_take]; omega
 unfold X6
 rw [List.set_append_right _ _ (by omega), hl, Nat.sub_self, List.drop_eq_getElem_cons h, List.set_cons_zero, List.take_succ_eq_append_getElem h, List.map_append, List.append_assoc]
 rfl
def Zas (F : Int -> Int) (w : TWire) : TWire := ⟨w.name, F w.link⟩
def Zdv (F : Int -> Int) (l : List TWire) (j : Nat) : List TWire := (l.take j).map (Zas F) ++ l.drop j
theorem Zko {F : Int -> Int} {l : List TWire} {j : Nat} (h : j < l.length) : (Zdv F l j)[j]? = some l[j] := by
 have : ((l.take j).map (Zas F)).length = j := by rw [List.length_map, List.length_take]; omega
 rw [Zdv, List.getElem?_append_right (by omega), this, List.getElem?_drop]
 simp [h]
theorem Zkp {F : Int -> Int} {l : List TWire} {j : Nat} (h : j < l.length) : (Zdv F l j).set j (Zas F l[j]) = Zdv F l (j + 1) := by
 have hl : ((l.take j).map (Zas F)).length = j := by rw [List.length_map, List.length_take]; omega
 unfold Zdv
 rw [List.set_append_right _ _ (by omega), hl, Nat.sub_self, List.drop_eq_getElem_cons h, List.set_cons_zero, List.take_succ_eq_append_getElem h, List.map_append, List.append_assoc]
 rfl
theorem ZrS {X : List TNode} {j k : Nat} {x : TNode} {v : Int} (h : X[j]? = some x) (hk : k < x.links.length) : YC (X.map ZK) [(j, 2)] k 0 (.v (.int .i64 v)) = (X.set j ⟨x.control, x.parent, x.links.set k v⟩).map ZK := by
 have h1 := ZmO (y := x.links) (j := k) (v := v) hk
 have e1 : YC (X.map ZK) [(j, 2)] k 0 (.v (.int .i64 v)) = (X.map ZK).set j [tv x.control, tv x.parent, Tr.sl (YC (rI x.links) [] k 0 (.v (.int .i64 v)))] := by
  simp only [YC, List.getElem?_map, h, Option.map_some, ZK, List.getElem?_cons_succ, List.getElem?_cons_zero, List.set_cons_succ, List.set_cons_zero]
 rw [e1, h1, List.map_set]
 rfl
theorem Zbf (b : TBigraph) (e : Int) (o : List ByteArray) (tf : FuncId) (cps : List IV) (B : Sto) (T : Int × ByteArray -> Int × ByteArray) (he0 : 0 <= b.edges) (hbd : Zl 4294967290 b) (hb : b.edges <= 4294967296) (he : 0 <= e /\ e <= 4294967296) (ho : o.length <= 4294967290)
  (hln : ∀ x ∈ b.nodes, ∀ l ∈ x.links, Jd b l) (hlw : ∀ w ∈ b.inner, Jd b w.link) (hT : ∀ l, Jd b l -> ∀ l' S', Ze (Ziv B S' l') cps -> Sem Go.Proofs.Tryz.prog tf l' (oE (ZdI b l) :: cps) S' (oE (T (ZdI b l))) S')
  (lvl : Nat) (S : Sto) (hcp : Ze (Ziv B S lvl) cps) : Sem Go.Proofs.Tryz.prog ZU lvl [.ag ((Za b).map .tr), iI e, .tr (.sl (rS o)), .fn tf cps] S (Zc (Zkh b (Zek b e (Xc o) T) e (Xc o))) S := by
 have hok := Zl8 hcp
 refine Zf Un (by simp [Zc, low, men, Ze]) ?_
 simp only [QB, Za, EVA, ↓reduceIte, Nat.reduceEqDiff, Nat.reduceMul, reduceCtorEq, Nat.reduceAdd, Nat.reduceSub, Nat.reduceLeDiff, Nat.reduceLT, Int.reduceToNat, Int.reduceLE, Int.reduceLT, Ze, men]
 refine Zb (WA b hbd) ?_
 simp only [Zc, Za, List.length_map, EVA, ↓reduceIte, Nat.reduceEqDiff, Nat.reduceMul, reduceCtorEq, Nat.reduceAdd, Nat.reduceSub, Nat.reduceLeDiff, Nat.reduceLT, Int.reduceToNat, Int.reduceLE, Int.reduceLT, Ze, men]
 refine Zb (Zdq o ho) ?_
 obtain ⟨b1, b2, b3, b4, b5, b6, b7⟩ := hbd
 simp only [List.length_map, EVA, ↓reduceIte, Nat.reduceEqDiff, Nat.reduceMul, reduceCtorEq, Nat.reduceAdd, Nat.reduceSub, Nat.reduceLeDiff, Nat.reduceLT, Int.reduceToNat, Int.reduceLE, Int.reduceLT, Ze, men]
 have hFdef : ∃ F, F = Zek b e (Xc o) T := ⟨_, rfl⟩
 obtain ⟨F, hF⟩ := hFdef
 rw [<- hF]
 have hsl : (Xc o).length <= 4294967296 := Nat.le_trans Zkb (by omega)
 have hc : ∀ (loc : List (Nat × Ob)) (l : Int), Jd b l -> lkO 224 loc = some (.bx [.fn tf cps]) -> lkO 288 loc = some (.bx [iI b.roots, .hd (lvl, 576) [] 0 b.nodes.length none b.nodes.length, .hd (lvl, 577) [] 0 b.sites.length none b.sites.length, iI e, .hd (lvl, 672) [] 0 (Xc o).length none (Xc o).length, .hd (lvl, 579) [] 0 b.inner.length none b.inner.length]) -> lkO 672 loc = some (.ar 1 (rS (Xc o)) true (Xc o).length 0) ->
   ∀ l' S', Ze (Zew (ZR lvl loc S) S' l') [iI l, .ab (lvl, 224) 0, .ta (Za b), .ta [tv e], .ab (lvl, 288) 0] -> Sem Go.Proofs.Tryz.prog Jy l' [iI l, .ab (lvl, 224) 0, .ta (Za b), .ta [tv e], .ab (lvl, 288) 0] S' (iI (F l)) S' := fun loc l hl h1 h2 h3 l' S' hs => by
  simp only [Ze, men] at hs
  obtain ⟨_, h224, _, _, h288, _⟩ := hs
  have sT := h224.1.2 _ (by rw [Yn]; exact h1)
  have hc2 := h224.2 _ (by rw [Yn]; exact h1)
  simp only [Ze, men, and_true] at hc2
  have sO := h288.1.2 _ (by rw [Yn]; exact h2)
  have hm := h288.2 _ (by rw [Yn]; exact h2)
  simp only [Ze, men] at hm
  obtain ⟨_, _, _, _, h672, _, _⟩ := hm
  have so := h672.2 _ (by rw [Yn]; exact h3)
  rw [hF]
  exact ZdZ b l e (Xc o) tf cps B T he0 hl (by omega) hb he hsl (hT l hl) l' S' (Zgy hcp hc2) (lvl, 224) (lvl, 288) (lvl, 672) _ _ _ _ _ _ _ _ h224.1.1 h288.1.1 h672.1 sT sO so
 refine Z9 (α := Unit) b.nodes.length (fun j _ => [(28, iI j)]) (fun j _ => [(576, .ar 3 ((X6 F b.nodes j).map ZK) true b.nodes.length 0)]) (fun _ _ => True) () (by simp only [hok, EVA, ↓reduceIte, Nat.reduceEqDiff, Nat.reduceMul, reduceCtorEq, Nat.reduceAdd, Nat.reduceSub, Nat.reduceLeDiff, Nat.reduceLT, Int.reduceToNat, Int.reduceLE, Int.reduceLT, Ze, men]) (by (simp only [EVA, ↓reduceIte, Nat.reduceEqDiff, Nat.reduceMul, reduceCtorEq, Nat.reduceAdd, Nat.reduceSub, Nat.reduceLeDiff, Nat.reduceLT, Int.reduceToNat, Int.reduceLE, Int.reduceLT, Ze, men]) <;> rfl) trivial ?_
 intro j _ hj _
 simp only [List.length_map, EVA, ↓reduceIte, Nat.reduceEqDiff, Nat.reduceMul, reduceCtorEq, Nat.reduceAdd, Nat.reduceSub, Nat.reduceLeDiff, Nat.reduceLT, Int.reduceToNat, Int.reduceLE, Int.reduceLT, Ze, men]
 refine Zu (fun hlt => ?_) (fun hge => ?_)
 ·have hja : j < b.nodes.length := by omega
  have gp := Zkm (F := F) hja
  have ga : ((X6 F b.nodes j).map ZK)[j]? = some [Tr.v (.int .i64 b.nodes[j].control), Tr.v (.int .i64 b.nodes[j].parent), Tr.sl (rI b.nodes[j].links)] := by rw [List.getElem?_map, gp]; rfl
  have hkl : b.nodes[j].links.length <= 4294967290 := b2 _ (List.getElem_mem hja)
  simp only [ga, hja, List.length_map, EVA, ↓reduceIte, Nat.reduceEqDiff, Nat.reduceMul, reduceCtorEq, Nat.reduceAdd, Nat.reduceSub, Nat.reduceLeDiff, Nat.reduceLT, Int.reduceToNat, Int.reduceLE, Int.reduceLT, Ze, men]
  have e0 : (X6 F b.nodes j).set j ⟨b.nodes[j].control, b.nodes[j].parent, X3 F b.nodes[j].links 0⟩ = X6 F b.nodes j := by
   have : (⟨b.nodes[j].control, b.nodes[j].parent, X3 F b.nodes[j].links 0⟩ : TNode) = b.nodes[j] := by simp [X3]
   rw [this]
   have hl : j < (X6 F b.nodes j).length := by rw [ZgA]; exact hja
   have e : b.nodes[j] = (X6 F b.nodes j)[j] := by
    have := gp
    rw [List.getElem?_eq_getElem hl] at this
    exact (Option.some.inj this).symm
   rw [e]
   exact List.set_getElem_self hl
  refine Z9 (α := Unit) b.nodes[j].links.length (fun k _ => [(35, iI k)]) (fun k _ => [(576, .ar 3 (((X6 F b.nodes j).set j ⟨b.nodes[j].control, b.nodes[j].parent, X3 F b.nodes[j].links k⟩).map ZK) true b.nodes.length 0)]) (fun _ _ => True) () (by simp only [hok, EVA, ↓reduceIte, Nat.reduceEqDiff, Nat.reduceMul, reduceCtorEq, Nat.reduceAdd, Nat.reduceSub, Nat.reduceLeDiff, Nat.reduceLT, Int.reduceToNat, Int.reduceLE, Int.reduceLT, Ze, men]) (by (simp only [e0, EVA, ↓reduceIte, Nat.reduceEqDiff, Nat.reduceMul, reduceCtorEq, Nat.reduceAdd, Nat.reduceSub, Nat.reduceLeDiff, Nat.reduceLT, Int.reduceToNat, Int.reduceLE, Int.reduceLT, Ze, men]) <;> rfl) trivial ?_
  intro k _ hk _
  have gq : ((X6 F b.nodes j).set j ⟨b.nodes[j].control, b.nodes[j].parent, X3 F b.nodes[j].links k⟩)[j]? = some ⟨b.nodes[j].control, b.nodes[j].parent, X3 F b.nodes[j].links k⟩ := by
   rw [List.getElem?_set_self (by rw [ZgA]; exact hja)]
  have hgp : (((X6 F b.nodes j).set j ⟨b.nodes[j].control, b.nodes[j].parent, X3 F b.nodes[j].links k⟩).map ZK)[j]? = some [Tr.v (.int .i64 b.nodes[j].control), Tr.v (.int .i64 b.nodes[j].parent), Tr.sl (rI (X3 F b.nodes[j].links k))] := by rw [List.getElem?_map, gq]; rfl
  simp only [hgp, List.length_map, EVA, ↓reduceIte, Nat.reduceEqDiff, Nat.reduceMul, reduceCtorEq, Nat.reduceAdd, Nat.reduceSub, Nat.reduceLeDiff, Nat.reduceLT, Int.reduceToNat, Int.reduceLE, Int.reduceLT, Ze, men]
  refine Zu (fun hlt2 => ?_) (fun hge2 => ?_)
  ·have hka : k < b.nodes[j].links.length := by omega
   have hpl := Zkj (F := F) (l := b.nodes[j].links) (k := k)
   have gk : (rI (X3 F b.nodes[j].links k))[k]? = some [tv (g0 b.nodes[j].links k)] := by rw [X2 (by omega), Zkk hka]
   have hlk : Jd b (g0 b.nodes[j].links k) := hln _ (List.getElem_mem hja) _ (by simp [hka])
   have hsp := ZrS (v := F (g0 b.nodes[j].links k)) gq (k := k) (by show k < (X3 F b.nodes[j].links k).length; omega)
   simp only [hgp, gk, hka, hpl, Nat.zero_add, List.length_map, EVA, ↓reduceIte, Nat.reduceEqDiff, Nat.reduceMul, reduceCtorEq, Nat.reduceAdd, Nat.reduceSub, Nat.reduceLeDiff, Nat.reduceLT, Int.reduceToNat, Int.reduceLE, Int.reduceLT, Ze, men]
   refine ZaO (hc _ (g0 b.nodes[j].links k) hlk rfl rfl rfl) ?_
   have hst : ((X6 F b.nodes j).set j ⟨b.nodes[j].control, b.nodes[j].parent, X3 F b.nodes[j].links k⟩).set j ⟨b.nodes[j].control, b.nodes[j].parent, (X3 F b.nodes[j].links k).set k (F (g0 b.nodes[j].links k))⟩ = (X6 F b.nodes j).set j ⟨b.nodes[j].control, b.nodes[j].parent, X3 F b.nodes[j].links (k + 1)⟩ := by
    rw [List.set_set, Zkl hka]
   rw [hst] at hsp
   simp only [hgp, gk, hka, hpl, hsp, hok, Nat.zero_add, List.length_map, EVA, ↓reduceIte, Nat.reduceEqDiff, Nat.reduceMul, reduceCtorEq, Nat.reduceAdd, Nat.reduceSub, Nat.reduceLeDiff, Nat.reduceLT, Int.reduceToNat, Int.reduceLE, Int.reduceLT, Ze, men]
   exact ⟨by rw [Zg]; omega, Zi () hka rfl trivial⟩
  ·have : k = b.nodes[j].links.length := by omega
   subst this
   have hst : (X6 F b.nodes j).set j ⟨b.nodes[j].control, b.nodes[j].parent, X3 F b.nodes[j].links b.nodes[j].links.length⟩ = X6 F b.nodes (j + 1) := by
    rw [<- Zkn hja]
    congr 1
    simp [ZiO, X3]
   rw [hst]
   simp only [hok, EVA, ↓reduceIte, Nat.reduceEqDiff, Nat.reduceMul, reduceCtorEq, Nat.reduceAdd, Nat.reduceSub, Nat.reduceLeDiff, Nat.reduceLT, Int.reduceToNat, Int.reduceLE, Int.reduceLT, Ze, men]
   exact ⟨by rw [Zg]; omega, Zi () hja rfl trivial⟩
 ·have : j = b.nodes.length := by omega
  subst this
  have hpn : X6 F b.nodes b.nodes.length = (Zkh b F e (Xc o)).nodes := by simp [X6, Zkh, ZiO]
  rw [hpn]
  refine Z9 (α := Unit) b.inner.length (fun j _ => [(52, iI j)]) (fun j _ => [(579, .ar 2 ((Zdv F b.inner j).map ZO) true b.inner.length 0)]) (fun _ _ => True) () (by simp only [hok, EVA, ↓reduceIte, Nat.reduceEqDiff, Nat.reduceMul, reduceCtorEq, Nat.reduceAdd, Nat.reduceSub, Nat.reduceLeDiff, Nat.reduceLT, Int.reduceToNat, Int.reduceLE, Int.reduceLT, Ze, men]) (by (simp only [EVA, ↓reduceIte, Nat.reduceEqDiff, Nat.reduceMul, reduceCtorEq, Nat.reduceAdd, Nat.reduceSub, Nat.reduceLeDiff, Nat.reduceLT, Int.reduceToNat, Int.reduceLE, Int.reduceLT, Ze, men]) <;> rfl) trivial ?_
  intro j _ hj _
  simp only [List.length_map, EVA, ↓reduceIte, Nat.reduceEqDiff, Nat.reduceMul, reduceCtorEq, Nat.reduceAdd, Nat.reduceSub, Nat.reduceLeDiff, Nat.reduceLT, Int.reduceToNat, Int.reduceLE, Int.reduceLT, Ze, men]
  refine Zu (fun hlt => ?_) (fun hge => ?_)
  ·have hja : j < b.inner.length := by omega
   have gp := Zko (F := F) hja
   have ga : ((Zdv F b.inner j).map ZO)[j]? = some [ts b.inner[j].name, tv b.inner[j].link] := by rw [List.getElem?_map, gp]; rfl
   have hsp : YC ((Zdv F b.inner j).map ZO) [] j 1 (.v (.int .i64 (F b.inner[j].link))) = (Zdv F b.inner (j + 1)).map ZO := by
    simp only [YC]
    rw [ga, <- Zkp hja, List.map_set]
    rfl
   have hlk : Jd b b.inner[j].link := hlw _ (List.getElem_mem hja)
   simp only [ga, hja, Nat.zero_add, List.length_map, EVA, ↓reduceIte, Nat.reduceEqDiff, Nat.reduceMul, reduceCtorEq, Nat.reduceAdd, Nat.reduceSub, Nat.reduceLeDiff, Nat.reduceLT, Int.reduceToNat, Int.reduceLE, Int.reduceLT, Ze, men]
   refine ZaO (hc _ b.inner[j].link hlk rfl rfl rfl) ?_
   simp only [ga, hja, hsp, hok, Nat.zero_add, List.length_map, EVA, ↓reduceIte, Nat.reduceEqDiff, Nat.reduceMul, reduceCtorEq, Nat.reduceAdd, Nat.reduceSub, Nat.reduceLeDiff, Nat.reduceLT, Int.reduceToNat, Int.reduceLE, Int.reduceLT, Ze, men]
   exact ⟨by rw [Zg]; omega, Zi () hja rfl trivial⟩
  ·have : j = b.inner.length := by omega
   subst this
   have hpw : Zdv F b.inner b.inner.length = (Zkh b F e (Xc o)).inner := by simp [Zdv, Zkh, Zas]
   rw [hpw]
   exact ⟨by simp [Zkh], by simp [Zkh], rfl⟩
theorem Zcd (b : TBigraph) (e : Int) (o : List ByteArray) (tf : FuncId) (cs : List (List Tr)) (T : Int × ByteArray -> Int × ByteArray) (he0 : 0 <= b.edges) (hbd : Zl 4294967290 b) (hb : b.edges <= 4294967296) (he : 0 <= e /\ e <= 4294967296) (ho : o.length <= 4294967290)
  (hln : ∀ x ∈ b.nodes, ∀ l ∈ x.links, Jd b l) (hlw : ∀ w ∈ b.inner, Jd b w.link) (hT : ∀ l, Jd b l -> ∀ lvl S, Sem Go.Proofs.Tryz.prog tf lvl (oE (ZdI b l) :: cs.map IV.ta) S (oE (T (ZdI b l))) S)
  (lvl : Nat) (S : Sto) : Sem Go.Proofs.Tryz.prog ZU lvl [.ag ((Za b).map .tr), iI e, .tr (.sl (rS o)), .fn tf (cs.map IV.ta)] S (Zc (Zkh b (Zek b e (Xc o) T) e (Xc o))) S :=
 Zbf b e o tf (cs.map IV.ta) (fun _ => none) T he0 hbd hb he ho hln hlw (fun l hl l' S' _ => hT l hl l' S') lvl S Zox
end Go.Fd

/-
  A NAME BECOMES AN EDGE, AN EDGE A NAME: THE PROGRAM'S SIDE. Own work.
-/
namespace Go.Fd
set_option maxRecDepth 20000
theorem Zkq (sig : List TControl) (b : TBigraph) (hn : sig.length <= 4294967296) (hbs : ∀ y ∈ sig, ZD 4294967296 y) (hb : Zl 4294967290 b) (hf : Zx b) (lvl : Nat) (S : Sto) : Sem Go.Proofs.Tryz.prog Wt lvl [.tr (.sl (sig.map Zn)), .ag ((Za b).map .tr)] S (.tu [Zc (@ite TBigraph (bigOK sig b) (Classical.propDecidable _) b ⟨0, [], [], 0, [], []⟩), iB (dc (bigOK sig b))]) S := by
 have hb2 : Zl 4294967296 b := by
  obtain ⟨b1, b2, b3, b4, b5, b6, b7⟩ := hb
  exact ⟨by omega, fun y hy => Nat.le_trans (b2 y hy) (by omega), by omega, by omega, fun y hy => Nat.le_trans (b5 y hy) (by omega), by omega, fun y hy => Nat.le_trans (b7 y hy) (by omega)⟩
 refine Zf Zgg (by simp [Zc, low, men, Ze]) ?_
 simp only [Zb5, Za, EVA, ↓reduceIte, Nat.reduceEqDiff, Nat.reduceMul, reduceCtorEq, Nat.reduceAdd, Nat.reduceSub, Nat.reduceLeDiff, Nat.reduceLT, Int.reduceToNat, Int.reduceLE, Int.reduceLT, Ze, men]
 refine Zb (QF sig b hn hbs hb2) ?_
 cases h : dc (bigOK sig b)
 ·rw [if_neg (dc_not.1 h)]
  simp only [EVA, ↓reduceIte, Nat.reduceEqDiff, Nat.reduceMul, reduceCtorEq, Nat.reduceAdd, Nat.reduceSub, Nat.reduceLeDiff, Nat.reduceLT, Int.reduceToNat, Int.reduceLE, Int.reduceLT, Ze, men]
  try rfl
 ·rw [if_pos (dc_iff.1 h)]
  simp only [Za, EVA, ↓reduceIte, Nat.reduceEqDiff, Nat.reduceMul, reduceCtorEq, Nat.reduceAdd, Nat.reduceSub, Nat.reduceLeDiff, Nat.reduceLT, Int.reduceToNat, Int.reduceLE, Int.reduceLT, Ze, men]
  refine Zb (WA b hb) ?_
  simp only [Zc, Za, List.length_map, EVA, ↓reduceIte, Nat.reduceEqDiff, Nat.reduceMul, reduceCtorEq, Nat.reduceAdd, Nat.reduceSub, Nat.reduceLeDiff, Nat.reduceLT, Int.reduceToNat, Int.reduceLE, Int.reduceLT, Ze, men]
  try rfl
end Go.Fd

/-
  A NAME BECOMES AN EDGE: BOTH SIDES. Own work.
-/
namespace Go.Fd
set_option maxRecDepth 20000
theorem ZiP {n : Nat} {k : Nat} (h : k < n) : g0 (Yw 0 n) k = -1 - (k : Int) := by
 show (Yw 0 n).getD k 0 = _
 rw [List.getD_eq_getElem?_getD, Yw, List.getElem?_map, List.getElem?_range h]
 simp
theorem Zkr {b : TBigraph} {n : Nat} (hn : b.roots = n) {p : Int} (h : -b.roots <= p) : Zeo 0 (Yw 0 n) p = p := by
 unfold Zeo
 split
 ·rw [ZiP (by omega)]; omega
 ·omega
theorem Yi {sig : List TControl} {b : TBigraph} {p U3 : Int} (hr : 0 <= b.roots) (h : W0 sig b p U3) : -b.roots <= p := by
 rcases h with h | h <;> omega
def QG : TBigraph := ⟨0, [], [], 0, [], []⟩
theorem Dp (sig : List TControl) (b : TBigraph) (hn : sig.length <= 4294967296) (hbs : ∀ y ∈ sig, ZD 4294967296 y) (hb : Zl 4294967296 b) (hf : Zx b) (hG : bigOK sig b) (lvl : Nat) (S : Sto) : Sem Go.Proofs.Tryz.prog Yp lvl [.tr (.sl (sig.map Zn)), .ag ((Za b).map .tr)] S (.tu [.ag ((Za b).map .tr), iB true]) S := by
 refine Zf ZaX (by simp [Za, low, men, Ze]) ?_
 simp only [Um, Za, EVA, ↓reduceIte, Nat.reduceEqDiff, Nat.reduceMul, reduceCtorEq, Nat.reduceAdd, Nat.reduceSub, Nat.reduceLeDiff, Nat.reduceLT, Int.reduceToNat, Int.reduceLE, Int.reduceLT, Ze, men]
 refine Zb (V6 sig b hn hbs hb hf) ?_
 rw [Jn hG]
 simp only [Za, EVA, ↓reduceIte, Nat.reduceEqDiff, Nat.reduceMul, reduceCtorEq, Nat.reduceAdd, Nat.reduceSub, Nat.reduceLeDiff, Nat.reduceLT, Int.reduceToNat, Int.reduceLE, Int.reduceLT, Ze, men]
theorem Dq (sig : List TControl) (b : TBigraph) (hn : sig.length <= 4294967296) (hbs : ∀ y ∈ sig, ZD 4294967296 y) (hb : Zl 4294967296 b) (hf : Zx b) (hG : ¬ bigOK sig b) (lvl : Nat) (S : Sto) : Sem Go.Proofs.Tryz.prog Yp lvl [.tr (.sl (sig.map Zn)), .ag ((Za b).map .tr)] S (.tu [Zc QG, iB false]) S := by
 refine Zf ZaX (by simp [Zc, low, men, Ze]) ?_
 simp only [Um, Za, EVA, ↓reduceIte, Nat.reduceEqDiff, Nat.reduceMul, reduceCtorEq, Nat.reduceAdd, Nat.reduceSub, Nat.reduceLeDiff, Nat.reduceLT, Int.reduceToNat, Int.reduceLE, Int.reduceLT, Ze, men]
 refine Zb (V6 sig b hn hbs hb hf) ?_
 rw [Zp hG]
 simp only [Za, EVA, ↓reduceIte, Nat.reduceEqDiff, Nat.reduceMul, reduceCtorEq, Nat.reduceAdd, Nat.reduceSub, Nat.reduceLeDiff, Nat.reduceLT, Int.reduceToNat, Int.reduceLE, Int.reduceLT, Ze, men]
 rfl
theorem QR {l : List ByteArray} (h : V0 l) {s : ByteArray} (hs : s ∈ l) : s.size <= 4 := by
 obtain ⟨i, hi, rfl⟩ := List.getElem_of_mem hs
 exact (h.1 i hi).1.2.2
end Go.Fd

/-
  A NAME BECOMES AN EDGE: BOTH ANSWERS. Own work.
-/
namespace Go.Fd
set_option maxRecDepth 20000
theorem WB {a c : Nat} {b : TBigraph} (h : a <= c) (hb : Zl a b) : Zl c b := by
 obtain ⟨b1, b2, b3, b4, b5, b6, b7⟩ := hb
 exact ⟨by omega, fun y hy => Nat.le_trans (b2 y hy) h, by omega, by omega, fun y hy => Nat.le_trans (b5 y hy) h, by omega, fun y hy => Nat.le_trans (b7 y hy) h⟩
theorem ZcH {sig : List TControl} {b : TBigraph} (h : bigOK sig b) : Zl 1000 b := by
 have hs := h.small
 have s1 := hs.nodes; have s2 := hs.sites; have s3 := hs.inner; have s4 := hs.outer
 refine ⟨by omega, fun y hy => hs.links y hy, by omega, by omega, fun y hy => ?_, by omega, fun w hw => ?_⟩
 ·have := QR h.outer hy; omega
 ·have hn : w.name ∈ inn b := List.mem_map.2 ⟨w, hw, rfl⟩
  have := QR h.inn hn
  simp only [V4]
  omega
theorem ZiQ {n : Nat} : Dn 0 n = (UF n).map fun l => l := by simp [Dn, UF]
end Go.Fd

/-
  TWO NAMES BECOME ONE: THE PROGRAM'S SIDE; A COPY BY NUMBERING ANEW. Own work.
-/
namespace Go.Fd
set_option maxRecDepth 20000
theorem Zfr {n k : Nat} (h : k < n) : g0 (UF n) k = k := by
 show (UF n).getD k 0 = _
 rw [List.getD_eq_getElem?_getD, UF, List.getElem?_map, List.getElem?_range h]
 simp
theorem Zbg (p : Int) (n : Nat) (h : p < n) (lvl : Nat) (S : Sto) : Sem Go.Proofs.Tryz.prog Qz lvl [iI p, tI (UF n)] S (iI p) S := by
 refine Zf Zff trivial ?_
 simp only [Zbb, EVA, ↓reduceIte, Nat.reduceEqDiff, Nat.reduceMul, reduceCtorEq, Nat.reduceAdd, Nat.reduceSub, Nat.reduceLeDiff, Nat.reduceLT, Int.reduceToNat, Int.reduceLE, Int.reduceLT, Ze, men]
 refine Zu (fun hlt => ?_) (fun hge => ?_)
 ·trivial
 ·obtain ⟨k, rfl⟩ : ∃ k : Nat, p = k := ⟨p.toNat, by omega⟩
  have hk : k < (UF n).length := by rw [Q0]; omega
  have ga := X2 hk
  rw [Zfr (by omega)] at ga
  simp only [ga, EVA, ↓reduceIte, Nat.reduceEqDiff, Nat.reduceMul, reduceCtorEq, Nat.reduceAdd, Nat.reduceSub, Nat.reduceLeDiff, Nat.reduceLT, Int.reduceToNat, Int.reduceLE, Int.reduceLT, Ze, men]
  try rfl
theorem Zce (b : TBigraph) (l : Int) (n : Nat) (hn : b.edges = n) (h : 0 <= l) (lvl : Nat) (S : Sto) : Sem Go.Proofs.Tryz.prog QZ lvl [.ag ((Za b).map .tr), iI l, tI (UF n)] S (iI l) S := by
 refine Zf Zgl trivial ?_
 simp only [Zca, Za, hn, EVA, ↓reduceIte, Nat.reduceEqDiff, Nat.reduceMul, reduceCtorEq, Nat.reduceAdd, Nat.reduceSub, Nat.reduceLeDiff, Nat.reduceLT, Int.reduceToNat, Int.reduceLE, Int.reduceLT, Ze, men]
 refine Zu (fun hlt => ?_) (fun hge => ?_)
 ·trivial
 ·obtain ⟨k, rfl⟩ : ∃ k : Nat, l = k := ⟨l.toNat, by omega⟩
  have hk : k < (UF n).length := by rw [Q0]; omega
  have ga := X2 hk
  rw [Zfr (by omega)] at ga
  simp only [ga, EVA, ↓reduceIte, Nat.reduceEqDiff, Nat.reduceMul, reduceCtorEq, Nat.reduceAdd, Nat.reduceSub, Nat.reduceLeDiff, Nat.reduceLT, Int.reduceToNat, Int.reduceLE, Int.reduceLT, Ze, men]
  try rfl
def Zat (l : List TNode) (j : Nat) : Row := (l.take j).map ZK ++ List.replicate (l.length - j) [tv 0, tv 0, Tr.sl []]
theorem Zoy {l : List TNode} : List.replicate l.length [tv 0, tv 0, Tr.sl []] = Zat l 0 := by simp [Zat]
theorem Zoz {l : List TNode} : Zat l l.length = l.map ZK := by simp [Zat]
theorem Zks {l : List TNode} {j : Nat} (h : j <= l.length) : (Zat l j).length = l.length := by simp [Zat]; omega
theorem Zkt {l : List TNode} {j : Nat} (h : j < l.length) : (Zat l j)[j]? = some [tv 0, tv 0, Tr.sl []] := by
 have : (((l.take j).map ZK)).length = j := by rw [List.length_map, List.length_take]; omega
 rw [Zat, List.getElem?_append_right (by omega), this, List.getElem?_replicate]
 rw [if_pos (by omega)]
theorem Zku {l : List TNode} {j : Nat} (h : j < l.length) : (Zat l j).set j (ZK l[j]) = Zat l (j + 1) := by
 have e : (((l.take j).map ZK)).length = j := by rw [List.length_map, List.length_take]; omega
 rw [Zat, List.set_append_right _ _ (by omega), e, Nat.sub_self]
 rw [show l.length - j = (l.length - (j + 1)) + 1 by omega, List.replicate_succ, List.set_cons_zero, Zat, List.take_succ_eq_append_getElem h, List.map_append, List.append_assoc]
 rfl
theorem Zfs {R : Row} {j k : Nat} {e : List Tr} {t : Tr} (h : R[j]? = some e) : YC R [] j k t = R.set j (e.set k t) := by
 simp only [YC, h]
theorem Zft {R : Row} {j : Nat} {e : List Tr} (h : j < R.length) : (R.set j e)[j]? = some e := List.getElem?_set_self h
theorem ZbQ (b : TBigraph) (n E : Nat) (hn : b.nodes.length = n) (hE : b.edges = E) (hbd : Zl 4294967290 b) (hE2 : E <= 4294967290) (hp : ∀ x ∈ b.nodes, x.parent < n /\ ∀ l ∈ x.links, 0 <= l) (hs : ∀ p ∈ b.sites, p < n) (hw : ∀ w ∈ b.inner, 0 <= w.link) (lvl : Nat) (S : Sto) : Sem Go.Proofs.Tryz.prog VY lvl [.ag ((Za b).map .tr), tI (UF n), tI (UF E)] S (Zc b) S := by
 refine Zf ZbL (by simp [Zc, low, men, Ze]) ?_
 simp only [WV, Za, Zo1, Zo2, Nat.zero_max, List.length_map, EVA, ↓reduceIte, Nat.reduceEqDiff, Nat.reduceMul, reduceCtorEq, Nat.reduceAdd, Nat.reduceSub, Nat.reduceLeDiff, Nat.reduceLT, Int.reduceToNat, Int.reduceLE, Int.reduceLT, Ze, men]
 obtain ⟨b1, b2, b3, b4, b5, b6, b7⟩ := hbd
 refine ⟨by omega, by omega, ?_⟩
 refine Z9 (α := Unit) b.nodes.length (fun j _ => [(8, iI j)]) (fun j _ => [(576, .ar 3 (Zat b.nodes j) true b.nodes.length j)]) (fun _ _ => True) () (by simp only [EVA, ↓reduceIte, Nat.reduceEqDiff, Nat.reduceMul, reduceCtorEq, Nat.reduceAdd, Nat.reduceSub, Nat.reduceLeDiff, Nat.reduceLT, Int.reduceToNat, Int.reduceLE, Int.reduceLT, Ze, men]) (by (simp only [Zoy, EVA, ↓reduceIte, Nat.reduceEqDiff, Nat.reduceMul, reduceCtorEq, Nat.reduceAdd, Nat.reduceSub, Nat.reduceLeDiff, Nat.reduceLT, Int.reduceToNat, Int.reduceLE, Int.reduceLT, Ze, men]) <;> rfl) trivial ?_
 intro j _ hj _
 simp only [List.length_map, EVA, ↓reduceIte, Nat.reduceEqDiff, Nat.reduceMul, reduceCtorEq, Nat.reduceAdd, Nat.reduceSub, Nat.reduceLeDiff, Nat.reduceLT, Int.reduceToNat, Int.reduceLE, Int.reduceLT, Ze, men]
 refine Zu (fun hlt => ?_) (fun hge => ?_)
 ·have hja : j < b.nodes.length := by omega
  have ga := Zaw (c := ZK) hja
  have hkl : b.nodes[j].links.length <= 4294967290 := b2 _ (List.getElem_mem hja)
  obtain ⟨p1, p2⟩ := hp _ (List.getElem_mem hja)
  refine Z9 (α := Unit) b.nodes[j].links.length (fun k _ => [(9, .hd (lvl, 1056) [] 0 k none k), (10, iI k)]) (fun k _ => [(1056, .ar 1 (rI (b.nodes[j].links.take k)) true k 0)]) (fun _ _ => True) () (by simp only [EVA, ↓reduceIte, Nat.reduceEqDiff, Nat.reduceMul, reduceCtorEq, Nat.reduceAdd, Nat.reduceSub, Nat.reduceLeDiff, Nat.reduceLT, Int.reduceToNat, Int.reduceLE, Int.reduceLT, Ze, men]) (by (simp only [EVA, ↓reduceIte, Nat.reduceEqDiff, Nat.reduceMul, reduceCtorEq, Nat.reduceAdd, Nat.reduceSub, Nat.reduceLeDiff, Nat.reduceLT, Int.reduceToNat, Int.reduceLE, Int.reduceLT, Ze, men]) <;> rfl) trivial ?_
  intro k _ hk _
  simp only [ga, ZK, List.length_map, EVA, ↓reduceIte, Nat.reduceEqDiff, Nat.reduceMul, reduceCtorEq, Nat.reduceAdd, Nat.reduceSub, Nat.reduceLeDiff, Nat.reduceLT, Int.reduceToNat, Int.reduceLE, Int.reduceLT, Ze, men]
  refine Zu (fun hlt2 => ?_) (fun hge2 => ?_)
  ·have hka : k < b.nodes[j].links.length := by omega
   have gl := X2 hka
   have e0 : g0 b.nodes[j].links k = b.nodes[j].links[k] := by simp [hka]
   have hq := p2 _ (List.getElem_mem hka)
   rw [<- e0] at hq
   have hl3 : (b.nodes[j].links.take k).length = k := by rw [List.length_take]; omega
   have hs : rI (b.nodes[j].links.take k) ++ [[tv (g0 b.nodes[j].links k)]] = rI (b.nodes[j].links.take (k + 1)) := by
    rw [List.take_succ_eq_append_getElem hka, UE, <- e0]
    rfl
   simp only [ga, ZK, gl, hka, hl3, hs, List.length_map, EVA, ↓reduceIte, Nat.reduceEqDiff, Nat.reduceMul, reduceCtorEq, Nat.reduceAdd, Nat.reduceSub, Nat.reduceLeDiff, Nat.reduceLT, Int.reduceToNat, Int.reduceLE, Int.reduceLT, Ze, men]
   have q := Zce b (g0 b.nodes[j].links k) E hE hq
   simp only [Za, List.map_cons, List.map_nil] at q
   refine Zb q ?_
   simp only [ga, ZK, gl, hka, hl3, hs, List.length_map, EVA, ↓reduceIte, Nat.reduceEqDiff, Nat.reduceMul, reduceCtorEq, Nat.reduceAdd, Nat.reduceSub, Nat.reduceLeDiff, Nat.reduceLT, Int.reduceToNat, Int.reduceLE, Int.reduceLT, Ze, men]
   exact ⟨by omega, by rw [Zg]; omega, Zi () hka rfl trivial⟩
  ·have : k = b.nodes[j].links.length := by omega
   subst this
   rw [List.take_length]
   rw [<- hn] at p1
   have hj2 : (UF n).length = n := Q0
   have gu := X2 (l := UF n) (i := j) (by omega)
   rw [Zfr (by omega)] at gu
   have q := Zbg b.nodes[j].parent n (by omega)
   have g1 := Zkt hja
   have hfl := Zks (Nat.le_of_lt hja)
   have hst := Zku hja
   simp only [ga, ZK, gu, g1, hja, List.length_map, EVA, ↓reduceIte, Nat.reduceEqDiff, Nat.reduceMul, reduceCtorEq, Nat.reduceAdd, Nat.reduceSub, Nat.reduceLeDiff, Nat.reduceLT, Int.reduceToNat, Int.reduceLE, Int.reduceLT, Ze, men]
   refine Zb q ?_
   have t1 := Zfs (k := 0) (t := Tr.v (.int .i64 b.nodes[j].control)) g1
   simp only [List.set_cons_zero] at t1
   have t2 := Zfs (k := 1) (t := Tr.v (.int .i64 b.nodes[j].parent)) (Zft (e := [Tr.v (.int .i64 b.nodes[j].control), tv 0, Tr.sl []]) (by rw [hfl]; exact hja))
   simp only [List.set_cons_zero, List.set_cons_succ, List.set_set] at t2
   have t3 := Zfs (k := 2) (t := Tr.sl (rI b.nodes[j].links)) (Zft (e := [Tr.v (.int .i64 b.nodes[j].control), Tr.v (.int .i64 b.nodes[j].parent), Tr.sl []]) (by rw [hfl]; exact hja))
   simp only [List.set_cons_zero, List.set_cons_succ, List.set_set] at t3
   have hst' : (Zat b.nodes j).set j [Tr.v (.int .i64 b.nodes[j].control), Tr.v (.int .i64 b.nodes[j].parent), Tr.sl (rI b.nodes[j].links)] = Zat b.nodes (j + 1) := hst
   rw [hst'] at t3
   have g2 := Zft (e := [Tr.v (.int .i64 b.nodes[j].control), tv 0, Tr.sl []]) (by rw [hfl]; exact hja)
   have g3 := Zft (e := [Tr.v (.int .i64 b.nodes[j].control), Tr.v (.int .i64 b.nodes[j].parent), Tr.sl []]) (by rw [hfl]; exact hja)
   simp only [ga, ZK, gu, g1, g2, g3, t1, t2, t3, hja, List.length_map, EVA, ↓reduceIte, Nat.reduceEqDiff, Nat.reduceMul, reduceCtorEq, Nat.reduceAdd, Nat.reduceSub, Nat.reduceLeDiff, Nat.reduceLT, Int.reduceToNat, Int.reduceLE, Int.reduceLT, Ze, men]
   exact ⟨by rw [Zg]; omega, Zi () hja rfl trivial⟩
 ·have : j = b.nodes.length := by omega
  subst this
  rw [Zoz]
  refine Z9 (α := Unit) b.sites.length (fun j _ => [(11, iI j)]) (fun j _ => [(224, .bx [iI b.roots, .hd (lvl, 576) [] 0 b.nodes.length none b.nodes.length, .hd (lvl, 800) [] 0 j none j, iI b.edges, .hd (lvl, 672) [] 0 b.outer.length none b.outer.length, .hd (lvl, 801) [] 0 0 none 0]), (800, .ar 1 (rI (b.sites.take j)) true j 0)]) (fun _ _ => True) () (by simp only [EVA, ↓reduceIte, Nat.reduceEqDiff, Nat.reduceMul, reduceCtorEq, Nat.reduceAdd, Nat.reduceSub, Nat.reduceLeDiff, Nat.reduceLT, Int.reduceToNat, Int.reduceLE, Int.reduceLT, Ze, men]) (by (simp only [EVA, ↓reduceIte, Nat.reduceEqDiff, Nat.reduceMul, reduceCtorEq, Nat.reduceAdd, Nat.reduceSub, Nat.reduceLeDiff, Nat.reduceLT, Int.reduceToNat, Int.reduceLE, Int.reduceLT, Ze, men]) <;> rfl) trivial ?_
  intro j _ hj _
  simp only [List.length_map, EVA, ↓reduceIte, Nat.reduceEqDiff, Nat.reduceMul, reduceCtorEq, Nat.reduceAdd, Nat.reduceSub, Nat.reduceLeDiff, Nat.reduceLT, Int.reduceToNat, Int.reduceLE, Int.reduceLT, Ze, men]
  refine Zu (fun hlt => ?_) (fun hge => ?_)
  ·have hja : j < b.sites.length := by omega
   have ga := X2 hja
   have e0 : g0 b.sites j = b.sites[j] := by simp [hja]
   have hq := hs _ (List.getElem_mem hja)
   rw [<- e0] at hq
   have hl3 : (b.sites.take j).length = j := by rw [List.length_take]; omega
   have hs : rI (b.sites.take j) ++ [[tv (g0 b.sites j)]] = rI (b.sites.take (j + 1)) := by
    rw [List.take_succ_eq_append_getElem hja, UE, <- e0]
    rfl
   simp only [ga, hja, hl3, hs, List.length_map, EVA, ↓reduceIte, Nat.reduceEqDiff, Nat.reduceMul, reduceCtorEq, Nat.reduceAdd, Nat.reduceSub, Nat.reduceLeDiff, Nat.reduceLT, Int.reduceToNat, Int.reduceLE, Int.reduceLT, Ze, men]
   refine Zb (Zbg (g0 b.sites j) n hq) ?_
   simp only [ga, hja, hl3, hs, List.length_map, EVA, ↓reduceIte, Nat.reduceEqDiff, Nat.reduceMul, reduceCtorEq, Nat.reduceAdd, Nat.reduceSub, Nat.reduceLeDiff, Nat.reduceLT, Int.reduceToNat, Int.reduceLE, Int.reduceLT, Ze, men]
   exact ⟨by omega, by rw [Zg]; omega, Zi () hja rfl trivial⟩
  ·have : j = b.sites.length := by omega
   subst this
   rw [List.take_length]
   refine Z9 (α := Unit) b.inner.length (fun j _ => [(12, iI j)]) (fun j _ => [(224, .bx [iI b.roots, .hd (lvl, 576) [] 0 b.nodes.length none b.nodes.length, .hd (lvl, 800) [] 0 b.sites.length none b.sites.length, iI b.edges, .hd (lvl, 672) [] 0 b.outer.length none b.outer.length, .hd (lvl, 801) [] 0 j none j]), (801, .ar 2 ((b.inner.take j).map ZO) true j 0)]) (fun _ _ => True) () (by simp only [EVA, ↓reduceIte, Nat.reduceEqDiff, Nat.reduceMul, reduceCtorEq, Nat.reduceAdd, Nat.reduceSub, Nat.reduceLeDiff, Nat.reduceLT, Int.reduceToNat, Int.reduceLE, Int.reduceLT, Ze, men]) (by (simp only [EVA, ↓reduceIte, Nat.reduceEqDiff, Nat.reduceMul, reduceCtorEq, Nat.reduceAdd, Nat.reduceSub, Nat.reduceLeDiff, Nat.reduceLT, Int.reduceToNat, Int.reduceLE, Int.reduceLT, Ze, men]) <;> rfl) trivial ?_
   intro j _ hj _
   simp only [List.length_map, EVA, ↓reduceIte, Nat.reduceEqDiff, Nat.reduceMul, reduceCtorEq, Nat.reduceAdd, Nat.reduceSub, Nat.reduceLeDiff, Nat.reduceLT, Int.reduceToNat, Int.reduceLE, Int.reduceLT, Ze, men]
   refine Zu (fun hlt => ?_) (fun hge => ?_)
   ·have hja : j < b.inner.length := by omega
    have ga := Zaw (c := ZO) hja
    have hq := hw _ (List.getElem_mem hja)
    have hl3 : (b.inner.take j).length = j := by rw [List.length_take]; omega
    have hs : (b.inner.take j).map ZO ++ [[ts b.inner[j].name, tv b.inner[j].link]] = (b.inner.take (j + 1)).map ZO := by
     rw [List.take_succ_eq_append_getElem hja, List.map_append]
     rfl
    simp only [ga, ZO, hja, hl3, hs, List.length_map, EVA, ↓reduceIte, Nat.reduceEqDiff, Nat.reduceMul, reduceCtorEq, Nat.reduceAdd, Nat.reduceSub, Nat.reduceLeDiff, Nat.reduceLT, Int.reduceToNat, Int.reduceLE, Int.reduceLT, Ze, men]
    have q := Zce b b.inner[j].link E hE hq
    simp only [Za, List.map_cons, List.map_nil] at q
    refine Zb q ?_
    simp only [ga, ZO, hja, hl3, hs, List.length_map, EVA, ↓reduceIte, Nat.reduceEqDiff, Nat.reduceMul, reduceCtorEq, Nat.reduceAdd, Nat.reduceSub, Nat.reduceLeDiff, Nat.reduceLT, Int.reduceToNat, Int.reduceLE, Int.reduceLT, Ze, men]
    exact ⟨by omega, by rw [Zg]; omega, Zi () hja rfl trivial⟩
   ·have : j = b.inner.length := by omega
    subst this
    rw [List.take_length]
    exact ⟨rfl, rfl⟩
theorem Zkv (b : TBigraph) (E : Nat) (hE : b.edges = E) (hbd : Zl 4294967290 b) (hE2 : E <= 4294967290) (hp : ∀ x ∈ b.nodes, x.parent < b.nodes.length /\ ∀ l ∈ x.links, 0 <= l) (hs : ∀ p ∈ b.sites, p < b.nodes.length) (hw : ∀ w ∈ b.inner, 0 <= w.link) (lvl : Nat) (S : Sto) : Sem Go.Proofs.Tryz.prog Wu lvl [.ag ((Za b).map .tr)] S (Zc b) S := by
 refine Zf Zgh (by simp [Zc, low, men, Ze]) ?_
 simp only [Zb6, Za, List.length_map, EVA, ↓reduceIte, Nat.reduceEqDiff, Nat.reduceMul, reduceCtorEq, Nat.reduceAdd, Nat.reduceSub, Nat.reduceLeDiff, Nat.reduceLT, Int.reduceToNat, Int.reduceLE, Int.reduceLT, Ze, men]
 have b1 := hbd.1
 refine Z9 (α := Unit) b.nodes.length (fun j _ => [(3, .hd (lvl, 224) [] 0 j none j), (5, iI j)]) (fun j _ => [(224, .ar 1 (rI (UF j)) true j 0)]) (fun _ _ => True) () (by simp only [EVA, ↓reduceIte, Nat.reduceEqDiff, Nat.reduceMul, reduceCtorEq, Nat.reduceAdd, Nat.reduceSub, Nat.reduceLeDiff, Nat.reduceLT, Int.reduceToNat, Int.reduceLE, Int.reduceLT, Ze, men]) (by (simp only [EVA, ↓reduceIte, Nat.reduceEqDiff, Nat.reduceMul, reduceCtorEq, Nat.reduceAdd, Nat.reduceSub, Nat.reduceLeDiff, Nat.reduceLT, Int.reduceToNat, Int.reduceLE, Int.reduceLT, Ze, men]) <;> rfl) trivial ?_
 intro j _ hj _
 simp only [List.length_map, EVA, ↓reduceIte, Nat.reduceEqDiff, Nat.reduceMul, reduceCtorEq, Nat.reduceAdd, Nat.reduceSub, Nat.reduceLeDiff, Nat.reduceLT, Int.reduceToNat, Int.reduceLE, Int.reduceLT, Ze, men]
 refine Zu (fun hlt => ?_) (fun hge => ?_)
 ·have hja : j < b.nodes.length := by omega
  have hl : (UF j).length = j := Q0
  have hs : rI (UF j) ++ [[tv (j : Int)]] = rI (UF (j + 1)) := by simp [UF, rI, List.range_succ]
  simp only [hja, hl, hs, List.length_map, EVA, ↓reduceIte, Nat.reduceEqDiff, Nat.reduceMul, reduceCtorEq, Nat.reduceAdd, Nat.reduceSub, Nat.reduceLeDiff, Nat.reduceLT, Int.reduceToNat, Int.reduceLE, Int.reduceLT, Ze, men]
  exact ⟨by omega, by rw [Zg]; omega, Zi () hja rfl trivial⟩
 ·have : j = b.nodes.length := by omega
  subst this
  refine Z9 (α := Unit) E (fun j _ => [(4, .hd (lvl, 256) [] 0 j none j), (6, iI j)]) (fun j _ => [(256, .ar 1 (rI (UF j)) true j 0)]) (fun _ _ => True) () (by simp only [EVA, ↓reduceIte, Nat.reduceEqDiff, Nat.reduceMul, reduceCtorEq, Nat.reduceAdd, Nat.reduceSub, Nat.reduceLeDiff, Nat.reduceLT, Int.reduceToNat, Int.reduceLE, Int.reduceLT, Ze, men]) (by (simp only [EVA, ↓reduceIte, Nat.reduceEqDiff, Nat.reduceMul, reduceCtorEq, Nat.reduceAdd, Nat.reduceSub, Nat.reduceLeDiff, Nat.reduceLT, Int.reduceToNat, Int.reduceLE, Int.reduceLT, Ze, men]) <;> rfl) trivial ?_
  intro j _ hj _
  simp only [hE, List.length_map, EVA, ↓reduceIte, Nat.reduceEqDiff, Nat.reduceMul, reduceCtorEq, Nat.reduceAdd, Nat.reduceSub, Nat.reduceLeDiff, Nat.reduceLT, Int.reduceToNat, Int.reduceLE, Int.reduceLT, Ze, men]
  refine Zu (fun hlt => ?_) (fun hge => ?_)
  ·have hja : j < E := by omega
   have hl : (UF j).length = j := Q0
   have hs : rI (UF j) ++ [[tv (j : Int)]] = rI (UF (j + 1)) := by simp [UF, rI, List.range_succ]
   simp only [hja, hl, hs, List.length_map, EVA, ↓reduceIte, Nat.reduceEqDiff, Nat.reduceMul, reduceCtorEq, Nat.reduceAdd, Nat.reduceSub, Nat.reduceLeDiff, Nat.reduceLT, Int.reduceToNat, Int.reduceLE, Int.reduceLT, Ze, men]
   exact ⟨by omega, by rw [Zg]; omega, Zi () hja rfl trivial⟩
  ·have : j = E := by omega
   subst this
   have l1 : (UF b.nodes.length).length = b.nodes.length := Q0
   have l2 : (UF j).length = j := Q0
   have q := ZbQ b b.nodes.length j rfl hE hbd hE2 hp hs hw
   simp only [Za, List.map_cons, List.map_nil, hE] at q
   rw [show cut (rI (UF b.nodes.length)) 0 b.nodes.length = rI (UF b.nodes.length) from Dm (by rw [List.length_map, l1]), show cut (rI (UF j)) 0 j = rI (UF j) from Dm (by rw [List.length_map, l2])]
   refine ⟨by omega, by omega, Zb q ?_⟩
   simp only [Zc, hE, List.length_map, EVA, ↓reduceIte, Nat.reduceEqDiff, Nat.reduceMul, reduceCtorEq, Nat.reduceAdd, Nat.reduceSub, Nat.reduceLeDiff, Nat.reduceLT, Int.reduceToNat, Int.reduceLE, Int.reduceLT, Ze, men]
   try rfl
theorem Zdw {sig : List TControl} {b : TBigraph} (h : bigOK sig b) {x : TNode} (hx : x ∈ b.nodes) : x.parent < b.nodes.length /\ ∀ l ∈ x.links, 0 <= l /\ l < b.edges + b.outer.length := by
 obtain ⟨k, hk, rfl⟩ := List.getElem_of_mem hx
 have q := h.nodes k hk
 refine ⟨?_, fun l hl => ?_⟩
 ·rcases q.par with p | p <;> omega
 ·have := q.links l hl
  unfold Jd at this
  omega
theorem DK {sig : List TControl} {b : TBigraph} (h : bigOK sig b) {p : Int} (hp : p ∈ b.sites) : p < b.nodes.length := by
 rcases h.sites p hp with q | q <;> omega
end Go.Fd

/-
  NAMES IN ORDER, AND THEIR LINKS, AS THE REFERENCE HAS THEM. Own work.
-/
namespace Go.Fd
set_option maxRecDepth 20000
theorem ZrT {O : List ByteArray} {x : ByteArray} {k : Nat} (hp : O.Pairwise ltS) (h1 : ∀ y ∈ O.take k, ltS y x) (h2 : ∀ y ∈ O.drop k, ltS x y) : (O.take k ++ ([x] ++ O.drop k)).Pairwise ltS := by
 refine List.pairwise_append.2 ⟨hp.sublist (List.take_sublist ..), List.pairwise_append.2 ⟨List.pairwise_singleton .., hp.sublist (List.drop_sublist ..), fun a ha b hb => ?_⟩, fun a ha b hb => ?_⟩
 ·rw [List.mem_singleton.1 ha]; exact h2 b hb
 ·rcases List.mem_append.1 hb with hb | hb
  ·rw [List.mem_singleton.1 hb]; exact h1 a ha
  ·have q := hp
   rw [<- List.take_append_drop k O] at q
   exact (List.pairwise_append.1 q).2.2 a ha b hb
theorem Zhp {l : List ByteArray} : (Xc l).Pairwise ltS := Zka ordsS
theorem setS_mem {l : List ByteArray} {c : ByteArray} : c ∈ Xc l ↔ c ∈ l := setG_mem
theorem Zik {l : List ByteArray} : (Xc l).length <= l.length := Zkb
theorem Zil {l : List ByteArray} {i k : Nat} (hi : i < l.length) (h1 : ∀ y ∈ (Xc (l.take i)).take k, ltS y l[i]) (h2 : ∀ y ∈ (Xc (l.take i)).drop k, ltS l[i] y) : Xc (l.take (i + 1)) = (Xc (l.take i)).take k ++ ([l[i]] ++ (Xc (l.take i)).drop k) := by
 refine Zhm ordsS (ZrT Zhp h1 h2) fun c => ?_
 rw [List.take_succ_eq_append_getElem hi]
 have e : c ∈ Xc (l.take i) ↔ c ∈ l.take i := setS_mem
 rw [<- List.take_append_drop k (Xc (l.take i)), List.mem_append] at e
 simp only [List.mem_append, <- e]
 constructor
 ·rintro ((h | h) | h)
  ·exact .inl h
  ·exact .inr (.inr h)
  ·exact .inr (.inl h)
 ·rintro (h | h | h)
  ·exact .inl (.inl h)
  ·exact .inr h
  ·exact .inl (.inr h)
theorem Zkw {l : List ByteArray} {i : Nat} (hi : i < l.length) (h : l[i] ∈ Xc (l.take i)) : Xc (l.take (i + 1)) = Xc (l.take i) := by
 refine Zhm ordsS Zhp fun c => ?_
 rw [List.take_succ_eq_append_getElem hi, List.mem_append, setS_mem]
 constructor
 ·rintro (h2 | h2)
  ·exact h2
  ·rw [List.mem_singleton.1 h2]; exact setS_mem.1 h
 ·exact .inl
theorem ZrU {l : List ByteArray} {j : Nat} : cut (rS l) 0 (j - 0) = rS (l.take j) := by simp [cut, rS, List.map_take]
theorem ZrV {l : List ByteArray} {j : Nat} : cut (rS l) j (l.length - j) = rS (l.drop j) := by
 simp only [cut, rS, <- List.map_drop]
 rw [<- List.map_take, List.take_of_length_le (by rw [List.length_drop]; omega)]
theorem ZmP {a b : List ByteArray} {x : ByteArray} : rS a ++ [[Tr.v (Value.string x)]] ++ rS b = rS (a ++ ([x] ++ b)) := by simp [rS]
theorem ZmQ {a : List ByteArray} : (rS a).length = a.length := by simp [rS]
theorem Zkx : Xc [] = [] := Zhm ordsS List.Pairwise.nil fun c => Iff.rfl
theorem ZgB (l : List ByteArray) (hl : l.length <= 4294967290) (lvl : Nat) (S : Sto) : Sem Go.Proofs.Tryz.prog QO lvl [.tr (.sl (rS l))] S (.ow 1 (rS (Xc l)) true) S := by
 refine Zf Zdb (by simp [low, men, Ze]) ?_
 simp only [Da, List.length_map, EVA, ↓reduceIte, Nat.reduceEqDiff, Nat.reduceMul, reduceCtorEq, Nat.reduceAdd, Nat.reduceSub, Nat.reduceLeDiff, Nat.reduceLT, Int.reduceToNat, Int.reduceLE, Int.reduceLT, Ze, men]
 refine Z9 (α := Unit) l.length (fun j _ => [(3, .hd (lvl, 96) [] 0 (Xc (l.take j)).length none (Xc (l.take j)).length), (4, iI j)]) (fun j _ => [(96, .ar 1 (rS (Xc (l.take j))) true (Xc (l.take j)).length 0)]) (fun _ _ => True) () (by simp only [EVA, ↓reduceIte, Nat.reduceEqDiff, Nat.reduceMul, reduceCtorEq, Nat.reduceAdd, Nat.reduceSub, Nat.reduceLeDiff, Nat.reduceLT, Int.reduceToNat, Int.reduceLE, Int.reduceLT, Ze, men]) (by rw [List.take_zero, Zkx]; (simp only [EVA, ↓reduceIte, Nat.reduceEqDiff, Nat.reduceMul, reduceCtorEq, Nat.reduceAdd, Nat.reduceSub, Nat.reduceLeDiff, Nat.reduceLT, Int.reduceToNat, Int.reduceLE, Int.reduceLT, Ze, men]) <;> rfl) trivial ?_
 intro j _ hj _
 simp only [List.length_map, EVA, ↓reduceIte, Nat.reduceEqDiff, Nat.reduceMul, reduceCtorEq, Nat.reduceAdd, Nat.reduceSub, Nat.reduceLeDiff, Nat.reduceLT, Int.reduceToNat, Int.reduceLE, Int.reduceLT, Ze, men]
 refine Zu (fun hlt => ?_) (fun hge => ?_)
 ·have hja : j < l.length := by omega
  have ga := Zgt (e0 := e0S) (c := fun n : ByteArray => [ts n]) hja
  rw [Dl hja] at ga
  obtain ⟨O, hO⟩ : ∃ O, O = Xc (l.take j) := ⟨_, rfl⟩
  have hOl : O.length <= j := by rw [hO]; exact Nat.le_trans Zik (by rw [List.length_take]; omega)
  have hOp : O.Pairwise ltS := by rw [hO]; exact Zhp
  rw [<- hO]
  refine Z9 (α := Unit) O.length (fun k _ => [(5, iI k)]) (fun _ _ => []) (fun k _ => ∀ y ∈ O.take k, ltS y l[j]) () (by simp only [EVA, ↓reduceIte, Nat.reduceEqDiff, Nat.reduceMul, reduceCtorEq, Nat.reduceAdd, Nat.reduceSub, Nat.reduceLeDiff, Nat.reduceLT, Int.reduceToNat, Int.reduceLE, Int.reduceLT, Ze, men]) (by (simp only [EVA, ↓reduceIte, Nat.reduceEqDiff, Nat.reduceMul, reduceCtorEq, Nat.reduceAdd, Nat.reduceSub, Nat.reduceLeDiff, Nat.reduceLT, Int.reduceToNat, Int.reduceLE, Int.reduceLT, Ze, men]) <;> rfl) (by simp) ?_
  intro k _ hk hK
  simp only [List.length_map, EVA, ↓reduceIte, Nat.reduceEqDiff, Nat.reduceMul, reduceCtorEq, Nat.reduceAdd, Nat.reduceSub, Nat.reduceLeDiff, Nat.reduceLT, Int.reduceToNat, Int.reduceLE, Int.reduceLT, Ze, men]
  refine Zu (fun hlt2 => ?_) (fun hge2 => ?_)
  ·have hka : k < O.length := by omega
   have gk := Zgt (e0 := e0S) (c := fun n : ByteArray => [ts n]) hka
   rw [Dl hka] at gk
   have hm : min k O.length = k := by omega
   have hq1 : k + 1 + (O.length - k) = O.length + 1 := by omega
   have hq2 : max (max (max 0 k) (k + 1)) (O.length + 1) = O.length + 1 := by omega
   have hq3 : k + (O.length - k) = O.length := by omega
   simp only [ga, gk, hja, hka, hm, hq1, hq2, hq3, ZrU, ZrV, Zo1, Zo2, ZmP, ZmQ, List.length_append, List.length_take, List.length_drop, List.length_map, EVA, ↓reduceIte, Nat.reduceEqDiff, Nat.reduceMul, reduceCtorEq, Nat.reduceAdd, Nat.reduceSub, Nat.reduceLeDiff, Nat.reduceLT, Int.reduceToNat, Int.reduceLE, Int.reduceLT, Ze, men]
   refine Zu (fun h1 => ?_) (fun h1 => ?_)
   ·exact ⟨by rw [Zg]; omega, Zi () hka rfl fun y hy => by
     rw [List.take_succ_eq_append_getElem hka] at hy
     rcases List.mem_append.1 hy with hy | hy
     ·exact hK y hy
     ·rw [List.mem_singleton.1 hy]; exact h1⟩
   ·have hkn : decide ((k : Int) = (O.length : Int)) = false := by simp; omega
    rw [if_pos hkn]
    refine Zu (fun h2 => ?_) (fun h2 => ?_)
    ·have h3 : ltS l[j] O[k] := by
      rcases ordsS.tri l[j] O[k] with q | q | q
      ·exact q
      ·exact absurd q.symm h2
      ·exact absurd q h1
     have hput := Zil (k := k) hja (by rw [<- hO]; exact hK) (by
      rw [<- hO]
      intro y hy
      rw [List.drop_eq_getElem_cons hka] at hy
      rcases List.mem_cons.1 hy with rfl | hy
      ·exact h3
      ·have q := hOp
       rw [<- List.take_append_drop k O, List.drop_eq_getElem_cons hka] at q
       exact ordsS.tr _ _ _ h3 ((List.pairwise_cons.1 (List.pairwise_append.1 q).2.1).1 y hy))
     rw [<- hO] at hput
     have hpl : (O.take k ++ ([l[j]] ++ O.drop k)).length = O.length + 1 := by
      simp only [List.length_append, List.length_take, List.length_drop, List.length_cons, List.length_nil]
      omega
     have hfit : Q1 .i64 ((j : Int) + 1) := by rw [Zg]; omega
     and_intros
     all_goals try first | omega | exact fun _ => trivial
     ·exact hfit.1
     ·exact hfit.2
     ·exact Zi () hja (by rw [hput, hpl]; rfl) trivial
    ·have hkeep := Zkw hja (by rw [<- hO, <- (Classical.not_not.1 h2)]; exact List.getElem_mem hka)
     rw [<- hO] at hkeep
     exact ⟨by rw [Zg]; omega, Zi () hja (by rw [hkeep]; rfl) trivial⟩
  ·have : k = O.length := by omega
   subst this
   have hq1 : O.length + 1 + (O.length - O.length) = O.length + 1 := by omega
   have hq2 : max (max (max 0 O.length) (O.length + 1)) (O.length + 1) = O.length + 1 := by omega
   simp only [ga, hja, hq1, hq2, ZrU, ZrV, Zo1, Zo2, ZmP, ZmQ, List.length_append, List.length_take, List.length_drop, List.length_map, EVA, ↓reduceIte, Nat.reduceEqDiff, Nat.reduceMul, reduceCtorEq, Nat.reduceAdd, Nat.reduceSub, Nat.reduceLeDiff, Nat.reduceLT, Int.reduceToNat, Int.reduceLE, Int.reduceLT, Ze, men]
   have hput := Zil (k := O.length) hja (by rw [<- hO]; exact hK) (by
    rw [<- hO, List.drop_length]
    intro y hy
    cases hy)
   rw [<- hO] at hput
   rw [List.take_length] at hput
   have hpl : (O ++ ([l[j]] ++ O.drop O.length)).length = O.length + 1 := by
    simp only [List.length_append, List.length_drop, List.length_cons, List.length_nil]
    omega
   have hfit : Q1 .i64 ((j : Int) + 1) := by rw [Zg]; omega
   and_intros
   all_goals try first | omega | exact fun _ => trivial
   ·exact hfit.1
   ·exact hfit.2
   ·exact Zi () hja (by rw [hput, hpl]; rfl) trivial
 ·have : j = l.length := by omega
  subst this
  rw [List.take_length]
theorem Zdx (names : List ByteArray) (e : Int) (o : List ByteArray) (hn : names.length <= 4294967290) (he : -4294967296 <= e /\ e <= 4294967296) (ho : o.length <= 4294967290) (lvl : Nat) (S : Sto) : Sem Go.Proofs.Tryz.prog VM lvl [.tr (.sl (rS names)), iI e, .tr (.sl (rS o))] S (.ow 1 (rI (names.map fun x => e + ixS o x)) true) S := by
 refine Zf ZdO trivial ?_
 simp only [DZ, List.length_map, EVA, ↓reduceIte, Nat.reduceEqDiff, Nat.reduceMul, reduceCtorEq, Nat.reduceAdd, Nat.reduceSub, Nat.reduceLeDiff, Nat.reduceLT, Int.reduceToNat, Int.reduceLE, Int.reduceLT, Ze, men]
 refine Z9 (α := Unit) names.length (fun j _ => [(7, .hd (lvl, 288) [] 0 j none j), (8, iI j)]) (fun j _ => [(288, .ar 1 (rI ((names.take j).map fun x => e + ixS o x)) true j 0)]) (fun _ _ => True) () (by simp only [EVA, ↓reduceIte, Nat.reduceEqDiff, Nat.reduceMul, reduceCtorEq, Nat.reduceAdd, Nat.reduceSub, Nat.reduceLeDiff, Nat.reduceLT, Int.reduceToNat, Int.reduceLE, Int.reduceLT, Ze, men]) (by (simp only [EVA, ↓reduceIte, Nat.reduceEqDiff, Nat.reduceMul, reduceCtorEq, Nat.reduceAdd, Nat.reduceSub, Nat.reduceLeDiff, Nat.reduceLT, Int.reduceToNat, Int.reduceLE, Int.reduceLT, Ze, men]) <;> rfl) trivial ?_
 intro j _ hj _
 simp only [List.length_map, EVA, ↓reduceIte, Nat.reduceEqDiff, Nat.reduceMul, reduceCtorEq, Nat.reduceAdd, Nat.reduceSub, Nat.reduceLeDiff, Nat.reduceLT, Int.reduceToNat, Int.reduceLE, Int.reduceLT, Ze, men]
 refine Zu (fun hlt => ?_) (fun hge => ?_)
 ·have hja : j < names.length := by omega
  have ga := Zgt (e0 := e0S) (c := fun n : ByteArray => [ts n]) hja
  rw [Dl hja] at ga
  have hl2 : (names.take j).length = j := by rw [List.length_take]; omega
  have x1 := Zii (l := o) (s := names[j])
  have x2 := Zij (l := o) (s := names[j])
  have hs : rI ((names.take j).map fun x => e + ixS o x) ++ [[tv (e + ixS o names[j])]] = rI ((names.take (j + 1)).map fun x => e + ixS o x) := by
   rw [List.take_succ_eq_append_getElem hja, List.map_append, UE]
   rfl
  simp only [ga, hja, List.length_map, EVA, ↓reduceIte, Nat.reduceEqDiff, Nat.reduceMul, reduceCtorEq, Nat.reduceAdd, Nat.reduceSub, Nat.reduceLeDiff, Nat.reduceLT, Int.reduceToNat, Int.reduceLE, Int.reduceLT, Ze, men]
  refine Zb (Zih o names[j] (by omega)) ?_
  simp only [ga, hja, hl2, hs, List.length_map, EVA, ↓reduceIte, Nat.reduceEqDiff, Nat.reduceMul, reduceCtorEq, Nat.reduceAdd, Nat.reduceSub, Nat.reduceLeDiff, Nat.reduceLT, Int.reduceToNat, Int.reduceLE, Int.reduceLT, Ze, men]
  exact ⟨by rw [Zg]; omega, by omega, by rw [Zg]; omega, Zi () hja rfl trivial⟩
 ·have : j = names.length := by omega
  subst this
  rw [List.take_length]
  exact ⟨by simp, rfl⟩
theorem Zl9 {b : TBigraph} {l : Int} (he : 0 <= b.edges /\ b.edges <= 8) (hl : Jd b l) : -4294967296 <= (ZdI b l).1 /\ (ZdI b l).1 <= 4294967296 := by
 rcases Vg hl with ⟨h0, h1⟩ | ⟨i, hi, rfl⟩
 ·rw [Zgw h1]; dsimp only; omega
 ·rw [Zgx hi]; dsimp only; omega
end Go.Fd

/-
  OpenName: BOTH ANSWERS OF THE REFERENCE. Own work.
-/
namespace Go.Fd
end Go.Fd

/-
  ONE BIGRAPH UNDER ANOTHER: WHAT COMPOSITION COMPUTES, IN PLAIN TERMS. Own work.
-/
namespace Go.Fd
set_option maxRecDepth 20000
def Zbh (a b : TBigraph) (roots : Int) (ss : List Int) (o : List ByteArray) (FL FR mv : Int -> Int) : TBigraph :=
 ⟨roots, a.nodes.map (ZiO FL) ++ b.nodes.map (fun x => ⟨x.control, mv x.parent, x.links.map FR⟩), ss ++ b.sites.map mv, a.edges + b.edges, o, b.inner.map (Zas FR)⟩
theorem Zhq {sig : List TControl} {a b : TBigraph} (ha : bigOK sig a) (hb : bigOK sig b) {roots : Int} {ss : List Int} {o : List ByteArray} {FL FR mv FL' FR' mv' : Int -> Int} (hL : ∀ l, Jd a l -> FL l = FL' l) (hR : ∀ l, Jd b l -> FR l = FR' l) (hm : ∀ p, -b.roots <= p -> mv p = mv' p) :
  Zbh a b roots ss o FL FR mv = Zbh a b roots ss o FL' FR' mv' := by
 have hr := hb.roots.1
 unfold Zbh
 have e1 : a.nodes.map (ZiO FL) = a.nodes.map (ZiO FL') := List.map_congr_left fun x hx => by
  obtain ⟨i, hi, rfl⟩ := List.getElem_of_mem hx
  unfold ZiO
  congr 1
  exact List.map_congr_left fun l hl => hL l ((ha.nodes i hi).links l hl)
 have e2 : b.nodes.map (fun x => (⟨x.control, mv x.parent, x.links.map FR⟩ : TNode)) = b.nodes.map (fun x => ⟨x.control, mv' x.parent, x.links.map FR'⟩) := List.map_congr_left fun x hx => by
  obtain ⟨i, hi, rfl⟩ := List.getElem_of_mem hx
  have hn := hb.nodes i hi
  rw [hm _ (Yi hr hn.par)]
  congr 1
  exact List.map_congr_left fun l hl => hR l (hn.links l hl)
 have e3 : b.sites.map mv = b.sites.map mv' := List.map_congr_left fun p hp => hm p (Yi hr (hb.sites p hp))
 have e4 : b.inner.map (Zas FR) = b.inner.map (Zas FR') := List.map_congr_left fun w hw => by
  unfold Zas
  rw [hR _ (hb.inner w hw)]
 rw [e1, e2, e3, e4]
def Zma (a : TBigraph) (e : Int) (o : List ByteArray) : List Int := Zi6 a (fun l => l) fun x => e + ixS o x
def ZmR (a b : TBigraph) (g : ByteArray -> Int) : List Int := Zi6 b (fun l => a.edges + l) g
theorem Zky {c : Int} {n : Nat} : Dn c n = (UF n).map fun l => c + l := by simp [Dn, UF]
theorem ZoA {a : TBigraph} {e : Int} {o : List ByteArray} {n : Nat} (hn : a.edges = n) : Dn 0 n ++ a.outer.map (fun x => e + ixS o x) = Zma a e o := by
 rw [Zma, Zi6, ZiQ, hn, Int.toNat_natCast]
theorem ZoB {a b : TBigraph} {g : ByteArray -> Int} {n : Nat} (hn : b.edges = n) : Dn a.edges n ++ b.outer.map g = ZmR a b g := by
 rw [ZmR, Zi6, Zky, hn, Int.toNat_natCast]
theorem Zim {b : TBigraph} {f : Int -> Int} {g : ByteArray -> Int} (h : 0 <= b.edges) : ((Zi6 b f g).length : Int) = b.edges + b.outer.length := by
 rw [Zi6, List.length_append, List.length_map, List.length_map, Q0]
 omega
theorem Zwr {sig : List TControl} {a : TBigraph} (ha : bigOK sig a) {e : Int} {o : List ByteArray} {l : Int} (hl : Jd a l) : Zek a e o (fun x => x) l = g0 (Zma a e o) l.toNat := by
 have he := ha.edges
 unfold Zek Zma
 rcases Vg hl with ⟨h0, h1⟩ | ⟨i, hi, rfl⟩
 ·rw [Zel h0 h1, Zgw h1, if_pos rfl]
 ·rw [Zem he.1 hi, Zgx hi, if_neg (Zfo ha.outer (List.getElem_mem hi))]
def Zdy (a : TBigraph) (nm : ByteArray -> Int × ByteArray) (x : Int × ByteArray) : Int × ByteArray := if x.2 = e0S then (x.1 + a.edges, e0S) else nm x.2
theorem ZxF {sig : List TControl} {a b : TBigraph} (hb : bigOK sig b) {e : Int} {o : List ByteArray} {nm : ByteArray -> Int × ByteArray} {g : ByteArray -> Int} (hg : ∀ i (h : i < b.outer.length), (if (nm b.outer[i]).2 = e0S then (nm b.outer[i]).1 else e + ixS o (nm b.outer[i]).2) = g b.outer[i]) {l : Int} (hl : Jd b l) : Zek b e o (Zdy a nm) l = g0 (ZmR a b g) l.toNat := by
 have he := hb.edges
 unfold Zek ZmR
 rcases Vg hl with ⟨h0, h1⟩ | ⟨i, hi, rfl⟩
 ·rw [Zel h0 h1, Zgw h1]
  unfold Zdy
  rw [if_pos rfl, if_pos rfl]
  omega
 ·rw [Zem he.1 hi, Zgx hi]
  unfold Zdy
  rw [if_neg (Zfo hb.outer (List.getElem_mem hi)), hg i hi]
noncomputable def Xy (a b : TBigraph) : List ByteArray := Xc (a.outer ++ b.outer)
end Go.Fd

/-
  ONE BIGRAPH UNDER ANOTHER, THE REFERENCE'S SIDE. Own work.
-/
namespace Go.Fd
set_option maxRecDepth 20000
theorem ZmS {sig : List TControl} {b : TBigraph} (h : bigOK sig b) {ps : List Int} (hp : (ps.length : Int) = b.roots) {p : Int} (h1 : -b.roots <= p) (h2 : p < b.nodes.length) : (-4294967296 <= p /\ p <= 4294967296) /\ (p < 0 -> (-1 - p).toNat < ps.length) := by
 have hr := h.roots
 have hn := h.small.nodes
 exact ⟨by omega, fun h3 => by omega⟩
theorem ZmT {sig : List TControl} {b : TBigraph} (h : bigOK sig b) {ps ls : List Int} (hp : (ps.length : Int) = b.roots) (hl : (ls.length : Int) = b.edges + b.outer.length) : ∀ x ∈ b.nodes, x.links.length <= 4294967290 /\ ((-4294967296 <= x.parent /\ x.parent <= 4294967296) /\ (x.parent < 0 -> (-1 - x.parent).toNat < ps.length)) /\ ∀ l ∈ x.links, 0 <= l /\ l < ls.length := fun x hx => by
 have hl2 := h.small.links _ hx
 have hb := Zdw h hx
 obtain ⟨k, hk, rfl⟩ := List.getElem_of_mem hx
 refine ⟨by omega, ZmS h hp (Yi h.roots.1 (h.nodes k hk).par) hb.1, fun l hl3 => ?_⟩
 have := hb.2 l hl3
 omega
theorem ZmU {sig : List TControl} {b : TBigraph} (h : bigOK sig b) {ps : List Int} (hp : (ps.length : Int) = b.roots) : ∀ p ∈ b.sites, (-4294967296 <= p /\ p <= 4294967296) /\ (p < 0 -> (-1 - p).toNat < ps.length) := fun p hq => ZmS h hp (Yi h.roots.1 (h.sites p hq)) (DK h hq)
theorem ZmV {sig : List TControl} {b : TBigraph} (h : bigOK sig b) {ls : List Int} (hl : (ls.length : Int) = b.edges + b.outer.length) : ∀ w ∈ b.inner, 0 <= w.link /\ w.link < ls.length := fun w hw => by
 have := h.inner w hw
 unfold Jd at this
 omega
theorem Zmb {sig : List TControl} {b : TBigraph} (h : bigOK sig b) {n : Nat} (hn : b.roots = n) {ls : List Int} : b.nodes.map (Zfp 0 (Yw 0 n) ls) = b.nodes.map (ZiO fun l => g0 ls l.toNat) := List.map_congr_left fun x hx => by
 obtain ⟨k, hk, rfl⟩ := List.getElem_of_mem hx
 unfold Zfp ZiO
 rw [Zkr hn (Yi h.roots.1 (h.nodes k hk).par)]
theorem Zmc {sig : List TControl} {b : TBigraph} (h : bigOK sig b) {n : Nat} (hn : b.roots = n) : b.sites.map (Zeo 0 (Yw 0 n)) = b.sites := by
 have : b.sites.map (Zeo 0 (Yw 0 n)) = b.sites.map id := List.map_congr_left fun p hp => Zkr hn (Yi h.roots.1 (h.sites p hp))
 rw [this, List.map_id]
theorem ZxG {l : List TNode} : UnR 3 (l.map ZK) = True := eq_true (ZbF ZK (fun _ => rfl) l)
abbrev ZmW (b : TBigraph) (u : Bool) : IV := .ag [iI b.roots, .ow 3 (b.nodes.map ZK) u, .ow 1 (rI b.sites) true, iI b.edges, .ow 1 (rS b.outer) true, .ow 2 (b.inner.map ZO) true]
theorem ZoC {sig : List TControl} {a b : TBigraph} (ha : bigOK sig a) (hb : bigOK sig b) {roots : Int} {ss : List Int} {o : List ByteArray} {FL FR mv : Int -> Int} (hs : ss.length <= 4) (ho : o.length <= 100) (hos : ∀ y ∈ o, y.size <= 4294967290) : Zl 4294967290 (Zbh a b roots ss o FL FR mv) := by
 have sa := ha.small; have sb := hb.small
 have a1 := sa.nodes; have a2 := sa.sites; have a3 := sa.inner
 have b1 := sb.nodes; have b2 := sb.sites; have b3 := sb.inner
 refine ⟨by simp only [Zbh, List.length_map, List.length_append]; omega, fun y hy => ?_, by simp only [Zbh, List.length_map, List.length_append]; omega, by show o.length <= _; omega, hos, by simp only [Zbh, List.length_map]; omega, fun y hy => ?_⟩
 ·rcases List.mem_append.1 hy with hy | hy
  ·obtain ⟨x, hx, rfl⟩ := List.mem_map.1 hy
   have := sa.links x hx
   simp only [Q6, ZiO, List.length_map]
   omega
  ·obtain ⟨x, hx, rfl⟩ := List.mem_map.1 hy
   have := sb.links x hx
   simp only [Q6, List.length_map]
   omega
 ·obtain ⟨w, hw, rfl⟩ := List.mem_map.1 hy
  have hn : w.name ∈ inn b := List.mem_map.2 ⟨w, hw, rfl⟩
  have := QR hb.inn hn
  simp only [V4, Zas]
  omega
def sm (n : Int) : Prop := -1000 <= n /\ n <= 1000
theorem Zbi {n : Int} (h : sm n) : Q1 .i64 n := by
 unfold sm at h
 rw [Zg]; omega
theorem ZoD {sig : List TControl} {a b : TBigraph} (ha : bigOK sig a) (hb : bigOK sig b) (fa : Zx a) (fb : Zx b) {roots : Int} {ss : List Int} {o : List ByteArray} {FL FR mv : Int -> Int} (hr : sm roots) (hs : ∀ p ∈ ss, sm p) (hL : ∀ l, Jd a l -> sm (FL l)) (hR : ∀ l, Jd b l -> sm (FR l)) (hm : ∀ p, -b.roots <= p -> p < b.nodes.length -> sm (mv p)) : Zx (Zbh a b roots ss o FL FR mv) := by
 have ea := ha.edges; have eb := hb.edges
 refine ⟨Zbi hr, fun y hy => ?_, fun p hp => ?_, by show Q1 .i64 (a.edges + b.edges); rw [Zg]; omega, fun y hy => ?_⟩
 ·rcases List.mem_append.1 hy with hy | hy
  ·obtain ⟨x, hx, rfl⟩ := List.mem_map.1 hy
   have hq := fa.2.1 x hx
   obtain ⟨i, hi, hie⟩ := List.getElem_of_mem hx
   refine ⟨hq.1, hq.2.1, fun l hl => ?_⟩
   obtain ⟨l0, hl0, rfl⟩ := List.mem_map.1 hl
   exact Zbi (hL l0 ((ha.nodes i hi).links l0 (by rw [hie]; exact hl0)))
  ·obtain ⟨x, hx, rfl⟩ := List.mem_map.1 hy
   have hq := fb.2.1 x hx
   have hbp := Zdw hb hx
   obtain ⟨i, hi, hie⟩ := List.getElem_of_mem hx
   refine ⟨hq.1, Zbi (hm _ (Yi hb.roots.1 (by rw [<- hie]; exact (hb.nodes i hi).par)) hbp.1), fun l hl => ?_⟩
   obtain ⟨l0, hl0, rfl⟩ := List.mem_map.1 hl
   exact Zbi (hR l0 ((hb.nodes i hi).links l0 (by rw [hie]; exact hl0)))
 ·rcases List.mem_append.1 hp with hp | hp
  ·exact Zbi (hs p hp)
  ·obtain ⟨x, hx, rfl⟩ := List.mem_map.1 hp
   exact Zbi (hm _ (Yi hb.roots.1 (hb.sites x hx)) (DK hb hx))
 ·obtain ⟨w, hw, rfl⟩ := List.mem_map.1 hy
  exact Zbi (hR _ (hb.inner w hw))
theorem ZoE {sig : List TControl} {a : TBigraph} (ha : bigOK sig a) {e : Int} (he : 0 <= e /\ e <= 100) {o : List ByteArray} (ho : o.length <= 100) {l : Int} (hl : Jd a l) : sm (g0 (Zma a e o) l.toNat) := by
 have ea := ha.edges
 unfold Zma sm
 rcases Vg hl with ⟨h0, h1⟩ | ⟨i, hi, rfl⟩
 ·rw [Zel h0 h1]; omega
 ·rw [Zem ea.1 hi]
  have := Zii (l := o) (s := a.outer[i])
  have := Zij (l := o) (s := a.outer[i])
  omega
theorem ZoF {sig : List TControl} {a b : TBigraph} (ha : bigOK sig a) (hb : bigOK sig b) {g : ByteArray -> Int} (hg : ∀ x ∈ b.outer, sm (g x)) {l : Int} (hl : Jd b l) : sm (g0 (ZmR a b g) l.toNat) := by
 have ea := ha.edges; have eb := hb.edges
 unfold ZmR
 rcases Vg hl with ⟨h0, h1⟩ | ⟨i, hi, rfl⟩
 ·rw [Zel h0 h1]
  unfold sm
  omega
 ·rw [Zem eb.1 hi]
  exact hg _ (List.getElem_mem hi)
end Go.Fd
