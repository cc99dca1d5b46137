/-
  A LINK IS TURNED: relinked AND ITS CLOSURE. Own work.
-/
import Derived.Test.YtopapbodofgmiaaGreatDoorT06
import Derived.KernelRfl
set_option linter.all false
namespace Go.Fd
set_option maxRecDepth 20000

theorem g_ixS : chkF Go.Proofs.Tryz.prog fid_slices_Index_string_string gIx1 = true := by kernel_rfl
theorem sem_IndexS (l : List ByteArray) (s : ByteArray) (hl : l.length ≤ 4294967296) (lvl : Nat) (S : Sto) : Sem Go.Proofs.Tryz.prog fid_slices_Index_string_string lvl [.tr (.sl (rS l)), iS s] S (iI (ixS l s)) S := sem_ix1 g_ixS cmpTS l s (by omega) lvl S
theorem ixS_ge {l : List ByteArray} {s : ByteArray} : -1 ≤ ixS l s := by
  by_cases h : s ∈ l
  · have := ixS_nn.2 h; omega
  · rw [ixS_no h]; omega
theorem ixS_le {l : List ByteArray} {s : ByteArray} : ixS l s ≤ l.length := by
  by_cases h : s ∈ l
  · have := ixS_lt h; omega
  · rw [ixS_no h]; omega

mutual
theorem men_and {P Q : Oid → Prop} : ∀ x, men P x → men Q x → men (fun i => P i ∧ Q i) x
  | .hd .., h, g => ⟨h, g⟩
  | .ab .., h, g => ⟨h, g⟩
  | .sv _, h, g => ⟨h, g⟩
  | .ae .., h, g => ⟨h, g⟩
  | .ag l, h, g => by simp only [men] at *; exact mens_and l h g
  | .tu l, h, g => by simp only [men] at *; exact mens_and l h g
  | .fn f l, h, g => by simp only [men] at *; exact mens_and l h g
  | .un, _, _ => trivial
  | .tr _, _, _ => trivial
  | .cs _, _, _ => trivial
  | .ta _, _, _ => trivial
  | .ow .., _, _ => trivial
  | .er, _, _ => trivial
theorem mens_and {P Q : Oid → Prop} : ∀ l, mens P l → mens Q l → mens (fun i => P i ∧ Q i) l
  | [], _, _ => trivial
  | x :: r, h, g => ⟨men_and x h.1 g.1, mens_and r h.2 g.2⟩
end
theorem seen_next {B S S' : Sto} {loc : List (Nat × Ob)} {lvl l' : Nat} {cps : List IV} (h : mens (Seen B S lvl) cps) (h2 : mens (Seen (packS lvl loc S) S' l') cps) : mens (Seen B S' l') cps :=
  mens_mono (fun i hi => ⟨hi.2.1, fun ob hb => hi.2.2 ob (by rw [show packS lvl loc S i = S i from if_neg (by have := hi.1.1; omega)]; exact hi.1.2 ob hb)⟩) _ (mens_and _ h h2)
theorem seen_weak {L S : Sto} {l : Nat} {cps : List IV} (h : mens (Seen2 L S l) cps) : mens (Seen L S l) cps := mens_mono (fun _ hi => hi.1) _ h
theorem seen_low {B S : Sto} {lvl : Nat} {cps : List IV} (h : mens (Seen B S lvl) cps) (js : List Nat) : okms lvl js cps = True := eq_true (mens_mono (fun i hi e => absurd e (by have := hi.1; omega)) _ h)
theorem seen_ta {B S : Sto} {lvl : Nat} {cs : List (List Tr)} : mens (Seen B S lvl) (cs.map IV.ta) := by rw [r_mensta]; trivial
theorem sem_relinked_1 (b : TBigraph) (l : Int) (e : Int) (o : List ByteArray) (tf : FuncId) (cps : List IV) (B : Sto) (T : Int × ByteArray → Int × ByteArray) (he0 : 0 ≤ b.edges) (hl : linkOK b l) (ho : b.outer.length ≤ 4294967296) (hb : b.edges ≤ 4294967296) (he : 0 ≤ e ∧ e ≤ 4294967296) (hol : o.length ≤ 4294967296)
    (hT : ∀ l' S', mens (Seen B S' l') cps → Sem Go.Proofs.Tryz.prog tf l' (oE (endB b l) :: cps) S' (oE (T (endB b l))) S')
    (lvl : Nat) (S : Sto) (hcp : mens (Seen B S lvl) cps) (iT iO io : Oid) (c0 c1 c2 c3 c5 : IV) (hwo ver : Nat) (u : Bool) (hT1 : iT.1 < lvl) (hO1 : iO.1 < lvl) (ho1 : io.1 < lvl) (sT : S iT = some (.bx [.fn tf cps])) (sO : S iO = some (.bx [c0, c1, c2, c3, .hd io [] 0 o.length none hwo, c5])) (so : S io = some (.ar 1 (rS o) u hwo ver)) :
    Sem Go.Proofs.Tryz.prog fid_impl_Bigraph_relinked_1 lvl [iI l, .ab iT 0, .ta (cBigraph b), .ta [tv e], .ab iO 0] S (iI (relF b e o T l)) S := by
  have hneT : iT.1 ≠ lvl := by omega
  have hneO : iO.1 ≠ lvl := by omega
  have hneo : io.1 ≠ lvl := by omega
  refine sem_of_chk k_impl_Bigraph_relinked_1 trivial ?_
  simp only [c_impl_Bigraph_relinked_1, cBigraph, r_packo hneT, r_packo hneO, r_packo hneo, sT, sO, so, EVA, ↓reduceIte, Nat.reduceEqDiff, Nat.reduceMul, reduceCtorEq, Nat.reduceAdd, Nat.reduceSub, Nat.reduceLeDiff, Nat.reduceLT, Int.reduceToNat, Int.reduceLE, Int.reduceLT, mens, men]
  refine kca_intro (sem_endOf b l he0 hl ho hb) ?_
  simp only [EVA, ↓reduceIte, Nat.reduceEqDiff, Nat.reduceMul, reduceCtorEq, Nat.reduceAdd, Nat.reduceSub, Nat.reduceLeDiff, Nat.reduceLT, Int.reduceToNat, Int.reduceLE, Int.reduceLT, mens, men]
  refine kce_intro (fun l' S' hs => hT l' S' (seen_next hcp (seen_weak hs.2))) ?_
  simp only [EVA, ↓reduceIte, Nat.reduceEqDiff, Nat.reduceMul, reduceCtorEq, Nat.reduceAdd, Nat.reduceSub, Nat.reduceLeDiff, Nat.reduceLT, Int.reduceToNat, Int.reduceLE, Int.reduceLT, mens, men]
  unfold relF
  by_cases h2 : (T (endB b l)).2 = e0S
  · rw [if_pos h2]
    simp only [h2, EVA, ↓reduceIte, Nat.reduceEqDiff, Nat.reduceMul, reduceCtorEq, Nat.reduceAdd, Nat.reduceSub, Nat.reduceLeDiff, Nat.reduceLT, Int.reduceToNat, Int.reduceLE, Int.reduceLT, mens, men]
  · rw [if_neg h2]
    simp only [h2, r_packo hneO, r_packo hneo, sO, so, EVA, ↓reduceIte, Nat.reduceEqDiff, Nat.reduceMul, reduceCtorEq, Nat.reduceAdd, Nat.reduceSub, Nat.reduceLeDiff, Nat.reduceLT, Int.reduceToNat, Int.reduceLE, Int.reduceLT, mens, men]
    rw [show cut (rS o) 0 o.length = rS o from cut_all (by rw [List.length_map])]
    refine kca_intro (sem_IndexS o (T (endB b l)).2 (by omega)) ?_
    have := ixS_ge (l := o) (s := (T (endB b l)).2)
    have := ixS_le (l := o) (s := (T (endB b l)).2)
    simp only [EVA, ↓reduceIte, Nat.reduceEqDiff, Nat.reduceMul, reduceCtorEq, Nat.reduceAdd, Nat.reduceSub, Nat.reduceLeDiff, Nat.reduceLT, Int.reduceToNat, Int.reduceLE, Int.reduceLT, mens, men]
    rw [fits_i64]; omega

theorem setpI3 {y : List Int} {j : Nat} {v : Int} (h : j < y.length) : setp (rI y) [] j 0 (.v (.int .i64 v)) = rI (y.set j v) := by
  simp only [setp]
  rw [rI_get h]
  exact (List.map_set (f := fun n : Int => [tv n]) (l := y) (i := j) (a := v)).symm
def mapN (F : Int → Int) (x : TNode) : TNode := ⟨x.control, x.parent, x.links.map F⟩
def part1 (F : Int → Int) (l : List TNode) (j : Nat) : List TNode := (l.take j).map (mapN F) ++ l.drop j
def partK (F : Int → Int) (l : List Int) (k : Nat) : List Int := (l.take k).map F ++ l.drop k
theorem partK_len {F : Int → Int} {l : List Int} {k : Nat} : (partK F l k).length = l.length := by simp [partK]; omega
theorem partK_get {F : Int → Int} {l : List Int} {k : Nat} (h : k < l.length) : g0 (partK F l k) k = g0 l k := by
  show (partK F l k).getD k 0 = l.getD k 0
  have : ((l.take k).map F).length = k := by rw [List.length_map, List.length_take]; omega
  rw [List.getD_eq_getElem?_getD, List.getD_eq_getElem?_getD, partK, List.getElem?_append_right (by omega), this, List.getElem?_drop]
  simp
theorem partK_set {F : Int → Int} {l : List Int} {k : Nat} (h : k < l.length) : (partK F l k).set k (F (g0 l k)) = partK F l (k + 1) := by
  have hl : ((l.take k).map F).length = k := by rw [List.length_map, List.length_take]; omega
  have e : g0 l k = l[k] := by simp [h]
  unfold partK
  rw [List.set_append_right _ _ (by omega), hl, Nat.sub_self, List.drop_eq_getElem_cons h, List.set_cons_zero, List.take_succ_eq_append_getElem h, List.map_append, e, List.append_assoc]
  rfl
theorem part1_len {F : Int → Int} {l : List TNode} {j : Nat} : (part1 F l j).length = l.length := by simp [part1]; omega
theorem part1_get {F : Int → Int} {l : List TNode} {j : Nat} (h : j < l.length) : (part1 F l j)[j]? = some l[j] := by
  have : ((l.take j).map (mapN F)).length = j := by rw [List.length_map, List.length_take]; omega
  rw [part1, List.getElem?_append_right (by omega), this, List.getElem?_drop]
  simp [h]
theorem part1_set {F : Int → Int} {l : List TNode} {j : Nat} (h : j < l.length) : (part1 F l j).set j (mapN F l[j]) = part1 F l (j + 1) := by
  have hl : ((l.take j).map (mapN F)).length = j := by rw [List.length_map, List.length_take]; omega
  unfold part1
  rw [List.set_append_right _ _ (by omega), hl, Nat.sub_self, List.drop_eq_getElem_cons h, List.set_cons_zero, List.take_succ_eq_append_getElem h, List.map_append, List.append_assoc]
  rfl
def mapW (F : Int → Int) (w : TWire) : TWire := ⟨w.name, F w.link⟩
def partW (F : Int → Int) (l : List TWire) (j : Nat) : List TWire := (l.take j).map (mapW F) ++ l.drop j
theorem partW_get {F : Int → Int} {l : List TWire} {j : Nat} (h : j < l.length) : (partW F l j)[j]? = some l[j] := by
  have : ((l.take j).map (mapW F)).length = j := by rw [List.length_map, List.length_take]; omega
  rw [partW, List.getElem?_append_right (by omega), this, List.getElem?_drop]
  simp [h]
theorem partW_set {F : Int → Int} {l : List TWire} {j : Nat} (h : j < l.length) : (partW F l j).set j (mapW F l[j]) = partW F l (j + 1) := by
  have hl : ((l.take j).map (mapW F)).length = j := by rw [List.length_map, List.length_take]; omega
  unfold partW
  rw [List.set_append_right _ _ (by omega), hl, Nat.sub_self, List.drop_eq_getElem_cons h, List.set_cons_zero, List.take_succ_eq_append_getElem h, List.map_append, List.append_assoc]
  rfl

theorem setp_N {X : List TNode} {j k : Nat} {x : TNode} {v : Int} (h : X[j]? = some x) (hk : k < x.links.length) : setp (X.map cNode) [(j, 2)] k 0 (.v (.int .i64 v)) = (X.set j ⟨x.control, x.parent, x.links.set k v⟩).map cNode := by
  have h1 := setpI3 (y := x.links) (j := k) (v := v) hk
  have e1 : setp (X.map cNode) [(j, 2)] k 0 (.v (.int .i64 v)) = (X.map cNode).set j [tv x.control, tv x.parent, Tr.sl (setp (rI x.links) [] k 0 (.v (.int .i64 v)))] := by
    simp only [setp, List.getElem?_map, h, Option.map_some, cNode, List.getElem?_cons_succ, List.getElem?_cons_zero, List.set_cons_succ, List.set_cons_zero]
  rw [e1, h1, List.map_set]
  rfl

theorem sem_relinkedG (b : TBigraph) (e : Int) (o : List ByteArray) (tf : FuncId) (cps : List IV) (B : Sto) (T : Int × ByteArray → Int × ByteArray) (he0 : 0 ≤ b.edges) (hbd : bdBigraph 4294967290 b) (hb : b.edges ≤ 4294967296) (he : 0 ≤ e ∧ e ≤ 4294967296) (ho : o.length ≤ 4294967290)
    (hln : ∀ x ∈ b.nodes, ∀ l ∈ x.links, linkOK b l) (hlw : ∀ w ∈ b.inner, linkOK b w.link) (hT : ∀ l, linkOK b l → ∀ l' S', mens (Seen B S' l') cps → Sem Go.Proofs.Tryz.prog tf l' (oE (endB b l) :: cps) S' (oE (T (endB b l))) S')
    (lvl : Nat) (S : Sto) (hcp : mens (Seen B S lvl) cps) : Sem Go.Proofs.Tryz.prog fid_impl_Bigraph_relinked lvl [.ag ((cBigraph b).map .tr), iI e, .tr (.sl (rS o)), .fn tf cps] S (oBigraph (mapB b (relF b e (setS o) T) e (setS o))) S := by
  have hok := seen_low hcp
  refine sem_of_chk k_impl_Bigraph_relinked (by simp [oBigraph, low, men, mens]) ?_
  simp only [c_impl_Bigraph_relinked, cBigraph, EVA, ↓reduceIte, Nat.reduceEqDiff, Nat.reduceMul, reduceCtorEq, Nat.reduceAdd, Nat.reduceSub, Nat.reduceLeDiff, Nat.reduceLT, Int.reduceToNat, Int.reduceLE, Int.reduceLT, mens, men]
  refine kca_intro (sem_ownBigraph b hbd) ?_
  simp only [oBigraph, cBigraph, List.length_map, EVA, ↓reduceIte, Nat.reduceEqDiff, Nat.reduceMul, reduceCtorEq, Nat.reduceAdd, Nat.reduceSub, Nat.reduceLeDiff, Nat.reduceLT, Int.reduceToNat, Int.reduceLE, Int.reduceLT, mens, men]
  refine kca_intro (sem_sortedNames o ho) ?_
  obtain ⟨b1, b2, b3, b4, b5, b6, b7⟩ := hbd
  simp only [List.length_map, EVA, ↓reduceIte, Nat.reduceEqDiff, Nat.reduceMul, reduceCtorEq, Nat.reduceAdd, Nat.reduceSub, Nat.reduceLeDiff, Nat.reduceLT, Int.reduceToNat, Int.reduceLE, Int.reduceLT, mens, men]
  have hFdef : ∃ F, F = relF b e (setS o) T := ⟨_, rfl⟩
  obtain ⟨F, hF⟩ := hFdef
  rw [← hF]
  have hsl : (setS o).length ≤ 4294967296 := Nat.le_trans setG_le (by omega)
  have hc : ∀ (loc : List (Nat × Ob)) (l : Int), linkOK b l → lkO 224 loc = some (.bx [.fn tf cps]) → lkO 288 loc = some (.bx [iI b.roots, .hd (lvl, 576) [] 0 b.nodes.length none b.nodes.length, .hd (lvl, 577) [] 0 b.sites.length none b.sites.length, iI e, .hd (lvl, 672) [] 0 (setS o).length none (setS o).length, .hd (lvl, 579) [] 0 b.inner.length none b.inner.length]) → lkO 672 loc = some (.ar 1 (rS (setS o)) true (setS o).length 0) →
      ∀ l' S', mens (Seen2 (packS lvl loc S) S' l') [iI l, .ab (lvl, 224) 0, .ta (cBigraph b), .ta [tv e], .ab (lvl, 288) 0] → Sem Go.Proofs.Tryz.prog fid_impl_Bigraph_relinked_1 l' [iI l, .ab (lvl, 224) 0, .ta (cBigraph b), .ta [tv e], .ab (lvl, 288) 0] S' (iI (F l)) S' := fun loc l hl h1 h2 h3 l' S' hs => by
    simp only [mens, men] at hs
    obtain ⟨_, h224, _, _, h288, _⟩ := hs
    have sT := h224.1.2 _ (by rw [r_pack]; exact h1)
    have hc2 := h224.2 _ (by rw [r_pack]; exact h1)
    simp only [mens, men, and_true] at hc2
    have sO := h288.1.2 _ (by rw [r_pack]; exact h2)
    have hm := h288.2 _ (by rw [r_pack]; exact h2)
    simp only [mens, men] at hm
    obtain ⟨_, _, _, _, h672, _, _⟩ := hm
    have so := h672.2 _ (by rw [r_pack]; exact h3)
    rw [hF]
    exact sem_relinked_1 b l e (setS o) tf cps B T he0 hl (by omega) hb he hsl (hT l hl) l' S' (seen_next hcp hc2) (lvl, 224) (lvl, 288) (lvl, 672) _ _ _ _ _ _ _ _ h224.1.1 h288.1.1 h672.1 sT sO so
  refine wp_cnt (α := Unit) b.nodes.length (fun j _ => [(28, iI j)]) (fun j _ => [(576, .ar 3 ((part1 F b.nodes j).map cNode) true b.nodes.length 0)]) (fun _ _ => True) () (by simp only [hok, EVA, ↓reduceIte, Nat.reduceEqDiff, Nat.reduceMul, reduceCtorEq, Nat.reduceAdd, Nat.reduceSub, Nat.reduceLeDiff, Nat.reduceLT, Int.reduceToNat, Int.reduceLE, Int.reduceLT, mens, men]) (by (simp only [EVA, ↓reduceIte, Nat.reduceEqDiff, Nat.reduceMul, reduceCtorEq, Nat.reduceAdd, Nat.reduceSub, Nat.reduceLeDiff, Nat.reduceLT, Int.reduceToNat, Int.reduceLE, Int.reduceLT, mens, men]) <;> rfl) trivial ?_
  intro j _ hj _
  simp only [List.length_map, EVA, ↓reduceIte, Nat.reduceEqDiff, Nat.reduceMul, reduceCtorEq, Nat.reduceAdd, Nat.reduceSub, Nat.reduceLeDiff, Nat.reduceLT, Int.reduceToNat, Int.reduceLE, Int.reduceLT, mens, men]
  refine ite_of (fun hlt => ?_) (fun hge => ?_)
  · have hja : j < b.nodes.length := by omega
    have gp := part1_get (F := F) hja
    have ga : ((part1 F b.nodes j).map cNode)[j]? = some [Tr.v (.int .i64 b.nodes[j].control), Tr.v (.int .i64 b.nodes[j].parent), Tr.sl (rI b.nodes[j].links)] := by rw [List.getElem?_map, gp]; rfl
    have hkl : b.nodes[j].links.length ≤ 4294967290 := b2 _ (List.getElem_mem hja)
    simp only [ga, hja, List.length_map, EVA, ↓reduceIte, Nat.reduceEqDiff, Nat.reduceMul, reduceCtorEq, Nat.reduceAdd, Nat.reduceSub, Nat.reduceLeDiff, Nat.reduceLT, Int.reduceToNat, Int.reduceLE, Int.reduceLT, mens, men]
    have e0 : (part1 F b.nodes j).set j ⟨b.nodes[j].control, b.nodes[j].parent, partK F b.nodes[j].links 0⟩ = part1 F b.nodes j := by
      have : (⟨b.nodes[j].control, b.nodes[j].parent, partK F b.nodes[j].links 0⟩ : TNode) = b.nodes[j] := by simp [partK]
      rw [this]
      have hl : j < (part1 F b.nodes j).length := by rw [part1_len]; exact hja
      have e : b.nodes[j] = (part1 F b.nodes j)[j] := by
        have := gp
        rw [List.getElem?_eq_getElem hl] at this
        exact (Option.some.inj this).symm
      rw [e]
      exact List.set_getElem_self hl
    refine wp_cnt (α := Unit) b.nodes[j].links.length (fun k _ => [(35, iI k)]) (fun k _ => [(576, .ar 3 (((part1 F b.nodes j).set j ⟨b.nodes[j].control, b.nodes[j].parent, partK F b.nodes[j].links k⟩).map cNode) true b.nodes.length 0)]) (fun _ _ => True) () (by simp only [hok, EVA, ↓reduceIte, Nat.reduceEqDiff, Nat.reduceMul, reduceCtorEq, Nat.reduceAdd, Nat.reduceSub, Nat.reduceLeDiff, Nat.reduceLT, Int.reduceToNat, Int.reduceLE, Int.reduceLT, mens, men]) (by (simp only [e0, EVA, ↓reduceIte, Nat.reduceEqDiff, Nat.reduceMul, reduceCtorEq, Nat.reduceAdd, Nat.reduceSub, Nat.reduceLeDiff, Nat.reduceLT, Int.reduceToNat, Int.reduceLE, Int.reduceLT, mens, men]) <;> rfl) trivial ?_
    intro k _ hk _
    have gq : ((part1 F b.nodes j).set j ⟨b.nodes[j].control, b.nodes[j].parent, partK F b.nodes[j].links k⟩)[j]? = some ⟨b.nodes[j].control, b.nodes[j].parent, partK F b.nodes[j].links k⟩ := by
      rw [List.getElem?_set_self (by rw [part1_len]; exact hja)]
    have hgp : (((part1 F b.nodes j).set j ⟨b.nodes[j].control, b.nodes[j].parent, partK F b.nodes[j].links k⟩).map cNode)[j]? = some [Tr.v (.int .i64 b.nodes[j].control), Tr.v (.int .i64 b.nodes[j].parent), Tr.sl (rI (partK F b.nodes[j].links k))] := by rw [List.getElem?_map, gq]; rfl
    simp only [hgp, List.length_map, EVA, ↓reduceIte, Nat.reduceEqDiff, Nat.reduceMul, reduceCtorEq, Nat.reduceAdd, Nat.reduceSub, Nat.reduceLeDiff, Nat.reduceLT, Int.reduceToNat, Int.reduceLE, Int.reduceLT, mens, men]
    refine ite_of (fun hlt2 => ?_) (fun hge2 => ?_)
    · have hka : k < b.nodes[j].links.length := by omega
      have hpl := partK_len (F := F) (l := b.nodes[j].links) (k := k)
      have gk : (rI (partK F b.nodes[j].links k))[k]? = some [tv (g0 b.nodes[j].links k)] := by rw [rI_get (by omega), partK_get hka]
      have hlk : linkOK b (g0 b.nodes[j].links k) := hln _ (List.getElem_mem hja) _ (by simp [hka])
      have hsp := setp_N (v := F (g0 b.nodes[j].links k)) gq (k := k) (by show k < (partK F b.nodes[j].links k).length; omega)
      simp only [hgp, gk, hka, hpl, Nat.zero_add, List.length_map, EVA, ↓reduceIte, Nat.reduceEqDiff, Nat.reduceMul, reduceCtorEq, Nat.reduceAdd, Nat.reduceSub, Nat.reduceLeDiff, Nat.reduceLT, Int.reduceToNat, Int.reduceLE, Int.reduceLT, mens, men]
      refine kce_intro (hc _ (g0 b.nodes[j].links k) hlk rfl rfl rfl) ?_
      have hst : ((part1 F b.nodes j).set j ⟨b.nodes[j].control, b.nodes[j].parent, partK F b.nodes[j].links k⟩).set j ⟨b.nodes[j].control, b.nodes[j].parent, (partK F b.nodes[j].links k).set k (F (g0 b.nodes[j].links k))⟩ = (part1 F b.nodes j).set j ⟨b.nodes[j].control, b.nodes[j].parent, partK F b.nodes[j].links (k + 1)⟩ := by
        rw [List.set_set, partK_set hka]
      rw [hst] at hsp
      simp only [hgp, gk, hka, hpl, hsp, hok, Nat.zero_add, List.length_map, EVA, ↓reduceIte, Nat.reduceEqDiff, Nat.reduceMul, reduceCtorEq, Nat.reduceAdd, Nat.reduceSub, Nat.reduceLeDiff, Nat.reduceLT, Int.reduceToNat, Int.reduceLE, Int.reduceLT, mens, men]
      exact ⟨by rw [fits_i64]; omega, cntJ_intro () hka rfl trivial⟩
    · have : k = b.nodes[j].links.length := by omega
      subst this
      have hst : (part1 F b.nodes j).set j ⟨b.nodes[j].control, b.nodes[j].parent, partK F b.nodes[j].links b.nodes[j].links.length⟩ = part1 F b.nodes (j + 1) := by
        rw [← part1_set hja]
        congr 1
        simp [mapN, partK]
      rw [hst]
      simp only [hok, EVA, ↓reduceIte, Nat.reduceEqDiff, Nat.reduceMul, reduceCtorEq, Nat.reduceAdd, Nat.reduceSub, Nat.reduceLeDiff, Nat.reduceLT, Int.reduceToNat, Int.reduceLE, Int.reduceLT, mens, men]
      exact ⟨by rw [fits_i64]; omega, cntJ_intro () hja rfl trivial⟩
  · have : j = b.nodes.length := by omega
    subst this
    have hpn : part1 F b.nodes b.nodes.length = (mapB b F e (setS o)).nodes := by simp [part1, mapB, mapN]
    rw [hpn]
    refine wp_cnt (α := Unit) b.inner.length (fun j _ => [(52, iI j)]) (fun j _ => [(579, .ar 2 ((partW F b.inner j).map cWire) true b.inner.length 0)]) (fun _ _ => True) () (by simp only [hok, EVA, ↓reduceIte, Nat.reduceEqDiff, Nat.reduceMul, reduceCtorEq, Nat.reduceAdd, Nat.reduceSub, Nat.reduceLeDiff, Nat.reduceLT, Int.reduceToNat, Int.reduceLE, Int.reduceLT, mens, men]) (by (simp only [EVA, ↓reduceIte, Nat.reduceEqDiff, Nat.reduceMul, reduceCtorEq, Nat.reduceAdd, Nat.reduceSub, Nat.reduceLeDiff, Nat.reduceLT, Int.reduceToNat, Int.reduceLE, Int.reduceLT, mens, men]) <;> rfl) trivial ?_
    intro j _ hj _
    simp only [List.length_map, EVA, ↓reduceIte, Nat.reduceEqDiff, Nat.reduceMul, reduceCtorEq, Nat.reduceAdd, Nat.reduceSub, Nat.reduceLeDiff, Nat.reduceLT, Int.reduceToNat, Int.reduceLE, Int.reduceLT, mens, men]
    refine ite_of (fun hlt => ?_) (fun hge => ?_)
    · have hja : j < b.inner.length := by omega
      have gp := partW_get (F := F) hja
      have ga : ((partW F b.inner j).map cWire)[j]? = some [ts b.inner[j].name, tv b.inner[j].link] := by rw [List.getElem?_map, gp]; rfl
      have hsp : setp ((partW F b.inner j).map cWire) [] j 1 (.v (.int .i64 (F b.inner[j].link))) = (partW F b.inner (j + 1)).map cWire := by
        simp only [setp]
        rw [ga, ← partW_set hja, List.map_set]
        rfl
      have hlk : linkOK b b.inner[j].link := hlw _ (List.getElem_mem hja)
      simp only [ga, hja, Nat.zero_add, List.length_map, EVA, ↓reduceIte, Nat.reduceEqDiff, Nat.reduceMul, reduceCtorEq, Nat.reduceAdd, Nat.reduceSub, Nat.reduceLeDiff, Nat.reduceLT, Int.reduceToNat, Int.reduceLE, Int.reduceLT, mens, men]
      refine kce_intro (hc _ b.inner[j].link hlk rfl rfl rfl) ?_
      simp only [ga, hja, hsp, hok, Nat.zero_add, List.length_map, EVA, ↓reduceIte, Nat.reduceEqDiff, Nat.reduceMul, reduceCtorEq, Nat.reduceAdd, Nat.reduceSub, Nat.reduceLeDiff, Nat.reduceLT, Int.reduceToNat, Int.reduceLE, Int.reduceLT, mens, men]
      exact ⟨by rw [fits_i64]; omega, cntJ_intro () hja rfl trivial⟩
    · have : j = b.inner.length := by omega
      subst this
      have hpw : partW F b.inner b.inner.length = (mapB b F e (setS o)).inner := by simp [partW, mapB, mapW]
      rw [hpw]
      exact ⟨by simp [mapB], by simp [mapB], rfl⟩
theorem sem_relinked (b : TBigraph) (e : Int) (o : List ByteArray) (tf : FuncId) (cs : List (List Tr)) (T : Int × ByteArray → Int × ByteArray) (he0 : 0 ≤ b.edges) (hbd : bdBigraph 4294967290 b) (hb : b.edges ≤ 4294967296) (he : 0 ≤ e ∧ e ≤ 4294967296) (ho : o.length ≤ 4294967290)
    (hln : ∀ x ∈ b.nodes, ∀ l ∈ x.links, linkOK b l) (hlw : ∀ w ∈ b.inner, linkOK b w.link) (hT : ∀ l, linkOK b l → ∀ lvl S, Sem Go.Proofs.Tryz.prog tf lvl (oE (endB b l) :: cs.map IV.ta) S (oE (T (endB b l))) S)
    (lvl : Nat) (S : Sto) : Sem Go.Proofs.Tryz.prog fid_impl_Bigraph_relinked lvl [.ag ((cBigraph b).map .tr), iI e, .tr (.sl (rS o)), .fn tf (cs.map IV.ta)] S (oBigraph (mapB b (relF b e (setS o) T) e (setS o))) S :=
  sem_relinkedG b e o tf (cs.map IV.ta) (fun _ => none) T he0 hbd hb he ho hln hlw (fun l hl l' S' _ => hT l hl l' S') lvl S seen_ta
end Go.Fd

namespace Go.Fd
set_option maxRecDepth 20000

theorem sem_valid (sig : List TControl) (b : TBigraph) (hn : sig.length ≤ 4294967296) (hbs : ∀ y ∈ sig, bdControl 4294967296 y) (hb : bdBigraph 4294967290 b) (hf : ftBigraph b) (lvl : Nat) (S : Sto) : Sem Go.Proofs.Tryz.prog fid_impl_valid lvl [.tr (.sl (sig.map cControl)), .ag ((cBigraph b).map .tr)] S (.tu [oBigraph (@ite TBigraph (bigOK sig b) (Classical.propDecidable _) b ⟨0, [], [], 0, [], []⟩), iB (dc (bigOK sig b))]) S := by
  have hb2 : bdBigraph 4294967296 b := by
    obtain ⟨b1, b2, b3, b4, b5, b6, b7⟩ := hb
    exact ⟨by omega, fun y hy => Nat.le_trans (b2 y hy) (by omega), by omega, by omega, fun y hy => Nat.le_trans (b5 y hy) (by omega), by omega, fun y hy => Nat.le_trans (b7 y hy) (by omega)⟩
  refine sem_of_chk k_impl_valid (by simp [oBigraph, low, men, mens]) ?_
  simp only [c_impl_valid, cBigraph, EVA, ↓reduceIte, Nat.reduceEqDiff, Nat.reduceMul, reduceCtorEq, Nat.reduceAdd, Nat.reduceSub, Nat.reduceLeDiff, Nat.reduceLT, Int.reduceToNat, Int.reduceLE, Int.reduceLT, mens, men]
  refine kca_intro (sem_impl_IsBigraph sig b hn hbs hb2) ?_
  cases h : dc (bigOK sig b)
  · rw [if_neg (dc_not.1 h)]
    simp only [EVA, ↓reduceIte, Nat.reduceEqDiff, Nat.reduceMul, reduceCtorEq, Nat.reduceAdd, Nat.reduceSub, Nat.reduceLeDiff, Nat.reduceLT, Int.reduceToNat, Int.reduceLE, Int.reduceLT, mens, men]
    try rfl
  · rw [if_pos (dc_iff.1 h)]
    simp only [cBigraph, EVA, ↓reduceIte, Nat.reduceEqDiff, Nat.reduceMul, reduceCtorEq, Nat.reduceAdd, Nat.reduceSub, Nat.reduceLeDiff, Nat.reduceLT, Int.reduceToNat, Int.reduceLE, Int.reduceLT, mens, men]
    refine kca_intro (sem_ownBigraph b hb) ?_
    simp only [oBigraph, cBigraph, List.length_map, EVA, ↓reduceIte, Nat.reduceEqDiff, Nat.reduceMul, reduceCtorEq, Nat.reduceAdd, Nat.reduceSub, Nat.reduceLeDiff, Nat.reduceLT, Int.reduceToNat, Int.reduceLE, Int.reduceLT, mens, men]
    try rfl
end Go.Fd

namespace Go.Fd
set_option maxRecDepth 20000

theorem rootsN_get {n : Nat} {k : Nat} (h : k < n) : g0 (rootsN 0 n) k = -1 - (k : Int) := by
  show (rootsN 0 n).getD k 0 = _
  rw [List.getD_eq_getElem?_getD, rootsN, List.getElem?_map, List.getElem?_range h]
  simp
theorem parG_id {b : TBigraph} {n : Nat} (hn : b.roots = n) {p : Int} (h : -b.roots ≤ p) : parG 0 (rootsN 0 n) p = p := by
  unfold parG
  split
  · rw [rootsN_get (by omega)]; omega
  · omega
theorem under_ge {sig : List TControl} {b : TBigraph} {p below : Int} (hr : 0 ≤ b.roots) (h : under sig b p below) : -b.roots ≤ p := by
  rcases h with h | h <;> omega
def emptyB : TBigraph := ⟨0, [], [], 0, [], []⟩
theorem sem_l2Give_y (sig : List TControl) (b : TBigraph) (hn : sig.length ≤ 4294967296) (hbs : ∀ y ∈ sig, bdControl 4294967296 y) (hb : bdBigraph 4294967296 b) (hf : ftBigraph b) (hG : bigOK sig b) (lvl : Nat) (S : Sto) : Sem Go.Proofs.Tryz.prog fid_spec_l2Give lvl [.tr (.sl (sig.map cControl)), .ag ((cBigraph b).map .tr)] S (.tu [.ag ((cBigraph b).map .tr), iB true]) S := by
  refine sem_of_chk k_spec_l2Give (by simp [cBigraph, low, men, mens]) ?_
  simp only [c_spec_l2Give, cBigraph, EVA, ↓reduceIte, Nat.reduceEqDiff, Nat.reduceMul, reduceCtorEq, Nat.reduceAdd, Nat.reduceSub, Nat.reduceLeDiff, Nat.reduceLT, Int.reduceToNat, Int.reduceLE, Int.reduceLT, mens, men]
  refine kca_intro (sem_l2Good sig b hn hbs hb hf) ?_
  rw [dc_true hG]
  simp only [cBigraph, EVA, ↓reduceIte, Nat.reduceEqDiff, Nat.reduceMul, reduceCtorEq, Nat.reduceAdd, Nat.reduceSub, Nat.reduceLeDiff, Nat.reduceLT, Int.reduceToNat, Int.reduceLE, Int.reduceLT, mens, men]
theorem sem_l2Give_n (sig : List TControl) (b : TBigraph) (hn : sig.length ≤ 4294967296) (hbs : ∀ y ∈ sig, bdControl 4294967296 y) (hb : bdBigraph 4294967296 b) (hf : ftBigraph b) (hG : ¬ bigOK sig b) (lvl : Nat) (S : Sto) : Sem Go.Proofs.Tryz.prog fid_spec_l2Give lvl [.tr (.sl (sig.map cControl)), .ag ((cBigraph b).map .tr)] S (.tu [oBigraph emptyB, iB false]) S := by
  refine sem_of_chk k_spec_l2Give (by simp [oBigraph, low, men, mens]) ?_
  simp only [c_spec_l2Give, cBigraph, EVA, ↓reduceIte, Nat.reduceEqDiff, Nat.reduceMul, reduceCtorEq, Nat.reduceAdd, Nat.reduceSub, Nat.reduceLeDiff, Nat.reduceLT, Int.reduceToNat, Int.reduceLE, Int.reduceLT, mens, men]
  refine kca_intro (sem_l2Good sig b hn hbs hb hf) ?_
  rw [dc_false hG]
  simp only [cBigraph, EVA, ↓reduceIte, Nat.reduceEqDiff, Nat.reduceMul, reduceCtorEq, Nat.reduceAdd, Nat.reduceSub, Nat.reduceLeDiff, Nat.reduceLT, Int.reduceToNat, Int.reduceLE, Int.reduceLT, mens, men]
  rfl

theorem names_size {l : List ByteArray} (h : namesOK l) {s : ByteArray} (hs : s ∈ l) : s.size ≤ 4 := by
  obtain ⟨i, hi, rfl⟩ := List.getElem_of_mem hs
  exact (h.1 i hi).1.2.2
end Go.Fd

namespace Go.Fd
set_option maxRecDepth 20000

theorem bd_mono {a c : Nat} {b : TBigraph} (h : a ≤ c) (hb : bdBigraph a b) : bdBigraph c b := by
  obtain ⟨b1, b2, b3, b4, b5, b6, b7⟩ := hb
  exact ⟨by omega, fun y hy => Nat.le_trans (b2 y hy) h, by omega, by omega, fun y hy => Nat.le_trans (b5 y hy) h, by omega, fun y hy => Nat.le_trans (b7 y hy) h⟩
theorem bd_small {sig : List TControl} {b : TBigraph} (h : bigOK sig b) : bdBigraph 1000 b := by
  have hs := h.small
  have s1 := hs.nodes; have s2 := hs.sites; have s3 := hs.inner; have s4 := hs.outer
  refine ⟨by omega, fun y hy => hs.links y hy, by omega, by omega, fun y hy => ?_, by omega, fun w hw => ?_⟩
  · have := names_size h.outer hy; omega
  · have hn : w.name ∈ inn b := List.mem_map.2 ⟨w, hw, rfl⟩
    have := names_size h.inn hn
    simp only [bdWire]
    omega
theorem fromN_upto {n : Nat} : fromN 0 n = (upto n).map fun l => l := by simp [fromN, upto]
end Go.Fd

namespace Go.Fd
set_option maxRecDepth 20000

theorem upto_get {n k : Nat} (h : k < n) : g0 (upto n) k = k := by
  show (upto n).getD k 0 = _
  rw [List.getD_eq_getElem?_getD, upto, List.getElem?_map, List.getElem?_range h]
  simp
theorem sem_l2Move_id (p : Int) (n : Nat) (h : p < n) (lvl : Nat) (S : Sto) : Sem Go.Proofs.Tryz.prog fid_spec_l2Move lvl [iI p, tI (upto n)] S (iI p) S := by
  refine sem_of_chk k_spec_l2Move trivial ?_
  simp only [c_spec_l2Move, EVA, ↓reduceIte, Nat.reduceEqDiff, Nat.reduceMul, reduceCtorEq, Nat.reduceAdd, Nat.reduceSub, Nat.reduceLeDiff, Nat.reduceLT, Int.reduceToNat, Int.reduceLE, Int.reduceLT, mens, men]
  refine ite_of (fun hlt => ?_) (fun hge => ?_)
  · trivial
  · obtain ⟨k, rfl⟩ : ∃ k : Nat, p = k := ⟨p.toNat, by omega⟩
    have hk : k < (upto n).length := by rw [upto_len]; omega
    have ga := rI_get hk
    rw [upto_get (by omega)] at ga
    simp only [ga, EVA, ↓reduceIte, Nat.reduceEqDiff, Nat.reduceMul, reduceCtorEq, Nat.reduceAdd, Nat.reduceSub, Nat.reduceLeDiff, Nat.reduceLT, Int.reduceToNat, Int.reduceLE, Int.reduceLT, mens, men]
    try rfl
theorem sem_l2Tie_id (b : TBigraph) (l : Int) (n : Nat) (hn : b.edges = n) (h : 0 ≤ l) (lvl : Nat) (S : Sto) : Sem Go.Proofs.Tryz.prog fid_spec_l2Tie lvl [.ag ((cBigraph b).map .tr), iI l, tI (upto n)] S (iI l) S := by
  refine sem_of_chk k_spec_l2Tie trivial ?_
  simp only [c_spec_l2Tie, cBigraph, hn, EVA, ↓reduceIte, Nat.reduceEqDiff, Nat.reduceMul, reduceCtorEq, Nat.reduceAdd, Nat.reduceSub, Nat.reduceLeDiff, Nat.reduceLT, Int.reduceToNat, Int.reduceLE, Int.reduceLT, mens, men]
  refine ite_of (fun hlt => ?_) (fun hge => ?_)
  · trivial
  · obtain ⟨k, rfl⟩ : ∃ k : Nat, l = k := ⟨l.toNat, by omega⟩
    have hk : k < (upto n).length := by rw [upto_len]; omega
    have ga := rI_get hk
    rw [upto_get (by omega)] at ga
    simp only [ga, EVA, ↓reduceIte, Nat.reduceEqDiff, Nat.reduceMul, reduceCtorEq, Nat.reduceAdd, Nat.reduceSub, Nat.reduceLeDiff, Nat.reduceLT, Int.reduceToNat, Int.reduceLE, Int.reduceLT, mens, men]
    try rfl
def fillZ (l : List TNode) (j : Nat) : Row := (l.take j).map cNode ++ List.replicate (l.length - j) [tv 0, tv 0, Tr.sl []]
theorem fillZ_0 {l : List TNode} : List.replicate l.length [tv 0, tv 0, Tr.sl []] = fillZ l 0 := by simp [fillZ]
theorem fillZ_n {l : List TNode} : fillZ l l.length = l.map cNode := by simp [fillZ]
theorem fillZ_len {l : List TNode} {j : Nat} (h : j ≤ l.length) : (fillZ l j).length = l.length := by simp [fillZ]; omega
theorem fillZ_get {l : List TNode} {j : Nat} (h : j < l.length) : (fillZ l j)[j]? = some [tv 0, tv 0, Tr.sl []] := by
  have : (((l.take j).map cNode)).length = j := by rw [List.length_map, List.length_take]; omega
  rw [fillZ, List.getElem?_append_right (by omega), this, List.getElem?_replicate]
  rw [if_pos (by omega)]
theorem fillZ_set {l : List TNode} {j : Nat} (h : j < l.length) : (fillZ l j).set j (cNode l[j]) = fillZ l (j + 1) := by
  have e : (((l.take j).map cNode)).length = j := by rw [List.length_map, List.length_take]; omega
  rw [fillZ, List.set_append_right _ _ (by omega), e, Nat.sub_self]
  rw [show l.length - j = (l.length - (j + 1)) + 1 by omega, List.replicate_succ, List.set_cons_zero, fillZ, List.take_succ_eq_append_getElem h, List.map_append, List.append_assoc]
  rfl
theorem setp_zz {R : Row} {j k : Nat} {e : List Tr} {t : Tr} (h : R[j]? = some e) : setp R [] j k t = R.set j (e.set k t) := by
  simp only [setp, h]
theorem get_set {R : Row} {j : Nat} {e : List Tr} (h : j < R.length) : (R.set j e)[j]? = some e := List.getElem?_set_self h
theorem sem_l2Renumber_id (b : TBigraph) (n E : Nat) (hn : b.nodes.length = n) (hE : b.edges = E) (hbd : bdBigraph 4294967290 b) (hE2 : E ≤ 4294967290) (hp : ∀ x ∈ b.nodes, x.parent < n ∧ ∀ l ∈ x.links, 0 ≤ l) (hs : ∀ p ∈ b.sites, p < n) (hw : ∀ w ∈ b.inner, 0 ≤ w.link) (lvl : Nat) (S : Sto) : Sem Go.Proofs.Tryz.prog fid_spec_l2Renumber lvl [.ag ((cBigraph b).map .tr), tI (upto n), tI (upto E)] S (oBigraph b) S := by
  refine sem_of_chk k_spec_l2Renumber (by simp [oBigraph, low, men, mens]) ?_
  simp only [c_spec_l2Renumber, cBigraph, scrS, unrS, Nat.zero_max, List.length_map, EVA, ↓reduceIte, Nat.reduceEqDiff, Nat.reduceMul, reduceCtorEq, Nat.reduceAdd, Nat.reduceSub, Nat.reduceLeDiff, Nat.reduceLT, Int.reduceToNat, Int.reduceLE, Int.reduceLT, mens, men]
  obtain ⟨b1, b2, b3, b4, b5, b6, b7⟩ := hbd
  refine ⟨by omega, by omega, ?_⟩
  refine wp_cnt (α := Unit) b.nodes.length (fun j _ => [(8, iI j)]) (fun j _ => [(576, .ar 3 (fillZ b.nodes j) true b.nodes.length j)]) (fun _ _ => True) () (by simp only [EVA, ↓reduceIte, Nat.reduceEqDiff, Nat.reduceMul, reduceCtorEq, Nat.reduceAdd, Nat.reduceSub, Nat.reduceLeDiff, Nat.reduceLT, Int.reduceToNat, Int.reduceLE, Int.reduceLT, mens, men]) (by (simp only [fillZ_0, EVA, ↓reduceIte, Nat.reduceEqDiff, Nat.reduceMul, reduceCtorEq, Nat.reduceAdd, Nat.reduceSub, Nat.reduceLeDiff, Nat.reduceLT, Int.reduceToNat, Int.reduceLE, Int.reduceLT, mens, men]) <;> rfl) trivial ?_
  intro j _ hj _
  simp only [List.length_map, EVA, ↓reduceIte, Nat.reduceEqDiff, Nat.reduceMul, reduceCtorEq, Nat.reduceAdd, Nat.reduceSub, Nat.reduceLeDiff, Nat.reduceLT, Int.reduceToNat, Int.reduceLE, Int.reduceLT, mens, men]
  refine ite_of (fun hlt => ?_) (fun hge => ?_)
  · have hja : j < b.nodes.length := by omega
    have ga := getA (c := cNode) hja
    have hkl : b.nodes[j].links.length ≤ 4294967290 := b2 _ (List.getElem_mem hja)
    obtain ⟨p1, p2⟩ := hp _ (List.getElem_mem hja)
    refine wp_cnt (α := Unit) b.nodes[j].links.length (fun k _ => [(9, .hd (lvl, 1056) [] 0 k none k), (10, iI k)]) (fun k _ => [(1056, .ar 1 (rI (b.nodes[j].links.take k)) true k 0)]) (fun _ _ => True) () (by simp only [EVA, ↓reduceIte, Nat.reduceEqDiff, Nat.reduceMul, reduceCtorEq, Nat.reduceAdd, Nat.reduceSub, Nat.reduceLeDiff, Nat.reduceLT, Int.reduceToNat, Int.reduceLE, Int.reduceLT, mens, men]) (by (simp only [EVA, ↓reduceIte, Nat.reduceEqDiff, Nat.reduceMul, reduceCtorEq, Nat.reduceAdd, Nat.reduceSub, Nat.reduceLeDiff, Nat.reduceLT, Int.reduceToNat, Int.reduceLE, Int.reduceLT, mens, men]) <;> rfl) trivial ?_
    intro k _ hk _
    simp only [ga, cNode, List.length_map, EVA, ↓reduceIte, Nat.reduceEqDiff, Nat.reduceMul, reduceCtorEq, Nat.reduceAdd, Nat.reduceSub, Nat.reduceLeDiff, Nat.reduceLT, Int.reduceToNat, Int.reduceLE, Int.reduceLT, mens, men]
    refine ite_of (fun hlt2 => ?_) (fun hge2 => ?_)
    · have hka : k < b.nodes[j].links.length := by omega
      have gl := rI_get hka
      have e0 : g0 b.nodes[j].links k = b.nodes[j].links[k] := by simp [hka]
      have hq := p2 _ (List.getElem_mem hka)
      rw [← e0] at hq
      have hl3 : (b.nodes[j].links.take k).length = k := by rw [List.length_take]; omega
      have hs : rI (b.nodes[j].links.take k) ++ [[tv (g0 b.nodes[j].links k)]] = rI (b.nodes[j].links.take (k + 1)) := by
        rw [List.take_succ_eq_append_getElem hka, rI_app, ← e0]
        rfl
      simp only [ga, cNode, gl, hka, hl3, hs, List.length_map, EVA, ↓reduceIte, Nat.reduceEqDiff, Nat.reduceMul, reduceCtorEq, Nat.reduceAdd, Nat.reduceSub, Nat.reduceLeDiff, Nat.reduceLT, Int.reduceToNat, Int.reduceLE, Int.reduceLT, mens, men]
      have q := sem_l2Tie_id b (g0 b.nodes[j].links k) E hE hq
      simp only [cBigraph, List.map_cons, List.map_nil] at q
      refine kca_intro q ?_
      simp only [ga, cNode, gl, hka, hl3, hs, List.length_map, EVA, ↓reduceIte, Nat.reduceEqDiff, Nat.reduceMul, reduceCtorEq, Nat.reduceAdd, Nat.reduceSub, Nat.reduceLeDiff, Nat.reduceLT, Int.reduceToNat, Int.reduceLE, Int.reduceLT, mens, men]
      exact ⟨by omega, by rw [fits_i64]; omega, cntJ_intro () hka rfl trivial⟩
    · have : k = b.nodes[j].links.length := by omega
      subst this
      rw [List.take_length]
      rw [← hn] at p1
      have hj2 : (upto n).length = n := upto_len
      have gu := rI_get (l := upto n) (i := j) (by omega)
      rw [upto_get (by omega)] at gu
      have q := sem_l2Move_id b.nodes[j].parent n (by omega)
      have g1 := fillZ_get hja
      have hfl := fillZ_len (Nat.le_of_lt hja)
      have hst := fillZ_set hja
      simp only [ga, cNode, gu, g1, hja, List.length_map, EVA, ↓reduceIte, Nat.reduceEqDiff, Nat.reduceMul, reduceCtorEq, Nat.reduceAdd, Nat.reduceSub, Nat.reduceLeDiff, Nat.reduceLT, Int.reduceToNat, Int.reduceLE, Int.reduceLT, mens, men]
      refine kca_intro q ?_
      have t1 := setp_zz (k := 0) (t := Tr.v (.int .i64 b.nodes[j].control)) g1
      simp only [List.set_cons_zero] at t1
      have t2 := setp_zz (k := 1) (t := Tr.v (.int .i64 b.nodes[j].parent)) (get_set (e := [Tr.v (.int .i64 b.nodes[j].control), tv 0, Tr.sl []]) (by rw [hfl]; exact hja))
      simp only [List.set_cons_zero, List.set_cons_succ, List.set_set] at t2
      have t3 := setp_zz (k := 2) (t := Tr.sl (rI b.nodes[j].links)) (get_set (e := [Tr.v (.int .i64 b.nodes[j].control), Tr.v (.int .i64 b.nodes[j].parent), Tr.sl []]) (by rw [hfl]; exact hja))
      simp only [List.set_cons_zero, List.set_cons_succ, List.set_set] at t3
      have hst' : (fillZ b.nodes j).set j [Tr.v (.int .i64 b.nodes[j].control), Tr.v (.int .i64 b.nodes[j].parent), Tr.sl (rI b.nodes[j].links)] = fillZ b.nodes (j + 1) := hst
      rw [hst'] at t3
      have g2 := get_set (e := [Tr.v (.int .i64 b.nodes[j].control), tv 0, Tr.sl []]) (by rw [hfl]; exact hja)
      have g3 := get_set (e := [Tr.v (.int .i64 b.nodes[j].control), Tr.v (.int .i64 b.nodes[j].parent), Tr.sl []]) (by rw [hfl]; exact hja)
      simp only [ga, cNode, gu, g1, g2, g3, t1, t2, t3, hja, List.length_map, EVA, ↓reduceIte, Nat.reduceEqDiff, Nat.reduceMul, reduceCtorEq, Nat.reduceAdd, Nat.reduceSub, Nat.reduceLeDiff, Nat.reduceLT, Int.reduceToNat, Int.reduceLE, Int.reduceLT, mens, men]
      exact ⟨by rw [fits_i64]; omega, cntJ_intro () hja rfl trivial⟩
  · have : j = b.nodes.length := by omega
    subst this
    rw [fillZ_n]
    refine wp_cnt (α := Unit) b.sites.length (fun j _ => [(11, iI j)]) (fun j _ => [(224, .bx [iI b.roots, .hd (lvl, 576) [] 0 b.nodes.length none b.nodes.length, .hd (lvl, 800) [] 0 j none j, iI b.edges, .hd (lvl, 672) [] 0 b.outer.length none b.outer.length, .hd (lvl, 801) [] 0 0 none 0]), (800, .ar 1 (rI (b.sites.take j)) true j 0)]) (fun _ _ => True) () (by simp only [EVA, ↓reduceIte, Nat.reduceEqDiff, Nat.reduceMul, reduceCtorEq, Nat.reduceAdd, Nat.reduceSub, Nat.reduceLeDiff, Nat.reduceLT, Int.reduceToNat, Int.reduceLE, Int.reduceLT, mens, men]) (by (simp only [EVA, ↓reduceIte, Nat.reduceEqDiff, Nat.reduceMul, reduceCtorEq, Nat.reduceAdd, Nat.reduceSub, Nat.reduceLeDiff, Nat.reduceLT, Int.reduceToNat, Int.reduceLE, Int.reduceLT, mens, men]) <;> rfl) trivial ?_
    intro j _ hj _
    simp only [List.length_map, EVA, ↓reduceIte, Nat.reduceEqDiff, Nat.reduceMul, reduceCtorEq, Nat.reduceAdd, Nat.reduceSub, Nat.reduceLeDiff, Nat.reduceLT, Int.reduceToNat, Int.reduceLE, Int.reduceLT, mens, men]
    refine ite_of (fun hlt => ?_) (fun hge => ?_)
    · have hja : j < b.sites.length := by omega
      have ga := rI_get hja
      have e0 : g0 b.sites j = b.sites[j] := by simp [hja]
      have hq := hs _ (List.getElem_mem hja)
      rw [← e0] at hq
      have hl3 : (b.sites.take j).length = j := by rw [List.length_take]; omega
      have hs : rI (b.sites.take j) ++ [[tv (g0 b.sites j)]] = rI (b.sites.take (j + 1)) := by
        rw [List.take_succ_eq_append_getElem hja, rI_app, ← e0]
        rfl
      simp only [ga, hja, hl3, hs, List.length_map, EVA, ↓reduceIte, Nat.reduceEqDiff, Nat.reduceMul, reduceCtorEq, Nat.reduceAdd, Nat.reduceSub, Nat.reduceLeDiff, Nat.reduceLT, Int.reduceToNat, Int.reduceLE, Int.reduceLT, mens, men]
      refine kca_intro (sem_l2Move_id (g0 b.sites j) n hq) ?_
      simp only [ga, hja, hl3, hs, List.length_map, EVA, ↓reduceIte, Nat.reduceEqDiff, Nat.reduceMul, reduceCtorEq, Nat.reduceAdd, Nat.reduceSub, Nat.reduceLeDiff, Nat.reduceLT, Int.reduceToNat, Int.reduceLE, Int.reduceLT, mens, men]
      exact ⟨by omega, by rw [fits_i64]; omega, cntJ_intro () hja rfl trivial⟩
    · have : j = b.sites.length := by omega
      subst this
      rw [List.take_length]
      refine wp_cnt (α := Unit) b.inner.length (fun j _ => [(12, iI j)]) (fun j _ => [(224, .bx [iI b.roots, .hd (lvl, 576) [] 0 b.nodes.length none b.nodes.length, .hd (lvl, 800) [] 0 b.sites.length none b.sites.length, iI b.edges, .hd (lvl, 672) [] 0 b.outer.length none b.outer.length, .hd (lvl, 801) [] 0 j none j]), (801, .ar 2 ((b.inner.take j).map cWire) true j 0)]) (fun _ _ => True) () (by simp only [EVA, ↓reduceIte, Nat.reduceEqDiff, Nat.reduceMul, reduceCtorEq, Nat.reduceAdd, Nat.reduceSub, Nat.reduceLeDiff, Nat.reduceLT, Int.reduceToNat, Int.reduceLE, Int.reduceLT, mens, men]) (by (simp only [EVA, ↓reduceIte, Nat.reduceEqDiff, Nat.reduceMul, reduceCtorEq, Nat.reduceAdd, Nat.reduceSub, Nat.reduceLeDiff, Nat.reduceLT, Int.reduceToNat, Int.reduceLE, Int.reduceLT, mens, men]) <;> rfl) trivial ?_
      intro j _ hj _
      simp only [List.length_map, EVA, ↓reduceIte, Nat.reduceEqDiff, Nat.reduceMul, reduceCtorEq, Nat.reduceAdd, Nat.reduceSub, Nat.reduceLeDiff, Nat.reduceLT, Int.reduceToNat, Int.reduceLE, Int.reduceLT, mens, men]
      refine ite_of (fun hlt => ?_) (fun hge => ?_)
      · have hja : j < b.inner.length := by omega
        have ga := getA (c := cWire) hja
        have hq := hw _ (List.getElem_mem hja)
        have hl3 : (b.inner.take j).length = j := by rw [List.length_take]; omega
        have hs : (b.inner.take j).map cWire ++ [[ts b.inner[j].name, tv b.inner[j].link]] = (b.inner.take (j + 1)).map cWire := by
          rw [List.take_succ_eq_append_getElem hja, List.map_append]
          rfl
        simp only [ga, cWire, hja, hl3, hs, List.length_map, EVA, ↓reduceIte, Nat.reduceEqDiff, Nat.reduceMul, reduceCtorEq, Nat.reduceAdd, Nat.reduceSub, Nat.reduceLeDiff, Nat.reduceLT, Int.reduceToNat, Int.reduceLE, Int.reduceLT, mens, men]
        have q := sem_l2Tie_id b b.inner[j].link E hE hq
        simp only [cBigraph, List.map_cons, List.map_nil] at q
        refine kca_intro q ?_
        simp only [ga, cWire, hja, hl3, hs, List.length_map, EVA, ↓reduceIte, Nat.reduceEqDiff, Nat.reduceMul, reduceCtorEq, Nat.reduceAdd, Nat.reduceSub, Nat.reduceLeDiff, Nat.reduceLT, Int.reduceToNat, Int.reduceLE, Int.reduceLT, mens, men]
        exact ⟨by omega, by rw [fits_i64]; omega, cntJ_intro () hja rfl trivial⟩
      · have : j = b.inner.length := by omega
        subst this
        rw [List.take_length]
        exact ⟨rfl, rfl⟩
theorem sem_l2Own (b : TBigraph) (E : Nat) (hE : b.edges = E) (hbd : bdBigraph 4294967290 b) (hE2 : E ≤ 4294967290) (hp : ∀ x ∈ b.nodes, x.parent < b.nodes.length ∧ ∀ l ∈ x.links, 0 ≤ l) (hs : ∀ p ∈ b.sites, p < b.nodes.length) (hw : ∀ w ∈ b.inner, 0 ≤ w.link) (lvl : Nat) (S : Sto) : Sem Go.Proofs.Tryz.prog fid_spec_l2Own lvl [.ag ((cBigraph b).map .tr)] S (oBigraph b) S := by
  refine sem_of_chk k_spec_l2Own (by simp [oBigraph, low, men, mens]) ?_
  simp only [c_spec_l2Own, cBigraph, List.length_map, EVA, ↓reduceIte, Nat.reduceEqDiff, Nat.reduceMul, reduceCtorEq, Nat.reduceAdd, Nat.reduceSub, Nat.reduceLeDiff, Nat.reduceLT, Int.reduceToNat, Int.reduceLE, Int.reduceLT, mens, men]
  have b1 := hbd.1
  refine wp_cnt (α := Unit) b.nodes.length (fun j _ => [(3, .hd (lvl, 224) [] 0 j none j), (5, iI j)]) (fun j _ => [(224, .ar 1 (rI (upto j)) true j 0)]) (fun _ _ => True) () (by simp only [EVA, ↓reduceIte, Nat.reduceEqDiff, Nat.reduceMul, reduceCtorEq, Nat.reduceAdd, Nat.reduceSub, Nat.reduceLeDiff, Nat.reduceLT, Int.reduceToNat, Int.reduceLE, Int.reduceLT, mens, men]) (by (simp only [EVA, ↓reduceIte, Nat.reduceEqDiff, Nat.reduceMul, reduceCtorEq, Nat.reduceAdd, Nat.reduceSub, Nat.reduceLeDiff, Nat.reduceLT, Int.reduceToNat, Int.reduceLE, Int.reduceLT, mens, men]) <;> rfl) trivial ?_
  intro j _ hj _
  simp only [List.length_map, EVA, ↓reduceIte, Nat.reduceEqDiff, Nat.reduceMul, reduceCtorEq, Nat.reduceAdd, Nat.reduceSub, Nat.reduceLeDiff, Nat.reduceLT, Int.reduceToNat, Int.reduceLE, Int.reduceLT, mens, men]
  refine ite_of (fun hlt => ?_) (fun hge => ?_)
  · have hja : j < b.nodes.length := by omega
    have hl : (upto j).length = j := upto_len
    have hs : rI (upto j) ++ [[tv (j : Int)]] = rI (upto (j + 1)) := by simp [upto, rI, List.range_succ]
    simp only [hja, hl, hs, List.length_map, EVA, ↓reduceIte, Nat.reduceEqDiff, Nat.reduceMul, reduceCtorEq, Nat.reduceAdd, Nat.reduceSub, Nat.reduceLeDiff, Nat.reduceLT, Int.reduceToNat, Int.reduceLE, Int.reduceLT, mens, men]
    exact ⟨by omega, by rw [fits_i64]; omega, cntJ_intro () hja rfl trivial⟩
  · have : j = b.nodes.length := by omega
    subst this
    refine wp_cnt (α := Unit) E (fun j _ => [(4, .hd (lvl, 256) [] 0 j none j), (6, iI j)]) (fun j _ => [(256, .ar 1 (rI (upto j)) true j 0)]) (fun _ _ => True) () (by simp only [EVA, ↓reduceIte, Nat.reduceEqDiff, Nat.reduceMul, reduceCtorEq, Nat.reduceAdd, Nat.reduceSub, Nat.reduceLeDiff, Nat.reduceLT, Int.reduceToNat, Int.reduceLE, Int.reduceLT, mens, men]) (by (simp only [EVA, ↓reduceIte, Nat.reduceEqDiff, Nat.reduceMul, reduceCtorEq, Nat.reduceAdd, Nat.reduceSub, Nat.reduceLeDiff, Nat.reduceLT, Int.reduceToNat, Int.reduceLE, Int.reduceLT, mens, men]) <;> rfl) trivial ?_
    intro j _ hj _
    simp only [hE, List.length_map, EVA, ↓reduceIte, Nat.reduceEqDiff, Nat.reduceMul, reduceCtorEq, Nat.reduceAdd, Nat.reduceSub, Nat.reduceLeDiff, Nat.reduceLT, Int.reduceToNat, Int.reduceLE, Int.reduceLT, mens, men]
    refine ite_of (fun hlt => ?_) (fun hge => ?_)
    · have hja : j < E := by omega
      have hl : (upto j).length = j := upto_len
      have hs : rI (upto j) ++ [[tv (j : Int)]] = rI (upto (j + 1)) := by simp [upto, rI, List.range_succ]
      simp only [hja, hl, hs, List.length_map, EVA, ↓reduceIte, Nat.reduceEqDiff, Nat.reduceMul, reduceCtorEq, Nat.reduceAdd, Nat.reduceSub, Nat.reduceLeDiff, Nat.reduceLT, Int.reduceToNat, Int.reduceLE, Int.reduceLT, mens, men]
      exact ⟨by omega, by rw [fits_i64]; omega, cntJ_intro () hja rfl trivial⟩
    · have : j = E := by omega
      subst this
      have l1 : (upto b.nodes.length).length = b.nodes.length := upto_len
      have l2 : (upto j).length = j := upto_len
      have q := sem_l2Renumber_id b b.nodes.length j rfl hE hbd hE2 hp hs hw
      simp only [cBigraph, List.map_cons, List.map_nil, hE] at q
      rw [show cut (rI (upto b.nodes.length)) 0 b.nodes.length = rI (upto b.nodes.length) from cut_all (by rw [List.length_map, l1]), show cut (rI (upto j)) 0 j = rI (upto j) from cut_all (by rw [List.length_map, l2])]
      refine ⟨by omega, by omega, kca_intro q ?_⟩
      simp only [oBigraph, hE, List.length_map, EVA, ↓reduceIte, Nat.reduceEqDiff, Nat.reduceMul, reduceCtorEq, Nat.reduceAdd, Nat.reduceSub, Nat.reduceLeDiff, Nat.reduceLT, Int.reduceToNat, Int.reduceLE, Int.reduceLT, mens, men]
      try rfl
theorem big_par {sig : List TControl} {b : TBigraph} (h : bigOK sig b) {x : TNode} (hx : x ∈ b.nodes) : x.parent < b.nodes.length ∧ ∀ l ∈ x.links, 0 ≤ l ∧ l < b.edges + b.outer.length := by
  obtain ⟨k, hk, rfl⟩ := List.getElem_of_mem hx
  have q := h.nodes k hk
  refine ⟨?_, fun l hl => ?_⟩
  · rcases q.par with p | p <;> omega
  · have := q.links l hl
    unfold linkOK at this
    omega
theorem big_site {sig : List TControl} {b : TBigraph} (h : bigOK sig b) {p : Int} (hp : p ∈ b.sites) : p < b.nodes.length := by
  rcases h.sites p hp with q | q <;> omega
theorem sem_l2OwnG (sig : List TControl) (b : TBigraph) (h : bigOK sig b) (lvl : Nat) (S : Sto) : Sem Go.Proofs.Tryz.prog fid_spec_l2Own lvl [.ag ((cBigraph b).map .tr)] S (oBigraph b) S := by
  have he := h.edges
  exact sem_l2Own b b.edges.toNat (by omega) (bd_mono (by omega) (bd_small h)) (by omega) (fun x hx => ⟨(big_par h hx).1, fun l hl => ((big_par h hx).2 l hl).1⟩) (fun p hp => big_site h hp) (fun w hw => (h.inner w hw).1) lvl S
end Go.Fd

namespace Go.Fd
set_option maxRecDepth 20000

theorem sem_l4Named (names : List ByteArray) (e : Int) (o : List ByteArray) (hn : names.length ≤ 4294967290) (he : -4294967296 ≤ e ∧ e ≤ 4294967296) (ho : o.length ≤ 4294967290) (lvl : Nat) (S : Sto) : Sem Go.Proofs.Tryz.prog fid_spec_l4Named lvl [.tr (.sl (rS names)), iI e, .tr (.sl (rS o))] S (.ow 1 (rI (names.map fun x => e + ixS o x)) true) S := by
  refine sem_of_chk k_spec_l4Named trivial ?_
  simp only [c_spec_l4Named, List.length_map, EVA, ↓reduceIte, Nat.reduceEqDiff, Nat.reduceMul, reduceCtorEq, Nat.reduceAdd, Nat.reduceSub, Nat.reduceLeDiff, Nat.reduceLT, Int.reduceToNat, Int.reduceLE, Int.reduceLT, mens, men]
  refine wp_cnt (α := Unit) names.length (fun j _ => [(7, .hd (lvl, 288) [] 0 j none j), (8, iI j)]) (fun j _ => [(288, .ar 1 (rI ((names.take j).map fun x => e + ixS o x)) true j 0)]) (fun _ _ => True) () (by simp only [EVA, ↓reduceIte, Nat.reduceEqDiff, Nat.reduceMul, reduceCtorEq, Nat.reduceAdd, Nat.reduceSub, Nat.reduceLeDiff, Nat.reduceLT, Int.reduceToNat, Int.reduceLE, Int.reduceLT, mens, men]) (by (simp only [EVA, ↓reduceIte, Nat.reduceEqDiff, Nat.reduceMul, reduceCtorEq, Nat.reduceAdd, Nat.reduceSub, Nat.reduceLeDiff, Nat.reduceLT, Int.reduceToNat, Int.reduceLE, Int.reduceLT, mens, men]) <;> rfl) trivial ?_
  intro j _ hj _
  simp only [List.length_map, EVA, ↓reduceIte, Nat.reduceEqDiff, Nat.reduceMul, reduceCtorEq, Nat.reduceAdd, Nat.reduceSub, Nat.reduceLeDiff, Nat.reduceLT, Int.reduceToNat, Int.reduceLE, Int.reduceLT, mens, men]
  refine ite_of (fun hlt => ?_) (fun hge => ?_)
  · have hja : j < names.length := by omega
    have ga := getX (e0 := e0S) (c := fun n : ByteArray => [ts n]) hja
    rw [gx_eq hja] at ga
    have hl2 : (names.take j).length = j := by rw [List.length_take]; omega
    have x1 := ixS_ge (l := o) (s := names[j])
    have x2 := ixS_le (l := o) (s := names[j])
    have hs : rI ((names.take j).map fun x => e + ixS o x) ++ [[tv (e + ixS o names[j])]] = rI ((names.take (j + 1)).map fun x => e + ixS o x) := by
      rw [List.take_succ_eq_append_getElem hja, List.map_append, rI_app]
      rfl
    simp only [ga, hja, List.length_map, EVA, ↓reduceIte, Nat.reduceEqDiff, Nat.reduceMul, reduceCtorEq, Nat.reduceAdd, Nat.reduceSub, Nat.reduceLeDiff, Nat.reduceLT, Int.reduceToNat, Int.reduceLE, Int.reduceLT, mens, men]
    refine kca_intro (sem_l2At o names[j] (by omega)) ?_
    simp only [ga, hja, hl2, hs, List.length_map, EVA, ↓reduceIte, Nat.reduceEqDiff, Nat.reduceMul, reduceCtorEq, Nat.reduceAdd, Nat.reduceSub, Nat.reduceLeDiff, Nat.reduceLT, Int.reduceToNat, Int.reduceLE, Int.reduceLT, mens, men]
    exact ⟨by rw [fits_i64]; omega, by omega, by rw [fits_i64]; omega, cntJ_intro () hja rfl trivial⟩
  · have : j = names.length := by omega
    subst this
    rw [List.take_length]
    exact ⟨by simp, rfl⟩
theorem endB_fit {b : TBigraph} {l : Int} (he : 0 ≤ b.edges ∧ b.edges ≤ 8) (hl : linkOK b l) : -4294967296 ≤ (endB b l).1 ∧ (endB b l).1 ≤ 4294967296 := by
  rcases link_cases hl with ⟨h0, h1⟩ | ⟨i, hi, rfl⟩
  · rw [endB_e h1]; dsimp only; omega
  · rw [endB_n hi]; dsimp only; omega
end Go.Fd

namespace Go.Fd
end Go.Fd

namespace Go.Fd
set_option maxRecDepth 20000

def joinG (a b : TBigraph) (roots : Int) (ss : List Int) (o : List ByteArray) (FL FR mv : Int → Int) : TBigraph :=
  ⟨roots, a.nodes.map (mapN FL) ++ b.nodes.map (fun x => ⟨x.control, mv x.parent, x.links.map FR⟩), ss ++ b.sites.map mv, a.edges + b.edges, o, b.inner.map (mapW FR)⟩
theorem joinG_congr {sig : List TControl} {a b : TBigraph} (ha : bigOK sig a) (hb : bigOK sig b) {roots : Int} {ss : List Int} {o : List ByteArray} {FL FR mv FL' FR' mv' : Int → Int} (hL : ∀ l, linkOK a l → FL l = FL' l) (hR : ∀ l, linkOK b l → FR l = FR' l) (hm : ∀ p, -b.roots ≤ p → mv p = mv' p) :
    joinG a b roots ss o FL FR mv = joinG a b roots ss o FL' FR' mv' := by
  have hr := hb.roots.1
  unfold joinG
  have e1 : a.nodes.map (mapN FL) = a.nodes.map (mapN FL') := List.map_congr_left fun x hx => by
    obtain ⟨i, hi, rfl⟩ := List.getElem_of_mem hx
    unfold mapN
    congr 1
    exact List.map_congr_left fun l hl => hL l ((ha.nodes i hi).links l hl)
  have e2 : b.nodes.map (fun x => (⟨x.control, mv x.parent, x.links.map FR⟩ : TNode)) = b.nodes.map (fun x => ⟨x.control, mv' x.parent, x.links.map FR'⟩) := List.map_congr_left fun x hx => by
    obtain ⟨i, hi, rfl⟩ := List.getElem_of_mem hx
    have hn := hb.nodes i hi
    rw [hm _ (under_ge hr hn.par)]
    congr 1
    exact List.map_congr_left fun l hl => hR l (hn.links l hl)
  have e3 : b.sites.map mv = b.sites.map mv' := List.map_congr_left fun p hp => hm p (under_ge hr (hb.sites p hp))
  have e4 : b.inner.map (mapW FR) = b.inner.map (mapW FR') := List.map_congr_left fun w hw => by
    unfold mapW
    rw [hR _ (hb.inner w hw)]
  rw [e1, e2, e3, e4]

def tabA (a : TBigraph) (e : Int) (o : List ByteArray) : List Int := tabL a (fun l => l) fun x => e + ixS o x
def tabB (a b : TBigraph) (g : ByteArray → Int) : List Int := tabL b (fun l => a.edges + l) g
theorem fromN_map {c : Int} {n : Nat} : fromN c n = (upto n).map fun l => c + l := by simp [fromN, upto]
theorem tabA_eq {a : TBigraph} {e : Int} {o : List ByteArray} {n : Nat} (hn : a.edges = n) : fromN 0 n ++ a.outer.map (fun x => e + ixS o x) = tabA a e o := by
  rw [tabA, tabL, fromN_upto, hn, Int.toNat_natCast]
theorem tabB_eq {a b : TBigraph} {g : ByteArray → Int} {n : Nat} (hn : b.edges = n) : fromN a.edges n ++ b.outer.map g = tabB a b g := by
  rw [tabB, tabL, fromN_map, hn, Int.toNat_natCast]
theorem tabL_len {b : TBigraph} {f : Int → Int} {g : ByteArray → Int} (h : 0 ≤ b.edges) : ((tabL b f g).length : Int) = b.edges + b.outer.length := by
  rw [tabL, List.length_append, List.length_map, List.length_map, upto_len]
  omega
theorem relA {sig : List TControl} {a : TBigraph} (ha : bigOK sig a) {e : Int} {o : List ByteArray} {l : Int} (hl : linkOK a l) : relF a e o (fun x => x) l = g0 (tabA a e o) l.toNat := by
  have he := ha.edges
  unfold relF tabA
  rcases link_cases hl with ⟨h0, h1⟩ | ⟨i, hi, rfl⟩
  · rw [tabL_e h0 h1, endB_e h1, if_pos rfl]
  · rw [tabL_n he.1 hi, endB_n hi, if_neg (names_ne ha.outer (List.getElem_mem hi))]
def turnB (a : TBigraph) (nm : ByteArray → Int × ByteArray) (x : Int × ByteArray) : Int × ByteArray := if x.2 = e0S then (x.1 + a.edges, e0S) else nm x.2
theorem relB {sig : List TControl} {a b : TBigraph} (hb : bigOK sig b) {e : Int} {o : List ByteArray} {nm : ByteArray → Int × ByteArray} {g : ByteArray → Int} (hg : ∀ i (h : i < b.outer.length), (if (nm b.outer[i]).2 = e0S then (nm b.outer[i]).1 else e + ixS o (nm b.outer[i]).2) = g b.outer[i]) {l : Int} (hl : linkOK b l) : relF b e o (turnB a nm) l = g0 (tabB a b g) l.toNat := by
  have he := hb.edges
  unfold relF tabB
  rcases link_cases hl with ⟨h0, h1⟩ | ⟨i, hi, rfl⟩
  · rw [tabL_e h0 h1, endB_e h1]
    unfold turnB
    rw [if_pos rfl, if_pos rfl]
    omega
  · rw [tabL_n he.1 hi, endB_n hi]
    unfold turnB
    rw [if_neg (names_ne hb.outer (List.getElem_mem hi)), hg i hi]
def inE (a : TBigraph) (s : ByteArray) : Int × ByteArray := endB a ((a.inner[(ixS (inn a) s).toNat]?).map TWire.link |>.getD 0)
def inL (a : TBigraph) (e : Int) (o : List ByteArray) (s : ByteArray) : Int := g0 (tabA a e o) ((a.inner[(ixS (inn a) s).toNat]?).map TWire.link |>.getD 0).toNat
theorem inn_at {sig : List TControl} {a : TBigraph} (ha : bigOK sig a) {i : Nat} (h : i < a.inner.length) : a.inner[(ixS (inn a) (a.inner[i]).name).toNat]? = some a.inner[i] := by
  have hl : i < (inn a).length := by rw [inn_len]; exact h
  have e : (inn a)[i] = (a.inner[i]).name := by simp [inn]
  have h1 := ixS_at (names_pw ha.inn) hl
  rw [e] at h1
  rw [h1, Int.toNat_natCast, List.getElem?_eq_getElem h]
theorem inE_rel {sig : List TControl} {a : TBigraph} (ha : bigOK sig a) {e : Int} {o : List ByteArray} {i : Nat} (h : i < a.inner.length) : (if (inE a (a.inner[i]).name).2 = e0S then (inE a (a.inner[i]).name).1 else e + ixS o (inE a (a.inner[i]).name).2) = inL a e o (a.inner[i]).name := by
  have hat := inn_at ha h
  unfold inE inL
  rw [hat]
  exact relA ha (ha.inner _ (List.getElem_mem h))
def underB (a b : TBigraph) (o : List ByteArray) (L R : List Int) : TBigraph := joinG a b a.roots [] o (fun l => g0 L l.toNat) (fun l => g0 R l.toNat) (parG a.nodes.length a.sites)
def movP (a : TBigraph) (p : Int) : Int := if 0 ≤ p then p + a.nodes.length else g0 a.sites (-1 - p).toNat
theorem movP_eq {a : TBigraph} {p : Int} : movP a p = parG a.nodes.length a.sites p := by
  unfold movP parG
  by_cases h : 0 ≤ p
  · rw [if_pos h, if_neg (by omega)]
  · rw [if_neg h, if_pos (by omega)]
theorem setS_id {l : List ByteArray} (h : l.Pairwise ltS) : setS l = l := setG_eq ordsS h fun _ => Iff.rfl
def compT (a b : TBigraph) : List Int := a.inner.map fun w => g0 (tabA a (a.edges + b.edges) a.outer) w.link.toNat
def compB (a b : TBigraph) : TBigraph := underB a b a.outer (tabA a (a.edges + b.edges) a.outer) (tabB a b (inL a (a.edges + b.edges) a.outer))
def fitOK (a b : TBigraph) : Prop := a.sites.length = b.roots ∧ inn a = b.outer
theorem compT_eq {sig : List TControl} {a b : TBigraph} (ha : bigOK sig a) (hf : inn a = b.outer) : compT a b = b.outer.map (inL a (a.edges + b.edges) a.outer) := by
  rw [← hf, inn, List.map_map]
  refine List.map_congr_left fun w hw => ?_
  obtain ⟨i, hi, rfl⟩ := List.getElem_of_mem hw
  simp only [Function.comp]
  unfold inL
  rw [inn_at ha hi]
  rfl
theorem comp_eq {sig : List TControl} {a b : TBigraph} (ha : bigOK sig a) (hb : bigOK sig b) (hf : inn a = b.outer) :
    joinG a b a.roots [] (setS a.outer) (relF a (a.edges + b.edges) (setS a.outer) fun x => x) (relF b (a.edges + b.edges) (setS a.outer) (turnB a (inE a))) (movP a) = compB a b := by
  rw [setS_id (names_pw ha.outer)]
  refine joinG_congr ha hb (fun l hl => relA ha hl) (fun l hl => relB hb (fun i hi => ?_) hl) fun p _ => movP_eq
  have hi2 : i < a.inner.length := by rw [← inn_len, hf]; exact hi
  have e : b.outer[i] = (a.inner[i]).name := by
    have : (inn a)[i]'(by rw [inn_len]; exact hi2) = (a.inner[i]).name := by simp [inn]
    rw [← this]
    congr 1
    exact hf.symm
  rw [e]
  exact inE_rel ha hi2
end Go.Fd

namespace Go.Fd
set_option maxRecDepth 20000

theorem big_hP {sig : List TControl} {b : TBigraph} (h : bigOK sig b) {ps : List Int} (hp : (ps.length : Int) = b.roots) {p : Int} (h1 : -b.roots ≤ p) (h2 : p < b.nodes.length) : (-4294967296 ≤ p ∧ p ≤ 4294967296) ∧ (p < 0 → (-1 - p).toNat < ps.length) := by
  have hr := h.roots
  have hn := h.small.nodes
  exact ⟨by omega, fun h3 => by omega⟩
theorem big_hN {sig : List TControl} {b : TBigraph} (h : bigOK sig b) {ps ls : List Int} (hp : (ps.length : Int) = b.roots) (hl : (ls.length : Int) = b.edges + b.outer.length) : ∀ x ∈ b.nodes, x.links.length ≤ 4294967290 ∧ ((-4294967296 ≤ x.parent ∧ x.parent ≤ 4294967296) ∧ (x.parent < 0 → (-1 - x.parent).toNat < ps.length)) ∧ ∀ l ∈ x.links, 0 ≤ l ∧ l < ls.length := fun x hx => by
  have hl2 := h.small.links _ hx
  have hb := big_par h hx
  obtain ⟨k, hk, rfl⟩ := List.getElem_of_mem hx
  refine ⟨by omega, big_hP h hp (under_ge h.roots.1 (h.nodes k hk).par) hb.1, fun l hl3 => ?_⟩
  have := hb.2 l hl3
  omega
theorem big_hS {sig : List TControl} {b : TBigraph} (h : bigOK sig b) {ps : List Int} (hp : (ps.length : Int) = b.roots) : ∀ p ∈ b.sites, (-4294967296 ≤ p ∧ p ≤ 4294967296) ∧ (p < 0 → (-1 - p).toNat < ps.length) := fun p hq => big_hP h hp (under_ge h.roots.1 (h.sites p hq)) (big_site h hq)
theorem big_hW {sig : List TControl} {b : TBigraph} (h : bigOK sig b) {ls : List Int} (hl : (ls.length : Int) = b.edges + b.outer.length) : ∀ w ∈ b.inner, 0 ≤ w.link ∧ w.link < ls.length := fun w hw => by
  have := h.inner w hw
  unfold linkOK at this
  omega
theorem nodes_id {sig : List TControl} {b : TBigraph} (h : bigOK sig b) {n : Nat} (hn : b.roots = n) {ls : List Int} : b.nodes.map (nodeL 0 (rootsN 0 n) ls) = b.nodes.map (mapN fun l => g0 ls l.toNat) := List.map_congr_left fun x hx => by
  obtain ⟨k, hk, rfl⟩ := List.getElem_of_mem hx
  unfold nodeL mapN
  rw [parG_id hn (under_ge h.roots.1 (h.nodes k hk).par)]
theorem sites_id {sig : List TControl} {b : TBigraph} (h : bigOK sig b) {n : Nat} (hn : b.roots = n) : b.sites.map (parG 0 (rootsN 0 n)) = b.sites := by
  have : b.sites.map (parG 0 (rootsN 0 n)) = b.sites.map id := List.map_congr_left fun p hp => parG_id hn (under_ge h.roots.1 (h.sites p hp))
  rw [this, List.map_id]
theorem unrN {l : List TNode} : UnR 3 (l.map cNode) = True := eq_true (UnR_map cNode (fun _ => rfl) l)
abbrev bigU (b : TBigraph) (u : Bool) : IV := .ag [iI b.roots, .ow 3 (b.nodes.map cNode) u, .ow 1 (rI b.sites) true, iI b.edges, .ow 1 (rS b.outer) true, .ow 2 (b.inner.map cWire) true]
theorem sem_l4Under (sig : List TControl) (a b : TBigraph) (o : List ByteArray) (above below : List Int) (ha : bigOK sig a) (hb : bigOK sig b) (hf : (a.sites.length : Int) = b.roots) (hA : above.length = a.outer.length) (hB : below.length = b.outer.length) (ho : o.length ≤ 4294967290) (L R : List Int) (hL : ∀ n : Nat, a.edges = n → fromN 0 n ++ above = L) (hR : ∀ n : Nat, b.edges = n → fromN a.edges n ++ below = R)
    (lvl : Nat) (S : Sto) : Sem Go.Proofs.Tryz.prog fid_spec_l4Under lvl [.ag ((cBigraph a).map .tr), .ag ((cBigraph b).map .tr), .tr (.sl (rS o)), tI above, tI below] S (bigU (underB a b o L R) false) S := by
  have ra := ha.roots; have rb := hb.roots
  have ea := ha.edges; have eb := hb.edges
  have sa := ha.small; have sb := hb.small
  have a1 := sa.nodes; have a2 := sa.sites; have a3 := sa.inner; have a4 := sa.outer
  have b1 := sb.nodes; have b2 := sb.sites; have b3 := sb.inner; have b4 := sb.outer
  obtain ⟨n, hn⟩ : ∃ n : Nat, a.roots = n := ⟨a.roots.toNat, by omega⟩
  obtain ⟨m, hm⟩ : ∃ m : Nat, a.edges = m := ⟨a.edges.toNat, by omega⟩
  obtain ⟨k, hk⟩ : ∃ k : Nat, b.edges = k := ⟨b.edges.toNat, by omega⟩
  have hLL := hL m hm
  have hRR := hR k hk
  have lenL : (L.length : Int) = a.edges + a.outer.length := by rw [← hLL, List.length_append, fromN_len, hA]; omega
  have lenR : (R.length : Int) = b.edges + b.outer.length := by rw [← hRR, List.length_append, fromN_len, hB]; omega
  have w1 : rI (fromN 0 m) ++ rI above = rI L := by rw [← rI_app, hLL]
  have w2 : m + above.length = L.length := by rw [← hLL, List.length_append, fromN_len]
  have w3 : rI (fromN (m : Int) k) ++ rI below = rI R := by rw [← rI_app, ← hm, hRR]
  have w4 : k + below.length = R.length := by rw [← hRR, List.length_append, fromN_len]
  have w5 : max m L.length = L.length := by omega
  have w6 : max k R.length = R.length := by omega
  have c1 : cut (rI L) 0 L.length = rI L := cut_all (by rw [List.length_map])
  have c2 : cut (rI R) 0 R.length = rI R := cut_all (by rw [List.length_map])
  refine sem_of_chk k_spec_l4Under (by simp [low, men, mens]) ?_
  simp only [c_spec_l4Under, cBigraph, hn, EVA, ↓reduceIte, Nat.reduceEqDiff, Nat.reduceMul, reduceCtorEq, Nat.reduceAdd, Nat.reduceSub, Nat.reduceLeDiff, Nat.reduceLT, Int.reduceToNat, Int.reduceLE, Int.reduceLT, mens, men]
  refine kca_intro (sem_l4Roots 0 n (by omega) (by omega)) ?_
  simp only [cBigraph, hm, List.length_map, EVA, ↓reduceIte, Nat.reduceEqDiff, Nat.reduceMul, reduceCtorEq, Nat.reduceAdd, Nat.reduceSub, Nat.reduceLeDiff, Nat.reduceLT, Int.reduceToNat, Int.reduceLE, Int.reduceLT, mens, men]
  refine kca_intro (sem_l4Edges 0 m (by omega) (by omega)) ?_
  simp only [cBigraph, scrI3, unrI3, hm, hk, w1, w2, w5, fromN_len, List.length_append, List.length_map, EVA, ↓reduceIte, Nat.reduceEqDiff, Nat.reduceMul, reduceCtorEq, Nat.reduceAdd, Nat.reduceSub, Nat.reduceLeDiff, Nat.reduceLT, Int.reduceToNat, Int.reduceLE, Int.reduceLT, mens, men]
  refine ⟨by omega, kca_intro (sem_l4Edges m k (by omega) (by omega)) ?_⟩
  simp only [cBigraph, scrI3, unrI3, hm, hk, w3, w4, w6, fromN_len, List.length_append, List.length_map, EVA, ↓reduceIte, Nat.reduceEqDiff, Nat.reduceMul, reduceCtorEq, Nat.reduceAdd, Nat.reduceSub, Nat.reduceLeDiff, Nat.reduceLT, Int.reduceToNat, Int.reduceLE, Int.reduceLT, mens, men]
  refine ⟨by omega, ?_⟩
  have q1 := sem_l4Sites a 0 (rootsN 0 n) (by omega) (by omega) (big_hS ha (by rw [rootsN_len]; omega))
  rw [sites_id ha hn] at q1
  simp only [cBigraph, hn, hm, List.map_cons, List.map_nil] at q1
  refine kca_intro q1 ?_
  simp only [cBigraph, hm, hk, c1, c2, List.length_map, EVA, ↓reduceIte, Nat.reduceEqDiff, Nat.reduceMul, reduceCtorEq, Nat.reduceAdd, Nat.reduceSub, Nat.reduceLeDiff, Nat.reduceLT, Int.reduceToNat, Int.reduceLE, Int.reduceLT, mens, men]
  have q2 := sem_l4Nodes a 0 (rootsN 0 n) L (by omega) (by omega) (big_hN ha (by rw [rootsN_len]; omega) lenL)
  rw [nodes_id ha hn] at q2
  simp only [cBigraph, hn, hm, List.map_cons, List.map_nil] at q2
  refine kca_intro q2 ?_
  simp only [cBigraph, hm, hk, c1, c2, List.length_map, EVA, ↓reduceIte, Nat.reduceEqDiff, Nat.reduceMul, reduceCtorEq, Nat.reduceAdd, Nat.reduceSub, Nat.reduceLeDiff, Nat.reduceLT, Int.reduceToNat, Int.reduceLE, Int.reduceLT, mens, men]
  have q3 := sem_l4Nodes b a.nodes.length a.sites R (by omega) (by omega) (big_hN hb hf lenR)
  simp only [cBigraph, hm, hk, List.map_cons, List.map_nil] at q3
  refine kca_intro q3 ?_
  simp only [cBigraph, unrN, hm, hk, c1, c2, List.length_append, List.length_map, EVA, ↓reduceIte, Nat.reduceEqDiff, Nat.reduceMul, reduceCtorEq, Nat.reduceAdd, Nat.reduceSub, Nat.reduceLeDiff, Nat.reduceLT, Int.reduceToNat, Int.reduceLE, Int.reduceLT, mens, men]
  refine ⟨by omega, ?_⟩
  have q4 := sem_l4Sites b a.nodes.length a.sites (by omega) (by omega) (big_hS hb hf)
  simp only [cBigraph, hm, hk, List.map_cons, List.map_nil] at q4
  refine kca_intro q4 ?_
  simp only [cBigraph, scrS, unrS, hm, hk, c1, c2, List.length_append, List.length_map, EVA, ↓reduceIte, Nat.reduceEqDiff, Nat.reduceMul, reduceCtorEq, Nat.reduceAdd, Nat.reduceSub, Nat.reduceLeDiff, Nat.reduceLT, Int.reduceToNat, Int.reduceLE, Int.reduceLT, mens, men]
  refine ⟨by rw [fits_i64]; omega, by omega, ?_⟩
  have q5 := sem_l4Wires b R (by omega) (big_hW hb lenR)
  simp only [cBigraph, hm, hk, List.map_cons, List.map_nil] at q5
  refine kca_intro q5 ?_
  simp only [cBigraph, scrS, unrS, hm, hk, c1, c2, List.length_append, List.length_map, EVA, ↓reduceIte, Nat.reduceEqDiff, Nat.reduceMul, reduceCtorEq, Nat.reduceAdd, Nat.reduceSub, Nat.reduceLeDiff, Nat.reduceLT, Int.reduceToNat, Int.reduceLE, Int.reduceLT, mens, men]
  simp only [bigU, underB, joinG, List.map_append, List.nil_append, hn, hm, hk]
  rfl
theorem sem_l4Equal (x y : List ByteArray) (hx : x.length ≤ 4294967290) (hy : y.length ≤ 4294967290) (lvl : Nat) (S : Sto) : Sem Go.Proofs.Tryz.prog fid_spec_l4Equal lvl [.tr (.sl (rS x)), .tr (.sl (rS y))] S (iB (dc (x = y))) S := by
  refine sem_of_chk k_spec_l4Equal trivial ?_
  simp only [c_spec_l4Equal, List.length_map, EVA, ↓reduceIte, Nat.reduceEqDiff, Nat.reduceMul, reduceCtorEq, Nat.reduceAdd, Nat.reduceSub, Nat.reduceLeDiff, Nat.reduceLT, Int.reduceToNat, Int.reduceLE, Int.reduceLT, mens, men]
  by_cases hl : x.length = y.length
  · simp only [hl, EVA, ↓reduceIte, Nat.reduceEqDiff, Nat.reduceMul, reduceCtorEq, Nat.reduceAdd, Nat.reduceSub, Nat.reduceLeDiff, Nat.reduceLT, Int.reduceToNat, Int.reduceLE, Int.reduceLT, mens, men]
    refine wp_cnt (α := Unit) x.length (fun j _ => [(5, iI j)]) (fun _ _ => []) (fun j _ => x.take j = y.take j) () (by simp only [EVA, ↓reduceIte, Nat.reduceEqDiff, Nat.reduceMul, reduceCtorEq, Nat.reduceAdd, Nat.reduceSub, Nat.reduceLeDiff, Nat.reduceLT, Int.reduceToNat, Int.reduceLE, Int.reduceLT, mens, men]) (by (simp only [EVA, ↓reduceIte, Nat.reduceEqDiff, Nat.reduceMul, reduceCtorEq, Nat.reduceAdd, Nat.reduceSub, Nat.reduceLeDiff, Nat.reduceLT, Int.reduceToNat, Int.reduceLE, Int.reduceLT, mens, men]) <;> rfl) (by simp) ?_
    intro j _ hj hA
    simp only [List.length_map, EVA, ↓reduceIte, Nat.reduceEqDiff, Nat.reduceMul, reduceCtorEq, Nat.reduceAdd, Nat.reduceSub, Nat.reduceLeDiff, Nat.reduceLT, Int.reduceToNat, Int.reduceLE, Int.reduceLT, mens, men]
    refine ite_of (fun hlt => ?_) (fun hge => ?_)
    · have hja : j < x.length := by omega
      have hjb : j < y.length := by omega
      have ga := getX (e0 := e0S) (c := fun n : ByteArray => [ts n]) hja
      rw [gx_eq hja] at ga
      have gb := getX (e0 := e0S) (c := fun n : ByteArray => [ts n]) hjb
      rw [gx_eq hjb] at gb
      by_cases h : x[j] = y[j]
      · simp only [ga, gb, hja, hjb, h, EVA, ↓reduceIte, Nat.reduceEqDiff, Nat.reduceMul, reduceCtorEq, Nat.reduceAdd, Nat.reduceSub, Nat.reduceLeDiff, Nat.reduceLT, Int.reduceToNat, Int.reduceLE, Int.reduceLT, mens, men]
        exact ⟨by rw [fits_i64]; omega, cntJ_intro () hja rfl (by
          rw [List.take_succ_eq_append_getElem hja, List.take_succ_eq_append_getElem hjb, hA, h])⟩
      · have hne : ¬ x = y := fun e => h (by simp [e])
        rw [dc_false hne]
        simp only [ga, gb, hja, hjb, h, EVA, ↓reduceIte, Nat.reduceEqDiff, Nat.reduceMul, reduceCtorEq, Nat.reduceAdd, Nat.reduceSub, Nat.reduceLeDiff, Nat.reduceLT, Int.reduceToNat, Int.reduceLE, Int.reduceLT, mens, men]
    · have : j = x.length := by omega
      subst this
      have e : x = y := by
        have h2 := hA
        rw [List.take_length, hl, List.take_length] at h2
        exact h2
      rw [dc_true e]
  · have hne : ¬ x = y := fun e => hl (by rw [e])
    rw [dc_false hne]
    have hl2 : ¬ (x.length : Int) = y.length := by omega
    simp only [hl2, EVA, ↓reduceIte, Nat.reduceEqDiff, Nat.reduceMul, reduceCtorEq, Nat.reduceAdd, Nat.reduceSub, Nat.reduceLeDiff, Nat.reduceLT, Int.reduceToNat, Int.reduceLE, Int.reduceLT, mens, men]
theorem sem_l4Fits (a b : TBigraph) (h1 : a.sites.length ≤ 4294967290) (h2 : a.inner.length ≤ 4294967290) (h3 : b.outer.length ≤ 4294967290) (lvl : Nat) (S : Sto) : Sem Go.Proofs.Tryz.prog fid_spec_l4Fits lvl [.ag ((cBigraph a).map .tr), .ag ((cBigraph b).map .tr)] S (iB (dc (fitOK a b))) S := by
  refine sem_of_chk k_spec_l4Fits trivial ?_
  simp only [c_spec_l4Fits, cBigraph, List.length_map, EVA, ↓reduceIte, Nat.reduceEqDiff, Nat.reduceMul, reduceCtorEq, Nat.reduceAdd, Nat.reduceSub, Nat.reduceLeDiff, Nat.reduceLT, Int.reduceToNat, Int.reduceLE, Int.reduceLT, mens, men]
  by_cases hl : (a.sites.length : Int) = b.roots
  · simp only [hl, EVA, ↓reduceIte, Nat.reduceEqDiff, Nat.reduceMul, reduceCtorEq, Nat.reduceAdd, Nat.reduceSub, Nat.reduceLeDiff, Nat.reduceLT, Int.reduceToNat, Int.reduceLE, Int.reduceLT, mens, men]
    have q1 := sem_l2Inner a (by omega)
    simp only [cBigraph, List.map_cons, List.map_nil] at q1
    refine kca_intro q1 ?_
    simp only [cBigraph, List.length_map, EVA, ↓reduceIte, Nat.reduceEqDiff, Nat.reduceMul, reduceCtorEq, Nat.reduceAdd, Nat.reduceSub, Nat.reduceLeDiff, Nat.reduceLT, Int.reduceToNat, Int.reduceLE, Int.reduceLT, mens, men]
    refine kca_intro (sem_l4Equal (inn a) b.outer (by rw [inn_len]; omega) (by omega)) ?_
    have e : dc (inn a = b.outer) = dc (fitOK a b) := dc_congr ⟨fun h => ⟨hl, h⟩, fun h => h.2⟩
    rw [e]
    simp only [cBigraph, List.length_map, EVA, ↓reduceIte, Nat.reduceEqDiff, Nat.reduceMul, reduceCtorEq, Nat.reduceAdd, Nat.reduceSub, Nat.reduceLeDiff, Nat.reduceLT, Int.reduceToNat, Int.reduceLE, Int.reduceLT, mens, men]
    try rfl
  · have hne : ¬ fitOK a b := fun e => hl e.1
    rw [dc_false hne]
    simp only [hl, EVA, ↓reduceIte, Nat.reduceEqDiff, Nat.reduceMul, reduceCtorEq, Nat.reduceAdd, Nat.reduceSub, Nat.reduceLeDiff, Nat.reduceLT, Int.reduceToNat, Int.reduceLE, Int.reduceLT, mens, men]
theorem sem_l4After (sig : List TControl) (a b : TBigraph) (ha : bigOK sig a) (hb : bigOK sig b) (hf : fitOK a b) (lvl : Nat) (S : Sto) : Sem Go.Proofs.Tryz.prog fid_spec_l4After lvl [.ag ((cBigraph a).map .tr), .ag ((cBigraph b).map .tr)] S (bigU (compB a b) false) S := by
  have ra := ha.roots; have rb := hb.roots
  have ea := ha.edges; have eb := hb.edges
  have sa := ha.small; have sb := hb.small
  have a1 := sa.nodes; have a2 := sa.sites; have a3 := sa.inner; have a4 := sa.outer
  have b1 := sb.nodes; have b2 := sb.sites; have b3 := sb.inner; have b4 := sb.outer
  obtain ⟨m, hm⟩ : ∃ m : Nat, a.edges = m := ⟨a.edges.toNat, by omega⟩
  obtain ⟨L, hL⟩ : ∃ L, L = tabA a (a.edges + b.edges) a.outer := ⟨_, rfl⟩
  have lenL : (L.length : Int) = a.edges + a.outer.length := by rw [hL]; exact tabL_len ea.1
  have hLL : fromN 0 m ++ a.outer.map (fun x => m + b.edges + ixS a.outer x) = L := by rw [hL, ← tabA_eq hm, hm]
  have w1 : rI (fromN 0 m) ++ rI (a.outer.map fun x => m + b.edges + ixS a.outer x) = rI L := by rw [← rI_app, hLL]
  have w2 : m + a.outer.length = L.length := by omega
  have w5 : max m L.length = L.length := by omega
  refine sem_of_chk k_spec_l4After (by simp [low, men, mens]) ?_
  simp only [c_spec_l4After, cBigraph, hm, EVA, ↓reduceIte, Nat.reduceEqDiff, Nat.reduceMul, reduceCtorEq, Nat.reduceAdd, Nat.reduceSub, Nat.reduceLeDiff, Nat.reduceLT, Int.reduceToNat, Int.reduceLE, Int.reduceLT, mens, men]
  refine ⟨by rw [fits_i64]; omega, kca_intro (sem_l4Named a.outer (m + b.edges) a.outer (by omega) (by omega) (by omega)) ?_⟩
  simp only [cBigraph, hm, List.length_map, EVA, ↓reduceIte, Nat.reduceEqDiff, Nat.reduceMul, reduceCtorEq, Nat.reduceAdd, Nat.reduceSub, Nat.reduceLeDiff, Nat.reduceLT, Int.reduceToNat, Int.reduceLE, Int.reduceLT, mens, men]
  refine kca_intro (sem_l4Edges 0 m (by omega) (by omega)) ?_
  simp only [cBigraph, scrI3, unrI3, hm, w1, w2, w5, fromN_len, List.length_append, List.length_map, EVA, ↓reduceIte, Nat.reduceEqDiff, Nat.reduceMul, reduceCtorEq, Nat.reduceAdd, Nat.reduceSub, Nat.reduceLeDiff, Nat.reduceLT, Int.reduceToNat, Int.reduceLE, Int.reduceLT, mens, men]
  refine ⟨by omega, ?_⟩
  refine wp_cnt (α := Unit) a.inner.length (fun j _ => [(7, .hd (lvl, 768) [] 0 j none j), (8, iI j)]) (fun j _ => [(768, .ar 1 (rI ((a.inner.take j).map fun w => g0 L w.link.toNat)) true j 0)]) (fun _ _ => True) () (by simp only [EVA, ↓reduceIte, Nat.reduceEqDiff, Nat.reduceMul, reduceCtorEq, Nat.reduceAdd, Nat.reduceSub, Nat.reduceLeDiff, Nat.reduceLT, Int.reduceToNat, Int.reduceLE, Int.reduceLT, mens, men]) (by (simp only [EVA, ↓reduceIte, Nat.reduceEqDiff, Nat.reduceMul, reduceCtorEq, Nat.reduceAdd, Nat.reduceSub, Nat.reduceLeDiff, Nat.reduceLT, Int.reduceToNat, Int.reduceLE, Int.reduceLT, mens, men]) <;> rfl) trivial ?_
  intro j _ hj _
  simp only [List.length_map, EVA, ↓reduceIte, Nat.reduceEqDiff, Nat.reduceMul, reduceCtorEq, Nat.reduceAdd, Nat.reduceSub, Nat.reduceLeDiff, Nat.reduceLT, Int.reduceToNat, Int.reduceLE, Int.reduceLT, mens, men]
  refine ite_of (fun hlt => ?_) (fun hge => ?_)
  · have hja : j < a.inner.length := by omega
    have ga := getA (c := cWire) hja
    have hq := big_hW ha lenL _ (List.getElem_mem hja)
    obtain ⟨k, hk⟩ : ∃ k : Nat, a.inner[j].link = k := ⟨a.inner[j].link.toNat, by omega⟩
    have hkl : k < L.length := by omega
    have gl := rI_get hkl
    have hl2 : (a.inner.take j).length = j := by rw [List.length_take]; omega
    have hs : rI ((a.inner.take j).map fun w => g0 L w.link.toNat) ++ [[tv (g0 L k)]] = rI ((a.inner.take (j + 1)).map fun w => g0 L w.link.toNat) := by
      rw [List.take_succ_eq_append_getElem hja, List.map_append, rI_app]
      simp [hk]
    simp only [ga, cWire, hk, gl, hja, hkl, hl2, hs, List.length_map, EVA, ↓reduceIte, Nat.reduceEqDiff, Nat.reduceMul, reduceCtorEq, Nat.reduceAdd, Nat.reduceSub, Nat.reduceLeDiff, Nat.reduceLT, Int.reduceToNat, Int.reduceLE, Int.reduceLT, mens, men]
    exact ⟨by omega, by rw [fits_i64]; omega, cntJ_intro () hja rfl trivial⟩
  · have : j = a.inner.length := by omega
    subst this
    rw [List.take_length, show (a.inner.map fun w => g0 L w.link.toNat) = compT a b from by rw [hL]; rfl]
    have hcl : (compT a b).length = a.inner.length := by simp [compT]
    have q := sem_l4Under sig a b a.outer (a.outer.map fun x => m + b.edges + ixS a.outer x) (compT a b) ha hb hf.1 (by simp) (by rw [hcl, ← hf.2, inn_len]) (by omega) L (tabB a b (inL a (a.edges + b.edges) a.outer)) (fun n hn => by
      have : n = m := by omega
      rw [this, hLL]) (fun n hn => by rw [compT_eq ha hf.2]; exact tabB_eq hn)
    rw [hL, show underB a b a.outer (tabA a (a.edges + b.edges) a.outer) (tabB a b (inL a (a.edges + b.edges) a.outer)) = compB a b from rfl] at q
    simp only [cBigraph, hm, List.map_cons, List.map_nil] at q
    refine ⟨by simp [compT], kca_intro q ?_⟩
    simp only [bigU, cBigraph, hm, List.length_map, EVA, ↓reduceIte, Nat.reduceEqDiff, Nat.reduceMul, reduceCtorEq, Nat.reduceAdd, Nat.reduceSub, Nat.reduceLeDiff, Nat.reduceLT, Int.reduceToNat, Int.reduceLE, Int.reduceLT, mens, men]
    try rfl
theorem join_bd {sig : List TControl} {a b : TBigraph} (ha : bigOK sig a) (hb : bigOK sig b) {roots : Int} {ss : List Int} {o : List ByteArray} {FL FR mv : Int → Int} (hs : ss.length ≤ 4) (ho : o.length ≤ 100) (hos : ∀ y ∈ o, y.size ≤ 4294967290) : bdBigraph 4294967290 (joinG a b roots ss o FL FR mv) := by
  have sa := ha.small; have sb := hb.small
  have a1 := sa.nodes; have a2 := sa.sites; have a3 := sa.inner
  have b1 := sb.nodes; have b2 := sb.sites; have b3 := sb.inner
  refine ⟨by simp only [joinG, List.length_map, List.length_append]; omega, fun y hy => ?_, by simp only [joinG, List.length_map, List.length_append]; omega, by show o.length ≤ _; omega, hos, by simp only [joinG, List.length_map]; omega, fun y hy => ?_⟩
  · rcases List.mem_append.1 hy with hy | hy
    · obtain ⟨x, hx, rfl⟩ := List.mem_map.1 hy
      have := sa.links x hx
      simp only [bdNode, mapN, List.length_map]
      omega
    · obtain ⟨x, hx, rfl⟩ := List.mem_map.1 hy
      have := sb.links x hx
      simp only [bdNode, List.length_map]
      omega
  · obtain ⟨w, hw, rfl⟩ := List.mem_map.1 hy
    have hn : w.name ∈ inn b := List.mem_map.2 ⟨w, hw, rfl⟩
    have := names_size hb.inn hn
    simp only [bdWire, mapW]
    omega
def sm (n : Int) : Prop := -1000 ≤ n ∧ n ≤ 1000
theorem sm_fit {n : Int} (h : sm n) : fits .i64 n := by
  unfold sm at h
  rw [fits_i64]; omega
theorem join_ft {sig : List TControl} {a b : TBigraph} (ha : bigOK sig a) (hb : bigOK sig b) (fa : ftBigraph a) (fb : ftBigraph b) {roots : Int} {ss : List Int} {o : List ByteArray} {FL FR mv : Int → Int} (hr : sm roots) (hs : ∀ p ∈ ss, sm p) (hL : ∀ l, linkOK a l → sm (FL l)) (hR : ∀ l, linkOK b l → sm (FR l)) (hm : ∀ p, -b.roots ≤ p → p < b.nodes.length → sm (mv p)) : ftBigraph (joinG a b roots ss o FL FR mv) := by
  have ea := ha.edges; have eb := hb.edges
  refine ⟨sm_fit hr, fun y hy => ?_, fun p hp => ?_, by show fits .i64 (a.edges + b.edges); rw [fits_i64]; omega, fun y hy => ?_⟩
  · rcases List.mem_append.1 hy with hy | hy
    · obtain ⟨x, hx, rfl⟩ := List.mem_map.1 hy
      have hq := fa.2.1 x hx
      obtain ⟨i, hi, hie⟩ := List.getElem_of_mem hx
      refine ⟨hq.1, hq.2.1, fun l hl => ?_⟩
      obtain ⟨l0, hl0, rfl⟩ := List.mem_map.1 hl
      exact sm_fit (hL l0 ((ha.nodes i hi).links l0 (by rw [hie]; exact hl0)))
    · obtain ⟨x, hx, rfl⟩ := List.mem_map.1 hy
      have hq := fb.2.1 x hx
      have hbp := big_par hb hx
      obtain ⟨i, hi, hie⟩ := List.getElem_of_mem hx
      refine ⟨hq.1, sm_fit (hm _ (under_ge hb.roots.1 (by rw [← hie]; exact (hb.nodes i hi).par)) hbp.1), fun l hl => ?_⟩
      obtain ⟨l0, hl0, rfl⟩ := List.mem_map.1 hl
      exact sm_fit (hR l0 ((hb.nodes i hi).links l0 (by rw [hie]; exact hl0)))
  · rcases List.mem_append.1 hp with hp | hp
    · exact sm_fit (hs p hp)
    · obtain ⟨x, hx, rfl⟩ := List.mem_map.1 hp
      exact sm_fit (hm _ (under_ge hb.roots.1 (hb.sites x hx)) (big_site hb hx))
  · obtain ⟨w, hw, rfl⟩ := List.mem_map.1 hy
    exact sm_fit (hR _ (hb.inner w hw))
theorem par_sm {sig : List TControl} {a b : TBigraph} (ha : bigOK sig a) (hb : bigOK sig b) (hf : (a.sites.length : Int) = b.roots) {p : Int} (h1 : -b.roots ≤ p) (h2 : p < b.nodes.length) : sm (parG a.nodes.length a.sites p) := by
  have a1 := ha.small.nodes; have b1 := hb.small.nodes
  have ra := ha.roots
  unfold parG sm
  split
  · rename_i h
    have hl : (-1 - p).toNat < a.sites.length := by omega
    have hg : g0 a.sites (-1 - p).toNat = a.sites[(-1 - p).toNat] := by simp [hl]
    have hm := List.getElem_mem hl
    have := under_ge ra.1 (ha.sites _ hm)
    have := big_site ha hm
    rw [hg]; omega
  · omega
theorem tabA_sm {sig : List TControl} {a : TBigraph} (ha : bigOK sig a) {e : Int} (he : 0 ≤ e ∧ e ≤ 100) {o : List ByteArray} (ho : o.length ≤ 100) {l : Int} (hl : linkOK a l) : sm (g0 (tabA a e o) l.toNat) := by
  have ea := ha.edges
  unfold tabA sm
  rcases link_cases hl with ⟨h0, h1⟩ | ⟨i, hi, rfl⟩
  · rw [tabL_e h0 h1]; omega
  · rw [tabL_n ea.1 hi]
    have := ixS_ge (l := o) (s := a.outer[i])
    have := ixS_le (l := o) (s := a.outer[i])
    omega
theorem tabB_sm {sig : List TControl} {a b : TBigraph} (ha : bigOK sig a) (hb : bigOK sig b) {g : ByteArray → Int} (hg : ∀ x ∈ b.outer, sm (g x)) {l : Int} (hl : linkOK b l) : sm (g0 (tabB a b g) l.toNat) := by
  have ea := ha.edges; have eb := hb.edges
  unfold tabB
  rcases link_cases hl with ⟨h0, h1⟩ | ⟨i, hi, rfl⟩
  · rw [tabL_e h0 h1]
    unfold sm
    omega
  · rw [tabL_n eb.1 hi]
    exact hg _ (List.getElem_mem hi)
end Go.Fd

namespace Go.Fd
set_option maxRecDepth 20000

theorem sem_joined_1 (e : Int × ByteArray) (lvl : Nat) (S : Sto) : Sem Go.Proofs.Tryz.prog fid_impl_joined_1 lvl [oE e] S (oE e) S := by
  refine sem_of_chk k_impl_joined_1 (by simp [low, men, mens]) ?_
  simp only [c_impl_joined_1, EVA, ↓reduceIte, Nat.reduceEqDiff, Nat.reduceMul, reduceCtorEq, Nat.reduceAdd, Nat.reduceSub, Nat.reduceLeDiff, Nat.reduceLT, Int.reduceToNat, Int.reduceLE, Int.reduceLT, mens, men]
theorem sem_joined_2 (a : TBigraph) (e : Int × ByteArray) (nf : FuncId) (cs : List (List Tr)) (nm : ByteArray → Int × ByteArray) (h1 : -4294967296 ≤ e.1 ∧ e.1 ≤ 4294967296) (h2 : 0 ≤ a.edges ∧ a.edges ≤ 4294967296) (hN : e.2 ≠ e0S → ∀ lvl S, Sem Go.Proofs.Tryz.prog nf lvl (iS e.2 :: cs.map IV.ta) S (oE (nm e.2)) S)
    (lvl : Nat) (S : Sto) (id : Oid) (hid : id.1 < lvl) (sN : S id = some (.bx [.fn nf (cs.map IV.ta)])) : Sem Go.Proofs.Tryz.prog fid_impl_joined_2 lvl [oE e, .ta (cBigraph a), .ab id 0] S (oE (turnB a nm e)) S := by
  have hne : id.1 ≠ lvl := by omega
  refine sem_of_chk k_impl_joined_2 (by simp [low, men, mens]) ?_
  simp only [c_impl_joined_2, cBigraph, r_packo hne, sN, EVA, ↓reduceIte, Nat.reduceEqDiff, Nat.reduceMul, reduceCtorEq, Nat.reduceAdd, Nat.reduceSub, Nat.reduceLeDiff, Nat.reduceLT, Int.reduceToNat, Int.reduceLE, Int.reduceLT, mens, men]
  unfold turnB
  by_cases h : e.2 = e0S
  · rw [if_pos h]
    have h' : e.2 = { data := #[] } := h
    simp only [h', EVA, ↓reduceIte, Nat.reduceEqDiff, Nat.reduceMul, reduceCtorEq, Nat.reduceAdd, Nat.reduceSub, Nat.reduceLeDiff, Nat.reduceLT, Int.reduceToNat, Int.reduceLE, Int.reduceLT, mens, men]
    rw [fits_i64]; omega
  · rw [if_neg h]
    have h' : ¬ e.2 = { data := #[] } := h
    simp only [h', r_packo hne, sN, r_snta, r_mensta, EVA, ↓reduceIte, Nat.reduceEqDiff, Nat.reduceMul, reduceCtorEq, Nat.reduceAdd, Nat.reduceSub, Nat.reduceLeDiff, Nat.reduceLT, Int.reduceToNat, Int.reduceLE, Int.reduceLT, mens, men]
    refine kca_intro (hN h) ?_
    simp only [EVA, ↓reduceIte, Nat.reduceEqDiff, Nat.reduceMul, reduceCtorEq, Nat.reduceAdd, Nat.reduceSub, Nat.reduceLeDiff, Nat.reduceLT, Int.reduceToNat, Int.reduceLE, Int.reduceLT, mens, men]
def movG (n : Int) (pl : Int → Int) (p : Int) : Int := if 0 ≤ p then p + n else pl p
theorem sem_moved (a : TBigraph) (p : Int) (pf : FuncId) (cs : List (List Tr)) (pl : Int → Int) (hn : a.nodes.length ≤ 4294967296) (hp : -4294967296 ≤ p ∧ p ≤ 4294967296) (hP : p < 0 → ∀ lvl S, Sem Go.Proofs.Tryz.prog pf lvl (iI p :: cs.map IV.ta) S (iI (pl p)) S) (lvl : Nat) (S : Sto) : Sem Go.Proofs.Tryz.prog fid_impl_moved lvl [.ag ((cBigraph a).map .tr), iI p, .fn pf (cs.map IV.ta)] S (iI (movG a.nodes.length pl p)) S := by
  refine sem_of_chk k_impl_moved trivial ?_
  simp only [c_impl_moved, cBigraph, List.length_map, EVA, ↓reduceIte, Nat.reduceEqDiff, Nat.reduceMul, reduceCtorEq, Nat.reduceAdd, Nat.reduceSub, Nat.reduceLeDiff, Nat.reduceLT, Int.reduceToNat, Int.reduceLE, Int.reduceLT, mens, men]
  unfold movG
  by_cases h : 0 ≤ p
  · rw [if_pos h]
    simp only [h, List.length_map, EVA, ↓reduceIte, Nat.reduceEqDiff, Nat.reduceMul, reduceCtorEq, Nat.reduceAdd, Nat.reduceSub, Nat.reduceLeDiff, Nat.reduceLT, Int.reduceToNat, Int.reduceLE, Int.reduceLT, mens, men]
    rw [fits_i64]; omega
  · rw [if_neg h]
    simp only [h, r_snta, r_mensta, EVA, ↓reduceIte, Nat.reduceEqDiff, Nat.reduceMul, reduceCtorEq, Nat.reduceAdd, Nat.reduceSub, Nat.reduceLeDiff, Nat.reduceLT, Int.reduceToNat, Int.reduceLE, Int.reduceLT, mens, men]
    refine kca_intro (hP (by omega)) ?_
    simp only [EVA, ↓reduceIte, Nat.reduceEqDiff, Nat.reduceMul, reduceCtorEq, Nat.reduceAdd, Nat.reduceSub, Nat.reduceLeDiff, Nat.reduceLT, Int.reduceToNat, Int.reduceLE, Int.reduceLT, mens, men]
theorem r_scrta {id : Oid} : ∀ {l : List (List Tr)}, scrs id (l.map IV.ta) = l.map IV.ta
  | [] => rfl
  | x :: r => by
    simp only [List.map_cons, scrs, scr]
    rw [r_scrta]
theorem sem_joined (sig : List TControl) (a b : TBigraph) (ha : bigOK sig a) (hb : bigOK sig b) (roots : Int) (ss : List Int) (hss : ss.length ≤ 1000) (o : List ByteArray) (ho : o.length ≤ 1000) (pf : FuncId) (ps : List (List Tr)) (pl : Int → Int) (nf : FuncId) (ns : List (List Tr)) (nm : ByteArray → Int × ByteArray)
    (hP : ∀ p, -b.roots ≤ p → p < 0 → ∀ lvl S, Sem Go.Proofs.Tryz.prog pf lvl (iI p :: ps.map IV.ta) S (iI (pl p)) S) (hN : ∀ x ∈ b.outer, ∀ lvl S, Sem Go.Proofs.Tryz.prog nf lvl (iS x :: ns.map IV.ta) S (oE (nm x)) S)
    (lvl : Nat) (S : Sto) : Sem Go.Proofs.Tryz.prog fid_impl_joined lvl [.ag ((cBigraph a).map .tr), .ag ((cBigraph b).map .tr), iI roots, tI ss, .tr (.sl (rS o)), .fn pf (ps.map IV.ta), .fn nf (ns.map IV.ta)] S
      (.ag [iI roots, .ow 3 ((joinG a b roots ss (setS o) (relF a (a.edges + b.edges) (setS o) fun x => x) (relF b (a.edges + b.edges) (setS o) (turnB a nm)) (movG a.nodes.length pl)).nodes.map cNode) (decide (b.nodes.length = 0)), .ow 1 (rI (ss ++ b.sites.map (movG a.nodes.length pl))) true, iI (a.edges + b.edges), .ow 1 (rS (setS o)) true, .tr (.sl ((b.inner.map (mapW (relF b (a.edges + b.edges) (setS o) (turnB a nm)))).map cWire))]) S := by
  have ra := ha.roots; have rb := hb.roots
  have ea := ha.edges; have eb := hb.edges
  have sa := ha.small; have sb := hb.small
  have a1 := sa.nodes; have a2 := sa.sites; have a3 := sa.inner; have a4 := sa.outer
  have b1 := sb.nodes; have b2 := sb.sites; have b3 := sb.inner; have b4 := sb.outer
  have lnA : ∀ x ∈ a.nodes, ∀ l ∈ x.links, linkOK a l := fun x hx l hl => by
    obtain ⟨k, hk, rfl⟩ := List.getElem_of_mem hx
    exact (ha.nodes k hk).links l hl
  have lnB : ∀ x ∈ b.nodes, ∀ l ∈ x.links, linkOK b l := fun x hx l hl => by
    obtain ⟨k, hk, rfl⟩ := List.getElem_of_mem hx
    exact (hb.nodes k hk).links l hl
  obtain ⟨FL, hFL⟩ : ∃ F, F = relF a (a.edges + b.edges) (setS o) fun x => x := ⟨_, rfl⟩
  obtain ⟨FR, hFR⟩ : ∃ F, F = relF b (a.edges + b.edges) (setS o) (turnB a nm) := ⟨_, rfl⟩
  obtain ⟨mv, hmv⟩ : ∃ F, F = movG a.nodes.length pl := ⟨_, rfl⟩
  have q1 := sem_relinked a (a.edges + b.edges) o fid_impl_joined_1 [] (fun x => x) ea.1 (bd_mono (by omega) (bd_small ha)) (by omega) (by omega) (by omega) lnA ha.inner (fun l _ lvl S => sem_joined_1 (endB a l) lvl S)
  have hR : ∀ loc : List (Nat × Ob), lkO 416 loc = some (.bx [.fn nf (ns.map IV.ta)]) → ∀ l' S', mens (Seen2 (packS lvl loc S) S' l') [.ag ((cBigraph b).map .tr), iI (a.edges + b.edges), .tr (.sl (rS o)), .fn fid_impl_joined_2 [.ta (cBigraph a), .ab (lvl, 416) 0]] → Sem Go.Proofs.Tryz.prog fid_impl_Bigraph_relinked l' [.ag ((cBigraph b).map .tr), iI (a.edges + b.edges), .tr (.sl (rS o)), .fn fid_impl_joined_2 [.ta (cBigraph a), .ab (lvl, 416) 0]] S' (oBigraph (mapB b FR (a.edges + b.edges) (setS o))) S' := fun loc h1 l' S' hs => by
    have hc : mens (Seen (packS lvl loc S) S' l') [.ta (cBigraph a), .ab (lvl, 416) 0] := by
      have h2 := (seen_weak hs).2.2.2.1
      simp only [men] at h2
      exact h2
    rw [hFR]
    exact sem_relinkedG b (a.edges + b.edges) o fid_impl_joined_2 _ (packS lvl loc S) (turnB a nm) eb.1 (bd_mono (by omega) (bd_small hb)) (by omega) (by omega) (by omega) lnB hb.inner (fun l hl l'' S'' hs2 => by
      have hz := hs2.2.1
      simp only [men] at hz
      refine sem_joined_2 a (endB b l) nf ns nm (endB_fit eb hl) (by omega) (fun hne => hN _ ?_) l'' S'' (lvl, 416) hz.1 (hz.2 _ (by rw [r_pack]; exact h1))
      rcases link_cases hl with ⟨g0, g1⟩ | ⟨i, hi, rfl⟩
      · rw [endB_e g1] at hne
        exact absurd rfl hne
      · rw [endB_n hi]
        exact List.getElem_mem hi) l' S' hc
  rw [← hFL] at q1
  rw [← hFL, ← hFR, ← hmv]
  simp only [cBigraph, oBigraph, mapB, List.map_cons, List.map_nil] at q1 hR
  obtain ⟨N1, hN1⟩ : ∃ l, l = a.nodes.map (fun x => ({ control := x.control, parent := x.parent, links := List.map FL x.links } : TNode)) := ⟨_, rfl⟩
  obtain ⟨B1, hB1⟩ : ∃ l, l = b.nodes.map (fun x => ({ control := x.control, parent := x.parent, links := List.map FR x.links } : TNode)) := ⟨_, rfl⟩
  obtain ⟨B2, hB2⟩ : ∃ l, l = b.nodes.map (fun x => ({ control := x.control, parent := mv x.parent, links := List.map FR x.links } : TNode)) := ⟨_, rfl⟩
  have lN1 : N1.length = a.nodes.length := by rw [hN1, List.length_map]
  have lB1 : B1.length = b.nodes.length := by rw [hB1, List.length_map]
  have lB2 : B2.length = b.nodes.length := by rw [hB2, List.length_map]
  simp only [← hN1] at q1
  have hW1 : b.inner.map (fun w => ({ name := w.name, link := FR w.link } : TWire)) = b.inner.map (mapW FR) := rfl
  simp only [← hB1, hW1] at hR
  refine sem_of_chk k_impl_joined (by simp [low, men, mens]) ?_
  simp only [c_impl_joined, cBigraph, EVA, ↓reduceIte, Nat.reduceEqDiff, Nat.reduceMul, reduceCtorEq, Nat.reduceAdd, Nat.reduceSub, Nat.reduceLeDiff, Nat.reduceLT, Int.reduceToNat, Int.reduceLE, Int.reduceLT, mens, men]
  refine ⟨by rw [fits_i64]; omega, ?_⟩
  refine kca_intro q1 ?_
  simp only [lN1, List.length_map, EVA, ↓reduceIte, Nat.reduceEqDiff, Nat.reduceMul, reduceCtorEq, Nat.reduceAdd, Nat.reduceSub, Nat.reduceLeDiff, Nat.reduceLT, Int.reduceToNat, Int.reduceLE, Int.reduceLT, mens, men]
  refine kce_intro (hR _ rfl) ?_
  simp only [lN1, lB1, List.length_map, EVA, ↓reduceIte, Nat.reduceEqDiff, Nat.reduceMul, reduceCtorEq, Nat.reduceAdd, Nat.reduceSub, Nat.reduceLeDiff, Nat.reduceLT, Int.reduceToNat, Int.reduceLE, Int.reduceLT, mens, men]
  refine kca_intro (sem_CloneI3 ss (by omega)) ?_
  simp only [lN1, lB1, List.length_map, EVA, ↓reduceIte, Nat.reduceEqDiff, Nat.reduceMul, reduceCtorEq, Nat.reduceAdd, Nat.reduceSub, Nat.reduceLeDiff, Nat.reduceLT, Int.reduceToNat, Int.reduceLE, Int.reduceLT, mens, men]
  refine wp_cnt (α := Unit) b.nodes.length (fun j _ => [(51, iI j)]) (fun j _ => [(576, .bx [iI roots, .hd (lvl, 992) [] 0 (a.nodes.length + j) none (a.nodes.length + j), .hd (lvl, 1312) [] 0 ss.length none ss.length, iI (a.edges + b.edges), .hd (lvl, 994) [] 0 (setS o).length none (setS o).length, .tr (.sl ((b.inner.map (mapW FR)).map cWire))]), (992, .ar 3 ((N1 ++ B2.take j).map cNode) (decide (j = 0)) (a.nodes.length + j) 0)]) (fun _ _ => True) () (by simp only [r_okmsta, EVA, ↓reduceIte, Nat.reduceEqDiff, Nat.reduceMul, reduceCtorEq, Nat.reduceAdd, Nat.reduceSub, Nat.reduceLeDiff, Nat.reduceLT, Int.reduceToNat, Int.reduceLE, Int.reduceLT, mens, men]) (by simp only [hN1, EVA, ↓reduceIte, Nat.reduceEqDiff, Nat.reduceMul, reduceCtorEq, Nat.reduceAdd, Nat.reduceSub, Nat.reduceLeDiff, Nat.reduceLT, Int.reduceToNat, Int.reduceLE, Int.reduceLT, mens, men]; simp) trivial ?_
  intro j _ hj _
  simp only [List.length_map, EVA, ↓reduceIte, Nat.reduceEqDiff, Nat.reduceMul, reduceCtorEq, Nat.reduceAdd, Nat.reduceSub, Nat.reduceLeDiff, Nat.reduceLT, Int.reduceToNat, Int.reduceLE, Int.reduceLT, mens, men]
  refine ite_of (fun hlt => ?_) (fun hge => ?_)
  · have hja : j < b.nodes.length := by omega
    have ga : (B1.map cNode)[j]? = some [tv b.nodes[j].control, tv b.nodes[j].parent, Tr.sl (rI (b.nodes[j].links.map FR))] := by
      rw [hB1, List.getElem?_map, List.getElem?_map, List.getElem?_eq_getElem hja]
      rfl
    have hx := List.getElem_mem hja
    have hbp := big_par hb hx
    have hge := under_ge rb.1 (hb.nodes j hja).par
    simp only [ga, hja, r_okmsta, r_snta, r_mensta, List.length_map, EVA, ↓reduceIte, Nat.reduceEqDiff, Nat.reduceMul, reduceCtorEq, Nat.reduceAdd, Nat.reduceSub, Nat.reduceLeDiff, Nat.reduceLT, Int.reduceToNat, Int.reduceLE, Int.reduceLT, mens, men]
    have q3 := sem_moved a b.nodes[j].parent pf ps pl (by omega) (by omega) (fun h => hP _ hge h)
    rw [← hmv] at q3
    simp only [cBigraph, List.map_cons, List.map_nil] at q3
    refine kca_intro q3 ?_
    have hs : (N1 ++ B2.take j).map cNode ++ [[tv b.nodes[j].control, tv (mv b.nodes[j].parent), Tr.sl (rI (b.nodes[j].links.map FR))]] = (N1 ++ B2.take (j + 1)).map cNode := by
      have hj2 : j < B2.length := by omega
      rw [List.take_succ_eq_append_getElem hj2, ← List.append_assoc, List.map_append (l₂ := [B2[j]])]
      simp [hB2, cNode]
    have hl : (N1 ++ B2.take j).length = a.nodes.length + j := by rw [List.length_append, List.length_take]; omega
    simp only [hs, hl, Bool.and_false, r_scrta, r_okmsta, r_snta, r_mensta, List.length_map, EVA, ↓reduceIte, Nat.reduceEqDiff, Nat.reduceMul, reduceCtorEq, Nat.reduceAdd, Nat.reduceSub, Nat.reduceLeDiff, Nat.reduceLT, Int.reduceToNat, Int.reduceLE, Int.reduceLT, mens, men]
    exact ⟨by omega, by rw [fits_i64]; omega, cntJ_intro () hja rfl trivial⟩
  · have : j = b.nodes.length := by omega
    subst this
    rw [show B2.take b.nodes.length = B2 from by rw [← lB2, List.take_length]]
    refine wp_cnt (α := Unit) b.sites.length (fun j _ => [(71, iI j)]) (fun j _ => [(576, .bx [iI roots, .hd (lvl, 992) [] 0 (a.nodes.length + b.nodes.length) none (a.nodes.length + b.nodes.length), .hd (lvl, 1312) [] 0 (ss.length + j) none (ss.length + j), iI (a.edges + b.edges), .hd (lvl, 994) [] 0 (setS o).length none (setS o).length, .tr (.sl ((b.inner.map (mapW FR)).map cWire))]), (1312, .ar 1 (rI (ss ++ (b.sites.take j).map mv)) true (ss.length + j) 0)]) (fun _ _ => True) () (by simp only [r_okmsta, EVA, ↓reduceIte, Nat.reduceEqDiff, Nat.reduceMul, reduceCtorEq, Nat.reduceAdd, Nat.reduceSub, Nat.reduceLeDiff, Nat.reduceLT, Int.reduceToNat, Int.reduceLE, Int.reduceLT, mens, men]) (by simp only [EVA, ↓reduceIte, Nat.reduceEqDiff, Nat.reduceMul, reduceCtorEq, Nat.reduceAdd, Nat.reduceSub, Nat.reduceLeDiff, Nat.reduceLT, Int.reduceToNat, Int.reduceLE, Int.reduceLT, mens, men]; simp) trivial ?_
    intro j _ hj _
    simp only [List.length_map, EVA, ↓reduceIte, Nat.reduceEqDiff, Nat.reduceMul, reduceCtorEq, Nat.reduceAdd, Nat.reduceSub, Nat.reduceLeDiff, Nat.reduceLT, Int.reduceToNat, Int.reduceLE, Int.reduceLT, mens, men]
    refine ite_of (fun hlt => ?_) (fun hge => ?_)
    · have hja : j < b.sites.length := by omega
      have ga := rI_get hja
      have e0 : g0 b.sites j = b.sites[j] := by simp [hja]
      have hx := List.getElem_mem hja
      have hbp := big_site hb hx
      have hge := under_ge rb.1 (hb.sites _ hx)
      rw [← e0] at hbp hge
      simp only [ga, hja, r_okmsta, r_snta, r_mensta, List.length_map, EVA, ↓reduceIte, Nat.reduceEqDiff, Nat.reduceMul, reduceCtorEq, Nat.reduceAdd, Nat.reduceSub, Nat.reduceLeDiff, Nat.reduceLT, Int.reduceToNat, Int.reduceLE, Int.reduceLT, mens, men]
      have q3 := sem_moved a (g0 b.sites j) pf ps pl (by omega) (by omega) (fun h => hP _ hge h)
      rw [← hmv] at q3
      simp only [cBigraph, List.map_cons, List.map_nil] at q3
      refine kca_intro q3 ?_
      have hs : rI (ss ++ (b.sites.take j).map mv) ++ [[tv (mv (g0 b.sites j))]] = rI (ss ++ (b.sites.take (j + 1)).map mv) := by
        rw [List.take_succ_eq_append_getElem hja, List.map_append, ← List.append_assoc, rI_app (ss ++ _), e0]
        rfl
      have hl : (ss ++ (b.sites.take j).map mv).length = ss.length + j := by rw [List.length_append, List.length_map, List.length_take]; omega
      simp only [hs, hl, Bool.and_false, r_scrta, r_okmsta, r_snta, r_mensta, List.length_map, EVA, ↓reduceIte, Nat.reduceEqDiff, Nat.reduceMul, reduceCtorEq, Nat.reduceAdd, Nat.reduceSub, Nat.reduceLeDiff, Nat.reduceLT, Int.reduceToNat, Int.reduceLE, Int.reduceLT, mens, men]
      exact ⟨by omega, by rw [fits_i64]; omega, cntJ_intro () hja rfl trivial⟩
    · have : j = b.sites.length := by omega
      subst this
      rw [List.take_length]
      exact ⟨by rw [List.length_append]; omega, by rw [List.length_append, List.length_map], by rw [hN1, hB2]; rfl⟩
abbrev jndB (b : TBigraph) (u : Bool) : IV := .ag [iI b.roots, .ow 3 (b.nodes.map cNode) u, .ow 1 (rI b.sites) true, iI b.edges, .ow 1 (rS b.outer) true, .tr (.sl (b.inner.map cWire))]
theorem sem_joinedX (sig : List TControl) (a b X : TBigraph) (ha : bigOK sig a) (hb : bigOK sig b) (roots : Int) (ss : List Int) (hss : ss.length ≤ 1000) (o : List ByteArray) (ho : o.length ≤ 1000) (pf : FuncId) (ps : List (List Tr)) (pl : Int → Int) (nf : FuncId) (ns : List (List Tr)) (nm : ByteArray → Int × ByteArray)
    (hP : ∀ p, -b.roots ≤ p → p < 0 → ∀ lvl S, Sem Go.Proofs.Tryz.prog pf lvl (iI p :: ps.map IV.ta) S (iI (pl p)) S) (hN : ∀ x ∈ b.outer, ∀ lvl S, Sem Go.Proofs.Tryz.prog nf lvl (iS x :: ns.map IV.ta) S (oE (nm x)) S)
    (hX : joinG a b roots ss (setS o) (relF a (a.edges + b.edges) (setS o) fun x => x) (relF b (a.edges + b.edges) (setS o) (turnB a nm)) (movG a.nodes.length pl) = X)
    (lvl : Nat) (S : Sto) : Sem Go.Proofs.Tryz.prog fid_impl_joined lvl [.ag ((cBigraph a).map .tr), .ag ((cBigraph b).map .tr), iI roots, tI ss, .tr (.sl (rS o)), .fn pf (ps.map IV.ta), .fn nf (ns.map IV.ta)] S (jndB X (decide (b.nodes.length = 0))) S := by
  subst hX
  exact sem_joined sig a b ha hb roots ss hss o ho pf ps pl nf ns nm hP hN lvl S
end Go.Fd

namespace Go.Fd
set_option maxRecDepth 20000

theorem movG_eq {a : TBigraph} : movG a.nodes.length (fun p => g0 a.sites (-1 - p).toNat) = movP a := rfl
theorem sem_composed_1 (a : TBigraph) (p : Int) (hp : -4294967296 ≤ p ∧ p < 0) (hl : (-1 - p).toNat < a.sites.length) (lvl : Nat) (S : Sto) : Sem Go.Proofs.Tryz.prog fid_impl_composed_1 lvl [iI p, .ta (cBigraph a)] S (iI (g0 a.sites (-1 - p).toNat)) S := by
  obtain ⟨k, hk⟩ : ∃ k : Nat, -1 - p = k := ⟨(-1 - p).toNat, by omega⟩
  rw [hk] at hl ⊢
  rw [Int.toNat_natCast] at hl ⊢
  have ga := rI_get hl
  refine sem_of_chk k_impl_composed_1 trivial ?_
  simp only [c_impl_composed_1, cBigraph, hk, ga, hl, EVA, ↓reduceIte, Nat.reduceEqDiff, Nat.reduceMul, reduceCtorEq, Nat.reduceAdd, Nat.reduceSub, Nat.reduceLeDiff, Nat.reduceLT, Int.reduceToNat, Int.reduceLE, Int.reduceLT, mens, men]
  rw [fits_i64]; omega
theorem sem_composed_2 (sig : List TControl) (a : TBigraph) (s : ByteArray) (ha : bigOK sig a) (hs : s ∈ inn a) (lvl : Nat) (S : Sto) : Sem Go.Proofs.Tryz.prog fid_impl_composed_2 lvl [iS s, .ta (cBigraph a), .ta [Tr.sl (rS (inn a))]] S (oE (inE a s)) S := by
  have ea := ha.edges
  have sa := ha.small
  have a3 := sa.inner; have a4 := sa.outer
  obtain ⟨i, hi, rfl⟩ := List.getElem_of_mem hs
  have hi2 : i < a.inner.length := by rw [← inn_len]; exact hi
  have e : (inn a)[i] = (a.inner[i]).name := by simp [inn]
  have h1 := ixS_at (names_pw ha.inn) hi
  have hat := inn_at ha hi2
  have ga := getA (c := cWire) hi2
  refine sem_of_chk k_impl_composed_2 (by simp [low, men, mens]) ?_
  simp only [c_impl_composed_2, cBigraph, EVA, ↓reduceIte, Nat.reduceEqDiff, Nat.reduceMul, reduceCtorEq, Nat.reduceAdd, Nat.reduceSub, Nat.reduceLeDiff, Nat.reduceLT, Int.reduceToNat, Int.reduceLE, Int.reduceLT, mens, men]
  refine kca_intro (sem_IndexS (inn a) (inn a)[i] (by rw [inn_len]; omega)) ?_
  rw [h1]
  simp only [ga, hi2, cWire, cBigraph, EVA, ↓reduceIte, Nat.reduceEqDiff, Nat.reduceMul, reduceCtorEq, Nat.reduceAdd, Nat.reduceSub, Nat.reduceLeDiff, Nat.reduceLT, Int.reduceToNat, Int.reduceLE, Int.reduceLT, mens, men]
  have q := sem_endOf a (a.inner[i]).link ea.1 (ha.inner _ (List.getElem_mem hi2)) (by omega) (by omega)
  simp only [cBigraph, List.map_cons, List.map_nil] at q
  refine kca_intro q ?_
  have e2 : inE a (inn a)[i] = endB a (a.inner[i]).link := by
    unfold inE
    rw [e, hat]
    rfl
  rw [e2]
  simp only [EVA, ↓reduceIte, Nat.reduceEqDiff, Nat.reduceMul, reduceCtorEq, Nat.reduceAdd, Nat.reduceSub, Nat.reduceLeDiff, Nat.reduceLT, Int.reduceToNat, Int.reduceLE, Int.reduceLT, mens, men]
theorem sem_composed (sig : List TControl) (a b : TBigraph) (ha : bigOK sig a) (hb : bigOK sig b) (hf : fitOK a b) (lvl : Nat) (S : Sto) : Sem Go.Proofs.Tryz.prog fid_impl_composed lvl [.ag ((cBigraph a).map .tr), .ag ((cBigraph b).map .tr)] S (.ag ((cBigraph (compB a b)).map .tr)) S := by
  have ra := ha.roots; have rb := hb.roots
  have sa := ha.small; have sb := hb.small
  have a2 := sa.sites; have a3 := sa.inner; have a4 := sa.outer
  have qj := sem_joinedX sig a b (compB a b) ha hb a.roots [] (by simp) a.outer (by omega) fid_impl_composed_1 [cBigraph a] (fun p => g0 a.sites (-1 - p).toNat) fid_impl_composed_2 [cBigraph a, [Tr.sl (rS (inn a))]] (inE a) (fun p h1 h2 lvl S => sem_composed_1 a p (by omega) (by have := hf.1; omega) lvl S) (fun x hx lvl S => sem_composed_2 sig a x ha (by rw [hf.2]; exact hx) lvl S) (by rw [movG_eq]; exact comp_eq ha hb hf.2)
  simp only [cBigraph, jndB, List.map_cons, List.map_nil] at qj
  refine sem_of_chk k_impl_composed (by simp [cBigraph, low, men, mens]) ?_
  simp only [c_impl_composed, cBigraph, EVA, ↓reduceIte, Nat.reduceEqDiff, Nat.reduceMul, reduceCtorEq, Nat.reduceAdd, Nat.reduceSub, Nat.reduceLeDiff, Nat.reduceLT, Int.reduceToNat, Int.reduceLE, Int.reduceLT, mens, men]
  have q1 := sem_innerNames a (by omega)
  simp only [cBigraph, List.map_cons, List.map_nil] at q1
  refine kca_intro q1 ?_
  simp only [cBigraph, List.length_map, EVA, ↓reduceIte, Nat.reduceEqDiff, Nat.reduceMul, reduceCtorEq, Nat.reduceAdd, Nat.reduceSub, Nat.reduceLeDiff, Nat.reduceLT, Int.reduceToNat, Int.reduceLE, Int.reduceLT, mens, men]
  refine kca_intro qj ?_
  simp only [cBigraph, List.length_map, EVA, ↓reduceIte, Nat.reduceEqDiff, Nat.reduceMul, reduceCtorEq, Nat.reduceAdd, Nat.reduceSub, Nat.reduceLeDiff, Nat.reduceLT, Int.reduceToNat, Int.reduceLE, Int.reduceLT, mens, men]
theorem tabs_sm {sig : List TControl} {a b : TBigraph} (ha : bigOK sig a) (hb : bigOK sig b) {o : List ByteArray} (ho : o.length ≤ 100) : (∀ l, linkOK a l → sm (g0 (tabA a (a.edges + b.edges) o) l.toNat)) := fun l hl => by
  have ea := ha.edges; have eb := hb.edges
  exact tabA_sm ha (by omega) ho hl
theorem comp_bd {sig : List TControl} {a b : TBigraph} (ha : bigOK sig a) (hb : bigOK sig b) : bdBigraph 4294967290 (compB a b) := by
  have a4 := ha.small.outer
  exact join_bd ha hb (by simp) (by omega) fun y hy => by have := names_size ha.outer hy; omega
theorem comp_ft {sig : List TControl} {a b : TBigraph} (ha : bigOK sig a) (hb : bigOK sig b) (hf : fitOK a b) (fa : ftBigraph a) (fb : ftBigraph b) : ftBigraph (compB a b) := by
  have a4 := ha.small.outer
  have ra := ha.roots
  refine join_ft ha hb fa fb (by unfold sm; omega) (by simp) (fun l hl => tabs_sm ha hb (by omega) l hl) (fun l hl => tabB_sm ha hb (fun x hx => ?_) hl) fun p h1 h2 => par_sm ha hb hf.1 h1 h2
  rw [← hf.2] at hx
  obtain ⟨i, hi, rfl⟩ := List.getElem_of_mem hx
  have hi2 : i < a.inner.length := by rw [← inn_len]; exact hi
  have e : (inn a)[i] = (a.inner[i]).name := by simp [inn]
  unfold inL
  rw [e, inn_at ha hi2]
  exact tabs_sm ha hb (by omega) _ (ha.inner _ (List.getElem_mem hi2))
def compOK (sig : List TControl) (a b : TBigraph) : Prop := bigOK sig a ∧ bigOK sig b ∧ fitOK a b ∧ bigOK sig (compB a b)
open Classical in
noncomputable def r0_ComposeBigraphs (sig : List TControl) (a b : TBigraph) : TBigraph := if compOK sig a b then compB a b else emptyB
noncomputable def r1_ComposeBigraphs (sig : List TControl) (a b : TBigraph) : Bool := dc (compOK sig a b)
theorem g_eqS : chkF Go.Proofs.Tryz.prog fid_slices_Equal_string_string gEq1 = true := by kernel_rfl
theorem sem_EqualS (a b : List ByteArray) (ha : a.length ≤ 4294967296) (lvl : Nat) (S : Sto) : Sem Go.Proofs.Tryz.prog fid_slices_Equal_string_string lvl [.tr (.sl (rS a)), .tr (.sl (rS b))] S (iB (dc (a = b))) S := by
  have h := sem_eq1 g_eqS cmpTS a b (by omega) lvl S
  have e : ∀ i : Decidable (a = b), @decide (a = b) i = dc (a = b) := fun i => (@dc_decide _ i).symm
  rw [e] at h
  exact h
theorem sem_fits (a b : TBigraph) (h1 : a.sites.length ≤ 4294967290) (h2 : a.inner.length ≤ 4294967290) (h3 : b.outer.length ≤ 4294967290) (lvl : Nat) (S : Sto) : Sem Go.Proofs.Tryz.prog fid_impl_fits lvl [.ag ((cBigraph a).map .tr), .ag ((cBigraph b).map .tr)] S (iB (dc (fitOK a b))) S := by
  refine sem_of_chk k_impl_fits trivial ?_
  simp only [c_impl_fits, cBigraph, List.length_map, EVA, ↓reduceIte, Nat.reduceEqDiff, Nat.reduceMul, reduceCtorEq, Nat.reduceAdd, Nat.reduceSub, Nat.reduceLeDiff, Nat.reduceLT, Int.reduceToNat, Int.reduceLE, Int.reduceLT, mens, men]
  by_cases hl : (a.sites.length : Int) = b.roots
  · simp only [hl, EVA, ↓reduceIte, Nat.reduceEqDiff, Nat.reduceMul, reduceCtorEq, Nat.reduceAdd, Nat.reduceSub, Nat.reduceLeDiff, Nat.reduceLT, Int.reduceToNat, Int.reduceLE, Int.reduceLT, mens, men]
    have q1 := sem_innerNames a (by omega)
    simp only [cBigraph, List.map_cons, List.map_nil] at q1
    refine kca_intro q1 ?_
    simp only [cBigraph, List.length_map, EVA, ↓reduceIte, Nat.reduceEqDiff, Nat.reduceMul, reduceCtorEq, Nat.reduceAdd, Nat.reduceSub, Nat.reduceLeDiff, Nat.reduceLT, Int.reduceToNat, Int.reduceLE, Int.reduceLT, mens, men]
    refine kca_intro (sem_EqualS (inn a) b.outer (by rw [inn_len]; omega)) ?_
    have e : dc (inn a = b.outer) = dc (fitOK a b) := dc_congr ⟨fun h => ⟨hl, h⟩, fun h => h.2⟩
    rw [e]
    simp only [cBigraph, List.length_map, EVA, ↓reduceIte, Nat.reduceEqDiff, Nat.reduceMul, reduceCtorEq, Nat.reduceAdd, Nat.reduceSub, Nat.reduceLeDiff, Nat.reduceLT, Int.reduceToNat, Int.reduceLE, Int.reduceLT, mens, men]
    try rfl
  · have hne : ¬ fitOK a b := fun e => hl e.1
    rw [dc_false hne]
    simp only [hl, EVA, ↓reduceIte, Nat.reduceEqDiff, Nat.reduceMul, reduceCtorEq, Nat.reduceAdd, Nat.reduceSub, Nat.reduceLeDiff, Nat.reduceLT, Int.reduceToNat, Int.reduceLE, Int.reduceLT, mens, men]
theorem sem_impl_ComposeBigraphs (sig : List TControl) (a b : TBigraph) (hn : sig.length ≤ 4294967296) (hbs : ∀ y ∈ sig, bdControl 4294967296 y) (hba : bdBigraph 4294967296 a) (hbb : bdBigraph 4294967296 b) (fa : ftBigraph a) (fb : ftBigraph b) (lvl : Nat) (S : Sto) : Sem Go.Proofs.Tryz.prog fid_impl_ComposeBigraphs lvl [.tr (.sl (sig.map cControl)), .ag ((cBigraph a).map .tr), .ag ((cBigraph b).map .tr)] S (.tu [oBigraph (r0_ComposeBigraphs sig a b), iB (r1_ComposeBigraphs sig a b)]) S := by
  refine sem_of_chk k_impl_ComposeBigraphs (by simp [oBigraph, low, men, mens]) ?_
  simp only [c_impl_ComposeBigraphs, cBigraph, EVA, ↓reduceIte, Nat.reduceEqDiff, Nat.reduceMul, reduceCtorEq, Nat.reduceAdd, Nat.reduceSub, Nat.reduceLeDiff, Nat.reduceLT, Int.reduceToNat, Int.reduceLE, Int.reduceLT, mens, men]
  have i1 := sem_impl_IsBigraph sig a hn hbs hba
  have i2 := sem_impl_IsBigraph sig b hn hbs hbb
  simp only [cBigraph, List.map_cons, List.map_nil] at i1 i2
  refine kca_intro i1 ?_
  unfold r0_ComposeBigraphs r1_ComposeBigraphs
  cases h1 : dc (bigOK sig a)
  · have hno : ¬ compOK sig a b := fun g => dc_not.1 h1 g.1
    rw [if_neg hno, dc_false hno]
    simp only [EVA, ↓reduceIte, Nat.reduceEqDiff, Nat.reduceMul, reduceCtorEq, Nat.reduceAdd, Nat.reduceSub, Nat.reduceLeDiff, Nat.reduceLT, Int.reduceToNat, Int.reduceLE, Int.reduceLT, mens, men]
    rfl
  have hA := dc_iff.1 h1
  simp only [cBigraph, EVA, ↓reduceIte, Nat.reduceEqDiff, Nat.reduceMul, reduceCtorEq, Nat.reduceAdd, Nat.reduceSub, Nat.reduceLeDiff, Nat.reduceLT, Int.reduceToNat, Int.reduceLE, Int.reduceLT, mens, men]
  refine kca_intro i2 ?_
  cases h2 : dc (bigOK sig b)
  · have hno : ¬ compOK sig a b := fun g => dc_not.1 h2 g.2.1
    rw [if_neg hno, dc_false hno]
    simp only [EVA, ↓reduceIte, Nat.reduceEqDiff, Nat.reduceMul, reduceCtorEq, Nat.reduceAdd, Nat.reduceSub, Nat.reduceLeDiff, Nat.reduceLT, Int.reduceToNat, Int.reduceLE, Int.reduceLT, mens, men]
    rfl
  have hB := dc_iff.1 h2
  have sa := hA.small; have sb := hB.small
  have a2 := sa.sites; have a3 := sa.inner; have b4 := sb.outer
  simp only [cBigraph, EVA, ↓reduceIte, Nat.reduceEqDiff, Nat.reduceMul, reduceCtorEq, Nat.reduceAdd, Nat.reduceSub, Nat.reduceLeDiff, Nat.reduceLT, Int.reduceToNat, Int.reduceLE, Int.reduceLT, mens, men]
  have qf := sem_fits a b (by omega) (by omega) (by omega)
  simp only [cBigraph, List.map_cons, List.map_nil] at qf
  refine kca_intro qf ?_
  cases h3 : dc (fitOK a b)
  · have hno : ¬ compOK sig a b := fun g => dc_not.1 h3 g.2.2.1
    rw [if_neg hno, dc_false hno]
    simp only [EVA, ↓reduceIte, Nat.reduceEqDiff, Nat.reduceMul, reduceCtorEq, Nat.reduceAdd, Nat.reduceSub, Nat.reduceLeDiff, Nat.reduceLT, Int.reduceToNat, Int.reduceLE, Int.reduceLT, mens, men]
    rfl
  have hF := dc_iff.1 h3
  simp only [cBigraph, EVA, ↓reduceIte, Nat.reduceEqDiff, Nat.reduceMul, reduceCtorEq, Nat.reduceAdd, Nat.reduceSub, Nat.reduceLeDiff, Nat.reduceLT, Int.reduceToNat, Int.reduceLE, Int.reduceLT, mens, men]
  have qc := sem_composed sig a b hA hB hF
  simp only [cBigraph, List.map_cons, List.map_nil] at qc
  refine kca_intro qc ?_
  simp only [cBigraph, List.length_map, EVA, ↓reduceIte, Nat.reduceEqDiff, Nat.reduceMul, reduceCtorEq, Nat.reduceAdd, Nat.reduceSub, Nat.reduceLeDiff, Nat.reduceLT, Int.reduceToNat, Int.reduceLE, Int.reduceLT, mens, men]
  have qv := sem_valid sig (compB a b) hn hbs (comp_bd hA hB) (comp_ft hA hB hF fa fb)
  simp only [cBigraph, List.map_cons, List.map_nil] at qv
  refine kca_intro qv ?_
  cases h6 : dc (bigOK sig (compB a b))
  · have hno : ¬ compOK sig a b := fun g => dc_not.1 h6 g.2.2.2
    rw [if_neg hno, dc_false hno, if_neg (dc_not.1 h6)]
    simp only [oBigraph, List.length_map, EVA, ↓reduceIte, Nat.reduceEqDiff, Nat.reduceMul, reduceCtorEq, Nat.reduceAdd, Nat.reduceSub, Nat.reduceLeDiff, Nat.reduceLT, Int.reduceToNat, Int.reduceLE, Int.reduceLT, mens, men]
    rfl
  · have hyes : compOK sig a b := ⟨hA, hB, hF, dc_iff.1 h6⟩
    rw [if_pos hyes, dc_true hyes, if_pos (dc_iff.1 h6)]
    simp only [oBigraph, List.length_map, EVA, ↓reduceIte, Nat.reduceEqDiff, Nat.reduceMul, reduceCtorEq, Nat.reduceAdd, Nat.reduceSub, Nat.reduceLeDiff, Nat.reduceLT, Int.reduceToNat, Int.reduceLE, Int.reduceLT, mens, men]
theorem sem_l4Compose (sig : List TControl) (a b : TBigraph) (hn : sig.length ≤ 4294967296) (hbs : ∀ y ∈ sig, bdControl 4294967296 y) (hba : bdBigraph 4294967296 a) (hbb : bdBigraph 4294967296 b) (fa : ftBigraph a) (fb : ftBigraph b) (lvl : Nat) (S : Sto) : Sem Go.Proofs.Tryz.prog fid_spec_l4Compose lvl [.tr (.sl (sig.map cControl)), .ag ((cBigraph a).map .tr), .ag ((cBigraph b).map .tr)] S (.tu [@ite IV (compOK sig a b) (Classical.propDecidable _) (.ag ((cBigraph (compB a b)).map .tr)) (oBigraph emptyB), iB (dc (compOK sig a b))]) S := by
  refine sem_of_chk k_spec_l4Compose (by split <;> simp [oBigraph, cBigraph, low, men, mens]) ?_
  simp only [c_spec_l4Compose, cBigraph, EVA, ↓reduceIte, Nat.reduceEqDiff, Nat.reduceMul, reduceCtorEq, Nat.reduceAdd, Nat.reduceSub, Nat.reduceLeDiff, Nat.reduceLT, Int.reduceToNat, Int.reduceLE, Int.reduceLT, mens, men]
  have i1 := sem_l2Good sig a hn hbs hba fa
  have i2 := sem_l2Good sig b hn hbs hbb fb
  simp only [cBigraph, List.map_cons, List.map_nil] at i1 i2
  refine kca_intro i1 ?_
  cases h1 : dc (bigOK sig a)
  · have hno : ¬ compOK sig a b := fun g => dc_not.1 h1 g.1
    rw [if_neg hno, dc_false hno]
    simp only [EVA, ↓reduceIte, Nat.reduceEqDiff, Nat.reduceMul, reduceCtorEq, Nat.reduceAdd, Nat.reduceSub, Nat.reduceLeDiff, Nat.reduceLT, Int.reduceToNat, Int.reduceLE, Int.reduceLT, mens, men]
    rfl
  have hA := dc_iff.1 h1
  simp only [cBigraph, EVA, ↓reduceIte, Nat.reduceEqDiff, Nat.reduceMul, reduceCtorEq, Nat.reduceAdd, Nat.reduceSub, Nat.reduceLeDiff, Nat.reduceLT, Int.reduceToNat, Int.reduceLE, Int.reduceLT, mens, men]
  refine kca_intro i2 ?_
  cases h2 : dc (bigOK sig b)
  · have hno : ¬ compOK sig a b := fun g => dc_not.1 h2 g.2.1
    rw [if_neg hno, dc_false hno]
    simp only [EVA, ↓reduceIte, Nat.reduceEqDiff, Nat.reduceMul, reduceCtorEq, Nat.reduceAdd, Nat.reduceSub, Nat.reduceLeDiff, Nat.reduceLT, Int.reduceToNat, Int.reduceLE, Int.reduceLT, mens, men]
    rfl
  have hB := dc_iff.1 h2
  have sa := hA.small; have sb := hB.small
  have a2 := sa.sites; have a3 := sa.inner; have b4 := sb.outer
  simp only [cBigraph, EVA, ↓reduceIte, Nat.reduceEqDiff, Nat.reduceMul, reduceCtorEq, Nat.reduceAdd, Nat.reduceSub, Nat.reduceLeDiff, Nat.reduceLT, Int.reduceToNat, Int.reduceLE, Int.reduceLT, mens, men]
  have qf := sem_l4Fits a b (by omega) (by omega) (by omega)
  simp only [cBigraph, List.map_cons, List.map_nil] at qf
  refine kca_intro qf ?_
  cases h3 : dc (fitOK a b)
  · have hno : ¬ compOK sig a b := fun g => dc_not.1 h3 g.2.2.1
    rw [if_neg hno, dc_false hno]
    simp only [EVA, ↓reduceIte, Nat.reduceEqDiff, Nat.reduceMul, reduceCtorEq, Nat.reduceAdd, Nat.reduceSub, Nat.reduceLeDiff, Nat.reduceLT, Int.reduceToNat, Int.reduceLE, Int.reduceLT, mens, men]
    rfl
  have hF := dc_iff.1 h3
  simp only [cBigraph, EVA, ↓reduceIte, Nat.reduceEqDiff, Nat.reduceMul, reduceCtorEq, Nat.reduceAdd, Nat.reduceSub, Nat.reduceLeDiff, Nat.reduceLT, Int.reduceToNat, Int.reduceLE, Int.reduceLT, mens, men]
  have qc := sem_l4After sig a b hA hB hF
  simp only [cBigraph, bigU, List.map_cons, List.map_nil] at qc
  refine kca_intro qc ?_
  simp only [cBigraph, List.length_map, EVA, ↓reduceIte, Nat.reduceEqDiff, Nat.reduceMul, reduceCtorEq, Nat.reduceAdd, Nat.reduceSub, Nat.reduceLeDiff, Nat.reduceLT, Int.reduceToNat, Int.reduceLE, Int.reduceLT, mens, men]
  by_cases hq : bigOK sig (compB a b)
  · have qG := sem_l2Give_y sig (compB a b) hn hbs (bd_mono (by omega) (comp_bd hA hB)) (comp_ft hA hB hF fa fb) hq
    simp only [cBigraph, List.map_cons, List.map_nil] at qG
    have hyes : compOK sig a b := ⟨hA, hB, hF, hq⟩
    rw [if_pos hyes, dc_true hyes]
    refine kca_intro qG ?_
    simp only [oBigraph, cBigraph, List.length_map, EVA, ↓reduceIte, Nat.reduceEqDiff, Nat.reduceMul, reduceCtorEq, Nat.reduceAdd, Nat.reduceSub, Nat.reduceLeDiff, Nat.reduceLT, Int.reduceToNat, Int.reduceLE, Int.reduceLT, mens, men]
  · have qG := sem_l2Give_n sig (compB a b) hn hbs (bd_mono (by omega) (comp_bd hA hB)) (comp_ft hA hB hF fa fb) hq
    simp only [cBigraph, List.map_cons, List.map_nil] at qG
    have hno : ¬ compOK sig a b := fun g => hq g.2.2.2
    rw [if_neg hno, dc_false hno]
    refine kca_intro qG ?_
    simp only [oBigraph, cBigraph, List.length_map, EVA, ↓reduceIte, Nat.reduceEqDiff, Nat.reduceMul, reduceCtorEq, Nat.reduceAdd, Nat.reduceSub, Nat.reduceLeDiff, Nat.reduceLT, Int.reduceToNat, Int.reduceLE, Int.reduceLT, mens, men]
    try rfl
end Go.Fd

namespace Go.Fd
set_option maxRecDepth 20000

open Classical in
noncomputable def caStep (sig : List TControl) (o : Option TBigraph) (y : TBigraph) : Option TBigraph := match o with
  | none => none
  | some x => if compOK sig x y then some (compB x y) else none
abbrev gB (L : List TBigraph) (j : Nat) : TBigraph := gx emptyB L j
open Classical in
noncomputable def caIn (sig : List TControl) (L : List TBigraph) : Option TBigraph := if bigOK sig (gB L 0) then some (gB L 0) else none
noncomputable def caAt (sig : List TControl) (L : List TBigraph) (j : Nat) : Option TBigraph := ((L.drop 1).take j).foldl (caStep sig) (caIn sig L)
theorem caAt_0 {sig : List TControl} {L : List TBigraph} : caAt sig L 0 = caIn sig L := by simp [caAt]
theorem caAt_succ {sig : List TControl} {L : List TBigraph} {j : Nat} (h : j + 1 < L.length) : caAt sig L (j + 1) = caStep sig (caAt sig L j) L[j + 1] := by
  have hl : j < (L.drop 1).length := by rw [List.length_drop]; omega
  unfold caAt
  rw [List.take_succ_eq_append_getElem hl, List.foldl_append]
  simp only [List.foldl_cons, List.foldl_nil, List.getElem_drop]
  congr 2
  omega
theorem foldl_none {sig : List TControl} : ∀ (l : List TBigraph), l.foldl (caStep sig) none = none
  | [] => rfl
  | x :: r => by
    simp only [List.foldl_cons, caStep]
    exact foldl_none r
theorem caAt_none {sig : List TControl} {L : List TBigraph} {j k : Nat} (h : caAt sig L j = none) (hk : j ≤ k) : caAt sig L k = none := by
  unfold caAt at h ⊢
  have e : (L.drop 1).take k = (L.drop 1).take j ++ ((L.drop 1).take k).drop j := by
    have := (List.take_append_drop j ((L.drop 1).take k)).symm
    rw [List.take_take, Nat.min_eq_left hk] at this
    exact this
  rw [e, List.foldl_append, h]
  exact foldl_none _
theorem caAt_ok {sig : List TControl} {L : List TBigraph} (hf : ∀ y ∈ L, ftBigraph y) : ∀ {j : Nat} {x : TBigraph}, j < L.length → caAt sig L j = some x → bigOK sig x ∧ ftBigraph x
  | 0, x, hj, h => by
    rw [caAt_0] at h
    unfold caIn at h
    split at h
    · rename_i hb
      cases h
      exact ⟨hb, by rw [show gB L 0 = L[0] from gx_eq hj]; exact hf _ (List.getElem_mem hj)⟩
    · cases h
  | j + 1, x, hj, h => by
    rw [caAt_succ hj] at h
    cases hp : caAt sig L j with
    | none => rw [hp] at h; cases h
    | some z =>
      have hz := caAt_ok hf (j := j) (by omega) hp
      rw [hp] at h
      simp only [caStep] at h
      split at h
      · rename_i hc
        cases h
        exact ⟨hc.2.2.2, comp_ft hc.1 hc.2.1 hc.2.2.1 hz.2 (hf _ (List.getElem_mem hj))⟩
      · cases h
theorem caAt_big {sig : List TControl} {L : List TBigraph} : ∀ {j : Nat} {x : TBigraph}, j < L.length → caAt sig L j = some x → bigOK sig x
  | 0, x, hj, h => by
    rw [caAt_0] at h
    unfold caIn at h
    split at h
    · rename_i hb
      cases h
      exact hb
    · cases h
  | j + 1, x, hj, h => by
    rw [caAt_succ hj] at h
    cases hp : caAt sig L j with
    | none => rw [hp] at h; cases h
    | some z =>
      rw [hp] at h
      simp only [caStep] at h
      split at h
      · rename_i hc
        cases h
        exact hc.2.2.2
      · cases h
noncomputable def caR (sig : List TControl) (L : List TBigraph) : Option TBigraph := if L.length ≤ 8 then (if 0 < L.length then caAt sig L (L.length - 1) else none) else none
noncomputable def r0_ComposeAll (sig : List TControl) (L : List TBigraph) : TBigraph := (caR sig L).getD emptyB
noncomputable def r1_ComposeAll (sig : List TControl) (L : List TBigraph) : Bool := (caR sig L).isSome
theorem sem_validW (sig : List TControl) (b : TBigraph) (hn : sig.length ≤ 4294967296) (hbs : ∀ y ∈ sig, bdControl 4294967296 y) (hb2 : bdBigraph 4294967296 b) (lvl : Nat) (S : Sto) : Sem Go.Proofs.Tryz.prog fid_impl_valid lvl [.tr (.sl (sig.map cControl)), .ag ((cBigraph b).map .tr)] S (.tu [oBigraph (@ite TBigraph (bigOK sig b) (Classical.propDecidable _) b emptyB), iB (dc (bigOK sig b))]) S := by
  refine sem_of_chk k_impl_valid (by simp [oBigraph, low, men, mens]) ?_
  simp only [c_impl_valid, cBigraph, EVA, ↓reduceIte, Nat.reduceEqDiff, Nat.reduceMul, reduceCtorEq, Nat.reduceAdd, Nat.reduceSub, Nat.reduceLeDiff, Nat.reduceLT, Int.reduceToNat, Int.reduceLE, Int.reduceLT, mens, men]
  refine kca_intro (sem_impl_IsBigraph sig b hn hbs hb2) ?_
  cases h : dc (bigOK sig b)
  · rw [if_neg (dc_not.1 h)]
    simp only [EVA, ↓reduceIte, Nat.reduceEqDiff, Nat.reduceMul, reduceCtorEq, Nat.reduceAdd, Nat.reduceSub, Nat.reduceLeDiff, Nat.reduceLT, Int.reduceToNat, Int.reduceLE, Int.reduceLT, mens, men]
    try rfl
  · rw [if_pos (dc_iff.1 h)]
    simp only [cBigraph, EVA, ↓reduceIte, Nat.reduceEqDiff, Nat.reduceMul, reduceCtorEq, Nat.reduceAdd, Nat.reduceSub, Nat.reduceLeDiff, Nat.reduceLT, Int.reduceToNat, Int.reduceLE, Int.reduceLT, mens, men]
    refine kca_intro (sem_ownBigraph b (bd_mono (by omega) (bd_small (dc_iff.1 h)))) ?_
    simp only [oBigraph, cBigraph, List.length_map, EVA, ↓reduceIte, Nat.reduceEqDiff, Nat.reduceMul, reduceCtorEq, Nat.reduceAdd, Nat.reduceSub, Nat.reduceLeDiff, Nat.reduceLT, Int.reduceToNat, Int.reduceLE, Int.reduceLT, mens, men]
    try rfl
theorem big_el {L : List TBigraph} {j : Nat} (h : j < L.length) : (L.map cBigraph)[j]? = some (cBigraph L[j]) := by rw [List.getElem?_map, List.getElem?_eq_getElem h]; rfl
def caSt (lvl : Nat) (S : Sto) (sig : List TControl) (L : List TBigraph) (k : Nat) (b : TBigraph) (ok : Bool) (j : Nat) : St :=
  ⟨lvl, [(0, .tr (.sl (sig.map cControl))), (4, .ab (lvl, 128) 0), (6, .ab (lvl, 192) 0), (7, iB ok), (24, .tr (.sl ((L.drop 1).map cBigraph))), (25, iI (L.length - 1 : Nat)), (26, iI j)],
    [(128, .bx [iI 0, .cs [], .cs [], iI 0, .cs [], .cs []]), (192, .bx [iI b.roots, .hd (lvl, k) [] 0 b.nodes.length none b.nodes.length, .hd (lvl, k + 1) [] 0 b.sites.length none b.sites.length, iI b.edges, .hd (lvl, k + 2) [] 0 b.outer.length none b.outer.length, .hd (lvl, k + 3) [] 0 b.inner.length none b.inner.length]),
      (k, .ar 3 (b.nodes.map cNode) true b.nodes.length 0), (k + 1, .ar 1 (rI b.sites) true b.sites.length 0), (k + 2, .ar 1 (rS b.outer) true b.outer.length 0), (k + 3, .ar 2 (b.inner.map cWire) true b.inner.length 0)], S⟩
theorem cut_drop {L : List TBigraph} : cut (L.map cBigraph) 1 (L.length - 1) = (L.drop 1).map cBigraph := by
  rw [cut, ← List.map_drop, List.take_of_length_le (by rw [List.length_map, List.length_drop]; omega)]
theorem sem_impl_ComposeAll (sig : List TControl) (L : List TBigraph) (hn : sig.length ≤ 4294967296) (hbs : ∀ y ∈ sig, bdControl 4294967296 y) (hL : L.length ≤ 4294967296) (hbL : ∀ y ∈ L, bdBigraph 4294967296 y) (hf : ∀ y ∈ L, ftBigraph y) (lvl : Nat) (S : Sto) : Sem Go.Proofs.Tryz.prog fid_impl_ComposeAll lvl [.tr (.sl (sig.map cControl)), .tr (.sl (L.map cBigraph))] S (.tu [oBigraph (r0_ComposeAll sig L), iB (r1_ComposeAll sig L)]) S := by
  refine sem_of_chk k_impl_ComposeAll (by simp [oBigraph, low, men, mens]) ?_
  simp only [c_impl_ComposeAll, List.length_map, EVA, ↓reduceIte, Nat.reduceEqDiff, Nat.reduceMul, reduceCtorEq, Nat.reduceAdd, Nat.reduceSub, Nat.reduceLeDiff, Nat.reduceLT, Int.reduceToNat, Int.reduceLE, Int.reduceLT, mens, men]
  refine kca_intro (sem_within L.length 1 8) ?_
  cases h2 : inB L.length 1 8
  · have hno : caR sig L = none := by
      have h3 := inB_not.1 h2
      unfold caR
      split
      · rw [if_neg (by omega)]
      · rfl
    unfold r0_ComposeAll r1_ComposeAll
    rw [hno]
    simp only [EVA, ↓reduceIte, Nat.reduceEqDiff, Nat.reduceMul, reduceCtorEq, Nat.reduceAdd, Nat.reduceSub, Nat.reduceLeDiff, Nat.reduceLT, Int.reduceToNat, Int.reduceLE, Int.reduceLT, mens, men]
    rfl
  have hk := inB_iff.1 h2
  have h0 : 0 < L.length := by omega
  have g0' := big_el h0
  simp only [g0', h0, cBigraph, List.length_map, EVA, ↓reduceIte, Nat.reduceEqDiff, Nat.reduceMul, reduceCtorEq, Nat.reduceAdd, Nat.reduceSub, Nat.reduceLeDiff, Nat.reduceLT, Int.reduceToNat, Int.reduceLE, Int.reduceLT, mens, men]
  obtain ⟨X, hX⟩ : ∃ X : Nat → TBigraph, X = fun j => (caAt sig L j).getD emptyB := ⟨_, rfl⟩
  obtain ⟨B, hB⟩ : ∃ B : Nat → Bool, B = fun j => (caAt sig L j).isSome := ⟨_, rfl⟩
  have hg : gB L 0 = L[0] := gx_eq h0
  have hX0 : @ite TBigraph (bigOK sig L[0]) (Classical.propDecidable _) L[0] emptyB = X 0 := by
    rw [hX]
    simp only [caAt_0, caIn, hg]
    by_cases hb : bigOK sig L[0]
    · rw [if_pos hb, if_pos (by rw [hg]; exact hb)]; rfl
    · rw [if_neg hb, if_neg (by rw [hg]; exact hb)]; rfl
  have hB0 : dc (bigOK sig L[0]) = B 0 := by
    rw [hB]
    simp only [caAt_0, caIn, hg]
    by_cases hb : bigOK sig L[0]
    · rw [if_pos (by rw [hg]; exact hb), dc_true hb]; rfl
    · rw [if_neg (by rw [hg]; exact hb), dc_false hb]; rfl
  have qv := sem_validW sig L[0] hn hbs (hbL _ (List.getElem_mem h0))
  rw [hX0, hB0] at qv
  simp only [cBigraph, List.map_cons, List.map_nil] at qv
  refine kca_intro qv ?_
  simp only [oBigraph, cBigraph, cut_drop, List.length_map, List.length_drop, EVA, ↓reduceIte, Nat.reduceEqDiff, Nat.reduceMul, reduceCtorEq, Nat.reduceAdd, Nat.reduceSub, Nat.reduceLeDiff, Nat.reduceLT, Int.reduceToNat, Int.reduceLE, Int.reduceLT, mens, men]
  refine ⟨fun _ => UnR_map cBigraph (fun _ => rfl) L, by omega, ?_⟩
  have hcR : caR sig L = caAt sig L (L.length - 1) := by
    unfold caR
    rw [if_pos (by omega), if_pos h0]
  have hr0 : r0_ComposeAll sig L = X (L.length - 1) := by
    unfold r0_ComposeAll
    rw [hcR, hX]
  have hr1 : r1_ComposeAll sig L = B (L.length - 1) := by
    unfold r1_ComposeAll
    rw [hcR, hB]
  have hnone : ∀ j, j ≤ L.length - 1 → B j = false → X j = emptyB ∧ r0_ComposeAll sig L = emptyB ∧ r1_ComposeAll sig L = false := fun j hj hb => by
    have h1 : caAt sig L j = none := by
      rw [hB] at hb
      cases h : caAt sig L j with
      | none => rfl
      | some x =>
        dsimp only at hb
        rw [h] at hb
        cases hb
    have h3 := caAt_none h1 hj
    rw [hr0, hr1, hX, hB]
    dsimp only
    rw [h1, h3]
    exact ⟨rfl, rfl, rfl⟩
  have hsome : ∀ j (h : j + 1 < L.length), B j = true → bigOK sig (X j) ∧ ftBigraph (X j) ∧ r0_ComposeBigraphs sig (X j) L[j + 1] = X (j + 1) ∧ r1_ComposeBigraphs sig (X j) L[j + 1] = B (j + 1) ∧ True := fun j h hb => by
    rw [hB] at hb
    cases h1 : caAt sig L j with
    | none =>
      dsimp only at hb
      rw [h1] at hb
      cases hb
    | some x =>
      have h2 := caAt_ok hf (by omega) h1
      have h3 := caAt_succ (sig := sig) h
      rw [h1] at h3
      have e1 : X j = x := by
        rw [hX]
        dsimp only
        rw [h1]
        rfl
      rw [e1]
      refine ⟨h2.1, h2.2, ?_, ?_, trivial⟩
      · rw [hX]
        dsimp only
        rw [h3]
        unfold r0_ComposeBigraphs caStep
        dsimp only
        split <;> rfl
      · rw [hB]
        dsimp only
        rw [h3]
        unfold r1_ComposeBigraphs caStep
        dsimp only
        split
        · rename_i hc; rw [dc_true hc]; rfl
        · rename_i hc; rw [dc_false hc]; rfl
  refine wp_count (α := Unit) (L.length - 1) (fun j _ => caSt lvl S sig L (if j = 0 then 640 else 1152) (X j) (B j) j) (fun _ _ => True) () ⟨by simp only [EVA, ↓reduceIte, Nat.reduceEqDiff, Nat.reduceMul, reduceCtorEq, Nat.reduceAdd, Nat.reduceSub, Nat.reduceLeDiff, Nat.reduceLT, Int.reduceToNat, Int.reduceLE, Int.reduceLT, mens, men], by (simp only [EVA, ↓reduceIte, Nat.reduceEqDiff, Nat.reduceMul, reduceCtorEq, Nat.reduceAdd, Nat.reduceSub, Nat.reduceLeDiff, Nat.reduceLT, Int.reduceToNat, Int.reduceLE, Int.reduceLT, mens, men]) <;> rfl⟩ trivial ?_
  intro j _ hj _
  generalize hkk : (if j = 0 then 640 else 1152) = k
  have hk2 : k = 640 ∨ k = 1152 := by rw [← hkk]; split <;> simp
  rcases hk2 with rfl | rfl
  · simp only [caSt, List.length_map, EVA, ↓reduceIte, Nat.reduceEqDiff, Nat.reduceMul, reduceCtorEq, Nat.reduceAdd, Nat.reduceSub, Nat.reduceLeDiff, Nat.reduceLT, Int.reduceToNat, Int.reduceLE, Int.reduceLT, mens, men]
    refine ite_of (fun hlt => ?_) (fun hge => ?_)
    · have hja : j + 1 < L.length := by omega
      have ga : ((L.drop 1).map cBigraph)[j]? = some (cBigraph L[j + 1]) := by
        rw [List.getElem?_map, List.getElem?_drop, show 1 + j = j + 1 from by omega, List.getElem?_eq_getElem hja]
        rfl
      cases hbj : B j
      · obtain ⟨e1, e2, e3⟩ := hnone j (by omega) hbj
        simp only [ga, hbj, e1, e2, e3, hja, cBigraph, List.length_map, List.length_drop, EVA, ↓reduceIte, Nat.reduceEqDiff, Nat.reduceMul, reduceCtorEq, Nat.reduceAdd, Nat.reduceSub, Nat.reduceLeDiff, Nat.reduceLT, Int.reduceToNat, Int.reduceLE, Int.reduceLT, mens, men]
      · obtain ⟨x1, x2, x3, x4, x5⟩ := hsome j hja hbj
        have q := sem_impl_ComposeBigraphs sig (X j) L[j + 1] hn hbs (bd_mono (by omega) (bd_small x1)) (hbL _ (List.getElem_mem hja)) x2 (hf _ (List.getElem_mem hja))
        rw [x3, x4] at q
        simp only [ga, hbj, hja, cBigraph, List.length_map, List.length_drop, EVA, ↓reduceIte, Nat.reduceEqDiff, Nat.reduceMul, reduceCtorEq, Nat.reduceAdd, Nat.reduceSub, Nat.reduceLeDiff, Nat.reduceLT, Int.reduceToNat, Int.reduceLE, Int.reduceLT, mens, men]
        simp only [cBigraph, List.map_cons, List.map_nil] at q
        refine kca_intro q ?_
        simp only [oBigraph, cBigraph, List.length_map, List.length_drop, EVA, ↓reduceIte, Nat.reduceEqDiff, Nat.reduceMul, reduceCtorEq, Nat.reduceAdd, Nat.reduceSub, Nat.reduceLeDiff, Nat.reduceLT, Int.reduceToNat, Int.reduceLE, Int.reduceLT, mens, men]
        exact ⟨by rw [fits_i64]; omega, cntJ_intro () (by omega) rfl trivial⟩
    · have : j = L.length - 1 := by omega
      subst this
      rw [hr0, hr1]
  · simp only [caSt, List.length_map, EVA, ↓reduceIte, Nat.reduceEqDiff, Nat.reduceMul, reduceCtorEq, Nat.reduceAdd, Nat.reduceSub, Nat.reduceLeDiff, Nat.reduceLT, Int.reduceToNat, Int.reduceLE, Int.reduceLT, mens, men]
    refine ite_of (fun hlt => ?_) (fun hge => ?_)
    · have hja : j + 1 < L.length := by omega
      have ga : ((L.drop 1).map cBigraph)[j]? = some (cBigraph L[j + 1]) := by
        rw [List.getElem?_map, List.getElem?_drop, show 1 + j = j + 1 from by omega, List.getElem?_eq_getElem hja]
        rfl
      cases hbj : B j
      · obtain ⟨e1, e2, e3⟩ := hnone j (by omega) hbj
        simp only [ga, hbj, e1, e2, e3, hja, cBigraph, List.length_map, List.length_drop, EVA, ↓reduceIte, Nat.reduceEqDiff, Nat.reduceMul, reduceCtorEq, Nat.reduceAdd, Nat.reduceSub, Nat.reduceLeDiff, Nat.reduceLT, Int.reduceToNat, Int.reduceLE, Int.reduceLT, mens, men]
      · obtain ⟨x1, x2, x3, x4, x5⟩ := hsome j hja hbj
        have q := sem_impl_ComposeBigraphs sig (X j) L[j + 1] hn hbs (bd_mono (by omega) (bd_small x1)) (hbL _ (List.getElem_mem hja)) x2 (hf _ (List.getElem_mem hja))
        rw [x3, x4] at q
        simp only [ga, hbj, hja, cBigraph, List.length_map, List.length_drop, EVA, ↓reduceIte, Nat.reduceEqDiff, Nat.reduceMul, reduceCtorEq, Nat.reduceAdd, Nat.reduceSub, Nat.reduceLeDiff, Nat.reduceLT, Int.reduceToNat, Int.reduceLE, Int.reduceLT, mens, men]
        simp only [cBigraph, List.map_cons, List.map_nil] at q
        refine kca_intro q ?_
        simp only [oBigraph, cBigraph, List.length_map, List.length_drop, EVA, ↓reduceIte, Nat.reduceEqDiff, Nat.reduceMul, reduceCtorEq, Nat.reduceAdd, Nat.reduceSub, Nat.reduceLeDiff, Nat.reduceLT, Int.reduceToNat, Int.reduceLE, Int.reduceLT, mens, men]
        exact ⟨by rw [fits_i64]; omega, cntJ_intro () (by omega) rfl trivial⟩
    · have : j = L.length - 1 := by omega
      subst this
      rw [hr0, hr1]
theorem sem_spec_CA_up (sig : List TControl) (L : List TBigraph) (hn : sig.length ≤ 4294967296) (hbs : ∀ y ∈ sig, bdControl 4294967296 y) (hL : L.length ≤ 4294967296) (hbL : ∀ y ∈ L, bdBigraph 4294967296 y) (hf : ∀ y ∈ L, ftBigraph y) (lvl : Nat) (S : Sto) : Sem Go.Proofs.Tryz.prog fid_spec_ComposeAll lvl [.tr (.sl (sig.map cControl)), .tr (.sl (L.map cBigraph))] S (.tu [if r1_ComposeAll sig L = true then .ag ((cBigraph (r0_ComposeAll sig L)).map .tr) else oBigraph emptyB, iB (r1_ComposeAll sig L)]) S := by
  refine sem_of_chk k_spec_ComposeAll (by split <;> simp [oBigraph, cBigraph, low, men, mens]) ?_
  simp only [c_spec_ComposeAll, List.length_map, EVA, ↓reduceIte, Nat.reduceEqDiff, Nat.reduceMul, reduceCtorEq, Nat.reduceAdd, Nat.reduceSub, Nat.reduceLeDiff, Nat.reduceLT, Int.reduceToNat, Int.reduceLE, Int.reduceLT, mens, men]
  refine kca_intro (sem_l1In L.length 1 8) ?_
  cases h2 : inB L.length 1 8
  · have hno : caR sig L = none := by
      have h3 := inB_not.1 h2
      unfold caR
      split
      · rw [if_neg (by omega)]
      · rfl
    have h4 : r1_ComposeAll sig L = false := by unfold r1_ComposeAll; rw [hno]; rfl
    rw [h4, if_neg (by decide)]
    simp only [EVA, ↓reduceIte, Nat.reduceEqDiff, Nat.reduceMul, reduceCtorEq, Nat.reduceAdd, Nat.reduceSub, Nat.reduceLeDiff, Nat.reduceLT, Int.reduceToNat, Int.reduceLE, Int.reduceLT, mens, men]
    rfl
  have hk := inB_iff.1 h2
  have h0 : 0 < L.length := by omega
  have g0' := big_el h0
  have hg : gB L 0 = L[0] := gx_eq h0
  have hcR : caR sig L = caAt sig L (L.length - 1) := by
    unfold caR
    rw [if_pos (by omega), if_pos h0]
  have hnone : ∀ j, j ≤ L.length - 1 → caAt sig L j = none → r1_ComposeAll sig L = false := fun j hj h => by
    unfold r1_ComposeAll
    rw [hcR, caAt_none h hj]
    rfl
  simp only [g0', h0, cBigraph, List.length_map, EVA, ↓reduceIte, Nat.reduceEqDiff, Nat.reduceMul, reduceCtorEq, Nat.reduceAdd, Nat.reduceSub, Nat.reduceLeDiff, Nat.reduceLT, Int.reduceToNat, Int.reduceLE, Int.reduceLT, mens, men]
  have q1 := sem_l2Good sig L[0] hn hbs (hbL _ (List.getElem_mem h0)) (hf _ (List.getElem_mem h0))
  simp only [cBigraph, List.map_cons, List.map_nil] at q1
  refine kca_intro q1 ?_
  cases h1 : dc (bigOK sig L[0])
  · have hb := dc_not.1 h1
    rw [hnone 0 (by omega) (by rw [caAt_0]; unfold caIn; rw [if_neg (by rw [hg]; exact hb)]), if_neg (by decide)]
    simp only [EVA, ↓reduceIte, Nat.reduceEqDiff, Nat.reduceMul, reduceCtorEq, Nat.reduceAdd, Nat.reduceSub, Nat.reduceLeDiff, Nat.reduceLT, Int.reduceToNat, Int.reduceLE, Int.reduceLT, mens, men]
    rfl
  have hb := dc_iff.1 h1
  have hin : caAt sig L 0 = some L[0] := by
    rw [caAt_0]
    unfold caIn
    rw [if_pos (by rw [hg]; exact hb), hg]
  simp only [g0', h0, cBigraph, List.length_map, EVA, ↓reduceIte, Nat.reduceEqDiff, Nat.reduceMul, reduceCtorEq, Nat.reduceAdd, Nat.reduceSub, Nat.reduceLeDiff, Nat.reduceLT, Int.reduceToNat, Int.reduceLE, Int.reduceLT, mens, men]
  have q2 := sem_l2OwnG sig L[0] hb
  simp only [cBigraph, oBigraph, List.map_cons, List.map_nil] at q2
  refine kca_intro q2 ?_
  simp only [cBigraph, List.length_map, EVA, ↓reduceIte, Nat.reduceEqDiff, Nat.reduceMul, reduceCtorEq, Nat.reduceAdd, Nat.reduceSub, Nat.reduceLeDiff, Nat.reduceLT, Int.reduceToNat, Int.reduceLE, Int.reduceLT, mens, men]
  refine wp_cnt (α := TBigraph) (L.length - 1) (fun j _ => [(7, iI ((j : Int) + 1))]) (fun _ x => [(192, .bx [iI x.roots, .tr (.sl (x.nodes.map cNode)), .tr (.sl (rI x.sites)), iI x.edges, .tr (.sl (rS x.outer)), .tr (.sl (x.inner.map cWire))])]) (fun j x => caAt sig L j = some x) L[0] (by simp only [EVA, ↓reduceIte, Nat.reduceEqDiff, Nat.reduceMul, reduceCtorEq, Nat.reduceAdd, Nat.reduceSub, Nat.reduceLeDiff, Nat.reduceLT, Int.reduceToNat, Int.reduceLE, Int.reduceLT, mens, men]) (by (simp only [EVA, ↓reduceIte, Nat.reduceEqDiff, Nat.reduceMul, reduceCtorEq, Nat.reduceAdd, Nat.reduceSub, Nat.reduceLeDiff, Nat.reduceLT, Int.reduceToNat, Int.reduceLE, Int.reduceLT, mens, men]) <;> rfl) hin ?_
  intro j x hj hx
  have hxx := caAt_ok hf (by omega) hx
  simp only [List.length_map, EVA, ↓reduceIte, Nat.reduceEqDiff, Nat.reduceMul, reduceCtorEq, Nat.reduceAdd, Nat.reduceSub, Nat.reduceLeDiff, Nat.reduceLT, Int.reduceToNat, Int.reduceLE, Int.reduceLT, mens, men]
  refine ite_of (fun hlt => ?_) (fun hge => ?_)
  · have hja : j + 1 < L.length := by omega
    have ga := big_el hja
    have e1 : ((j : Int) + 1).toNat = j + 1 := by omega
    have e2 : (0 : Int) ≤ (j : Int) + 1 := by omega
    simp only [ga, e1, e2, hja, cBigraph, List.length_map, EVA, ↓reduceIte, Nat.reduceEqDiff, Nat.reduceMul, reduceCtorEq, Nat.reduceAdd, Nat.reduceSub, Nat.reduceLeDiff, Nat.reduceLT, Int.reduceToNat, Int.reduceLE, Int.reduceLT, mens, men]
    have q := sem_l4Compose sig x L[j + 1] hn hbs (bd_mono (by omega) (bd_small hxx.1)) (hbL _ (List.getElem_mem hja)) hxx.2 (hf _ (List.getElem_mem hja))
    have hs := caAt_succ (sig := sig) hja
    rw [hx] at hs
    unfold caStep at hs
    dsimp only at hs
    by_cases hc : compOK sig x L[j + 1]
    · rw [if_pos hc] at hs
      rw [if_pos hc, dc_true hc] at q
      simp only [cBigraph, List.map_cons, List.map_nil] at q
      refine kca_intro q ?_
      simp only [cBigraph, List.length_map, EVA, ↓reduceIte, Nat.reduceEqDiff, Nat.reduceMul, reduceCtorEq, Nat.reduceAdd, Nat.reduceSub, Nat.reduceLeDiff, Nat.reduceLT, Int.reduceToNat, Int.reduceLE, Int.reduceLT, mens, men]
      exact ⟨by rw [fits_i64]; omega, cntJ_intro (compB x L[j + 1]) (by omega) rfl hs⟩
    · rw [if_neg hc] at hs
      rw [if_neg hc, dc_false hc] at q
      rw [hnone (j + 1) (by omega) hs, if_neg (by decide)]
      simp only [cBigraph, List.map_cons, List.map_nil] at q
      refine kca_intro q ?_
      simp only [oBigraph, cBigraph, List.length_map, EVA, ↓reduceIte, Nat.reduceEqDiff, Nat.reduceMul, reduceCtorEq, Nat.reduceAdd, Nat.reduceSub, Nat.reduceLeDiff, Nat.reduceLT, Int.reduceToNat, Int.reduceLE, Int.reduceLT, mens, men]
      try rfl
  · have : j = L.length - 1 := by omega
    subst this
    have e1 : r1_ComposeAll sig L = true := by
      unfold r1_ComposeAll
      rw [hcR, hx]
      rfl
    have e0 : r0_ComposeAll sig L = x := by
      unfold r0_ComposeAll
      rw [hcR, hx]
      rfl
    rw [e0, e1, if_pos rfl]
def caOK (sig : List TControl) (L : List TBigraph) : Prop := r1_ComposeAll sig L = true
theorem sem_spec_ComposeAll_y (sig : List TControl) (L : List TBigraph) (hn : sig.length ≤ 4294967296) (hbs : ∀ y ∈ sig, bdControl 4294967296 y) (hL : L.length ≤ 4294967296) (hbL : ∀ y ∈ L, bdBigraph 4294967296 y) (hf : ∀ y ∈ L, ftBigraph y) (hB : caOK sig L) (lvl : Nat) (S : Sto) : Sem Go.Proofs.Tryz.prog fid_spec_ComposeAll lvl [.tr (.sl (sig.map cControl)), .tr (.sl (L.map cBigraph))] S (.tu [.ag ((cBigraph (r0_ComposeAll sig L)).map .tr), iB (r1_ComposeAll sig L)]) S := by
  have h := sem_spec_CA_up sig L hn hbs hL hbL hf lvl S
  unfold caOK at hB
  rw [if_pos hB] at h
  exact h
theorem sem_spec_ComposeAll_n (sig : List TControl) (L : List TBigraph) (hn : sig.length ≤ 4294967296) (hbs : ∀ y ∈ sig, bdControl 4294967296 y) (hL : L.length ≤ 4294967296) (hbL : ∀ y ∈ L, bdBigraph 4294967296 y) (hf : ∀ y ∈ L, ftBigraph y) (hB : ¬ caOK sig L) (lvl : Nat) (S : Sto) : Sem Go.Proofs.Tryz.prog fid_spec_ComposeAll lvl [.tr (.sl (sig.map cControl)), .tr (.sl (L.map cBigraph))] S (.tu [oBigraph (r0_ComposeAll sig L), iB (r1_ComposeAll sig L)]) S := by
  have h := sem_spec_CA_up sig L hn hbs hL hbL hf lvl S
  unfold caOK at hB
  rw [if_neg hB] at h
  have e : r0_ComposeAll sig L = emptyB := by
    unfold r1_ComposeAll at hB
    unfold r0_ComposeAll
    cases hq : caR sig L with
    | none => rfl
    | some x => rw [hq] at hB; exact absurd rfl hB
  rw [e]
  exact h
end Go.Fd

namespace Go.Fd
def c_laws_FnExactComposeAll : F2 :=
  { nt := 119, res := [.t 4 [0]], body :=
   (.sq (rg [om 4 (.k (.bool false))])
 (.sq (rg [om 5 (i6 1048576)])
 (.sq (rg [om 17 (.t 0),
 om 18 (.t 5),
 oo 19 (.ca .pure false (.f fid_laws_szControlS) [.t 17, .t 18]),
 om 5 (.t 19)])
 (.sq (.sq (rg [om 20 (.t 5),
 oo 21 (.bi .lss 0 (.t 20) (i6 0))])
 (.cd (.t 21) (.sq (rg [om 4 (.k (.bool true))])
 (.rt))
 (.sk)))
 (.sq (rg [om 22 (.t 1),
 om 23 (.t 5),
 oo 24 (.ca .pure false (.f fid_laws_szBigraphS) [.t 22, .t 23]),
 om 5 (.t 24)])
 (.sq (.sq (rg [om 25 (.t 5),
 oo 26 (.bi .lss 0 (.t 25) (i6 0))])
 (.cd (.t 26) (.sq (rg [om 4 (.k (.bool true))])
 (.rt))
 (.sk)))
 (.sq (rg [om 28 (.t 0),
 oo 29 (.ca .pure false (.f fid_laws_toControlS) [.t 28]),
 om 30 (.t 1),
 oo 31 (.ca .pure false (.f fid_laws_toBigraphS) [.t 30]),
 oo 32 (.ca .pure false (.f fid_spec_ComposeAll) [.t 29, .t 31]),
 om 27 (.t 32),
 oo 33 (.ex 0 (.t 27)),
 oo 34 (.ex 1 (.t 27)),
 oo 6 (.al [.int .i64 0, .slice none 0 0, .slice none 0 0, .int .i64 0, .slice none 0 0, .slice none 0 0] []),
 on1 (.st 6 (.t 6) (.t 33)),
 om 7 (.t 34)])
 (.sq (rg [om 35 (.t 0),
 oo 36 (.ca .pure true (.f fid_laws_toControlS) [.t 35]),
 om 8 (.t 36)])
 (.sq (rg [om 37 (.t 1),
 oo 38 (.ca .pure true (.f fid_laws_toBigraphS) [.t 37]),
 om 9 (.t 38)])
 (.sq (rg [om 40 (.t 8),
 om 41 (.t 9),
 oo 42 (.ca .pure true (.f fid_impl_ComposeAll) [.t 40, .t 41]),
 om 39 (.t 42),
 oo 43 (.ex 0 (.t 39)),
 oo 44 (.ex 1 (.t 39)),
 oo 10 (.al [.int .i64 0, .slice none 0 0, .slice none 0 0, .int .i64 0, .slice none 0 0, .slice none 0 0] []),
 on1 (.st 6 (.t 10) (.t 43)),
 om 11 (.t 44)])
 (.sq (.sq (rg [oo 45 (.ld (some 6) (.t 10)),
 oo 46 (.ld (some 6) (.t 6)),
 oo 47 (.ca .pure false (.f fid_laws_eqBigraph) [.t 45, .t 46]),
 oo 48 (.nt (.t 47)),
 om 49 (.t 48),
 og 50 49 false (.mv (.t 11) none),
 og 51 49 false (.mv (.t 7) none),
 og 52 49 false (.bi .neq 2 (.t 50) (.t 51)),
 oo 53 (.pk (.t 49) (.k (.bool true)) (.t 52))])
 (.cd (.t 53) (.sq (rg [om 4 (.k (.bool false))])
 (.rt))
 (.sk)))
 (.sq (.sq (rg [om 54 (.t 8),
 om 55 (.t 0),
 oo 56 (.ca .pure false (.f fid_laws_toControlS) [.t 55]),
 oo 57 (.ca .pure false (.f fid_laws_eqControlS) [.t 54, .t 56]),
 oo 58 (.nt (.t 57))])
 (.cd (.t 58) (.sq (rg [om 4 (.k (.bool false))])
 (.rt))
 (.sk)))
 (.sq (.sq (rg [om 59 (.t 9),
 om 60 (.t 1),
 oo 61 (.ca .pure false (.f fid_laws_toBigraphS) [.t 60]),
 oo 62 (.ca .pure false (.f fid_laws_eqBigraphS) [.t 59, .t 61]),
 oo 63 (.nt (.t 62))])
 (.cd (.t 63) (.sq (rg [om 4 (.k (.bool false))])
 (.rt))
 (.sk)))
 (.sq (rg [om 12 (i6 1)])
 (.sq (rg [om 64 (.t 8),
 om 65 (.t 12),
 oo 66 (.ca .any true (.f fid_laws_markControlS) [.t 64, .t 65]),
 om 12 (.t 66)])
 (.sq (rg [om 67 (.t 9),
 om 68 (.t 12),
 oo 69 (.ca .any true (.f fid_laws_markBigraphS) [.t 67, .t 68]),
 om 12 (.t 69)])
 (.sq (.sq (rg [om 70 (.t 12),
 oo 71 (.bi .lss 0 (.t 70) (i6 0)),
 om 72 (.t 71),
 og 73 72 false (.ld (some 6) (.t 10)),
 og 74 72 false (.ld (some 6) (.t 6)),
 og 75 72 false (.ca .pure false (.f fid_laws_eqBigraph) [.t 73, .t 74]),
 og 76 72 false (.nt (.t 75)),
 oo 77 (.pk (.t 72) (.k (.bool true)) (.t 76)),
 om 78 (.t 77),
 og 79 78 false (.mv (.t 11) none),
 og 80 78 false (.mv (.t 7) none),
 og 81 78 false (.bi .neq 2 (.t 79) (.t 80)),
 oo 82 (.pk (.t 78) (.k (.bool true)) (.t 81))])
 (.cd (.t 82) (.sq (rg [om 4 (.k (.bool false))])
 (.rt))
 (.sk)))
 (.sq (rg [om 13 (i6 1)])
 (.sq (rg [oo 83 (.ld (some 6) (.t 10)),
 om 84 (.t 13),
 oo 85 (.ca .any true (.f fid_laws_markBigraph) [.t 83, .t 84]),
 om 13 (.t 85)])
 (.sq (rg [om 14 (i6 1)])
 (.sq (rg [oo 86 (.ld (some 6) (.t 10)),
 om 87 (.t 14),
 oo 88 (.ca .pure false (.f fid_laws_heldBigraph) [.t 86, .t 87]),
 om 14 (.t 88)])
 (.sq (.sq (rg [om 89 (.t 14),
 oo 90 (.bi .lss 0 (.t 89) (i6 0))])
 (.cd (.t 90) (.sq (rg [om 4 (.k (.bool false))])
 (.rt))
 (.sk)))
 (.sq (.sq (rg [om 91 (.t 14),
 om 92 (.t 13),
 oo 93 (.bi .neq 0 (.t 91) (.t 92))])
 (.cd (.t 93) (.sq (rg [om 4 (.k (.bool false))])
 (.rt))
 (.sk)))
 (.sq (rg [om 95 (.t 0),
 oo 96 (.ca .pure false (.f fid_laws_toControlS) [.t 95]),
 om 97 (.t 1),
 oo 98 (.ca .pure false (.f fid_laws_toBigraphS) [.t 97]),
 oo 99 (.ca .pure false (.f fid_impl_ComposeAll) [.t 96, .t 98]),
 om 94 (.t 99),
 oo 100 (.ex 0 (.t 94)),
 oo 101 (.ex 1 (.t 94)),
 oo 15 (.al [.int .i64 0, .slice none 0 0, .slice none 0 0, .int .i64 0, .slice none 0 0, .slice none 0 0] []),
 on1 (.st 6 (.t 15) (.t 100)),
 om 16 (.t 101)])
 (.sq (.sq (rg [oo 102 (.ld (some 6) (.t 15)),
 oo 103 (.ld (some 6) (.t 6)),
 oo 104 (.ca .pure false (.f fid_laws_eqBigraph) [.t 102, .t 103]),
 oo 105 (.nt (.t 104)),
 om 106 (.t 105),
 og 107 106 false (.mv (.t 16) none),
 og 108 106 false (.mv (.t 7) none),
 og 109 106 false (.bi .neq 2 (.t 107) (.t 108)),
 oo 110 (.pk (.t 106) (.k (.bool true)) (.t 109))])
 (.cd (.t 110) (.sq (rg [om 4 (.k (.bool false))])
 (.rt))
 (.sk)))
 (.sq (rg [om 14 (i6 1)])
 (.sq (rg [oo 111 (.ld (some 6) (.t 10)),
 om 112 (.t 14),
 oo 113 (.ca .pure false (.f fid_laws_heldBigraph) [.t 111, .t 112]),
 om 14 (.t 113)])
 (.sq (.sq (rg [om 114 (.t 14),
 oo 115 (.bi .lss 0 (.t 114) (i6 0))])
 (.cd (.t 115) (.sq (rg [om 4 (.k (.bool false))])
 (.rt))
 (.sk)))
 (.sq (.sq (rg [om 116 (.t 14),
 om 117 (.t 13),
 oo 118 (.bi .neq 0 (.t 116) (.t 117))])
 (.cd (.t 118) (.sq (rg [om 4 (.k (.bool false))])
 (.rt))
 (.sk)))
 (.sq (rg [om 4 (.k (.bool true))])
 (.rt))))))))))))))))))))))))))))))) }
theorem k_laws_FnExactComposeAll : chkF Go.Proofs.Tryz.prog fid_laws_FnExactComposeAll c_laws_FnExactComposeAll = true := by kernel_rfl

def c_laws_markControlS : F2 :=
  { nt := 35, res := [.t 4 [0]], body :=
   (.sq (rg [om 4 (i6 0)])
 (.sq (.sq (rg [om 5 (i6 0)])
 (.bl 0 (.lp [0, 1, 5] [] (.sq (.sq (rg [om 6 (.t 5),
 om 7 (.t 0),
 oo 8 (.ln (.t 7)),
 oo 9 (.bi .lss 0 (.t 6) (.t 8))])
 (.cd (.t 9) (.sk)
 (.ex 0)))
 (.sq (.bl 1 (.sq (rg [om 12 (.t 0),
 om 13 (.t 5),
 om 14 (.t 1),
 oo 15 (.ca .pure false (.f fid_laws_markText) [.t 14]),
 oo 16 (.ia 3 (.t 12) (.t 13)),
 oo 17 (.fa 0 (.t 16)),
 on1 (.st 1 (.t 17) (.t 15))])
 (.sq (rg [om 18 (.t 1),
 oo 19 (.bi .add 0 (.t 18) (i6 1)),
 om 1 (.t 19)])
 (.sq (rg [om 20 (.t 0),
 om 21 (.t 5),
 om 22 (.t 1),
 oo 23 (.ia 3 (.t 20) (.t 21)),
 oo 24 (.fa 1 (.t 23)),
 on1 (.st 1 (.t 24) (.t 22))])
 (.sq (rg [om 25 (.t 1),
 oo 26 (.bi .add 0 (.t 25) (i6 1)),
 om 1 (.t 26)])
 (.sq (rg [om 27 (.t 0),
 om 28 (.t 5),
 om 29 (.t 1),
 oo 30 (.ia 3 (.t 27) (.t 28)),
 oo 31 (.fa 2 (.t 30)),
 on1 (.st 1 (.t 31) (.t 29))])
 (rg [om 32 (.t 1),
 oo 33 (.bi .add 0 (.t 32) (i6 1)),
 om 1 (.t 33)])))))))
 (rg [om 10 (.t 5),
 oo 11 (.bi .add 0 (.t 10) (i6 1)),
 om 5 (.t 11)]))))))
 (.sq (rg [om 34 (.t 1),
 om 4 (.t 34)])
 (.rt)))) }
theorem k_laws_markControlS : chkF Go.Proofs.Tryz.prog fid_laws_markControlS c_laws_markControlS = true := by kernel_rfl

def c_laws_markBigraph : F2 :=
  { nt := 22, res := [.t 4 [0]], body :=
   (.sq (rg [oo 2 (.bx (.t 0)),
 om 4 (i6 0)])
 (.sq (rg [oo 5 (.fa 1 (.t 2)),
 oo 6 (.ld none (.t 5)),
 om 7 (.t 1),
 oo 8 (.ca .any true (.f fid_laws_markNodeS) [.t 6, .t 7]),
 om 1 (.t 8)])
 (.sq (rg [oo 9 (.fa 2 (.t 2)),
 oo 10 (.ld none (.t 9)),
 om 11 (.t 1),
 oo 12 (.ca .any true (.f fid_laws_markIntS) [.t 10, .t 11]),
 om 1 (.t 12)])
 (.sq (rg [oo 13 (.fa 4 (.t 2)),
 oo 14 (.ld none (.t 13)),
 om 15 (.t 1),
 oo 16 (.ca .any true (.f fid_laws_markStringS) [.t 14, .t 15]),
 om 1 (.t 16)])
 (.sq (rg [oo 17 (.fa 5 (.t 2)),
 oo 18 (.ld none (.t 17)),
 om 19 (.t 1),
 oo 20 (.ca .any true (.f fid_laws_markWireS) [.t 18, .t 19]),
 om 1 (.t 20)])
 (.sq (rg [om 21 (.t 1),
 om 4 (.t 21)])
 (.rt))))))) }
theorem k_laws_markBigraph : chkF Go.Proofs.Tryz.prog fid_laws_markBigraph c_laws_markBigraph = true := by kernel_rfl

def c_laws_heldBigraph : F2 :=
  { nt := 30, res := [.t 4 [0]], body :=
   (.sq (rg [oo 2 (.bt (.t 0)),
 om 4 (i6 0)])
 (.sq (rg [oo 5 (.fa 1 (.t 2)),
 oo 6 (.ld none (.t 5)),
 om 7 (.t 1),
 oo 8 (.ca .pure false (.f fid_laws_heldNodeS) [.t 6, .t 7]),
 om 1 (.t 8)])
 (.sq (.sq (rg [om 9 (.t 1),
 oo 10 (.bi .lss 0 (.t 9) (i6 0))])
 (.cd (.t 10) (.sq (rg [om 4 (i6 (-1))])
 (.rt))
 (.sk)))
 (.sq (rg [oo 11 (.fa 2 (.t 2)),
 oo 12 (.ld none (.t 11)),
 om 13 (.t 1),
 oo 14 (.ca .pure false (.f fid_laws_heldIntS) [.t 12, .t 13]),
 om 1 (.t 14)])
 (.sq (.sq (rg [om 15 (.t 1),
 oo 16 (.bi .lss 0 (.t 15) (i6 0))])
 (.cd (.t 16) (.sq (rg [om 4 (i6 (-1))])
 (.rt))
 (.sk)))
 (.sq (rg [oo 17 (.fa 4 (.t 2)),
 oo 18 (.ld none (.t 17)),
 om 19 (.t 1),
 oo 20 (.ca .pure false (.f fid_laws_heldStringS) [.t 18, .t 19]),
 om 1 (.t 20)])
 (.sq (.sq (rg [om 21 (.t 1),
 oo 22 (.bi .lss 0 (.t 21) (i6 0))])
 (.cd (.t 22) (.sq (rg [om 4 (i6 (-1))])
 (.rt))
 (.sk)))
 (.sq (rg [oo 23 (.fa 5 (.t 2)),
 oo 24 (.ld none (.t 23)),
 om 25 (.t 1),
 oo 26 (.ca .pure false (.f fid_laws_heldWireS) [.t 24, .t 25]),
 om 1 (.t 26)])
 (.sq (.sq (rg [om 27 (.t 1),
 oo 28 (.bi .lss 0 (.t 27) (i6 0))])
 (.cd (.t 28) (.sq (rg [om 4 (i6 (-1))])
 (.rt))
 (.sk)))
 (.sq (rg [om 29 (.t 1),
 om 4 (.t 29)])
 (.rt))))))))))) }
theorem k_laws_heldBigraph : chkF Go.Proofs.Tryz.prog fid_laws_heldBigraph c_laws_heldBigraph = true := by kernel_rfl

def c_laws_markBigraphS : F2 :=
  { nt := 55, res := [.t 4 [0]], body :=
   (.sq (rg [om 4 (i6 0)])
 (.sq (.sq (rg [om 5 (i6 0)])
 (.bl 0 (.lp [0, 1, 5] [] (.sq (.sq (rg [om 6 (.t 5),
 om 7 (.t 0),
 oo 8 (.ln (.t 7)),
 oo 9 (.bi .lss 0 (.t 6) (.t 8))])
 (.cd (.t 9) (.sk)
 (.ex 0)))
 (.sq (.bl 1 (.sq (rg [om 12 (.t 0),
 om 13 (.t 5),
 om 14 (.t 1),
 oo 15 (.ia 6 (.t 12) (.t 13)),
 oo 16 (.fa 0 (.t 15)),
 on1 (.st 1 (.t 16) (.t 14))])
 (.sq (rg [om 17 (.t 1),
 oo 18 (.bi .add 0 (.t 17) (i6 1)),
 om 1 (.t 18)])
 (.sq (rg [om 19 (.t 0),
 om 20 (.t 5),
 oo 21 (.ia 6 (.t 19) (.t 20)),
 oo 22 (.fa 1 (.t 21)),
 oo 23 (.ld none (.t 22)),
 om 24 (.t 1),
 oo 25 (.ca .any true (.f fid_laws_markNodeS) [.t 23, .t 24]),
 om 1 (.t 25)])
 (.sq (rg [om 26 (.t 0),
 om 27 (.t 5),
 oo 28 (.ia 6 (.t 26) (.t 27)),
 oo 29 (.fa 2 (.t 28)),
 oo 30 (.ld none (.t 29)),
 om 31 (.t 1),
 oo 32 (.ca .any true (.f fid_laws_markIntS) [.t 30, .t 31]),
 om 1 (.t 32)])
 (.sq (rg [om 33 (.t 0),
 om 34 (.t 5),
 om 35 (.t 1),
 oo 36 (.ia 6 (.t 33) (.t 34)),
 oo 37 (.fa 3 (.t 36)),
 on1 (.st 1 (.t 37) (.t 35))])
 (.sq (rg [om 38 (.t 1),
 oo 39 (.bi .add 0 (.t 38) (i6 1)),
 om 1 (.t 39)])
 (.sq (rg [om 40 (.t 0),
 om 41 (.t 5),
 oo 42 (.ia 6 (.t 40) (.t 41)),
 oo 43 (.fa 4 (.t 42)),
 oo 44 (.ld none (.t 43)),
 om 45 (.t 1),
 oo 46 (.ca .any true (.f fid_laws_markStringS) [.t 44, .t 45]),
 om 1 (.t 46)])
 (rg [om 47 (.t 0),
 om 48 (.t 5),
 oo 49 (.ia 6 (.t 47) (.t 48)),
 oo 50 (.fa 5 (.t 49)),
 oo 51 (.ld none (.t 50)),
 om 52 (.t 1),
 oo 53 (.ca .any true (.f fid_laws_markWireS) [.t 51, .t 52]),
 om 1 (.t 53)])))))))))
 (rg [om 10 (.t 5),
 oo 11 (.bi .add 0 (.t 10) (i6 1)),
 om 5 (.t 11)]))))))
 (.sq (rg [om 54 (.t 1),
 om 4 (.t 54)])
 (.rt)))) }
theorem k_laws_markBigraphS : chkF Go.Proofs.Tryz.prog fid_laws_markBigraphS c_laws_markBigraphS = true := by kernel_rfl

def c_laws_markText : F2 :=
  { nt := 20, res := [.t 2 [0]], body :=
   (.sq (rg [om 2 (.k (.string ⟨#[]⟩))])
 (.sq (.sq (rg [om 4 (.t 0),
 oo 5 (.bi .leq 0 (.t 4) (i6 0))])
 (.cd (.t 5) (.sq (rg [om 2 (.k (.string ⟨#[109, 48]⟩))])
 (.rt))
 (.sk)))
 (.sq (rg [om 3 (.k (.string ⟨#[]⟩))])
 (.sq (.bl 0 (.lp [0, 3] [] (.sq (.sq (rg [om 6 (.t 0),
 oo 7 (.bi .gtr 0 (.t 6) (i6 0))])
 (.cd (.t 7) (.sk)
 (.ex 0)))
 (.bl 1 (.sq (rg [om 8 (.t 0),
 oo 9 (.bi .rem 0 (.t 8) (i6 10)),
 oo 10 (.bi .add 0 (i6 48) (.t 9)),
 oo 11 (.cv (.int .u8) (.t 10)),
 oo 12 (.bs 1 1 [.int .u8 0] [(0, .t 11)]),
 oo 13 (.sb (.t 12)),
 om 14 (.t 3),
 oo 15 (.bi .add 0 (.t 13) (.t 14)),
 om 3 (.t 15)])
 (rg [om 16 (.t 0),
 oo 17 (.bi .quo 0 (.t 16) (i6 10)),
 om 0 (.t 17)]))))))
 (.sq (rg [om 18 (.t 3),
 oo 19 (.bi .add 0 (.k (.string ⟨#[109]⟩)) (.t 18)),
 om 2 (.t 19)])
 (.rt)))))) }
theorem k_laws_markText : chkF Go.Proofs.Tryz.prog fid_laws_markText c_laws_markText = true := by kernel_rfl

def c_laws_markNodeS : F2 :=
  { nt := 34, res := [.t 4 [0]], body :=
   (.sq (rg [om 4 (i6 0)])
 (.sq (.sq (rg [om 5 (i6 0)])
 (.bl 0 (.lp [0, 1, 5] [] (.sq (.sq (rg [om 6 (.t 5),
 om 7 (.t 0),
 oo 8 (.ln (.t 7)),
 oo 9 (.bi .lss 0 (.t 6) (.t 8))])
 (.cd (.t 9) (.sk)
 (.ex 0)))
 (.sq (.bl 1 (.sq (rg [om 12 (.t 0),
 om 13 (.t 5),
 om 14 (.t 1),
 oo 15 (.ia 3 (.t 12) (.t 13)),
 oo 16 (.fa 0 (.t 15)),
 on1 (.st 1 (.t 16) (.t 14))])
 (.sq (rg [om 17 (.t 1),
 oo 18 (.bi .add 0 (.t 17) (i6 1)),
 om 1 (.t 18)])
 (.sq (rg [om 19 (.t 0),
 om 20 (.t 5),
 om 21 (.t 1),
 oo 22 (.ia 3 (.t 19) (.t 20)),
 oo 23 (.fa 1 (.t 22)),
 on1 (.st 1 (.t 23) (.t 21))])
 (.sq (rg [om 24 (.t 1),
 oo 25 (.bi .add 0 (.t 24) (i6 1)),
 om 1 (.t 25)])
 (rg [om 26 (.t 0),
 om 27 (.t 5),
 oo 28 (.ia 3 (.t 26) (.t 27)),
 oo 29 (.fa 2 (.t 28)),
 oo 30 (.ld none (.t 29)),
 om 31 (.t 1),
 oo 32 (.ca .any true (.f fid_laws_markIntS) [.t 30, .t 31]),
 om 1 (.t 32)]))))))
 (rg [om 10 (.t 5),
 oo 11 (.bi .add 0 (.t 10) (i6 1)),
 om 5 (.t 11)]))))))
 (.sq (rg [om 33 (.t 1),
 om 4 (.t 33)])
 (.rt)))) }
theorem k_laws_markNodeS : chkF Go.Proofs.Tryz.prog fid_laws_markNodeS c_laws_markNodeS = true := by kernel_rfl

def c_laws_markIntS : F2 :=
  { nt := 19, res := [.t 4 [0]], body :=
   (.sq (rg [om 4 (i6 0)])
 (.sq (.sq (rg [om 5 (i6 0)])
 (.bl 0 (.lp [0, 1, 5] [] (.sq (.sq (rg [om 6 (.t 5),
 om 7 (.t 0),
 oo 8 (.ln (.t 7)),
 oo 9 (.bi .lss 0 (.t 6) (.t 8))])
 (.cd (.t 9) (.sk)
 (.ex 0)))
 (.sq (.bl 1 (.sq (rg [om 12 (.t 0),
 om 13 (.t 5),
 om 14 (.t 1),
 oo 15 (.ia 1 (.t 12) (.t 13)),
 on1 (.st 1 (.t 15) (.t 14))])
 (rg [om 16 (.t 1),
 oo 17 (.bi .add 0 (.t 16) (i6 1)),
 om 1 (.t 17)])))
 (rg [om 10 (.t 5),
 oo 11 (.bi .add 0 (.t 10) (i6 1)),
 om 5 (.t 11)]))))))
 (.sq (rg [om 18 (.t 1),
 om 4 (.t 18)])
 (.rt)))) }
theorem k_laws_markIntS : chkF Go.Proofs.Tryz.prog fid_laws_markIntS c_laws_markIntS = true := by kernel_rfl

def c_laws_markStringS : F2 :=
  { nt := 20, res := [.t 4 [0]], body :=
   (.sq (rg [om 4 (i6 0)])
 (.sq (.sq (rg [om 5 (i6 0)])
 (.bl 0 (.lp [0, 1, 5] [] (.sq (.sq (rg [om 6 (.t 5),
 om 7 (.t 0),
 oo 8 (.ln (.t 7)),
 oo 9 (.bi .lss 0 (.t 6) (.t 8))])
 (.cd (.t 9) (.sk)
 (.ex 0)))
 (.sq (.bl 1 (.sq (rg [om 12 (.t 0),
 om 13 (.t 5),
 om 14 (.t 1),
 oo 15 (.ca .pure false (.f fid_laws_markText) [.t 14]),
 oo 16 (.ia 1 (.t 12) (.t 13)),
 on1 (.st 1 (.t 16) (.t 15))])
 (rg [om 17 (.t 1),
 oo 18 (.bi .add 0 (.t 17) (i6 1)),
 om 1 (.t 18)])))
 (rg [om 10 (.t 5),
 oo 11 (.bi .add 0 (.t 10) (i6 1)),
 om 5 (.t 11)]))))))
 (.sq (rg [om 19 (.t 1),
 om 4 (.t 19)])
 (.rt)))) }
theorem k_laws_markStringS : chkF Go.Proofs.Tryz.prog fid_laws_markStringS c_laws_markStringS = true := by kernel_rfl

def c_laws_markWireS : F2 :=
  { nt := 28, res := [.t 4 [0]], body :=
   (.sq (rg [om 4 (i6 0)])
 (.sq (.sq (rg [om 5 (i6 0)])
 (.bl 0 (.lp [0, 1, 5] [] (.sq (.sq (rg [om 6 (.t 5),
 om 7 (.t 0),
 oo 8 (.ln (.t 7)),
 oo 9 (.bi .lss 0 (.t 6) (.t 8))])
 (.cd (.t 9) (.sk)
 (.ex 0)))
 (.sq (.bl 1 (.sq (rg [om 12 (.t 0),
 om 13 (.t 5),
 om 14 (.t 1),
 oo 15 (.ca .pure false (.f fid_laws_markText) [.t 14]),
 oo 16 (.ia 2 (.t 12) (.t 13)),
 oo 17 (.fa 0 (.t 16)),
 on1 (.st 1 (.t 17) (.t 15))])
 (.sq (rg [om 18 (.t 1),
 oo 19 (.bi .add 0 (.t 18) (i6 1)),
 om 1 (.t 19)])
 (.sq (rg [om 20 (.t 0),
 om 21 (.t 5),
 om 22 (.t 1),
 oo 23 (.ia 2 (.t 20) (.t 21)),
 oo 24 (.fa 1 (.t 23)),
 on1 (.st 1 (.t 24) (.t 22))])
 (rg [om 25 (.t 1),
 oo 26 (.bi .add 0 (.t 25) (i6 1)),
 om 1 (.t 26)])))))
 (rg [om 10 (.t 5),
 oo 11 (.bi .add 0 (.t 10) (i6 1)),
 om 5 (.t 11)]))))))
 (.sq (rg [om 27 (.t 1),
 om 4 (.t 27)])
 (.rt)))) }
theorem k_laws_markWireS : chkF Go.Proofs.Tryz.prog fid_laws_markWireS c_laws_markWireS = true := by kernel_rfl

def c_laws_heldNodeS : F2 :=
  { nt := 40, res := [.t 4 [0]], body :=
   (.sq (rg [om 4 (i6 0)])
 (.sq (.sq (rg [om 5 (i6 0)])
 (.bl 0 (.lp [0, 1, 5] [] (.sq (.sq (rg [om 6 (.t 5),
 om 7 (.t 0),
 oo 8 (.ln (.t 7)),
 oo 9 (.bi .lss 0 (.t 6) (.t 8))])
 (.cd (.t 9) (.sk)
 (.ex 0)))
 (.sq (.bl 1 (.sq (.sq (rg [om 12 (.t 0),
 om 13 (.t 5),
 oo 14 (.ia 3 (.t 12) (.t 13)),
 oo 15 (.fa 0 (.t 14)),
 oo 16 (.ld none (.t 15)),
 om 17 (.t 1),
 oo 18 (.bi .neq 0 (.t 16) (.t 17))])
 (.cd (.t 18) (.sq (rg [om 4 (i6 (-1))])
 (.rt))
 (.sk)))
 (.sq (rg [om 19 (.t 1),
 oo 20 (.bi .add 0 (.t 19) (i6 1)),
 om 1 (.t 20)])
 (.sq (.sq (rg [om 21 (.t 0),
 om 22 (.t 5),
 oo 23 (.ia 3 (.t 21) (.t 22)),
 oo 24 (.fa 1 (.t 23)),
 oo 25 (.ld none (.t 24)),
 om 26 (.t 1),
 oo 27 (.bi .neq 0 (.t 25) (.t 26))])
 (.cd (.t 27) (.sq (rg [om 4 (i6 (-1))])
 (.rt))
 (.sk)))
 (.sq (rg [om 28 (.t 1),
 oo 29 (.bi .add 0 (.t 28) (i6 1)),
 om 1 (.t 29)])
 (.sq (rg [om 30 (.t 0),
 om 31 (.t 5),
 oo 32 (.ia 3 (.t 30) (.t 31)),
 oo 33 (.fa 2 (.t 32)),
 oo 34 (.ld none (.t 33)),
 om 35 (.t 1),
 oo 36 (.ca .pure false (.f fid_laws_heldIntS) [.t 34, .t 35]),
 om 1 (.t 36)])
 (.sq (rg [om 37 (.t 1),
 oo 38 (.bi .lss 0 (.t 37) (i6 0))])
 (.cd (.t 38) (.sq (rg [om 4 (i6 (-1))])
 (.rt))
 (.sk)))))))))
 (rg [om 10 (.t 5),
 oo 11 (.bi .add 0 (.t 10) (i6 1)),
 om 5 (.t 11)]))))))
 (.sq (rg [om 39 (.t 1),
 om 4 (.t 39)])
 (.rt)))) }
theorem k_laws_heldNodeS : chkF Go.Proofs.Tryz.prog fid_laws_heldNodeS c_laws_heldNodeS = true := by kernel_rfl

def c_laws_heldIntS : F2 :=
  { nt := 21, res := [.t 4 [0]], body :=
   (.sq (rg [om 4 (i6 0)])
 (.sq (.sq (rg [om 5 (i6 0)])
 (.bl 0 (.lp [0, 1, 5] [] (.sq (.sq (rg [om 6 (.t 5),
 om 7 (.t 0),
 oo 8 (.ln (.t 7)),
 oo 9 (.bi .lss 0 (.t 6) (.t 8))])
 (.cd (.t 9) (.sk)
 (.ex 0)))
 (.sq (.bl 1 (.sq (.sq (rg [om 12 (.t 0),
 om 13 (.t 5),
 oo 14 (.ia 1 (.t 12) (.t 13)),
 oo 15 (.ld none (.t 14)),
 om 16 (.t 1),
 oo 17 (.bi .neq 0 (.t 15) (.t 16))])
 (.cd (.t 17) (.sq (rg [om 4 (i6 (-1))])
 (.rt))
 (.sk)))
 (rg [om 18 (.t 1),
 oo 19 (.bi .add 0 (.t 18) (i6 1)),
 om 1 (.t 19)])))
 (rg [om 10 (.t 5),
 oo 11 (.bi .add 0 (.t 10) (i6 1)),
 om 5 (.t 11)]))))))
 (.sq (rg [om 20 (.t 1),
 om 4 (.t 20)])
 (.rt)))) }
theorem k_laws_heldIntS : chkF Go.Proofs.Tryz.prog fid_laws_heldIntS c_laws_heldIntS = true := by kernel_rfl

def c_laws_heldStringS : F2 :=
  { nt := 22, res := [.t 4 [0]], body :=
   (.sq (rg [om 4 (i6 0)])
 (.sq (.sq (rg [om 5 (i6 0)])
 (.bl 0 (.lp [0, 1, 5] [] (.sq (.sq (rg [om 6 (.t 5),
 om 7 (.t 0),
 oo 8 (.ln (.t 7)),
 oo 9 (.bi .lss 0 (.t 6) (.t 8))])
 (.cd (.t 9) (.sk)
 (.ex 0)))
 (.sq (.bl 1 (.sq (.sq (.rg (some 0) [om 12 (.t 0),
 om 13 (.t 5),
 oo 14 (.ia 1 (.t 12) (.t 13)),
 oo 15 (.ld none (.t 14)),
 om 16 (.t 1),
 oo 17 (.ca .pure false (.f fid_laws_markText) [.t 16]),
 oo 18 (.bi .neq 0 (.t 15) (.t 17))])
 (.cd (.t 18) (.sq (rg [om 4 (i6 (-1))])
 (.rt))
 (.sk)))
 (rg [om 19 (.t 1),
 oo 20 (.bi .add 0 (.t 19) (i6 1)),
 om 1 (.t 20)])))
 (rg [om 10 (.t 5),
 oo 11 (.bi .add 0 (.t 10) (i6 1)),
 om 5 (.t 11)]))))))
 (.sq (rg [om 21 (.t 1),
 om 4 (.t 21)])
 (.rt)))) }
theorem k_laws_heldStringS : chkF Go.Proofs.Tryz.prog fid_laws_heldStringS c_laws_heldStringS = true := by kernel_rfl

def c_laws_heldWireS : F2 :=
  { nt := 32, res := [.t 4 [0]], body :=
   (.sq (rg [om 4 (i6 0)])
 (.sq (.sq (rg [om 5 (i6 0)])
 (.bl 0 (.lp [0, 1, 5] [] (.sq (.sq (rg [om 6 (.t 5),
 om 7 (.t 0),
 oo 8 (.ln (.t 7)),
 oo 9 (.bi .lss 0 (.t 6) (.t 8))])
 (.cd (.t 9) (.sk)
 (.ex 0)))
 (.sq (.bl 1 (.sq (.sq (.rg (some 0) [om 12 (.t 0),
 om 13 (.t 5),
 oo 14 (.ia 2 (.t 12) (.t 13)),
 oo 15 (.fa 0 (.t 14)),
 oo 16 (.ld none (.t 15)),
 om 17 (.t 1),
 oo 18 (.ca .pure false (.f fid_laws_markText) [.t 17]),
 oo 19 (.bi .neq 0 (.t 16) (.t 18))])
 (.cd (.t 19) (.sq (rg [om 4 (i6 (-1))])
 (.rt))
 (.sk)))
 (.sq (rg [om 20 (.t 1),
 oo 21 (.bi .add 0 (.t 20) (i6 1)),
 om 1 (.t 21)])
 (.sq (.sq (rg [om 22 (.t 0),
 om 23 (.t 5),
 oo 24 (.ia 2 (.t 22) (.t 23)),
 oo 25 (.fa 1 (.t 24)),
 oo 26 (.ld none (.t 25)),
 om 27 (.t 1),
 oo 28 (.bi .neq 0 (.t 26) (.t 27))])
 (.cd (.t 28) (.sq (rg [om 4 (i6 (-1))])
 (.rt))
 (.sk)))
 (rg [om 29 (.t 1),
 oo 30 (.bi .add 0 (.t 29) (i6 1)),
 om 1 (.t 30)])))))
 (rg [om 10 (.t 5),
 oo 11 (.bi .add 0 (.t 10) (i6 1)),
 om 5 (.t 11)]))))))
 (.sq (rg [om 31 (.t 1),
 om 4 (.t 31)])
 (.rt)))) }
theorem k_laws_heldWireS : chkF Go.Proofs.Tryz.prog fid_laws_heldWireS c_laws_heldWireS = true := by kernel_rfl

end Go.Fd

namespace Go.Fd
set_option maxRecDepth 20000
abbrev mInt (_ : Int) (k : Int) : Int := k
abbrev nInt (_ : Int) : Nat := 1
def mt (q : Nat) (o : ByteArray) : ByteArray := if q = 0 then o else mt (q / 10) (⟨#[UInt8.ofNat (48 + q % 10)]⟩ ++ o)
  termination_by q
  decreasing_by omega
theorem mt_pos {q : Nat} {o : ByteArray} (h : 0 < q) : mt q o = mt (q / 10) (⟨#[UInt8.ofNat (48 + q % 10)]⟩ ++ o) := by
  rw [mt, if_neg (by omega)]
theorem mt_zero {o : ByteArray} : mt 0 o = o := by rw [mt, if_pos rfl]
def markT (k : Int) : ByteArray := if k ≤ 0 then ⟨#[109, 48]⟩ else ⟨#[109]⟩ ++ mt k.toNat ⟨#[]⟩
theorem sem_markText (k : Int) (h : k ≤ 4611686018427387904) (lvl : Nat) (S : Sto) : Sem Go.Proofs.Tryz.prog fid_laws_markText lvl [iI k] S (iS (markT k)) S := by
  refine sem_of_chk k_laws_markText trivial ?_
  simp only [c_laws_markText, EVA, ↓reduceIte, Nat.reduceEqDiff, Nat.reduceMul, reduceCtorEq, Nat.reduceAdd, Nat.reduceSub, Nat.reduceLeDiff, Nat.reduceLT, Int.reduceToNat, Int.reduceLE, Int.reduceLT, mens, men]
  unfold markT
  refine ite_of (fun h0 => ?_) (fun h0 => ?_)
  · rw [if_pos h0]
  · rw [if_neg h0]
    obtain ⟨K, hK⟩ : ∃ K : Nat, k = K := ⟨k.toNat, by omega⟩
    subst hK
    rw [Int.toNat_natCast]
    refine wp_count (α := Nat × ByteArray) K (fun j y => ⟨lvl, [(0, iI y.1), (3, iS y.2)], [], S⟩) (fun j y => y.1 + j ≤ K ∧ mt y.1 y.2 = mt K ⟨#[]⟩ ∧ y.1 * 10 ^ y.2.size ≤ K ∧ y.2.size ≤ 19) (K, ⟨#[]⟩) ⟨by simp only [EVA, ↓reduceIte, Nat.reduceEqDiff, Nat.reduceMul, reduceCtorEq, Nat.reduceAdd, Nat.reduceSub, Nat.reduceLeDiff, Nat.reduceLT, Int.reduceToNat, Int.reduceLE, Int.reduceLT, mens, men], by simp only [EVA, ↓reduceIte, Nat.reduceEqDiff, Nat.reduceMul, reduceCtorEq, Nat.reduceAdd, Nat.reduceSub, Nat.reduceLeDiff, Nat.reduceLT, Int.reduceToNat, Int.reduceLE, Int.reduceLT, mens, men]⟩ ⟨Nat.le_refl _, rfl, Nat.le_of_eq (Nat.mul_one K), (by decide : (0 : Nat) ≤ 19)⟩ ?_
    intro j y hj hA
    obtain ⟨q, o⟩ := y
    obtain ⟨h1, h2, h3, h4⟩ := hA
    simp only at h1 h2 h3 h4
    simp only [EVA, ↓reduceIte, Nat.reduceEqDiff, Nat.reduceMul, reduceCtorEq, Nat.reduceAdd, Nat.reduceSub, Nat.reduceLeDiff, Nat.reduceLT, Int.reduceToNat, Int.reduceLE, Int.reduceLT, mens, men]
    refine ite_of (fun hq => ?_) (fun hq => ?_)
    · have hq0 : 0 < q := by omega
      have hby : byR [[Tr.v (Value.int IntKind.u8 (48 + (q : Int) % 10))]] = some [UInt8.ofNat (48 + q % 10)] := by
        have e : (48 + (q : Int) % 10).toNat = 48 + q % 10 := by omega
        simp only [cut, List.replicate_one, List.set_cons_zero, List.drop_zero, List.take_succ_cons, List.take_zero, byR, Option.map_some, e]
      have h5 : o.size < 19 := by
        apply Classical.byContradiction
        intro hc
        have e : o.size = 19 := by omega
        rw [e] at h3
        have : 1 * 10 ^ 19 ≤ q * 10 ^ 19 := Nat.mul_le_mul_right _ hq0
        omega
      have h6 : q / 10 * 10 ^ (o.size + 1) ≤ K := by
        refine Nat.le_trans ?_ h3
        rw [Nat.pow_succ, Nat.mul_comm (10 ^ o.size) 10, ← Nat.mul_assoc]
        exact Nat.mul_le_mul_right _ (by omega)
      rw [hby]
      simp only [EVA, ↓reduceIte, Nat.reduceEqDiff, Nat.reduceMul, reduceCtorEq, Nat.reduceAdd, Nat.reduceSub, Nat.reduceLeDiff, Nat.reduceLT, Int.reduceToNat, Int.reduceLE, Int.reduceLT, mens, men]
      have hs : (ByteArray.mk #[UInt8.ofNat (48 + q % 10)] ++ o).size = o.size + 1 := by
        rw [ByteArray.size_append, Nat.add_comm]; rfl
      have e8 : fits .u8 (48 + (q : Int) % 10) := by
        constructor
        · show (0 : Int) ≤ _; omega
        · show _ ≤ (255 : Int); omega
      refine ⟨by rw [fits_i64]; omega, e8, ?_, by rw [fits_i64]; omega, cntJ_intro (q / 10, ByteArray.mk #[UInt8.ofNat (48 + q % 10)] ++ o) (by omega) ?_ ⟨by simp only; omega, ?_, ?_, ?_⟩⟩
      · show 1 + o.size ≤ 4294967296
        omega
      · rfl
      · rw [← h2, mt_pos hq0]
      · simp only [hs]; exact h6
      · simp only [hs]; omega
    · have : q = 0 := by omega
      subst this
      rw [← h2, mt_zero]
      refine ⟨?_, rfl⟩
      show 1 + o.size ≤ 4294967296
      omega
abbrev mStr (_ : ByteArray) (k : Int) : ByteArray := markT k
abbrev nStr (_ : ByteArray) : Nat := 1
end Go.Fd
