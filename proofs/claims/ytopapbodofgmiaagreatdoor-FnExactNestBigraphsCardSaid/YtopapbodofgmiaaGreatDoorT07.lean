/-
  A LINK IS TURNED: relinked AND ITS CLOSURE. Own work.
-/
import Derived.Test.YtopapbodofgmiaaGreatDoorT06
import Derived.KernelRfl
set_option linter.all false
namespace Go.Fd
set_option maxRecDepth 20000

theorem g_ixS : chkF Go.Proofs.Tryz.prog fid_slices_Index_string_string gIx1 = true := by kernel_rfl
theorem sem_IndexS (l : List ByteArray) (s : ByteArray) (hl : l.length ≤ 4294967296) (lvl : Nat) (S : Sto) : Sem Go.Proofs.Tryz.prog fid_slices_Index_string_string lvl [.tr (.sl (rS l)), iS s] S (iI (ixS l s)) S := sem_ix1 g_ixS cmpTS l s (by omega) lvl S
theorem ixS_ge {l : List ByteArray} {s : ByteArray} : -1 ≤ ixS l s := by
  by_cases h : s ∈ l
  · have := ixS_nn.2 h; omega
  · rw [ixS_no h]; omega
theorem ixS_le {l : List ByteArray} {s : ByteArray} : ixS l s ≤ l.length := by
  by_cases h : s ∈ l
  · have := ixS_lt h; omega
  · rw [ixS_no h]; omega

mutual
theorem men_and {P Q : Oid → Prop} : ∀ x, men P x → men Q x → men (fun i => P i ∧ Q i) x
  | .hd .., h, g => ⟨h, g⟩
  | .ab .., h, g => ⟨h, g⟩
  | .sv _, h, g => ⟨h, g⟩
  | .ae .., h, g => ⟨h, g⟩
  | .ag l, h, g => by simp only [men] at *; exact mens_and l h g
  | .tu l, h, g => by simp only [men] at *; exact mens_and l h g
  | .fn f l, h, g => by simp only [men] at *; exact mens_and l h g
  | .un, _, _ => trivial
  | .tr _, _, _ => trivial
  | .cs _, _, _ => trivial
  | .ta _, _, _ => trivial
  | .ow .., _, _ => trivial
  | .er, _, _ => trivial
theorem mens_and {P Q : Oid → Prop} : ∀ l, mens P l → mens Q l → mens (fun i => P i ∧ Q i) l
  | [], _, _ => trivial
  | x :: r, h, g => ⟨men_and x h.1 g.1, mens_and r h.2 g.2⟩
end
/-- Who sees what one who sees it sees, sees it. -/
theorem seen_next {B S S' : Sto} {loc : List (Nat × Ob)} {lvl l' : Nat} {cps : List IV} (h : mens (Seen B S lvl) cps) (h2 : mens (Seen (packS lvl loc S) S' l') cps) : mens (Seen B S' l') cps :=
  mens_mono (fun i hi => ⟨hi.2.1, fun ob hb => hi.2.2 ob (by rw [show packS lvl loc S i = S i from if_neg (by have := hi.1.1; omega)]; exact hi.1.2 ob hb)⟩) _ (mens_and _ h h2)
theorem seen_weak {L S : Sto} {l : Nat} {cps : List IV} (h : mens (Seen2 L S l) cps) : mens (Seen L S l) cps := mens_mono (fun _ hi => hi.1) _ h
theorem seen_low {B S : Sto} {lvl : Nat} {cps : List IV} (h : mens (Seen B S lvl) cps) (js : List Nat) : okms lvl js cps = True := eq_true (mens_mono (fun i hi e => absurd e (by have := hi.1; omega)) _ h)
theorem seen_ta {B S : Sto} {lvl : Nat} {cs : List (List Tr)} : mens (Seen B S lvl) (cs.map IV.ta) := by rw [r_mensta]; trivial
theorem sem_relinked_1 (b : TBigraph) (l : Int) (e : Int) (o : List ByteArray) (tf : FuncId) (cps : List IV) (B : Sto) (T : Int × ByteArray → Int × ByteArray) (he0 : 0 ≤ b.edges) (hl : linkOK b l) (ho : b.outer.length ≤ 4294967296) (hb : b.edges ≤ 4294967296) (he : 0 ≤ e ∧ e ≤ 4294967296) (hol : o.length ≤ 4294967296)
    (hT : ∀ l' S', mens (Seen B S' l') cps → Sem Go.Proofs.Tryz.prog tf l' (oE (endB b l) :: cps) S' (oE (T (endB b l))) S')
    (lvl : Nat) (S : Sto) (hcp : mens (Seen B S lvl) cps) (iT iO io : Oid) (c0 c1 c2 c3 c5 : IV) (hwo ver : Nat) (u : Bool) (hT1 : iT.1 < lvl) (hO1 : iO.1 < lvl) (ho1 : io.1 < lvl) (sT : S iT = some (.bx [.fn tf cps])) (sO : S iO = some (.bx [c0, c1, c2, c3, .hd io [] 0 o.length none hwo, c5])) (so : S io = some (.ar 1 (rS o) u hwo ver)) :
    Sem Go.Proofs.Tryz.prog fid_impl_Bigraph_relinked_1 lvl [iI l, .ab iT 0, .ta (cBigraph b), .ta [tv e], .ab iO 0] S (iI (relF b e o T l)) S := by
  have hneT : iT.1 ≠ lvl := by omega
  have hneO : iO.1 ≠ lvl := by omega
  have hneo : io.1 ≠ lvl := by omega
  refine sem_of_chk k_impl_Bigraph_relinked_1 trivial ?_
  simp only [c_impl_Bigraph_relinked_1, cBigraph, r_packo hneT, r_packo hneO, r_packo hneo, sT, sO, so, EVA, ↓reduceIte, Nat.reduceEqDiff, Nat.reduceMul, reduceCtorEq, Nat.reduceAdd, Nat.reduceSub, Nat.reduceLeDiff, Nat.reduceLT, Int.reduceToNat, Int.reduceLE, Int.reduceLT, mens, men]
  refine kca_intro (sem_endOf b l he0 hl ho hb) ?_
  simp only [EVA, ↓reduceIte, Nat.reduceEqDiff, Nat.reduceMul, reduceCtorEq, Nat.reduceAdd, Nat.reduceSub, Nat.reduceLeDiff, Nat.reduceLT, Int.reduceToNat, Int.reduceLE, Int.reduceLT, mens, men]
  refine kce_intro (fun l' S' hs => hT l' S' (seen_next hcp (seen_weak hs.2))) ?_
  simp only [EVA, ↓reduceIte, Nat.reduceEqDiff, Nat.reduceMul, reduceCtorEq, Nat.reduceAdd, Nat.reduceSub, Nat.reduceLeDiff, Nat.reduceLT, Int.reduceToNat, Int.reduceLE, Int.reduceLT, mens, men]
  unfold relF
  by_cases h2 : (T (endB b l)).2 = e0S
  · rw [if_pos h2]
    simp only [h2, EVA, ↓reduceIte, Nat.reduceEqDiff, Nat.reduceMul, reduceCtorEq, Nat.reduceAdd, Nat.reduceSub, Nat.reduceLeDiff, Nat.reduceLT, Int.reduceToNat, Int.reduceLE, Int.reduceLT, mens, men]
  · rw [if_neg h2]
    simp only [h2, r_packo hneO, r_packo hneo, sO, so, EVA, ↓reduceIte, Nat.reduceEqDiff, Nat.reduceMul, reduceCtorEq, Nat.reduceAdd, Nat.reduceSub, Nat.reduceLeDiff, Nat.reduceLT, Int.reduceToNat, Int.reduceLE, Int.reduceLT, mens, men]
    rw [show cut (rS o) 0 o.length = rS o from cut_all (by rw [List.length_map])]
    refine kca_intro (sem_IndexS o (T (endB b l)).2 (by omega)) ?_
    have := ixS_ge (l := o) (s := (T (endB b l)).2)
    have := ixS_le (l := o) (s := (T (endB b l)).2)
    simp only [EVA, ↓reduceIte, Nat.reduceEqDiff, Nat.reduceMul, reduceCtorEq, Nat.reduceAdd, Nat.reduceSub, Nat.reduceLeDiff, Nat.reduceLT, Int.reduceToNat, Int.reduceLE, Int.reduceLT, mens, men]
    rw [fits_i64]; omega

theorem setpI3 {y : List Int} {j : Nat} {v : Int} (h : j < y.length) : setp (rI y) [] j 0 (.v (.int .i64 v)) = rI (y.set j v) := by
  simp only [setp]
  rw [rI_get h]
  exact (List.map_set (f := fun n : Int => [tv n]) (l := y) (i := j) (a := v)).symm
/-- A node whose links are turned. -/
def mapN (F : Int → Int) (x : TNode) : TNode := ⟨x.control, x.parent, x.links.map F⟩
/-- The first j nodes are turned; of the next one the first k links. -/
def part1 (F : Int → Int) (l : List TNode) (j : Nat) : List TNode := (l.take j).map (mapN F) ++ l.drop j
def partK (F : Int → Int) (l : List Int) (k : Nat) : List Int := (l.take k).map F ++ l.drop k
theorem partK_len {F : Int → Int} {l : List Int} {k : Nat} : (partK F l k).length = l.length := by simp [partK]; omega
theorem partK_get {F : Int → Int} {l : List Int} {k : Nat} (h : k < l.length) : g0 (partK F l k) k = g0 l k := by
  show (partK F l k).getD k 0 = l.getD k 0
  have : ((l.take k).map F).length = k := by rw [List.length_map, List.length_take]; omega
  rw [List.getD_eq_getElem?_getD, List.getD_eq_getElem?_getD, partK, List.getElem?_append_right (by omega), this, List.getElem?_drop]
  simp
theorem partK_set {F : Int → Int} {l : List Int} {k : Nat} (h : k < l.length) : (partK F l k).set k (F (g0 l k)) = partK F l (k + 1) := by
  have hl : ((l.take k).map F).length = k := by rw [List.length_map, List.length_take]; omega
  have e : g0 l k = l[k] := by simp [h]
  unfold partK
  rw [List.set_append_right _ _ (by omega), hl, Nat.sub_self, List.drop_eq_getElem_cons h, List.set_cons_zero, List.take_succ_eq_append_getElem h, List.map_append, e, List.append_assoc]
  rfl
theorem part1_len {F : Int → Int} {l : List TNode} {j : Nat} : (part1 F l j).length = l.length := by simp [part1]; omega
theorem part1_get {F : Int → Int} {l : List TNode} {j : Nat} (h : j < l.length) : (part1 F l j)[j]? = some l[j] := by
  have : ((l.take j).map (mapN F)).length = j := by rw [List.length_map, List.length_take]; omega
  rw [part1, List.getElem?_append_right (by omega), this, List.getElem?_drop]
  simp [h]
theorem part1_set {F : Int → Int} {l : List TNode} {j : Nat} (h : j < l.length) : (part1 F l j).set j (mapN F l[j]) = part1 F l (j + 1) := by
  have hl : ((l.take j).map (mapN F)).length = j := by rw [List.length_map, List.length_take]; omega
  unfold part1
  rw [List.set_append_right _ _ (by omega), hl, Nat.sub_self, List.drop_eq_getElem_cons h, List.set_cons_zero, List.take_succ_eq_append_getElem h, List.map_append, List.append_assoc]
  rfl
def mapW (F : Int → Int) (w : TWire) : TWire := ⟨w.name, F w.link⟩
def partW (F : Int → Int) (l : List TWire) (j : Nat) : List TWire := (l.take j).map (mapW F) ++ l.drop j
theorem partW_get {F : Int → Int} {l : List TWire} {j : Nat} (h : j < l.length) : (partW F l j)[j]? = some l[j] := by
  have : ((l.take j).map (mapW F)).length = j := by rw [List.length_map, List.length_take]; omega
  rw [partW, List.getElem?_append_right (by omega), this, List.getElem?_drop]
  simp [h]
theorem partW_set {F : Int → Int} {l : List TWire} {j : Nat} (h : j < l.length) : (partW F l j).set j (mapW F l[j]) = partW F l (j + 1) := by
  have hl : ((l.take j).map (mapW F)).length = j := by rw [List.length_map, List.length_take]; omega
  unfold partW
  rw [List.set_append_right _ _ (by omega), hl, Nat.sub_self, List.drop_eq_getElem_cons h, List.set_cons_zero, List.take_succ_eq_append_getElem h, List.map_append, List.append_assoc]
  rfl

theorem setp_N {X : List TNode} {j k : Nat} {x : TNode} {v : Int} (h : X[j]? = some x) (hk : k < x.links.length) : setp (X.map cNode) [(j, 2)] k 0 (.v (.int .i64 v)) = (X.set j ⟨x.control, x.parent, x.links.set k v⟩).map cNode := by
  have h1 := setpI3 (y := x.links) (j := k) (v := v) hk
  have e1 : setp (X.map cNode) [(j, 2)] k 0 (.v (.int .i64 v)) = (X.map cNode).set j [tv x.control, tv x.parent, Tr.sl (setp (rI x.links) [] k 0 (.v (.int .i64 v)))] := by
    simp only [setp, List.getElem?_map, h, Option.map_some, cNode, List.getElem?_cons_succ, List.getElem?_cons_zero, List.set_cons_succ, List.set_cons_zero]
  rw [e1, h1, List.map_set]
  rfl

theorem sem_relinkedG (b : TBigraph) (e : Int) (o : List ByteArray) (tf : FuncId) (cps : List IV) (B : Sto) (T : Int × ByteArray → Int × ByteArray) (he0 : 0 ≤ b.edges) (hbd : bdBigraph 4294967290 b) (hb : b.edges ≤ 4294967296) (he : 0 ≤ e ∧ e ≤ 4294967296) (ho : o.length ≤ 4294967290)
    (hln : ∀ x ∈ b.nodes, ∀ l ∈ x.links, linkOK b l) (hlw : ∀ w ∈ b.inner, linkOK b w.link) (hT : ∀ l, linkOK b l → ∀ l' S', mens (Seen B S' l') cps → Sem Go.Proofs.Tryz.prog tf l' (oE (endB b l) :: cps) S' (oE (T (endB b l))) S')
    (lvl : Nat) (S : Sto) (hcp : mens (Seen B S lvl) cps) : Sem Go.Proofs.Tryz.prog fid_impl_Bigraph_relinked lvl [.ag ((cBigraph b).map .tr), iI e, .tr (.sl (rS o)), .fn tf cps] S (oBigraph (mapB b (relF b e (setS o) T) e (setS o))) S := by
  have hok := seen_low hcp
  refine sem_of_chk k_impl_Bigraph_relinked (by simp [oBigraph, low, men, mens]) ?_
  simp only [c_impl_Bigraph_relinked, cBigraph, EVA, ↓reduceIte, Nat.reduceEqDiff, Nat.reduceMul, reduceCtorEq, Nat.reduceAdd, Nat.reduceSub, Nat.reduceLeDiff, Nat.reduceLT, Int.reduceToNat, Int.reduceLE, Int.reduceLT, mens, men]
  refine kca_intro (sem_ownBigraph b hbd) ?_
  simp only [oBigraph, cBigraph, List.length_map, EVA, ↓reduceIte, Nat.reduceEqDiff, Nat.reduceMul, reduceCtorEq, Nat.reduceAdd, Nat.reduceSub, Nat.reduceLeDiff, Nat.reduceLT, Int.reduceToNat, Int.reduceLE, Int.reduceLT, mens, men]
  refine kca_intro (sem_sortedNames o ho) ?_
  obtain ⟨b1, b2, b3, b4, b5, b6, b7⟩ := hbd
  simp only [List.length_map, EVA, ↓reduceIte, Nat.reduceEqDiff, Nat.reduceMul, reduceCtorEq, Nat.reduceAdd, Nat.reduceSub, Nat.reduceLeDiff, Nat.reduceLT, Int.reduceToNat, Int.reduceLE, Int.reduceLT, mens, men]
  have hFdef : ∃ F, F = relF b e (setS o) T := ⟨_, rfl⟩
  obtain ⟨F, hF⟩ := hFdef
  rw [← hF]
  have hsl : (setS o).length ≤ 4294967296 := Nat.le_trans setG_le (by omega)
  have hc : ∀ (loc : List (Nat × Ob)) (l : Int), linkOK b l → lkO 224 loc = some (.bx [.fn tf cps]) → lkO 288 loc = some (.bx [iI b.roots, .hd (lvl, 576) [] 0 b.nodes.length none b.nodes.length, .hd (lvl, 577) [] 0 b.sites.length none b.sites.length, iI e, .hd (lvl, 672) [] 0 (setS o).length none (setS o).length, .hd (lvl, 579) [] 0 b.inner.length none b.inner.length]) → lkO 672 loc = some (.ar 1 (rS (setS o)) true (setS o).length 0) →
      ∀ l' S', mens (Seen2 (packS lvl loc S) S' l') [iI l, .ab (lvl, 224) 0, .ta (cBigraph b), .ta [tv e], .ab (lvl, 288) 0] → Sem Go.Proofs.Tryz.prog fid_impl_Bigraph_relinked_1 l' [iI l, .ab (lvl, 224) 0, .ta (cBigraph b), .ta [tv e], .ab (lvl, 288) 0] S' (iI (F l)) S' := fun loc l hl h1 h2 h3 l' S' hs => by
    simp only [mens, men] at hs
    obtain ⟨_, h224, _, _, h288, _⟩ := hs
    have sT := h224.1.2 _ (by rw [r_pack]; exact h1)
    have hc2 := h224.2 _ (by rw [r_pack]; exact h1)
    simp only [mens, men, and_true] at hc2
    have sO := h288.1.2 _ (by rw [r_pack]; exact h2)
    have hm := h288.2 _ (by rw [r_pack]; exact h2)
    simp only [mens, men] at hm
    obtain ⟨_, _, _, _, h672, _, _⟩ := hm
    have so := h672.2 _ (by rw [r_pack]; exact h3)
    rw [hF]
    exact sem_relinked_1 b l e (setS o) tf cps B T he0 hl (by omega) hb he hsl (hT l hl) l' S' (seen_next hcp hc2) (lvl, 224) (lvl, 288) (lvl, 672) _ _ _ _ _ _ _ _ h224.1.1 h288.1.1 h672.1 sT sO so
  refine wp_cnt (α := Unit) b.nodes.length (fun j _ => [(28, iI j)]) (fun j _ => [(576, .ar 3 ((part1 F b.nodes j).map cNode) true b.nodes.length 0)]) (fun _ _ => True) () (by simp only [hok, EVA, ↓reduceIte, Nat.reduceEqDiff, Nat.reduceMul, reduceCtorEq, Nat.reduceAdd, Nat.reduceSub, Nat.reduceLeDiff, Nat.reduceLT, Int.reduceToNat, Int.reduceLE, Int.reduceLT, mens, men]) (by (simp only [EVA, ↓reduceIte, Nat.reduceEqDiff, Nat.reduceMul, reduceCtorEq, Nat.reduceAdd, Nat.reduceSub, Nat.reduceLeDiff, Nat.reduceLT, Int.reduceToNat, Int.reduceLE, Int.reduceLT, mens, men]) <;> rfl) trivial ?_
  intro j _ hj _
  simp only [List.length_map, EVA, ↓reduceIte, Nat.reduceEqDiff, Nat.reduceMul, reduceCtorEq, Nat.reduceAdd, Nat.reduceSub, Nat.reduceLeDiff, Nat.reduceLT, Int.reduceToNat, Int.reduceLE, Int.reduceLT, mens, men]
  refine ite_of (fun hlt => ?_) (fun hge => ?_)
  · have hja : j < b.nodes.length := by omega
    have gp := part1_get (F := F) hja
    have ga : ((part1 F b.nodes j).map cNode)[j]? = some [Tr.v (.int .i64 b.nodes[j].control), Tr.v (.int .i64 b.nodes[j].parent), Tr.sl (rI b.nodes[j].links)] := by rw [List.getElem?_map, gp]; rfl
    have hkl : b.nodes[j].links.length ≤ 4294967290 := b2 _ (List.getElem_mem hja)
    simp only [ga, hja, List.length_map, EVA, ↓reduceIte, Nat.reduceEqDiff, Nat.reduceMul, reduceCtorEq, Nat.reduceAdd, Nat.reduceSub, Nat.reduceLeDiff, Nat.reduceLT, Int.reduceToNat, Int.reduceLE, Int.reduceLT, mens, men]
    have e0 : (part1 F b.nodes j).set j ⟨b.nodes[j].control, b.nodes[j].parent, partK F b.nodes[j].links 0⟩ = part1 F b.nodes j := by
      have : (⟨b.nodes[j].control, b.nodes[j].parent, partK F b.nodes[j].links 0⟩ : TNode) = b.nodes[j] := by simp [partK]
      rw [this]
      have hl : j < (part1 F b.nodes j).length := by rw [part1_len]; exact hja
      have e : b.nodes[j] = (part1 F b.nodes j)[j] := by
        have := gp
        rw [List.getElem?_eq_getElem hl] at this
        exact (Option.some.inj this).symm
      rw [e]
      exact List.set_getElem_self hl
    refine wp_cnt (α := Unit) b.nodes[j].links.length (fun k _ => [(35, iI k)]) (fun k _ => [(576, .ar 3 (((part1 F b.nodes j).set j ⟨b.nodes[j].control, b.nodes[j].parent, partK F b.nodes[j].links k⟩).map cNode) true b.nodes.length 0)]) (fun _ _ => True) () (by simp only [hok, EVA, ↓reduceIte, Nat.reduceEqDiff, Nat.reduceMul, reduceCtorEq, Nat.reduceAdd, Nat.reduceSub, Nat.reduceLeDiff, Nat.reduceLT, Int.reduceToNat, Int.reduceLE, Int.reduceLT, mens, men]) (by (simp only [e0, EVA, ↓reduceIte, Nat.reduceEqDiff, Nat.reduceMul, reduceCtorEq, Nat.reduceAdd, Nat.reduceSub, Nat.reduceLeDiff, Nat.reduceLT, Int.reduceToNat, Int.reduceLE, Int.reduceLT, mens, men]) <;> rfl) trivial ?_
    intro k _ hk _
    have gq : ((part1 F b.nodes j).set j ⟨b.nodes[j].control, b.nodes[j].parent, partK F b.nodes[j].links k⟩)[j]? = some ⟨b.nodes[j].control, b.nodes[j].parent, partK F b.nodes[j].links k⟩ := by
      rw [List.getElem?_set_self (by rw [part1_len]; exact hja)]
    have hgp : (((part1 F b.nodes j).set j ⟨b.nodes[j].control, b.nodes[j].parent, partK F b.nodes[j].links k⟩).map cNode)[j]? = some [Tr.v (.int .i64 b.nodes[j].control), Tr.v (.int .i64 b.nodes[j].parent), Tr.sl (rI (partK F b.nodes[j].links k))] := by rw [List.getElem?_map, gq]; rfl
    simp only [hgp, List.length_map, EVA, ↓reduceIte, Nat.reduceEqDiff, Nat.reduceMul, reduceCtorEq, Nat.reduceAdd, Nat.reduceSub, Nat.reduceLeDiff, Nat.reduceLT, Int.reduceToNat, Int.reduceLE, Int.reduceLT, mens, men]
    refine ite_of (fun hlt2 => ?_) (fun hge2 => ?_)
    · have hka : k < b.nodes[j].links.length := by omega
      have hpl := partK_len (F := F) (l := b.nodes[j].links) (k := k)
      have gk : (rI (partK F b.nodes[j].links k))[k]? = some [tv (g0 b.nodes[j].links k)] := by rw [rI_get (by omega), partK_get hka]
      have hlk : linkOK b (g0 b.nodes[j].links k) := hln _ (List.getElem_mem hja) _ (by simp [hka])
      have hsp := setp_N (v := F (g0 b.nodes[j].links k)) gq (k := k) (by show k < (partK F b.nodes[j].links k).length; omega)
      simp only [hgp, gk, hka, hpl, Nat.zero_add, List.length_map, EVA, ↓reduceIte, Nat.reduceEqDiff, Nat.reduceMul, reduceCtorEq, Nat.reduceAdd, Nat.reduceSub, Nat.reduceLeDiff, Nat.reduceLT, Int.reduceToNat, Int.reduceLE, Int.reduceLT, mens, men]
      refine kce_intro (hc _ (g0 b.nodes[j].links k) hlk rfl rfl rfl) ?_
      have hst : ((part1 F b.nodes j).set j ⟨b.nodes[j].control, b.nodes[j].parent, partK F b.nodes[j].links k⟩).set j ⟨b.nodes[j].control, b.nodes[j].parent, (partK F b.nodes[j].links k).set k (F (g0 b.nodes[j].links k))⟩ = (part1 F b.nodes j).set j ⟨b.nodes[j].control, b.nodes[j].parent, partK F b.nodes[j].links (k + 1)⟩ := by
        rw [List.set_set, partK_set hka]
      rw [hst] at hsp
      simp only [hgp, gk, hka, hpl, hsp, hok, Nat.zero_add, List.length_map, EVA, ↓reduceIte, Nat.reduceEqDiff, Nat.reduceMul, reduceCtorEq, Nat.reduceAdd, Nat.reduceSub, Nat.reduceLeDiff, Nat.reduceLT, Int.reduceToNat, Int.reduceLE, Int.reduceLT, mens, men]
      exact ⟨by rw [fits_i64]; omega, cntJ_intro () hka rfl trivial⟩
    · have : k = b.nodes[j].links.length := by omega
      subst this
      have hst : (part1 F b.nodes j).set j ⟨b.nodes[j].control, b.nodes[j].parent, partK F b.nodes[j].links b.nodes[j].links.length⟩ = part1 F b.nodes (j + 1) := by
        rw [← part1_set hja]
        congr 1
        simp [mapN, partK]
      rw [hst]
      simp only [hok, EVA, ↓reduceIte, Nat.reduceEqDiff, Nat.reduceMul, reduceCtorEq, Nat.reduceAdd, Nat.reduceSub, Nat.reduceLeDiff, Nat.reduceLT, Int.reduceToNat, Int.reduceLE, Int.reduceLT, mens, men]
      exact ⟨by rw [fits_i64]; omega, cntJ_intro () hja rfl trivial⟩
  · have : j = b.nodes.length := by omega
    subst this
    have hpn : part1 F b.nodes b.nodes.length = (mapB b F e (setS o)).nodes := by simp [part1, mapB, mapN]
    rw [hpn]
    refine wp_cnt (α := Unit) b.inner.length (fun j _ => [(52, iI j)]) (fun j _ => [(579, .ar 2 ((partW F b.inner j).map cWire) true b.inner.length 0)]) (fun _ _ => True) () (by simp only [hok, EVA, ↓reduceIte, Nat.reduceEqDiff, Nat.reduceMul, reduceCtorEq, Nat.reduceAdd, Nat.reduceSub, Nat.reduceLeDiff, Nat.reduceLT, Int.reduceToNat, Int.reduceLE, Int.reduceLT, mens, men]) (by (simp only [EVA, ↓reduceIte, Nat.reduceEqDiff, Nat.reduceMul, reduceCtorEq, Nat.reduceAdd, Nat.reduceSub, Nat.reduceLeDiff, Nat.reduceLT, Int.reduceToNat, Int.reduceLE, Int.reduceLT, mens, men]) <;> rfl) trivial ?_
    intro j _ hj _
    simp only [List.length_map, EVA, ↓reduceIte, Nat.reduceEqDiff, Nat.reduceMul, reduceCtorEq, Nat.reduceAdd, Nat.reduceSub, Nat.reduceLeDiff, Nat.reduceLT, Int.reduceToNat, Int.reduceLE, Int.reduceLT, mens, men]
    refine ite_of (fun hlt => ?_) (fun hge => ?_)
    · have hja : j < b.inner.length := by omega
      have gp := partW_get (F := F) hja
      have ga : ((partW F b.inner j).map cWire)[j]? = some [ts b.inner[j].name, tv b.inner[j].link] := by rw [List.getElem?_map, gp]; rfl
      have hsp : setp ((partW F b.inner j).map cWire) [] j 1 (.v (.int .i64 (F b.inner[j].link))) = (partW F b.inner (j + 1)).map cWire := by
        simp only [setp]
        rw [ga, ← partW_set hja, List.map_set]
        rfl
      have hlk : linkOK b b.inner[j].link := hlw _ (List.getElem_mem hja)
      simp only [ga, hja, Nat.zero_add, List.length_map, EVA, ↓reduceIte, Nat.reduceEqDiff, Nat.reduceMul, reduceCtorEq, Nat.reduceAdd, Nat.reduceSub, Nat.reduceLeDiff, Nat.reduceLT, Int.reduceToNat, Int.reduceLE, Int.reduceLT, mens, men]
      refine kce_intro (hc _ b.inner[j].link hlk rfl rfl rfl) ?_
      simp only [ga, hja, hsp, hok, Nat.zero_add, List.length_map, EVA, ↓reduceIte, Nat.reduceEqDiff, Nat.reduceMul, reduceCtorEq, Nat.reduceAdd, Nat.reduceSub, Nat.reduceLeDiff, Nat.reduceLT, Int.reduceToNat, Int.reduceLE, Int.reduceLT, mens, men]
      exact ⟨by rw [fits_i64]; omega, cntJ_intro () hja rfl trivial⟩
    · have : j = b.inner.length := by omega
      subst this
      have hpw : partW F b.inner b.inner.length = (mapB b F e (setS o)).inner := by simp [partW, mapB, mapW]
      rw [hpw]
      exact ⟨by simp [mapB], by simp [mapB], rfl⟩
theorem sem_relinked (b : TBigraph) (e : Int) (o : List ByteArray) (tf : FuncId) (cs : List (List Tr)) (T : Int × ByteArray → Int × ByteArray) (he0 : 0 ≤ b.edges) (hbd : bdBigraph 4294967290 b) (hb : b.edges ≤ 4294967296) (he : 0 ≤ e ∧ e ≤ 4294967296) (ho : o.length ≤ 4294967290)
    (hln : ∀ x ∈ b.nodes, ∀ l ∈ x.links, linkOK b l) (hlw : ∀ w ∈ b.inner, linkOK b w.link) (hT : ∀ l, linkOK b l → ∀ lvl S, Sem Go.Proofs.Tryz.prog tf lvl (oE (endB b l) :: cs.map IV.ta) S (oE (T (endB b l))) S)
    (lvl : Nat) (S : Sto) : Sem Go.Proofs.Tryz.prog fid_impl_Bigraph_relinked lvl [.ag ((cBigraph b).map .tr), iI e, .tr (.sl (rS o)), .fn tf (cs.map IV.ta)] S (oBigraph (mapB b (relF b e (setS o) T) e (setS o))) S :=
  sem_relinkedG b e o tf (cs.map IV.ta) (fun _ => none) T he0 hbd hb he ho hln hlw (fun l hl l' S' _ => hT l hl l' S') lvl S seen_ta
end Go.Fd

/-
  A NAME BECOMES AN EDGE, AN EDGE A NAME: THE PROGRAM'S SIDE. Own work.
-/
namespace Go.Fd
set_option maxRecDepth 20000

theorem sem_valid (sig : List TControl) (b : TBigraph) (hn : sig.length ≤ 4294967296) (hbs : ∀ y ∈ sig, bdControl 4294967296 y) (hb : bdBigraph 4294967290 b) (hf : ftBigraph b) (lvl : Nat) (S : Sto) : Sem Go.Proofs.Tryz.prog fid_impl_valid lvl [.tr (.sl (sig.map cControl)), .ag ((cBigraph b).map .tr)] S (.tu [oBigraph (@ite TBigraph (bigOK sig b) (Classical.propDecidable _) b ⟨0, [], [], 0, [], []⟩), iB (dc (bigOK sig b))]) S := by
  have hb2 : bdBigraph 4294967296 b := by
    obtain ⟨b1, b2, b3, b4, b5, b6, b7⟩ := hb
    exact ⟨by omega, fun y hy => Nat.le_trans (b2 y hy) (by omega), by omega, by omega, fun y hy => Nat.le_trans (b5 y hy) (by omega), by omega, fun y hy => Nat.le_trans (b7 y hy) (by omega)⟩
  refine sem_of_chk k_impl_valid (by simp [oBigraph, low, men, mens]) ?_
  simp only [c_impl_valid, cBigraph, EVA, ↓reduceIte, Nat.reduceEqDiff, Nat.reduceMul, reduceCtorEq, Nat.reduceAdd, Nat.reduceSub, Nat.reduceLeDiff, Nat.reduceLT, Int.reduceToNat, Int.reduceLE, Int.reduceLT, mens, men]
  refine kca_intro (sem_impl_IsBigraph sig b hn hbs hb2) ?_
  cases h : dc (bigOK sig b)
  · rw [if_neg (dc_not.1 h)]
    simp only [EVA, ↓reduceIte, Nat.reduceEqDiff, Nat.reduceMul, reduceCtorEq, Nat.reduceAdd, Nat.reduceSub, Nat.reduceLeDiff, Nat.reduceLT, Int.reduceToNat, Int.reduceLE, Int.reduceLT, mens, men]
    try rfl
  · rw [if_pos (dc_iff.1 h)]
    simp only [cBigraph, EVA, ↓reduceIte, Nat.reduceEqDiff, Nat.reduceMul, reduceCtorEq, Nat.reduceAdd, Nat.reduceSub, Nat.reduceLeDiff, Nat.reduceLT, Int.reduceToNat, Int.reduceLE, Int.reduceLT, mens, men]
    refine kca_intro (sem_ownBigraph b hb) ?_
    simp only [oBigraph, cBigraph, List.length_map, EVA, ↓reduceIte, Nat.reduceEqDiff, Nat.reduceMul, reduceCtorEq, Nat.reduceAdd, Nat.reduceSub, Nat.reduceLeDiff, Nat.reduceLT, Int.reduceToNat, Int.reduceLE, Int.reduceLT, mens, men]
    try rfl
end Go.Fd

/-
  A NAME BECOMES AN EDGE: BOTH SIDES. Own work.
-/
namespace Go.Fd
set_option maxRecDepth 20000

theorem rootsN_get {n : Nat} {k : Nat} (h : k < n) : g0 (rootsN 0 n) k = -1 - (k : Int) := by
  show (rootsN 0 n).getD k 0 = _
  rw [List.getD_eq_getElem?_getD, rootsN, List.getElem?_map, List.getElem?_range h]
  simp
theorem parG_id {b : TBigraph} {n : Nat} (hn : b.roots = n) {p : Int} (h : -b.roots ≤ p) : parG 0 (rootsN 0 n) p = p := by
  unfold parG
  split
  · rw [rootsN_get (by omega)]; omega
  · omega
theorem under_ge {sig : List TControl} {b : TBigraph} {p below : Int} (hr : 0 ≤ b.roots) (h : under sig b p below) : -b.roots ≤ p := by
  rcases h with h | h <;> omega
/-- What the answer is where there is none. -/
def emptyB : TBigraph := ⟨0, [], [], 0, [], []⟩
theorem sem_l2Give_y (sig : List TControl) (b : TBigraph) (hn : sig.length ≤ 4294967296) (hbs : ∀ y ∈ sig, bdControl 4294967296 y) (hb : bdBigraph 4294967296 b) (hf : ftBigraph b) (hG : bigOK sig b) (lvl : Nat) (S : Sto) : Sem Go.Proofs.Tryz.prog fid_spec_l2Give lvl [.tr (.sl (sig.map cControl)), .ag ((cBigraph b).map .tr)] S (.tu [.ag ((cBigraph b).map .tr), iB true]) S := by
  refine sem_of_chk k_spec_l2Give (by simp [cBigraph, low, men, mens]) ?_
  simp only [c_spec_l2Give, cBigraph, EVA, ↓reduceIte, Nat.reduceEqDiff, Nat.reduceMul, reduceCtorEq, Nat.reduceAdd, Nat.reduceSub, Nat.reduceLeDiff, Nat.reduceLT, Int.reduceToNat, Int.reduceLE, Int.reduceLT, mens, men]
  refine kca_intro (sem_l2Good sig b hn hbs hb hf) ?_
  rw [dc_true hG]
  simp only [cBigraph, EVA, ↓reduceIte, Nat.reduceEqDiff, Nat.reduceMul, reduceCtorEq, Nat.reduceAdd, Nat.reduceSub, Nat.reduceLeDiff, Nat.reduceLT, Int.reduceToNat, Int.reduceLE, Int.reduceLT, mens, men]
theorem sem_l2Give_n (sig : List TControl) (b : TBigraph) (hn : sig.length ≤ 4294967296) (hbs : ∀ y ∈ sig, bdControl 4294967296 y) (hb : bdBigraph 4294967296 b) (hf : ftBigraph b) (hG : ¬ bigOK sig b) (lvl : Nat) (S : Sto) : Sem Go.Proofs.Tryz.prog fid_spec_l2Give lvl [.tr (.sl (sig.map cControl)), .ag ((cBigraph b).map .tr)] S (.tu [oBigraph emptyB, iB false]) S := by
  refine sem_of_chk k_spec_l2Give (by simp [oBigraph, low, men, mens]) ?_
  simp only [c_spec_l2Give, cBigraph, EVA, ↓reduceIte, Nat.reduceEqDiff, Nat.reduceMul, reduceCtorEq, Nat.reduceAdd, Nat.reduceSub, Nat.reduceLeDiff, Nat.reduceLT, Int.reduceToNat, Int.reduceLE, Int.reduceLT, mens, men]
  refine kca_intro (sem_l2Good sig b hn hbs hb hf) ?_
  rw [dc_false hG]
  simp only [cBigraph, EVA, ↓reduceIte, Nat.reduceEqDiff, Nat.reduceMul, reduceCtorEq, Nat.reduceAdd, Nat.reduceSub, Nat.reduceLeDiff, Nat.reduceLT, Int.reduceToNat, Int.reduceLE, Int.reduceLT, mens, men]
  rfl

theorem names_size {l : List ByteArray} (h : namesOK l) {s : ByteArray} (hs : s ∈ l) : s.size ≤ 4 := by
  obtain ⟨i, hi, rfl⟩ := List.getElem_of_mem hs
  exact (h.1 i hi).1.2.2
end Go.Fd

/-
  A NAME BECOMES AN EDGE: BOTH ANSWERS. Own work.
-/
namespace Go.Fd
set_option maxRecDepth 20000

theorem bd_mono {a c : Nat} {b : TBigraph} (h : a ≤ c) (hb : bdBigraph a b) : bdBigraph c b := by
  obtain ⟨b1, b2, b3, b4, b5, b6, b7⟩ := hb
  exact ⟨by omega, fun y hy => Nat.le_trans (b2 y hy) h, by omega, by omega, fun y hy => Nat.le_trans (b5 y hy) h, by omega, fun y hy => Nat.le_trans (b7 y hy) h⟩
theorem bd_small {sig : List TControl} {b : TBigraph} (h : bigOK sig b) : bdBigraph 1000 b := by
  have hs := h.small
  have s1 := hs.nodes; have s2 := hs.sites; have s3 := hs.inner; have s4 := hs.outer
  refine ⟨by omega, fun y hy => hs.links y hy, by omega, by omega, fun y hy => ?_, by omega, fun w hw => ?_⟩
  · have := names_size h.outer hy; omega
  · have hn : w.name ∈ inn b := List.mem_map.2 ⟨w, hw, rfl⟩
    have := names_size h.inn hn
    simp only [bdWire]
    omega
theorem fromN_upto {n : Nat} : fromN 0 n = (upto n).map fun l => l := by simp [fromN, upto]
end Go.Fd

/-
  TWO NAMES BECOME ONE: THE PROGRAM'S SIDE; A COPY BY NUMBERING ANEW. Own work.
-/
namespace Go.Fd
set_option maxRecDepth 20000

theorem big_par {sig : List TControl} {b : TBigraph} (h : bigOK sig b) {x : TNode} (hx : x ∈ b.nodes) : x.parent < b.nodes.length ∧ ∀ l ∈ x.links, 0 ≤ l ∧ l < b.edges + b.outer.length := by
  obtain ⟨k, hk, rfl⟩ := List.getElem_of_mem hx
  have q := h.nodes k hk
  refine ⟨?_, fun l hl => ?_⟩
  · rcases q.par with p | p <;> omega
  · have := q.links l hl
    unfold linkOK at this
    omega
theorem big_site {sig : List TControl} {b : TBigraph} (h : bigOK sig b) {p : Int} (hp : p ∈ b.sites) : p < b.nodes.length := by
  rcases h.sites p hp with q | q <;> omega
end Go.Fd

/-
  NAMES IN ORDER, AND THEIR LINKS, AS THE REFERENCE HAS THEM. Own work.
-/
namespace Go.Fd
set_option maxRecDepth 20000

theorem put_pw {O : List ByteArray} {x : ByteArray} {k : Nat} (hp : O.Pairwise ltS) (h1 : ∀ y ∈ O.take k, ltS y x) (h2 : ∀ y ∈ O.drop k, ltS x y) : (O.take k ++ ([x] ++ O.drop k)).Pairwise ltS := by
  refine List.pairwise_append.2 ⟨hp.sublist (List.take_sublist ..), List.pairwise_append.2 ⟨List.pairwise_singleton .., hp.sublist (List.drop_sublist ..), fun a ha b hb => ?_⟩, fun a ha b hb => ?_⟩
  · rw [List.mem_singleton.1 ha]; exact h2 b hb
  · rcases List.mem_append.1 hb with hb | hb
    · rw [List.mem_singleton.1 hb]; exact h1 a ha
    · have q := hp
      rw [← List.take_append_drop k O] at q
      exact (List.pairwise_append.1 q).2.2 a ha b hb
theorem setS_pw {l : List ByteArray} : (setS l).Pairwise ltS := setG_pw ordsS
theorem setS_mem {l : List ByteArray} {c : ByteArray} : c ∈ setS l ↔ c ∈ l := setG_mem
theorem setS_len {l : List ByteArray} : (setS l).length ≤ l.length := setG_le
theorem setS_put {l : List ByteArray} {i k : Nat} (hi : i < l.length) (h1 : ∀ y ∈ (setS (l.take i)).take k, ltS y l[i]) (h2 : ∀ y ∈ (setS (l.take i)).drop k, ltS l[i] y) : setS (l.take (i + 1)) = (setS (l.take i)).take k ++ ([l[i]] ++ (setS (l.take i)).drop k) := by
  refine setG_eq ordsS (put_pw setS_pw h1 h2) fun c => ?_
  rw [List.take_succ_eq_append_getElem hi]
  have e : c ∈ setS (l.take i) ↔ c ∈ l.take i := setS_mem
  rw [← List.take_append_drop k (setS (l.take i)), List.mem_append] at e
  simp only [List.mem_append, ← e]
  constructor
  · rintro ((h | h) | h)
    · exact .inl h
    · exact .inr (.inr h)
    · exact .inr (.inl h)
  · rintro (h | h | h)
    · exact .inl (.inl h)
    · exact .inr h
    · exact .inl (.inr h)
theorem setS_keep {l : List ByteArray} {i : Nat} (hi : i < l.length) (h : l[i] ∈ setS (l.take i)) : setS (l.take (i + 1)) = setS (l.take i) := by
  refine setG_eq ordsS setS_pw fun c => ?_
  rw [List.take_succ_eq_append_getElem hi, List.mem_append, setS_mem]
  constructor
  · rintro (h2 | h2)
    · exact h2
    · rw [List.mem_singleton.1 h2]; exact setS_mem.1 h
  · exact .inl
theorem cutS0 {l : List ByteArray} {j : Nat} : cut (rS l) 0 (j - 0) = rS (l.take j) := by simp [cut, rS, List.map_take]
theorem cutS1 {l : List ByteArray} {j : Nat} : cut (rS l) j (l.length - j) = rS (l.drop j) := by
  simp only [cut, rS, ← List.map_drop]
  rw [← List.map_take, List.take_of_length_le (by rw [List.length_drop]; omega)]
theorem rS_put {a b : List ByteArray} {x : ByteArray} : rS a ++ [[Tr.v (Value.string x)]] ++ rS b = rS (a ++ ([x] ++ b)) := by simp [rS]
theorem rS_len {a : List ByteArray} : (rS a).length = a.length := by simp [rS]
theorem setS_nil0 : setS [] = [] := setG_eq ordsS List.Pairwise.nil fun c => Iff.rfl
theorem sem_l2Sorted (l : List ByteArray) (hl : l.length ≤ 4294967290) (lvl : Nat) (S : Sto) : Sem Go.Proofs.Tryz.prog fid_spec_l2Sorted lvl [.tr (.sl (rS l))] S (.ow 1 (rS (setS l)) true) S := by
  refine sem_of_chk k_spec_l2Sorted (by simp [low, men, mens]) ?_
  simp only [c_spec_l2Sorted, List.length_map, EVA, ↓reduceIte, Nat.reduceEqDiff, Nat.reduceMul, reduceCtorEq, Nat.reduceAdd, Nat.reduceSub, Nat.reduceLeDiff, Nat.reduceLT, Int.reduceToNat, Int.reduceLE, Int.reduceLT, mens, men]
  refine wp_cnt (α := Unit) l.length (fun j _ => [(3, .hd (lvl, 96) [] 0 (setS (l.take j)).length none (setS (l.take j)).length), (4, iI j)]) (fun j _ => [(96, .ar 1 (rS (setS (l.take j))) true (setS (l.take j)).length 0)]) (fun _ _ => True) () (by simp only [EVA, ↓reduceIte, Nat.reduceEqDiff, Nat.reduceMul, reduceCtorEq, Nat.reduceAdd, Nat.reduceSub, Nat.reduceLeDiff, Nat.reduceLT, Int.reduceToNat, Int.reduceLE, Int.reduceLT, mens, men]) (by rw [List.take_zero, setS_nil0]; (simp only [EVA, ↓reduceIte, Nat.reduceEqDiff, Nat.reduceMul, reduceCtorEq, Nat.reduceAdd, Nat.reduceSub, Nat.reduceLeDiff, Nat.reduceLT, Int.reduceToNat, Int.reduceLE, Int.reduceLT, mens, men]) <;> rfl) trivial ?_
  intro j _ hj _
  simp only [List.length_map, EVA, ↓reduceIte, Nat.reduceEqDiff, Nat.reduceMul, reduceCtorEq, Nat.reduceAdd, Nat.reduceSub, Nat.reduceLeDiff, Nat.reduceLT, Int.reduceToNat, Int.reduceLE, Int.reduceLT, mens, men]
  refine ite_of (fun hlt => ?_) (fun hge => ?_)
  · have hja : j < l.length := by omega
    have ga := getX (e0 := e0S) (c := fun n : ByteArray => [ts n]) hja
    rw [gx_eq hja] at ga
    obtain ⟨O, hO⟩ : ∃ O, O = setS (l.take j) := ⟨_, rfl⟩
    have hOl : O.length ≤ j := by rw [hO]; exact Nat.le_trans setS_len (by rw [List.length_take]; omega)
    have hOp : O.Pairwise ltS := by rw [hO]; exact setS_pw
    rw [← hO]
    refine wp_cnt (α := Unit) O.length (fun k _ => [(5, iI k)]) (fun _ _ => []) (fun k _ => ∀ y ∈ O.take k, ltS y l[j]) () (by simp only [EVA, ↓reduceIte, Nat.reduceEqDiff, Nat.reduceMul, reduceCtorEq, Nat.reduceAdd, Nat.reduceSub, Nat.reduceLeDiff, Nat.reduceLT, Int.reduceToNat, Int.reduceLE, Int.reduceLT, mens, men]) (by (simp only [EVA, ↓reduceIte, Nat.reduceEqDiff, Nat.reduceMul, reduceCtorEq, Nat.reduceAdd, Nat.reduceSub, Nat.reduceLeDiff, Nat.reduceLT, Int.reduceToNat, Int.reduceLE, Int.reduceLT, mens, men]) <;> rfl) (by simp) ?_
    intro k _ hk hK
    simp only [List.length_map, EVA, ↓reduceIte, Nat.reduceEqDiff, Nat.reduceMul, reduceCtorEq, Nat.reduceAdd, Nat.reduceSub, Nat.reduceLeDiff, Nat.reduceLT, Int.reduceToNat, Int.reduceLE, Int.reduceLT, mens, men]
    refine ite_of (fun hlt2 => ?_) (fun hge2 => ?_)
    · have hka : k < O.length := by omega
      have gk := getX (e0 := e0S) (c := fun n : ByteArray => [ts n]) hka
      rw [gx_eq hka] at gk
      have hm : min k O.length = k := by omega
      have hq1 : k + 1 + (O.length - k) = O.length + 1 := by omega
      have hq2 : max (max (max 0 k) (k + 1)) (O.length + 1) = O.length + 1 := by omega
      have hq3 : k + (O.length - k) = O.length := by omega
      simp only [ga, gk, hja, hka, hm, hq1, hq2, hq3, cutS0, cutS1, scrS, unrS, rS_put, rS_len, List.length_append, List.length_take, List.length_drop, List.length_map, EVA, ↓reduceIte, Nat.reduceEqDiff, Nat.reduceMul, reduceCtorEq, Nat.reduceAdd, Nat.reduceSub, Nat.reduceLeDiff, Nat.reduceLT, Int.reduceToNat, Int.reduceLE, Int.reduceLT, mens, men]
      refine ite_of (fun h1 => ?_) (fun h1 => ?_)
      · exact ⟨by rw [fits_i64]; omega, cntJ_intro () hka rfl fun y hy => by
          rw [List.take_succ_eq_append_getElem hka] at hy
          rcases List.mem_append.1 hy with hy | hy
          · exact hK y hy
          · rw [List.mem_singleton.1 hy]; exact h1⟩
      · have hkn : decide ((k : Int) = (O.length : Int)) = false := by simp; omega
        rw [if_pos hkn]
        refine ite_of (fun h2 => ?_) (fun h2 => ?_)
        · have h3 : ltS l[j] O[k] := by
            rcases ordsS.tri l[j] O[k] with q | q | q
            · exact q
            · exact absurd q.symm h2
            · exact absurd q h1
          have hput := setS_put (k := k) hja (by rw [← hO]; exact hK) (by
            rw [← hO]
            intro y hy
            rw [List.drop_eq_getElem_cons hka] at hy
            rcases List.mem_cons.1 hy with rfl | hy
            · exact h3
            · have q := hOp
              rw [← List.take_append_drop k O, List.drop_eq_getElem_cons hka] at q
              exact ordsS.tr _ _ _ h3 ((List.pairwise_cons.1 (List.pairwise_append.1 q).2.1).1 y hy))
          rw [← hO] at hput
          have hpl : (O.take k ++ ([l[j]] ++ O.drop k)).length = O.length + 1 := by
            simp only [List.length_append, List.length_take, List.length_drop, List.length_cons, List.length_nil]
            omega
          have hfit : fits .i64 ((j : Int) + 1) := by rw [fits_i64]; omega
          and_intros
          all_goals try first | omega | exact fun _ => trivial
          · exact hfit.1
          · exact hfit.2
          · exact cntJ_intro () hja (by rw [hput, hpl]; rfl) trivial
        · have hkeep := setS_keep hja (by rw [← hO, ← (Classical.not_not.1 h2)]; exact List.getElem_mem hka)
          rw [← hO] at hkeep
          exact ⟨by rw [fits_i64]; omega, cntJ_intro () hja (by rw [hkeep]; rfl) trivial⟩
    · have : k = O.length := by omega
      subst this
      have hq1 : O.length + 1 + (O.length - O.length) = O.length + 1 := by omega
      have hq2 : max (max (max 0 O.length) (O.length + 1)) (O.length + 1) = O.length + 1 := by omega
      simp only [ga, hja, hq1, hq2, cutS0, cutS1, scrS, unrS, rS_put, rS_len, List.length_append, List.length_take, List.length_drop, List.length_map, EVA, ↓reduceIte, Nat.reduceEqDiff, Nat.reduceMul, reduceCtorEq, Nat.reduceAdd, Nat.reduceSub, Nat.reduceLeDiff, Nat.reduceLT, Int.reduceToNat, Int.reduceLE, Int.reduceLT, mens, men]
      have hput := setS_put (k := O.length) hja (by rw [← hO]; exact hK) (by
        rw [← hO, List.drop_length]
        intro y hy
        cases hy)
      rw [← hO] at hput
      rw [List.take_length] at hput
      have hpl : (O ++ ([l[j]] ++ O.drop O.length)).length = O.length + 1 := by
        simp only [List.length_append, List.length_drop, List.length_cons, List.length_nil]
        omega
      have hfit : fits .i64 ((j : Int) + 1) := by rw [fits_i64]; omega
      and_intros
      all_goals try first | omega | exact fun _ => trivial
      · exact hfit.1
      · exact hfit.2
      · exact cntJ_intro () hja (by rw [hput, hpl]; rfl) trivial
  · have : j = l.length := by omega
    subst this
    rw [List.take_length]
theorem sem_l4Named (names : List ByteArray) (e : Int) (o : List ByteArray) (hn : names.length ≤ 4294967290) (he : -4294967296 ≤ e ∧ e ≤ 4294967296) (ho : o.length ≤ 4294967290) (lvl : Nat) (S : Sto) : Sem Go.Proofs.Tryz.prog fid_spec_l4Named lvl [.tr (.sl (rS names)), iI e, .tr (.sl (rS o))] S (.ow 1 (rI (names.map fun x => e + ixS o x)) true) S := by
  refine sem_of_chk k_spec_l4Named trivial ?_
  simp only [c_spec_l4Named, List.length_map, EVA, ↓reduceIte, Nat.reduceEqDiff, Nat.reduceMul, reduceCtorEq, Nat.reduceAdd, Nat.reduceSub, Nat.reduceLeDiff, Nat.reduceLT, Int.reduceToNat, Int.reduceLE, Int.reduceLT, mens, men]
  refine wp_cnt (α := Unit) names.length (fun j _ => [(7, .hd (lvl, 288) [] 0 j none j), (8, iI j)]) (fun j _ => [(288, .ar 1 (rI ((names.take j).map fun x => e + ixS o x)) true j 0)]) (fun _ _ => True) () (by simp only [EVA, ↓reduceIte, Nat.reduceEqDiff, Nat.reduceMul, reduceCtorEq, Nat.reduceAdd, Nat.reduceSub, Nat.reduceLeDiff, Nat.reduceLT, Int.reduceToNat, Int.reduceLE, Int.reduceLT, mens, men]) (by (simp only [EVA, ↓reduceIte, Nat.reduceEqDiff, Nat.reduceMul, reduceCtorEq, Nat.reduceAdd, Nat.reduceSub, Nat.reduceLeDiff, Nat.reduceLT, Int.reduceToNat, Int.reduceLE, Int.reduceLT, mens, men]) <;> rfl) trivial ?_
  intro j _ hj _
  simp only [List.length_map, EVA, ↓reduceIte, Nat.reduceEqDiff, Nat.reduceMul, reduceCtorEq, Nat.reduceAdd, Nat.reduceSub, Nat.reduceLeDiff, Nat.reduceLT, Int.reduceToNat, Int.reduceLE, Int.reduceLT, mens, men]
  refine ite_of (fun hlt => ?_) (fun hge => ?_)
  · have hja : j < names.length := by omega
    have ga := getX (e0 := e0S) (c := fun n : ByteArray => [ts n]) hja
    rw [gx_eq hja] at ga
    have hl2 : (names.take j).length = j := by rw [List.length_take]; omega
    have x1 := ixS_ge (l := o) (s := names[j])
    have x2 := ixS_le (l := o) (s := names[j])
    have hs : rI ((names.take j).map fun x => e + ixS o x) ++ [[tv (e + ixS o names[j])]] = rI ((names.take (j + 1)).map fun x => e + ixS o x) := by
      rw [List.take_succ_eq_append_getElem hja, List.map_append, rI_app]
      rfl
    simp only [ga, hja, List.length_map, EVA, ↓reduceIte, Nat.reduceEqDiff, Nat.reduceMul, reduceCtorEq, Nat.reduceAdd, Nat.reduceSub, Nat.reduceLeDiff, Nat.reduceLT, Int.reduceToNat, Int.reduceLE, Int.reduceLT, mens, men]
    refine kca_intro (sem_l2At o names[j] (by omega)) ?_
    simp only [ga, hja, hl2, hs, List.length_map, EVA, ↓reduceIte, Nat.reduceEqDiff, Nat.reduceMul, reduceCtorEq, Nat.reduceAdd, Nat.reduceSub, Nat.reduceLeDiff, Nat.reduceLT, Int.reduceToNat, Int.reduceLE, Int.reduceLT, mens, men]
    exact ⟨by rw [fits_i64]; omega, by omega, by rw [fits_i64]; omega, cntJ_intro () hja rfl trivial⟩
  · have : j = names.length := by omega
    subst this
    rw [List.take_length]
    exact ⟨by simp, rfl⟩
theorem endB_fit {b : TBigraph} {l : Int} (he : 0 ≤ b.edges ∧ b.edges ≤ 8) (hl : linkOK b l) : -4294967296 ≤ (endB b l).1 ∧ (endB b l).1 ≤ 4294967296 := by
  rcases link_cases hl with ⟨h0, h1⟩ | ⟨i, hi, rfl⟩
  · rw [endB_e h1]; dsimp only; omega
  · rw [endB_n hi]; dsimp only; omega
end Go.Fd

/-
  OpenName: BOTH ANSWERS OF THE REFERENCE. Own work.
-/
namespace Go.Fd
end Go.Fd

/-
  ONE BIGRAPH UNDER ANOTHER: WHAT COMPOSITION COMPUTES, IN PLAIN TERMS. Own work.
-/
namespace Go.Fd
set_option maxRecDepth 20000

/-- Two bigraphs become one. -/
def joinG (a b : TBigraph) (roots : Int) (ss : List Int) (o : List ByteArray) (FL FR mv : Int → Int) : TBigraph :=
  ⟨roots, a.nodes.map (mapN FL) ++ b.nodes.map (fun x => ⟨x.control, mv x.parent, x.links.map FR⟩), ss ++ b.sites.map mv, a.edges + b.edges, o, b.inner.map (mapW FR)⟩
theorem joinG_congr {sig : List TControl} {a b : TBigraph} (ha : bigOK sig a) (hb : bigOK sig b) {roots : Int} {ss : List Int} {o : List ByteArray} {FL FR mv FL' FR' mv' : Int → Int} (hL : ∀ l, linkOK a l → FL l = FL' l) (hR : ∀ l, linkOK b l → FR l = FR' l) (hm : ∀ p, -b.roots ≤ p → mv p = mv' p) :
    joinG a b roots ss o FL FR mv = joinG a b roots ss o FL' FR' mv' := by
  have hr := hb.roots.1
  unfold joinG
  have e1 : a.nodes.map (mapN FL) = a.nodes.map (mapN FL') := List.map_congr_left fun x hx => by
    obtain ⟨i, hi, rfl⟩ := List.getElem_of_mem hx
    unfold mapN
    congr 1
    exact List.map_congr_left fun l hl => hL l ((ha.nodes i hi).links l hl)
  have e2 : b.nodes.map (fun x => (⟨x.control, mv x.parent, x.links.map FR⟩ : TNode)) = b.nodes.map (fun x => ⟨x.control, mv' x.parent, x.links.map FR'⟩) := List.map_congr_left fun x hx => by
    obtain ⟨i, hi, rfl⟩ := List.getElem_of_mem hx
    have hn := hb.nodes i hi
    rw [hm _ (under_ge hr hn.par)]
    congr 1
    exact List.map_congr_left fun l hl => hR l (hn.links l hl)
  have e3 : b.sites.map mv = b.sites.map mv' := List.map_congr_left fun p hp => hm p (under_ge hr (hb.sites p hp))
  have e4 : b.inner.map (mapW FR) = b.inner.map (mapW FR') := List.map_congr_left fun w hw => by
    unfold mapW
    rw [hR _ (hb.inner w hw)]
  rw [e1, e2, e3, e4]

/-- The links of a, in the reference's table. -/
def tabA (a : TBigraph) (e : Int) (o : List ByteArray) : List Int := tabL a (fun l => l) fun x => e + ixS o x
def tabB (a b : TBigraph) (g : ByteArray → Int) : List Int := tabL b (fun l => a.edges + l) g
theorem fromN_map {c : Int} {n : Nat} : fromN c n = (upto n).map fun l => c + l := by simp [fromN, upto]
theorem tabA_eq {a : TBigraph} {e : Int} {o : List ByteArray} {n : Nat} (hn : a.edges = n) : fromN 0 n ++ a.outer.map (fun x => e + ixS o x) = tabA a e o := by
  rw [tabA, tabL, fromN_upto, hn, Int.toNat_natCast]
theorem tabB_eq {a b : TBigraph} {g : ByteArray → Int} {n : Nat} (hn : b.edges = n) : fromN a.edges n ++ b.outer.map g = tabB a b g := by
  rw [tabB, tabL, fromN_map, hn, Int.toNat_natCast]
/-- Nothing is done to the links of a. -/
theorem relA {sig : List TControl} {a : TBigraph} (ha : bigOK sig a) {e : Int} {o : List ByteArray} {l : Int} (hl : linkOK a l) : relF a e o (fun x => x) l = g0 (tabA a e o) l.toNat := by
  have he := ha.edges
  unfold relF tabA
  rcases link_cases hl with ⟨h0, h1⟩ | ⟨i, hi, rfl⟩
  · rw [tabL_e h0 h1, endB_e h1, if_pos rfl]
  · rw [tabL_n he.1 hi, endB_n hi, if_neg (names_ne ha.outer (List.getElem_mem hi))]
/-- What is done to the links of b. -/
def turnB (a : TBigraph) (nm : ByteArray → Int × ByteArray) (x : Int × ByteArray) : Int × ByteArray := if x.2 = e0S then (x.1 + a.edges, e0S) else nm x.2
theorem relB {sig : List TControl} {a b : TBigraph} (hb : bigOK sig b) {e : Int} {o : List ByteArray} {nm : ByteArray → Int × ByteArray} {g : ByteArray → Int} (hg : ∀ i (h : i < b.outer.length), (if (nm b.outer[i]).2 = e0S then (nm b.outer[i]).1 else e + ixS o (nm b.outer[i]).2) = g b.outer[i]) {l : Int} (hl : linkOK b l) : relF b e o (turnB a nm) l = g0 (tabB a b g) l.toNat := by
  have he := hb.edges
  unfold relF tabB
  rcases link_cases hl with ⟨h0, h1⟩ | ⟨i, hi, rfl⟩
  · rw [tabL_e h0 h1, endB_e h1]
    unfold turnB
    rw [if_pos rfl, if_pos rfl]
    omega
  · rw [tabL_n he.1 hi, endB_n hi]
    unfold turnB
    rw [if_neg (names_ne hb.outer (List.getElem_mem hi)), hg i hi]
/-- b under a, as the reference has it. -/
def underB (a b : TBigraph) (o : List ByteArray) (L R : List Int) : TBigraph := joinG a b a.roots [] o (fun l => g0 L l.toNat) (fun l => g0 R l.toNat) (parG a.nodes.length a.sites)
/-- How the program moves a parent. -/
def movP (a : TBigraph) (p : Int) : Int := if 0 ≤ p then p + a.nodes.length else g0 a.sites (-1 - p).toNat
theorem movP_eq {a : TBigraph} {p : Int} : movP a p = parG a.nodes.length a.sites p := by
  unfold movP parG
  by_cases h : 0 ≤ p
  · rw [if_pos h, if_neg (by omega)]
  · rw [if_neg h, if_pos (by omega)]
/-- b nested in a. -/
noncomputable def nestO (a b : TBigraph) : List ByteArray := setS (a.outer ++ b.outer)
noncomputable def nestB (a b : TBigraph) : TBigraph := underB a b (nestO a b) (tabA a (a.edges + b.edges) (nestO a b)) (tabB a b fun x => a.edges + b.edges + ixS (nestO a b) x)
theorem nest_eq {sig : List TControl} {a b : TBigraph} (ha : bigOK sig a) (hb : bigOK sig b) :
    joinG a b a.roots [] (nestO a b) (relF a (a.edges + b.edges) (nestO a b) fun x => x) (relF b (a.edges + b.edges) (nestO a b) (turnB a fun s => (0, s))) (movP a) = nestB a b :=
  joinG_congr ha hb (fun l hl => relA ha hl) (fun l hl => relB hb (fun i hi => if_neg (names_ne hb.outer (List.getElem_mem hi))) hl) fun p _ => movP_eq
end Go.Fd

/-
  ONE BIGRAPH UNDER ANOTHER, THE REFERENCE'S SIDE. Own work.
-/
namespace Go.Fd
set_option maxRecDepth 20000

theorem big_hP {sig : List TControl} {b : TBigraph} (h : bigOK sig b) {ps : List Int} (hp : (ps.length : Int) = b.roots) {p : Int} (h1 : -b.roots ≤ p) (h2 : p < b.nodes.length) : (-4294967296 ≤ p ∧ p ≤ 4294967296) ∧ (p < 0 → (-1 - p).toNat < ps.length) := by
  have hr := h.roots
  have hn := h.small.nodes
  exact ⟨by omega, fun h3 => by omega⟩
theorem big_hN {sig : List TControl} {b : TBigraph} (h : bigOK sig b) {ps ls : List Int} (hp : (ps.length : Int) = b.roots) (hl : (ls.length : Int) = b.edges + b.outer.length) : ∀ x ∈ b.nodes, x.links.length ≤ 4294967290 ∧ ((-4294967296 ≤ x.parent ∧ x.parent ≤ 4294967296) ∧ (x.parent < 0 → (-1 - x.parent).toNat < ps.length)) ∧ ∀ l ∈ x.links, 0 ≤ l ∧ l < ls.length := fun x hx => by
  have hl2 := h.small.links _ hx
  have hb := big_par h hx
  obtain ⟨k, hk, rfl⟩ := List.getElem_of_mem hx
  refine ⟨by omega, big_hP h hp (under_ge h.roots.1 (h.nodes k hk).par) hb.1, fun l hl3 => ?_⟩
  have := hb.2 l hl3
  omega
theorem big_hS {sig : List TControl} {b : TBigraph} (h : bigOK sig b) {ps : List Int} (hp : (ps.length : Int) = b.roots) : ∀ p ∈ b.sites, (-4294967296 ≤ p ∧ p ≤ 4294967296) ∧ (p < 0 → (-1 - p).toNat < ps.length) := fun p hq => big_hP h hp (under_ge h.roots.1 (h.sites p hq)) (big_site h hq)
theorem big_hW {sig : List TControl} {b : TBigraph} (h : bigOK sig b) {ls : List Int} (hl : (ls.length : Int) = b.edges + b.outer.length) : ∀ w ∈ b.inner, 0 ≤ w.link ∧ w.link < ls.length := fun w hw => by
  have := h.inner w hw
  unfold linkOK at this
  omega
/-- Roots that stay. -/
theorem nodes_id {sig : List TControl} {b : TBigraph} (h : bigOK sig b) {n : Nat} (hn : b.roots = n) {ls : List Int} : b.nodes.map (nodeL 0 (rootsN 0 n) ls) = b.nodes.map (mapN fun l => g0 ls l.toNat) := List.map_congr_left fun x hx => by
  obtain ⟨k, hk, rfl⟩ := List.getElem_of_mem hx
  unfold nodeL mapN
  rw [parG_id hn (under_ge h.roots.1 (h.nodes k hk).par)]
theorem sites_id {sig : List TControl} {b : TBigraph} (h : bigOK sig b) {n : Nat} (hn : b.roots = n) : b.sites.map (parG 0 (rootsN 0 n)) = b.sites := by
  have : b.sites.map (parG 0 (rootsN 0 n)) = b.sites.map id := List.map_congr_left fun p hp => parG_id hn (under_ge h.roots.1 (h.sites p hp))
  rw [this, List.map_id]
theorem unrN {l : List TNode} : UnR 3 (l.map cNode) = True := eq_true (UnR_map cNode (fun _ => rfl) l)
/-- A bigraph whose rows are its own; those of the nodes are not. -/
abbrev bigU (b : TBigraph) (u : Bool) : IV := .ag [iI b.roots, .ow 3 (b.nodes.map cNode) u, .ow 1 (rI b.sites) true, iI b.edges, .ow 1 (rS b.outer) true, .ow 2 (b.inner.map cWire) true]
theorem sem_l4Under (sig : List TControl) (a b : TBigraph) (o : List ByteArray) (above below : List Int) (ha : bigOK sig a) (hb : bigOK sig b) (hf : (a.sites.length : Int) = b.roots) (hA : above.length = a.outer.length) (hB : below.length = b.outer.length) (ho : o.length ≤ 4294967290) (L R : List Int) (hL : ∀ n : Nat, a.edges = n → fromN 0 n ++ above = L) (hR : ∀ n : Nat, b.edges = n → fromN a.edges n ++ below = R)
    (lvl : Nat) (S : Sto) : Sem Go.Proofs.Tryz.prog fid_spec_l4Under lvl [.ag ((cBigraph a).map .tr), .ag ((cBigraph b).map .tr), .tr (.sl (rS o)), tI above, tI below] S (bigU (underB a b o L R) false) S := by
  have ra := ha.roots; have rb := hb.roots
  have ea := ha.edges; have eb := hb.edges
  have sa := ha.small; have sb := hb.small
  have a1 := sa.nodes; have a2 := sa.sites; have a3 := sa.inner; have a4 := sa.outer
  have b1 := sb.nodes; have b2 := sb.sites; have b3 := sb.inner; have b4 := sb.outer
  obtain ⟨n, hn⟩ : ∃ n : Nat, a.roots = n := ⟨a.roots.toNat, by omega⟩
  obtain ⟨m, hm⟩ : ∃ m : Nat, a.edges = m := ⟨a.edges.toNat, by omega⟩
  obtain ⟨k, hk⟩ : ∃ k : Nat, b.edges = k := ⟨b.edges.toNat, by omega⟩
  have hLL := hL m hm
  have hRR := hR k hk
  have lenL : (L.length : Int) = a.edges + a.outer.length := by rw [← hLL, List.length_append, fromN_len, hA]; omega
  have lenR : (R.length : Int) = b.edges + b.outer.length := by rw [← hRR, List.length_append, fromN_len, hB]; omega
  have w1 : rI (fromN 0 m) ++ rI above = rI L := by rw [← rI_app, hLL]
  have w2 : m + above.length = L.length := by rw [← hLL, List.length_append, fromN_len]
  have w3 : rI (fromN (m : Int) k) ++ rI below = rI R := by rw [← rI_app, ← hm, hRR]
  have w4 : k + below.length = R.length := by rw [← hRR, List.length_append, fromN_len]
  have w5 : max m L.length = L.length := by omega
  have w6 : max k R.length = R.length := by omega
  have c1 : cut (rI L) 0 L.length = rI L := cut_all (by rw [List.length_map])
  have c2 : cut (rI R) 0 R.length = rI R := cut_all (by rw [List.length_map])
  refine sem_of_chk k_spec_l4Under (by simp [low, men, mens]) ?_
  simp only [c_spec_l4Under, cBigraph, hn, EVA, ↓reduceIte, Nat.reduceEqDiff, Nat.reduceMul, reduceCtorEq, Nat.reduceAdd, Nat.reduceSub, Nat.reduceLeDiff, Nat.reduceLT, Int.reduceToNat, Int.reduceLE, Int.reduceLT, mens, men]
  refine kca_intro (sem_l4Roots 0 n (by omega) (by omega)) ?_
  simp only [cBigraph, hm, List.length_map, EVA, ↓reduceIte, Nat.reduceEqDiff, Nat.reduceMul, reduceCtorEq, Nat.reduceAdd, Nat.reduceSub, Nat.reduceLeDiff, Nat.reduceLT, Int.reduceToNat, Int.reduceLE, Int.reduceLT, mens, men]
  refine kca_intro (sem_l4Edges 0 m (by omega) (by omega)) ?_
  simp only [cBigraph, scrI3, unrI3, hm, hk, w1, w2, w5, fromN_len, List.length_append, List.length_map, EVA, ↓reduceIte, Nat.reduceEqDiff, Nat.reduceMul, reduceCtorEq, Nat.reduceAdd, Nat.reduceSub, Nat.reduceLeDiff, Nat.reduceLT, Int.reduceToNat, Int.reduceLE, Int.reduceLT, mens, men]
  refine ⟨by omega, kca_intro (sem_l4Edges m k (by omega) (by omega)) ?_⟩
  simp only [cBigraph, scrI3, unrI3, hm, hk, w3, w4, w6, fromN_len, List.length_append, List.length_map, EVA, ↓reduceIte, Nat.reduceEqDiff, Nat.reduceMul, reduceCtorEq, Nat.reduceAdd, Nat.reduceSub, Nat.reduceLeDiff, Nat.reduceLT, Int.reduceToNat, Int.reduceLE, Int.reduceLT, mens, men]
  refine ⟨by omega, ?_⟩
  have q1 := sem_l4Sites a 0 (rootsN 0 n) (by omega) (by omega) (big_hS ha (by rw [rootsN_len]; omega))
  rw [sites_id ha hn] at q1
  simp only [cBigraph, hn, hm, List.map_cons, List.map_nil] at q1
  refine kca_intro q1 ?_
  simp only [cBigraph, hm, hk, c1, c2, List.length_map, EVA, ↓reduceIte, Nat.reduceEqDiff, Nat.reduceMul, reduceCtorEq, Nat.reduceAdd, Nat.reduceSub, Nat.reduceLeDiff, Nat.reduceLT, Int.reduceToNat, Int.reduceLE, Int.reduceLT, mens, men]
  have q2 := sem_l4Nodes a 0 (rootsN 0 n) L (by omega) (by omega) (big_hN ha (by rw [rootsN_len]; omega) lenL)
  rw [nodes_id ha hn] at q2
  simp only [cBigraph, hn, hm, List.map_cons, List.map_nil] at q2
  refine kca_intro q2 ?_
  simp only [cBigraph, hm, hk, c1, c2, List.length_map, EVA, ↓reduceIte, Nat.reduceEqDiff, Nat.reduceMul, reduceCtorEq, Nat.reduceAdd, Nat.reduceSub, Nat.reduceLeDiff, Nat.reduceLT, Int.reduceToNat, Int.reduceLE, Int.reduceLT, mens, men]
  have q3 := sem_l4Nodes b a.nodes.length a.sites R (by omega) (by omega) (big_hN hb hf lenR)
  simp only [cBigraph, hm, hk, List.map_cons, List.map_nil] at q3
  refine kca_intro q3 ?_
  simp only [cBigraph, unrN, hm, hk, c1, c2, List.length_append, List.length_map, EVA, ↓reduceIte, Nat.reduceEqDiff, Nat.reduceMul, reduceCtorEq, Nat.reduceAdd, Nat.reduceSub, Nat.reduceLeDiff, Nat.reduceLT, Int.reduceToNat, Int.reduceLE, Int.reduceLT, mens, men]
  refine ⟨by omega, ?_⟩
  have q4 := sem_l4Sites b a.nodes.length a.sites (by omega) (by omega) (big_hS hb hf)
  simp only [cBigraph, hm, hk, List.map_cons, List.map_nil] at q4
  refine kca_intro q4 ?_
  simp only [cBigraph, scrS, unrS, hm, hk, c1, c2, List.length_append, List.length_map, EVA, ↓reduceIte, Nat.reduceEqDiff, Nat.reduceMul, reduceCtorEq, Nat.reduceAdd, Nat.reduceSub, Nat.reduceLeDiff, Nat.reduceLT, Int.reduceToNat, Int.reduceLE, Int.reduceLT, mens, men]
  refine ⟨by rw [fits_i64]; omega, by omega, ?_⟩
  have q5 := sem_l4Wires b R (by omega) (big_hW hb lenR)
  simp only [cBigraph, hm, hk, List.map_cons, List.map_nil] at q5
  refine kca_intro q5 ?_
  simp only [cBigraph, scrS, unrS, hm, hk, c1, c2, List.length_append, List.length_map, EVA, ↓reduceIte, Nat.reduceEqDiff, Nat.reduceMul, reduceCtorEq, Nat.reduceAdd, Nat.reduceSub, Nat.reduceLeDiff, Nat.reduceLT, Int.reduceToNat, Int.reduceLE, Int.reduceLT, mens, men]
  simp only [bigU, underB, joinG, List.map_append, List.nil_append, hn, hm, hk]
  rfl
/-- A bigraph within its bounds, joined out of two. -/
theorem join_bd {sig : List TControl} {a b : TBigraph} (ha : bigOK sig a) (hb : bigOK sig b) {roots : Int} {ss : List Int} {o : List ByteArray} {FL FR mv : Int → Int} (hs : ss.length ≤ 4) (ho : o.length ≤ 100) (hos : ∀ y ∈ o, y.size ≤ 4294967290) : bdBigraph 4294967290 (joinG a b roots ss o FL FR mv) := by
  have sa := ha.small; have sb := hb.small
  have a1 := sa.nodes; have a2 := sa.sites; have a3 := sa.inner
  have b1 := sb.nodes; have b2 := sb.sites; have b3 := sb.inner
  refine ⟨by simp only [joinG, List.length_map, List.length_append]; omega, fun y hy => ?_, by simp only [joinG, List.length_map, List.length_append]; omega, by show o.length ≤ _; omega, hos, by simp only [joinG, List.length_map]; omega, fun y hy => ?_⟩
  · rcases List.mem_append.1 hy with hy | hy
    · obtain ⟨x, hx, rfl⟩ := List.mem_map.1 hy
      have := sa.links x hx
      simp only [bdNode, mapN, List.length_map]
      omega
    · obtain ⟨x, hx, rfl⟩ := List.mem_map.1 hy
      have := sb.links x hx
      simp only [bdNode, List.length_map]
      omega
  · obtain ⟨w, hw, rfl⟩ := List.mem_map.1 hy
    have hn : w.name ∈ inn b := List.mem_map.2 ⟨w, hw, rfl⟩
    have := names_size hb.inn hn
    simp only [bdWire, mapW]
    omega
/-- Numbers that are small. -/
def sm (n : Int) : Prop := -1000 ≤ n ∧ n ≤ 1000
theorem sm_fit {n : Int} (h : sm n) : fits .i64 n := by
  unfold sm at h
  rw [fits_i64]; omega
theorem join_ft {sig : List TControl} {a b : TBigraph} (ha : bigOK sig a) (hb : bigOK sig b) (fa : ftBigraph a) (fb : ftBigraph b) {roots : Int} {ss : List Int} {o : List ByteArray} {FL FR mv : Int → Int} (hr : sm roots) (hs : ∀ p ∈ ss, sm p) (hL : ∀ l, linkOK a l → sm (FL l)) (hR : ∀ l, linkOK b l → sm (FR l)) (hm : ∀ p, -b.roots ≤ p → p < b.nodes.length → sm (mv p)) : ftBigraph (joinG a b roots ss o FL FR mv) := by
  have ea := ha.edges; have eb := hb.edges
  refine ⟨sm_fit hr, fun y hy => ?_, fun p hp => ?_, by show fits .i64 (a.edges + b.edges); rw [fits_i64]; omega, fun y hy => ?_⟩
  · rcases List.mem_append.1 hy with hy | hy
    · obtain ⟨x, hx, rfl⟩ := List.mem_map.1 hy
      have hq := fa.2.1 x hx
      obtain ⟨i, hi, hie⟩ := List.getElem_of_mem hx
      refine ⟨hq.1, hq.2.1, fun l hl => ?_⟩
      obtain ⟨l0, hl0, rfl⟩ := List.mem_map.1 hl
      exact sm_fit (hL l0 ((ha.nodes i hi).links l0 (by rw [hie]; exact hl0)))
    · obtain ⟨x, hx, rfl⟩ := List.mem_map.1 hy
      have hq := fb.2.1 x hx
      have hbp := big_par hb hx
      obtain ⟨i, hi, hie⟩ := List.getElem_of_mem hx
      refine ⟨hq.1, sm_fit (hm _ (under_ge hb.roots.1 (by rw [← hie]; exact (hb.nodes i hi).par)) hbp.1), fun l hl => ?_⟩
      obtain ⟨l0, hl0, rfl⟩ := List.mem_map.1 hl
      exact sm_fit (hR l0 ((hb.nodes i hi).links l0 (by rw [hie]; exact hl0)))
  · rcases List.mem_append.1 hp with hp | hp
    · exact sm_fit (hs p hp)
    · obtain ⟨x, hx, rfl⟩ := List.mem_map.1 hp
      exact sm_fit (hm _ (under_ge hb.roots.1 (hb.sites x hx)) (big_site hb hx))
  · obtain ⟨w, hw, rfl⟩ := List.mem_map.1 hy
    exact sm_fit (hR _ (hb.inner w hw))
theorem par_sm {sig : List TControl} {a b : TBigraph} (ha : bigOK sig a) (hb : bigOK sig b) (hf : (a.sites.length : Int) = b.roots) {p : Int} (h1 : -b.roots ≤ p) (h2 : p < b.nodes.length) : sm (parG a.nodes.length a.sites p) := by
  have a1 := ha.small.nodes; have b1 := hb.small.nodes
  have ra := ha.roots
  unfold parG sm
  split
  · rename_i h
    have hl : (-1 - p).toNat < a.sites.length := by omega
    have hg : g0 a.sites (-1 - p).toNat = a.sites[(-1 - p).toNat] := by simp [hl]
    have hm := List.getElem_mem hl
    have := under_ge ra.1 (ha.sites _ hm)
    have := big_site ha hm
    rw [hg]; omega
  · omega
theorem tabA_sm {sig : List TControl} {a : TBigraph} (ha : bigOK sig a) {e : Int} (he : 0 ≤ e ∧ e ≤ 100) {o : List ByteArray} (ho : o.length ≤ 100) {l : Int} (hl : linkOK a l) : sm (g0 (tabA a e o) l.toNat) := by
  have ea := ha.edges
  unfold tabA sm
  rcases link_cases hl with ⟨h0, h1⟩ | ⟨i, hi, rfl⟩
  · rw [tabL_e h0 h1]; omega
  · rw [tabL_n ea.1 hi]
    have := ixS_ge (l := o) (s := a.outer[i])
    have := ixS_le (l := o) (s := a.outer[i])
    omega
theorem tabB_sm {sig : List TControl} {a b : TBigraph} (ha : bigOK sig a) (hb : bigOK sig b) {g : ByteArray → Int} (hg : ∀ x ∈ b.outer, sm (g x)) {l : Int} (hl : linkOK b l) : sm (g0 (tabB a b g) l.toNat) := by
  have ea := ha.edges; have eb := hb.edges
  unfold tabB
  rcases link_cases hl with ⟨h0, h1⟩ | ⟨i, hi, rfl⟩
  · rw [tabL_e h0 h1]
    unfold sm
    omega
  · rw [tabL_n eb.1 hi]
    exact hg _ (List.getElem_mem hi)
end Go.Fd

/-
  ONE BIGRAPH UNDER ANOTHER, THE PROGRAM'S SIDE: joined. Own work.
-/
namespace Go.Fd
set_option maxRecDepth 20000

theorem sem_joined_1 (e : Int × ByteArray) (lvl : Nat) (S : Sto) : Sem Go.Proofs.Tryz.prog fid_impl_joined_1 lvl [oE e] S (oE e) S := by
  refine sem_of_chk k_impl_joined_1 (by simp [low, men, mens]) ?_
  simp only [c_impl_joined_1, EVA, ↓reduceIte, Nat.reduceEqDiff, Nat.reduceMul, reduceCtorEq, Nat.reduceAdd, Nat.reduceSub, Nat.reduceLeDiff, Nat.reduceLT, Int.reduceToNat, Int.reduceLE, Int.reduceLT, mens, men]
theorem sem_joined_2 (a : TBigraph) (e : Int × ByteArray) (nf : FuncId) (cs : List (List Tr)) (nm : ByteArray → Int × ByteArray) (h1 : -4294967296 ≤ e.1 ∧ e.1 ≤ 4294967296) (h2 : 0 ≤ a.edges ∧ a.edges ≤ 4294967296) (hN : e.2 ≠ e0S → ∀ lvl S, Sem Go.Proofs.Tryz.prog nf lvl (iS e.2 :: cs.map IV.ta) S (oE (nm e.2)) S)
    (lvl : Nat) (S : Sto) (id : Oid) (hid : id.1 < lvl) (sN : S id = some (.bx [.fn nf (cs.map IV.ta)])) : Sem Go.Proofs.Tryz.prog fid_impl_joined_2 lvl [oE e, .ta (cBigraph a), .ab id 0] S (oE (turnB a nm e)) S := by
  have hne : id.1 ≠ lvl := by omega
  refine sem_of_chk k_impl_joined_2 (by simp [low, men, mens]) ?_
  simp only [c_impl_joined_2, cBigraph, r_packo hne, sN, EVA, ↓reduceIte, Nat.reduceEqDiff, Nat.reduceMul, reduceCtorEq, Nat.reduceAdd, Nat.reduceSub, Nat.reduceLeDiff, Nat.reduceLT, Int.reduceToNat, Int.reduceLE, Int.reduceLT, mens, men]
  unfold turnB
  by_cases h : e.2 = e0S
  · rw [if_pos h]
    have h' : e.2 = { data := #[] } := h
    simp only [h', EVA, ↓reduceIte, Nat.reduceEqDiff, Nat.reduceMul, reduceCtorEq, Nat.reduceAdd, Nat.reduceSub, Nat.reduceLeDiff, Nat.reduceLT, Int.reduceToNat, Int.reduceLE, Int.reduceLT, mens, men]
    rw [fits_i64]; omega
  · rw [if_neg h]
    have h' : ¬ e.2 = { data := #[] } := h
    simp only [h', r_packo hne, sN, r_snta, r_mensta, EVA, ↓reduceIte, Nat.reduceEqDiff, Nat.reduceMul, reduceCtorEq, Nat.reduceAdd, Nat.reduceSub, Nat.reduceLeDiff, Nat.reduceLT, Int.reduceToNat, Int.reduceLE, Int.reduceLT, mens, men]
    refine kca_intro (hN h) ?_
    simp only [EVA, ↓reduceIte, Nat.reduceEqDiff, Nat.reduceMul, reduceCtorEq, Nat.reduceAdd, Nat.reduceSub, Nat.reduceLeDiff, Nat.reduceLT, Int.reduceToNat, Int.reduceLE, Int.reduceLT, mens, men]
/-- A parent is moved. -/
def movG (n : Int) (pl : Int → Int) (p : Int) : Int := if 0 ≤ p then p + n else pl p
theorem sem_moved (a : TBigraph) (p : Int) (pf : FuncId) (cs : List (List Tr)) (pl : Int → Int) (hn : a.nodes.length ≤ 4294967296) (hp : -4294967296 ≤ p ∧ p ≤ 4294967296) (hP : p < 0 → ∀ lvl S, Sem Go.Proofs.Tryz.prog pf lvl (iI p :: cs.map IV.ta) S (iI (pl p)) S) (lvl : Nat) (S : Sto) : Sem Go.Proofs.Tryz.prog fid_impl_moved lvl [.ag ((cBigraph a).map .tr), iI p, .fn pf (cs.map IV.ta)] S (iI (movG a.nodes.length pl p)) S := by
  refine sem_of_chk k_impl_moved trivial ?_
  simp only [c_impl_moved, cBigraph, List.length_map, EVA, ↓reduceIte, Nat.reduceEqDiff, Nat.reduceMul, reduceCtorEq, Nat.reduceAdd, Nat.reduceSub, Nat.reduceLeDiff, Nat.reduceLT, Int.reduceToNat, Int.reduceLE, Int.reduceLT, mens, men]
  unfold movG
  by_cases h : 0 ≤ p
  · rw [if_pos h]
    simp only [h, List.length_map, EVA, ↓reduceIte, Nat.reduceEqDiff, Nat.reduceMul, reduceCtorEq, Nat.reduceAdd, Nat.reduceSub, Nat.reduceLeDiff, Nat.reduceLT, Int.reduceToNat, Int.reduceLE, Int.reduceLT, mens, men]
    rw [fits_i64]; omega
  · rw [if_neg h]
    simp only [h, r_snta, r_mensta, EVA, ↓reduceIte, Nat.reduceEqDiff, Nat.reduceMul, reduceCtorEq, Nat.reduceAdd, Nat.reduceSub, Nat.reduceLeDiff, Nat.reduceLT, Int.reduceToNat, Int.reduceLE, Int.reduceLT, mens, men]
    refine kca_intro (hP (by omega)) ?_
    simp only [EVA, ↓reduceIte, Nat.reduceEqDiff, Nat.reduceMul, reduceCtorEq, Nat.reduceAdd, Nat.reduceSub, Nat.reduceLeDiff, Nat.reduceLT, Int.reduceToNat, Int.reduceLE, Int.reduceLT, mens, men]
theorem r_scrta {id : Oid} : ∀ {l : List (List Tr)}, scrs id (l.map IV.ta) = l.map IV.ta
  | [] => rfl
  | x :: r => by
    simp only [List.map_cons, scrs, scr]
    rw [r_scrta]
theorem sem_joined (sig : List TControl) (a b : TBigraph) (ha : bigOK sig a) (hb : bigOK sig b) (roots : Int) (ss : List Int) (hss : ss.length ≤ 1000) (o : List ByteArray) (ho : o.length ≤ 1000) (pf : FuncId) (ps : List (List Tr)) (pl : Int → Int) (nf : FuncId) (ns : List (List Tr)) (nm : ByteArray → Int × ByteArray)
    (hP : ∀ p, -b.roots ≤ p → p < 0 → ∀ lvl S, Sem Go.Proofs.Tryz.prog pf lvl (iI p :: ps.map IV.ta) S (iI (pl p)) S) (hN : ∀ x ∈ b.outer, ∀ lvl S, Sem Go.Proofs.Tryz.prog nf lvl (iS x :: ns.map IV.ta) S (oE (nm x)) S)
    (lvl : Nat) (S : Sto) : Sem Go.Proofs.Tryz.prog fid_impl_joined lvl [.ag ((cBigraph a).map .tr), .ag ((cBigraph b).map .tr), iI roots, tI ss, .tr (.sl (rS o)), .fn pf (ps.map IV.ta), .fn nf (ns.map IV.ta)] S
      (.ag [iI roots, .ow 3 ((joinG a b roots ss (setS o) (relF a (a.edges + b.edges) (setS o) fun x => x) (relF b (a.edges + b.edges) (setS o) (turnB a nm)) (movG a.nodes.length pl)).nodes.map cNode) (decide (b.nodes.length = 0)), .ow 1 (rI (ss ++ b.sites.map (movG a.nodes.length pl))) true, iI (a.edges + b.edges), .ow 1 (rS (setS o)) true, .tr (.sl ((b.inner.map (mapW (relF b (a.edges + b.edges) (setS o) (turnB a nm)))).map cWire))]) S := by
  have ra := ha.roots; have rb := hb.roots
  have ea := ha.edges; have eb := hb.edges
  have sa := ha.small; have sb := hb.small
  have a1 := sa.nodes; have a2 := sa.sites; have a3 := sa.inner; have a4 := sa.outer
  have b1 := sb.nodes; have b2 := sb.sites; have b3 := sb.inner; have b4 := sb.outer
  have lnA : ∀ x ∈ a.nodes, ∀ l ∈ x.links, linkOK a l := fun x hx l hl => by
    obtain ⟨k, hk, rfl⟩ := List.getElem_of_mem hx
    exact (ha.nodes k hk).links l hl
  have lnB : ∀ x ∈ b.nodes, ∀ l ∈ x.links, linkOK b l := fun x hx l hl => by
    obtain ⟨k, hk, rfl⟩ := List.getElem_of_mem hx
    exact (hb.nodes k hk).links l hl
  obtain ⟨FL, hFL⟩ : ∃ F, F = relF a (a.edges + b.edges) (setS o) fun x => x := ⟨_, rfl⟩
  obtain ⟨FR, hFR⟩ : ∃ F, F = relF b (a.edges + b.edges) (setS o) (turnB a nm) := ⟨_, rfl⟩
  obtain ⟨mv, hmv⟩ : ∃ F, F = movG a.nodes.length pl := ⟨_, rfl⟩
  have q1 := sem_relinked a (a.edges + b.edges) o fid_impl_joined_1 [] (fun x => x) ea.1 (bd_mono (by omega) (bd_small ha)) (by omega) (by omega) (by omega) lnA ha.inner (fun l _ lvl S => sem_joined_1 (endB a l) lvl S)
  have hR : ∀ loc : List (Nat × Ob), lkO 416 loc = some (.bx [.fn nf (ns.map IV.ta)]) → ∀ l' S', mens (Seen2 (packS lvl loc S) S' l') [.ag ((cBigraph b).map .tr), iI (a.edges + b.edges), .tr (.sl (rS o)), .fn fid_impl_joined_2 [.ta (cBigraph a), .ab (lvl, 416) 0]] → Sem Go.Proofs.Tryz.prog fid_impl_Bigraph_relinked l' [.ag ((cBigraph b).map .tr), iI (a.edges + b.edges), .tr (.sl (rS o)), .fn fid_impl_joined_2 [.ta (cBigraph a), .ab (lvl, 416) 0]] S' (oBigraph (mapB b FR (a.edges + b.edges) (setS o))) S' := fun loc h1 l' S' hs => by
    have hc : mens (Seen (packS lvl loc S) S' l') [.ta (cBigraph a), .ab (lvl, 416) 0] := by
      have h2 := (seen_weak hs).2.2.2.1
      simp only [men] at h2
      exact h2
    rw [hFR]
    exact sem_relinkedG b (a.edges + b.edges) o fid_impl_joined_2 _ (packS lvl loc S) (turnB a nm) eb.1 (bd_mono (by omega) (bd_small hb)) (by omega) (by omega) (by omega) lnB hb.inner (fun l hl l'' S'' hs2 => by
      have hz := hs2.2.1
      simp only [men] at hz
      refine sem_joined_2 a (endB b l) nf ns nm (endB_fit eb hl) (by omega) (fun hne => hN _ ?_) l'' S'' (lvl, 416) hz.1 (hz.2 _ (by rw [r_pack]; exact h1))
      rcases link_cases hl with ⟨g0, g1⟩ | ⟨i, hi, rfl⟩
      · rw [endB_e g1] at hne
        exact absurd rfl hne
      · rw [endB_n hi]
        exact List.getElem_mem hi) l' S' hc
  rw [← hFL] at q1
  rw [← hFL, ← hFR, ← hmv]
  simp only [cBigraph, oBigraph, mapB, List.map_cons, List.map_nil] at q1 hR
  obtain ⟨N1, hN1⟩ : ∃ l, l = a.nodes.map (fun x => ({ control := x.control, parent := x.parent, links := List.map FL x.links } : TNode)) := ⟨_, rfl⟩
  obtain ⟨B1, hB1⟩ : ∃ l, l = b.nodes.map (fun x => ({ control := x.control, parent := x.parent, links := List.map FR x.links } : TNode)) := ⟨_, rfl⟩
  obtain ⟨B2, hB2⟩ : ∃ l, l = b.nodes.map (fun x => ({ control := x.control, parent := mv x.parent, links := List.map FR x.links } : TNode)) := ⟨_, rfl⟩
  have lN1 : N1.length = a.nodes.length := by rw [hN1, List.length_map]
  have lB1 : B1.length = b.nodes.length := by rw [hB1, List.length_map]
  have lB2 : B2.length = b.nodes.length := by rw [hB2, List.length_map]
  simp only [← hN1] at q1
  have hW1 : b.inner.map (fun w => ({ name := w.name, link := FR w.link } : TWire)) = b.inner.map (mapW FR) := rfl
  simp only [← hB1, hW1] at hR
  refine sem_of_chk k_impl_joined (by simp [low, men, mens]) ?_
  simp only [c_impl_joined, cBigraph, EVA, ↓reduceIte, Nat.reduceEqDiff, Nat.reduceMul, reduceCtorEq, Nat.reduceAdd, Nat.reduceSub, Nat.reduceLeDiff, Nat.reduceLT, Int.reduceToNat, Int.reduceLE, Int.reduceLT, mens, men]
  refine ⟨by rw [fits_i64]; omega, ?_⟩
  refine kca_intro q1 ?_
  simp only [lN1, List.length_map, EVA, ↓reduceIte, Nat.reduceEqDiff, Nat.reduceMul, reduceCtorEq, Nat.reduceAdd, Nat.reduceSub, Nat.reduceLeDiff, Nat.reduceLT, Int.reduceToNat, Int.reduceLE, Int.reduceLT, mens, men]
  refine kce_intro (hR _ rfl) ?_
  simp only [lN1, lB1, List.length_map, EVA, ↓reduceIte, Nat.reduceEqDiff, Nat.reduceMul, reduceCtorEq, Nat.reduceAdd, Nat.reduceSub, Nat.reduceLeDiff, Nat.reduceLT, Int.reduceToNat, Int.reduceLE, Int.reduceLT, mens, men]
  refine kca_intro (sem_CloneI3 ss (by omega)) ?_
  simp only [lN1, lB1, List.length_map, EVA, ↓reduceIte, Nat.reduceEqDiff, Nat.reduceMul, reduceCtorEq, Nat.reduceAdd, Nat.reduceSub, Nat.reduceLeDiff, Nat.reduceLT, Int.reduceToNat, Int.reduceLE, Int.reduceLT, mens, men]
  refine wp_cnt (α := Unit) b.nodes.length (fun j _ => [(51, iI j)]) (fun j _ => [(576, .bx [iI roots, .hd (lvl, 992) [] 0 (a.nodes.length + j) none (a.nodes.length + j), .hd (lvl, 1312) [] 0 ss.length none ss.length, iI (a.edges + b.edges), .hd (lvl, 994) [] 0 (setS o).length none (setS o).length, .tr (.sl ((b.inner.map (mapW FR)).map cWire))]), (992, .ar 3 ((N1 ++ B2.take j).map cNode) (decide (j = 0)) (a.nodes.length + j) 0)]) (fun _ _ => True) () (by simp only [r_okmsta, EVA, ↓reduceIte, Nat.reduceEqDiff, Nat.reduceMul, reduceCtorEq, Nat.reduceAdd, Nat.reduceSub, Nat.reduceLeDiff, Nat.reduceLT, Int.reduceToNat, Int.reduceLE, Int.reduceLT, mens, men]) (by simp only [hN1, EVA, ↓reduceIte, Nat.reduceEqDiff, Nat.reduceMul, reduceCtorEq, Nat.reduceAdd, Nat.reduceSub, Nat.reduceLeDiff, Nat.reduceLT, Int.reduceToNat, Int.reduceLE, Int.reduceLT, mens, men]; simp) trivial ?_
  intro j _ hj _
  simp only [List.length_map, EVA, ↓reduceIte, Nat.reduceEqDiff, Nat.reduceMul, reduceCtorEq, Nat.reduceAdd, Nat.reduceSub, Nat.reduceLeDiff, Nat.reduceLT, Int.reduceToNat, Int.reduceLE, Int.reduceLT, mens, men]
  refine ite_of (fun hlt => ?_) (fun hge => ?_)
  · have hja : j < b.nodes.length := by omega
    have ga : (B1.map cNode)[j]? = some [tv b.nodes[j].control, tv b.nodes[j].parent, Tr.sl (rI (b.nodes[j].links.map FR))] := by
      rw [hB1, List.getElem?_map, List.getElem?_map, List.getElem?_eq_getElem hja]
      rfl
    have hx := List.getElem_mem hja
    have hbp := big_par hb hx
    have hge := under_ge rb.1 (hb.nodes j hja).par
    simp only [ga, hja, r_okmsta, r_snta, r_mensta, List.length_map, EVA, ↓reduceIte, Nat.reduceEqDiff, Nat.reduceMul, reduceCtorEq, Nat.reduceAdd, Nat.reduceSub, Nat.reduceLeDiff, Nat.reduceLT, Int.reduceToNat, Int.reduceLE, Int.reduceLT, mens, men]
    have q3 := sem_moved a b.nodes[j].parent pf ps pl (by omega) (by omega) (fun h => hP _ hge h)
    rw [← hmv] at q3
    simp only [cBigraph, List.map_cons, List.map_nil] at q3
    refine kca_intro q3 ?_
    have hs : (N1 ++ B2.take j).map cNode ++ [[tv b.nodes[j].control, tv (mv b.nodes[j].parent), Tr.sl (rI (b.nodes[j].links.map FR))]] = (N1 ++ B2.take (j + 1)).map cNode := by
      have hj2 : j < B2.length := by omega
      rw [List.take_succ_eq_append_getElem hj2, ← List.append_assoc, List.map_append (l₂ := [B2[j]])]
      simp [hB2, cNode]
    have hl : (N1 ++ B2.take j).length = a.nodes.length + j := by rw [List.length_append, List.length_take]; omega
    simp only [hs, hl, Bool.and_false, r_scrta, r_okmsta, r_snta, r_mensta, List.length_map, EVA, ↓reduceIte, Nat.reduceEqDiff, Nat.reduceMul, reduceCtorEq, Nat.reduceAdd, Nat.reduceSub, Nat.reduceLeDiff, Nat.reduceLT, Int.reduceToNat, Int.reduceLE, Int.reduceLT, mens, men]
    exact ⟨by omega, by rw [fits_i64]; omega, cntJ_intro () hja rfl trivial⟩
  · have : j = b.nodes.length := by omega
    subst this
    rw [show B2.take b.nodes.length = B2 from by rw [← lB2, List.take_length]]
    refine wp_cnt (α := Unit) b.sites.length (fun j _ => [(71, iI j)]) (fun j _ => [(576, .bx [iI roots, .hd (lvl, 992) [] 0 (a.nodes.length + b.nodes.length) none (a.nodes.length + b.nodes.length), .hd (lvl, 1312) [] 0 (ss.length + j) none (ss.length + j), iI (a.edges + b.edges), .hd (lvl, 994) [] 0 (setS o).length none (setS o).length, .tr (.sl ((b.inner.map (mapW FR)).map cWire))]), (1312, .ar 1 (rI (ss ++ (b.sites.take j).map mv)) true (ss.length + j) 0)]) (fun _ _ => True) () (by simp only [r_okmsta, EVA, ↓reduceIte, Nat.reduceEqDiff, Nat.reduceMul, reduceCtorEq, Nat.reduceAdd, Nat.reduceSub, Nat.reduceLeDiff, Nat.reduceLT, Int.reduceToNat, Int.reduceLE, Int.reduceLT, mens, men]) (by simp only [EVA, ↓reduceIte, Nat.reduceEqDiff, Nat.reduceMul, reduceCtorEq, Nat.reduceAdd, Nat.reduceSub, Nat.reduceLeDiff, Nat.reduceLT, Int.reduceToNat, Int.reduceLE, Int.reduceLT, mens, men]; simp) trivial ?_
    intro j _ hj _
    simp only [List.length_map, EVA, ↓reduceIte, Nat.reduceEqDiff, Nat.reduceMul, reduceCtorEq, Nat.reduceAdd, Nat.reduceSub, Nat.reduceLeDiff, Nat.reduceLT, Int.reduceToNat, Int.reduceLE, Int.reduceLT, mens, men]
    refine ite_of (fun hlt => ?_) (fun hge => ?_)
    · have hja : j < b.sites.length := by omega
      have ga := rI_get hja
      have e0 : g0 b.sites j = b.sites[j] := by simp [hja]
      have hx := List.getElem_mem hja
      have hbp := big_site hb hx
      have hge := under_ge rb.1 (hb.sites _ hx)
      rw [← e0] at hbp hge
      simp only [ga, hja, r_okmsta, r_snta, r_mensta, List.length_map, EVA, ↓reduceIte, Nat.reduceEqDiff, Nat.reduceMul, reduceCtorEq, Nat.reduceAdd, Nat.reduceSub, Nat.reduceLeDiff, Nat.reduceLT, Int.reduceToNat, Int.reduceLE, Int.reduceLT, mens, men]
      have q3 := sem_moved a (g0 b.sites j) pf ps pl (by omega) (by omega) (fun h => hP _ hge h)
      rw [← hmv] at q3
      simp only [cBigraph, List.map_cons, List.map_nil] at q3
      refine kca_intro q3 ?_
      have hs : rI (ss ++ (b.sites.take j).map mv) ++ [[tv (mv (g0 b.sites j))]] = rI (ss ++ (b.sites.take (j + 1)).map mv) := by
        rw [List.take_succ_eq_append_getElem hja, List.map_append, ← List.append_assoc, rI_app (ss ++ _), e0]
        rfl
      have hl : (ss ++ (b.sites.take j).map mv).length = ss.length + j := by rw [List.length_append, List.length_map, List.length_take]; omega
      simp only [hs, hl, Bool.and_false, r_scrta, r_okmsta, r_snta, r_mensta, List.length_map, EVA, ↓reduceIte, Nat.reduceEqDiff, Nat.reduceMul, reduceCtorEq, Nat.reduceAdd, Nat.reduceSub, Nat.reduceLeDiff, Nat.reduceLT, Int.reduceToNat, Int.reduceLE, Int.reduceLT, mens, men]
      exact ⟨by omega, by rw [fits_i64]; omega, cntJ_intro () hja rfl trivial⟩
    · have : j = b.sites.length := by omega
      subst this
      rw [List.take_length]
      exact ⟨by rw [List.length_append]; omega, by rw [List.length_append, List.length_map], by rw [hN1, hB2]; rfl⟩
/-- What joined gives: the inner names are another's. -/
abbrev jndB (b : TBigraph) (u : Bool) : IV := .ag [iI b.roots, .ow 3 (b.nodes.map cNode) u, .ow 1 (rI b.sites) true, iI b.edges, .ow 1 (rS b.outer) true, .tr (.sl (b.inner.map cWire))]
theorem sem_joinedX (sig : List TControl) (a b X : TBigraph) (ha : bigOK sig a) (hb : bigOK sig b) (roots : Int) (ss : List Int) (hss : ss.length ≤ 1000) (o : List ByteArray) (ho : o.length ≤ 1000) (pf : FuncId) (ps : List (List Tr)) (pl : Int → Int) (nf : FuncId) (ns : List (List Tr)) (nm : ByteArray → Int × ByteArray)
    (hP : ∀ p, -b.roots ≤ p → p < 0 → ∀ lvl S, Sem Go.Proofs.Tryz.prog pf lvl (iI p :: ps.map IV.ta) S (iI (pl p)) S) (hN : ∀ x ∈ b.outer, ∀ lvl S, Sem Go.Proofs.Tryz.prog nf lvl (iS x :: ns.map IV.ta) S (oE (nm x)) S)
    (hX : joinG a b roots ss (setS o) (relF a (a.edges + b.edges) (setS o) fun x => x) (relF b (a.edges + b.edges) (setS o) (turnB a nm)) (movG a.nodes.length pl) = X)
    (lvl : Nat) (S : Sto) : Sem Go.Proofs.Tryz.prog fid_impl_joined lvl [.ag ((cBigraph a).map .tr), .ag ((cBigraph b).map .tr), iI roots, tI ss, .tr (.sl (rS o)), .fn pf (ps.map IV.ta), .fn nf (ns.map IV.ta)] S (jndB X (decide (b.nodes.length = 0))) S := by
  subst hX
  exact sem_joined sig a b ha hb roots ss hss o ho pf ps pl nf ns nm hP hN lvl S
end Go.Fd

/-
  A BIGRAPH AFTER ANOTHER: BOTH SIDES. Own work.
-/
namespace Go.Fd
set_option maxRecDepth 20000

theorem movG_eq {a : TBigraph} : movG a.nodes.length (fun p => g0 a.sites (-1 - p).toNat) = movP a := rfl
theorem tabs_sm {sig : List TControl} {a b : TBigraph} (ha : bigOK sig a) (hb : bigOK sig b) {o : List ByteArray} (ho : o.length ≤ 100) : (∀ l, linkOK a l → sm (g0 (tabA a (a.edges + b.edges) o) l.toNat)) := fun l hl => by
  have ea := ha.edges; have eb := hb.edges
  exact tabA_sm ha (by omega) ho hl
end Go.Fd

/-
  A BIGRAPH NESTED IN ANOTHER: BOTH SIDES. Own work.
-/
namespace Go.Fd
set_option maxRecDepth 20000

theorem sem_NestBigraphs_1 (a : TBigraph) (p : Int) (hp : -4294967296 ≤ p ∧ p < 0) (hl : (-1 - p).toNat < a.sites.length) (lvl : Nat) (S : Sto) : Sem Go.Proofs.Tryz.prog fid_impl_NestBigraphs_1 lvl [iI p, .ta (cBigraph a)] S (iI (g0 a.sites (-1 - p).toNat)) S := by
  obtain ⟨k, hk⟩ : ∃ k : Nat, -1 - p = k := ⟨(-1 - p).toNat, by omega⟩
  rw [hk] at hl ⊢
  rw [Int.toNat_natCast] at hl ⊢
  have ga := rI_get hl
  refine sem_of_chk k_impl_NestBigraphs_1 trivial ?_
  simp only [c_impl_NestBigraphs_1, cBigraph, hk, ga, hl, EVA, ↓reduceIte, Nat.reduceEqDiff, Nat.reduceMul, reduceCtorEq, Nat.reduceAdd, Nat.reduceSub, Nat.reduceLeDiff, Nat.reduceLT, Int.reduceToNat, Int.reduceLE, Int.reduceLT, mens, men]
  rw [fits_i64]; omega
theorem sem_asName (s : ByteArray) (lvl : Nat) (S : Sto) : Sem Go.Proofs.Tryz.prog fid_impl_asName lvl [iS s] S (oE (0, s)) S := by
  refine sem_of_chk k_impl_asName (by simp [low, men, mens]) ?_
  simp only [c_impl_asName, EVA, ↓reduceIte, Nat.reduceEqDiff, Nat.reduceMul, reduceCtorEq, Nat.reduceAdd, Nat.reduceSub, Nat.reduceLeDiff, Nat.reduceLT, Int.reduceToNat, Int.reduceLE, Int.reduceLT, mens, men]
theorem sem_GrowS (n : Nat) (hn : n ≤ 4294967296) (lvl : Nat) (S : Sto) : Sem Go.Proofs.Tryz.prog fid_slices_Grow_string_string lvl [.cs [], iI n] S (.ow 1 [] true) S := by
  refine sem_of_chk k_slices_Grow_string_string trivial ?_
  simp only [c_slices_Grow_string_string, EVA, ↓reduceIte, Nat.reduceEqDiff, Nat.reduceMul, reduceCtorEq, Nat.reduceAdd, Nat.reduceSub, Nat.reduceLeDiff, Nat.reduceLT, Int.reduceToNat, Int.reduceLE, Int.reduceLT, mens, men]
  rw [if_neg (by omega)]
  refine ⟨by rw [fits_i64]; omega, by rw [fits_i64]; omega, ?_⟩
  split
  · exact ⟨fun e he => by (cases he), by omega, by omega, by omega⟩
  · trivial
theorem flat_take {α : Type} {ls : List (List α)} {j : Nat} (h : j < ls.length) : (ls.take (j + 1)).flatten = (ls.take j).flatten ++ ls[j] := by
  rw [List.take_succ_eq_append_getElem h, List.flatten_append]
  simp
theorem flat_take_le {α : Type} {ls : List (List α)} {j : Nat} : ((ls.take j).flatten).length ≤ ls.flatten.length := by
  have h := congrArg (fun l => l.flatten.length) (List.take_append_drop j ls)
  simp only [List.flatten_append, List.length_append] at h
  omega

abbrev eSS (l : List ByteArray) : List Tr := [Tr.sl (rS l)]
theorem sem_ConcatS (ls : List (List ByteArray)) (hl : ls.length ≤ 4294967296) (ht : ls.flatten.length ≤ 4294967296) (lvl : Nat) (S : Sto) : Sem Go.Proofs.Tryz.prog fid_slices_Concat_string_string lvl [.tr (.sl (ls.map eSS))] S (.ow 1 (rS ls.flatten) true) S := by
  refine sem_of_chk k_slices_Concat_string_string trivial ?_
  simp only [c_slices_Concat_string_string, List.length_map, EVA, ↓reduceIte, Nat.reduceEqDiff, Nat.reduceMul, reduceCtorEq, Nat.reduceAdd, Nat.reduceSub, Nat.reduceLeDiff, Nat.reduceLT, Int.reduceToNat, Int.reduceLE, Int.reduceLT, mens, men]
  refine wp_cnt (α := Unit) ls.length (fun j _ => [(3, iI ((ls.take j).flatten).length), (11, iI j)]) (fun _ _ => []) (fun _ _ => True) () (by simp only [EVA, ↓reduceIte, Nat.reduceEqDiff, Nat.reduceMul, reduceCtorEq, Nat.reduceAdd, Nat.reduceSub, Nat.reduceLeDiff, Nat.reduceLT, Int.reduceToNat, Int.reduceLE, Int.reduceLT, mens, men]) (by (simp only [EVA, ↓reduceIte, Nat.reduceEqDiff, Nat.reduceMul, reduceCtorEq, Nat.reduceAdd, Nat.reduceSub, Nat.reduceLeDiff, Nat.reduceLT, Int.reduceToNat, Int.reduceLE, Int.reduceLT, mens, men]) <;> rfl) trivial ?_
  intro j _ hj _
  simp only [List.length_map, EVA, ↓reduceIte, Nat.reduceEqDiff, Nat.reduceMul, reduceCtorEq, Nat.reduceAdd, Nat.reduceSub, Nat.reduceLeDiff, Nat.reduceLT, Int.reduceToNat, Int.reduceLE, Int.reduceLT, mens, men]
  refine ite_of (fun hlt => ?_) (fun hge => ?_)
  · have hja : j < ls.length := by omega
    have ga := getA (c := eSS) hja
    have h1 := flat_take (ls := ls) hja
    have h2 := flat_take_le (ls := ls) (j := j + 1)
    rw [h1, List.length_append] at h2
    simp only [ga, List.length_map, EVA, ↓reduceIte, Nat.reduceEqDiff, Nat.reduceMul, reduceCtorEq, Nat.reduceAdd, Nat.reduceSub, Nat.reduceLeDiff, Nat.reduceLT, Int.reduceToNat, Int.reduceLE, Int.reduceLT, mens, men]
    refine ⟨by rw [fits_i64]; omega, ?_⟩
    rw [if_neg (by omega)]
    exact ⟨by rw [fits_i64]; omega, cntJ_intro () hja (by rw [h1, List.length_append]; rfl) trivial⟩
  · have : j = ls.length := by omega
    subst this
    rw [List.take_length]
    refine kcs_intro (sem_GrowS _ ht _ _) ?_
    simp only [List.length_map, EVA, ↓reduceIte, Nat.reduceEqDiff, Nat.reduceMul, reduceCtorEq, Nat.reduceAdd, Nat.reduceSub, Nat.reduceLeDiff, Nat.reduceLT, Int.reduceToNat, Int.reduceLE, Int.reduceLT, mens, men]
    refine wp_cnt (α := Unit) ls.length (fun j _ => [(6, .hd (lvl, 768) [] 0 ((ls.take j).flatten).length none ((ls.take j).flatten).length), (27, iI j)]) (fun j _ => [(768, .ar 1 (rS (ls.take j).flatten) true ((ls.take j).flatten).length 0)]) (fun _ _ => True) () (by simp only [EVA, ↓reduceIte, Nat.reduceEqDiff, Nat.reduceMul, reduceCtorEq, Nat.reduceAdd, Nat.reduceSub, Nat.reduceLeDiff, Nat.reduceLT, Int.reduceToNat, Int.reduceLE, Int.reduceLT, mens, men]) (by (simp only [EVA, ↓reduceIte, Nat.reduceEqDiff, Nat.reduceMul, reduceCtorEq, Nat.reduceAdd, Nat.reduceSub, Nat.reduceLeDiff, Nat.reduceLT, Int.reduceToNat, Int.reduceLE, Int.reduceLT, mens, men]) <;> rfl) trivial ?_
    intro j _ hj _
    simp only [List.length_map, EVA, ↓reduceIte, Nat.reduceEqDiff, Nat.reduceMul, reduceCtorEq, Nat.reduceAdd, Nat.reduceSub, Nat.reduceLeDiff, Nat.reduceLT, Int.reduceToNat, Int.reduceLE, Int.reduceLT, mens, men]
    refine ite_of (fun hlt2 => ?_) (fun hge2 => ?_)
    · have hja : j < ls.length := by omega
      have ga := getA (c := eSS) hja
      have h1 := flat_take (ls := ls) hja
      have h2 := flat_take_le (ls := ls) (j := j + 1)
      rw [h1, List.length_append] at h2
      simp only [ga, scrS, unrS, List.length_map, EVA, ↓reduceIte, Nat.reduceEqDiff, Nat.reduceMul, reduceCtorEq, Nat.reduceAdd, Nat.reduceSub, Nat.reduceLeDiff, Nat.reduceLT, Int.reduceToNat, Int.reduceLE, Int.reduceLT, mens, men]
      exact ⟨by omega, by rw [fits_i64]; omega, cntJ_intro () hja (by rw [h1, List.length_append, rS_app, Nat.max_eq_right (Nat.le_add_right _ _)]; rfl) trivial⟩
    · have : j = ls.length := by omega
      subst this
      rw [List.take_length]
theorem nestO_len {a b : TBigraph} : (nestO a b).length ≤ a.outer.length + b.outer.length := Nat.le_trans setS_len (by rw [List.length_append]; omega)
def nestG (sig : List TControl) (a b : TBigraph) : Prop := bigOK sig a ∧ bigOK sig b ∧ a.inner.length = 0 ∧ (a.sites.length : Int) = b.roots
def nestOK (sig : List TControl) (a b : TBigraph) : Prop := nestG sig a b ∧ bigOK sig (nestB a b)
theorem nest_bd {sig : List TControl} {a b : TBigraph} (ha : bigOK sig a) (hb : bigOK sig b) : bdBigraph 4294967290 (nestB a b) := by
  have a4 := ha.small.outer; have b4 := hb.small.outer
  have hl := nestO_len (a := a) (b := b)
  refine join_bd ha hb (by simp) (by omega) fun y hy => ?_
  rcases List.mem_append.1 (setS_mem.1 hy) with hy | hy
  · have := names_size ha.outer hy; omega
  · have := names_size hb.outer hy; omega
theorem nest_ft {sig : List TControl} {a b : TBigraph} (ha : bigOK sig a) (hb : bigOK sig b) (hf : (a.sites.length : Int) = b.roots) (fa : ftBigraph a) (fb : ftBigraph b) : ftBigraph (nestB a b) := by
  have a4 := ha.small.outer; have b4 := hb.small.outer
  have ea := ha.edges; have eb := hb.edges
  have ra := ha.roots
  have hl := nestO_len (a := a) (b := b)
  refine join_ft ha hb fa fb (by unfold sm; omega) (by simp) (fun l hl2 => tabs_sm ha hb (by omega) l hl2) (fun l hl2 => tabB_sm ha hb (fun x hx => ?_) hl2) fun p h1 h2 => par_sm ha hb hf h1 h2
  have := ixS_ge (l := nestO a b) (s := x)
  have := ixS_le (l := nestO a b) (s := x)
  unfold sm
  omega
open Classical in
noncomputable def r0_NestBigraphs (sig : List TControl) (a b : TBigraph) : TBigraph := if nestOK sig a b then nestB a b else emptyB
noncomputable def r1_NestBigraphs (sig : List TControl) (a b : TBigraph) : Bool := dc (nestOK sig a b)
theorem sem_l4Nest (sig : List TControl) (a b : TBigraph) (ha : bigOK sig a) (hb : bigOK sig b) (hf : (a.sites.length : Int) = b.roots) (lvl : Nat) (S : Sto) : Sem Go.Proofs.Tryz.prog fid_spec_l4Nest lvl [.ag ((cBigraph a).map .tr), .ag ((cBigraph b).map .tr)] S (bigU (nestB a b) false) S := by
  have ea := ha.edges; have eb := hb.edges
  have sa := ha.small; have sb := hb.small
  have a4 := sa.outer; have b4 := sb.outer
  have hol := nestO_len (a := a) (b := b)
  refine sem_of_chk k_spec_l4Nest (by simp [low, men, mens]) ?_
  simp only [c_spec_l4Nest, cBigraph, scrS, unrS, Nat.zero_max, List.length_map, EVA, ↓reduceIte, Nat.reduceEqDiff, Nat.reduceMul, reduceCtorEq, Nat.reduceAdd, Nat.reduceSub, Nat.reduceLeDiff, Nat.reduceLT, Int.reduceToNat, Int.reduceLE, Int.reduceLT, mens, men]
  rw [show cut (rS a.outer ++ rS b.outer) 0 (a.outer.length + b.outer.length) = rS (a.outer ++ b.outer) from by
    rw [← rS_app]
    exact cut_all (by simp [rS])]
  refine ⟨by omega, by omega, by simp [rS], kca_intro (sem_l2Sorted (a.outer ++ b.outer) (by rw [List.length_append]; omega)) ?_⟩
  rw [show setS (a.outer ++ b.outer) = nestO a b from rfl]
  simp only [cBigraph, List.length_map, EVA, ↓reduceIte, Nat.reduceEqDiff, Nat.reduceMul, reduceCtorEq, Nat.reduceAdd, Nat.reduceSub, Nat.reduceLeDiff, Nat.reduceLT, Int.reduceToNat, Int.reduceLE, Int.reduceLT, mens, men]
  refine ⟨by rw [fits_i64]; omega, ?_⟩
  refine kca_intro (sem_l4Named a.outer (a.edges + b.edges) (nestO a b) (by omega) (by omega) (by omega)) ?_
  simp only [cBigraph, List.length_map, EVA, ↓reduceIte, Nat.reduceEqDiff, Nat.reduceMul, reduceCtorEq, Nat.reduceAdd, Nat.reduceSub, Nat.reduceLeDiff, Nat.reduceLT, Int.reduceToNat, Int.reduceLE, Int.reduceLT, mens, men]
  refine kca_intro (sem_l4Named b.outer (a.edges + b.edges) (nestO a b) (by omega) (by omega) (by omega)) ?_
  simp only [cBigraph, List.length_map, EVA, ↓reduceIte, Nat.reduceEqDiff, Nat.reduceMul, reduceCtorEq, Nat.reduceAdd, Nat.reduceSub, Nat.reduceLeDiff, Nat.reduceLT, Int.reduceToNat, Int.reduceLE, Int.reduceLT, mens, men]
  have q := sem_l4Under sig a b (nestO a b) (a.outer.map fun x => a.edges + b.edges + ixS (nestO a b) x) (b.outer.map fun x => a.edges + b.edges + ixS (nestO a b) x) ha hb hf (by simp) (by simp) (by omega) (tabA a (a.edges + b.edges) (nestO a b)) (tabB a b fun x => a.edges + b.edges + ixS (nestO a b) x) (fun n hn => tabA_eq hn) (fun n hn => tabB_eq hn)
  rw [show underB a b (nestO a b) (tabA a (a.edges + b.edges) (nestO a b)) (tabB a b fun x => a.edges + b.edges + ixS (nestO a b) x) = nestB a b from rfl] at q
  simp only [cBigraph, bigU, List.map_cons, List.map_nil] at q
  refine kca_intro q ?_
  simp only [cBigraph, List.length_map, EVA, ↓reduceIte, Nat.reduceEqDiff, Nat.reduceMul, reduceCtorEq, Nat.reduceAdd, Nat.reduceSub, Nat.reduceLeDiff, Nat.reduceLT, Int.reduceToNat, Int.reduceLE, Int.reduceLT, mens, men]
theorem sem_impl_NestBigraphs (sig : List TControl) (a b : TBigraph) (hn : sig.length ≤ 4294967296) (hbs : ∀ y ∈ sig, bdControl 4294967296 y) (hba : bdBigraph 4294967296 a) (hbb : bdBigraph 4294967296 b) (fa : ftBigraph a) (fb : ftBigraph b) (lvl : Nat) (S : Sto) : Sem Go.Proofs.Tryz.prog fid_impl_NestBigraphs lvl [.tr (.sl (sig.map cControl)), .ag ((cBigraph a).map .tr), .ag ((cBigraph b).map .tr)] S (.tu [oBigraph (r0_NestBigraphs sig a b), iB (r1_NestBigraphs sig a b)]) S := by
  refine sem_of_chk k_impl_NestBigraphs (by simp [oBigraph, low, men, mens]) ?_
  simp only [c_impl_NestBigraphs, cBigraph, EVA, ↓reduceIte, Nat.reduceEqDiff, Nat.reduceMul, reduceCtorEq, Nat.reduceAdd, Nat.reduceSub, Nat.reduceLeDiff, Nat.reduceLT, Int.reduceToNat, Int.reduceLE, Int.reduceLT, mens, men]
  have i1 := sem_impl_IsBigraph sig a hn hbs hba
  have i2 := sem_impl_IsBigraph sig b hn hbs hbb
  simp only [cBigraph, List.map_cons, List.map_nil] at i1 i2
  refine kca_intro i1 ?_
  unfold r0_NestBigraphs r1_NestBigraphs
  cases h1 : dc (bigOK sig a)
  · have hno : ¬ nestOK sig a b := fun g => dc_not.1 h1 g.1.1
    rw [if_neg hno, dc_false hno]
    simp only [EVA, ↓reduceIte, Nat.reduceEqDiff, Nat.reduceMul, reduceCtorEq, Nat.reduceAdd, Nat.reduceSub, Nat.reduceLeDiff, Nat.reduceLT, Int.reduceToNat, Int.reduceLE, Int.reduceLT, mens, men]
    rfl
  have hA := dc_iff.1 h1
  simp only [cBigraph, EVA, ↓reduceIte, Nat.reduceEqDiff, Nat.reduceMul, reduceCtorEq, Nat.reduceAdd, Nat.reduceSub, Nat.reduceLeDiff, Nat.reduceLT, Int.reduceToNat, Int.reduceLE, Int.reduceLT, mens, men]
  refine kca_intro i2 ?_
  cases h2 : dc (bigOK sig b)
  · have hno : ¬ nestOK sig a b := fun g => dc_not.1 h2 g.1.2.1
    rw [if_neg hno, dc_false hno]
    simp only [EVA, ↓reduceIte, Nat.reduceEqDiff, Nat.reduceMul, reduceCtorEq, Nat.reduceAdd, Nat.reduceSub, Nat.reduceLeDiff, Nat.reduceLT, Int.reduceToNat, Int.reduceLE, Int.reduceLT, mens, men]
    rfl
  have hB := dc_iff.1 h2
  have sa := hA.small; have sb := hB.small
  have a2 := sa.sites; have a3 := sa.inner; have a4 := sa.outer; have b4 := sb.outer
  have ra := hA.roots; have rb := hB.roots
  simp only [cBigraph, List.length_map, EVA, ↓reduceIte, Nat.reduceEqDiff, Nat.reduceMul, reduceCtorEq, Nat.reduceAdd, Nat.reduceSub, Nat.reduceLeDiff, Nat.reduceLT, Int.reduceToNat, Int.reduceLE, Int.reduceLT, mens, men]
  by_cases h3 : (0 : Int) < a.inner.length
  · have hno : ¬ nestOK sig a b := fun g => by have := g.1.2.2.1; omega
    rw [if_neg hno, dc_false hno]
    simp only [h3, List.length_map, EVA, ↓reduceIte, Nat.reduceEqDiff, Nat.reduceMul, reduceCtorEq, Nat.reduceAdd, Nat.reduceSub, Nat.reduceLeDiff, Nat.reduceLT, Int.reduceToNat, Int.reduceLE, Int.reduceLT, mens, men]
    rfl
  by_cases h4 : (a.sites.length : Int) = b.roots
  · simp only [h3, h4, List.length_map, EVA, ↓reduceIte, Nat.reduceEqDiff, Nat.reduceMul, reduceCtorEq, Nat.reduceAdd, Nat.reduceSub, Nat.reduceLeDiff, Nat.reduceLT, Int.reduceToNat, Int.reduceLE, Int.reduceLT, mens, men]
    have hfl : [a.outer, b.outer].flatten = a.outer ++ b.outer := by simp
    have hc := sem_ConcatS [a.outer, b.outer] (by simp) (by rw [hfl, List.length_append]; omega)
    rw [hfl] at hc
    refine ⟨by simp, by simp, kca_intro hc ?_⟩
    simp only [cBigraph, List.length_map, EVA, ↓reduceIte, Nat.reduceEqDiff, Nat.reduceMul, reduceCtorEq, Nat.reduceAdd, Nat.reduceSub, Nat.reduceLeDiff, Nat.reduceLT, Int.reduceToNat, Int.reduceLE, Int.reduceLT, mens, men]
    have qj := sem_joinedX sig a b (nestB a b) hA hB a.roots [] (by simp) (a.outer ++ b.outer) (by rw [List.length_append]; omega) fid_impl_NestBigraphs_1 [cBigraph a] (fun p => g0 a.sites (-1 - p).toNat) fid_impl_asName [] (fun s => (0, s)) (fun p h1 h2 lvl S => sem_NestBigraphs_1 a p (by omega) (by omega) lvl S) (fun x _ lvl S => sem_asName x lvl S) (by rw [movG_eq]; exact nest_eq hA hB)
    simp only [cBigraph, jndB, List.map_cons, List.map_nil] at qj
    refine kca_intro qj ?_
    simp only [cBigraph, List.length_map, EVA, ↓reduceIte, Nat.reduceEqDiff, Nat.reduceMul, reduceCtorEq, Nat.reduceAdd, Nat.reduceSub, Nat.reduceLeDiff, Nat.reduceLT, Int.reduceToNat, Int.reduceLE, Int.reduceLT, mens, men]
    have qv := sem_valid sig (nestB a b) hn hbs (nest_bd hA hB) (nest_ft hA hB h4 fa fb)
    simp only [cBigraph, List.map_cons, List.map_nil] at qv
    refine kca_intro qv ?_
    cases h6 : dc (bigOK sig (nestB a b))
    · have hno : ¬ nestOK sig a b := fun g => dc_not.1 h6 g.2
      rw [if_neg hno, dc_false hno, if_neg (dc_not.1 h6)]
      simp only [oBigraph, List.length_map, EVA, ↓reduceIte, Nat.reduceEqDiff, Nat.reduceMul, reduceCtorEq, Nat.reduceAdd, Nat.reduceSub, Nat.reduceLeDiff, Nat.reduceLT, Int.reduceToNat, Int.reduceLE, Int.reduceLT, mens, men]
      rfl
    · have hyes : nestOK sig a b := ⟨⟨hA, hB, by omega, h4⟩, dc_iff.1 h6⟩
      rw [if_pos hyes, dc_true hyes, if_pos (dc_iff.1 h6)]
      simp only [oBigraph, List.length_map, EVA, ↓reduceIte, Nat.reduceEqDiff, Nat.reduceMul, reduceCtorEq, Nat.reduceAdd, Nat.reduceSub, Nat.reduceLeDiff, Nat.reduceLT, Int.reduceToNat, Int.reduceLE, Int.reduceLT, mens, men]
  · have hno : ¬ nestOK sig a b := fun g => h4 g.1.2.2.2
    rw [if_neg hno, dc_false hno]
    simp only [h3, h4, List.length_map, EVA, ↓reduceIte, Nat.reduceEqDiff, Nat.reduceMul, reduceCtorEq, Nat.reduceAdd, Nat.reduceSub, Nat.reduceLeDiff, Nat.reduceLT, Int.reduceToNat, Int.reduceLE, Int.reduceLT, mens, men]
    rfl
theorem sem_spec_Nest_up (sig : List TControl) (a b : TBigraph) (hn : sig.length ≤ 4294967296) (hbs : ∀ y ∈ sig, bdControl 4294967296 y) (hba : bdBigraph 4294967296 a) (hbb : bdBigraph 4294967296 b) (fa : ftBigraph a) (fb : ftBigraph b) (lvl : Nat) (S : Sto) : Sem Go.Proofs.Tryz.prog fid_spec_NestBigraphs lvl [.tr (.sl (sig.map cControl)), .ag ((cBigraph a).map .tr), .ag ((cBigraph b).map .tr)] S (.tu [@ite IV (nestOK sig a b) (Classical.propDecidable _) (.ag ((cBigraph (nestB a b)).map .tr)) (oBigraph emptyB), iB (dc (nestOK sig a b))]) S := by
  refine sem_of_chk k_spec_NestBigraphs (by split <;> simp [oBigraph, cBigraph, low, men, mens]) ?_
  simp only [c_spec_NestBigraphs, cBigraph, EVA, ↓reduceIte, Nat.reduceEqDiff, Nat.reduceMul, reduceCtorEq, Nat.reduceAdd, Nat.reduceSub, Nat.reduceLeDiff, Nat.reduceLT, Int.reduceToNat, Int.reduceLE, Int.reduceLT, mens, men]
  have i1 := sem_l2Good sig a hn hbs hba fa
  have i2 := sem_l2Good sig b hn hbs hbb fb
  simp only [cBigraph, List.map_cons, List.map_nil] at i1 i2
  refine kca_intro i1 ?_
  cases h1 : dc (bigOK sig a)
  · have hno : ¬ nestOK sig a b := fun g => dc_not.1 h1 g.1.1
    rw [if_neg hno, dc_false hno]
    simp only [EVA, ↓reduceIte, Nat.reduceEqDiff, Nat.reduceMul, reduceCtorEq, Nat.reduceAdd, Nat.reduceSub, Nat.reduceLeDiff, Nat.reduceLT, Int.reduceToNat, Int.reduceLE, Int.reduceLT, mens, men]
    rfl
  have hA := dc_iff.1 h1
  simp only [cBigraph, EVA, ↓reduceIte, Nat.reduceEqDiff, Nat.reduceMul, reduceCtorEq, Nat.reduceAdd, Nat.reduceSub, Nat.reduceLeDiff, Nat.reduceLT, Int.reduceToNat, Int.reduceLE, Int.reduceLT, mens, men]
  refine kca_intro i2 ?_
  cases h2 : dc (bigOK sig b)
  · have hno : ¬ nestOK sig a b := fun g => dc_not.1 h2 g.1.2.1
    rw [if_neg hno, dc_false hno]
    simp only [EVA, ↓reduceIte, Nat.reduceEqDiff, Nat.reduceMul, reduceCtorEq, Nat.reduceAdd, Nat.reduceSub, Nat.reduceLeDiff, Nat.reduceLT, Int.reduceToNat, Int.reduceLE, Int.reduceLT, mens, men]
    rfl
  have hB := dc_iff.1 h2
  have sa := hA.small; have sb := hB.small
  have a2 := sa.sites; have a3 := sa.inner; have a4 := sa.outer; have b4 := sb.outer
  have ra := hA.roots; have rb := hB.roots
  simp only [cBigraph, List.length_map, EVA, ↓reduceIte, Nat.reduceEqDiff, Nat.reduceMul, reduceCtorEq, Nat.reduceAdd, Nat.reduceSub, Nat.reduceLeDiff, Nat.reduceLT, Int.reduceToNat, Int.reduceLE, Int.reduceLT, mens, men]
  by_cases h3 : (0 : Int) < a.inner.length
  · have hno : ¬ nestOK sig a b := fun g => by have := g.1.2.2.1; omega
    rw [if_neg hno, dc_false hno]
    simp only [h3, List.length_map, EVA, ↓reduceIte, Nat.reduceEqDiff, Nat.reduceMul, reduceCtorEq, Nat.reduceAdd, Nat.reduceSub, Nat.reduceLeDiff, Nat.reduceLT, Int.reduceToNat, Int.reduceLE, Int.reduceLT, mens, men]
    rfl
  by_cases h4 : (a.sites.length : Int) = b.roots
  · simp only [h3, h4, cBigraph, List.length_map, EVA, ↓reduceIte, Nat.reduceEqDiff, Nat.reduceMul, reduceCtorEq, Nat.reduceAdd, Nat.reduceSub, Nat.reduceLeDiff, Nat.reduceLT, Int.reduceToNat, Int.reduceLE, Int.reduceLT, mens, men]
    have qc := sem_l4Nest sig a b hA hB h4
    simp only [cBigraph, bigU, List.map_cons, List.map_nil] at qc
    refine kca_intro qc ?_
    simp only [cBigraph, List.length_map, EVA, ↓reduceIte, Nat.reduceEqDiff, Nat.reduceMul, reduceCtorEq, Nat.reduceAdd, Nat.reduceSub, Nat.reduceLeDiff, Nat.reduceLT, Int.reduceToNat, Int.reduceLE, Int.reduceLT, mens, men]
    by_cases hq : bigOK sig (nestB a b)
    · have qG := sem_l2Give_y sig (nestB a b) hn hbs (bd_mono (by omega) (nest_bd hA hB)) (nest_ft hA hB h4 fa fb) hq
      simp only [cBigraph, List.map_cons, List.map_nil] at qG
      have hyes : nestOK sig a b := ⟨⟨hA, hB, by omega, h4⟩, hq⟩
      rw [if_pos hyes, dc_true hyes]
      refine kca_intro qG ?_
      simp only [oBigraph, cBigraph, List.length_map, EVA, ↓reduceIte, Nat.reduceEqDiff, Nat.reduceMul, reduceCtorEq, Nat.reduceAdd, Nat.reduceSub, Nat.reduceLeDiff, Nat.reduceLT, Int.reduceToNat, Int.reduceLE, Int.reduceLT, mens, men]
    · have qG := sem_l2Give_n sig (nestB a b) hn hbs (bd_mono (by omega) (nest_bd hA hB)) (nest_ft hA hB h4 fa fb) hq
      simp only [cBigraph, List.map_cons, List.map_nil] at qG
      have hno : ¬ nestOK sig a b := fun g => hq g.2
      rw [if_neg hno, dc_false hno]
      refine kca_intro qG ?_
      simp only [oBigraph, cBigraph, List.length_map, EVA, ↓reduceIte, Nat.reduceEqDiff, Nat.reduceMul, reduceCtorEq, Nat.reduceAdd, Nat.reduceSub, Nat.reduceLeDiff, Nat.reduceLT, Int.reduceToNat, Int.reduceLE, Int.reduceLT, mens, men]
      try rfl
  · have hno : ¬ nestOK sig a b := fun g => h4 g.1.2.2.2
    rw [if_neg hno, dc_false hno]
    simp only [h3, h4, List.length_map, EVA, ↓reduceIte, Nat.reduceEqDiff, Nat.reduceMul, reduceCtorEq, Nat.reduceAdd, Nat.reduceSub, Nat.reduceLeDiff, Nat.reduceLT, Int.reduceToNat, Int.reduceLE, Int.reduceLT, mens, men]
    rfl
theorem sem_spec_NestBigraphs_y (sig : List TControl) (a b : TBigraph) (hn : sig.length ≤ 4294967296) (hbs : ∀ y ∈ sig, bdControl 4294967296 y) (hba : bdBigraph 4294967296 a) (hbb : bdBigraph 4294967296 b) (fa : ftBigraph a) (fb : ftBigraph b) (hB : nestOK sig a b) (lvl : Nat) (S : Sto) : Sem Go.Proofs.Tryz.prog fid_spec_NestBigraphs lvl [.tr (.sl (sig.map cControl)), .ag ((cBigraph a).map .tr), .ag ((cBigraph b).map .tr)] S (.tu [.ag ((cBigraph (r0_NestBigraphs sig a b)).map .tr), iB (r1_NestBigraphs sig a b)]) S := by
  have h := sem_spec_Nest_up sig a b hn hbs hba hbb fa fb lvl S
  unfold r0_NestBigraphs r1_NestBigraphs
  rw [if_pos hB, dc_true hB]
  rw [if_pos hB, dc_true hB] at h
  exact h
theorem sem_spec_NestBigraphs_n (sig : List TControl) (a b : TBigraph) (hn : sig.length ≤ 4294967296) (hbs : ∀ y ∈ sig, bdControl 4294967296 y) (hba : bdBigraph 4294967296 a) (hbb : bdBigraph 4294967296 b) (fa : ftBigraph a) (fb : ftBigraph b) (hB : ¬ nestOK sig a b) (lvl : Nat) (S : Sto) : Sem Go.Proofs.Tryz.prog fid_spec_NestBigraphs lvl [.tr (.sl (sig.map cControl)), .ag ((cBigraph a).map .tr), .ag ((cBigraph b).map .tr)] S (.tu [oBigraph (r0_NestBigraphs sig a b), iB (r1_NestBigraphs sig a b)]) S := by
  have h := sem_spec_Nest_up sig a b hn hbs hba hbb fa fb lvl S
  unfold r0_NestBigraphs r1_NestBigraphs
  rw [if_neg hB, dc_false hB]
  rw [if_neg hB, dc_false hB] at h
  exact h
end Go.Fd

/-
  The annotated codes of the functions, printed by a program of mine (gen.py), and the check that they belong to the program.
-/
namespace Go.Fd
def c_laws_FnExactNestBigraphs : F2 :=
  { nt := 142, res := [.t 6 [0]], body :=
   (.sq (rg [oo 4 (.bt (.t 1)),
 oo 5 (.bt (.t 2)),
 om 6 (.k (.bool false))])
 (.sq (rg [om 7 (i6 1048576)])
 (.sq (rg [om 20 (.t 0),
 om 21 (.t 7),
 oo 22 (.ca .pure false (.f fid_laws_szControlS) [.t 20, .t 21]),
 om 7 (.t 22)])
 (.sq (.sq (rg [om 23 (.t 7),
 oo 24 (.bi .lss 0 (.t 23) (i6 0))])
 (.cd (.t 24) (.sq (rg [om 6 (.k (.bool true))])
 (.rt))
 (.sk)))
 (.sq (rg [oo 25 (.ld (some 6) (.t 4)),
 om 26 (.t 7),
 oo 27 (.ca .pure false (.f fid_laws_szBigraph) [.t 25, .t 26]),
 om 7 (.t 27)])
 (.sq (.sq (rg [om 28 (.t 7),
 oo 29 (.bi .lss 0 (.t 28) (i6 0))])
 (.cd (.t 29) (.sq (rg [om 6 (.k (.bool true))])
 (.rt))
 (.sk)))
 (.sq (rg [oo 30 (.ld (some 6) (.t 5)),
 om 31 (.t 7),
 oo 32 (.ca .pure false (.f fid_laws_szBigraph) [.t 30, .t 31]),
 om 7 (.t 32)])
 (.sq (.sq (rg [om 33 (.t 7),
 oo 34 (.bi .lss 0 (.t 33) (i6 0))])
 (.cd (.t 34) (.sq (rg [om 6 (.k (.bool true))])
 (.rt))
 (.sk)))
 (.sq (.rg (some 0) [om 36 (.t 0),
 oo 37 (.ca .pure false (.f fid_laws_toControlS) [.t 36]),
 oo 38 (.ld (some 6) (.t 4)),
 oo 39 (.ca .pure false (.f fid_laws_toBigraph) [.t 38]),
 oo 40 (.ld (some 6) (.t 5)),
 oo 41 (.ca .pure false (.f fid_laws_toBigraph) [.t 40]),
 oo 42 (.ca .pure false (.f fid_spec_NestBigraphs) [.t 37, .t 39, .t 41]),
 om 35 (.t 42),
 oo 43 (.ex 0 (.t 35)),
 oo 44 (.ex 1 (.t 35)),
 oo 8 (.al [.int .i64 0, .slice none 0 0, .slice none 0 0, .int .i64 0, .slice none 0 0, .slice none 0 0] []),
 on1 (.s0 6 (.t 8) (.t 43)),
 om 9 (.t 44)])
 (.sq (rg [om 45 (.t 0),
 oo 46 (.ca .pure true (.f fid_laws_toControlS) [.t 45]),
 om 10 (.t 46)])
 (.sq (rg [oo 47 (.ld (some 6) (.t 4)),
 oo 48 (.ca .pure true (.f fid_laws_toBigraph) [.t 47]),
 oo 11 (.al [.int .i64 0, .slice none 0 0, .slice none 0 0, .int .i64 0, .slice none 0 0, .slice none 0 0] []),
 on1 (.st 6 (.t 11) (.t 48))])
 (.sq (rg [oo 49 (.ld (some 6) (.t 5)),
 oo 50 (.ca .pure true (.f fid_laws_toBigraph) [.t 49]),
 oo 12 (.al [.int .i64 0, .slice none 0 0, .slice none 0 0, .int .i64 0, .slice none 0 0, .slice none 0 0] []),
 on1 (.st 6 (.t 12) (.t 50))])
 (.sq (rg [om 52 (.t 10),
 oo 53 (.ld (some 6) (.t 11)),
 oo 54 (.ld (some 6) (.t 12)),
 oo 55 (.ca .pure true (.f fid_impl_NestBigraphs) [.t 52, .t 53, .t 54]),
 om 51 (.t 55),
 oo 56 (.ex 0 (.t 51)),
 oo 57 (.ex 1 (.t 51)),
 oo 13 (.al [.int .i64 0, .slice none 0 0, .slice none 0 0, .int .i64 0, .slice none 0 0, .slice none 0 0] []),
 on1 (.st 6 (.t 13) (.t 56)),
 om 14 (.t 57)])
 (.sq (.sq (rg [oo 58 (.ld (some 6) (.t 13)),
 oo 59 (.ld (some 6) (.t 8)),
 oo 60 (.ca .pure false (.f fid_laws_eqBigraph) [.t 58, .t 59]),
 oo 61 (.nt (.t 60)),
 om 62 (.t 61),
 og 63 62 false (.mv (.t 14) none),
 og 64 62 false (.mv (.t 9) none),
 og 65 62 false (.bi .neq 2 (.t 63) (.t 64)),
 oo 66 (.pk (.t 62) (.k (.bool true)) (.t 65))])
 (.cd (.t 66) (.sq (rg [om 6 (.k (.bool false))])
 (.rt))
 (.sk)))
 (.sq (.sq (rg [om 67 (.t 10),
 om 68 (.t 0),
 oo 69 (.ca .pure false (.f fid_laws_toControlS) [.t 68]),
 oo 70 (.ca .pure false (.f fid_laws_eqControlS) [.t 67, .t 69]),
 oo 71 (.nt (.t 70))])
 (.cd (.t 71) (.sq (rg [om 6 (.k (.bool false))])
 (.rt))
 (.sk)))
 (.sq (.sq (.rg (some 0) [oo 72 (.ld (some 6) (.t 11)),
 oo 73 (.ld (some 6) (.t 4)),
 oo 74 (.ca .pure false (.f fid_laws_toBigraph) [.t 73]),
 oo 75 (.ca .pure false (.f fid_laws_eqBigraph) [.t 72, .t 74]),
 oo 76 (.nt (.t 75))])
 (.cd (.t 76) (.sq (rg [om 6 (.k (.bool false))])
 (.rt))
 (.sk)))
 (.sq (.sq (.rg (some 0) [oo 77 (.ld (some 6) (.t 12)),
 oo 78 (.ld (some 6) (.t 5)),
 oo 79 (.ca .pure false (.f fid_laws_toBigraph) [.t 78]),
 oo 80 (.ca .pure false (.f fid_laws_eqBigraph) [.t 77, .t 79]),
 oo 81 (.nt (.t 80))])
 (.cd (.t 81) (.sq (rg [om 6 (.k (.bool false))])
 (.rt))
 (.sk)))
 (.sq (rg [om 15 (i6 1)])
 (.sq (rg [om 82 (.t 10),
 om 83 (.t 15),
 oo 84 (.ca .any true (.f fid_laws_markControlS) [.t 82, .t 83]),
 om 15 (.t 84)])
 (.sq (rg [oo 85 (.ld (some 6) (.t 11)),
 om 86 (.t 15),
 oo 87 (.ca .any true (.f fid_laws_markBigraph) [.t 85, .t 86]),
 om 15 (.t 87)])
 (.sq (rg [oo 88 (.ld (some 6) (.t 12)),
 om 89 (.t 15),
 oo 90 (.ca .any true (.f fid_laws_markBigraph) [.t 88, .t 89]),
 om 15 (.t 90)])
 (.sq (.sq (rg [om 91 (.t 15),
 oo 92 (.bi .lss 0 (.t 91) (i6 0)),
 om 93 (.t 92),
 og 94 93 false (.ld (some 6) (.t 13)),
 og 95 93 false (.ld (some 6) (.t 8)),
 og 96 93 false (.ca .pure false (.f fid_laws_eqBigraph) [.t 94, .t 95]),
 og 97 93 false (.nt (.t 96)),
 oo 98 (.pk (.t 93) (.k (.bool true)) (.t 97)),
 om 99 (.t 98),
 og 100 99 false (.mv (.t 14) none),
 og 101 99 false (.mv (.t 9) none),
 og 102 99 false (.bi .neq 2 (.t 100) (.t 101)),
 oo 103 (.pk (.t 99) (.k (.bool true)) (.t 102))])
 (.cd (.t 103) (.sq (rg [om 6 (.k (.bool false))])
 (.rt))
 (.sk)))
 (.sq (rg [om 16 (i6 1)])
 (.sq (rg [oo 104 (.ld (some 6) (.t 13)),
 om 105 (.t 16),
 oo 106 (.ca .any true (.f fid_laws_markBigraph) [.t 104, .t 105]),
 om 16 (.t 106)])
 (.sq (rg [om 17 (i6 1)])
 (.sq (rg [oo 107 (.ld (some 6) (.t 13)),
 om 108 (.t 17),
 oo 109 (.ca .pure false (.f fid_laws_heldBigraph) [.t 107, .t 108]),
 om 17 (.t 109)])
 (.sq (.sq (rg [om 110 (.t 17),
 oo 111 (.bi .lss 0 (.t 110) (i6 0))])
 (.cd (.t 111) (.sq (rg [om 6 (.k (.bool false))])
 (.rt))
 (.sk)))
 (.sq (.sq (rg [om 112 (.t 17),
 om 113 (.t 16),
 oo 114 (.bi .neq 0 (.t 112) (.t 113))])
 (.cd (.t 114) (.sq (rg [om 6 (.k (.bool false))])
 (.rt))
 (.sk)))
 (.sq (.rg (some 0) [om 116 (.t 0),
 oo 117 (.ca .pure false (.f fid_laws_toControlS) [.t 116]),
 oo 118 (.ld (some 6) (.t 4)),
 oo 119 (.ca .pure false (.f fid_laws_toBigraph) [.t 118]),
 oo 120 (.ld (some 6) (.t 5)),
 oo 121 (.ca .pure false (.f fid_laws_toBigraph) [.t 120]),
 oo 122 (.ca .pure false (.f fid_impl_NestBigraphs) [.t 117, .t 119, .t 121]),
 om 115 (.t 122),
 oo 123 (.ex 0 (.t 115)),
 oo 124 (.ex 1 (.t 115)),
 oo 18 (.al [.int .i64 0, .slice none 0 0, .slice none 0 0, .int .i64 0, .slice none 0 0, .slice none 0 0] []),
 on1 (.s0 6 (.t 18) (.t 123)),
 om 19 (.t 124)])
 (.sq (.sq (rg [oo 125 (.ld (some 6) (.t 18)),
 oo 126 (.ld (some 6) (.t 8)),
 oo 127 (.ca .pure false (.f fid_laws_eqBigraph) [.t 125, .t 126]),
 oo 128 (.nt (.t 127)),
 om 129 (.t 128),
 og 130 129 false (.mv (.t 19) none),
 og 131 129 false (.mv (.t 9) none),
 og 132 129 false (.bi .neq 2 (.t 130) (.t 131)),
 oo 133 (.pk (.t 129) (.k (.bool true)) (.t 132))])
 (.cd (.t 133) (.sq (rg [om 6 (.k (.bool false))])
 (.rt))
 (.sk)))
 (.sq (rg [om 17 (i6 1)])
 (.sq (rg [oo 134 (.ld (some 6) (.t 13)),
 om 135 (.t 17),
 oo 136 (.ca .pure false (.f fid_laws_heldBigraph) [.t 134, .t 135]),
 om 17 (.t 136)])
 (.sq (.sq (rg [om 137 (.t 17),
 oo 138 (.bi .lss 0 (.t 137) (i6 0))])
 (.cd (.t 138) (.sq (rg [om 6 (.k (.bool false))])
 (.rt))
 (.sk)))
 (.sq (.sq (rg [om 139 (.t 17),
 om 140 (.t 16),
 oo 141 (.bi .neq 0 (.t 139) (.t 140))])
 (.cd (.t 141) (.sq (rg [om 6 (.k (.bool false))])
 (.rt))
 (.sk)))
 (.sq (rg [om 6 (.k (.bool true))])
 (.rt)))))))))))))))))))))))))))))))))))) }
theorem k_laws_FnExactNestBigraphs : chkF Go.Proofs.Tryz.prog fid_laws_FnExactNestBigraphs c_laws_FnExactNestBigraphs = true := by kernel_rfl

def c_laws_markControlS : F2 :=
  { nt := 35, res := [.t 4 [0]], body :=
   (.sq (rg [om 4 (i6 0)])
 (.sq (.sq (rg [om 5 (i6 0)])
 (.bl 0 (.lp [0, 1, 5] [] (.sq (.sq (rg [om 6 (.t 5),
 om 7 (.t 0),
 oo 8 (.ln (.t 7)),
 oo 9 (.bi .lss 0 (.t 6) (.t 8))])
 (.cd (.t 9) (.sk)
 (.ex 0)))
 (.sq (.bl 1 (.sq (rg [om 12 (.t 0),
 om 13 (.t 5),
 om 14 (.t 1),
 oo 15 (.ca .pure false (.f fid_laws_markText) [.t 14]),
 oo 16 (.ia 3 (.t 12) (.t 13)),
 oo 17 (.fa 0 (.t 16)),
 on1 (.st 1 (.t 17) (.t 15))])
 (.sq (rg [om 18 (.t 1),
 oo 19 (.bi .add 0 (.t 18) (i6 1)),
 om 1 (.t 19)])
 (.sq (rg [om 20 (.t 0),
 om 21 (.t 5),
 om 22 (.t 1),
 oo 23 (.ia 3 (.t 20) (.t 21)),
 oo 24 (.fa 1 (.t 23)),
 on1 (.st 1 (.t 24) (.t 22))])
 (.sq (rg [om 25 (.t 1),
 oo 26 (.bi .add 0 (.t 25) (i6 1)),
 om 1 (.t 26)])
 (.sq (rg [om 27 (.t 0),
 om 28 (.t 5),
 om 29 (.t 1),
 oo 30 (.ia 3 (.t 27) (.t 28)),
 oo 31 (.fa 2 (.t 30)),
 on1 (.st 1 (.t 31) (.t 29))])
 (rg [om 32 (.t 1),
 oo 33 (.bi .add 0 (.t 32) (i6 1)),
 om 1 (.t 33)])))))))
 (rg [om 10 (.t 5),
 oo 11 (.bi .add 0 (.t 10) (i6 1)),
 om 5 (.t 11)]))))))
 (.sq (rg [om 34 (.t 1),
 om 4 (.t 34)])
 (.rt)))) }
theorem k_laws_markControlS : chkF Go.Proofs.Tryz.prog fid_laws_markControlS c_laws_markControlS = true := by kernel_rfl

def c_laws_markBigraph : F2 :=
  { nt := 22, res := [.t 4 [0]], body :=
   (.sq (rg [oo 2 (.bx (.t 0)),
 om 4 (i6 0)])
 (.sq (rg [oo 5 (.fa 1 (.t 2)),
 oo 6 (.ld none (.t 5)),
 om 7 (.t 1),
 oo 8 (.ca .any true (.f fid_laws_markNodeS) [.t 6, .t 7]),
 om 1 (.t 8)])
 (.sq (rg [oo 9 (.fa 2 (.t 2)),
 oo 10 (.ld none (.t 9)),
 om 11 (.t 1),
 oo 12 (.ca .any true (.f fid_laws_markIntS) [.t 10, .t 11]),
 om 1 (.t 12)])
 (.sq (rg [oo 13 (.fa 4 (.t 2)),
 oo 14 (.ld none (.t 13)),
 om 15 (.t 1),
 oo 16 (.ca .any true (.f fid_laws_markStringS) [.t 14, .t 15]),
 om 1 (.t 16)])
 (.sq (rg [oo 17 (.fa 5 (.t 2)),
 oo 18 (.ld none (.t 17)),
 om 19 (.t 1),
 oo 20 (.ca .any true (.f fid_laws_markWireS) [.t 18, .t 19]),
 om 1 (.t 20)])
 (.sq (rg [om 21 (.t 1),
 om 4 (.t 21)])
 (.rt))))))) }
theorem k_laws_markBigraph : chkF Go.Proofs.Tryz.prog fid_laws_markBigraph c_laws_markBigraph = true := by kernel_rfl

def c_laws_heldBigraph : F2 :=
  { nt := 30, res := [.t 4 [0]], body :=
   (.sq (rg [oo 2 (.bt (.t 0)),
 om 4 (i6 0)])
 (.sq (rg [oo 5 (.fa 1 (.t 2)),
 oo 6 (.ld none (.t 5)),
 om 7 (.t 1),
 oo 8 (.ca .pure false (.f fid_laws_heldNodeS) [.t 6, .t 7]),
 om 1 (.t 8)])
 (.sq (.sq (rg [om 9 (.t 1),
 oo 10 (.bi .lss 0 (.t 9) (i6 0))])
 (.cd (.t 10) (.sq (rg [om 4 (i6 (-1))])
 (.rt))
 (.sk)))
 (.sq (rg [oo 11 (.fa 2 (.t 2)),
 oo 12 (.ld none (.t 11)),
 om 13 (.t 1),
 oo 14 (.ca .pure false (.f fid_laws_heldIntS) [.t 12, .t 13]),
 om 1 (.t 14)])
 (.sq (.sq (rg [om 15 (.t 1),
 oo 16 (.bi .lss 0 (.t 15) (i6 0))])
 (.cd (.t 16) (.sq (rg [om 4 (i6 (-1))])
 (.rt))
 (.sk)))
 (.sq (rg [oo 17 (.fa 4 (.t 2)),
 oo 18 (.ld none (.t 17)),
 om 19 (.t 1),
 oo 20 (.ca .pure false (.f fid_laws_heldStringS) [.t 18, .t 19]),
 om 1 (.t 20)])
 (.sq (.sq (rg [om 21 (.t 1),
 oo 22 (.bi .lss 0 (.t 21) (i6 0))])
 (.cd (.t 22) (.sq (rg [om 4 (i6 (-1))])
 (.rt))
 (.sk)))
 (.sq (rg [oo 23 (.fa 5 (.t 2)),
 oo 24 (.ld none (.t 23)),
 om 25 (.t 1),
 oo 26 (.ca .pure false (.f fid_laws_heldWireS) [.t 24, .t 25]),
 om 1 (.t 26)])
 (.sq (.sq (rg [om 27 (.t 1),
 oo 28 (.bi .lss 0 (.t 27) (i6 0))])
 (.cd (.t 28) (.sq (rg [om 4 (i6 (-1))])
 (.rt))
 (.sk)))
 (.sq (rg [om 29 (.t 1),
 om 4 (.t 29)])
 (.rt))))))))))) }
theorem k_laws_heldBigraph : chkF Go.Proofs.Tryz.prog fid_laws_heldBigraph c_laws_heldBigraph = true := by kernel_rfl

def c_laws_markText : F2 :=
  { nt := 20, res := [.t 2 [0]], body :=
   (.sq (rg [om 2 (.k (.string ⟨#[]⟩))])
 (.sq (.sq (rg [om 4 (.t 0),
 oo 5 (.bi .leq 0 (.t 4) (i6 0))])
 (.cd (.t 5) (.sq (rg [om 2 (.k (.string ⟨#[109, 48]⟩))])
 (.rt))
 (.sk)))
 (.sq (rg [om 3 (.k (.string ⟨#[]⟩))])
 (.sq (.bl 0 (.lp [0, 3] [] (.sq (.sq (rg [om 6 (.t 0),
 oo 7 (.bi .gtr 0 (.t 6) (i6 0))])
 (.cd (.t 7) (.sk)
 (.ex 0)))
 (.bl 1 (.sq (rg [om 8 (.t 0),
 oo 9 (.bi .rem 0 (.t 8) (i6 10)),
 oo 10 (.bi .add 0 (i6 48) (.t 9)),
 oo 11 (.cv (.int .u8) (.t 10)),
 oo 12 (.bs 1 1 [.int .u8 0] [(0, .t 11)]),
 oo 13 (.sb (.t 12)),
 om 14 (.t 3),
 oo 15 (.bi .add 0 (.t 13) (.t 14)),
 om 3 (.t 15)])
 (rg [om 16 (.t 0),
 oo 17 (.bi .quo 0 (.t 16) (i6 10)),
 om 0 (.t 17)]))))))
 (.sq (rg [om 18 (.t 3),
 oo 19 (.bi .add 0 (.k (.string ⟨#[109]⟩)) (.t 18)),
 om 2 (.t 19)])
 (.rt)))))) }
theorem k_laws_markText : chkF Go.Proofs.Tryz.prog fid_laws_markText c_laws_markText = true := by kernel_rfl

def c_laws_markNodeS : F2 :=
  { nt := 34, res := [.t 4 [0]], body :=
   (.sq (rg [om 4 (i6 0)])
 (.sq (.sq (rg [om 5 (i6 0)])
 (.bl 0 (.lp [0, 1, 5] [] (.sq (.sq (rg [om 6 (.t 5),
 om 7 (.t 0),
 oo 8 (.ln (.t 7)),
 oo 9 (.bi .lss 0 (.t 6) (.t 8))])
 (.cd (.t 9) (.sk)
 (.ex 0)))
 (.sq (.bl 1 (.sq (rg [om 12 (.t 0),
 om 13 (.t 5),
 om 14 (.t 1),
 oo 15 (.ia 3 (.t 12) (.t 13)),
 oo 16 (.fa 0 (.t 15)),
 on1 (.st 1 (.t 16) (.t 14))])
 (.sq (rg [om 17 (.t 1),
 oo 18 (.bi .add 0 (.t 17) (i6 1)),
 om 1 (.t 18)])
 (.sq (rg [om 19 (.t 0),
 om 20 (.t 5),
 om 21 (.t 1),
 oo 22 (.ia 3 (.t 19) (.t 20)),
 oo 23 (.fa 1 (.t 22)),
 on1 (.st 1 (.t 23) (.t 21))])
 (.sq (rg [om 24 (.t 1),
 oo 25 (.bi .add 0 (.t 24) (i6 1)),
 om 1 (.t 25)])
 (rg [om 26 (.t 0),
 om 27 (.t 5),
 oo 28 (.ia 3 (.t 26) (.t 27)),
 oo 29 (.fa 2 (.t 28)),
 oo 30 (.ld none (.t 29)),
 om 31 (.t 1),
 oo 32 (.ca .any true (.f fid_laws_markIntS) [.t 30, .t 31]),
 om 1 (.t 32)]))))))
 (rg [om 10 (.t 5),
 oo 11 (.bi .add 0 (.t 10) (i6 1)),
 om 5 (.t 11)]))))))
 (.sq (rg [om 33 (.t 1),
 om 4 (.t 33)])
 (.rt)))) }
theorem k_laws_markNodeS : chkF Go.Proofs.Tryz.prog fid_laws_markNodeS c_laws_markNodeS = true := by kernel_rfl

def c_laws_markIntS : F2 :=
  { nt := 19, res := [.t 4 [0]], body :=
   (.sq (rg [om 4 (i6 0)])
 (.sq (.sq (rg [om 5 (i6 0)])
 (.bl 0 (.lp [0, 1, 5] [] (.sq (.sq (rg [om 6 (.t 5),
 om 7 (.t 0),
 oo 8 (.ln (.t 7)),
 oo 9 (.bi .lss 0 (.t 6) (.t 8))])
 (.cd (.t 9) (.sk)
 (.ex 0)))
 (.sq (.bl 1 (.sq (rg [om 12 (.t 0),
 om 13 (.t 5),
 om 14 (.t 1),
 oo 15 (.ia 1 (.t 12) (.t 13)),
 on1 (.st 1 (.t 15) (.t 14))])
 (rg [om 16 (.t 1),
 oo 17 (.bi .add 0 (.t 16) (i6 1)),
 om 1 (.t 17)])))
 (rg [om 10 (.t 5),
 oo 11 (.bi .add 0 (.t 10) (i6 1)),
 om 5 (.t 11)]))))))
 (.sq (rg [om 18 (.t 1),
 om 4 (.t 18)])
 (.rt)))) }
theorem k_laws_markIntS : chkF Go.Proofs.Tryz.prog fid_laws_markIntS c_laws_markIntS = true := by kernel_rfl

def c_laws_markStringS : F2 :=
  { nt := 20, res := [.t 4 [0]], body :=
   (.sq (rg [om 4 (i6 0)])
 (.sq (.sq (rg [om 5 (i6 0)])
 (.bl 0 (.lp [0, 1, 5] [] (.sq (.sq (rg [om 6 (.t 5),
 om 7 (.t 0),
 oo 8 (.ln (.t 7)),
 oo 9 (.bi .lss 0 (.t 6) (.t 8))])
 (.cd (.t 9) (.sk)
 (.ex 0)))
 (.sq (.bl 1 (.sq (rg [om 12 (.t 0),
 om 13 (.t 5),
 om 14 (.t 1),
 oo 15 (.ca .pure false (.f fid_laws_markText) [.t 14]),
 oo 16 (.ia 1 (.t 12) (.t 13)),
 on1 (.st 1 (.t 16) (.t 15))])
 (rg [om 17 (.t 1),
 oo 18 (.bi .add 0 (.t 17) (i6 1)),
 om 1 (.t 18)])))
 (rg [om 10 (.t 5),
 oo 11 (.bi .add 0 (.t 10) (i6 1)),
 om 5 (.t 11)]))))))
 (.sq (rg [om 19 (.t 1),
 om 4 (.t 19)])
 (.rt)))) }
theorem k_laws_markStringS : chkF Go.Proofs.Tryz.prog fid_laws_markStringS c_laws_markStringS = true := by kernel_rfl

def c_laws_markWireS : F2 :=
  { nt := 28, res := [.t 4 [0]], body :=
   (.sq (rg [om 4 (i6 0)])
 (.sq (.sq (rg [om 5 (i6 0)])
 (.bl 0 (.lp [0, 1, 5] [] (.sq (.sq (rg [om 6 (.t 5),
 om 7 (.t 0),
 oo 8 (.ln (.t 7)),
 oo 9 (.bi .lss 0 (.t 6) (.t 8))])
 (.cd (.t 9) (.sk)
 (.ex 0)))
 (.sq (.bl 1 (.sq (rg [om 12 (.t 0),
 om 13 (.t 5),
 om 14 (.t 1),
 oo 15 (.ca .pure false (.f fid_laws_markText) [.t 14]),
 oo 16 (.ia 2 (.t 12) (.t 13)),
 oo 17 (.fa 0 (.t 16)),
 on1 (.st 1 (.t 17) (.t 15))])
 (.sq (rg [om 18 (.t 1),
 oo 19 (.bi .add 0 (.t 18) (i6 1)),
 om 1 (.t 19)])
 (.sq (rg [om 20 (.t 0),
 om 21 (.t 5),
 om 22 (.t 1),
 oo 23 (.ia 2 (.t 20) (.t 21)),
 oo 24 (.fa 1 (.t 23)),
 on1 (.st 1 (.t 24) (.t 22))])
 (rg [om 25 (.t 1),
 oo 26 (.bi .add 0 (.t 25) (i6 1)),
 om 1 (.t 26)])))))
 (rg [om 10 (.t 5),
 oo 11 (.bi .add 0 (.t 10) (i6 1)),
 om 5 (.t 11)]))))))
 (.sq (rg [om 27 (.t 1),
 om 4 (.t 27)])
 (.rt)))) }
theorem k_laws_markWireS : chkF Go.Proofs.Tryz.prog fid_laws_markWireS c_laws_markWireS = true := by kernel_rfl

def c_laws_heldNodeS : F2 :=
  { nt := 40, res := [.t 4 [0]], body :=
   (.sq (rg [om 4 (i6 0)])
 (.sq (.sq (rg [om 5 (i6 0)])
 (.bl 0 (.lp [0, 1, 5] [] (.sq (.sq (rg [om 6 (.t 5),
 om 7 (.t 0),
 oo 8 (.ln (.t 7)),
 oo 9 (.bi .lss 0 (.t 6) (.t 8))])
 (.cd (.t 9) (.sk)
 (.ex 0)))
 (.sq (.bl 1 (.sq (.sq (rg [om 12 (.t 0),
 om 13 (.t 5),
 oo 14 (.ia 3 (.t 12) (.t 13)),
 oo 15 (.fa 0 (.t 14)),
 oo 16 (.ld none (.t 15)),
 om 17 (.t 1),
 oo 18 (.bi .neq 0 (.t 16) (.t 17))])
 (.cd (.t 18) (.sq (rg [om 4 (i6 (-1))])
 (.rt))
 (.sk)))
 (.sq (rg [om 19 (.t 1),
 oo 20 (.bi .add 0 (.t 19) (i6 1)),
 om 1 (.t 20)])
 (.sq (.sq (rg [om 21 (.t 0),
 om 22 (.t 5),
 oo 23 (.ia 3 (.t 21) (.t 22)),
 oo 24 (.fa 1 (.t 23)),
 oo 25 (.ld none (.t 24)),
 om 26 (.t 1),
 oo 27 (.bi .neq 0 (.t 25) (.t 26))])
 (.cd (.t 27) (.sq (rg [om 4 (i6 (-1))])
 (.rt))
 (.sk)))
 (.sq (rg [om 28 (.t 1),
 oo 29 (.bi .add 0 (.t 28) (i6 1)),
 om 1 (.t 29)])
 (.sq (rg [om 30 (.t 0),
 om 31 (.t 5),
 oo 32 (.ia 3 (.t 30) (.t 31)),
 oo 33 (.fa 2 (.t 32)),
 oo 34 (.ld none (.t 33)),
 om 35 (.t 1),
 oo 36 (.ca .pure false (.f fid_laws_heldIntS) [.t 34, .t 35]),
 om 1 (.t 36)])
 (.sq (rg [om 37 (.t 1),
 oo 38 (.bi .lss 0 (.t 37) (i6 0))])
 (.cd (.t 38) (.sq (rg [om 4 (i6 (-1))])
 (.rt))
 (.sk)))))))))
 (rg [om 10 (.t 5),
 oo 11 (.bi .add 0 (.t 10) (i6 1)),
 om 5 (.t 11)]))))))
 (.sq (rg [om 39 (.t 1),
 om 4 (.t 39)])
 (.rt)))) }
theorem k_laws_heldNodeS : chkF Go.Proofs.Tryz.prog fid_laws_heldNodeS c_laws_heldNodeS = true := by kernel_rfl

def c_laws_heldIntS : F2 :=
  { nt := 21, res := [.t 4 [0]], body :=
   (.sq (rg [om 4 (i6 0)])
 (.sq (.sq (rg [om 5 (i6 0)])
 (.bl 0 (.lp [0, 1, 5] [] (.sq (.sq (rg [om 6 (.t 5),
 om 7 (.t 0),
 oo 8 (.ln (.t 7)),
 oo 9 (.bi .lss 0 (.t 6) (.t 8))])
 (.cd (.t 9) (.sk)
 (.ex 0)))
 (.sq (.bl 1 (.sq (.sq (rg [om 12 (.t 0),
 om 13 (.t 5),
 oo 14 (.ia 1 (.t 12) (.t 13)),
 oo 15 (.ld none (.t 14)),
 om 16 (.t 1),
 oo 17 (.bi .neq 0 (.t 15) (.t 16))])
 (.cd (.t 17) (.sq (rg [om 4 (i6 (-1))])
 (.rt))
 (.sk)))
 (rg [om 18 (.t 1),
 oo 19 (.bi .add 0 (.t 18) (i6 1)),
 om 1 (.t 19)])))
 (rg [om 10 (.t 5),
 oo 11 (.bi .add 0 (.t 10) (i6 1)),
 om 5 (.t 11)]))))))
 (.sq (rg [om 20 (.t 1),
 om 4 (.t 20)])
 (.rt)))) }
theorem k_laws_heldIntS : chkF Go.Proofs.Tryz.prog fid_laws_heldIntS c_laws_heldIntS = true := by kernel_rfl

def c_laws_heldStringS : F2 :=
  { nt := 22, res := [.t 4 [0]], body :=
   (.sq (rg [om 4 (i6 0)])
 (.sq (.sq (rg [om 5 (i6 0)])
 (.bl 0 (.lp [0, 1, 5] [] (.sq (.sq (rg [om 6 (.t 5),
 om 7 (.t 0),
 oo 8 (.ln (.t 7)),
 oo 9 (.bi .lss 0 (.t 6) (.t 8))])
 (.cd (.t 9) (.sk)
 (.ex 0)))
 (.sq (.bl 1 (.sq (.sq (.rg (some 0) [om 12 (.t 0),
 om 13 (.t 5),
 oo 14 (.ia 1 (.t 12) (.t 13)),
 oo 15 (.ld none (.t 14)),
 om 16 (.t 1),
 oo 17 (.ca .pure false (.f fid_laws_markText) [.t 16]),
 oo 18 (.bi .neq 0 (.t 15) (.t 17))])
 (.cd (.t 18) (.sq (rg [om 4 (i6 (-1))])
 (.rt))
 (.sk)))
 (rg [om 19 (.t 1),
 oo 20 (.bi .add 0 (.t 19) (i6 1)),
 om 1 (.t 20)])))
 (rg [om 10 (.t 5),
 oo 11 (.bi .add 0 (.t 10) (i6 1)),
 om 5 (.t 11)]))))))
 (.sq (rg [om 21 (.t 1),
 om 4 (.t 21)])
 (.rt)))) }
theorem k_laws_heldStringS : chkF Go.Proofs.Tryz.prog fid_laws_heldStringS c_laws_heldStringS = true := by kernel_rfl

def c_laws_heldWireS : F2 :=
  { nt := 32, res := [.t 4 [0]], body :=
   (.sq (rg [om 4 (i6 0)])
 (.sq (.sq (rg [om 5 (i6 0)])
 (.bl 0 (.lp [0, 1, 5] [] (.sq (.sq (rg [om 6 (.t 5),
 om 7 (.t 0),
 oo 8 (.ln (.t 7)),
 oo 9 (.bi .lss 0 (.t 6) (.t 8))])
 (.cd (.t 9) (.sk)
 (.ex 0)))
 (.sq (.bl 1 (.sq (.sq (.rg (some 0) [om 12 (.t 0),
 om 13 (.t 5),
 oo 14 (.ia 2 (.t 12) (.t 13)),
 oo 15 (.fa 0 (.t 14)),
 oo 16 (.ld none (.t 15)),
 om 17 (.t 1),
 oo 18 (.ca .pure false (.f fid_laws_markText) [.t 17]),
 oo 19 (.bi .neq 0 (.t 16) (.t 18))])
 (.cd (.t 19) (.sq (rg [om 4 (i6 (-1))])
 (.rt))
 (.sk)))
 (.sq (rg [om 20 (.t 1),
 oo 21 (.bi .add 0 (.t 20) (i6 1)),
 om 1 (.t 21)])
 (.sq (.sq (rg [om 22 (.t 0),
 om 23 (.t 5),
 oo 24 (.ia 2 (.t 22) (.t 23)),
 oo 25 (.fa 1 (.t 24)),
 oo 26 (.ld none (.t 25)),
 om 27 (.t 1),
 oo 28 (.bi .neq 0 (.t 26) (.t 27))])
 (.cd (.t 28) (.sq (rg [om 4 (i6 (-1))])
 (.rt))
 (.sk)))
 (rg [om 29 (.t 1),
 oo 30 (.bi .add 0 (.t 29) (i6 1)),
 om 1 (.t 30)])))))
 (rg [om 10 (.t 5),
 oo 11 (.bi .add 0 (.t 10) (i6 1)),
 om 5 (.t 11)]))))))
 (.sq (rg [om 31 (.t 1),
 om 4 (.t 31)])
 (.rt)))) }
theorem k_laws_heldWireS : chkF Go.Proofs.Tryz.prog fid_laws_heldWireS c_laws_heldWireS = true := by kernel_rfl

end Go.Fd

/-
  THE TEXT OF A MARK; THE MARKS OF NUMBERS AND TEXTS. Own work.
-/
namespace Go.Fd
set_option maxRecDepth 20000
abbrev mInt (_ : Int) (k : Int) : Int := k
abbrev nInt (_ : Int) : Nat := 1
def mt (q : Nat) (o : ByteArray) : ByteArray := if q = 0 then o else mt (q / 10) (⟨#[UInt8.ofNat (48 + q % 10)]⟩ ++ o)
  termination_by q
  decreasing_by omega
theorem mt_pos {q : Nat} {o : ByteArray} (h : 0 < q) : mt q o = mt (q / 10) (⟨#[UInt8.ofNat (48 + q % 10)]⟩ ++ o) := by
  rw [mt, if_neg (by omega)]
theorem mt_zero {o : ByteArray} : mt 0 o = o := by rw [mt, if_pos rfl]
def markT (k : Int) : ByteArray := if k ≤ 0 then ⟨#[109, 48]⟩ else ⟨#[109]⟩ ++ mt k.toNat ⟨#[]⟩
theorem sem_markText (k : Int) (h : k ≤ 4611686018427387904) (lvl : Nat) (S : Sto) : Sem Go.Proofs.Tryz.prog fid_laws_markText lvl [iI k] S (iS (markT k)) S := by
  refine sem_of_chk k_laws_markText trivial ?_
  simp only [c_laws_markText, EVA, ↓reduceIte, Nat.reduceEqDiff, Nat.reduceMul, reduceCtorEq, Nat.reduceAdd, Nat.reduceSub, Nat.reduceLeDiff, Nat.reduceLT, Int.reduceToNat, Int.reduceLE, Int.reduceLT, mens, men]
  unfold markT
  refine ite_of (fun h0 => ?_) (fun h0 => ?_)
  · rw [if_pos h0]
  · rw [if_neg h0]
    obtain ⟨K, hK⟩ : ∃ K : Nat, k = K := ⟨k.toNat, by omega⟩
    subst hK
    rw [Int.toNat_natCast]
    refine wp_count (α := Nat × ByteArray) K (fun j y => ⟨lvl, [(0, iI y.1), (3, iS y.2)], [], S⟩) (fun j y => y.1 + j ≤ K ∧ mt y.1 y.2 = mt K ⟨#[]⟩ ∧ y.1 * 10 ^ y.2.size ≤ K ∧ y.2.size ≤ 19) (K, ⟨#[]⟩) ⟨by simp only [EVA, ↓reduceIte, Nat.reduceEqDiff, Nat.reduceMul, reduceCtorEq, Nat.reduceAdd, Nat.reduceSub, Nat.reduceLeDiff, Nat.reduceLT, Int.reduceToNat, Int.reduceLE, Int.reduceLT, mens, men], by simp only [EVA, ↓reduceIte, Nat.reduceEqDiff, Nat.reduceMul, reduceCtorEq, Nat.reduceAdd, Nat.reduceSub, Nat.reduceLeDiff, Nat.reduceLT, Int.reduceToNat, Int.reduceLE, Int.reduceLT, mens, men]⟩ ⟨Nat.le_refl _, rfl, Nat.le_of_eq (Nat.mul_one K), (by decide : (0 : Nat) ≤ 19)⟩ ?_
    intro j y hj hA
    obtain ⟨q, o⟩ := y
    obtain ⟨h1, h2, h3, h4⟩ := hA
    simp only at h1 h2 h3 h4
    simp only [EVA, ↓reduceIte, Nat.reduceEqDiff, Nat.reduceMul, reduceCtorEq, Nat.reduceAdd, Nat.reduceSub, Nat.reduceLeDiff, Nat.reduceLT, Int.reduceToNat, Int.reduceLE, Int.reduceLT, mens, men]
    refine ite_of (fun hq => ?_) (fun hq => ?_)
    · have hq0 : 0 < q := by omega
      have hby : byR [[Tr.v (Value.int IntKind.u8 (48 + (q : Int) % 10))]] = some [UInt8.ofNat (48 + q % 10)] := by
        have e : (48 + (q : Int) % 10).toNat = 48 + q % 10 := by omega
        simp only [cut, List.replicate_one, List.set_cons_zero, List.drop_zero, List.take_succ_cons, List.take_zero, byR, Option.map_some, e]
      have h5 : o.size < 19 := by
        apply Classical.byContradiction
        intro hc
        have e : o.size = 19 := by omega
        rw [e] at h3
        have : 1 * 10 ^ 19 ≤ q * 10 ^ 19 := Nat.mul_le_mul_right _ hq0
        omega
      have h6 : q / 10 * 10 ^ (o.size + 1) ≤ K := by
        refine Nat.le_trans ?_ h3
        rw [Nat.pow_succ, Nat.mul_comm (10 ^ o.size) 10, ← Nat.mul_assoc]
        exact Nat.mul_le_mul_right _ (by omega)
      rw [hby]
      simp only [EVA, ↓reduceIte, Nat.reduceEqDiff, Nat.reduceMul, reduceCtorEq, Nat.reduceAdd, Nat.reduceSub, Nat.reduceLeDiff, Nat.reduceLT, Int.reduceToNat, Int.reduceLE, Int.reduceLT, mens, men]
      have hs : (ByteArray.mk #[UInt8.ofNat (48 + q % 10)] ++ o).size = o.size + 1 := by
        rw [ByteArray.size_append, Nat.add_comm]; rfl
      have e8 : fits .u8 (48 + (q : Int) % 10) := by
        constructor
        · show (0 : Int) ≤ _; omega
        · show _ ≤ (255 : Int); omega
      refine ⟨by rw [fits_i64]; omega, e8, ?_, by rw [fits_i64]; omega, cntJ_intro (q / 10, ByteArray.mk #[UInt8.ofNat (48 + q % 10)] ++ o) (by omega) ?_ ⟨by simp only; omega, ?_, ?_, ?_⟩⟩
      · show 1 + o.size ≤ 4294967296
        omega
      · rfl
      · rw [← h2, mt_pos hq0]
      · simp only [hs]; exact h6
      · simp only [hs]; omega
    · have : q = 0 := by omega
      subst this
      rw [← h2, mt_zero]
      refine ⟨?_, rfl⟩
      show 1 + o.size ≤ 4294967296
      omega
abbrev mStr (_ : ByteArray) (k : Int) : ByteArray := markT k
abbrev nStr (_ : ByteArray) : Nat := 1
end Go.Fd

/-
  WHAT THE MARKING FUNCTIONS DO (printed by lawgen.py). Own work.
-/
namespace Go.Fd
set_option maxRecDepth 20000
theorem mark_IntS : MarkS Go.Proofs.Tryz.prog fid_laws_markIntS (fun n : Int => [tv n]) mInt nInt (fun _ => True) := by
  intro a k lvl S id p es r0 kk hw ver st cap hid hv hst h0 hk hl hB
  have hne : id.1 ≠ lvl := by omega
  have hgp : ∀ r, getp (putp es p r) p = some r := fun r => getp_putp hv
  refine sem_of_chk k_laws_markIntS trivial ?_
  simp only [c_laws_markIntS, EVA, ↓reduceIte, Nat.reduceEqDiff, Nat.reduceMul, reduceCtorEq, Nat.reduceAdd, Nat.reduceSub, Nat.reduceLeDiff, Nat.reduceLT, Int.reduceToNat, Int.reduceLE, Int.reduceLT, mens, men]
  refine wp_count (α := Unit) a.length (fun j _ => ⟨lvl, [(0, .hd id p 0 a.length cap st), (1, iI (kJ nInt a k j)), (5, iI j)], [], sset S id (.ar kk (putp es p ((lJ mInt nInt a k j).map (fun n : Int => [tv n]))) true hw ver)⟩) (fun _ _ => True) () ⟨by simp only [r_okmo hne, EVA, ↓reduceIte, Nat.reduceEqDiff, Nat.reduceMul, reduceCtorEq, Nat.reduceAdd, Nat.reduceSub, Nat.reduceLeDiff, Nat.reduceLT, Int.reduceToNat, Int.reduceLE, Int.reduceLT, mens, men], by (simp only [kJ_zero, lJ_zero, EVA, ↓reduceIte, Nat.reduceEqDiff, Nat.reduceMul, reduceCtorEq, Nat.reduceAdd, Nat.reduceSub, Nat.reduceLeDiff, Nat.reduceLT, Int.reduceToNat, Int.reduceLE, Int.reduceLT, mens, men]) <;> rfl⟩ trivial ?_
  intro j _ hj _
  simp only [List.length_map, EVA, ↓reduceIte, Nat.reduceEqDiff, Nat.reduceMul, reduceCtorEq, Nat.reduceAdd, Nat.reduceSub, Nat.reduceLeDiff, Nat.reduceLT, Int.reduceToNat, Int.reduceLE, Int.reduceLT, mens, men]
  refine ite_of (fun hlt => ?_) (fun hge => ?_)
  · have hja : j < a.length := by omega
    obtain ⟨R, hjR, hR, hR'⟩ := lJ_row mInt nInt (fun n : Int => [tv n]) (k := k) hja
    have hge2 := kJ_le nInt (a := a) (k := k) (j := j + 1)
    rw [kJ_succ nInt hja] at hge2
    have hge3 := kJ_ge nInt (a := a) (k := k) (j := j)
    rw [hR]
    try simp only [nInt] at hge2
    try simp only [r_packo hne, r_setObo hne, psset_sset, r_sset, hst, hgp, rset_get hjR, setp_row hv hjR, Nat.zero_add, hja, r_okmo hne, List.length_map, tv, EVA, ↓reduceIte, Nat.reduceEqDiff, Nat.reduceMul, reduceCtorEq, Nat.reduceAdd, Nat.reduceSub, Nat.reduceLeDiff, Nat.reduceLT, Int.reduceToNat, Int.reduceLE, Int.reduceLT, mens, men]
    refine ⟨by rw [fits_i64]; omega, ⟨by rw [fits_i64]; omega, cntJ_intro () hja ?_ trivial⟩⟩
    rw [kJ_succ nInt hja, hR']
    simp only [nInt, mInt, tv, Int.natCast_add, Int.natCast_one, Int.add_assoc]
    try rfl
  · have : j = a.length := by omega
    subst this
    rw [kJ_all, lJ_all]
    exact ⟨rfl, rfl⟩
def mNode (x : TNode) (k : Int) : TNode := { control := k, parent := k + 1, links := mL mInt nInt x.links (k + 1 + 1) }
def nNode (x : TNode) : Nat := 1 + 1 + nL nInt x.links
theorem mark_NodeS : MarkS Go.Proofs.Tryz.prog fid_laws_markNodeS cNode mNode nNode (bdNode 4294967296) := by
  intro a k lvl S id p es r0 kk hw ver st cap hid hv hst h0 hk hl hB
  have hne : id.1 ≠ lvl := by omega
  have hgp : ∀ r, getp (putp es p r) p = some r := fun r => getp_putp hv
  refine sem_of_chk k_laws_markNodeS trivial ?_
  simp only [c_laws_markNodeS, EVA, ↓reduceIte, Nat.reduceEqDiff, Nat.reduceMul, reduceCtorEq, Nat.reduceAdd, Nat.reduceSub, Nat.reduceLeDiff, Nat.reduceLT, Int.reduceToNat, Int.reduceLE, Int.reduceLT, mens, men]
  refine wp_count (α := Unit) a.length (fun j _ => ⟨lvl, [(0, .hd id p 0 a.length cap st), (1, iI (kJ nNode a k j)), (5, iI j)], [], sset S id (.ar kk (putp es p ((lJ mNode nNode a k j).map cNode)) true hw ver)⟩) (fun _ _ => True) () ⟨by simp only [r_okmo hne, EVA, ↓reduceIte, Nat.reduceEqDiff, Nat.reduceMul, reduceCtorEq, Nat.reduceAdd, Nat.reduceSub, Nat.reduceLeDiff, Nat.reduceLT, Int.reduceToNat, Int.reduceLE, Int.reduceLT, mens, men], by (simp only [kJ_zero, lJ_zero, EVA, ↓reduceIte, Nat.reduceEqDiff, Nat.reduceMul, reduceCtorEq, Nat.reduceAdd, Nat.reduceSub, Nat.reduceLeDiff, Nat.reduceLT, Int.reduceToNat, Int.reduceLE, Int.reduceLT, mens, men]) <;> rfl⟩ trivial ?_
  intro j _ hj _
  simp only [List.length_map, EVA, ↓reduceIte, Nat.reduceEqDiff, Nat.reduceMul, reduceCtorEq, Nat.reduceAdd, Nat.reduceSub, Nat.reduceLeDiff, Nat.reduceLT, Int.reduceToNat, Int.reduceLE, Int.reduceLT, mens, men]
  refine ite_of (fun hlt => ?_) (fun hge => ?_)
  · have hja : j < a.length := by omega
    obtain ⟨R, hjR, hR, hR'⟩ := lJ_row mNode nNode cNode (k := k) hja
    have hge2 := kJ_le nNode (a := a) (k := k) (j := j + 1)
    rw [kJ_succ nNode hja] at hge2
    have hge3 := kJ_ge nNode (a := a) (k := k) (j := j)
    rw [hR]
    try simp only [nNode] at hge2
    have hb := hB _ (List.getElem_mem hja)
    have b0 : (a[j]).links.length ≤ 4294967296 := hb
    try simp only [r_packo hne, r_setObo hne, psset_sset, r_sset, hst, hgp, rset_get hjR, setp_row hv hjR, Nat.zero_add, hja, r_okmo hne, List.length_map, cNode, EVA, ↓reduceIte, Nat.reduceEqDiff, Nat.reduceMul, reduceCtorEq, Nat.reduceAdd, Nat.reduceSub, Nat.reduceLeDiff, Nat.reduceLT, Int.reduceToNat, Int.reduceLE, Int.reduceLT, mens, men]
    refine ⟨by rw [fits_i64]; omega, ⟨by rw [fits_i64]; omega, ?_⟩⟩
    simp only [arg1]
    refine kcy_mark mark_IntS hid hv (by omega) (by omega) b0 (fun _ _ => trivial) hjR rfl (by simp only [List.length_map]) ?_
    simp only [List.set_cons_succ, List.set_cons_zero, r_packo hne, r_setObo hne, psset_sset, r_sset, hst, hgp, rset_get hjR, setp_row hv hjR, Nat.zero_add, hja, r_okmo hne, List.length_map, cNode, EVA, ↓reduceIte, Nat.reduceEqDiff, Nat.reduceMul, reduceCtorEq, Nat.reduceAdd, Nat.reduceSub, Nat.reduceLeDiff, Nat.reduceLT, Int.reduceToNat, Int.reduceLE, Int.reduceLT, mens, men]
    refine ⟨by rw [fits_i64]; omega, cntJ_intro () hja ?_ trivial⟩
    rw [kJ_succ nNode hja, hR']
    simp only [nNode, mNode, cNode, Int.natCast_add, Int.natCast_one, Int.add_assoc]
    try rfl
  · have : j = a.length := by omega
    subst this
    rw [kJ_all, lJ_all]
    exact ⟨rfl, rfl⟩
theorem mark_StringS : MarkS Go.Proofs.Tryz.prog fid_laws_markStringS (fun n : ByteArray => [ts n]) mStr nStr (fun x => x.size ≤ 4294967296) := by
  intro a k lvl S id p es r0 kk hw ver st cap hid hv hst h0 hk hl hB
  have hne : id.1 ≠ lvl := by omega
  have hgp : ∀ r, getp (putp es p r) p = some r := fun r => getp_putp hv
  refine sem_of_chk k_laws_markStringS trivial ?_
  simp only [c_laws_markStringS, EVA, ↓reduceIte, Nat.reduceEqDiff, Nat.reduceMul, reduceCtorEq, Nat.reduceAdd, Nat.reduceSub, Nat.reduceLeDiff, Nat.reduceLT, Int.reduceToNat, Int.reduceLE, Int.reduceLT, mens, men]
  refine wp_count (α := Unit) a.length (fun j _ => ⟨lvl, [(0, .hd id p 0 a.length cap st), (1, iI (kJ nStr a k j)), (5, iI j)], [], sset S id (.ar kk (putp es p ((lJ mStr nStr a k j).map (fun n : ByteArray => [ts n]))) true hw ver)⟩) (fun _ _ => True) () ⟨by simp only [r_okmo hne, EVA, ↓reduceIte, Nat.reduceEqDiff, Nat.reduceMul, reduceCtorEq, Nat.reduceAdd, Nat.reduceSub, Nat.reduceLeDiff, Nat.reduceLT, Int.reduceToNat, Int.reduceLE, Int.reduceLT, mens, men], by (simp only [kJ_zero, lJ_zero, EVA, ↓reduceIte, Nat.reduceEqDiff, Nat.reduceMul, reduceCtorEq, Nat.reduceAdd, Nat.reduceSub, Nat.reduceLeDiff, Nat.reduceLT, Int.reduceToNat, Int.reduceLE, Int.reduceLT, mens, men]) <;> rfl⟩ trivial ?_
  intro j _ hj _
  simp only [List.length_map, EVA, ↓reduceIte, Nat.reduceEqDiff, Nat.reduceMul, reduceCtorEq, Nat.reduceAdd, Nat.reduceSub, Nat.reduceLeDiff, Nat.reduceLT, Int.reduceToNat, Int.reduceLE, Int.reduceLT, mens, men]
  refine ite_of (fun hlt => ?_) (fun hge => ?_)
  · have hja : j < a.length := by omega
    obtain ⟨R, hjR, hR, hR'⟩ := lJ_row mStr nStr (fun n : ByteArray => [ts n]) (k := k) hja
    have hge2 := kJ_le nStr (a := a) (k := k) (j := j + 1)
    rw [kJ_succ nStr hja] at hge2
    have hge3 := kJ_ge nStr (a := a) (k := k) (j := j)
    rw [hR]
    try simp only [nStr] at hge2
    try simp only [r_packo hne, r_setObo hne, psset_sset, r_sset, hst, hgp, rset_get hjR, setp_row hv hjR, Nat.zero_add, hja, r_okmo hne, List.length_map, tv, EVA, ↓reduceIte, Nat.reduceEqDiff, Nat.reduceMul, reduceCtorEq, Nat.reduceAdd, Nat.reduceSub, Nat.reduceLeDiff, Nat.reduceLT, Int.reduceToNat, Int.reduceLE, Int.reduceLT, mens, men]
    refine kca_intro (sem_markText (kJ nStr a k j) (by omega)) ?_
    simp only [r_packo hne, r_setObo hne, psset_sset, r_sset, hst, hgp, rset_get hjR, setp_row hv hjR, Nat.zero_add, hja, r_okmo hne, List.length_map, tv, EVA, ↓reduceIte, Nat.reduceEqDiff, Nat.reduceMul, reduceCtorEq, Nat.reduceAdd, Nat.reduceSub, Nat.reduceLeDiff, Nat.reduceLT, Int.reduceToNat, Int.reduceLE, Int.reduceLT, mens, men]
    refine ⟨by rw [fits_i64]; omega, ⟨by rw [fits_i64]; omega, cntJ_intro () hja ?_ trivial⟩⟩
    rw [kJ_succ nStr hja, hR']
    simp only [nStr, mStr, tv, Int.natCast_add, Int.natCast_one, Int.add_assoc]
    try rfl
  · have : j = a.length := by omega
    subst this
    rw [kJ_all, lJ_all]
    exact ⟨rfl, rfl⟩
def mWire (x : TWire) (k : Int) : TWire := { name := markT (k), link := k + 1 }
def nWire (x : TWire) : Nat := 1 + 1
theorem mark_WireS : MarkS Go.Proofs.Tryz.prog fid_laws_markWireS cWire mWire nWire (bdWire 4294967296) := by
  intro a k lvl S id p es r0 kk hw ver st cap hid hv hst h0 hk hl hB
  have hne : id.1 ≠ lvl := by omega
  have hgp : ∀ r, getp (putp es p r) p = some r := fun r => getp_putp hv
  refine sem_of_chk k_laws_markWireS trivial ?_
  simp only [c_laws_markWireS, EVA, ↓reduceIte, Nat.reduceEqDiff, Nat.reduceMul, reduceCtorEq, Nat.reduceAdd, Nat.reduceSub, Nat.reduceLeDiff, Nat.reduceLT, Int.reduceToNat, Int.reduceLE, Int.reduceLT, mens, men]
  refine wp_count (α := Unit) a.length (fun j _ => ⟨lvl, [(0, .hd id p 0 a.length cap st), (1, iI (kJ nWire a k j)), (5, iI j)], [], sset S id (.ar kk (putp es p ((lJ mWire nWire a k j).map cWire)) true hw ver)⟩) (fun _ _ => True) () ⟨by simp only [r_okmo hne, EVA, ↓reduceIte, Nat.reduceEqDiff, Nat.reduceMul, reduceCtorEq, Nat.reduceAdd, Nat.reduceSub, Nat.reduceLeDiff, Nat.reduceLT, Int.reduceToNat, Int.reduceLE, Int.reduceLT, mens, men], by (simp only [kJ_zero, lJ_zero, EVA, ↓reduceIte, Nat.reduceEqDiff, Nat.reduceMul, reduceCtorEq, Nat.reduceAdd, Nat.reduceSub, Nat.reduceLeDiff, Nat.reduceLT, Int.reduceToNat, Int.reduceLE, Int.reduceLT, mens, men]) <;> rfl⟩ trivial ?_
  intro j _ hj _
  simp only [List.length_map, EVA, ↓reduceIte, Nat.reduceEqDiff, Nat.reduceMul, reduceCtorEq, Nat.reduceAdd, Nat.reduceSub, Nat.reduceLeDiff, Nat.reduceLT, Int.reduceToNat, Int.reduceLE, Int.reduceLT, mens, men]
  refine ite_of (fun hlt => ?_) (fun hge => ?_)
  · have hja : j < a.length := by omega
    obtain ⟨R, hjR, hR, hR'⟩ := lJ_row mWire nWire cWire (k := k) hja
    have hge2 := kJ_le nWire (a := a) (k := k) (j := j + 1)
    rw [kJ_succ nWire hja] at hge2
    have hge3 := kJ_ge nWire (a := a) (k := k) (j := j)
    rw [hR]
    try simp only [nWire] at hge2
    have hb := hB _ (List.getElem_mem hja)
    have b0 : (a[j]).name.size ≤ 4294967296 := hb
    try simp only [r_packo hne, r_setObo hne, psset_sset, r_sset, hst, hgp, rset_get hjR, setp_row hv hjR, Nat.zero_add, hja, r_okmo hne, List.length_map, cWire, EVA, ↓reduceIte, Nat.reduceEqDiff, Nat.reduceMul, reduceCtorEq, Nat.reduceAdd, Nat.reduceSub, Nat.reduceLeDiff, Nat.reduceLT, Int.reduceToNat, Int.reduceLE, Int.reduceLT, mens, men]
    refine kca_intro (sem_markText (kJ nWire a k j) (by omega)) ?_
    simp only [r_packo hne, r_setObo hne, psset_sset, r_sset, hst, hgp, rset_get hjR, setp_row hv hjR, Nat.zero_add, hja, r_okmo hne, List.length_map, cWire, EVA, ↓reduceIte, Nat.reduceEqDiff, Nat.reduceMul, reduceCtorEq, Nat.reduceAdd, Nat.reduceSub, Nat.reduceLeDiff, Nat.reduceLT, Int.reduceToNat, Int.reduceLE, Int.reduceLT, mens, men]
    refine ⟨by rw [fits_i64]; omega, ⟨by rw [fits_i64]; omega, ⟨by rw [fits_i64]; omega, cntJ_intro () hja ?_ trivial⟩⟩⟩
    rw [kJ_succ nWire hja, hR']
    simp only [nWire, mWire, cWire, Int.natCast_add, Int.natCast_one, Int.add_assoc]
    try rfl
  · have : j = a.length := by omega
    subst this
    rw [kJ_all, lJ_all]
    exact ⟨rfl, rfl⟩
def mControl (x : TControl) (k : Int) : TControl := { name := markT (k), ports := k + 1, kind_ := k + 1 + 1 }
def nControl (x : TControl) : Nat := 1 + 1 + 1
theorem mark_ControlS : MarkS Go.Proofs.Tryz.prog fid_laws_markControlS cControl mControl nControl (bdControl 4294967296) := by
  intro a k lvl S id p es r0 kk hw ver st cap hid hv hst h0 hk hl hB
  have hne : id.1 ≠ lvl := by omega
  have hgp : ∀ r, getp (putp es p r) p = some r := fun r => getp_putp hv
  refine sem_of_chk k_laws_markControlS trivial ?_
  simp only [c_laws_markControlS, EVA, ↓reduceIte, Nat.reduceEqDiff, Nat.reduceMul, reduceCtorEq, Nat.reduceAdd, Nat.reduceSub, Nat.reduceLeDiff, Nat.reduceLT, Int.reduceToNat, Int.reduceLE, Int.reduceLT, mens, men]
  refine wp_count (α := Unit) a.length (fun j _ => ⟨lvl, [(0, .hd id p 0 a.length cap st), (1, iI (kJ nControl a k j)), (5, iI j)], [], sset S id (.ar kk (putp es p ((lJ mControl nControl a k j).map cControl)) true hw ver)⟩) (fun _ _ => True) () ⟨by simp only [r_okmo hne, EVA, ↓reduceIte, Nat.reduceEqDiff, Nat.reduceMul, reduceCtorEq, Nat.reduceAdd, Nat.reduceSub, Nat.reduceLeDiff, Nat.reduceLT, Int.reduceToNat, Int.reduceLE, Int.reduceLT, mens, men], by (simp only [kJ_zero, lJ_zero, EVA, ↓reduceIte, Nat.reduceEqDiff, Nat.reduceMul, reduceCtorEq, Nat.reduceAdd, Nat.reduceSub, Nat.reduceLeDiff, Nat.reduceLT, Int.reduceToNat, Int.reduceLE, Int.reduceLT, mens, men]) <;> rfl⟩ trivial ?_
  intro j _ hj _
  simp only [List.length_map, EVA, ↓reduceIte, Nat.reduceEqDiff, Nat.reduceMul, reduceCtorEq, Nat.reduceAdd, Nat.reduceSub, Nat.reduceLeDiff, Nat.reduceLT, Int.reduceToNat, Int.reduceLE, Int.reduceLT, mens, men]
  refine ite_of (fun hlt => ?_) (fun hge => ?_)
  · have hja : j < a.length := by omega
    obtain ⟨R, hjR, hR, hR'⟩ := lJ_row mControl nControl cControl (k := k) hja
    have hge2 := kJ_le nControl (a := a) (k := k) (j := j + 1)
    rw [kJ_succ nControl hja] at hge2
    have hge3 := kJ_ge nControl (a := a) (k := k) (j := j)
    rw [hR]
    try simp only [nControl] at hge2
    have hb := hB _ (List.getElem_mem hja)
    have b0 : (a[j]).name.size ≤ 4294967296 := hb
    try simp only [r_packo hne, r_setObo hne, psset_sset, r_sset, hst, hgp, rset_get hjR, setp_row hv hjR, Nat.zero_add, hja, r_okmo hne, List.length_map, cControl, EVA, ↓reduceIte, Nat.reduceEqDiff, Nat.reduceMul, reduceCtorEq, Nat.reduceAdd, Nat.reduceSub, Nat.reduceLeDiff, Nat.reduceLT, Int.reduceToNat, Int.reduceLE, Int.reduceLT, mens, men]
    refine kca_intro (sem_markText (kJ nControl a k j) (by omega)) ?_
    simp only [r_packo hne, r_setObo hne, psset_sset, r_sset, hst, hgp, rset_get hjR, setp_row hv hjR, Nat.zero_add, hja, r_okmo hne, List.length_map, cControl, EVA, ↓reduceIte, Nat.reduceEqDiff, Nat.reduceMul, reduceCtorEq, Nat.reduceAdd, Nat.reduceSub, Nat.reduceLeDiff, Nat.reduceLT, Int.reduceToNat, Int.reduceLE, Int.reduceLT, mens, men]
    refine ⟨by rw [fits_i64]; omega, ⟨by rw [fits_i64]; omega, ⟨by rw [fits_i64]; omega, ⟨by rw [fits_i64]; omega, cntJ_intro () hja ?_ trivial⟩⟩⟩⟩
    rw [kJ_succ nControl hja, hR']
    simp only [nControl, mControl, cControl, Int.natCast_add, Int.natCast_one, Int.add_assoc]
    try rfl
  · have : j = a.length := by omega
    subst this
    rw [kJ_all, lJ_all]
    exact ⟨rfl, rfl⟩
end Go.Fd

/-
  The annotated codes of the functions, printed by a program of mine (gen.py), and the check that they belong to the program.
-/
namespace Go.Fd
def c_laws_szBigraph : F2 :=
  { nt := 30, res := [.t 4 [0]], body :=
   (.sq (rg [oo 2 (.bt (.t 0)),
 om 4 (i6 0)])
 (.sq (rg [oo 5 (.fa 1 (.t 2)),
 oo 6 (.ld none (.t 5)),
 om 7 (.t 1),
 oo 8 (.ca .pure false (.f fid_laws_szNodeS) [.t 6, .t 7]),
 om 1 (.t 8)])
 (.sq (.sq (rg [om 9 (.t 1),
 oo 10 (.bi .lss 0 (.t 9) (i6 0))])
 (.cd (.t 10) (.sq (rg [om 4 (i6 (-1))])
 (.rt))
 (.sk)))
 (.sq (rg [oo 11 (.fa 2 (.t 2)),
 oo 12 (.ld none (.t 11)),
 om 13 (.t 1),
 oo 14 (.ca .pure false (.f fid_laws_szIntS) [.t 12, .t 13]),
 om 1 (.t 14)])
 (.sq (.sq (rg [om 15 (.t 1),
 oo 16 (.bi .lss 0 (.t 15) (i6 0))])
 (.cd (.t 16) (.sq (rg [om 4 (i6 (-1))])
 (.rt))
 (.sk)))
 (.sq (rg [oo 17 (.fa 4 (.t 2)),
 oo 18 (.ld none (.t 17)),
 om 19 (.t 1),
 oo 20 (.ca .pure false (.f fid_laws_szStringS) [.t 18, .t 19]),
 om 1 (.t 20)])
 (.sq (.sq (rg [om 21 (.t 1),
 oo 22 (.bi .lss 0 (.t 21) (i6 0))])
 (.cd (.t 22) (.sq (rg [om 4 (i6 (-1))])
 (.rt))
 (.sk)))
 (.sq (rg [oo 23 (.fa 5 (.t 2)),
 oo 24 (.ld none (.t 23)),
 om 25 (.t 1),
 oo 26 (.ca .pure false (.f fid_laws_szWireS) [.t 24, .t 25]),
 om 1 (.t 26)])
 (.sq (.sq (rg [om 27 (.t 1),
 oo 28 (.bi .lss 0 (.t 27) (i6 0))])
 (.cd (.t 28) (.sq (rg [om 4 (i6 (-1))])
 (.rt))
 (.sk)))
 (.sq (rg [om 29 (.t 1),
 om 4 (.t 29)])
 (.rt))))))))))) }
theorem k_laws_szBigraph : chkF Go.Proofs.Tryz.prog fid_laws_szBigraph c_laws_szBigraph = true := by kernel_rfl

def c_laws_toControlS : F2 :=
  { nt := 23, res := [.t 2 [4]], body :=
   (.sq (rg [om 2 (.k (.slice none 0 0))])
 (.sq (rg [om 5 (.t 0),
 oo 6 (.ln (.t 5)),
 oo 7 (.ms 3 [.string ⟨#[]⟩, .int .i64 0, .int .i64 0] (.t 6)),
 om 3 (.t 7)])
 (.sq (.sq (rg [om 4 (i6 0)])
 (.bl 0 (.lp [0, 3, 4] [224] (.sq (.sq (rg [om 8 (.t 4),
 om 9 (.t 0),
 oo 10 (.ln (.t 9)),
 oo 11 (.bi .lss 0 (.t 8) (.t 10))])
 (.cd (.t 11) (.sk)
 (.ex 0)))
 (.sq (.bl 1 (rg [om 14 (.t 3),
 om 15 (.t 4),
 om 16 (.t 0),
 om 17 (.t 4),
 oo 18 (.ia 3 (.t 16) (.t 17)),
 oo 19 (.ld (some 3) (.t 18)),
 oo 20 (.ca .pure true (.f fid_laws_toControl) [.t 19]),
 oo 21 (.ia 3 (.t 14) (.t 15)),
 on1 (.st 3 (.t 21) (.t 20))]))
 (rg [om 12 (.t 4),
 oo 13 (.bi .add 0 (.t 12) (i6 1)),
 om 4 (.t 13)]))))))
 (.sq (rg [om 22 (.t 3),
 om 2 (.t 22)])
 (.rt))))) }
theorem k_laws_toControlS : chkF Go.Proofs.Tryz.prog fid_laws_toControlS c_laws_toControlS = true := by kernel_rfl

def c_laws_toBigraph : F2 :=
  { nt := 27, res := [.c 2 (some 6) [0, 4, 2, 0, 2, 3]], body :=
   (.sq (rg [oo 1 (.bt (.t 0)),
 oo 2 (.al [.int .i64 0, .slice none 0 0, .slice none 0 0, .int .i64 0, .slice none 0 0, .slice none 0 0] [])])
 (.sq (rg [oo 3 (.al [.int .i64 0, .slice none 0 0, .slice none 0 0, .int .i64 0, .slice none 0 0, .slice none 0 0] [])])
 (.sq (rg [oo 4 (.fa 0 (.t 1)),
 oo 5 (.ld none (.t 4)),
 oo 6 (.fa 0 (.t 3)),
 on1 (.st 1 (.t 6) (.t 5))])
 (.sq (rg [oo 7 (.fa 1 (.t 1)),
 oo 8 (.ld none (.t 7)),
 oo 9 (.ca .pure true (.f fid_laws_toNodeS) [.t 8]),
 oo 10 (.fa 1 (.t 3)),
 on1 (.st 1 (.t 10) (.t 9))])
 (.sq (rg [oo 11 (.fa 2 (.t 1)),
 oo 12 (.ld none (.t 11)),
 oo 13 (.ca .pure true (.f fid_laws_toIntS) [.t 12]),
 oo 14 (.fa 2 (.t 3)),
 on1 (.st 1 (.t 14) (.t 13))])
 (.sq (rg [oo 15 (.fa 3 (.t 1)),
 oo 16 (.ld none (.t 15)),
 oo 17 (.fa 3 (.t 3)),
 on1 (.st 1 (.t 17) (.t 16))])
 (.sq (rg [oo 18 (.fa 4 (.t 1)),
 oo 19 (.ld none (.t 18)),
 oo 20 (.ca .pure true (.f fid_laws_toStringS) [.t 19]),
 oo 21 (.fa 4 (.t 3)),
 on1 (.st 1 (.t 21) (.t 20))])
 (.sq (rg [oo 22 (.fa 5 (.t 1)),
 oo 23 (.ld none (.t 22)),
 oo 24 (.ca .pure true (.f fid_laws_toWireS) [.t 23]),
 oo 25 (.fa 5 (.t 3)),
 on1 (.st 1 (.t 25) (.t 24))])
 (.sq (rg [oo 26 (.ld (some 6) (.t 3)),
 on1 (.st 6 (.t 2) (.t 26))])
 (.rt)))))))))) }
theorem k_laws_toBigraph : chkF Go.Proofs.Tryz.prog fid_laws_toBigraph c_laws_toBigraph = true := by kernel_rfl

def c_laws_eqBigraph : F2 :=
  { nt := 39, res := [.t 4 [0]], body :=
   (.sq (rg [oo 2 (.bt (.t 0)),
 oo 3 (.bt (.t 1)),
 om 4 (.k (.bool false))])
 (.sq (.sq (rg [oo 5 (.fa 0 (.t 2)),
 oo 6 (.ld none (.t 5)),
 oo 7 (.fa 0 (.t 3)),
 oo 8 (.ld none (.t 7)),
 oo 9 (.bi .neq 0 (.t 6) (.t 8))])
 (.cd (.t 9) (.sq (rg [om 4 (.k (.bool false))])
 (.rt))
 (.sk)))
 (.sq (.sq (rg [oo 10 (.fa 1 (.t 2)),
 oo 11 (.ld none (.t 10)),
 oo 12 (.fa 1 (.t 3)),
 oo 13 (.ld none (.t 12)),
 oo 14 (.ca .pure false (.f fid_laws_eqNodeS) [.t 11, .t 13]),
 oo 15 (.nt (.t 14))])
 (.cd (.t 15) (.sq (rg [om 4 (.k (.bool false))])
 (.rt))
 (.sk)))
 (.sq (.sq (rg [oo 16 (.fa 2 (.t 2)),
 oo 17 (.ld none (.t 16)),
 oo 18 (.fa 2 (.t 3)),
 oo 19 (.ld none (.t 18)),
 oo 20 (.ca .pure false (.f fid_laws_eqIntS) [.t 17, .t 19]),
 oo 21 (.nt (.t 20))])
 (.cd (.t 21) (.sq (rg [om 4 (.k (.bool false))])
 (.rt))
 (.sk)))
 (.sq (.sq (rg [oo 22 (.fa 3 (.t 2)),
 oo 23 (.ld none (.t 22)),
 oo 24 (.fa 3 (.t 3)),
 oo 25 (.ld none (.t 24)),
 oo 26 (.bi .neq 0 (.t 23) (.t 25))])
 (.cd (.t 26) (.sq (rg [om 4 (.k (.bool false))])
 (.rt))
 (.sk)))
 (.sq (.sq (rg [oo 27 (.fa 4 (.t 2)),
 oo 28 (.ld none (.t 27)),
 oo 29 (.fa 4 (.t 3)),
 oo 30 (.ld none (.t 29)),
 oo 31 (.ca .pure false (.f fid_laws_eqStringS) [.t 28, .t 30]),
 oo 32 (.nt (.t 31))])
 (.cd (.t 32) (.sq (rg [om 4 (.k (.bool false))])
 (.rt))
 (.sk)))
 (.sq (.sq (rg [oo 33 (.fa 5 (.t 2)),
 oo 34 (.ld none (.t 33)),
 oo 35 (.fa 5 (.t 3)),
 oo 36 (.ld none (.t 35)),
 oo 37 (.ca .pure false (.f fid_laws_eqWireS) [.t 34, .t 36]),
 oo 38 (.nt (.t 37))])
 (.cd (.t 38) (.sq (rg [om 4 (.k (.bool false))])
 (.rt))
 (.sk)))
 (.sq (rg [om 4 (.k (.bool true))])
 (.rt))))))))) }
theorem k_laws_eqBigraph : chkF Go.Proofs.Tryz.prog fid_laws_eqBigraph c_laws_eqBigraph = true := by kernel_rfl

def c_laws_szControl : F2 :=
  { nt := 13, res := [.t 4 [0]], body :=
   (.sq (rg [oo 2 (.bt (.t 0)),
 om 4 (i6 0)])
 (.sq (rg [om 5 (.t 1),
 oo 6 (.fa 0 (.t 2)),
 oo 7 (.ld none (.t 6)),
 oo 8 (.lg (.t 7)),
 oo 9 (.bi .sub 0 (.t 5) (.t 8)),
 om 1 (.t 9)])
 (.sq (.sq (rg [om 10 (.t 1),
 oo 11 (.bi .lss 0 (.t 10) (i6 0))])
 (.cd (.t 11) (.sq (rg [om 4 (i6 (-1))])
 (.rt))
 (.sk)))
 (.sq (rg [om 12 (.t 1),
 om 4 (.t 12)])
 (.rt))))) }
theorem k_laws_szControl : chkF Go.Proofs.Tryz.prog fid_laws_szControl c_laws_szControl = true := by kernel_rfl

def c_laws_toControl : F2 :=
  { nt := 14, res := [.c 2 (some 3) [0, 0, 0]], body :=
   (.sq (rg [oo 1 (.bt (.t 0)),
 oo 2 (.al [.string ⟨#[]⟩, .int .i64 0, .int .i64 0] [])])
 (.sq (rg [oo 3 (.al [.string ⟨#[]⟩, .int .i64 0, .int .i64 0] [])])
 (.sq (rg [oo 4 (.fa 0 (.t 1)),
 oo 5 (.ld none (.t 4)),
 oo 6 (.fa 0 (.t 3)),
 on1 (.st 1 (.t 6) (.t 5))])
 (.sq (rg [oo 7 (.fa 1 (.t 1)),
 oo 8 (.ld none (.t 7)),
 oo 9 (.fa 1 (.t 3)),
 on1 (.st 1 (.t 9) (.t 8))])
 (.sq (rg [oo 10 (.fa 2 (.t 1)),
 oo 11 (.ld none (.t 10)),
 oo 12 (.fa 2 (.t 3)),
 on1 (.st 1 (.t 12) (.t 11))])
 (.sq (rg [oo 13 (.ld (some 3) (.t 3)),
 on1 (.st 3 (.t 2) (.t 13))])
 (.rt))))))) }
theorem k_laws_toControl : chkF Go.Proofs.Tryz.prog fid_laws_toControl c_laws_toControl = true := by kernel_rfl

def c_laws_toNodeS : F2 :=
  { nt := 23, res := [.t 2 [4]], body :=
   (.sq (rg [om 2 (.k (.slice none 0 0))])
 (.sq (rg [om 5 (.t 0),
 oo 6 (.ln (.t 5)),
 oo 7 (.ms 3 [.int .i64 0, .int .i64 0, .slice none 0 0] (.t 6)),
 om 3 (.t 7)])
 (.sq (.sq (rg [om 4 (i6 0)])
 (.bl 0 (.lp [0, 3, 4] [224, 640] (.sq (.sq (rg [om 8 (.t 4),
 om 9 (.t 0),
 oo 10 (.ln (.t 9)),
 oo 11 (.bi .lss 0 (.t 8) (.t 10))])
 (.cd (.t 11) (.sk)
 (.ex 0)))
 (.sq (.bl 1 (rg [om 14 (.t 3),
 om 15 (.t 4),
 om 16 (.t 0),
 om 17 (.t 4),
 oo 18 (.ia 3 (.t 16) (.t 17)),
 oo 19 (.ld (some 3) (.t 18)),
 oo 20 (.ca .pure true (.f fid_laws_toNode) [.t 19]),
 oo 21 (.ia 3 (.t 14) (.t 15)),
 on1 (.st 3 (.t 21) (.t 20))]))
 (rg [om 12 (.t 4),
 oo 13 (.bi .add 0 (.t 12) (i6 1)),
 om 4 (.t 13)]))))))
 (.sq (rg [om 22 (.t 3),
 om 2 (.t 22)])
 (.rt))))) }
theorem k_laws_toNodeS : chkF Go.Proofs.Tryz.prog fid_laws_toNodeS c_laws_toNodeS = true := by kernel_rfl

def c_laws_toWireS : F2 :=
  { nt := 23, res := [.t 2 [3]], body :=
   (.sq (rg [om 2 (.k (.slice none 0 0))])
 (.sq (rg [om 5 (.t 0),
 oo 6 (.ln (.t 5)),
 oo 7 (.ms 2 [.string ⟨#[]⟩, .int .i64 0] (.t 6)),
 om 3 (.t 7)])
 (.sq (.sq (rg [om 4 (i6 0)])
 (.bl 0 (.lp [0, 3, 4] [224] (.sq (.sq (rg [om 8 (.t 4),
 om 9 (.t 0),
 oo 10 (.ln (.t 9)),
 oo 11 (.bi .lss 0 (.t 8) (.t 10))])
 (.cd (.t 11) (.sk)
 (.ex 0)))
 (.sq (.bl 1 (rg [om 14 (.t 3),
 om 15 (.t 4),
 om 16 (.t 0),
 om 17 (.t 4),
 oo 18 (.ia 2 (.t 16) (.t 17)),
 oo 19 (.ld (some 2) (.t 18)),
 oo 20 (.ca .pure true (.f fid_laws_toWire) [.t 19]),
 oo 21 (.ia 2 (.t 14) (.t 15)),
 on1 (.st 2 (.t 21) (.t 20))]))
 (rg [om 12 (.t 4),
 oo 13 (.bi .add 0 (.t 12) (i6 1)),
 om 4 (.t 13)]))))))
 (.sq (rg [om 22 (.t 3),
 om 2 (.t 22)])
 (.rt))))) }
theorem k_laws_toWireS : chkF Go.Proofs.Tryz.prog fid_laws_toWireS c_laws_toWireS = true := by kernel_rfl

def c_laws_eqControl : F2 :=
  { nt := 20, res := [.t 4 [0]], body :=
   (.sq (rg [oo 2 (.bt (.t 0)),
 oo 3 (.bt (.t 1)),
 om 4 (.k (.bool false))])
 (.sq (.sq (rg [oo 5 (.fa 0 (.t 2)),
 oo 6 (.ld none (.t 5)),
 oo 7 (.fa 0 (.t 3)),
 oo 8 (.ld none (.t 7)),
 oo 9 (.bi .neq 0 (.t 6) (.t 8))])
 (.cd (.t 9) (.sq (rg [om 4 (.k (.bool false))])
 (.rt))
 (.sk)))
 (.sq (.sq (rg [oo 10 (.fa 1 (.t 2)),
 oo 11 (.ld none (.t 10)),
 oo 12 (.fa 1 (.t 3)),
 oo 13 (.ld none (.t 12)),
 oo 14 (.bi .neq 0 (.t 11) (.t 13))])
 (.cd (.t 14) (.sq (rg [om 4 (.k (.bool false))])
 (.rt))
 (.sk)))
 (.sq (.sq (rg [oo 15 (.fa 2 (.t 2)),
 oo 16 (.ld none (.t 15)),
 oo 17 (.fa 2 (.t 3)),
 oo 18 (.ld none (.t 17)),
 oo 19 (.bi .neq 0 (.t 16) (.t 18))])
 (.cd (.t 19) (.sq (rg [om 4 (.k (.bool false))])
 (.rt))
 (.sk)))
 (.sq (rg [om 4 (.k (.bool true))])
 (.rt)))))) }
theorem k_laws_eqControl : chkF Go.Proofs.Tryz.prog fid_laws_eqControl c_laws_eqControl = true := by kernel_rfl

def c_laws_szNode : F2 :=
  { nt := 12, res := [.t 4 [0]], body :=
   (.sq (rg [oo 2 (.bt (.t 0)),
 om 4 (i6 0)])
 (.sq (rg [oo 5 (.fa 2 (.t 2)),
 oo 6 (.ld none (.t 5)),
 om 7 (.t 1),
 oo 8 (.ca .pure false (.f fid_laws_szIntS) [.t 6, .t 7]),
 om 1 (.t 8)])
 (.sq (.sq (rg [om 9 (.t 1),
 oo 10 (.bi .lss 0 (.t 9) (i6 0))])
 (.cd (.t 10) (.sq (rg [om 4 (i6 (-1))])
 (.rt))
 (.sk)))
 (.sq (rg [om 11 (.t 1),
 om 4 (.t 11)])
 (.rt))))) }
theorem k_laws_szNode : chkF Go.Proofs.Tryz.prog fid_laws_szNode c_laws_szNode = true := by kernel_rfl

def c_laws_szWire : F2 :=
  { nt := 13, res := [.t 4 [0]], body :=
   (.sq (rg [oo 2 (.bt (.t 0)),
 om 4 (i6 0)])
 (.sq (rg [om 5 (.t 1),
 oo 6 (.fa 0 (.t 2)),
 oo 7 (.ld none (.t 6)),
 oo 8 (.lg (.t 7)),
 oo 9 (.bi .sub 0 (.t 5) (.t 8)),
 om 1 (.t 9)])
 (.sq (.sq (rg [om 10 (.t 1),
 oo 11 (.bi .lss 0 (.t 10) (i6 0))])
 (.cd (.t 11) (.sq (rg [om 4 (i6 (-1))])
 (.rt))
 (.sk)))
 (.sq (rg [om 12 (.t 1),
 om 4 (.t 12)])
 (.rt))))) }
theorem k_laws_szWire : chkF Go.Proofs.Tryz.prog fid_laws_szWire c_laws_szWire = true := by kernel_rfl

def c_laws_toNode : F2 :=
  { nt := 15, res := [.c 2 (some 3) [0, 0, 2]], body :=
   (.sq (rg [oo 1 (.bt (.t 0)),
 oo 2 (.al [.int .i64 0, .int .i64 0, .slice none 0 0] [])])
 (.sq (rg [oo 3 (.al [.int .i64 0, .int .i64 0, .slice none 0 0] [])])
 (.sq (rg [oo 4 (.fa 0 (.t 1)),
 oo 5 (.ld none (.t 4)),
 oo 6 (.fa 0 (.t 3)),
 on1 (.st 1 (.t 6) (.t 5))])
 (.sq (rg [oo 7 (.fa 1 (.t 1)),
 oo 8 (.ld none (.t 7)),
 oo 9 (.fa 1 (.t 3)),
 on1 (.st 1 (.t 9) (.t 8))])
 (.sq (rg [oo 10 (.fa 2 (.t 1)),
 oo 11 (.ld none (.t 10)),
 oo 12 (.ca .pure true (.f fid_laws_toIntS) [.t 11]),
 oo 13 (.fa 2 (.t 3)),
 on1 (.st 1 (.t 13) (.t 12))])
 (.sq (rg [oo 14 (.ld (some 3) (.t 3)),
 on1 (.st 3 (.t 2) (.t 14))])
 (.rt))))))) }
theorem k_laws_toNode : chkF Go.Proofs.Tryz.prog fid_laws_toNode c_laws_toNode = true := by kernel_rfl

def c_laws_toWire : F2 :=
  { nt := 11, res := [.c 2 (some 2) [0, 0]], body :=
   (.sq (rg [oo 1 (.bt (.t 0)),
 oo 2 (.al [.string ⟨#[]⟩, .int .i64 0] [])])
 (.sq (rg [oo 3 (.al [.string ⟨#[]⟩, .int .i64 0] [])])
 (.sq (rg [oo 4 (.fa 0 (.t 1)),
 oo 5 (.ld none (.t 4)),
 oo 6 (.fa 0 (.t 3)),
 on1 (.st 1 (.t 6) (.t 5))])
 (.sq (rg [oo 7 (.fa 1 (.t 1)),
 oo 8 (.ld none (.t 7)),
 oo 9 (.fa 1 (.t 3)),
 on1 (.st 1 (.t 9) (.t 8))])
 (.sq (rg [oo 10 (.ld (some 2) (.t 3)),
 on1 (.st 2 (.t 2) (.t 10))])
 (.rt)))))) }
theorem k_laws_toWire : chkF Go.Proofs.Tryz.prog fid_laws_toWire c_laws_toWire = true := by kernel_rfl

def c_laws_eqNode : F2 :=
  { nt := 21, res := [.t 4 [0]], body :=
   (.sq (rg [oo 2 (.bt (.t 0)),
 oo 3 (.bt (.t 1)),
 om 4 (.k (.bool false))])
 (.sq (.sq (rg [oo 5 (.fa 0 (.t 2)),
 oo 6 (.ld none (.t 5)),
 oo 7 (.fa 0 (.t 3)),
 oo 8 (.ld none (.t 7)),
 oo 9 (.bi .neq 0 (.t 6) (.t 8))])
 (.cd (.t 9) (.sq (rg [om 4 (.k (.bool false))])
 (.rt))
 (.sk)))
 (.sq (.sq (rg [oo 10 (.fa 1 (.t 2)),
 oo 11 (.ld none (.t 10)),
 oo 12 (.fa 1 (.t 3)),
 oo 13 (.ld none (.t 12)),
 oo 14 (.bi .neq 0 (.t 11) (.t 13))])
 (.cd (.t 14) (.sq (rg [om 4 (.k (.bool false))])
 (.rt))
 (.sk)))
 (.sq (.sq (rg [oo 15 (.fa 2 (.t 2)),
 oo 16 (.ld none (.t 15)),
 oo 17 (.fa 2 (.t 3)),
 oo 18 (.ld none (.t 17)),
 oo 19 (.ca .pure false (.f fid_laws_eqIntS) [.t 16, .t 18]),
 oo 20 (.nt (.t 19))])
 (.cd (.t 20) (.sq (rg [om 4 (.k (.bool false))])
 (.rt))
 (.sk)))
 (.sq (rg [om 4 (.k (.bool true))])
 (.rt)))))) }
theorem k_laws_eqNode : chkF Go.Proofs.Tryz.prog fid_laws_eqNode c_laws_eqNode = true := by kernel_rfl

def c_laws_eqWire : F2 :=
  { nt := 15, res := [.t 4 [0]], body :=
   (.sq (rg [oo 2 (.bt (.t 0)),
 oo 3 (.bt (.t 1)),
 om 4 (.k (.bool false))])
 (.sq (.sq (rg [oo 5 (.fa 0 (.t 2)),
 oo 6 (.ld none (.t 5)),
 oo 7 (.fa 0 (.t 3)),
 oo 8 (.ld none (.t 7)),
 oo 9 (.bi .neq 0 (.t 6) (.t 8))])
 (.cd (.t 9) (.sq (rg [om 4 (.k (.bool false))])
 (.rt))
 (.sk)))
 (.sq (.sq (rg [oo 10 (.fa 1 (.t 2)),
 oo 11 (.ld none (.t 10)),
 oo 12 (.fa 1 (.t 3)),
 oo 13 (.ld none (.t 12)),
 oo 14 (.bi .neq 0 (.t 11) (.t 13))])
 (.cd (.t 14) (.sq (rg [om 4 (.k (.bool false))])
 (.rt))
 (.sk)))
 (.sq (rg [om 4 (.k (.bool true))])
 (.rt))))) }
theorem k_laws_eqWire : chkF Go.Proofs.Tryz.prog fid_laws_eqWire c_laws_eqWire = true := by kernel_rfl

end Go.Fd

/-
  SMALL WORDS FOR MARKS. Own work.
-/
namespace Go.Fd
theorem sset_ne {S : Sto} {id i : Oid} {ob : Ob} (h : i ≠ id) : sset S id ob i = S i := if_neg h
theorem mL_get {α : Type} {m : α → Int → α} {n : α → Nat} : ∀ {a : List α} {k : Int} {j : Nat} (h : j < a.length), (mL m n a k)[j]? = some (m a[j] (kJ n a k j))
  | [], _, _, h => by cases h
  | x :: r, k, 0, _ => by simp [mL, kJ, nL]
  | x :: r, k, j + 1, h => by
    simp only [mL, List.getElem?_cons_succ, List.getElem_cons_succ]
    rw [mL_get (by simpa using h)]
    simp only [kJ, List.take_succ_cons, nL]
    congr 2
    omega
theorem mL_row {α : Type} {c : α → List Tr} {m : α → Int → α} {n : α → Nat} {a : List α} {k : Int} {j : Nat} (h : j < a.length) : ((mL m n a k).map c)[j]? = some (c (m a[j] (kJ n a k j))) := by
  rw [List.getElem?_map, mL_get h]; rfl
theorem cut_mL {α : Type} {c : α → List Tr} {m : α → Int → α} {n : α → Nat} {a : List α} {k : Int} : cut ((mL m n a k).map c) 0 a.length = (mL m n a k).map c := by
  simp only [cut, List.drop_zero]
  exact List.take_of_length_le (by rw [List.length_map, mL_length]; exact Nat.le_refl _)
theorem cut_map {α : Type} {c : α → List Tr} {a : List α} : cut (a.map c) 0 a.length = a.map c := by
  simp only [cut, List.drop_zero]
  exact List.take_of_length_le (by rw [List.length_map]; exact Nat.le_refl _)
end Go.Fd

/-
  MARKING STRUCTS; WHETHER MARKS ARE HELD (printed by lawgen.py). Own work.
-/
namespace Go.Fd
set_option maxRecDepth 20000
def nBigraph (x : TBigraph) : Nat := nL nNode x.nodes + nL nInt x.sites + nL nStr x.outer + nL nWire x.inner
theorem sem_markBigraph (x : TBigraph) (k : Int) (lvl : Nat) (S : Sto) (i1 i2 i3 i4 : Oid) (k1 h1 v1 k2 h2 v2 k3 h3 v3 k4 h4 v4 : Nat) (c1 c2 c3 c4 : Option Nat) (l1 : i1.1 < lvl) (l2 : i2.1 < lvl) (l3 : i3.1 < lvl) (l4 : i4.1 < lvl) (n2_1 : i2 ≠ i1) (n3_1 : i3 ≠ i1) (n3_2 : i3 ≠ i2) (n4_1 : i4 ≠ i1) (n4_2 : i4 ≠ i2) (n4_3 : i4 ≠ i3) (s1 : S i1 = some (.ar k1 (x.nodes.map cNode) true h1 v1)) (s2 : S i2 = some (.ar k2 (rI x.sites) true h2 v2)) (s3 : S i3 = some (.ar k3 (rS x.outer) true h3 v3)) (s4 : S i4 = some (.ar k4 (x.inner.map cWire) true h4 v4)) (h0 : 0 ≤ k) (hk : k + nBigraph x ≤ 4611686018427387904) (hb : bdBigraph 4294967296 x) :
    Sem Go.Proofs.Tryz.prog fid_laws_markBigraph lvl [.ag [iI x.roots, .hd i1 [] 0 x.nodes.length c1 h1, .hd i2 [] 0 x.sites.length c2 h2, iI x.edges, .hd i3 [] 0 x.outer.length c3 h3, .hd i4 [] 0 x.inner.length c4 h4], iI k] S (iI (k + nBigraph x)) (sset (sset (sset (sset S i1 (.ar k1 (((mL mNode nNode x.nodes (k))).map cNode) true h1 v1)) i2 (.ar k2 (rI (mL mInt nInt x.sites (k + (nL nNode x.nodes : Nat)))) true h2 v2)) i3 (.ar k3 (rS (mL mStr nStr x.outer (k + (nL nNode x.nodes : Nat) + (nL nInt x.sites : Nat)))) true h3 v3)) i4 (.ar k4 (((mL mWire nWire x.inner (k + (nL nNode x.nodes : Nat) + (nL nInt x.sites : Nat) + (nL nStr x.outer : Nat)))).map cWire) true h4 v4)) := by
  obtain ⟨b0, b1, b2, b3, b4, b5, b6⟩ := hb
  have e1 : i1.1 ≠ lvl := by omega
  have e2 : i2.1 ≠ lvl := by omega
  have e3 : i3.1 ≠ lvl := by omega
  have e4 : i4.1 ≠ lvl := by omega
  simp only [nBigraph] at hk
  refine sem_of_chk k_laws_markBigraph trivial ?_
  simp only [c_laws_markBigraph, r_okmo e1, r_okmo e2, r_okmo e3, r_okmo e4, EVA, ↓reduceIte, Nat.reduceEqDiff, Nat.reduceMul, reduceCtorEq, Nat.reduceAdd, Nat.reduceSub, Nat.reduceLeDiff, Nat.reduceLT, Int.reduceToNat, Int.reduceLE, Int.reduceLT, mens, men]
  simp only [arg1]
  refine kcy_mark0 mark_NodeS l1 s1 (by omega) (by omega) b0 b1 ?_
  simp only [r_okmo e1, r_okmo e2, r_okmo e3, r_okmo e4, EVA, ↓reduceIte, Nat.reduceEqDiff, Nat.reduceMul, reduceCtorEq, Nat.reduceAdd, Nat.reduceSub, Nat.reduceLeDiff, Nat.reduceLT, Int.reduceToNat, Int.reduceLE, Int.reduceLT, mens, men]
  simp only [arg1]
  refine kcy_mark0 mark_IntS l2 (by rw [sset_ne n2_1]; exact s2) (by omega) (by omega) b2 (fun _ _ => trivial) ?_
  simp only [r_okmo e1, r_okmo e2, r_okmo e3, r_okmo e4, EVA, ↓reduceIte, Nat.reduceEqDiff, Nat.reduceMul, reduceCtorEq, Nat.reduceAdd, Nat.reduceSub, Nat.reduceLeDiff, Nat.reduceLT, Int.reduceToNat, Int.reduceLE, Int.reduceLT, mens, men]
  simp only [arg1]
  refine kcy_mark0 mark_StringS l3 (by rw [sset_ne n3_2, sset_ne n3_1]; exact s3) (by omega) (by omega) b3 b4 ?_
  simp only [r_okmo e1, r_okmo e2, r_okmo e3, r_okmo e4, EVA, ↓reduceIte, Nat.reduceEqDiff, Nat.reduceMul, reduceCtorEq, Nat.reduceAdd, Nat.reduceSub, Nat.reduceLeDiff, Nat.reduceLT, Int.reduceToNat, Int.reduceLE, Int.reduceLT, mens, men]
  simp only [arg1]
  refine kcy_mark0 mark_WireS l4 (by rw [sset_ne n4_3, sset_ne n4_2, sset_ne n4_1]; exact s4) (by omega) (by omega) b5 b6 ?_
  simp only [r_okmo e1, r_okmo e2, r_okmo e3, r_okmo e4, EVA, ↓reduceIte, Nat.reduceEqDiff, Nat.reduceMul, reduceCtorEq, Nat.reduceAdd, Nat.reduceSub, Nat.reduceLeDiff, Nat.reduceLT, Int.reduceToNat, Int.reduceLE, Int.reduceLT, mens, men]
  simp only [nBigraph, Int.natCast_add, ← Int.add_assoc]
  try exact ⟨rfl, rfl⟩
theorem kcy_markBigraph {x : TBigraph} {k : Int} {lvl a1 a2 a3 a4 : Nat} {out : Sto} {k1 h1 v1 k2 h2 v2 k3 h3 v3 k4 h4 v4 : Nat} {c1 c2 c3 c4 : Option Nat} {env : List (Nat × IV)} {loc : List (Nat × Ob)} {d : Option Nat} {K : St → Prop} (n2_1 : a2 ≠ a1) (n3_1 : a3 ≠ a1) (n3_2 : a3 ≠ a2) (n4_1 : a4 ≠ a1) (n4_2 : a4 ≠ a2) (n4_3 : a4 ≠ a3) (s1 : lkO a1 loc = some (.ar k1 (x.nodes.map cNode) true h1 v1)) (s2 : lkO a2 loc = some (.ar k2 (rI x.sites) true h2 v2)) (s3 : lkO a3 loc = some (.ar k3 (rS x.outer) true h3 v3)) (s4 : lkO a4 loc = some (.ar k4 (x.inner.map cWire) true h4 v4)) (h0 : 0 ≤ k) (hk : k + nBigraph x ≤ 4611686018427387904) (hb : bdBigraph 4294967296 x)
    (hK : K ⟨lvl, ptd d (iI (k + nBigraph x)) env, (ptO a4 (.ar k4 (((mL mWire nWire x.inner (k + (nL nNode x.nodes : Nat) + (nL nInt x.sites : Nat) + (nL nStr x.outer : Nat)))).map cWire) true h4 v4) (ptO a3 (.ar k3 (rS (mL mStr nStr x.outer (k + (nL nNode x.nodes : Nat) + (nL nInt x.sites : Nat)))) true h3 v3) (ptO a2 (.ar k2 (rI (mL mInt nInt x.sites (k + (nL nNode x.nodes : Nat)))) true h2 v2) (ptO a1 (.ar k1 (((mL mNode nNode x.nodes (k))).map cNode) true h1 v1) loc)))), out⟩) :
    kcy (Sem Go.Proofs.Tryz.prog) fid_laws_markBigraph true lvl env loc out d K [.ag [iI x.roots, .hd (lvl, a1) [] 0 x.nodes.length c1 h1, .hd (lvl, a2) [] 0 x.sites.length c2 h2, iI x.edges, .hd (lvl, a3) [] 0 x.outer.length c3 h3, .hd (lvl, a4) [] 0 x.inner.length c4 h4], iI k] := by
  refine kcy_intro (r := iI (k + nBigraph x)) (ptO a4 (.ar k4 (((mL mWire nWire x.inner (k + (nL nNode x.nodes : Nat) + (nL nInt x.sites : Nat) + (nL nStr x.outer : Nat)))).map cWire) true h4 v4) (ptO a3 (.ar k3 (rS (mL mStr nStr x.outer (k + (nL nNode x.nodes : Nat) + (nL nInt x.sites : Nat)))) true h3 v3) (ptO a2 (.ar k2 (rI (mL mInt nInt x.sites (k + (nL nNode x.nodes : Nat)))) true h2 v2) (ptO a1 (.ar k1 (((mL mNode nNode x.nodes (k))).map cNode) true h1 v1) loc)))) out (fun _ _ => rfl) ?_ ⟨trivial, hK⟩
  rw [packS_ptO, packS_ptO, packS_ptO, packS_ptO]
  exact sem_markBigraph x k (lvl + 1) _ (lvl, a1) (lvl, a2) (lvl, a3) (lvl, a4) k1 h1 v1 k2 h2 v2 k3 h3 v3 k4 h4 v4 c1 c2 c3 c4 (Nat.lt_succ_self _) (Nat.lt_succ_self _) (Nat.lt_succ_self _) (Nat.lt_succ_self _) (fun e => n2_1 (congrArg Prod.snd e)) (fun e => n3_1 (congrArg Prod.snd e)) (fun e => n3_2 (congrArg Prod.snd e)) (fun e => n4_1 (congrArg Prod.snd e)) (fun e => n4_2 (congrArg Prod.snd e)) (fun e => n4_3 (congrArg Prod.snd e)) (by rw [r_pack]; exact s1) (by rw [r_pack]; exact s2) (by rw [r_pack]; exact s3) (by rw [r_pack]; exact s4) h0 hk hb
/-- What a marked one holds. -/
def mstBigraph (x : TBigraph) (k : Int) : TBigraph := { x with nodes := mL mNode nNode x.nodes (k), sites := mL mInt nInt x.sites (k + (nL nNode x.nodes : Nat)), outer := mL mStr nStr x.outer (k + (nL nNode x.nodes : Nat) + (nL nInt x.sites : Nat)), inner := mL mWire nWire x.inner (k + (nL nNode x.nodes : Nat) + (nL nInt x.sites : Nat) + (nL nStr x.outer : Nat)) }
theorem held_IntS (a : List Int) (k : Int) (hl : a.length ≤ 4294967296) (h0 : 0 ≤ k) (hk : k + nL nInt a ≤ 4611686018427387904) (lvl : Nat) (S : Sto) : Sem Go.Proofs.Tryz.prog fid_laws_heldIntS lvl [.tr (.sl (rI (mL mInt nInt a k))), iI k] S (iI (k + nL nInt a)) S := by
  refine sem_of_chk k_laws_heldIntS trivial ?_
  simp only [c_laws_heldIntS, EVA, ↓reduceIte, Nat.reduceEqDiff, Nat.reduceMul, reduceCtorEq, Nat.reduceAdd, Nat.reduceSub, Nat.reduceLeDiff, Nat.reduceLT, Int.reduceToNat, Int.reduceLE, Int.reduceLT, mens, men]
  refine wp_count (α := Unit) a.length (fun j _ => ⟨lvl, [(0, .tr (.sl (rI (mL mInt nInt a k)))), (1, iI (kJ nInt a k j)), (5, iI j)], [], S⟩) (fun _ _ => True) () ⟨by simp only [EVA, ↓reduceIte, Nat.reduceEqDiff, Nat.reduceMul, reduceCtorEq, Nat.reduceAdd, Nat.reduceSub, Nat.reduceLeDiff, Nat.reduceLT, Int.reduceToNat, Int.reduceLE, Int.reduceLT, mens, men], by (simp only [kJ_zero, EVA, ↓reduceIte, Nat.reduceEqDiff, Nat.reduceMul, reduceCtorEq, Nat.reduceAdd, Nat.reduceSub, Nat.reduceLeDiff, Nat.reduceLT, Int.reduceToNat, Int.reduceLE, Int.reduceLT, mens, men]) <;> rfl⟩ trivial ?_
  intro j _ hj _
  simp only [List.length_map, mL_length, EVA, ↓reduceIte, Nat.reduceEqDiff, Nat.reduceMul, reduceCtorEq, Nat.reduceAdd, Nat.reduceSub, Nat.reduceLeDiff, Nat.reduceLT, Int.reduceToNat, Int.reduceLE, Int.reduceLT, mens, men]
  refine ite_of (fun hlt => ?_) (fun hge => ?_)
  · have hja : j < a.length := by omega
    have ga := mL_row (c := (fun n : Int => [tv n])) (m := mInt) (n := nInt) (k := k) hja
    have hge2 := kJ_le nInt (a := a) (k := k) (j := j + 1)
    rw [kJ_succ nInt hja] at hge2
    have hge3 := kJ_ge nInt (a := a) (k := k) (j := j)
    try simp only [nInt] at hge2
    simp only [ga, mInt, mStr, Nat.zero_add, hja, ne_eq, not_true_eq_false, EVA, ↓reduceIte, Nat.reduceEqDiff, Nat.reduceMul, reduceCtorEq, Nat.reduceAdd, Nat.reduceSub, Nat.reduceLeDiff, Nat.reduceLT, Int.reduceToNat, Int.reduceLE, Int.reduceLT, mens, men]
    refine ⟨by rw [fits_i64]; omega, ⟨by rw [fits_i64]; omega, cntJ_intro () hja ?_ trivial⟩⟩
    rw [kJ_succ nInt hja]
    simp only [nInt, Int.natCast_add, Int.natCast_one, Int.add_assoc]
    try rfl
  · have : j = a.length := by omega
    subst this
    rw [kJ_all]
theorem held_NodeS (a : List TNode) (k : Int) (hl : a.length ≤ 4294967296) (hB : ∀ x ∈ a, (bdNode 4294967296) x) (h0 : 0 ≤ k) (hk : k + nL nNode a ≤ 4611686018427387904) (lvl : Nat) (S : Sto) : Sem Go.Proofs.Tryz.prog fid_laws_heldNodeS lvl [.tr (.sl (((mL mNode nNode a k)).map cNode)), iI k] S (iI (k + nL nNode a)) S := by
  refine sem_of_chk k_laws_heldNodeS trivial ?_
  simp only [c_laws_heldNodeS, EVA, ↓reduceIte, Nat.reduceEqDiff, Nat.reduceMul, reduceCtorEq, Nat.reduceAdd, Nat.reduceSub, Nat.reduceLeDiff, Nat.reduceLT, Int.reduceToNat, Int.reduceLE, Int.reduceLT, mens, men]
  refine wp_count (α := Unit) a.length (fun j _ => ⟨lvl, [(0, .tr (.sl (((mL mNode nNode a k)).map cNode))), (1, iI (kJ nNode a k j)), (5, iI j)], [], S⟩) (fun _ _ => True) () ⟨by simp only [EVA, ↓reduceIte, Nat.reduceEqDiff, Nat.reduceMul, reduceCtorEq, Nat.reduceAdd, Nat.reduceSub, Nat.reduceLeDiff, Nat.reduceLT, Int.reduceToNat, Int.reduceLE, Int.reduceLT, mens, men], by (simp only [kJ_zero, EVA, ↓reduceIte, Nat.reduceEqDiff, Nat.reduceMul, reduceCtorEq, Nat.reduceAdd, Nat.reduceSub, Nat.reduceLeDiff, Nat.reduceLT, Int.reduceToNat, Int.reduceLE, Int.reduceLT, mens, men]) <;> rfl⟩ trivial ?_
  intro j _ hj _
  simp only [List.length_map, mL_length, EVA, ↓reduceIte, Nat.reduceEqDiff, Nat.reduceMul, reduceCtorEq, Nat.reduceAdd, Nat.reduceSub, Nat.reduceLeDiff, Nat.reduceLT, Int.reduceToNat, Int.reduceLE, Int.reduceLT, mens, men]
  refine ite_of (fun hlt => ?_) (fun hge => ?_)
  · have hja : j < a.length := by omega
    have ga := mL_row (c := cNode) (m := mNode) (n := nNode) (k := k) hja
    have hge2 := kJ_le nNode (a := a) (k := k) (j := j + 1)
    rw [kJ_succ nNode hja] at hge2
    have hge3 := kJ_ge nNode (a := a) (k := k) (j := j)
    try simp only [nNode] at hge2
    have hb := hB _ (List.getElem_mem hja)
    simp only [ga, cNode, mNode, mInt, mStr, Nat.zero_add, hja, ne_eq, not_true_eq_false, EVA, ↓reduceIte, Nat.reduceEqDiff, Nat.reduceMul, reduceCtorEq, Nat.reduceAdd, Nat.reduceSub, Nat.reduceLeDiff, Nat.reduceLT, Int.reduceToNat, Int.reduceLE, Int.reduceLT, mens, men]
    refine ⟨by rw [fits_i64]; omega, ⟨by rw [fits_i64]; omega, ?_⟩⟩
    refine kca_intro (held_IntS (a[j]).links (kJ nNode a k j + 1 + 1) hb (by omega) (by omega)) ?_
    have hz2 : ¬ (kJ nNode a k j + 1 + 1 + (nL nInt (a[j]).links : Nat) < 0) := by omega
    simp only [ga, cNode, mNode, mInt, mStr, Nat.zero_add, hja, ne_eq, not_true_eq_false, hz2, EVA, ↓reduceIte, Nat.reduceEqDiff, Nat.reduceMul, reduceCtorEq, Nat.reduceAdd, Nat.reduceSub, Nat.reduceLeDiff, Nat.reduceLT, Int.reduceToNat, Int.reduceLE, Int.reduceLT, mens, men]
    refine ⟨by rw [fits_i64]; omega, cntJ_intro () hja ?_ trivial⟩
    rw [kJ_succ nNode hja]
    simp only [nNode, Int.natCast_add, Int.natCast_one, Int.add_assoc]
    try rfl
  · have : j = a.length := by omega
    subst this
    rw [kJ_all]
theorem held_StringS (a : List ByteArray) (k : Int) (hl : a.length ≤ 4294967296) (hB : ∀ x ∈ a, (fun x => x.size ≤ 4294967296) x) (h0 : 0 ≤ k) (hk : k + nL nStr a ≤ 4611686018427387904) (lvl : Nat) (S : Sto) : Sem Go.Proofs.Tryz.prog fid_laws_heldStringS lvl [.tr (.sl (rS (mL mStr nStr a k))), iI k] S (iI (k + nL nStr a)) S := by
  refine sem_of_chk k_laws_heldStringS trivial ?_
  simp only [c_laws_heldStringS, EVA, ↓reduceIte, Nat.reduceEqDiff, Nat.reduceMul, reduceCtorEq, Nat.reduceAdd, Nat.reduceSub, Nat.reduceLeDiff, Nat.reduceLT, Int.reduceToNat, Int.reduceLE, Int.reduceLT, mens, men]
  refine wp_count (α := Unit) a.length (fun j _ => ⟨lvl, [(0, .tr (.sl (rS (mL mStr nStr a k)))), (1, iI (kJ nStr a k j)), (5, iI j)], [], S⟩) (fun _ _ => True) () ⟨by simp only [EVA, ↓reduceIte, Nat.reduceEqDiff, Nat.reduceMul, reduceCtorEq, Nat.reduceAdd, Nat.reduceSub, Nat.reduceLeDiff, Nat.reduceLT, Int.reduceToNat, Int.reduceLE, Int.reduceLT, mens, men], by (simp only [kJ_zero, EVA, ↓reduceIte, Nat.reduceEqDiff, Nat.reduceMul, reduceCtorEq, Nat.reduceAdd, Nat.reduceSub, Nat.reduceLeDiff, Nat.reduceLT, Int.reduceToNat, Int.reduceLE, Int.reduceLT, mens, men]) <;> rfl⟩ trivial ?_
  intro j _ hj _
  simp only [List.length_map, mL_length, EVA, ↓reduceIte, Nat.reduceEqDiff, Nat.reduceMul, reduceCtorEq, Nat.reduceAdd, Nat.reduceSub, Nat.reduceLeDiff, Nat.reduceLT, Int.reduceToNat, Int.reduceLE, Int.reduceLT, mens, men]
  refine ite_of (fun hlt => ?_) (fun hge => ?_)
  · have hja : j < a.length := by omega
    have ga := mL_row (c := (fun n : ByteArray => [ts n])) (m := mStr) (n := nStr) (k := k) hja
    have hge2 := kJ_le nStr (a := a) (k := k) (j := j + 1)
    rw [kJ_succ nStr hja] at hge2
    have hge3 := kJ_ge nStr (a := a) (k := k) (j := j)
    try simp only [nStr] at hge2
    have hb := hB _ (List.getElem_mem hja)
    simp only [ga, mStr, mInt, Nat.zero_add, hja, ne_eq, not_true_eq_false, EVA, ↓reduceIte, Nat.reduceEqDiff, Nat.reduceMul, reduceCtorEq, Nat.reduceAdd, Nat.reduceSub, Nat.reduceLeDiff, Nat.reduceLT, Int.reduceToNat, Int.reduceLE, Int.reduceLT, mens, men]
    refine kca_intro (sem_markText (kJ nStr a k j) (by omega)) ?_
    simp only [ga, mStr, mInt, Nat.zero_add, hja, ne_eq, not_true_eq_false, EVA, ↓reduceIte, Nat.reduceEqDiff, Nat.reduceMul, reduceCtorEq, Nat.reduceAdd, Nat.reduceSub, Nat.reduceLeDiff, Nat.reduceLT, Int.reduceToNat, Int.reduceLE, Int.reduceLT, mens, men]
    refine ⟨by rw [fits_i64]; omega, ⟨by rw [fits_i64]; omega, cntJ_intro () hja ?_ trivial⟩⟩
    rw [kJ_succ nStr hja]
    simp only [nStr, Int.natCast_add, Int.natCast_one, Int.add_assoc]
    try rfl
  · have : j = a.length := by omega
    subst this
    rw [kJ_all]
theorem held_WireS (a : List TWire) (k : Int) (hl : a.length ≤ 4294967296) (hB : ∀ x ∈ a, (bdWire 4294967296) x) (h0 : 0 ≤ k) (hk : k + nL nWire a ≤ 4611686018427387904) (lvl : Nat) (S : Sto) : Sem Go.Proofs.Tryz.prog fid_laws_heldWireS lvl [.tr (.sl (((mL mWire nWire a k)).map cWire)), iI k] S (iI (k + nL nWire a)) S := by
  refine sem_of_chk k_laws_heldWireS trivial ?_
  simp only [c_laws_heldWireS, EVA, ↓reduceIte, Nat.reduceEqDiff, Nat.reduceMul, reduceCtorEq, Nat.reduceAdd, Nat.reduceSub, Nat.reduceLeDiff, Nat.reduceLT, Int.reduceToNat, Int.reduceLE, Int.reduceLT, mens, men]
  refine wp_count (α := Unit) a.length (fun j _ => ⟨lvl, [(0, .tr (.sl (((mL mWire nWire a k)).map cWire))), (1, iI (kJ nWire a k j)), (5, iI j)], [], S⟩) (fun _ _ => True) () ⟨by simp only [EVA, ↓reduceIte, Nat.reduceEqDiff, Nat.reduceMul, reduceCtorEq, Nat.reduceAdd, Nat.reduceSub, Nat.reduceLeDiff, Nat.reduceLT, Int.reduceToNat, Int.reduceLE, Int.reduceLT, mens, men], by (simp only [kJ_zero, EVA, ↓reduceIte, Nat.reduceEqDiff, Nat.reduceMul, reduceCtorEq, Nat.reduceAdd, Nat.reduceSub, Nat.reduceLeDiff, Nat.reduceLT, Int.reduceToNat, Int.reduceLE, Int.reduceLT, mens, men]) <;> rfl⟩ trivial ?_
  intro j _ hj _
  simp only [List.length_map, mL_length, EVA, ↓reduceIte, Nat.reduceEqDiff, Nat.reduceMul, reduceCtorEq, Nat.reduceAdd, Nat.reduceSub, Nat.reduceLeDiff, Nat.reduceLT, Int.reduceToNat, Int.reduceLE, Int.reduceLT, mens, men]
  refine ite_of (fun hlt => ?_) (fun hge => ?_)
  · have hja : j < a.length := by omega
    have ga := mL_row (c := cWire) (m := mWire) (n := nWire) (k := k) hja
    have hge2 := kJ_le nWire (a := a) (k := k) (j := j + 1)
    rw [kJ_succ nWire hja] at hge2
    have hge3 := kJ_ge nWire (a := a) (k := k) (j := j)
    try simp only [nWire] at hge2
    have hb := hB _ (List.getElem_mem hja)
    simp only [ga, cWire, mWire, mInt, mStr, Nat.zero_add, hja, ne_eq, not_true_eq_false, EVA, ↓reduceIte, Nat.reduceEqDiff, Nat.reduceMul, reduceCtorEq, Nat.reduceAdd, Nat.reduceSub, Nat.reduceLeDiff, Nat.reduceLT, Int.reduceToNat, Int.reduceLE, Int.reduceLT, mens, men]
    refine kca_intro (sem_markText (kJ nWire a k j) (by omega)) ?_
    simp only [ga, cWire, mWire, mInt, mStr, Nat.zero_add, hja, ne_eq, not_true_eq_false, EVA, ↓reduceIte, Nat.reduceEqDiff, Nat.reduceMul, reduceCtorEq, Nat.reduceAdd, Nat.reduceSub, Nat.reduceLeDiff, Nat.reduceLT, Int.reduceToNat, Int.reduceLE, Int.reduceLT, mens, men]
    refine ⟨by rw [fits_i64]; omega, ⟨by rw [fits_i64]; omega, ⟨by rw [fits_i64]; omega, cntJ_intro () hja ?_ trivial⟩⟩⟩
    rw [kJ_succ nWire hja]
    simp only [nWire, Int.natCast_add, Int.natCast_one, Int.add_assoc]
    try rfl
  · have : j = a.length := by omega
    subst this
    rw [kJ_all]
theorem held_Bigraph (x : TBigraph) (k : Int) (hb : bdBigraph 4294967296 x) (h0 : 0 ≤ k) (hk : k + nBigraph x ≤ 4611686018427387904) (lvl : Nat) (S : Sto) : Sem Go.Proofs.Tryz.prog fid_laws_heldBigraph lvl [.ag ((cBigraph (mstBigraph x k)).map .tr), iI k] S (iI (k + nBigraph x)) S := by
  obtain ⟨b0, b1, b2, b3, b4, b5, b6⟩ := hb
  simp only [nBigraph] at hk
  refine sem_of_chk k_laws_heldBigraph trivial ?_
  simp only [c_laws_heldBigraph, cBigraph, mstBigraph, EVA, ↓reduceIte, Nat.reduceEqDiff, Nat.reduceMul, reduceCtorEq, Nat.reduceAdd, Nat.reduceSub, Nat.reduceLeDiff, Nat.reduceLT, Int.reduceToNat, Int.reduceLE, Int.reduceLT, mens, men]
  refine kca_intro (held_NodeS x.nodes (k) b0 b1 (by omega) (by omega)) ?_
  have hz0 : ¬ (k + (nL nNode x.nodes : Nat) < 0) := by omega
  simp only [cBigraph, mstBigraph, hz0, EVA, ↓reduceIte, Nat.reduceEqDiff, Nat.reduceMul, reduceCtorEq, Nat.reduceAdd, Nat.reduceSub, Nat.reduceLeDiff, Nat.reduceLT, Int.reduceToNat, Int.reduceLE, Int.reduceLT, mens, men]
  refine kca_intro (held_IntS x.sites (k + (nL nNode x.nodes : Nat)) b2 (by omega) (by omega)) ?_
  have hz1 : ¬ (k + (nL nNode x.nodes : Nat) + (nL nInt x.sites : Nat) < 0) := by omega
  simp only [cBigraph, mstBigraph, hz1, EVA, ↓reduceIte, Nat.reduceEqDiff, Nat.reduceMul, reduceCtorEq, Nat.reduceAdd, Nat.reduceSub, Nat.reduceLeDiff, Nat.reduceLT, Int.reduceToNat, Int.reduceLE, Int.reduceLT, mens, men]
  refine kca_intro (held_StringS x.outer (k + (nL nNode x.nodes : Nat) + (nL nInt x.sites : Nat)) b3 b4 (by omega) (by omega)) ?_
  have hz2 : ¬ (k + (nL nNode x.nodes : Nat) + (nL nInt x.sites : Nat) + (nL nStr x.outer : Nat) < 0) := by omega
  simp only [cBigraph, mstBigraph, hz2, EVA, ↓reduceIte, Nat.reduceEqDiff, Nat.reduceMul, reduceCtorEq, Nat.reduceAdd, Nat.reduceSub, Nat.reduceLeDiff, Nat.reduceLT, Int.reduceToNat, Int.reduceLE, Int.reduceLT, mens, men]
  refine kca_intro (held_WireS x.inner (k + (nL nNode x.nodes : Nat) + (nL nInt x.sites : Nat) + (nL nStr x.outer : Nat)) b5 b6 (by omega) (by omega)) ?_
  have hz3 : ¬ (k + (nL nNode x.nodes : Nat) + (nL nInt x.sites : Nat) + (nL nStr x.outer : Nat) + (nL nWire x.inner : Nat) < 0) := by omega
  simp only [cBigraph, mstBigraph, hz3, EVA, ↓reduceIte, Nat.reduceEqDiff, Nat.reduceMul, reduceCtorEq, Nat.reduceAdd, Nat.reduceSub, Nat.reduceLeDiff, Nat.reduceLT, Int.reduceToNat, Int.reduceLE, Int.reduceLT, mens, men]
  simp only [nBigraph, Int.natCast_add, ← Int.add_assoc]
end Go.Fd

/-
  HOW MANY MARKS SMALL THINGS TAKE. Own work.
-/
namespace Go.Fd
theorem nL_int : ∀ (l : List Int), nL nInt l = l.length
  | [] => rfl
  | x :: r => by simp only [nL, List.length_cons, nL_int r, nInt]; omega
theorem nL_le {α : Type} {n : α → Nat} {B : Nat} : ∀ (l : List α), (∀ x ∈ l, n x ≤ B) → nL n l ≤ l.length * B
  | [], _ => Nat.zero_le _
  | x :: r, h => by
    have h1 := h x (by simp)
    have h2 := nL_le r (fun y hy => h y (by simp [hy]))
    simp only [nL, List.length_cons, Nat.add_mul]
    omega
end Go.Fd

/-
  HOW MANY MARKS A THING TAKES, AGAINST ITS SIZE (printed by lawgen.py). Own work.
-/
namespace Go.Fd
theorem zqNode (x : TNode) : Zq 256 (fun l => szNode x l) (nNode x) := Zq_imp (Zq_th (by omega) (by omega) (Zq_N nInt (fun _ => (by decide : 1 ≤ 256)) x.links) Zq_id) (by simp only [nNode]; omega)
theorem zqWire (x : TWire) : Zq 256 (fun l => szWire x l) (nWire x) := Zq_imp (Zq_th (by omega) (by omega) (Zq_str x.name.size) Zq_id) (by simp only [nWire]; omega)
theorem zqBigraph (x : TBigraph) : Zq 256 (fun l => szBigraph x l) (nBigraph x) := Zq_imp (Zq_th (by omega) (by omega) (Zq_L (n := nNode) (fun y => Zq_imp (zqNode y) (by omega)) x.nodes) (Zq_th (by omega) (by omega) (Zq_N nInt (fun _ => (by decide : 1 ≤ 256)) x.sites) (Zq_th (by omega) (by omega) (Zq_L (n := nStr) (fun y => Zq_str1 y.size) x.outer) (Zq_th (by omega) (by omega) (Zq_L (n := nWire) (fun y => Zq_imp (zqWire y) (by omega)) x.inner) Zq_id)))) (by simp only [nBigraph]; omega)
theorem zqControl (x : TControl) : Zq 256 (fun l => szControl x l) (nControl x) := Zq_imp (Zq_th (by omega) (by omega) (Zq_str x.name.size) Zq_id) (by simp only [nControl]; omega)
end Go.Fd
