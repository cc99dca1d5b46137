/-
  PORTS OF EACH SORT, FAULTS: WHAT THEY ARE. Own work.
-/
import Derived.Test.YtafkbnlacihocaaGreatDoorT05
import Derived.KernelRfl
set_option linter.all false
namespace Go.Fd
set_option maxRecDepth 20000

/-! ## lists collected in order -/
def colL {α : Type} (f : Nat → List α) : Nat → List α
  | 0 => []
  | j + 1 => colL f j ++ f j
theorem colL_succ {α : Type} {f : Nat → List α} {j : Nat} : colL f (j + 1) = colL f j ++ f j := rfl
theorem colL_zero {α : Type} {f : Nat → List α} : colL f 0 = [] := rfl
theorem colL_le {α : Type} {f : Nat → List α} {B : Nat} : ∀ {j : Nat}, (∀ k, k < j → (f k).length ≤ B) → (colL f j).length ≤ j * B
  | 0, _ => Nat.zero_le _
  | j + 1, h => by
    have ih := colL_le (f := f) (B := B) (j := j) fun k hk => h k (by omega)
    have h1 := h j (by omega)
    rw [colL, List.length_append, Nat.succ_mul]
    omega
/-! ## ports -/
theorem rowP_mem {l : Int} {i : Nat} {ls : List Int} {p : Int × Int} : ∀ {k : Nat}, p ∈ rowP l i ls k → ∃ m : Nat, m < k ∧ p = ((i : Int), (m : Int))
  | 0, h => by simp [rowP] at h
  | k + 1, h => by
    unfold rowP at h
    split at h
    · rcases List.mem_append.1 h with h | h
      · obtain ⟨m, h1, h2⟩ := rowP_mem h
        exact ⟨m, by omega, h2⟩
      · exact ⟨k, by omega, by simpa using h⟩
    · obtain ⟨m, h1, h2⟩ := rowP_mem h
      exact ⟨m, by omega, h2⟩
theorem portsN_mem {b : TBigraph} {l : Int} {p : Int × Int} : ∀ {j : Nat}, p ∈ portsN b l j → ∃ i m : Nat, i < j ∧ m < (linksAt b i).length ∧ p = ((i : Int), (m : Int))
  | 0, h => by simp [portsN] at h
  | j + 1, h => by
    rw [portsN] at h
    rcases List.mem_append.1 h with h | h
    · obtain ⟨i, m, h1, h2, h3⟩ := portsN_mem h
      exact ⟨i, m, by omega, h2, h3⟩
    · obtain ⟨m, h1, h2⟩ := rowP_mem h
      exact ⟨j, m, by omega, h1, h2⟩
theorem colI_mem {f : Nat → Prop} [DecidablePred f] {n : Int} : ∀ {j : Nat}, n ∈ colI f j → ∃ i : Nat, i < j ∧ n = i ∧ f i
  | 0, h => by simp [colI] at h
  | j + 1, h => by
    unfold colI at h
    split at h
    · rename_i hf
      rcases List.mem_append.1 h with h | h
      · obtain ⟨i, h1, h2⟩ := colI_mem h
        exact ⟨i, by omega, h2⟩
      · exact ⟨j, by omega, by simpa using h, hf⟩
    · obtain ⟨i, h1, h2⟩ := colI_mem h
      exact ⟨i, by omega, h2⟩

/-! ## numbers of ports of each sort -/
def sortsOf (s : TSorting) (c : Int) : List Int := (s.sorts[c.toNat]?).getD []
def nestOf (s : TSorting) (c : Int) : List Int := (s.nest[c.toNat]?).getD []
def sortAt (s : TSorting) (b : TBigraph) (p : Int × Int) : Int := g0 (sortsOf s (ctlAt b p.1)) p.2.toNat
def bump (l : List Int) (k : Int) : List Int := l.set k.toNat (g0 l k.toNat + 1)
def onN (s : TSorting) (b : TBigraph) (ps : List (Int × Int)) : List Int := ps.foldl (fun l p => bump l (sortAt s b p)) (List.replicate s.most.length 0)
def onL (s : TSorting) (b : TBigraph) (l : Int) : List Int := onN s b (ports b l)

/-- Numbers within bounds. -/
structure Bn (n : Nat) (B : Int) (l : List Int) : Prop where
  len : l.length = n
  bd : ∀ x ∈ l, 0 ≤ x ∧ x ≤ B
theorem Bn.g {n : Nat} {B : Int} {l : List Int} (h : Bn n B l) (hB : 0 ≤ B) (k : Nat) : 0 ≤ g0 l k ∧ g0 l k ≤ B := by
  by_cases hk : k < l.length
  · have : g0 l k = l[k] := by simp [hk]
    rw [this]
    exact h.bd _ (List.getElem_mem hk)
  · have : g0 l k = 0 := by simp [g0, List.getD, List.getElem?_eq_none (Nat.le_of_not_lt hk)]
    rw [this]
    omega
theorem Bn.set {n : Nat} {B C : Int} {l : List Int} (h : Bn n B l) (hB : B ≤ C) {k : Nat} {v : Int} (h0 : 0 ≤ v) (h1 : v ≤ C) : Bn n C (l.set k v) := by
  refine ⟨by rw [List.length_set]; exact h.len, fun x hx => ?_⟩
  rcases List.mem_or_eq_of_mem_set hx with hx | hx
  · have := h.bd x hx
    omega
  · omega
theorem Bn.mono {n : Nat} {B C : Int} {l : List Int} (h : Bn n B l) (hB : B ≤ C) : Bn n C l := ⟨h.len, fun x hx => by have := h.bd x hx; omega⟩
theorem Bn_rep (n : Nat) : Bn n 0 (List.replicate n 0) := ⟨List.length_replicate, fun x hx => by
  have := List.eq_of_mem_replicate hx
  omega⟩
theorem Bn.bump {n : Nat} {B : Int} {l : List Int} (h : Bn n B l) (hB : 0 ≤ B) (k : Int) : Bn n (B + 1) (bump l k) := by
  have := h.g hB k.toNat
  exact h.set (by omega) (by omega) (by omega)
theorem Bn_fold {n : Nat} (f : Int × Int → Int) : ∀ (ps : List (Int × Int)) {B : Int} {l : List Int}, 0 ≤ B → Bn n B l → Bn n (B + ps.length) (ps.foldl (fun l p => bump l (f p)) l)
  | [], B, l, _, h => by simpa using h
  | p :: r, B, l, hB, h => by
    have := Bn_fold f r (B := B + 1) (by omega) (h.bump hB (f p))
    rw [List.foldl_cons, List.length_cons]
    exact this.mono (by omega)
theorem Bn_onN (s : TSorting) (b : TBigraph) (ps : List (Int × Int)) : Bn s.most.length ps.length (onN s b ps) := by
  have := Bn_fold (n := s.most.length) (sortAt s b) ps (Int.le_refl 0) (Bn_rep _)
  rw [Int.zero_add] at this
  exact this
theorem onN_succ {s : TSorting} {b : TBigraph} {ps : List (Int × Int)} {j : Nat} (h : j < ps.length) : onN s b (ps.take (j + 1)) = bump (onN s b (ps.take j)) (sortAt s b ps[j]) := by
  unfold onN
  rw [List.take_succ_eq_append_getElem h, List.foldl_append]
  rfl
theorem ports_le {b : TBigraph} (hs : small b) (l : Int) : (ports b l).length ≤ 8000 := by
  have h1 := portsN_le (l := l) hs.links (j := b.nodes.length) (Nat.le_refl _)
  have h2 := hs.nodes
  unfold ports
  omega
theorem Bn_onL {s : TSorting} {b : TBigraph} (hs : small b) (l : Int) : Bn s.most.length 8000 (onL s b l) := (Bn_onN s b (ports b l)).mono (by have := ports_le hs l; omega)

/-- A sorting and a bigraph that are valid. -/
structure two (sig : List TControl) (s : TSorting) (b : TBigraph) : Prop where
  srt : sortOK sig s
  big : bigOK sig b
theorem two.ctl {sig : List TControl} {s : TSorting} {b : TBigraph} (h : two sig s b) {i : Nat} (hi : i < b.nodes.length) : ∃ c : Nat, b.nodes[i].control = c ∧ ctlAt b i = c ∧ c < sig.length ∧ c < s.nest.length ∧ c < s.sorts.length := by
  have hc := (h.big.nodes i hi).ctl
  refine ⟨b.nodes[i].control.toNat, by omega, ?_, by omega, by rw [h.srt.nestL]; omega, by rw [h.srt.sortsL]; omega⟩
  simp [ctlAt, hi]
  omega
theorem two.port {sig : List TControl} {s : TSorting} {b : TBigraph} (h : two sig s b) {l : Int} {p : Int × Int} (hp : p ∈ ports b l) :
    ∃ (i m c q : Nat) (hi : i < b.nodes.length) (hc : c < s.sorts.length), p = ((i : Int), (m : Int)) ∧ b.nodes[i].control = c ∧ m < s.sorts[c].length ∧ g0 s.sorts[c] m = q ∧ q < s.most.length ∧ sortAt s b p = q := by
  obtain ⟨i, m, hi, hm, rfl⟩ := portsN_mem hp
  obtain ⟨c, e1, e2, c1, c2, c3⟩ := h.ctl hi
  have hn := h.big.nodes i hi
  have hs := h.srt.sorts c c3 c1
  rw [linksAt_eq hi] at hm
  have hpt := hn.ports
  have e3 : portsAt sig b.nodes[i].control = sig[c].ports := by simp [portsAt, e1, c1]
  rw [e3, ← hs.1] at hpt
  have hm2 : m < s.sorts[c].length := by omega
  have hg : g0 s.sorts[c] m = s.sorts[c][m] := by simp [hm2]
  have hq := hs.2 _ (List.getElem_mem hm2)
  refine ⟨i, m, c, (s.sorts[c][m]).toNat, hi, c3, rfl, e1, hm2, by omega, by omega, ?_⟩
  simp only [sortAt, e2, sortsOf, Int.toNat_natCast, List.getElem?_eq_getElem c3, Option.getD_some]
  omega

/-! ## faults -/
def chs (s : TSorting) (b : TBigraph) (p : Int) : List Int := if p < 0 then s.tops else nestOf s (ctlAt b p)
def apAt (s : TSorting) (i : Nat) : A2 := (s.apart[i]?).getD (0, 0)
def fMany (s : TSorting) (l : Int) (cs : List Int) (k : Nat) : List TFault := if g0 s.most k < g0 cs k then [⟨3, l, k⟩] else []
def fApart (s : TSorting) (l : Int) (cs : List Int) (i : Nat) : List TFault := if 0 < g0 cs (apAt s i).1.toNat ∧ 0 < g0 cs (apAt s i).2.toNat then [⟨4, l, i⟩] else []
def shared (s : TSorting) (l : Int) (cs : List Int) : List TFault := colL (fMany s l cs) cs.length ++ colL (fApart s l cs) s.apart.length
def placed (s : TSorting) (b : TBigraph) (j : Nat) : List TFault := if ctlAt b j ∈ chs s b (parAt b j) then [] else if parAt b j < 0 then [⟨1, j, -1 - parAt b j⟩] else [⟨2, j, parAt b j⟩]
def linksN (b : TBigraph) : Nat := (b.edges + b.outer.length).toNat
def faults (s : TSorting) (b : TBigraph) : List TFault := colL (placed s b) b.nodes.length ++ colL (fun l : Nat => shared s l (onL s b l)) (linksN b)

theorem fMany_le {s : TSorting} {l : Int} {cs : List Int} {k : Nat} : (fMany s l cs k).length ≤ 1 := by unfold fMany; split <;> simp
theorem fApart_le {s : TSorting} {l : Int} {cs : List Int} {k : Nat} : (fApart s l cs k).length ≤ 1 := by unfold fApart; split <;> simp
theorem placed_le {s : TSorting} {b : TBigraph} {k : Nat} : (placed s b k).length ≤ 1 := by
  unfold placed
  split
  · simp
  · split <;> simp
theorem apAt_eq {s : TSorting} {i : Nat} (h : i < s.apart.length) : apAt s i = s.apart[i] := by simp [apAt, h]

theorem sortOK.apartL {sig : List TControl} {s : TSorting} (h : sortOK sig s) : s.apart.length ≤ 16 := by
  have hm := h.many.2
  have key : ∀ i : Nat, ∀ hi : i < s.apart.length, (i : Int) ≤ 4 * s.apart[i].1 + s.apart[i].2 := by
    intro i
    induction i with
    | zero => intro hi; have := h.apart 0 hi; omega
    | succ i ih =>
      intro hi
      have h1 := ih (by omega)
      have h2 := h.apart (i + 1) hi
      have h3 := h.apart i (by omega)
      have h4 := h2.2.2.2 (by omega)
      simp only [Nat.add_sub_cancel] at h4
      unfold lt2 at h4
      rcases h4 with h4 | ⟨h4, h5⟩ <;> omega
  by_cases h0 : s.apart.length ≤ 16
  · exact h0
  · have h1 := key 16 (by omega)
    have h2 := h.apart 16 (by omega)
    omega
theorem shared_le {sig : List TControl} {s : TSorting} (h : sortOK sig s) {l : Int} {cs : List Int} (hl : cs.length = s.most.length) : (shared s l cs).length ≤ 20 := by
  have h1 := colL_le (f := fMany s l cs) (B := 1) (j := cs.length) fun k _ => fMany_le
  have h2 := colL_le (f := fApart s l cs) (B := 1) (j := s.apart.length) fun k _ => fApart_le
  have h3 := h.apartL
  have h4 := h.many.2
  unfold shared
  rw [List.length_append]
  omega
theorem linksN_le {b : TBigraph} (h : small b) : linksN b ≤ 24 := by
  have h1 := h.edges
  have h2 := h.outer
  unfold linksN
  omega
theorem faults_le {sig : List TControl} {s : TSorting} {b : TBigraph} (h : two sig s b) : (faults s b).length ≤ 488 := by
  have hs := h.big.small
  have h1 := colL_le (f := placed s b) (B := 1) (j := b.nodes.length) fun k _ => placed_le
  have h2 := colL_le (f := fun l : Nat => shared s l (onL s b l)) (B := 20) (j := linksN b) fun k _ => shared_le h.srt (Bn_onL hs k).len
  have h3 := linksN_le hs
  have h4 := hs.nodes
  unfold faults
  rw [List.length_append]
  omega

theorem setp_rI {l : List Int} {q : Nat} {v : Int} (h : q < l.length) : setp (rI l) [] q 0 (.v (.int .i64 v)) = rI (l.set q v) := by
  rw [setp_nil (rI_get h)]
  simp only [List.map_set]
  rfl
theorem cF_app (a b : List TFault) : (a ++ b).map cFault = a.map cFault ++ b.map cFault := List.map_append
theorem ScR_F (l : List TFault) : ScR (l.map cFault) := fun e he t ht => by
  obtain ⟨f, _, rfl⟩ := List.mem_map.1 he
  simp only [cFault, List.mem_cons, List.not_mem_nil, or_false] at ht
  rcases ht with rfl | rfl | rfl <;> rfl
theorem UnR_F (l : List TFault) : UnR 3 (l.map cFault) := fun e he => by
  obtain ⟨f, _, rfl⟩ := List.mem_map.1 he
  rfl
end Go.Fd

/-
  PORTS OF EACH SORT, FAULTS, CHOICES, BOTH SIDES. Own work.
-/
namespace Go.Fd
set_option maxRecDepth 20000

theorem sem_l7On (sig : List TControl) (s : TSorting) (b : TBigraph) (l : Int) (h2 : two sig s b) (lvl : Nat) (S : Sto) : Sem Go.Proofs.Tryz.prog fid_spec_l7On lvl [.ag ((cSorting s).map .tr), .ag ((cBigraph b).map .tr), iI l] S (.ow 1 (rI (onL s b l)) true) S := by
  have hsm := h2.big.small
  have hmany := h2.srt.many
  refine sem_of_chk k_spec_l7On trivial ?_
  simp only [c_spec_l7On, cSorting, cBigraph, List.length_map, EVA, ↓reduceIte, Nat.reduceEqDiff, Nat.reduceMul, reduceCtorEq, Nat.reduceAdd, Nat.reduceSub, Nat.reduceLeDiff, Nat.reduceLT, Int.reduceToNat, Int.reduceLE, Int.reduceLT, mens, men]
  refine ⟨by omega, ?_⟩
  refine kca_intro (sem_l2Ports b l (by have := hsm.nodes; omega) hsm.links) ?_
  simp only [List.length_map, EVA, ↓reduceIte, Nat.reduceEqDiff, Nat.reduceMul, reduceCtorEq, Nat.reduceAdd, Nat.reduceSub, Nat.reduceLeDiff, Nat.reduceLT, Int.reduceToNat, Int.reduceLE, Int.reduceLT, mens, men]
  refine wp_cnt (α := Unit) (ports b l).length (fun j _ => [(9, iI j)]) (fun j _ => [(448, .ar 1 (rI (onN s b ((ports b l).take j))) true s.most.length 0)]) (fun _ _ => True) () (by simp only [EVA, ↓reduceIte, Nat.reduceEqDiff, Nat.reduceMul, reduceCtorEq, Nat.reduceAdd, Nat.reduceSub, Nat.reduceLeDiff, Nat.reduceLT, Int.reduceToNat, Int.reduceLE, Int.reduceLT, mens, men]) (by (simp only [rep_rI, EVA, ↓reduceIte, Nat.reduceEqDiff, Nat.reduceMul, reduceCtorEq, Nat.reduceAdd, Nat.reduceSub, Nat.reduceLeDiff, Nat.reduceLT, Int.reduceToNat, Int.reduceLE, Int.reduceLT, mens, men]) <;> rfl) trivial ?_
  intro j _ hj _
  simp only [List.length_map, EVA, ↓reduceIte, Nat.reduceEqDiff, Nat.reduceMul, reduceCtorEq, Nat.reduceAdd, Nat.reduceSub, Nat.reduceLeDiff, Nat.reduceLT, Int.reduceToNat, Int.reduceLE, Int.reduceLT, mens, men]
  refine ite_of (fun hlt => ?_) (fun hge => ?_)
  · have hja : j < (ports b l).length := by omega
    obtain ⟨i, m, c, q, hi, hc, e1, e2, hm, e3, hq, e4⟩ := h2.port (List.getElem_mem hja)
    have gp := getA (c := cP2) hja
    rw [e1] at gp
    have gn := getA (c := cNode) hi
    have gs := getA (c := eIS) hc
    have gm := rI_get hm
    have hbn := Bn_onN s b ((ports b l).take j)
    have hq2 : q < (onN s b ((ports b l).take j)).length := by rw [hbn.len]; exact hq
    have gq := rI_get hq2
    have hg := hbn.g (by omega) q
    have hl8 := ports_le hsm l
    rw [List.length_take] at hg
    simp only [gp, cP2, gn, cNode, e2, gs, gm, e3, gq, hq, Int.toNat_natCast, Int.natCast_nonneg, List.length_map, isSc, EVA, ↓reduceIte, Nat.reduceEqDiff, Nat.reduceMul, reduceCtorEq, Nat.reduceAdd, Nat.reduceSub, Nat.reduceLeDiff, Nat.reduceLT, Int.reduceToNat, Int.reduceLE, Int.reduceLT, mens, men]
    refine ⟨by rw [fits_i64]; omega, by rw [fits_i64]; omega, cntJ_intro () hja ?_ trivial⟩
    rw [setp_rI hq2, onN_succ hja, e4]
    rfl
  · have : j = (ports b l).length := by omega
    subst this
    rw [List.take_length]
    refine ⟨(Bn_onN s b (ports b l)).len.symm, ?_⟩
    rfl

theorem sem_sortsOn (sig : List TControl) (s : TSorting) (b : TBigraph) (l : Int) (h2 : two sig s b) (lvl : Nat) (S : Sto) : Sem Go.Proofs.Tryz.prog fid_impl_Sorting_sortsOn lvl [.ag ((cSorting s).map .tr), .ag ((cBigraph b).map .tr), iI l] S (.ow 1 (rI (onL s b l)) true) S := by
  have hsm := h2.big.small
  have hmany := h2.srt.many
  refine sem_of_chk k_impl_Sorting_sortsOn trivial ?_
  simp only [c_impl_Sorting_sortsOn, cSorting, cBigraph, List.length_map, EVA, ↓reduceIte, Nat.reduceEqDiff, Nat.reduceMul, reduceCtorEq, Nat.reduceAdd, Nat.reduceSub, Nat.reduceLeDiff, Nat.reduceLT, Int.reduceToNat, Int.reduceLE, Int.reduceLT, mens, men]
  refine ⟨by omega, ?_⟩
  refine kca_intro (sem_pointsOf b l (by have := hsm.nodes; omega) hsm.links (by have := hsm.inner; omega)) ?_
  simp only [List.length_map, EVA, ↓reduceIte, Nat.reduceEqDiff, Nat.reduceMul, reduceCtorEq, Nat.reduceAdd, Nat.reduceSub, Nat.reduceLeDiff, Nat.reduceLT, Int.reduceToNat, Int.reduceLE, Int.reduceLT, mens, men]
  refine wp_cnt (α := Unit) (ports b l).length (fun j _ => [(24, iI j)]) (fun j _ => [(480, .ar 1 (rI (onN s b ((ports b l).take j))) true s.most.length 0)]) (fun _ _ => True) () (by simp only [EVA, ↓reduceIte, Nat.reduceEqDiff, Nat.reduceMul, reduceCtorEq, Nat.reduceAdd, Nat.reduceSub, Nat.reduceLeDiff, Nat.reduceLT, Int.reduceToNat, Int.reduceLE, Int.reduceLT, mens, men]) (by (simp only [rep_rI, EVA, ↓reduceIte, Nat.reduceEqDiff, Nat.reduceMul, reduceCtorEq, Nat.reduceAdd, Nat.reduceSub, Nat.reduceLeDiff, Nat.reduceLT, Int.reduceToNat, Int.reduceLE, Int.reduceLT, mens, men]) <;> rfl) trivial ?_
  intro j _ hj _
  simp only [List.length_map, EVA, ↓reduceIte, Nat.reduceEqDiff, Nat.reduceMul, reduceCtorEq, Nat.reduceAdd, Nat.reduceSub, Nat.reduceLeDiff, Nat.reduceLT, Int.reduceToNat, Int.reduceLE, Int.reduceLT, mens, men]
  refine ite_of (fun hlt => ?_) (fun hge => ?_)
  · have hja : j < (ports b l).length := by omega
    obtain ⟨i, m, c, q, hi, hc, e1, e2, hm, e3, hq, e4⟩ := h2.port (List.getElem_mem hja)
    have gp := getA (c := cP2) hja
    rw [e1] at gp
    have gn := getA (c := cNode) hi
    have gs := getA (c := eIS) hc
    have gm := rI_get hm
    have hbn := Bn_onN s b ((ports b l).take j)
    have hq2 : q < (onN s b ((ports b l).take j)).length := by rw [hbn.len]; exact hq
    have gq := rI_get hq2
    have hg := hbn.g (by omega) q
    have hl8 := ports_le hsm l
    rw [List.length_take] at hg
    simp only [gp, cP2, gn, cNode, e2, gs, gm, e3, gq, hq, Int.toNat_natCast, Int.natCast_nonneg, List.length_map, isSc, EVA, ↓reduceIte, Nat.reduceEqDiff, Nat.reduceMul, reduceCtorEq, Nat.reduceAdd, Nat.reduceSub, Nat.reduceLeDiff, Nat.reduceLT, Int.reduceToNat, Int.reduceLE, Int.reduceLT, mens, men]
    refine ⟨by rw [fits_i64]; omega, by rw [fits_i64]; omega, cntJ_intro () hja ?_ trivial⟩
    rw [setp_rI hq2, onN_succ hja, e4]
    rfl
  · have : j = (ports b l).length := by omega
    subst this
    rw [List.take_length]
    refine ⟨(Bn_onN s b (ports b l)).len.symm, ?_⟩
    rfl

theorem sem_l7Allowed (sig : List TControl) (s : TSorting) (b : TBigraph) (p : Int) (h2 : two sig s b) (hp : p < b.nodes.length) (lvl : Nat) (S : Sto) : Sem Go.Proofs.Tryz.prog fid_spec_l7Allowed lvl [.ag ((cSorting s).map .tr), .ag ((cBigraph b).map .tr), iI p] S (tI (chs s b p)) S := by
  refine sem_of_chk k_spec_l7Allowed trivial ?_
  simp only [c_spec_l7Allowed, cSorting, cBigraph, List.length_map, EVA, ↓reduceIte, Nat.reduceEqDiff, Nat.reduceMul, reduceCtorEq, Nat.reduceAdd, Nat.reduceSub, Nat.reduceLeDiff, Nat.reduceLT, Int.reduceToNat, Int.reduceLE, Int.reduceLT, mens, men]
  refine ite_of (fun hlt => ?_) (fun hge => ?_)
  · unfold chs
    rw [if_pos hlt]
  · obtain ⟨i, rfl⟩ : ∃ i : Nat, p = i := ⟨p.toNat, by omega⟩
    have hi : i < b.nodes.length := by omega
    obtain ⟨c, e1, e2, c1, c2, c3⟩ := h2.ctl hi
    have gn := getA (c := cNode) hi
    have gs := getA (c := eIS) c2
    simp only [gn, cNode, e1, gs, Int.toNat_natCast, Int.natCast_nonneg, List.length_map, EVA, ↓reduceIte, Nat.reduceEqDiff, Nat.reduceMul, reduceCtorEq, Nat.reduceAdd, Nat.reduceSub, Nat.reduceLeDiff, Nat.reduceLT, Int.reduceToNat, Int.reduceLE, Int.reduceLT, mens, men]
    unfold chs
    rw [if_neg hge, e2]
    simp [nestOf, c2]

theorem sem_choices (sig : List TControl) (s : TSorting) (b : TBigraph) (p : Int) (h2 : two sig s b) (hp : p < b.nodes.length) (lvl : Nat) (S : Sto) : Sem Go.Proofs.Tryz.prog fid_impl_Sorting_choices lvl [.ag ((cSorting s).map .tr), .ag ((cBigraph b).map .tr), iI p] S (tI (chs s b p)) S := by
  refine sem_of_chk k_impl_Sorting_choices trivial ?_
  simp only [c_impl_Sorting_choices, cSorting, cBigraph, List.length_map, EVA, ↓reduceIte, Nat.reduceEqDiff, Nat.reduceMul, reduceCtorEq, Nat.reduceAdd, Nat.reduceSub, Nat.reduceLeDiff, Nat.reduceLT, Int.reduceToNat, Int.reduceLE, Int.reduceLT, mens, men]
  refine ite_of (fun hlt => ?_) (fun hge => ?_)
  · unfold chs
    rw [if_pos hlt]
  · obtain ⟨i, rfl⟩ : ∃ i : Nat, p = i := ⟨p.toNat, by omega⟩
    have hi : i < b.nodes.length := by omega
    obtain ⟨c, e1, e2, c1, c2, c3⟩ := h2.ctl hi
    have gn := getA (c := cNode) hi
    have gs := getA (c := eIS) c2
    simp only [gn, cNode, e1, gs, Int.toNat_natCast, Int.natCast_nonneg, List.length_map, EVA, ↓reduceIte, Nat.reduceEqDiff, Nat.reduceMul, reduceCtorEq, Nat.reduceAdd, Nat.reduceSub, Nat.reduceLeDiff, Nat.reduceLT, Int.reduceToNat, Int.reduceLE, Int.reduceLT, mens, men]
    unfold chs
    rw [if_neg hge, e2]
    simp [nestOf, c2]

theorem two.par {sig : List TControl} {s : TSorting} {b : TBigraph} (h2 : two sig s b) {j : Nat} (hj : j < b.nodes.length) : -4 ≤ b.nodes[j].parent ∧ b.nodes[j].parent < b.nodes.length := by
  have h1 := (h2.big.nodes j hj).par
  have h3 := h2.big.roots
  rcases h1 with h1 | h1 <;> omega
theorem two.chsL {sig : List TControl} {s : TSorting} {b : TBigraph} (h2 : two sig s b) (hs : bdSorting 4294967296 s) (p : Int) : (chs s b p).length ≤ 4294967296 := by
  obtain ⟨b1, b2, b3, b4, b5, b6, b7⟩ := hs
  unfold chs
  split
  · exact b1
  · unfold nestOf
    cases e : s.nest[(ctlAt b p).toNat]? with
    | none => simp
    | some x =>
      obtain ⟨hl, rfl⟩ := List.getElem?_eq_some_iff.1 e
      exact b3 _ (List.getElem_mem hl)

theorem sem_l7Placed (sig : List TControl) (s : TSorting) (b : TBigraph) (j : Nat) (h2 : two sig s b) (hs : bdSorting 4294967296 s) (hj : j < b.nodes.length) (lvl : Nat) (S : Sto) : Sem Go.Proofs.Tryz.prog fid_spec_l7Placed lvl [.ag ((cSorting s).map .tr), .ag ((cBigraph b).map .tr), iI j] S (.ow 3 ((placed s b j).map cFault) true) S := by
  have hp := h2.par hj
  obtain ⟨c, e1, e2, c1, c2, c3⟩ := h2.ctl hj
  have gn := getA (c := cNode) hj
  refine sem_of_chk k_spec_l7Placed trivial ?_
  simp only [c_spec_l7Placed, cSorting, cBigraph, List.length_map, gn, cNode, EVA, ↓reduceIte, Nat.reduceEqDiff, Nat.reduceMul, reduceCtorEq, Nat.reduceAdd, Nat.reduceSub, Nat.reduceLeDiff, Nat.reduceLT, Int.reduceToNat, Int.reduceLE, Int.reduceLT, mens, men]
  refine kca_intro (sem_l7Allowed sig s b b.nodes[j].parent h2 (by omega)) ?_
  simp only [cSorting, cBigraph, List.length_map, gn, cNode, EVA, ↓reduceIte, Nat.reduceEqDiff, Nat.reduceMul, reduceCtorEq, Nat.reduceAdd, Nat.reduceSub, Nat.reduceLeDiff, Nat.reduceLT, Int.reduceToNat, Int.reduceLE, Int.reduceLT, mens, men]
  refine kca_intro (sem_l1Has (chs s b b.nodes[j].parent) b.nodes[j].control (by have := h2.chsL hs b.nodes[j].parent; omega)) ?_
  have ep : parAt b j = b.nodes[j].parent := parAt_eq hj
  by_cases hm : b.nodes[j].control ∈ chs s b b.nodes[j].parent
  · simp only [hm, EVA, ↓reduceIte, Nat.reduceEqDiff, Nat.reduceMul, reduceCtorEq, Nat.reduceAdd, Nat.reduceSub, Nat.reduceLeDiff, Nat.reduceLT, Int.reduceToNat, Int.reduceLE, Int.reduceLT, mens, men]
    unfold placed
    rw [ep, e2, ← e1, if_pos hm]
    rfl
  · simp only [hm, cSorting, cBigraph, List.length_map, gn, cNode, EVA, ↓reduceIte, Nat.reduceEqDiff, Nat.reduceMul, reduceCtorEq, Nat.reduceAdd, Nat.reduceSub, Nat.reduceLeDiff, Nat.reduceLT, Int.reduceToNat, Int.reduceLE, Int.reduceLT, mens, men]
    refine ite_of (fun hlt => ?_) (fun hge => ?_)
    · refine ⟨by rw [fits_i64]; omega, ?_⟩
      unfold placed
      rw [ep, e2, ← e1, if_neg hm, if_pos hlt]
      rfl
    · unfold placed
      rw [ep, e2, ← e1, if_neg hm, if_neg hge]
      rfl

theorem scrF {l : List TFault} : ScR (l.map cFault) = True := eq_true (ScR_F l)
theorem unrF {l : List TFault} : UnR 3 (l.map cFault) = True := eq_true (UnR_F l)
theorem max_add {n m : Nat} : max n (n + m) = n + m := by omega
theorem apart_at {sig : List TControl} {s : TSorting} (g : sortOK sig s) {j : Nat} (h : j < s.apart.length) : ∃ x y : Nat, s.apart[j].1 = x ∧ s.apart[j].2 = y ∧ x < s.most.length ∧ y < s.most.length := by
  have := g.apart j h
  exact ⟨s.apart[j].1.toNat, s.apart[j].2.toNat, by omega, by omega, by omega, by omega⟩

theorem sem_l7Shared (sig : List TControl) (s : TSorting) (l : Int) (cs : List Int) (g : sortOK sig s) (hc : cs.length = s.most.length) (lvl : Nat) (S : Sto) : Sem Go.Proofs.Tryz.prog fid_spec_l7Shared lvl [.ag ((cSorting s).map .tr), iI l, tI cs] S (.ow 3 ((shared s l cs).map cFault) true) S := by
  have hmany := g.many
  have hapl := g.apartL
  refine sem_of_chk k_spec_l7Shared trivial ?_
  simp only [c_spec_l7Shared, cSorting, List.length_map, EVA, ↓reduceIte, Nat.reduceEqDiff, Nat.reduceMul, reduceCtorEq, Nat.reduceAdd, Nat.reduceSub, Nat.reduceLeDiff, Nat.reduceLT, Int.reduceToNat, Int.reduceLE, Int.reduceLT, mens, men]
  refine wp_cnt (α := Unit) cs.length (fun j _ => [(7, .hd (lvl, 320) [] 0 (colL (fMany s l cs) j).length none (colL (fMany s l cs) j).length), (8, iI j)]) (fun j _ => [(320, .ar 3 ((colL (fMany s l cs) j).map cFault) true (colL (fMany s l cs) j).length 0)]) (fun _ _ => True) () (by simp only [EVA, ↓reduceIte, Nat.reduceEqDiff, Nat.reduceMul, reduceCtorEq, Nat.reduceAdd, Nat.reduceSub, Nat.reduceLeDiff, Nat.reduceLT, Int.reduceToNat, Int.reduceLE, Int.reduceLT, mens, men]) (by (simp only [EVA, ↓reduceIte, Nat.reduceEqDiff, Nat.reduceMul, reduceCtorEq, Nat.reduceAdd, Nat.reduceSub, Nat.reduceLeDiff, Nat.reduceLT, Int.reduceToNat, Int.reduceLE, Int.reduceLT, mens, men]) <;> rfl) trivial ?_
  intro j _ hj _
  simp only [List.length_map, EVA, ↓reduceIte, Nat.reduceEqDiff, Nat.reduceMul, reduceCtorEq, Nat.reduceAdd, Nat.reduceSub, Nat.reduceLeDiff, Nat.reduceLT, Int.reduceToNat, Int.reduceLE, Int.reduceLT, mens, men]
  refine ite_of (fun hlt => ?_) (fun hge => ?_)
  · have hja : j < cs.length := by omega
    have gc := rI_get hja
    have gm := rI_get (l := s.most) (i := j) (by omega)
    have hle := colL_le (f := fMany s l cs) (B := 1) (j := j) fun k _ => fMany_le
    simp only [gc, gm, List.length_map, EVA, ↓reduceIte, Nat.reduceEqDiff, Nat.reduceMul, reduceCtorEq, Nat.reduceAdd, Nat.reduceSub, Nat.reduceLeDiff, Nat.reduceLT, Int.reduceToNat, Int.reduceLE, Int.reduceLT, mens, men]
    refine ite_of (fun he => ?_) (fun hne => ?_)
    · refine ⟨by omega, by rw [fits_i64]; omega, cntJ_intro () hja ?_ trivial⟩
      have e : fMany s l cs j = [⟨3, l, j⟩] := by unfold fMany; rw [if_pos he]
      rw [colL_succ, e, List.length_append, cF_app]
      rfl
    · refine ⟨by rw [fits_i64]; omega, cntJ_intro () hja ?_ trivial⟩
      have e : fMany s l cs j = [] := by unfold fMany; rw [if_neg hne]
      rw [colL_succ, e, List.append_nil]
      rfl
  have hj1 : j = cs.length := by omega
  subst hj1
  refine wp_cnt (α := Unit) s.apart.length (fun j _ => [(7, .hd (lvl, 320) [] 0 (colL (fMany s l cs) cs.length ++ colL (fApart s l cs) j).length none (colL (fMany s l cs) cs.length ++ colL (fApart s l cs) j).length), (9, iI j)]) (fun j _ => [(320, .ar 3 ((colL (fMany s l cs) cs.length ++ colL (fApart s l cs) j).map cFault) true (colL (fMany s l cs) cs.length ++ colL (fApart s l cs) j).length 0)]) (fun _ _ => True) () (by simp only [EVA, ↓reduceIte, Nat.reduceEqDiff, Nat.reduceMul, reduceCtorEq, Nat.reduceAdd, Nat.reduceSub, Nat.reduceLeDiff, Nat.reduceLT, Int.reduceToNat, Int.reduceLE, Int.reduceLT, mens, men]) (by (simp only [colL_zero, List.append_nil, EVA, ↓reduceIte, Nat.reduceEqDiff, Nat.reduceMul, reduceCtorEq, Nat.reduceAdd, Nat.reduceSub, Nat.reduceLeDiff, Nat.reduceLT, Int.reduceToNat, Int.reduceLE, Int.reduceLT, mens, men]) <;> rfl) trivial ?_
  intro j _ hj _
  simp only [List.length_map, EVA, ↓reduceIte, Nat.reduceEqDiff, Nat.reduceMul, reduceCtorEq, Nat.reduceAdd, Nat.reduceSub, Nat.reduceLeDiff, Nat.reduceLT, Int.reduceToNat, Int.reduceLE, Int.reduceLT, mens, men]
  refine ite_of (fun hlt => ?_) (fun hge => ?_)
  · have hja : j < s.apart.length := by omega
    have ga := getA (c := cA2) hja
    obtain ⟨x, y, ex, ey, hx, hy⟩ := apart_at g hja
    have gx := rI_get (l := cs) (i := x) (by omega)
    have gy := rI_get (l := cs) (i := y) (by omega)
    have hle := colL_le (f := fMany s l cs) (B := 1) (j := cs.length) fun k _ => fMany_le
    have hle2 := colL_le (f := fApart s l cs) (B := 1) (j := j) fun k _ => fApart_le
    have hap := apAt_eq hja
    by_cases h1 : 0 < g0 cs x
    · by_cases h2 : 0 < g0 cs y
      · simp only [ga, cA2, ex, ey, gx, gy, h1, h2, List.length_map, EVA, ↓reduceIte, Nat.reduceEqDiff, Nat.reduceMul, reduceCtorEq, Nat.reduceAdd, Nat.reduceSub, Nat.reduceLeDiff, Nat.reduceLT, Int.reduceToNat, Int.reduceLE, Int.reduceLT, mens, men]
        refine ⟨by rw [List.length_append]; omega, by rw [fits_i64]; omega, cntJ_intro () hja ?_ trivial⟩
        have e : fApart s l cs j = [⟨4, l, j⟩] := by unfold fApart; rw [if_pos (by rw [hap, ex, ey]; exact ⟨h1, h2⟩)]
        rw [colL_succ, ← List.append_assoc, e, List.length_append (bs := [_]), cF_app (colL (fMany s l cs) cs.length ++ _)]
        rfl
      · simp only [ga, cA2, ex, ey, gx, gy, h1, h2, List.length_map, EVA, ↓reduceIte, Nat.reduceEqDiff, Nat.reduceMul, reduceCtorEq, Nat.reduceAdd, Nat.reduceSub, Nat.reduceLeDiff, Nat.reduceLT, Int.reduceToNat, Int.reduceLE, Int.reduceLT, mens, men]
        refine ⟨by rw [fits_i64]; omega, cntJ_intro () hja ?_ trivial⟩
        have e : fApart s l cs j = [] := by unfold fApart; rw [if_neg (by rw [hap, ex, ey]; exact fun h => h2 h.2)]
        rw [colL_succ, e, List.append_nil]
        rfl
    · simp only [ga, cA2, ex, ey, gx, gy, h1, List.length_map, EVA, ↓reduceIte, Nat.reduceEqDiff, Nat.reduceMul, reduceCtorEq, Nat.reduceAdd, Nat.reduceSub, Nat.reduceLeDiff, Nat.reduceLT, Int.reduceToNat, Int.reduceLE, Int.reduceLT, mens, men]
      refine ⟨by rw [fits_i64]; omega, cntJ_intro () hja ?_ trivial⟩
      have e : fApart s l cs j = [] := by unfold fApart; rw [if_neg (by rw [hap, ex, ey]; exact fun h => h1 h.1)]
      rw [colL_succ, e, List.append_nil]
      rfl
  · have : j = s.apart.length := by omega
    subst this
    rfl

theorem sem_linkFaults (sig : List TControl) (s : TSorting) (l : Int) (cs : List Int) (g : sortOK sig s) (hc : cs.length = s.most.length) (lvl : Nat) (S : Sto) : Sem Go.Proofs.Tryz.prog fid_impl_Sorting_linkFaults lvl [.ag ((cSorting s).map .tr), iI l, tI cs] S (.ow 3 ((shared s l cs).map cFault) true) S := by
  have hmany := g.many
  have hapl := g.apartL
  refine sem_of_chk k_impl_Sorting_linkFaults trivial ?_
  simp only [c_impl_Sorting_linkFaults, cSorting, List.length_map, EVA, ↓reduceIte, Nat.reduceEqDiff, Nat.reduceMul, reduceCtorEq, Nat.reduceAdd, Nat.reduceSub, Nat.reduceLeDiff, Nat.reduceLT, Int.reduceToNat, Int.reduceLE, Int.reduceLT, mens, men]
  refine wp_cnt (α := Unit) cs.length (fun j _ => [(7, .hd (lvl, 384) [] 0 (colL (fMany s l cs) j).length none (colL (fMany s l cs) j).length), (15, iI j)]) (fun j _ => [(384, .ar 3 ((colL (fMany s l cs) j).map cFault) true (colL (fMany s l cs) j).length 0)]) (fun _ _ => True) () (by simp only [EVA, ↓reduceIte, Nat.reduceEqDiff, Nat.reduceMul, reduceCtorEq, Nat.reduceAdd, Nat.reduceSub, Nat.reduceLeDiff, Nat.reduceLT, Int.reduceToNat, Int.reduceLE, Int.reduceLT, mens, men]) (by (simp only [EVA, ↓reduceIte, Nat.reduceEqDiff, Nat.reduceMul, reduceCtorEq, Nat.reduceAdd, Nat.reduceSub, Nat.reduceLeDiff, Nat.reduceLT, Int.reduceToNat, Int.reduceLE, Int.reduceLT, mens, men]) <;> rfl) trivial ?_
  intro j _ hj _
  simp only [List.length_map, EVA, ↓reduceIte, Nat.reduceEqDiff, Nat.reduceMul, reduceCtorEq, Nat.reduceAdd, Nat.reduceSub, Nat.reduceLeDiff, Nat.reduceLT, Int.reduceToNat, Int.reduceLE, Int.reduceLT, mens, men]
  refine ite_of (fun hlt => ?_) (fun hge => ?_)
  · have hja : j < cs.length := by omega
    have gc := rI_get hja
    have gm := rI_get (l := s.most) (i := j) (by omega)
    have hle := colL_le (f := fMany s l cs) (B := 1) (j := j) fun k _ => fMany_le
    simp only [gc, gm, List.length_map, EVA, ↓reduceIte, Nat.reduceEqDiff, Nat.reduceMul, reduceCtorEq, Nat.reduceAdd, Nat.reduceSub, Nat.reduceLeDiff, Nat.reduceLT, Int.reduceToNat, Int.reduceLE, Int.reduceLT, mens, men]
    refine ite_of (fun he => ?_) (fun hne => ?_)
    · refine ⟨by omega, by rw [fits_i64]; omega, cntJ_intro () hja ?_ trivial⟩
      have e : fMany s l cs j = [⟨3, l, j⟩] := by unfold fMany; rw [if_pos he]
      rw [colL_succ, e, List.length_append, cF_app]
      rfl
    · refine ⟨by rw [fits_i64]; omega, cntJ_intro () hja ?_ trivial⟩
      have e : fMany s l cs j = [] := by unfold fMany; rw [if_neg hne]
      rw [colL_succ, e, List.append_nil]
      rfl
  have hj1 : j = cs.length := by omega
  subst hj1
  refine wp_cnt (α := Unit) s.apart.length (fun j _ => [(7, .hd (lvl, 384) [] 0 (colL (fMany s l cs) cs.length ++ colL (fApart s l cs) j).length none (colL (fMany s l cs) cs.length ++ colL (fApart s l cs) j).length), (37, iI j)]) (fun j _ => [(384, .ar 3 ((colL (fMany s l cs) cs.length ++ colL (fApart s l cs) j).map cFault) true (colL (fMany s l cs) cs.length ++ colL (fApart s l cs) j).length 0)]) (fun _ _ => True) () (by simp only [EVA, ↓reduceIte, Nat.reduceEqDiff, Nat.reduceMul, reduceCtorEq, Nat.reduceAdd, Nat.reduceSub, Nat.reduceLeDiff, Nat.reduceLT, Int.reduceToNat, Int.reduceLE, Int.reduceLT, mens, men]) (by (simp only [colL_zero, List.append_nil, EVA, ↓reduceIte, Nat.reduceEqDiff, Nat.reduceMul, reduceCtorEq, Nat.reduceAdd, Nat.reduceSub, Nat.reduceLeDiff, Nat.reduceLT, Int.reduceToNat, Int.reduceLE, Int.reduceLT, mens, men]) <;> rfl) trivial ?_
  intro j _ hj _
  simp only [List.length_map, EVA, ↓reduceIte, Nat.reduceEqDiff, Nat.reduceMul, reduceCtorEq, Nat.reduceAdd, Nat.reduceSub, Nat.reduceLeDiff, Nat.reduceLT, Int.reduceToNat, Int.reduceLE, Int.reduceLT, mens, men]
  refine ite_of (fun hlt => ?_) (fun hge => ?_)
  · have hja : j < s.apart.length := by omega
    have ga := getA (c := cA2) hja
    obtain ⟨x, y, ex, ey, hx, hy⟩ := apart_at g hja
    have gx := rI_get (l := cs) (i := x) (by omega)
    have gy := rI_get (l := cs) (i := y) (by omega)
    have hle := colL_le (f := fMany s l cs) (B := 1) (j := cs.length) fun k _ => fMany_le
    have hle2 := colL_le (f := fApart s l cs) (B := 1) (j := j) fun k _ => fApart_le
    have hap := apAt_eq hja
    by_cases h1 : 0 < g0 cs x
    · by_cases h2 : 0 < g0 cs y
      · simp only [ga, cA2, ex, ey, gx, gy, h1, h2, List.length_map, EVA, ↓reduceIte, Nat.reduceEqDiff, Nat.reduceMul, reduceCtorEq, Nat.reduceAdd, Nat.reduceSub, Nat.reduceLeDiff, Nat.reduceLT, Int.reduceToNat, Int.reduceLE, Int.reduceLT, mens, men]
        refine ⟨by rw [List.length_append]; omega, by rw [fits_i64]; omega, cntJ_intro () hja ?_ trivial⟩
        have e : fApart s l cs j = [⟨4, l, j⟩] := by unfold fApart; rw [if_pos (by rw [hap, ex, ey]; exact ⟨h1, h2⟩)]
        rw [colL_succ, ← List.append_assoc, e, List.length_append (bs := [_]), cF_app (colL (fMany s l cs) cs.length ++ _)]
        rfl
      · simp only [ga, cA2, ex, ey, gx, gy, h1, h2, List.length_map, EVA, ↓reduceIte, Nat.reduceEqDiff, Nat.reduceMul, reduceCtorEq, Nat.reduceAdd, Nat.reduceSub, Nat.reduceLeDiff, Nat.reduceLT, Int.reduceToNat, Int.reduceLE, Int.reduceLT, mens, men]
        refine ⟨by rw [fits_i64]; omega, cntJ_intro () hja ?_ trivial⟩
        have e : fApart s l cs j = [] := by unfold fApart; rw [if_neg (by rw [hap, ex, ey]; exact fun h => h2 h.2)]
        rw [colL_succ, e, List.append_nil]
        rfl
    · simp only [ga, cA2, ex, ey, gx, gy, h1, List.length_map, EVA, ↓reduceIte, Nat.reduceEqDiff, Nat.reduceMul, reduceCtorEq, Nat.reduceAdd, Nat.reduceSub, Nat.reduceLeDiff, Nat.reduceLT, Int.reduceToNat, Int.reduceLE, Int.reduceLT, mens, men]
      refine ⟨by rw [fits_i64]; omega, cntJ_intro () hja ?_ trivial⟩
      have e : fApart s l cs j = [] := by unfold fApart; rw [if_neg (by rw [hap, ex, ey]; exact fun h => h1 h.1)]
      rw [colL_succ, e, List.append_nil]
      rfl
  · have : j = s.apart.length := by omega
    subst this
    rfl
end Go.Fd

/-
  ALL FAULTS, BOTH SIDES; SORTED OR NOT. Own work.
-/
namespace Go.Fd
set_option maxRecDepth 20000

theorem two.links {sig : List TControl} {s : TSorting} {b : TBigraph} (h2 : two sig s b) : (linksN b : Int) = b.edges + b.outer.length := by
  have := h2.big.edges
  unfold linksN
  omega
theorem placed_lens {s : TSorting} {b : TBigraph} {j : Nat} : (colL (placed s b) j).length ≤ j := by
  have := colL_le (f := placed s b) (B := 1) (j := j) fun k _ => placed_le
  omega
theorem two.lens {sig : List TControl} {s : TSorting} {b : TBigraph} (h2 : two sig s b) {j : Nat} : (colL (fun l : Nat => shared s l (onL s b l)) j).length ≤ j * 20 :=
  colL_le (f := fun l : Nat => shared s l (onL s b l)) (B := 20) fun k _ => shared_le h2.srt (Bn_onL h2.big.small k).len

theorem sem_l7Faults (sig : List TControl) (s : TSorting) (b : TBigraph) (h2 : two sig s b) (hs : bdSorting 4294967296 s) (lvl : Nat) (S : Sto) : Sem Go.Proofs.Tryz.prog fid_spec_l7Faults lvl [.ag ((cSorting s).map .tr), .ag ((cBigraph b).map .tr)] S (.ow 3 ((faults s b).map cFault) true) S := by
  have hsm := h2.big.small
  have hN := h2.links
  have hN2 := linksN_le hsm
  have hn8 := hsm.nodes
  refine sem_of_chk k_spec_l7Faults trivial ?_
  simp only [c_spec_l7Faults, cSorting, cBigraph, List.length_map, EVA, ↓reduceIte, Nat.reduceEqDiff, Nat.reduceMul, reduceCtorEq, Nat.reduceAdd, Nat.reduceSub, Nat.reduceLeDiff, Nat.reduceLT, Int.reduceToNat, Int.reduceLE, Int.reduceLT, mens, men]
  refine wp_cnt (α := Unit) b.nodes.length (fun j _ => [(5, .hd (lvl, 256) [] 0 (colL (placed s b) j).length none (colL (placed s b) j).length), (6, iI j)]) (fun j _ => [(256, .ar 3 ((colL (placed s b) j).map cFault) true (colL (placed s b) j).length 0)]) (fun _ _ => True) () (by simp only [EVA, ↓reduceIte, Nat.reduceEqDiff, Nat.reduceMul, reduceCtorEq, Nat.reduceAdd, Nat.reduceSub, Nat.reduceLeDiff, Nat.reduceLT, Int.reduceToNat, Int.reduceLE, Int.reduceLT, mens, men]) (by (simp only [EVA, ↓reduceIte, Nat.reduceEqDiff, Nat.reduceMul, reduceCtorEq, Nat.reduceAdd, Nat.reduceSub, Nat.reduceLeDiff, Nat.reduceLT, Int.reduceToNat, Int.reduceLE, Int.reduceLT, mens, men]) <;> rfl) trivial ?_
  intro j _ hj _
  simp only [cSorting, cBigraph, List.length_map, EVA, ↓reduceIte, Nat.reduceEqDiff, Nat.reduceMul, reduceCtorEq, Nat.reduceAdd, Nat.reduceSub, Nat.reduceLeDiff, Nat.reduceLT, Int.reduceToNat, Int.reduceLE, Int.reduceLT, mens, men]
  refine ite_of (fun hlt => ?_) (fun hge => ?_)
  · have hja : j < b.nodes.length := by omega
    have hle := placed_lens (s := s) (b := b) (j := j)
    have hp1 := placed_le (s := s) (b := b) (k := j)
    refine kca_intro (sem_l7Placed sig s b j h2 hs hja) ?_
    simp only [List.length_map, scrF, unrF, max_add, EVA, ↓reduceIte, Nat.reduceEqDiff, Nat.reduceMul, reduceCtorEq, Nat.reduceAdd, Nat.reduceSub, Nat.reduceLeDiff, Nat.reduceLT, Int.reduceToNat, Int.reduceLE, Int.reduceLT, mens, men]
    refine ⟨by omega, by rw [fits_i64]; omega, cntJ_intro () hja ?_ trivial⟩
    rw [colL_succ, List.length_append, cF_app]
    rfl
  have hj1 : j = b.nodes.length := by omega
  subst hj1
  refine wp_cnt (α := Unit) (linksN b) (fun j _ => [(5, .hd (lvl, 256) [] 0 (colL (placed s b) b.nodes.length ++ colL (fun l : Nat => shared s l (onL s b l)) j).length none (colL (placed s b) b.nodes.length ++ colL (fun l : Nat => shared s l (onL s b l)) j).length), (7, iI j)]) (fun j _ => [(256, .ar 3 ((colL (placed s b) b.nodes.length ++ colL (fun l : Nat => shared s l (onL s b l)) j).map cFault) true (colL (placed s b) b.nodes.length ++ colL (fun l : Nat => shared s l (onL s b l)) j).length 0)]) (fun _ _ => True) () (by simp only [EVA, ↓reduceIte, Nat.reduceEqDiff, Nat.reduceMul, reduceCtorEq, Nat.reduceAdd, Nat.reduceSub, Nat.reduceLeDiff, Nat.reduceLT, Int.reduceToNat, Int.reduceLE, Int.reduceLT, mens, men]) (by (simp only [colL_zero, List.append_nil, EVA, ↓reduceIte, Nat.reduceEqDiff, Nat.reduceMul, reduceCtorEq, Nat.reduceAdd, Nat.reduceSub, Nat.reduceLeDiff, Nat.reduceLT, Int.reduceToNat, Int.reduceLE, Int.reduceLT, mens, men]) <;> rfl) trivial ?_
  intro j _ hj _
  simp only [cSorting, cBigraph, List.length_map, EVA, ↓reduceIte, Nat.reduceEqDiff, Nat.reduceMul, reduceCtorEq, Nat.reduceAdd, Nat.reduceSub, Nat.reduceLeDiff, Nat.reduceLT, Int.reduceToNat, Int.reduceLE, Int.reduceLT, mens, men]
  refine ⟨by rw [fits_i64]; omega, ite_of (fun hlt => ?_) (fun hge => ?_)⟩
  · have hja : j < linksN b := by omega
    have hle := placed_lens (s := s) (b := b) (j := b.nodes.length)
    have hle2 := h2.lens (j := j)
    have hsl := shared_le h2.srt (l := j) (Bn_onL (s := s) hsm j).len
    refine kca_intro (sem_l7On sig s b j h2) ?_
    simp only [cSorting, cBigraph, List.length_map, EVA, ↓reduceIte, Nat.reduceEqDiff, Nat.reduceMul, reduceCtorEq, Nat.reduceAdd, Nat.reduceSub, Nat.reduceLeDiff, Nat.reduceLT, Int.reduceToNat, Int.reduceLE, Int.reduceLT, mens, men]
    refine kca_intro (sem_l7Shared sig s j (onL s b j) h2.srt (Bn_onL hsm j).len) ?_
    simp only [List.length_map, scrF, unrF, max_add, EVA, ↓reduceIte, Nat.reduceEqDiff, Nat.reduceMul, reduceCtorEq, Nat.reduceAdd, Nat.reduceSub, Nat.reduceLeDiff, Nat.reduceLT, Int.reduceToNat, Int.reduceLE, Int.reduceLT, mens, men]
    refine ⟨by rw [List.length_append]; omega, by rw [fits_i64]; omega, cntJ_intro () hja ?_ trivial⟩
    rw [colL_succ, ← List.append_assoc, List.length_append (bs := shared s j (onL s b j)), cF_app (colL (placed s b) b.nodes.length ++ _)]
    rfl
  · have : j = linksN b := by omega
    subst this
    rfl

theorem sem_faults (sig : List TControl) (s : TSorting) (b : TBigraph) (h2 : two sig s b) (hs : bdSorting 4294967296 s) (lvl : Nat) (S : Sto) : Sem Go.Proofs.Tryz.prog fid_impl_Sorting_faults lvl [.ag ((cSorting s).map .tr), .ag ((cBigraph b).map .tr)] S (.ow 3 ((faults s b).map cFault) true) S := by
  have hsm := h2.big.small
  have hN := h2.links
  have hN2 := linksN_le hsm
  have hn8 := hsm.nodes
  refine sem_of_chk k_impl_Sorting_faults trivial ?_
  simp only [c_impl_Sorting_faults, cSorting, cBigraph, List.length_map, EVA, ↓reduceIte, Nat.reduceEqDiff, Nat.reduceMul, reduceCtorEq, Nat.reduceAdd, Nat.reduceSub, Nat.reduceLeDiff, Nat.reduceLT, Int.reduceToNat, Int.reduceLE, Int.reduceLT, mens, men]
  refine wp_cnt (α := Unit) b.nodes.length (fun j _ => [(5, .hd (lvl, 288) [] 0 (colL (placed s b) j).length none (colL (placed s b) j).length), (13, iI j)]) (fun j _ => [(288, .ar 3 ((colL (placed s b) j).map cFault) true (colL (placed s b) j).length 0)]) (fun _ _ => True) () (by simp only [EVA, ↓reduceIte, Nat.reduceEqDiff, Nat.reduceMul, reduceCtorEq, Nat.reduceAdd, Nat.reduceSub, Nat.reduceLeDiff, Nat.reduceLT, Int.reduceToNat, Int.reduceLE, Int.reduceLT, mens, men]) (by (simp only [EVA, ↓reduceIte, Nat.reduceEqDiff, Nat.reduceMul, reduceCtorEq, Nat.reduceAdd, Nat.reduceSub, Nat.reduceLeDiff, Nat.reduceLT, Int.reduceToNat, Int.reduceLE, Int.reduceLT, mens, men]) <;> rfl) trivial ?_
  intro j _ hj _
  simp only [cSorting, cBigraph, List.length_map, EVA, ↓reduceIte, Nat.reduceEqDiff, Nat.reduceMul, reduceCtorEq, Nat.reduceAdd, Nat.reduceSub, Nat.reduceLeDiff, Nat.reduceLT, Int.reduceToNat, Int.reduceLE, Int.reduceLT, mens, men]
  refine ite_of (fun hlt => ?_) (fun hge => ?_)
  · have hja : j < b.nodes.length := by omega
    have hle := placed_lens (s := s) (b := b) (j := j)
    have hp := h2.par hja
    obtain ⟨c, e1, e2, c1, c2, c3⟩ := h2.ctl hja
    have gn := getA (c := cNode) hja
    have ep : parAt b j = b.nodes[j].parent := parAt_eq hja
    simp only [cSorting, cBigraph, List.length_map, gn, cNode, EVA, ↓reduceIte, Nat.reduceEqDiff, Nat.reduceMul, reduceCtorEq, Nat.reduceAdd, Nat.reduceSub, Nat.reduceLeDiff, Nat.reduceLT, Int.reduceToNat, Int.reduceLE, Int.reduceLT, mens, men]
    refine kca_intro (sem_choices sig s b b.nodes[j].parent h2 (by omega)) ?_
    simp only [cSorting, cBigraph, List.length_map, EVA, ↓reduceIte, Nat.reduceEqDiff, Nat.reduceMul, reduceCtorEq, Nat.reduceAdd, Nat.reduceSub, Nat.reduceLeDiff, Nat.reduceLT, Int.reduceToNat, Int.reduceLE, Int.reduceLT, mens, men]
    refine kca_intro (sem_Contains (chs s b b.nodes[j].parent) b.nodes[j].control (by have := h2.chsL hs b.nodes[j].parent; omega)) ?_
    by_cases hm : b.nodes[j].control ∈ chs s b b.nodes[j].parent
    · simp only [hm, List.length_map, EVA, ↓reduceIte, Nat.reduceEqDiff, Nat.reduceMul, reduceCtorEq, Nat.reduceAdd, Nat.reduceSub, Nat.reduceLeDiff, Nat.reduceLT, Int.reduceToNat, Int.reduceLE, Int.reduceLT, mens, men]
      refine ⟨by rw [fits_i64]; omega, cntJ_intro () hja ?_ trivial⟩
      have e : placed s b j = [] := by unfold placed; rw [ep, e2, ← e1, if_pos hm]
      rw [colL_succ, e, List.append_nil]
      rfl
    · simp only [hm, List.length_map, EVA, ↓reduceIte, Nat.reduceEqDiff, Nat.reduceMul, reduceCtorEq, Nat.reduceAdd, Nat.reduceSub, Nat.reduceLeDiff, Nat.reduceLT, Int.reduceToNat, Int.reduceLE, Int.reduceLT, mens, men]
      refine ite_of (fun hlt => ?_) (fun hge => ?_)
      · have e : placed s b j = [⟨1, j, -1 - b.nodes[j].parent⟩] := by unfold placed; rw [ep, e2, ← e1, if_neg hm, if_pos hlt]
        refine ⟨by rw [fits_i64]; omega, by omega, by rw [fits_i64]; omega, cntJ_intro () hja ?_ trivial⟩
        rw [colL_succ, e, List.length_append, cF_app]
        rfl
      · have e : placed s b j = [⟨2, j, b.nodes[j].parent⟩] := by unfold placed; rw [ep, e2, ← e1, if_neg hm, if_neg hge]
        refine ⟨by omega, by rw [fits_i64]; omega, cntJ_intro () hja ?_ trivial⟩
        rw [colL_succ, e, List.length_append, cF_app]
        rfl
  have hj1 : j = b.nodes.length := by omega
  subst hj1
  refine ⟨by rw [fits_i64]; omega, ?_⟩
  refine wp_cnt (α := Unit) (linksN b) (fun j _ => [(5, .hd (lvl, 288) [] 0 (colL (placed s b) b.nodes.length ++ colL (fun l : Nat => shared s l (onL s b l)) j).length none (colL (placed s b) b.nodes.length ++ colL (fun l : Nat => shared s l (onL s b l)) j).length), (53, iI j)]) (fun j _ => [(288, .ar 3 ((colL (placed s b) b.nodes.length ++ colL (fun l : Nat => shared s l (onL s b l)) j).map cFault) true (colL (placed s b) b.nodes.length ++ colL (fun l : Nat => shared s l (onL s b l)) j).length 0)]) (fun _ _ => True) () (by simp only [EVA, ↓reduceIte, Nat.reduceEqDiff, Nat.reduceMul, reduceCtorEq, Nat.reduceAdd, Nat.reduceSub, Nat.reduceLeDiff, Nat.reduceLT, Int.reduceToNat, Int.reduceLE, Int.reduceLT, mens, men]) (by (simp only [colL_zero, List.append_nil, EVA, ↓reduceIte, Nat.reduceEqDiff, Nat.reduceMul, reduceCtorEq, Nat.reduceAdd, Nat.reduceSub, Nat.reduceLeDiff, Nat.reduceLT, Int.reduceToNat, Int.reduceLE, Int.reduceLT, mens, men]) <;> rfl) trivial ?_
  intro j _ hj _
  simp only [cSorting, cBigraph, List.length_map, EVA, ↓reduceIte, Nat.reduceEqDiff, Nat.reduceMul, reduceCtorEq, Nat.reduceAdd, Nat.reduceSub, Nat.reduceLeDiff, Nat.reduceLT, Int.reduceToNat, Int.reduceLE, Int.reduceLT, mens, men]
  refine ite_of (fun hlt => ?_) (fun hge => ?_)
  · have hja : j < linksN b := by omega
    have hle := placed_lens (s := s) (b := b) (j := b.nodes.length)
    have hle2 := h2.lens (j := j)
    have hsl := shared_le h2.srt (l := j) (Bn_onL (s := s) hsm j).len
    refine kca_intro (sem_sortsOn sig s b j h2) ?_
    simp only [cSorting, cBigraph, List.length_map, EVA, ↓reduceIte, Nat.reduceEqDiff, Nat.reduceMul, reduceCtorEq, Nat.reduceAdd, Nat.reduceSub, Nat.reduceLeDiff, Nat.reduceLT, Int.reduceToNat, Int.reduceLE, Int.reduceLT, mens, men]
    refine kca_intro (sem_linkFaults sig s j (onL s b j) h2.srt (Bn_onL hsm j).len) ?_
    simp only [List.length_map, scrF, unrF, max_add, EVA, ↓reduceIte, Nat.reduceEqDiff, Nat.reduceMul, reduceCtorEq, Nat.reduceAdd, Nat.reduceSub, Nat.reduceLeDiff, Nat.reduceLT, Int.reduceToNat, Int.reduceLE, Int.reduceLT, mens, men]
    refine ⟨by rw [List.length_append]; omega, by rw [fits_i64]; omega, cntJ_intro () hja ?_ trivial⟩
    rw [colL_succ, ← List.append_assoc, List.length_append (bs := shared s j (onL s b j)), cF_app (colL (placed s b) b.nodes.length ++ _)]
    rfl
  · have : j = linksN b := by omega
    subst this
    rfl

/-! ## valid ones -/
theorem sem_l7Two (sig : List TControl) (s : TSorting) (b : TBigraph) (hn : sig.length ≤ 4294967296) (hbs : ∀ y ∈ sig, bdControl 4294967296 y) (hs : bdSorting 4294967296 s) (hb : bdBigraph 4294967296 b) (hf : ftBigraph b) (lvl : Nat) (S : Sto) : Sem Go.Proofs.Tryz.prog fid_spec_l7Two lvl [.tr (.sl (sig.map cControl)), .ag ((cSorting s).map .tr), .ag ((cBigraph b).map .tr)] S (iB (dc (two sig s b))) S := by
  refine sem_of_chk k_spec_l7Two trivial ?_
  simp only [c_spec_l7Two, cSorting, cBigraph, List.length_map, EVA, ↓reduceIte, Nat.reduceEqDiff, Nat.reduceMul, reduceCtorEq, Nat.reduceAdd, Nat.reduceSub, Nat.reduceLeDiff, Nat.reduceLT, Int.reduceToNat, Int.reduceLE, Int.reduceLT, mens, men]
  refine kca_intro (sem_l7Good sig s hn hbs hs) ?_
  cases h1 : dc (sortOK sig s)
  · simp only [EVA, ↓reduceIte, Nat.reduceEqDiff, Nat.reduceMul, reduceCtorEq, Nat.reduceAdd, Nat.reduceSub, Nat.reduceLeDiff, Nat.reduceLT, Int.reduceToNat, Int.reduceLE, Int.reduceLT, mens, men]
    rw [dc_false fun h : two sig s b => dc_not.1 h1 h.srt]
  simp only [cSorting, cBigraph, List.length_map, EVA, ↓reduceIte, Nat.reduceEqDiff, Nat.reduceMul, reduceCtorEq, Nat.reduceAdd, Nat.reduceSub, Nat.reduceLeDiff, Nat.reduceLT, Int.reduceToNat, Int.reduceLE, Int.reduceLT, mens, men]
  refine kca_intro (sem_l2Good sig b hn hbs hb hf) ?_
  simp only [EVA, ↓reduceIte, Nat.reduceEqDiff, Nat.reduceMul, reduceCtorEq, Nat.reduceAdd, Nat.reduceSub, Nat.reduceLeDiff, Nat.reduceLT, Int.reduceToNat, Int.reduceLE, Int.reduceLT, mens, men]
  rw [dc_congr (p := two sig s b) ⟨fun h => h.big, fun h => ⟨dc_iff.1 h1, h⟩⟩]
theorem sem_isSortedBy (sig : List TControl) (s : TSorting) (b : TBigraph) (hn : sig.length ≤ 4294967296) (hbs : ∀ y ∈ sig, bdControl 4294967296 y) (hs : bdSorting 4294967296 s) (hb : bdBigraph 4294967296 b) (lvl : Nat) (S : Sto) : Sem Go.Proofs.Tryz.prog fid_impl_isSortedBy lvl [.tr (.sl (sig.map cControl)), .ag ((cSorting s).map .tr), .ag ((cBigraph b).map .tr)] S (iB (dc (two sig s b))) S := by
  refine sem_of_chk k_impl_isSortedBy trivial ?_
  simp only [c_impl_isSortedBy, cSorting, cBigraph, List.length_map, EVA, ↓reduceIte, Nat.reduceEqDiff, Nat.reduceMul, reduceCtorEq, Nat.reduceAdd, Nat.reduceSub, Nat.reduceLeDiff, Nat.reduceLT, Int.reduceToNat, Int.reduceLE, Int.reduceLT, mens, men]
  refine kca_intro (sem_impl_IsSorting sig s hn hbs hs) ?_
  cases h1 : dc (sortOK sig s)
  · simp only [EVA, ↓reduceIte, Nat.reduceEqDiff, Nat.reduceMul, reduceCtorEq, Nat.reduceAdd, Nat.reduceSub, Nat.reduceLeDiff, Nat.reduceLT, Int.reduceToNat, Int.reduceLE, Int.reduceLT, mens, men]
    rw [dc_false fun h : two sig s b => dc_not.1 h1 h.srt]
  simp only [cSorting, cBigraph, List.length_map, EVA, ↓reduceIte, Nat.reduceEqDiff, Nat.reduceMul, reduceCtorEq, Nat.reduceAdd, Nat.reduceSub, Nat.reduceLeDiff, Nat.reduceLT, Int.reduceToNat, Int.reduceLE, Int.reduceLT, mens, men]
  refine kca_intro (sem_impl_IsBigraph sig b hn hbs hb) ?_
  simp only [EVA, ↓reduceIte, Nat.reduceEqDiff, Nat.reduceMul, reduceCtorEq, Nat.reduceAdd, Nat.reduceSub, Nat.reduceLeDiff, Nat.reduceLT, Int.reduceToNat, Int.reduceLE, Int.reduceLT, mens, men]
  rw [dc_congr (p := two sig s b) ⟨fun h => h.big, fun h => ⟨dc_iff.1 h1, h⟩⟩]

/-! ## sorted -/
def badF (inside : Bool) (f : TFault) : Bool := !inside || decide (f.kind_ ≠ 1)
theorem g_ixFF : chkF Go.Proofs.Tryz.prog fid_slices_IndexFunc_impl_Fault_impl_Fault (gIxF 3 (some 3)) = true := by kernel_rfl
theorem g_coFF : chkF Go.Proofs.Tryz.prog fid_slices_ContainsFunc_impl_Fault_impl_Fault (gCoF fid_slices_IndexFunc_impl_Fault_impl_Fault) = true := by kernel_rfl
theorem sem_isSorted_1 (f : TFault) (q : Bool) (lvl : Nat) (S : Sto) : Sem Go.Proofs.Tryz.prog fid_impl_Sorting_isSorted_1 lvl [.ag ((cFault f).map .tr), .ta [tb q]] S (iB (badF q f)) S := by
  refine sem_of_chk k_impl_Sorting_isSorted_1 trivial ?_
  cases q
  · simp only [c_impl_Sorting_isSorted_1, cFault, tb, EVA, ↓reduceIte, Nat.reduceEqDiff, Nat.reduceMul, reduceCtorEq, Nat.reduceAdd, Nat.reduceSub, Nat.reduceLeDiff, Nat.reduceLT, Int.reduceToNat, Int.reduceLE, Int.reduceLT, mens, men]
    rfl
  · simp only [c_impl_Sorting_isSorted_1, cFault, tb, EVA, ↓reduceIte, Nat.reduceEqDiff, Nat.reduceMul, reduceCtorEq, Nat.reduceAdd, Nat.reduceSub, Nat.reduceLeDiff, Nat.reduceLT, Int.reduceToNat, Int.reduceLE, Int.reduceLT, mens, men]
    rfl
theorem sem_isSorted (sig : List TControl) (s : TSorting) (b : TBigraph) (q : Bool) (h2 : two sig s b) (hs : bdSorting 4294967296 s) (lvl : Nat) (S : Sto) : Sem Go.Proofs.Tryz.prog fid_impl_Sorting_isSorted lvl [.ag ((cSorting s).map .tr), .ag ((cBigraph b).map .tr), iB q] S (iB (!(faults s b).any (badF q))) S := by
  have hl := faults_le h2
  refine sem_of_chk k_impl_Sorting_isSorted trivial ?_
  simp only [c_impl_Sorting_isSorted, cSorting, cBigraph, List.length_map, EVA, ↓reduceIte, Nat.reduceEqDiff, Nat.reduceMul, reduceCtorEq, Nat.reduceAdd, Nat.reduceSub, Nat.reduceLeDiff, Nat.reduceLT, Int.reduceToNat, Int.reduceLE, Int.reduceLT, mens, men]
  refine kca_intro (sem_faults sig s b h2 hs) ?_
  simp only [List.length_map, EVA, ↓reduceIte, Nat.reduceEqDiff, Nat.reduceMul, reduceCtorEq, Nat.reduceAdd, Nat.reduceSub, Nat.reduceLeDiff, Nat.reduceLT, Int.reduceToNat, Int.reduceLE, Int.reduceLT, mens, men]
  refine kca_intro (sem_coFk (cs := [[tb q]]) g_coFF g_ixFF (fun _ => rfl) (faults s b) (by omega) (fun x _ lvl S => sem_isSorted_1 x q lvl S)) ?_
  simp only [EVA, ↓reduceIte, Nat.reduceEqDiff, Nat.reduceMul, reduceCtorEq, Nat.reduceAdd, Nat.reduceSub, Nat.reduceLeDiff, Nat.reduceLT, Int.reduceToNat, Int.reduceLE, Int.reduceLT, mens, men]
theorem sem_l7Inside (sig : List TControl) (s : TSorting) (b : TBigraph) (h2 : two sig s b) (hs : bdSorting 4294967296 s) (lvl : Nat) (S : Sto) : Sem Go.Proofs.Tryz.prog fid_spec_l7Inside lvl [.ag ((cSorting s).map .tr), .ag ((cBigraph b).map .tr)] S (iB (!(faults s b).any (badF true))) S := by
  have hl := faults_le h2
  refine sem_of_chk k_spec_l7Inside trivial ?_
  simp only [c_spec_l7Inside, cSorting, cBigraph, List.length_map, EVA, ↓reduceIte, Nat.reduceEqDiff, Nat.reduceMul, reduceCtorEq, Nat.reduceAdd, Nat.reduceSub, Nat.reduceLeDiff, Nat.reduceLT, Int.reduceToNat, Int.reduceLE, Int.reduceLT, mens, men]
  refine kca_intro (sem_l7Faults sig s b h2 hs) ?_
  simp only [List.length_map, EVA, ↓reduceIte, Nat.reduceEqDiff, Nat.reduceMul, reduceCtorEq, Nat.reduceAdd, Nat.reduceSub, Nat.reduceLeDiff, Nat.reduceLT, Int.reduceToNat, Int.reduceLE, Int.reduceLT, mens, men]
  refine wp_cnt (α := Unit) (faults s b).length (fun j _ => [(6, iI j)]) (fun j _ => []) (fun j _ => ∀ k, k < j → ∀ h : k < (faults s b).length, badF true (faults s b)[k] = false) () (by simp only [EVA, ↓reduceIte, Nat.reduceEqDiff, Nat.reduceMul, reduceCtorEq, Nat.reduceAdd, Nat.reduceSub, Nat.reduceLeDiff, Nat.reduceLT, Int.reduceToNat, Int.reduceLE, Int.reduceLT, mens, men]) (by (simp only [EVA, ↓reduceIte, Nat.reduceEqDiff, Nat.reduceMul, reduceCtorEq, Nat.reduceAdd, Nat.reduceSub, Nat.reduceLeDiff, Nat.reduceLT, Int.reduceToNat, Int.reduceLE, Int.reduceLT, mens, men]) <;> rfl) (fun k hk => absurd hk (Nat.not_lt_zero k)) ?_
  intro j _ hj hA
  simp only [List.length_map, EVA, ↓reduceIte, Nat.reduceEqDiff, Nat.reduceMul, reduceCtorEq, Nat.reduceAdd, Nat.reduceSub, Nat.reduceLeDiff, Nat.reduceLT, Int.reduceToNat, Int.reduceLE, Int.reduceLT, mens, men]
  refine ite_of (fun hlt => ?_) (fun hge => ?_)
  · have hja : j < (faults s b).length := by omega
    have ga := getA (c := cFault) hja
    simp only [ga, cFault, List.length_map, EVA, ↓reduceIte, Nat.reduceEqDiff, Nat.reduceMul, reduceCtorEq, Nat.reduceAdd, Nat.reduceSub, Nat.reduceLeDiff, Nat.reduceLT, Int.reduceToNat, Int.reduceLE, Int.reduceLT, mens, men]
    refine ite_of (fun hne => ?_) (fun he => ?_)
    · have : (faults s b).any (badF true) = true := List.any_eq_true.2 ⟨_, List.getElem_mem hja, by simp [badF, hne]⟩
      rw [this]
      rfl
    · exact ⟨by rw [fits_i64]; omega, cntJ_intro () hja rfl (allN hA fun _ => by simpa [badF] using he)⟩
  · have hj1 : j = (faults s b).length := by omega
    subst hj1
    have : (faults s b).any (badF true) = false := List.any_eq_false.2 fun x hx => by
      obtain ⟨k, hk, rfl⟩ := List.getElem_of_mem hx
      rw [hA k hk hk]
      decide
    rw [this]
    rfl
end Go.Fd

/-
  THE LAWS' FUNCTIONS ON SORTED BIGRAPHS, BOTH SIDES. Own work.
-/
namespace Go.Fd
set_option maxRecDepth 20000

theorem any_badF0 {l : List TFault} : l.any (badF false) = !decide (l.length = 0) := by
  cases l <;> simp [badF]
end Go.Fd

/-
  RULES, BOTH SIDES. Own work.
-/
namespace Go.Fd
set_option maxRecDepth 20000

theorem g_eqS : chkF Go.Proofs.Tryz.prog fid_slices_Equal_string_string gEq1 = true := by kernel_rfl

end Go.Fd

/-
  SORTED BIGRAPHS THAT FIT, BOTH SIDES. Own work.
-/
namespace Go.Fd
set_option maxRecDepth 20000

def fitOK (a b : TBigraph) : Prop := (a.sites.length : Int) = b.roots ∧ inn a = b.outer

theorem sem_l4Equal (a b : List ByteArray) (ha : a.length ≤ 4294967296) (hb : b.length ≤ 4294967296) (lvl : Nat) (S : Sto) : Sem Go.Proofs.Tryz.prog fid_spec_l4Equal lvl [.tr (.sl (rS a)), .tr (.sl (rS b))] S (iB (dc (a = b))) S := by
  refine sem_of_chk k_spec_l4Equal trivial ?_
  simp only [c_spec_l4Equal, List.length_map, EVA, ↓reduceIte, Nat.reduceEqDiff, Nat.reduceMul, reduceCtorEq, Nat.reduceAdd, Nat.reduceSub, Nat.reduceLeDiff, Nat.reduceLT, Int.reduceToNat, Int.reduceLE, Int.reduceLT, mens, men]
  refine ite_of (fun hne => ?_) (fun he => ?_)
  · rw [dc_false fun h : a = b => hne (by rw [h])]
  have hl : a.length = b.length := by omega
  refine wp_cnt (α := Unit) a.length (fun j _ => [(5, iI j)]) (fun j _ => []) (fun j _ => ∀ k, k < j → ∀ (h1 : k < a.length) (h2 : k < b.length), a[k] = b[k]) () (by simp only [EVA, ↓reduceIte, Nat.reduceEqDiff, Nat.reduceMul, reduceCtorEq, Nat.reduceAdd, Nat.reduceSub, Nat.reduceLeDiff, Nat.reduceLT, Int.reduceToNat, Int.reduceLE, Int.reduceLT, mens, men]) (by (simp only [EVA, ↓reduceIte, Nat.reduceEqDiff, Nat.reduceMul, reduceCtorEq, Nat.reduceAdd, Nat.reduceSub, Nat.reduceLeDiff, Nat.reduceLT, Int.reduceToNat, Int.reduceLE, Int.reduceLT, mens, men]) <;> rfl) (fun k hk => absurd hk (Nat.not_lt_zero k)) ?_
  intro j _ hj hA
  simp only [List.length_map, EVA, ↓reduceIte, Nat.reduceEqDiff, Nat.reduceMul, reduceCtorEq, Nat.reduceAdd, Nat.reduceSub, Nat.reduceLeDiff, Nat.reduceLT, Int.reduceToNat, Int.reduceLE, Int.reduceLT, mens, men]
  refine ite_of (fun hlt => ?_) (fun hge => ?_)
  · have hja : j < a.length := by omega
    have hjb : j < b.length := by omega
    have ga := getA (c := fun s => [ts s]) hja
    have gb := getA (c := fun s => [ts s]) hjb
    simp only [ga, gb, List.length_map, EVA, ↓reduceIte, Nat.reduceEqDiff, Nat.reduceMul, reduceCtorEq, Nat.reduceAdd, Nat.reduceSub, Nat.reduceLeDiff, Nat.reduceLT, Int.reduceToNat, Int.reduceLE, Int.reduceLT, mens, men]
    by_cases hc : a[j] = b[j]
    · simp only [hc, EVA, ↓reduceIte, Nat.reduceEqDiff, Nat.reduceMul, reduceCtorEq, Nat.reduceAdd, Nat.reduceSub, Nat.reduceLeDiff, Nat.reduceLT, Int.reduceToNat, Int.reduceLE, Int.reduceLT, mens, men]
      exact ⟨by rw [fits_i64]; omega, cntJ_intro () hja rfl (allN hA fun _ _ => hc)⟩
    · simp only [hc, EVA, ↓reduceIte, Nat.reduceEqDiff, Nat.reduceMul, reduceCtorEq, Nat.reduceAdd, Nat.reduceSub, Nat.reduceLeDiff, Nat.reduceLT, Int.reduceToNat, Int.reduceLE, Int.reduceLT, mens, men]
      have : ¬ a = b := fun h => hc (by subst h; rfl)
      rw [dc_false this]
  · have hj1 : j = a.length := by omega
    subst hj1
    rw [dc_true (p := a = b) (List.ext_getElem hl fun k h1 h2 => hA k h1 h1 h2)]

theorem sem_l4Fits (a b : TBigraph) (hs : small a) (ho : b.outer.length ≤ 4294967296) (lvl : Nat) (S : Sto) : Sem Go.Proofs.Tryz.prog fid_spec_l4Fits lvl [.ag ((cBigraph a).map .tr), .ag ((cBigraph b).map .tr)] S (iB (dc (fitOK a b))) S := by
  have hi := hs.inner
  refine sem_of_chk k_spec_l4Fits trivial ?_
  simp only [c_spec_l4Fits, cBigraph, List.length_map, EVA, ↓reduceIte, Nat.reduceEqDiff, Nat.reduceMul, reduceCtorEq, Nat.reduceAdd, Nat.reduceSub, Nat.reduceLeDiff, Nat.reduceLT, Int.reduceToNat, Int.reduceLE, Int.reduceLT, mens, men]
  by_cases h1 : (a.sites.length : Int) = b.roots
  · have h1' := eq_true h1
    simp only [h1', cBigraph, List.length_map, EVA, ↓reduceIte, Nat.reduceEqDiff, Nat.reduceMul, reduceCtorEq, Nat.reduceAdd, Nat.reduceSub, Nat.reduceLeDiff, Nat.reduceLT, Int.reduceToNat, Int.reduceLE, Int.reduceLT, mens, men]
    refine kca_intro (sem_l2Inner a (by omega)) ?_
    simp only [cBigraph, List.length_map, EVA, ↓reduceIte, Nat.reduceEqDiff, Nat.reduceMul, reduceCtorEq, Nat.reduceAdd, Nat.reduceSub, Nat.reduceLeDiff, Nat.reduceLT, Int.reduceToNat, Int.reduceLE, Int.reduceLT, mens, men]
    refine kca_intro (sem_l4Equal (inn a) b.outer (by rw [inn_len]; omega) ho) ?_
    simp only [EVA, ↓reduceIte, Nat.reduceEqDiff, Nat.reduceMul, reduceCtorEq, Nat.reduceAdd, Nat.reduceSub, Nat.reduceLeDiff, Nat.reduceLT, Int.reduceToNat, Int.reduceLE, Int.reduceLT, mens, men]
    rw [dc_congr (p := fitOK a b) ⟨fun h => h.2, fun h => ⟨h1, h⟩⟩]
  · simp only [h1, EVA, ↓reduceIte, Nat.reduceEqDiff, Nat.reduceMul, reduceCtorEq, Nat.reduceAdd, Nat.reduceSub, Nat.reduceLeDiff, Nat.reduceLT, Int.reduceToNat, Int.reduceLE, Int.reduceLT, mens, men]
    rw [dc_false fun h : fitOK a b => h1 h.1]
theorem sem_fits (a b : TBigraph) (hs : small a) (ho : b.outer.length ≤ 4294967296) (lvl : Nat) (S : Sto) : Sem Go.Proofs.Tryz.prog fid_impl_fits lvl [.ag ((cBigraph a).map .tr), .ag ((cBigraph b).map .tr)] S (iB (dc (fitOK a b))) S := by
  have hi := hs.inner
  refine sem_of_chk k_impl_fits trivial ?_
  simp only [c_impl_fits, cBigraph, List.length_map, EVA, ↓reduceIte, Nat.reduceEqDiff, Nat.reduceMul, reduceCtorEq, Nat.reduceAdd, Nat.reduceSub, Nat.reduceLeDiff, Nat.reduceLT, Int.reduceToNat, Int.reduceLE, Int.reduceLT, mens, men]
  by_cases h1 : (a.sites.length : Int) = b.roots
  · have h1' := eq_true h1
    simp only [h1', cBigraph, List.length_map, EVA, ↓reduceIte, Nat.reduceEqDiff, Nat.reduceMul, reduceCtorEq, Nat.reduceAdd, Nat.reduceSub, Nat.reduceLeDiff, Nat.reduceLT, Int.reduceToNat, Int.reduceLE, Int.reduceLT, mens, men]
    refine kca_intro (sem_innerNames a (by omega)) ?_
    simp only [cBigraph, List.length_map, EVA, ↓reduceIte, Nat.reduceEqDiff, Nat.reduceMul, reduceCtorEq, Nat.reduceAdd, Nat.reduceSub, Nat.reduceLeDiff, Nat.reduceLT, Int.reduceToNat, Int.reduceLE, Int.reduceLT, mens, men]
    refine kca_intro (sem_eq1 g_eqS cmpTS (inn a) b.outer (by rw [inn_len]; omega)) ?_
    simp only [EVA, ↓reduceIte, Nat.reduceEqDiff, Nat.reduceMul, reduceCtorEq, Nat.reduceAdd, Nat.reduceSub, Nat.reduceLeDiff, Nat.reduceLT, Int.reduceToNat, Int.reduceLE, Int.reduceLT, mens, men]
    rw [dc_congr (p := fitOK a b) (q := inn a = b.outer) ⟨fun h => h.2, fun h => ⟨h1, h⟩⟩, dc_decide]
  · simp only [h1, EVA, ↓reduceIte, Nat.reduceEqDiff, Nat.reduceMul, reduceCtorEq, Nat.reduceAdd, Nat.reduceSub, Nat.reduceLeDiff, Nat.reduceLT, Int.reduceToNat, Int.reduceLE, Int.reduceLT, mens, men]
    rw [dc_false fun h : fitOK a b => h1 h.1]

/-! ## ports of a link together with those of what is linked to it -/
def addN (l m : List Int) : Nat → List Int
  | 0 => l
  | k + 1 => (addN l m k).set k (g0 (addN l m k) k + g0 m k)
theorem addN_zero {l m : List Int} : addN l m 0 = l := rfl
theorem addN_succ {l m : List Int} {k : Nat} : addN l m (k + 1) = (addN l m k).set k (g0 (addN l m k) k + g0 m k) := rfl
theorem Bn_addN {n : Nat} {B : Int} {l m : List Int} (hB : 0 ≤ B) (h : Bn n B l) (hm : Bn n 8000 m) : ∀ k : Nat, Bn n (B + k * 8000) (addN l m k)
  | 0 => by rw [addN_zero]; exact h.mono (by omega)
  | k + 1 => by
    have ih := Bn_addN hB h hm k
    have h1 := ih.g (by omega) k
    have h2 := hm.g (by omega) k
    rw [addN_succ]
    exact ih.set (by omega) (by omega) (by omega)
def joinN (s : TSorting) (a b : TBigraph) (l : Int) : Nat → List Int
  | 0 => onL s a l
  | i + 1 => if wlAt a i = l then addN (joinN s a b l i) (onL s b (b.edges + i)) s.most.length else joinN s a b l i
theorem joinN_zero {s : TSorting} {a b : TBigraph} {l : Int} : joinN s a b l 0 = onL s a l := rfl
theorem joinN_yes {s : TSorting} {a b : TBigraph} {l : Int} {i : Nat} (h : wlAt a i = l) : joinN s a b l (i + 1) = addN (joinN s a b l i) (onL s b (b.edges + i)) s.most.length := by rw [joinN, if_pos h]
theorem joinN_no {s : TSorting} {a b : TBigraph} {l : Int} {i : Nat} (h : ¬ wlAt a i = l) : joinN s a b l (i + 1) = joinN s a b l i := by rw [joinN, if_neg h]
theorem Bn_joinN {s : TSorting} {a b : TBigraph} (hm : s.most.length ≤ 4) (ha : small a) (hb : small b) (l : Int) : ∀ i : Nat, Bn s.most.length (8000 + i * 32000) (joinN s a b l i)
  | 0 => by rw [joinN_zero]; exact (Bn_onL ha l).mono (by omega)
  | i + 1 => by
    have ih := Bn_joinN hm ha hb l i
    by_cases h : wlAt a i = l
    · rw [joinN_yes h]
      exact (Bn_addN (by omega) ih (Bn_onL hb _) s.most.length).mono (by omega)
    · rw [joinN_no h]
      exact ih.mono (by omega)

theorem sem_l7Joined (sig : List TControl) (s : TSorting) (a b : TBigraph) (l : Int) (ha : two sig s a) (hb : bigOK sig b) (lvl : Nat) (S : Sto) : Sem Go.Proofs.Tryz.prog fid_spec_l7Joined lvl [.ag ((cSorting s).map .tr), .ag ((cBigraph a).map .tr), .ag ((cBigraph b).map .tr), iI l] S (.ow 1 (rI (joinN s a b l a.inner.length)) true) S := by
  have hsa := ha.big.small
  have hsb := hb.small
  have hmany := ha.srt.many
  have hia := hsa.inner
  have heb := hsb.edges
  refine sem_of_chk k_spec_l7Joined trivial ?_
  simp only [c_spec_l7Joined, cSorting, cBigraph, List.length_map, EVA, ↓reduceIte, Nat.reduceEqDiff, Nat.reduceMul, reduceCtorEq, Nat.reduceAdd, Nat.reduceSub, Nat.reduceLeDiff, Nat.reduceLT, Int.reduceToNat, Int.reduceLE, Int.reduceLT, mens, men]
  refine kca_intro (sem_l7On sig s a l ha) ?_
  have hl0 := (Bn_onL (s := s) hsa l).len
  simp only [hl0, List.length_map, EVA, ↓reduceIte, Nat.reduceEqDiff, Nat.reduceMul, reduceCtorEq, Nat.reduceAdd, Nat.reduceSub, Nat.reduceLeDiff, Nat.reduceLT, Int.reduceToNat, Int.reduceLE, Int.reduceLT, mens, men]
  refine wp_cnt (α := Unit) a.inner.length (fun j _ => [(10, iI j)]) (fun j _ => [(512, .ar 1 (rI (joinN s a b l j)) true s.most.length 0)]) (fun _ _ => True) () (by simp only [EVA, ↓reduceIte, Nat.reduceEqDiff, Nat.reduceMul, reduceCtorEq, Nat.reduceAdd, Nat.reduceSub, Nat.reduceLeDiff, Nat.reduceLT, Int.reduceToNat, Int.reduceLE, Int.reduceLT, mens, men]) (by (simp only [EVA, ↓reduceIte, Nat.reduceEqDiff, Nat.reduceMul, reduceCtorEq, Nat.reduceAdd, Nat.reduceSub, Nat.reduceLeDiff, Nat.reduceLT, Int.reduceToNat, Int.reduceLE, Int.reduceLT, mens, men]) <;> rfl) trivial ?_
  intro j _ hj _
  simp only [cSorting, cBigraph, List.length_map, EVA, ↓reduceIte, Nat.reduceEqDiff, Nat.reduceMul, reduceCtorEq, Nat.reduceAdd, Nat.reduceSub, Nat.reduceLeDiff, Nat.reduceLT, Int.reduceToNat, Int.reduceLE, Int.reduceLT, mens, men]
  refine ite_of (fun hlt => ?_) (fun hge => ?_)
  · have hja : j < a.inner.length := by omega
    have ga := getA (c := cWire) hja
    have hw := wlAt_eq hja
    have hbj := Bn_joinN (s := s) hmany.2 hsa hsb l j
    simp only [ga, cWire, cSorting, cBigraph, List.length_map, EVA, ↓reduceIte, Nat.reduceEqDiff, Nat.reduceMul, reduceCtorEq, Nat.reduceAdd, Nat.reduceSub, Nat.reduceLeDiff, Nat.reduceLT, Int.reduceToNat, Int.reduceLE, Int.reduceLT, mens, men]
    refine ite_of (fun he => ?_) (fun hne => ?_)
    · refine ⟨by rw [fits_i64]; omega, ?_⟩
      refine kca_intro (sem_l7On sig s b (b.edges + j) ⟨ha.srt, hb⟩) ?_
      have hbm := Bn_onL (s := s) hsb (b.edges + j)
      simp only [List.length_map, EVA, ↓reduceIte, Nat.reduceEqDiff, Nat.reduceMul, reduceCtorEq, Nat.reduceAdd, Nat.reduceSub, Nat.reduceLeDiff, Nat.reduceLT, Int.reduceToNat, Int.reduceLE, Int.reduceLT, mens, men]
      refine wp_cnt (α := Unit) s.most.length (fun k _ => [(12, iI k)]) (fun k _ => [(512, .ar 1 (rI (addN (joinN s a b l j) (onL s b (b.edges + j)) k)) true s.most.length 0)]) (fun _ _ => True) () (by simp only [EVA, ↓reduceIte, Nat.reduceEqDiff, Nat.reduceMul, reduceCtorEq, Nat.reduceAdd, Nat.reduceSub, Nat.reduceLeDiff, Nat.reduceLT, Int.reduceToNat, Int.reduceLE, Int.reduceLT, mens, men]) (by (simp only [addN_zero, EVA, ↓reduceIte, Nat.reduceEqDiff, Nat.reduceMul, reduceCtorEq, Nat.reduceAdd, Nat.reduceSub, Nat.reduceLeDiff, Nat.reduceLT, Int.reduceToNat, Int.reduceLE, Int.reduceLT, mens, men]) <;> rfl) trivial ?_
      intro k _ hk _
      simp only [List.length_map, EVA, ↓reduceIte, Nat.reduceEqDiff, Nat.reduceMul, reduceCtorEq, Nat.reduceAdd, Nat.reduceSub, Nat.reduceLeDiff, Nat.reduceLT, Int.reduceToNat, Int.reduceLE, Int.reduceLT, mens, men]
      refine ite_of (fun hlt2 => ?_) (fun hge2 => ?_)
      · have hkk : k < s.most.length := by omega
        have hbn := Bn_addN (by omega) hbj hbm k
        have hk2 : k < (addN (joinN s a b l j) (onL s b (b.edges + j)) k).length := by rw [hbn.len]; exact hkk
        have hk3 : k < (onL s b (b.edges + j)).length := by rw [hbm.len]; exact hkk
        have gq := rI_get hk2
        have gm := rI_get hk3
        have b1 := hbn.g (by omega) k
        have b2 := hbm.g (by omega) k
        simp only [gq, gm, hkk, Int.toNat_natCast, Int.natCast_nonneg, List.length_map, isSc, EVA, ↓reduceIte, Nat.reduceEqDiff, Nat.reduceMul, reduceCtorEq, Nat.reduceAdd, Nat.reduceSub, Nat.reduceLeDiff, Nat.reduceLT, Int.reduceToNat, Int.reduceLE, Int.reduceLT, mens, men]
        refine ⟨by rw [fits_i64]; omega, by rw [fits_i64]; omega, cntJ_intro () hkk ?_ trivial⟩
        rw [setp_rI hk2, addN_succ]
        rfl
      · have : k = s.most.length := by omega
        subst this
        refine ⟨by rw [fits_i64]; omega, cntJ_intro () hja ?_ trivial⟩
        rw [joinN_yes (by rw [hw]; exact he)]
        rfl
    · refine ⟨by rw [fits_i64]; omega, cntJ_intro () hja ?_ trivial⟩
      rw [joinN_no (by rw [hw]; exact hne)]
      rfl
  · have : j = a.inner.length := by omega
    subst this
    refine ⟨(Bn_joinN hmany.2 hsa hsb l a.inner.length).len.symm, ?_⟩
    rfl

/-! ## fits -/
def siteOK (s : TSorting) (a b : TBigraph) (i : Nat) : Prop := ∀ k : Nat, k < (kids b (-1 - (i : Int))).length → ctlAt b (g0 (kids b (-1 - (i : Int))) k) ∈ chs s a (g0 a.sites i)
def linkFit (s : TSorting) (a b : TBigraph) (l : Nat) : Prop := (shared s l (joinN s a b l a.inner.length)).length = 0
structure fitSorted (s : TSorting) (a b : TBigraph) : Prop where
  sites : ∀ i, i < a.sites.length → siteOK s a b i
  links : ∀ l, l < linksN a → linkFit s a b l
theorem kids_le {b : TBigraph} {p : Int} : (kids b p).length ≤ b.nodes.length := colI_le
theorem kid_at {b : TBigraph} {p : Int} {k : Nat} (h : k < (kids b p).length) : ∃ i : Nat, g0 (kids b p) k = i ∧ i < b.nodes.length := by
  have e : g0 (kids b p) k = (kids b p)[k] := by simp [h]
  obtain ⟨i, h1, h2, _⟩ := colI_mem (List.getElem_mem h)
  exact ⟨i, by rw [e, h2], h1⟩
theorem site_par {sig : List TControl} {a : TBigraph} (h : bigOK sig a) {i : Nat} (hi : i < a.sites.length) : g0 a.sites i < a.nodes.length := by
  have e : g0 a.sites i = a.sites[i] := by simp [hi]
  have := h.sites _ (List.getElem_mem hi)
  rw [e]
  rcases this with h | h <;> omega

theorem sem_l7Fits (sig : List TControl) (s : TSorting) (a b : TBigraph) (ha : two sig s a) (hb : bigOK sig b) (hs : bdSorting 4294967296 s) (lvl : Nat) (S : Sto) : Sem Go.Proofs.Tryz.prog fid_spec_l7Fits lvl [.ag ((cSorting s).map .tr), .ag ((cBigraph a).map .tr), .ag ((cBigraph b).map .tr)] S (iB (dc (fitSorted s a b))) S := by
  have hsa := ha.big.small
  have hsb := hb.small
  have hst := hsa.sites
  have hnb := hsb.nodes
  have hN := ha.links
  have hN2 := linksN_le hsa
  have hmany := ha.srt.many
  refine sem_of_chk k_spec_l7Fits trivial ?_
  simp only [c_spec_l7Fits, cSorting, cBigraph, List.length_map, EVA, ↓reduceIte, Nat.reduceEqDiff, Nat.reduceMul, reduceCtorEq, Nat.reduceAdd, Nat.reduceSub, Nat.reduceLeDiff, Nat.reduceLT, Int.reduceToNat, Int.reduceLE, Int.reduceLT, mens, men]
  refine wp_cnt (α := Unit) a.sites.length (fun j _ => [(7, iI j)]) (fun j _ => []) (fun j _ => ∀ i, i < j → siteOK s a b i) () (by simp only [EVA, ↓reduceIte, Nat.reduceEqDiff, Nat.reduceMul, reduceCtorEq, Nat.reduceAdd, Nat.reduceSub, Nat.reduceLeDiff, Nat.reduceLT, Int.reduceToNat, Int.reduceLE, Int.reduceLT, mens, men]) (by (simp only [EVA, ↓reduceIte, Nat.reduceEqDiff, Nat.reduceMul, reduceCtorEq, Nat.reduceAdd, Nat.reduceSub, Nat.reduceLeDiff, Nat.reduceLT, Int.reduceToNat, Int.reduceLE, Int.reduceLT, mens, men]) <;> rfl) (fun k hk => absurd hk (Nat.not_lt_zero k)) ?_
  intro j _ hj hA
  simp only [cSorting, cBigraph, List.length_map, EVA, ↓reduceIte, Nat.reduceEqDiff, Nat.reduceMul, reduceCtorEq, Nat.reduceAdd, Nat.reduceSub, Nat.reduceLeDiff, Nat.reduceLT, Int.reduceToNat, Int.reduceLE, Int.reduceLT, mens, men]
  refine ite_of (fun hlt => ?_) (fun hge => ?_)
  · have hja : j < a.sites.length := by omega
    have gs := rI_get hja
    have hsp := site_par ha.big hja
    refine ⟨by rw [fits_i64]; omega, ?_⟩
    refine kca_intro (sem_l2Kids b (-1 - (j : Int)) (by omega)) ?_
    simp only [List.length_map, EVA, ↓reduceIte, Nat.reduceEqDiff, Nat.reduceMul, reduceCtorEq, Nat.reduceAdd, Nat.reduceSub, Nat.reduceLeDiff, Nat.reduceLT, Int.reduceToNat, Int.reduceLE, Int.reduceLT, mens, men]
    refine wp_cnt (α := Unit) (kids b (-1 - (j : Int))).length (fun k _ => [(9, iI k)]) (fun k _ => []) (fun k _ => ∀ i, i < k → ctlAt b (g0 (kids b (-1 - (j : Int))) i) ∈ chs s a (g0 a.sites j)) () (by simp only [EVA, ↓reduceIte, Nat.reduceEqDiff, Nat.reduceMul, reduceCtorEq, Nat.reduceAdd, Nat.reduceSub, Nat.reduceLeDiff, Nat.reduceLT, Int.reduceToNat, Int.reduceLE, Int.reduceLT, mens, men]) (by (simp only [EVA, ↓reduceIte, Nat.reduceEqDiff, Nat.reduceMul, reduceCtorEq, Nat.reduceAdd, Nat.reduceSub, Nat.reduceLeDiff, Nat.reduceLT, Int.reduceToNat, Int.reduceLE, Int.reduceLT, mens, men]) <;> rfl) (fun k hk => absurd hk (Nat.not_lt_zero k)) ?_
    intro k _ hk hB
    have hkl := kids_le (b := b) (p := -1 - (j : Int))
    simp only [cSorting, cBigraph, List.length_map, EVA, ↓reduceIte, Nat.reduceEqDiff, Nat.reduceMul, reduceCtorEq, Nat.reduceAdd, Nat.reduceSub, Nat.reduceLeDiff, Nat.reduceLT, Int.reduceToNat, Int.reduceLE, Int.reduceLT, mens, men]
    refine ite_of (fun hlt2 => ?_) (fun hge2 => ?_)
    · have hkk : k < (kids b (-1 - (j : Int))).length := by omega
      have gk := rI_get hkk
      obtain ⟨q, e1, hq⟩ := kid_at hkk
      have gn := getA (c := cNode) hq
      obtain ⟨c, d1, d2, d3, d4, d5⟩ := (⟨ha.srt, hb⟩ : two sig s b).ctl hq
      simp only [gs, cSorting, cBigraph, List.length_map, EVA, ↓reduceIte, Nat.reduceEqDiff, Nat.reduceMul, reduceCtorEq, Nat.reduceAdd, Nat.reduceSub, Nat.reduceLeDiff, Nat.reduceLT, Int.reduceToNat, Int.reduceLE, Int.reduceLT, mens, men]
      refine kca_intro (sem_l7Allowed sig s a (g0 a.sites j) ha hsp) ?_
      simp only [gk, e1, gn, cNode, Int.toNat_natCast, Int.natCast_nonneg, List.length_map, EVA, ↓reduceIte, Nat.reduceEqDiff, Nat.reduceMul, reduceCtorEq, Nat.reduceAdd, Nat.reduceSub, Nat.reduceLeDiff, Nat.reduceLT, Int.reduceToNat, Int.reduceLE, Int.reduceLT, mens, men]
      refine kca_intro (sem_l1Has (chs s a (g0 a.sites j)) b.nodes[q].control (by have := ha.chsL hs (g0 a.sites j); omega)) ?_
      by_cases hm : b.nodes[q].control ∈ chs s a (g0 a.sites j)
      · simp only [hm, EVA, ↓reduceIte, Nat.reduceEqDiff, Nat.reduceMul, reduceCtorEq, Nat.reduceAdd, Nat.reduceSub, Nat.reduceLeDiff, Nat.reduceLT, Int.reduceToNat, Int.reduceLE, Int.reduceLT, mens, men]
        exact ⟨by rw [fits_i64]; omega, cntJ_intro () hkk rfl (allN hB (by rw [e1, d2, ← d1]; exact hm))⟩
      · simp only [hm, EVA, ↓reduceIte, Nat.reduceEqDiff, Nat.reduceMul, reduceCtorEq, Nat.reduceAdd, Nat.reduceSub, Nat.reduceLeDiff, Nat.reduceLT, Int.reduceToNat, Int.reduceLE, Int.reduceLT, mens, men]
        rw [dc_false fun g : fitSorted s a b => hm (by have := g.sites j hja k hkk; rw [e1, d2, ← d1] at this; exact this)]
    · have hk1 : k = (kids b (-1 - (j : Int))).length := by omega
      subst hk1
      exact ⟨by rw [fits_i64]; omega, cntJ_intro () hja rfl (allN hA hB)⟩
  have hj1 : j = a.sites.length := by omega
  subst hj1
  refine wp_cnt (α := Unit) (linksN a) (fun j _ => [(10, iI j)]) (fun j _ => []) (fun j _ => ∀ l, l < j → linkFit s a b l) () (by simp only [EVA, ↓reduceIte, Nat.reduceEqDiff, Nat.reduceMul, reduceCtorEq, Nat.reduceAdd, Nat.reduceSub, Nat.reduceLeDiff, Nat.reduceLT, Int.reduceToNat, Int.reduceLE, Int.reduceLT, mens, men]) (by (simp only [EVA, ↓reduceIte, Nat.reduceEqDiff, Nat.reduceMul, reduceCtorEq, Nat.reduceAdd, Nat.reduceSub, Nat.reduceLeDiff, Nat.reduceLT, Int.reduceToNat, Int.reduceLE, Int.reduceLT, mens, men]) <;> rfl) (fun k hk => absurd hk (Nat.not_lt_zero k)) ?_
  intro j _ hj hC
  simp only [cSorting, cBigraph, List.length_map, EVA, ↓reduceIte, Nat.reduceEqDiff, Nat.reduceMul, reduceCtorEq, Nat.reduceAdd, Nat.reduceSub, Nat.reduceLeDiff, Nat.reduceLT, Int.reduceToNat, Int.reduceLE, Int.reduceLT, mens, men]
  refine ⟨by rw [fits_i64]; omega, ite_of (fun hlt => ?_) (fun hge => ?_)⟩
  · have hja : j < linksN a := by omega
    refine kca_intro (sem_l7Joined sig s a b j ha hb) ?_
    simp only [cSorting, cBigraph, List.length_map, EVA, ↓reduceIte, Nat.reduceEqDiff, Nat.reduceMul, reduceCtorEq, Nat.reduceAdd, Nat.reduceSub, Nat.reduceLeDiff, Nat.reduceLT, Int.reduceToNat, Int.reduceLE, Int.reduceLT, mens, men]
    refine kca_intro (sem_l7Shared sig s j (joinN s a b j a.inner.length) ha.srt (Bn_joinN hmany.2 hsa hsb j _).len) ?_
    simp only [List.length_map, EVA, ↓reduceIte, Nat.reduceEqDiff, Nat.reduceMul, reduceCtorEq, Nat.reduceAdd, Nat.reduceSub, Nat.reduceLeDiff, Nat.reduceLT, Int.reduceToNat, Int.reduceLE, Int.reduceLT, mens, men]
    refine ite_of (fun hpos => ?_) (fun hz => ?_)
    · rw [dc_false fun g : fitSorted s a b => by have := g.links j hja; unfold linkFit at this; omega]
    · exact ⟨by rw [fits_i64]; omega, cntJ_intro () hja rfl (allN hC (by unfold linkFit; omega))⟩
  · have hj1 : j = linksN a := by omega
    subst hj1
    rw [dc_true (p := fitSorted s a b) ⟨hA, hC⟩]

theorem sem_fitsSorted_1 (sig : List TControl) (s : TSorting) (a b : TBigraph) (p : Int) (q : Nat) (ha : two sig s a) (hb : bigOK sig b) (hs : bdSorting 4294967296 s) (hp : p < a.nodes.length) (hq : q < b.nodes.length) (lvl : Nat) (S : Sto) : Sem Go.Proofs.Tryz.prog fid_impl_Sorting_fitsSorted_1 lvl [iI q, .ta (cSorting s), .ta (cBigraph a), .ta [tv p], .ta (cBigraph b)] S (iB (!decide (ctlAt b q ∈ chs s a p))) S := by
  have gn := getA (c := cNode) hq
  obtain ⟨c, d1, d2, d3, d4, d5⟩ := (⟨ha.srt, hb⟩ : two sig s b).ctl hq
  refine sem_of_chk k_impl_Sorting_fitsSorted_1 trivial ?_
  simp only [c_impl_Sorting_fitsSorted_1, cSorting, cBigraph, tv, List.length_map, EVA, ↓reduceIte, Nat.reduceEqDiff, Nat.reduceMul, reduceCtorEq, Nat.reduceAdd, Nat.reduceSub, Nat.reduceLeDiff, Nat.reduceLT, Int.reduceToNat, Int.reduceLE, Int.reduceLT, mens, men]
  refine kca_intro (sem_choices sig s a p ha hp) ?_
  simp only [gn, cNode, Int.toNat_natCast, Int.natCast_nonneg, List.length_map, EVA, ↓reduceIte, Nat.reduceEqDiff, Nat.reduceMul, reduceCtorEq, Nat.reduceAdd, Nat.reduceSub, Nat.reduceLeDiff, Nat.reduceLT, Int.reduceToNat, Int.reduceLE, Int.reduceLT, mens, men]
  refine kca_intro (sem_Contains (chs s a p) b.nodes[q].control (by have := ha.chsL hs p; omega)) ?_
  simp only [EVA, ↓reduceIte, Nat.reduceEqDiff, Nat.reduceMul, reduceCtorEq, Nat.reduceAdd, Nat.reduceSub, Nat.reduceLeDiff, Nat.reduceLT, Int.reduceToNat, Int.reduceLE, Int.reduceLT, mens, men]
  rw [d2, d1]

theorem sem_fitsSorted (sig : List TControl) (s : TSorting) (a b : TBigraph) (ha : two sig s a) (hb : bigOK sig b) (hs : bdSorting 4294967296 s) (lvl : Nat) (S : Sto) : Sem Go.Proofs.Tryz.prog fid_impl_Sorting_fitsSorted lvl [.ag ((cSorting s).map .tr), .ag ((cBigraph a).map .tr), .ag ((cBigraph b).map .tr)] S (iB (dc (fitSorted s a b))) S := by
  have hsa := ha.big.small
  have hsb := hb.small
  have hst := hsa.sites
  have hnb := hsb.nodes
  have heb := hsb.edges
  have hia := hsa.inner
  have hN := ha.links
  have hN2 := linksN_le hsa
  have hmany := ha.srt.many
  refine sem_of_chk k_impl_Sorting_fitsSorted trivial ?_
  simp only [c_impl_Sorting_fitsSorted, cSorting, cBigraph, List.length_map, EVA, ↓reduceIte, Nat.reduceEqDiff, Nat.reduceMul, reduceCtorEq, Nat.reduceAdd, Nat.reduceSub, Nat.reduceLeDiff, Nat.reduceLT, Int.reduceToNat, Int.reduceLE, Int.reduceLT, mens, men]
  refine wp_cnt (α := Unit) a.sites.length (fun j _ => [(20, iI j)]) (fun j _ => []) (fun j _ => ∀ i, i < j → siteOK s a b i) () (by simp only [EVA, ↓reduceIte, Nat.reduceEqDiff, Nat.reduceMul, reduceCtorEq, Nat.reduceAdd, Nat.reduceSub, Nat.reduceLeDiff, Nat.reduceLT, Int.reduceToNat, Int.reduceLE, Int.reduceLT, mens, men]) (by (simp only [EVA, ↓reduceIte, Nat.reduceEqDiff, Nat.reduceMul, reduceCtorEq, Nat.reduceAdd, Nat.reduceSub, Nat.reduceLeDiff, Nat.reduceLT, Int.reduceToNat, Int.reduceLE, Int.reduceLT, mens, men]) <;> rfl) (fun k hk => absurd hk (Nat.not_lt_zero k)) ?_
  intro j _ hj hA
  simp only [cSorting, cBigraph, List.length_map, EVA, ↓reduceIte, Nat.reduceEqDiff, Nat.reduceMul, reduceCtorEq, Nat.reduceAdd, Nat.reduceSub, Nat.reduceLeDiff, Nat.reduceLT, Int.reduceToNat, Int.reduceLE, Int.reduceLT, mens, men]
  refine ite_of (fun hlt => ?_) (fun hge => ?_)
  · have hja : j < a.sites.length := by omega
    have gs := rI_get hja
    have hsp := site_par ha.big hja
    simp only [gs, cSorting, cBigraph, List.length_map, EVA, ↓reduceIte, Nat.reduceEqDiff, Nat.reduceMul, reduceCtorEq, Nat.reduceAdd, Nat.reduceSub, Nat.reduceLeDiff, Nat.reduceLT, Int.reduceToNat, Int.reduceLE, Int.reduceLT, mens, men]
    refine ⟨by rw [fits_i64]; omega, ?_⟩
    refine kca_intro (sem_childrenOf b (-1 - (j : Int)) (by omega) (by have := hsb.sites; omega)) ?_
    have hkl := kids_le (b := b) (p := -1 - (j : Int))
    simp only [cSorting, cBigraph, List.length_map, EVA, ↓reduceIte, Nat.reduceEqDiff, Nat.reduceMul, reduceCtorEq, Nat.reduceAdd, Nat.reduceSub, Nat.reduceLeDiff, Nat.reduceLT, Int.reduceToNat, Int.reduceLE, Int.reduceLT, mens, men]
    refine kca_intro (sem_coF1 (t := tv) (f := fun x => !decide (ctlAt b x ∈ chs s a (g0 a.sites j))) (cs := [cSorting s, cBigraph a, [tv (g0 a.sites j)], cBigraph b]) g_coFI g_ixFI (kids b (-1 - (j : Int))) (by omega) (fun x hx lvl S => by
      obtain ⟨q, h1, rfl, _⟩ := colI_mem hx
      exact sem_fitsSorted_1 sig s a b (g0 a.sites j) q ha hb hs hsp h1 lvl S)) ?_
    cases h : (kids b (-1 - (j : Int))).any fun x => !decide (ctlAt b x ∈ chs s a (g0 a.sites j))
    · simp only [EVA, ↓reduceIte, Nat.reduceEqDiff, Nat.reduceMul, reduceCtorEq, Nat.reduceAdd, Nat.reduceSub, Nat.reduceLeDiff, Nat.reduceLT, Int.reduceToNat, Int.reduceLE, Int.reduceLT, mens, men]
      refine ⟨by rw [fits_i64]; omega, cntJ_intro () hja rfl (allN hA fun k hk => ?_)⟩
      have h3 := List.any_eq_false.1 h _ (List.getElem_mem hk)
      have e : g0 (kids b (-1 - (j : Int))) k = (kids b (-1 - (j : Int)))[k] := by simp [hk]
      rw [e]
      simpa using h3
    · simp only [EVA, ↓reduceIte, Nat.reduceEqDiff, Nat.reduceMul, reduceCtorEq, Nat.reduceAdd, Nat.reduceSub, Nat.reduceLeDiff, Nat.reduceLT, Int.reduceToNat, Int.reduceLE, Int.reduceLT, mens, men]
      rw [dc_false fun g : fitSorted s a b => by
        obtain ⟨x, hx, h3⟩ := List.any_eq_true.1 h
        obtain ⟨k, hk, rfl⟩ := List.getElem_of_mem hx
        have h4 := g.sites j hja k hk
        have e : g0 (kids b (-1 - (j : Int))) k = (kids b (-1 - (j : Int)))[k] := by simp [hk]
        rw [e] at h4
        simp only [Bool.not_eq_true', decide_eq_false_iff_not] at h3
        exact h3 h4]
  have hj1 : j = a.sites.length := by omega
  subst hj1
  refine ⟨by rw [fits_i64]; omega, ?_⟩
  refine wp_cnt (α := Unit) (linksN a) (fun j _ => [(42, iI j)]) (fun j _ => []) (fun j _ => ∀ l, l < j → linkFit s a b l) () (by simp only [EVA, ↓reduceIte, Nat.reduceEqDiff, Nat.reduceMul, reduceCtorEq, Nat.reduceAdd, Nat.reduceSub, Nat.reduceLeDiff, Nat.reduceLT, Int.reduceToNat, Int.reduceLE, Int.reduceLT, mens, men]) (by (simp only [EVA, ↓reduceIte, Nat.reduceEqDiff, Nat.reduceMul, reduceCtorEq, Nat.reduceAdd, Nat.reduceSub, Nat.reduceLeDiff, Nat.reduceLT, Int.reduceToNat, Int.reduceLE, Int.reduceLT, mens, men]) <;> rfl) (fun k hk => absurd hk (Nat.not_lt_zero k)) ?_
  intro j _ hj hC
  simp only [cSorting, cBigraph, List.length_map, EVA, ↓reduceIte, Nat.reduceEqDiff, Nat.reduceMul, reduceCtorEq, Nat.reduceAdd, Nat.reduceSub, Nat.reduceLeDiff, Nat.reduceLT, Int.reduceToNat, Int.reduceLE, Int.reduceLT, mens, men]
  refine ite_of (fun hlt => ?_) (fun hge => ?_)
  · have hja : j < linksN a := by omega
    refine kca_intro (sem_sortsOn sig s a j ha) ?_
    have hl0 := (Bn_onL (s := s) hsa j).len
    simp only [hl0, cSorting, cBigraph, List.length_map, EVA, ↓reduceIte, Nat.reduceEqDiff, Nat.reduceMul, reduceCtorEq, Nat.reduceAdd, Nat.reduceSub, Nat.reduceLeDiff, Nat.reduceLT, Int.reduceToNat, Int.reduceLE, Int.reduceLT, mens, men]
    refine wp_cnt (α := Unit) a.inner.length (fun i _ => [(52, iI i)]) (fun i _ => [(1536, .ar 1 (rI (joinN s a b j i)) true s.most.length 0)]) (fun _ _ => True) () (by simp only [EVA, ↓reduceIte, Nat.reduceEqDiff, Nat.reduceMul, reduceCtorEq, Nat.reduceAdd, Nat.reduceSub, Nat.reduceLeDiff, Nat.reduceLT, Int.reduceToNat, Int.reduceLE, Int.reduceLT, mens, men]) (by (simp only [EVA, ↓reduceIte, Nat.reduceEqDiff, Nat.reduceMul, reduceCtorEq, Nat.reduceAdd, Nat.reduceSub, Nat.reduceLeDiff, Nat.reduceLT, Int.reduceToNat, Int.reduceLE, Int.reduceLT, mens, men]) <;> rfl) trivial ?_
    intro i _ hi _
    simp only [cSorting, cBigraph, List.length_map, EVA, ↓reduceIte, Nat.reduceEqDiff, Nat.reduceMul, reduceCtorEq, Nat.reduceAdd, Nat.reduceSub, Nat.reduceLeDiff, Nat.reduceLT, Int.reduceToNat, Int.reduceLE, Int.reduceLT, mens, men]
    refine ite_of (fun hlt => ?_) (fun hge => ?_)
    · have hii : i < a.inner.length := by omega
      have ga := getA (c := cWire) hii
      have hw := wlAt_eq hii
      have hbj := Bn_joinN (s := s) hmany.2 hsa hsb j i
      by_cases he : a.inner[i].link = j
      · have he' := eq_true he
        simp only [ga, he', cWire, cSorting, cBigraph, List.length_map, EVA, ↓reduceIte, Nat.reduceEqDiff, Nat.reduceMul, reduceCtorEq, Nat.reduceAdd, Nat.reduceSub, Nat.reduceLeDiff, Nat.reduceLT, Int.reduceToNat, Int.reduceLE, Int.reduceLT, mens, men]
        refine ⟨by rw [fits_i64]; omega, ?_⟩
        refine kca_intro (sem_sortsOn sig s b (b.edges + i) ⟨ha.srt, hb⟩) ?_
        have hbm := Bn_onL (s := s) hsb (b.edges + i)
        have hbl := hbm.len
        simp only [hbl, List.length_map, EVA, ↓reduceIte, Nat.reduceEqDiff, Nat.reduceMul, reduceCtorEq, Nat.reduceAdd, Nat.reduceSub, Nat.reduceLeDiff, Nat.reduceLT, Int.reduceToNat, Int.reduceLE, Int.reduceLT, mens, men]
        refine wp_cnt (α := Unit) s.most.length (fun k _ => [(69, iI k)]) (fun k _ => [(1536, .ar 1 (rI (addN (joinN s a b j i) (onL s b (b.edges + i)) k)) true s.most.length 0)]) (fun _ _ => True) () (by simp only [EVA, ↓reduceIte, Nat.reduceEqDiff, Nat.reduceMul, reduceCtorEq, Nat.reduceAdd, Nat.reduceSub, Nat.reduceLeDiff, Nat.reduceLT, Int.reduceToNat, Int.reduceLE, Int.reduceLT, mens, men]) (by (simp only [addN_zero, EVA, ↓reduceIte, Nat.reduceEqDiff, Nat.reduceMul, reduceCtorEq, Nat.reduceAdd, Nat.reduceSub, Nat.reduceLeDiff, Nat.reduceLT, Int.reduceToNat, Int.reduceLE, Int.reduceLT, mens, men]) <;> rfl) trivial ?_
        intro k _ hk _
        simp only [List.length_map, EVA, ↓reduceIte, Nat.reduceEqDiff, Nat.reduceMul, reduceCtorEq, Nat.reduceAdd, Nat.reduceSub, Nat.reduceLeDiff, Nat.reduceLT, Int.reduceToNat, Int.reduceLE, Int.reduceLT, mens, men]
        refine ite_of (fun hlt2 => ?_) (fun hge2 => ?_)
        · have hkk : k < s.most.length := by omega
          have hbn := Bn_addN (by omega) hbj hbm k
          have hk2 : k < (addN (joinN s a b j i) (onL s b (b.edges + i)) k).length := by rw [hbn.len]; exact hkk
          have hk3 : k < (onL s b (b.edges + i)).length := by rw [hbm.len]; exact hkk
          have gq := rI_get hk2
          have gm := rI_get hk3
          have b1 := hbn.g (by omega) k
          have b2 := hbm.g (by omega) k
          simp only [gq, gm, hkk, Int.toNat_natCast, Int.natCast_nonneg, List.length_map, isSc, EVA, ↓reduceIte, Nat.reduceEqDiff, Nat.reduceMul, reduceCtorEq, Nat.reduceAdd, Nat.reduceSub, Nat.reduceLeDiff, Nat.reduceLT, Int.reduceToNat, Int.reduceLE, Int.reduceLT, mens, men]
          refine ⟨by rw [fits_i64]; omega, by rw [fits_i64]; omega, cntJ_intro () hkk ?_ trivial⟩
          rw [setp_rI hk2, addN_succ]
          rfl
        · have : k = s.most.length := by omega
          subst this
          refine ⟨by rw [fits_i64]; omega, cntJ_intro () hii ?_ trivial⟩
          rw [joinN_yes (by rw [hw]; exact he)]
          rfl
      · simp only [ga, he, cWire, cSorting, cBigraph, List.length_map, EVA, ↓reduceIte, Nat.reduceEqDiff, Nat.reduceMul, reduceCtorEq, Nat.reduceAdd, Nat.reduceSub, Nat.reduceLeDiff, Nat.reduceLT, Int.reduceToNat, Int.reduceLE, Int.reduceLT, mens, men]
        refine ⟨by rw [fits_i64]; omega, cntJ_intro () hii ?_ trivial⟩
        rw [joinN_no (by rw [hw]; exact he)]
        rfl
    · have hi1 : i = a.inner.length := by omega
      subst hi1
      have hlj := (Bn_joinN (s := s) hmany.2 hsa hsb j a.inner.length).len
      have hcut : cut (rI (joinN s a b j a.inner.length)) 0 s.most.length = rI (joinN s a b j a.inner.length) := cut_all (by rw [List.length_map]; exact hlj)
      simp only [hlj, hcut, cSorting, cBigraph, List.length_map, EVA, ↓reduceIte, Nat.reduceEqDiff, Nat.reduceMul, reduceCtorEq, Nat.reduceAdd, Nat.reduceSub, Nat.reduceLeDiff, Nat.reduceLT, Int.reduceToNat, Int.reduceLE, Int.reduceLT, mens, men]
      refine kca_intro (sem_linkFaults sig s j (joinN s a b j a.inner.length) ha.srt hlj) ?_
      simp only [List.length_map, EVA, ↓reduceIte, Nat.reduceEqDiff, Nat.reduceMul, reduceCtorEq, Nat.reduceAdd, Nat.reduceSub, Nat.reduceLeDiff, Nat.reduceLT, Int.reduceToNat, Int.reduceLE, Int.reduceLT, mens, men]
      refine ite_of (fun hpos => ?_) (fun hz => ?_)
      · rw [dc_false fun g : fitSorted s a b => by have := g.links j hja; unfold linkFit at this; omega]
      · exact ⟨by rw [fits_i64]; omega, cntJ_intro () hja rfl (allN hC (by unfold linkFit; omega))⟩
  · have hj1 : j = linksN a := by omega
    subst hj1
    rw [dc_true (p := fitSorted s a b) ⟨hA, hC⟩]

/-! ## the law's functions -/
structure goodFit (sig : List TControl) (s : TSorting) (a b : TBigraph) : Prop where
  two : two sig s a
  big : bigOK sig b
  fit : fitOK a b
  srt : (faults s a).length = 0
  ins : (faults s b).any (badF true) = false
noncomputable def r0_FitsSorted (sig : List TControl) (s : TSorting) (a b : TBigraph) : Bool := dc (goodFit sig s a b ∧ fitSorted s a b)
noncomputable def r1_FitsSorted (sig : List TControl) (s : TSorting) (a b : TBigraph) : Bool := dc (goodFit sig s a b)

theorem sem_spec_FitsSorted (sig : List TControl) (s : TSorting) (a b : TBigraph) (hn : sig.length ≤ 4294967296) (hbs : ∀ y ∈ sig, bdControl 4294967296 y) (hs : bdSorting 4294967296 s) (hba : bdBigraph 4294967296 a) (hbb : bdBigraph 4294967296 b) (hfa : ftBigraph a) (hfb : ftBigraph b) (lvl : Nat) (S : Sto) : Sem Go.Proofs.Tryz.prog fid_spec_FitsSorted lvl [.tr (.sl (sig.map cControl)), .ag ((cSorting s).map .tr), .ag ((cBigraph a).map .tr), .ag ((cBigraph b).map .tr)] S (.tu [iB (r0_FitsSorted sig s a b), iB (r1_FitsSorted sig s a b)]) S := by
  refine sem_of_chk k_spec_FitsSorted (by simp [low, men, mens]) ?_
  simp only [c_spec_FitsSorted, cSorting, cBigraph, List.length_map, EVA, ↓reduceIte, Nat.reduceEqDiff, Nat.reduceMul, reduceCtorEq, Nat.reduceAdd, Nat.reduceSub, Nat.reduceLeDiff, Nat.reduceLT, Int.reduceToNat, Int.reduceLE, Int.reduceLT, mens, men]
  refine kca_intro (sem_l7Two sig s a hn hbs hs hba hfa) ?_
  unfold r0_FitsSorted r1_FitsSorted
  have hno : ¬ goodFit sig s a b → dc (goodFit sig s a b ∧ fitSorted s a b) = false ∧ dc (goodFit sig s a b) = false := fun h => ⟨dc_false fun g => h g.1, dc_false h⟩
  cases h1 : dc (two sig s a)
  · obtain ⟨n1, n2⟩ := hno fun g => dc_not.1 h1 g.two
    simp only [EVA, ↓reduceIte, Nat.reduceEqDiff, Nat.reduceMul, reduceCtorEq, Nat.reduceAdd, Nat.reduceSub, Nat.reduceLeDiff, Nat.reduceLT, Int.reduceToNat, Int.reduceLE, Int.reduceLT, mens, men]
    rw [n1, n2]
  have h2 := dc_iff.1 h1
  simp only [cSorting, cBigraph, List.length_map, EVA, ↓reduceIte, Nat.reduceEqDiff, Nat.reduceMul, reduceCtorEq, Nat.reduceAdd, Nat.reduceSub, Nat.reduceLeDiff, Nat.reduceLT, Int.reduceToNat, Int.reduceLE, Int.reduceLT, mens, men]
  refine kca_intro (sem_l2Good sig b hn hbs hbb hfb) ?_
  cases h3 : dc (bigOK sig b)
  · obtain ⟨n1, n2⟩ := hno fun g => dc_not.1 h3 g.big
    simp only [EVA, ↓reduceIte, Nat.reduceEqDiff, Nat.reduceMul, reduceCtorEq, Nat.reduceAdd, Nat.reduceSub, Nat.reduceLeDiff, Nat.reduceLT, Int.reduceToNat, Int.reduceLE, Int.reduceLT, mens, men]
    rw [n1, n2]
  have h4 := dc_iff.1 h3
  simp only [cSorting, cBigraph, List.length_map, EVA, ↓reduceIte, Nat.reduceEqDiff, Nat.reduceMul, reduceCtorEq, Nat.reduceAdd, Nat.reduceSub, Nat.reduceLeDiff, Nat.reduceLT, Int.reduceToNat, Int.reduceLE, Int.reduceLT, mens, men]
  refine kca_intro (sem_l4Fits a b h2.big.small (by have := h4.small.outer; omega)) ?_
  cases h5 : dc (fitOK a b)
  · obtain ⟨n1, n2⟩ := hno fun g => dc_not.1 h5 g.fit
    simp only [EVA, ↓reduceIte, Nat.reduceEqDiff, Nat.reduceMul, reduceCtorEq, Nat.reduceAdd, Nat.reduceSub, Nat.reduceLeDiff, Nat.reduceLT, Int.reduceToNat, Int.reduceLE, Int.reduceLT, mens, men]
    rw [n1, n2]
  simp only [cSorting, cBigraph, List.length_map, EVA, ↓reduceIte, Nat.reduceEqDiff, Nat.reduceMul, reduceCtorEq, Nat.reduceAdd, Nat.reduceSub, Nat.reduceLeDiff, Nat.reduceLT, Int.reduceToNat, Int.reduceLE, Int.reduceLT, mens, men]
  refine kca_intro (sem_l7Faults sig s a h2 hs) ?_
  by_cases h6 : (faults s a).length = 0
  case neg =>
    obtain ⟨n1, n2⟩ := hno fun g => h6 g.srt
    have h6' : (0 : Int) < (faults s a).length := by omega
    simp only [h6', List.length_map, EVA, ↓reduceIte, Nat.reduceEqDiff, Nat.reduceMul, reduceCtorEq, Nat.reduceAdd, Nat.reduceSub, Nat.reduceLeDiff, Nat.reduceLT, Int.reduceToNat, Int.reduceLE, Int.reduceLT, mens, men]
    rw [n1, n2]
  have h6' : ¬ (0 : Int) < (faults s a).length := by omega
  simp only [h6', cSorting, cBigraph, List.length_map, EVA, ↓reduceIte, Nat.reduceEqDiff, Nat.reduceMul, reduceCtorEq, Nat.reduceAdd, Nat.reduceSub, Nat.reduceLeDiff, Nat.reduceLT, Int.reduceToNat, Int.reduceLE, Int.reduceLT, mens, men]
  refine kca_intro (sem_l7Inside sig s b ⟨h2.srt, h4⟩ hs) ?_
  cases h7 : (faults s b).any (badF true)
  case true =>
    obtain ⟨n1, n2⟩ := hno fun g => by have := g.ins; rw [h7] at this; cases this
    simp only [EVA, ↓reduceIte, Nat.reduceEqDiff, Nat.reduceMul, reduceCtorEq, Nat.reduceAdd, Nat.reduceSub, Nat.reduceLeDiff, Nat.reduceLT, Int.reduceToNat, Int.reduceLE, Int.reduceLT, mens, men]
    rw [n1, n2]
  simp only [cSorting, cBigraph, List.length_map, EVA, ↓reduceIte, Nat.reduceEqDiff, Nat.reduceMul, reduceCtorEq, Nat.reduceAdd, Nat.reduceSub, Nat.reduceLeDiff, Nat.reduceLT, Int.reduceToNat, Int.reduceLE, Int.reduceLT, mens, men]
  refine kca_intro (sem_l7Fits sig s a b h2 h4 hs) ?_
  have hg : goodFit sig s a b := ⟨h2, h4, dc_iff.1 h5, h6, h7⟩
  simp only [EVA, ↓reduceIte, Nat.reduceEqDiff, Nat.reduceMul, reduceCtorEq, Nat.reduceAdd, Nat.reduceSub, Nat.reduceLeDiff, Nat.reduceLT, Int.reduceToNat, Int.reduceLE, Int.reduceLT, mens, men]
  rw [dc_true hg, dc_congr (p := goodFit sig s a b ∧ fitSorted s a b) ⟨fun g => g.2, fun g => ⟨hg, g⟩⟩]

theorem sem_impl_FitsSorted (sig : List TControl) (s : TSorting) (a b : TBigraph) (hn : sig.length ≤ 4294967296) (hbs : ∀ y ∈ sig, bdControl 4294967296 y) (hs : bdSorting 4294967296 s) (hba : bdBigraph 4294967296 a) (hbb : bdBigraph 4294967296 b) (_hfa : ftBigraph a) (_hfb : ftBigraph b) (lvl : Nat) (S : Sto) : Sem Go.Proofs.Tryz.prog fid_impl_FitsSorted lvl [.tr (.sl (sig.map cControl)), .ag ((cSorting s).map .tr), .ag ((cBigraph a).map .tr), .ag ((cBigraph b).map .tr)] S (.tu [iB (r0_FitsSorted sig s a b), iB (r1_FitsSorted sig s a b)]) S := by
  refine sem_of_chk k_impl_FitsSorted (by simp [low, men, mens]) ?_
  simp only [c_impl_FitsSorted, cSorting, cBigraph, List.length_map, EVA, ↓reduceIte, Nat.reduceEqDiff, Nat.reduceMul, reduceCtorEq, Nat.reduceAdd, Nat.reduceSub, Nat.reduceLeDiff, Nat.reduceLT, Int.reduceToNat, Int.reduceLE, Int.reduceLT, mens, men]
  refine kca_intro (sem_isSortedBy sig s a hn hbs hs hba) ?_
  unfold r0_FitsSorted r1_FitsSorted
  have hno : ¬ goodFit sig s a b → dc (goodFit sig s a b ∧ fitSorted s a b) = false ∧ dc (goodFit sig s a b) = false := fun h => ⟨dc_false fun g => h g.1, dc_false h⟩
  cases h1 : dc (two sig s a)
  · obtain ⟨n1, n2⟩ := hno fun g => dc_not.1 h1 g.two
    simp only [EVA, ↓reduceIte, Nat.reduceEqDiff, Nat.reduceMul, reduceCtorEq, Nat.reduceAdd, Nat.reduceSub, Nat.reduceLeDiff, Nat.reduceLT, Int.reduceToNat, Int.reduceLE, Int.reduceLT, mens, men]
    rw [n1, n2]
  have h2 := dc_iff.1 h1
  simp only [cSorting, cBigraph, List.length_map, EVA, ↓reduceIte, Nat.reduceEqDiff, Nat.reduceMul, reduceCtorEq, Nat.reduceAdd, Nat.reduceSub, Nat.reduceLeDiff, Nat.reduceLT, Int.reduceToNat, Int.reduceLE, Int.reduceLT, mens, men]
  refine kca_intro (sem_impl_IsBigraph sig b hn hbs hbb) ?_
  cases h3 : dc (bigOK sig b)
  · obtain ⟨n1, n2⟩ := hno fun g => dc_not.1 h3 g.big
    simp only [EVA, ↓reduceIte, Nat.reduceEqDiff, Nat.reduceMul, reduceCtorEq, Nat.reduceAdd, Nat.reduceSub, Nat.reduceLeDiff, Nat.reduceLT, Int.reduceToNat, Int.reduceLE, Int.reduceLT, mens, men]
    rw [n1, n2]
  have h4 := dc_iff.1 h3
  simp only [cSorting, cBigraph, List.length_map, EVA, ↓reduceIte, Nat.reduceEqDiff, Nat.reduceMul, reduceCtorEq, Nat.reduceAdd, Nat.reduceSub, Nat.reduceLeDiff, Nat.reduceLT, Int.reduceToNat, Int.reduceLE, Int.reduceLT, mens, men]
  refine kca_intro (sem_fits a b h2.big.small (by have := h4.small.outer; omega)) ?_
  cases h5 : dc (fitOK a b)
  · obtain ⟨n1, n2⟩ := hno fun g => dc_not.1 h5 g.fit
    simp only [EVA, ↓reduceIte, Nat.reduceEqDiff, Nat.reduceMul, reduceCtorEq, Nat.reduceAdd, Nat.reduceSub, Nat.reduceLeDiff, Nat.reduceLT, Int.reduceToNat, Int.reduceLE, Int.reduceLT, mens, men]
    rw [n1, n2]
  simp only [cSorting, cBigraph, List.length_map, EVA, ↓reduceIte, Nat.reduceEqDiff, Nat.reduceMul, reduceCtorEq, Nat.reduceAdd, Nat.reduceSub, Nat.reduceLeDiff, Nat.reduceLT, Int.reduceToNat, Int.reduceLE, Int.reduceLT, mens, men]
  refine kca_intro (sem_isSorted sig s a false h2 hs) ?_
  rw [any_badF0, Bool.not_not]
  by_cases h6 : (faults s a).length = 0
  case neg =>
    obtain ⟨n1, n2⟩ := hno fun g => h6 g.srt
    rw [decide_eq_false h6]
    simp only [EVA, ↓reduceIte, Nat.reduceEqDiff, Nat.reduceMul, reduceCtorEq, Nat.reduceAdd, Nat.reduceSub, Nat.reduceLeDiff, Nat.reduceLT, Int.reduceToNat, Int.reduceLE, Int.reduceLT, mens, men]
    rw [n1, n2]
  rw [decide_eq_true h6]
  simp only [cSorting, cBigraph, List.length_map, EVA, ↓reduceIte, Nat.reduceEqDiff, Nat.reduceMul, reduceCtorEq, Nat.reduceAdd, Nat.reduceSub, Nat.reduceLeDiff, Nat.reduceLT, Int.reduceToNat, Int.reduceLE, Int.reduceLT, mens, men]
  refine kca_intro (sem_isSorted sig s b true ⟨h2.srt, h4⟩ hs) ?_
  cases h7 : (faults s b).any (badF true)
  case true =>
    obtain ⟨n1, n2⟩ := hno fun g => by have := g.ins; rw [h7] at this; cases this
    simp only [EVA, ↓reduceIte, Nat.reduceEqDiff, Nat.reduceMul, reduceCtorEq, Nat.reduceAdd, Nat.reduceSub, Nat.reduceLeDiff, Nat.reduceLT, Int.reduceToNat, Int.reduceLE, Int.reduceLT, mens, men]
    rw [n1, n2]
  simp only [cSorting, cBigraph, List.length_map, EVA, ↓reduceIte, Nat.reduceEqDiff, Nat.reduceMul, reduceCtorEq, Nat.reduceAdd, Nat.reduceSub, Nat.reduceLeDiff, Nat.reduceLT, Int.reduceToNat, Int.reduceLE, Int.reduceLT, mens, men]
  refine kca_intro (sem_fitsSorted sig s a b h2 h4 hs) ?_
  have hg : goodFit sig s a b := ⟨h2, h4, dc_iff.1 h5, h6, h7⟩
  simp only [EVA, ↓reduceIte, Nat.reduceEqDiff, Nat.reduceMul, reduceCtorEq, Nat.reduceAdd, Nat.reduceSub, Nat.reduceLeDiff, Nat.reduceLT, Int.reduceToNat, Int.reduceLE, Int.reduceLT, mens, men]
  rw [dc_true hg, dc_congr (p := goodFit sig s a b ∧ fitSorted s a b) ⟨fun g => g.2, fun g => ⟨hg, g⟩⟩]
end Go.Fd

/-
  The annotated codes of the functions, printed by a program of mine (gen.py), and the check that they belong to the program.
-/
namespace Go.Fd
def c_laws_FnExactFitsSorted : F2 :=
  { nt := 94, res := [.t 8 [0]], body :=
   (.sq (rg [oo 5 (.bt (.t 1)),
 oo 6 (.bt (.t 2)),
 oo 7 (.bt (.t 3)),
 om 8 (.k (.bool false))])
 (.sq (rg [om 9 (i6 1048576)])
 (.sq (rg [om 18 (.t 0),
 om 19 (.t 9),
 oo 20 (.ca .pure false (.f fid_laws_szControlS) [.t 18, .t 19]),
 om 9 (.t 20)])
 (.sq (.sq (rg [om 21 (.t 9),
 oo 22 (.bi .lss 0 (.t 21) (i6 0))])
 (.cd (.t 22) (.sq (rg [om 8 (.k (.bool true))])
 (.rt))
 (.sk)))
 (.sq (rg [oo 23 (.ld (some 5) (.t 5)),
 om 24 (.t 9),
 oo 25 (.ca .pure false (.f fid_laws_szSorting) [.t 23, .t 24]),
 om 9 (.t 25)])
 (.sq (.sq (rg [om 26 (.t 9),
 oo 27 (.bi .lss 0 (.t 26) (i6 0))])
 (.cd (.t 27) (.sq (rg [om 8 (.k (.bool true))])
 (.rt))
 (.sk)))
 (.sq (rg [oo 28 (.ld (some 6) (.t 6)),
 om 29 (.t 9),
 oo 30 (.ca .pure false (.f fid_laws_szBigraph) [.t 28, .t 29]),
 om 9 (.t 30)])
 (.sq (.sq (rg [om 31 (.t 9),
 oo 32 (.bi .lss 0 (.t 31) (i6 0))])
 (.cd (.t 32) (.sq (rg [om 8 (.k (.bool true))])
 (.rt))
 (.sk)))
 (.sq (rg [oo 33 (.ld (some 6) (.t 7)),
 om 34 (.t 9),
 oo 35 (.ca .pure false (.f fid_laws_szBigraph) [.t 33, .t 34]),
 om 9 (.t 35)])
 (.sq (.sq (rg [om 36 (.t 9),
 oo 37 (.bi .lss 0 (.t 36) (i6 0))])
 (.cd (.t 37) (.sq (rg [om 8 (.k (.bool true))])
 (.rt))
 (.sk)))
 (.sq (.rg (some 0) [om 39 (.t 0),
 oo 40 (.ca .pure false (.f fid_laws_toControlS) [.t 39]),
 oo 41 (.ld (some 5) (.t 5)),
 oo 42 (.ca .pure false (.f fid_laws_toSorting) [.t 41]),
 oo 43 (.ld (some 6) (.t 6)),
 oo 44 (.ca .pure false (.f fid_laws_toBigraph) [.t 43]),
 oo 45 (.ld (some 6) (.t 7)),
 oo 46 (.ca .pure false (.f fid_laws_toBigraph) [.t 45]),
 oo 47 (.ca .pure false (.f fid_spec_FitsSorted) [.t 40, .t 42, .t 44, .t 46]),
 om 38 (.t 47),
 oo 48 (.ex 0 (.t 38)),
 oo 49 (.ex 1 (.t 38)),
 om 10 (.t 48),
 om 11 (.t 49)])
 (.sq (rg [om 50 (.t 0),
 oo 51 (.ca .pure false (.f fid_laws_toControlS) [.t 50]),
 om 12 (.t 51)])
 (.sq (rg [oo 52 (.ld (some 5) (.t 5)),
 oo 53 (.ca .pure false (.f fid_laws_toSorting) [.t 52]),
 oo 13 (.al [.slice none 0 0, .slice none 0 0, .slice none 0 0, .slice none 0 0, .slice none 0 0] []),
 on1 (.st 5 (.t 13) (.t 53))])
 (.sq (rg [oo 54 (.ld (some 6) (.t 6)),
 oo 55 (.ca .pure false (.f fid_laws_toBigraph) [.t 54]),
 oo 14 (.al [.int .i64 0, .slice none 0 0, .slice none 0 0, .int .i64 0, .slice none 0 0, .slice none 0 0] []),
 on1 (.st 6 (.t 14) (.t 55))])
 (.sq (rg [oo 56 (.ld (some 6) (.t 7)),
 oo 57 (.ca .pure false (.f fid_laws_toBigraph) [.t 56]),
 oo 15 (.al [.int .i64 0, .slice none 0 0, .slice none 0 0, .int .i64 0, .slice none 0 0, .slice none 0 0] []),
 on1 (.st 6 (.t 15) (.t 57))])
 (.sq (rg [om 59 (.t 12),
 oo 60 (.ld (some 5) (.t 13)),
 oo 61 (.ld (some 6) (.t 14)),
 oo 62 (.ld (some 6) (.t 15)),
 oo 63 (.ca .pure false (.f fid_impl_FitsSorted) [.t 59, .t 60, .t 61, .t 62]),
 om 58 (.t 63),
 oo 64 (.ex 0 (.t 58)),
 oo 65 (.ex 1 (.t 58)),
 om 16 (.t 64),
 om 17 (.t 65)])
 (.sq (.sq (rg [om 66 (.t 16),
 om 67 (.t 10),
 oo 68 (.bi .neq 2 (.t 66) (.t 67)),
 om 69 (.t 68),
 og 70 69 false (.mv (.t 17) none),
 og 71 69 false (.mv (.t 11) none),
 og 72 69 false (.bi .neq 2 (.t 70) (.t 71)),
 oo 73 (.pk (.t 69) (.k (.bool true)) (.t 72))])
 (.cd (.t 73) (.sq (rg [om 8 (.k (.bool false))])
 (.rt))
 (.sk)))
 (.sq (.sq (rg [om 74 (.t 12),
 om 75 (.t 0),
 oo 76 (.ca .pure false (.f fid_laws_toControlS) [.t 75]),
 oo 77 (.ca .pure false (.f fid_laws_eqControlS) [.t 74, .t 76]),
 oo 78 (.nt (.t 77))])
 (.cd (.t 78) (.sq (rg [om 8 (.k (.bool false))])
 (.rt))
 (.sk)))
 (.sq (.sq (.rg (some 0) [oo 79 (.ld (some 5) (.t 13)),
 oo 80 (.ld (some 5) (.t 5)),
 oo 81 (.ca .pure false (.f fid_laws_toSorting) [.t 80]),
 oo 82 (.ca .pure false (.f fid_laws_eqSorting) [.t 79, .t 81]),
 oo 83 (.nt (.t 82))])
 (.cd (.t 83) (.sq (rg [om 8 (.k (.bool false))])
 (.rt))
 (.sk)))
 (.sq (.sq (.rg (some 0) [oo 84 (.ld (some 6) (.t 14)),
 oo 85 (.ld (some 6) (.t 6)),
 oo 86 (.ca .pure false (.f fid_laws_toBigraph) [.t 85]),
 oo 87 (.ca .pure false (.f fid_laws_eqBigraph) [.t 84, .t 86]),
 oo 88 (.nt (.t 87))])
 (.cd (.t 88) (.sq (rg [om 8 (.k (.bool false))])
 (.rt))
 (.sk)))
 (.sq (.sq (.rg (some 0) [oo 89 (.ld (some 6) (.t 15)),
 oo 90 (.ld (some 6) (.t 7)),
 oo 91 (.ca .pure false (.f fid_laws_toBigraph) [.t 90]),
 oo 92 (.ca .pure false (.f fid_laws_eqBigraph) [.t 89, .t 91]),
 oo 93 (.nt (.t 92))])
 (.cd (.t 93) (.sq (rg [om 8 (.k (.bool false))])
 (.rt))
 (.sk)))
 (.sq (rg [om 8 (.k (.bool true))])
 (.rt))))))))))))))))))))))) }
theorem k_laws_FnExactFitsSorted : chkF Go.Proofs.Tryz.prog fid_laws_FnExactFitsSorted c_laws_FnExactFitsSorted = true := by kernel_rfl

end Go.Fd

/-
  THE TEXT OF A MARK; THE MARKS OF NUMBERS AND TEXTS. Own work.
-/
namespace Go.Fd
set_option maxRecDepth 20000
def mt (q : Nat) (o : ByteArray) : ByteArray := if q = 0 then o else mt (q / 10) (⟨#[UInt8.ofNat (48 + q % 10)]⟩ ++ o)
  termination_by q
  decreasing_by omega
end Go.Fd

/-
  WHAT THE MARKING FUNCTIONS DO (printed by lawgen.py). Own work.
-/
namespace Go.Fd
set_option maxRecDepth 20000
end Go.Fd

/-
  The annotated codes of the functions, printed by a program of mine (gen.py), and the check that they belong to the program.
-/
namespace Go.Fd
def c_laws_toControlS : F2 :=
  { nt := 23, res := [.t 2 [4]], body :=
   (.sq (rg [om 2 (.k (.slice none 0 0))])
 (.sq (rg [om 5 (.t 0),
 oo 6 (.ln (.t 5)),
 oo 7 (.ms 3 [.string ⟨#[]⟩, .int .i64 0, .int .i64 0] (.t 6)),
 om 3 (.t 7)])
 (.sq (.sq (rg [om 4 (i6 0)])
 (.bl 0 (.lp [0, 3, 4] [224] (.sq (.sq (rg [om 8 (.t 4),
 om 9 (.t 0),
 oo 10 (.ln (.t 9)),
 oo 11 (.bi .lss 0 (.t 8) (.t 10))])
 (.cd (.t 11) (.sk)
 (.ex 0)))
 (.sq (.bl 1 (rg [om 14 (.t 3),
 om 15 (.t 4),
 om 16 (.t 0),
 om 17 (.t 4),
 oo 18 (.ia 3 (.t 16) (.t 17)),
 oo 19 (.ld (some 3) (.t 18)),
 oo 20 (.ca .pure true (.f fid_laws_toControl) [.t 19]),
 oo 21 (.ia 3 (.t 14) (.t 15)),
 on1 (.st 3 (.t 21) (.t 20))]))
 (rg [om 12 (.t 4),
 oo 13 (.bi .add 0 (.t 12) (i6 1)),
 om 4 (.t 13)]))))))
 (.sq (rg [om 22 (.t 3),
 om 2 (.t 22)])
 (.rt))))) }
theorem k_laws_toControlS : chkF Go.Proofs.Tryz.prog fid_laws_toControlS c_laws_toControlS = true := by kernel_rfl

def c_laws_szSorting : F2 :=
  { nt := 36, res := [.t 4 [0]], body :=
   (.sq (rg [oo 2 (.bt (.t 0)),
 om 4 (i6 0)])
 (.sq (rg [oo 5 (.fa 0 (.t 2)),
 oo 6 (.ld none (.t 5)),
 om 7 (.t 1),
 oo 8 (.ca .pure false (.f fid_laws_szIntS) [.t 6, .t 7]),
 om 1 (.t 8)])
 (.sq (.sq (rg [om 9 (.t 1),
 oo 10 (.bi .lss 0 (.t 9) (i6 0))])
 (.cd (.t 10) (.sq (rg [om 4 (i6 (-1))])
 (.rt))
 (.sk)))
 (.sq (rg [oo 11 (.fa 1 (.t 2)),
 oo 12 (.ld none (.t 11)),
 om 13 (.t 1),
 oo 14 (.ca .pure false (.f fid_laws_szIntSS) [.t 12, .t 13]),
 om 1 (.t 14)])
 (.sq (.sq (rg [om 15 (.t 1),
 oo 16 (.bi .lss 0 (.t 15) (i6 0))])
 (.cd (.t 16) (.sq (rg [om 4 (i6 (-1))])
 (.rt))
 (.sk)))
 (.sq (rg [oo 17 (.fa 2 (.t 2)),
 oo 18 (.ld none (.t 17)),
 om 19 (.t 1),
 oo 20 (.ca .pure false (.f fid_laws_szIntSS) [.t 18, .t 19]),
 om 1 (.t 20)])
 (.sq (.sq (rg [om 21 (.t 1),
 oo 22 (.bi .lss 0 (.t 21) (i6 0))])
 (.cd (.t 22) (.sq (rg [om 4 (i6 (-1))])
 (.rt))
 (.sk)))
 (.sq (rg [oo 23 (.fa 3 (.t 2)),
 oo 24 (.ld none (.t 23)),
 om 25 (.t 1),
 oo 26 (.ca .pure false (.f fid_laws_szIntS) [.t 24, .t 25]),
 om 1 (.t 26)])
 (.sq (.sq (rg [om 27 (.t 1),
 oo 28 (.bi .lss 0 (.t 27) (i6 0))])
 (.cd (.t 28) (.sq (rg [om 4 (i6 (-1))])
 (.rt))
 (.sk)))
 (.sq (rg [oo 29 (.fa 4 (.t 2)),
 oo 30 (.ld none (.t 29)),
 om 31 (.t 1),
 oo 32 (.ca .pure false (.f fid_laws_szIntA2S) [.t 30, .t 31]),
 om 1 (.t 32)])
 (.sq (.sq (rg [om 33 (.t 1),
 oo 34 (.bi .lss 0 (.t 33) (i6 0))])
 (.cd (.t 34) (.sq (rg [om 4 (i6 (-1))])
 (.rt))
 (.sk)))
 (.sq (rg [om 35 (.t 1),
 om 4 (.t 35)])
 (.rt))))))))))))) }
theorem k_laws_szSorting : chkF Go.Proofs.Tryz.prog fid_laws_szSorting c_laws_szSorting = true := by kernel_rfl

def c_laws_szBigraph : F2 :=
  { nt := 30, res := [.t 4 [0]], body :=
   (.sq (rg [oo 2 (.bt (.t 0)),
 om 4 (i6 0)])
 (.sq (rg [oo 5 (.fa 1 (.t 2)),
 oo 6 (.ld none (.t 5)),
 om 7 (.t 1),
 oo 8 (.ca .pure false (.f fid_laws_szNodeS) [.t 6, .t 7]),
 om 1 (.t 8)])
 (.sq (.sq (rg [om 9 (.t 1),
 oo 10 (.bi .lss 0 (.t 9) (i6 0))])
 (.cd (.t 10) (.sq (rg [om 4 (i6 (-1))])
 (.rt))
 (.sk)))
 (.sq (rg [oo 11 (.fa 2 (.t 2)),
 oo 12 (.ld none (.t 11)),
 om 13 (.t 1),
 oo 14 (.ca .pure false (.f fid_laws_szIntS) [.t 12, .t 13]),
 om 1 (.t 14)])
 (.sq (.sq (rg [om 15 (.t 1),
 oo 16 (.bi .lss 0 (.t 15) (i6 0))])
 (.cd (.t 16) (.sq (rg [om 4 (i6 (-1))])
 (.rt))
 (.sk)))
 (.sq (rg [oo 17 (.fa 4 (.t 2)),
 oo 18 (.ld none (.t 17)),
 om 19 (.t 1),
 oo 20 (.ca .pure false (.f fid_laws_szStringS) [.t 18, .t 19]),
 om 1 (.t 20)])
 (.sq (.sq (rg [om 21 (.t 1),
 oo 22 (.bi .lss 0 (.t 21) (i6 0))])
 (.cd (.t 22) (.sq (rg [om 4 (i6 (-1))])
 (.rt))
 (.sk)))
 (.sq (rg [oo 23 (.fa 5 (.t 2)),
 oo 24 (.ld none (.t 23)),
 om 25 (.t 1),
 oo 26 (.ca .pure false (.f fid_laws_szWireS) [.t 24, .t 25]),
 om 1 (.t 26)])
 (.sq (.sq (rg [om 27 (.t 1),
 oo 28 (.bi .lss 0 (.t 27) (i6 0))])
 (.cd (.t 28) (.sq (rg [om 4 (i6 (-1))])
 (.rt))
 (.sk)))
 (.sq (rg [om 29 (.t 1),
 om 4 (.t 29)])
 (.rt))))))))))) }
theorem k_laws_szBigraph : chkF Go.Proofs.Tryz.prog fid_laws_szBigraph c_laws_szBigraph = true := by kernel_rfl

def c_laws_toSorting : F2 :=
  { nt := 25, res := [.c 2 (some 5) [2, 2, 2, 2, 3]], body :=
   (.sq (rg [oo 1 (.bt (.t 0)),
 oo 2 (.al [.slice none 0 0, .slice none 0 0, .slice none 0 0, .slice none 0 0, .slice none 0 0] [])])
 (.sq (rg [oo 3 (.al [.slice none 0 0, .slice none 0 0, .slice none 0 0, .slice none 0 0, .slice none 0 0] [])])
 (.sq (rg [oo 4 (.fa 0 (.t 1)),
 oo 5 (.ld none (.t 4)),
 oo 6 (.ca .pure true (.f fid_laws_toIntS) [.t 5]),
 oo 7 (.fa 0 (.t 3)),
 on1 (.st 1 (.t 7) (.t 6))])
 (.sq (rg [oo 8 (.fa 1 (.t 1)),
 oo 9 (.ld none (.t 8)),
 oo 10 (.ca .pure true (.f fid_laws_toIntSS) [.t 9]),
 oo 11 (.fa 1 (.t 3)),
 on1 (.st 1 (.t 11) (.t 10))])
 (.sq (rg [oo 12 (.fa 2 (.t 1)),
 oo 13 (.ld none (.t 12)),
 oo 14 (.ca .pure true (.f fid_laws_toIntSS) [.t 13]),
 oo 15 (.fa 2 (.t 3)),
 on1 (.st 1 (.t 15) (.t 14))])
 (.sq (rg [oo 16 (.fa 3 (.t 1)),
 oo 17 (.ld none (.t 16)),
 oo 18 (.ca .pure true (.f fid_laws_toIntS) [.t 17]),
 oo 19 (.fa 3 (.t 3)),
 on1 (.st 1 (.t 19) (.t 18))])
 (.sq (rg [oo 20 (.fa 4 (.t 1)),
 oo 21 (.ld none (.t 20)),
 oo 22 (.ca .pure true (.f fid_laws_toIntA2S) [.t 21]),
 oo 23 (.fa 4 (.t 3)),
 on1 (.st 1 (.t 23) (.t 22))])
 (.sq (rg [oo 24 (.ld (some 5) (.t 3)),
 on1 (.st 5 (.t 2) (.t 24))])
 (.rt))))))))) }
theorem k_laws_toSorting : chkF Go.Proofs.Tryz.prog fid_laws_toSorting c_laws_toSorting = true := by kernel_rfl

def c_laws_toBigraph : F2 :=
  { nt := 27, res := [.c 2 (some 6) [0, 4, 2, 0, 2, 3]], body :=
   (.sq (rg [oo 1 (.bt (.t 0)),
 oo 2 (.al [.int .i64 0, .slice none 0 0, .slice none 0 0, .int .i64 0, .slice none 0 0, .slice none 0 0] [])])
 (.sq (rg [oo 3 (.al [.int .i64 0, .slice none 0 0, .slice none 0 0, .int .i64 0, .slice none 0 0, .slice none 0 0] [])])
 (.sq (rg [oo 4 (.fa 0 (.t 1)),
 oo 5 (.ld none (.t 4)),
 oo 6 (.fa 0 (.t 3)),
 on1 (.st 1 (.t 6) (.t 5))])
 (.sq (rg [oo 7 (.fa 1 (.t 1)),
 oo 8 (.ld none (.t 7)),
 oo 9 (.ca .pure true (.f fid_laws_toNodeS) [.t 8]),
 oo 10 (.fa 1 (.t 3)),
 on1 (.st 1 (.t 10) (.t 9))])
 (.sq (rg [oo 11 (.fa 2 (.t 1)),
 oo 12 (.ld none (.t 11)),
 oo 13 (.ca .pure true (.f fid_laws_toIntS) [.t 12]),
 oo 14 (.fa 2 (.t 3)),
 on1 (.st 1 (.t 14) (.t 13))])
 (.sq (rg [oo 15 (.fa 3 (.t 1)),
 oo 16 (.ld none (.t 15)),
 oo 17 (.fa 3 (.t 3)),
 on1 (.st 1 (.t 17) (.t 16))])
 (.sq (rg [oo 18 (.fa 4 (.t 1)),
 oo 19 (.ld none (.t 18)),
 oo 20 (.ca .pure true (.f fid_laws_toStringS) [.t 19]),
 oo 21 (.fa 4 (.t 3)),
 on1 (.st 1 (.t 21) (.t 20))])
 (.sq (rg [oo 22 (.fa 5 (.t 1)),
 oo 23 (.ld none (.t 22)),
 oo 24 (.ca .pure true (.f fid_laws_toWireS) [.t 23]),
 oo 25 (.fa 5 (.t 3)),
 on1 (.st 1 (.t 25) (.t 24))])
 (.sq (rg [oo 26 (.ld (some 6) (.t 3)),
 on1 (.st 6 (.t 2) (.t 26))])
 (.rt)))))))))) }
theorem k_laws_toBigraph : chkF Go.Proofs.Tryz.prog fid_laws_toBigraph c_laws_toBigraph = true := by kernel_rfl

def c_laws_eqSorting : F2 :=
  { nt := 35, res := [.t 4 [0]], body :=
   (.sq (rg [oo 2 (.bt (.t 0)),
 oo 3 (.bt (.t 1)),
 om 4 (.k (.bool false))])
 (.sq (.sq (rg [oo 5 (.fa 0 (.t 2)),
 oo 6 (.ld none (.t 5)),
 oo 7 (.fa 0 (.t 3)),
 oo 8 (.ld none (.t 7)),
 oo 9 (.ca .pure false (.f fid_laws_eqIntS) [.t 6, .t 8]),
 oo 10 (.nt (.t 9))])
 (.cd (.t 10) (.sq (rg [om 4 (.k (.bool false))])
 (.rt))
 (.sk)))
 (.sq (.sq (rg [oo 11 (.fa 1 (.t 2)),
 oo 12 (.ld none (.t 11)),
 oo 13 (.fa 1 (.t 3)),
 oo 14 (.ld none (.t 13)),
 oo 15 (.ca .pure false (.f fid_laws_eqIntSS) [.t 12, .t 14]),
 oo 16 (.nt (.t 15))])
 (.cd (.t 16) (.sq (rg [om 4 (.k (.bool false))])
 (.rt))
 (.sk)))
 (.sq (.sq (rg [oo 17 (.fa 2 (.t 2)),
 oo 18 (.ld none (.t 17)),
 oo 19 (.fa 2 (.t 3)),
 oo 20 (.ld none (.t 19)),
 oo 21 (.ca .pure false (.f fid_laws_eqIntSS) [.t 18, .t 20]),
 oo 22 (.nt (.t 21))])
 (.cd (.t 22) (.sq (rg [om 4 (.k (.bool false))])
 (.rt))
 (.sk)))
 (.sq (.sq (rg [oo 23 (.fa 3 (.t 2)),
 oo 24 (.ld none (.t 23)),
 oo 25 (.fa 3 (.t 3)),
 oo 26 (.ld none (.t 25)),
 oo 27 (.ca .pure false (.f fid_laws_eqIntS) [.t 24, .t 26]),
 oo 28 (.nt (.t 27))])
 (.cd (.t 28) (.sq (rg [om 4 (.k (.bool false))])
 (.rt))
 (.sk)))
 (.sq (.sq (rg [oo 29 (.fa 4 (.t 2)),
 oo 30 (.ld none (.t 29)),
 oo 31 (.fa 4 (.t 3)),
 oo 32 (.ld none (.t 31)),
 oo 33 (.ca .pure false (.f fid_laws_eqIntA2S) [.t 30, .t 32]),
 oo 34 (.nt (.t 33))])
 (.cd (.t 34) (.sq (rg [om 4 (.k (.bool false))])
 (.rt))
 (.sk)))
 (.sq (rg [om 4 (.k (.bool true))])
 (.rt)))))))) }
theorem k_laws_eqSorting : chkF Go.Proofs.Tryz.prog fid_laws_eqSorting c_laws_eqSorting = true := by kernel_rfl

def c_laws_eqBigraph : F2 :=
  { nt := 39, res := [.t 4 [0]], body :=
   (.sq (rg [oo 2 (.bt (.t 0)),
 oo 3 (.bt (.t 1)),
 om 4 (.k (.bool false))])
 (.sq (.sq (rg [oo 5 (.fa 0 (.t 2)),
 oo 6 (.ld none (.t 5)),
 oo 7 (.fa 0 (.t 3)),
 oo 8 (.ld none (.t 7)),
 oo 9 (.bi .neq 0 (.t 6) (.t 8))])
 (.cd (.t 9) (.sq (rg [om 4 (.k (.bool false))])
 (.rt))
 (.sk)))
 (.sq (.sq (rg [oo 10 (.fa 1 (.t 2)),
 oo 11 (.ld none (.t 10)),
 oo 12 (.fa 1 (.t 3)),
 oo 13 (.ld none (.t 12)),
 oo 14 (.ca .pure false (.f fid_laws_eqNodeS) [.t 11, .t 13]),
 oo 15 (.nt (.t 14))])
 (.cd (.t 15) (.sq (rg [om 4 (.k (.bool false))])
 (.rt))
 (.sk)))
 (.sq (.sq (rg [oo 16 (.fa 2 (.t 2)),
 oo 17 (.ld none (.t 16)),
 oo 18 (.fa 2 (.t 3)),
 oo 19 (.ld none (.t 18)),
 oo 20 (.ca .pure false (.f fid_laws_eqIntS) [.t 17, .t 19]),
 oo 21 (.nt (.t 20))])
 (.cd (.t 21) (.sq (rg [om 4 (.k (.bool false))])
 (.rt))
 (.sk)))
 (.sq (.sq (rg [oo 22 (.fa 3 (.t 2)),
 oo 23 (.ld none (.t 22)),
 oo 24 (.fa 3 (.t 3)),
 oo 25 (.ld none (.t 24)),
 oo 26 (.bi .neq 0 (.t 23) (.t 25))])
 (.cd (.t 26) (.sq (rg [om 4 (.k (.bool false))])
 (.rt))
 (.sk)))
 (.sq (.sq (rg [oo 27 (.fa 4 (.t 2)),
 oo 28 (.ld none (.t 27)),
 oo 29 (.fa 4 (.t 3)),
 oo 30 (.ld none (.t 29)),
 oo 31 (.ca .pure false (.f fid_laws_eqStringS) [.t 28, .t 30]),
 oo 32 (.nt (.t 31))])
 (.cd (.t 32) (.sq (rg [om 4 (.k (.bool false))])
 (.rt))
 (.sk)))
 (.sq (.sq (rg [oo 33 (.fa 5 (.t 2)),
 oo 34 (.ld none (.t 33)),
 oo 35 (.fa 5 (.t 3)),
 oo 36 (.ld none (.t 35)),
 oo 37 (.ca .pure false (.f fid_laws_eqWireS) [.t 34, .t 36]),
 oo 38 (.nt (.t 37))])
 (.cd (.t 38) (.sq (rg [om 4 (.k (.bool false))])
 (.rt))
 (.sk)))
 (.sq (rg [om 4 (.k (.bool true))])
 (.rt))))))))) }
theorem k_laws_eqBigraph : chkF Go.Proofs.Tryz.prog fid_laws_eqBigraph c_laws_eqBigraph = true := by kernel_rfl

def c_laws_szControl : F2 :=
  { nt := 13, res := [.t 4 [0]], body :=
   (.sq (rg [oo 2 (.bt (.t 0)),
 om 4 (i6 0)])
 (.sq (rg [om 5 (.t 1),
 oo 6 (.fa 0 (.t 2)),
 oo 7 (.ld none (.t 6)),
 oo 8 (.lg (.t 7)),
 oo 9 (.bi .sub 0 (.t 5) (.t 8)),
 om 1 (.t 9)])
 (.sq (.sq (rg [om 10 (.t 1),
 oo 11 (.bi .lss 0 (.t 10) (i6 0))])
 (.cd (.t 11) (.sq (rg [om 4 (i6 (-1))])
 (.rt))
 (.sk)))
 (.sq (rg [om 12 (.t 1),
 om 4 (.t 12)])
 (.rt))))) }
theorem k_laws_szControl : chkF Go.Proofs.Tryz.prog fid_laws_szControl c_laws_szControl = true := by kernel_rfl

def c_laws_toControl : F2 :=
  { nt := 14, res := [.c 2 (some 3) [0, 0, 0]], body :=
   (.sq (rg [oo 1 (.bt (.t 0)),
 oo 2 (.al [.string ⟨#[]⟩, .int .i64 0, .int .i64 0] [])])
 (.sq (rg [oo 3 (.al [.string ⟨#[]⟩, .int .i64 0, .int .i64 0] [])])
 (.sq (rg [oo 4 (.fa 0 (.t 1)),
 oo 5 (.ld none (.t 4)),
 oo 6 (.fa 0 (.t 3)),
 on1 (.st 1 (.t 6) (.t 5))])
 (.sq (rg [oo 7 (.fa 1 (.t 1)),
 oo 8 (.ld none (.t 7)),
 oo 9 (.fa 1 (.t 3)),
 on1 (.st 1 (.t 9) (.t 8))])
 (.sq (rg [oo 10 (.fa 2 (.t 1)),
 oo 11 (.ld none (.t 10)),
 oo 12 (.fa 2 (.t 3)),
 on1 (.st 1 (.t 12) (.t 11))])
 (.sq (rg [oo 13 (.ld (some 3) (.t 3)),
 on1 (.st 3 (.t 2) (.t 13))])
 (.rt))))))) }
theorem k_laws_toControl : chkF Go.Proofs.Tryz.prog fid_laws_toControl c_laws_toControl = true := by kernel_rfl

def c_laws_eqControl : F2 :=
  { nt := 20, res := [.t 4 [0]], body :=
   (.sq (rg [oo 2 (.bt (.t 0)),
 oo 3 (.bt (.t 1)),
 om 4 (.k (.bool false))])
 (.sq (.sq (rg [oo 5 (.fa 0 (.t 2)),
 oo 6 (.ld none (.t 5)),
 oo 7 (.fa 0 (.t 3)),
 oo 8 (.ld none (.t 7)),
 oo 9 (.bi .neq 0 (.t 6) (.t 8))])
 (.cd (.t 9) (.sq (rg [om 4 (.k (.bool false))])
 (.rt))
 (.sk)))
 (.sq (.sq (rg [oo 10 (.fa 1 (.t 2)),
 oo 11 (.ld none (.t 10)),
 oo 12 (.fa 1 (.t 3)),
 oo 13 (.ld none (.t 12)),
 oo 14 (.bi .neq 0 (.t 11) (.t 13))])
 (.cd (.t 14) (.sq (rg [om 4 (.k (.bool false))])
 (.rt))
 (.sk)))
 (.sq (.sq (rg [oo 15 (.fa 2 (.t 2)),
 oo 16 (.ld none (.t 15)),
 oo 17 (.fa 2 (.t 3)),
 oo 18 (.ld none (.t 17)),
 oo 19 (.bi .neq 0 (.t 16) (.t 18))])
 (.cd (.t 19) (.sq (rg [om 4 (.k (.bool false))])
 (.rt))
 (.sk)))
 (.sq (rg [om 4 (.k (.bool true))])
 (.rt)))))) }
theorem k_laws_eqControl : chkF Go.Proofs.Tryz.prog fid_laws_eqControl c_laws_eqControl = true := by kernel_rfl

def c_laws_toIntSS : F2 :=
  { nt := 23, res := [.t 2 [2]], body :=
   (.sq (rg [om 2 (.k (.slice none 0 0))])
 (.sq (rg [om 5 (.t 0),
 oo 6 (.ln (.t 5)),
 oo 7 (.ms 1 [.slice none 0 0] (.t 6)),
 om 3 (.t 7)])
 (.sq (.sq (rg [om 4 (i6 0)])
 (.bl 0 (.lp [0, 3, 4] [224, 640] (.sq (.sq (rg [om 8 (.t 4),
 om 9 (.t 0),
 oo 10 (.ln (.t 9)),
 oo 11 (.bi .lss 0 (.t 8) (.t 10))])
 (.cd (.t 11) (.sk)
 (.ex 0)))
 (.sq (.bl 1 (rg [om 14 (.t 3),
 om 15 (.t 4),
 om 16 (.t 0),
 om 17 (.t 4),
 oo 18 (.ia 1 (.t 16) (.t 17)),
 oo 19 (.ld none (.t 18)),
 oo 20 (.ca .pure true (.f fid_laws_toIntS) [.t 19]),
 oo 21 (.ia 1 (.t 14) (.t 15)),
 on1 (.st 1 (.t 21) (.t 20))]))
 (rg [om 12 (.t 4),
 oo 13 (.bi .add 0 (.t 12) (i6 1)),
 om 4 (.t 13)]))))))
 (.sq (rg [om 22 (.t 3),
 om 2 (.t 22)])
 (.rt))))) }
theorem k_laws_toIntSS : chkF Go.Proofs.Tryz.prog fid_laws_toIntSS c_laws_toIntSS = true := by kernel_rfl

def c_laws_toIntA2S : F2 :=
  { nt := 23, res := [.t 2 [3]], body :=
   (.sq (rg [om 2 (.k (.slice none 0 0))])
 (.sq (rg [om 5 (.t 0),
 oo 6 (.ln (.t 5)),
 oo 7 (.ms 2 [.int .i64 0, .int .i64 0] (.t 6)),
 om 3 (.t 7)])
 (.sq (.sq (rg [om 4 (i6 0)])
 (.bl 0 (.lp [0, 3, 4] [224] (.sq (.sq (rg [om 8 (.t 4),
 om 9 (.t 0),
 oo 10 (.ln (.t 9)),
 oo 11 (.bi .lss 0 (.t 8) (.t 10))])
 (.cd (.t 11) (.sk)
 (.ex 0)))
 (.sq (.bl 1 (rg [om 14 (.t 3),
 om 15 (.t 4),
 om 16 (.t 0),
 om 17 (.t 4),
 oo 18 (.ia 2 (.t 16) (.t 17)),
 oo 19 (.ld (some 2) (.t 18)),
 oo 20 (.ca .pure true (.f fid_laws_toIntA2) [.t 19]),
 oo 21 (.ia 2 (.t 14) (.t 15)),
 on1 (.st 2 (.t 21) (.t 20))]))
 (rg [om 12 (.t 4),
 oo 13 (.bi .add 0 (.t 12) (i6 1)),
 om 4 (.t 13)]))))))
 (.sq (rg [om 22 (.t 3),
 om 2 (.t 22)])
 (.rt))))) }
theorem k_laws_toIntA2S : chkF Go.Proofs.Tryz.prog fid_laws_toIntA2S c_laws_toIntA2S = true := by kernel_rfl

def c_laws_toNodeS : F2 :=
  { nt := 23, res := [.t 2 [4]], body :=
   (.sq (rg [om 2 (.k (.slice none 0 0))])
 (.sq (rg [om 5 (.t 0),
 oo 6 (.ln (.t 5)),
 oo 7 (.ms 3 [.int .i64 0, .int .i64 0, .slice none 0 0] (.t 6)),
 om 3 (.t 7)])
 (.sq (.sq (rg [om 4 (i6 0)])
 (.bl 0 (.lp [0, 3, 4] [224, 640] (.sq (.sq (rg [om 8 (.t 4),
 om 9 (.t 0),
 oo 10 (.ln (.t 9)),
 oo 11 (.bi .lss 0 (.t 8) (.t 10))])
 (.cd (.t 11) (.sk)
 (.ex 0)))
 (.sq (.bl 1 (rg [om 14 (.t 3),
 om 15 (.t 4),
 om 16 (.t 0),
 om 17 (.t 4),
 oo 18 (.ia 3 (.t 16) (.t 17)),
 oo 19 (.ld (some 3) (.t 18)),
 oo 20 (.ca .pure true (.f fid_laws_toNode) [.t 19]),
 oo 21 (.ia 3 (.t 14) (.t 15)),
 on1 (.st 3 (.t 21) (.t 20))]))
 (rg [om 12 (.t 4),
 oo 13 (.bi .add 0 (.t 12) (i6 1)),
 om 4 (.t 13)]))))))
 (.sq (rg [om 22 (.t 3),
 om 2 (.t 22)])
 (.rt))))) }
theorem k_laws_toNodeS : chkF Go.Proofs.Tryz.prog fid_laws_toNodeS c_laws_toNodeS = true := by kernel_rfl

def c_laws_toWireS : F2 :=
  { nt := 23, res := [.t 2 [3]], body :=
   (.sq (rg [om 2 (.k (.slice none 0 0))])
 (.sq (rg [om 5 (.t 0),
 oo 6 (.ln (.t 5)),
 oo 7 (.ms 2 [.string ⟨#[]⟩, .int .i64 0] (.t 6)),
 om 3 (.t 7)])
 (.sq (.sq (rg [om 4 (i6 0)])
 (.bl 0 (.lp [0, 3, 4] [224] (.sq (.sq (rg [om 8 (.t 4),
 om 9 (.t 0),
 oo 10 (.ln (.t 9)),
 oo 11 (.bi .lss 0 (.t 8) (.t 10))])
 (.cd (.t 11) (.sk)
 (.ex 0)))
 (.sq (.bl 1 (rg [om 14 (.t 3),
 om 15 (.t 4),
 om 16 (.t 0),
 om 17 (.t 4),
 oo 18 (.ia 2 (.t 16) (.t 17)),
 oo 19 (.ld (some 2) (.t 18)),
 oo 20 (.ca .pure true (.f fid_laws_toWire) [.t 19]),
 oo 21 (.ia 2 (.t 14) (.t 15)),
 on1 (.st 2 (.t 21) (.t 20))]))
 (rg [om 12 (.t 4),
 oo 13 (.bi .add 0 (.t 12) (i6 1)),
 om 4 (.t 13)]))))))
 (.sq (rg [om 22 (.t 3),
 om 2 (.t 22)])
 (.rt))))) }
theorem k_laws_toWireS : chkF Go.Proofs.Tryz.prog fid_laws_toWireS c_laws_toWireS = true := by kernel_rfl

def c_laws_szNode : F2 :=
  { nt := 12, res := [.t 4 [0]], body :=
   (.sq (rg [oo 2 (.bt (.t 0)),
 om 4 (i6 0)])
 (.sq (rg [oo 5 (.fa 2 (.t 2)),
 oo 6 (.ld none (.t 5)),
 om 7 (.t 1),
 oo 8 (.ca .pure false (.f fid_laws_szIntS) [.t 6, .t 7]),
 om 1 (.t 8)])
 (.sq (.sq (rg [om 9 (.t 1),
 oo 10 (.bi .lss 0 (.t 9) (i6 0))])
 (.cd (.t 10) (.sq (rg [om 4 (i6 (-1))])
 (.rt))
 (.sk)))
 (.sq (rg [om 11 (.t 1),
 om 4 (.t 11)])
 (.rt))))) }
theorem k_laws_szNode : chkF Go.Proofs.Tryz.prog fid_laws_szNode c_laws_szNode = true := by kernel_rfl

def c_laws_szWire : F2 :=
  { nt := 13, res := [.t 4 [0]], body :=
   (.sq (rg [oo 2 (.bt (.t 0)),
 om 4 (i6 0)])
 (.sq (rg [om 5 (.t 1),
 oo 6 (.fa 0 (.t 2)),
 oo 7 (.ld none (.t 6)),
 oo 8 (.lg (.t 7)),
 oo 9 (.bi .sub 0 (.t 5) (.t 8)),
 om 1 (.t 9)])
 (.sq (.sq (rg [om 10 (.t 1),
 oo 11 (.bi .lss 0 (.t 10) (i6 0))])
 (.cd (.t 11) (.sq (rg [om 4 (i6 (-1))])
 (.rt))
 (.sk)))
 (.sq (rg [om 12 (.t 1),
 om 4 (.t 12)])
 (.rt))))) }
theorem k_laws_szWire : chkF Go.Proofs.Tryz.prog fid_laws_szWire c_laws_szWire = true := by kernel_rfl

def c_laws_toIntA2 : F2 :=
  { nt := 15, res := [.c 2 (some 2) [0, 0]], body :=
   (.sq (rg [oo 1 (.bt (.t 0)),
 oo 2 (.al [.int .i64 0, .int .i64 0] [])])
 (.sq (rg [oo 3 (.al [.int .i64 0, .int .i64 0] [])])
 (.sq (.sq (rg [om 4 (i6 0)])
 (.bl 0 (.lp [1, 2, 3, 4] [64, 96] (.sq (.sq (rg [om 5 (.t 4),
 oo 6 (.bi .lss 0 (.t 5) (i6 2))])
 (.cd (.t 6) (.sk)
 (.ex 0)))
 (.sq (.bl 1 (rg [om 9 (.t 4),
 om 10 (.t 4),
 oo 11 (.ja 1 2 (.t 1) (.t 10)),
 oo 12 (.ld none (.t 11)),
 oo 13 (.ja 1 2 (.t 3) (.t 9)),
 on1 (.st 1 (.t 13) (.t 12))]))
 (rg [om 7 (.t 4),
 oo 8 (.bi .add 0 (.t 7) (i6 1)),
 om 4 (.t 8)]))))))
 (.sq (rg [oo 14 (.ld (some 2) (.t 3)),
 on1 (.st 2 (.t 2) (.t 14))])
 (.rt))))) }
theorem k_laws_toIntA2 : chkF Go.Proofs.Tryz.prog fid_laws_toIntA2 c_laws_toIntA2 = true := by kernel_rfl

def c_laws_toNode : F2 :=
  { nt := 15, res := [.c 2 (some 3) [0, 0, 2]], body :=
   (.sq (rg [oo 1 (.bt (.t 0)),
 oo 2 (.al [.int .i64 0, .int .i64 0, .slice none 0 0] [])])
 (.sq (rg [oo 3 (.al [.int .i64 0, .int .i64 0, .slice none 0 0] [])])
 (.sq (rg [oo 4 (.fa 0 (.t 1)),
 oo 5 (.ld none (.t 4)),
 oo 6 (.fa 0 (.t 3)),
 on1 (.st 1 (.t 6) (.t 5))])
 (.sq (rg [oo 7 (.fa 1 (.t 1)),
 oo 8 (.ld none (.t 7)),
 oo 9 (.fa 1 (.t 3)),
 on1 (.st 1 (.t 9) (.t 8))])
 (.sq (rg [oo 10 (.fa 2 (.t 1)),
 oo 11 (.ld none (.t 10)),
 oo 12 (.ca .pure true (.f fid_laws_toIntS) [.t 11]),
 oo 13 (.fa 2 (.t 3)),
 on1 (.st 1 (.t 13) (.t 12))])
 (.sq (rg [oo 14 (.ld (some 3) (.t 3)),
 on1 (.st 3 (.t 2) (.t 14))])
 (.rt))))))) }
theorem k_laws_toNode : chkF Go.Proofs.Tryz.prog fid_laws_toNode c_laws_toNode = true := by kernel_rfl

def c_laws_toWire : F2 :=
  { nt := 11, res := [.c 2 (some 2) [0, 0]], body :=
   (.sq (rg [oo 1 (.bt (.t 0)),
 oo 2 (.al [.string ⟨#[]⟩, .int .i64 0] [])])
 (.sq (rg [oo 3 (.al [.string ⟨#[]⟩, .int .i64 0] [])])
 (.sq (rg [oo 4 (.fa 0 (.t 1)),
 oo 5 (.ld none (.t 4)),
 oo 6 (.fa 0 (.t 3)),
 on1 (.st 1 (.t 6) (.t 5))])
 (.sq (rg [oo 7 (.fa 1 (.t 1)),
 oo 8 (.ld none (.t 7)),
 oo 9 (.fa 1 (.t 3)),
 on1 (.st 1 (.t 9) (.t 8))])
 (.sq (rg [oo 10 (.ld (some 2) (.t 3)),
 on1 (.st 2 (.t 2) (.t 10))])
 (.rt)))))) }
theorem k_laws_toWire : chkF Go.Proofs.Tryz.prog fid_laws_toWire c_laws_toWire = true := by kernel_rfl

def c_laws_eqIntA2 : F2 :=
  { nt := 17, res := [.t 4 [0]], body :=
   (.sq (rg [oo 2 (.bt (.t 0)),
 oo 3 (.bt (.t 1)),
 om 4 (.k (.bool false))])
 (.sq (.sq (rg [om 5 (i6 0)])
 (.bl 0 (.lp [2, 3, 5] [] (.sq (.sq (rg [om 6 (.t 5),
 oo 7 (.bi .lss 0 (.t 6) (i6 2))])
 (.cd (.t 7) (.sk)
 (.ex 0)))
 (.sq (.bl 1 (.sq (.rg (some 0) [om 10 (.t 5),
 oo 11 (.ja 1 2 (.t 2) (.t 10)),
 oo 12 (.ld none (.t 11)),
 om 13 (.t 5),
 oo 14 (.ja 1 2 (.t 3) (.t 13)),
 oo 15 (.ld none (.t 14)),
 oo 16 (.bi .neq 0 (.t 12) (.t 15))])
 (.cd (.t 16) (.sq (rg [om 4 (.k (.bool false))])
 (.rt))
 (.sk))))
 (rg [om 8 (.t 5),
 oo 9 (.bi .add 0 (.t 8) (i6 1)),
 om 5 (.t 9)]))))))
 (.sq (rg [om 4 (.k (.bool true))])
 (.rt)))) }
theorem k_laws_eqIntA2 : chkF Go.Proofs.Tryz.prog fid_laws_eqIntA2 c_laws_eqIntA2 = true := by kernel_rfl

def c_laws_eqNode : F2 :=
  { nt := 21, res := [.t 4 [0]], body :=
   (.sq (rg [oo 2 (.bt (.t 0)),
 oo 3 (.bt (.t 1)),
 om 4 (.k (.bool false))])
 (.sq (.sq (rg [oo 5 (.fa 0 (.t 2)),
 oo 6 (.ld none (.t 5)),
 oo 7 (.fa 0 (.t 3)),
 oo 8 (.ld none (.t 7)),
 oo 9 (.bi .neq 0 (.t 6) (.t 8))])
 (.cd (.t 9) (.sq (rg [om 4 (.k (.bool false))])
 (.rt))
 (.sk)))
 (.sq (.sq (rg [oo 10 (.fa 1 (.t 2)),
 oo 11 (.ld none (.t 10)),
 oo 12 (.fa 1 (.t 3)),
 oo 13 (.ld none (.t 12)),
 oo 14 (.bi .neq 0 (.t 11) (.t 13))])
 (.cd (.t 14) (.sq (rg [om 4 (.k (.bool false))])
 (.rt))
 (.sk)))
 (.sq (.sq (rg [oo 15 (.fa 2 (.t 2)),
 oo 16 (.ld none (.t 15)),
 oo 17 (.fa 2 (.t 3)),
 oo 18 (.ld none (.t 17)),
 oo 19 (.ca .pure false (.f fid_laws_eqIntS) [.t 16, .t 18]),
 oo 20 (.nt (.t 19))])
 (.cd (.t 20) (.sq (rg [om 4 (.k (.bool false))])
 (.rt))
 (.sk)))
 (.sq (rg [om 4 (.k (.bool true))])
 (.rt)))))) }
theorem k_laws_eqNode : chkF Go.Proofs.Tryz.prog fid_laws_eqNode c_laws_eqNode = true := by kernel_rfl

def c_laws_eqWire : F2 :=
  { nt := 15, res := [.t 4 [0]], body :=
   (.sq (rg [oo 2 (.bt (.t 0)),
 oo 3 (.bt (.t 1)),
 om 4 (.k (.bool false))])
 (.sq (.sq (rg [oo 5 (.fa 0 (.t 2)),
 oo 6 (.ld none (.t 5)),
 oo 7 (.fa 0 (.t 3)),
 oo 8 (.ld none (.t 7)),
 oo 9 (.bi .neq 0 (.t 6) (.t 8))])
 (.cd (.t 9) (.sq (rg [om 4 (.k (.bool false))])
 (.rt))
 (.sk)))
 (.sq (.sq (rg [oo 10 (.fa 1 (.t 2)),
 oo 11 (.ld none (.t 10)),
 oo 12 (.fa 1 (.t 3)),
 oo 13 (.ld none (.t 12)),
 oo 14 (.bi .neq 0 (.t 11) (.t 13))])
 (.cd (.t 14) (.sq (rg [om 4 (.k (.bool false))])
 (.rt))
 (.sk)))
 (.sq (rg [om 4 (.k (.bool true))])
 (.rt))))) }
theorem k_laws_eqWire : chkF Go.Proofs.Tryz.prog fid_laws_eqWire c_laws_eqWire = true := by kernel_rfl

end Go.Fd

/-
  SMALL WORDS FOR MARKS. Own work.
-/
namespace Go.Fd
theorem cut_mL {α : Type} {c : α → List Tr} {m : α → Int → α} {n : α → Nat} {a : List α} {k : Int} : cut ((mL m n a k).map c) 0 a.length = (mL m n a k).map c := by
  simp only [cut, List.drop_zero]
  exact List.take_of_length_le (by rw [List.length_map, mL_length]; exact Nat.le_refl _)
theorem cut_map {α : Type} {c : α → List Tr} {a : List α} : cut (a.map c) 0 a.length = a.map c := by
  simp only [cut, List.drop_zero]
  exact List.take_of_length_le (by rw [List.length_map]; exact Nat.le_refl _)
end Go.Fd

/-
  MARKING STRUCTS; WHETHER MARKS ARE HELD (printed by lawgen.py). Own work.
-/
namespace Go.Fd
set_option maxRecDepth 20000
end Go.Fd

/-
  HOW MANY MARKS A THING TAKES, AGAINST ITS SIZE (printed by lawgen.py). Own work.
-/
namespace Go.Fd
end Go.Fd

/-
  WHAT HOLDS OF THE HELPERS OF THE LAWS (printed by lawgen.py). Own work.
-/
namespace Go.Fd
set_option maxRecDepth 20000
theorem szN_le {n : Nat} {l : Int} (h : 0 ≤ l) : szN n l ≤ l := by unfold szN; split <;> omega
theorem szF_le {α : Type} {f : α → Int → Int} : ∀ (a : List α) (l : Int), (∀ x ∈ a, ∀ l : Int, 0 ≤ l → l ≤ 1048576 → f x l ≤ l) → 0 ≤ l → l ≤ 1048576 → szF f a l ≤ l
  | [], l, _, _, _ => Int.le_refl l
  | x :: r, l, hf, h0, h1 => by
    simp only [szF]
    have := hf x (by simp) l h0 h1
    split
    · omega
    · have h2 := szF_le r (f x l) (fun y hy => hf y (by simp [hy])) (by omega) (by omega)
      omega
theorem szL_le {α : Type} {f : α → Int → Int} (a : List α) {l : Int} (hf : ∀ x ∈ a, ∀ l : Int, 0 ≤ l → l ≤ 1048576 → f x l ≤ l) (h0 : 0 ≤ l) (h1 : l ≤ 1048576) : szL f a l ≤ l := by
  unfold szL
  split
  · omega
  · have := szF_le a (l - a.length) hf (by omega) (by omega)
    omega
theorem szTh_le {l m : Int} {g : Int → Int} (h0 : 0 ≤ l) (h : m ≤ l) (hg : 0 ≤ m → g m ≤ m) : szTh m g ≤ l := by
  unfold szTh
  split
  · omega
  · have := hg (by omega)
    omega
theorem g_szIntS : chkF Go.Proofs.Tryz.prog fid_laws_szIntS sz0 = true := by kernel_rfl
theorem sem_szIntS (a : List Int) (hl : a.length ≤ 9223372036854775807) (l : Int) (h0 : 0 ≤ l) (h1 : l ≤ 1048576) : szN a.length l ≤ l ∧ ∀ lvl S, Sem Go.Proofs.Tryz.prog fid_laws_szIntS lvl [.tr (.sl (rI a)), iI l] S (iI (szN a.length l)) S := by
  refine ⟨szN_le h0, fun lvl S => ?_⟩
  have := sem_sz0 g_szIntS (rI a) l (by simpa using hl) h0 h1 lvl S
  simpa using this
theorem sem_szNode (x : TNode) (hb : bdNode 9223372036854775807 x) (l : Int) (h0 : 0 ≤ l) (h1 : l ≤ 1048576) : szNode x l ≤ l ∧ ∀ lvl S, Sem Go.Proofs.Tryz.prog fid_laws_szNode lvl [.ag ((cNode x).map .tr), iI l] S (iI (szNode x l)) S := by
  have b0 : x.links.length ≤ 9223372036854775807 := hb
  refine ⟨?_, fun lvl S => ?_⟩
  · unfold szNode
    have q0 := sem_szIntS x.links b0 _ h0 h1
    refine szTh_le h0 q0.1 (fun p0 => ?_)
    have r0 : _ ≤ (1048576 : Int) := Int.le_trans q0.1 h1
    exact Int.le_refl _
  · refine sem_of_chk k_laws_szNode trivial ?_
    simp only [c_laws_szNode, cNode, List.map_cons, List.map_nil, EVA, ↓reduceIte, Nat.reduceEqDiff, Nat.reduceMul, reduceCtorEq, Nat.reduceAdd, Nat.reduceSub, Nat.reduceLeDiff, Nat.reduceLT, Int.reduceToNat, Int.reduceLE, Int.reduceLT, mens, men]
    unfold szNode
    have q0 := sem_szIntS x.links b0 l h0 h1
    refine kca_intro q0.2 ?_
    simp only [EVA, ↓reduceIte, Nat.reduceEqDiff, Nat.reduceMul, reduceCtorEq, Nat.reduceAdd, Nat.reduceSub, Nat.reduceLeDiff, Nat.reduceLT, Int.reduceToNat, Int.reduceLE, Int.reduceLT, mens, men]
    obtain ⟨l1, hl1⟩ : ∃ m : Int, m = (szN x.links.length l) := ⟨_, rfl⟩
    have u1 : l1 ≤ l := by rw [hl1]; exact q0.1
    rw [← hl1]
    split
    · rename_i hn; rw [szTh, if_pos hn]
    rename_i hn0
    rw [szTh, if_neg hn0]
theorem g_szNodeS : chkF Go.Proofs.Tryz.prog fid_laws_szNodeS (szSl 3 (some 3) fid_laws_szNode) = true := by kernel_rfl
theorem sem_szNodeS (a : List TNode) (hl : a.length ≤ 9223372036854775807) (hb : ∀ y ∈ a, bdNode 9223372036854775807 y) (l : Int) (h0 : 0 ≤ l) (h1 : l ≤ 1048576) : szL szNode a l ≤ l ∧ ∀ lvl S, Sem Go.Proofs.Tryz.prog fid_laws_szNodeS lvl [.tr (.sl (a.map cNode)), iI l] S (iI (szL szNode a l)) S :=
  ⟨szL_le a (fun x hx l h0 h1 => (sem_szNode x (hb x hx) l h0 h1).1) h0 h1, fun lvl S => sem_szSl g_szNodeS cNode szNode cNode_len a l hl h0 h1 (fun x hx l h0 h1 => sem_szNode x (hb x hx) l h0 h1) lvl S⟩
theorem sem_szWire (x : TWire) (hb : bdWire 9223372036854775807 x) (l : Int) (h0 : 0 ≤ l) (h1 : l ≤ 1048576) : szWire x l ≤ l ∧ ∀ lvl S, Sem Go.Proofs.Tryz.prog fid_laws_szWire lvl [.ag ((cWire x).map .tr), iI l] S (iI (szWire x l)) S := by
  have b0 : x.name.size ≤ 9223372036854775807 := hb
  refine ⟨?_, fun lvl S => ?_⟩
  · unfold szWire
    refine szTh_le h0 (m := l - x.name.size) (by omega) (fun p0 => ?_)
    have r0 : _ ≤ (1048576 : Int) := Int.le_trans (show l - x.name.size ≤ l by omega) h1
    exact Int.le_refl _
  · refine sem_of_chk k_laws_szWire trivial ?_
    simp only [c_laws_szWire, cWire, List.map_cons, List.map_nil, EVA, ↓reduceIte, Nat.reduceEqDiff, Nat.reduceMul, reduceCtorEq, Nat.reduceAdd, Nat.reduceSub, Nat.reduceLeDiff, Nat.reduceLT, Int.reduceToNat, Int.reduceLE, Int.reduceLT, mens, men]
    unfold szWire
    refine ⟨by rw [fits_i64]; omega, ?_⟩
    obtain ⟨l1, hl1⟩ : ∃ m : Int, m = l - x.name.size := ⟨_, rfl⟩
    have u1 : l1 ≤ l := by omega
    rw [← hl1]
    split
    · rename_i hn; rw [szTh, if_pos hn]
    rename_i hn0
    rw [szTh, if_neg hn0]
theorem g_szWireS : chkF Go.Proofs.Tryz.prog fid_laws_szWireS (szSl 2 (some 2) fid_laws_szWire) = true := by kernel_rfl
theorem sem_szWireS (a : List TWire) (hl : a.length ≤ 9223372036854775807) (hb : ∀ y ∈ a, bdWire 9223372036854775807 y) (l : Int) (h0 : 0 ≤ l) (h1 : l ≤ 1048576) : szL szWire a l ≤ l ∧ ∀ lvl S, Sem Go.Proofs.Tryz.prog fid_laws_szWireS lvl [.tr (.sl (a.map cWire)), iI l] S (iI (szL szWire a l)) S :=
  ⟨szL_le a (fun x hx l h0 h1 => (sem_szWire x (hb x hx) l h0 h1).1) h0 h1, fun lvl S => sem_szSl g_szWireS cWire szWire cWire_len a l hl h0 h1 (fun x hx l h0 h1 => sem_szWire x (hb x hx) l h0 h1) lvl S⟩
theorem g_szStringS : chkF Go.Proofs.Tryz.prog fid_laws_szStringS szSt = true := by kernel_rfl
theorem sem_szStringS (a : List ByteArray) (hl : a.length ≤ 9223372036854775807) (hb : ∀ y ∈ a, y.size ≤ 9223372036854775807) (l : Int) (h0 : 0 ≤ l) (h1 : l ≤ 1048576) : szL (fun x m => m - x.size) a l ≤ l ∧ ∀ lvl S, Sem Go.Proofs.Tryz.prog fid_laws_szStringS lvl [tS a, iI l] S (iI (szL (fun x m => m - x.size) a l)) S :=
  ⟨szL_le a (fun x _ l _ _ => by omega) h0 h1, fun lvl S => sem_szSt g_szStringS a l hl h0 h1 hb lvl S⟩
theorem sem_szBigraph (x : TBigraph) (hb : bdBigraph 9223372036854775807 x) (l : Int) (h0 : 0 ≤ l) (h1 : l ≤ 1048576) : szBigraph x l ≤ l ∧ ∀ lvl S, Sem Go.Proofs.Tryz.prog fid_laws_szBigraph lvl [.ag ((cBigraph x).map .tr), iI l] S (iI (szBigraph x l)) S := by
  obtain ⟨b0, b1, b2, b3, b4, b5, b6⟩ := hb
  refine ⟨?_, fun lvl S => ?_⟩
  · unfold szBigraph
    have q0 := sem_szNodeS x.nodes b0 b1 _ h0 h1
    refine szTh_le h0 q0.1 (fun p0 => ?_)
    have r0 : _ ≤ (1048576 : Int) := Int.le_trans q0.1 h1
    have q1 := sem_szIntS x.sites b2 _ p0 r0
    refine szTh_le p0 q1.1 (fun p1 => ?_)
    have r1 : _ ≤ (1048576 : Int) := Int.le_trans q1.1 r0
    have q2 := sem_szStringS x.outer b3 b4 _ p1 r1
    refine szTh_le p1 q2.1 (fun p2 => ?_)
    have r2 : _ ≤ (1048576 : Int) := Int.le_trans q2.1 r1
    have q3 := sem_szWireS x.inner b5 b6 _ p2 r2
    refine szTh_le p2 q3.1 (fun p3 => ?_)
    have r3 : _ ≤ (1048576 : Int) := Int.le_trans q3.1 r2
    exact Int.le_refl _
  · refine sem_of_chk k_laws_szBigraph trivial ?_
    simp only [c_laws_szBigraph, cBigraph, List.map_cons, List.map_nil, EVA, ↓reduceIte, Nat.reduceEqDiff, Nat.reduceMul, reduceCtorEq, Nat.reduceAdd, Nat.reduceSub, Nat.reduceLeDiff, Nat.reduceLT, Int.reduceToNat, Int.reduceLE, Int.reduceLT, mens, men]
    unfold szBigraph
    have q0 := sem_szNodeS x.nodes b0 b1 l h0 h1
    refine kca_intro q0.2 ?_
    simp only [EVA, ↓reduceIte, Nat.reduceEqDiff, Nat.reduceMul, reduceCtorEq, Nat.reduceAdd, Nat.reduceSub, Nat.reduceLeDiff, Nat.reduceLT, Int.reduceToNat, Int.reduceLE, Int.reduceLT, mens, men]
    obtain ⟨l1, hl1⟩ : ∃ m : Int, m = (szL szNode x.nodes l) := ⟨_, rfl⟩
    have u1 : l1 ≤ l := by rw [hl1]; exact q0.1
    rw [← hl1]
    split
    · rename_i hn; rw [szTh, if_pos hn]
    rename_i hn0
    rw [szTh, if_neg hn0]
    have q1 := sem_szIntS x.sites b2 l1 (show 0 ≤ l1 by omega) (show l1 ≤ 1048576 by omega)
    refine kca_intro q1.2 ?_
    simp only [EVA, ↓reduceIte, Nat.reduceEqDiff, Nat.reduceMul, reduceCtorEq, Nat.reduceAdd, Nat.reduceSub, Nat.reduceLeDiff, Nat.reduceLT, Int.reduceToNat, Int.reduceLE, Int.reduceLT, mens, men]
    obtain ⟨l2, hl2⟩ : ∃ m : Int, m = (szN x.sites.length l1) := ⟨_, rfl⟩
    have u2 : l2 ≤ l1 := by rw [hl2]; exact q1.1
    rw [← hl2]
    split
    · rename_i hn; rw [szTh, if_pos hn]
    rename_i hn1
    rw [szTh, if_neg hn1]
    have q2 := sem_szStringS x.outer b3 b4 l2 (show 0 ≤ l2 by omega) (show l2 ≤ 1048576 by omega)
    refine kca_intro q2.2 ?_
    simp only [EVA, ↓reduceIte, Nat.reduceEqDiff, Nat.reduceMul, reduceCtorEq, Nat.reduceAdd, Nat.reduceSub, Nat.reduceLeDiff, Nat.reduceLT, Int.reduceToNat, Int.reduceLE, Int.reduceLT, mens, men]
    obtain ⟨l3, hl3⟩ : ∃ m : Int, m = (szL (fun x m => m - x.size) x.outer l2) := ⟨_, rfl⟩
    have u3 : l3 ≤ l2 := by rw [hl3]; exact q2.1
    rw [← hl3]
    split
    · rename_i hn; rw [szTh, if_pos hn]
    rename_i hn2
    rw [szTh, if_neg hn2]
    have q3 := sem_szWireS x.inner b5 b6 l3 (show 0 ≤ l3 by omega) (show l3 ≤ 1048576 by omega)
    refine kca_intro q3.2 ?_
    simp only [EVA, ↓reduceIte, Nat.reduceEqDiff, Nat.reduceMul, reduceCtorEq, Nat.reduceAdd, Nat.reduceSub, Nat.reduceLeDiff, Nat.reduceLT, Int.reduceToNat, Int.reduceLE, Int.reduceLT, mens, men]
    obtain ⟨l4, hl4⟩ : ∃ m : Int, m = (szL szWire x.inner l3) := ⟨_, rfl⟩
    have u4 : l4 ≤ l3 := by rw [hl4]; exact q3.1
    rw [← hl4]
    split
    · rename_i hn; rw [szTh, if_pos hn]
    rename_i hn3
    rw [szTh, if_neg hn3]
theorem g_szIntSS : chkF Go.Proofs.Tryz.prog fid_laws_szIntSS (szSl 1 none fid_laws_szIntS) = true := by kernel_rfl
theorem sem_szIntSS (a : (List (List Int))) (hl : a.length ≤ 9223372036854775807) (hb : ∀ y ∈ a, y.length ≤ 9223372036854775807) (l : Int) (h0 : 0 ≤ l) (h1 : l ≤ 1048576) : szL (fun x m => (szN x.length m)) a l ≤ l ∧ ∀ lvl S, Sem Go.Proofs.Tryz.prog fid_laws_szIntSS lvl [.tr (.sl (a.map (fun l => [Tr.sl (rI l)]))), iI l] S (iI (szL (fun x m => (szN x.length m)) a l)) S :=
  ⟨szL_le a (fun x hx l h0 h1 => (sem_szIntS x (hb x hx) l h0 h1).1) h0 h1, fun lvl S => sem_szS1 g_szIntSS (fun l => Tr.sl (rI l)) (fun x m => (szN x.length m)) a l hl h0 h1 (fun x hx l h0 h1 => sem_szIntS x (hb x hx) l h0 h1) lvl S⟩
theorem g_szIntA2S : chkF Go.Proofs.Tryz.prog fid_laws_szIntA2S sz0 = true := by kernel_rfl
theorem sem_szIntA2S (a : List (Int × Int)) (hl : a.length ≤ 9223372036854775807) (l : Int) (h0 : 0 ≤ l) (h1 : l ≤ 1048576) : szN a.length l ≤ l ∧ ∀ lvl S, Sem Go.Proofs.Tryz.prog fid_laws_szIntA2S lvl [.tr (.sl (a.map cA2)), iI l] S (iI (szN a.length l)) S := by
  refine ⟨szN_le h0, fun lvl S => ?_⟩
  have := sem_sz0 g_szIntA2S (a.map cA2) l (by simpa using hl) h0 h1 lvl S
  simpa using this
theorem sem_szSorting (x : TSorting) (hb : bdSorting 9223372036854775807 x) (l : Int) (h0 : 0 ≤ l) (h1 : l ≤ 1048576) : szSorting x l ≤ l ∧ ∀ lvl S, Sem Go.Proofs.Tryz.prog fid_laws_szSorting lvl [.ag ((cSorting x).map .tr), iI l] S (iI (szSorting x l)) S := by
  obtain ⟨b0, b1, b2, b3, b4, b5, b6⟩ := hb
  refine ⟨?_, fun lvl S => ?_⟩
  · unfold szSorting
    have q0 := sem_szIntS x.tops b0 _ h0 h1
    refine szTh_le h0 q0.1 (fun p0 => ?_)
    have r0 : _ ≤ (1048576 : Int) := Int.le_trans q0.1 h1
    have q1 := sem_szIntSS x.nest b1 b2 _ p0 r0
    refine szTh_le p0 q1.1 (fun p1 => ?_)
    have r1 : _ ≤ (1048576 : Int) := Int.le_trans q1.1 r0
    have q2 := sem_szIntSS x.sorts b3 b4 _ p1 r1
    refine szTh_le p1 q2.1 (fun p2 => ?_)
    have r2 : _ ≤ (1048576 : Int) := Int.le_trans q2.1 r1
    have q3 := sem_szIntS x.most b5 _ p2 r2
    refine szTh_le p2 q3.1 (fun p3 => ?_)
    have r3 : _ ≤ (1048576 : Int) := Int.le_trans q3.1 r2
    have q4 := sem_szIntA2S x.apart b6 _ p3 r3
    refine szTh_le p3 q4.1 (fun p4 => ?_)
    have r4 : _ ≤ (1048576 : Int) := Int.le_trans q4.1 r3
    exact Int.le_refl _
  · refine sem_of_chk k_laws_szSorting trivial ?_
    simp only [c_laws_szSorting, cSorting, List.map_cons, List.map_nil, EVA, ↓reduceIte, Nat.reduceEqDiff, Nat.reduceMul, reduceCtorEq, Nat.reduceAdd, Nat.reduceSub, Nat.reduceLeDiff, Nat.reduceLT, Int.reduceToNat, Int.reduceLE, Int.reduceLT, mens, men]
    unfold szSorting
    have q0 := sem_szIntS x.tops b0 l h0 h1
    refine kca_intro q0.2 ?_
    simp only [EVA, ↓reduceIte, Nat.reduceEqDiff, Nat.reduceMul, reduceCtorEq, Nat.reduceAdd, Nat.reduceSub, Nat.reduceLeDiff, Nat.reduceLT, Int.reduceToNat, Int.reduceLE, Int.reduceLT, mens, men]
    obtain ⟨l1, hl1⟩ : ∃ m : Int, m = (szN x.tops.length l) := ⟨_, rfl⟩
    have u1 : l1 ≤ l := by rw [hl1]; exact q0.1
    rw [← hl1]
    split
    · rename_i hn; rw [szTh, if_pos hn]
    rename_i hn0
    rw [szTh, if_neg hn0]
    have q1 := sem_szIntSS x.nest b1 b2 l1 (show 0 ≤ l1 by omega) (show l1 ≤ 1048576 by omega)
    refine kca_intro q1.2 ?_
    simp only [EVA, ↓reduceIte, Nat.reduceEqDiff, Nat.reduceMul, reduceCtorEq, Nat.reduceAdd, Nat.reduceSub, Nat.reduceLeDiff, Nat.reduceLT, Int.reduceToNat, Int.reduceLE, Int.reduceLT, mens, men]
    obtain ⟨l2, hl2⟩ : ∃ m : Int, m = (szL (fun x m => (szN x.length m)) x.nest l1) := ⟨_, rfl⟩
    have u2 : l2 ≤ l1 := by rw [hl2]; exact q1.1
    rw [← hl2]
    split
    · rename_i hn; rw [szTh, if_pos hn]
    rename_i hn1
    rw [szTh, if_neg hn1]
    have q2 := sem_szIntSS x.sorts b3 b4 l2 (show 0 ≤ l2 by omega) (show l2 ≤ 1048576 by omega)
    refine kca_intro q2.2 ?_
    simp only [EVA, ↓reduceIte, Nat.reduceEqDiff, Nat.reduceMul, reduceCtorEq, Nat.reduceAdd, Nat.reduceSub, Nat.reduceLeDiff, Nat.reduceLT, Int.reduceToNat, Int.reduceLE, Int.reduceLT, mens, men]
    obtain ⟨l3, hl3⟩ : ∃ m : Int, m = (szL (fun x m => (szN x.length m)) x.sorts l2) := ⟨_, rfl⟩
    have u3 : l3 ≤ l2 := by rw [hl3]; exact q2.1
    rw [← hl3]
    split
    · rename_i hn; rw [szTh, if_pos hn]
    rename_i hn2
    rw [szTh, if_neg hn2]
    have q3 := sem_szIntS x.most b5 l3 (show 0 ≤ l3 by omega) (show l3 ≤ 1048576 by omega)
    refine kca_intro q3.2 ?_
    simp only [EVA, ↓reduceIte, Nat.reduceEqDiff, Nat.reduceMul, reduceCtorEq, Nat.reduceAdd, Nat.reduceSub, Nat.reduceLeDiff, Nat.reduceLT, Int.reduceToNat, Int.reduceLE, Int.reduceLT, mens, men]
    obtain ⟨l4, hl4⟩ : ∃ m : Int, m = (szN x.most.length l3) := ⟨_, rfl⟩
    have u4 : l4 ≤ l3 := by rw [hl4]; exact q3.1
    rw [← hl4]
    split
    · rename_i hn; rw [szTh, if_pos hn]
    rename_i hn3
    rw [szTh, if_neg hn3]
    have q4 := sem_szIntA2S x.apart b6 l4 (show 0 ≤ l4 by omega) (show l4 ≤ 1048576 by omega)
    refine kca_intro q4.2 ?_
    simp only [EVA, ↓reduceIte, Nat.reduceEqDiff, Nat.reduceMul, reduceCtorEq, Nat.reduceAdd, Nat.reduceSub, Nat.reduceLeDiff, Nat.reduceLT, Int.reduceToNat, Int.reduceLE, Int.reduceLT, mens, men]
    obtain ⟨l5, hl5⟩ : ∃ m : Int, m = (szN x.apart.length l4) := ⟨_, rfl⟩
    have u5 : l5 ≤ l4 := by rw [hl5]; exact q4.1
    rw [← hl5]
    split
    · rename_i hn; rw [szTh, if_pos hn]
    rename_i hn4
    rw [szTh, if_neg hn4]
theorem sem_szControl (x : TControl) (hb : bdControl 9223372036854775807 x) (l : Int) (h0 : 0 ≤ l) (h1 : l ≤ 1048576) : szControl x l ≤ l ∧ ∀ lvl S, Sem Go.Proofs.Tryz.prog fid_laws_szControl lvl [.ag ((cControl x).map .tr), iI l] S (iI (szControl x l)) S := by
  have b0 : x.name.size ≤ 9223372036854775807 := hb
  refine ⟨?_, fun lvl S => ?_⟩
  · unfold szControl
    refine szTh_le h0 (m := l - x.name.size) (by omega) (fun p0 => ?_)
    have r0 : _ ≤ (1048576 : Int) := Int.le_trans (show l - x.name.size ≤ l by omega) h1
    exact Int.le_refl _
  · refine sem_of_chk k_laws_szControl trivial ?_
    simp only [c_laws_szControl, cControl, List.map_cons, List.map_nil, EVA, ↓reduceIte, Nat.reduceEqDiff, Nat.reduceMul, reduceCtorEq, Nat.reduceAdd, Nat.reduceSub, Nat.reduceLeDiff, Nat.reduceLT, Int.reduceToNat, Int.reduceLE, Int.reduceLT, mens, men]
    unfold szControl
    refine ⟨by rw [fits_i64]; omega, ?_⟩
    obtain ⟨l1, hl1⟩ : ∃ m : Int, m = l - x.name.size := ⟨_, rfl⟩
    have u1 : l1 ≤ l := by omega
    rw [← hl1]
    split
    · rename_i hn; rw [szTh, if_pos hn]
    rename_i hn0
    rw [szTh, if_neg hn0]
theorem g_szControlS : chkF Go.Proofs.Tryz.prog fid_laws_szControlS (szSl 3 (some 3) fid_laws_szControl) = true := by kernel_rfl
theorem sem_szControlS (a : List TControl) (hl : a.length ≤ 9223372036854775807) (hb : ∀ y ∈ a, bdControl 9223372036854775807 y) (l : Int) (h0 : 0 ≤ l) (h1 : l ≤ 1048576) : szL szControl a l ≤ l ∧ ∀ lvl S, Sem Go.Proofs.Tryz.prog fid_laws_szControlS lvl [.tr (.sl (a.map cControl)), iI l] S (iI (szL szControl a l)) S :=
  ⟨szL_le a (fun x hx l h0 h1 => (sem_szControl x (hb x hx) l h0 h1).1) h0 h1, fun lvl S => sem_szSl g_szControlS cControl szControl cControl_len a l hl h0 h1 (fun x hx l h0 h1 => sem_szControl x (hb x hx) l h0 h1) lvl S⟩
end Go.Fd

/-
  WHAT HOLDS OF THE HELPERS OF THE LAWS: eq.. (printed by lawgen.py). Own work.
-/
namespace Go.Fd
set_option maxRecDepth 20000
theorem g_eqIntS : chkF Go.Proofs.Tryz.prog fid_laws_eqIntS eqS1 = true := by kernel_rfl
theorem sem_eqIntS (a b : (List Int)) (ha : a.length ≤ 9223372036854775807) (lvl : Nat) (S : Sto) : Sem Go.Proofs.Tryz.prog fid_laws_eqIntS lvl [.tr (.sl (rI a)), .tr (.sl (rI b))] S (iB (decide (a = b))) S := sem_eqI g_eqIntS a b ha lvl S
theorem sem_eqNode (x y : TNode) (hb : bdNode 9223372036854775807 x) (lvl : Nat) (S : Sto) : Sem Go.Proofs.Tryz.prog fid_laws_eqNode lvl [.ag ((cNode x).map .tr), .ag ((cNode y).map .tr)] S (iB (decide (x = y))) S := by
  have b0 : x.links.length ≤ 9223372036854775807 := hb
  refine sem_of_chk k_laws_eqNode trivial ?_
  simp only [c_laws_eqNode, cNode, List.map_cons, List.map_nil, EVA, ↓reduceIte, Nat.reduceEqDiff, Nat.reduceMul, reduceCtorEq, Nat.reduceAdd, Nat.reduceSub, Nat.reduceLeDiff, Nat.reduceLT, Int.reduceToNat, Int.reduceLE, Int.reduceLT, mens, men]
  refine ite_of (fun hne => ?_) (fun heq0 => ?_)
  · have : ¬ x = y := fun e => (by rw [e] at hne; simp at hne)
    simp [this]
  refine ite_of (fun hne => ?_) (fun heq1 => ?_)
  · have : ¬ x = y := fun e => (by rw [e] at hne; simp at hne)
    simp [this]
  refine kca_intro (sem_eqIntS x.links y.links b0) ?_
  simp only [Bool.not_eq_true', EVA, ↓reduceIte, Nat.reduceEqDiff, Nat.reduceMul, reduceCtorEq, Nat.reduceAdd, Nat.reduceSub, Nat.reduceLeDiff, Nat.reduceLT, Int.reduceToNat, Int.reduceLE, Int.reduceLT, mens, men]
  refine ite_of (fun hne => ?_) (fun heq2 => ?_)
  · have : ¬ x = y := fun e => (by rw [e] at hne; simp at hne)
    simp [this]
  have : x = y := by
    cases x; cases y; simp_all
  simp [this]
theorem g_eqNodeS : chkF Go.Proofs.Tryz.prog fid_laws_eqNodeS (eqSl 3 (some 3) fid_laws_eqNode) = true := by kernel_rfl
theorem sem_eqNodeS (a b : (List TNode)) (ha : a.length ≤ 9223372036854775807) (ha2 : ∀ y ∈ a, bdNode 9223372036854775807 y) (lvl : Nat) (S : Sto) : Sem Go.Proofs.Tryz.prog fid_laws_eqNodeS lvl [.tr (.sl (a.map cNode)), .tr (.sl (b.map cNode))] S (iB (decide (a = b))) S :=
  sem_eqSl g_eqNodeS cNode (fun _ => rfl) a b ha (fun x hx y _ lvl S => sem_eqNode x y (ha2 x hx) lvl S) lvl S
theorem sem_eqWire (x y : TWire) (hb : bdWire 9223372036854775807 x) (lvl : Nat) (S : Sto) : Sem Go.Proofs.Tryz.prog fid_laws_eqWire lvl [.ag ((cWire x).map .tr), .ag ((cWire y).map .tr)] S (iB (decide (x = y))) S := by
  have b0 : x.name.size ≤ 9223372036854775807 := hb
  refine sem_of_chk k_laws_eqWire trivial ?_
  simp only [c_laws_eqWire, cWire, List.map_cons, List.map_nil, EVA, ↓reduceIte, Nat.reduceEqDiff, Nat.reduceMul, reduceCtorEq, Nat.reduceAdd, Nat.reduceSub, Nat.reduceLeDiff, Nat.reduceLT, Int.reduceToNat, Int.reduceLE, Int.reduceLT, mens, men]
  refine ite_of (fun hne => ?_) (fun heq0 => ?_)
  · have : ¬ x = y := fun e => (by rw [e] at hne; simp at hne)
    simp [this]
  refine ite_of (fun hne => ?_) (fun heq1 => ?_)
  · have : ¬ x = y := fun e => (by rw [e] at hne; simp at hne)
    simp [this]
  have : x = y := by
    cases x; cases y; simp_all
  simp [this]
theorem g_eqWireS : chkF Go.Proofs.Tryz.prog fid_laws_eqWireS (eqSl 2 (some 2) fid_laws_eqWire) = true := by kernel_rfl
theorem sem_eqWireS (a b : (List TWire)) (ha : a.length ≤ 9223372036854775807) (ha2 : ∀ y ∈ a, bdWire 9223372036854775807 y) (lvl : Nat) (S : Sto) : Sem Go.Proofs.Tryz.prog fid_laws_eqWireS lvl [.tr (.sl (a.map cWire)), .tr (.sl (b.map cWire))] S (iB (decide (a = b))) S :=
  sem_eqSl g_eqWireS cWire (fun _ => rfl) a b ha (fun x hx y _ lvl S => sem_eqWire x y (ha2 x hx) lvl S) lvl S
theorem g_eqStringS : chkF Go.Proofs.Tryz.prog fid_laws_eqStringS eqS1 = true := by kernel_rfl
theorem sem_eqStringS (a b : (List ByteArray)) (ha : a.length ≤ 9223372036854775807) (lvl : Nat) (S : Sto) : Sem Go.Proofs.Tryz.prog fid_laws_eqStringS lvl [.tr (.sl (rS a)), .tr (.sl (rS b))] S (iB (decide (a = b))) S := sem_eqS g_eqStringS a b ha lvl S
theorem sem_eqBigraph (x y : TBigraph) (hb : bdBigraph 9223372036854775807 x) (lvl : Nat) (S : Sto) : Sem Go.Proofs.Tryz.prog fid_laws_eqBigraph lvl [.ag ((cBigraph x).map .tr), .ag ((cBigraph y).map .tr)] S (iB (decide (x = y))) S := by
  obtain ⟨b0, b1, b2, b3, b4, b5, b6⟩ := hb
  refine sem_of_chk k_laws_eqBigraph trivial ?_
  simp only [c_laws_eqBigraph, cBigraph, List.map_cons, List.map_nil, EVA, ↓reduceIte, Nat.reduceEqDiff, Nat.reduceMul, reduceCtorEq, Nat.reduceAdd, Nat.reduceSub, Nat.reduceLeDiff, Nat.reduceLT, Int.reduceToNat, Int.reduceLE, Int.reduceLT, mens, men]
  refine ite_of (fun hne => ?_) (fun heq0 => ?_)
  · have : ¬ x = y := fun e => (by rw [e] at hne; simp at hne)
    simp [this]
  refine kca_intro (sem_eqNodeS x.nodes y.nodes b0 b1) ?_
  simp only [Bool.not_eq_true', EVA, ↓reduceIte, Nat.reduceEqDiff, Nat.reduceMul, reduceCtorEq, Nat.reduceAdd, Nat.reduceSub, Nat.reduceLeDiff, Nat.reduceLT, Int.reduceToNat, Int.reduceLE, Int.reduceLT, mens, men]
  refine ite_of (fun hne => ?_) (fun heq1 => ?_)
  · have : ¬ x = y := fun e => (by rw [e] at hne; simp at hne)
    simp [this]
  refine kca_intro (sem_eqIntS x.sites y.sites b2) ?_
  simp only [Bool.not_eq_true', EVA, ↓reduceIte, Nat.reduceEqDiff, Nat.reduceMul, reduceCtorEq, Nat.reduceAdd, Nat.reduceSub, Nat.reduceLeDiff, Nat.reduceLT, Int.reduceToNat, Int.reduceLE, Int.reduceLT, mens, men]
  refine ite_of (fun hne => ?_) (fun heq2 => ?_)
  · have : ¬ x = y := fun e => (by rw [e] at hne; simp at hne)
    simp [this]
  refine ite_of (fun hne => ?_) (fun heq3 => ?_)
  · have : ¬ x = y := fun e => (by rw [e] at hne; simp at hne)
    simp [this]
  refine kca_intro (sem_eqStringS x.outer y.outer b3) ?_
  simp only [Bool.not_eq_true', EVA, ↓reduceIte, Nat.reduceEqDiff, Nat.reduceMul, reduceCtorEq, Nat.reduceAdd, Nat.reduceSub, Nat.reduceLeDiff, Nat.reduceLT, Int.reduceToNat, Int.reduceLE, Int.reduceLT, mens, men]
  refine ite_of (fun hne => ?_) (fun heq4 => ?_)
  · have : ¬ x = y := fun e => (by rw [e] at hne; simp at hne)
    simp [this]
  refine kca_intro (sem_eqWireS x.inner y.inner b5 b6) ?_
  simp only [Bool.not_eq_true', EVA, ↓reduceIte, Nat.reduceEqDiff, Nat.reduceMul, reduceCtorEq, Nat.reduceAdd, Nat.reduceSub, Nat.reduceLeDiff, Nat.reduceLT, Int.reduceToNat, Int.reduceLE, Int.reduceLT, mens, men]
  refine ite_of (fun hne => ?_) (fun heq5 => ?_)
  · have : ¬ x = y := fun e => (by rw [e] at hne; simp at hne)
    simp [this]
  have : x = y := by
    cases x; cases y; simp_all
  simp [this]
theorem g_eqIntSS : chkF Go.Proofs.Tryz.prog fid_laws_eqIntSS (eqSl 1 none fid_laws_eqIntS) = true := by kernel_rfl
theorem sem_eqIntSS (a b : (List (List Int))) (ha : a.length ≤ 9223372036854775807) (ha2 : ∀ y ∈ a, y.length ≤ 9223372036854775807) (lvl : Nat) (S : Sto) : Sem Go.Proofs.Tryz.prog fid_laws_eqIntSS lvl [.tr (.sl (a.map (fun l => [Tr.sl (rI l)]))), .tr (.sl (b.map (fun l => [Tr.sl (rI l)])))] S (iB (decide (a = b))) S :=
  sem_eqSl1 g_eqIntSS (fun l => Tr.sl (rI l)) a b ha (fun x hx y _ lvl S => sem_eqIntS x y (ha2 x hx) lvl S) lvl S
theorem sem_eqIntA2 (x y : (Int × Int)) (lvl : Nat) (S : Sto) : Sem Go.Proofs.Tryz.prog fid_laws_eqIntA2 lvl [.ag ((cA2 x).map .tr), .ag ((cA2 y).map .tr)] S (iB (decide (x = y))) S := by
  refine sem_of_chk k_laws_eqIntA2 trivial ?_
  simp only [c_laws_eqIntA2, cA2, EVA, ↓reduceIte, Nat.reduceEqDiff, Nat.reduceMul, reduceCtorEq, Nat.reduceAdd, Nat.reduceSub, Nat.reduceLeDiff, Nat.reduceLT, Int.reduceToNat, Int.reduceLE, Int.reduceLT, mens, men]
  refine wp_count (α := Unit) 2 (fun j _ => ⟨lvl, [(2, .ta (cA2 x)), (3, .ta (cA2 y)), (5, iI j)], [], S⟩) (fun j _ => (cA2 x).take j = (cA2 y).take j) () ⟨by simp only [EVA, ↓reduceIte, Nat.reduceEqDiff, Nat.reduceMul, reduceCtorEq, Nat.reduceAdd, Nat.reduceSub, Nat.reduceLeDiff, Nat.reduceLT, Int.reduceToNat, Int.reduceLE, Int.reduceLT, mens, men], by (simp only [EVA, ↓reduceIte, Nat.reduceEqDiff, Nat.reduceMul, reduceCtorEq, Nat.reduceAdd, Nat.reduceSub, Nat.reduceLeDiff, Nat.reduceLT, Int.reduceToNat, Int.reduceLE, Int.reduceLT, mens, men]) <;> rfl⟩ rfl ?_
  intro j _ hj hA
  have hc : j = 0 ∨ j = 1 ∨ j = 2 := by omega
  rcases hc with rfl | rfl | rfl
  · simp only [cA2, Int.cast_ofNat_Int, Int.natCast_zero, Nat.zero_mul, Nat.one_mul, Nat.mul_one, EVA, ↓reduceIte, Nat.reduceEqDiff, Nat.reduceMul, reduceCtorEq, Nat.reduceAdd, Nat.reduceSub, Nat.reduceLeDiff, Nat.reduceLT, Int.reduceToNat, Int.reduceLE, Int.reduceLT, mens, men]
    refine ite_of (fun hne => ?_) (fun heq => ?_)
    · have : ¬ x = y := fun e => hne (by rw [e])
      simp [this]
    · refine ⟨by rw [fits_i64]; omega, cntJ_intro (N := 2) (k := 0) () (by omega) rfl ?_⟩
      simp [cA2] at hA ⊢
      simp_all
  · simp only [cA2, Int.cast_ofNat_Int, Int.natCast_zero, Nat.zero_mul, Nat.one_mul, Nat.mul_one, EVA, ↓reduceIte, Nat.reduceEqDiff, Nat.reduceMul, reduceCtorEq, Nat.reduceAdd, Nat.reduceSub, Nat.reduceLeDiff, Nat.reduceLT, Int.reduceToNat, Int.reduceLE, Int.reduceLT, mens, men]
    refine ite_of (fun hne => ?_) (fun heq => ?_)
    · have : ¬ x = y := fun e => hne (by rw [e])
      simp [this]
    · refine ⟨by rw [fits_i64]; omega, cntJ_intro (N := 2) (k := 1) () (by omega) rfl ?_⟩
      simp [cA2] at hA ⊢
      simp_all
  · simp only [cA2, Int.cast_ofNat_Int, EVA, ↓reduceIte, Nat.reduceEqDiff, Nat.reduceMul, reduceCtorEq, Nat.reduceAdd, Nat.reduceSub, Nat.reduceLeDiff, Nat.reduceLT, Int.reduceToNat, Int.reduceLE, Int.reduceLT, mens, men]
    have : x = y := by
      simp [cA2] at hA
      obtain ⟨x0, x1⟩ := x; obtain ⟨y0, y1⟩ := y
      simp_all
    simp [this]
theorem g_eqIntA2S : chkF Go.Proofs.Tryz.prog fid_laws_eqIntA2S (eqSl 2 (some 2) fid_laws_eqIntA2) = true := by kernel_rfl
theorem sem_eqIntA2S (a b : (List (Int × Int))) (ha : a.length ≤ 9223372036854775807) (lvl : Nat) (S : Sto) : Sem Go.Proofs.Tryz.prog fid_laws_eqIntA2S lvl [.tr (.sl (a.map cA2)), .tr (.sl (b.map cA2))] S (iB (decide (a = b))) S :=
  sem_eqSl g_eqIntA2S cA2 (fun _ => rfl) a b ha (fun x hx y _ lvl S => sem_eqIntA2 x y lvl S) lvl S
theorem sem_eqSorting (x y : TSorting) (hb : bdSorting 9223372036854775807 x) (lvl : Nat) (S : Sto) : Sem Go.Proofs.Tryz.prog fid_laws_eqSorting lvl [.ag ((cSorting x).map .tr), .ag ((cSorting y).map .tr)] S (iB (decide (x = y))) S := by
  obtain ⟨b0, b1, b2, b3, b4, b5, b6⟩ := hb
  refine sem_of_chk k_laws_eqSorting trivial ?_
  simp only [c_laws_eqSorting, cSorting, List.map_cons, List.map_nil, EVA, ↓reduceIte, Nat.reduceEqDiff, Nat.reduceMul, reduceCtorEq, Nat.reduceAdd, Nat.reduceSub, Nat.reduceLeDiff, Nat.reduceLT, Int.reduceToNat, Int.reduceLE, Int.reduceLT, mens, men]
  refine kca_intro (sem_eqIntS x.tops y.tops b0) ?_
  simp only [Bool.not_eq_true', EVA, ↓reduceIte, Nat.reduceEqDiff, Nat.reduceMul, reduceCtorEq, Nat.reduceAdd, Nat.reduceSub, Nat.reduceLeDiff, Nat.reduceLT, Int.reduceToNat, Int.reduceLE, Int.reduceLT, mens, men]
  refine ite_of (fun hne => ?_) (fun heq0 => ?_)
  · have : ¬ x = y := fun e => (by rw [e] at hne; simp at hne)
    simp [this]
  refine kca_intro (sem_eqIntSS x.nest y.nest b1 b2) ?_
  simp only [Bool.not_eq_true', EVA, ↓reduceIte, Nat.reduceEqDiff, Nat.reduceMul, reduceCtorEq, Nat.reduceAdd, Nat.reduceSub, Nat.reduceLeDiff, Nat.reduceLT, Int.reduceToNat, Int.reduceLE, Int.reduceLT, mens, men]
  refine ite_of (fun hne => ?_) (fun heq1 => ?_)
  · have : ¬ x = y := fun e => (by rw [e] at hne; simp at hne)
    simp [this]
  refine kca_intro (sem_eqIntSS x.sorts y.sorts b3 b4) ?_
  simp only [Bool.not_eq_true', EVA, ↓reduceIte, Nat.reduceEqDiff, Nat.reduceMul, reduceCtorEq, Nat.reduceAdd, Nat.reduceSub, Nat.reduceLeDiff, Nat.reduceLT, Int.reduceToNat, Int.reduceLE, Int.reduceLT, mens, men]
  refine ite_of (fun hne => ?_) (fun heq2 => ?_)
  · have : ¬ x = y := fun e => (by rw [e] at hne; simp at hne)
    simp [this]
  refine kca_intro (sem_eqIntS x.most y.most b5) ?_
  simp only [Bool.not_eq_true', EVA, ↓reduceIte, Nat.reduceEqDiff, Nat.reduceMul, reduceCtorEq, Nat.reduceAdd, Nat.reduceSub, Nat.reduceLeDiff, Nat.reduceLT, Int.reduceToNat, Int.reduceLE, Int.reduceLT, mens, men]
  refine ite_of (fun hne => ?_) (fun heq3 => ?_)
  · have : ¬ x = y := fun e => (by rw [e] at hne; simp at hne)
    simp [this]
  refine kca_intro (sem_eqIntA2S x.apart y.apart b6) ?_
  simp only [Bool.not_eq_true', EVA, ↓reduceIte, Nat.reduceEqDiff, Nat.reduceMul, reduceCtorEq, Nat.reduceAdd, Nat.reduceSub, Nat.reduceLeDiff, Nat.reduceLT, Int.reduceToNat, Int.reduceLE, Int.reduceLT, mens, men]
  refine ite_of (fun hne => ?_) (fun heq4 => ?_)
  · have : ¬ x = y := fun e => (by rw [e] at hne; simp at hne)
    simp [this]
  have : x = y := by
    cases x; cases y; simp_all
  simp [this]
theorem sem_eqControl (x y : TControl) (hb : bdControl 9223372036854775807 x) (lvl : Nat) (S : Sto) : Sem Go.Proofs.Tryz.prog fid_laws_eqControl lvl [.ag ((cControl x).map .tr), .ag ((cControl y).map .tr)] S (iB (decide (x = y))) S := by
  have b0 : x.name.size ≤ 9223372036854775807 := hb
  refine sem_of_chk k_laws_eqControl trivial ?_
  simp only [c_laws_eqControl, cControl, List.map_cons, List.map_nil, EVA, ↓reduceIte, Nat.reduceEqDiff, Nat.reduceMul, reduceCtorEq, Nat.reduceAdd, Nat.reduceSub, Nat.reduceLeDiff, Nat.reduceLT, Int.reduceToNat, Int.reduceLE, Int.reduceLT, mens, men]
  refine ite_of (fun hne => ?_) (fun heq0 => ?_)
  · have : ¬ x = y := fun e => (by rw [e] at hne; simp at hne)
    simp [this]
  refine ite_of (fun hne => ?_) (fun heq1 => ?_)
  · have : ¬ x = y := fun e => (by rw [e] at hne; simp at hne)
    simp [this]
  refine ite_of (fun hne => ?_) (fun heq2 => ?_)
  · have : ¬ x = y := fun e => (by rw [e] at hne; simp at hne)
    simp [this]
  have : x = y := by
    cases x; cases y; simp_all
  simp [this]
theorem g_eqControlS : chkF Go.Proofs.Tryz.prog fid_laws_eqControlS (eqSl 3 (some 3) fid_laws_eqControl) = true := by kernel_rfl
theorem sem_eqControlS (a b : (List TControl)) (ha : a.length ≤ 9223372036854775807) (ha2 : ∀ y ∈ a, bdControl 9223372036854775807 y) (lvl : Nat) (S : Sto) : Sem Go.Proofs.Tryz.prog fid_laws_eqControlS lvl [.tr (.sl (a.map cControl)), .tr (.sl (b.map cControl))] S (iB (decide (a = b))) S :=
  sem_eqSl g_eqControlS cControl (fun _ => rfl) a b ha (fun x hx y _ lvl S => sem_eqControl x y (ha2 x hx) lvl S) lvl S
end Go.Fd
