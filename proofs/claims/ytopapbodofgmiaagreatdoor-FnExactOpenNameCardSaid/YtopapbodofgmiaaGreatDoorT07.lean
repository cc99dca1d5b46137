/-
  A NAME BECOMES AN EDGE: BOTH SIDES. Own work.
-/
import Derived.Test.YtopapbodofgmiaaGreatDoorT06
import Derived.KernelRfl
set_option linter.all false
namespace Go.Fd
set_option maxRecDepth 20000

theorem rootsN_get {n : Nat} {k : Nat} (h : k < n) : g0 (rootsN 0 n) k = -1 - (k : Int) := by
  show (rootsN 0 n).getD k 0 = _
  rw [List.getD_eq_getElem?_getD, rootsN, List.getElem?_map, List.getElem?_range h]
  simp
theorem parG_id {b : TBigraph} {n : Nat} (hn : b.roots = n) {p : Int} (h : -b.roots ≤ p) : parG 0 (rootsN 0 n) p = p := by
  unfold parG
  split
  · rw [rootsN_get (by omega)]; omega
  · omega
theorem under_ge {sig : List TControl} {b : TBigraph} {p below : Int} (hr : 0 ≤ b.roots) (h : under sig b p below) : -b.roots ≤ p := by
  rcases h with h | h <;> omega
theorem sem_l4Relink (sig : List TControl) (b : TBigraph) (h : bigOK sig b) (ls : List Int) (e : Int) (o : List ByteArray) (hb : bdBigraph 4294967296 b) (hls : ∀ l, linkOK b l → l < ls.length) (ho : o.length ≤ 4294967290) (lvl : Nat) (S : Sto) : Sem Go.Proofs.Tryz.prog fid_spec_l4Relink lvl [.ag ((cBigraph b).map .tr), tI ls, iI e, .tr (.sl (rS o))] S (oBigraph (mapB b (fun l => g0 ls l.toNat) e o)) S := by
  obtain ⟨n, hn⟩ : ∃ n : Nat, b.roots = n := ⟨b.roots.toNat, by have := h.roots; omega⟩
  have hr := h.roots
  have hsm := h.small
  have hpar : ∀ p, -b.roots ≤ p → p ≤ 100 → (-4294967296 ≤ p ∧ p ≤ 4294967296) ∧ (p < 0 → (-1 - p).toNat < (rootsN 0 n).length) := fun p h1 h2 => ⟨by omega, fun h3 => by rw [rootsN_len]; omega⟩
  have hN : ∀ x ∈ b.nodes, x.links.length ≤ 4294967290 ∧ ((-4294967296 ≤ x.parent ∧ x.parent ≤ 4294967296) ∧ (x.parent < 0 → (-1 - x.parent).toNat < (rootsN 0 n).length)) ∧ ∀ l ∈ x.links, 0 ≤ l ∧ l < ls.length := fun x hx => by
    obtain ⟨k, hk, rfl⟩ := List.getElem_of_mem hx
    have hnode := h.nodes k hk
    have hl := hsm.links _ hx
    have hnl := h.nodesL
    refine ⟨by omega, hpar _ (under_ge hr.1 hnode.par) ?_, fun l hl => ⟨(hnode.links l hl).1, hls l (hnode.links l hl)⟩⟩
    have := hnode.par
    unfold under at this
    omega
  have hP : ∀ p ∈ b.sites, (-4294967296 ≤ p ∧ p ≤ 4294967296) ∧ (p < 0 → (-1 - p).toNat < (rootsN 0 n).length) := fun p hp => by
    have hu := h.sites p hp
    have hnl := h.nodesL
    refine hpar _ (under_ge hr.1 hu) ?_
    unfold under at hu
    omega
  have hW : ∀ w ∈ b.inner, 0 ≤ w.link ∧ w.link < ls.length := fun w hw => ⟨(h.inner w hw).1, hls _ (h.inner w hw)⟩
  have e1 : b.nodes.map (nodeL 0 (rootsN 0 n) ls) = (mapB b (fun l => g0 ls l.toNat) e o).nodes := by
    unfold mapB
    refine List.map_congr_left fun x hx => ?_
    obtain ⟨k, hk, rfl⟩ := List.getElem_of_mem hx
    unfold nodeL
    rw [parG_id hn (under_ge hr.1 (h.nodes k hk).par)]
  have e2 : b.sites.map (parG 0 (rootsN 0 n)) = b.sites := by
    have : b.sites.map (parG 0 (rootsN 0 n)) = b.sites.map id := List.map_congr_left fun p hp => parG_id hn (under_ge hr.1 (h.sites p hp))
    rw [this, List.map_id]
  have s1 := hsm.nodes; have s2 := hsm.sites; have s3 := hsm.inner
  refine sem_of_chk k_spec_l4Relink (by simp [oBigraph, low, men, mens]) ?_
  simp only [c_spec_l4Relink, cBigraph, hn, EVA, ↓reduceIte, Nat.reduceEqDiff, Nat.reduceMul, reduceCtorEq, Nat.reduceAdd, Nat.reduceSub, Nat.reduceLeDiff, Nat.reduceLT, Int.reduceToNat, Int.reduceLE, Int.reduceLT, mens, men]
  refine kca_intro (sem_l4Roots 0 n (by omega) (by omega)) ?_
  simp only [cBigraph, EVA, ↓reduceIte, Nat.reduceEqDiff, Nat.reduceMul, reduceCtorEq, Nat.reduceAdd, Nat.reduceSub, Nat.reduceLeDiff, Nat.reduceLT, Int.reduceToNat, Int.reduceLE, Int.reduceLT, mens, men]
  have q1 := sem_l4Nodes b 0 (rootsN 0 n) ls (by omega) (by omega) hN
  rw [e1] at q1
  simp only [cBigraph, hn, List.map_cons, List.map_nil] at q1
  refine kca_intro q1 ?_
  simp only [List.length_map, EVA, ↓reduceIte, Nat.reduceEqDiff, Nat.reduceMul, reduceCtorEq, Nat.reduceAdd, Nat.reduceSub, Nat.reduceLeDiff, Nat.reduceLT, Int.reduceToNat, Int.reduceLE, Int.reduceLT, mens, men]
  have q2 := sem_l4Sites b 0 (rootsN 0 n) (by omega) (by omega) hP
  rw [e2] at q2
  simp only [cBigraph, hn, List.map_cons, List.map_nil] at q2
  refine kca_intro q2 ?_
  simp only [scrS, unrS, List.length_map, EVA, ↓reduceIte, Nat.reduceEqDiff, Nat.reduceMul, reduceCtorEq, Nat.reduceAdd, Nat.reduceSub, Nat.reduceLeDiff, Nat.reduceLT, Int.reduceToNat, Int.reduceLE, Int.reduceLT, mens, men]
  refine ⟨by omega, ?_⟩
  have q3 := sem_l4Wires b ls (by omega) hW
  rw [show b.inner.map (wireL ls) = (mapB b (fun l => g0 ls l.toNat) e o).inner from rfl] at q3
  simp only [cBigraph, hn, List.map_cons, List.map_nil] at q3
  refine kca_intro q3 ?_
  simp only [List.length_map, EVA, ↓reduceIte, Nat.reduceEqDiff, Nat.reduceMul, reduceCtorEq, Nat.reduceAdd, Nat.reduceSub, Nat.reduceLeDiff, Nat.reduceLT, Int.reduceToNat, Int.reduceLE, Int.reduceLT, mens, men]
  rw [← hn]
  rfl

/-- What the answer is where there is none. -/
def emptyB : TBigraph := ⟨0, [], [], 0, [], []⟩
theorem sem_l2Give_y (sig : List TControl) (b : TBigraph) (hn : sig.length ≤ 4294967296) (hbs : ∀ y ∈ sig, bdControl 4294967296 y) (hb : bdBigraph 4294967296 b) (hf : ftBigraph b) (hG : bigOK sig b) (lvl : Nat) (S : Sto) : Sem Go.Proofs.Tryz.prog fid_spec_l2Give lvl [.tr (.sl (sig.map cControl)), .ag ((cBigraph b).map .tr)] S (.tu [.ag ((cBigraph b).map .tr), iB true]) S := by
  refine sem_of_chk k_spec_l2Give (by simp [cBigraph, low, men, mens]) ?_
  simp only [c_spec_l2Give, cBigraph, EVA, ↓reduceIte, Nat.reduceEqDiff, Nat.reduceMul, reduceCtorEq, Nat.reduceAdd, Nat.reduceSub, Nat.reduceLeDiff, Nat.reduceLT, Int.reduceToNat, Int.reduceLE, Int.reduceLT, mens, men]
  refine kca_intro (sem_l2Good sig b hn hbs hb hf) ?_
  rw [dc_true hG]
  simp only [cBigraph, EVA, ↓reduceIte, Nat.reduceEqDiff, Nat.reduceMul, reduceCtorEq, Nat.reduceAdd, Nat.reduceSub, Nat.reduceLeDiff, Nat.reduceLT, Int.reduceToNat, Int.reduceLE, Int.reduceLT, mens, men]
theorem sem_l2Give_n (sig : List TControl) (b : TBigraph) (hn : sig.length ≤ 4294967296) (hbs : ∀ y ∈ sig, bdControl 4294967296 y) (hb : bdBigraph 4294967296 b) (hf : ftBigraph b) (hG : ¬ bigOK sig b) (lvl : Nat) (S : Sto) : Sem Go.Proofs.Tryz.prog fid_spec_l2Give lvl [.tr (.sl (sig.map cControl)), .ag ((cBigraph b).map .tr)] S (.tu [oBigraph emptyB, iB false]) S := by
  refine sem_of_chk k_spec_l2Give (by simp [oBigraph, low, men, mens]) ?_
  simp only [c_spec_l2Give, cBigraph, EVA, ↓reduceIte, Nat.reduceEqDiff, Nat.reduceMul, reduceCtorEq, Nat.reduceAdd, Nat.reduceSub, Nat.reduceLeDiff, Nat.reduceLT, Int.reduceToNat, Int.reduceLE, Int.reduceLT, mens, men]
  refine kca_intro (sem_l2Good sig b hn hbs hb hf) ?_
  rw [dc_false hG]
  simp only [cBigraph, EVA, ↓reduceIte, Nat.reduceEqDiff, Nat.reduceMul, reduceCtorEq, Nat.reduceAdd, Nat.reduceSub, Nat.reduceLeDiff, Nat.reduceLT, Int.reduceToNat, Int.reduceLE, Int.reduceLT, mens, men]
  rfl

/-- Links turned into small numbers. -/
theorem mapB_bd {sig : List TControl} {b : TBigraph} (h : bigOK sig b) {F : Int → Int} {e : Int} {o : List ByteArray} (hb : bdBigraph 4294967296 b) (ho : o.length ≤ 100) (hos : ∀ y ∈ o, y.size ≤ 4294967290) : bdBigraph 4294967290 (mapB b F e o) := by
  obtain ⟨b1, b2, b3, b4, b5, b6, b7⟩ := hb
  have hs := h.small
  have s1 := hs.nodes; have s2 := hs.sites; have s3 := hs.inner
  refine ⟨by simp only [mapB, List.length_map]; omega, fun y hy => ?_, by simp only [mapB]; omega, by simp only [mapB]; omega, hos, by simp only [mapB, List.length_map]; omega, fun y hy => ?_⟩
  · obtain ⟨x, hx, rfl⟩ := List.mem_map.1 hy
    have := hs.links x hx
    simp only [bdNode, List.length_map]
    omega
  · obtain ⟨w, hw, rfl⟩ := List.mem_map.1 hy
    have hn : w.name ∈ inn b := List.mem_map.2 ⟨w, hw, rfl⟩
    obtain ⟨i, hi, hie⟩ := List.getElem_of_mem hn
    have := (h.inn.1 i hi).1.2.2
    rw [hie] at this
    simp only [bdWire]
    omega
theorem mapB_ft {sig : List TControl} {b : TBigraph} (h : bigOK sig b) {F : Int → Int} {e : Int} {o : List ByteArray} (hf : ftBigraph b) (hF : ∀ l, linkOK b l → 0 ≤ F l ∧ F l ≤ 100) (he : fits .i64 e) : ftBigraph (mapB b F e o) := by
  obtain ⟨f1, f2, f3, f4, f5⟩ := hf
  refine ⟨f1, fun y hy => ?_, f3, he, fun y hy => ?_⟩
  · obtain ⟨x, hx, rfl⟩ := List.mem_map.1 hy
    have hq := f2 x hx
    obtain ⟨i, hi, hie⟩ := List.getElem_of_mem hx
    refine ⟨hq.1, hq.2.1, fun l hl => ?_⟩
    obtain ⟨l0, hl0, rfl⟩ := List.mem_map.1 hl
    have := hF l0 ((h.nodes i hi).links l0 (by rw [hie]; exact hl0))
    rw [fits_i64]; omega
  · obtain ⟨w, hw, rfl⟩ := List.mem_map.1 hy
    have := hF _ (h.inner w hw)
    show fits .i64 (F w.link)
    rw [fits_i64]; omega
theorem names_size {l : List ByteArray} (h : namesOK l) {s : ByteArray} (hs : s ∈ l) : s.size ≤ 4 := by
  obtain ⟨i, hi, rfl⟩ := List.getElem_of_mem hs
  exact (h.1 i hi).1.2.2
end Go.Fd

/-
  A NAME BECOMES AN EDGE: BOTH ANSWERS. Own work.
-/
namespace Go.Fd
set_option maxRecDepth 20000

theorem bd_mono {a c : Nat} {b : TBigraph} (h : a ≤ c) (hb : bdBigraph a b) : bdBigraph c b := by
  obtain ⟨b1, b2, b3, b4, b5, b6, b7⟩ := hb
  exact ⟨by omega, fun y hy => Nat.le_trans (b2 y hy) h, by omega, by omega, fun y hy => Nat.le_trans (b5 y hy) h, by omega, fun y hy => Nat.le_trans (b7 y hy) h⟩
theorem bd_small {sig : List TControl} {b : TBigraph} (h : bigOK sig b) : bdBigraph 1000 b := by
  have hs := h.small
  have s1 := hs.nodes; have s2 := hs.sites; have s3 := hs.inner; have s4 := hs.outer
  refine ⟨by omega, fun y hy => hs.links y hy, by omega, by omega, fun y hy => ?_, by omega, fun w hw => ?_⟩
  · have := names_size h.outer hy; omega
  · have hn : w.name ∈ inn b := List.mem_map.2 ⟨w, hw, rfl⟩
    have := names_size h.inn hn
    simp only [bdWire]
    omega
end Go.Fd

/-
  TWO NAMES BECOME ONE: THE PROGRAM'S SIDE; A COPY BY NUMBERING ANEW. Own work.
-/
namespace Go.Fd
set_option maxRecDepth 20000

end Go.Fd

/-
  NAMES IN ORDER, AND THEIR LINKS, AS THE REFERENCE HAS THEM. Own work.
-/
namespace Go.Fd
set_option maxRecDepth 20000

theorem put_pw {O : List ByteArray} {x : ByteArray} {k : Nat} (hp : O.Pairwise ltS) (h1 : ∀ y ∈ O.take k, ltS y x) (h2 : ∀ y ∈ O.drop k, ltS x y) : (O.take k ++ ([x] ++ O.drop k)).Pairwise ltS := by
  refine List.pairwise_append.2 ⟨hp.sublist (List.take_sublist ..), List.pairwise_append.2 ⟨List.pairwise_singleton .., hp.sublist (List.drop_sublist ..), fun a ha b hb => ?_⟩, fun a ha b hb => ?_⟩
  · rw [List.mem_singleton.1 ha]; exact h2 b hb
  · rcases List.mem_append.1 hb with hb | hb
    · rw [List.mem_singleton.1 hb]; exact h1 a ha
    · have q := hp
      rw [← List.take_append_drop k O] at q
      exact (List.pairwise_append.1 q).2.2 a ha b hb
theorem setS_pw {l : List ByteArray} : (setS l).Pairwise ltS := setG_pw ordsS
theorem setS_mem {l : List ByteArray} {c : ByteArray} : c ∈ setS l ↔ c ∈ l := setG_mem
theorem setS_len {l : List ByteArray} : (setS l).length ≤ l.length := setG_le
theorem setS_put {l : List ByteArray} {i k : Nat} (hi : i < l.length) (h1 : ∀ y ∈ (setS (l.take i)).take k, ltS y l[i]) (h2 : ∀ y ∈ (setS (l.take i)).drop k, ltS l[i] y) : setS (l.take (i + 1)) = (setS (l.take i)).take k ++ ([l[i]] ++ (setS (l.take i)).drop k) := by
  refine setG_eq ordsS (put_pw setS_pw h1 h2) fun c => ?_
  rw [List.take_succ_eq_append_getElem hi]
  have e : c ∈ setS (l.take i) ↔ c ∈ l.take i := setS_mem
  rw [← List.take_append_drop k (setS (l.take i)), List.mem_append] at e
  simp only [List.mem_append, ← e]
  constructor
  · rintro ((h | h) | h)
    · exact .inl h
    · exact .inr (.inr h)
    · exact .inr (.inl h)
  · rintro (h | h | h)
    · exact .inl (.inl h)
    · exact .inr h
    · exact .inl (.inr h)
theorem setS_keep {l : List ByteArray} {i : Nat} (hi : i < l.length) (h : l[i] ∈ setS (l.take i)) : setS (l.take (i + 1)) = setS (l.take i) := by
  refine setG_eq ordsS setS_pw fun c => ?_
  rw [List.take_succ_eq_append_getElem hi, List.mem_append, setS_mem]
  constructor
  · rintro (h2 | h2)
    · exact h2
    · rw [List.mem_singleton.1 h2]; exact setS_mem.1 h
  · exact .inl
theorem cutS0 {l : List ByteArray} {j : Nat} : cut (rS l) 0 (j - 0) = rS (l.take j) := by simp [cut, rS, List.map_take]
theorem cutS1 {l : List ByteArray} {j : Nat} : cut (rS l) j (l.length - j) = rS (l.drop j) := by
  simp only [cut, rS, ← List.map_drop]
  rw [← List.map_take, List.take_of_length_le (by rw [List.length_drop]; omega)]
theorem rS_put {a b : List ByteArray} {x : ByteArray} : rS a ++ [[Tr.v (Value.string x)]] ++ rS b = rS (a ++ ([x] ++ b)) := by simp [rS]
theorem rS_len {a : List ByteArray} : (rS a).length = a.length := by simp [rS]
theorem setS_nil0 : setS [] = [] := setG_eq ordsS List.Pairwise.nil fun c => Iff.rfl
theorem sem_l2Sorted (l : List ByteArray) (hl : l.length ≤ 4294967290) (lvl : Nat) (S : Sto) : Sem Go.Proofs.Tryz.prog fid_spec_l2Sorted lvl [.tr (.sl (rS l))] S (.ow 1 (rS (setS l)) true) S := by
  refine sem_of_chk k_spec_l2Sorted (by simp [low, men, mens]) ?_
  simp only [c_spec_l2Sorted, List.length_map, EVA, ↓reduceIte, Nat.reduceEqDiff, Nat.reduceMul, reduceCtorEq, Nat.reduceAdd, Nat.reduceSub, Nat.reduceLeDiff, Nat.reduceLT, Int.reduceToNat, Int.reduceLE, Int.reduceLT, mens, men]
  refine wp_cnt (α := Unit) l.length (fun j _ => [(3, .hd (lvl, 96) [] 0 (setS (l.take j)).length none (setS (l.take j)).length), (4, iI j)]) (fun j _ => [(96, .ar 1 (rS (setS (l.take j))) true (setS (l.take j)).length 0)]) (fun _ _ => True) () (by simp only [EVA, ↓reduceIte, Nat.reduceEqDiff, Nat.reduceMul, reduceCtorEq, Nat.reduceAdd, Nat.reduceSub, Nat.reduceLeDiff, Nat.reduceLT, Int.reduceToNat, Int.reduceLE, Int.reduceLT, mens, men]) (by rw [List.take_zero, setS_nil0]; (simp only [EVA, ↓reduceIte, Nat.reduceEqDiff, Nat.reduceMul, reduceCtorEq, Nat.reduceAdd, Nat.reduceSub, Nat.reduceLeDiff, Nat.reduceLT, Int.reduceToNat, Int.reduceLE, Int.reduceLT, mens, men]) <;> rfl) trivial ?_
  intro j _ hj _
  simp only [List.length_map, EVA, ↓reduceIte, Nat.reduceEqDiff, Nat.reduceMul, reduceCtorEq, Nat.reduceAdd, Nat.reduceSub, Nat.reduceLeDiff, Nat.reduceLT, Int.reduceToNat, Int.reduceLE, Int.reduceLT, mens, men]
  refine ite_of (fun hlt => ?_) (fun hge => ?_)
  · have hja : j < l.length := by omega
    have ga := getX (e0 := e0S) (c := fun n : ByteArray => [ts n]) hja
    rw [gx_eq hja] at ga
    obtain ⟨O, hO⟩ : ∃ O, O = setS (l.take j) := ⟨_, rfl⟩
    have hOl : O.length ≤ j := by rw [hO]; exact Nat.le_trans setS_len (by rw [List.length_take]; omega)
    have hOp : O.Pairwise ltS := by rw [hO]; exact setS_pw
    rw [← hO]
    refine wp_cnt (α := Unit) O.length (fun k _ => [(5, iI k)]) (fun _ _ => []) (fun k _ => ∀ y ∈ O.take k, ltS y l[j]) () (by simp only [EVA, ↓reduceIte, Nat.reduceEqDiff, Nat.reduceMul, reduceCtorEq, Nat.reduceAdd, Nat.reduceSub, Nat.reduceLeDiff, Nat.reduceLT, Int.reduceToNat, Int.reduceLE, Int.reduceLT, mens, men]) (by (simp only [EVA, ↓reduceIte, Nat.reduceEqDiff, Nat.reduceMul, reduceCtorEq, Nat.reduceAdd, Nat.reduceSub, Nat.reduceLeDiff, Nat.reduceLT, Int.reduceToNat, Int.reduceLE, Int.reduceLT, mens, men]) <;> rfl) (by simp) ?_
    intro k _ hk hK
    simp only [List.length_map, EVA, ↓reduceIte, Nat.reduceEqDiff, Nat.reduceMul, reduceCtorEq, Nat.reduceAdd, Nat.reduceSub, Nat.reduceLeDiff, Nat.reduceLT, Int.reduceToNat, Int.reduceLE, Int.reduceLT, mens, men]
    refine ite_of (fun hlt2 => ?_) (fun hge2 => ?_)
    · have hka : k < O.length := by omega
      have gk := getX (e0 := e0S) (c := fun n : ByteArray => [ts n]) hka
      rw [gx_eq hka] at gk
      have hm : min k O.length = k := by omega
      have hq1 : k + 1 + (O.length - k) = O.length + 1 := by omega
      have hq2 : max (max (max 0 k) (k + 1)) (O.length + 1) = O.length + 1 := by omega
      have hq3 : k + (O.length - k) = O.length := by omega
      simp only [ga, gk, hja, hka, hm, hq1, hq2, hq3, cutS0, cutS1, scrS, unrS, rS_put, rS_len, List.length_append, List.length_take, List.length_drop, List.length_map, EVA, ↓reduceIte, Nat.reduceEqDiff, Nat.reduceMul, reduceCtorEq, Nat.reduceAdd, Nat.reduceSub, Nat.reduceLeDiff, Nat.reduceLT, Int.reduceToNat, Int.reduceLE, Int.reduceLT, mens, men]
      refine ite_of (fun h1 => ?_) (fun h1 => ?_)
      · exact ⟨by rw [fits_i64]; omega, cntJ_intro () hka rfl fun y hy => by
          rw [List.take_succ_eq_append_getElem hka] at hy
          rcases List.mem_append.1 hy with hy | hy
          · exact hK y hy
          · rw [List.mem_singleton.1 hy]; exact h1⟩
      · have hkn : decide ((k : Int) = (O.length : Int)) = false := by simp; omega
        rw [if_pos hkn]
        refine ite_of (fun h2 => ?_) (fun h2 => ?_)
        · have h3 : ltS l[j] O[k] := by
            rcases ordsS.tri l[j] O[k] with q | q | q
            · exact q
            · exact absurd q.symm h2
            · exact absurd q h1
          have hput := setS_put (k := k) hja (by rw [← hO]; exact hK) (by
            rw [← hO]
            intro y hy
            rw [List.drop_eq_getElem_cons hka] at hy
            rcases List.mem_cons.1 hy with rfl | hy
            · exact h3
            · have q := hOp
              rw [← List.take_append_drop k O, List.drop_eq_getElem_cons hka] at q
              exact ordsS.tr _ _ _ h3 ((List.pairwise_cons.1 (List.pairwise_append.1 q).2.1).1 y hy))
          rw [← hO] at hput
          have hpl : (O.take k ++ ([l[j]] ++ O.drop k)).length = O.length + 1 := by
            simp only [List.length_append, List.length_take, List.length_drop, List.length_cons, List.length_nil]
            omega
          have hfit : fits .i64 ((j : Int) + 1) := by rw [fits_i64]; omega
          and_intros
          all_goals try first | omega | exact fun _ => trivial
          · exact hfit.1
          · exact hfit.2
          · exact cntJ_intro () hja (by rw [hput, hpl]; rfl) trivial
        · have hkeep := setS_keep hja (by rw [← hO, ← (Classical.not_not.1 h2)]; exact List.getElem_mem hka)
          rw [← hO] at hkeep
          exact ⟨by rw [fits_i64]; omega, cntJ_intro () hja (by rw [hkeep]; rfl) trivial⟩
    · have : k = O.length := by omega
      subst this
      have hq1 : O.length + 1 + (O.length - O.length) = O.length + 1 := by omega
      have hq2 : max (max (max 0 O.length) (O.length + 1)) (O.length + 1) = O.length + 1 := by omega
      simp only [ga, hja, hq1, hq2, cutS0, cutS1, scrS, unrS, rS_put, rS_len, List.length_append, List.length_take, List.length_drop, List.length_map, EVA, ↓reduceIte, Nat.reduceEqDiff, Nat.reduceMul, reduceCtorEq, Nat.reduceAdd, Nat.reduceSub, Nat.reduceLeDiff, Nat.reduceLT, Int.reduceToNat, Int.reduceLE, Int.reduceLT, mens, men]
      have hput := setS_put (k := O.length) hja (by rw [← hO]; exact hK) (by
        rw [← hO, List.drop_length]
        intro y hy
        cases hy)
      rw [← hO] at hput
      rw [List.take_length] at hput
      have hpl : (O ++ ([l[j]] ++ O.drop O.length)).length = O.length + 1 := by
        simp only [List.length_append, List.length_drop, List.length_cons, List.length_nil]
        omega
      have hfit : fits .i64 ((j : Int) + 1) := by rw [fits_i64]; omega
      and_intros
      all_goals try first | omega | exact fun _ => trivial
      · exact hfit.1
      · exact hfit.2
      · exact cntJ_intro () hja (by rw [hput, hpl]; rfl) trivial
  · have : j = l.length := by omega
    subst this
    rw [List.take_length]
theorem sem_l4Named (names : List ByteArray) (e : Int) (o : List ByteArray) (hn : names.length ≤ 4294967290) (he : -4294967296 ≤ e ∧ e ≤ 4294967296) (ho : o.length ≤ 4294967290) (lvl : Nat) (S : Sto) : Sem Go.Proofs.Tryz.prog fid_spec_l4Named lvl [.tr (.sl (rS names)), iI e, .tr (.sl (rS o))] S (.ow 1 (rI (names.map fun x => e + ixS o x)) true) S := by
  refine sem_of_chk k_spec_l4Named trivial ?_
  simp only [c_spec_l4Named, List.length_map, EVA, ↓reduceIte, Nat.reduceEqDiff, Nat.reduceMul, reduceCtorEq, Nat.reduceAdd, Nat.reduceSub, Nat.reduceLeDiff, Nat.reduceLT, Int.reduceToNat, Int.reduceLE, Int.reduceLT, mens, men]
  refine wp_cnt (α := Unit) names.length (fun j _ => [(7, .hd (lvl, 288) [] 0 j none j), (8, iI j)]) (fun j _ => [(288, .ar 1 (rI ((names.take j).map fun x => e + ixS o x)) true j 0)]) (fun _ _ => True) () (by simp only [EVA, ↓reduceIte, Nat.reduceEqDiff, Nat.reduceMul, reduceCtorEq, Nat.reduceAdd, Nat.reduceSub, Nat.reduceLeDiff, Nat.reduceLT, Int.reduceToNat, Int.reduceLE, Int.reduceLT, mens, men]) (by (simp only [EVA, ↓reduceIte, Nat.reduceEqDiff, Nat.reduceMul, reduceCtorEq, Nat.reduceAdd, Nat.reduceSub, Nat.reduceLeDiff, Nat.reduceLT, Int.reduceToNat, Int.reduceLE, Int.reduceLT, mens, men]) <;> rfl) trivial ?_
  intro j _ hj _
  simp only [List.length_map, EVA, ↓reduceIte, Nat.reduceEqDiff, Nat.reduceMul, reduceCtorEq, Nat.reduceAdd, Nat.reduceSub, Nat.reduceLeDiff, Nat.reduceLT, Int.reduceToNat, Int.reduceLE, Int.reduceLT, mens, men]
  refine ite_of (fun hlt => ?_) (fun hge => ?_)
  · have hja : j < names.length := by omega
    have ga := getX (e0 := e0S) (c := fun n : ByteArray => [ts n]) hja
    rw [gx_eq hja] at ga
    have hl2 : (names.take j).length = j := by rw [List.length_take]; omega
    have x1 := ixS_ge (l := o) (s := names[j])
    have x2 := ixS_le (l := o) (s := names[j])
    have hs : rI ((names.take j).map fun x => e + ixS o x) ++ [[tv (e + ixS o names[j])]] = rI ((names.take (j + 1)).map fun x => e + ixS o x) := by
      rw [List.take_succ_eq_append_getElem hja, List.map_append, rI_app]
      rfl
    simp only [ga, hja, List.length_map, EVA, ↓reduceIte, Nat.reduceEqDiff, Nat.reduceMul, reduceCtorEq, Nat.reduceAdd, Nat.reduceSub, Nat.reduceLeDiff, Nat.reduceLT, Int.reduceToNat, Int.reduceLE, Int.reduceLT, mens, men]
    refine kca_intro (sem_l2At o names[j] (by omega)) ?_
    simp only [ga, hja, hl2, hs, List.length_map, EVA, ↓reduceIte, Nat.reduceEqDiff, Nat.reduceMul, reduceCtorEq, Nat.reduceAdd, Nat.reduceSub, Nat.reduceLeDiff, Nat.reduceLT, Int.reduceToNat, Int.reduceLE, Int.reduceLT, mens, men]
    exact ⟨by rw [fits_i64]; omega, by omega, by rw [fits_i64]; omega, cntJ_intro () hja rfl trivial⟩
  · have : j = names.length := by omega
    subst this
    rw [List.take_length]
    exact ⟨by simp, rfl⟩
theorem sem_OpenName_1 (k : Int) (s : ByteArray) (e : Int × ByteArray) (he : -4294967296 ≤ e.1 ∧ e.1 ≤ 4294967296) (lvl : Nat) (S : Sto) : Sem Go.Proofs.Tryz.prog fid_impl_OpenName_1 lvl [oE e, .ta [tv k], .ta [ts s]] S (oE (openT k s e)) S := by
  refine sem_of_chk k_impl_OpenName_1 (by simp [low, men, mens]) ?_
  simp only [c_impl_OpenName_1, EVA, ↓reduceIte, Nat.reduceEqDiff, Nat.reduceMul, reduceCtorEq, Nat.reduceAdd, Nat.reduceSub, Nat.reduceLeDiff, Nat.reduceLT, Int.reduceToNat, Int.reduceLE, Int.reduceLT, mens, men]
  unfold openT
  by_cases h : e.2 = e0S
  · have h' : e.2 = { data := #[] } := h
    by_cases h2 : e.1 < k
    · simp [h', h2, oE]
    · by_cases h3 : e.1 = k
      · simp [h', h2, h3, oE]
      · simp only [h', h2, h3, oE]
        simp
        rw [fits_i64]; omega
  · have h' : ¬ e.2 = { data := #[] } := h
    simp [h', oE]
theorem endB_fit {b : TBigraph} {l : Int} (he : 0 ≤ b.edges ∧ b.edges ≤ 8) (hl : linkOK b l) : -4294967296 ≤ (endB b l).1 ∧ (endB b l).1 ≤ 4294967296 := by
  rcases link_cases hl with ⟨h0, h1⟩ | ⟨i, hi, rfl⟩
  · rw [endB_e h1]; dsimp only; omega
  · rw [endB_n hi]; dsimp only; omega
theorem openL_len {b : TBigraph} {k : Int} {s : ByteArray} (h : 0 ≤ b.edges) : ((openL b k s).length : Int) = b.edges + b.outer.length := by
  rw [openL, tabL]
  rw [List.length_append, List.length_map, List.length_map, upto_len]
  omega
theorem openO_len {b : TBigraph} {s : ByteArray} : (openO b s).length ≤ b.outer.length + 1 := Nat.le_trans setS_len (by simp)
theorem openL_fit {sig : List TControl} {b : TBigraph} {k : Int} {s : ByteArray} (h : bigOK sig b) (hk : 0 ≤ k ∧ k ≤ b.edges - 1) {l : Int} (hl : linkOK b l) : 0 ≤ g0 (openL b k s) l.toNat ∧ g0 (openL b k s) l.toNat ≤ 100 := by
  have he := h.edges
  have h4 := h.small.outer
  have ho := openO_len (b := b) (s := s)
  have x1 := ixS_le (l := openO b s) (s := s)
  have x3 : 0 ≤ ixS (openO b s) s := ixS_nn.2 (setS_mem.2 (by simp))
  unfold openL
  rcases link_cases hl with ⟨h0, h1⟩ | ⟨i, hi, rfl⟩
  · rw [tabL_e h0 h1]
    split
    · omega
    · split <;> omega
  · rw [tabL_n he.1 hi]
    have x2 := ixS_le (l := openO b s) (s := b.outer[i])
    have x4 : 0 ≤ ixS (openO b s) b.outer[i] := ixS_nn.2 (setS_mem.2 (by simp))
    omega
def openOK (sig : List TControl) (b : TBigraph) (k : Int) (s : ByteArray) : Prop := bigOK sig b ∧ (0 ≤ k ∧ k ≤ b.edges - 1) ∧ s ∉ b.outer ∧ bigOK sig (openB b k s)
theorem open_nm {sig : List TControl} {b : TBigraph} {k : Int} {s : ByteArray} (h : bigOK sig (openB b k s)) : isNm s := by
  have hm : s ∈ (openB b k s).outer := setS_mem.2 (by simp)
  obtain ⟨i, hi, e⟩ := List.getElem_of_mem hm
  have := (h.outer.1 i hi).1
  rwa [e] at this
open Classical in
noncomputable def r0_OpenName (sig : List TControl) (b : TBigraph) (k : Int) (s : ByteArray) : TBigraph := if openOK sig b k s then openB b k s else emptyB
noncomputable def r1_OpenName (sig : List TControl) (b : TBigraph) (k : Int) (s : ByteArray) : Bool := dc (openOK sig b k s)
theorem open_bd {sig : List TControl} {b : TBigraph} {k : Int} {s : ByteArray} (h : bigOK sig b) (hb : bdBigraph 4294967296 b) (hs : s.size ≤ 4294967290) : bdBigraph 4294967290 (openB b k s) :=
  mapB_bd h hb (Nat.le_trans openO_len (by have := h.outer.2; omega)) fun y hy => by
    rcases List.mem_append.1 (setS_mem.1 hy) with hy | hy
    · have := names_size h.outer hy
      omega
    · rw [List.mem_singleton.1 hy]; exact hs
theorem open_ft {sig : List TControl} {b : TBigraph} {k : Int} {s : ByteArray} (h : bigOK sig b) (hk : 0 ≤ k ∧ k ≤ b.edges - 1) (hf : ftBigraph b) : ftBigraph (openB b k s) :=
  mapB_ft h hf (fun l hl => openL_fit h hk hl) (by have := h.edges; rw [fits_i64]; omega)
theorem sem_impl_OpenName (sig : List TControl) (b : TBigraph) (k : Int) (s : ByteArray) (hn : sig.length ≤ 4294967296) (hbs : ∀ y ∈ sig, bdControl 4294967296 y) (hb : bdBigraph 4294967296 b) (hs : s.size ≤ 4294967296) (hf : ftBigraph b) (lvl : Nat) (S : Sto) : Sem Go.Proofs.Tryz.prog fid_impl_OpenName lvl [.tr (.sl (sig.map cControl)), .ag ((cBigraph b).map .tr), iI k, iS s] S (.tu [oBigraph (r0_OpenName sig b k s), iB (r1_OpenName sig b k s)]) S := by
  refine sem_of_chk k_impl_OpenName (by simp [oBigraph, low, men, mens]) ?_
  simp only [c_impl_OpenName, cBigraph, EVA, ↓reduceIte, Nat.reduceEqDiff, Nat.reduceMul, reduceCtorEq, Nat.reduceAdd, Nat.reduceSub, Nat.reduceLeDiff, Nat.reduceLT, Int.reduceToNat, Int.reduceLE, Int.reduceLT, mens, men]
  refine kca_intro (sem_impl_IsBigraph sig b hn hbs hb) ?_
  unfold r0_OpenName r1_OpenName
  cases h1 : dc (bigOK sig b)
  · have hno : ¬ openOK sig b k s := fun g => dc_not.1 h1 g.1
    rw [if_neg hno, dc_false hno]
    simp only [EVA, ↓reduceIte, Nat.reduceEqDiff, Nat.reduceMul, reduceCtorEq, Nat.reduceAdd, Nat.reduceSub, Nat.reduceLeDiff, Nat.reduceLT, Int.reduceToNat, Int.reduceLE, Int.reduceLT, mens, men]
    rfl
  have hG := dc_iff.1 h1
  have hE := hG.edges
  have h4 := hG.small.outer
  simp only [cBigraph, EVA, ↓reduceIte, Nat.reduceEqDiff, Nat.reduceMul, reduceCtorEq, Nat.reduceAdd, Nat.reduceSub, Nat.reduceLeDiff, Nat.reduceLT, Int.reduceToNat, Int.reduceLE, Int.reduceLT, mens, men]
  refine ⟨by rw [fits_i64]; omega, ?_⟩
  refine kca_intro (sem_within k 0 (b.edges - 1)) ?_
  cases h2 : inB k 0 (b.edges - 1)
  · have hno : ¬ openOK sig b k s := fun g => inB_not.1 h2 g.2.1
    rw [if_neg hno, dc_false hno]
    simp only [EVA, ↓reduceIte, Nat.reduceEqDiff, Nat.reduceMul, reduceCtorEq, Nat.reduceAdd, Nat.reduceSub, Nat.reduceLeDiff, Nat.reduceLT, Int.reduceToNat, Int.reduceLE, Int.reduceLT, mens, men]
    rfl
  have hk := inB_iff.1 h2
  simp only [cBigraph, EVA, ↓reduceIte, Nat.reduceEqDiff, Nat.reduceMul, reduceCtorEq, Nat.reduceAdd, Nat.reduceSub, Nat.reduceLeDiff, Nat.reduceLT, Int.reduceToNat, Int.reduceLE, Int.reduceLT, mens, men]
  refine kca_intro (sem_isName s (by omega)) ?_
  cases h3 : dc (isNm s)
  · have hno : ¬ openOK sig b k s := fun g => dc_not.1 h3 (open_nm g.2.2.2)
    rw [if_neg hno, dc_false hno]
    simp only [EVA, ↓reduceIte, Nat.reduceEqDiff, Nat.reduceMul, reduceCtorEq, Nat.reduceAdd, Nat.reduceSub, Nat.reduceLeDiff, Nat.reduceLT, Int.reduceToNat, Int.reduceLE, Int.reduceLT, mens, men]
    rfl
  have hnm := dc_iff.1 h3
  simp only [cBigraph, EVA, ↓reduceIte, Nat.reduceEqDiff, Nat.reduceMul, reduceCtorEq, Nat.reduceAdd, Nat.reduceSub, Nat.reduceLeDiff, Nat.reduceLT, Int.reduceToNat, Int.reduceLE, Int.reduceLT, mens, men]
  refine kca_intro (sem_ContainsS b.outer s (by have := hb.2.2.2.1; omega)) ?_
  cases h5 : dc (s ∈ b.outer)
  · have hM := dc_not.1 h5
    simp only [cBigraph, EVA, ↓reduceIte, Nat.reduceEqDiff, Nat.reduceMul, reduceCtorEq, Nat.reduceAdd, Nat.reduceSub, Nat.reduceLeDiff, Nat.reduceLT, Int.reduceToNat, Int.reduceLE, Int.reduceLT, mens, men]
    refine ⟨by rw [fits_i64]; omega, kca_intro (sem_CloneS b.outer (by omega)) ?_⟩
    simp only [cBigraph, List.length_map, EVA, ↓reduceIte, Nat.reduceEqDiff, Nat.reduceMul, reduceCtorEq, Nat.reduceAdd, Nat.reduceSub, Nat.reduceLeDiff, Nat.reduceLT, Int.reduceToNat, Int.reduceLE, Int.reduceLT, mens, men]
    have hne : s ≠ e0S := fun e => by
      rw [e] at hnm
      exact absurd hnm.2.1 (by decide)
    have q := sem_relinked b (b.edges - 1) (b.outer ++ [s]) fid_impl_OpenName_1 [[tv k], [ts s]] (openT k s) hE.1 (bd_mono (by omega) (bd_small hG)) (by omega) (by omega) (by rw [List.length_append]; simp only [List.length_cons, List.length_nil]; omega) (fun x hx l hl => by
      obtain ⟨i, hi, rfl⟩ := List.getElem_of_mem hx
      exact (hG.nodes i hi).links l hl) hG.inner (fun l hl lvl S => sem_OpenName_1 k s (endB b l) (endB_fit hE hl) lvl S)
    rw [show setS (b.outer ++ [s]) = openO b s from rfl, open_eq hG hne] at q
    rw [show cut (rS b.outer ++ [[Tr.v (Value.string s)]]) 0 (b.outer.length + 1) = rS (b.outer ++ [s]) from by
      rw [cut_all (by simp [rS])]
      simp [rS]]
    simp only [cBigraph, List.map_cons, List.map_nil] at q
    refine ⟨by omega, by simp [rS], kca_intro q ?_⟩
    simp only [oBigraph, List.length_map, EVA, ↓reduceIte, Nat.reduceEqDiff, Nat.reduceMul, reduceCtorEq, Nat.reduceAdd, Nat.reduceSub, Nat.reduceLeDiff, Nat.reduceLT, Int.reduceToNat, Int.reduceLE, Int.reduceLT, mens, men]
    have qv := sem_valid sig (openB b k s) hn hbs (open_bd hG hb (by have := hnm.2.2; omega)) (open_ft hG hk hf)
    simp only [cBigraph, List.map_cons, List.map_nil] at qv
    refine kca_intro qv ?_
    cases h6 : dc (bigOK sig (openB b k s))
    · have hno : ¬ openOK sig b k s := fun g => dc_not.1 h6 g.2.2.2
      rw [if_neg hno, dc_false hno, if_neg (dc_not.1 h6)]
      simp only [oBigraph, List.length_map, EVA, ↓reduceIte, Nat.reduceEqDiff, Nat.reduceMul, reduceCtorEq, Nat.reduceAdd, Nat.reduceSub, Nat.reduceLeDiff, Nat.reduceLT, Int.reduceToNat, Int.reduceLE, Int.reduceLT, mens, men]
      rfl
    · have hyes : openOK sig b k s := ⟨hG, hk, hM, dc_iff.1 h6⟩
      rw [if_pos hyes, dc_true hyes, if_pos (dc_iff.1 h6)]
      simp only [oBigraph, List.length_map, EVA, ↓reduceIte, Nat.reduceEqDiff, Nat.reduceMul, reduceCtorEq, Nat.reduceAdd, Nat.reduceSub, Nat.reduceLeDiff, Nat.reduceLT, Int.reduceToNat, Int.reduceLE, Int.reduceLT, mens, men]
  · have hno : ¬ openOK sig b k s := fun g => g.2.2.1 (dc_iff.1 h5)
    rw [if_neg hno, dc_false hno]
    simp only [EVA, ↓reduceIte, Nat.reduceEqDiff, Nat.reduceMul, reduceCtorEq, Nat.reduceAdd, Nat.reduceSub, Nat.reduceLeDiff, Nat.reduceLT, Int.reduceToNat, Int.reduceLE, Int.reduceLT, mens, men]
    rfl
theorem mapB_bd6 {sig : List TControl} {b : TBigraph} (h : bigOK sig b) {F : Int → Int} {e : Int} {o : List ByteArray} (ho : o.length ≤ 100) (hos : ∀ y ∈ o, y.size ≤ 4294967296) : bdBigraph 4294967296 (mapB b F e o) := by
  obtain ⟨b1, b2, b3, b4, b5, b6, b7⟩ := mapB_bd (F := F) (e := e) (o := []) h (bd_mono (by omega) (bd_small h)) (by simp) (by simp)
  refine ⟨Nat.le_trans (show (mapB b F e o).nodes.length ≤ 4294967290 from b1) (by omega), fun y hy => ?_, Nat.le_trans (show (mapB b F e o).sites.length ≤ 4294967290 from b3) (by omega), by show o.length ≤ _; omega, hos, Nat.le_trans (show (mapB b F e o).inner.length ≤ 4294967290 from b6) (by omega), fun y hy => ?_⟩
  · have := b2 y hy
    simp only [bdNode] at this ⊢
    omega
  · have := b7 y hy
    simp only [bdWire] at this ⊢
    omega
theorem open_bd6 {sig : List TControl} {b : TBigraph} {k : Int} {s : ByteArray} (h : bigOK sig b) (hs : s.size ≤ 4294967296) : bdBigraph 4294967296 (openB b k s) :=
  mapB_bd6 h (Nat.le_trans openO_len (by have := h.outer.2; omega)) fun y hy => by
    rcases List.mem_append.1 (setS_mem.1 hy) with hy | hy
    · have := names_size h.outer hy
      omega
    · rw [List.mem_singleton.1 hy]; exact hs
theorem spec_Open_low (sig : List TControl) (b : TBigraph) (k : Int) (s : ByteArray) (hn : sig.length ≤ 4294967296) (hbs : ∀ y ∈ sig, bdControl 4294967296 y) (hb : bdBigraph 4294967296 b) (hf : ftBigraph b) (hno : ¬ (bigOK sig b ∧ (0 ≤ k ∧ k ≤ b.edges - 1) ∧ s ∉ b.outer)) (lvl : Nat) (S : Sto) : Sem Go.Proofs.Tryz.prog fid_spec_OpenName lvl [.tr (.sl (sig.map cControl)), .ag ((cBigraph b).map .tr), iI k, iS s] S (.tu [oBigraph emptyB, iB false]) S := by
  refine sem_of_chk k_spec_OpenName (by simp [oBigraph, low, men, mens]) ?_
  simp only [c_spec_OpenName, cBigraph, EVA, ↓reduceIte, Nat.reduceEqDiff, Nat.reduceMul, reduceCtorEq, Nat.reduceAdd, Nat.reduceSub, Nat.reduceLeDiff, Nat.reduceLT, Int.reduceToNat, Int.reduceLE, Int.reduceLT, mens, men]
  have q := sem_l2Good sig b hn hbs hb hf
  simp only [cBigraph, List.map_cons, List.map_nil] at q
  refine kca_intro q ?_
  cases h1 : dc (bigOK sig b)
  · simp only [EVA, ↓reduceIte, Nat.reduceEqDiff, Nat.reduceMul, reduceCtorEq, Nat.reduceAdd, Nat.reduceSub, Nat.reduceLeDiff, Nat.reduceLT, Int.reduceToNat, Int.reduceLE, Int.reduceLT, mens, men]
    rfl
  have hG := dc_iff.1 h1
  have hE := hG.edges
  simp only [cBigraph, EVA, ↓reduceIte, Nat.reduceEqDiff, Nat.reduceMul, reduceCtorEq, Nat.reduceAdd, Nat.reduceSub, Nat.reduceLeDiff, Nat.reduceLT, Int.reduceToNat, Int.reduceLE, Int.reduceLT, mens, men]
  refine ⟨by rw [fits_i64]; omega, ?_⟩
  refine kca_intro (sem_l1In k 0 (b.edges - 1)) ?_
  cases h2 : inB k 0 (b.edges - 1)
  · simp only [EVA, ↓reduceIte, Nat.reduceEqDiff, Nat.reduceMul, reduceCtorEq, Nat.reduceAdd, Nat.reduceSub, Nat.reduceLeDiff, Nat.reduceLT, Int.reduceToNat, Int.reduceLE, Int.reduceLT, mens, men]
    rfl
  have hk := inB_iff.1 h2
  simp only [cBigraph, EVA, ↓reduceIte, Nat.reduceEqDiff, Nat.reduceMul, reduceCtorEq, Nat.reduceAdd, Nat.reduceSub, Nat.reduceLeDiff, Nat.reduceLT, Int.reduceToNat, Int.reduceLE, Int.reduceLT, mens, men]
  refine kca_intro (sem_l2At b.outer s (by have := hb.2.2.2.1; omega)) ?_
  have hm : s ∈ b.outer := Classical.byContradiction fun g => hno ⟨hG, hk, g⟩
  have e := ixS_nn.2 hm
  simp only [e, EVA, ↓reduceIte, Nat.reduceEqDiff, Nat.reduceMul, reduceCtorEq, Nat.reduceAdd, Nat.reduceSub, Nat.reduceLeDiff, Nat.reduceLT, Int.reduceToNat, Int.reduceLE, Int.reduceLT, mens, men]
  rfl
def tabE (b : TBigraph) (f : Int → Int) (j : Nat) : List Int := (upto j).map f
theorem tabE_succ {b : TBigraph} {f : Int → Int} {j : Nat} : tabE b f (j + 1) = tabE b f j ++ [f j] := by simp [tabE, upto, List.range_succ]
theorem tabE_len {b : TBigraph} {f : Int → Int} {j : Nat} : (tabE b f j).length = j := by simp [tabE, upto]
theorem sem_spec_Open_up (sig : List TControl) (b : TBigraph) (k : Int) (s : ByteArray) (hn : sig.length ≤ 4294967296) (hbs : ∀ y ∈ sig, bdControl 4294967296 y) (hb : bdBigraph 4294967296 b) (hs : s.size ≤ 4294967296) (hf : ftBigraph b) (hG : bigOK sig b) (hk : 0 ≤ k ∧ k ≤ b.edges - 1) (hM : s ∉ b.outer)
    (lvl : Nat) (S : Sto) : Sem Go.Proofs.Tryz.prog fid_spec_OpenName lvl [.tr (.sl (sig.map cControl)), .ag ((cBigraph b).map .tr), iI k, iS s] S (.tu [@ite IV (bigOK sig (openB b k s)) (Classical.propDecidable _) (.ag ((cBigraph (openB b k s)).map .tr)) (oBigraph emptyB), iB (dc (bigOK sig (openB b k s)))]) S := by
  have h4 := hG.small.outer
  have hE := hG.edges
  refine sem_of_chk k_spec_OpenName (by split <;> simp [oBigraph, cBigraph, low, men, mens]) ?_
  simp only [c_spec_OpenName, cBigraph, EVA, ↓reduceIte, Nat.reduceEqDiff, Nat.reduceMul, reduceCtorEq, Nat.reduceAdd, Nat.reduceSub, Nat.reduceLeDiff, Nat.reduceLT, Int.reduceToNat, Int.reduceLE, Int.reduceLT, mens, men]
  have q := sem_l2Good sig b hn hbs hb hf
  simp only [cBigraph, List.map_cons, List.map_nil] at q
  refine kca_intro q ?_
  rw [dc_true hG]
  simp only [cBigraph, EVA, ↓reduceIte, Nat.reduceEqDiff, Nat.reduceMul, reduceCtorEq, Nat.reduceAdd, Nat.reduceSub, Nat.reduceLeDiff, Nat.reduceLT, Int.reduceToNat, Int.reduceLE, Int.reduceLT, mens, men]
  refine ⟨by rw [fits_i64]; omega, ?_⟩
  refine kca_intro (sem_l1In k 0 (b.edges - 1)) ?_
  rw [inB_iff.2 hk]
  simp only [cBigraph, EVA, ↓reduceIte, Nat.reduceEqDiff, Nat.reduceMul, reduceCtorEq, Nat.reduceAdd, Nat.reduceSub, Nat.reduceLeDiff, Nat.reduceLT, Int.reduceToNat, Int.reduceLE, Int.reduceLT, mens, men]
  refine kca_intro (sem_l2At b.outer s (by omega)) ?_
  have e := ixS_no hM
  simp only [e, cBigraph, scrS, unrS, Nat.zero_max, List.length_map, EVA, ↓reduceIte, Nat.reduceEqDiff, Nat.reduceMul, reduceCtorEq, Nat.reduceAdd, Nat.reduceSub, Nat.reduceLeDiff, Nat.reduceLT, Int.reduceToNat, Int.reduceLE, Int.reduceLT, mens, men]
  rw [show cut (rS b.outer ++ [[Tr.v (Value.string s)]]) 0 (b.outer.length + 1) = rS (b.outer ++ [s]) from by
    rw [cut_all (by simp [rS])]
    simp [rS]]
  refine ⟨by omega, by omega, by simp [rS], kca_intro (sem_l2Sorted (b.outer ++ [s]) (by rw [List.length_append]; simp only [List.length_cons, List.length_nil]; omega)) ?_⟩
  rw [show setS (b.outer ++ [s]) = openO b s from rfl]
  simp only [cBigraph, List.length_map, EVA, ↓reduceIte, Nat.reduceEqDiff, Nat.reduceMul, reduceCtorEq, Nat.reduceAdd, Nat.reduceSub, Nat.reduceLeDiff, Nat.reduceLT, Int.reduceToNat, Int.reduceLE, Int.reduceLT, mens, men]
  obtain ⟨n, hn2⟩ : ∃ n : Nat, b.edges = n := ⟨b.edges.toNat, by omega⟩
  have hol := openO_len (b := b) (s := s)
  have y1 := ixS_le (l := openO b s) (s := s)
  have y2 : 0 ≤ ixS (openO b s) s := ixS_nn.2 (setS_mem.2 (by simp))
  obtain ⟨f, hf2⟩ : ∃ f : Int → Int, f = fun l => if l < k then l else if l = k then b.edges - 1 + ixS (openO b s) s else l - 1 := ⟨_, rfl⟩
  refine wp_cnt (α := Unit) n (fun j _ => [(11, .hd (lvl, 1312) [] 0 j none j), (12, iI j)]) (fun j _ => [(1312, .ar 1 (rI (tabE b f j)) true j 0)]) (fun _ _ => True) () (by simp only [EVA, ↓reduceIte, Nat.reduceEqDiff, Nat.reduceMul, reduceCtorEq, Nat.reduceAdd, Nat.reduceSub, Nat.reduceLeDiff, Nat.reduceLT, Int.reduceToNat, Int.reduceLE, Int.reduceLT, mens, men]) (by (simp only [EVA, ↓reduceIte, Nat.reduceEqDiff, Nat.reduceMul, reduceCtorEq, Nat.reduceAdd, Nat.reduceSub, Nat.reduceLeDiff, Nat.reduceLT, Int.reduceToNat, Int.reduceLE, Int.reduceLT, mens, men]) <;> rfl) trivial ?_
  intro j _ hj _
  simp only [List.length_map, EVA, ↓reduceIte, Nat.reduceEqDiff, Nat.reduceMul, reduceCtorEq, Nat.reduceAdd, Nat.reduceSub, Nat.reduceLeDiff, Nat.reduceLT, Int.reduceToNat, Int.reduceLE, Int.reduceLT, mens, men]
  refine ite_of (fun hlt => ?_) (fun hge => ?_)
  · have hja : j < n := by omega
    have htl := tabE_len (b := b) (f := f) (j := j)
    have hs2 := tabE_succ (b := b) (f := f) (j := j)
    by_cases c1 : (j : Int) < k
    · have hfx : f j = j := by rw [hf2]; simp [c1]
      rw [hfx] at hs2
      simp only [c1, htl, List.length_map, EVA, ↓reduceIte, Nat.reduceEqDiff, Nat.reduceMul, reduceCtorEq, Nat.reduceAdd, Nat.reduceSub, Nat.reduceLeDiff, Nat.reduceLT, Int.reduceToNat, Int.reduceLE, Int.reduceLT, mens, men]
      exact ⟨by omega, by rw [fits_i64]; omega, cntJ_intro () hja (by rw [hs2, rI_app]; rfl) trivial⟩
    · by_cases c2 : (j : Int) = k
      · have hfx : f j = b.edges - 1 + ixS (openO b s) s := by rw [hf2]; simp [c2]
        rw [hfx] at hs2
        have c1' : ¬ k < k := by omega
        simp only [c1', c2, htl, List.length_map, EVA, ↓reduceIte, Nat.reduceEqDiff, Nat.reduceMul, reduceCtorEq, Nat.reduceAdd, Nat.reduceSub, Nat.reduceLeDiff, Nat.reduceLT, Int.reduceToNat, Int.reduceLE, Int.reduceLT, mens, men]
        refine ⟨by rw [fits_i64]; omega, kca_intro (sem_l2At (openO b s) s (by omega)) ?_⟩
        simp only [c1', c2, htl, List.length_map, EVA, ↓reduceIte, Nat.reduceEqDiff, Nat.reduceMul, reduceCtorEq, Nat.reduceAdd, Nat.reduceSub, Nat.reduceLeDiff, Nat.reduceLT, Int.reduceToNat, Int.reduceLE, Int.reduceLT, mens, men]
        exact ⟨by rw [fits_i64]; omega, by omega, by rw [fits_i64]; omega, cntJ_intro () hja (by rw [hs2, rI_app, ← c2]; rfl) trivial⟩
      · have hfx : f j = j - 1 := by rw [hf2]; simp [c1, c2]
        rw [hfx] at hs2
        simp only [c1, c2, htl, List.length_map, EVA, ↓reduceIte, Nat.reduceEqDiff, Nat.reduceMul, reduceCtorEq, Nat.reduceAdd, Nat.reduceSub, Nat.reduceLeDiff, Nat.reduceLT, Int.reduceToNat, Int.reduceLE, Int.reduceLT, mens, men]
        exact ⟨by rw [fits_i64]; omega, by omega, by rw [fits_i64]; omega, cntJ_intro () hja (by rw [hs2, rI_app]; rfl) trivial⟩
  · have : j = n := by omega
    subst this
    refine ⟨by rw [fits_i64]; omega, ?_⟩
    refine kca_intro (sem_l4Named b.outer (b.edges - 1) (openO b s) (by omega) (by omega) (by omega)) ?_
    have htl := tabE_len (b := b) (f := f) (j := j)
    simp only [cBigraph, scrI3, unrI3, htl, List.length_append, List.length_map, EVA, ↓reduceIte, Nat.reduceEqDiff, Nat.reduceMul, reduceCtorEq, Nat.reduceAdd, Nat.reduceSub, Nat.reduceLeDiff, Nat.reduceLT, Int.reduceToNat, Int.reduceLE, Int.reduceLT, mens, men]
    have hfin : rI (tabE b f j) ++ rI (b.outer.map fun x => b.edges - 1 + ixS (openO b s) x) = rI (openL b k s) := by
      rw [← rI_app, openL, tabL, tabE, hf2, hn2, Int.toNat_natCast]
    have hlen := openL_len (b := b) (k := k) (s := s) hE.1
    rw [hfin, show j + b.outer.length = (openL b k s).length by omega]
    rw [show cut (rI (openL b k s)) 0 (openL b k s).length = rI (openL b k s) from cut_all (by rw [List.length_map])]
    refine ⟨by omega, by rw [fits_i64]; omega, ?_⟩
    have qR := sem_l4Relink sig b hG (openL b k s) (b.edges - 1) (openO b s) hb (fun l hl => by have := hl.2; omega) (by omega)
    rw [show mapB b (fun l => g0 (openL b k s) l.toNat) (b.edges - 1) (openO b s) = openB b k s from rfl] at qR
    simp only [cBigraph, List.map_cons, List.map_nil] at qR
    refine kca_intro qR ?_
    simp only [oBigraph, cBigraph, List.length_map, EVA, ↓reduceIte, Nat.reduceEqDiff, Nat.reduceMul, reduceCtorEq, Nat.reduceAdd, Nat.reduceSub, Nat.reduceLeDiff, Nat.reduceLT, Int.reduceToNat, Int.reduceLE, Int.reduceLT, mens, men]
    by_cases hq : bigOK sig (openB b k s)
    · have qG := sem_l2Give_y sig (openB b k s) hn hbs (open_bd6 hG hs) (open_ft hG hk hf) hq
      simp only [cBigraph, List.map_cons, List.map_nil] at qG
      rw [if_pos hq, dc_true hq]
      refine kca_intro qG ?_
      simp only [oBigraph, cBigraph, List.length_map, EVA, ↓reduceIte, Nat.reduceEqDiff, Nat.reduceMul, reduceCtorEq, Nat.reduceAdd, Nat.reduceSub, Nat.reduceLeDiff, Nat.reduceLT, Int.reduceToNat, Int.reduceLE, Int.reduceLT, mens, men]
    · have qG := sem_l2Give_n sig (openB b k s) hn hbs (open_bd6 hG hs) (open_ft hG hk hf) hq
      simp only [cBigraph, List.map_cons, List.map_nil] at qG
      rw [if_neg hq, dc_false hq]
      refine kca_intro qG ?_
      simp only [oBigraph, cBigraph, List.length_map, EVA, ↓reduceIte, Nat.reduceEqDiff, Nat.reduceMul, reduceCtorEq, Nat.reduceAdd, Nat.reduceSub, Nat.reduceLeDiff, Nat.reduceLT, Int.reduceToNat, Int.reduceLE, Int.reduceLT, mens, men]
      try rfl
end Go.Fd

/-
  OpenName: BOTH ANSWERS OF THE REFERENCE. Own work.
-/
namespace Go.Fd
theorem sem_spec_OpenName_y (sig : List TControl) (b : TBigraph) (k : Int) (s : ByteArray) (hn : sig.length ≤ 4294967296) (hbs : ∀ y ∈ sig, bdControl 4294967296 y) (hb : bdBigraph 4294967296 b) (hs : s.size ≤ 4294967296) (hf : ftBigraph b) (hB : openOK sig b k s) (lvl : Nat) (S : Sto) : Sem Go.Proofs.Tryz.prog fid_spec_OpenName lvl [.tr (.sl (sig.map cControl)), .ag ((cBigraph b).map .tr), iI k, iS s] S (.tu [.ag ((cBigraph (r0_OpenName sig b k s)).map .tr), iB (r1_OpenName sig b k s)]) S := by
  have h := sem_spec_Open_up sig b k s hn hbs hb hs hf hB.1 hB.2.1 hB.2.2.1 lvl S
  unfold r0_OpenName r1_OpenName
  rw [if_pos hB, dc_true hB]
  rw [if_pos hB.2.2.2, dc_true hB.2.2.2] at h
  exact h
theorem sem_spec_OpenName_n (sig : List TControl) (b : TBigraph) (k : Int) (s : ByteArray) (hn : sig.length ≤ 4294967296) (hbs : ∀ y ∈ sig, bdControl 4294967296 y) (hb : bdBigraph 4294967296 b) (hs : s.size ≤ 4294967296) (hf : ftBigraph b) (hB : ¬ openOK sig b k s) (lvl : Nat) (S : Sto) : Sem Go.Proofs.Tryz.prog fid_spec_OpenName lvl [.tr (.sl (sig.map cControl)), .ag ((cBigraph b).map .tr), iI k, iS s] S (.tu [oBigraph (r0_OpenName sig b k s), iB (r1_OpenName sig b k s)]) S := by
  unfold r0_OpenName r1_OpenName
  rw [if_neg hB, dc_false hB]
  by_cases hl : bigOK sig b ∧ (0 ≤ k ∧ k ≤ b.edges - 1) ∧ s ∉ b.outer
  · have h := sem_spec_Open_up sig b k s hn hbs hb hs hf hl.1 hl.2.1 hl.2.2 lvl S
    have hq : ¬ bigOK sig (openB b k s) := fun g => hB ⟨hl.1, hl.2.1, hl.2.2, g⟩
    rw [if_neg hq, dc_false hq] at h
    exact h
  · exact spec_Open_low sig b k s hn hbs hb hf hl lvl S
end Go.Fd

/-
  The annotated codes of the functions, printed by a program of mine (gen.py), and the check that they belong to the program.
-/
namespace Go.Fd
def c_laws_FnExactOpenName : F2 :=
  { nt := 132, res := [.t 8 [0]], body :=
   (.sq (rg [oo 5 (.bt (.t 1)),
 om 8 (.k (.bool false))])
 (.sq (.sq (rg [om 21 (.t 3),
 oo 22 (.lg (.t 21)),
 oo 23 (.bi .gtr 0 (.t 22) (i6 1048576))])
 (.cd (.t 23) (.sq (rg [om 8 (.k (.bool true))])
 (.rt))
 (.sk)))
 (.sq (rg [om 9 (i6 1048576)])
 (.sq (rg [om 24 (.t 0),
 om 25 (.t 9),
 oo 26 (.ca .pure false (.f fid_laws_szControlS) [.t 24, .t 25]),
 om 9 (.t 26)])
 (.sq (.sq (rg [om 27 (.t 9),
 oo 28 (.bi .lss 0 (.t 27) (i6 0))])
 (.cd (.t 28) (.sq (rg [om 8 (.k (.bool true))])
 (.rt))
 (.sk)))
 (.sq (rg [oo 29 (.ld (some 6) (.t 5)),
 om 30 (.t 9),
 oo 31 (.ca .pure false (.f fid_laws_szBigraph) [.t 29, .t 30]),
 om 9 (.t 31)])
 (.sq (.sq (rg [om 32 (.t 9),
 oo 33 (.bi .lss 0 (.t 32) (i6 0))])
 (.cd (.t 33) (.sq (rg [om 8 (.k (.bool true))])
 (.rt))
 (.sk)))
 (.sq (.rg (some 0) [om 35 (.t 0),
 oo 36 (.ca .pure false (.f fid_laws_toControlS) [.t 35]),
 oo 37 (.ld (some 6) (.t 5)),
 oo 38 (.ca .pure false (.f fid_laws_toBigraph) [.t 37]),
 om 39 (.t 2),
 om 40 (.t 3),
 oo 41 (.ca .pure false (.f fid_spec_OpenName) [.t 36, .t 38, .t 39, .t 40]),
 om 34 (.t 41),
 oo 42 (.ex 0 (.t 34)),
 oo 43 (.ex 1 (.t 34)),
 oo 10 (.al [.int .i64 0, .slice none 0 0, .slice none 0 0, .int .i64 0, .slice none 0 0, .slice none 0 0] []),
 on1 (.s0 6 (.t 10) (.t 42)),
 om 11 (.t 43)])
 (.sq (rg [om 44 (.t 0),
 oo 45 (.ca .pure true (.f fid_laws_toControlS) [.t 44]),
 om 12 (.t 45)])
 (.sq (rg [oo 46 (.ld (some 6) (.t 5)),
 oo 47 (.ca .pure true (.f fid_laws_toBigraph) [.t 46]),
 oo 13 (.al [.int .i64 0, .slice none 0 0, .slice none 0 0, .int .i64 0, .slice none 0 0, .slice none 0 0] []),
 on1 (.st 6 (.t 13) (.t 47))])
 (.sq (rg [om 49 (.t 12),
 oo 50 (.ld (some 6) (.t 13)),
 om 51 (.t 2),
 om 52 (.t 3),
 oo 53 (.ca .pure true (.f fid_impl_OpenName) [.t 49, .t 50, .t 51, .t 52]),
 om 48 (.t 53),
 oo 54 (.ex 0 (.t 48)),
 oo 55 (.ex 1 (.t 48)),
 oo 14 (.al [.int .i64 0, .slice none 0 0, .slice none 0 0, .int .i64 0, .slice none 0 0, .slice none 0 0] []),
 on1 (.st 6 (.t 14) (.t 54)),
 om 15 (.t 55)])
 (.sq (.sq (rg [oo 56 (.ld (some 6) (.t 14)),
 oo 57 (.ld (some 6) (.t 10)),
 oo 58 (.ca .pure false (.f fid_laws_eqBigraph) [.t 56, .t 57]),
 oo 59 (.nt (.t 58)),
 om 60 (.t 59),
 og 61 60 false (.mv (.t 15) none),
 og 62 60 false (.mv (.t 11) none),
 og 63 60 false (.bi .neq 2 (.t 61) (.t 62)),
 oo 64 (.pk (.t 60) (.k (.bool true)) (.t 63))])
 (.cd (.t 64) (.sq (rg [om 8 (.k (.bool false))])
 (.rt))
 (.sk)))
 (.sq (.sq (rg [om 65 (.t 12),
 om 66 (.t 0),
 oo 67 (.ca .pure false (.f fid_laws_toControlS) [.t 66]),
 oo 68 (.ca .pure false (.f fid_laws_eqControlS) [.t 65, .t 67]),
 oo 69 (.nt (.t 68))])
 (.cd (.t 69) (.sq (rg [om 8 (.k (.bool false))])
 (.rt))
 (.sk)))
 (.sq (.sq (.rg (some 0) [oo 70 (.ld (some 6) (.t 13)),
 oo 71 (.ld (some 6) (.t 5)),
 oo 72 (.ca .pure false (.f fid_laws_toBigraph) [.t 71]),
 oo 73 (.ca .pure false (.f fid_laws_eqBigraph) [.t 70, .t 72]),
 oo 74 (.nt (.t 73))])
 (.cd (.t 74) (.sq (rg [om 8 (.k (.bool false))])
 (.rt))
 (.sk)))
 (.sq (rg [om 16 (i6 1)])
 (.sq (rg [om 75 (.t 12),
 om 76 (.t 16),
 oo 77 (.ca .any true (.f fid_laws_markControlS) [.t 75, .t 76]),
 om 16 (.t 77)])
 (.sq (rg [oo 78 (.ld (some 6) (.t 13)),
 om 79 (.t 16),
 oo 80 (.ca .any true (.f fid_laws_markBigraph) [.t 78, .t 79]),
 om 16 (.t 80)])
 (.sq (.sq (rg [om 81 (.t 16),
 oo 82 (.bi .lss 0 (.t 81) (i6 0)),
 om 83 (.t 82),
 og 84 83 false (.ld (some 6) (.t 14)),
 og 85 83 false (.ld (some 6) (.t 10)),
 og 86 83 false (.ca .pure false (.f fid_laws_eqBigraph) [.t 84, .t 85]),
 og 87 83 false (.nt (.t 86)),
 oo 88 (.pk (.t 83) (.k (.bool true)) (.t 87)),
 om 89 (.t 88),
 og 90 89 false (.mv (.t 15) none),
 og 91 89 false (.mv (.t 11) none),
 og 92 89 false (.bi .neq 2 (.t 90) (.t 91)),
 oo 93 (.pk (.t 89) (.k (.bool true)) (.t 92))])
 (.cd (.t 93) (.sq (rg [om 8 (.k (.bool false))])
 (.rt))
 (.sk)))
 (.sq (rg [om 17 (i6 1)])
 (.sq (rg [oo 94 (.ld (some 6) (.t 14)),
 om 95 (.t 17),
 oo 96 (.ca .any true (.f fid_laws_markBigraph) [.t 94, .t 95]),
 om 17 (.t 96)])
 (.sq (rg [om 18 (i6 1)])
 (.sq (rg [oo 97 (.ld (some 6) (.t 14)),
 om 98 (.t 18),
 oo 99 (.ca .pure false (.f fid_laws_heldBigraph) [.t 97, .t 98]),
 om 18 (.t 99)])
 (.sq (.sq (rg [om 100 (.t 18),
 oo 101 (.bi .lss 0 (.t 100) (i6 0))])
 (.cd (.t 101) (.sq (rg [om 8 (.k (.bool false))])
 (.rt))
 (.sk)))
 (.sq (.sq (rg [om 102 (.t 18),
 om 103 (.t 17),
 oo 104 (.bi .neq 0 (.t 102) (.t 103))])
 (.cd (.t 104) (.sq (rg [om 8 (.k (.bool false))])
 (.rt))
 (.sk)))
 (.sq (.rg (some 0) [om 106 (.t 0),
 oo 107 (.ca .pure false (.f fid_laws_toControlS) [.t 106]),
 oo 108 (.ld (some 6) (.t 5)),
 oo 109 (.ca .pure false (.f fid_laws_toBigraph) [.t 108]),
 om 110 (.t 2),
 om 111 (.t 3),
 oo 112 (.ca .pure false (.f fid_impl_OpenName) [.t 107, .t 109, .t 110, .t 111]),
 om 105 (.t 112),
 oo 113 (.ex 0 (.t 105)),
 oo 114 (.ex 1 (.t 105)),
 oo 19 (.al [.int .i64 0, .slice none 0 0, .slice none 0 0, .int .i64 0, .slice none 0 0, .slice none 0 0] []),
 on1 (.s0 6 (.t 19) (.t 113)),
 om 20 (.t 114)])
 (.sq (.sq (rg [oo 115 (.ld (some 6) (.t 19)),
 oo 116 (.ld (some 6) (.t 10)),
 oo 117 (.ca .pure false (.f fid_laws_eqBigraph) [.t 115, .t 116]),
 oo 118 (.nt (.t 117)),
 om 119 (.t 118),
 og 120 119 false (.mv (.t 20) none),
 og 121 119 false (.mv (.t 11) none),
 og 122 119 false (.bi .neq 2 (.t 120) (.t 121)),
 oo 123 (.pk (.t 119) (.k (.bool true)) (.t 122))])
 (.cd (.t 123) (.sq (rg [om 8 (.k (.bool false))])
 (.rt))
 (.sk)))
 (.sq (rg [om 18 (i6 1)])
 (.sq (rg [oo 124 (.ld (some 6) (.t 14)),
 om 125 (.t 18),
 oo 126 (.ca .pure false (.f fid_laws_heldBigraph) [.t 124, .t 125]),
 om 18 (.t 126)])
 (.sq (.sq (rg [om 127 (.t 18),
 oo 128 (.bi .lss 0 (.t 127) (i6 0))])
 (.cd (.t 128) (.sq (rg [om 8 (.k (.bool false))])
 (.rt))
 (.sk)))
 (.sq (.sq (rg [om 129 (.t 18),
 om 130 (.t 17),
 oo 131 (.bi .neq 0 (.t 129) (.t 130))])
 (.cd (.t 131) (.sq (rg [om 8 (.k (.bool false))])
 (.rt))
 (.sk)))
 (.sq (rg [om 8 (.k (.bool true))])
 (.rt)))))))))))))))))))))))))))))))) }
theorem k_laws_FnExactOpenName : chkF Go.Proofs.Tryz.prog fid_laws_FnExactOpenName c_laws_FnExactOpenName = true := by kernel_rfl

def c_laws_markControlS : F2 :=
  { nt := 35, res := [.t 4 [0]], body :=
   (.sq (rg [om 4 (i6 0)])
 (.sq (.sq (rg [om 5 (i6 0)])
 (.bl 0 (.lp [0, 1, 5] [] (.sq (.sq (rg [om 6 (.t 5),
 om 7 (.t 0),
 oo 8 (.ln (.t 7)),
 oo 9 (.bi .lss 0 (.t 6) (.t 8))])
 (.cd (.t 9) (.sk)
 (.ex 0)))
 (.sq (.bl 1 (.sq (rg [om 12 (.t 0),
 om 13 (.t 5),
 om 14 (.t 1),
 oo 15 (.ca .pure false (.f fid_laws_markText) [.t 14]),
 oo 16 (.ia 3 (.t 12) (.t 13)),
 oo 17 (.fa 0 (.t 16)),
 on1 (.st 1 (.t 17) (.t 15))])
 (.sq (rg [om 18 (.t 1),
 oo 19 (.bi .add 0 (.t 18) (i6 1)),
 om 1 (.t 19)])
 (.sq (rg [om 20 (.t 0),
 om 21 (.t 5),
 om 22 (.t 1),
 oo 23 (.ia 3 (.t 20) (.t 21)),
 oo 24 (.fa 1 (.t 23)),
 on1 (.st 1 (.t 24) (.t 22))])
 (.sq (rg [om 25 (.t 1),
 oo 26 (.bi .add 0 (.t 25) (i6 1)),
 om 1 (.t 26)])
 (.sq (rg [om 27 (.t 0),
 om 28 (.t 5),
 om 29 (.t 1),
 oo 30 (.ia 3 (.t 27) (.t 28)),
 oo 31 (.fa 2 (.t 30)),
 on1 (.st 1 (.t 31) (.t 29))])
 (rg [om 32 (.t 1),
 oo 33 (.bi .add 0 (.t 32) (i6 1)),
 om 1 (.t 33)])))))))
 (rg [om 10 (.t 5),
 oo 11 (.bi .add 0 (.t 10) (i6 1)),
 om 5 (.t 11)]))))))
 (.sq (rg [om 34 (.t 1),
 om 4 (.t 34)])
 (.rt)))) }
theorem k_laws_markControlS : chkF Go.Proofs.Tryz.prog fid_laws_markControlS c_laws_markControlS = true := by kernel_rfl

def c_laws_markBigraph : F2 :=
  { nt := 22, res := [.t 4 [0]], body :=
   (.sq (rg [oo 2 (.bx (.t 0)),
 om 4 (i6 0)])
 (.sq (rg [oo 5 (.fa 1 (.t 2)),
 oo 6 (.ld none (.t 5)),
 om 7 (.t 1),
 oo 8 (.ca .any true (.f fid_laws_markNodeS) [.t 6, .t 7]),
 om 1 (.t 8)])
 (.sq (rg [oo 9 (.fa 2 (.t 2)),
 oo 10 (.ld none (.t 9)),
 om 11 (.t 1),
 oo 12 (.ca .any true (.f fid_laws_markIntS) [.t 10, .t 11]),
 om 1 (.t 12)])
 (.sq (rg [oo 13 (.fa 4 (.t 2)),
 oo 14 (.ld none (.t 13)),
 om 15 (.t 1),
 oo 16 (.ca .any true (.f fid_laws_markStringS) [.t 14, .t 15]),
 om 1 (.t 16)])
 (.sq (rg [oo 17 (.fa 5 (.t 2)),
 oo 18 (.ld none (.t 17)),
 om 19 (.t 1),
 oo 20 (.ca .any true (.f fid_laws_markWireS) [.t 18, .t 19]),
 om 1 (.t 20)])
 (.sq (rg [om 21 (.t 1),
 om 4 (.t 21)])
 (.rt))))))) }
theorem k_laws_markBigraph : chkF Go.Proofs.Tryz.prog fid_laws_markBigraph c_laws_markBigraph = true := by kernel_rfl

def c_laws_heldBigraph : F2 :=
  { nt := 30, res := [.t 4 [0]], body :=
   (.sq (rg [oo 2 (.bt (.t 0)),
 om 4 (i6 0)])
 (.sq (rg [oo 5 (.fa 1 (.t 2)),
 oo 6 (.ld none (.t 5)),
 om 7 (.t 1),
 oo 8 (.ca .pure false (.f fid_laws_heldNodeS) [.t 6, .t 7]),
 om 1 (.t 8)])
 (.sq (.sq (rg [om 9 (.t 1),
 oo 10 (.bi .lss 0 (.t 9) (i6 0))])
 (.cd (.t 10) (.sq (rg [om 4 (i6 (-1))])
 (.rt))
 (.sk)))
 (.sq (rg [oo 11 (.fa 2 (.t 2)),
 oo 12 (.ld none (.t 11)),
 om 13 (.t 1),
 oo 14 (.ca .pure false (.f fid_laws_heldIntS) [.t 12, .t 13]),
 om 1 (.t 14)])
 (.sq (.sq (rg [om 15 (.t 1),
 oo 16 (.bi .lss 0 (.t 15) (i6 0))])
 (.cd (.t 16) (.sq (rg [om 4 (i6 (-1))])
 (.rt))
 (.sk)))
 (.sq (rg [oo 17 (.fa 4 (.t 2)),
 oo 18 (.ld none (.t 17)),
 om 19 (.t 1),
 oo 20 (.ca .pure false (.f fid_laws_heldStringS) [.t 18, .t 19]),
 om 1 (.t 20)])
 (.sq (.sq (rg [om 21 (.t 1),
 oo 22 (.bi .lss 0 (.t 21) (i6 0))])
 (.cd (.t 22) (.sq (rg [om 4 (i6 (-1))])
 (.rt))
 (.sk)))
 (.sq (rg [oo 23 (.fa 5 (.t 2)),
 oo 24 (.ld none (.t 23)),
 om 25 (.t 1),
 oo 26 (.ca .pure false (.f fid_laws_heldWireS) [.t 24, .t 25]),
 om 1 (.t 26)])
 (.sq (.sq (rg [om 27 (.t 1),
 oo 28 (.bi .lss 0 (.t 27) (i6 0))])
 (.cd (.t 28) (.sq (rg [om 4 (i6 (-1))])
 (.rt))
 (.sk)))
 (.sq (rg [om 29 (.t 1),
 om 4 (.t 29)])
 (.rt))))))))))) }
theorem k_laws_heldBigraph : chkF Go.Proofs.Tryz.prog fid_laws_heldBigraph c_laws_heldBigraph = true := by kernel_rfl

def c_laws_markText : F2 :=
  { nt := 20, res := [.t 2 [0]], body :=
   (.sq (rg [om 2 (.k (.string ⟨#[]⟩))])
 (.sq (.sq (rg [om 4 (.t 0),
 oo 5 (.bi .leq 0 (.t 4) (i6 0))])
 (.cd (.t 5) (.sq (rg [om 2 (.k (.string ⟨#[109, 48]⟩))])
 (.rt))
 (.sk)))
 (.sq (rg [om 3 (.k (.string ⟨#[]⟩))])
 (.sq (.bl 0 (.lp [0, 3] [] (.sq (.sq (rg [om 6 (.t 0),
 oo 7 (.bi .gtr 0 (.t 6) (i6 0))])
 (.cd (.t 7) (.sk)
 (.ex 0)))
 (.bl 1 (.sq (rg [om 8 (.t 0),
 oo 9 (.bi .rem 0 (.t 8) (i6 10)),
 oo 10 (.bi .add 0 (i6 48) (.t 9)),
 oo 11 (.cv (.int .u8) (.t 10)),
 oo 12 (.bs 1 1 [.int .u8 0] [(0, .t 11)]),
 oo 13 (.sb (.t 12)),
 om 14 (.t 3),
 oo 15 (.bi .add 0 (.t 13) (.t 14)),
 om 3 (.t 15)])
 (rg [om 16 (.t 0),
 oo 17 (.bi .quo 0 (.t 16) (i6 10)),
 om 0 (.t 17)]))))))
 (.sq (rg [om 18 (.t 3),
 oo 19 (.bi .add 0 (.k (.string ⟨#[109]⟩)) (.t 18)),
 om 2 (.t 19)])
 (.rt)))))) }
theorem k_laws_markText : chkF Go.Proofs.Tryz.prog fid_laws_markText c_laws_markText = true := by kernel_rfl

def c_laws_markNodeS : F2 :=
  { nt := 34, res := [.t 4 [0]], body :=
   (.sq (rg [om 4 (i6 0)])
 (.sq (.sq (rg [om 5 (i6 0)])
 (.bl 0 (.lp [0, 1, 5] [] (.sq (.sq (rg [om 6 (.t 5),
 om 7 (.t 0),
 oo 8 (.ln (.t 7)),
 oo 9 (.bi .lss 0 (.t 6) (.t 8))])
 (.cd (.t 9) (.sk)
 (.ex 0)))
 (.sq (.bl 1 (.sq (rg [om 12 (.t 0),
 om 13 (.t 5),
 om 14 (.t 1),
 oo 15 (.ia 3 (.t 12) (.t 13)),
 oo 16 (.fa 0 (.t 15)),
 on1 (.st 1 (.t 16) (.t 14))])
 (.sq (rg [om 17 (.t 1),
 oo 18 (.bi .add 0 (.t 17) (i6 1)),
 om 1 (.t 18)])
 (.sq (rg [om 19 (.t 0),
 om 20 (.t 5),
 om 21 (.t 1),
 oo 22 (.ia 3 (.t 19) (.t 20)),
 oo 23 (.fa 1 (.t 22)),
 on1 (.st 1 (.t 23) (.t 21))])
 (.sq (rg [om 24 (.t 1),
 oo 25 (.bi .add 0 (.t 24) (i6 1)),
 om 1 (.t 25)])
 (rg [om 26 (.t 0),
 om 27 (.t 5),
 oo 28 (.ia 3 (.t 26) (.t 27)),
 oo 29 (.fa 2 (.t 28)),
 oo 30 (.ld none (.t 29)),
 om 31 (.t 1),
 oo 32 (.ca .any true (.f fid_laws_markIntS) [.t 30, .t 31]),
 om 1 (.t 32)]))))))
 (rg [om 10 (.t 5),
 oo 11 (.bi .add 0 (.t 10) (i6 1)),
 om 5 (.t 11)]))))))
 (.sq (rg [om 33 (.t 1),
 om 4 (.t 33)])
 (.rt)))) }
theorem k_laws_markNodeS : chkF Go.Proofs.Tryz.prog fid_laws_markNodeS c_laws_markNodeS = true := by kernel_rfl

def c_laws_markIntS : F2 :=
  { nt := 19, res := [.t 4 [0]], body :=
   (.sq (rg [om 4 (i6 0)])
 (.sq (.sq (rg [om 5 (i6 0)])
 (.bl 0 (.lp [0, 1, 5] [] (.sq (.sq (rg [om 6 (.t 5),
 om 7 (.t 0),
 oo 8 (.ln (.t 7)),
 oo 9 (.bi .lss 0 (.t 6) (.t 8))])
 (.cd (.t 9) (.sk)
 (.ex 0)))
 (.sq (.bl 1 (.sq (rg [om 12 (.t 0),
 om 13 (.t 5),
 om 14 (.t 1),
 oo 15 (.ia 1 (.t 12) (.t 13)),
 on1 (.st 1 (.t 15) (.t 14))])
 (rg [om 16 (.t 1),
 oo 17 (.bi .add 0 (.t 16) (i6 1)),
 om 1 (.t 17)])))
 (rg [om 10 (.t 5),
 oo 11 (.bi .add 0 (.t 10) (i6 1)),
 om 5 (.t 11)]))))))
 (.sq (rg [om 18 (.t 1),
 om 4 (.t 18)])
 (.rt)))) }
theorem k_laws_markIntS : chkF Go.Proofs.Tryz.prog fid_laws_markIntS c_laws_markIntS = true := by kernel_rfl

def c_laws_markStringS : F2 :=
  { nt := 20, res := [.t 4 [0]], body :=
   (.sq (rg [om 4 (i6 0)])
 (.sq (.sq (rg [om 5 (i6 0)])
 (.bl 0 (.lp [0, 1, 5] [] (.sq (.sq (rg [om 6 (.t 5),
 om 7 (.t 0),
 oo 8 (.ln (.t 7)),
 oo 9 (.bi .lss 0 (.t 6) (.t 8))])
 (.cd (.t 9) (.sk)
 (.ex 0)))
 (.sq (.bl 1 (.sq (rg [om 12 (.t 0),
 om 13 (.t 5),
 om 14 (.t 1),
 oo 15 (.ca .pure false (.f fid_laws_markText) [.t 14]),
 oo 16 (.ia 1 (.t 12) (.t 13)),
 on1 (.st 1 (.t 16) (.t 15))])
 (rg [om 17 (.t 1),
 oo 18 (.bi .add 0 (.t 17) (i6 1)),
 om 1 (.t 18)])))
 (rg [om 10 (.t 5),
 oo 11 (.bi .add 0 (.t 10) (i6 1)),
 om 5 (.t 11)]))))))
 (.sq (rg [om 19 (.t 1),
 om 4 (.t 19)])
 (.rt)))) }
theorem k_laws_markStringS : chkF Go.Proofs.Tryz.prog fid_laws_markStringS c_laws_markStringS = true := by kernel_rfl

def c_laws_markWireS : F2 :=
  { nt := 28, res := [.t 4 [0]], body :=
   (.sq (rg [om 4 (i6 0)])
 (.sq (.sq (rg [om 5 (i6 0)])
 (.bl 0 (.lp [0, 1, 5] [] (.sq (.sq (rg [om 6 (.t 5),
 om 7 (.t 0),
 oo 8 (.ln (.t 7)),
 oo 9 (.bi .lss 0 (.t 6) (.t 8))])
 (.cd (.t 9) (.sk)
 (.ex 0)))
 (.sq (.bl 1 (.sq (rg [om 12 (.t 0),
 om 13 (.t 5),
 om 14 (.t 1),
 oo 15 (.ca .pure false (.f fid_laws_markText) [.t 14]),
 oo 16 (.ia 2 (.t 12) (.t 13)),
 oo 17 (.fa 0 (.t 16)),
 on1 (.st 1 (.t 17) (.t 15))])
 (.sq (rg [om 18 (.t 1),
 oo 19 (.bi .add 0 (.t 18) (i6 1)),
 om 1 (.t 19)])
 (.sq (rg [om 20 (.t 0),
 om 21 (.t 5),
 om 22 (.t 1),
 oo 23 (.ia 2 (.t 20) (.t 21)),
 oo 24 (.fa 1 (.t 23)),
 on1 (.st 1 (.t 24) (.t 22))])
 (rg [om 25 (.t 1),
 oo 26 (.bi .add 0 (.t 25) (i6 1)),
 om 1 (.t 26)])))))
 (rg [om 10 (.t 5),
 oo 11 (.bi .add 0 (.t 10) (i6 1)),
 om 5 (.t 11)]))))))
 (.sq (rg [om 27 (.t 1),
 om 4 (.t 27)])
 (.rt)))) }
theorem k_laws_markWireS : chkF Go.Proofs.Tryz.prog fid_laws_markWireS c_laws_markWireS = true := by kernel_rfl

def c_laws_heldNodeS : F2 :=
  { nt := 40, res := [.t 4 [0]], body :=
   (.sq (rg [om 4 (i6 0)])
 (.sq (.sq (rg [om 5 (i6 0)])
 (.bl 0 (.lp [0, 1, 5] [] (.sq (.sq (rg [om 6 (.t 5),
 om 7 (.t 0),
 oo 8 (.ln (.t 7)),
 oo 9 (.bi .lss 0 (.t 6) (.t 8))])
 (.cd (.t 9) (.sk)
 (.ex 0)))
 (.sq (.bl 1 (.sq (.sq (rg [om 12 (.t 0),
 om 13 (.t 5),
 oo 14 (.ia 3 (.t 12) (.t 13)),
 oo 15 (.fa 0 (.t 14)),
 oo 16 (.ld none (.t 15)),
 om 17 (.t 1),
 oo 18 (.bi .neq 0 (.t 16) (.t 17))])
 (.cd (.t 18) (.sq (rg [om 4 (i6 (-1))])
 (.rt))
 (.sk)))
 (.sq (rg [om 19 (.t 1),
 oo 20 (.bi .add 0 (.t 19) (i6 1)),
 om 1 (.t 20)])
 (.sq (.sq (rg [om 21 (.t 0),
 om 22 (.t 5),
 oo 23 (.ia 3 (.t 21) (.t 22)),
 oo 24 (.fa 1 (.t 23)),
 oo 25 (.ld none (.t 24)),
 om 26 (.t 1),
 oo 27 (.bi .neq 0 (.t 25) (.t 26))])
 (.cd (.t 27) (.sq (rg [om 4 (i6 (-1))])
 (.rt))
 (.sk)))
 (.sq (rg [om 28 (.t 1),
 oo 29 (.bi .add 0 (.t 28) (i6 1)),
 om 1 (.t 29)])
 (.sq (rg [om 30 (.t 0),
 om 31 (.t 5),
 oo 32 (.ia 3 (.t 30) (.t 31)),
 oo 33 (.fa 2 (.t 32)),
 oo 34 (.ld none (.t 33)),
 om 35 (.t 1),
 oo 36 (.ca .pure false (.f fid_laws_heldIntS) [.t 34, .t 35]),
 om 1 (.t 36)])
 (.sq (rg [om 37 (.t 1),
 oo 38 (.bi .lss 0 (.t 37) (i6 0))])
 (.cd (.t 38) (.sq (rg [om 4 (i6 (-1))])
 (.rt))
 (.sk)))))))))
 (rg [om 10 (.t 5),
 oo 11 (.bi .add 0 (.t 10) (i6 1)),
 om 5 (.t 11)]))))))
 (.sq (rg [om 39 (.t 1),
 om 4 (.t 39)])
 (.rt)))) }
theorem k_laws_heldNodeS : chkF Go.Proofs.Tryz.prog fid_laws_heldNodeS c_laws_heldNodeS = true := by kernel_rfl

def c_laws_heldIntS : F2 :=
  { nt := 21, res := [.t 4 [0]], body :=
   (.sq (rg [om 4 (i6 0)])
 (.sq (.sq (rg [om 5 (i6 0)])
 (.bl 0 (.lp [0, 1, 5] [] (.sq (.sq (rg [om 6 (.t 5),
 om 7 (.t 0),
 oo 8 (.ln (.t 7)),
 oo 9 (.bi .lss 0 (.t 6) (.t 8))])
 (.cd (.t 9) (.sk)
 (.ex 0)))
 (.sq (.bl 1 (.sq (.sq (rg [om 12 (.t 0),
 om 13 (.t 5),
 oo 14 (.ia 1 (.t 12) (.t 13)),
 oo 15 (.ld none (.t 14)),
 om 16 (.t 1),
 oo 17 (.bi .neq 0 (.t 15) (.t 16))])
 (.cd (.t 17) (.sq (rg [om 4 (i6 (-1))])
 (.rt))
 (.sk)))
 (rg [om 18 (.t 1),
 oo 19 (.bi .add 0 (.t 18) (i6 1)),
 om 1 (.t 19)])))
 (rg [om 10 (.t 5),
 oo 11 (.bi .add 0 (.t 10) (i6 1)),
 om 5 (.t 11)]))))))
 (.sq (rg [om 20 (.t 1),
 om 4 (.t 20)])
 (.rt)))) }
theorem k_laws_heldIntS : chkF Go.Proofs.Tryz.prog fid_laws_heldIntS c_laws_heldIntS = true := by kernel_rfl

def c_laws_heldStringS : F2 :=
  { nt := 22, res := [.t 4 [0]], body :=
   (.sq (rg [om 4 (i6 0)])
 (.sq (.sq (rg [om 5 (i6 0)])
 (.bl 0 (.lp [0, 1, 5] [] (.sq (.sq (rg [om 6 (.t 5),
 om 7 (.t 0),
 oo 8 (.ln (.t 7)),
 oo 9 (.bi .lss 0 (.t 6) (.t 8))])
 (.cd (.t 9) (.sk)
 (.ex 0)))
 (.sq (.bl 1 (.sq (.sq (.rg (some 0) [om 12 (.t 0),
 om 13 (.t 5),
 oo 14 (.ia 1 (.t 12) (.t 13)),
 oo 15 (.ld none (.t 14)),
 om 16 (.t 1),
 oo 17 (.ca .pure false (.f fid_laws_markText) [.t 16]),
 oo 18 (.bi .neq 0 (.t 15) (.t 17))])
 (.cd (.t 18) (.sq (rg [om 4 (i6 (-1))])
 (.rt))
 (.sk)))
 (rg [om 19 (.t 1),
 oo 20 (.bi .add 0 (.t 19) (i6 1)),
 om 1 (.t 20)])))
 (rg [om 10 (.t 5),
 oo 11 (.bi .add 0 (.t 10) (i6 1)),
 om 5 (.t 11)]))))))
 (.sq (rg [om 21 (.t 1),
 om 4 (.t 21)])
 (.rt)))) }
theorem k_laws_heldStringS : chkF Go.Proofs.Tryz.prog fid_laws_heldStringS c_laws_heldStringS = true := by kernel_rfl

def c_laws_heldWireS : F2 :=
  { nt := 32, res := [.t 4 [0]], body :=
   (.sq (rg [om 4 (i6 0)])
 (.sq (.sq (rg [om 5 (i6 0)])
 (.bl 0 (.lp [0, 1, 5] [] (.sq (.sq (rg [om 6 (.t 5),
 om 7 (.t 0),
 oo 8 (.ln (.t 7)),
 oo 9 (.bi .lss 0 (.t 6) (.t 8))])
 (.cd (.t 9) (.sk)
 (.ex 0)))
 (.sq (.bl 1 (.sq (.sq (.rg (some 0) [om 12 (.t 0),
 om 13 (.t 5),
 oo 14 (.ia 2 (.t 12) (.t 13)),
 oo 15 (.fa 0 (.t 14)),
 oo 16 (.ld none (.t 15)),
 om 17 (.t 1),
 oo 18 (.ca .pure false (.f fid_laws_markText) [.t 17]),
 oo 19 (.bi .neq 0 (.t 16) (.t 18))])
 (.cd (.t 19) (.sq (rg [om 4 (i6 (-1))])
 (.rt))
 (.sk)))
 (.sq (rg [om 20 (.t 1),
 oo 21 (.bi .add 0 (.t 20) (i6 1)),
 om 1 (.t 21)])
 (.sq (.sq (rg [om 22 (.t 0),
 om 23 (.t 5),
 oo 24 (.ia 2 (.t 22) (.t 23)),
 oo 25 (.fa 1 (.t 24)),
 oo 26 (.ld none (.t 25)),
 om 27 (.t 1),
 oo 28 (.bi .neq 0 (.t 26) (.t 27))])
 (.cd (.t 28) (.sq (rg [om 4 (i6 (-1))])
 (.rt))
 (.sk)))
 (rg [om 29 (.t 1),
 oo 30 (.bi .add 0 (.t 29) (i6 1)),
 om 1 (.t 30)])))))
 (rg [om 10 (.t 5),
 oo 11 (.bi .add 0 (.t 10) (i6 1)),
 om 5 (.t 11)]))))))
 (.sq (rg [om 31 (.t 1),
 om 4 (.t 31)])
 (.rt)))) }
theorem k_laws_heldWireS : chkF Go.Proofs.Tryz.prog fid_laws_heldWireS c_laws_heldWireS = true := by kernel_rfl

end Go.Fd

/-
  THE TEXT OF A MARK; THE MARKS OF NUMBERS AND TEXTS. Own work.
-/
namespace Go.Fd
set_option maxRecDepth 20000
abbrev mInt (_ : Int) (k : Int) : Int := k
abbrev nInt (_ : Int) : Nat := 1
def mt (q : Nat) (o : ByteArray) : ByteArray := if q = 0 then o else mt (q / 10) (⟨#[UInt8.ofNat (48 + q % 10)]⟩ ++ o)
  termination_by q
  decreasing_by omega
theorem mt_pos {q : Nat} {o : ByteArray} (h : 0 < q) : mt q o = mt (q / 10) (⟨#[UInt8.ofNat (48 + q % 10)]⟩ ++ o) := by
  rw [mt, if_neg (by omega)]
theorem mt_zero {o : ByteArray} : mt 0 o = o := by rw [mt, if_pos rfl]
def markT (k : Int) : ByteArray := if k ≤ 0 then ⟨#[109, 48]⟩ else ⟨#[109]⟩ ++ mt k.toNat ⟨#[]⟩
theorem sem_markText (k : Int) (h : k ≤ 4611686018427387904) (lvl : Nat) (S : Sto) : Sem Go.Proofs.Tryz.prog fid_laws_markText lvl [iI k] S (iS (markT k)) S := by
  refine sem_of_chk k_laws_markText trivial ?_
  simp only [c_laws_markText, EVA, ↓reduceIte, Nat.reduceEqDiff, Nat.reduceMul, reduceCtorEq, Nat.reduceAdd, Nat.reduceSub, Nat.reduceLeDiff, Nat.reduceLT, Int.reduceToNat, Int.reduceLE, Int.reduceLT, mens, men]
  unfold markT
  refine ite_of (fun h0 => ?_) (fun h0 => ?_)
  · rw [if_pos h0]
  · rw [if_neg h0]
    obtain ⟨K, hK⟩ : ∃ K : Nat, k = K := ⟨k.toNat, by omega⟩
    subst hK
    rw [Int.toNat_natCast]
    refine wp_count (α := Nat × ByteArray) K (fun j y => ⟨lvl, [(0, iI y.1), (3, iS y.2)], [], S⟩) (fun j y => y.1 + j ≤ K ∧ mt y.1 y.2 = mt K ⟨#[]⟩ ∧ y.1 * 10 ^ y.2.size ≤ K ∧ y.2.size ≤ 19) (K, ⟨#[]⟩) ⟨by simp only [EVA, ↓reduceIte, Nat.reduceEqDiff, Nat.reduceMul, reduceCtorEq, Nat.reduceAdd, Nat.reduceSub, Nat.reduceLeDiff, Nat.reduceLT, Int.reduceToNat, Int.reduceLE, Int.reduceLT, mens, men], by simp only [EVA, ↓reduceIte, Nat.reduceEqDiff, Nat.reduceMul, reduceCtorEq, Nat.reduceAdd, Nat.reduceSub, Nat.reduceLeDiff, Nat.reduceLT, Int.reduceToNat, Int.reduceLE, Int.reduceLT, mens, men]⟩ ⟨Nat.le_refl _, rfl, Nat.le_of_eq (Nat.mul_one K), (by decide : (0 : Nat) ≤ 19)⟩ ?_
    intro j y hj hA
    obtain ⟨q, o⟩ := y
    obtain ⟨h1, h2, h3, h4⟩ := hA
    simp only at h1 h2 h3 h4
    simp only [EVA, ↓reduceIte, Nat.reduceEqDiff, Nat.reduceMul, reduceCtorEq, Nat.reduceAdd, Nat.reduceSub, Nat.reduceLeDiff, Nat.reduceLT, Int.reduceToNat, Int.reduceLE, Int.reduceLT, mens, men]
    refine ite_of (fun hq => ?_) (fun hq => ?_)
    · have hq0 : 0 < q := by omega
      have hby : byR [[Tr.v (Value.int IntKind.u8 (48 + (q : Int) % 10))]] = some [UInt8.ofNat (48 + q % 10)] := by
        have e : (48 + (q : Int) % 10).toNat = 48 + q % 10 := by omega
        simp only [cut, List.replicate_one, List.set_cons_zero, List.drop_zero, List.take_succ_cons, List.take_zero, byR, Option.map_some, e]
      have h5 : o.size < 19 := by
        apply Classical.byContradiction
        intro hc
        have e : o.size = 19 := by omega
        rw [e] at h3
        have : 1 * 10 ^ 19 ≤ q * 10 ^ 19 := Nat.mul_le_mul_right _ hq0
        omega
      have h6 : q / 10 * 10 ^ (o.size + 1) ≤ K := by
        refine Nat.le_trans ?_ h3
        rw [Nat.pow_succ, Nat.mul_comm (10 ^ o.size) 10, ← Nat.mul_assoc]
        exact Nat.mul_le_mul_right _ (by omega)
      rw [hby]
      simp only [EVA, ↓reduceIte, Nat.reduceEqDiff, Nat.reduceMul, reduceCtorEq, Nat.reduceAdd, Nat.reduceSub, Nat.reduceLeDiff, Nat.reduceLT, Int.reduceToNat, Int.reduceLE, Int.reduceLT, mens, men]
      have hs : (ByteArray.mk #[UInt8.ofNat (48 + q % 10)] ++ o).size = o.size + 1 := by
        rw [ByteArray.size_append, Nat.add_comm]; rfl
      have e8 : fits .u8 (48 + (q : Int) % 10) := by
        constructor
        · show (0 : Int) ≤ _; omega
        · show _ ≤ (255 : Int); omega
      refine ⟨by rw [fits_i64]; omega, e8, ?_, by rw [fits_i64]; omega, cntJ_intro (q / 10, ByteArray.mk #[UInt8.ofNat (48 + q % 10)] ++ o) (by omega) ?_ ⟨by simp only; omega, ?_, ?_, ?_⟩⟩
      · show 1 + o.size ≤ 4294967296
        omega
      · rfl
      · rw [← h2, mt_pos hq0]
      · simp only [hs]; exact h6
      · simp only [hs]; omega
    · have : q = 0 := by omega
      subst this
      rw [← h2, mt_zero]
      refine ⟨?_, rfl⟩
      show 1 + o.size ≤ 4294967296
      omega
abbrev mStr (_ : ByteArray) (k : Int) : ByteArray := markT k
abbrev nStr (_ : ByteArray) : Nat := 1
end Go.Fd

/-
  WHAT THE MARKING FUNCTIONS DO (printed by lawgen.py). Own work.
-/
namespace Go.Fd
set_option maxRecDepth 20000
theorem mark_IntS : MarkS Go.Proofs.Tryz.prog fid_laws_markIntS (fun n : Int => [tv n]) mInt nInt (fun _ => True) := by
  intro a k lvl S id p es r0 kk hw ver st cap hid hv hst h0 hk hl hB
  have hne : id.1 ≠ lvl := by omega
  have hgp : ∀ r, getp (putp es p r) p = some r := fun r => getp_putp hv
  refine sem_of_chk k_laws_markIntS trivial ?_
  simp only [c_laws_markIntS, EVA, ↓reduceIte, Nat.reduceEqDiff, Nat.reduceMul, reduceCtorEq, Nat.reduceAdd, Nat.reduceSub, Nat.reduceLeDiff, Nat.reduceLT, Int.reduceToNat, Int.reduceLE, Int.reduceLT, mens, men]
  refine wp_count (α := Unit) a.length (fun j _ => ⟨lvl, [(0, .hd id p 0 a.length cap st), (1, iI (kJ nInt a k j)), (5, iI j)], [], sset S id (.ar kk (putp es p ((lJ mInt nInt a k j).map (fun n : Int => [tv n]))) true hw ver)⟩) (fun _ _ => True) () ⟨by simp only [r_okmo hne, EVA, ↓reduceIte, Nat.reduceEqDiff, Nat.reduceMul, reduceCtorEq, Nat.reduceAdd, Nat.reduceSub, Nat.reduceLeDiff, Nat.reduceLT, Int.reduceToNat, Int.reduceLE, Int.reduceLT, mens, men], by (simp only [kJ_zero, lJ_zero, EVA, ↓reduceIte, Nat.reduceEqDiff, Nat.reduceMul, reduceCtorEq, Nat.reduceAdd, Nat.reduceSub, Nat.reduceLeDiff, Nat.reduceLT, Int.reduceToNat, Int.reduceLE, Int.reduceLT, mens, men]) <;> rfl⟩ trivial ?_
  intro j _ hj _
  simp only [List.length_map, EVA, ↓reduceIte, Nat.reduceEqDiff, Nat.reduceMul, reduceCtorEq, Nat.reduceAdd, Nat.reduceSub, Nat.reduceLeDiff, Nat.reduceLT, Int.reduceToNat, Int.reduceLE, Int.reduceLT, mens, men]
  refine ite_of (fun hlt => ?_) (fun hge => ?_)
  · have hja : j < a.length := by omega
    obtain ⟨R, hjR, hR, hR'⟩ := lJ_row mInt nInt (fun n : Int => [tv n]) (k := k) hja
    have hge2 := kJ_le nInt (a := a) (k := k) (j := j + 1)
    rw [kJ_succ nInt hja] at hge2
    have hge3 := kJ_ge nInt (a := a) (k := k) (j := j)
    rw [hR]
    try simp only [nInt] at hge2
    try simp only [r_packo hne, r_setObo hne, psset_sset, r_sset, hst, hgp, rset_get hjR, setp_row hv hjR, Nat.zero_add, hja, r_okmo hne, List.length_map, tv, EVA, ↓reduceIte, Nat.reduceEqDiff, Nat.reduceMul, reduceCtorEq, Nat.reduceAdd, Nat.reduceSub, Nat.reduceLeDiff, Nat.reduceLT, Int.reduceToNat, Int.reduceLE, Int.reduceLT, mens, men]
    refine ⟨by rw [fits_i64]; omega, ⟨by rw [fits_i64]; omega, cntJ_intro () hja ?_ trivial⟩⟩
    rw [kJ_succ nInt hja, hR']
    simp only [nInt, mInt, tv, Int.natCast_add, Int.natCast_one, Int.add_assoc]
    try rfl
  · have : j = a.length := by omega
    subst this
    rw [kJ_all, lJ_all]
    exact ⟨rfl, rfl⟩
def mNode (x : TNode) (k : Int) : TNode := { control := k, parent := k + 1, links := mL mInt nInt x.links (k + 1 + 1) }
def nNode (x : TNode) : Nat := 1 + 1 + nL nInt x.links
theorem mark_NodeS : MarkS Go.Proofs.Tryz.prog fid_laws_markNodeS cNode mNode nNode (bdNode 4294967296) := by
  intro a k lvl S id p es r0 kk hw ver st cap hid hv hst h0 hk hl hB
  have hne : id.1 ≠ lvl := by omega
  have hgp : ∀ r, getp (putp es p r) p = some r := fun r => getp_putp hv
  refine sem_of_chk k_laws_markNodeS trivial ?_
  simp only [c_laws_markNodeS, EVA, ↓reduceIte, Nat.reduceEqDiff, Nat.reduceMul, reduceCtorEq, Nat.reduceAdd, Nat.reduceSub, Nat.reduceLeDiff, Nat.reduceLT, Int.reduceToNat, Int.reduceLE, Int.reduceLT, mens, men]
  refine wp_count (α := Unit) a.length (fun j _ => ⟨lvl, [(0, .hd id p 0 a.length cap st), (1, iI (kJ nNode a k j)), (5, iI j)], [], sset S id (.ar kk (putp es p ((lJ mNode nNode a k j).map cNode)) true hw ver)⟩) (fun _ _ => True) () ⟨by simp only [r_okmo hne, EVA, ↓reduceIte, Nat.reduceEqDiff, Nat.reduceMul, reduceCtorEq, Nat.reduceAdd, Nat.reduceSub, Nat.reduceLeDiff, Nat.reduceLT, Int.reduceToNat, Int.reduceLE, Int.reduceLT, mens, men], by (simp only [kJ_zero, lJ_zero, EVA, ↓reduceIte, Nat.reduceEqDiff, Nat.reduceMul, reduceCtorEq, Nat.reduceAdd, Nat.reduceSub, Nat.reduceLeDiff, Nat.reduceLT, Int.reduceToNat, Int.reduceLE, Int.reduceLT, mens, men]) <;> rfl⟩ trivial ?_
  intro j _ hj _
  simp only [List.length_map, EVA, ↓reduceIte, Nat.reduceEqDiff, Nat.reduceMul, reduceCtorEq, Nat.reduceAdd, Nat.reduceSub, Nat.reduceLeDiff, Nat.reduceLT, Int.reduceToNat, Int.reduceLE, Int.reduceLT, mens, men]
  refine ite_of (fun hlt => ?_) (fun hge => ?_)
  · have hja : j < a.length := by omega
    obtain ⟨R, hjR, hR, hR'⟩ := lJ_row mNode nNode cNode (k := k) hja
    have hge2 := kJ_le nNode (a := a) (k := k) (j := j + 1)
    rw [kJ_succ nNode hja] at hge2
    have hge3 := kJ_ge nNode (a := a) (k := k) (j := j)
    rw [hR]
    try simp only [nNode] at hge2
    have hb := hB _ (List.getElem_mem hja)
    have b0 : (a[j]).links.length ≤ 4294967296 := hb
    try simp only [r_packo hne, r_setObo hne, psset_sset, r_sset, hst, hgp, rset_get hjR, setp_row hv hjR, Nat.zero_add, hja, r_okmo hne, List.length_map, cNode, EVA, ↓reduceIte, Nat.reduceEqDiff, Nat.reduceMul, reduceCtorEq, Nat.reduceAdd, Nat.reduceSub, Nat.reduceLeDiff, Nat.reduceLT, Int.reduceToNat, Int.reduceLE, Int.reduceLT, mens, men]
    refine ⟨by rw [fits_i64]; omega, ⟨by rw [fits_i64]; omega, ?_⟩⟩
    simp only [arg1]
    refine kcy_mark mark_IntS hid hv (by omega) (by omega) b0 (fun _ _ => trivial) hjR rfl (by simp only [List.length_map]) ?_
    simp only [List.set_cons_succ, List.set_cons_zero, r_packo hne, r_setObo hne, psset_sset, r_sset, hst, hgp, rset_get hjR, setp_row hv hjR, Nat.zero_add, hja, r_okmo hne, List.length_map, cNode, EVA, ↓reduceIte, Nat.reduceEqDiff, Nat.reduceMul, reduceCtorEq, Nat.reduceAdd, Nat.reduceSub, Nat.reduceLeDiff, Nat.reduceLT, Int.reduceToNat, Int.reduceLE, Int.reduceLT, mens, men]
    refine ⟨by rw [fits_i64]; omega, cntJ_intro () hja ?_ trivial⟩
    rw [kJ_succ nNode hja, hR']
    simp only [nNode, mNode, cNode, Int.natCast_add, Int.natCast_one, Int.add_assoc]
    try rfl
  · have : j = a.length := by omega
    subst this
    rw [kJ_all, lJ_all]
    exact ⟨rfl, rfl⟩
theorem mark_StringS : MarkS Go.Proofs.Tryz.prog fid_laws_markStringS (fun n : ByteArray => [ts n]) mStr nStr (fun x => x.size ≤ 4294967296) := by
  intro a k lvl S id p es r0 kk hw ver st cap hid hv hst h0 hk hl hB
  have hne : id.1 ≠ lvl := by omega
  have hgp : ∀ r, getp (putp es p r) p = some r := fun r => getp_putp hv
  refine sem_of_chk k_laws_markStringS trivial ?_
  simp only [c_laws_markStringS, EVA, ↓reduceIte, Nat.reduceEqDiff, Nat.reduceMul, reduceCtorEq, Nat.reduceAdd, Nat.reduceSub, Nat.reduceLeDiff, Nat.reduceLT, Int.reduceToNat, Int.reduceLE, Int.reduceLT, mens, men]
  refine wp_count (α := Unit) a.length (fun j _ => ⟨lvl, [(0, .hd id p 0 a.length cap st), (1, iI (kJ nStr a k j)), (5, iI j)], [], sset S id (.ar kk (putp es p ((lJ mStr nStr a k j).map (fun n : ByteArray => [ts n]))) true hw ver)⟩) (fun _ _ => True) () ⟨by simp only [r_okmo hne, EVA, ↓reduceIte, Nat.reduceEqDiff, Nat.reduceMul, reduceCtorEq, Nat.reduceAdd, Nat.reduceSub, Nat.reduceLeDiff, Nat.reduceLT, Int.reduceToNat, Int.reduceLE, Int.reduceLT, mens, men], by (simp only [kJ_zero, lJ_zero, EVA, ↓reduceIte, Nat.reduceEqDiff, Nat.reduceMul, reduceCtorEq, Nat.reduceAdd, Nat.reduceSub, Nat.reduceLeDiff, Nat.reduceLT, Int.reduceToNat, Int.reduceLE, Int.reduceLT, mens, men]) <;> rfl⟩ trivial ?_
  intro j _ hj _
  simp only [List.length_map, EVA, ↓reduceIte, Nat.reduceEqDiff, Nat.reduceMul, reduceCtorEq, Nat.reduceAdd, Nat.reduceSub, Nat.reduceLeDiff, Nat.reduceLT, Int.reduceToNat, Int.reduceLE, Int.reduceLT, mens, men]
  refine ite_of (fun hlt => ?_) (fun hge => ?_)
  · have hja : j < a.length := by omega
    obtain ⟨R, hjR, hR, hR'⟩ := lJ_row mStr nStr (fun n : ByteArray => [ts n]) (k := k) hja
    have hge2 := kJ_le nStr (a := a) (k := k) (j := j + 1)
    rw [kJ_succ nStr hja] at hge2
    have hge3 := kJ_ge nStr (a := a) (k := k) (j := j)
    rw [hR]
    try simp only [nStr] at hge2
    try simp only [r_packo hne, r_setObo hne, psset_sset, r_sset, hst, hgp, rset_get hjR, setp_row hv hjR, Nat.zero_add, hja, r_okmo hne, List.length_map, tv, EVA, ↓reduceIte, Nat.reduceEqDiff, Nat.reduceMul, reduceCtorEq, Nat.reduceAdd, Nat.reduceSub, Nat.reduceLeDiff, Nat.reduceLT, Int.reduceToNat, Int.reduceLE, Int.reduceLT, mens, men]
    refine kca_intro (sem_markText (kJ nStr a k j) (by omega)) ?_
    simp only [r_packo hne, r_setObo hne, psset_sset, r_sset, hst, hgp, rset_get hjR, setp_row hv hjR, Nat.zero_add, hja, r_okmo hne, List.length_map, tv, EVA, ↓reduceIte, Nat.reduceEqDiff, Nat.reduceMul, reduceCtorEq, Nat.reduceAdd, Nat.reduceSub, Nat.reduceLeDiff, Nat.reduceLT, Int.reduceToNat, Int.reduceLE, Int.reduceLT, mens, men]
    refine ⟨by rw [fits_i64]; omega, ⟨by rw [fits_i64]; omega, cntJ_intro () hja ?_ trivial⟩⟩
    rw [kJ_succ nStr hja, hR']
    simp only [nStr, mStr, tv, Int.natCast_add, Int.natCast_one, Int.add_assoc]
    try rfl
  · have : j = a.length := by omega
    subst this
    rw [kJ_all, lJ_all]
    exact ⟨rfl, rfl⟩
def mWire (x : TWire) (k : Int) : TWire := { name := markT (k), link := k + 1 }
def nWire (x : TWire) : Nat := 1 + 1
theorem mark_WireS : MarkS Go.Proofs.Tryz.prog fid_laws_markWireS cWire mWire nWire (bdWire 4294967296) := by
  intro a k lvl S id p es r0 kk hw ver st cap hid hv hst h0 hk hl hB
  have hne : id.1 ≠ lvl := by omega
  have hgp : ∀ r, getp (putp es p r) p = some r := fun r => getp_putp hv
  refine sem_of_chk k_laws_markWireS trivial ?_
  simp only [c_laws_markWireS, EVA, ↓reduceIte, Nat.reduceEqDiff, Nat.reduceMul, reduceCtorEq, Nat.reduceAdd, Nat.reduceSub, Nat.reduceLeDiff, Nat.reduceLT, Int.reduceToNat, Int.reduceLE, Int.reduceLT, mens, men]
  refine wp_count (α := Unit) a.length (fun j _ => ⟨lvl, [(0, .hd id p 0 a.length cap st), (1, iI (kJ nWire a k j)), (5, iI j)], [], sset S id (.ar kk (putp es p ((lJ mWire nWire a k j).map cWire)) true hw ver)⟩) (fun _ _ => True) () ⟨by simp only [r_okmo hne, EVA, ↓reduceIte, Nat.reduceEqDiff, Nat.reduceMul, reduceCtorEq, Nat.reduceAdd, Nat.reduceSub, Nat.reduceLeDiff, Nat.reduceLT, Int.reduceToNat, Int.reduceLE, Int.reduceLT, mens, men], by (simp only [kJ_zero, lJ_zero, EVA, ↓reduceIte, Nat.reduceEqDiff, Nat.reduceMul, reduceCtorEq, Nat.reduceAdd, Nat.reduceSub, Nat.reduceLeDiff, Nat.reduceLT, Int.reduceToNat, Int.reduceLE, Int.reduceLT, mens, men]) <;> rfl⟩ trivial ?_
  intro j _ hj _
  simp only [List.length_map, EVA, ↓reduceIte, Nat.reduceEqDiff, Nat.reduceMul, reduceCtorEq, Nat.reduceAdd, Nat.reduceSub, Nat.reduceLeDiff, Nat.reduceLT, Int.reduceToNat, Int.reduceLE, Int.reduceLT, mens, men]
  refine ite_of (fun hlt => ?_) (fun hge => ?_)
  · have hja : j < a.length := by omega
    obtain ⟨R, hjR, hR, hR'⟩ := lJ_row mWire nWire cWire (k := k) hja
    have hge2 := kJ_le nWire (a := a) (k := k) (j := j + 1)
    rw [kJ_succ nWire hja] at hge2
    have hge3 := kJ_ge nWire (a := a) (k := k) (j := j)
    rw [hR]
    try simp only [nWire] at hge2
    have hb := hB _ (List.getElem_mem hja)
    have b0 : (a[j]).name.size ≤ 4294967296 := hb
    try simp only [r_packo hne, r_setObo hne, psset_sset, r_sset, hst, hgp, rset_get hjR, setp_row hv hjR, Nat.zero_add, hja, r_okmo hne, List.length_map, cWire, EVA, ↓reduceIte, Nat.reduceEqDiff, Nat.reduceMul, reduceCtorEq, Nat.reduceAdd, Nat.reduceSub, Nat.reduceLeDiff, Nat.reduceLT, Int.reduceToNat, Int.reduceLE, Int.reduceLT, mens, men]
    refine kca_intro (sem_markText (kJ nWire a k j) (by omega)) ?_
    simp only [r_packo hne, r_setObo hne, psset_sset, r_sset, hst, hgp, rset_get hjR, setp_row hv hjR, Nat.zero_add, hja, r_okmo hne, List.length_map, cWire, EVA, ↓reduceIte, Nat.reduceEqDiff, Nat.reduceMul, reduceCtorEq, Nat.reduceAdd, Nat.reduceSub, Nat.reduceLeDiff, Nat.reduceLT, Int.reduceToNat, Int.reduceLE, Int.reduceLT, mens, men]
    refine ⟨by rw [fits_i64]; omega, ⟨by rw [fits_i64]; omega, ⟨by rw [fits_i64]; omega, cntJ_intro () hja ?_ trivial⟩⟩⟩
    rw [kJ_succ nWire hja, hR']
    simp only [nWire, mWire, cWire, Int.natCast_add, Int.natCast_one, Int.add_assoc]
    try rfl
  · have : j = a.length := by omega
    subst this
    rw [kJ_all, lJ_all]
    exact ⟨rfl, rfl⟩
def mControl (x : TControl) (k : Int) : TControl := { name := markT (k), ports := k + 1, kind_ := k + 1 + 1 }
def nControl (x : TControl) : Nat := 1 + 1 + 1
theorem mark_ControlS : MarkS Go.Proofs.Tryz.prog fid_laws_markControlS cControl mControl nControl (bdControl 4294967296) := by
  intro a k lvl S id p es r0 kk hw ver st cap hid hv hst h0 hk hl hB
  have hne : id.1 ≠ lvl := by omega
  have hgp : ∀ r, getp (putp es p r) p = some r := fun r => getp_putp hv
  refine sem_of_chk k_laws_markControlS trivial ?_
  simp only [c_laws_markControlS, EVA, ↓reduceIte, Nat.reduceEqDiff, Nat.reduceMul, reduceCtorEq, Nat.reduceAdd, Nat.reduceSub, Nat.reduceLeDiff, Nat.reduceLT, Int.reduceToNat, Int.reduceLE, Int.reduceLT, mens, men]
  refine wp_count (α := Unit) a.length (fun j _ => ⟨lvl, [(0, .hd id p 0 a.length cap st), (1, iI (kJ nControl a k j)), (5, iI j)], [], sset S id (.ar kk (putp es p ((lJ mControl nControl a k j).map cControl)) true hw ver)⟩) (fun _ _ => True) () ⟨by simp only [r_okmo hne, EVA, ↓reduceIte, Nat.reduceEqDiff, Nat.reduceMul, reduceCtorEq, Nat.reduceAdd, Nat.reduceSub, Nat.reduceLeDiff, Nat.reduceLT, Int.reduceToNat, Int.reduceLE, Int.reduceLT, mens, men], by (simp only [kJ_zero, lJ_zero, EVA, ↓reduceIte, Nat.reduceEqDiff, Nat.reduceMul, reduceCtorEq, Nat.reduceAdd, Nat.reduceSub, Nat.reduceLeDiff, Nat.reduceLT, Int.reduceToNat, Int.reduceLE, Int.reduceLT, mens, men]) <;> rfl⟩ trivial ?_
  intro j _ hj _
  simp only [List.length_map, EVA, ↓reduceIte, Nat.reduceEqDiff, Nat.reduceMul, reduceCtorEq, Nat.reduceAdd, Nat.reduceSub, Nat.reduceLeDiff, Nat.reduceLT, Int.reduceToNat, Int.reduceLE, Int.reduceLT, mens, men]
  refine ite_of (fun hlt => ?_) (fun hge => ?_)
  · have hja : j < a.length := by omega
    obtain ⟨R, hjR, hR, hR'⟩ := lJ_row mControl nControl cControl (k := k) hja
    have hge2 := kJ_le nControl (a := a) (k := k) (j := j + 1)
    rw [kJ_succ nControl hja] at hge2
    have hge3 := kJ_ge nControl (a := a) (k := k) (j := j)
    rw [hR]
    try simp only [nControl] at hge2
    have hb := hB _ (List.getElem_mem hja)
    have b0 : (a[j]).name.size ≤ 4294967296 := hb
    try simp only [r_packo hne, r_setObo hne, psset_sset, r_sset, hst, hgp, rset_get hjR, setp_row hv hjR, Nat.zero_add, hja, r_okmo hne, List.length_map, cControl, EVA, ↓reduceIte, Nat.reduceEqDiff, Nat.reduceMul, reduceCtorEq, Nat.reduceAdd, Nat.reduceSub, Nat.reduceLeDiff, Nat.reduceLT, Int.reduceToNat, Int.reduceLE, Int.reduceLT, mens, men]
    refine kca_intro (sem_markText (kJ nControl a k j) (by omega)) ?_
    simp only [r_packo hne, r_setObo hne, psset_sset, r_sset, hst, hgp, rset_get hjR, setp_row hv hjR, Nat.zero_add, hja, r_okmo hne, List.length_map, cControl, EVA, ↓reduceIte, Nat.reduceEqDiff, Nat.reduceMul, reduceCtorEq, Nat.reduceAdd, Nat.reduceSub, Nat.reduceLeDiff, Nat.reduceLT, Int.reduceToNat, Int.reduceLE, Int.reduceLT, mens, men]
    refine ⟨by rw [fits_i64]; omega, ⟨by rw [fits_i64]; omega, ⟨by rw [fits_i64]; omega, ⟨by rw [fits_i64]; omega, cntJ_intro () hja ?_ trivial⟩⟩⟩⟩
    rw [kJ_succ nControl hja, hR']
    simp only [nControl, mControl, cControl, Int.natCast_add, Int.natCast_one, Int.add_assoc]
    try rfl
  · have : j = a.length := by omega
    subst this
    rw [kJ_all, lJ_all]
    exact ⟨rfl, rfl⟩
end Go.Fd

/-
  The annotated codes of the functions, printed by a program of mine (gen.py), and the check that they belong to the program.
-/
namespace Go.Fd
def c_laws_szBigraph : F2 :=
  { nt := 30, res := [.t 4 [0]], body :=
   (.sq (rg [oo 2 (.bt (.t 0)),
 om 4 (i6 0)])
 (.sq (rg [oo 5 (.fa 1 (.t 2)),
 oo 6 (.ld none (.t 5)),
 om 7 (.t 1),
 oo 8 (.ca .pure false (.f fid_laws_szNodeS) [.t 6, .t 7]),
 om 1 (.t 8)])
 (.sq (.sq (rg [om 9 (.t 1),
 oo 10 (.bi .lss 0 (.t 9) (i6 0))])
 (.cd (.t 10) (.sq (rg [om 4 (i6 (-1))])
 (.rt))
 (.sk)))
 (.sq (rg [oo 11 (.fa 2 (.t 2)),
 oo 12 (.ld none (.t 11)),
 om 13 (.t 1),
 oo 14 (.ca .pure false (.f fid_laws_szIntS) [.t 12, .t 13]),
 om 1 (.t 14)])
 (.sq (.sq (rg [om 15 (.t 1),
 oo 16 (.bi .lss 0 (.t 15) (i6 0))])
 (.cd (.t 16) (.sq (rg [om 4 (i6 (-1))])
 (.rt))
 (.sk)))
 (.sq (rg [oo 17 (.fa 4 (.t 2)),
 oo 18 (.ld none (.t 17)),
 om 19 (.t 1),
 oo 20 (.ca .pure false (.f fid_laws_szStringS) [.t 18, .t 19]),
 om 1 (.t 20)])
 (.sq (.sq (rg [om 21 (.t 1),
 oo 22 (.bi .lss 0 (.t 21) (i6 0))])
 (.cd (.t 22) (.sq (rg [om 4 (i6 (-1))])
 (.rt))
 (.sk)))
 (.sq (rg [oo 23 (.fa 5 (.t 2)),
 oo 24 (.ld none (.t 23)),
 om 25 (.t 1),
 oo 26 (.ca .pure false (.f fid_laws_szWireS) [.t 24, .t 25]),
 om 1 (.t 26)])
 (.sq (.sq (rg [om 27 (.t 1),
 oo 28 (.bi .lss 0 (.t 27) (i6 0))])
 (.cd (.t 28) (.sq (rg [om 4 (i6 (-1))])
 (.rt))
 (.sk)))
 (.sq (rg [om 29 (.t 1),
 om 4 (.t 29)])
 (.rt))))))))))) }
theorem k_laws_szBigraph : chkF Go.Proofs.Tryz.prog fid_laws_szBigraph c_laws_szBigraph = true := by kernel_rfl

def c_laws_toControlS : F2 :=
  { nt := 23, res := [.t 2 [4]], body :=
   (.sq (rg [om 2 (.k (.slice none 0 0))])
 (.sq (rg [om 5 (.t 0),
 oo 6 (.ln (.t 5)),
 oo 7 (.ms 3 [.string ⟨#[]⟩, .int .i64 0, .int .i64 0] (.t 6)),
 om 3 (.t 7)])
 (.sq (.sq (rg [om 4 (i6 0)])
 (.bl 0 (.lp [0, 3, 4] [224] (.sq (.sq (rg [om 8 (.t 4),
 om 9 (.t 0),
 oo 10 (.ln (.t 9)),
 oo 11 (.bi .lss 0 (.t 8) (.t 10))])
 (.cd (.t 11) (.sk)
 (.ex 0)))
 (.sq (.bl 1 (rg [om 14 (.t 3),
 om 15 (.t 4),
 om 16 (.t 0),
 om 17 (.t 4),
 oo 18 (.ia 3 (.t 16) (.t 17)),
 oo 19 (.ld (some 3) (.t 18)),
 oo 20 (.ca .pure true (.f fid_laws_toControl) [.t 19]),
 oo 21 (.ia 3 (.t 14) (.t 15)),
 on1 (.st 3 (.t 21) (.t 20))]))
 (rg [om 12 (.t 4),
 oo 13 (.bi .add 0 (.t 12) (i6 1)),
 om 4 (.t 13)]))))))
 (.sq (rg [om 22 (.t 3),
 om 2 (.t 22)])
 (.rt))))) }
theorem k_laws_toControlS : chkF Go.Proofs.Tryz.prog fid_laws_toControlS c_laws_toControlS = true := by kernel_rfl

def c_laws_toBigraph : F2 :=
  { nt := 27, res := [.c 2 (some 6) [0, 4, 2, 0, 2, 3]], body :=
   (.sq (rg [oo 1 (.bt (.t 0)),
 oo 2 (.al [.int .i64 0, .slice none 0 0, .slice none 0 0, .int .i64 0, .slice none 0 0, .slice none 0 0] [])])
 (.sq (rg [oo 3 (.al [.int .i64 0, .slice none 0 0, .slice none 0 0, .int .i64 0, .slice none 0 0, .slice none 0 0] [])])
 (.sq (rg [oo 4 (.fa 0 (.t 1)),
 oo 5 (.ld none (.t 4)),
 oo 6 (.fa 0 (.t 3)),
 on1 (.st 1 (.t 6) (.t 5))])
 (.sq (rg [oo 7 (.fa 1 (.t 1)),
 oo 8 (.ld none (.t 7)),
 oo 9 (.ca .pure true (.f fid_laws_toNodeS) [.t 8]),
 oo 10 (.fa 1 (.t 3)),
 on1 (.st 1 (.t 10) (.t 9))])
 (.sq (rg [oo 11 (.fa 2 (.t 1)),
 oo 12 (.ld none (.t 11)),
 oo 13 (.ca .pure true (.f fid_laws_toIntS) [.t 12]),
 oo 14 (.fa 2 (.t 3)),
 on1 (.st 1 (.t 14) (.t 13))])
 (.sq (rg [oo 15 (.fa 3 (.t 1)),
 oo 16 (.ld none (.t 15)),
 oo 17 (.fa 3 (.t 3)),
 on1 (.st 1 (.t 17) (.t 16))])
 (.sq (rg [oo 18 (.fa 4 (.t 1)),
 oo 19 (.ld none (.t 18)),
 oo 20 (.ca .pure true (.f fid_laws_toStringS) [.t 19]),
 oo 21 (.fa 4 (.t 3)),
 on1 (.st 1 (.t 21) (.t 20))])
 (.sq (rg [oo 22 (.fa 5 (.t 1)),
 oo 23 (.ld none (.t 22)),
 oo 24 (.ca .pure true (.f fid_laws_toWireS) [.t 23]),
 oo 25 (.fa 5 (.t 3)),
 on1 (.st 1 (.t 25) (.t 24))])
 (.sq (rg [oo 26 (.ld (some 6) (.t 3)),
 on1 (.st 6 (.t 2) (.t 26))])
 (.rt)))))))))) }
theorem k_laws_toBigraph : chkF Go.Proofs.Tryz.prog fid_laws_toBigraph c_laws_toBigraph = true := by kernel_rfl

def c_laws_eqBigraph : F2 :=
  { nt := 39, res := [.t 4 [0]], body :=
   (.sq (rg [oo 2 (.bt (.t 0)),
 oo 3 (.bt (.t 1)),
 om 4 (.k (.bool false))])
 (.sq (.sq (rg [oo 5 (.fa 0 (.t 2)),
 oo 6 (.ld none (.t 5)),
 oo 7 (.fa 0 (.t 3)),
 oo 8 (.ld none (.t 7)),
 oo 9 (.bi .neq 0 (.t 6) (.t 8))])
 (.cd (.t 9) (.sq (rg [om 4 (.k (.bool false))])
 (.rt))
 (.sk)))
 (.sq (.sq (rg [oo 10 (.fa 1 (.t 2)),
 oo 11 (.ld none (.t 10)),
 oo 12 (.fa 1 (.t 3)),
 oo 13 (.ld none (.t 12)),
 oo 14 (.ca .pure false (.f fid_laws_eqNodeS) [.t 11, .t 13]),
 oo 15 (.nt (.t 14))])
 (.cd (.t 15) (.sq (rg [om 4 (.k (.bool false))])
 (.rt))
 (.sk)))
 (.sq (.sq (rg [oo 16 (.fa 2 (.t 2)),
 oo 17 (.ld none (.t 16)),
 oo 18 (.fa 2 (.t 3)),
 oo 19 (.ld none (.t 18)),
 oo 20 (.ca .pure false (.f fid_laws_eqIntS) [.t 17, .t 19]),
 oo 21 (.nt (.t 20))])
 (.cd (.t 21) (.sq (rg [om 4 (.k (.bool false))])
 (.rt))
 (.sk)))
 (.sq (.sq (rg [oo 22 (.fa 3 (.t 2)),
 oo 23 (.ld none (.t 22)),
 oo 24 (.fa 3 (.t 3)),
 oo 25 (.ld none (.t 24)),
 oo 26 (.bi .neq 0 (.t 23) (.t 25))])
 (.cd (.t 26) (.sq (rg [om 4 (.k (.bool false))])
 (.rt))
 (.sk)))
 (.sq (.sq (rg [oo 27 (.fa 4 (.t 2)),
 oo 28 (.ld none (.t 27)),
 oo 29 (.fa 4 (.t 3)),
 oo 30 (.ld none (.t 29)),
 oo 31 (.ca .pure false (.f fid_laws_eqStringS) [.t 28, .t 30]),
 oo 32 (.nt (.t 31))])
 (.cd (.t 32) (.sq (rg [om 4 (.k (.bool false))])
 (.rt))
 (.sk)))
 (.sq (.sq (rg [oo 33 (.fa 5 (.t 2)),
 oo 34 (.ld none (.t 33)),
 oo 35 (.fa 5 (.t 3)),
 oo 36 (.ld none (.t 35)),
 oo 37 (.ca .pure false (.f fid_laws_eqWireS) [.t 34, .t 36]),
 oo 38 (.nt (.t 37))])
 (.cd (.t 38) (.sq (rg [om 4 (.k (.bool false))])
 (.rt))
 (.sk)))
 (.sq (rg [om 4 (.k (.bool true))])
 (.rt))))))))) }
theorem k_laws_eqBigraph : chkF Go.Proofs.Tryz.prog fid_laws_eqBigraph c_laws_eqBigraph = true := by kernel_rfl

def c_laws_szControl : F2 :=
  { nt := 13, res := [.t 4 [0]], body :=
   (.sq (rg [oo 2 (.bt (.t 0)),
 om 4 (i6 0)])
 (.sq (rg [om 5 (.t 1),
 oo 6 (.fa 0 (.t 2)),
 oo 7 (.ld none (.t 6)),
 oo 8 (.lg (.t 7)),
 oo 9 (.bi .sub 0 (.t 5) (.t 8)),
 om 1 (.t 9)])
 (.sq (.sq (rg [om 10 (.t 1),
 oo 11 (.bi .lss 0 (.t 10) (i6 0))])
 (.cd (.t 11) (.sq (rg [om 4 (i6 (-1))])
 (.rt))
 (.sk)))
 (.sq (rg [om 12 (.t 1),
 om 4 (.t 12)])
 (.rt))))) }
theorem k_laws_szControl : chkF Go.Proofs.Tryz.prog fid_laws_szControl c_laws_szControl = true := by kernel_rfl

def c_laws_toControl : F2 :=
  { nt := 14, res := [.c 2 (some 3) [0, 0, 0]], body :=
   (.sq (rg [oo 1 (.bt (.t 0)),
 oo 2 (.al [.string ⟨#[]⟩, .int .i64 0, .int .i64 0] [])])
 (.sq (rg [oo 3 (.al [.string ⟨#[]⟩, .int .i64 0, .int .i64 0] [])])
 (.sq (rg [oo 4 (.fa 0 (.t 1)),
 oo 5 (.ld none (.t 4)),
 oo 6 (.fa 0 (.t 3)),
 on1 (.st 1 (.t 6) (.t 5))])
 (.sq (rg [oo 7 (.fa 1 (.t 1)),
 oo 8 (.ld none (.t 7)),
 oo 9 (.fa 1 (.t 3)),
 on1 (.st 1 (.t 9) (.t 8))])
 (.sq (rg [oo 10 (.fa 2 (.t 1)),
 oo 11 (.ld none (.t 10)),
 oo 12 (.fa 2 (.t 3)),
 on1 (.st 1 (.t 12) (.t 11))])
 (.sq (rg [oo 13 (.ld (some 3) (.t 3)),
 on1 (.st 3 (.t 2) (.t 13))])
 (.rt))))))) }
theorem k_laws_toControl : chkF Go.Proofs.Tryz.prog fid_laws_toControl c_laws_toControl = true := by kernel_rfl

def c_laws_toNodeS : F2 :=
  { nt := 23, res := [.t 2 [4]], body :=
   (.sq (rg [om 2 (.k (.slice none 0 0))])
 (.sq (rg [om 5 (.t 0),
 oo 6 (.ln (.t 5)),
 oo 7 (.ms 3 [.int .i64 0, .int .i64 0, .slice none 0 0] (.t 6)),
 om 3 (.t 7)])
 (.sq (.sq (rg [om 4 (i6 0)])
 (.bl 0 (.lp [0, 3, 4] [224, 640] (.sq (.sq (rg [om 8 (.t 4),
 om 9 (.t 0),
 oo 10 (.ln (.t 9)),
 oo 11 (.bi .lss 0 (.t 8) (.t 10))])
 (.cd (.t 11) (.sk)
 (.ex 0)))
 (.sq (.bl 1 (rg [om 14 (.t 3),
 om 15 (.t 4),
 om 16 (.t 0),
 om 17 (.t 4),
 oo 18 (.ia 3 (.t 16) (.t 17)),
 oo 19 (.ld (some 3) (.t 18)),
 oo 20 (.ca .pure true (.f fid_laws_toNode) [.t 19]),
 oo 21 (.ia 3 (.t 14) (.t 15)),
 on1 (.st 3 (.t 21) (.t 20))]))
 (rg [om 12 (.t 4),
 oo 13 (.bi .add 0 (.t 12) (i6 1)),
 om 4 (.t 13)]))))))
 (.sq (rg [om 22 (.t 3),
 om 2 (.t 22)])
 (.rt))))) }
theorem k_laws_toNodeS : chkF Go.Proofs.Tryz.prog fid_laws_toNodeS c_laws_toNodeS = true := by kernel_rfl

def c_laws_toWireS : F2 :=
  { nt := 23, res := [.t 2 [3]], body :=
   (.sq (rg [om 2 (.k (.slice none 0 0))])
 (.sq (rg [om 5 (.t 0),
 oo 6 (.ln (.t 5)),
 oo 7 (.ms 2 [.string ⟨#[]⟩, .int .i64 0] (.t 6)),
 om 3 (.t 7)])
 (.sq (.sq (rg [om 4 (i6 0)])
 (.bl 0 (.lp [0, 3, 4] [224] (.sq (.sq (rg [om 8 (.t 4),
 om 9 (.t 0),
 oo 10 (.ln (.t 9)),
 oo 11 (.bi .lss 0 (.t 8) (.t 10))])
 (.cd (.t 11) (.sk)
 (.ex 0)))
 (.sq (.bl 1 (rg [om 14 (.t 3),
 om 15 (.t 4),
 om 16 (.t 0),
 om 17 (.t 4),
 oo 18 (.ia 2 (.t 16) (.t 17)),
 oo 19 (.ld (some 2) (.t 18)),
 oo 20 (.ca .pure true (.f fid_laws_toWire) [.t 19]),
 oo 21 (.ia 2 (.t 14) (.t 15)),
 on1 (.st 2 (.t 21) (.t 20))]))
 (rg [om 12 (.t 4),
 oo 13 (.bi .add 0 (.t 12) (i6 1)),
 om 4 (.t 13)]))))))
 (.sq (rg [om 22 (.t 3),
 om 2 (.t 22)])
 (.rt))))) }
theorem k_laws_toWireS : chkF Go.Proofs.Tryz.prog fid_laws_toWireS c_laws_toWireS = true := by kernel_rfl

def c_laws_eqControl : F2 :=
  { nt := 20, res := [.t 4 [0]], body :=
   (.sq (rg [oo 2 (.bt (.t 0)),
 oo 3 (.bt (.t 1)),
 om 4 (.k (.bool false))])
 (.sq (.sq (rg [oo 5 (.fa 0 (.t 2)),
 oo 6 (.ld none (.t 5)),
 oo 7 (.fa 0 (.t 3)),
 oo 8 (.ld none (.t 7)),
 oo 9 (.bi .neq 0 (.t 6) (.t 8))])
 (.cd (.t 9) (.sq (rg [om 4 (.k (.bool false))])
 (.rt))
 (.sk)))
 (.sq (.sq (rg [oo 10 (.fa 1 (.t 2)),
 oo 11 (.ld none (.t 10)),
 oo 12 (.fa 1 (.t 3)),
 oo 13 (.ld none (.t 12)),
 oo 14 (.bi .neq 0 (.t 11) (.t 13))])
 (.cd (.t 14) (.sq (rg [om 4 (.k (.bool false))])
 (.rt))
 (.sk)))
 (.sq (.sq (rg [oo 15 (.fa 2 (.t 2)),
 oo 16 (.ld none (.t 15)),
 oo 17 (.fa 2 (.t 3)),
 oo 18 (.ld none (.t 17)),
 oo 19 (.bi .neq 0 (.t 16) (.t 18))])
 (.cd (.t 19) (.sq (rg [om 4 (.k (.bool false))])
 (.rt))
 (.sk)))
 (.sq (rg [om 4 (.k (.bool true))])
 (.rt)))))) }
theorem k_laws_eqControl : chkF Go.Proofs.Tryz.prog fid_laws_eqControl c_laws_eqControl = true := by kernel_rfl

def c_laws_szNode : F2 :=
  { nt := 12, res := [.t 4 [0]], body :=
   (.sq (rg [oo 2 (.bt (.t 0)),
 om 4 (i6 0)])
 (.sq (rg [oo 5 (.fa 2 (.t 2)),
 oo 6 (.ld none (.t 5)),
 om 7 (.t 1),
 oo 8 (.ca .pure false (.f fid_laws_szIntS) [.t 6, .t 7]),
 om 1 (.t 8)])
 (.sq (.sq (rg [om 9 (.t 1),
 oo 10 (.bi .lss 0 (.t 9) (i6 0))])
 (.cd (.t 10) (.sq (rg [om 4 (i6 (-1))])
 (.rt))
 (.sk)))
 (.sq (rg [om 11 (.t 1),
 om 4 (.t 11)])
 (.rt))))) }
theorem k_laws_szNode : chkF Go.Proofs.Tryz.prog fid_laws_szNode c_laws_szNode = true := by kernel_rfl

def c_laws_szWire : F2 :=
  { nt := 13, res := [.t 4 [0]], body :=
   (.sq (rg [oo 2 (.bt (.t 0)),
 om 4 (i6 0)])
 (.sq (rg [om 5 (.t 1),
 oo 6 (.fa 0 (.t 2)),
 oo 7 (.ld none (.t 6)),
 oo 8 (.lg (.t 7)),
 oo 9 (.bi .sub 0 (.t 5) (.t 8)),
 om 1 (.t 9)])
 (.sq (.sq (rg [om 10 (.t 1),
 oo 11 (.bi .lss 0 (.t 10) (i6 0))])
 (.cd (.t 11) (.sq (rg [om 4 (i6 (-1))])
 (.rt))
 (.sk)))
 (.sq (rg [om 12 (.t 1),
 om 4 (.t 12)])
 (.rt))))) }
theorem k_laws_szWire : chkF Go.Proofs.Tryz.prog fid_laws_szWire c_laws_szWire = true := by kernel_rfl

def c_laws_toNode : F2 :=
  { nt := 15, res := [.c 2 (some 3) [0, 0, 2]], body :=
   (.sq (rg [oo 1 (.bt (.t 0)),
 oo 2 (.al [.int .i64 0, .int .i64 0, .slice none 0 0] [])])
 (.sq (rg [oo 3 (.al [.int .i64 0, .int .i64 0, .slice none 0 0] [])])
 (.sq (rg [oo 4 (.fa 0 (.t 1)),
 oo 5 (.ld none (.t 4)),
 oo 6 (.fa 0 (.t 3)),
 on1 (.st 1 (.t 6) (.t 5))])
 (.sq (rg [oo 7 (.fa 1 (.t 1)),
 oo 8 (.ld none (.t 7)),
 oo 9 (.fa 1 (.t 3)),
 on1 (.st 1 (.t 9) (.t 8))])
 (.sq (rg [oo 10 (.fa 2 (.t 1)),
 oo 11 (.ld none (.t 10)),
 oo 12 (.ca .pure true (.f fid_laws_toIntS) [.t 11]),
 oo 13 (.fa 2 (.t 3)),
 on1 (.st 1 (.t 13) (.t 12))])
 (.sq (rg [oo 14 (.ld (some 3) (.t 3)),
 on1 (.st 3 (.t 2) (.t 14))])
 (.rt))))))) }
theorem k_laws_toNode : chkF Go.Proofs.Tryz.prog fid_laws_toNode c_laws_toNode = true := by kernel_rfl

def c_laws_toWire : F2 :=
  { nt := 11, res := [.c 2 (some 2) [0, 0]], body :=
   (.sq (rg [oo 1 (.bt (.t 0)),
 oo 2 (.al [.string ⟨#[]⟩, .int .i64 0] [])])
 (.sq (rg [oo 3 (.al [.string ⟨#[]⟩, .int .i64 0] [])])
 (.sq (rg [oo 4 (.fa 0 (.t 1)),
 oo 5 (.ld none (.t 4)),
 oo 6 (.fa 0 (.t 3)),
 on1 (.st 1 (.t 6) (.t 5))])
 (.sq (rg [oo 7 (.fa 1 (.t 1)),
 oo 8 (.ld none (.t 7)),
 oo 9 (.fa 1 (.t 3)),
 on1 (.st 1 (.t 9) (.t 8))])
 (.sq (rg [oo 10 (.ld (some 2) (.t 3)),
 on1 (.st 2 (.t 2) (.t 10))])
 (.rt)))))) }
theorem k_laws_toWire : chkF Go.Proofs.Tryz.prog fid_laws_toWire c_laws_toWire = true := by kernel_rfl

def c_laws_eqNode : F2 :=
  { nt := 21, res := [.t 4 [0]], body :=
   (.sq (rg [oo 2 (.bt (.t 0)),
 oo 3 (.bt (.t 1)),
 om 4 (.k (.bool false))])
 (.sq (.sq (rg [oo 5 (.fa 0 (.t 2)),
 oo 6 (.ld none (.t 5)),
 oo 7 (.fa 0 (.t 3)),
 oo 8 (.ld none (.t 7)),
 oo 9 (.bi .neq 0 (.t 6) (.t 8))])
 (.cd (.t 9) (.sq (rg [om 4 (.k (.bool false))])
 (.rt))
 (.sk)))
 (.sq (.sq (rg [oo 10 (.fa 1 (.t 2)),
 oo 11 (.ld none (.t 10)),
 oo 12 (.fa 1 (.t 3)),
 oo 13 (.ld none (.t 12)),
 oo 14 (.bi .neq 0 (.t 11) (.t 13))])
 (.cd (.t 14) (.sq (rg [om 4 (.k (.bool false))])
 (.rt))
 (.sk)))
 (.sq (.sq (rg [oo 15 (.fa 2 (.t 2)),
 oo 16 (.ld none (.t 15)),
 oo 17 (.fa 2 (.t 3)),
 oo 18 (.ld none (.t 17)),
 oo 19 (.ca .pure false (.f fid_laws_eqIntS) [.t 16, .t 18]),
 oo 20 (.nt (.t 19))])
 (.cd (.t 20) (.sq (rg [om 4 (.k (.bool false))])
 (.rt))
 (.sk)))
 (.sq (rg [om 4 (.k (.bool true))])
 (.rt)))))) }
theorem k_laws_eqNode : chkF Go.Proofs.Tryz.prog fid_laws_eqNode c_laws_eqNode = true := by kernel_rfl

def c_laws_eqWire : F2 :=
  { nt := 15, res := [.t 4 [0]], body :=
   (.sq (rg [oo 2 (.bt (.t 0)),
 oo 3 (.bt (.t 1)),
 om 4 (.k (.bool false))])
 (.sq (.sq (rg [oo 5 (.fa 0 (.t 2)),
 oo 6 (.ld none (.t 5)),
 oo 7 (.fa 0 (.t 3)),
 oo 8 (.ld none (.t 7)),
 oo 9 (.bi .neq 0 (.t 6) (.t 8))])
 (.cd (.t 9) (.sq (rg [om 4 (.k (.bool false))])
 (.rt))
 (.sk)))
 (.sq (.sq (rg [oo 10 (.fa 1 (.t 2)),
 oo 11 (.ld none (.t 10)),
 oo 12 (.fa 1 (.t 3)),
 oo 13 (.ld none (.t 12)),
 oo 14 (.bi .neq 0 (.t 11) (.t 13))])
 (.cd (.t 14) (.sq (rg [om 4 (.k (.bool false))])
 (.rt))
 (.sk)))
 (.sq (rg [om 4 (.k (.bool true))])
 (.rt))))) }
theorem k_laws_eqWire : chkF Go.Proofs.Tryz.prog fid_laws_eqWire c_laws_eqWire = true := by kernel_rfl

end Go.Fd

/-
  SMALL WORDS FOR MARKS. Own work.
-/
namespace Go.Fd
theorem sset_ne {S : Sto} {id i : Oid} {ob : Ob} (h : i ≠ id) : sset S id ob i = S i := if_neg h
theorem mL_get {α : Type} {m : α → Int → α} {n : α → Nat} : ∀ {a : List α} {k : Int} {j : Nat} (h : j < a.length), (mL m n a k)[j]? = some (m a[j] (kJ n a k j))
  | [], _, _, h => by cases h
  | x :: r, k, 0, _ => by simp [mL, kJ, nL]
  | x :: r, k, j + 1, h => by
    simp only [mL, List.getElem?_cons_succ, List.getElem_cons_succ]
    rw [mL_get (by simpa using h)]
    simp only [kJ, List.take_succ_cons, nL]
    congr 2
    omega
theorem mL_row {α : Type} {c : α → List Tr} {m : α → Int → α} {n : α → Nat} {a : List α} {k : Int} {j : Nat} (h : j < a.length) : ((mL m n a k).map c)[j]? = some (c (m a[j] (kJ n a k j))) := by
  rw [List.getElem?_map, mL_get h]; rfl
theorem cut_mL {α : Type} {c : α → List Tr} {m : α → Int → α} {n : α → Nat} {a : List α} {k : Int} : cut ((mL m n a k).map c) 0 a.length = (mL m n a k).map c := by
  simp only [cut, List.drop_zero]
  exact List.take_of_length_le (by rw [List.length_map, mL_length]; exact Nat.le_refl _)
theorem cut_map {α : Type} {c : α → List Tr} {a : List α} : cut (a.map c) 0 a.length = a.map c := by
  simp only [cut, List.drop_zero]
  exact List.take_of_length_le (by rw [List.length_map]; exact Nat.le_refl _)
end Go.Fd

/-
  MARKING STRUCTS; WHETHER MARKS ARE HELD (printed by lawgen.py). Own work.
-/
namespace Go.Fd
set_option maxRecDepth 20000
def nBigraph (x : TBigraph) : Nat := nL nNode x.nodes + nL nInt x.sites + nL nStr x.outer + nL nWire x.inner
theorem sem_markBigraph (x : TBigraph) (k : Int) (lvl : Nat) (S : Sto) (i1 i2 i3 i4 : Oid) (k1 h1 v1 k2 h2 v2 k3 h3 v3 k4 h4 v4 : Nat) (c1 c2 c3 c4 : Option Nat) (l1 : i1.1 < lvl) (l2 : i2.1 < lvl) (l3 : i3.1 < lvl) (l4 : i4.1 < lvl) (n2_1 : i2 ≠ i1) (n3_1 : i3 ≠ i1) (n3_2 : i3 ≠ i2) (n4_1 : i4 ≠ i1) (n4_2 : i4 ≠ i2) (n4_3 : i4 ≠ i3) (s1 : S i1 = some (.ar k1 (x.nodes.map cNode) true h1 v1)) (s2 : S i2 = some (.ar k2 (rI x.sites) true h2 v2)) (s3 : S i3 = some (.ar k3 (rS x.outer) true h3 v3)) (s4 : S i4 = some (.ar k4 (x.inner.map cWire) true h4 v4)) (h0 : 0 ≤ k) (hk : k + nBigraph x ≤ 4611686018427387904) (hb : bdBigraph 4294967296 x) :
    Sem Go.Proofs.Tryz.prog fid_laws_markBigraph lvl [.ag [iI x.roots, .hd i1 [] 0 x.nodes.length c1 h1, .hd i2 [] 0 x.sites.length c2 h2, iI x.edges, .hd i3 [] 0 x.outer.length c3 h3, .hd i4 [] 0 x.inner.length c4 h4], iI k] S (iI (k + nBigraph x)) (sset (sset (sset (sset S i1 (.ar k1 (((mL mNode nNode x.nodes (k))).map cNode) true h1 v1)) i2 (.ar k2 (rI (mL mInt nInt x.sites (k + (nL nNode x.nodes : Nat)))) true h2 v2)) i3 (.ar k3 (rS (mL mStr nStr x.outer (k + (nL nNode x.nodes : Nat) + (nL nInt x.sites : Nat)))) true h3 v3)) i4 (.ar k4 (((mL mWire nWire x.inner (k + (nL nNode x.nodes : Nat) + (nL nInt x.sites : Nat) + (nL nStr x.outer : Nat)))).map cWire) true h4 v4)) := by
  obtain ⟨b0, b1, b2, b3, b4, b5, b6⟩ := hb
  have e1 : i1.1 ≠ lvl := by omega
  have e2 : i2.1 ≠ lvl := by omega
  have e3 : i3.1 ≠ lvl := by omega
  have e4 : i4.1 ≠ lvl := by omega
  simp only [nBigraph] at hk
  refine sem_of_chk k_laws_markBigraph trivial ?_
  simp only [c_laws_markBigraph, r_okmo e1, r_okmo e2, r_okmo e3, r_okmo e4, EVA, ↓reduceIte, Nat.reduceEqDiff, Nat.reduceMul, reduceCtorEq, Nat.reduceAdd, Nat.reduceSub, Nat.reduceLeDiff, Nat.reduceLT, Int.reduceToNat, Int.reduceLE, Int.reduceLT, mens, men]
  simp only [arg1]
  refine kcy_mark0 mark_NodeS l1 s1 (by omega) (by omega) b0 b1 ?_
  simp only [r_okmo e1, r_okmo e2, r_okmo e3, r_okmo e4, EVA, ↓reduceIte, Nat.reduceEqDiff, Nat.reduceMul, reduceCtorEq, Nat.reduceAdd, Nat.reduceSub, Nat.reduceLeDiff, Nat.reduceLT, Int.reduceToNat, Int.reduceLE, Int.reduceLT, mens, men]
  simp only [arg1]
  refine kcy_mark0 mark_IntS l2 (by rw [sset_ne n2_1]; exact s2) (by omega) (by omega) b2 (fun _ _ => trivial) ?_
  simp only [r_okmo e1, r_okmo e2, r_okmo e3, r_okmo e4, EVA, ↓reduceIte, Nat.reduceEqDiff, Nat.reduceMul, reduceCtorEq, Nat.reduceAdd, Nat.reduceSub, Nat.reduceLeDiff, Nat.reduceLT, Int.reduceToNat, Int.reduceLE, Int.reduceLT, mens, men]
  simp only [arg1]
  refine kcy_mark0 mark_StringS l3 (by rw [sset_ne n3_2, sset_ne n3_1]; exact s3) (by omega) (by omega) b3 b4 ?_
  simp only [r_okmo e1, r_okmo e2, r_okmo e3, r_okmo e4, EVA, ↓reduceIte, Nat.reduceEqDiff, Nat.reduceMul, reduceCtorEq, Nat.reduceAdd, Nat.reduceSub, Nat.reduceLeDiff, Nat.reduceLT, Int.reduceToNat, Int.reduceLE, Int.reduceLT, mens, men]
  simp only [arg1]
  refine kcy_mark0 mark_WireS l4 (by rw [sset_ne n4_3, sset_ne n4_2, sset_ne n4_1]; exact s4) (by omega) (by omega) b5 b6 ?_
  simp only [r_okmo e1, r_okmo e2, r_okmo e3, r_okmo e4, EVA, ↓reduceIte, Nat.reduceEqDiff, Nat.reduceMul, reduceCtorEq, Nat.reduceAdd, Nat.reduceSub, Nat.reduceLeDiff, Nat.reduceLT, Int.reduceToNat, Int.reduceLE, Int.reduceLT, mens, men]
  simp only [nBigraph, Int.natCast_add, ← Int.add_assoc]
  try exact ⟨rfl, rfl⟩
theorem kcy_markBigraph {x : TBigraph} {k : Int} {lvl a1 a2 a3 a4 : Nat} {out : Sto} {k1 h1 v1 k2 h2 v2 k3 h3 v3 k4 h4 v4 : Nat} {c1 c2 c3 c4 : Option Nat} {env : List (Nat × IV)} {loc : List (Nat × Ob)} {d : Option Nat} {K : St → Prop} (n2_1 : a2 ≠ a1) (n3_1 : a3 ≠ a1) (n3_2 : a3 ≠ a2) (n4_1 : a4 ≠ a1) (n4_2 : a4 ≠ a2) (n4_3 : a4 ≠ a3) (s1 : lkO a1 loc = some (.ar k1 (x.nodes.map cNode) true h1 v1)) (s2 : lkO a2 loc = some (.ar k2 (rI x.sites) true h2 v2)) (s3 : lkO a3 loc = some (.ar k3 (rS x.outer) true h3 v3)) (s4 : lkO a4 loc = some (.ar k4 (x.inner.map cWire) true h4 v4)) (h0 : 0 ≤ k) (hk : k + nBigraph x ≤ 4611686018427387904) (hb : bdBigraph 4294967296 x)
    (hK : K ⟨lvl, ptd d (iI (k + nBigraph x)) env, (ptO a4 (.ar k4 (((mL mWire nWire x.inner (k + (nL nNode x.nodes : Nat) + (nL nInt x.sites : Nat) + (nL nStr x.outer : Nat)))).map cWire) true h4 v4) (ptO a3 (.ar k3 (rS (mL mStr nStr x.outer (k + (nL nNode x.nodes : Nat) + (nL nInt x.sites : Nat)))) true h3 v3) (ptO a2 (.ar k2 (rI (mL mInt nInt x.sites (k + (nL nNode x.nodes : Nat)))) true h2 v2) (ptO a1 (.ar k1 (((mL mNode nNode x.nodes (k))).map cNode) true h1 v1) loc)))), out⟩) :
    kcy (Sem Go.Proofs.Tryz.prog) fid_laws_markBigraph true lvl env loc out d K [.ag [iI x.roots, .hd (lvl, a1) [] 0 x.nodes.length c1 h1, .hd (lvl, a2) [] 0 x.sites.length c2 h2, iI x.edges, .hd (lvl, a3) [] 0 x.outer.length c3 h3, .hd (lvl, a4) [] 0 x.inner.length c4 h4], iI k] := by
  refine kcy_intro (r := iI (k + nBigraph x)) (ptO a4 (.ar k4 (((mL mWire nWire x.inner (k + (nL nNode x.nodes : Nat) + (nL nInt x.sites : Nat) + (nL nStr x.outer : Nat)))).map cWire) true h4 v4) (ptO a3 (.ar k3 (rS (mL mStr nStr x.outer (k + (nL nNode x.nodes : Nat) + (nL nInt x.sites : Nat)))) true h3 v3) (ptO a2 (.ar k2 (rI (mL mInt nInt x.sites (k + (nL nNode x.nodes : Nat)))) true h2 v2) (ptO a1 (.ar k1 (((mL mNode nNode x.nodes (k))).map cNode) true h1 v1) loc)))) out (fun _ _ => rfl) ?_ ⟨trivial, hK⟩
  rw [packS_ptO, packS_ptO, packS_ptO, packS_ptO]
  exact sem_markBigraph x k (lvl + 1) _ (lvl, a1) (lvl, a2) (lvl, a3) (lvl, a4) k1 h1 v1 k2 h2 v2 k3 h3 v3 k4 h4 v4 c1 c2 c3 c4 (Nat.lt_succ_self _) (Nat.lt_succ_self _) (Nat.lt_succ_self _) (Nat.lt_succ_self _) (fun e => n2_1 (congrArg Prod.snd e)) (fun e => n3_1 (congrArg Prod.snd e)) (fun e => n3_2 (congrArg Prod.snd e)) (fun e => n4_1 (congrArg Prod.snd e)) (fun e => n4_2 (congrArg Prod.snd e)) (fun e => n4_3 (congrArg Prod.snd e)) (by rw [r_pack]; exact s1) (by rw [r_pack]; exact s2) (by rw [r_pack]; exact s3) (by rw [r_pack]; exact s4) h0 hk hb
/-- What a marked one holds. -/
def mstBigraph (x : TBigraph) (k : Int) : TBigraph := { x with nodes := mL mNode nNode x.nodes (k), sites := mL mInt nInt x.sites (k + (nL nNode x.nodes : Nat)), outer := mL mStr nStr x.outer (k + (nL nNode x.nodes : Nat) + (nL nInt x.sites : Nat)), inner := mL mWire nWire x.inner (k + (nL nNode x.nodes : Nat) + (nL nInt x.sites : Nat) + (nL nStr x.outer : Nat)) }
theorem held_IntS (a : List Int) (k : Int) (hl : a.length ≤ 4294967296) (h0 : 0 ≤ k) (hk : k + nL nInt a ≤ 4611686018427387904) (lvl : Nat) (S : Sto) : Sem Go.Proofs.Tryz.prog fid_laws_heldIntS lvl [.tr (.sl (rI (mL mInt nInt a k))), iI k] S (iI (k + nL nInt a)) S := by
  refine sem_of_chk k_laws_heldIntS trivial ?_
  simp only [c_laws_heldIntS, EVA, ↓reduceIte, Nat.reduceEqDiff, Nat.reduceMul, reduceCtorEq, Nat.reduceAdd, Nat.reduceSub, Nat.reduceLeDiff, Nat.reduceLT, Int.reduceToNat, Int.reduceLE, Int.reduceLT, mens, men]
  refine wp_count (α := Unit) a.length (fun j _ => ⟨lvl, [(0, .tr (.sl (rI (mL mInt nInt a k)))), (1, iI (kJ nInt a k j)), (5, iI j)], [], S⟩) (fun _ _ => True) () ⟨by simp only [EVA, ↓reduceIte, Nat.reduceEqDiff, Nat.reduceMul, reduceCtorEq, Nat.reduceAdd, Nat.reduceSub, Nat.reduceLeDiff, Nat.reduceLT, Int.reduceToNat, Int.reduceLE, Int.reduceLT, mens, men], by (simp only [kJ_zero, EVA, ↓reduceIte, Nat.reduceEqDiff, Nat.reduceMul, reduceCtorEq, Nat.reduceAdd, Nat.reduceSub, Nat.reduceLeDiff, Nat.reduceLT, Int.reduceToNat, Int.reduceLE, Int.reduceLT, mens, men]) <;> rfl⟩ trivial ?_
  intro j _ hj _
  simp only [List.length_map, mL_length, EVA, ↓reduceIte, Nat.reduceEqDiff, Nat.reduceMul, reduceCtorEq, Nat.reduceAdd, Nat.reduceSub, Nat.reduceLeDiff, Nat.reduceLT, Int.reduceToNat, Int.reduceLE, Int.reduceLT, mens, men]
  refine ite_of (fun hlt => ?_) (fun hge => ?_)
  · have hja : j < a.length := by omega
    have ga := mL_row (c := (fun n : Int => [tv n])) (m := mInt) (n := nInt) (k := k) hja
    have hge2 := kJ_le nInt (a := a) (k := k) (j := j + 1)
    rw [kJ_succ nInt hja] at hge2
    have hge3 := kJ_ge nInt (a := a) (k := k) (j := j)
    try simp only [nInt] at hge2
    simp only [ga, mInt, mStr, Nat.zero_add, hja, ne_eq, not_true_eq_false, EVA, ↓reduceIte, Nat.reduceEqDiff, Nat.reduceMul, reduceCtorEq, Nat.reduceAdd, Nat.reduceSub, Nat.reduceLeDiff, Nat.reduceLT, Int.reduceToNat, Int.reduceLE, Int.reduceLT, mens, men]
    refine ⟨by rw [fits_i64]; omega, ⟨by rw [fits_i64]; omega, cntJ_intro () hja ?_ trivial⟩⟩
    rw [kJ_succ nInt hja]
    simp only [nInt, Int.natCast_add, Int.natCast_one, Int.add_assoc]
    try rfl
  · have : j = a.length := by omega
    subst this
    rw [kJ_all]
theorem held_NodeS (a : List TNode) (k : Int) (hl : a.length ≤ 4294967296) (hB : ∀ x ∈ a, (bdNode 4294967296) x) (h0 : 0 ≤ k) (hk : k + nL nNode a ≤ 4611686018427387904) (lvl : Nat) (S : Sto) : Sem Go.Proofs.Tryz.prog fid_laws_heldNodeS lvl [.tr (.sl (((mL mNode nNode a k)).map cNode)), iI k] S (iI (k + nL nNode a)) S := by
  refine sem_of_chk k_laws_heldNodeS trivial ?_
  simp only [c_laws_heldNodeS, EVA, ↓reduceIte, Nat.reduceEqDiff, Nat.reduceMul, reduceCtorEq, Nat.reduceAdd, Nat.reduceSub, Nat.reduceLeDiff, Nat.reduceLT, Int.reduceToNat, Int.reduceLE, Int.reduceLT, mens, men]
  refine wp_count (α := Unit) a.length (fun j _ => ⟨lvl, [(0, .tr (.sl (((mL mNode nNode a k)).map cNode))), (1, iI (kJ nNode a k j)), (5, iI j)], [], S⟩) (fun _ _ => True) () ⟨by simp only [EVA, ↓reduceIte, Nat.reduceEqDiff, Nat.reduceMul, reduceCtorEq, Nat.reduceAdd, Nat.reduceSub, Nat.reduceLeDiff, Nat.reduceLT, Int.reduceToNat, Int.reduceLE, Int.reduceLT, mens, men], by (simp only [kJ_zero, EVA, ↓reduceIte, Nat.reduceEqDiff, Nat.reduceMul, reduceCtorEq, Nat.reduceAdd, Nat.reduceSub, Nat.reduceLeDiff, Nat.reduceLT, Int.reduceToNat, Int.reduceLE, Int.reduceLT, mens, men]) <;> rfl⟩ trivial ?_
  intro j _ hj _
  simp only [List.length_map, mL_length, EVA, ↓reduceIte, Nat.reduceEqDiff, Nat.reduceMul, reduceCtorEq, Nat.reduceAdd, Nat.reduceSub, Nat.reduceLeDiff, Nat.reduceLT, Int.reduceToNat, Int.reduceLE, Int.reduceLT, mens, men]
  refine ite_of (fun hlt => ?_) (fun hge => ?_)
  · have hja : j < a.length := by omega
    have ga := mL_row (c := cNode) (m := mNode) (n := nNode) (k := k) hja
    have hge2 := kJ_le nNode (a := a) (k := k) (j := j + 1)
    rw [kJ_succ nNode hja] at hge2
    have hge3 := kJ_ge nNode (a := a) (k := k) (j := j)
    try simp only [nNode] at hge2
    have hb := hB _ (List.getElem_mem hja)
    simp only [ga, cNode, mNode, mInt, mStr, Nat.zero_add, hja, ne_eq, not_true_eq_false, EVA, ↓reduceIte, Nat.reduceEqDiff, Nat.reduceMul, reduceCtorEq, Nat.reduceAdd, Nat.reduceSub, Nat.reduceLeDiff, Nat.reduceLT, Int.reduceToNat, Int.reduceLE, Int.reduceLT, mens, men]
    refine ⟨by rw [fits_i64]; omega, ⟨by rw [fits_i64]; omega, ?_⟩⟩
    refine kca_intro (held_IntS (a[j]).links (kJ nNode a k j + 1 + 1) hb (by omega) (by omega)) ?_
    have hz2 : ¬ (kJ nNode a k j + 1 + 1 + (nL nInt (a[j]).links : Nat) < 0) := by omega
    simp only [ga, cNode, mNode, mInt, mStr, Nat.zero_add, hja, ne_eq, not_true_eq_false, hz2, EVA, ↓reduceIte, Nat.reduceEqDiff, Nat.reduceMul, reduceCtorEq, Nat.reduceAdd, Nat.reduceSub, Nat.reduceLeDiff, Nat.reduceLT, Int.reduceToNat, Int.reduceLE, Int.reduceLT, mens, men]
    refine ⟨by rw [fits_i64]; omega, cntJ_intro () hja ?_ trivial⟩
    rw [kJ_succ nNode hja]
    simp only [nNode, Int.natCast_add, Int.natCast_one, Int.add_assoc]
    try rfl
  · have : j = a.length := by omega
    subst this
    rw [kJ_all]
theorem held_StringS (a : List ByteArray) (k : Int) (hl : a.length ≤ 4294967296) (hB : ∀ x ∈ a, (fun x => x.size ≤ 4294967296) x) (h0 : 0 ≤ k) (hk : k + nL nStr a ≤ 4611686018427387904) (lvl : Nat) (S : Sto) : Sem Go.Proofs.Tryz.prog fid_laws_heldStringS lvl [.tr (.sl (rS (mL mStr nStr a k))), iI k] S (iI (k + nL nStr a)) S := by
  refine sem_of_chk k_laws_heldStringS trivial ?_
  simp only [c_laws_heldStringS, EVA, ↓reduceIte, Nat.reduceEqDiff, Nat.reduceMul, reduceCtorEq, Nat.reduceAdd, Nat.reduceSub, Nat.reduceLeDiff, Nat.reduceLT, Int.reduceToNat, Int.reduceLE, Int.reduceLT, mens, men]
  refine wp_count (α := Unit) a.length (fun j _ => ⟨lvl, [(0, .tr (.sl (rS (mL mStr nStr a k)))), (1, iI (kJ nStr a k j)), (5, iI j)], [], S⟩) (fun _ _ => True) () ⟨by simp only [EVA, ↓reduceIte, Nat.reduceEqDiff, Nat.reduceMul, reduceCtorEq, Nat.reduceAdd, Nat.reduceSub, Nat.reduceLeDiff, Nat.reduceLT, Int.reduceToNat, Int.reduceLE, Int.reduceLT, mens, men], by (simp only [kJ_zero, EVA, ↓reduceIte, Nat.reduceEqDiff, Nat.reduceMul, reduceCtorEq, Nat.reduceAdd, Nat.reduceSub, Nat.reduceLeDiff, Nat.reduceLT, Int.reduceToNat, Int.reduceLE, Int.reduceLT, mens, men]) <;> rfl⟩ trivial ?_
  intro j _ hj _
  simp only [List.length_map, mL_length, EVA, ↓reduceIte, Nat.reduceEqDiff, Nat.reduceMul, reduceCtorEq, Nat.reduceAdd, Nat.reduceSub, Nat.reduceLeDiff, Nat.reduceLT, Int.reduceToNat, Int.reduceLE, Int.reduceLT, mens, men]
  refine ite_of (fun hlt => ?_) (fun hge => ?_)
  · have hja : j < a.length := by omega
    have ga := mL_row (c := (fun n : ByteArray => [ts n])) (m := mStr) (n := nStr) (k := k) hja
    have hge2 := kJ_le nStr (a := a) (k := k) (j := j + 1)
    rw [kJ_succ nStr hja] at hge2
    have hge3 := kJ_ge nStr (a := a) (k := k) (j := j)
    try simp only [nStr] at hge2
    have hb := hB _ (List.getElem_mem hja)
    simp only [ga, mStr, mInt, Nat.zero_add, hja, ne_eq, not_true_eq_false, EVA, ↓reduceIte, Nat.reduceEqDiff, Nat.reduceMul, reduceCtorEq, Nat.reduceAdd, Nat.reduceSub, Nat.reduceLeDiff, Nat.reduceLT, Int.reduceToNat, Int.reduceLE, Int.reduceLT, mens, men]
    refine kca_intro (sem_markText (kJ nStr a k j) (by omega)) ?_
    simp only [ga, mStr, mInt, Nat.zero_add, hja, ne_eq, not_true_eq_false, EVA, ↓reduceIte, Nat.reduceEqDiff, Nat.reduceMul, reduceCtorEq, Nat.reduceAdd, Nat.reduceSub, Nat.reduceLeDiff, Nat.reduceLT, Int.reduceToNat, Int.reduceLE, Int.reduceLT, mens, men]
    refine ⟨by rw [fits_i64]; omega, ⟨by rw [fits_i64]; omega, cntJ_intro () hja ?_ trivial⟩⟩
    rw [kJ_succ nStr hja]
    simp only [nStr, Int.natCast_add, Int.natCast_one, Int.add_assoc]
    try rfl
  · have : j = a.length := by omega
    subst this
    rw [kJ_all]
theorem held_WireS (a : List TWire) (k : Int) (hl : a.length ≤ 4294967296) (hB : ∀ x ∈ a, (bdWire 4294967296) x) (h0 : 0 ≤ k) (hk : k + nL nWire a ≤ 4611686018427387904) (lvl : Nat) (S : Sto) : Sem Go.Proofs.Tryz.prog fid_laws_heldWireS lvl [.tr (.sl (((mL mWire nWire a k)).map cWire)), iI k] S (iI (k + nL nWire a)) S := by
  refine sem_of_chk k_laws_heldWireS trivial ?_
  simp only [c_laws_heldWireS, EVA, ↓reduceIte, Nat.reduceEqDiff, Nat.reduceMul, reduceCtorEq, Nat.reduceAdd, Nat.reduceSub, Nat.reduceLeDiff, Nat.reduceLT, Int.reduceToNat, Int.reduceLE, Int.reduceLT, mens, men]
  refine wp_count (α := Unit) a.length (fun j _ => ⟨lvl, [(0, .tr (.sl (((mL mWire nWire a k)).map cWire))), (1, iI (kJ nWire a k j)), (5, iI j)], [], S⟩) (fun _ _ => True) () ⟨by simp only [EVA, ↓reduceIte, Nat.reduceEqDiff, Nat.reduceMul, reduceCtorEq, Nat.reduceAdd, Nat.reduceSub, Nat.reduceLeDiff, Nat.reduceLT, Int.reduceToNat, Int.reduceLE, Int.reduceLT, mens, men], by (simp only [kJ_zero, EVA, ↓reduceIte, Nat.reduceEqDiff, Nat.reduceMul, reduceCtorEq, Nat.reduceAdd, Nat.reduceSub, Nat.reduceLeDiff, Nat.reduceLT, Int.reduceToNat, Int.reduceLE, Int.reduceLT, mens, men]) <;> rfl⟩ trivial ?_
  intro j _ hj _
  simp only [List.length_map, mL_length, EVA, ↓reduceIte, Nat.reduceEqDiff, Nat.reduceMul, reduceCtorEq, Nat.reduceAdd, Nat.reduceSub, Nat.reduceLeDiff, Nat.reduceLT, Int.reduceToNat, Int.reduceLE, Int.reduceLT, mens, men]
  refine ite_of (fun hlt => ?_) (fun hge => ?_)
  · have hja : j < a.length := by omega
    have ga := mL_row (c := cWire) (m := mWire) (n := nWire) (k := k) hja
    have hge2 := kJ_le nWire (a := a) (k := k) (j := j + 1)
    rw [kJ_succ nWire hja] at hge2
    have hge3 := kJ_ge nWire (a := a) (k := k) (j := j)
    try simp only [nWire] at hge2
    have hb := hB _ (List.getElem_mem hja)
    simp only [ga, cWire, mWire, mInt, mStr, Nat.zero_add, hja, ne_eq, not_true_eq_false, EVA, ↓reduceIte, Nat.reduceEqDiff, Nat.reduceMul, reduceCtorEq, Nat.reduceAdd, Nat.reduceSub, Nat.reduceLeDiff, Nat.reduceLT, Int.reduceToNat, Int.reduceLE, Int.reduceLT, mens, men]
    refine kca_intro (sem_markText (kJ nWire a k j) (by omega)) ?_
    simp only [ga, cWire, mWire, mInt, mStr, Nat.zero_add, hja, ne_eq, not_true_eq_false, EVA, ↓reduceIte, Nat.reduceEqDiff, Nat.reduceMul, reduceCtorEq, Nat.reduceAdd, Nat.reduceSub, Nat.reduceLeDiff, Nat.reduceLT, Int.reduceToNat, Int.reduceLE, Int.reduceLT, mens, men]
    refine ⟨by rw [fits_i64]; omega, ⟨by rw [fits_i64]; omega, ⟨by rw [fits_i64]; omega, cntJ_intro () hja ?_ trivial⟩⟩⟩
    rw [kJ_succ nWire hja]
    simp only [nWire, Int.natCast_add, Int.natCast_one, Int.add_assoc]
    try rfl
  · have : j = a.length := by omega
    subst this
    rw [kJ_all]
theorem held_Bigraph (x : TBigraph) (k : Int) (hb : bdBigraph 4294967296 x) (h0 : 0 ≤ k) (hk : k + nBigraph x ≤ 4611686018427387904) (lvl : Nat) (S : Sto) : Sem Go.Proofs.Tryz.prog fid_laws_heldBigraph lvl [.ag ((cBigraph (mstBigraph x k)).map .tr), iI k] S (iI (k + nBigraph x)) S := by
  obtain ⟨b0, b1, b2, b3, b4, b5, b6⟩ := hb
  simp only [nBigraph] at hk
  refine sem_of_chk k_laws_heldBigraph trivial ?_
  simp only [c_laws_heldBigraph, cBigraph, mstBigraph, EVA, ↓reduceIte, Nat.reduceEqDiff, Nat.reduceMul, reduceCtorEq, Nat.reduceAdd, Nat.reduceSub, Nat.reduceLeDiff, Nat.reduceLT, Int.reduceToNat, Int.reduceLE, Int.reduceLT, mens, men]
  refine kca_intro (held_NodeS x.nodes (k) b0 b1 (by omega) (by omega)) ?_
  have hz0 : ¬ (k + (nL nNode x.nodes : Nat) < 0) := by omega
  simp only [cBigraph, mstBigraph, hz0, EVA, ↓reduceIte, Nat.reduceEqDiff, Nat.reduceMul, reduceCtorEq, Nat.reduceAdd, Nat.reduceSub, Nat.reduceLeDiff, Nat.reduceLT, Int.reduceToNat, Int.reduceLE, Int.reduceLT, mens, men]
  refine kca_intro (held_IntS x.sites (k + (nL nNode x.nodes : Nat)) b2 (by omega) (by omega)) ?_
  have hz1 : ¬ (k + (nL nNode x.nodes : Nat) + (nL nInt x.sites : Nat) < 0) := by omega
  simp only [cBigraph, mstBigraph, hz1, EVA, ↓reduceIte, Nat.reduceEqDiff, Nat.reduceMul, reduceCtorEq, Nat.reduceAdd, Nat.reduceSub, Nat.reduceLeDiff, Nat.reduceLT, Int.reduceToNat, Int.reduceLE, Int.reduceLT, mens, men]
  refine kca_intro (held_StringS x.outer (k + (nL nNode x.nodes : Nat) + (nL nInt x.sites : Nat)) b3 b4 (by omega) (by omega)) ?_
  have hz2 : ¬ (k + (nL nNode x.nodes : Nat) + (nL nInt x.sites : Nat) + (nL nStr x.outer : Nat) < 0) := by omega
  simp only [cBigraph, mstBigraph, hz2, EVA, ↓reduceIte, Nat.reduceEqDiff, Nat.reduceMul, reduceCtorEq, Nat.reduceAdd, Nat.reduceSub, Nat.reduceLeDiff, Nat.reduceLT, Int.reduceToNat, Int.reduceLE, Int.reduceLT, mens, men]
  refine kca_intro (held_WireS x.inner (k + (nL nNode x.nodes : Nat) + (nL nInt x.sites : Nat) + (nL nStr x.outer : Nat)) b5 b6 (by omega) (by omega)) ?_
  have hz3 : ¬ (k + (nL nNode x.nodes : Nat) + (nL nInt x.sites : Nat) + (nL nStr x.outer : Nat) + (nL nWire x.inner : Nat) < 0) := by omega
  simp only [cBigraph, mstBigraph, hz3, EVA, ↓reduceIte, Nat.reduceEqDiff, Nat.reduceMul, reduceCtorEq, Nat.reduceAdd, Nat.reduceSub, Nat.reduceLeDiff, Nat.reduceLT, Int.reduceToNat, Int.reduceLE, Int.reduceLT, mens, men]
  simp only [nBigraph, Int.natCast_add, ← Int.add_assoc]
end Go.Fd

/-
  HOW MANY MARKS SMALL THINGS TAKE. Own work.
-/
namespace Go.Fd
theorem nL_int : ∀ (l : List Int), nL nInt l = l.length
  | [] => rfl
  | x :: r => by simp only [nL, List.length_cons, nL_int r, nInt]; omega
theorem nL_le {α : Type} {n : α → Nat} {B : Nat} : ∀ (l : List α), (∀ x ∈ l, n x ≤ B) → nL n l ≤ l.length * B
  | [], _ => Nat.zero_le _
  | x :: r, h => by
    have h1 := h x (by simp)
    have h2 := nL_le r (fun y hy => h y (by simp [hy]))
    simp only [nL, List.length_cons, Nat.add_mul]
    omega
end Go.Fd

/-
  HOW MANY MARKS A THING TAKES, AGAINST ITS SIZE (printed by lawgen.py). Own work.
-/
namespace Go.Fd
theorem zqNode (x : TNode) : Zq 256 (fun l => szNode x l) (nNode x) := Zq_imp (Zq_th (by omega) (by omega) (Zq_N nInt (fun _ => (by decide : 1 ≤ 256)) x.links) Zq_id) (by simp only [nNode]; omega)
theorem zqWire (x : TWire) : Zq 256 (fun l => szWire x l) (nWire x) := Zq_imp (Zq_th (by omega) (by omega) (Zq_str x.name.size) Zq_id) (by simp only [nWire]; omega)
theorem zqBigraph (x : TBigraph) : Zq 256 (fun l => szBigraph x l) (nBigraph x) := Zq_imp (Zq_th (by omega) (by omega) (Zq_L (n := nNode) (fun y => Zq_imp (zqNode y) (by omega)) x.nodes) (Zq_th (by omega) (by omega) (Zq_N nInt (fun _ => (by decide : 1 ≤ 256)) x.sites) (Zq_th (by omega) (by omega) (Zq_L (n := nStr) (fun y => Zq_str1 y.size) x.outer) (Zq_th (by omega) (by omega) (Zq_L (n := nWire) (fun y => Zq_imp (zqWire y) (by omega)) x.inner) Zq_id)))) (by simp only [nBigraph]; omega)
theorem zqControl (x : TControl) : Zq 256 (fun l => szControl x l) (nControl x) := Zq_imp (Zq_th (by omega) (by omega) (Zq_str x.name.size) Zq_id) (by simp only [nControl]; omega)
end Go.Fd

/-
  WHAT HOLDS OF THE HELPERS OF THE LAWS (printed by lawgen.py). Own work.
-/
namespace Go.Fd
set_option maxRecDepth 20000
theorem szN_le {n : Nat} {l : Int} (h : 0 ≤ l) : szN n l ≤ l := by unfold szN; split <;> omega
theorem szF_le {α : Type} {f : α → Int → Int} : ∀ (a : List α) (l : Int), (∀ x ∈ a, ∀ l : Int, 0 ≤ l → l ≤ 1048576 → f x l ≤ l) → 0 ≤ l → l ≤ 1048576 → szF f a l ≤ l
  | [], l, _, _, _ => Int.le_refl l
  | x :: r, l, hf, h0, h1 => by
    simp only [szF]
    have := hf x (by simp) l h0 h1
    split
    · omega
    · have h2 := szF_le r (f x l) (fun y hy => hf y (by simp [hy])) (by omega) (by omega)
      omega
theorem szL_le {α : Type} {f : α → Int → Int} (a : List α) {l : Int} (hf : ∀ x ∈ a, ∀ l : Int, 0 ≤ l → l ≤ 1048576 → f x l ≤ l) (h0 : 0 ≤ l) (h1 : l ≤ 1048576) : szL f a l ≤ l := by
  unfold szL
  split
  · omega
  · have := szF_le a (l - a.length) hf (by omega) (by omega)
    omega
theorem szTh_le {l m : Int} {g : Int → Int} (h0 : 0 ≤ l) (h : m ≤ l) (hg : 0 ≤ m → g m ≤ m) : szTh m g ≤ l := by
  unfold szTh
  split
  · omega
  · have := hg (by omega)
    omega
theorem g_szIntS : chkF Go.Proofs.Tryz.prog fid_laws_szIntS sz0 = true := by kernel_rfl
theorem sem_szIntS (a : List Int) (hl : a.length ≤ 9223372036854775807) (l : Int) (h0 : 0 ≤ l) (h1 : l ≤ 1048576) : szN a.length l ≤ l ∧ ∀ lvl S, Sem Go.Proofs.Tryz.prog fid_laws_szIntS lvl [.tr (.sl (rI a)), iI l] S (iI (szN a.length l)) S := by
  refine ⟨szN_le h0, fun lvl S => ?_⟩
  have := sem_sz0 g_szIntS (rI a) l (by simpa using hl) h0 h1 lvl S
  simpa using this
theorem sem_szNode (x : TNode) (hb : bdNode 9223372036854775807 x) (l : Int) (h0 : 0 ≤ l) (h1 : l ≤ 1048576) : szNode x l ≤ l ∧ ∀ lvl S, Sem Go.Proofs.Tryz.prog fid_laws_szNode lvl [.ag ((cNode x).map .tr), iI l] S (iI (szNode x l)) S := by
  have b0 : x.links.length ≤ 9223372036854775807 := hb
  refine ⟨?_, fun lvl S => ?_⟩
  · unfold szNode
    have q0 := sem_szIntS x.links b0 _ h0 h1
    refine szTh_le h0 q0.1 (fun p0 => ?_)
    have r0 : _ ≤ (1048576 : Int) := Int.le_trans q0.1 h1
    exact Int.le_refl _
  · refine sem_of_chk k_laws_szNode trivial ?_
    simp only [c_laws_szNode, cNode, List.map_cons, List.map_nil, EVA, ↓reduceIte, Nat.reduceEqDiff, Nat.reduceMul, reduceCtorEq, Nat.reduceAdd, Nat.reduceSub, Nat.reduceLeDiff, Nat.reduceLT, Int.reduceToNat, Int.reduceLE, Int.reduceLT, mens, men]
    unfold szNode
    have q0 := sem_szIntS x.links b0 l h0 h1
    refine kca_intro q0.2 ?_
    simp only [EVA, ↓reduceIte, Nat.reduceEqDiff, Nat.reduceMul, reduceCtorEq, Nat.reduceAdd, Nat.reduceSub, Nat.reduceLeDiff, Nat.reduceLT, Int.reduceToNat, Int.reduceLE, Int.reduceLT, mens, men]
    obtain ⟨l1, hl1⟩ : ∃ m : Int, m = (szN x.links.length l) := ⟨_, rfl⟩
    have u1 : l1 ≤ l := by rw [hl1]; exact q0.1
    rw [← hl1]
    split
    · rename_i hn; rw [szTh, if_pos hn]
    rename_i hn0
    rw [szTh, if_neg hn0]
theorem g_szNodeS : chkF Go.Proofs.Tryz.prog fid_laws_szNodeS (szSl 3 (some 3) fid_laws_szNode) = true := by kernel_rfl
theorem sem_szNodeS (a : List TNode) (hl : a.length ≤ 9223372036854775807) (hb : ∀ y ∈ a, bdNode 9223372036854775807 y) (l : Int) (h0 : 0 ≤ l) (h1 : l ≤ 1048576) : szL szNode a l ≤ l ∧ ∀ lvl S, Sem Go.Proofs.Tryz.prog fid_laws_szNodeS lvl [.tr (.sl (a.map cNode)), iI l] S (iI (szL szNode a l)) S :=
  ⟨szL_le a (fun x hx l h0 h1 => (sem_szNode x (hb x hx) l h0 h1).1) h0 h1, fun lvl S => sem_szSl g_szNodeS cNode szNode cNode_len a l hl h0 h1 (fun x hx l h0 h1 => sem_szNode x (hb x hx) l h0 h1) lvl S⟩
theorem sem_szWire (x : TWire) (hb : bdWire 9223372036854775807 x) (l : Int) (h0 : 0 ≤ l) (h1 : l ≤ 1048576) : szWire x l ≤ l ∧ ∀ lvl S, Sem Go.Proofs.Tryz.prog fid_laws_szWire lvl [.ag ((cWire x).map .tr), iI l] S (iI (szWire x l)) S := by
  have b0 : x.name.size ≤ 9223372036854775807 := hb
  refine ⟨?_, fun lvl S => ?_⟩
  · unfold szWire
    refine szTh_le h0 (m := l - x.name.size) (by omega) (fun p0 => ?_)
    have r0 : _ ≤ (1048576 : Int) := Int.le_trans (show l - x.name.size ≤ l by omega) h1
    exact Int.le_refl _
  · refine sem_of_chk k_laws_szWire trivial ?_
    simp only [c_laws_szWire, cWire, List.map_cons, List.map_nil, EVA, ↓reduceIte, Nat.reduceEqDiff, Nat.reduceMul, reduceCtorEq, Nat.reduceAdd, Nat.reduceSub, Nat.reduceLeDiff, Nat.reduceLT, Int.reduceToNat, Int.reduceLE, Int.reduceLT, mens, men]
    unfold szWire
    refine ⟨by rw [fits_i64]; omega, ?_⟩
    obtain ⟨l1, hl1⟩ : ∃ m : Int, m = l - x.name.size := ⟨_, rfl⟩
    have u1 : l1 ≤ l := by omega
    rw [← hl1]
    split
    · rename_i hn; rw [szTh, if_pos hn]
    rename_i hn0
    rw [szTh, if_neg hn0]
theorem g_szWireS : chkF Go.Proofs.Tryz.prog fid_laws_szWireS (szSl 2 (some 2) fid_laws_szWire) = true := by kernel_rfl
theorem sem_szWireS (a : List TWire) (hl : a.length ≤ 9223372036854775807) (hb : ∀ y ∈ a, bdWire 9223372036854775807 y) (l : Int) (h0 : 0 ≤ l) (h1 : l ≤ 1048576) : szL szWire a l ≤ l ∧ ∀ lvl S, Sem Go.Proofs.Tryz.prog fid_laws_szWireS lvl [.tr (.sl (a.map cWire)), iI l] S (iI (szL szWire a l)) S :=
  ⟨szL_le a (fun x hx l h0 h1 => (sem_szWire x (hb x hx) l h0 h1).1) h0 h1, fun lvl S => sem_szSl g_szWireS cWire szWire cWire_len a l hl h0 h1 (fun x hx l h0 h1 => sem_szWire x (hb x hx) l h0 h1) lvl S⟩
theorem g_szStringS : chkF Go.Proofs.Tryz.prog fid_laws_szStringS szSt = true := by kernel_rfl
theorem sem_szStringS (a : List ByteArray) (hl : a.length ≤ 9223372036854775807) (hb : ∀ y ∈ a, y.size ≤ 9223372036854775807) (l : Int) (h0 : 0 ≤ l) (h1 : l ≤ 1048576) : szL (fun x m => m - x.size) a l ≤ l ∧ ∀ lvl S, Sem Go.Proofs.Tryz.prog fid_laws_szStringS lvl [tS a, iI l] S (iI (szL (fun x m => m - x.size) a l)) S :=
  ⟨szL_le a (fun x _ l _ _ => by omega) h0 h1, fun lvl S => sem_szSt g_szStringS a l hl h0 h1 hb lvl S⟩
theorem sem_szBigraph (x : TBigraph) (hb : bdBigraph 9223372036854775807 x) (l : Int) (h0 : 0 ≤ l) (h1 : l ≤ 1048576) : szBigraph x l ≤ l ∧ ∀ lvl S, Sem Go.Proofs.Tryz.prog fid_laws_szBigraph lvl [.ag ((cBigraph x).map .tr), iI l] S (iI (szBigraph x l)) S := by
  obtain ⟨b0, b1, b2, b3, b4, b5, b6⟩ := hb
  refine ⟨?_, fun lvl S => ?_⟩
  · unfold szBigraph
    have q0 := sem_szNodeS x.nodes b0 b1 _ h0 h1
    refine szTh_le h0 q0.1 (fun p0 => ?_)
    have r0 : _ ≤ (1048576 : Int) := Int.le_trans q0.1 h1
    have q1 := sem_szIntS x.sites b2 _ p0 r0
    refine szTh_le p0 q1.1 (fun p1 => ?_)
    have r1 : _ ≤ (1048576 : Int) := Int.le_trans q1.1 r0
    have q2 := sem_szStringS x.outer b3 b4 _ p1 r1
    refine szTh_le p1 q2.1 (fun p2 => ?_)
    have r2 : _ ≤ (1048576 : Int) := Int.le_trans q2.1 r1
    have q3 := sem_szWireS x.inner b5 b6 _ p2 r2
    refine szTh_le p2 q3.1 (fun p3 => ?_)
    have r3 : _ ≤ (1048576 : Int) := Int.le_trans q3.1 r2
    exact Int.le_refl _
  · refine sem_of_chk k_laws_szBigraph trivial ?_
    simp only [c_laws_szBigraph, cBigraph, List.map_cons, List.map_nil, EVA, ↓reduceIte, Nat.reduceEqDiff, Nat.reduceMul, reduceCtorEq, Nat.reduceAdd, Nat.reduceSub, Nat.reduceLeDiff, Nat.reduceLT, Int.reduceToNat, Int.reduceLE, Int.reduceLT, mens, men]
    unfold szBigraph
    have q0 := sem_szNodeS x.nodes b0 b1 l h0 h1
    refine kca_intro q0.2 ?_
    simp only [EVA, ↓reduceIte, Nat.reduceEqDiff, Nat.reduceMul, reduceCtorEq, Nat.reduceAdd, Nat.reduceSub, Nat.reduceLeDiff, Nat.reduceLT, Int.reduceToNat, Int.reduceLE, Int.reduceLT, mens, men]
    obtain ⟨l1, hl1⟩ : ∃ m : Int, m = (szL szNode x.nodes l) := ⟨_, rfl⟩
    have u1 : l1 ≤ l := by rw [hl1]; exact q0.1
    rw [← hl1]
    split
    · rename_i hn; rw [szTh, if_pos hn]
    rename_i hn0
    rw [szTh, if_neg hn0]
    have q1 := sem_szIntS x.sites b2 l1 (show 0 ≤ l1 by omega) (show l1 ≤ 1048576 by omega)
    refine kca_intro q1.2 ?_
    simp only [EVA, ↓reduceIte, Nat.reduceEqDiff, Nat.reduceMul, reduceCtorEq, Nat.reduceAdd, Nat.reduceSub, Nat.reduceLeDiff, Nat.reduceLT, Int.reduceToNat, Int.reduceLE, Int.reduceLT, mens, men]
    obtain ⟨l2, hl2⟩ : ∃ m : Int, m = (szN x.sites.length l1) := ⟨_, rfl⟩
    have u2 : l2 ≤ l1 := by rw [hl2]; exact q1.1
    rw [← hl2]
    split
    · rename_i hn; rw [szTh, if_pos hn]
    rename_i hn1
    rw [szTh, if_neg hn1]
    have q2 := sem_szStringS x.outer b3 b4 l2 (show 0 ≤ l2 by omega) (show l2 ≤ 1048576 by omega)
    refine kca_intro q2.2 ?_
    simp only [EVA, ↓reduceIte, Nat.reduceEqDiff, Nat.reduceMul, reduceCtorEq, Nat.reduceAdd, Nat.reduceSub, Nat.reduceLeDiff, Nat.reduceLT, Int.reduceToNat, Int.reduceLE, Int.reduceLT, mens, men]
    obtain ⟨l3, hl3⟩ : ∃ m : Int, m = (szL (fun x m => m - x.size) x.outer l2) := ⟨_, rfl⟩
    have u3 : l3 ≤ l2 := by rw [hl3]; exact q2.1
    rw [← hl3]
    split
    · rename_i hn; rw [szTh, if_pos hn]
    rename_i hn2
    rw [szTh, if_neg hn2]
    have q3 := sem_szWireS x.inner b5 b6 l3 (show 0 ≤ l3 by omega) (show l3 ≤ 1048576 by omega)
    refine kca_intro q3.2 ?_
    simp only [EVA, ↓reduceIte, Nat.reduceEqDiff, Nat.reduceMul, reduceCtorEq, Nat.reduceAdd, Nat.reduceSub, Nat.reduceLeDiff, Nat.reduceLT, Int.reduceToNat, Int.reduceLE, Int.reduceLT, mens, men]
    obtain ⟨l4, hl4⟩ : ∃ m : Int, m = (szL szWire x.inner l3) := ⟨_, rfl⟩
    have u4 : l4 ≤ l3 := by rw [hl4]; exact q3.1
    rw [← hl4]
    split
    · rename_i hn; rw [szTh, if_pos hn]
    rename_i hn3
    rw [szTh, if_neg hn3]
theorem sem_szControl (x : TControl) (hb : bdControl 9223372036854775807 x) (l : Int) (h0 : 0 ≤ l) (h1 : l ≤ 1048576) : szControl x l ≤ l ∧ ∀ lvl S, Sem Go.Proofs.Tryz.prog fid_laws_szControl lvl [.ag ((cControl x).map .tr), iI l] S (iI (szControl x l)) S := by
  have b0 : x.name.size ≤ 9223372036854775807 := hb
  refine ⟨?_, fun lvl S => ?_⟩
  · unfold szControl
    refine szTh_le h0 (m := l - x.name.size) (by omega) (fun p0 => ?_)
    have r0 : _ ≤ (1048576 : Int) := Int.le_trans (show l - x.name.size ≤ l by omega) h1
    exact Int.le_refl _
  · refine sem_of_chk k_laws_szControl trivial ?_
    simp only [c_laws_szControl, cControl, List.map_cons, List.map_nil, EVA, ↓reduceIte, Nat.reduceEqDiff, Nat.reduceMul, reduceCtorEq, Nat.reduceAdd, Nat.reduceSub, Nat.reduceLeDiff, Nat.reduceLT, Int.reduceToNat, Int.reduceLE, Int.reduceLT, mens, men]
    unfold szControl
    refine ⟨by rw [fits_i64]; omega, ?_⟩
    obtain ⟨l1, hl1⟩ : ∃ m : Int, m = l - x.name.size := ⟨_, rfl⟩
    have u1 : l1 ≤ l := by omega
    rw [← hl1]
    split
    · rename_i hn; rw [szTh, if_pos hn]
    rename_i hn0
    rw [szTh, if_neg hn0]
theorem g_szControlS : chkF Go.Proofs.Tryz.prog fid_laws_szControlS (szSl 3 (some 3) fid_laws_szControl) = true := by kernel_rfl
theorem sem_szControlS (a : List TControl) (hl : a.length ≤ 9223372036854775807) (hb : ∀ y ∈ a, bdControl 9223372036854775807 y) (l : Int) (h0 : 0 ≤ l) (h1 : l ≤ 1048576) : szL szControl a l ≤ l ∧ ∀ lvl S, Sem Go.Proofs.Tryz.prog fid_laws_szControlS lvl [.tr (.sl (a.map cControl)), iI l] S (iI (szL szControl a l)) S :=
  ⟨szL_le a (fun x hx l h0 h1 => (sem_szControl x (hb x hx) l h0 h1).1) h0 h1, fun lvl S => sem_szSl g_szControlS cControl szControl cControl_len a l hl h0 h1 (fun x hx l h0 h1 => sem_szControl x (hb x hx) l h0 h1) lvl S⟩
end Go.Fd

/-
  WHAT HOLDS OF THE HELPERS OF THE LAWS: eq.. (printed by lawgen.py). Own work.
-/
namespace Go.Fd
set_option maxRecDepth 20000
theorem g_eqIntS : chkF Go.Proofs.Tryz.prog fid_laws_eqIntS eqS1 = true := by kernel_rfl
theorem sem_eqIntS (a b : (List Int)) (ha : a.length ≤ 9223372036854775807) (lvl : Nat) (S : Sto) : Sem Go.Proofs.Tryz.prog fid_laws_eqIntS lvl [.tr (.sl (rI a)), .tr (.sl (rI b))] S (iB (decide (a = b))) S := sem_eqI g_eqIntS a b ha lvl S
theorem sem_eqNode (x y : TNode) (hb : bdNode 9223372036854775807 x) (lvl : Nat) (S : Sto) : Sem Go.Proofs.Tryz.prog fid_laws_eqNode lvl [.ag ((cNode x).map .tr), .ag ((cNode y).map .tr)] S (iB (decide (x = y))) S := by
  have b0 : x.links.length ≤ 9223372036854775807 := hb
  refine sem_of_chk k_laws_eqNode trivial ?_
  simp only [c_laws_eqNode, cNode, List.map_cons, List.map_nil, EVA, ↓reduceIte, Nat.reduceEqDiff, Nat.reduceMul, reduceCtorEq, Nat.reduceAdd, Nat.reduceSub, Nat.reduceLeDiff, Nat.reduceLT, Int.reduceToNat, Int.reduceLE, Int.reduceLT, mens, men]
  refine ite_of (fun hne => ?_) (fun heq0 => ?_)
  · have : ¬ x = y := fun e => (by rw [e] at hne; simp at hne)
    simp [this]
  refine ite_of (fun hne => ?_) (fun heq1 => ?_)
  · have : ¬ x = y := fun e => (by rw [e] at hne; simp at hne)
    simp [this]
  refine kca_intro (sem_eqIntS x.links y.links b0) ?_
  simp only [Bool.not_eq_true', EVA, ↓reduceIte, Nat.reduceEqDiff, Nat.reduceMul, reduceCtorEq, Nat.reduceAdd, Nat.reduceSub, Nat.reduceLeDiff, Nat.reduceLT, Int.reduceToNat, Int.reduceLE, Int.reduceLT, mens, men]
  refine ite_of (fun hne => ?_) (fun heq2 => ?_)
  · have : ¬ x = y := fun e => (by rw [e] at hne; simp at hne)
    simp [this]
  have : x = y := by
    cases x; cases y; simp_all
  simp [this]
theorem g_eqNodeS : chkF Go.Proofs.Tryz.prog fid_laws_eqNodeS (eqSl 3 (some 3) fid_laws_eqNode) = true := by kernel_rfl
theorem sem_eqNodeS (a b : (List TNode)) (ha : a.length ≤ 9223372036854775807) (ha2 : ∀ y ∈ a, bdNode 9223372036854775807 y) (lvl : Nat) (S : Sto) : Sem Go.Proofs.Tryz.prog fid_laws_eqNodeS lvl [.tr (.sl (a.map cNode)), .tr (.sl (b.map cNode))] S (iB (decide (a = b))) S :=
  sem_eqSl g_eqNodeS cNode (fun _ => rfl) a b ha (fun x hx y _ lvl S => sem_eqNode x y (ha2 x hx) lvl S) lvl S
theorem sem_eqWire (x y : TWire) (hb : bdWire 9223372036854775807 x) (lvl : Nat) (S : Sto) : Sem Go.Proofs.Tryz.prog fid_laws_eqWire lvl [.ag ((cWire x).map .tr), .ag ((cWire y).map .tr)] S (iB (decide (x = y))) S := by
  have b0 : x.name.size ≤ 9223372036854775807 := hb
  refine sem_of_chk k_laws_eqWire trivial ?_
  simp only [c_laws_eqWire, cWire, List.map_cons, List.map_nil, EVA, ↓reduceIte, Nat.reduceEqDiff, Nat.reduceMul, reduceCtorEq, Nat.reduceAdd, Nat.reduceSub, Nat.reduceLeDiff, Nat.reduceLT, Int.reduceToNat, Int.reduceLE, Int.reduceLT, mens, men]
  refine ite_of (fun hne => ?_) (fun heq0 => ?_)
  · have : ¬ x = y := fun e => (by rw [e] at hne; simp at hne)
    simp [this]
  refine ite_of (fun hne => ?_) (fun heq1 => ?_)
  · have : ¬ x = y := fun e => (by rw [e] at hne; simp at hne)
    simp [this]
  have : x = y := by
    cases x; cases y; simp_all
  simp [this]
theorem g_eqWireS : chkF Go.Proofs.Tryz.prog fid_laws_eqWireS (eqSl 2 (some 2) fid_laws_eqWire) = true := by kernel_rfl
theorem sem_eqWireS (a b : (List TWire)) (ha : a.length ≤ 9223372036854775807) (ha2 : ∀ y ∈ a, bdWire 9223372036854775807 y) (lvl : Nat) (S : Sto) : Sem Go.Proofs.Tryz.prog fid_laws_eqWireS lvl [.tr (.sl (a.map cWire)), .tr (.sl (b.map cWire))] S (iB (decide (a = b))) S :=
  sem_eqSl g_eqWireS cWire (fun _ => rfl) a b ha (fun x hx y _ lvl S => sem_eqWire x y (ha2 x hx) lvl S) lvl S
theorem g_eqStringS : chkF Go.Proofs.Tryz.prog fid_laws_eqStringS eqS1 = true := by kernel_rfl
theorem sem_eqStringS (a b : (List ByteArray)) (ha : a.length ≤ 9223372036854775807) (lvl : Nat) (S : Sto) : Sem Go.Proofs.Tryz.prog fid_laws_eqStringS lvl [.tr (.sl (rS a)), .tr (.sl (rS b))] S (iB (decide (a = b))) S := sem_eqS g_eqStringS a b ha lvl S
theorem sem_eqBigraph (x y : TBigraph) (hb : bdBigraph 9223372036854775807 x) (lvl : Nat) (S : Sto) : Sem Go.Proofs.Tryz.prog fid_laws_eqBigraph lvl [.ag ((cBigraph x).map .tr), .ag ((cBigraph y).map .tr)] S (iB (decide (x = y))) S := by
  obtain ⟨b0, b1, b2, b3, b4, b5, b6⟩ := hb
  refine sem_of_chk k_laws_eqBigraph trivial ?_
  simp only [c_laws_eqBigraph, cBigraph, List.map_cons, List.map_nil, EVA, ↓reduceIte, Nat.reduceEqDiff, Nat.reduceMul, reduceCtorEq, Nat.reduceAdd, Nat.reduceSub, Nat.reduceLeDiff, Nat.reduceLT, Int.reduceToNat, Int.reduceLE, Int.reduceLT, mens, men]
  refine ite_of (fun hne => ?_) (fun heq0 => ?_)
  · have : ¬ x = y := fun e => (by rw [e] at hne; simp at hne)
    simp [this]
  refine kca_intro (sem_eqNodeS x.nodes y.nodes b0 b1) ?_
  simp only [Bool.not_eq_true', EVA, ↓reduceIte, Nat.reduceEqDiff, Nat.reduceMul, reduceCtorEq, Nat.reduceAdd, Nat.reduceSub, Nat.reduceLeDiff, Nat.reduceLT, Int.reduceToNat, Int.reduceLE, Int.reduceLT, mens, men]
  refine ite_of (fun hne => ?_) (fun heq1 => ?_)
  · have : ¬ x = y := fun e => (by rw [e] at hne; simp at hne)
    simp [this]
  refine kca_intro (sem_eqIntS x.sites y.sites b2) ?_
  simp only [Bool.not_eq_true', EVA, ↓reduceIte, Nat.reduceEqDiff, Nat.reduceMul, reduceCtorEq, Nat.reduceAdd, Nat.reduceSub, Nat.reduceLeDiff, Nat.reduceLT, Int.reduceToNat, Int.reduceLE, Int.reduceLT, mens, men]
  refine ite_of (fun hne => ?_) (fun heq2 => ?_)
  · have : ¬ x = y := fun e => (by rw [e] at hne; simp at hne)
    simp [this]
  refine ite_of (fun hne => ?_) (fun heq3 => ?_)
  · have : ¬ x = y := fun e => (by rw [e] at hne; simp at hne)
    simp [this]
  refine kca_intro (sem_eqStringS x.outer y.outer b3) ?_
  simp only [Bool.not_eq_true', EVA, ↓reduceIte, Nat.reduceEqDiff, Nat.reduceMul, reduceCtorEq, Nat.reduceAdd, Nat.reduceSub, Nat.reduceLeDiff, Nat.reduceLT, Int.reduceToNat, Int.reduceLE, Int.reduceLT, mens, men]
  refine ite_of (fun hne => ?_) (fun heq4 => ?_)
  · have : ¬ x = y := fun e => (by rw [e] at hne; simp at hne)
    simp [this]
  refine kca_intro (sem_eqWireS x.inner y.inner b5 b6) ?_
  simp only [Bool.not_eq_true', EVA, ↓reduceIte, Nat.reduceEqDiff, Nat.reduceMul, reduceCtorEq, Nat.reduceAdd, Nat.reduceSub, Nat.reduceLeDiff, Nat.reduceLT, Int.reduceToNat, Int.reduceLE, Int.reduceLT, mens, men]
  refine ite_of (fun hne => ?_) (fun heq5 => ?_)
  · have : ¬ x = y := fun e => (by rw [e] at hne; simp at hne)
    simp [this]
  have : x = y := by
    cases x; cases y; simp_all
  simp [this]
theorem sem_eqControl (x y : TControl) (hb : bdControl 9223372036854775807 x) (lvl : Nat) (S : Sto) : Sem Go.Proofs.Tryz.prog fid_laws_eqControl lvl [.ag ((cControl x).map .tr), .ag ((cControl y).map .tr)] S (iB (decide (x = y))) S := by
  have b0 : x.name.size ≤ 9223372036854775807 := hb
  refine sem_of_chk k_laws_eqControl trivial ?_
  simp only [c_laws_eqControl, cControl, List.map_cons, List.map_nil, EVA, ↓reduceIte, Nat.reduceEqDiff, Nat.reduceMul, reduceCtorEq, Nat.reduceAdd, Nat.reduceSub, Nat.reduceLeDiff, Nat.reduceLT, Int.reduceToNat, Int.reduceLE, Int.reduceLT, mens, men]
  refine ite_of (fun hne => ?_) (fun heq0 => ?_)
  · have : ¬ x = y := fun e => (by rw [e] at hne; simp at hne)
    simp [this]
  refine ite_of (fun hne => ?_) (fun heq1 => ?_)
  · have : ¬ x = y := fun e => (by rw [e] at hne; simp at hne)
    simp [this]
  refine ite_of (fun hne => ?_) (fun heq2 => ?_)
  · have : ¬ x = y := fun e => (by rw [e] at hne; simp at hne)
    simp [this]
  have : x = y := by
    cases x; cases y; simp_all
  simp [this]
theorem g_eqControlS : chkF Go.Proofs.Tryz.prog fid_laws_eqControlS (eqSl 3 (some 3) fid_laws_eqControl) = true := by kernel_rfl
theorem sem_eqControlS (a b : (List TControl)) (ha : a.length ≤ 9223372036854775807) (ha2 : ∀ y ∈ a, bdControl 9223372036854775807 y) (lvl : Nat) (S : Sto) : Sem Go.Proofs.Tryz.prog fid_laws_eqControlS lvl [.tr (.sl (a.map cControl)), .tr (.sl (b.map cControl))] S (iB (decide (a = b))) S :=
  sem_eqSl g_eqControlS cControl (fun _ => rfl) a b ha (fun x hx y _ lvl S => sem_eqControl x y (ha2 x hx) lvl S) lvl S
end Go.Fd

/-
  WHAT HOLDS OF THE HELPERS OF THE LAWS: to.. (printed by lawgen.py). Own work.
-/
namespace Go.Fd
set_option maxRecDepth 20000
theorem g_toIntS : chkF Go.Proofs.Tryz.prog fid_laws_toIntS (toS1 (.int .i64 0)) = true := by kernel_rfl
theorem sem_toIntS (a : (List Int)) (ha : a.length ≤ 4294967296) (lvl : Nat) (S : Sto) : Sem Go.Proofs.Tryz.prog fid_laws_toIntS lvl [.tr (.sl (rI a))] S (.ow 1 (rI a) true) S := sem_toI g_toIntS a ha lvl S
theorem sem_toNode (x : TNode) (hb : bdNode 4294967296 x) (lvl : Nat) (S : Sto) : Sem Go.Proofs.Tryz.prog fid_laws_toNode lvl [.ag ((cNode x).map .tr)] S (oNode x) S := by
  have b0 : x.links.length ≤ 4294967296 := hb
  refine sem_of_chk k_laws_toNode (by simp [oNode, low, men, mens]) ?_
  simp only [c_laws_toNode, cNode, zfill, zobs, List.map_cons, List.map_nil, r_setAt0, r_setAt1, List.set_cons_zero, List.set_cons_succ, EVA, ↓reduceIte, Nat.reduceEqDiff, Nat.reduceMul, reduceCtorEq, Nat.reduceAdd, Nat.reduceSub, Nat.reduceLeDiff, Nat.reduceLT, Int.reduceToNat, Int.reduceLE, Int.reduceLT, mens, men]
  refine kca_intro (sem_toIntS x.links b0) ?_
  simp only [r_setAt0, r_setAt1, List.set_cons_zero, List.set_cons_succ, Prod.mk.injEq, EVA, ↓reduceIte, Nat.reduceEqDiff, Nat.reduceMul, reduceCtorEq, Nat.reduceAdd, Nat.reduceSub, Nat.reduceLeDiff, Nat.reduceLT, Int.reduceToNat, Int.reduceLE, Int.reduceLT, mens, men]
  rfl
theorem sem_toNodeS (a : (List TNode)) (ha : a.length ≤ 4294967296) (hb : ∀ y ∈ a, bdNode 4294967296 y) (lvl : Nat) (S : Sto) : Sem Go.Proofs.Tryz.prog fid_laws_toNodeS lvl [.tr (.sl (a.map cNode))] S (.ow 3 (a.map cNode) true) S := by
  refine sem_of_chk k_laws_toNodeS trivial ?_
  simp only [c_laws_toNodeS, List.length_map, bigN, Int.natCast_nonneg, EVA, ↓reduceIte, Nat.reduceEqDiff, Nat.reduceMul, reduceCtorEq, Nat.reduceAdd, Nat.reduceSub, Nat.reduceLeDiff, Nat.reduceLT, Int.reduceToNat, Int.reduceLE, Int.reduceLT, mens, men]
  refine ⟨by omega, ?_⟩
  refine wp_count (α := Unit) a.length (fun j _ => ⟨lvl, [(0, .tr (.sl (a.map cNode))), (3, .hd (lvl, 224) [] 0 a.length none a.length), (4, iI j)], [(224, .ar 3 (filled cNode [tv 0, tv 0, .sl []] a j) true a.length (j * 1))], S⟩) (fun _ _ => True) () ⟨by simp only [EVA, ↓reduceIte, Nat.reduceEqDiff, Nat.reduceMul, reduceCtorEq, Nat.reduceAdd, Nat.reduceSub, Nat.reduceLeDiff, Nat.reduceLT, Int.reduceToNat, Int.reduceLE, Int.reduceLT, mens, men], by (simp only [filled_zero, EVA, ↓reduceIte, Nat.reduceEqDiff, Nat.reduceMul, reduceCtorEq, Nat.reduceAdd, Nat.reduceSub, Nat.reduceLeDiff, Nat.reduceLT, Int.reduceToNat, Int.reduceLE, Int.reduceLT, mens, men]) <;> rfl⟩ trivial ?_
  intro j _ hj _
  simp only [List.length_map, EVA, ↓reduceIte, Nat.reduceEqDiff, Nat.reduceMul, reduceCtorEq, Nat.reduceAdd, Nat.reduceSub, Nat.reduceLeDiff, Nat.reduceLT, Int.reduceToNat, Int.reduceLE, Int.reduceLT, mens, men]
  refine ite_of (fun hlt => ?_) (fun hge => ?_)
  · have hja : j < a.length := by omega
    have ga : (a.map cNode)[j]? = some (cNode a[j]) := by simp [hja]
    have gz : (filled cNode [tv 0, tv 0, .sl []] a j)[j]? = some [tv 0, tv 0, .sl []] := filled_get hja
    have hfl : (filled cNode [tv 0, tv 0, .sl []] a j).length = a.length := filled_length hj
    have hsem := fun lvl S => sem_toNode a[j] (hb a[j] (List.getElem_mem hja)) lvl S
    simp only [ga, gz, Int.natCast_nonneg, Nat.le_refl, hja, cNode, oNode, Nat.reduceLeDiff, EVA, ↓reduceIte, Nat.reduceEqDiff, Nat.reduceMul, reduceCtorEq, Nat.reduceAdd, Nat.reduceSub, Nat.reduceLT, Int.reduceToNat, Int.reduceLE, Int.reduceLT, mens, men]
    refine kca_intro hsem ?_
    simp only [oNode, gz, Int.natCast_nonneg, Nat.le_refl, hja, hfl, setp, List.getElem?_set_self, List.set_set, List.length_set, List.set_cons_zero, List.set_cons_succ, Prod.mk.injEq, ne_eq, not_false_eq_true, EVA, ↓reduceIte, Nat.reduceEqDiff, Nat.reduceMul, reduceCtorEq, Nat.reduceAdd, Nat.reduceSub, Nat.reduceLeDiff, Nat.reduceLT, Int.reduceToNat, Int.reduceLE, Int.reduceLT, mens, men]
    refine ⟨by rw [fits_i64]; omega, cntJ_intro () hja ?_ trivial⟩
    have hse := filled_set (c := cNode) (z := [tv 0, tv 0, .sl []]) (e := [tv a[j].control, tv a[j].parent, .sl (rI a[j].links)]) hja rfl
    rw [hse, show (j + 1) * 1 = j * 1 + 1 from by omega]
    rfl
  · have : j = a.length := by omega
    subst this
    rw [filled_all]
    simp
theorem sem_toWire (x : TWire) (hb : bdWire 4294967296 x) (lvl : Nat) (S : Sto) : Sem Go.Proofs.Tryz.prog fid_laws_toWire lvl [.ag ((cWire x).map .tr)] S (oWire x) S := by
  have b0 : x.name.size ≤ 4294967296 := hb
  refine sem_of_chk k_laws_toWire (by simp [oWire, low, men, mens]) ?_
  simp only [c_laws_toWire, cWire, zfill, zobs, List.map_cons, List.map_nil, r_setAt0, r_setAt1, List.set_cons_zero, List.set_cons_succ, EVA, ↓reduceIte, Nat.reduceEqDiff, Nat.reduceMul, reduceCtorEq, Nat.reduceAdd, Nat.reduceSub, Nat.reduceLeDiff, Nat.reduceLT, Int.reduceToNat, Int.reduceLE, Int.reduceLT, mens, men]
  rfl
theorem sem_toWireS (a : (List TWire)) (ha : a.length ≤ 4294967296) (hb : ∀ y ∈ a, bdWire 4294967296 y) (lvl : Nat) (S : Sto) : Sem Go.Proofs.Tryz.prog fid_laws_toWireS lvl [.tr (.sl (a.map cWire))] S (.ow 2 (a.map cWire) true) S := by
  refine sem_of_chk k_laws_toWireS trivial ?_
  simp only [c_laws_toWireS, List.length_map, bigN, Int.natCast_nonneg, EVA, ↓reduceIte, Nat.reduceEqDiff, Nat.reduceMul, reduceCtorEq, Nat.reduceAdd, Nat.reduceSub, Nat.reduceLeDiff, Nat.reduceLT, Int.reduceToNat, Int.reduceLE, Int.reduceLT, mens, men]
  refine ⟨by omega, ?_⟩
  refine wp_count (α := Unit) a.length (fun j _ => ⟨lvl, [(0, .tr (.sl (a.map cWire))), (3, .hd (lvl, 224) [] 0 a.length none a.length), (4, iI j)], [(224, .ar 2 (filled cWire [ts ⟨#[]⟩, tv 0] a j) true a.length (j * 0))], S⟩) (fun _ _ => True) () ⟨by simp only [EVA, ↓reduceIte, Nat.reduceEqDiff, Nat.reduceMul, reduceCtorEq, Nat.reduceAdd, Nat.reduceSub, Nat.reduceLeDiff, Nat.reduceLT, Int.reduceToNat, Int.reduceLE, Int.reduceLT, mens, men], by (simp only [filled_zero, EVA, ↓reduceIte, Nat.reduceEqDiff, Nat.reduceMul, reduceCtorEq, Nat.reduceAdd, Nat.reduceSub, Nat.reduceLeDiff, Nat.reduceLT, Int.reduceToNat, Int.reduceLE, Int.reduceLT, mens, men]) <;> rfl⟩ trivial ?_
  intro j _ hj _
  simp only [List.length_map, EVA, ↓reduceIte, Nat.reduceEqDiff, Nat.reduceMul, reduceCtorEq, Nat.reduceAdd, Nat.reduceSub, Nat.reduceLeDiff, Nat.reduceLT, Int.reduceToNat, Int.reduceLE, Int.reduceLT, mens, men]
  refine ite_of (fun hlt => ?_) (fun hge => ?_)
  · have hja : j < a.length := by omega
    have ga : (a.map cWire)[j]? = some (cWire a[j]) := by simp [hja]
    have gz : (filled cWire [ts ⟨#[]⟩, tv 0] a j)[j]? = some [ts ⟨#[]⟩, tv 0] := filled_get hja
    have hfl : (filled cWire [ts ⟨#[]⟩, tv 0] a j).length = a.length := filled_length hj
    have hsem := fun lvl S => sem_toWire a[j] (hb a[j] (List.getElem_mem hja)) lvl S
    simp only [ga, gz, Int.natCast_nonneg, Nat.le_refl, hja, cWire, oWire, Nat.reduceLeDiff, EVA, ↓reduceIte, Nat.reduceEqDiff, Nat.reduceMul, reduceCtorEq, Nat.reduceAdd, Nat.reduceSub, Nat.reduceLT, Int.reduceToNat, Int.reduceLE, Int.reduceLT, mens, men]
    refine kca_intro hsem ?_
    simp only [oWire, gz, Int.natCast_nonneg, Nat.le_refl, hja, hfl, setp, List.getElem?_set_self, List.set_set, List.length_set, List.set_cons_zero, List.set_cons_succ, Prod.mk.injEq, ne_eq, not_false_eq_true, EVA, ↓reduceIte, Nat.reduceEqDiff, Nat.reduceMul, reduceCtorEq, Nat.reduceAdd, Nat.reduceSub, Nat.reduceLeDiff, Nat.reduceLT, Int.reduceToNat, Int.reduceLE, Int.reduceLT, mens, men]
    refine ⟨by rw [fits_i64]; omega, cntJ_intro () hja ?_ trivial⟩
    have hse := filled_set (c := cWire) (z := [ts ⟨#[]⟩, tv 0]) (e := [ts a[j].name, tv a[j].link]) hja rfl
    rw [hse, show (j + 1) * 0 = j * 0 from by omega]
    rfl
  · have : j = a.length := by omega
    subst this
    rw [filled_all]
    simp
theorem g_toStringS : chkF Go.Proofs.Tryz.prog fid_laws_toStringS (toS1 (.string ⟨#[]⟩)) = true := by kernel_rfl
theorem sem_toStringS (a : (List ByteArray)) (ha : a.length ≤ 4294967296) (lvl : Nat) (S : Sto) : Sem Go.Proofs.Tryz.prog fid_laws_toStringS lvl [.tr (.sl (rS a))] S (.ow 1 (rS a) true) S := sem_toS g_toStringS a ha lvl S
theorem sem_toBigraph (x : TBigraph) (hb : bdBigraph 4294967296 x) (lvl : Nat) (S : Sto) : Sem Go.Proofs.Tryz.prog fid_laws_toBigraph lvl [.ag ((cBigraph x).map .tr)] S (oBigraph x) S := by
  obtain ⟨b0, b1, b2, b3, b4, b5, b6⟩ := hb
  refine sem_of_chk k_laws_toBigraph (by simp [oBigraph, low, men, mens]) ?_
  simp only [c_laws_toBigraph, cBigraph, zfill, zobs, List.map_cons, List.map_nil, r_setAt0, r_setAt1, List.set_cons_zero, List.set_cons_succ, EVA, ↓reduceIte, Nat.reduceEqDiff, Nat.reduceMul, reduceCtorEq, Nat.reduceAdd, Nat.reduceSub, Nat.reduceLeDiff, Nat.reduceLT, Int.reduceToNat, Int.reduceLE, Int.reduceLT, mens, men]
  refine kca_intro (sem_toNodeS x.nodes b0 b1) ?_
  simp only [r_setAt0, r_setAt1, List.set_cons_zero, List.set_cons_succ, Prod.mk.injEq, EVA, ↓reduceIte, Nat.reduceEqDiff, Nat.reduceMul, reduceCtorEq, Nat.reduceAdd, Nat.reduceSub, Nat.reduceLeDiff, Nat.reduceLT, Int.reduceToNat, Int.reduceLE, Int.reduceLT, mens, men]
  refine kca_intro (sem_toIntS x.sites b2) ?_
  simp only [r_setAt0, r_setAt1, List.set_cons_zero, List.set_cons_succ, Prod.mk.injEq, EVA, ↓reduceIte, Nat.reduceEqDiff, Nat.reduceMul, reduceCtorEq, Nat.reduceAdd, Nat.reduceSub, Nat.reduceLeDiff, Nat.reduceLT, Int.reduceToNat, Int.reduceLE, Int.reduceLT, mens, men]
  refine kca_intro (sem_toStringS x.outer b3) ?_
  simp only [r_setAt0, r_setAt1, List.set_cons_zero, List.set_cons_succ, Prod.mk.injEq, EVA, ↓reduceIte, Nat.reduceEqDiff, Nat.reduceMul, reduceCtorEq, Nat.reduceAdd, Nat.reduceSub, Nat.reduceLeDiff, Nat.reduceLT, Int.reduceToNat, Int.reduceLE, Int.reduceLT, mens, men]
  refine kca_intro (sem_toWireS x.inner b5 b6) ?_
  simp only [r_setAt0, r_setAt1, List.set_cons_zero, List.set_cons_succ, Prod.mk.injEq, EVA, ↓reduceIte, Nat.reduceEqDiff, Nat.reduceMul, reduceCtorEq, Nat.reduceAdd, Nat.reduceSub, Nat.reduceLeDiff, Nat.reduceLT, Int.reduceToNat, Int.reduceLE, Int.reduceLT, mens, men]
  rfl
theorem sem_toControl (x : TControl) (hb : bdControl 4294967296 x) (lvl : Nat) (S : Sto) : Sem Go.Proofs.Tryz.prog fid_laws_toControl lvl [.ag ((cControl x).map .tr)] S (oControl x) S := by
  have b0 : x.name.size ≤ 4294967296 := hb
  refine sem_of_chk k_laws_toControl (by simp [oControl, low, men, mens]) ?_
  simp only [c_laws_toControl, cControl, zfill, zobs, List.map_cons, List.map_nil, r_setAt0, r_setAt1, List.set_cons_zero, List.set_cons_succ, EVA, ↓reduceIte, Nat.reduceEqDiff, Nat.reduceMul, reduceCtorEq, Nat.reduceAdd, Nat.reduceSub, Nat.reduceLeDiff, Nat.reduceLT, Int.reduceToNat, Int.reduceLE, Int.reduceLT, mens, men]
  rfl
theorem sem_toControlS (a : (List TControl)) (ha : a.length ≤ 4294967296) (hb : ∀ y ∈ a, bdControl 4294967296 y) (lvl : Nat) (S : Sto) : Sem Go.Proofs.Tryz.prog fid_laws_toControlS lvl [.tr (.sl (a.map cControl))] S (.ow 3 (a.map cControl) true) S := by
  refine sem_of_chk k_laws_toControlS trivial ?_
  simp only [c_laws_toControlS, List.length_map, bigN, Int.natCast_nonneg, EVA, ↓reduceIte, Nat.reduceEqDiff, Nat.reduceMul, reduceCtorEq, Nat.reduceAdd, Nat.reduceSub, Nat.reduceLeDiff, Nat.reduceLT, Int.reduceToNat, Int.reduceLE, Int.reduceLT, mens, men]
  refine ⟨by omega, ?_⟩
  refine wp_count (α := Unit) a.length (fun j _ => ⟨lvl, [(0, .tr (.sl (a.map cControl))), (3, .hd (lvl, 224) [] 0 a.length none a.length), (4, iI j)], [(224, .ar 3 (filled cControl [ts ⟨#[]⟩, tv 0, tv 0] a j) true a.length (j * 0))], S⟩) (fun _ _ => True) () ⟨by simp only [EVA, ↓reduceIte, Nat.reduceEqDiff, Nat.reduceMul, reduceCtorEq, Nat.reduceAdd, Nat.reduceSub, Nat.reduceLeDiff, Nat.reduceLT, Int.reduceToNat, Int.reduceLE, Int.reduceLT, mens, men], by (simp only [filled_zero, EVA, ↓reduceIte, Nat.reduceEqDiff, Nat.reduceMul, reduceCtorEq, Nat.reduceAdd, Nat.reduceSub, Nat.reduceLeDiff, Nat.reduceLT, Int.reduceToNat, Int.reduceLE, Int.reduceLT, mens, men]) <;> rfl⟩ trivial ?_
  intro j _ hj _
  simp only [List.length_map, EVA, ↓reduceIte, Nat.reduceEqDiff, Nat.reduceMul, reduceCtorEq, Nat.reduceAdd, Nat.reduceSub, Nat.reduceLeDiff, Nat.reduceLT, Int.reduceToNat, Int.reduceLE, Int.reduceLT, mens, men]
  refine ite_of (fun hlt => ?_) (fun hge => ?_)
  · have hja : j < a.length := by omega
    have ga : (a.map cControl)[j]? = some (cControl a[j]) := by simp [hja]
    have gz : (filled cControl [ts ⟨#[]⟩, tv 0, tv 0] a j)[j]? = some [ts ⟨#[]⟩, tv 0, tv 0] := filled_get hja
    have hfl : (filled cControl [ts ⟨#[]⟩, tv 0, tv 0] a j).length = a.length := filled_length hj
    have hsem := fun lvl S => sem_toControl a[j] (hb a[j] (List.getElem_mem hja)) lvl S
    simp only [ga, gz, Int.natCast_nonneg, Nat.le_refl, hja, cControl, oControl, Nat.reduceLeDiff, EVA, ↓reduceIte, Nat.reduceEqDiff, Nat.reduceMul, reduceCtorEq, Nat.reduceAdd, Nat.reduceSub, Nat.reduceLT, Int.reduceToNat, Int.reduceLE, Int.reduceLT, mens, men]
    refine kca_intro hsem ?_
    simp only [oControl, gz, Int.natCast_nonneg, Nat.le_refl, hja, hfl, setp, List.getElem?_set_self, List.set_set, List.length_set, List.set_cons_zero, List.set_cons_succ, Prod.mk.injEq, ne_eq, not_false_eq_true, EVA, ↓reduceIte, Nat.reduceEqDiff, Nat.reduceMul, reduceCtorEq, Nat.reduceAdd, Nat.reduceSub, Nat.reduceLeDiff, Nat.reduceLT, Int.reduceToNat, Int.reduceLE, Int.reduceLT, mens, men]
    refine ⟨by rw [fits_i64]; omega, cntJ_intro () hja ?_ trivial⟩
    have hse := filled_set (c := cControl) (z := [ts ⟨#[]⟩, tv 0, tv 0]) (e := [ts a[j].name, tv a[j].ports, tv a[j].kind_]) hja rfl
    rw [hse, show (j + 1) * 0 = j * 0 from by omega]
    rfl
  · have : j = a.length := by omega
    subst this
    rw [filled_all]
    simp
end Go.Fd

/-
  WHAT THE LAW OF CloseName LEANS ON. Own work.
-/
namespace Go.Fd
theorem nL_one {α : Type} {f : α → Nat} {B : Nat} (l : List α) (h : ∀ x ∈ l, f x ≤ B) {n : Nat} (hl : l.length ≤ n) : nL f l ≤ n * B := Nat.le_trans (nL_le l h) (Nat.mul_le_mul_right _ hl)
theorem ok_big {sig : List TControl} {b : TBigraph} (h : bigOK sig b) : bdBigraph 4294967296 b ∧ 1 + (nBigraph b : Int) ≤ 4611686018427387904 := by
  refine ⟨bd_mono (by omega) (bd_small h), ?_⟩
  have hs := h.small
  have n1 := nL_one (f := nNode) (B := 1002) b.nodes (fun x hx => by have := hs.links x hx; simp only [nNode, nL_int]; omega) hs.nodes
  have n2 := nL_one (f := nInt) (B := 1) b.sites (fun x _ => by simp [nInt]) hs.sites
  have n3 := nL_one (f := nStr) (B := 1) b.outer (fun x _ => by simp [nStr]) hs.outer
  have n4 := nL_one (f := nWire) (B := 2) b.inner (fun x _ => by simp [nWire]) hs.inner
  unfold nBigraph
  omega
theorem ok_none : bdBigraph 4294967296 emptyB ∧ 1 + (nBigraph emptyB : Int) ≤ 4611686018427387904 := by
  refine ⟨⟨by simp [emptyB], by simp [emptyB], by simp [emptyB], by simp [emptyB], by simp [emptyB], by simp [emptyB], by simp [emptyB]⟩, ?_⟩
  simp [nBigraph, emptyB, nL]
end Go.Fd

/-
  WHAT THE LAW OF OpenName LEANS ON. Own work.
-/
namespace Go.Fd
theorem ok_OpenName (sig : List TControl) (b : TBigraph) (k : Int) (s : ByteArray) (_hn : sig.length ≤ 4294967296) (_hbs : ∀ y ∈ sig, bdControl 4294967296 y) (_hb : bdBigraph 4294967296 b) (_hs : s.size ≤ 4294967296) : bdBigraph 4294967296 (r0_OpenName sig b k s) ∧ 1 + (nBigraph (r0_OpenName sig b k s) : Int) ≤ 4611686018427387904 := by
  unfold r0_OpenName
  split
  · rename_i h; exact ok_big h.2.2.2
  · exact ok_none
end Go.Fd

/-
  THE LAW OF OpenName (printed by lawtext.py). Own work.
-/
namespace Go.Fd
set_option maxRecDepth 20000
set_option maxHeartbeats 2000000 in
theorem sem_FnExactOpenName (x0 : (List TControl)) (x1 : TBigraph) (x2 : Int) (x3 : ByteArray) (hb0_0 : x0.length ≤ 9223372036854775807) (hb0_1 : ∀ y ∈ x0, bdControl 9223372036854775807 y) (hb1_0 : bdBigraph 9223372036854775807 x1) (hb3_0 : x3.size ≤ 9223372036854775807) (hf1 : ftBigraph x1) (lvl : Nat) (S : Sto) : Sem Go.Proofs.Tryz.prog fid_laws_FnExactOpenName lvl [.tr (.sl (x0.map cControl)), .ag ((cBigraph x1).map .tr), iI x2, iS x3] S (iB true) S := by
  refine sem_of_chk k_laws_FnExactOpenName trivial ?_
  simp only [c_laws_FnExactOpenName, List.length_map, cut_map, cut_mL, mL_length, ne_eq, not_true_eq_false, bne_self_eq_false, cBigraph, oBigraph, EVA, ↓reduceIte, Nat.reduceEqDiff, Nat.reduceMul, reduceCtorEq, Nat.reduceAdd, Nat.reduceSub, Nat.reduceLeDiff, Nat.reduceLT, Int.reduceToNat, Int.reduceLE, Int.reduceLT, mens, men]
  refine ite_of (fun _ => trivial) (fun hl3 => ?_)
  have hs3_0 : x3.size ≤ 4294967296 := by omega
  have ul : (1048576 : Int) ≤ 1048576 := Int.le_refl _
  obtain ⟨_, ha0⟩ := sem_szControlS x0 hb0_0 hb0_1 (1048576) (by omega) (by omega)
  refine kca_intro ha0 ?_
  simp only [List.length_map, cut_map, cut_mL, mL_length, ne_eq, not_true_eq_false, bne_self_eq_false, cBigraph, oBigraph, EVA, ↓reduceIte, Nat.reduceEqDiff, Nat.reduceMul, reduceCtorEq, Nat.reduceAdd, Nat.reduceSub, Nat.reduceLeDiff, Nat.reduceLT, Int.reduceToNat, Int.reduceLE, Int.reduceLT, mens, men]
  refine ite_of (fun _ => trivial) (fun hz0 => ?_)
  have zp0 := (Zm_L (f := szControl) (fun y => (zpControl y)) x0) (1048576) (by omega) (by omega)
  have zq0 := (Zq_L (f := szControl) (n := nControl) (fun y => Zq_imp (zqControl y) (by omega)) x0) (1048576) (by omega) (by omega)
  simp only at zp0 zq0
  have hp0 := zp0.2 (by omega)
  have hq0 := zq0.2 (by omega)
  obtain ⟨hs0_0, hs0_1⟩ := hp0
  obtain ⟨_, ha1⟩ := sem_szBigraph x1 hb1_0 (szL szControl x0 (1048576)) (by omega) (by omega)
  refine kca_intro ha1 ?_
  simp only [List.length_map, cut_map, cut_mL, mL_length, ne_eq, not_true_eq_false, bne_self_eq_false, cBigraph, oBigraph, EVA, ↓reduceIte, Nat.reduceEqDiff, Nat.reduceMul, reduceCtorEq, Nat.reduceAdd, Nat.reduceSub, Nat.reduceLeDiff, Nat.reduceLT, Int.reduceToNat, Int.reduceLE, Int.reduceLT, mens, men]
  refine ite_of (fun _ => trivial) (fun hz1 => ?_)
  have zp1 := (zpBigraph x1) (szL szControl x0 (1048576)) (by omega) (by omega)
  have zq1 := (zqBigraph x1) (szL szControl x0 (1048576)) (by omega) (by omega)
  simp only at zp1 zq1
  have hp1 := zp1.2 (by omega)
  have hq1 := zq1.2 (by omega)
  have hs1_0 := hp1
  refine kca_intro (sem_toControlS x0 hs0_0 hs0_1) ?_
  simp only [List.length_map, cut_map, cut_mL, mL_length, ne_eq, not_true_eq_false, bne_self_eq_false, cBigraph, oBigraph, EVA, ↓reduceIte, Nat.reduceEqDiff, Nat.reduceMul, reduceCtorEq, Nat.reduceAdd, Nat.reduceSub, Nat.reduceLeDiff, Nat.reduceLT, Int.reduceToNat, Int.reduceLE, Int.reduceLT, mens, men]
  refine kca_intro (sem_toBigraph x1 hs1_0) ?_
  simp only [List.length_map, cut_map, cut_mL, mL_length, ne_eq, not_true_eq_false, bne_self_eq_false, cBigraph, oBigraph, EVA, ↓reduceIte, Nat.reduceEqDiff, Nat.reduceMul, reduceCtorEq, Nat.reduceAdd, Nat.reduceSub, Nat.reduceLeDiff, Nat.reduceLT, Int.reduceToNat, Int.reduceLE, Int.reduceLT, mens, men]
  by_cases hB : openOK x0 x1 x2 x3
  · refine kca_intro (sem_spec_OpenName_y x0 x1 x2 x3 hs0_0 hs0_1 hs1_0 hs3_0 hf1 hB) ?_
    simp only [List.length_map, cut_map, cut_mL, mL_length, ne_eq, not_true_eq_false, bne_self_eq_false, cBigraph, oBigraph, EVA, ↓reduceIte, Nat.reduceEqDiff, Nat.reduceMul, reduceCtorEq, Nat.reduceAdd, Nat.reduceSub, Nat.reduceLeDiff, Nat.reduceLT, Int.reduceToNat, Int.reduceLE, Int.reduceLT, mens, men]
    refine kca_intro (sem_toControlS x0 hs0_0 hs0_1) ?_
    simp only [List.length_map, cut_map, cut_mL, mL_length, ne_eq, not_true_eq_false, bne_self_eq_false, cBigraph, oBigraph, EVA, ↓reduceIte, Nat.reduceEqDiff, Nat.reduceMul, reduceCtorEq, Nat.reduceAdd, Nat.reduceSub, Nat.reduceLeDiff, Nat.reduceLT, Int.reduceToNat, Int.reduceLE, Int.reduceLT, mens, men]
    refine kca_intro (sem_toBigraph x1 hs1_0) ?_
    simp only [List.length_map, cut_map, cut_mL, mL_length, ne_eq, not_true_eq_false, bne_self_eq_false, cBigraph, oBigraph, EVA, ↓reduceIte, Nat.reduceEqDiff, Nat.reduceMul, reduceCtorEq, Nat.reduceAdd, Nat.reduceSub, Nat.reduceLeDiff, Nat.reduceLT, Int.reduceToNat, Int.reduceLE, Int.reduceLT, mens, men]
    refine kca_intro (sem_impl_OpenName x0 x1 x2 x3 hs0_0 hs0_1 hs1_0 hs3_0 hf1) ?_
    simp only [List.length_map, cut_map, cut_mL, mL_length, ne_eq, not_true_eq_false, bne_self_eq_false, cBigraph, oBigraph, EVA, ↓reduceIte, Nat.reduceEqDiff, Nat.reduceMul, reduceCtorEq, Nat.reduceAdd, Nat.reduceSub, Nat.reduceLeDiff, Nat.reduceLT, Int.reduceToNat, Int.reduceLE, Int.reduceLT, mens, men]
    obtain ⟨hr0_0, hrn⟩ := ok_OpenName x0 x1 x2 x3 hs0_0 hs0_1 hs1_0 hs3_0
    refine kca_intro (sem_eqBigraph (r0_OpenName x0 x1 x2 x3) (r0_OpenName x0 x1 x2 x3) (monoBigraph hr0_0)) ?_
    simp only [List.length_map, cut_map, cut_mL, mL_length, ne_eq, not_true_eq_false, bne_self_eq_false, cBigraph, oBigraph, EVA, ↓reduceIte, Nat.reduceEqDiff, Nat.reduceMul, reduceCtorEq, Nat.reduceAdd, Nat.reduceSub, Nat.reduceLeDiff, Nat.reduceLT, Int.reduceToNat, Int.reduceLE, Int.reduceLT, mens, men]
    refine kca_intro (sem_toControlS x0 hs0_0 hs0_1) ?_
    simp only [List.length_map, cut_map, cut_mL, mL_length, ne_eq, not_true_eq_false, bne_self_eq_false, cBigraph, oBigraph, EVA, ↓reduceIte, Nat.reduceEqDiff, Nat.reduceMul, reduceCtorEq, Nat.reduceAdd, Nat.reduceSub, Nat.reduceLeDiff, Nat.reduceLT, Int.reduceToNat, Int.reduceLE, Int.reduceLT, mens, men]
    refine kca_intro (sem_eqControlS x0 x0 hb0_0 hb0_1) ?_
    simp only [List.length_map, cut_map, cut_mL, mL_length, ne_eq, not_true_eq_false, bne_self_eq_false, cBigraph, oBigraph, EVA, ↓reduceIte, Nat.reduceEqDiff, Nat.reduceMul, reduceCtorEq, Nat.reduceAdd, Nat.reduceSub, Nat.reduceLeDiff, Nat.reduceLT, Int.reduceToNat, Int.reduceLE, Int.reduceLT, mens, men]
    refine kca_intro (sem_toBigraph x1 hs1_0) ?_
    simp only [List.length_map, cut_map, cut_mL, mL_length, ne_eq, not_true_eq_false, bne_self_eq_false, cBigraph, oBigraph, EVA, ↓reduceIte, Nat.reduceEqDiff, Nat.reduceMul, reduceCtorEq, Nat.reduceAdd, Nat.reduceSub, Nat.reduceLeDiff, Nat.reduceLT, Int.reduceToNat, Int.reduceLE, Int.reduceLT, mens, men]
    refine kca_intro (sem_eqBigraph x1 x1 hb1_0) ?_
    simp only [List.length_map, cut_map, cut_mL, mL_length, ne_eq, not_true_eq_false, bne_self_eq_false, cBigraph, oBigraph, EVA, ↓reduceIte, Nat.reduceEqDiff, Nat.reduceMul, reduceCtorEq, Nat.reduceAdd, Nat.reduceSub, Nat.reduceLeDiff, Nat.reduceLT, Int.reduceToNat, Int.reduceLE, Int.reduceLT, mens, men]
    simp only [arg1]
    refine kcy_mark1 mark_ControlS (a := x0) rfl (by omega) (by omega) hs0_0 hs0_1 ?_
    simp only [List.length_map, cut_map, cut_mL, mL_length, ne_eq, not_true_eq_false, bne_self_eq_false, cBigraph, oBigraph, EVA, ↓reduceIte, Nat.reduceEqDiff, Nat.reduceMul, reduceCtorEq, Nat.reduceAdd, Nat.reduceSub, Nat.reduceLeDiff, Nat.reduceLT, Int.reduceToNat, Int.reduceLE, Int.reduceLT, mens, men]
    simp only [arg1]
    refine kcy_markBigraph (x := x1) (by decide) (by decide) (by decide) (by decide) (by decide) (by decide) rfl rfl rfl rfl (by omega) (by omega) hs1_0 ?_
    simp only [List.length_map, cut_map, cut_mL, mL_length, ne_eq, not_true_eq_false, bne_self_eq_false, cBigraph, oBigraph, EVA, ↓reduceIte, Nat.reduceEqDiff, Nat.reduceMul, reduceCtorEq, Nat.reduceAdd, Nat.reduceSub, Nat.reduceLeDiff, Nat.reduceLT, Int.reduceToNat, Int.reduceLE, Int.reduceLT, mens, men]
    have hk0 : ¬ (1 + (nL nControl x0 : Nat) + (nBigraph x1 : Nat) < (0 : Int)) := by omega
    simp only [hk0, List.length_map, cut_map, cut_mL, mL_length, ne_eq, not_true_eq_false, bne_self_eq_false, cBigraph, oBigraph, EVA, ↓reduceIte, Nat.reduceEqDiff, Nat.reduceMul, reduceCtorEq, Nat.reduceAdd, Nat.reduceSub, Nat.reduceLeDiff, Nat.reduceLT, Int.reduceToNat, Int.reduceLE, Int.reduceLT, mens, men]
    refine kca_intro (sem_eqBigraph (r0_OpenName x0 x1 x2 x3) (r0_OpenName x0 x1 x2 x3) (monoBigraph hr0_0)) ?_
    simp only [List.length_map, cut_map, cut_mL, mL_length, ne_eq, not_true_eq_false, bne_self_eq_false, cBigraph, oBigraph, EVA, ↓reduceIte, Nat.reduceEqDiff, Nat.reduceMul, reduceCtorEq, Nat.reduceAdd, Nat.reduceSub, Nat.reduceLeDiff, Nat.reduceLT, Int.reduceToNat, Int.reduceLE, Int.reduceLT, mens, men]
    simp only [arg1]
    refine kcy_markBigraph (x := (r0_OpenName x0 x1 x2 x3)) (by decide) (by decide) (by decide) (by decide) (by decide) (by decide) rfl rfl rfl rfl (by omega) (by omega) hr0_0 ?_
    simp only [List.length_map, cut_map, cut_mL, mL_length, ne_eq, not_true_eq_false, bne_self_eq_false, cBigraph, oBigraph, EVA, ↓reduceIte, Nat.reduceEqDiff, Nat.reduceMul, reduceCtorEq, Nat.reduceAdd, Nat.reduceSub, Nat.reduceLeDiff, Nat.reduceLT, Int.reduceToNat, Int.reduceLE, Int.reduceLT, mens, men]
    refine kca_intro (held_Bigraph (r0_OpenName x0 x1 x2 x3) (1) hr0_0 (by omega) (by omega)) ?_
    have hh0 : ¬ (1 + (nBigraph (r0_OpenName x0 x1 x2 x3) : Nat) < (0 : Int)) := by omega
    simp only [hh0, List.length_map, cut_map, cut_mL, mL_length, ne_eq, not_true_eq_false, bne_self_eq_false, cBigraph, oBigraph, EVA, ↓reduceIte, Nat.reduceEqDiff, Nat.reduceMul, reduceCtorEq, Nat.reduceAdd, Nat.reduceSub, Nat.reduceLeDiff, Nat.reduceLT, Int.reduceToNat, Int.reduceLE, Int.reduceLT, mens, men]
    refine kca_intro (sem_toControlS x0 hs0_0 hs0_1) ?_
    simp only [List.length_map, cut_map, cut_mL, mL_length, ne_eq, not_true_eq_false, bne_self_eq_false, cBigraph, oBigraph, EVA, ↓reduceIte, Nat.reduceEqDiff, Nat.reduceMul, reduceCtorEq, Nat.reduceAdd, Nat.reduceSub, Nat.reduceLeDiff, Nat.reduceLT, Int.reduceToNat, Int.reduceLE, Int.reduceLT, mens, men]
    refine kca_intro (sem_toBigraph x1 hs1_0) ?_
    simp only [List.length_map, cut_map, cut_mL, mL_length, ne_eq, not_true_eq_false, bne_self_eq_false, cBigraph, oBigraph, EVA, ↓reduceIte, Nat.reduceEqDiff, Nat.reduceMul, reduceCtorEq, Nat.reduceAdd, Nat.reduceSub, Nat.reduceLeDiff, Nat.reduceLT, Int.reduceToNat, Int.reduceLE, Int.reduceLT, mens, men]
    refine kca_intro (sem_impl_OpenName x0 x1 x2 x3 hs0_0 hs0_1 hs1_0 hs3_0 hf1) ?_
    simp only [List.length_map, cut_map, cut_mL, mL_length, ne_eq, not_true_eq_false, bne_self_eq_false, cBigraph, oBigraph, EVA, ↓reduceIte, Nat.reduceEqDiff, Nat.reduceMul, reduceCtorEq, Nat.reduceAdd, Nat.reduceSub, Nat.reduceLeDiff, Nat.reduceLT, Int.reduceToNat, Int.reduceLE, Int.reduceLT, mens, men]
    refine kca_intro (sem_eqBigraph (r0_OpenName x0 x1 x2 x3) (r0_OpenName x0 x1 x2 x3) (monoBigraph hr0_0)) ?_
    simp only [List.length_map, cut_map, cut_mL, mL_length, ne_eq, not_true_eq_false, bne_self_eq_false, cBigraph, oBigraph, EVA, ↓reduceIte, Nat.reduceEqDiff, Nat.reduceMul, reduceCtorEq, Nat.reduceAdd, Nat.reduceSub, Nat.reduceLeDiff, Nat.reduceLT, Int.reduceToNat, Int.reduceLE, Int.reduceLT, mens, men]
    refine kca_intro (held_Bigraph (r0_OpenName x0 x1 x2 x3) (1) hr0_0 (by omega) (by omega)) ?_
    have hh0 : ¬ (1 + (nBigraph (r0_OpenName x0 x1 x2 x3) : Nat) < (0 : Int)) := by omega
    simp only [hh0, List.length_map, cut_map, cut_mL, mL_length, ne_eq, not_true_eq_false, bne_self_eq_false, cBigraph, oBigraph, EVA, ↓reduceIte, Nat.reduceEqDiff, Nat.reduceMul, reduceCtorEq, Nat.reduceAdd, Nat.reduceSub, Nat.reduceLeDiff, Nat.reduceLT, Int.reduceToNat, Int.reduceLE, Int.reduceLT, mens, men]
  · refine kca_intro (sem_spec_OpenName_n x0 x1 x2 x3 hs0_0 hs0_1 hs1_0 hs3_0 hf1 hB) ?_
    simp only [List.length_map, cut_map, cut_mL, mL_length, ne_eq, not_true_eq_false, bne_self_eq_false, cBigraph, oBigraph, EVA, ↓reduceIte, Nat.reduceEqDiff, Nat.reduceMul, reduceCtorEq, Nat.reduceAdd, Nat.reduceSub, Nat.reduceLeDiff, Nat.reduceLT, Int.reduceToNat, Int.reduceLE, Int.reduceLT, mens, men]
    refine kca_intro (sem_toControlS x0 hs0_0 hs0_1) ?_
    simp only [List.length_map, cut_map, cut_mL, mL_length, ne_eq, not_true_eq_false, bne_self_eq_false, cBigraph, oBigraph, EVA, ↓reduceIte, Nat.reduceEqDiff, Nat.reduceMul, reduceCtorEq, Nat.reduceAdd, Nat.reduceSub, Nat.reduceLeDiff, Nat.reduceLT, Int.reduceToNat, Int.reduceLE, Int.reduceLT, mens, men]
    refine kca_intro (sem_toBigraph x1 hs1_0) ?_
    simp only [List.length_map, cut_map, cut_mL, mL_length, ne_eq, not_true_eq_false, bne_self_eq_false, cBigraph, oBigraph, EVA, ↓reduceIte, Nat.reduceEqDiff, Nat.reduceMul, reduceCtorEq, Nat.reduceAdd, Nat.reduceSub, Nat.reduceLeDiff, Nat.reduceLT, Int.reduceToNat, Int.reduceLE, Int.reduceLT, mens, men]
    refine kca_intro (sem_impl_OpenName x0 x1 x2 x3 hs0_0 hs0_1 hs1_0 hs3_0 hf1) ?_
    simp only [List.length_map, cut_map, cut_mL, mL_length, ne_eq, not_true_eq_false, bne_self_eq_false, cBigraph, oBigraph, EVA, ↓reduceIte, Nat.reduceEqDiff, Nat.reduceMul, reduceCtorEq, Nat.reduceAdd, Nat.reduceSub, Nat.reduceLeDiff, Nat.reduceLT, Int.reduceToNat, Int.reduceLE, Int.reduceLT, mens, men]
    obtain ⟨hr0_0, hrn⟩ := ok_OpenName x0 x1 x2 x3 hs0_0 hs0_1 hs1_0 hs3_0
    refine kca_intro (sem_eqBigraph (r0_OpenName x0 x1 x2 x3) (r0_OpenName x0 x1 x2 x3) (monoBigraph hr0_0)) ?_
    simp only [List.length_map, cut_map, cut_mL, mL_length, ne_eq, not_true_eq_false, bne_self_eq_false, cBigraph, oBigraph, EVA, ↓reduceIte, Nat.reduceEqDiff, Nat.reduceMul, reduceCtorEq, Nat.reduceAdd, Nat.reduceSub, Nat.reduceLeDiff, Nat.reduceLT, Int.reduceToNat, Int.reduceLE, Int.reduceLT, mens, men]
    refine kca_intro (sem_toControlS x0 hs0_0 hs0_1) ?_
    simp only [List.length_map, cut_map, cut_mL, mL_length, ne_eq, not_true_eq_false, bne_self_eq_false, cBigraph, oBigraph, EVA, ↓reduceIte, Nat.reduceEqDiff, Nat.reduceMul, reduceCtorEq, Nat.reduceAdd, Nat.reduceSub, Nat.reduceLeDiff, Nat.reduceLT, Int.reduceToNat, Int.reduceLE, Int.reduceLT, mens, men]
    refine kca_intro (sem_eqControlS x0 x0 hb0_0 hb0_1) ?_
    simp only [List.length_map, cut_map, cut_mL, mL_length, ne_eq, not_true_eq_false, bne_self_eq_false, cBigraph, oBigraph, EVA, ↓reduceIte, Nat.reduceEqDiff, Nat.reduceMul, reduceCtorEq, Nat.reduceAdd, Nat.reduceSub, Nat.reduceLeDiff, Nat.reduceLT, Int.reduceToNat, Int.reduceLE, Int.reduceLT, mens, men]
    refine kca_intro (sem_toBigraph x1 hs1_0) ?_
    simp only [List.length_map, cut_map, cut_mL, mL_length, ne_eq, not_true_eq_false, bne_self_eq_false, cBigraph, oBigraph, EVA, ↓reduceIte, Nat.reduceEqDiff, Nat.reduceMul, reduceCtorEq, Nat.reduceAdd, Nat.reduceSub, Nat.reduceLeDiff, Nat.reduceLT, Int.reduceToNat, Int.reduceLE, Int.reduceLT, mens, men]
    refine kca_intro (sem_eqBigraph x1 x1 hb1_0) ?_
    simp only [List.length_map, cut_map, cut_mL, mL_length, ne_eq, not_true_eq_false, bne_self_eq_false, cBigraph, oBigraph, EVA, ↓reduceIte, Nat.reduceEqDiff, Nat.reduceMul, reduceCtorEq, Nat.reduceAdd, Nat.reduceSub, Nat.reduceLeDiff, Nat.reduceLT, Int.reduceToNat, Int.reduceLE, Int.reduceLT, mens, men]
    simp only [arg1]
    refine kcy_mark1 mark_ControlS (a := x0) rfl (by omega) (by omega) hs0_0 hs0_1 ?_
    simp only [List.length_map, cut_map, cut_mL, mL_length, ne_eq, not_true_eq_false, bne_self_eq_false, cBigraph, oBigraph, EVA, ↓reduceIte, Nat.reduceEqDiff, Nat.reduceMul, reduceCtorEq, Nat.reduceAdd, Nat.reduceSub, Nat.reduceLeDiff, Nat.reduceLT, Int.reduceToNat, Int.reduceLE, Int.reduceLT, mens, men]
    simp only [arg1]
    refine kcy_markBigraph (x := x1) (by decide) (by decide) (by decide) (by decide) (by decide) (by decide) rfl rfl rfl rfl (by omega) (by omega) hs1_0 ?_
    simp only [List.length_map, cut_map, cut_mL, mL_length, ne_eq, not_true_eq_false, bne_self_eq_false, cBigraph, oBigraph, EVA, ↓reduceIte, Nat.reduceEqDiff, Nat.reduceMul, reduceCtorEq, Nat.reduceAdd, Nat.reduceSub, Nat.reduceLeDiff, Nat.reduceLT, Int.reduceToNat, Int.reduceLE, Int.reduceLT, mens, men]
    have hk0 : ¬ (1 + (nL nControl x0 : Nat) + (nBigraph x1 : Nat) < (0 : Int)) := by omega
    simp only [hk0, List.length_map, cut_map, cut_mL, mL_length, ne_eq, not_true_eq_false, bne_self_eq_false, cBigraph, oBigraph, EVA, ↓reduceIte, Nat.reduceEqDiff, Nat.reduceMul, reduceCtorEq, Nat.reduceAdd, Nat.reduceSub, Nat.reduceLeDiff, Nat.reduceLT, Int.reduceToNat, Int.reduceLE, Int.reduceLT, mens, men]
    refine kca_intro (sem_eqBigraph (r0_OpenName x0 x1 x2 x3) (r0_OpenName x0 x1 x2 x3) (monoBigraph hr0_0)) ?_
    simp only [List.length_map, cut_map, cut_mL, mL_length, ne_eq, not_true_eq_false, bne_self_eq_false, cBigraph, oBigraph, EVA, ↓reduceIte, Nat.reduceEqDiff, Nat.reduceMul, reduceCtorEq, Nat.reduceAdd, Nat.reduceSub, Nat.reduceLeDiff, Nat.reduceLT, Int.reduceToNat, Int.reduceLE, Int.reduceLT, mens, men]
    simp only [arg1]
    refine kcy_markBigraph (x := (r0_OpenName x0 x1 x2 x3)) (by decide) (by decide) (by decide) (by decide) (by decide) (by decide) rfl rfl rfl rfl (by omega) (by omega) hr0_0 ?_
    simp only [List.length_map, cut_map, cut_mL, mL_length, ne_eq, not_true_eq_false, bne_self_eq_false, cBigraph, oBigraph, EVA, ↓reduceIte, Nat.reduceEqDiff, Nat.reduceMul, reduceCtorEq, Nat.reduceAdd, Nat.reduceSub, Nat.reduceLeDiff, Nat.reduceLT, Int.reduceToNat, Int.reduceLE, Int.reduceLT, mens, men]
    refine kca_intro (held_Bigraph (r0_OpenName x0 x1 x2 x3) (1) hr0_0 (by omega) (by omega)) ?_
    have hh0 : ¬ (1 + (nBigraph (r0_OpenName x0 x1 x2 x3) : Nat) < (0 : Int)) := by omega
    simp only [hh0, List.length_map, cut_map, cut_mL, mL_length, ne_eq, not_true_eq_false, bne_self_eq_false, cBigraph, oBigraph, EVA, ↓reduceIte, Nat.reduceEqDiff, Nat.reduceMul, reduceCtorEq, Nat.reduceAdd, Nat.reduceSub, Nat.reduceLeDiff, Nat.reduceLT, Int.reduceToNat, Int.reduceLE, Int.reduceLT, mens, men]
    refine kca_intro (sem_toControlS x0 hs0_0 hs0_1) ?_
    simp only [List.length_map, cut_map, cut_mL, mL_length, ne_eq, not_true_eq_false, bne_self_eq_false, cBigraph, oBigraph, EVA, ↓reduceIte, Nat.reduceEqDiff, Nat.reduceMul, reduceCtorEq, Nat.reduceAdd, Nat.reduceSub, Nat.reduceLeDiff, Nat.reduceLT, Int.reduceToNat, Int.reduceLE, Int.reduceLT, mens, men]
    refine kca_intro (sem_toBigraph x1 hs1_0) ?_
    simp only [List.length_map, cut_map, cut_mL, mL_length, ne_eq, not_true_eq_false, bne_self_eq_false, cBigraph, oBigraph, EVA, ↓reduceIte, Nat.reduceEqDiff, Nat.reduceMul, reduceCtorEq, Nat.reduceAdd, Nat.reduceSub, Nat.reduceLeDiff, Nat.reduceLT, Int.reduceToNat, Int.reduceLE, Int.reduceLT, mens, men]
    refine kca_intro (sem_impl_OpenName x0 x1 x2 x3 hs0_0 hs0_1 hs1_0 hs3_0 hf1) ?_
    simp only [List.length_map, cut_map, cut_mL, mL_length, ne_eq, not_true_eq_false, bne_self_eq_false, cBigraph, oBigraph, EVA, ↓reduceIte, Nat.reduceEqDiff, Nat.reduceMul, reduceCtorEq, Nat.reduceAdd, Nat.reduceSub, Nat.reduceLeDiff, Nat.reduceLT, Int.reduceToNat, Int.reduceLE, Int.reduceLT, mens, men]
    refine kca_intro (sem_eqBigraph (r0_OpenName x0 x1 x2 x3) (r0_OpenName x0 x1 x2 x3) (monoBigraph hr0_0)) ?_
    simp only [List.length_map, cut_map, cut_mL, mL_length, ne_eq, not_true_eq_false, bne_self_eq_false, cBigraph, oBigraph, EVA, ↓reduceIte, Nat.reduceEqDiff, Nat.reduceMul, reduceCtorEq, Nat.reduceAdd, Nat.reduceSub, Nat.reduceLeDiff, Nat.reduceLT, Int.reduceToNat, Int.reduceLE, Int.reduceLT, mens, men]
    refine kca_intro (held_Bigraph (r0_OpenName x0 x1 x2 x3) (1) hr0_0 (by omega) (by omega)) ?_
    have hh0 : ¬ (1 + (nBigraph (r0_OpenName x0 x1 x2 x3) : Nat) < (0 : Int)) := by omega
    simp only [hh0, List.length_map, cut_map, cut_mL, mL_length, ne_eq, not_true_eq_false, bne_self_eq_false, cBigraph, oBigraph, EVA, ↓reduceIte, Nat.reduceEqDiff, Nat.reduceMul, reduceCtorEq, Nat.reduceAdd, Nat.reduceSub, Nat.reduceLeDiff, Nat.reduceLT, Int.reduceToNat, Int.reduceLE, Int.reduceLT, mens, men]
end Go.Fd
