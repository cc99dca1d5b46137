/-
  FOUNDATION 12: structs, rows of literals, make, slices. Own work.
-/
import Derived.Test.YtopapbodofgmiaaGreatDoorT00
import Derived.Laws.Tables
import Derived.Great.BuildSlice
import Derived.ChangeKeysEq
set_option linter.all false
namespace Go.Fd

def RowT (w : World) (A : Nat → Prop) (vs : Array Value) (k : Nat) (es : Row) : Prop :=
  ∀ (i : Nat) (e : List Tr) (f : Nat) (t : Tr), es[i]? = some e → e[f]? = some t → ∃ x, vs[i * k + f]? = some x ∧ Rds w A x t
def flatT : Tr → Prop
  | .v _ => True
  | .sl es => es = []
def FlatR (es : Row) : Prop := ∀ e ∈ es, ∀ t ∈ e, flatT t

theorem Rds.empty {w : World} {A : Nat → Prop} {x : Value} (h : Rds w A x (.sl [])) : ∃ a c, x = .slice a 0 c := by
  generalize ht : Tr.sl [] = t at h
  cases h with
  | v x h => cases ht
  | nil a c => exact ⟨a, c, rfl⟩
  | sl b o c k es f hA hk hl hc hr => cases ht; exact ⟨_, _, rfl⟩
theorem flat_getp {es es' : Row} {p : Pth} (h : FlatR es) (hg : getp es p = some es') : p = [] ∨ es' = [] := by
  cases p with
  | nil => exact .inl rfl
  | cons q p =>
    obtain ⟨i, f⟩ := q
    simp only [getp] at hg
    split at hg <;> try contradiction
    rename_i e he
    split at hg <;> try contradiction
    rename_i es2 ht
    have := h e (List.mem_of_getElem? he) _ (List.mem_of_getElem? ht)
    simp only [flatT] at this
    subst this
    exact .inr (getp_nil hg).2

section ops
variable {P : Program} {F : Fr} {G G' : Gh} {S S' : Sto} {st : St} {a : Act} {w w' : World} {C : Contract} {K : Kind} {l b : Nat} {oper : Oper}

theorem Got.row {k c : Nat} {es : Row} {u : Bool} {vs : Array Value} {ty : TypeId} (h : SOk G S w) (hf : S (l, b) = none) (e : Ext w w')
    (hh : w'.heap[w.heap.size]? = some (.cells vs ty (0, 0))) (hsz : vs.size = c * k) (hc : es.length ≤ c) (hk : UnR k es) (hr : RowT w (Av G S w) vs k es) (hu : u = true → FlatR es) :
    Got G S w l b (.hd (l, b) [] 0 es.length none es.length) [.ar k es u es.length 0] (.slice (some ⟨w.heap.size, 0, none⟩) es.length c) w' := by
  have one : ∀ {j : Nat} {ob : Ob}, [Ob.ar k es u es.length 0][j]? = some ob → j = 0 ∧ ob = .ar k es u es.length 0 := fun {j ob} hj => by
    have : j = 0 := by have := (List.getElem?_eq_some_iff.1 hj).1; simpa using this
    subst this
    simp at hj; exact ⟨rfl, hj.symm⟩
  let G' : Gh := fun i => if i = (l, b) then fun p => if p = [] then some (w.heap.size, c) else none else G i
  have hG0 : G' (l, b) [] = some (w.heap.size, c) := by simp [G']
  have hG1 : ∀ p b' c', G' (l, b) p = some (b', c') → p = [] ∧ b' = w.heap.size := fun p b' c' hp => by
    simp only [G', if_true] at hp
    split at hp <;> try contradiction
    rename_i hp0
    simp at hp
    exact ⟨hp0, hp.1.symm⟩
  refine Got.mk (G' := G') h (fun j hj => by rw [show j = 0 from by simpa using hj]; exact hf) e (fun i ob hs => ?_) (fun j ob hj blk hown => ?_) (fun hvr j ob hj => ?_) (fun j ob j' ob' blk hj hj' _ _ => ?_) (fun j cells hj => ?_) (fun hvr => ?_)
  · simp only [G']
    rw [if_neg (fun e => by rw [e, hf] at hs; cases hs)]
  · obtain ⟨rfl, rfl⟩ := one hj
    obtain ⟨p, c1, _, _, h1⟩ := hown
    have := (hG1 p blk c1 h1).2
    omega
  · obtain ⟨rfl, rfl⟩ := one hj
    refine ⟨Nat.le_refl _, hk, by rw [show (l, b + 0) = (l, b) from rfl, hG0]; exact hc, fun p es' hp hg => ?_, fun p p' b1 c1 c2 _ _ _ _ h1 h2 => by rw [(hG1 p b1 c1 h1).1, (hG1 p' b1 c2 h2).1]⟩
    by_cases hp0 : p = []
    · subst hp0
      simp only [getp, Option.some.injEq] at hg
      subst hg
      unfold rowR
      rw [show (l, b + 0) = (l, b) from rfl, hG0]
      refine ⟨k, vs, ty, fun _ => rfl, hk, hh, hsz, hc, fun i e f t he ht => ?_⟩
      obtain ⟨x, hx, hrd⟩ := hr i e f t he ht
      refine ⟨x, hx, ?_⟩
      have hrd' := hvr [.tr t] [x] ⟨x, [], rfl, hrd, rfl⟩
      simp only [VRs] at hrd'
      obtain ⟨_, _, heq, hrd', _⟩ := hrd'
      cases heq
      cases t with
      | v y => exact hrd'.val
      | sl es2 =>
        simp only [cellR]
        by_cases hu' : u = true
        · simp only [hu', if_true]
          have := hu hu' e (List.mem_of_getElem? he) _ (List.mem_of_getElem? ht)
          simp only [flatT] at this
          subst this
          obtain ⟨a1, c1, rfl⟩ := Rds.empty hrd
          exact ⟨a1, c1, rfl, by simp, .inl rfl⟩
        · rw [if_neg hu']
          exact hrd'
    · have hu' := hp.resolve_left hp0
      have hes := (flat_getp (hu hu') hg).resolve_left hp0
      unfold rowR
      rw [show (l, b + 0) = (l, b) from rfl]
      cases hgp : G' (l, b) p with
      | none => exact hes
      | some bc => exact absurd (hG1 p bc.1 bc.2 hgp).1 hp0
  · rw [(one hj).1, (one hj').1]
  · have := (one hj).2
    cases this
  · refine ⟨⟨_, _, rfl, hc⟩, k, es, u, es.length, 0, by simp [addS, sset], Nat.le_refl _, fun _ => ⟨es, k, _, c, rfl, fun _ => rfl, hk, rfl, hc, fun m hm => by simp at hm, fun _ _ => by rw [hG0]; simp [capOf], .inr (.inr ⟨w.heap.size, c, hG0, by simp, by simp⟩)⟩⟩

theorem totr_vr {x : IV} {v : Value} {t : Tr} {q : Bool} (h : VR G S w x v) (ht : totr x = some (t, q)) : Rds w (Av G S w) v t ∧ (q = true → flatT t) := by
  unfold totr at ht
  split at ht <;> simp at ht
  · obtain ⟨rfl, rfl⟩ := ht; exact ⟨h, fun _ => trivial⟩
  · obtain ⟨rfl, rfl⟩ := ht; exact ⟨h, fun h => by cases h⟩
  · obtain ⟨rfl, rfl⟩ := ht; exact ⟨h.2, fun _ => rfl⟩
  · obtain ⟨rfl, rfl⟩ := ht; exact ⟨h.2, fun h => by cases h⟩
theorem totrs_vr : ∀ {l : List IV} {vs : List Value} {ts : List Tr} {q : Bool}, VRs G S w l vs → totrs l = some (ts, q) →
    ts.length = vs.length ∧ (∀ (j : Nat) (t : Tr) (x : Value), ts[j]? = some t → vs[j]? = some x → Rds w (Av G S w) x t) ∧ (q = true → ∀ t ∈ ts, flatT t)
  | [], vs, ts, q, h, ht => by
    simp only [VRs] at h; subst h
    simp [totrs] at ht
    obtain ⟨rfl, rfl⟩ := ht
    simp
  | x :: r, vs, ts, q, h, ht => by
    simp only [VRs] at h
    obtain ⟨v, vr, rfl, h1, h2⟩ := h
    simp only [totrs] at ht
    split at ht <;> try contradiction
    rename_i t qa ts' qb ht1 ht2
    simp only [Option.some.injEq, Prod.mk.injEq] at ht
    obtain ⟨rfl, rfl⟩ := ht
    obtain ⟨r1, r2⟩ := totr_vr h1 ht1
    obtain ⟨s1, s2, s3⟩ := totrs_vr h2 ht2
    refine ⟨by simp [s1], fun j t' x' hj hx => ?_, fun hq t' ht' => ?_⟩
    · cases j with
      | zero => simp at hj hx; subst hj; subst hx; exact r1
      | succ j => simp at hj hx; exact s2 j t' x' hj hx
    · simp only [Bool.and_eq_true] at hq
      rcases List.mem_cons.1 ht' with rfl | h
      · exact r2 hq.1
      · exact s3 hq.2 t' h

theorem foldl_set_get : ∀ (xs : List Value) (k : Nat) (off : Nat) (cells : Array Value), off + k + xs.length ≤ cells.size →
    let r := (xs.zipIdx k).foldl (fun (cs : Array Value) (cj : Value × Nat) => cs.setIfInBounds (off + cj.2) cj.1) cells
    r.size = cells.size ∧ ∀ j, r[j]? = if off + k ≤ j ∧ j < off + k + xs.length then xs[j - (off + k)]? else cells[j]?
  | [], k, off, cells, _ => by simp; intro j h1 h2; omega
  | x :: r, k, off, cells, h => by
    have ih := foldl_set_get r (k + 1) off (cells.setIfInBounds (off + k) x) (by simp at h ⊢; omega)
    simp only [List.zipIdx_cons, List.foldl_cons]
    refine ⟨by rw [ih.1]; simp, fun j => ?_⟩
    rw [ih.2 j]
    simp only [List.length_cons] at h ⊢
    by_cases h1 : off + (k + 1) ≤ j ∧ j < off + (k + 1) + r.length
    · rw [if_pos h1, if_pos (by omega), show j - (off + k) = (j - (off + (k + 1))) + 1 from by omega]
      simp
    · rw [if_neg h1]
      by_cases h2 : j = off + k
      · subst h2
        rw [if_pos (by omega)]
        simp
        rw [Array.getElem?_setIfInBounds_self_of_lt (by omega)]
      · rw [if_neg (by omega), Array.getElem?_setIfInBounds_ne (by omega)]

theorem run_fills {k : Nat} : ∀ (ps : List (Nat × X)) (parts : List (Nat × Operand)) (es : Row) (u : Bool) (cells : Array Value) (Kf : Row → Bool → Prop), fills (xv st.env) k ps es u Kf →
    chkPartsS ps parts = true → Sim F G st a w → cells.size = es.length * k → UnR k es → RowT w (Av G st.sto w) cells k es → (u = true → FlatR es) →
    ∃ out es' u', Instr.fill (fun i => some (i * k, k)) cells (parts.map fun p => (p.1, a.eval p.2)) = some out ∧ Kf es' u' ∧ es'.length = es.length ∧ out.size = cells.size ∧ UnR k es' ∧ RowT w (Av G st.sto w) out k es' ∧ (u' = true → FlatR es')
  | [], [], es, u, cells, Kf, hK, _, _, _, hk, hr, hu => ⟨cells, es, u, rfl, hK, rfl, rfl, hk, hr, hu⟩
  | [], _ :: _, _, _, _, _, _, hc, _, _, _, _, _ => by simp [chkPartsS] at hc
  | _ :: _, [], _, _, _, _, _, hc, _, _, _, _, _ => by simp [chkPartsS] at hc
  | (i, x) :: r, (i', y) :: s, es, u, cells, Kf, hK, hc, hS, hsz, hk, hr, hu => by
    simp only [chkPartsS, Bool.and_eq_true, beq_iff_eq] at hc
    obtain ⟨⟨rfl, hx⟩, hc⟩ := hc
    simp only [fills] at hK
    split at hK <;> try contradiction
    rename_i lc hlc
    split at hK <;> try contradiction
    rename_i ts q hts
    obtain ⟨h1, h2, hK⟩ := hK
    obtain ⟨hvs, _⟩ := cellsOf_vr (hS.x hx) hlc
    obtain ⟨t1, t2, t3⟩ := totrs_vr hvs hts
    have hvl : (a.eval y).cells.size = k := by simpa [h1] using t1.symm
    have hbound : i * k + k ≤ cells.size := by
      rw [hsz]
      calc i * k + k = (i + 1) * k := by rw [Nat.add_mul, Nat.one_mul]
        _ ≤ es.length * k := Nat.mul_le_mul_right _ h2
    have hfs := foldl_set_get (a.eval y).cells.toList 0 (i * k) cells (by simpa [hvl] using hbound)
    simp only [Nat.add_zero] at hfs
    let cells' := ((a.eval y).cells.zipIdx.foldl (fun (cs : Array Value) (cj : Value × Nat) => cs.setIfInBounds (i * k + cj.2) cj.1) cells)
    have hfold : cells' = ((a.eval y).cells.toList.zipIdx.foldl (fun (cs : Array Value) (cj : Value × Nat) => cs.setIfInBounds (i * k + cj.2) cj.1) cells) := by
      simp only [cells', ← Array.foldl_toList, Array.toList_zipIdx]
    rw [← hfold] at hfs
    obtain ⟨out, es', u', f1, f2, f3, f4, f5, f6, f7⟩ := run_fills r s (es.set i ts) (u && q) cells' Kf hK hc hS (by rw [hfs.1, hsz]; simp)
      (fun e he => by
        rcases List.mem_or_eq_of_mem_set he with he | rfl
        · exact hk e he
        · exact h1)
      (fun i2 e f t he ht => by
        rw [List.getElem?_set] at he
        rw [hfs.2]
        split at he
        · rename_i hi
          subst hi
          cases he
          have hf : f < k := by have := (List.getElem?_eq_some_iff.1 ht).1; omega
          rw [if_pos (by simp [hvl]; omega), show i * k + f - i * k = f from by omega]
          have hx0 : ∃ x0, (a.eval y).cells.toList[f]? = some x0 := ⟨_, List.getElem?_eq_getElem (by simp [hvl]; exact hf)⟩
          obtain ⟨x0, hx0⟩ := hx0
          exact ⟨x0, hx0, t2 f t x0 ht hx0⟩
        · rename_i hi
          have hf : f < k := by have := (List.getElem?_eq_some_iff.1 ht).1; have := hk e (List.mem_of_getElem? he); omega
          rw [if_neg]
          · exact hr i2 e f t he ht
          · simp only [Array.length_toList, hvl]
            rintro ⟨g1, g2⟩
            rcases Nat.lt_or_gt_of_ne hi with h | h
            · have : (i + 1) * k ≤ i2 * k := Nat.mul_le_mul_right _ h
              rw [Nat.add_mul] at this; omega
            · have : (i2 + 1) * k ≤ i * k := Nat.mul_le_mul_right _ h
              rw [Nat.add_mul] at this; omega)
      (fun hq e he t ht => by
        simp only [Bool.and_eq_true] at hq
        rcases List.mem_or_eq_of_mem_set he with he | rfl
        · exact hu hq.1 e he t ht
        · exact t3 hq.2 t ht)
    refine ⟨out, es', u', ?_, f2, by simpa using f3, by rw [f4, hfs.1], f5, f6, f7⟩
    simp only [List.map_cons, Instr.fill]
    rw [if_neg (by simp only [hvl]; simp; omega)]
    exact f1
end ops
end Go.Fd

namespace Go.Fd

section ops
variable {P : Program} {F : Fr} {G G' : Gh} {S S' : Sto} {st : St} {a : Act} {w w' : World} {C : Contract} {K : Kind} {l b : Nat} {oper : Oper}

theorem szT_info {t : TypeId} {n : Nat} (h : szT P t = some n) : ∃ i, P.info? t = some i ∧ i.size = n := by
  unfold szT at h
  simpa [Option.map_eq_some_iff] using h
theorem zeroT_info {t : TypeId} {z : List Value} (h : zeroT P t z = true) : ∃ i v, P.info? t = some i ∧ i.zero = some v ∧ v.cells.toList = z ∧ (∀ x ∈ z, scal x = true ∨ x = .slice none 0 0) := by
  unfold zeroT at h
  split at h
  · rename_i v hv
    obtain ⟨h1, h2⟩ := eqVs_eq h
    simp only [Option.bind_eq_some_iff] at hv
    obtain ⟨i, hi, hz⟩ := hv
    exact ⟨i, v, hi, hz, h1.symm, h2⟩
  · cases h

theorem ev_bs (h : Sim F G st a w) {k n : Nat} {z : List Value} {ps : List (Nat × X)} (hfr : ∀ mk obs, K mk obs → Fresh st.sto l b (obs l b).length) (hc : chkO P (.bs k n z ps) oper.op = true)
    (he : ev C (xv st.env) st.sto K (.bs k n z ps)) : EvOk P G st a w K l b oper := by
  simp only [chkO] at hc
  split at hc <;> try contradiction
  rename_i t len parts ho
  simp only [Bool.and_eq_true, chkSlice] at hc
  obtain ⟨hcs, hcp⟩ := hc
  split at hcs <;> try contradiction
  rename_i e hel
  simp only [Bool.and_eq_true, beq_iff_eq, decide_eq_true_eq, Bool.or_eq_true] at hcs
  obtain ⟨⟨⟨hsz, rfl⟩, hsm⟩, hz⟩ := hcs
  have hu := elemT_eq hel
  obtain ⟨ie, hie, hks⟩ := szT_info hsz
  simp only [ev] at he
  have hr0 : ∀ f : Nat → Value, Array.map f (Array.range 0) = #[] := fun f => by simp [Array.range_zero']
  have hz' : n ≠ 0 → zeroT P e z = true ∧ z.length = k := fun hn => hz.resolve_left hn
  have hrun : ∃ cells : Array Value, cells.size = n * k ∧ (∀ out, Instr.fill (fun i => some (i * k, k)) cells (parts.toList.map fun p => (p.1, a.eval p.2)) = some out →
      (execOp a.eval oper).run P w = .ok (.value (.slice (some ⟨w.heap.size, 0, none⟩) n n)) (w.alloc (.cells out e))) ∧ (n ≠ 0 → ∀ j, j < n * k → cells[j]? = z[j % k]?) := by
    subst hks
    by_cases h0 : n * ie.size = 0
    · refine ⟨#[], by simp [h0], fun out hf => ?_, fun _ j hj => by omega⟩
      simp [execOp, ho, Instr.buildSlice, run_underlying hu, Go.sizeOf, typeInfo, hie, h0, newRow, hr0, hf]
    · have hn : n ≠ 0 := fun e => h0 (by simp [e])
      obtain ⟨hzt, hzl⟩ := hz' hn
      obtain ⟨i2, zv, hi2, hzv, hzc, _⟩ := zeroT_info hzt
      rw [hie] at hi2; cases hi2
      have hzs : zv.cells.size = ie.size := by rw [← hzl, ← hzc]; simp
      have hkp : 0 < ie.size := Nat.pos_of_ne_zero (fun hk0 => h0 (by simp [hk0]))
      refine ⟨(Array.range (n * ie.size)).map (zv.cells[· % zv.cells.size]!), by simp, fun out hf => ?_, fun _ j hj => ?_⟩
      · have hsm' : ¬ n * ie.size > 2 ^ 24 := by omega
        have := run_buildSlice (P := P) w t e n (parts.map fun (i, x) => (i, a.eval x)) out ie zv hu hie hzv hsm' h0 (by rw [Array.toList_map]; exact hf)
        simp [execOp, ho, this]
      · have hlt : j % ie.size < zv.cells.size := by rw [hzs]; exact Nat.mod_lt _ hkp
        rw [Array.getElem?_map]
        simp [hj, hzs, ← hzc]
        rw [getElem!_pos zv.cells (j % ie.size) hlt, Array.getElem?_eq_getElem hlt]
  obtain ⟨cells, hcsz, hrun, hcz⟩ := hrun
  have hUn : UnR k (List.replicate n (z.map trv)) := fun e he => by
    obtain ⟨hn, rfl⟩ := List.mem_replicate.1 he
    simpa using (hz' hn).2
  have hzs : n ≠ 0 → ∀ x ∈ z, scal x = true ∨ x = .slice none 0 0 := fun hn => by
    obtain ⟨_, _, _, _, _, h5⟩ := zeroT_info (hz' hn).1
    exact h5
  have htrv : ∀ x : Value, (scal x = true ∨ x = .slice none 0 0) → Rds w (Av G st.sto w) x (trv x) ∧ flatT (trv x) := fun x hx => by
    rcases hx with hx | rfl
    · have : trv x = .v x := by cases x <;> first | rfl | simp [scal] at hx
      rw [this]; exact ⟨.v x hx, trivial⟩
    · exact ⟨.nil none 0, rfl⟩
  obtain ⟨out, es', u', f1, f2, f3, f4, f5, f6, f7⟩ := run_fills ps parts.toList (List.replicate n (z.map trv)) true cells _ he hcp h (by simpa using hcsz) hUn
    (fun i e f t hi hf => by
      obtain ⟨hn, hi'⟩ : i < n ∧ e = z.map trv := by
        rw [List.getElem?_replicate] at hi
        split at hi <;> simp_all
      subst hi'
      have hn0 : n ≠ 0 := by omega
      rw [List.getElem?_map, Option.map_eq_some_iff] at hf
      obtain ⟨x, hx, rfl⟩ := hf
      have hfk : f < k := by have := (List.getElem?_eq_some_iff.1 hx).1; rw [(hz' hn0).2] at this; exact this
      refine ⟨x, ?_, (htrv x (hzs hn0 x (List.mem_of_getElem? hx))).1⟩
      have hlt : i * k + f < n * k := by
        calc i * k + f < i * k + k := by omega
          _ = (i + 1) * k := by rw [Nat.add_mul, Nat.one_mul]
          _ ≤ n * k := Nat.mul_le_mul_right _ hn
      rw [hcz hn0 _ hlt, Nat.add_comm, Nat.add_mul_mod_self_right, Nat.mod_eq_of_lt hfk]
      exact hx)
    (fun _ e he t ht => by
      obtain ⟨hn, rfl⟩ := List.mem_replicate.1 he
      simp only [List.mem_map] at ht
      obtain ⟨x, hx, rfl⟩ := ht
      exact (htrv x (hzs hn x hx)).2)
  have hlen : es'.length = n := by simpa using f3
  refine Res.of_run (hrun out f1) ⟨_, _, f2, ?_⟩
  have := Got.row (l := l) (b := b) (u := u') h.ok (hfr _ _ f2 0 (by simp)) (Ext.alloc w (.cells out e)) (heap_alloc_new w _) (by rw [f4, hcsz]) (by omega) f5 f6 f7
  rw [hlen] at this
  exact this

theorem chkParts_spec {fields : Array Field} : ∀ {ps : List (Nat × Nat × X)} {parts : List (Nat × Operand)}, chkParts P fields ps parts = true →
    ps.length = parts.length ∧ ∀ (j off n : Nat) (x : X), ps[j]? = some (off, n, x) → ∃ i y fd, parts[j]? = some (i, y) ∧ fields[i]? = some fd ∧ fd.offset = off ∧ szT P fd.type = some n ∧ chkX x y = true
  | [], [], _ => ⟨rfl, fun j off n x h => by simp at h⟩
  | [], _ :: _, h => by simp [chkParts] at h
  | _ :: _, [], h => by simp [chkParts] at h
  | (off, n, x) :: r, (i, y) :: s, h => by
    simp only [chkParts, Bool.and_eq_true] at h
    obtain ⟨⟨h1, h2⟩, h3⟩ := h
    obtain ⟨h4, h5⟩ := chkParts_spec h3
    refine ⟨by simp [h4], fun j off' n' x' hj => ?_⟩
    cases j with
    | zero =>
      simp at hj
      obtain ⟨rfl, rfl, rfl⟩ := hj
      split at h1 <;> try contradiction
      rename_i fd hfd
      simp only [Bool.and_eq_true, beq_iff_eq] at h1
      exact ⟨i, y, fd, rfl, hfd, h1.1, h1.2, h2⟩
    | succ j => exact h5 j off' n' x' (by simpa using hj)
theorem chkPartsA_spec {k : Nat} : ∀ {ps : List (Nat × Nat × X)} {parts : List (Nat × Operand)}, chkPartsA k ps parts = true →
    ps.length = parts.length ∧ ∀ (j off n : Nat) (x : X), ps[j]? = some (off, n, x) → ∃ i y, parts[j]? = some (i, y) ∧ off = i * k ∧ n = k ∧ chkX x y = true
  | [], [], _ => ⟨rfl, fun j off n x h => by simp at h⟩
  | [], _ :: _, h => by simp [chkPartsA] at h
  | _ :: _, [], h => by simp [chkPartsA] at h
  | (off, n, x) :: r, (i, y) :: s, h => by
    simp only [chkPartsA, Bool.and_eq_true, beq_iff_eq] at h
    obtain ⟨⟨⟨h0, h1⟩, h2⟩, h3⟩ := h
    obtain ⟨h4, h5⟩ := chkPartsA_spec h3
    refine ⟨by simp [h4], fun j off' n' x' hj => ?_⟩
    cases j with
    | zero =>
      simp at hj
      obtain ⟨rfl, rfl, rfl⟩ := hj
      exact ⟨i, y, rfl, h0, h1, h2⟩
    | succ j => exact h5 j off' n' x' (by simpa using hj)

theorem mapM_places : ∀ (fs : List Field), (∀ f ∈ fs, (P.info? f.type).isSome = true) → ∃ places, fs.mapM (fun f => (P.info? f.type).map fun i => (f.offset, i.size)) = some places ∧
    ∀ (i : Nat) (f : Field) (n : Nat), fs[i]? = some f → szT P f.type = some n → places[i]? = some (f.offset, n)
  | [], _ => ⟨[], rfl, fun i f n h => by simp at h⟩
  | f :: fs, h => by
    obtain ⟨ps, h1, h2⟩ := mapM_places fs fun g hg => h g (by simp [hg])
    obtain ⟨i0, hi0⟩ := Option.isSome_iff_exists.1 (h f (by simp))
    refine ⟨(f.offset, i0.size) :: ps, by simp [List.mapM_cons, hi0, h1], fun i g n hi hn => ?_⟩
    cases i with
    | zero =>
      simp at hi; subst hi
      obtain ⟨i1, hi1, rfl⟩ := szT_info hn
      rw [hi0] at hi1; cases hi1
      rfl
    | succ i => simp at hi; simpa using h2 i g n hi hn

theorem ev_bd (h : Sim F G st a w) {z : List Value} {ps : List (Nat × Nat × X)} {nz : List (Nat × Nat)} (hfr : ∀ mk obs, K mk obs → Fresh st.sto l b (obs l b).length) (hc : chkO P (.bd z ps nz) oper.op = true)
    (he : ev C (xv st.env) st.sto K (.bd z ps nz)) : EvOk P G st a w K l b oper := by
  simp only [chkO] at hc
  split at hc <;> try contradiction
  rename_i t parts ho
  simp only [Bool.and_eq_true] at hc
  obtain ⟨⟨hz, hnz⟩, hc⟩ := hc
  obtain ⟨it, zv, hit, hzv, hzc, hz3⟩ := zeroT_info hz
  have hnz := chkNz_spec hnz
  simp only [ev] at he
  obtain ⟨hok, he⟩ := he
  have hfr := hfr _ _ he
  have hlen : (zobs nz).length = nz.length := by simp [zobs]
  -- the store with the new objects
  let G' : Gh := fun i => if i.1 = l ∧ b ≤ i.2 ∧ i.2 < b + nz.length then fun _ => none else G i
  have hGj : ∀ j k, nz[j]? = some k → G' (l, b + j) = fun _ => none := fun j k hj => by
    have := (List.getElem?_eq_some_iff.1 hj).1
    simp only [G']
    rw [if_pos (by refine ⟨?_, ?_, ?_⟩ <;> (simp; try omega))]
  have hG : ∀ i ob, st.sto i = some ob → G' i = G i := fun i ob hs => by
    simp only [G']
    rw [if_neg]
    rintro ⟨h1, h2, h3⟩
    have := ne_fresh (j := i.2 - b) (hfr (i.2 - b) (by simp [hlen]; omega)) hs
    apply this
    rw [show b + (i.2 - b) = i.2 from by omega, ← h1]
  have hnew : ∀ j ob, (zobs nz)[j]? = some ob → ∀ blk, ¬ own1 G' (l, b + j) ob blk := fun j ob hj blk ho => by
    obtain ⟨k, hk, rfl⟩ := zobs_get hj
    exact own1_empty (by rw [hGj j k hk]) ho
  have hS := addS_old (zobs nz) st.sto l b hfr
  have hvrs : ∀ y u, VRs G st.sto w y u → VRs G' (addS st.sto l b (zobs nz)) w y u := fun y u hv => grow_vrs (Ext.refl w) hG (fun i ob hs hi blk ho => by
    rcases addS_new (zobs nz) st.sto l b i ob hs with h1 | ⟨j, _, rfl, h2⟩
    · rw [hi] at h1; cases h1
    · exact absurd ho (hnew j ob h2 blk)) hS y u hv
  have hvr : ∀ y u, VR G st.sto w y u → VR G' (addS st.sto l b (zobs nz)) w y u := fun y u hv => by
    have := hvrs [y] [u] ⟨u, [], rfl, hv, rfl⟩
    simp only [VRs] at this
    obtain ⟨_, _, heq, h1, _⟩ := this
    cases heq; exact h1
  have hcs : VRs G' (addS st.sto l b (zobs nz)) w (zfill l b nz (z.map kc)) zv.cells.toList := by
    rw [hzc]
    exact zfill_vr nz l b _ _ (VRs_kc hz3) hnz fun j k hk => ⟨addS_at (zobs nz) st.sto l b j _ (by simp [zobs, hk]), by rw [hGj j k hk]⟩
  have hsize : zv.cells.size = z.length := by rw [← hzc]; simp
  have hrun : ∃ out, (execOp a.eval oper).run P w = .ok (.value (.agg out)) w ∧ VRs G' (addS st.sto l b (zobs nz)) w (fpart (xv st.env) ps (zfill l b nz (z.map kc))) out.toList := by
    split at hc <;> try contradiction
    · rename_i fields hu
      simp only [Bool.and_eq_true] at hc
      obtain ⟨hp, hall⟩ := hc
      obtain ⟨hl1, hsp⟩ := chkParts_spec hp
      obtain ⟨places, hm, hpl⟩ := mapM_places (P := P) fields.toList fun f hf => List.all_eq_true.1 hall f hf
      obtain ⟨out, ho1, ho2, ho3⟩ := run_fill (a := a) (place := fun i => places.toArray[i]?) ps parts.toList _ zv.cells hcs (by rw [hsize]; exact hok) hl1 fun j off n x hj => by
        obtain ⟨i, y, fd, g1, g2, g3, g4, g5⟩ := hsp j off n x hj
        refine ⟨i, y, g1, ?_, hvr _ _ (h.x g5)⟩
        have := hpl i fd n (by simpa using g2) g4
        rw [g3] at this
        simpa using this
      refine ⟨out, ?_, ho3⟩
      have hb : P.built t (parts.map fun (i, x) => (i, a.eval x)).toList = some out := by
        unfold Program.built
        simp only [hit, hu, hzv, hm]
        rw [Array.toList_map]
        exact ho1
      simp [execOp, ho, run_build w t _ out hb]
    · rename_i n e hu
      split at hc <;> try contradiction
      rename_i k hk
      obtain ⟨ie, hie, rfl⟩ := szT_info hk
      obtain ⟨hl1, hsp⟩ := chkPartsA_spec hc
      obtain ⟨out, ho1, ho2, ho3⟩ := run_fill (a := a) (place := fun i => some (i * ie.size, ie.size)) ps parts.toList _ zv.cells hcs (by rw [hsize]; exact hok) hl1 fun j off n x hj => by
        obtain ⟨i, y, g1, rfl, rfl, g5⟩ := hsp j off n x hj
        exact ⟨i, y, g1, rfl, hvr _ _ (h.x g5)⟩
      refine ⟨out, ?_, ho3⟩
      have hb : P.built t (parts.map fun (i, x) => (i, a.eval x)).toList = some out := by
        unfold Program.built
        simp only [hit, hu, hzv, hie]
        rw [Array.toList_map]
        exact ho1
      simp [execOp, ho, run_build w t _ out hb]
  obtain ⟨out, hrun, hout⟩ := hrun
  refine Res.of_run hrun ⟨_, _, he, ?_⟩
  refine Got.mk (G' := G') h.ok hfr (Ext.refl w) hG (fun j ob hj blk ho => absurd ho (hnew j ob hj blk)) (fun _ j ob hj => ?_) (fun j ob j' ob' blk hj _ ho _ => absurd ho (hnew j ob hj blk)) (fun j cells hj => ?_) (fun _ => ⟨out.toList, by simp, hout⟩)
  · obtain ⟨k, hk, rfl⟩ := zobs_get hj
    exact OOk_empty (by rw [hGj j k hk])
  · obtain ⟨k, hk, h1⟩ := zobs_get hj
    cases h1

theorem ev_ms (h : Sim F G st a w) {k : Nat} {z : List Value} {x : X} (hfr : ∀ mk obs, K mk obs → Fresh st.sto l b (obs l b).length) (hc : chkO P (.ms k z x) oper.op = true)
    (he : ev C (xv st.env) st.sto K (.ms k z x)) : EvOk P G st a w K l b oper := by
  simp only [chkO] at hc
  split at hc <;> try contradiction
  rename_i t y c ho
  simp only [Bool.and_eq_true] at hc
  obtain ⟨⟨h1, h2⟩, hc⟩ := hc
  split at hc <;> try contradiction
  rename_i e hel
  simp only [Bool.and_eq_true, beq_iff_eq, decide_eq_true_eq] at hc
  obtain ⟨⟨⟨hsz, hz⟩, hzl⟩, hby⟩ := hc
  have hu := elemT_eq hel
  obtain ⟨i, zv, hi, hzv, hzc, hz3⟩ := zeroT_info hz
  obtain ⟨i2, hi2, hks⟩ := szT_info hsz
  rw [hi] at hi2; cases hi2
  have hbytes : i.bytes ≤ 1024 := by simpa [Program.bytesOf, hi] using hby
  simp only [ev] at he
  split at he <;> try contradiction
  rename_i n hq
  have hx1 := h.x h1
  have hx2 := h.x h2
  rw [hq] at hx1 hx2
  obtain ⟨hx1, _⟩ := hx1.val
  obtain ⟨hx2, _⟩ := hx2.val
  obtain ⟨h0, hn, he⟩ := he
  simp only [bigN] at hn
  have hb : (i.bytes : Int) * n ≤ 281474976710656 := by
    calc (i.bytes : Int) * n ≤ 1024 * n := Int.mul_le_mul_of_nonneg_right (by omega) h0
      _ ≤ 281474976710656 := by omega
  have hr := run_make (P := P) w t e i zv hu hi hzv .i64 .i64 n n h0 (Int.le_refl _) hb (by omega)
  have hzs : zv.cells.size = k := by rw [← hzl, ← hzc]; simp
  have hlen : (List.replicate n.toNat (z.map trv)).length = n.toNat := by simp
  refine Res.of_run (v := .slice (some ⟨w.heap.size, 0, none⟩) n.toNat n.toNat) (w' := w.alloc (.cells (madeCells zv.cells (n.toNat * i.size)) e)) (by simp [execOp, ho, hx1, hx2, hr]) ⟨_, _, he, ?_⟩
  have htrv : ∀ x ∈ z, Rds w (Av G st.sto w) x (trv x) ∧ flatT (trv x) := fun x hx => by
    rcases hz3 x hx with hx | rfl
    · have : trv x = .v x := by cases x <;> first | rfl | simp [scal] at hx
      rw [this]; exact ⟨.v x hx, trivial⟩
    · exact ⟨.nil none 0, rfl⟩
  have := Got.row (l := l) (b := b) (k := k) (c := n.toNat) (es := List.replicate n.toNat (z.map trv)) (u := true) (vs := madeCells zv.cells (n.toNat * i.size)) (ty := e) h.ok (hfr _ _ he 0 (by simp)) (Ext.alloc w _) (heap_alloc_new w _) (by rw [size_madeCells, hks]) (by simp)
    (fun e he => by obtain ⟨_, rfl⟩ := List.mem_replicate.1 he; simpa using hzl)
    (fun i' e f t hi' hf => by
      obtain ⟨hn', rfl⟩ : i' < n.toNat ∧ e = z.map trv := by
        rw [List.getElem?_replicate] at hi'
        split at hi' <;> simp_all
      rw [List.getElem?_map, Option.map_eq_some_iff] at hf
      obtain ⟨x, hx, rfl⟩ := hf
      have hfk : f < k := by have := (List.getElem?_eq_some_iff.1 hx).1; omega
      refine ⟨x, ?_, (htrv x (List.mem_of_getElem? hx)).1⟩
      have hlt : i' * k + f < n.toNat * k := by
        calc i' * k + f < i' * k + k := by omega
          _ = (i' + 1) * k := by rw [Nat.add_mul, Nat.one_mul]
          _ ≤ n.toNat * k := Nat.mul_le_mul_right _ hn'
      have hmod : (i' * k + f) % k = f := by rw [Nat.add_comm, Nat.add_mul_mod_self_right, Nat.mod_eq_of_lt hfk]
      unfold madeCells
      rw [Array.getElem?_map, hks]
      rw [← hzc] at hx
      have hxf : zv.cells[f]? = some x := by simpa using hx
      have hlt2 : f < zv.cells.size := by omega
      simp [hlt, hzs, hmod]
      rw [getElem!_pos zv.cells f hlt2]
      rw [Array.getElem?_eq_getElem hlt2] at hxf
      exact Option.some.inj hxf)
    (fun _ e he t ht => by
      obtain ⟨_, rfl⟩ := List.mem_replicate.1 he
      simp only [List.mem_map] at ht
      obtain ⟨x, hx, rfl⟩ := ht
      exact (htrv x hx).2)
  rw [hlen] at this
  exact this
end ops
end Go.Fd

namespace Go.Fd

section ops
variable {P : Program} {F : Fr} {G G' : Gh} {S S' : Sto} {st : St} {a : Act} {w w' : World} {C : Contract} {K : Kind} {l b : Nat} {oper : Oper}

theorem bndI_spec (h : Sim F G st a w) {x : Option X} {y : Option Operand} {n : Nat} {Kb : Nat → Prop} (hc : chkXo x y = true) (hb : bndI (xv st.env) x n Kb) :
    ∃ m, Kb m ∧ ((x = none ∧ y = none ∧ m = n) ∨ ∃ o, y = some o ∧ x.isSome = true ∧ ∃ k, a.eval o = .int k m) := by
  unfold chkXo at hc
  split at hc
  · exact ⟨n, hb, .inl ⟨rfl, rfl, rfl⟩⟩
  · rename_i x o
    simp only [bndI] at hb
    split at hb <;> try contradiction
    rename_i k q hq
    have hx := h.x hc
    rw [hq] at hx
    obtain ⟨hx, _⟩ := hx.val
    refine ⟨q.toNat, hb.2, .inr ⟨o, rfl, rfl, k, ?_⟩⟩
    rw [hx, Int.toNat_of_nonneg hb.1]
  · cases hc

theorem run_sliceBound (k : IntKind) (m y : Nat) (code : BoundsCode) (h : m ≤ y) : (Instr.sliceBound (.int k m) y code).run P w = .ok m w := by
  have h1 : (m : Int) ≤ y := by omega
  simp [Instr.sliceBound, asIntOf, h1]

theorem run_bounds {isS : Bool} {lo hi mx : Option Value} {len cap A B M : Nat} (hlo : (lo = none ∧ A = 0) ∨ ∃ k, lo = some (.int k A)) (hhi : (hi = none ∧ B = len ∧ mx = none) ∨ ∃ k, hi = some (.int k B))
    (hmx : (mx = none ∧ M = cap) ∨ ∃ k, mx = some (.int k M)) (h1 : A ≤ B) (h2 : B ≤ M) (h3 : M ≤ cap) : (Instr.sliceBounds isS len cap lo hi mx).run P w = .ok (A, B, M) w := by
  unfold Instr.sliceBounds
  rcases hmx with ⟨rfl, rfl⟩ | ⟨km, rfl⟩
  · rcases hhi with ⟨rfl, rfl, _⟩ | ⟨kh, rfl⟩
    · rcases hlo with ⟨rfl, rfl⟩ | ⟨kl, rfl⟩
      · simp
      · simp [run_sliceBound kl A B _ h1]
    · rcases hlo with ⟨rfl, rfl⟩ | ⟨kl, rfl⟩
      · simp [run_sliceBound kh B M _ h2]
      · simp [run_sliceBound kh B M _ h2, run_sliceBound kl A B _ h1]
  · rcases hhi with ⟨_, _, h⟩ | ⟨kh, rfl⟩
    · cases h
    · rcases hlo with ⟨rfl, rfl⟩ | ⟨kl, rfl⟩
      · simp [run_sliceBound km M cap _ h3, run_sliceBound kh B M _ h2]
      · simp [run_sliceBound km M cap _ h3, run_sliceBound kh B M _ h2, run_sliceBound kl A B _ h1]

theorem cut_get {es : Row} {A n i : Nat} : (cut es A n)[i]? = if i < n then es[A + i]? else none := by
  unfold cut
  rw [List.getElem?_take]
  split
  · rw [List.getElem?_drop]
  · rfl
theorem cut_length {es : Row} {A n : Nat} (h : A + n ≤ es.length) : (cut es A n).length = n := by
  unfold cut
  simp
  omega
theorem mem_cut {es : Row} {A n : Nat} {e : List Tr} (h : e ∈ cut es A n) : e ∈ es := List.mem_of_mem_drop (List.mem_of_mem_take h)

theorem Rds.cut {A : Nat → Prop} {ad : Option Addr} {len c k X B M : Nat} {es : Row} (h : Rds w A (.slice ad len c) (.sl es)) (h1 : X ≤ B) (h2 : B ≤ es.length) (h3 : B ≤ M) (hk : X = 0 ∨ UnR k es) :
    Rds w A (.slice (if M = X then ad else ad.map (·.add (X * k))) (B - X) (M - X)) (.sl (Fd.cut es X (B - X))) := by
  generalize ht : Tr.sl es = t at h
  generalize hv : Value.slice ad len c = v at h
  by_cases h0 : B - X = 0
  · rw [h0]
    have : Fd.cut es X 0 = [] := by simp [Fd.cut]
    rw [this]
    exact .nil _ _
  · have hM : ¬ M = X := by omega
    rw [if_neg hM]
    cases h with
    | v x h => cases ht
    | nil a c => cases ht; simp at h2; omega
    | sl b o c k' es' f hA hk' hl hc hr =>
      cases ht
      cases hv
      have hoff : X * k = X * k' := by
        rcases hk with rfl | hk
        · simp
        · have hlt : X < es.length := by omega
          have hm := List.mem_of_getElem? (List.getElem?_eq_getElem hlt)
          rw [← hk _ hm, hk' _ hm]
      have hcl : (Fd.cut es X (B - X)).length = B - X := cut_length (by omega)
      have := Rds.sl (w := w) (A := A) b (o + X * k') (M - X) k' (Fd.cut es X (B - X)) (fun i j => f (X + i) j) hA (fun e he => hk' e (mem_cut he)) (by omega)
        (fun i e j t he ht => by
          rw [cut_get] at he
          split at he <;> try contradiction
          have := hc (X + i) e j t he ht
          rwa [show o + X * k' + i * k' + j = o + (X + i) * k' + j from by rw [Nat.add_mul]; omega])
        (fun i e j t he ht => by
          rw [cut_get] at he
          split at he <;> try contradiction
          exact hr (X + i) e j t he ht)
      rw [hcl] at this
      simpa [add_mk, hoff] using this

theorem ev_sx (h : Sim F G st a w) {k : Nat} {x : X} {lo hi mx : Option X} (hc : chkO P (.sx k x lo hi mx) oper.op = true) (he : ev C (xv st.env) st.sto K (.sx k x lo hi mx)) : EvOk P G st a w K l b oper := by
  simp only [chkO] at hc
  split at hc <;> try contradiction
  rename_i t y l0 h0 m0 ho
  simp only [Bool.and_eq_true, Bool.or_eq_true] at hc
  obtain ⟨⟨⟨⟨⟨hx, c1⟩, c2⟩, c3⟩, c4⟩, hc⟩ := hc
  split at hc <;> try contradiction
  rename_i e0 hel
  have hu := elemT_eq hel
  have hsz : szT P e0 = some k := by simpa using hc
  have hx := h.x hx
  -- the run, once the bounds are known
  have key : ∀ {ad : Option Addr} {len cap A B M : Nat}, a.eval y = .slice ad len cap → ((lo = none ∧ l0 = none ∧ A = 0) ∨ ∃ o, l0 = some o ∧ lo.isSome = true ∧ ∃ kk, a.eval o = .int kk A) →
      ((hi = none ∧ h0 = none ∧ B = len) ∨ ∃ o, h0 = some o ∧ hi.isSome = true ∧ ∃ kk, a.eval o = .int kk B) →
      ((mx = none ∧ m0 = none ∧ M = cap) ∨ ∃ o, m0 = some o ∧ mx.isSome = true ∧ ∃ kk, a.eval o = .int kk M) → A ≤ B → B ≤ M → M ≤ cap →
      (execOp a.eval oper).run P w = .ok (.value (.slice (if M = A then ad else ad.map (·.add (A * k))) (B - A) (M - A))) w := fun {ad len cap A B M} hv q1 q2 q3 g1 g2 g3 => by
    have hb := run_bounds (P := P) (w := w) (isS := true) (lo := l0.map a.eval) (hi := h0.map a.eval) (mx := m0.map a.eval) (len := len) (cap := cap) (A := A) (B := B) (M := M)
      (by rcases q1 with ⟨_, rfl, rfl⟩ | ⟨o, rfl, _, kk, hh⟩; exact .inl ⟨rfl, rfl⟩; exact .inr ⟨kk, by simp [hh]⟩)
      (by
        rcases q2 with ⟨rfl, rfl, rfl⟩ | ⟨o, rfl, _, kk, hh⟩
        · rcases q3 with ⟨_, rfl, _⟩ | ⟨o, _, hm, _⟩
          · exact .inl ⟨rfl, rfl, rfl⟩
          · rcases c4 with c4 | c4
            · cases mx <;> simp at hm c4
            · simp at c4
        · exact .inr ⟨kk, by simp [hh]⟩)
      (by rcases q3 with ⟨_, rfl, rfl⟩ | ⟨o, rfl, _, kk, hh⟩; exact .inl ⟨rfl, rfl⟩; exact .inr ⟨kk, by simp [hh]⟩) g1 g2 g3
    simp only [execOp, ho, Instr.sliceAt, Sem.run_bind, run_underlying hu, Result.andThen_ok, Instr.slice, hv, hb, run_szT hsz, Sem.run_pure]
  simp only [ev] at he
  split at he <;> try contradiction
  · rename_i es hq
    rw [hq] at hx
    obtain ⟨hun, he⟩ := he
    obtain ⟨A, he, q1⟩ := bndI_spec h c1 he
    obtain ⟨B, he, q2⟩ := bndI_spec h c2 he
    obtain ⟨g1, g2, he⟩ := he
    obtain ⟨M, he, q3⟩ := bndI_spec h c3 he
    obtain ⟨rfl, he⟩ := he
    have hv : ∃ ad c, a.eval y = .slice ad es.length c ∧ es.length ≤ c := by
      simp only [VR] at hx
      generalize a.eval y = v at hx
      generalize ht : Tr.sl es = t at hx
      cases hx with
      | v x h => cases ht
      | nil a c => cases ht; exact ⟨_, _, rfl, by simp⟩
      | sl b o c k es f hA hk hl hc hr => cases ht; exact ⟨_, _, rfl, hl⟩
    obtain ⟨ad, c, hv, hlc⟩ := hv
    have hx' : Rds w (Av G st.sto w) (.slice ad es.length c) (.sl es) := by rw [← hv]; exact hx
    have hk0 : A = 0 ∨ UnR k es := by
      rcases q1 with ⟨_, _, h0⟩ | ⟨_, _, hs, _⟩
      · exact .inl h0
      · exact .inr (hun hs)
    rcases q3 with ⟨rfl, hm, _⟩ | ⟨o, hm, hms, kk, hh⟩
    · have hr := Rds.cut (k := k) hx' g1 g2 (Nat.le_trans g2 hlc) hk0
      exact EvOk.pure h (key hv q1 q2 (.inl ⟨rfl, hm, rfl⟩) g1 (Nat.le_trans g2 hlc) (Nat.le_refl _)) (x := .tr (.sl _)) hr (by simpa using he)
    · have hr := Rds.cut (k := k) hx' g1 g2 (Nat.le_refl M) hk0
      have hcs : VR G st.sto w (.cs (cut es A (M - A))) (.slice (if M = A then ad else ad.map (·.add (A * k))) (M - A) (M - A)) := ⟨⟨_, by rw [cut_length (by omega)]⟩, hr⟩
      exact EvOk.pure h (key hv q1 q2 (.inr ⟨o, hm, hms, kk, hh⟩) g1 (Nat.le_refl _) (by omega)) hcs (by rw [hms] at he; simpa using he)
  · rename_i es hq
    rw [hq] at hx
    obtain ⟨hun, he⟩ := he
    obtain ⟨A, he, q1⟩ := bndI_spec h c1 he
    obtain ⟨B, he, q2⟩ := bndI_spec h c2 he
    obtain ⟨g1, g2, he⟩ := he
    obtain ⟨M, he, q3⟩ := bndI_spec h c3 he
    obtain ⟨rfl, he⟩ := he
    obtain ⟨⟨ad, hv⟩, hx⟩ := hx
    rw [hv] at hx
    have hk0 : A = 0 ∨ UnR k es := by
      rcases q1 with ⟨_, _, h0⟩ | ⟨_, _, hs, _⟩
      · exact .inl h0
      · exact .inr (hun hs)
    rcases q3 with ⟨rfl, hm, _⟩ | ⟨o, hm, hms, kk, hh⟩
    · have hr := Rds.cut (k := k) hx g1 g2 g2 hk0
      have hrun := key hv q1 q2 (.inl ⟨rfl, hm, rfl⟩) g1 g2 (Nat.le_refl _)
      rcases q2 with ⟨rfl, _, rfl⟩ | ⟨_, _, his, _⟩
      · have hcs : VR G st.sto w (.cs (cut es A (es.length - A))) (.slice (if es.length = A then ad else ad.map (·.add (A * k))) (es.length - A) (es.length - A)) := ⟨⟨_, by rw [cut_length (by omega)]⟩, hr⟩
        exact EvOk.pure h hrun hcs (by simpa using he)
      · refine EvOk.pure h hrun (x := .tr (.sl _)) hr ?_
        have : hi.isNone = false := by cases hi <;> simp_all
        simpa [this] using he
    · have hr := Rds.cut (k := k) hx g1 g2 (Nat.le_refl M) hk0
      have hcs : VR G st.sto w (.cs (cut es A (M - A))) (.slice (if M = A then ad else ad.map (·.add (A * k))) (M - A) (M - A)) := ⟨⟨_, by rw [cut_length (by omega)]⟩, hr⟩
      exact EvOk.pure h (key hv q1 q2 (.inr ⟨o, hm, hms, kk, hh⟩) g1 (Nat.le_refl _) (by omega)) hcs (by rw [hms] at he; simpa using he)
  · rename_i id p off len cap s hq
    rw [hq] at hx
    obtain ⟨A, he, q1⟩ := bndI_spec h c1 he
    obtain ⟨B, he, q2⟩ := bndI_spec h c2 he
    obtain ⟨g1, g2, he⟩ := he
    obtain ⟨M, he, q3⟩ := bndI_spec h c3 he
    obtain ⟨g3, g4, hwid, he⟩ := he
    obtain ⟨⟨ad, c, hv, hlc⟩, k2, es, u, hw, ver, hs, hbd, hrel⟩ := hx
    have hk : stamp p s hw ver u → ∀ es' k', getp es p = some es' → (p = [] → k' = k2) → UnR k' es' → k' = k := by
      intro hst es' k' hg hk2 hun
      unfold wid at hwid
      rw [hs] at hwid
      simp only at hwid
      split at hwid
      · rw [hk2 rfl]; exact hwid
      · obtain ⟨es3, hg3, hun3, hne⟩ := hwid
        rw [hg] at hg3; cases hg3
        obtain ⟨e, he⟩ := List.exists_mem_of_ne_nil _ hne
        rw [← hun e he, hun3 e he]
    -- what stands for the new slice
    have fin : ∀ (M' : Nat) (cap' : Option Nat), B ≤ M' → M' ≤ c → (stamp p s hw ver u → ∀ m, cap' = some m → M' - A = m) → (cap' = none → cap = none ∧ M' = c) →
        VR G st.sto w (.hd id p (off + A) (B - A) cap' s) (.slice (if M' = A then ad else ad.map (·.add (A * k))) (B - A) (M' - A)) := fun M' cap' m1 m2 m3 m4 => by
      refine ⟨⟨_, _, rfl, by omega⟩, k2, es, u, hw, ver, hs, hbd, fun hst => ?_⟩
      obtain ⟨es', k', ad', c', hg, hkk, hun, hv', hl', hcap, hcap2, hor⟩ := hrel hst
      rw [hv] at hv'; cases hv'
      refine ⟨es', k', _, M' - A, hg, hkk, hun, rfl, by omega, fun m hm => m3 hst m hm, fun hn hp => ?_, ?_⟩
      · obtain ⟨e1, e2⟩ := m4 hn
        have := hcap2 e1 hp
        omega
      · by_cases hz : M' = A
        · exact .inl (by omega)
        · rw [if_neg hz]
          rcases hor with hc0 | ⟨hp, hl0⟩ | ⟨b1, c0, hG, rfl, hle⟩
          · omega
          · exact .inr (.inl ⟨hp, by omega⟩)
          · refine .inr (.inr ⟨b1, c0, hG, ?_, by omega⟩)
            have := hk hst es' k' hg hkk hun
            subst this
            simp [add_mk, Nat.add_mul]
    cases mx with
    | none =>
      rcases q3 with ⟨_, hm, rfl⟩ | ⟨o, _, hms, _⟩
      · exact EvOk.pure h (key hv q1 q2 (.inl ⟨rfl, hm, rfl⟩) g1 (by omega) (Nat.le_refl c)) (fin c (cap.map (· - A)) (by omega) (Nat.le_refl c) (fun hst m hm => by
            obtain ⟨_, _, _, c', _, _, _, hv', _, hcap, _⟩ := hrel hst
            rw [hv] at hv'; cases hv'
            cases cap with
            | none => simp at hm
            | some m0 =>
              simp at hm
              rw [hcap m0 rfl]
              exact hm) (fun hn => by cases cap <;> simp at hn ⊢)) (by simpa using he)
      · simp at hms
    | some mxx =>
      rcases q3 with ⟨hm, _, _⟩ | ⟨o, hm, hms, kk, hh⟩
      · cases hm
      · exact EvOk.pure h (key hv q1 q2 (.inr ⟨o, hm, hms, kk, hh⟩) g1 g3 (by omega)) (fin M (some (M - A)) g3 (by omega) (fun _ m hm => by simpa using hm) (fun hn => by cases hn)) (by simpa using he)

theorem ev_ss (h : Sim F G st a w) {x : X} {lo hi : Option X} (hc : chkO P (.ss x lo hi) oper.op = true) (he : ev C (xv st.env) st.sto K (.ss x lo hi)) : EvOk P G st a w K l b oper := by
  simp only [chkO] at hc
  split at hc <;> try contradiction
  rename_i t y l0 h0 m0 ho
  simp only [Bool.and_eq_true] at hc
  obtain ⟨⟨⟨⟨hx, c1⟩, c2⟩, c4⟩, hc⟩ := hc
  split at hc <;> try contradiction
  rename_i hu
  have hm0 : m0 = none := by simpa using c4
  subst hm0
  have hx := h.x hx
  simp only [ev] at he
  split at he <;> try contradiction
  rename_i s hq
  rw [hq] at hx
  obtain ⟨hx, _⟩ := hx.val
  obtain ⟨A, he, q1⟩ := bndI_spec h c1 he
  obtain ⟨B, he, q2⟩ := bndI_spec h c2 he
  obtain ⟨g1, g2, he⟩ := he
  have hb := run_bounds (P := P) (w := w) (isS := false) (lo := l0.map a.eval) (hi := h0.map a.eval) (mx := none) (len := s.size) (cap := s.size) (A := A) (B := B) (M := s.size)
      (by rcases q1 with ⟨_, rfl, rfl⟩ | ⟨o, rfl, _, kk, hh⟩; exact .inl ⟨rfl, rfl⟩; exact .inr ⟨kk, by simp [hh]⟩)
      (by rcases q2 with ⟨_, rfl, rfl⟩ | ⟨o, rfl, _, kk, hh⟩; exact .inl ⟨rfl, rfl, rfl⟩; exact .inr ⟨kk, by simp [hh]⟩) (.inl ⟨rfl, rfl⟩) g1 g2 (Nat.le_refl _)
  refine EvOk.pure h (v := .string (s.extract A B)) ?_ (VR.mk rfl) he
  simp [execOp, ho, Instr.sliceAt, run_underlying hu, Instr.slice, hx, hb]

theorem eqv_run {q : Nat} {x y : IV} {u v : Value} {t : TypeId} {Kb : Bool → Prop} (d : Nat) (hk : kindT P t q = true) (hx : VR G S w x u) (hy : VR G S w y v) (he : eqv q x y Kb) :
    ∃ r, (Op.equalIn (d + 1) t u v).run P w = .ok r w ∧ Kb r := by
  unfold eqv at he
  split at he <;> try contradiction
  · rename_i k a1 j b1
    obtain ⟨rfl, he⟩ := he
    obtain ⟨rfl, _⟩ := hx.val
    obtain ⟨rfl, _⟩ := hy.val
    unfold kindT at hk
    split at hk <;> try contradiction
    rename_i hq hu
    cases hq
    exact ⟨_, run_equalIn_int w d t k _ a1 b1 hu, he⟩
  · obtain ⟨rfl, _⟩ := hx.val
    obtain ⟨rfl, _⟩ := hy.val
    unfold kindT at hk
    split at hk <;> try contradiction
    rename_i hq hu
    exact ⟨_, run_equalIn_bool d _ _ hu, he⟩
  · rename_i a1 b1
    obtain ⟨rfl, _⟩ := hx.val
    obtain ⟨rfl, _⟩ := hy.val
    unfold kindT at hk
    split at hk <;> try contradiction
    rename_i hq hu
    refine ⟨decide (a1 = b1), ?_, he⟩
    have := bytes_eq a1 b1
    rw [← beq_toListBytes] at this
    simp only [Op.equalIn, Sem.run_bind, run_underlying hu, Result.andThen_ok, Sem.run_pure, this]
theorem kindT_one {t : TypeId} {q : Nat} (h : kindT P t q = true) : isAggT P t = some false := by
  unfold kindT at h
  split at h <;> try contradiction
  all_goals
    rename_i hu
    simp [isAggT, hu]

theorem eqv_ex {q : Nat} {x y : IV} {Kb : Bool → Prop} (h : eqv q x y Kb) : ∃ b, Kb b := by
  unfold eqv at h
  split at h <;> try contradiction
  · exact ⟨_, h.2⟩
  · exact ⟨_, h⟩
  · exact ⟨_, h⟩
theorem eqvs_ex : ∀ {qs : List Nat} {r s : List IV} {Kb : Bool → Prop}, eqvs qs r s Kb → ∃ b, Kb b := by
  intro qs
  induction qs with
  | nil => intro r s Kb h; cases r <;> cases s <;> simp only [eqvs] at h; exact ⟨_, h⟩
  | cons q qs ih =>
    intro r s Kb h
    cases r <;> cases s <;> simp only [eqvs] at h
    obtain ⟨b1, h⟩ := eqv_ex h
    obtain ⟨b2, h⟩ := ih h
    exact ⟨_, h⟩

theorem flat_run (d : Nat) {l m : List IV} {xs ys : List Value} (hl : VRs G S w l xs) (hm : VRs G S w m ys) : ∀ {qs : List Nat} {r s : List IV} {i : Nat} {fs : List Field} {Kb : Bool → Prop}, flatFields P i qs fs = true →
    l.drop i = r → m.drop i = s → eqvs qs r s Kb → ∃ b, (Op.eqFields (d + 1) xs.toArray ys.toArray fs).run P w = .ok b w ∧ Kb b := by
  intro qs
  induction qs with
  | nil =>
    intro r s i fs Kb hc h1 h2 he
    cases fs with
    | cons f fs => simp [flatFields] at hc
    | nil =>
      cases r <;> cases s <;> simp only [eqvs] at he
      exact ⟨true, by simp [Op.eqFields], he⟩
  | cons q qs ih =>
    intro r s i fs Kb hc h1 h2 he
    cases fs with
    | nil => simp [flatFields] at hc
    | cons f fs =>
      cases r <;> cases s <;> simp only [eqvs] at he
      rename_i x r y s
      simp only [flatFields, Bool.and_eq_true, beq_iff_eq, bne_iff_ne] at hc
      obtain ⟨⟨⟨ho, hn⟩, hk⟩, hc⟩ := hc
      have hx : l[i]? = some x := by
        have := congrArg List.head? h1
        simpa [List.head?_drop] using this
      have hy : m[i]? = some y := by
        have := congrArg List.head? h2
        simpa [List.head?_drop] using this
      obtain ⟨u, hu, hur⟩ := VRs_get hl i x hx
      obtain ⟨v, hv, hvr⟩ := VRs_get hm i y hy
      obtain ⟨b1, hb1, he⟩ := eqv_run (P := P) d hk hur hvr he
      have h1' : l.drop (i + 1) = r := by rw [← List.drop_drop, h1]; rfl
      have h2' : m.drop (i + 1) = s := by rw [← List.drop_drop, h2]; rfl
      have hpx : (part f.type xs.toArray f.offset).run P w = .ok u w := by simp [part, run_isAgg (kindT_one hk), ho, hu]
      have hpy : (part f.type ys.toArray f.offset).run P w = .ok v w := by simp [part, run_isAgg (kindT_one hk), ho, hv]
      simp only [Op.eqFields, if_pos hn, Sem.run_bind, hpx, hpy, hb1, Result.andThen_ok]
      cases b1
      · obtain ⟨b2, he⟩ := eqvs_ex he
        exact ⟨false, by simp, by simpa using he⟩
      · obtain ⟨b2, hb2, he⟩ := ih hc h1' h2' he
        exact ⟨b2, by simpa using hb2, by simpa using he⟩

theorem items_run (d : Nat) {l m : List IV} {xs ys : List Value} {e : TypeId} (hl : VRs G S w l xs) (hm : VRs G S w m ys) (hsz : P.cellsOf e = 1) : ∀ {qs : List Nat} {r s : List IV} {i n : Nat} {Kb : Bool → Prop}, (∀ q ∈ qs, kindT P e q = true) → qs.length = n →
    l.drop i = r → m.drop i = s → eqvs qs r s Kb → ∃ b, (Op.eqItems (d + 1) e (P.cellsOf e) xs.toArray ys.toArray (List.range' i n)).run P w = .ok b w ∧ Kb b := by
  intro qs
  induction qs with
  | nil =>
    intro r s i n Kb hc hn h1 h2 he
    simp at hn; subst hn
    cases r <;> cases s <;> simp only [eqvs] at he
    exact ⟨true, by simp [Op.eqItems], he⟩
  | cons q qs ih =>
    intro r s i n Kb hc hn h1 h2 he
    cases n with
    | zero => simp at hn
    | succ n =>
      cases r <;> cases s <;> simp only [eqvs] at he
      rename_i x r y s
      have hk := hc q (by simp)
      have hx : l[i]? = some x := by
        have := congrArg List.head? h1
        simpa [List.head?_drop] using this
      have hy : m[i]? = some y := by
        have := congrArg List.head? h2
        simpa [List.head?_drop] using this
      obtain ⟨u, hu, hur⟩ := VRs_get hl i x hx
      obtain ⟨v, hv, hvr⟩ := VRs_get hm i y hy
      obtain ⟨b1, hb1, he⟩ := eqv_run (P := P) d hk hur hvr he
      have h1' : l.drop (i + 1) = r := by rw [← List.drop_drop, h1]; rfl
      have h2' : m.drop (i + 1) = s := by rw [← List.drop_drop, h2]; rfl
      have hpx : (part e xs.toArray (i * P.cellsOf e)).run P w = .ok u w := by simp [part, run_isAgg (kindT_one hk), hsz, hu]
      have hpy : (part e ys.toArray (i * P.cellsOf e)).run P w = .ok v w := by simp [part, run_isAgg (kindT_one hk), hsz, hv]
      rw [List.range'_succ]
      simp only [Op.eqItems, Sem.run_bind, hpx, hpy, hb1, Result.andThen_ok]
      cases b1
      · obtain ⟨b2, he⟩ := eqvs_ex he
        exact ⟨false, by simp, by simpa using he⟩
      · obtain ⟨b2, hb2, he⟩ := ih (fun q' hq => hc q' (by simp [hq])) (by simpa using hn) h1' h2' he
        exact ⟨b2, by simpa using hb2, by simpa using he⟩

theorem run_eqGuard_agg {op : BinOp} {t : TypeId} {x y : Operand} {xs ys : Array Value} (h : P.eqGuardType P.depth t = false) : (eqGuard op t x y (.agg xs) (.agg ys)).run P w = .ok () w := by
  unfold eqGuard
  split
  · simp [h]
  · simp [h]
  · rfl

theorem ev_qa (h : Sim F G st a w) {neg : Bool} {ks : List Nat} {x y : X} (hc : chkO P (.qa neg ks x y) oper.op = true) (he : ev C (xv st.env) st.sto K (.qa neg ks x y)) : EvOk P G st a w K l b oper := by
  simp only [chkO] at hc
  split at hc <;> try contradiction
  rename_i op t x' y' t2 ho
  simp only [Bool.and_eq_true, decide_eq_true_eq, Bool.not_eq_true'] at hc
  obtain ⟨⟨⟨⟨hop, hx⟩, hy⟩, hg⟩, ht⟩ := hc
  have hx := h.x hx
  have hy := h.x hy
  simp only [ev] at he
  split at he <;> try contradiction
  rename_i l1 l2 hu hv
  rw [hu] at hx; rw [hv] at hy
  obtain ⟨xs, hxv, hxs⟩ := hx
  obtain ⟨ys, hyv, hys⟩ := hy
  have heq : ∃ r, (Op.equal t (.agg xs.toArray) (.agg ys.toArray)).run P w = .ok r w ∧ pureK K (iB (if neg = true then !r else r)) := by
    split at ht <;> try contradiction
    · rename_i fields hf
      simp only [Bool.and_eq_true, Bool.not_eq_true'] at ht
      have hfo : P.fieldsOf t = fields := by unfold Program.fieldsOf; rw [hf]
      obtain ⟨r, hr, hK⟩ := flat_run (P := P) 9998 hxs hys ht.2 (by simp) (by simp) he
      refine ⟨r, ?_, hK⟩
      have := run_equalIn_struct (P := P) w 9999 t xs.toArray ys.toArray (by rw [hfo]; exact hf) ht.1
      rw [hfo, hr] at this
      exact this
    · rename_i n e hf
      simp only [Bool.and_eq_true, beq_iff_eq] at ht
      obtain ⟨⟨hn, hk⟩, hsz⟩ := ht
      obtain ⟨ie, hie, hs1⟩ := szT_info hsz
      have hcl : P.cellsOf e = 1 := by simp [Program.cellsOf, hie, hs1]
      obtain ⟨r, hr, hK⟩ := items_run (P := P) 9998 hxs hys hcl (fun q hq => List.all_eq_true.1 hk q hq) hn (i := 0) (by simp) (by simp) he
      refine ⟨r, ?_, hK⟩
      have := run_equalIn_array (P := P) w 9999 xs.toArray ys.toArray hf hie
      rw [List.range_eq_range', hr] at this
      exact this
  obtain ⟨r, hr, hK⟩ := heq
  cases neg with
  | true =>
    simp only [if_true] at hop hK
    subst hop
    exact EvOk.pure h (v := .bool !r) (by simp [execOp, ho, hxv, hyv, run_eqGuard_agg hg, binOp, hr]) (VR.mk rfl) hK
  | false =>
    simp only [Bool.false_eq_true, if_false] at hop hK
    subst hop
    exact EvOk.pure h (v := .bool r) (by simp [execOp, ho, hxv, hyv, run_eqGuard_agg hg, binOp, hr]) (VR.mk rfl) hK
end ops
end Go.Fd

namespace Go.Fd

section del
variable {G G' : Gh} {S S' : Sto} {w w' : World} {Pd : Oid → Prop}

structure Del (S S' : Sto) (Pd : Oid → Prop) : Prop where
  keep : ∀ i ob, S i = some ob → Pd i → S' i = some ob
  only : ∀ i ob, S' i = some ob → S i = some ob ∧ Pd i
  bx : ∀ i cells, S' i = some (.bx cells) → mens Pd cells

theorem Del.av (d : Del S S' Pd) : ∀ b, Av G S w b → Av G S' w b := fun _ hb => ⟨hb.1, fun i ob hs ho => hb.2 i ob (d.only i ob hs).1 ho⟩
theorem Del.vr (d : Del S S' Pd) (x : IV) (v : Value) (hm : men Pd x) (h : VR G S w x v) : VR G S' w x v :=
  VR_step (P := Pd) d.av (fun _ _ => rfl) (fun i ob hp hs => ⟨ob, d.keep i ob hs hp, idR_refl rfl ob⟩) x v hm h
theorem Del.vrs (d : Del S S' Pd) (x : List IV) (v : List Value) (hm : mens Pd x) (h : VRs G S w x v) : VRs G S' w x v :=
  VRs_step (P := Pd) d.av (fun _ _ => rfl) (fun i ob hp hs => ⟨ob, d.keep i ob hs hp, idR_refl rfl ob⟩) x v hm h
theorem Del.ok (d : Del S S' Pd) (h : SOk G S w) : SOk G S' w where
  obs i ob hs := OOk_keep rfl d.av (fun _ _ => rfl) (fun _ _ => rfl) (fun cells vs he hv => d.vrs cells vs (d.bx i cells (by rw [hs, he])) hv) (h.obs i ob (d.only i ob hs).1)
  dis i ob j ob' b hs hs' ho ho' := h.dis i ob j ob' b (d.only i ob hs).1 (d.only j ob' hs').1 ho ho'
  low i cells hs := h.low i cells (d.only i _ hs).1

theorem hd_reads {A : Nat → Prop} (h : SOk G S w) {id : Oid} {k : Nat} {es es' : Row} {u : Bool} {hw ver : Nat} (hA : u = false → ∀ b, Av G S w b → A b) (hs : S id = some (.ar k es u hw ver))
    (hO : ∀ b, own1 G id (.ar k es u hw ver) b → A b) {p : Pth} {off len st : Nat} {cap : Option Nat} {v : Value} (hv : hdR G S id p off len cap st v) (hst : stamp p st hw ver u) (hg : getp es p = some es')
    (hl : off + len ≤ es'.length) : Rds w A v (.sl (cut es' off len)) ∧ ∃ a c, v = .slice a len c ∧ ∀ m, cap = some m → c = m := by
  obtain ⟨⟨a0, c0, hv0, _⟩, k2, es2, u2, hw2, ver2, hs2, _, hrel⟩ := hv
  rw [hs] at hs2; cases hs2
  obtain ⟨es3, k', a, c, hg3, hk, hun, rfl, hlc, hcap, hcap2, hor⟩ := hrel hst
  rw [hg] at hg3; cases hg3
  refine ⟨?_, a, c, rfl, hcap⟩
  by_cases h0 : len = 0
  · subst h0
    rw [show cut es' off 0 = [] from by simp [cut]]
    exact .nil _ _
  · rcases hor with hz | ⟨_, hz⟩ | ⟨b, cc, hG, rfl, hoc⟩
    · omega
    · exact absurd hz h0
    · have hr := row_at h hs hst hg
      unfold rowR at hr
      rw [hG] at hr
      obtain ⟨k2, vs, ty, h1, h2, h3, h4, h5, h6⟩ := hr
      have hlt : off < es'.length := by omega
      have hm := List.mem_of_getElem? (List.getElem?_eq_getElem hlt)
      have hkk : k2 = k' := by rw [← h2 _ hm, hun _ hm]
      subst hkk
      have hcl : (cut es' off len).length = len := cut_length hl
      have := Rds.sl (w := w) (A := A) b (off * k2) c k2 (cut es' off len) (fun i j => (vs[(off + i) * k2 + j]?).getD undef) (hO b ⟨p, cc, stamp_path hst, by simp [hg], hG⟩) (fun e he => h2 e (mem_cut he)) (by omega)
        (fun i e j t he ht => by
          rw [cut_get] at he
          split at he <;> try contradiction
          obtain ⟨x, hx, _⟩ := h6 (off + i) e j t he ht
          rw [cell_of_row w b _ vs ty (0, 0) h3, show off * k2 + i * k2 + j = (off + i) * k2 + j from by rw [Nat.add_mul], hx]
          rfl)
        (fun i e j t he ht => by
          rw [cut_get] at he
          split at he <;> try contradiction
          obtain ⟨x, hx, hc⟩ := h6 (off + i) e j t he ht
          rw [hx]
          exact cell_reads (h.obs id _ hs) hA (fun b' p' c' _ hu hs' hg' => hO b' ⟨p', c', .inr hu, hs', hg'⟩) t p (off + i) j x es' e (stamp_path hst) hg he ht hc)
      rw [hcl] at this
      exact this
end del

def Callable (P : Program) (f : FuncId) : Prop := ∃ fn, P.funcs[f]? = some fn ∧ fn.body.isSome = true ∧ (fn.name == "runtime.NumGoroutine") = false
def Sem (P : Program) : Contract := fun f lvl args S r S' =>
  low lvl r ∧ Callable P f ∧ ((∀ id ob, S id = some ob → id.1 < lvl) → ∀ (G : Gh) (w : World) (vs : List Value), SOk G S w → VRs G S w args vs →
  Calls P f vs.toArray w fun e w' => ∃ v G', e = .returned v ∧ SOk G' (addS S' lvl 0 (impv true lvl 0 0 r).2) w' ∧ VR G' (addS S' lvl 0 (impv true lvl 0 0 r).2) w' (impv true lvl 0 0 r).1 v ∧
    (∀ id ob, S' id = some ob → id.1 < lvl) ∧ Frm ⟨G, S, w, lvl, 0⟩ G' (addS S' lvl 0 (impv true lvl 0 0 r).2) w')

end Go.Fd

namespace Go.Fd

section ren
variable {G G1 G2 : Gh} {S S1 S2 : Sto} {w : World} {τ : Oid → Oid} {Pd : Oid → Prop}

structure Ren (G1 : Gh) (S1 : Sto) (G2 : Gh) (S2 : Sto) (τ : Oid → Oid) (Pd : Oid → Prop) : Prop where
  live : ∀ i ob, S2 i = some ob → S1 (τ i) = some ob
  gh : ∀ i ob, S2 i = some ob → G2 i = G1 (τ i)
  inj : ∀ i j ob ob', S2 i = some ob → S2 j = some ob' → τ i = τ j → i = j
  fix : ∀ i ob, Pd i → S1 i = some ob → S2 i = some ob ∧ τ i = i
  bx : ∀ i cells, S2 i = some (.bx cells) → mens Pd cells ∧ lows (i.1 + 1) cells

theorem own_ren {i j : Oid} {ob : Ob} {b : Nat} (h : G2 i = G1 j) : own1 G2 i ob b ↔ own1 G1 j ob b := by
  cases ob <;> simp only [own1, h]
theorem Ren.av (r : Ren G1 S1 G2 S2 τ Pd) (b : Nat) (hb : Av G1 S1 w b) : Av G2 S2 w b :=
  ⟨hb.1, fun i ob hs ho => hb.2 (τ i) ob (r.live i ob hs) ((own_ren (r.gh i ob hs)).1 ho)⟩
theorem Ren.ids (r : Ren G1 S1 G2 S2 τ Pd) (i : Oid) (ob : Ob) (hp : Pd i) (hs : S1 i = some ob) : ∃ ob', S2 i = some ob' ∧ idR G1 G2 i ob ob' := by
  obtain ⟨h1, h2⟩ := r.fix i ob hp hs
  exact ⟨ob, h1, idR_refl (by rw [r.gh i ob h1, h2]) ob⟩
theorem Ren.vr (r : Ren G1 S1 G2 S2 τ Pd) (x : IV) (v : Value) (hm : men Pd x) (h : VR G1 S1 w x v) : VR G2 S2 w x v :=
  VR_step (P := Pd) r.av (fun _ _ => rfl) r.ids x v hm h
theorem Ren.vrs (r : Ren G1 S1 G2 S2 τ Pd) (x : List IV) (v : List Value) (hm : mens Pd x) (h : VRs G1 S1 w x v) : VRs G2 S2 w x v :=
  VRs_step (P := Pd) r.av (fun _ _ => rfl) r.ids x v hm h
theorem rowR_ren {A A' : Nat → Prop} {i j : Oid} {p : Pth} {k : Nat} {u : Bool} {es : Row} (hG : G2 i = G1 j) (hA : ∀ b, A b → A' b) (h : rowR G1 w A j p k u es) : rowR G2 w A' i p k u es := by
  unfold rowR at *
  rw [hG]
  cases hg : G1 j p with
  | none => simpa [hg] using h
  | some bc =>
    obtain ⟨b, c⟩ := bc
    simp only [hg] at h ⊢
    obtain ⟨k', vs, ty, h1, h2, h3, h4, h5, h6⟩ := h
    refine ⟨k', vs, ty, h1, h2, h3, h4, h5, fun i' e f t he hf => ?_⟩
    obtain ⟨x, hx, hc⟩ := h6 i' e f t he hf
    refine ⟨x, hx, ?_⟩
    cases t with
    | v y => exact hc
    | sl es2 =>
      simp only [cellR] at hc ⊢
      rw [hG]
      split
      · rename_i hu; simpa [hu] using hc
      · rename_i hu; exact Rds.mono hA (fun _ _ => rfl) (by simpa [hu] using hc)
theorem Ren.ok (r : Ren G1 S1 G2 S2 τ Pd) (h : SOk G1 S1 w) : SOk G2 S2 w where
  obs i ob hs := by
    have h1 := h.obs (τ i) ob (r.live i ob hs)
    have hG := r.gh i ob hs
    cases ob with
    | bx cells =>
      obtain ⟨b, c, vs, ty, g1, g2, g3⟩ := h1
      exact ⟨b, c, vs, ty, by rw [hG]; exact g1, g2, r.vrs cells _ (r.bx i cells hs).1 g3⟩
    | ar k es u hw ver =>
      obtain ⟨g1, g2, g3, g4, g5⟩ := h1
      exact ⟨g1, g2, by rw [hG]; exact g3, fun p es' hp he => rowR_ren hG r.av (g4 p es' hp he), by rw [hG]; exact g5⟩
  dis i ob j ob' b hs hs' ho ho' := r.inj i j ob ob' hs hs' (h.dis _ _ _ _ b (r.live i ob hs) (r.live j ob' hs') ((own_ren (r.gh i ob hs)).1 ho) ((own_ren (r.gh j ob' hs')).1 ho'))
  low i cells hs := (r.bx i cells hs).2

def AllAr (obs : List Ob) : Prop := ∀ ob ∈ obs, ∃ k es u, ob = .ar k es u es.length 0

mutual
theorem impv_same (l b l' b' j : Nat) : ∀ r, (impv true l b j r).2 = (impv true l' b' j r).2
  | .ow k es u => rfl
  | .ag xs => by simp only [impv]; exact impvs_same l b l' b' j xs
  | .tu xs => by simp only [impv]; exact impvs_same l b l' b' j xs
  | .un | .tr _ | .cs _ | .hd .. | .ab .. | .sv _ | .ae .. | .ta _ | .fn .. | .er => by simp only [impv]
theorem impvs_same (l b l' b' j : Nat) : ∀ r, (impvs true l b j r).2 = (impvs true l' b' j r).2
  | [] => rfl
  | x :: r => by
    simp only [impvs]
    rw [impv_same l b l' b' j x, impvs_same l b l' b' _ r]
end
mutual
theorem impv_ar (l b j : Nat) : ∀ r, AllAr (impv true l b j r).2
  | .ow k es u => by
    intro ob h
    simp [impv, impc] at h
    exact ⟨k, es, u, h⟩
  | .ag xs => by simp only [impv]; exact impvs_ar l b j xs
  | .tu xs => by simp only [impv]; exact impvs_ar l b j xs
  | .un | .tr _ | .cs _ | .hd .. | .ab .. | .sv _ | .ae .. | .ta _ | .fn .. | .er => by simp only [impv]; intro ob h; simp at h
theorem impvs_ar (l b j : Nat) : ∀ r, AllAr (impvs true l b j r).2
  | [] => by simp only [impvs]; intro ob h; simp at h
  | x :: r => by
    simp only [impvs]
    intro ob h
    rcases List.mem_append.1 h with h | h
    · exact impv_ar l b j x ob h
    · exact impvs_ar l b _ r ob h
end
mutual
theorem impv_none (l b j : Nat) : ∀ r, (impv false l b j r).2 = []
  | .ow k es u => rfl
  | .ag xs => by simp only [impv]; exact impvs_none l b j xs
  | .tu xs => by simp only [impv]; exact impvs_none l b j xs
  | .un | .tr _ | .cs _ | .hd .. | .ab .. | .sv _ | .ae .. | .ta _ | .fn .. | .er => by simp only [impv]
theorem impvs_none (l b j : Nat) : ∀ r, (impvs false l b j r).2 = []
  | [] => rfl
  | x :: r => by
    simp only [impvs, impv_none l b j x, impvs_none l b _ r, List.append_nil]
end

mutual
theorem imp_vr {L l b : Nat} (hl : l < L) (hS : ∀ j ob, S1 (L, j) = some ob → S2 (l, b + j) = some ob ∧ G2 (l, b + j) = G1 (L, j)) (hv : ∀ x v, low L x → VR G1 S1 w x v → VR G2 S2 w x v) :
    ∀ (r : IV) (j : Nat) (v : Value), VR G1 S1 w (impv true L 0 j r).1 v → low L (impv true l b j r).1 → VR G2 S2 w (impv true l b j r).1 v
  | .ow k es u, j, v, h, _ => by
    simp only [impv, impc, if_true, Nat.zero_add, VR] at h ⊢
    obtain ⟨h0, k2, es2, u2, hw2, ver2, hs, hbd, hrel⟩ := h
    obtain ⟨h1, h2⟩ := hS j _ hs
    exact ⟨h0, k2, es2, u2, hw2, ver2, h1, hbd, fun hst => by rw [h2]; exact hrel hst⟩
  | .ag xs, j, v, h, hm => by
    simp only [impv, VR, men] at *
    obtain ⟨vs, hv', hvs⟩ := h
    exact ⟨vs, hv', imps_vr hl hS hv xs j vs hvs hm⟩
  | .tu xs, j, v, h, hm => by
    simp only [impv, VR, men] at *
    obtain ⟨vs, hv', hvs⟩ := h
    exact ⟨vs, hv', imps_vr hl hS hv xs j vs hvs hm⟩
  | .un, j, v, h, hm => by simp only [impv] at *; exact hv _ _ hm h
  | .tr _, j, v, h, hm => by simp only [impv] at *; exact hv _ _ hm h
  | .cs _, j, v, h, hm => by simp only [impv] at *; exact hv _ _ hm h
  | .hd .., j, v, h, hm => by simp only [impv] at *; exact hv _ _ hm h
  | .sv _, j, v, h, hm => by simp only [impv] at *; exact hv _ _ hm h
  | .ab .., j, v, h, hm => by simp only [impv] at *; exact hv _ _ hm h
  | .ae .., j, v, h, hm => by simp only [impv] at *; exact hv _ _ hm h
  | .ta _, j, v, h, hm => by simp only [impv] at *; exact hv _ _ hm h
  | .fn .., j, v, h, hm => by simp only [impv] at *; exact hv _ _ hm h
  | .er, j, v, h, hm => by simp only [impv] at *; exact hv _ _ hm h
theorem imps_vr {L l b : Nat} (hl : l < L) (hS : ∀ j ob, S1 (L, j) = some ob → S2 (l, b + j) = some ob ∧ G2 (l, b + j) = G1 (L, j)) (hv : ∀ x v, low L x → VR G1 S1 w x v → VR G2 S2 w x v) :
    ∀ (r : List IV) (j : Nat) (vs : List Value), VRs G1 S1 w (impvs true L 0 j r).1 vs → lows L (impvs true l b j r).1 → VRs G2 S2 w (impvs true l b j r).1 vs
  | [], j, vs, h, _ => by simp only [impvs, VRs] at *; exact h
  | x :: r, j, vs, h, hm => by
    simp only [impvs, VRs, mens] at h hm ⊢
    obtain ⟨v, vr, rfl, h1, h2⟩ := h
    refine ⟨v, vr, rfl, imp_vr hl hS hv x j v h1 hm.1, ?_⟩
    rw [impv_same l b L 0 j x] at hm ⊢
    exact imps_vr hl hS hv r _ vr h2 hm.2
end
mutual
theorem imp_low {L l b : Nat} {imp : Bool} (hl : l < L) : ∀ (r : IV) (j : Nat), low L r → low L (impv imp l b j r).1
  | .ow k es u, j, _ => by
    simp only [impv, impc]
    split
    · exact hl
    · trivial
  | .ag xs, j, hm => by simp only [impv, men] at *; exact imps_low hl xs j hm
  | .tu xs, j, hm => by simp only [impv, men] at *; exact imps_low hl xs j hm
  | .un, j, hm => by simp only [impv]; exact hm
  | .tr _, j, hm => by simp only [impv]; exact hm
  | .cs _, j, hm => by simp only [impv]; exact hm
  | .hd .., j, hm => by simp only [impv]; exact hm
  | .ab .., j, hm => by simp only [impv]; exact hm
  | .sv _, j, hm => by simp only [impv]; exact hm
  | .ae .., j, hm => by simp only [impv]; exact hm
  | .ta _, j, hm => by simp only [impv]; exact hm
  | .fn .., j, hm => by simp only [impv]; exact hm
  | .er, j, hm => by simp only [impv]; exact hm
theorem imps_low {L l b : Nat} {imp : Bool} (hl : l < L) : ∀ (r : List IV) (j : Nat), lows L r → lows L (impvs imp l b j r).1
  | [], j, _ => by simp only [impvs]; trivial
  | x :: r, j, hm => by
    simp only [impvs, mens] at hm ⊢
    exact ⟨imp_low hl x j hm.1, imps_low hl r _ hm.2⟩
end
end ren
end Go.Fd

namespace Go.Fd

section call
variable {P : Program} {G : Gh} {S : Sto} {w : World} {l b : Nat}

theorem obs_at {obs : List Ob} {S : Sto} {L : Nat} (hcl : ∀ id ob, S id = some ob → id.1 < L) {j : Nat} {ob : Ob} (h : addS S L 0 obs (L, j) = some ob) : obs[j]? = some ob := by
  rcases addS_new obs S L 0 (L, j) ob h with h | ⟨j', _, h1, h2⟩
  · have := hcl _ _ h; simp at this
  · have := congrArg Prod.snd h1
    simp at this
    subst this; exact h2
theorem fresh_above {S : Sto} {L n : Nat} (hcl : ∀ id ob, S id = some ob → id.1 < L) : Fresh S L 0 n := fun j _ => by
  cases hs : S (L, 0 + j) with
  | none => rfl
  | some ob => have := hcl _ _ hs; simp at this

theorem got_imp {G1 : Gh} {S0 : Sto} {r : IV} {v : Value} {w' : World} (hr : low (l + 1) r) (hcl : ∀ id ob, S id = some ob → id.1 < l + 1)
    (h1 : SOk G1 (addS S (l + 1) 0 (impv true (l + 1) 0 0 r).2) w') (h2 : VR G1 (addS S (l + 1) 0 (impv true (l + 1) 0 0 r).2) w' (impv true (l + 1) 0 0 r).1 v)
    (h3 : Frm ⟨G, S0, w, l + 1, 0⟩ G1 (addS S (l + 1) 0 (impv true (l + 1) 0 0 r).2) w') (hf : Fresh S l b (impv true l b 0 r).2.length) :
    GotA G S0 S w l b (impv true l b 0 r).1 (impv true l b 0 r).2 v w' := by
  have hobs : (impv true (l + 1) 0 0 r).2 = (impv true l b 0 r).2 := impv_same _ _ _ _ _ r
  rw [hobs] at h1 h2 h3
  have har : AllAr (impv true l b 0 r).2 := impv_ar l b 0 r
  generalize hg : (impv true l b 0 r).2 = obs at *
  let τ : Oid → Oid := fun i => if i.1 = l ∧ b ≤ i.2 ∧ i.2 < b + obs.length then (l + 1, i.2 - b) else i
  let G2 : Gh := fun i => G1 (τ i)
  have hτS : ∀ i ob, S i = some ob → τ i = i := fun i ob hs => by
    simp only [τ]
    rw [if_neg]
    rintro ⟨g1, g2, g3⟩
    have := ne_fresh (j := i.2 - b) (hf (i.2 - b) (by omega)) hs
    apply this
    rw [show b + (i.2 - b) = i.2 from by omega, ← g1]
  have hτN : ∀ j, j < obs.length → τ (l, b + j) = (l + 1, j) := fun j hj => by
    simp only [τ]
    rw [if_pos ⟨trivial, by omega, by omega⟩, show b + j - b = j from by omega]
  have hS1 := addS_old obs S (l + 1) 0 (fresh_above hcl)
  have hS2 := addS_old obs S l b hf
  have hcase : ∀ i ob, addS S l b obs i = some ob → S i = some ob ∨ ∃ j, j < obs.length ∧ i = (l, b + j) ∧ obs[j]? = some ob := addS_new obs S l b
  have ren : Ren G1 (addS S (l + 1) 0 obs) G2 (addS S l b obs) τ (fun i => i.1 < l + 1) := by
    refine ⟨fun i ob hs => ?_, fun i ob _ => rfl, fun i j ob ob' hs hs' he => ?_, fun i ob hp hs => ?_, fun i cells hs => ?_⟩
    · rcases hcase i ob hs with h | ⟨j, hj, rfl, ho⟩
      · rw [hτS i ob h]; exact hS1 i ob h
      · rw [hτN j hj]
        have := addS_at obs S (l + 1) 0 j ob ho
        rwa [Nat.zero_add] at this
    · rcases hcase i ob hs with h | ⟨j1, hj1, rfl, _⟩ <;> rcases hcase j ob' hs' with h' | ⟨j2, hj2, rfl, _⟩
      · rw [hτS i ob h, hτS j ob' h'] at he; exact he
      · rw [hτS i ob h, hτN j2 hj2] at he
        have := hcl i ob h
        rw [he] at this; simp at this
      · rw [hτS j ob' h', hτN j1 hj1] at he
        have := hcl j ob' h'
        rw [← he] at this; simp at this
      · rw [hτN j1 hj1, hτN j2 hj2] at he
        have := congrArg Prod.snd he
        simp at this
        rw [this]
    · rcases addS_new obs S (l + 1) 0 i ob hs with h | ⟨j, _, rfl, _⟩
      · exact ⟨hS2 i ob h, hτS i ob h⟩
      · simp at hp
    · rcases hcase i _ hs with h | ⟨j, _, rfl, ho⟩
      · have hl := h1.low i cells (hS1 i _ h)
        have := hcl i _ h
        exact ⟨mens_mono (fun k (hk : k.1 < i.1 + 1) => by omega) cells hl, hl⟩
      · obtain ⟨k, es, u, he⟩ := har _ (List.mem_of_getElem? ho)
        cases he
  refine ⟨G2, ren.ok h1, ?_, h3.size, h3.old, fun i ob blk hs ho => ?_, h3.os, h3.tape, h3.output, fun x u hl hv => ren.vr x u hl (h3.stab x u hl hv)⟩
  · refine imp_vr (L := l + 1) (Nat.lt_succ_self l) (fun j ob hs => ?_) (fun x u hl hv => ren.vr x u hl hv) r 0 v h2 (imp_low (Nat.lt_succ_self l) r 0 hr)
    have ho := obs_at hcl hs
    have hj := (List.getElem?_eq_some_iff.1 ho).1
    exact ⟨addS_at obs S l b j ob ho, by simp only [G2]; rw [hτN j hj]⟩
  · have hown := (own_ren (ren.gh i ob hs)).1 ho
    exact h3.own (τ i) ob blk (ren.live i ob hs) hown

mutual
theorem imp_false_any (l b j j' : Nat) : ∀ r, (impv false l b j r).1 = (impv false l b j' r).1
  | .ow k es u => rfl
  | .ag xs => by simp only [impv]; rw [imps_false_any l b j j' xs]
  | .tu xs => by simp only [impv]; rw [imps_false_any l b j j' xs]
  | .un | .tr _ | .cs _ | .hd .. | .ab .. | .sv _ | .ae .. | .ta _ | .fn .. | .er => by simp only [impv]
theorem imps_false_any (l b j j' : Nat) : ∀ r, (impvs false l b j r).1 = (impvs false l b j' r).1
  | [] => rfl
  | x :: r => by
    simp only [impvs]
    rw [imp_false_any l b j j' x, imps_false_any l b _ (j' + (impv false l b j' x).2.length) r]
end
mutual
theorem drop_vr {G1 : Gh} {S1 : Sto} {w' : World} {L l b : Nat} (h1 : SOk G1 S1 w') (hA : ∀ blk, Av G1 S1 w' blk → Av G1 S w' blk)
    (hO : ∀ j ob blk, S1 (L, j) = some ob → own1 G1 (L, j) ob blk → Av G1 S w' blk) (hv : ∀ x v, low L x → VR G1 S1 w' x v → VR G1 S w' x v) :
    ∀ (r : IV) (j : Nat) (v : Value), low L r → (∀ m ob, (impv true L 0 j r).2[m]? = some ob → S1 (L, j + m) = some ob) → VR G1 S1 w' (impv true L 0 j r).1 v → VR G1 S w' (impv false l b j r).1 v
  | .ow k es u, j, v, _, ho, h => by
    have hs : S1 (L, j) = some (.ar k es u es.length 0) := ho 0 _ rfl
    simp only [impv, impc, if_true, Nat.zero_add, VR, Bool.false_eq_true, if_false] at h ⊢
    have := (hd_reads (A := Av G1 S w') h1 (fun _ => hA) hs (fun blk hb => hO j _ blk hs hb) h rfl rfl (by simp)).1
    simpa [cut] using this
  | .ag xs, j, v, hm, ho, h => by
    simp only [impv, VR, men] at *
    obtain ⟨vs, hv', hvs⟩ := h
    exact ⟨vs, hv', drops_vr h1 hA hO hv xs j vs hm ho hvs⟩
  | .tu xs, j, v, hm, ho, h => by
    simp only [impv, VR, men] at *
    obtain ⟨vs, hv', hvs⟩ := h
    exact ⟨vs, hv', drops_vr h1 hA hO hv xs j vs hm ho hvs⟩
  | .un, j, v, hm, _, h => by simp only [impv] at *; exact hv _ _ hm h
  | .tr _, j, v, hm, _, h => by simp only [impv] at *; exact hv _ _ hm h
  | .cs _, j, v, hm, _, h => by simp only [impv] at *; exact hv _ _ hm h
  | .hd .., j, v, hm, _, h => by simp only [impv] at *; exact hv _ _ hm h
  | .ab .., j, v, hm, _, h => by simp only [impv] at *; exact hv _ _ hm h
  | .sv _, j, v, hm, _, h => by simp only [impv] at *; exact hv _ _ hm h
  | .ae .., j, v, hm, _, h => by simp only [impv] at *; exact hv _ _ hm h
  | .ta _, j, v, hm, _, h => by simp only [impv] at *; exact hv _ _ hm h
  | .fn .., j, v, hm, _, h => by simp only [impv] at *; exact hv _ _ hm h
  | .er, j, v, hm, _, h => by simp only [impv] at *; exact hv _ _ hm h
theorem drops_vr {G1 : Gh} {S1 : Sto} {w' : World} {L l b : Nat} (h1 : SOk G1 S1 w') (hA : ∀ blk, Av G1 S1 w' blk → Av G1 S w' blk)
    (hO : ∀ j ob blk, S1 (L, j) = some ob → own1 G1 (L, j) ob blk → Av G1 S w' blk) (hv : ∀ x v, low L x → VR G1 S1 w' x v → VR G1 S w' x v) :
    ∀ (r : List IV) (j : Nat) (vs : List Value), lows L r → (∀ m ob, (impvs true L 0 j r).2[m]? = some ob → S1 (L, j + m) = some ob) → VRs G1 S1 w' (impvs true L 0 j r).1 vs → VRs G1 S w' (impvs false l b j r).1 vs
  | [], j, vs, _, _, h => by simp only [impvs, VRs] at *; exact h
  | x :: r, j, vs, hm, ho, h => by
    simp only [impvs, VRs, mens] at h hm ho ⊢
    obtain ⟨v, vr, rfl, g1, g2⟩ := h
    refine ⟨v, vr, rfl, drop_vr h1 hA hO hv x j v hm.1 (fun m ob hmo => ho m ob ?_) g1, ?_⟩
    · rw [List.getElem?_append_left (List.getElem?_eq_some_iff.1 hmo).1]; exact hmo
    · have hn : (impv false l b j x).2 = [] := impv_none l b j x
      rw [hn]
      -- the numbers of the objects run on in the one, stand still in the other: the values do not tell
      have key : ∀ j', (impvs false l b (j + ([] : List Ob).length) r).1 = (impvs false l b j' r).1 := fun j' => imps_false_any l b _ j' r
      rw [key (j + (impv true L 0 j x).2.length)]
      refine drops_vr h1 hA hO hv r _ vr hm.2 (fun m ob hmo => ?_) g2
      have := ho ((impv true L 0 j x).2.length + m) ob (by rw [List.getElem?_append_right (by omega)]; simpa using hmo)
      rwa [← Nat.add_assoc] at this
end
end call
end Go.Fd

namespace Go.Fd

section call
variable {P : Program} {F : Fr} {G : Gh} {S : Sto} {st : St} {a : Act} {w : World} {K : Kind} {l b : Nat} {oper : Oper}

theorem got_drop {G1 : Gh} {S0 : Sto} {r : IV} {v : Value} {w' : World} (hr : low (l + 1) r) (hcl : ∀ id ob, S id = some ob → id.1 < l + 1)
    (h1 : SOk G1 (addS S (l + 1) 0 (impv true (l + 1) 0 0 r).2) w') (h2 : VR G1 (addS S (l + 1) 0 (impv true (l + 1) 0 0 r).2) w' (impv true (l + 1) 0 0 r).1 v)
    (h3 : Frm ⟨G, S0, w, l + 1, 0⟩ G1 (addS S (l + 1) 0 (impv true (l + 1) 0 0 r).2) w') : GotA G S0 S w l b (impv false l b 0 r).1 (impv false l b 0 r).2 v w' := by
  have hS1 := addS_old (impv true (l + 1) 0 0 r).2 S (l + 1) 0 (fresh_above hcl)
  have har : AllAr (impv true (l + 1) 0 0 r).2 := impv_ar _ _ 0 r
  have hat := fun (j : Nat) (ob : Ob) (ho : (impv true (l + 1) 0 0 r).2[j]? = some ob) => addS_at (impv true (l + 1) 0 0 r).2 S (l + 1) 0 j ob ho
  generalize hg : (impv true (l + 1) 0 0 r).2 = obs at *
  have del : Del (addS S (l + 1) 0 obs) S (fun i => i.1 < l + 1) := by
    refine ⟨fun i ob hs hp => ?_, fun i ob hs => ⟨hS1 i ob hs, hcl i ob hs⟩, fun i cells hs => ?_⟩
    · rcases addS_new obs S (l + 1) 0 i ob hs with h | ⟨j, _, rfl, _⟩
      · exact h
      · simp at hp
    · have hl := h1.low i cells (hS1 i _ hs)
      have := hcl i _ hs
      exact mens_mono (fun k (hk : k.1 < i.1 + 1) => by omega) cells hl
  rw [impv_none]
  refine ⟨G1, del.ok h1, ?_, h3.size, h3.old, fun i ob blk hs ho => h3.own i ob blk (hS1 i ob hs) ho, h3.os, h3.tape, h3.output, fun x u hl hv => del.vr x u hl (h3.stab x u hl hv)⟩
  refine drop_vr (L := l + 1) (S1 := addS S (l + 1) 0 obs) h1 (fun blk hb => del.av blk hb) (fun j ob blk hs ho => ⟨own_lt (h1.obs _ _ hs) ho, fun i ob' hs' ho' => ?_⟩) (fun x u hl hv => del.vr x u hl hv) r 0 v hr (fun m ob hmo => ?_) h2
  · have := h1.dis _ _ _ _ blk hs (hS1 i ob' hs') ho ho'
    have h4 := hcl i ob' hs'
    rw [← this] at h4
    simp at h4
  · rw [hg] at hmo
    exact hat m ob hmo

theorem got_any {G1 : Gh} {S0 : Sto} {r : IV} {v : Value} {w' : World} {imp : Bool} (hr : low (l + 1) r) (hcl : ∀ id ob, S id = some ob → id.1 < l + 1)
    (h1 : SOk G1 (addS S (l + 1) 0 (impv true (l + 1) 0 0 r).2) w') (h2 : VR G1 (addS S (l + 1) 0 (impv true (l + 1) 0 0 r).2) w' (impv true (l + 1) 0 0 r).1 v)
    (h3 : Frm ⟨G, S0, w, l + 1, 0⟩ G1 (addS S (l + 1) 0 (impv true (l + 1) 0 0 r).2) w') (hf : Fresh S l b (impv imp l b 0 r).2.length) : GotA G S0 S w l b (impv imp l b 0 r).1 (impv imp l b 0 r).2 v w' := by
  cases imp
  · exact got_drop hr hcl h1 h2 h3
  · exact got_imp hr hcl h1 h2 h3 hf

mutual
theorem arg_nomen (hS : SOk G S w) : ∀ (x : IV) (v : Value) (Ks : IV → Prop), men (fun _ => False) x → VR G S w x v → snap S x Ks → ∃ y, Ks y ∧ VR G S w y v
  | .un, v, Ks, _, h, hk => ⟨_, hk, h⟩
  | .tr t, v, Ks, _, h, hk => ⟨_, hk, h⟩
  | .cs es, v, Ks, _, h, hk => ⟨_, hk, h.2⟩
  | .hd .., v, Ks, hm, h, hk => hm.elim
  | .ab .., v, Ks, hm, h, hk => hm.elim
  | .sv _, v, Ks, hm, h, hk => hm.elim
  | .ae .., v, Ks, hm, h, hk => hm.elim
  | .ta _, v, Ks, _, h, hk => ⟨_, hk, h⟩
  | .ag l, v, Ks, hm, h, hk => by
    simp only [snap, VR, men] at *
    obtain ⟨vs, rfl, hvs⟩ := h
    obtain ⟨l', hk, hl'⟩ := args_nomen hS l vs _ hm hvs hk
    exact ⟨_, hk, by simp only [VR]; exact ⟨vs, rfl, hl'⟩⟩
  | .tu l, v, Ks, _, _, hk => by simp only [snap] at hk
  | .fn f c, v, Ks, hm, h, hk => by
    simp only [snap, VR, men] at *
    obtain ⟨vs, rfl, hvs⟩ := h
    obtain ⟨l', hk, hl'⟩ := args_nomen hS c vs _ hm hvs hk
    exact ⟨_, hk, by simp only [VR]; exact ⟨vs, rfl, hl'⟩⟩
  | .ow .., v, Ks, _, h, _ => by simp only [VR] at h
  | .er, v, Ks, _, h, hk => ⟨_, hk, h⟩
theorem args_nomen (hS : SOk G S w) : ∀ (l : List IV) (vs : List Value) (Ks : List IV → Prop), mens (fun _ => False) l → VRs G S w l vs → snaps S l Ks → ∃ l', Ks l' ∧ VRs G S w l' vs
  | [], vs, Ks, _, h, hk => ⟨[], hk, h⟩
  | x :: r, vs, Ks, hm, h, hk => by
    simp only [snaps, VRs, mens] at *
    obtain ⟨v, vr, rfl, h1, h2⟩ := h
    obtain ⟨y, hk, hy⟩ := arg_nomen hS x v _ hm.1 h1 hk
    obtain ⟨l', hk, hl'⟩ := args_nomen hS r vr _ hm.2 h2 hk
    exact ⟨y :: l', hk, v, vr, rfl, hy, hl'⟩
end

theorem Av_noS {G0 : Gh} (b : Nat) (hb : b < w.heap.size) : Av G0 noS w b := ⟨hb, fun i ob hs => by cases hs⟩
theorem VRs_dropn : ∀ (n : Nat) {l : List IV} {vs : List Value}, VRs G S w l vs → VRs G S w (l.drop n) (vs.drop n)
  | 0, _, _, h => h
  | n + 1, [], vs, h => by simp only [VRs] at h; subst h; exact rfl
  | n + 1, x :: r, vs, h => by
    simp only [VRs] at h
    obtain ⟨v, vr, rfl, _, h2⟩ := h
    exact VRs_dropn n h2
theorem cells_snap {G0 : Gh} (hS : SOk G S w) : ∀ (l : List IV) (vs : List Value) (Ks : List Tr → Prop), VRs G S w l vs → snapcs S l Ks → ∃ ts, Ks ts ∧ (ts.length = vs.length ∧ ∀ (j : Nat) (t : Tr) (v : Value), ts[j]? = some t → vs[j]? = some v → Rds w (Av G0 noS w) v t)
  | [], vs, Ks, h, hk => by
    simp only [VRs] at h
    subst h
    exact ⟨[], hk, rfl, fun j t v ht => by simp at ht⟩
  | x :: r, vs, Ks, h, hk => by
    simp only [snapcs, VRs] at *
    obtain ⟨v, vr, rfl, h1, h2⟩ := h
    have fin : ∀ (t : Tr), Rds w (Av G0 noS w) v t → (snapcs S r fun ts => Ks (t :: ts)) → ∃ ts, Ks ts ∧ (ts.length = (v :: vr).length ∧ ∀ (j : Nat) (t : Tr) (u : Value), ts[j]? = some t → (v :: vr)[j]? = some u → Rds w (Av G0 noS w) u t) := fun t ht hk => by
      obtain ⟨ts, hk, hl, hr⟩ := cells_snap hS r vr _ h2 hk
      refine ⟨t :: ts, hk, by simp [hl], fun j t' u h3 h4 => ?_⟩
      cases j with
      | zero => simp at h3 h4; subst h3 h4; exact ht
      | succ j => exact hr j t' u (by simpa using h3) (by simpa using h4)
    cases x with
    | tr t => exact fin t (Rds.mono (fun b hb => Av_noS b hb.1) (fun _ _ => rfl) h1) hk
    | cs es => exact fin _ (Rds.mono (fun b hb => Av_noS b hb.1) (fun _ _ => rfl) h1.2) hk
    | hd id p off len cap st =>
      simp only [snapc, rdh, VR] at *
      split at hk <;> try contradiction
      rename_i k es u hw ver hs
      obtain ⟨es', hg, hst, hl, hk⟩ := hk
      exact fin _ (hd_reads hS (fun _ b hb => Av_noS b hb.1) hs (fun b hb => Av_noS b (own_lt (hS.obs _ _ hs) hb)) h1 hst hg hl).1 hk
    | _ => simp only [snapc] at hk
mutual
theorem arg_snap {G0 : Gh} (hS : SOk G S w) : ∀ (x : IV) (v : Value) (Ks : IV → Prop), VR G S w x v → snap S x Ks → ∃ y, Ks y ∧ VR G0 noS w y v
  | .un, v, Ks, h, hk => ⟨_, hk, trivial⟩
  | .tr t, v, Ks, h, hk => ⟨_, hk, Rds.mono (fun b hb => Av_noS b hb.1) (fun _ _ => rfl) h⟩
  | .cs es, v, Ks, h, hk => ⟨_, hk, Rds.mono (fun b hb => Av_noS b hb.1) (fun _ _ => rfl) h.2⟩
  | .hd id p off len cap st, v, Ks, h, hk => by
    simp only [snap, rdh, VR] at *
    split at hk <;> try contradiction
    rename_i k es u hw ver hs
    obtain ⟨es', hg, hst, hl, hk⟩ := hk
    exact ⟨_, hk, by simp only [VR]; exact (hd_reads hS (fun _ b hb => Av_noS b hb.1) hs (fun b hb => Av_noS b (own_lt (hS.obs _ _ hs) hb)) h hst hg hl).1⟩
  | .ab id off, v, Ks, h, hk => by
    simp only [snap, snapb, VR] at *
    split at hk <;> try contradiction
    rename_i cells hs
    obtain ⟨cells', b, c, hs', hg, rfl⟩ := h
    rw [hs] at hs'; cases hs'
    have hlt := own_lt (hS.obs _ _ hs) ⟨c, hg⟩
    obtain ⟨b', c', vs, ty, hb1, hb2, hvs⟩ := hS.obs _ _ hs
    rw [hg] at hb1; cases hb1
    obtain ⟨ts, hk, hts⟩ := cells_snap (G0 := G0) hS (cells.drop off) (vs.toList.drop off) _ (VRs_dropn off hvs) hk
    refine ⟨_, hk, ?_⟩
    simp only [VR]
    have hl : ts.length = (vs.toList.drop off).length := hts.1
    refine ⟨b, off, fun j => (vs[off + j]?).getD undef, Av_noS b hlt, rfl, fun j t ht => ?_⟩
    have hj : j < (vs.toList.drop off).length := by rw [← hl]; exact (List.getElem?_eq_some_iff.1 ht).1
    have hv : (vs.toList.drop off)[j]? = some ((vs[off + j]?).getD undef) := by
      rw [List.getElem?_drop, Array.getElem?_toList]
      have : off + j < vs.size := by simp at hj; omega
      simp [this]
    refine ⟨?_, hts.2 j t _ ht hv⟩
    rw [cell_of_row w b (off + j) vs ty (0, 0) hb2]
    rw [List.getElem?_drop, Array.getElem?_toList] at hv
    exact hv
  | .sv _, v, Ks, _, hk => by simp only [snap] at hk
  | .ae .., v, Ks, _, hk => by simp only [snap] at hk
  | .ta _, v, Ks, h, hk => ⟨_, hk, taR_step (fun b hb => Av_noS b hb.1) (fun _ _ => rfl) h⟩
  | .ag l, v, Ks, h, hk => by
    simp only [snap, VR] at *
    obtain ⟨vs, rfl, hvs⟩ := h
    obtain ⟨l', hk, hl'⟩ := args_snap (G0 := G0) hS l vs _ hvs hk
    exact ⟨_, hk, by simp only [VR]; exact ⟨vs, rfl, hl'⟩⟩
  | .tu l, v, Ks, _, hk => by simp only [snap] at hk
  | .fn f c, v, Ks, h, hk => by
    simp only [snap, VR] at *
    obtain ⟨vs, rfl, hvs⟩ := h
    obtain ⟨l', hk, hl'⟩ := args_snap (G0 := G0) hS c vs _ hvs hk
    exact ⟨_, hk, by simp only [VR]; exact ⟨vs, rfl, hl'⟩⟩
  | .ow .., v, Ks, h, _ => by simp only [VR] at h
  | .er, v, Ks, h, hk => ⟨_, hk, by simp only [VR] at *; exact h⟩
theorem args_snap {G0 : Gh} (hS : SOk G S w) : ∀ (l : List IV) (vs : List Value) (Ks : List IV → Prop), VRs G S w l vs → snaps S l Ks → ∃ l', Ks l' ∧ VRs G0 noS w l' vs
  | [], vs, Ks, h, hk => ⟨[], hk, h⟩
  | x :: r, vs, Ks, h, hk => by
    simp only [snaps, VRs] at *
    obtain ⟨v, vr, rfl, h1, h2⟩ := h
    obtain ⟨y, hk, hy⟩ := arg_snap (G0 := G0) hS x v _ h1 hk
    obtain ⟨l', hk, hl'⟩ := args_snap (G0 := G0) hS r vr _ h2 hk
    exact ⟨y :: l', hk, v, vr, rfl, hy, hl'⟩
end

theorem SOk_noS {G0 : Gh} : SOk G0 noS w := ⟨fun _ _ hs => (by cases hs), fun _ _ _ _ _ hs => (by cases hs), fun _ _ hs => (by cases hs)⟩

mutual
theorem noSh_u (l b j : Nat) : ∀ r, noSh r → ∀ ob ∈ (impv true l b j r).2, ∃ k es, ob = .ar k es true es.length 0
  | .ow k es u, h => by
    intro ob ho
    simp only [noSh] at h
    subst h
    simp [impv, impc] at ho
    exact ⟨k, es, ho⟩
  | .ag xs, h => by simp only [impv, noSh] at *; exact noShs_u l b j xs h
  | .tu xs, h => by simp only [impv, noSh] at *; exact noShs_u l b j xs h
  | .un, _ => by simp only [impv]; intro ob h; simp at h
  | .tr _, _ => by simp only [impv]; intro ob h; simp at h
  | .cs _, _ => by simp only [impv]; intro ob h; simp at h
  | .hd .., _ => by simp only [impv]; intro ob h; simp at h
  | .ab .., _ => by simp only [impv]; intro ob h; simp at h
  | .sv _, _ => by simp only [impv]; intro ob h; simp at h
  | .ae .., _ => by simp only [impv]; intro ob h; simp at h
  | .ta _, _ => by simp only [impv]; intro ob h; simp at h
  | .fn .., _ => by simp only [impv]; intro ob h; simp at h
  | .er, _ => by simp only [impv]; intro ob h; simp at h
theorem noShs_u (l b j : Nat) : ∀ r, noShs r → ∀ ob ∈ (impvs true l b j r).2, ∃ k es, ob = .ar k es true es.length 0
  | [], _ => by simp only [impvs]; intro ob h; simp at h
  | x :: r, h => by
    simp only [impvs, noShs] at *
    intro ob ho
    rcases List.mem_append.1 ho with ho | ho
    · exact noSh_u l b j x h.1 ob ho
    · exact noShs_u l b _ r h.2 ob ho
end

theorem rowR_own {G1 G2 : Gh} {A A' : Nat → Prop} {i j : Oid} {p : Pth} {k : Nat} {es : Row} (hG : G2 i = G1 j) (h : rowR G1 w A j p k true es) : rowR G2 w A' i p k true es := by
  unfold rowR at *
  rw [hG]
  cases hg : G1 j p with
  | none => simpa [hg] using h
  | some bc =>
    obtain ⟨b, c⟩ := bc
    simp only [hg] at h ⊢
    obtain ⟨k', vs, ty, h1, h2, h3, h4, h5, h6⟩ := h
    refine ⟨k', vs, ty, h1, h2, h3, h4, h5, fun i' e f t he hf => ?_⟩
    obtain ⟨x, hx, hc⟩ := h6 i' e f t he hf
    refine ⟨x, hx, ?_⟩
    cases t with
    | v y => exact hc
    | sl es2 =>
      simp only [cellR, if_true] at hc ⊢
      rw [hG]
      exact hc

mutual
theorem own_vr {G1 G2 : Gh} {S1 S2 : Sto} {w' : World} {L l b : Nat} {imp : Bool} (h1 : SOk G1 S1 w')
    (hS : imp = true → ∀ j ob, S1 (L, j) = some ob → S2 (l, b + j) = some ob ∧ G2 (l, b + j) = G1 (L, j))
    (hO : imp = false → ∀ j ob blk, S1 (L, j) = some ob → own1 G1 (L, j) ob blk → Av G2 S2 w' blk) :
    ∀ (r : IV) (j : Nat) (v : Value), noSh r → (∀ m ob, (impv true L 0 j r).2[m]? = some ob → S1 (L, j + m) = some ob) → VR G1 S1 w' (impv true L 0 j r).1 v → VR G2 S2 w' (impv imp l b j r).1 v
  | .ow k es u, j, v, hn, ho, h => by
    simp only [noSh] at hn
    subst hn
    have hs : S1 (L, j) = some (.ar k es true es.length 0) := ho 0 _ rfl
    simp only [impv, impc, if_true, Nat.zero_add, VR] at h
    cases imp with
    | true =>
      simp only [impv, impc, if_true, VR]
      obtain ⟨h0, k2, es2, u2, hw2, ver2, hs2, hbd, hrel⟩ := h
      obtain ⟨g1, g2⟩ := hS rfl j _ hs2
      exact ⟨h0, k2, es2, u2, hw2, ver2, g1, hbd, fun hst => by rw [g2]; exact hrel hst⟩
    | false =>
      simp only [impv, impc, Bool.false_eq_true, if_false, VR]
      have := (hd_reads (A := Av G2 S2 w') h1 (fun h => by cases h) hs (fun blk hb => hO rfl j _ blk hs hb) h rfl rfl (by simp)).1
      simpa [cut] using this
  | .ag xs, j, v, hn, ho, h => by
    simp only [impv, VR, noSh] at *
    obtain ⟨vs, hv', hvs⟩ := h
    exact ⟨vs, hv', owns_vr h1 hS hO xs j vs hn ho hvs⟩
  | .tu xs, j, v, hn, ho, h => by
    simp only [impv, VR, noSh] at *
    obtain ⟨vs, hv', hvs⟩ := h
    exact ⟨vs, hv', owns_vr h1 hS hO xs j vs hn ho hvs⟩
  | .un, j, v, _, _, _ => by simp only [impv, VR]
  | .tr t, j, v, hn, _, h => by
    simp only [impv, VR, noSh] at *
    cases t with
    | v x => obtain ⟨rfl, hx⟩ := Rds.val h; exact .v _ hx
    | sl es => simp [isSc] at hn
  | .cs _, j, v, hn, _, _ => by simp only [noSh] at hn
  | .hd .., j, v, hn, _, _ => by simp only [noSh] at hn
  | .ab .., j, v, hn, _, _ => by simp only [noSh] at hn
  | .sv _, j, v, hn, _, _ => by simp only [noSh] at hn
  | .ae .., j, v, hn, _, _ => by simp only [noSh] at hn
  | .ta _, j, v, hn, _, _ => by simp only [noSh] at hn
  | .fn f c, j, v, hn, _, h => by
    simp only [noSh] at hn
    subst hn
    simp only [impv, VR, VRs] at *
    exact h
  | .er, j, v, _, _, h => by simp only [impv, VR] at *; exact h
theorem owns_vr {G1 G2 : Gh} {S1 S2 : Sto} {w' : World} {L l b : Nat} {imp : Bool} (h1 : SOk G1 S1 w')
    (hS : imp = true → ∀ j ob, S1 (L, j) = some ob → S2 (l, b + j) = some ob ∧ G2 (l, b + j) = G1 (L, j))
    (hO : imp = false → ∀ j ob blk, S1 (L, j) = some ob → own1 G1 (L, j) ob blk → Av G2 S2 w' blk) :
    ∀ (r : List IV) (j : Nat) (vs : List Value), noShs r → (∀ m ob, (impvs true L 0 j r).2[m]? = some ob → S1 (L, j + m) = some ob) → VRs G1 S1 w' (impvs true L 0 j r).1 vs → VRs G2 S2 w' (impvs imp l b j r).1 vs
  | [], j, vs, _, _, h => by simp only [impvs, VRs] at *; exact h
  | x :: r, j, vs, hn, ho, h => by
    simp only [impvs, VRs, noShs] at h hn ho ⊢
    obtain ⟨v, vr, rfl, g1, g2⟩ := h
    refine ⟨v, vr, rfl, own_vr h1 hS hO x j v hn.1 (fun m ob hmo => ho m ob ?_) g1, ?_⟩
    · rw [List.getElem?_append_left (List.getElem?_eq_some_iff.1 hmo).1]; exact hmo
    · have hr : ∀ m ob, (impvs true L 0 (j + (impv true L 0 j x).2.length) r).2[m]? = some ob → S1 (L, j + (impv true L 0 j x).2.length + m) = some ob := fun m ob hmo => by
        have := ho ((impv true L 0 j x).2.length + m) ob (by rw [List.getElem?_append_right (by omega)]; simpa using hmo)
        rwa [← Nat.add_assoc] at this
      have hrec := owns_vr h1 hS hO r _ vr hn.2 hr g2
      cases imp with
      | true => rw [impv_same l b L 0 j x]; exact hrec
      | false =>
        rw [imps_false_any l b (j + (impv false l b j x).2.length) (j + (impv true L 0 j x).2.length) r]
        exact hrec
end

theorem got_noSh {G1 : Gh} {r : IV} {v : Value} {w' : World} {imp : Bool} (hS : SOk G S w) (hn : noSh r)
    (h1 : SOk G1 (addS noS (l + 1) 0 (impv true (l + 1) 0 0 r).2) w') (h2 : VR G1 (addS noS (l + 1) 0 (impv true (l + 1) 0 0 r).2) w' (impv true (l + 1) 0 0 r).1 v)
    (h3 : Frm ⟨G1, noS, w, l + 1, 0⟩ G1 (addS noS (l + 1) 0 (impv true (l + 1) 0 0 r).2) w') (hf : Fresh S l b (impv imp l b 0 r).2.length) : Got G S w l b (impv imp l b 0 r).1 (impv imp l b 0 r).2 v w' := by
  have hu := noSh_u (l + 1) 0 0 r hn
  have hat := fun (j : Nat) (ob : Ob) (ho : (impv true (l + 1) 0 0 r).2[j]? = some ob) => addS_at (impv true (l + 1) 0 0 r).2 noS (l + 1) 0 j ob ho
  have hnew : ∀ i ob, addS noS (l + 1) 0 (impv true (l + 1) 0 0 r).2 i = some ob → ∃ j, i = (l + 1, j) ∧ (impv true (l + 1) 0 0 r).2[j]? = some ob := fun i ob hs => by
    rcases addS_new _ noS (l + 1) 0 i ob hs with h | ⟨j, _, rfl, ho⟩
    · cases h
    · exact ⟨j, by rw [Nat.zero_add], ho⟩
  have hfresh : ∀ i ob blk, addS noS (l + 1) 0 (impv true (l + 1) 0 0 r).2 i = some ob → own1 G1 i ob blk → w.heap.size ≤ blk := fun i ob blk hs ho => by
    rcases h3.own i ob blk hs ho with g | ⟨_, ob0, g1, _⟩
    · exact g
    · cases g1
  have ext : Ext w w' := ⟨h3.size, fun b hb => h3.old b hb (fun i ob hs => by cases hs), h3.os, h3.tape, h3.output⟩
  cases imp with
  | false =>
    rw [impv_none]
    have hv := own_vr (S2 := S) (G2 := G) (L := l + 1) (l := l) (b := b) (imp := false) h1 (fun h => by cases h) (fun _ j ob blk hs ho => ⟨own_lt (h1.obs _ _ hs) ho, fun i ob' hs' ho' => by
      have g1 := hfresh _ _ blk hs ho
      have g2 := own_lt (hS.obs i ob' hs') ho'
      omega⟩) r 0 v hn (fun m ob hmo => by simpa using hat m ob hmo) h2
    exact ⟨G, hS.ext ext, hv, Frm.of_ext ext⟩
  | true =>
    have hobs : (impv true l b 0 r).2 = (impv true (l + 1) 0 0 r).2 := impv_same _ _ _ _ _ r
    rw [hobs] at hf ⊢
    generalize hg : (impv true (l + 1) 0 0 r).2 = obs at *
    let G2 : Gh := fun i => if i.1 = l ∧ b ≤ i.2 ∧ i.2 < b + obs.length then G1 (l + 1, i.2 - b) else G i
    have hG2 : ∀ j, j < obs.length → G2 (l, b + j) = G1 (l + 1, j) := fun j hj => by
      simp only [G2]
      rw [if_pos ⟨trivial, by omega, by omega⟩, show b + j - b = j from by omega]
    have hlt : ∀ {j : Nat} {ob : Ob}, obs[j]? = some ob → j < obs.length := fun h => (List.getElem?_eq_some_iff.1 h).1
    have hS1 : ∀ j ob, obs[j]? = some ob → addS noS (l + 1) 0 obs (l + 1, j) = some ob := fun j ob ho => by simpa using hat j ob ho
    refine Got.mk (G' := G2) hS hf ext (fun i ob hs => ?_) (fun j ob hj blk ho => ?_) (fun _ j ob hj => ?_) (fun j ob j' ob' blk hj hj' ho ho' => ?_) (fun j cells hj => ?_) (fun _ => ?_)
    · simp only [G2]
      rw [if_neg]
      rintro ⟨g1, g2, g3⟩
      have := ne_fresh (j := i.2 - b) (hf (i.2 - b) (by omega)) hs
      apply this
      rw [show b + (i.2 - b) = i.2 from by omega, ← g1]
    · exact hfresh _ ob blk (hS1 j ob hj) ((own_ren (hG2 j (hlt hj))).1 ho)
    · obtain ⟨k, es, rfl⟩ := hu ob (List.mem_of_getElem? hj)
      obtain ⟨g1, g2, g3, g4, g5⟩ := h1.obs _ _ (hS1 j _ hj)
      have hG := hG2 j (hlt hj)
      exact ⟨g1, g2, by rw [hG]; exact g3, fun p es' hp he => rowR_own hG (g4 p es' hp he), by rw [hG]; exact g5⟩
    · have := h1.dis _ _ _ _ blk (hS1 j ob hj) (hS1 j' ob' hj') ((own_ren (hG2 j (hlt hj))).1 ho) ((own_ren (hG2 j' (hlt hj'))).1 ho')
      exact congrArg Prod.snd this
    · obtain ⟨k, es, h⟩ := hu _ (List.mem_of_getElem? hj)
      cases h
    · refine own_vr (S1 := addS noS (l + 1) 0 obs) (L := l + 1) (imp := true) h1 (fun _ j ob hs => ?_) (fun h => by cases h) r 0 v hn (fun m ob hmo => by rw [hg] at hmo; simpa using hS1 m ob hmo) h2
      obtain ⟨j', hj', ho⟩ := hnew _ _ hs
      have := congrArg Prod.snd hj'
      simp at this
      subst this
      exact ⟨addS_at obs S l b j ob ho, hG2 j (hlt ho)⟩

theorem run_call {f : FuncId} {caps : List Value} {g : Operand} {args : Array Operand} {at1 : Array TypeId} {fn : Func} (ho : oper.op = .call { callee := .value g, args, argTypes := at1 }) (hg : a.eval g = .func (.func f) #[] caps.toArray)
    (hf : P.funcs[f]? = some fn) (hb : fn.body.isSome = true) (hn : (fn.name == "runtime.NumGoroutine") = false) :
    (execOp a.eval oper).run P w = .ok (.enter f (args.map a.eval ++ caps.toArray)) w := by
  have hb' : ¬ fn.body = none := by cases hh : fn.body <;> simp_all
  have hn' : ¬ fn.name = "runtime.NumGoroutine" := by simpa using hn
  simp [execOp, ho, resolve, Deferred.ofValue, hg, invoke, callFunc, hf, hn', hb']

theorem Sim.clean (h : Sim F G st a w) : ∀ id ob, st.sto id = some ob → id.1 < st.lvl + 1 := fun id ob hs => by
  unfold St.sto packS at hs
  split at hs
  · rename_i he; rw [he]; exact Nat.lt_succ_self _
  · exact Nat.lt_succ_of_lt (h.outl id ob hs)

theorem ev_ca (h : Sim F G st a w) {imp : Bool} {f : X} {xs : List X} (hl : l = st.lvl) (hfr : ∀ mk obs, K mk obs → Fresh st.sto l b (obs l b).length) (hc : chkO P (.ca .pure imp f xs) oper.op = true)
    (he : ev (Sem P) (xv st.env) st.sto K (.ca .pure imp f xs)) : EvOk P G st a w K l b oper := by
  simp only [chkO] at hc
  split at hc <;> try contradiction
  rename_i g args at1 ho
  simp only [Bool.and_eq_true] at hc
  have hg := h.x hc.1
  have hargs := h.xs hc.2
  simp only [ev] at he
  split at he <;> try contradiction
  rename_i fid caps hq
  rw [hq] at hg
  simp only [VR] at hg
  obtain ⟨cvs, hg, hcv⟩ := hg
  have hargs := VRs_append hargs hcv
  have hcl := h.clean
  subst hl
  by_cases hm : mens (fun _ => False) (xs.map (xv st.env) ++ caps)
  · obtain ⟨l', ⟨r, hsem, _, hK⟩, hl'⟩ := args_nomen h.ok _ _ _ hm hargs he
    obtain ⟨hr, ⟨fn, hf, hb, hn⟩, hcall⟩ := hsem (st.lvl + 1) st.sto
    have hrun := run_call (P := P) (w := w) (caps := cvs) ho hg hf hb hn
    refine Res.of_enter hrun ?_
    have hc := hcall hcl G w (args.toList.map a.eval ++ cvs) h.ok hl'
    have harr : (args.map a.eval ++ cvs.toArray) = (args.toList.map a.eval ++ cvs).toArray := by cases args; simp
    rw [harr]
    refine hc.mono ?_
    rintro e w' ⟨v, G1, rfl, h1, h2, _, h3⟩
    exact ⟨v, rfl, _, _, hK, got_any hr hcl h1 h2 h3 (hfr _ _ hK)⟩
  · obtain ⟨l', ⟨r, hsem, hor, hK⟩, hl'⟩ := args_snap (G0 := G) h.ok _ _ _ hargs he
    have hns := hor.resolve_left hm
    obtain ⟨hr, ⟨fn, hf, hb, hn⟩, hcall⟩ := hsem (st.lvl + 1) noS
    have hrun := run_call (P := P) (w := w) (caps := cvs) ho hg hf hb hn
    refine Res.of_enter hrun ?_
    have hc := hcall (fun id ob hs => by cases hs) G w (args.toList.map a.eval ++ cvs) SOk_noS hl'
    have harr : (args.map a.eval ++ cvs.toArray) = (args.toList.map a.eval ++ cvs).toArray := by cases args; simp
    rw [harr]
    refine hc.mono ?_
    rintro e w' ⟨v, G1, rfl, h1, h2, _, h3⟩
    refine ⟨v, rfl, _, _, hK, got_noSh h.ok hns h1 h2 ⟨h3.size, fun blk hb _ => h3.old blk hb (fun i ob hs => by cases hs), fun i ob blk hs hown => ?_, h3.os, h3.tape, h3.output, fun x u hlo hv => ?_⟩ (hfr _ _ hK)⟩
    · rcases h3.own i ob blk hs hown with g | ⟨_, ob0, g1, _⟩
      · exact .inl g
      · cases g1
    · exact h3.stab x u hlo (VR_step (P := fun _ => True) (fun blk hblk => Av_noS blk hblk.1) (fun _ _ => rfl) (fun i ob _ hs => by cases hs) x u (men_mono (fun _ _ => trivial) x (men_live x u hv)) hv)
theorem mens_seen {Q : Oid → Prop} (h : ∀ i, (st.sto i).isSome = true → Q i) {l : List IV} {vs : List Value} (hv : VRs G st.sto w l vs) : mens Q l := mens_mono (fun i hi => h i hi) l (mens_live l vs hv)
theorem ev_see (h : Sim F G st a w) {imp : Bool} {f : X} {xs : List X} (hl : l = st.lvl) (hfr : ∀ mk obs, K mk obs → Fresh st.sto l b (obs l b).length) (hc : chkO P (.ca .see imp f xs) oper.op = true)
    (he : ev (Sem P) (xv st.env) st.sto K (.ca .see imp f xs)) : EvOk P G st a w K l b oper := by
  simp only [chkO] at hc
  split at hc <;> try contradiction
  rename_i g args at1 ho
  simp only [Bool.and_eq_true] at hc
  have hg := h.x hc.1
  have hargs := h.xs hc.2
  simp only [ev] at he
  split at he <;> try contradiction
  rename_i fid caps hq
  rw [hq] at hg
  simp only [VR] at hg
  obtain ⟨cvs, hg, hcv⟩ := hg
  have hargs := VRs_append hargs hcv
  have hcl := h.clean
  subst hl
  obtain ⟨r, hsem, hK⟩ := he
  have hseen : ∀ i, (st.sto i).isSome = true → Seen2 st.sto st.sto (st.lvl + 1) i := fun i hi => by
    obtain ⟨ob, hob⟩ := Option.isSome_iff_exists.1 hi
    refine ⟨⟨hcl i ob hob, fun _ h => h⟩, fun cells hs => mens_mono (fun j (hj : j.1 < i.1 + 1) => ⟨?_, fun _ h => h⟩) cells (h.ok.low i cells hs)⟩
    have := hcl i ob hob
    omega
  obtain ⟨hr, ⟨fn, hf, hb, hn⟩, hcall⟩ := hsem (st.lvl + 1) st.sto (mens_seen hseen hargs)
  have hrun := run_call (P := P) (w := w) (caps := cvs) ho hg hf hb hn
  refine Res.of_enter hrun ?_
  have hc := hcall hcl G w (args.toList.map a.eval ++ cvs) h.ok hargs
  have harr : (args.map a.eval ++ cvs.toArray) = (args.toList.map a.eval ++ cvs).toArray := by cases args; simp
  rw [harr]
  refine hc.mono ?_
  rintro e w' ⟨v, G1, rfl, h1, h2, _, h3⟩
  exact ⟨v, rfl, _, _, hK, got_any hr hcl h1 h2 h3 (hfr _ _ hK)⟩
end call
end Go.Fd

namespace Go.Fd

inductive Wk (D : Oid → Prop) : Ob → Ob → Prop
  | ar (k : Nat) (es : Row) (u : Bool) (hw ver : Nat) : Wk D (.ar k es u hw ver) (.ar k es u hw ver)
  | bx (cells cells2 : List IV) (hm : mens (fun i => ¬ D i) cells2) (hv : ∀ G S w vs, VRs G S w cells vs → VRs G S w cells2 vs) (hl : ∀ P : Oid → Prop, mens P cells → mens P cells2) : Wk D (.bx cells) (.bx cells2)

section trn
variable {G G' : Gh} {S S' : Sto} {w w' : World} {T D : Oid → Prop}

theorem Wk.own {id : Oid} {ob ob' : Ob} (h : Wk D ob ob') {b : Nat} : own1 G id ob' b ↔ own1 G id ob b := by
  cases h <;> exact Iff.rfl
theorem Wk.idR {id : Oid} {ob ob' : Ob} (h : Wk D ob ob') (hG : G' id = G id) : idR G G' id ob ob' := by
  cases h with
  | ar => exact idR_refl hG _
  | bx => show G' id [] = G id []; rw [hG]

structure Trn (G G' : Gh) (S S' : Sto) (w w' : World) (T D : Oid → Prop) : Prop where
  gh : ∀ i, ¬ T i → G' i = G i
  live : ∀ i ob, ¬ T i → ¬ D i → S i = some ob → ∃ ob', S' i = some ob' ∧ Wk D ob ob'
  only : ∀ i ob', ¬ T i → S' i = some ob' → ¬ D i ∧ ∃ ob, S i = some ob ∧ Wk D ob ob'
  size : w.heap.size ≤ w'.heap.size
  heap : ∀ b, b < w.heap.size → (∀ i ob, T i → S i = some ob → ¬ own1 G i ob b) → w'.heap[b]? = w.heap[b]?
  own : ∀ i ob b, T i → S' i = some ob → own1 G' i ob b → (∃ j ob0, (T j ∨ D j) ∧ S j = some ob0 ∧ own1 G j ob0 b) ∨ w.heap.size ≤ b
  rel : ∀ i ob, T i → ¬ D i → S i = some ob → ∃ ob', S' i = some ob' ∧ idR G G' i ob ob'

theorem Trn.av (t : Trn G G' S S' w w' T D) : ∀ b, Av G S w b → Av G' S' w' b := by
  intro b hb
  refine ⟨Nat.lt_of_lt_of_le hb.1 t.size, fun i ob hs ho => ?_⟩
  by_cases hi : T i
  · rcases t.own i ob b hi hs ho with ⟨j, ob0, _, h1, h2⟩ | h
    · exact hb.2 j ob0 h1 h2
    · have := hb.1; omega
  · obtain ⟨_, ob0, h1, h2⟩ := t.only i ob hi hs
    exact hb.2 i ob0 h1 ((own1_gh (t.gh i hi)).1 (h2.own.1 ho))
theorem Trn.same (t : Trn G G' S S' w w' T D) : ∀ b, Av G S w b → w'.heap[b]? = w.heap[b]? :=
  fun b hb => t.heap b hb.1 fun i ob _ hs => hb.2 i ob hs
theorem Trn.ids (t : Trn G G' S S' w w' T D) (i : Oid) (ob : Ob) (hd : ¬ D i) (hs : S i = some ob) : ∃ ob2, S' i = some ob2 ∧ idR G G' i ob ob2 := by
  by_cases hi : T i
  · exact t.rel i ob hi hd hs
  · obtain ⟨ob', h1, h2⟩ := t.live i ob hi hd hs
    exact ⟨ob', h1, h2.idR (t.gh i hi)⟩
theorem Trn.vr (t : Trn G G' S S' w w' T D) (x : IV) (v : Value) (hm : men (fun i => ¬ D i) x) (h : VR G S w x v) : VR G' S' w' x v :=
  VR_step t.av t.same t.ids x v hm h
theorem Trn.vrs (t : Trn G G' S S' w w' T D) (x : List IV) (v : List Value) (hm : mens (fun i => ¬ D i) x) (h : VRs G S w x v) : VRs G' S' w' x v :=
  VRs_step t.av t.same t.ids x v hm h
theorem Trn.ok (t : Trn G G' S S' w w' T D) (h : SOk G S w) (hob : ∀ i ob, T i → S' i = some ob → OOk G' S' w' i ob)
    (hdis : ∀ i ob j ob' b, T i → T j → S' i = some ob → S' j = some ob' → own1 G' i ob b → own1 G' j ob' b → i = j)
    (hlow : ∀ i cells, T i → S' i = some (.bx cells) → lows (i.1 + 1) cells) : SOk G' S' w' where
  obs i ob hs := by
    by_cases hi : T i
    · exact hob i ob hi hs
    · obtain ⟨_, ob0, h1, h2⟩ := t.only i ob hi hs
      have hh : ∀ b, own1 G i ob0 b → w'.heap[b]? = w.heap[b]? := fun b hb =>
        t.heap b (own_lt (h.obs i ob0 h1) hb) fun j ob2 hj h3 h4 => hi ((h.dis _ _ _ _ b h1 h3 hb h4) ▸ hj)
      have h5 := h.obs i ob0 h1
      cases h2 with
      | ar => exact OOk_keep (t.gh i hi) t.av t.same hh (fun _ _ he => by cases he) h5
      | bx cells cells2 hm hv hl =>
        obtain ⟨b, c, vs, ty, g1, g2, g3⟩ := h5
        exact ⟨b, c, vs, ty, by rw [t.gh i hi]; exact g1, by rw [hh b ⟨c, g1⟩]; exact g2, t.vrs cells2 _ hm (hv _ _ _ _ g3)⟩
  dis i ob j ob' b hs hs' ho ho' := by
    have key : ∀ i ob j ob', T i → ¬ T j → S' i = some ob → S' j = some ob' → own1 G' i ob b → own1 G' j ob' b → False := by
      intro i ob j ob' hi hj hs hs' ho ho'
      obtain ⟨hd, ob0, h1, h2⟩ := t.only j ob' hj hs'
      have h3 := (own1_gh (t.gh j hj)).1 (h2.own.1 ho')
      rcases t.own i ob b hi hs ho with ⟨k, ob3, h4, h5, h6⟩ | h4
      · have := h.dis _ _ _ _ b h1 h5 h3 h6
        subst this
        rcases h4 with h4 | h4
        · exact hj h4
        · exact hd h4
      · have := own_lt (h.obs j ob0 h1) h3; omega
    by_cases hi : T i <;> by_cases hj : T j
    · exact hdis i ob j ob' b hi hj hs hs' ho ho'
    · exact (key i ob j ob' hi hj hs hs' ho ho').elim
    · exact (key j ob' i ob hj hi hs' hs ho' ho).elim
    · obtain ⟨_, ob0, h1, h2⟩ := t.only i ob hi hs
      obtain ⟨_, ob1, h3, h4⟩ := t.only j ob' hj hs'
      exact h.dis _ _ _ _ b h1 h3 ((own1_gh (t.gh i hi)).1 (h2.own.1 ho)) ((own1_gh (t.gh j hj)).1 (h4.own.1 ho'))
  low i cells hs := by
    by_cases hi : T i
    · exact hlow i cells hi hs
    · obtain ⟨_, ob0, h1, h2⟩ := t.only i _ hi hs
      cases h2 with
      | bx cells0 _ hm hv hl => exact hl _ (h.low i cells0 h1)
theorem Trn.frm (t : Trn G G' S S' w w' T D) {L n : Nat} (hD : ∀ i, D i → L ≤ i.1) (hos : w'.os = w.os) (htape : w'.tape = w.tape) (hout : w'.output = w.output) : Frm ⟨G, S, w, L, n⟩ G' S' w' where
  size := t.size
  old b hb ho := t.heap b hb fun i ob _ hs => ho i ob hs
  own i ob b hs ho := by
    by_cases hi : T i
    · rcases t.own i ob b hi hs ho with ⟨j, ob0, h1, h2, h3⟩ | h
      · exact .inr ⟨j, ob0, h2, h3⟩
      · exact .inl h
    · obtain ⟨_, ob0, h1, h2⟩ := t.only i ob hi hs
      exact .inr ⟨i, ob0, h1, (own1_gh (t.gh i hi)).1 (h2.own.1 ho)⟩
  os := hos
  tape := htape
  output := hout
  stab x v hl hv := t.vr x v (men_mono (fun i (hi : i.1 < L) hd => by have := hD i hd; omega) x hl) hv
end trn
end Go.Fd

namespace Go.Fd

theorem sto_in {st : St} {i : Oid} (h : i.1 = st.lvl) : st.sto i = lkO i.2 st.loc := by unfold St.sto packS; rw [if_pos h]
theorem sto_out {st : St} {i : Oid} (h : i.1 ≠ st.lvl) : st.sto i = st.out i := by unfold St.sto packS; rw [if_neg h]
theorem setOb_lvl (st : St) (id : Oid) (o : Ob) : (setOb st id o).lvl = st.lvl := by unfold setOb; split <;> rfl
theorem setOb_env (st : St) (id : Oid) (o : Ob) : (setOb st id o).env = st.env := by unfold setOb; split <;> rfl
theorem setOb_sto (st : St) (id : Oid) (o : Ob) : (setOb st id o).sto = sset st.sto id o := by
  funext i
  by_cases hid : id.1 = st.lvl
  · have he : setOb st id o = { st with loc := ptO id.2 o st.loc } := by unfold setOb; rw [if_pos hid]
    rw [he]
    by_cases hi : i.1 = st.lvl
    · rw [sto_in (st := { st with loc := ptO id.2 o st.loc }) hi, lkO_ptO]
      unfold sset
      rw [sto_in hi]
      by_cases h2 : i.2 = id.2
      · rw [if_pos h2, if_pos (Prod.ext (hi.trans hid.symm) h2)]
      · rw [if_neg h2, if_neg (fun e => h2 (congrArg Prod.snd e))]
    · rw [sto_out (st := { st with loc := ptO id.2 o st.loc }) hi]
      unfold sset
      rw [sto_out hi, if_neg (fun e => hi (by rw [e, hid]))]
  · have he : setOb st id o = { st with out := sset st.out id o } := by unfold setOb; rw [if_neg hid]
    rw [he]
    by_cases hi : i.1 = st.lvl
    · rw [sto_in (st := { st with out := sset st.out id o }) hi]
      unfold sset
      rw [sto_in hi, if_neg (fun e => hid (by rw [← e, hi]))]
    · rw [sto_out (st := { st with out := sset st.out id o }) hi]
      unfold sset
      rw [sto_out hi]

mutual
theorem scr_vr (id : Oid) {G : Gh} {S : Sto} {w : World} : ∀ (x : IV) (v : Value), VR G S w x v → VR G S w (scr id x) v
  | .un, _, _ => trivial
  | .tr _, _, h => h
  | .cs _, _, h => h
  | .hd i p off len cap st, v, h => by simp only [scr]; split <;> first | trivial | exact h
  | .ab i off, v, h => by simp only [scr]; split <;> first | trivial | exact h
  | .sv i, v, h => by simp only [scr]; split <;> first | trivial | exact h
  | .ae i p a b st, v, h => by simp only [scr]; split <;> first | trivial | exact h
  | .ta _, _, h => h
  | .ag l, v, h => by simp only [scr, VR] at *; obtain ⟨vs, hv, hl⟩ := h; exact ⟨vs, hv, scrs_vr id l vs hl⟩
  | .tu l, v, h => by simp only [scr, VR] at *; obtain ⟨vs, hv, hl⟩ := h; exact ⟨vs, hv, scrs_vr id l vs hl⟩
  | .fn f l, v, h => by simp only [scr, VR] at *; obtain ⟨vs, hv, hl⟩ := h; exact ⟨vs, hv, scrs_vr id l vs hl⟩
  | .ow .., _, h => h
  | .er, _, h => h
theorem scrs_vr (id : Oid) {G : Gh} {S : Sto} {w : World} : ∀ (l : List IV) (vs : List Value), VRs G S w l vs → VRs G S w (scrs id l) vs
  | [], vs, h => h
  | x :: r, vs, h => by
    simp only [scrs, VRs] at *
    obtain ⟨v, vr, hv, h1, h2⟩ := h
    exact ⟨v, vr, hv, scr_vr id x v h1, scrs_vr id r vr h2⟩
end
mutual
theorem scr_men (id : Oid) {P : Oid → Prop} : ∀ (x : IV), men P x → men (fun i => P i ∧ i ≠ id) (scr id x)
  | .un, _ => trivial
  | .tr _, _ => trivial
  | .cs _, _ => trivial
  | .hd i p off len cap st, h => by
    simp only [scr]; split
    · trivial
    · rename_i hi; exact ⟨h, hi⟩
  | .ab i off, h => by
    simp only [scr]; split
    · trivial
    · rename_i hi; exact ⟨h, hi⟩
  | .sv i, h => by
    simp only [scr]; split
    · trivial
    · rename_i hi; exact ⟨h, hi⟩
  | .ae i p a b st, h => by
    simp only [scr]; split
    · trivial
    · rename_i hi; exact ⟨h, hi⟩
  | .ta _, _ => trivial
  | .ag l, h => by simp only [scr, men] at *; exact scrs_men id l h
  | .tu l, h => by simp only [scr, men] at *; exact scrs_men id l h
  | .fn f l, h => by simp only [scr, men] at *; exact scrs_men id l h
  | .ow .., _ => trivial
  | .er, _ => trivial
theorem scrs_men (id : Oid) {P : Oid → Prop} : ∀ (l : List IV), mens P l → mens (fun i => P i ∧ i ≠ id) (scrs id l)
  | [], _ => trivial
  | x :: r, h => ⟨scr_men id x h.1, scrs_men id r h.2⟩
end

structure Kl (D : Oid → Prop) (st st1 : St) : Prop where
  lvl : st1.lvl = st.lvl
  out : st1.out = st.out
  vr : ∀ t G S w v, VR G S w (lk t st.env) v → VR G S w (lk t st1.env) v
  men : ∀ t, men (fun i => ¬ D i) (lk t st1.env)
  dead : ∀ i, D i → i.1 = st.lvl
  was : ∀ i, D i → (st.sto i).isSome = true
  live : ∀ i ob, ¬ D i → st.sto i = some ob → ∃ ob', st1.sto i = some ob' ∧ Wk D ob ob'
  only : ∀ i ob', st1.sto i = some ob' → ¬ D i ∧ ∃ ob, st.sto i = some ob ∧ Wk D ob ob'

theorem men_true : ∀ x, men (fun _ => True) x := by
  have key : (∀ x, men (fun _ => True) x) ∧ ∀ l, mens (fun _ => True) l := by
    refine ⟨fun x => ?_, fun l => ?_⟩
    · exact IV.rec (motive_1 := fun x => men (fun _ => True) x) (motive_2 := fun l => mens (fun _ => True) l) trivial (fun _ => trivial) (fun _ => trivial) (fun _ _ _ _ _ _ => trivial) (fun _ _ => trivial) (fun _ _ _ _ _ => trivial) (fun _ => trivial) (fun _ => trivial) (fun _ h => h) (fun _ h => h) (fun _ _ h => h) (fun _ _ _ => trivial) trivial trivial (fun _ _ h1 h2 => ⟨h1, h2⟩) x
    · induction l with
      | nil => trivial
      | cons x r ih => exact ⟨IV.rec (motive_1 := fun x => men (fun _ => True) x) (motive_2 := fun l => mens (fun _ => True) l) trivial (fun _ => trivial) (fun _ => trivial) (fun _ _ _ _ _ _ => trivial) (fun _ _ => trivial) (fun _ _ _ _ _ => trivial) (fun _ => trivial) (fun _ => trivial) (fun _ h => h) (fun _ h => h) (fun _ _ h => h) (fun _ _ _ => trivial) trivial trivial (fun _ _ h1 h2 => ⟨h1, h2⟩) x, ih⟩
  exact key.1
theorem mens_true : ∀ l, mens (fun _ => True) l
  | [] => trivial
  | x :: r => ⟨men_true x, mens_true r⟩

theorem Kl.refl (st : St) : Kl (fun _ => False) st st where
  lvl := rfl
  out := rfl
  vr _ _ _ _ _ h := h
  men t := men_mono (fun _ _ h => h) _ (men_true _)
  dead _ h := h.elim
  was _ h := h.elim
  live i ob _ hs := ⟨ob, hs, by cases ob with
    | bx cells => exact .bx cells cells (mens_mono (fun _ _ h => h) _ (mens_true _)) (fun _ _ _ _ h => h) (fun _ h => h)
    | ar => exact .ar ..⟩
  only i ob hs := ⟨fun h => h, ob, hs, by cases ob with
    | bx cells => exact .bx cells cells (mens_mono (fun _ _ h => h) _ (mens_true _)) (fun _ _ _ _ h => h) (fun _ h => h)
    | ar => exact .ar ..⟩

theorem kill_in {st : St} {id i : Oid} (h : i.1 = st.lvl) (hid : id.1 = st.lvl) : (kill id st).sto i = if i = id then none else (st.sto i).map (scrOb id) := by
  rw [sto_in (st := kill id st) h, sto_in h]
  simp only [kill]
  rw [lkO_scrL, lkO_rmO]
  by_cases h2 : i.2 = id.2
  · rw [if_pos h2, if_pos (Prod.ext (h.trans hid.symm) h2)]; rfl
  · rw [if_neg h2, if_neg (fun e => h2 (congrArg Prod.snd e))]
theorem kill_out {st : St} {id i : Oid} (h : i.1 ≠ st.lvl) : (kill id st).sto i = st.sto i := by
  rw [sto_out (st := kill id st) h, sto_out h]; rfl

theorem Wk.step {D D' : Oid → Prop} {ob ob1 ob2 : Ob} (h : Wk D ob ob1) (h2 : Wk D' ob1 ob2) : Wk D' ob ob2 := by
  cases h with
  | ar => exact h2
  | bx cells cells2 hm hv hl =>
    cases h2 with
    | bx _ cells3 hm' hv' hl' => exact .bx _ _ hm' (fun G S w vs h => hv' G S w vs (hv G S w vs h)) (fun P h => hl' P (hl P h))

theorem Kl.step {D : Oid → Prop} {st st1 : St} (k : Kl D st st1) (hlow : ∀ i cells, st.sto i = some (.bx cells) → lows (i.1 + 1) cells) (houtl : ∀ id ob, st.out id = some ob → id.1 < st.lvl) {id : Oid} (hid : id.1 = st.lvl) (hsome : (st.sto id).isSome = true) :
    Kl (fun i => D i ∨ i = id) st (kill id st1) := by
  have hlv : (kill id st1).lvl = st.lvl := k.lvl
  have hw : ∀ i ob, st.sto i = some ob → ∀ ob', i ≠ id → Wk D ob ob' → ∃ ob'', ((if i.1 = st.lvl then scrOb id ob' else ob') = ob'') ∧ Wk (fun i => D i ∨ i = id) ob ob'' := by
    intro i ob hs ob' hne h
    refine ⟨_, rfl, ?_⟩
    cases h with
    | ar => split <;> exact .ar ..
    | bx cells cells2 hm hv hl =>
      split
      · refine .bx _ _ (mens_mono (fun j hj => fun h => ?_) _ (scrs_men id cells2 hm)) (fun G S w vs h => scrs_vr id _ _ (hv G S w vs h)) (fun P h => mens_mono (fun _ h => h.1) _ (scrs_men id cells2 (hl P h)))
        rcases h with h | h
        · exact hj.1 h
        · exact hj.2 h
      · rename_i hi
        have hlt : i.1 < st.lvl := houtl i _ (by rw [← sto_out hi]; exact hs)
        refine .bx _ _ (mens_mono (fun j hj => fun h => ?_) _ (hl _ (hlow i cells hs))) hv hl
        have hj : j.1 < i.1 + 1 := hj
        rcases h with h | h
        · have := k.dead j h; omega
        · rw [h, hid] at hj; omega
  have hl1 : ∀ i, i ≠ id → ∀ ob', st1.sto i = some ob' → (kill id st1).sto i = some (if i.1 = st.lvl then scrOb id ob' else ob') := by
    intro i hi ob' hs
    by_cases h : i.1 = st.lvl
    · rw [kill_in (h.trans k.lvl.symm) (hid.trans k.lvl.symm), if_neg hi, hs, if_pos h]; rfl
    · rw [kill_out (by rw [k.lvl]; exact h), hs, if_neg h]
  refine ⟨hlv, k.out, fun t G S w v h => ?_, fun t => ?_, fun i h => ?_, fun i h => ?_, fun i ob hd hs => ?_, fun i ob' hs => ?_⟩
  · simp only [kill]; rw [lk_scrE]; exact scr_vr id _ _ (k.vr t G S w v h)
  · simp only [kill]; rw [lk_scrE]
    refine men_mono (fun j hj => fun h => ?_) _ (scr_men id _ (k.men t))
    rcases h with h | h
    · exact hj.1 h
    · exact hj.2 h
  · rcases h with h | h
    · exact k.dead i h
    · rw [h, hid]
  · rcases h with h | h
    · exact k.was i h
    · rw [h]; exact hsome
  · obtain ⟨ob', h1, h2⟩ := k.live i ob (fun h => hd (.inl h)) hs
    have hne : i ≠ id := fun h => hd (.inr h)
    obtain ⟨ob'', h3, h4⟩ := hw i ob hs ob' hne h2
    exact ⟨ob'', by rw [hl1 i hne ob' h1, h3], h4⟩
  · have hne : i ≠ id := by
      rintro rfl
      rw [kill_in (hid.trans k.lvl.symm) (hid.trans k.lvl.symm), if_pos rfl] at hs
      cases hs
    cases h1 : st1.sto i with
    | none =>
      exfalso
      by_cases h : i.1 = st.lvl
      · rw [kill_in (h.trans k.lvl.symm) (hid.trans k.lvl.symm), if_neg hne, h1] at hs; cases hs
      · rw [kill_out (by rw [k.lvl]; exact h), h1] at hs; cases hs
    | some ob1 =>
      obtain ⟨hd, ob, h2, h3⟩ := k.only i ob1 h1
      obtain ⟨ob'', h4, h5⟩ := hw i ob h2 ob1 hne h3
      rw [hl1 i hne ob1 h1] at hs
      cases hs
      refine ⟨fun h => ?_, ob, h2, by rw [← h4] at h5; exact h5⟩
      rcases h with h | h
      · exact hd h
      · exact hne h

section sim
variable {F : Fr} {G G' : Gh} {st st1 : St} {a : Act} {w w' : World} {D : Oid → Prop}

theorem Act.put_get (a : Act) (d : Option Nat) (v : Value) (t : Nat) (hd : ∀ x, d = some x → x < a.tmps.size) : (a.put d v).tmps.getD t undef = if d = some t then v else a.tmps.getD t undef := by
  cases d with
  | none => simp [Act.put]
  | some d =>
    have := hd d rfl
    simp only [Act.put, Option.some.injEq]
    by_cases h : d = t
    · subst h; simp [Array.getD, this]
    · rw [if_neg h]
      simp [Array.getD_eq_getD_getElem?, h]

theorem Sim.go (h : Sim F G st a w) {st' : St} {env0 : List (Nat × IV)} {T : Oid → Prop} {d : Option Nat} {x : IV} {v : Value} (hlvl : st'.lvl = st.lvl) (hout : ∀ id ob, st'.out id = some ob → id.1 < st.lvl)
    (t : Trn G G' st.sto st'.sto w w' T D) (hD : ∀ i, D i → i.1 = st.lvl) (hos : w'.os = w.os) (htape : w'.tape = w.tape) (houtp : w'.output = w.output) (hok : SOk G' st'.sto w')
    (henv : ∀ t G S w v, VR G S w (lk t st.env) v → VR G S w (lk t env0) v) (hmen : ∀ t, men (fun i => ¬ D i) (lk t env0)) (he : st'.env = ptd d x env0) (hd : ∀ y, d = some y → y < F.nt) (hx : VR G' st'.sto w' x v) : Sim F G' st' (a.put d v) w' where
  dfr := by cases d <;> exact h.dfr
  sz := by cases d <;> simp [Act.put, h.sz]
  env s := by
    rw [Act.put_get a d v s (by rw [h.sz]; exact hd), he]
    have h0 := t.vr _ _ (hmen s) (henv s _ _ _ _ (h.env s))
    cases d with
    | none => simpa [ptd] using h0
    | some d =>
      simp only [ptd, Option.some.injEq]
      rw [lk_pt]
      by_cases hs : s = d
      · rw [if_pos hs, if_pos hs.symm]; exact hx
      · rw [if_neg hs, if_neg (fun e => hs e.symm)]; exact h0
  ok := hok
  lvl := hlvl.trans h.lvl
  outl id ob hs := by rw [hlvl]; exact hout id ob hs
  fr := h.fr.trans (t.frm (L := st.lvl) (n := 0) (fun i hi => Nat.le_of_eq (hD i hi).symm) hos htape houtp) (Nat.le_of_eq h.lvl.symm)

theorem Sim.turn (h : Sim F G st a w) (k : Kl D st st1) {id : Oid} {ob' : Ob} {d : Option Nat} {x : IV} {v : Value} (hid : ¬ D id) (hidl : id.1 = st.lvl ∨ (st.sto id).isSome = true)
    (gh : ∀ i, i ≠ id → G' i = G i) (size : w.heap.size ≤ w'.heap.size)
    (heap : ∀ b, b < w.heap.size → (∀ ob, st.sto id = some ob → ¬ own1 G id ob b) → w'.heap[b]? = w.heap[b]?)
    (own : ∀ b, own1 G' id ob' b → (∃ j ob0, (j = id ∨ D j) ∧ st.sto j = some ob0 ∧ own1 G j ob0 b) ∨ w.heap.size ≤ b)
    (rel : ∀ ob, st.sto id = some ob → idR G G' id ob ob')
    (hos : w'.os = w.os) (htape : w'.tape = w.tape) (houtp : w'.output = w.output)
    (hob : Trn G G' st.sto (sset st1.sto id ob') w w' (· = id) D → OOk G' (sset st1.sto id ob') w' id ob')
    (hlow : ∀ cells, ob' = .bx cells → lows (id.1 + 1) cells)
    (hd : ∀ y, d = some y → y < F.nt)
    (hx : Trn G G' st.sto (sset st1.sto id ob') w w' (· = id) D → VR G' (sset st1.sto id ob') w' x v) :
    Sim F G' { setOb st1 id ob' with env := ptd d x st1.env } (a.put d v) w' ∧ Trn G G' st.sto (sset st1.sto id ob') w w' (· = id) D := by
  have hsto : ({ setOb st1 id ob' with env := ptd d x st1.env } : St).sto = sset st1.sto id ob' := by rw [← setOb_sto]; rfl
  have ht : Trn G G' st.sto (sset st1.sto id ob') w w' (· = id) D := by
    refine ⟨gh, fun i ob hi hdi hs => ?_, fun i ob hi hs => ?_, size, fun b hb hn => heap b hb fun ob hs => hn id ob rfl hs, fun i ob b hi hs ho => ?_, fun i ob hi _ hs => ?_⟩
    · obtain ⟨o2, h1, h2⟩ := k.live i ob hdi hs
      exact ⟨o2, by unfold sset; rw [if_neg hi]; exact h1, h2⟩
    · unfold sset at hs; rw [if_neg hi] at hs
      exact k.only i ob hs
    · subst hi
      unfold sset at hs; rw [if_pos rfl] at hs; cases hs
      exact own b ho
    · subst hi
      exact ⟨ob', by unfold sset; rw [if_pos rfl], rel ob hs⟩
  refine ⟨h.go (T := (· = id)) (env0 := st1.env) (D := D) (by simp only; rw [setOb_lvl, k.lvl]) (fun i ob hs => ?_) (by rw [hsto]; exact ht) k.dead hos htape houtp ?_ k.vr k.men rfl hd (by rw [hsto]; exact hx ht), ht⟩
  · have hs : (setOb st1 id ob').out i = some ob := hs
    unfold setOb at hs
    split at hs
    · rw [k.out] at hs; exact h.outl i ob hs
    · rename_i hne
      simp only [sset] at hs
      split at hs
      · rename_i hi
        subst hi
        rcases hidl with hidl | hidl
        · exact absurd (hidl.trans k.lvl.symm) hne
        · obtain ⟨o2, ho2⟩ := Option.isSome_iff_exists.1 hidl
          rw [sto_out (by rw [← k.lvl]; exact hne)] at ho2
          exact h.outl _ o2 ho2
      · rw [k.out] at hs; exact h.outl i ob hs
  · rw [hsto]
    refine ht.ok h.ok (fun i ob hi hs => ?_) (fun i ob j ob' b hi hj _ _ _ _ => hi.trans hj.symm) (fun i cells hi hs => ?_)
    · subst hi
      unfold sset at hs; rw [if_pos rfl] at hs; cases hs
      exact hob ht
    · subst hi
      unfold sset at hs; rw [if_pos rfl] at hs; cases hs
      exact hlow _ rfl

theorem Sim.kl (h : Sim F G st a w) (k : Kl D st st1) : Sim F G st1 a w ∧ Trn G G st.sto st1.sto w w (fun _ => False) D := by
  have ht : Trn G G st.sto st1.sto w w (fun _ => False) D :=
    ⟨fun _ _ => rfl, fun i ob _ hdi hs => k.live i ob hdi hs, fun i ob _ hs => k.only i ob hs, Nat.le_refl _, fun _ _ _ => rfl, fun _ _ _ hf => hf.elim, fun _ _ hf => hf.elim⟩
  have := h.go (T := fun _ => False) (D := D) (d := none) (x := .un) (v := undef) (env0 := st1.env) k.lvl (fun i ob hs => by rw [k.out] at hs; exact h.outl i ob hs) ht k.dead rfl rfl rfl
    (ht.ok h.ok (fun _ _ hf => hf.elim) (fun _ _ _ _ _ hf => hf.elim) (fun _ _ hf => hf.elim)) k.vr k.men rfl (fun _ he => by cases he) trivial
  exact ⟨this, ht⟩
end sim
end Go.Fd

namespace Go.Fd

theorem setp_length : ∀ (p : Pth) (es : Row) (i f : Nat) (t : Tr), (setp es p i f t).length = es.length
  | [], es, i, f, t => by simp only [setp]; split <;> simp
  | (a, b) :: p, es, i, f, t => by
    simp only [setp]
    split
    · split <;> simp
    · rfl

def shT (t1 t2 : Tr) : Prop := t1 = t2 ∨ ∃ a b, t1 = .sl a ∧ t2 = .sl b ∧ a.length = b.length
def Sh (es1 es2 : Row) : Prop := es2.length = es1.length ∧ ∀ (i : Nat) (e2 : List Tr), es2[i]? = some e2 → ∃ e1, es1[i]? = some e1 ∧ e1.length = e2.length ∧ ∀ (f : Nat) (t2 : Tr), e2[f]? = some t2 → ∃ t1, e1[f]? = some t1 ∧ shT t1 t2
theorem Sh.refl (es : Row) : Sh es es := ⟨rfl, fun _ e2 h => ⟨e2, h, rfl, fun _ t2 h => ⟨t2, h, .inl rfl⟩⟩⟩
theorem Sh.un {es1 es2 : Row} (h : Sh es1 es2) {k : Nat} (hk : UnR k es1) : UnR k es2 := by
  intro e he
  obtain ⟨i, hi⟩ := List.getElem?_of_mem he
  obtain ⟨e1, h1, h2, _⟩ := h.2 i e hi
  rw [← h2]
  exact hk e1 (List.mem_of_getElem? h1)

theorem set_get {α : Type} {l : List α} {i : Nat} {x y : α} (h : l[i]? = some y) (j : Nat) : (l.set i x)[j]? = if j = i then some x else l[j]? := by
  rw [List.getElem?_set]
  have := (List.getElem?_eq_some_iff.1 h).1
  by_cases hj : i = j
  · subst hj; simp [this]
  · rw [if_neg hj, if_neg (fun e => hj e.symm)]

theorem Sh.set {es : Row} {a b : Nat} {e : List Tr} {x y : Row} (ha : es[a]? = some e) (hb : e[b]? = some (.sl x)) (hl : y.length = x.length) : Sh es (es.set a (e.set b (.sl y))) := by
  refine ⟨by simp, fun i e2 h => ?_⟩
  rw [set_get ha] at h
  by_cases hi : i = a
  · subst hi
    rw [if_pos rfl] at h; cases h
    refine ⟨e, ha, by simp, fun f t2 h => ?_⟩
    rw [set_get hb] at h
    by_cases hf : f = b
    · subst hf
      rw [if_pos rfl] at h; cases h
      exact ⟨_, hb, .inr ⟨x, y, rfl, rfl, hl.symm⟩⟩
    · rw [if_neg hf] at h
      exact ⟨t2, h, .inl rfl⟩
  · rw [if_neg hi] at h
    exact ⟨e2, h, rfl, fun f t2 h => ⟨t2, h, .inl rfl⟩⟩

theorem getp_cons {es es2 : Row} {a b : Nat} {p : Pth} (h : getp es ((a, b) :: p) = some es2) : ∃ e x, es[a]? = some e ∧ e[b]? = some (.sl x) ∧ getp x p = some es2 := by
  simp only [getp] at h
  split at h
  · rename_i e he
    split at h
    · rename_i x hx; exact ⟨e, x, he, hx, h⟩
    · cases h
  · cases h
theorem getp_mk {es es2 : Row} {a b : Nat} {p : Pth} {e : List Tr} {x : Row} (ha : es[a]? = some e) (hb : e[b]? = some (.sl x)) (h : getp x p = some es2) : getp es ((a, b) :: p) = some es2 := by
  simp [getp, ha, hb, h]
theorem setp_cons {es : Row} {a b i f : Nat} {p : Pth} {e : List Tr} {x : Row} {t : Tr} (ha : es[a]? = some e) (hb : e[b]? = some (.sl x)) : setp es ((a, b) :: p) i f t = es.set a (e.set b (.sl (setp x p i f t))) := by
  simp [setp, ha, hb]
theorem setp_nil {es : Row} {i f : Nat} {e : List Tr} {t : Tr} (ha : es[i]? = some e) : setp es [] i f t = es.set i (e.set f t) := by
  simp [setp, ha]

theorem getp_set {es es2 : Row} {a b : Nat} {e : List Tr} {t0 t : Tr} (ha : es[a]? = some e) (hb : e[b]? = some t0) {c d : Nat} {q : Pth} :
    getp (es.set a (e.set b t)) ((c, d) :: q) = some es2 ↔ (if c = a ∧ d = b then ∃ x, t = .sl x ∧ getp x q = some es2 else getp es ((c, d) :: q) = some es2) := by
  have h1 := set_get (x := e.set b t) ha c
  have h2 := set_get (x := t) hb d
  constructor
  · intro h
    obtain ⟨e', x, g1, g2, g3⟩ := getp_cons h
    rw [h1] at g1
    by_cases hc : c = a
    · rw [if_pos hc] at g1; cases g1
      rw [h2] at g2
      by_cases hd : d = b
      · rw [if_pos hd] at g2; cases g2
        rw [if_pos ⟨hc, hd⟩]; exact ⟨x, rfl, g3⟩
      · rw [if_neg hd] at g2
        rw [if_neg (fun h => hd h.2)]
        subst hc
        exact getp_mk ha g2 g3
    · rw [if_neg hc] at g1
      rw [if_neg (fun h => hc h.1)]
      exact getp_mk g1 g2 g3
  · intro h
    by_cases hc : c = a
    · by_cases hd : d = b
      · rw [if_pos ⟨hc, hd⟩] at h
        obtain ⟨x, rfl, g3⟩ := h
        exact getp_mk (by rw [h1, if_pos hc]) (by rw [h2, if_pos hd]) g3
      · rw [if_neg (fun h => hd h.2)] at h
        obtain ⟨e', x, g1, g2, g3⟩ := getp_cons h
        subst hc
        rw [ha] at g1; cases g1
        exact getp_mk (by rw [h1, if_pos rfl]) (by rw [h2, if_neg hd]; exact g2) g3
    · rw [if_neg (fun h => hc h.1)] at h
      obtain ⟨e', x, g1, g2, g3⟩ := getp_cons h
      exact getp_mk (by rw [h1, if_neg hc]; exact g1) g2 g3

theorem setp_at : ∀ {p : Pth} {es es' : Row} {i f : Nat} {e : List Tr} {t : Tr}, getp es p = some es' → es'[i]? = some e → getp (setp es p i f t) p = some (es'.set i (e.set f t))
  | [], es, es', i, f, e, t, h, hi => by
    simp only [getp, Option.some.injEq] at h
    subst h
    rw [setp_nil hi]; rfl
  | (a, b) :: p, es, es', i, f, e, t, h, hi => by
    obtain ⟨e', x, g1, g2, g3⟩ := getp_cons h
    rw [setp_cons g1 g2, getp_set g1 g2, if_pos ⟨rfl, rfl⟩]
    exact ⟨_, rfl, setp_at g3 hi⟩
theorem setp_other : ∀ {p : Pth} {es es' : Row} {i f : Nat} {e : List Tr} {y : Value} {t0 : Tr}, getp es p = some es' → es'[i]? = some e → e[f]? = some t0 → isSc t0 = true → ∀ (q : Pth) (es2 : Row), q ≠ p →
    getp (setp es p i f (.v y)) q = some es2 → ∃ es1, getp es q = some es1 ∧ Sh es1 es2
  | [], es, es', i, f, e, y, t0, h, hi, hf, hs, q, es2, hq, h2 => by
    simp only [getp, Option.some.injEq] at h
    subst h
    rw [setp_nil hi] at h2
    cases q with
    | nil => exact absurd rfl hq
    | cons cd q =>
      obtain ⟨c, d⟩ := cd
      rw [getp_set hi hf] at h2
      split at h2
      · obtain ⟨x, hx, _⟩ := h2; cases hx
      · exact ⟨es2, h2, Sh.refl _⟩
  | (a, b) :: p, es, es', i, f, e, y, t0, h, hi, hf, hs, q, es2, hq, h2 => by
    obtain ⟨e', x, g1, g2, g3⟩ := getp_cons h
    rw [setp_cons g1 g2] at h2
    cases q with
    | nil =>
      simp only [getp, Option.some.injEq] at h2
      subst h2
      exact ⟨es, rfl, Sh.set g1 g2 (setp_length ..)⟩
    | cons cd q =>
      obtain ⟨c, d⟩ := cd
      rw [getp_set g1 g2] at h2
      split at h2
      · rename_i hcd
        obtain ⟨rfl, rfl⟩ := hcd
        obtain ⟨z, hz, h2⟩ := h2
        cases hz
        obtain ⟨es1, k1, k2⟩ := setp_other g3 hi hf hs q es2 (fun hh => hq (by rw [hh])) h2
        exact ⟨es1, getp_mk g1 g2 k1, k2⟩
      · exact ⟨es2, h2, Sh.refl _⟩
theorem setp_some : ∀ {p : Pth} {es es' : Row} {i f : Nat} {e : List Tr} {y : Value} {t0 : Tr}, getp es p = some es' → es'[i]? = some e → e[f]? = some t0 → isSc t0 = true → ∀ (q : Pth) (es1 : Row),
    getp es q = some es1 → ∃ es2, getp (setp es p i f (.v y)) q = some es2
  | [], es, es', i, f, e, y, t0, h, hi, hf, hs, q, es1, h2 => by
    simp only [getp, Option.some.injEq] at h
    subst h
    rw [setp_nil hi]
    cases q with
    | nil => exact ⟨_, rfl⟩
    | cons cd q =>
      obtain ⟨c, d⟩ := cd
      refine ⟨es1, ?_⟩
      rw [getp_set hi hf]
      split
      · rename_i hcd
        obtain ⟨rfl, rfl⟩ := hcd
        obtain ⟨e', x, g1, g2, g3⟩ := getp_cons h2
        rw [hi] at g1; cases g1
        rw [hf] at g2; cases g2
        simp [isSc] at hs
      · exact h2
  | (a, b) :: p, es, es', i, f, e, y, t0, h, hi, hf, hs, q, es1, h2 => by
    obtain ⟨e', x, g1, g2, g3⟩ := getp_cons h
    rw [setp_cons g1 g2]
    cases q with
    | nil => exact ⟨_, rfl⟩
    | cons cd q =>
      obtain ⟨c, d⟩ := cd
      by_cases hcd : c = a ∧ d = b
      · obtain ⟨rfl, rfl⟩ := hcd
        obtain ⟨e2, x2, k1, k2, k3⟩ := getp_cons h2
        rw [g1] at k1; cases k1
        rw [g2] at k2; cases k2
        obtain ⟨es2, hh⟩ := setp_some (y := y) g3 hi hf hs q es1 k3
        exact ⟨es2, by rw [getp_set g1 g2, if_pos ⟨rfl, rfl⟩]; exact ⟨_, rfl, hh⟩⟩
      · exact ⟨es1, by rw [getp_set g1 g2, if_neg hcd]; exact h2⟩

theorem idx_inj {i j k f g : Nat} (hf : f < k) (hg : g < k) (h : i * k + f = j * k + g) : i = j ∧ f = g := by
  have h1 : (i * k + f) / k = i := by rw [Nat.add_comm, Nat.add_mul_div_right _ _ (by omega), Nat.div_eq_of_lt hf, Nat.zero_add]
  have h2 : (j * k + g) / k = j := by rw [Nat.add_comm, Nat.add_mul_div_right _ _ (by omega), Nat.div_eq_of_lt hg, Nat.zero_add]
  have h3 : i = j := by rw [← h1, ← h2, h]
  subst h3
  exact ⟨rfl, by omega⟩

section
variable {P : Program} {F : Fr} {G G' : Gh} {S S' : Sto} {st : St} {a : Act} {w w' : World} {C : Contract} {oper : Oper}

theorem OOk_sc {id : Oid} {k : Nat} {es es' : Row} {u : Bool} {hw ver : Nat} {p : Pth} {i f b c : Nat} {e : List Tr} {t0 : Tr} {vs : Array Value} {ty : TypeId} {x : Value} (h : OOk G S w id (.ar k es u hw ver))
    (hp : p = [] ∨ u = true) (hg : getp es p = some es') (hi : es'[i]? = some e) (hf : e[f]? = some t0) (hs : isSc t0 = true) (hG : G id p = some (b, c)) (hh : w.heap[b]? = some (.cells vs ty (0, 0))) (hx : scal x = true)
    (hA : ∀ b, Av G S w b → Av G S' w' b) (hhA : ∀ b, Av G S w b → w'.heap[b]? = w.heap[b]?) (hw' : w' = w.setRow b (vs.setIfInBounds (i * e.length + f) x)) :
    OOk G S' w' id (.ar k (setp es p i f (.v x)) u hw ver) := by
  obtain ⟨h1, h2, h3, h4, h5⟩ := h
  have hun : ∀ q es2, getp (setp es p i f (.v x)) q = some es2 → q ≠ p → ∃ es1, getp es q = some es1 ∧ Sh es1 es2 := fun q es2 he hq => setp_other hg hi hf hs q es2 hq he
  have hunk : UnR k (setp es p i f (.v x)) := by
    by_cases hq : [] = p
    · subst hq
      simp only [getp, Option.some.injEq] at hg
      subst hg
      rw [setp_nil hi]
      intro e2 he2
      rcases List.mem_or_eq_of_mem_set he2 with h | h
      · exact h2 e2 h
      · subst h; rw [List.length_set]; exact h2 e (List.mem_of_getElem? hi)
    · obtain ⟨es1, k1, k2⟩ := hun [] _ rfl hq
      simp only [getp, Option.some.injEq] at k1
      subst k1
      exact k2.un h2
  have hsome : ∀ q, (getp (setp es p i f (.v x)) q).isSome = true → (getp es q).isSome = true := fun q hq => by
    obtain ⟨es2, he⟩ := Option.isSome_iff_exists.1 hq
    by_cases hqp : q = p
    · subst hqp; simp [hg]
    · obtain ⟨es1, k1, _⟩ := hun q es2 he hqp; simp [k1]
  refine ⟨by rw [setp_length]; exact h1, hunk, h3, fun q es2 hq he => ?_, fun q q' b1 c1 c1' hq hq' g1 g2 => h5 q q' b1 c1 c1' hq hq' (hsome q g1) (hsome q' g2)⟩
  by_cases hqp : q = p
  · subst hqp
    have h6 := h4 q es' hq hg
    rw [setp_at hg hi] at he
    cases he
    unfold rowR at *
    rw [hG] at *
    obtain ⟨k', vs', ty', g1, g2, g3, g4, g5, g6⟩ := h6
    rw [hh] at g3; cases g3
    have hek : e.length = k' := g2 e (List.mem_of_getElem? hi)
    refine ⟨k', _, ty, g1, fun e2 he2 => ?_, by rw [hw']; exact setRow_heap w b vs _ ty (0, 0) hh, by simpa using g4, by simpa using g5, fun i' e2 f' t2 hi' hf' => ?_⟩
    · rcases List.mem_or_eq_of_mem_set he2 with h | h
      · exact g2 e2 h
      · subst h; rw [List.length_set]; exact hek
    · rw [set_get hi] at hi'
      have keep : ∀ (e3 : List Tr), es'[i']? = some e3 → e3[f']? = some t2 → ¬ (i' = i ∧ f' = f) → ∃ x', (vs.setIfInBounds (i * e.length + f) x)[i' * k' + f']? = some x' ∧ cellR G w' (Av G S' w') id q u i' f' x' t2 := by
        intro e3 k1 k2 hne
        obtain ⟨x', k3, k4⟩ := g6 i' e3 f' t2 k1 k2
        refine ⟨x', ?_, cellR_keep rfl hA hhA k4⟩
        rw [Array.getElem?_setIfInBounds, if_neg]
        · exact k3
        · intro heq
          rw [hek] at heq
          have hfl : f < k' := by rw [← hek]; exact (List.getElem?_eq_some_iff.1 hf).1
          have hfl' : f' < k' := by rw [← g2 e3 (List.mem_of_getElem? k1)]; exact (List.getElem?_eq_some_iff.1 k2).1
          obtain ⟨r1, r2⟩ := idx_inj hfl hfl' heq
          exact hne ⟨r1.symm, r2.symm⟩
      by_cases hii : i' = i
      · rw [if_pos hii] at hi'; cases hi'
        rw [set_get hf] at hf'
        by_cases hff : f' = f
        · rw [if_pos hff] at hf'; cases hf'
          refine ⟨x, ?_, rfl, hx⟩
          obtain ⟨x', k3, _⟩ := g6 i e f t0 hi hf
          have := (Array.getElem?_eq_some_iff.1 k3).1
          rw [hii, hff, hek, Array.getElem?_setIfInBounds, if_pos rfl, if_pos this]
        · rw [if_neg hff] at hf'
          rw [← hii] at hi
          exact keep e hi hf' (fun h => hff h.2)
      · rw [if_neg hii] at hi'
        exact keep e2 hi' hf' (fun h => hii h.1)
  · obtain ⟨es1, k1, k2⟩ := hun q es2 he hqp
    have h6 := h4 q es1 hq k1
    unfold rowR at *
    cases hgq : G id q with
    | none =>
      rw [hgq] at h6
      simp only at h6 ⊢
      subst h6
      exact List.eq_nil_of_length_eq_zero k2.1
    | some bc =>
      obtain ⟨bq, cq⟩ := bc
      rw [hgq] at h6
      simp only at h6 ⊢
      obtain ⟨k', vs', ty', g1, g2, g3, g4, g5, g6⟩ := h6
      have hbq : bq ≠ b := by
        rintro rfl
        exact hqp (h5 q p bq cq c hq hp (by simp [k1]) (by simp [hg]) hgq hG)
      refine ⟨k', vs', ty', g1, k2.un g2, by rw [hw', setRow_other w b bq _ hbq]; exact g3, g4, by rw [k2.1]; exact g5, fun i' e2 f' t2 hi' hf' => ?_⟩
      obtain ⟨e1, r1, r2, r3⟩ := k2.2 i' e2 hi'
      obtain ⟨t1, r4, r5⟩ := r3 f' t2 hf'
      obtain ⟨x', r6, r7⟩ := g6 i' e1 f' t1 r1 r4
      refine ⟨x', r6, ?_⟩
      rcases r5 with rfl | ⟨za, zb, rfl, rfl, hl⟩
      · exact cellR_keep rfl hA hhA r7
      · have hu : u = true := by
          rcases hp with hp | hp
          · rcases hq with hq | hq
            · exact absurd (hq.trans hp.symm) hqp
            · exact hq
          · exact hp
        simp only [cellR, hu, if_true] at r7 ⊢
        rw [← hl]
        exact r7
end
end Go.Fd

namespace Go.Fd

section
variable {P : Program} {F : Fr} {G G' : Gh} {S S' : Sto} {st : St} {a : Act} {w w' : World} {C : Contract} {oper : Oper}

theorem cellR_keep2 {A A' : Nat → Prop} {id id' : Oid} {p p' : Pth} {u : Bool} {i f : Nat} {x : Value} {t : Tr} (hG : u = true → G' id' (p' ++ [(i, f)]) = G id (p ++ [(i, f)])) (hA : u = false → ∀ b, A b → A' b) (hh : ∀ b, A b → w'.heap[b]? = w.heap[b]?)
    (h : cellR G w A id p u i f x t) : cellR G' w' A' id' p' u i f x t := by
  cases t with
  | v y => exact h
  | sl es =>
    simp only [cellR] at *
    split
    · rename_i hu; simp only [hu, if_true] at h; rw [hG hu]; exact h
    · rename_i hu; simp only [hu] at h; exact Rds.mono (hA (by simpa using hu)) hh h
theorem rowR_keep2 {A A' : Nat → Prop} {id id' : Oid} {p p' : Pth} {k k' : Nat} {u : Bool} {es : Row} (hG0 : G' id' p' = G id p) (hG : u = true → ∀ q, G' id' (p' ++ [q]) = G id (p ++ [q])) (hA : u = false → ∀ b, A b → A' b) (hh : ∀ b, A b → w'.heap[b]? = w.heap[b]?)
    (hk : p' = [] → p = [] ∧ k' = k) (hb : ∀ b c, G id p = some (b, c) → w'.heap[b]? = w.heap[b]?) (h : rowR G w A id p k u es) : rowR G' w' A' id' p' k' u es := by
  unfold rowR at *
  rw [hG0]
  cases hg : G id p with
  | none => simpa [hg] using h
  | some bc =>
    obtain ⟨b, c⟩ := bc
    simp only [hg] at h ⊢
    obtain ⟨kk, vs, ty, h1, h2, h3, h4, h5, h6⟩ := h
    exact ⟨kk, vs, ty, fun hp => by rw [h1 (hk hp).1, (hk hp).2], h2, by rw [hb b c hg]; exact h3, h4, h5, fun i e f t he hf => by
      obtain ⟨x, hx, hc⟩ := h6 i e f t he hf
      exact ⟨x, hx, cellR_keep2 (fun hu => hG hu _) hA hh hc⟩⟩

def below (g : Pth → Option (Nat × Nat)) (i f : Nat) (N : Pth → Option (Nat × Nat)) : Pth → Option (Nat × Nat)
  | [] => g []
  | (a, b) :: q => if a = i ∧ b = f then N q else g ((a, b) :: q)
theorem below_snoc {g : Pth → Option (Nat × Nat)} {i f : Nat} {N : Pth → Option (Nat × Nat)} {a b : Nat} {p : Pth} (h : ¬ (a = i ∧ b = f)) : below g i f N ((a, b) :: p) = g ((a, b) :: p) := by
  simp only [below]; rw [if_neg h]
theorem below_in {g : Pth → Option (Nat × Nat)} {i f : Nat} {N : Pth → Option (Nat × Nat)} {p : Pth} : below g i f N ((i, f) :: p) = N p := by
  simp [below]

theorem OOk_sl {id : Oid} {k : Nat} {es : Row} {u : Bool} {hw ver : Nat} {i f b c : Nat} {e : List Tr} {t0 : Tr} {vs : Array Value} {ty : TypeId} {x : Value} {zs : Row} {N : Pth → Option (Nat × Nat)} (h : OOk G S w id (.ar k es u hw ver))
    (hi : es[i]? = some e) (hf : e[f]? = some t0) (hG : G id [] = some (b, c)) (hh : w.heap[b]? = some (.cells vs ty (0, 0))) (hG' : G' id = below (G id) i f N)
    (hA : ∀ b, Av G S w b → Av G' S' w' b) (hhA : ∀ b, Av G S w b → w'.heap[b]? = w.heap[b]?) (hw' : w' = w.setRow b (vs.setIfInBounds (i * e.length + f) x))
    (hx : cellR G' w' (Av G' S' w') id [] u i f x (.sl zs))
    (hN : u = true → ∀ q es2, getp zs q = some es2 → rowR G' w' (Av G' S' w') id ((i, f) :: q) k u es2)
    (hI : u = true → ∀ q1 q2 b c c', (getp zs q1).isSome = true → (getp zs q2).isSome = true → N q1 = some (b, c) → N q2 = some (b, c') → q1 = q2)
    (hX : u = true → ∀ q1 q b1 c1 c2, (getp zs q1).isSome = true → N q1 = some (b1, c1) → (getp es q).isSome = true → G id q = some (b1, c2) → False) :
    OOk G' S' w' id (.ar k (setp es [] i f (.sl zs)) u hw (ver + 1)) := by
  obtain ⟨h1, h2, h3, h4, h5⟩ := h
  rw [setp_nil hi]
  have hb0 : ∀ {bq cq : Nat} {q : Pth}, u = true → q ≠ [] → (getp es q).isSome = true → G id q = some (bq, cq) → bq ≠ b := fun {bq cq q} hu hq hs hg hbb => by
    subst hbb
    exact hq (h5 q [] bq cq c (.inr hu) (.inl rfl) hs rfl hg hG)
  refine ⟨by rw [List.length_set]; exact h1, ?_, by rw [hG']; exact h3, fun q es2 hq he => ?_, fun q q' b1 c1 c1' hq hq' g1 g2 k1 k2 => ?_⟩
  · intro e2 he2
    rcases List.mem_or_eq_of_mem_set he2 with h | h
    · exact h2 e2 h
    · subst h; rw [List.length_set]; exact h2 e (List.mem_of_getElem? hi)
  · cases q with
    | nil =>
      simp only [getp, Option.some.injEq] at he
      subst he
      have h6 := h4 [] es (.inl rfl) rfl
      unfold rowR at *
      rw [hG'] 
      simp only [below]
      rw [hG] at *
      simp only at h6 ⊢
      obtain ⟨k', vs', ty', g1, g2, g3, g4, g5, g6⟩ := h6
      rw [hh] at g3; cases g3
      have hek : e.length = k' := g2 e (List.mem_of_getElem? hi)
      refine ⟨k', _, ty, g1, fun e2 he2 => ?_, by rw [hw']; exact setRow_heap w b vs _ ty (0, 0) hh, by simpa using g4, by simpa using g5, fun i' e2 f' t2 hi' hf' => ?_⟩
      · rcases List.mem_or_eq_of_mem_set he2 with h | h
        · exact g2 e2 h
        · subst h; rw [List.length_set]; exact hek
      · rw [set_get hi] at hi'
        have keep : ∀ (e3 : List Tr), es[i']? = some e3 → e3[f']? = some t2 → ¬ (i' = i ∧ f' = f) → ∃ x', (vs.setIfInBounds (i * e.length + f) x)[i' * k' + f']? = some x' ∧ cellR G' w' (Av G' S' w') id [] u i' f' x' t2 := by
          intro e3 k1 k2 hne
          obtain ⟨x', k3, k4⟩ := g6 i' e3 f' t2 k1 k2
          refine ⟨x', ?_, cellR_keep2 (fun _ => by rw [hG']; exact below_snoc hne) (fun _ => hA) hhA k4⟩
          rw [Array.getElem?_setIfInBounds, if_neg]
          · exact k3
          · intro heq
            rw [hek] at heq
            have hfl : f < k' := by rw [← hek]; exact (List.getElem?_eq_some_iff.1 hf).1
            have hfl' : f' < k' := by rw [← g2 e3 (List.mem_of_getElem? k1)]; exact (List.getElem?_eq_some_iff.1 k2).1
            obtain ⟨r1, r2⟩ := idx_inj hfl hfl' heq
            exact hne ⟨r1.symm, r2.symm⟩
        by_cases hii : i' = i
        · rw [if_pos hii] at hi'; cases hi'
          rw [set_get hf] at hf'
          by_cases hff : f' = f
          · rw [if_pos hff] at hf'; cases hf'
            rw [hii, hff]
            refine ⟨x, ?_, hx⟩
            obtain ⟨x', k3, _⟩ := g6 i e f t0 hi hf
            have := (Array.getElem?_eq_some_iff.1 k3).1
            rw [hek, Array.getElem?_setIfInBounds, if_pos rfl, if_pos this]
          · rw [if_neg hff] at hf'
            rw [← hii] at hi
            exact keep e hi hf' (fun h => hff h.2)
        · rw [if_neg hii] at hi'
          exact keep e2 hi' hf' (fun h => hii h.1)
    | cons cd q =>
      obtain ⟨c1, d1⟩ := cd
      have hu : u = true := by rcases hq with hq | hq; · cases hq
                               · exact hq
      rw [getp_set hi hf] at he
      split at he
      · rename_i hcd
        obtain ⟨rfl, rfl⟩ := hcd
        obtain ⟨z, hz, he⟩ := he
        cases hz
        exact hN hu q es2 he
      · rename_i hcd
        have h6 := h4 _ es2 (.inr hu) he
        exact rowR_keep2 (by rw [hG']; exact below_snoc hcd) (fun _ r => by rw [hG']; exact below_snoc hcd) (fun _ => hA) hhA (fun h => by cases h) (fun bq cq hg => by rw [hw', setRow_other w b bq _ (hb0 hu (by simp) (by simp [he]) hg)]) h6
  · have sp : ∀ q b c, (q = [] ∨ u = true) → (getp (es.set i (e.set f (.sl zs))) q).isSome = true → G' id q = some (b, c) → (∃ q', q = (i, f) :: q' ∧ u = true ∧ (getp zs q').isSome = true ∧ N q' = some (b, c)) ∨ ((getp es q).isSome = true ∧ G id q = some (b, c)) := by
      intro q b c hq hs hg
      cases q with
      | nil => exact .inr ⟨rfl, by rw [hG'] at hg; exact hg⟩
      | cons cd q =>
        obtain ⟨c1, d1⟩ := cd
        have hu : u = true := by rcases hq with hq | hq; · cases hq
                                 · exact hq
        obtain ⟨es2, he⟩ := Option.isSome_iff_exists.1 hs
        rw [getp_set hi hf] at he
        rw [hG'] at hg
        split at he
        · rename_i hcd
          obtain ⟨rfl, rfl⟩ := hcd
          obtain ⟨z, hz, he⟩ := he
          cases hz
          rw [below_in] at hg
          exact .inl ⟨q, rfl, hu, by simp [he], hg⟩
        · rename_i hcd
          rw [below_snoc hcd] at hg
          exact .inr ⟨by simp [he], hg⟩
    rcases sp q b1 c1 hq g1 k1 with ⟨q1, rfl, hu, r1, r2⟩ | ⟨r1, r2⟩ <;> rcases sp q' b1 c1' hq' g2 k2 with ⟨q2, rfl, hu2, s1, s2⟩ | ⟨s1, s2⟩
    · rw [hI hu q1 q2 b1 c1 c1' r1 s1 r2 s2]
    · exact (hX hu q1 q' b1 c1 c1' r1 r2 s1 s2).elim
    · exact (hX hu2 q2 q b1 c1' c1 s1 s2 r1 r2).elim
    · exact h5 q q' b1 c1 c1' hq hq' r1 s1 r2 s2

theorem setOb_same (st : St) (id : Oid) (o : Ob) (x : IV) : { setOb st id o with env := ptd none x st.env } = setOb st id o := by
  unfold setOb; split <;> rfl

theorem Sim.freeze (h : Sim F G st a w) {id : Oid} {k : Nat} {es : Row} {hw ver : Nat} {u : Bool} (hs : st.sto id = some (.ar k es u hw ver)) :
    Sim F G (setOb st id (.ar k es false hw ver)) a w ∧ Trn G G st.sto (setOb st id (.ar k es false hw ver)).sto w w (· = id) (fun _ => False) := by
  cases u with
  | false =>
    have he : (setOb st id (.ar k es false hw ver)).sto = st.sto := by
      rw [setOb_sto]
      funext i
      unfold sset
      split
      · rename_i hi; rw [hi, hs]
      · rfl
    refine ⟨?_, ?_⟩
    · refine ⟨h.dfr, h.sz, by rw [he, setOb_env]; exact h.env, by rw [he]; exact h.ok, by rw [setOb_lvl]; exact h.lvl, ?_, by rw [he]; exact h.fr⟩
      intro i ob hi
      rw [setOb_lvl]
      unfold setOb at hi
      split at hi
      · exact h.outl i ob hi
      · rename_i hne
        simp only [sset] at hi
        split at hi
        · rename_i hii
          subst hii
          rw [sto_out hne] at hs
          exact h.outl _ _ hs
        · exact h.outl i ob hi
    · rw [he]
      refine ⟨fun _ _ => rfl, fun i ob _ _ hs => ⟨ob, hs, ?_⟩, fun i ob _ hs => ⟨fun h => h, ob, hs, ?_⟩, Nat.le_refl _, fun _ _ _ => rfl, fun i ob b _ hs ho => .inl ⟨i, ob, .inl ‹_›, hs, ho⟩, fun i ob _ _ hs => ⟨ob, hs, idR_refl rfl ob⟩⟩
      all_goals
        cases ob with
        | bx cells => exact .bx cells cells (mens_mono (fun _ _ h => h) _ (mens_true _)) (fun _ _ _ _ h => h) (fun _ h => h)
        | ar => exact .ar ..
  | true =>
    have hok := h.ok.obs _ _ hs
    have own : ∀ b, own1 G id (.ar k es false hw ver) b → own1 G id (.ar k es true hw ver) b := fun b ⟨p, c, hp, h1, h2⟩ => ⟨p, c, .inr rfl, h1, h2⟩
    have rel : ∀ ob, st.sto id = some ob → idR G G id ob (.ar k es false hw ver) := fun ob ho => by
      rw [hs] at ho; cases ho
      refine ⟨rfl, Nat.le_refl _, Nat.le_refl _, fun p s _ hst => ⟨?_, fun es' he => ⟨rfl, es', he, fun _ _ hk => hk⟩⟩⟩
      cases p with
      | nil => exact hst
      | cons q p => exact absurd hst.1 (by simp)
    have hx := And.left <| h.turn (Kl.refl st) (id := id) (ob' := .ar k es false hw ver) (d := none) (x := .un) (v := undef) (G' := G) (w' := w) (fun h => h) (.inr (by rw [hs]; rfl)) (fun _ _ => rfl) (Nat.le_refl _) (fun _ _ _ => rfl)
      (fun b ho => .inl ⟨id, _, .inl rfl, hs, own b ho⟩) rel rfl rfl rfl (fun t => ?_) (fun _ he => by cases he) (fun _ he => by cases he) (fun _ => trivial)
    · rw [setOb_same] at hx
      refine ⟨hx, ?_⟩
      rw [setOb_sto]
      refine ⟨fun _ _ => rfl, fun i ob hi _ hs => ⟨ob, by unfold sset; rw [if_neg hi]; exact hs, ?_⟩, fun i ob hi hs => ⟨fun h => h, ob, by unfold sset at hs; rw [if_neg hi] at hs; exact hs, ?_⟩, Nat.le_refl _, fun _ _ _ => rfl, fun i ob b hi hs2 ho => ?_, fun i ob hi _ hs2 => ?_⟩
      · cases ob with
        | bx cells => exact .bx cells cells (mens_mono (fun _ _ h => h) _ (mens_true _)) (fun _ _ _ _ h => h) (fun _ h => h)
        | ar => exact .ar ..
      · cases ob with
        | bx cells => exact .bx cells cells (mens_mono (fun _ _ h => h) _ (mens_true _)) (fun _ _ _ _ h => h) (fun _ h => h)
        | ar => exact .ar ..
      · subst hi
        unfold sset at hs2; rw [if_pos rfl] at hs2; cases hs2
        exact .inl ⟨_, _, .inl rfl, hs, own b ho⟩
      · subst hi
        exact ⟨_, by unfold sset; rw [if_pos rfl], rel ob hs2⟩
    · obtain ⟨h1, h2, h3, h4, h5⟩ := hok
      refine ⟨h1, h2, h3, fun p es' hp he => ?_, fun p p' b c c' hp hp' => h5 p p' b c c' (.inr rfl) (.inr rfl)⟩
      have hp0 : p = [] := by rcases hp with h | h; · exact h
                              · cases h
      subst hp0
      simp only [getp, Option.some.injEq] at he
      subst he
      have h6 := h4 [] es (.inl rfl) rfl
      unfold rowR at *
      cases hg : G id [] with
      | none => simpa [hg] using h6
      | some bc =>
        obtain ⟨b, c⟩ := bc
        simp only [hg] at h6 ⊢
        obtain ⟨kk, vs, ty, g1, g2, g3, g4, g5, g6⟩ := h6
        refine ⟨kk, vs, ty, g1, g2, g3, g4, g5, fun i e f t he hf => ?_⟩
        obtain ⟨x, hx1, hc⟩ := g6 i e f t he hf
        refine ⟨x, hx1, ?_⟩
        have hr := cell_reads (A := Av G (sset st.sto id (.ar k es false hw ver)) w) (h.ok.obs _ _ hs) (fun hu => by cases hu) (fun blk p c hp _ hsome hgp => ?_) t [] i f x es e (.inl rfl) rfl he hf hc
        · cases t with
          | v y => exact hc
          | sl z => simpa [cellR] using hr
        · refine ⟨own_lt (h.ok.obs _ _ hs) ⟨p, c, .inr rfl, hsome, hgp⟩, fun j ob hj ho => ?_⟩
          unfold sset at hj
          split at hj
          · rename_i hji
            cases hj
            rw [hji] at ho
            obtain ⟨p2, c2, hp2, hs2, hg2⟩ := ho
            have hp20 : p2 = [] := by rcases hp2 with h | h; · exact h
                                      · cases h
            exact hp ((h5 p p2 blk c c2 (.inr rfl) (.inr rfl) hsome hs2 hgp hg2).trans hp20)
          · rename_i hji
            exact hji (h.ok.dis _ _ _ _ blk hj hs ho ⟨p, c, .inr rfl, hsome, hgp⟩)
end
end Go.Fd

namespace Go.Fd

section
variable {P : Program} {F : Fr} {G G' : Gh} {S S' : Sto} {st : St} {a : Act} {w w' : World} {C : Contract} {oper : Oper}

theorem run_store1 {g i : Nat} {t : TypeId} {v : Value} {cur : Array Value} (hg : w.heap[g]? = some (.cells cur t (0, 0))) (hi : i < cur.size) (h1 : v.oneCell' = true) :
    (store ⟨g, i, none⟩ v).run P w = .ok () (w.setRow g (cur.setIfInBounds i v)) := by
  have hcell : w.cell? ⟨g, i, none⟩ = some cur[i] := by simp [World.cell?, hg, hi]
  have hfro : w.frozen? ⟨g, i, none⟩ = false := by simp [World.frozen?, hg]
  rw [run_store P w _ v _ h1, hcell]
  simp [hfro, setCell_eq_setRow w g i cur t (0, 0) v hg]

theorem cell_one {x : IV} {v : Value} (h : VR G S w x v) (hc : isCell x = true) : v.oneCell' = true := by
  cases x <;> simp only [VR] at h <;> first
    | (simp [isCell] at hc; done)
    | (cases h <;> first | rfl | (rename_i h1; revert h1; cases v <;> simp [scal, Value.oneCell']); done)
    | (obtain ⟨⟨_, rfl⟩, _⟩ := h; rfl)
    | (obtain ⟨⟨_, _, rfl, _⟩, _⟩ := h; rfl)
    | (obtain ⟨_, _, _, _, _, rfl⟩ := h; rfl)
    | (obtain ⟨_, _, _, _, rfl, _⟩ := h; rfl)
    | (obtain ⟨_, rfl, _⟩ := h; rfl)
    | (obtain ⟨_, _, rfl⟩ := h; rfl)

structure Stp (F : Fr) (a : Act) (G : Gh) (st st' : St) (w w' : World) (G' : Gh) : Prop where
  sim : Sim F G' st' a w'
  vr : ∀ x v, men (fun i => (st'.sto i).isSome = true) x → VR G st.sto w x v → VR G' st'.sto w' x v
  live : ∀ i, (st'.sto i).isSome = true → (st.sto i).isSome = true
theorem Stp.trans {G1 G2 : Gh} {st1 st2 : St} {w1 w2 : World} (h : Stp F a G st st1 w w1 G1) (k : Stp F a G1 st1 st2 w1 w2 G2) : Stp F a G st st2 w w2 G2 :=
  ⟨k.sim, fun x v hm hv => k.vr x v hm (h.vr x v (men_mono (fun i hi => k.live i hi) x hm) hv), fun i hi => h.live i (k.live i hi)⟩
theorem Stp.refl (h : Sim F G st a w) : Stp F a G st st w w G := ⟨h, fun _ _ _ h => h, fun _ h => h⟩
theorem Stp.of {st' : St} {T D : Oid → Prop} (h : Sim F G' st' a w') (t : Trn G G' st.sto st'.sto w w' T D) (hT : ∀ i, T i → ¬ D i ∧ (st.sto i).isSome = true) : Stp F a G st st' w w' G' := by
  have key : ∀ i, (st'.sto i).isSome = true → ¬ D i ∧ (st.sto i).isSome = true := fun i hi => by
    by_cases hti : T i
    · exact hT i hti
    · obtain ⟨ob, ho⟩ := Option.isSome_iff_exists.1 hi
      obtain ⟨h1, ob0, h2, _⟩ := t.only i ob hti ho
      exact ⟨h1, by simp [h2]⟩
  exact ⟨h, fun x v hm hv => t.vr x v (men_mono (fun i hi => (key i hi).1) x hm) hv, fun i hi => (key i hi).2⟩

theorem ptO_ptO (t : Nat) (x y : Ob) : ∀ l, ptO t y (ptO t x l) = ptO t y l
  | [] => by simp [ptO]
  | (b, z) :: r => by
    simp only [ptO]
    split
    · simp [ptO]
    · split
      · simp [ptO]
      · rename_i h1 h2
        simp only [ptO]
        rw [if_neg h1, if_neg h2, ptO_ptO t x y r]
theorem sset_sset (S : Sto) (id : Oid) (x y : Ob) : sset (sset S id x) id y = sset S id y := by
  funext i; unfold sset; split <;> rfl
theorem setOb_setOb (st : St) (id : Oid) (x y : Ob) : setOb (setOb st id x) id y = setOb st id y := by
  unfold setOb
  by_cases h : id.1 = st.lvl
  · simp only [h, if_true, ptO_ptO]
  · simp only [h, if_false, sset_sset]

theorem step_sc (h : Sim F G st a w) {id : Oid} {p : Pth} {i f s : Nat} {k : Nat} {es es' : Row} {u : Bool} {hw ver : Nat} {e : List Tr} {t0 : Tr} {x : Value} (hs : st.sto id = some (.ar k es u hw ver))
    (hg : getp es p = some es') (hst : stamp p s hw ver u) (hi : es'[i]? = some e) (hf : e[f]? = some t0) (hsc : isSc t0 = true) {b c : Nat} {vs : Array Value} {ty : TypeId} (hG : G id p = some (b, c)) (hh : w.heap[b]? = some (.cells vs ty (0, 0)))
    (hx : scal x = true) : Stp F a G st (setOb st id (.ar k (setp es p i f (.v x)) u hw ver)) w (w.setRow b (vs.setIfInBounds (i * e.length + f) x)) G := by
  have hp := stamp_path hst
  have hsome : ∀ q, (getp (setp es p i f (.v x)) q).isSome = true → (getp es q).isSome = true := fun q hq => by
    obtain ⟨es2, he⟩ := Option.isSome_iff_exists.1 hq
    by_cases hqp : q = p
    · subst hqp; simp [hg]
    · obtain ⟨es1, k1, _⟩ := setp_other hg hi hf hsc q es2 hqp he
      simp [k1]
  have ht := h.turn (Kl.refl st) (id := id) (ob' := .ar k (setp es p i f (.v x)) u hw ver) (d := none) (x := .un) (v := undef) (G' := G) (w' := w.setRow b (vs.setIfInBounds (i * e.length + f) x)) (fun h => h) (.inr (by rw [hs]; rfl)) (fun _ _ => rfl) (by simp)
    (fun blk hb hn => setRow_other w b blk _ (fun hbb => by subst hbb; exact hn _ hs ⟨p, c, hp, by simp [hg], hG⟩))
    (fun blk ho => by
      obtain ⟨q, cq, hq, hqs, hgq⟩ := ho
      exact .inl ⟨id, _, .inl rfl, hs, q, cq, hq, hsome q hqs, hgq⟩)
    (fun ob ho => by
      rw [hs] at ho; cases ho
      refine ⟨rfl, Nat.le_refl _, Nat.le_refl _, fun q s2 _ hq => ⟨hq, fun es1 he => ⟨rfl, ?_⟩⟩⟩
      by_cases hqp : q = p
      · subst hqp
        rw [hg] at he; cases he
        refine ⟨_, setp_at hg hi, fun k' _ hk e2 he2 => ?_⟩
        rcases List.mem_or_eq_of_mem_set he2 with h | h
        · exact hk e2 h
        · subst h; rw [List.length_set]; exact hk e (List.mem_of_getElem? hi)
      · obtain ⟨es2, h2⟩ := setp_some (y := x) hg hi hf hsc q es1 he
        obtain ⟨es3, h3, h4⟩ := setp_other hg hi hf hsc q es2 hqp h2
        rw [he] at h3; cases h3
        exact ⟨es2, h2, fun k' _ hk => h4.un hk⟩)
    rfl rfl rfl (fun t => OOk_sc (h.ok.obs _ _ hs) hp hg hi hf hsc hG hh hx t.av t.same rfl) (fun _ he => by cases he) (fun _ he => by cases he) (fun _ => trivial)
  rw [setOb_same] at ht
  exact Stp.of ht.1 (by rw [setOb_sto]; exact ht.2) fun j hj => ⟨fun h => h, by rw [show j = id from hj, hs]; rfl⟩

theorem step_sl (h : Sim F G st a w) {id : Oid} {i f : Nat} {k : Nat} {es : Row} {u : Bool} {hw ver : Nat} {e : List Tr} {t0 : Tr} {x : Value} {zs : Row} (hs : st.sto id = some (.ar k es u hw ver))
    (hi : es[i]? = some e) (hf : e[f]? = some t0) {b c : Nat} {vs : Array Value} {ty : TypeId} (hG : G id [] = some (b, c)) (hh : w.heap[b]? = some (.cells vs ty (0, 0)))
    (hx : Rds w (Av G st.sto w) x (.sl zs)) (hu : u = true → zs = []) :
    ∃ G', Stp F a G st (setOb st id (.ar k (setp es [] i f (.sl zs)) u hw (ver + 1))) w (w.setRow b (vs.setIfInBounds (i * e.length + f) x)) G' := by
  let N : Pth → Option (Nat × Nat) := fun _ => none
  let G' : Gh := fun j => if j = id then below (G id) i f N else G j
  have hG' : G' id = below (G id) i f N := by simp [G']
  have hb0 : own1 G id (.ar k es u hw ver) b := ⟨[], c, .inl rfl, rfl, hG⟩
  have ht := h.turn (Kl.refl st) (id := id) (ob' := .ar k (setp es [] i f (.sl zs)) u hw (ver + 1)) (d := none) (x := .un) (v := undef) (G' := G') (w' := w.setRow b (vs.setIfInBounds (i * e.length + f) x)) (fun h => h) (.inr (by rw [hs]; rfl))
    (fun j hj => by simp [G', hj]) (by simp)
    (fun blk hb hn => setRow_other w b blk _ (fun hbb => by subst hbb; exact hn _ hs hb0))
    (fun blk ho => by
      obtain ⟨q, cq, hq, hqs, hgq⟩ := ho
      rw [hG'] at hgq
      refine .inl ⟨id, _, .inl rfl, hs, q, cq, hq, ?_, ?_⟩
      · cases q with
        | nil => rfl
        | cons cd q =>
          obtain ⟨es2, he⟩ := Option.isSome_iff_exists.1 hqs
          rw [setp_nil hi, getp_set hi hf] at he
          split at he
          · rename_i hcd
            obtain ⟨rfl, rfl⟩ := hcd
            rw [below_in] at hgq; cases hgq
          · simp [he]
      · cases q with
        | nil => exact hgq
        | cons cd q =>
          by_cases hcd : cd.1 = i ∧ cd.2 = f
          · obtain ⟨rfl, rfl⟩ := hcd
            rw [below_in] at hgq; cases hgq
          · rw [below_snoc hcd] at hgq; exact hgq)
    (fun ob ho => by
      rw [hs] at ho; cases ho
      refine ⟨rfl, Nat.le_refl _, Nat.le_succ _, fun q s2 hbd hq => ?_⟩
      cases q with
      | nil =>
        refine ⟨hq, fun es1 he => ⟨by rw [hG']; rfl, ?_⟩⟩
        simp only [getp, Option.some.injEq] at he
        subst he
        refine ⟨_, rfl, fun k' _ hk e2 he2 => ?_⟩
        rw [setp_nil hi] at he2
        rcases List.mem_or_eq_of_mem_set he2 with h | h
        · exact hk e2 h
        · subst h; rw [List.length_set]; exact hk e (List.mem_of_getElem? hi)
      | cons cd q =>
        have h1 : s2 ≤ ver := hbd
        have h2 : s2 = ver + 1 := hq.2
        omega)
    rfl rfl rfl (fun t => OOk_sl (h.ok.obs _ _ hs) hi hf hG hh hG' t.av t.same rfl ?_ (fun hu2 q es2 he => ?_) (fun _ _ _ _ _ _ _ _ h _ => by cases h) (fun _ _ _ _ _ _ _ h _ _ => by cases h)) (fun _ he => by cases he) (fun _ he => by cases he) (fun _ => trivial)
  · rw [setOb_same] at ht
    exact ⟨G', Stp.of ht.1 (by rw [setOb_sto]; exact ht.2) fun j hj => ⟨fun h => h, by rw [show j = id from hj, hs]; rfl⟩⟩
  · simp only [cellR]
    split
    · rename_i hu2
      have := hu hu2
      subst this
      obtain ⟨ad, cc, rfl⟩ := Rds.empty hx
      exact ⟨ad, cc, rfl, Nat.zero_le _, .inl rfl⟩
    · exact Rds.mono t.av t.same hx
  · have := hu hu2
    subst this
    obtain ⟨rfl, rfl⟩ := getp_nil he
    unfold rowR
    rw [hG', below_in]

theorem step_abs (h : Sim F G st a w) {id id2 : Oid} {i f : Nat} {k k2 : Nat} {es : Row} {hw ver hw2 ver2 : Nat} {e : List Tr} {t0 : Tr} {x : Value} {zs : Row} (hs : st.sto id = some (.ar k es true hw ver)) (hs2 : st.sto id2 = some (.ar k2 zs true hw2 ver2))
    (hne : id2 ≠ id) (hl2 : id2.1 = st.lvl)
    (hi : es[i]? = some e) (hf : e[f]? = some t0) {b c : Nat} {vs : Array Value} {ty : TypeId} (hG : G id [] = some (b, c)) (hh : w.heap[b]? = some (.cells vs ty (0, 0)))
    (hx : hdR G st.sto id2 [] 0 zs.length none hw2 x) :
    ∃ G', Stp F a G st (setOb (kill id2 st) id (.ar k (setp es [] i f (.sl zs)) true hw (ver + 1))) w (w.setRow b (vs.setIfInBounds (i * e.length + f) x)) G' := by
  let G' : Gh := fun j => if j = id then below (G id) i f (G id2) else G j
  have hG' : G' id = below (G id) i f (G id2) := by simp [G']
  have hb0 : own1 G id (.ar k es true hw ver) b := ⟨[], c, .inl rfl, rfl, hG⟩
  have hok2 := h.ok.obs _ _ hs2
  have hX : ∀ q1 q b1 c1 c2, (getp zs q1).isSome = true → G id2 q1 = some (b1, c1) → (getp es q).isSome = true → G id q = some (b1, c2) → False := fun q1 q b1 c1 c2 h1 h2 h3 h4 =>
    hne (h.ok.dis _ _ _ _ b1 hs2 hs ⟨q1, c1, .inr rfl, h1, h2⟩ ⟨q, c2, .inr rfl, h3, h4⟩)
  have hnd : ¬ (False ∨ id = id2) := fun h => h.elim (fun hh => hh) fun hh => hne hh.symm
  have kl := (Kl.refl st).step (fun j cells hj => h.ok.low j cells hj) h.outl hl2 (by rw [hs2]; rfl)
  have ht := h.turn kl (id := id) (ob' := .ar k (setp es [] i f (.sl zs)) true hw (ver + 1)) (d := none) (x := .un) (v := undef) (G' := G') (w' := w.setRow b (vs.setIfInBounds (i * e.length + f) x)) hnd (.inr (by rw [hs]; rfl))
    (fun j hj => by simp [G', hj]) (by simp)
    (fun blk hb hn => setRow_other w b blk _ (fun hbb => by subst hbb; exact hn _ hs hb0))
    (fun blk ho => by
      obtain ⟨q, cq, hq, hqs, hgq⟩ := ho
      rw [hG'] at hgq
      cases q with
      | nil => exact .inl ⟨id, _, .inl rfl, hs, [], cq, .inl rfl, rfl, hgq⟩
      | cons cd q =>
        obtain ⟨es2, he⟩ := Option.isSome_iff_exists.1 hqs
        obtain ⟨c1, d1⟩ := cd
        rw [setp_nil hi, getp_set hi hf] at he
        split at he
        · rename_i hcd
          obtain ⟨rfl, rfl⟩ := hcd
          obtain ⟨z, hz, he⟩ := he
          cases hz
          rw [below_in] at hgq
          exact .inl ⟨id2, _, .inr (.inr rfl), hs2, q, cq, .inr rfl, by simp [he], hgq⟩
        · rename_i hcd
          rw [below_snoc hcd] at hgq
          exact .inl ⟨id, _, .inl rfl, hs, _, cq, .inr rfl, by simp [he], hgq⟩)
    (fun ob ho => by
      rw [hs] at ho; cases ho
      refine ⟨rfl, Nat.le_refl _, Nat.le_succ _, fun q s2 hbd hq => ?_⟩
      cases q with
      | nil =>
        refine ⟨hq, fun es1 he => ⟨by rw [hG']; rfl, ?_⟩⟩
        simp only [getp, Option.some.injEq] at he
        subst he
        refine ⟨_, rfl, fun k' _ hk e2 he2 => ?_⟩
        rw [setp_nil hi] at he2
        rcases List.mem_or_eq_of_mem_set he2 with h | h
        · exact hk e2 h
        · subst h; rw [List.length_set]; exact hk e (List.mem_of_getElem? hi)
      | cons cd q =>
        have h1 : s2 ≤ ver := hbd
        have h2 : s2 = ver + 1 := hq.2
        omega)
    rfl rfl rfl (fun t => OOk_sl (h.ok.obs _ _ hs) hi hf hG hh hG' t.av t.same rfl ?_ (fun _ q es2 he => ?_) (fun _ q1 q2 b1 c1 c1' h1 h2 h3 h4 => hok2.2.2.2.2 q1 q2 b1 c1 c1' (.inr rfl) (.inr rfl) h1 h2 h3 h4) (fun _ => hX)) (fun _ he => by cases he) (fun _ he => by cases he) (fun _ => trivial)
  · have hks : setOb (kill id2 st) id (.ar k (setp es [] i f (.sl zs)) true hw (ver + 1)) = { setOb (kill id2 st) id (.ar k (setp es [] i f (.sl zs)) true hw (ver + 1)) with env := ptd none .un (kill id2 st).env } := (setOb_same ..).symm
    refine ⟨G', ?_⟩
    rw [hks]
    exact Stp.of ht.1 (by rw [← hks, setOb_sto]; exact ht.2) fun j hj => ⟨by rw [show j = id from hj]; exact hnd, by rw [show j = id from hj, hs]; rfl⟩
  · simp only [cellR, if_true]
    obtain ⟨⟨a0, c0, hx0, hle⟩, k3, es3, u3, hw3, ver3, g1, _, g2⟩ := hx
    rw [hs2] at g1; cases g1
    obtain ⟨es4, k4, ad, cc, e1, e2, e3, e4, e5, e6, e7, e8⟩ := g2 rfl
    refine ⟨ad, cc, e4, e5, ?_⟩
    rcases e8 with h0 | ⟨h0, _⟩ | ⟨b1, c1, h1, h2, h3⟩
    · exact .inl (by omega)
    · exact absurd rfl h0
    · refine .inr ⟨b1, c1, ?_, by simpa using h2, by simpa using h3⟩
      rw [hG']; exact below_in.trans h1
  · refine rowR_keep2 (id := id2) (p := q) (A := Av G st.sto w) (by rw [hG']; exact below_in) (fun _ r => by rw [hG']; exact below_in) (fun hu => by cases hu) t.same (fun h => by cases h) (fun bq cq hg => setRow_other w b bq _ (fun hbb => ?_)) (hok2.2.2.2.1 q es2 (.inr rfl) he)
    subst hbb
    exact hX q [] bq cq c (by simp [he]) hg rfl hG
end
end Go.Fd
