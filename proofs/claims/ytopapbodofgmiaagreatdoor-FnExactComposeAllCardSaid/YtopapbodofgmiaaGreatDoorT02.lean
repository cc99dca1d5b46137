/-
  FOUNDATION 24: the operation store. Own work.
-/
import Derived.Test.YtopapbodofgmiaaGreatDoorT01
import Derived.Laws.BytesArg
import Derived.Lib.SliceRun
set_option linter.all false
namespace Go.Fd

section
variable {P : Program} {F : Fr} {G G' : Gh} {S S' : Sto} {st : St} {a : Act} {w w' : World} {C : Contract} {oper : Oper}

theorem idx_lt {i k c f : Nat} (hi : i < c) (hf : f < k) : i * k + f < c * k := by
  have h1 : (i + 1) * k ≤ c * k := Nat.mul_le_mul_right k hi
  rw [Nat.add_mul, Nat.one_mul] at h1
  omega

theorem kill_tree (h : Sim F G st a w) {id2 : Oid} {k2 : Nat} {zs : Row} {u2 : Bool} {hw2 ver2 : Nat} {x : Value} (hs2 : st.sto id2 = some (.ar k2 zs u2 hw2 ver2)) (hl2 : id2.1 = st.lvl) (hx : hdR G st.sto id2 [] 0 zs.length none hw2 x) :
    Stp F a G st (kill id2 st) w w G ∧ Rds w (Av G (kill id2 st).sto w) x (.sl zs) := by
  have kl := (Kl.refl st).step (fun j cells hj => h.ok.low j cells hj) h.outl hl2 (by rw [hs2]; rfl)
  obtain ⟨h1, h2⟩ := h.kl kl
  refine ⟨Stp.of h1 h2 (fun _ hf => hf.elim), ?_⟩
  have := (hd_reads (A := Av G (kill id2 st).sto w) h.ok (fun _ => h2.av) hs2 (fun b hb => ⟨own_lt (h.ok.obs _ _ hs2) hb, fun j ob hj ho => ?_⟩) hx (rfl : stamp [] hw2 hw2 ver2 u2) rfl (by simp)).1
  · simpa [cut] using this
  · obtain ⟨hd, ob0, g1, g2⟩ := h2.only j ob (fun h => h) hj
    exact hd (.inr (h.ok.dis _ _ _ _ b g1 hs2 (g2.own.1 ho) hb))

theorem step_tree (h : Sim F G st a w) {id : Oid} {i f : Nat} {k : Nat} {es : Row} {u : Bool} {hw ver : Nat} {e : List Tr} {t0 : Tr} {x : Value} {zs : Row} (hs : st.sto id = some (.ar k es u hw ver))
    (hi : es[i]? = some e) (hf : e[f]? = some t0) {b c : Nat} {vs : Array Value} {ty : TypeId} (hG : G id [] = some (b, c)) (hh : w.heap[b]? = some (.cells vs ty (0, 0)))
    (hx : Rds w (Av G st.sto w) x (.sl zs)) :
    ∃ G', Stp F a G st (setOb st id (.ar k (setp es [] i f (.sl zs)) false hw (ver + 1))) w (w.setRow b (vs.setIfInBounds (i * e.length + f) x)) G' := by
  obtain ⟨h1, h2⟩ := h.freeze hs
  have hs' : (setOb st id (.ar k es false hw ver)).sto id = some (.ar k es false hw ver) := by rw [setOb_sto]; unfold sset; rw [if_pos rfl]
  obtain ⟨G', hG'⟩ := step_sl h1 hs' hi hf hG hh (Rds.mono h2.av h2.same hx) (fun h => by cases h)
  rw [setOb_setOb] at hG'
  exact ⟨G', (Stp.of h1 h2 fun j hj => ⟨fun h => h, by rw [show j = id from hj, hs]; rfl⟩).trans hG'⟩

theorem step_stc (h : Sim F G st a w) {id : Oid} {p : Pth} {i f0 j s : Nat} {x : IV} {v : Value} {K : St → Prop} {b o : Nat} (hae : aeR G st.sto id p i f0 s (.pointer (some ⟨b, o, none⟩)))
    (hx : men (fun i => (st.sto i).isSome = true) x → VR G st.sto w x v) (hc : isCell x = true) (hk : stc st id p i (f0 + j) s x K) :
    ∃ w' G' st', (store ⟨b, o + j, none⟩ v).run P w = .ok () w' ∧ K st' ∧ Stp F a G st st' w w' G' := by
  unfold stc at hk
  split at hk <;> try contradiction
  rename_i k es u hw ver hs
  obtain ⟨es', hg, hst, e, hi, t0, hf, hk⟩ := hk
  obtain ⟨b', c, vs, ty, hv, hG, hh, hsz, hic, _, _, _⟩ := ae_at (S := st.sto) h.ok hae hs hst hg hi
  cases hv
  have hfl := (List.getElem?_eq_some_iff.1 hf).1
  have hlt : i * e.length + f0 + j < vs.size := by rw [hsz]; have := idx_lt hic hfl; omega
  have hrun : ∀ {v}, v.oneCell' = true → (store ⟨b, i * e.length + f0 + j, none⟩ v).run P w = .ok () (w.setRow b (vs.setIfInBounds (i * e.length + (f0 + j)) v)) := fun {v} h1 => by
    rw [run_store1 hh hlt h1, Nat.add_assoc]
  split at hk
  · rename_i y
    obtain ⟨hsc, hk⟩ := hk
    have hx := hx trivial
    obtain ⟨rfl, hy⟩ := Rds.val hx
    exact ⟨_, _, _, hrun (cell_one hx hc), hk, step_sc h hs hg hst hi hf hsc hG hh hy⟩
  · obtain ⟨rfl, hk⟩ := hk
    have hx := hx trivial
    simp only [getp, Option.some.injEq] at hg
    subst hg
    obtain ⟨G', h2⟩ := step_sl h hs hi hf hG hh hx.2 (fun _ => rfl)
    exact ⟨_, G', _, hrun (cell_one hx hc), hk, h2⟩
  · obtain ⟨rfl, hk⟩ := hk
    have hx := hx trivial
    simp only [getp, Option.some.injEq] at hg
    subst hg
    obtain ⟨G', h2⟩ := step_tree h hs hi hf hG hh hx.2
    exact ⟨_, G', _, hrun (cell_one hx hc), hk, h2⟩
  · obtain ⟨rfl, hk⟩ := hk
    have hx := hx trivial
    simp only [getp, Option.some.injEq] at hg
    subst hg
    obtain ⟨G', h2⟩ := step_tree h hs hi hf hG hh hx
    exact ⟨_, G', _, hrun (cell_one hx hc), hk, h2⟩
  · rename_i id2 len s2
    obtain ⟨rfl, hne, hl2, hk⟩ := hk
    split at hk <;> try contradiction
    rename_i k2 zs u2 hw2 ver2 hs2
    obtain ⟨rfl, rfl, hk⟩ := hk
    have hx := hx (by show (st.sto id2).isSome = true; rw [hs2]; rfl)
    simp only [getp, Option.some.injEq] at hg
    subst hg
    by_cases huu : (u && u2) = true
    · simp only [Bool.and_eq_true] at huu
      obtain ⟨rfl, rfl⟩ := huu
      obtain ⟨G', h2⟩ := step_abs h hs hs2 hne hl2 hi hf hG hh hx
      exact ⟨_, G', _, hrun (cell_one hx hc), hk, h2⟩
    · rw [Bool.not_eq_true] at huu
      rw [huu] at hk
      obtain ⟨h3, h4⟩ := kill_tree h hs2 hl2 hx
      have hs' : (kill id2 st).sto id = some (.ar k es u hw ver) := by
        by_cases hid : id.1 = st.lvl
        · rw [kill_in hid hl2, if_neg (fun e => hne e.symm), hs]; rfl
        · rw [kill_out hid, hs]
      obtain ⟨G', h5⟩ := step_tree h3.sim hs' hi hf hG hh h4
      exact ⟨_, G', _, hrun (cell_one hx hc), hk, h3.trans h5⟩
  · contradiction

theorem Stp.ae {st' : St} (h : Stp F a G st st' w w' G') {id : Oid} {p : Pth} {i f s : Nat} {v : Value} (hl : (st'.sto id).isSome = true) (hv : aeR G st.sto id p i f s v) : aeR G' st'.sto id p i f s v :=
  h.vr (.ae id p i f s) v hl hv

theorem run_stcs : ∀ (l : List IV) (vs : List Value) (j : Nat) (st : St) (G : Gh) (w : World) (K : St → Prop) (id : Oid) (p : Pth) (i f0 s b o : Nat), Sim F G st a w → aeR G st.sto id p i f0 s (.pointer (some ⟨b, o, none⟩)) → vs.length = l.length →
    (∀ (n : Nat) (x : IV) (v : Value), l[n]? = some x → vs[n]? = some v → men (fun i => (st.sto i).isSome = true) x → VR G st.sto w x v) → (∀ x ∈ l, isCell x = true) → stcs id p i s (f0 + j) l st K →
    ∃ w' G' st', (storeCells ⟨b, o, none⟩ vs j).run P w = .ok () w' ∧ K st' ∧ Stp F a G st st' w w' G'
  | [], vs, j, st, G, w, K, id, p, i, f0, s, b, o, h, hae, hl, hv, hc, hk => by
    simp at hl; subst hl
    exact ⟨w, G, st, rfl, hk, Stp.refl h⟩
  | x :: r, [], j, st, G, w, K, id, p, i, f0, s, b, o, h, hae, hl, hv, hc, hk => by simp at hl
  | x :: r, v :: vs, j, st, G, w, K, id, p, i, f0, s, b, o, h, hae, hl, hv, hc, hk => by
    simp only [stcs] at hk
    obtain ⟨w1, G1, st1, hr1, hk1, hs1⟩ := step_stc (P := P) h hae (hv 0 x v rfl rfl) (hc x (by simp)) hk
    have hk1 : stcs id p i s (f0 + (j + 1)) r st1 K := hk1
    have hlive : r ≠ [] → (st1.sto id).isSome = true := fun hr => by
      cases r with
      | nil => exact absurd rfl hr
      | cons y r =>
        simp only [stcs, stc] at hk1
        split at hk1 <;> try contradiction
        rename_i hs; rw [hs]; rfl
    by_cases hr : r = []
    · subst hr
      simp at hl; subst hl
      exact ⟨w1, G1, st1, by simp only [storeCells, add_mk, Sem.run_bind, hr1, Result.andThen_ok]; rfl, hk1, hs1⟩
    · obtain ⟨w2, G2, st2, hr2, hk2, hs2⟩ := run_stcs r vs (j + 1) st1 G1 w1 K id p i f0 s b o hs1.sim (hs1.ae (hlive hr) hae) (by simpa using hl)
        (fun n y u hy hu hm => hs1.vr y u hm (hv (n + 1) y u (by simpa using hy) (by simpa using hu) (men_mono (fun i hi => hs1.live i hi) y hm))) (fun y hy => hc y (by simp [hy])) hk1
      exact ⟨w2, G2, st2, by simp only [storeCells, add_mk, Sem.run_bind, hr1, Result.andThen_ok, hr2], hk2, hs1.trans hs2⟩

def LOk (P : Program) (F : Fr) (a : Act) (w : World) (oper : Oper) (K : St → Prop) : Prop :=
  Res P oper a w fun v w' => ∃ st' G', K st' ∧ Sim F G' st' (a.put oper.dst v) w'

theorem ew_st (h : Sim F G st a w) {m : Nat} {p x : X} {d : Option Nat} {K : St → Prop} (hd : d = oper.dst) (hc : chkO P (.st m p x) oper.op = true) (he : ew C d st K (.st m p x)) : LOk P F a w oper K := by
  simp only [chkO] at hc
  split at hc <;> try contradiction
  rename_i t y v ho
  simp only [Bool.and_eq_true, beq_iff_eq] at hc
  obtain ⟨⟨hsz, hp⟩, hx⟩ := hc
  have hp := h.x hp
  have hx := h.x hx
  simp only [ew] at he
  obtain ⟨hdn, he⟩ := he
  subst hd
  split at he <;> try contradiction
  rename_i l hcl
  obtain ⟨hl, he⟩ := he
  obtain ⟨hvs, hcell⟩ := cellsOf_vr hx hcl
  have hlen : (a.eval v).cells.toList.length = l.length := VRs_length hvs
  have hrun : ∀ {ad : Addr} {w'}, a.eval y = .pointer (some ad) → (storeCells ad (a.eval v).cells.toList).run P w = .ok () w' → (execOp a.eval oper).run P w = .ok .skip w' := fun {ad w'} hy hr => by
    have hs1 : (Go.sizeOf t).run P w = .ok m w := run_szT hsz
    have hne : ¬ (a.eval v).cells.size ≠ m := by rw [← hl, ← hlen]; simp
    have hne2 : (a.eval v).cells.size = m := by simpa using hne
    simp [execOp, ho, Instr.storeAt, Instr.sureAddr, hy, storeVar, hs1, hne2, hr]
  have hput : ∀ u, a.put oper.dst u = a := fun u => by rw [hdn]; rfl
  split at he <;> try contradiction
  · rename_i id off hq
    rw [hq] at hp
    split at he <;> try contradiction
    rename_i cells hs
    obtain ⟨hle, hlo, hk⟩ := he
    obtain ⟨cells', b, c, hs', hG, hv⟩ := hp
    rw [hs] at hs'; cases hs'
    obtain ⟨b2, c2, vs, ty, hG2, hh, hcs⟩ := h.ok.obs _ _ hs
    rw [hG] at hG2; cases hG2
    have hcl2 := VRs_length hcs
    have hvl : vs.size = cells.length := by simpa using hcl2
    have hone : ∀ u ∈ (a.eval v).cells.toList, u.oneCell' = true := fun u hu => by
      obtain ⟨n, hn⟩ := List.getElem?_of_mem hu
      have hnl : n < l.length := by rw [← hlen]; exact (List.getElem?_eq_some_iff.1 hn).1
      obtain ⟨u', hu', hr⟩ := VRs_get hvs n l[n] (by simp [hnl])
      rw [hn] at hu'; cases hu'
      exact cell_one hr (hcell _ (by simp))
    have hst := run_storeCells_at P b off ty (a.eval v).cells.toList 0 vs w hh (by rw [hlen, hvl]; simpa using hle) hone
    refine Res.of_skip (hrun hv hst) ?_
    rw [hput]
    generalize hnew : (vs.toList.take (off + 0) ++ (a.eval v).cells.toList ++ vs.toList.drop (off + 0 + (a.eval v).cells.toList.length)).toArray = vs2
    have hb0 : own1 G id (.bx cells) b := ⟨c, hG⟩
    have ht := h.turn (Kl.refl st) (id := id) (ob' := .bx (setAt cells off l)) (d := none) (x := .un) (v := undef) (G' := G) (w' := w.setRow b vs2) (fun h => h) (.inr (by rw [hs]; rfl)) (fun _ _ => rfl) (by simp)
      (fun blk _ hn => setRow_other w b blk _ (fun hbb => by subst hbb; exact hn _ hs hb0))
      (fun blk ho => .inl ⟨id, _, .inl rfl, hs, ho⟩)
      (fun ob ho => by rw [hs] at ho; cases ho; exact rfl)
      rfl rfl rfl (fun t => ⟨b, c, vs2, ty, hG, setRow_heap w b vs _ ty (0, 0) hh, ?_⟩) (fun cs hcs => ?_) (fun _ he => by cases he) (fun _ => trivial)
    · rw [setOb_same] at ht
      exact ⟨_, _, hk, ht.1⟩
    · have hsv := setAt_vr l (a.eval v).cells.toList cells vs off hvs hcs hle
      have heq : (((a.eval v).cells.toList.zipIdx.foldl (fun (cs : Array Value) (cj : Value × Nat) => cs.setIfInBounds (off + cj.2) cj.1) vs)) = vs2 := by
        rw [← hnew]
        apply Array.ext'
        have gen : ∀ (us : List Value) (k : Nat) (cs : Array Value), off + k + us.length ≤ cs.size → ((us.zipIdx k).foldl (fun (cs : Array Value) (cj : Value × Nat) => cs.setIfInBounds (off + cj.2) cj.1) cs).toList = cs.toList.take (off + k) ++ us ++ cs.toList.drop (off + k + us.length) := by
          intro us
          induction us with
          | nil => intro k cs _; simp
          | cons u us ih =>
            intro k cs hle
            simp only [List.zipIdx_cons, List.foldl_cons, List.length_cons] at hle ⊢
            rw [ih (k + 1) _ (by simp; omega)]
            simp only [Array.toList_setIfInBounds]
            have hlt : off + k < cs.toList.length := by simp; omega
            have e1 : (cs.toList.set (off + k) u).take (off + (k + 1)) = cs.toList.take (off + k) ++ [u] := by
              apply List.ext_getElem?
              intro n
              simp only [List.getElem?_take, List.getElem?_append, List.getElem?_set, List.length_take]
              have : min (off + k) cs.toList.length = off + k := by omega
              rw [this]
              by_cases h1 : n < off + k
              · have h2 : n < off + (k + 1) := by omega
                have h3 : ¬ off + k = n := by omega
                simp [h1, h2, h3]
              · by_cases h2 : n = off + k
                · subst h2
                  have h3 : off + k < cs.size := by simpa using hlt
                  have h4 : off + k < off + (k + 1) := by omega
                  simp [h3, h4]
                · have h3 : ¬ n < off + (k + 1) := by omega
                  have h4 : n - (off + k) ≠ 0 := by omega
                  simp [h1, h3]
                  omega
            have e2 : (cs.toList.set (off + k) u).drop (off + (k + 1) + us.length) = cs.toList.drop (off + k + (us.length + 1)) := by
              rw [List.drop_set_of_lt (by omega)]
              congr 1
              omega
            rw [e1, e2]
            simp
        have := gen (a.eval v).cells.toList 0 vs (by rw [hlen, hvl]; simpa using hle)
        simpa using this
      rw [heq] at hsv
      exact t.vrs _ _ (mens_mono (fun _ _ h => h) _ (mens_true _)) hsv
    · cases hcs
      have : ∀ (l cells : List IV) (off : Nat), lows (id.1 + 1) l → lows (id.1 + 1) cells → lows (id.1 + 1) (setAt cells off l) := by
        intro l
        induction l with
        | nil => intro cells off _ h; exact h
        | cons x r ih =>
          intro cells off h1 h2
          refine ih _ _ h1.2 ?_
          have : ∀ (cells : List IV) (off : Nat), lows (id.1 + 1) cells → lows (id.1 + 1) (cells.set off x) := by
            intro cells
            induction cells with
            | nil => intro off h; exact h
            | cons y r ih =>
              intro off h
              cases off with
              | zero => exact ⟨h1.1, h.2⟩
              | succ n => exact ⟨h.1, ih n h.2⟩
          exact this cells off h2
      exact this l cells off hlo (h.ok.low _ _ hs)
  · rename_i id p i f s hq
    rw [hq] at hp
    obtain ⟨⟨ad, hv⟩, hrest⟩ := hp
    have hp2 : aeR G st.sto id p i f s (a.eval y) := ⟨⟨ad, hv⟩, hrest⟩
    have hfin : ∃ b o, ad = ⟨b, o, none⟩ ∨ l = [] := by
      cases l with
      | nil => exact ⟨0, 0, .inr rfl⟩
      | cons x r =>
        simp only [stcs, stc] at he
        split at he <;> try contradiction
        rename_i k es u hw ver hs
        obtain ⟨es', hg, hst, e, hi, _⟩ := he
        obtain ⟨b', c, vs, ty, hv2, _⟩ := ae_at (S := st.sto) h.ok hp2 hs hst hg hi
        rw [hv] at hv2
        cases hv2
        exact ⟨b', _, .inl rfl⟩
    obtain ⟨b, o, hado⟩ := hfin
    rcases hado with rfl | hl0
    · rw [hv] at hp2
      obtain ⟨w', G', st', hr, hk, hs⟩ := run_stcs (P := P) l (a.eval v).cells.toList 0 st G w K id p i f s b o h hp2 hlen
        (fun n x u hx hu _ => by
          obtain ⟨u', hu', hr⟩ := VRs_get hvs n x hx
          rw [hu] at hu'; cases hu'; exact hr) hcell he
      refine Res.of_skip (hrun hv hr) ?_
      rw [hput]
      exact ⟨st', G', hk, hs.sim⟩
    · subst hl0
      have hnil : (a.eval v).cells.toList = [] := List.eq_nil_of_length_eq_zero hlen
      refine Res.of_skip (hrun hv (w' := w) (by rw [hnil]; rfl)) ?_
      rw [hput]
      exact ⟨st, G, he, h⟩
theorem stq_stcs {id : Oid} {p : Pth} {i s k : Nat} {u : Bool} {hw ver : Nat} (hst : stamp p s hw ver u) : ∀ (l : List IV) (f : Nat) (es : Row) (st0 : St) (K : St → Prop), st0.sto id = some (.ar k es u hw ver) → stq p i f l es (fun es' => K (setOb st0 id (.ar k es' u hw ver))) → (l = [] → K st0) → stcs id p i s f l st0 K
  | [], f, es, st0, K, _, _, h0 => h0 rfl
  | x :: r, f, es, st0, K, hs, h, hnil => by
    clear hnil
    simp only [stq] at h
    obtain ⟨es', hg, e, hi, t0, hf, hsc, h⟩ := h
    split at h <;> try contradiction
    rename_i y
    simp only [stcs, stc]
    rw [hs]
    refine ⟨es', hg, hst, e, hi, t0, hf, hsc, ?_⟩
    have hs1 : (setOb st0 id (.ar k (setp es p i f (.v y)) u hw ver)).sto id = some (.ar k (setp es p i f (.v y)) u hw ver) := by rw [setOb_sto]; unfold sset; rw [if_pos rfl]
    refine stq_stcs hst r (f + 1) _ _ K hs1 (by simp only [setOb_setOb]; exact h) (fun hr => ?_)
    subst hr
    exact h
theorem ew_s0 (h : Sim F G st a w) {m : Nat} {p x : X} {d : Option Nat} {K : St → Prop} (hd : d = oper.dst) (hc : chkO P (.s0 m p x) oper.op = true) (he : ew C d st K (.s0 m p x)) : LOk P F a w oper K := by
  have hc' : chkO P (.st m p x) oper.op = true := by simpa only [chkO] using hc
  refine ew_st (C := C) h hd hc' ?_
  simp only [ew, qeff] at he ⊢
  obtain ⟨hdn, he⟩ := he
  refine ⟨hdn, ?_⟩
  split at he <;> try contradiction
  rename_i l hcl
  obtain ⟨hl, he⟩ := he
  refine ⟨hl, ?_⟩
  split at he <;> try contradiction
  · exact he
  · rename_i id p i f s hq
    split at he <;> try contradiction
    rename_i k es u hw ver hs
    exact stq_stcs he.2.1 l f es st K hs he.2.2 (fun hn => absurd hn he.1)
end
end Go.Fd

namespace Go.Fd

section
variable {P : Program} {F : Fr} {G G' : Gh} {S S' : Sto} {st st1 st2 : St} {a : Act} {w w' : World} {C : Contract} {oper : Oper} {D D2 : Oid → Prop}

theorem OOk_row {id : Oid} {k : Nat} {es : Row} {u : Bool} {hw ver b c : Nat} {vs : Array Value} {ty : TypeId} (hG : G' id [] = some (b, c)) (hh : w'.heap[b]? = some (.cells vs ty (0, 0))) (hsz : vs.size = c * k) (hle : es.length ≤ hw) (hc : hw ≤ c) (hk : UnR k es)
    (hcell : ∀ (i : Nat) (e : List Tr) (f : Nat) (t : Tr), es[i]? = some e → e[f]? = some t → ∃ x, vs[i * k + f]? = some x ∧ cellR G' w' (Av G' S' w') id [] u i f x t)
    (hsub : u = true → ∀ (i f : Nat) (e : List Tr) (zs : Row) (q : Pth) (es2 : Row), es[i]? = some e → e[f]? = some (.sl zs) → getp zs q = some es2 → rowR G' w' (Av G' S' w') id ((i, f) :: q) k u es2)
    (hinj : u = true → ∀ p p' b1 c1 c2, p ≠ [] → p' ≠ [] → (getp es p).isSome = true → (getp es p').isSome = true → G' id p = some (b1, c1) → G' id p' = some (b1, c2) → p = p')
    (hroot : u = true → ∀ p c1, p ≠ [] → (getp es p).isSome = true → G' id p ≠ some (b, c1)) : OOk G' S' w' id (.ar k es u hw ver) := by
  refine ⟨hle, hk, by rw [hG]; exact hc, fun p es2 hp he => ?_, fun p p' b1 c1 c2 hp hp' h1 h2 g1 g2 => ?_⟩
  · cases p with
    | nil =>
      simp only [getp, Option.some.injEq] at he
      subst he
      unfold rowR
      rw [hG]
      exact ⟨k, vs, ty, fun _ => rfl, hk, hh, hsz, Nat.le_trans hle hc, hcell⟩
    | cons cd q =>
      obtain ⟨c1, d1⟩ := cd
      have hu : u = true := by rcases hp with hp | hp; · cases hp
                               · exact hp
      obtain ⟨e, zs, g1, g2, g3⟩ := getp_cons he
      exact hsub hu c1 d1 e zs q es2 g1 g2 g3
  · by_cases hp0 : p = [] <;> by_cases hp1 : p' = []
    · rw [hp0, hp1]
    · subst hp0
      rw [hG] at g1; cases g1
      exact absurd g2 (hroot (hp'.resolve_left hp1) p' c2 hp1 h2)
    · subst hp1
      rw [hG] at g2; cases g2
      exact absurd g1 (hroot (hp.resolve_left hp0) p c1 hp0 h1)
    · exact hinj (hp.resolve_left hp0) p p' b1 c1 c2 hp0 hp1 h1 h2 g1 g2

theorem Kl.av (k : Kl D st st1) : ∀ b, Av G st.sto w b → Av G st1.sto w b := fun b hb => ⟨hb.1, fun i ob hs ho => by
  obtain ⟨_, ob0, h1, h2⟩ := k.only i ob hs
  exact hb.2 i ob0 h1 (h2.own.1 ho)⟩
theorem Kl.av_dead (h : SOk G st.sto w) (k : Kl D st st1) {j : Oid} {ob : Ob} (hD : D j) (hs : st.sto j = some ob) {b : Nat} (ho : own1 G j ob b) : Av G st1.sto w b := ⟨own_lt (h.obs _ _ hs) ho, fun i ob1 hs1 ho1 => by
  obtain ⟨hd, ob0, h1, h2⟩ := k.only i ob1 hs1
  exact hd ((h.dis _ _ _ _ b h1 hs (h2.own.1 ho1) ho) ▸ hD)⟩

theorem core_new (h : Sim F G st a w) (kl : Kl D st st1) {d : Option Nat} {key k c : Nat} {es : Row} {u : Bool} {vs : Array Value} {ty : TypeId} {N : Pth → Option (Nat × Nat)} (hkey : st.sto (st.lvl, key) = none) (hd : ∀ y, d = some y → y < F.nt)
    (e : Ext w w') (hh : w'.heap[w.heap.size]? = some (.cells vs ty (0, 0))) (hsz : vs.size = c * k) (hc : es.length ≤ c) (hk : UnR k es)
    (hcell : ∀ (i : Nat) (e : List Tr) (f : Nat) (t : Tr), es[i]? = some e → e[f]? = some t → ∃ x, vs[i * k + f]? = some x ∧ cellR (fun _ => N) w (Av G st1.sto w) (0, 0) [] u i f x t)
    (hsub : u = true → ∀ (i f : Nat) (e : List Tr) (zs : Row) (q : Pth) (es2 : Row), es[i]? = some e → e[f]? = some (.sl zs) → getp zs q = some es2 → rowR (fun _ => N) w (fun _ => False) (0, 0) ((i, f) :: q) k u es2)
    (hsrc : u = true → ∀ p b1 c1, p ≠ [] → (getp es p).isSome = true → N p = some (b1, c1) → ∃ j ob, D j ∧ st.sto j = some ob ∧ own1 G j ob b1)
    (hinj : u = true → ∀ p p' b1 c1 c2, p ≠ [] → p' ≠ [] → (getp es p).isSome = true → (getp es p').isSome = true → N p = some (b1, c1) → N p' = some (b1, c2) → p = p') :
    ∃ G', Sim F G' { setOb st1 (st.lvl, key) (.ar k es u es.length 0) with env := ptd d (.hd (st.lvl, key) [] 0 es.length none es.length) st1.env } (a.put d (.slice (some ⟨w.heap.size, 0, none⟩) es.length c)) w' := by
  let id : Oid := (st.lvl, key)
  let G' : Gh := fun j => if j = id then fun p => if p = [] then some (w.heap.size, c) else N p else G j
  have hG0 : G' id [] = some (w.heap.size, c) := by simp [G']
  have hG1 : ∀ p, p ≠ [] → G' id p = N p := fun p hp => by simp [G', hp]
  have hGo : ∀ j, j ≠ id → G' j = G j := fun j hj => by simp [G', hj]
  have hnone : ∀ ob, st.sto id ≠ some ob := fun ob ho => by rw [hkey] at ho; cases ho
  have hlt : ∀ j ob b1, st.sto j = some ob → own1 G j ob b1 → b1 < w.heap.size := fun j ob b1 h1 h2 => own_lt (h.ok.obs _ _ h1) h2
  have hav : ∀ b, Av G st1.sto w b → Av G' (sset st1.sto id (.ar k es false es.length 0)) w' b := fun b hb => ⟨Nat.lt_of_lt_of_le hb.1 e.size, fun j ob hj ho => by
    unfold sset at hj
    split at hj
    · rename_i hji
      cases hj
      obtain ⟨p, c1, hp, _, hg⟩ := ho
      have hp0 : p = [] := by rcases hp with h | h; · exact h
                              · cases h
      subst hp0
      rw [hji, hG0] at hg
      cases hg
      exact absurd hb.1 (Nat.lt_irrefl _)
    · rename_i hji
      exact hb.2 j ob hj ((own1_gh (hGo j hji)).1 ho)⟩
  have hnd : ¬ D id := fun hD => by
    have := kl.was id hD
    rw [hkey] at this
    cases this
  refine ⟨G', (h.turn kl (id := id) (ob' := .ar k es u es.length 0) (d := d) (G' := G') (w' := w') hnd (.inl rfl) hGo e.size (fun b hb _ => e.heap b hb) (fun b ho => ?_) (fun ob ho => absurd ho (hnone ob)) e.os e.tape e.output (fun t => ?_) (fun _ he => by cases he) hd (fun t => ?_)).1⟩
  · obtain ⟨p, c1, hp, hs, hg⟩ := ho
    by_cases hp0 : p = []
    · subst hp0
      rw [hG0] at hg; cases hg
      exact .inr (Nat.le_refl _)
    · rw [hG1 p hp0] at hg
      obtain ⟨j, ob, h1, h2, h3⟩ := hsrc (hp.resolve_left hp0) p b c1 hp0 hs hg
      exact .inl ⟨j, ob, .inr h1, h2, h3⟩
  · refine OOk_row hG0 hh hsz (Nat.le_refl _) hc hk (fun i e0 f t0 hi hf => ?_) (fun hu i f e0 zs q es2 hi hf hq => ?_) (fun hu p p' b1 c1 c2 hp hp' h1 h2 g1 g2 => ?_) (fun hu p c1 hp h1 hg => ?_)
    · obtain ⟨x, hx, hr⟩ := hcell i e0 f t0 hi hf
      refine ⟨x, hx, cellR_keep2 (G := fun _ => N) (id := (0, 0)) (p := []) (fun _ => hG1 _ (by simp)) (fun hu b hb => ?_) (fun b hb => e.heap b hb.1) hr⟩
      subst hu
      exact hav b hb
    · refine rowR_keep2 (G := fun _ => N) (id := (0, 0)) (p := (i, f) :: q) (A := fun _ => False) (hG1 _ (by simp)) (fun _ r => hG1 _ (by simp)) (fun hu2 => by rw [hu] at hu2; cases hu2) (fun b hb => hb.elim) (fun h => by cases h) (fun b1 c1 hg => e.heap b1 ?_) (hsub hu i f e0 zs q es2 hi hf hq)
      obtain ⟨j, ob, h1, h2, h3⟩ := hsrc hu ((i, f) :: q) b1 c1 (by simp) (by rw [getp_mk hi hf hq]; rfl) hg
      exact hlt j ob b1 h2 h3
    · rw [hG1 p hp] at g1
      rw [hG1 p' hp'] at g2
      exact hinj hu p p' b1 c1 c2 hp hp' h1 h2 g1 g2
    · rw [hG1 p hp] at hg
      obtain ⟨j, ob, h2, h3, h4⟩ := hsrc hu p _ c1 hp h1 hg
      exact absurd (hlt j ob _ h3 h4) (Nat.lt_irrefl _)
  · refine ⟨⟨_, _, rfl, hc⟩, k, es, u, es.length, 0, by unfold sset; rw [if_pos rfl], Nat.le_refl _, fun _ => ⟨es, k, _, c, rfl, fun _ => rfl, hk, rfl, hc, fun m hm => by simp at hm, fun _ _ => by rw [hG0]; simp [capOf], .inr (.inr ⟨w.heap.size, c, hG0, by simp, by simp⟩)⟩⟩

structure Src (G : Gh) (st : St) (D : Oid → Prop) (t : Tr) (v : Value) (j : Oid) : Prop where
  dead : D j
  lvl : j.1 = st.lvl
  obj : ∃ k2 zs hw2 ver2, st.sto j = some (.ar k2 zs true hw2 ver2) ∧ t = .sl zs ∧ hdR G st.sto j [] 0 zs.length none hw2 v

theorem mvcs_ok (h : Sim F G st a w) : ∀ (l : List IV) (vs : List Value) (st1 : St) (D : Oid → Prop) (K : List Tr → Bool → St → Prop), Kl D st st1 → VRs G st.sto w l vs → mvcs l st1 K →
    ∃ (ts : List Tr) (u : Bool) (st2 : St) (D2 : Oid → Prop) (src : Nat → Option Oid), K ts u st2 ∧ Kl D2 st st2 ∧ (∀ i, D i → D2 i) ∧ ts.length = l.length ∧ (∀ (f : Nat) (t : Tr) (v : Value), ts[f]? = some t → vs[f]? = some v → Rds w (Av G st2.sto w) v t) ∧
      (u = true → ∀ (f : Nat) (t : Tr) (v : Value), ts[f]? = some t → vs[f]? = some v → match src f with | none => flatT t | some j => Src G st D2 t v j) ∧ (∀ f j, src f = some j → ¬ D j) ∧ ∀ f f' j, src f = some j → src f' = some j → f = f'
  | [], vs, st1, D, K, k, hv, hk => ⟨[], true, st1, D, fun _ => none, hk, k, fun _ h => h, rfl, fun f t v h => by simp at h, fun _ f t v h => by simp at h, fun _ _ h => (by cases h), fun _ _ _ h => (by cases h)⟩
  | x :: r, vs, st1, D, K, k, hv, hk => by
    simp only [VRs] at hv
    obtain ⟨v, vr, rfl, hv, hvr⟩ := hv
    simp only [mvcs, mvc] at hk
    split at hk
    · rename_i id2 len s2
      obtain ⟨hl2, hk⟩ := hk
      split at hk <;> try contradiction
      rename_i k2 zs u2 hw2 ver2 hs2
      obtain ⟨rfl, rfl, hk⟩ := hk
      obtain ⟨hd2, ob0, hs0, hwk⟩ := k.only _ _ hs2
      have hob : ob0 = .ar k2 zs u2 s2 ver2 := by cases hwk; rfl
      subst hob
      have hl2 : id2.1 = st.lvl := hl2.trans k.lvl
      have k1 := k.step (fun j cells hj => h.ok.low j cells hj) h.outl hl2 (by rw [hs0]; rfl)
      obtain ⟨ts, u, st2, D2, src, h1, h2, h3, h4, h5, h6, h7, h8⟩ := mvcs_ok h r vr (kill id2 st1) _ _ k1 hvr hk
      have hx : hdR G st.sto id2 [] 0 zs.length none s2 v := hv
      have hD2 : D2 id2 := h3 _ (.inr rfl)
      refine ⟨.sl zs :: ts, u2 && u, st2, D2, fun f => match f with | 0 => some id2 | f + 1 => src f, h1, h2, fun i hi => h3 i (.inl hi), by simp [h4], fun f t v' hf hv' => ?_, fun hu f t v' hf hv' => ?_, fun f j hf => ?_, fun f f' j hf hf' => ?_⟩
      · cases f with
        | zero =>
          simp at hf hv'
          subst hf; subst hv'
          have := (hd_reads (A := Av G st2.sto w) h.ok (fun _ => h2.av) hs0 (fun b hb => h2.av_dead h.ok hD2 hs0 hb) hx (rfl : stamp [] s2 s2 ver2 u2) rfl (by simp)).1
          simpa [cut] using this
        | succ f => exact h5 f t v' (by simpa using hf) (by simpa using hv')
      · simp only [Bool.and_eq_true] at hu
        obtain ⟨rfl, hu⟩ := hu
        cases f with
        | zero =>
          simp at hf hv'
          subst hf; subst hv'
          exact ⟨hD2, hl2, k2, zs, s2, ver2, hs0, rfl, hx⟩
        | succ f => exact h6 hu f t v' (by simpa using hf) (by simpa using hv')
      · cases f with
        | zero => simp at hf; subst hf; exact hd2
        | succ f => exact fun hd => h7 f j hf (.inl hd)
      · cases f with
        | zero =>
          simp at hf; subst hf
          cases f' with
          | zero => rfl
          | succ f' => exact absurd (.inr rfl) (h7 f' _ hf')
        | succ f =>
          cases f' with
          | zero => simp at hf'; subst hf'; exact absurd (.inr rfl) (h7 f _ hf)
          | succ f' => rw [h8 f f' j hf hf']
    · split at hk <;> try contradiction
      rename_i t q ht
      obtain ⟨ts, u, st2, D2, src, h1, h2, h3, h4, h5, h6, h7, h8⟩ := mvcs_ok h r vr st1 _ _ k hvr hk
      obtain ⟨r1, r2⟩ := totr_vr hv ht
      refine ⟨t :: ts, q && u, st2, D2, fun f => match f with | 0 => none | f + 1 => src f, h1, h2, h3, by simp [h4], fun f t v' hf hv' => ?_, fun hu f t v' hf hv' => ?_, fun f j hf => ?_, fun f f' j hf hf' => ?_⟩
      · cases f with
        | zero =>
          simp at hf hv'
          subst hf; subst hv'
          exact Rds.mono h2.av (fun _ _ => rfl) r1
        | succ f => exact h5 f t v' (by simpa using hf) (by simpa using hv')
      · simp only [Bool.and_eq_true] at hu
        cases f with
        | zero =>
          simp at hf hv'
          subst hf; subst hv'
          exact r2 hu.1
        | succ f => exact h6 hu.2 f t v' (by simpa using hf) (by simpa using hv')
      · cases f with
        | zero => cases hf
        | succ f => exact h7 f j hf
      · cases f with
        | zero => cases hf
        | succ f =>
          cases f' with
          | zero => cases hf'
          | succ f' => rw [h8 f f' j hf hf']
end
end Go.Fd

namespace Go.Fd

section
variable {P : Program} {F : Fr} {G G' : Gh} {S S' : Sto} {st st1 st2 : St} {a : Act} {w w' : World} {C : Contract} {oper : Oper} {D D2 : Oid → Prop}

theorem Rds.cell {G : Gh} {A : Nat → Prop} {id : Oid} {p : Pth} {u : Bool} {i f : Nat} {x : Value} {t : Tr} (h : Rds w A x t) (hu : u = true → flatT t) : cellR G w A id p u i f x t := by
  cases t with
  | v y => exact h.val
  | sl es =>
    simp only [cellR]
    split
    · rename_i hu'
      have := hu hu'
      simp only [flatT] at this
      subst this
      obtain ⟨a, c, rfl⟩ := Rds.empty h
      exact ⟨a, c, rfl, Nat.zero_le _, .inl rfl⟩
    · exact h
theorem Src.cell {N : Gh} {A : Nat → Prop} {id : Oid} {p : Pth} {i f : Nat} {x : Value} {t : Tr} {j : Oid} (h : Src G st D t x j) (hN : N id (p ++ [(i, f)]) = G j []) : cellR N w A id p true i f x t := by
  obtain ⟨_, _, k2, zs, hw2, ver2, hs2, rfl, hx⟩ := h
  simp only [cellR, if_true]
  obtain ⟨⟨a0, c0, hx0, hle⟩, k3, es3, u3, hw3, ver3, g1, _, g2⟩ := hx
  rw [hs2] at g1; cases g1
  obtain ⟨es4, k4, ad, cc, e1, e2, e3, e4, e5, e6, e7, e8⟩ := g2 rfl
  refine ⟨ad, cc, e4, e5, ?_⟩
  rcases e8 with h0 | ⟨h0, _⟩ | ⟨b1, c1, h1, h2, h3⟩
  · exact .inl (by omega)
  · exact absurd rfl h0
  · exact .inr ⟨b1, c1, hN.trans h1, by simpa using h2, by simpa using h3⟩

theorem fresh_sto {b : Nat} (h : freshK b st.loc 1) : st.sto (st.lvl, b) = none := by rw [sto_in rfl]; exact h.1

theorem ew_bw (h : Sim F G st a w) {k n : Nat} {z : List Value} {ps : List (Nat × X)} {d : Option Nat} {K : St → Prop} (hd : d = oper.dst) (hdn : ∀ y, d = some y → y < F.nt) (hc : chkO P (.bw k n z ps) oper.op = true) (he : ew C d st K (.bw k n z ps)) : LOk P F a w oper K := by
  subst hd
  simp only [chkO] at hc
  split at hc <;> try contradiction
  rename_i t len parts ho
  simp only [Bool.and_eq_true, chkSlice, decide_eq_true_eq, beq_iff_eq] at hc
  obtain ⟨⟨⟨hcs, hcp⟩, hk0⟩, hzl0⟩ := hc
  split at hcs <;> try contradiction
  rename_i e hel
  simp only [Bool.and_eq_true, beq_iff_eq, decide_eq_true_eq, Bool.or_eq_true] at hcs
  obtain ⟨⟨⟨hsz, rfl⟩, hsm⟩, hz⟩ := hcs
  have hu := elemT_eq hel
  obtain ⟨ie, hie, hks⟩ := szT_info hsz
  simp only [ew] at he
  split at he <;> try contradiction
  rename_i x
  obtain ⟨rfl, he⟩ := he
  split at he <;> try contradiction
  rename_i l hcl
  obtain ⟨hl, hfr, he⟩ := he
  obtain ⟨parts⟩ := parts
  cases parts with
  | nil => simp [chkPartsS] at hcp
  | cons py rest =>
  obtain ⟨i0, y⟩ := py
  cases rest with
  | cons _ _ => simp [chkPartsS] at hcp
  | nil =>
  simp only [chkPartsS, Bool.and_eq_true, beq_iff_eq, Bool.and_true] at hcp
  obtain ⟨rfl, hxy⟩ := hcp
  obtain ⟨hvs, hcell⟩ := cellsOf_vr (h.x hxy) hcl
  have hlen : (a.eval y).cells.size = k := by rw [← hl]; simpa using VRs_length hvs
  obtain ⟨ts, u, st2, D2, src, h1, h2, _, h4, h5, h6, _, h8⟩ := mvcs_ok h l _ st _ _ (Kl.refl st) hvs he
  have htl : ts.length = k := by rw [h4, hl]
  -- the run
  have hzt := hz.resolve_left (by simp)
  obtain ⟨i2, zv, hi2, hzv, hzc, _⟩ := zeroT_info hzt.1
  rw [hie] at hi2; cases hi2
  let cells : Array Value := (Array.range (1 * ie.size)).map (zv.cells[· % zv.cells.size]!)
  have hcsz : cells.size = k := by simp [cells, hks]
  let out : Array Value := ((a.eval y).cells.zipIdx.foldl (fun (cs : Array Value) (cj : Value × Nat) => cs.setIfInBounds (0 * k + cj.2) cj.1) cells)
  have hfs := foldl_set_get (a.eval y).cells.toList 0 (0 * k) cells (by simp [hlen, hcsz])
  have hfold : out = ((a.eval y).cells.toList.zipIdx.foldl (fun (cs : Array Value) (cj : Value × Nat) => cs.setIfInBounds (0 * k + cj.2) cj.1) cells) := by
    simp only [out, ← Array.foldl_toList, Array.toList_zipIdx]
  rw [← hfold] at hfs
  have hrun : (execOp a.eval oper).run P w = .ok (.value (.slice (some ⟨w.heap.size, 0, none⟩) 1 1)) (w.alloc (.cells out e)) := by
    have hsm' : ¬ 1 * ie.size > 2 ^ 24 := by rw [hks]; omega
    have := run_buildSlice (P := P) w t e 1 #[(0, a.eval y)] out ie zv hu hie hzv hsm' (by rw [hks]; omega) (by
      simp only [Instr.fill]
      rw [if_neg (by simp [hlen, hks])]
      simp only [out, cells, hks])
    simp [execOp, ho, this]
  refine Res.of_run hrun ?_
  let N : Pth → Option (Nat × Nat) := fun p => match p with
    | (_, f) :: q => match src f with
      | some j => G j q
      | none => none
    | [] => none
  have es1 : ∀ {i : Nat} {e : List Tr}, [ts][i]? = some e → i = 0 ∧ e = ts := fun {i e} hi => by
    cases i with
    | zero => simp at hi; exact ⟨rfl, hi.symm⟩
    | succ i => simp at hi
  have vat : ∀ {f : Nat} {t : Tr}, ts[f]? = some t → ∃ v, (a.eval y).cells.toList[f]? = some v ∧ out[0 * k + f]? = some v := fun {f t} hf => by
    have hlt : f < k := by rw [← htl]; exact (List.getElem?_eq_some_iff.1 hf).1
    refine ⟨(a.eval y).cells.toList[f]'(by simpa [hlen] using hlt), by simp [hlen, hlt], ?_⟩
    rw [hfs.2, if_pos (by simp [hlen]; exact hlt), show 0 * k + f - (0 * k + 0) = f from by omega]
    simp [hlen, hlt]
  have hsrc1 : u = true → ∀ p b1 c1, p ≠ [] → (getp [ts] p).isSome = true → N p = some (b1, c1) → ∃ f q j k2 zs hw2 ver2, p = (0, f) :: q ∧ src f = some j ∧ G j q = some (b1, c1) ∧ D2 j ∧ st.sto j = some (.ar k2 zs true hw2 ver2) ∧ (getp zs q).isSome = true := by
    intro hu p b1 c1 hp hs hN
    cases p with
    | nil => exact absurd rfl hp
    | cons cd q =>
      obtain ⟨i, f⟩ := cd
      obtain ⟨es2, he2⟩ := Option.isSome_iff_exists.1 hs
      obtain ⟨e0, zs, g1, g2, g3⟩ := getp_cons he2
      obtain ⟨rfl, rfl⟩ := es1 g1
      simp only [N] at hN
      split at hN
      · rename_i j hj
        obtain ⟨v, hv, _⟩ := vat g2
        have := h6 hu f _ v g2 hv
        rw [hj] at this
        obtain ⟨r1, r2, k2, zs2, hw2, ver2, r3, r4, r5⟩ := this
        cases r4
        exact ⟨f, q, j, k2, zs, hw2, ver2, rfl, hj, hN, r1, r3, by rw [g3]; rfl⟩
      · cases hN
  obtain ⟨G', hG'⟩ := core_new h h2 (d := oper.dst) (key := keyOf oper.dst) (k := k) (c := 1) (es := [ts]) (u := u) (vs := out) (ty := e) (N := N) (fresh_sto hfr) hdn (Ext.alloc w (.cells out e)) (heap_alloc_new w _) (by rw [hfs.1, hcsz]; simp) (by simp)
    (fun e he => by simp at he; subst he; exact htl)
    (fun i e f t hi hf => by
      obtain ⟨rfl, rfl⟩ := es1 hi
      obtain ⟨v, hv, ho⟩ := vat hf
      refine ⟨v, ho, ?_⟩
      cases u with
      | false => exact Rds.cell (h5 f t v hf hv) (fun h => by cases h)
      | true =>
        have := h6 rfl f t v hf hv
        split at this
        · exact Rds.cell (h5 f t v hf hv) (fun _ => this)
        · rename_i j hj
          exact Src.cell this (by simp [N, hj]))
    (fun hu i f e zs q es2 hi hf hq => by
      obtain ⟨rfl, rfl⟩ := es1 hi
      obtain ⟨v, hv, _⟩ := vat hf
      have := h6 hu f _ v hf hv
      split at this
      · rename_i hj
        simp only [flatT] at this
        subst this
        obtain ⟨rfl, rfl⟩ := getp_nil hq
        unfold rowR
        simp [N, hj]
      · rename_i j hj
        obtain ⟨r1, r2, k2, zs2, hw2, ver2, r3, r4, r5⟩ := this
        cases r4
        have hr := (h.ok.obs _ _ r3).2.2.2.1 q es2 (.inr rfl) hq
        subst hu
        have hr2 := rowR_own (G1 := G) (G2 := G) (A' := fun _ => False) (i := j) rfl hr
        exact rowR_keep2 (G := G) (id := j) (p := q) (A := fun _ => False) (by simp [N, hj]) (fun _ r => by simp [N, hj]) (fun hu => by cases hu) (fun b hb => hb.elim) (fun h => by cases h) (fun _ _ _ => rfl) hr2)
    (fun hu p b1 c1 hp hs hN => by
      obtain ⟨f, q, j, k2, zs, hw2, ver2, rfl, hj, g1, g2, g3, g4⟩ := hsrc1 hu p b1 c1 hp hs hN
      exact ⟨j, _, g2, g3, q, c1, .inr rfl, g4, g1⟩)
    (fun hu p p' b1 c1 c2 hp hp' hs hs' hN hN' => by
      obtain ⟨f, q, j, k2, zs, hw2, ver2, rfl, hj, g1, g2, g3, g4⟩ := hsrc1 hu p b1 c1 hp hs hN
      obtain ⟨f', q', j', k2', zs', hw2', ver2', rfl, hj', g1', g2', g3', g4'⟩ := hsrc1 hu p' b1 c2 hp' hs' hN'
      have hjj := h.ok.dis _ _ _ _ b1 g3 g3' ⟨q, c1, .inr rfl, g4, g1⟩ ⟨q', c2, .inr rfl, g4', g1'⟩
      subst hjj
      rw [g3] at g3'; cases g3'
      rw [h8 f f' j hj hj', (h.ok.obs _ _ g3).2.2.2.2 q q' b1 c1 c2 (.inr rfl) (.inr rfl) g4 g4' g1 g1'])
  exact ⟨_, G', h1, hG'⟩
theorem ev_bv (h : Sim F G st a w) {K : Kind} {l0 b0 : Nat} {k n : Nat} {z : List Value} {ps : List (Nat × X)} (hl0 : l0 = st.lvl) (hfr : ∀ mk obs, K mk obs → Fresh st.sto l0 b0 (obs l0 b0).length) (hc : chkO P (.bv k n z ps) oper.op = true) (he : ev C (xv st.env) st.sto K (.bv k n z ps)) : EvOk P G st a w K l0 b0 oper := by
  simp only [chkO] at hc
  split at hc <;> try contradiction
  rename_i t len parts ho
  simp only [Bool.and_eq_true, chkSlice, decide_eq_true_eq, beq_iff_eq] at hc
  obtain ⟨⟨⟨hcs, hcp⟩, hk0⟩, hzl0⟩ := hc
  split at hcs <;> try contradiction
  rename_i e hel
  simp only [Bool.and_eq_true, beq_iff_eq, decide_eq_true_eq, Bool.or_eq_true] at hcs
  obtain ⟨⟨⟨hsz, rfl⟩, hsm⟩, hz⟩ := hcs
  have hu := elemT_eq hel
  obtain ⟨ie, hie, hks⟩ := szT_info hsz
  simp only [ev] at he
  split at he <;> try contradiction
  rename_i x
  obtain ⟨rfl, he⟩ := he
  split at he <;> try contradiction
  rename_i l hcl
  obtain ⟨hl, he⟩ := he
  have hfr := hfr _ _ he
  obtain ⟨parts⟩ := parts
  cases parts with
  | nil => simp [chkPartsS] at hcp
  | cons py rest =>
  obtain ⟨i0, y⟩ := py
  cases rest with
  | cons _ _ => simp [chkPartsS] at hcp
  | nil =>
  simp only [chkPartsS, Bool.and_eq_true, beq_iff_eq, Bool.and_true] at hcp
  obtain ⟨rfl, hxy⟩ := hcp
  obtain ⟨hvs, hcell⟩ := cellsOf_vr (h.x hxy) hcl
  have hlen : (a.eval y).cells.size = k := by rw [← hl]; simpa using VRs_length hvs
  -- the run
  have hzt := hz.resolve_left (by simp)
  obtain ⟨i2, zv, hi2, hzv, hzc, _⟩ := zeroT_info hzt.1
  rw [hie] at hi2; cases hi2
  let cells : Array Value := (Array.range (1 * ie.size)).map (zv.cells[· % zv.cells.size]!)
  have hcsz : cells.size = k := by simp [cells, hks]
  let out : Array Value := ((a.eval y).cells.zipIdx.foldl (fun (cs : Array Value) (cj : Value × Nat) => cs.setIfInBounds (0 * k + cj.2) cj.1) cells)
  have hfs := foldl_set_get (a.eval y).cells.toList 0 (0 * k) cells (by simp [hlen, hcsz])
  have hfold : out = ((a.eval y).cells.toList.zipIdx.foldl (fun (cs : Array Value) (cj : Value × Nat) => cs.setIfInBounds (0 * k + cj.2) cj.1) cells) := by
    simp only [out, ← Array.foldl_toList, Array.toList_zipIdx]
  rw [← hfold] at hfs
  have hrun : (execOp a.eval oper).run P w = .ok (.value (.slice (some ⟨w.heap.size, 0, none⟩) 1 1)) (w.alloc (.cells out e)) := by
    have hsm' : ¬ 1 * ie.size > 2 ^ 24 := by rw [hks]; omega
    have := run_buildSlice (P := P) w t e 1 #[(0, a.eval y)] out ie zv hu hie hzv hsm' (by rw [hks]; omega) (by
      simp only [Instr.fill]
      rw [if_neg (by simp [hlen, hks])]
      simp only [out, cells, hks])
    simp [execOp, ho, this]
  have hout : out.toList = (a.eval y).cells.toList := by
    apply List.ext_getElem?
    intro f
    by_cases hf : f < k
    · have := hfs.2 f
      rw [if_pos (by simp [hlen]; exact hf), show f - (0 * k + 0) = f from by omega] at this
      simpa using this
    · rw [List.getElem?_eq_none (by simp [hfs.1, hcsz]; omega), List.getElem?_eq_none (by simp [hlen]; omega)]
  refine Res.of_run (v := .slice (some ⟨w.heap.size, 0, none⟩) 1 1) (w' := w.alloc (.cells out e)) hrun ⟨_, _, he, ?_⟩
  have one : ∀ {j : Nat} {ob : Ob}, [Ob.bx l][j]? = some ob → j = 0 ∧ ob = .bx l := fun {j ob} hj => by
    have : j = 0 := by have := (List.getElem?_eq_some_iff.1 hj).1; simpa using this
    subst this
    simp at hj; exact ⟨rfl, hj.symm⟩
  refine Got.mk (G' := fun i => if i = (l0, b0) then fun _ => some (w.heap.size, 0) else G i) h.ok hfr (Ext.alloc w _) (fun i ob hs => ?_) (fun j ob hj blk hown => ?_) (fun hvr j ob hj => ?_) (fun j ob j' ob' blk hj hj' _ _ => ?_) (fun j cells hj => ?_) (fun _ => ?_)
  · have hne : i ≠ (l0, b0) := ne_fresh (j := 0) (hfr 0 (by simp)) hs
    rw [if_neg hne]
  · obtain ⟨rfl, rfl⟩ := one hj
    obtain ⟨c1, h1⟩ := hown
    simp at h1
    omega
  · obtain ⟨rfl, rfl⟩ := one hj
    refine ⟨w.heap.size, 0, out, e, by simp, heap_alloc_new w _, ?_⟩
    rw [hout]
    exact hvr _ _ hvs
  · rw [(one hj).1, (one hj').1]
  · obtain ⟨_, h1⟩ := one hj
    cases h1
    rw [hl0]
    exact h.mens_lt hvs
  · exact ⟨l, w.heap.size, 0, by simp [addS, sset], by simp, rfl⟩
end
end Go.Fd

namespace Go.Fd

theorem getp_app {es items es2 : Row} {i f : Nat} {q : Pth} : getp (es ++ items) ((i, f) :: q) = some es2 ↔ (if i < es.length then getp es ((i, f) :: q) = some es2 else getp items ((i - es.length, f) :: q) = some es2) := by
  by_cases hi : i < es.length
  · rw [if_pos hi]
    simp only [getp, List.getElem?_append_left hi]
  · rw [if_neg hi]
    simp only [getp, List.getElem?_append_right (Nat.le_of_not_lt hi)]

section
variable {P : Program} {F : Fr} {G G' : Gh} {S S' : Sto} {st st1 st2 : St} {a : Act} {w w' : World} {C : Contract} {oper : Oper} {D D2 : Oid → Prop}

theorem core_app (h : Sim F G st a w) (kl : Kl D st st1) {id : Oid} {d : Option Nat} {k : Nat} {es items : Row} {u : Bool} {hw ver b' c' : Nat} {vs : Array Value} {ty : TypeId} {N : Pth → Option (Nat × Nat)}
    (hs : st.sto id = some (.ar k es u hw ver)) (hnd : ¬ D id) (hd : ∀ y, d = some y → y < F.nt) (size : w.heap.size ≤ w'.heap.size)
    (heap : ∀ blk, blk < w.heap.size → (∀ c, G id [] ≠ some (blk, c)) → w'.heap[blk]? = w.heap[blk]?) (hos : w'.os = w.os) (htape : w'.tape = w.tape) (houtp : w'.output = w.output)
    (hb' : G id [] = some (b', c') ∨ w.heap.size ≤ b') (hsame : max hw (es.length + items.length) = hw → G id [] = some (b', c'))
    (hh : w'.heap[b']? = some (.cells vs ty (0, 0))) (hsz : vs.size = c' * k) (hc : max hw (es.length + items.length) ≤ c') (hk : UnR k items)
    (hold : ∀ (i : Nat) (e : List Tr) (f : Nat) (t : Tr), es[i]? = some e → e[f]? = some t → ∃ x, vs[i * k + f]? = some x ∧ cellR G w (Av G st.sto w) id [] u i f x t)
    (hnew : ∀ (i : Nat) (e : List Tr) (f : Nat) (t : Tr), items[i]? = some e → e[f]? = some t → ∃ x, vs[(es.length + i) * k + f]? = some x ∧ cellR (fun _ => N) w (Av G st1.sto w) (0, 0) [] u i f x t)
    (hsub : u = true → ∀ (i f : Nat) (e : List Tr) (zs : Row) (q : Pth) (es2 : Row), items[i]? = some e → e[f]? = some (.sl zs) → getp zs q = some es2 → rowR (fun _ => N) w (fun _ => False) (0, 0) ((i, f) :: q) k u es2)
    (hsrc : u = true → ∀ p b1 c1, p ≠ [] → (getp items p).isSome = true → N p = some (b1, c1) → ∃ j ob, D j ∧ st.sto j = some ob ∧ own1 G j ob b1)
    (hinj : u = true → ∀ p p' b1 c1 c2, p ≠ [] → p' ≠ [] → (getp items p).isSome = true → (getp items p').isSome = true → N p = some (b1, c1) → N p' = some (b1, c2) → p = p') :
    ∃ G', Sim F G' { setOb st1 id (.ar k (es ++ items) u (max hw (es.length + items.length)) ver) with env := ptd d (.hd id [] 0 (es.length + items.length) none (max hw (es.length + items.length))) st1.env }
      (a.put d (.slice (some ⟨b', 0, none⟩) (es.length + items.length) c')) w' := by
  let g : Pth → Option (Nat × Nat) := fun p => match p with
    | [] => some (b', c')
    | (i, f) :: q => if i < es.length then G id ((i, f) :: q) else N ((i - es.length, f) :: q)
  let G' : Gh := fun j => if j = id then g else G j
  have hGi : G' id = g := by simp [G']
  have hG0 : G' id [] = some (b', c') := by rw [hGi]
  have hGo : ∀ j, j ≠ id → G' j = G j := fun j hj => by simp [G', hj]
  have hob := h.ok.obs _ _ hs
  obtain ⟨o1, o2, o3, o4, o5⟩ := hob
  have hgo : ∀ {i f : Nat} {q : Pth}, i < es.length → g ((i, f) :: q) = G id ((i, f) :: q) := fun hi => by simp [g, hi]
  have hgn : ∀ {i f : Nat} {q : Pth}, g ((es.length + i, f) :: q) = N ((i, f) :: q) := fun {i f q} => by
    show (if es.length + i < es.length then _ else _) = _
    rw [if_neg (by omega), Nat.add_sub_cancel_left]
  have hun : UnR k (es ++ items) := fun e he => by
    rcases List.mem_append.1 he with he | he
    · exact o2 e he
    · exact hk e he
  -- where a path of the new object comes from
  have split : ∀ {p : Pth} {b1 c1 : Nat}, p ≠ [] → (getp (es ++ items) p).isSome = true → g p = some (b1, c1) →
      ((getp es p).isSome = true ∧ G id p = some (b1, c1) ∧ ∃ i f q, p = (i, f) :: q ∧ i < es.length) ∨ (∃ i f q, p = (es.length + i, f) :: q ∧ (getp items ((i, f) :: q)).isSome = true ∧ N ((i, f) :: q) = some (b1, c1)) := by
    intro p b1 c1 hp hss hg
    cases p with
    | nil => exact absurd rfl hp
    | cons cd q =>
      obtain ⟨i, f⟩ := cd
      obtain ⟨es2, he2⟩ := Option.isSome_iff_exists.1 hss
      rw [getp_app] at he2
      by_cases hi : i < es.length
      · rw [if_pos hi] at he2
        rw [hgo hi] at hg
        exact .inl ⟨by rw [he2]; rfl, hg, i, f, q, rfl, hi⟩
      · rw [if_neg hi] at he2
        obtain ⟨m, rfl⟩ : ∃ m, i = es.length + m := ⟨i - es.length, by omega⟩
        rw [hgn] at hg
        rw [show es.length + m - es.length = m from by omega] at he2
        exact .inr ⟨m, f, q, rfl, by rw [he2]; rfl, hg⟩
  have hlt : ∀ {j : Oid} {ob : Ob} {b1 : Nat}, st.sto j = some ob → own1 G j ob b1 → b1 < w.heap.size := fun h1 h2 => own_lt (h.ok.obs _ _ h1) h2
  have hav : u = false → ∀ b, Av G st1.sto w b → Av G' (sset st1.sto id (.ar k (es ++ items) false (max hw (es.length + items.length)) ver)) w' b := fun hu b hb => ⟨Nat.lt_of_lt_of_le hb.1 size, fun j ob hj ho => by
    unfold sset at hj
    split at hj
    · rename_i hji
      cases hj
      obtain ⟨p, c1, hp, _, hg⟩ := ho
      have hp0 : p = [] := by rcases hp with h | h; · exact h
                              · cases h
      subst hp0
      rw [hji, hG0] at hg
      cases hg
      rcases hb' with hb' | hb'
      · obtain ⟨ob1, k1, k2⟩ := kl.live id _ hnd hs
        exact hb.2 id ob1 k1 (k2.own.2 ⟨[], _, .inl rfl, rfl, hb'⟩)
      · have := hb.1; omega
    · rename_i hji
      exact hb.2 j ob hj ((own1_gh (hGo j hji)).1 ho)⟩
  refine ⟨G', (h.turn kl (id := id) (ob' := .ar k (es ++ items) u (max hw (es.length + items.length)) ver) (d := d) (G' := G') (w' := w') hnd (.inr (by rw [hs]; rfl)) hGo size (fun blk hb hn => heap blk hb fun c hg => hn _ hs ⟨[], c, .inl rfl, rfl, hg⟩) (fun blk ho => ?_) (fun ob ho => ?_) hos htape houtp (fun t => ?_) (fun _ he => by cases he) hd (fun t => ?_)).1⟩
  · obtain ⟨p, c1, hp, hss, hg⟩ := ho
    rw [hGi] at hg
    by_cases hp0 : p = []
    · subst hp0
      have : g [] = some (b', c') := rfl
      rw [this] at hg; cases hg
      rcases hb' with hb' | hb'
      · exact .inl ⟨id, _, .inl rfl, hs, [], _, .inl rfl, rfl, hb'⟩
      · exact .inr hb'
    · rcases split hp0 hss hg with ⟨r1, r2, _⟩ | ⟨i, f, q, rfl, r1, r2⟩
      · exact .inl ⟨id, _, .inl rfl, hs, p, c1, hp, r1, r2⟩
      · obtain ⟨j, ob, k1, k2, k3⟩ := hsrc (hp.resolve_left hp0) _ blk c1 (by simp) r1 r2
        exact .inl ⟨j, ob, .inr k1, k2, k3⟩
  · rw [hs] at ho; cases ho
    refine ⟨rfl, Nat.le_max_left _ _, Nat.le_refl _, fun p s hbd hst => ?_⟩
    cases p with
    | nil =>
      have hs1 : s ≤ hw := hbd
      have hs2 : s = max hw (es.length + items.length) := hst
      have hm : max hw (es.length + items.length) = hw := by have := Nat.le_max_left hw (es.length + items.length); omega
      refine ⟨by show s = hw; omega, fun es1 he => ⟨by rw [hG0, hsame hm], _, rfl, fun k' hkk hk' e he' => ?_⟩⟩
      simp only [getp, Option.some.injEq] at he
      subst he
      rcases List.mem_append.1 he' with he' | he'
      · exact hk' e he'
      · rw [hkk rfl]; exact hk e he'
    | cons cd q =>
      obtain ⟨i, f⟩ := cd
      refine ⟨hst, fun es1 he => ?_⟩
      have hi : i < es.length := by
        obtain ⟨e, zs, g1, _, _⟩ := getp_cons he
        exact (List.getElem?_eq_some_iff.1 g1).1
      exact ⟨by rw [hGi]; exact hgo hi, es1, by rw [getp_app, if_pos hi]; exact he, fun _ _ h => h⟩
  · refine OOk_row hG0 hh hsz (by rw [List.length_append]; exact Nat.le_max_right _ _) hc hun (fun i e0 f t0 hi hf => ?_) (fun hu i f e0 zs q es2 hi hf hq => ?_) (fun hu p p' b1 c1 c2 hp hp' h1 h2 g1 g2 => ?_) (fun hu p c1 hp h1 hg => ?_)
    · by_cases hil : i < es.length
      · rw [List.getElem?_append_left hil] at hi
        obtain ⟨x, hx, hr⟩ := hold i e0 f t0 hi hf
        exact ⟨x, hx, cellR_keep2 (p := []) (fun _ => by rw [hGi]; exact hgo hil) (fun _ => t.av) t.same hr⟩
      · obtain ⟨m, rfl⟩ : ∃ m, i = es.length + m := ⟨i - es.length, by omega⟩
        rw [List.getElem?_append_right (by omega), show es.length + m - es.length = m from by omega] at hi
        obtain ⟨x, hx, hr⟩ := hnew m e0 f t0 hi hf
        refine ⟨x, hx, ?_⟩
        cases t0 with
        | v y => exact hr
        | sl zs =>
          simp only [cellR] at hr ⊢
          split
          · rename_i hu
            rw [if_pos hu] at hr
            simp only [List.nil_append] at hr ⊢
            rw [hGi, hgn]
            exact hr
          · rename_i hu
            rw [if_neg hu] at hr
            have hu : u = false := by simpa using hu
            subst hu
            refine Rds.mono (hav rfl) (fun b hb => heap b hb.1 fun c hg => ?_) hr
            obtain ⟨ob1, k1, k2⟩ := kl.live id _ hnd hs
            exact hb.2 id ob1 k1 (k2.own.2 ⟨[], c, .inl rfl, rfl, hg⟩)
    · by_cases hil : i < es.length
      · rw [List.getElem?_append_left hil] at hi
        have hg0 := getp_mk hi hf hq
        refine rowR_keep2 (p := (i, f) :: q) (by rw [hGi]; exact hgo hil) (fun _ r => by rw [hGi]; exact hgo hil) (fun _ => t.av) t.same (fun h => by cases h) (fun b1 c1 hg => heap b1 (hlt hs ⟨_, c1, .inr hu, by rw [hg0]; rfl, hg⟩) fun c2 hg2 => ?_) (o4 _ es2 (.inr hu) hg0)
        have := o5 ((i, f) :: q) [] b1 c1 c2 (.inr hu) (.inl rfl) (by rw [hg0]; rfl) rfl hg hg2
        cases this
      · obtain ⟨m, rfl⟩ : ∃ m, i = es.length + m := ⟨i - es.length, by omega⟩
        rw [List.getElem?_append_right (by omega), show es.length + m - es.length = m from by omega] at hi
        refine rowR_keep2 (G := fun _ => N) (id := (0, 0)) (p := (m, f) :: q) (A := fun _ => False) (by rw [hGi]; exact hgn) (fun _ r => by rw [hGi]; exact hgn) (fun hu2 => by rw [hu] at hu2; cases hu2) (fun b hb => hb.elim) (fun h => by cases h) (fun b1 c1 hg => ?_) (hsub hu m f e0 zs q es2 hi hf hq)
        obtain ⟨j, ob, h1, h2, h3⟩ := hsrc hu ((m, f) :: q) b1 c1 (by simp) (by rw [getp_mk hi hf hq]; rfl) hg
        refine heap b1 (hlt h2 h3) fun c2 hg2 => ?_
        have := h.ok.dis _ _ _ _ b1 h2 hs h3 ⟨[], c2, .inl rfl, rfl, hg2⟩
        subst this
        exact hnd h1
    · rw [hGi] at g1 g2
      rcases split hp h1 g1 with ⟨r1, r2, i, f, q, rfl, hil⟩ | ⟨i, f, q, rfl, r1, r2⟩ <;> rcases split hp' h2 g2 with ⟨s1, s2, i', f', q', rfl, hil'⟩ | ⟨i', f', q', rfl, s1, s2⟩
      · exact o5 _ _ b1 c1 c2 (.inr hu) (.inr hu) r1 s1 r2 s2
      · obtain ⟨j, ob, k1, k2, k3⟩ := hsrc hu _ b1 c2 (by simp) s1 s2
        have := h.ok.dis _ _ _ _ b1 k2 hs k3 ⟨_, c1, .inr hu, r1, r2⟩
        subst this
        exact absurd k1 hnd
      · obtain ⟨j, ob, k1, k2, k3⟩ := hsrc hu _ b1 c1 (by simp) r1 r2
        have := h.ok.dis _ _ _ _ b1 k2 hs k3 ⟨_, c2, .inr hu, s1, s2⟩
        subst this
        exact absurd k1 hnd
      · have := hinj hu _ _ b1 c1 c2 (by simp) (by simp) r1 s1 r2 s2
        simp only [List.cons.injEq, Prod.mk.injEq] at this
        rw [this.1.1, this.1.2, this.2]
    · rw [hGi] at hg
      rcases split hp h1 hg with ⟨r1, r2, i, f, q, rfl, hil⟩ | ⟨i, f, q, rfl, r1, r2⟩
      · rcases hb' with hb' | hb'
        · have := o5 _ [] b' c1 c' (.inr hu) (.inl rfl) r1 rfl r2 hb'
          cases this
        · have := hlt hs ⟨_, c1, .inr hu, r1, r2⟩; omega
      · obtain ⟨j, ob, k1, k2, k3⟩ := hsrc hu _ b' c1 (by simp) r1 r2
        rcases hb' with hb' | hb'
        · have := h.ok.dis _ _ _ _ b' k2 hs k3 ⟨[], c', .inl rfl, rfl, hb'⟩
          subst this
          exact hnd k1
        · have := hlt k2 k3; omega
  · exact ⟨⟨_, _, rfl, by omega⟩, k, es ++ items, u, _, ver, by unfold sset; rw [if_pos rfl], Nat.le_refl _, fun _ => ⟨es ++ items, k, _, c', rfl, fun _ => rfl, hun, rfl, by omega, fun m hm => by simp at hm, fun _ _ => by rw [hG0]; simp [capOf], .inr (.inr ⟨b', c', hG0, by simp, by simp⟩)⟩⟩
end
end Go.Fd

namespace Go.Fd

def FC (w : World) (k n : Nat) (v : Value) (cs : List Value) : Prop :=
  cs.length = n * k ∧ ∃ a c, v = .slice a n c ∧ ((∃ ad, a = some ad ∧ ∀ j u, cs[j]? = some u → w.cell? (ad.add j) = some u) ∨ (a = none ∧ cs = []))

section
variable {P : Program} {F : Fr} {G G' : Gh} {S S' : Sto} {st st1 st2 : St} {a : Act} {w w' : World} {C : Contract} {oper : Oper} {D D2 : Oid → Prop}

theorem run_FC {k n : Nat} {v : Value} {cs : List Value} (h : FC w k n v cs) (hw : w'.heap = w.heap) : (Builtin.firstCells k n v).run P w' = .ok cs.toArray w' := by
  obtain ⟨hl, a, c, rfl, ⟨ad, rfl, hc⟩ | ⟨rfl, rfl⟩⟩ := h
  · exact run_firstCells_some w' k n ad n c cs hl fun j u hj => by
      have := hc j u hj
      rwa [← cell?_of_heap (w' := w') (w := w) (by rw [hw])] at this
  · exact run_firstCells_none w' k n n c

theorem Rds.one {A : Nat → Prop} {x : Value} {t : Tr} (h : Rds w A x t) : x.oneCell' = true := by
  cases h with
  | v x h => cases x <;> first | rfl | simp [scal] at h
  | nil => rfl
  | sl => rfl

theorem Rds.fc {A : Nat → Prop} {v : Value} {es : Row} {k : Nat} (h : Rds w A v (.sl es)) (hk0 : 0 < k) (hk : UnR k es) :
    ∃ cs, FC w k es.length v cs ∧ ∀ (i : Nat) (e : List Tr) (f : Nat) (t : Tr), es[i]? = some e → e[f]? = some t → ∃ x, cs[i * k + f]? = some x ∧ Rds w A x t := by
  generalize ht : Tr.sl es = t at h
  cases h with
  | v x h => cases ht
  | nil a c =>
    cases ht
    refine ⟨[], ⟨by simp, a, c, rfl, ?_⟩, fun i e f t h => by simp at h⟩
    cases a with
    | none => exact .inr ⟨rfl, rfl⟩
    | some ad => exact .inl ⟨ad, rfl, fun j u hj => by simp at hj⟩
  | sl b o c k' es' g hA hk' hl hc hr =>
    cases ht
    by_cases hes : es = []
    · subst hes
      exact ⟨[], ⟨by simp, _, c, rfl, .inl ⟨_, rfl, fun j u hj => by simp at hj⟩⟩, fun i e f t h => by simp at h⟩
    · obtain ⟨e0, he0⟩ := List.exists_mem_of_ne_nil es hes
      have hkk : k' = k := by rw [← hk e0 he0, hk' e0 he0]
      subst hkk
      refine ⟨(List.range (es.length * k')).map fun q => g (q / k') (q % k'), ⟨by simp, _, c, rfl, .inl ⟨_, rfl, fun j u hj => ?_⟩⟩, fun i e f t hi hf => ?_⟩
      · rw [List.getElem?_map, Option.map_eq_some_iff] at hj
        obtain ⟨q, hq, rfl⟩ := hj
        have hlt := (List.getElem?_eq_some_iff.1 hq).1
        simp only [List.length_range] at hlt
        have hqj : q = j := by simpa [hlt] using hq.symm
        subst hqj
        have hd : q / k' < es.length := Nat.div_lt_of_lt_mul (by rwa [Nat.mul_comm])
        have hm : q % k' < k' := Nat.mod_lt _ hk0
        have he := List.getElem?_eq_getElem hd
        have hel := hk' _ (List.mem_of_getElem? he)
        have := hc (q / k') _ (q % k') _ he (List.getElem?_eq_getElem (by rw [hel]; exact hm))
        rw [add_mk]
        rw [show o + q = o + q / k' * k' + q % k' from by have := Nat.div_add_mod q k'; rw [Nat.mul_comm] at this; omega]
        exact this
      · have hil := (List.getElem?_eq_some_iff.1 hi).1
        have hfl := (List.getElem?_eq_some_iff.1 hf).1
        rw [hk' e (List.mem_of_getElem? hi)] at hfl
        have hlt := idx_lt hil hfl
        refine ⟨g i f, ?_, hr i e f t hi hf⟩
        rw [List.getElem?_map, List.getElem?_range hlt]
        simp only [Option.map_some]
        have h1 : (i * k' + f) / k' = i := by rw [Nat.add_comm, Nat.add_mul_div_right _ _ (by omega), Nat.div_eq_of_lt hfl, Nat.zero_add]
        have h2 : (i * k' + f) % k' = f := by rw [Nat.add_comm, Nat.add_mul_mod_self_right, Nat.mod_eq_of_lt hfl]
        rw [h1, h2]

theorem hd_fc (h : SOk G S w) {id : Oid} {k : Nat} {es : Row} {u : Bool} {hw ver : Nat} {v : Value} (hs : S id = some (.ar k es u hw ver)) (hv : hdR G S id [] 0 es.length none hw v) :
    ∃ ad cs c, v = .slice ad es.length c ∧ es.length ≤ c ∧ c = capOf (G id []) ∧ FC w k es.length v cs ∧ (∀ (i : Nat) (e : List Tr) (f : Nat) (t : Tr), es[i]? = some e → e[f]? = some t → ∃ x, cs[i * k + f]? = some x ∧ cellR G w (Av G S w) id [] u i f x t) ∧
      (c ≠ 0 → ∃ b vs ty, G id [] = some (b, c) ∧ ad = some ⟨b, 0, none⟩ ∧ w.heap[b]? = some (.cells vs ty (0, 0)) ∧ vs.size = c * k ∧ cs = vs.toList.take (es.length * k)) := by
  obtain ⟨_, k2, es2, u2, hw2, ver2, hs2, _, hrel⟩ := hv
  rw [hs] at hs2; cases hs2
  obtain ⟨es3, k', ad, c, hg3, hk, hun, rfl, hlc, _, hcap, hor⟩ := hrel rfl
  simp only [getp, Option.some.injEq] at hg3
  subst hg3
  have hkk := hk rfl
  subst hkk
  have hc : c = capOf (G id []) := by simpa using hcap rfl rfl
  have hr := (h.obs _ _ hs).2.2.2.1 [] es (.inl rfl) rfl
  unfold rowR at hr
  by_cases hc0 : c = 0
  · have hes : es = [] := List.eq_nil_of_length_eq_zero (by omega)
    subst hes
    refine ⟨ad, [], c, rfl, hlc, hc, ⟨by simp, ad, c, rfl, ?_⟩, fun i e f t h => by simp at h, fun hne => absurd hc0 hne⟩
    cases ad with
    | none => exact .inr ⟨rfl, rfl⟩
    | some ad => exact .inl ⟨ad, rfl, fun j u hj => by simp at hj⟩
  · rcases hor with h0 | ⟨h0, _⟩ | ⟨b, c0, hG, rfl, hcc⟩
    · exact absurd h0 hc0
    · exact absurd rfl h0
    · rw [hG] at hr hc
      simp only [capOf] at hc
      subst hc
      obtain ⟨k2, vs, ty, g1, g2, g3, g4, g5, g6⟩ := hr
      have hkk := g1 rfl
      subst hkk
      have hll : es.length * k2 ≤ vs.size := by rw [g4]; exact Nat.mul_le_mul_right _ g5
      refine ⟨_, vs.toList.take (es.length * k2), c, rfl, hlc, by rw [hG]; rfl, ⟨by simp; omega, _, c, rfl, .inl ⟨_, rfl, fun j u hj => ?_⟩⟩, fun i e f t hi hf => ?_, fun _ => ⟨b, vs, ty, hG, by simp, g3, g4, rfl⟩⟩
      · rw [List.getElem?_take] at hj
        split at hj <;> try contradiction
        rw [add_mk, Nat.zero_mul, Nat.zero_add, cell_of_row w b j vs ty (0, 0) g3]
        simpa using hj
      · obtain ⟨x, hx, hcell⟩ := g6 i e f t hi hf
        have hil := (List.getElem?_eq_some_iff.1 hi).1
        have hfl := (List.getElem?_eq_some_iff.1 hf).1
        rw [g2 e (List.mem_of_getElem? hi)] at hfl
        refine ⟨x, ?_, hcell⟩
        rw [List.getElem?_take, if_pos (idx_lt hil hfl)]
        simpa using hx

section run
variable {t ty e : TypeId} {i : TypeInfo} {z : Value}

theorem run_ap0 (ht : P.underlying t = some (.slice e)) (hi : P.info? e = some i) {ad : Option Addr} {n c : Nat} {yv : Value} (hy : FC w i.size 0 yv []) (hn : n ≤ c) :
    (Builtin.append_ #[t, t] ty #[.slice ad n c, yv]).run P w = .ok (.slice ad n c) w := by
  have hf := run_FC (P := P) hy (w' := w) rfl
  obtain ⟨_, a, c', rfl, _⟩ := hy
  cases ad with
  | none => simp [Builtin.append_, run_underlying ht, Go.sizeOf, typeInfo, hi, Builtin.lenOf, hn, hf]
  | some ad => simp [Builtin.append_, run_underlying ht, Go.sizeOf, typeInfo, hi, Builtin.lenOf, hn, hf, storeCells]
theorem run_ap1 (ht : P.underlying t = some (.slice e)) (hi : P.info? e = some i) {g n c m : Nat} {yv : Value} {news : List Value} {cur : Array Value} {tt : TypeId} (hg : w.heap[g]? = some (.cells cur tt (0, 0))) (hy : FC w i.size m yv news) (h1 : ∀ u ∈ news, u.oneCell' = true)
    (hroom : n + m ≤ c) (hfit : n * i.size + news.length ≤ cur.size) :
    (Builtin.append_ #[t, t] ty #[.slice (some ⟨g, 0, none⟩) n c, yv]).run P w =
      .ok (.slice (some ⟨g, 0, none⟩) (n + m) c) (w.setRow g (cur.toList.take (n * i.size) ++ news ++ cur.toList.drop (n * i.size + news.length)).toArray) := by
  have hf := run_FC (P := P) hy (w' := w) rfl
  have hst := run_storeCells_at P g (n * i.size) tt news 0 cur w hg (by simpa using hfit) h1
  simp only [Nat.add_zero] at hst
  obtain ⟨_, a, c', rfl, _⟩ := hy
  simp [Builtin.append_, run_underlying ht, Go.sizeOf, typeInfo, hi, Builtin.lenOf, hroom, hf, add_mk, hst]
theorem run_ap2 (ht : P.underlying t = some (.slice e)) (hi : P.info? e = some i) (hz : i.zero = some z) {ad : Option Addr} {n c m : Nat} {yv : Value} {olds news : List Value} (hv : FC w i.size n (.slice ad n c) olds) (hy : FC w i.size m yv news)
    (hg : c < n + m) (hb : n + m ≤ bigN) (hby : i.bytes ≤ 1024) :
    (Builtin.append_ #[t, t] ty #[.slice ad n c, yv]).run P w =
      .ok (.slice (some ⟨w.heap.size, 0, none⟩) (n + m) (grownCap w (n + m) c e)) (w.drew.alloc (.cells (olds.toArray ++ news.toArray ++ Builtin.zeroCells z.cells (grownCap w (n + m) c e - (n + m))) e)) := by
  have hn : ¬ (n + m ≤ c) := by omega
  have hbb : n + m ≤ 4294967296 := hb
  have h63' : ¬ (9223372036854775807 < ((n : Int) + (m : Int))) := by omega
  have h48 : Builtin.nextslicecap (n + m) c * i.bytes ≤ 281474976710656 := growslice_fits hg (by
    calc (n + m) * i.bytes ≤ 4294967296 * 1024 := Nat.mul_le_mul hbb hby
      _ ≤ 140737488355328 := by decide)
  have h48' : ¬ (281474976710656 < Builtin.nextslicecap (n + m) c * i.bytes) := by omega
  have hf := run_FC (P := P) hy (w' := w.drew) rfl
  have hfo := run_FC (P := P) hv (w' := w.drew) rfl
  obtain ⟨_, a, c', rfl, _⟩ := hy
  simp [Builtin.append_, run_underlying ht, Go.sizeOf, typeInfo, zeroValue, hi, hz, Builtin.lenOf, hn, h63', h48', Question.forced, hf, hfo, newRow, grownCap]
  congr 2
  apply Array.ext'
  simp [List.append_assoc]
end run
end
end Go.Fd

namespace Go.Fd

section
variable {P : Program} {F : Fr} {G G' : Gh} {S S' : Sto} {st st1 st2 : St} {a : Act} {w w' : World} {C : Contract} {oper : Oper} {D D2 : Oid → Prop}

theorem Wk.refl (ob : Ob) : Wk (fun _ => False) ob ob := by
  cases ob with
  | bx cells => exact .bx cells cells (mens_mono (fun _ _ h => h) _ (mens_true _)) (fun _ _ _ _ h => h) (fun _ h => h)
  | ar => exact .ar ..

theorem Sim.put (h : Sim F G st a w) {d : Option Nat} {x : IV} {v : Value} (hx : VR G st.sto w x v) (hd : ∀ y, d = some y → y < F.nt) : Sim F G { st with env := ptd d x st.env } (a.put d v) w :=
  h.go (st' := { st with env := ptd d x st.env }) (T := fun _ => False) (D := fun _ => False) (env0 := st.env) rfl h.outl
    ⟨fun _ _ => rfl, fun _ ob _ _ hs => ⟨ob, hs, Wk.refl ob⟩, fun _ ob _ hs => ⟨fun h => h, ob, hs, Wk.refl ob⟩, Nat.le_refl _, fun _ _ _ => rfl, fun _ _ _ hf => hf.elim, fun _ _ hf => hf.elim⟩
    (fun _ hf => hf.elim) rfl rfl rfl h.ok (fun _ _ _ _ _ h => h) (fun _ => men_mono (fun _ _ h => h) _ (men_true _)) rfl hd hx
theorem Sim.idle (h : Sim F G st a w) {id : Oid} {ob : Ob} (hs : st.sto id = some ob) : Sim F G (setOb st id ob) a w := by
  have he : (setOb st id ob).sto = st.sto := by
    rw [setOb_sto]
    funext i
    unfold sset
    split
    · rename_i hi; rw [hi, hs]
    · rfl
  refine ⟨h.dfr, h.sz, by rw [he, setOb_env]; exact h.env, by rw [he]; exact h.ok, by rw [setOb_lvl]; exact h.lvl, ?_, by rw [he]; exact h.fr⟩
  intro i o hi
  rw [setOb_lvl]
  unfold setOb at hi
  split at hi
  · exact h.outl i o hi
  · rename_i hne
    simp only [sset] at hi
    split at hi
    · rename_i hii
      subst hii
      rw [sto_out hne] at hs
      exact h.outl _ _ hs
    · exact h.outl i o hi

structure IT (G : Gh) (st st1 : St) (w : World) (D : Oid → Prop) (items : Row) (N : Pth → Option (Nat × Nat)) (ui : Bool) (k : Nat) (yv : Value) (news : List Value) : Prop where
  kl : Kl D st st1
  fc : FC w k items.length yv news
  un : UnR k items
  rd : ∀ (i : Nat) (e : List Tr) (f : Nat) (t : Tr), items[i]? = some e → e[f]? = some t → ∃ x, news[i * k + f]? = some x ∧ Rds w (Av G st1.sto w) x t
  cl : ui = true → ∀ (i : Nat) (e : List Tr) (f : Nat) (t : Tr), items[i]? = some e → e[f]? = some t → ∃ x, news[i * k + f]? = some x ∧ cellR (fun _ => N) w (Av G st1.sto w) (0, 0) [] true i f x t
  sub : ui = true → ∀ (i f : Nat) (e : List Tr) (zs : Row) (q : Pth) (es2 : Row), items[i]? = some e → e[f]? = some (.sl zs) → getp zs q = some es2 → rowR (fun _ => N) w (fun _ => False) (0, 0) ((i, f) :: q) k true es2
  src : ui = true → ∀ p b1 c1, p ≠ [] → (getp items p).isSome = true → N p = some (b1, c1) → ∃ j ob, D j ∧ st.sto j = some ob ∧ own1 G j ob b1
  inj : ui = true → ∀ p p' b1 c1 c2, p ≠ [] → p' ≠ [] → (getp items p).isSome = true → (getp items p').isSome = true → N p = some (b1, c1) → N p' = some (b1, c2) → p = p'

theorem IT.one {items : Row} {N : Pth → Option (Nat × Nat)} {ui : Bool} {k : Nat} {yv : Value} {news : List Value} (h : IT G st st1 w D items N ui k yv news) (hk0 : 0 < k) : ∀ u ∈ news, u.oneCell' = true := by
  intro u hu
  obtain ⟨q, hq⟩ := List.getElem?_of_mem hu
  have hlt := (List.getElem?_eq_some_iff.1 hq).1
  rw [h.fc.1] at hlt
  have hd : q / k < items.length := Nat.div_lt_of_lt_mul (by rwa [Nat.mul_comm])
  have hm : q % k < k := Nat.mod_lt _ hk0
  have he := List.getElem?_eq_getElem hd
  have hel := h.un _ (List.mem_of_getElem? he)
  obtain ⟨x, hx, hr⟩ := h.rd (q / k) _ (q % k) _ he (List.getElem?_eq_getElem (by rw [hel]; exact hm))
  rw [show q / k * k + q % k = q from by have := Nat.div_add_mod q k; rw [Nat.mul_comm] at this; omega, hq] at hx
  cases hx
  exact hr.one

theorem IT.trees {items : Row} {ui : Bool} {k : Nat} {yv : Value} (hy : Rds w (Av G st.sto w) yv (.sl items)) (hk0 : 0 < k) (hk : UnR k items) (hu : ui = true → FlatR items) :
    ∃ news, IT G st st w (fun _ => False) items (fun _ => none) ui k yv news := by
  obtain ⟨cs, h1, h2⟩ := hy.fc hk0 hk
  refine ⟨cs, Kl.refl st, h1, hk, h2, fun hui i e f t hi hf => ?_, fun hui i f e zs q es2 hi hf hq => ?_, fun _ _ _ _ _ _ h => (by cases h), fun _ _ _ _ _ _ _ _ _ _ h => (by cases h)⟩
  · obtain ⟨x, hx, hr⟩ := h2 i e f t hi hf
    exact ⟨x, hx, Rds.cell hr fun _ => hu hui e (List.mem_of_getElem? hi) t (List.mem_of_getElem? hf)⟩
  · have := hu hui e (List.mem_of_getElem? hi) _ (List.mem_of_getElem? hf)
    simp only [flatT] at this
    subst this
    obtain ⟨rfl, rfl⟩ := getp_nil hq
    unfold rowR
    rfl

theorem IT.moved (h : Sim F G st a w) {id2 : Oid} {k k2 : Nat} {zs : Row} {hw2 ver2 : Nat} {yv : Value} (hs2 : st.sto id2 = some (.ar k2 zs true hw2 ver2)) (hl2 : id2.1 = st.lvl) (hy : hdR G st.sto id2 [] 0 zs.length none hw2 yv) (hk0 : 0 < k) (hk : UnR k zs) :
    ∃ news, IT G st (kill id2 st) w (fun i => False ∨ i = id2) zs (G id2) true k yv news := by
  obtain ⟨_, htree⟩ := kill_tree h hs2 hl2 hy
  obtain ⟨cs, h1, h2⟩ := htree.fc hk0 hk
  obtain ⟨ad, cs2, c, hv, _, _, h3, h4, _⟩ := hd_fc h.ok hs2 hy
  have hob := h.ok.obs _ _ hs2
  have hcs : zs ≠ [] → cs = cs2 := fun hne => by
    obtain ⟨e0, he0⟩ := List.exists_mem_of_ne_nil zs hne
    have hkk : k2 = k := by rw [← hk e0 he0, hob.2.1 e0 he0]
    subst hkk
    obtain ⟨l1, a1, c1, e1, o1⟩ := h1
    obtain ⟨l2, a2, c2, e2, o2⟩ := h3
    rw [e1] at e2; cases e2
    rcases o1 with ⟨ad1, rfl, r1⟩ | ⟨rfl, rfl⟩
    · rcases o2 with ⟨ad2, e3, r2⟩ | ⟨e3, _⟩
      · cases e3
        apply List.ext_getElem?
        intro j
        by_cases hj : j < cs.length
        · have q1 := r1 j _ (List.getElem?_eq_getElem hj)
          have q2 := r2 j _ (List.getElem?_eq_getElem (show j < cs2.length from by omega))
          rw [q1] at q2
          rw [List.getElem?_eq_getElem hj, List.getElem?_eq_getElem (show j < cs2.length from by omega)]
          exact q2
        · rw [List.getElem?_eq_none (by omega), List.getElem?_eq_none (by omega)]
      · cases e3
    · rcases o2 with ⟨ad2, e3, r2⟩ | ⟨_, rfl⟩
      · cases e3
      · rfl
  refine ⟨cs, (Kl.refl st).step (fun j cells hj => h.ok.low j cells hj) h.outl hl2 (by rw [hs2]; rfl), h1, hk, h2, fun _ i e f t hi hf => ?_, fun _ i f e z q es2 hi hf hq => ?_, fun _ p b1 c1 hp hss hN => ⟨id2, _, .inr rfl, hs2, p, c1, .inr rfl, hss, hN⟩, fun _ p p' b1 c1 c2 hp hp' h5 h6 h7 h8 => hob.2.2.2.2 p p' b1 c1 c2 (.inr rfl) (.inr rfl) h5 h6 h7 h8⟩
  · have hne : zs ≠ [] := fun hh => by rw [hh] at hi; simp at hi
    obtain ⟨e0, he0⟩ := List.exists_mem_of_ne_nil zs hne
    have hkk : k2 = k := by rw [← hk e0 he0, hob.2.1 e0 he0]
    subst hkk
    obtain ⟨x, hx, hc⟩ := h4 i e f t hi hf
    refine ⟨x, by rw [hcs hne]; exact hx, ?_⟩
    cases t with
    | v y => exact hc
    | sl es => simpa [cellR] using hc
  · have hr := hob.2.2.2.1 ((i, f) :: q) es2 (.inr rfl) (getp_mk hi hf hq)
    have hr2 := rowR_own (G1 := G) (G2 := G) (A' := fun _ => False) (i := id2) rfl hr
    exact rowR_keep2 (G := G) (id := id2) (p := (i, f) :: q) (A := fun _ => False) rfl (fun _ r => rfl) (fun hu => by cases hu) (fun b hb => hb.elim) (fun h => by cases h) (fun _ _ _ => rfl) hr2

def ARun (P : Program) (t ty : TypeId) (xv yv : Value) (w : World) (v : Value) (w' : World) : Prop := (Builtin.append_ #[t, t] ty #[xv, yv]).run P w = .ok v w'

theorem ap_hd (h : Sim F G st a w) {items : Row} {N : Pth → Option (Nat × Nat)} {ui : Bool} {k : Nat} {yv xv : Value} {news : List Value} {t ty e : TypeId} {i : TypeInfo} {z : Value} {d : Option Nat} (it : IT G st st1 w D items N ui k yv news)
    (ht : P.underlying t = some (.slice e)) (hi : P.info? e = some i) (hz : i.zero = some z) (hik : i.size = k) (hzk : z.cells.size = k) (hby : i.bytes ≤ 1024) (hk0 : 0 < k) (hd : ∀ y, d = some y → y < F.nt)
    {id : Oid} {es : Row} {u : Bool} {hw ver : Nat} (hs : st.sto id = some (.ar k es u hw ver)) (hnd : ¬ D id) (hx : hdR G st.sto id [] 0 es.length none hw xv) (huu : u = true → ui = true) (hb : es.length + items.length ≤ bigN) :
    ∃ v w' G', ARun P t ty xv yv w v w' ∧ Sim F G' { setOb st1 id (.ar k (es ++ items) u (max hw (es.length + items.length)) ver) with env := ptd d (.hd id [] 0 (es.length + items.length) none (max hw (es.length + items.length))) st1.env } (a.put d v) w' := by
  subst hik
  obtain ⟨ad, olds, c, rfl, hlc, hcap, hfc, hold, hblk⟩ := hd_fc h.ok hs hx
  obtain ⟨o1, o2, o3, o4, o5⟩ := h.ok.obs _ _ hs
  by_cases hit : items = []
  · subst hit
    have hnews : news = [] := List.eq_nil_of_length_eq_zero (by simpa using it.fc.1)
    subst hnews
    obtain ⟨ob1, k1, k2⟩ := it.kl.live id _ hnd hs
    have hob1 : ob1 = .ar i.size es u hw ver := by cases k2; rfl
    subst hob1
    have h1 := h.kl it.kl
    have hmax : max hw (es.length + 0) = hw := by omega
    refine ⟨_, w, G, run_ap0 ht hi it.fc hlc, ?_⟩
    simp only [List.append_nil, List.length_nil, Nat.add_zero] at hmax ⊢
    rw [hmax]
    have h2 := h1.1.idle k1
    have hxx : VR G (setOb st1 id (.ar i.size es u hw ver)).sto w (.hd id [] 0 es.length none hw) (.slice ad es.length c) := by
      have he : (setOb st1 id (.ar i.size es u hw ver)).sto = st1.sto := by
        rw [setOb_sto]
        funext j
        unfold sset
        split
        · rename_i hj; rw [hj, k1]
        · rfl
      rw [he]
      exact h1.2.vr (.hd id [] 0 es.length none hw) _ hnd hx
    have := h2.put hxx hd
    rw [setOb_env] at this
    exact this
  · have hm : 0 < items.length := Nat.pos_of_ne_zero fun h0 => hit (List.eq_nil_of_length_eq_zero h0)
    have cells : ∀ {vs : Array Value}, (∀ (j : Nat) (x : Value), olds[j]? = some x → vs[j]? = some x) → (∀ (j : Nat) (x : Value), news[j]? = some x → vs[es.length * i.size + j]? = some x) →
        (∀ (i0 : Nat) (e : List Tr) (f : Nat) (t : Tr), es[i0]? = some e → e[f]? = some t → ∃ x, vs[i0 * i.size + f]? = some x ∧ cellR G w (Av G st.sto w) id [] u i0 f x t) ∧
        (∀ (i0 : Nat) (e : List Tr) (f : Nat) (t : Tr), items[i0]? = some e → e[f]? = some t → ∃ x, vs[(es.length + i0) * i.size + f]? = some x ∧ cellR (fun _ => N) w (Av G st1.sto w) (0, 0) [] u i0 f x t) := by
      intro vs h1 h2
      refine ⟨fun i0 e f t hi hf => ?_, fun i0 e f t hi hf => ?_⟩
      · obtain ⟨x, hx, hc⟩ := hold i0 e f t hi hf
        exact ⟨x, h1 _ _ hx, hc⟩
      · cases u with
        | true =>
          obtain ⟨x, hx, hc⟩ := it.cl (huu rfl) i0 e f t hi hf
          exact ⟨x, by rw [Nat.add_mul, Nat.add_assoc]; exact h2 _ _ hx, hc⟩
        | false =>
          obtain ⟨x, hx, hc⟩ := it.rd i0 e f t hi hf
          exact ⟨x, by rw [Nat.add_mul, Nat.add_assoc]; exact h2 _ _ hx, Rds.cell hc (fun h => by cases h)⟩
    by_cases hroom : es.length + items.length ≤ c
    · obtain ⟨b, vs, tt, hG, rfl, hh, hsz, hol⟩ := hblk (by omega)
      have hfit : es.length * i.size + news.length ≤ vs.size := by
        rw [hsz, it.fc.1, ← Nat.add_mul]
        exact Nat.mul_le_mul_right _ hroom
      have hrun := run_ap1 (P := P) (ty := ty) ht hi hh it.fc (it.one hk0) hroom hfit
      obtain ⟨c1, c2⟩ := cells (vs := (vs.toList.take (es.length * i.size) ++ news ++ vs.toList.drop (es.length * i.size + news.length)).toArray) (fun j x hj => by
          have hjl := (List.getElem?_eq_some_iff.1 hj).1
          rw [hol] at hj hjl
          simp only [List.getElem?_toArray, List.append_assoc]
          rw [List.getElem?_append_left hjl]
          exact hj) (fun j x hj => by
          have hjl := (List.getElem?_eq_some_iff.1 hj).1
          have htl : (vs.toList.take (es.length * i.size)).length = es.length * i.size := by simp; omega
          simp only [List.getElem?_toArray, List.append_assoc]
          rw [List.getElem?_append_right (by omega), htl, Nat.add_sub_cancel_left, List.getElem?_append_left hjl]
          exact hj)
      obtain ⟨G', hG'⟩ := core_app h it.kl (d := d) hs hnd hd (w' := w.setRow b (vs.toList.take (es.length * i.size) ++ news ++ vs.toList.drop (es.length * i.size + news.length)).toArray) (by simp)
        (fun blk _ hn => setRow_other w b blk _ (fun hbb => hn c (by rw [hbb]; exact hG))) rfl rfl rfl (.inl hG) (fun _ => hG) (setRow_heap w b vs _ tt (0, 0) hh) (by simp; omega) (by rw [← hcap] at o3; omega) it.un c1 c2
        (fun hu => by rw [hu]; exact it.sub (huu hu)) (fun hu => it.src (huu hu)) (fun hu => it.inj (huu hu))
      exact ⟨_, _, G', hrun, hG'⟩
    · have hgrow : c < es.length + items.length := by omega
      have hrun := run_ap2 (P := P) (ty := ty) ht hi hz hfc it.fc hgrow hb hby
      have hge := grownCap_ge w (es.length + items.length) c e
      have holl : olds.length = es.length * i.size := hfc.1
      obtain ⟨c1, c2⟩ := cells (vs := olds.toArray ++ news.toArray ++ Builtin.zeroCells z.cells (grownCap w (es.length + items.length) c e - (es.length + items.length))) (fun j x hj => by
          have hjl := (List.getElem?_eq_some_iff.1 hj).1
          rw [Array.append_assoc, Array.getElem?_append_left (by simpa using hjl)]
          simpa using hj) (fun j x hj => by
          have hjl := (List.getElem?_eq_some_iff.1 hj).1
          rw [Array.append_assoc, Array.getElem?_append_right (by simp; omega), Array.getElem?_append_left (by simp; omega)]
          simp only [List.size_toArray, holl, Nat.add_sub_cancel_left]
          simpa using hj)
      obtain ⟨G', hG'⟩ := core_app h it.kl (d := d) hs hnd hd (b' := w.heap.size) (c' := grownCap w (es.length + items.length) c e) (w' := w.drew.alloc (.cells (olds.toArray ++ news.toArray ++ Builtin.zeroCells z.cells (grownCap w (es.length + items.length) c e - (es.length + items.length))) e)) (by simp)
        (fun blk hb _ => heap_alloc_old w.drew _ blk hb) rfl rfl rfl (.inr (Nat.le_refl _)) (fun hmx => by rw [← hcap] at o3; omega) (heap_alloc_new w.drew _)
        (by simp only [Array.size_append, List.size_toArray, size_zeroCells, hzk, holl, it.fc.1, ← Nat.add_mul]; congr 1; omega) (by rw [← hcap] at o3; omega) it.un c1 c2
        (fun hu => by rw [hu]; exact it.sub (huu hu)) (fun hu => it.src (huu hu)) (fun hu => it.inj (huu hu))
      exact ⟨_, _, G', hrun, hG'⟩
end
end Go.Fd

namespace Go.Fd

section
variable {P : Program} {F : Fr} {G G' : Gh} {S S' : Sto} {st st1 st2 : St} {a : Act} {w w' : World} {C : Contract} {oper : Oper} {D D2 : Oid → Prop}

theorem ScR.flat {es : Row} (h : ScR es) : FlatR es := fun e he t ht => by
  have := h e he t ht
  cases t with
  | v x => trivial
  | sl z => simp [isSc] at this

theorem ap_cs (h : Sim F G st a w) {items : Row} {N : Pth → Option (Nat × Nat)} {ui : Bool} {k key : Nat} {yv xv : Value} {news : List Value} {t ty e : TypeId} {i : TypeInfo} {z : Value} {d : Option Nat} (it : IT G st st1 w D items N ui k yv news)
    (ht : P.underlying t = some (.slice e)) (hi : P.info? e = some i) (hz : i.zero = some z) (hik : i.size = k) (hzk : z.cells.size = k) (hby : i.bytes ≤ 1024) (hk0 : 0 < k) (hd : ∀ y, d = some y → y < F.nt)
    {zs : Row} (hx : VR G st.sto w (.cs zs) xv) (hor : zs = [] ∨ items ≠ []) (hb : zs.length + items.length ≤ bigN) (hkz : UnR k zs) (hkey : st.sto (st.lvl, key) = none) (hfl : zs = [] ∨ ui = false ∨ ScR zs) :
    ∃ v w' G', ARun P t ty xv yv w v w' ∧ Sim F G' { setOb st1 (st.lvl, key) (.ar k (zs ++ items) ui (zs.length + items.length) 0) with env := ptd d (.hd (st.lvl, key) [] 0 (zs.length + items.length) none (zs.length + items.length)) st1.env } (a.put d v) w' := by
  subst hik
  obtain ⟨⟨ad, rfl⟩, hrd⟩ := hx
  by_cases hit : items = []
  · subst hit
    have hzs : zs = [] := hor.resolve_right (fun h => h rfl)
    subst hzs
    have hnews : news = [] := List.eq_nil_of_length_eq_zero (by simpa using it.fc.1)
    subst hnews
    let id : Oid := (st.lvl, key)
    let G' : Gh := fun j => if j = id then fun _ => none else G j
    have hG : ∀ p, G' id p = none := fun p => by simp [G']
    have hnd : ¬ D id := fun hD => by
      have := it.kl.was id hD
      rw [hkey] at this
      cases this
    have hno : ∀ b, ¬ own1 G' id (.ar i.size [] ui 0 0) b := fun b ⟨p, c, _, _, hg⟩ => by rw [hG] at hg; cases hg
    refine ⟨_, w, G', run_ap0 ht hi it.fc (Nat.le_refl _), ?_⟩
    exact (h.turn it.kl (id := id) (ob' := .ar i.size [] ui 0 0) (d := d) (x := .hd id [] 0 0 none 0) (G' := G') (w' := w) hnd (.inl rfl) (fun j hj => by simp [G', hj]) (Nat.le_refl _) (fun _ _ _ => rfl) (fun b ho => absurd ho (hno b)) (fun ob ho => by rw [hkey] at ho; cases ho)
      rfl rfl rfl (fun t => ⟨Nat.le_refl _, fun e he => by simp at he, by rw [hG]; simp [capOf], fun p es' _ hg => by
        obtain ⟨rfl, rfl⟩ := getp_nil hg
        unfold rowR
        rw [hG], fun p p' b c c' _ _ _ _ g1 _ => by rw [hG] at g1; cases g1⟩) (fun _ he => by cases he) hd
      (fun t => ⟨⟨_, _, rfl, Nat.le_refl _⟩, i.size, [], ui, 0, 0, by unfold sset; rw [if_pos rfl], Nat.le_refl _, fun _ => ⟨[], i.size, ad, 0, rfl, fun _ => rfl, fun e he => by simp at he, rfl, Nat.le_refl _, fun m hm => by simp at hm, fun _ _ => by rw [hG]; simp [capOf], .inl rfl⟩⟩)).1
  · have hm : 0 < items.length := Nat.pos_of_ne_zero fun h0 => hit (List.eq_nil_of_length_eq_zero h0)
    obtain ⟨olds, hfc, hold⟩ := hrd.fc hk0 hkz
    have hrun := run_ap2 (P := P) (ty := ty) ht hi hz hfc it.fc (by omega) hb hby
    have hge := grownCap_ge w (zs.length + items.length) zs.length e
    have holl : olds.length = zs.length * i.size := hfc.1
    let N' : Pth → Option (Nat × Nat) := fun p => match p with
      | (i, f) :: q => if i < zs.length then none else N ((i - zs.length, f) :: q)
      | [] => none
    have hNo : ∀ {i f : Nat} {q : Pth}, i < zs.length → N' ((i, f) :: q) = none := fun hi => by simp [N', hi]
    have hNn : ∀ {i f : Nat} {q : Pth}, N' ((zs.length + i, f) :: q) = N ((i, f) :: q) := fun {i f q} => by
      show (if zs.length + i < zs.length then _ else _) = _
      rw [if_neg (by omega), Nat.add_sub_cancel_left]
    have split : ∀ {p : Pth} {b1 c1 : Nat}, p ≠ [] → (getp (zs ++ items) p).isSome = true → N' p = some (b1, c1) →
        ∃ i f q, p = (zs.length + i, f) :: q ∧ (getp items ((i, f) :: q)).isSome = true ∧ N ((i, f) :: q) = some (b1, c1) := by
      intro p b1 c1 hp hss hg
      cases p with
      | nil => exact absurd rfl hp
      | cons cd q =>
        obtain ⟨i, f⟩ := cd
        obtain ⟨es2, he2⟩ := Option.isSome_iff_exists.1 hss
        rw [getp_app] at he2
        by_cases hi : i < zs.length
        · rw [hNo hi] at hg; cases hg
        · rw [if_neg hi] at he2
          obtain ⟨m, rfl⟩ : ∃ m, i = zs.length + m := ⟨i - zs.length, by omega⟩
          rw [hNn] at hg
          rw [show zs.length + m - zs.length = m from by omega] at he2
          exact ⟨m, f, q, rfl, by rw [he2]; rfl, hg⟩
    have hflat : ui = true → FlatR zs := fun hu => by
      rcases hfl with rfl | h | h
      · intro e he; simp at he
      · rw [hu] at h; cases h
      · exact h.flat
    have hcat : ∀ {j : Nat} {x : Value}, olds[j]? = some x → (olds.toArray ++ news.toArray ++ Builtin.zeroCells z.cells (grownCap w (zs.length + items.length) zs.length e - (zs.length + items.length)))[j]? = some x := fun {j x} hj => by
      have hjl := (List.getElem?_eq_some_iff.1 hj).1
      rw [Array.append_assoc, Array.getElem?_append_left (by simpa using hjl)]
      simpa using hj
    have hcat2 : ∀ {j : Nat} {x : Value}, news[j]? = some x → (olds.toArray ++ news.toArray ++ Builtin.zeroCells z.cells (grownCap w (zs.length + items.length) zs.length e - (zs.length + items.length)))[zs.length * i.size + j]? = some x := fun {j x} hj => by
      have hjl := (List.getElem?_eq_some_iff.1 hj).1
      rw [Array.append_assoc, Array.getElem?_append_right (by simp; omega), Array.getElem?_append_left (by simp; omega)]
      simp only [List.size_toArray, holl, Nat.add_sub_cancel_left]
      simpa using hj
    obtain ⟨G', hG'⟩ := core_new h it.kl (d := d) (key := key) (k := i.size) (c := grownCap w (zs.length + items.length) zs.length e) (es := zs ++ items) (u := ui) (ty := e) (N := N') hkey hd
      (w' := w.drew.alloc (.cells (olds.toArray ++ news.toArray ++ Builtin.zeroCells z.cells (grownCap w (zs.length + items.length) zs.length e - (zs.length + items.length))) e))
      ⟨by simp, fun b hb => heap_alloc_old w.drew _ b hb, rfl, rfl, rfl⟩ (heap_alloc_new w.drew _)
      (by simp only [Array.size_append, List.size_toArray, size_zeroCells, hzk, holl, it.fc.1, ← Nat.add_mul]; congr 1; omega) (by rw [List.length_append]; exact hge)
      (fun e he => by
        rcases List.mem_append.1 he with he | he
        · exact hkz e he
        · exact it.un e he)
      (fun i0 e0 f t0 h1 h2 => by
        by_cases hil : i0 < zs.length
        · rw [List.getElem?_append_left hil] at h1
          obtain ⟨x, hx, hr⟩ := hold i0 e0 f t0 h1 h2
          exact ⟨x, hcat hx, Rds.cell (Rds.mono it.kl.av (fun _ _ => rfl) hr) fun hu => hflat hu e0 (List.mem_of_getElem? h1) t0 (List.mem_of_getElem? h2)⟩
        · obtain ⟨m, rfl⟩ : ∃ m, i0 = zs.length + m := ⟨i0 - zs.length, by omega⟩
          rw [List.getElem?_append_right (by omega), show zs.length + m - zs.length = m from by omega] at h1
          cases ui with
          | true =>
            obtain ⟨x, hx, hr⟩ := it.cl rfl m e0 f t0 h1 h2
            refine ⟨x, by rw [Nat.add_mul, Nat.add_assoc]; exact hcat2 hx, ?_⟩
            cases t0 with
            | v y => exact hr
            | sl zz =>
              simp only [cellR, if_true, List.nil_append] at hr ⊢
              rw [hNn]
              exact hr
          | false =>
            obtain ⟨x, hx, hr⟩ := it.rd m e0 f t0 h1 h2
            exact ⟨x, by rw [Nat.add_mul, Nat.add_assoc]; exact hcat2 hx, Rds.cell hr fun hu => by cases hu⟩)
      (fun hu i0 f e0 zz q es2 h1 h2 h3 => by
        by_cases hil : i0 < zs.length
        · rw [List.getElem?_append_left hil] at h1
          have := hflat hu e0 (List.mem_of_getElem? h1) _ (List.mem_of_getElem? h2)
          simp only [flatT] at this
          subst this
          obtain ⟨rfl, rfl⟩ := getp_nil h3
          unfold rowR
          simp only [hNo hil]
        · obtain ⟨m, rfl⟩ : ∃ m, i0 = zs.length + m := ⟨i0 - zs.length, by omega⟩
          rw [List.getElem?_append_right (by omega), show zs.length + m - zs.length = m from by omega] at h1
          have := it.sub hu m f e0 zz q es2 h1 h2 h3
          rw [hu]
          exact rowR_keep2 (G := fun _ => N) (id := (0, 0)) (p := (m, f) :: q) (A := fun _ => False) hNn (fun _ r => hNn) (fun hu2 => by cases hu2) (fun b hb => hb.elim) (fun h => by cases h) (fun _ _ _ => rfl) this)
      (fun hu p b1 c1 hp hss hg => by
        obtain ⟨m, f, q, rfl, r1, r2⟩ := split hp hss hg
        exact it.src hu _ b1 c1 (by simp) r1 r2)
      (fun hu p p' b1 c1 c2 hp hp' h1 h2 g1 g2 => by
        obtain ⟨m, f, q, rfl, r1, r2⟩ := split hp h1 g1
        obtain ⟨m', f', q', rfl, s1, s2⟩ := split hp' h2 g2
        have := it.inj hu _ _ b1 c1 c2 (by simp) (by simp) r1 s1 r2 s2
        simp only [List.cons.injEq, Prod.mk.injEq] at this
        rw [this.1.1, this.1.2, this.2])
    rw [List.length_append] at hG'
    exact ⟨_, _, G', hrun, hG'⟩
end
end Go.Fd

namespace Go.Fd

section
variable {P : Program} {F : Fr} {G G' : Gh} {S S' : Sto} {st st1 st2 : St} {a : Act} {w w' : World} {C : Contract} {oper : Oper} {D D2 : Oid → Prop}

theorem Kl.xv (k : Kl D st st1) {x : X} {v : Value} (h : VR G S w (xv st.env x) v) : VR G S w (xv st1.env x) v := by
  cases x with
  | t n => exact k.vr n G S w v h
  | k u => exact h
  | f i => exact h

theorem IT.mk0 {items : Row} {ui : Bool} {k : Nat} {yv : Value} {news : List Value} (fc : FC w k items.length yv news) (un : UnR k items)
    (rd : ∀ (i : Nat) (e : List Tr) (f : Nat) (t : Tr), items[i]? = some e → e[f]? = some t → ∃ x, news[i * k + f]? = some x ∧ Rds w (Av G st.sto w) x t) (hu : ui = true → FlatR items) :
    IT G st st w (fun _ => False) items (fun _ => none) ui k yv news := by
  refine ⟨Kl.refl st, fc, un, rd, fun hui i e f t hi hf => ?_, fun hui i f e zs q es2 hi hf hq => ?_, fun _ _ _ _ _ _ h => (by cases h), fun _ _ _ _ _ _ _ _ _ _ h => (by cases h)⟩
  · obtain ⟨x, hx, hr⟩ := rd i e f t hi hf
    exact ⟨x, hx, Rds.cell hr fun _ => hu hui e (List.mem_of_getElem? hi) t (List.mem_of_getElem? hf)⟩
  · have := hu hui e (List.mem_of_getElem? hi) _ (List.mem_of_getElem? hf)
    simp only [flatT] at this
    subst this
    obtain ⟨rfl, rfl⟩ := getp_nil hq
    unfold rowR
    rfl

theorem ap_go (h : Sim F G st a w) {items : Row} {N : Pth → Option (Nat × Nat)} {ui : Bool} {k : Nat} {yv xv0 : Value} {news : List Value} {t ty e : TypeId} {i : TypeInfo} {z : Value} {d : Option Nat} {x : X} {loc : List (Nat × Ob)} {K : St → Prop} (it : IT G st st1 w D items N ui k yv news)
    (ht : P.underlying t = some (.slice e)) (hi : P.info? e = some i) (hz : i.zero = some z) (hik : i.size = k) (hzk : z.cells.size = k) (hby : i.bytes ≤ 1024) (hk0 : 0 < k) (hd : ∀ y, d = some y → y < F.nt)
    (hxv : VR G st.sto w (xv st1.env x) xv0) (hfr : freshK (keyOf d) loc 1 → st.sto (st.lvl, keyOf d) = none) (hgo : apgo d k x loc items ui st1 K) :
    ∃ v w' st' G', ARun P t ty xv0 yv w v w' ∧ K st' ∧ Sim F G' st' (a.put d v) w' := by
  obtain ⟨_, hgo⟩ := hgo
  split at hgo
  · rename_i zs hq
    rw [hq] at hxv
    obtain ⟨g1, g2, g3, g4, g5, hk⟩ := hgo
    obtain ⟨v, w', G', h1, h2⟩ := ap_cs (ty := ty) h it ht hi hz hik hzk hby hk0 hd hxv g1 g2 g3 (hfr g4) g5
    rw [it.kl.lvl] at hk
    exact ⟨v, w', _, G', h1, hk, h2⟩
  · rename_i id len s hq
    rw [hq] at hxv
    split at hgo <;> try contradiction
    rename_i k' es u hw ver hs1
    obtain ⟨rfl, rfl, rfl, g1, hk⟩ := hgo
    obtain ⟨hnd, ob0, hs0, hwk⟩ := it.kl.only _ _ hs1
    have hob : ob0 = .ar k' es u s ver := by cases hwk; rfl
    subst hob
    by_cases huu : u = true → ui = true
    · obtain ⟨v, w', G', h1, h2⟩ := ap_hd (ty := ty) h it ht hi hz hik hzk hby hk0 hd hs0 hnd hxv huu g1
      have : (u && ui) = u := by cases u <;> cases ui <;> simp_all
      rw [this] at hk
      exact ⟨v, w', _, G', h1, hk, h2⟩
    · have huu2 : u = true ∧ ui = false := by cases u <;> cases ui <;> simp_all
      obtain ⟨rfl, rfl⟩ := huu2
      have hkl := h.kl it.kl
      have hfz := hkl.1.freeze hs1
      have hx1 := hkl.2.vr (.hd id [] 0 es.length none s) xv0 hnd hxv
      have hx2 := hfz.2.vr (.hd id [] 0 es.length none s) xv0 (fun h => h) hx1
      have hs2 : (setOb st1 id (.ar k' es false s ver)).sto id = some (.ar k' es false s ver) := by rw [setOb_sto]; unfold sset; rw [if_pos rfl]
      have it2 : IT G (setOb st1 id (.ar k' es false s ver)) (setOb st1 id (.ar k' es false s ver)) w (fun _ => False) items (fun _ => none) false k' yv news :=
        IT.mk0 it.fc it.un (fun i0 e0 f t0 h1 h2 => by
          obtain ⟨x, hx, hr⟩ := it.rd i0 e0 f t0 h1 h2
          exact ⟨x, hx, Rds.mono hfz.2.av hfz.2.same hr⟩) (fun h => by cases h)
      obtain ⟨v, w', G', h1, h2⟩ := ap_hd (ty := ty) hfz.1 it2 ht hi hz hik hzk hby hk0 hd hs2 (fun h => h) hx2 (fun h => by cases h) g1
      rw [setOb_setOb, setOb_env] at h2
      exact ⟨v, w', _, G', h1, hk, h2⟩
  · contradiction

theorem hd_fc2 (h : SOk G S w) {id : Oid} {k : Nat} {es es' : Row} {u : Bool} {hw ver off len s : Nat} {p : Pth} {cap : Option Nat} {v : Value} (hs : S id = some (.ar k es u hw ver)) (hg : getp es p = some es') (hst : stamp p s hw ver u) (hv : hdR G S id p off len cap s v) (hl : off + len ≤ es'.length) {k0 : Nat} (hk0 : UnR k0 (cut es' off len)) :
    ∃ cs, FC w k0 len v cs ∧ ∀ (i : Nat) (e : List Tr) (f : Nat) (t : Tr), (cut es' off len)[i]? = some e → e[f]? = some t → ∃ x, cs[i * k0 + f]? = some x ∧ cellR G w (Av G S w) id p u (off + i) f x t := by
  obtain ⟨_, k2, es2, u2, hw2, ver2, hs2, _, hrel⟩ := hv
  rw [hs] at hs2; cases hs2
  obtain ⟨es3, k', ad, c, hg3, _, hun, rfl, hlc, _, _, hor⟩ := hrel hst
  rw [hg] at hg3; cases hg3
  by_cases h0 : len = 0
  · subst h0
    refine ⟨[], ⟨by simp, ad, c, rfl, ?_⟩, fun i e f t h => by simp [cut] at h⟩
    cases ad with
    | none => exact .inr ⟨rfl, rfl⟩
    | some ad => exact .inl ⟨ad, rfl, fun j u hj => by simp at hj⟩
  · have hr := row_at h hs hst hg
    unfold rowR at hr
    rcases hor with hz | ⟨_, hz⟩ | ⟨b, cc, hG, rfl, hoc⟩
    · omega
    · exact absurd hz h0
    · rw [hG] at hr
      obtain ⟨k2, vs, ty, h1, h2, h3, h4, h5, h6⟩ := hr
      have hlt : off < es'.length := by omega
      have hm := List.mem_of_getElem? (List.getElem?_eq_getElem hlt)
      have hkk : k2 = k' := by rw [← h2 _ hm, hun _ hm]
      subst hkk
      have hcl : (cut es' off len).length = len := cut_length hl
      have hk2 : k2 = k0 := by
        have : (cut es' off len)[0]? = some es'[off] := by
          rw [cut_get, if_pos (by omega)]
          simp [hlt]
        rw [← hk0 _ (List.mem_of_getElem? this), ← h2 _ hm]
      subst hk2
      have hll : (off + len) * k2 ≤ vs.size := by rw [h4]; exact Nat.mul_le_mul_right _ (by omega)
      rw [Nat.add_mul] at hll
      refine ⟨(vs.toList.drop (off * k2)).take (len * k2), ⟨by simp; omega, _, c, rfl, .inl ⟨_, rfl, fun j u hj => ?_⟩⟩, fun i e f t hi hf => ?_⟩
      · rw [List.getElem?_take] at hj
        split at hj <;> try contradiction
        rw [List.getElem?_drop] at hj
        rw [add_mk, cell_of_row w b _ vs ty (0, 0) h3]
        simpa using hj
      · rw [cut_get] at hi
        split at hi <;> try contradiction
        rename_i hil
        obtain ⟨x, hx, hc⟩ := h6 (off + i) e f t hi hf
        have hfl := (List.getElem?_eq_some_iff.1 hf).1
        rw [h2 e (List.mem_of_getElem? hi)] at hfl
        refine ⟨x, ?_, hc⟩
        rw [List.getElem?_take, if_pos (idx_lt hil hfl), List.getElem?_drop]
        rw [Nat.add_mul] at hx
        rw [← Nat.add_assoc]
        simpa using hx
end
end Go.Fd

namespace Go.Fd

section
variable {P : Program} {F : Fr} {G G' : Gh} {S S' : Sto} {st st1 st2 : St} {a : Act} {w w' : World} {C : Contract} {oper : Oper} {D D2 : Oid → Prop}

theorem IT.sv (h : Sim F G st a w) {id : Oid} {l : List IV} {k b c : Nat} {K1 : List Tr → Bool → St → Prop} (hs : st.sto id = some (.bx l)) (hl2 : id.1 = st.lvl) (hg : G id [] = some (b, c)) (hlen : l.length = k) (hm : mvcs l st K1) :
    ∃ ts u st2 D N news, K1 ts u st2 ∧ IT G st (kill id st2) w D [ts] N u k (.slice (some ⟨b, 0, none⟩) 1 1) news := by
  obtain ⟨b', c', vs, ty, hb1, hb2, hvs⟩ := h.ok.obs _ _ hs
  rw [hg] at hb1; cases hb1
  have hvl : vs.size = k := by rw [← hlen]; simpa using VRs_length hvs
  obtain ⟨ts, u, st2, D2, src, h1, h2, _, h4, h5, h6, _, h8⟩ := mvcs_ok h l _ st _ _ (Kl.refl st) hvs hm
  have htl : ts.length = k := by rw [h4, hlen]
  have hk2 := h2.step (fun j cells hj => h.ok.low j cells hj) h.outl hl2 (by rw [hs]; rfl)
  have hs2 := (h.kl h2).1
  have hav : ∀ blk, Av G st2.sto w blk → Av G (kill id st2).sto w blk := fun blk hb => ⟨hb.1, fun i ob hi ho => by
    by_cases hil : i.1 = st2.lvl
    · rw [kill_in hil (by rw [h2.lvl]; exact hl2)] at hi
      split at hi
      · cases hi
      · obtain ⟨ob0, g1, g2⟩ := Option.map_eq_some_iff.1 hi
        refine hb.2 i ob0 g1 ?_
        subst g2
        cases ob0 <;> exact ho
    · have : (kill id st2).sto i = st2.sto i := by rw [sto_out (st := kill id st2) hil, sto_out hil]; rfl
      rw [this] at hi
      exact hb.2 i ob hi ho⟩
  let N : Pth → Option (Nat × Nat) := fun p => match p with
    | (_, f) :: q => match src f with
      | some j => G j q
      | none => none
    | [] => none
  have es1 : ∀ {i : Nat} {e : List Tr}, [ts][i]? = some e → i = 0 ∧ e = ts := fun {i e} hi => by
    cases i with
    | zero => simp at hi; exact ⟨rfl, hi.symm⟩
    | succ i => simp at hi
  have vat : ∀ {f : Nat} {t : Tr}, ts[f]? = some t → ∃ v, vs.toList[f]? = some v := fun {f t} hf => by
    have hlt : f < k := by rw [← htl]; exact (List.getElem?_eq_some_iff.1 hf).1
    exact ⟨vs.toList[f]'(by simpa [hvl] using hlt), by simp [hvl, hlt]⟩
  have hsrc1 : u = true → ∀ p b1 c1, p ≠ [] → (getp [ts] p).isSome = true → N p = some (b1, c1) → ∃ f q j k2 zs hw2 ver2, p = (0, f) :: q ∧ src f = some j ∧ G j q = some (b1, c1) ∧ D2 j ∧ st.sto j = some (.ar k2 zs true hw2 ver2) ∧ (getp zs q).isSome = true := by
    intro hu p b1 c1 hp hss hN
    cases p with
    | nil => exact absurd rfl hp
    | cons cd q =>
      obtain ⟨i, f⟩ := cd
      obtain ⟨es2, he2⟩ := Option.isSome_iff_exists.1 hss
      obtain ⟨e0, zs, g1, g2, g3⟩ := getp_cons he2
      obtain ⟨rfl, rfl⟩ := es1 g1
      simp only [N] at hN
      split at hN
      · rename_i j hj
        obtain ⟨v, hv⟩ := vat g2
        have := h6 hu f _ v g2 hv
        rw [hj] at this
        obtain ⟨r1, r2, k2, zs2, hw2, ver2, r3, r4, r5⟩ := this
        cases r4
        exact ⟨f, q, j, k2, zs, hw2, ver2, rfl, hj, hN, r1, r3, by rw [g3]; rfl⟩
      · cases hN
  refine ⟨ts, u, st2, _, N, vs.toList, h1, hk2, ⟨by simp [hvl], _, _, rfl, .inl ⟨_, rfl, fun j x hj => ?_⟩⟩, fun e he => by simp at he; subst he; exact htl, fun i e f t hi hf => ?_, fun hu i e f t hi hf => ?_, fun hu i f e zs q es2 hi hf hq => ?_, fun hu p b1 c1 hp hss hN => ?_, fun hu p p' b1 c1 c2 hp hp' hss hss' hN hN' => ?_⟩
  · have : (⟨b, 0, none⟩ : Addr).add j = ⟨b, j, none⟩ := by
      simp [Addr.add]
      try exact fun h => h.symm
    rw [this]
    have := cell_of_row w b j vs ty (0, 0) hb2
    rw [this]
    simpa using hj
  · obtain ⟨rfl, rfl⟩ := es1 hi
    obtain ⟨v, hv⟩ := vat hf
    exact ⟨v, by simpa using hv, Rds.mono hav (fun _ _ => rfl) (h5 f t v hf hv)⟩
  · obtain ⟨rfl, rfl⟩ := es1 hi
    obtain ⟨v, hv⟩ := vat hf
    refine ⟨v, by simpa using hv, ?_⟩
    subst hu
    have := h6 rfl f t v hf hv
    split at this
    · exact Rds.cell (Rds.mono hav (fun _ _ => rfl) (h5 f t v hf hv)) (fun _ => this)
    · rename_i j hj
      exact Src.cell this (by simp [N, hj])
  · obtain ⟨rfl, rfl⟩ := es1 hi
    obtain ⟨v, hv⟩ := vat hf
    have := h6 hu f _ v hf hv
    split at this
    · rename_i hj
      simp only [flatT] at this
      subst this
      obtain ⟨rfl, rfl⟩ := getp_nil hq
      unfold rowR
      simp [N, hj]
    · rename_i j hj
      obtain ⟨r1, r2, k2, zs2, hw2, ver2, r3, r4, r5⟩ := this
      cases r4
      have hr := (h.ok.obs _ _ r3).2.2.2.1 q es2 (.inr rfl) hq
      have hr2 := rowR_own (G1 := G) (G2 := G) (A' := fun _ => False) (i := j) rfl hr
      exact rowR_keep2 (G := G) (id := j) (p := q) (A := fun _ => False) (by simp [N, hj]) (fun _ r => by simp [N, hj]) (fun hu => by cases hu) (fun b hb => hb.elim) (fun h => by cases h) (fun _ _ _ => rfl) hr2
  · obtain ⟨f, q, j, k2, zs, hw2, ver2, rfl, hj, g1, g2, g3, g4⟩ := hsrc1 hu p b1 c1 hp hss hN
    exact ⟨j, _, .inl g2, g3, q, c1, .inr rfl, g4, g1⟩
  · obtain ⟨f, q, j, k2, zs, hw2, ver2, rfl, hj, g1, g2, g3, g4⟩ := hsrc1 hu p b1 c1 hp hss hN
    obtain ⟨f', q', j', k2', zs', hw2', ver2', rfl, hj', g1', g2', g3', g4'⟩ := hsrc1 hu p' b1 c2 hp' hss' hN'
    have hjj := h.ok.dis _ _ _ _ b1 g3 g3' ⟨q, c1, .inr rfl, g4, g1⟩ ⟨q', c2, .inr rfl, g4', g1'⟩
    subst hjj
    rw [g3] at g3'; cases g3'
    rw [h8 f f' j hj hj', (h.ok.obs _ _ g3).2.2.2.2 q q' b1 c1 c2 (.inr rfl) (.inr rfl) g4 g4' g1 g1']

theorem ew_ap (h : Sim F G st a w) {k md : Nat} {x y : X} {d : Option Nat} {K : St → Prop} (hd : d = oper.dst) (hdn : ∀ y, d = some y → y < F.nt) (hc : chkO P (.ap k md x y) oper.op = true) (he : ew C d st K (.ap k md x y)) : LOk P F a w oper K := by
  subst hd
  simp only [chkO] at hc
  split at hc <;> try contradiction
  rename_i args argTypes ho
  split at hc <;> try contradiction
  rename_i xo yo t t2 hargs htys
  simp only [Bool.and_eq_true, beq_iff_eq] at hc
  obtain ⟨⟨⟨rfl, hcx⟩, hcy⟩, hc⟩ := hc
  split at hc <;> try contradiction
  rename_i e hel
  split at hc <;> try contradiction
  rename_i i hi
  simp only [Bool.and_eq_true, beq_iff_eq, decide_eq_true_eq] at hc
  obtain ⟨⟨⟨hik, hk0⟩, hby⟩, hz⟩ := hc
  split at hz <;> try contradiction
  rename_i z hz0
  have hzk : z.cells.size = k := by simpa using hz
  have ht := elemT_eq hel
  have hargs' : args = #[xo, yo] := by cases args; simpa using hargs
  have htys' : argTypes = #[t, t] := by cases argTypes; simpa using htys
  subst hargs'
  subst htys'
  have hx := h.x hcx
  have hy := h.x hcy
  have fin : (∃ v w' st' G', ARun P t oper.type (a.eval xo) (a.eval yo) w v w' ∧ K st' ∧ Sim F G' st' (a.put oper.dst v) w') → LOk P F a w oper K := by
    rintro ⟨v, w', st', G', hr, hk, hs⟩
    unfold ARun at hr
    refine Res.of_run (v := v) (w' := w') ?_ ⟨st', G', hk, hs⟩
    unfold execOp
    simp only [ho, resolve, invoke, builtin, Sem.run_bind, Sem.run_pure, Result.andThen_ok, List.map_toArray, List.map_cons, List.map_nil, hr]
  have hfr0 : freshK (keyOf oper.dst) st.loc 1 → st.sto (st.lvl, keyOf oper.dst) = none := fresh_sto
  -- trees
  have trees : ∀ {es : Row} {ui : Bool}, Rds w (Av G st.sto w) (a.eval yo) (.sl es) → (ui = true → ScR es) → apgo oper.dst k x st.loc es ui st K → LOk P F a w oper K := fun {es ui} hr hu hgo => by
    obtain ⟨news, it⟩ := IT.trees (ui := ui) hr hk0 hgo.1 (fun h => (hu h).flat)
    exact fin (ap_go h it ht hi hz0 hik hzk hby hk0 hdn hx hfr0 hgo)
  simp only [ew] at he
  split at he <;> try contradiction
  · rename_i es hq
    rw [hq] at hy
    split at he
    · exact trees hy (fun _ => he.1) he.2
    · exact trees hy (fun h => by cases h) he.2
  · rename_i es hq
    rw [hq] at hy
    split at he
    · exact trees hy.2 (fun _ => he.1) he.2
    · exact trees hy.2 (fun h => by cases h) he.2
  · rename_i id2 p2 off2 len2 cap2 s2 hq
    rw [hq] at hy
    split at he
    · obtain ⟨rfl, rfl, rfl, hl2, he⟩ := he
      split at he <;> try contradiction
      rename_i k2 zs u2 hw2 ver2 hs2
      obtain ⟨rfl, rfl, hgo⟩ := he
      cases u2 with
      | true =>
        obtain ⟨news, it⟩ := IT.moved h hs2 hl2 hy hk0 hgo.1
        exact fin (ap_go h it ht hi hz0 hik hzk hby hk0 hdn (it.kl.xv hx) hfr0 hgo)
      | false =>
        obtain ⟨stp, hr⟩ := kill_tree h hs2 hl2 hy
        obtain ⟨news, it⟩ := IT.trees (ui := false) hr hk0 hgo.1 (fun h => by cases h)
        refine fin (ap_go stp.sim it ht hi hz0 hik hzk hby hk0 hdn (stp.sim.x hcx) (fun hf => ?_) hgo)
        show (kill id2 st).sto (st.lvl, keyOf oper.dst) = none
        rw [kill_in rfl hl2]
        split
        · rfl
        · rw [hfr0 hf]; rfl
    · split at he
      · unfold rdh at he
        split at he <;> try contradiction
        rename_i k2 es u2 hw2 ver2 hs2
        obtain ⟨es', hg, hst, hl, hsc, hgo⟩ := he
        obtain ⟨cs, fc, hcell⟩ := hd_fc2 h.ok hs2 hg hst hy hl hgo.1
        have it : IT G st st w (fun _ => False) (cut es' off2 len2) (fun _ => none) true k (a.eval yo) cs := IT.mk0 (by rw [cut_length hl]; exact fc) hgo.1 (fun i0 e0 f t0 h1 h2 => by
          obtain ⟨x, hx, hr⟩ := hcell i0 e0 f t0 h1 h2
          refine ⟨x, hx, ?_⟩
          have := hsc e0 (List.mem_of_getElem? h1) t0 (List.mem_of_getElem? h2)
          cases t0 with
          | v y => obtain ⟨rfl, hs⟩ := hr; exact .v _ hs
          | sl z => simp [isSc] at this) (fun _ => hsc.flat)
        exact fin (ap_go h it ht hi hz0 hik hzk hby hk0 hdn hx hfr0 hgo)
      · obtain ⟨_, rfl, he⟩ := he
        split at he <;> try contradiction
        rename_i k2 es u2 hw2 ver2 hs2
        obtain ⟨rfl, hl, hgo⟩ := he
        have hfz := h.freeze hs2
        have hy2 := hfz.2.vr (.hd id2 [] off2 len2 cap2 s2) (a.eval yo) (fun h => h) hy
        have hs2' : (setOb st id2 (.ar k2 es false s2 ver2)).sto id2 = some (.ar k2 es false s2 ver2) := by rw [setOb_sto]; unfold sset; rw [if_pos rfl]
        obtain ⟨cs, fc, hcell⟩ := hd_fc2 hfz.1.ok hs2' (p := []) rfl (rfl : stamp [] s2 s2 ver2 false) hy2 hl hgo.1
        have it : IT G (setOb st id2 (.ar k2 es false s2 ver2)) (setOb st id2 (.ar k2 es false s2 ver2)) w (fun _ => False) (cut es off2 len2) (fun _ => none) false k (a.eval yo) cs := IT.mk0 (by rw [cut_length hl]; exact fc) hgo.1 (fun i0 e0 f t0 h1 h2 => by
          obtain ⟨x, hx, hr⟩ := hcell i0 e0 f t0 h1 h2
          refine ⟨x, hx, ?_⟩
          cases t0 with
          | v y => obtain ⟨rfl, hs⟩ := hr; exact .v _ hs
          | sl z => simpa [cellR] using hr) (fun h => by cases h)
        refine fin (ap_go hfz.1 it ht hi hz0 hik hzk hby hk0 hdn (hfz.1.x hcx) (fun hf => ?_) hgo)
        rw [setOb_lvl, setOb_sto]
        unfold sset
        rw [if_neg (fun hh => by have h1 := hfr0 hf; rw [hh, hs2] at h1; cases h1)]
        exact hfr0 hf
  · rename_i id2 hq
    rw [hq] at hy
    obtain ⟨rfl, hl2, he⟩ := he
    split at he <;> try contradiction
    rename_i l hs2
    obtain ⟨hlen, hm⟩ := he
    obtain ⟨_, b, c, hs3, hgb, hyv⟩ := hy
    rw [hs2] at hs3; cases hs3
    obtain ⟨ts, u, st2, D2, N, news, hgo, it⟩ := IT.sv h hs2 hl2 hgb hlen hm
    rw [← hyv] at it
    exact fin (ap_go h it ht hi hz0 hik hzk hby hk0 hdn (it.kl.xv hx) hfr0 hgo)
theorem ap_of_a0 {k : Nat} {x y : X} {d : Option Nat} {K : St → Prop} (he : ew C d st K (.a0 k x y)) : ew C d st K (.ap k 0 x y) := by
  simp only [ew, qeff] at he ⊢
  split at he <;> try contradiction
  rename_i id len s hx
  split at he <;> try contradiction
  rename_i k' es u hw ver hs
  obtain ⟨h1, h2, h3, h4⟩ := he
  have go : ∀ items : Row, ScR items → UnR k items → len + items.length ≤ bigN → K { setOb st id (.ar k (es ++ items) u (max hw (len + items.length)) ver) with env := ptd d (.hd id [] 0 (len + items.length) none (max hw (len + items.length))) st.env } → ScR items ∧ apgo d k x st.loc items true st K := fun items g1 g2 g3 g4 => by
    refine ⟨g1, ?_⟩
    unfold apgo
    refine ⟨g2, ?_⟩
    simp only [hx, hs, Bool.and_true]
    exact ⟨h1, h2, h3, g3, g4⟩
  unfold srcS at h4
  split at h4 <;> try contradiction
  · rename_i zs hy
    simp only [hy, if_true]
    exact go zs h4.1 h4.2.1 h4.2.2.1 h4.2.2.2
  · rename_i zs hy
    simp only [hy, if_true]
    exact go zs h4.1 h4.2.1 h4.2.2.1 h4.2.2.2
  · rename_i id2 p2 off2 len2 c2 s2 hy
    simp only [hy, if_true]
    unfold rdh at h4 ⊢
    split at h4 <;> try contradiction
    obtain ⟨es', q1, q2, q3, q4⟩ := h4
    exact ⟨es', q1, q2, q3, go _ q4.1 q4.2.1 q4.2.2.1 q4.2.2.2⟩
theorem ew_a0 (h : Sim F G st a w) {k : Nat} {x y : X} {d : Option Nat} {K : St → Prop} (hd : d = oper.dst) (hdn : ∀ y, d = some y → y < F.nt) (hc : chkO P (.a0 k x y) oper.op = true) (he : ew C d st K (.a0 k x y)) : LOk P F a w oper K := by
  have hc' : chkO P (.ap k 0 x y) oper.op = true := by simpa only [chkO] using hc
  refine ew_ap (C := C) h hd hdn hc' ?_
  exact ap_of_a0 he
theorem ap_of_a1 {k : Nat} {x y : X} {d : Option Nat} {K : St → Prop} (he : ew C d st K (.a1 k x y)) : ew C d st K (.ap k 1 x y) := by
  simp only [ew, qeff] at he ⊢
  split at he <;> try contradiction
  rename_i id len s hx
  split at he <;> try contradiction
  rename_i k' es u hw ver hs
  obtain ⟨h1, h2, h3, h4⟩ := he
  have go : ∀ items : Row, UnR k items → len + items.length ≤ bigN → K { setOb st id (.ar k (es ++ items) false (max hw (len + items.length)) ver) with env := ptd d (.hd id [] 0 (len + items.length) none (max hw (len + items.length))) st.env } → apgo d k x st.loc items false st K := fun items g2 g3 g4 => by
    unfold apgo
    refine ⟨g2, ?_⟩
    simp only [hx, hs, Bool.and_false]
    exact ⟨h1, h2, h3, g3, g4⟩
  unfold srcT at h4
  split at h4 <;> try contradiction
  · rename_i zs hy
    simp only [hy]
    rw [if_neg (by decide)]
    exact ⟨trivial, go zs h4.1 h4.2.1 h4.2.2⟩
  · rename_i zs hy
    simp only [hy]
    rw [if_neg (by decide)]
    exact ⟨trivial, go zs h4.1 h4.2.1 h4.2.2⟩
theorem ew_a1 (h : Sim F G st a w) {k : Nat} {x y : X} {d : Option Nat} {K : St → Prop} (hd : d = oper.dst) (hdn : ∀ y, d = some y → y < F.nt) (hc : chkO P (.a1 k x y) oper.op = true) (he : ew C d st K (.a1 k x y)) : LOk P F a w oper K := by
  have hc' : chkO P (.ap k 1 x y) oper.op = true := by simpa only [chkO] using hc
  refine ew_ap (C := C) h hd hdn hc' ?_
  exact ap_of_a1 he
end
end Go.Fd

namespace Go.Fd

theorem addO_sto : ∀ (obs : List Ob) (b : Nat) (st : St), ({ st with loc := addO b obs st.loc } : St).sto = addS st.sto st.lvl b obs
  | [], b, st => rfl
  | o :: r, b, st => by
    have h1 := addO_sto r (b + 1) { st with loc := ptO b o st.loc }
    have h2 := setOb_sto st (st.lvl, b) o
    have h3 : setOb st (st.lvl, b) o = { st with loc := ptO b o st.loc } := by unfold setOb; simp
    rw [h3] at h2
    simp only [addO, addS]
    rw [← h2]
    exact h1

section
variable {P : Program} {F : Fr} {G G' : Gh} {st : St} {a : Act} {w w' : World} {C : Contract} {oper : Oper}

theorem Sim.got (h : Sim F G st a w) {d : Option Nat} {key : Nat} {x : IV} {obs : List Ob} {v : Value} (hg : Got G st.sto w st.lvl key x obs v w') (hd : ∀ y, d = some y → y < F.nt) :
    ∃ G', Sim F G' { st with env := ptd d x st.env, loc := addO key obs st.loc } (a.put d v) w' := by
  obtain ⟨G', h1, h2, h3⟩ := hg
  have hsto : ({ st with env := ptd d x st.env, loc := addO key obs st.loc } : St).sto = addS st.sto st.lvl key obs := by rw [← addO_sto]; rfl
  refine ⟨G', by cases d <;> exact h.dfr, by cases d <;> simp [Act.put, h.sz], fun s => ?_, by rw [hsto]; exact h1, h.lvl, h.outl, by rw [hsto]; exact h.fr.trans h3 (by show F.lvl ≤ st.lvl + 1; rw [h.lvl]; omega)⟩
  rw [hsto, Act.put_get a d v s (by rw [h.sz]; exact hd)]
  have h0 := h3.stab _ _ (h.men_lt (h.env s)) (h.env s)
  cases d with
  | none => simpa [ptd] using h0
  | some d =>
    simp only [ptd, Option.some.injEq]
    rw [lk_pt]
    by_cases hs : s = d
    · rw [if_pos hs, if_pos hs.symm]; exact h2
    · rw [if_neg hs, if_neg (fun e => hs e.symm)]; exact h0
end
end Go.Fd

namespace Go.Fd

section
variable {P : Program} {F : Fr} {G G' : Gh} {st : St} {a : Act} {w w' : World} {oper : Oper} {K : Kind} {b : Nat}

theorem totrs_ta {l : List IV} {vs : List Value} {ts : List Tr} {q : Bool} (h : VRs G st.sto w l vs) (ht : totrs l = some (ts, q)) : ∀ (j : Nat) (t : Tr), ts[j]? = some t → ∃ x, vs[j]? = some x ∧ Rds w (Av G st.sto w) x t := fun j t hj => by
  obtain ⟨h1, h2, _⟩ := totrs_vr h ht
  have hlt : j < vs.length := by rw [← h1]; exact (List.getElem?_eq_some_iff.1 hj).1
  exact ⟨vs[j], List.getElem?_eq_getElem hlt, h2 j t _ hj (List.getElem?_eq_getElem hlt)⟩

theorem ev_bt (h : Sim F G st a w) {C : Contract} {l : Nat} {x : X} (hc : chkO P (.bt x) oper.op = true) (he : ev C (xv st.env) st.sto K (.bt x)) : EvOk P G st a w K l b oper := by
  simp only [chkO] at hc
  split at hc <;> try contradiction
  rename_i t y ho
  have hx := h.x hc
  simp only [ev] at he
  split at he <;> try contradiction
  rename_i c hcc
  split at he <;> try contradiction
  rename_i ts q hts
  obtain ⟨hvs, _⟩ := cellsOf_vr hx hcc
  have htt := totrs_ta hvs hts
  have e := Ext.alloc w (.cells (a.eval y).cells t)
  refine Res.of_run (v := .pointer (some ⟨w.heap.size, 0, none⟩)) (w' := w.alloc (.cells (a.eval y).cells t)) (by simp [execOp, ho, Instr.box, newVar, newRow, newObj, Sem.run]) ⟨_, _, he, G, h.ok.ext e, ?_, Frm.of_ext e⟩
  have hnew := heap_alloc_new w (.cells (a.eval y).cells t)
  refine ⟨w.heap.size, 0, fun j => ((a.eval y).cells[j]?).getD undef, ⟨?_, fun i ob hs ho => ?_⟩, rfl, fun j u hj => ?_⟩
  · exact (Array.getElem?_eq_some_iff.1 hnew).1
  · have := own_lt (h.ok.obs i ob hs) ho; omega
  · obtain ⟨u1, h1, h2⟩ := htt j u hj
    have h1' : (a.eval y).cells[j]? = some u1 := by simpa using h1
    rw [Nat.zero_add, cell_of_row _ _ j (a.eval y).cells t (0, 0) hnew, h1']
    have h3 := h2.mono (A' := Av G st.sto (w.alloc (.cells (a.eval y).cells t))) (w' := w.alloc (.cells (a.eval y).cells t)) (fun blk hb => Av_ext e blk hb) (fun blk hb => e.heap blk hb.1)
    have hf : ((a.eval y).cells[j]?).getD undef = u1 := by rw [h1']; rfl
    refine ⟨by dsimp only; rw [hf], ?_⟩
    dsimp only
    rw [hf]
    exact h3

theorem ev_sa (h : Sim F G st a w) {C : Contract} {l n : Nat} {x : X} (hc : chkO P (.sa n x) oper.op = true) (he : ev C (xv st.env) st.sto K (.sa n x)) : EvOk P G st a w K l b oper := by
  simp only [chkO] at hc
  split at hc <;> try contradiction
  rename_i t y ho
  simp only [Bool.and_eq_true] at hc
  have hx := h.x hc.1
  obtain ⟨_, hc⟩ := hc
  split at hc <;> try contradiction
  rename_i m e hu
  simp only [Bool.and_eq_true, beq_iff_eq] at hc
  obtain ⟨rfl, hsz⟩ := hc
  simp only [ev] at he
  split at he <;> try contradiction
  rename_i cells hq
  rw [hq] at hx
  obtain ⟨b0, o, f, hb, hv, hcell⟩ := hx
  obtain ⟨hle, he⟩ := he
  have hlen : ((cells.take m).map fun c => [c]).length = m := by simp [hle]
  have hget : ∀ (i : Nat) (ee : List Tr) (j : Nat) (t : Tr), ((cells.take m).map fun c => [c])[i]? = some ee → ee[j]? = some t → j = 0 ∧ cells[i]? = some t := fun i ee j t h1 h2 => by
    rw [List.getElem?_map, List.getElem?_take] at h1
    split at h1
    · cases hci : cells[i]? with
      | none => rw [hci] at h1; cases h1
      | some c =>
        rw [hci] at h1
        simp only [Option.map_some, Option.some.injEq] at h1
        subst h1
        cases j with
        | zero => simp at h2; exact ⟨rfl, by rw [h2]⟩
        | succ j => simp at h2
    · cases h1
  have hr := Rds.sl (w := w) (A := Av G st.sto w) b0 o m 1 ((cells.take m).map fun c => [c]) (fun i j => f i) hb (fun ee hee => by obtain ⟨c, _, rfl⟩ := List.mem_map.1 hee; rfl) (by rw [hlen]; exact Nat.le_refl _)
    (fun i ee j t h1 h2 => by
      obtain ⟨rfl, hci⟩ := hget i ee j t h1 h2
      rw [Nat.mul_one, Nat.add_zero]
      exact (hcell i t hci).1)
    (fun i ee j t h1 h2 => (hcell i t (hget i ee j t h1 h2).2).2)
  rw [hlen] at hr
  refine EvOk.pure h (v := .slice (some ⟨b0, o, none⟩) m m) ?_ (x := .cs _) ⟨⟨_, by rw [hlen]⟩, hr⟩ he
  have hb := run_bounds (P := P) (w := w) (isS := false) (lo := none) (hi := none) (mx := none) (len := m) (cap := m) (A := 0) (B := m) (M := m) (.inl ⟨rfl, rfl⟩) (.inl ⟨rfl, rfl, rfl⟩) (.inl ⟨rfl, rfl⟩) (Nat.zero_le _) (Nat.le_refl _) (Nat.le_refl _)
  simp only [execOp, ho, Instr.sliceAt, Sem.run_bind, run_underlying hu, Result.andThen_ok, hv, Instr.sureAddr, hb, run_szT hsz, Sem.run_pure, Option.map_none]
  congr 3
  simp only [Nat.zero_mul, Addr.add]
  simp

theorem byR_spec : ∀ {es : Row} {l : List UInt8}, byR es = some l → ∃ ns : List Int, es = ns.map (fun n => [Tr.v (.int .u8 n)]) ∧ l = ns.map fun n => UInt8.ofNat n.toNat
  | [], l, h => by cases h; exact ⟨[], rfl, rfl⟩
  | e :: r, l, h => by
    unfold byR at h
    split at h
    · rename_i heq; cases heq
    · rename_i n r' heq
      cases heq
      cases hr : byR r with
      | none => rw [hr] at h; cases h
      | some l' =>
        rw [hr] at h
        cases h
        obtain ⟨ns, h1, h2⟩ := byR_spec hr
        exact ⟨n :: ns, by rw [h1]; rfl, by rw [h2]; rfl⟩
    · cases h
theorem run_bytes {A : Nat → Prop} {v : Value} {es : Row} {l : List UInt8} {src dst e : TypeId} (hs : P.underlying src = some (.slice e)) (he : P.underlying e = some (.int .u8)) (hd : P.underlying dst = some .string) (h : Rds w A v (.sl es)) (hl : byR es = some l) :
    (convert src dst v).run P w = .ok (.string ⟨l.toArray⟩) w := by
  obtain ⟨ns, rfl, rfl⟩ := byR_spec hl
  generalize ht : Tr.sl (ns.map fun n => [Tr.v (.int .u8 n)]) = t at h
  cases h with
  | v x h => cases ht
  | nil ad c =>
    have h0 : ns = [] := by simpa using ht
    subst h0
    cases ad with
    | none => exact run_convert_bytes_nil w src e hs he 0 c dst hd
    | some ad =>
      rw [run_convert_bytes_string w src dst e _ 0 c hs he hd, run_bytesToString w ad 0 c [] (by simpa using run_loadCells_list (P := P) w ad [] (fun j v h => by simp at h))]
      rfl
  | sl b0 o c k es f hA hk hlc hcell hr =>
    cases ht
    have hk1 : ns = [] ∨ k = 1 := by
      cases ns with
      | nil => exact .inl rfl
      | cons n r => right; have := hk [Tr.v (.int .u8 n)] (by simp); simpa using this.symm
    have := run_convert_bytes_arg (P := P) w src e hs he b0 o (ns.map fun n => [Tr.v (.int .u8 n)]).length c ns (by simp) (fun i hi => by
      have hi : i < ns.length := by simpa using hi
      rcases hk1 with h0 | rfl
      · subst h0; simp at hi
      · have h1 : (ns.map fun n => [Tr.v (.int .u8 n)])[i]? = some [Tr.v (.int .u8 ns[i])] := by simp [hi]
        have h2 := hcell i _ 0 _ h1 rfl
        have h3 := hr i _ 0 _ h1 rfl
        rw [Nat.mul_one, Nat.add_zero] at h2
        rw [h2]
        generalize f i 0 = fv at h3
        cases h3
        simp [List.getD, hi]) dst hd
    rw [this]
    rfl
theorem ev_sb (h : Sim F G st a w) {C : Contract} {l : Nat} {x : X} (hc : chkO P (.sb x) oper.op = true) (he : ev C (xv st.env) st.sto K (.sb x)) : EvOk P G st a w K l b oper := by
  simp only [chkO] at hc
  split at hc <;> try contradiction
  rename_i s d y ho
  simp only [Bool.and_eq_true] at hc
  obtain ⟨⟨hcx, hd⟩, hs⟩ := hc
  split at hd <;> try contradiction
  rename_i hd'
  split at hs <;> try contradiction
  rename_i e hel
  split at hs <;> try contradiction
  rename_i hu8
  have hx := h.x hcx
  have fin : ∀ {A : Nat → Prop} {es : Row} {bs : List UInt8}, Rds w A (a.eval y) (.sl es) → byR es = some bs → pureK K (iS ⟨bs.toArray⟩) → EvOk P G st a w K l b oper := fun hr hb hK => by
    refine EvOk.pure h (v := .string _) ?_ (VR.mk rfl) hK
    have := run_bytes (P := P) (elemT_eq hel) hu8 hd' hr hb
    simp only [execOp, ho, Sem.run_bind, this, Result.andThen_ok, Sem.run_pure]
  simp only [ev] at he
  split at he <;> try contradiction
  · rename_i es hq
    rw [hq] at hx
    obtain ⟨bs, h1, h2⟩ := he
    exact fin hx h1 h2
  · rename_i es hq
    rw [hq] at hx
    obtain ⟨bs, h1, h2⟩ := he
    exact fin hx.2 h1 h2
  · rename_i id p off len cap s0 hq
    rw [hq] at hx
    unfold rdh at he
    split at he <;> try contradiction
    rename_i k es u hw ver hs0
    obtain ⟨es', hg, hst, hle, bs, h1, h2⟩ := he
    exact fin (hd_reads (A := fun _ => True) h.ok (fun _ _ _ => trivial) hs0 (fun _ _ => trivial) hx hst hg hle).1 h1 h2

theorem bndI_mono {ρ : X → IV} {x : Option X} {n : Nat} {K K' : Nat → Prop} (h : ∀ a, K a → K' a) (hb : bndI ρ x n K) : bndI ρ x n K' := by
  unfold bndI at *
  split at hb <;> try contradiction
  · exact h _ hb
  · split at hb <;> try contradiction
    exact ⟨hb.1, h _ hb.2⟩

theorem ev_all (h : Sim F G st a w) : ∀ (o : O), loud o = false → (∀ mk obs, K mk obs → Fresh st.sto st.lvl b (obs st.lvl b).length) → chkO P o oper.op = true → ev (Sem P) (xv st.env) st.sto K o → EvOk P G st a w K st.lvl b oper
  | .mv x none, _, _, hc, he => ev_mv h hc he
  | .mv x (some k), _, hf, hc, he => ev_mvn h hf hc he
  | .bx x, _, hf, hc, he => ev_bx h rfl hf hc he
  | .al z nz, _, hf, hc, he => ev_al h hf hc he
  | .bd z ps nz, _, hf, hc, he => ev_bd h hf hc he
  | .bs k n z ps, _, hf, hc, he => ev_bs h hf hc he
  | .bw .., hl, _, _, _ => by cases hl
  | .bv k n z ps, _, hf, hc, he => ev_bv h rfl hf hc he
  | .ld none p, _, _, hc, he => ev_ld1 h hc he
  | .ld (some m) p, _, _, hc, he => ev_ldm h hc he
  | .st .., hl, _, _, _ => by cases hl
  | .bi op w x y, _, _, hc, he => ev_bi h hc he
  | .qa neg ks x y, _, _, hc, he => ev_qa h hc he
  | .nt x, _, _, hc, he => ev_nt h hc he
  | .ng x, _, _, hc, he => ev_ng h hc he
  | .cv c x, _, _, hc, he => ev_cv h hc he
  | .mf f cs, _, _, hc, he => ev_mf h hc he
  | .ms k z l, _, hf, hc, he => ev_ms h hf hc he
  | .sx k x lo hi mx, _, _, hc, he => ev_sx h hc he
  | .ss x lo hi, _, _, hc, he => ev_ss h hc he
  | .fa off p, _, _, hc, he => ev_fa h hc he
  | .fd off m x, _, _, hc, he => ev_fd h hc he
  | .ia k x i, _, _, hc, he => ev_ia h hc he
  | .ja k n p i, _, _, hc, he => ev_ja h hc he
  | .ix x i, _, _, hc, he => ev_ix h hc he
  | .jx k n m x i, _, _, hc, he => ev_jx h hc he
  | .ln x, _, _, hc, he => ev_ln h hc he
  | .lg x, _, _, hc, he => ev_lg h hc he
  | .la n, _, _, hc, he => ev_la h hc he
  | .ap .., hl, _, _, _ => by cases hl
  | .nl .., hl, _, _, _ => by cases hl
  | .cp .., hl, _, _, _ => by cases hl
  | .sh .., hl, _, _, _ => by cases hl
  | .cl .., hl, _, _, _ => by cases hl
  | .cy .., hl, _, _, _ => by cases hl
  | .fz .., hl, _, _, _ => by cases hl
  | .rk .., hl, _, _, _ => by cases hl
  | .mz .., hl, _, _, _ => by cases hl
  | .lz .., hl, _, _, _ => by cases hl
  | .a1 .., hl, _, _, _ => by cases hl
  | .xx, hl, _, _, _ => by cases hl
  | .s0 .., hl, _, _, _ => by cases hl
  | .a0 .., hl, _, _, _ => by cases hl
  | .az .., hl, _, _, _ => by cases hl
  | .sy k x lo hi mx, _, _, hc, he => ev_sx (C := Sem P) h (by simpa only [chkO] using hc) (by
      simp only [ev] at he ⊢
      split at he <;> first | exact he.elim | (rename_i hq; simp only [hq]; exact he))
  | .sw k x lo hi mx, _, _, hc, he => ev_sx (C := Sem P) h (by simpa only [chkO] using hc) (by
      simp only [ev] at he ⊢
      generalize xv st.env x = qx at he ⊢
      split at he
      · exact he
      · exact he
      · exact bndI_mono (fun a h => bndI_mono (fun b h => ⟨h.1, h.2.1, bndI_mono (fun m g => ⟨g.1, g.2.1, he.1, g.2.2⟩) h.2.2⟩) h) he.2
      · exact he.elim)
  | .lt none p, _, _, hc, he => ev_ld1 (C := Sem P) h (by simpa only [chkO] using hc) (by
      simp only [ev] at he ⊢
      split at he <;> first | exact he.elim | (rename_i hq; simp only [hq]; exact he))
  | .lt (some m) p, _, _, hc, he => ev_ldm (C := Sem P) h (by simpa only [chkO] using hc) (by
      simp only [ev] at he ⊢
      split at he <;> first | exact he.elim | (rename_i hq; simp only [hq]; exact he))
  | .it k x i, _, _, hc, he => ev_ia (C := Sem P) h (by simpa only [chkO] using hc) (by
      simp only [ev] at he ⊢
      generalize xv st.env i = qi at he ⊢
      generalize xv st.env x = qx at he ⊢
      split at he <;> first | exact he.elim | skip
      refine ⟨he.1, ?_⟩
      have he2 := he.2
      split at he2 <;> first | exact he2.elim | exact he2)
  | .mm mx x y, _, _, hc, he => ev_mm h hc he
  | .ex i x, _, _, hc, he => ev_ex h hc he
  | .pk c x y, _, _, hc, he => ev_pk h hc he
  | .ca .pure imp f xs, _, hf, hc, he => ev_ca h rfl hf hc he
  | .ca .see imp f xs, _, hf, hc, he => ev_see h rfl hf hc he
  | .ca .same .., hl, _, _, _ => by cases hl
  | .ca .keep .., hl, _, _, _ => by cases hl
  | .ca .any .., hl, _, _, _ => by cases hl
  | .nc x, _, _, hc, he => ev_nc h hc he
  | .bt x, _, _, hc, he => ev_bt h hc he
  | .sa n x, _, _, hc, he => ev_sa h hc he
  | .sb x, _, _, hc, he => ev_sb h hc he

theorem freshK_spec {st : St} : ∀ {n b : Nat}, freshK b st.loc n → Fresh st.sto st.lvl b n
  | 0, _, _, j, hj => by omega
  | n + 1, b, h, j, hj => by
    cases j with
    | zero => rw [Nat.add_zero, sto_in rfl]; exact h.1
    | succ j =>
      have := freshK_spec h.2 j (by omega)
      rwa [show b + 1 + j = b + (j + 1) from by omega] at this

theorem arg1_vr {S : Sto} {x : IV} {v : Value} (h : VR G S w x v) : VR G S w (arg1 x) v := by
  unfold arg1
  split
  · exact h.2
  · exact h
theorem arg1s_vr {S : Sto} : ∀ {l : List IV} {vs : List Value}, VRs G S w l vs → VRs G S w (l.map arg1) vs
  | [], _, h => h
  | x :: r, _, h => by
    obtain ⟨v, vr, rfl, h1, h2⟩ := h
    exact ⟨v, vr, rfl, arg1_vr h1, arg1s_vr h2⟩

theorem ew_same (h : Sim F G st a w) {imp : Bool} {f : X} {xs : List X} {d : Option Nat} {Kw : St → Prop} (hd : d = oper.dst) (hdn : ∀ y, d = some y → y < F.nt) (hc : chkO P (.ca .same imp f xs) oper.op = true)
    (he : ew (Sem P) d st Kw (.ca .same imp f xs)) : LOk P F a w oper Kw := by
  subst hd
  simp only [chkO] at hc
  split at hc <;> try contradiction
  rename_i g args at1 ho
  simp only [Bool.and_eq_true] at hc
  have hg := h.x hc.1
  have hargs := h.xs hc.2
  simp only [ew] at he
  split at he <;> try contradiction
  rename_i fid caps hq
  obtain ⟨r, ⟨hr, ⟨fn, hf, hb, hn⟩, hcall⟩, hfr, hk⟩ := he
  rw [hq] at hg
  simp only [VR] at hg
  obtain ⟨cvs, hg, hcv⟩ := hg
  have hcl := h.clean
  have hrun := run_call (P := P) (w := w) (caps := cvs) ho hg hf hb hn
  have hc := hcall hcl G w (args.toList.map a.eval ++ cvs) h.ok (VRs_append (arg1s_vr hargs) hcv)
  refine Res.of_enter hrun ?_
  have harr : (args.map a.eval ++ cvs.toArray) = (args.toList.map a.eval ++ cvs).toArray := by cases args; simp
  rw [harr]
  refine hc.mono ?_
  rintro e w' ⟨v, G1, rfl, h1, h2, _, h3⟩
  have hgot := got_any (l := st.lvl) (b := keyOf oper.dst) (imp := imp) hr hcl h1 h2 h3 (freshK_spec hfr)
  obtain ⟨G', hG'⟩ := h.got hgot hdn
  exact ⟨v, rfl, _, G', hk, hG'⟩
theorem ew_keep (h : Sim F G st a w) {imp : Bool} {f : X} {xs : List X} {d : Option Nat} {Kw : St → Prop} (hd : d = oper.dst) (hdn : ∀ y, d = some y → y < F.nt) (hc : chkO P (.ca .keep imp f xs) oper.op = true)
    (he : ew (Sem P) d st Kw (.ca .keep imp f xs)) : LOk P F a w oper Kw := by
  subst hd
  simp only [chkO] at hc
  split at hc <;> try contradiction
  rename_i g args at1 ho
  simp only [Bool.and_eq_true] at hc
  have hg := h.x hc.1
  have hargs := h.xs hc.2
  simp only [ew] at he
  split at he <;> try contradiction
  rename_i fid caps hq
  obtain ⟨r, ⟨hr, ⟨fn, hf, hb, hn⟩, hcall⟩, hfr, hk⟩ := he
  rw [hq] at hg
  simp only [VR] at hg
  obtain ⟨cvs, hg, hcv⟩ := hg
  have hcl := h.clean
  have hrun := run_call (P := P) (w := w) (caps := cvs) ho hg hf hb hn
  have hc := hcall hcl G w (args.toList.map a.eval ++ cvs) h.ok (VRs_append hargs hcv)
  refine Res.of_enter hrun ?_
  have harr : (args.map a.eval ++ cvs.toArray) = (args.toList.map a.eval ++ cvs).toArray := by cases args; simp
  rw [harr]
  refine hc.mono ?_
  rintro e w' ⟨v, G1, rfl, h1, h2, _, h3⟩
  have hgot := got_any (l := st.lvl) (b := keyOf oper.dst) (imp := imp) hr hcl h1 h2 h3 (freshK_spec hfr)
  obtain ⟨G', hG'⟩ := h.got hgot hdn
  exact ⟨v, rfl, _, G', hk, hG'⟩
end
end Go.Fd

namespace Go.Fd

section
variable {P : Program} {F : Fr} {G G' : Gh} {st : St} {a : Act} {w w' : World} {oper : Oper} {K : Kind} {b : Nat}

theorem ew_nl (h : Sim F G st a w) {neg : Bool} {x : X} {d : Option Nat} {Kw : St → Prop} {C : Contract} (hd : d = oper.dst) (hdn : ∀ y, d = some y → y < F.nt) (hc : chkO P (.nl neg x) oper.op = true)
    (he : ew C d st Kw (.nl neg x)) : LOk P F a w oper Kw := by
  subst hd
  simp only [chkO] at hc
  split at hc <;> try contradiction
  rename_i op t x' y' g ho
  simp only [Bool.and_eq_true, decide_eq_true_eq] at hc
  obtain ⟨⟨⟨hop, hx⟩, ht⟩, hy⟩ := hc
  split at ht <;> try contradiction
  rename_i e ht'
  split at hy <;> try contradiction
  rename_i n c
  have hx := h.x hx
  have fin : ∀ r : Bool, (execOp a.eval oper).run P w = .ok (.value (.bool r)) w → Kw { st with env := ptd oper.dst (iB r) st.env } → LOk P F a w oper Kw := fun r hr hk => by
    obtain ⟨G', hs⟩ := h.got (key := 0) (Got.pure (l := st.lvl) h.ok (show VR G st.sto w (iB r) (.bool r) from .v _ rfl)) hdn
    exact Res.of_run hr ⟨_, G', hk, hs⟩
  have run : ∀ (ad : Option Addr) (m k : Nat), a.eval x' = .slice ad m k → (execOp a.eval oper).run P w = .ok (.value (.bool (if neg then !ad.isNone else ad.isNone))) w := fun ad m k hv => by
    have hg : (eqGuard op t x' (.const (.slice none n c)) (.slice ad m k) (.slice none n c)).run P w = .ok () w := by
      unfold eqGuard
      split <;> rfl
    have hce : a.eval (.const (.slice none n c)) = .slice none n c := rfl
    subst hop
    cases neg <;> simp only [Bool.false_eq_true, if_false, if_true] at hg ho ⊢
    · have := Lib.run_equalIn_slice_nil (P := P) w 9999 t e ad m k n c ht'
      simp only [execOp, ho, hv, hce]
      simp [hg, binOp, Op.equal, Op.maxDepth, this]
    · have := Lib.run_equalIn_slice_nil (P := P) w 9999 t e ad m k n c ht'
      simp only [execOp, ho, hv, hce]
      simp [hg, binOp, Op.equal, Op.maxDepth, this]
  have key : ∀ {A : Nat → Prop} {es : Row}, Rds w A (a.eval x') (.sl es) → Kw { st with env := ptd oper.dst (iB neg) st.env } → (es = [] → Kw { st with env := ptd oper.dst (iB !neg) st.env }) → LOk P F a w oper Kw := fun {A es} hr h1 h2 => by
    generalize hv : a.eval x' = v at hr
    generalize htt : Tr.sl es = tt at hr
    cases hr with
    | v _ hh => cases htt
    | nil ad k =>
      cases htt
      have hr := run ad 0 k hv
      cases ad with
      | none => exact fin _ (by cases neg <;> exact hr) (h2 rfl)
      | some _ => exact fin _ (by cases neg <;> exact hr) h1
    | sl b0 o k1 k es f hA hk hlc hcell hrr =>
      have hr := run _ _ _ hv
      exact fin _ (by cases neg <;> exact hr) h1
  simp only [ew] at he
  split at he <;> try contradiction
  · rename_i es hq
    rw [hq] at hx
    exact key hx he.1 he.2
  · rename_i es hq
    rw [hq] at hx
    exact key hx.2 he.1 he.2

theorem getp_take {es es2 : Row} {m : Nat} {p : Pth} (hp : p ≠ []) (h : getp (es.take m) p = some es2) : getp es p = some es2 := by
  cases p with
  | nil => exact absurd rfl hp
  | cons cd q =>
    obtain ⟨c, d⟩ := cd
    obtain ⟨e, x, g1, g2, g3⟩ := getp_cons h
    rw [List.getElem?_take] at g1
    split at g1
    · exact getp_mk g1 g2 g3
    · cases g1

theorem step_row (h : Sim F G st a w) {id : Oid} {k : Nat} {es es' : Row} {u : Bool} {hw ver : Nat} (hs : st.sto id = some (.ar k es u hw ver)) (hle : es'.length ≤ hw) (hun : UnR k es')
    (hsub : ∀ p es2, p ≠ [] → getp es' p = some es2 → getp es p = some es2) (size : w.heap.size ≤ w'.heap.size) (heap : ∀ blk, (∀ c, G id [] ≠ some (blk, c)) → w'.heap[blk]? = w.heap[blk]?)
    (hos : w'.os = w.os) (htape : w'.tape = w.tape) (hout : w'.output = w.output)
    (hrow : ∀ A : Nat → Prop, (∀ blk, Av G st.sto w blk → A blk) → (∀ blk, Av G st.sto w blk → w'.heap[blk]? = w.heap[blk]?) → rowR G w' A id [] k u es') :
    Stp F a G st (setOb st id (.ar k es' u hw (ver + 1))) w w' G := by
  have hsome : ∀ q, (getp es' q).isSome = true → (getp es q).isSome = true := fun q hq => by
    cases q with
    | nil => rfl
    | cons c r =>
      obtain ⟨es2, h2⟩ := Option.isSome_iff_exists.1 hq
      rw [hsub _ es2 (by simp) h2]; rfl
  obtain ⟨o1, o2, o3, o4, o5⟩ := h.ok.obs _ _ hs
  have ht := h.turn (Kl.refl st) (id := id) (ob' := .ar k es' u hw (ver + 1)) (d := none) (x := .un) (v := undef) (G' := G) (w' := w') (fun h => h) (.inr (by rw [hs]; rfl)) (fun _ _ => rfl) size
    (fun blk hb hn => heap blk fun c hg => hn _ hs ⟨[], c, .inl rfl, rfl, hg⟩)
    (fun blk ho => by
      obtain ⟨q, cq, hq, hqs, hgq⟩ := ho
      exact .inl ⟨id, _, .inl rfl, hs, q, cq, hq, hsome q hqs, hgq⟩)
    (fun ob ho => by
      rw [hs] at ho; cases ho
      refine ⟨rfl, Nat.le_refl _, Nat.le_succ _, fun q s2 hbd hq => ?_⟩
      cases q with
      | nil => exact ⟨hq, fun es1 he => ⟨rfl, es', rfl, fun k' hkk _ => by rw [hkk rfl]; exact hun⟩⟩
      | cons c r =>
        have h1 : s2 ≤ ver := hbd
        have h2 : u = true ∧ s2 = ver + 1 := hq
        omega)
    hos htape hout (fun t => ⟨hle, hun, o3, fun p es2 hp he => by
      cases p with
      | nil =>
        simp only [getp, Option.some.injEq] at he
        subst he
        exact hrow _ t.av t.same
      | cons c r =>
        have hg0 := hsub _ es2 (by simp) he
        exact rowR_keep rfl t.av t.same (fun b1 c1 hg => heap b1 fun c2 hg2 => by
          have := o5 _ [] b1 c1 c2 hp (.inl rfl) (by rw [hg0]; rfl) rfl hg hg2
          cases this) (o4 _ es2 hp hg0), fun p p' b1 c1 c2 hp hp' g1 g2 => o5 p p' b1 c1 c2 hp hp' (hsome p g1) (hsome p' g2)⟩) (fun _ he => by cases he) (fun _ he => by cases he) (fun _ => trivial)
  rw [setOb_same] at ht
  exact Stp.of ht.1 (by rw [setOb_sto]; exact ht.2) fun j hj => ⟨fun h => h, by rw [show j = id from hj, hs]; rfl⟩

theorem step_cut (h : Sim F G st a w) {id : Oid} {k : Nat} {es : Row} {u : Bool} {hw ver : Nat} (hs : st.sto id = some (.ar k es u hw ver)) (m : Nat) :
    Stp F a G st (setOb st id (.ar k (es.take m) u hw (ver + 1))) w w G := by
  obtain ⟨o1, o2, o3, o4, o5⟩ := h.ok.obs _ _ hs
  refine step_row h hs (by rw [List.length_take]; omega) (fun e he => o2 e (List.mem_of_mem_take he)) (fun p es2 hp he => getp_take hp he) (Nat.le_refl _) (fun _ _ => rfl) rfl rfl rfl fun A hA hh => ?_
  have hr := o4 [] es (.inl rfl) rfl
  unfold rowR at *
  cases hg : G id [] with
  | none =>
    rw [hg] at hr
    simp only at hr ⊢
    rw [hr]; exact List.take_nil
  | some bc =>
    obtain ⟨b1, c1⟩ := bc
    rw [hg] at hr
    simp only at hr ⊢
    obtain ⟨k', vs, ty, h1, h2, h3, h4, h5, h6⟩ := hr
    refine ⟨k', vs, ty, h1, fun e he => h2 e (List.mem_of_mem_take he), h3, h4, by rw [List.length_take]; omega, fun i e f t hi hf => ?_⟩
    rw [List.getElem?_take] at hi
    split at hi
    · obtain ⟨x, hx, hc⟩ := h6 i e f t hi hf
      exact ⟨x, hx, cellR_keep rfl hA hh hc⟩
    · cases hi

theorem step_cells (h : Sim F G st a w) {id : Oid} {k : Nat} {es es' : Row} {u : Bool} {hw ver : Nat} (hs : st.sto id = some (.ar k es u hw ver)) {b1 c1 : Nat} {vs vs' : Array Value} {ty : TypeId} (hG : G id [] = some (b1, c1)) (hh : w.heap[b1]? = some (.cells vs ty (0, 0)))
    (hsz : vs'.size = vs.size) (hle : es'.length ≤ hw) (hun : UnR k es') (hsub : ∀ p es2, p ≠ [] → getp es' p = some es2 → getp es p = some es2)
    (hrow : ∀ (i : Nat) (e : List Tr) (f : Nat) (t : Tr), es'[i]? = some e → e[f]? = some t → (∃ y, t = .v y ∧ scal y = true ∧ vs'[i * k + f]? = some y) ∨ (vs'[i * k + f]? = vs[i * k + f]? ∧ ∃ e0, es[i]? = some e0 ∧ e0[f]? = some t)) :
    Stp F a G st (setOb st id (.ar k es' u hw (ver + 1))) w (w.setRow b1 vs') G := by
  obtain ⟨o1, o2, o3, o4, o5⟩ := h.ok.obs _ _ hs
  refine step_row h hs hle hun hsub (by simp) (fun blk hb => setRow_other w b1 blk _ (fun e => hb c1 (by rw [e]; exact hG))) rfl rfl rfl fun A hA hhA => ?_
  have hr := o4 [] es (.inl rfl) rfl
  unfold rowR at *
  rw [hG] at hr ⊢
  rw [hG] at o3
  simp only [capOf] at o3
  obtain ⟨k', vs0, ty0, h1, h2, h3, h4, h5, h6⟩ := hr
  rw [hh] at h3; cases h3
  have hkk := h1 rfl
  subst hkk
  refine ⟨k', vs', ty, fun _ => rfl, hun, setRow_heap w b1 vs _ ty (0, 0) hh, by rw [hsz]; exact h4, by omega, fun i e f t hi hf => ?_⟩
  rcases hrow i e f t hi hf with ⟨y, rfl, hy, hv⟩ | ⟨hv, e0, he0, hf0⟩
  · exact ⟨y, hv, rfl, hy⟩
  · obtain ⟨x, hx, hc⟩ := h6 i e0 f t he0 hf0
    exact ⟨x, by rw [hv]; exact hx, cellR_keep rfl hA hhA hc⟩

theorem Stp.put {st' : St} (t : Stp F a G st st' w w' G') {d : Option Nat} {x : IV} {v : Value} (hd : ∀ y, d = some y → y < F.nt) (hx : VR G' st'.sto w' x v) (he : st'.env = st.env) : Sim F G' { st' with env := ptd d x st.env } (a.put d v) w' := by
  have := t.sim.put (d := d) hx hd
  rw [he] at this
  exact this

theorem ew_cp (h : Sim F G st a w) {x : X} {d : Option Nat} {Kw : St → Prop} {C : Contract} (hd : d = oper.dst) (hdn : ∀ y, d = some y → y < F.nt) (hc : chkO P (.cp x) oper.op = true)
    (he : ew C d st Kw (.cp x)) : LOk P F a w oper Kw := by
  subst hd
  simp only [chkO] at hc
  split at hc <;> try contradiction
  rename_i args at1 ho
  split at hc <;> try contradiction
  rename_i y t hy ht
  obtain ⟨args⟩ := args
  simp only at hy
  subst hy
  simp only [Bool.and_eq_true, Option.isSome_iff_exists] at hc
  obtain ⟨hx, e, hel⟩ := hc
  have hu := elemT_eq hel
  have hx := h.x hx
  simp only [ew] at he
  split at he <;> try contradiction
  rename_i es hq
  rw [hq] at hx
  obtain ⟨⟨v, hv⟩, _⟩ := hx
  have hr : (execOp a.eval oper).run P w = .ok (.value (.int .i64 es.length)) w := by
    simp [execOp, ho, resolve, invoke, builtin, Builtin.cap_, ht, run_underlying hu, hv, goInt]
  obtain ⟨G', hs⟩ := h.got (key := 0) (Got.pure (l := st.lvl) h.ok (show VR G st.sto w (iI es.length) (.int .i64 es.length) from .v _ rfl)) hdn
  exact Res.of_run hr ⟨_, G', he, hs⟩

theorem ew_sh (h : Sim F G st a w) {k : Nat} {x hi : X} {d : Option Nat} {Kw : St → Prop} {C : Contract} (hd : d = oper.dst) (hdn : ∀ y, d = some y → y < F.nt) (hc : chkO P (.sh k x hi) oper.op = true)
    (he : ew C d st Kw (.sh k x hi)) : LOk P F a w oper Kw := by
  subst hd
  simp only [chkO] at hc
  split at hc <;> try contradiction
  rename_i t y h0 ho
  simp only [Bool.and_eq_true] at hc
  obtain ⟨⟨hx, c2⟩, hc⟩ := hc
  split at hc <;> try contradiction
  rename_i e0 hel
  have hu := elemT_eq hel
  have hsz : szT P e0 = some k := by simpa using hc
  have hx := h.x hx
  have hh := h.x c2
  simp only [ew] at he
  split at he <;> try contradiction
  · rename_i es hq
    split at he <;> try contradiction
    rename_i kk m hm
    obtain ⟨rfl, hun, hK⟩ := he
    rw [hq] at hx
    rw [hm] at hh
    obtain ⟨hh, _⟩ := hh.val
    obtain ⟨⟨ad, hv⟩, hx⟩ := hx
    rw [hv] at hx
    have hb := run_bounds (P := P) (w := w) (isS := true) (lo := none) (hi := some (a.eval h0)) (mx := none) (len := es.length) (cap := es.length) (A := 0) (B := es.length) (M := es.length) (.inl ⟨rfl, rfl⟩) (.inr ⟨kk, by rw [hh]⟩) (.inl ⟨rfl, rfl⟩) (Nat.zero_le _) (Nat.le_refl _) (Nat.le_refl _)
    have hr : (execOp a.eval oper).run P w = .ok (.value (.slice (if es.length = 0 then ad else ad.map (·.add (0 * k))) (es.length - 0) (es.length - 0))) w := by
      simp only [execOp, ho, Instr.sliceAt, Sem.run_bind, run_underlying hu, Result.andThen_ok, Instr.slice, hv, Option.map_none, Option.map_some, hb, run_szT hsz, Sem.run_pure]
    have hcut := Rds.cut (k := k) hx (Nat.zero_le _) (Nat.le_refl _) (Nat.le_refl es.length) (.inl rfl)
    have he0 : cut es 0 (es.length - 0) = es := by simp [cut]
    rw [he0] at hcut
    obtain ⟨G', hs⟩ := h.got (key := 0) (Got.pure (l := st.lvl) h.ok (show VR G st.sto w (.cs es) (.slice (if es.length = 0 then ad else ad.map (·.add (0 * k))) (es.length - 0) (es.length - 0)) from ⟨⟨_, rfl⟩, hcut⟩)) hdn
    exact Res.of_run hr ⟨_, G', hK, hs⟩
  rename_i id p off len cap s hq
  split at he <;> try contradiction
  rename_i kk m hm
  split at he <;> try contradiction
  rename_i k2 es u hw ver hs
  obtain ⟨rfl, rfl, rfl, rfl, rfl, hm0, hml, hle, hK⟩ := he
  rw [hq] at hx
  rw [hm] at hh
  obtain ⟨hh, _⟩ := hh.val
  obtain ⟨_, k3, es3, u3, hw3, ver3, hs3, _, hrel⟩ := hx
  rw [hs] at hs3; cases hs3
  obtain ⟨es4, k', ad, c, hg4, hkk, hun, hv, hlc, _, hcap, hor⟩ := hrel rfl
  simp only [getp, Option.some.injEq] at hg4
  subst hg4
  have hkk := hkk rfl
  subst hkk
  obtain ⟨B, rfl⟩ := Int.eq_ofNat_of_zero_le hm0
  rw [Int.toNat_natCast] at hml hK
  have hb := run_bounds (P := P) (w := w) (isS := true) (lo := none) (hi := some (a.eval h0)) (mx := none) (len := len) (cap := c) (A := 0) (B := B) (M := c) (.inl ⟨rfl, rfl⟩) (.inr ⟨kk, by rw [hh]⟩) (.inl ⟨rfl, rfl⟩) (Nat.zero_le _) (by omega) (Nat.le_refl _)
  have hr : (execOp a.eval oper).run P w = .ok (.value (.slice (if c = 0 then ad else ad.map (·.add (0 * k'))) (B - 0) (c - 0))) w := by
    simp only [execOp, ho, Instr.sliceAt, Sem.run_bind, run_underlying hu, Result.andThen_ok, Instr.slice, hv, Option.map_none, Option.map_some, hb, run_szT hsz, Sem.run_pure]
  have hst := step_cut h hs B
  refine Res.of_run hr ⟨_, G, hK, hst.put hdn ?_ (setOb_env _ _ _)⟩
  rw [setOb_sto]
  refine ⟨⟨_, _, rfl, by omega⟩, k', es.take B, u, s, ver + 1, by unfold sset; rw [if_pos rfl], Nat.le_refl _, fun _ => ⟨es.take B, k', _, _, rfl, fun _ => rfl, fun e he => hun e (List.mem_of_mem_take he), rfl, by omega, fun m hm => by simp at hm, fun h1 h2 => by have := hcap h1 h2; omega, ?_⟩⟩
  rcases hor with h0 | ⟨h0, _⟩ | ⟨b1, c0, hG, rfl, hcc⟩
  · exact .inl (by omega)
  · exact absurd rfl h0
  · by_cases hc0 : c = 0
    · exact .inl (by omega)
    · exact .inr (.inr ⟨b1, c0, hG, by simp [hc0, add_mk], by omega⟩)

theorem zeroCells_one {z : Value} {zl : List Value} (h1 : z.cells.toList = zl) (h2 : ∀ x ∈ zl, scal x = true ∨ x = .slice none 0 0) (n : Nat) : ∀ v ∈ (Builtin.zeroCells z.cells n).toList, v.oneCell' = true := fun v hv => by
  simp only [Builtin.zeroCells, Array.toList_map, List.mem_map] at hv
  obtain ⟨i, hi, rfl⟩ := hv
  have hi2 : i < n * z.cells.size := by simpa using hi
  have hz : 0 < z.cells.size := by
    rcases Nat.eq_zero_or_pos z.cells.size with h | h
    · rw [h] at hi2; simp at hi2
    · exact h
  have hlt := Nat.mod_lt i hz
  have : z.cells[i % z.cells.size]! = z.cells[i % z.cells.size] := by simp [hlt]
  rw [this]
  have hm : z.cells[i % z.cells.size] ∈ zl := by rw [← h1]; simp
  rcases h2 _ hm with h | h
  · generalize z.cells[i % z.cells.size] = y at h
    cases y <;> first | rfl | simp [scal] at h
  · rw [h]; rfl

theorem ew_fz (h : Sim F G st a w) {x : X} {d : Option Nat} {Kw : St → Prop} {C : Contract} (hd : d = oper.dst) (hdn : ∀ y, d = some y → y < F.nt) (hc : chkO P (.fz x) oper.op = true)
    (he : ew C d st Kw (.fz x)) : LOk P F a w oper Kw := by
  subst hd
  simp only [chkO] at hc
  split at hc <;> try contradiction
  all_goals
    rename_i y ho
    have hx := h.x hc
    simp only [ew] at he
    split at he <;> try contradiction
    rename_i id len s hq
    obtain ⟨hl, he⟩ := he
    split at he <;> try contradiction
    rename_i k2 zs u hw ver hs
    obtain ⟨rfl, rfl, hK⟩ := he
    rw [hq] at hx
    obtain ⟨h3, h4⟩ := kill_tree h hs hl hx
    have hr : (execOp a.eval oper).run P w = .ok (.value (a.eval y)) w := by simp [execOp, ho]
    exact Res.of_run hr ⟨_, G, hK, h3.sim.put (show VR G (kill id st).sto w (.tr (.sl zs)) (a.eval y) from h4) hdn⟩

theorem drop0_ok (h : Sim F G st a w) {id0 : Oid} (hl : id0.1 = st.lvl) : Stp F a G st (drop0 id0 st) w w G ∧ (drop0 id0 st).sto id0 = none ∧ (drop0 id0 st).lvl = st.lvl ∧
    ∀ i, i ≠ id0 → ∀ (k : Nat) (es : Row) (u : Bool) (hw ver : Nat), st.sto i = some (.ar k es u hw ver) → (drop0 id0 st).sto i = some (.ar k es u hw ver) := by
  unfold drop0
  split
  · rename_i hs
    exact ⟨Stp.refl h, hs, rfl, fun _ _ _ _ _ _ _ h => h⟩
  · rename_i ob hs
    have kl := (Kl.refl st).step (fun j cells hj => h.ok.low j cells hj) h.outl hl (by rw [hs]; rfl)
    obtain ⟨h1, h2⟩ := h.kl kl
    refine ⟨Stp.of h1 h2 (fun _ hf => hf.elim), by rw [kill_in hl hl, if_pos rfl], rfl, fun i hi k es u hw ver hsi => ?_⟩
    by_cases hil : i.1 = st.lvl
    · rw [kill_in hil hl, if_neg hi, hsi]; rfl
    · rw [kill_out hil, hsi]
theorem Sim.ren (h : Sim F G st a w) {id id0 : Oid} {k : Nat} {zs : Row} {u : Bool} {hw ver : Nat} (hl : id.1 = st.lvl) (hl0 : id0.1 = st.lvl) (hne : id0 ≠ id) (hs : st.sto id = some (.ar k zs u hw ver)) (h0 : st.sto id0 = none)
    {d : Option Nat} {v : Value} (hd : ∀ y, d = some y → y < F.nt) (hv : hdR G st.sto id [] 0 zs.length none hw v) :
    ∃ G', Sim F G' { setOb (kill id st) id0 (.ar k zs u hw ver) with env := ptd d (.hd id0 [] 0 zs.length none hw) (kill id st).env } (a.put d v) w := by
  have k1 := (Kl.refl st).step (fun j cells hj => h.ok.low j cells hj) h.outl hl (by rw [hs]; rfl)
  obtain ⟨G', hG⟩ : ∃ G' : Gh, G' = fun i => if i = id0 then G id else G i := ⟨_, rfl⟩
  have g0 : G' id0 = G id := by rw [hG]; exact if_pos rfl
  have g1 : ∀ i, i ≠ id0 → G' i = G i := fun i hi => by rw [hG]; exact if_neg hi
  have hob := h.ok.obs _ _ hs
  refine ⟨G', (h.turn k1 (id := id0) (ob' := .ar k zs u hw ver) (G' := G') (w' := w) (d := d) (x := .hd id0 [] 0 zs.length none hw) (v := v) (fun hf => hf.elim (fun q => q) hne) (.inl hl0) g1 (Nat.le_refl _) (fun _ _ _ => rfl)
    (fun b hb => .inl ⟨id, _, .inr (.inr rfl), hs, ?_⟩) (fun ob hob => by rw [h0] at hob; cases hob) rfl rfl rfl (fun t => ?_) (fun _ hc => by cases hc) hd (fun t => ?_)).1⟩
  · obtain ⟨p, c, q1, q2, q3⟩ := hb
    exact ⟨p, c, q1, q2, by rw [g0] at q3; exact q3⟩
  · obtain ⟨o1, o2, o3, o4, o5⟩ := hob
    refine ⟨o1, o2, by rw [g0]; exact o3, fun p es' hp hg => rowR_ren g0 (fun b hb => t.av b hb) (o4 p es' hp hg), fun p p' b c c' => ?_⟩
    rw [g0]
    exact o5 p p' b c c'
  · obtain ⟨⟨a0, c0, hv0, hle⟩, k3, es3, u3, hw3, ver3, hs3, hb, hrel⟩ := hv
    rw [hs] at hs3; cases hs3
    refine ⟨⟨a0, c0, hv0, hle⟩, k, zs, u, hw, ver, by unfold sset; rw [if_pos rfl], hb, fun hst => ?_⟩
    obtain ⟨es', k', a', c', q1, q2, q3, q4, q5, q6, q7, q8⟩ := hrel hst
    exact ⟨es', k', a', c', q1, q2, q3, q4, q5, q6, by rw [g0]; exact q7, by rw [g0]; exact q8⟩
theorem ew_rk (h : Sim F G st a w) {x : X} {d : Option Nat} {Kw : St → Prop} {C : Contract} (hd : d = oper.dst) (hdn : ∀ y, d = some y → y < F.nt) (hc : chkO P (.rk x) oper.op = true)
    (he : ew C d st Kw (.rk x)) : LOk P F a w oper Kw := by
  subst hd
  simp only [chkO] at hc
  split at hc <;> try contradiction
  all_goals
    rename_i y ho
    have hx := h.x hc
    simp only [ew] at he
    split at he <;> try contradiction
    rename_i id len s hq
    obtain ⟨hl, hne, he⟩ := he
    split at he <;> try contradiction
    rename_i k2 zs u hw ver hs
    obtain ⟨rfl, rfl, hK⟩ := he
    rw [hq] at hx
    obtain ⟨s1, s2, s3, s4⟩ := drop0_ok h (id0 := (st.lvl, keyOf oper.dst)) rfl
    have hs' := s4 id (Ne.symm hne) _ _ _ _ _ hs
    have hx' := s1.vr (.hd id [] 0 zs.length none s) (a.eval y) (show ((drop0 (st.lvl, keyOf oper.dst) st).sto id).isSome = true by rw [hs']; rfl) hx
    have hr : (execOp a.eval oper).run P w = .ok (.value (a.eval y)) w := by simp [execOp, ho]
    obtain ⟨G', hG'⟩ := s1.sim.ren (id0 := (st.lvl, keyOf oper.dst)) (hl.trans s3.symm) s3.symm hne hs' s2 hdn hx'
    exact Res.of_run hr ⟨_, G', hK, hG'⟩

theorem kill_box (h : Sim F G st a w) {id : Oid} {cells : List IV} {ts : List Tr} {q : Bool} {v : Value} (hs : st.sto id = some (.bx cells)) (hl : id.1 = st.lvl) (ht : totrs cells = some (ts, q)) (hv : abR G st.sto id 0 v) :
    Stp F a G st (kill id st) w w G ∧ taR w (Av G (kill id st).sto w) ts v := by
  have kl := (Kl.refl st).step (fun j cells hj => h.ok.low j cells hj) h.outl hl (by rw [hs]; rfl)
  obtain ⟨h1, h2⟩ := h.kl kl
  refine ⟨Stp.of h1 h2 (fun _ hf => hf.elim), ?_⟩
  obtain ⟨cells', b, c, hs', hG, rfl⟩ := hv
  obtain ⟨b', c', vs, ty, hG', hh, hvs⟩ := h.ok.obs _ _ hs
  rw [hG] at hG'; cases hG'
  have htt := totrs_ta hvs ht
  refine ⟨b, 0, fun j => (vs[j]?).getD undef, kl.av_dead h.ok (.inr rfl) hs ⟨c, hG⟩, rfl, fun j t hj => ?_⟩
  obtain ⟨x, hx, hr⟩ := htt j t hj
  have hx' : vs[j]? = some x := by simpa using hx
  have hf : (vs[j]?).getD undef = x := by rw [hx']; rfl
  rw [Nat.zero_add, cell_of_row _ _ j vs ty (0, 0) hh, hx']
  refine ⟨by dsimp only; rw [hf], ?_⟩
  dsimp only
  rw [hf]
  exact hr.mono (fun b hb => kl.av b hb) (fun _ _ => rfl)
theorem frzs_ok : ∀ (cs : List X) (ys : List Operand) (st : St), Sim F G st a w → chkXs cs ys = true → ∀ {K : List IV → St → Prop}, frzs cs st K → ∃ l st', Stp F a G st st' w w G ∧ VRs G st'.sto w l (ys.map a.eval) ∧ K l st'
  | [], ys, st, h, hc, K, he => by
    cases ys with
    | nil => exact ⟨[], st, Stp.refl h, rfl, he⟩
    | cons y r => simp [chkXs] at hc
  | x :: r, ys, st, h, hc, K, he => by
    cases ys with
    | nil => simp [chkXs] at hc
    | cons y yr =>
      simp only [chkXs, Bool.and_eq_true] at hc
      have hx := h.x hc.1
      simp only [frzs] at he
      have go : ∀ (t : List Tr) (st1 : St), Stp F a G st st1 w w G → taR w (Av G st1.sto w) t (a.eval y) → frzs r st1 (fun ts st2 => K (.ta t :: ts) st2) → ∃ l st', Stp F a G st st' w w G ∧ VRs G st'.sto w l ((y :: yr).map a.eval) ∧ K l st' := fun t st1 s1 ht he1 => by
        obtain ⟨l, st', s2, hvs, hK⟩ := frzs_ok r yr st1 s1.sim hc.2 he1
        exact ⟨.ta t :: l, st', s1.trans s2, ⟨_, _, rfl, s2.vr (.ta t) _ trivial ht, hvs⟩, hK⟩
      unfold frz1 at he
      split at he <;> try contradiction
      · rename_i ts hq
        rw [hq] at hx
        exact go ts st (Stp.refl h) hx he
      · rename_i id hq
        rw [hq] at hx
        obtain ⟨hl, he⟩ := he
        split at he <;> try contradiction
        rename_i cells hs
        split at he <;> try contradiction
        rename_i ts q ht
        obtain ⟨s1, s2⟩ := kill_box h hs hl ht hx
        exact go ts _ s1 s2 he
theorem ew_mz (h : Sim F G st a w) {f : Nat} {cs : List X} {d : Option Nat} {Kw : St → Prop} {C : Contract} (hd : d = oper.dst) (hdn : ∀ y, d = some y → y < F.nt) (hc : chkO P (.mz f cs) oper.op = true)
    (he : ew C d st Kw (.mz f cs)) : LOk P F a w oper Kw := by
  subst hd
  simp only [chkO] at hc
  split at hc <;> try contradiction
  rename_i g first caps ho
  simp only [Bool.and_eq_true, beq_iff_eq] at hc
  obtain ⟨⟨rfl, hf⟩, hc⟩ := hc
  simp only [ew] at he
  obtain ⟨l, st', s1, hvs, hK⟩ := frzs_ok cs caps.toList st h hc he
  have h0 : first = #[] := by simpa using hf
  subst h0
  have hm : Array.map a.eval caps = (List.map a.eval caps.toList).toArray := by rw [← Array.toList_map]
  have hr : (execOp a.eval oper).run P w = .ok (.value (.func (.func f) #[] (List.map a.eval caps.toList).toArray)) w := by simp [execOp, ho, Instr.makeFunc, hm]
  exact Res.of_run hr ⟨_, G, hK, s1.sim.put (show VR G st'.sto w (.fn f l) _ from ⟨_, rfl, hvs⟩) hdn⟩

theorem frzl_ok {st0 : St} : ∀ (cells : List IV) (vs : List Value) (st : St), Stp F a G st0 st w w G → VRs G st0.sto w cells vs → ∀ {K : List Tr → St → Prop}, frzl cells st K → ∃ ts st', Stp F a G st st' w w G ∧ VRs G st'.sto w (ts.map .tr) vs ∧ K ts st'
  | [], vs, st, s, hv, K, he => ⟨[], st, Stp.refl s.sim, hv, he⟩
  | x :: r, vs, st, s, hv, K, he => by
    simp only [VRs] at hv
    obtain ⟨v, vr, rfl, hx, hr⟩ := hv
    simp only [frzl] at he
    have go : ∀ (t : Tr) (st1 : St), Stp F a G st st1 w w G → VR G st1.sto w (.tr t) v → frzl r st1 (fun ts st2 => K (t :: ts) st2) → ∃ ts st', Stp F a G st st' w w G ∧ VRs G st'.sto w (ts.map .tr) (v :: vr) ∧ K ts st' := fun t st1 s1 ht he1 => by
      obtain ⟨ts, st', s2, hvs, hK⟩ := frzl_ok r vr st1 (s.trans s1) hr he1
      exact ⟨t :: ts, st', s1.trans s2, ⟨_, _, rfl, s2.vr (.tr t) _ trivial ht, hvs⟩, hK⟩
    unfold frzc at he
    split at he <;> try contradiction
    · rename_i t
      exact go t st (Stp.refl s.sim) (s.vr (.tr t) v trivial hx) he
    · rename_i es
      have hx2 : VR G st0.sto w (.tr (.sl es)) v := hx.2
      exact go (.sl es) st (Stp.refl s.sim) (s.vr (.tr (.sl es)) v trivial hx2) he
    · rename_i id len q
      obtain ⟨hl, he⟩ := he
      split at he <;> try contradiction
      rename_i k2 zs u hw ver hs
      obtain ⟨rfl, rfl, he⟩ := he
      have hx2 := s.vr (.hd id [] 0 zs.length none q) v (show (st.sto id).isSome = true by rw [hs]; rfl) hx
      obtain ⟨s1, s2⟩ := kill_tree s.sim hs hl hx2
      exact go (.sl zs) _ s1 s2 he
theorem ew_lz (h : Sim F G st a w) {m : Nat} {p : X} {d : Option Nat} {Kw : St → Prop} {C : Contract} (hd : d = oper.dst) (hdn : ∀ y, d = some y → y < F.nt) (hc : chkO P (.lz m p) oper.op = true)
    (he : ew C d st Kw (.lz m p)) : LOk P F a w oper Kw := by
  subst hd
  simp only [chkO] at hc
  split at hc <;> try contradiction
  rename_i t y ho
  simp only [Bool.and_eq_true, shapeT, beq_iff_eq] at hc
  obtain ⟨⟨ht, hm⟩, hx⟩ := hc
  have hx := h.x hx
  have key : ∀ {ad : Addr} {cs : List Value}, a.eval y = .pointer (some ad) → cs.length = m → (∀ (j : Nat) (v : Value), cs[j]? = some v → w.cell? (ad.add j) = some v) → (execOp a.eval oper).run P w = .ok (.value (.agg cs.toArray)) w := fun {ad cs} hv hl hcl => by
    subst hl
    simp [execOp, ho, Instr.loadAt, Instr.sureAddr, hv, run_loadVar_agg ht hm hcl]
  simp only [ew] at he
  split at he <;> try contradiction
  rename_i id off hq
  rw [hq] at hx
  split at he <;> try contradiction
  rename_i cells hs
  obtain ⟨hlen, he⟩ := he
  obtain ⟨cells', b1, c, hs', hG, hv⟩ := hx
  rw [hs] at hs'; cases hs'
  obtain ⟨b2, c2, vs, ty, hG2, hh, hvs⟩ := h.ok.obs id _ hs
  rw [hG] at hG2; cases hG2
  have hl := VRs_length hvs
  obtain ⟨ts, st', s1, hts, hK⟩ := frzl_ok _ _ st (Stp.refl h) (VRs_take (VRs_drop hvs off) m) he
  refine Res.of_run (key (cs := (vs.toList.drop off).take m) hv (by simp [hl] at hl ⊢; omega) fun j v hj => ?_) ⟨_, G, hK, s1.sim.put (show VR G st'.sto w (.ag (ts.map .tr)) _ from ⟨_, rfl, hts⟩) hdn⟩
  rw [List.getElem?_take] at hj
  split at hj <;> try contradiction
  rw [List.getElem?_drop] at hj
  rw [add_mk, cell_of_row w b1 _ vs ty _ hh]
  simpa using hj

theorem ew_cl (h : Sim F G st a w) {k : Nat} {z : List Value} {x : X} {d : Option Nat} {Kw : St → Prop} {C : Contract} (hd : d = oper.dst) (hdn : ∀ y, d = some y → y < F.nt) (hc : chkO P (.cl k z x) oper.op = true)
    (he : ew C d st Kw (.cl k z x)) : LOk P F a w oper Kw := by
  subst hd
  simp only [chkO] at hc
  split at hc <;> try contradiction
  rename_i args at1 ho
  split at hc <;> try contradiction
  rename_i y t hy ht
  obtain ⟨args⟩ := args
  simp only at hy
  subst hy
  simp only [Bool.and_eq_true] at hc
  obtain ⟨hx, hc⟩ := hc
  split at hc <;> try contradiction
  rename_i e hel
  simp only [Bool.and_eq_true, beq_iff_eq, decide_eq_true_eq] at hc
  obtain ⟨⟨⟨hsz, hz⟩, hzl⟩, hk0⟩ := hc
  have hu := elemT_eq hel
  obtain ⟨i, zv, hi, hzv, hzc, hz3⟩ := zeroT_info hz
  have hzs : zv.cells.size = k := by rw [← hzl, ← hzc]; simp
  have hx := h.x hx
  simp only [ew] at he
  split at he <;> try contradiction
  rename_i id p off len cap s hq
  split at he <;> try contradiction
  rename_i k2 es u hw ver hs
  obtain ⟨rfl, rfl, rfl, hle, hK⟩ := he
  rw [hq] at hx
  obtain ⟨_, k3, es3, u3, hw3, ver3, hs3, _, hrel⟩ := hx
  rw [hs] at hs3; cases hs3
  obtain ⟨es4, k', ad, c, hg4, hkk, hun, hv, hlc, _, hcap, hor⟩ := hrel rfl
  simp only [getp, Option.some.injEq] at hg4
  subst hg4
  have hkk := hkk rfl
  subst hkk
  have fin : ∀ {w' : World}, (Builtin.clear_ at1 oper.type #[a.eval y]).run P w = .ok (.tuple #[]) w' → Stp F a G st (setOb st id (.ar k' (es.take off) u s (ver + 1))) w w' G → LOk P F a w oper Kw := fun {w'} hr hst => by
    have hr2 : (execOp a.eval oper).run P w = .ok (.value (.tuple #[])) w' := by
      simp [execOp, ho, resolve, invoke, builtin, hr]
    exact Res.of_run hr2 ⟨_, G, hK, hst.put hdn (show VR G _ w' (.tu []) (.tuple #[]) from ⟨[], rfl, rfl⟩) (setOb_env _ _ _)⟩
  by_cases h0 : len = 0
  · subst h0
    refine fin ?_ (step_cut h hs off)
    rw [hv]
    cases ad <;> simp [Builtin.clear_, ht, run_underlying hu]
  · rcases hor with h1 | ⟨h1, _⟩ | ⟨b1, c0, hG, rfl, hcc⟩
    · omega
    · exact absurd rfl h1
    · have hr0 := (h.ok.obs _ _ hs).2.2.2.1 [] es (.inl rfl) rfl
      unfold rowR at hr0
      rw [hG] at hr0
      obtain ⟨k2, vs, ty, g1, g2, g3, g4, g5, g6⟩ := hr0
      have hkk := g1 rfl
      subst hkk
      have hroom : off * k2 + len * k2 ≤ vs.size := by
        rw [g4, ← Nat.add_mul]; exact Nat.mul_le_mul_right _ (by omega)
      have hzz : (Builtin.zeroCells zv.cells len).toList.length = len * k2 := by
        rw [Array.length_toList, size_zeroCells, hzs]
      have hst := run_storeCells_at P b1 (off * k2) ty (Builtin.zeroCells zv.cells len).toList 0 vs w g3 (by rw [hzz, Nat.add_zero]; exact hroom) (zeroCells_one hzc hz3 len)
      simp only [Nat.add_zero, hzz] at hst
      refine fin (w' := w.setRow b1 (vs.toList.take (off * k2) ++ (Builtin.zeroCells zv.cells len).toList ++ vs.toList.drop (off * k2 + len * k2)).toArray) ?_ (step_cells h hs hG g3 ?_ ?_ ?_ ?_ ?_)
      · rw [hv]
        obtain ⟨len, rfl⟩ : ∃ n, len = n + 1 := ⟨len - 1, by omega⟩
        simp [Builtin.clear_, ht, run_underlying hu, zeroValue, typeInfo, hi, hzv, hst]
      · simp only [List.size_toArray, List.length_append, List.length_take, List.length_drop, hzz, Array.length_toList]
        omega
      · rw [List.length_take]
        have := (h.ok.obs _ _ hs).1
        omega
      · exact fun e he => hun e (List.mem_of_mem_take he)
      · exact fun p es2 hp he => getp_take hp he
      · intro i e f t hi hf
        rw [List.getElem?_take] at hi
        split at hi
        · rename_i hio
          have hfl := (List.getElem?_eq_some_iff.1 hf).1
          rw [g2 e (List.mem_of_getElem? hi)] at hfl
          refine .inr ⟨?_, e, hi, hf⟩
          have hlt : i * k2 + f < off * k2 := idx_lt hio hfl
          rw [List.getElem?_toArray, List.append_assoc, List.getElem?_append_left (by rw [List.length_take, Array.length_toList]; omega), List.getElem?_take, if_pos hlt]
          simp
        · cases hi
theorem FC_take {k n m : Nat} {v : Value} {cs : List Value} (h : FC w k n v cs) (hm : m ≤ n) : (Builtin.firstCells k m v).run P w = .ok (cs.take (m * k)).toArray w := by
  obtain ⟨hl, a0, c, rfl, ⟨ad, rfl, hc⟩ | ⟨rfl, rfl⟩⟩ := h
  · have hmk : m * k ≤ n * k := Nat.mul_le_mul_right _ hm
    exact run_firstCells_some (P := P) w k m ad n c (cs.take (m * k)) (by rw [List.length_take]; omega) fun j u hj => by
      rw [List.getElem?_take] at hj
      split at hj
      · exact hc j u hj
      · cases hj
  · have := run_firstCells_none (P := P) w k m n c
    simpa using this

theorem ScR.getp {es es2 : Row} {p : Pth} (h : ScR es) (hp : p ≠ []) (hg : getp es p = some es2) : False := by
  cases p with
  | nil => exact hp rfl
  | cons cd q =>
    obtain ⟨c, d⟩ := cd
    obtain ⟨e, x, g1, g2, g3⟩ := getp_cons hg
    have := h e (List.mem_of_getElem? g1) _ (List.mem_of_getElem? g2)
    simp [isSc] at this

theorem isSc_v {t : Tr} (h : isSc t = true) : ∃ y, t = .v y := by
  cases t with
  | v y => exact ⟨y, rfl⟩
  | sl es => simp [isSc] at h

theorem ew_cy (h : Sim F G st a w) {k : Nat} {x y : X} {d : Option Nat} {Kw : St → Prop} {C : Contract} (hd : d = oper.dst) (hdn : ∀ y, d = some y → y < F.nt) (hc : chkO P (.cy k x y) oper.op = true)
    (he : ew C d st Kw (.cy k x y)) : LOk P F a w oper Kw := by
  subst hd
  simp only [chkO] at hc
  split at hc <;> try contradiction
  rename_i args at1 ho
  split at hc <;> try contradiction
  rename_i x' y' t hxy ht
  obtain ⟨args⟩ := args
  simp only at hxy
  subst hxy
  simp only [Bool.and_eq_true] at hc
  obtain ⟨⟨hx, hy⟩, hc⟩ := hc
  split at hc <;> try contradiction
  rename_i e hel
  simp only [Bool.and_eq_true, beq_iff_eq, decide_eq_true_eq] at hc
  obtain ⟨hsz, hk0⟩ := hc
  have hu := elemT_eq hel
  have hx := h.x hx
  have hy := h.x hy
  simp only [ew] at he
  split at he <;> try contradiction
  rename_i id p off len cap s hq
  split at he <;> try contradiction
  rename_i k2 es u hw ver hs
  obtain ⟨rfl, rfl, rfl, hle, hsc, he⟩ := he
  -- the source's cells
  have src : ∃ (zs : Row) (news : List Value), FC w k2 zs.length (a.eval y') news ∧ (∀ (i : Nat) (e : List Tr) (f : Nat) (t : Tr), zs[i]? = some e → e[f]? = some t → ∃ v, t = .v v ∧ scal v = true ∧ news[i * k2 + f]? = some v) ∧ ScR zs ∧ UnR k2 zs ∧
      Kw { setOb st id (.ar k2 (es.take off ++ zs.take len ++ es.drop (off + min zs.length len)) u s (ver + 1)) with env := ptd oper.dst (iI (min zs.length len : Nat)) st.env } := by
    have trees : ∀ {A : Nat → Prop} {zs : Row}, Rds w A (a.eval y') (.sl zs) → ScR zs → UnR k2 zs → ∃ news, FC w k2 zs.length (a.eval y') news ∧ (∀ (i : Nat) (e : List Tr) (f : Nat) (t : Tr), zs[i]? = some e → e[f]? = some t → ∃ v, t = .v v ∧ scal v = true ∧ news[i * k2 + f]? = some v) := fun {A zs} hr h1 h2 => by
      obtain ⟨cs, g1, g2⟩ := hr.fc hk0 h2
      refine ⟨cs, g1, fun i e f t hi hf => ?_⟩
      obtain ⟨v, hv, hr2⟩ := g2 i e f t hi hf
      obtain ⟨q, rfl⟩ := isSc_v (h1 e (List.mem_of_getElem? hi) t (List.mem_of_getElem? hf))
      obtain ⟨rfl, hs2⟩ := hr2.val
      exact ⟨_, rfl, hs2, hv⟩
    unfold srcR at he
    split at he <;> try contradiction
    · rename_i zs hq2
      rw [hq2] at hy
      obtain ⟨h1, h2, h3⟩ := he
      obtain ⟨news, g1, g2⟩ := trees hy h1 h2
      exact ⟨zs, news, g1, g2, h1, h2, h3⟩
    · rename_i zs hq2
      rw [hq2] at hy
      obtain ⟨h1, h2, h3⟩ := he
      obtain ⟨news, g1, g2⟩ := trees hy.2 h1 h2
      exact ⟨zs, news, g1, g2, h1, h2, h3⟩
    · rename_i id2 p2 off2 len2 cap2 s2 hq2
      rw [hq2] at hy
      unfold rdh at he
      split at he <;> try contradiction
      rename_i k4 es4 u4 hw4 ver4 hs4
      obtain ⟨es5, hg5, hst5, hl5, h1, h2, h3⟩ := he
      obtain ⟨news, g1, g2⟩ := hd_fc2 h.ok hs4 hg5 hst5 hy hl5 h2
      refine ⟨_, news, by rw [cut_length hl5]; exact g1, fun i e f t hi hf => ?_, h1, h2, h3⟩
      obtain ⟨v, hv, hc2⟩ := g2 i e f t hi hf
      obtain ⟨q, rfl⟩ := isSc_v (h1 e (List.mem_of_getElem? hi) t (List.mem_of_getElem? hf))
      obtain ⟨rfl, hs3⟩ := hc2
      exact ⟨_, rfl, hs3, hv⟩
  obtain ⟨zs, news, fc, hnew, hscz, hunz, hK⟩ := src
  rw [hq] at hx
  obtain ⟨_, k3, es3, u3, hw3, ver3, hs3, _, hrel⟩ := hx
  rw [hs] at hs3; cases hs3
  obtain ⟨es4, k', ad, c, hg4, hkk, hun, hv, hlc, _, hcap, hor⟩ := hrel rfl
  simp only [getp, Option.some.injEq] at hg4
  subst hg4
  have hkk := hkk rfl
  subst hkk
  have hlen : Builtin.lenOf (a.eval y') = pure zs.length := by
    obtain ⟨_, a0, c0, h1, _⟩ := fc
    rw [h1]; rfl
  generalize hn : min zs.length len = n at *
  have hfc := FC_take (P := P) fc (m := n) (by omega)
  have fin : ∀ {w' : World}, (Builtin.copy_ at1 oper.type #[a.eval x', a.eval y']).run P w = .ok (.int .i64 n) w' → Stp F a G st (setOb st id (.ar k' (es.take off ++ zs.take len ++ es.drop (off + n)) u s (ver + 1))) w w' G → LOk P F a w oper Kw := fun {w'} hr hst => by
    have hr2 : (execOp a.eval oper).run P w = .ok (.value (.int .i64 n)) w' := by
      simp [execOp, ho, resolve, invoke, builtin, hr]
    exact Res.of_run hr2 ⟨_, G, hK, hst.put hdn (show VR G _ w' (iI n) (.int .i64 n) from .v _ rfl) (setOb_env _ _ _)⟩
  have hzt : zs.take len = zs.take n := by
    by_cases h1 : zs.length ≤ len
    · rw [List.take_of_length_le h1, List.take_of_length_le (by omega)]
    · rw [show n = len from by omega]
  by_cases h0 : n = 0
  · subst h0
    have e0 : es.take off ++ zs.take len ++ es.drop (off + 0) = es := by rw [hzt, List.take_zero, List.append_nil, Nat.add_zero, List.take_append_drop]
    rw [e0] at fin
    have hc0 := step_cut h hs es.length
    rw [List.take_length] at hc0
    refine fin ?_ hc0
    rw [hv]
    cases ad with
    | none => simp [Builtin.copy_, ht, run_underlying hu, hlen, run_szT hsz, hn, hfc, goInt]
    | some ad => simp [Builtin.copy_, ht, run_underlying hu, hlen, run_szT hsz, hn, hfc, goInt, storeCells]
  · rcases hor with h1 | ⟨h1, _⟩ | ⟨b1, c0, hG, rfl, hcc⟩
    · omega
    · exact absurd rfl h1
    · have hr0 := (h.ok.obs _ _ hs).2.2.2.1 [] es (.inl rfl) rfl
      unfold rowR at hr0
      rw [hG] at hr0
      obtain ⟨k2, vs, ty, g1, g2, g3, g4, g5, g6⟩ := hr0
      have hkk := g1 rfl
      subst hkk
      have hroom : off * k2 + n * k2 ≤ vs.size := by
        rw [g4, ← Nat.add_mul]; exact Nat.mul_le_mul_right _ (by omega)
      have hnl : n * k2 ≤ zs.length * k2 := Nat.mul_le_mul_right _ (by omega)
      have hcl : (news.take (n * k2)).length = n * k2 := by
        rw [List.length_take, fc.1]; omega
      have hone : ∀ v ∈ news.take (n * k2), v.oneCell' = true := fun v hv2 => by
        have hv3 := List.mem_of_mem_take hv2
        obtain ⟨q, hq1, rfl⟩ := List.getElem_of_mem hv3
        rw [fc.1] at hq1
        have hd : q / k2 < zs.length := Nat.div_lt_of_lt_mul (by rwa [Nat.mul_comm])
        have hm : q % k2 < k2 := Nat.mod_lt _ hk0
        have he1 := List.getElem?_eq_getElem hd
        have hel2 := hunz _ (List.mem_of_getElem? he1)
        obtain ⟨v2, _, hs5, hv5⟩ := hnew (q / k2) _ (q % k2) _ he1 (List.getElem?_eq_getElem (by rw [hel2]; exact hm))
        have : q / k2 * k2 + q % k2 = q := by have := Nat.div_add_mod q k2; rw [Nat.mul_comm] at this; omega
        rw [this, List.getElem?_eq_getElem (by rw [fc.1]; exact hq1)] at hv5
        cases hv5
        generalize news[q] = z at hs5
        cases z <;> first | rfl | simp [scal] at hs5
      have hst := run_storeCells_at P b1 (off * k2) ty (news.take (n * k2)) 0 vs w g3 (by rw [hcl, Nat.add_zero]; exact hroom) hone
      simp only [Nat.add_zero, hcl] at hst
      refine fin (w' := w.setRow b1 (vs.toList.take (off * k2) ++ news.take (n * k2) ++ vs.toList.drop (off * k2 + n * k2)).toArray) ?_ (step_cells h hs hG g3 ?_ ?_ ?_ ?_ ?_)
      · rw [hv]
        simp [Builtin.copy_, ht, run_underlying hu, hlen, run_szT hsz, hn, hfc, goInt, hst]
      · simp only [List.size_toArray, List.length_append, List.length_drop, hcl, List.length_take, Array.length_toList]
        omega
      · have := (h.ok.obs _ _ hs).1
        simp only [List.length_append, List.length_take, List.length_drop]
        omega
      · intro e he
        rcases List.mem_append.1 he with he | he
        · rcases List.mem_append.1 he with he | he
          · exact hun e (List.mem_of_mem_take he)
          · exact hunz e (List.mem_of_mem_take he)
        · exact hun e (List.mem_of_mem_drop he)
      · intro p es2 hp hg
        exfalso
        refine ScR.getp (es := es.take off ++ zs.take len ++ es.drop (off + n)) (fun e he t ht => ?_) hp hg
        rcases List.mem_append.1 he with he | he
        · rcases List.mem_append.1 he with he | he
          · exact hsc e (List.mem_of_mem_take he) t ht
          · exact hscz e (List.mem_of_mem_take he) t ht
        · exact hsc e (List.mem_of_mem_drop he) t ht
      · intro i e f t hi hf
        have hlt : ∀ {l : Row}, UnR k2 l → e ∈ l → f < k2 := fun hU hm => by
          have := (List.getElem?_eq_some_iff.1 hf).1
          rwa [hU e hm] at this
        have hoff : (es.take off).length = off := by rw [List.length_take]; omega
        have hzl : (zs.take len).length = n := by rw [List.length_take]; omega
        have hoff2 : (vs.toList.take (off * k2)).length = off * k2 := by
          rw [List.length_take, Array.length_toList]; omega
        rw [List.getElem?_toArray]
        by_cases hi1 : i < off
        · rw [List.append_assoc, List.getElem?_append_left (by omega), List.getElem?_take, if_pos hi1] at hi
          have hfl := hlt hun (List.mem_of_getElem? hi)
          have hx1 : i * k2 + f < off * k2 := idx_lt hi1 hfl
          refine .inr ⟨?_, e, hi, hf⟩
          rw [List.append_assoc, List.getElem?_append_left (by omega), List.getElem?_take, if_pos hx1]
          simp
        · obtain ⟨j, rfl⟩ : ∃ j, i = off + j := ⟨i - off, by omega⟩
          by_cases hi2 : j < n
          · rw [List.getElem?_append_left (by rw [List.length_append]; omega), List.getElem?_append_right (by omega), hoff, Nat.add_sub_cancel_left, hzt, List.getElem?_take, if_pos hi2] at hi
            have hfl := hlt hunz (List.mem_of_getElem? hi)
            have hx1 : j * k2 + f < n * k2 := idx_lt hi2 hfl
            obtain ⟨v, rfl, hs6, hv6⟩ := hnew j e f t hi hf
            refine .inl ⟨v, rfl, hs6, ?_⟩
            rw [List.getElem?_append_left (by rw [List.length_append, hoff2, hcl, Nat.add_mul]; omega), List.getElem?_append_right (by rw [hoff2, Nat.add_mul]; omega), hoff2, show (off + j) * k2 + f - off * k2 = j * k2 + f from by rw [Nat.add_mul]; omega, List.getElem?_take, if_pos hx1]
            exact hv6
          · rw [List.getElem?_append_right (by rw [List.length_append]; omega), List.length_append, hoff, hzl, List.getElem?_drop, show off + n + (off + j - (off + n)) = off + j from by omega] at hi
            have hfl := hlt hun (List.mem_of_getElem? hi)
            refine .inr ⟨?_, e, hi, hf⟩
            have hx1 : n * k2 ≤ j * k2 := Nat.mul_le_mul_right _ (by omega)
            rw [List.getElem?_append_right (by rw [List.length_append, hoff2, hcl, Nat.add_mul]; omega), List.length_append, hoff2, hcl, List.getElem?_drop, show off * k2 + n * k2 + ((off + j) * k2 + f - (off * k2 + n * k2)) = (off + j) * k2 + f from by rw [Nat.add_mul]; omega]
            simp
theorem run_apz {t u ty e : TypeId} {ik : IntKind} {i : TypeInfo} {z : Value} (ht : P.underlying t = some (.slice e)) (hu : P.underlying u = some (.int ik)) (hi : P.info? e = some i) (hz : i.zero = some z) {ad : Option Addr} {n : Nat} (hn0 : 0 < n) (hb : n ≤ bigN) (hby : i.bytes ≤ 1024) (hk0 : 0 < i.size) :
    (Builtin.append_ #[t, u] ty #[.slice ad 0 0, .int .i64 n]).run P w =
      .ok (.slice (some ⟨w.heap.size, 0, none⟩) n (grownCap w n 0 e)) (w.drew.alloc (.cells (Builtin.zeroCells z.cells n ++ Builtin.zeroCells z.cells (grownCap w n 0 e - n)) e)) := by
  have hbb : n ≤ 4294967296 := hb
  have hw : IntKind.i64.wrap (n : Int) = n := wrap_fits (by show (-9223372036854775808 : Int) ≤ (n : Int) ∧ (n : Int) ≤ 9223372036854775807; omega)
  have hneg : ¬ ((n : Int) < 0) := by omega
  have hnb : (n : Int) * (i.bytes : Int) ≤ 281474976710656 := by
    calc (n : Int) * (i.bytes : Int) ≤ 4294967296 * 1024 := Int.mul_le_mul (by omega) (by omega) (by omega) (by omega)
      _ ≤ 281474976710656 := by decide
  have hnb' : ¬ (281474976710656 < (n : Int) * (i.bytes : Int)) := by omega
  have h63' : ¬ (9223372036854775807 < (n : Int)) := by omega
  have h48 : Builtin.nextslicecap n 0 * i.bytes ≤ 281474976710656 := growslice_fits hn0 (by
    calc n * i.bytes ≤ 4294967296 * 1024 := Nat.mul_le_mul hbb hby
      _ ≤ 140737488355328 := by decide)
  have h48' : ¬ (281474976710656 < Builtin.nextslicecap n 0 * i.bytes) := by omega
  have hn0' : ¬ (n * i.size = 0) := by
    have := Nat.mul_pos hn0 hk0
    omega
  have hfo := run_FC (P := P) (w := w) (k := i.size) (n := 0) (v := .slice ad 0 0) (cs := []) ⟨by simp, ad, 0, rfl, (by cases ad with | none => exact .inr ⟨rfl, rfl⟩ | some ad => exact .inl ⟨ad, rfl, fun j u hj => by simp at hj⟩)⟩ (w' := w.drew) rfl
  simp [Builtin.append_, run_underlying ht, run_underlying hu, Go.sizeOf, typeInfo, zeroValue, hi, hz, asInt, asIntOf, hw, hneg, hnb', h63', h48', hn0', Nat.ne_of_gt hn0, Question.forced, hfo, newRow, grownCap]
theorem zeroCells_at {z : Value} {k n : Nat} (hk : z.cells.size = k) {i f : Nat} (hi : i < n) {x : Value} (hf : z.cells[f]? = some x) : (Builtin.zeroCells z.cells n)[i * k + f]? = some x := by
  have hfk : f < k := by rw [← hk]; exact (Array.getElem?_eq_some_iff.1 hf).1
  have hlt : i * k + f < n * k := idx_lt hi hfk
  have hmod : (i * k + f) % k = f := by rw [Nat.add_comm, Nat.add_mul_mod_self_right, Nat.mod_eq_of_lt hfk]
  have hlt2 : f < z.cells.size := by omega
  unfold Builtin.zeroCells
  rw [Array.getElem?_map]
  simp [hlt, hk, hmod]
  rw [getElem!_pos z.cells f hlt2]
  rw [Array.getElem?_eq_getElem hlt2] at hf
  exact Option.some.inj hf
theorem ew_az {C : Contract} (h : Sim F G st a w) {k : Nat} {z : List Value} {x n : X} {d : Option Nat} {K : St → Prop} (hd : d = oper.dst) (hdn : ∀ y, d = some y → y < F.nt) (hc : chkO P (.az k z x n) oper.op = true) (he : ew C d st K (.az k z x n)) : LOk P F a w oper K := by
  subst hd
  simp only [chkO] at hc
  split at hc <;> try contradiction
  rename_i args argTypes ho
  split at hc <;> try contradiction
  rename_i xo no t u hargs htys
  simp only [Bool.and_eq_true] at hc
  obtain ⟨⟨⟨hcx, hcn⟩, hcu⟩, hc⟩ := hc
  split at hcu <;> try contradiction
  rename_i ik hu
  split at hc <;> try contradiction
  rename_i e hel
  simp only [Bool.and_eq_true, beq_iff_eq, decide_eq_true_eq] at hc
  obtain ⟨⟨⟨⟨hsz, hz⟩, hzl⟩, hk0⟩, hby⟩ := hc
  have ht := elemT_eq hel
  obtain ⟨i, zv, hi, hzv, hzc, hz3⟩ := zeroT_info hz
  obtain ⟨i2, hi2, hks⟩ := szT_info hsz
  rw [hi] at hi2; cases hi2
  have hbytes : i.bytes ≤ 1024 := by simpa [Program.bytesOf, hi] using hby
  have hzs : zv.cells.size = k := by rw [← hzl, ← hzc]; simp
  have hargs' : args = #[xo, no] := by cases args; simpa using hargs
  have htys' : argTypes = #[t, u] := by cases argTypes; simpa using htys
  subst hargs'
  subst htys'
  have hx := h.x hcx
  have hn := h.x hcn
  simp only [ew] at he
  split at he <;> try contradiction
  rename_i hqx
  split at he <;> try contradiction
  rename_i m hqn
  obtain ⟨hm0, hmb, hfr, hK⟩ := he
  rw [hqx] at hx
  rw [hqn] at hn
  obtain ⟨hn, _⟩ := hn.val
  obtain ⟨⟨ad, hx⟩, _⟩ := hx
  obtain ⟨N, rfl⟩ := Int.eq_ofNat_of_zero_le (Int.le_of_lt hm0)
  simp only [Int.toNat_natCast] at hK
  have hN0 : 0 < N := by omega
  have hNb : N ≤ bigN := by omega
  have hrun := run_apz (P := P) (w := w) (ty := oper.type) ht hu hi hzv (ad := ad) hN0 hNb hbytes (by rw [hks]; exact hk0)
  have hge : N ≤ grownCap w N 0 e := by simpa using grownCap_ge w N 0 e
  have htrv : ∀ x ∈ z, Rds w (Av G st.sto w) x (trv x) ∧ flatT (trv x) := fun x hx => by
    rcases hz3 x hx with hx | rfl
    · have : trv x = .v x := by cases x <;> first | rfl | simp [scal] at hx
      rw [this]; exact ⟨.v x hx, trivial⟩
    · exact ⟨.nil none 0, rfl⟩
  have hin : ∀ {i' : Nat} {e' : List Tr}, (List.replicate N (z.map trv))[i']? = some e' → i' < N ∧ e' = z.map trv := fun {i' e'} h1 => by
    rw [List.getElem?_replicate] at h1
    split at h1 <;> simp_all
  obtain ⟨G', hG'⟩ := core_new h (Kl.refl st) (d := oper.dst) (key := keyOf oper.dst) (k := k) (c := grownCap w N 0 e) (es := List.replicate N (z.map trv)) (u := true) (ty := e) (N := fun _ => none) (fresh_sto hfr) hdn
    (w' := w.drew.alloc (.cells (Builtin.zeroCells zv.cells N ++ Builtin.zeroCells zv.cells (grownCap w N 0 e - N)) e))
    ⟨by simp, fun b hb => heap_alloc_old w.drew _ b hb, rfl, rfl, rfl⟩ (heap_alloc_new w.drew _)
    (by simp only [Array.size_append, size_zeroCells, hzs, ← Nat.add_mul]; congr 1; omega) (by rw [List.length_replicate]; exact hge)
    (fun e' he' => by obtain ⟨_, rfl⟩ := List.mem_replicate.1 he'; simpa using hzl)
    (fun i' e' f t' h1 h2 => by
      obtain ⟨hi', rfl⟩ := hin h1
      rw [List.getElem?_map, Option.map_eq_some_iff] at h2
      obtain ⟨y, hy, rfl⟩ := h2
      have hyf : zv.cells[f]? = some y := by rw [← hzc] at hy; simpa using hy
      have hfk : f < k := by have := (Array.getElem?_eq_some_iff.1 hyf).1; omega
      refine ⟨y, ?_, Rds.cell (htrv y (List.mem_of_getElem? hy)).1 fun _ => (htrv y (List.mem_of_getElem? hy)).2⟩
      rw [Array.getElem?_append_left (by rw [size_zeroCells, hzs]; exact idx_lt hi' hfk)]
      exact zeroCells_at hzs hi' hyf)
    (fun _ i' f e' zs q es2 h1 h2 h3 => by
      obtain ⟨_, rfl⟩ := hin h1
      rw [List.getElem?_map, Option.map_eq_some_iff] at h2
      obtain ⟨y, hy, h2⟩ := h2
      have := (htrv y (List.mem_of_getElem? hy)).2
      rw [h2] at this
      simp only [flatT] at this
      subst this
      obtain ⟨rfl, rfl⟩ := getp_nil h3
      unfold rowR
      rfl)
    (fun _ _ _ _ _ _ hg => by cases hg) (fun _ _ _ _ _ _ _ _ _ _ hg => by cases hg)
  rw [List.length_replicate] at hG'
  refine Res.of_run (v := _) (w' := _) ?_ ⟨_, G', hK, hG'⟩
  unfold execOp
  simp only [ho, resolve, invoke, builtin, Sem.run_bind, Sem.run_pure, Result.andThen_ok, List.map_toArray, List.map_cons, List.map_nil, hx, hn, List.length_nil, hrun]
end
end Go.Fd
