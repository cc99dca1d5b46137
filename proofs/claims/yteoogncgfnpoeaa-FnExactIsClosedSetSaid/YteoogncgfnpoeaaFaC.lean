/-
  FOUNDATION 29: append: the operation, to what is there. Own work.
-/
import Derived.Test.YteoogncgfnpoeaaFaB
import Derived.Laws.BytesArg
import Derived.Orders
import Derived.Deep.LoopGhost
import Derived.Laws.Sem
namespace Go.Fd

section
variable {P : Program} {F : Fr} {G G' : Gh} {S S' : Sto} {st st1 st2 : St} {a : Act} {w w' : World} {C : Contract} {oper : Oper} {D D2 : Oid → Prop}

theorem Wk.refl (ob : Ob) : Wk (fun _ => False) ob ob := by
  cases ob with
  | bx cells => exact .bx cells cells (mens_mono (fun _ _ h => h) _ (mens_true _)) (fun _ _ _ _ h => h) (fun _ h => h)
  | ar => exact .ar ..

/-- A slot is written. -/
theorem Sim.put (h : Sim F G st a w) {d : Option Nat} {x : IV} {v : Value} (hx : VR G st.sto w x v) (hd : ∀ y, d = some y → y < F.nt) : Sim F G { st with env := ptd d x st.env } (a.put d v) w :=
  h.go (st' := { st with env := ptd d x st.env }) (T := fun _ => False) (D := fun _ => False) (env0 := st.env) rfl h.outl
    ⟨fun _ _ => rfl, fun _ ob _ _ hs => ⟨ob, hs, Wk.refl ob⟩, fun _ ob _ hs => ⟨fun h => h, ob, hs, Wk.refl ob⟩, Nat.le_refl _, fun _ _ _ => rfl, fun _ _ _ hf => hf.elim, fun _ _ hf => hf.elim⟩
    (fun _ hf => hf.elim) rfl rfl rfl h.ok (fun _ _ _ _ _ h => h) (fun _ => men_mono (fun _ _ h => h) _ (men_true _)) rfl hd hx
/-- An object is set to what it is. -/
theorem Sim.idle (h : Sim F G st a w) {id : Oid} {ob : Ob} (hs : st.sto id = some ob) : Sim F G (setOb st id ob) a w := by
  have he : (setOb st id ob).sto = st.sto := by
    rw [setOb_sto]
    funext i
    unfold sset
    split
    · rename_i hi; rw [hi, hs]
    · rfl
  refine ⟨h.dfr, h.sz, by rw [he, setOb_env]; exact h.env, by rw [he]; exact h.ok, by rw [setOb_lvl]; exact h.lvl, ?_, by rw [he]; exact h.fr⟩
  intro i o hi
  rw [setOb_lvl]
  unfold setOb at hi
  split at hi
  · exact h.outl i o hi
  · rename_i hne
    simp only [sset] at hi
    split at hi
    · rename_i hii
      subst hii
      rw [sto_out hne] at hs
      exact h.outl _ _ hs
    · exact h.outl i o hi

/-- What is known of what is appended. -/
structure IT (G : Gh) (st st1 : St) (w : World) (D : Oid → Prop) (items : Row) (N : Pth → Option (Nat × Nat)) (ui : Bool) (k : Nat) (yv : Value) (news : List Value) : Prop where
  kl : Kl D st st1
  fc : FC w k items.length yv news
  un : UnR k items
  rd : ∀ (i : Nat) (e : List Tr) (f : Nat) (t : Tr), items[i]? = some e → e[f]? = some t → ∃ x, news[i * k + f]? = some x ∧ Rds w (Av G st1.sto w) x t
  cl : ui = true → ∀ (i : Nat) (e : List Tr) (f : Nat) (t : Tr), items[i]? = some e → e[f]? = some t → ∃ x, news[i * k + f]? = some x ∧ cellR (fun _ => N) w (Av G st1.sto w) (0, 0) [] true i f x t
  sub : ui = true → ∀ (i f : Nat) (e : List Tr) (zs : Row) (q : Pth) (es2 : Row), items[i]? = some e → e[f]? = some (.sl zs) → getp zs q = some es2 → rowR (fun _ => N) w (fun _ => False) (0, 0) ((i, f) :: q) k true es2
  src : ui = true → ∀ p b1 c1, p ≠ [] → (getp items p).isSome = true → N p = some (b1, c1) → ∃ j ob, D j ∧ st.sto j = some ob ∧ own1 G j ob b1
  inj : ui = true → ∀ p p' b1 c1 c2, p ≠ [] → p' ≠ [] → (getp items p).isSome = true → (getp items p').isSome = true → N p = some (b1, c1) → N p' = some (b1, c2) → p = p'

theorem IT.one {items : Row} {N : Pth → Option (Nat × Nat)} {ui : Bool} {k : Nat} {yv : Value} {news : List Value} (h : IT G st st1 w D items N ui k yv news) (hk0 : 0 < k) : ∀ u ∈ news, u.oneCell' = true := by
  intro u hu
  obtain ⟨q, hq⟩ := List.getElem?_of_mem hu
  have hlt := (List.getElem?_eq_some_iff.1 hq).1
  rw [h.fc.1] at hlt
  have hd : q / k < items.length := Nat.div_lt_of_lt_mul (by rwa [Nat.mul_comm])
  have hm : q % k < k := Nat.mod_lt _ hk0
  have he := List.getElem?_eq_getElem hd
  have hel := h.un _ (List.mem_of_getElem? he)
  obtain ⟨x, hx, hr⟩ := h.rd (q / k) _ (q % k) _ he (List.getElem?_eq_getElem (by rw [hel]; exact hm))
  rw [show q / k * k + q % k = q from by have := Nat.div_add_mod q k; rw [Nat.mul_comm] at this; omega, hq] at hx
  cases hx
  exact hr.one

/-- Trees are appended. -/
theorem IT.trees {items : Row} {ui : Bool} {k : Nat} {yv : Value} (hy : Rds w (Av G st.sto w) yv (.sl items)) (hk0 : 0 < k) (hk : UnR k items) (hu : ui = true → FlatR items) :
    ∃ news, IT G st st w (fun _ => False) items (fun _ => none) ui k yv news := by
  obtain ⟨cs, h1, h2⟩ := hy.fc hk0 hk
  refine ⟨cs, Kl.refl st, h1, hk, h2, fun hui i e f t hi hf => ?_, fun hui i f e zs q es2 hi hf hq => ?_, fun _ _ _ _ _ _ h => (by cases h), fun _ _ _ _ _ _ _ _ _ _ h => (by cases h)⟩
  · obtain ⟨x, hx, hr⟩ := h2 i e f t hi hf
    exact ⟨x, hx, Rds.cell hr fun _ => hu hui e (List.mem_of_getElem? hi) t (List.mem_of_getElem? hf)⟩
  · have := hu hui e (List.mem_of_getElem? hi) _ (List.mem_of_getElem? hf)
    simp only [flatT] at this
    subst this
    obtain ⟨rfl, rfl⟩ := getp_nil hq
    unfold rowR
    rfl

/-- An own object is moved in. -/
theorem IT.moved (h : Sim F G st a w) {id2 : Oid} {k k2 : Nat} {zs : Row} {hw2 ver2 : Nat} {yv : Value} (hs2 : st.sto id2 = some (.ar k2 zs true hw2 ver2)) (hl2 : id2.1 = st.lvl) (hy : hdR G st.sto id2 [] 0 zs.length none hw2 yv) (hk0 : 0 < k) (hk : UnR k zs) :
    ∃ news, IT G st (kill id2 st) w (fun i => False ∨ i = id2) zs (G id2) true k yv news := by
  obtain ⟨_, htree⟩ := kill_tree h hs2 hl2 hy
  obtain ⟨cs, h1, h2⟩ := htree.fc hk0 hk
  obtain ⟨ad, cs2, c, hv, _, _, h3, h4, _⟩ := hd_fc h.ok hs2 hy
  have hob := h.ok.obs _ _ hs2
  have hcs : zs ≠ [] → cs = cs2 := fun hne => by
    obtain ⟨e0, he0⟩ := List.exists_mem_of_ne_nil zs hne
    have hkk : k2 = k := by rw [← hk e0 he0, hob.2.1 e0 he0]
    subst hkk
    obtain ⟨l1, a1, c1, e1, o1⟩ := h1
    obtain ⟨l2, a2, c2, e2, o2⟩ := h3
    rw [e1] at e2; cases e2
    rcases o1 with ⟨ad1, rfl, r1⟩ | ⟨rfl, rfl⟩
    · rcases o2 with ⟨ad2, e3, r2⟩ | ⟨e3, _⟩
      · cases e3
        apply List.ext_getElem?
        intro j
        by_cases hj : j < cs.length
        · have q1 := r1 j _ (List.getElem?_eq_getElem hj)
          have q2 := r2 j _ (List.getElem?_eq_getElem (show j < cs2.length from by omega))
          rw [q1] at q2
          rw [List.getElem?_eq_getElem hj, List.getElem?_eq_getElem (show j < cs2.length from by omega)]
          exact q2
        · rw [List.getElem?_eq_none (by omega), List.getElem?_eq_none (by omega)]
      · cases e3
    · rcases o2 with ⟨ad2, e3, r2⟩ | ⟨_, rfl⟩
      · cases e3
      · rfl
  refine ⟨cs, (Kl.refl st).step (fun j cells hj => h.ok.low j cells hj) h.outl hl2 (by rw [hs2]; rfl), h1, hk, h2, fun _ i e f t hi hf => ?_, fun _ i f e z q es2 hi hf hq => ?_, fun _ p b1 c1 hp hss hN => ⟨id2, _, .inr rfl, hs2, p, c1, .inr rfl, hss, hN⟩, fun _ p p' b1 c1 c2 hp hp' h5 h6 h7 h8 => hob.2.2.2.2 p p' b1 c1 c2 (.inr rfl) (.inr rfl) h5 h6 h7 h8⟩
  · have hne : zs ≠ [] := fun hh => by rw [hh] at hi; simp at hi
    obtain ⟨e0, he0⟩ := List.exists_mem_of_ne_nil zs hne
    have hkk : k2 = k := by rw [← hk e0 he0, hob.2.1 e0 he0]
    subst hkk
    obtain ⟨x, hx, hc⟩ := h4 i e f t hi hf
    refine ⟨x, by rw [hcs hne]; exact hx, ?_⟩
    cases t with
    | v y => exact hc
    | sl es => simpa [cellR] using hc
  · have hr := hob.2.2.2.1 ((i, f) :: q) es2 (.inr rfl) (getp_mk hi hf hq)
    have hr2 := rowR_own (G1 := G) (G2 := G) (A' := fun _ => False) (i := id2) rfl hr
    exact rowR_keep2 (G := G) (id := id2) (p := (i, f) :: q) (A := fun _ => False) rfl (fun _ r => rfl) (fun hu => by cases hu) (fun b hb => hb.elim) (fun h => by cases h) (fun _ _ _ => rfl) hr2

/-- The run of append. -/
def ARun (P : Program) (t ty : TypeId) (xv yv : Value) (w : World) (v : Value) (w' : World) : Prop := (Builtin.append_ #[t, t] ty #[xv, yv]).run P w = .ok v w'

/-- Appending to an own object. -/
theorem ap_hd (h : Sim F G st a w) {items : Row} {N : Pth → Option (Nat × Nat)} {ui : Bool} {k : Nat} {yv xv : Value} {news : List Value} {t ty e : TypeId} {i : TypeInfo} {z : Value} {d : Option Nat} (it : IT G st st1 w D items N ui k yv news)
    (ht : P.underlying t = some (.slice e)) (hi : P.info? e = some i) (hz : i.zero = some z) (hik : i.size = k) (hzk : z.cells.size = k) (hby : i.bytes ≤ 1024) (hk0 : 0 < k) (hd : ∀ y, d = some y → y < F.nt)
    {id : Oid} {es : Row} {u : Bool} {hw ver : Nat} (hs : st.sto id = some (.ar k es u hw ver)) (hnd : ¬ D id) (hx : hdR G st.sto id [] 0 es.length none hw xv) (huu : u = true → ui = true) (hb : es.length + items.length ≤ bigN) :
    ∃ v w' G', ARun P t ty xv yv w v w' ∧ Sim F G' { setOb st1 id (.ar k (es ++ items) u (max hw (es.length + items.length)) ver) with env := ptd d (.hd id [] 0 (es.length + items.length) none (max hw (es.length + items.length))) st1.env } (a.put d v) w' := by
  subst hik
  obtain ⟨ad, olds, c, rfl, hlc, hcap, hfc, hold, hblk⟩ := hd_fc h.ok hs hx
  obtain ⟨o1, o2, o3, o4, o5⟩ := h.ok.obs _ _ hs
  by_cases hit : items = []
  · subst hit
    have hnews : news = [] := List.eq_nil_of_length_eq_zero (by simpa using it.fc.1)
    subst hnews
    obtain ⟨ob1, k1, k2⟩ := it.kl.live id _ hnd hs
    have hob1 : ob1 = .ar i.size es u hw ver := by cases k2; rfl
    subst hob1
    have h1 := h.kl it.kl
    have hmax : max hw (es.length + 0) = hw := by omega
    refine ⟨_, w, G, run_ap0 ht hi it.fc hlc, ?_⟩
    simp only [List.append_nil, List.length_nil, Nat.add_zero] at hmax ⊢
    rw [hmax]
    have h2 := h1.1.idle k1
    have hxx : VR G (setOb st1 id (.ar i.size es u hw ver)).sto w (.hd id [] 0 es.length none hw) (.slice ad es.length c) := by
      have he : (setOb st1 id (.ar i.size es u hw ver)).sto = st1.sto := by
        rw [setOb_sto]
        funext j
        unfold sset
        split
        · rename_i hj; rw [hj, k1]
        · rfl
      rw [he]
      exact h1.2.vr (.hd id [] 0 es.length none hw) _ hnd hx
    have := h2.put hxx hd
    rw [setOb_env] at this
    exact this
  · have hm : 0 < items.length := Nat.pos_of_ne_zero fun h0 => hit (List.eq_nil_of_length_eq_zero h0)
    have cells : ∀ {vs : Array Value}, (∀ (j : Nat) (x : Value), olds[j]? = some x → vs[j]? = some x) → (∀ (j : Nat) (x : Value), news[j]? = some x → vs[es.length * i.size + j]? = some x) →
        (∀ (i0 : Nat) (e : List Tr) (f : Nat) (t : Tr), es[i0]? = some e → e[f]? = some t → ∃ x, vs[i0 * i.size + f]? = some x ∧ cellR G w (Av G st.sto w) id [] u i0 f x t) ∧
        (∀ (i0 : Nat) (e : List Tr) (f : Nat) (t : Tr), items[i0]? = some e → e[f]? = some t → ∃ x, vs[(es.length + i0) * i.size + f]? = some x ∧ cellR (fun _ => N) w (Av G st1.sto w) (0, 0) [] u i0 f x t) := by
      intro vs h1 h2
      refine ⟨fun i0 e f t hi hf => ?_, fun i0 e f t hi hf => ?_⟩
      · obtain ⟨x, hx, hc⟩ := hold i0 e f t hi hf
        exact ⟨x, h1 _ _ hx, hc⟩
      · cases u with
        | true =>
          obtain ⟨x, hx, hc⟩ := it.cl (huu rfl) i0 e f t hi hf
          exact ⟨x, by rw [Nat.add_mul, Nat.add_assoc]; exact h2 _ _ hx, hc⟩
        | false =>
          obtain ⟨x, hx, hc⟩ := it.rd i0 e f t hi hf
          exact ⟨x, by rw [Nat.add_mul, Nat.add_assoc]; exact h2 _ _ hx, Rds.cell hc (fun h => by cases h)⟩
    by_cases hroom : es.length + items.length ≤ c
    · obtain ⟨b, vs, tt, hG, rfl, hh, hsz, hol⟩ := hblk (by omega)
      have hfit : es.length * i.size + news.length ≤ vs.size := by
        rw [hsz, it.fc.1, ← Nat.add_mul]
        exact Nat.mul_le_mul_right _ hroom
      have hrun := run_ap1 (P := P) (ty := ty) ht hi hh it.fc (it.one hk0) hroom hfit
      obtain ⟨c1, c2⟩ := cells (vs := (vs.toList.take (es.length * i.size) ++ news ++ vs.toList.drop (es.length * i.size + news.length)).toArray) (fun j x hj => by
          have hjl := (List.getElem?_eq_some_iff.1 hj).1
          rw [hol] at hj hjl
          simp only [List.getElem?_toArray, List.append_assoc]
          rw [List.getElem?_append_left hjl]
          exact hj) (fun j x hj => by
          have hjl := (List.getElem?_eq_some_iff.1 hj).1
          have htl : (vs.toList.take (es.length * i.size)).length = es.length * i.size := by simp; omega
          simp only [List.getElem?_toArray, List.append_assoc]
          rw [List.getElem?_append_right (by omega), htl, Nat.add_sub_cancel_left, List.getElem?_append_left hjl]
          exact hj)
      obtain ⟨G', hG'⟩ := core_app h it.kl (d := d) hs hnd hd (w' := w.setRow b (vs.toList.take (es.length * i.size) ++ news ++ vs.toList.drop (es.length * i.size + news.length)).toArray) (by simp)
        (fun blk _ hn => setRow_other w b blk _ (fun hbb => hn c (by rw [hbb]; exact hG))) rfl rfl rfl (.inl hG) (fun _ => hG) (setRow_heap w b vs _ tt (0, 0) hh) (by simp; omega) (by rw [← hcap] at o3; omega) it.un c1 c2
        (fun hu => by rw [hu]; exact it.sub (huu hu)) (fun hu => it.src (huu hu)) (fun hu => it.inj (huu hu))
      exact ⟨_, _, G', hrun, hG'⟩
    · have hgrow : c < es.length + items.length := by omega
      have hrun := run_ap2 (P := P) (ty := ty) ht hi hz hfc it.fc hgrow hb hby
      have hge := grownCap_ge w (es.length + items.length) c e
      have holl : olds.length = es.length * i.size := hfc.1
      obtain ⟨c1, c2⟩ := cells (vs := olds.toArray ++ news.toArray ++ Builtin.zeroCells z.cells (grownCap w (es.length + items.length) c e - (es.length + items.length))) (fun j x hj => by
          have hjl := (List.getElem?_eq_some_iff.1 hj).1
          rw [Array.append_assoc, Array.getElem?_append_left (by simpa using hjl)]
          simpa using hj) (fun j x hj => by
          have hjl := (List.getElem?_eq_some_iff.1 hj).1
          rw [Array.append_assoc, Array.getElem?_append_right (by simp; omega), Array.getElem?_append_left (by simp; omega)]
          simp only [List.size_toArray, holl, Nat.add_sub_cancel_left]
          simpa using hj)
      obtain ⟨G', hG'⟩ := core_app h it.kl (d := d) hs hnd hd (b' := w.heap.size) (c' := grownCap w (es.length + items.length) c e) (w' := w.drew.alloc (.cells (olds.toArray ++ news.toArray ++ Builtin.zeroCells z.cells (grownCap w (es.length + items.length) c e - (es.length + items.length))) e)) (by simp)
        (fun blk hb _ => heap_alloc_old w.drew _ blk hb) rfl rfl rfl (.inr (Nat.le_refl _)) (fun hmx => by rw [← hcap] at o3; omega) (heap_alloc_new w.drew _)
        (by simp only [Array.size_append, List.size_toArray, size_zeroCells, hzk, holl, it.fc.1, ← Nat.add_mul]; congr 1; omega) (by rw [← hcap] at o3; omega) it.un c1 c2
        (fun hu => by rw [hu]; exact it.sub (huu hu)) (fun hu => it.src (huu hu)) (fun hu => it.inj (huu hu))
      exact ⟨_, _, G', hrun, hG'⟩
end
end Go.Fd

/-
  FOUNDATION 30: append: the operation. Own work.
-/
namespace Go.Fd

section
variable {P : Program} {F : Fr} {G G' : Gh} {S S' : Sto} {st st1 st2 : St} {a : Act} {w w' : World} {C : Contract} {oper : Oper} {D D2 : Oid → Prop}

theorem ScR.flat {es : Row} (h : ScR es) : FlatR es := fun e he t ht => by
  have := h e he t ht
  cases t with
  | v x => trivial
  | sl z => simp [isSc] at this

/-- Appending to nil, or to a clipped slice. -/
theorem ap_cs (h : Sim F G st a w) {items : Row} {N : Pth → Option (Nat × Nat)} {ui : Bool} {k key : Nat} {yv xv : Value} {news : List Value} {t ty e : TypeId} {i : TypeInfo} {z : Value} {d : Option Nat} (it : IT G st st1 w D items N ui k yv news)
    (ht : P.underlying t = some (.slice e)) (hi : P.info? e = some i) (hz : i.zero = some z) (hik : i.size = k) (hzk : z.cells.size = k) (hby : i.bytes ≤ 1024) (hk0 : 0 < k) (hd : ∀ y, d = some y → y < F.nt)
    {zs : Row} (hx : VR G st.sto w (.cs zs) xv) (hor : zs = [] ∨ items ≠ []) (hb : zs.length + items.length ≤ bigN) (hkz : UnR k zs) (hkey : st.sto (st.lvl, key) = none) (hfl : zs = [] ∨ ui = false ∨ ScR zs) :
    ∃ v w' G', ARun P t ty xv yv w v w' ∧ Sim F G' { setOb st1 (st.lvl, key) (.ar k (zs ++ items) ui (zs.length + items.length) 0) with env := ptd d (.hd (st.lvl, key) [] 0 (zs.length + items.length) none (zs.length + items.length)) st1.env } (a.put d v) w' := by
  subst hik
  obtain ⟨⟨ad, rfl⟩, hrd⟩ := hx
  by_cases hit : items = []
  · subst hit
    have hzs : zs = [] := hor.resolve_right (fun h => h rfl)
    subst hzs
    have hnews : news = [] := List.eq_nil_of_length_eq_zero (by simpa using it.fc.1)
    subst hnews
    let id : Oid := (st.lvl, key)
    let G' : Gh := fun j => if j = id then fun _ => none else G j
    have hG : ∀ p, G' id p = none := fun p => by simp [G']
    have hnd : ¬ D id := fun hD => by
      have := it.kl.was id hD
      rw [hkey] at this
      cases this
    have hno : ∀ b, ¬ own1 G' id (.ar i.size [] ui 0 0) b := fun b ⟨p, c, _, _, hg⟩ => by rw [hG] at hg; cases hg
    refine ⟨_, w, G', run_ap0 ht hi it.fc (Nat.le_refl _), ?_⟩
    exact (h.turn it.kl (id := id) (ob' := .ar i.size [] ui 0 0) (d := d) (x := .hd id [] 0 0 none 0) (G' := G') (w' := w) hnd (.inl rfl) (fun j hj => by simp [G', hj]) (Nat.le_refl _) (fun _ _ _ => rfl) (fun b ho => absurd ho (hno b)) (fun ob ho => by rw [hkey] at ho; cases ho)
      rfl rfl rfl (fun t => ⟨Nat.le_refl _, fun e he => by simp at he, by rw [hG]; simp [capOf], fun p es' _ hg => by
        obtain ⟨rfl, rfl⟩ := getp_nil hg
        unfold rowR
        rw [hG], fun p p' b c c' _ _ _ _ g1 _ => by rw [hG] at g1; cases g1⟩) (fun _ he => by cases he) hd
      (fun t => ⟨⟨_, _, rfl, Nat.le_refl _⟩, i.size, [], ui, 0, 0, by unfold sset; rw [if_pos rfl], Nat.le_refl _, fun _ => ⟨[], i.size, ad, 0, rfl, fun _ => rfl, fun e he => by simp at he, rfl, Nat.le_refl _, fun m hm => by simp at hm, fun _ _ => by rw [hG]; simp [capOf], .inl rfl⟩⟩)).1
  · have hm : 0 < items.length := Nat.pos_of_ne_zero fun h0 => hit (List.eq_nil_of_length_eq_zero h0)
    obtain ⟨olds, hfc, hold⟩ := hrd.fc hk0 hkz
    have hrun := run_ap2 (P := P) (ty := ty) ht hi hz hfc it.fc (by omega) hb hby
    have hge := grownCap_ge w (zs.length + items.length) zs.length e
    have holl : olds.length = zs.length * i.size := hfc.1
    let N' : Pth → Option (Nat × Nat) := fun p => match p with
      | (i, f) :: q => if i < zs.length then none else N ((i - zs.length, f) :: q)
      | [] => none
    have hNo : ∀ {i f : Nat} {q : Pth}, i < zs.length → N' ((i, f) :: q) = none := fun hi => by simp [N', hi]
    have hNn : ∀ {i f : Nat} {q : Pth}, N' ((zs.length + i, f) :: q) = N ((i, f) :: q) := fun {i f q} => by
      show (if zs.length + i < zs.length then _ else _) = _
      rw [if_neg (by omega), Nat.add_sub_cancel_left]
    have split : ∀ {p : Pth} {b1 c1 : Nat}, p ≠ [] → (getp (zs ++ items) p).isSome = true → N' p = some (b1, c1) →
        ∃ i f q, p = (zs.length + i, f) :: q ∧ (getp items ((i, f) :: q)).isSome = true ∧ N ((i, f) :: q) = some (b1, c1) := by
      intro p b1 c1 hp hss hg
      cases p with
      | nil => exact absurd rfl hp
      | cons cd q =>
        obtain ⟨i, f⟩ := cd
        obtain ⟨es2, he2⟩ := Option.isSome_iff_exists.1 hss
        rw [getp_app] at he2
        by_cases hi : i < zs.length
        · rw [hNo hi] at hg; cases hg
        · rw [if_neg hi] at he2
          obtain ⟨m, rfl⟩ : ∃ m, i = zs.length + m := ⟨i - zs.length, by omega⟩
          rw [hNn] at hg
          rw [show zs.length + m - zs.length = m from by omega] at he2
          exact ⟨m, f, q, rfl, by rw [he2]; rfl, hg⟩
    have hflat : ui = true → FlatR zs := fun hu => by
      rcases hfl with rfl | h | h
      · intro e he; simp at he
      · rw [hu] at h; cases h
      · exact h.flat
    have hcat : ∀ {j : Nat} {x : Value}, olds[j]? = some x → (olds.toArray ++ news.toArray ++ Builtin.zeroCells z.cells (grownCap w (zs.length + items.length) zs.length e - (zs.length + items.length)))[j]? = some x := fun {j x} hj => by
      have hjl := (List.getElem?_eq_some_iff.1 hj).1
      rw [Array.append_assoc, Array.getElem?_append_left (by simpa using hjl)]
      simpa using hj
    have hcat2 : ∀ {j : Nat} {x : Value}, news[j]? = some x → (olds.toArray ++ news.toArray ++ Builtin.zeroCells z.cells (grownCap w (zs.length + items.length) zs.length e - (zs.length + items.length)))[zs.length * i.size + j]? = some x := fun {j x} hj => by
      have hjl := (List.getElem?_eq_some_iff.1 hj).1
      rw [Array.append_assoc, Array.getElem?_append_right (by simp; omega), Array.getElem?_append_left (by simp; omega)]
      simp only [List.size_toArray, holl, Nat.add_sub_cancel_left]
      simpa using hj
    obtain ⟨G', hG'⟩ := core_new h it.kl (d := d) (key := key) (k := i.size) (c := grownCap w (zs.length + items.length) zs.length e) (es := zs ++ items) (u := ui) (ty := e) (N := N') hkey hd
      (w' := w.drew.alloc (.cells (olds.toArray ++ news.toArray ++ Builtin.zeroCells z.cells (grownCap w (zs.length + items.length) zs.length e - (zs.length + items.length))) e))
      ⟨by simp, fun b hb => heap_alloc_old w.drew _ b hb, rfl, rfl, rfl⟩ (heap_alloc_new w.drew _)
      (by simp only [Array.size_append, List.size_toArray, size_zeroCells, hzk, holl, it.fc.1, ← Nat.add_mul]; congr 1; omega) (by rw [List.length_append]; exact hge)
      (fun e he => by
        rcases List.mem_append.1 he with he | he
        · exact hkz e he
        · exact it.un e he)
      (fun i0 e0 f t0 h1 h2 => by
        by_cases hil : i0 < zs.length
        · rw [List.getElem?_append_left hil] at h1
          obtain ⟨x, hx, hr⟩ := hold i0 e0 f t0 h1 h2
          exact ⟨x, hcat hx, Rds.cell (Rds.mono it.kl.av (fun _ _ => rfl) hr) fun hu => hflat hu e0 (List.mem_of_getElem? h1) t0 (List.mem_of_getElem? h2)⟩
        · obtain ⟨m, rfl⟩ : ∃ m, i0 = zs.length + m := ⟨i0 - zs.length, by omega⟩
          rw [List.getElem?_append_right (by omega), show zs.length + m - zs.length = m from by omega] at h1
          cases ui with
          | true =>
            obtain ⟨x, hx, hr⟩ := it.cl rfl m e0 f t0 h1 h2
            refine ⟨x, by rw [Nat.add_mul, Nat.add_assoc]; exact hcat2 hx, ?_⟩
            cases t0 with
            | v y => exact hr
            | sl zz =>
              simp only [cellR, if_true, List.nil_append] at hr ⊢
              rw [hNn]
              exact hr
          | false =>
            obtain ⟨x, hx, hr⟩ := it.rd m e0 f t0 h1 h2
            exact ⟨x, by rw [Nat.add_mul, Nat.add_assoc]; exact hcat2 hx, Rds.cell hr fun hu => by cases hu⟩)
      (fun hu i0 f e0 zz q es2 h1 h2 h3 => by
        by_cases hil : i0 < zs.length
        · rw [List.getElem?_append_left hil] at h1
          have := hflat hu e0 (List.mem_of_getElem? h1) _ (List.mem_of_getElem? h2)
          simp only [flatT] at this
          subst this
          obtain ⟨rfl, rfl⟩ := getp_nil h3
          unfold rowR
          simp only [hNo hil]
        · obtain ⟨m, rfl⟩ : ∃ m, i0 = zs.length + m := ⟨i0 - zs.length, by omega⟩
          rw [List.getElem?_append_right (by omega), show zs.length + m - zs.length = m from by omega] at h1
          have := it.sub hu m f e0 zz q es2 h1 h2 h3
          rw [hu]
          exact rowR_keep2 (G := fun _ => N) (id := (0, 0)) (p := (m, f) :: q) (A := fun _ => False) hNn (fun _ r => hNn) (fun hu2 => by cases hu2) (fun b hb => hb.elim) (fun h => by cases h) (fun _ _ _ => rfl) this)
      (fun hu p b1 c1 hp hss hg => by
        obtain ⟨m, f, q, rfl, r1, r2⟩ := split hp hss hg
        exact it.src hu _ b1 c1 (by simp) r1 r2)
      (fun hu p p' b1 c1 c2 hp hp' h1 h2 g1 g2 => by
        obtain ⟨m, f, q, rfl, r1, r2⟩ := split hp h1 g1
        obtain ⟨m', f', q', rfl, s1, s2⟩ := split hp' h2 g2
        have := it.inj hu _ _ b1 c1 c2 (by simp) (by simp) r1 s1 r2 s2
        simp only [List.cons.injEq, Prod.mk.injEq] at this
        rw [this.1.1, this.1.2, this.2])
    rw [List.length_append] at hG'
    exact ⟨_, _, G', hrun, hG'⟩
end
end Go.Fd

/-
  FOUNDATION 31: append: all of it. Own work.
-/
namespace Go.Fd

section
variable {P : Program} {F : Fr} {G G' : Gh} {S S' : Sto} {st st1 st2 : St} {a : Act} {w w' : World} {C : Contract} {oper : Oper} {D D2 : Oid → Prop}

theorem Kl.xv (k : Kl D st st1) {x : X} {v : Value} (h : VR G S w (xv st.env x) v) : VR G S w (xv st1.env x) v := by
  cases x with
  | t n => exact k.vr n G S w v h
  | k u => exact h
  | f i => exact h

theorem IT.mk0 {items : Row} {ui : Bool} {k : Nat} {yv : Value} {news : List Value} (fc : FC w k items.length yv news) (un : UnR k items)
    (rd : ∀ (i : Nat) (e : List Tr) (f : Nat) (t : Tr), items[i]? = some e → e[f]? = some t → ∃ x, news[i * k + f]? = some x ∧ Rds w (Av G st.sto w) x t) (hu : ui = true → FlatR items) :
    IT G st st w (fun _ => False) items (fun _ => none) ui k yv news := by
  refine ⟨Kl.refl st, fc, un, rd, fun hui i e f t hi hf => ?_, fun hui i f e zs q es2 hi hf hq => ?_, fun _ _ _ _ _ _ h => (by cases h), fun _ _ _ _ _ _ _ _ _ _ h => (by cases h)⟩
  · obtain ⟨x, hx, hr⟩ := rd i e f t hi hf
    exact ⟨x, hx, Rds.cell hr fun _ => hu hui e (List.mem_of_getElem? hi) t (List.mem_of_getElem? hf)⟩
  · have := hu hui e (List.mem_of_getElem? hi) _ (List.mem_of_getElem? hf)
    simp only [flatT] at this
    subst this
    obtain ⟨rfl, rfl⟩ := getp_nil hq
    unfold rowR
    rfl

theorem ap_go (h : Sim F G st a w) {items : Row} {N : Pth → Option (Nat × Nat)} {ui : Bool} {k : Nat} {yv xv0 : Value} {news : List Value} {t ty e : TypeId} {i : TypeInfo} {z : Value} {d : Option Nat} {x : X} {loc : List (Nat × Ob)} {K : St → Prop} (it : IT G st st1 w D items N ui k yv news)
    (ht : P.underlying t = some (.slice e)) (hi : P.info? e = some i) (hz : i.zero = some z) (hik : i.size = k) (hzk : z.cells.size = k) (hby : i.bytes ≤ 1024) (hk0 : 0 < k) (hd : ∀ y, d = some y → y < F.nt)
    (hxv : VR G st.sto w (xv st1.env x) xv0) (hfr : freshK (keyOf d) loc 1 → st.sto (st.lvl, keyOf d) = none) (hgo : apgo d k x loc items ui st1 K) :
    ∃ v w' st' G', ARun P t ty xv0 yv w v w' ∧ K st' ∧ Sim F G' st' (a.put d v) w' := by
  obtain ⟨_, hgo⟩ := hgo
  split at hgo
  · rename_i zs hq
    rw [hq] at hxv
    obtain ⟨g1, g2, g3, g4, g5, hk⟩ := hgo
    obtain ⟨v, w', G', h1, h2⟩ := ap_cs (ty := ty) h it ht hi hz hik hzk hby hk0 hd hxv g1 g2 g3 (hfr g4) g5
    rw [it.kl.lvl] at hk
    exact ⟨v, w', _, G', h1, hk, h2⟩
  · rename_i id len s hq
    rw [hq] at hxv
    split at hgo <;> try contradiction
    rename_i k' es u hw ver hs1
    obtain ⟨rfl, rfl, rfl, g1, hk⟩ := hgo
    obtain ⟨hnd, ob0, hs0, hwk⟩ := it.kl.only _ _ hs1
    have hob : ob0 = .ar k' es u s ver := by cases hwk; rfl
    subst hob
    by_cases huu : u = true → ui = true
    · obtain ⟨v, w', G', h1, h2⟩ := ap_hd (ty := ty) h it ht hi hz hik hzk hby hk0 hd hs0 hnd hxv huu g1
      have : (u && ui) = u := by cases u <;> cases ui <;> simp_all
      rw [this] at hk
      exact ⟨v, w', _, G', h1, hk, h2⟩
    · have huu2 : u = true ∧ ui = false := by cases u <;> cases ui <;> simp_all
      obtain ⟨rfl, rfl⟩ := huu2
      have hkl := h.kl it.kl
      have hfz := hkl.1.freeze hs1
      have hx1 := hkl.2.vr (.hd id [] 0 es.length none s) xv0 hnd hxv
      have hx2 := hfz.2.vr (.hd id [] 0 es.length none s) xv0 (fun h => h) hx1
      have hs2 : (setOb st1 id (.ar k' es false s ver)).sto id = some (.ar k' es false s ver) := by rw [setOb_sto]; unfold sset; rw [if_pos rfl]
      have it2 : IT G (setOb st1 id (.ar k' es false s ver)) (setOb st1 id (.ar k' es false s ver)) w (fun _ => False) items (fun _ => none) false k' yv news :=
        IT.mk0 it.fc it.un (fun i0 e0 f t0 h1 h2 => by
          obtain ⟨x, hx, hr⟩ := it.rd i0 e0 f t0 h1 h2
          exact ⟨x, hx, Rds.mono hfz.2.av hfz.2.same hr⟩) (fun h => by cases h)
      obtain ⟨v, w', G', h1, h2⟩ := ap_hd (ty := ty) hfz.1 it2 ht hi hz hik hzk hby hk0 hd hs2 (fun h => h) hx2 (fun h => by cases h) g1
      rw [setOb_setOb, setOb_env] at h2
      exact ⟨v, w', _, G', h1, hk, h2⟩
  · contradiction

/-- The cells of a slice of an object. -/
theorem hd_fc2 (h : SOk G S w) {id : Oid} {k : Nat} {es es' : Row} {u : Bool} {hw ver off len s : Nat} {p : Pth} {cap : Option Nat} {v : Value} (hs : S id = some (.ar k es u hw ver)) (hg : getp es p = some es') (hst : stamp p s hw ver u) (hv : hdR G S id p off len cap s v) (hl : off + len ≤ es'.length) {k0 : Nat} (hk0 : UnR k0 (cut es' off len)) :
    ∃ cs, FC w k0 len v cs ∧ ∀ (i : Nat) (e : List Tr) (f : Nat) (t : Tr), (cut es' off len)[i]? = some e → e[f]? = some t → ∃ x, cs[i * k0 + f]? = some x ∧ cellR G w (Av G S w) id p u (off + i) f x t := by
  obtain ⟨_, k2, es2, u2, hw2, ver2, hs2, _, hrel⟩ := hv
  rw [hs] at hs2; cases hs2
  obtain ⟨es3, k', ad, c, hg3, _, hun, rfl, hlc, _, _, hor⟩ := hrel hst
  rw [hg] at hg3; cases hg3
  by_cases h0 : len = 0
  · subst h0
    refine ⟨[], ⟨by simp, ad, c, rfl, ?_⟩, fun i e f t h => by simp [cut] at h⟩
    cases ad with
    | none => exact .inr ⟨rfl, rfl⟩
    | some ad => exact .inl ⟨ad, rfl, fun j u hj => by simp at hj⟩
  · have hr := row_at h hs hst hg
    unfold rowR at hr
    rcases hor with hz | ⟨_, hz⟩ | ⟨b, cc, hG, rfl, hoc⟩
    · omega
    · exact absurd hz h0
    · rw [hG] at hr
      obtain ⟨k2, vs, ty, h1, h2, h3, h4, h5, h6⟩ := hr
      have hlt : off < es'.length := by omega
      have hm := List.mem_of_getElem? (List.getElem?_eq_getElem hlt)
      have hkk : k2 = k' := by rw [← h2 _ hm, hun _ hm]
      subst hkk
      have hcl : (cut es' off len).length = len := cut_length hl
      have hk2 : k2 = k0 := by
        have : (cut es' off len)[0]? = some es'[off] := by
          rw [cut_get, if_pos (by omega)]
          simp [hlt]
        rw [← hk0 _ (List.mem_of_getElem? this), ← h2 _ hm]
      subst hk2
      have hll : (off + len) * k2 ≤ vs.size := by rw [h4]; exact Nat.mul_le_mul_right _ (by omega)
      rw [Nat.add_mul] at hll
      refine ⟨(vs.toList.drop (off * k2)).take (len * k2), ⟨by simp; omega, _, c, rfl, .inl ⟨_, rfl, fun j u hj => ?_⟩⟩, fun i e f t hi hf => ?_⟩
      · rw [List.getElem?_take] at hj
        split at hj <;> try contradiction
        rw [List.getElem?_drop] at hj
        rw [add_mk, cell_of_row w b _ vs ty (0, 0) h3]
        simpa using hj
      · rw [cut_get] at hi
        split at hi <;> try contradiction
        rename_i hil
        obtain ⟨x, hx, hc⟩ := h6 (off + i) e f t hi hf
        have hfl := (List.getElem?_eq_some_iff.1 hf).1
        rw [h2 e (List.mem_of_getElem? hi)] at hfl
        refine ⟨x, ?_, hc⟩
        rw [List.getElem?_take, if_pos (idx_lt hil hfl), List.getElem?_drop]
        rw [Nat.add_mul] at hx
        rw [← Nat.add_assoc]
        simpa using hx
end
end Go.Fd

/-
  FOUNDATION 32: append: the loud operation. Own work.
-/
namespace Go.Fd

section
variable {P : Program} {F : Fr} {G G' : Gh} {S S' : Sto} {st st1 st2 : St} {a : Act} {w w' : World} {C : Contract} {oper : Oper} {D D2 : Oid → Prop}

theorem ew_ap (h : Sim F G st a w) {k md : Nat} {x y : X} {d : Option Nat} {K : St → Prop} (hd : d = oper.dst) (hdn : ∀ y, d = some y → y < F.nt) (hc : chkO P (.ap k md x y) oper.op = true) (he : ew C d st K (.ap k md x y)) : LOk P F a w oper K := by
  subst hd
  simp only [chkO] at hc
  split at hc <;> try contradiction
  rename_i args argTypes ho
  split at hc <;> try contradiction
  rename_i xo yo t t2 hargs htys
  simp only [Bool.and_eq_true, beq_iff_eq] at hc
  obtain ⟨⟨⟨rfl, hcx⟩, hcy⟩, hc⟩ := hc
  split at hc <;> try contradiction
  rename_i e hel
  split at hc <;> try contradiction
  rename_i i hi
  simp only [Bool.and_eq_true, beq_iff_eq, decide_eq_true_eq] at hc
  obtain ⟨⟨⟨hik, hk0⟩, hby⟩, hz⟩ := hc
  split at hz <;> try contradiction
  rename_i z hz0
  have hzk : z.cells.size = k := by simpa using hz
  have ht := elemT_eq hel
  have hargs' : args = #[xo, yo] := by cases args; simpa using hargs
  have htys' : argTypes = #[t, t] := by cases argTypes; simpa using htys
  subst hargs'
  subst htys'
  have hx := h.x hcx
  have hy := h.x hcy
  have fin : (∃ v w' st' G', ARun P t oper.type (a.eval xo) (a.eval yo) w v w' ∧ K st' ∧ Sim F G' st' (a.put oper.dst v) w') → LOk P F a w oper K := by
    rintro ⟨v, w', st', G', hr, hk, hs⟩
    unfold ARun at hr
    refine Res.of_run (v := v) (w' := w') ?_ ⟨st', G', hk, hs⟩
    unfold execOp
    simp only [ho, resolve, invoke, builtin, Sem.run_bind, Sem.run_pure, Result.andThen_ok, List.map_toArray, List.map_cons, List.map_nil, hr]
  have hfr0 : freshK (keyOf oper.dst) st.loc 1 → st.sto (st.lvl, keyOf oper.dst) = none := fresh_sto
  -- trees
  have trees : ∀ {es : Row} {ui : Bool}, Rds w (Av G st.sto w) (a.eval yo) (.sl es) → (ui = true → ScR es) → apgo oper.dst k x st.loc es ui st K → LOk P F a w oper K := fun {es ui} hr hu hgo => by
    obtain ⟨news, it⟩ := IT.trees (ui := ui) hr hk0 hgo.1 (fun h => (hu h).flat)
    exact fin (ap_go h it ht hi hz0 hik hzk hby hk0 hdn hx hfr0 hgo)
  simp only [ew] at he
  split at he <;> try contradiction
  · rename_i es hq
    rw [hq] at hy
    split at he
    · exact trees hy (fun _ => he.1) he.2
    · exact trees hy (fun h => by cases h) he.2
  · rename_i es hq
    rw [hq] at hy
    split at he
    · exact trees hy.2 (fun _ => he.1) he.2
    · exact trees hy.2 (fun h => by cases h) he.2
  · rename_i id2 p2 off2 len2 cap2 s2 hq
    rw [hq] at hy
    split at he
    · obtain ⟨rfl, rfl, rfl, hl2, he⟩ := he
      split at he <;> try contradiction
      rename_i k2 zs u2 hw2 ver2 hs2
      obtain ⟨rfl, rfl, hgo⟩ := he
      cases u2 with
      | true =>
        obtain ⟨news, it⟩ := IT.moved h hs2 hl2 hy hk0 hgo.1
        exact fin (ap_go h it ht hi hz0 hik hzk hby hk0 hdn (it.kl.xv hx) hfr0 hgo)
      | false =>
        obtain ⟨stp, hr⟩ := kill_tree h hs2 hl2 hy
        obtain ⟨news, it⟩ := IT.trees (ui := false) hr hk0 hgo.1 (fun h => by cases h)
        refine fin (ap_go stp.sim it ht hi hz0 hik hzk hby hk0 hdn (stp.sim.x hcx) (fun hf => ?_) hgo)
        show (kill id2 st).sto (st.lvl, keyOf oper.dst) = none
        rw [kill_in rfl hl2]
        split
        · rfl
        · rw [hfr0 hf]; rfl
    · split at he
      · unfold rdh at he
        split at he <;> try contradiction
        rename_i k2 es u2 hw2 ver2 hs2
        obtain ⟨es', hg, hst, hl, hsc, hgo⟩ := he
        obtain ⟨cs, fc, hcell⟩ := hd_fc2 h.ok hs2 hg hst hy hl hgo.1
        have it : IT G st st w (fun _ => False) (cut es' off2 len2) (fun _ => none) true k (a.eval yo) cs := IT.mk0 (by rw [cut_length hl]; exact fc) hgo.1 (fun i0 e0 f t0 h1 h2 => by
          obtain ⟨x, hx, hr⟩ := hcell i0 e0 f t0 h1 h2
          refine ⟨x, hx, ?_⟩
          have := hsc e0 (List.mem_of_getElem? h1) t0 (List.mem_of_getElem? h2)
          cases t0 with
          | v y => obtain ⟨rfl, hs⟩ := hr; exact .v _ hs
          | sl z => simp [isSc] at this) (fun _ => hsc.flat)
        exact fin (ap_go h it ht hi hz0 hik hzk hby hk0 hdn hx hfr0 hgo)
      · obtain ⟨_, rfl, he⟩ := he
        split at he <;> try contradiction
        rename_i k2 es u2 hw2 ver2 hs2
        obtain ⟨rfl, hl, hgo⟩ := he
        have hfz := h.freeze hs2
        have hy2 := hfz.2.vr (.hd id2 [] off2 len2 cap2 s2) (a.eval yo) (fun h => h) hy
        have hs2' : (setOb st id2 (.ar k2 es false s2 ver2)).sto id2 = some (.ar k2 es false s2 ver2) := by rw [setOb_sto]; unfold sset; rw [if_pos rfl]
        obtain ⟨cs, fc, hcell⟩ := hd_fc2 hfz.1.ok hs2' (p := []) rfl (rfl : stamp [] s2 s2 ver2 false) hy2 hl hgo.1
        have it : IT G (setOb st id2 (.ar k2 es false s2 ver2)) (setOb st id2 (.ar k2 es false s2 ver2)) w (fun _ => False) (cut es off2 len2) (fun _ => none) false k (a.eval yo) cs := IT.mk0 (by rw [cut_length hl]; exact fc) hgo.1 (fun i0 e0 f t0 h1 h2 => by
          obtain ⟨x, hx, hr⟩ := hcell i0 e0 f t0 h1 h2
          refine ⟨x, hx, ?_⟩
          cases t0 with
          | v y => obtain ⟨rfl, hs⟩ := hr; exact .v _ hs
          | sl z => simpa [cellR] using hr) (fun h => by cases h)
        refine fin (ap_go hfz.1 it ht hi hz0 hik hzk hby hk0 hdn (hfz.1.x hcx) (fun hf => ?_) hgo)
        rw [setOb_lvl, setOb_sto]
        unfold sset
        rw [if_neg (fun hh => by have h1 := hfr0 hf; rw [hh, hs2] at h1; cases h1)]
        exact hfr0 hf
end
end Go.Fd

/-
  FOUNDATION 33: from what an operation gives to the next state. Own work.
-/
namespace Go.Fd

theorem addO_sto : ∀ (obs : List Ob) (b : Nat) (st : St), ({ st with loc := addO b obs st.loc } : St).sto = addS st.sto st.lvl b obs
  | [], b, st => rfl
  | o :: r, b, st => by
    have h1 := addO_sto r (b + 1) { st with loc := ptO b o st.loc }
    have h2 := setOb_sto st (st.lvl, b) o
    have h3 : setOb st (st.lvl, b) o = { st with loc := ptO b o st.loc } := by unfold setOb; simp
    rw [h3] at h2
    simp only [addO, addS]
    rw [← h2]
    exact h1

section
variable {P : Program} {F : Fr} {G G' : Gh} {st : St} {a : Act} {w w' : World} {C : Contract} {oper : Oper}

/-- The state after an operation that turned nothing. -/
theorem Sim.got (h : Sim F G st a w) {d : Option Nat} {key : Nat} {x : IV} {obs : List Ob} {v : Value} (hg : Got G st.sto w st.lvl key x obs v w') (hd : ∀ y, d = some y → y < F.nt) :
    ∃ G', Sim F G' { st with env := ptd d x st.env, loc := addO key obs st.loc } (a.put d v) w' := by
  obtain ⟨G', h1, h2, h3⟩ := hg
  have hsto : ({ st with env := ptd d x st.env, loc := addO key obs st.loc } : St).sto = addS st.sto st.lvl key obs := by rw [← addO_sto]; rfl
  refine ⟨G', by cases d <;> exact h.dfr, by cases d <;> simp [Act.put, h.sz], fun s => ?_, by rw [hsto]; exact h1, h.lvl, h.outl, by rw [hsto]; exact h.fr.trans h3 (by show F.lvl ≤ st.lvl + 1; rw [h.lvl]; omega)⟩
  rw [hsto, Act.put_get a d v s (by rw [h.sz]; exact hd)]
  have h0 := h3.stab _ _ (h.men_lt (h.env s)) (h.env s)
  cases d with
  | none => simpa [ptd] using h0
  | some d =>
    simp only [ptd, Option.some.injEq]
    rw [lk_pt]
    by_cases hs : s = d
    · rw [if_pos hs, if_pos hs.symm]; exact h2
    · rw [if_neg hs, if_neg (fun e => hs e.symm)]; exact h0
end
end Go.Fd

/-
  FOUNDATION 34: all operations that turn nothing; calls that see the caller's objects. Own work.
-/
namespace Go.Fd

section
variable {P : Program} {F : Fr} {G G' : Gh} {st : St} {a : Act} {w w' : World} {oper : Oper} {K : Kind} {b : Nat}

theorem totrs_ta {l : List IV} {vs : List Value} {ts : List Tr} {q : Bool} (h : VRs G st.sto w l vs) (ht : totrs l = some (ts, q)) : ∀ (j : Nat) (t : Tr), ts[j]? = some t → ∃ x, vs[j]? = some x ∧ Rds w (Av G st.sto w) x t := fun j t hj => by
  obtain ⟨h1, h2, _⟩ := totrs_vr h ht
  have hlt : j < vs.length := by rw [← h1]; exact (List.getElem?_eq_some_iff.1 hj).1
  exact ⟨vs[j], List.getElem?_eq_getElem hlt, h2 j t _ hj (List.getElem?_eq_getElem hlt)⟩

/-- A variable that is only read. -/
theorem ev_bt (h : Sim F G st a w) {C : Contract} {l : Nat} {x : X} (hc : chkO P (.bt x) oper.op = true) (he : ev C (xv st.env) st.sto K (.bt x)) : EvOk P G st a w K l b oper := by
  simp only [chkO] at hc
  split at hc <;> try contradiction
  rename_i t y ho
  have hx := h.x hc
  simp only [ev] at he
  split at he <;> try contradiction
  rename_i c hcc
  split at he <;> try contradiction
  rename_i ts q hts
  obtain ⟨hvs, _⟩ := cellsOf_vr hx hcc
  have htt := totrs_ta hvs hts
  have e := Ext.alloc w (.cells (a.eval y).cells t)
  refine Res.of_run (v := .pointer (some ⟨w.heap.size, 0, none⟩)) (w' := w.alloc (.cells (a.eval y).cells t)) (by simp [execOp, ho, Instr.box, newVar, newRow, newObj, Sem.run]) ⟨_, _, he, G, h.ok.ext e, ?_, Frm.of_ext e⟩
  have hnew := heap_alloc_new w (.cells (a.eval y).cells t)
  refine ⟨w.heap.size, 0, fun j => ((a.eval y).cells[j]?).getD undef, ⟨?_, fun i ob hs ho => ?_⟩, rfl, fun j u hj => ?_⟩
  · exact (Array.getElem?_eq_some_iff.1 hnew).1
  · have := own_lt (h.ok.obs i ob hs) ho; omega
  · obtain ⟨u1, h1, h2⟩ := htt j u hj
    have h1' : (a.eval y).cells[j]? = some u1 := by simpa using h1
    rw [Nat.zero_add, cell_of_row _ _ j (a.eval y).cells t (0, 0) hnew, h1']
    have h3 := h2.mono (A' := Av G st.sto (w.alloc (.cells (a.eval y).cells t))) (w' := w.alloc (.cells (a.eval y).cells t)) (fun blk hb => Av_ext e blk hb) (fun blk hb => e.heap blk hb.1)
    have hf : ((a.eval y).cells[j]?).getD undef = u1 := by rw [h1']; rfl
    refine ⟨by dsimp only; rw [hf], ?_⟩
    dsimp only
    rw [hf]
    exact h3

/-- A slice of an array in memory that is only read. -/
theorem ev_sa (h : Sim F G st a w) {C : Contract} {l n : Nat} {x : X} (hc : chkO P (.sa n x) oper.op = true) (he : ev C (xv st.env) st.sto K (.sa n x)) : EvOk P G st a w K l b oper := by
  simp only [chkO] at hc
  split at hc <;> try contradiction
  rename_i t y ho
  simp only [Bool.and_eq_true] at hc
  have hx := h.x hc.1
  obtain ⟨_, hc⟩ := hc
  split at hc <;> try contradiction
  rename_i m e hu
  simp only [Bool.and_eq_true, beq_iff_eq] at hc
  obtain ⟨rfl, hsz⟩ := hc
  simp only [ev] at he
  split at he <;> try contradiction
  rename_i cells hq
  rw [hq] at hx
  obtain ⟨b0, o, f, hb, hv, hcell⟩ := hx
  obtain ⟨hle, he⟩ := he
  have hlen : ((cells.take m).map fun c => [c]).length = m := by simp [hle]
  have hget : ∀ (i : Nat) (ee : List Tr) (j : Nat) (t : Tr), ((cells.take m).map fun c => [c])[i]? = some ee → ee[j]? = some t → j = 0 ∧ cells[i]? = some t := fun i ee j t h1 h2 => by
    rw [List.getElem?_map, List.getElem?_take] at h1
    split at h1
    · cases hci : cells[i]? with
      | none => rw [hci] at h1; cases h1
      | some c =>
        rw [hci] at h1
        simp only [Option.map_some, Option.some.injEq] at h1
        subst h1
        cases j with
        | zero => simp at h2; exact ⟨rfl, by rw [h2]⟩
        | succ j => simp at h2
    · cases h1
  have hr := Rds.sl (w := w) (A := Av G st.sto w) b0 o m 1 ((cells.take m).map fun c => [c]) (fun i j => f i) hb (fun ee hee => by obtain ⟨c, _, rfl⟩ := List.mem_map.1 hee; rfl) (by rw [hlen]; exact Nat.le_refl _)
    (fun i ee j t h1 h2 => by
      obtain ⟨rfl, hci⟩ := hget i ee j t h1 h2
      rw [Nat.mul_one, Nat.add_zero]
      exact (hcell i t hci).1)
    (fun i ee j t h1 h2 => (hcell i t (hget i ee j t h1 h2).2).2)
  rw [hlen] at hr
  refine EvOk.pure h (v := .slice (some ⟨b0, o, none⟩) m m) ?_ (x := .cs _) ⟨⟨_, by rw [hlen]⟩, hr⟩ he
  have hb := run_bounds (P := P) (w := w) (isS := false) (lo := none) (hi := none) (mx := none) (len := m) (cap := m) (A := 0) (B := m) (M := m) (.inl ⟨rfl, rfl⟩) (.inl ⟨rfl, rfl, rfl⟩) (.inl ⟨rfl, rfl⟩) (Nat.zero_le _) (Nat.le_refl _) (Nat.le_refl _)
  simp only [execOp, ho, Instr.sliceAt, Sem.run_bind, run_underlying hu, Result.andThen_ok, hv, Instr.sureAddr, hb, run_szT hsz, Sem.run_pure, Option.map_none]
  congr 3
  simp only [Nat.zero_mul, Addr.add]
  simp

theorem byR_spec : ∀ {es : Row} {l : List UInt8}, byR es = some l → ∃ ns : List Int, es = ns.map (fun n => [Tr.v (.int .u8 n)]) ∧ l = ns.map fun n => UInt8.ofNat n.toNat
  | [], l, h => by cases h; exact ⟨[], rfl, rfl⟩
  | e :: r, l, h => by
    unfold byR at h
    split at h
    · rename_i heq; cases heq
    · rename_i n r' heq
      cases heq
      cases hr : byR r with
      | none => rw [hr] at h; cases h
      | some l' =>
        rw [hr] at h
        cases h
        obtain ⟨ns, h1, h2⟩ := byR_spec hr
        exact ⟨n :: ns, by rw [h1]; rfl, by rw [h2]; rfl⟩
    · cases h
theorem run_bytes {A : Nat → Prop} {v : Value} {es : Row} {l : List UInt8} {src dst e : TypeId} (hs : P.underlying src = some (.slice e)) (he : P.underlying e = some (.int .u8)) (hd : P.underlying dst = some .string) (h : Rds w A v (.sl es)) (hl : byR es = some l) :
    (convert src dst v).run P w = .ok (.string ⟨l.toArray⟩) w := by
  obtain ⟨ns, rfl, rfl⟩ := byR_spec hl
  generalize ht : Tr.sl (ns.map fun n => [Tr.v (.int .u8 n)]) = t at h
  cases h with
  | v x h => cases ht
  | nil ad c =>
    have h0 : ns = [] := by simpa using ht
    subst h0
    cases ad with
    | none => exact run_convert_bytes_nil w src e hs he 0 c dst hd
    | some ad =>
      rw [run_convert_bytes_string w src dst e _ 0 c hs he hd, run_bytesToString w ad 0 c [] (by simpa using run_loadCells_list (P := P) w ad [] (fun j v h => by simp at h))]
      rfl
  | sl b0 o c k es f hA hk hlc hcell hr =>
    cases ht
    have hk1 : ns = [] ∨ k = 1 := by
      cases ns with
      | nil => exact .inl rfl
      | cons n r => right; have := hk [Tr.v (.int .u8 n)] (by simp); simpa using this.symm
    have := run_convert_bytes_arg (P := P) w src e hs he b0 o (ns.map fun n => [Tr.v (.int .u8 n)]).length c ns (by simp) (fun i hi => by
      have hi : i < ns.length := by simpa using hi
      rcases hk1 with h0 | rfl
      · subst h0; simp at hi
      · have h1 : (ns.map fun n => [Tr.v (.int .u8 n)])[i]? = some [Tr.v (.int .u8 ns[i])] := by simp [hi]
        have h2 := hcell i _ 0 _ h1 rfl
        have h3 := hr i _ 0 _ h1 rfl
        rw [Nat.mul_one, Nat.add_zero] at h2
        rw [h2]
        generalize f i 0 = fv at h3
        cases h3
        simp [List.getD, hi]) dst hd
    rw [this]
    rfl
theorem ev_sb (h : Sim F G st a w) {C : Contract} {l : Nat} {x : X} (hc : chkO P (.sb x) oper.op = true) (he : ev C (xv st.env) st.sto K (.sb x)) : EvOk P G st a w K l b oper := by
  simp only [chkO] at hc
  split at hc <;> try contradiction
  rename_i s d y ho
  simp only [Bool.and_eq_true] at hc
  obtain ⟨⟨hcx, hd⟩, hs⟩ := hc
  split at hd <;> try contradiction
  rename_i hd'
  split at hs <;> try contradiction
  rename_i e hel
  split at hs <;> try contradiction
  rename_i hu8
  have hx := h.x hcx
  have fin : ∀ {A : Nat → Prop} {es : Row} {bs : List UInt8}, Rds w A (a.eval y) (.sl es) → byR es = some bs → pureK K (iS ⟨bs.toArray⟩) → EvOk P G st a w K l b oper := fun hr hb hK => by
    refine EvOk.pure h (v := .string _) ?_ (VR.mk rfl) hK
    have := run_bytes (P := P) (elemT_eq hel) hu8 hd' hr hb
    simp only [execOp, ho, Sem.run_bind, this, Result.andThen_ok, Sem.run_pure]
  simp only [ev] at he
  split at he <;> try contradiction
  · rename_i es hq
    rw [hq] at hx
    obtain ⟨bs, h1, h2⟩ := he
    exact fin hx h1 h2
  · rename_i es hq
    rw [hq] at hx
    obtain ⟨bs, h1, h2⟩ := he
    exact fin hx.2 h1 h2
  · rename_i id p off len cap s0 hq
    rw [hq] at hx
    unfold rdh at he
    split at he <;> try contradiction
    rename_i k es u hw ver hs0
    obtain ⟨es', hg, hst, hle, bs, h1, h2⟩ := he
    exact fin (hd_reads (A := fun _ => True) h.ok (fun _ _ _ => trivial) hs0 (fun _ _ => trivial) hx hst hg hle).1 h1 h2

theorem ev_all (h : Sim F G st a w) : ∀ (o : O), loud o = false → (∀ mk obs, K mk obs → Fresh st.sto st.lvl b (obs st.lvl b).length) → chkO P o oper.op = true → ev (Sem P) (xv st.env) st.sto K o → EvOk P G st a w K st.lvl b oper
  | .mv x none, _, _, hc, he => ev_mv h hc he
  | .mv x (some k), _, hf, hc, he => ev_mvn h hf hc he
  | .bx x, _, hf, hc, he => ev_bx h rfl hf hc he
  | .al z nz, _, hf, hc, he => ev_al h hf hc he
  | .bd z ps nz, _, hf, hc, he => ev_bd h hf hc he
  | .bs k n z ps, _, hf, hc, he => ev_bs h hf hc he
  | .bw .., hl, _, _, _ => by cases hl
  | .ld none p, _, _, hc, he => ev_ld1 h hc he
  | .ld (some m) p, _, _, hc, he => ev_ldm h hc he
  | .st .., hl, _, _, _ => by cases hl
  | .bi op w x y, _, _, hc, he => ev_bi h hc he
  | .qa neg ks x y, _, _, hc, he => ev_qa h hc he
  | .nt x, _, _, hc, he => ev_nt h hc he
  | .ng x, _, _, hc, he => ev_ng h hc he
  | .cv c x, _, _, hc, he => ev_cv h hc he
  | .mf f cs, _, _, hc, he => ev_mf h hc he
  | .ms k z l, _, hf, hc, he => ev_ms h hf hc he
  | .sx k x lo hi mx, _, _, hc, he => ev_sx h hc he
  | .ss x lo hi, _, _, hc, he => ev_ss h hc he
  | .fa off p, _, _, hc, he => ev_fa h hc he
  | .fd off m x, _, _, hc, he => ev_fd h hc he
  | .ia k x i, _, _, hc, he => ev_ia h hc he
  | .ja k n p i, _, _, hc, he => ev_ja h hc he
  | .ix x i, _, _, hc, he => ev_ix h hc he
  | .jx k n m x i, _, _, hc, he => ev_jx h hc he
  | .ln x, _, _, hc, he => ev_ln h hc he
  | .lg x, _, _, hc, he => ev_lg h hc he
  | .la n, _, _, hc, he => ev_la h hc he
  | .ap .., hl, _, _, _ => by cases hl
  | .mm mx x y, _, _, hc, he => ev_mm h hc he
  | .ex i x, _, _, hc, he => ev_ex h hc he
  | .pk c x y, _, _, hc, he => ev_pk h hc he
  | .ca .pure imp f xs, _, hf, hc, he => ev_ca h rfl hf hc he
  | .ca .same .., hl, _, _, _ => by cases hl
  | .ca .any .., hl, _, _, _ => by cases hl
  | .nc x, _, _, hc, he => ev_nc h hc he
  | .bt x, _, _, hc, he => ev_bt h hc he
  | .sa n x, _, _, hc, he => ev_sa h hc he
  | .sb x, _, _, hc, he => ev_sb h hc he

theorem freshK_spec {st : St} : ∀ {n b : Nat}, freshK b st.loc n → Fresh st.sto st.lvl b n
  | 0, _, _, j, hj => by omega
  | n + 1, b, h, j, hj => by
    cases j with
    | zero => rw [Nat.add_zero, sto_in rfl]; exact h.1
    | succ j =>
      have := freshK_spec h.2 j (by omega)
      rwa [show b + 1 + j = b + (j + 1) from by omega] at this

theorem arg1_vr {S : Sto} {x : IV} {v : Value} (h : VR G S w x v) : VR G S w (arg1 x) v := by
  unfold arg1
  split
  · exact h.2
  · exact h
theorem arg1s_vr {S : Sto} : ∀ {l : List IV} {vs : List Value}, VRs G S w l vs → VRs G S w (l.map arg1) vs
  | [], _, h => h
  | x :: r, _, h => by
    obtain ⟨v, vr, rfl, h1, h2⟩ := h
    exact ⟨v, vr, rfl, arg1_vr h1, arg1s_vr h2⟩

/-- A call that leaves the caller's objects as they are. -/
theorem ew_same (h : Sim F G st a w) {imp : Bool} {f : X} {xs : List X} {d : Option Nat} {Kw : St → Prop} (hd : d = oper.dst) (hdn : ∀ y, d = some y → y < F.nt) (hc : chkO P (.ca .same imp f xs) oper.op = true)
    (he : ew (Sem P) d st Kw (.ca .same imp f xs)) : LOk P F a w oper Kw := by
  subst hd
  simp only [chkO] at hc
  split at hc <;> try contradiction
  rename_i g args at1 ho
  simp only [Bool.and_eq_true] at hc
  have hg := h.x hc.1
  have hargs := h.xs hc.2
  simp only [ew] at he
  split at he <;> try contradiction
  rename_i fid caps hq
  obtain ⟨r, ⟨hr, ⟨fn, hf, hb, hn⟩, hcall⟩, hfr, hk⟩ := he
  rw [hq] at hg
  simp only [VR] at hg
  obtain ⟨cvs, hg, hcv⟩ := hg
  have hcl := h.clean
  have hrun := run_call (P := P) (w := w) (caps := cvs) ho hg hf hb hn
  have hc := hcall hcl G w (args.toList.map a.eval ++ cvs) h.ok (VRs_append (arg1s_vr hargs) hcv)
  refine Res.of_enter hrun ?_
  have harr : (args.map a.eval ++ cvs.toArray) = (args.toList.map a.eval ++ cvs).toArray := by cases args; simp
  rw [harr]
  refine hc.mono ?_
  rintro e w' ⟨v, G1, rfl, h1, h2, _, h3⟩
  have hgot := got_any (l := st.lvl) (b := keyOf oper.dst) (imp := imp) hr hcl h1 h2 h3 (freshK_spec hfr)
  obtain ⟨G', hG'⟩ := h.got hgot hdn
  exact ⟨v, rfl, _, G', hk, hG'⟩
end
end Go.Fd

/-
  FOUNDATION 35: calls that turn the caller's objects; all loud operations; one operation with its guard. Own work.
-/
namespace Go.Fd

section
variable {P : Program} {F : Fr} {G G' : Gh} {st : St} {a : Act} {w w' : World} {oper : Oper} {K : Kind} {b : Nat}

/-- The state after a call that turned objects. -/
theorem Sim.gotA (h : Sim F G st a w) {loc' : List (Nat × Ob)} {out' : Sto} {d : Option Nat} {key : Nat} {x : IV} {obs : List Ob} {v : Value} (hg : GotA G st.sto (packS st.lvl loc' out') w st.lvl key x obs v w')
    (hcl : ∀ id ob, packS st.lvl loc' out' id = some ob → id.1 < st.lvl + 1) (ho : ∀ i, i.1 = st.lvl → out' i = st.out i) (hd : ∀ y, d = some y → y < F.nt) :
    ∃ G', Sim F G' { st with env := ptd d x st.env, loc := addO key obs loc', out := out' } (a.put d v) w' := by
  obtain ⟨G', h1, h2, h3⟩ := hg
  have hsto : ({ st with env := ptd d x st.env, loc := addO key obs loc', out := out' } : St).sto = addS (packS st.lvl loc' out') st.lvl key obs := by
    have := addO_sto obs key { st with loc := loc', out := out' }
    exact this
  refine ⟨G', by cases d <;> exact h.dfr, by cases d <;> simp [Act.put, h.sz], fun s => ?_, by rw [hsto]; exact h1, h.lvl, ?_, by rw [hsto]; exact h.fr.trans h3 (by show F.lvl ≤ st.lvl + 1; rw [h.lvl]; omega)⟩
  · rw [hsto, Act.put_get a d v s (by rw [h.sz]; exact hd)]
    have h0 := h3.stab _ _ (h.men_lt (h.env s)) (h.env s)
    cases d with
    | none => simpa [ptd] using h0
    | some d =>
      simp only [ptd, Option.some.injEq]
      rw [lk_pt]
      by_cases hs : s = d
      · rw [if_pos hs, if_pos hs.symm]; exact h2
      · rw [if_neg hs, if_neg (fun e => hs e.symm)]; exact h0
  · intro id ob hs
    have hs : out' id = some ob := hs
    have hn : id.1 ≠ st.lvl := fun hn => by
      rw [ho id hn] at hs
      have := h.outl id ob hs
      omega
    have := hcl id ob (by unfold packS; rw [if_neg hn]; exact hs)
    show id.1 < st.lvl
    omega

/-- What is fresh in a list of objects. -/
theorem freshK_sto {lvl : Nat} {loc : List (Nat × Ob)} {out : Sto} : ∀ {n b : Nat}, freshK b loc n → Fresh (packS lvl loc out) lvl b n := fun {n b} h =>
  freshK_spec (st := ⟨lvl, [], loc, out⟩) h

/-- A call that turns the caller's objects. -/
theorem ew_any (h : Sim F G st a w) {imp : Bool} {f : X} {xs : List X} {d : Option Nat} {Kw : St → Prop} (hd : d = oper.dst) (hdn : ∀ y, d = some y → y < F.nt) (hc : chkO P (.ca .any imp f xs) oper.op = true)
    (he : ew (Sem P) d st Kw (.ca .any imp f xs)) : LOk P F a w oper Kw := by
  subst hd
  simp only [chkO] at hc
  split at hc <;> try contradiction
  rename_i g args at1 ho
  simp only [Bool.and_eq_true] at hc
  have hg := h.x hc.1
  have hargs := h.xs hc.2
  simp only [ew] at he
  split at he <;> try contradiction
  rename_i fid caps hq
  obtain ⟨r, loc', out', hou, ⟨hr, ⟨fn, hf, hb, hn⟩, hcall⟩, hfr, hk⟩ := he
  rw [hq] at hg
  simp only [VR] at hg
  obtain ⟨cvs, hg, hcv⟩ := hg
  have hcl := h.clean
  have hrun := run_call (P := P) (w := w) (caps := cvs) ho hg hf hb hn
  have hc := hcall hcl G w (args.toList.map a.eval ++ cvs) h.ok (VRs_append (arg1s_vr hargs) hcv)
  refine Res.of_enter hrun ?_
  have harr : (args.map a.eval ++ cvs.toArray) = (args.toList.map a.eval ++ cvs).toArray := by cases args; simp
  rw [harr]
  refine hc.mono ?_
  rintro e w' ⟨v, G1, rfl, h1, h2, hcl', h3⟩
  have hgot := got_any (l := st.lvl) (b := keyOf oper.dst) (imp := imp) hr hcl' h1 h2 h3 (freshK_sto hfr)
  obtain ⟨G', hG'⟩ := h.gotA hgot hcl' hou hdn
  exact ⟨v, rfl, _, G', hk, hG'⟩

theorem ew_all (h : Sim F G st a w) {d : Option Nat} {Kw : St → Prop} (hd : d = oper.dst) (hdn : ∀ y, d = some y → y < F.nt) : ∀ (o : O), loud o = true → chkO P o oper.op = true → ew (Sem P) d st Kw o → LOk P F a w oper Kw
  | .st m p x, _, hc, he => ew_st h hd hc he
  | .bw k n z ps, _, hc, he => ew_bw h hd hdn hc he
  | .ap k md x y, _, hc, he => ew_ap h hd hdn hc he
  | .ca .same imp f xs, _, hc, he => ew_same h hd hdn hc he
  | .ca .any imp f xs, _, hc, he => ew_any h hd hdn hc he

theorem op2_ok (h : Sim F G st a w) {d : Option Nat} {o : O} {Kw : St → Prop} (hd : d = oper.dst) (hdn : ∀ y, d = some y → y < F.nt) (hc : chkO P o oper.op = true) (he : op2 (Sem P) d o st Kw) : LOk P F a w oper Kw := by
  unfold op2 at he
  split at he
  · rename_i hl; exact ew_all h hd hdn o hl hc he
  · rename_i hl
    have := ev_all (b := keyOf d) h o (by simpa using hl) (fun mk obs hk => freshK_spec hk.1) hc he
    refine this.mono ?_
    rintro v w' ⟨mk, obs, ⟨_, hk⟩, hg⟩
    obtain ⟨G', hs⟩ := h.got hg hdn
    subst hd
    exact ⟨_, G', hk, hs⟩

theorem LOk.wp {o : Oper} {Kw : St → Prop} {next : Act → World → Prop} {Q : Exit → Act → World → Prop} (h : LOk P F a w o Kw) (hn : ∀ st' G' a' w', Kw st' → Sim F G' st' a' w' → next a' w') : o.wp P a w next Q :=
  h next Q fun _ _ ⟨st', G', hk, hs⟩ => hn st' G' _ _ hk hs

/-- What is known of a slot that was tested. -/
theorem Sim.known (h : Sim F G st a w) {j : Nat} {c : Bool} (hj : lk j st.env = .tr (.v (.bool c))) (x : IV) (hx : x = iB c) : Sim F G { st with env := pt j x st.env } a w := by
  refine ⟨h.dfr, h.sz, fun t => ?_, h.ok, h.lvl, h.outl, h.fr⟩
  show VR G st.sto w (lk t (pt j x st.env)) _
  rw [lk_pt]
  split
  · rename_i ht; subst ht hx; have := h.env t; rw [hj] at this; exact this
  · exact h.env t

/-- One operation with its guard. -/
theorem op1_ok (h : Sim F G st a w) {ops : Array Oper} {o : OP} {Kw : St → Prop} {next : Act → World → Prop} {Q : Exit → Act → World → Prop} (hc : chkOP P F.nt ops o oper = true) (he : op1 (Sem P) o st Kw)
    (hn : ∀ st' G' a' w', Kw st' → Sim F G' st' a' w' → next a' w') : if Region.wanted oper (yielded ops a.tmps) = true then oper.wp P a w next Q else next (a.put oper.dst undef) w := by
  unfold chkOP at hc
  simp only [Bool.and_eq_true, decide_eq_true_eq] at hc
  obtain ⟨⟨⟨hd, hdn⟩, hg⟩, hc⟩ := hc
  have hdn' : ∀ y, o.d = some y → y < F.nt := fun y hy => by rw [hy] at hdn; simpa using hdn
  unfold op1 at he
  unfold Region.wanted
  split at hg
  · rename_i hg1 hg2
    rw [hg1] at he
    rw [hg2, if_pos rfl]
    exact (op2_ok h hd hdn' hc he).wp hn
  · rename_i j w1 g w2 hg1 hg2
    rw [hg1] at he
    simp only [hg2]
    simp only [Bool.and_eq_true, beq_iff_eq, decide_eq_true_eq] at hg
    obtain ⟨rfl, hg⟩ := hg
    have hskip : VR G st.sto w (.tu []) undef := ⟨[], rfl, rfl⟩
    simp only at he
    split at he <;> try contradiction
    · rename_i c hl
      have hv := h.env j
      rw [hl] at hv
      have hv := hv.val.1
      have hy : yielded ops a.tmps g = some c := by
        unfold yielded
        rw [hg]
        simp only [Option.bind_some]
        have hb : a.tmps[j]? = some (.bool c) := by
          rw [Array.getD_eq_getD_getElem?] at hv
          cases hq : a.tmps[j]? with
          | none => rw [hq] at hv; simp [undef] at hv
          | some u => rw [hq] at hv; simp at hv; rw [hv]
        rw [hb]
      rw [hy]
      by_cases hcw : c = w1
      · rw [if_pos (by simp [hcw])]
        have h' := h.known hl (iB w1) (by rw [hcw])
        exact (op2_ok h' hd hdn' hc (he.1 hcw)).wp hn
      · rw [if_neg (by simp [hcw])]
        have hcw' : c = !w1 := by cases c <;> cases w1 <;> simp_all
        have h' := h.known hl (iB !w1) (by rw [hcw'])
        have := h'.put (d := o.d) (x := .tu []) (v := undef) hskip hdn'
        refine hn _ G _ _ (he.2 hcw') ?_
        rw [← hd]
        exact this
    · rename_i hl
      have hv := h.env j
      rw [hl] at hv
      obtain ⟨vs, hv, hvs⟩ := hv
      simp only [VRs] at hvs
      subst hvs
      have hy : yielded ops a.tmps g = none := by
        unfold yielded
        rw [hg]
        simp only [Option.bind_some]
        rw [Array.getD_eq_getD_getElem?] at hv
        cases hq : a.tmps[j]? with
        | none => rfl
        | some u => rw [hq] at hv; simp at hv; rw [hv]
      rw [hy, if_neg (by simp)]
      refine hn _ G _ _ he ?_
      rw [← hd]
      exact h.put (d := o.d) (x := .tu []) (v := undef) hskip hdn'
  · cases hg
end
end Go.Fd

/-
  FOUNDATION 36: regions in order, forgetting, codes. Own work.
-/
namespace Go.Fd

theorem lk_keepE (ks : List Nat) (t : Nat) : ∀ env, lk t (keepE ks env) = if t ∈ ks then lk t env else .un
  | [] => by simp [keepE, lk]
  | (s, x) :: r => by
    simp only [keepE]
    by_cases hs : s ∈ ks
    · rw [if_pos hs]
      simp only [lk]
      by_cases ht : t = s
      · subst ht; simp [hs]
      · rw [if_neg ht, if_neg ht]; exact lk_keepE ks t r
    · rw [if_neg hs, lk_keepE ks t r]
      simp only [lk]
      by_cases ht : t = s
      · subst ht; simp [hs]
      · rw [if_neg ht]
theorem lkO_keepO (js : List Nat) (t : Nat) : ∀ loc, lkO t (keepO js loc) = if t ∈ js then lkO t loc else none
  | [] => by simp [keepO, lkO]
  | (s, x) :: r => by
    simp only [keepO]
    by_cases hs : s ∈ js
    · rw [if_pos hs]
      simp only [lkO]
      by_cases ht : t = s
      · subst ht; simp [hs]
      · rw [if_neg ht, if_neg ht]; exact lkO_keepO js t r
    · rw [if_neg hs, lkO_keepO js t r]
      simp only [lkO]
      by_cases ht : t = s
      · subst ht; simp [hs]
      · rw [if_neg ht]
theorem okE_lk {l : Nat} {js : List Nat} {t : Nat} : ∀ {env : List (Nat × IV)}, okE l js env → okm l js (lk t env)
  | [], _ => trivial
  | (s, x) :: r, h => by
    simp only [lk]
    split
    · exact h.1
    · exact okE_lk h.2
theorem okL_lk {l : Nat} {js : List Nat} {t : Nat} {cells : List IV} : ∀ {loc : List (Nat × Ob)}, okL l js loc → lkO t loc = some (.bx cells) → okms l js cells
  | [], _, h => by cases h
  | (s, .bx c) :: r, h, hl => by
    simp only [lkO] at hl
    split at hl
    · cases hl; exact h.1
    · exact okL_lk h.2 hl
  | (s, .ar ..) :: r, h, hl => by
    simp only [lkO] at hl
    split at hl
    · cases hl
    · exact okL_lk (loc := r) h hl

section
variable {P : Program} {F : Fr} {G G' : Gh} {st : St} {a : Act} {w w' : World} {oper : Oper} {ks js : List Nat}

theorem fgt_sto (st : St) (i : Oid) : (fgt ks js st).sto i = if i.1 = st.lvl then (if i.2 ∈ js then lkO i.2 st.loc else none) else st.out i := by
  unfold St.sto packS fgt
  simp only [lkO_keepO]

theorem Sim.fgt (h : Sim F G st a w) (hc : Fd.clean ks js st) : Sim F G (Fd.fgt ks js st) a w := by
  have del : Del st.sto (Fd.fgt ks js st).sto (fun i => i.1 = st.lvl → i.2 ∈ js) := by
    refine ⟨fun i ob hs hp => ?_, fun i ob hs => ?_, fun i cells hs => ?_⟩
    · rw [fgt_sto]
      split
      · rename_i hi; rw [if_pos (hp hi), ← sto_in hi]; exact hs
      · rename_i hi; rw [← sto_out hi]; exact hs
    · rw [fgt_sto] at hs
      split at hs
      · rename_i hi
        split at hs
        · rename_i hj; exact ⟨by rw [sto_in hi]; exact hs, fun _ => hj⟩
        · cases hs
      · rename_i hi; exact ⟨by rw [sto_out hi]; exact hs, fun h => absurd h hi⟩
    · rw [fgt_sto] at hs
      split at hs
      · rename_i hi
        split at hs
        · rename_i hj
          exact okL_lk (t := i.2) hc.2 (by rw [lkO_keepO, if_pos hj]; exact hs)
        · cases hs
      · rename_i hi
        have h1 := h.outl i _ hs
        have h2 := h.ok.low i cells (by rw [sto_out hi]; exact hs)
        refine mens_mono (fun j hj => fun hl => ?_) cells h2
        have hj : j.1 < i.1 + 1 := hj
        omega
  refine ⟨h.dfr, h.sz, fun t => ?_, del.ok h.ok, h.lvl, h.outl, ⟨h.fr.size, h.fr.old, fun i ob b hs => h.fr.own i ob b (del.only i ob hs).1, h.fr.os, h.fr.tape, h.fr.output, fun x v hx hv => ?_⟩⟩
  · show VR G _ w (lk t (keepE ks st.env)) _
    have hm := okE_lk (t := t) hc.1
    refine del.vr _ _ hm ?_
    rw [lk_keepE]
    split
    · exact h.env t
    · trivial
  · refine del.vr x v (men_mono (fun j hj => fun hl => ?_) x hx) (h.fr.stab x v hx hv)
    have hj : j.1 < F.lvl := hj
    rw [← h.lvl] at hj
    omega

/-- Operations in their order. -/
theorem seq_ok {ops : Array Oper} {Q : Exit → Act → World → Prop} {K : St → Prop} : ∀ (l : List OP) (r : List Oper) (i : Nat) (st : St) (G : Gh) (a : Act) (w : World), Sim F G st a w → chkOPs P F.nt ops l r = true →
    ops.toList.drop i = r → wpo (Sem P) l st K → (∀ st' G' a' w', K st' → Sim F G' st' a' w' → Q .normal a' w') → wpOps P ops Q (List.range' i r.length) a w
  | [], r, i, st, G, a, w, h, hc, hr, he, hq => by
    cases r with
    | nil => exact hq st G a w he h
    | cons => cases hc
  | o :: l, r, i, st, G, a, w, h, hc, hr, he, hq => by
    cases r with
    | nil => cases hc
    | cons oper s =>
      simp only [chkOPs, Bool.and_eq_true] at hc
      have hi : ops[i]? = some oper := by
        have := congrArg (fun l => l[0]?) hr
        simpa using this
      have hs : ops.toList.drop (i + 1) = s := by
        rw [← List.drop_drop, hr]; rfl
      have key := op1_ok (ops := ops) (Q := Q) (next := wpOps P ops Q (List.range' (i + 1) s.length)) h hc.1 he (fun st' G' a' w' hk h' => seq_ok l s (i + 1) st' G' a' w' h' hc.2 hs hk hq)
      rw [List.length_cons, List.range'_succ]
      simp only [wpOps, hi]
      by_cases hw : Region.wanted oper (yielded ops a.tmps) = true
      · rw [if_pos hw] at key ⊢; exact .inl key
      · rw [if_neg hw] at key ⊢; exact key

def exOf : Ex → Exit
  | .nrm => .normal
  | .ext i => .exit i
  | .ret => .ret
end
end Go.Fd

/-
  FOUNDATION 37: what a silent operation gives is one thing, and hangs on what it reads alone. Own work.
-/
namespace Go.Fd

/-- The operands that an operation reads. -/
def rd : O → List X
  | .mv x _ | .bx x | .nt x | .ng x | .cv _ x | .ms _ _ x | .fa _ x | .fd _ _ x | .ln x | .lg x | .ex _ x | .nc x | .ld _ x | .bt x | .sa _ x | .sb x => [x]
  | .al .. | .la _ => []
  | .bd _ ps _ => ps.map (·.2.2)
  | .bs _ _ _ ps | .bw _ _ _ ps => ps.map (·.2)
  | .st _ p x => [p, x]
  | .bi _ _ x y | .qa _ _ x y | .mm _ x y | .ap _ _ x y | .ia _ x y | .ja _ _ x y | .ix x y | .jx _ _ _ x y => [x, y]
  | .mf _ cs => cs
  | .sx _ x lo hi mx => x :: (lo.toList ++ (hi.toList ++ mx.toList))
  | .ss x lo hi => x :: (lo.toList ++ hi.toList)
  | .pk c a b => [c, a, b]
  | .ca _ _ f xs => f :: xs

/-- A transformer that hands on one thing. -/
def Rel {α : Type} (T : (α → Prop) → Prop) : Prop := ∃ R : α → Prop, ∀ K, T K ↔ ∃ r, R r ∧ K r
section
variable {α β : Type} {T : (α → Prop) → Prop}
theorem rel_false : Rel (fun (_ : α → Prop) => False) := ⟨fun _ => False, fun K => by simp⟩
theorem rel_one (r : α) : Rel (fun (K : α → Prop) => K r) := ⟨fun s => s = r, fun K => by simp⟩
theorem rel_and {p : Prop} (h : Rel T) : Rel (fun K => p ∧ T K) := by
  obtain ⟨R, hR⟩ := h
  exact ⟨fun r => p ∧ R r, fun K => by simp only [hR]; constructor
                                       · rintro ⟨hp, r, h1, h2⟩; exact ⟨r, ⟨hp, h1⟩, h2⟩
                                       · rintro ⟨r, ⟨hp, h1⟩, h2⟩; exact ⟨hp, r, h1, h2⟩⟩
theorem rel_ex {U : β → (α → Prop) → Prop} (h : ∀ y, Rel (U y)) : Rel (fun K => ∃ y, U y K) := by
  refine ⟨fun r => ∃ y, (h y).choose r, fun K => ?_⟩
  constructor
  · rintro ⟨y, hy⟩
    obtain ⟨r, h1, h2⟩ := ((h y).choose_spec K).1 hy
    exact ⟨r, ⟨y, h1⟩, h2⟩
  · rintro ⟨r, ⟨y, h1⟩, h2⟩
    exact ⟨y, ((h y).choose_spec K).2 ⟨r, h1, h2⟩⟩
theorem rel_bind {U : α → (β → Prop) → Prop} (ht : Rel T) (h : ∀ y, Rel (U y)) : Rel (fun K => T fun y => U y K) := by
  obtain ⟨R, hR⟩ := ht
  have h1 : (fun K => T fun y => U y K) = fun K => ∃ y, R y ∧ U y K := by funext K; exact propext (hR _)
  rw [h1]
  exact rel_ex fun y => rel_and (h y)
theorem rel_congr {T' : (α → Prop) → Prop} (h : ∀ K, T K ↔ T' K) (ht : Rel T') : Rel T := by
  have : T = T' := funext fun K => propext (h K)
  rw [this]; exact ht
theorem Rel.ex (h : Rel T) {K : α → Prop} (ht : T K) : ∃ r, K r ∧ T (fun s => s = r) := by
  obtain ⟨R, hR⟩ := h
  obtain ⟨r, h1, h2⟩ := (hR K).1 ht
  exact ⟨r, h2, (hR _).2 ⟨r, h1, rfl⟩⟩
theorem Rel.mono (h : Rel T) {K K' : α → Prop} (hk : ∀ r, K r → K' r) (ht : T K) : T K' := by
  obtain ⟨R, hR⟩ := h
  obtain ⟨r, h1, h2⟩ := (hR K).1 ht
  exact (hR _).2 ⟨r, h1, hk r h2⟩
end

theorem biv_rel {op : BinOp} {w : Nat} {a b : Value} : Rel (biv op w a b) := by
  by_cases h : ∃ r p, ∀ K, biv op w a b K ↔ p ∧ K r
  · obtain ⟨r, p, h⟩ := h
    exact rel_congr h (rel_and (rel_one r))
  · refine rel_congr (T' := fun _ => False) (fun K => ⟨fun hk => h ?_, False.elim⟩) rel_false
    unfold biv at hk
    split at hk <;> first
      | exact hk.elim
      | exact ⟨_, _, fun K => by simp only [biv]; rw [and_assoc]⟩
      | exact ⟨_, _, fun K => by simp only [biv]; rw [← and_assoc]⟩
      | exact ⟨_, _, fun K => by simp only [biv]; rw [← and_assoc, ← and_assoc]⟩
      | exact ⟨_, _, fun K => by simp only [biv]; rw [← and_assoc, ← and_assoc, ← and_assoc]⟩
      | exact ⟨_, _, fun K => by simp only [biv]; exact Iff.rfl⟩
      | exact ⟨_, True, fun K => by simp only [biv, true_and]; exact Iff.rfl⟩
theorem eqv_rel {q : Nat} {x y : IV} : Rel (eqv q x y) := by
  by_cases h : ∃ r p, ∀ K, eqv q x y K ↔ p ∧ K r
  · obtain ⟨r, p, h⟩ := h
    exact rel_congr h (rel_and (rel_one r))
  · refine rel_congr (T' := fun _ => False) (fun K => ⟨fun hk => h ?_, False.elim⟩) rel_false
    unfold eqv at hk
    split at hk <;> first
      | exact hk.elim
      | exact ⟨_, _, fun K => by simp only [eqv]; exact Iff.rfl⟩
      | exact ⟨_, True, fun K => by simp only [eqv, true_and]; exact Iff.rfl⟩
theorem eqvs_rel : ∀ {qs : List Nat} {x y : List IV}, Rel (eqvs qs x y)
  | [], [], [] => rel_congr (fun _ => by simp only [eqvs]) (rel_one true)
  | q :: qs, x :: r, y :: s => rel_congr (fun _ => by simp only [eqvs]) (rel_bind (eqv_rel (q := q) (x := x) (y := y)) fun a => rel_bind (eqvs_rel (qs := qs) (x := r) (y := s)) fun b => rel_one (a && b))
  | [], [], _ :: _ => rel_congr (fun _ => by simp only [eqvs]) rel_false
  | [], _ :: _, _ => rel_congr (fun _ => by simp only [eqvs]) rel_false
  | _ :: _, [], _ => rel_congr (fun _ => by simp only [eqvs]) rel_false
  | _ :: _, _ :: _, [] => rel_congr (fun _ => by simp only [eqvs]) rel_false
theorem bndI_rel {ρ : X → IV} {x : Option X} {n : Nat} : Rel (bndI ρ x n) := by
  cases x with
  | none => exact rel_congr (fun _ => by simp only [bndI]) (rel_one n)
  | some x =>
    by_cases h : ∃ k m, ρ x = .tr (.v (.int k m))
    · obtain ⟨k, m, h⟩ := h
      exact rel_congr (fun _ => by simp only [bndI, h]) (rel_and (p := 0 ≤ m) (rel_one m.toNat))
    · refine rel_congr (T' := fun _ => False) (fun K => ⟨fun hk => h ?_, False.elim⟩) rel_false
      simp only [bndI] at hk
      split at hk
      · exact ⟨_, _, ‹_›⟩
      · exact hk.elim

abbrev MO := (Nat → Nat → IV) × (Nat → Nat → List Ob)
section
variable {C : Contract} {ρ : X → IV} {L : Sto}
theorem fills_rel {k : Nat} : ∀ (ps : List (Nat × X)) (es : Row) (u : Bool), Rel (fun K : Row × Bool → Prop => fills ρ k ps es u (fun a b => K (a, b)))
  | [], es, u => by simp only [fills]; exact rel_one (es, u)
  | (i, x) :: r, es, u => by
    simp only [fills]
    split
    · split
      · exact rel_and (rel_and (fills_rel r _ _))
      · exact rel_false
    · exact rel_false
theorem rdh_rel {id : Oid} {p : Pth} {st : Nat} : Rel (fun K : Row × Bool × Nat → Prop => rdh L id p st fun a b c => K (a, b, c)) := by
  simp only [rdh]
  split
  · exact rel_ex fun _ => rel_and (rel_and (rel_one _))
  · exact rel_false
mutual
theorem snap_rel : ∀ (x : IV), Rel (snap L x)
  | .un => rel_congr (fun _ => by simp only [snap]; exact Iff.rfl) (rel_one _)
  | .tr t => rel_congr (fun _ => by simp only [snap]; exact Iff.rfl) (rel_one _)
  | .cs es => rel_congr (fun _ => by simp only [snap]; exact Iff.rfl) (rel_one _)
  | .hd id p off len c st => rel_congr (fun _ => by simp only [snap]) (rel_bind (rdh_rel (L := L) (id := id) (p := p) (st := st)) (U := fun y K => off + len ≤ y.1.length ∧ K (.tr (.sl (cut y.1 off len)))) fun _ => rel_and (rel_one _))
  | .ag l => rel_congr (fun _ => by simp only [snap]) (rel_bind (snaps_rel l) (U := fun l' K => K (.ag l')) fun _ => rel_one _)
  | .fn f c => rel_congr (fun _ => by simp only [snap]) (rel_bind (snaps_rel c) (U := fun l' K => K (.fn f l')) fun _ => rel_one _)
  | .er => rel_congr (fun _ => by simp only [snap]; exact Iff.rfl) (rel_one _)
  | .ab .. => rel_congr (fun _ => by simp only [snap]) rel_false
  | .ae .. => rel_congr (fun _ => by simp only [snap]) rel_false
  | .ta c => rel_congr (fun _ => by simp only [snap]; exact Iff.rfl) (rel_one _)
  | .tu .. => rel_congr (fun _ => by simp only [snap]) rel_false
  | .ow .. => rel_congr (fun _ => by simp only [snap]) rel_false
theorem snaps_rel : ∀ (l : List IV), Rel (snaps L l)
  | [] => rel_congr (fun _ => by simp only [snaps]; exact Iff.rfl) (rel_one _)
  | x :: r => rel_congr (fun _ => by simp only [snaps]) (rel_bind (snap_rel x) (U := fun x' K => snaps L r fun r' => K (x' :: r')) fun x' => rel_bind (snaps_rel r) (U := fun r' K => K (x' :: r')) fun _ => rel_one _)
end
theorem ev_rel : ∀ (o : O), Rel (fun K : MO → Prop => ev C ρ L (fun m b => K (m, b)) o) := by
  intro o
  have key : ∀ {α : Type} {T : (α → Prop) → Prop} {U : α → (MO → Prop) → Prop}, Rel T → (∀ y, Rel (U y)) → Rel (fun K => T fun y => U y K) := fun h1 h2 => rel_bind h1 h2
  cases o
  case bs k n z ps =>
    simp only [ev]
    exact rel_bind (fills_rel (ρ := ρ) (k := k) ps (List.replicate n (z.map trv)) true) (U := fun y (K : MO → Prop) => K (fun l b => .hd (l, b) [] 0 n none n, fun _ _ => [.ar k y.1 y.2 n 0])) fun _ => rel_one _
  case bi op w x y =>
    simp only [ev, pureK]
    split
    · rename_i a b _ _
      exact rel_bind (biv_rel (op := op) (w := w) (a := a) (b := b)) (U := fun r (K : MO → Prop) => K (fun _ _ => .tr (.v r), fun _ _ => [])) fun _ => rel_one _
    · split <;> first | exact rel_one _ | exact rel_false
    · exact rel_false
  case qa neg ks x y =>
    simp only [ev, pureK]
    split
    · rename_i l m _ _
      exact rel_bind (eqvs_rel (qs := ks) (x := l) (y := m)) (U := fun r (K : MO → Prop) => K (fun _ _ => iB (if neg then !r else r), fun _ _ => [])) fun _ => rel_one _
    · exact rel_false
  case sx k x lo hi mx =>
    simp only [ev, pureK]
    split
    · rename_i es _
      refine rel_and (rel_bind (bndI_rel (ρ := ρ) (x := lo) (n := 0)) (U := fun a (K : MO → Prop) => bndI ρ hi es.length fun b => a ≤ b ∧ b ≤ es.length ∧ bndI ρ mx b fun m => m = b ∧ K (fun _ _ => if mx.isSome then .cs (cut es a (b - a)) else .tr (.sl (cut es a (b - a))), fun _ _ => [])) fun a => ?_)
      refine rel_bind (bndI_rel (ρ := ρ) (x := hi) (n := es.length)) (U := fun b (K : MO → Prop) => a ≤ b ∧ b ≤ es.length ∧ bndI ρ mx b fun m => m = b ∧ K (fun _ _ => if mx.isSome then .cs (cut es a (b - a)) else .tr (.sl (cut es a (b - a))), fun _ _ => [])) fun b => ?_
      exact rel_and (rel_and (rel_bind (bndI_rel (ρ := ρ) (x := mx) (n := b)) (U := fun m (K : MO → Prop) => m = b ∧ K (fun _ _ => if mx.isSome then .cs (cut es a (b - a)) else .tr (.sl (cut es a (b - a))), fun _ _ => [])) fun m => rel_and (rel_one _)))
    · rename_i es _
      refine rel_and (rel_bind (bndI_rel (ρ := ρ) (x := lo) (n := 0)) (U := fun a (K : MO → Prop) => bndI ρ hi es.length fun b => a ≤ b ∧ b ≤ es.length ∧ bndI ρ mx b fun m => m = b ∧ K (fun _ _ => if mx.isSome || hi.isNone then .cs (cut es a (b - a)) else .tr (.sl (cut es a (b - a))), fun _ _ => [])) fun a => ?_)
      refine rel_bind (bndI_rel (ρ := ρ) (x := hi) (n := es.length)) (U := fun b (K : MO → Prop) => a ≤ b ∧ b ≤ es.length ∧ bndI ρ mx b fun m => m = b ∧ K (fun _ _ => if mx.isSome || hi.isNone then .cs (cut es a (b - a)) else .tr (.sl (cut es a (b - a))), fun _ _ => [])) fun b => ?_
      exact rel_and (rel_and (rel_bind (bndI_rel (ρ := ρ) (x := mx) (n := b)) (U := fun m (K : MO → Prop) => m = b ∧ K (fun _ _ => if mx.isSome || hi.isNone then .cs (cut es a (b - a)) else .tr (.sl (cut es a (b - a))), fun _ _ => [])) fun m => rel_and (rel_one _)))
    · rename_i id p off len cap st _
      refine rel_bind (bndI_rel (ρ := ρ) (x := lo) (n := 0)) (U := fun a (K : MO → Prop) => bndI ρ hi len fun b => a ≤ b ∧ b ≤ len ∧ bndI ρ mx b fun m => b ≤ m ∧ m ≤ len ∧ wid L id p k ∧ K (fun _ _ => .hd id p (off + a) (b - a) (if mx.isSome then some (m - a) else cap.map (· - a)) st, fun _ _ => [])) fun a => ?_
      refine rel_bind (bndI_rel (ρ := ρ) (x := hi) (n := len)) (U := fun b (K : MO → Prop) => a ≤ b ∧ b ≤ len ∧ bndI ρ mx b fun m => b ≤ m ∧ m ≤ len ∧ wid L id p k ∧ K (fun _ _ => .hd id p (off + a) (b - a) (if mx.isSome then some (m - a) else cap.map (· - a)) st, fun _ _ => [])) fun b => ?_
      exact rel_and (rel_and (rel_bind (bndI_rel (ρ := ρ) (x := mx) (n := b)) (U := fun m (K : MO → Prop) => b ≤ m ∧ m ≤ len ∧ wid L id p k ∧ K (fun _ _ => .hd id p (off + a) (b - a) (if mx.isSome then some (m - a) else cap.map (· - a)) st, fun _ _ => [])) fun m => rel_and (rel_and (rel_and (rel_one _)))))
    · exact rel_false
  case ss x lo hi =>
    simp only [ev, pureK]
    split
    · rename_i s _
      refine rel_bind (bndI_rel (ρ := ρ) (x := lo) (n := 0)) (U := fun a (K : MO → Prop) => bndI ρ hi s.size fun b => a ≤ b ∧ b ≤ s.size ∧ K (fun _ _ => iS (s.extract a b), fun _ _ => [])) fun a => ?_
      exact rel_bind (bndI_rel (ρ := ρ) (x := hi) (n := s.size)) (U := fun b (K : MO → Prop) => a ≤ b ∧ b ≤ s.size ∧ K (fun _ _ => iS (s.extract a b), fun _ _ => [])) fun b => rel_and (rel_and (rel_one _))
    · exact rel_false
  case ca m imp f xs =>
    cases m <;> simp only [ev] <;> try exact rel_false
    split
    · rename_i caps _
      refine rel_bind (snaps_rel (L := L) (xs.map ρ ++ caps)) (U := fun args (K : MO → Prop) => ∃ r, _ ∧ _ ∧ K (fun l b => (impv imp l b 0 r).1, fun l b => (impv imp l b 0 r).2)) fun args => rel_ex fun r => rel_and (rel_and (rel_one _))
    · exact rel_false
  all_goals
    (try cases ‹Option Nat›)
    all_goals
      simp only [ev, pureK, rdh]
      repeat' first | exact rel_false | exact rel_one _ | refine rel_and ?_ | (refine rel_ex fun _ => ?_) | split

/-- What is seen in one store is seen in the other. -/
abbrev See (L L' : Sto) (x : IV) : Prop := men (fun id => ∀ ob, L id = some ob → L' id = some ob) x
abbrev Sees (L L' : Sto) (x : List IV) : Prop := mens (fun id => ∀ ob, L id = some ob → L' id = some ob) x

variable {ρ' : X → IV} {L' : Sto}
theorem rdh_mono {id : Oid} {p : Pth} {st : Nat} {K K' : Row → Bool → Nat → Prop} (hs : ∀ ob, L id = some ob → L' id = some ob) (hk : ∀ a b c, K a b c → K' a b c) (h : rdh L id p st K) : rdh L' id p st K' := by
  unfold rdh at *
  split at h
  · rename_i k es u hw ver hl
    rw [hs _ hl]
    obtain ⟨es', h1, h2, h3⟩ := h
    exact ⟨es', h1, h2, hk _ _ _ h3⟩
  · exact h.elim
mutual
theorem snap_see : ∀ (x : IV) {K K' : IV → Prop}, See L L' x → (∀ y, K y → K' y) → snap L x K → snap L' x K'
  | .un, _, _, _, hk, h => by simp only [snap] at *; exact hk _ h
  | .tr t, _, _, _, hk, h => by simp only [snap] at *; exact hk _ h
  | .cs es, _, _, _, hk, h => by simp only [snap] at *; exact hk _ h
  | .hd id p off len c st, _, _, hs, hk, h => by simp only [snap] at *; exact rdh_mono hs (fun _ _ _ h => ⟨h.1, hk _ h.2⟩) h
  | .ag l, _, _, hs, hk, h => by simp only [snap, See, men] at *; exact snaps_see l hs (fun _ h => hk _ h) h
  | .fn f c, _, _, hs, hk, h => by simp only [snap, See, men] at *; exact snaps_see c hs (fun _ h => hk _ h) h
  | .er, _, _, _, hk, h => by simp only [snap] at *; exact hk _ h
  | .ab .., _, _, _, _, h => by simp only [snap] at h
  | .ae .., _, _, _, _, h => by simp only [snap] at h
  | .ta c, _, _, _, hk, h => by simp only [snap] at *; exact hk _ h
  | .tu .., _, _, _, _, h => by simp only [snap] at h
  | .ow .., _, _, _, _, h => by simp only [snap] at h
theorem snaps_see : ∀ (l : List IV) {K K' : List IV → Prop}, Sees L L' l → (∀ y, K y → K' y) → snaps L l K → snaps L' l K'
  | [], _, _, _, hk, h => by simp only [snaps] at *; exact hk _ h
  | x :: r, _, _, hs, hk, h => by simp only [snaps, Sees, mens] at *; exact snap_see x hs.1 (fun _ h => snaps_see r hs.2 (fun _ h => hk _ h) h) h
end
theorem okp_congr {n : Nat} : ∀ {ps : List (Nat × Nat × X)}, (∀ x ∈ ps.map (·.2.2), ρ' x = ρ x) → okp ρ n ps → okp ρ' n ps
  | [], _, _ => trivial
  | (off, m, x) :: r, hp, h => by
    simp only [okp] at *
    rw [hp x (by simp)]
    exact ⟨h.1, h.2.1, okp_congr (fun y hy => hp y (by simp at hy ⊢; exact .inr hy)) h.2.2⟩
theorem fpart_congr : ∀ {ps : List (Nat × Nat × X)} {cs : List IV}, (∀ x ∈ ps.map (·.2.2), ρ' x = ρ x) → fpart ρ' ps cs = fpart ρ ps cs
  | [], _, _ => rfl
  | (off, m, x) :: r, cs, hp => by
    simp only [fpart]
    rw [hp x (by simp)]
    exact fpart_congr (fun y hy => hp y (by simp at hy ⊢; exact .inr hy))
theorem fills_congr {k : Nat} {K : Row → Bool → Prop} : ∀ {ps : List (Nat × X)} {es : Row} {u : Bool}, (∀ x ∈ ps.map (·.2), ρ' x = ρ x) → fills ρ k ps es u K → fills ρ' k ps es u K
  | [], _, _, _, h => h
  | (i, x) :: r, es, u, hp, h => by
    simp only [fills] at *
    rw [hp x (by simp)]
    split at h <;> try contradiction
    split at h <;> try contradiction
    exact ⟨h.1, h.2.1, fills_congr (fun y hy => hp y (by simp at hy ⊢; exact .inr hy)) h.2.2⟩
theorem bndI_congr {x : Option X} {n : Nat} (hp : ∀ y ∈ x.toList, ρ' y = ρ y) : bndI ρ' x n = bndI ρ x n := by
  cases x with
  | none => rfl
  | some x => funext K; simp only [bndI]; rw [hp x (by simp)]
theorem wid_see {id : Oid} {p : Pth} {k : Nat} (hs : ∀ ob, L id = some ob → L' id = some ob) (h : wid L id p k) : wid L' id p k := by
  unfold wid at *
  split at h
  · rename_i hl; rw [hs _ hl]; exact h
  · exact h.elim

theorem ev_congr {K : Kind} : ∀ (o : O), (∀ x ∈ rd o, ρ' x = ρ x) → (∀ x ∈ rd o, See L L' (ρ x)) → ev C ρ L K o → ev C ρ' L' K o := by
  intro o hp hs h
  cases o
  case ld m p =>
    have h1 := hp p (by simp [rd])
    have h2 := hs p (by simp [rd])
    cases m <;> simp only [ev] at h ⊢ <;> rw [h1] <;> split at h <;> try contradiction
    · exact h
    · rename_i hq
      rw [hq] at h2
      split at h <;> try contradiction
      rename_i hl
      rw [h2 _ hl]; exact h
    · rename_i hq
      rw [hq] at h2
      exact rdh_mono h2 (fun _ _ _ h => h) h
    · exact h
    · rename_i hq
      rw [hq] at h2
      split at h <;> try contradiction
      rename_i hl
      rw [h2 _ hl]; exact h
    · rename_i hq
      rw [hq] at h2
      exact rdh_mono h2 (fun _ _ _ h => h) h
  case sx k x lo hi mx =>
    have h1 := hp x (by simp [rd])
    have h2 := hs x (by simp [rd])
    have hlo := fun n => bndI_congr (ρ := ρ) (ρ' := ρ') (x := lo) (n := n) (fun y hy => hp y (by simp [rd] at hy ⊢; exact .inr (.inl hy)))
    have hhi := fun n => bndI_congr (ρ := ρ) (ρ' := ρ') (x := hi) (n := n) (fun y hy => hp y (by simp [rd] at hy ⊢; exact .inr (.inr (.inl hy))))
    have hmx := fun n => bndI_congr (ρ := ρ) (ρ' := ρ') (x := mx) (n := n) (fun y hy => hp y (by simp [rd] at hy ⊢; exact .inr (.inr (.inr hy))))
    simp only [ev] at h ⊢
    simp only [hlo, hhi, hmx]
    rw [h1]
    split at h <;> try contradiction
    · exact h
    · exact h
    · rename_i hq
      rw [hq] at h2
      exact bndI_rel.mono (fun a h => bndI_rel.mono (fun b h => ⟨h.1, h.2.1, bndI_rel.mono (fun m h => ⟨h.1, h.2.1, wid_see h2 h.2.2.1, h.2.2.2⟩) h.2.2⟩) h) h
  case sb x =>
    have h1 := hp x (by simp [rd])
    have h2 := hs x (by simp [rd])
    simp only [ev] at h ⊢
    rw [h1]
    split at h <;> try contradiction
    · exact h
    · exact h
    · rename_i hq
      rw [hq] at h2
      exact rdh_mono h2 (fun _ _ _ h => h) h
  case ss x lo hi =>
    have h1 := hp x (by simp [rd])
    have hlo := fun n => bndI_congr (ρ := ρ) (ρ' := ρ') (x := lo) (n := n) (fun y hy => hp y (by simp [rd] at hy ⊢; exact .inr (.inl hy)))
    have hhi := fun n => bndI_congr (ρ := ρ) (ρ' := ρ') (x := hi) (n := n) (fun y hy => hp y (by simp [rd] at hy ⊢; exact .inr (.inr hy)))
    simp only [ev] at h ⊢
    simp only [hlo, hhi]
    rw [h1]; exact h
  case ia k x i =>
    have h1 := hp x (by simp [rd])
    have h2 := hs x (by simp [rd])
    have h3 := hp i (by simp [rd])
    simp only [ev] at h ⊢
    rw [h1, h3]
    split at h <;> try contradiction
    refine ⟨h.1, ?_⟩
    have h := h.2
    split at h <;> try contradiction
    · exact h
    · exact h
    · rename_i hq
      rw [hq] at h2
      exact rdh_mono h2 (fun _ _ _ h => h) h
  case ca m imp f xs =>
    have h1 := hp f (by simp [rd])
    have h3 : xs.map ρ' = xs.map ρ := List.map_congr_left fun x hx => hp x (by simp [rd, hx])
    have h2 : Sees L L' (xs.map ρ) := by
      have : ∀ x ∈ xs, See L L' (ρ x) := fun x hx => hs x (by simp [rd, hx])
      clear h3 h1 hp hs h
      induction xs with
      | nil => trivial
      | cons y r ih => exact ⟨this y (by simp), ih fun x hx => this x (by simp [hx])⟩
    cases m <;> simp only [ev] at h ⊢
    have h4 := hs f (by simp [rd])
    rw [h1, h3]
    split at h <;> try contradiction
    rename_i fid caps hq
    rw [hq] at h4
    have h4 : Sees L L' caps := by simpa only [See, men] using h4
    have h5 : Sees L L' (xs.map ρ ++ caps) := by
      clear h h3 h1 hp hs
      induction xs with
      | nil => exact h4
      | cons y r ih => exact ⟨h2.1, ih h2.2⟩
    exact snaps_see _ h5 (fun _ h => h) h
  case bd z ps nz =>
    simp only [ev] at h ⊢
    have hh : ∀ x ∈ ps.map (·.2.2), ρ' x = ρ x := hp
    refine ⟨okp_congr hh h.1, ?_⟩
    simp only [fpart_congr hh]
    exact h.2
  case bs k n z ps =>
    simp only [ev] at h ⊢
    exact fills_congr (fun x hx => hp x hx) h
  case mf g cs =>
    have h3 : cs.map ρ' = cs.map ρ := List.map_congr_left fun x hx => hp x (by simp [rd, hx])
    simp only [ev] at h ⊢
    rw [h3]; exact h
  all_goals
    (try cases ‹Option Nat›)
    all_goals
      first
        | (simp only [ev] at h; done)
        | (simp only [ev] at h ⊢
           simp only [rd, List.mem_cons, List.not_mem_nil, or_false, forall_eq_or_imp, forall_eq, false_implies, implies_true] at hp
           first | exact h | (rw [hp]; exact h) | (rw [hp.1, hp.2]; exact h) | (rw [hp.1, hp.2.1, hp.2.2]; exact h))
end
end Go.Fd

/-
  FOUNDATION 38: regions that draw their order and turn nothing. Own work.
-/
namespace Go.Fd

def xvf (ρ : Nat → IV) : X → IV
  | .t n => ρ n
  | .k v => kv v
  | .f i => .fn i []
theorem xv_xvf (env : List (Nat × IV)) : xv env = xvf (fun t => lk t env) := by
  funext x; cases x <;> rfl

def Act1 (C : Contract) (o : O) (ρ : Nat → IV) (L : Sto) (lvl key : Nat) (y : IV) (obs : List Ob) : Prop :=
  ∃ mk ob, mk lvl key = y ∧ ob lvl key = obs ∧ ev C (xvf ρ) L (fun m b => m = mk ∧ b = ob) o
/-- What an operation with its guard does. -/
def Eff (C : Contract) (o : OP) (ρ : Nat → IV) (L : Sto) (lvl : Nat) (y : IV) (obs : List Ob) : Prop :=
  match o.g with
  | none => Act1 C o.o ρ L lvl (keyOf o.d) y obs
  | some (j, w) => (ρ j = iB w ∧ Act1 C o.o ρ L lvl (keyOf o.d) y obs) ∨ ((ρ j = iB (!w) ∨ ρ j = .tu []) ∧ y = .tu [] ∧ obs = [])

def upd (d : Option Nat) (y : IV) (ρ : Nat → IV) : Nat → IV := fun t => if d = some t then y else ρ t
def adds (b : Nat) (obs : List Ob) (σ : Nat → Option Ob) : Nat → Option Ob := fun k => if b ≤ k ∧ k < b + obs.length then obs[k - b]? else σ k
def packF (lvl : Nat) (σ : Nat → Option Ob) (out : Sto) : Sto := fun id => if id.1 = lvl then σ id.2 else out id
abbrev FreshF (b n : Nat) (σ : Nat → Option Ob) : Prop := ∀ k, b ≤ k → k < b + n → σ k = none

theorem sto_packF (st : St) : st.sto = packF st.lvl (fun k => lkO k st.loc) st.out := rfl
theorem lk_ptd (d : Option Nat) (y : IV) (env : List (Nat × IV)) : (fun t => lk t (ptd d y env)) = upd d y (fun t => lk t env) := by
  funext t
  unfold ptd upd
  cases d with
  | none => rfl
  | some d =>
    simp only [Option.some.injEq]
    rw [lk_pt]
    by_cases h : t = d
    · rw [if_pos h, if_pos h.symm]
    · rw [if_neg h, if_neg (fun e => h e.symm)]
theorem lkO_addO : ∀ (obs : List Ob) (b : Nat) (loc : List (Nat × Ob)), (fun k => lkO k (addO b obs loc)) = adds b obs (fun k => lkO k loc)
  | [], b, loc => by
    funext k
    simp only [addO, adds, List.length_nil]
    rw [if_neg (by omega)]
  | o :: r, b, loc => by
    rw [addO, lkO_addO r (b + 1) (ptO b o loc)]
    funext k
    simp only [adds, List.length_cons]
    by_cases h1 : b + 1 ≤ k ∧ k < b + 1 + r.length
    · rw [if_pos h1, if_pos ⟨by omega, by omega⟩, show k - b = (k - (b + 1)) + 1 from by omega]
      simp
    · rw [if_neg h1, lkO_ptO]
      by_cases h2 : k = b
      · rw [if_pos h2, if_pos ⟨by omega, by omega⟩, h2]; simp
      · rw [if_neg h2, if_neg (by omega)]
theorem freshK_F : ∀ {n b : Nat} {loc : List (Nat × Ob)}, freshK b loc n ↔ FreshF b n (fun k => lkO k loc)
  | 0, b, loc => by simp only [freshK, FreshF, true_iff]; intro k h1 h2; omega
  | n + 1, b, loc => by
    simp only [freshK, freshK_F (n := n)]
    constructor
    · rintro ⟨h1, h2⟩ k h3 h4
      by_cases h : k = b
      · subst h; exact h1
      · exact h2 k (by omega) (by omega)
    · intro h
      exact ⟨h b (by omega) (by omega), fun k h1 h2 => h k (by omega) (by omega)⟩
theorem pt_same {j : Nat} {x : IV} {env : List (Nat × IV)} (h : lk j env = x) : (fun t => lk t (pt j x env)) = fun t => lk t env := by
  funext t; rw [lk_pt]; split
  · rename_i ht; rw [ht, h]
  · rfl

section
variable {C : Contract} {st : St} {o : OP} {K : St → Prop}

/-- A silent operation on a state, told by functions. -/
structure Step1 (o : OP) (st st' : St) (y : IV) (obs : List Ob) : Prop where
  lvl : st'.lvl = st.lvl
  out : st'.out = st.out
  env : (fun t => lk t st'.env) = upd o.d y (fun t => lk t st.env)
  loc : (fun k => lkO k st'.loc) = adds (keyOf o.d) obs (fun k => lkO k st.loc)

theorem ev_one {d : Option Nat} {oo : O} {env : List (Nat × IV)} {K : St → Prop} (h : ev C (xv env) st.sto (fun mk obs => freshK (keyOf d) st.loc (obs st.lvl (keyOf d)).length ∧ K { st with env := ptd d (mk st.lvl (keyOf d)) env, loc := addO (keyOf d) (obs st.lvl (keyOf d)) st.loc }) oo) :
    ∃ y obs, Act1 C oo (fun t => lk t env) st.sto st.lvl (keyOf d) y obs ∧ FreshF (keyOf d) obs.length (fun k => lkO k st.loc) ∧ K { st with env := ptd d y env, loc := addO (keyOf d) obs st.loc } := by
  obtain ⟨⟨mk, ob⟩, ⟨h1, h2⟩, h3⟩ := (ev_rel (C := C) (ρ := xv env) (L := st.sto) oo).ex (K := fun r : MO => freshK (keyOf d) st.loc (r.2 st.lvl (keyOf d)).length ∧ K { st with env := ptd d (r.1 st.lvl (keyOf d)) env, loc := addO (keyOf d) (r.2 st.lvl (keyOf d)) st.loc }) h
  refine ⟨mk st.lvl (keyOf d), ob st.lvl (keyOf d), ⟨mk, ob, rfl, rfl, ?_⟩, freshK_F.1 h1, h2⟩
  rw [← xv_xvf]
  exact (ev_rel (C := C) (ρ := xv env) (L := st.sto) oo).mono (K := fun s => s = (mk, ob)) (K' := fun r : MO => r.1 = mk ∧ r.2 = ob) (fun r hr => by rw [hr]; exact ⟨rfl, rfl⟩) h3

theorem op1_eff (hl : loud o.o = false) (h : op1 C o st K) : ∃ y obs st', K st' ∧ Eff C o (fun t => lk t st.env) st.sto st.lvl y obs ∧ FreshF (keyOf o.d) obs.length (fun k => lkO k st.loc) ∧ Step1 o st st' y obs := by
  have hnil : ∀ σ : Nat → Option Ob, adds (keyOf o.d) [] σ = σ := fun σ => by funext k; simp only [adds, List.length_nil]; rw [if_neg (by omega)]
  unfold op1 at h
  unfold Eff
  split at h
  · rename_i hg
    rw [hg]
    unfold op2 at h
    rw [if_neg (by rw [hl]; decide)] at h
    obtain ⟨y, obs, h1, h2, h3⟩ := ev_one h
    exact ⟨y, obs, _, h3, h1, h2, ⟨rfl, rfl, lk_ptd _ _ _, lkO_addO _ _ _⟩⟩
  · rename_i j w hg
    rw [hg]
    dsimp only
    split at h <;> try contradiction
    · rename_i c hc
      by_cases hcw : c = w
      · subst hcw
        have h := h.1 rfl
        unfold op2 at h
        rw [if_neg (by rw [hl]; decide)] at h
        obtain ⟨y, obs, h1, h2, h3⟩ := ev_one (st := { st with env := pt j (iB c) st.env }) h
        rw [pt_same hc] at h1
        exact ⟨y, obs, _, h3, .inl ⟨hc, h1⟩, h2, ⟨rfl, rfl, by rw [lk_ptd]; dsimp only; rw [pt_same hc], lkO_addO _ _ _⟩⟩
      · have hcw' : c = !w := by cases c <;> cases w <;> simp_all
        subst hcw'
        exact ⟨.tu [], [], _, h.2 rfl, .inr ⟨.inl hc, rfl, rfl⟩, fun k h1 h2 => by simp at h2; omega, ⟨rfl, rfl, by rw [lk_ptd]; rw [pt_same hc], (hnil _).symm⟩⟩
    · rename_i hc
      exact ⟨.tu [], [], _, h, .inr ⟨.inr hc, rfl, rfl⟩, fun k h1 h2 => by simp at h2; omega, ⟨rfl, rfl, lk_ptd _ _ _, (hnil _).symm⟩⟩

theorem eff_op1 (hl : loud o.o = false) {y : IV} {obs : List Ob} (h : Eff C o (fun t => lk t st.env) st.sto st.lvl y obs) (hf : FreshF (keyOf o.d) obs.length (fun k => lkO k st.loc)) : op1 C o st (fun st' => Step1 o st st' y obs) := by
  have hnil : ∀ σ : Nat → Option Ob, adds (keyOf o.d) [] σ = σ := fun σ => by funext k; simp only [adds, List.length_nil]; rw [if_neg (by omega)]
  have back : ∀ (env : List (Nat × IV)), (fun t => lk t env) = (fun t => lk t st.env) → Act1 C o.o (fun t => lk t st.env) st.sto st.lvl (keyOf o.d) y obs → op2 C o.d o.o { st with env := env } (fun st' => Step1 o st st' y obs) := fun env he ha => by
    obtain ⟨mk, ob, rfl, rfl, ha⟩ := ha
    unfold op2
    rw [if_neg (by rw [hl]; decide)]
    rw [xv_xvf]
    dsimp only
    rw [he]
    refine (ev_rel (C := C) (ρ := xvf fun t => lk t st.env) (L := st.sto) o.o).mono (K := fun r : MO => r.1 = mk ∧ r.2 = ob) (K' := fun r : MO => freshK (keyOf o.d) st.loc (r.2 st.lvl (keyOf o.d)).length ∧ Step1 o st { st with env := ptd o.d (r.1 st.lvl (keyOf o.d)) env, loc := addO (keyOf o.d) (r.2 st.lvl (keyOf o.d)) st.loc } (mk st.lvl (keyOf o.d)) (ob st.lvl (keyOf o.d))) ?_ ha
    rintro ⟨m, b⟩ ⟨rfl, rfl⟩
    exact ⟨freshK_F.2 hf, ⟨rfl, rfl, by rw [lk_ptd, he], lkO_addO _ _ _⟩⟩
  unfold op1
  unfold Eff at h
  split
  · rename_i hg
    rw [hg] at h
    exact back st.env rfl h
  · rename_i j w hg
    rw [hg] at h
    rcases h with ⟨h1, h2⟩ | ⟨h1 | h1, rfl, rfl⟩
    · dsimp only at h1 ⊢
      rw [h1]
      dsimp only
      exact ⟨fun _ => back _ (pt_same h1) h2, fun hc => by cases w <;> cases hc⟩
    · dsimp only at h1 ⊢
      rw [h1]
      dsimp only
      refine ⟨fun hc => (by cases w <;> cases hc), fun _ => ⟨rfl, rfl, by rw [lk_ptd, pt_same h1], (hnil _).symm⟩⟩
    · dsimp only at h1 ⊢
      rw [h1]
      exact ⟨rfl, rfl, lk_ptd _ _ _, (hnil _).symm⟩

/-- Silent operations, one behind the other, told by functions. -/
def SRun (C : Contract) (lvl : Nat) (out : Sto) : List OP → (Nat → IV) → (Nat → Option Ob) → (Nat → IV) → (Nat → Option Ob) → Prop
  | [], ρ, σ, ρ', σ' => ρ' = ρ ∧ σ' = σ
  | o :: l, ρ, σ, ρ', σ' => ∃ y obs, Eff C o ρ (packF lvl σ out) lvl y obs ∧ FreshF (keyOf o.d) obs.length σ ∧ SRun C lvl out l (upd o.d y ρ) (adds (keyOf o.d) obs σ) ρ' σ'

theorem wpo_srun : ∀ (l : List OP) (st : St), (∀ o ∈ l, loud o.o = false) → wpo C l st K → ∃ st', K st' ∧ st'.lvl = st.lvl ∧ st'.out = st.out ∧ SRun C st.lvl st.out l (fun t => lk t st.env) (fun k => lkO k st.loc) (fun t => lk t st'.env) (fun k => lkO k st'.loc)
  | [], st, _, h => ⟨st, h, rfl, rfl, rfl, rfl⟩
  | o :: l, st, hl, h => by
    simp only [wpo] at h
    obtain ⟨y, obs, st1, hk, he, hf, hs⟩ := op1_eff (hl o (by simp)) h
    obtain ⟨st', hk', h1, h2, h3⟩ := wpo_srun l st1 (fun p hp => hl p (by simp [hp])) hk
    refine ⟨st', hk', h1.trans hs.lvl, h2.trans hs.out, y, obs, he, hf, ?_⟩
    rw [← hs.env, ← hs.loc, ← hs.lvl, ← hs.out]
    exact h3

def rdsX : List X → List Nat
  | [] => []
  | .t n :: r => n :: rdsX r
  | _ :: r => rdsX r
def rds (o : OP) : List Nat :=
  match o.g with
  | some (j, _) => j :: rdsX (rd o.o)
  | none => rdsX (rd o.o)
def nord (d : Option Nat) (o : OP) : Bool :=
  match d with
  | some d => !(rds o).contains d
  | none => true
def indep (p o : OP) : Bool := nord p.d o && nord o.d p && (match p.d, o.d with | some a, some b => a != b | _, _ => true)

theorem rdsX_mem {n : Nat} : ∀ {l : List X}, X.t n ∈ l → n ∈ rdsX l
  | [], h => by cases h
  | .t m :: r, h => by
    simp only [rdsX]
    cases h with
    | head => exact List.mem_cons_self
    | tail _ h => exact List.mem_cons_of_mem _ (rdsX_mem h)
  | .k v :: r, h => by
    simp only [rdsX]
    cases h with
    | tail _ h => exact rdsX_mem h
  | .f i :: r, h => by
    simp only [rdsX]
    cases h with
    | tail _ h => exact rdsX_mem h
theorem kv_men {Q : Oid → Prop} (v : Value) : men Q (kv v) := by
  have hkc : ∀ u, men Q (kc u) := fun u => by unfold kc; split <;> trivial
  unfold kv
  split
  · rename_i c
    simp only [men]
    induction c.toList with
    | nil => trivial
    | cons x r ih => exact ⟨hkc x, ih⟩
  · exact hkc _

theorem upd_rd {d : Option Nat} {y : IV} {ρ : Nat → IV} (h : nord d o = true) : (∀ x ∈ rd o.o, xvf (upd d y ρ) x = xvf ρ x) ∧ ∀ j w, o.g = some (j, w) → upd d y ρ j = ρ j := by
  have key : ∀ n ∈ rds o, upd d y ρ n = ρ n := fun n hn => by
    unfold upd
    rw [if_neg]
    rintro rfl
    simp [nord, hn] at h
  refine ⟨fun x hx => ?_, fun j w hg => key j (by simp [rds, hg])⟩
  cases x with
  | t n =>
    refine key n ?_
    unfold rds
    split
    · exact List.mem_cons_of_mem _ (rdsX_mem hx)
    · exact rdsX_mem hx
  | k v => rfl
  | f i => rfl

/-- An operation in another state that looks the same to it. -/
theorem Eff.congr {ρ ρ' : Nat → IV} {L L' : Sto} {lvl : Nat} {y : IV} {obs : List Ob} (hr : ∀ x ∈ rd o.o, xvf ρ' x = xvf ρ x) (hg : ∀ j w, o.g = some (j, w) → ρ' j = ρ j) (hs : ∀ x ∈ rd o.o, See L L' (xvf ρ x))
    (h : Eff C o ρ L lvl y obs) : Eff C o ρ' L' lvl y obs := by
  have key : Act1 C o.o ρ L lvl (keyOf o.d) y obs → Act1 C o.o ρ' L' lvl (keyOf o.d) y obs := fun ⟨m0, ob, h1, h2, h3⟩ => ⟨m0, ob, h1, h2, ev_congr o.o hr hs h3⟩
  unfold Eff at *
  split at h
  · exact key h
  · rename_i j w hgg
    rw [hg j w hgg]
    exact h.imp (fun h => ⟨h.1, key h.2⟩) id

theorem adds_keep {lvl b : Nat} {obs : List Ob} {σ : Nat → Option Ob} {out : Sto} (hf : FreshF b obs.length σ) (id : Oid) (ob : Ob) (h : packF lvl σ out id = some ob) : packF lvl (adds b obs σ) out id = some ob := by
  unfold packF at *
  split at h
  · rename_i hi
    rw [if_pos hi]
    unfold adds
    rw [if_neg]
    · exact h
    · rintro ⟨h1, h2⟩
      rw [hf _ h1 h2] at h; cases h
  · rename_i hi; rw [if_neg hi]; exact h

/-- An operation that the ones before it don't look at is done first. -/
theorem srun_first {lvl : Nat} {out : Sto} : ∀ (l1 l2 : List OP) (ρ : Nat → IV) (σ : Nat → Option Ob) (ρ' : Nat → IV) (σ' : Nat → Option Ob), (∀ p ∈ l1, indep p o = true) → (∀ x ∈ rd o.o, men (fun id => (packF lvl σ out id).isSome = true) (xvf ρ x)) →
    SRun C lvl out (l1 ++ o :: l2) ρ σ ρ' σ' → ∃ y obs, Eff C o ρ (packF lvl σ out) lvl y obs ∧ FreshF (keyOf o.d) obs.length σ ∧ SRun C lvl out (l1 ++ l2) (upd o.d y ρ) (adds (keyOf o.d) obs σ) ρ' σ'
  | [], l2, ρ, σ, ρ', σ', _, _, h => h
  | p :: l1, l2, ρ, σ, ρ', σ', hi, hm, h => by
    obtain ⟨yp, obp, he, hf, hr⟩ := h
    have hip := hi p (by simp)
    simp only [indep, Bool.and_eq_true] at hip
    obtain ⟨⟨hi1, hi2⟩, hi3⟩ := hip
    have hpo := upd_rd (y := yp) (ρ := ρ) hi1
    obtain ⟨y, obs, h1, h2, h3⟩ := srun_first l1 l2 _ _ _ _ (fun q hq => hi q (by simp [hq])) (fun x hx => by
      rw [hpo.1 x hx]
      refine men_mono (fun id hid => ?_) _ (hm x hx)
      obtain ⟨ob, hob⟩ := Option.isSome_iff_exists.1 hid
      rw [adds_keep hf id ob hob]; rfl) hr
    have hfo : FreshF (keyOf o.d) obs.length σ := fun k g1 g2 => by
      have := h2 k g1 g2
      unfold adds at this
      split at this
      · rename_i hk
        rw [List.getElem?_eq_getElem (by omega)] at this; cases this
      · exact this
    have hdis : ∀ k, keyOf p.d ≤ k ∧ k < keyOf p.d + obp.length → ¬ (keyOf o.d ≤ k ∧ k < keyOf o.d + obs.length) := fun k hk ho => by
      have := h2 k ho.1 ho.2
      unfold adds at this
      rw [if_pos hk, List.getElem?_eq_getElem (by omega)] at this
      cases this
    have hop := upd_rd (o := p) (d := o.d) (y := y) (ρ := ρ) hi2
    refine ⟨y, obs, h1.congr (fun x hx => (hpo.1 x hx).symm) (fun j w hg => (hpo.2 j w hg).symm) (fun x hx => ?_), hfo, yp, obp, he.congr hop.1 hop.2 (fun x hx => men_mono (fun id _ => adds_keep hfo id) _ (men_true _)), fun k g1 g2 => ?_, ?_⟩
    · rw [hpo.1 x hx]
      refine men_mono (fun id hid ob hob => ?_) _ (hm x hx)
      obtain ⟨ob', hob'⟩ := Option.isSome_iff_exists.1 hid
      rw [adds_keep hf id ob' hob'] at hob
      rw [hob', hob]
    · unfold adds
      rw [if_neg (hdis k ⟨g1, g2⟩)]
      exact hf k g1 g2
    · have e1 : upd p.d yp (upd o.d y ρ) = upd o.d y (upd p.d yp ρ) := by
        funext t
        unfold upd
        by_cases g1 : p.d = some t <;> by_cases g2 : o.d = some t <;> simp only [g1, g2, if_true, if_false]
        rw [g1, g2] at hi3
        simp at hi3
      have e2 : adds (keyOf p.d) obp (adds (keyOf o.d) obs σ) = adds (keyOf o.d) obs (adds (keyOf p.d) obp σ) := by
        funext k
        unfold adds
        by_cases g1 : keyOf p.d ≤ k ∧ k < keyOf p.d + obp.length
        · rw [if_pos g1, if_neg (hdis k g1), if_pos g1]
        · rw [if_neg g1]
          by_cases g2 : keyOf o.d ≤ k ∧ k < keyOf o.d + obs.length
          · rw [if_pos g2, if_pos g2]
          · rw [if_neg g2, if_neg g2, if_neg g1]
      rw [e1, e2]
      exact h3
end
end Go.Fd

/-
  FOUNDATION 39: the drawn regions' walk; codes. Own work.
-/
namespace Go.Fd

/-- A region that may be done in any order that its edges leave. -/
def drawOK (ops : Array Oper) (l : List OP) : Bool :=
  l.all (fun o => !loud o.o) && (List.range ops.size).all fun i =>
    match ops[i]?, l[i]? with
    | some oper, some o => (oper.after.all fun e => !Region.binds .any e || decide (e.on < i)) &&
        (List.range i).all fun j => (oper.after.any fun e => Region.binds .any e && e.on == j) || (match l[j]? with | some p => indep p o | none => false)
    | _, _ => false

section
variable {P : Program} {F : Fr} {G : Gh} {s : St} {a : Act} {w : World}

theorem Sim.congr (h : Sim F G s a w) {s' : St} (h1 : s'.lvl = s.lvl) (h2 : s'.out = s.out) (h3 : (fun t => lk t s'.env) = fun t => lk t s.env) (h4 : (fun k => lkO k s'.loc) = fun k => lkO k s.loc) : Sim F G s' a w := by
  have hs : s'.sto = s.sto := by rw [sto_packF, sto_packF, h1, h2, h4]
  refine ⟨h.dfr, h.sz, fun t => ?_, by rw [hs]; exact h.ok, by rw [h1]; exact h.lvl, by rw [h1, h2]; exact h.outl, by rw [hs]; exact h.fr⟩
  have := congrFun h3 t
  rw [hs, this]
  exact h.env t

theorem Sim.men_x (h : Sim F G s a w) (x : X) : men (fun id => (packF s.lvl (fun k => lkO k s.loc) s.out id).isSome = true) (xvf (fun t => lk t s.env) x) := by
  cases x with
  | t n => exact men_live _ _ (h.env n)
  | k v => exact kv_men v
  | f i => simp [xvf, men, mens]

theorem chkOPs_at {nt : Nat} {ops : Array Oper} : ∀ {l : List OP} {r : List Oper}, chkOPs P nt ops l r = true → l.length = r.length ∧ ∀ (i : Nat) (o : OP) (oper : Oper), l[i]? = some o → r[i]? = some oper → chkOP P nt ops o oper = true
  | [], [], _ => ⟨rfl, fun i o oper h => by simp at h⟩
  | [], _ :: _, h => by cases h
  | _ :: _, [], h => by cases h
  | o :: l, oper :: r, h => by
    simp only [chkOPs, Bool.and_eq_true] at h
    obtain ⟨h1, h2⟩ := chkOPs_at h.2
    refine ⟨by simp [h1], fun i o' oper' ho hr => ?_⟩
    cases i with
    | zero => simp at ho hr; subst ho hr; exact h.1
    | succ i => exact h2 i o' oper' (by simpa using ho) (by simpa using hr)

/-- R: the operations that are still to do, in their order. -/
structure Todo (l : List OP) (listed : Array Bool) (R : List (Nat × OP)) : Prop where
  mem : ∀ i o, (i, o) ∈ R ↔ l[i]? = some o ∧ listed[i]? = some false
  sort : R.Pairwise (fun x y => x.1 < y.1)

theorem Todo.take {l : List OP} {listed : Array Bool} {R1 R2 : List (Nat × OP)} {i : Nat} {o : OP} (h : Todo l listed (R1 ++ (i, o) :: R2)) : Todo l (listed.setIfInBounds i true) (R1 ++ R2) := by
  have hp := List.pairwise_append.1 h.sort
  have hp2 := List.pairwise_cons.1 hp.2.1
  refine ⟨fun j p => ?_, ?_⟩
  · have hm := h.mem j p
    rw [Array.getElem?_setIfInBounds]
    by_cases hj : i = j
    · subst hj
      rw [if_pos rfl]
      constructor
      · intro hin
        exfalso
        rcases List.mem_append.1 hin with g | g
        · exact Nat.lt_irrefl _ (hp.2.2 _ g (i, o) (by simp))
        · exact Nat.lt_irrefl i (hp2.1 (i, p) g)
      · rintro ⟨_, h2⟩
        split at h2 <;> cases h2
    · rw [if_neg hj, ← hm]
      simp only [List.mem_append, List.mem_cons, Prod.mk.injEq]
      constructor
      · rintro (g | g)
        · exact .inl g
        · exact .inr (.inr g)
      · rintro (g | ⟨g, _⟩ | g)
        · exact .inl g
        · exact absurd g.symm hj
        · exact .inr g
  · exact List.pairwise_append.2 ⟨hp.1, hp2.2, fun x hx y hy => hp.2.2 x hx y (by simp [hy])⟩

theorem draw_go {ops : Array Oper} {l : List OP} {Q : Exit → Act → World → Prop} (hc : chkOPs P F.nt ops l ops.toList = true) (hd : drawOK ops l = true) : ∀ (fuel : Nat) (listed : Array Bool) (R : List (Nat × OP)) (s : St) (G : Gh) (a : Act) (w : World) (ρ' : Nat → IV) (σ' : Nat → Option Ob),
    listed.size = ops.size → Todo l listed R → R.length = fuel → Sim F G s a w → SRun (Sem P) s.lvl s.out (R.map (·.2)) (fun t => lk t s.env) (fun k => lkO k s.loc) ρ' σ' →
    (∀ s' G' a' w', s'.lvl = s.lvl → s'.out = s.out → (fun t => lk t s'.env) = ρ' → (fun k => lkO k s'.loc) = σ' → Sim F G' s' a' w' → Q .normal a' w') → wpAny P .any ops Q fuel listed a w := by
  obtain ⟨hlen, hat⟩ := chkOPs_at hc
  simp only [drawOK, Bool.and_eq_true, List.all_eq_true, List.mem_range] at hd
  obtain ⟨hld, hed⟩ := hd
  have hlen' : l.length = ops.size := by rw [hlen]; simp
  -- the edges of operation i
  have edges : ∀ (i : Nat) (oper : Oper) (o : OP), ops[i]? = some oper → l[i]? = some o → (∀ e ∈ oper.after, Region.binds .any e = true → e.on < i) ∧
      ∀ j p, j < i → l[j]? = some p → (∃ e ∈ oper.after, Region.binds .any e = true ∧ e.on = j) ∨ indep p o = true := fun i oper o ho hl => by
    have hi : i < ops.size := (Array.getElem?_eq_some_iff.1 ho).1
    have h1 := hed i hi
    rw [ho, hl] at h1
    simp only [Bool.and_eq_true, List.all_eq_true, List.mem_range, Array.all_eq_true_iff_forall_mem, Bool.or_eq_true, Bool.not_eq_true', decide_eq_true_eq, Array.any_eq_true', beq_iff_eq] at h1
    refine ⟨fun e he hb => (h1.1 e he).resolve_left (by simp [hb]), fun j p hj hp => ?_⟩
    have := h1.2 j hj
    rw [hp] at this
    rcases this with ⟨e, he, hb, hon⟩ | h
    · exact .inl ⟨e, he, hb, hon⟩
    · exact .inr h
  -- what is not listed
  have left : ∀ (listed : Array Bool) (R : List (Nat × OP)), listed.size = ops.size → Todo l listed R → R ≠ [] → Region.ready .any ops listed ≠ [] := fun listed R hs ht hne => by
    cases R with
    | nil => exact absurd rfl hne
    | cons x R =>
      obtain ⟨i, o⟩ := x
      obtain ⟨hl, hli⟩ := (ht.mem i o).1 (by simp)
      have hi : i < ops.size := by rw [← hlen']; exact (List.getElem?_eq_some_iff.1 hl).1
      obtain ⟨oper, ho⟩ : ∃ oper, ops[i]? = some oper := ⟨_, Array.getElem?_eq_getElem hi⟩
      have : i ∈ Region.ready .any ops listed := by
        rw [mem_ready]
        refine ⟨by simp [Array.getD_eq_getD_getElem?, hli], oper, ho, fun e he hb => ?_⟩
        have hlt := (edges i oper o ho hl).1 e he hb
        have hes : e.on < listed.size := by omega
        cases hq : listed[e.on]? with
        | none => rw [Array.getElem?_eq_none_iff] at hq; omega
        | some b =>
          cases b with
          | true => simp [Array.getD_eq_getD_getElem?, hq]
          | false =>
            exfalso
            have hel : e.on < l.length := by omega
            have := (ht.mem e.on l[e.on]).2 ⟨List.getElem?_eq_getElem hel, hq⟩
            rcases List.mem_cons.1 this with h | h
            · have := congrArg Prod.fst h; simp at this; omega
            · have := (List.pairwise_cons.1 ht.sort).1 _ h
              have : i < e.on := this
              omega
      intro h
      rw [h] at this
      cases this
  intro fuel
  induction fuel with
  | zero =>
    intro listed R s G a w ρ' σ' hs ht hR h hrun hq
    have hR : R = [] := List.eq_nil_of_length_eq_zero hR
    subst hR
    refine ⟨?_, hq s G a w rfl rfl hrun.1.symm hrun.2.symm h⟩
    cases hrd : Region.ready .any ops listed with
    | nil => rfl
    | cons i r =>
      exfalso
      have hi : i ∈ Region.ready .any ops listed := by rw [hrd]; simp
      obtain ⟨h1, oper, ho, _⟩ := mem_ready.1 hi
      have hi' : i < ops.size := (Array.getElem?_eq_some_iff.1 ho).1
      have hl : i < l.length := by omega
      have hli : i < listed.size := by omega
      have := (ht.mem i l[i]).2 ⟨List.getElem?_eq_getElem hl, by rw [Array.getElem?_eq_getElem hli]; simp [Array.getD_eq_getD_getElem?, Array.getElem?_eq_getElem hli] at h1; rw [h1]⟩
      cases this
  | succ fuel ih =>
    intro listed R s G a w ρ' σ' hs ht hR h hrun hq
    have hne : R ≠ [] := by intro h; subst h; cases hR
    refine ⟨fun h0 => absurd h0 (left listed R hs ht hne), fun i hi => ?_⟩
    obtain ⟨h1, oper, ho, hall⟩ := mem_ready.1 hi
    have hi' : i < ops.size := (Array.getElem?_eq_some_iff.1 ho).1
    have hl : i < l.length := by omega
    have hli : i < listed.size := by omega
    have hlo : l[i]? = some l[i] := List.getElem?_eq_getElem hl
    have hmem := (ht.mem i l[i]).2 ⟨hlo, by rw [Array.getElem?_eq_getElem hli]; simp [Array.getD_eq_getD_getElem?, Array.getElem?_eq_getElem hli] at h1; rw [h1]⟩
    generalize l[i] = o at hlo hmem
    obtain ⟨R1, R2, rfl⟩ := List.append_of_mem hmem
    have hp := List.pairwise_append.1 ht.sort
    have hind : ∀ p ∈ R1.map (·.2), indep p o = true := fun p hp1 => by
      obtain ⟨⟨j, p'⟩, hj, rfl⟩ := List.mem_map.1 hp1
      have hlt : j < i := hp.2.2 _ hj (i, o) (by simp)
      obtain ⟨hjl, hjf⟩ := (ht.mem j p').1 (List.mem_append_left _ hj)
      rcases (edges i oper o ho hlo).2 j p' hlt hjl with ⟨e, he, hb, hon⟩ | hind
      · exfalso
        have := hall e he hb
        rw [hon] at this
        simp [Array.getD_eq_getD_getElem?, hjf] at this
      · exact hind
    rw [List.map_append, List.map_cons] at hrun
    obtain ⟨y, obs, g1, g2, g3⟩ := srun_first (o := o) (R1.map (·.2)) (R2.map (·.2)) _ _ _ _ hind (fun x _ => h.men_x x) hrun
    have hloud : loud o.o = false := by
      have := hld o (List.mem_of_getElem? hlo)
      simpa using this
    have hop := eff_op1 (st := s) hloud g1 g2
    have key := op1_ok (ops := ops) (Q := Q) (next := wpAny P .any ops Q fuel (listed.setIfInBounds i true)) h (hat i o oper hlo (by simpa using ho)) hop (fun st' G' a' w' hk h' => by
      refine ih (listed.setIfInBounds i true) (R1 ++ R2) st' G' a' w' ρ' σ' (by simp [hs]) ht.take (by simp at hR ⊢; omega) h' ?_ (fun s' G2 a2 w2 e1 e2 => hq s' G2 a2 w2 (e1.trans hk.lvl) (e2.trans hk.out))
      rw [List.map_append, hk.lvl, hk.out, hk.env, hk.loc]
      exact g3)
    unfold wpOp
    simp only [ho]
    by_cases hw : Region.wanted oper (yielded ops a.tmps) = true
    · rw [if_pos hw] at key ⊢; exact .inl key
    · rw [if_neg hw] at key ⊢; exact key

theorem Frm.drew {F : Fr} {G : Gh} {S : Sto} {w w' : World} (h : Frm F G S w) (e : Ext w w') : Frm F G S w' := h.ext e

/-- A region that draws its order. -/
theorem draw_ok {ops : Array Oper} {l : List OP} {Q : Exit → Act → World → Prop} {K : St → Prop} {id : Nat} (hm : P.follows .mixedOrders = true) (hc : chkOPs P F.nt ops l ops.toList = true) (hd : drawOK ops l = true) (h : Sim F G s a w) (he : wpo (Sem P) l s K)
    (hq : ∀ st' G' a' w', K st' → Sim F G' st' a' w' → Q .normal a' w') : (Code.region id ops true).wp P Q a w := by
  obtain ⟨hlen, hat⟩ := chkOPs_at hc
  have hlen' : l.length = ops.size := by rw [hlen]; simp
  have hl : ∀ o ∈ l, loud o.o = false := fun o ho => by
    simp only [drawOK, Bool.and_eq_true, List.all_eq_true] at hd
    simpa using hd.1 o ho
  obtain ⟨st', hk, h1, h2, h3⟩ := wpo_srun l s hl he
  have hw : Sim F G s a { w with drawn := w.drawn + 1 } := h.ext ⟨Nat.le_refl _, fun _ _ => rfl, rfl, rfl, rfl⟩
  refine wp_region_any hm (draw_go hc hd ops.size _ (l.zipIdx.map fun x => (x.2, x.1)) s G a _ _ _ (by simp) ⟨fun i o => ?_, ?_⟩ (by simp [hlen']) hw ?_ (fun s' G' a' w' e1 e2 e3 e4 hs => hq st' G' a' w' hk (hs.congr (h1.trans e1.symm) (h2.trans e2.symm) e3.symm e4.symm)))
  · constructor
    · intro hi
      obtain ⟨⟨p, j⟩, hj, he⟩ := List.mem_map.1 hi
      cases he
      have hg := List.mem_zipIdx_iff_getElem?.1 hj
      refine ⟨hg, ?_⟩
      have : j < ops.size := by rw [← hlen']; exact (List.getElem?_eq_some_iff.1 hg).1
      simp [this]
    · rintro ⟨hg, _⟩
      exact List.mem_map.2 ⟨(o, i), List.mem_zipIdx_iff_getElem?.2 hg, rfl⟩
  · rw [List.pairwise_map]
    have : ∀ (l : List OP) (n : Nat), (l.zipIdx n).Pairwise (fun a b => a.2 < b.2) := by
      intro l
      induction l with
      | nil => intro n; exact List.Pairwise.nil
      | cons x r ih =>
        intro n
        rw [List.zipIdx_cons]
        refine List.pairwise_cons.2 ⟨fun y hy => ?_, ih _⟩
        have := List.le_snd_of_mem_zipIdx hy
        show n < y.2
        omega
    exact this l 0
  · have : (l.zipIdx.map fun x => (x.2, x.1)).map (·.2) = l := by
      rw [List.map_map]
      have := List.zipIdx_map_fst 0 l
      exact this
    rw [this]
    exact h3
end
end Go.Fd

/-
  FOUNDATION 40: codes. Own work.
-/
namespace Go.Fd

/-- The annotated code belongs to the code. -/
def chkC (P : Program) (nt : Nat) : C2 → Code → Bool
  | .fg _ _ c, d => chkC P nt c d
  | .sk, .skip => true
  | .sk, .label _ => true
  | .rg _ l, .region _ ops dr => chkOPs P nt ops l ops.toList && (!dr || (drawOK ops l && P.follows .mixedOrders))
  | .sq a b, .seq c d => chkC P nt a c && chkC P nt b d
  | .cd x a b, .cond y c d => chkX x y && chkC P nt a c && chkC P nt b d
  | .bl i c, .block j d => i == j && chkC P nt c d
  | .lp _ _ c, .loop d => chkC P nt c d
  | .ex i, .exit j => i == j
  | .rt, .ret => true
  | _, _ => false

theorem chkC_spec {P : Program} {nt : Nat} {c2 : C2} {c : Code} (h : chkC P nt c2 c = true) :
    (∃ ks js c3, c2 = .fg ks js c3 ∧ chkC P nt c3 c = true) ∨ (c2 = .sk ∧ c = .skip) ∨ (∃ l, c2 = .sk ∧ c = .label l) ∨
    (∃ n l id ops dr, c2 = .rg n l ∧ c = .region id ops dr ∧ chkOPs P nt ops l ops.toList = true ∧ (dr = true → drawOK ops l = true ∧ P.follows .mixedOrders = true)) ∨
    (∃ a b x y, c2 = .sq a b ∧ c = .seq x y ∧ chkC P nt a x = true ∧ chkC P nt b y = true) ∨
    (∃ u a b v x y, c2 = .cd u a b ∧ c = .cond v x y ∧ chkX u v = true ∧ chkC P nt a x = true ∧ chkC P nt b y = true) ∨
    (∃ i a x, c2 = .bl i a ∧ c = .block i x ∧ chkC P nt a x = true) ∨ (∃ ks js a x, c2 = .lp ks js a ∧ c = .loop x ∧ chkC P nt a x = true) ∨
    (∃ i, c2 = .ex i ∧ c = .exit i) ∨ (c2 = .rt ∧ c = .ret) := by
  cases c2 with
  | fg ks js c3 => exact .inl ⟨ks, js, c3, rfl, by simpa only [chkC] using h⟩
  | sk =>
    cases c <;> simp only [chkC] at h <;> try contradiction
    · exact .inr (.inl ⟨rfl, rfl⟩)
    · exact .inr (.inr (.inl ⟨_, rfl, rfl⟩))
  | rg n l =>
    cases c <;> simp only [chkC] at h <;> try contradiction
    rename_i id ops dr
    simp only [Bool.and_eq_true, Bool.or_eq_true, Bool.not_eq_true'] at h
    exact .inr (.inr (.inr (.inl ⟨n, l, id, ops, dr, rfl, rfl, h.1, fun hd => h.2.resolve_left (by simp [hd])⟩)))
  | sq a b =>
    cases c <;> simp only [chkC] at h <;> try contradiction
    simp only [Bool.and_eq_true] at h
    exact .inr (.inr (.inr (.inr (.inl ⟨a, b, _, _, rfl, rfl, h.1, h.2⟩))))
  | cd u a b =>
    cases c <;> simp only [chkC] at h <;> try contradiction
    simp only [Bool.and_eq_true] at h
    exact .inr (.inr (.inr (.inr (.inr (.inl ⟨u, a, b, _, _, _, rfl, rfl, h.1.1, h.1.2, h.2⟩)))))
  | bl i a =>
    cases c <;> simp only [chkC] at h <;> try contradiction
    simp only [Bool.and_eq_true, beq_iff_eq] at h
    obtain ⟨rfl, h⟩ := h
    exact .inr (.inr (.inr (.inr (.inr (.inr (.inl ⟨i, a, _, rfl, rfl, h⟩))))))
  | lp ks js a =>
    cases c <;> simp only [chkC] at h <;> try contradiction
    exact .inr (.inr (.inr (.inr (.inr (.inr (.inr (.inl ⟨ks, js, a, _, rfl, rfl, h⟩)))))))
  | ex i =>
    cases c <;> simp only [chkC] at h <;> try contradiction
    simp only [beq_iff_eq] at h
    subst h
    exact .inr (.inr (.inr (.inr (.inr (.inr (.inr (.inr (.inl ⟨i, rfl, rfl⟩))))))))
  | rt =>
    cases c <;> simp only [chkC] at h <;> try contradiction
    exact .inr (.inr (.inr (.inr (.inr (.inr (.inr (.inr (.inr ⟨rfl, rfl⟩))))))))

section
variable {P : Program} {F : Fr}

theorem code_ok : ∀ (c2 : C2) (c : Code) (Q2 : Ex → St → Prop) (Q : Exit → Act → World → Prop) (st : St) (G : Gh) (a : Act) (w : World), chkC P F.nt c2 c = true → wp (Sem P) c2 st Q2 → Sim F G st a w →
    (∀ ex st' G' a' w', Q2 ex st' → Sim F G' st' a' w' → Q (exOf ex) a' w') → c.wp P Q a w := by
  intro c2
  induction c2 with
  | sk =>
    intro c Q2 Q st G a w hc he h hq
    rcases chkC_spec hc with ⟨_, _, _, g, _⟩ | ⟨_, rfl⟩ | ⟨l, _, rfl⟩ | ⟨_, _, _, _, _, g, _⟩ | ⟨_, _, _, _, g, _⟩ | ⟨_, _, _, _, _, _, g, _⟩ | ⟨_, _, _, g, _⟩ | ⟨_, _, _, _, g, _⟩ | ⟨_, g, _⟩ | ⟨g, _⟩ <;> try (cases g)
    · exact wp_skip (hq .nrm st G a w he h)
    · exact wp_label (hq .nrm st G a w he h)
  | rg n l =>
    intro c Q2 Q st G a w hc he h hq
    rcases chkC_spec hc with ⟨_, _, _, g, _⟩ | ⟨g, _⟩ | ⟨_, g, _⟩ | ⟨_, _, id, ops, dr, g, rfl, h1, h2⟩ | ⟨_, _, _, _, g, _⟩ | ⟨_, _, _, _, _, _, g, _⟩ | ⟨_, _, _, g, _⟩ | ⟨_, _, _, _, g, _⟩ | ⟨_, g, _⟩ | ⟨g, _⟩ <;> try (cases g)
    cases dr with
    | false =>
      refine wp_region ?_
      have := seq_ok (Q := Q) l ops.toList 0 st G a w h h1 rfl he (fun st' G' a' w' hk hs => hq .nrm st' G' a' w' hk hs)
      rw [List.range_eq_range']
      simpa using this
    | true => exact draw_ok (h2 rfl).2 h1 (h2 rfl).1 h he (fun st' G' a' w' hk hs => hq .nrm st' G' a' w' hk hs)
  | sq a2 b2 iha ihb =>
    intro c Q2 Q st G a w hc he h hq
    rcases chkC_spec hc with ⟨_, _, _, g, _⟩ | ⟨g, _⟩ | ⟨_, g, _⟩ | ⟨_, _, _, _, _, g, _⟩ | ⟨_, _, x, y, g, rfl, h1, h2⟩ | ⟨_, _, _, _, _, _, g, _⟩ | ⟨_, _, _, g, _⟩ | ⟨_, _, _, _, g, _⟩ | ⟨_, g, _⟩ | ⟨g, _⟩ <;> try (cases g)
    refine wp_seq (iha x _ _ st G a w h1 he h (fun ex st' G' a' w' hk hs => ?_))
    cases ex with
    | nrm => exact ihb y Q2 Q st' G' a' w' h2 hk hs hq
    | ext i => exact hq _ st' G' a' w' hk hs
    | ret => exact hq _ st' G' a' w' hk hs
  | cd u a2 b2 iha ihb =>
    intro c Q2 Q st G a w hc he h hq
    rcases chkC_spec hc with ⟨_, _, _, g, _⟩ | ⟨g, _⟩ | ⟨_, g, _⟩ | ⟨_, _, _, _, _, g, _⟩ | ⟨_, _, _, _, g, _⟩ | ⟨_, _, _, v, x, y, g, rfl, h0, h1, h2⟩ | ⟨_, _, _, g, _⟩ | ⟨_, _, _, _, g, _⟩ | ⟨_, g, _⟩ | ⟨g, _⟩ <;> try (cases g)
    simp only [wp] at he
    split at he <;> try contradiction
    rename_i t hu
    have hv := h.x h0
    rw [hu] at hv
    have hv := hv.val.1
    exact wp_cond_split hv (fun ht => iha x Q2 Q st G a w h1 (he.1 ht) h hq) (fun ht => ihb y Q2 Q st G a w h2 (he.2 ht) h hq)
  | bl i a2 iha =>
    intro c Q2 Q st G a w hc he h hq
    rcases chkC_spec hc with ⟨_, _, _, g, _⟩ | ⟨g, _⟩ | ⟨_, g, _⟩ | ⟨_, _, _, _, _, g, _⟩ | ⟨_, _, _, _, g, _⟩ | ⟨_, _, _, _, _, _, g, _⟩ | ⟨_, _, x, g, rfl, h1⟩ | ⟨_, _, _, _, g, _⟩ | ⟨_, g, _⟩ | ⟨g, _⟩ <;> try (cases g)
    refine wp_block (iha x _ _ st G a w h1 he h (fun ex st' G' a' w' hk hs => ?_))
    cases ex with
    | nrm => exact hq _ st' G' a' w' hk hs
    | ext j =>
      dsimp only at hk
      show Exit.inBlock i Q (.exit j) a' w'
      simp only [Exit.inBlock]
      by_cases hj : j = i
      · rw [if_pos hj] at hk ⊢; exact hq _ st' G' a' w' hk hs
      · rw [if_neg hj] at hk ⊢; exact hq _ st' G' a' w' hk hs
    | ret => exact hq _ st' G' a' w' hk hs
  | lp ks js a2 iha =>
    intro c Q2 Q st G a w hc he h hq
    rcases chkC_spec hc with ⟨_, _, _, g, _⟩ | ⟨g, _⟩ | ⟨_, g, _⟩ | ⟨_, _, _, _, _, g, _⟩ | ⟨_, _, _, _, g, _⟩ | ⟨_, _, _, _, _, _, g, _⟩ | ⟨_, _, _, g, _⟩ | ⟨_, _, _, x, g, rfl, h1⟩ | ⟨_, g, _⟩ | ⟨g, _⟩ <;> try (cases g)
    obtain ⟨I, ⟨hcl, n0, hn0⟩, hround⟩ := he
    refine wp_loop_ghost (fun n a w => ∃ s G, I n s ∧ Sim F G s a w) n0 ⟨_, G, hn0, h.fgt hcl⟩ (fun n a w ⟨s, G, hI, hs⟩ => ?_)
    refine iha x _ _ s G a w h1 (hround n s hI) hs (fun ex st' G' a' w' hk hs' => ?_)
    cases ex with
    | nrm =>
      obtain ⟨hc', m, hm, hI'⟩ := hk
      exact ⟨m, hm, _, G', hI', hs'.fgt hc'⟩
    | ext j => exact hq _ st' G' a' w' hk hs'
    | ret => exact hq _ st' G' a' w' hk hs'
  | fg ks js a2 iha =>
    intro c Q2 Q st G a w hc he h hq
    rcases chkC_spec hc with ⟨_, _, _, g, h1⟩ | ⟨g, _⟩ | ⟨_, g, _⟩ | ⟨_, _, _, _, _, g, _⟩ | ⟨_, _, _, _, g, _⟩ | ⟨_, _, _, _, _, _, g, _⟩ | ⟨_, _, _, g, _⟩ | ⟨_, _, _, _, g, _⟩ | ⟨_, g, _⟩ | ⟨g, _⟩ <;> try (cases g)
    exact iha c Q2 Q _ G a w h1 he.2 (h.fgt he.1) hq
  | ex i =>
    intro c Q2 Q st G a w hc he h hq
    rcases chkC_spec hc with ⟨_, _, _, g, _⟩ | ⟨g, _⟩ | ⟨_, g, _⟩ | ⟨_, _, _, _, _, g, _⟩ | ⟨_, _, _, _, g, _⟩ | ⟨_, _, _, _, _, _, g, _⟩ | ⟨_, _, _, g, _⟩ | ⟨_, _, _, _, g, _⟩ | ⟨_, g, rfl⟩ | ⟨g, _⟩ <;> try (cases g)
    exact wp_exit (hq (.ext i) st G a w he h)
  | rt =>
    intro c Q2 Q st G a w hc he h hq
    rcases chkC_spec hc with ⟨_, _, _, g, _⟩ | ⟨g, _⟩ | ⟨_, g, _⟩ | ⟨_, _, _, _, _, g, _⟩ | ⟨_, _, _, _, g, _⟩ | ⟨_, _, _, _, _, _, g, _⟩ | ⟨_, _, _, g, _⟩ | ⟨_, _, _, _, g, _⟩ | ⟨_, g, _⟩ | ⟨_, rfl⟩ <;> try (cases g)
    exact wp_ret (hq .ret st G a w he h)
end
end Go.Fd

/-
  FOUNDATION 41: results: what a call hands back. Own work.
-/
namespace Go.Fd

/-- Object ob of the result stands for object e of the call (none: nil). -/
def OEm (st0 : St) : Option Oid → Ob → Prop
  | some id, ob => ∃ k es u hw ver, st0.sto id = some (.ar k es u hw ver) ∧ ob = .ar k es u es.length 0
  | none, ob => ∃ k, ob = .ar k [] true 0 0
def OE (st0 : St) : List (Option Oid) → List Ob → Prop
  | [], obs => obs = []
  | e :: r, obs => ∃ ob s, obs = ob :: s ∧ OEm st0 e ob ∧ OE st0 r s
theorem OE_length {st0 : St} : ∀ {E : List (Option Oid)} {obs : List Ob}, OE st0 E obs → obs.length = E.length
  | [], _, h => by rw [show _ = [] from h]; rfl
  | e :: r, _, ⟨ob, s, h1, _, h3⟩ => by rw [h1]; simp [OE_length h3]
theorem OE_append {st0 : St} : ∀ {E E2 : List (Option Oid)} {obs obs2 : List Ob}, OE st0 E obs → OE st0 E2 obs2 → OE st0 (E ++ E2) (obs ++ obs2)
  | [], _, _, _, h, h2 => by rw [show _ = [] from h]; exact h2
  | e :: r, _, _, _, ⟨ob, s, h1, h2, h3⟩, h4 => by rw [h1]; exact ⟨ob, _, rfl, h2, OE_append h3 h4⟩
theorem OE_get {st0 : St} : ∀ {E : List (Option Oid)} {obs : List Ob}, OE st0 E obs → ∀ (j : Nat) (e : Option Oid), E[j]? = some e → ∃ ob, obs[j]? = some ob ∧ OEm st0 e ob
  | [], _, _, j, e, h => by simp at h
  | e0 :: r, _, ⟨ob, s, h1, h2, h3⟩, j, e, h => by
    subst h1
    cases j with
    | zero => simp at h; subst h; exact ⟨ob, rfl, h2⟩
    | succ j => exact OE_get h3 j e (by simpa using h)

/-- T: objects that were dissolved; E: objects that were handed over, in their order. -/
structure XS (st0 st : St) (T : Oid → Prop) (E : List (Option Oid)) : Prop where
  kl : Kl (fun i => T i ∨ some i ∈ E) st0 st
  nd : ∀ (a b : Nat) (id : Oid), E[a]? = some (some id) → E[b]? = some (some id) → a = b
  dj : ∀ id, some id ∈ E → ¬ T id

/-- What the store at the end must be. -/
structure FinS (G : Gh) (st0 : St) (w : World) (T : Oid → Prop) (E : List (Option Oid)) (G' : Gh) (S' : Sto) : Prop where
  old : ∀ i ob, i.1 ≠ st0.lvl → st0.sto i = some ob → S' i = some ob ∧ G' i = G i
  av : ∀ b, b < w.heap.size → (∀ id ob, st0.sto id = some ob → own1 G id ob b → T id) → Av G' S' w b
  ex : ∀ (j : Nat) (id : Oid), E[j]? = some (some id) → G' (st0.lvl, j) = G id ∧ ∃ k es u hw ver, st0.sto id = some (.ar k es u hw ver) ∧ S' (st0.lvl, j) = some (.ar k es u es.length 0)
  nil : ∀ j : Nat, E[j]? = some none → G' (st0.lvl, j) = (fun _ => none) ∧ ∃ k, S' (st0.lvl, j) = some (.ar k [] true 0 0)

def Good (G : Gh) (st0 : St) (w : World) (T : Oid → Prop) (E : List (Option Oid)) (j0 : Nat) (y : IV) (v : Value) : Prop :=
  ∀ (T2 : Oid → Prop) (E2 : List (Option Oid)) (G' : Gh) (S' : Sto), (∀ i, T i → T2 i) → (∀ (j : Nat) (e : Option Oid), E[j]? = some e → E2[j]? = some e) → FinS G st0 w T2 E2 G' S' → VR G' S' w (impv true st0.lvl 0 j0 y).1 v
def Goods (G : Gh) (st0 : St) (w : World) (T : Oid → Prop) (E : List (Option Oid)) (j0 : Nat) (y : List IV) (v : List Value) : Prop :=
  ∀ (T2 : Oid → Prop) (E2 : List (Option Oid)) (G' : Gh) (S' : Sto), (∀ i, T i → T2 i) → (∀ (j : Nat) (e : Option Oid), E[j]? = some e → E2[j]? = some e) → FinS G st0 w T2 E2 G' S' → VRs G' S' w (impvs true st0.lvl 0 j0 y).1 v

section
variable {P : Program} {F : Fr} {G : Gh} {st0 st : St} {a : Act} {w : World} {T : Oid → Prop} {E : List (Option Oid)}

theorem XS.nil (st0 : St) : XS st0 st0 (fun _ => False) [] :=
  ⟨by
    have := Kl.refl st0
    rw [show (fun i => (fun _ => False) i ∨ some i ∈ ([] : List (Option Oid))) = fun _ => False from by funext i; simp]
    exact this, fun a b id h => by simp at h, fun id h => by cases h⟩

theorem XS.alive (x : XS st0 st T E) {id : Oid} {ob : Ob} (h : st.sto id = some ob) : ¬ T id ∧ some id ∉ E ∧ ∃ ob0, st0.sto id = some ob0 ∧ Wk (fun i => T i ∨ some i ∈ E) ob0 ob := by
  obtain ⟨h1, h2⟩ := x.kl.only id ob h
  exact ⟨fun h => h1 (.inl h), fun h => h1 (.inr h), h2⟩

theorem XS.melt (h0 : Sim F G st0 a w) (x : XS st0 st T E) {id : Oid} {ob : Ob} (hid : id.1 = st0.lvl) (hs : st.sto id = some ob) : XS st0 (kill id st) (fun i => T i ∨ i = id) E := by
  obtain ⟨a1, a2, ob0, a3, _⟩ := x.alive hs
  have k := x.kl.step (id := id) (fun i cells h => h0.ok.low i cells h) h0.outl hid (by rw [a3]; rfl)
  refine ⟨?_, x.nd, fun i hi => ?_⟩
  · rw [show (fun i => (T i ∨ i = id) ∨ some i ∈ E) = fun i => (T i ∨ some i ∈ E) ∨ i = id from by funext i; exact propext ⟨fun h => by rcases h with (h | h) | h <;> simp [h], fun h => by rcases h with (h | h) | h <;> simp [h]⟩]
    exact k
  · rintro (h | h)
    · exact x.dj i hi h
    · subst h; exact a2 hi

theorem XS.hand (h0 : Sim F G st0 a w) (x : XS st0 st T E) {id : Oid} {ob : Ob} (hid : id.1 = st0.lvl) (hs : st.sto id = some ob) : XS st0 (kill id st) T (E ++ [some id]) := by
  obtain ⟨a1, a2, ob0, a3, _⟩ := x.alive hs
  have k := x.kl.step (id := id) (fun i cells h => h0.ok.low i cells h) h0.outl hid (by rw [a3]; rfl)
  have hmem : ∀ (a : Nat) (i : Oid), (E ++ [some id])[a]? = some (some i) → E[a]? = some (some i) ∨ (i = id ∧ a = E.length) := fun a i h => by
    rw [List.getElem?_append] at h
    split at h
    · exact .inl h
    · rename_i hl
      have : a - E.length = 0 := by
        rcases Nat.eq_zero_or_pos (a - E.length) with h' | h'
        · exact h'
        · rw [List.getElem?_eq_none (by simp; omega)] at h; cases h
      rw [this] at h
      simp at h
      exact .inr ⟨h.symm, by omega⟩
  refine ⟨?_, fun a b i ha hb => ?_, fun i hi => ?_⟩
  · rw [show (fun i => T i ∨ some i ∈ E ++ [some id]) = fun i => (T i ∨ some i ∈ E) ∨ i = id from by funext i; simp [or_assoc]]
    exact k
  · rcases hmem a i ha with h1 | ⟨rfl, h1⟩ <;> rcases hmem b i hb with h2 | ⟨h3, h2⟩
    · exact x.nd a b i h1 h2
    · subst h3; exact absurd (List.mem_of_getElem? h1) a2
    · exact absurd (List.mem_of_getElem? h2) a2
    · omega
  · rcases List.mem_append.1 hi with h | h
    · exact x.dj i h
    · simp at h; subst h; exact a1

theorem XS.hnil (x : XS st0 st T E) : XS st0 st T (E ++ [none]) := by
  refine ⟨?_, fun a b i ha hb => ?_, fun i hi => x.dj i (by simpa using hi)⟩
  · rw [show (fun i => T i ∨ some i ∈ E ++ [none]) = fun i => T i ∨ some i ∈ E from by funext i; simp]
    exact x.kl
  · have key : ∀ c : Nat, (E ++ [none])[c]? = some (some i) → E[c]? = some (some i) := fun c h => by
      rw [List.getElem?_append] at h
      split at h
      · exact h
      · have := List.mem_of_getElem? h
        simp at this
    exact x.nd a b i (key a ha) (key b hb)

theorem FinS.mono {G' : Gh} {S' : Sto} (f : FinS G st0 w T E G' S') (b : Nat) (h : Av G st0.sto w b) : Av G' S' w b :=
  f.av b h.1 fun id ob hs ho => absurd ho (h.2 id ob hs)
theorem FinS.ids {G' : Gh} {S' : Sto} (f : FinS G st0 w T E G' S') (i : Oid) (ob : Ob) (hi : i.1 ≠ st0.lvl) (hs : st0.sto i = some ob) : ∃ ob', S' i = some ob' ∧ idR G G' i ob ob' := by
  obtain ⟨h1, h2⟩ := f.old i ob hi hs
  exact ⟨ob, h1, idR_refl h2 ob⟩
theorem FinS.vr {G' : Gh} {S' : Sto} (f : FinS G st0 w T E G' S') (x : IV) (v : Value) (hm : men (fun i => i.1 ≠ st0.lvl) x) (h : VR G st0.sto w x v) : VR G' S' w x v :=
  VR_step (P := fun i => i.1 ≠ st0.lvl) f.mono (fun _ _ => rfl) f.ids x v hm h
theorem FinS.vrs {G' : Gh} {S' : Sto} (f : FinS G st0 w T E G' S') (x : List IV) (v : List Value) (hm : mens (fun i => i.1 ≠ st0.lvl) x) (h : VRs G st0.sto w x v) : VRs G' S' w x v :=
  VRs_step (P := fun i => i.1 ≠ st0.lvl) f.mono (fun _ _ => rfl) f.ids x v hm h

/-- What one cell of a result becomes. -/
def CellOk (F : Fr) (G : Gh) (st0 : St) (w : World) (T : Oid → Prop) (E : List (Option Oid)) (v : Value) (K : IV → St → Prop) : Prop :=
  ∃ y st' T' e obs, K y st' ∧ XS st0 st' T' (E ++ e) ∧ (∀ i, T i → T' i) ∧ low F.lvl y ∧ OE st0 e obs ∧ (impv true st0.lvl 0 E.length y).2 = obs ∧ Good G st0 w T' (E ++ e) E.length y v

theorem CellOk.plain {v : Value} {K : IV → St → Prop} (hl : F.lvl = st0.lvl) (x : XS st0 st T E) {y : IV} (hk : K y st) (h1 : (impv true st0.lvl 0 E.length y) = (y, [])) (hm : low st0.lvl y) (hv : VR G st0.sto w y v) : CellOk F G st0 w T E v K := by
  refine ⟨y, st, T, [], [], hk, by simpa using x, fun _ h => h, by rw [hl]; exact hm, rfl, by rw [h1], fun T2 E2 G' S' _ _ f => ?_⟩
  rw [h1]
  exact f.vr y v (men_mono (fun i hi => by have hi : i.1 < st0.lvl := hi; exact Nat.ne_of_lt hi) y hm) hv

theorem expc_ok (h0 : Sim F G st0 a w) (xs : XS st0 st T E) {k : Nat} {x : IV} {v : Value} {K : IV → St → Prop} (hv : VR G st0.sto w x v) (he : expc k x st K) : CellOk F G st0 w T E v K := by
  have hll : st.lvl = st0.lvl := xs.kl.lvl
  have hout : ∀ id, (st0.sto id).isSome = true → id.1 ≠ st0.lvl → id.1 < st0.lvl := fun id hs hn => by
    obtain ⟨ob, hob⟩ := Option.isSome_iff_exists.1 hs
    rw [sto_out hn] at hob
    exact h0.outl id ob hob
  have plain := fun (y : IV) (hk : K y st) (h1 : (impv true st0.lvl 0 E.length y) = (y, [])) (hm : low st0.lvl y) (hv : VR G st0.sto w y v) => CellOk.plain (F := F) h0.lvl.symm xs hk h1 hm hv
  unfold expc at he
  split at he
  · rename_i id p off len cap s
    split at he
    · rename_i hid
      rw [hll] at hid
      split at he <;> try contradiction
      rename_i k' es u hw ver hs
      obtain ⟨rfl, rfl, he⟩ := he
      obtain ⟨_, _, ob0, hs0, hwk⟩ := xs.alive hs
      cases hwk
      split at he
      · obtain ⟨hl, hk⟩ := he
        refine ⟨_, _, (fun i => T i ∨ i = id), [], [], hk, by simpa using xs.melt h0 hid hs, fun i h => .inl h, trivial, rfl, rfl, fun T2 E2 G' S' hT hE f => ?_⟩
        have hr := hd_reads (A := Av G' S' w) h0.ok (fun _ b hb => f.mono b hb) hs0 (fun b ho => f.av b (own_lt (h0.ok.obs _ _ hs0) ho) fun id' ob' hs' ho' => by
          have := h0.ok.dis _ _ _ _ b hs' hs0 ho' ho
          exact hT _ (.inr this)) hv rfl rfl hl
        exact hr.1
      · obtain ⟨rfl, rfl, rfl, rfl, hk⟩ := he
        refine ⟨_, _, T, [some id], _, hk, xs.hand h0 hid hs, fun i h => h, trivial, ⟨_, [], rfl, ⟨_, _, _, _, _, hs0, rfl⟩, rfl⟩, rfl, fun T2 E2 G' S' hT hE f => ?_⟩
        obtain ⟨hG, k2, es2, u2, hw2, ver2, hs2, hS⟩ := f.ex E.length id (hE _ _ (by simp))
        rw [hs0] at hs2; cases hs2
        obtain ⟨h1, k3, es3, u3, hw3, ver3, hs3, _, h3⟩ := hv
        rw [hs0] at hs3; cases hs3
        simp only [impv, impc, if_true, Nat.zero_add]
        refine ⟨h1, _, _, _, _, _, hS, Nat.le_refl _, fun _ => ?_⟩
        rw [hG]
        exact h3 rfl
    · rename_i hid
      rw [hll] at hid
      have hsome : (st0.sto id).isSome = true := by
        obtain ⟨_, k3, es3, u3, hw3, ver3, hs3, _⟩ := hv
        rw [hs3]; rfl
      exact plain _ he rfl (hout id hsome hid) hv
  · rename_i es
    split at he
    · rename_i k1
      refine ⟨_, _, T, [none], _, he, xs.hnil, fun i h => h, trivial, ⟨_, [], rfl, ⟨_, rfl⟩, rfl⟩, rfl, fun T2 E2 G' S' hT hE f => ?_⟩
      obtain ⟨hG, k2, hS⟩ := f.nil E.length (hE _ _ (by simp))
      obtain ⟨⟨ad, rfl⟩, _⟩ := hv
      simp only [impv, impc, if_true, Nat.zero_add, List.length_nil]
      refine ⟨⟨ad, 0, rfl, Nat.le_refl _⟩, _, _, _, _, _, hS, Nat.le_refl _, fun _ => ?_⟩
      refine ⟨[], k2, ad, 0, rfl, fun _ => rfl, fun e he => (by simp at he), rfl, Nat.le_refl _, fun m hm => (by cases hm), fun _ _ => ?_, .inl rfl⟩
      rw [hG]; rfl
    · exact plain _ he rfl trivial hv.2
  · rename_i id o
    obtain ⟨h1, h2⟩ := he
    rw [hll] at h1
    have hsome : (st0.sto id).isSome = true := by
      obtain ⟨cells, b, c, hs, _⟩ := hv
      rw [hs]; rfl
    exact plain _ h2 rfl (hout id hsome h1) hv
  · exact he.elim
  · exact he.elim
  · exact he.elim
  · exact he.elim
  · exact he.elim
  · rename_i f c
    obtain ⟨h1, h2⟩ := he
    rw [hll] at h1
    exact plain _ h2 rfl h1 hv
  · cases x with
    | un => exact plain _ he rfl trivial hv
    | tr t => exact plain _ he rfl trivial hv
    | er => exact plain _ he rfl trivial hv
    | hd id p off len cap s => exact (‹∀ (id : Oid) (p : Pth) (off len : Nat) (cap : Option Nat) (s : Nat), IV.hd _ _ _ _ _ _ = IV.hd id p off len cap s → False› id p off len cap s rfl).elim
    | cs es => exact (‹∀ (es : Row), IV.cs _ = IV.cs es → False› es rfl).elim
    | ab id o => exact (‹∀ (id : Oid) (o : Nat), IV.ab _ _ = IV.ab id o → False› id o rfl).elim
    | ae id p i f s => exact (‹∀ (id : Oid) (p : Pth) (i f s : Nat), IV.ae _ _ _ _ _ = IV.ae id p i f s → False› id p i f s rfl).elim
    | ta c => exact (‹∀ (c : List Tr), IV.ta _ = IV.ta c → False› c rfl).elim
    | ag l => exact (‹∀ (l : List IV), IV.ag _ = IV.ag l → False› l rfl).elim
    | tu l => exact (‹∀ (l : List IV), IV.tu _ = IV.tu l → False› l rfl).elim
    | ow k es u => exact (‹∀ (k : Nat) (es : Row) (u : Bool), IV.ow _ _ _ = IV.ow k es u → False› k es u rfl).elim
    | fn f c => exact (‹∀ (f : FuncId) (c : List IV), IV.fn _ _ = IV.fn f c → False› f c rfl).elim
end
end Go.Fd

/-
  FOUNDATION 42: results (all of them); the contract of a function out of its annotated code. Own work.
-/
namespace Go.Fd

def CellsOk (F : Fr) (G : Gh) (st0 : St) (w : World) (T : Oid → Prop) (E : List (Option Oid)) (vs : List Value) (K : List IV → St → Prop) : Prop :=
  ∃ ys st' T' e obs, K ys st' ∧ XS st0 st' T' (E ++ e) ∧ (∀ i, T i → T' i) ∧ lows F.lvl ys ∧ OE st0 e obs ∧ (impvs true st0.lvl 0 E.length ys).2 = obs ∧ Goods G st0 w T' (E ++ e) E.length ys vs

section
variable {P : Program} {F : Fr} {G : Gh} {st0 st : St} {a : Act} {w : World} {T : Oid → Prop} {E : List (Option Oid)}

theorem CellsOk.nil {K : List IV → St → Prop} (x : XS st0 st T E) (hk : K [] st) : CellsOk F G st0 w T E [] K :=
  ⟨[], st, T, [], [], hk, by simpa using x, fun _ h => h, trivial, rfl, rfl, fun _ _ _ _ _ _ _ => rfl⟩

theorem CellsOk.cons {v : Value} {vs : List Value} {K : IV → St → Prop} {K2 : List IV → St → Prop} (h : CellOk F G st0 w T E v K) (hr : ∀ y st' T' E', K y st' → XS st0 st' T' E' → CellsOk F G st0 w T' E' vs (fun ys st'' => K2 (y :: ys) st'')) :
    CellsOk F G st0 w T E (v :: vs) K2 := by
  obtain ⟨y, st1, T1, e1, obs1, hk, hx, ht, hlow, hoe, himp, hg⟩ := h
  obtain ⟨ys, st2, T2, e2, obs2, hk2, hx2, ht2, hlow2, hoe2, himp2, hg2⟩ := hr y st1 T1 (E ++ e1) hk hx
  have hlen : (E ++ e1).length = E.length + (impv true st0.lvl 0 E.length y).2.length := by rw [himp, OE_length hoe]; simp
  rw [hlen] at himp2 hg2
  refine ⟨y :: ys, st2, T2, e1 ++ e2, obs1 ++ obs2, hk2, by rw [← List.append_assoc]; exact hx2, fun i h => ht2 i (ht i h), ⟨hlow, hlow2⟩, OE_append hoe hoe2, ?_, fun T3 E3 G' S' hT hE f => ?_⟩
  · simp only [impvs]
    rw [himp2, himp]
  · simp only [impvs]
    rw [← List.append_assoc] at hE
    refine ⟨v, vs, rfl, hg T3 E3 G' S' (fun i h => hT i (ht2 i h)) (fun j e he => hE j e ?_) f, hg2 T3 E3 G' S' hT hE f⟩
    have := (List.getElem?_eq_some_iff.1 he).1
    rw [List.getElem?_append_left this]; exact he

theorem expcs_ok (h0 : Sim F G st0 a w) : ∀ (l : List IV) (ks : List Nat) (vs : List Value) (st : St) (T : Oid → Prop) (E : List (Option Oid)) (K : List IV → St → Prop), XS st0 st T E → VRs G st0.sto w l vs → expcs ks l st K → CellsOk F G st0 w T E vs K
  | [], ks, vs, st, T, E, K, hx, hv, he => by
    rw [show vs = [] from hv]
    simp only [expcs] at he
    exact .nil hx he
  | x :: r, ks, vs, st, T, E, K, hx, hv, he => by
    obtain ⟨v, vr, rfl, h1, h2⟩ := hv
    simp only [expcs] at he
    exact .cons (expc_ok h0 hx h1 he) fun y st' T' E' hk hx' => expcs_ok h0 r ks.tail vr st' T' E' _ hx' h2 hk

theorem expv_ok (h0 : Sim F G st0 a w) (xs : XS st0 st T E) {ks : List Nat} {x : IV} {v : Value} {K : IV → St → Prop} (hv : VR G st0.sto w x v) (he : expv ks x st K) : CellOk F G st0 w T E v K := by
  unfold expv at he
  split at he
  · rename_i l
    obtain ⟨vs, rfl, hv⟩ := hv
    obtain ⟨ys, st2, T2, e2, obs2, hk2, hx2, ht2, hlow2, hoe2, himp2, hg2⟩ := expcs_ok h0 l ks vs st T E _ xs hv he
    refine ⟨.ag ys, st2, T2, e2, obs2, hk2, hx2, ht2, by simpa only [men] using hlow2, hoe2, by simpa only [impv] using himp2, fun T3 E3 G' S' hT hE f => ?_⟩
    simp only [impv]
    exact ⟨vs, rfl, hg2 T3 E3 G' S' hT hE f⟩
  · exact expc_ok h0 xs hv he

/-- The reading of one result. -/
def readR (a : Act) : ResultVar → _root_.Go.Sem Value
  | .tmp t => pure (a.tmps.getD t undef)
  | .cell b t => do loadVar t (← asAddr (a.tmps.getD b undef))

theorem exp1_ok (h0 : Sim F G st0 a w) (xs : XS st0 st T E) {r : RS} {rv : ResultVar} {K : IV → St → Prop} (hc : chkRes P [r] [rv] = true) (he : exp1 r st K) : ∃ v, (readR a rv).run P w = .ok v w ∧ CellOk F G st0 w T E v K := by
  have henv : ∀ n, VR G st0.sto w (lk n st.env) (a.tmps.getD n undef) := fun n => xs.kl.vr n G st0.sto w _ (h0.env n)
  cases r with
  | t n ks =>
    cases rv with
    | cell => simp only [chkRes] at hc; cases hc
    | tmp m =>
      simp only [chkRes, Bool.and_eq_true, beq_iff_eq] at hc
      obtain ⟨rfl, _⟩ := hc
      exact ⟨_, rfl, expv_ok h0 xs (henv n) he⟩
  | c n m ks =>
    cases rv with
    | tmp => simp only [chkRes] at hc; cases hc
    | cell b t =>
      simp only [chkRes, Bool.and_eq_true, beq_iff_eq] at hc
      obtain ⟨⟨rfl, hsh⟩, _⟩ := hc
      simp only [exp1] at he
      split at he <;> try contradiction
      rename_i id off hl
      have hv := henv n
      rw [hl] at hv
      split at he <;> try contradiction
      rename_i cells hs
      obtain ⟨_, _, ob0, hs0, hwk⟩ := xs.alive hs
      cases hwk with
      | bx cells0 _ _ hwv _ =>
        obtain ⟨cells1, b1, c1, hs1, hg1, hv⟩ := hv
        obtain ⟨b, c, vs, ty, hg, hh, hvs⟩ := h0.ok.obs id _ hs0
        rw [hg] at hg1; cases hg1
        have hvs := hwv _ _ _ _ hvs
        have hcell : ∀ j u, vs.toList[j]? = some u → w.cell? ⟨b1, j, none⟩ = some u := fun j u hu => by
          rw [cell_of_row w b1 j vs ty (0, 0) hh]
          simpa using hu
        have hrun : ∀ u, (loadVar t ⟨b1, off, none⟩).run P w = .ok u w → (readR a (.cell n t)).run P w = .ok u w := fun u hu => by
          simp only [readR, hv, asAddr, Sem.run_bind, Sem.run_pure, Result.andThen_ok, hu]
        cases m with
        | none =>
          obtain ⟨x, hx, _, he⟩ := he
          obtain ⟨u, hu, hxu⟩ := VRs_get hvs off x hx
          simp only [shapeT, beq_iff_eq] at hsh
          exact ⟨u, hrun u (run_loadVar_one hsh (hcell off u hu)), expv_ok h0 xs hxu he⟩
        | some m =>
          obtain ⟨hle, he⟩ := he
          simp only [shapeT, Bool.and_eq_true, beq_iff_eq] at hsh
          have hlen := VRs_length hvs
          have hl2 : ((vs.toList.drop off).take m).length = m := by rw [List.length_take, List.length_drop, hlen]; omega
          refine ⟨.agg ((vs.toList.drop off).take m).toArray, hrun _ (run_loadVar_agg hsh.1 (by rw [hl2]; exact hsh.2) (fun j u hu => ?_)), expv_ok (x := .ag ((cells.drop off).take m)) h0 xs ⟨_, rfl, VRs_take (VRs_drop hvs off) m⟩ he⟩
          rw [add_mk]
          refine hcell _ _ ?_
          rw [List.getElem?_take] at hu
          split at hu
          · simpa using hu
          · cases hu

theorem exps_ok (h0 : Sim F G st0 a w) : ∀ (rs : List RS) (rvs : List ResultVar) (st : St) (T : Oid → Prop) (E : List (Option Oid)) (K : List IV → St → Prop), XS st0 st T E → chkRes P rs rvs = true → exps rs st K →
    ∃ vs, (rvs.mapM (readR a)).run P w = .ok vs w ∧ CellsOk F G st0 w T E vs K
  | [], rvs, st, T, E, K, hx, hc, he => by
    cases rvs with
    | nil => exact ⟨[], rfl, .nil hx he⟩
    | cons => simp only [chkRes] at hc; cases hc
  | r :: rs, rvs, st, T, E, K, hx, hc, he => by
    cases rvs with
    | nil => simp only [chkRes] at hc; cases hc
    | cons rv rvs =>
      have hc1 : chkRes P [r] [rv] = true ∧ chkRes P rs rvs = true := by
        cases r <;> cases rv <;> simp_all [chkRes]
      simp only [exps] at he
      obtain ⟨v, hv, hk⟩ := exp1_ok h0 hx hc1.1 he
      -- the rest
      obtain ⟨y, st1, T1, e1, obs1, hk1, hx1, ht1, hlow1, hoe1, himp1, hg1⟩ := hk
      obtain ⟨vs, hvs, hk2⟩ := exps_ok h0 rs rvs st1 T1 (E ++ e1) _ hx1 hc1.2 hk1
      refine ⟨v :: vs, ?_, ?_⟩
      · rw [List.mapM_cons]
        simp only [Sem.run_bind, hv, Result.andThen_ok, hvs, Sem.run_pure]
      · refine CellsOk.cons (K := fun y' st' => y' = y ∧ st' = st1 ∧ ∀ T' E', XS st0 st' T' E' → CellsOk F G st0 w T' E' vs (fun ys st'' => K (y :: ys) st'')) ?_ (fun y' st' T' E' hk' hx' => ?_)
        · refine ⟨y, st1, T1, e1, obs1, ⟨rfl, rfl, fun T' E' hx' => ?_⟩, hx1, ht1, hlow1, hoe1, himp1, hg1⟩
          obtain ⟨vs', hvs', hk3⟩ := exps_ok h0 rs rvs st1 T' E' _ hx' hc1.2 hk1
          rw [hvs] at hvs'
          cases hvs'
          exact hk3
        · obtain ⟨rfl, rfl, hh⟩ := hk'
          exact hh T' E' hx'

theorem fin_fin (h0 : Sim F G st0 a w) (x : XS st0 st T E) {obs : List Ob} (oe : OE st0 E obs) {G' : Gh} {S' : Sto} (hG1 : ∀ i, i.1 ≠ st0.lvl → G' i = G i) (hG2 : ∀ (j : Nat) (id : Oid), E[j]? = some (some id) → G' (st0.lvl, j) = G id)
    (hG3 : ∀ j : Nat, E[j]? = some none → G' (st0.lvl, j) = fun _ => none) (hS1 : ∀ i, i.1 ≠ st0.lvl → S' i = st0.sto i) (hS2 : ∀ j : Nat, S' (st0.lvl, j) = obs[j]?) : FinS G st0 w T E G' S' ∧ SOk G' S' w ∧ ∀ (L n : Nat), L ≤ st0.lvl → Frm ⟨G, st0.sto, w, L, n⟩ G' S' w := by
  -- where an object of the end comes from
  have src : ∀ i ob, S' i = some ob → (i.1 ≠ st0.lvl ∧ st0.sto i = some ob) ∨ (∃ j id k es u hw ver, i = (st0.lvl, j) ∧ E[j]? = some (some id) ∧ st0.sto id = some (.ar k es u hw ver) ∧ ob = .ar k es u es.length 0) ∨
      (∃ j k, i = (st0.lvl, j) ∧ E[j]? = some none ∧ ob = .ar k [] true 0 0) := fun i ob hs => by
    by_cases hi : i.1 = st0.lvl
    · right
      obtain ⟨i1, j⟩ := i
      have hi : i1 = st0.lvl := hi
      subst hi
      rw [hS2] at hs
      have hj : j < E.length := by rw [← OE_length oe]; exact (List.getElem?_eq_some_iff.1 hs).1
      obtain ⟨e, he⟩ : ∃ e, E[j]? = some e := ⟨_, List.getElem?_eq_getElem hj⟩
      obtain ⟨ob', h1, h2⟩ := OE_get oe j e he
      rw [hs] at h1; cases h1
      cases e with
      | some id =>
        obtain ⟨k, es, u, hw, ver, h3, h4⟩ := h2
        exact .inl ⟨j, id, k, es, u, hw, ver, rfl, he, h3, h4⟩
      | none =>
        obtain ⟨k, h4⟩ := h2
        exact .inr ⟨j, k, rfl, he, h4⟩
    · exact .inl ⟨hi, by rw [← hS1 i hi]; exact hs⟩
  have hdead : ∀ i, T i ∨ some i ∈ E → i.1 = st0.lvl := x.kl.dead
  -- who owned its blocks
  have osrc : ∀ i ob b, S' i = some ob → own1 G' i ob b → ∃ i0 ob0, st0.sto i0 = some ob0 ∧ own1 G i0 ob0 b ∧ ¬ T i0 ∧ ((i.1 ≠ st0.lvl ∧ i0 = i) ∨ ∃ j, i = (st0.lvl, j) ∧ E[j]? = some (some i0)) := fun i ob b hs ho => by
    rcases src i ob hs with ⟨hi, h1⟩ | ⟨j, id, k, es, u, hw, ver, rfl, he, h3, rfl⟩ | ⟨j, k, rfl, he, rfl⟩
    · exact ⟨i, ob, h1, (own_ren (hG1 i hi)).1 ho, fun ht => hi (hdead i (.inl ht)), .inl ⟨hi, rfl⟩⟩
    · refine ⟨id, _, h3, ?_, x.dj id (List.mem_of_getElem? he), .inr ⟨j, rfl, he⟩⟩
      obtain ⟨p, c, h4, h5, h6⟩ := ho
      rw [hG2 j id he] at h6
      exact ⟨p, c, h4, h5, h6⟩
    · obtain ⟨p, c, h4, h5, h6⟩ := ho
      rw [hG3 j he] at h6
      cases h6
  have fs : FinS G st0 w T E G' S' := by
    refine ⟨fun i ob hi hs => ⟨by rw [hS1 i hi]; exact hs, hG1 i hi⟩, fun b hb hT => ⟨hb, fun i ob hs ho => ?_⟩, fun j id he => ⟨hG2 j id he, ?_⟩, fun j he => ⟨hG3 j he, ?_⟩⟩
    · obtain ⟨i0, ob0, h1, h2, h3, _⟩ := osrc i ob b hs ho
      exact h3 (hT i0 ob0 h1 h2)
    · obtain ⟨ob, h1, k, es, u, hw, ver, h2, rfl⟩ := OE_get oe j _ he
      exact ⟨k, es, u, hw, ver, h2, by rw [hS2]; exact h1⟩
    · obtain ⟨ob, h1, k, rfl⟩ := OE_get oe j _ he
      exact ⟨k, by rw [hS2]; exact h1⟩
  have hlows : ∀ i cells, i.1 ≠ st0.lvl → st0.sto i = some (.bx cells) → mens (fun j => j.1 ≠ st0.lvl) cells := fun i cells hi hs => by
    have h1 := h0.ok.low i cells hs
    rw [sto_out hi] at hs
    have h2 := h0.outl i _ hs
    refine mens_mono (fun j hj => ?_) cells h1
    have hj : j.1 < i.1 + 1 := hj
    omega
  refine ⟨fs, ⟨fun i ob hs => ?_, fun i ob i' ob' b hs hs' ho ho' => ?_, fun i cells hs => ?_⟩, fun L n hL => ⟨Nat.le_refl _, fun _ _ _ => rfl, fun i ob b hs ho => ?_, rfl, rfl, rfl, fun y v hy hv => ?_⟩⟩
  · rcases src i ob hs with ⟨hi, h1⟩ | ⟨j, id, k, es, u, hw, ver, rfl, he, h3, rfl⟩ | ⟨j, k, rfl, he, rfl⟩
    · exact OOk_keep (hG1 i hi) fs.mono (fun _ _ => rfl) (fun _ _ => rfl) (fun cells vs e hv => fs.vrs cells vs (hlows i cells hi (by rw [h1, e])) hv) (h0.ok.obs i ob h1)
    · obtain ⟨g1, g2, g3, g4, g5⟩ := h0.ok.obs id _ h3
      have hG := hG2 j id he
      refine ⟨Nat.le_refl _, g2, by rw [hG]; omega, fun p es' hp hg => rowR_ren hG fs.mono (g4 p es' hp hg), by rw [hG]; exact g5⟩
    · have hG := hG3 j he
      refine ⟨Nat.le_refl _, fun e he => (by cases he), Nat.zero_le _, fun p es' hp hg => ?_, fun p p' b c c' _ _ _ _ h => (by rw [hG] at h; cases h)⟩
      unfold rowR
      rw [hG]
      dsimp only
      cases p with
      | nil => simp only [getp, Option.some.injEq] at hg; exact hg.symm
      | cons q p => obtain ⟨a, b⟩ := q; simp [getp] at hg
  · obtain ⟨i0, ob0, h1, h2, _, h3⟩ := osrc i ob b hs ho
    obtain ⟨j0, ob1, g1, g2, _, g3⟩ := osrc i' ob' b hs' ho'
    have he := h0.ok.dis _ _ _ _ b h1 g1 h2 g2
    subst he
    rcases h3 with ⟨n1, rfl⟩ | ⟨a1, rfl, e1⟩ <;> rcases g3 with ⟨n2, e2⟩ | ⟨a2, rfl, e2⟩
    · exact e2
    · exact absurd (hdead _ (.inr (List.mem_of_getElem? e2))) n1
    · subst e2; exact absurd (hdead _ (.inr (List.mem_of_getElem? e1))) n2
    · rw [x.nd a1 a2 i0 e1 e2]
  · rcases src i _ hs with ⟨hi, h1⟩ | ⟨j, id, k, es, u, hw, ver, rfl, he, h3, h4⟩ | ⟨j, k, rfl, he, h4⟩
    · exact h0.ok.low i cells h1
    · cases h4
    · cases h4
  · obtain ⟨i0, ob0, h1, h2, _⟩ := osrc i ob b hs ho
    exact .inr ⟨i0, ob0, h1, h2⟩
  · refine fs.vr y v (men_mono (fun j hj => ?_) y hy) hv
    have hj : j.1 < L := hj
    omega

theorem impvs_length (imp : Bool) (l b : Nat) : ∀ (r : List IV) (j : Nat), (impvs imp l b j r).1.length = r.length
  | [], _ => rfl
  | x :: r, j => by simp only [impvs, List.length_cons, impvs_length imp l b r]

/-- What a function hands back. -/
theorem fin_ok (h0 : Sim F G st0 a w) {fn : Func} {rs : List RS} {K : IV → Sto → Prop} (hc : chkRes P rs fn.results.toList = true) (he : fin rs st0 K) :
    ∃ v r S' G', (results fn a.tmps).run P w = .ok v w ∧ K r S' ∧ low F.lvl r ∧ (∀ id ob, S' id = some ob → id.1 < F.lvl) ∧ SOk G' (addS S' F.lvl 0 (impv true F.lvl 0 0 r).2) w ∧ VR G' (addS S' F.lvl 0 (impv true F.lvl 0 0 r).2) w (impv true F.lvl 0 0 r).1 v ∧
      Frm ⟨F.G, F.S, F.w, F.lvl, 0⟩ G' (addS S' F.lvl 0 (impv true F.lvl 0 0 r).2) w := by
  obtain ⟨vs, hrun, ys, st', T, e, obs, hk, hx, _, hlow, hoe, himp, hg⟩ := exps_ok h0 rs fn.results.toList st0 (fun _ => False) [] _ (XS.nil st0) hc he
  simp only [List.nil_append] at hx hg
  have hlv : F.lvl = st0.lvl := h0.lvl.symm
  have hout : st'.out = st0.out := hx.kl.out
  have hfresh : Fresh st0.out st0.lvl 0 obs.length := fun j _ => by
    cases h : st0.out (st0.lvl, 0 + j) with
    | none => rfl
    | some ob => have := h0.outl _ ob h; simp at this
  let G' : Gh := fun i => if i.1 = st0.lvl then (match e[i.2]? with | some (some id) => G id | _ => fun _ => none) else G i
  have hS1 : ∀ i, i.1 ≠ st0.lvl → addS st0.out st0.lvl 0 obs i = st0.sto i := fun i hi => by
    rw [sto_out hi]
    cases h : st0.out i with
    | some ob => exact addS_old obs _ _ _ hfresh i ob h
    | none =>
      cases h2 : addS st0.out st0.lvl 0 obs i with
      | none => rfl
      | some ob =>
        rcases addS_new obs _ _ _ i ob h2 with g | ⟨j, _, rfl, _⟩
        · rw [h] at g; cases g
        · exact absurd rfl hi
  have hS2 : ∀ j : Nat, addS st0.out st0.lvl 0 obs (st0.lvl, j) = obs[j]? := fun j => by
    cases h : obs[j]? with
    | some ob => have := addS_at obs st0.out st0.lvl 0 j ob h; rwa [Nat.zero_add] at this
    | none =>
      cases h2 : addS st0.out st0.lvl 0 obs (st0.lvl, j) with
      | none => rfl
      | some ob =>
        rcases addS_new obs _ _ _ _ ob h2 with g | ⟨j', _, g1, g2⟩
        · have := h0.outl _ ob g; simp at this
        · simp at g1; subst g1; rw [h] at g2; cases g2
  obtain ⟨fs, hok, hfr⟩ := fin_fin (G' := G') (S' := addS st0.out st0.lvl 0 obs) h0 hx hoe (fun i hi => by simp only [G']; rw [if_neg hi]) (fun j id hj => by simp only [G', if_true, hj]) (fun j hj => by simp only [G', if_true, hj]) hS1 hS2
  have hvr := hg T e G' _ (fun _ h => h) (fun _ _ h => h) fs
  have hfrm : Frm ⟨F.G, F.S, F.w, F.lvl, 0⟩ G' (addS st0.out st0.lvl 0 obs) w := by
    have h1 : Frm ⟨F.G, F.S, F.w, F.lvl, 0⟩ G st0.sto w := ⟨h0.fr.size, h0.fr.old, h0.fr.own, h0.fr.os, h0.fr.tape, h0.fr.output, h0.fr.stab⟩
    exact h1.trans (hfr F.lvl 0 (Nat.le_of_eq hlv)) (Nat.le_refl _)
  have hcl : ∀ id ob, st0.out id = some ob → id.1 < F.lvl := fun id ob hs => by rw [hlv]; exact h0.outl id ob hs
  have hres : ∀ v, (if h : vs.toArray.size = 1 then vs.toArray[0] else Value.tuple vs.toArray) = v → (results fn a.tmps).run P w = .ok v w := fun v hv => by
    have : (results fn a.tmps) = (do let vs ← fn.results.mapM (readR a); pure (if h : vs.size = 1 then vs[0] else .tuple vs)) := by
      unfold results
      congr 1
    rw [this, Array.mapM_eq_mapM_toList]
    simp only [Sem.run_bind, Sem.run_map, hrun, Result.andThen_ok, Sem.run_pure]
    rw [← hv]
  have hlen := VRs_length hvr
  rw [impvs_length] at hlen
  rw [hout] at hk
  rw [hlv] at hlow ⊢
  rw [hlv] at hfrm
  cases ys with
  | nil =>
    have hvs : vs = [] := List.eq_nil_of_length_eq_zero (by simpa using hlen)
    subst hvs
    have hobs : obs = [] := by rw [← himp]; rfl
    subst hobs
    exact ⟨.tuple #[], .tu [], st0.out, G', hres _ (by simp), hk, trivial, fun id ob h => hlv ▸ hcl id ob h, hok, ⟨[], rfl, rfl⟩, hfrm⟩
  | cons y r =>
    cases r with
    | nil =>
      obtain ⟨v, vr, rfl, h1, h2⟩ := hvr
      rw [show vr = [] from h2] at hres
      have hobs : (impv true st0.lvl 0 0 y).2 = obs := by
        rw [← himp]; simp [impvs]
      refine ⟨v, y, st0.out, G', hres v (by simp), hk, hlow.1, fun id ob h => hlv ▸ hcl id ob h, ?_, ?_, ?_⟩
      · rw [hobs]; exact hok
      · rw [hobs]; exact h1
      · rw [hobs]; exact hfrm
    | cons z r =>
      have hobs : (impv true st0.lvl 0 0 (.tu (y :: z :: r))).2 = obs := by
        rw [← himp]; simp only [impv]; rfl
      refine ⟨.tuple vs.toArray, .tu (y :: z :: r), st0.out, G', hres _ ?_, hk, by simpa only [men] using hlow, fun id ob h => hlv ▸ hcl id ob h, ?_, ?_, ?_⟩
      · rw [dif_neg]
        simp at hlen ⊢
        omega
      · rw [hobs]; exact hok
      · rw [hobs]
        simp only [impv]
        exact ⟨vs, rfl, hvr⟩
      · rw [hobs]; exact hfrm

/-- The contract of a function, out of its annotated code. -/
theorem sem_of_wp {f : FuncId} {fn : Func} {c : Code} {f2 : F2} {lvl : Nat} {args : List IV} {S : Sto} {r : IV} {S' : Sto} (hf : P.funcs[f]? = some fn) (hb : fn.body = some c) (hname : (fn.name == "runtime.NumGoroutine") = false)
    (hnt : fn.ntmps = f2.nt) (hc : chkC P f2.nt f2.body c = true) (hr : chkRes P f2.res fn.results.toList = true) (hlow : low lvl r)
    (h : wpF (Sem P) f2 lvl args S (fun r' S2 => r' = r ∧ S2 = S')) : Sem P f lvl args S r S' := by
  refine ⟨hlow, ⟨fn, hf, by rw [hb]; rfl, hname⟩, fun hcl G w vs hok hvs => ?_⟩
  obtain ⟨hlen, h⟩ := h
  have hvl := VRs_length hvs
  refine calls_of_wp hf hb ?_
  have hsim : Sim ⟨G, S, w, lvl, f2.nt⟩ G ⟨lvl, params 0 args, [], S⟩ { tmps := vs.toArray ++ Array.replicate (fn.ntmps - vs.toArray.size) undef, defers := [] } w := by
    have hsto : (⟨lvl, params 0 args, [], S⟩ : St).sto = S := by
      funext id
      unfold St.sto packS
      split
      · rename_i hi
        simp only [lkO]
        cases hs : S id with
        | none => rfl
        | some ob => have h1 := hcl id ob hs; have hi : id.1 = lvl := hi; omega
      · rfl
    refine ⟨rfl, by simp [hnt, hvl]; omega, fun t => ?_, by rw [hsto]; exact hok, rfl, hcl, by rw [hsto]; exact ⟨Nat.le_refl _, fun _ _ _ => rfl, fun i ob b hs ho => .inr ⟨i, ob, hs, ho⟩, rfl, rfl, rfl, fun _ _ _ h => h⟩⟩
    rw [hsto]
    show VR G S w (lk t (params 0 args)) _
    rw [lk_params t args 0 (Nat.zero_le _), Nat.sub_zero]
    cases ha : args[t]? with
    | none => exact trivial
    | some x =>
      obtain ⟨v, hv, hx⟩ := VRs_get hvs t x ha
      have ht : t < vs.length := (List.getElem?_eq_some_iff.1 hv).1
      simp only [Option.getD_some]
      have : ((vs.toArray ++ Array.replicate (fn.ntmps - vs.toArray.size) undef).getD t undef) = v := by
        rw [Array.getD_eq_getD_getElem?, Array.getElem?_append_left (by simpa using ht)]
        simp [hv]
      rw [this]
      exact hx
  refine code_ok f2.body c _ _ _ G _ w hc h hsim (fun ex st' G1 a' w' hk hs => ?_)
  cases ex with
  | ext i => exact hk.elim
  | nrm =>
    obtain ⟨v, r', S2, G2, h1, ⟨rfl, rfl⟩, h2, h3, h4, h5, h6⟩ := fin_ok hs hr hk
    exact ⟨hs.dfr, v, h1, v, G2, rfl, h4, h5, h3, h6⟩
  | ret =>
    obtain ⟨v, r', S2, G2, h1, ⟨rfl, rfl⟩, h2, h3, h4, h5, h6⟩ := fin_ok hs hr hk
    exact ⟨hs.dfr, v, h1, v, G2, rfl, h4, h5, h3, h6⟩
end
end Go.Fd

/-
  FOUNDATION 43: the check of a whole function. Own work.
-/
namespace Go.Fd

/-- The annotated function belongs to function f of the program. -/
def chkF (P : Program) (f : FuncId) (f2 : F2) : Bool :=
  match P.funcs[f]? with
  | some fn =>
    match fn.body with
    | some c => !(fn.name == "runtime.NumGoroutine") && fn.ntmps == f2.nt && chkC P f2.nt f2.body c && chkRes P f2.res fn.results.toList
    | none => false
  | none => false

theorem sem_of_chk {P : Program} {f : FuncId} {f2 : F2} {lvl : Nat} {args : List IV} {S : Sto} {r : IV} {S' : Sto} (hc : chkF P f f2 = true) (hlow : low lvl r)
    (h : wpF (Sem P) f2 lvl args S (fun r' S2 => r' = r ∧ S2 = S')) : Sem P f lvl args S r S' := by
  unfold chkF at hc
  split at hc <;> try contradiction
  rename_i fn hf
  split at hc <;> try contradiction
  rename_i c hb
  simp only [Bool.and_eq_true, Bool.not_eq_true', beq_iff_eq] at hc
  exact sem_of_wp hf hb hc.1.1.1 hc.1.1.2 hc.1.2 hc.2 hlow h
end Go.Fd

/-
  FOUNDATION 44: the rules by which the predicate transformer is worked out, one operation at a time. Own work.
-/
namespace Go.Fd

section
variable {C : Contract} {lvl : Nat} {env : List (Nat × IV)} {loc : List (Nat × Ob)} {out : Sto} {d : Option Nat} {K : St → Prop} {st : St} {Q : Ex → St → Prop}

/-! ## continuations -/
def kont (C : Contract) (l : List OP) (K : St → Prop) : St → Prop := fun st => wpo C l st K
theorem r_cons {o : OP} {l : List OP} : wpo C (o :: l) st K = op1 C o st (kont C l K) := (rfl)
theorem r_nil : wpo C [] st K = K st := (rfl)
theorem r_kont {l : List OP} : kont C l K st = wpo C l st K := (rfl)
def kseq (C : Contract) (b : C2) (Q : Ex → St → Prop) : Ex → St → Prop := fun e st => match e with | .nrm => wp C b st Q | e => Q e st
def kblk (i : Nat) (Q : Ex → St → Prop) : Ex → St → Prop := fun e st => match e with | .ext j => if j = i then Q .nrm st else Q (.ext j) st | e => Q e st
def kfn (rs : List RS) (K : IV → Sto → Prop) : Ex → St → Prop := fun e st => match e with | .ext _ => False | _ => fin rs st K
theorem r_seq1 {b : C2} : kseq C b Q .nrm st = wp C b st Q := (rfl)
theorem r_seq2 {b : C2} {i : Nat} : kseq C b Q (.ext i) st = Q (.ext i) st := (rfl)
theorem r_seq3 {b : C2} : kseq C b Q .ret st = Q .ret st := (rfl)
theorem r_blk1 {i : Nat} : kblk i Q .nrm st = Q .nrm st := (rfl)
theorem r_blk2 {i j : Nat} : kblk i Q (.ext j) st = if j = i then Q .nrm st else Q (.ext j) st := (rfl)
theorem r_blk3 {i : Nat} : kblk i Q .ret st = Q .ret st := (rfl)
theorem r_fn1 {rs : List RS} {K : IV → Sto → Prop} : kfn rs K .nrm st = fin rs st K := (rfl)
theorem r_fn2 {rs : List RS} {K : IV → Sto → Prop} : kfn rs K .ret st = fin rs st K := (rfl)
theorem r_fn3 {rs : List RS} {K : IV → Sto → Prop} {i : Nat} : kfn rs K (.ext i) st = False := (rfl)

/-! ## codes -/
theorem r_sk : wp C .sk st Q = Q .nrm st := (rfl)
theorem r_rg {n : Option Nat} {ops : List OP} : wp C (.rg n ops) st Q = wpo C ops st (Q .nrm) := (rfl)
theorem r_sq {a b : C2} : wp C (.sq a b) st Q = wp C a st (kseq C b Q) := (rfl)
theorem r_bl {i : Nat} {c : C2} : wp C (.bl i c) st Q = wp C c st (kblk i Q) := (rfl)
theorem r_ex {i : Nat} : wp C (.ex i) st Q = Q (.ext i) st := (rfl)
theorem r_rt : wp C .rt st Q = Q .ret st := (rfl)
theorem r_fg {ks js : List Nat} {c : C2} : wp C (.fg ks js c) st Q = (clean ks js st ∧ wp C c (fgt ks js st) Q) := (rfl)
def cd2 (C : Contract) (v : IV) (a b : C2) (st : St) (Q : Ex → St → Prop) : Prop :=
  match v with
  | .tr (.v (.bool t)) => if t = true then wp C a st Q else wp C b st Q
  | _ => False
theorem r_cd {c : X} {a b : C2} : wp C (.cd c a b) ⟨lvl, env, loc, out⟩ Q = cd2 C (xv env c) a b ⟨lvl, env, loc, out⟩ Q := by
  simp only [wp]
  generalize xv env c = v
  cases v <;> try rfl
  rename_i t
  cases t <;> try rfl
  rename_i x
  cases x <;> try rfl
  rename_i t
  cases t <;> simp [cd2]
theorem r_cd2 {t : Bool} {a b : C2} : cd2 C (.tr (.v (.bool t))) a b st Q = if t = true then wp C a st Q else wp C b st Q := (rfl)
theorem r_wpF {f : F2} {args : List IV} {K : IV → Sto → Prop} : wpF C f lvl args out K = (args.length ≤ f.nt ∧ wp C f.body ⟨lvl, params 0 args, [], out⟩ (kfn f.res K)) := (rfl)

/-! ## guards -/
def gd (C : Contract) (v : IV) (w : Bool) (j : Nat) (d : Option Nat) (o : O) (lvl : Nat) (env : List (Nat × IV)) (loc : List (Nat × Ob)) (out : Sto) (K : St → Prop) : Prop :=
  match v with
  | .tr (.v (.bool c)) => if c = w then op2 C d o ⟨lvl, pt j (iB w) env, loc, out⟩ K else K ⟨lvl, ptd d (.tu []) (pt j (iB !w) env), loc, out⟩
  | .tu [] => K ⟨lvl, ptd d (.tu []) env, loc, out⟩
  | _ => False
theorem r_op1 {o : O} : op1 C ⟨d, none, o⟩ st K = op2 C d o st K := (rfl)
theorem r_op1g {o : O} {j : Nat} {w : Bool} : op1 C ⟨d, some (j, w), o⟩ ⟨lvl, env, loc, out⟩ K = gd C (lk j env) w j d o lvl env loc out K := by
  simp only [op1]
  generalize lk j env = v
  cases v with
  | tr t =>
    cases t with
    | v x =>
      cases x <;> try rfl
      rename_i c
      cases c <;> cases w <;> simp [gd]
    | sl => rfl
  | tu l => cases l <;> rfl
  | _ => rfl
theorem r_gd {c w : Bool} {j : Nat} {o : O} : gd C (.tr (.v (.bool c))) w j d o lvl env loc out K = if c = w then op2 C d o ⟨lvl, pt j (iB w) env, loc, out⟩ K else K ⟨lvl, ptd d (.tu []) (pt j (iB !w) env), loc, out⟩ := (rfl)
theorem r_gdu {w : Bool} {j : Nat} {o : O} : gd C (.tu []) w j d o lvl env loc out K = K ⟨lvl, ptd d (.tu []) env, loc, out⟩ := (rfl)

theorem op2_sil {o : O} (h : loud o = false) : op2 C d o ⟨lvl, env, loc, out⟩ K = ev C (xv env) (packS lvl loc out) (fun mk obs => freshK (keyOf d) loc (obs lvl (keyOf d)).length ∧ K ⟨lvl, ptd d (mk lvl (keyOf d)) env, addO (keyOf d) (obs lvl (keyOf d)) loc, out⟩) o := by
  unfold op2
  rw [if_neg (by simp [h])]
  rfl
theorem op2_pure {o : O} (h : loud o = false) {y : IV} (he : ∀ Kd : Kind, ev C (xv env) (packS lvl loc out) Kd o = pureK Kd y) : op2 C d o ⟨lvl, env, loc, out⟩ K = K ⟨lvl, ptd d y env, loc, out⟩ := by
  exact (op2_sil h).trans ((he _).trans (by simp [pureK, freshK, addO]))

/-- What a value gives goes to slot d. -/
def go1 (lvl : Nat) (env : List (Nat × IV)) (loc : List (Nat × Ob)) (out : Sto) (d : Option Nat) (K : St → Prop) (y : IV) : Prop := K ⟨lvl, ptd d y env, loc, out⟩
theorem r_go1 {y : IV} : go1 lvl env loc out d K y = K ⟨lvl, ptd d y env, loc, out⟩ := (rfl)
theorem op2_gen {o : O} (h : loud o = false) {T : (IV → Prop) → Prop} (he : ∀ Kd : Kind, ev C (xv env) (packS lvl loc out) Kd o = T (fun y => pureK Kd y)) : op2 C d o ⟨lvl, env, loc, out⟩ K = T (go1 lvl env loc out d K) := by
  exact (op2_sil h).trans ((he _).trans (congrArg T (funext fun y => by simp [pureK, freshK, addO, go1])))

theorem r_mv {x : X} : op2 C d (.mv x none) ⟨lvl, env, loc, out⟩ K = K ⟨lvl, ptd d (xv env x) env, loc, out⟩ := op2_pure rfl fun _ => rfl
def mvn (v : IV) (k lvl : Nat) (env : List (Nat × IV)) (loc : List (Nat × Ob)) (out : Sto) (d : Option Nat) (K : St → Prop) : Prop :=
  match v with
  | .cs [] => freshK (keyOf d) loc 1 ∧ K ⟨lvl, ptd d (.hd (lvl, keyOf d) [] 0 0 none 0) env, ptO (keyOf d) (.ar k [] true 0 0) loc, out⟩
  | _ => False
theorem r_mvn {x : X} {k : Nat} : op2 C d (.mv x (some k)) ⟨lvl, env, loc, out⟩ K = mvn (xv env x) k lvl env loc out d K := by
  rw [op2_sil rfl]
  simp only [ev]
  generalize xv env x = v
  cases v <;> try rfl
theorem r_mvn1 {k : Nat} : mvn (.cs []) k lvl env loc out d K = (freshK (keyOf d) loc 1 ∧ K ⟨lvl, ptd d (.hd (lvl, keyOf d) [] 0 0 none 0) env, ptO (keyOf d) (.ar k [] true 0 0) loc, out⟩) := (rfl)

def bxf (v : Option (List IV)) (lvl : Nat) (env : List (Nat × IV)) (loc : List (Nat × Ob)) (out : Sto) (d : Option Nat) (K : St → Prop) : Prop :=
  match v with
  | some c => freshK (keyOf d) loc 1 ∧ K ⟨lvl, ptd d (.ab (lvl, keyOf d) 0) env, ptO (keyOf d) (.bx c) loc, out⟩
  | none => False
theorem r_bx {x : X} : op2 C d (.bx x) ⟨lvl, env, loc, out⟩ K = bxf (cellsOf (xv env x)) lvl env loc out d K := by
  rw [op2_sil rfl]
  simp only [ev]
  generalize cellsOf (xv env x) = v
  cases v <;> rfl
theorem r_bx1 {c : List IV} : bxf (some c) lvl env loc out d K = (freshK (keyOf d) loc 1 ∧ K ⟨lvl, ptd d (.ab (lvl, keyOf d) 0) env, ptO (keyOf d) (.bx c) loc, out⟩) := (rfl)
def tocs (v : IV) : Option (List Tr × Bool) :=
  match cellsOf v with
  | some c => totrs c
  | none => none
def btf (v : Option (List Tr × Bool)) (lvl : Nat) (env : List (Nat × IV)) (loc : List (Nat × Ob)) (out : Sto) (d : Option Nat) (K : St → Prop) : Prop :=
  match v with
  | some (ts, _) => K ⟨lvl, ptd d (.ta ts) env, loc, out⟩
  | none => False
theorem r_bt {x : X} : op2 C d (.bt x) ⟨lvl, env, loc, out⟩ K = btf (tocs (xv env x)) lvl env loc out d K := by
  rw [op2_sil rfl]
  simp only [ev, tocs]
  generalize cellsOf (xv env x) = v
  cases v with
  | none => rfl
  | some c =>
    dsimp only
    generalize totrs c = u
    cases u with
    | none => rfl
    | some p => obtain ⟨ts, q⟩ := p; simp [btf, pureK, freshK, addO]
theorem r_bt1 {ts : List Tr} {q : Bool} : btf (some (ts, q)) lvl env loc out d K = K ⟨lvl, ptd d (.ta ts) env, loc, out⟩ := (rfl)
theorem r_al {z : List Value} {nz : List (Nat × Nat)} : op2 C d (.al z nz) ⟨lvl, env, loc, out⟩ K = (freshK (keyOf d) loc (1 + nz.length) ∧ K ⟨lvl, ptd d (.ab (lvl, keyOf d) 0) env, ptO (keyOf d) (.bx (zfill lvl (keyOf d + 1) nz (z.map kc))) loc |> addO (keyOf d + 1) (zobs nz), out⟩) := by
  rw [op2_sil rfl]
  simp only [ev, List.length_cons, addO, zobs, List.length_map]
  rw [Nat.add_comm]
theorem r_bd {z : List Value} {ps : List (Nat × Nat × X)} {nz : List (Nat × Nat)} : op2 C d (.bd z ps nz) ⟨lvl, env, loc, out⟩ K = (okp (xv env) z.length ps ∧ freshK (keyOf d) loc nz.length ∧ K ⟨lvl, ptd d (.ag (fpart (xv env) ps (zfill lvl (keyOf d) nz (z.map kc)))) env, addO (keyOf d) (zobs nz) loc, out⟩) := by
  rw [op2_sil rfl]
  simp only [ev, zobs, List.length_map]

/-! ## new slices -/
def kfill (k n lvl : Nat) (env : List (Nat × IV)) (loc : List (Nat × Ob)) (out : Sto) (d : Option Nat) (K : St → Prop) : Row → Bool → Prop := fun es u =>
  freshK (keyOf d) loc 1 ∧ K ⟨lvl, ptd d (.hd (lvl, keyOf d) [] 0 n none n) env, ptO (keyOf d) (.ar k es u n 0) loc, out⟩
def fl2 (v : Option (List Tr × Bool)) (ρ : X → IV) (i k : Nat) (r : List (Nat × X)) (es : Row) (u : Bool) (F : Row → Bool → Prop) : Prop :=
  match v with
  | some (ts, a) => ts.length = k ∧ i < es.length ∧ fills ρ k r (es.set i ts) (u && a) F
  | none => False
theorem r_bs {k n : Nat} {z : List Value} {ps : List (Nat × X)} : op2 C d (.bs k n z ps) ⟨lvl, env, loc, out⟩ K = fills (xv env) k ps (List.replicate n (z.map trv)) true (kfill k n lvl env loc out d K) := by
  rw [op2_sil rfl]
  rfl
theorem r_fills0 {ρ : X → IV} {k : Nat} {es : Row} {u : Bool} {F : Row → Bool → Prop} : fills ρ k [] es u F = F es u := (rfl)
theorem r_fills1 {ρ : X → IV} {k i : Nat} {x : X} {r : List (Nat × X)} {es : Row} {u : Bool} {F : Row → Bool → Prop} : fills ρ k ((i, x) :: r) es u F = fl2 (tocs (ρ x)) ρ i k r es u F := by
  simp only [fills, tocs]
  generalize cellsOf (ρ x) = v
  cases v with
  | none => rfl
  | some c =>
    dsimp only
    generalize totrs c = u
    cases u with
    | none => rfl
    | some p => rfl
theorem r_fl2 {ts : List Tr} {a : Bool} {ρ : X → IV} {k i : Nat} {r : List (Nat × X)} {es : Row} {u : Bool} {F : Row → Bool → Prop} : fl2 (some (ts, a)) ρ i k r es u F = (ts.length = k ∧ i < es.length ∧ fills ρ k r (es.set i ts) (u && a) F) := (rfl)
theorem r_kfill {k n : Nat} {es : Row} {u : Bool} : kfill k n lvl env loc out d K es u = (freshK (keyOf d) loc 1 ∧ K ⟨lvl, ptd d (.hd (lvl, keyOf d) [] 0 n none n) env, ptO (keyOf d) (.ar k es u n 0) loc, out⟩) := (rfl)
def msf (v : IV) (k : Nat) (z : List Value) (lvl : Nat) (env : List (Nat × IV)) (loc : List (Nat × Ob)) (out : Sto) (d : Option Nat) (K : St → Prop) : Prop :=
  match v with
  | .tr (.v (.int .i64 n)) => 0 ≤ n ∧ n ≤ bigN ∧ freshK (keyOf d) loc 1 ∧ K ⟨lvl, ptd d (.hd (lvl, keyOf d) [] 0 n.toNat none n.toNat) env, ptO (keyOf d) (.ar k (List.replicate n.toNat (z.map trv)) true n.toNat 0) loc, out⟩
  | _ => False
theorem r_ms {k : Nat} {z : List Value} {x : X} : op2 C d (.ms k z x) ⟨lvl, env, loc, out⟩ K = msf (xv env x) k z lvl env loc out d K := by
  rw [op2_sil rfl]
  simp only [ev]
  generalize xv env x = v
  cases v <;> try rfl
theorem r_ms1 {n : Int} {k : Nat} {z : List Value} : msf (.tr (.v (.int .i64 n))) k z lvl env loc out d K = (0 ≤ n ∧ n ≤ bigN ∧ freshK (keyOf d) loc 1 ∧ K ⟨lvl, ptd d (.hd (lvl, keyOf d) [] 0 n.toNat none n.toNat) env, ptO (keyOf d) (.ar k (List.replicate n.toNat (z.map trv)) true n.toNat 0) loc, out⟩) := (rfl)

/-! ## operations on scalars -/
def bi2 (op : BinOp) (w : Nat) (x y : IV) (F : IV → Prop) : Prop :=
  match x, y with
  | .tr (.v a), .tr (.v b) => biv op w a b fun r => F (.tr (.v r))
  | .er, .tr (.v .nilIface) =>
    match op, w with
    | .eql, 3 => F (iB false)
    | .neq, 3 => F (iB true)
    | _, _ => False
  | _, _ => False
theorem r_bi {op : BinOp} {w : Nat} {x y : X} : op2 C d (.bi op w x y) ⟨lvl, env, loc, out⟩ K = bi2 op w (xv env x) (xv env y) (go1 lvl env loc out d K) := by
  exact op2_gen rfl fun Kd => rfl
section bi
variable {F : IV → Prop} {k : IntKind} {a b : Int} {s t : ByteArray} {p q : Bool} {w : Nat}
theorem r_add0 : bi2 .add 0 (.tr (.v (.int k a))) (.tr (.v (.int k b))) F = (fits k (a + b) ∧ F (.tr (.v (.int k (a + b))))) := by simp [bi2, biv]
theorem r_sub0 : bi2 .sub 0 (.tr (.v (.int k a))) (.tr (.v (.int k b))) F = (fits k (a - b) ∧ F (.tr (.v (.int k (a - b))))) := by simp [bi2, biv]
theorem r_mul0 : bi2 .mul 0 (.tr (.v (.int k a))) (.tr (.v (.int k b))) F = (fits k (a * b) ∧ F (.tr (.v (.int k (a * b))))) := by simp [bi2, biv]
theorem r_add1 : bi2 .add 1 (.tr (.v (.int k a))) (.tr (.v (.int k b))) F = F (.tr (.v (.int k (k.wrap (a + b))))) := by simp [bi2, biv]
theorem r_sub1 : bi2 .sub 1 (.tr (.v (.int k a))) (.tr (.v (.int k b))) F = F (.tr (.v (.int k (k.wrap (a - b))))) := by simp [bi2, biv]
theorem r_mul1 : bi2 .mul 1 (.tr (.v (.int k a))) (.tr (.v (.int k b))) F = F (.tr (.v (.int k (k.wrap (a * b))))) := by simp [bi2, biv]
theorem r_quo : bi2 .quo w (.tr (.v (.int k a))) (.tr (.v (.int k b))) F = (0 ≤ a ∧ 0 < b ∧ fits k a ∧ F (.tr (.v (.int k (a / b))))) := by simp [bi2, biv]
theorem r_rem : bi2 .rem w (.tr (.v (.int k a))) (.tr (.v (.int k b))) F = (0 ≤ a ∧ 0 < b ∧ F (.tr (.v (.int k (a % b))))) := by simp [bi2, biv]
theorem r_eqi : bi2 .eql w (.tr (.v (.int k a))) (.tr (.v (.int k b))) F = F (iB (decide (a = b))) := by simp [bi2, biv]
theorem r_nei : bi2 .neq w (.tr (.v (.int k a))) (.tr (.v (.int k b))) F = F (iB (decide (a ≠ b))) := by simp [bi2, biv]
theorem r_lti : bi2 .lss w (.tr (.v (.int k a))) (.tr (.v (.int k b))) F = F (iB (decide (a < b))) := by simp [bi2, biv]
theorem r_lei : bi2 .leq w (.tr (.v (.int k a))) (.tr (.v (.int k b))) F = F (iB (decide (a ≤ b))) := by simp [bi2, biv]
theorem r_gti : bi2 .gtr w (.tr (.v (.int k a))) (.tr (.v (.int k b))) F = F (iB (decide (b < a))) := by simp [bi2, biv]
theorem r_gei : bi2 .geq w (.tr (.v (.int k a))) (.tr (.v (.int k b))) F = F (iB (decide (b ≤ a))) := by simp [bi2, biv]
theorem r_eqb : bi2 .eql 2 (.tr (.v (.bool p))) (.tr (.v (.bool q))) F = F (iB (p == q)) := by simp [bi2, biv]
theorem r_neb : bi2 .neq 2 (.tr (.v (.bool p))) (.tr (.v (.bool q))) F = F (iB (p != q)) := by simp [bi2, biv]
theorem r_eqn : bi2 .eql 3 (.tr (.v .nilIface)) (.tr (.v .nilIface)) F = F (iB true) := by simp [bi2, biv]
theorem r_nen : bi2 .neq 3 (.tr (.v .nilIface)) (.tr (.v .nilIface)) F = F (iB false) := by simp [bi2, biv]
theorem r_eqe : bi2 .eql 3 .er (.tr (.v .nilIface)) F = F (iB false) := by simp [bi2]
theorem r_nee : bi2 .neq 3 .er (.tr (.v .nilIface)) F = F (iB true) := by simp [bi2]
theorem r_adds : bi2 .add w (.tr (.v (.string s))) (.tr (.v (.string t))) F = (s.size + t.size ≤ bigN ∧ F (.tr (.v (.string (s ++ t))))) := by simp [bi2, biv]
theorem r_eqs : bi2 .eql w (.tr (.v (.string s))) (.tr (.v (.string t))) F = F (iB (decide (s = t))) := by simp [bi2, biv]
theorem r_nes : bi2 .neq w (.tr (.v (.string s))) (.tr (.v (.string t))) F = F (iB (decide (s ≠ t))) := by simp [bi2, biv]
theorem r_lts : bi2 .lss w (.tr (.v (.string s))) (.tr (.v (.string t))) F = F (iB (Op.bytesLess s.data.toList t.data.toList)) := by simp [bi2, biv]
theorem r_gts : bi2 .gtr w (.tr (.v (.string s))) (.tr (.v (.string t))) F = F (iB (!(Op.bytesLess s.data.toList t.data.toList || decide (s = t)))) := by simp [bi2, biv]
theorem r_les : bi2 .leq w (.tr (.v (.string s))) (.tr (.v (.string t))) F = F (iB (Op.bytesLess s.data.toList t.data.toList || decide (s = t))) := by simp [bi2, biv]
theorem r_ges : bi2 .geq w (.tr (.v (.string s))) (.tr (.v (.string t))) F = F (iB (!Op.bytesLess s.data.toList t.data.toList)) := by simp [bi2, biv]
end bi

def eq2 (ks : List Nat) (x y : IV) (neg : Bool) (F : IV → Prop) : Prop :=
  match x, y with
  | .ag l, .ag m => eqvs ks l m fun b => F (iB (if neg then !b else b))
  | _, _ => False
theorem r_qa {neg : Bool} {ks : List Nat} {x y : X} : op2 C d (.qa neg ks x y) ⟨lvl, env, loc, out⟩ K = eq2 ks (xv env x) (xv env y) neg (go1 lvl env loc out d K) := by
  exact op2_gen rfl fun Kd => rfl
/-- Two lists of scalars that are compared, cell by cell; b: so far. -/
def eqk : List Nat → List IV → List IV → Bool → Bool → (IV → Prop) → Prop
  | [], [], [], b, neg, F => F (iB (if neg then !b else b))
  | 0 :: qs, .tr (.v (.int k a)) :: r, .tr (.v (.int j c)) :: s, b, neg, F => k = j ∧ eqk qs r s (b && decide (a = c)) neg F
  | 1 :: qs, .tr (.v (.bool a)) :: r, .tr (.v (.bool c)) :: s, b, neg, F => eqk qs r s (b && (a == c)) neg F
  | 2 :: qs, .tr (.v (.string a)) :: r, .tr (.v (.string c)) :: s, b, neg, F => eqk qs r s (b && decide (a = c)) neg F
  | _, _, _, _, _, _ => False
theorem eqk_eqvs : ∀ {ks : List Nat} {l m : List IV} {b neg : Bool} {F : IV → Prop}, eqk ks l m b neg F → eqvs ks l m fun c => F (iB (if neg then !(b && c) else (b && c)))
  | [], [], [], b, neg, F, h => by simpa only [eqk, eqvs, Bool.and_true] using h
  | q :: qs, x :: r, y :: s, b, neg, F, h => by
    unfold eqk at h
    split at h
    · rename_i h1 h2 h3; cases h1
    · rename_i h1 h2 h3
      cases h1; cases h2; cases h3
      obtain ⟨rfl, h⟩ := h
      simp only [eqvs, eqv]
      refine ⟨trivial, ?_⟩
      have := eqk_eqvs h
      simpa only [Bool.and_assoc] using this
    · rename_i h1 h2 h3
      cases h1; cases h2; cases h3
      simp only [eqvs, eqv]
      have := eqk_eqvs h
      simpa only [Bool.and_assoc] using this
    · rename_i h1 h2 h3
      cases h1; cases h2; cases h3
      simp only [eqvs, eqv]
      have := eqk_eqvs h
      simpa only [Bool.and_assoc] using this
    · exact h.elim
  | [], _ :: _, _, _, _, _, h => by simp [eqk] at h
  | [], [], _ :: _, _, _, _, h => by simp [eqk] at h
  | q :: qs, [], _, _, _, _, h => by unfold eqk at h; split at h <;> simp_all
  | q :: qs, _ :: _, [], _, _, _, h => by unfold eqk at h; split at h <;> simp_all
theorem qa_intro {neg : Bool} {ks : List Nat} {l m : List IV} {F : IV → Prop} (h : eqk ks l m true neg F) : eq2 ks (.ag l) (.ag m) neg F := by
  have := eqk_eqvs h
  simp only [Bool.true_and] at this
  exact this

def nt2 (x : IV) (F : IV → Prop) : Prop :=
  match x with
  | .tr (.v (.bool b)) => F (iB (!b))
  | _ => False
theorem r_nt {x : X} : op2 C d (.nt x) ⟨lvl, env, loc, out⟩ K = nt2 (xv env x) (go1 lvl env loc out d K) := op2_gen rfl fun _ => rfl
theorem r_nt1 {b : Bool} {F : IV → Prop} : nt2 (.tr (.v (.bool b))) F = F (iB (!b)) := (rfl)
def ng2 (x : IV) (F : IV → Prop) : Prop :=
  match x with
  | .tr (.v (.int k n)) => fits k (-n) ∧ F (.tr (.v (.int k (-n))))
  | _ => False
theorem r_ng {x : X} : op2 C d (.ng x) ⟨lvl, env, loc, out⟩ K = ng2 (xv env x) (go1 lvl env loc out d K) := op2_gen rfl fun _ => rfl
theorem r_ng1 {k : IntKind} {n : Int} {F : IV → Prop} : ng2 (.tr (.v (.int k n))) F = (fits k (-n) ∧ F (.tr (.v (.int k (-n))))) := (rfl)
def cv2 (c : Cv) (x : IV) (F : IV → Prop) : Prop :=
  match c, x with
  | .int k, .tr (.v (.int _ n)) => fits k n ∧ F (.tr (.v (.int k n)))
  | .wrap k, .tr (.v (.int _ n)) => F (.tr (.v (.int k (k.wrap n))))
  | .str, .tr (.v (.string s)) => F (iS s)
  | .rune, .tr (.v (.int _ n)) => 0 ≤ n ∧ n < 128 ∧ F (iS ⟨#[n.toNat.toUInt8]⟩)
  | _, _ => False
theorem r_cv {c : Cv} {x : X} : op2 C d (.cv c x) ⟨lvl, env, loc, out⟩ K = cv2 c (xv env x) (go1 lvl env loc out d K) := op2_gen rfl fun _ => rfl
theorem r_cv1 {k j : IntKind} {n : Int} {F : IV → Prop} : cv2 (.int k) (.tr (.v (.int j n))) F = (fits k n ∧ F (.tr (.v (.int k n)))) := (rfl)
theorem r_cv2 {k j : IntKind} {n : Int} {F : IV → Prop} : cv2 (.wrap k) (.tr (.v (.int j n))) F = F (.tr (.v (.int k (k.wrap n)))) := (rfl)
theorem r_cv3 {s : ByteArray} {F : IV → Prop} : cv2 .str (.tr (.v (.string s))) F = F (iS s) := (rfl)
theorem r_cv4 {j : IntKind} {n : Int} {F : IV → Prop} : cv2 .rune (.tr (.v (.int j n))) F = (0 ≤ n ∧ n < 128 ∧ F (iS ⟨#[n.toNat.toUInt8]⟩)) := (rfl)
def mf2 (f : Nat) (cs : List IV) (F : IV → Prop) : Prop := (cs.all isCell) = true ∧ F (.fn f cs)
theorem r_mf {f : Nat} {cs : List X} : op2 C d (.mf f cs) ⟨lvl, env, loc, out⟩ K = mf2 f (cs.map (xv env)) (go1 lvl env loc out d K) := op2_gen rfl fun _ => rfl
theorem r_mf1 {f : Nat} {cs : List IV} {F : IV → Prop} : mf2 f cs F = ((cs.all isCell) = true ∧ F (.fn f cs)) := (rfl)
def ln2 (x : IV) (F : IV → Prop) : Prop :=
  match x with
  | .tr (.sl es) => F (iI es.length)
  | .cs es => F (iI es.length)
  | .hd _ _ _ len _ _ => F (iI len)
  | _ => False
theorem r_ln {x : X} : op2 C d (.ln x) ⟨lvl, env, loc, out⟩ K = ln2 (xv env x) (go1 lvl env loc out d K) := op2_gen rfl fun _ => rfl
theorem r_ln1 {es : Row} {F : IV → Prop} : ln2 (.tr (.sl es)) F = F (iI es.length) := (rfl)
theorem r_ln2 {es : Row} {F : IV → Prop} : ln2 (.cs es) F = F (iI es.length) := (rfl)
theorem r_ln3 {id : Oid} {p : Pth} {off len s : Nat} {cap : Option Nat} {F : IV → Prop} : ln2 (.hd id p off len cap s) F = F (iI len) := (rfl)
def lg2 (x : IV) (F : IV → Prop) : Prop :=
  match x with
  | .tr (.v (.string s)) => F (iI s.size)
  | _ => False
theorem r_lg {x : X} : op2 C d (.lg x) ⟨lvl, env, loc, out⟩ K = lg2 (xv env x) (go1 lvl env loc out d K) := op2_gen rfl fun _ => rfl
theorem r_lg1 {s : ByteArray} {F : IV → Prop} : lg2 (.tr (.v (.string s))) F = F (iI s.size) := (rfl)
theorem r_la {n : Nat} : op2 C d (.la n) ⟨lvl, env, loc, out⟩ K = K ⟨lvl, ptd d (iI n) env, loc, out⟩ := op2_pure rfl fun _ => rfl
def mm2 (mx : Bool) (x y : IV) (F : IV → Prop) : Prop :=
  match x, y with
  | .tr (.v (.int k a)), .tr (.v (.int j b)) => k = j ∧ F (.tr (.v (.int k (if mx then max a b else min a b))))
  | _, _ => False
theorem r_mm {mx : Bool} {x y : X} : op2 C d (.mm mx x y) ⟨lvl, env, loc, out⟩ K = mm2 mx (xv env x) (xv env y) (go1 lvl env loc out d K) := op2_gen rfl fun _ => rfl
theorem r_mm1 {k : IntKind} {a b : Int} {F : IV → Prop} : mm2 true (.tr (.v (.int k a))) (.tr (.v (.int k b))) F = F (.tr (.v (.int k (max a b)))) := by simp [mm2]
theorem r_mm2 {k : IntKind} {a b : Int} {F : IV → Prop} : mm2 false (.tr (.v (.int k a))) (.tr (.v (.int k b))) F = F (.tr (.v (.int k (min a b)))) := by simp [mm2]
def pk2 (c a b : IV) (F : IV → Prop) : Prop :=
  match c with
  | .tr (.v (.bool t)) => F (if t then a else b)
  | _ => False
theorem r_pk {c a b : X} : op2 C d (.pk c a b) ⟨lvl, env, loc, out⟩ K = pk2 (xv env c) (xv env a) (xv env b) (go1 lvl env loc out d K) := op2_gen rfl fun _ => rfl
theorem r_pkt {a b : IV} {F : IV → Prop} : pk2 (.tr (.v (.bool true))) a b F = F a := (rfl)
theorem r_pkf {a b : IV} {F : IV → Prop} : pk2 (.tr (.v (.bool false))) a b F = F b := (rfl)
/-- What an option gives. -/
def op3 {α : Type} (x : Option α) (F : α → Prop) : Prop :=
  match x with
  | some a => F a
  | none => False
theorem r_op3 {α : Type} {a : α} {F : α → Prop} : op3 (some a) F = F a := (rfl)
theorem op3_ex {α : Type} {x : Option α} {F : α → Prop} : (∃ a, x = some a ∧ F a) = op3 x F := by cases x <;> simp [op3]
def ex2 (x : IV) (i : Nat) (F : IV → Prop) : Prop :=
  match x with
  | .tu l => op3 l[i]? F
  | _ => False
theorem r_xt {i : Nat} {x : X} : op2 C d (.ex i x) ⟨lvl, env, loc, out⟩ K = ex2 (xv env x) i (go1 lvl env loc out d K) := by
  refine op2_gen (o := .ex i x) (T := fun F => ex2 (xv env x) i F) rfl (fun Kd => ?_)
  simp only [ev, ex2]
  generalize xv env x = v
  cases v <;> try rfl
  exact op3_ex
theorem r_xt1 {i : Nat} {l : List IV} {F : IV → Prop} : ex2 (.tu l) i F = op3 l[i]? F := (rfl)
def nc2 (x : IV) (F : IV → Prop) : Prop :=
  match x with
  | .ta cells => F (.ta cells)
  | .ab id o => F (.ab id o)
  | .ae id p i f st => F (.ae id p i f st)
  | _ => False
theorem r_nc {x : X} : op2 C d (.nc x) ⟨lvl, env, loc, out⟩ K = nc2 (xv env x) (go1 lvl env loc out d K) := op2_gen rfl fun _ => rfl
theorem r_nc1 {cells : List Tr} {F : IV → Prop} : nc2 (.ta cells) F = F (.ta cells) := (rfl)
theorem r_nc2 {id : Oid} {o : Nat} {F : IV → Prop} : nc2 (.ab id o) F = F (.ab id o) := (rfl)
theorem r_nc3 {id : Oid} {p : Pth} {i f s : Nat} {F : IV → Prop} : nc2 (.ae id p i f s) F = F (.ae id p i f s) := (rfl)

/-! ## addresses, fields, elements -/
def fa2 (off : Nat) (x : IV) (F : IV → Prop) : Prop :=
  match x with
  | .ta cells => F (.ta (cells.drop off))
  | .ab id o => F (.ab id (o + off))
  | .ae id p i f st => F (.ae id p i (f + off) st)
  | _ => False
theorem r_fa {off : Nat} {x : X} : op2 C d (.fa off x) ⟨lvl, env, loc, out⟩ K = fa2 off (xv env x) (go1 lvl env loc out d K) := op2_gen rfl fun _ => rfl
theorem r_fa1 {off : Nat} {cells : List Tr} {F : IV → Prop} : fa2 off (.ta cells) F = F (.ta (cells.drop off)) := (rfl)
theorem r_fa2 {off : Nat} {id : Oid} {o : Nat} {F : IV → Prop} : fa2 off (.ab id o) F = F (.ab id (o + off)) := (rfl)
theorem r_fa3 {off : Nat} {id : Oid} {p : Pth} {i f s : Nat} {F : IV → Prop} : fa2 off (.ae id p i f s) F = F (.ae id p i (f + off) s) := (rfl)
def fd2 (off : Nat) (m : Option Nat) (x : IV) (F : IV → Prop) : Prop :=
  match m, x with
  | none, .ag l => op3 l[off]? F
  | some m, .ag l => off + m ≤ l.length ∧ F (.ag ((l.drop off).take m))
  | _, _ => False
theorem r_fd {off : Nat} {m : Option Nat} {x : X} : op2 C d (.fd off m x) ⟨lvl, env, loc, out⟩ K = fd2 off m (xv env x) (go1 lvl env loc out d K) := by
  refine op2_gen (o := .fd off m x) (T := fun F => fd2 off m (xv env x) F) rfl (fun Kd => ?_)
  cases m <;> simp only [ev, fd2] <;> generalize xv env x = v <;> cases v <;> try rfl
  exact op3_ex
theorem r_fd1 {off : Nat} {l : List IV} {F : IV → Prop} : fd2 off none (.ag l) F = op3 l[off]? F := (rfl)
theorem r_fd2 {off m : Nat} {l : List IV} {F : IV → Prop} : fd2 off (some m) (.ag l) F = (off + m ≤ l.length ∧ F (.ag ((l.drop off).take m))) := (rfl)
/-- An index. -/
def ixn (i : IV) (F : Nat → Prop) : Prop :=
  match i with
  | .tr (.v (.int _ n)) => 0 ≤ n ∧ F n.toNat
  | _ => False
theorem r_ixn {k : IntKind} {n : Int} {F : Nat → Prop} : ixn (.tr (.v (.int k n))) F = (0 ≤ n ∧ F n.toNat) := (rfl)
/-- An element's address. -/
def ia2 (L : Sto) (k : Nat) (x : IV) (F : IV → Prop) (n : Nat) : Prop :=
  match x with
  | .tr (.sl es) => op3 es[n]? fun e => e.length = k ∧ F (.ta e)
  | .cs es => op3 es[n]? fun e => e.length = k ∧ F (.ta e)
  | .hd id p off len _ st => rdh L id p st fun es _ _ => n < len ∧ op3 es[off + n]? fun e => e.length = k ∧ F (.ae id p (off + n) 0 st)
  | _ => False
theorem r_ia {k : Nat} {x i : X} : op2 C d (.ia k x i) ⟨lvl, env, loc, out⟩ K = ixn (xv env i) (ia2 (packS lvl loc out) k (xv env x) (go1 lvl env loc out d K)) := by
  refine op2_gen (o := .ia k x i) (T := fun F => ixn (xv env i) (ia2 (packS lvl loc out) k (xv env x) F)) rfl (fun Kd => ?_)
  simp only [ev]
  generalize xv env i = vi
  cases vi <;> try rfl
  rename_i t
  cases t <;> try rfl
  rename_i y
  cases y <;> try rfl
  rename_i kk n
  simp only [ixn, ia2]
  generalize xv env x = v
  cases v <;> try rfl
  · rename_i t
    cases t <;> try rfl
    dsimp only
    rw [op3_ex]
  · dsimp only
    rw [op3_ex]
  · dsimp only
    simp only [op3_ex]
/-- The element e, under its length. -/
def iae (k : Nat) (F : IV → Prop) (e : List Tr) : Prop := e.length = k ∧ F (.ta e)
theorem r_iae {k : Nat} {F : IV → Prop} {e : List Tr} : iae k F e = (e.length = k ∧ F (.ta e)) := (rfl)
theorem r_ia1 {L : Sto} {k n : Nat} {es : Row} {F : IV → Prop} : ia2 L k (.tr (.sl es)) F n = op3 es[n]? (iae k F) := (rfl)
theorem r_ia2 {L : Sto} {k n : Nat} {es : Row} {F : IV → Prop} : ia2 L k (.cs es) F n = op3 es[n]? (iae k F) := (rfl)
/-- What is read of an object. -/
def rd3 (o : Option Ob) (p : Pth) (st : Nat) (F : Row → Bool → Nat → Prop) : Prop :=
  match o with
  | some (.ar _ es u hw ver) => stamp p st hw ver u ∧ op3 (getp es p) fun es' => F es' u ver
  | _ => False
theorem rdh_rd3 {L : Sto} {id : Oid} {p : Pth} {st : Nat} {F : Row → Bool → Nat → Prop} : rdh L id p st F = rd3 (L id) p st F := by
  unfold rdh rd3
  generalize L id = o
  cases o with
  | none => rfl
  | some ob =>
    cases ob with
    | bx => rfl
    | ar k es u hw ver =>
      dsimp only
      rw [← op3_ex]
      apply propext
      constructor
      · rintro ⟨es', h1, h2, h3⟩; exact ⟨h2, es', h1, h3⟩
      · rintro ⟨h2, es', h1, h3⟩; exact ⟨es', h1, h2, h3⟩
def rde (u : Bool) (ver : Nat) (F : Row → Bool → Nat → Prop) (es : Row) : Prop := F es u ver
theorem r_rde {u : Bool} {ver : Nat} {F : Row → Bool → Nat → Prop} {es : Row} : rde u ver F es = F es u ver := (rfl)
theorem r_rd3 {k : Nat} {es : Row} {u : Bool} {hw ver : Nat} {p : Pth} {st : Nat} {F : Row → Bool → Nat → Prop} : rd3 (some (.ar k es u hw ver)) p st F = (stamp p st hw ver u ∧ op3 (getp es p) (rde u ver F)) := (rfl)
theorem r_stamp0 {st hw ver : Nat} {u : Bool} : stamp [] st hw ver u = (st = hw) := (rfl)
theorem r_stamp1 {a : Nat × Nat} {p : Pth} {st hw ver : Nat} {u : Bool} : stamp (a :: p) st hw ver u = (u = true ∧ st = ver) := (rfl)
def iah (id : Oid) (p : Pth) (off len st k n : Nat) (F : IV → Prop) (es : Row) (_u : Bool) (_v : Nat) : Prop := n < len ∧ op3 es[off + n]? fun e => e.length = k ∧ F (.ae id p (off + n) 0 st)
def iah2 (id : Oid) (p : Pth) (off st k n : Nat) (F : IV → Prop) (e : List Tr) : Prop := e.length = k ∧ F (.ae id p (off + n) 0 st)
theorem r_iah {id : Oid} {p : Pth} {off len st k n : Nat} {F : IV → Prop} {es : Row} {u : Bool} {v : Nat} : iah id p off len st k n F es u v = (n < len ∧ op3 es[off + n]? (iah2 id p off st k n F)) := (rfl)
theorem r_iah2 {id : Oid} {p : Pth} {off st k n : Nat} {F : IV → Prop} {e : List Tr} : iah2 id p off st k n F e = (e.length = k ∧ F (.ae id p (off + n) 0 st)) := (rfl)
theorem r_ia3 {L : Sto} {k n : Nat} {id : Oid} {p : Pth} {off len st : Nat} {cap : Option Nat} {F : IV → Prop} : ia2 L k (.hd id p off len cap st) F n = rd3 (L id) p st (iah id p off len st k n F) := rdh_rd3
def ja2 (k m : Nat) (x : IV) (F : IV → Prop) (n : Nat) : Prop :=
  n < m ∧
  match x with
  | .ta cells => F (.ta (cells.drop (n * k)))
  | .ab id o => F (.ab id (o + n * k))
  | .ae id p i f st => F (.ae id p i (f + n * k) st)
  | _ => False
theorem r_ja {k m : Nat} {x i : X} : op2 C d (.ja k m x i) ⟨lvl, env, loc, out⟩ K = ixn (xv env i) (ja2 k m (xv env x) (go1 lvl env loc out d K)) := by
  refine op2_gen (o := .ja k m x i) (T := fun F => ixn (xv env i) (ja2 k m (xv env x) F)) rfl (fun Kd => ?_)
  simp only [ev]
  generalize xv env i = vi
  cases vi <;> rfl
theorem r_ja1 {k m n : Nat} {cells : List Tr} {F : IV → Prop} : ja2 k m (.ta cells) F n = (n < m ∧ F (.ta (cells.drop (n * k)))) := (rfl)
theorem r_ja2 {k m n : Nat} {id : Oid} {o : Nat} {F : IV → Prop} : ja2 k m (.ab id o) F n = (n < m ∧ F (.ab id (o + n * k))) := (rfl)
theorem r_ja3 {k m n : Nat} {id : Oid} {p : Pth} {i f s : Nat} {F : IV → Prop} : ja2 k m (.ae id p i f s) F n = (n < m ∧ F (.ae id p i (f + n * k) s)) := (rfl)
def ixs (x : IV) (F : IV → Prop) (n : Nat) : Prop :=
  match x with
  | .tr (.v (.string s)) => op3 s.data.toList[n]? fun b => F (.tr (.v (.int .u8 b.toNat)))
  | _ => False
def ixb (F : IV → Prop) (b : UInt8) : Prop := F (.tr (.v (.int .u8 b.toNat)))
theorem r_ixb {F : IV → Prop} {b : UInt8} : ixb F b = F (.tr (.v (.int .u8 b.toNat))) := (rfl)
theorem r_ix {x i : X} : op2 C d (.ix x i) ⟨lvl, env, loc, out⟩ K = ixn (xv env i) (ixs (xv env x) (go1 lvl env loc out d K)) := by
  refine op2_gen (o := .ix x i) (T := fun F => ixn (xv env i) (ixs (xv env x) F)) rfl (fun Kd => ?_)
  simp only [ev]
  generalize xv env i = vi
  generalize xv env x = v
  cases vi with
  | tr t =>
    cases t with
    | v y =>
      cases y with
      | int kk n =>
        cases v with
        | tr t =>
          cases t with
          | v z => cases z <;> simp only [ixn, ixs, and_false] <;> rw [op3_ex]
          | sl => simp only [ixn, ixs, and_false]
        | _ => simp only [ixn, ixs, and_false]
      | _ => cases v <;> try rfl
             rename_i t
             cases t <;> try rfl
             rename_i z
             cases z <;> rfl
    | sl es => cases v <;> try rfl
               rename_i t
               cases t <;> try rfl
               rename_i z
               cases z <;> rfl
  | _ => cases v <;> try rfl
         rename_i t
         cases t <;> try rfl
         rename_i z
         cases z <;> rfl
theorem r_ix1 {s : ByteArray} {F : IV → Prop} {n : Nat} : ixs (.tr (.v (.string s))) F n = op3 s.data.toList[n]? (ixb F) := (rfl)
def jx2 (k m : Nat) (q : Option Nat) (x : IV) (F : IV → Prop) (n : Nat) : Prop :=
  match q, x with
  | none, .ag l => n < m ∧ op3 l[n * k]? F
  | some q, .ag l => n < m ∧ n * k + q ≤ l.length ∧ F (.ag ((l.drop (n * k)).take q))
  | _, _ => False
theorem r_jx {k m : Nat} {q : Option Nat} {x i : X} : op2 C d (.jx k m q x i) ⟨lvl, env, loc, out⟩ K = ixn (xv env i) (jx2 k m q (xv env x) (go1 lvl env loc out d K)) := by
  refine op2_gen (o := .jx k m q x i) (T := fun F => ixn (xv env i) (jx2 k m q (xv env x) F)) rfl (fun Kd => ?_)
  cases q <;> simp only [ev] <;> generalize xv env i = vi <;> generalize xv env x = v
  · cases vi with
    | tr t =>
      cases t with
      | v y =>
        cases y with
        | int kk n => cases v <;> simp only [ixn, jx2, and_false] <;> rw [op3_ex]
        | _ => cases v <;> rfl
      | sl es => cases v <;> rfl
    | _ => cases v <;> rfl
  · cases vi with
    | tr t =>
      cases t with
      | v y =>
        cases y with
        | int kk n => cases v <;> simp only [ixn, jx2, and_false]
        | _ => cases v <;> rfl
      | sl es => cases v <;> rfl
    | _ => cases v <;> rfl
theorem r_jx1 {k m n : Nat} {l : List IV} {F : IV → Prop} : jx2 k m none (.ag l) F n = (n < m ∧ op3 l[n * k]? F) := (rfl)
theorem r_jx2 {k m n q : Nat} {l : List IV} {F : IV → Prop} : jx2 k m (some q) (.ag l) F n = (n < m ∧ n * k + q ≤ l.length ∧ F (.ag ((l.drop (n * k)).take q))) := (rfl)
end
end Go.Fd
