/-
  FOUNDATION 41: results: what a call hands back. Own work.
-/
import Derived.Test.YtpffmchkhlmbiaaDoorT02
import Derived.Laws.Sem
import Derived.ChangeArms
import Derived.OpenShut
import Derived.Carry
import Derived.Test.YtpffmchkhlmbiaaDoorProg
namespace Go.Fd

/-- Object ob of the result stands for object e of the call (none: nil). -/
def OEm (st0 : St) : Option Oid → Ob → Prop
  | some id, ob => ∃ k es u hw ver, st0.sto id = some (.ar k es u hw ver) ∧ ob = .ar k es u es.length 0
  | none, ob => ∃ k, ob = .ar k [] true 0 0
def OE (st0 : St) : List (Option Oid) → List Ob → Prop
  | [], obs => obs = []
  | e :: r, obs => ∃ ob s, obs = ob :: s ∧ OEm st0 e ob ∧ OE st0 r s
theorem OE_length {st0 : St} : ∀ {E : List (Option Oid)} {obs : List Ob}, OE st0 E obs → obs.length = E.length
  | [], _, h => by rw [show _ = [] from h]; rfl
  | e :: r, _, ⟨ob, s, h1, _, h3⟩ => by rw [h1]; simp [OE_length h3]
theorem OE_append {st0 : St} : ∀ {E E2 : List (Option Oid)} {obs obs2 : List Ob}, OE st0 E obs → OE st0 E2 obs2 → OE st0 (E ++ E2) (obs ++ obs2)
  | [], _, _, _, h, h2 => by rw [show _ = [] from h]; exact h2
  | e :: r, _, _, _, ⟨ob, s, h1, h2, h3⟩, h4 => by rw [h1]; exact ⟨ob, _, rfl, h2, OE_append h3 h4⟩
theorem OE_get {st0 : St} : ∀ {E : List (Option Oid)} {obs : List Ob}, OE st0 E obs → ∀ (j : Nat) (e : Option Oid), E[j]? = some e → ∃ ob, obs[j]? = some ob ∧ OEm st0 e ob
  | [], _, _, j, e, h => by simp at h
  | e0 :: r, _, ⟨ob, s, h1, h2, h3⟩, j, e, h => by
    subst h1
    cases j with
    | zero => simp at h; subst h; exact ⟨ob, rfl, h2⟩
    | succ j => exact OE_get h3 j e (by simpa using h)

/-- T: objects that were dissolved; E: objects that were handed over, in their order. -/
structure XS (st0 st : St) (T : Oid → Prop) (E : List (Option Oid)) : Prop where
  kl : Kl (fun i => T i ∨ some i ∈ E) st0 st
  nd : ∀ (a b : Nat) (id : Oid), E[a]? = some (some id) → E[b]? = some (some id) → a = b
  dj : ∀ id, some id ∈ E → ¬ T id

/-- What the store at the end must be. -/
structure FinS (G : Gh) (st0 : St) (w : World) (T : Oid → Prop) (E : List (Option Oid)) (G' : Gh) (S' : Sto) : Prop where
  old : ∀ i ob, i.1 ≠ st0.lvl → st0.sto i = some ob → S' i = some ob ∧ G' i = G i
  av : ∀ b, b < w.heap.size → (∀ id ob, st0.sto id = some ob → own1 G id ob b → T id) → Av G' S' w b
  ex : ∀ (j : Nat) (id : Oid), E[j]? = some (some id) → G' (st0.lvl, j) = G id ∧ ∃ k es u hw ver, st0.sto id = some (.ar k es u hw ver) ∧ S' (st0.lvl, j) = some (.ar k es u es.length 0)
  nil : ∀ j : Nat, E[j]? = some none → G' (st0.lvl, j) = (fun _ => none) ∧ ∃ k, S' (st0.lvl, j) = some (.ar k [] true 0 0)

def Good (G : Gh) (st0 : St) (w : World) (T : Oid → Prop) (E : List (Option Oid)) (j0 : Nat) (y : IV) (v : Value) : Prop :=
  ∀ (T2 : Oid → Prop) (E2 : List (Option Oid)) (G' : Gh) (S' : Sto), (∀ i, T i → T2 i) → (∀ (j : Nat) (e : Option Oid), E[j]? = some e → E2[j]? = some e) → FinS G st0 w T2 E2 G' S' → VR G' S' w (impv true st0.lvl 0 j0 y).1 v
def Goods (G : Gh) (st0 : St) (w : World) (T : Oid → Prop) (E : List (Option Oid)) (j0 : Nat) (y : List IV) (v : List Value) : Prop :=
  ∀ (T2 : Oid → Prop) (E2 : List (Option Oid)) (G' : Gh) (S' : Sto), (∀ i, T i → T2 i) → (∀ (j : Nat) (e : Option Oid), E[j]? = some e → E2[j]? = some e) → FinS G st0 w T2 E2 G' S' → VRs G' S' w (impvs true st0.lvl 0 j0 y).1 v

section
variable {P : Program} {F : Fr} {G : Gh} {st0 st : St} {a : Act} {w : World} {T : Oid → Prop} {E : List (Option Oid)}

theorem XS.nil (st0 : St) : XS st0 st0 (fun _ => False) [] :=
  ⟨by
    have := Kl.refl st0
    rw [show (fun i => (fun _ => False) i ∨ some i ∈ ([] : List (Option Oid))) = fun _ => False from by funext i; simp]
    exact this, fun a b id h => by simp at h, fun id h => by cases h⟩

theorem XS.alive (x : XS st0 st T E) {id : Oid} {ob : Ob} (h : st.sto id = some ob) : ¬ T id ∧ some id ∉ E ∧ ∃ ob0, st0.sto id = some ob0 ∧ Wk (fun i => T i ∨ some i ∈ E) ob0 ob := by
  obtain ⟨h1, h2⟩ := x.kl.only id ob h
  exact ⟨fun h => h1 (.inl h), fun h => h1 (.inr h), h2⟩

theorem XS.melt (h0 : Sim F G st0 a w) (x : XS st0 st T E) {id : Oid} {ob : Ob} (hid : id.1 = st0.lvl) (hs : st.sto id = some ob) : XS st0 (kill id st) (fun i => T i ∨ i = id) E := by
  obtain ⟨a1, a2, ob0, a3, _⟩ := x.alive hs
  have k := x.kl.step (id := id) (fun i cells h => h0.ok.low i cells h) h0.outl hid (by rw [a3]; rfl)
  refine ⟨?_, x.nd, fun i hi => ?_⟩
  · rw [show (fun i => (T i ∨ i = id) ∨ some i ∈ E) = fun i => (T i ∨ some i ∈ E) ∨ i = id from by funext i; exact propext ⟨fun h => by rcases h with (h | h) | h <;> simp [h], fun h => by rcases h with (h | h) | h <;> simp [h]⟩]
    exact k
  · rintro (h | h)
    · exact x.dj i hi h
    · subst h; exact a2 hi

theorem XS.hand (h0 : Sim F G st0 a w) (x : XS st0 st T E) {id : Oid} {ob : Ob} (hid : id.1 = st0.lvl) (hs : st.sto id = some ob) : XS st0 (kill id st) T (E ++ [some id]) := by
  obtain ⟨a1, a2, ob0, a3, _⟩ := x.alive hs
  have k := x.kl.step (id := id) (fun i cells h => h0.ok.low i cells h) h0.outl hid (by rw [a3]; rfl)
  have hmem : ∀ (a : Nat) (i : Oid), (E ++ [some id])[a]? = some (some i) → E[a]? = some (some i) ∨ (i = id ∧ a = E.length) := fun a i h => by
    rw [List.getElem?_append] at h
    split at h
    · exact .inl h
    · rename_i hl
      have : a - E.length = 0 := by
        rcases Nat.eq_zero_or_pos (a - E.length) with h' | h'
        · exact h'
        · rw [List.getElem?_eq_none (by simp; omega)] at h; cases h
      rw [this] at h
      simp at h
      exact .inr ⟨h.symm, by omega⟩
  refine ⟨?_, fun a b i ha hb => ?_, fun i hi => ?_⟩
  · rw [show (fun i => T i ∨ some i ∈ E ++ [some id]) = fun i => (T i ∨ some i ∈ E) ∨ i = id from by funext i; simp [or_assoc]]
    exact k
  · rcases hmem a i ha with h1 | ⟨rfl, h1⟩ <;> rcases hmem b i hb with h2 | ⟨h3, h2⟩
    · exact x.nd a b i h1 h2
    · subst h3; exact absurd (List.mem_of_getElem? h1) a2
    · exact absurd (List.mem_of_getElem? h2) a2
    · omega
  · rcases List.mem_append.1 hi with h | h
    · exact x.dj i h
    · simp at h; subst h; exact a1

theorem XS.hnil (x : XS st0 st T E) : XS st0 st T (E ++ [none]) := by
  refine ⟨?_, fun a b i ha hb => ?_, fun i hi => x.dj i (by simpa using hi)⟩
  · rw [show (fun i => T i ∨ some i ∈ E ++ [none]) = fun i => T i ∨ some i ∈ E from by funext i; simp]
    exact x.kl
  · have key : ∀ c : Nat, (E ++ [none])[c]? = some (some i) → E[c]? = some (some i) := fun c h => by
      rw [List.getElem?_append] at h
      split at h
      · exact h
      · have := List.mem_of_getElem? h
        simp at this
    exact x.nd a b i (key a ha) (key b hb)

theorem FinS.mono {G' : Gh} {S' : Sto} (f : FinS G st0 w T E G' S') (b : Nat) (h : Av G st0.sto w b) : Av G' S' w b :=
  f.av b h.1 fun id ob hs ho => absurd ho (h.2 id ob hs)
theorem FinS.ids {G' : Gh} {S' : Sto} (f : FinS G st0 w T E G' S') (i : Oid) (ob : Ob) (hi : i.1 ≠ st0.lvl) (hs : st0.sto i = some ob) : ∃ ob', S' i = some ob' ∧ idR G G' i ob ob' := by
  obtain ⟨h1, h2⟩ := f.old i ob hi hs
  exact ⟨ob, h1, idR_refl h2 ob⟩
theorem FinS.vr {G' : Gh} {S' : Sto} (f : FinS G st0 w T E G' S') (x : IV) (v : Value) (hm : men (fun i => i.1 ≠ st0.lvl) x) (h : VR G st0.sto w x v) : VR G' S' w x v :=
  VR_step (P := fun i => i.1 ≠ st0.lvl) f.mono (fun _ _ => rfl) f.ids x v hm h
theorem FinS.vrs {G' : Gh} {S' : Sto} (f : FinS G st0 w T E G' S') (x : List IV) (v : List Value) (hm : mens (fun i => i.1 ≠ st0.lvl) x) (h : VRs G st0.sto w x v) : VRs G' S' w x v :=
  VRs_step (P := fun i => i.1 ≠ st0.lvl) f.mono (fun _ _ => rfl) f.ids x v hm h

/-- What one cell of a result becomes. -/
def CellOk (F : Fr) (G : Gh) (st0 : St) (w : World) (T : Oid → Prop) (E : List (Option Oid)) (v : Value) (K : IV → St → Prop) : Prop :=
  ∃ y st' T' e obs, K y st' ∧ XS st0 st' T' (E ++ e) ∧ (∀ i, T i → T' i) ∧ low F.lvl y ∧ OE st0 e obs ∧ (impv true st0.lvl 0 E.length y).2 = obs ∧ Good G st0 w T' (E ++ e) E.length y v

theorem CellOk.plain {v : Value} {K : IV → St → Prop} (hl : F.lvl = st0.lvl) (x : XS st0 st T E) {y : IV} (hk : K y st) (h1 : (impv true st0.lvl 0 E.length y) = (y, [])) (hm : low st0.lvl y) (hv : VR G st0.sto w y v) : CellOk F G st0 w T E v K := by
  refine ⟨y, st, T, [], [], hk, by simpa using x, fun _ h => h, by rw [hl]; exact hm, rfl, by rw [h1], fun T2 E2 G' S' _ _ f => ?_⟩
  rw [h1]
  exact f.vr y v (men_mono (fun i hi => by have hi : i.1 < st0.lvl := hi; exact Nat.ne_of_lt hi) y hm) hv

theorem expc_ok (h0 : Sim F G st0 a w) (xs : XS st0 st T E) {k : Nat} {x : IV} {v : Value} {K : IV → St → Prop} (hv : VR G st0.sto w x v) (he : expc k x st K) : CellOk F G st0 w T E v K := by
  have hll : st.lvl = st0.lvl := xs.kl.lvl
  have hout : ∀ id, (st0.sto id).isSome = true → id.1 ≠ st0.lvl → id.1 < st0.lvl := fun id hs hn => by
    obtain ⟨ob, hob⟩ := Option.isSome_iff_exists.1 hs
    rw [sto_out hn] at hob
    exact h0.outl id ob hob
  have plain := fun (y : IV) (hk : K y st) (h1 : (impv true st0.lvl 0 E.length y) = (y, [])) (hm : low st0.lvl y) (hv : VR G st0.sto w y v) => CellOk.plain (F := F) h0.lvl.symm xs hk h1 hm hv
  unfold expc at he
  split at he
  · rename_i id p off len cap s
    split at he
    · rename_i hid
      rw [hll] at hid
      split at he <;> try contradiction
      rename_i k' es u hw ver hs
      obtain ⟨rfl, rfl, he⟩ := he
      obtain ⟨_, _, ob0, hs0, hwk⟩ := xs.alive hs
      cases hwk
      split at he
      · obtain ⟨hl, hk⟩ := he
        refine ⟨_, _, (fun i => T i ∨ i = id), [], [], hk, by simpa using xs.melt h0 hid hs, fun i h => .inl h, trivial, rfl, rfl, fun T2 E2 G' S' hT hE f => ?_⟩
        have hr := hd_reads (A := Av G' S' w) h0.ok (fun _ b hb => f.mono b hb) hs0 (fun b ho => f.av b (own_lt (h0.ok.obs _ _ hs0) ho) fun id' ob' hs' ho' => by
          have := h0.ok.dis _ _ _ _ b hs' hs0 ho' ho
          exact hT _ (.inr this)) hv rfl rfl hl
        exact hr.1
      · obtain ⟨rfl, rfl, rfl, rfl, hk⟩ := he
        refine ⟨_, _, T, [some id], _, hk, xs.hand h0 hid hs, fun i h => h, trivial, ⟨_, [], rfl, ⟨_, _, _, _, _, hs0, rfl⟩, rfl⟩, rfl, fun T2 E2 G' S' hT hE f => ?_⟩
        obtain ⟨hG, k2, es2, u2, hw2, ver2, hs2, hS⟩ := f.ex E.length id (hE _ _ (by simp))
        rw [hs0] at hs2; cases hs2
        obtain ⟨h1, k3, es3, u3, hw3, ver3, hs3, _, h3⟩ := hv
        rw [hs0] at hs3; cases hs3
        simp only [impv, impc, if_true, Nat.zero_add]
        refine ⟨h1, _, _, _, _, _, hS, Nat.le_refl _, fun _ => ?_⟩
        rw [hG]
        exact h3 rfl
    · rename_i hid
      rw [hll] at hid
      have hsome : (st0.sto id).isSome = true := by
        obtain ⟨_, k3, es3, u3, hw3, ver3, hs3, _⟩ := hv
        rw [hs3]; rfl
      exact plain _ he rfl (hout id hsome hid) hv
  · rename_i es
    split at he
    · rename_i k1
      refine ⟨_, _, T, [none], _, he, xs.hnil, fun i h => h, trivial, ⟨_, [], rfl, ⟨_, rfl⟩, rfl⟩, rfl, fun T2 E2 G' S' hT hE f => ?_⟩
      obtain ⟨hG, k2, hS⟩ := f.nil E.length (hE _ _ (by simp))
      obtain ⟨⟨ad, rfl⟩, _⟩ := hv
      simp only [impv, impc, if_true, Nat.zero_add, List.length_nil]
      refine ⟨⟨ad, 0, rfl, Nat.le_refl _⟩, _, _, _, _, _, hS, Nat.le_refl _, fun _ => ?_⟩
      refine ⟨[], k2, ad, 0, rfl, fun _ => rfl, fun e he => (by simp at he), rfl, Nat.le_refl _, fun m hm => (by cases hm), fun _ _ => ?_, .inl rfl⟩
      rw [hG]; rfl
    · exact plain _ he rfl trivial hv.2
  · rename_i id o
    obtain ⟨h1, h2⟩ := he
    rw [hll] at h1
    have hsome : (st0.sto id).isSome = true := by
      obtain ⟨cells, b, c, hs, _⟩ := hv
      rw [hs]; rfl
    exact plain _ h2 rfl (hout id hsome h1) hv
  · exact he.elim
  · exact he.elim
  · exact he.elim
  · exact he.elim
  · exact he.elim
  · exact he.elim
  · rename_i f c
    obtain ⟨h1, h2⟩ := he
    rw [hll] at h1
    exact plain _ h2 rfl h1 hv
  · cases x with
    | un => exact plain _ he rfl trivial hv
    | tr t => exact plain _ he rfl trivial hv
    | er => exact plain _ he rfl trivial hv
    | hd id p off len cap s => exact (‹∀ (id : Oid) (p : Pth) (off len : Nat) (cap : Option Nat) (s : Nat), IV.hd _ _ _ _ _ _ = IV.hd id p off len cap s → False› id p off len cap s rfl).elim
    | cs es => exact (‹∀ (es : Row), IV.cs _ = IV.cs es → False› es rfl).elim
    | sv id => exact (‹∀ (id : Oid), IV.sv _ = IV.sv id → False› id rfl).elim
    | ab id o => exact (‹∀ (id : Oid) (o : Nat), IV.ab _ _ = IV.ab id o → False› id o rfl).elim
    | ae id p i f s => exact (‹∀ (id : Oid) (p : Pth) (i f s : Nat), IV.ae _ _ _ _ _ = IV.ae id p i f s → False› id p i f s rfl).elim
    | ta c => exact (‹∀ (c : List Tr), IV.ta _ = IV.ta c → False› c rfl).elim
    | ag l => exact (‹∀ (l : List IV), IV.ag _ = IV.ag l → False› l rfl).elim
    | tu l => exact (‹∀ (l : List IV), IV.tu _ = IV.tu l → False› l rfl).elim
    | ow k es u => exact (‹∀ (k : Nat) (es : Row) (u : Bool), IV.ow _ _ _ = IV.ow k es u → False› k es u rfl).elim
    | fn f c => exact (‹∀ (f : FuncId) (c : List IV), IV.fn _ _ = IV.fn f c → False› f c rfl).elim
end
end Go.Fd

/-
  FOUNDATION 42: results (all of them); the contract of a function out of its annotated code. Own work.
-/
namespace Go.Fd

def CellsOk (F : Fr) (G : Gh) (st0 : St) (w : World) (T : Oid → Prop) (E : List (Option Oid)) (vs : List Value) (K : List IV → St → Prop) : Prop :=
  ∃ ys st' T' e obs, K ys st' ∧ XS st0 st' T' (E ++ e) ∧ (∀ i, T i → T' i) ∧ lows F.lvl ys ∧ OE st0 e obs ∧ (impvs true st0.lvl 0 E.length ys).2 = obs ∧ Goods G st0 w T' (E ++ e) E.length ys vs

section
variable {P : Program} {F : Fr} {G : Gh} {st0 st : St} {a : Act} {w : World} {T : Oid → Prop} {E : List (Option Oid)}

theorem CellsOk.nil {K : List IV → St → Prop} (x : XS st0 st T E) (hk : K [] st) : CellsOk F G st0 w T E [] K :=
  ⟨[], st, T, [], [], hk, by simpa using x, fun _ h => h, trivial, rfl, rfl, fun _ _ _ _ _ _ _ => rfl⟩

theorem CellsOk.cons {v : Value} {vs : List Value} {K : IV → St → Prop} {K2 : List IV → St → Prop} (h : CellOk F G st0 w T E v K) (hr : ∀ y st' T' E', K y st' → XS st0 st' T' E' → CellsOk F G st0 w T' E' vs (fun ys st'' => K2 (y :: ys) st'')) :
    CellsOk F G st0 w T E (v :: vs) K2 := by
  obtain ⟨y, st1, T1, e1, obs1, hk, hx, ht, hlow, hoe, himp, hg⟩ := h
  obtain ⟨ys, st2, T2, e2, obs2, hk2, hx2, ht2, hlow2, hoe2, himp2, hg2⟩ := hr y st1 T1 (E ++ e1) hk hx
  have hlen : (E ++ e1).length = E.length + (impv true st0.lvl 0 E.length y).2.length := by rw [himp, OE_length hoe]; simp
  rw [hlen] at himp2 hg2
  refine ⟨y :: ys, st2, T2, e1 ++ e2, obs1 ++ obs2, hk2, by rw [← List.append_assoc]; exact hx2, fun i h => ht2 i (ht i h), ⟨hlow, hlow2⟩, OE_append hoe hoe2, ?_, fun T3 E3 G' S' hT hE f => ?_⟩
  · simp only [impvs]
    rw [himp2, himp]
  · simp only [impvs]
    rw [← List.append_assoc] at hE
    refine ⟨v, vs, rfl, hg T3 E3 G' S' (fun i h => hT i (ht2 i h)) (fun j e he => hE j e ?_) f, hg2 T3 E3 G' S' hT hE f⟩
    have := (List.getElem?_eq_some_iff.1 he).1
    rw [List.getElem?_append_left this]; exact he

theorem expcs_ok (h0 : Sim F G st0 a w) : ∀ (l : List IV) (ks : List Nat) (vs : List Value) (st : St) (T : Oid → Prop) (E : List (Option Oid)) (K : List IV → St → Prop), XS st0 st T E → VRs G st0.sto w l vs → expcs ks l st K → CellsOk F G st0 w T E vs K
  | [], ks, vs, st, T, E, K, hx, hv, he => by
    rw [show vs = [] from hv]
    simp only [expcs] at he
    exact .nil hx he
  | x :: r, ks, vs, st, T, E, K, hx, hv, he => by
    obtain ⟨v, vr, rfl, h1, h2⟩ := hv
    simp only [expcs] at he
    exact .cons (expc_ok h0 hx h1 he) fun y st' T' E' hk hx' => expcs_ok h0 r ks.tail vr st' T' E' _ hx' h2 hk

theorem expv_ok (h0 : Sim F G st0 a w) (xs : XS st0 st T E) {ks : List Nat} {x : IV} {v : Value} {K : IV → St → Prop} (hv : VR G st0.sto w x v) (he : expv ks x st K) : CellOk F G st0 w T E v K := by
  unfold expv at he
  split at he
  · rename_i l
    obtain ⟨vs, rfl, hv⟩ := hv
    obtain ⟨ys, st2, T2, e2, obs2, hk2, hx2, ht2, hlow2, hoe2, himp2, hg2⟩ := expcs_ok h0 l ks vs st T E _ xs hv he
    refine ⟨.ag ys, st2, T2, e2, obs2, hk2, hx2, ht2, by simpa only [men] using hlow2, hoe2, by simpa only [impv] using himp2, fun T3 E3 G' S' hT hE f => ?_⟩
    simp only [impv]
    exact ⟨vs, rfl, hg2 T3 E3 G' S' hT hE f⟩
  · exact expc_ok h0 xs hv he

/-- The reading of one result. -/
def readR (a : Act) : ResultVar → _root_.Go.Sem Value
  | .tmp t => pure (a.tmps.getD t undef)
  | .cell b t => do loadVar t (← asAddr (a.tmps.getD b undef))

theorem exp1_ok (h0 : Sim F G st0 a w) (xs : XS st0 st T E) {r : RS} {rv : ResultVar} {K : IV → St → Prop} (hc : chkRes P [r] [rv] = true) (he : exp1 r st K) : ∃ v, (readR a rv).run P w = .ok v w ∧ CellOk F G st0 w T E v K := by
  have henv : ∀ n, VR G st0.sto w (lk n st.env) (a.tmps.getD n undef) := fun n => xs.kl.vr n G st0.sto w _ (h0.env n)
  cases r with
  | t n ks =>
    cases rv with
    | cell => simp only [chkRes] at hc; cases hc
    | tmp m =>
      simp only [chkRes, Bool.and_eq_true, beq_iff_eq] at hc
      obtain ⟨rfl, _⟩ := hc
      exact ⟨_, rfl, expv_ok h0 xs (henv n) he⟩
  | c n m ks =>
    cases rv with
    | tmp => simp only [chkRes] at hc; cases hc
    | cell b t =>
      simp only [chkRes, Bool.and_eq_true, beq_iff_eq] at hc
      obtain ⟨⟨rfl, hsh⟩, _⟩ := hc
      simp only [exp1] at he
      split at he <;> try contradiction
      rename_i id off hl
      have hv := henv n
      rw [hl] at hv
      split at he <;> try contradiction
      rename_i cells hs
      obtain ⟨_, _, ob0, hs0, hwk⟩ := xs.alive hs
      cases hwk with
      | bx cells0 _ _ hwv _ =>
        obtain ⟨cells1, b1, c1, hs1, hg1, hv⟩ := hv
        obtain ⟨b, c, vs, ty, hg, hh, hvs⟩ := h0.ok.obs id _ hs0
        rw [hg] at hg1; cases hg1
        have hvs := hwv _ _ _ _ hvs
        have hcell : ∀ j u, vs.toList[j]? = some u → w.cell? ⟨b1, j, none⟩ = some u := fun j u hu => by
          rw [cell_of_row w b1 j vs ty (0, 0) hh]
          simpa using hu
        have hrun : ∀ u, (loadVar t ⟨b1, off, none⟩).run P w = .ok u w → (readR a (.cell n t)).run P w = .ok u w := fun u hu => by
          simp only [readR, hv, asAddr, Sem.run_bind, Sem.run_pure, Result.andThen_ok, hu]
        cases m with
        | none =>
          obtain ⟨x, hx, _, he⟩ := he
          obtain ⟨u, hu, hxu⟩ := VRs_get hvs off x hx
          simp only [shapeT, beq_iff_eq] at hsh
          exact ⟨u, hrun u (run_loadVar_one hsh (hcell off u hu)), expv_ok h0 xs hxu he⟩
        | some m =>
          obtain ⟨hle, he⟩ := he
          simp only [shapeT, Bool.and_eq_true, beq_iff_eq] at hsh
          have hlen := VRs_length hvs
          have hl2 : ((vs.toList.drop off).take m).length = m := by rw [List.length_take, List.length_drop, hlen]; omega
          refine ⟨.agg ((vs.toList.drop off).take m).toArray, hrun _ (run_loadVar_agg hsh.1 (by rw [hl2]; exact hsh.2) (fun j u hu => ?_)), expv_ok (x := .ag ((cells.drop off).take m)) h0 xs ⟨_, rfl, VRs_take (VRs_drop hvs off) m⟩ he⟩
          rw [add_mk]
          refine hcell _ _ ?_
          rw [List.getElem?_take] at hu
          split at hu
          · simpa using hu
          · cases hu

theorem exps_ok (h0 : Sim F G st0 a w) : ∀ (rs : List RS) (rvs : List ResultVar) (st : St) (T : Oid → Prop) (E : List (Option Oid)) (K : List IV → St → Prop), XS st0 st T E → chkRes P rs rvs = true → exps rs st K →
    ∃ vs, (rvs.mapM (readR a)).run P w = .ok vs w ∧ CellsOk F G st0 w T E vs K
  | [], rvs, st, T, E, K, hx, hc, he => by
    cases rvs with
    | nil => exact ⟨[], rfl, .nil hx he⟩
    | cons => simp only [chkRes] at hc; cases hc
  | r :: rs, rvs, st, T, E, K, hx, hc, he => by
    cases rvs with
    | nil => simp only [chkRes] at hc; cases hc
    | cons rv rvs =>
      have hc1 : chkRes P [r] [rv] = true ∧ chkRes P rs rvs = true := by
        cases r <;> cases rv <;> simp_all [chkRes]
      simp only [exps] at he
      obtain ⟨v, hv, hk⟩ := exp1_ok h0 hx hc1.1 he
      -- the rest
      obtain ⟨y, st1, T1, e1, obs1, hk1, hx1, ht1, hlow1, hoe1, himp1, hg1⟩ := hk
      obtain ⟨vs, hvs, hk2⟩ := exps_ok h0 rs rvs st1 T1 (E ++ e1) _ hx1 hc1.2 hk1
      refine ⟨v :: vs, ?_, ?_⟩
      · rw [List.mapM_cons]
        simp only [Sem.run_bind, hv, Result.andThen_ok, hvs, Sem.run_pure]
      · refine CellsOk.cons (K := fun y' st' => y' = y ∧ st' = st1 ∧ ∀ T' E', XS st0 st' T' E' → CellsOk F G st0 w T' E' vs (fun ys st'' => K (y :: ys) st'')) ?_ (fun y' st' T' E' hk' hx' => ?_)
        · refine ⟨y, st1, T1, e1, obs1, ⟨rfl, rfl, fun T' E' hx' => ?_⟩, hx1, ht1, hlow1, hoe1, himp1, hg1⟩
          obtain ⟨vs', hvs', hk3⟩ := exps_ok h0 rs rvs st1 T' E' _ hx' hc1.2 hk1
          rw [hvs] at hvs'
          cases hvs'
          exact hk3
        · obtain ⟨rfl, rfl, hh⟩ := hk'
          exact hh T' E' hx'

theorem fin_fin (h0 : Sim F G st0 a w) (x : XS st0 st T E) {obs : List Ob} (oe : OE st0 E obs) {G' : Gh} {S' : Sto} (hG1 : ∀ i, i.1 ≠ st0.lvl → G' i = G i) (hG2 : ∀ (j : Nat) (id : Oid), E[j]? = some (some id) → G' (st0.lvl, j) = G id)
    (hG3 : ∀ j : Nat, E[j]? = some none → G' (st0.lvl, j) = fun _ => none) (hS1 : ∀ i, i.1 ≠ st0.lvl → S' i = st0.sto i) (hS2 : ∀ j : Nat, S' (st0.lvl, j) = obs[j]?) : FinS G st0 w T E G' S' ∧ SOk G' S' w ∧ ∀ (L n : Nat), L ≤ st0.lvl → Frm ⟨G, st0.sto, w, L, n⟩ G' S' w := by
  -- where an object of the end comes from
  have src : ∀ i ob, S' i = some ob → (i.1 ≠ st0.lvl ∧ st0.sto i = some ob) ∨ (∃ j id k es u hw ver, i = (st0.lvl, j) ∧ E[j]? = some (some id) ∧ st0.sto id = some (.ar k es u hw ver) ∧ ob = .ar k es u es.length 0) ∨
      (∃ j k, i = (st0.lvl, j) ∧ E[j]? = some none ∧ ob = .ar k [] true 0 0) := fun i ob hs => by
    by_cases hi : i.1 = st0.lvl
    · right
      obtain ⟨i1, j⟩ := i
      have hi : i1 = st0.lvl := hi
      subst hi
      rw [hS2] at hs
      have hj : j < E.length := by rw [← OE_length oe]; exact (List.getElem?_eq_some_iff.1 hs).1
      obtain ⟨e, he⟩ : ∃ e, E[j]? = some e := ⟨_, List.getElem?_eq_getElem hj⟩
      obtain ⟨ob', h1, h2⟩ := OE_get oe j e he
      rw [hs] at h1; cases h1
      cases e with
      | some id =>
        obtain ⟨k, es, u, hw, ver, h3, h4⟩ := h2
        exact .inl ⟨j, id, k, es, u, hw, ver, rfl, he, h3, h4⟩
      | none =>
        obtain ⟨k, h4⟩ := h2
        exact .inr ⟨j, k, rfl, he, h4⟩
    · exact .inl ⟨hi, by rw [← hS1 i hi]; exact hs⟩
  have hdead : ∀ i, T i ∨ some i ∈ E → i.1 = st0.lvl := x.kl.dead
  -- who owned its blocks
  have osrc : ∀ i ob b, S' i = some ob → own1 G' i ob b → ∃ i0 ob0, st0.sto i0 = some ob0 ∧ own1 G i0 ob0 b ∧ ¬ T i0 ∧ ((i.1 ≠ st0.lvl ∧ i0 = i) ∨ ∃ j, i = (st0.lvl, j) ∧ E[j]? = some (some i0)) := fun i ob b hs ho => by
    rcases src i ob hs with ⟨hi, h1⟩ | ⟨j, id, k, es, u, hw, ver, rfl, he, h3, rfl⟩ | ⟨j, k, rfl, he, rfl⟩
    · exact ⟨i, ob, h1, (own_ren (hG1 i hi)).1 ho, fun ht => hi (hdead i (.inl ht)), .inl ⟨hi, rfl⟩⟩
    · refine ⟨id, _, h3, ?_, x.dj id (List.mem_of_getElem? he), .inr ⟨j, rfl, he⟩⟩
      obtain ⟨p, c, h4, h5, h6⟩ := ho
      rw [hG2 j id he] at h6
      exact ⟨p, c, h4, h5, h6⟩
    · obtain ⟨p, c, h4, h5, h6⟩ := ho
      rw [hG3 j he] at h6
      cases h6
  have fs : FinS G st0 w T E G' S' := by
    refine ⟨fun i ob hi hs => ⟨by rw [hS1 i hi]; exact hs, hG1 i hi⟩, fun b hb hT => ⟨hb, fun i ob hs ho => ?_⟩, fun j id he => ⟨hG2 j id he, ?_⟩, fun j he => ⟨hG3 j he, ?_⟩⟩
    · obtain ⟨i0, ob0, h1, h2, h3, _⟩ := osrc i ob b hs ho
      exact h3 (hT i0 ob0 h1 h2)
    · obtain ⟨ob, h1, k, es, u, hw, ver, h2, rfl⟩ := OE_get oe j _ he
      exact ⟨k, es, u, hw, ver, h2, by rw [hS2]; exact h1⟩
    · obtain ⟨ob, h1, k, rfl⟩ := OE_get oe j _ he
      exact ⟨k, by rw [hS2]; exact h1⟩
  have hlows : ∀ i cells, i.1 ≠ st0.lvl → st0.sto i = some (.bx cells) → mens (fun j => j.1 ≠ st0.lvl) cells := fun i cells hi hs => by
    have h1 := h0.ok.low i cells hs
    rw [sto_out hi] at hs
    have h2 := h0.outl i _ hs
    refine mens_mono (fun j hj => ?_) cells h1
    have hj : j.1 < i.1 + 1 := hj
    omega
  refine ⟨fs, ⟨fun i ob hs => ?_, fun i ob i' ob' b hs hs' ho ho' => ?_, fun i cells hs => ?_⟩, fun L n hL => ⟨Nat.le_refl _, fun _ _ _ => rfl, fun i ob b hs ho => ?_, rfl, rfl, rfl, fun y v hy hv => ?_⟩⟩
  · rcases src i ob hs with ⟨hi, h1⟩ | ⟨j, id, k, es, u, hw, ver, rfl, he, h3, rfl⟩ | ⟨j, k, rfl, he, rfl⟩
    · exact OOk_keep (hG1 i hi) fs.mono (fun _ _ => rfl) (fun _ _ => rfl) (fun cells vs e hv => fs.vrs cells vs (hlows i cells hi (by rw [h1, e])) hv) (h0.ok.obs i ob h1)
    · obtain ⟨g1, g2, g3, g4, g5⟩ := h0.ok.obs id _ h3
      have hG := hG2 j id he
      refine ⟨Nat.le_refl _, g2, by rw [hG]; omega, fun p es' hp hg => rowR_ren hG fs.mono (g4 p es' hp hg), by rw [hG]; exact g5⟩
    · have hG := hG3 j he
      refine ⟨Nat.le_refl _, fun e he => (by cases he), Nat.zero_le _, fun p es' hp hg => ?_, fun p p' b c c' _ _ _ _ h => (by rw [hG] at h; cases h)⟩
      unfold rowR
      rw [hG]
      dsimp only
      cases p with
      | nil => simp only [getp, Option.some.injEq] at hg; exact hg.symm
      | cons q p => obtain ⟨a, b⟩ := q; simp [getp] at hg
  · obtain ⟨i0, ob0, h1, h2, _, h3⟩ := osrc i ob b hs ho
    obtain ⟨j0, ob1, g1, g2, _, g3⟩ := osrc i' ob' b hs' ho'
    have he := h0.ok.dis _ _ _ _ b h1 g1 h2 g2
    subst he
    rcases h3 with ⟨n1, rfl⟩ | ⟨a1, rfl, e1⟩ <;> rcases g3 with ⟨n2, e2⟩ | ⟨a2, rfl, e2⟩
    · exact e2
    · exact absurd (hdead _ (.inr (List.mem_of_getElem? e2))) n1
    · subst e2; exact absurd (hdead _ (.inr (List.mem_of_getElem? e1))) n2
    · rw [x.nd a1 a2 i0 e1 e2]
  · rcases src i _ hs with ⟨hi, h1⟩ | ⟨j, id, k, es, u, hw, ver, rfl, he, h3, h4⟩ | ⟨j, k, rfl, he, h4⟩
    · exact h0.ok.low i cells h1
    · cases h4
    · cases h4
  · obtain ⟨i0, ob0, h1, h2, _⟩ := osrc i ob b hs ho
    exact .inr ⟨i0, ob0, h1, h2⟩
  · refine fs.vr y v (men_mono (fun j hj => ?_) y hy) hv
    have hj : j.1 < L := hj
    omega

theorem impvs_length (imp : Bool) (l b : Nat) : ∀ (r : List IV) (j : Nat), (impvs imp l b j r).1.length = r.length
  | [], _ => rfl
  | x :: r, j => by simp only [impvs, List.length_cons, impvs_length imp l b r]

/-- What a function hands back. -/
theorem fin_ok (h0 : Sim F G st0 a w) {fn : Func} {rs : List RS} {K : IV → Sto → Prop} (hc : chkRes P rs fn.results.toList = true) (he : fin rs st0 K) :
    ∃ v r S' G', (results fn a.tmps).run P w = .ok v w ∧ K r S' ∧ low F.lvl r ∧ (∀ id ob, S' id = some ob → id.1 < F.lvl) ∧ SOk G' (addS S' F.lvl 0 (impv true F.lvl 0 0 r).2) w ∧ VR G' (addS S' F.lvl 0 (impv true F.lvl 0 0 r).2) w (impv true F.lvl 0 0 r).1 v ∧
      Frm ⟨F.G, F.S, F.w, F.lvl, 0⟩ G' (addS S' F.lvl 0 (impv true F.lvl 0 0 r).2) w := by
  obtain ⟨vs, hrun, ys, st', T, e, obs, hk, hx, _, hlow, hoe, himp, hg⟩ := exps_ok h0 rs fn.results.toList st0 (fun _ => False) [] _ (XS.nil st0) hc he
  simp only [List.nil_append] at hx hg
  have hlv : F.lvl = st0.lvl := h0.lvl.symm
  have hout : st'.out = st0.out := hx.kl.out
  have hfresh : Fresh st0.out st0.lvl 0 obs.length := fun j _ => by
    cases h : st0.out (st0.lvl, 0 + j) with
    | none => rfl
    | some ob => have := h0.outl _ ob h; simp at this
  let G' : Gh := fun i => if i.1 = st0.lvl then (match e[i.2]? with | some (some id) => G id | _ => fun _ => none) else G i
  have hS1 : ∀ i, i.1 ≠ st0.lvl → addS st0.out st0.lvl 0 obs i = st0.sto i := fun i hi => by
    rw [sto_out hi]
    cases h : st0.out i with
    | some ob => exact addS_old obs _ _ _ hfresh i ob h
    | none =>
      cases h2 : addS st0.out st0.lvl 0 obs i with
      | none => rfl
      | some ob =>
        rcases addS_new obs _ _ _ i ob h2 with g | ⟨j, _, rfl, _⟩
        · rw [h] at g; cases g
        · exact absurd rfl hi
  have hS2 : ∀ j : Nat, addS st0.out st0.lvl 0 obs (st0.lvl, j) = obs[j]? := fun j => by
    cases h : obs[j]? with
    | some ob => have := addS_at obs st0.out st0.lvl 0 j ob h; rwa [Nat.zero_add] at this
    | none =>
      cases h2 : addS st0.out st0.lvl 0 obs (st0.lvl, j) with
      | none => rfl
      | some ob =>
        rcases addS_new obs _ _ _ _ ob h2 with g | ⟨j', _, g1, g2⟩
        · have := h0.outl _ ob g; simp at this
        · simp at g1; subst g1; rw [h] at g2; cases g2
  obtain ⟨fs, hok, hfr⟩ := fin_fin (G' := G') (S' := addS st0.out st0.lvl 0 obs) h0 hx hoe (fun i hi => by simp only [G']; rw [if_neg hi]) (fun j id hj => by simp only [G', if_true, hj]) (fun j hj => by simp only [G', if_true, hj]) hS1 hS2
  have hvr := hg T e G' _ (fun _ h => h) (fun _ _ h => h) fs
  have hfrm : Frm ⟨F.G, F.S, F.w, F.lvl, 0⟩ G' (addS st0.out st0.lvl 0 obs) w := by
    have h1 : Frm ⟨F.G, F.S, F.w, F.lvl, 0⟩ G st0.sto w := ⟨h0.fr.size, h0.fr.old, h0.fr.own, h0.fr.os, h0.fr.tape, h0.fr.output, h0.fr.stab⟩
    exact h1.trans (hfr F.lvl 0 (Nat.le_of_eq hlv)) (Nat.le_refl _)
  have hcl : ∀ id ob, st0.out id = some ob → id.1 < F.lvl := fun id ob hs => by rw [hlv]; exact h0.outl id ob hs
  have hres : ∀ v, (if h : vs.toArray.size = 1 then vs.toArray[0] else Value.tuple vs.toArray) = v → (results fn a.tmps).run P w = .ok v w := fun v hv => by
    have : (results fn a.tmps) = (do let vs ← fn.results.mapM (readR a); pure (if h : vs.size = 1 then vs[0] else .tuple vs)) := by
      unfold results
      congr 1
    rw [this, Array.mapM_eq_mapM_toList]
    simp only [Sem.run_bind, Sem.run_map, hrun, Result.andThen_ok, Sem.run_pure]
    rw [← hv]
  have hlen := VRs_length hvr
  rw [impvs_length] at hlen
  rw [hout] at hk
  rw [hlv] at hlow ⊢
  rw [hlv] at hfrm
  cases ys with
  | nil =>
    have hvs : vs = [] := List.eq_nil_of_length_eq_zero (by simpa using hlen)
    subst hvs
    have hobs : obs = [] := by rw [← himp]; rfl
    subst hobs
    exact ⟨.tuple #[], .tu [], st0.out, G', hres _ (by simp), hk, trivial, fun id ob h => hlv ▸ hcl id ob h, hok, ⟨[], rfl, rfl⟩, hfrm⟩
  | cons y r =>
    cases r with
    | nil =>
      obtain ⟨v, vr, rfl, h1, h2⟩ := hvr
      rw [show vr = [] from h2] at hres
      have hobs : (impv true st0.lvl 0 0 y).2 = obs := by
        rw [← himp]; simp [impvs]
      refine ⟨v, y, st0.out, G', hres v (by simp), hk, hlow.1, fun id ob h => hlv ▸ hcl id ob h, ?_, ?_, ?_⟩
      · rw [hobs]; exact hok
      · rw [hobs]; exact h1
      · rw [hobs]; exact hfrm
    | cons z r =>
      have hobs : (impv true st0.lvl 0 0 (.tu (y :: z :: r))).2 = obs := by
        rw [← himp]; simp only [impv]; rfl
      refine ⟨.tuple vs.toArray, .tu (y :: z :: r), st0.out, G', hres _ ?_, hk, by simpa only [men] using hlow, fun id ob h => hlv ▸ hcl id ob h, ?_, ?_, ?_⟩
      · rw [dif_neg]
        simp at hlen ⊢
        omega
      · rw [hobs]; exact hok
      · rw [hobs]
        simp only [impv]
        exact ⟨vs, rfl, hvr⟩
      · rw [hobs]; exact hfrm

/-- The contract of a function, out of its annotated code. -/
theorem sem_of_wp {f : FuncId} {fn : Func} {c : Code} {f2 : F2} {lvl : Nat} {args : List IV} {S : Sto} {r : IV} {S' : Sto} (hf : P.funcs[f]? = some fn) (hb : fn.body = some c) (hname : (fn.name == "runtime.NumGoroutine") = false)
    (hnt : fn.ntmps = f2.nt) (hc : chkC P f2.nt f2.body c = true) (hr : chkRes P f2.res fn.results.toList = true) (hlow : low lvl r)
    (h : wpF (Sem P) f2 lvl args S (fun r' S2 => r' = r ∧ S2 = S')) : Sem P f lvl args S r S' := by
  refine ⟨hlow, ⟨fn, hf, by rw [hb]; rfl, hname⟩, fun hcl G w vs hok hvs => ?_⟩
  obtain ⟨hlen, h⟩ := h
  have hvl := VRs_length hvs
  refine calls_of_wp hf hb ?_
  have hsim : Sim ⟨G, S, w, lvl, f2.nt⟩ G ⟨lvl, params 0 args, [], S⟩ { tmps := vs.toArray ++ Array.replicate (fn.ntmps - vs.toArray.size) undef, defers := [] } w := by
    have hsto : (⟨lvl, params 0 args, [], S⟩ : St).sto = S := by
      funext id
      unfold St.sto packS
      split
      · rename_i hi
        simp only [lkO]
        cases hs : S id with
        | none => rfl
        | some ob => have h1 := hcl id ob hs; have hi : id.1 = lvl := hi; omega
      · rfl
    refine ⟨rfl, by simp [hnt, hvl]; omega, fun t => ?_, by rw [hsto]; exact hok, rfl, hcl, by rw [hsto]; exact ⟨Nat.le_refl _, fun _ _ _ => rfl, fun i ob b hs ho => .inr ⟨i, ob, hs, ho⟩, rfl, rfl, rfl, fun _ _ _ h => h⟩⟩
    rw [hsto]
    show VR G S w (lk t (params 0 args)) _
    rw [lk_params t args 0 (Nat.zero_le _), Nat.sub_zero]
    cases ha : args[t]? with
    | none => exact trivial
    | some x =>
      obtain ⟨v, hv, hx⟩ := VRs_get hvs t x ha
      have ht : t < vs.length := (List.getElem?_eq_some_iff.1 hv).1
      simp only [Option.getD_some]
      have : ((vs.toArray ++ Array.replicate (fn.ntmps - vs.toArray.size) undef).getD t undef) = v := by
        rw [Array.getD_eq_getD_getElem?, Array.getElem?_append_left (by simpa using ht)]
        simp [hv]
      rw [this]
      exact hx
  refine code_ok f2.body c _ _ _ G _ w hc h hsim (fun ex st' G1 a' w' hk hs => ?_)
  cases ex with
  | ext i => exact hk.elim
  | nrm =>
    obtain ⟨v, r', S2, G2, h1, ⟨rfl, rfl⟩, h2, h3, h4, h5, h6⟩ := fin_ok hs hr hk
    exact ⟨hs.dfr, v, h1, v, G2, rfl, h4, h5, h3, h6⟩
  | ret =>
    obtain ⟨v, r', S2, G2, h1, ⟨rfl, rfl⟩, h2, h3, h4, h5, h6⟩ := fin_ok hs hr hk
    exact ⟨hs.dfr, v, h1, v, G2, rfl, h4, h5, h3, h6⟩
end
end Go.Fd

/-
  FOUNDATION 43: the check of a whole function. Own work.
-/
namespace Go.Fd

/-- The annotated function belongs to function f of the program. -/
def chkF (P : Program) (f : FuncId) (f2 : F2) : Bool :=
  match P.funcs[f]? with
  | some fn =>
    match fn.body with
    | some c => !(fn.name == "runtime.NumGoroutine") && fn.ntmps == f2.nt && chkC P f2.nt f2.body c && chkRes P f2.res fn.results.toList
    | none => false
  | none => false

theorem sem_of_chk {P : Program} {f : FuncId} {f2 : F2} {lvl : Nat} {args : List IV} {S : Sto} {r : IV} {S' : Sto} (hc : chkF P f f2 = true) (hlow : low lvl r)
    (h : wpF (Sem P) f2 lvl args S (fun r' S2 => r' = r ∧ S2 = S')) : Sem P f lvl args S r S' := by
  unfold chkF at hc
  split at hc <;> try contradiction
  rename_i fn hf
  split at hc <;> try contradiction
  rename_i c hb
  simp only [Bool.and_eq_true, Bool.not_eq_true', beq_iff_eq] at hc
  exact sem_of_wp hf hb hc.1.1.1 hc.1.1.2 hc.1.2 hc.2 hlow h
end Go.Fd

/-
  FOUNDATION 44: the rules by which the predicate transformer is worked out, one operation at a time. Own work.
-/
namespace Go.Fd

section
variable {C : Contract} {lvl : Nat} {env : List (Nat × IV)} {loc : List (Nat × Ob)} {out : Sto} {d : Option Nat} {K : St → Prop} {st : St} {Q : Ex → St → Prop}

/-! ## continuations -/
def kont (C : Contract) (l : List OP) (K : St → Prop) : St → Prop := fun st => wpo C l st K
theorem r_cons {o : OP} {l : List OP} : wpo C (o :: l) st K = op1 C o st (kont C l K) := (rfl)
theorem r_nil : wpo C [] st K = K st := (rfl)
theorem r_kont {l : List OP} : kont C l K st = wpo C l st K := (rfl)
def kseq (C : Contract) (b : C2) (Q : Ex → St → Prop) : Ex → St → Prop := fun e st => match e with | .nrm => wp C b st Q | e => Q e st
def kblk (i : Nat) (Q : Ex → St → Prop) : Ex → St → Prop := fun e st => match e with | .ext j => if j = i then Q .nrm st else Q (.ext j) st | e => Q e st
def kfn (rs : List RS) (K : IV → Sto → Prop) : Ex → St → Prop := fun e st => match e with | .ext _ => False | _ => fin rs st K
theorem r_seq1 {b : C2} : kseq C b Q .nrm st = wp C b st Q := (rfl)
theorem r_seq2 {b : C2} {i : Nat} : kseq C b Q (.ext i) st = Q (.ext i) st := (rfl)
theorem r_seq3 {b : C2} : kseq C b Q .ret st = Q .ret st := (rfl)
theorem r_blk1 {i : Nat} : kblk i Q .nrm st = Q .nrm st := (rfl)
theorem r_blk2 {i j : Nat} : kblk i Q (.ext j) st = if j = i then Q .nrm st else Q (.ext j) st := (rfl)
theorem r_blk3 {i : Nat} : kblk i Q .ret st = Q .ret st := (rfl)
theorem r_fn2 {rs : List RS} {K : IV → Sto → Prop} : kfn rs K .ret st = fin rs st K := (rfl)
/-! ## codes -/
theorem r_sk : wp C .sk st Q = Q .nrm st := (rfl)
theorem r_rg {n : Option Nat} {ops : List OP} : wp C (.rg n ops) st Q = wpo C ops st (Q .nrm) := (rfl)
theorem r_sq {a b : C2} : wp C (.sq a b) st Q = wp C a st (kseq C b Q) := (rfl)
theorem r_bl {i : Nat} {c : C2} : wp C (.bl i c) st Q = wp C c st (kblk i Q) := (rfl)
theorem r_ex {i : Nat} : wp C (.ex i) st Q = Q (.ext i) st := (rfl)
theorem r_rt : wp C .rt st Q = Q .ret st := (rfl)
def cd2 (C : Contract) (v : IV) (a b : C2) (st : St) (Q : Ex → St → Prop) : Prop :=
  match v with
  | .tr (.v (.bool t)) => if t = true then wp C a st Q else wp C b st Q
  | _ => False
theorem r_cd {c : X} {a b : C2} : wp C (.cd c a b) ⟨lvl, env, loc, out⟩ Q = cd2 C (xv env c) a b ⟨lvl, env, loc, out⟩ Q := by
  simp only [wp]
  generalize xv env c = v
  cases v <;> try rfl
  rename_i t
  cases t <;> try rfl
  rename_i x
  cases x <;> try rfl
  rename_i t
  cases t <;> simp [cd2]
theorem r_cd2 {t : Bool} {a b : C2} : cd2 C (.tr (.v (.bool t))) a b st Q = if t = true then wp C a st Q else wp C b st Q := (rfl)
theorem r_wpF {f : F2} {args : List IV} {K : IV → Sto → Prop} : wpF C f lvl args out K = (args.length ≤ f.nt ∧ wp C f.body ⟨lvl, params 0 args, [], out⟩ (kfn f.res K)) := (rfl)

/-! ## guards -/
def gd (C : Contract) (v : IV) (w : Bool) (j : Nat) (d : Option Nat) (o : O) (lvl : Nat) (env : List (Nat × IV)) (loc : List (Nat × Ob)) (out : Sto) (K : St → Prop) : Prop :=
  match v with
  | .tr (.v (.bool c)) => if c = w then op2 C d o ⟨lvl, pt j (iB w) env, loc, out⟩ K else K ⟨lvl, ptd d (.tu []) (pt j (iB !w) env), loc, out⟩
  | .tu [] => K ⟨lvl, ptd d (.tu []) env, loc, out⟩
  | _ => False
theorem r_op1 {o : O} : op1 C ⟨d, none, o⟩ st K = op2 C d o st K := (rfl)
theorem r_op1g {o : O} {j : Nat} {w : Bool} : op1 C ⟨d, some (j, w), o⟩ ⟨lvl, env, loc, out⟩ K = gd C (lk j env) w j d o lvl env loc out K := by
  simp only [op1]
  generalize lk j env = v
  cases v with
  | tr t =>
    cases t with
    | v x =>
      cases x <;> try rfl
      rename_i c
      cases c <;> cases w <;> simp [gd]
    | sl => rfl
  | tu l => cases l <;> rfl
  | _ => rfl
theorem r_gd {c w : Bool} {j : Nat} {o : O} : gd C (.tr (.v (.bool c))) w j d o lvl env loc out K = if c = w then op2 C d o ⟨lvl, pt j (iB w) env, loc, out⟩ K else K ⟨lvl, ptd d (.tu []) (pt j (iB !w) env), loc, out⟩ := (rfl)
theorem r_gdu {w : Bool} {j : Nat} {o : O} : gd C (.tu []) w j d o lvl env loc out K = K ⟨lvl, ptd d (.tu []) env, loc, out⟩ := (rfl)

theorem op2_sil {o : O} (h : loud o = false) : op2 C d o ⟨lvl, env, loc, out⟩ K = ev C (xv env) (packS lvl loc out) (fun mk obs => freshK (keyOf d) loc (obs lvl (keyOf d)).length ∧ K ⟨lvl, ptd d (mk lvl (keyOf d)) env, addO (keyOf d) (obs lvl (keyOf d)) loc, out⟩) o := by
  unfold op2
  rw [if_neg (by simp [h])]
  rfl
theorem op2_pure {o : O} (h : loud o = false) {y : IV} (he : ∀ Kd : Kind, ev C (xv env) (packS lvl loc out) Kd o = pureK Kd y) : op2 C d o ⟨lvl, env, loc, out⟩ K = K ⟨lvl, ptd d y env, loc, out⟩ := by
  exact (op2_sil h).trans ((he _).trans (by simp [pureK, freshK, addO]))

/-- What a value gives goes to slot d. -/
def go1 (lvl : Nat) (env : List (Nat × IV)) (loc : List (Nat × Ob)) (out : Sto) (d : Option Nat) (K : St → Prop) (y : IV) : Prop := K ⟨lvl, ptd d y env, loc, out⟩
theorem r_go1 {y : IV} : go1 lvl env loc out d K y = K ⟨lvl, ptd d y env, loc, out⟩ := (rfl)
theorem op2_gen {o : O} (h : loud o = false) {T : (IV → Prop) → Prop} (he : ∀ Kd : Kind, ev C (xv env) (packS lvl loc out) Kd o = T (fun y => pureK Kd y)) : op2 C d o ⟨lvl, env, loc, out⟩ K = T (go1 lvl env loc out d K) := by
  exact (op2_sil h).trans ((he _).trans (congrArg T (funext fun y => by simp [pureK, freshK, addO, go1])))

theorem r_mv {x : X} : op2 C d (.mv x none) ⟨lvl, env, loc, out⟩ K = K ⟨lvl, ptd d (xv env x) env, loc, out⟩ := op2_pure rfl fun _ => rfl
def tocs (v : IV) : Option (List Tr × Bool) :=
  match cellsOf v with
  | some c => totrs c
  | none => none
def btf (v : Option (List Tr × Bool)) (lvl : Nat) (env : List (Nat × IV)) (loc : List (Nat × Ob)) (out : Sto) (d : Option Nat) (K : St → Prop) : Prop :=
  match v with
  | some (ts, _) => K ⟨lvl, ptd d (.ta ts) env, loc, out⟩
  | none => False
theorem r_bt {x : X} : op2 C d (.bt x) ⟨lvl, env, loc, out⟩ K = btf (tocs (xv env x)) lvl env loc out d K := by
  rw [op2_sil rfl]
  simp only [ev, tocs]
  generalize cellsOf (xv env x) = v
  cases v with
  | none => rfl
  | some c =>
    dsimp only
    generalize totrs c = u
    cases u with
    | none => rfl
    | some p => obtain ⟨ts, q⟩ := p; simp [btf, pureK, freshK, addO]
theorem r_bt1 {ts : List Tr} {q : Bool} : btf (some (ts, q)) lvl env loc out d K = K ⟨lvl, ptd d (.ta ts) env, loc, out⟩ := (rfl)
theorem r_al {z : List Value} {nz : List (Nat × Nat)} : op2 C d (.al z nz) ⟨lvl, env, loc, out⟩ K = (freshK (keyOf d) loc (1 + nz.length) ∧ K ⟨lvl, ptd d (.ab (lvl, keyOf d) 0) env, ptO (keyOf d) (.bx (zfill lvl (keyOf d + 1) nz (z.map kc))) loc |> addO (keyOf d + 1) (zobs nz), out⟩) := by
  rw [op2_sil rfl]
  simp only [ev, List.length_cons, addO, zobs, List.length_map]
  rw [Nat.add_comm]
theorem r_bd {z : List Value} {ps : List (Nat × Nat × X)} {nz : List (Nat × Nat)} : op2 C d (.bd z ps nz) ⟨lvl, env, loc, out⟩ K = (okp (xv env) z.length ps ∧ freshK (keyOf d) loc nz.length ∧ K ⟨lvl, ptd d (.ag (fpart (xv env) ps (zfill lvl (keyOf d) nz (z.map kc)))) env, addO (keyOf d) (zobs nz) loc, out⟩) := by
  rw [op2_sil rfl]
  simp only [ev, zobs, List.length_map]

/-! ## new slices -/
def kfill (k n lvl : Nat) (env : List (Nat × IV)) (loc : List (Nat × Ob)) (out : Sto) (d : Option Nat) (K : St → Prop) : Row → Bool → Prop := fun es u =>
  freshK (keyOf d) loc 1 ∧ K ⟨lvl, ptd d (.hd (lvl, keyOf d) [] 0 n none n) env, ptO (keyOf d) (.ar k es u n 0) loc, out⟩
def fl2 (v : Option (List Tr × Bool)) (ρ : X → IV) (i k : Nat) (r : List (Nat × X)) (es : Row) (u : Bool) (F : Row → Bool → Prop) : Prop :=
  match v with
  | some (ts, a) => ts.length = k ∧ i < es.length ∧ fills ρ k r (es.set i ts) (u && a) F
  | none => False
theorem r_bs {k n : Nat} {z : List Value} {ps : List (Nat × X)} : op2 C d (.bs k n z ps) ⟨lvl, env, loc, out⟩ K = fills (xv env) k ps (List.replicate n (z.map trv)) true (kfill k n lvl env loc out d K) := by
  rw [op2_sil rfl]
  rfl
theorem r_fills0 {ρ : X → IV} {k : Nat} {es : Row} {u : Bool} {F : Row → Bool → Prop} : fills ρ k [] es u F = F es u := (rfl)
theorem r_fills1 {ρ : X → IV} {k i : Nat} {x : X} {r : List (Nat × X)} {es : Row} {u : Bool} {F : Row → Bool → Prop} : fills ρ k ((i, x) :: r) es u F = fl2 (tocs (ρ x)) ρ i k r es u F := by
  simp only [fills, tocs]
  generalize cellsOf (ρ x) = v
  cases v with
  | none => rfl
  | some c =>
    dsimp only
    generalize totrs c = u
    cases u with
    | none => rfl
    | some p => rfl
theorem r_fl2 {ts : List Tr} {a : Bool} {ρ : X → IV} {k i : Nat} {r : List (Nat × X)} {es : Row} {u : Bool} {F : Row → Bool → Prop} : fl2 (some (ts, a)) ρ i k r es u F = (ts.length = k ∧ i < es.length ∧ fills ρ k r (es.set i ts) (u && a) F) := (rfl)
theorem r_kfill {k n : Nat} {es : Row} {u : Bool} : kfill k n lvl env loc out d K es u = (freshK (keyOf d) loc 1 ∧ K ⟨lvl, ptd d (.hd (lvl, keyOf d) [] 0 n none n) env, ptO (keyOf d) (.ar k es u n 0) loc, out⟩) := (rfl)
def msf (v : IV) (k : Nat) (z : List Value) (lvl : Nat) (env : List (Nat × IV)) (loc : List (Nat × Ob)) (out : Sto) (d : Option Nat) (K : St → Prop) : Prop :=
  match v with
  | .tr (.v (.int .i64 n)) => 0 ≤ n ∧ n ≤ bigN ∧ freshK (keyOf d) loc 1 ∧ K ⟨lvl, ptd d (.hd (lvl, keyOf d) [] 0 n.toNat none n.toNat) env, ptO (keyOf d) (.ar k (List.replicate n.toNat (z.map trv)) true n.toNat 0) loc, out⟩
  | _ => False
theorem r_ms {k : Nat} {z : List Value} {x : X} : op2 C d (.ms k z x) ⟨lvl, env, loc, out⟩ K = msf (xv env x) k z lvl env loc out d K := by
  rw [op2_sil rfl]
  simp only [ev]
  generalize xv env x = v
  cases v <;> try rfl
theorem r_ms1 {n : Int} {k : Nat} {z : List Value} : msf (.tr (.v (.int .i64 n))) k z lvl env loc out d K = (0 ≤ n ∧ n ≤ bigN ∧ freshK (keyOf d) loc 1 ∧ K ⟨lvl, ptd d (.hd (lvl, keyOf d) [] 0 n.toNat none n.toNat) env, ptO (keyOf d) (.ar k (List.replicate n.toNat (z.map trv)) true n.toNat 0) loc, out⟩) := (rfl)

/-! ## operations on scalars -/
def bi2 (op : BinOp) (w : Nat) (x y : IV) (F : IV → Prop) : Prop :=
  match x, y with
  | .tr (.v a), .tr (.v b) => biv op w a b fun r => F (.tr (.v r))
  | .er, .tr (.v .nilIface) =>
    match op, w with
    | .eql, 3 => F (iB false)
    | .neq, 3 => F (iB true)
    | _, _ => False
  | _, _ => False
theorem r_bi {op : BinOp} {w : Nat} {x y : X} : op2 C d (.bi op w x y) ⟨lvl, env, loc, out⟩ K = bi2 op w (xv env x) (xv env y) (go1 lvl env loc out d K) := by
  exact op2_gen rfl fun Kd => rfl
section bi
variable {F : IV → Prop} {k : IntKind} {a b : Int} {s t : ByteArray} {p q : Bool} {w : Nat}
theorem r_add0 : bi2 .add 0 (.tr (.v (.int k a))) (.tr (.v (.int k b))) F = (fits k (a + b) ∧ F (.tr (.v (.int k (a + b))))) := by simp [bi2, biv]
theorem r_sub0 : bi2 .sub 0 (.tr (.v (.int k a))) (.tr (.v (.int k b))) F = (fits k (a - b) ∧ F (.tr (.v (.int k (a - b))))) := by simp [bi2, biv]
theorem r_eqi : bi2 .eql w (.tr (.v (.int k a))) (.tr (.v (.int k b))) F = F (iB (decide (a = b))) := by simp [bi2, biv]
theorem r_nei : bi2 .neq w (.tr (.v (.int k a))) (.tr (.v (.int k b))) F = F (iB (decide (a ≠ b))) := by simp [bi2, biv]
theorem r_lti : bi2 .lss w (.tr (.v (.int k a))) (.tr (.v (.int k b))) F = F (iB (decide (a < b))) := by simp [bi2, biv]
theorem r_lei : bi2 .leq w (.tr (.v (.int k a))) (.tr (.v (.int k b))) F = F (iB (decide (a ≤ b))) := by simp [bi2, biv]
theorem r_gti : bi2 .gtr w (.tr (.v (.int k a))) (.tr (.v (.int k b))) F = F (iB (decide (b < a))) := by simp [bi2, biv]
theorem r_gei : bi2 .geq w (.tr (.v (.int k a))) (.tr (.v (.int k b))) F = F (iB (decide (b ≤ a))) := by simp [bi2, biv]
theorem r_neb : bi2 .neq 2 (.tr (.v (.bool p))) (.tr (.v (.bool q))) F = F (iB (p != q)) := by simp [bi2, biv]
theorem r_eqs : bi2 .eql w (.tr (.v (.string s))) (.tr (.v (.string t))) F = F (iB (decide (s = t))) := by simp [bi2, biv]
theorem r_nes : bi2 .neq w (.tr (.v (.string s))) (.tr (.v (.string t))) F = F (iB (decide (s ≠ t))) := by simp [bi2, biv]
theorem r_les : bi2 .leq w (.tr (.v (.string s))) (.tr (.v (.string t))) F = F (iB (Op.bytesLess s.data.toList t.data.toList || decide (s = t))) := by simp [bi2, biv]
theorem r_ges : bi2 .geq w (.tr (.v (.string s))) (.tr (.v (.string t))) F = F (iB (!Op.bytesLess s.data.toList t.data.toList)) := by simp [bi2, biv]
end bi

def nt2 (x : IV) (F : IV → Prop) : Prop :=
  match x with
  | .tr (.v (.bool b)) => F (iB (!b))
  | _ => False
theorem r_nt {x : X} : op2 C d (.nt x) ⟨lvl, env, loc, out⟩ K = nt2 (xv env x) (go1 lvl env loc out d K) := op2_gen rfl fun _ => rfl
theorem r_nt1 {b : Bool} {F : IV → Prop} : nt2 (.tr (.v (.bool b))) F = F (iB (!b)) := (rfl)
def ng2 (x : IV) (F : IV → Prop) : Prop :=
  match x with
  | .tr (.v (.int k n)) => fits k (-n) ∧ F (.tr (.v (.int k (-n))))
  | _ => False
theorem r_ng {x : X} : op2 C d (.ng x) ⟨lvl, env, loc, out⟩ K = ng2 (xv env x) (go1 lvl env loc out d K) := op2_gen rfl fun _ => rfl
theorem r_ng1 {k : IntKind} {n : Int} {F : IV → Prop} : ng2 (.tr (.v (.int k n))) F = (fits k (-n) ∧ F (.tr (.v (.int k (-n))))) := (rfl)
def mf2 (f : Nat) (cs : List IV) (F : IV → Prop) : Prop := (cs.all isCell) = true ∧ F (.fn f cs)
theorem r_mf {f : Nat} {cs : List X} : op2 C d (.mf f cs) ⟨lvl, env, loc, out⟩ K = mf2 f (cs.map (xv env)) (go1 lvl env loc out d K) := op2_gen rfl fun _ => rfl
theorem r_mf1 {f : Nat} {cs : List IV} {F : IV → Prop} : mf2 f cs F = ((cs.all isCell) = true ∧ F (.fn f cs)) := (rfl)
def ln2 (x : IV) (F : IV → Prop) : Prop :=
  match x with
  | .tr (.sl es) => F (iI es.length)
  | .cs es => F (iI es.length)
  | .hd _ _ _ len _ _ => F (iI len)
  | _ => False
theorem r_ln {x : X} : op2 C d (.ln x) ⟨lvl, env, loc, out⟩ K = ln2 (xv env x) (go1 lvl env loc out d K) := op2_gen rfl fun _ => rfl
theorem r_ln1 {es : Row} {F : IV → Prop} : ln2 (.tr (.sl es)) F = F (iI es.length) := (rfl)
def lg2 (x : IV) (F : IV → Prop) : Prop :=
  match x with
  | .tr (.v (.string s)) => F (iI s.size)
  | _ => False
theorem r_lg {x : X} : op2 C d (.lg x) ⟨lvl, env, loc, out⟩ K = lg2 (xv env x) (go1 lvl env loc out d K) := op2_gen rfl fun _ => rfl
theorem r_lg1 {s : ByteArray} {F : IV → Prop} : lg2 (.tr (.v (.string s))) F = F (iI s.size) := (rfl)
def pk2 (c a b : IV) (F : IV → Prop) : Prop :=
  match c with
  | .tr (.v (.bool t)) => F (if t then a else b)
  | _ => False
theorem r_pk {c a b : X} : op2 C d (.pk c a b) ⟨lvl, env, loc, out⟩ K = pk2 (xv env c) (xv env a) (xv env b) (go1 lvl env loc out d K) := op2_gen rfl fun _ => rfl
theorem r_pkt {a b : IV} {F : IV → Prop} : pk2 (.tr (.v (.bool true))) a b F = F a := (rfl)
theorem r_pkf {a b : IV} {F : IV → Prop} : pk2 (.tr (.v (.bool false))) a b F = F b := (rfl)
/-- What an option gives. -/
def op3 {α : Type} (x : Option α) (F : α → Prop) : Prop :=
  match x with
  | some a => F a
  | none => False
theorem r_op3 {α : Type} {a : α} {F : α → Prop} : op3 (some a) F = F a := (rfl)
theorem op3_ex {α : Type} {x : Option α} {F : α → Prop} : (∃ a, x = some a ∧ F a) = op3 x F := by cases x <;> simp [op3]
def ex2 (x : IV) (i : Nat) (F : IV → Prop) : Prop :=
  match x with
  | .tu l => op3 l[i]? F
  | _ => False
theorem r_xt {i : Nat} {x : X} : op2 C d (.ex i x) ⟨lvl, env, loc, out⟩ K = ex2 (xv env x) i (go1 lvl env loc out d K) := by
  refine op2_gen (o := .ex i x) (T := fun F => ex2 (xv env x) i F) rfl (fun Kd => ?_)
  simp only [ev, ex2]
  generalize xv env x = v
  cases v <;> try rfl
  exact op3_ex
theorem r_xt1 {i : Nat} {l : List IV} {F : IV → Prop} : ex2 (.tu l) i F = op3 l[i]? F := (rfl)
/-! ## addresses, fields, elements -/
def fa2 (off : Nat) (x : IV) (F : IV → Prop) : Prop :=
  match x with
  | .ta cells => F (.ta (cells.drop off))
  | .ab id o => F (.ab id (o + off))
  | .ae id p i f st => F (.ae id p i (f + off) st)
  | _ => False
theorem r_fa {off : Nat} {x : X} : op2 C d (.fa off x) ⟨lvl, env, loc, out⟩ K = fa2 off (xv env x) (go1 lvl env loc out d K) := op2_gen rfl fun _ => rfl
theorem r_fa1 {off : Nat} {cells : List Tr} {F : IV → Prop} : fa2 off (.ta cells) F = F (.ta (cells.drop off)) := (rfl)
theorem r_fa2 {off : Nat} {id : Oid} {o : Nat} {F : IV → Prop} : fa2 off (.ab id o) F = F (.ab id (o + off)) := (rfl)
/-- An index. -/
def ixn (i : IV) (F : Nat → Prop) : Prop :=
  match i with
  | .tr (.v (.int _ n)) => 0 ≤ n ∧ F n.toNat
  | _ => False
theorem r_ixn {k : IntKind} {n : Int} {F : Nat → Prop} : ixn (.tr (.v (.int k n))) F = (0 ≤ n ∧ F n.toNat) := (rfl)
/-- An element's address. -/
def ia2 (L : Sto) (k : Nat) (x : IV) (F : IV → Prop) (n : Nat) : Prop :=
  match x with
  | .tr (.sl es) => op3 es[n]? fun e => e.length = k ∧ F (.ta e)
  | .cs es => op3 es[n]? fun e => e.length = k ∧ F (.ta e)
  | .hd id p off len _ st => rdh L id p st fun es _ _ => n < len ∧ op3 es[off + n]? fun e => e.length = k ∧ F (.ae id p (off + n) 0 st)
  | _ => False
theorem r_ia {k : Nat} {x i : X} : op2 C d (.ia k x i) ⟨lvl, env, loc, out⟩ K = ixn (xv env i) (ia2 (packS lvl loc out) k (xv env x) (go1 lvl env loc out d K)) := by
  refine op2_gen (o := .ia k x i) (T := fun F => ixn (xv env i) (ia2 (packS lvl loc out) k (xv env x) F)) rfl (fun Kd => ?_)
  simp only [ev]
  generalize xv env i = vi
  cases vi <;> try rfl
  rename_i t
  cases t <;> try rfl
  rename_i y
  cases y <;> try rfl
  rename_i kk n
  simp only [ixn, ia2]
  generalize xv env x = v
  cases v <;> try rfl
  · rename_i t
    cases t <;> try rfl
    dsimp only
    rw [op3_ex]
  · dsimp only
    rw [op3_ex]
  · dsimp only
    simp only [op3_ex]
/-- The element e, under its length. -/
def iae (k : Nat) (F : IV → Prop) (e : List Tr) : Prop := e.length = k ∧ F (.ta e)
theorem r_iae {k : Nat} {F : IV → Prop} {e : List Tr} : iae k F e = (e.length = k ∧ F (.ta e)) := (rfl)
theorem r_ia1 {L : Sto} {k n : Nat} {es : Row} {F : IV → Prop} : ia2 L k (.tr (.sl es)) F n = op3 es[n]? (iae k F) := (rfl)
/-- What is read of an object. -/
def rd3 (o : Option Ob) (p : Pth) (st : Nat) (F : Row → Bool → Nat → Prop) : Prop :=
  match o with
  | some (.ar _ es u hw ver) => stamp p st hw ver u ∧ op3 (getp es p) fun es' => F es' u ver
  | _ => False
theorem rdh_rd3 {L : Sto} {id : Oid} {p : Pth} {st : Nat} {F : Row → Bool → Nat → Prop} : rdh L id p st F = rd3 (L id) p st F := by
  unfold rdh rd3
  generalize L id = o
  cases o with
  | none => rfl
  | some ob =>
    cases ob with
    | bx => rfl
    | ar k es u hw ver =>
      dsimp only
      rw [← op3_ex]
      apply propext
      constructor
      · rintro ⟨es', h1, h2, h3⟩; exact ⟨h2, es', h1, h3⟩
      · rintro ⟨h2, es', h1, h3⟩; exact ⟨es', h1, h2, h3⟩
def rde (u : Bool) (ver : Nat) (F : Row → Bool → Nat → Prop) (es : Row) : Prop := F es u ver
theorem r_rde {u : Bool} {ver : Nat} {F : Row → Bool → Nat → Prop} {es : Row} : rde u ver F es = F es u ver := (rfl)
theorem r_rd3 {k : Nat} {es : Row} {u : Bool} {hw ver : Nat} {p : Pth} {st : Nat} {F : Row → Bool → Nat → Prop} : rd3 (some (.ar k es u hw ver)) p st F = (stamp p st hw ver u ∧ op3 (getp es p) (rde u ver F)) := (rfl)
theorem r_stamp0 {st hw ver : Nat} {u : Bool} : stamp [] st hw ver u = (st = hw) := (rfl)
def iah (id : Oid) (p : Pth) (off len st k n : Nat) (F : IV → Prop) (es : Row) (_u : Bool) (_v : Nat) : Prop := n < len ∧ op3 es[off + n]? fun e => e.length = k ∧ F (.ae id p (off + n) 0 st)
def iah2 (id : Oid) (p : Pth) (off st k n : Nat) (F : IV → Prop) (e : List Tr) : Prop := e.length = k ∧ F (.ae id p (off + n) 0 st)
theorem r_iah {id : Oid} {p : Pth} {off len st k n : Nat} {F : IV → Prop} {es : Row} {u : Bool} {v : Nat} : iah id p off len st k n F es u v = (n < len ∧ op3 es[off + n]? (iah2 id p off st k n F)) := (rfl)
theorem r_iah2 {id : Oid} {p : Pth} {off st k n : Nat} {F : IV → Prop} {e : List Tr} : iah2 id p off st k n F e = (e.length = k ∧ F (.ae id p (off + n) 0 st)) := (rfl)
theorem r_ia3 {L : Sto} {k n : Nat} {id : Oid} {p : Pth} {off len st : Nat} {cap : Option Nat} {F : IV → Prop} : ia2 L k (.hd id p off len cap st) F n = rd3 (L id) p st (iah id p off len st k n F) := rdh_rd3
def ixs (x : IV) (F : IV → Prop) (n : Nat) : Prop :=
  match x with
  | .tr (.v (.string s)) => op3 s.data.toList[n]? fun b => F (.tr (.v (.int .u8 b.toNat)))
  | _ => False
def ixb (F : IV → Prop) (b : UInt8) : Prop := F (.tr (.v (.int .u8 b.toNat)))
theorem r_ixb {F : IV → Prop} {b : UInt8} : ixb F b = F (.tr (.v (.int .u8 b.toNat))) := (rfl)
theorem r_ix {x i : X} : op2 C d (.ix x i) ⟨lvl, env, loc, out⟩ K = ixn (xv env i) (ixs (xv env x) (go1 lvl env loc out d K)) := by
  refine op2_gen (o := .ix x i) (T := fun F => ixn (xv env i) (ixs (xv env x) F)) rfl (fun Kd => ?_)
  simp only [ev]
  generalize xv env i = vi
  generalize xv env x = v
  cases vi with
  | tr t =>
    cases t with
    | v y =>
      cases y with
      | int kk n =>
        cases v with
        | tr t =>
          cases t with
          | v z => cases z <;> simp only [ixn, ixs, and_false] <;> rw [op3_ex]
          | sl => simp only [ixn, ixs, and_false]
        | _ => simp only [ixn, ixs, and_false]
      | _ => cases v <;> try rfl
             rename_i t
             cases t <;> try rfl
             rename_i z
             cases z <;> rfl
    | sl es => cases v <;> try rfl
               rename_i t
               cases t <;> try rfl
               rename_i z
               cases z <;> rfl
  | _ => cases v <;> try rfl
         rename_i t
         cases t <;> try rfl
         rename_i z
         cases z <;> rfl
theorem r_ix1 {s : ByteArray} {F : IV → Prop} {n : Nat} : ixs (.tr (.v (.string s))) F n = op3 s.data.toList[n]? (ixb F) := (rfl)
end
end Go.Fd

/-
  FOUNDATION 45: more rules: loads, parts of slices, calls, results, forgetting. Own work.
-/
namespace Go.Fd

section
variable {C : Contract} {lvl : Nat} {env : List (Nat × IV)} {loc : List (Nat × Ob)} {out : Sto} {d : Option Nat} {K : St → Prop} {st : St} {Q : Ex → St → Prop} {F : IV → Prop}

/-! ## the store -/
theorem r_pack {k : Nat} : packS lvl loc out (lvl, k) = lkO k loc := by unfold packS; rw [if_pos rfl]
theorem r_setOb {k : Nat} {ob : Ob} : setOb ⟨lvl, env, loc, out⟩ (lvl, k) ob = ⟨lvl, env, ptO k ob loc, out⟩ := by unfold setOb; rw [if_pos rfl]
theorem r_kill {id : Oid} : kill id ⟨lvl, env, loc, out⟩ = ⟨lvl, scrE id env, scrL id (rmO id.2 loc), out⟩ := (rfl)
/-! ## loads -/
def ltr (F : IV → Prop) (t : Tr) : Prop := F (.tr t)
theorem r_ltr {t : Tr} : ltr F t = F (.tr t) := (rfl)
def lab (o : Option Ob) (off : Nat) (F : IV → Prop) : Prop :=
  match o with
  | some (.bx cells) => op3 cells[off]? F
  | _ => False
theorem r_lab {cells : List IV} {off : Nat} : lab (some (.bx cells)) off F = op3 cells[off]? F := (rfl)
def lae (id : Oid) (p : Pth) (i f : Nat) (F : IV → Prop) (es : Row) (u : Bool) (ver : Nat) : Prop := op3 es[i]? fun e => op3 e[f]? fun t => F (cvt id p i f u ver t)
def lmae (id : Oid) (p : Pth) (i f m : Nat) (F : IV → Prop) (es : Row) (u : Bool) (ver : Nat) : Prop := op3 es[i]? fun e => f + m ≤ e.length ∧ F (.ag (cvts id p i u ver f ((e.drop f).take m)))
def ld2 (L : Sto) (m : Option Nat) (x : IV) (F : IV → Prop) : Prop :=
  match m, x with
  | none, .ta cells => op3 cells[0]? (ltr F)
  | none, .ab id off => lab (L id) off F
  | none, .ae id p i f st => rd3 (L id) p st (lae id p i f F)
  | some m, .ta cells => m ≤ cells.length ∧ F (.ag ((cells.take m).map .tr))
  | some m, .ab id off =>
    match L id with
    | some (.bx cells) => off + m ≤ cells.length ∧ F (.ag ((cells.drop off).take m))
    | _ => False
  | some m, .ae id p i f st => rd3 (L id) p st (lmae id p i f m F)
  | _, _ => False
theorem r_ld {m : Option Nat} {p : X} : op2 C d (.ld m p) ⟨lvl, env, loc, out⟩ K = ld2 (packS lvl loc out) m (xv env p) (go1 lvl env loc out d K) := by
  refine op2_gen (o := .ld m p) (T := fun F => ld2 (packS lvl loc out) m (xv env p) F) (by cases m <;> rfl) (fun Kd => ?_)
  cases m with
  | none =>
    simp only [ev]
    generalize xv env p = v
    cases v <;> try rfl
    · dsimp only [ld2, lab]
      rename_i id off
      generalize packS lvl loc out id = o
      cases o with
      | none => rfl
      | some ob =>
        cases ob with
        | bx => exact op3_ex
        | ar => rfl
    · dsimp only [ld2]
      rw [← rdh_rd3]
      congr 1
      funext es u ver
      simp only [lae, ← op3_ex]
    · exact op3_ex
  | some m =>
    simp only [ev]
    generalize xv env p = v
    cases v <;> try rfl
    dsimp only [ld2]
    rw [← rdh_rd3]
    congr 1
    funext es u ver
    simp only [lmae, ← op3_ex]
theorem r_ld1 {L : Sto} {cells : List Tr} : ld2 L none (.ta cells) F = op3 cells[0]? (ltr F) := (rfl)
theorem r_ld2 {L : Sto} {id : Oid} {off : Nat} : ld2 L none (.ab id off) F = lab (L id) off F := (rfl)
theorem r_ld4 {L : Sto} {m : Nat} {cells : List Tr} : ld2 L (some m) (.ta cells) F = (m ≤ cells.length ∧ F (.ag ((cells.take m).map .tr))) := (rfl)
def labm (o : Option Ob) (off m : Nat) (F : IV → Prop) : Prop :=
  match o with
  | some (.bx cells) => off + m ≤ cells.length ∧ F (.ag ((cells.drop off).take m))
  | _ => False
theorem r_labm {cells : List IV} {off m : Nat} : labm (some (.bx cells)) off m F = (off + m ≤ cells.length ∧ F (.ag ((cells.drop off).take m))) := (rfl)
theorem r_ld5 {L : Sto} {m : Nat} {id : Oid} {off : Nat} : ld2 L (some m) (.ab id off) F = labm (L id) off m F := (rfl)
/-! ## parts of slices and strings -/
def bn (x : Option IV) (n : Nat) (F : Nat → Prop) : Prop :=
  match x with
  | none => F n
  | some (.tr (.v (.int _ m))) => 0 ≤ m ∧ F m.toNat
  | _ => False
theorem r_bn0 {n : Nat} {F : Nat → Prop} : bn none n F = F n := (rfl)
theorem r_bn1 {n : Nat} {k : IntKind} {m : Int} {F : Nat → Prop} : bn (some (.tr (.v (.int k m)))) n F = (0 ≤ m ∧ F m.toNat) := (rfl)
theorem bndI_bn {ρ : X → IV} {x : Option X} {n : Nat} {F : Nat → Prop} : bndI ρ x n F = bn (x.map ρ) n F := by
  cases x with
  | none => rfl
  | some x =>
    simp only [bndI, bn, Option.map_some]
    generalize ρ x = v
    cases v <;> try rfl
    rename_i t
    cases t <;> try rfl
    rename_i y
    cases y <;> rfl
/-- A part of a tree: k cells an element; q: as a clipped slice. -/
def sxt (k : Nat) (es : Row) (los : Bool) (hi mx : Option IV) (q : Bool) (F : IV → Prop) (a : Nat) : Prop := (los = true → UnR k es) ∧ bn hi es.length fun b => a ≤ b ∧ b ≤ es.length ∧ bn mx b fun m => m = b ∧ F (if q then .cs (cut es a (b - a)) else .tr (.sl (cut es a (b - a))))
def sxt2 (es : Row) (mx : Option IV) (q : Bool) (F : IV → Prop) (a b : Nat) : Prop := a ≤ b ∧ b ≤ es.length ∧ bn mx b fun m => m = b ∧ F (if q then .cs (cut es a (b - a)) else .tr (.sl (cut es a (b - a))))
def sxt3 (es : Row) (q : Bool) (F : IV → Prop) (a b m : Nat) : Prop := m = b ∧ F (if q then .cs (cut es a (b - a)) else .tr (.sl (cut es a (b - a))))
theorem r_sxt {k : Nat} {es : Row} {los q : Bool} {hi mx : Option IV} {a : Nat} : sxt k es los hi mx q F a = ((los = true → UnR k es) ∧ bn hi es.length (sxt2 es mx q F a)) := (rfl)
theorem r_sxt2 {es : Row} {q : Bool} {mx : Option IV} {a b : Nat} : sxt2 es mx q F a b = (a ≤ b ∧ b ≤ es.length ∧ bn mx b (sxt3 es q F a b)) := (rfl)
theorem r_sxt3 {es : Row} {q : Bool} {a b m : Nat} : sxt3 es q F a b m = (m = b ∧ F (if q = true then .cs (cut es a (b - a)) else .tr (.sl (cut es a (b - a))))) := (rfl)
def sxh (L : Sto) (k : Nat) (id : Oid) (p : Pth) (off len : Nat) (cap : Option Nat) (s : Nat) (hi mx : Option IV) (F : IV → Prop) (a : Nat) : Prop :=
  bn hi len fun b => a ≤ b ∧ b ≤ len ∧ bn mx b fun m => b ≤ m ∧ m ≤ len ∧ wid L id p k ∧ F (.hd id p (off + a) (b - a) (if mx.isSome then some (m - a) else cap.map (· - a)) s)
def sx2 (L : Sto) (k : Nat) (x : IV) (lo hi mx : Option IV) (F : IV → Prop) : Prop :=
  match x with
  | .tr (.sl es) => bn lo 0 (sxt k es lo.isSome hi mx mx.isSome F)
  | .cs es => bn lo 0 (sxt k es lo.isSome hi mx (mx.isSome || hi.isNone) F)
  | .hd id p off len cap s => bn lo 0 (sxh L k id p off len cap s hi mx F)
  | _ => False
theorem bn_and {x : Option IV} {n : Nat} {p : Prop} {F : Nat → Prop} : (p ∧ bn x n F) = bn x n fun a => p ∧ F a := by
  apply propext
  cases x with
  | none => rfl
  | some v =>
    cases v <;> try exact ⟨fun h => h.2, fun h => h.elim⟩
    rename_i t
    cases t <;> try exact ⟨fun h => h.2, fun h => h.elim⟩
    rename_i y
    cases y <;> first | exact ⟨fun h => h.2, fun h => h.elim⟩ | exact ⟨fun ⟨h1, h2, h3⟩ => ⟨h2, h1, h3⟩, fun ⟨h1, h2, h3⟩ => ⟨h2, h1, h3⟩⟩
theorem r_sx {k : Nat} {x : X} {lo hi mx : Option X} : op2 C d (.sx k x lo hi mx) ⟨lvl, env, loc, out⟩ K = sx2 (packS lvl loc out) k (xv env x) (lo.map (xv env)) (hi.map (xv env)) (mx.map (xv env)) (go1 lvl env loc out d K) := by
  refine op2_gen (o := .sx k x lo hi mx) (T := fun F => sx2 (packS lvl loc out) k (xv env x) (lo.map (xv env)) (hi.map (xv env)) (mx.map (xv env)) F) rfl (fun Kd => ?_)
  simp only [ev, bndI_bn]
  generalize xv env x = v
  cases v <;> try rfl
  · rename_i t
    cases t <;> try rfl
    dsimp only [sx2, sxt]
    rw [bn_and]
    simp only [Option.isSome_map]
    rfl
  · dsimp only [sx2, sxt]
    rw [bn_and]
    simp only [Option.isSome_map, Option.isNone_map]
    rfl
  · dsimp only [sx2]
    congr 1
    funext a
    unfold sxh
    congr 1
    funext b
    simp only [Option.isSome_map]
theorem r_sx1 {L : Sto} {k : Nat} {es : Row} {lo hi mx : Option IV} : sx2 L k (.tr (.sl es)) lo hi mx F = bn lo 0 (sxt k es lo.isSome hi mx mx.isSome F) := (rfl)
theorem op2_loud {o : O} (h : loud o = true) : op2 C d o st K = ew C d st K o := by unfold op2; rw [if_pos h]

/-! ## calls -/
def kcn (x : IV) (F : List IV → Prop) (l : List IV) : Prop := F (x :: l)
theorem r_kcn {x : IV} {F : List IV → Prop} {l : List IV} : kcn x F l = F (x :: l) := (rfl)
def kagn (L : Sto) (r : List IV) (F : List IV → Prop) (l : List IV) : Prop := snaps L r (kcn (.ag l) F)
theorem r_kagn {L : Sto} {r : List IV} {F : List IV → Prop} {l : List IV} : kagn L r F l = snaps L r (kcn (.ag l) F) := (rfl)
def kfnn (L : Sto) (f : FuncId) (r : List IV) (F : List IV → Prop) (l : List IV) : Prop := snaps L r (kcn (.fn f l) F)
theorem r_kfnn {L : Sto} {f : FuncId} {r : List IV} {F : List IV → Prop} {l : List IV} : kfnn L f r F l = snaps L r (kcn (.fn f l) F) := (rfl)
section sn
variable {L : Sto} {r : List IV} {F : List IV → Prop}
theorem r_sn0 : snaps L [] F = F [] := by simp only [snaps]
theorem r_sn1 {t : Tr} : snaps L (.tr t :: r) F = snaps L r (kcn (.tr t) F) := by simp only [snaps, snap]; rfl
theorem r_sn3 {l : List IV} : snaps L (.ag l :: r) F = snaps L l (kagn L r F) := by simp only [snaps, snap]; rfl
theorem r_sn4 {f : FuncId} {l : List IV} : snaps L (.fn f l :: r) F = snaps L l (kfnn L f r F) := by simp only [snaps, snap]; rfl
theorem r_sn5 {l : List Tr} : snaps L (.ta l :: r) F = snaps L r (kcn (.ta l) F) := by simp only [snaps, snap]; rfl
end sn
/-- A pure call, once its arguments are known. -/
def kca (C : Contract) (fid : FuncId) (nm : Prop) (imp : Bool) (lvl : Nat) (env : List (Nat × IV)) (loc : List (Nat × Ob)) (out : Sto) (d : Option Nat) (K : St → Prop) (args : List IV) : Prop :=
  ∃ r, (∀ l S, C fid l args S r S) ∧ (nm ∨ noSh r) ∧ freshK (keyOf d) loc (impv imp lvl (keyOf d) 0 r).2.length ∧ K ⟨lvl, ptd d (impv imp lvl (keyOf d) 0 r).1 env, addO (keyOf d) (impv imp lvl (keyOf d) 0 r).2 loc, out⟩
theorem kca_intro {fid : FuncId} {nm : Prop} {imp : Bool} {args : List IV} {r : IV} (h : ∀ l S, C fid l args S r S)
    (hk : (nm ∨ noSh r) ∧ freshK (keyOf d) loc (impv imp lvl (keyOf d) 0 r).2.length ∧ K ⟨lvl, ptd d (impv imp lvl (keyOf d) 0 r).1 env, addO (keyOf d) (impv imp lvl (keyOf d) 0 r).2 loc, out⟩) : kca C fid nm imp lvl env loc out d K args := ⟨r, h, hk⟩
def ca2 (C : Contract) (f : IV) (xs : List IV) (imp : Bool) (lvl : Nat) (env : List (Nat × IV)) (loc : List (Nat × Ob)) (out : Sto) (d : Option Nat) (K : St → Prop) : Prop :=
  match f with
  | .fn fid caps => snaps (packS lvl loc out) (xs ++ caps) (kca C fid (mens (fun _ => False) (xs ++ caps)) imp lvl env loc out d K)
  | _ => False
theorem r_ca {imp : Bool} {f : X} {xs : List X} : op2 C d (.ca .pure imp f xs) ⟨lvl, env, loc, out⟩ K = ca2 C (xv env f) (xs.map (xv env)) imp lvl env loc out d K := by
  rw [op2_sil rfl]
  simp only [ev]
  generalize xv env f = v
  cases v <;> rfl
theorem r_ca1 {fid : FuncId} {caps xs : List IV} {imp : Bool} : ca2 C (.fn fid caps) xs imp lvl env loc out d K = snaps (packS lvl loc out) (xs ++ caps) (kca C fid (mens (fun _ => False) (xs ++ caps)) imp lvl env loc out d K) := (rfl)
/-! ## results -/
def kfe (K : IV → Sto → Prop) (l : List IV) (st : St) : Prop := match l with | [x] => K x st.out | xs => K (.tu xs) st.out
theorem r_fin {rs : List RS} {K : IV → Sto → Prop} : fin rs st K = exps rs st (kfe K) := (rfl)
theorem r_kfe1 {K : IV → Sto → Prop} {x : IV} : kfe K [x] ⟨lvl, env, loc, out⟩ = K x out := (rfl)
theorem r_kfe2 {K : IV → Sto → Prop} {x y : IV} {r : List IV} : kfe K (x :: y :: r) ⟨lvl, env, loc, out⟩ = K (.tu (x :: y :: r)) out := (rfl)
def kex (rs : List RS) (F : List IV → St → Prop) (x : IV) (st : St) : Prop := exps rs st fun xs st'' => F (x :: xs) st''
def kcx (x : IV) (F : List IV → St → Prop) (l : List IV) (st : St) : Prop := F (x :: l) st
theorem r_kcx {x : IV} {F : List IV → St → Prop} {l : List IV} : kcx x F l st = F (x :: l) st := (rfl)
theorem r_exps0 {F : List IV → St → Prop} : exps [] st F = F [] st := (rfl)
theorem r_exps1 {r : RS} {rs : List RS} {F : List IV → St → Prop} : exps (r :: rs) st F = exp1 r st (kex rs F) := (rfl)
theorem r_kex {rs : List RS} {F : List IV → St → Prop} {x : IV} : kex rs F x st = exps rs st (kcx x F) := (rfl)
theorem r_exp1 {n : Nat} {ks : List Nat} {F : IV → St → Prop} : exp1 (.t n ks) ⟨lvl, env, loc, out⟩ F = expv ks (lk n env) ⟨lvl, env, loc, out⟩ F := (rfl)
def exb (o : Option Ob) (off : Nat) (m : Option Nat) (ks : List Nat) (st : St) (F : IV → St → Prop) : Prop :=
  match o, m with
  | some (.bx cells), some m => off + m ≤ cells.length ∧ expv ks (.ag ((cells.drop off).take m)) st F
  | some (.bx cells), none => op3 cells[off]? fun x => isCell x = true ∧ expv ks x st F
  | _, _ => False
theorem r_exb1 {cells : List IV} {off m : Nat} {ks : List Nat} {F : IV → St → Prop} : exb (some (.bx cells)) off (some m) ks st F = (off + m ≤ cells.length ∧ expv ks (.ag ((cells.drop off).take m)) st F) := (rfl)
def exc (v : IV) (m : Option Nat) (ks : List Nat) (st : St) (F : IV → St → Prop) : Prop :=
  match v with
  | .ab id off => exb (st.sto id) off m ks st F
  | _ => False
theorem r_exp2 {n : Nat} {m : Option Nat} {ks : List Nat} {F : IV → St → Prop} : exp1 (.c n m ks) ⟨lvl, env, loc, out⟩ F = exc (lk n env) m ks ⟨lvl, env, loc, out⟩ F := by
  simp only [exp1]
  generalize lk n env = v
  cases v <;> try rfl
  rename_i id off
  dsimp only [exc]
  generalize (⟨lvl, env, loc, out⟩ : St).sto id = o
  cases o with
  | none => rfl
  | some ob =>
    cases ob with
    | ar => cases m <;> rfl
    | bx cells =>
      cases m with
      | some m => rfl
      | none => exact op3_ex
theorem r_exc {id : Oid} {off : Nat} {m : Option Nat} {ks : List Nat} {F : IV → St → Prop} : exc (.ab id off) m ks ⟨lvl, env, loc, out⟩ F = exb (packS lvl loc out id) off m ks ⟨lvl, env, loc, out⟩ F := (rfl)
def kagx (F : IV → St → Prop) (l : List IV) (st : St) : Prop := F (.ag l) st
theorem r_kagx {F : IV → St → Prop} {l : List IV} : kagx F l st = F (.ag l) st := (rfl)
theorem r_expv1 {ks : List Nat} {l : List IV} {F : IV → St → Prop} : expv ks (.ag l) st F = expcs ks l st (kagx F) := (rfl)
theorem r_expv2 {ks : List Nat} {t : Tr} {F : IV → St → Prop} : expv ks (.tr t) st F = F (.tr t) st := (rfl)
theorem r_expv4 {ks : List Nat} {id : Oid} {p : Pth} {off len s : Nat} {cap : Option Nat} {F : IV → St → Prop} : expv ks (.hd id p off len cap s) st F = expc (ks.headD 0) (.hd id p off len cap s) st F := (rfl)
def kxc (ks : List Nat) (r : List IV) (F : List IV → St → Prop) (y : IV) (st : St) : Prop := expcs ks r st (kcx y F)
theorem r_kxc {ks : List Nat} {r : List IV} {F : List IV → St → Prop} {y : IV} : kxc ks r F y st = expcs ks r st (kcx y F) := (rfl)
theorem r_expcs0 {ks : List Nat} {F : List IV → St → Prop} : expcs ks [] st F = F [] st := by cases ks <;> rfl
theorem r_expcs1 {ks : List Nat} {x : IV} {r : List IV} {F : List IV → St → Prop} : expcs ks (x :: r) st F = expc (ks.headD 0) x st (kxc ks.tail r F) := (rfl)
theorem r_expc1 {k : Nat} {t : Tr} {F : IV → St → Prop} : expc k (.tr t) st F = F (.tr t) st := (rfl)
def exh (o : Option Ob) (k : Nat) (p : Pth) (off len : Nat) (cap : Option Nat) (s : Nat) (st1 : St) (F : IV → St → Prop) : Prop :=
  match o with
  | some (.ar k' es u hw _) => p = [] ∧ s = hw ∧ (match k with
    | 0 => off + len ≤ es.length ∧ F (.tr (.sl (cut es off len))) st1
    | k1 + 1 => k1 = k' ∧ off = 0 ∧ len = es.length ∧ cap = none ∧ F (.ow k' es u) st1)
  | _ => False
theorem r_expc7 {k key : Nat} {p : Pth} {off len s : Nat} {cap : Option Nat} {F : IV → St → Prop} : expc k (.hd (lvl, key) p off len cap s) ⟨lvl, env, loc, out⟩ F = exh (lkO key loc) k p off len cap s (kill (lvl, key) ⟨lvl, env, loc, out⟩) F := by
  unfold expc
  dsimp only
  rw [if_pos rfl]
  have : (⟨lvl, env, loc, out⟩ : St).sto (lvl, key) = lkO key loc := r_pack
  rw [this]
  generalize lkO key loc = o
  cases o with
  | none => rfl
  | some ob => cases ob <;> cases k <;> rfl
theorem r_exh0 {k' : Nat} {es : Row} {u : Bool} {hw ver : Nat} {p : Pth} {off len s : Nat} {cap : Option Nat} {st1 : St} {F : IV → St → Prop} : exh (some (.ar k' es u hw ver)) 0 p off len cap s st1 F = (p = [] ∧ s = hw ∧ off + len ≤ es.length ∧ F (.tr (.sl (cut es off len))) st1) := (rfl)
theorem r_exh1 {k k' : Nat} {es : Row} {u : Bool} {hw ver : Nat} {p : Pth} {off len s : Nat} {cap : Option Nat} {st1 : St} {F : IV → St → Prop} : exh (some (.ar k' es u hw ver)) (k + 1) p off len cap s st1 F = (p = [] ∧ s = hw ∧ k = k' ∧ off = 0 ∧ len = es.length ∧ cap = none ∧ F (.ow k' es u) st1) := (rfl)
/-! ## loops -/
def memB (t : Nat) : List Nat → Bool
  | [] => false
  | a :: r => if t = a then true else memB t r
theorem memB_iff {t : Nat} : ∀ {l : List Nat}, memB t l = true ↔ t ∈ l
  | [] => by simp [memB]
  | a :: r => by
    simp only [memB, List.mem_cons]
    by_cases h : t = a
    · simp [h]
    · rw [if_neg h, memB_iff]; simp [h]
def keepB (ks : List Nat) : List (Nat × IV) → List (Nat × IV)
  | [] => []
  | (t, x) :: r => if memB t ks = true then (t, x) :: keepB ks r else keepB ks r
def keepOB (ks : List Nat) : List (Nat × Ob) → List (Nat × Ob)
  | [] => []
  | (t, x) :: r => if memB t ks = true then (t, x) :: keepOB ks r else keepOB ks r
theorem keepE_B {ks : List Nat} : ∀ {e : List (Nat × IV)}, keepE ks e = keepB ks e
  | [] => rfl
  | (t, x) :: r => by
    simp only [keepE, keepB, keepE_B (e := r), memB_iff]
theorem keepO_B {ks : List Nat} : ∀ {e : List (Nat × Ob)}, keepO ks e = keepOB ks e
  | [] => rfl
  | (t, x) :: r => by
    simp only [keepO, keepOB, keepO_B (e := r), memB_iff]
theorem r_fgt {ks js : List Nat} : fgt ks js ⟨lvl, env, loc, out⟩ = ⟨lvl, keepB ks env, keepOB js loc, out⟩ := by
  simp only [fgt, keepE_B, keepO_B]
theorem r_clean {ks js : List Nat} : clean ks js ⟨lvl, env, loc, out⟩ = (okE lvl js (keepB ks env) ∧ okL lvl js (keepOB js loc)) := by
  simp only [clean, keepE_B, keepO_B]
theorem r_okm1 {js : List Nat} {k : Nat} {p : Pth} {off len s : Nat} {cap : Option Nat} : okm lvl js (.hd (lvl, k) p off len cap s) = (memB k js = true) := by
  apply propext
  simp only [okm, men, forall_const, memB_iff]
theorem r_okm2 {js : List Nat} {k off : Nat} : okm lvl js (.ab (lvl, k) off) = (memB k js = true) := by
  apply propext
  simp only [okm, men, forall_const, memB_iff]
theorem r_okm4 {js : List Nat} {t : Tr} : okm lvl js (.tr t) = True := (rfl)
theorem r_okm8 {js : List Nat} {f : FuncId} {l : List IV} : okm lvl js (.fn f l) = okms lvl js l := by simp only [okm, okms, men]
theorem r_okm11 {js : List Nat} {l : List Tr} : okm lvl js (.ta l) = True := (rfl)
theorem r_okms0 {js : List Nat} : okms lvl js [] = True := (rfl)
theorem r_okms1 {js : List Nat} {x : IV} {r : List IV} : okms lvl js (x :: r) = (okm lvl js x ∧ okms lvl js r) := (rfl)
theorem r_okE0 {js : List Nat} : okE lvl js [] = True := (rfl)
theorem r_okE1 {js : List Nat} {t : Nat} {x : IV} {r : List (Nat × IV)} : okE lvl js ((t, x) :: r) = (okm lvl js x ∧ okE lvl js r) := (rfl)
theorem r_okL0 {js : List Nat} : okL lvl js [] = True := (rfl)
theorem r_okL1 {js : List Nat} {t : Nat} {x : List IV} {r : List (Nat × Ob)} : okL lvl js ((t, .bx x) :: r) = (okms lvl js x ∧ okL lvl js r) := (rfl)
theorem r_okL2 {js : List Nat} {t k : Nat} {es : Row} {u : Bool} {hw ver : Nat} {r : List (Nat × Ob)} : okL lvl js ((t, .ar k es u hw ver) :: r) = okL lvl js r := (rfl)

/-- A round's end. -/
def kround (ks js : List Nat) (J : St → Prop) (Q : Ex → St → Prop) : Ex → St → Prop := fun e s' => match e with | .nrm => clean ks js s' ∧ J (fgt ks js s') | e => Q e s'
theorem r_round1 {ks js : List Nat} {J : St → Prop} : kround ks js J Q .nrm st = (clean ks js st ∧ J (fgt ks js st)) := (rfl)
theorem r_round2 {ks js : List Nat} {J : St → Prop} {i : Nat} : kround ks js J Q (.ext i) st = Q (.ext i) st := (rfl)
theorem r_round3 {ks js : List Nat} {J : St → Prop} : kround ks js J Q .ret st = Q .ret st := (rfl)

/-- A loop by a relation with a measure. -/
theorem wp_lp {ks js : List Nat} {c : C2} (I : Nat → St → Prop) (n0 : Nat) (h0 : clean ks js st ∧ I n0 (fgt ks js st)) (hs : ∀ n s, I n s → wp C c s (kround ks js (fun s' => ∃ m, m < n ∧ I m s') Q)) : wp C (.lp ks js c) st Q := by
  refine ⟨I, ⟨h0.1, n0, h0.2⟩, fun n s hI => ?_⟩
  have h := hs n s hI
  have e : (kround ks js (fun s' => ∃ m, m < n ∧ I m s') Q) = fun e s' => match e with | .nrm => clean ks js s' ∧ ∃ m, m < n ∧ I m (fgt ks js s') | e => Q e s' := by
    funext e s'; cases e <;> rfl
  rw [e] at h
  exact h
/-- What a round of a loop that counts hands on. -/
def cntJ {α : Type} (N : Nat) (mk : Nat → α → St) (A : Nat → α → Prop) (n : Nat) (s' : St) : Prop := ∃ m, m < n ∧ ∃ k x, k + m = N ∧ s' = mk k x ∧ A k x
theorem cntJ_intro {α : Type} {N : Nat} {mk : Nat → α → St} {A : Nat → α → Prop} {k : Nat} {s' : St} (y : α) (hk : k < N) (h : s' = mk (k + 1) y) (ha : A (k + 1) y) : cntJ N mk A (N - k) s' := ⟨N - (k + 1), by omega, k + 1, y, by omega, h, ha⟩
/-- A loop that counts: its state at the head of round k is mk k x, of which A k x holds; it leaves at N at the latest. -/
theorem wp_count {α : Type} {ks js : List Nat} {c : C2} (N : Nat) (mk : Nat → α → St) (A : Nat → α → Prop) (x0 : α) (h0 : clean ks js st ∧ fgt ks js st = mk 0 x0) (hA : A 0 x0)
    (hs : ∀ k x, k ≤ N → A k x → wp C c (mk k x) (kround ks js (cntJ N mk A (N - k)) Q)) : wp C (.lp ks js c) st Q := by
  refine wp_lp (fun n s => ∃ k x, k + n = N ∧ s = mk k x ∧ A k x) N ⟨h0.1, 0, x0, by omega, h0.2, hA⟩ (fun n s ⟨k, x, hk, he, ha⟩ => ?_)
  subst he
  have h := hs k x (by omega) ha
  have hn : N - k = n := by omega
  rw [hn] at h
  exact h
end
end Go.Fd

/-
  FOUNDATION 46: more rules: stores, append. Own work.
-/
namespace Go.Fd

section
variable {C : Contract} {lvl : Nat} {env : List (Nat × IV)} {loc : List (Nat × Ob)} {out : Sto} {d : Option Nat} {K : St → Prop} {st : St}

def st2 (v : Option (List IV)) (m : Nat) (p : IV) (d : Option Nat) (st : St) (K : St → Prop) : Prop :=
  match v with
  | some l => d = none ∧ l.length = m ∧
    match p with
    | .ab id off =>
      match st.sto id with
      | some (.bx cells) => off + l.length ≤ cells.length ∧ lows (id.1 + 1) l ∧ K (setOb st id (.bx (setAt cells off l)))
      | _ => False
    | .ae id p i f s => stcs id p i s f l st K
    | _ => False
  | none => False
theorem r_st {m : Nat} {p x : X} : op2 C d (.st m p x) ⟨lvl, env, loc, out⟩ K = st2 (cellsOf (xv env x)) m (xv env p) d ⟨lvl, env, loc, out⟩ K := by
  rw [op2_loud rfl]
  simp only [ew]
  generalize cellsOf (xv env x) = v
  cases v with
  | none => simp [st2]
  | some l => rfl
def stb (o : Option Ob) (id : Oid) (off : Nat) (l : List IV) (st : St) (K : St → Prop) : Prop :=
  match o with
  | some (.bx cells) => off + l.length ≤ cells.length ∧ lows (id.1 + 1) l ∧ K (setOb st id (.bx (setAt cells off l)))
  | _ => False
theorem r_st1 {m : Nat} {l : List IV} {id : Oid} {off : Nat} : st2 (some l) m (.ab id off) d ⟨lvl, env, loc, out⟩ K = (d = none ∧ l.length = m ∧ stb (packS lvl loc out id) id off l ⟨lvl, env, loc, out⟩ K) := (rfl)
theorem r_st2 {m : Nat} {l : List IV} {id : Oid} {p : Pth} {i f s : Nat} : st2 (some l) m (.ae id p i f s) d st K = (d = none ∧ l.length = m ∧ stcs id p i s f l st K) := (rfl)
theorem r_stb {cells l : List IV} {id : Oid} {off : Nat} : stb (some (.bx cells)) id off l st K = (off + l.length ≤ cells.length ∧ lows (id.1 + 1) l ∧ K (setOb st id (.bx (setAt cells off l)))) := (rfl)
theorem r_setAt0 {cs : List IV} {off : Nat} : setAt cs off [] = cs := (rfl)
theorem r_setAt1 {cs : List IV} {off : Nat} {x : IV} {r : List IV} : setAt cs off (x :: r) = setAt (cs.set off x) (off + 1) r := (rfl)
theorem r_lows0 {l : Nat} : lows l [] = True := (rfl)
theorem r_lows1 {l : Nat} {x : IV} {r : List IV} : lows l (x :: r) = (low l x ∧ lows l r) := (rfl)
theorem r_low1 {l : Nat} {t : Tr} : low l (.tr t) = True := (rfl)
theorem r_low3 {l k : Nat} {p : Pth} {off len s : Nat} {cap : Option Nat} : low (l + 1) (.hd (l, k) p off len cap s) = True := by
  apply propext; simp [low, men]
def kst (id : Oid) (p : Pth) (i s f : Nat) (r : List IV) (K : St → Prop) (st' : St) : Prop := stcs id p i s f r st' K
theorem r_kst {id : Oid} {p : Pth} {i s f : Nat} {r : List IV} : kst id p i s f r K st = stcs id p i s f r st K := (rfl)
theorem r_stcs0 {id : Oid} {p : Pth} {i s f : Nat} : stcs id p i s f [] st K = K st := (rfl)
/-- One cell goes into an object. -/
def sc1 (o : Option Ob) (id : Oid) (p : Pth) (i f s : Nat) (x : IV) (st : St) (K : St → Prop) : Prop :=
  match o with
  | some (.ar k es u hw ver) => stamp p s hw ver u ∧ op3 (getp es p) fun es' => op3 es'[i]? fun e => op3 e[f]? fun t0 =>
    match x with
    | .tr (.v y) => isSc t0 = true ∧ K (setOb st id (.ar k (setp es p i f (.v y)) u hw ver))
    | .cs [] => p = [] ∧ K (setOb st id (.ar k (setp es [] i f (.sl [])) u hw (ver + 1)))
    | .cs zs => p = [] ∧ K (setOb st id (.ar k (setp es [] i f (.sl zs)) false hw (ver + 1)))
    | .tr (.sl zs) => p = [] ∧ K (setOb st id (.ar k (setp es [] i f (.sl zs)) false hw (ver + 1)))
    | .hd id2 [] 0 len none s2 => p = [] ∧ id2 ≠ id ∧ id2.1 = st.lvl ∧
      match st.sto id2 with
      | some (.ar _ zs u2 hw2 _) => s2 = hw2 ∧ len = zs.length ∧ K (setOb (kill id2 st) id (.ar k (setp es [] i f (.sl zs)) (u && u2) hw (ver + 1)))
      | _ => False
    | _ => False
  | _ => False
theorem r_stcs1 {id : Oid} {p : Pth} {i s f : Nat} {x : IV} {r : List IV} : stcs id p i s f (x :: r) ⟨lvl, env, loc, out⟩ K = sc1 (packS lvl loc out id) id p i f s x ⟨lvl, env, loc, out⟩ (kst id p i s (f + 1) r K) := by
  simp only [stcs, stc, sc1]
  rw [show (⟨lvl, env, loc, out⟩ : St).sto id = packS lvl loc out id from rfl]
  generalize packS lvl loc out id = o
  cases o with
  | none => rfl
  | some ob =>
    cases ob with
    | bx => rfl
    | ar k es u hw ver =>
      dsimp only
      rw [← op3_ex]
      apply propext
      constructor
      · rintro ⟨es', h1, h2, e, h3, t0, h4, h5⟩
        refine ⟨h2, es', h1, ?_⟩
        rw [h3]
        simp only [op3]
        rw [h4]
        exact h5
      · rintro ⟨h2, es', h1, h3⟩
        rw [← op3_ex] at h3
        obtain ⟨e, h3, h4⟩ := h3
        rw [← op3_ex] at h4
        obtain ⟨t0, h4, h5⟩ := h4
        exact ⟨es', h1, h2, e, h3, t0, h4, h5⟩
/-- the cell's old content is told -/
def sc2 (k : Nat) (es : Row) (u : Bool) (hw ver : Nat) (id : Oid) (p : Pth) (i f : Nat) (x : IV) (st : St) (K : St → Prop) (t0 : Tr) : Prop :=
    match x with
    | .tr (.v y) => isSc t0 = true ∧ K (setOb st id (.ar k (setp es p i f (.v y)) u hw ver))
    | .cs [] => p = [] ∧ K (setOb st id (.ar k (setp es [] i f (.sl [])) u hw (ver + 1)))
    | .cs zs => p = [] ∧ K (setOb st id (.ar k (setp es [] i f (.sl zs)) false hw (ver + 1)))
    | .tr (.sl zs) => p = [] ∧ K (setOb st id (.ar k (setp es [] i f (.sl zs)) false hw (ver + 1)))
    | .hd id2 [] 0 len none s2 => p = [] ∧ id2 ≠ id ∧ id2.1 = st.lvl ∧
      match st.sto id2 with
      | some (.ar _ zs u2 hw2 _) => s2 = hw2 ∧ len = zs.length ∧ K (setOb (kill id2 st) id (.ar k (setp es [] i f (.sl zs)) (u && u2) hw (ver + 1)))
      | _ => False
    | _ => False
def sc3 (k : Nat) (es : Row) (u : Bool) (hw ver : Nat) (id : Oid) (p : Pth) (i f : Nat) (x : IV) (st : St) (K : St → Prop) (e : List Tr) : Prop := op3 e[f]? (sc2 k es u hw ver id p i f x st K)
def sc4 (k : Nat) (es : Row) (u : Bool) (hw ver : Nat) (id : Oid) (p : Pth) (i f : Nat) (x : IV) (st : St) (K : St → Prop) (es' : Row) : Prop := op3 es'[i]? (sc3 k es u hw ver id p i f x st K)
section sc
variable {k : Nat} {es : Row} {u : Bool} {hw ver : Nat} {id : Oid} {p : Pth} {i f s : Nat} {x : IV}
theorem r_sc1 : sc1 (some (.ar k es u hw ver)) id p i f s x st K = (stamp p s hw ver u ∧ op3 (getp es p) (sc4 k es u hw ver id p i f x st K)) := (rfl)
theorem r_sc3 {e : List Tr} : sc3 k es u hw ver id p i f x st K e = op3 e[f]? (sc2 k es u hw ver id p i f x st K) := (rfl)
theorem r_sc4 {es' : Row} : sc4 k es u hw ver id p i f x st K es' = op3 es'[i]? (sc3 k es u hw ver id p i f x st K) := (rfl)
theorem r_sc2 {y : Value} {t0 : Tr} : sc2 k es u hw ver id p i f (.tr (.v y)) st K t0 = (isSc t0 = true ∧ K (setOb st id (.ar k (setp es p i f (.v y)) u hw ver))) := (rfl)
def sc5 (o : Option Ob) (k : Nat) (es : Row) (u : Bool) (hw ver : Nat) (id : Oid) (i f len s2 : Nat) (st2 st : St) (K : St → Prop) : Prop :=
  match o with
  | some (.ar _ zs u2 hw2 _) => s2 = hw2 ∧ len = zs.length ∧ K (setOb st2 id (.ar k (setp es [] i f (.sl zs)) (u && u2) hw (ver + 1)))
  | _ => False
theorem r_sc2c {key len s2 : Nat} {t0 : Tr} : sc2 k es u hw ver id p i f (.hd (lvl, key) [] 0 len none s2) ⟨lvl, env, loc, out⟩ K t0 = (p = [] ∧ (lvl, key) ≠ id ∧ sc5 (lkO key loc) k es u hw ver id i f len s2 (kill (lvl, key) ⟨lvl, env, loc, out⟩) ⟨lvl, env, loc, out⟩ K) := by
  simp only [sc2]
  rw [show (⟨lvl, env, loc, out⟩ : St).sto (lvl, key) = lkO key loc from r_pack]
  generalize lkO key loc = o
  apply propext
  constructor
  · rintro ⟨h1, h2, _, h3⟩
    refine ⟨h1, h2, ?_⟩
    cases o with
    | none => exact h3
    | some ob => cases ob <;> exact h3
  · rintro ⟨h1, h2, h3⟩
    refine ⟨h1, h2, trivial, ?_⟩
    cases o with
    | none => exact h3
    | some ob => cases ob <;> exact h3
theorem r_sc5 {k2 : Nat} {zs : Row} {u2 : Bool} {hw2 ver2 len s2 : Nat} {st2 : St} : sc5 (some (.ar k2 zs u2 hw2 ver2)) k es u hw ver id i f len s2 st2 st K = (s2 = hw2 ∧ len = zs.length ∧ K (setOb st2 id (.ar k (setp es [] i f (.sl zs)) (u && u2) hw (ver + 1)))) := (rfl)
end sc

/-! ## one new row of cells that may be objects -/
section mv
variable {r : List IV} {F : List Tr → Bool → St → Prop} {F1 : Tr → Bool → St → Prop}
end mv

/-! ## append -/
def apx (v : IV) (d : Option Nat) (k : Nat) (loc0 : List (Nat × Ob)) (items : Row) (ui : Bool) (st1 : St) (K : St → Prop) : Prop :=
  UnR k items ∧
  match v with
  | .cs zs => (zs = [] ∨ items ≠ []) ∧ zs.length + items.length ≤ bigN ∧ UnR k zs ∧ freshK (keyOf d) loc0 1 ∧ (zs = [] ∨ ui = false ∨ ScR zs) ∧
    K { setOb st1 (st1.lvl, keyOf d) (.ar k (zs ++ items) ui (zs.length + items.length) 0) with env := ptd d (.hd (st1.lvl, keyOf d) [] 0 (zs.length + items.length) none (zs.length + items.length)) st1.env }
  | .hd id [] 0 len none s =>
    match st1.sto id with
    | some (.ar k' es u hw ver) => k' = k ∧ s = hw ∧ len = es.length ∧ len + items.length ≤ bigN ∧
      K { setOb st1 id (.ar k (es ++ items) (u && ui) (max hw (len + items.length)) ver) with env := ptd d (.hd id [] 0 (len + items.length) none (max hw (len + items.length))) st1.env }
    | _ => False
  | _ => False
theorem r_apgo {k : Nat} {x : X} {loc0 : List (Nat × Ob)} {items : Row} {ui : Bool} : apgo d k x loc0 items ui ⟨lvl, env, loc, out⟩ K = apx (xv env x) d k loc0 items ui ⟨lvl, env, loc, out⟩ K := (rfl)
def aph (o : Option Ob) (d : Option Nat) (k : Nat) (id : Oid) (len s : Nat) (items : Row) (ui : Bool) (st1 : St) (K : St → Prop) : Prop :=
  match o with
  | some (.ar k' es u hw ver) => k' = k ∧ s = hw ∧ len = es.length ∧ len + items.length ≤ bigN ∧
      K { setOb st1 id (.ar k (es ++ items) (u && ui) (max hw (len + items.length)) ver) with env := ptd d (.hd id [] 0 (len + items.length) none (max hw (len + items.length))) st1.env }
  | _ => False
theorem r_apx2 {k key len s : Nat} {loc0 : List (Nat × Ob)} {items : Row} {ui : Bool} : apx (.hd (lvl, key) [] 0 len none s) d k loc0 items ui ⟨lvl, env, loc, out⟩ K = (UnR k items ∧ aph (lkO key loc) d k (lvl, key) len s items ui ⟨lvl, env, loc, out⟩ K) := by
  simp only [apx]
  rw [show (⟨lvl, env, loc, out⟩ : St).sto (lvl, key) = lkO key loc from r_pack]
  rfl
theorem r_aph {k k' key len s : Nat} {items es : Row} {u ui : Bool} {hw ver : Nat} : aph (some (.ar k' es u hw ver)) d k (lvl, key) len s items ui ⟨lvl, env, loc, out⟩ K = (k' = k ∧ s = hw ∧ len = es.length ∧ len + items.length ≤ bigN ∧
      K ⟨lvl, ptd d (.hd (lvl, key) [] 0 (len + items.length) none (max hw (len + items.length))) env, ptO key (.ar k (es ++ items) (u && ui) (max hw (len + items.length)) ver) loc, out⟩) := by
  simp only [aph, r_setOb]
def ap2 (C : Contract) (d : Option Nat) (k md : Nat) (x : X) (y : IV) (st : St) (K : St → Prop) : Prop :=
  match y with
  | .tr (.sl es) => if md = 0 then ScR es ∧ apgo d k x st.loc es true st K else md = 1 ∧ apgo d k x st.loc es false st K
  | .cs es => if md = 0 then ScR es ∧ apgo d k x st.loc es true st K else md = 1 ∧ apgo d k x st.loc es false st K
  | .hd id2 p2 off2 len2 c2 s2 =>
      if md = 2 then
        p2 = [] ∧ off2 = 0 ∧ c2 = none ∧ id2.1 = st.lvl ∧
        match st.sto id2 with
        | some (.ar _ zs u2 hw2 _) => s2 = hw2 ∧ len2 = zs.length ∧ apgo d k x st.loc zs u2 (kill id2 st) K
        | _ => False
      else if md = 0 then
        rdh st.sto id2 p2 s2 fun es _ _ => off2 + len2 ≤ es.length ∧ ScR (cut es off2 len2) ∧ apgo d k x st.loc (cut es off2 len2) true st K
      else md = 1 ∧ p2 = [] ∧
        match st.sto id2 with
        | some (.ar k2 es _ hw2 ver2) => s2 = hw2 ∧ off2 + len2 ≤ es.length ∧ apgo d k x st.loc (cut es off2 len2) false (setOb st id2 (.ar k2 es false hw2 ver2)) K
        | _ => False
  | .sv id2 => md = 2 ∧ id2.1 = st.lvl ∧
      match st.sto id2 with
      | some (.bx l) => l.length = k ∧ mvcs l st fun ts u st' => apgo d k x st.loc [ts] u (kill id2 st') K
      | _ => False
  | _ => False
theorem r_ap {k md : Nat} {x y : X} : op2 C d (.ap k md x y) ⟨lvl, env, loc, out⟩ K = ap2 C d k md x (xv env y) ⟨lvl, env, loc, out⟩ K := by
  rw [op2_loud rfl]
  rfl
section ap
variable {k : Nat} {x : X}
def kap (d : Option Nat) (k : Nat) (x : X) (off2 len2 : Nat) (st : St) (K : St → Prop) (es : Row) (_u : Bool) (_v : Nat) : Prop := off2 + len2 ≤ es.length ∧ ScR (cut es off2 len2) ∧ apgo d k x st.loc (cut es off2 len2) true st K
theorem r_kap {off2 len2 : Nat} {es : Row} {u : Bool} {v : Nat} : kap d k x off2 len2 ⟨lvl, env, loc, out⟩ K es u v = (off2 + len2 ≤ es.length ∧ ScR (cut es off2 len2) ∧ apgo d k x loc (cut es off2 len2) true ⟨lvl, env, loc, out⟩ K) := (rfl)
theorem r_ap0h {id2 : Oid} {p2 : Pth} {off2 len2 s2 : Nat} {c2 : Option Nat} : ap2 C d k 0 x (.hd id2 p2 off2 len2 c2 s2) ⟨lvl, env, loc, out⟩ K = rd3 (packS lvl loc out id2) p2 s2 (kap d k x off2 len2 ⟨lvl, env, loc, out⟩ K) := by
  rw [← rdh_rd3]
  rfl
end ap
theorem r_snm {L : Sto} {F : List IV → Prop} : ∀ {l : List Tr}, snaps L (l.map .tr) F = F (l.map .tr)
  | [] => r_sn0
  | t :: r => by rw [List.map_cons, r_sn1, r_snm, r_kcn]
theorem r_mensm {Pd : Oid → Prop} : ∀ {l : List Tr}, mens Pd (l.map .tr) = True
  | [] => rfl
  | t :: r => by simp only [List.map_cons, mens, men, r_mensm, and_self]
end

/-! ## words for plain data -/
abbrev tv (n : Int) : Tr := .v (.int .i64 n)
abbrev ts (s : ByteArray) : Tr := .v (.string s)
/-- numbers in memory -/
abbrev rI (l : List Int) : Row := l.map fun n => [tv n]
abbrev tI (l : List Int) : IV := .tr (.sl (rI l))
/-- strings in memory -/
abbrev rS (l : List ByteArray) : Row := l.map fun n => [ts n]
abbrev tS (l : List ByteArray) : IV := .tr (.sl (rS l))

theorem fits_i64 (n : Int) : fits .i64 n = (-9223372036854775808 ≤ n ∧ n ≤ 9223372036854775807) := by
  simp [fits, IntKind.min, IntKind.max, IntKind.signed, IntKind.bits]
end Go.Fd

/-
  FROM THE READER'S FACTS TO TREES: what an input reads as, by its type. Own work.
-/
namespace Go.Fd

def In (w : World) (b : Nat) : Prop := b < w.heap.size
/-- A row of cells read as trees. -/
def RowRd (w : World) (cs : List Value) (ts : List Tr) : Prop := ∀ (j : Nat) (v : Value) (t : Tr), cs[j]? = some v → ts[j]? = some t → Rds w (In w) v t
/-- Values of type t, as rows of cells, read as what 'c' lays down of a plain value with 'Q'. -/
def Reads (P : Program) (t : TypeId) {α : Type} (c : α → List Tr) (Q : α → Prop) : Prop :=
  ∀ (H : Type) (enc : TypeId × Value → H) (w : World) (sp : Nat → Bool) (hd : Bool) (fuel : Nat) (cs : List Value) (x : DataW H × List MemPlace),
    DataW.trod enc P w 0 sp hd fuel t cs = some x → ∃ y, Q y ∧ RowRd w cs (c y)

theorem RowRd_one {w : World} {v : Value} {t : Tr} (h : Rds w (In w) v t) : RowRd w [v] [t] := fun j v' t' h1 h2 => by
  match j with
  | 0 => simp at h1 h2; subst h1; subst h2; exact h
  | j + 1 => simp at h1

theorem Reads_int {P : Program} {t : TypeId} (ht : P.underlying t = some (.int .i64)) : Reads P t (fun n : Int => [tv n]) (fits .i64) := by
  intro H enc w sp hd fuel cs x h
  obtain ⟨n, rfl, _, hw⟩ := DataW.trod_int ht h
  exact ⟨n, by simpa [Lit.wf, fits] using hw, RowRd_one (.v _ rfl)⟩
theorem Reads_string {P : Program} {t : TypeId} (ht : P.underlying t = some .string) : Reads P t (fun n : ByteArray => [ts n]) (fun n => n.size ≤ 9223372036854775807) := by
  intro H enc w sp hd fuel cs x h
  obtain ⟨n, rfl, _, hw⟩ := DataW.trod_string ht h
  exact ⟨n, hw, RowRd_one (.v _ rfl)⟩

theorem cell_lt {w : World} {a : Addr} {v : Value} (h : w.cell? a = some v) : a.block < w.heap.size := by
  unfold World.cell? at h
  cases hh : w.heap[a.block]? with
  | none => rw [hh] at h; cases h
  | some o => exact (Array.getElem?_eq_some_iff.1 hh).1

/-- From an element's row each: a list of plain values. -/
theorem choose_list {α : Type} (n : Nat) (R : Nat → α → Prop) (h : ∀ i, i < n → ∃ y, R i y) : ∃ l : List α, l.length = n ∧ ∀ i y, l[i]? = some y → R i y := by
  induction n with
  | zero => exact ⟨[], rfl, fun i y h => by simp at h⟩
  | succ n ih =>
    obtain ⟨l, hl, hr⟩ := ih (fun i hi => h i (by omega))
    obtain ⟨y, hy⟩ := h n (by omega)
    refine ⟨l ++ [y], by simp [hl], fun i z hz => ?_⟩
    by_cases hi : i < n
    · rw [List.getElem?_append_left (by omega)] at hz; exact hr i z hz
    · have hlt := (List.getElem?_eq_some_iff.1 hz).1
      simp only [List.length_append, List.length_singleton] at hlt
      have : i = n := by omega
      subst this
      rw [List.getElem?_append_right (by omega), hl, Nat.sub_self] at hz
      simp at hz
      exact hz ▸ hy

theorem Reads_slice {P : Program} {t e : TypeId} {k : Nat} {α : Type} {c : α → List Tr} {Q : α → Prop} (ht : P.underlying t = some (.slice e)) (hk : P.cellsOf e = k + 1) (hc : ∀ x, (c x).length = k + 1)
    (he : Reads P e c Q) : Reads P t (fun l : List α => [.sl (l.map c)]) (fun l => l.length ≤ 9223372036854775807 ∧ ∀ x ∈ l, Q x) := by
  intro H enc w sp hd fuel cs x h
  rcases DataW.trod_slice ht h with ⟨rfl, _⟩ | ⟨a, len, cap, elems, rest, n, _, rfl, _, _, hl, hm, hlen, hel, _, _⟩
  · exact ⟨[], ⟨by simp, by simp⟩, RowRd_one (.nil none 0)⟩
  · have each : ∀ i, i < len → ∃ y, Q y ∧ ∀ j t, (c y)[j]? = some t → ∃ v, w.cell? (a.add (i * (k + 1) + j)) = some v ∧ Rds w (In w) v t := fun i hi => by
      have h1 := hel i hi
      rw [hk] at h1
      obtain ⟨z, hz⟩ : ∃ z, elems[i]? = some z := ⟨elems[i]'(by omega), List.getElem?_eq_getElem _⟩
      rw [hz, Option.bind_eq_some_iff] at h1
      obtain ⟨row, hrow, hx⟩ := h1
      obtain ⟨y, hy, hr⟩ := he H enc w sp hd n row z hx
      obtain ⟨_, hrl, hg⟩ := World.cells?_some hrow
      refine ⟨y, hy, fun j t hj => ?_⟩
      have hjk : j < k + 1 := by rw [← hc y]; exact (List.getElem?_eq_some_iff.1 hj).1
      have hv : row[j]? = some (row[j]'(by omega)) := List.getElem?_eq_getElem _
      have := hg j hjk
      rw [hv] at this
      have e2 : (a.add (i * (k + 1))).add j = a.add (i * (k + 1) + j) := by
        unfold Addr.add
        by_cases h0 : i * (k + 1) = 0
        · simp [h0]
        · by_cases h1 : j = 0
          · simp [h1, h0]
          · have h2 : ¬ (i * (k + 1) + j = 0) := by omega
            simp only [if_neg h0, if_neg h1, if_neg h2, Addr.mk.injEq, and_true, true_and]
            omega
      rw [e2] at this
      exact ⟨_, this, hr j _ t hv hj⟩
    obtain ⟨l, hll, hlr⟩ := choose_list len _ each
    refine ⟨l, ⟨?_, fun y hy => ?_⟩, RowRd_one ?_⟩
    · rw [hll]; exact Nat.le_trans hl hm
    · obtain ⟨i, hi⟩ := List.getElem?_of_mem hy
      exact (hlr i y hi).1
    · by_cases h0 : len = 0
      · have : l = [] := List.eq_nil_of_length_eq_zero (by omega)
        subst this; subst h0
        exact .nil _ _
      · obtain ⟨y0, hy0⟩ : ∃ y0, l[0]? = some y0 := ⟨l[0]'(by omega), List.getElem?_eq_getElem _⟩
        obtain ⟨t0, ht0⟩ : ∃ t0, (c y0)[0]? = some t0 := ⟨(c y0)[0]'(by rw [hc]; omega), List.getElem?_eq_getElem _⟩
        obtain ⟨v0, hv0, _⟩ := (hlr 0 y0 hy0).2 0 t0 ht0
        obtain ⟨b, o, s⟩ := a
        have hs : s = none := by simpa [Addr.add] using World.cell?_spot hv0
        subst hs
        have hb : b < w.heap.size := by simpa [Addr.add] using cell_lt hv0
        have hel2 : ∀ i e j t, (l.map c)[i]? = some e → e[j]? = some t → ∃ v, w.cell? ⟨b, o + i * (k + 1) + j, none⟩ = some v ∧ Rds w (In w) v t := fun i e j t h1 h2 => by
          rw [List.getElem?_map, Option.map_eq_some_iff] at h1
          obtain ⟨y, hy, rfl⟩ := h1
          obtain ⟨v, hv, hr⟩ := (hlr i y hy).2 j t h2
          refine ⟨v, ?_, hr⟩
          rw [← hv]
          congr 1
          unfold Addr.add
          by_cases h0 : i * (k + 1) + j = 0
          · have : o + i * (k + 1) + j = o := by omega
            rw [if_pos h0, this]
          · rw [if_neg h0]
            have : o + i * (k + 1) + j = o + (i * (k + 1) + j) := by omega
            simp only [this]
        have hlm : (l.map c).length = len := by simpa using hll
        have := Rds.sl (w := w) (A := In w) b o cap (k + 1) (l.map c) (fun i j => (w.cell? ⟨b, o + i * (k + 1) + j, none⟩).getD .nilFunc) hb
          (fun e he => by simp only [List.mem_map] at he; obtain ⟨y, _, rfl⟩ := he; exact hc y) (by omega)
          (fun i e j t h1 h2 => by obtain ⟨v, hv, _⟩ := hel2 i e j t h1 h2; rw [hv]; rfl)
          (fun i e j t h1 h2 => by obtain ⟨v, hv, hr⟩ := hel2 i e j t h1 h2; rw [hv]; exact hr)
        rw [hlm] at this
        exact this

/-- A struct's or an array's parts, one behind the other. -/
def ReadsP (P : Program) (o : Nat) (l : List (Nat × TypeId)) {α : Type} (c : α → List Tr) (Q : α → Prop) : Prop :=
  ∀ (H : Type) (enc : TypeId × Value → H) (w : World) (sp : Nat → Bool) (hd : Bool) (fuel : Nat) (cs : List Value),
    (∀ p ∈ l, ∃ x, DataW.trod enc P w 0 sp hd fuel p.2 ((cs.drop p.1).take (P.cellsOf p.2)) = some x) → ∃ y, Q y ∧ RowRd w (cs.drop o) (c y)
theorem ReadsP_nil {P : Program} {o : Nat} : ReadsP P o [] (fun _ : Unit => []) (fun _ => True) := fun H enc w sp hd fuel cs _ => ⟨(), trivial, fun j v t _ h => by simp at h⟩
theorem ReadsP_cons {P : Program} {o k : Nat} {t : TypeId} {l : List (Nat × TypeId)} {α β : Type} {c : α → List Tr} {Q : α → Prop} {c2 : β → List Tr} {Q2 : β → Prop}
    (hk : P.cellsOf t = k) (hc : ∀ x, (c x).length = k) (h1 : Reads P t c Q) (h2 : ReadsP P (o + k) l c2 Q2) :
    ReadsP P o ((o, t) :: l) (fun p : α × β => c p.1 ++ c2 p.2) (fun p => Q p.1 ∧ Q2 p.2) := fun H enc w sp hd fuel cs h => by
  obtain ⟨x, hx⟩ := h (o, t) (by simp)
  obtain ⟨y, hy, hr⟩ := h1 _ _ _ _ _ _ _ _ hx
  obtain ⟨y2, hy2, hr2⟩ := h2 H enc w sp hd fuel cs (fun p hp => h p (by simp [hp]))
  refine ⟨(y, y2), ⟨hy, hy2⟩, fun j v t' hv ht => ?_⟩
  by_cases hj : j < k
  · rw [List.getElem?_append_left (by rw [hc]; exact hj)] at ht
    refine hr j v t' ?_ ht
    rw [hk, List.getElem?_take_of_lt hj]
    exact hv
  · rw [List.getElem?_append_right (by rw [hc]; omega), hc] at ht
    refine hr2 (j - k) v t' ?_ ht
    rw [List.getElem?_drop] at hv ⊢
    rw [← hv]
    congr 1
    omega
theorem Reads_struct {P : Program} {t : TypeId} {fs : Array Field} {α : Type} {c : α → List Tr} {Q : α → Prop} (ht : P.underlying t = some (.struct fs)) (h : ReadsP P 0 (fs.toList.map fun f => (f.offset, f.type)) c Q) : Reads P t c Q := by
  intro H enc w sp hd fuel cs x hx
  obtain ⟨xs, n, _, _, _, hl, hf⟩ := DataW.trod_struct ht hx
  have := h H enc w sp hd n cs (fun p hp => by
    simp only [List.mem_map] at hp
    obtain ⟨f, hf1, rfl⟩ := hp
    obtain ⟨i, hi⟩ := List.getElem?_of_mem hf1
    have hi' : fs[i]? = some f := by simpa using hi
    have hlt : i < xs.length := by rw [hl]; exact (Array.getElem?_eq_some_iff.1 hi').1
    exact ⟨_, (hf i f hi').trans (List.getElem?_eq_getElem hlt)⟩)
  simpa using this
theorem Reads_map {P : Program} {t : TypeId} {α β : Type} {c : α → List Tr} {Q : α → Prop} {c2 : β → List Tr} {Q2 : β → Prop} (g : α → β) (hg : ∀ x, c2 (g x) = c x) (hq : ∀ x, Q x → Q2 (g x)) (h : Reads P t c Q) : Reads P t c2 Q2 := by
  intro H enc w sp hd fuel cs x hx
  obtain ⟨y, hy, hr⟩ := h H enc w sp hd fuel cs x hx
  exact ⟨g y, hq y hy, by rw [hg]; exact hr⟩
theorem Reads_mp {P : Program} {t : TypeId} {α β : Type} {c : α → List Tr} {Q : α → Prop} {c2 : β → List Tr} {Q2 : β → Prop} (h : Reads P t c Q) (g : α → β) (hg : ∀ x, c2 (g x) = c x) (hq : ∀ x, Q x → Q2 (g x)) : Reads P t c2 Q2 := Reads_map g hg hq h
end Go.Fd

/-
  FROM A CONTRACT OF A LAW TO WHAT ITS ROW ASKS. Own work.
-/
namespace Go.Fd
open Go.RowKit

def G0 : Gh := fun _ _ => none
def S0 : Sto := fun _ => none
theorem Av0 {w : World} {b : Nat} (h : In w b) : Av G0 S0 w b := ⟨h, fun id ob hs => by cases hs⟩
theorem VRs_of_row {w : World} : ∀ {cs : List Value} {ts : List Tr}, cs.length = ts.length → RowRd w cs ts → VRs G0 S0 w (ts.map .tr) cs
  | [], [], _, _ => by simp [VRs]
  | v :: cs, t :: ts, hl, h => by
    simp only [List.map_cons, VRs]
    refine ⟨v, cs, rfl, ?_, VRs_of_row (by simpa using hl) (fun j v' t' h1 h2 => h (j + 1) v' t' (by simpa using h1) (by simpa using h2))⟩
    simp only [VR]
    exact Rds.mono (fun b => Av0) (fun b _ => rfl) (h 0 v t rfl rfl)
  | [], _ :: _, hl, _ => by simp at hl
  | _ :: _, [], hl, _ => by simp at hl

/-- A call of a law: it answers, and nothing old has turned. -/
theorem calls_of_sem {P : Program} {f : FuncId} {args : List IV} {b : Bool} {w : World} {vs : List Value} (h : Sem P f 0 args S0 (iB b) S0) (hv : VRs G0 S0 w args vs) :
    Calls P f vs.toArray w fun e w' => e = .returned (.bool b) ∧ Below w.heap.size w w' := by
  obtain ⟨_, _, h⟩ := h
  refine (h (fun id ob hs => by cases hs) G0 w vs ⟨fun id ob hs => (nomatch hs), fun id ob id2 ob2 b2 hs => (nomatch hs), fun id cells hs => (nomatch hs)⟩ hv).mono ?_
  rintro e w' ⟨v, G', rfl, _, hr, _, hf⟩
  have hr' : Rds w' (Av G' (addS S0 0 0 (impv true 0 0 0 (iB b)).2) w') v (.v (.bool b)) := hr
  cases hr' with
  | v x hx =>
    exact ⟨rfl, hf.os, hf.tape, hf.output, hf.size, fun k hk => hf.old k hk (fun id ob hs => by cases hs)⟩

theorem arg_slice {P : Program} {w : World} {r : Reach} {base : Nat} {t e : TypeId} {v : Value} (ht : P.underlying t = some (.slice e)) (h : Value.okWide P w r base t v) : v.cells.toList = [v] := by
  unfold Value.okWide at h
  rw [ht] at h
  simp only [Cell.okWide, ht, Cell.ok] at h
  cases v <;> first | rfl | exact absurd h (by simp)
theorem arg_struct {P : Program} {w : World} {r : Reach} {base : Nat} {t : TypeId} {fs : Array Field} {v : Value} (ht : P.underlying t = some (.struct fs)) (h : Value.okWide P w r base t v) : ∃ cs, v = .agg cs ∧ cs.size = P.cellsOf t := by
  unfold Value.okWide at h
  rw [ht] at h
  obtain ⟨cs, h1, h2, _⟩ := h
  exact ⟨cs, h1, h2⟩

section
variable {H : Type} {enc : TypeId × Value → H} {P : Program} {w : World} {t : TypeId} {v : Value} {d : DataW H} {p : List MemPlace} {α : Type} {c : α → List Tr} {Q : α → Prop} {sp : Nat → Bool} {hd : Bool} {base : Nat}
/-- A struct as a parameter. -/
theorem VR_struct {fs : Array Field} {k : Nat} (hr : Reads P t c Q) (ht : P.underlying t = some (.struct fs)) (hk : P.cellsOf t = k) (hc : ∀ x, (c x).length = k) (hok : Value.okWide P w .any base t v) (h : DataW.Trod enc P w 0 sp hd t v d p) :
    ∃ y, Q y ∧ VR G0 S0 w (.ag ((c y).map .tr)) v := by
  obtain ⟨cs, rfl, hs⟩ := arg_struct ht hok
  obtain ⟨n, hn⟩ := h
  obtain ⟨y, hy, hrow⟩ := hr H enc w sp hd n _ _ hn
  refine ⟨y, hy, ?_⟩
  simp only [VR]
  refine ⟨cs.toList, by simp, VRs_of_row ?_ hrow⟩
  rw [hc, ← hk, ← hs]
  simp
/-- A slice as a parameter. -/
theorem VR_slice {e : TypeId} {g : α → Tr} (hr : Reads P t (fun x => [g x]) Q) (ht : P.underlying t = some (.slice e)) (hok : Value.okWide P w .any base t v) (h : DataW.Trod enc P w 0 sp hd t v d p) :
    ∃ y, Q y ∧ VR G0 S0 w (.tr (g y)) v := by
  obtain ⟨n, hn⟩ := h
  rw [arg_slice ht hok] at hn
  obtain ⟨y, hy, hrow⟩ := hr H enc w sp hd n _ _ hn
  refine ⟨y, hy, ?_⟩
  simp only [VR]
  exact Rds.mono (fun b => Av0) (fun b _ => rfl) (hrow 0 v _ rfl rfl)
end

/-- The row's end, for a law: true, and the arguments read as they did. -/
theorem post_of_below {H : Type} {enc : TypeId × Value → H} {P : Program} {f : Func} {s : ChangeSpec} {apart : Bool} {W W' : World} {args : Array Value} {v : Value} {ds gs : List (DataW H)} {before pa pv : List MemPlace}
    (hW : DataW.Whole enc P f.params.toList s.vars apart W args.toList ds gs before) (hb : Below W.heap.size W W')
    (hres : DataW.TrodAll enc P W' W.heap.size (fun _ => false) false f.resultTypes.toList (v.resultList f.resultTypes.size) (s.fn H (ds ++ gs)).results [])
    (hargs : DataW.TrodAll enc P W' 0 (fun b => decide (b < W.heap.size)) true f.params.toList args.toList (s.fn H (ds ++ gs)).args pa)
    (hvars : DataW.TrodVars enc P W' (fun b => decide (b < W.heap.size)) s.vars (s.fn H (ds ++ gs)).vars pv) :
    s.post enc P f apart true false false W args v W' :=
  ⟨ds, gs, before, [], pa, pv, hW, hres, hargs, hvars, hb.frame _, fun h => by cases h⟩
end Go.Fd

/-
  FOUNDATION 50: contracts of the library, taken over: calls that read scalars alone and answer scalars. Own work.
-/
namespace Go.Fd
open Go.RowKit

theorem ext_of_below {w w' : World} (h : Below w.heap.size w w') : Ext w w' := ⟨h.size, h.block, h.os, h.tape, h.output⟩
theorem VRs_scal {G : Gh} {S : Sto} {w : World} : ∀ {xs vs : List Value}, VRs G S w (xs.map fun v => .tr (.v v)) vs → vs = xs
  | [], vs, h => by simpa [VRs] using h
  | x :: r, vs, h => by
    simp only [List.map_cons, VRs] at h
    obtain ⟨v, vr, rfl, h1, h2⟩ := h
    rw [VRs_scal h2]
    have h1' : Rds w (Av G S w) v (.v x) := h1
    cases h1'
    rfl
/-- What a call leaves that returns y and turns nothing old. -/
theorem sem_of_ext {P : Program} {f : FuncId} {lvl : Nat} {S : Sto} {args : List IV} {r : IV} (hc : Callable P f) (hi : impv true lvl 0 0 r = (r, [])) (hlow : low lvl r)
    (h : (∀ id ob, S id = some ob → id.1 < lvl) → ∀ G w vs, SOk G S w → VRs G S w args vs → Calls P f vs.toArray w fun e w' => ∃ v, e = .returned v ∧ VR G S w' r v ∧ Below w.heap.size w w') : Sem P f lvl args S r S := by
  refine ⟨hlow, hc, fun hS G w vs hok hv => ?_⟩
  refine (h hS G w vs hok hv).mono ?_
  rintro e w' ⟨v, rfl, hr, hb⟩
  rw [hi]
  have e : Ext w w' := ext_of_below hb
  exact ⟨v, G, rfl, hok.ext e, hr, hS, Frm.of_ext e⟩
theorem sem_of_scal {P : Program} {f : FuncId} {lvl : Nat} {S : Sto} {xs : List Value} {y : Value} (hc : Callable P f) (hy : scal y = true)
    (h : ∀ w, Calls P f xs.toArray w fun e w' => e = .returned y ∧ Below w.heap.size w w') : Sem P f lvl (xs.map fun v => .tr (.v v)) S (.tr (.v y)) S := by
  refine sem_of_ext hc rfl trivial fun _ G w vs _ hv => ?_
  rw [VRs_scal hv]
  exact (h w).mono fun e w' ⟨h1, h2⟩ => ⟨y, h1, .v y hy, h2⟩
end Go.Fd

/-
  FOUNDATION 51: a loop that counts, told by what changes. Own work.
-/
namespace Go.Fd

def pts : List (Nat × IV) → List (Nat × IV) → List (Nat × IV)
  | [], env => env
  | (t, x) :: r, env => pts r (pt t x env)
def ptOs : List (Nat × Ob) → List (Nat × Ob) → List (Nat × Ob)
  | [], loc => loc
  | (t, x) :: r, loc => ptOs r (ptO t x loc)
/-- A state in which some slots and objects have become others. -/
def chg (ce : List (Nat × IV)) (co : List (Nat × Ob)) (s : St) : St := ⟨s.lvl, pts ce s.env, ptOs co s.loc, s.out⟩
section
variable {C : Contract} {lvl : Nat} {env : List (Nat × IV)} {loc : List (Nat × Ob)} {out : Sto} {st : St} {Q : Ex → St → Prop}
theorem r_chg {ce : List (Nat × IV)} {co : List (Nat × Ob)} : chg ce co ⟨lvl, env, loc, out⟩ = ⟨lvl, pts ce env, ptOs co loc, out⟩ := (rfl)
theorem r_pts0 : pts [] env = env := (rfl)
theorem r_pts1 {t : Nat} {x : IV} {r : List (Nat × IV)} : pts ((t, x) :: r) env = pts r (pt t x env) := (rfl)
theorem r_ptOs0 : ptOs [] loc = loc := (rfl)
theorem r_ptOs1 {t : Nat} {x : Ob} {r : List (Nat × Ob)} : ptOs ((t, x) :: r) loc = ptOs r (ptO t x loc) := (rfl)
/-- A loop that counts: its head's state is the first one's but for what ce and co tell. -/
theorem wp_cnt {α : Type} {ks js : List Nat} {c : C2} (N : Nat) (ce : Nat → α → List (Nat × IV)) (co : Nat → α → List (Nat × Ob)) (A : Nat → α → Prop) (x0 : α)
    (h1 : clean ks js st) (h0 : fgt ks js st = chg (ce 0 x0) (co 0 x0) (fgt ks js st)) (hA : A 0 x0)
    (hs : ∀ k x, k ≤ N → A k x → wp C c (chg (ce k x) (co k x) (fgt ks js st)) (kround ks js (cntJ N (fun k x => chg (ce k x) (co k x) (fgt ks js st)) A (N - k)) Q)) : wp C (.lp ks js c) st Q :=
  wp_count N (fun k x => chg (ce k x) (co k x) (fgt ks js st)) A x0 ⟨h1, h0⟩ hA hs
end

/-! ## variables that are handed to a call that does not see them -/
section
variable {L : Sto} {F : List IV → Prop} {r : List IV}
def kabn (L : Sto) (r : List IV) (F : List IV → Prop) (y : IV) : Prop := snaps L r (kcn y F)
theorem r_kabn {y : IV} : kabn L r F y = snaps L r (kcn y F) := (rfl)
theorem r_sn9 {id : Oid} {off : Nat} : snaps L (.ab id off :: r) F = snapb (L id) L off (kabn L r F) := by simp only [snaps, snap]; rfl
def kta (F : IV → Prop) (ts : List Tr) : Prop := F (.ta ts)
theorem r_kta {F : IV → Prop} {ts : List Tr} : kta F ts = F (.ta ts) := (rfl)
theorem r_snb {cells : List IV} {off : Nat} {F : IV → Prop} : snapb (some (.bx cells)) L off F = snapcs L (cells.drop off) (kta F) := (rfl)
def kct (t : Tr) (F : List Tr → Prop) (ts : List Tr) : Prop := F (t :: ts)
theorem r_kct {t : Tr} {F : List Tr → Prop} {ts : List Tr} : kct t F ts = F (t :: ts) := (rfl)
def ksnc (L : Sto) (r : List IV) (F : List Tr → Prop) (t : Tr) : Prop := snapcs L r (kct t F)
theorem r_ksnc {F : List Tr → Prop} {t : Tr} : ksnc L r F t = snapcs L r (kct t F) := (rfl)
theorem r_snc0 {F : List Tr → Prop} : snapcs L [] F = F [] := (rfl)
theorem r_snc1 {x : IV} {F : List Tr → Prop} : snapcs L (x :: r) F = snapc L x (ksnc L r F) := (rfl)
theorem r_snct {t : Tr} {F : Tr → Prop} : snapc L (.tr t) F = F t := (rfl)
end

/-! ## one element that is appended -/
theorem r_rep1 {α : Type} {x : α} : List.replicate 1 x = [x] := (rfl)
theorem r_cut1 {e : List Tr} : cut [e] 0 1 = [e] := (rfl)
theorem r_scr1 {l : List Tr} : ScR [l] = (l.all isSc = true) := by
  apply propext
  constructor
  · intro h
    exact List.all_eq_true.2 fun t ht => h l (by simp) t ht
  · intro h e he t ht
    simp only [List.mem_singleton] at he
    subst he
    exact List.all_eq_true.1 h t ht
theorem r_unr1 {k : Nat} {l : List Tr} : UnR k [l] = (l.length = k) := by
  apply propext
  constructor
  · intro h; exact h l (by simp)
  · intro h e he
    simp only [List.mem_singleton] at he
    rw [he, h]
theorem r_max {j : Nat} : max j (j + 1) = j + 1 := by omega
theorem r_lt1 {j : Nat} : (j < j + 1) = True := by simp
end Go.Fd

/-
  PLAIN WORDS FOR THE DATA, AND WHAT HOLDS OF THE HELPERS OF THE LAWS THAT ARE ALIKE FOR ALL KINDS OF SLICES. Own work.
-/
namespace Go.Fd
set_option maxRecDepth 10000

theorem ite_of {c : Prop} [Decidable c] {p q : Prop} (h1 : c → p) (h2 : ¬ c → q) : if c then p else q := by
  split
  · exact h1 ‹_›
  · exact h2 ‹_›
/-- How much is left when n is taken from it. -/
def szN (n : Nat) (left : Int) : Int := if left - n < 0 then -1 else left - n
/-- What is left behind the elements of a list. -/
def szF {α : Type} (f : α → Int → Int) : List α → Int → Int
  | [], l => l
  | x :: r, l => if f x l < 0 then -1 else szF f r (f x l)
def szL {α : Type} (f : α → Int → Int) (a : List α) (left : Int) : Int := if left - a.length < 0 then -1 else szF f a (left - a.length)

def sz0 : F2 :=
  { nt := 12, res := [.t 4 [0]], body :=
   (.sq (.rg none [⟨some 4, none, .mv (.k (.int .i64 0)) none⟩])
   (.sq (.rg none [⟨some 5, none, .mv (.t 1) none⟩,
      ⟨some 6, none, .mv (.t 0) none⟩,
      ⟨some 7, none, .ln (.t 6)⟩,
      ⟨some 8, none, .bi .sub 0 (.t 5) (.t 7)⟩,
      ⟨some 1, none, .mv (.t 8) none⟩])
   (.sq (.sq (.rg none [⟨some 9, none, .mv (.t 1) none⟩,
       ⟨some 10, none, .bi .lss 0 (.t 9) (.k (.int .i64 0))⟩])
    (.cd (.t 10) (.sq (.rg none [⟨some 4, none, .mv (.k (.int .i64 (-1))) none⟩])
     (.rt))
    (.sk)))
   (.sq (.rg none [⟨some 11, none, .mv (.t 1) none⟩,
      ⟨some 4, none, .mv (.t 11) none⟩])
   (.rt))))) }
theorem sem_sz0 {P : Program} {fid : FuncId} (hc : chkF P fid sz0 = true) (es : Row) (left : Int) (h : es.length ≤ 9223372036854775807) (h0 : 0 ≤ left) (h1 : left ≤ 1048576) (lvl : Nat) (S : Sto) :
    Sem P fid lvl [.tr (.sl es), iI left] S (iI (szN es.length left)) S := by
  refine sem_of_chk hc trivial ?_
  simp only [sz0, r_cons, r_nil, r_kont, r_seq1, r_seq3, r_fn2, r_sk, r_rg, r_sq, r_rt, r_cd, r_cd2, r_wpF, r_op1, r_go1, r_mv, r_bi, r_sub0, r_lti, r_ln, r_ln1, r_fin, r_kfe1, r_kcx, r_exps0, r_exps1, r_kex, r_exp1, r_expv2, ptd, lk, pt, xv, kv, kc, params, ↓reduceIte, Nat.reduceEqDiff, reduceCtorEq, List.length_cons, List.length_nil, Nat.reduceAdd, Nat.reduceLeDiff, Nat.reduceLT, true_and, and_true, decide_eq_true_eq, Nat.zero_add]
  refine ⟨by rw [fits_i64]; omega, ?_⟩
  unfold szN
  split <;> rfl

def szSl (k : Nat) (m : Option Nat) (fid : FuncId) : F2 :=
  { nt := 27, res := [.t 4 [0]], body :=
   (.sq (.rg none [⟨some 4, none, .mv (.k (.int .i64 0)) none⟩])
   (.sq (.rg none [⟨some 6, none, .mv (.t 1) none⟩,
      ⟨some 7, none, .mv (.t 0) none⟩,
      ⟨some 8, none, .ln (.t 7)⟩,
      ⟨some 9, none, .bi .sub 0 (.t 6) (.t 8)⟩,
      ⟨some 1, none, .mv (.t 9) none⟩])
   (.sq (.sq (.rg none [⟨some 10, none, .mv (.t 1) none⟩,
       ⟨some 11, none, .bi .lss 0 (.t 10) (.k (.int .i64 0))⟩])
    (.cd (.t 11) (.sq (.rg none [⟨some 4, none, .mv (.k (.int .i64 (-1))) none⟩])
     (.rt))
    (.sk)))
   (.sq (.sq (.rg none [⟨some 5, none, .mv (.k (.int .i64 0)) none⟩])
    (.bl 0 (.lp [0, 1, 5] [] (.sq (.sq (.rg none [⟨some 12, none, .mv (.t 5) none⟩,
          ⟨some 13, none, .mv (.t 0) none⟩,
          ⟨some 14, none, .ln (.t 13)⟩,
          ⟨some 15, none, .bi .lss 0 (.t 12) (.t 14)⟩])
       (.cd (.t 15) (.sk)
       (.ex 0)))
      (.sq (.bl 1 (.sq (.rg none [⟨some 18, none, .mv (.t 0) none⟩,
           ⟨some 19, none, .mv (.t 5) none⟩,
           ⟨some 20, none, .ia k (.t 18) (.t 19)⟩,
           ⟨some 21, none, .ld m (.t 20)⟩,
           ⟨some 22, none, .mv (.t 1) none⟩,
           ⟨some 23, none, .ca .pure false (.f fid) [.t 21, .t 22]⟩,
           ⟨some 1, none, .mv (.t 23) none⟩])
        (.sq (.rg none [⟨some 24, none, .mv (.t 1) none⟩,
           ⟨some 25, none, .bi .lss 0 (.t 24) (.k (.int .i64 0))⟩])
        (.cd (.t 25) (.sq (.rg none [⟨some 4, none, .mv (.k (.int .i64 (-1))) none⟩])
         (.rt))
        (.sk)))))
      (.rg none [⟨some 16, none, .mv (.t 5) none⟩,
        ⟨some 17, none, .bi .add 0 (.t 16) (.k (.int .i64 1))⟩,
        ⟨some 5, none, .mv (.t 17) none⟩]))))))
   (.sq (.rg none [⟨some 26, none, .mv (.t 1) none⟩,
      ⟨some 4, none, .mv (.t 26) none⟩])
   (.rt)))))) }
/-- Elements are structs of k cells. -/
theorem sem_szSl {P : Program} {fid fe : FuncId} {k : Nat} (hc : chkF P fid (szSl k (some k) fe) = true) {α : Type} (c : α → List Tr) (f : α → Int → Int) (hk : ∀ x, (c x).length = k) (a : List α) (left : Int) (h : a.length ≤ 9223372036854775807) (h0 : 0 ≤ left) (h1 : left ≤ 1048576)
    (hf : ∀ x ∈ a, ∀ l : Int, 0 ≤ l → l ≤ 1048576 → f x l ≤ l ∧ ∀ lvl S, Sem P fe lvl [.ag ((c x).map .tr), iI l] S (iI (f x l)) S) (lvl : Nat) (S : Sto) :
    Sem P fid lvl [.tr (.sl (a.map c)), iI left] S (iI (szL f a left)) S := by
  refine sem_of_chk hc trivial ?_
  simp only [szSl, List.length_map, r_cons, r_nil, r_kont, r_seq1, r_seq3, r_fn2, r_sk, r_rg, r_sq, r_bl, r_rt, r_cd, r_cd2, r_wpF, r_op1, r_go1, r_mv, r_bi, r_sub0, r_lti, r_ln, r_ln1, r_fin, r_kfe1, r_kcx, r_exps0, r_exps1, r_kex, r_exp1, r_expv2, r_lt1, ptd, lk, pt, xv, kv, kc, params, ↓reduceIte, Nat.reduceEqDiff, reduceCtorEq, List.length_cons, List.length_nil, Nat.reduceAdd, Nat.reduceLeDiff, Nat.reduceLT, true_and, and_true, decide_eq_true_eq, Nat.zero_add, List.length_map]
  refine ⟨by rw [fits_i64]; omega, ?_⟩
  unfold szL
  split
  · rfl
  · rename_i hlt
    generalize hr : szF f a (left - a.length) = total
    refine wp_count (α := Int) a.length (fun j l => ⟨lvl, [(0, .tr (.sl (a.map c))), (1, iI l), (5, iI j)], [], S⟩) (fun j l => 0 ≤ l ∧ l ≤ 1048576 ∧ szF f (a.drop j) l = total) (left - a.length) ⟨by simp only [r_clean, r_okm4, r_okE0, r_okE1, r_okL0, ↓reduceIte, Nat.reduceEqDiff, reduceCtorEq, memB, keepB, keepOB, Bool.false_eq_true, and_self], by (simp only [r_fgt, ↓reduceIte, Nat.reduceEqDiff, reduceCtorEq, memB, keepB, keepOB, Bool.false_eq_true, Int.cast_ofNat_Int]) <;> rfl⟩ ⟨by omega, by omega, hr⟩ ?_
    intro j l hj ⟨hl0, hl1, hl⟩
    simp only [List.length_map, r_cons, r_nil, r_kont, r_seq1, r_seq2, r_blk2, r_fn2, r_sk, r_rg, r_sq, r_bl, r_ex, r_rt, r_cd, r_cd2, r_op1, r_go1, r_mv, r_bi, r_lti, r_ln, r_ln1, r_ixn, r_ia, r_ia1, r_fin, r_kfe1, r_kcx, r_exps0, r_exps1, r_kex, r_exp1, r_expv2, r_round2, r_lt1, ptd, lk, pt, xv, ↓reduceIte, Nat.reduceEqDiff, reduceCtorEq, Nat.reduceLT, true_and, and_true, decide_eq_true_eq, Int.toNat_natCast, Int.natCast_nonneg, List.length_map]
    split
    · rename_i hlt
      have hja : j < a.length := by omega
      have ga : (a.map c)[j]? = some (c a[j]) := by simp [hja]
      have hkk := hk a[j]
      have htk : (c a[j]).take k = c a[j] := List.take_of_length_le (by omega)
      rw [List.drop_eq_getElem_cons hja] at hl
      obtain ⟨hle, hsem⟩ := hf a[j] (List.getElem_mem hja) l hl0 hl1
      simp only [ga, hkk, htk, Nat.le_refl, r_cons, r_kont, r_op1, r_go1, r_mv, r_op3, r_iae, r_ld, r_ld4, r_kcn, r_kagn, r_sn0, r_sn1, r_sn3, r_ca, r_ca1, r_snm, r_mensm, ptd, lk, pt, xv, ↓reduceIte, Nat.reduceEqDiff, reduceCtorEq, Nat.reduceLT, true_and, List.map_cons, List.map_nil, List.cons_append, List.nil_append, mens, men, Nat.le_refl, and_self]
      refine kca_intro hsem ?_
      simp only [r_cons, r_nil, r_kont, r_seq1, r_seq3, r_blk1, r_blk3, r_fn2, r_sk, r_rg, r_sq, r_rt, r_cd, r_cd2, r_op1, r_go1, r_mv, r_bi, r_add0, r_lti, r_fin, r_kfe1, r_kcx, r_exps0, r_exps1, r_kex, r_exp1, r_expv2, r_fgt, r_clean, r_okm4, r_okE0, r_okE1, r_okL0, r_round1, r_round3, r_lt1, ptd, keyOf, freshK, lk, pt, addO, xv, kv, kc, ↓reduceIte, Nat.reduceEqDiff, Nat.reduceMul, reduceCtorEq, List.length_nil, Nat.reduceLT, true_and, and_true, decide_eq_true_eq, noSh, isSc, impv, memB, keepB, keepOB, or_true, Bool.false_eq_true, and_self]
      split
      · rename_i hneg
        simp only [szF, if_pos hneg] at hl
        rw [hl]
      · rename_i hneg
        simp only [szF, if_neg hneg] at hl
        refine ⟨by rw [fits_i64]; omega, cntJ_intro (f a[j] l) hja rfl ⟨by omega, by omega, hl⟩⟩
    · rename_i hge
      have : j = a.length := by omega
      subst this
      simp only [List.drop_length, szF] at hl
      rw [hl]

def szSt : F2 :=
  { nt := 28, res := [.t 4 [0]], body :=
   (.sq (.rg none [⟨some 4, none, .mv (.k (.int .i64 0)) none⟩])
   (.sq (.rg none [⟨some 6, none, .mv (.t 1) none⟩,
      ⟨some 7, none, .mv (.t 0) none⟩,
      ⟨some 8, none, .ln (.t 7)⟩,
      ⟨some 9, none, .bi .sub 0 (.t 6) (.t 8)⟩,
      ⟨some 1, none, .mv (.t 9) none⟩])
   (.sq (.sq (.rg none [⟨some 10, none, .mv (.t 1) none⟩,
       ⟨some 11, none, .bi .lss 0 (.t 10) (.k (.int .i64 0))⟩])
    (.cd (.t 11) (.sq (.rg none [⟨some 4, none, .mv (.k (.int .i64 (-1))) none⟩])
     (.rt))
    (.sk)))
   (.sq (.sq (.rg none [⟨some 5, none, .mv (.k (.int .i64 0)) none⟩])
    (.bl 0 (.lp [0, 1, 5] [] (.sq (.sq (.rg none [⟨some 12, none, .mv (.t 5) none⟩,
          ⟨some 13, none, .mv (.t 0) none⟩,
          ⟨some 14, none, .ln (.t 13)⟩,
          ⟨some 15, none, .bi .lss 0 (.t 12) (.t 14)⟩])
       (.cd (.t 15) (.sk)
       (.ex 0)))
      (.sq (.bl 1 (.sq (.rg none [⟨some 18, none, .mv (.t 1) none⟩,
           ⟨some 19, none, .mv (.t 0) none⟩,
           ⟨some 20, none, .mv (.t 5) none⟩,
           ⟨some 21, none, .ia 1 (.t 19) (.t 20)⟩,
           ⟨some 22, none, .ld none (.t 21)⟩,
           ⟨some 23, none, .lg (.t 22)⟩,
           ⟨some 24, none, .bi .sub 0 (.t 18) (.t 23)⟩,
           ⟨some 1, none, .mv (.t 24) none⟩])
        (.sq (.rg none [⟨some 25, none, .mv (.t 1) none⟩,
           ⟨some 26, none, .bi .lss 0 (.t 25) (.k (.int .i64 0))⟩])
        (.cd (.t 26) (.sq (.rg none [⟨some 4, none, .mv (.k (.int .i64 (-1))) none⟩])
         (.rt))
        (.sk)))))
      (.rg none [⟨some 16, none, .mv (.t 5) none⟩,
        ⟨some 17, none, .bi .add 0 (.t 16) (.k (.int .i64 1))⟩,
        ⟨some 5, none, .mv (.t 17) none⟩]))))))
   (.sq (.rg none [⟨some 27, none, .mv (.t 1) none⟩,
      ⟨some 4, none, .mv (.t 27) none⟩])
   (.rt)))))) }
theorem sem_szSt {P : Program} {fid : FuncId} (hc : chkF P fid szSt = true) (a : List ByteArray) (left : Int) (h : a.length ≤ 9223372036854775807) (h0 : 0 ≤ left) (h1 : left ≤ 1048576)
    (hf : ∀ x ∈ a, x.size ≤ 9223372036854775807) (lvl : Nat) (S : Sto) :
    Sem P fid lvl [tS a, iI left] S (iI (szL (fun x l => l - x.size) a left)) S := by
  refine sem_of_chk hc trivial ?_
  simp only [szSt, List.length_map, r_cons, r_nil, r_kont, r_seq1, r_seq3, r_fn2, r_sk, r_rg, r_sq, r_bl, r_rt, r_cd, r_cd2, r_wpF, r_op1, r_go1, r_mv, r_bi, r_sub0, r_lti, r_ln, r_ln1, r_fin, r_kfe1, r_kcx, r_exps0, r_exps1, r_kex, r_exp1, r_expv2, r_lt1, ptd, lk, pt, xv, kv, kc, params, ↓reduceIte, Nat.reduceEqDiff, reduceCtorEq, List.length_cons, List.length_nil, Nat.reduceAdd, Nat.reduceLeDiff, Nat.reduceLT, true_and, and_true, decide_eq_true_eq, Nat.zero_add, List.length_map]
  refine ⟨by rw [fits_i64]; omega, ?_⟩
  unfold szL
  split
  · rfl
  · rename_i hlt
    generalize hr : szF (fun (x : ByteArray) l => l - x.size) a (left - a.length) = total
    refine wp_count (α := Int) a.length (fun j l => ⟨lvl, [(0, tS a), (1, iI l), (5, iI j)], [], S⟩) (fun j l => 0 ≤ l ∧ l ≤ 1048576 ∧ szF (fun (x : ByteArray) l => l - x.size) (a.drop j) l = total) (left - a.length) ⟨by simp only [r_clean, r_okm4, r_okE0, r_okE1, r_okL0, ↓reduceIte, Nat.reduceEqDiff, reduceCtorEq, memB, keepB, keepOB, Bool.false_eq_true, and_self], by (simp only [r_fgt, ↓reduceIte, Nat.reduceEqDiff, reduceCtorEq, memB, keepB, keepOB, Bool.false_eq_true, Int.cast_ofNat_Int]) <;> rfl⟩ ⟨by omega, by omega, hr⟩ ?_
    intro j l hj ⟨hl0, hl1, hl⟩
    simp only [List.length_map, r_cons, r_nil, r_kont, r_seq1, r_seq2, r_blk2, r_fn2, r_sk, r_rg, r_sq, r_bl, r_ex, r_rt, r_cd, r_cd2, r_op1, r_go1, r_mv, r_bi, r_lti, r_ln, r_ln1, r_ixn, r_ia, r_ia1, r_fin, r_kfe1, r_kcx, r_exps0, r_exps1, r_kex, r_exp1, r_expv2, r_round2, r_lt1, ptd, lk, pt, xv, ↓reduceIte, Nat.reduceEqDiff, reduceCtorEq, Nat.reduceLT, true_and, and_true, decide_eq_true_eq, Int.toNat_natCast, Int.natCast_nonneg, List.length_map]
    split
    · rename_i hlt
      have hja : j < a.length := by omega
      have ga : (rS a)[j]? = some [ts a[j]] := by simp [hja]
      rw [List.drop_eq_getElem_cons hja] at hl
      have hs := hf a[j] (List.getElem_mem hja)
      simp only [ga, r_cons, r_nil, r_kont, r_seq1, r_seq3, r_blk1, r_blk3, r_fn2, r_sk, r_rg, r_sq, r_rt, r_cd, r_cd2, r_op1, r_go1, r_mv, r_bi, r_add0, r_sub0, r_lti, r_lg, r_lg1, r_op3, r_iae, r_ltr, r_ld, r_ld1, r_fin, r_kfe1, r_kcx, r_exps0, r_exps1, r_kex, r_exp1, r_expv2, r_fgt, r_clean, r_okm4, r_okE0, r_okE1, r_okL0, r_round1, r_round3, r_lt1, ptd, lk, pt, xv, kv, kc, ↓reduceIte, Nat.reduceEqDiff, reduceCtorEq, List.length_cons, List.length_nil, Nat.reduceLT, true_and, and_true, decide_eq_true_eq, List.getElem?_cons_zero, memB, keepB, keepOB, Bool.false_eq_true, Nat.zero_add, and_self]
      refine ⟨by rw [fits_i64]; omega, ?_⟩
      split
      · rename_i hneg
        simp only [szF, if_pos hneg] at hl
        rw [hl]
      · rename_i hneg
        simp only [szF, if_neg hneg] at hl
        refine ⟨by rw [fits_i64]; omega, cntJ_intro (l - a[j].size) hja rfl ⟨by omega, by omega, hl⟩⟩
    · rename_i hge
      have : j = a.length := by omega
      subst this
      simp only [List.drop_length, szF] at hl
      rw [hl]

/-- Two slices of structs of k cells. -/
def eqSl (k : Nat) (m : Option Nat) (fid : FuncId) : F2 :=
  { nt := 27, res := [.t 4 [0]], body :=
   (.sq (.rg none [⟨some 4, none, .mv (.k (.bool false)) none⟩])
   (.sq (.sq (.rg none [⟨some 6, none, .mv (.t 0) none⟩,
       ⟨some 7, none, .ln (.t 6)⟩,
       ⟨some 8, none, .mv (.t 1) none⟩,
       ⟨some 9, none, .ln (.t 8)⟩,
       ⟨some 10, none, .bi .neq 0 (.t 7) (.t 9)⟩])
    (.cd (.t 10) (.sq (.rg none [⟨some 4, none, .mv (.k (.bool false)) none⟩])
     (.rt))
    (.sk)))
   (.sq (.sq (.rg none [⟨some 5, none, .mv (.k (.int .i64 0)) none⟩])
    (.bl 0 (.lp [0, 1, 5] [] (.sq (.sq (.rg none [⟨some 11, none, .mv (.t 5) none⟩,
          ⟨some 12, none, .mv (.t 0) none⟩,
          ⟨some 13, none, .ln (.t 12)⟩,
          ⟨some 14, none, .bi .lss 0 (.t 11) (.t 13)⟩])
       (.cd (.t 14) (.sk)
       (.ex 0)))
      (.sq (.bl 1 (.sq (.rg (some 0) [⟨some 17, none, .mv (.t 0) none⟩,
           ⟨some 18, none, .mv (.t 5) none⟩,
           ⟨some 19, none, .ia k (.t 17) (.t 18)⟩,
           ⟨some 20, none, .ld m (.t 19)⟩,
           ⟨some 21, none, .mv (.t 1) none⟩,
           ⟨some 22, none, .mv (.t 5) none⟩,
           ⟨some 23, none, .ia k (.t 21) (.t 22)⟩,
           ⟨some 24, none, .ld m (.t 23)⟩,
           ⟨some 25, none, .ca .pure false (.f fid) [.t 20, .t 24]⟩,
           ⟨some 26, none, .nt (.t 25)⟩])
        (.cd (.t 26) (.sq (.rg none [⟨some 4, none, .mv (.k (.bool false)) none⟩])
         (.rt))
        (.sk))))
      (.rg none [⟨some 15, none, .mv (.t 5) none⟩,
        ⟨some 16, none, .bi .add 0 (.t 15) (.k (.int .i64 1))⟩,
        ⟨some 5, none, .mv (.t 16) none⟩]))))))
   (.sq (.rg none [⟨some 4, none, .mv (.k (.bool true)) none⟩])
   (.rt))))) }
theorem list_ne_at {α : Type} {a b : List α} {j : Nat} (ha : j < a.length) (hb : j < b.length) (h : a[j] ≠ b[j]) : a ≠ b := by
  intro e; subst e; exact h rfl
theorem list_eq_all {α : Type} {a b : List α} (hl : a.length = b.length) (h : a.take a.length = b.take a.length) : a = b := by
  rw [List.take_length, hl, List.take_length] at h; exact h
theorem take_succ_eq {α : Type} {a b : List α} {j : Nat} (ha : j < a.length) (hb : j < b.length) (h : a.take j = b.take j) (e : a[j] = b[j]) : a.take (j + 1) = b.take (j + 1) := by
  rw [List.take_succ_eq_append_getElem ha, List.take_succ_eq_append_getElem hb, h, e]
theorem sem_eqSl {P : Program} {fid fe : FuncId} {k : Nat} (hc : chkF P fid (eqSl k (some k) fe) = true) {α : Type} [DecidableEq α] (c : α → List Tr) (hk : ∀ x, (c x).length = k) (a b : List α) (ha : a.length ≤ 9223372036854775807)
    (hf : ∀ x ∈ a, ∀ y ∈ b, ∀ lvl S, Sem P fe lvl [.ag ((c x).map .tr), .ag ((c y).map .tr)] S (iB (decide (x = y))) S) (lvl : Nat) (S : Sto) :
    Sem P fid lvl [.tr (.sl (a.map c)), .tr (.sl (b.map c))] S (iB (decide (a = b))) S := by
  refine sem_of_chk hc trivial ?_
  simp only [eqSl, List.length_map, r_cons, r_nil, r_kont, r_seq1, r_seq3, r_fn2, r_sk, r_rg, r_sq, r_bl, r_rt, r_cd, r_cd2, r_wpF, r_op1, r_go1, r_mv, r_bi, r_nei, r_ln, r_ln1, r_fin, r_kfe1, r_kcx, r_exps0, r_exps1, r_kex, r_exp1, r_expv2, r_lt1, ptd, lk, pt, xv, kv, kc, params, ↓reduceIte, Nat.reduceEqDiff, reduceCtorEq, List.length_cons, List.length_nil, Nat.reduceAdd, Nat.reduceLeDiff, Nat.reduceLT, true_and, and_true, decide_eq_true_eq, Nat.zero_add, ne_eq, List.length_map]
  split
  · rename_i h
    have : ¬ a = b := fun e => h (by rw [e])
    simp [this]
  · rename_i h
    have hlen : a.length = b.length := by omega
    refine wp_count (α := Unit) a.length (fun j _ => ⟨lvl, [(0, .tr (.sl (a.map c))), (1, .tr (.sl (b.map c))), (5, iI j)], [], S⟩) (fun j _ => a.take j = b.take j) () ⟨by simp only [r_clean, r_okm4, r_okE0, r_okE1, r_okL0, ↓reduceIte, Nat.reduceEqDiff, reduceCtorEq, memB, keepB, keepOB, Bool.false_eq_true, and_self], by (simp only [r_fgt, ↓reduceIte, Nat.reduceEqDiff, reduceCtorEq, memB, keepB, keepOB, Bool.false_eq_true, Int.cast_ofNat_Int]) <;> rfl⟩ rfl ?_
    intro j _ hj hA
    simp only [List.length_map, r_cons, r_nil, r_kont, r_seq1, r_seq2, r_blk2, r_fn2, r_sk, r_rg, r_sq, r_bl, r_ex, r_rt, r_cd, r_cd2, r_op1, r_go1, r_mv, r_bi, r_lti, r_ln, r_ln1, r_ixn, r_ia, r_ia1, r_fin, r_kfe1, r_kcx, r_exps0, r_exps1, r_kex, r_exp1, r_expv2, r_round2, r_lt1, ptd, lk, pt, xv, kv, kc, ↓reduceIte, Nat.reduceEqDiff, reduceCtorEq, Nat.reduceLT, true_and, and_true, decide_eq_true_eq, Int.toNat_natCast, Int.natCast_nonneg, List.length_map]
    split
    · rename_i hlt
      have hja : j < a.length := by omega
      have hjb : j < b.length := by omega
      have ga : (a.map c)[j]? = some (c a[j]) := by simp [hja]
      have gb : (b.map c)[j]? = some (c b[j]) := by simp [hjb]
      have hka := hk a[j]
      have hkb := hk b[j]
      have hta : (c a[j]).take k = c a[j] := List.take_of_length_le (by omega)
      have htb : (c b[j]).take k = c b[j] := List.take_of_length_le (by omega)
      have hsem := hf a[j] (List.getElem_mem hja) b[j] (List.getElem_mem hjb)
      simp only [ga, gb, hka, hkb, hta, htb, Int.natCast_nonneg, Nat.le_refl, r_cons, r_kont, r_op1, r_go1, r_mv, r_op3, r_ixn, r_ia, r_iae, r_ia1, r_ld, r_ld4, r_kcn, r_kagn, r_sn0, r_sn3, r_ca, r_ca1, r_snm, r_mensm, ptd, lk, pt, xv, ↓reduceIte, Nat.reduceEqDiff, reduceCtorEq, Nat.reduceLT, true_and, List.map_cons, List.map_nil, List.cons_append, List.nil_append, mens, men, Int.toNat_natCast, Int.natCast_nonneg, Nat.le_refl, and_self]
      refine kca_intro hsem ?_
      simp only [Bool.not_eq_true', r_cons, r_nil, r_kont, r_seq1, r_seq3, r_blk1, r_blk3, r_fn2, r_sk, r_rg, r_sq, r_rt, r_cd, r_cd2, r_op1, r_go1, r_mv, r_bi, r_add0, r_nt, r_nt1, r_fin, r_kfe1, r_kcx, r_exps0, r_exps1, r_kex, r_exp1, r_expv2, r_fgt, r_clean, r_okm4, r_okE0, r_okE1, r_okL0, r_round1, r_round3, r_lt1, ptd, keyOf, freshK, lk, pt, addO, xv, kv, kc, ↓reduceIte, Nat.reduceEqDiff, Nat.reduceMul, reduceCtorEq, List.length_nil, Nat.reduceLT, true_and, and_true, noSh, isSc, impv, memB, keepB, keepOB, or_true, Bool.false_eq_true, Bool.not_eq_true', and_self]
      split
      · rename_i hne
        have : ¬ a = b := list_ne_at hja hjb (by simpa using hne)
        simp [this]
      · rename_i he
        refine ⟨by rw [fits_i64]; omega, cntJ_intro () hja rfl (take_succ_eq hja hjb hA (by simpa using he))⟩
    · rename_i hge
      have : j = a.length := by omega
      subst this
      have : a = b := list_eq_all hlen hA
      simp [this]
/-- Two slices of cells that are compared by the machine. -/
def eqS1 : F2 :=
  { nt := 26, res := [.t 4 [0]], body :=
   (.sq (.rg none [⟨some 4, none, .mv (.k (.bool false)) none⟩])
   (.sq (.sq (.rg none [⟨some 6, none, .mv (.t 0) none⟩,
       ⟨some 7, none, .ln (.t 6)⟩,
       ⟨some 8, none, .mv (.t 1) none⟩,
       ⟨some 9, none, .ln (.t 8)⟩,
       ⟨some 10, none, .bi .neq 0 (.t 7) (.t 9)⟩])
    (.cd (.t 10) (.sq (.rg none [⟨some 4, none, .mv (.k (.bool false)) none⟩])
     (.rt))
    (.sk)))
   (.sq (.sq (.rg none [⟨some 5, none, .mv (.k (.int .i64 0)) none⟩])
    (.bl 0 (.lp [0, 1, 5] [] (.sq (.sq (.rg none [⟨some 11, none, .mv (.t 5) none⟩,
          ⟨some 12, none, .mv (.t 0) none⟩,
          ⟨some 13, none, .ln (.t 12)⟩,
          ⟨some 14, none, .bi .lss 0 (.t 11) (.t 13)⟩])
       (.cd (.t 14) (.sk)
       (.ex 0)))
      (.sq (.bl 1 (.sq (.rg (some 0) [⟨some 17, none, .mv (.t 0) none⟩,
           ⟨some 18, none, .mv (.t 5) none⟩,
           ⟨some 19, none, .ia 1 (.t 17) (.t 18)⟩,
           ⟨some 20, none, .ld none (.t 19)⟩,
           ⟨some 21, none, .mv (.t 1) none⟩,
           ⟨some 22, none, .mv (.t 5) none⟩,
           ⟨some 23, none, .ia 1 (.t 21) (.t 22)⟩,
           ⟨some 24, none, .ld none (.t 23)⟩,
           ⟨some 25, none, .bi .neq 0 (.t 20) (.t 24)⟩])
        (.cd (.t 25) (.sq (.rg none [⟨some 4, none, .mv (.k (.bool false)) none⟩])
         (.rt))
        (.sk))))
      (.rg none [⟨some 15, none, .mv (.t 5) none⟩,
        ⟨some 16, none, .bi .add 0 (.t 15) (.k (.int .i64 1))⟩,
        ⟨some 5, none, .mv (.t 16) none⟩]))))))
   (.sq (.rg none [⟨some 4, none, .mv (.k (.bool true)) none⟩])
   (.rt))))) }
theorem sem_eqI {P : Program} {fid : FuncId} (hc : chkF P fid eqS1 = true) (a b : List Int) (ha : a.length ≤ 9223372036854775807) (lvl : Nat) (S : Sto) : Sem P fid lvl [tI a, tI b] S (iB (decide (a = b))) S := by
  refine sem_of_chk hc trivial ?_
  simp only [eqS1, List.length_map, r_cons, r_nil, r_kont, r_seq1, r_seq3, r_fn2, r_sk, r_rg, r_sq, r_bl, r_rt, r_cd, r_cd2, r_wpF, r_op1, r_go1, r_mv, r_bi, r_nei, r_ln, r_ln1, r_fin, r_kfe1, r_kcx, r_exps0, r_exps1, r_kex, r_exp1, r_expv2, r_lt1, ptd, lk, pt, xv, kv, kc, params, ↓reduceIte, Nat.reduceEqDiff, reduceCtorEq, List.length_cons, List.length_nil, Nat.reduceAdd, Nat.reduceLeDiff, Nat.reduceLT, true_and, and_true, decide_eq_true_eq, Nat.zero_add, ne_eq, List.length_map]
  split
  · rename_i h
    have : ¬ a = b := fun e => h (by rw [e])
    simp [this]
  · rename_i h
    have hlen : a.length = b.length := by omega
    refine wp_count (α := Unit) a.length (fun j _ => ⟨lvl, [(0, tI a), (1, tI b), (5, iI j)], [], S⟩) (fun j _ => a.take j = b.take j) () ⟨by simp only [r_clean, r_okm4, r_okE0, r_okE1, r_okL0, ↓reduceIte, Nat.reduceEqDiff, reduceCtorEq, memB, keepB, keepOB, Bool.false_eq_true, and_self], by (simp only [r_fgt, ↓reduceIte, Nat.reduceEqDiff, reduceCtorEq, memB, keepB, keepOB, Bool.false_eq_true, Int.cast_ofNat_Int]) <;> rfl⟩ rfl ?_
    intro j _ hj hA
    simp only [List.length_map, r_cons, r_nil, r_kont, r_seq1, r_seq2, r_blk2, r_fn2, r_sk, r_rg, r_sq, r_bl, r_ex, r_rt, r_cd, r_cd2, r_op1, r_go1, r_mv, r_bi, r_lti, r_ln, r_ln1, r_ixn, r_ia, r_ia1, r_fin, r_kfe1, r_kcx, r_exps0, r_exps1, r_kex, r_exp1, r_expv2, r_round2, r_lt1, ptd, lk, pt, xv, kv, kc, ↓reduceIte, Nat.reduceEqDiff, reduceCtorEq, Nat.reduceLT, true_and, and_true, decide_eq_true_eq, Int.toNat_natCast, Int.natCast_nonneg, List.length_map]
    split
    · rename_i hlt
      have hja : j < a.length := by omega
      have hjb : j < b.length := by omega
      have ga : (rI a)[j]? = some [tv a[j]] := by simp [hja]
      have gb : (rI b)[j]? = some [tv b[j]] := by simp [hjb]
      simp only [ga, gb, Int.natCast_nonneg, r_cons, r_nil, r_kont, r_seq1, r_seq3, r_blk1, r_blk3, r_fn2, r_sk, r_rg, r_sq, r_rt, r_cd, r_cd2, r_op1, r_go1, r_mv, r_bi, r_add0, r_nei, r_op3, r_ixn, r_ia, r_iae, r_ia1, r_ltr, r_ld, r_ld1, r_fin, r_kfe1, r_kcx, r_exps0, r_exps1, r_kex, r_exp1, r_expv2, r_fgt, r_clean, r_okm4, r_okE0, r_okE1, r_okL0, r_round1, r_round3, r_lt1, ptd, lk, pt, xv, kv, kc, ↓reduceIte, Nat.reduceEqDiff, reduceCtorEq, List.length_cons, List.length_nil, Nat.reduceLT, true_and, and_true, decide_eq_true_eq, List.getElem?_cons_zero, memB, keepB, keepOB, Bool.false_eq_true, Int.toNat_natCast, Nat.zero_add, Int.natCast_nonneg, ne_eq, and_self]
      split
      · rename_i hne
        have : ¬ a = b := list_ne_at hja hjb (by simpa using hne)
        simp [this]
      · rename_i he
        refine ⟨by rw [fits_i64]; omega, cntJ_intro () hja rfl (take_succ_eq hja hjb hA (by simpa using he))⟩
    · rename_i hge
      have : j = a.length := by omega
      subst this
      have : a = b := list_eq_all hlen hA
      simp [this]
theorem sem_eqS {P : Program} {fid : FuncId} (hc : chkF P fid eqS1 = true) (a b : List ByteArray) (ha : a.length ≤ 9223372036854775807) (lvl : Nat) (S : Sto) : Sem P fid lvl [tS a, tS b] S (iB (decide (a = b))) S := by
  refine sem_of_chk hc trivial ?_
  simp only [eqS1, List.length_map, r_cons, r_nil, r_kont, r_seq1, r_seq3, r_fn2, r_sk, r_rg, r_sq, r_bl, r_rt, r_cd, r_cd2, r_wpF, r_op1, r_go1, r_mv, r_bi, r_nei, r_ln, r_ln1, r_fin, r_kfe1, r_kcx, r_exps0, r_exps1, r_kex, r_exp1, r_expv2, r_lt1, ptd, lk, pt, xv, kv, kc, params, ↓reduceIte, Nat.reduceEqDiff, reduceCtorEq, List.length_cons, List.length_nil, Nat.reduceAdd, Nat.reduceLeDiff, Nat.reduceLT, true_and, and_true, decide_eq_true_eq, Nat.zero_add, ne_eq, List.length_map]
  split
  · rename_i h
    have : ¬ a = b := fun e => h (by rw [e])
    simp [this]
  · rename_i h
    have hlen : a.length = b.length := by omega
    refine wp_count (α := Unit) a.length (fun j _ => ⟨lvl, [(0, tS a), (1, tS b), (5, iI j)], [], S⟩) (fun j _ => a.take j = b.take j) () ⟨by simp only [r_clean, r_okm4, r_okE0, r_okE1, r_okL0, ↓reduceIte, Nat.reduceEqDiff, reduceCtorEq, memB, keepB, keepOB, Bool.false_eq_true, and_self], by (simp only [r_fgt, ↓reduceIte, Nat.reduceEqDiff, reduceCtorEq, memB, keepB, keepOB, Bool.false_eq_true, Int.cast_ofNat_Int]) <;> rfl⟩ rfl ?_
    intro j _ hj hA
    simp only [List.length_map, r_cons, r_nil, r_kont, r_seq1, r_seq2, r_blk2, r_fn2, r_sk, r_rg, r_sq, r_bl, r_ex, r_rt, r_cd, r_cd2, r_op1, r_go1, r_mv, r_bi, r_lti, r_ln, r_ln1, r_ixn, r_ia, r_ia1, r_fin, r_kfe1, r_kcx, r_exps0, r_exps1, r_kex, r_exp1, r_expv2, r_round2, r_lt1, ptd, lk, pt, xv, kv, kc, ↓reduceIte, Nat.reduceEqDiff, reduceCtorEq, Nat.reduceLT, true_and, and_true, decide_eq_true_eq, Int.toNat_natCast, Int.natCast_nonneg, List.length_map]
    split
    · rename_i hlt
      have hja : j < a.length := by omega
      have hjb : j < b.length := by omega
      have ga : (rS a)[j]? = some [ts a[j]] := by simp [hja]
      have gb : (rS b)[j]? = some [ts b[j]] := by simp [hjb]
      simp only [ga, gb, Int.natCast_nonneg, r_cons, r_nil, r_kont, r_seq1, r_seq3, r_blk1, r_blk3, r_fn2, r_sk, r_rg, r_sq, r_rt, r_cd, r_cd2, r_op1, r_go1, r_mv, r_bi, r_add0, r_nes, r_op3, r_ixn, r_ia, r_iae, r_ia1, r_ltr, r_ld, r_ld1, r_fin, r_kfe1, r_kcx, r_exps0, r_exps1, r_kex, r_exp1, r_expv2, r_fgt, r_clean, r_okm4, r_okE0, r_okE1, r_okL0, r_round1, r_round3, r_lt1, ptd, lk, pt, xv, kv, kc, ↓reduceIte, Nat.reduceEqDiff, reduceCtorEq, List.length_cons, List.length_nil, Nat.reduceLT, true_and, and_true, decide_eq_true_eq, List.getElem?_cons_zero, memB, keepB, keepOB, Bool.false_eq_true, Int.toNat_natCast, Nat.zero_add, Int.natCast_nonneg, ne_eq, and_self]
      split
      · rename_i hne
        have : ¬ a = b := list_ne_at hja hjb (by simpa using hne)
        simp [this]
      · rename_i he
        refine ⟨by rw [fits_i64]; omega, cntJ_intro () hja rfl (take_succ_eq hja hjb hA (by simpa using he))⟩
    · rename_i hge
      have : j = a.length := by omega
      subst this
      have : a = b := list_eq_all hlen hA
      simp [this]

/-! ## a new slice, filled element by element -/
/-- The first j elements, the rest zero. -/
def filled {α : Type} (c : α → List Tr) (z : List Tr) (a : List α) (j : Nat) : Row := (a.take j).map c ++ List.replicate (a.length - j) z
theorem filled_zero {α : Type} (c : α → List Tr) (z : List Tr) (a : List α) : filled c z a 0 = List.replicate a.length z := by simp [filled]
theorem filled_all {α : Type} (c : α → List Tr) (z : List Tr) (a : List α) : filled c z a a.length = a.map c := by simp [filled]
theorem filled_length {α : Type} {c : α → List Tr} {z : List Tr} {a : List α} {j : Nat} (h : j ≤ a.length) : (filled c z a j).length = a.length := by
  simp [filled]; omega
theorem filled_get {α : Type} {c : α → List Tr} {z : List Tr} {a : List α} {j : Nat} (h : j < a.length) : (filled c z a j)[j]? = some z := by
  unfold filled
  have h1 : ((a.take j).map c).length = j := by rw [List.length_map, List.length_take]; omega
  rw [List.getElem?_append_right (by omega), h1, Nat.sub_self, List.getElem?_replicate]
  rw [if_pos (by omega)]
theorem filled_set {α : Type} {c : α → List Tr} {z e : List Tr} {a : List α} {j : Nat} (h : j < a.length) (he : e = c a[j]) : (filled c z a j).set j e = filled c z a (j + 1) := by
  subst he
  unfold filled
  have h1 : ((a.take j).map c).length = j := by simp; omega
  rw [List.set_append_right _ _ (by omega), h1, Nat.sub_self, show a.length - j = (a.length - (j + 1)) + 1 from by omega, List.replicate_succ, List.set_cons_zero, List.take_succ_eq_append_getElem h, List.map_append]
  simp
def toS1 (z : Value) : F2 :=
  { nt := 22, res := [.t 2 [2]], body :=
   (.sq (.rg none [⟨some 2, none, .mv (.k (.slice none 0 0)) none⟩])
   (.sq (.rg none [⟨some 5, none, .mv (.t 0) none⟩,
      ⟨some 6, none, .ln (.t 5)⟩,
      ⟨some 7, none, .ms 1 [z] (.t 6)⟩,
      ⟨some 3, none, .mv (.t 7) none⟩])
   (.sq (.sq (.rg none [⟨some 4, none, .mv (.k (.int .i64 0)) none⟩])
    (.bl 0 (.lp [0, 3, 4] [224] (.sq (.sq (.rg none [⟨some 8, none, .mv (.t 4) none⟩,
          ⟨some 9, none, .mv (.t 0) none⟩,
          ⟨some 10, none, .ln (.t 9)⟩,
          ⟨some 11, none, .bi .lss 0 (.t 8) (.t 10)⟩])
       (.cd (.t 11) (.sk)
       (.ex 0)))
      (.sq (.bl 1 (.rg none [⟨some 14, none, .mv (.t 3) none⟩,
          ⟨some 15, none, .mv (.t 4) none⟩,
          ⟨some 16, none, .mv (.t 0) none⟩,
          ⟨some 17, none, .mv (.t 4) none⟩,
          ⟨some 18, none, .ia 1 (.t 16) (.t 17)⟩,
          ⟨some 19, none, .ld none (.t 18)⟩,
          ⟨some 20, none, .ia 1 (.t 14) (.t 15)⟩,
          ⟨none, none, .st 1 (.t 20) (.t 19)⟩]))
      (.rg none [⟨some 12, none, .mv (.t 4) none⟩,
        ⟨some 13, none, .bi .add 0 (.t 12) (.k (.int .i64 1))⟩,
        ⟨some 4, none, .mv (.t 13) none⟩]))))))
   (.sq (.rg none [⟨some 21, none, .mv (.t 3) none⟩,
      ⟨some 2, none, .mv (.t 21) none⟩])
   (.rt))))) }
theorem sem_toI {P : Program} {fid : FuncId} (hc : chkF P fid (toS1 (.int .i64 0)) = true) (a : List Int) (ha : a.length ≤ 4294967296) (lvl : Nat) (S : Sto) : Sem P fid lvl [tI a] S (.ow 1 (rI a) true) S := by
  refine sem_of_chk hc trivial ?_
  simp only [toS1, List.length_map, bigN, Int.natCast_nonneg, r_cons, r_nil, r_kont, r_seq1, r_rg, r_sq, r_bl, r_wpF, r_op1, r_go1, r_mv, r_ms, r_ms1, r_ln, r_ln1, r_lt1, bigN, ptd, keyOf, freshK, lk, pt, lkO, ptO, xv, kv, kc, params, trv, ↓reduceIte, Nat.reduceEqDiff, Nat.reduceMul, reduceCtorEq, List.length_cons, List.length_nil, Nat.reduceLeDiff, Nat.reduceLT, true_and, List.map_cons, List.map_nil, Int.toNat_natCast, Nat.zero_add, Int.natCast_nonneg, List.length_map, and_self, Int.cast_ofNat_Int]
  refine ⟨by omega, ?_⟩
  refine wp_count (α := Unit) a.length (fun j _ => ⟨lvl, [(0, tI a), (3, .hd (lvl, 224) [] 0 a.length none a.length), (4, iI j)], [(224, .ar 1 (filled (fun n => [tv n]) [tv 0] a j) true a.length 0)], S⟩) (fun _ _ => True) () ⟨by simp only [r_clean, r_okm1, r_okm4, r_okE0, r_okE1, r_okL0, r_okL2, ↓reduceIte, Nat.reduceEqDiff, reduceCtorEq, memB, keepB, keepOB, Bool.false_eq_true, and_self], by (simp only [filled_zero, r_fgt, ↓reduceIte, Nat.reduceEqDiff, reduceCtorEq, memB, keepB, keepOB, Bool.false_eq_true, Int.cast_ofNat_Int]) <;> rfl⟩ trivial ?_
  intro j _ hj _
  simp only [List.length_map, r_cons, r_nil, r_kont, r_seq1, r_seq2, r_blk2, r_fn2, r_sk, r_rg, r_sq, r_bl, r_ex, r_rt, r_cd, r_cd2, r_op1, r_go1, r_mv, r_bi, r_lti, r_ln, r_ln1, r_ixn, r_ia, r_ia1, r_kill, r_fin, r_kfe1, r_kcx, r_exps0, r_exps1, r_kex, r_exp1, r_expv4, r_expc7, r_exh1, r_round2, r_lt1, ptd, lk, pt, lkO, xv, ↓reduceIte, Nat.reduceEqDiff, reduceCtorEq, Nat.reduceLT, true_and, and_true, decide_eq_true_eq, List.headD_cons, scrE, scrL, scr, rmO, Int.toNat_natCast, Int.natCast_nonneg, List.length_map]
  split
  · rename_i hlt
    have hja : j < a.length := by omega
    have ga : (rI a)[j]? = some [tv a[j]] := by simp [hja]
    have gz : (filled (fun n => [tv n]) [tv 0] a j)[j]? = some [tv 0] := filled_get hja
    simp only [ga, gz, Int.natCast_nonneg, hja, setp, List.set_cons_zero, r_setOb, r_cons, r_nil, r_kont, r_seq1, r_blk1, r_rg, r_op1, r_go1, r_mv, r_bi, r_add0, r_op3, r_ixn, r_ia, r_iae, r_rde, r_rd3, r_stamp0, r_iah, r_iah2, r_ia3, r_pack, r_setOb, r_ltr, r_ld, r_ld1, r_fgt, r_clean, r_okm1, r_okm4, r_okE0, r_okE1, r_okL0, r_okL2, r_round1, r_st, r_st2, r_kst, r_stcs0, r_stcs1, r_sc1, r_sc3, r_sc4, r_sc2, r_lt1, ptd, lk, pt, lkO, ptO, xv, kv, kc, ↓reduceIte, Nat.reduceEqDiff, reduceCtorEq, List.length_cons, List.length_nil, Nat.reduceLT, true_and, List.getElem?_cons_zero, isSc, memB, keepB, keepOB, Bool.false_eq_true, Int.toNat_natCast, isCell, cellsOf, getp, Nat.zero_add, List.set_cons_zero, Int.natCast_nonneg, and_self]
    refine ⟨by rw [fits_i64]; omega, cntJ_intro () hja ?_ trivial⟩
    rw [filled_set hja rfl]
    rfl
  · rename_i hge
    have : j = a.length := by omega
    subst this
    rw [filled_all]
    simp
theorem sem_toS {P : Program} {fid : FuncId} (hc : chkF P fid (toS1 (.string ⟨#[]⟩)) = true) (a : List ByteArray) (ha : a.length ≤ 4294967296) (lvl : Nat) (S : Sto) : Sem P fid lvl [tS a] S (.ow 1 (rS a) true) S := by
  refine sem_of_chk hc trivial ?_
  simp only [toS1, List.length_map, bigN, Int.natCast_nonneg, r_cons, r_nil, r_kont, r_seq1, r_rg, r_sq, r_bl, r_wpF, r_op1, r_go1, r_mv, r_ms, r_ms1, r_ln, r_ln1, r_lt1, bigN, ptd, keyOf, freshK, lk, pt, lkO, ptO, xv, kv, kc, params, trv, ↓reduceIte, Nat.reduceEqDiff, Nat.reduceMul, reduceCtorEq, List.length_cons, List.length_nil, Nat.reduceLeDiff, Nat.reduceLT, true_and, List.map_cons, List.map_nil, Int.toNat_natCast, Nat.zero_add, Int.natCast_nonneg, List.length_map, and_self, Int.cast_ofNat_Int]
  refine ⟨by omega, ?_⟩
  refine wp_count (α := Unit) a.length (fun j _ => ⟨lvl, [(0, tS a), (3, .hd (lvl, 224) [] 0 a.length none a.length), (4, iI j)], [(224, .ar 1 (filled (fun n => [ts n]) [ts ⟨#[]⟩] a j) true a.length 0)], S⟩) (fun _ _ => True) () ⟨by simp only [r_clean, r_okm1, r_okm4, r_okE0, r_okE1, r_okL0, r_okL2, ↓reduceIte, Nat.reduceEqDiff, reduceCtorEq, memB, keepB, keepOB, Bool.false_eq_true, and_self], by (simp only [filled_zero, r_fgt, ↓reduceIte, Nat.reduceEqDiff, reduceCtorEq, memB, keepB, keepOB, Bool.false_eq_true, Int.cast_ofNat_Int]) <;> rfl⟩ trivial ?_
  intro j _ hj _
  simp only [List.length_map, r_cons, r_nil, r_kont, r_seq1, r_seq2, r_blk2, r_fn2, r_sk, r_rg, r_sq, r_bl, r_ex, r_rt, r_cd, r_cd2, r_op1, r_go1, r_mv, r_bi, r_lti, r_ln, r_ln1, r_ixn, r_ia, r_ia1, r_kill, r_fin, r_kfe1, r_kcx, r_exps0, r_exps1, r_kex, r_exp1, r_expv4, r_expc7, r_exh1, r_round2, r_lt1, ptd, lk, pt, lkO, xv, ↓reduceIte, Nat.reduceEqDiff, reduceCtorEq, Nat.reduceLT, true_and, and_true, decide_eq_true_eq, List.headD_cons, scrE, scrL, scr, rmO, Int.toNat_natCast, Int.natCast_nonneg, List.length_map]
  split
  · rename_i hlt
    have hja : j < a.length := by omega
    have ga : (rS a)[j]? = some [ts a[j]] := by simp [hja]
    have gz : (filled (fun n => [ts n]) [ts ⟨#[]⟩] a j)[j]? = some [ts ⟨#[]⟩] := filled_get hja
    simp only [ga, gz, Int.natCast_nonneg, hja, setp, List.set_cons_zero, r_setOb, r_cons, r_nil, r_kont, r_seq1, r_blk1, r_rg, r_op1, r_go1, r_mv, r_bi, r_add0, r_op3, r_ixn, r_ia, r_iae, r_rde, r_rd3, r_stamp0, r_iah, r_iah2, r_ia3, r_pack, r_setOb, r_ltr, r_ld, r_ld1, r_fgt, r_clean, r_okm1, r_okm4, r_okE0, r_okE1, r_okL0, r_okL2, r_round1, r_st, r_st2, r_kst, r_stcs0, r_stcs1, r_sc1, r_sc3, r_sc4, r_sc2, r_lt1, ptd, lk, pt, lkO, ptO, xv, kv, kc, ↓reduceIte, Nat.reduceEqDiff, reduceCtorEq, List.length_cons, List.length_nil, Nat.reduceLT, true_and, List.getElem?_cons_zero, isSc, memB, keepB, keepOB, Bool.false_eq_true, Int.toNat_natCast, isCell, cellsOf, getp, Nat.zero_add, List.set_cons_zero, Int.natCast_nonneg, and_self]
    refine ⟨by rw [fits_i64]; omega, cntJ_intro () hja ?_ trivial⟩
    rw [filled_set hja rfl]
    rfl
  · rename_i hge
    have : j = a.length := by omega
    subst this
    rw [filled_all]
    simp
end Go.Fd

/-
  THE LAWS' HELPERS AT SLICES WHOSE ELEMENTS ARE ONE CELL. Own work.
-/
namespace Go.Fd
set_option maxRecDepth 10000
end Go.Fd

/-
  FOUNDATION 49: rows at a path; functions that mark what they are handed. Own work.
-/
namespace Go.Fd

/-! ## marking -/
section mark
variable {α : Type} (m : α → Int → α) (n : α → Nat)
end mark
end Go.Fd

/-
  HOW MANY MARKS A THING TAKES, AGAINST ITS SIZE. Own work.
-/
namespace Go.Fd
/-- On, if something is left. -/
def szTh (l : Int) (g : Int → Int) : Int := if l < 0 then -1 else g l
end Go.Fd

/-
  THE DATA OF THE LAWS: plain types, how they lie in memory (printed by lawgen.py). Own work.
-/
namespace Go.Fd
set_option maxRecDepth 10000
structure TNode where
  control : Int
  parent : Int
  links : (List Int)
  deriving DecidableEq
def cNode (x : TNode) : List Tr := [tv x.control, tv x.parent, .sl (rI x.links)]
theorem cNode_len (x : TNode) : (cNode x).length = 3 := rfl
def oNode (x : TNode) : IV := .ag [iI x.control, iI x.parent, .ow 1 (rI x.links) true]
def bdNode (n : Nat) (x : TNode) : Prop := x.links.length ≤ n
def ftNode (x : TNode) : Prop := fits .i64 x.control ∧ fits .i64 x.parent ∧ (∀ y ∈ x.links, fits .i64 y)
def szNode (x : TNode) (l : Int) : Int := szTh (szN x.links.length l) fun l => l
structure TWire where
  name : ByteArray
  link : Int
  deriving DecidableEq
def cWire (x : TWire) : List Tr := [ts x.name, tv x.link]
theorem cWire_len (x : TWire) : (cWire x).length = 2 := rfl
def oWire (x : TWire) : IV := .ag [iS x.name, iI x.link]
def bdWire (n : Nat) (x : TWire) : Prop := x.name.size ≤ n
def ftWire (x : TWire) : Prop := fits .i64 x.link
def szWire (x : TWire) (l : Int) : Int := szTh (l - x.name.size) fun l => l
structure TBigraph where
  roots : Int
  nodes : (List TNode)
  sites : (List Int)
  edges : Int
  outer : (List ByteArray)
  inner : (List TWire)
  deriving DecidableEq
def cBigraph (x : TBigraph) : List Tr := [tv x.roots, .sl (x.nodes.map cNode), .sl (rI x.sites), tv x.edges, .sl (rS x.outer), .sl (x.inner.map cWire)]
def oBigraph (x : TBigraph) : IV := .ag [iI x.roots, .ow 3 (x.nodes.map cNode) true, .ow 1 (rI x.sites) true, iI x.edges, .ow 1 (rS x.outer) true, .ow 2 (x.inner.map cWire) true]
def bdBigraph (n : Nat) (x : TBigraph) : Prop := x.nodes.length ≤ n ∧ (∀ y ∈ x.nodes, bdNode n y) ∧ x.sites.length ≤ n ∧ x.outer.length ≤ n ∧ (∀ y ∈ x.outer, y.size ≤ n) ∧ x.inner.length ≤ n ∧ (∀ y ∈ x.inner, bdWire n y)
def ftBigraph (x : TBigraph) : Prop := fits .i64 x.roots ∧ (∀ y ∈ x.nodes, ftNode y) ∧ (∀ y ∈ x.sites, fits .i64 y) ∧ fits .i64 x.edges ∧ (∀ y ∈ x.inner, ftWire y)
def szBigraph (x : TBigraph) (l : Int) : Int := szTh (szL szNode x.nodes l) fun l => szTh (szN x.sites.length l) fun l => szTh (szL (fun x m => m - x.size) x.outer l) fun l => szTh (szL szWire x.inner l) fun l => l
structure TRule where
  redex : TBigraph
  reactum : TBigraph
  copies : (List Int)
  deriving DecidableEq
def cRule (x : TRule) : List Tr := [tv x.redex.roots, .sl (x.redex.nodes.map cNode), .sl (rI x.redex.sites), tv x.redex.edges, .sl (rS x.redex.outer), .sl (x.redex.inner.map cWire), tv x.reactum.roots, .sl (x.reactum.nodes.map cNode), .sl (rI x.reactum.sites), tv x.reactum.edges, .sl (rS x.reactum.outer), .sl (x.reactum.inner.map cWire), .sl (rI x.copies)]
def oRule (x : TRule) : IV := .ag [iI x.redex.roots, .tr (.sl (x.redex.nodes.map cNode)), .tr (.sl (rI x.redex.sites)), iI x.redex.edges, .tr (.sl (rS x.redex.outer)), .tr (.sl (x.redex.inner.map cWire)), iI x.reactum.roots, .tr (.sl (x.reactum.nodes.map cNode)), .tr (.sl (rI x.reactum.sites)), iI x.reactum.edges, .tr (.sl (rS x.reactum.outer)), .tr (.sl (x.reactum.inner.map cWire)), .ow 1 (rI x.copies) true]
def bdRule (n : Nat) (x : TRule) : Prop := bdBigraph n x.redex ∧ bdBigraph n x.reactum ∧ x.copies.length ≤ n
def ftRule (x : TRule) : Prop := ftBigraph x.redex ∧ ftBigraph x.reactum ∧ (∀ y ∈ x.copies, fits .i64 y)
def szRule (x : TRule) (l : Int) : Int := szTh (szBigraph x.redex l) fun l => szTh (szBigraph x.reactum l) fun l => szTh (szN x.copies.length l) fun l => l
structure TControl where
  name : ByteArray
  ports : Int
  kind_ : Int
  deriving DecidableEq
def cControl (x : TControl) : List Tr := [ts x.name, tv x.ports, tv x.kind_]
theorem cControl_len (x : TControl) : (cControl x).length = 3 := rfl
def oControl (x : TControl) : IV := .ag [iS x.name, iI x.ports, iI x.kind_]
def bdControl (n : Nat) (x : TControl) : Prop := x.name.size ≤ n
def ftControl (x : TControl) : Prop := fits .i64 x.ports ∧ fits .i64 x.kind_
def szControl (x : TControl) (l : Int) : Int := szTh (l - x.name.size) fun l => l
end Go.Fd

/-
  The numbers of the functions of this program, by name (printed by ids.py).
-/
namespace Go.Fd
abbrev fid_laws_FnExactIsRule : FuncId := 4
abbrev fid_laws_szControlS : FuncId := 5
abbrev fid_laws_szBigraph : FuncId := 6
abbrev fid_laws_toControlS : FuncId := 8
abbrev fid_laws_toBigraph : FuncId := 9
abbrev fid_laws_eqControlS : FuncId := 11
abbrev fid_laws_eqBigraph : FuncId := 12
abbrev fid_laws_szRule : FuncId := 13
abbrev fid_spec_IsRule : FuncId := 14
abbrev fid_laws_toRule : FuncId := 15
abbrev fid_impl_IsRule : FuncId := 16
abbrev fid_laws_eqRule : FuncId := 17
abbrev fid_laws_szControl : FuncId := 18
abbrev fid_laws_szNodeS : FuncId := 19
abbrev fid_laws_szIntS : FuncId := 20
abbrev fid_laws_szStringS : FuncId := 21
abbrev fid_laws_szWireS : FuncId := 22
abbrev fid_spec_l2Good : FuncId := 23
abbrev fid_spec_l8Solid : FuncId := 24
abbrev fid_laws_toControl : FuncId := 25
abbrev fid_laws_toNodeS : FuncId := 26
abbrev fid_laws_toIntS : FuncId := 27
abbrev fid_laws_toStringS : FuncId := 28
abbrev fid_laws_toWireS : FuncId := 29
abbrev fid_impl_IsBigraph : FuncId := 30
abbrev fid_impl_isRedex : FuncId := 31
abbrev fid_laws_eqControl : FuncId := 32
abbrev fid_laws_eqNodeS : FuncId := 33
abbrev fid_laws_eqIntS : FuncId := 34
abbrev fid_laws_eqStringS : FuncId := 35
abbrev fid_laws_eqWireS : FuncId := 36
abbrev fid_spec_l9Good : FuncId := 37
abbrev fid_impl_areTwo : FuncId := 38
abbrev fid_slices_Equal_string_string : FuncId := 39
abbrev fid_slices_ContainsFunc_int_int : FuncId := 40
abbrev fid_impl_IsRule_1 : FuncId := 41
abbrev fid_impl_within : FuncId := 42
abbrev fid_laws_szNode : FuncId := 43
abbrev fid_laws_szWire : FuncId := 44
abbrev fid_spec_l2Sig : FuncId := 45
abbrev fid_spec_l1In : FuncId := 46
abbrev fid_spec_l2Names : FuncId := 47
abbrev fid_spec_l2Inner : FuncId := 48
abbrev fid_spec_l2Node : FuncId := 49
abbrev fid_spec_l2Under : FuncId := 50
abbrev fid_spec_l2Link : FuncId := 51
abbrev fid_spec_l2Kids : FuncId := 52
abbrev fid_spec_l2Holes : FuncId := 53
abbrev fid_spec_l2Idle : FuncId := 54
abbrev fid_laws_toNode : FuncId := 55
abbrev fid_laws_toWire : FuncId := 56
abbrev fid_impl_IsSignature : FuncId := 57
abbrev fid_impl_areNames : FuncId := 58
abbrev fid_impl_Bigraph_innerNames : FuncId := 59
abbrev fid_impl_Bigraph_isParent : FuncId := 60
abbrev fid_impl_IsBigraph_1 : FuncId := 61
abbrev fid_impl_Bigraph_isLink : FuncId := 62
abbrev fid_impl_IsBigraph_2 : FuncId := 63
abbrev fid_slices_ContainsFunc_impl_Wire_impl_Wire : FuncId := 64
abbrev fid_impl_IsBigraph_3 : FuncId := 65
abbrev fid_impl_Bigraph_childrenOf : FuncId := 66
abbrev fid_impl_Bigraph_isIdle : FuncId := 67
abbrev fid_laws_eqNode : FuncId := 68
abbrev fid_laws_eqWire : FuncId := 69
abbrev fid_spec_l8Redex : FuncId := 70
abbrev fid_spec_l3SameNames : FuncId := 71
abbrev fid_spec_l9Copies : FuncId := 72
abbrev fid_slices_IndexFunc_int_int : FuncId := 73
abbrev fid_spec_l2Name : FuncId := 74
abbrev fid_spec_l2Ports : FuncId := 75
abbrev fid_spec_l2Ends : FuncId := 76
abbrev fid_impl_isName : FuncId := 77
abbrev fid_slices_ContainsFunc_impl_Control_impl_Control : FuncId := 78
abbrev fid_impl_IsSignature_1 : FuncId := 79
abbrev fid_slices_IndexFunc_impl_Wire_impl_Wire : FuncId := 80
abbrev fid_impl_Bigraph_pointsOf : FuncId := 81
abbrev fid_strings_Trim : FuncId := 82
abbrev fid_slices_IndexFunc_impl_Control_impl_Control : FuncId := 83
end Go.Fd
