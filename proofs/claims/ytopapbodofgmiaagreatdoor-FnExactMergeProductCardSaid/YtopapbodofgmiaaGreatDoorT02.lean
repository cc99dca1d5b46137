/-
  FOUNDATION 27: append: the objects. Own work.
-/
import Derived.Test.YtopapbodofgmiaaGreatDoorT01
import Derived.Laws.BytesArg
import Derived.Lib.SliceRun
set_option linter.all false
namespace Go.Fd
theorem ZeN {es items es2 : Row} {i f : Nat} {q : Pth} : getp (es ++ items) ((i, f) :: q) = some es2 ↔ (if i < es.length then getp es ((i, f) :: q) = some es2 else getp items ((i - es.length, f) :: q) = some es2) := by
 by_cases hi : i < es.length
 ·rw [if_pos hi]
  simp only [getp, List.getElem?_append_left hi]
 ·rw [if_neg hi]
  simp only [getp, List.getElem?_append_right (Nat.le_of_not_lt hi)]
section
variable {P : Program} {F : Fr} {G G' : Gh} {S S' : Sto} {st st1 st2 : St} {a : Act} {w w' : World} {C : Zt} {oper : Oper} {D D2 : Oid -> Prop}
theorem ZhT (h : Sim F G st a w) (kl : Kl D st st1) {id : Oid} {d : Option Nat} {k : Nat} {es items : Row} {u : Bool} {hw ver b' c' : Nat} {vs : Array Value} {ty : TypeId} {N : Pth -> Option (Nat × Nat)}
  (hs : st.sto id = some (.ar k es u hw ver)) (hnd : ¬ D id) (hd : ∀ y, d = some y -> y < F.nt) (size : w.heap.size <= w'.heap.size)
  (heap : ∀ blk, blk < w.heap.size -> (∀ c, G id [] ≠ some (blk, c)) -> w'.heap[blk]? = w.heap[blk]?) (hos : w'.os = w.os) (htape : w'.tape = w.tape) (houtp : w'.output = w.output)
  (hb' : G id [] = some (b', c') \/ w.heap.size <= b') (hsame : max hw (es.length + items.length) = hw -> G id [] = some (b', c'))
  (hh : w'.heap[b']? = some (.cells vs ty (0, 0))) (hsz : vs.size = c' * k) (hc : max hw (es.length + items.length) <= c') (hk : UnR k items)
  (hold : ∀ (i : Nat) (e : List Tr) (f : Nat) (t : Tr), es[i]? = some e -> e[f]? = some t -> ∃ x, vs[i * k + f]? = some x /\ Yk G w (Av G st.sto w) id [] u i f x t)
  (hnew : ∀ (i : Nat) (e : List Tr) (f : Nat) (t : Tr), items[i]? = some e -> e[f]? = some t -> ∃ x, vs[(es.length + i) * k + f]? = some x /\ Yk (fun _ => N) w (Av G st1.sto w) (0, 0) [] u i f x t)
  (hsub : u = true -> ∀ (i f : Nat) (e : List Tr) (zs : Row) (q : Pth) (es2 : Row), items[i]? = some e -> e[f]? = some (.sl zs) -> getp zs q = some es2 -> Xb (fun _ => N) w (fun _ => False) (0, 0) ((i, f) :: q) k u es2)
  (hsrc : u = true -> ∀ p b1 c1, p ≠ [] -> (getp items p).isSome = true -> N p = some (b1, c1) -> ∃ j ob, D j /\ st.sto j = some ob /\ Y4 G j ob b1)
  (hinj : u = true -> ∀ p p' b1 c1 c2, p ≠ [] -> p' ≠ [] -> (getp items p).isSome = true -> (getp items p').isSome = true -> N p = some (b1, c1) -> N p' = some (b1, c2) -> p = p') :
  ∃ G', Sim F G' { ZA st1 id (.ar k (es ++ items) u (max hw (es.length + items.length)) ver) with env := ptd d (.hd id [] 0 (es.length + items.length) none (max hw (es.length + items.length))) st1.env }
   (a.put d (.slice (some ⟨b', 0, none⟩) (es.length + items.length) c')) w' := by
 let g : Pth -> Option (Nat × Nat) := fun p => match p with
  | [] => some (b', c')
  | (i, f) :: q => if i < es.length then G id ((i, f) :: q) else N ((i - es.length, f) :: q)
 let G' : Gh := fun j => if j = id then g else G j
 have hGi : G' id = g := by simp [G']
 have hG0 : G' id [] = some (b', c') := by rw [hGi]
 have hGo : ∀ j, j ≠ id -> G' j = G j := fun j hj => by simp [G', hj]
 have hob := h.ok.obs _ _ hs
 obtain ⟨o1, o2, o3, o4, o5⟩ := hob
 have hgo : ∀ {i f : Nat} {q : Pth}, i < es.length -> g ((i, f) :: q) = G id ((i, f) :: q) := fun hi => by simp [g, hi]
 have hgn : ∀ {i f : Nat} {q : Pth}, g ((es.length + i, f) :: q) = N ((i, f) :: q) := fun {i f q} => by
  show (if es.length + i < es.length then _ else _) = _
  rw [if_neg (by omega), Nat.add_sub_cancel_left]
 have hun : UnR k (es ++ items) := fun e he => by
  rcases List.mem_append.1 he with he | he
  ·exact o2 e he
  ·exact hk e he
 have split : ∀ {p : Pth} {b1 c1 : Nat}, p ≠ [] -> (getp (es ++ items) p).isSome = true -> g p = some (b1, c1) ->
   ((getp es p).isSome = true /\ G id p = some (b1, c1) /\ ∃ i f q, p = (i, f) :: q /\ i < es.length) \/ (∃ i f q, p = (es.length + i, f) :: q /\ (getp items ((i, f) :: q)).isSome = true /\ N ((i, f) :: q) = some (b1, c1)) := by
  intro p b1 c1 hp hss hg
  cases p with
  | nil => exact absurd rfl hp
  | cons cd q =>
   obtain ⟨i, f⟩ := cd
   obtain ⟨es2, he2⟩ := Option.isSome_iff_exists.1 hss
   rw [ZeN] at he2
   by_cases hi : i < es.length
   ·rw [if_pos hi] at he2
    rw [hgo hi] at hg
    exact .inl ⟨by rw [he2]; rfl, hg, i, f, q, rfl, hi⟩
   ·rw [if_neg hi] at he2
    obtain ⟨m, rfl⟩ : ∃ m, i = es.length + m := ⟨i - es.length, by omega⟩
    rw [hgn] at hg
    rw [show es.length + m - es.length = m from by omega] at he2
    exact .inr ⟨m, f, q, rfl, by rw [he2]; rfl, hg⟩
 have hlt : ∀ {j : Oid} {ob : Ob} {b1 : Nat}, st.sto j = some ob -> Y4 G j ob b1 -> b1 < w.heap.size := fun h1 h2 => Vy (h.ok.obs _ _ h1) h2
 have hav : u = false -> ∀ b, Av G st1.sto w b -> Av G' (ZZ st1.sto id (.ar k (es ++ items) false (max hw (es.length + items.length)) ver)) w' b := fun hu b hb => ⟨Nat.lt_of_lt_of_le hb.1 size, fun j ob hj ho => by
  unfold ZZ at hj
  split at hj
  ·rename_i hji
   cases hj
   obtain ⟨p, c1, hp, _, hg⟩ := ho
   have hp0 : p = [] := by
     rcases hp with h | h; · exact h
     ·cases h
   subst hp0
   rw [hji, hG0] at hg
   cases hg
   rcases hb' with hb' | hb'
   ·obtain ⟨ob1, k1, k2⟩ := kl.live id _ hnd hs
    exact hb.2 id ob1 k1 (k2.own.2 ⟨[], _, .inl rfl, rfl, hb'⟩)
   ·have := hb.1; omega
  ·rename_i hji
   exact hb.2 j ob hj ((VU (hGo j hji)).1 ho)⟩
 refine ⟨G', (h.turn kl (id := id) (ob' := .ar k (es ++ items) u (max hw (es.length + items.length)) ver) (d := d) (G' := G') (w' := w') hnd (.inr (by rw [hs]; rfl)) hGo size (fun blk hb hn => heap blk hb fun c hg => hn _ hs ⟨[], c, .inl rfl, rfl, hg⟩) (fun blk ho => ?_) (fun ob ho => ?_) hos htape houtp (fun t => ?_) (fun _ he => by cases he) hd (fun t => ?_)).1⟩
 ·obtain ⟨p, c1, hp, hss, hg⟩ := ho
  rw [hGi] at hg
  by_cases hp0 : p = []
  ·subst hp0
   have : g [] = some (b', c') := rfl
   rw [this] at hg; cases hg
   rcases hb' with hb' | hb'
   ·exact .inl ⟨id, _, .inl rfl, hs, [], _, .inl rfl, rfl, hb'⟩
   ·exact .inr hb'
  ·rcases split hp0 hss hg with ⟨r1, r2, _⟩ | ⟨i, f, q, rfl, r1, r2⟩
   ·exact .inl ⟨id, _, .inl rfl, hs, p, c1, hp, r1, r2⟩
   ·obtain ⟨j, ob, k1, k2, k3⟩ := hsrc (hp.resolve_left hp0) _ blk c1 (by simp) r1 r2
    exact .inl ⟨j, ob, .inr k1, k2, k3⟩
 ·rw [hs] at ho; cases ho
  refine ⟨rfl, Nat.le_max_left _ _, Nat.le_refl _, fun p s hbd hst => ?_⟩
  cases p with
  | nil =>
   have hs1 : s <= hw := hbd
   have hs2 : s = max hw (es.length + items.length) := hst
   have hm : max hw (es.length + items.length) = hw := by have := Nat.le_max_left hw (es.length + items.length); omega
   refine ⟨by show s = hw; omega, fun es1 he => ⟨by rw [hG0, hsame hm], _, rfl, fun k' hkk hk' e he' => ?_⟩⟩
   simp only [getp, Option.some.injEq] at he
   subst he
   rcases List.mem_append.1 he' with he' | he'
   ·exact hk' e he'
   ·rw [hkk rfl]; exact hk e he'
  | cons cd q =>
   obtain ⟨i, f⟩ := cd
   refine ⟨hst, fun es1 he => ?_⟩
   have hi : i < es.length := by
    obtain ⟨e, zs, g1, _, _⟩ := JT he
    exact (List.getElem?_eq_some_iff.1 g1).1
   exact ⟨by rw [hGi]; exact hgo hi, es1, by rw [ZeN, if_pos hi]; exact he, fun _ _ h => h⟩
 ·refine Zjt hG0 hh hsz (by rw [List.length_append]; exact Nat.le_max_right _ _) hc hun (fun i e0 f t0 hi hf => ?_) (fun hu i f e0 zs q es2 hi hf hq => ?_) (fun hu p p' b1 c1 c2 hp hp' h1 h2 g1 g2 => ?_) (fun hu p c1 hp h1 hg => ?_)
  ·by_cases hil : i < es.length
   ·rw [List.getElem?_append_left hil] at hi
    obtain ⟨x, hx, hr⟩ := hold i e0 f t0 hi hf
    exact ⟨x, hx, Ud (p := []) (fun _ => by rw [hGi]; exact hgo hil) (fun _ => t.av) t.same hr⟩
   ·obtain ⟨m, rfl⟩ : ∃ m, i = es.length + m := ⟨i - es.length, by omega⟩
    rw [List.getElem?_append_right (by omega), show es.length + m - es.length = m from by omega] at hi
    obtain ⟨x, hx, hr⟩ := hnew m e0 f t0 hi hf
    refine ⟨x, hx, ?_⟩
    cases t0 with
    | v y => exact hr
    | sl zs =>
     simp only [Yk] at hr ⊢
     split
     ·rename_i hu
      rw [if_pos hu] at hr
      simp only [List.nil_append] at hr ⊢
      rw [hGi, hgn]
      exact hr
     ·rename_i hu
      rw [if_neg hu] at hr
      have hu : u = false := by simpa using hu
      subst hu
      refine Rds.mono (hav rfl) (fun b hb => heap b hb.1 fun c hg => ?_) hr
      obtain ⟨ob1, k1, k2⟩ := kl.live id _ hnd hs
      exact hb.2 id ob1 k1 (k2.own.2 ⟨[], c, .inl rfl, rfl, hg⟩)
  ·by_cases hil : i < es.length
   ·rw [List.getElem?_append_left hil] at hi
    have hg0 := XH hi hf hq
    refine Y8 (p := (i, f) :: q) (by rw [hGi]; exact hgo hil) (fun _ r => by rw [hGi]; exact hgo hil) (fun _ => t.av) t.same (fun h => by cases h) (fun b1 c1 hg => heap b1 (hlt hs ⟨_, c1, .inr hu, by rw [hg0]; rfl, hg⟩) fun c2 hg2 => ?_) (o4 _ es2 (.inr hu) hg0)
    have := o5 ((i, f) :: q) [] b1 c1 c2 (.inr hu) (.inl rfl) (by rw [hg0]; rfl) rfl hg hg2
    cases this
   ·obtain ⟨m, rfl⟩ : ∃ m, i = es.length + m := ⟨i - es.length, by omega⟩
    rw [List.getElem?_append_right (by omega), show es.length + m - es.length = m from by omega] at hi
    refine Y8 (G := fun _ => N) (id := (0, 0)) (p := (m, f) :: q) (A := fun _ => False) (by rw [hGi]; exact hgn) (fun _ r => by rw [hGi]; exact hgn) (fun hu2 => by rw [hu] at hu2; cases hu2) (fun b hb => hb.elim) (fun h => by cases h) (fun b1 c1 hg => ?_) (hsub hu m f e0 zs q es2 hi hf hq)
    obtain ⟨j, ob, h1, h2, h3⟩ := hsrc hu ((m, f) :: q) b1 c1 (by simp) (by rw [XH hi hf hq]; rfl) hg
    refine heap b1 (hlt h2 h3) fun c2 hg2 => ?_
    have := h.ok.dis _ _ _ _ b1 h2 hs h3 ⟨[], c2, .inl rfl, rfl, hg2⟩
    subst this
    exact hnd h1
  ·rw [hGi] at g1 g2
   rcases split hp h1 g1 with ⟨r1, r2, i, f, q, rfl, hil⟩ | ⟨i, f, q, rfl, r1, r2⟩ <;> rcases split hp' h2 g2 with ⟨s1, s2, i', f', q', rfl, hil'⟩ | ⟨i', f', q', rfl, s1, s2⟩
   ·exact o5 _ _ b1 c1 c2 (.inr hu) (.inr hu) r1 s1 r2 s2
   ·obtain ⟨j, ob, k1, k2, k3⟩ := hsrc hu _ b1 c2 (by simp) s1 s2
    have := h.ok.dis _ _ _ _ b1 k2 hs k3 ⟨_, c1, .inr hu, r1, r2⟩
    subst this
    exact absurd k1 hnd
   ·obtain ⟨j, ob, k1, k2, k3⟩ := hsrc hu _ b1 c1 (by simp) r1 r2
    have := h.ok.dis _ _ _ _ b1 k2 hs k3 ⟨_, c2, .inr hu, s1, s2⟩
    subst this
    exact absurd k1 hnd
   ·have := hinj hu _ _ b1 c1 c2 (by simp) (by simp) r1 s1 r2 s2
    simp only [List.cons.injEq, Prod.mk.injEq] at this
    rw [this.1.1, this.1.2, this.2]
  ·rw [hGi] at hg
   rcases split hp h1 hg with ⟨r1, r2, i, f, q, rfl, hil⟩ | ⟨i, f, q, rfl, r1, r2⟩
   ·rcases hb' with hb' | hb'
    ·have := o5 _ [] b' c1 c' (.inr hu) (.inl rfl) r1 rfl r2 hb'
     cases this
    ·have := hlt hs ⟨_, c1, .inr hu, r1, r2⟩; omega
   ·obtain ⟨j, ob, k1, k2, k3⟩ := hsrc hu _ b' c1 (by simp) r1 r2
    rcases hb' with hb' | hb'
    ·have := h.ok.dis _ _ _ _ b' k2 hs k3 ⟨[], c', .inl rfl, rfl, hb'⟩
     subst this
     exact hnd k1
    ·have := hlt k2 k3; omega
 ·exact ⟨⟨_, _, rfl, by omega⟩, k, es ++ items, u, _, ver, by unfold ZZ; rw [if_pos rfl], Nat.le_refl _, fun _ => ⟨es ++ items, k, _, c', rfl, fun _ => rfl, hun, rfl, by omega, fun m hm => by simp at hm, fun _ _ => by rw [hG0]; simp [Zci], .inr (.inr ⟨b', c', hG0, by simp, by simp⟩)⟩⟩
end
end Go.Fd

/-
  FOUNDATION 28: append: the run. Own work.
-/
namespace Go.Fd
def FC (w : World) (k n : Nat) (v : Value) (cs : List Value) : Prop :=
 cs.length = n * k /\ ∃ a c, v = .slice a n c /\ ((∃ ad, a = some ad /\ ∀ j u, cs[j]? = some u -> w.cell? (ad.add j) = some u) \/ (a = none /\ cs = []))
section
variable {P : Program} {F : Fr} {G G' : Gh} {S S' : Sto} {st st1 st2 : St} {a : Act} {w w' : World} {C : Zt} {oper : Oper} {D D2 : Oid -> Prop}
theorem ZfS {k n : Nat} {v : Value} {cs : List Value} (h : FC w k n v cs) (hw : w'.heap = w.heap) : (Builtin.firstCells k n v).run P w' = .ok cs.toArray w' := by
 obtain ⟨hl, a, c, rfl, ⟨ad, rfl, hc⟩ | ⟨rfl, rfl⟩⟩ := h
 ·exact run_firstCells_some w' k n ad n c cs hl fun j u hj => by
   have := hc j u hj
   rwa [<- W7 (w' := w') (w := w) (by rw [hw])] at this
 ·exact run_firstCells_none w' k n n c
theorem Rds.one {A : Nat -> Prop} {x : Value} {t : Tr} (h : Rds w A x t) : x.oneCell' = true := by
 cases h with
 | v x h => cases x <;> first | rfl | simp [UU] at h
 | nil => rfl
 | sl => rfl
theorem Rds.fc {A : Nat -> Prop} {v : Value} {es : Row} {k : Nat} (h : Rds w A v (.sl es)) (hk0 : 0 < k) (hk : UnR k es) :
  ∃ cs, FC w k es.length v cs /\ ∀ (i : Nat) (e : List Tr) (f : Nat) (t : Tr), es[i]? = some e -> e[f]? = some t -> ∃ x, cs[i * k + f]? = some x /\ Rds w A x t := by
 generalize ht : Tr.sl es = t at h
 cases h with
 | v x h => cases ht
 | nil a c =>
  cases ht
  refine ⟨[], ⟨by simp, a, c, rfl, ?_⟩, fun i e f t h => by simp at h⟩
  cases a with
  | none => exact .inr ⟨rfl, rfl⟩
  | some ad => exact .inl ⟨ad, rfl, fun j u hj => by simp at hj⟩
 | sl b o c k' es' g hA hk' hl hc hr =>
  cases ht
  by_cases hes : es = []
  ·subst hes
   exact ⟨[], ⟨by simp, _, c, rfl, .inl ⟨_, rfl, fun j u hj => by simp at hj⟩⟩, fun i e f t h => by simp at h⟩
  ·obtain ⟨e0, he0⟩ := List.exists_mem_of_ne_nil es hes
   have hkk : k' = k := by rw [<- hk e0 he0, hk' e0 he0]
   subst hkk
   refine ⟨(List.range (es.length * k')).map fun q => g (q / k') (q % k'), ⟨by simp, _, c, rfl, .inl ⟨_, rfl, fun j u hj => ?_⟩⟩, fun i e f t hi hf => ?_⟩
   ·rw [List.getElem?_map, Option.map_eq_some_iff] at hj
    obtain ⟨q, hq, rfl⟩ := hj
    have hlt := (List.getElem?_eq_some_iff.1 hq).1
    simp only [List.length_range] at hlt
    have hqj : q = j := by simpa [hlt] using hq.symm
    subst hqj
    have hd : q / k' < es.length := Nat.div_lt_of_lt_mul (by rwa [Nat.mul_comm])
    have hm : q % k' < k' := Nat.mod_lt _ hk0
    have he := List.getElem?_eq_getElem hd
    have hel := hk' _ (List.mem_of_getElem? he)
    have := hc (q / k') _ (q % k') _ he (List.getElem?_eq_getElem (by rw [hel]; exact hm))
    rw [V2]
    rw [show o + q = o + q / k' * k' + q % k' from by have := Nat.div_add_mod q k'; rw [Nat.mul_comm] at this; omega]
    exact this
   ·have hil := (List.getElem?_eq_some_iff.1 hi).1
    have hfl := (List.getElem?_eq_some_iff.1 hf).1
    rw [hk' e (List.mem_of_getElem? hi)] at hfl
    have hlt := ZaI hil hfl
    refine ⟨g i f, ?_, hr i e f t hi hf⟩
    rw [List.getElem?_map, List.getElem?_range hlt]
    simp only [Option.map_some]
    have h1 : (i * k' + f) / k' = i := by rw [Nat.add_comm, Nat.add_mul_div_right _ _ (by omega), Nat.div_eq_of_lt hfl, Nat.zero_add]
    have h2 : (i * k' + f) % k' = f := by rw [Nat.add_comm, Nat.add_mul_mod_self_right, Nat.mod_eq_of_lt hfl]
    rw [h1, h2]
theorem Zph (h : SOk G S w) {id : Oid} {k : Nat} {es : Row} {u : Bool} {hw ver : Nat} {v : Value} (hs : S id = some (.ar k es u hw ver)) (hv : hdR G S id [] 0 es.length none hw v) :
  ∃ ad cs c, v = .slice ad es.length c /\ es.length <= c /\ c = Zci (G id []) /\ FC w k es.length v cs /\ (∀ (i : Nat) (e : List Tr) (f : Nat) (t : Tr), es[i]? = some e -> e[f]? = some t -> ∃ x, cs[i * k + f]? = some x /\ Yk G w (Av G S w) id [] u i f x t) /\
   (c ≠ 0 -> ∃ b vs ty, G id [] = some (b, c) /\ ad = some ⟨b, 0, none⟩ /\ w.heap[b]? = some (.cells vs ty (0, 0)) /\ vs.size = c * k /\ cs = vs.toList.take (es.length * k)) := by
 obtain ⟨_, k2, es2, u2, hw2, ver2, hs2, _, hrel⟩ := hv
 rw [hs] at hs2; cases hs2
 obtain ⟨es3, k', ad, c, hg3, hk, hun, rfl, hlc, _, hcap, hor⟩ := hrel rfl
 simp only [getp, Option.some.injEq] at hg3
 subst hg3
 have hkk := hk rfl
 subst hkk
 have hc : c = Zci (G id []) := by simpa using hcap rfl rfl
 have hr := (h.obs _ _ hs).2.2.2.1 [] es (.inl rfl) rfl
 unfold Xb at hr
 by_cases hc0 : c = 0
 ·have hes : es = [] := List.eq_nil_of_length_eq_zero (by omega)
  subst hes
  refine ⟨ad, [], c, rfl, hlc, hc, ⟨by simp, ad, c, rfl, ?_⟩, fun i e f t h => by simp at h, fun hne => absurd hc0 hne⟩
  cases ad with
  | none => exact .inr ⟨rfl, rfl⟩
  | some ad => exact .inl ⟨ad, rfl, fun j u hj => by simp at hj⟩
 ·rcases hor with h0 | ⟨h0, _⟩ | ⟨b, c0, hG, rfl, hcc⟩
  ·exact absurd h0 hc0
  ·exact absurd rfl h0
  ·rw [hG] at hr hc
   simp only [Zci] at hc
   subst hc
   obtain ⟨k2, vs, ty, g1, g2, g3, g4, g5, g6⟩ := hr
   have hkk := g1 rfl
   subst hkk
   have hll : es.length * k2 <= vs.size := by rw [g4]; exact Nat.mul_le_mul_right _ g5
   refine ⟨_, vs.toList.take (es.length * k2), c, rfl, hlc, by rw [hG]; rfl, ⟨by simp; omega, _, c, rfl, .inl ⟨_, rfl, fun j u hj => ?_⟩⟩, fun i e f t hi hf => ?_, fun _ => ⟨b, vs, ty, hG, by simp, g3, g4, rfl⟩⟩
   ·rw [List.getElem?_take] at hj
    split at hj <;> try contradiction
    rw [V2, Nat.zero_mul, Nat.zero_add, cell_of_row w b j vs ty (0, 0) g3]
    simpa using hj
   ·obtain ⟨x, hx, hcell⟩ := g6 i e f t hi hf
    have hil := (List.getElem?_eq_some_iff.1 hi).1
    have hfl := (List.getElem?_eq_some_iff.1 hf).1
    rw [g2 e (List.mem_of_getElem? hi)] at hfl
    refine ⟨x, ?_, hcell⟩
    rw [List.getElem?_take, if_pos (ZaI hil hfl)]
    simpa using hx
section run
variable {t ty e : TypeId} {i : TypeInfo} {z : Value}
theorem Zju (ht : P.underlying t = some (.slice e)) (hi : P.info? e = some i) {ad : Option Addr} {n c : Nat} {yv : Value} (hy : FC w i.size 0 yv []) (hn : n <= c) :
  (Builtin.append_ #[t, t] ty #[.slice ad n c, yv]).run P w = .ok (.slice ad n c) w := by
 have hf := ZfS (P := P) hy (w' := w) rfl
 obtain ⟨_, a, c', rfl, _⟩ := hy
 cases ad with
 | none => simp [Builtin.append_, run_underlying ht, Go.sizeOf, typeInfo, hi, Builtin.lenOf, hn, hf]
 | some ad => simp [Builtin.append_, run_underlying ht, Go.sizeOf, typeInfo, hi, Builtin.lenOf, hn, hf, storeCells]
theorem Zng (ht : P.underlying t = some (.slice e)) (hi : P.info? e = some i) {g n c m : Nat} {yv : Value} {news : List Value} {cur : Array Value} {tt : TypeId} (hg : w.heap[g]? = some (.cells cur tt (0, 0))) (hy : FC w i.size m yv news) (h1 : ∀ u ∈ news, u.oneCell' = true)
  (hroom : n + m <= c) (hfit : n * i.size + news.length <= cur.size) :
  (Builtin.append_ #[t, t] ty #[.slice (some ⟨g, 0, none⟩) n c, yv]).run P w =
   .ok (.slice (some ⟨g, 0, none⟩) (n + m) c) (w.setRow g (cur.toList.take (n * i.size) ++ news ++ cur.toList.drop (n * i.size + news.length)).toArray) := by
 have hf := ZfS (P := P) hy (w' := w) rfl
 have hst := run_storeCells_at P g (n * i.size) tt news 0 cur w hg (by simpa using hfit) h1
 simp only [Nat.add_zero] at hst
 obtain ⟨_, a, c', rfl, _⟩ := hy
 simp [Builtin.append_, run_underlying ht, Go.sizeOf, typeInfo, hi, Builtin.lenOf, hroom, hf, V2, hst]
theorem Zjv (ht : P.underlying t = some (.slice e)) (hi : P.info? e = some i) (hz : i.zero = some z) {ad : Option Addr} {n c m : Nat} {yv : Value} {olds news : List Value} (hv : FC w i.size n (.slice ad n c) olds) (hy : FC w i.size m yv news)
  (hg : c < n + m) (hb : n + m <= bigN) (hby : i.bytes <= 1024) :
  (Builtin.append_ #[t, t] ty #[.slice ad n c, yv]).run P w =
   .ok (.slice (some ⟨w.heap.size, 0, none⟩) (n + m) (grownCap w (n + m) c e)) (w.drew.alloc (.cells (olds.toArray ++ news.toArray ++ Builtin.zeroCells z.cells (grownCap w (n + m) c e - (n + m))) e)) := by
 have hn : ¬ (n + m <= c) := by omega
 have hbb : n + m <= 4294967296 := hb
 have h63' : ¬ (9223372036854775807 < ((n : Int) + (m : Int))) := by omega
 have h48 : Builtin.nextslicecap (n + m) c * i.bytes <= 281474976710656 := growslice_fits hg (by
  calc (n + m) * i.bytes <= 4294967296 * 1024 := Nat.mul_le_mul hbb hby
   _ <= 140737488355328 := by decide)
 have h48' : ¬ (281474976710656 < Builtin.nextslicecap (n + m) c * i.bytes) := by omega
 have hf := ZfS (P := P) hy (w' := w.drew) rfl
 have hfo := ZfS (P := P) hv (w' := w.drew) rfl
 obtain ⟨_, a, c', rfl, _⟩ := hy
 simp [Builtin.append_, run_underlying ht, Go.sizeOf, typeInfo, zeroValue, hi, hz, Builtin.lenOf, hn, h63', h48', Question.forced, hf, hfo, newRow, grownCap]
 congr 2
 apply Array.ext'
 simp [List.append_assoc]
end run
end
end Go.Fd

/-
  FOUNDATION 29: append: the operation, to what is there. Own work.
-/
namespace Go.Fd
section
variable {P : Program} {F : Fr} {G G' : Gh} {S S' : Sto} {st st1 st2 : St} {a : Act} {w w' : World} {C : Zt} {oper : Oper} {D D2 : Oid -> Prop}
theorem Wk.refl (ob : Ob) : Wk (fun _ => False) ob ob := by
 cases ob with
 | bx cells => exact .bx cells cells (ZS (fun _ _ h => h) _ (VC _)) (fun _ _ _ _ h => h) (fun _ h => h)
 | ar => exact .ar ..
theorem Sim.put (h : Sim F G st a w) {d : Option Nat} {x : IV} {v : Value} (hx : VR G st.sto w x v) (hd : ∀ y, d = some y -> y < F.nt) : Sim F G { st with env := ptd d x st.env } (a.put d v) w :=
 h.go (st' := { st with env := ptd d x st.env }) (T := fun _ => False) (D := fun _ => False) (env0 := st.env) rfl h.outl
  ⟨fun _ _ => rfl, fun _ ob _ _ hs => ⟨ob, hs, Wk.refl ob⟩, fun _ ob _ hs => ⟨fun h => h, ob, hs, Wk.refl ob⟩, Nat.le_refl _, fun _ _ _ => rfl, fun _ _ _ hf => hf.elim, fun _ _ hf => hf.elim⟩
  (fun _ hf => hf.elim) rfl rfl rfl h.ok (fun _ _ _ _ _ h => h) (fun _ => JB (fun _ _ h => h) _ (ZaH _)) rfl hd hx
theorem Sim.idle (h : Sim F G st a w) {id : Oid} {ob : Ob} (hs : st.sto id = some ob) : Sim F G (ZA st id ob) a w := by
 have he : (ZA st id ob).sto = st.sto := by
  rw [JL]
  funext i
  unfold ZZ
  split
  ·rename_i hi; rw [hi, hs]
  ·rfl
 refine ⟨h.dfr, h.sz, by rw [he, Q3]; exact h.env, by rw [he]; exact h.ok, by rw [XG]; exact h.lvl, ?_, by rw [he]; exact h.fr⟩
 intro i o hi
 rw [XG]
 unfold ZA at hi
 split at hi
 ·exact h.outl i o hi
 ·rename_i hne
  simp only [ZZ] at hi
  split at hi
  ·rename_i hii
   subst hii
   rw [YI hne] at hs
   exact h.outl _ _ hs
  ·exact h.outl i o hi
structure IT (G : Gh) (st st1 : St) (w : World) (D : Oid -> Prop) (items : Row) (N : Pth -> Option (Nat × Nat)) (ui : Bool) (k : Nat) (yv : Value) (news : List Value) : Prop where
 kl : Kl D st st1
 fc : FC w k items.length yv news
 un : UnR k items
 rd : ∀ (i : Nat) (e : List Tr) (f : Nat) (t : Tr), items[i]? = some e -> e[f]? = some t -> ∃ x, news[i * k + f]? = some x /\ Rds w (Av G st1.sto w) x t
 cl : ui = true -> ∀ (i : Nat) (e : List Tr) (f : Nat) (t : Tr), items[i]? = some e -> e[f]? = some t -> ∃ x, news[i * k + f]? = some x /\ Yk (fun _ => N) w (Av G st1.sto w) (0, 0) [] true i f x t
 sub : ui = true -> ∀ (i f : Nat) (e : List Tr) (zs : Row) (q : Pth) (es2 : Row), items[i]? = some e -> e[f]? = some (.sl zs) -> getp zs q = some es2 -> Xb (fun _ => N) w (fun _ => False) (0, 0) ((i, f) :: q) k true es2
 src : ui = true -> ∀ p b1 c1, p ≠ [] -> (getp items p).isSome = true -> N p = some (b1, c1) -> ∃ j ob, D j /\ st.sto j = some ob /\ Y4 G j ob b1
 inj : ui = true -> ∀ p p' b1 c1 c2, p ≠ [] -> p' ≠ [] -> (getp items p).isSome = true -> (getp items p').isSome = true -> N p = some (b1, c1) -> N p' = some (b1, c2) -> p = p'
theorem IT.one {items : Row} {N : Pth -> Option (Nat × Nat)} {ui : Bool} {k : Nat} {yv : Value} {news : List Value} (h : IT G st st1 w D items N ui k yv news) (hk0 : 0 < k) : ∀ u ∈ news, u.oneCell' = true := by
 intro u hu
 obtain ⟨q, hq⟩ := List.getElem?_of_mem hu
 have hlt := (List.getElem?_eq_some_iff.1 hq).1
 rw [h.fc.1] at hlt
 have hd : q / k < items.length := Nat.div_lt_of_lt_mul (by rwa [Nat.mul_comm])
 have hm : q % k < k := Nat.mod_lt _ hk0
 have he := List.getElem?_eq_getElem hd
 have hel := h.un _ (List.mem_of_getElem? he)
 obtain ⟨x, hx, hr⟩ := h.rd (q / k) _ (q % k) _ he (List.getElem?_eq_getElem (by rw [hel]; exact hm))
 rw [show q / k * k + q % k = q from by have := Nat.div_add_mod q k; rw [Nat.mul_comm] at this; omega, hq] at hx
 cases hx
 exact hr.one
theorem IT.trees {items : Row} {ui : Bool} {k : Nat} {yv : Value} (hy : Rds w (Av G st.sto w) yv (.sl items)) (hk0 : 0 < k) (hk : UnR k items) (hu : ui = true -> ZfO items) :
  ∃ news, IT G st st w (fun _ => False) items (fun _ => none) ui k yv news := by
 obtain ⟨cs, h1, h2⟩ := hy.fc hk0 hk
 refine ⟨cs, Kl.refl st, h1, hk, h2, fun hui i e f t hi hf => ?_, fun hui i f e zs q es2 hi hf hq => ?_, fun _ _ _ _ _ _ h => (by cases h), fun _ _ _ _ _ _ _ _ _ _ h => (by cases h)⟩
 ·obtain ⟨x, hx, hr⟩ := h2 i e f t hi hf
  exact ⟨x, hx, Rds.cell hr fun _ => hu hui e (List.mem_of_getElem? hi) t (List.mem_of_getElem? hf)⟩
 ·have := hu hui e (List.mem_of_getElem? hi) _ (List.mem_of_getElem? hf)
  simp only [UW] at this
  subst this
  obtain ⟨rfl, rfl⟩ := Y6 hq
  unfold Xb
  rfl
theorem IT.moved (h : Sim F G st a w) {id2 : Oid} {k k2 : Nat} {zs : Row} {hw2 ver2 : Nat} {yv : Value} (hs2 : st.sto id2 = some (.ar k2 zs true hw2 ver2)) (hl2 : id2.1 = st.lvl) (hy : hdR G st.sto id2 [] 0 zs.length none hw2 yv) (hk0 : 0 < k) (hk : UnR k zs) :
  ∃ news, IT G st (VK id2 st) w (fun i => False \/ i = id2) zs (G id2) true k yv news := by
 obtain ⟨_, htree⟩ := U4 h hs2 hl2 hy
 obtain ⟨cs, h1, h2⟩ := htree.fc hk0 hk
 obtain ⟨ad, cs2, c, hv, _, _, h3, h4, _⟩ := Zph h.ok hs2 hy
 have hob := h.ok.obs _ _ hs2
 have hcs : zs ≠ [] -> cs = cs2 := fun hne => by
  obtain ⟨e0, he0⟩ := List.exists_mem_of_ne_nil zs hne
  have hkk : k2 = k := by rw [<- hk e0 he0, hob.2.1 e0 he0]
  subst hkk
  obtain ⟨l1, a1, c1, e1, o1⟩ := h1
  obtain ⟨l2, a2, c2, e2, o2⟩ := h3
  rw [e1] at e2; cases e2
  rcases o1 with ⟨ad1, rfl, r1⟩ | ⟨rfl, rfl⟩
  ·rcases o2 with ⟨ad2, e3, r2⟩ | ⟨e3, _⟩
   ·cases e3
    apply List.ext_getElem?
    intro j
    by_cases hj : j < cs.length
    ·have q1 := r1 j _ (List.getElem?_eq_getElem hj)
     have q2 := r2 j _ (List.getElem?_eq_getElem (show j < cs2.length from by omega))
     rw [q1] at q2
     rw [List.getElem?_eq_getElem hj, List.getElem?_eq_getElem (show j < cs2.length from by omega)]
     exact q2
    ·rw [List.getElem?_eq_none (by omega), List.getElem?_eq_none (by omega)]
   ·cases e3
  ·rcases o2 with ⟨ad2, e3, r2⟩ | ⟨_, rfl⟩
   ·cases e3
   ·rfl
 refine ⟨cs, (Kl.refl st).step (fun j cells hj => h.ok.low j cells hj) h.outl hl2 (by rw [hs2]; rfl), h1, hk, h2, fun _ i e f t hi hf => ?_, fun _ i f e z q es2 hi hf hq => ?_, fun _ p b1 c1 hp hss hN => ⟨id2, _, .inr rfl, hs2, p, c1, .inr rfl, hss, hN⟩, fun _ p p' b1 c1 c2 hp hp' h5 h6 h7 h8 => hob.2.2.2.2 p p' b1 c1 c2 (.inr rfl) (.inr rfl) h5 h6 h7 h8⟩
 ·have hne : zs ≠ [] := fun hh => by rw [hh] at hi; simp at hi
  obtain ⟨e0, he0⟩ := List.exists_mem_of_ne_nil zs hne
  have hkk : k2 = k := by rw [<- hk e0 he0, hob.2.1 e0 he0]
  subst hkk
  obtain ⟨x, hx, hc⟩ := h4 i e f t hi hf
  refine ⟨x, by rw [hcs hne]; exact hx, ?_⟩
  cases t with
  | v y => exact hc
  | sl es => simpa [Yk] using hc
 ·have hr := hob.2.2.2.1 ((i, f) :: q) es2 (.inr rfl) (XH hi hf hq)
  have hr2 := ZcA (G1 := G) (G2 := G) (A' := fun _ => False) (i := id2) rfl hr
  exact Y8 (G := G) (id := id2) (p := (i, f) :: q) (A := fun _ => False) rfl (fun _ r => rfl) (fun hu => by cases hu) (fun b hb => hb.elim) (fun h => by cases h) (fun _ _ _ => rfl) hr2
def Zpi (P : Program) (t ty : TypeId) (xv yv : Value) (w : World) (v : Value) (w' : World) : Prop := (Builtin.append_ #[t, t] ty #[xv, yv]).run P w = .ok v w'
theorem Zpj (h : Sim F G st a w) {items : Row} {N : Pth -> Option (Nat × Nat)} {ui : Bool} {k : Nat} {yv xv : Value} {news : List Value} {t ty e : TypeId} {i : TypeInfo} {z : Value} {d : Option Nat} (it : IT G st st1 w D items N ui k yv news)
  (ht : P.underlying t = some (.slice e)) (hi : P.info? e = some i) (hz : i.zero = some z) (hik : i.size = k) (hzk : z.cells.size = k) (hby : i.bytes <= 1024) (hk0 : 0 < k) (hd : ∀ y, d = some y -> y < F.nt)
  {id : Oid} {es : Row} {u : Bool} {hw ver : Nat} (hs : st.sto id = some (.ar k es u hw ver)) (hnd : ¬ D id) (hx : hdR G st.sto id [] 0 es.length none hw xv) (huu : u = true -> ui = true) (hb : es.length + items.length <= bigN) :
  ∃ v w' G', Zpi P t ty xv yv w v w' /\ Sim F G' { ZA st1 id (.ar k (es ++ items) u (max hw (es.length + items.length)) ver) with env := ptd d (.hd id [] 0 (es.length + items.length) none (max hw (es.length + items.length))) st1.env } (a.put d v) w' := by
 subst hik
 obtain ⟨ad, olds, c, rfl, hlc, hcap, hfc, hold, hblk⟩ := Zph h.ok hs hx
 obtain ⟨o1, o2, o3, o4, o5⟩ := h.ok.obs _ _ hs
 by_cases hit : items = []
 ·subst hit
  have hnews : news = [] := List.eq_nil_of_length_eq_zero (by simpa using it.fc.1)
  subst hnews
  obtain ⟨ob1, k1, k2⟩ := it.kl.live id _ hnd hs
  have hob1 : ob1 = .ar i.size es u hw ver := by cases k2; rfl
  subst hob1
  have h1 := h.kl it.kl
  have hmax : max hw (es.length + 0) = hw := by omega
  refine ⟨_, w, G, Zju ht hi it.fc hlc, ?_⟩
  simp only [List.append_nil, List.length_nil, Nat.add_zero] at hmax ⊢
  rw [hmax]
  have h2 := h1.1.idle k1
  have hxx : VR G (ZA st1 id (.ar i.size es u hw ver)).sto w (.hd id [] 0 es.length none hw) (.slice ad es.length c) := by
   have he : (ZA st1 id (.ar i.size es u hw ver)).sto = st1.sto := by
    rw [JL]
    funext j
    unfold ZZ
    split
    ·rename_i hj; rw [hj, k1]
    ·rfl
   rw [he]
   exact h1.2.vr (.hd id [] 0 es.length none hw) _ hnd hx
  have := h2.put hxx hd
  rw [Q3] at this
  exact this
 ·have hm : 0 < items.length := Nat.pos_of_ne_zero fun h0 => hit (List.eq_nil_of_length_eq_zero h0)
  have cells : ∀ {vs : Array Value}, (∀ (j : Nat) (x : Value), olds[j]? = some x -> vs[j]? = some x) -> (∀ (j : Nat) (x : Value), news[j]? = some x -> vs[es.length * i.size + j]? = some x) ->
    (∀ (i0 : Nat) (e : List Tr) (f : Nat) (t : Tr), es[i0]? = some e -> e[f]? = some t -> ∃ x, vs[i0 * i.size + f]? = some x /\ Yk G w (Av G st.sto w) id [] u i0 f x t) /\
    (∀ (i0 : Nat) (e : List Tr) (f : Nat) (t : Tr), items[i0]? = some e -> e[f]? = some t -> ∃ x, vs[(es.length + i0) * i.size + f]? = some x /\ Yk (fun _ => N) w (Av G st1.sto w) (0, 0) [] u i0 f x t) := by
   intro vs h1 h2
   refine ⟨fun i0 e f t hi hf => ?_, fun i0 e f t hi hf => ?_⟩
   ·obtain ⟨x, hx, hc⟩ := hold i0 e f t hi hf
    exact ⟨x, h1 _ _ hx, hc⟩
   ·cases u with
    | true =>
     obtain ⟨x, hx, hc⟩ := it.cl (huu rfl) i0 e f t hi hf
     exact ⟨x, by rw [Nat.add_mul, Nat.add_assoc]; exact h2 _ _ hx, hc⟩
    | false =>
     obtain ⟨x, hx, hc⟩ := it.rd i0 e f t hi hf
     exact ⟨x, by rw [Nat.add_mul, Nat.add_assoc]; exact h2 _ _ hx, Rds.cell hc (fun h => by cases h)⟩
  by_cases hroom : es.length + items.length <= c
  ·obtain ⟨b, vs, tt, hG, rfl, hh, hsz, hol⟩ := hblk (by omega)
   have hfit : es.length * i.size + news.length <= vs.size := by
    rw [hsz, it.fc.1, <- Nat.add_mul]
    exact Nat.mul_le_mul_right _ hroom
   have hrun := Zng (P := P) (ty := ty) ht hi hh it.fc (it.one hk0) hroom hfit
   obtain ⟨c1, c2⟩ := cells (vs := (vs.toList.take (es.length * i.size) ++ news ++ vs.toList.drop (es.length * i.size + news.length)).toArray) (fun j x hj => by
     have hjl := (List.getElem?_eq_some_iff.1 hj).1
     rw [hol] at hj hjl
     simp only [List.getElem?_toArray, List.append_assoc]
     rw [List.getElem?_append_left hjl]
     exact hj) (fun j x hj => by
     have hjl := (List.getElem?_eq_some_iff.1 hj).1
     have htl : (vs.toList.take (es.length * i.size)).length = es.length * i.size := by simp; omega
     simp only [List.getElem?_toArray, List.append_assoc]
     rw [List.getElem?_append_right (by omega), htl, Nat.add_sub_cancel_left, List.getElem?_append_left hjl]
     exact hj)
   obtain ⟨G', hG'⟩ := ZhT h it.kl (d := d) hs hnd hd (w' := w.setRow b (vs.toList.take (es.length * i.size) ++ news ++ vs.toList.drop (es.length * i.size + news.length)).toArray) (by simp)
    (fun blk _ hn => setRow_other w b blk _ (fun hbb => hn c (by rw [hbb]; exact hG))) rfl rfl rfl (.inl hG) (fun _ => hG) (setRow_heap w b vs _ tt (0, 0) hh) (by simp; omega) (by rw [<- hcap] at o3; omega) it.un c1 c2
    (fun hu => by rw [hu]; exact it.sub (huu hu)) (fun hu => it.src (huu hu)) (fun hu => it.inj (huu hu))
   exact ⟨_, _, G', hrun, hG'⟩
  ·have hgrow : c < es.length + items.length := by omega
   have hrun := Zjv (P := P) (ty := ty) ht hi hz hfc it.fc hgrow hb hby
   have hge := grownCap_ge w (es.length + items.length) c e
   have holl : olds.length = es.length * i.size := hfc.1
   obtain ⟨c1, c2⟩ := cells (vs := olds.toArray ++ news.toArray ++ Builtin.zeroCells z.cells (grownCap w (es.length + items.length) c e - (es.length + items.length))) (fun j x hj => by
     have hjl := (List.getElem?_eq_some_iff.1 hj).1
     rw [Array.append_assoc, Array.getElem?_append_left (by simpa using hjl)]
     simpa using hj) (fun j x hj => by
     have hjl := (List.getElem?_eq_some_iff.1 hj).1
     rw [Array.append_assoc, Array.getElem?_append_right (by simp; omega), Array.getElem?_append_left (by simp; omega)]
     simp only [List.size_toArray, holl, Nat.add_sub_cancel_left]
     simpa using hj)
   obtain ⟨G', hG'⟩ := ZhT h it.kl (d := d) hs hnd hd (b' := w.heap.size) (c' := grownCap w (es.length + items.length) c e) (w' := w.drew.alloc (.cells (olds.toArray ++ news.toArray ++ Builtin.zeroCells z.cells (grownCap w (es.length + items.length) c e - (es.length + items.length))) e)) (by simp)
    (fun blk hb _ => heap_alloc_old w.drew _ blk hb) rfl rfl rfl (.inr (Nat.le_refl _)) (fun hmx => by rw [<- hcap] at o3; omega) (heap_alloc_new w.drew _)
    (by simp only [Array.size_append, List.size_toArray, size_zeroCells, hzk, holl, it.fc.1, <- Nat.add_mul]; congr 1; omega) (by rw [<- hcap] at o3; omega) it.un c1 c2
    (fun hu => by rw [hu]; exact it.sub (huu hu)) (fun hu => it.src (huu hu)) (fun hu => it.inj (huu hu))
   exact ⟨_, _, G', hrun, hG'⟩
end
end Go.Fd

/-
  FOUNDATION 30: append: the operation. Own work.
-/
namespace Go.Fd
section
variable {P : Program} {F : Fr} {G G' : Gh} {S S' : Sto} {st st1 st2 : St} {a : Act} {w w' : World} {C : Zt} {oper : Oper} {D D2 : Oid -> Prop}
theorem ScR.flat {es : Row} (h : ScR es) : ZfO es := fun e he t ht => by
 have := h e he t ht
 cases t with
 | v x => trivial
 | sl z => simp [isSc] at this
theorem ZsM (h : Sim F G st a w) {items : Row} {N : Pth -> Option (Nat × Nat)} {ui : Bool} {k key : Nat} {yv xv : Value} {news : List Value} {t ty e : TypeId} {i : TypeInfo} {z : Value} {d : Option Nat} (it : IT G st st1 w D items N ui k yv news)
  (ht : P.underlying t = some (.slice e)) (hi : P.info? e = some i) (hz : i.zero = some z) (hik : i.size = k) (hzk : z.cells.size = k) (hby : i.bytes <= 1024) (hk0 : 0 < k) (hd : ∀ y, d = some y -> y < F.nt)
  {zs : Row} (hx : VR G st.sto w (.cs zs) xv) (hor : zs = [] \/ items ≠ []) (hb : zs.length + items.length <= bigN) (hkz : UnR k zs) (hkey : st.sto (st.lvl, key) = none) (hfl : zs = [] \/ ui = false \/ ScR zs) :
  ∃ v w' G', Zpi P t ty xv yv w v w' /\ Sim F G' { ZA st1 (st.lvl, key) (.ar k (zs ++ items) ui (zs.length + items.length) 0) with env := ptd d (.hd (st.lvl, key) [] 0 (zs.length + items.length) none (zs.length + items.length)) st1.env } (a.put d v) w' := by
 subst hik
 obtain ⟨⟨ad, rfl⟩, hrd⟩ := hx
 by_cases hit : items = []
 ·subst hit
  have hzs : zs = [] := hor.resolve_right (fun h => h rfl)
  subst hzs
  have hnews : news = [] := List.eq_nil_of_length_eq_zero (by simpa using it.fc.1)
  subst hnews
  let id : Oid := (st.lvl, key)
  let G' : Gh := fun j => if j = id then fun _ => none else G j
  have hG : ∀ p, G' id p = none := fun p => by simp [G']
  have hnd : ¬ D id := fun hD => by
   have := it.kl.was id hD
   rw [hkey] at this
   cases this
  have hno : ∀ b, ¬ Y4 G' id (.ar i.size [] ui 0 0) b := fun b ⟨p, c, _, _, hg⟩ => by rw [hG] at hg; cases hg
  refine ⟨_, w, G', Zju ht hi it.fc (Nat.le_refl _), ?_⟩
  exact (h.turn it.kl (id := id) (ob' := .ar i.size [] ui 0 0) (d := d) (x := .hd id [] 0 0 none 0) (G' := G') (w' := w) hnd (.inl rfl) (fun j hj => by simp [G', hj]) (Nat.le_refl _) (fun _ _ _ => rfl) (fun b ho => absurd ho (hno b)) (fun ob ho => by rw [hkey] at ho; cases ho)
   rfl rfl rfl (fun t => ⟨Nat.le_refl _, fun e he => by simp at he, by rw [hG]; simp [Zci], fun p es' _ hg => by
    obtain ⟨rfl, rfl⟩ := Y6 hg
    unfold Xb
    rw [hG], fun p p' b c c' _ _ _ _ g1 _ => by rw [hG] at g1; cases g1⟩) (fun _ he => by cases he) hd
   (fun t => ⟨⟨_, _, rfl, Nat.le_refl _⟩, i.size, [], ui, 0, 0, by unfold ZZ; rw [if_pos rfl], Nat.le_refl _, fun _ => ⟨[], i.size, ad, 0, rfl, fun _ => rfl, fun e he => by simp at he, rfl, Nat.le_refl _, fun m hm => by simp at hm, fun _ _ => by rw [hG]; simp [Zci], .inl rfl⟩⟩)).1
 ·have hm : 0 < items.length := Nat.pos_of_ne_zero fun h0 => hit (List.eq_nil_of_length_eq_zero h0)
  obtain ⟨olds, hfc, hold⟩ := hrd.fc hk0 hkz
  have hrun := Zjv (P := P) (ty := ty) ht hi hz hfc it.fc (by omega) hb hby
  have hge := grownCap_ge w (zs.length + items.length) zs.length e
  have holl : olds.length = zs.length * i.size := hfc.1
  let N' : Pth -> Option (Nat × Nat) := fun p => match p with
   | (i, f) :: q => if i < zs.length then none else N ((i - zs.length, f) :: q)
   | [] => none
  have hNo : ∀ {i f : Nat} {q : Pth}, i < zs.length -> N' ((i, f) :: q) = none := fun hi => by simp [N', hi]
  have hNn : ∀ {i f : Nat} {q : Pth}, N' ((zs.length + i, f) :: q) = N ((i, f) :: q) := fun {i f q} => by
   show (if zs.length + i < zs.length then _ else _) = _
   rw [if_neg (by omega), Nat.add_sub_cancel_left]
  have split : ∀ {p : Pth} {b1 c1 : Nat}, p ≠ [] -> (getp (zs ++ items) p).isSome = true -> N' p = some (b1, c1) ->
    ∃ i f q, p = (zs.length + i, f) :: q /\ (getp items ((i, f) :: q)).isSome = true /\ N ((i, f) :: q) = some (b1, c1) := by
   intro p b1 c1 hp hss hg
   cases p with
   | nil => exact absurd rfl hp
   | cons cd q =>
    obtain ⟨i, f⟩ := cd
    obtain ⟨es2, he2⟩ := Option.isSome_iff_exists.1 hss
    rw [ZeN] at he2
    by_cases hi : i < zs.length
    ·rw [hNo hi] at hg; cases hg
    ·rw [if_neg hi] at he2
     obtain ⟨m, rfl⟩ : ∃ m, i = zs.length + m := ⟨i - zs.length, by omega⟩
     rw [hNn] at hg
     rw [show zs.length + m - zs.length = m from by omega] at he2
     exact ⟨m, f, q, rfl, by rw [he2]; rfl, hg⟩
  have hflat : ui = true -> ZfO zs := fun hu => by
   rcases hfl with rfl | h | h
   ·intro e he; simp at he
   ·rw [hu] at h; cases h
   ·exact h.flat
  have hcat : ∀ {j : Nat} {x : Value}, olds[j]? = some x -> (olds.toArray ++ news.toArray ++ Builtin.zeroCells z.cells (grownCap w (zs.length + items.length) zs.length e - (zs.length + items.length)))[j]? = some x := fun {j x} hj => by
   have hjl := (List.getElem?_eq_some_iff.1 hj).1
   rw [Array.append_assoc, Array.getElem?_append_left (by simpa using hjl)]
   simpa using hj
  have hcat2 : ∀ {j : Nat} {x : Value}, news[j]? = some x -> (olds.toArray ++ news.toArray ++ Builtin.zeroCells z.cells (grownCap w (zs.length + items.length) zs.length e - (zs.length + items.length)))[zs.length * i.size + j]? = some x := fun {j x} hj => by
   have hjl := (List.getElem?_eq_some_iff.1 hj).1
   rw [Array.append_assoc, Array.getElem?_append_right (by simp; omega), Array.getElem?_append_left (by simp; omega)]
   simp only [List.size_toArray, holl, Nat.add_sub_cancel_left]
   simpa using hj
  obtain ⟨G', hG'⟩ := ZeL h it.kl (d := d) (key := key) (k := i.size) (c := grownCap w (zs.length + items.length) zs.length e) (es := zs ++ items) (u := ui) (ty := e) (N := N') hkey hd
   (w' := w.drew.alloc (.cells (olds.toArray ++ news.toArray ++ Builtin.zeroCells z.cells (grownCap w (zs.length + items.length) zs.length e - (zs.length + items.length))) e))
   ⟨by simp, fun b hb => heap_alloc_old w.drew _ b hb, rfl, rfl, rfl⟩ (heap_alloc_new w.drew _)
   (by simp only [Array.size_append, List.size_toArray, size_zeroCells, hzk, holl, it.fc.1, <- Nat.add_mul]; congr 1; omega) (by rw [List.length_append]; exact hge)
   (fun e he => by
    rcases List.mem_append.1 he with he | he
    ·exact hkz e he
    ·exact it.un e he)
   (fun i0 e0 f t0 h1 h2 => by
    by_cases hil : i0 < zs.length
    ·rw [List.getElem?_append_left hil] at h1
     obtain ⟨x, hx, hr⟩ := hold i0 e0 f t0 h1 h2
     exact ⟨x, hcat hx, Rds.cell (Rds.mono it.kl.av (fun _ _ => rfl) hr) fun hu => hflat hu e0 (List.mem_of_getElem? h1) t0 (List.mem_of_getElem? h2)⟩
    ·obtain ⟨m, rfl⟩ : ∃ m, i0 = zs.length + m := ⟨i0 - zs.length, by omega⟩
     rw [List.getElem?_append_right (by omega), show zs.length + m - zs.length = m from by omega] at h1
     cases ui with
     | true =>
      obtain ⟨x, hx, hr⟩ := it.cl rfl m e0 f t0 h1 h2
      refine ⟨x, by rw [Nat.add_mul, Nat.add_assoc]; exact hcat2 hx, ?_⟩
      cases t0 with
      | v y => exact hr
      | sl zz =>
       simp only [Yk, if_true, List.nil_append] at hr ⊢
       rw [hNn]
       exact hr
     | false =>
      obtain ⟨x, hx, hr⟩ := it.rd m e0 f t0 h1 h2
      exact ⟨x, by rw [Nat.add_mul, Nat.add_assoc]; exact hcat2 hx, Rds.cell hr fun hu => by cases hu⟩)
   (fun hu i0 f e0 zz q es2 h1 h2 h3 => by
    by_cases hil : i0 < zs.length
    ·rw [List.getElem?_append_left hil] at h1
     have := hflat hu e0 (List.mem_of_getElem? h1) _ (List.mem_of_getElem? h2)
     simp only [UW] at this
     subst this
     obtain ⟨rfl, rfl⟩ := Y6 h3
     unfold Xb
     simp only [hNo hil]
    ·obtain ⟨m, rfl⟩ : ∃ m, i0 = zs.length + m := ⟨i0 - zs.length, by omega⟩
     rw [List.getElem?_append_right (by omega), show zs.length + m - zs.length = m from by omega] at h1
     have := it.sub hu m f e0 zz q es2 h1 h2 h3
     rw [hu]
     exact Y8 (G := fun _ => N) (id := (0, 0)) (p := (m, f) :: q) (A := fun _ => False) hNn (fun _ r => hNn) (fun hu2 => by cases hu2) (fun b hb => hb.elim) (fun h => by cases h) (fun _ _ _ => rfl) this)
   (fun hu p b1 c1 hp hss hg => by
    obtain ⟨m, f, q, rfl, r1, r2⟩ := split hp hss hg
    exact it.src hu _ b1 c1 (by simp) r1 r2)
   (fun hu p p' b1 c1 c2 hp hp' h1 h2 g1 g2 => by
    obtain ⟨m, f, q, rfl, r1, r2⟩ := split hp h1 g1
    obtain ⟨m', f', q', rfl, s1, s2⟩ := split hp' h2 g2
    have := it.inj hu _ _ b1 c1 c2 (by simp) (by simp) r1 s1 r2 s2
    simp only [List.cons.injEq, Prod.mk.injEq] at this
    rw [this.1.1, this.1.2, this.2])
  rw [List.length_append] at hG'
  exact ⟨_, _, G', hrun, hG'⟩
end
end Go.Fd

/-
  FOUNDATION 31: append: all of it. Own work.
-/
namespace Go.Fd
section
variable {P : Program} {F : Fr} {G G' : Gh} {S S' : Sto} {st st1 st2 : St} {a : Act} {w w' : World} {C : Zt} {oper : Oper} {D D2 : Oid -> Prop}
theorem Kl.xv (k : Kl D st st1) {x : X} {v : Value} (h : VR G S w (xv st.env x) v) : VR G S w (xv st1.env x) v := by
 cases x with
 | t n => exact k.vr n G S w v h
 | k u => exact h
 | f i => exact h
theorem IT.mk0 {items : Row} {ui : Bool} {k : Nat} {yv : Value} {news : List Value} (fc : FC w k items.length yv news) (un : UnR k items)
  (rd : ∀ (i : Nat) (e : List Tr) (f : Nat) (t : Tr), items[i]? = some e -> e[f]? = some t -> ∃ x, news[i * k + f]? = some x /\ Rds w (Av G st.sto w) x t) (hu : ui = true -> ZfO items) :
  IT G st st w (fun _ => False) items (fun _ => none) ui k yv news := by
 refine ⟨Kl.refl st, fc, un, rd, fun hui i e f t hi hf => ?_, fun hui i f e zs q es2 hi hf hq => ?_, fun _ _ _ _ _ _ h => (by cases h), fun _ _ _ _ _ _ _ _ _ _ h => (by cases h)⟩
 ·obtain ⟨x, hx, hr⟩ := rd i e f t hi hf
  exact ⟨x, hx, Rds.cell hr fun _ => hu hui e (List.mem_of_getElem? hi) t (List.mem_of_getElem? hf)⟩
 ·have := hu hui e (List.mem_of_getElem? hi) _ (List.mem_of_getElem? hf)
  simp only [UW] at this
  subst this
  obtain ⟨rfl, rfl⟩ := Y6 hq
  unfold Xb
  rfl
theorem Ziz (h : Sim F G st a w) {items : Row} {N : Pth -> Option (Nat × Nat)} {ui : Bool} {k : Nat} {yv xv0 : Value} {news : List Value} {t ty e : TypeId} {i : TypeInfo} {z : Value} {d : Option Nat} {x : X} {loc : List (Nat × Ob)} {K : St -> Prop} (it : IT G st st1 w D items N ui k yv news)
  (ht : P.underlying t = some (.slice e)) (hi : P.info? e = some i) (hz : i.zero = some z) (hik : i.size = k) (hzk : z.cells.size = k) (hby : i.bytes <= 1024) (hk0 : 0 < k) (hd : ∀ y, d = some y -> y < F.nt)
  (hxv : VR G st.sto w (xv st1.env x) xv0) (hfr : freshK (keyOf d) loc 1 -> st.sto (st.lvl, keyOf d) = none) (hgo : UQ d k x loc items ui st1 K) :
  ∃ v w' st' G', Zpi P t ty xv0 yv w v w' /\ K st' /\ Sim F G' st' (a.put d v) w' := by
 obtain ⟨_, hgo⟩ := hgo
 split at hgo
 ·rename_i zs hq
  rw [hq] at hxv
  obtain ⟨g1, g2, g3, g4, g5, hk⟩ := hgo
  obtain ⟨v, w', G', h1, h2⟩ := ZsM (ty := ty) h it ht hi hz hik hzk hby hk0 hd hxv g1 g2 g3 (hfr g4) g5
  rw [it.kl.lvl] at hk
  exact ⟨v, w', _, G', h1, hk, h2⟩
 ·rename_i id len s hq
  rw [hq] at hxv
  split at hgo <;> try contradiction
  rename_i k' es u hw ver hs1
  obtain ⟨rfl, rfl, rfl, g1, hk⟩ := hgo
  obtain ⟨hnd, ob0, hs0, hwk⟩ := it.kl.only _ _ hs1
  have hob : ob0 = .ar k' es u s ver := by cases hwk; rfl
  subst hob
  by_cases huu : u = true -> ui = true
  ·obtain ⟨v, w', G', h1, h2⟩ := Zpj (ty := ty) h it ht hi hz hik hzk hby hk0 hd hs0 hnd hxv huu g1
   have : (u && ui) = u := by cases u <;> cases ui <;> simp_all
   rw [this] at hk
   exact ⟨v, w', _, G', h1, hk, h2⟩
  ·have huu2 : u = true /\ ui = false := by cases u <;> cases ui <;> simp_all
   obtain ⟨rfl, rfl⟩ := huu2
   have hkl := h.kl it.kl
   have hfz := hkl.1.freeze hs1
   have hx1 := hkl.2.vr (.hd id [] 0 es.length none s) xv0 hnd hxv
   have hx2 := hfz.2.vr (.hd id [] 0 es.length none s) xv0 (fun h => h) hx1
   have hs2 : (ZA st1 id (.ar k' es false s ver)).sto id = some (.ar k' es false s ver) := by rw [JL]; unfold ZZ; rw [if_pos rfl]
   have it2 : IT G (ZA st1 id (.ar k' es false s ver)) (ZA st1 id (.ar k' es false s ver)) w (fun _ => False) items (fun _ => none) false k' yv news :=
    IT.mk0 it.fc it.un (fun i0 e0 f t0 h1 h2 => by
     obtain ⟨x, hx, hr⟩ := it.rd i0 e0 f t0 h1 h2
     exact ⟨x, hx, Rds.mono hfz.2.av hfz.2.same hr⟩) (fun h => by cases h)
   obtain ⟨v, w', G', h1, h2⟩ := Zpj (ty := ty) hfz.1 it2 ht hi hz hik hzk hby hk0 hd hs2 (fun h => h) hx2 (fun h => by cases h) g1
   rw [Uf, Q3] at h2
   exact ⟨v, w', _, G', h1, hk, h2⟩
 ·contradiction
theorem Zjw (h : SOk G S w) {id : Oid} {k : Nat} {es es' : Row} {u : Bool} {hw ver off len s : Nat} {p : Pth} {cap : Option Nat} {v : Value} (hs : S id = some (.ar k es u hw ver)) (hg : getp es p = some es') (hst : QI p s hw ver u) (hv : hdR G S id p off len cap s v) (hl : off + len <= es'.length) {k0 : Nat} (hk0 : UnR k0 (cut es' off len)) :
  ∃ cs, FC w k0 len v cs /\ ∀ (i : Nat) (e : List Tr) (f : Nat) (t : Tr), (cut es' off len)[i]? = some e -> e[f]? = some t -> ∃ x, cs[i * k0 + f]? = some x /\ Yk G w (Av G S w) id p u (off + i) f x t := by
 obtain ⟨_, k2, es2, u2, hw2, ver2, hs2, _, hrel⟩ := hv
 rw [hs] at hs2; cases hs2
 obtain ⟨es3, k', ad, c, hg3, _, hun, rfl, hlc, _, _, hor⟩ := hrel hst
 rw [hg] at hg3; cases hg3
 by_cases h0 : len = 0
 ·subst h0
  refine ⟨[], ⟨by simp, ad, c, rfl, ?_⟩, fun i e f t h => by simp [cut] at h⟩
  cases ad with
  | none => exact .inr ⟨rfl, rfl⟩
  | some ad => exact .inl ⟨ad, rfl, fun j u hj => by simp at hj⟩
 ·have hr := ZhO h hs hst hg
  unfold Xb at hr
  rcases hor with hz | ⟨_, hz⟩ | ⟨b, cc, hG, rfl, hoc⟩
  ·omega
  ·exact absurd hz h0
  ·rw [hG] at hr
   obtain ⟨k2, vs, ty, h1, h2, h3, h4, h5, h6⟩ := hr
   have hlt : off < es'.length := by omega
   have hm := List.mem_of_getElem? (List.getElem?_eq_getElem hlt)
   have hkk : k2 = k' := by rw [<- h2 _ hm, hun _ hm]
   subst hkk
   have hcl : (cut es' off len).length = len := Y7 hl
   have hk2 : k2 = k0 := by
    have : (cut es' off len)[0]? = some es'[off] := by
     rw [Zby, if_pos (by omega)]
     simp [hlt]
    rw [<- hk0 _ (List.mem_of_getElem? this), <- h2 _ hm]
   subst hk2
   have hll : (off + len) * k2 <= vs.size := by rw [h4]; exact Nat.mul_le_mul_right _ (by omega)
   rw [Nat.add_mul] at hll
   refine ⟨(vs.toList.drop (off * k2)).take (len * k2), ⟨by simp; omega, _, c, rfl, .inl ⟨_, rfl, fun j u hj => ?_⟩⟩, fun i e f t hi hf => ?_⟩
   ·rw [List.getElem?_take] at hj
    split at hj <;> try contradiction
    rw [List.getElem?_drop] at hj
    rw [V2, cell_of_row w b _ vs ty (0, 0) h3]
    simpa using hj
   ·rw [Zby] at hi
    split at hi <;> try contradiction
    rename_i hil
    obtain ⟨x, hx, hc⟩ := h6 (off + i) e f t hi hf
    have hfl := (List.getElem?_eq_some_iff.1 hf).1
    rw [h2 e (List.mem_of_getElem? hi)] at hfl
    refine ⟨x, ?_, hc⟩
    rw [List.getElem?_take, if_pos (ZaI hil hfl), List.getElem?_drop]
    rw [Nat.add_mul] at hx
    rw [<- Nat.add_assoc]
    simpa using hx
end
end Go.Fd

/-
  FOUNDATION 32: append: the loud operation. Own work.
-/
namespace Go.Fd
section
variable {P : Program} {F : Fr} {G G' : Gh} {S S' : Sto} {st st1 st2 : St} {a : Act} {w w' : World} {C : Zt} {oper : Oper} {D D2 : Oid -> Prop}
theorem IT.sv (h : Sim F G st a w) {id : Oid} {l : List IV} {k b c : Nat} {K1 : List Tr -> Bool -> St -> Prop} (hs : st.sto id = some (.bx l)) (hl2 : id.1 = st.lvl) (hg : G id [] = some (b, c)) (hlen : l.length = k) (hm : ZgP l st K1) :
  ∃ ts u st2 D N news, K1 ts u st2 /\ IT G st (VK id st2) w D [ts] N u k (.slice (some ⟨b, 0, none⟩) 1 1) news := by
 obtain ⟨b', c', vs, ty, hb1, hb2, hvs⟩ := h.ok.obs _ _ hs
 rw [hg] at hb1; cases hb1
 have hvl : vs.size = k := by rw [<- hlen]; simpa using Jo hvs
 obtain ⟨ts, u, st2, D2, src, h1, h2, _, h4, h5, h6, _, h8⟩ := ZeM h l _ st _ _ (Kl.refl st) hvs hm
 have htl : ts.length = k := by rw [h4, hlen]
 have hk2 := h2.step (fun j cells hj => h.ok.low j cells hj) h.outl hl2 (by rw [hs]; rfl)
 have hs2 := (h.kl h2).1
 have hav : ∀ blk, Av G st2.sto w blk -> Av G (VK id st2).sto w blk := fun blk hb => ⟨hb.1, fun i ob hi ho => by
  by_cases hil : i.1 = st2.lvl
  ·rw [U1 hil (by rw [h2.lvl]; exact hl2)] at hi
   split at hi
   ·cases hi
   ·obtain ⟨ob0, g1, g2⟩ := Option.map_eq_some_iff.1 hi
    refine hb.2 i ob0 g1 ?_
    subst g2
    cases ob0 <;> exact ho
  ·have : (VK id st2).sto i = st2.sto i := by rw [YI (st := VK id st2) hil, YI hil]; rfl
   rw [this] at hi
   exact hb.2 i ob hi ho⟩
 let N : Pth -> Option (Nat × Nat) := fun p => match p with
  | (_, f) :: q => match src f with
   | some j => G j q
   | none => none
  | [] => none
 have es1 : ∀ {i : Nat} {e : List Tr}, [ts][i]? = some e -> i = 0 /\ e = ts := fun {i e} hi => by
  cases i with
  | zero => simp at hi; exact ⟨rfl, hi.symm⟩
  | succ i => simp at hi
 have vat : ∀ {f : Nat} {t : Tr}, ts[f]? = some t -> ∃ v, vs.toList[f]? = some v := fun {f t} hf => by
  have hlt : f < k := by rw [<- htl]; exact (List.getElem?_eq_some_iff.1 hf).1
  exact ⟨vs.toList[f]'(by simpa [hvl] using hlt), by simp [hvl, hlt]⟩
 have hsrc1 : u = true -> ∀ p b1 c1, p ≠ [] -> (getp [ts] p).isSome = true -> N p = some (b1, c1) -> ∃ f q j k2 zs hw2 ver2, p = (0, f) :: q /\ src f = some j /\ G j q = some (b1, c1) /\ D2 j /\ st.sto j = some (.ar k2 zs true hw2 ver2) /\ (getp zs q).isSome = true := by
  intro hu p b1 c1 hp hss hN
  cases p with
  | nil => exact absurd rfl hp
  | cons cd q =>
   obtain ⟨i, f⟩ := cd
   obtain ⟨es2, he2⟩ := Option.isSome_iff_exists.1 hss
   obtain ⟨e0, zs, g1, g2, g3⟩ := JT he2
   obtain ⟨rfl, rfl⟩ := es1 g1
   simp only [N] at hN
   split at hN
   ·rename_i j hj
    obtain ⟨v, hv⟩ := vat g2
    have := h6 hu f _ v g2 hv
    rw [hj] at this
    obtain ⟨r1, r2, k2, zs2, hw2, ver2, r3, r4, r5⟩ := this
    cases r4
    exact ⟨f, q, j, k2, zs, hw2, ver2, rfl, hj, hN, r1, r3, by rw [g3]; rfl⟩
   ·cases hN
 refine ⟨ts, u, st2, _, N, vs.toList, h1, hk2, ⟨by simp [hvl], _, _, rfl, .inl ⟨_, rfl, fun j x hj => ?_⟩⟩, fun e he => by simp at he; subst he; exact htl, fun i e f t hi hf => ?_, fun hu i e f t hi hf => ?_, fun hu i f e zs q es2 hi hf hq => ?_, fun hu p b1 c1 hp hss hN => ?_, fun hu p p' b1 c1 c2 hp hp' hss hss' hN hN' => ?_⟩
 ·have : (⟨b, 0, none⟩ : Addr).add j = ⟨b, j, none⟩ := by
   simp [Addr.add]
   try exact fun h => h.symm
  rw [this]
  have := cell_of_row w b j vs ty (0, 0) hb2
  rw [this]
  simpa using hj
 ·obtain ⟨rfl, rfl⟩ := es1 hi
  obtain ⟨v, hv⟩ := vat hf
  exact ⟨v, by simpa using hv, Rds.mono hav (fun _ _ => rfl) (h5 f t v hf hv)⟩
 ·obtain ⟨rfl, rfl⟩ := es1 hi
  obtain ⟨v, hv⟩ := vat hf
  refine ⟨v, by simpa using hv, ?_⟩
  subst hu
  have := h6 rfl f t v hf hv
  split at this
  ·exact Rds.cell (Rds.mono hav (fun _ _ => rfl) (h5 f t v hf hv)) (fun _ => this)
  ·rename_i j hj
   exact Src.cell this (by simp [N, hj])
 ·obtain ⟨rfl, rfl⟩ := es1 hi
  obtain ⟨v, hv⟩ := vat hf
  have := h6 hu f _ v hf hv
  split at this
  ·rename_i hj
   simp only [UW] at this
   subst this
   obtain ⟨rfl, rfl⟩ := Y6 hq
   unfold Xb
   simp [N, hj]
  ·rename_i j hj
   obtain ⟨r1, r2, k2, zs2, hw2, ver2, r3, r4, r5⟩ := this
   cases r4
   have hr := (h.ok.obs _ _ r3).2.2.2.1 q es2 (.inr rfl) hq
   have hr2 := ZcA (G1 := G) (G2 := G) (A' := fun _ => False) (i := j) rfl hr
   exact Y8 (G := G) (id := j) (p := q) (A := fun _ => False) (by simp [N, hj]) (fun _ r => by simp [N, hj]) (fun hu => by cases hu) (fun b hb => hb.elim) (fun h => by cases h) (fun _ _ _ => rfl) hr2
 ·obtain ⟨f, q, j, k2, zs, hw2, ver2, rfl, hj, g1, g2, g3, g4⟩ := hsrc1 hu p b1 c1 hp hss hN
  exact ⟨j, _, .inl g2, g3, q, c1, .inr rfl, g4, g1⟩
 ·obtain ⟨f, q, j, k2, zs, hw2, ver2, rfl, hj, g1, g2, g3, g4⟩ := hsrc1 hu p b1 c1 hp hss hN
  obtain ⟨f', q', j', k2', zs', hw2', ver2', rfl, hj', g1', g2', g3', g4'⟩ := hsrc1 hu p' b1 c2 hp' hss' hN'
  have hjj := h.ok.dis _ _ _ _ b1 g3 g3' ⟨q, c1, .inr rfl, g4, g1⟩ ⟨q', c2, .inr rfl, g4', g1'⟩
  subst hjj
  rw [g3] at g3'; cases g3'
  rw [h8 f f' j hj hj', (h.ok.obs _ _ g3).2.2.2.2 q q' b1 c1 c2 (.inr rfl) (.inr rfl) g4 g4' g1 g1']
theorem Znh (h : Sim F G st a w) {k md : Nat} {x y : X} {d : Option Nat} {K : St -> Prop} (hd : d = oper.dst) (hdn : ∀ y, d = some y -> y < F.nt) (hc : Jr P (.ap k md x y) oper.op = true) (he : ew C d st K (.ap k md x y)) : LOk P F a w oper K := by
 subst hd
 simp only [Jr] at hc
 split at hc <;> try contradiction
 rename_i args argTypes ho
 split at hc <;> try contradiction
 rename_i xo yo t t2 hargs htys
 simp only [Bool.and_eq_true, beq_iff_eq] at hc
 obtain ⟨⟨⟨rfl, hcx⟩, hcy⟩, hc⟩ := hc
 split at hc <;> try contradiction
 rename_i e hel
 split at hc <;> try contradiction
 rename_i i hi
 simp only [Bool.and_eq_true, beq_iff_eq, decide_eq_true_eq] at hc
 obtain ⟨⟨⟨hik, hk0⟩, hby⟩, hz⟩ := hc
 split at hz <;> try contradiction
 rename_i z hz0
 have hzk : z.cells.size = k := by simpa using hz
 have ht := Y5 hel
 have hargs' : args = #[xo, yo] := by cases args; simpa using hargs
 have htys' : argTypes = #[t, t] := by cases argTypes; simpa using htys
 subst hargs'
 subst htys'
 have hx := h.x hcx
 have hy := h.x hcy
 have fin : (∃ v w' st' G', Zpi P t oper.type (a.eval xo) (a.eval yo) w v w' /\ K st' /\ Sim F G' st' (a.put oper.dst v) w') -> LOk P F a w oper K := by
  rintro ⟨v, w', st', G', hr, hk, hs⟩
  unfold Zpi at hr
  refine Res.of_run (v := v) (w' := w') ?_ ⟨st', G', hk, hs⟩
  unfold execOp
  simp only [ho, resolve, invoke, builtin, Sem.run_bind, Sem.run_pure, Result.andThen_ok, List.map_toArray, List.map_cons, List.map_nil, hr]
 have hfr0 : freshK (keyOf oper.dst) st.loc 1 -> st.sto (st.lvl, keyOf oper.dst) = none := ZcW
 have trees : ∀ {es : Row} {ui : Bool}, Rds w (Av G st.sto w) (a.eval yo) (.sl es) -> (ui = true -> ScR es) -> UQ oper.dst k x st.loc es ui st K -> LOk P F a w oper K := fun {es ui} hr hu hgo => by
  obtain ⟨news, it⟩ := IT.trees (ui := ui) hr hk0 hgo.1 (fun h => (hu h).flat)
  exact fin (Ziz h it ht hi hz0 hik hzk hby hk0 hdn hx hfr0 hgo)
 simp only [ew] at he
 split at he <;> try contradiction
 ·rename_i es hq
  rw [hq] at hy
  split at he
  ·exact trees hy (fun _ => he.1) he.2
  ·exact trees hy (fun h => by cases h) he.2
 ·rename_i es hq
  rw [hq] at hy
  split at he
  ·exact trees hy.2 (fun _ => he.1) he.2
  ·exact trees hy.2 (fun h => by cases h) he.2
 ·rename_i id2 p2 off2 len2 cap2 s2 hq
  rw [hq] at hy
  split at he
  ·obtain ⟨rfl, rfl, rfl, hl2, he⟩ := he
   split at he <;> try contradiction
   rename_i k2 zs u2 hw2 ver2 hs2
   obtain ⟨rfl, rfl, hgo⟩ := he
   cases u2 with
   | true =>
    obtain ⟨news, it⟩ := IT.moved h hs2 hl2 hy hk0 hgo.1
    exact fin (Ziz h it ht hi hz0 hik hzk hby hk0 hdn (it.kl.xv hx) hfr0 hgo)
   | false =>
    obtain ⟨stp, hr⟩ := U4 h hs2 hl2 hy
    obtain ⟨news, it⟩ := IT.trees (ui := false) hr hk0 hgo.1 (fun h => by cases h)
    refine fin (Ziz stp.sim it ht hi hz0 hik hzk hby hk0 hdn (stp.sim.x hcx) (fun hf => ?_) hgo)
    show (VK id2 st).sto (st.lvl, keyOf oper.dst) = none
    rw [U1 rfl hl2]
    split
    ·rfl
    ·rw [hfr0 hf]; rfl
  ·split at he
   ·unfold rdh at he
    split at he <;> try contradiction
    rename_i k2 es u2 hw2 ver2 hs2
    obtain ⟨es', hg, hst, hl, hsc, hgo⟩ := he
    obtain ⟨cs, fc, hcell⟩ := Zjw h.ok hs2 hg hst hy hl hgo.1
    have it : IT G st st w (fun _ => False) (cut es' off2 len2) (fun _ => none) true k (a.eval yo) cs := IT.mk0 (by rw [Y7 hl]; exact fc) hgo.1 (fun i0 e0 f t0 h1 h2 => by
     obtain ⟨x, hx, hr⟩ := hcell i0 e0 f t0 h1 h2
     refine ⟨x, hx, ?_⟩
     have := hsc e0 (List.mem_of_getElem? h1) t0 (List.mem_of_getElem? h2)
     cases t0 with
     | v y => obtain ⟨rfl, hs⟩ := hr; exact .v _ hs
     | sl z => simp [isSc] at this) (fun _ => hsc.flat)
    exact fin (Ziz h it ht hi hz0 hik hzk hby hk0 hdn hx hfr0 hgo)
   ·obtain ⟨_, rfl, he⟩ := he
    split at he <;> try contradiction
    rename_i k2 es u2 hw2 ver2 hs2
    obtain ⟨rfl, hl, hgo⟩ := he
    have hfz := h.freeze hs2
    have hy2 := hfz.2.vr (.hd id2 [] off2 len2 cap2 s2) (a.eval yo) (fun h => h) hy
    have hs2' : (ZA st id2 (.ar k2 es false s2 ver2)).sto id2 = some (.ar k2 es false s2 ver2) := by rw [JL]; unfold ZZ; rw [if_pos rfl]
    obtain ⟨cs, fc, hcell⟩ := Zjw hfz.1.ok hs2' (p := []) rfl (rfl : QI [] s2 s2 ver2 false) hy2 hl hgo.1
    have it : IT G (ZA st id2 (.ar k2 es false s2 ver2)) (ZA st id2 (.ar k2 es false s2 ver2)) w (fun _ => False) (cut es off2 len2) (fun _ => none) false k (a.eval yo) cs := IT.mk0 (by rw [Y7 hl]; exact fc) hgo.1 (fun i0 e0 f t0 h1 h2 => by
     obtain ⟨x, hx, hr⟩ := hcell i0 e0 f t0 h1 h2
     refine ⟨x, hx, ?_⟩
     cases t0 with
     | v y => obtain ⟨rfl, hs⟩ := hr; exact .v _ hs
     | sl z => simpa [Yk] using hr) (fun h => by cases h)
    refine fin (Ziz hfz.1 it ht hi hz0 hik hzk hby hk0 hdn (hfz.1.x hcx) (fun hf => ?_) hgo)
    rw [XG, JL]
    unfold ZZ
    rw [if_neg (fun hh => by have h1 := hfr0 hf; rw [hh, hs2] at h1; cases h1)]
    exact hfr0 hf
 ·rename_i id2 hq
  rw [hq] at hy
  obtain ⟨rfl, hl2, he⟩ := he
  split at he <;> try contradiction
  rename_i l hs2
  obtain ⟨hlen, hm⟩ := he
  obtain ⟨_, b, c, hs3, hgb, hyv⟩ := hy
  rw [hs2] at hs3; cases hs3
  obtain ⟨ts, u, st2, D2, N, news, hgo, it⟩ := IT.sv h hs2 hl2 hgb hlen hm
  rw [<- hyv] at it
  exact fin (Ziz h it ht hi hz0 hik hzk hby hk0 hdn (it.kl.xv hx) hfr0 hgo)
theorem ZhU {k : Nat} {x y : X} {d : Option Nat} {K : St -> Prop} (he : ew C d st K (.a0 k x y)) : ew C d st K (.ap k 0 x y) := by
 simp only [ew, ZbY] at he ⊢
 split at he <;> try contradiction
 rename_i id len s hx
 split at he <;> try contradiction
 rename_i k' es u hw ver hs
 obtain ⟨h1, h2, h3, h4⟩ := he
 have go : ∀ items : Row, ScR items -> UnR k items -> len + items.length <= bigN -> K { ZA st id (.ar k (es ++ items) u (max hw (len + items.length)) ver) with env := ptd d (.hd id [] 0 (len + items.length) none (max hw (len + items.length))) st.env } -> ScR items /\ UQ d k x st.loc items true st K := fun items g1 g2 g3 g4 => by
  refine ⟨g1, ?_⟩
  unfold UQ
  refine ⟨g2, ?_⟩
  simp only [hx, hs, Bool.and_true]
  exact ⟨h1, h2, h3, g3, g4⟩
 unfold Zi8 at h4
 split at h4 <;> try contradiction
 ·rename_i zs hy
  simp only [hy, if_true]
  exact go zs h4.1 h4.2.1 h4.2.2.1 h4.2.2.2
 ·rename_i zs hy
  simp only [hy, if_true]
  exact go zs h4.1 h4.2.1 h4.2.2.1 h4.2.2.2
 ·rename_i id2 p2 off2 len2 c2 s2 hy
  simp only [hy, if_true]
  unfold rdh at h4 ⊢
  split at h4 <;> try contradiction
  obtain ⟨es', q1, q2, q3, q4⟩ := h4
  exact ⟨es', q1, q2, q3, go _ q4.1 q4.2.1 q4.2.2.1 q4.2.2.2⟩
theorem ZsN (h : Sim F G st a w) {k : Nat} {x y : X} {d : Option Nat} {K : St -> Prop} (hd : d = oper.dst) (hdn : ∀ y, d = some y -> y < F.nt) (hc : Jr P (.a0 k x y) oper.op = true) (he : ew C d st K (.a0 k x y)) : LOk P F a w oper K := by
 have hc' : Jr P (.ap k 0 x y) oper.op = true := by simpa only [Jr] using hc
 refine Znh (C := C) h hd hdn hc' ?_
 exact ZhU he
theorem ZhV {k : Nat} {x y : X} {d : Option Nat} {K : St -> Prop} (he : ew C d st K (.a1 k x y)) : ew C d st K (.ap k 1 x y) := by
 simp only [ew, ZbY] at he ⊢
 split at he <;> try contradiction
 rename_i id len s hx
 split at he <;> try contradiction
 rename_i k' es u hw ver hs
 obtain ⟨h1, h2, h3, h4⟩ := he
 have go : ∀ items : Row, UnR k items -> len + items.length <= bigN -> K { ZA st id (.ar k (es ++ items) false (max hw (len + items.length)) ver) with env := ptd d (.hd id [] 0 (len + items.length) none (max hw (len + items.length))) st.env } -> UQ d k x st.loc items false st K := fun items g2 g3 g4 => by
  unfold UQ
  refine ⟨g2, ?_⟩
  simp only [hx, hs, Bool.and_false]
  exact ⟨h1, h2, h3, g3, g4⟩
 unfold ZoS at h4
 split at h4 <;> try contradiction
 ·rename_i zs hy
  simp only [hy]
  rw [if_neg (by decide)]
  exact ⟨trivial, go zs h4.1 h4.2.1 h4.2.2⟩
 ·rename_i zs hy
  simp only [hy]
  rw [if_neg (by decide)]
  exact ⟨trivial, go zs h4.1 h4.2.1 h4.2.2⟩
theorem ZsO (h : Sim F G st a w) {k : Nat} {x y : X} {d : Option Nat} {K : St -> Prop} (hd : d = oper.dst) (hdn : ∀ y, d = some y -> y < F.nt) (hc : Jr P (.a1 k x y) oper.op = true) (he : ew C d st K (.a1 k x y)) : LOk P F a w oper K := by
 have hc' : Jr P (.ap k 1 x y) oper.op = true := by simpa only [Jr] using hc
 refine Znh (C := C) h hd hdn hc' ?_
 exact ZhV he
end
end Go.Fd

/-
  FOUNDATION 33: from what an operation gives to the next state. Own work.
-/
namespace Go.Fd
theorem ZeO : ∀ (obs : List Ob) (b : Nat) (st : St), ({ st with loc := addO b obs st.loc } : St).sto = Vz st.sto st.lvl b obs
 | [], b, st => rfl
 | o :: r, b, st => by
  have h1 := ZeO r (b + 1) { st with loc := ptO b o st.loc }
  have h2 := JL st (st.lvl, b) o
  have h3 : ZA st (st.lvl, b) o = { st with loc := ptO b o st.loc } := by unfold ZA; simp
  rw [h3] at h2
  simp only [addO, Vz]
  rw [<- h2]
  exact h1
section
variable {P : Program} {F : Fr} {G G' : Gh} {st : St} {a : Act} {w w' : World} {C : Zt} {oper : Oper}
theorem Sim.got (h : Sim F G st a w) {d : Option Nat} {key : Nat} {x : IV} {obs : List Ob} {v : Value} (hg : Got G st.sto w st.lvl key x obs v w') (hd : ∀ y, d = some y -> y < F.nt) :
  ∃ G', Sim F G' { st with env := ptd d x st.env, loc := addO key obs st.loc } (a.put d v) w' := by
 obtain ⟨G', h1, h2, h3⟩ := hg
 have hsto : ({ st with env := ptd d x st.env, loc := addO key obs st.loc } : St).sto = Vz st.sto st.lvl key obs := by rw [<- ZeO]; rfl
 refine ⟨G', by cases d <;> exact h.dfr, by cases d <;> simp [Act.put, h.sz], fun s => ?_, by rw [hsto]; exact h1, h.lvl, h.outl, by rw [hsto]; exact h.fr.trans h3 (by show F.lvl <= st.lvl + 1; rw [h.lvl]; omega)⟩
 rw [hsto, Act.put_get a d v s (by rw [h.sz]; exact hd)]
 have h0 := h3.stab _ _ (h.men_lt (h.env s)) (h.env s)
 cases d with
 | none => simpa [ptd] using h0
 | some d =>
  simp only [ptd, Option.some.injEq]
  rw [ZgQ]
  by_cases hs : s = d
  ·rw [if_pos hs, if_pos hs.symm]; exact h2
  ·rw [if_neg hs, if_neg (fun e => hs e.symm)]; exact h0
end
end Go.Fd

/-
  FOUNDATION 34: all operations that turn nothing; calls that see the caller's objects. Own work.
-/
namespace Go.Fd
section
variable {P : Program} {F : Fr} {G G' : Gh} {st : St} {a : Act} {w w' : World} {oper : Oper} {K : ZdJ} {b : Nat}
theorem ZhW {l : List IV} {vs : List Value} {ts : List Tr} {q : Bool} (h : VRs G st.sto w l vs) (ht : totrs l = some (ts, q)) : ∀ (j : Nat) (t : Tr), ts[j]? = some t -> ∃ x, vs[j]? = some x /\ Rds w (Av G st.sto w) x t := fun j t hj => by
 obtain ⟨h1, h2, _⟩ := ZeE h ht
 have hlt : j < vs.length := by rw [<- h1]; exact (List.getElem?_eq_some_iff.1 hj).1
 exact ⟨vs[j], List.getElem?_eq_getElem hlt, h2 j t _ hj (List.getElem?_eq_getElem hlt)⟩
theorem ZsP (h : Sim F G st a w) {C : Zt} {l : Nat} {x : X} (hc : Jr P (.bt x) oper.op = true) (he : ev C (xv st.env) st.sto K (.bt x)) : EvOk P G st a w K l b oper := by
 simp only [Jr] at hc
 split at hc <;> try contradiction
 rename_i t y ho
 have hx := h.x hc
 simp only [ev] at he
 split at he <;> try contradiction
 rename_i c hcc
 split at he <;> try contradiction
 rename_i ts q hts
 obtain ⟨hvs, _⟩ := QM hx hcc
 have htt := ZhW hvs hts
 have e := Ext.alloc w (.cells (a.eval y).cells t)
 refine Res.of_run (v := .pointer (some ⟨w.heap.size, 0, none⟩)) (w' := w.alloc (.cells (a.eval y).cells t)) (by simp [execOp, ho, Instr.box, newVar, newRow, newObj, Sem.run]) ⟨_, _, he, G, h.ok.ext e, ?_, Frm.of_ext e⟩
 have hnew := heap_alloc_new w (.cells (a.eval y).cells t)
 refine ⟨w.heap.size, 0, fun j => ((a.eval y).cells[j]?).getD undef, ⟨?_, fun i ob hs ho => ?_⟩, rfl, fun j u hj => ?_⟩
 ·exact (Array.getElem?_eq_some_iff.1 hnew).1
 ·have := Vy (h.ok.obs i ob hs) ho; omega
 ·obtain ⟨u1, h1, h2⟩ := htt j u hj
  have h1' : (a.eval y).cells[j]? = some u1 := by simpa using h1
  rw [Nat.zero_add, cell_of_row _ _ j (a.eval y).cells t (0, 0) hnew, h1']
  have h3 := h2.mono (A' := Av G st.sto (w.alloc (.cells (a.eval y).cells t))) (w' := w.alloc (.cells (a.eval y).cells t)) (fun blk hb => ZhK e blk hb) (fun blk hb => e.heap blk hb.1)
  have hf : ((a.eval y).cells[j]?).getD undef = u1 := by rw [h1']; rfl
  refine ⟨by dsimp only; rw [hf], ?_⟩
  dsimp only
  rw [hf]
  exact h3
theorem ZsQ (h : Sim F G st a w) {C : Zt} {l n : Nat} {x : X} (hc : Jr P (.sa n x) oper.op = true) (he : ev C (xv st.env) st.sto K (.sa n x)) : EvOk P G st a w K l b oper := by
 simp only [Jr] at hc
 split at hc <;> try contradiction
 rename_i t y ho
 simp only [Bool.and_eq_true] at hc
 have hx := h.x hc.1
 obtain ⟨_, hc⟩ := hc
 split at hc <;> try contradiction
 rename_i m e hu
 simp only [Bool.and_eq_true, beq_iff_eq] at hc
 obtain ⟨rfl, hsz⟩ := hc
 simp only [ev] at he
 split at he <;> try contradiction
 rename_i cells hq
 rw [hq] at hx
 obtain ⟨b0, o, f, hb, hv, hcell⟩ := hx
 obtain ⟨hle, he⟩ := he
 have hlen : ((cells.take m).map fun c => [c]).length = m := by simp [hle]
 have hget : ∀ (i : Nat) (ee : List Tr) (j : Nat) (t : Tr), ((cells.take m).map fun c => [c])[i]? = some ee -> ee[j]? = some t -> j = 0 /\ cells[i]? = some t := fun i ee j t h1 h2 => by
  rw [List.getElem?_map, List.getElem?_take] at h1
  split at h1
  ·cases hci : cells[i]? with
   | none => rw [hci] at h1; cases h1
   | some c =>
    rw [hci] at h1
    simp only [Option.map_some, Option.some.injEq] at h1
    subst h1
    cases j with
    | zero => simp at h2; exact ⟨rfl, by rw [h2]⟩
    | succ j => simp at h2
  ·cases h1
 have hr := Rds.sl (w := w) (A := Av G st.sto w) b0 o m 1 ((cells.take m).map fun c => [c]) (fun i j => f i) hb (fun ee hee => by obtain ⟨c, _, rfl⟩ := List.mem_map.1 hee; rfl) (by rw [hlen]; exact Nat.le_refl _)
  (fun i ee j t h1 h2 => by
   obtain ⟨rfl, hci⟩ := hget i ee j t h1 h2
   rw [Nat.mul_one, Nat.add_zero]
   exact (hcell i t hci).1)
  (fun i ee j t h1 h2 => (hcell i t (hget i ee j t h1 h2).2).2)
 rw [hlen] at hr
 refine EvOk.pure h (v := .slice (some ⟨b0, o, none⟩) m m) ?_ (x := .cs _) ⟨⟨_, by rw [hlen]⟩, hr⟩ he
 have hb := WJ (P := P) (w := w) (isS := false) (lo := none) (hi := none) (mx := none) (len := m) (cap := m) (A := 0) (B := m) (M := m) (.inl ⟨rfl, rfl⟩) (.inl ⟨rfl, rfl, rfl⟩) (.inl ⟨rfl, rfl⟩) (Nat.zero_le _) (Nat.le_refl _) (Nat.le_refl _)
 simp only [execOp, ho, Instr.sliceAt, Sem.run_bind, run_underlying hu, Result.andThen_ok, hv, Instr.sureAddr, hb, VV hsz, Sem.run_pure, Option.map_none]
 congr 3
 simp only [Nat.zero_mul, Addr.add]
 simp
theorem ZhX : ∀ {es : Row} {l : List UInt8}, byR es = some l -> ∃ ns : List Int, es = ns.map (fun n => [Tr.v (.int .u8 n)]) /\ l = ns.map fun n => UInt8.ofNat n.toNat
 | [], l, h => by cases h; exact ⟨[], rfl, rfl⟩
 | e :: r, l, h => by
  unfold byR at h
  split at h
  ·rename_i heq; cases heq
  ·rename_i n r' heq
   cases heq
   cases hr : byR r with
   | none => rw [hr] at h; cases h
   | some l' =>
    rw [hr] at h
    cases h
    obtain ⟨ns, h1, h2⟩ := ZhX hr
    exact ⟨n :: ns, by rw [h1]; rfl, by rw [h2]; rfl⟩
  ·cases h
theorem Zjx {A : Nat -> Prop} {v : Value} {es : Row} {l : List UInt8} {src dst e : TypeId} (hs : P.underlying src = some (.slice e)) (he : P.underlying e = some (.int .u8)) (hd : P.underlying dst = some .string) (h : Rds w A v (.sl es)) (hl : byR es = some l) :
  (convert src dst v).run P w = .ok (.string ⟨l.toArray⟩) w := by
 obtain ⟨ns, rfl, rfl⟩ := ZhX hl
 generalize ht : Tr.sl (ns.map fun n => [Tr.v (.int .u8 n)]) = t at h
 cases h with
 | v x h => cases ht
 | nil ad c =>
  have h0 : ns = [] := by simpa using ht
  subst h0
  cases ad with
  | none => exact run_convert_bytes_nil w src e hs he 0 c dst hd
  | some ad =>
   rw [run_convert_bytes_string w src dst e _ 0 c hs he hd, run_bytesToString w ad 0 c [] (by simpa using run_loadCells_list (P := P) w ad [] (fun j v h => by simp at h))]
   rfl
 | sl b0 o c k es f hA hk hlc hcell hr =>
  cases ht
  have hk1 : ns = [] \/ k = 1 := by
   cases ns with
   | nil => exact .inl rfl
   | cons n r => right; have := hk [Tr.v (.int .u8 n)] (by simp); simpa using this.symm
  have := run_convert_bytes_arg (P := P) w src e hs he b0 o (ns.map fun n => [Tr.v (.int .u8 n)]).length c ns (by simp) (fun i hi => by
   have hi : i < ns.length := by simpa using hi
   rcases hk1 with h0 | rfl
   ·subst h0; simp at hi
   ·have h1 : (ns.map fun n => [Tr.v (.int .u8 n)])[i]? = some [Tr.v (.int .u8 ns[i])] := by simp [hi]
    have h2 := hcell i _ 0 _ h1 rfl
    have h3 := hr i _ 0 _ h1 rfl
    rw [Nat.mul_one, Nat.add_zero] at h2
    rw [h2]
    generalize f i 0 = fv at h3
    cases h3
    simp [List.getD, hi]) dst hd
  rw [this]
  rfl
theorem ZsR (h : Sim F G st a w) {C : Zt} {l : Nat} {x : X} (hc : Jr P (.sb x) oper.op = true) (he : ev C (xv st.env) st.sto K (.sb x)) : EvOk P G st a w K l b oper := by
 simp only [Jr] at hc
 split at hc <;> try contradiction
 rename_i s d y ho
 simp only [Bool.and_eq_true] at hc
 obtain ⟨⟨hcx, hd⟩, hs⟩ := hc
 split at hd <;> try contradiction
 rename_i hd'
 split at hs <;> try contradiction
 rename_i e hel
 split at hs <;> try contradiction
 rename_i hu8
 have hx := h.x hcx
 have fin : ∀ {A : Nat -> Prop} {es : Row} {bs : List UInt8}, Rds w A (a.eval y) (.sl es) -> byR es = some bs -> ZY K (iS ⟨bs.toArray⟩) -> EvOk P G st a w K l b oper := fun hr hb hK => by
  refine EvOk.pure h (v := .string _) ?_ (VR.mk rfl) hK
  have := Zjx (P := P) (Y5 hel) hu8 hd' hr hb
  simp only [execOp, ho, Sem.run_bind, this, Result.andThen_ok, Sem.run_pure]
 simp only [ev] at he
 split at he <;> try contradiction
 ·rename_i es hq
  rw [hq] at hx
  obtain ⟨bs, h1, h2⟩ := he
  exact fin hx h1 h2
 ·rename_i es hq
  rw [hq] at hx
  obtain ⟨bs, h1, h2⟩ := he
  exact fin hx.2 h1 h2
 ·rename_i id p off len cap s0 hq
  rw [hq] at hx
  unfold rdh at he
  split at he <;> try contradiction
  rename_i k es u hw ver hs0
  obtain ⟨es', hg, hst, hle, bs, h1, h2⟩ := he
  exact fin (Wc (A := fun _ => True) h.ok (fun _ _ _ => trivial) hs0 (fun _ _ => trivial) hx hst hg hle).1 h1 h2
theorem Qd {ρ : X -> IV} {x : Option X} {n : Nat} {K K' : Nat -> Prop} (h : ∀ a, K a -> K' a) (hb : Vw ρ x n K) : Vw ρ x n K' := by
 unfold Vw at *
 split at hb <;> try contradiction
 ·exact h _ hb
 ·split at hb <;> try contradiction
  exact ⟨hb.1, h _ hb.2⟩
theorem Zpk (h : Sim F G st a w) : ∀ (o : O), ZcJ o = false -> (∀ mk obs, K mk obs -> Ua st.sto st.lvl b (obs st.lvl b).length) -> Jr P o oper.op = true -> ev (Sem P) (xv st.env) st.sto K o -> EvOk P G st a w K st.lvl b oper
 | .mv x none, _, _, hc, he => Zsi h hc he
 | .mv x (some k), _, hf, hc, he => Zpa h hf hc he
 | .bx x, _, hf, hc, he => ZsA h rfl hf hc he
 | .al z nz, _, hf, hc, he => ZsB h hf hc he
 | .bd z ps nz, _, hf, hc, he => ZsE h hf hc he
 | .bs k n z ps, _, hf, hc, he => ZsD h hf hc he
 | .bw .., hl, _, _, _ => by cases hl
 | .bv k n z ps, _, hf, hc, he => ZsL h rfl hf hc he
 | .ld none p, _, _, hc, he => Zmn h hc he
 | .ld (some m) p, _, _, hc, he => Zmo h hc he
 | .st .., hl, _, _, _ => by cases hl
 | .bi op w x y, _, _, hc, he => Zsl h hc he
 | .qa neg ks x y, _, _, hc, he => ZsH h hc he
 | .nt x, _, _, hc, he => Zsj h hc he
 | .ng x, _, _, hc, he => Zsk h hc he
 | .cv c x, _, _, hc, he => Zsv h hc he
 | .mf f cs, _, _, hc, he => Zso h hc he
 | .ms k z l, _, hf, hc, he => ZsF h hf hc he
 | .sx k x lo hi mx, _, _, hc, he => Znc h hc he
 | .ss x lo hi, _, _, hc, he => ZsG h hc he
 | .fa off p, _, _, hc, he => Zsw h hc he
 | .fd off m x, _, _, hc, he => Zsy h hc he
 | .ia k x i, _, _, hc, he => Zo9 h hc he
 | .ja k n p i, _, _, hc, he => Zsx h hc he
 | .ix x i, _, _, hc, he => Zsu h hc he
 | .jx k n m x i, _, _, hc, he => Zsz h hc he
 | .ln x, _, _, hc, he => Zsr h hc he
 | .lg x, _, _, hc, he => Zss h hc he
 | .la n, _, _, hc, he => Zst h hc he
 | .ap .., hl, _, _, _ => by cases hl
 | .nl .., hl, _, _, _ => by cases hl
 | .cp .., hl, _, _, _ => by cases hl
 | .sh .., hl, _, _, _ => by cases hl
 | .cl .., hl, _, _, _ => by cases hl
 | .cy .., hl, _, _, _ => by cases hl
 | .fz .., hl, _, _, _ => by cases hl
 | .rk .., hl, _, _, _ => by cases hl
 | .mz .., hl, _, _, _ => by cases hl
 | .lz .., hl, _, _, _ => by cases hl
 | .a1 .., hl, _, _, _ => by cases hl
 | .xx, hl, _, _, _ => by cases hl
 | .s0 .., hl, _, _, _ => by cases hl
 | .a0 .., hl, _, _, _ => by cases hl
 | .az .., hl, _, _, _ => by cases hl
 | .sy k x lo hi mx, _, _, hc, he => Znc (C := Sem P) h (by simpa only [Jr] using hc) (by
   simp only [ev] at he ⊢
   split at he <;> first | exact he.elim | (rename_i hq; simp only [hq]; exact he))
 | .sw k x lo hi mx, _, _, hc, he => Znc (C := Sem P) h (by simpa only [Jr] using hc) (by
   simp only [ev] at he ⊢
   generalize xv st.env x = qx at he ⊢
   split at he
   ·exact he
   ·exact he
   ·exact Qd (fun a h => Qd (fun b h => ⟨h.1, h.2.1, Qd (fun m g => ⟨g.1, g.2.1, he.1, g.2.2⟩) h.2.2⟩) h) he.2
   ·exact he.elim)
 | .lt none p, _, _, hc, he => Zmn (C := Sem P) h (by simpa only [Jr] using hc) (by
   simp only [ev] at he ⊢
   split at he <;> first | exact he.elim | (rename_i hq; simp only [hq]; exact he))
 | .lt (some m) p, _, _, hc, he => Zmo (C := Sem P) h (by simpa only [Jr] using hc) (by
   simp only [ev] at he ⊢
   split at he <;> first | exact he.elim | (rename_i hq; simp only [hq]; exact he))
 | .it k x i, _, _, hc, he => Zo9 (C := Sem P) h (by simpa only [Jr] using hc) (by
   simp only [ev] at he ⊢
   generalize xv st.env i = qi at he ⊢
   generalize xv st.env x = qx at he ⊢
   split at he <;> first | exact he.elim | skip
   refine ⟨he.1, ?_⟩
   have he2 := he.2
   split at he2 <;> first | exact he2.elim | exact he2)
 | .mm mx x y, _, _, hc, he => Zsq h hc he
 | .ex i x, _, _, hc, he => Zsn h hc he
 | .pk c x y, _, _, hc, he => Zsm h hc he
 | .ca .pure imp f xs, _, hf, hc, he => ZsI h rfl hf hc he
 | .ca .see imp f xs, _, hf, hc, he => Zpe h rfl hf hc he
 | .ca .same .., hl, _, _, _ => by cases hl
 | .ca .keep .., hl, _, _, _ => by cases hl
 | .ca .any .., hl, _, _, _ => by cases hl
 | .nc x, _, _, hc, he => Zsp h hc he
 | .bt x, _, _, hc, he => ZsP h hc he
 | .sa n x, _, _, hc, he => ZsQ h hc he
 | .sb x, _, _, hc, he => ZsR h hc he
theorem XI {st : St} : ∀ {n b : Nat}, freshK b st.loc n -> Ua st.sto st.lvl b n
 | 0, _, _, j, hj => by omega
 | n + 1, b, h, j, hj => by
  cases j with
  | zero => rw [Nat.add_zero, DX rfl]; exact h.1
  | succ j =>
   have := XI h.2 j (by omega)
   rwa [show b + 1 + j = b + (j + 1) from by omega] at this
theorem Zni {S : Sto} {x : IV} {v : Value} (h : VR G S w x v) : VR G S w (WD x) v := by
 unfold WD
 split
 ·exact h.2
 ·exact h
theorem ZeP {S : Sto} : ∀ {l : List IV} {vs : List Value}, VRs G S w l vs -> VRs G S w (l.map WD) vs
 | [], _, h => h
 | x :: r, _, h => by
  obtain ⟨v, vr, rfl, h1, h2⟩ := h
  exact ⟨v, vr, rfl, Zni h1, ZeP h2⟩
theorem Znj (h : Sim F G st a w) {imp : Bool} {f : X} {xs : List X} {d : Option Nat} {Kw : St -> Prop} (hd : d = oper.dst) (hdn : ∀ y, d = some y -> y < F.nt) (hc : Jr P (.ca .same imp f xs) oper.op = true)
  (he : ew (Sem P) d st Kw (.ca .same imp f xs)) : LOk P F a w oper Kw := by
 subst hd
 simp only [Jr] at hc
 split at hc <;> try contradiction
 rename_i g args at1 ho
 simp only [Bool.and_eq_true] at hc
 have hg := h.x hc.1
 have hargs := h.xs hc.2
 simp only [ew] at he
 split at he <;> try contradiction
 rename_i fid caps hq
 obtain ⟨r, ⟨hr, ⟨fn, hf, hb, hn⟩, hcall⟩, hfr, hk⟩ := he
 rw [hq] at hg
 simp only [VR] at hg
 obtain ⟨cvs, hg, hcv⟩ := hg
 have hcl := h.clean
 have hrun := DD (P := P) (w := w) (caps := cvs) ho hg hf hb hn
 have hc := hcall hcl G w (args.toList.map a.eval ++ cvs) h.ok (WE (ZeP hargs) hcv)
 refine Res.of_enter hrun ?_
 have harr : (args.map a.eval ++ cvs.toArray) = (args.toList.map a.eval ++ cvs).toArray := by cases args; simp
 rw [harr]
 refine hc.mono ?_
 rintro e w' ⟨v, G1, rfl, h1, h2, _, h3⟩
 have hgot := ZcR (l := st.lvl) (b := keyOf oper.dst) (imp := imp) hr hcl h1 h2 h3 (XI hfr)
 obtain ⟨G', hG'⟩ := h.got hgot hdn
 exact ⟨v, rfl, _, G', hk, hG'⟩
theorem Znk (h : Sim F G st a w) {imp : Bool} {f : X} {xs : List X} {d : Option Nat} {Kw : St -> Prop} (hd : d = oper.dst) (hdn : ∀ y, d = some y -> y < F.nt) (hc : Jr P (.ca .keep imp f xs) oper.op = true)
  (he : ew (Sem P) d st Kw (.ca .keep imp f xs)) : LOk P F a w oper Kw := by
 subst hd
 simp only [Jr] at hc
 split at hc <;> try contradiction
 rename_i g args at1 ho
 simp only [Bool.and_eq_true] at hc
 have hg := h.x hc.1
 have hargs := h.xs hc.2
 simp only [ew] at he
 split at he <;> try contradiction
 rename_i fid caps hq
 obtain ⟨r, ⟨hr, ⟨fn, hf, hb, hn⟩, hcall⟩, hfr, hk⟩ := he
 rw [hq] at hg
 simp only [VR] at hg
 obtain ⟨cvs, hg, hcv⟩ := hg
 have hcl := h.clean
 have hrun := DD (P := P) (w := w) (caps := cvs) ho hg hf hb hn
 have hc := hcall hcl G w (args.toList.map a.eval ++ cvs) h.ok (WE hargs hcv)
 refine Res.of_enter hrun ?_
 have harr : (args.map a.eval ++ cvs.toArray) = (args.toList.map a.eval ++ cvs).toArray := by cases args; simp
 rw [harr]
 refine hc.mono ?_
 rintro e w' ⟨v, G1, rfl, h1, h2, _, h3⟩
 have hgot := ZcR (l := st.lvl) (b := keyOf oper.dst) (imp := imp) hr hcl h1 h2 h3 (XI hfr)
 obtain ⟨G', hG'⟩ := h.got hgot hdn
 exact ⟨v, rfl, _, G', hk, hG'⟩
end
end Go.Fd

/-
  FOUNDATION 53: rows that are cut, cleared, copied into; slices held against nil. Own work.
-/
namespace Go.Fd
section
variable {P : Program} {F : Fr} {G G' : Gh} {st : St} {a : Act} {w w' : World} {oper : Oper} {K : ZdJ} {b : Nat}
theorem ZsS (h : Sim F G st a w) {neg : Bool} {x : X} {d : Option Nat} {Kw : St -> Prop} {C : Zt} (hd : d = oper.dst) (hdn : ∀ y, d = some y -> y < F.nt) (hc : Jr P (.nl neg x) oper.op = true)
  (he : ew C d st Kw (.nl neg x)) : LOk P F a w oper Kw := by
 subst hd
 simp only [Jr] at hc
 split at hc <;> try contradiction
 rename_i op t x' y' g ho
 simp only [Bool.and_eq_true, decide_eq_true_eq] at hc
 obtain ⟨⟨⟨hop, hx⟩, ht⟩, hy⟩ := hc
 split at ht <;> try contradiction
 rename_i e ht'
 split at hy <;> try contradiction
 rename_i n c
 have hx := h.x hx
 have fin : ∀ r : Bool, (execOp a.eval oper).run P w = .ok (.value (.bool r)) w -> Kw { st with env := ptd oper.dst (iB r) st.env } -> LOk P F a w oper Kw := fun r hr hk => by
  obtain ⟨G', hs⟩ := h.got (key := 0) (Got.pure (l := st.lvl) h.ok (show VR G st.sto w (iB r) (.bool r) from .v _ rfl)) hdn
  exact Res.of_run hr ⟨_, G', hk, hs⟩
 have run : ∀ (ad : Option Addr) (m k : Nat), a.eval x' = .slice ad m k -> (execOp a.eval oper).run P w = .ok (.value (.bool (if neg then !ad.isNone else ad.isNone))) w := fun ad m k hv => by
  have hg : (eqGuard op t x' (.const (.slice none n c)) (.slice ad m k) (.slice none n c)).run P w = .ok () w := by
   unfold eqGuard
   split <;> rfl
  have hce : a.eval (.const (.slice none n c)) = .slice none n c := rfl
  subst hop
  cases neg <;> simp only [Bool.false_eq_true, if_false, if_true] at hg ho ⊢
  ·have := Lib.run_equalIn_slice_nil (P := P) w 9999 t e ad m k n c ht'
   simp only [execOp, ho, hv, hce]
   simp [hg, binOp, Op.equal, Op.maxDepth, this]
  ·have := Lib.run_equalIn_slice_nil (P := P) w 9999 t e ad m k n c ht'
   simp only [execOp, ho, hv, hce]
   simp [hg, binOp, Op.equal, Op.maxDepth, this]
 have key : ∀ {A : Nat -> Prop} {es : Row}, Rds w A (a.eval x') (.sl es) -> Kw { st with env := ptd oper.dst (iB neg) st.env } -> (es = [] -> Kw { st with env := ptd oper.dst (iB !neg) st.env }) -> LOk P F a w oper Kw := fun {A es} hr h1 h2 => by
  generalize hv : a.eval x' = v at hr
  generalize htt : Tr.sl es = tt at hr
  cases hr with
  | v _ hh => cases htt
  | nil ad k =>
   cases htt
   have hr := run ad 0 k hv
   cases ad with
   | none => exact fin _ (by cases neg <;> exact hr) (h2 rfl)
   | some _ => exact fin _ (by cases neg <;> exact hr) h1
  | sl b0 o k1 k es f hA hk hlc hcell hrr =>
   have hr := run _ _ _ hv
   exact fin _ (by cases neg <;> exact hr) h1
 simp only [ew] at he
 split at he <;> try contradiction
 ·rename_i es hq
  rw [hq] at hx
  exact key hx he.1 he.2
 ·rename_i es hq
  rw [hq] at hx
  exact key hx.2 he.1 he.2
theorem ZfT {es es2 : Row} {m : Nat} {p : Pth} (hp : p ≠ []) (h : getp (es.take m) p = some es2) : getp es p = some es2 := by
 cases p with
 | nil => exact absurd rfl hp
 | cons cd q =>
  obtain ⟨c, d⟩ := cd
  obtain ⟨e, x, g1, g2, g3⟩ := JT h
  rw [List.getElem?_take] at g1
  split at g1
  ·exact XH g1 g2 g3
  ·cases g1
theorem ZhY (h : Sim F G st a w) {id : Oid} {k : Nat} {es es' : Row} {u : Bool} {hw ver : Nat} (hs : st.sto id = some (.ar k es u hw ver)) (hle : es'.length <= hw) (hun : UnR k es')
  (hsub : ∀ p es2, p ≠ [] -> getp es' p = some es2 -> getp es p = some es2) (size : w.heap.size <= w'.heap.size) (heap : ∀ blk, (∀ c, G id [] ≠ some (blk, c)) -> w'.heap[blk]? = w.heap[blk]?)
  (hos : w'.os = w.os) (htape : w'.tape = w.tape) (hout : w'.output = w.output)
  (hrow : ∀ A : Nat -> Prop, (∀ blk, Av G st.sto w blk -> A blk) -> (∀ blk, Av G st.sto w blk -> w'.heap[blk]? = w.heap[blk]?) -> Xb G w' A id [] k u es') :
  Stp F a G st (ZA st id (.ar k es' u hw (ver + 1))) w w' G := by
 have hsome : ∀ q, (getp es' q).isSome = true -> (getp es q).isSome = true := fun q hq => by
  cases q with
  | nil => rfl
  | cons c r =>
   obtain ⟨es2, h2⟩ := Option.isSome_iff_exists.1 hq
   rw [hsub _ es2 (by simp) h2]; rfl
 obtain ⟨o1, o2, o3, o4, o5⟩ := h.ok.obs _ _ hs
 have ht := h.turn (Kl.refl st) (id := id) (ob' := .ar k es' u hw (ver + 1)) (d := none) (x := .un) (v := undef) (G' := G) (w' := w') (fun h => h) (.inr (by rw [hs]; rfl)) (fun _ _ => rfl) size
  (fun blk hb hn => heap blk fun c hg => hn _ hs ⟨[], c, .inl rfl, rfl, hg⟩)
  (fun blk ho => by
   obtain ⟨q, cq, hq, hqs, hgq⟩ := ho
   exact .inl ⟨id, _, .inl rfl, hs, q, cq, hq, hsome q hqs, hgq⟩)
  (fun ob ho => by
   rw [hs] at ho; cases ho
   refine ⟨rfl, Nat.le_refl _, Nat.le_succ _, fun q s2 hbd hq => ?_⟩
   cases q with
   | nil => exact ⟨hq, fun es1 he => ⟨rfl, es', rfl, fun k' hkk _ => by rw [hkk rfl]; exact hun⟩⟩
   | cons c r =>
    have h1 : s2 <= ver := hbd
    have h2 : u = true /\ s2 = ver + 1 := hq
    omega)
  hos htape hout (fun t => ⟨hle, hun, o3, fun p es2 hp he => by
   cases p with
   | nil =>
    simp only [getp, Option.some.injEq] at he
    subst he
    exact hrow _ t.av t.same
   | cons c r =>
    have hg0 := hsub _ es2 (by simp) he
    exact ZfK rfl t.av t.same (fun b1 c1 hg => heap b1 fun c2 hg2 => by
     have := o5 _ [] b1 c1 c2 hp (.inl rfl) (by rw [hg0]; rfl) rfl hg hg2
     cases this) (o4 _ es2 hp hg0), fun p p' b1 c1 c2 hp hp' g1 g2 => o5 p p' b1 c1 c2 hp hp' (hsome p g1) (hsome p' g2)⟩) (fun _ he => by cases he) (fun _ he => by cases he) (fun _ => trivial)
 rw [QN] at ht
 exact Stp.of ht.1 (by rw [JL]; exact ht.2) fun j hj => ⟨fun h => h, by rw [show j = id from hj, hs]; rfl⟩
theorem ZeQ (h : Sim F G st a w) {id : Oid} {k : Nat} {es : Row} {u : Bool} {hw ver : Nat} (hs : st.sto id = some (.ar k es u hw ver)) (m : Nat) :
  Stp F a G st (ZA st id (.ar k (es.take m) u hw (ver + 1))) w w G := by
 obtain ⟨o1, o2, o3, o4, o5⟩ := h.ok.obs _ _ hs
 refine ZhY h hs (by rw [List.length_take]; omega) (fun e he => o2 e (List.mem_of_mem_take he)) (fun p es2 hp he => ZfT hp he) (Nat.le_refl _) (fun _ _ => rfl) rfl rfl rfl fun A hA hh => ?_
 have hr := o4 [] es (.inl rfl) rfl
 unfold Xb at *
 cases hg : G id [] with
 | none =>
  rw [hg] at hr
  simp only at hr ⊢
  rw [hr]; exact List.take_nil
 | some bc =>
  obtain ⟨b1, c1⟩ := bc
  rw [hg] at hr
  simp only at hr ⊢
  obtain ⟨k', vs, ty, h1, h2, h3, h4, h5, h6⟩ := hr
  refine ⟨k', vs, ty, h1, fun e he => h2 e (List.mem_of_mem_take he), h3, h4, by rw [List.length_take]; omega, fun i e f t hi hf => ?_⟩
  rw [List.getElem?_take] at hi
  split at hi
  ·obtain ⟨x, hx, hc⟩ := h6 i e f t hi hf
   exact ⟨x, hx, WF rfl hA hh hc⟩
  ·cases hi
theorem Zd7 (h : Sim F G st a w) {id : Oid} {k : Nat} {es es' : Row} {u : Bool} {hw ver : Nat} (hs : st.sto id = some (.ar k es u hw ver)) {b1 c1 : Nat} {vs vs' : Array Value} {ty : TypeId} (hG : G id [] = some (b1, c1)) (hh : w.heap[b1]? = some (.cells vs ty (0, 0)))
  (hsz : vs'.size = vs.size) (hle : es'.length <= hw) (hun : UnR k es') (hsub : ∀ p es2, p ≠ [] -> getp es' p = some es2 -> getp es p = some es2)
  (hrow : ∀ (i : Nat) (e : List Tr) (f : Nat) (t : Tr), es'[i]? = some e -> e[f]? = some t -> (∃ y, t = .v y /\ UU y = true /\ vs'[i * k + f]? = some y) \/ (vs'[i * k + f]? = vs[i * k + f]? /\ ∃ e0, es[i]? = some e0 /\ e0[f]? = some t)) :
  Stp F a G st (ZA st id (.ar k es' u hw (ver + 1))) w (w.setRow b1 vs') G := by
 obtain ⟨o1, o2, o3, o4, o5⟩ := h.ok.obs _ _ hs
 refine ZhY h hs hle hun hsub (by simp) (fun blk hb => setRow_other w b1 blk _ (fun e => hb c1 (by rw [e]; exact hG))) rfl rfl rfl fun A hA hhA => ?_
 have hr := o4 [] es (.inl rfl) rfl
 unfold Xb at *
 rw [hG] at hr ⊢
 rw [hG] at o3
 simp only [Zci] at o3
 obtain ⟨k', vs0, ty0, h1, h2, h3, h4, h5, h6⟩ := hr
 rw [hh] at h3; cases h3
 have hkk := h1 rfl
 subst hkk
 refine ⟨k', vs', ty, fun _ => rfl, hun, setRow_heap w b1 vs _ ty (0, 0) hh, by rw [hsz]; exact h4, by omega, fun i e f t hi hf => ?_⟩
 rcases hrow i e f t hi hf with ⟨y, rfl, hy, hv⟩ | ⟨hv, e0, he0, hf0⟩
 ·exact ⟨y, hv, rfl, hy⟩
 ·obtain ⟨x, hx, hc⟩ := h6 i e0 f t he0 hf0
  exact ⟨x, by rw [hv]; exact hx, WF rfl hA hhA hc⟩
theorem Stp.put {st' : St} (t : Stp F a G st st' w w' G') {d : Option Nat} {x : IV} {v : Value} (hd : ∀ y, d = some y -> y < F.nt) (hx : VR G' st'.sto w' x v) (he : st'.env = st.env) : Sim F G' { st' with env := ptd d x st.env } (a.put d v) w' := by
 have := t.sim.put (d := d) hx hd
 rw [he] at this
 exact this
theorem ZsT (h : Sim F G st a w) {x : X} {d : Option Nat} {Kw : St -> Prop} {C : Zt} (hd : d = oper.dst) (hdn : ∀ y, d = some y -> y < F.nt) (hc : Jr P (.cp x) oper.op = true)
  (he : ew C d st Kw (.cp x)) : LOk P F a w oper Kw := by
 subst hd
 simp only [Jr] at hc
 split at hc <;> try contradiction
 rename_i args at1 ho
 split at hc <;> try contradiction
 rename_i y t hy ht
 obtain ⟨args⟩ := args
 simp only at hy
 subst hy
 simp only [Bool.and_eq_true, Option.isSome_iff_exists] at hc
 obtain ⟨hx, e, hel⟩ := hc
 have hu := Y5 hel
 have hx := h.x hx
 simp only [ew] at he
 split at he <;> try contradiction
 rename_i es hq
 rw [hq] at hx
 obtain ⟨⟨v, hv⟩, _⟩ := hx
 have hr : (execOp a.eval oper).run P w = .ok (.value (.int .i64 es.length)) w := by
  simp [execOp, ho, resolve, invoke, builtin, Builtin.cap_, ht, run_underlying hu, hv, goInt]
 obtain ⟨G', hs⟩ := h.got (key := 0) (Got.pure (l := st.lvl) h.ok (show VR G st.sto w (iI es.length) (.int .i64 es.length) from .v _ rfl)) hdn
 exact Res.of_run hr ⟨_, G', he, hs⟩
theorem ZsU (h : Sim F G st a w) {k : Nat} {x hi : X} {d : Option Nat} {Kw : St -> Prop} {C : Zt} (hd : d = oper.dst) (hdn : ∀ y, d = some y -> y < F.nt) (hc : Jr P (.sh k x hi) oper.op = true)
  (he : ew C d st Kw (.sh k x hi)) : LOk P F a w oper Kw := by
 subst hd
 simp only [Jr] at hc
 split at hc <;> try contradiction
 rename_i t y h0 ho
 simp only [Bool.and_eq_true] at hc
 obtain ⟨⟨hx, c2⟩, hc⟩ := hc
 split at hc <;> try contradiction
 rename_i e0 hel
 have hu := Y5 hel
 have hsz : szT P e0 = some k := by simpa using hc
 have hx := h.x hx
 have hh := h.x c2
 simp only [ew] at he
 split at he <;> try contradiction
 ·rename_i es hq
  split at he <;> try contradiction
  rename_i kk m hm
  obtain ⟨rfl, hun, hK⟩ := he
  rw [hq] at hx
  rw [hm] at hh
  obtain ⟨hh, _⟩ := hh.val
  obtain ⟨⟨ad, hv⟩, hx⟩ := hx
  rw [hv] at hx
  have hb := WJ (P := P) (w := w) (isS := true) (lo := none) (hi := some (a.eval h0)) (mx := none) (len := es.length) (cap := es.length) (A := 0) (B := es.length) (M := es.length) (.inl ⟨rfl, rfl⟩) (.inr ⟨kk, by rw [hh]⟩) (.inl ⟨rfl, rfl⟩) (Nat.zero_le _) (Nat.le_refl _) (Nat.le_refl _)
  have hr : (execOp a.eval oper).run P w = .ok (.value (.slice (if es.length = 0 then ad else ad.map (·.add (0 * k))) (es.length - 0) (es.length - 0))) w := by
   simp only [execOp, ho, Instr.sliceAt, Sem.run_bind, run_underlying hu, Result.andThen_ok, Instr.slice, hv, Option.map_none, Option.map_some, hb, VV hsz, Sem.run_pure]
  have hcut := Rds.cut (k := k) hx (Nat.zero_le _) (Nat.le_refl _) (Nat.le_refl es.length) (.inl rfl)
  have he0 : cut es 0 (es.length - 0) = es := by simp [cut]
  rw [he0] at hcut
  obtain ⟨G', hs⟩ := h.got (key := 0) (Got.pure (l := st.lvl) h.ok (show VR G st.sto w (.cs es) (.slice (if es.length = 0 then ad else ad.map (·.add (0 * k))) (es.length - 0) (es.length - 0)) from ⟨⟨_, rfl⟩, hcut⟩)) hdn
  exact Res.of_run hr ⟨_, G', hK, hs⟩
 rename_i id p off len cap s hq
 split at he <;> try contradiction
 rename_i kk m hm
 split at he <;> try contradiction
 rename_i k2 es u hw ver hs
 obtain ⟨rfl, rfl, rfl, rfl, rfl, hm0, hml, hle, hK⟩ := he
 rw [hq] at hx
 rw [hm] at hh
 obtain ⟨hh, _⟩ := hh.val
 obtain ⟨_, k3, es3, u3, hw3, ver3, hs3, _, hrel⟩ := hx
 rw [hs] at hs3; cases hs3
 obtain ⟨es4, k', ad, c, hg4, hkk, hun, hv, hlc, _, hcap, hor⟩ := hrel rfl
 simp only [getp, Option.some.injEq] at hg4
 subst hg4
 have hkk := hkk rfl
 subst hkk
 obtain ⟨B, rfl⟩ := Int.eq_ofNat_of_zero_le hm0
 rw [Int.toNat_natCast] at hml hK
 have hb := WJ (P := P) (w := w) (isS := true) (lo := none) (hi := some (a.eval h0)) (mx := none) (len := len) (cap := c) (A := 0) (B := B) (M := c) (.inl ⟨rfl, rfl⟩) (.inr ⟨kk, by rw [hh]⟩) (.inl ⟨rfl, rfl⟩) (Nat.zero_le _) (by omega) (Nat.le_refl _)
 have hr : (execOp a.eval oper).run P w = .ok (.value (.slice (if c = 0 then ad else ad.map (·.add (0 * k'))) (B - 0) (c - 0))) w := by
  simp only [execOp, ho, Instr.sliceAt, Sem.run_bind, run_underlying hu, Result.andThen_ok, Instr.slice, hv, Option.map_none, Option.map_some, hb, VV hsz, Sem.run_pure]
 have hst := ZeQ h hs B
 refine Res.of_run hr ⟨_, G, hK, hst.put hdn ?_ (Q3 _ _ _)⟩
 rw [JL]
 refine ⟨⟨_, _, rfl, by omega⟩, k', es.take B, u, s, ver + 1, by unfold ZZ; rw [if_pos rfl], Nat.le_refl _, fun _ => ⟨es.take B, k', _, _, rfl, fun _ => rfl, fun e he => hun e (List.mem_of_mem_take he), rfl, by omega, fun m hm => by simp at hm, fun h1 h2 => by have := hcap h1 h2; omega, ?_⟩⟩
 rcases hor with h0 | ⟨h0, _⟩ | ⟨b1, c0, hG, rfl, hcc⟩
 ·exact .inl (by omega)
 ·exact absurd rfl h0
 ·by_cases hc0 : c = 0
  ·exact .inl (by omega)
  ·exact .inr (.inr ⟨b1, c0, hG, by simp [hc0, V2], by omega⟩)
theorem ZeR {z : Value} {zl : List Value} (h1 : z.cells.toList = zl) (h2 : ∀ x ∈ zl, UU x = true \/ x = .slice none 0 0) (n : Nat) : ∀ v ∈ (Builtin.zeroCells z.cells n).toList, v.oneCell' = true := fun v hv => by
 simp only [Builtin.zeroCells, Array.toList_map, List.mem_map] at hv
 obtain ⟨i, hi, rfl⟩ := hv
 have hi2 : i < n * z.cells.size := by simpa using hi
 have hz : 0 < z.cells.size := by
  rcases Nat.eq_zero_or_pos z.cells.size with h | h
  ·rw [h] at hi2; simp at hi2
  ·exact h
 have hlt := Nat.mod_lt i hz
 have : z.cells[i % z.cells.size]! = z.cells[i % z.cells.size] := by simp [hlt]
 rw [this]
 have hm : z.cells[i % z.cells.size] ∈ zl := by rw [<- h1]; simp
 rcases h2 _ hm with h | h
 ·generalize z.cells[i % z.cells.size] = y at h
  cases y <;> first | rfl | simp [UU] at h
 ·rw [h]; rfl
theorem ZsV (h : Sim F G st a w) {x : X} {d : Option Nat} {Kw : St -> Prop} {C : Zt} (hd : d = oper.dst) (hdn : ∀ y, d = some y -> y < F.nt) (hc : Jr P (.fz x) oper.op = true)
  (he : ew C d st Kw (.fz x)) : LOk P F a w oper Kw := by
 subst hd
 simp only [Jr] at hc
 split at hc <;> try contradiction
 all_goals
  rename_i y ho
  have hx := h.x hc
  simp only [ew] at he
  split at he <;> try contradiction
  rename_i id len s hq
  obtain ⟨hl, he⟩ := he
  split at he <;> try contradiction
  rename_i k2 zs u hw ver hs
  obtain ⟨rfl, rfl, hK⟩ := he
  rw [hq] at hx
  obtain ⟨h3, h4⟩ := U4 h hs hl hx
  have hr : (execOp a.eval oper).run P w = .ok (.value (a.eval y)) w := by simp [execOp, ho]
  exact Res.of_run hr ⟨_, G, hK, h3.sim.put (show VR G (VK id st).sto w (.tr (.sl zs)) (a.eval y) from h4) hdn⟩
theorem Zlk (h : Sim F G st a w) {id0 : Oid} (hl : id0.1 = st.lvl) : Stp F a G st (ZdK id0 st) w w G /\ (ZdK id0 st).sto id0 = none /\ (ZdK id0 st).lvl = st.lvl /\
  ∀ i, i ≠ id0 -> ∀ (k : Nat) (es : Row) (u : Bool) (hw ver : Nat), st.sto i = some (.ar k es u hw ver) -> (ZdK id0 st).sto i = some (.ar k es u hw ver) := by
 unfold ZdK
 split
 ·rename_i hs
  exact ⟨Stp.refl h, hs, rfl, fun _ _ _ _ _ _ _ h => h⟩
 ·rename_i ob hs
  have kl := (Kl.refl st).step (fun j cells hj => h.ok.low j cells hj) h.outl hl (by rw [hs]; rfl)
  obtain ⟨h1, h2⟩ := h.kl kl
  refine ⟨Stp.of h1 h2 (fun _ hf => hf.elim), by rw [U1 hl hl, if_pos rfl], rfl, fun i hi k es u hw ver hsi => ?_⟩
  by_cases hil : i.1 = st.lvl
  ·rw [U1 hil hl, if_neg hi, hsi]; rfl
  ·rw [ZcB hil, hsi]
theorem Sim.ren (h : Sim F G st a w) {id id0 : Oid} {k : Nat} {zs : Row} {u : Bool} {hw ver : Nat} (hl : id.1 = st.lvl) (hl0 : id0.1 = st.lvl) (hne : id0 ≠ id) (hs : st.sto id = some (.ar k zs u hw ver)) (h0 : st.sto id0 = none)
  {d : Option Nat} {v : Value} (hd : ∀ y, d = some y -> y < F.nt) (hv : hdR G st.sto id [] 0 zs.length none hw v) :
  ∃ G', Sim F G' { ZA (VK id st) id0 (.ar k zs u hw ver) with env := ptd d (.hd id0 [] 0 zs.length none hw) (VK id st).env } (a.put d v) w := by
 have k1 := (Kl.refl st).step (fun j cells hj => h.ok.low j cells hj) h.outl hl (by rw [hs]; rfl)
 obtain ⟨G', hG⟩ : ∃ G' : Gh, G' = fun i => if i = id0 then G id else G i := ⟨_, rfl⟩
 have g0 : G' id0 = G id := by rw [hG]; exact if_pos rfl
 have g1 : ∀ i, i ≠ id0 -> G' i = G i := fun i hi => by rw [hG]; exact if_neg hi
 have hob := h.ok.obs _ _ hs
 refine ⟨G', (h.turn k1 (id := id0) (ob' := .ar k zs u hw ver) (G' := G') (w' := w) (d := d) (x := .hd id0 [] 0 zs.length none hw) (v := v) (fun hf => hf.elim (fun q => q) hne) (.inl hl0) g1 (Nat.le_refl _) (fun _ _ _ => rfl)
  (fun b hb => .inl ⟨id, _, .inr (.inr rfl), hs, ?_⟩) (fun ob hob => by rw [h0] at hob; cases hob) rfl rfl rfl (fun t => ?_) (fun _ hc => by cases hc) hd (fun t => ?_)).1⟩
 ·obtain ⟨p, c, q1, q2, q3⟩ := hb
  exact ⟨p, c, q1, q2, by rw [g0] at q3; exact q3⟩
 ·obtain ⟨o1, o2, o3, o4, o5⟩ := hob
  refine ⟨o1, o2, by rw [g0]; exact o3, fun p es' hp hg => ZeF g0 (fun b hb => t.av b hb) (o4 p es' hp hg), fun p p' b c c' => ?_⟩
  rw [g0]
  exact o5 p p' b c c'
 ·obtain ⟨⟨a0, c0, hv0, hle⟩, k3, es3, u3, hw3, ver3, hs3, hb, hrel⟩ := hv
  rw [hs] at hs3; cases hs3
  refine ⟨⟨a0, c0, hv0, hle⟩, k, zs, u, hw, ver, by unfold ZZ; rw [if_pos rfl], hb, fun hst => ?_⟩
  obtain ⟨es', k', a', c', q1, q2, q3, q4, q5, q6, q7, q8⟩ := hrel hst
  exact ⟨es', k', a', c', q1, q2, q3, q4, q5, q6, by rw [g0]; exact q7, by rw [g0]; exact q8⟩
theorem ZsW (h : Sim F G st a w) {x : X} {d : Option Nat} {Kw : St -> Prop} {C : Zt} (hd : d = oper.dst) (hdn : ∀ y, d = some y -> y < F.nt) (hc : Jr P (.rk x) oper.op = true)
  (he : ew C d st Kw (.rk x)) : LOk P F a w oper Kw := by
 subst hd
 simp only [Jr] at hc
 split at hc <;> try contradiction
 all_goals
  rename_i y ho
  have hx := h.x hc
  simp only [ew] at he
  split at he <;> try contradiction
  rename_i id len s hq
  obtain ⟨hl, hne, he⟩ := he
  split at he <;> try contradiction
  rename_i k2 zs u hw ver hs
  obtain ⟨rfl, rfl, hK⟩ := he
  rw [hq] at hx
  obtain ⟨s1, s2, s3, s4⟩ := Zlk h (id0 := (st.lvl, keyOf oper.dst)) rfl
  have hs' := s4 id (Ne.symm hne) _ _ _ _ _ hs
  have hx' := s1.vr (.hd id [] 0 zs.length none s) (a.eval y) (show ((ZdK (st.lvl, keyOf oper.dst) st).sto id).isSome = true by rw [hs']; rfl) hx
  have hr : (execOp a.eval oper).run P w = .ok (.value (a.eval y)) w := by simp [execOp, ho]
  obtain ⟨G', hG'⟩ := s1.sim.ren (id0 := (st.lvl, keyOf oper.dst)) (hl.trans s3.symm) s3.symm hne hs' s2 hdn hx'
  exact Res.of_run hr ⟨_, G', hK, hG'⟩
theorem Zll (h : Sim F G st a w) {id : Oid} {cells : List IV} {ts : List Tr} {q : Bool} {v : Value} (hs : st.sto id = some (.bx cells)) (hl : id.1 = st.lvl) (ht : totrs cells = some (ts, q)) (hv : abR G st.sto id 0 v) :
  Stp F a G st (VK id st) w w G /\ taR w (Av G (VK id st).sto w) ts v := by
 have kl := (Kl.refl st).step (fun j cells hj => h.ok.low j cells hj) h.outl hl (by rw [hs]; rfl)
 obtain ⟨h1, h2⟩ := h.kl kl
 refine ⟨Stp.of h1 h2 (fun _ hf => hf.elim), ?_⟩
 obtain ⟨cells', b, c, hs', hG, rfl⟩ := hv
 obtain ⟨b', c', vs, ty, hG', hh, hvs⟩ := h.ok.obs _ _ hs
 rw [hG] at hG'; cases hG'
 have htt := ZhW hvs ht
 refine ⟨b, 0, fun j => (vs[j]?).getD undef, kl.av_dead h.ok (.inr rfl) hs ⟨c, hG⟩, rfl, fun j t hj => ?_⟩
 obtain ⟨x, hx, hr⟩ := htt j t hj
 have hx' : vs[j]? = some x := by simpa using hx
 have hf : (vs[j]?).getD undef = x := by rw [hx']; rfl
 rw [Nat.zero_add, cell_of_row _ _ j vs ty (0, 0) hh, hx']
 refine ⟨by dsimp only; rw [hf], ?_⟩
 dsimp only
 rw [hf]
 exact hr.mono (fun b hb => kl.av b hb) (fun _ _ => rfl)
theorem Zjy : ∀ (cs : List X) (ys : List Operand) (st : St), Sim F G st a w -> Zcj cs ys = true -> ∀ {K : List IV -> St -> Prop}, Zk4 cs st K -> ∃ l st', Stp F a G st st' w w G /\ VRs G st'.sto w l (ys.map a.eval) /\ K l st'
 | [], ys, st, h, hc, K, he => by
  cases ys with
  | nil => exact ⟨[], st, Stp.refl h, rfl, he⟩
  | cons y r => simp [Zcj] at hc
 | x :: r, ys, st, h, hc, K, he => by
  cases ys with
  | nil => simp [Zcj] at hc
  | cons y yr =>
   simp only [Zcj, Bool.and_eq_true] at hc
   have hx := h.x hc.1
   simp only [Zk4] at he
   have go : ∀ (t : List Tr) (st1 : St), Stp F a G st st1 w w G -> taR w (Av G st1.sto w) t (a.eval y) -> Zk4 r st1 (fun ts st2 => K (.ta t :: ts) st2) -> ∃ l st', Stp F a G st st' w w G /\ VRs G st'.sto w l ((y :: yr).map a.eval) /\ K l st' := fun t st1 s1 ht he1 => by
    obtain ⟨l, st', s2, hvs, hK⟩ := Zjy r yr st1 s1.sim hc.2 he1
    exact ⟨.ta t :: l, st', s1.trans s2, ⟨_, _, rfl, s2.vr (.ta t) _ trivial ht, hvs⟩, hK⟩
   unfold ZoR at he
   split at he <;> try contradiction
   ·rename_i ts hq
    rw [hq] at hx
    exact go ts st (Stp.refl h) hx he
   ·rename_i id hq
    rw [hq] at hx
    obtain ⟨hl, he⟩ := he
    split at he <;> try contradiction
    rename_i cells hs
    split at he <;> try contradiction
    rename_i ts q ht
    obtain ⟨s1, s2⟩ := Zll h hs hl ht hx
    exact go ts _ s1 s2 he
theorem ZsX (h : Sim F G st a w) {f : Nat} {cs : List X} {d : Option Nat} {Kw : St -> Prop} {C : Zt} (hd : d = oper.dst) (hdn : ∀ y, d = some y -> y < F.nt) (hc : Jr P (.mz f cs) oper.op = true)
  (he : ew C d st Kw (.mz f cs)) : LOk P F a w oper Kw := by
 subst hd
 simp only [Jr] at hc
 split at hc <;> try contradiction
 rename_i g first caps ho
 simp only [Bool.and_eq_true, beq_iff_eq] at hc
 obtain ⟨⟨rfl, hf⟩, hc⟩ := hc
 simp only [ew] at he
 obtain ⟨l, st', s1, hvs, hK⟩ := Zjy cs caps.toList st h hc he
 have h0 : first = #[] := by simpa using hf
 subst h0
 have hm : Array.map a.eval caps = (List.map a.eval caps.toList).toArray := by rw [<- Array.toList_map]
 have hr : (execOp a.eval oper).run P w = .ok (.value (.func (.func f) #[] (List.map a.eval caps.toList).toArray)) w := by simp [execOp, ho, Instr.makeFunc, hm]
 exact Res.of_run hr ⟨_, G, hK, s1.sim.put (show VR G st'.sto w (.fn f l) _ from ⟨_, rfl, hvs⟩) hdn⟩
theorem Zjz {st0 : St} : ∀ (cells : List IV) (vs : List Value) (st : St), Stp F a G st0 st w w G -> VRs G st0.sto w cells vs -> ∀ {K : List Tr -> St -> Prop}, Zk0 cells st K -> ∃ ts st', Stp F a G st st' w w G /\ VRs G st'.sto w (ts.map .tr) vs /\ K ts st'
 | [], vs, st, s, hv, K, he => ⟨[], st, Stp.refl s.sim, hv, he⟩
 | x :: r, vs, st, s, hv, K, he => by
  simp only [VRs] at hv
  obtain ⟨v, vr, rfl, hx, hr⟩ := hv
  simp only [Zk0] at he
  have go : ∀ (t : Tr) (st1 : St), Stp F a G st st1 w w G -> VR G st1.sto w (.tr t) v -> Zk0 r st1 (fun ts st2 => K (t :: ts) st2) -> ∃ ts st', Stp F a G st st' w w G /\ VRs G st'.sto w (ts.map .tr) (v :: vr) /\ K ts st' := fun t st1 s1 ht he1 => by
   obtain ⟨ts, st', s2, hvs, hK⟩ := Zjz r vr st1 (s.trans s1) hr he1
   exact ⟨t :: ts, st', s1.trans s2, ⟨_, _, rfl, s2.vr (.tr t) _ trivial ht, hvs⟩, hK⟩
  unfold Zm3 at he
  split at he <;> try contradiction
  ·rename_i t
   exact go t st (Stp.refl s.sim) (s.vr (.tr t) v trivial hx) he
  ·rename_i es
   have hx2 : VR G st0.sto w (.tr (.sl es)) v := hx.2
   exact go (.sl es) st (Stp.refl s.sim) (s.vr (.tr (.sl es)) v trivial hx2) he
  ·rename_i id len q
   obtain ⟨hl, he⟩ := he
   split at he <;> try contradiction
   rename_i k2 zs u hw ver hs
   obtain ⟨rfl, rfl, he⟩ := he
   have hx2 := s.vr (.hd id [] 0 zs.length none q) v (show (st.sto id).isSome = true by rw [hs]; rfl) hx
   obtain ⟨s1, s2⟩ := U4 s.sim hs hl hx2
   exact go (.sl zs) _ s1 s2 he
theorem ZsY (h : Sim F G st a w) {m : Nat} {p : X} {d : Option Nat} {Kw : St -> Prop} {C : Zt} (hd : d = oper.dst) (hdn : ∀ y, d = some y -> y < F.nt) (hc : Jr P (.lz m p) oper.op = true)
  (he : ew C d st Kw (.lz m p)) : LOk P F a w oper Kw := by
 subst hd
 simp only [Jr] at hc
 split at hc <;> try contradiction
 rename_i t y ho
 simp only [Bool.and_eq_true, XD, beq_iff_eq] at hc
 obtain ⟨⟨ht, hm⟩, hx⟩ := hc
 have hx := h.x hx
 have key : ∀ {ad : Addr} {cs : List Value}, a.eval y = .pointer (some ad) -> cs.length = m -> (∀ (j : Nat) (v : Value), cs[j]? = some v -> w.cell? (ad.add j) = some v) -> (execOp a.eval oper).run P w = .ok (.value (.agg cs.toArray)) w := fun {ad cs} hv hl hcl => by
  subst hl
  simp [execOp, ho, Instr.loadAt, Instr.sureAddr, hv, XF ht hm hcl]
 simp only [ew] at he
 split at he <;> try contradiction
 rename_i id off hq
 rw [hq] at hx
 split at he <;> try contradiction
 rename_i cells hs
 obtain ⟨hlen, he⟩ := he
 obtain ⟨cells', b1, c, hs', hG, hv⟩ := hx
 rw [hs] at hs'; cases hs'
 obtain ⟨b2, c2, vs, ty, hG2, hh, hvs⟩ := h.ok.obs id _ hs
 rw [hG] at hG2; cases hG2
 have hl := Jo hvs
 obtain ⟨ts, st', s1, hts, hK⟩ := Zjz _ _ st (Stp.refl h) (ZaA (Zaz hvs off) m) he
 refine Res.of_run (key (cs := (vs.toList.drop off).take m) hv (by simp [hl] at hl ⊢; omega) fun j v hj => ?_) ⟨_, G, hK, s1.sim.put (show VR G st'.sto w (.ag (ts.map .tr)) _ from ⟨_, rfl, hts⟩) hdn⟩
 rw [List.getElem?_take] at hj
 split at hj <;> try contradiction
 rw [List.getElem?_drop] at hj
 rw [V2, cell_of_row w b1 _ vs ty _ hh]
 simpa using hj
theorem ZsZ (h : Sim F G st a w) {k : Nat} {z : List Value} {x : X} {d : Option Nat} {Kw : St -> Prop} {C : Zt} (hd : d = oper.dst) (hdn : ∀ y, d = some y -> y < F.nt) (hc : Jr P (.cl k z x) oper.op = true)
  (he : ew C d st Kw (.cl k z x)) : LOk P F a w oper Kw := by
 subst hd
 simp only [Jr] at hc
 split at hc <;> try contradiction
 rename_i args at1 ho
 split at hc <;> try contradiction
 rename_i y t hy ht
 obtain ⟨args⟩ := args
 simp only at hy
 subst hy
 simp only [Bool.and_eq_true] at hc
 obtain ⟨hx, hc⟩ := hc
 split at hc <;> try contradiction
 rename_i e hel
 simp only [Bool.and_eq_true, beq_iff_eq, decide_eq_true_eq] at hc
 obtain ⟨⟨⟨hsz, hz⟩, hzl⟩, hk0⟩ := hc
 have hu := Y5 hel
 obtain ⟨i, zv, hi, hzv, hzc, hz3⟩ := V3 hz
 have hzs : zv.cells.size = k := by rw [<- hzl, <- hzc]; simp
 have hx := h.x hx
 simp only [ew] at he
 split at he <;> try contradiction
 rename_i id p off len cap s hq
 split at he <;> try contradiction
 rename_i k2 es u hw ver hs
 obtain ⟨rfl, rfl, rfl, hle, hK⟩ := he
 rw [hq] at hx
 obtain ⟨_, k3, es3, u3, hw3, ver3, hs3, _, hrel⟩ := hx
 rw [hs] at hs3; cases hs3
 obtain ⟨es4, k', ad, c, hg4, hkk, hun, hv, hlc, _, hcap, hor⟩ := hrel rfl
 simp only [getp, Option.some.injEq] at hg4
 subst hg4
 have hkk := hkk rfl
 subst hkk
 have fin : ∀ {w' : World}, (Builtin.clear_ at1 oper.type #[a.eval y]).run P w = .ok (.tuple #[]) w' -> Stp F a G st (ZA st id (.ar k' (es.take off) u s (ver + 1))) w w' G -> LOk P F a w oper Kw := fun {w'} hr hst => by
  have hr2 : (execOp a.eval oper).run P w = .ok (.value (.tuple #[])) w' := by
   simp [execOp, ho, resolve, invoke, builtin, hr]
  exact Res.of_run hr2 ⟨_, G, hK, hst.put hdn (show VR G _ w' (.tu []) (.tuple #[]) from ⟨[], rfl, rfl⟩) (Q3 _ _ _)⟩
 by_cases h0 : len = 0
 ·subst h0
  refine fin ?_ (ZeQ h hs off)
  rw [hv]
  cases ad <;> simp [Builtin.clear_, ht, run_underlying hu]
 ·rcases hor with h1 | ⟨h1, _⟩ | ⟨b1, c0, hG, rfl, hcc⟩
  ·omega
  ·exact absurd rfl h1
  ·have hr0 := (h.ok.obs _ _ hs).2.2.2.1 [] es (.inl rfl) rfl
   unfold Xb at hr0
   rw [hG] at hr0
   obtain ⟨k2, vs, ty, g1, g2, g3, g4, g5, g6⟩ := hr0
   have hkk := g1 rfl
   subst hkk
   have hroom : off * k2 + len * k2 <= vs.size := by
    rw [g4, <- Nat.add_mul]; exact Nat.mul_le_mul_right _ (by omega)
   have hzz : (Builtin.zeroCells zv.cells len).toList.length = len * k2 := by
    rw [Array.length_toList, size_zeroCells, hzs]
   have hst := run_storeCells_at P b1 (off * k2) ty (Builtin.zeroCells zv.cells len).toList 0 vs w g3 (by rw [hzz, Nat.add_zero]; exact hroom) (ZeR hzc hz3 len)
   simp only [Nat.add_zero, hzz] at hst
   refine fin (w' := w.setRow b1 (vs.toList.take (off * k2) ++ (Builtin.zeroCells zv.cells len).toList ++ vs.toList.drop (off * k2 + len * k2)).toArray) ?_ (Zd7 h hs hG g3 ?_ ?_ ?_ ?_ ?_)
   ·rw [hv]
    obtain ⟨len, rfl⟩ : ∃ n, len = n + 1 := ⟨len - 1, by omega⟩
    simp [Builtin.clear_, ht, run_underlying hu, zeroValue, typeInfo, hi, hzv, hst]
   ·simp only [List.size_toArray, List.length_append, List.length_take, List.length_drop, hzz, Array.length_toList]
    omega
   ·rw [List.length_take]
    have := (h.ok.obs _ _ hs).1
    omega
   ·exact fun e he => hun e (List.mem_of_mem_take he)
   ·exact fun p es2 hp he => ZfT hp he
   ·intro i e f t hi hf
    rw [List.getElem?_take] at hi
    split at hi
    ·rename_i hio
     have hfl := (List.getElem?_eq_some_iff.1 hf).1
     rw [g2 e (List.mem_of_getElem? hi)] at hfl
     refine .inr ⟨?_, e, hi, hf⟩
     have hlt : i * k2 + f < off * k2 := ZaI hio hfl
     rw [List.getElem?_toArray, List.append_assoc, List.getElem?_append_left (by rw [List.length_take, Array.length_toList]; omega), List.getElem?_take, if_pos hlt]
     simp
    ·cases hi
theorem Znl {k n m : Nat} {v : Value} {cs : List Value} (h : FC w k n v cs) (hm : m <= n) : (Builtin.firstCells k m v).run P w = .ok (cs.take (m * k)).toArray w := by
 obtain ⟨hl, a0, c, rfl, ⟨ad, rfl, hc⟩ | ⟨rfl, rfl⟩⟩ := h
 ·have hmk : m * k <= n * k := Nat.mul_le_mul_right _ hm
  exact run_firstCells_some (P := P) w k m ad n c (cs.take (m * k)) (by rw [List.length_take]; omega) fun j u hj => by
   rw [List.getElem?_take] at hj
   split at hj
   ·exact hc j u hj
   ·cases hj
 ·have := run_firstCells_none (P := P) w k m n c
  simpa using this
theorem ScR.getp {es es2 : Row} {p : Pth} (h : ScR es) (hp : p ≠ []) (hg : getp es p = some es2) : False := by
 cases p with
 | nil => exact hp rfl
 | cons cd q =>
  obtain ⟨c, d⟩ := cd
  obtain ⟨e, x, g1, g2, g3⟩ := JT hg
  have := h e (List.mem_of_getElem? g1) _ (List.mem_of_getElem? g2)
  simp [isSc] at this
theorem Zmt {t : Tr} (h : isSc t = true) : ∃ y, t = .v y := by
 cases t with
 | v y => exact ⟨y, rfl⟩
 | sl es => simp [isSc] at h
theorem Zs0 (h : Sim F G st a w) {k : Nat} {x y : X} {d : Option Nat} {Kw : St -> Prop} {C : Zt} (hd : d = oper.dst) (hdn : ∀ y, d = some y -> y < F.nt) (hc : Jr P (.cy k x y) oper.op = true)
  (he : ew C d st Kw (.cy k x y)) : LOk P F a w oper Kw := by
 subst hd
 simp only [Jr] at hc
 split at hc <;> try contradiction
 rename_i args at1 ho
 split at hc <;> try contradiction
 rename_i x' y' t hxy ht
 obtain ⟨args⟩ := args
 simp only at hxy
 subst hxy
 simp only [Bool.and_eq_true] at hc
 obtain ⟨⟨hx, hy⟩, hc⟩ := hc
 split at hc <;> try contradiction
 rename_i e hel
 simp only [Bool.and_eq_true, beq_iff_eq, decide_eq_true_eq] at hc
 obtain ⟨hsz, hk0⟩ := hc
 have hu := Y5 hel
 have hx := h.x hx
 have hy := h.x hy
 simp only [ew] at he
 split at he <;> try contradiction
 rename_i id p off len cap s hq
 split at he <;> try contradiction
 rename_i k2 es u hw ver hs
 obtain ⟨rfl, rfl, rfl, hle, hsc, he⟩ := he
 have src : ∃ (zs : Row) (news : List Value), FC w k2 zs.length (a.eval y') news /\ (∀ (i : Nat) (e : List Tr) (f : Nat) (t : Tr), zs[i]? = some e -> e[f]? = some t -> ∃ v, t = .v v /\ UU v = true /\ news[i * k2 + f]? = some v) /\ ScR zs /\ UnR k2 zs /\
   Kw { ZA st id (.ar k2 (es.take off ++ zs.take len ++ es.drop (off + min zs.length len)) u s (ver + 1)) with env := ptd oper.dst (iI (min zs.length len : Nat)) st.env } := by
  have trees : ∀ {A : Nat -> Prop} {zs : Row}, Rds w A (a.eval y') (.sl zs) -> ScR zs -> UnR k2 zs -> ∃ news, FC w k2 zs.length (a.eval y') news /\ (∀ (i : Nat) (e : List Tr) (f : Nat) (t : Tr), zs[i]? = some e -> e[f]? = some t -> ∃ v, t = .v v /\ UU v = true /\ news[i * k2 + f]? = some v) := fun {A zs} hr h1 h2 => by
   obtain ⟨cs, g1, g2⟩ := hr.fc hk0 h2
   refine ⟨cs, g1, fun i e f t hi hf => ?_⟩
   obtain ⟨v, hv, hr2⟩ := g2 i e f t hi hf
   obtain ⟨q, rfl⟩ := Zmt (h1 e (List.mem_of_getElem? hi) t (List.mem_of_getElem? hf))
   obtain ⟨rfl, hs2⟩ := hr2.val
   exact ⟨_, rfl, hs2, hv⟩
  unfold Zm4 at he
  split at he <;> try contradiction
  ·rename_i zs hq2
   rw [hq2] at hy
   obtain ⟨h1, h2, h3⟩ := he
   obtain ⟨news, g1, g2⟩ := trees hy h1 h2
   exact ⟨zs, news, g1, g2, h1, h2, h3⟩
  ·rename_i zs hq2
   rw [hq2] at hy
   obtain ⟨h1, h2, h3⟩ := he
   obtain ⟨news, g1, g2⟩ := trees hy.2 h1 h2
   exact ⟨zs, news, g1, g2, h1, h2, h3⟩
  ·rename_i id2 p2 off2 len2 cap2 s2 hq2
   rw [hq2] at hy
   unfold rdh at he
   split at he <;> try contradiction
   rename_i k4 es4 u4 hw4 ver4 hs4
   obtain ⟨es5, hg5, hst5, hl5, h1, h2, h3⟩ := he
   obtain ⟨news, g1, g2⟩ := Zjw h.ok hs4 hg5 hst5 hy hl5 h2
   refine ⟨_, news, by rw [Y7 hl5]; exact g1, fun i e f t hi hf => ?_, h1, h2, h3⟩
   obtain ⟨v, hv, hc2⟩ := g2 i e f t hi hf
   obtain ⟨q, rfl⟩ := Zmt (h1 e (List.mem_of_getElem? hi) t (List.mem_of_getElem? hf))
   obtain ⟨rfl, hs3⟩ := hc2
   exact ⟨_, rfl, hs3, hv⟩
 obtain ⟨zs, news, fc, hnew, hscz, hunz, hK⟩ := src
 rw [hq] at hx
 obtain ⟨_, k3, es3, u3, hw3, ver3, hs3, _, hrel⟩ := hx
 rw [hs] at hs3; cases hs3
 obtain ⟨es4, k', ad, c, hg4, hkk, hun, hv, hlc, _, hcap, hor⟩ := hrel rfl
 simp only [getp, Option.some.injEq] at hg4
 subst hg4
 have hkk := hkk rfl
 subst hkk
 have hlen : Builtin.lenOf (a.eval y') = pure zs.length := by
  obtain ⟨_, a0, c0, h1, _⟩ := fc
  rw [h1]; rfl
 generalize hn : min zs.length len = n at *
 have hfc := Znl (P := P) fc (m := n) (by omega)
 have fin : ∀ {w' : World}, (Builtin.copy_ at1 oper.type #[a.eval x', a.eval y']).run P w = .ok (.int .i64 n) w' -> Stp F a G st (ZA st id (.ar k' (es.take off ++ zs.take len ++ es.drop (off + n)) u s (ver + 1))) w w' G -> LOk P F a w oper Kw := fun {w'} hr hst => by
  have hr2 : (execOp a.eval oper).run P w = .ok (.value (.int .i64 n)) w' := by
   simp [execOp, ho, resolve, invoke, builtin, hr]
  exact Res.of_run hr2 ⟨_, G, hK, hst.put hdn (show VR G _ w' (iI n) (.int .i64 n) from .v _ rfl) (Q3 _ _ _)⟩
 have hzt : zs.take len = zs.take n := by
  by_cases h1 : zs.length <= len
  ·rw [List.take_of_length_le h1, List.take_of_length_le (by omega)]
  ·rw [show n = len from by omega]
 by_cases h0 : n = 0
 ·subst h0
  have e0 : es.take off ++ zs.take len ++ es.drop (off + 0) = es := by rw [hzt, List.take_zero, List.append_nil, Nat.add_zero, List.take_append_drop]
  rw [e0] at fin
  have hc0 := ZeQ h hs es.length
  rw [List.take_length] at hc0
  refine fin ?_ hc0
  rw [hv]
  cases ad with
  | none => simp [Builtin.copy_, ht, run_underlying hu, hlen, VV hsz, hn, hfc, goInt]
  | some ad => simp [Builtin.copy_, ht, run_underlying hu, hlen, VV hsz, hn, hfc, goInt, storeCells]
 ·rcases hor with h1 | ⟨h1, _⟩ | ⟨b1, c0, hG, rfl, hcc⟩
  ·omega
  ·exact absurd rfl h1
  ·have hr0 := (h.ok.obs _ _ hs).2.2.2.1 [] es (.inl rfl) rfl
   unfold Xb at hr0
   rw [hG] at hr0
   obtain ⟨k2, vs, ty, g1, g2, g3, g4, g5, g6⟩ := hr0
   have hkk := g1 rfl
   subst hkk
   have hroom : off * k2 + n * k2 <= vs.size := by
    rw [g4, <- Nat.add_mul]; exact Nat.mul_le_mul_right _ (by omega)
   have hnl : n * k2 <= zs.length * k2 := Nat.mul_le_mul_right _ (by omega)
   have hcl : (news.take (n * k2)).length = n * k2 := by
    rw [List.length_take, fc.1]; omega
   have hone : ∀ v ∈ news.take (n * k2), v.oneCell' = true := fun v hv2 => by
    have hv3 := List.mem_of_mem_take hv2
    obtain ⟨q, hq1, rfl⟩ := List.getElem_of_mem hv3
    rw [fc.1] at hq1
    have hd : q / k2 < zs.length := Nat.div_lt_of_lt_mul (by rwa [Nat.mul_comm])
    have hm : q % k2 < k2 := Nat.mod_lt _ hk0
    have he1 := List.getElem?_eq_getElem hd
    have hel2 := hunz _ (List.mem_of_getElem? he1)
    obtain ⟨v2, _, hs5, hv5⟩ := hnew (q / k2) _ (q % k2) _ he1 (List.getElem?_eq_getElem (by rw [hel2]; exact hm))
    have : q / k2 * k2 + q % k2 = q := by have := Nat.div_add_mod q k2; rw [Nat.mul_comm] at this; omega
    rw [this, List.getElem?_eq_getElem (by rw [fc.1]; exact hq1)] at hv5
    cases hv5
    generalize news[q] = z at hs5
    cases z <;> first | rfl | simp [UU] at hs5
   have hst := run_storeCells_at P b1 (off * k2) ty (news.take (n * k2)) 0 vs w g3 (by rw [hcl, Nat.add_zero]; exact hroom) hone
   simp only [Nat.add_zero, hcl] at hst
   refine fin (w' := w.setRow b1 (vs.toList.take (off * k2) ++ news.take (n * k2) ++ vs.toList.drop (off * k2 + n * k2)).toArray) ?_ (Zd7 h hs hG g3 ?_ ?_ ?_ ?_ ?_)
   ·rw [hv]
    simp [Builtin.copy_, ht, run_underlying hu, hlen, VV hsz, hn, hfc, goInt, hst]
   ·simp only [List.size_toArray, List.length_append, List.length_drop, hcl, List.length_take, Array.length_toList]
    omega
   ·have := (h.ok.obs _ _ hs).1
    simp only [List.length_append, List.length_take, List.length_drop]
    omega
   ·intro e he
    rcases List.mem_append.1 he with he | he
    ·rcases List.mem_append.1 he with he | he
     ·exact hun e (List.mem_of_mem_take he)
     ·exact hunz e (List.mem_of_mem_take he)
    ·exact hun e (List.mem_of_mem_drop he)
   ·intro p es2 hp hg
    exfalso
    refine ScR.getp (es := es.take off ++ zs.take len ++ es.drop (off + n)) (fun e he t ht => ?_) hp hg
    rcases List.mem_append.1 he with he | he
    ·rcases List.mem_append.1 he with he | he
     ·exact hsc e (List.mem_of_mem_take he) t ht
     ·exact hscz e (List.mem_of_mem_take he) t ht
    ·exact hsc e (List.mem_of_mem_drop he) t ht
   ·intro i e f t hi hf
    have hlt : ∀ {l : Row}, UnR k2 l -> e ∈ l -> f < k2 := fun hU hm => by
     have := (List.getElem?_eq_some_iff.1 hf).1
     rwa [hU e hm] at this
    have hoff : (es.take off).length = off := by rw [List.length_take]; omega
    have hzl : (zs.take len).length = n := by rw [List.length_take]; omega
    have hoff2 : (vs.toList.take (off * k2)).length = off * k2 := by
     rw [List.length_take, Array.length_toList]; omega
    rw [List.getElem?_toArray]
    by_cases hi1 : i < off
    ·rw [List.append_assoc, List.getElem?_append_left (by omega), List.getElem?_take, if_pos hi1] at hi
     have hfl := hlt hun (List.mem_of_getElem? hi)
     have hx1 : i * k2 + f < off * k2 := ZaI hi1 hfl
     refine .inr ⟨?_, e, hi, hf⟩
     rw [List.append_assoc, List.getElem?_append_left (by omega), List.getElem?_take, if_pos hx1]
     simp
    ·obtain ⟨j, rfl⟩ : ∃ j, i = off + j := ⟨i - off, by omega⟩
     by_cases hi2 : j < n
     ·rw [List.getElem?_append_left (by rw [List.length_append]; omega), List.getElem?_append_right (by omega), hoff, Nat.add_sub_cancel_left, hzt, List.getElem?_take, if_pos hi2] at hi
      have hfl := hlt hunz (List.mem_of_getElem? hi)
      have hx1 : j * k2 + f < n * k2 := ZaI hi2 hfl
      obtain ⟨v, rfl, hs6, hv6⟩ := hnew j e f t hi hf
      refine .inl ⟨v, rfl, hs6, ?_⟩
      rw [List.getElem?_append_left (by rw [List.length_append, hoff2, hcl, Nat.add_mul]; omega), List.getElem?_append_right (by rw [hoff2, Nat.add_mul]; omega), hoff2, show (off + j) * k2 + f - off * k2 = j * k2 + f from by rw [Nat.add_mul]; omega, List.getElem?_take, if_pos hx1]
      exact hv6
     ·rw [List.getElem?_append_right (by rw [List.length_append]; omega), List.length_append, hoff, hzl, List.getElem?_drop, show off + n + (off + j - (off + n)) = off + j from by omega] at hi
      have hfl := hlt hun (List.mem_of_getElem? hi)
      refine .inr ⟨?_, e, hi, hf⟩
      have hx1 : n * k2 <= j * k2 := Nat.mul_le_mul_right _ (by omega)
      rw [List.getElem?_append_right (by rw [List.length_append, hoff2, hcl, Nat.add_mul]; omega), List.length_append, hoff2, hcl, List.getElem?_drop, show off * k2 + n * k2 + ((off + j) * k2 + f - (off * k2 + n * k2)) = (off + j) * k2 + f from by rw [Nat.add_mul]; omega]
      simp
theorem Znm {t u ty e : TypeId} {ik : IntKind} {i : TypeInfo} {z : Value} (ht : P.underlying t = some (.slice e)) (hu : P.underlying u = some (.int ik)) (hi : P.info? e = some i) (hz : i.zero = some z) {ad : Option Addr} {n : Nat} (hn0 : 0 < n) (hb : n <= bigN) (hby : i.bytes <= 1024) (hk0 : 0 < i.size) :
  (Builtin.append_ #[t, u] ty #[.slice ad 0 0, .int .i64 n]).run P w =
   .ok (.slice (some ⟨w.heap.size, 0, none⟩) n (grownCap w n 0 e)) (w.drew.alloc (.cells (Builtin.zeroCells z.cells n ++ Builtin.zeroCells z.cells (grownCap w n 0 e - n)) e)) := by
 have hbb : n <= 4294967296 := hb
 have hw : IntKind.i64.wrap (n : Int) = n := XE (by show (-9223372036854775808 : Int) <= (n : Int) /\ (n : Int) <= 9223372036854775807; omega)
 have hneg : ¬ ((n : Int) < 0) := by omega
 have hnb : (n : Int) * (i.bytes : Int) <= 281474976710656 := by
  calc (n : Int) * (i.bytes : Int) <= 4294967296 * 1024 := Int.mul_le_mul (by omega) (by omega) (by omega) (by omega)
   _ <= 281474976710656 := by decide
 have hnb' : ¬ (281474976710656 < (n : Int) * (i.bytes : Int)) := by omega
 have h63' : ¬ (9223372036854775807 < (n : Int)) := by omega
 have h48 : Builtin.nextslicecap n 0 * i.bytes <= 281474976710656 := growslice_fits hn0 (by
  calc n * i.bytes <= 4294967296 * 1024 := Nat.mul_le_mul hbb hby
   _ <= 140737488355328 := by decide)
 have h48' : ¬ (281474976710656 < Builtin.nextslicecap n 0 * i.bytes) := by omega
 have hn0' : ¬ (n * i.size = 0) := by
  have := Nat.mul_pos hn0 hk0
  omega
 have hfo := ZfS (P := P) (w := w) (k := i.size) (n := 0) (v := .slice ad 0 0) (cs := []) ⟨by simp, ad, 0, rfl, (by cases ad with | none => exact .inr ⟨rfl, rfl⟩ | some ad => exact .inl ⟨ad, rfl, fun j u hj => by simp at hj⟩)⟩ (w' := w.drew) rfl
 simp [Builtin.append_, run_underlying ht, run_underlying hu, Go.sizeOf, typeInfo, zeroValue, hi, hz, asInt, asIntOf, hw, hneg, hnb', h63', h48', hn0', Nat.ne_of_gt hn0, Question.forced, hfo, newRow, grownCap]
theorem ZfU {z : Value} {k n : Nat} (hk : z.cells.size = k) {i f : Nat} (hi : i < n) {x : Value} (hf : z.cells[f]? = some x) : (Builtin.zeroCells z.cells n)[i * k + f]? = some x := by
 have hfk : f < k := by rw [<- hk]; exact (Array.getElem?_eq_some_iff.1 hf).1
 have hlt : i * k + f < n * k := ZaI hi hfk
 have hmod : (i * k + f) % k = f := by rw [Nat.add_comm, Nat.add_mul_mod_self_right, Nat.mod_eq_of_lt hfk]
 have hlt2 : f < z.cells.size := by omega
 unfold Builtin.zeroCells
 rw [Array.getElem?_map]
 simp [hlt, hk, hmod]
 rw [getElem!_pos z.cells f hlt2]
 rw [Array.getElem?_eq_getElem hlt2] at hf
 exact Option.some.inj hf
theorem Zs1 {C : Zt} (h : Sim F G st a w) {k : Nat} {z : List Value} {x n : X} {d : Option Nat} {K : St -> Prop} (hd : d = oper.dst) (hdn : ∀ y, d = some y -> y < F.nt) (hc : Jr P (.az k z x n) oper.op = true) (he : ew C d st K (.az k z x n)) : LOk P F a w oper K := by
 subst hd
 simp only [Jr] at hc
 split at hc <;> try contradiction
 rename_i args argTypes ho
 split at hc <;> try contradiction
 rename_i xo no t u hargs htys
 simp only [Bool.and_eq_true] at hc
 obtain ⟨⟨⟨hcx, hcn⟩, hcu⟩, hc⟩ := hc
 split at hcu <;> try contradiction
 rename_i ik hu
 split at hc <;> try contradiction
 rename_i e hel
 simp only [Bool.and_eq_true, beq_iff_eq, decide_eq_true_eq] at hc
 obtain ⟨⟨⟨⟨hsz, hz⟩, hzl⟩, hk0⟩, hby⟩ := hc
 have ht := Y5 hel
 obtain ⟨i, zv, hi, hzv, hzc, hz3⟩ := V3 hz
 obtain ⟨i2, hi2, hks⟩ := Wb hsz
 rw [hi] at hi2; cases hi2
 have hbytes : i.bytes <= 1024 := by simpa [Program.bytesOf, hi] using hby
 have hzs : zv.cells.size = k := by rw [<- hzl, <- hzc]; simp
 have hargs' : args = #[xo, no] := by cases args; simpa using hargs
 have htys' : argTypes = #[t, u] := by cases argTypes; simpa using htys
 subst hargs'
 subst htys'
 have hx := h.x hcx
 have hn := h.x hcn
 simp only [ew] at he
 split at he <;> try contradiction
 rename_i hqx
 split at he <;> try contradiction
 rename_i m hqn
 obtain ⟨hm0, hmb, hfr, hK⟩ := he
 rw [hqx] at hx
 rw [hqn] at hn
 obtain ⟨hn, _⟩ := hn.val
 obtain ⟨⟨ad, hx⟩, _⟩ := hx
 obtain ⟨N, rfl⟩ := Int.eq_ofNat_of_zero_le (Int.le_of_lt hm0)
 simp only [Int.toNat_natCast] at hK
 have hN0 : 0 < N := by omega
 have hNb : N <= bigN := by omega
 have hrun := Znm (P := P) (w := w) (ty := oper.type) ht hu hi hzv (ad := ad) hN0 hNb hbytes (by rw [hks]; exact hk0)
 have hge : N <= grownCap w N 0 e := by simpa using grownCap_ge w N 0 e
 have htrv : ∀ x ∈ z, Rds w (Av G st.sto w) x (trv x) /\ UW (trv x) := fun x hx => by
  rcases hz3 x hx with hx | rfl
  ·have : trv x = .v x := by cases x <;> first | rfl | simp [UU] at hx
   rw [this]; exact ⟨.v x hx, trivial⟩
  ·exact ⟨.nil none 0, rfl⟩
 have hin : ∀ {i' : Nat} {e' : List Tr}, (List.replicate N (z.map trv))[i']? = some e' -> i' < N /\ e' = z.map trv := fun {i' e'} h1 => by
  rw [List.getElem?_replicate] at h1
  split at h1 <;> simp_all
 obtain ⟨G', hG'⟩ := ZeL h (Kl.refl st) (d := oper.dst) (key := keyOf oper.dst) (k := k) (c := grownCap w N 0 e) (es := List.replicate N (z.map trv)) (u := true) (ty := e) (N := fun _ => none) (ZcW hfr) hdn
  (w' := w.drew.alloc (.cells (Builtin.zeroCells zv.cells N ++ Builtin.zeroCells zv.cells (grownCap w N 0 e - N)) e))
  ⟨by simp, fun b hb => heap_alloc_old w.drew _ b hb, rfl, rfl, rfl⟩ (heap_alloc_new w.drew _)
  (by simp only [Array.size_append, size_zeroCells, hzs, <- Nat.add_mul]; congr 1; omega) (by rw [List.length_replicate]; exact hge)
  (fun e' he' => by obtain ⟨_, rfl⟩ := List.mem_replicate.1 he'; simpa using hzl)
  (fun i' e' f t' h1 h2 => by
   obtain ⟨hi', rfl⟩ := hin h1
   rw [List.getElem?_map, Option.map_eq_some_iff] at h2
   obtain ⟨y, hy, rfl⟩ := h2
   have hyf : zv.cells[f]? = some y := by rw [<- hzc] at hy; simpa using hy
   have hfk : f < k := by have := (Array.getElem?_eq_some_iff.1 hyf).1; omega
   refine ⟨y, ?_, Rds.cell (htrv y (List.mem_of_getElem? hy)).1 fun _ => (htrv y (List.mem_of_getElem? hy)).2⟩
   rw [Array.getElem?_append_left (by rw [size_zeroCells, hzs]; exact ZaI hi' hfk)]
   exact ZfU hzs hi' hyf)
  (fun _ i' f e' zs q es2 h1 h2 h3 => by
   obtain ⟨_, rfl⟩ := hin h1
   rw [List.getElem?_map, Option.map_eq_some_iff] at h2
   obtain ⟨y, hy, h2⟩ := h2
   have := (htrv y (List.mem_of_getElem? hy)).2
   rw [h2] at this
   simp only [UW] at this
   subst this
   obtain ⟨rfl, rfl⟩ := Y6 h3
   unfold Xb
   rfl)
  (fun _ _ _ _ _ _ hg => by cases hg) (fun _ _ _ _ _ _ _ _ _ _ hg => by cases hg)
 rw [List.length_replicate] at hG'
 refine Res.of_run (v := _) (w' := _) ?_ ⟨_, G', hK, hG'⟩
 unfold execOp
 simp only [ho, resolve, invoke, builtin, Sem.run_bind, Sem.run_pure, Result.andThen_ok, List.map_toArray, List.map_cons, List.map_nil, hx, hn, List.length_nil, hrun]
end
end Go.Fd

/-
  FOUNDATION 35: calls that turn the caller's objects; all loud operations; one operation with its guard. Own work.
-/
namespace Go.Fd
section
variable {P : Program} {F : Fr} {G G' : Gh} {st : St} {a : Act} {w w' : World} {oper : Oper} {K : ZdJ} {b : Nat}
theorem Sim.gotA (h : Sim F G st a w) {loc' : List (Nat × Ob)} {out' : Sto} {d : Option Nat} {key : Nat} {x : IV} {obs : List Ob} {v : Value} (hg : Zo6 G st.sto (ZR st.lvl loc' out') w st.lvl key x obs v w')
  (hcl : ∀ id ob, ZR st.lvl loc' out' id = some ob -> id.1 < st.lvl + 1) (ho : ∀ i, i.1 = st.lvl -> out' i = st.out i) (hd : ∀ y, d = some y -> y < F.nt) :
  ∃ G', Sim F G' { st with env := ptd d x st.env, loc := addO key obs loc', out := out' } (a.put d v) w' := by
 obtain ⟨G', h1, h2, h3⟩ := hg
 have hsto : ({ st with env := ptd d x st.env, loc := addO key obs loc', out := out' } : St).sto = Vz (ZR st.lvl loc' out') st.lvl key obs := by
  have := ZeO obs key { st with loc := loc', out := out' }
  exact this
 refine ⟨G', by cases d <;> exact h.dfr, by cases d <;> simp [Act.put, h.sz], fun s => ?_, by rw [hsto]; exact h1, h.lvl, ?_, by rw [hsto]; exact h.fr.trans h3 (by show F.lvl <= st.lvl + 1; rw [h.lvl]; omega)⟩
 ·rw [hsto, Act.put_get a d v s (by rw [h.sz]; exact hd)]
  have h0 := h3.stab _ _ (h.men_lt (h.env s)) (h.env s)
  cases d with
  | none => simpa [ptd] using h0
  | some d =>
   simp only [ptd, Option.some.injEq]
   rw [ZgQ]
   by_cases hs : s = d
   ·rw [if_pos hs, if_pos hs.symm]; exact h2
   ·rw [if_neg hs, if_neg (fun e => hs e.symm)]; exact h0
 ·intro id ob hs
  have hs : out' id = some ob := hs
  have hn : id.1 ≠ st.lvl := fun hn => by
   rw [ho id hn] at hs
   have := h.outl id ob hs
   omega
  have := hcl id ob (by unfold ZR; rw [if_neg hn]; exact hs)
  show id.1 < st.lvl
  omega
theorem ZiA {lvl : Nat} {loc : List (Nat × Ob)} {out : Sto} : ∀ {n b : Nat}, freshK b loc n -> Ua (ZR lvl loc out) lvl b n := fun {n b} h =>
 XI (st := ⟨lvl, [], loc, out⟩) h
theorem Zpl (h : Sim F G st a w) {imp : Bool} {f : X} {xs : List X} {d : Option Nat} {Kw : St -> Prop} (hd : d = oper.dst) (hdn : ∀ y, d = some y -> y < F.nt) (hc : Jr P (.ca .any imp f xs) oper.op = true)
  (he : ew (Sem P) d st Kw (.ca .any imp f xs)) : LOk P F a w oper Kw := by
 subst hd
 simp only [Jr] at hc
 split at hc <;> try contradiction
 rename_i g args at1 ho
 simp only [Bool.and_eq_true] at hc
 have hg := h.x hc.1
 have hargs := h.xs hc.2
 simp only [ew] at he
 split at he <;> try contradiction
 rename_i fid caps hq
 obtain ⟨r, loc', out', hou, ⟨hr, ⟨fn, hf, hb, hn⟩, hcall⟩, hfr, hk⟩ := he
 rw [hq] at hg
 simp only [VR] at hg
 obtain ⟨cvs, hg, hcv⟩ := hg
 have hcl := h.clean
 have hrun := DD (P := P) (w := w) (caps := cvs) ho hg hf hb hn
 have hc := hcall hcl G w (args.toList.map a.eval ++ cvs) h.ok (WE (ZeP hargs) hcv)
 refine Res.of_enter hrun ?_
 have harr : (args.map a.eval ++ cvs.toArray) = (args.toList.map a.eval ++ cvs).toArray := by cases args; simp
 rw [harr]
 refine hc.mono ?_
 rintro e w' ⟨v, G1, rfl, h1, h2, hcl', h3⟩
 have hgot := ZcR (l := st.lvl) (b := keyOf oper.dst) (imp := imp) hr hcl' h1 h2 h3 (ZiA hfr)
 obtain ⟨G', hG'⟩ := h.gotA hgot hcl' hou hdn
 exact ⟨v, rfl, _, G', hk, hG'⟩
theorem Zpm (h : Sim F G st a w) {d : Option Nat} {Kw : St -> Prop} (hd : d = oper.dst) (hdn : ∀ y, d = some y -> y < F.nt) : ∀ (o : O), ZcJ o = true -> Jr P o oper.op = true -> ew (Sem P) d st Kw o -> LOk P F a w oper Kw
 | .st m p x, _, hc, he => Zpg h hd hc he
 | .bw k n z ps, _, hc, he => ZsK h hd hdn hc he
 | .ap k md x y, _, hc, he => Znh h hd hdn hc he
 | .nl neg x, _, hc, he => ZsS h hd hdn hc he
 | .cp x, _, hc, he => ZsT h hd hdn hc he
 | .sh k x hi, _, hc, he => ZsU h hd hdn hc he
 | .cl k z x, _, hc, he => ZsZ h hd hdn hc he
 | .cy k x y, _, hc, he => Zs0 h hd hdn hc he
 | .fz x, _, hc, he => ZsV h hd hdn hc he
 | .rk x, _, hc, he => ZsW h hd hdn hc he
 | .mz f cs, _, hc, he => ZsX h hd hdn hc he
 | .lz m p, _, hc, he => ZsY h hd hdn hc he
 | .a1 k x y, _, hc, he => ZsO h hd hdn hc he
 | .xx, _, _, he => False.elim he
 | .s0 m p x, _, hc, he => ZsJ h hd hc he
 | .a0 k x y, _, hc, he => ZsN h hd hdn hc he
 | .az k z x n, _, hc, he => Zs1 h hd hdn hc he
 | .ca .same imp f xs, _, hc, he => Znj h hd hdn hc he
 | .ca .keep imp f xs, _, hc, he => Znk h hd hdn hc he
 | .ca .any imp f xs, _, hc, he => Zpl h hd hdn hc he
theorem Zmu (h : Sim F G st a w) {d : Option Nat} {o : O} {Kw : St -> Prop} (hd : d = oper.dst) (hdn : ∀ y, d = some y -> y < F.nt) (hc : Jr P o oper.op = true) (he : op2 (Sem P) d o st Kw) : LOk P F a w oper Kw := by
 unfold op2 at he
 split at he
 ·rename_i hl; exact Zpm h hd hdn o hl hc he
 ·rename_i hl
  have := Zpk (b := keyOf d) h o (by simpa using hl) (fun mk obs hk => XI hk.1) hc he
  refine this.mono ?_
  rintro v w' ⟨mk, obs, ⟨_, hk⟩, hg⟩
  obtain ⟨G', hs⟩ := h.got hg hdn
  subst hd
  exact ⟨_, G', hk, hs⟩
theorem LOk.wp {o : Oper} {Kw : St -> Prop} {next : Act -> World -> Prop} {Q : Exit -> Act -> World -> Prop} (h : LOk P F a w o Kw) (hn : ∀ st' G' a' w', Kw st' -> Sim F G' st' a' w' -> next a' w') : o.wp P a w next Q :=
 h next Q fun _ _ ⟨st', G', hk, hs⟩ => hn st' G' _ _ hk hs
theorem Sim.known (h : Sim F G st a w) {j : Nat} {c : Bool} (hj : lk j st.env = .tr (.v (.bool c))) (x : IV) (hx : x = iB c) : Sim F G { st with env := pt j x st.env } a w := by
 refine ⟨h.dfr, h.sz, fun t => ?_, h.ok, h.lvl, h.outl, h.fr⟩
 show VR G st.sto w (lk t (pt j x st.env)) _
 rw [ZgQ]
 split
 ·rename_i ht; subst ht hx; have := h.env t; rw [hj] at this; exact this
 ·exact h.env t
theorem ZjA (h : Sim F G st a w) {ops : Array Oper} {o : OP} {Kw : St -> Prop} {next : Act -> World -> Prop} {Q : Exit -> Act -> World -> Prop} (hc : Zla P F.nt ops o oper = true) (he : op1 (Sem P) o st Kw)
  (hn : ∀ st' G' a' w', Kw st' -> Sim F G' st' a' w' -> next a' w') : if Region.wanted oper (yielded ops a.tmps) = true then oper.wp P a w next Q else next (a.put oper.dst undef) w := by
 unfold Zla at hc
 simp only [Bool.and_eq_true, decide_eq_true_eq] at hc
 obtain ⟨⟨⟨hd, hdn⟩, hg⟩, hc⟩ := hc
 have hdn' : ∀ y, o.d = some y -> y < F.nt := fun y hy => by rw [hy] at hdn; simpa using hdn
 unfold op1 at he
 unfold Region.wanted
 split at hg
 ·rename_i hg1 hg2
  rw [hg1] at he
  rw [hg2, if_pos rfl]
  exact (Zmu h hd hdn' hc he).wp hn
 ·rename_i j w1 g w2 hg1 hg2
  rw [hg1] at he
  simp only [hg2]
  simp only [Bool.and_eq_true, beq_iff_eq, decide_eq_true_eq] at hg
  obtain ⟨rfl, hg⟩ := hg
  have hskip : VR G st.sto w (.tu []) undef := ⟨[], rfl, rfl⟩
  simp only at he
  split at he <;> try contradiction
  ·rename_i c hl
   have hv := h.env j
   rw [hl] at hv
   have hv := hv.val.1
   have hy : yielded ops a.tmps g = some c := by
    unfold yielded
    rw [hg]
    simp only [Option.bind_some]
    have hb : a.tmps[j]? = some (.bool c) := by
     rw [Array.getD_eq_getD_getElem?] at hv
     cases hq : a.tmps[j]? with
     | none => rw [hq] at hv; simp [undef] at hv
     | some u => rw [hq] at hv; simp at hv; rw [hv]
    rw [hb]
   rw [hy]
   by_cases hcw : c = w1
   ·rw [if_pos (by simp [hcw])]
    have h' := h.known hl (iB w1) (by rw [hcw])
    exact (Zmu h' hd hdn' hc (he.1 hcw)).wp hn
   ·rw [if_neg (by simp [hcw])]
    have hcw' : c = !w1 := by cases c <;> cases w1 <;> simp_all
    have h' := h.known hl (iB !w1) (by rw [hcw'])
    have := h'.put (d := o.d) (x := .tu []) (v := undef) hskip hdn'
    refine hn _ G _ _ (he.2 hcw') ?_
    rw [<- hd]
    exact this
  ·rename_i hl
   have hv := h.env j
   rw [hl] at hv
   obtain ⟨vs, hv, hvs⟩ := hv
   simp only [VRs] at hvs
   subst hvs
   have hy : yielded ops a.tmps g = none := by
    unfold yielded
    rw [hg]
    simp only [Option.bind_some]
    rw [Array.getD_eq_getD_getElem?] at hv
    cases hq : a.tmps[j]? with
    | none => rfl
    | some u => rw [hq] at hv; simp at hv; rw [hv]
   rw [hy, if_neg (by simp)]
   refine hn _ G _ _ he ?_
   rw [<- hd]
   exact h.put (d := o.d) (x := .tu []) (v := undef) hskip hdn'
 ·cases hg
end
end Go.Fd

/-
  FOUNDATION 36: regions in order, forgetting, codes. Own work.
-/
namespace Go.Fd
theorem ZeS (ks : List Nat) (t : Nat) : ∀ env, lk t (ZdL ks env) = if t ∈ ks then lk t env else .un
 | [] => by simp [ZdL, lk]
 | (s, x) :: r => by
  simp only [ZdL]
  by_cases hs : s ∈ ks
  ·rw [if_pos hs]
   simp only [lk]
   by_cases ht : t = s
   ·subst ht; simp [hs]
   ·rw [if_neg ht, if_neg ht]; exact ZeS ks t r
  ·rw [if_neg hs, ZeS ks t r]
   simp only [lk]
   by_cases ht : t = s
   ·subst ht; simp [hs]
   ·rw [if_neg ht]
theorem ZaJ (js : List Nat) (t : Nat) : ∀ loc, lkO t (Zey js loc) = if t ∈ js then lkO t loc else none
 | [] => by simp [Zey, lkO]
 | (s, x) :: r => by
  simp only [Zey]
  by_cases hs : s ∈ js
  ·rw [if_pos hs]
   simp only [lkO]
   by_cases ht : t = s
   ·subst ht; simp [hs]
   ·rw [if_neg ht, if_neg ht]; exact ZaJ js t r
  ·rw [if_neg hs, ZaJ js t r]
   simp only [lkO]
   by_cases ht : t = s
   ·subst ht; simp [hs]
   ·rw [if_neg ht]
theorem Zmv {l : Nat} {js : List Nat} {t : Nat} : ∀ {env : List (Nat × IV)}, okE l js env -> okm l js (lk t env)
 | [], _ => trivial
 | (s, x) :: r, h => by
  simp only [lk]
  split
  ·exact h.1
  ·exact Zmv h.2
theorem ZjB {l : Nat} {js : List Nat} {t : Nat} {cells : List IV} : ∀ {loc : List (Nat × Ob)}, okL l js loc -> lkO t loc = some (.bx cells) -> ZhH l js cells
 | [], _, h => by cases h
 | (s, .bx c) :: r, h, hl => by
  simp only [lkO] at hl
  split at hl
  ·cases hl; exact h.1
  ·exact ZjB h.2 hl
 | (s, .ar ..) :: r, h, hl => by
  simp only [lkO] at hl
  split at hl
  ·cases hl
  ·exact ZjB (loc := r) h hl
section
variable {P : Program} {F : Fr} {G G' : Gh} {st : St} {a : Act} {w w' : World} {oper : Oper} {ks js : List Nat}
theorem Zg0 (st : St) (i : Oid) : (fgt ks js st).sto i = if i.1 = st.lvl then (if i.2 ∈ js then lkO i.2 st.loc else none) else st.out i := by
 unfold St.sto ZR fgt
 simp only [ZaJ]
theorem Sim.fgt (h : Sim F G st a w) (hc : Fd.clean ks js st) : Sim F G (Fd.fgt ks js st) a w := by
 have del : Del st.sto (Fd.fgt ks js st).sto (fun i => i.1 = st.lvl -> i.2 ∈ js) := by
  refine ⟨fun i ob hs hp => ?_, fun i ob hs => ?_, fun i cells hs => ?_⟩
  ·rw [Zg0]
   split
   ·rename_i hi; rw [if_pos (hp hi), <- DX hi]; exact hs
   ·rename_i hi; rw [<- YI hi]; exact hs
  ·rw [Zg0] at hs
   split at hs
   ·rename_i hi
    split at hs
    ·rename_i hj; exact ⟨by rw [DX hi]; exact hs, fun _ => hj⟩
    ·cases hs
   ·rename_i hi; exact ⟨by rw [YI hi]; exact hs, fun h => absurd h hi⟩
  ·rw [Zg0] at hs
   split at hs
   ·rename_i hi
    split at hs
    ·rename_i hj
     exact ZjB (t := i.2) hc.2 (by rw [ZaJ, if_pos hj]; exact hs)
    ·cases hs
   ·rename_i hi
    have h1 := h.outl i _ hs
    have h2 := h.ok.low i cells (by rw [YI hi]; exact hs)
    refine ZS (fun j hj => fun hl => ?_) cells h2
    have hj : j.1 < i.1 + 1 := hj
    omega
 refine ⟨h.dfr, h.sz, fun t => ?_, del.ok h.ok, h.lvl, h.outl, ⟨h.fr.size, h.fr.old, fun i ob b hs => h.fr.own i ob b (del.only i ob hs).1, h.fr.os, h.fr.tape, h.fr.output, fun x v hx hv => ?_⟩⟩
 ·show VR G _ w (lk t (ZdL ks st.env)) _
  have hm := Zmv (t := t) hc.1
  refine del.vr _ _ hm ?_
  rw [ZeS]
  split
  ·exact h.env t
  ·trivial
 ·refine del.vr x v (JB (fun j hj => fun hl => ?_) x hx) (h.fr.stab x v hx hv)
  have hj : j.1 < F.lvl := hj
  rw [<- h.lvl] at hj
  omega
theorem Zmw {ops : Array Oper} {Q : Exit -> Act -> World -> Prop} {K : St -> Prop} : ∀ (l : List OP) (r : List Oper) (i : Nat) (st : St) (G : Gh) (a : Act) (w : World), Sim F G st a w -> ZaB P F.nt ops l r = true ->
  ops.toList.drop i = r -> wpo (Sem P) l st K -> (∀ st' G' a' w', K st' -> Sim F G' st' a' w' -> Q .normal a' w') -> wpOps P ops Q (List.range' i r.length) a w
 | [], r, i, st, G, a, w, h, hc, hr, he, hq => by
  cases r with
  | nil => exact hq st G a w he h
  | cons => cases hc
 | o :: l, r, i, st, G, a, w, h, hc, hr, he, hq => by
  cases r with
  | nil => cases hc
  | cons oper s =>
   simp only [ZaB, Bool.and_eq_true] at hc
   have hi : ops[i]? = some oper := by
    have := congrArg (fun l => l[0]?) hr
    simpa using this
   have hs : ops.toList.drop (i + 1) = s := by
    rw [<- List.drop_drop, hr]; rfl
   have key := ZjA (ops := ops) (Q := Q) (next := wpOps P ops Q (List.range' (i + 1) s.length)) h hc.1 he (fun st' G' a' w' hk h' => Zmw l s (i + 1) st' G' a' w' h' hc.2 hs hk hq)
   rw [List.length_cons, List.range'_succ]
   simp only [wpOps, hi]
   by_cases hw : Region.wanted oper (yielded ops a.tmps) = true
   ·rw [if_pos hw] at key ⊢; exact .inl key
   ·rw [if_neg hw] at key ⊢; exact key
def Zwv : Ex -> Exit
 | .nrm => .normal
 | .ext i => .exit i
 | .ret => .ret
end
end Go.Fd

/-
  FOUNDATION 37: what a silent operation gives is one thing, and hangs on what it reads alone. Own work.
-/
namespace Go.Fd
def rd : O -> List X
 | .mv x _ | .bx x | .nt x | .ng x | .cv _ x | .ms _ _ x | .fa _ x | .fd _ _ x | .ln x | .lg x | .ex _ x | .nc x | .ld _ x | .lt _ x | .lz _ x | .bt x | .sa _ x | .sb x | .nl _ x | .cp x | .cl _ _ x | .fz x | .rk x => [x]
 | .al .. | .la _ | .xx => []
 | .bd _ ps _ => ps.map (·.2.2)
 | .bs _ _ _ ps | .bw _ _ _ ps | .bv _ _ _ ps => ps.map (·.2)
 | .st _ p x | .s0 _ p x => [p, x]
 | .bi _ _ x y | .qa _ _ x y | .mm _ x y | .ap _ _ x y | .ia _ x y | .it _ x y | .ja _ _ x y | .ix x y | .jx _ _ _ x y | .sh _ x y | .cy _ x y | .a0 _ x y | .a1 _ x y | .az _ _ x y => [x, y]
 | .mf _ cs | .mz _ cs => cs
 | .sx _ x lo hi mx | .sy _ x lo hi mx | .sw _ x lo hi mx => x :: (lo.toList ++ (hi.toList ++ mx.toList))
 | .ss x lo hi => x :: (lo.toList ++ hi.toList)
 | .pk c a b => [c, a, b]
 | .ca _ _ f xs => f :: xs
def Rel {α : Type} (T : (α -> Prop) -> Prop) : Prop := ∃ R : α -> Prop, ∀ K, T K ↔ ∃ r, R r /\ K r
section
variable {α β : Type} {T : (α -> Prop) -> Prop}
theorem ZB : Rel (fun (_ : α -> Prop) => False) := ⟨fun _ => False, fun K => by simp⟩
theorem ZN (r : α) : Rel (fun (K : α -> Prop) => K r) := ⟨fun s => s = r, fun K => by simp⟩
theorem Zw {p : Prop} (h : Rel T) : Rel (fun K => p /\ T K) := by
 obtain ⟨R, hR⟩ := h
 exact ⟨fun r => p /\ R r, fun K => by
   simp only [hR]; constructor
   ·rintro ⟨hp, r, h1, h2⟩; exact ⟨r, ⟨hp, h1⟩, h2⟩
   ·rintro ⟨r, ⟨hp, h1⟩, h2⟩; exact ⟨hp, r, h1, h2⟩⟩
theorem Zb0 {U : β -> (α -> Prop) -> Prop} (h : ∀ y, Rel (U y)) : Rel (fun K => ∃ y, U y K) := by
 refine ⟨fun r => ∃ y, (h y).choose r, fun K => ?_⟩
 constructor
 ·rintro ⟨y, hy⟩
  obtain ⟨r, h1, h2⟩ := ((h y).choose_spec K).1 hy
  exact ⟨r, ⟨y, h1⟩, h2⟩
 ·rintro ⟨r, ⟨y, h1⟩, h2⟩
  exact ⟨y, ((h y).choose_spec K).2 ⟨r, h1, h2⟩⟩
theorem ZG {U : α -> (β -> Prop) -> Prop} (ht : Rel T) (h : ∀ y, Rel (U y)) : Rel (fun K => T fun y => U y K) := by
 obtain ⟨R, hR⟩ := ht
 have h1 : (fun K => T fun y => U y K) = fun K => ∃ y, R y /\ U y K := by funext K; exact propext (hR _)
 rw [h1]
 exact Zb0 fun y => Zw (h y)
theorem ZC {T' : (α -> Prop) -> Prop} (h : ∀ K, T K ↔ T' K) (ht : Rel T') : Rel T := by
 have : T = T' := funext fun K => propext (h K)
 rw [this]; exact ht
theorem Rel.ex (h : Rel T) {K : α -> Prop} (ht : T K) : ∃ r, K r /\ T (fun s => s = r) := by
 obtain ⟨R, hR⟩ := h
 obtain ⟨r, h1, h2⟩ := (hR K).1 ht
 exact ⟨r, h2, (hR _).2 ⟨r, h1, rfl⟩⟩
theorem Rel.mono (h : Rel T) {K K' : α -> Prop} (hk : ∀ r, K r -> K' r) (ht : T K) : T K' := by
 obtain ⟨R, hR⟩ := h
 obtain ⟨r, h1, h2⟩ := (hR K).1 ht
 exact (hR _).2 ⟨r, h1, hk r h2⟩
end
theorem Znn {op : BinOp} {w : Nat} {a b : Value} : Rel (biv op w a b) := by
 by_cases h : ∃ r p, ∀ K, biv op w a b K ↔ p /\ K r
 ·obtain ⟨r, p, h⟩ := h
  exact ZC h (Zw (ZN r))
 ·refine ZC (T' := fun _ => False) (fun K => ⟨fun hk => h ?_, False.elim⟩) ZB
  unfold biv at hk
  split at hk <;> first
   | exact hk.elim
   | exact ⟨_, _, fun K => by simp only [biv]; rw [and_assoc]⟩
   | exact ⟨_, _, fun K => by simp only [biv]; rw [<- and_assoc]⟩
   | exact ⟨_, _, fun K => by simp only [biv]; rw [<- and_assoc, <- and_assoc]⟩
   | exact ⟨_, _, fun K => by simp only [biv]; rw [<- and_assoc, <- and_assoc, <- and_assoc]⟩
   | exact ⟨_, _, fun K => by simp only [biv]; exact Iff.rfl⟩
   | exact ⟨_, True, fun K => by simp only [biv, true_and]; exact Iff.rfl⟩
theorem Zno {q : Nat} {x y : IV} : Rel (eqv q x y) := by
 by_cases h : ∃ r p, ∀ K, eqv q x y K ↔ p /\ K r
 ·obtain ⟨r, p, h⟩ := h
  exact ZC h (Zw (ZN r))
 ·refine ZC (T' := fun _ => False) (fun K => ⟨fun hk => h ?_, False.elim⟩) ZB
  unfold eqv at hk
  split at hk <;> first
   | exact hk.elim
   | exact ⟨_, _, fun K => by simp only [eqv]; exact Iff.rfl⟩
   | exact ⟨_, True, fun K => by simp only [eqv, true_and]; exact Iff.rfl⟩
theorem ZhZ : ∀ {qs : List Nat} {x y : List IV}, Rel (Zev qs x y)
 | [], [], [] => ZC (fun _ => by simp only [Zev]) (ZN true)
 | q :: qs, x :: r, y :: s => ZC (fun _ => by simp only [Zev]) (ZG (Zno (q := q) (x := x) (y := y)) fun a => ZG (ZhZ (qs := qs) (x := r) (y := s)) fun b => ZN (a && b))
 | [], [], _ :: _ => ZC (fun _ => by simp only [Zev]) ZB
 | [], _ :: _, _ => ZC (fun _ => by simp only [Zev]) ZB
 | _ :: _, [], _ => ZC (fun _ => by simp only [Zev]) ZB
 | _ :: _, _ :: _, [] => ZC (fun _ => by simp only [Zev]) ZB
theorem bndI_rel {ρ : X -> IV} {x : Option X} {n : Nat} : Rel (Vw ρ x n) := by
 cases x with
 | none => exact ZC (fun _ => by simp only [Vw]) (ZN n)
 | some x =>
  by_cases h : ∃ k m, ρ x = .tr (.v (.int k m))
  ·obtain ⟨k, m, h⟩ := h
   exact ZC (fun _ => by simp only [Vw, h]) (Zw (p := 0 <= m) (ZN m.toNat))
  ·refine ZC (T' := fun _ => False) (fun K => ⟨fun hk => h ?_, False.elim⟩) ZB
   simp only [Vw] at hk
   split at hk
   ·exact ⟨_, _, ‹_›⟩
   ·exact hk.elim
abbrev MO := (Nat -> Nat -> IV) × (Nat -> Nat -> List Ob)
section
variable {C : Zt} {ρ : X -> IV} {L : Sto}
theorem ZfV {k : Nat} : ∀ (ps : List (Nat × X)) (es : Row) (u : Bool), Rel (fun K : Row × Bool -> Prop => DN ρ k ps es u (fun a b => K (a, b)))
 | [], es, u => by simp only [DN]; exact ZN (es, u)
 | (i, x) :: r, es, u => by
  simp only [DN]
  split
  ·split
   ·exact Zw (Zw (ZfV r _ _))
   ·exact ZB
  ·exact ZB
theorem Zg1 {id : Oid} {p : Pth} {st : Nat} : Rel (fun K : Row × Bool × Nat -> Prop => rdh L id p st fun a b c => K (a, b, c)) := by
 simp only [rdh]
 split
 ·exact Zb0 fun _ => Zw (Zw (ZN _))
 ·exact ZB
theorem ZjC {L : Sto} : ∀ (x : IV), Rel (Zay L x) := by
 intro x
 cases x with
 | tr t => exact ZC (fun _ => by simp only [Zay]; exact Iff.rfl) (ZN _)
 | cs es => exact ZC (fun _ => by simp only [Zay]; exact Iff.rfl) (ZN _)
 | hd id p off len c st => exact ZC (fun _ => by simp only [Zay]) (ZG (Zg1 (L := L) (id := id) (p := p) (st := st)) (U := fun y K => off + len <= y.1.length /\ K (.sl (cut y.1 off len))) fun _ => Zw (ZN _))
 | _ => exact ZC (fun _ => by simp only [Zay]) ZB
theorem Zd8 {L : Sto} : ∀ (l : List IV), Rel (Qa L l)
 | [] => ZC (fun _ => by simp only [Qa]; exact Iff.rfl) (ZN _)
 | x :: r => ZC (fun _ => by simp only [Qa]) (ZG (ZjC (L := L) x) (U := fun t K => Qa L r fun ts => K (t :: ts)) fun t => ZG (Zd8 (L := L) r) (U := fun ts K => K (t :: ts)) fun _ => ZN _)
theorem ZjD {L : Sto} {o : Option Ob} {off : Nat} : Rel (Zeu o L off) := by
 cases o with
 | none => exact ZC (fun _ => by simp only [Zeu]) ZB
 | some ob =>
  cases ob with
  | bx cells => exact ZC (fun _ => by simp only [Zeu]) (ZG (Zd8 (L := L) (cells.drop off)) (U := fun ts K => K (.ta ts)) fun _ => ZN _)
  | ar => exact ZC (fun _ => by simp only [Zeu]) ZB
mutual
theorem Zlm : ∀ (x : IV), Rel (Xd L x)
 | .un => ZC (fun _ => by simp only [Xd]; exact Iff.rfl) (ZN _)
 | .tr t => ZC (fun _ => by simp only [Xd]; exact Iff.rfl) (ZN _)
 | .cs es => ZC (fun _ => by simp only [Xd]; exact Iff.rfl) (ZN _)
 | .hd id p off len c st => ZC (fun _ => by simp only [Xd]) (ZG (Zg1 (L := L) (id := id) (p := p) (st := st)) (U := fun y K => off + len <= y.1.length /\ K (.tr (.sl (cut y.1 off len)))) fun _ => Zw (ZN _))
 | .ag l => ZC (fun _ => by simp only [Xd]) (ZG (ZaK l) (U := fun l' K => K (.ag l')) fun _ => ZN _)
 | .fn f c => ZC (fun _ => by simp only [Xd]) (ZG (ZaK c) (U := fun l' K => K (.fn f l')) fun _ => ZN _)
 | .er => ZC (fun _ => by simp only [Xd]; exact Iff.rfl) (ZN _)
 | .ab id off => ZC (fun _ => by simp only [Xd]) (ZjD (L := L) (o := L id) (off := off))
 | .sv _ => ZC (fun _ => by simp only [Xd]) ZB
 | .ae .. => ZC (fun _ => by simp only [Xd]) ZB
 | .ta c => ZC (fun _ => by simp only [Xd]; exact Iff.rfl) (ZN _)
 | .tu .. => ZC (fun _ => by simp only [Xd]) ZB
 | .ow .. => ZC (fun _ => by simp only [Xd]) ZB
theorem ZaK : ∀ (l : List IV), Rel (JE L l)
 | [] => ZC (fun _ => by simp only [JE]; exact Iff.rfl) (ZN _)
 | x :: r => ZC (fun _ => by simp only [JE]) (ZG (Zlm x) (U := fun x' K => JE L r fun r' => K (x' :: r')) fun x' => ZG (ZaK r) (U := fun r' K => K (x' :: r')) fun _ => ZN _)
end
theorem ZjE : ∀ (o : O), Rel (fun K : MO -> Prop => ev C ρ L (fun m b => K (m, b)) o) := by
 intro o
 have key : ∀ {α : Type} {T : (α -> Prop) -> Prop} {U : α -> (MO -> Prop) -> Prop}, Rel T -> (∀ y, Rel (U y)) -> Rel (fun K => T fun y => U y K) := fun h1 h2 => ZG h1 h2
 cases o
 case bs k n z ps =>
  simp only [ev]
  exact ZG (ZfV (ρ := ρ) (k := k) ps (List.replicate n (z.map trv)) true) (U := fun y (K : MO -> Prop) => K (fun l b => .hd (l, b) [] 0 n none n, fun _ _ => [.ar k y.1 y.2 n 0])) fun _ => ZN _
 case bi op w x y =>
  simp only [ev, ZY]
  split
  ·rename_i a b _ _
   exact ZG (Znn (op := op) (w := w) (a := a) (b := b)) (U := fun r (K : MO -> Prop) => K (fun _ _ => .tr (.v r), fun _ _ => [])) fun _ => ZN _
  ·split <;> first | exact ZN _ | exact ZB
  ·exact ZB
 case qa neg ks x y =>
  simp only [ev, ZY]
  split
  ·rename_i l m _ _
   exact ZG (ZhZ (qs := ks) (x := l) (y := m)) (U := fun r (K : MO -> Prop) => K (fun _ _ => iB (if neg then !r else r), fun _ _ => [])) fun _ => ZN _
  ·exact ZB
 case sx k x lo hi mx =>
  simp only [ev, ZY]
  split
  ·rename_i es _
   refine Zw (ZG (bndI_rel (ρ := ρ) (x := lo) (n := 0)) (U := fun a (K : MO -> Prop) => Vw ρ hi es.length fun b => a <= b /\ b <= es.length /\ Vw ρ mx b fun m => m = b /\ K (fun _ _ => if mx.isSome then .cs (cut es a (b - a)) else .tr (.sl (cut es a (b - a))), fun _ _ => [])) fun a => ?_)
   refine ZG (bndI_rel (ρ := ρ) (x := hi) (n := es.length)) (U := fun b (K : MO -> Prop) => a <= b /\ b <= es.length /\ Vw ρ mx b fun m => m = b /\ K (fun _ _ => if mx.isSome then .cs (cut es a (b - a)) else .tr (.sl (cut es a (b - a))), fun _ _ => [])) fun b => ?_
   exact Zw (Zw (ZG (bndI_rel (ρ := ρ) (x := mx) (n := b)) (U := fun m (K : MO -> Prop) => m = b /\ K (fun _ _ => if mx.isSome then .cs (cut es a (b - a)) else .tr (.sl (cut es a (b - a))), fun _ _ => [])) fun m => Zw (ZN _)))
  ·rename_i es _
   refine Zw (ZG (bndI_rel (ρ := ρ) (x := lo) (n := 0)) (U := fun a (K : MO -> Prop) => Vw ρ hi es.length fun b => a <= b /\ b <= es.length /\ Vw ρ mx b fun m => m = b /\ K (fun _ _ => if mx.isSome || hi.isNone then .cs (cut es a (b - a)) else .tr (.sl (cut es a (b - a))), fun _ _ => [])) fun a => ?_)
   refine ZG (bndI_rel (ρ := ρ) (x := hi) (n := es.length)) (U := fun b (K : MO -> Prop) => a <= b /\ b <= es.length /\ Vw ρ mx b fun m => m = b /\ K (fun _ _ => if mx.isSome || hi.isNone then .cs (cut es a (b - a)) else .tr (.sl (cut es a (b - a))), fun _ _ => [])) fun b => ?_
   exact Zw (Zw (ZG (bndI_rel (ρ := ρ) (x := mx) (n := b)) (U := fun m (K : MO -> Prop) => m = b /\ K (fun _ _ => if mx.isSome || hi.isNone then .cs (cut es a (b - a)) else .tr (.sl (cut es a (b - a))), fun _ _ => [])) fun m => Zw (ZN _)))
  ·rename_i id p off len cap st _
   refine ZG (bndI_rel (ρ := ρ) (x := lo) (n := 0)) (U := fun a (K : MO -> Prop) => Vw ρ hi len fun b => a <= b /\ b <= len /\ Vw ρ mx b fun m => b <= m /\ m <= len /\ wid L id p k /\ K (fun _ _ => .hd id p (off + a) (b - a) (if mx.isSome then some (m - a) else cap.map (· - a)) st, fun _ _ => [])) fun a => ?_
   refine ZG (bndI_rel (ρ := ρ) (x := hi) (n := len)) (U := fun b (K : MO -> Prop) => a <= b /\ b <= len /\ Vw ρ mx b fun m => b <= m /\ m <= len /\ wid L id p k /\ K (fun _ _ => .hd id p (off + a) (b - a) (if mx.isSome then some (m - a) else cap.map (· - a)) st, fun _ _ => [])) fun b => ?_
   exact Zw (Zw (ZG (bndI_rel (ρ := ρ) (x := mx) (n := b)) (U := fun m (K : MO -> Prop) => b <= m /\ m <= len /\ wid L id p k /\ K (fun _ _ => .hd id p (off + a) (b - a) (if mx.isSome then some (m - a) else cap.map (· - a)) st, fun _ _ => [])) fun m => Zw (Zw (Zw (ZN _)))))
  ·exact ZB
 case sw k x lo hi mx =>
  simp only [ev, ZY]
  split
  ·rename_i es _
   refine Zw (ZG (bndI_rel (ρ := ρ) (x := lo) (n := 0)) (U := fun a (K : MO -> Prop) => Vw ρ hi es.length fun b => a <= b /\ b <= es.length /\ Vw ρ mx b fun m => m = b /\ K (fun _ _ => if mx.isSome then .cs (cut es a (b - a)) else .tr (.sl (cut es a (b - a))), fun _ _ => [])) fun a => ?_)
   refine ZG (bndI_rel (ρ := ρ) (x := hi) (n := es.length)) (U := fun b (K : MO -> Prop) => a <= b /\ b <= es.length /\ Vw ρ mx b fun m => m = b /\ K (fun _ _ => if mx.isSome then .cs (cut es a (b - a)) else .tr (.sl (cut es a (b - a))), fun _ _ => [])) fun b => ?_
   exact Zw (Zw (ZG (bndI_rel (ρ := ρ) (x := mx) (n := b)) (U := fun m (K : MO -> Prop) => m = b /\ K (fun _ _ => if mx.isSome then .cs (cut es a (b - a)) else .tr (.sl (cut es a (b - a))), fun _ _ => [])) fun m => Zw (ZN _)))
  ·rename_i es _
   refine Zw (ZG (bndI_rel (ρ := ρ) (x := lo) (n := 0)) (U := fun a (K : MO -> Prop) => Vw ρ hi es.length fun b => a <= b /\ b <= es.length /\ Vw ρ mx b fun m => m = b /\ K (fun _ _ => if mx.isSome || hi.isNone then .cs (cut es a (b - a)) else .tr (.sl (cut es a (b - a))), fun _ _ => [])) fun a => ?_)
   refine ZG (bndI_rel (ρ := ρ) (x := hi) (n := es.length)) (U := fun b (K : MO -> Prop) => a <= b /\ b <= es.length /\ Vw ρ mx b fun m => m = b /\ K (fun _ _ => if mx.isSome || hi.isNone then .cs (cut es a (b - a)) else .tr (.sl (cut es a (b - a))), fun _ _ => [])) fun b => ?_
   exact Zw (Zw (ZG (bndI_rel (ρ := ρ) (x := mx) (n := b)) (U := fun m (K : MO -> Prop) => m = b /\ K (fun _ _ => if mx.isSome || hi.isNone then .cs (cut es a (b - a)) else .tr (.sl (cut es a (b - a))), fun _ _ => [])) fun m => Zw (ZN _)))
  ·rename_i id off len cap st _
   refine Zw (ZG (bndI_rel (ρ := ρ) (x := lo) (n := 0)) (U := fun a (K : MO -> Prop) => Vw ρ hi len fun b => a <= b /\ b <= len /\ Vw ρ mx b fun m => b <= m /\ m <= len /\ K (fun _ _ => .hd id [] (off + a) (b - a) (if mx.isSome then some (m - a) else cap.map (· - a)) st, fun _ _ => [])) fun a => ?_)
   refine ZG (bndI_rel (ρ := ρ) (x := hi) (n := len)) (U := fun b (K : MO -> Prop) => a <= b /\ b <= len /\ Vw ρ mx b fun m => b <= m /\ m <= len /\ K (fun _ _ => .hd id [] (off + a) (b - a) (if mx.isSome then some (m - a) else cap.map (· - a)) st, fun _ _ => [])) fun b => ?_
   exact Zw (Zw (ZG (bndI_rel (ρ := ρ) (x := mx) (n := b)) (U := fun m (K : MO -> Prop) => b <= m /\ m <= len /\ K (fun _ _ => .hd id [] (off + a) (b - a) (if mx.isSome then some (m - a) else cap.map (· - a)) st, fun _ _ => [])) fun m => Zw (Zw (ZN _))))
  ·exact ZB
 case sy k x lo hi mx =>
  simp only [ev, ZY]
  split
  ·rename_i es _
   refine Zw (ZG (bndI_rel (ρ := ρ) (x := lo) (n := 0)) (U := fun a (K : MO -> Prop) => Vw ρ hi es.length fun b => a <= b /\ b <= es.length /\ Vw ρ mx b fun m => m = b /\ K (fun _ _ => if mx.isSome then .cs (cut es a (b - a)) else .tr (.sl (cut es a (b - a))), fun _ _ => [])) fun a => ?_)
   refine ZG (bndI_rel (ρ := ρ) (x := hi) (n := es.length)) (U := fun b (K : MO -> Prop) => a <= b /\ b <= es.length /\ Vw ρ mx b fun m => m = b /\ K (fun _ _ => if mx.isSome then .cs (cut es a (b - a)) else .tr (.sl (cut es a (b - a))), fun _ _ => [])) fun b => ?_
   exact Zw (Zw (ZG (bndI_rel (ρ := ρ) (x := mx) (n := b)) (U := fun m (K : MO -> Prop) => m = b /\ K (fun _ _ => if mx.isSome then .cs (cut es a (b - a)) else .tr (.sl (cut es a (b - a))), fun _ _ => [])) fun m => Zw (ZN _)))
  ·rename_i es _
   refine Zw (ZG (bndI_rel (ρ := ρ) (x := lo) (n := 0)) (U := fun a (K : MO -> Prop) => Vw ρ hi es.length fun b => a <= b /\ b <= es.length /\ Vw ρ mx b fun m => m = b /\ K (fun _ _ => if mx.isSome || hi.isNone then .cs (cut es a (b - a)) else .tr (.sl (cut es a (b - a))), fun _ _ => [])) fun a => ?_)
   refine ZG (bndI_rel (ρ := ρ) (x := hi) (n := es.length)) (U := fun b (K : MO -> Prop) => a <= b /\ b <= es.length /\ Vw ρ mx b fun m => m = b /\ K (fun _ _ => if mx.isSome || hi.isNone then .cs (cut es a (b - a)) else .tr (.sl (cut es a (b - a))), fun _ _ => [])) fun b => ?_
   exact Zw (Zw (ZG (bndI_rel (ρ := ρ) (x := mx) (n := b)) (U := fun m (K : MO -> Prop) => m = b /\ K (fun _ _ => if mx.isSome || hi.isNone then .cs (cut es a (b - a)) else .tr (.sl (cut es a (b - a))), fun _ _ => [])) fun m => Zw (ZN _)))
  ·exact ZB
 case ss x lo hi =>
  simp only [ev, ZY]
  split
  ·rename_i s _
   refine ZG (bndI_rel (ρ := ρ) (x := lo) (n := 0)) (U := fun a (K : MO -> Prop) => Vw ρ hi s.size fun b => a <= b /\ b <= s.size /\ K (fun _ _ => iS (s.extract a b), fun _ _ => [])) fun a => ?_
   exact ZG (bndI_rel (ρ := ρ) (x := hi) (n := s.size)) (U := fun b (K : MO -> Prop) => a <= b /\ b <= s.size /\ K (fun _ _ => iS (s.extract a b), fun _ _ => [])) fun b => Zw (Zw (ZN _))
  ·exact ZB
 case ca m imp f xs =>
  cases m <;> simp only [ev] <;> try exact ZB
  rotate_left
  ·split
   ·exact Zb0 fun r => Zw (ZN _)
   ·exact ZB
  split
  ·rename_i caps _
   refine ZG (ZaK (L := L) (xs.map ρ ++ caps)) (U := fun args (K : MO -> Prop) => ∃ r, _ /\ _ /\ K (fun l b => (impv imp l b 0 r).1, fun l b => (impv imp l b 0 r).2)) fun args => Zb0 fun r => Zw (Zw (ZN _))
  ·exact ZB
 all_goals
  (try cases ‹Option Nat›)
  all_goals
   simp only [ev, ZY, rdh]
   repeat' first | exact ZB | exact ZN _ | refine Zw ?_ | (refine Zb0 fun _ => ?_) | split
abbrev Zln (L L' : Sto) (id : Oid) : Prop := ∀ ob, L id = some ob -> L' id = some ob
abbrev Zpn (L L' : Sto) (id : Oid) : Prop := Zln L L' id /\ ∀ cells, L id = some (.bx cells) -> Ze (Zln L L') cells
abbrev See (L L' : Sto) (x : IV) : Prop := men (Zpn L L') x
abbrev Zmx (L L' : Sto) (x : List IV) : Prop := Ze (Zpn L L') x
mutual
theorem Zlo {P Q R : Oid -> Prop} (h : ∀ i, P i -> Q i -> R i) : ∀ (x : IV), men P x -> men Q x -> men R x
 | .hd .., a, b => h _ a b
 | .ab .., a, b => h _ a b
 | .ae .., a, b => h _ a b
 | .sv .., a, b => h _ a b
 | .ag l, a, b => by simp only [men] at *; exact WK h l a b
 | .tu l, a, b => by simp only [men] at *; exact WK h l a b
 | .fn _ l, a, b => by simp only [men] at *; exact WK h l a b
 | .un, _, _ => trivial
 | .tr _, _, _ => trivial
 | .cs _, _, _ => trivial
 | .ta _, _, _ => trivial
 | .ow .., _, _ => trivial
 | .er, _, _ => trivial
theorem WK {P Q R : Oid -> Prop} (h : ∀ i, P i -> Q i -> R i) : ∀ (x : List IV), Ze P x -> Ze Q x -> Ze R x
 | [], _, _ => trivial
 | x :: r, a, b => ⟨Zlo h x a.1 b.1, WK h r a.2 b.2⟩
end
variable {ρ' : X -> IV} {L' : Sto}
theorem ZjF {S : Sto} {l : Nat} (xs : List IV) (h : Zmx L L' xs) (hS : Ze (Zew L' S l) xs) : Ze (Zew L S l) xs :=
 WK (fun _ a b => ⟨⟨b.1.1, fun ob ho => b.1.2 ob (a.1 ob ho)⟩, fun cells hc => WK (fun _ c d => ⟨d.1, fun ob ho => d.2 ob (c ob ho)⟩) cells (a.2 cells hc) (b.2 cells (a.1 _ hc))⟩) xs h hS
theorem Wd {id : Oid} {p : Pth} {st : Nat} {K K' : Row -> Bool -> Nat -> Prop} (hs : ∀ ob, L id = some ob -> L' id = some ob) (hk : ∀ a b c, K a b c -> K' a b c) (h : rdh L id p st K) : rdh L' id p st K' := by
 unfold rdh at *
 split at h
 ·rename_i k es u hw ver hl
  rw [hs _ hl]
  obtain ⟨es', h1, h2, h3⟩ := h
  exact ⟨es', h1, h2, hk _ _ _ h3⟩
 ·exact h.elim
theorem Zd9 {Q : Oid -> Prop} : ∀ (n : Nat) {l : List IV}, Ze Q l -> Ze Q (l.drop n)
 | 0, _, h => h
 | n + 1, [], h => h
 | n + 1, x :: r, h => Zd9 n h.2
theorem Zea : ∀ (l : List IV) {K K' : List Tr -> Prop}, Ze (Zln L L') l -> (∀ y, K y -> K' y) -> Qa L l K -> Qa L' l K'
 | [], _, _, _, hk, h => hk _ h
 | x :: r, K, K', hs, hk, h => by
  simp only [Qa] at *
  have go : ∀ t, (Qa L r fun ts => K (t :: ts)) -> Qa L' r fun ts => K' (t :: ts) := fun t h => Zea r hs.2 (fun _ h => hk _ h) h
  cases x with
  | tr t => exact go t h
  | cs es => exact go _ h
  | hd id p off len c st => simp only [Zay] at *; exact Wd hs.1 (fun _ _ _ h => ⟨h.1, go _ h.2⟩) h
  | _ => simp only [Zay] at h
mutual
theorem Zlp : ∀ (x : IV) {K K' : IV -> Prop}, See L L' x -> (∀ y, K y -> K' y) -> Xd L x K -> Xd L' x K'
 | .un, _, _, _, hk, h => by simp only [Xd] at *; exact hk _ h
 | .tr t, _, _, _, hk, h => by simp only [Xd] at *; exact hk _ h
 | .cs es, _, _, _, hk, h => by simp only [Xd] at *; exact hk _ h
 | .hd id p off len c st, _, _, hs, hk, h => by simp only [Xd] at *; exact Wd hs.1 (fun _ _ _ h => ⟨h.1, hk _ h.2⟩) h
 | .ag l, _, _, hs, hk, h => by simp only [Xd, See, men] at *; exact ZaL l hs (fun _ h => hk _ h) h
 | .fn f c, _, _, hs, hk, h => by simp only [Xd, See, men] at *; exact ZaL c hs (fun _ h => hk _ h) h
 | .er, _, _, _, hk, h => by simp only [Xd] at *; exact hk _ h
 | .ab id off, _, _, hs, hk, h => by
  simp only [Xd, Zeu] at *
  split at h <;> try contradiction
  rename_i cells hq
  rw [hs.1 _ hq]
  exact Zea _ (Zd9 off (hs.2 _ hq)) (fun _ h => hk _ h) h
 | .sv _, _, _, _, _, h => by simp only [Xd] at h
 | .ae .., _, _, _, _, h => by simp only [Xd] at h
 | .ta c, _, _, _, hk, h => by simp only [Xd] at *; exact hk _ h
 | .tu .., _, _, _, _, h => by simp only [Xd] at h
 | .ow .., _, _, _, _, h => by simp only [Xd] at h
theorem ZaL : ∀ (l : List IV) {K K' : List IV -> Prop}, Zmx L L' l -> (∀ y, K y -> K' y) -> JE L l K -> JE L' l K'
 | [], _, _, _, hk, h => by simp only [JE] at *; exact hk _ h
 | x :: r, _, _, hs, hk, h => by simp only [JE, Zmx, Ze] at *; exact Zlp x hs.1 (fun _ h => ZaL r hs.2 (fun _ h => hk _ h) h) h
end
theorem ZfW {n : Nat} : ∀ {ps : List (Nat × Nat × X)}, (∀ x ∈ ps.map (·.2.2), ρ' x = ρ x) -> okp ρ n ps -> okp ρ' n ps
 | [], _, _ => trivial
 | (off, m, x) :: r, hp, h => by
  simp only [okp] at *
  rw [hp x (by simp)]
  exact ⟨h.1, h.2.1, ZfW (fun y hy => hp y (by simp at hy ⊢; exact .inr hy)) h.2.2⟩
theorem ZcX : ∀ {ps : List (Nat × Nat × X)} {cs : List IV}, (∀ x ∈ ps.map (·.2.2), ρ' x = ρ x) -> fpart ρ' ps cs = fpart ρ ps cs
 | [], _, _ => rfl
 | (off, m, x) :: r, cs, hp => by
  simp only [fpart]
  rw [hp x (by simp)]
  exact ZcX (fun y hy => hp y (by simp at hy ⊢; exact .inr hy))
theorem ZcY {k : Nat} {K : Row -> Bool -> Prop} : ∀ {ps : List (Nat × X)} {es : Row} {u : Bool}, (∀ x ∈ ps.map (·.2), ρ' x = ρ x) -> DN ρ k ps es u K -> DN ρ' k ps es u K
 | [], _, _, _, h => h
 | (i, x) :: r, es, u, hp, h => by
  simp only [DN] at *
  rw [hp x (by simp)]
  split at h <;> try contradiction
  split at h <;> try contradiction
  exact ⟨h.1, h.2.1, ZcY (fun y hy => hp y (by simp at hy ⊢; exact .inr hy)) h.2.2⟩
theorem JR {x : Option X} {n : Nat} (hp : ∀ y ∈ x.toList, ρ' y = ρ y) : Vw ρ' x n = Vw ρ x n := by
 cases x with
 | none => rfl
 | some x => funext K; simp only [Vw]; rw [hp x (by simp)]
theorem ZjG {id : Oid} {p : Pth} {k : Nat} (hs : ∀ ob, L id = some ob -> L' id = some ob) (h : wid L id p k) : wid L' id p k := by
 unfold wid at *
 split at h
 ·rename_i hl; rw [hs _ hl]; exact h
 ·exact h.elim
theorem Zlq {K : ZdJ} : ∀ (o : O), (∀ x ∈ rd o, ρ' x = ρ x) -> (∀ x ∈ rd o, See L L' (ρ x)) -> ev C ρ L K o -> ev C ρ' L' K o := by
 intro o hp hs h
 cases o
 case ld m p =>
  have h1 := hp p (by simp [rd])
  have h2 := hs p (by simp [rd])
  cases m <;> simp only [ev] at h ⊢ <;> rw [h1] <;> split at h <;> try contradiction
  ·exact h
  ·rename_i hq
   rw [hq] at h2
   split at h <;> try contradiction
   rename_i hl
   rw [h2.1 _ hl]; exact h
  ·rename_i hq
   rw [hq] at h2
   exact Wd h2.1 (fun _ _ _ h => h) h
  ·exact h
  ·rename_i hq
   rw [hq] at h2
   split at h <;> try contradiction
   rename_i hl
   rw [h2.1 _ hl]; exact h
  ·rename_i hq
   rw [hq] at h2
   exact Wd h2.1 (fun _ _ _ h => h) h
 case sx k x lo hi mx =>
  have h1 := hp x (by simp [rd])
  have h2 := hs x (by simp [rd])
  have hlo := fun n => JR (ρ := ρ) (ρ' := ρ') (x := lo) (n := n) (fun y hy => hp y (by simp [rd] at hy ⊢; exact .inr (.inl hy)))
  have hhi := fun n => JR (ρ := ρ) (ρ' := ρ') (x := hi) (n := n) (fun y hy => hp y (by simp [rd] at hy ⊢; exact .inr (.inr (.inl hy))))
  have hmx := fun n => JR (ρ := ρ) (ρ' := ρ') (x := mx) (n := n) (fun y hy => hp y (by simp [rd] at hy ⊢; exact .inr (.inr (.inr hy))))
  simp only [ev] at h ⊢
  simp only [hlo, hhi, hmx]
  rw [h1]
  split at h <;> try contradiction
  ·exact h
  ·exact h
  ·rename_i hq
   rw [hq] at h2
   exact bndI_rel.mono (fun a h => bndI_rel.mono (fun b h => ⟨h.1, h.2.1, bndI_rel.mono (fun m h => ⟨h.1, h.2.1, ZjG h2.1 h.2.2.1, h.2.2.2⟩) h.2.2⟩) h) h
 case sw k x lo hi mx =>
  have h1 := hp x (by simp [rd])
  have h2 := hs x (by simp [rd])
  have hlo := fun n => JR (ρ := ρ) (ρ' := ρ') (x := lo) (n := n) (fun y hy => hp y (by simp [rd] at hy ⊢; exact .inr (.inl hy)))
  have hhi := fun n => JR (ρ := ρ) (ρ' := ρ') (x := hi) (n := n) (fun y hy => hp y (by simp [rd] at hy ⊢; exact .inr (.inr (.inl hy))))
  have hmx := fun n => JR (ρ := ρ) (ρ' := ρ') (x := mx) (n := n) (fun y hy => hp y (by simp [rd] at hy ⊢; exact .inr (.inr (.inr hy))))
  simp only [ev] at h ⊢
  simp only [hlo, hhi, hmx]
  rw [h1]
  split at h <;> try contradiction
  ·exact h
  ·exact h
  ·rename_i hq
   rw [hq] at h2
   exact ⟨ZjG h2.1 h.1, h.2⟩
 case sy k x lo hi mx =>
  have h1 := hp x (by simp [rd])
  have hlo := fun n => JR (ρ := ρ) (ρ' := ρ') (x := lo) (n := n) (fun y hy => hp y (by simp [rd] at hy ⊢; exact .inr (.inl hy)))
  have hhi := fun n => JR (ρ := ρ) (ρ' := ρ') (x := hi) (n := n) (fun y hy => hp y (by simp [rd] at hy ⊢; exact .inr (.inr (.inl hy))))
  have hmx := fun n => JR (ρ := ρ) (ρ' := ρ') (x := mx) (n := n) (fun y hy => hp y (by simp [rd] at hy ⊢; exact .inr (.inr (.inr hy))))
  simp only [ev] at h ⊢
  simp only [hlo, hhi, hmx]
  rw [h1]
  split at h <;> try contradiction
  ·exact h
  ·exact h
 case sb x =>
  have h1 := hp x (by simp [rd])
  have h2 := hs x (by simp [rd])
  simp only [ev] at h ⊢
  rw [h1]
  split at h <;> try contradiction
  ·exact h
  ·exact h
  ·rename_i hq
   rw [hq] at h2
   exact Wd h2.1 (fun _ _ _ h => h) h
 case ss x lo hi =>
  have h1 := hp x (by simp [rd])
  have hlo := fun n => JR (ρ := ρ) (ρ' := ρ') (x := lo) (n := n) (fun y hy => hp y (by simp [rd] at hy ⊢; exact .inr (.inl hy)))
  have hhi := fun n => JR (ρ := ρ) (ρ' := ρ') (x := hi) (n := n) (fun y hy => hp y (by simp [rd] at hy ⊢; exact .inr (.inr hy)))
  simp only [ev] at h ⊢
  simp only [hlo, hhi]
  rw [h1]; exact h
 case ia k x i =>
  have h1 := hp x (by simp [rd])
  have h2 := hs x (by simp [rd])
  have h3 := hp i (by simp [rd])
  simp only [ev] at h ⊢
  rw [h1, h3]
  split at h <;> try contradiction
  refine ⟨h.1, ?_⟩
  have h := h.2
  split at h <;> try contradiction
  ·exact h
  ·exact h
  ·rename_i hq
   rw [hq] at h2
   exact Wd h2.1 (fun _ _ _ h => h) h
 case ca m imp f xs =>
  have h1 := hp f (by simp [rd])
  have h3 : xs.map ρ' = xs.map ρ := List.map_congr_left fun x hx => hp x (by simp [rd, hx])
  have h2 : Zmx L L' (xs.map ρ) := by
   have : ∀ x ∈ xs, See L L' (ρ x) := fun x hx => hs x (by simp [rd, hx])
   clear h3 h1 hp hs h
   induction xs with
   | nil => trivial
   | cons y r ih => exact ⟨this y (by simp), ih fun x hx => this x (by simp [hx])⟩
  cases m <;> simp only [ev] at h ⊢
  rotate_left
  ·have h4 := hs f (by simp [rd])
   rw [h1, h3]
   split at h <;> try contradiction
   rename_i fid caps hq
   rw [hq] at h4
   have h4 : Zmx L L' caps := by simpa only [See, men] using h4
   have h5 : Zmx L L' (xs.map ρ ++ caps) := by
    clear h h3 h1 hp hs
    induction xs with
    | nil => exact h4
    | cons y r ih => exact ⟨h2.1, ih h2.2⟩
   obtain ⟨r, hr, hk⟩ := h
   exact ⟨r, fun l S hS => hr l S (ZjF _ h5 hS), hk⟩
  have h4 := hs f (by simp [rd])
  rw [h1, h3]
  split at h <;> try contradiction
  rename_i fid caps hq
  rw [hq] at h4
  have h4 : Zmx L L' caps := by simpa only [See, men] using h4
  have h5 : Zmx L L' (xs.map ρ ++ caps) := by
   clear h h3 h1 hp hs
   induction xs with
   | nil => exact h4
   | cons y r ih => exact ⟨h2.1, ih h2.2⟩
  exact ZaL _ h5 (fun _ h => h) h
 case bd z ps nz =>
  simp only [ev] at h ⊢
  have hh : ∀ x ∈ ps.map (·.2.2), ρ' x = ρ x := hp
  refine ⟨ZfW hh h.1, ?_⟩
  simp only [ZcX hh]
  exact h.2
 case bs k n z ps =>
  simp only [ev] at h ⊢
  exact ZcY (fun x hx => hp x hx) h
 case mf g cs =>
  have h3 : cs.map ρ' = cs.map ρ := List.map_congr_left fun x hx => hp x (by simp [rd, hx])
  simp only [ev] at h ⊢
  rw [h3]; exact h
 case bv k n z ps =>
  simp only [ev] at h ⊢
  split at h <;> try contradiction
  rename_i x
  have h1 := hp x (by simp [rd])
  rw [h1]; exact h
 all_goals
  (try cases ‹Option Nat›)
  all_goals
   first
    | (simp only [ev] at h; done)
    | (
      simp only [ev] at h ⊢
      simp only [rd, List.mem_cons, List.not_mem_nil, or_false, forall_eq_or_imp, forall_eq, false_implies, implies_true] at hp
      first | exact h | (rw [hp]; exact h) | (rw [hp.1, hp.2]; exact h) | (rw [hp.1, hp.2.1, hp.2.2]; exact h))
theorem ZeT {S : Sto} {x : IV} : Rel (Zi8 S x) := by
 unfold Zi8
 split
 ·exact ZN _
 ·exact ZN _
 ·rename_i id p off len c s
  exact ZC (fun _ => Iff.rfl) (ZG (Zg1 (L := S) (id := id) (p := p) (st := s)) (U := fun y K => off + len <= y.1.length /\ K (cut y.1 off len)) fun _ => Zw (ZN _))
 ·exact ZB
theorem ZeU {x : IV} : Rel (ZoS x) := by
 unfold ZoS
 split
 ·exact ZN _
 ·exact ZN _
 ·exact ZB
theorem ZeV {p : Pth} {i : Nat} : ∀ (l : List IV) (f : Nat) (es : Row), Rel (stq p i f l es)
 | [], f, es => ZC (fun _ => by simp only [stq]) (ZN es)
 | x :: r, f, es => by
  refine ZC (fun K => by simp only [stq]; exact Iff.rfl) ?_
  refine Zb0 fun es' => Zw (Zb0 fun e => Zw (Zb0 fun t0 => Zw (Zw ?_)))
  split
  ·exact ZeV r (f + 1) _
  ·exact ZB
theorem ZcC {ρ : X -> IV} {S : Sto} : ∀ (o : O), Rel (fun K : IV × Oid × Ob -> Prop => ZbY ρ S (fun v id ob => K (v, id, ob)) o) := by
 intro o
 cases o <;> simp only [ZbY] <;> try exact ZB
 ·rename_i m p x
  split
  ·rename_i l _
   refine Zw ?_
   split
   ·rename_i id off _
    split
    ·exact Zw (Zw (ZN _))
    ·exact ZB
   ·rename_i id p i f s _
    split
    ·rename_i k es u hw ver _
     exact Zw (Zw (ZG (ZeV (p := p) (i := i) l f es) (U := fun es' (K : IV × Oid × Ob -> Prop) => K (.tu [], id, .ar k es' u hw ver)) fun _ => ZN _))
    ·exact ZB
   ·exact ZB
  ·exact ZB
 ·rename_i k x y
  split
  ·rename_i id len s _
   split
   ·rename_i k' es u hw ver _
    exact Zw (Zw (Zw (ZG (ZeT (S := S) (x := ρ y)) (U := fun items (K : IV × Oid × Ob -> Prop) => ScR items /\ UnR k items /\ len + items.length <= bigN /\ K (.hd id [] 0 (len + items.length) none (max hw (len + items.length)), id, .ar k (es ++ items) u (max hw (len + items.length)) ver)) fun _ => Zw (Zw (Zw (ZN _))))))
   ·exact ZB
  ·exact ZB
 ·rename_i k x y
  split
  ·rename_i id len s _
   split
   ·rename_i k' es u hw ver _
    exact Zw (Zw (Zw (ZG (ZeU (x := ρ y)) (U := fun items (K : IV × Oid × Ob -> Prop) => UnR k items /\ len + items.length <= bigN /\ K (.hd id [] 0 (len + items.length) none (max hw (len + items.length)), id, .ar k (es ++ items) false (max hw (len + items.length)) ver)) fun _ => Zw (Zw (ZN _)))))
   ·exact ZB
  ·exact ZB
theorem ZjH {S S' : Sto} {x : IV} {F F' : Row -> Prop} (hS : ∀ id ob, S id = some ob -> S' id = some ob) (hF : ∀ r, F r -> F' r) (h : Zi8 S x F) : Zi8 S' x F' := by
 unfold Zi8 at h ⊢
 split at h <;> try contradiction
 ·exact hF _ h
 ·exact hF _ h
 ·exact Wd (hS _) (fun _ _ _ h => ⟨h.1, hF _ h.2⟩) h
theorem Zeb {ρ ρ' : X -> IV} {S S' : Sto} {K : IV -> Oid -> Ob -> Prop} : ∀ (o : O), (∀ x ∈ rd o, ρ' x = ρ x) -> (∀ id ob, S id = some ob -> S' id = some ob) -> ZbY ρ S K o -> ZbY ρ' S' K o := by
 intro o hp hS h
 cases o <;> simp only [ZbY] at h ⊢ <;> try exact h
 ·rename_i m p x
  rw [hp p (by simp [rd]), hp x (by simp [rd])]
  split at h <;> try contradiction
  refine ⟨h.1, ?_⟩
  have h := h.2
  split at h <;> try contradiction
  ·split at h <;> try contradiction
   rename_i hs
   rw [hS _ _ hs]; exact h
  ·split at h <;> try contradiction
   rename_i hs
   rw [hS _ _ hs]; exact h
 ·rename_i k x y
  rw [hp x (by simp [rd]), hp y (by simp [rd])]
  split at h <;> try contradiction
  split at h <;> try contradiction
  rename_i hs
  rw [hS _ _ hs]
  exact ⟨h.1, h.2.1, h.2.2.1, ZjH hS (fun _ h => h) h.2.2.2⟩
 ·rename_i k x y
  rw [hp x (by simp [rd]), hp y (by simp [rd])]
  split at h <;> try contradiction
  split at h <;> try contradiction
  rename_i hs
  rw [hS _ _ hs]
  exact h
theorem ZbB {ρ : X -> IV} {S : Sto} {v : IV} {id : Oid} {ob : Ob} : ∀ (o : O), ZbY ρ S (fun v' id' ob' => v' = v /\ id' = id /\ ob' = ob) o -> (S id).isSome = true := by
 intro o h
 obtain ⟨⟨v', id', ob'⟩, ⟨rfl, rfl, rfl⟩, h2⟩ := (ZcC (ρ := ρ) (S := S) o).ex (K := fun r => r.1 = v /\ r.2.1 = id /\ r.2.2 = ob) h
 clear h
 cases o <;> simp only [ZbY] at h2 <;> try contradiction
 ·split at h2 <;> try contradiction
  have h := h2.2
  split at h <;> try contradiction
  ·split at h <;> try contradiction
   rename_i hs
   have := congrArg (fun r : IV × Oid × Ob => r.2.1) h.2.2
   simp only at this
   rw [<- this, hs]; rfl
  ·rename_i id0 p i f s _
   split at h <;> try contradiction
   rename_i k es u hw ver hs
   obtain ⟨es', h3, _⟩ := (ZeV (p := p) (i := i) _ f es).ex h.2.2
   have := congrArg (fun r : IV × Oid × Ob => r.2.1) h3
   simp only at this
   rw [<- this, hs]; rfl
 ·split at h2 <;> try contradiction
  split at h2 <;> try contradiction
  rename_i hs
  obtain ⟨items, h3, _⟩ := (ZeT).ex h2.2.2.2
  have := congrArg (fun r : IV × Oid × Ob => r.2.1) h3.2.2.2
  simp only at this
  rw [<- this, hs]; rfl
 ·split at h2 <;> try contradiction
  split at h2 <;> try contradiction
  rename_i hs
  obtain ⟨items, h3, _⟩ := (ZeU).ex h2.2.2.2
  have := congrArg (fun r : IV × Oid × Ob => r.2.1) h3.2.2
  simp only at this
  rw [<- this, hs]; rfl
def lfree : O -> Bool
 | .mv _ none | .bi .. | .nt _ | .ng _ | .cv .. | .ex .. | .pk .. | .mm .. | .lg _ | .la _ | .ss .. | .ix .. | .bs .. | .fd .. | .jx .. | .qa .. | .fa .. | .ja .. | .ln _ | .nc _ | .sy .. | .lt .. | .it .. | .mf .. | .al .. | .ms .. | .bd .. => true
 | _ => false
theorem Q4 {o : O} (h : lfree o = true) : ZcJ o = false := by
 cases o <;> first | rfl | cases h | (simp [lfree] at h)
theorem Zlr {ρ : X -> IV} {L L' : Sto} {K : ZdJ} : ∀ (o : O), lfree o = true -> ev C ρ L K o -> ev C ρ L' K o := by
 intro o hl h
 cases o
 case mv x n => cases n <;> first | (simp only [ev] at h ⊢; exact h) | cases hl
 case fd off m x => cases m <;> (simp only [ev] at h ⊢; exact h)
 case lt m x => cases m <;> (simp only [ev] at h ⊢; exact h)
 case jx k n m x i => cases m <;> (simp only [ev] at h ⊢; exact h)
 all_goals first | (cases hl; done) | (simp only [ev] at h ⊢; exact h)
def wfr : O -> Bool
 | .sw .. => true
 | _ => false
theorem Zec {o : O} (h : wfr o = true) : ZcJ o = false := by
 cases o <;> first | rfl | cases h
theorem Zpo {ρ ρ' : X -> IV} {L L' : Sto} {K : ZdJ} : ∀ (o : O), wfr o = true -> (∀ x ∈ rd o, ρ' x = ρ x) -> (∀ x ∈ rd o, men (fun i => ∀ k, wid L i [] k -> wid L' i [] k) (ρ x)) -> ev C ρ L K o -> ev C ρ' L' K o := by
 intro o ho hp hs h
 cases o
 case sw k x lo hi mx =>
  have h1 := hp x (by simp [rd])
  have h2 := hs x (by simp [rd])
  have hlo := fun n => JR (ρ := ρ) (ρ' := ρ') (x := lo) (n := n) (fun y hy => hp y (by simp [rd] at hy ⊢; exact .inr (.inl hy)))
  have hhi := fun n => JR (ρ := ρ) (ρ' := ρ') (x := hi) (n := n) (fun y hy => hp y (by simp [rd] at hy ⊢; exact .inr (.inr (.inl hy))))
  have hmx := fun n => JR (ρ := ρ) (ρ' := ρ') (x := mx) (n := n) (fun y hy => hp y (by simp [rd] at hy ⊢; exact .inr (.inr (.inr hy))))
  simp only [ev] at h ⊢
  simp only [hlo, hhi, hmx]
  rw [h1]
  split at h <;> try contradiction
  ·exact h
  ·exact h
  ·rename_i hq
   rw [hq] at h2
   exact ⟨h2 _ h.1, h.2⟩
 all_goals cases ho
theorem ZiB {S S' : Sto} {x : IV} {F F' : Row -> Prop} (hS : men (fun id => ∀ ob, S id = some ob -> S' id = some ob) x) (hF : ∀ r, F r -> F' r) (h : Zi8 S x F) : Zi8 S' x F' := by
 unfold Zi8 at h ⊢
 split at h <;> try contradiction
 ·exact hF _ h
 ·exact hF _ h
 ·exact Wd hS (fun _ _ _ h => ⟨h.1, hF _ h.2⟩) h
theorem Zg2 {ρ ρ' : X -> IV} {S S' : Sto} {K : IV -> Oid -> Ob -> Prop} : ∀ (o : O), (∀ x ∈ rd o, ρ' x = ρ x) -> (∀ x ∈ rd o, men (fun id => ∀ ob, S id = some ob -> S' id = some ob) (ρ x)) -> ZbY ρ S K o -> ZbY ρ' S' K o := by
 intro o hp hS h
 cases o <;> simp only [ZbY] at h ⊢ <;> try exact h
 ·rename_i m p x
  have m1 := hS p (by simp [rd])
  rw [hp p (by simp [rd]), hp x (by simp [rd])]
  split at h <;> try contradiction
  refine ⟨h.1, ?_⟩
  have h := h.2
  split at h <;> try contradiction
  ·rename_i hq
   rw [hq] at m1
   split at h <;> try contradiction
   rename_i hs
   rw [m1 _ hs]; exact h
  ·rename_i hq
   rw [hq] at m1
   split at h <;> try contradiction
   rename_i hs
   rw [m1 _ hs]; exact h
 ·rename_i k x y
  have m1 := hS x (by simp [rd])
  have m2 := hS y (by simp [rd])
  rw [hp x (by simp [rd]), hp y (by simp [rd])]
  split at h <;> try contradiction
  rename_i hq
  rw [hq] at m1
  split at h <;> try contradiction
  rename_i hs
  rw [m1 _ hs]
  exact ⟨h.1, h.2.1, h.2.2.1, ZiB m2 (fun _ h => h) h.2.2.2⟩
 ·rename_i k x y
  have m1 := hS x (by simp [rd])
  rw [hp x (by simp [rd]), hp y (by simp [rd])]
  split at h <;> try contradiction
  rename_i hq
  rw [hq] at m1
  split at h <;> try contradiction
  rename_i hs
  rw [m1 _ hs]
  exact h
theorem Zls {ρ : X -> IV} {S : Sto} {v : IV} {id : Oid} {ob : Ob} : ∀ (o : O), ZbY ρ S (fun v' id' ob' => v' = v /\ id' = id /\ ob' = ob) o -> ∀ i k, wid (ZZ S id ob) i [] k -> wid S i [] k := by
 intro o h i k hw
 unfold wid ZZ at hw
 unfold wid
 by_cases e : i = id
 ·rw [if_pos e] at hw
  subst e
  cases o <;> simp only [ZbY] at h <;> try contradiction
  ·split at h <;> try contradiction
   have h := h.2
   split at h <;> try contradiction
   ·split at h <;> try contradiction
    obtain ⟨_, _, _, h1, h2⟩ := h
    subst h2
    cases hw
   ·split at h <;> try contradiction
    rename_i hs
    obtain ⟨_, _, h⟩ := h
    obtain ⟨es', h, _⟩ := (ZeV ..).ex h
    obtain ⟨_, h1, h2⟩ := h
    subst h1 h2
    rw [hs]; exact hw
  ·split at h <;> try contradiction
   split at h <;> try contradiction
   rename_i hs
   obtain ⟨hk, _, _, h⟩ := h
   obtain ⟨items, h, _⟩ := (ZeT ..).ex h
   obtain ⟨_, _, _, _, h1, h2⟩ := h
   subst h1 h2
   rw [hs]
   exact hk.trans hw
  ·split at h <;> try contradiction
   split at h <;> try contradiction
   rename_i hs
   obtain ⟨hk, _, _, h⟩ := h
   obtain ⟨items, h, _⟩ := (ZeU ..).ex h
   obtain ⟨_, _, _, h1, h2⟩ := h
   subst h1 h2
   rw [hs]
   exact hk.trans hw
 ·rw [if_neg e] at hw
  exact hw
end
end Go.Fd
