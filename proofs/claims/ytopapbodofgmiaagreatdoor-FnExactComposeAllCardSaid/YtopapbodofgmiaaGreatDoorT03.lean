/-
  FOUNDATION 35: calls that turn the caller's objects; all loud operations; one operation with its guard. Own work.
-/
import Derived.Test.YtopapbodofgmiaaGreatDoorT02
import Derived.Orders
import Derived.Deep.LoopGhost
import Derived.Laws.Sem
set_option linter.all false
namespace Go.Fd

section
variable {P : Program} {F : Fr} {G G' : Gh} {st : St} {a : Act} {w w' : World} {oper : Oper} {K : Kind} {b : Nat}

theorem Sim.gotA (h : Sim F G st a w) {loc' : List (Nat × Ob)} {out' : Sto} {d : Option Nat} {key : Nat} {x : IV} {obs : List Ob} {v : Value} (hg : GotA G st.sto (packS st.lvl loc' out') w st.lvl key x obs v w')
    (hcl : ∀ id ob, packS st.lvl loc' out' id = some ob → id.1 < st.lvl + 1) (ho : ∀ i, i.1 = st.lvl → out' i = st.out i) (hd : ∀ y, d = some y → y < F.nt) :
    ∃ G', Sim F G' { st with env := ptd d x st.env, loc := addO key obs loc', out := out' } (a.put d v) w' := by
  obtain ⟨G', h1, h2, h3⟩ := hg
  have hsto : ({ st with env := ptd d x st.env, loc := addO key obs loc', out := out' } : St).sto = addS (packS st.lvl loc' out') st.lvl key obs := by
    have := addO_sto obs key { st with loc := loc', out := out' }
    exact this
  refine ⟨G', by cases d <;> exact h.dfr, by cases d <;> simp [Act.put, h.sz], fun s => ?_, by rw [hsto]; exact h1, h.lvl, ?_, by rw [hsto]; exact h.fr.trans h3 (by show F.lvl ≤ st.lvl + 1; rw [h.lvl]; omega)⟩
  · rw [hsto, Act.put_get a d v s (by rw [h.sz]; exact hd)]
    have h0 := h3.stab _ _ (h.men_lt (h.env s)) (h.env s)
    cases d with
    | none => simpa [ptd] using h0
    | some d =>
      simp only [ptd, Option.some.injEq]
      rw [lk_pt]
      by_cases hs : s = d
      · rw [if_pos hs, if_pos hs.symm]; exact h2
      · rw [if_neg hs, if_neg (fun e => hs e.symm)]; exact h0
  · intro id ob hs
    have hs : out' id = some ob := hs
    have hn : id.1 ≠ st.lvl := fun hn => by
      rw [ho id hn] at hs
      have := h.outl id ob hs
      omega
    have := hcl id ob (by unfold packS; rw [if_neg hn]; exact hs)
    show id.1 < st.lvl
    omega

theorem freshK_sto {lvl : Nat} {loc : List (Nat × Ob)} {out : Sto} : ∀ {n b : Nat}, freshK b loc n → Fresh (packS lvl loc out) lvl b n := fun {n b} h =>
  freshK_spec (st := ⟨lvl, [], loc, out⟩) h

theorem ew_any (h : Sim F G st a w) {imp : Bool} {f : X} {xs : List X} {d : Option Nat} {Kw : St → Prop} (hd : d = oper.dst) (hdn : ∀ y, d = some y → y < F.nt) (hc : chkO P (.ca .any imp f xs) oper.op = true)
    (he : ew (Sem P) d st Kw (.ca .any imp f xs)) : LOk P F a w oper Kw := by
  subst hd
  simp only [chkO] at hc
  split at hc <;> try contradiction
  rename_i g args at1 ho
  simp only [Bool.and_eq_true] at hc
  have hg := h.x hc.1
  have hargs := h.xs hc.2
  simp only [ew] at he
  split at he <;> try contradiction
  rename_i fid caps hq
  obtain ⟨r, loc', out', hou, ⟨hr, ⟨fn, hf, hb, hn⟩, hcall⟩, hfr, hk⟩ := he
  rw [hq] at hg
  simp only [VR] at hg
  obtain ⟨cvs, hg, hcv⟩ := hg
  have hcl := h.clean
  have hrun := run_call (P := P) (w := w) (caps := cvs) ho hg hf hb hn
  have hc := hcall hcl G w (args.toList.map a.eval ++ cvs) h.ok (VRs_append (arg1s_vr hargs) hcv)
  refine Res.of_enter hrun ?_
  have harr : (args.map a.eval ++ cvs.toArray) = (args.toList.map a.eval ++ cvs).toArray := by cases args; simp
  rw [harr]
  refine hc.mono ?_
  rintro e w' ⟨v, G1, rfl, h1, h2, hcl', h3⟩
  have hgot := got_any (l := st.lvl) (b := keyOf oper.dst) (imp := imp) hr hcl' h1 h2 h3 (freshK_sto hfr)
  obtain ⟨G', hG'⟩ := h.gotA hgot hcl' hou hdn
  exact ⟨v, rfl, _, G', hk, hG'⟩

theorem ew_all (h : Sim F G st a w) {d : Option Nat} {Kw : St → Prop} (hd : d = oper.dst) (hdn : ∀ y, d = some y → y < F.nt) : ∀ (o : O), loud o = true → chkO P o oper.op = true → ew (Sem P) d st Kw o → LOk P F a w oper Kw
  | .st m p x, _, hc, he => ew_st h hd hc he
  | .bw k n z ps, _, hc, he => ew_bw h hd hdn hc he
  | .ap k md x y, _, hc, he => ew_ap h hd hdn hc he
  | .nl neg x, _, hc, he => ew_nl h hd hdn hc he
  | .cp x, _, hc, he => ew_cp h hd hdn hc he
  | .sh k x hi, _, hc, he => ew_sh h hd hdn hc he
  | .cl k z x, _, hc, he => ew_cl h hd hdn hc he
  | .cy k x y, _, hc, he => ew_cy h hd hdn hc he
  | .fz x, _, hc, he => ew_fz h hd hdn hc he
  | .rk x, _, hc, he => ew_rk h hd hdn hc he
  | .mz f cs, _, hc, he => ew_mz h hd hdn hc he
  | .lz m p, _, hc, he => ew_lz h hd hdn hc he
  | .a1 k x y, _, hc, he => ew_a1 h hd hdn hc he
  | .xx, _, _, he => False.elim he
  | .s0 m p x, _, hc, he => ew_s0 h hd hc he
  | .a0 k x y, _, hc, he => ew_a0 h hd hdn hc he
  | .az k z x n, _, hc, he => ew_az h hd hdn hc he
  | .ca .same imp f xs, _, hc, he => ew_same h hd hdn hc he
  | .ca .keep imp f xs, _, hc, he => ew_keep h hd hdn hc he
  | .ca .any imp f xs, _, hc, he => ew_any h hd hdn hc he

theorem op2_ok (h : Sim F G st a w) {d : Option Nat} {o : O} {Kw : St → Prop} (hd : d = oper.dst) (hdn : ∀ y, d = some y → y < F.nt) (hc : chkO P o oper.op = true) (he : op2 (Sem P) d o st Kw) : LOk P F a w oper Kw := by
  unfold op2 at he
  split at he
  · rename_i hl; exact ew_all h hd hdn o hl hc he
  · rename_i hl
    have := ev_all (b := keyOf d) h o (by simpa using hl) (fun mk obs hk => freshK_spec hk.1) hc he
    refine this.mono ?_
    rintro v w' ⟨mk, obs, ⟨_, hk⟩, hg⟩
    obtain ⟨G', hs⟩ := h.got hg hdn
    subst hd
    exact ⟨_, G', hk, hs⟩

theorem LOk.wp {o : Oper} {Kw : St → Prop} {next : Act → World → Prop} {Q : Exit → Act → World → Prop} (h : LOk P F a w o Kw) (hn : ∀ st' G' a' w', Kw st' → Sim F G' st' a' w' → next a' w') : o.wp P a w next Q :=
  h next Q fun _ _ ⟨st', G', hk, hs⟩ => hn st' G' _ _ hk hs

theorem Sim.known (h : Sim F G st a w) {j : Nat} {c : Bool} (hj : lk j st.env = .tr (.v (.bool c))) (x : IV) (hx : x = iB c) : Sim F G { st with env := pt j x st.env } a w := by
  refine ⟨h.dfr, h.sz, fun t => ?_, h.ok, h.lvl, h.outl, h.fr⟩
  show VR G st.sto w (lk t (pt j x st.env)) _
  rw [lk_pt]
  split
  · rename_i ht; subst ht hx; have := h.env t; rw [hj] at this; exact this
  · exact h.env t

theorem op1_ok (h : Sim F G st a w) {ops : Array Oper} {o : OP} {Kw : St → Prop} {next : Act → World → Prop} {Q : Exit → Act → World → Prop} (hc : chkOP P F.nt ops o oper = true) (he : op1 (Sem P) o st Kw)
    (hn : ∀ st' G' a' w', Kw st' → Sim F G' st' a' w' → next a' w') : if Region.wanted oper (yielded ops a.tmps) = true then oper.wp P a w next Q else next (a.put oper.dst undef) w := by
  unfold chkOP at hc
  simp only [Bool.and_eq_true, decide_eq_true_eq] at hc
  obtain ⟨⟨⟨hd, hdn⟩, hg⟩, hc⟩ := hc
  have hdn' : ∀ y, o.d = some y → y < F.nt := fun y hy => by rw [hy] at hdn; simpa using hdn
  unfold op1 at he
  unfold Region.wanted
  split at hg
  · rename_i hg1 hg2
    rw [hg1] at he
    rw [hg2, if_pos rfl]
    exact (op2_ok h hd hdn' hc he).wp hn
  · rename_i j w1 g w2 hg1 hg2
    rw [hg1] at he
    simp only [hg2]
    simp only [Bool.and_eq_true, beq_iff_eq, decide_eq_true_eq] at hg
    obtain ⟨rfl, hg⟩ := hg
    have hskip : VR G st.sto w (.tu []) undef := ⟨[], rfl, rfl⟩
    simp only at he
    split at he <;> try contradiction
    · rename_i c hl
      have hv := h.env j
      rw [hl] at hv
      have hv := hv.val.1
      have hy : yielded ops a.tmps g = some c := by
        unfold yielded
        rw [hg]
        simp only [Option.bind_some]
        have hb : a.tmps[j]? = some (.bool c) := by
          rw [Array.getD_eq_getD_getElem?] at hv
          cases hq : a.tmps[j]? with
          | none => rw [hq] at hv; simp [undef] at hv
          | some u => rw [hq] at hv; simp at hv; rw [hv]
        rw [hb]
      rw [hy]
      by_cases hcw : c = w1
      · rw [if_pos (by simp [hcw])]
        have h' := h.known hl (iB w1) (by rw [hcw])
        exact (op2_ok h' hd hdn' hc (he.1 hcw)).wp hn
      · rw [if_neg (by simp [hcw])]
        have hcw' : c = !w1 := by cases c <;> cases w1 <;> simp_all
        have h' := h.known hl (iB !w1) (by rw [hcw'])
        have := h'.put (d := o.d) (x := .tu []) (v := undef) hskip hdn'
        refine hn _ G _ _ (he.2 hcw') ?_
        rw [← hd]
        exact this
    · rename_i hl
      have hv := h.env j
      rw [hl] at hv
      obtain ⟨vs, hv, hvs⟩ := hv
      simp only [VRs] at hvs
      subst hvs
      have hy : yielded ops a.tmps g = none := by
        unfold yielded
        rw [hg]
        simp only [Option.bind_some]
        rw [Array.getD_eq_getD_getElem?] at hv
        cases hq : a.tmps[j]? with
        | none => rfl
        | some u => rw [hq] at hv; simp at hv; rw [hv]
      rw [hy, if_neg (by simp)]
      refine hn _ G _ _ he ?_
      rw [← hd]
      exact h.put (d := o.d) (x := .tu []) (v := undef) hskip hdn'
  · cases hg
end
end Go.Fd

namespace Go.Fd

theorem lk_keepE (ks : List Nat) (t : Nat) : ∀ env, lk t (keepE ks env) = if t ∈ ks then lk t env else .un
  | [] => by simp [keepE, lk]
  | (s, x) :: r => by
    simp only [keepE]
    by_cases hs : s ∈ ks
    · rw [if_pos hs]
      simp only [lk]
      by_cases ht : t = s
      · subst ht; simp [hs]
      · rw [if_neg ht, if_neg ht]; exact lk_keepE ks t r
    · rw [if_neg hs, lk_keepE ks t r]
      simp only [lk]
      by_cases ht : t = s
      · subst ht; simp [hs]
      · rw [if_neg ht]
theorem lkO_keepO (js : List Nat) (t : Nat) : ∀ loc, lkO t (keepO js loc) = if t ∈ js then lkO t loc else none
  | [] => by simp [keepO, lkO]
  | (s, x) :: r => by
    simp only [keepO]
    by_cases hs : s ∈ js
    · rw [if_pos hs]
      simp only [lkO]
      by_cases ht : t = s
      · subst ht; simp [hs]
      · rw [if_neg ht, if_neg ht]; exact lkO_keepO js t r
    · rw [if_neg hs, lkO_keepO js t r]
      simp only [lkO]
      by_cases ht : t = s
      · subst ht; simp [hs]
      · rw [if_neg ht]
theorem okE_lk {l : Nat} {js : List Nat} {t : Nat} : ∀ {env : List (Nat × IV)}, okE l js env → okm l js (lk t env)
  | [], _ => trivial
  | (s, x) :: r, h => by
    simp only [lk]
    split
    · exact h.1
    · exact okE_lk h.2
theorem okL_lk {l : Nat} {js : List Nat} {t : Nat} {cells : List IV} : ∀ {loc : List (Nat × Ob)}, okL l js loc → lkO t loc = some (.bx cells) → okms l js cells
  | [], _, h => by cases h
  | (s, .bx c) :: r, h, hl => by
    simp only [lkO] at hl
    split at hl
    · cases hl; exact h.1
    · exact okL_lk h.2 hl
  | (s, .ar ..) :: r, h, hl => by
    simp only [lkO] at hl
    split at hl
    · cases hl
    · exact okL_lk (loc := r) h hl

section
variable {P : Program} {F : Fr} {G G' : Gh} {st : St} {a : Act} {w w' : World} {oper : Oper} {ks js : List Nat}

theorem fgt_sto (st : St) (i : Oid) : (fgt ks js st).sto i = if i.1 = st.lvl then (if i.2 ∈ js then lkO i.2 st.loc else none) else st.out i := by
  unfold St.sto packS fgt
  simp only [lkO_keepO]

theorem Sim.fgt (h : Sim F G st a w) (hc : Fd.clean ks js st) : Sim F G (Fd.fgt ks js st) a w := by
  have del : Del st.sto (Fd.fgt ks js st).sto (fun i => i.1 = st.lvl → i.2 ∈ js) := by
    refine ⟨fun i ob hs hp => ?_, fun i ob hs => ?_, fun i cells hs => ?_⟩
    · rw [fgt_sto]
      split
      · rename_i hi; rw [if_pos (hp hi), ← sto_in hi]; exact hs
      · rename_i hi; rw [← sto_out hi]; exact hs
    · rw [fgt_sto] at hs
      split at hs
      · rename_i hi
        split at hs
        · rename_i hj; exact ⟨by rw [sto_in hi]; exact hs, fun _ => hj⟩
        · cases hs
      · rename_i hi; exact ⟨by rw [sto_out hi]; exact hs, fun h => absurd h hi⟩
    · rw [fgt_sto] at hs
      split at hs
      · rename_i hi
        split at hs
        · rename_i hj
          exact okL_lk (t := i.2) hc.2 (by rw [lkO_keepO, if_pos hj]; exact hs)
        · cases hs
      · rename_i hi
        have h1 := h.outl i _ hs
        have h2 := h.ok.low i cells (by rw [sto_out hi]; exact hs)
        refine mens_mono (fun j hj => fun hl => ?_) cells h2
        have hj : j.1 < i.1 + 1 := hj
        omega
  refine ⟨h.dfr, h.sz, fun t => ?_, del.ok h.ok, h.lvl, h.outl, ⟨h.fr.size, h.fr.old, fun i ob b hs => h.fr.own i ob b (del.only i ob hs).1, h.fr.os, h.fr.tape, h.fr.output, fun x v hx hv => ?_⟩⟩
  · show VR G _ w (lk t (keepE ks st.env)) _
    have hm := okE_lk (t := t) hc.1
    refine del.vr _ _ hm ?_
    rw [lk_keepE]
    split
    · exact h.env t
    · trivial
  · refine del.vr x v (men_mono (fun j hj => fun hl => ?_) x hx) (h.fr.stab x v hx hv)
    have hj : j.1 < F.lvl := hj
    rw [← h.lvl] at hj
    omega

theorem seq_ok {ops : Array Oper} {Q : Exit → Act → World → Prop} {K : St → Prop} : ∀ (l : List OP) (r : List Oper) (i : Nat) (st : St) (G : Gh) (a : Act) (w : World), Sim F G st a w → chkOPs P F.nt ops l r = true →
    ops.toList.drop i = r → wpo (Sem P) l st K → (∀ st' G' a' w', K st' → Sim F G' st' a' w' → Q .normal a' w') → wpOps P ops Q (List.range' i r.length) a w
  | [], r, i, st, G, a, w, h, hc, hr, he, hq => by
    cases r with
    | nil => exact hq st G a w he h
    | cons => cases hc
  | o :: l, r, i, st, G, a, w, h, hc, hr, he, hq => by
    cases r with
    | nil => cases hc
    | cons oper s =>
      simp only [chkOPs, Bool.and_eq_true] at hc
      have hi : ops[i]? = some oper := by
        have := congrArg (fun l => l[0]?) hr
        simpa using this
      have hs : ops.toList.drop (i + 1) = s := by
        rw [← List.drop_drop, hr]; rfl
      have key := op1_ok (ops := ops) (Q := Q) (next := wpOps P ops Q (List.range' (i + 1) s.length)) h hc.1 he (fun st' G' a' w' hk h' => seq_ok l s (i + 1) st' G' a' w' h' hc.2 hs hk hq)
      rw [List.length_cons, List.range'_succ]
      simp only [wpOps, hi]
      by_cases hw : Region.wanted oper (yielded ops a.tmps) = true
      · rw [if_pos hw] at key ⊢; exact .inl key
      · rw [if_neg hw] at key ⊢; exact key

def exOf : Ex → Exit
  | .nrm => .normal
  | .ext i => .exit i
  | .ret => .ret
end
end Go.Fd

namespace Go.Fd

def rd : O → List X
  | .mv x _ | .bx x | .nt x | .ng x | .cv _ x | .ms _ _ x | .fa _ x | .fd _ _ x | .ln x | .lg x | .ex _ x | .nc x | .ld _ x | .lt _ x | .lz _ x | .bt x | .sa _ x | .sb x | .nl _ x | .cp x | .cl _ _ x | .fz x | .rk x => [x]
  | .al .. | .la _ | .xx => []
  | .bd _ ps _ => ps.map (·.2.2)
  | .bs _ _ _ ps | .bw _ _ _ ps | .bv _ _ _ ps => ps.map (·.2)
  | .st _ p x | .s0 _ p x => [p, x]
  | .bi _ _ x y | .qa _ _ x y | .mm _ x y | .ap _ _ x y | .ia _ x y | .it _ x y | .ja _ _ x y | .ix x y | .jx _ _ _ x y | .sh _ x y | .cy _ x y | .a0 _ x y | .a1 _ x y | .az _ _ x y => [x, y]
  | .mf _ cs | .mz _ cs => cs
  | .sx _ x lo hi mx | .sy _ x lo hi mx | .sw _ x lo hi mx => x :: (lo.toList ++ (hi.toList ++ mx.toList))
  | .ss x lo hi => x :: (lo.toList ++ hi.toList)
  | .pk c a b => [c, a, b]
  | .ca _ _ f xs => f :: xs

def Rel {α : Type} (T : (α → Prop) → Prop) : Prop := ∃ R : α → Prop, ∀ K, T K ↔ ∃ r, R r ∧ K r
section
variable {α β : Type} {T : (α → Prop) → Prop}
theorem rel_false : Rel (fun (_ : α → Prop) => False) := ⟨fun _ => False, fun K => by simp⟩
theorem rel_one (r : α) : Rel (fun (K : α → Prop) => K r) := ⟨fun s => s = r, fun K => by simp⟩
theorem rel_and {p : Prop} (h : Rel T) : Rel (fun K => p ∧ T K) := by
  obtain ⟨R, hR⟩ := h
  exact ⟨fun r => p ∧ R r, fun K => by simp only [hR]; constructor
                                       · rintro ⟨hp, r, h1, h2⟩; exact ⟨r, ⟨hp, h1⟩, h2⟩
                                       · rintro ⟨r, ⟨hp, h1⟩, h2⟩; exact ⟨hp, r, h1, h2⟩⟩
theorem rel_ex {U : β → (α → Prop) → Prop} (h : ∀ y, Rel (U y)) : Rel (fun K => ∃ y, U y K) := by
  refine ⟨fun r => ∃ y, (h y).choose r, fun K => ?_⟩
  constructor
  · rintro ⟨y, hy⟩
    obtain ⟨r, h1, h2⟩ := ((h y).choose_spec K).1 hy
    exact ⟨r, ⟨y, h1⟩, h2⟩
  · rintro ⟨r, ⟨y, h1⟩, h2⟩
    exact ⟨y, ((h y).choose_spec K).2 ⟨r, h1, h2⟩⟩
theorem rel_bind {U : α → (β → Prop) → Prop} (ht : Rel T) (h : ∀ y, Rel (U y)) : Rel (fun K => T fun y => U y K) := by
  obtain ⟨R, hR⟩ := ht
  have h1 : (fun K => T fun y => U y K) = fun K => ∃ y, R y ∧ U y K := by funext K; exact propext (hR _)
  rw [h1]
  exact rel_ex fun y => rel_and (h y)
theorem rel_congr {T' : (α → Prop) → Prop} (h : ∀ K, T K ↔ T' K) (ht : Rel T') : Rel T := by
  have : T = T' := funext fun K => propext (h K)
  rw [this]; exact ht
theorem Rel.ex (h : Rel T) {K : α → Prop} (ht : T K) : ∃ r, K r ∧ T (fun s => s = r) := by
  obtain ⟨R, hR⟩ := h
  obtain ⟨r, h1, h2⟩ := (hR K).1 ht
  exact ⟨r, h2, (hR _).2 ⟨r, h1, rfl⟩⟩
theorem Rel.mono (h : Rel T) {K K' : α → Prop} (hk : ∀ r, K r → K' r) (ht : T K) : T K' := by
  obtain ⟨R, hR⟩ := h
  obtain ⟨r, h1, h2⟩ := (hR K).1 ht
  exact (hR _).2 ⟨r, h1, hk r h2⟩
end

theorem biv_rel {op : BinOp} {w : Nat} {a b : Value} : Rel (biv op w a b) := by
  by_cases h : ∃ r p, ∀ K, biv op w a b K ↔ p ∧ K r
  · obtain ⟨r, p, h⟩ := h
    exact rel_congr h (rel_and (rel_one r))
  · refine rel_congr (T' := fun _ => False) (fun K => ⟨fun hk => h ?_, False.elim⟩) rel_false
    unfold biv at hk
    split at hk <;> first
      | exact hk.elim
      | exact ⟨_, _, fun K => by simp only [biv]; rw [and_assoc]⟩
      | exact ⟨_, _, fun K => by simp only [biv]; rw [← and_assoc]⟩
      | exact ⟨_, _, fun K => by simp only [biv]; rw [← and_assoc, ← and_assoc]⟩
      | exact ⟨_, _, fun K => by simp only [biv]; rw [← and_assoc, ← and_assoc, ← and_assoc]⟩
      | exact ⟨_, _, fun K => by simp only [biv]; exact Iff.rfl⟩
      | exact ⟨_, True, fun K => by simp only [biv, true_and]; exact Iff.rfl⟩
theorem eqv_rel {q : Nat} {x y : IV} : Rel (eqv q x y) := by
  by_cases h : ∃ r p, ∀ K, eqv q x y K ↔ p ∧ K r
  · obtain ⟨r, p, h⟩ := h
    exact rel_congr h (rel_and (rel_one r))
  · refine rel_congr (T' := fun _ => False) (fun K => ⟨fun hk => h ?_, False.elim⟩) rel_false
    unfold eqv at hk
    split at hk <;> first
      | exact hk.elim
      | exact ⟨_, _, fun K => by simp only [eqv]; exact Iff.rfl⟩
      | exact ⟨_, True, fun K => by simp only [eqv, true_and]; exact Iff.rfl⟩
theorem eqvs_rel : ∀ {qs : List Nat} {x y : List IV}, Rel (eqvs qs x y)
  | [], [], [] => rel_congr (fun _ => by simp only [eqvs]) (rel_one true)
  | q :: qs, x :: r, y :: s => rel_congr (fun _ => by simp only [eqvs]) (rel_bind (eqv_rel (q := q) (x := x) (y := y)) fun a => rel_bind (eqvs_rel (qs := qs) (x := r) (y := s)) fun b => rel_one (a && b))
  | [], [], _ :: _ => rel_congr (fun _ => by simp only [eqvs]) rel_false
  | [], _ :: _, _ => rel_congr (fun _ => by simp only [eqvs]) rel_false
  | _ :: _, [], _ => rel_congr (fun _ => by simp only [eqvs]) rel_false
  | _ :: _, _ :: _, [] => rel_congr (fun _ => by simp only [eqvs]) rel_false
theorem bndI_rel {ρ : X → IV} {x : Option X} {n : Nat} : Rel (bndI ρ x n) := by
  cases x with
  | none => exact rel_congr (fun _ => by simp only [bndI]) (rel_one n)
  | some x =>
    by_cases h : ∃ k m, ρ x = .tr (.v (.int k m))
    · obtain ⟨k, m, h⟩ := h
      exact rel_congr (fun _ => by simp only [bndI, h]) (rel_and (p := 0 ≤ m) (rel_one m.toNat))
    · refine rel_congr (T' := fun _ => False) (fun K => ⟨fun hk => h ?_, False.elim⟩) rel_false
      simp only [bndI] at hk
      split at hk
      · exact ⟨_, _, ‹_›⟩
      · exact hk.elim

abbrev MO := (Nat → Nat → IV) × (Nat → Nat → List Ob)
section
variable {C : Contract} {ρ : X → IV} {L : Sto}
theorem fills_rel {k : Nat} : ∀ (ps : List (Nat × X)) (es : Row) (u : Bool), Rel (fun K : Row × Bool → Prop => fills ρ k ps es u (fun a b => K (a, b)))
  | [], es, u => by simp only [fills]; exact rel_one (es, u)
  | (i, x) :: r, es, u => by
    simp only [fills]
    split
    · split
      · exact rel_and (rel_and (fills_rel r _ _))
      · exact rel_false
    · exact rel_false
theorem rdh_rel {id : Oid} {p : Pth} {st : Nat} : Rel (fun K : Row × Bool × Nat → Prop => rdh L id p st fun a b c => K (a, b, c)) := by
  simp only [rdh]
  split
  · exact rel_ex fun _ => rel_and (rel_and (rel_one _))
  · exact rel_false
theorem snapc_rel {L : Sto} : ∀ (x : IV), Rel (snapc L x) := by
  intro x
  cases x with
  | tr t => exact rel_congr (fun _ => by simp only [snapc]; exact Iff.rfl) (rel_one _)
  | cs es => exact rel_congr (fun _ => by simp only [snapc]; exact Iff.rfl) (rel_one _)
  | hd id p off len c st => exact rel_congr (fun _ => by simp only [snapc]) (rel_bind (rdh_rel (L := L) (id := id) (p := p) (st := st)) (U := fun y K => off + len ≤ y.1.length ∧ K (.sl (cut y.1 off len))) fun _ => rel_and (rel_one _))
  | _ => exact rel_congr (fun _ => by simp only [snapc]) rel_false
theorem snapcs_rel {L : Sto} : ∀ (l : List IV), Rel (snapcs L l)
  | [] => rel_congr (fun _ => by simp only [snapcs]; exact Iff.rfl) (rel_one _)
  | x :: r => rel_congr (fun _ => by simp only [snapcs]) (rel_bind (snapc_rel (L := L) x) (U := fun t K => snapcs L r fun ts => K (t :: ts)) fun t => rel_bind (snapcs_rel (L := L) r) (U := fun ts K => K (t :: ts)) fun _ => rel_one _)
theorem snapb_rel {L : Sto} {o : Option Ob} {off : Nat} : Rel (snapb o L off) := by
  cases o with
  | none => exact rel_congr (fun _ => by simp only [snapb]) rel_false
  | some ob =>
    cases ob with
    | bx cells => exact rel_congr (fun _ => by simp only [snapb]) (rel_bind (snapcs_rel (L := L) (cells.drop off)) (U := fun ts K => K (.ta ts)) fun _ => rel_one _)
    | ar => exact rel_congr (fun _ => by simp only [snapb]) rel_false
mutual
theorem snap_rel : ∀ (x : IV), Rel (snap L x)
  | .un => rel_congr (fun _ => by simp only [snap]; exact Iff.rfl) (rel_one _)
  | .tr t => rel_congr (fun _ => by simp only [snap]; exact Iff.rfl) (rel_one _)
  | .cs es => rel_congr (fun _ => by simp only [snap]; exact Iff.rfl) (rel_one _)
  | .hd id p off len c st => rel_congr (fun _ => by simp only [snap]) (rel_bind (rdh_rel (L := L) (id := id) (p := p) (st := st)) (U := fun y K => off + len ≤ y.1.length ∧ K (.tr (.sl (cut y.1 off len)))) fun _ => rel_and (rel_one _))
  | .ag l => rel_congr (fun _ => by simp only [snap]) (rel_bind (snaps_rel l) (U := fun l' K => K (.ag l')) fun _ => rel_one _)
  | .fn f c => rel_congr (fun _ => by simp only [snap]) (rel_bind (snaps_rel c) (U := fun l' K => K (.fn f l')) fun _ => rel_one _)
  | .er => rel_congr (fun _ => by simp only [snap]; exact Iff.rfl) (rel_one _)
  | .ab id off => rel_congr (fun _ => by simp only [snap]) (snapb_rel (L := L) (o := L id) (off := off))
  | .sv _ => rel_congr (fun _ => by simp only [snap]) rel_false
  | .ae .. => rel_congr (fun _ => by simp only [snap]) rel_false
  | .ta c => rel_congr (fun _ => by simp only [snap]; exact Iff.rfl) (rel_one _)
  | .tu .. => rel_congr (fun _ => by simp only [snap]) rel_false
  | .ow .. => rel_congr (fun _ => by simp only [snap]) rel_false
theorem snaps_rel : ∀ (l : List IV), Rel (snaps L l)
  | [] => rel_congr (fun _ => by simp only [snaps]; exact Iff.rfl) (rel_one _)
  | x :: r => rel_congr (fun _ => by simp only [snaps]) (rel_bind (snap_rel x) (U := fun x' K => snaps L r fun r' => K (x' :: r')) fun x' => rel_bind (snaps_rel r) (U := fun r' K => K (x' :: r')) fun _ => rel_one _)
end
theorem ev_rel : ∀ (o : O), Rel (fun K : MO → Prop => ev C ρ L (fun m b => K (m, b)) o) := by
  intro o
  have key : ∀ {α : Type} {T : (α → Prop) → Prop} {U : α → (MO → Prop) → Prop}, Rel T → (∀ y, Rel (U y)) → Rel (fun K => T fun y => U y K) := fun h1 h2 => rel_bind h1 h2
  cases o
  case bs k n z ps =>
    simp only [ev]
    exact rel_bind (fills_rel (ρ := ρ) (k := k) ps (List.replicate n (z.map trv)) true) (U := fun y (K : MO → Prop) => K (fun l b => .hd (l, b) [] 0 n none n, fun _ _ => [.ar k y.1 y.2 n 0])) fun _ => rel_one _
  case bi op w x y =>
    simp only [ev, pureK]
    split
    · rename_i a b _ _
      exact rel_bind (biv_rel (op := op) (w := w) (a := a) (b := b)) (U := fun r (K : MO → Prop) => K (fun _ _ => .tr (.v r), fun _ _ => [])) fun _ => rel_one _
    · split <;> first | exact rel_one _ | exact rel_false
    · exact rel_false
  case qa neg ks x y =>
    simp only [ev, pureK]
    split
    · rename_i l m _ _
      exact rel_bind (eqvs_rel (qs := ks) (x := l) (y := m)) (U := fun r (K : MO → Prop) => K (fun _ _ => iB (if neg then !r else r), fun _ _ => [])) fun _ => rel_one _
    · exact rel_false
  case sx k x lo hi mx =>
    simp only [ev, pureK]
    split
    · rename_i es _
      refine rel_and (rel_bind (bndI_rel (ρ := ρ) (x := lo) (n := 0)) (U := fun a (K : MO → Prop) => bndI ρ hi es.length fun b => a ≤ b ∧ b ≤ es.length ∧ bndI ρ mx b fun m => m = b ∧ K (fun _ _ => if mx.isSome then .cs (cut es a (b - a)) else .tr (.sl (cut es a (b - a))), fun _ _ => [])) fun a => ?_)
      refine rel_bind (bndI_rel (ρ := ρ) (x := hi) (n := es.length)) (U := fun b (K : MO → Prop) => a ≤ b ∧ b ≤ es.length ∧ bndI ρ mx b fun m => m = b ∧ K (fun _ _ => if mx.isSome then .cs (cut es a (b - a)) else .tr (.sl (cut es a (b - a))), fun _ _ => [])) fun b => ?_
      exact rel_and (rel_and (rel_bind (bndI_rel (ρ := ρ) (x := mx) (n := b)) (U := fun m (K : MO → Prop) => m = b ∧ K (fun _ _ => if mx.isSome then .cs (cut es a (b - a)) else .tr (.sl (cut es a (b - a))), fun _ _ => [])) fun m => rel_and (rel_one _)))
    · rename_i es _
      refine rel_and (rel_bind (bndI_rel (ρ := ρ) (x := lo) (n := 0)) (U := fun a (K : MO → Prop) => bndI ρ hi es.length fun b => a ≤ b ∧ b ≤ es.length ∧ bndI ρ mx b fun m => m = b ∧ K (fun _ _ => if mx.isSome || hi.isNone then .cs (cut es a (b - a)) else .tr (.sl (cut es a (b - a))), fun _ _ => [])) fun a => ?_)
      refine rel_bind (bndI_rel (ρ := ρ) (x := hi) (n := es.length)) (U := fun b (K : MO → Prop) => a ≤ b ∧ b ≤ es.length ∧ bndI ρ mx b fun m => m = b ∧ K (fun _ _ => if mx.isSome || hi.isNone then .cs (cut es a (b - a)) else .tr (.sl (cut es a (b - a))), fun _ _ => [])) fun b => ?_
      exact rel_and (rel_and (rel_bind (bndI_rel (ρ := ρ) (x := mx) (n := b)) (U := fun m (K : MO → Prop) => m = b ∧ K (fun _ _ => if mx.isSome || hi.isNone then .cs (cut es a (b - a)) else .tr (.sl (cut es a (b - a))), fun _ _ => [])) fun m => rel_and (rel_one _)))
    · rename_i id p off len cap st _
      refine rel_bind (bndI_rel (ρ := ρ) (x := lo) (n := 0)) (U := fun a (K : MO → Prop) => bndI ρ hi len fun b => a ≤ b ∧ b ≤ len ∧ bndI ρ mx b fun m => b ≤ m ∧ m ≤ len ∧ wid L id p k ∧ K (fun _ _ => .hd id p (off + a) (b - a) (if mx.isSome then some (m - a) else cap.map (· - a)) st, fun _ _ => [])) fun a => ?_
      refine rel_bind (bndI_rel (ρ := ρ) (x := hi) (n := len)) (U := fun b (K : MO → Prop) => a ≤ b ∧ b ≤ len ∧ bndI ρ mx b fun m => b ≤ m ∧ m ≤ len ∧ wid L id p k ∧ K (fun _ _ => .hd id p (off + a) (b - a) (if mx.isSome then some (m - a) else cap.map (· - a)) st, fun _ _ => [])) fun b => ?_
      exact rel_and (rel_and (rel_bind (bndI_rel (ρ := ρ) (x := mx) (n := b)) (U := fun m (K : MO → Prop) => b ≤ m ∧ m ≤ len ∧ wid L id p k ∧ K (fun _ _ => .hd id p (off + a) (b - a) (if mx.isSome then some (m - a) else cap.map (· - a)) st, fun _ _ => [])) fun m => rel_and (rel_and (rel_and (rel_one _)))))
    · exact rel_false
  case sw k x lo hi mx =>
    simp only [ev, pureK]
    split
    · rename_i es _
      refine rel_and (rel_bind (bndI_rel (ρ := ρ) (x := lo) (n := 0)) (U := fun a (K : MO → Prop) => bndI ρ hi es.length fun b => a ≤ b ∧ b ≤ es.length ∧ bndI ρ mx b fun m => m = b ∧ K (fun _ _ => if mx.isSome then .cs (cut es a (b - a)) else .tr (.sl (cut es a (b - a))), fun _ _ => [])) fun a => ?_)
      refine rel_bind (bndI_rel (ρ := ρ) (x := hi) (n := es.length)) (U := fun b (K : MO → Prop) => a ≤ b ∧ b ≤ es.length ∧ bndI ρ mx b fun m => m = b ∧ K (fun _ _ => if mx.isSome then .cs (cut es a (b - a)) else .tr (.sl (cut es a (b - a))), fun _ _ => [])) fun b => ?_
      exact rel_and (rel_and (rel_bind (bndI_rel (ρ := ρ) (x := mx) (n := b)) (U := fun m (K : MO → Prop) => m = b ∧ K (fun _ _ => if mx.isSome then .cs (cut es a (b - a)) else .tr (.sl (cut es a (b - a))), fun _ _ => [])) fun m => rel_and (rel_one _)))
    · rename_i es _
      refine rel_and (rel_bind (bndI_rel (ρ := ρ) (x := lo) (n := 0)) (U := fun a (K : MO → Prop) => bndI ρ hi es.length fun b => a ≤ b ∧ b ≤ es.length ∧ bndI ρ mx b fun m => m = b ∧ K (fun _ _ => if mx.isSome || hi.isNone then .cs (cut es a (b - a)) else .tr (.sl (cut es a (b - a))), fun _ _ => [])) fun a => ?_)
      refine rel_bind (bndI_rel (ρ := ρ) (x := hi) (n := es.length)) (U := fun b (K : MO → Prop) => a ≤ b ∧ b ≤ es.length ∧ bndI ρ mx b fun m => m = b ∧ K (fun _ _ => if mx.isSome || hi.isNone then .cs (cut es a (b - a)) else .tr (.sl (cut es a (b - a))), fun _ _ => [])) fun b => ?_
      exact rel_and (rel_and (rel_bind (bndI_rel (ρ := ρ) (x := mx) (n := b)) (U := fun m (K : MO → Prop) => m = b ∧ K (fun _ _ => if mx.isSome || hi.isNone then .cs (cut es a (b - a)) else .tr (.sl (cut es a (b - a))), fun _ _ => [])) fun m => rel_and (rel_one _)))
    · rename_i id off len cap st _
      refine rel_and (rel_bind (bndI_rel (ρ := ρ) (x := lo) (n := 0)) (U := fun a (K : MO → Prop) => bndI ρ hi len fun b => a ≤ b ∧ b ≤ len ∧ bndI ρ mx b fun m => b ≤ m ∧ m ≤ len ∧ K (fun _ _ => .hd id [] (off + a) (b - a) (if mx.isSome then some (m - a) else cap.map (· - a)) st, fun _ _ => [])) fun a => ?_)
      refine rel_bind (bndI_rel (ρ := ρ) (x := hi) (n := len)) (U := fun b (K : MO → Prop) => a ≤ b ∧ b ≤ len ∧ bndI ρ mx b fun m => b ≤ m ∧ m ≤ len ∧ K (fun _ _ => .hd id [] (off + a) (b - a) (if mx.isSome then some (m - a) else cap.map (· - a)) st, fun _ _ => [])) fun b => ?_
      exact rel_and (rel_and (rel_bind (bndI_rel (ρ := ρ) (x := mx) (n := b)) (U := fun m (K : MO → Prop) => b ≤ m ∧ m ≤ len ∧ K (fun _ _ => .hd id [] (off + a) (b - a) (if mx.isSome then some (m - a) else cap.map (· - a)) st, fun _ _ => [])) fun m => rel_and (rel_and (rel_one _))))
    · exact rel_false
  case sy k x lo hi mx =>
    simp only [ev, pureK]
    split
    · rename_i es _
      refine rel_and (rel_bind (bndI_rel (ρ := ρ) (x := lo) (n := 0)) (U := fun a (K : MO → Prop) => bndI ρ hi es.length fun b => a ≤ b ∧ b ≤ es.length ∧ bndI ρ mx b fun m => m = b ∧ K (fun _ _ => if mx.isSome then .cs (cut es a (b - a)) else .tr (.sl (cut es a (b - a))), fun _ _ => [])) fun a => ?_)
      refine rel_bind (bndI_rel (ρ := ρ) (x := hi) (n := es.length)) (U := fun b (K : MO → Prop) => a ≤ b ∧ b ≤ es.length ∧ bndI ρ mx b fun m => m = b ∧ K (fun _ _ => if mx.isSome then .cs (cut es a (b - a)) else .tr (.sl (cut es a (b - a))), fun _ _ => [])) fun b => ?_
      exact rel_and (rel_and (rel_bind (bndI_rel (ρ := ρ) (x := mx) (n := b)) (U := fun m (K : MO → Prop) => m = b ∧ K (fun _ _ => if mx.isSome then .cs (cut es a (b - a)) else .tr (.sl (cut es a (b - a))), fun _ _ => [])) fun m => rel_and (rel_one _)))
    · rename_i es _
      refine rel_and (rel_bind (bndI_rel (ρ := ρ) (x := lo) (n := 0)) (U := fun a (K : MO → Prop) => bndI ρ hi es.length fun b => a ≤ b ∧ b ≤ es.length ∧ bndI ρ mx b fun m => m = b ∧ K (fun _ _ => if mx.isSome || hi.isNone then .cs (cut es a (b - a)) else .tr (.sl (cut es a (b - a))), fun _ _ => [])) fun a => ?_)
      refine rel_bind (bndI_rel (ρ := ρ) (x := hi) (n := es.length)) (U := fun b (K : MO → Prop) => a ≤ b ∧ b ≤ es.length ∧ bndI ρ mx b fun m => m = b ∧ K (fun _ _ => if mx.isSome || hi.isNone then .cs (cut es a (b - a)) else .tr (.sl (cut es a (b - a))), fun _ _ => [])) fun b => ?_
      exact rel_and (rel_and (rel_bind (bndI_rel (ρ := ρ) (x := mx) (n := b)) (U := fun m (K : MO → Prop) => m = b ∧ K (fun _ _ => if mx.isSome || hi.isNone then .cs (cut es a (b - a)) else .tr (.sl (cut es a (b - a))), fun _ _ => [])) fun m => rel_and (rel_one _)))
    · exact rel_false
  case ss x lo hi =>
    simp only [ev, pureK]
    split
    · rename_i s _
      refine rel_bind (bndI_rel (ρ := ρ) (x := lo) (n := 0)) (U := fun a (K : MO → Prop) => bndI ρ hi s.size fun b => a ≤ b ∧ b ≤ s.size ∧ K (fun _ _ => iS (s.extract a b), fun _ _ => [])) fun a => ?_
      exact rel_bind (bndI_rel (ρ := ρ) (x := hi) (n := s.size)) (U := fun b (K : MO → Prop) => a ≤ b ∧ b ≤ s.size ∧ K (fun _ _ => iS (s.extract a b), fun _ _ => [])) fun b => rel_and (rel_and (rel_one _))
    · exact rel_false
  case ca m imp f xs =>
    cases m <;> simp only [ev] <;> try exact rel_false
    rotate_left
    · split
      · exact rel_ex fun r => rel_and (rel_one _)
      · exact rel_false
    split
    · rename_i caps _
      refine rel_bind (snaps_rel (L := L) (xs.map ρ ++ caps)) (U := fun args (K : MO → Prop) => ∃ r, _ ∧ _ ∧ K (fun l b => (impv imp l b 0 r).1, fun l b => (impv imp l b 0 r).2)) fun args => rel_ex fun r => rel_and (rel_and (rel_one _))
    · exact rel_false
  all_goals
    (try cases ‹Option Nat›)
    all_goals
      simp only [ev, pureK, rdh]
      repeat' first | exact rel_false | exact rel_one _ | refine rel_and ?_ | (refine rel_ex fun _ => ?_) | split

abbrev Same1 (L L' : Sto) (id : Oid) : Prop := ∀ ob, L id = some ob → L' id = some ob
abbrev Same2 (L L' : Sto) (id : Oid) : Prop := Same1 L L' id ∧ ∀ cells, L id = some (.bx cells) → mens (Same1 L L') cells
abbrev See (L L' : Sto) (x : IV) : Prop := men (Same2 L L') x
abbrev Sees (L L' : Sto) (x : List IV) : Prop := mens (Same2 L L') x

mutual
theorem men_both {P Q R : Oid → Prop} (h : ∀ i, P i → Q i → R i) : ∀ (x : IV), men P x → men Q x → men R x
  | .hd .., a, b => h _ a b
  | .ab .., a, b => h _ a b
  | .ae .., a, b => h _ a b
  | .sv .., a, b => h _ a b
  | .ag l, a, b => by simp only [men] at *; exact mens_both h l a b
  | .tu l, a, b => by simp only [men] at *; exact mens_both h l a b
  | .fn _ l, a, b => by simp only [men] at *; exact mens_both h l a b
  | .un, _, _ => trivial
  | .tr _, _, _ => trivial
  | .cs _, _, _ => trivial
  | .ta _, _, _ => trivial
  | .ow .., _, _ => trivial
  | .er, _, _ => trivial
theorem mens_both {P Q R : Oid → Prop} (h : ∀ i, P i → Q i → R i) : ∀ (x : List IV), mens P x → mens Q x → mens R x
  | [], _, _ => trivial
  | x :: r, a, b => ⟨men_both h x a.1 b.1, mens_both h r a.2 b.2⟩
end
variable {ρ' : X → IV} {L' : Sto}
theorem seen_back {S : Sto} {l : Nat} (xs : List IV) (h : Sees L L' xs) (hS : mens (Seen2 L' S l) xs) : mens (Seen2 L S l) xs :=
  mens_both (fun _ a b => ⟨⟨b.1.1, fun ob ho => b.1.2 ob (a.1 ob ho)⟩, fun cells hc => mens_both (fun _ c d => ⟨d.1, fun ob ho => d.2 ob (c ob ho)⟩) cells (a.2 cells hc) (b.2 cells (a.1 _ hc))⟩) xs h hS
theorem rdh_mono {id : Oid} {p : Pth} {st : Nat} {K K' : Row → Bool → Nat → Prop} (hs : ∀ ob, L id = some ob → L' id = some ob) (hk : ∀ a b c, K a b c → K' a b c) (h : rdh L id p st K) : rdh L' id p st K' := by
  unfold rdh at *
  split at h
  · rename_i k es u hw ver hl
    rw [hs _ hl]
    obtain ⟨es', h1, h2, h3⟩ := h
    exact ⟨es', h1, h2, hk _ _ _ h3⟩
  · exact h.elim
theorem mens_dropn {Q : Oid → Prop} : ∀ (n : Nat) {l : List IV}, mens Q l → mens Q (l.drop n)
  | 0, _, h => h
  | n + 1, [], h => h
  | n + 1, x :: r, h => mens_dropn n h.2
theorem snapcs_see : ∀ (l : List IV) {K K' : List Tr → Prop}, mens (Same1 L L') l → (∀ y, K y → K' y) → snapcs L l K → snapcs L' l K'
  | [], _, _, _, hk, h => hk _ h
  | x :: r, K, K', hs, hk, h => by
    simp only [snapcs] at *
    have go : ∀ t, (snapcs L r fun ts => K (t :: ts)) → snapcs L' r fun ts => K' (t :: ts) := fun t h => snapcs_see r hs.2 (fun _ h => hk _ h) h
    cases x with
    | tr t => exact go t h
    | cs es => exact go _ h
    | hd id p off len c st => simp only [snapc] at *; exact rdh_mono hs.1 (fun _ _ _ h => ⟨h.1, go _ h.2⟩) h
    | _ => simp only [snapc] at h
mutual
theorem snap_see : ∀ (x : IV) {K K' : IV → Prop}, See L L' x → (∀ y, K y → K' y) → snap L x K → snap L' x K'
  | .un, _, _, _, hk, h => by simp only [snap] at *; exact hk _ h
  | .tr t, _, _, _, hk, h => by simp only [snap] at *; exact hk _ h
  | .cs es, _, _, _, hk, h => by simp only [snap] at *; exact hk _ h
  | .hd id p off len c st, _, _, hs, hk, h => by simp only [snap] at *; exact rdh_mono hs.1 (fun _ _ _ h => ⟨h.1, hk _ h.2⟩) h
  | .ag l, _, _, hs, hk, h => by simp only [snap, See, men] at *; exact snaps_see l hs (fun _ h => hk _ h) h
  | .fn f c, _, _, hs, hk, h => by simp only [snap, See, men] at *; exact snaps_see c hs (fun _ h => hk _ h) h
  | .er, _, _, _, hk, h => by simp only [snap] at *; exact hk _ h
  | .ab id off, _, _, hs, hk, h => by
    simp only [snap, snapb] at *
    split at h <;> try contradiction
    rename_i cells hq
    rw [hs.1 _ hq]
    exact snapcs_see _ (mens_dropn off (hs.2 _ hq)) (fun _ h => hk _ h) h
  | .sv _, _, _, _, _, h => by simp only [snap] at h
  | .ae .., _, _, _, _, h => by simp only [snap] at h
  | .ta c, _, _, _, hk, h => by simp only [snap] at *; exact hk _ h
  | .tu .., _, _, _, _, h => by simp only [snap] at h
  | .ow .., _, _, _, _, h => by simp only [snap] at h
theorem snaps_see : ∀ (l : List IV) {K K' : List IV → Prop}, Sees L L' l → (∀ y, K y → K' y) → snaps L l K → snaps L' l K'
  | [], _, _, _, hk, h => by simp only [snaps] at *; exact hk _ h
  | x :: r, _, _, hs, hk, h => by simp only [snaps, Sees, mens] at *; exact snap_see x hs.1 (fun _ h => snaps_see r hs.2 (fun _ h => hk _ h) h) h
end
theorem okp_congr {n : Nat} : ∀ {ps : List (Nat × Nat × X)}, (∀ x ∈ ps.map (·.2.2), ρ' x = ρ x) → okp ρ n ps → okp ρ' n ps
  | [], _, _ => trivial
  | (off, m, x) :: r, hp, h => by
    simp only [okp] at *
    rw [hp x (by simp)]
    exact ⟨h.1, h.2.1, okp_congr (fun y hy => hp y (by simp at hy ⊢; exact .inr hy)) h.2.2⟩
theorem fpart_congr : ∀ {ps : List (Nat × Nat × X)} {cs : List IV}, (∀ x ∈ ps.map (·.2.2), ρ' x = ρ x) → fpart ρ' ps cs = fpart ρ ps cs
  | [], _, _ => rfl
  | (off, m, x) :: r, cs, hp => by
    simp only [fpart]
    rw [hp x (by simp)]
    exact fpart_congr (fun y hy => hp y (by simp at hy ⊢; exact .inr hy))
theorem fills_congr {k : Nat} {K : Row → Bool → Prop} : ∀ {ps : List (Nat × X)} {es : Row} {u : Bool}, (∀ x ∈ ps.map (·.2), ρ' x = ρ x) → fills ρ k ps es u K → fills ρ' k ps es u K
  | [], _, _, _, h => h
  | (i, x) :: r, es, u, hp, h => by
    simp only [fills] at *
    rw [hp x (by simp)]
    split at h <;> try contradiction
    split at h <;> try contradiction
    exact ⟨h.1, h.2.1, fills_congr (fun y hy => hp y (by simp at hy ⊢; exact .inr hy)) h.2.2⟩
theorem bndI_congr {x : Option X} {n : Nat} (hp : ∀ y ∈ x.toList, ρ' y = ρ y) : bndI ρ' x n = bndI ρ x n := by
  cases x with
  | none => rfl
  | some x => funext K; simp only [bndI]; rw [hp x (by simp)]
theorem wid_see {id : Oid} {p : Pth} {k : Nat} (hs : ∀ ob, L id = some ob → L' id = some ob) (h : wid L id p k) : wid L' id p k := by
  unfold wid at *
  split at h
  · rename_i hl; rw [hs _ hl]; exact h
  · exact h.elim

theorem ev_congr {K : Kind} : ∀ (o : O), (∀ x ∈ rd o, ρ' x = ρ x) → (∀ x ∈ rd o, See L L' (ρ x)) → ev C ρ L K o → ev C ρ' L' K o := by
  intro o hp hs h
  cases o
  case ld m p =>
    have h1 := hp p (by simp [rd])
    have h2 := hs p (by simp [rd])
    cases m <;> simp only [ev] at h ⊢ <;> rw [h1] <;> split at h <;> try contradiction
    · exact h
    · rename_i hq
      rw [hq] at h2
      split at h <;> try contradiction
      rename_i hl
      rw [h2.1 _ hl]; exact h
    · rename_i hq
      rw [hq] at h2
      exact rdh_mono h2.1 (fun _ _ _ h => h) h
    · exact h
    · rename_i hq
      rw [hq] at h2
      split at h <;> try contradiction
      rename_i hl
      rw [h2.1 _ hl]; exact h
    · rename_i hq
      rw [hq] at h2
      exact rdh_mono h2.1 (fun _ _ _ h => h) h
  case sx k x lo hi mx =>
    have h1 := hp x (by simp [rd])
    have h2 := hs x (by simp [rd])
    have hlo := fun n => bndI_congr (ρ := ρ) (ρ' := ρ') (x := lo) (n := n) (fun y hy => hp y (by simp [rd] at hy ⊢; exact .inr (.inl hy)))
    have hhi := fun n => bndI_congr (ρ := ρ) (ρ' := ρ') (x := hi) (n := n) (fun y hy => hp y (by simp [rd] at hy ⊢; exact .inr (.inr (.inl hy))))
    have hmx := fun n => bndI_congr (ρ := ρ) (ρ' := ρ') (x := mx) (n := n) (fun y hy => hp y (by simp [rd] at hy ⊢; exact .inr (.inr (.inr hy))))
    simp only [ev] at h ⊢
    simp only [hlo, hhi, hmx]
    rw [h1]
    split at h <;> try contradiction
    · exact h
    · exact h
    · rename_i hq
      rw [hq] at h2
      exact bndI_rel.mono (fun a h => bndI_rel.mono (fun b h => ⟨h.1, h.2.1, bndI_rel.mono (fun m h => ⟨h.1, h.2.1, wid_see h2.1 h.2.2.1, h.2.2.2⟩) h.2.2⟩) h) h
  case sw k x lo hi mx =>
    have h1 := hp x (by simp [rd])
    have h2 := hs x (by simp [rd])
    have hlo := fun n => bndI_congr (ρ := ρ) (ρ' := ρ') (x := lo) (n := n) (fun y hy => hp y (by simp [rd] at hy ⊢; exact .inr (.inl hy)))
    have hhi := fun n => bndI_congr (ρ := ρ) (ρ' := ρ') (x := hi) (n := n) (fun y hy => hp y (by simp [rd] at hy ⊢; exact .inr (.inr (.inl hy))))
    have hmx := fun n => bndI_congr (ρ := ρ) (ρ' := ρ') (x := mx) (n := n) (fun y hy => hp y (by simp [rd] at hy ⊢; exact .inr (.inr (.inr hy))))
    simp only [ev] at h ⊢
    simp only [hlo, hhi, hmx]
    rw [h1]
    split at h <;> try contradiction
    · exact h
    · exact h
    · rename_i hq
      rw [hq] at h2
      exact ⟨wid_see h2.1 h.1, h.2⟩
  case sy k x lo hi mx =>
    have h1 := hp x (by simp [rd])
    have hlo := fun n => bndI_congr (ρ := ρ) (ρ' := ρ') (x := lo) (n := n) (fun y hy => hp y (by simp [rd] at hy ⊢; exact .inr (.inl hy)))
    have hhi := fun n => bndI_congr (ρ := ρ) (ρ' := ρ') (x := hi) (n := n) (fun y hy => hp y (by simp [rd] at hy ⊢; exact .inr (.inr (.inl hy))))
    have hmx := fun n => bndI_congr (ρ := ρ) (ρ' := ρ') (x := mx) (n := n) (fun y hy => hp y (by simp [rd] at hy ⊢; exact .inr (.inr (.inr hy))))
    simp only [ev] at h ⊢
    simp only [hlo, hhi, hmx]
    rw [h1]
    split at h <;> try contradiction
    · exact h
    · exact h
  case sb x =>
    have h1 := hp x (by simp [rd])
    have h2 := hs x (by simp [rd])
    simp only [ev] at h ⊢
    rw [h1]
    split at h <;> try contradiction
    · exact h
    · exact h
    · rename_i hq
      rw [hq] at h2
      exact rdh_mono h2.1 (fun _ _ _ h => h) h
  case ss x lo hi =>
    have h1 := hp x (by simp [rd])
    have hlo := fun n => bndI_congr (ρ := ρ) (ρ' := ρ') (x := lo) (n := n) (fun y hy => hp y (by simp [rd] at hy ⊢; exact .inr (.inl hy)))
    have hhi := fun n => bndI_congr (ρ := ρ) (ρ' := ρ') (x := hi) (n := n) (fun y hy => hp y (by simp [rd] at hy ⊢; exact .inr (.inr hy)))
    simp only [ev] at h ⊢
    simp only [hlo, hhi]
    rw [h1]; exact h
  case ia k x i =>
    have h1 := hp x (by simp [rd])
    have h2 := hs x (by simp [rd])
    have h3 := hp i (by simp [rd])
    simp only [ev] at h ⊢
    rw [h1, h3]
    split at h <;> try contradiction
    refine ⟨h.1, ?_⟩
    have h := h.2
    split at h <;> try contradiction
    · exact h
    · exact h
    · rename_i hq
      rw [hq] at h2
      exact rdh_mono h2.1 (fun _ _ _ h => h) h
  case ca m imp f xs =>
    have h1 := hp f (by simp [rd])
    have h3 : xs.map ρ' = xs.map ρ := List.map_congr_left fun x hx => hp x (by simp [rd, hx])
    have h2 : Sees L L' (xs.map ρ) := by
      have : ∀ x ∈ xs, See L L' (ρ x) := fun x hx => hs x (by simp [rd, hx])
      clear h3 h1 hp hs h
      induction xs with
      | nil => trivial
      | cons y r ih => exact ⟨this y (by simp), ih fun x hx => this x (by simp [hx])⟩
    cases m <;> simp only [ev] at h ⊢
    rotate_left
    · have h4 := hs f (by simp [rd])
      rw [h1, h3]
      split at h <;> try contradiction
      rename_i fid caps hq
      rw [hq] at h4
      have h4 : Sees L L' caps := by simpa only [See, men] using h4
      have h5 : Sees L L' (xs.map ρ ++ caps) := by
        clear h h3 h1 hp hs
        induction xs with
        | nil => exact h4
        | cons y r ih => exact ⟨h2.1, ih h2.2⟩
      obtain ⟨r, hr, hk⟩ := h
      exact ⟨r, fun l S hS => hr l S (seen_back _ h5 hS), hk⟩
    have h4 := hs f (by simp [rd])
    rw [h1, h3]
    split at h <;> try contradiction
    rename_i fid caps hq
    rw [hq] at h4
    have h4 : Sees L L' caps := by simpa only [See, men] using h4
    have h5 : Sees L L' (xs.map ρ ++ caps) := by
      clear h h3 h1 hp hs
      induction xs with
      | nil => exact h4
      | cons y r ih => exact ⟨h2.1, ih h2.2⟩
    exact snaps_see _ h5 (fun _ h => h) h
  case bd z ps nz =>
    simp only [ev] at h ⊢
    have hh : ∀ x ∈ ps.map (·.2.2), ρ' x = ρ x := hp
    refine ⟨okp_congr hh h.1, ?_⟩
    simp only [fpart_congr hh]
    exact h.2
  case bs k n z ps =>
    simp only [ev] at h ⊢
    exact fills_congr (fun x hx => hp x hx) h
  case mf g cs =>
    have h3 : cs.map ρ' = cs.map ρ := List.map_congr_left fun x hx => hp x (by simp [rd, hx])
    simp only [ev] at h ⊢
    rw [h3]; exact h
  case bv k n z ps =>
    simp only [ev] at h ⊢
    split at h <;> try contradiction
    rename_i x
    have h1 := hp x (by simp [rd])
    rw [h1]; exact h
  all_goals
    (try cases ‹Option Nat›)
    all_goals
      first
        | (simp only [ev] at h; done)
        | (simp only [ev] at h ⊢
           simp only [rd, List.mem_cons, List.not_mem_nil, or_false, forall_eq_or_imp, forall_eq, false_implies, implies_true] at hp
           first | exact h | (rw [hp]; exact h) | (rw [hp.1, hp.2]; exact h) | (rw [hp.1, hp.2.1, hp.2.2]; exact h))
theorem srcS_rel {S : Sto} {x : IV} : Rel (srcS S x) := by
  unfold srcS
  split
  · exact rel_one _
  · exact rel_one _
  · rename_i id p off len c s
    exact rel_congr (fun _ => Iff.rfl) (rel_bind (rdh_rel (L := S) (id := id) (p := p) (st := s)) (U := fun y K => off + len ≤ y.1.length ∧ K (cut y.1 off len)) fun _ => rel_and (rel_one _))
  · exact rel_false
theorem srcT_rel {x : IV} : Rel (srcT x) := by
  unfold srcT
  split
  · exact rel_one _
  · exact rel_one _
  · exact rel_false
theorem stq_rel {p : Pth} {i : Nat} : ∀ (l : List IV) (f : Nat) (es : Row), Rel (stq p i f l es)
  | [], f, es => rel_congr (fun _ => by simp only [stq]) (rel_one es)
  | x :: r, f, es => by
    refine rel_congr (fun K => by simp only [stq]; exact Iff.rfl) ?_
    refine rel_ex fun es' => rel_and (rel_ex fun e => rel_and (rel_ex fun t0 => rel_and (rel_and ?_)))
    split
    · exact stq_rel r (f + 1) _
    · exact rel_false
theorem qeff_rel {ρ : X → IV} {S : Sto} : ∀ (o : O), Rel (fun K : IV × Oid × Ob → Prop => qeff ρ S (fun v id ob => K (v, id, ob)) o) := by
  intro o
  cases o <;> simp only [qeff] <;> try exact rel_false
  · rename_i m p x
    split
    · rename_i l _
      refine rel_and ?_
      split
      · rename_i id off _
        split
        · exact rel_and (rel_and (rel_one _))
        · exact rel_false
      · rename_i id p i f s _
        split
        · rename_i k es u hw ver _
          exact rel_and (rel_and (rel_bind (stq_rel (p := p) (i := i) l f es) (U := fun es' (K : IV × Oid × Ob → Prop) => K (.tu [], id, .ar k es' u hw ver)) fun _ => rel_one _))
        · exact rel_false
      · exact rel_false
    · exact rel_false
  · rename_i k x y
    split
    · rename_i id len s _
      split
      · rename_i k' es u hw ver _
        exact rel_and (rel_and (rel_and (rel_bind (srcS_rel (S := S) (x := ρ y)) (U := fun items (K : IV × Oid × Ob → Prop) => ScR items ∧ UnR k items ∧ len + items.length ≤ bigN ∧ K (.hd id [] 0 (len + items.length) none (max hw (len + items.length)), id, .ar k (es ++ items) u (max hw (len + items.length)) ver)) fun _ => rel_and (rel_and (rel_and (rel_one _))))))
      · exact rel_false
    · exact rel_false
  · rename_i k x y
    split
    · rename_i id len s _
      split
      · rename_i k' es u hw ver _
        exact rel_and (rel_and (rel_and (rel_bind (srcT_rel (x := ρ y)) (U := fun items (K : IV × Oid × Ob → Prop) => UnR k items ∧ len + items.length ≤ bigN ∧ K (.hd id [] 0 (len + items.length) none (max hw (len + items.length)), id, .ar k (es ++ items) false (max hw (len + items.length)) ver)) fun _ => rel_and (rel_and (rel_one _)))))
      · exact rel_false
    · exact rel_false
theorem srcS_mono {S S' : Sto} {x : IV} {F F' : Row → Prop} (hS : ∀ id ob, S id = some ob → S' id = some ob) (hF : ∀ r, F r → F' r) (h : srcS S x F) : srcS S' x F' := by
  unfold srcS at h ⊢
  split at h <;> try contradiction
  · exact hF _ h
  · exact hF _ h
  · exact rdh_mono (hS _) (fun _ _ _ h => ⟨h.1, hF _ h.2⟩) h
theorem qeff_congr {ρ ρ' : X → IV} {S S' : Sto} {K : IV → Oid → Ob → Prop} : ∀ (o : O), (∀ x ∈ rd o, ρ' x = ρ x) → (∀ id ob, S id = some ob → S' id = some ob) → qeff ρ S K o → qeff ρ' S' K o := by
  intro o hp hS h
  cases o <;> simp only [qeff] at h ⊢ <;> try exact h
  · rename_i m p x
    rw [hp p (by simp [rd]), hp x (by simp [rd])]
    split at h <;> try contradiction
    refine ⟨h.1, ?_⟩
    have h := h.2
    split at h <;> try contradiction
    · split at h <;> try contradiction
      rename_i hs
      rw [hS _ _ hs]; exact h
    · split at h <;> try contradiction
      rename_i hs
      rw [hS _ _ hs]; exact h
  · rename_i k x y
    rw [hp x (by simp [rd]), hp y (by simp [rd])]
    split at h <;> try contradiction
    split at h <;> try contradiction
    rename_i hs
    rw [hS _ _ hs]
    exact ⟨h.1, h.2.1, h.2.2.1, srcS_mono hS (fun _ h => h) h.2.2.2⟩
  · rename_i k x y
    rw [hp x (by simp [rd]), hp y (by simp [rd])]
    split at h <;> try contradiction
    split at h <;> try contradiction
    rename_i hs
    rw [hS _ _ hs]
    exact h
theorem qeff_there {ρ : X → IV} {S : Sto} {v : IV} {id : Oid} {ob : Ob} : ∀ (o : O), qeff ρ S (fun v' id' ob' => v' = v ∧ id' = id ∧ ob' = ob) o → (S id).isSome = true := by
  intro o h
  obtain ⟨⟨v', id', ob'⟩, ⟨rfl, rfl, rfl⟩, h2⟩ := (qeff_rel (ρ := ρ) (S := S) o).ex (K := fun r => r.1 = v ∧ r.2.1 = id ∧ r.2.2 = ob) h
  clear h
  cases o <;> simp only [qeff] at h2 <;> try contradiction
  · split at h2 <;> try contradiction
    have h := h2.2
    split at h <;> try contradiction
    · split at h <;> try contradiction
      rename_i hs
      have := congrArg (fun r : IV × Oid × Ob => r.2.1) h.2.2
      simp only at this
      rw [← this, hs]; rfl
    · rename_i id0 p i f s _
      split at h <;> try contradiction
      rename_i k es u hw ver hs
      obtain ⟨es', h3, _⟩ := (stq_rel (p := p) (i := i) _ f es).ex h.2.2
      have := congrArg (fun r : IV × Oid × Ob => r.2.1) h3
      simp only at this
      rw [← this, hs]; rfl
  · split at h2 <;> try contradiction
    split at h2 <;> try contradiction
    rename_i hs
    obtain ⟨items, h3, _⟩ := (srcS_rel).ex h2.2.2.2
    have := congrArg (fun r : IV × Oid × Ob => r.2.1) h3.2.2.2
    simp only at this
    rw [← this, hs]; rfl
  · split at h2 <;> try contradiction
    split at h2 <;> try contradiction
    rename_i hs
    obtain ⟨items, h3, _⟩ := (srcT_rel).ex h2.2.2.2
    have := congrArg (fun r : IV × Oid × Ob => r.2.1) h3.2.2
    simp only at this
    rw [← this, hs]; rfl

def lfree : O → Bool
  | .mv _ none | .bi .. | .nt _ | .ng _ | .cv .. | .ex .. | .pk .. | .mm .. | .lg _ | .la _ | .ss .. | .ix .. | .bs .. | .fd .. | .jx .. | .qa .. | .fa .. | .ja .. | .ln _ | .nc _ | .sy .. | .lt .. | .it .. | .mf .. | .al .. | .ms .. | .bd .. => true
  | _ => false
theorem lfree_silent {o : O} (h : lfree o = true) : loud o = false := by
  cases o <;> first | rfl | cases h | (simp [lfree] at h)
theorem ev_lfree {ρ : X → IV} {L L' : Sto} {K : Kind} : ∀ (o : O), lfree o = true → ev C ρ L K o → ev C ρ L' K o := by
  intro o hl h
  cases o
  case mv x n => cases n <;> first | (simp only [ev] at h ⊢; exact h) | cases hl
  case fd off m x => cases m <;> (simp only [ev] at h ⊢; exact h)
  case lt m x => cases m <;> (simp only [ev] at h ⊢; exact h)
  case jx k n m x i => cases m <;> (simp only [ev] at h ⊢; exact h)
  all_goals first | (cases hl; done) | (simp only [ev] at h ⊢; exact h)
def wfr : O → Bool
  | .sw .. => true
  | _ => false
theorem wfr_silent {o : O} (h : wfr o = true) : loud o = false := by
  cases o <;> first | rfl | cases h
theorem ev_wfr {ρ ρ' : X → IV} {L L' : Sto} {K : Kind} : ∀ (o : O), wfr o = true → (∀ x ∈ rd o, ρ' x = ρ x) → (∀ x ∈ rd o, men (fun i => ∀ k, wid L i [] k → wid L' i [] k) (ρ x)) → ev C ρ L K o → ev C ρ' L' K o := by
  intro o ho hp hs h
  cases o
  case sw k x lo hi mx =>
    have h1 := hp x (by simp [rd])
    have h2 := hs x (by simp [rd])
    have hlo := fun n => bndI_congr (ρ := ρ) (ρ' := ρ') (x := lo) (n := n) (fun y hy => hp y (by simp [rd] at hy ⊢; exact .inr (.inl hy)))
    have hhi := fun n => bndI_congr (ρ := ρ) (ρ' := ρ') (x := hi) (n := n) (fun y hy => hp y (by simp [rd] at hy ⊢; exact .inr (.inr (.inl hy))))
    have hmx := fun n => bndI_congr (ρ := ρ) (ρ' := ρ') (x := mx) (n := n) (fun y hy => hp y (by simp [rd] at hy ⊢; exact .inr (.inr (.inr hy))))
    simp only [ev] at h ⊢
    simp only [hlo, hhi, hmx]
    rw [h1]
    split at h <;> try contradiction
    · exact h
    · exact h
    · rename_i hq
      rw [hq] at h2
      exact ⟨h2 _ h.1, h.2⟩
  all_goals cases ho
theorem srcS_mono2 {S S' : Sto} {x : IV} {F F' : Row → Prop} (hS : men (fun id => ∀ ob, S id = some ob → S' id = some ob) x) (hF : ∀ r, F r → F' r) (h : srcS S x F) : srcS S' x F' := by
  unfold srcS at h ⊢
  split at h <;> try contradiction
  · exact hF _ h
  · exact hF _ h
  · exact rdh_mono hS (fun _ _ _ h => ⟨h.1, hF _ h.2⟩) h
theorem qeff_congr2 {ρ ρ' : X → IV} {S S' : Sto} {K : IV → Oid → Ob → Prop} : ∀ (o : O), (∀ x ∈ rd o, ρ' x = ρ x) → (∀ x ∈ rd o, men (fun id => ∀ ob, S id = some ob → S' id = some ob) (ρ x)) → qeff ρ S K o → qeff ρ' S' K o := by
  intro o hp hS h
  cases o <;> simp only [qeff] at h ⊢ <;> try exact h
  · rename_i m p x
    have m1 := hS p (by simp [rd])
    rw [hp p (by simp [rd]), hp x (by simp [rd])]
    split at h <;> try contradiction
    refine ⟨h.1, ?_⟩
    have h := h.2
    split at h <;> try contradiction
    · rename_i hq
      rw [hq] at m1
      split at h <;> try contradiction
      rename_i hs
      rw [m1 _ hs]; exact h
    · rename_i hq
      rw [hq] at m1
      split at h <;> try contradiction
      rename_i hs
      rw [m1 _ hs]; exact h
  · rename_i k x y
    have m1 := hS x (by simp [rd])
    have m2 := hS y (by simp [rd])
    rw [hp x (by simp [rd]), hp y (by simp [rd])]
    split at h <;> try contradiction
    rename_i hq
    rw [hq] at m1
    split at h <;> try contradiction
    rename_i hs
    rw [m1 _ hs]
    exact ⟨h.1, h.2.1, h.2.2.1, srcS_mono2 m2 (fun _ h => h) h.2.2.2⟩
  · rename_i k x y
    have m1 := hS x (by simp [rd])
    rw [hp x (by simp [rd]), hp y (by simp [rd])]
    split at h <;> try contradiction
    rename_i hq
    rw [hq] at m1
    split at h <;> try contradiction
    rename_i hs
    rw [m1 _ hs]
    exact h
theorem qeff_wid {ρ : X → IV} {S : Sto} {v : IV} {id : Oid} {ob : Ob} : ∀ (o : O), qeff ρ S (fun v' id' ob' => v' = v ∧ id' = id ∧ ob' = ob) o → ∀ i k, wid (sset S id ob) i [] k → wid S i [] k := by
  intro o h i k hw
  unfold wid sset at hw
  unfold wid
  by_cases e : i = id
  · rw [if_pos e] at hw
    subst e
    cases o <;> simp only [qeff] at h <;> try contradiction
    · split at h <;> try contradiction
      have h := h.2
      split at h <;> try contradiction
      · split at h <;> try contradiction
        obtain ⟨_, _, _, h1, h2⟩ := h
        subst h2
        cases hw
      · split at h <;> try contradiction
        rename_i hs
        obtain ⟨_, _, h⟩ := h
        obtain ⟨es', h, _⟩ := (stq_rel ..).ex h
        obtain ⟨_, h1, h2⟩ := h
        subst h1 h2
        rw [hs]; exact hw
    · split at h <;> try contradiction
      split at h <;> try contradiction
      rename_i hs
      obtain ⟨hk, _, _, h⟩ := h
      obtain ⟨items, h, _⟩ := (srcS_rel ..).ex h
      obtain ⟨_, _, _, _, h1, h2⟩ := h
      subst h1 h2
      rw [hs]
      exact hk.trans hw
    · split at h <;> try contradiction
      split at h <;> try contradiction
      rename_i hs
      obtain ⟨hk, _, _, h⟩ := h
      obtain ⟨items, h, _⟩ := (srcT_rel ..).ex h
      obtain ⟨_, _, _, h1, h2⟩ := h
      subst h1 h2
      rw [hs]
      exact hk.trans hw
  · rw [if_neg e] at hw
    exact hw
end
end Go.Fd

namespace Go.Fd

def xvf (ρ : Nat → IV) : X → IV
  | .t n => ρ n
  | .k v => kv v
  | .f i => .fn i []
theorem xv_xvf (env : List (Nat × IV)) : xv env = xvf (fun t => lk t env) := by
  funext x; cases x <;> rfl

def Act1 (C : Contract) (o : O) (ρ : Nat → IV) (L : Sto) (lvl key : Nat) (y : IV) (obs : List Ob) : Prop :=
  ∃ mk ob, mk lvl key = y ∧ ob lvl key = obs ∧ ev C (xvf ρ) L (fun m b => m = mk ∧ b = ob) o
def Eff (C : Contract) (o : OP) (ρ : Nat → IV) (L : Sto) (lvl : Nat) (y : IV) (obs : List Ob) : Prop :=
  match o.g with
  | none => Act1 C o.o ρ L lvl (keyOf o.d) y obs
  | some (j, w) => (ρ j = iB w ∧ Act1 C o.o ρ L lvl (keyOf o.d) y obs) ∨ ((ρ j = iB (!w) ∨ ρ j = .tu []) ∧ y = .tu [] ∧ obs = [])

def upd (d : Option Nat) (y : IV) (ρ : Nat → IV) : Nat → IV := fun t => if d = some t then y else ρ t
def adds (b : Nat) (obs : List Ob) (σ : Nat → Option Ob) : Nat → Option Ob := fun k => if b ≤ k ∧ k < b + obs.length then obs[k - b]? else σ k
def packF (lvl : Nat) (σ : Nat → Option Ob) (out : Sto) : Sto := fun id => if id.1 = lvl then σ id.2 else out id
abbrev FreshF (b n : Nat) (σ : Nat → Option Ob) : Prop := ∀ k, b ≤ k → k < b + n → σ k = none

theorem sto_packF (st : St) : st.sto = packF st.lvl (fun k => lkO k st.loc) st.out := rfl
theorem lk_ptd (d : Option Nat) (y : IV) (env : List (Nat × IV)) : (fun t => lk t (ptd d y env)) = upd d y (fun t => lk t env) := by
  funext t
  unfold ptd upd
  cases d with
  | none => rfl
  | some d =>
    simp only [Option.some.injEq]
    rw [lk_pt]
    by_cases h : t = d
    · rw [if_pos h, if_pos h.symm]
    · rw [if_neg h, if_neg (fun e => h e.symm)]
theorem lkO_addO : ∀ (obs : List Ob) (b : Nat) (loc : List (Nat × Ob)), (fun k => lkO k (addO b obs loc)) = adds b obs (fun k => lkO k loc)
  | [], b, loc => by
    funext k
    simp only [addO, adds, List.length_nil]
    rw [if_neg (by omega)]
  | o :: r, b, loc => by
    rw [addO, lkO_addO r (b + 1) (ptO b o loc)]
    funext k
    simp only [adds, List.length_cons]
    by_cases h1 : b + 1 ≤ k ∧ k < b + 1 + r.length
    · rw [if_pos h1, if_pos ⟨by omega, by omega⟩, show k - b = (k - (b + 1)) + 1 from by omega]
      simp
    · rw [if_neg h1, lkO_ptO]
      by_cases h2 : k = b
      · rw [if_pos h2, if_pos ⟨by omega, by omega⟩, h2]; simp
      · rw [if_neg h2, if_neg (by omega)]
theorem freshK_F : ∀ {n b : Nat} {loc : List (Nat × Ob)}, freshK b loc n ↔ FreshF b n (fun k => lkO k loc)
  | 0, b, loc => by simp only [freshK, FreshF, true_iff]; intro k h1 h2; omega
  | n + 1, b, loc => by
    simp only [freshK, freshK_F (n := n)]
    constructor
    · rintro ⟨h1, h2⟩ k h3 h4
      by_cases h : k = b
      · subst h; exact h1
      · exact h2 k (by omega) (by omega)
    · intro h
      exact ⟨h b (by omega) (by omega), fun k h1 h2 => h k (by omega) (by omega)⟩
theorem pt_same {j : Nat} {x : IV} {env : List (Nat × IV)} (h : lk j env = x) : (fun t => lk t (pt j x env)) = fun t => lk t env := by
  funext t; rw [lk_pt]; split
  · rename_i ht; rw [ht, h]
  · rfl

section
variable {C : Contract} {st : St} {o : OP} {K : St → Prop}

structure Step1 (o : OP) (st st' : St) (y : IV) (obs : List Ob) : Prop where
  lvl : st'.lvl = st.lvl
  out : st'.out = st.out
  env : (fun t => lk t st'.env) = upd o.d y (fun t => lk t st.env)
  loc : (fun k => lkO k st'.loc) = adds (keyOf o.d) obs (fun k => lkO k st.loc)

theorem ev_one {d : Option Nat} {oo : O} {env : List (Nat × IV)} {K : St → Prop} (h : ev C (xv env) st.sto (fun mk obs => freshK (keyOf d) st.loc (obs st.lvl (keyOf d)).length ∧ K { st with env := ptd d (mk st.lvl (keyOf d)) env, loc := addO (keyOf d) (obs st.lvl (keyOf d)) st.loc }) oo) :
    ∃ y obs, Act1 C oo (fun t => lk t env) st.sto st.lvl (keyOf d) y obs ∧ FreshF (keyOf d) obs.length (fun k => lkO k st.loc) ∧ K { st with env := ptd d y env, loc := addO (keyOf d) obs st.loc } := by
  obtain ⟨⟨mk, ob⟩, ⟨h1, h2⟩, h3⟩ := (ev_rel (C := C) (ρ := xv env) (L := st.sto) oo).ex (K := fun r : MO => freshK (keyOf d) st.loc (r.2 st.lvl (keyOf d)).length ∧ K { st with env := ptd d (r.1 st.lvl (keyOf d)) env, loc := addO (keyOf d) (r.2 st.lvl (keyOf d)) st.loc }) h
  refine ⟨mk st.lvl (keyOf d), ob st.lvl (keyOf d), ⟨mk, ob, rfl, rfl, ?_⟩, freshK_F.1 h1, h2⟩
  rw [← xv_xvf]
  exact (ev_rel (C := C) (ρ := xv env) (L := st.sto) oo).mono (K := fun s => s = (mk, ob)) (K' := fun r : MO => r.1 = mk ∧ r.2 = ob) (fun r hr => by rw [hr]; exact ⟨rfl, rfl⟩) h3

theorem op1_eff (hl : loud o.o = false) (h : op1 C o st K) : ∃ y obs st', K st' ∧ Eff C o (fun t => lk t st.env) st.sto st.lvl y obs ∧ FreshF (keyOf o.d) obs.length (fun k => lkO k st.loc) ∧ Step1 o st st' y obs := by
  have hnil : ∀ σ : Nat → Option Ob, adds (keyOf o.d) [] σ = σ := fun σ => by funext k; simp only [adds, List.length_nil]; rw [if_neg (by omega)]
  unfold op1 at h
  unfold Eff
  split at h
  · rename_i hg
    rw [hg]
    unfold op2 at h
    rw [if_neg (by rw [hl]; decide)] at h
    obtain ⟨y, obs, h1, h2, h3⟩ := ev_one h
    exact ⟨y, obs, _, h3, h1, h2, ⟨rfl, rfl, lk_ptd _ _ _, lkO_addO _ _ _⟩⟩
  · rename_i j w hg
    rw [hg]
    dsimp only
    split at h <;> try contradiction
    · rename_i c hc
      by_cases hcw : c = w
      · subst hcw
        have h := h.1 rfl
        unfold op2 at h
        rw [if_neg (by rw [hl]; decide)] at h
        obtain ⟨y, obs, h1, h2, h3⟩ := ev_one (st := { st with env := pt j (iB c) st.env }) h
        rw [pt_same hc] at h1
        exact ⟨y, obs, _, h3, .inl ⟨hc, h1⟩, h2, ⟨rfl, rfl, by rw [lk_ptd]; dsimp only; rw [pt_same hc], lkO_addO _ _ _⟩⟩
      · have hcw' : c = !w := by cases c <;> cases w <;> simp_all
        subst hcw'
        exact ⟨.tu [], [], _, h.2 rfl, .inr ⟨.inl hc, rfl, rfl⟩, fun k h1 h2 => by simp at h2; omega, ⟨rfl, rfl, by rw [lk_ptd]; rw [pt_same hc], (hnil _).symm⟩⟩
    · rename_i hc
      exact ⟨.tu [], [], _, h, .inr ⟨.inr hc, rfl, rfl⟩, fun k h1 h2 => by simp at h2; omega, ⟨rfl, rfl, lk_ptd _ _ _, (hnil _).symm⟩⟩

theorem eff_op1 (hl : loud o.o = false) {y : IV} {obs : List Ob} (h : Eff C o (fun t => lk t st.env) st.sto st.lvl y obs) (hf : FreshF (keyOf o.d) obs.length (fun k => lkO k st.loc)) : op1 C o st (fun st' => Step1 o st st' y obs) := by
  have hnil : ∀ σ : Nat → Option Ob, adds (keyOf o.d) [] σ = σ := fun σ => by funext k; simp only [adds, List.length_nil]; rw [if_neg (by omega)]
  have back : ∀ (env : List (Nat × IV)), (fun t => lk t env) = (fun t => lk t st.env) → Act1 C o.o (fun t => lk t st.env) st.sto st.lvl (keyOf o.d) y obs → op2 C o.d o.o { st with env := env } (fun st' => Step1 o st st' y obs) := fun env he ha => by
    obtain ⟨mk, ob, rfl, rfl, ha⟩ := ha
    unfold op2
    rw [if_neg (by rw [hl]; decide)]
    rw [xv_xvf]
    dsimp only
    rw [he]
    refine (ev_rel (C := C) (ρ := xvf fun t => lk t st.env) (L := st.sto) o.o).mono (K := fun r : MO => r.1 = mk ∧ r.2 = ob) (K' := fun r : MO => freshK (keyOf o.d) st.loc (r.2 st.lvl (keyOf o.d)).length ∧ Step1 o st { st with env := ptd o.d (r.1 st.lvl (keyOf o.d)) env, loc := addO (keyOf o.d) (r.2 st.lvl (keyOf o.d)) st.loc } (mk st.lvl (keyOf o.d)) (ob st.lvl (keyOf o.d))) ?_ ha
    rintro ⟨m, b⟩ ⟨rfl, rfl⟩
    exact ⟨freshK_F.2 hf, ⟨rfl, rfl, by rw [lk_ptd, he], lkO_addO _ _ _⟩⟩
  unfold op1
  unfold Eff at h
  split
  · rename_i hg
    rw [hg] at h
    exact back st.env rfl h
  · rename_i j w hg
    rw [hg] at h
    rcases h with ⟨h1, h2⟩ | ⟨h1 | h1, rfl, rfl⟩
    · dsimp only at h1 ⊢
      rw [h1]
      dsimp only
      exact ⟨fun _ => back _ (pt_same h1) h2, fun hc => by cases w <;> cases hc⟩
    · dsimp only at h1 ⊢
      rw [h1]
      dsimp only
      refine ⟨fun hc => (by cases w <;> cases hc), fun _ => ⟨rfl, rfl, by rw [lk_ptd, pt_same h1], (hnil _).symm⟩⟩
    · dsimp only at h1 ⊢
      rw [h1]
      exact ⟨rfl, rfl, lk_ptd _ _ _, (hnil _).symm⟩

def rdsX : List X → List Nat
  | [] => []
  | .t n :: r => n :: rdsX r
  | _ :: r => rdsX r
def rds (o : OP) : List Nat :=
  match o.g with
  | some (j, _) => j :: rdsX (rd o.o)
  | none => rdsX (rd o.o)
def nord (d : Option Nat) (o : OP) : Bool :=
  match d with
  | some d => !(rds o).contains d
  | none => true
def indep (p o : OP) : Bool := nord p.d o && nord o.d p && (match p.d, o.d with | some a, some b => a != b | _, _ => true)

theorem rdsX_mem {n : Nat} : ∀ {l : List X}, X.t n ∈ l → n ∈ rdsX l
  | [], h => by cases h
  | .t m :: r, h => by
    simp only [rdsX]
    cases h with
    | head => exact List.mem_cons_self
    | tail _ h => exact List.mem_cons_of_mem _ (rdsX_mem h)
  | .k v :: r, h => by
    simp only [rdsX]
    cases h with
    | tail _ h => exact rdsX_mem h
  | .f i :: r, h => by
    simp only [rdsX]
    cases h with
    | tail _ h => exact rdsX_mem h
theorem kv_men {Q : Oid → Prop} (v : Value) : men Q (kv v) := by
  have hkc : ∀ u, men Q (kc u) := fun u => by unfold kc; split <;> trivial
  unfold kv
  split
  · rename_i c
    simp only [men]
    induction c.toList with
    | nil => trivial
    | cons x r ih => exact ⟨hkc x, ih⟩
  · exact hkc _

theorem upd_rd {d : Option Nat} {y : IV} {ρ : Nat → IV} (h : nord d o = true) : (∀ x ∈ rd o.o, xvf (upd d y ρ) x = xvf ρ x) ∧ ∀ j w, o.g = some (j, w) → upd d y ρ j = ρ j := by
  have key : ∀ n ∈ rds o, upd d y ρ n = ρ n := fun n hn => by
    unfold upd
    rw [if_neg]
    rintro rfl
    simp [nord, hn] at h
  refine ⟨fun x hx => ?_, fun j w hg => key j (by simp [rds, hg])⟩
  cases x with
  | t n =>
    refine key n ?_
    unfold rds
    split
    · exact List.mem_cons_of_mem _ (rdsX_mem hx)
    · exact rdsX_mem hx
  | k v => rfl
  | f i => rfl

theorem Eff.congr {ρ ρ' : Nat → IV} {L L' : Sto} {lvl : Nat} {y : IV} {obs : List Ob} (hr : ∀ x ∈ rd o.o, xvf ρ' x = xvf ρ x) (hg : ∀ j w, o.g = some (j, w) → ρ' j = ρ j) (hs : ∀ x ∈ rd o.o, See L L' (xvf ρ x))
    (h : Eff C o ρ L lvl y obs) : Eff C o ρ' L' lvl y obs := by
  have key : Act1 C o.o ρ L lvl (keyOf o.d) y obs → Act1 C o.o ρ' L' lvl (keyOf o.d) y obs := fun ⟨m0, ob, h1, h2, h3⟩ => ⟨m0, ob, h1, h2, ev_congr o.o hr hs h3⟩
  unfold Eff at *
  split at h
  · exact key h
  · rename_i j w hgg
    rw [hg j w hgg]
    exact h.imp (fun h => ⟨h.1, key h.2⟩) id

theorem adds_keep {lvl b : Nat} {obs : List Ob} {σ : Nat → Option Ob} {out : Sto} (hf : FreshF b obs.length σ) (id : Oid) (ob : Ob) (h : packF lvl σ out id = some ob) : packF lvl (adds b obs σ) out id = some ob := by
  unfold packF at *
  split at h
  · rename_i hi
    rw [if_pos hi]
    unfold adds
    rw [if_neg]
    · exact h
    · rintro ⟨h1, h2⟩
      rw [hf _ h1 h2] at h; cases h
  · rename_i hi; rw [if_neg hi]; exact h

def quietOP (o : OP) : Bool := (match o.o with | .s0 .. => o.d.isNone | .a0 .. => true | .a1 .. => true | _ => false) && o.g.isNone
def qt (o : OP) : Bool := !loud o.o || quietOP o
def putS (lvl : Nat) (id : Oid) (ob : Ob) (σ : Nat → Option Ob) : Nat → Option Ob := fun k => if id = (lvl, k) then some ob else σ k
def putO (lvl : Nat) (id : Oid) (ob : Ob) (out : Sto) : Sto := if id.1 = lvl then out else sset out id ob
theorem pack_put {lvl : Nat} {id : Oid} {ob : Ob} {σ : Nat → Option Ob} {out : Sto} : packF lvl (putS lvl id ob σ) (putO lvl id ob out) = sset (packF lvl σ out) id ob := by
  funext i
  show (if i.1 = lvl then (if id = (lvl, i.2) then some ob else σ i.2) else (if id.1 = lvl then out else sset out id ob) i) = if i = id then some ob else if i.1 = lvl then σ i.2 else out i
  by_cases h : i.1 = lvl
  · rw [if_pos h, if_pos h]
    by_cases e : i = id
    · rw [if_pos e, if_pos (by rw [← e, ← h])]
    · rw [if_neg e, if_neg (fun g => e (by rw [g, ← h]))]
  · rw [if_neg h, if_neg h]
    by_cases hc : id.1 = lvl
    · rw [if_pos hc, if_neg (fun e => h (by rw [e]; exact hc))]
    · rw [if_neg hc]; rfl
def QS (C : Contract) (lvl : Nat) (o : OP) (ρ : Nat → IV) (σ : Nat → Option Ob) (out : Sto) (ρ1 : Nat → IV) (σ1 : Nat → Option Ob) (out1 : Sto) : Prop :=
  (loud o.o = false ∧ ∃ y obs, Eff C o ρ (packF lvl σ out) lvl y obs ∧ FreshF (keyOf o.d) obs.length σ ∧ ρ1 = upd o.d y ρ ∧ σ1 = adds (keyOf o.d) obs σ ∧ out1 = out) ∨
  (quietOP o = true ∧ ∃ y id ob, qeff (xvf ρ) (packF lvl σ out) (fun v i b => v = y ∧ i = id ∧ b = ob) o.o ∧ ρ1 = upd o.d y ρ ∧ σ1 = putS lvl id ob σ ∧ out1 = putO lvl id ob out)
structure At (st : St) (lvl : Nat) (ρ : Nat → IV) (σ : Nat → Option Ob) (out : Sto) : Prop where
  lvl : st.lvl = lvl
  env : (fun t => lk t st.env) = ρ
  loc : (fun k => lkO k st.loc) = σ
  out : st.out = out
theorem At.refl (st : St) : At st st.lvl (fun t => lk t st.env) (fun k => lkO k st.loc) st.out := ⟨rfl, rfl, rfl, rfl⟩
theorem at_put {id : Oid} {ob : Ob} {v : IV} {d : Option Nat} : At { setOb st id ob with env := ptd d v st.env } st.lvl (upd d v fun t => lk t st.env) (putS st.lvl id ob fun k => lkO k st.loc) (putO st.lvl id ob st.out) := by
  refine ⟨setOb_lvl _ _ _, lk_ptd _ _ _, ?_, ?_⟩
  · funext k
    unfold setOb putS
    by_cases h : id.1 = st.lvl
    · rw [if_pos h]
      dsimp only
      rw [lkO_ptO]
      by_cases hk : k = id.2
      · rw [if_pos hk, if_pos (by rw [hk, ← h])]
      · rw [if_neg hk, if_neg (fun e => hk (by rw [e]))]
    · rw [if_neg h, if_neg (fun e => h (by rw [e]))]
  · unfold setOb putO
    by_cases h : id.1 = st.lvl
    · rw [if_pos h, if_pos h]
    · rw [if_neg h, if_neg h]
theorem quiet_cases (h : quietOP o = true) : o.g = none ∧ ((∃ m p x, o.o = .s0 m p x ∧ o.d = none) ∨ ∃ k x y, o.o = .a0 k x y ∨ o.o = .a1 k x y) := by
  unfold quietOP at h
  simp only [Bool.and_eq_true, Option.isNone_iff_eq_none] at h
  refine ⟨h.2, ?_⟩
  have h := h.1
  split at h
  · rename_i m p x he; exact .inl ⟨m, p, x, he, by simpa using h⟩
  · rename_i k x y he; exact .inr ⟨k, x, y, .inl he⟩
  · rename_i k x y he; exact .inr ⟨k, x, y, .inr he⟩
  · cases h
theorem quiet_op1 (h : quietOP o = true) : op1 C o st K = qeff (xvf fun t => lk t st.env) st.sto (fun v id ob => K { setOb st id ob with env := ptd o.d v st.env }) o.o := by
  obtain ⟨hg, h | h⟩ := quiet_cases h
  · obtain ⟨m, p, x, ho, hd⟩ := h
    unfold op1
    rw [hg]
    dsimp only
    unfold op2
    rw [ho, hd, if_pos (show loud (O.s0 m p x) = true from rfl)]
    simp only [ew, true_and]
    rw [xv_xvf]
    have : ∀ (v : IV) (id : Oid) (ob : Ob), ({ setOb st id ob with env := ptd none v st.env } : St) = setOb st id ob := fun v id ob => setOb_same st id ob v
    simp only [this]
  · obtain ⟨k, x, y, ho | ho⟩ := h
    · unfold op1
      rw [hg]
      dsimp only
      unfold op2
      rw [ho, if_pos (show loud (O.a0 k x y) = true from rfl)]
      simp only [ew]
      rw [xv_xvf]
    · unfold op1
      rw [hg]
      dsimp only
      unfold op2
      rw [ho, if_pos (show loud (O.a1 k x y) = true from rfl)]
      simp only [ew]
      rw [xv_xvf]
theorem op1_qs (hq : qt o = true) (h : op1 C o st K) : ∃ st' ρ1 σ1 out1, K st' ∧ QS C st.lvl o (fun t => lk t st.env) (fun k => lkO k st.loc) st.out ρ1 σ1 out1 ∧ At st' st.lvl ρ1 σ1 out1 := by
  by_cases hl : loud o.o = false
  · obtain ⟨y, obs, st', h1, h2, h3, h4⟩ := op1_eff hl h
    exact ⟨st', _, _, _, h1, .inl ⟨hl, y, obs, h2, h3, rfl, rfl, rfl⟩, ⟨h4.lvl, h4.env, h4.loc, h4.out⟩⟩
  · have hqq : quietOP o = true := by
      unfold qt at hq
      simp only [Bool.or_eq_true, Bool.not_eq_true'] at hq
      exact hq.resolve_left hl
    rw [quiet_op1 hqq] at h
    obtain ⟨⟨v, id, ob⟩, h1, h2⟩ := (qeff_rel (ρ := xvf fun t => lk t st.env) (S := st.sto) o.o).ex (K := fun r : IV × Oid × Ob => K { setOb st r.2.1 r.2.2 with env := ptd o.d r.1 st.env }) h
    refine ⟨_, _, _, _, h1, .inr ⟨hqq, v, id, ob, ?_, rfl, rfl, rfl⟩, at_put⟩
    exact (qeff_rel (ρ := xvf fun t => lk t st.env) (S := st.sto) o.o).mono (K := fun s => s = (v, id, ob)) (K' := fun r : IV × Oid × Ob => r.1 = v ∧ r.2.1 = id ∧ r.2.2 = ob) (fun r hr => by rw [hr]; exact ⟨rfl, rfl, rfl⟩) h2
theorem qs_op1 {ρ1 : Nat → IV} {σ1 : Nat → Option Ob} {out1 : Sto} (h : QS C st.lvl o (fun t => lk t st.env) (fun k => lkO k st.loc) st.out ρ1 σ1 out1) : op1 C o st (fun st' => At st' st.lvl ρ1 σ1 out1) := by
  rcases h with ⟨hl, y, obs, h1, h2, rfl, rfl, rfl⟩ | ⟨hq, y, id, ob, h1, rfl, rfl, rfl⟩
  · have := eff_op1 (st := st) hl h1 h2
    refine (?_ : op1 C o st (fun st' => Step1 o st st' y obs) → _) this
    have e : (fun st' => Step1 o st st' y obs) = fun st' => At st' st.lvl (upd o.d y fun t => lk t st.env) (adds (keyOf o.d) obs fun k => lkO k st.loc) st.out := by
      funext st'
      exact propext ⟨fun h => ⟨h.lvl, h.env, h.loc, h.out⟩, fun h => ⟨h.lvl, h.out, h.env, h.loc⟩⟩
    rw [e]; exact id
  · rw [quiet_op1 hq]
    refine (qeff_rel (ρ := xvf fun t => lk t st.env) (S := st.sto) o.o).mono (K := fun r : IV × Oid × Ob => r.1 = y ∧ r.2.1 = id ∧ r.2.2 = ob) (K' := fun r : IV × Oid × Ob => At { setOb st r.2.1 r.2.2 with env := ptd o.d r.1 st.env } st.lvl (upd o.d y fun t => lk t st.env) (putS st.lvl id ob fun k => lkO k st.loc) (putO st.lvl id ob st.out)) ?_ h1
    rintro ⟨v, i, b⟩ ⟨rfl, rfl, rfl⟩
    exact at_put

def QRun (C : Contract) (lvl : Nat) : List OP → (Nat → IV) → (Nat → Option Ob) → Sto → (Nat → IV) → (Nat → Option Ob) → Sto → Prop
  | [], ρ, σ, out, ρ', σ', out' => ρ' = ρ ∧ σ' = σ ∧ out' = out
  | o :: l, ρ, σ, out, ρ', σ', out' => ∃ ρ1 σ1 out1, QS C lvl o ρ σ out ρ1 σ1 out1 ∧ QRun C lvl l ρ1 σ1 out1 ρ' σ' out'
theorem wpo_qrun : ∀ (l : List OP) (st : St), (∀ o ∈ l, qt o = true) → wpo C l st K → ∃ st', K st' ∧ st'.lvl = st.lvl ∧ QRun C st.lvl l (fun t => lk t st.env) (fun k => lkO k st.loc) st.out (fun t => lk t st'.env) (fun k => lkO k st'.loc) st'.out
  | [], st, _, h => ⟨st, h, rfl, rfl, rfl, rfl⟩
  | o :: l, st, hl, h => by
    simp only [wpo] at h
    obtain ⟨st1, ρ1, σ1, out1, hk, hs, ha⟩ := op1_qs (hl o (by simp)) h
    obtain ⟨st', hk', h1, h3⟩ := wpo_qrun l st1 (fun p hp => hl p (by simp [hp])) hk
    refine ⟨st', hk', h1.trans ha.lvl, ρ1, σ1, out1, hs, ?_⟩
    rw [ha.env, ha.loc, ha.out, ha.lvl] at h3
    exact h3

def okPair (p o : OP) : Bool := indep p o && ((!loud p.o && !loud o.o) || (qt p && (lfree o.o || wfr o.o)) || (lfree p.o && quietOP o))

theorem see_true {L : Sto} (x : IV) : See L L x := men_mono (fun _ _ => ⟨fun _ h => h, fun _ _ => mens_mono (fun _ _ _ h => h) _ (mens_true _)⟩) _ (men_true _)
theorem see_add {lvl b : Nat} {obs : List Ob} {σ : Nat → Option Ob} {out : Sto} (hf : FreshF b obs.length σ) (x : IV) : See (packF lvl σ out) (packF lvl (adds b obs σ) out) x :=
  men_mono (fun id _ => ⟨adds_keep hf id, fun cells _ => mens_mono (fun i _ => adds_keep hf i) _ (mens_true _)⟩) _ (men_true _)
theorem Eff.lfree {ρ ρ' : Nat → IV} {L L' : Sto} {lvl : Nat} {y : IV} {obs : List Ob} (hl : lfree o.o = true) (hr : ∀ x ∈ rd o.o, xvf ρ' x = xvf ρ x) (hg : ∀ j w, o.g = some (j, w) → ρ' j = ρ j) (h : Eff C o ρ L lvl y obs) : Eff C o ρ' L' lvl y obs := by
  have h1 : Eff C o ρ' L lvl y obs := h.congr hr hg fun x _ => see_true _
  have key : Act1 C o.o ρ' L lvl (keyOf o.d) y obs → Act1 C o.o ρ' L' lvl (keyOf o.d) y obs := fun ⟨m0, ob, h1, h2, h3⟩ => ⟨m0, ob, h1, h2, ev_lfree o.o hl h3⟩
  unfold Eff at *
  split at h1
  · exact key h1
  · rename_i j w hgg
    exact h1.imp (fun h => ⟨h.1, key h.2⟩) id
theorem Eff.wfr {ρ ρ' : Nat → IV} {L L' : Sto} {lvl : Nat} {y : IV} {obs : List Ob} (hl : Fd.wfr o.o = true) (hr : ∀ x ∈ rd o.o, xvf ρ' x = xvf ρ x) (hg : ∀ j w, o.g = some (j, w) → ρ' j = ρ j) (hw : ∀ x ∈ rd o.o, men (fun i => ∀ k, wid L i [] k → wid L' i [] k) (xvf ρ x)) (h : Eff C o ρ L lvl y obs) : Eff C o ρ' L' lvl y obs := by
  have key : Act1 C o.o ρ L lvl (keyOf o.d) y obs → Act1 C o.o ρ' L' lvl (keyOf o.d) y obs := fun ⟨m0, ob, h1, h2, h3⟩ => ⟨m0, ob, h1, h2, ev_wfr o.o hl hr hw h3⟩
  unfold Eff at *
  split at h
  · exact key h
  · rename_i j w hgg
    rw [hg j w hgg]
    exact h.imp (fun h => ⟨h.1, key h.2⟩) id
theorem upd_comm {d d' : Option Nat} {y y' : IV} {ρ : Nat → IV} (h : (match d, d' with | some a, some b => a != b | _, _ => true) = true) : upd d y (upd d' y' ρ) = upd d' y' (upd d y ρ) := by
  funext t
  unfold upd
  by_cases g1 : d = some t <;> by_cases g2 : d' = some t <;> simp only [g1, g2, if_true, if_false]
  rw [g1, g2] at h
  simp at h

theorem indep_parts {p o : OP} (h : indep p o = true) : nord p.d o = true ∧ nord o.d p = true ∧ (match p.d, o.d with | some a, some b => a != b | _, _ => true) = true := by
  simp only [indep, Bool.and_eq_true] at h
  exact ⟨h.1.1, h.1.2, h.2⟩
theorem putS_some {lvl : Nat} {id : Oid} {ob : Ob} {σ : Nat → Option Ob} {k : Nat} (h : putS lvl id ob σ k = none) : σ k = none := by
  unfold putS at h
  split at h
  · cases h
  · exact h
theorem adds_none {b : Nat} {obs : List Ob} {σ : Nat → Option Ob} {k : Nat} (h : adds b obs σ k = none) : σ k = none ∧ ¬ (b ≤ k ∧ k < b + obs.length) := by
  unfold adds at h
  split at h
  · rename_i hk
    rw [List.getElem?_eq_getElem (by omega)] at h; cases h
  · rename_i hk; exact ⟨h, hk⟩
theorem qs_fresh {lvl : Nat} {p : OP} {ρ ρ1 : Nat → IV} {σ σ1 : Nat → Option Ob} {out out1 : Sto} (h : QS C lvl p ρ σ out ρ1 σ1 out1) {b n : Nat} (hf : FreshF b n σ1) : FreshF b n σ := fun k g1 g2 => by
  have := hf k g1 g2
  rcases h with ⟨_, y, obs, _, _, _, rfl, _⟩ | ⟨_, y, id, ob, _, _, rfl, _⟩
  · exact (adds_none this).1
  · exact putS_some this
theorem qs_upd {lvl : Nat} {p : OP} {ρ ρ1 : Nat → IV} {σ σ1 : Nat → Option Ob} {out out1 : Sto} (h : QS C lvl p ρ σ out ρ1 σ1 out1) : ∃ y, ρ1 = upd p.d y ρ := by
  rcases h with ⟨_, y, obs, _, _, h, _⟩ | ⟨_, y, id, ob, _, h, _⟩ <;> exact ⟨y, h⟩

theorem qrun_lfree {lvl : Nat} (hl : lfree o.o = true) : ∀ (l1 l2 : List OP) (ρ : Nat → IV) (σ : Nat → Option Ob) (out : Sto) (ρ' : Nat → IV) (σ' : Nat → Option Ob) (out' : Sto), (∀ p ∈ l1, indep p o = true) →
    QRun C lvl (l1 ++ o :: l2) ρ σ out ρ' σ' out' → ∃ ρ1 σ1 out1, QS C lvl o ρ σ out ρ1 σ1 out1 ∧ QRun C lvl (l1 ++ l2) ρ1 σ1 out1 ρ' σ' out'
  | [], l2, ρ, σ, out, ρ', σ', out', _, h => h
  | p :: l1, l2, ρ, σ, out, ρ', σ', out', hi, h => by
    obtain ⟨ρp, σp, outp, hp, hr⟩ := h
    obtain ⟨i1, i2, i3⟩ := indep_parts (hi p (by simp))
    obtain ⟨ρ1, σ1, out1, h1, h2⟩ := qrun_lfree hl l1 l2 _ _ _ _ _ _ (fun q hq => hi q (by simp [hq])) hr
    rcases h1 with ⟨hlo, y, obs, g1, g2, rfl, rfl, rfl⟩ | ⟨hq, _⟩
    · obtain ⟨yp, rfl⟩ := qs_upd hp
      have hpo := upd_rd (y := yp) (ρ := ρ) i1
      have hfo := qs_fresh hp g2
      have hop := upd_rd (o := p) (d := o.d) (y := y) (ρ := ρ) i2
      refine ⟨_, _, _, .inl ⟨hlo, y, obs, g1.lfree hl (fun x hx => (hpo.1 x hx).symm) (fun j w hg => (hpo.2 j w hg).symm), hfo, rfl, rfl, rfl⟩, ?_⟩
      rcases hp with ⟨hlp, yp', obp, e1, e2, e3, rfl, rfl⟩ | ⟨hqp, yp', id, ob, e1, e3, rfl, rfl⟩
      · have hdis : ∀ k, keyOf p.d ≤ k ∧ k < keyOf p.d + obp.length → ¬ (keyOf o.d ≤ k ∧ k < keyOf o.d + obs.length) := fun k hk ho => (adds_none (g2 k ho.1 ho.2)).2 hk
        refine ⟨upd p.d yp' (upd o.d y ρ), adds (keyOf p.d) obp (adds (keyOf o.d) obs σ), _, .inl ⟨hlp, yp', obp, e1.congr hop.1 hop.2 (fun x _ => see_add hfo _), fun k q1 q2 => ?_, rfl, rfl, rfl⟩, ?_⟩
        · unfold adds
          rw [if_neg (hdis k ⟨q1, q2⟩)]
          exact e2 k q1 q2
        · have e5 : adds (keyOf p.d) obp (adds (keyOf o.d) obs σ) = adds (keyOf o.d) obs (adds (keyOf p.d) obp σ) := by
            funext k
            unfold adds
            by_cases q1 : keyOf p.d ≤ k ∧ k < keyOf p.d + obp.length
            · rw [if_pos q1, if_neg (hdis k q1), if_pos q1]
            · rw [if_neg q1]
              by_cases q2 : keyOf o.d ≤ k ∧ k < keyOf o.d + obs.length
              · rw [if_pos q2, if_pos q2]
              · rw [if_neg q2, if_neg q2, if_neg q1]
          rw [e5, upd_comm i3, ← e3]
          exact h2
      · have hthere := qeff_there p.o e1
        refine ⟨upd p.d yp' (upd o.d y ρ), putS lvl id ob (adds (keyOf o.d) obs σ), putO lvl id ob out, .inr ⟨hqp, yp', id, ob, qeff_congr p.o hop.1 (fun i b hb => adds_keep hfo i b hb) e1, rfl, rfl, rfl⟩, ?_⟩
        have e5 : putS lvl id ob (adds (keyOf o.d) obs σ) = adds (keyOf o.d) obs (putS lvl id ob σ) := by
          funext k
          unfold adds
          by_cases q2 : keyOf o.d ≤ k ∧ k < keyOf o.d + obs.length
          · have hk := g2 k q2.1 q2.2
            rw [if_pos q2]
            unfold putS at hk ⊢
            split at hk
            · cases hk
            · rename_i hne
              rw [if_neg hne]
              exact if_pos q2
          · rw [if_neg q2]
            unfold putS
            by_cases q3 : id = (lvl, k)
            · rw [if_pos q3, if_pos q3]
            · rw [if_neg q3, if_neg q3]
              exact if_neg q2
        rw [e5, upd_comm i3, ← e3]
        exact h2
    · have := lfree_silent hl
      obtain ⟨_, h | h⟩ := quiet_cases hq
      · obtain ⟨m, q, x, ho, _⟩ := h; rw [ho] at this; cases this
      · obtain ⟨k, x, z, ho | ho⟩ := h <;> (rw [ho] at this; cases this)

theorem qrun_wfr {lvl : Nat} {I : Oid → Prop} (hl : wfr o.o = true) : ∀ (l1 l2 : List OP) (ρ : Nat → IV) (σ : Nat → Option Ob) (out : Sto) (ρ' : Nat → IV) (σ' : Nat → Option Ob) (out' : Sto), (∀ p ∈ l1, indep p o = true) → (∀ x ∈ rd o.o, men I (xvf ρ x)) → (∀ id, I id → (packF lvl σ out id).isSome = true) →
    QRun C lvl (l1 ++ o :: l2) ρ σ out ρ' σ' out' → ∃ ρ1 σ1 out1, QS C lvl o ρ σ out ρ1 σ1 out1 ∧ QRun C lvl (l1 ++ l2) ρ1 σ1 out1 ρ' σ' out'
  | [], l2, ρ, σ, out, ρ', σ', out', _, _, _, h => h
  | p :: l1, l2, ρ, σ, out, ρ', σ', out', hi, hm, hI, h => by
    obtain ⟨ρp, σp, outp, hp, hr⟩ := h
    obtain ⟨i1, i2, i3⟩ := indep_parts (hi p (by simp))
    have hpo0 : ∀ x ∈ rd o.o, xvf ρp x = xvf ρ x := fun x hx => by
      obtain ⟨yp, rfl⟩ := qs_upd hp
      exact (upd_rd (y := yp) (ρ := ρ) i1).1 x hx
    have hstep : (∀ id, I id → (packF lvl σp outp id).isSome = true) ∧ ∀ id, I id → ∀ k, wid (packF lvl σp outp) id [] k → wid (packF lvl σ out) id [] k := by
      rcases hp with ⟨_, yp', obp, e1, e2, e3, rfl, rfl⟩ | ⟨hqp, yp', id, ob, e1, e3, rfl, rfl⟩
      · have hsame : ∀ id, I id → packF lvl (adds (keyOf p.d) obp σ) outp id = packF lvl σ outp id := fun id hid => by
          obtain ⟨ob, hob⟩ := Option.isSome_iff_exists.1 (hI id hid)
          rw [adds_keep e2 id ob hob, hob]
        refine ⟨fun id hid => by rw [hsame id hid]; exact hI id hid, fun id hid k hw => ?_⟩
        unfold wid at hw ⊢
        rw [hsame id hid] at hw
        exact hw
      · rw [pack_put]
        refine ⟨fun i hi => ?_, fun i _ k hw => qeff_wid p.o e1 i k hw⟩
        unfold sset
        split
        · rfl
        · exact hI i hi
    obtain ⟨ρ1, σ1, out1, h1, h2⟩ := qrun_wfr hl l1 l2 _ _ _ _ _ _ (fun q hq => hi q (by simp [hq])) (fun x hx => by rw [hpo0 x hx]; exact hm x hx) hstep.1 hr
    rcases h1 with ⟨hlo, y, obs, g1, g2, rfl, rfl, rfl⟩ | ⟨hq, _⟩
    · obtain ⟨yp, rfl⟩ := qs_upd hp
      have hpo := upd_rd (y := yp) (ρ := ρ) i1
      have hfo := qs_fresh hp g2
      have hop := upd_rd (o := p) (d := o.d) (y := y) (ρ := ρ) i2
      refine ⟨_, _, _, .inl ⟨hlo, y, obs, g1.wfr hl (fun x hx => (hpo.1 x hx).symm) (fun j w hg => (hpo.2 j w hg).symm) (fun x hx => by rw [hpo.1 x hx]; exact men_mono (fun i hii k hw => hstep.2 i hii k hw) _ (hm x hx)), hfo, rfl, rfl, rfl⟩, ?_⟩
      rcases hp with ⟨hlp, yp', obp, e1, e2, e3, rfl, rfl⟩ | ⟨hqp, yp', id, ob, e1, e3, rfl, rfl⟩
      · have hdis : ∀ k, keyOf p.d ≤ k ∧ k < keyOf p.d + obp.length → ¬ (keyOf o.d ≤ k ∧ k < keyOf o.d + obs.length) := fun k hk ho => (adds_none (g2 k ho.1 ho.2)).2 hk
        refine ⟨upd p.d yp' (upd o.d y ρ), adds (keyOf p.d) obp (adds (keyOf o.d) obs σ), _, .inl ⟨hlp, yp', obp, e1.congr hop.1 hop.2 (fun x _ => see_add hfo _), fun k q1 q2 => ?_, rfl, rfl, rfl⟩, ?_⟩
        · unfold adds
          rw [if_neg (hdis k ⟨q1, q2⟩)]
          exact e2 k q1 q2
        · have e5 : adds (keyOf p.d) obp (adds (keyOf o.d) obs σ) = adds (keyOf o.d) obs (adds (keyOf p.d) obp σ) := by
            funext k
            unfold adds
            by_cases q1 : keyOf p.d ≤ k ∧ k < keyOf p.d + obp.length
            · rw [if_pos q1, if_neg (hdis k q1), if_pos q1]
            · rw [if_neg q1]
              by_cases q2 : keyOf o.d ≤ k ∧ k < keyOf o.d + obs.length
              · rw [if_pos q2, if_pos q2]
              · rw [if_neg q2, if_neg q2, if_neg q1]
          rw [e5, upd_comm i3, ← e3]
          exact h2
      · have hthere := qeff_there p.o e1
        refine ⟨upd p.d yp' (upd o.d y ρ), putS lvl id ob (adds (keyOf o.d) obs σ), putO lvl id ob out, .inr ⟨hqp, yp', id, ob, qeff_congr p.o hop.1 (fun i b hb => adds_keep hfo i b hb) e1, rfl, rfl, rfl⟩, ?_⟩
        have e5 : putS lvl id ob (adds (keyOf o.d) obs σ) = adds (keyOf o.d) obs (putS lvl id ob σ) := by
          funext k
          unfold adds
          by_cases q2 : keyOf o.d ≤ k ∧ k < keyOf o.d + obs.length
          · have hk := g2 k q2.1 q2.2
            rw [if_pos q2]
            unfold putS at hk ⊢
            split at hk
            · cases hk
            · rename_i hne
              rw [if_neg hne]
              exact if_pos q2
          · rw [if_neg q2]
            unfold putS
            by_cases q3 : id = (lvl, k)
            · rw [if_pos q3, if_pos q3]
            · rw [if_neg q3, if_neg q3]
              exact if_neg q2
        rw [e5, upd_comm i3, ← e3]
        exact h2
    · have := wfr_silent hl
      obtain ⟨_, h | h⟩ := quiet_cases hq
      · obtain ⟨m, q, x, ho, _⟩ := h; rw [ho] at this; cases this
      · obtain ⟨k, x, z, ho | ho⟩ := h <;> (rw [ho] at this; cases this)

theorem qrun_quiet {lvl : Nat} {I : Oid → Prop} (hq : quietOP o = true) : ∀ (l1 l2 : List OP) (ρ : Nat → IV) (σ : Nat → Option Ob) (out : Sto) (ρ' : Nat → IV) (σ' : Nat → Option Ob) (out' : Sto), (∀ p ∈ l1, indep p o = true ∧ lfree p.o = true) → (∀ x ∈ rd o.o, men I (xvf ρ x)) → (∀ id, I id → (packF lvl σ out id).isSome = true) →
    QRun C lvl (l1 ++ o :: l2) ρ σ out ρ' σ' out' → ∃ ρ1 σ1 out1, QS C lvl o ρ σ out ρ1 σ1 out1 ∧ QRun C lvl (l1 ++ l2) ρ1 σ1 out1 ρ' σ' out'
  | [], l2, ρ, σ, out, ρ', σ', out', _, _, _, h => h
  | p :: l1, l2, ρ, σ, out, ρ', σ', out', hi, hm, hI, h => by
    obtain ⟨ρp, σp, outp, hp, hr⟩ := h
    obtain ⟨hi0, hn⟩ := hi p (by simp)
    obtain ⟨i1, i2, i3⟩ := indep_parts hi0
    have hlp := lfree_silent hn
    have hlq : loud o.o = true := by
      obtain ⟨_, h | h⟩ := quiet_cases hq
      · obtain ⟨m, q, x, ho, _⟩ := h; rw [ho]; rfl
      · obtain ⟨k, x, z, ho | ho⟩ := h <;> (rw [ho]; rfl)
    rcases hp with ⟨_, yp, obp, e1, e2, rfl, rfl, rfl⟩ | ⟨hqp, _⟩
    · have hpo := upd_rd (y := yp) (ρ := ρ) i1
      have hsame : ∀ id, I id → packF lvl (adds (keyOf p.d) obp σ) outp id = packF lvl σ outp id := fun id hid => by
        obtain ⟨ob, hob⟩ := Option.isSome_iff_exists.1 (hI id hid)
        rw [adds_keep e2 id ob hob, hob]
      obtain ⟨ρ1, σ1, out1, h1, h2⟩ := qrun_quiet hq l1 l2 _ _ _ _ _ _ (fun q hq => hi q (by simp [hq])) (fun x hx => by rw [hpo.1 x hx]; exact hm x hx) (fun id hid => by rw [hsame id hid]; exact hI id hid) hr
      rcases h1 with ⟨hlo, _⟩ | ⟨_, y, id, ob, g1, rfl, rfl, rfl⟩
      · rw [hlq] at hlo; cases hlo
      · have hop := upd_rd (o := p) (d := o.d) (y := y) (ρ := ρ) i2
        have gB := qeff_congr2 (S' := packF lvl σ outp) o.o (fun x hx => (hpo.1 x hx).symm) (fun x hx => by rw [hpo.1 x hx]; exact men_mono (fun i hid ob hob => by rw [← hsame i hid]; exact hob) _ (hm x hx)) g1
        have hthere := qeff_there o.o gB
        have hout : ∀ k, keyOf p.d ≤ k → k < keyOf p.d + obp.length → id ≠ (lvl, k) := fun k q1 q2 e => by
          have hk := e2 k q1 q2
          rw [e] at hthere
          have : packF lvl σ outp (lvl, k) = σ k := if_pos rfl
          rw [this, hk] at hthere
          cases hthere
        refine ⟨_, _, _, .inr ⟨hq, y, id, ob, gB, rfl, rfl, rfl⟩, upd p.d yp (upd o.d y ρ), adds (keyOf p.d) obp (putS lvl id ob σ), _, .inl ⟨hlp, yp, obp, e1.lfree hn hop.1 hop.2, fun k q1 q2 => ?_, rfl, rfl, rfl⟩, ?_⟩
        · unfold putS
          rw [if_neg (hout k q1 q2)]
          exact e2 k q1 q2
        · have e5 : adds (keyOf p.d) obp (putS lvl id ob σ) = putS lvl id ob (adds (keyOf p.d) obp σ) := by
            funext k
            unfold adds
            by_cases q2 : keyOf p.d ≤ k ∧ k < keyOf p.d + obp.length
            · rw [if_pos q2]
              unfold putS
              rw [if_neg (hout k q2.1 q2.2)]
              exact (if_pos q2).symm
            · rw [if_neg q2]
              unfold putS
              by_cases q3 : id = (lvl, k)
              · rw [if_pos q3, if_pos q3]
              · rw [if_neg q3, if_neg q3]
                exact (if_neg q2).symm
          rw [e5, upd_comm i3]
          exact h2
    · obtain ⟨_, h | h⟩ := quiet_cases hqp
      · obtain ⟨m, q, x, ho, _⟩ := h; rw [ho] at hlp; cases hlp
      · obtain ⟨k, x, z, ho | ho⟩ := h <;> (rw [ho] at hlp; cases hlp)
theorem qrun_silent {lvl : Nat} {I : Oid → Prop} (hlo : loud o.o = false) : ∀ (l1 l2 : List OP) (ρ : Nat → IV) (σ : Nat → Option Ob) (out : Sto) (ρ' : Nat → IV) (σ' : Nat → Option Ob) (out' : Sto), (∀ p ∈ l1, indep p o = true ∧ loud p.o = false) → (∀ x ∈ rd o.o, men I (xvf ρ x)) → (∀ id, I id → (packF lvl σ out id).isSome = true) → (∀ id cells, I id → packF lvl σ out id = some (.bx cells) → mens I cells) →
    QRun C lvl (l1 ++ o :: l2) ρ σ out ρ' σ' out' → ∃ ρ1 σ1 out1, QS C lvl o ρ σ out ρ1 σ1 out1 ∧ QRun C lvl (l1 ++ l2) ρ1 σ1 out1 ρ' σ' out'
  | [], l2, ρ, σ, out, ρ', σ', out', _, _, _, _, h => h
  | p :: l1, l2, ρ, σ, out, ρ', σ', out', hi, hm, hI, hcl, h => by
    obtain ⟨ρp, σp, outp, hp, hr⟩ := h
    obtain ⟨hi0, hlp⟩ := hi p (by simp)
    obtain ⟨i1, i2, i3⟩ := indep_parts hi0
    rcases hp with ⟨_, yp, obp, e1, e2, rfl, rfl, rfl⟩ | ⟨hqp, _⟩
    · have hpo := upd_rd (y := yp) (ρ := ρ) i1
      have hsame : ∀ id, I id → packF lvl (adds (keyOf p.d) obp σ) out' id = packF lvl (adds (keyOf p.d) obp σ) out' id := fun _ _ => rfl
      clear hsame
      have hsame : ∀ id, I id → packF lvl (adds (keyOf p.d) obp σ) outp id = packF lvl σ outp id := fun id hid => by
        obtain ⟨ob, hob⟩ := Option.isSome_iff_exists.1 (hI id hid)
        rw [adds_keep e2 id ob hob, hob]
      obtain ⟨ρ1, σ1, out1, h1, h2⟩ := qrun_silent hlo l1 l2 _ _ _ _ _ _ (fun q hq => hi q (by simp [hq])) (fun x hx => by
        rw [hpo.1 x hx]
        exact hm x hx) (fun id hid => by rw [hsame id hid]; exact hI id hid) (fun id cells hid hc => hcl id cells hid (by rw [← hsame id hid]; exact hc)) hr
      rcases h1 with ⟨_, y, obs, g1, g2, rfl, rfl, rfl⟩ | ⟨hq, _⟩
      · have hfo : FreshF (keyOf o.d) obs.length σ := fun k q1 q2 => (adds_none (g2 k q1 q2)).1
        have hdis : ∀ k, keyOf p.d ≤ k ∧ k < keyOf p.d + obp.length → ¬ (keyOf o.d ≤ k ∧ k < keyOf o.d + obs.length) := fun k hk ho => (adds_none (g2 k ho.1 ho.2)).2 hk
        have hop := upd_rd (o := p) (d := o.d) (y := y) (ρ := ρ) i2
        refine ⟨_, _, _, .inl ⟨hlo, y, obs, g1.congr (fun x hx => (hpo.1 x hx).symm) (fun j w hg => (hpo.2 j w hg).symm) (fun x hx => ?_), hfo, rfl, rfl, rfl⟩, upd p.d yp (upd o.d y ρ), adds (keyOf p.d) obp (adds (keyOf o.d) obs σ), _, .inl ⟨hlp, yp, obp, e1.congr hop.1 hop.2 (fun x _ => see_add hfo _), fun k q1 q2 => ?_, rfl, rfl, rfl⟩, ?_⟩
        · rw [hpo.1 x hx]
          have hone : ∀ id, I id → Same1 (packF lvl (adds (keyOf p.d) obp σ) out1) (packF lvl σ out1) id := fun id hid ob hob => by rw [← hsame id hid]; exact hob
          exact men_mono (fun id hid => ⟨hone id hid, fun cells hc => mens_mono hone _ (hcl id cells hid (by rw [← hsame id hid]; exact hc))⟩) _ (hm x hx)
        · unfold adds
          rw [if_neg (hdis k ⟨q1, q2⟩)]
          exact e2 k q1 q2
        · have e5 : adds (keyOf p.d) obp (adds (keyOf o.d) obs σ) = adds (keyOf o.d) obs (adds (keyOf p.d) obp σ) := by
            funext k
            unfold adds
            by_cases q1 : keyOf p.d ≤ k ∧ k < keyOf p.d + obp.length
            · rw [if_pos q1, if_neg (hdis k q1), if_pos q1]
            · rw [if_neg q1]
              by_cases q2 : keyOf o.d ≤ k ∧ k < keyOf o.d + obs.length
              · rw [if_pos q2, if_pos q2]
              · rw [if_neg q2, if_neg q2, if_neg q1]
          rw [e5, upd_comm i3]
          exact h2
      · obtain ⟨_, h | h⟩ := quiet_cases hq
        · obtain ⟨m, q, x, ho, _⟩ := h; rw [ho] at hlo; cases hlo
        · obtain ⟨k, x, z, ho | ho⟩ := h <;> (rw [ho] at hlo; cases hlo)
    · obtain ⟨_, h | h⟩ := quiet_cases hqp
      · obtain ⟨m, q, x, ho, _⟩ := h; rw [ho] at hlp; cases hlp
      · obtain ⟨k, x, z, ho | ho⟩ := h <;> (rw [ho] at hlp; cases hlp)
theorem qrun_first {lvl : Nat} {I : Oid → Prop} {l1 l2 : List OP} {ρ : Nat → IV} {σ : Nat → Option Ob} {out : Sto} {ρ' : Nat → IV} {σ' : Nat → Option Ob} {out' : Sto} (hq : qt o = true) (hi : ∀ p ∈ l1, okPair p o = true) (hm : ∀ x, men I (xvf ρ x)) (hI : ∀ id, I id → (packF lvl σ out id).isSome = true) (hcl : ∀ id cells, I id → packF lvl σ out id = some (.bx cells) → mens I cells)
    (h : QRun C lvl (l1 ++ o :: l2) ρ σ out ρ' σ' out') : ∃ ρ1 σ1 out1, QS C lvl o ρ σ out ρ1 σ1 out1 ∧ QRun C lvl (l1 ++ l2) ρ1 σ1 out1 ρ' σ' out' := by
  have hind : ∀ p ∈ l1, indep p o = true := fun p hp => by
    have := hi p hp
    simp only [okPair, Bool.and_eq_true] at this
    exact this.1
  by_cases hl : lfree o.o = true
  · exact qrun_lfree hl l1 l2 _ _ _ _ _ _ hind h
  · by_cases hw : wfr o.o = true
    · exact qrun_wfr hw l1 l2 _ _ _ _ _ _ hind (fun x _ => hm x) hI h
    by_cases hlo : loud o.o = false
    · refine qrun_silent hlo l1 l2 _ _ _ _ _ _ (fun p hp => ⟨hind p hp, ?_⟩) (fun x _ => hm x) hI hcl h
      have := hi p hp
      simp only [okPair, Bool.and_eq_true, Bool.or_eq_true, Bool.not_eq_true'] at this
      rcases this.2 with (h | h) | h
      · exact h.1
      · exact absurd h.2 (by simp [hl, hw])
      · exact lfree_silent h.1
    · have hqq : quietOP o = true := by
        unfold qt at hq
        simp only [Bool.or_eq_true, Bool.not_eq_true'] at hq
        exact hq.resolve_left hlo
      refine qrun_quiet hqq l1 l2 _ _ _ _ _ _ (fun p hp => ⟨hind p hp, ?_⟩) (fun x _ => hm x) hI h
      have := hi p hp
      simp only [okPair, Bool.and_eq_true, Bool.or_eq_true, Bool.not_eq_true'] at this
      rcases this.2 with (h | h) | h
      · exact absurd h.2 hlo
      · exact absurd h.2 (by simp [hl, hw])
      · exact h.1
end
end Go.Fd

namespace Go.Fd

def insl (l s : List Nat) : List Nat := l.foldl (fun s x => if s.contains x then s else x :: s) s
theorem insl_mem {j : Nat} : ∀ {l s : List Nat}, j ∈ insl l s → j ∈ l ∨ j ∈ s
  | [], _, h => .inr h
  | x :: r, s, h => by
    have h' : j ∈ insl r (if s.contains x then s else x :: s) := h
    rcases insl_mem h' with h1 | h1
    · exact .inl (List.mem_cons_of_mem _ h1)
    · split at h1
      · exact .inr h1
      · rcases List.mem_cons.1 h1 with rfl | h1
        · exact .inl List.mem_cons_self
        · exact .inr h1
def befs : List Oper → List (List Nat) → List (List Nat)
  | [], acc => acc
  | o :: r, acc => befs r (acc ++ [insl ((o.after.toList.filter fun e => Region.binds .any e).flatMap fun e => e.on :: acc.getD e.on []) []])
def Cl (ops : List Oper) (listed : Array Bool) : Prop := ∀ (i : Nat) (oper : Oper), ops[i]? = some oper → listed.getD i false = true → ∀ e ∈ oper.after, Region.binds .any e = true → listed.getD e.on false = true
def Gd (ops : List Oper) (listed : Array Bool) (acc : List (List Nat)) : Prop := ∀ (i : Nat) (B : List Nat) (oper : Oper), acc[i]? = some B → ops[i]? = some oper → (∀ e ∈ oper.after, Region.binds .any e = true → listed.getD e.on false = true) → ∀ j ∈ B, listed.getD j false = true
theorem befs_good {ops : List Oper} {listed : Array Bool} (hc : Cl ops listed) : ∀ (r : List Oper) (acc : List (List Nat)), ops.drop acc.length = r → acc.length ≤ ops.length → Gd ops listed acc → Gd ops listed (befs r acc)
  | [], acc, _, _, hg => hg
  | o :: r, acc, hr, hl, hg => by
    have ho : ops[acc.length]? = some o := by
      have := congrArg (fun l => l[0]?) hr
      simpa using this
    have hlt : acc.length < ops.length := (List.getElem?_eq_some_iff.1 ho).1
    refine befs_good hc r _ ?_ (by simp; omega) ?_
    · rw [List.length_append, List.length_singleton, ← List.drop_drop, hr]; rfl
    · intro i B oper hB hi he j hj
      rcases Nat.lt_trichotomy i acc.length with h | h | h
      · rw [List.getElem?_append_left h] at hB
        exact hg i B oper hB hi he j hj
      · subst h
        rw [List.getElem?_append_right (Nat.le_refl _)] at hB
        simp only [Nat.sub_self, List.getElem?_cons_zero, Option.some.injEq] at hB
        subst hB
        rw [ho] at hi; cases hi
        rcases insl_mem hj with h1 | h1
        · obtain ⟨e, h2, h3⟩ := List.mem_flatMap.1 h1
          obtain ⟨h4, h5⟩ := List.mem_filter.1 h2
          have h4' : e ∈ o.after := by simpa using h4
          rcases List.mem_cons.1 h3 with rfl | h6
          · exact he e h4' h5
          · cases hq : acc[e.on]? with
            | none => simp [List.getD, hq] at h6
            | some B2 =>
              have h7 : j ∈ B2 := by simpa [List.getD, hq] using h6
              have h8 : e.on < acc.length := (List.getElem?_eq_some_iff.1 hq).1
              have h9 : ops[e.on]? = some (ops[e.on]'(by omega)) := List.getElem?_eq_getElem (by omega)
              exact hg e.on B2 _ hq h9 (hc e.on _ h9 (he e h4' h5)) j h7
        · cases h1
      · rw [List.getElem?_append_right (by omega)] at hB
        have : 1 ≤ i - acc.length := by omega
        rw [List.getElem?_eq_none (by simpa using this)] at hB
        cases hB
theorem Cl.take {ops : List Oper} {listed : Array Bool} {i : Nat} (hc : Cl ops listed) (hi : ∀ oper, ops[i]? = some oper → ∀ e ∈ oper.after, Region.binds .any e = true → listed.getD e.on false = true) : Cl ops (listed.setIfInBounds i true) := by
  have mono : ∀ k, listed.getD k false = true → (listed.setIfInBounds i true).getD k false = true := fun k hk => by
    rw [Array.getD_eq_getD_getElem?] at hk ⊢
    rw [Array.getElem?_setIfInBounds]
    split
    · split
      · rfl
      · rename_i h1 h2
        subst h1
        rw [Array.getElem?_eq_none (by omega)] at hk
        cases hk
    · exact hk
  intro k oper hk hl e he hb
  by_cases hik : i = k
  · subst hik
    exact mono _ (hi oper hk e he hb)
  · refine mono _ (hc k oper hk ?_ e he hb)
    rw [Array.getD_eq_getD_getElem?] at hl ⊢
    rw [Array.getElem?_setIfInBounds, if_neg hik] at hl
    exact hl

def drawOK (ops : Array Oper) (l : List OP) : Bool :=
  let B := befs ops.toList []
  (List.range ops.size).all fun i =>
    match ops[i]?, l[i]? with
    | some oper, some o => (oper.after.all fun e => !Region.binds .any e || decide (e.on < i)) &&
        (List.range i).all fun j => (B.getD i []).contains j || (match l[j]? with | some p => okPair p o | none => false)
    | _, _ => false

section
variable {P : Program} {F : Fr} {G : Gh} {s : St} {a : Act} {w : World}

theorem Sim.congr (h : Sim F G s a w) {s' : St} (h1 : s'.lvl = s.lvl) (h2 : s'.out = s.out) (h3 : (fun t => lk t s'.env) = fun t => lk t s.env) (h4 : (fun k => lkO k s'.loc) = fun k => lkO k s.loc) : Sim F G s' a w := by
  have hs : s'.sto = s.sto := by rw [sto_packF, sto_packF, h1, h2, h4]
  refine ⟨h.dfr, h.sz, fun t => ?_, by rw [hs]; exact h.ok, by rw [h1]; exact h.lvl, by rw [h1, h2]; exact h.outl, by rw [hs]; exact h.fr⟩
  have := congrFun h3 t
  rw [hs, this]
  exact h.env t

theorem Sim.men_x (h : Sim F G s a w) (x : X) : men (fun id => (packF s.lvl (fun k => lkO k s.loc) s.out id).isSome = true) (xvf (fun t => lk t s.env) x) := by
  cases x with
  | t n => exact men_live _ _ (h.env n)
  | k v => exact kv_men v
  | f i => simp [xvf, men, mens]

theorem Sim.cells_live (h : Sim F G s a w) {id : Oid} {cells : List IV} (hc : packF s.lvl (fun k => lkO k s.loc) s.out id = some (.bx cells)) : mens (fun id => (packF s.lvl (fun k => lkO k s.loc) s.out id).isSome = true) cells := by
  have hs : s.sto id = some (.bx cells) := by rw [sto_packF]; exact hc
  obtain ⟨b, c, vs, ty, _, _, hv⟩ := h.ok.obs _ _ hs
  exact mens_live _ _ hv
theorem chkOPs_at {nt : Nat} {ops : Array Oper} : ∀ {l : List OP} {r : List Oper}, chkOPs P nt ops l r = true → l.length = r.length ∧ ∀ (i : Nat) (o : OP) (oper : Oper), l[i]? = some o → r[i]? = some oper → chkOP P nt ops o oper = true
  | [], [], _ => ⟨rfl, fun i o oper h => by simp at h⟩
  | [], _ :: _, h => by cases h
  | _ :: _, [], h => by cases h
  | o :: l, oper :: r, h => by
    simp only [chkOPs, Bool.and_eq_true] at h
    obtain ⟨h1, h2⟩ := chkOPs_at h.2
    refine ⟨by simp [h1], fun i o' oper' ho hr => ?_⟩
    cases i with
    | zero => simp at ho hr; subst ho hr; exact h.1
    | succ i => exact h2 i o' oper' (by simpa using ho) (by simpa using hr)

structure Todo (l : List OP) (listed : Array Bool) (R : List (Nat × OP)) : Prop where
  mem : ∀ i o, (i, o) ∈ R ↔ l[i]? = some o ∧ listed[i]? = some false
  sort : R.Pairwise (fun x y => x.1 < y.1)

theorem Todo.take {l : List OP} {listed : Array Bool} {R1 R2 : List (Nat × OP)} {i : Nat} {o : OP} (h : Todo l listed (R1 ++ (i, o) :: R2)) : Todo l (listed.setIfInBounds i true) (R1 ++ R2) := by
  have hp := List.pairwise_append.1 h.sort
  have hp2 := List.pairwise_cons.1 hp.2.1
  refine ⟨fun j p => ?_, ?_⟩
  · have hm := h.mem j p
    rw [Array.getElem?_setIfInBounds]
    by_cases hj : i = j
    · subst hj
      rw [if_pos rfl]
      constructor
      · intro hin
        exfalso
        rcases List.mem_append.1 hin with g | g
        · exact Nat.lt_irrefl _ (hp.2.2 _ g (i, o) (by simp))
        · exact Nat.lt_irrefl i (hp2.1 (i, p) g)
      · rintro ⟨_, h2⟩
        split at h2 <;> cases h2
    · rw [if_neg hj, ← hm]
      simp only [List.mem_append, List.mem_cons, Prod.mk.injEq]
      constructor
      · rintro (g | g)
        · exact .inl g
        · exact .inr (.inr g)
      · rintro (g | ⟨g, _⟩ | g)
        · exact .inl g
        · exact absurd g.symm hj
        · exact .inr g
  · exact List.pairwise_append.2 ⟨hp.1, hp2.2, fun x hx y hy => hp.2.2 x hx y (by simp [hy])⟩

theorem wpo_append {C : Contract} : ∀ {l1 l2 : List OP} {s : St} {K : St → Prop}, wpo C (l1 ++ l2) s K = wpo C l1 s fun s' => wpo C l2 s' K
  | [], _, _, _ => rfl
  | o :: r, l2, s, K => by
    simp only [List.cons_append, wpo]
    congr 1
    funext s'
    exact wpo_append
theorem split_loud : ∀ (R : List (Nat × OP)), ∃ R1 R2, R = R1 ++ R2 ∧ (∀ x ∈ R1, qt x.2 = true) ∧ ∀ x r, R2 = x :: r → qt x.2 = false
  | [] => ⟨[], [], rfl, fun _ h => (by cases h), fun _ _ h => (by cases h)⟩
  | x :: r => by
    by_cases h : qt x.2 = true
    · obtain ⟨R1, R2, h1, h2, h3⟩ := split_loud r
      refine ⟨x :: R1, R2, by rw [h1]; rfl, fun y hy => ?_, h3⟩
      rcases List.mem_cons.1 hy with rfl | hy
      · exact h
      · exact h2 y hy
    · exact ⟨[], x :: r, rfl, fun _ h => (by cases h), fun y s hs => by cases hs; simpa using h⟩
theorem okPair_hard {p o : OP} (h : okPair p o = true) : qt p = true ∧ qt o = true := by
  simp only [okPair, Bool.and_eq_true, Bool.or_eq_true, Bool.not_eq_true'] at h
  unfold qt
  simp only [Bool.or_eq_true, Bool.not_eq_true']
  rcases h.2 with (h | h) | h
  · exact ⟨.inl h.1, .inl h.2⟩
  · have := h.1
    unfold qt at this
    simp only [Bool.or_eq_true, Bool.not_eq_true'] at this
    rcases h.2 with h2 | h2
    · exact ⟨this, .inl (lfree_silent h2)⟩
    · exact ⟨this, .inl (wfr_silent h2)⟩
  · exact ⟨.inl (lfree_silent h.1), .inr h.2⟩

theorem draw_go {ops : Array Oper} {l : List OP} {Q : Exit → Act → World → Prop} {K : St → Prop} (hc : chkOPs P F.nt ops l ops.toList = true) (hd : drawOK ops l = true)
    (hq : ∀ st' G' a' w', K st' → Sim F G' st' a' w' → Q .normal a' w') : ∀ (fuel : Nat) (listed : Array Bool) (Rs Rl : List (Nat × OP)) (s st0 : St) (G : Gh) (a : Act) (w : World),
    listed.size = ops.size → Cl ops.toList listed → Todo l listed (Rs ++ Rl) → (Rs ++ Rl).length = fuel → (∀ x ∈ Rs, qt x.2 = true) → (∀ x r, Rl = x :: r → qt x.2 = false) → Sim F G s a w →
    QRun (Sem P) s.lvl (Rs.map (·.2)) (fun t => lk t s.env) (fun k => lkO k s.loc) s.out (fun t => lk t st0.env) (fun k => lkO k st0.loc) st0.out → st0.lvl = s.lvl → wpo (Sem P) (Rl.map (·.2)) st0 K → wpAny P .any ops Q fuel listed a w := by
  obtain ⟨hlen, hat⟩ := chkOPs_at hc
  simp only [drawOK, List.all_eq_true, List.mem_range] at hd
  have hed := hd
  have hlen' : l.length = ops.size := by rw [hlen]; simp
  -- the edges of operation i
  have edges : ∀ (i : Nat) (oper : Oper) (o : OP), ops[i]? = some oper → l[i]? = some o → (∀ e ∈ oper.after, Region.binds .any e = true → e.on < i) ∧
      ∀ j p (listed : Array Bool), Cl ops.toList listed → (∀ e ∈ oper.after, Region.binds .any e = true → listed.getD e.on false = true) → j < i → l[j]? = some p → listed.getD j false = true ∨ okPair p o = true := fun i oper o ho hl => by
    have hi : i < ops.size := (Array.getElem?_eq_some_iff.1 ho).1
    have h1 := hed i hi
    rw [ho, hl] at h1
    simp only [Bool.and_eq_true, List.all_eq_true, List.mem_range, Array.all_eq_true_iff_forall_mem, Bool.or_eq_true, Bool.not_eq_true', decide_eq_true_eq] at h1
    refine ⟨fun e he hb => (h1.1 e he).resolve_left (by simp [hb]), fun j p listed hcl he hj hp => ?_⟩
    have := h1.2 j hj
    rw [hp] at this
    rcases this with h2 | h2
    · refine .inl ?_
      have hg := befs_good hcl ops.toList [] (by simp) (by simp) (fun i B oper hB => by simp at hB)
      cases hq2 : (befs ops.toList [])[i]? with
      | none => simp [List.getD, hq2] at h2
      | some B => exact hg i B oper hq2 (by simpa using ho) he j (by simpa [List.getD, hq2] using h2)
    · exact .inr h2
  -- what is not listed
  have left : ∀ (listed : Array Bool) (R : List (Nat × OP)), listed.size = ops.size → Todo l listed R → R ≠ [] → Region.ready .any ops listed ≠ [] := fun listed R hs ht hne => by
    cases R with
    | nil => exact absurd rfl hne
    | cons x R =>
      obtain ⟨i, o⟩ := x
      obtain ⟨hl, hli⟩ := (ht.mem i o).1 (by simp)
      have hi : i < ops.size := by rw [← hlen']; exact (List.getElem?_eq_some_iff.1 hl).1
      obtain ⟨oper, ho⟩ : ∃ oper, ops[i]? = some oper := ⟨_, Array.getElem?_eq_getElem hi⟩
      have : i ∈ Region.ready .any ops listed := by
        rw [mem_ready]
        refine ⟨by simp [Array.getD_eq_getD_getElem?, hli], oper, ho, fun e he hb => ?_⟩
        have hlt := (edges i oper o ho hl).1 e he hb
        have hes : e.on < listed.size := by omega
        cases hq : listed[e.on]? with
        | none => rw [Array.getElem?_eq_none_iff] at hq; omega
        | some b =>
          cases b with
          | true => simp [Array.getD_eq_getD_getElem?, hq]
          | false =>
            exfalso
            have hel : e.on < l.length := by omega
            have := (ht.mem e.on l[e.on]).2 ⟨List.getElem?_eq_getElem hel, hq⟩
            rcases List.mem_cons.1 this with h | h
            · have := congrArg Prod.fst h; simp at this; omega
            · have := (List.pairwise_cons.1 ht.sort).1 _ h
              have : i < e.on := this
              omega
      intro h
      rw [h] at this
      cases this
  intro fuel
  induction fuel with
  | zero =>
    intro listed Rs Rl s st0 G a w hs hcl ht hR _ _ h hrun e1 hw
    have hR : Rs ++ Rl = [] := List.eq_nil_of_length_eq_zero hR
    obtain ⟨rfl, rfl⟩ := List.append_eq_nil_iff.1 hR
    refine ⟨?_, hq st0 G a w hw (h.congr e1 hrun.2.2 hrun.1 hrun.2.1)⟩
    cases hrd : Region.ready .any ops listed with
    | nil => rfl
    | cons i r =>
      exfalso
      have hi : i ∈ Region.ready .any ops listed := by rw [hrd]; simp
      obtain ⟨h1, oper, ho, _⟩ := mem_ready.1 hi
      have hi' : i < ops.size := (Array.getElem?_eq_some_iff.1 ho).1
      have hl : i < l.length := by omega
      have hli : i < listed.size := by omega
      have := (ht.mem i l[i]).2 ⟨List.getElem?_eq_getElem hl, by rw [Array.getElem?_eq_getElem hli]; simp [Array.getD_eq_getD_getElem?, Array.getElem?_eq_getElem hli] at h1; rw [h1]⟩
      cases this
  | succ fuel ih =>
    intro listed Rs Rl s st0 G a w hs hcl ht hR hsil hhd h hrun e1 hw
    have hne : Rs ++ Rl ≠ [] := by intro h; rw [h] at hR; cases hR
    refine ⟨fun h0 => absurd h0 (left listed _ hs ht hne), fun i hi => ?_⟩
    obtain ⟨h1, oper, ho, hall⟩ := mem_ready.1 hi
    have hi' : i < ops.size := (Array.getElem?_eq_some_iff.1 ho).1
    have hl : i < l.length := by omega
    have hli : i < listed.size := by omega
    have hlo : l[i]? = some l[i] := List.getElem?_eq_getElem hl
    have hmem := (ht.mem i l[i]).2 ⟨hlo, by rw [Array.getElem?_eq_getElem hli]; simp [Array.getD_eq_getD_getElem?, Array.getElem?_eq_getElem hli] at h1; rw [h1]⟩
    generalize l[i] = o at hlo hmem
    have hready : ∀ e ∈ oper.after, Region.binds .any e = true → listed.getD e.on false = true := hall
    have hcl' : Cl ops.toList (listed.setIfInBounds i true) := hcl.take fun oper' ho' => by
      have : ops[i]? = some oper' := by simpa using ho'
      rw [ho] at this; cases this
      exact hready
    -- one that comes before and is still to do is silent, and so is this one
    have hbef : ∀ j p, (j, p) ∈ Rs ++ Rl → j < i → okPair p o = true := fun j p hj hlt => by
      obtain ⟨hjl, hjf⟩ := (ht.mem j p).1 hj
      rcases (edges i oper o ho hlo).2 j p listed hcl hready hlt hjl with h2 | h2
      · simp [Array.getD_eq_getD_getElem?, hjf] at h2
      · exact h2
    rcases List.mem_append.1 hmem with hm | hm
    · obtain ⟨R1, R2, rfl⟩ := List.append_of_mem hm
      have ht' : Todo l listed (R1 ++ (i, o) :: (R2 ++ Rl)) := by simpa using ht
      have hp := List.pairwise_append.1 ht'.sort
      have hind : ∀ p ∈ R1.map (·.2), okPair p o = true := fun p hp1 => by
        obtain ⟨⟨j, p'⟩, hj, rfl⟩ := List.mem_map.1 hp1
        exact hbef j p' (by simp [hj]) (hp.2.2 _ hj (i, o) (by simp))
      rw [List.map_append, List.map_cons] at hrun
      obtain ⟨ρ1, σ1, out1, g1, g3⟩ := qrun_first (o := o) (hsil (i, o) (by simp)) hind (fun x => h.men_x x) (fun id h => h) (fun id cells _ hc => h.cells_live hc) hrun
      have hop := qs_op1 (st := s) g1
      have key := op1_ok (ops := ops) (Q := Q) (next := wpAny P .any ops Q fuel (listed.setIfInBounds i true)) h (hat i o oper hlo (by simpa using ho)) hop (fun st' G' a' w' hk h' => by
        refine ih (listed.setIfInBounds i true) (R1 ++ R2) Rl st' st0 G' a' w' (by simp [hs]) hcl' (by simpa using ht'.take) (by simp at hR ⊢; omega) (fun x hx => hsil x (by
          rcases List.mem_append.1 hx with h | h
          · simp [h]
          · simp [h])) hhd h' ?_ (e1.trans hk.lvl.symm) hw
        rw [List.map_append, hk.lvl, hk.out, hk.env, hk.loc]
        exact g3)
      unfold wpOp
      simp only [ho]
      by_cases hw2 : Region.wanted oper (yielded ops a.tmps) = true
      · rw [if_pos hw2] at key ⊢; exact .inl key
      · rw [if_neg hw2] at key ⊢; exact key
    · cases Rl with
      | nil => cases hm
      | cons x r =>
        obtain ⟨i0, o0⟩ := x
        have hl0 := hhd (i0, o0) r rfl
        have hp := List.pairwise_append.1 ht.sort
        have hio : i0 = i ∧ o0 = o := by
          rcases List.mem_cons.1 hm with h2 | h2
          · cases h2; exact ⟨rfl, rfl⟩
          · have hlt := (List.pairwise_cons.1 hp.2.1).1 _ h2
            have := (okPair_hard (hbef i0 o0 (by simp) hlt)).1
            rw [show qt o0 = false from hl0] at this; cases this
        obtain ⟨rfl, rfl⟩ := hio
        have hRs : Rs = [] := by
          cases Rs with
          | nil => rfl
          | cons y q =>
            have hlt := hp.2.2 y (by simp) (i0, o0) (by simp)
            have := (okPair_hard (hbef y.1 y.2 (by simp) hlt)).2
            rw [show qt o0 = false from hl0] at this; cases this
        subst hRs
        have h0 : Sim F G st0 a w := h.congr e1 hrun.2.2 hrun.1 hrun.2.1
        obtain ⟨R1, R2, rfl, q1, q2⟩ := split_loud r
        have hw' : op1 (Sem P) o0 st0 fun st' => wpo (Sem P) ((R1 ++ R2).map (·.2)) st' K := hw
        have key := op1_ok (ops := ops) (Q := Q) (next := wpAny P .any ops Q fuel (listed.setIfInBounds i0 true)) h0 (hat i0 o0 oper hlo (by simpa using ho)) hw' (fun st' G' a' w' hk h' => by
          rw [List.map_append, wpo_append] at hk
          obtain ⟨st1, k1, k2, k4⟩ := wpo_qrun (R1.map (·.2)) st' (fun p hp => by
            obtain ⟨x, hx, rfl⟩ := List.mem_map.1 hp
            exact q1 x hx) hk
          have ht' : Todo l listed ([] ++ (i0, o0) :: (R1 ++ R2)) := ht
          exact ih (listed.setIfInBounds i0 true) R1 R2 st' st1 G' a' w' (by simp [hs]) hcl' (by simpa using ht'.take) (by simp at hR ⊢; omega) q1 q2 h' k4 k2 k1)
        unfold wpOp
        simp only [ho]
        by_cases hw2 : Region.wanted oper (yielded ops a.tmps) = true
        · rw [if_pos hw2] at key ⊢; exact .inl key
        · rw [if_neg hw2] at key ⊢; exact key

theorem Frm.drew {F : Fr} {G : Gh} {S : Sto} {w w' : World} (h : Frm F G S w) (e : Ext w w') : Frm F G S w' := h.ext e

theorem draw_ok {ops : Array Oper} {l : List OP} {Q : Exit → Act → World → Prop} {K : St → Prop} {id : Nat} (hm : P.follows .mixedOrders = true) (hc : chkOPs P F.nt ops l ops.toList = true) (hd : drawOK ops l = true) (h : Sim F G s a w) (he : wpo (Sem P) l s K)
    (hq : ∀ st' G' a' w', K st' → Sim F G' st' a' w' → Q .normal a' w') : (Code.region id ops true).wp P Q a w := by
  obtain ⟨hlen, hat⟩ := chkOPs_at hc
  have hlen' : l.length = ops.size := by rw [hlen]; simp
  have hw : Sim F G s a { w with drawn := w.drawn + 1 } := h.ext ⟨Nat.le_refl _, fun _ _ => rfl, rfl, rfl, rfl⟩
  have hmap : (l.zipIdx.map fun x => (x.2, x.1)).map (·.2) = l := by
    rw [List.map_map]
    have := List.zipIdx_map_fst 0 l
    exact this
  obtain ⟨R1, R2, hR, q1, q2⟩ := split_loud (l.zipIdx.map fun x => (x.2, x.1))
  have he' := he
  rw [← hmap, hR, List.map_append, wpo_append] at he'
  obtain ⟨st1, k1, k2, k4⟩ := wpo_qrun (R1.map (·.2)) s (fun p hp => by
    obtain ⟨x, hx, rfl⟩ := List.mem_map.1 hp
    exact q1 x hx) he'
  have hTodo : Todo l (Array.replicate ops.size false) (R1 ++ R2) := by
    rw [← hR]
    refine ⟨fun i o => ?_, ?_⟩
    · constructor
      · intro hi
        obtain ⟨⟨p, j⟩, hj, he⟩ := List.mem_map.1 hi
        cases he
        have hg := List.mem_zipIdx_iff_getElem?.1 hj
        refine ⟨hg, ?_⟩
        have : j < ops.size := by rw [← hlen']; exact (List.getElem?_eq_some_iff.1 hg).1
        simp [this]
      · rintro ⟨hg, _⟩
        exact List.mem_map.2 ⟨(o, i), List.mem_zipIdx_iff_getElem?.2 hg, rfl⟩
    · rw [List.pairwise_map]
      have : ∀ (l : List OP) (n : Nat), (l.zipIdx n).Pairwise (fun a b => a.2 < b.2) := by
        intro l
        induction l with
        | nil => intro n; exact List.Pairwise.nil
        | cons x r ih =>
          intro n
          rw [List.zipIdx_cons]
          refine List.pairwise_cons.2 ⟨fun y hy => ?_, ih _⟩
          have := List.le_snd_of_mem_zipIdx hy
          show n < y.2
          omega
      exact this l 0
  exact wp_region_any hm (draw_go hc hd hq ops.size _ R1 R2 s st1 G a _ (by simp) (fun i oper _ hl => by simp [Array.getD_eq_getD_getElem?, Array.getElem?_replicate] at hl; split at hl <;> cases hl) hTodo (by rw [← hR]; simp [hlen']) q1 q2 hw k4 k2 k1)
end
end Go.Fd

namespace Go.Fd

def chkC (P : Program) (nt : Nat) : C2 → Code → Bool
  | .fg _ _ c, d => chkC P nt c d
  | .no, _ => true
  | .sk, .skip => true
  | .sk, .label _ => true
  | .rg _ l, .region _ ops dr => chkOPs P nt ops l ops.toList && (!dr || (drawOK ops l && P.follows .mixedOrders))
  | .sq a b, .seq c d => chkC P nt a c && chkC P nt b d
  | .cd x a b, .cond y c d => chkX x y && chkC P nt a c && chkC P nt b d
  | .bl i c, .block j d => i == j && chkC P nt c d
  | .lp _ _ c, .loop d => chkC P nt c d
  | .ex i, .exit j => i == j
  | .rt, .ret => true
  | _, _ => false

theorem chkC_spec {P : Program} {nt : Nat} {c2 : C2} {c : Code} (hno : c2 ≠ .no) (h : chkC P nt c2 c = true) :
    (∃ ks js c3, c2 = .fg ks js c3 ∧ chkC P nt c3 c = true) ∨ (c2 = .sk ∧ c = .skip) ∨ (∃ l, c2 = .sk ∧ c = .label l) ∨
    (∃ n l id ops dr, c2 = .rg n l ∧ c = .region id ops dr ∧ chkOPs P nt ops l ops.toList = true ∧ (dr = true → drawOK ops l = true ∧ P.follows .mixedOrders = true)) ∨
    (∃ a b x y, c2 = .sq a b ∧ c = .seq x y ∧ chkC P nt a x = true ∧ chkC P nt b y = true) ∨
    (∃ u a b v x y, c2 = .cd u a b ∧ c = .cond v x y ∧ chkX u v = true ∧ chkC P nt a x = true ∧ chkC P nt b y = true) ∨
    (∃ i a x, c2 = .bl i a ∧ c = .block i x ∧ chkC P nt a x = true) ∨ (∃ ks js a x, c2 = .lp ks js a ∧ c = .loop x ∧ chkC P nt a x = true) ∨
    (∃ i, c2 = .ex i ∧ c = .exit i) ∨ (c2 = .rt ∧ c = .ret) := by
  cases c2 with
  | no => exact absurd rfl hno
  | fg ks js c3 => exact .inl ⟨ks, js, c3, rfl, by simpa only [chkC] using h⟩
  | sk =>
    cases c <;> simp only [chkC] at h <;> try contradiction
    · exact .inr (.inl ⟨rfl, rfl⟩)
    · exact .inr (.inr (.inl ⟨_, rfl, rfl⟩))
  | rg n l =>
    cases c <;> simp only [chkC] at h <;> try contradiction
    rename_i id ops dr
    simp only [Bool.and_eq_true, Bool.or_eq_true, Bool.not_eq_true'] at h
    exact .inr (.inr (.inr (.inl ⟨n, l, id, ops, dr, rfl, rfl, h.1, fun hd => h.2.resolve_left (by simp [hd])⟩)))
  | sq a b =>
    cases c <;> simp only [chkC] at h <;> try contradiction
    simp only [Bool.and_eq_true] at h
    exact .inr (.inr (.inr (.inr (.inl ⟨a, b, _, _, rfl, rfl, h.1, h.2⟩))))
  | cd u a b =>
    cases c <;> simp only [chkC] at h <;> try contradiction
    simp only [Bool.and_eq_true] at h
    exact .inr (.inr (.inr (.inr (.inr (.inl ⟨u, a, b, _, _, _, rfl, rfl, h.1.1, h.1.2, h.2⟩)))))
  | bl i a =>
    cases c <;> simp only [chkC] at h <;> try contradiction
    simp only [Bool.and_eq_true, beq_iff_eq] at h
    obtain ⟨rfl, h⟩ := h
    exact .inr (.inr (.inr (.inr (.inr (.inr (.inl ⟨i, a, _, rfl, rfl, h⟩))))))
  | lp ks js a =>
    cases c <;> simp only [chkC] at h <;> try contradiction
    exact .inr (.inr (.inr (.inr (.inr (.inr (.inr (.inl ⟨ks, js, a, _, rfl, rfl, h⟩)))))))
  | ex i =>
    cases c <;> simp only [chkC] at h <;> try contradiction
    simp only [beq_iff_eq] at h
    subst h
    exact .inr (.inr (.inr (.inr (.inr (.inr (.inr (.inr (.inl ⟨i, rfl, rfl⟩))))))))
  | rt =>
    cases c <;> simp only [chkC] at h <;> try contradiction
    exact .inr (.inr (.inr (.inr (.inr (.inr (.inr (.inr (.inr ⟨rfl, rfl⟩))))))))

section
variable {P : Program} {F : Fr}

theorem code_ok : ∀ (c2 : C2) (c : Code) (Q2 : Ex → St → Prop) (Q : Exit → Act → World → Prop) (st : St) (G : Gh) (a : Act) (w : World), chkC P F.nt c2 c = true → wp (Sem P) c2 st Q2 → Sim F G st a w →
    (∀ ex st' G' a' w', Q2 ex st' → Sim F G' st' a' w' → Q (exOf ex) a' w') → c.wp P Q a w := by
  intro c2
  induction c2 with
  | no =>
    intro c Q2 Q st G a w hc he h hq
    exact False.elim he
  | sk =>
    intro c Q2 Q st G a w hc he h hq
    rcases chkC_spec (fun e => by cases e) hc with ⟨_, _, _, g, _⟩ | ⟨_, rfl⟩ | ⟨l, _, rfl⟩ | ⟨_, _, _, _, _, g, _⟩ | ⟨_, _, _, _, g, _⟩ | ⟨_, _, _, _, _, _, g, _⟩ | ⟨_, _, _, g, _⟩ | ⟨_, _, _, _, g, _⟩ | ⟨_, g, _⟩ | ⟨g, _⟩ <;> try (cases g)
    · exact wp_skip (hq .nrm st G a w he h)
    · exact wp_label (hq .nrm st G a w he h)
  | rg n l =>
    intro c Q2 Q st G a w hc he h hq
    rcases chkC_spec (fun e => by cases e) hc with ⟨_, _, _, g, _⟩ | ⟨g, _⟩ | ⟨_, g, _⟩ | ⟨_, _, id, ops, dr, g, rfl, h1, h2⟩ | ⟨_, _, _, _, g, _⟩ | ⟨_, _, _, _, _, _, g, _⟩ | ⟨_, _, _, g, _⟩ | ⟨_, _, _, _, g, _⟩ | ⟨_, g, _⟩ | ⟨g, _⟩ <;> try (cases g)
    cases dr with
    | false =>
      refine wp_region ?_
      have := seq_ok (Q := Q) l ops.toList 0 st G a w h h1 rfl he (fun st' G' a' w' hk hs => hq .nrm st' G' a' w' hk hs)
      rw [List.range_eq_range']
      simpa using this
    | true => exact draw_ok (h2 rfl).2 h1 (h2 rfl).1 h he (fun st' G' a' w' hk hs => hq .nrm st' G' a' w' hk hs)
  | sq a2 b2 iha ihb =>
    intro c Q2 Q st G a w hc he h hq
    rcases chkC_spec (fun e => by cases e) hc with ⟨_, _, _, g, _⟩ | ⟨g, _⟩ | ⟨_, g, _⟩ | ⟨_, _, _, _, _, g, _⟩ | ⟨_, _, x, y, g, rfl, h1, h2⟩ | ⟨_, _, _, _, _, _, g, _⟩ | ⟨_, _, _, g, _⟩ | ⟨_, _, _, _, g, _⟩ | ⟨_, g, _⟩ | ⟨g, _⟩ <;> try (cases g)
    refine wp_seq (iha x _ _ st G a w h1 he h (fun ex st' G' a' w' hk hs => ?_))
    cases ex with
    | nrm => exact ihb y Q2 Q st' G' a' w' h2 hk hs hq
    | ext i => exact hq _ st' G' a' w' hk hs
    | ret => exact hq _ st' G' a' w' hk hs
  | cd u a2 b2 iha ihb =>
    intro c Q2 Q st G a w hc he h hq
    rcases chkC_spec (fun e => by cases e) hc with ⟨_, _, _, g, _⟩ | ⟨g, _⟩ | ⟨_, g, _⟩ | ⟨_, _, _, _, _, g, _⟩ | ⟨_, _, _, _, g, _⟩ | ⟨_, _, _, v, x, y, g, rfl, h0, h1, h2⟩ | ⟨_, _, _, g, _⟩ | ⟨_, _, _, _, g, _⟩ | ⟨_, g, _⟩ | ⟨g, _⟩ <;> try (cases g)
    simp only [wp] at he
    split at he <;> try contradiction
    rename_i t hu
    have hv := h.x h0
    rw [hu] at hv
    have hv := hv.val.1
    exact wp_cond_split hv (fun ht => iha x Q2 Q st G a w h1 (he.1 ht) h hq) (fun ht => ihb y Q2 Q st G a w h2 (he.2 ht) h hq)
  | bl i a2 iha =>
    intro c Q2 Q st G a w hc he h hq
    rcases chkC_spec (fun e => by cases e) hc with ⟨_, _, _, g, _⟩ | ⟨g, _⟩ | ⟨_, g, _⟩ | ⟨_, _, _, _, _, g, _⟩ | ⟨_, _, _, _, g, _⟩ | ⟨_, _, _, _, _, _, g, _⟩ | ⟨_, _, x, g, rfl, h1⟩ | ⟨_, _, _, _, g, _⟩ | ⟨_, g, _⟩ | ⟨g, _⟩ <;> try (cases g)
    refine wp_block (iha x _ _ st G a w h1 he h (fun ex st' G' a' w' hk hs => ?_))
    cases ex with
    | nrm => exact hq _ st' G' a' w' hk hs
    | ext j =>
      dsimp only at hk
      show Exit.inBlock i Q (.exit j) a' w'
      simp only [Exit.inBlock]
      by_cases hj : j = i
      · rw [if_pos hj] at hk ⊢; exact hq _ st' G' a' w' hk hs
      · rw [if_neg hj] at hk ⊢; exact hq _ st' G' a' w' hk hs
    | ret => exact hq _ st' G' a' w' hk hs
  | lp ks js a2 iha =>
    intro c Q2 Q st G a w hc he h hq
    rcases chkC_spec (fun e => by cases e) hc with ⟨_, _, _, g, _⟩ | ⟨g, _⟩ | ⟨_, g, _⟩ | ⟨_, _, _, _, _, g, _⟩ | ⟨_, _, _, _, g, _⟩ | ⟨_, _, _, _, _, _, g, _⟩ | ⟨_, _, _, g, _⟩ | ⟨_, _, _, x, g, rfl, h1⟩ | ⟨_, g, _⟩ | ⟨g, _⟩ <;> try (cases g)
    obtain ⟨I, ⟨hcl, n0, hn0⟩, hround⟩ := he
    refine wp_loop_ghost (fun n a w => ∃ s G, I n s ∧ Sim F G s a w) n0 ⟨_, G, hn0, h.fgt hcl⟩ (fun n a w ⟨s, G, hI, hs⟩ => ?_)
    refine iha x _ _ s G a w h1 (hround n s hI) hs (fun ex st' G' a' w' hk hs' => ?_)
    cases ex with
    | nrm =>
      obtain ⟨hc', m, hm, hI'⟩ := hk
      exact ⟨m, hm, _, G', hI', hs'.fgt hc'⟩
    | ext j => exact hq _ st' G' a' w' hk hs'
    | ret => exact hq _ st' G' a' w' hk hs'
  | fg ks js a2 iha =>
    intro c Q2 Q st G a w hc he h hq
    rcases chkC_spec (fun e => by cases e) hc with ⟨_, _, _, g, h1⟩ | ⟨g, _⟩ | ⟨_, g, _⟩ | ⟨_, _, _, _, _, g, _⟩ | ⟨_, _, _, _, g, _⟩ | ⟨_, _, _, _, _, _, g, _⟩ | ⟨_, _, _, g, _⟩ | ⟨_, _, _, _, g, _⟩ | ⟨_, g, _⟩ | ⟨g, _⟩ <;> try (cases g)
    exact iha c Q2 Q _ G a w h1 he.2 (h.fgt he.1) hq
  | ex i =>
    intro c Q2 Q st G a w hc he h hq
    rcases chkC_spec (fun e => by cases e) hc with ⟨_, _, _, g, _⟩ | ⟨g, _⟩ | ⟨_, g, _⟩ | ⟨_, _, _, _, _, g, _⟩ | ⟨_, _, _, _, g, _⟩ | ⟨_, _, _, _, _, _, g, _⟩ | ⟨_, _, _, g, _⟩ | ⟨_, _, _, _, g, _⟩ | ⟨_, g, rfl⟩ | ⟨g, _⟩ <;> try (cases g)
    exact wp_exit (hq (.ext i) st G a w he h)
  | rt =>
    intro c Q2 Q st G a w hc he h hq
    rcases chkC_spec (fun e => by cases e) hc with ⟨_, _, _, g, _⟩ | ⟨g, _⟩ | ⟨_, g, _⟩ | ⟨_, _, _, _, _, g, _⟩ | ⟨_, _, _, _, g, _⟩ | ⟨_, _, _, _, _, _, g, _⟩ | ⟨_, _, _, g, _⟩ | ⟨_, _, _, _, g, _⟩ | ⟨_, g, _⟩ | ⟨_, rfl⟩ <;> try (cases g)
    exact wp_ret (hq .ret st G a w he h)
end
end Go.Fd

namespace Go.Fd

def OEm (st0 : St) : Option Oid → Ob → Prop
  | some id, ob => ∃ k es u hw ver, st0.sto id = some (.ar k es u hw ver) ∧ ob = .ar k es u es.length 0
  | none, ob => ∃ k, ob = .ar k [] true 0 0
def OE (st0 : St) : List (Option Oid) → List Ob → Prop
  | [], obs => obs = []
  | e :: r, obs => ∃ ob s, obs = ob :: s ∧ OEm st0 e ob ∧ OE st0 r s
theorem OE_length {st0 : St} : ∀ {E : List (Option Oid)} {obs : List Ob}, OE st0 E obs → obs.length = E.length
  | [], _, h => by rw [show _ = [] from h]; rfl
  | e :: r, _, ⟨ob, s, h1, _, h3⟩ => by rw [h1]; simp [OE_length h3]
theorem OE_append {st0 : St} : ∀ {E E2 : List (Option Oid)} {obs obs2 : List Ob}, OE st0 E obs → OE st0 E2 obs2 → OE st0 (E ++ E2) (obs ++ obs2)
  | [], _, _, _, h, h2 => by rw [show _ = [] from h]; exact h2
  | e :: r, _, _, _, ⟨ob, s, h1, h2, h3⟩, h4 => by rw [h1]; exact ⟨ob, _, rfl, h2, OE_append h3 h4⟩
theorem OE_get {st0 : St} : ∀ {E : List (Option Oid)} {obs : List Ob}, OE st0 E obs → ∀ (j : Nat) (e : Option Oid), E[j]? = some e → ∃ ob, obs[j]? = some ob ∧ OEm st0 e ob
  | [], _, _, j, e, h => by simp at h
  | e0 :: r, _, ⟨ob, s, h1, h2, h3⟩, j, e, h => by
    subst h1
    cases j with
    | zero => simp at h; subst h; exact ⟨ob, rfl, h2⟩
    | succ j => exact OE_get h3 j e (by simpa using h)

structure XS (st0 st : St) (T : Oid → Prop) (E : List (Option Oid)) : Prop where
  kl : Kl (fun i => T i ∨ some i ∈ E) st0 st
  nd : ∀ (a b : Nat) (id : Oid), E[a]? = some (some id) → E[b]? = some (some id) → a = b
  dj : ∀ id, some id ∈ E → ¬ T id

structure FinS (G : Gh) (st0 : St) (w : World) (T : Oid → Prop) (E : List (Option Oid)) (G' : Gh) (S' : Sto) : Prop where
  old : ∀ i ob, i.1 ≠ st0.lvl → st0.sto i = some ob → S' i = some ob ∧ G' i = G i
  av : ∀ b, b < w.heap.size → (∀ id ob, st0.sto id = some ob → own1 G id ob b → T id) → Av G' S' w b
  ex : ∀ (j : Nat) (id : Oid), E[j]? = some (some id) → G' (st0.lvl, j) = G id ∧ ∃ k es u hw ver, st0.sto id = some (.ar k es u hw ver) ∧ S' (st0.lvl, j) = some (.ar k es u es.length 0)
  nil : ∀ j : Nat, E[j]? = some none → G' (st0.lvl, j) = (fun _ => none) ∧ ∃ k, S' (st0.lvl, j) = some (.ar k [] true 0 0)

def Good (G : Gh) (st0 : St) (w : World) (T : Oid → Prop) (E : List (Option Oid)) (j0 : Nat) (y : IV) (v : Value) : Prop :=
  ∀ (T2 : Oid → Prop) (E2 : List (Option Oid)) (G' : Gh) (S' : Sto), (∀ i, T i → T2 i) → (∀ (j : Nat) (e : Option Oid), E[j]? = some e → E2[j]? = some e) → FinS G st0 w T2 E2 G' S' → VR G' S' w (impv true st0.lvl 0 j0 y).1 v
def Goods (G : Gh) (st0 : St) (w : World) (T : Oid → Prop) (E : List (Option Oid)) (j0 : Nat) (y : List IV) (v : List Value) : Prop :=
  ∀ (T2 : Oid → Prop) (E2 : List (Option Oid)) (G' : Gh) (S' : Sto), (∀ i, T i → T2 i) → (∀ (j : Nat) (e : Option Oid), E[j]? = some e → E2[j]? = some e) → FinS G st0 w T2 E2 G' S' → VRs G' S' w (impvs true st0.lvl 0 j0 y).1 v

section
variable {P : Program} {F : Fr} {G : Gh} {st0 st : St} {a : Act} {w : World} {T : Oid → Prop} {E : List (Option Oid)}

theorem XS.nil (st0 : St) : XS st0 st0 (fun _ => False) [] :=
  ⟨by
    have := Kl.refl st0
    rw [show (fun i => (fun _ => False) i ∨ some i ∈ ([] : List (Option Oid))) = fun _ => False from by funext i; simp]
    exact this, fun a b id h => by simp at h, fun id h => by cases h⟩

theorem XS.alive (x : XS st0 st T E) {id : Oid} {ob : Ob} (h : st.sto id = some ob) : ¬ T id ∧ some id ∉ E ∧ ∃ ob0, st0.sto id = some ob0 ∧ Wk (fun i => T i ∨ some i ∈ E) ob0 ob := by
  obtain ⟨h1, h2⟩ := x.kl.only id ob h
  exact ⟨fun h => h1 (.inl h), fun h => h1 (.inr h), h2⟩

theorem XS.melt (h0 : Sim F G st0 a w) (x : XS st0 st T E) {id : Oid} {ob : Ob} (hid : id.1 = st0.lvl) (hs : st.sto id = some ob) : XS st0 (kill id st) (fun i => T i ∨ i = id) E := by
  obtain ⟨a1, a2, ob0, a3, _⟩ := x.alive hs
  have k := x.kl.step (id := id) (fun i cells h => h0.ok.low i cells h) h0.outl hid (by rw [a3]; rfl)
  refine ⟨?_, x.nd, fun i hi => ?_⟩
  · rw [show (fun i => (T i ∨ i = id) ∨ some i ∈ E) = fun i => (T i ∨ some i ∈ E) ∨ i = id from by funext i; exact propext ⟨fun h => by rcases h with (h | h) | h <;> simp [h], fun h => by rcases h with (h | h) | h <;> simp [h]⟩]
    exact k
  · rintro (h | h)
    · exact x.dj i hi h
    · subst h; exact a2 hi

theorem XS.hand (h0 : Sim F G st0 a w) (x : XS st0 st T E) {id : Oid} {ob : Ob} (hid : id.1 = st0.lvl) (hs : st.sto id = some ob) : XS st0 (kill id st) T (E ++ [some id]) := by
  obtain ⟨a1, a2, ob0, a3, _⟩ := x.alive hs
  have k := x.kl.step (id := id) (fun i cells h => h0.ok.low i cells h) h0.outl hid (by rw [a3]; rfl)
  have hmem : ∀ (a : Nat) (i : Oid), (E ++ [some id])[a]? = some (some i) → E[a]? = some (some i) ∨ (i = id ∧ a = E.length) := fun a i h => by
    rw [List.getElem?_append] at h
    split at h
    · exact .inl h
    · rename_i hl
      have : a - E.length = 0 := by
        rcases Nat.eq_zero_or_pos (a - E.length) with h' | h'
        · exact h'
        · rw [List.getElem?_eq_none (by simp; omega)] at h; cases h
      rw [this] at h
      simp at h
      exact .inr ⟨h.symm, by omega⟩
  refine ⟨?_, fun a b i ha hb => ?_, fun i hi => ?_⟩
  · rw [show (fun i => T i ∨ some i ∈ E ++ [some id]) = fun i => (T i ∨ some i ∈ E) ∨ i = id from by funext i; simp [or_assoc]]
    exact k
  · rcases hmem a i ha with h1 | ⟨rfl, h1⟩ <;> rcases hmem b i hb with h2 | ⟨h3, h2⟩
    · exact x.nd a b i h1 h2
    · subst h3; exact absurd (List.mem_of_getElem? h1) a2
    · exact absurd (List.mem_of_getElem? h2) a2
    · omega
  · rcases List.mem_append.1 hi with h | h
    · exact x.dj i h
    · simp at h; subst h; exact a1

theorem XS.hnil (x : XS st0 st T E) : XS st0 st T (E ++ [none]) := by
  refine ⟨?_, fun a b i ha hb => ?_, fun i hi => x.dj i (by simpa using hi)⟩
  · rw [show (fun i => T i ∨ some i ∈ E ++ [none]) = fun i => T i ∨ some i ∈ E from by funext i; simp]
    exact x.kl
  · have key : ∀ c : Nat, (E ++ [none])[c]? = some (some i) → E[c]? = some (some i) := fun c h => by
      rw [List.getElem?_append] at h
      split at h
      · exact h
      · have := List.mem_of_getElem? h
        simp at this
    exact x.nd a b i (key a ha) (key b hb)

theorem FinS.mono {G' : Gh} {S' : Sto} (f : FinS G st0 w T E G' S') (b : Nat) (h : Av G st0.sto w b) : Av G' S' w b :=
  f.av b h.1 fun id ob hs ho => absurd ho (h.2 id ob hs)
theorem FinS.ids {G' : Gh} {S' : Sto} (f : FinS G st0 w T E G' S') (i : Oid) (ob : Ob) (hi : i.1 ≠ st0.lvl) (hs : st0.sto i = some ob) : ∃ ob', S' i = some ob' ∧ idR G G' i ob ob' := by
  obtain ⟨h1, h2⟩ := f.old i ob hi hs
  exact ⟨ob, h1, idR_refl h2 ob⟩
theorem FinS.vr {G' : Gh} {S' : Sto} (f : FinS G st0 w T E G' S') (x : IV) (v : Value) (hm : men (fun i => i.1 ≠ st0.lvl) x) (h : VR G st0.sto w x v) : VR G' S' w x v :=
  VR_step (P := fun i => i.1 ≠ st0.lvl) f.mono (fun _ _ => rfl) f.ids x v hm h
theorem FinS.vrs {G' : Gh} {S' : Sto} (f : FinS G st0 w T E G' S') (x : List IV) (v : List Value) (hm : mens (fun i => i.1 ≠ st0.lvl) x) (h : VRs G st0.sto w x v) : VRs G' S' w x v :=
  VRs_step (P := fun i => i.1 ≠ st0.lvl) f.mono (fun _ _ => rfl) f.ids x v hm h

def CellOk (F : Fr) (G : Gh) (st0 : St) (w : World) (T : Oid → Prop) (E : List (Option Oid)) (v : Value) (K : IV → St → Prop) : Prop :=
  ∃ y st' T' e obs, K y st' ∧ XS st0 st' T' (E ++ e) ∧ (∀ i, T i → T' i) ∧ low F.lvl y ∧ OE st0 e obs ∧ (impv true st0.lvl 0 E.length y).2 = obs ∧ Good G st0 w T' (E ++ e) E.length y v

theorem CellOk.plain {v : Value} {K : IV → St → Prop} (hl : F.lvl = st0.lvl) (x : XS st0 st T E) {y : IV} (hk : K y st) (h1 : (impv true st0.lvl 0 E.length y) = (y, [])) (hm : low st0.lvl y) (hv : VR G st0.sto w y v) : CellOk F G st0 w T E v K := by
  refine ⟨y, st, T, [], [], hk, by simpa using x, fun _ h => h, by rw [hl]; exact hm, rfl, by rw [h1], fun T2 E2 G' S' _ _ f => ?_⟩
  rw [h1]
  exact f.vr y v (men_mono (fun i hi => by have hi : i.1 < st0.lvl := hi; exact Nat.ne_of_lt hi) y hm) hv

theorem expc_ok (h0 : Sim F G st0 a w) (xs : XS st0 st T E) {k : Nat} {x : IV} {v : Value} {K : IV → St → Prop} (hv : VR G st0.sto w x v) (he : expc k x st K) : CellOk F G st0 w T E v K := by
  have hll : st.lvl = st0.lvl := xs.kl.lvl
  have hout : ∀ id, (st0.sto id).isSome = true → id.1 ≠ st0.lvl → id.1 < st0.lvl := fun id hs hn => by
    obtain ⟨ob, hob⟩ := Option.isSome_iff_exists.1 hs
    rw [sto_out hn] at hob
    exact h0.outl id ob hob
  have plain := fun (y : IV) (hk : K y st) (h1 : (impv true st0.lvl 0 E.length y) = (y, [])) (hm : low st0.lvl y) (hv : VR G st0.sto w y v) => CellOk.plain (F := F) h0.lvl.symm xs hk h1 hm hv
  unfold expc at he
  split at he
  · rename_i id p off len cap s
    split at he
    · rename_i hid
      rw [hll] at hid
      split at he <;> try contradiction
      rename_i k' es u hw ver hs
      obtain ⟨rfl, rfl, he⟩ := he
      obtain ⟨_, _, ob0, hs0, hwk⟩ := xs.alive hs
      cases hwk
      split at he
      · obtain ⟨hl, hk⟩ := he
        refine ⟨_, _, (fun i => T i ∨ i = id), [], [], hk, by simpa using xs.melt h0 hid hs, fun i h => .inl h, trivial, rfl, rfl, fun T2 E2 G' S' hT hE f => ?_⟩
        have hr := hd_reads (A := Av G' S' w) h0.ok (fun _ b hb => f.mono b hb) hs0 (fun b ho => f.av b (own_lt (h0.ok.obs _ _ hs0) ho) fun id' ob' hs' ho' => by
          have := h0.ok.dis _ _ _ _ b hs' hs0 ho' ho
          exact hT _ (.inr this)) hv rfl rfl hl
        exact hr.1
      · obtain ⟨rfl, rfl, rfl, rfl, hk⟩ := he
        refine ⟨_, _, T, [some id], _, hk, xs.hand h0 hid hs, fun i h => h, trivial, ⟨_, [], rfl, ⟨_, _, _, _, _, hs0, rfl⟩, rfl⟩, rfl, fun T2 E2 G' S' hT hE f => ?_⟩
        obtain ⟨hG, k2, es2, u2, hw2, ver2, hs2, hS⟩ := f.ex E.length id (hE _ _ (by simp))
        rw [hs0] at hs2; cases hs2
        obtain ⟨h1, k3, es3, u3, hw3, ver3, hs3, _, h3⟩ := hv
        rw [hs0] at hs3; cases hs3
        simp only [impv, impc, if_true, Nat.zero_add]
        refine ⟨h1, _, _, _, _, _, hS, Nat.le_refl _, fun _ => ?_⟩
        rw [hG]
        exact h3 rfl
    · rename_i hid
      rw [hll] at hid
      have hsome : (st0.sto id).isSome = true := by
        obtain ⟨_, k3, es3, u3, hw3, ver3, hs3, _⟩ := hv
        rw [hs3]; rfl
      exact plain _ he rfl (hout id hsome hid) hv
  · rename_i es
    split at he
    · rename_i k1
      refine ⟨_, _, T, [none], _, he, xs.hnil, fun i h => h, trivial, ⟨_, [], rfl, ⟨_, rfl⟩, rfl⟩, rfl, fun T2 E2 G' S' hT hE f => ?_⟩
      obtain ⟨hG, k2, hS⟩ := f.nil E.length (hE _ _ (by simp))
      obtain ⟨⟨ad, rfl⟩, _⟩ := hv
      simp only [impv, impc, if_true, Nat.zero_add, List.length_nil]
      refine ⟨⟨ad, 0, rfl, Nat.le_refl _⟩, _, _, _, _, _, hS, Nat.le_refl _, fun _ => ?_⟩
      refine ⟨[], k2, ad, 0, rfl, fun _ => rfl, fun e he => (by simp at he), rfl, Nat.le_refl _, fun m hm => (by cases hm), fun _ _ => ?_, .inl rfl⟩
      rw [hG]; rfl
    · exact plain _ he rfl trivial hv.2
  · rename_i id o
    obtain ⟨h1, h2⟩ := he
    rw [hll] at h1
    have hsome : (st0.sto id).isSome = true := by
      obtain ⟨cells, b, c, hs, _⟩ := hv
      rw [hs]; rfl
    exact plain _ h2 rfl (hout id hsome h1) hv
  · exact he.elim
  · exact he.elim
  · exact he.elim
  · exact he.elim
  · exact he.elim
  · exact he.elim
  · rename_i f c
    obtain ⟨h1, h2⟩ := he
    rw [hll] at h1
    exact plain _ h2 rfl h1 hv
  · cases x with
    | un => exact plain _ he rfl trivial hv
    | tr t => exact plain _ he rfl trivial hv
    | er => exact plain _ he rfl trivial hv
    | hd id p off len cap s => exact (‹∀ (id : Oid) (p : Pth) (off len : Nat) (cap : Option Nat) (s : Nat), IV.hd _ _ _ _ _ _ = IV.hd id p off len cap s → False› id p off len cap s rfl).elim
    | cs es => exact (‹∀ (es : Row), IV.cs _ = IV.cs es → False› es rfl).elim
    | sv id => exact (‹∀ (id : Oid), IV.sv _ = IV.sv id → False› id rfl).elim
    | ab id o => exact (‹∀ (id : Oid) (o : Nat), IV.ab _ _ = IV.ab id o → False› id o rfl).elim
    | ae id p i f s => exact (‹∀ (id : Oid) (p : Pth) (i f s : Nat), IV.ae _ _ _ _ _ = IV.ae id p i f s → False› id p i f s rfl).elim
    | ta c => exact (‹∀ (c : List Tr), IV.ta _ = IV.ta c → False› c rfl).elim
    | ag l => exact (‹∀ (l : List IV), IV.ag _ = IV.ag l → False› l rfl).elim
    | tu l => exact (‹∀ (l : List IV), IV.tu _ = IV.tu l → False› l rfl).elim
    | ow k es u => exact (‹∀ (k : Nat) (es : Row) (u : Bool), IV.ow _ _ _ = IV.ow k es u → False› k es u rfl).elim
    | fn f c => exact (‹∀ (f : FuncId) (c : List IV), IV.fn _ _ = IV.fn f c → False› f c rfl).elim
end
end Go.Fd

namespace Go.Fd

def CellsOk (F : Fr) (G : Gh) (st0 : St) (w : World) (T : Oid → Prop) (E : List (Option Oid)) (vs : List Value) (K : List IV → St → Prop) : Prop :=
  ∃ ys st' T' e obs, K ys st' ∧ XS st0 st' T' (E ++ e) ∧ (∀ i, T i → T' i) ∧ lows F.lvl ys ∧ OE st0 e obs ∧ (impvs true st0.lvl 0 E.length ys).2 = obs ∧ Goods G st0 w T' (E ++ e) E.length ys vs

section
variable {P : Program} {F : Fr} {G : Gh} {st0 st : St} {a : Act} {w : World} {T : Oid → Prop} {E : List (Option Oid)}

theorem CellsOk.nil {K : List IV → St → Prop} (x : XS st0 st T E) (hk : K [] st) : CellsOk F G st0 w T E [] K :=
  ⟨[], st, T, [], [], hk, by simpa using x, fun _ h => h, trivial, rfl, rfl, fun _ _ _ _ _ _ _ => rfl⟩

theorem CellsOk.cons {v : Value} {vs : List Value} {K : IV → St → Prop} {K2 : List IV → St → Prop} (h : CellOk F G st0 w T E v K) (hr : ∀ y st' T' E', K y st' → XS st0 st' T' E' → CellsOk F G st0 w T' E' vs (fun ys st'' => K2 (y :: ys) st'')) :
    CellsOk F G st0 w T E (v :: vs) K2 := by
  obtain ⟨y, st1, T1, e1, obs1, hk, hx, ht, hlow, hoe, himp, hg⟩ := h
  obtain ⟨ys, st2, T2, e2, obs2, hk2, hx2, ht2, hlow2, hoe2, himp2, hg2⟩ := hr y st1 T1 (E ++ e1) hk hx
  have hlen : (E ++ e1).length = E.length + (impv true st0.lvl 0 E.length y).2.length := by rw [himp, OE_length hoe]; simp
  rw [hlen] at himp2 hg2
  refine ⟨y :: ys, st2, T2, e1 ++ e2, obs1 ++ obs2, hk2, by rw [← List.append_assoc]; exact hx2, fun i h => ht2 i (ht i h), ⟨hlow, hlow2⟩, OE_append hoe hoe2, ?_, fun T3 E3 G' S' hT hE f => ?_⟩
  · simp only [impvs]
    rw [himp2, himp]
  · simp only [impvs]
    rw [← List.append_assoc] at hE
    refine ⟨v, vs, rfl, hg T3 E3 G' S' (fun i h => hT i (ht2 i h)) (fun j e he => hE j e ?_) f, hg2 T3 E3 G' S' hT hE f⟩
    have := (List.getElem?_eq_some_iff.1 he).1
    rw [List.getElem?_append_left this]; exact he

theorem expcs_ok (h0 : Sim F G st0 a w) : ∀ (l : List IV) (ks : List Nat) (vs : List Value) (st : St) (T : Oid → Prop) (E : List (Option Oid)) (K : List IV → St → Prop), XS st0 st T E → VRs G st0.sto w l vs → expcs ks l st K → CellsOk F G st0 w T E vs K
  | [], ks, vs, st, T, E, K, hx, hv, he => by
    rw [show vs = [] from hv]
    simp only [expcs] at he
    exact .nil hx he
  | x :: r, ks, vs, st, T, E, K, hx, hv, he => by
    obtain ⟨v, vr, rfl, h1, h2⟩ := hv
    simp only [expcs] at he
    exact .cons (expc_ok h0 hx h1 he) fun y st' T' E' hk hx' => expcs_ok h0 r ks.tail vr st' T' E' _ hx' h2 hk

theorem expv_ok (h0 : Sim F G st0 a w) (xs : XS st0 st T E) {ks : List Nat} {x : IV} {v : Value} {K : IV → St → Prop} (hv : VR G st0.sto w x v) (he : expv ks x st K) : CellOk F G st0 w T E v K := by
  unfold expv at he
  split at he
  · rename_i l
    obtain ⟨vs, rfl, hv⟩ := hv
    obtain ⟨ys, st2, T2, e2, obs2, hk2, hx2, ht2, hlow2, hoe2, himp2, hg2⟩ := expcs_ok h0 l ks vs st T E _ xs hv he
    refine ⟨.ag ys, st2, T2, e2, obs2, hk2, hx2, ht2, by simpa only [men] using hlow2, hoe2, by simpa only [impv] using himp2, fun T3 E3 G' S' hT hE f => ?_⟩
    simp only [impv]
    exact ⟨vs, rfl, hg2 T3 E3 G' S' hT hE f⟩
  · exact expc_ok h0 xs hv he

def readR (a : Act) : ResultVar → _root_.Go.Sem Value
  | .tmp t => pure (a.tmps.getD t undef)
  | .cell b t => do loadVar t (← asAddr (a.tmps.getD b undef))

theorem exp1_ok (h0 : Sim F G st0 a w) (xs : XS st0 st T E) {r : RS} {rv : ResultVar} {K : IV → St → Prop} (hc : chkRes P [r] [rv] = true) (he : exp1 r st K) : ∃ v, (readR a rv).run P w = .ok v w ∧ CellOk F G st0 w T E v K := by
  have henv : ∀ n, VR G st0.sto w (lk n st.env) (a.tmps.getD n undef) := fun n => xs.kl.vr n G st0.sto w _ (h0.env n)
  cases r with
  | t n ks =>
    cases rv with
    | cell => simp only [chkRes] at hc; cases hc
    | tmp m =>
      simp only [chkRes, Bool.and_eq_true, beq_iff_eq] at hc
      obtain ⟨rfl, _⟩ := hc
      exact ⟨_, rfl, expv_ok h0 xs (henv n) he⟩
  | c n m ks =>
    cases rv with
    | tmp => simp only [chkRes] at hc; cases hc
    | cell b t =>
      simp only [chkRes, Bool.and_eq_true, beq_iff_eq] at hc
      obtain ⟨⟨rfl, hsh⟩, _⟩ := hc
      simp only [exp1] at he
      split at he <;> try contradiction
      rename_i id off hl
      have hv := henv n
      rw [hl] at hv
      split at he <;> try contradiction
      rename_i cells hs
      obtain ⟨_, _, ob0, hs0, hwk⟩ := xs.alive hs
      cases hwk with
      | bx cells0 _ _ hwv _ =>
        obtain ⟨cells1, b1, c1, hs1, hg1, hv⟩ := hv
        obtain ⟨b, c, vs, ty, hg, hh, hvs⟩ := h0.ok.obs id _ hs0
        rw [hg] at hg1; cases hg1
        have hvs := hwv _ _ _ _ hvs
        have hcell : ∀ j u, vs.toList[j]? = some u → w.cell? ⟨b1, j, none⟩ = some u := fun j u hu => by
          rw [cell_of_row w b1 j vs ty (0, 0) hh]
          simpa using hu
        have hrun : ∀ u, (loadVar t ⟨b1, off, none⟩).run P w = .ok u w → (readR a (.cell n t)).run P w = .ok u w := fun u hu => by
          simp only [readR, hv, asAddr, Sem.run_bind, Sem.run_pure, Result.andThen_ok, hu]
        cases m with
        | none =>
          obtain ⟨x, hx, _, he⟩ := he
          obtain ⟨u, hu, hxu⟩ := VRs_get hvs off x hx
          simp only [shapeT, beq_iff_eq] at hsh
          exact ⟨u, hrun u (run_loadVar_one hsh (hcell off u hu)), expv_ok h0 xs hxu he⟩
        | some m =>
          obtain ⟨hle, he⟩ := he
          simp only [shapeT, Bool.and_eq_true, beq_iff_eq] at hsh
          have hlen := VRs_length hvs
          have hl2 : ((vs.toList.drop off).take m).length = m := by rw [List.length_take, List.length_drop, hlen]; omega
          refine ⟨.agg ((vs.toList.drop off).take m).toArray, hrun _ (run_loadVar_agg hsh.1 (by rw [hl2]; exact hsh.2) (fun j u hu => ?_)), expv_ok (x := .ag ((cells.drop off).take m)) h0 xs ⟨_, rfl, VRs_take (VRs_drop hvs off) m⟩ he⟩
          rw [add_mk]
          refine hcell _ _ ?_
          rw [List.getElem?_take] at hu
          split at hu
          · simpa using hu
          · cases hu

theorem exps_ok (h0 : Sim F G st0 a w) : ∀ (rs : List RS) (rvs : List ResultVar) (st : St) (T : Oid → Prop) (E : List (Option Oid)) (K : List IV → St → Prop), XS st0 st T E → chkRes P rs rvs = true → exps rs st K →
    ∃ vs, (rvs.mapM (readR a)).run P w = .ok vs w ∧ CellsOk F G st0 w T E vs K
  | [], rvs, st, T, E, K, hx, hc, he => by
    cases rvs with
    | nil => exact ⟨[], rfl, .nil hx he⟩
    | cons => simp only [chkRes] at hc; cases hc
  | r :: rs, rvs, st, T, E, K, hx, hc, he => by
    cases rvs with
    | nil => simp only [chkRes] at hc; cases hc
    | cons rv rvs =>
      have hc1 : chkRes P [r] [rv] = true ∧ chkRes P rs rvs = true := by
        cases r <;> cases rv <;> simp_all [chkRes]
      simp only [exps] at he
      obtain ⟨v, hv, hk⟩ := exp1_ok h0 hx hc1.1 he
      -- the rest
      obtain ⟨y, st1, T1, e1, obs1, hk1, hx1, ht1, hlow1, hoe1, himp1, hg1⟩ := hk
      obtain ⟨vs, hvs, hk2⟩ := exps_ok h0 rs rvs st1 T1 (E ++ e1) _ hx1 hc1.2 hk1
      refine ⟨v :: vs, ?_, ?_⟩
      · rw [List.mapM_cons]
        simp only [Sem.run_bind, hv, Result.andThen_ok, hvs, Sem.run_pure]
      · refine CellsOk.cons (K := fun y' st' => y' = y ∧ st' = st1 ∧ ∀ T' E', XS st0 st' T' E' → CellsOk F G st0 w T' E' vs (fun ys st'' => K (y :: ys) st'')) ?_ (fun y' st' T' E' hk' hx' => ?_)
        · refine ⟨y, st1, T1, e1, obs1, ⟨rfl, rfl, fun T' E' hx' => ?_⟩, hx1, ht1, hlow1, hoe1, himp1, hg1⟩
          obtain ⟨vs', hvs', hk3⟩ := exps_ok h0 rs rvs st1 T' E' _ hx' hc1.2 hk1
          rw [hvs] at hvs'
          cases hvs'
          exact hk3
        · obtain ⟨rfl, rfl, hh⟩ := hk'
          exact hh T' E' hx'

theorem fin_fin (h0 : Sim F G st0 a w) (x : XS st0 st T E) {obs : List Ob} (oe : OE st0 E obs) {G' : Gh} {S' : Sto} (hG1 : ∀ i, i.1 ≠ st0.lvl → G' i = G i) (hG2 : ∀ (j : Nat) (id : Oid), E[j]? = some (some id) → G' (st0.lvl, j) = G id)
    (hG3 : ∀ j : Nat, E[j]? = some none → G' (st0.lvl, j) = fun _ => none) (hS1 : ∀ i, i.1 ≠ st0.lvl → S' i = st0.sto i) (hS2 : ∀ j : Nat, S' (st0.lvl, j) = obs[j]?) : FinS G st0 w T E G' S' ∧ SOk G' S' w ∧ ∀ (L n : Nat), L ≤ st0.lvl → Frm ⟨G, st0.sto, w, L, n⟩ G' S' w := by
  -- where an object of the end comes from
  have src : ∀ i ob, S' i = some ob → (i.1 ≠ st0.lvl ∧ st0.sto i = some ob) ∨ (∃ j id k es u hw ver, i = (st0.lvl, j) ∧ E[j]? = some (some id) ∧ st0.sto id = some (.ar k es u hw ver) ∧ ob = .ar k es u es.length 0) ∨
      (∃ j k, i = (st0.lvl, j) ∧ E[j]? = some none ∧ ob = .ar k [] true 0 0) := fun i ob hs => by
    by_cases hi : i.1 = st0.lvl
    · right
      obtain ⟨i1, j⟩ := i
      have hi : i1 = st0.lvl := hi
      subst hi
      rw [hS2] at hs
      have hj : j < E.length := by rw [← OE_length oe]; exact (List.getElem?_eq_some_iff.1 hs).1
      obtain ⟨e, he⟩ : ∃ e, E[j]? = some e := ⟨_, List.getElem?_eq_getElem hj⟩
      obtain ⟨ob', h1, h2⟩ := OE_get oe j e he
      rw [hs] at h1; cases h1
      cases e with
      | some id =>
        obtain ⟨k, es, u, hw, ver, h3, h4⟩ := h2
        exact .inl ⟨j, id, k, es, u, hw, ver, rfl, he, h3, h4⟩
      | none =>
        obtain ⟨k, h4⟩ := h2
        exact .inr ⟨j, k, rfl, he, h4⟩
    · exact .inl ⟨hi, by rw [← hS1 i hi]; exact hs⟩
  have hdead : ∀ i, T i ∨ some i ∈ E → i.1 = st0.lvl := x.kl.dead
  -- who owned its blocks
  have osrc : ∀ i ob b, S' i = some ob → own1 G' i ob b → ∃ i0 ob0, st0.sto i0 = some ob0 ∧ own1 G i0 ob0 b ∧ ¬ T i0 ∧ ((i.1 ≠ st0.lvl ∧ i0 = i) ∨ ∃ j, i = (st0.lvl, j) ∧ E[j]? = some (some i0)) := fun i ob b hs ho => by
    rcases src i ob hs with ⟨hi, h1⟩ | ⟨j, id, k, es, u, hw, ver, rfl, he, h3, rfl⟩ | ⟨j, k, rfl, he, rfl⟩
    · exact ⟨i, ob, h1, (own_ren (hG1 i hi)).1 ho, fun ht => hi (hdead i (.inl ht)), .inl ⟨hi, rfl⟩⟩
    · refine ⟨id, _, h3, ?_, x.dj id (List.mem_of_getElem? he), .inr ⟨j, rfl, he⟩⟩
      obtain ⟨p, c, h4, h5, h6⟩ := ho
      rw [hG2 j id he] at h6
      exact ⟨p, c, h4, h5, h6⟩
    · obtain ⟨p, c, h4, h5, h6⟩ := ho
      rw [hG3 j he] at h6
      cases h6
  have fs : FinS G st0 w T E G' S' := by
    refine ⟨fun i ob hi hs => ⟨by rw [hS1 i hi]; exact hs, hG1 i hi⟩, fun b hb hT => ⟨hb, fun i ob hs ho => ?_⟩, fun j id he => ⟨hG2 j id he, ?_⟩, fun j he => ⟨hG3 j he, ?_⟩⟩
    · obtain ⟨i0, ob0, h1, h2, h3, _⟩ := osrc i ob b hs ho
      exact h3 (hT i0 ob0 h1 h2)
    · obtain ⟨ob, h1, k, es, u, hw, ver, h2, rfl⟩ := OE_get oe j _ he
      exact ⟨k, es, u, hw, ver, h2, by rw [hS2]; exact h1⟩
    · obtain ⟨ob, h1, k, rfl⟩ := OE_get oe j _ he
      exact ⟨k, by rw [hS2]; exact h1⟩
  have hlows : ∀ i cells, i.1 ≠ st0.lvl → st0.sto i = some (.bx cells) → mens (fun j => j.1 ≠ st0.lvl) cells := fun i cells hi hs => by
    have h1 := h0.ok.low i cells hs
    rw [sto_out hi] at hs
    have h2 := h0.outl i _ hs
    refine mens_mono (fun j hj => ?_) cells h1
    have hj : j.1 < i.1 + 1 := hj
    omega
  refine ⟨fs, ⟨fun i ob hs => ?_, fun i ob i' ob' b hs hs' ho ho' => ?_, fun i cells hs => ?_⟩, fun L n hL => ⟨Nat.le_refl _, fun _ _ _ => rfl, fun i ob b hs ho => ?_, rfl, rfl, rfl, fun y v hy hv => ?_⟩⟩
  · rcases src i ob hs with ⟨hi, h1⟩ | ⟨j, id, k, es, u, hw, ver, rfl, he, h3, rfl⟩ | ⟨j, k, rfl, he, rfl⟩
    · exact OOk_keep (hG1 i hi) fs.mono (fun _ _ => rfl) (fun _ _ => rfl) (fun cells vs e hv => fs.vrs cells vs (hlows i cells hi (by rw [h1, e])) hv) (h0.ok.obs i ob h1)
    · obtain ⟨g1, g2, g3, g4, g5⟩ := h0.ok.obs id _ h3
      have hG := hG2 j id he
      refine ⟨Nat.le_refl _, g2, by rw [hG]; omega, fun p es' hp hg => rowR_ren hG fs.mono (g4 p es' hp hg), by rw [hG]; exact g5⟩
    · have hG := hG3 j he
      refine ⟨Nat.le_refl _, fun e he => (by cases he), Nat.zero_le _, fun p es' hp hg => ?_, fun p p' b c c' _ _ _ _ h => (by rw [hG] at h; cases h)⟩
      unfold rowR
      rw [hG]
      dsimp only
      cases p with
      | nil => simp only [getp, Option.some.injEq] at hg; exact hg.symm
      | cons q p => obtain ⟨a, b⟩ := q; simp [getp] at hg
  · obtain ⟨i0, ob0, h1, h2, _, h3⟩ := osrc i ob b hs ho
    obtain ⟨j0, ob1, g1, g2, _, g3⟩ := osrc i' ob' b hs' ho'
    have he := h0.ok.dis _ _ _ _ b h1 g1 h2 g2
    subst he
    rcases h3 with ⟨n1, rfl⟩ | ⟨a1, rfl, e1⟩ <;> rcases g3 with ⟨n2, e2⟩ | ⟨a2, rfl, e2⟩
    · exact e2
    · exact absurd (hdead _ (.inr (List.mem_of_getElem? e2))) n1
    · subst e2; exact absurd (hdead _ (.inr (List.mem_of_getElem? e1))) n2
    · rw [x.nd a1 a2 i0 e1 e2]
  · rcases src i _ hs with ⟨hi, h1⟩ | ⟨j, id, k, es, u, hw, ver, rfl, he, h3, h4⟩ | ⟨j, k, rfl, he, h4⟩
    · exact h0.ok.low i cells h1
    · cases h4
    · cases h4
  · obtain ⟨i0, ob0, h1, h2, _⟩ := osrc i ob b hs ho
    exact .inr ⟨i0, ob0, h1, h2⟩
  · refine fs.vr y v (men_mono (fun j hj => ?_) y hy) hv
    have hj : j.1 < L := hj
    omega

theorem impvs_length (imp : Bool) (l b : Nat) : ∀ (r : List IV) (j : Nat), (impvs imp l b j r).1.length = r.length
  | [], _ => rfl
  | x :: r, j => by simp only [impvs, List.length_cons, impvs_length imp l b r]

theorem fin_ok (h0 : Sim F G st0 a w) {fn : Func} {rs : List RS} {K : IV → Sto → Prop} (hc : chkRes P rs fn.results.toList = true) (he : fin rs st0 K) :
    ∃ v r S' G', (results fn a.tmps).run P w = .ok v w ∧ K r S' ∧ low F.lvl r ∧ (∀ id ob, S' id = some ob → id.1 < F.lvl) ∧ SOk G' (addS S' F.lvl 0 (impv true F.lvl 0 0 r).2) w ∧ VR G' (addS S' F.lvl 0 (impv true F.lvl 0 0 r).2) w (impv true F.lvl 0 0 r).1 v ∧
      Frm ⟨F.G, F.S, F.w, F.lvl, 0⟩ G' (addS S' F.lvl 0 (impv true F.lvl 0 0 r).2) w := by
  obtain ⟨vs, hrun, ys, st', T, e, obs, hk, hx, _, hlow, hoe, himp, hg⟩ := exps_ok h0 rs fn.results.toList st0 (fun _ => False) [] _ (XS.nil st0) hc he
  simp only [List.nil_append] at hx hg
  have hlv : F.lvl = st0.lvl := h0.lvl.symm
  have hout : st'.out = st0.out := hx.kl.out
  have hfresh : Fresh st0.out st0.lvl 0 obs.length := fun j _ => by
    cases h : st0.out (st0.lvl, 0 + j) with
    | none => rfl
    | some ob => have := h0.outl _ ob h; simp at this
  let G' : Gh := fun i => if i.1 = st0.lvl then (match e[i.2]? with | some (some id) => G id | _ => fun _ => none) else G i
  have hS1 : ∀ i, i.1 ≠ st0.lvl → addS st0.out st0.lvl 0 obs i = st0.sto i := fun i hi => by
    rw [sto_out hi]
    cases h : st0.out i with
    | some ob => exact addS_old obs _ _ _ hfresh i ob h
    | none =>
      cases h2 : addS st0.out st0.lvl 0 obs i with
      | none => rfl
      | some ob =>
        rcases addS_new obs _ _ _ i ob h2 with g | ⟨j, _, rfl, _⟩
        · rw [h] at g; cases g
        · exact absurd rfl hi
  have hS2 : ∀ j : Nat, addS st0.out st0.lvl 0 obs (st0.lvl, j) = obs[j]? := fun j => by
    cases h : obs[j]? with
    | some ob => have := addS_at obs st0.out st0.lvl 0 j ob h; rwa [Nat.zero_add] at this
    | none =>
      cases h2 : addS st0.out st0.lvl 0 obs (st0.lvl, j) with
      | none => rfl
      | some ob =>
        rcases addS_new obs _ _ _ _ ob h2 with g | ⟨j', _, g1, g2⟩
        · have := h0.outl _ ob g; simp at this
        · simp at g1; subst g1; rw [h] at g2; cases g2
  obtain ⟨fs, hok, hfr⟩ := fin_fin (G' := G') (S' := addS st0.out st0.lvl 0 obs) h0 hx hoe (fun i hi => by simp only [G']; rw [if_neg hi]) (fun j id hj => by simp only [G', if_true, hj]) (fun j hj => by simp only [G', if_true, hj]) hS1 hS2
  have hvr := hg T e G' _ (fun _ h => h) (fun _ _ h => h) fs
  have hfrm : Frm ⟨F.G, F.S, F.w, F.lvl, 0⟩ G' (addS st0.out st0.lvl 0 obs) w := by
    have h1 : Frm ⟨F.G, F.S, F.w, F.lvl, 0⟩ G st0.sto w := ⟨h0.fr.size, h0.fr.old, h0.fr.own, h0.fr.os, h0.fr.tape, h0.fr.output, h0.fr.stab⟩
    exact h1.trans (hfr F.lvl 0 (Nat.le_of_eq hlv)) (Nat.le_refl _)
  have hcl : ∀ id ob, st0.out id = some ob → id.1 < F.lvl := fun id ob hs => by rw [hlv]; exact h0.outl id ob hs
  have hres : ∀ v, (if h : vs.toArray.size = 1 then vs.toArray[0] else Value.tuple vs.toArray) = v → (results fn a.tmps).run P w = .ok v w := fun v hv => by
    have : (results fn a.tmps) = (do let vs ← fn.results.mapM (readR a); pure (if h : vs.size = 1 then vs[0] else .tuple vs)) := by
      unfold results
      congr 1
    rw [this, Array.mapM_eq_mapM_toList]
    simp only [Sem.run_bind, Sem.run_map, hrun, Result.andThen_ok, Sem.run_pure]
    rw [← hv]
  have hlen := VRs_length hvr
  rw [impvs_length] at hlen
  rw [hout] at hk
  rw [hlv] at hlow ⊢
  rw [hlv] at hfrm
  cases ys with
  | nil =>
    have hvs : vs = [] := List.eq_nil_of_length_eq_zero (by simpa using hlen)
    subst hvs
    have hobs : obs = [] := by rw [← himp]; rfl
    subst hobs
    exact ⟨.tuple #[], .tu [], st0.out, G', hres _ (by simp), hk, trivial, fun id ob h => hlv ▸ hcl id ob h, hok, ⟨[], rfl, rfl⟩, hfrm⟩
  | cons y r =>
    cases r with
    | nil =>
      obtain ⟨v, vr, rfl, h1, h2⟩ := hvr
      rw [show vr = [] from h2] at hres
      have hobs : (impv true st0.lvl 0 0 y).2 = obs := by
        rw [← himp]; simp [impvs]
      refine ⟨v, y, st0.out, G', hres v (by simp), hk, hlow.1, fun id ob h => hlv ▸ hcl id ob h, ?_, ?_, ?_⟩
      · rw [hobs]; exact hok
      · rw [hobs]; exact h1
      · rw [hobs]; exact hfrm
    | cons z r =>
      have hobs : (impv true st0.lvl 0 0 (.tu (y :: z :: r))).2 = obs := by
        rw [← himp]; simp only [impv]; rfl
      refine ⟨.tuple vs.toArray, .tu (y :: z :: r), st0.out, G', hres _ ?_, hk, by simpa only [men] using hlow, fun id ob h => hlv ▸ hcl id ob h, ?_, ?_, ?_⟩
      · rw [dif_neg]
        simp at hlen ⊢
        omega
      · rw [hobs]; exact hok
      · rw [hobs]
        simp only [impv]
        exact ⟨vs, rfl, hvr⟩
      · rw [hobs]; exact hfrm

theorem sem_of_wp {f : FuncId} {fn : Func} {c : Code} {f2 : F2} {lvl : Nat} {args : List IV} {S : Sto} {r : IV} {S' : Sto} (hf : P.funcs[f]? = some fn) (hb : fn.body = some c) (hname : (fn.name == "runtime.NumGoroutine") = false)
    (hnt : fn.ntmps = f2.nt) (hc : chkC P f2.nt f2.body c = true) (hr : chkRes P f2.res fn.results.toList = true) (hlow : low lvl r)
    (h : wpF (Sem P) f2 lvl args S (fun r' S2 => r' = r ∧ S2 = S')) : Sem P f lvl args S r S' := by
  refine ⟨hlow, ⟨fn, hf, by rw [hb]; rfl, hname⟩, fun hcl G w vs hok hvs => ?_⟩
  obtain ⟨hlen, h⟩ := h
  have hvl := VRs_length hvs
  refine calls_of_wp hf hb ?_
  have hsim : Sim ⟨G, S, w, lvl, f2.nt⟩ G ⟨lvl, params 0 args, [], S⟩ { tmps := vs.toArray ++ Array.replicate (fn.ntmps - vs.toArray.size) undef, defers := [] } w := by
    have hsto : (⟨lvl, params 0 args, [], S⟩ : St).sto = S := by
      funext id
      unfold St.sto packS
      split
      · rename_i hi
        simp only [lkO]
        cases hs : S id with
        | none => rfl
        | some ob => have h1 := hcl id ob hs; have hi : id.1 = lvl := hi; omega
      · rfl
    refine ⟨rfl, by simp [hnt, hvl]; omega, fun t => ?_, by rw [hsto]; exact hok, rfl, hcl, by rw [hsto]; exact ⟨Nat.le_refl _, fun _ _ _ => rfl, fun i ob b hs ho => .inr ⟨i, ob, hs, ho⟩, rfl, rfl, rfl, fun _ _ _ h => h⟩⟩
    rw [hsto]
    show VR G S w (lk t (params 0 args)) _
    rw [lk_params t args 0 (Nat.zero_le _), Nat.sub_zero]
    cases ha : args[t]? with
    | none => exact trivial
    | some x =>
      obtain ⟨v, hv, hx⟩ := VRs_get hvs t x ha
      have ht : t < vs.length := (List.getElem?_eq_some_iff.1 hv).1
      simp only [Option.getD_some]
      have : ((vs.toArray ++ Array.replicate (fn.ntmps - vs.toArray.size) undef).getD t undef) = v := by
        rw [Array.getD_eq_getD_getElem?, Array.getElem?_append_left (by simpa using ht)]
        simp [hv]
      rw [this]
      exact hx
  refine code_ok f2.body c _ _ _ G _ w hc h hsim (fun ex st' G1 a' w' hk hs => ?_)
  cases ex with
  | ext i => exact hk.elim
  | nrm =>
    obtain ⟨v, r', S2, G2, h1, ⟨rfl, rfl⟩, h2, h3, h4, h5, h6⟩ := fin_ok hs hr hk
    exact ⟨hs.dfr, v, h1, v, G2, rfl, h4, h5, h3, h6⟩
  | ret =>
    obtain ⟨v, r', S2, G2, h1, ⟨rfl, rfl⟩, h2, h3, h4, h5, h6⟩ := fin_ok hs hr hk
    exact ⟨hs.dfr, v, h1, v, G2, rfl, h4, h5, h3, h6⟩
end
end Go.Fd

namespace Go.Fd

def chkF (P : Program) (f : FuncId) (f2 : F2) : Bool :=
  match P.funcs[f]? with
  | some fn =>
    match fn.body with
    | some c => !(fn.name == "runtime.NumGoroutine") && fn.ntmps == f2.nt && chkC P f2.nt f2.body c && chkRes P f2.res fn.results.toList
    | none => false
  | none => false

theorem sem_of_chk {P : Program} {f : FuncId} {f2 : F2} {lvl : Nat} {args : List IV} {S : Sto} {r : IV} {S' : Sto} (hc : chkF P f f2 = true) (hlow : low lvl r)
    (h : wpF (Sem P) f2 lvl args S (fun r' S2 => r' = r ∧ S2 = S')) : Sem P f lvl args S r S' := by
  unfold chkF at hc
  split at hc <;> try contradiction
  rename_i fn hf
  split at hc <;> try contradiction
  rename_i c hb
  simp only [Bool.and_eq_true, Bool.not_eq_true', beq_iff_eq] at hc
  exact sem_of_wp hf hb hc.1.1.1 hc.1.1.2 hc.1.2 hc.2 hlow h
end Go.Fd
