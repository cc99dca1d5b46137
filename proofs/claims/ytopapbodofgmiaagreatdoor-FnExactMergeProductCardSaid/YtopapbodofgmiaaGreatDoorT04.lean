/-
  FOUNDATION 46: more rules: stores, append. Own work.
-/
import Derived.Test.YtopapbodofgmiaaGreatDoorT03
import Derived.ChangeArms
import Derived.OpenShut
import Derived.Carry
import Derived.Sort.Row
import Derived.Sort.Grow
import Derived.Shelf.GgSortFunc.InsertionK
import Derived.Shelf.SlSortCmp.WholeK
import Derived.Test.YtopapbodofgmiaaGreatDoorProg
import Derived.ChangeMaps5
import Derived.ChangeShapes
set_option linter.all false
namespace Go.Fd
section
variable {C : Zt} {lvl : Nat} {env : List (Nat × IV)} {loc : List (Nat × Ob)} {out : Sto} {d : Option Nat} {K : St -> Prop} {st : St}
def st2 (v : Option (List IV)) (m : Nat) (p : IV) (d : Option Nat) (st : St) (K : St -> Prop) : Prop :=
 match v with
 | some l => d = none /\ l.length = m /\
  match p with
  | .ab id off =>
   match st.sto id with
   | some (.bx cells) => off + l.length <= cells.length /\ DO (id.1 + 1) l /\ K (ZA st id (.bx (W6 cells off l)))
   | _ => False
  | .ae id p i f s => Zex id p i s f l st K
  | _ => False
 | none => False
theorem Zxd {m : Nat} {p x : X} : op2 C d (.st m p x) ⟨lvl, env, loc, out⟩ K = st2 (cellsOf (xv env x)) m (xv env p) d ⟨lvl, env, loc, out⟩ K := by
 rw [JC rfl]
 simp only [ew]
 generalize cellsOf (xv env x) = v
 cases v with
 | none => simp [st2]
 | some l => rfl
def stb (o : Option Ob) (id : Oid) (off : Nat) (l : List IV) (st : St) (K : St -> Prop) : Prop :=
 match o with
 | some (.bx cells) => off + l.length <= cells.length /\ DO (id.1 + 1) l /\ K (ZA st id (.bx (W6 cells off l)))
 | _ => False
theorem ZuX {m : Nat} {l : List IV} {id : Oid} {off : Nat} : st2 (some l) m (.ab id off) d ⟨lvl, env, loc, out⟩ K = (d = none /\ l.length = m /\ stb (ZR lvl loc out id) id off l ⟨lvl, env, loc, out⟩ K) := (rfl)
theorem ZuY {m : Nat} {l : List IV} {id : Oid} {p : Pth} {i f s : Nat} : st2 (some l) m (.ae id p i f s) d st K = (d = none /\ l.length = m /\ Zex id p i s f l st K) := (rfl)
theorem ZuZ {cells l : List IV} {id : Oid} {off : Nat} : stb (some (.bx cells)) id off l st K = (off + l.length <= cells.length /\ DO (id.1 + 1) l /\ K (ZA st id (.bx (W6 cells off l)))) := (rfl)
theorem QV {cs : List IV} {off : Nat} : W6 cs off [] = cs := (rfl)
theorem QW {cs : List IV} {off : Nat} {x : IV} {r : List IV} : W6 cs off (x :: r) = W6 (cs.set off x) (off + 1) r := (rfl)
theorem ZnW {l : Nat} : DO l [] = True := (rfl)
theorem ZnX {l : Nat} {x : IV} {r : List IV} : DO l (x :: r) = (low l x /\ DO l r) := (rfl)
theorem Zqx {l : Nat} {t : Tr} : low l (.tr t) = True := (rfl)
theorem Zqy {l : Nat} {es : Row} : low l (.cs es) = True := (rfl)
theorem Zqz {l k : Nat} {p : Pth} {off len s : Nat} {cap : Option Nat} : low (l + 1) (.hd (l, k) p off len cap s) = True := by
 apply propext; simp [low, men]
theorem ZqA {l k off : Nat} : low (l + 1) (.ab (l, k) off) = True := by
 apply propext; simp [low, men]
theorem ZqB {l : Nat} {c : List IV} : low l (.ag c) = DO l c := by simp only [low, DO, men]
theorem ZqC {l : Nat} {c : List IV} : low l (.tu c) = DO l c := by simp only [low, DO, men]
theorem ZqD {l k : Nat} {es : Row} {u : Bool} : low l (.ow k es u) = True := (rfl)
theorem ZqE {l : Nat} : low l .un = True := (rfl)
theorem ZqF {l : Nat} : low l .er = True := (rfl)
theorem ZnY {l : Nat} {c : List Tr} : low l (.ta c) = True := (rfl)
def kst (id : Oid) (p : Pth) (i s f : Nat) (r : List IV) (K : St -> Prop) (st' : St) : Prop := Zex id p i s f r st' K
theorem Zu0 {id : Oid} {p : Pth} {i s f : Nat} {r : List IV} : kst id p i s f r K st = Zex id p i s f r st K := (rfl)
theorem ZnZ {id : Oid} {p : Pth} {i s f : Nat} : Zex id p i s f [] st K = K st := (rfl)
def sc1 (o : Option Ob) (id : Oid) (p : Pth) (i f s : Nat) (x : IV) (st : St) (K : St -> Prop) : Prop :=
 match o with
 | some (.ar k es u hw ver) => QI p s hw ver u /\ op3 (getp es p) fun es' => op3 es'[i]? fun e => op3 e[f]? fun t0 =>
  match x with
  | .tr (.v y) => isSc t0 = true /\ K (ZA st id (.ar k (YC es p i f (.v y)) u hw ver))
  | .cs [] => p = [] /\ K (ZA st id (.ar k (YC es [] i f (.sl [])) u hw (ver + 1)))
  | .cs zs => p = [] /\ K (ZA st id (.ar k (YC es [] i f (.sl zs)) false hw (ver + 1)))
  | .tr (.sl zs) => p = [] /\ K (ZA st id (.ar k (YC es [] i f (.sl zs)) false hw (ver + 1)))
  | .hd id2 [] 0 len none s2 => p = [] /\ id2 ≠ id /\ id2.1 = st.lvl /\
   match st.sto id2 with
   | some (.ar _ zs u2 hw2 _) => s2 = hw2 /\ len = zs.length /\ K (ZA (VK id2 st) id (.ar k (YC es [] i f (.sl zs)) (u && u2) hw (ver + 1)))
   | _ => False
  | _ => False
 | _ => False
theorem Zn0 {id : Oid} {p : Pth} {i s f : Nat} {x : IV} {r : List IV} : Zex id p i s f (x :: r) ⟨lvl, env, loc, out⟩ K = sc1 (ZR lvl loc out id) id p i f s x ⟨lvl, env, loc, out⟩ (kst id p i s (f + 1) r K) := by
 simp only [Zex, stc, sc1]
 rw [show (⟨lvl, env, loc, out⟩ : St).sto id = ZR lvl loc out id from rfl]
 generalize ZR lvl loc out id = o
 cases o with
 | none => rfl
 | some ob =>
  cases ob with
  | bx => rfl
  | ar k es u hw ver =>
   dsimp only
   rw [<- Qf]
   apply propext
   constructor
   ·rintro ⟨es', h1, h2, e, h3, t0, h4, h5⟩
    refine ⟨h2, es', h1, ?_⟩
    rw [h3]
    simp only [op3]
    rw [h4]
    exact h5
   ·rintro ⟨h2, es', h1, h3⟩
    rw [<- Qf] at h3
    obtain ⟨e, h3, h4⟩ := h3
    rw [<- Qf] at h4
    obtain ⟨t0, h4, h5⟩ := h4
    exact ⟨es', h1, h2, e, h3, t0, h4, h5⟩
def sc2 (k : Nat) (es : Row) (u : Bool) (hw ver : Nat) (id : Oid) (p : Pth) (i f : Nat) (x : IV) (st : St) (K : St -> Prop) (t0 : Tr) : Prop :=
  match x with
  | .tr (.v y) => isSc t0 = true /\ K (ZA st id (.ar k (YC es p i f (.v y)) u hw ver))
  | .cs [] => p = [] /\ K (ZA st id (.ar k (YC es [] i f (.sl [])) u hw (ver + 1)))
  | .cs zs => p = [] /\ K (ZA st id (.ar k (YC es [] i f (.sl zs)) false hw (ver + 1)))
  | .tr (.sl zs) => p = [] /\ K (ZA st id (.ar k (YC es [] i f (.sl zs)) false hw (ver + 1)))
  | .hd id2 [] 0 len none s2 => p = [] /\ id2 ≠ id /\ id2.1 = st.lvl /\
   match st.sto id2 with
   | some (.ar _ zs u2 hw2 _) => s2 = hw2 /\ len = zs.length /\ K (ZA (VK id2 st) id (.ar k (YC es [] i f (.sl zs)) (u && u2) hw (ver + 1)))
   | _ => False
  | _ => False
def sc3 (k : Nat) (es : Row) (u : Bool) (hw ver : Nat) (id : Oid) (p : Pth) (i f : Nat) (x : IV) (st : St) (K : St -> Prop) (e : List Tr) : Prop := op3 e[f]? (sc2 k es u hw ver id p i f x st K)
def sc4 (k : Nat) (es : Row) (u : Bool) (hw ver : Nat) (id : Oid) (p : Pth) (i f : Nat) (x : IV) (st : St) (K : St -> Prop) (es' : Row) : Prop := op3 es'[i]? (sc3 k es u hw ver id p i f x st K)
section sc
variable {k : Nat} {es : Row} {u : Bool} {hw ver : Nat} {id : Oid} {p : Pth} {i f s : Nat} {x : IV}
theorem Zu1 : sc1 (some (.ar k es u hw ver)) id p i f s x st K = (QI p s hw ver u /\ op3 (getp es p) (sc4 k es u hw ver id p i f x st K)) := (rfl)
theorem Zu2 {e : List Tr} : sc3 k es u hw ver id p i f x st K e = op3 e[f]? (sc2 k es u hw ver id p i f x st K) := (rfl)
theorem Zu3 {es' : Row} : sc4 k es u hw ver id p i f x st K es' = op3 es'[i]? (sc3 k es u hw ver id p i f x st K) := (rfl)
theorem Zu4 {y : Value} {t0 : Tr} : sc2 k es u hw ver id p i f (.tr (.v y)) st K t0 = (isSc t0 = true /\ K (ZA st id (.ar k (YC es p i f (.v y)) u hw ver))) := (rfl)
theorem ZqG {t0 : Tr} : sc2 k es u hw ver id p i f (.cs []) st K t0 = (p = [] /\ K (ZA st id (.ar k (YC es [] i f (.sl [])) u hw (ver + 1)))) := (rfl)
theorem ZqH {zs : Row} {t0 : Tr} : sc2 k es u hw ver id p i f (.tr (.sl zs)) st K t0 = (p = [] /\ K (ZA st id (.ar k (YC es [] i f (.sl zs)) false hw (ver + 1)))) := (rfl)
def sc5 (o : Option Ob) (k : Nat) (es : Row) (u : Bool) (hw ver : Nat) (id : Oid) (i f len s2 : Nat) (st2 st : St) (K : St -> Prop) : Prop :=
 match o with
 | some (.ar _ zs u2 hw2 _) => s2 = hw2 /\ len = zs.length /\ K (ZA st2 id (.ar k (YC es [] i f (.sl zs)) (u && u2) hw (ver + 1)))
 | _ => False
theorem ZqI {key len s2 : Nat} {t0 : Tr} : sc2 k es u hw ver id p i f (.hd (lvl, key) [] 0 len none s2) ⟨lvl, env, loc, out⟩ K t0 = (p = [] /\ (lvl, key) ≠ id /\ sc5 (lkO key loc) k es u hw ver id i f len s2 (VK (lvl, key) ⟨lvl, env, loc, out⟩) ⟨lvl, env, loc, out⟩ K) := by
 simp only [sc2]
 rw [show (⟨lvl, env, loc, out⟩ : St).sto (lvl, key) = lkO key loc from Yn]
 generalize lkO key loc = o
 apply propext
 constructor
 ·rintro ⟨h1, h2, _, h3⟩
  refine ⟨h1, h2, ?_⟩
  cases o with
  | none => exact h3
  | some ob => cases ob <;> exact h3
 ·rintro ⟨h1, h2, h3⟩
  refine ⟨h1, h2, trivial, ?_⟩
  cases o with
  | none => exact h3
  | some ob => cases ob <;> exact h3
theorem Zu5 {k2 : Nat} {zs : Row} {u2 : Bool} {hw2 ver2 len s2 : Nat} {st2 : St} : sc5 (some (.ar k2 zs u2 hw2 ver2)) k es u hw ver id i f len s2 st2 st K = (s2 = hw2 /\ len = zs.length /\ K (ZA st2 id (.ar k (YC es [] i f (.sl zs)) (u && u2) hw (ver + 1)))) := (rfl)
end sc
theorem Zxe {k n : Nat} {z : List Value} {ps : List (Nat × X)} : op2 C d (.bw k n z ps) ⟨lvl, env, loc, out⟩ K = ew C d ⟨lvl, env, loc, out⟩ K (.bw k n z ps) := JC rfl
def kbw (k lvl : Nat) (d : Option Nat) (K : St -> Prop) (ts : List Tr) (u : Bool) (st' : St) : Prop :=
 K { ZA st' (lvl, keyOf d) (.ar k [ts] u 1 0) with env := ptd d (.hd (lvl, keyOf d) [] 0 1 none 1) st'.env }
theorem Zu6 {k : Nat} {ts : List Tr} {u : Bool} : kbw k lvl d K ts u ⟨lvl, env, loc, out⟩ = K ⟨lvl, ptd d (.hd (lvl, keyOf d) [] 0 1 none 1) env, ptO (keyOf d) (.ar k [ts] u 1 0) loc, out⟩ := by
 simp only [kbw, Zaj]
def bw2 (v : Option (List IV)) (k n : Nat) (d : Option Nat) (loc : List (Nat × Ob)) (lvl : Nat) (st : St) (K : St -> Prop) : Prop :=
 match v with
 | some l => n = 1 /\ l.length = k /\ freshK (keyOf d) loc 1 /\ ZgP l st (kbw k lvl d K)
 | none => False
theorem Zu7 {k n : Nat} {z : List Value} {x : X} : ew C d ⟨lvl, env, loc, out⟩ K (.bw k n z [(0, x)]) = bw2 (cellsOf (xv env x)) k n d loc lvl ⟨lvl, env, loc, out⟩ K := by
 simp only [ew]
 generalize cellsOf (xv env x) = v
 cases v with
 | none => simp [bw2]
 | some l => rfl
theorem Zu8 {k n : Nat} {l : List IV} : bw2 (some l) k n d loc lvl st K = (n = 1 /\ l.length = k /\ freshK (keyOf d) loc 1 /\ ZgP l st (kbw k lvl d K)) := (rfl)
def kmv (r : List IV) (F : List Tr -> Bool -> St -> Prop) (t : Tr) (a : Bool) (st' : St) : Prop := ZgP r st' fun ts b st'' => F (t :: ts) (a && b) st''
def kmc (t : Tr) (a : Bool) (F : List Tr -> Bool -> St -> Prop) (ts : List Tr) (b : Bool) (st'' : St) : Prop := F (t :: ts) (a && b) st''
section mv
variable {r : List IV} {F : List Tr -> Bool -> St -> Prop} {F1 : Tr -> Bool -> St -> Prop}
theorem Zu9 {t : Tr} {a : Bool} : kmv r F t a st = ZgP r st (kmc t a F) := (rfl)
theorem Zva {t : Tr} {a : Bool} {ts : List Tr} {b : Bool} : kmc t a F ts b st = F (t :: ts) (a && b) st := (rfl)
theorem Zn1 : ZgP [] st F = F [] true st := (rfl)
theorem Zn2 {x : IV} : ZgP (x :: r) st F = mvc st x (kmv r F) := (rfl)
theorem ZqJ {y : Value} : mvc st (.tr (.v y)) F1 = F1 (.v y) true st := (rfl)
theorem ZqK {es : Row} : mvc st (.tr (.sl es)) F1 = F1 (.sl es) false st := (rfl)
theorem ZqL : mvc st (.cs []) F1 = F1 (.sl []) true st := (rfl)
def mv5 (o : Option Ob) (len s2 : Nat) (st1 : St) (F1 : Tr -> Bool -> St -> Prop) : Prop :=
 match o with
 | some (.ar _ zs u2 hw2 _) => s2 = hw2 /\ len = zs.length /\ F1 (.sl zs) u2 st1
 | _ => False
theorem ZqM {key len s2 : Nat} : mvc ⟨lvl, env, loc, out⟩ (.hd (lvl, key) [] 0 len none s2) F1 = mv5 (lkO key loc) len s2 (VK (lvl, key) ⟨lvl, env, loc, out⟩) F1 := by
 simp only [mvc]
 rw [show (⟨lvl, env, loc, out⟩ : St).sto (lvl, key) = lkO key loc from Yn]
 generalize lkO key loc = o
 apply propext
 constructor
 ·rintro ⟨_, h3⟩
  cases o with
  | none => exact h3
  | some ob => cases ob <;> exact h3
 ·intro h3
  refine ⟨trivial, ?_⟩
  cases o with
  | none => exact h3
  | some ob => cases ob <;> exact h3
theorem Zvb {k2 : Nat} {zs : Row} {u2 : Bool} {hw2 ver2 len s2 : Nat} : mv5 (some (.ar k2 zs u2 hw2 ver2)) len s2 st F1 = (s2 = hw2 /\ len = zs.length /\ F1 (.sl zs) u2 st) := (rfl)
end mv
def ZqN : IV -> Prop
 | .hd _ [] 0 _ none _ => True
 | _ => False
theorem ZqO {id : Oid} {len s : Nat} : ZqN (.hd id [] 0 len none s) = True := (rfl)
def ZmD : List IV -> Prop
 | [] => True
 | .tr (.v _) :: r => ZmD r
 | _ => False
theorem Zn3 : ZmD [] = True := (rfl)
theorem Zn4 {y : Value} {r : List IV} : ZmD (.tr (.v y) :: r) = ZmD r := (rfl)
def smp (p : IV) (l : Option (List IV)) : Prop :=
 match p with
 | .ab .. => True
 | .ae .. => l ≠ some [] /\ ZmD (l.getD [])
 | _ => False
theorem ZqP {id : Oid} {off : Nat} {l : Option (List IV)} : smp (.ab id off) l = True := (rfl)
theorem ZqQ {id : Oid} {p : Pth} {i f s : Nat} {x : IV} {r : List IV} : smp (.ae id p i f s) (some (x :: r)) = ZmD (x :: r) := by simp [smp]
theorem Zh6 {id : Oid} {p : Pth} {i s k : Nat} {u : Bool} {hw ver : Nat} : ∀ (l : List IV) (f : Nat) (es : Row) (st0 : St) (K : St -> Prop), ZmD l -> st0.sto id = some (.ar k es u hw ver) -> Zex id p i s f l st0 K -> stq p i f l es (fun es' => K (ZA st0 id (.ar k es' u hw ver))) \/ l = []
 | [], f, es, st0, K, _, _, h => .inr rfl
 | x :: r, f, es, st0, K, ha, hs, h => by
  refine .inl ?_
  simp only [Zex, stc] at h
  rw [hs] at h
  obtain ⟨es', hg, hst, e, hi, t0, hf, h⟩ := h
  cases x with
  | tr t =>
   cases t with
   | v y =>
    obtain ⟨hsc, h⟩ := h
    simp only [stq]
    refine ⟨es', hg, e, hi, t0, hf, hsc, ?_⟩
    have hs1 : (ZA st0 id (.ar k (YC es p i f (.v y)) u hw ver)).sto id = some (.ar k (YC es p i f (.v y)) u hw ver) := by rw [JL]; unfold ZZ; rw [if_pos rfl]
    rcases Zh6 r (f + 1) _ _ K ha hs1 h with g | g
    ·simp only [Uf] at g
     exact g
    ·subst g
     exact h
   | sl => cases ha
  | _ => cases ha
theorem Zxf {m : Nat} {p x : X} : op2 C d (.s0 m p x) ⟨lvl, env, loc, out⟩ K = (smp (xv env p) (cellsOf (xv env x)) /\ op2 C d (.st m p x) ⟨lvl, env, loc, out⟩ K) := by
 rw [JC rfl, JC rfl]
 simp only [ew, ZbY]
 generalize cellsOf (xv env x) = v
 generalize xv env p = q
 apply propext
 constructor
 ·rintro ⟨h0, h⟩
  split at h <;> try contradiction
  rename_i l
  obtain ⟨h1, h⟩ := h
  split at h <;> try contradiction
  ·exact ⟨trivial, h0, h1, h⟩
  ·rename_i id p i f s
   split at h <;> try contradiction
   rename_i k es u hw ver hs
   obtain ⟨g1, g2, g3⟩ := h
   refine ⟨⟨by simpa using g1, ?_⟩, h0, h1, ZeK g2 l f es _ K hs g3 (fun e => absurd e g1)⟩
   have : ∀ (l : List IV) (f : Nat) (es : Row) (K : Row -> Prop), stq p i f l es K -> ZmD l := by
    intro l
    induction l with
    | nil => intros; trivial
    | cons x r ih =>
     intro f es K h
     simp only [stq] at h
     obtain ⟨_, _, _, _, _, _, _, h⟩ := h
     split at h <;> try contradiction
     exact ih _ _ _ h
   exact this _ _ _ _ g3
 ·rintro ⟨h3, h0, h⟩
  refine ⟨h0, ?_⟩
  split at h <;> try contradiction
  rename_i l
  obtain ⟨h1, h⟩ := h
  refine ⟨h1, ?_⟩
  split at h <;> try contradiction
  ·exact h
  ·rename_i id p i f s
   obtain ⟨g1, g2⟩ := h3
   cases l with
   | nil => exact absurd rfl g1
   | cons y r =>
    have h' := h
    simp only [Zex, stc] at h'
    split at h' <;> try contradiction
    rename_i k es u hw ver hs
    refine ⟨by simp, h'.choose_spec.2.1, ?_⟩
    rcases Zh6 _ _ _ _ K g2 hs h with g | g
    ·exact g
    ·cases g
theorem Zxg {k : Nat} {x y : X} : op2 C d (.a0 k x y) ⟨lvl, env, loc, out⟩ K = (ZqN (xv env x) /\ op2 C d (.ap k 0 x y) ⟨lvl, env, loc, out⟩ K) := by
 rw [JC rfl, JC rfl]
 apply propext
 constructor
 ·intro he
  refine ⟨?_, ZhU he⟩
  simp only [ew, ZbY] at he
  split at he <;> try contradiction
  rename_i hx
  rw [hx]; trivial
 ·rintro ⟨h1, h⟩
  generalize hq : xv env x = q at h1
  unfold ZqN at h1
  split at h1 <;> try contradiction
  rename_i id len s
  have go : ∀ items : Row, ScR items -> UQ d k x loc items true ⟨lvl, env, loc, out⟩ K -> match ZR lvl loc out id with
   | some (.ar k' es u hw ver) => k' = k /\ s = hw /\ len = es.length /\ ScR items /\ UnR k items /\ len + items.length <= bigN /\
     K { ZA ⟨lvl, env, loc, out⟩ id (.ar k (es ++ items) u (max hw (len + items.length)) ver) with env := ptd d (.hd id [] 0 (len + items.length) none (max hw (len + items.length))) env }
   | _ => False := fun items hsc h => by
   unfold UQ at h
   obtain ⟨g1, h⟩ := h
   simp only [hq] at h
   rw [show (⟨lvl, env, loc, out⟩ : St).sto id = ZR lvl loc out id from rfl] at h
   generalize ZR lvl loc out id = o at h ⊢
   cases o with
   | none => exact h
   | some ob =>
    cases ob with
    | bx => exact h
    | ar k' es u hw ver =>
     simp only [Bool.and_true] at h
     exact ⟨h.1, h.2.1, h.2.2.1, hsc, g1, h.2.2.2.1, h.2.2.2.2⟩
  simp only [ew, ZbY, Zi8] at h ⊢
  rw [hq]
  rw [show (⟨lvl, env, loc, out⟩ : St).sto = ZR lvl loc out from rfl] at *
  split at h <;> try contradiction
  ·rename_i zs hy
   simp only [if_true] at h
   have := go zs h.1 h.2
   rw [hy]
   exact this
  ·rename_i zs hy
   simp only [if_true] at h
   have := go zs h.1 h.2
   rw [hy]
   exact this
  ·rename_i id2 p2 off2 len2 c2 s2 hy
   simp only [if_true] at h
   rw [hy]
   dsimp only
   unfold rdh at h ⊢
   generalize ZR lvl loc out id2 = o3 at h ⊢
   cases o3 with
   | none => exact h.elim
   | some ob3 =>
    cases ob3 with
    | bx => exact h.elim
    | ar k3 es3 u3 hw3 ver3 =>
     obtain ⟨es', q1, q2, q3, q4, q5⟩ := h
     have := go _ q4 q5
     split at this <;> try contradiction
     rename_i hs
     show (match ZR lvl loc out id with
      | some (.ar k' es u hw ver) => k' = k /\ s = hw /\ len = es.length /\ ∃ es', getp es3 p2 = some es' /\ QI p2 s2 hw3 ver3 u3 /\ off2 + len2 <= es'.length /\ ScR (cut es' off2 len2) /\ UnR k (cut es' off2 len2) /\ len + (cut es' off2 len2).length <= bigN /\
        K { ZA ⟨lvl, env, loc, out⟩ id (.ar k (es ++ cut es' off2 len2) u (max hw (len + (cut es' off2 len2).length)) ver) with env := ptd d (.hd id [] 0 (len + (cut es' off2 len2).length) none (max hw (len + (cut es' off2 len2).length))) env }
      | _ => False)
     rw [hs]
     exact ⟨this.1, this.2.1, this.2.2.1, es', q1, q2, q3, this.2.2.2⟩
  ·exact absurd h.1 (by decide)
def Zsg : IV -> Prop
 | .tr (.sl _) => True
 | .cs _ => True
 | _ => False
theorem Zn5 {es : Row} : Zsg (.tr (.sl es)) = True := (rfl)
theorem Zn6 {es : Row} : Zsg (.cs es) = True := (rfl)
theorem Zxh {k : Nat} {x y : X} : op2 C d (.a1 k x y) ⟨lvl, env, loc, out⟩ K = (ZqN (xv env x) /\ Zsg (xv env y) /\ op2 C d (.ap k 1 x y) ⟨lvl, env, loc, out⟩ K) := by
 rw [JC rfl, JC rfl]
 apply propext
 constructor
 ·intro he
  refine ⟨?_, ?_, ZhV he⟩
  ·simp only [ew, ZbY] at he
   split at he <;> try contradiction
   rename_i hx
   rw [hx]; trivial
  ·simp only [ew, ZbY] at he
   split at he <;> try contradiction
   split at he <;> try contradiction
   have h4 := he.2.2.2
   unfold ZoS at h4
   split at h4 <;> try contradiction
   ·rename_i hy; rw [hy]; trivial
   ·rename_i hy; rw [hy]; trivial
 ·rintro ⟨h1, h2, h⟩
  generalize hq : xv env x = q at h1
  unfold ZqN at h1
  split at h1 <;> try contradiction
  rename_i id len s
  have go : ∀ items : Row, UQ d k x loc items false ⟨lvl, env, loc, out⟩ K -> match ZR lvl loc out id with
   | some (.ar k' es u hw ver) => k' = k /\ s = hw /\ len = es.length /\ UnR k items /\ len + items.length <= bigN /\
     K { ZA ⟨lvl, env, loc, out⟩ id (.ar k (es ++ items) false (max hw (len + items.length)) ver) with env := ptd d (.hd id [] 0 (len + items.length) none (max hw (len + items.length))) env }
   | _ => False := fun items h => by
   unfold UQ at h
   obtain ⟨g1, h⟩ := h
   simp only [hq] at h
   rw [show (⟨lvl, env, loc, out⟩ : St).sto id = ZR lvl loc out id from rfl] at h
   generalize ZR lvl loc out id = o at h ⊢
   cases o with
   | none => exact h
   | some ob =>
    cases ob with
    | bx => exact h
    | ar k' es u hw ver =>
     simp only [Bool.and_false] at h
     exact ⟨h.1, h.2.1, h.2.2.1, g1, h.2.2.2.1, h.2.2.2.2⟩
  simp only [ew, ZbY, ZoS] at h ⊢
  rw [hq]
  rw [show (⟨lvl, env, loc, out⟩ : St).sto = ZR lvl loc out from rfl] at *
  generalize hy : xv env y = yv at h h2 ⊢
  unfold Zsg at h2
  split at h2 <;> try contradiction
  ·simp only [Nat.reduceEqDiff, if_false, true_and] at h
   exact go _ h
  ·simp only [Nat.reduceEqDiff, if_false, true_and] at h
   exact go _ h
def az1 (x n : IV) (d : Option Nat) (k : Nat) (z : List Value) (st : St) (K : St -> Prop) : Prop :=
 match x with
 | .cs [] =>
  match n with
  | .tr (.v (.int .i64 m)) => 0 < m /\ m <= bigN /\ freshK (keyOf d) st.loc 1 /\
    K { ZA st (st.lvl, keyOf d) (.ar k (List.replicate m.toNat (z.map trv)) true m.toNat 0) with env := ptd d (.hd (st.lvl, keyOf d) [] 0 m.toNat none m.toNat) st.env }
  | _ => False
 | _ => False
theorem Zxi {k : Nat} {z : List Value} {x n : X} : op2 C d (.az k z x n) ⟨lvl, env, loc, out⟩ K = az1 (xv env x) (xv env n) d k z ⟨lvl, env, loc, out⟩ K := by
 rw [JC rfl]
 rfl
theorem Zvc {k : Nat} {z : List Value} {m : Int} : az1 (.cs []) (.tr (.v (.int .i64 m))) d k z ⟨lvl, env, loc, out⟩ K = (0 < m /\ m <= bigN /\ freshK (keyOf d) loc 1 /\ K ⟨lvl, ptd d (.hd (lvl, keyOf d) [] 0 m.toNat none m.toNat) env, ptO (keyOf d) (.ar k (List.replicate m.toNat (z.map trv)) true m.toNat 0) loc, out⟩) := by
 simp only [az1, Zaj]
def tbx : IV -> Prop
 | .ta _ => True
 | _ => False
theorem Zvd {cells : List Tr} : tbx (.ta cells) = True := (rfl)
theorem Zxj {m : Option Nat} {p : X} : op2 C d (.lt m p) ⟨lvl, env, loc, out⟩ K = (tbx (xv env p) /\ op2 C d (.ld m p) ⟨lvl, env, loc, out⟩ K) := by
 cases m <;> (
  rw [Ym rfl, Ym rfl]
  simp only [ev]
  generalize hx : xv env p = q
  cases q <;> simp [tbx])
def tcs : IV -> Prop
 | .tr (.sl _) => True
 | .cs _ => True
 | _ => False
theorem ZqR {es : Row} : tcs (.tr (.sl es)) = True := (rfl)
theorem ZqS {es : Row} : tcs (.cs es) = True := (rfl)
theorem Zxk {k : Nat} {x : X} {lo hi mx : Option X} : op2 C d (.sy k x lo hi mx) ⟨lvl, env, loc, out⟩ K = (tcs (xv env x) /\ op2 C d (.sx k x lo hi mx) ⟨lvl, env, loc, out⟩ K) := by
 rw [Ym rfl, Ym rfl]
 simp only [ev]
 generalize hx : xv env x = q
 cases q with
 | tr t =>
  cases t with
  | v => simp [tcs]
  | sl es => simp only [tcs, true_and]
 | cs es => simp only [tcs, true_and]
 | _ => simp only [tcs, false_and]
def swx (L : Sto) (k : Nat) : IV -> Prop
 | .tr (.sl _) => True
 | .cs _ => True
 | .hd id [] _ _ _ _ => wid L id [] k
 | _ => False
theorem ZqT {L : Sto} {k : Nat} {es : Row} : swx L k (.tr (.sl es)) = True := (rfl)
theorem ZqU {L : Sto} {k : Nat} {es : Row} : swx L k (.cs es) = True := (rfl)
theorem ZqV {L : Sto} {k : Nat} {id : Oid} {off len s : Nat} {cap : Option Nat} : swx L k (.hd id [] off len cap s) = wid L id [] k := (rfl)
def Zwi (m : Nat) : Option Ob -> Prop
 | some (.ar k _ _ _ _) => k = m
 | _ => False
theorem ZqW {m k hw ver : Nat} {es : Row} {u : Bool} : Zwi m (some (.ar k es u hw ver)) = (k = m) := (rfl)
theorem ZqX {key m : Nat} : wid (ZR lvl loc out) (lvl, key) [] m = Zwi m (lkO key loc) := by
 unfold wid
 rw [Yn]
 cases lkO key loc with
 | none => rfl
 | some ob => cases ob <;> rfl
theorem Zxl {k : Nat} {x : X} {lo hi mx : Option X} : op2 C d (.sw k x lo hi mx) ⟨lvl, env, loc, out⟩ K = (swx (ZR lvl loc out) k (xv env x) /\ op2 C d (.sx k x lo hi mx) ⟨lvl, env, loc, out⟩ K) := by
 rw [Ym rfl, Ym rfl]
 simp only [ev]
 generalize xv env x = q
 cases q with
 | tr t =>
  cases t with
  | v => simp [swx]
  | sl es => simp only [swx, true_and]
 | cs es => simp only [swx, true_and]
 | hd id p off len cap s =>
  cases p with
  | nil =>
   simp only [swx]
   exact propext ⟨fun ⟨hw, h⟩ => ⟨hw, Qd (fun a h => Qd (fun b h => ⟨h.1, h.2.1, Qd (fun m g => ⟨g.1, g.2.1, hw, g.2.2⟩) h.2.2⟩) h) h⟩, fun ⟨hw, h⟩ => ⟨hw, Qd (fun a h => Qd (fun b h => ⟨h.1, h.2.1, Qd (fun m g => ⟨g.1, g.2.1, g.2.2.2⟩) h.2.2⟩) h) h⟩⟩
  | cons c r => simp [swx]
 | _ => simp [swx]
theorem Zxm {k : Nat} {x i : X} : op2 C d (.it k x i) ⟨lvl, env, loc, out⟩ K = (tcs (xv env x) /\ op2 C d (.ia k x i) ⟨lvl, env, loc, out⟩ K) := by
 rw [Ym rfl, Ym rfl]
 simp only [ev]
 generalize xv env x = q
 generalize xv env i = qi
 cases q with
 | tr t =>
  cases t with
  | v => simp only [tcs, false_and]; split <;> simp
  | sl es => simp only [tcs, true_and]
 | cs es => simp only [tcs, true_and]
 | _ => simp only [tcs, false_and]; split <;> simp
def apx (v : IV) (d : Option Nat) (k : Nat) (loc0 : List (Nat × Ob)) (items : Row) (ui : Bool) (st1 : St) (K : St -> Prop) : Prop :=
 UnR k items /\
 match v with
 | .cs zs => (zs = [] \/ items ≠ []) /\ zs.length + items.length <= bigN /\ UnR k zs /\ freshK (keyOf d) loc0 1 /\ (zs = [] \/ ui = false \/ ScR zs) /\
  K { ZA st1 (st1.lvl, keyOf d) (.ar k (zs ++ items) ui (zs.length + items.length) 0) with env := ptd d (.hd (st1.lvl, keyOf d) [] 0 (zs.length + items.length) none (zs.length + items.length)) st1.env }
 | .hd id [] 0 len none s =>
  match st1.sto id with
  | some (.ar k' es u hw ver) => k' = k /\ s = hw /\ len = es.length /\ len + items.length <= bigN /\
   K { ZA st1 id (.ar k (es ++ items) (u && ui) (max hw (len + items.length)) ver) with env := ptd d (.hd id [] 0 (len + items.length) none (max hw (len + items.length))) st1.env }
  | _ => False
 | _ => False
theorem ZqY {k : Nat} {x : X} {loc0 : List (Nat × Ob)} {items : Row} {ui : Bool} : UQ d k x loc0 items ui ⟨lvl, env, loc, out⟩ K = apx (xv env x) d k loc0 items ui ⟨lvl, env, loc, out⟩ K := (rfl)
theorem ZqZ {k : Nat} {loc0 : List (Nat × Ob)} {items zs : Row} {ui : Bool} : apx (.cs zs) d k loc0 items ui ⟨lvl, env, loc, out⟩ K = (UnR k items /\ (zs = [] \/ items ≠ []) /\ zs.length + items.length <= bigN /\ UnR k zs /\ freshK (keyOf d) loc0 1 /\ (zs = [] \/ ui = false \/ ScR zs) /\
  K ⟨lvl, ptd d (.hd (lvl, keyOf d) [] 0 (zs.length + items.length) none (zs.length + items.length)) env, ptO (keyOf d) (.ar k (zs ++ items) ui (zs.length + items.length) 0) loc, out⟩) := by
 simp only [apx, Zaj]
def aph (o : Option Ob) (d : Option Nat) (k : Nat) (id : Oid) (len s : Nat) (items : Row) (ui : Bool) (st1 : St) (K : St -> Prop) : Prop :=
 match o with
 | some (.ar k' es u hw ver) => k' = k /\ s = hw /\ len = es.length /\ len + items.length <= bigN /\
   K { ZA st1 id (.ar k (es ++ items) (u && ui) (max hw (len + items.length)) ver) with env := ptd d (.hd id [] 0 (len + items.length) none (max hw (len + items.length))) st1.env }
 | _ => False
theorem Zq0 {k key len s : Nat} {loc0 : List (Nat × Ob)} {items : Row} {ui : Bool} : apx (.hd (lvl, key) [] 0 len none s) d k loc0 items ui ⟨lvl, env, loc, out⟩ K = (UnR k items /\ aph (lkO key loc) d k (lvl, key) len s items ui ⟨lvl, env, loc, out⟩ K) := by
 simp only [apx]
 rw [show (⟨lvl, env, loc, out⟩ : St).sto (lvl, key) = lkO key loc from Yn]
 rfl
theorem Zve {k k' key len s : Nat} {items es : Row} {u ui : Bool} {hw ver : Nat} : aph (some (.ar k' es u hw ver)) d k (lvl, key) len s items ui ⟨lvl, env, loc, out⟩ K = (k' = k /\ s = hw /\ len = es.length /\ len + items.length <= bigN /\
   K ⟨lvl, ptd d (.hd (lvl, key) [] 0 (len + items.length) none (max hw (len + items.length))) env, ptO key (.ar k (es ++ items) (u && ui) (max hw (len + items.length)) ver) loc, out⟩) := by
 simp only [aph, Zaj]
def ap2 (C : Zt) (d : Option Nat) (k md : Nat) (x : X) (y : IV) (st : St) (K : St -> Prop) : Prop :=
 match y with
 | .tr (.sl es) => if md = 0 then ScR es /\ UQ d k x st.loc es true st K else md = 1 /\ UQ d k x st.loc es false st K
 | .cs es => if md = 0 then ScR es /\ UQ d k x st.loc es true st K else md = 1 /\ UQ d k x st.loc es false st K
 | .hd id2 p2 off2 len2 c2 s2 =>
   if md = 2 then
    p2 = [] /\ off2 = 0 /\ c2 = none /\ id2.1 = st.lvl /\
    match st.sto id2 with
    | some (.ar _ zs u2 hw2 _) => s2 = hw2 /\ len2 = zs.length /\ UQ d k x st.loc zs u2 (VK id2 st) K
    | _ => False
   else if md = 0 then
    rdh st.sto id2 p2 s2 fun es _ _ => off2 + len2 <= es.length /\ ScR (cut es off2 len2) /\ UQ d k x st.loc (cut es off2 len2) true st K
   else md = 1 /\ p2 = [] /\
    match st.sto id2 with
    | some (.ar k2 es _ hw2 ver2) => s2 = hw2 /\ off2 + len2 <= es.length /\ UQ d k x st.loc (cut es off2 len2) false (ZA st id2 (.ar k2 es false hw2 ver2)) K
    | _ => False
 | .sv id2 => md = 2 /\ id2.1 = st.lvl /\
   match st.sto id2 with
   | some (.bx l) => l.length = k /\ ZgP l st fun ts u st' => UQ d k x st.loc [ts] u (VK id2 st') K
   | _ => False
 | _ => False
theorem Zxn {k md : Nat} {x y : X} : op2 C d (.ap k md x y) ⟨lvl, env, loc, out⟩ K = ap2 C d k md x (xv env y) ⟨lvl, env, loc, out⟩ K := by
 rw [JC rfl]
 rfl
section ap
variable {k : Nat} {x : X}
theorem Zvf {es : Row} : ap2 C d k 0 x (.tr (.sl es)) ⟨lvl, env, loc, out⟩ K = (ScR es /\ UQ d k x loc es true ⟨lvl, env, loc, out⟩ K) := (rfl)
theorem Zvg {es : Row} : ap2 C d k 1 x (.tr (.sl es)) ⟨lvl, env, loc, out⟩ K = UQ d k x loc es false ⟨lvl, env, loc, out⟩ K := by simp [ap2]
theorem Zq1 {es : Row} : ap2 C d k 0 x (.cs es) ⟨lvl, env, loc, out⟩ K = (ScR es /\ UQ d k x loc es true ⟨lvl, env, loc, out⟩ K) := (rfl)
theorem Zq2 {es : Row} : ap2 C d k 1 x (.cs es) ⟨lvl, env, loc, out⟩ K = UQ d k x loc es false ⟨lvl, env, loc, out⟩ K := by simp [ap2]
def kap (d : Option Nat) (k : Nat) (x : X) (off2 len2 : Nat) (st : St) (K : St -> Prop) (es : Row) (_u : Bool) (_v : Nat) : Prop := off2 + len2 <= es.length /\ ScR (cut es off2 len2) /\ UQ d k x st.loc (cut es off2 len2) true st K
theorem Zvh {off2 len2 : Nat} {es : Row} {u : Bool} {v : Nat} : kap d k x off2 len2 ⟨lvl, env, loc, out⟩ K es u v = (off2 + len2 <= es.length /\ ScR (cut es off2 len2) /\ UQ d k x loc (cut es off2 len2) true ⟨lvl, env, loc, out⟩ K) := (rfl)
theorem Zq3 {id2 : Oid} {p2 : Pth} {off2 len2 s2 : Nat} {c2 : Option Nat} : ap2 C d k 0 x (.hd id2 p2 off2 len2 c2 s2) ⟨lvl, env, loc, out⟩ K = rd3 (ZR lvl loc out id2) p2 s2 (kap d k x off2 len2 ⟨lvl, env, loc, out⟩ K) := by
 rw [<- U7]
 rfl
def ap5 (o : Option Ob) (d : Option Nat) (k : Nat) (x : X) (len2 s2 : Nat) (loc0 : List (Nat × Ob)) (st1 : St) (K : St -> Prop) : Prop :=
 match o with
 | some (.ar _ zs u2 hw2 _) => s2 = hw2 /\ len2 = zs.length /\ UQ d k x loc0 zs u2 st1 K
 | _ => False
theorem Zq4 {key : Nat} {p2 : Pth} {off2 len2 s2 : Nat} {c2 : Option Nat} : ap2 C d k 2 x (.hd (lvl, key) p2 off2 len2 c2 s2) ⟨lvl, env, loc, out⟩ K = (p2 = [] /\ off2 = 0 /\ c2 = none /\ ap5 (lkO key loc) d k x len2 s2 loc (VK (lvl, key) ⟨lvl, env, loc, out⟩) K) := by
 simp only [ap2, if_true]
 rw [show (⟨lvl, env, loc, out⟩ : St).sto (lvl, key) = lkO key loc from Yn]
 generalize lkO key loc = o
 apply propext
 constructor
 ·rintro ⟨h1, h2, h3, _, h5⟩
  refine ⟨h1, h2, h3, ?_⟩
  cases o with
  | none => exact h5
  | some ob => cases ob <;> exact h5
 ·rintro ⟨h1, h2, h3, h5⟩
  refine ⟨h1, h2, h3, trivial, ?_⟩
  cases o with
  | none => exact h5
  | some ob => cases ob <;> exact h5
theorem Zvi {k2 : Nat} {zs : Row} {u2 : Bool} {hw2 ver2 len2 s2 : Nat} {loc0 : List (Nat × Ob)} {st1 : St} : ap5 (some (.ar k2 zs u2 hw2 ver2)) d k x len2 s2 loc0 st1 K = (s2 = hw2 /\ len2 = zs.length /\ UQ d k x loc0 zs u2 st1 K) := (rfl)
def Zvj (d : Option Nat) (k : Nat) (x : X) (loc0 : List (Nat × Ob)) (id2 : Oid) (K : St -> Prop) (ts : List Tr) (u : Bool) (st' : St) : Prop := UQ d k x loc0 [ts] u (VK id2 st') K
theorem Zq5 {loc0 : List (Nat × Ob)} {id2 : Oid} {ts : List Tr} {u : Bool} : Zvj d k x loc0 id2 K ts u st = UQ d k x loc0 [ts] u (VK id2 st) K := (rfl)
def aps (o : Option Ob) (d : Option Nat) (k : Nat) (x : X) (loc0 : List (Nat × Ob)) (id2 : Oid) (st1 : St) (K : St -> Prop) : Prop :=
 match o with
 | some (.bx l) => l.length = k /\ ZgP l st1 (Zvj d k x loc0 id2 K)
 | _ => False
theorem Zvk {l : List IV} {loc0 : List (Nat × Ob)} {id2 : Oid} {st1 : St} : aps (some (.bx l)) d k x loc0 id2 st1 K = (l.length = k /\ ZgP l st1 (Zvj d k x loc0 id2 K)) := (rfl)
theorem Zq6 {key : Nat} : ap2 C d k 2 x (.sv (lvl, key)) ⟨lvl, env, loc, out⟩ K = aps (lkO key loc) d k x loc (lvl, key) ⟨lvl, env, loc, out⟩ K := by
 simp only [ap2]
 rw [show (⟨lvl, env, loc, out⟩ : St).sto (lvl, key) = lkO key loc from Yn]
 generalize lkO key loc = o
 apply propext
 constructor
 ·rintro ⟨_, _, h⟩
  cases o with
  | none => exact h
  | some ob => cases ob <;> exact h
 ·intro h
  refine ⟨trivial, trivial, ?_⟩
  cases o with
  | none => exact h
  | some ob => cases ob <;> exact h
end ap
theorem Zn7 {L : Sto} {F : List IV -> Prop} : ∀ {l : List Tr}, JE L (l.map .tr) F = F (l.map .tr)
 | [] => Znz
 | t :: r => by rw [List.map_cons, Zp2, Zn7, ZpY]
theorem ZeX {Pd : Oid -> Prop} : ∀ {l : List Tr}, Ze Pd (l.map .tr) = True
 | [] => rfl
 | t :: r => by simp only [List.map_cons, Ze, men, ZeX, and_self]
def nlf (v : IV) (neg : Bool) (lvl : Nat) (env : List (Nat × IV)) (loc : List (Nat × Ob)) (out : Sto) (d : Option Nat) (K : St -> Prop) : Prop :=
 match v with
 | .tr (.sl es) => K ⟨lvl, ptd d (iB neg) env, loc, out⟩ /\ (es = [] -> K ⟨lvl, ptd d (iB !neg) env, loc, out⟩)
 | .cs es => K ⟨lvl, ptd d (iB neg) env, loc, out⟩ /\ (es = [] -> K ⟨lvl, ptd d (iB !neg) env, loc, out⟩)
 | _ => False
theorem Zxo {C : Zt} {d : Option Nat} {neg : Bool} {x : X} {lvl : Nat} {env : List (Nat × IV)} {loc : List (Nat × Ob)} {out : Sto} {K : St -> Prop} : op2 C d (.nl neg x) ⟨lvl, env, loc, out⟩ K = nlf (xv env x) neg lvl env loc out d K := by
 rw [JC rfl]
 rfl
theorem Zvl {neg : Bool} {es : Row} {d : Option Nat} {lvl : Nat} {env : List (Nat × IV)} {loc : List (Nat × Ob)} {out : Sto} {K : St -> Prop} : nlf (.tr (.sl es)) neg lvl env loc out d K = (K ⟨lvl, ptd d (iB neg) env, loc, out⟩ /\ (es = [] -> K ⟨lvl, ptd d (iB !neg) env, loc, out⟩)) := (rfl)
theorem Zvm {neg : Bool} {es : Row} {d : Option Nat} {lvl : Nat} {env : List (Nat × IV)} {loc : List (Nat × Ob)} {out : Sto} {K : St -> Prop} : nlf (.cs es) neg lvl env loc out d K = (K ⟨lvl, ptd d (iB neg) env, loc, out⟩ /\ (es = [] -> K ⟨lvl, ptd d (iB !neg) env, loc, out⟩)) := (rfl)
section row
variable {C : Zt} {d : Option Nat} {x y hi : X} {lvl : Nat} {env : List (Nat × IV)} {loc : List (Nat × Ob)} {out : Sto} {K : St -> Prop} {st : St}
def ZfH (d : Option Nat) (x : IV) (st : St) (K : St -> Prop) : Prop := K { st with env := ptd d x st.env }
theorem Zq7 {v : IV} : ZfH d v ⟨lvl, env, loc, out⟩ K = K ⟨lvl, ptd d v env, loc, out⟩ := (rfl)
theorem ZcE {v : IV} {id : Oid} {ob : Ob} : ZfH d v (ZA st id ob) K = K { ZA st id ob with env := ptd d v st.env } := by
 unfold ZfH
 rw [Q3]
def cpf (v : IV) (lvl : Nat) (env : List (Nat × IV)) (loc : List (Nat × Ob)) (out : Sto) (d : Option Nat) (K : St -> Prop) : Prop :=
 match v with
 | .cs es => K ⟨lvl, ptd d (iI es.length) env, loc, out⟩
 | _ => False
theorem Zxp : op2 C d (.cp x) ⟨lvl, env, loc, out⟩ K = cpf (xv env x) lvl env loc out d K := by
 rw [JC rfl]
 rfl
theorem Zvn {es : Row} : cpf (.cs es) lvl env loc out d K = K ⟨lvl, ptd d (iI es.length) env, loc, out⟩ := (rfl)
def shg (o : Option Ob) (id : Oid) (m : Int) (len s k : Nat) (d : Option Nat) (st : St) (K : St -> Prop) : Prop :=
 match o with
 | some (.ar k2 es u hw ver) => k2 = k /\ s = hw /\ 0 <= m /\ m.toNat <= len /\ len <= es.length /\ ZfH d (.hd id [] 0 m.toNat none hw) (ZA st id (.ar k2 (es.take m.toNat) u hw (ver + 1))) K
 | _ => False
def shf (v hv : IV) (k : Nat) (d : Option Nat) (st : St) (K : St -> Prop) : Prop :=
 match v with
 | .cs es =>
  match hv with
  | .tr (.v (.int _ m)) => m = es.length /\ UnR k es /\ ZfH d (.cs es) st K
  | _ => False
 | .hd id p off len cap s =>
  match hv with
  | .tr (.v (.int _ m)) => p = [] /\ off = 0 /\ cap = none /\ shg (st.sto id) id m len s k d st K
  | _ => False
 | _ => False
theorem Zxq {k : Nat} : op2 C d (.sh k x hi) ⟨lvl, env, loc, out⟩ K = shf (xv env x) (xv env hi) k d ⟨lvl, env, loc, out⟩ K := by
 rw [JC rfl]
 simp only [ew]
 generalize xv env x = v
 cases v <;> try rfl
 rename_i id p off len cap s
 generalize xv env hi = hv
 cases hv <;> try rfl
 rename_i t
 cases t <;> try rfl
 rename_i q
 cases q <;> try rfl
 simp only [shf, shg]
 generalize (⟨lvl, env, loc, out⟩ : St).sto id = o
 cases o with
 | none => simp
 | some ob =>
  cases ob with
  | bx => simp
  | ar k2 es u hw ver => simp only [ZcE]
theorem Zvo {id : Oid} {len s k : Nat} {kk : IntKind} {m : Int} : shf (.hd id [] 0 len none s) (.tr (.v (.int kk m))) k d ⟨lvl, env, loc, out⟩ K = shg (ZR lvl loc out id) id m len s k d ⟨lvl, env, loc, out⟩ K := by
 simp only [shf, true_and]
 rfl
theorem Zvp {es : Row} {k : Nat} {kk : IntKind} {m : Int} : shf (.cs es) (.tr (.v (.int kk m))) k d ⟨lvl, env, loc, out⟩ K = (m = es.length /\ UnR k es /\ ZfH d (.cs es) ⟨lvl, env, loc, out⟩ K) := (rfl)
theorem Zvq {id : Oid} {len s k k2 hw ver : Nat} {es : Row} {u : Bool} {m : Int} : shg (some (.ar k2 es u hw ver)) id m len s k d st K = (k2 = k /\ s = hw /\ 0 <= m /\ m.toNat <= len /\ len <= es.length /\ ZfH d (.hd id [] 0 m.toNat none hw) (ZA st id (.ar k2 (es.take m.toNat) u hw (ver + 1))) K) := (rfl)
def fzg (o : Option Ob) (len s : Nat) (d : Option Nat) (st1 : St) (K : St -> Prop) : Prop :=
 match o with
 | some (.ar _ zs _ hw _) => s = hw /\ len = zs.length /\ ZfH d (.tr (.sl zs)) st1 K
 | _ => False
def fzf (v : IV) (d : Option Nat) (st : St) (K : St -> Prop) : Prop :=
 match v with
 | .hd id [] 0 len none s => id.1 = st.lvl /\ fzg (st.sto id) len s d (VK id st) K
 | _ => False
theorem Zxr : op2 C d (.fz x) ⟨lvl, env, loc, out⟩ K = fzf (xv env x) d ⟨lvl, env, loc, out⟩ K := by
 rw [JC rfl]
 simp only [ew]
 generalize xv env x = v
 unfold fzf
 split
 ·rename_i id len s
  simp only [fzg]
  generalize (⟨lvl, env, loc, out⟩ : St).sto id = o
  cases o with
  | none => rfl
  | some ob => cases ob <;> rfl
 ·rename_i hv
  split
  ·exact (hv _ _ _ rfl).elim
  ·rfl
theorem Zvr {key len s : Nat} : fzf (.hd (lvl, key) [] 0 len none s) d ⟨lvl, env, loc, out⟩ K = fzg (lkO key loc) len s d (VK (lvl, key) ⟨lvl, env, loc, out⟩) K := by
 simp only [fzf, true_and]
 rw [show (⟨lvl, env, loc, out⟩ : St).sto (lvl, key) = lkO key loc from Yn]
theorem Zvs {len s k hw ver : Nat} {zs : Row} {u : Bool} : fzg (some (.ar k zs u hw ver)) len s d st K = (s = hw /\ len = zs.length /\ ZfH d (.tr (.sl zs)) st K) := (rfl)
def drp (o : Option Ob) (id : Oid) (st : St) : St :=
 match o with
 | none => st
 | some _ => VK id st
theorem Zq8 {id : Oid} : drp none id st = st := (rfl)
theorem Zq9 {ob : Ob} {id : Oid} : drp (some ob) id st = VK id st := (rfl)
def rkg (o : Option Ob) (len s : Nat) (id0 : Oid) (d : Option Nat) (st1 : St) (K : St -> Prop) : Prop :=
 match o with
 | some (.ar k zs u hw ver) => s = hw /\ len = zs.length /\ ZfH d (.hd id0 [] 0 len none s) (ZA st1 id0 (.ar k zs u hw ver)) K
 | _ => False
def rkf (v : IV) (d : Option Nat) (st : St) (K : St -> Prop) : Prop :=
 match v with
 | .hd id [] 0 len none s => id.1 = st.lvl /\ (st.lvl, keyOf d) ≠ id /\ rkg (st.sto id) len s (st.lvl, keyOf d) d (VK id (ZdK (st.lvl, keyOf d) st)) K
 | _ => False
theorem Zxs : op2 C d (.rk x) ⟨lvl, env, loc, out⟩ K = rkf (xv env x) d ⟨lvl, env, loc, out⟩ K := by
 rw [JC rfl]
 simp only [ew]
 generalize xv env x = v
 unfold rkf
 split
 ·rename_i id len s
  simp only [rkg]
  generalize (⟨lvl, env, loc, out⟩ : St).sto id = o
  cases o with
  | none => rfl
  | some ob =>
   cases ob with
   | bx => rfl
   | ar k2 es u hw ver => simp only [ZcE]
 ·rename_i hv
  split
  ·exact (hv _ _ _ rfl).elim
  ·rfl
theorem Zvt {key len s : Nat} {t : Nat} : rkf (.hd (lvl, key) [] 0 len none s) (some t) ⟨lvl, env, loc, out⟩ K = (t * 32 ≠ key /\ rkg (lkO key loc) len s (lvl, t * 32) (some t) (VK (lvl, key) (drp (lkO (t * 32) loc) (lvl, t * 32) ⟨lvl, env, loc, out⟩)) K) := by
 simp only [rkf, true_and, ZdK, keyOf]
 rw [show (⟨lvl, env, loc, out⟩ : St).sto (lvl, key) = lkO key loc from Yn, show (⟨lvl, env, loc, out⟩ : St).sto (lvl, t * 32) = lkO (t * 32) loc from Yn]
 congr 1
 simp
theorem Zvu {len s k hw ver : Nat} {zs : Row} {u : Bool} {id0 : Oid} : rkg (some (.ar k zs u hw ver)) len s id0 d st K = (s = hw /\ len = zs.length /\ ZfH d (.hd id0 [] 0 len none s) (ZA st id0 (.ar k zs u hw ver)) K) := (rfl)
theorem Zn8 {K : List IV -> St -> Prop} : Zk4 [] st K = K [] st := (rfl)
theorem Zn9 {x : X} {r : List X} {K : List IV -> St -> Prop} : Zk4 (x :: r) st K = ZoR (xv st.env x) st fun t st1 => Zk4 r st1 fun ts st2 => K (.ta t :: ts) st2 := (rfl)
def Zvv (o : Option (List Tr × Bool)) (F : List Tr -> Prop) : Prop :=
 match o with
 | some (ts, _) => F ts
 | none => False
def Zvw (o : Option Ob) (F : List Tr -> Prop) : Prop :=
 match o with
 | some (.bx cells) => Zvv (totrs cells) F
 | _ => False
theorem Zra {ts : List Tr} {K : List Tr -> St -> Prop} : ZoR (.ta ts) st K = K ts st := (rfl)
theorem Zrb {key : Nat} {K : List Tr -> St -> Prop} : ZoR (.ab (lvl, key) 0) ⟨lvl, env, loc, out⟩ K = Zvw (lkO key loc) fun ts => K ts (VK (lvl, key) ⟨lvl, env, loc, out⟩) := by
 simp only [ZoR, true_and]
 rw [show (⟨lvl, env, loc, out⟩ : St).sto (lvl, key) = lkO key loc from Yn]
 generalize lkO key loc = o
 cases o with
 | none => rfl
 | some ob =>
  cases ob with
  | ar => rfl
  | bx cells =>
   simp only [Zvw]
   generalize totrs cells = q
   cases q <;> rfl
theorem Zrc {cells : List IV} {F : List Tr -> Prop} : Zvw (some (.bx cells)) F = Zvv (totrs cells) F := (rfl)
theorem Zrd {ts : List Tr} {q : Bool} {F : List Tr -> Prop} : Zvv (some (ts, q)) F = F ts := (rfl)
theorem Zxt {f : Nat} {cs : List X} : op2 C d (.mz f cs) ⟨lvl, env, loc, out⟩ K = Zk4 cs ⟨lvl, env, loc, out⟩ fun l st1 => ZfH d (.fn f l) st1 K := by
 rw [JC rfl]
 rfl
theorem Zoa {K : List Tr -> St -> Prop} : Zk0 [] st K = K [] st := (rfl)
theorem Zob {x : IV} {r : List IV} {K : List Tr -> St -> Prop} : Zk0 (x :: r) st K = Zm3 x st fun t st1 => Zk0 r st1 fun ts st2 => K (t :: ts) st2 := (rfl)
def Zwj (o : Option Ob) (len s : Nat) (F : Row -> Prop) : Prop :=
 match o with
 | some (.ar _ zs _ hw _) => s = hw /\ len = zs.length /\ F zs
 | _ => False
theorem Zoc {t : Tr} {K : Tr -> St -> Prop} : Zm3 (.tr t) st K = K t st := (rfl)
theorem Zod {es : Row} {K : Tr -> St -> Prop} : Zm3 (.cs es) st K = K (.sl es) st := (rfl)
theorem Zoe {key len s : Nat} {K : Tr -> St -> Prop} : Zm3 (.hd (lvl, key) [] 0 len none s) ⟨lvl, env, loc, out⟩ K = Zwj (lkO key loc) len s fun zs => K (.sl zs) (VK (lvl, key) ⟨lvl, env, loc, out⟩) := by
 simp only [Zm3, true_and]
 rw [show (⟨lvl, env, loc, out⟩ : St).sto (lvl, key) = lkO key loc from Yn]
 generalize lkO key loc = o
 cases o with
 | none => rfl
 | some ob => cases ob <;> rfl
theorem Zre {k len s hw ver : Nat} {zs : Row} {u : Bool} {F : Row -> Prop} : Zwj (some (.ar k zs u hw ver)) len s F = (s = hw /\ len = zs.length /\ F zs) := (rfl)
def lzg (o : Option Ob) (off m : Nat) (d : Option Nat) (st : St) (K : St -> Prop) : Prop :=
 match o with
 | some (.bx cells) => off + m <= cells.length /\ Zk0 ((cells.drop off).take m) st fun ts st1 => ZfH d (.ag (ts.map .tr)) st1 K
 | _ => False
def lzf (v : IV) (m : Nat) (d : Option Nat) (st : St) (K : St -> Prop) : Prop :=
 match v with
 | .ab id off => lzg (st.sto id) off m d st K
 | _ => False
theorem Zxu {m : Nat} : op2 C d (.lz m x) ⟨lvl, env, loc, out⟩ K = lzf (xv env x) m d ⟨lvl, env, loc, out⟩ K := by
 rw [JC rfl]
 simp only [ew]
 generalize xv env x = v
 cases v <;> rfl
theorem Zvx {key off m : Nat} : lzf (.ab (lvl, key) off) m d ⟨lvl, env, loc, out⟩ K = lzg (lkO key loc) off m d ⟨lvl, env, loc, out⟩ K := by
 simp only [lzf]
 rw [show (⟨lvl, env, loc, out⟩ : St).sto (lvl, key) = lkO key loc from Yn]
theorem Zvy {cells : List IV} {off m : Nat} : lzg (some (.bx cells)) off m d st K = (off + m <= cells.length /\ Zk0 ((cells.drop off).take m) st fun ts st1 => ZfH d (.ag (ts.map .tr)) st1 K) := (rfl)
def clg (o : Option Ob) (id : Oid) (off len s k : Nat) (d : Option Nat) (st : St) (K : St -> Prop) : Prop :=
 match o with
 | some (.ar k2 es u hw ver) => k2 = k /\ s = hw /\ off + len = es.length /\ ZfH d (.tu []) (ZA st id (.ar k2 (es.take off) u hw (ver + 1))) K
 | _ => False
def clf (v : IV) (k : Nat) (d : Option Nat) (st : St) (K : St -> Prop) : Prop :=
 match v with
 | .hd id p off len _ s => p = [] /\ clg (st.sto id) id off len s k d st K
 | _ => False
theorem Zxv {k : Nat} {z : List Value} : op2 C d (.cl k z x) ⟨lvl, env, loc, out⟩ K = clf (xv env x) k d ⟨lvl, env, loc, out⟩ K := by
 rw [JC rfl]
 simp only [ew]
 generalize xv env x = v
 cases v <;> try rfl
 rename_i id p off len cap s
 simp only [clf, clg]
 generalize (⟨lvl, env, loc, out⟩ : St).sto id = o
 cases o with
 | none => simp
 | some ob =>
  cases ob with
  | bx => simp
  | ar k2 es u hw ver => simp only [ZcE]
theorem Zvz {id : Oid} {off len s k : Nat} {cap : Option Nat} : clf (.hd id [] off len cap s) k d ⟨lvl, env, loc, out⟩ K = clg (ZR lvl loc out id) id off len s k d ⟨lvl, env, loc, out⟩ K := by
 simp only [clf, true_and]
 rfl
theorem ZvA {id : Oid} {off len s k k2 hw ver : Nat} {es : Row} {u : Bool} : clg (some (.ar k2 es u hw ver)) id off len s k d st K = (k2 = k /\ s = hw /\ off + len = es.length /\ ZfH d (.tu []) (ZA st id (.ar k2 (es.take off) u hw (ver + 1))) K) := (rfl)
def srk (off len : Nat) (F : Row -> Prop) (es : Row) (_u : Bool) (_v : Nat) : Prop := off + len <= es.length /\ F (cut es off len)
theorem ZvB {off len : Nat} {F : Row -> Prop} {es : Row} {u : Bool} {v : Nat} : srk off len F es u v = (off + len <= es.length /\ F (cut es off len)) := (rfl)
theorem Zrf {zs : Row} {F : Row -> Prop} : Zm4 st (.tr (.sl zs)) F = F zs := (rfl)
theorem Zrg {zs : Row} {F : Row -> Prop} : Zm4 st (.cs zs) F = F zs := (rfl)
theorem Zrh {id : Oid} {p : Pth} {off len s : Nat} {cap : Option Nat} {F : Row -> Prop} : Zm4 ⟨lvl, env, loc, out⟩ (.hd id p off len cap s) F = rd3 (ZR lvl loc out id) p s (srk off len F) := by
 rw [<- U7]
 rfl
def cyk (es : Row) (u : Bool) (hw ver : Nat) (id : Oid) (off len k : Nat) (d : Option Nat) (st : St) (K : St -> Prop) (zs : Row) : Prop :=
 ScR zs /\ UnR k zs /\ ZfH d (iI (min zs.length len : Nat)) (ZA st id (.ar k (es.take off ++ zs.take len ++ es.drop (off + min zs.length len)) u hw (ver + 1))) K
theorem ZvC {es : Row} {u : Bool} {hw ver : Nat} {id : Oid} {off len k : Nat} {zs : Row} : cyk es u hw ver id off len k d st K zs = (ScR zs /\ UnR k zs /\ ZfH d (iI (min zs.length len : Nat)) (ZA st id (.ar k (es.take off ++ zs.take len ++ es.drop (off + min zs.length len)) u hw (ver + 1))) K) := (rfl)
def cyg (o : Option Ob) (id : Oid) (off len s k : Nat) (v : IV) (d : Option Nat) (st : St) (K : St -> Prop) : Prop :=
 match o with
 | some (.ar k2 es u hw ver) => k2 = k /\ s = hw /\ off + len <= es.length /\ ScR es /\ Zm4 st v (cyk es u hw ver id off len k d st K)
 | _ => False
def cyf (x v : IV) (k : Nat) (d : Option Nat) (st : St) (K : St -> Prop) : Prop :=
 match x with
 | .hd id p off len _ s => p = [] /\ cyg (st.sto id) id off len s k v d st K
 | _ => False
theorem Zxw {k : Nat} : op2 C d (.cy k x y) ⟨lvl, env, loc, out⟩ K = cyf (xv env x) (xv env y) k d ⟨lvl, env, loc, out⟩ K := by
 rw [JC rfl]
 simp only [ew]
 generalize xv env x = v
 cases v <;> try rfl
 rename_i id p off len cap s
 simp only [cyf, cyg]
 generalize (⟨lvl, env, loc, out⟩ : St).sto id = o
 cases o with
 | none => simp
 | some ob =>
  cases ob with
  | bx => simp
  | ar k2 es u hw ver =>
   dsimp only
   by_cases hk : k2 = k
   ·subst hk
    have : (fun zs => ScR zs /\ UnR k2 zs /\ K { ZA ⟨lvl, env, loc, out⟩ id (.ar k2 (es.take off ++ zs.take len ++ es.drop (off + min zs.length len)) u hw (ver + 1)) with env := ptd d (iI (min zs.length len : Nat)) env }) = cyk es u hw ver id off len k2 d ⟨lvl, env, loc, out⟩ K := by
     funext zs
     simp only [cyk, ZcE]
    rw [this]
   ·simp [hk]
theorem ZvD {id : Oid} {off len s k : Nat} {cap : Option Nat} {v : IV} : cyf (.hd id [] off len cap s) v k d ⟨lvl, env, loc, out⟩ K = cyg (ZR lvl loc out id) id off len s k v d ⟨lvl, env, loc, out⟩ K := by
 simp only [cyf, true_and]
 rfl
theorem ZvE {id : Oid} {off len s k k2 hw ver : Nat} {es : Row} {u : Bool} {v : IV} : cyg (some (.ar k2 es u hw ver)) id off len s k v d st K = (k2 = k /\ s = hw /\ off + len <= es.length /\ ScR es /\ Zm4 st v (cyk es u hw ver id off len k d st K)) := (rfl)
end row
theorem Zri {α : Type} {F : α -> Prop} : op3 none F = False := (rfl)
end
abbrev tv (n : Int) : Tr := .v (.int .i64 n)
abbrev ts (s : ByteArray) : Tr := .v (.string s)
abbrev rI (l : List Int) : Row := l.map fun n => [tv n]
abbrev tI (l : List Int) : IV := .tr (.sl (rI l))
abbrev rS (l : List ByteArray) : Row := l.map fun n => [ts n]
abbrev tS (l : List ByteArray) : IV := .tr (.sl (rS l))
theorem Zg (n : Int) : Q1 .i64 n = (-9223372036854775808 <= n /\ n <= 9223372036854775807) := by
 simp [Q1, IntKind.min, IntKind.max, IntKind.signed, IntKind.bits]
theorem ZbF {α : Type} {k : Nat} (f : α -> List Tr) (h : ∀ x, (f x).length = k) (l : List α) : UnR k (l.map f) := by
 intro e he
 obtain ⟨x, _, rfl⟩ := List.mem_map.1 he
 exact h x
end Go.Fd

/-
  FROM THE READER'S FACTS TO TREES: what an input reads as, by its type. Own work.
-/
namespace Go.Fd
def In (w : World) (b : Nat) : Prop := b < w.heap.size
def ZlK (w : World) (cs : List Value) (ts : List Tr) : Prop := ∀ (j : Nat) (v : Value) (t : Tr), cs[j]? = some v -> ts[j]? = some t -> Rds w (In w) v t
def XK (P : Program) (t : TypeId) {α : Type} (c : α -> List Tr) (Q : α -> Prop) : Prop :=
 ∀ (H : Type) (enc : TypeId × Value -> H) (w : World) (sp : Nat -> Bool) (hd : Bool) (fuel : Nat) (cs : List Value) (x : DataW H × List MemPlace),
  DataW.trod enc P w 0 sp hd fuel t cs = some x -> ∃ y, Q y /\ ZlK w cs (c y)
theorem ZaP {w : World} {v : Value} {t : Tr} (h : Rds w (In w) v t) : ZlK w [v] [t] := fun j v' t' h1 h2 => by
 match j with
 | 0 => simp at h1 h2; subst h1; subst h2; exact h
 | j + 1 => simp at h1
theorem ZjP {P : Program} {t : TypeId} (ht : P.underlying t = some (.int .i64)) : XK P t (fun n : Int => [tv n]) (Q1 .i64) := by
 intro H enc w sp hd fuel cs x h
 obtain ⟨n, rfl, _, hw⟩ := DataW.trod_int ht h
 exact ⟨n, by simpa [Lit.wf, Q1] using hw, ZaP (.v _ rfl)⟩
theorem Zf3 {P : Program} {t : TypeId} (ht : P.underlying t = some .string) : XK P t (fun n : ByteArray => [ts n]) (fun n => n.size <= 9223372036854775807) := by
 intro H enc w sp hd fuel cs x h
 obtain ⟨n, rfl, _, hw⟩ := DataW.trod_string ht h
 exact ⟨n, hw, ZaP (.v _ rfl)⟩
theorem Zof {w : World} {a : Addr} {v : Value} (h : w.cell? a = some v) : a.block < w.heap.size := by
 unfold World.cell? at h
 cases hh : w.heap[a.block]? with
 | none => rw [hh] at h; cases h
 | some o => exact (Array.getElem?_eq_some_iff.1 hh).1
theorem Zg9 {α : Type} (n : Nat) (R : Nat -> α -> Prop) (h : ∀ i, i < n -> ∃ y, R i y) : ∃ l : List α, l.length = n /\ ∀ i y, l[i]? = some y -> R i y := by
 induction n with
 | zero => exact ⟨[], rfl, fun i y h => by simp at h⟩
 | succ n ih =>
  obtain ⟨l, hl, hr⟩ := ih (fun i hi => h i (by omega))
  obtain ⟨y, hy⟩ := h n (by omega)
  refine ⟨l ++ [y], by simp [hl], fun i z hz => ?_⟩
  by_cases hi : i < n
  ·rw [List.getElem?_append_left (by omega)] at hz; exact hr i z hz
  ·have hlt := (List.getElem?_eq_some_iff.1 hz).1
   simp only [List.length_append, List.length_singleton] at hlt
   have : i = n := by omega
   subst this
   rw [List.getElem?_append_right (by omega), hl, Nat.sub_self] at hz
   simp at hz
   exact hz ▸ hy
theorem XL {P : Program} {t e : TypeId} {k : Nat} {α : Type} {c : α -> List Tr} {Q : α -> Prop} (ht : P.underlying t = some (.slice e)) (hk : P.cellsOf e = k + 1) (hc : ∀ x, (c x).length = k + 1)
  (he : XK P e c Q) : XK P t (fun l : List α => [.sl (l.map c)]) (fun l => l.length <= 9223372036854775807 /\ ∀ x ∈ l, Q x) := by
 intro H enc w sp hd fuel cs x h
 rcases DataW.trod_slice ht h with ⟨rfl, _⟩ | ⟨a, len, cap, elems, rest, n, _, rfl, _, _, hl, hm, hlen, hel, _, _⟩
 ·exact ⟨[], ⟨by simp, by simp⟩, ZaP (.nil none 0)⟩
 ·have each : ∀ i, i < len -> ∃ y, Q y /\ ∀ j t, (c y)[j]? = some t -> ∃ v, w.cell? (a.add (i * (k + 1) + j)) = some v /\ Rds w (In w) v t := fun i hi => by
   have h1 := hel i hi
   rw [hk] at h1
   obtain ⟨z, hz⟩ : ∃ z, elems[i]? = some z := ⟨elems[i]'(by omega), List.getElem?_eq_getElem _⟩
   rw [hz, Option.bind_eq_some_iff] at h1
   obtain ⟨row, hrow, hx⟩ := h1
   obtain ⟨y, hy, hr⟩ := he H enc w sp hd n row z hx
   obtain ⟨_, hrl, hg⟩ := World.cells?_some hrow
   refine ⟨y, hy, fun j t hj => ?_⟩
   have hjk : j < k + 1 := by rw [<- hc y]; exact (List.getElem?_eq_some_iff.1 hj).1
   have hv : row[j]? = some (row[j]'(by omega)) := List.getElem?_eq_getElem _
   have := hg j hjk
   rw [hv] at this
   have e2 : (a.add (i * (k + 1))).add j = a.add (i * (k + 1) + j) := by
    unfold Addr.add
    by_cases h0 : i * (k + 1) = 0
    ·simp [h0]
    ·by_cases h1 : j = 0
     ·simp [h1, h0]
     ·have h2 : ¬ (i * (k + 1) + j = 0) := by omega
      simp only [if_neg h0, if_neg h1, if_neg h2, Addr.mk.injEq, and_true, true_and]
      omega
   rw [e2] at this
   exact ⟨_, this, hr j _ t hv hj⟩
  obtain ⟨l, hll, hlr⟩ := Zg9 len _ each
  refine ⟨l, ⟨?_, fun y hy => ?_⟩, ZaP ?_⟩
  ·rw [hll]; exact Nat.le_trans hl hm
  ·obtain ⟨i, hi⟩ := List.getElem?_of_mem hy
   exact (hlr i y hi).1
  ·by_cases h0 : len = 0
   ·have : l = [] := List.eq_nil_of_length_eq_zero (by omega)
    subst this; subst h0
    exact .nil _ _
   ·obtain ⟨y0, hy0⟩ : ∃ y0, l[0]? = some y0 := ⟨l[0]'(by omega), List.getElem?_eq_getElem _⟩
    obtain ⟨t0, ht0⟩ : ∃ t0, (c y0)[0]? = some t0 := ⟨(c y0)[0]'(by rw [hc]; omega), List.getElem?_eq_getElem _⟩
    obtain ⟨v0, hv0, _⟩ := (hlr 0 y0 hy0).2 0 t0 ht0
    obtain ⟨b, o, s⟩ := a
    have hs : s = none := by simpa [Addr.add] using World.cell?_spot hv0
    subst hs
    have hb : b < w.heap.size := by simpa [Addr.add] using Zof hv0
    have hel2 : ∀ i e j t, (l.map c)[i]? = some e -> e[j]? = some t -> ∃ v, w.cell? ⟨b, o + i * (k + 1) + j, none⟩ = some v /\ Rds w (In w) v t := fun i e j t h1 h2 => by
     rw [List.getElem?_map, Option.map_eq_some_iff] at h1
     obtain ⟨y, hy, rfl⟩ := h1
     obtain ⟨v, hv, hr⟩ := (hlr i y hy).2 j t h2
     refine ⟨v, ?_, hr⟩
     rw [<- hv]
     congr 1
     unfold Addr.add
     by_cases h0 : i * (k + 1) + j = 0
     ·have : o + i * (k + 1) + j = o := by omega
      rw [if_pos h0, this]
     ·rw [if_neg h0]
      have : o + i * (k + 1) + j = o + (i * (k + 1) + j) := by omega
      simp only [this]
    have hlm : (l.map c).length = len := by simpa using hll
    have := Rds.sl (w := w) (A := In w) b o cap (k + 1) (l.map c) (fun i j => (w.cell? ⟨b, o + i * (k + 1) + j, none⟩).getD .nilFunc) hb
     (fun e he => by simp only [List.mem_map] at he; obtain ⟨y, _, rfl⟩ := he; exact hc y) (by omega)
     (fun i e j t h1 h2 => by obtain ⟨v, hv, _⟩ := hel2 i e j t h1 h2; rw [hv]; rfl)
     (fun i e j t h1 h2 => by obtain ⟨v, hv, hr⟩ := hel2 i e j t h1 h2; rw [hv]; exact hr)
    rw [hlm] at this
    exact this
def Zb3 (P : Program) (o : Nat) (l : List (Nat × TypeId)) {α : Type} (c : α -> List Tr) (Q : α -> Prop) : Prop :=
 ∀ (H : Type) (enc : TypeId × Value -> H) (w : World) (sp : Nat -> Bool) (hd : Bool) (fuel : Nat) (cs : List Value),
  (∀ p ∈ l, ∃ x, DataW.trod enc P w 0 sp hd fuel p.2 ((cs.drop p.1).take (P.cellsOf p.2)) = some x) -> ∃ y, Q y /\ ZlK w (cs.drop o) (c y)
theorem DH {P : Program} {o : Nat} : Zb3 P o [] (fun _ : Unit => []) (fun _ => True) := fun H enc w sp hd fuel cs _ => ⟨(), trivial, fun j v t _ h => by simp at h⟩
theorem Jt {P : Program} {o k : Nat} {t : TypeId} {l : List (Nat × TypeId)} {α β : Type} {c : α -> List Tr} {Q : α -> Prop} {c2 : β -> List Tr} {Q2 : β -> Prop}
  (hk : P.cellsOf t = k) (hc : ∀ x, (c x).length = k) (h1 : XK P t c Q) (h2 : Zb3 P (o + k) l c2 Q2) :
  Zb3 P o ((o, t) :: l) (fun p : α × β => c p.1 ++ c2 p.2) (fun p => Q p.1 /\ Q2 p.2) := fun H enc w sp hd fuel cs h => by
 obtain ⟨x, hx⟩ := h (o, t) (by simp)
 obtain ⟨y, hy, hr⟩ := h1 _ _ _ _ _ _ _ _ hx
 obtain ⟨y2, hy2, hr2⟩ := h2 H enc w sp hd fuel cs (fun p hp => h p (by simp [hp]))
 refine ⟨(y, y2), ⟨hy, hy2⟩, fun j v t' hv ht => ?_⟩
 by_cases hj : j < k
 ·rw [List.getElem?_append_left (by rw [hc]; exact hj)] at ht
  refine hr j v t' ?_ ht
  rw [hk, List.getElem?_take_of_lt hj]
  exact hv
 ·rw [List.getElem?_append_right (by rw [hc]; omega), hc] at ht
  refine hr2 (j - k) v t' ?_ ht
  rw [List.getElem?_drop] at hv ⊢
  rw [<- hv]
  congr 1
  omega
theorem We {P : Program} {t : TypeId} {fs : Array Field} {α : Type} {c : α -> List Tr} {Q : α -> Prop} (ht : P.underlying t = some (.struct fs)) (h : Zb3 P 0 (fs.toList.map fun f => (f.offset, f.type)) c Q) : XK P t c Q := by
 intro H enc w sp hd fuel cs x hx
 obtain ⟨xs, n, _, _, _, hl, hf⟩ := DataW.trod_struct ht hx
 have := h H enc w sp hd n cs (fun p hp => by
  simp only [List.mem_map] at hp
  obtain ⟨f, hf1, rfl⟩ := hp
  obtain ⟨i, hi⟩ := List.getElem?_of_mem hf1
  have hi' : fs[i]? = some f := by simpa using hi
  have hlt : i < xs.length := by rw [hl]; exact (Array.getElem?_eq_some_iff.1 hi').1
  exact ⟨_, (hf i f hi').trans (List.getElem?_eq_getElem hlt)⟩)
 simpa using this
theorem ZjQ {P : Program} {t : TypeId} {α β : Type} {c : α -> List Tr} {Q : α -> Prop} {c2 : β -> List Tr} {Q2 : β -> Prop} (g : α -> β) (hg : ∀ x, c2 (g x) = c x) (hq : ∀ x, Q x -> Q2 (g x)) (h : XK P t c Q) : XK P t c2 Q2 := by
 intro H enc w sp hd fuel cs x hx
 obtain ⟨y, hy, hr⟩ := h H enc w sp hd fuel cs x hx
 exact ⟨g y, hq y hy, by rw [hg]; exact hr⟩
theorem ZcF {P : Program} {t : TypeId} {α β : Type} {c : α -> List Tr} {Q : α -> Prop} {c2 : β -> List Tr} {Q2 : β -> Prop} (h : XK P t c Q) (g : α -> β) (hg : ∀ x, c2 (g x) = c x) (hq : ∀ x, Q x -> Q2 (g x)) : XK P t c2 Q2 := ZjQ g hg hq h
end Go.Fd

/-
  FROM A CONTRACT OF A LAW TO WHAT ITS ROW ASKS. Own work.
-/
namespace Go.Fd
open Go.RowKit
def G0 : Gh := fun _ _ => none
def S0 : Sto := fun _ => none
theorem Av0 {w : World} {b : Nat} (h : In w b) : Av G0 S0 w b := ⟨h, fun id ob hs => by cases hs⟩
theorem Zef {w : World} : ∀ {cs : List Value} {ts : List Tr}, cs.length = ts.length -> ZlK w cs ts -> VRs G0 S0 w (ts.map .tr) cs
 | [], [], _, _ => by simp [VRs]
 | v :: cs, t :: ts, hl, h => by
  simp only [List.map_cons, VRs]
  refine ⟨v, cs, rfl, ?_, Zef (by simpa using hl) (fun j v' t' h1 h2 => h (j + 1) v' t' (by simpa using h1) (by simpa using h2))⟩
  simp only [VR]
  exact Rds.mono (fun b => Av0) (fun b _ => rfl) (h 0 v t rfl rfl)
 | [], _ :: _, hl, _ => by simp at hl
 | _ :: _, [], hl, _ => by simp at hl
theorem U8 {P : Program} {f : FuncId} {args : List IV} {b : Bool} {w : World} {vs : List Value} (h : Sem P f 0 args S0 (iB b) S0) (hv : VRs G0 S0 w args vs) :
  Calls P f vs.toArray w fun e w' => e = .returned (.bool b) /\ Below w.heap.size w w' := by
 obtain ⟨_, _, h⟩ := h
 refine (h (fun id ob hs => by cases hs) G0 w vs ⟨fun id ob hs => (nomatch hs), fun id ob id2 ob2 b2 hs => (nomatch hs), fun id cells hs => (nomatch hs)⟩ hv).mono ?_
 rintro e w' ⟨v, G', rfl, _, hr, _, hf⟩
 have hr' : Rds w' (Av G' (Vz S0 0 0 (impv true 0 0 0 (iB b)).2) w') v (.v (.bool b)) := hr
 cases hr' with
 | v x hx =>
  exact ⟨rfl, hf.os, hf.tape, hf.output, hf.size, fun k hk => hf.old k hk (fun id ob hs => by cases hs)⟩
theorem ZjR {P : Program} {w : World} {r : Reach} {base : Nat} {t e : TypeId} {v : Value} (ht : P.underlying t = some (.slice e)) (h : Value.okWide P w r base t v) : v.cells.toList = [v] := by
 unfold Value.okWide at h
 rw [ht] at h
 simp only [Cell.okWide, ht, Cell.ok] at h
 cases v <;> first | rfl | exact absurd h (by simp)
theorem ZiE {P : Program} {w : World} {r : Reach} {base : Nat} {t : TypeId} {fs : Array Field} {v : Value} (ht : P.underlying t = some (.struct fs)) (h : Value.okWide P w r base t v) : ∃ cs, v = .agg cs /\ cs.size = P.cellsOf t := by
 unfold Value.okWide at h
 rw [ht] at h
 obtain ⟨cs, h1, h2, _⟩ := h
 exact ⟨cs, h1, h2⟩
section
variable {H : Type} {enc : TypeId × Value -> H} {P : Program} {w : World} {t : TypeId} {v : Value} {d : DataW H} {p : List MemPlace} {α : Type} {c : α -> List Tr} {Q : α -> Prop} {sp : Nat -> Bool} {hd : Bool} {base : Nat}
theorem WL {fs : Array Field} {k : Nat} (hr : XK P t c Q) (ht : P.underlying t = some (.struct fs)) (hk : P.cellsOf t = k) (hc : ∀ x, (c x).length = k) (hok : Value.okWide P w .any base t v) (h : DataW.Trod enc P w 0 sp hd t v d p) :
  ∃ y, Q y /\ VR G0 S0 w (.ag ((c y).map .tr)) v := by
 obtain ⟨cs, rfl, hs⟩ := ZiE ht hok
 obtain ⟨n, hn⟩ := h
 obtain ⟨y, hy, hrow⟩ := hr H enc w sp hd n _ _ hn
 refine ⟨y, hy, ?_⟩
 simp only [VR]
 refine ⟨cs.toList, by simp, Zef ?_ hrow⟩
 rw [hc, <- hk, <- hs]
 simp
theorem ZeY {e : TypeId} {g : α -> Tr} (hr : XK P t (fun x => [g x]) Q) (ht : P.underlying t = some (.slice e)) (hok : Value.okWide P w .any base t v) (h : DataW.Trod enc P w 0 sp hd t v d p) :
  ∃ y, Q y /\ VR G0 S0 w (.tr (g y)) v := by
 obtain ⟨n, hn⟩ := h
 rw [ZjR ht hok] at hn
 obtain ⟨y, hy, hrow⟩ := hr H enc w sp hd n _ _ hn
 refine ⟨y, hy, ?_⟩
 simp only [VR]
 exact Rds.mono (fun b => Av0) (fun b _ => rfl) (hrow 0 v _ rfl rfl)
end
theorem Uj {H : Type} {enc : TypeId × Value -> H} {P : Program} {f : Func} {s : ChangeSpec} {apart : Bool} {W W' : World} {args : Array Value} {v : Value} {ds gs : List (DataW H)} {before pa pv : List MemPlace}
  (hW : DataW.Whole enc P f.params.toList s.vars apart W args.toList ds gs before) (hb : Below W.heap.size W W')
  (hres : DataW.TrodAll enc P W' W.heap.size (fun _ => false) false f.resultTypes.toList (v.resultList f.resultTypes.size) (s.fn H (ds ++ gs)).results [])
  (hargs : DataW.TrodAll enc P W' 0 (fun b => decide (b < W.heap.size)) true f.params.toList args.toList (s.fn H (ds ++ gs)).args pa)
  (hvars : DataW.TrodVars enc P W' (fun b => decide (b < W.heap.size)) s.vars (s.fn H (ds ++ gs)).vars pv) :
  s.post enc P f apart true false false W args v W' :=
 ⟨ds, gs, before, [], pa, pv, hW, hres, hargs, hvars, hb.frame _, fun h => by cases h⟩
end Go.Fd

/-
  FOUNDATION 50: contracts of the library, taken over: calls that read scalars alone and answer scalars. Own work.
-/
namespace Go.Fd
open Go.RowKit
theorem Zf4 {w w' : World} (h : Below w.heap.size w w') : Ext w w' := ⟨h.size, h.block, h.os, h.tape, h.output⟩
theorem Zh7 {G : Gh} {S : Sto} {w : World} : ∀ {xs vs : List Value}, VRs G S w (xs.map fun v => .tr (.v v)) vs -> vs = xs
 | [], vs, h => by simpa [VRs] using h
 | x :: r, vs, h => by
  simp only [List.map_cons, VRs] at h
  obtain ⟨v, vr, rfl, h1, h2⟩ := h
  rw [Zh7 h2]
  have h1' : Rds w (Av G S w) v (.v x) := h1
  cases h1'
  rfl
theorem ZiF {P : Program} {f : FuncId} {lvl : Nat} {S : Sto} {args : List IV} {r : IV} (hc : DB P f) (hi : impv true lvl 0 0 r = (r, [])) (hlow : low lvl r)
  (h : (∀ id ob, S id = some ob -> id.1 < lvl) -> ∀ G w vs, SOk G S w -> VRs G S w args vs -> Calls P f vs.toArray w fun e w' => ∃ v, e = .returned v /\ VR G S w' r v /\ Below w.heap.size w w') : Sem P f lvl args S r S := by
 refine ⟨hlow, hc, fun hS G w vs hok hv => ?_⟩
 refine (h hS G w vs hok hv).mono ?_
 rintro e w' ⟨v, rfl, hr, hb⟩
 rw [hi]
 have e : Ext w w' := Zf4 hb
 exact ⟨v, G, rfl, hok.ext e, hr, hS, Frm.of_ext e⟩
theorem Zha {P : Program} {f : FuncId} {lvl : Nat} {S : Sto} {xs : List Value} {y : Value} (hc : DB P f) (hy : UU y = true)
  (h : ∀ w, Calls P f xs.toArray w fun e w' => e = .returned y /\ Below w.heap.size w w') : Sem P f lvl (xs.map fun v => .tr (.v v)) S (.tr (.v y)) S := by
 refine ZiF hc rfl trivial fun _ G w vs _ hv => ?_
 rw [Zh7 hv]
 exact (h w).mono fun e w' ⟨h1, h2⟩ => ⟨y, h1, .v y hy, h2⟩
end Go.Fd

/-
  FOUNDATION 49: rows at a path; functions that mark what they are handed. Own work.
-/
namespace Go.Fd
def W5 : Row -> Pth -> Row -> Row
 | _, [], r => r
 | es, (a, b) :: p, r =>
  match es[a]? with
  | some e =>
   match e[b]? with
   | some (.sl es') => es.set a (e.set b (.sl (W5 es' p r)))
   | _ => es
  | none => es
theorem ZbG {es es' : Row} {a b : Nat} {p : Pth} {e : List Tr} (h1 : es[a]? = some e) (h2 : e[b]? = some (.sl es')) : getp es ((a, b) :: p) = getp es' p := by
 simp only [getp, h1, h2]
theorem VD {es es' : Row} {a b : Nat} {p : Pth} {e : List Tr} {r : Row} (h1 : es[a]? = some e) (h2 : e[b]? = some (.sl es')) : W5 es ((a, b) :: p) r = es.set a (e.set b (.sl (W5 es' p r))) := by
 simp only [W5, h1, h2]
theorem ZiG {es es' : Row} {a b i f : Nat} {p : Pth} {e : List Tr} {t : Tr} (h1 : es[a]? = some e) (h2 : e[b]? = some (.sl es')) : YC es ((a, b) :: p) i f t = es.set a (e.set b (.sl (YC es' p i f t))) := by
 simp only [YC, h1, h2]
theorem DI {es r0 : Row} {a b : Nat} {p : Pth} (h : getp es ((a, b) :: p) = some r0) : ∃ e es', es[a]? = some e /\ e[b]? = some (.sl es') /\ getp es' p = some r0 := by
 simp only [getp] at h
 cases h1 : es[a]? with
 | none => rw [h1] at h; cases h
 | some e =>
  rw [h1] at h
  cases h2 : e[b]? with
  | none => simp only [h2] at h; cases h
  | some t =>
   simp only [h2] at h
   cases t with
   | v x => cases h
   | sl es' => exact ⟨e, es', rfl, h2, h⟩
theorem DJ {α : Type} {l : List α} {a : Nat} {x y : α} (h : l[a]? = some x) : (l.set a y)[a]? = some y := by
 rw [List.getElem?_set_self]; exact (List.getElem?_eq_some_iff.1 h).1
theorem XM {r : Row} : ∀ {p : Pth} {es r0 : Row}, getp es p = some r0 -> getp (W5 es p r) p = some r
 | [], _, _, _ => rfl
 | (a, b) :: p, es, r0, h => by
  obtain ⟨e, es', h1, h2, h3⟩ := DI h
  rw [VD h1 h2, ZbG (DJ h1) (DJ h2)]
  exact XM h3
theorem Zf5 {r s : Row} : ∀ {p : Pth} {es r0 : Row}, getp es p = some r0 -> W5 (W5 es p r) p s = W5 es p s
 | [], _, _, _ => rfl
 | (a, b) :: p, es, r0, h => by
  obtain ⟨e, es', h1, h2, h3⟩ := DI h
  rw [VD h1 h2, VD h1 h2, VD (DJ h1) (DJ h2), Zf5 h3, List.set_set, List.set_set]
theorem Zf6 {r : Row} {i f : Nat} {t : Tr} {e0 : List Tr} (hi : r[i]? = some e0) : ∀ {p : Pth} {es r0 : Row}, getp es p = some r0 -> YC (W5 es p r) p i f t = W5 es p (r.set i (e0.set f t))
 | [], es, _, _ => by simp only [W5, YC, hi]
 | (a, b) :: p, es, r0, h => by
  obtain ⟨e, es', h1, h2, h3⟩ := DI h
  rw [VD h1 h2, VD h1 h2, ZiG (DJ h1) (DJ h2), Zf6 hi h3, List.set_set, List.set_set]
theorem Zf7 {q : Pth} : ∀ {p : Pth} {es r0 : Row}, getp es p = some r0 -> getp es (p ++ q) = getp r0 q
 | [], es, r0, h => by simp only [getp, Option.some.injEq] at h; subst h; rfl
 | (a, b) :: p, es, r0, h => by
  obtain ⟨e, es', h1, h2, h3⟩ := DI h
  rw [List.cons_append, ZbG h1 h2]
  exact Zf7 h3
theorem Zh8 {q : Pth} {z : Row} : ∀ {p : Pth} {es r0 : Row}, getp es p = some r0 -> W5 es (p ++ q) z = W5 es p (W5 r0 q z)
 | [], es, r0, h => by simp only [getp, Option.some.injEq] at h; subst h; rfl
 | (a, b) :: p, es, r0, h => by
  obtain ⟨e, es', h1, h2, h3⟩ := DI h
  rw [List.cons_append, VD h1 h2, VD h1 h2, Zh8 h3]
theorem ZeZ {α : Type} {l : List α} {a : Nat} {x : α} (h : l[a]? = some x) : l.set a x = l := by
 obtain ⟨h1, h2⟩ := List.getElem?_eq_some_iff.1 h
 rw [<- h2, List.set_getElem_self]
theorem Zf8 : ∀ {p : Pth} {es r : Row}, getp es p = some r -> W5 es p r = es
 | [], es, r, h => by simp only [getp, Option.some.injEq] at h; subst h; rfl
 | (a, b) :: p, es, r, h => by
  obtain ⟨e, es', h1, h2, h3⟩ := DI h
  rw [VD h1 h2, Zf8 h3, ZeZ h2, ZeZ h1]
theorem J8 {S : Sto} {id : Oid} {a b : Ob} : ZZ (ZZ S id a) id b = ZZ S id b := by
 funext i
 unfold ZZ
 split <;> rfl
theorem XN {S : Sto} {id : Oid} {a : Ob} (h : S id = some a) : ZZ S id a = S := by
 funext i
 unfold ZZ
 split
 ·rename_i e; rw [e, h]
 ·rfl
theorem WM {lvl : Nat} {loc : List (Nat × Ob)} {S : Sto} {id : Oid} {o : Ob} (h : id.1 ≠ lvl) : ZR lvl loc (ZZ S id o) = ZZ (ZR lvl loc S) id o := by
 funext i
 by_cases e : i = id
 ·subst e
  rw [Js h]
  unfold ZZ
  rw [if_pos rfl, if_pos rfl]
 ·unfold ZZ ZR
  simp only [if_neg e]
section mark
variable {α : Type} (m : α -> Int -> α) (n : α -> Nat)
def mL : List α -> Int -> List α
 | [], _ => []
 | x :: r, k => m x k :: mL r (k + n x)
def nL : List α -> Nat
 | [] => 0
 | x :: r => n x + nL r
theorem Zd : ∀ (a : List α) (k : Int), (mL m n a k).length = a.length
 | [], _ => rfl
 | x :: r, k => by simp only [mL, List.length_cons, Zd r]
theorem Zc7 : ∀ (a b : List α), nL n (a ++ b) = nL n a + nL n b
 | [], b => by simp [nL]
 | x :: r, b => by simp only [List.cons_append, nL, Zc7 r b]; omega
theorem Zf9 : ∀ (a b : List α) (k : Int), mL m n (a ++ b) k = mL m n a k ++ mL m n b (k + nL n a)
 | [], b, k => by simp [mL, nL]
 | x :: r, b, k => by
  simp only [List.cons_append, mL, nL, Zf9 r b]
  rw [show k + (n x : Int) + (nL n r : Int) = k + ((n x + nL n r : Nat) : Int) from by omega]
def kJ (a : List α) (k : Int) (j : Nat) : Int := k + nL n (a.take j)
def lJ (a : List α) (k : Int) (j : Nat) : List α := mL m n (a.take j) k ++ a.drop j
theorem Uk {a : List α} {k : Int} : kJ n a k 0 = k := by simp [kJ, nL]
theorem Zc8 {a : List α} {k : Int} : lJ m n a k 0 = a := by simp [lJ, mL]
theorem ZaQ {a : List α} {k : Int} : kJ n a k a.length = k + nL n a := by simp [kJ]
theorem Zga {a : List α} {k : Int} : lJ m n a k a.length = mL m n a k := by simp [lJ]
theorem YJ {a : List α} {k : Int} {j : Nat} (h : j < a.length) : kJ n a k (j + 1) = kJ n a k j + n a[j] := by
 unfold kJ
 rw [List.take_succ_eq_append_getElem h, Zc7]
 simp only [nL]
 omega
theorem Ze0 {a : List α} {k : Int} {j : Nat} : kJ n a k j <= k + nL n a := by
 have : nL n a = nL n (a.take j) + nL n (a.drop j) := by rw [<- Zc7, List.take_append_drop]
 unfold kJ
 omega
theorem Ze1 {a : List α} {k : Int} {j : Nat} : k <= kJ n a k j := by unfold kJ; omega
theorem Zrj {a : List α} {k : Int} {j : Nat} : (lJ m n a k j).length = a.length := by
 unfold lJ
 rw [List.length_append, Zd, List.length_take, List.length_drop]
 omega
theorem Zrk {a : List α} {k : Int} {j : Nat} (h : j < a.length) : (lJ m n a k j)[j]? = some a[j] := by
 unfold lJ
 have h1 : (mL m n (a.take j) k).length = j := by rw [Zd, List.length_take]; omega
 rw [List.getElem?_append_right (by omega), h1, Nat.sub_self, List.getElem?_drop, Nat.add_zero, List.getElem?_eq_getElem h]
theorem Zrl {a : List α} {k : Int} {j : Nat} (h : j < a.length) : (lJ m n a k j).set j (m a[j] (kJ n a k j)) = lJ m n a k (j + 1) := by
 unfold lJ
 have h1 : (mL m n (a.take j) k).length = j := by rw [Zd, List.length_take]; omega
 rw [List.set_append_right _ _ (by omega), h1, Nat.sub_self, List.drop_eq_getElem_cons h, List.set_cons_zero, List.take_succ_eq_append_getElem h, Zf9]
 simp only [mL, kJ, List.append_assoc, List.cons_append, List.nil_append]
theorem Zgb (c : α -> List Tr) {a : List α} {k : Int} {j : Nat} (h : j < a.length) : ∃ R : Row, j < R.length /\ (lJ m n a k j).map c = R.set j (c a[j]) /\ (lJ m n a k (j + 1)).map c = R.set j (c (m a[j] (kJ n a k j))) := by
 refine ⟨(lJ m n a k j).map c, by rw [List.length_map, Zrj]; exact h, ?_, ?_⟩
 ·refine (ZeZ ?_).symm
  rw [List.getElem?_map, Zrk m n h]; rfl
 ·rw [<- Zrl m n h, List.map_set]
end mark
theorem QX {R : Row} {j : Nat} (h : j < R.length) (e : List Tr) : (R.set j e)[j]? = some e := List.getElem?_set_self h
theorem Xu {es r0 : Row} {p : Pth} {R : Row} {j : Nat} (hv : getp es p = some r0) (h : j < R.length) (e : List Tr) (f : Nat) (t : Tr) : YC (W5 es p (R.set j e)) p j f t = W5 es p (R.set j (e.set f t)) := by
 rw [Zf6 (QX h e) hv, List.set_set]
def MarkS (P : Program) (fid : FuncId) {α : Type} (c : α -> List Tr) (m : α -> Int -> α) (n : α -> Nat) (B : α -> Prop) : Prop :=
 ∀ (a : List α) (k : Int) (lvl : Nat) (S : Sto) (id : Oid) (p : Pth) (es r0 : Row) (kk hw ver st : Nat) (cap : Option Nat), id.1 < lvl -> getp es p = some r0 -> QI p st hw ver true -> 0 <= k -> k + nL n a <= 4611686018427387904 ->
  a.length <= 4294967296 -> (∀ x ∈ a, B x) -> Sem P fid lvl [.hd id p 0 a.length cap st, iI k] (ZZ S id (.ar kk (W5 es p (a.map c)) true hw ver)) (iI (k + nL n a)) (ZZ S id (.ar kk (W5 es p ((mL m n a k).map c)) true hw ver))
theorem MarkS.nested {P : Program} {fid : FuncId} {α : Type} {c : α -> List Tr} {m : α -> Int -> α} {n : α -> Nat} {B : α -> Prop} (hm : MarkS P fid c m n B) {a : List α} {k : Int} {lvl : Nat} {S : Sto} {id : Oid} {p : Pth} {es r0 : Row} {kk hw ver j f : Nat} {R : Row} {e : List Tr}
  (hid : id.1 < lvl) (hv : getp es p = some r0) (h0 : 0 <= k) (h1 : k + nL n a <= 4611686018427387904) (hl : a.length <= 4294967296) (hB : ∀ x ∈ a, B x) (hj : j < R.length) (he : e[f]? = some (.sl (a.map c))) :
  Sem P fid lvl [.hd id (p ++ [(j, f)]) 0 a.length none ver, iI k] (ZZ S id (.ar kk (W5 es p (R.set j e)) true hw ver)) (iI (k + nL n a)) (ZZ S id (.ar kk (W5 es p (R.set j (e.set f (.sl ((mL m n a k).map c))))) true hw ver)) := by
 have hR : (R.set j e)[j]? = some e := by rw [List.getElem?_set_self hj]
 have g1 : getp (W5 es p (R.set j e)) p = some (R.set j e) := XM hv
 have g2 : getp (W5 es p (R.set j e)) (p ++ [(j, f)]) = some (a.map c) := by
  rw [Zf7 g1, ZbG hR he]; rfl
 have := hm a k lvl S id (p ++ [(j, f)]) (W5 es p (R.set j e)) _ kk hw ver ver none hid g2 (by cases p <;> exact ⟨rfl, rfl⟩) h0 h1 hl hB
 rw [Zf8 g2, Zh8 g1, Zf5 hv, VD hR he] at this
 simp only [W5, List.set_set] at this
 exact this
theorem ZlL {P : Program} {fid : FuncId} {α : Type} {c : α -> List Tr} {m : α -> Int -> α} {n : α -> Nat} {B : α -> Prop} (hm : MarkS P fid c m n B) {a : List α} {k : Int} {lvl len : Nat} {S : Sto} {id : Oid} {p : Pth} {es r0 : Row} {kk hw ver j f : Nat} {R : Row} {e : List Tr} {env : List (Nat × IV)} {loc : List (Nat × Ob)} {d : Option Nat} {K : St -> Prop}
  (hid : id.1 < lvl) (hv : getp es p = some r0) (h0 : 0 <= k) (h1 : k + nL n a <= 4611686018427387904) (hl : a.length <= 4294967296) (hB : ∀ x ∈ a, B x) (hj : j < R.length) (he : e[f]? = some (.sl (a.map c))) (hlen : len = a.length)
  (hk : K ⟨lvl, ptd d (iI (k + nL n a)) env, loc, ZZ S id (.ar kk (W5 es p (R.set j (e.set f (.sl ((mL m n a k).map c))))) true hw ver)⟩) :
  kcy (Sem P) fid true lvl env loc (ZZ S id (.ar kk (W5 es p (R.set j e)) true hw ver)) d K [.hd id (p ++ [(j, f)]) 0 len none ver, iI k] := by
 subst hlen
 have hne : id.1 ≠ lvl := by omega
 refine Qg (r := iI (k + nL n a)) loc (ZZ S id (.ar kk (W5 es p (R.set j (e.set f (.sl ((mL m n a k).map c))))) true hw ver)) ?_ ?_ ⟨?_, hk⟩
 ·intro i hi
  have : i ≠ id := fun e => hne (by rw [<- e]; exact hi)
  unfold ZZ
  rw [if_neg this, if_neg this]
 ·rw [WM hne, WM hne]
  exact hm.nested (Nat.lt_succ_of_lt hid) hv h0 h1 hl hB hj he
 ·trivial
theorem WN {lvl key : Nat} {loc : List (Nat × Ob)} {out : Sto} {o : Ob} : ZR lvl (ptO key o loc) out = ZZ (ZR lvl loc out) (lvl, key) o := by
 funext i
 unfold ZR ZZ
 by_cases h : i.1 = lvl
 ·rw [if_pos h, ZcM]
  by_cases h2 : i.2 = key
  ·have : i = (lvl, key) := by obtain ⟨a, b⟩ := i; simp only at h h2; rw [h, h2]
   rw [if_pos h2, if_pos this]
  ·have : ¬ i = (lvl, key) := fun e => h2 (by rw [e])
   rw [if_neg h2, if_neg this]
   exact (if_pos h).symm
 ·have : ¬ i = (lvl, key) := fun e => h (by rw [e])
  rw [if_neg h, if_neg this]
  exact (if_neg h).symm
theorem ZaR {P : Program} {fid : FuncId} {α : Type} {c : α -> List Tr} {m : α -> Int -> α} {n : α -> Nat} {B : α -> Prop} (hm : MarkS P fid c m n B) {a : List α} {k : Int} {lvl : Nat} {out : Sto} {id : Oid} {kk hw ver : Nat} {cap : Option Nat} {env : List (Nat × IV)} {loc : List (Nat × Ob)} {d : Option Nat} {K : St -> Prop}
  (hid : id.1 < lvl) (hS : out id = some (.ar kk (a.map c) true hw ver)) (h0 : 0 <= k) (h1 : k + nL n a <= 4611686018427387904) (hl : a.length <= 4294967296) (hB : ∀ x ∈ a, B x)
  (hk : K ⟨lvl, ptd d (iI (k + nL n a)) env, loc, ZZ out id (.ar kk ((mL m n a k).map c) true hw ver)⟩) :
  kcy (Sem P) fid true lvl env loc out d K [.hd id [] 0 a.length cap hw, iI k] := by
 have hne : id.1 ≠ lvl := by omega
 refine Qg (r := iI (k + nL n a)) loc (ZZ out id (.ar kk ((mL m n a k).map c) true hw ver)) ?_ ?_ ⟨?_, hk⟩
 ·intro i hi
  have : i ≠ id := fun e => hne (by rw [<- e]; exact hi)
  unfold ZZ
  rw [if_neg this]
 ·rw [WM hne]
  have e : ZR lvl loc out = ZZ (ZR lvl loc out) id (.ar kk (W5 (a.map c) [] (a.map c)) true hw ver) := (XN (by rw [Js hne]; exact hS)).symm
  have := hm a k (lvl + 1) (ZR lvl loc out) id [] (a.map c) (a.map c) kk hw ver hw cap (Nat.lt_succ_of_lt hid) rfl rfl h0 h1 hl hB
  rw [<- e] at this
  exact this
 ·trivial
theorem WO {P : Program} {fid : FuncId} {α : Type} {c : α -> List Tr} {m : α -> Int -> α} {n : α -> Nat} {B : α -> Prop} (hm : MarkS P fid c m n B) {a : List α} {k : Int} {lvl key : Nat} {out : Sto} {kk hw ver : Nat} {cap : Option Nat} {env : List (Nat × IV)} {loc : List (Nat × Ob)} {d : Option Nat} {K : St -> Prop}
  (hS : lkO key loc = some (.ar kk (a.map c) true hw ver)) (h0 : 0 <= k) (h1 : k + nL n a <= 4611686018427387904) (hl : a.length <= 4294967296) (hB : ∀ x ∈ a, B x)
  (hk : K ⟨lvl, ptd d (iI (k + nL n a)) env, ptO key (.ar kk ((mL m n a k).map c) true hw ver) loc, out⟩) :
  kcy (Sem P) fid true lvl env loc out d K [.hd (lvl, key) [] 0 a.length cap hw, iI k] := by
 refine Qg (r := iI (k + nL n a)) (ptO key (.ar kk ((mL m n a k).map c) true hw ver) loc) out (fun _ _ => rfl) ?_ ⟨?_, hk⟩
 ·rw [WN]
  have e : ZR lvl loc out = ZZ (ZR lvl loc out) (lvl, key) (.ar kk (W5 (a.map c) [] (a.map c)) true hw ver) := (XN (by unfold ZR; rw [if_pos rfl]; exact hS)).symm
  have := hm a k (lvl + 1) (ZR lvl loc out) (lvl, key) [] (a.map c) (a.map c) kk hw ver hw cap (Nat.lt_succ_self _) rfl rfl h0 h1 hl hB
  rw [<- e] at this
  exact this
 ·trivial
end Go.Fd

/-
  FOUNDATION 55: a function of the library that orders a row of scalars in place, by the guide's contract. Own work.
-/
namespace Go.Fd
open Go.Sort
section
variable {P : Program} {α : Type} [Inhabited α] {enc : α -> Value}
abbrev Zk2 (enc : α -> Value) (l : List α) : Row := l.map fun x => [.v (enc x)]
theorem ZaS {l : List α} {p : Pth} {es2 : Row} (hp : p ≠ []) : getp (Zk2 enc l) p ≠ some es2 := fun h => by
 cases p with
 | nil => exact hp rfl
 | cons cd q =>
  obtain ⟨c, d⟩ := cd
  obtain ⟨e, x, h1, h2, _⟩ := JT h
  obtain ⟨n, _, rfl⟩ := List.mem_map.1 (List.mem_of_getElem? h1)
  have := List.mem_of_getElem? h2
  simp at this
theorem Zhb {l : List α} : UnR 1 (Zk2 enc l) := ZbF (fun x => [.v (enc x)]) (fun _ => rfl) l
theorem Ze2 {d : Array α} {off : Nat} {c : Array Value} : (putCells enc off d c).size = c.size := by simp [putCells]
theorem Zgc {d : List α} {c : Array Value} {i : Nat} (h : i < d.length) (hc : i < c.size) : (putCells enc 0 d.toArray c)[i]? = some (enc d[i]) := by
 simp [putCells, hc, h]
theorem Zgd {f : FuncId} {lvl : Nat} {S : Sto} {id : Oid} {xs ys : List α} {u : Bool} {hw ver : Nat} (hc : DB P f) (hid : id.1 < lvl) (hS : S id = some (.ar 1 (Zk2 enc xs) u hw ver))
  (hsc : ∀ x : α, UU (enc x) = true) (hl : ys.length = xs.length)
  (h0 : xs = [] -> ∀ (a : Option Addr) (cap : Nat) (w : World), Calls P f #[.slice a 0 cap] w fun e w' => e = .returned (.tuple #[]) /\ ∃ n, w' = Sort.ahead w n)
  (h1 : xs ≠ [] -> ∀ (b cap : Nat) (w : World), Holds enc w b 0 xs.toArray -> b < w.heap.size -> Calls P f #[.slice (some ⟨b, 0, none⟩) xs.length cap] w fun e w' => e = .returned (.tuple #[]) /\ ∃ n os, w' = grow (putRow enc (Sort.ahead w n) b 0 ys.toArray) os) :
  Sem P f lvl [.hd id [] 0 xs.length none hw] S (.tu []) (ZZ S id (.ar 1 (Zk2 enc ys) u hw ver)) := by
 refine ⟨trivial, hc, fun hlow G w vs hok hv => ?_⟩
 simp only [VRs] at hv
 obtain ⟨v, vr, rfl, hv, rfl⟩ := hv
 simp only [VR] at hv
 obtain ⟨⟨a0, c0, hv0, hlc0⟩, k2, es2, u2, hw2, ver2, hs2, _, hrel⟩ := hv
 rw [hS] at hs2; cases hs2
 obtain ⟨es3, k', a, c, hg3, hk, hun, rfl, hlc, hcap, hcap2, hor⟩ := hrel rfl
 cases hg3
 have hk1 := hk rfl
 subst hk1
 by_cases hx : xs = []
 ·subst hx
  have hy : ys = [] := List.length_eq_zero_iff.1 (by simpa using hl)
  subst hy
  rw [XN hS]
  refine (h0 rfl a c w).mono ?_
  rintro e w' ⟨rfl, n, rfl⟩
  have e : Ext w (Sort.ahead w n) := ⟨Nat.le_refl _, fun _ _ => rfl, rfl, rfl, rfl⟩
  exact ⟨_, G, rfl, hok.ext e, by simp [impv, impvs, VR, VRs], hlow, Frm.of_ext e⟩
 ·have hpos : 0 < xs.length := List.length_pos_iff.2 hx
  rcases hor with hz | ⟨hz, _⟩ | ⟨b, cc, hG, rfl, hoc⟩
  ·omega
  ·exact absurd rfl hz
  ·obtain ⟨o1, o2, o3, o4, o5⟩ := hok.obs _ _ hS
   have hr := o4 [] _ (.inl rfl) rfl
   unfold Xb at hr
   rw [hG] at hr
   obtain ⟨k3, cells, ty, g1, g2, g3, g4, g5, g6⟩ := hr
   have hk3 := g1 rfl
   subst hk3
   have hbs : b < w.heap.size := by
    rcases Nat.lt_or_ge b w.heap.size with h | h
    ·exact h
    ·rw [Array.getElem?_eq_none h] at g3; cases g3
   have hH : Holds enc w b 0 xs.toArray := fun j hj => by
    have hj : j < xs.length := by simpa using hj
    obtain ⟨x, hx1, hx2⟩ := g6 j [.v (enc xs[j])] 0 (.v (enc xs[j])) (by simp [hj]) rfl
    simp only [Yk] at hx2
    obtain ⟨rfl, _⟩ := hx2
    refine ⟨?_, by simp [World.frozen?, g3]⟩
    have : (xs.toArray)[j]! = xs[j] := by simp [hj]
    rw [this, cell_of_row w b (0 + j) cells ty (0, 0) g3]
    simpa using hx1
   refine (h1 hx b c w hH hbs).mono ?_
   rintro e w' ⟨rfl, n, os, rfl⟩
   have hsz : w.heap.size <= (grow (putRow enc (Sort.ahead w n) b 0 ys.toArray) os).heap.size := by simp [grow, putRow, mapBlock, Sort.ahead]
   have hheap : ∀ b2, b2 < w.heap.size -> b2 ≠ b -> (grow (putRow enc (Sort.ahead w n) b 0 ys.toArray) os).heap[b2]? = w.heap[b2]? := fun b2 h2 hne => by
    simp only [grow, putRow, mapBlock, Sort.ahead]
    rw [Array.getElem?_append_left (by simpa using h2), Array.getElem?_modify, if_neg (fun e => hne e.symm)]
   have hrow : (grow (putRow enc (Sort.ahead w n) b 0 ys.toArray) os).heap[b]? = some (.cells (putCells enc 0 ys.toArray cells) ty (0, 0)) := by
    simp only [grow, putRow, mapBlock, Sort.ahead]
    rw [Array.getElem?_append_left (by simpa using hbs), Array.getElem?_modify, if_pos rfl, g3]
    rfl
   have hown : ∀ ob b2, ob = (.ar 1 (Zk2 enc ys) u hw ver : Ob) -> Y4 G id ob b2 -> b2 = b := fun ob b2 ho h => by
    subst ho
    obtain ⟨p, c2, hp, hq, hg⟩ := h
    by_cases hp0 : p = []
    ·subst hp0
     rw [hG] at hg
     cases hg
     rfl
    ·obtain ⟨e2, he2⟩ := Option.isSome_iff_exists.1 hq
     exact absurd he2 (ZaS hp0)
   have hbown : Y4 G id (.ar 1 (Zk2 enc xs) u hw ver) b := ⟨[], cc, .inl rfl, rfl, hG⟩
   have t : Trn G G S (ZZ S id (.ar 1 (Zk2 enc ys) u hw ver)) w (grow (putRow enc (Sort.ahead w n) b 0 ys.toArray) os) (· = id) (fun _ => False) := by
    refine ⟨fun _ _ => rfl, fun i ob hi _ hs => ⟨ob, by unfold ZZ; rw [if_neg hi]; exact hs, Wk.refl ob⟩, fun i ob hi hs => ⟨fun h => h, ob, by unfold ZZ at hs; rw [if_neg hi] at hs; exact hs, Wk.refl ob⟩, hsz, fun b2 h2 hn => hheap b2 h2 fun e => hn id _ rfl hS (e ▸ hbown), fun i ob b2 hi hs ho => ?_, fun i ob hi _ hs => ?_⟩
    ·subst hi
     unfold ZZ at hs; rw [if_pos rfl] at hs; cases hs
     have := hown _ b2 rfl ho
     subst this
     exact .inl ⟨i, _, .inl rfl, hS, hbown⟩
    ·subst hi
     rw [hS] at hs; cases hs
     refine ⟨.ar 1 (Zk2 enc ys) u hw ver, by unfold ZZ; rw [if_pos rfl], rfl, Nat.le_refl _, Nat.le_refl _, fun p st _ hst => ⟨hst, fun es' he => ?_⟩⟩
     by_cases hp0 : p = []
     ·subst hp0
      exact ⟨rfl, _, rfl, fun k' hkk _ => by rw [hkk rfl]; exact Zhb⟩
     ·exact absurd he (ZaS hp0)
   refine ⟨_, G, rfl, t.ok hok (fun i ob hi hs => ?_) (fun i ob j ob' b hi hj _ _ _ _ => hi.trans hj.symm) (fun i cells hi hs => ?_), by simp [impv, impvs, VR, VRs], fun i ob hs => ?_, t.frm (fun _ h => h.elim) rfl rfl rfl⟩
   ·subst hi
    simp only [impv, impvs, Vz, ZZ, if_true] at hs; cases hs
    refine ⟨by rw [List.length_map] at *; omega, Zhb, o3, fun p es2 hp he => ?_, fun p p' b1 c1 c2 hp hp' g1 g2 g3 g4 => ?_⟩
    ·by_cases hp0 : p = []
     ·subst hp0
      cases he
      unfold Xb
      rw [hG]
      refine ⟨1, _, ty, fun _ => rfl, Zhb, hrow, by rw [Ze2]; exact g4, by rw [List.length_map] at *; omega, fun i e f t hi hf => ?_⟩
      rw [List.getElem?_map] at hi
      obtain ⟨y, hy, rfl⟩ := Option.map_eq_some_iff.1 hi
      obtain ⟨hil, hyy⟩ := List.getElem?_eq_some_iff.1 hy
      have hf0 : f = 0 /\ t = .v (enc y) := by
       cases f with
       | zero => simp at hf; exact ⟨rfl, hf.symm⟩
       | succ f => simp at hf
      obtain ⟨rfl, rfl⟩ := hf0
      refine ⟨enc y, ?_, rfl, hsc y⟩
      rw [List.length_map] at g5
      rw [show i * 1 + 0 = i from by omega, Zgc hil (by omega), hyy]
     ·exact absurd he (ZaS hp0)
    ·by_cases hp0 : p = []
     ·by_cases hp1 : p' = []
      ·rw [hp0, hp1]
      ·obtain ⟨e2, he2⟩ := Option.isSome_iff_exists.1 g2
       exact absurd he2 (ZaS hp1)
     ·obtain ⟨e2, he2⟩ := Option.isSome_iff_exists.1 g1
      exact absurd he2 (ZaS hp0)
   ·subst hi
    simp only [impv, impvs, Vz, ZZ, if_true] at hs; cases hs
   ·simp only [ZZ] at hs
    split at hs
    ·rename_i h; rw [h]; exact hid
    ·exact hlow i ob hs
end
end Go.Fd

/-
  FOUNDATION 56: a function of the library that orders a row of structs by another function, in place, by the guide's contract. Own work.
-/
namespace Go.Fd
open Go.Sort Go.Proofs Go.RowKit
section
variable {P : Program} {α : Type} [Inhabited α] {enc : α -> List Value} {k : Nat}
abbrev ZmE (enc : α -> List Value) (l : List α) : Row := l.map fun x => (enc x).map .v
theorem ZaT {l : List α} {p : Pth} {es2 : Row} (hp : p ≠ []) : getp (ZmE enc l) p ≠ some es2 := fun h => by
 cases p with
 | nil => exact hp rfl
 | cons cd q =>
  obtain ⟨c, d⟩ := cd
  obtain ⟨e, x, h1, h2, _⟩ := JT h
  obtain ⟨n, _, rfl⟩ := List.mem_map.1 (List.mem_of_getElem? h1)
  obtain ⟨v, _, hv⟩ := List.mem_map.1 (List.mem_of_getElem? h2)
  cases hv
theorem Zhc (hk : ∀ x, (enc x).length = k) {l : List α} : UnR k (ZmE enc l) := ZbF (fun x => (enc x).map .v) (fun x => by rw [List.length_map, hk]) l
theorem Zge {l : List α} : (flatK enc k l.toArray).size = l.length * k := by simp [flatK]
theorem Zh9 (hk : ∀ x, (enc x).length = k) {l : List α} {i f : Nat} (hi : i < l.length) (hf : f < k) : (flatK enc k l.toArray)[i * k + f]! = (enc l[i])[f]'(by rw [hk]; exact hf) := by
 have h1 : (i * k + f) / k = i := by
  rw [Nat.mul_comm, Nat.mul_add_div (by omega), Nat.div_eq_of_lt hf, Nat.add_zero]
 have h2 : (i * k + f) % k = f := by
  rw [Nat.mul_comm, Nat.mul_add_mod, Nat.mod_eq_of_lt hf]
 have h3 : i * k + f < l.length * k := by
  have : (i + 1) * k <= l.length * k := Nat.mul_le_mul_right k hi
  rw [Nat.add_mul, Nat.one_mul] at this
  omega
 have hfl : f < (enc l[i]).length := by rw [hk]; exact hf
 simp [flatK, h3, h1, h2, hi, hfl]
theorem ZlM {F c : Array Value} {i : Nat} (h : i < F.size) (hc : i < c.size) : (putCells id 0 F c)[i]? = some F[i]! := by
 simp [putCells, hc, h]
theorem ZjS {F c : Array Value} : (putCells id 0 F c).size = c.size := by simp [putCells]
theorem Ze3 {f g : FuncId} {lvl : Nat} {S : Sto} {id : Oid} {xs ys : List α} {u : Bool} {hw ver : Nat} (hk : ∀ x, (enc x).length = k) (hk0 : 0 < k) (hc : DB P f) (hid : id.1 < lvl) (hS : S id = some (.ar k (ZmE enc xs) u hw ver))
  (hsc : ∀ x : α, ∀ v ∈ enc x, UU v = true) (hl : ys.length = xs.length) (hpos : 0 < xs.length)
  (h1 : ∀ (b cap : Nat) (w : World), HoldsK enc k w b 0 xs.toArray -> b < w.heap.size -> Calls P f #[.slice (some ⟨b, 0, none⟩) xs.length cap, .func (.func g) #[] #[]] w fun e w' => e = .returned (.tuple #[]) /\ ∃ n os, w' = sortWorldK enc k w b 0 n ys.toArray os) :
  Sem P f lvl [.hd id [] 0 xs.length none hw, .fn g []] S (.tu []) (ZZ S id (.ar k (ZmE enc ys) u hw ver)) := by
 refine ⟨trivial, hc, fun hlow G w vs hok hv => ?_⟩
 simp only [VRs] at hv
 obtain ⟨v, vr, rfl, hv, v2, vr2, rfl, hv2, rfl⟩ := hv
 simp only [VR] at hv hv2
 obtain ⟨vs2, rfl, hvs2⟩ := hv2
 have hv20 : vs2 = [] := hvs2
 subst hv20
 obtain ⟨⟨a0, c0, hv0, hlc0⟩, k2, es2, u2, hw2, ver2, hs2, _, hrel⟩ := hv
 rw [hS] at hs2; cases hs2
 obtain ⟨es3, k', a, c, hg3, hkk, hun, rfl, hlc, hcap, hcap2, hor⟩ := hrel rfl
 cases hg3
 have hk1 := hkk rfl
 subst hk1
 rcases hor with hz | ⟨hz, _⟩ | ⟨b, cc, hG, rfl, hoc⟩
 ·omega
 ·exact absurd rfl hz
 ·obtain ⟨o1, o2, o3, o4, o5⟩ := hok.obs _ _ hS
  have hr := o4 [] _ (.inl rfl) rfl
  unfold Xb at hr
  rw [hG] at hr
  obtain ⟨k3, cells, ty, g1, g2, g3, g4, g5, g6⟩ := hr
  have hk3 := g1 rfl
  subst hk3
  have hbs : b < w.heap.size := by
   rcases Nat.lt_or_ge b w.heap.size with h | h
   ·exact h
   ·rw [Array.getElem?_eq_none h] at g3; cases g3
  have hH : HoldsK enc k3 w b 0 xs.toArray := fun j hj => by
   rw [Zge] at hj
   obtain ⟨i, f, rfl, hf⟩ : ∃ i f, j = i * k3 + f /\ f < k3 := ⟨j / k3, j % k3, by rw [Nat.mul_comm]; exact (Nat.div_add_mod j k3).symm, Nat.mod_lt _ hk0⟩
   have hi : i < xs.length := by
    rcases Nat.lt_or_ge i xs.length with h | h
    ·exact h
    ·have := Nat.mul_le_mul_right k3 h
     omega
   have hfl : f < (enc xs[i]).length := by rw [hk]; exact hf
   obtain ⟨x, hx1, hx2⟩ := g6 i ((enc xs[i]).map .v) f (.v (enc xs[i])[f]) (by simp [hi]) (by simp [hfl])
   simp only [Yk] at hx2
   obtain ⟨rfl, _⟩ := hx2
   refine ⟨?_, by simp [World.frozen?, g3]⟩
   rw [Zh9 hk hi hf, cell_of_row w b (0 + (i * k3 + f)) cells ty (0, 0) g3]
   simpa using hx1
  rw [Nat.zero_mul]
  refine (h1 b c w hH hbs).mono ?_
  rintro e w' ⟨rfl, n, os, rfl⟩
  have hsz : w.heap.size <= (sortWorldK enc k3 w b 0 n ys.toArray os).heap.size := by simp [sortWorldK, putRowK, grow, putRow, mapBlock, Sort.ahead]
  have hheap : ∀ b2, b2 < w.heap.size -> b2 ≠ b -> (sortWorldK enc k3 w b 0 n ys.toArray os).heap[b2]? = w.heap[b2]? := fun b2 h2 hne => by
   simp only [sortWorldK, putRowK, grow, putRow, mapBlock, Sort.ahead]
   rw [Array.getElem?_append_left (by simpa using h2), Array.getElem?_modify, if_neg (fun e => hne e.symm)]
  have hrow : (sortWorldK enc k3 w b 0 n ys.toArray os).heap[b]? = some (.cells (putCells _root_.id 0 (flatK enc k3 ys.toArray) cells) ty (0, 0)) := by
   simp only [sortWorldK, putRowK, grow, putRow, mapBlock, Sort.ahead]
   rw [Array.getElem?_append_left (by simpa using hbs), Array.getElem?_modify, if_pos rfl, g3]
   rfl
  have hown : ∀ ob b2, ob = (.ar k3 (ZmE enc ys) u hw ver : Ob) -> Y4 G id ob b2 -> b2 = b := fun ob b2 ho h => by
   subst ho
   obtain ⟨p, c2, hp, hq, hg⟩ := h
   by_cases hp0 : p = []
   ·subst hp0
    rw [hG] at hg
    cases hg
    rfl
   ·obtain ⟨e2, he2⟩ := Option.isSome_iff_exists.1 hq
    exact absurd he2 (ZaT hp0)
  have hbown : Y4 G id (.ar k3 (ZmE enc xs) u hw ver) b := ⟨[], cc, .inl rfl, rfl, hG⟩
  have t : Trn G G S (ZZ S id (.ar k3 (ZmE enc ys) u hw ver)) w (sortWorldK enc k3 w b 0 n ys.toArray os) (· = id) (fun _ => False) := by
   refine ⟨fun _ _ => rfl, fun i ob hi _ hs => ⟨ob, by unfold ZZ; rw [if_neg hi]; exact hs, Wk.refl ob⟩, fun i ob hi hs => ⟨fun h => h, ob, by unfold ZZ at hs; rw [if_neg hi] at hs; exact hs, Wk.refl ob⟩, hsz, fun b2 h2 hn => hheap b2 h2 fun e => hn id _ rfl hS (e ▸ hbown), fun i ob b2 hi hs ho => ?_, fun i ob hi _ hs => ?_⟩
   ·subst hi
    unfold ZZ at hs; rw [if_pos rfl] at hs; cases hs
    have := hown _ b2 rfl ho
    subst this
    exact .inl ⟨i, _, .inl rfl, hS, hbown⟩
   ·subst hi
    rw [hS] at hs; cases hs
    refine ⟨.ar k3 (ZmE enc ys) u hw ver, by unfold ZZ; rw [if_pos rfl], rfl, Nat.le_refl _, Nat.le_refl _, fun p st _ hst => ⟨hst, fun es' he => ?_⟩⟩
    by_cases hp0 : p = []
    ·subst hp0
     exact ⟨rfl, _, rfl, fun k' hkk _ => by rw [hkk rfl]; exact Zhc hk⟩
    ·exact absurd he (ZaT hp0)
  refine ⟨_, G, rfl, t.ok hok (fun i ob hi hs => ?_) (fun i ob j ob' b hi hj _ _ _ _ => hi.trans hj.symm) (fun i cells hi hs => ?_), by simp [impv, impvs, VR, VRs], fun i ob hs => ?_, t.frm (fun _ h => h.elim) rfl rfl rfl⟩
  ·subst hi
   simp only [impv, impvs, Vz, ZZ, if_true] at hs; cases hs
   refine ⟨by rw [List.length_map] at *; omega, Zhc hk, o3, fun p es2 hp he => ?_, fun p p' b1 c1 c2 hp hp' g1 g2 g3 g4 => ?_⟩
   ·by_cases hp0 : p = []
    ·subst hp0
     cases he
     unfold Xb
     rw [hG]
     refine ⟨k3, _, ty, fun _ => rfl, Zhc hk, hrow, by rw [ZjS]; exact g4, by rw [List.length_map] at *; omega, fun i e f t hi hf => ?_⟩
     rw [List.getElem?_map] at hi
     obtain ⟨y, hy, rfl⟩ := Option.map_eq_some_iff.1 hi
     obtain ⟨hil, hyy⟩ := List.getElem?_eq_some_iff.1 hy
     rw [List.getElem?_map] at hf
     obtain ⟨v, hv, rfl⟩ := Option.map_eq_some_iff.1 hf
     obtain ⟨hfl, hvv⟩ := List.getElem?_eq_some_iff.1 hv
     have hfk : f < k3 := by rw [<- hk y]; exact hfl
     have hlt : i * k3 + f < ys.length * k3 := by
      have : (i + 1) * k3 <= ys.length * k3 := Nat.mul_le_mul_right k3 hil
      rw [Nat.add_mul, Nat.one_mul] at this
      omega
     have hlt2 : i * k3 + f < cells.size := by
      rw [List.length_map] at g5
      rw [g4]
      have : ys.length * k3 <= cc * k3 := Nat.mul_le_mul_right k3 (by omega)
      omega
     refine ⟨v, ?_, rfl, hsc y v (List.mem_of_getElem? hv)⟩
     rw [ZlM (by rw [Zge]; exact hlt) hlt2, Zh9 hk hil hfk]
     subst hyy
     rw [hvv]
    ·exact absurd he (ZaT hp0)
   ·by_cases hp0 : p = []
    ·by_cases hp1 : p' = []
     ·rw [hp0, hp1]
     ·obtain ⟨e2, he2⟩ := Option.isSome_iff_exists.1 g2
      exact absurd he2 (ZaT hp1)
    ·obtain ⟨e2, he2⟩ := Option.isSome_iff_exists.1 g1
     exact absurd he2 (ZaT hp0)
  ·subst hi
   simp only [impv, impvs, Vz, ZZ, if_true] at hs; cases hs
  ·simp only [ZZ] at hs
   split at hs
   ·rename_i h; rw [h]; exact hid
   ·exact hlow i ob hs
end
end Go.Fd

/-
  NUMBERS OF LIBRARY FUNCTIONS IN THIS PROGRAM, as the guide's shelf lays them (printed by lay.py out of the kit's own command).
-/
namespace Go.Proofs
open Go.Shelf
def Tryz.sortW_ren : Go.Shelf.Ren := ⟨fun | 6 => 141 | 15 => 166 | 14 => 165 | 28 => 181 | 29 => 182 | 20 => 173 | 21 => 174 | 22 => 175 | 23 => 176 | 24 => 177 | 25 => 178 | 26 => 179 | 27 => 180 | 46 => 195 | 47 => 196 | 48 => 197 | 49 => 198 | 50 => 199 | 57 => 208 | n => n, fun | 22 => 32 | 24 => 108 | 25 => 133 | 3 => 3 | 39 => 154 | 0 => 0 | 53 => 170 | 55 => 172 | 4 => 4 | 46 => 163 | 45 => 162 | 50 => 167 | 5 => 5 | 9 => 9 | 66 => 180 | 70 => 184 | 76 => 195 | 77 => 196 | n => n, fun | n => n⟩
theorem Tryz.sortW : Go.Proofs.SlLaysF0.n6 Tryz.prog Tryz.sortW_ren := {
  mixed := by kernel_rfl,
  f6 := ⟨"slices.SortFunc[[]loop.example/g01082/impl.Wire,loop.example/g01082/impl.Wire]", by decide, Tryz.func141.trans (congrArg some (by kernel_rfl))⟩,
  f14 := ⟨"slices.pdqsortCmpFunc[loop.example/g01082/impl.Wire]", by decide, Tryz.func165.trans (congrArg some (by kernel_rfl))⟩,
  f15 := Tryz.func166.trans (congrArg some (by kernel_rfl)),
  f20 := ⟨"slices.insertionSortCmpFunc[loop.example/g01082/impl.Wire]", by decide, Tryz.func173.trans (congrArg some (by kernel_rfl))⟩,
  f21 := ⟨"slices.heapSortCmpFunc[loop.example/g01082/impl.Wire]", by decide, Tryz.func174.trans (congrArg some (by kernel_rfl))⟩,
  f22 := ⟨"slices.breakPatternsCmpFunc[loop.example/g01082/impl.Wire]", by decide, Tryz.func175.trans (congrArg some (by kernel_rfl))⟩,
  f23 := ⟨"slices.choosePivotCmpFunc[loop.example/g01082/impl.Wire]", by decide, Tryz.func176.trans (congrArg some (by kernel_rfl))⟩,
  f24 := ⟨"slices.reverseRangeCmpFunc[loop.example/g01082/impl.Wire]", by decide, Tryz.func177.trans (congrArg some (by kernel_rfl))⟩,
  f25 := ⟨"slices.partialInsertionSortCmpFunc[loop.example/g01082/impl.Wire]", by decide, Tryz.func178.trans (congrArg some (by kernel_rfl))⟩,
  f26 := ⟨"slices.partitionEqualCmpFunc[loop.example/g01082/impl.Wire]", by decide, Tryz.func179.trans (congrArg some (by kernel_rfl))⟩,
  f27 := ⟨"slices.partitionCmpFunc[loop.example/g01082/impl.Wire]", by decide, Tryz.func180.trans (congrArg some (by kernel_rfl))⟩,
  f28 := Tryz.func181.trans (congrArg some (by kernel_rfl)),
  f29 := Tryz.func182.trans (congrArg some (by kernel_rfl)),
  f46 := ⟨"slices.siftDownCmpFunc[loop.example/g01082/impl.Wire]", by decide, Tryz.func195.trans (congrArg some (by kernel_rfl))⟩,
  f47 := Tryz.func196.trans (congrArg some (by kernel_rfl)),
  f48 := Tryz.func197.trans (congrArg some (by kernel_rfl)),
  f49 := ⟨"slices.medianAdjacentCmpFunc[loop.example/g01082/impl.Wire]", by decide, Tryz.func198.trans (congrArg some (by kernel_rfl))⟩,
  f50 := ⟨"slices.medianCmpFunc[loop.example/g01082/impl.Wire]", by decide, Tryz.func199.trans (congrArg some (by kernel_rfl))⟩,
  f57 := ⟨"slices.order2CmpFunc[loop.example/g01082/impl.Wire]", by decide, Tryz.func208.trans (congrArg some (by kernel_rfl))⟩,
  t0 := Tryz.underlying0,
  a0 := Tryz.isAgg0,
  z0 := Tryz.sizeOf0,
  v0 := Tryz.zeroValue0,
  t3 := Tryz.underlying3,
  a3 := Tryz.isAgg3,
  z3 := Tryz.sizeOf3,
  v3 := Tryz.zeroValue3,
  t4 := Tryz.underlying4,
  a4 := Tryz.isAgg4,
  z4 := Tryz.sizeOf4,
  v4 := Tryz.zeroValue4,
  t5 := Tryz.underlying5,
  a5 := Tryz.isAgg5,
  z5 := Tryz.sizeOf5,
  v5 := Tryz.zeroValue5,
  t9 := Tryz.underlying9,
  a9 := Tryz.isAgg9,
  z9 := Tryz.sizeOf9,
  v9 := Tryz.zeroValue9,
  t22 := Tryz.underlying32,
  a22 := Tryz.isAgg32,
  z22 := Tryz.sizeOf32,
  v22 := Tryz.zeroValue32,
  t25 := Tryz.underlying133,
  a25 := Tryz.isAgg133,
  z25 := Tryz.sizeOf133,
  v25 := Tryz.zeroValue133,
  t39 := Tryz.underlying154,
  a39 := Tryz.isAgg154,
  z39 := Tryz.sizeOf154,
  v39 := Tryz.zeroValue154,
  t45 := Tryz.underlying162,
  a45 := Tryz.isAgg162,
  z45 := Tryz.sizeOf162,
  v45 := Tryz.zeroValue162,
  t46 := Tryz.underlying163,
  a46 := Tryz.isAgg163,
  z46 := Tryz.sizeOf163,
  v46 := Tryz.zeroValue163,
  t50 := Tryz.underlying167,
  a50 := Tryz.isAgg167,
  z50 := Tryz.sizeOf167,
  v50 := Tryz.zeroValue167,
  t53 := Tryz.underlying170,
  a53 := Tryz.isAgg170,
  z53 := Tryz.sizeOf170,
  v53 := Tryz.zeroValue170,
  t55 := Tryz.underlying172,
  a55 := Tryz.isAgg172,
  z55 := Tryz.sizeOf172,
  v55 := Tryz.zeroValue172,
  t66 := Tryz.underlying180,
  a66 := Tryz.isAgg180,
  z66 := Tryz.sizeOf180,
  v66 := Tryz.zeroValue180,
  t70 := Tryz.underlying184,
  a70 := Tryz.isAgg184,
  z70 := Tryz.sizeOf184,
  v70 := Tryz.zeroValue184,
  t76 := Tryz.underlying195,
  a76 := Tryz.isAgg195,
  z76 := Tryz.sizeOf195,
  v76 := Tryz.zeroValue195,
  t77 := Tryz.underlying196,
  a77 := Tryz.isAgg196,
  z77 := Tryz.sizeOf196,
  v77 := Tryz.zeroValue196 }
end Go.Proofs

/-
  FOUNDATION 51: a loop that counts, told by what changes. Own work.
-/
namespace Go.Fd
def pts : List (Nat × IV) -> List (Nat × IV) -> List (Nat × IV)
 | [], env => env
 | (t, x) :: r, env => pts r (pt t x env)
def ZoU : List (Nat × Ob) -> List (Nat × Ob) -> List (Nat × Ob)
 | [], loc => loc
 | (t, x) :: r, loc => ZoU r (ptO t x loc)
def chg (ce : List (Nat × IV)) (co : List (Nat × Ob)) (s : St) : St := ⟨s.lvl, pts ce s.env, ZoU co s.loc, s.out⟩
section
variable {C : Zt} {lvl : Nat} {env : List (Nat × IV)} {loc : List (Nat × Ob)} {out : Sto} {st : St} {Q : Ex -> St -> Prop}
theorem ZvF {ce : List (Nat × IV)} {co : List (Nat × Ob)} : chg ce co ⟨lvl, env, loc, out⟩ = ⟨lvl, pts ce env, ZoU co loc, out⟩ := (rfl)
theorem Zrm : pts [] env = env := (rfl)
theorem Zrn {t : Nat} {x : IV} {r : List (Nat × IV)} : pts ((t, x) :: r) env = pts r (pt t x env) := (rfl)
theorem Zog : ZoU [] loc = loc := (rfl)
theorem Zoh {t : Nat} {x : Ob} {r : List (Nat × Ob)} : ZoU ((t, x) :: r) loc = ZoU r (ptO t x loc) := (rfl)
theorem Z9 {α : Type} {ks js : List Nat} {c : C2} (N : Nat) (ce : Nat -> α -> List (Nat × IV)) (co : Nat -> α -> List (Nat × Ob)) (A : Nat -> α -> Prop) (x0 : α)
  (h1 : clean ks js st) (h0 : fgt ks js st = chg (ce 0 x0) (co 0 x0) (fgt ks js st)) (hA : A 0 x0)
  (hs : ∀ k x, k <= N -> A k x -> wp C c (chg (ce k x) (co k x) (fgt ks js st)) (Zc6 ks js (ZuW N (fun k x => chg (ce k x) (co k x) (fgt ks js st)) A (N - k)) Q)) : wp C (.lp ks js c) st Q :=
 Z6 N (fun k x => chg (ce k x) (co k x) (fgt ks js st)) A x0 ⟨h1, h0⟩ hA hs
end
section
variable {L : Sto} {F : List IV -> Prop} {r : List IV}
def Zwk (L : Sto) (r : List IV) (F : List IV -> Prop) (y : IV) : Prop := JE L r (kcn y F)
theorem Zro {y : IV} : Zwk L r F y = JE L r (kcn y F) := (rfl)
theorem ZvG {id : Oid} {off : Nat} : JE L (.ab id off :: r) F = Zeu (L id) L off (Zwk L r F) := by simp only [JE, Xd]; rfl
def kta (F : IV -> Prop) (ts : List Tr) : Prop := F (.ta ts)
theorem ZvH {F : IV -> Prop} {ts : List Tr} : kta F ts = F (.ta ts) := (rfl)
theorem ZvI {cells : List IV} {off : Nat} {F : IV -> Prop} : Zeu (some (.bx cells)) L off F = Qa L (cells.drop off) (kta F) := (rfl)
def kct (t : Tr) (F : List Tr -> Prop) (ts : List Tr) : Prop := F (t :: ts)
theorem ZvJ {t : Tr} {F : List Tr -> Prop} {ts : List Tr} : kct t F ts = F (t :: ts) := (rfl)
def Zwl (L : Sto) (r : List IV) (F : List Tr -> Prop) (t : Tr) : Prop := Qa L r (kct t F)
theorem Zrp {F : List Tr -> Prop} {t : Tr} : Zwl L r F t = Qa L r (kct t F) := (rfl)
theorem Zrq {F : List Tr -> Prop} : Qa L [] F = F [] := (rfl)
theorem Zrr {x : IV} {F : List Tr -> Prop} : Qa L (x :: r) F = Zay L x (Zwl L r F) := (rfl)
theorem Zrs {t : Tr} {F : Tr -> Prop} : Zay L (.tr t) F = F t := (rfl)
theorem Zrt {es : Row} {F : Tr -> Prop} : Zay L (.cs es) F = F (.sl es) := (rfl)
def Zwm (off len : Nat) (F : Tr -> Prop) (es : Row) (_u : Bool) (_v : Nat) : Prop := off + len <= es.length /\ F (.sl (cut es off len))
theorem Zru {off len : Nat} {F : Tr -> Prop} {es : Row} {u : Bool} {v : Nat} : Zwm off len F es u v = (off + len <= es.length /\ F (.sl (cut es off len))) := (rfl)
theorem Zrv {id : Oid} {p : Pth} {off len s : Nat} {cap : Option Nat} {F : Tr -> Prop} : Zay L (.hd id p off len cap s) F = rd3 (L id) p s (Zwm off len F) := by rw [<- U7]; rfl
end
theorem Zrw {α : Type} {x : α} : List.replicate 1 x = [x] := (rfl)
theorem Zrx {e : List Tr} : cut [e] 0 1 = [e] := (rfl)
theorem Zry {l : List Tr} : ScR [l] = (l.all isSc = true) := by
 apply propext
 constructor
 ·intro h
  exact List.all_eq_true.2 fun t ht => h l (by simp) t ht
 ·intro h e he t ht
  simp only [List.mem_singleton] at he
  subst he
  exact List.all_eq_true.1 h t ht
theorem Zrz {k : Nat} {l : List Tr} : UnR k [l] = (l.length = k) := by
 apply propext
 constructor
 ·intro h; exact h l (by simp)
 ·intro h e he
  simp only [List.mem_singleton] at he
  rw [he, h]
theorem ZvK {j : Nat} : max j (j + 1) = j + 1 := by omega
theorem ZvL {j : Nat} : (j < j + 1) = True := by simp
end Go.Fd

/-
  FOUNDATION 52: numbers and strings as parameters of a law. Own work.
-/
namespace Go.Fd
open Go.RowKit Go.ChangeShapes Go.ChangeMaps Go.WideMaps
section
variable {H : Type} {enc : TypeId × Value -> H} {P : Program} {w : World} {t : TypeId} {v : Value} {d : DataW H} {p : List MemPlace} {sp : Nat -> Bool} {hd : Bool} {base : Nat}
end
end Go.Fd

/-
  FOUNDATION 54: all rules in one word (printed by evr.py). Own work.
-/
namespace Go.Fd
set_option linter.defProp false in
def EV0 := (And.intro (And.intro (And.intro (And.intro (And.intro @Zps @Zs4) (And.intro @Zpt (And.intro @Zpu @Zpv))) (And.intro (And.intro @Zpw @Zpx) (And.intro @Zpy (And.intro @Zpz @Zs5)))) (And.intro (And.intro (And.intro @Zs6 @Zs7) (And.intro @Zwx (And.intro @Zwy @Zwz))) (And.intro (And.intro @ZwA @ZwB) (And.intro @ZwC (And.intro @ZwD @ZwE))))) (And.intro (And.intro (And.intro (And.intro @Zs8 @Zs9) (And.intro @Zta (And.intro @ZpA @ZwF))) (And.intro (And.intro @Ztb @Ztc) (And.intro @ZwG (And.intro @Ztd @ZpB)))) (And.intro (And.intro (And.intro @ZwH @Zte) (And.intro @ZwI (And.intro @Ztf @ZwJ))) (And.intro (And.intro @Ztg @ZwK) (And.intro @ZwL (And.intro @ZwM @Zlv))))))
set_option linter.defProp false in
def EV1 := (And.intro (And.intro (And.intro (And.intro (And.intro @Zlw @Zth) (And.intro @Znx (And.intro @ZwN @Zti))) (And.intro (And.intro @ZwO @ZpD) (And.intro @ZpE (And.intro @ZpF @ZpG)))) (And.intro (And.intro (And.intro @ZpH @ZpI) (And.intro @Ztj (And.intro @Ztk @Ztl))) (And.intro (And.intro @Ztm @Ztn) (And.intro @Zto (And.intro @Ztp @Ztq))))) (And.intro (And.intro (And.intro (And.intro @Ztr @Zts) (And.intro @Ztt (And.intro @Ztu @Ztv))) (And.intro (And.intro @Ztw @ZpJ) (And.intro @ZpK (And.intro @ZpL @Ztx)))) (And.intro (And.intro (And.intro @Zty @Ztz) (And.intro @ZtA (And.intro @ZwP @ZwQ))) (And.intro (And.intro @ZtB @ZwR) (And.intro @ZtC (And.intro @ZwS @ZtD))))))
set_option linter.defProp false in
def EV2 := (And.intro (And.intro (And.intro (And.intro (And.intro @ZtE @ZtF) (And.intro @ZtG (And.intro @ZwT @ZtH))) (And.intro (And.intro @ZwU @ZtI) (And.intro @ZtJ (And.intro @ZtK @ZwV)))) (And.intro (And.intro (And.intro @ZtL @ZwW) (And.intro @ZwX (And.intro @ZtM @ZtN))) (And.intro (And.intro @ZwY @ZtO) (And.intro @ZtP (And.intro @ZtQ @ZwZ))))) (And.intro (And.intro (And.intro (And.intro @ZtR @Zw0) (And.intro @ZtS (And.intro @ZtT @ZtU))) (And.intro (And.intro @Zw1 @ZtV) (And.intro @ZtW (And.intro @ZtX @Zw2)))) (And.intro (And.intro (And.intro @ZtY @ZtZ) (And.intro @Zt0 (And.intro @Zw3 @Zt1))) (And.intro (And.intro @Zt2 @Zt3) (And.intro @Zt4 (And.intro @Zt5 @Zlx))))))
set_option linter.defProp false in
def EV3 := (And.intro (And.intro (And.intro (And.intro (And.intro @Zly @Zt6) (And.intro @ZpM (And.intro @Zt7 @Zw4))) (And.intro (And.intro @Zt8 @Zt9) (And.intro @Zua (And.intro @Zub @Zw5)))) (And.intro (And.intro (And.intro @Zuc @Zw6) (And.intro @Zud (And.intro @Zue @Yn))) (And.intro (And.intro @Zaj @ZpN) (And.intro @Zuf (And.intro @Q5 @Zug))))) (And.intro (And.intro (And.intro (And.intro @Zuh @Zui) (And.intro @ZpO (And.intro @ZpP @ZpR))) (And.intro (And.intro @Zny @Zw7) (And.intro @Zuj (And.intro @Zuk @Zul)))) (And.intro (And.intro (And.intro @Zum @ZpS) (And.intro @Zun (And.intro @Zuo @Zup))) (And.intro (And.intro @Zuq @Zur) (And.intro @ZpT (And.intro @ZpU @Zus))))))
set_option linter.defProp false in
def EV4 := (And.intro (And.intro (And.intro (And.intro (And.intro @ZpV @ZpW) (And.intro @Zw8 (And.intro @Zut @Zuu))) (And.intro (And.intro @Zuv @Zuw) (And.intro @ZpX (And.intro @Zw9 @Zux)))) (And.intro (And.intro (And.intro @Zxa @Zuy) (And.intro @Zuz (And.intro @ZuA @Zxb))) (And.intro (And.intro @ZuB @ZuC) (And.intro @ZuD (And.intro @ZpY @ZpZ))))) (And.intro (And.intro (And.intro (And.intro @Zp0 @Zp1) (And.intro @Znz (And.intro @Zp2 @ZuE))) (And.intro (And.intro @ZuF @ZuG) (And.intro @Zp3 (And.intro @ZuH @ZuI)))) (And.intro (And.intro (And.intro @ZuJ @Zxc) (And.intro @ZuK (And.intro @ZuL @Zp4))) (And.intro (And.intro @ZuM @Zp5) (And.intro @ZuN (And.intro @Zp6 @ZuO))))))
set_option linter.defProp false in
def EV5 := (And.intro (And.intro (And.intro (And.intro (And.intro @Zp7 @ZuP) (And.intro @Zp8 (And.intro @Zp9 @Zqa))) (And.intro (And.intro @ZuQ @ZnA) (And.intro @ZnB (And.intro @ZuR @Zqb)))) (And.intro (And.intro (And.intro @Zqc @Zqd) (And.intro @Zqe (And.intro @Zqf @ZuS))) (And.intro (And.intro @Zqg @ZnC) (And.intro @ZnD (And.intro @ZnE @ZnF))))) (And.intro (And.intro (And.intro (And.intro @ZnG @ZnH) (And.intro @ZnI (And.intro @ZuT @Zlz))) (And.intro (And.intro @ZlA @ZnJ) (And.intro @ZnK (And.intro @ZnL @ZnM)))) (And.intro (And.intro (And.intro @ZlB @ZlC) (And.intro @ZlD (And.intro @ZlE @ZlF))) (And.intro (And.intro @ZlG @ZnN) (And.intro @ZnO (And.intro @ZnP @Zqh))))))
set_option linter.defProp false in
def EV6 := (And.intro (And.intro (And.intro (And.intro (And.intro @Zqi @ZuU) (And.intro @ZnQ (And.intro @Zqj @Zqk))) (And.intro (And.intro @ZnR @Zql) (And.intro @Zqm (And.intro @Zqn @Zqo)))) (And.intro (And.intro (And.intro @Zqp @Zqq) (And.intro @Zqr (And.intro @ZnS @ZnT))) (And.intro (And.intro @ZnU @ZnV) (And.intro @Zqs (And.intro @Zqt @Zqu))))) (And.intro (And.intro (And.intro (And.intro @Zqv @Zqw) (And.intro @ZlH (And.intro @ZlI @ZlJ))) (And.intro (And.intro @Zxd @ZuX) (And.intro @ZuY (And.intro @ZuZ @QV)))) (And.intro (And.intro (And.intro @QW @ZnW) (And.intro @ZnX (And.intro @Zqx @Zqy))) (And.intro (And.intro @Zqz @ZqA) (And.intro @ZqB (And.intro @ZqC @ZqD))))))
set_option linter.defProp false in
def EV7 := (And.intro (And.intro (And.intro (And.intro (And.intro @ZqE @ZqF) (And.intro @ZnY (And.intro @Zu0 @ZnZ))) (And.intro (And.intro @Zn0 @Zu1) (And.intro @Zu2 (And.intro @Zu3 @Zu4)))) (And.intro (And.intro (And.intro @ZqG @ZqH) (And.intro @ZqI (And.intro @Zu5 @Zxe))) (And.intro (And.intro @Zu6 @Zu7) (And.intro @Zu8 (And.intro @Zu9 @Zva))))) (And.intro (And.intro (And.intro (And.intro @Zn1 @Zn2) (And.intro @ZqJ (And.intro @ZqK @ZqL))) (And.intro (And.intro @ZqM @Zvb) (And.intro @ZqO (And.intro @Zn3 @Zn4)))) (And.intro (And.intro (And.intro @ZqP @ZqQ) (And.intro @Zxf (And.intro @Zxg @Zn5))) (And.intro (And.intro @Zn6 @Zxh) (And.intro @Zxi (And.intro @Zvc @Zvd))))))
set_option linter.defProp false in
def EV8 := (And.intro (And.intro (And.intro (And.intro (And.intro @Zxj @ZqR) (And.intro @ZqS (And.intro @Zxk @ZqT))) (And.intro (And.intro @ZqU @ZqV) (And.intro @ZqW (And.intro @ZqX @Zxl)))) (And.intro (And.intro (And.intro @Zxm @ZqY) (And.intro @ZqZ (And.intro @Zq0 @Zve))) (And.intro (And.intro @Zxn @Zvf) (And.intro @Zvg (And.intro @Zq1 @Zq2))))) (And.intro (And.intro (And.intro (And.intro @Zvh @Zq3) (And.intro @Zq4 (And.intro @Zvi @Zq5))) (And.intro (And.intro @Zvk @Zq6) (And.intro @Zn7 (And.intro @ZeX @Zxo)))) (And.intro (And.intro (And.intro @Zvl @Zvm) (And.intro @Zq7 (And.intro @Zxp @Zvn))) (And.intro (And.intro @Zxq @Zvo) (And.intro @Zvp (And.intro @Zvq @Zxr))))))
set_option linter.defProp false in
def EV9 := (And.intro (And.intro (And.intro (And.intro (And.intro @Zvr @Zvs) (And.intro @Zq8 (And.intro @Zq9 @Zxs))) (And.intro (And.intro @Zvt @Zvu) (And.intro @Zn8 (And.intro @Zn9 @Zra)))) (And.intro (And.intro (And.intro @Zrb @Zrc) (And.intro @Zrd (And.intro @Zxt @Zoa))) (And.intro (And.intro @Zob @Zoc) (And.intro @Zod (And.intro @Zoe @Zre))))) (And.intro (And.intro (And.intro (And.intro @Zxu @Zvx) (And.intro @Zvy (And.intro @Zxv @Zvz))) (And.intro (And.intro @ZvA @ZvB) (And.intro @Zrf (And.intro @Zrg @Zrh)))) (And.intro (And.intro (And.intro @ZvC @Zxw) (And.intro @ZvD (And.intro @ZvE @Zri))) (And.intro (And.intro @ZvF @Zrm) (And.intro @Zrn (And.intro @Zog @Zoh))))))
set_option linter.defProp false in
def Zxx := (And.intro (And.intro (And.intro (And.intro (And.intro @Zro @ZvG) (And.intro @ZvH (And.intro @ZvI @ZvJ))) (And.intro (And.intro @Zrp @Zrq) (And.intro @Zrr (And.intro @Zrs @Zrt)))) (And.intro (And.intro (And.intro @Zru @Zrv) (And.intro @Zrw (And.intro @Zrx @Zry))) (And.intro (And.intro @Zrz @ZvK) (And.intro @ZvL (And.intro @bigN.eq_1 @fpart.eq_1))))) (And.intro (And.intro (And.intro (And.intro @fpart.eq_2 @okp.eq_1) (And.intro @okp.eq_2 (And.intro @zfill.eq_1 @zfill.eq_2))) (And.intro (And.intro @zobs.eq_1 @ptd.eq_1) (And.intro @ptd.eq_2 (And.intro @keyOf.eq_1 @keyOf.eq_2)))) (And.intro (And.intro (And.intro @freshK.eq_1 @freshK.eq_2) (And.intro @lk.eq_1 (And.intro @lk.eq_2 @pt.eq_1))) (And.intro (And.intro @pt.eq_2 @lkO.eq_1) (And.intro @lkO.eq_2 (And.intro @ptO.eq_1 @ptO.eq_2))))))
set_option linter.defProp false in
def Zxy := (And.intro (And.intro (And.intro (And.intro (And.intro @addO.eq_1 @addO.eq_2) (And.intro @xv.eq_1 (And.intro @xv.eq_2 @xv.eq_3))) (And.intro (And.intro @kv.eq_1 @kv.eq_2) (And.intro @kc.eq_1 (And.intro @kc.eq_2 @params.eq_1)))) (And.intro (And.intro (And.intro @params.eq_2 @trv.eq_1) (And.intro @trv.eq_2 (And.intro @List.length_cons.{0} @List.length_nil.{0}))) (And.intro (And.intro @Option.getD_some.{0} @Option.getD_none.{0}) (And.intro @true_and (And.intro @and_true @decide_eq_true_eq))))) (And.intro (And.intro (And.intro (And.intro @decide_true @decide_false) (And.intro @Option.map_some.{0, 0} (And.intro @Option.map_none.{0, 0} @Option.isSome_some.{0}))) (And.intro (And.intro @Option.isSome_none.{0} @Option.isNone_some.{0}) (And.intro @Option.isNone_none.{0} (And.intro @List.map_cons.{0, 0} @List.map_nil.{0, 0})))) (And.intro (And.intro (And.intro @List.cons_append.{0} @List.nil_append.{0}) (And.intro @List.getElem?_cons_zero.{0} (And.intro @List.getElem?_cons_succ.{0} @List.drop_succ_cons.{0}))) (And.intro (And.intro @List.drop_zero.{0} @List.take_succ_cons.{0}) (And.intro @List.take_zero.{0} (And.intro @List.headD_cons.{0} @List.headD_nil.{0}))))))
set_option linter.defProp false in
def Zxz := (And.intro (And.intro (And.intro (And.intro (And.intro @List.tail_cons.{0} @List.tail_nil.{0}) (And.intro @noSh.eq_1 (And.intro @noSh.eq_2 @noSh.eq_3))) (And.intro (And.intro @noSh.eq_4 @noSh.eq_5) (And.intro @noSh.eq_6 (And.intro @noSh.eq_7 @noSh.eq_8)))) (And.intro (And.intro (And.intro @noShs.eq_1 @noShs.eq_2) (And.intro @isSc.eq_1 (And.intro @isSc.eq_2 @impv.eq_1))) (And.intro (And.intro @impv.eq_2 @impv.eq_3) (And.intro @impv.eq_4 (And.intro @impvs.eq_1 @impvs.eq_2))))) (And.intro (And.intro (And.intro (And.intro @impc.eq_1 @impc.eq_2) (And.intro @memB.eq_1 (And.intro @memB.eq_2 @keepB.eq_1))) (And.intro (And.intro @keepB.eq_2 @keepOB.eq_1) (And.intro @keepOB.eq_2 (And.intro @or_true @true_or)))) (And.intro (And.intro (And.intro @or_false @false_or) (And.intro @Bool.false_eq_true (And.intro @Bool.true_eq_false @if_true.{1}))) (And.intro (And.intro @if_false.{1} @Bool.not_true) (And.intro @Bool.not_false (And.intro @scrE.eq_1 @scrE.eq_2))))))
set_option linter.defProp false in
def ZxA := (And.intro (And.intro (And.intro (And.intro (And.intro @scrL.eq_1 @scrL.eq_2) (And.intro @scr.eq_1 (And.intro @scr.eq_2 @scr.eq_3))) (And.intro (And.intro @scr.eq_4 @scr.eq_5) (And.intro @scr.eq_6 (And.intro @scr.eq_7 @scr.eq_8)))) (And.intro (And.intro (And.intro @scrs.eq_1 @scrs.eq_2) (And.intro @scrOb.eq_1 (And.intro @scrOb.eq_2 @rmO.eq_1))) (And.intro (And.intro @rmO.eq_2 @Int.toNat_natCast) (And.intro @Int.toNat_zero (And.intro @Int.toNat_one @List.all_cons.{0}))))) (And.intro (And.intro (And.intro (And.intro @List.all_nil.{0} @isCell.eq_1) (And.intro @isCell.eq_2 (And.intro @isCell.eq_3 @isCell.eq_4))) (And.intro (And.intro @isCell.eq_5 @isCell.eq_6) (And.intro @Bool.and_true (And.intro @Bool.true_and @Bool.and_self)))) (And.intro (And.intro (And.intro @cellsOf.eq_1 @cellsOf.eq_2) (And.intro @totr.eq_1 (And.intro @totr.eq_2 @totr.eq_3))) (And.intro (And.intro @totr.eq_4 @totr.eq_5) (And.intro @totrs.eq_1 (And.intro @totrs.eq_2 @tocs.eq_1))))))
set_option linter.defProp false in
def ZxB := (And.intro (And.intro (And.intro (And.intro @getp.eq_1 (And.intro @getp.eq_2 @cvt.eq_1)) (And.intro @cvt.eq_2 (And.intro @cvts.eq_1 @cvts.eq_2))) (And.intro (And.intro @Nat.zero_add (And.intro @Nat.add_zero @List.set_cons_zero.{0})) (And.intro @List.set_cons_succ.{0} (And.intro @Bool.not_eq_true' @Bool.not_eq_false')))) (And.intro (And.intro (And.intro @Int.natCast_nonneg (And.intro @Nat.le_refl @Prod.mk.injEq.{0, 0})) (And.intro @ne_eq.{1} (And.intro @not_false_eq_true @not_true_eq_false))) (And.intro (And.intro @List.length_map.{0, 0} (And.intro @List.length_replicate.{0} @List.replicate_zero.{0})) (And.intro (And.intro @and_false @false_and) (And.intro @and_self @Int.cast_ofNat_Int)))))
set_option linter.defProp false in
def EVA := (And.intro (And.intro (And.intro EV0 (And.intro EV1 EV2)) (And.intro (And.intro EV3 EV4) (And.intro EV5 EV6))) (And.intro (And.intro (And.intro EV7 EV8) (And.intro EV9 Zxx)) (And.intro (And.intro Zxy Zxz) (And.intro ZxA ZxB))))
abbrev oo (d : Nat) (x : O) : OP := ⟨some d, none, x⟩
abbrev on1 (x : O) : OP := ⟨none, none, x⟩
abbrev og (d j : Nat) (w : Bool) (x : O) : OP := ⟨some d, some (j, w), x⟩
abbrev om (d : Nat) (x : X) : OP := ⟨some d, none, .mv x none⟩
abbrev rg (l : List OP) : C2 := .rg none l
abbrev i6 (n : Int) : X := .k (.int .i64 n)
end Go.Fd

/-
  PLAIN WORDS FOR THE DATA, AND WHAT HOLDS OF THE HELPERS OF THE LAWS THAT ARE ALIKE FOR ALL KINDS OF SLICES. Own work.
-/
namespace Go.Fd
set_option maxRecDepth 10000
theorem Zu {c : Prop} [Decidable c] {p q : Prop} (h1 : c -> p) (h2 : ¬ c -> q) : if c then p else q := by
 split
 ·exact h1 ‹_›
 ·exact h2 ‹_›
def szN (n : Nat) (left : Int) : Int := if left - n < 0 then -1 else left - n
def szF {α : Type} (f : α -> Int -> Int) : List α -> Int -> Int
 | [], l => l
 | x :: r, l => if f x l < 0 then -1 else szF f r (f x l)
def szL {α : Type} (f : α -> Int -> Int) (a : List α) (left : Int) : Int := if left - a.length < 0 then -1 else szF f a (left - a.length)
def sz0 : F2 :=
 { nt := 12, res := [.t 4 [0]], body :=
  (.sq (.rg none [⟨some 4, none, .mv (.k (.int .i64 0)) none⟩])
  (.sq (.rg none [⟨some 5, none, .mv (.t 1) none⟩,
   ⟨some 6, none, .mv (.t 0) none⟩,
   ⟨some 7, none, .ln (.t 6)⟩,
   ⟨some 8, none, .bi .sub 0 (.t 5) (.t 7)⟩,
   ⟨some 1, none, .mv (.t 8) none⟩])
  (.sq (.sq (.rg none [⟨some 9, none, .mv (.t 1) none⟩,
    ⟨some 10, none, .bi .lss 0 (.t 9) (.k (.int .i64 0))⟩])
  (.cd (.t 10) (.sq (.rg none [⟨some 4, none, .mv (.k (.int .i64 (-1))) none⟩])
   (.rt))
  (.sk)))
  (.sq (.rg none [⟨some 11, none, .mv (.t 1) none⟩,
   ⟨some 4, none, .mv (.t 11) none⟩])
  (.rt))))) }
theorem Zoi {P : Program} {fid : FuncId} (hc : Z2 P fid sz0 = true) (es : Row) (left : Int) (h : es.length <= 9223372036854775807) (h0 : 0 <= left) (h1 : left <= 1048576) (lvl : Nat) (S : Sto) :
  Sem P fid lvl [.tr (.sl es), iI left] S (iI (szN es.length left)) S := by
 refine Zf hc trivial ?_
 simp only [sz0, EVA, ↓reduceIte, Nat.reduceEqDiff, Nat.reduceMul, reduceCtorEq, Nat.reduceAdd, Nat.reduceSub, Nat.reduceLeDiff, Nat.reduceLT, Int.reduceToNat, Int.reduceLE, Int.reduceLT, Ze, men]
 refine ⟨by rw [Zg]; omega, ?_⟩
 unfold szN
 split <;> rfl
def ZrA (k : Nat) (m : Option Nat) (fid : FuncId) : F2 :=
 { nt := 27, res := [.t 4 [0]], body :=
  (.sq (.rg none [⟨some 4, none, .mv (.k (.int .i64 0)) none⟩])
  (.sq (.rg none [⟨some 6, none, .mv (.t 1) none⟩,
   ⟨some 7, none, .mv (.t 0) none⟩,
   ⟨some 8, none, .ln (.t 7)⟩,
   ⟨some 9, none, .bi .sub 0 (.t 6) (.t 8)⟩,
   ⟨some 1, none, .mv (.t 9) none⟩])
  (.sq (.sq (.rg none [⟨some 10, none, .mv (.t 1) none⟩,
    ⟨some 11, none, .bi .lss 0 (.t 10) (.k (.int .i64 0))⟩])
  (.cd (.t 11) (.sq (.rg none [⟨some 4, none, .mv (.k (.int .i64 (-1))) none⟩])
   (.rt))
  (.sk)))
  (.sq (.sq (.rg none [⟨some 5, none, .mv (.k (.int .i64 0)) none⟩])
  (.bl 0 (.lp [0, 1, 5] [] (.sq (.sq (.rg none [⟨some 12, none, .mv (.t 5) none⟩,
     ⟨some 13, none, .mv (.t 0) none⟩,
     ⟨some 14, none, .ln (.t 13)⟩,
     ⟨some 15, none, .bi .lss 0 (.t 12) (.t 14)⟩])
    (.cd (.t 15) (.sk)
    (.ex 0)))
   (.sq (.bl 1 (.sq (.rg none [⟨some 18, none, .mv (.t 0) none⟩,
      ⟨some 19, none, .mv (.t 5) none⟩,
      ⟨some 20, none, .ia k (.t 18) (.t 19)⟩,
      ⟨some 21, none, .ld m (.t 20)⟩,
      ⟨some 22, none, .mv (.t 1) none⟩,
      ⟨some 23, none, .ca .pure false (.f fid) [.t 21, .t 22]⟩,
      ⟨some 1, none, .mv (.t 23) none⟩])
    (.sq (.rg none [⟨some 24, none, .mv (.t 1) none⟩,
      ⟨some 25, none, .bi .lss 0 (.t 24) (.k (.int .i64 0))⟩])
    (.cd (.t 25) (.sq (.rg none [⟨some 4, none, .mv (.k (.int .i64 (-1))) none⟩])
     (.rt))
    (.sk)))))
   (.rg none [⟨some 16, none, .mv (.t 5) none⟩,
    ⟨some 17, none, .bi .add 0 (.t 16) (.k (.int .i64 1))⟩,
    ⟨some 5, none, .mv (.t 17) none⟩]))))))
  (.sq (.rg none [⟨some 26, none, .mv (.t 1) none⟩,
   ⟨some 4, none, .mv (.t 26) none⟩])
  (.rt)))))) }
theorem Ze4 {P : Program} {fid fe : FuncId} {k : Nat} (hc : Z2 P fid (ZrA k (some k) fe) = true) {α : Type} (c : α -> List Tr) (f : α -> Int -> Int) (hk : ∀ x, (c x).length = k) (a : List α) (left : Int) (h : a.length <= 9223372036854775807) (h0 : 0 <= left) (h1 : left <= 1048576)
  (hf : ∀ x ∈ a, ∀ l : Int, 0 <= l -> l <= 1048576 -> f x l <= l /\ ∀ lvl S, Sem P fe lvl [.ag ((c x).map .tr), iI l] S (iI (f x l)) S) (lvl : Nat) (S : Sto) :
  Sem P fid lvl [.tr (.sl (a.map c)), iI left] S (iI (szL f a left)) S := by
 refine Zf hc trivial ?_
 simp only [ZrA, List.length_map, EVA, ↓reduceIte, Nat.reduceEqDiff, Nat.reduceMul, reduceCtorEq, Nat.reduceAdd, Nat.reduceSub, Nat.reduceLeDiff, Nat.reduceLT, Int.reduceToNat, Int.reduceLE, Int.reduceLT, Ze, men]
 refine ⟨by rw [Zg]; omega, ?_⟩
 unfold szL
 split
 ·rfl
 ·rename_i hlt
  generalize hr : szF f a (left - a.length) = total
  refine Z6 (α := Int) a.length (fun j l => ⟨lvl, [(0, .tr (.sl (a.map c))), (1, iI l), (5, iI j)], [], S⟩) (fun j l => 0 <= l /\ l <= 1048576 /\ szF f (a.drop j) l = total) (left - a.length) ⟨by simp only [EVA, ↓reduceIte, Nat.reduceEqDiff, Nat.reduceMul, reduceCtorEq, Nat.reduceAdd, Nat.reduceSub, Nat.reduceLeDiff, Nat.reduceLT, Int.reduceToNat, Int.reduceLE, Int.reduceLT, Ze, men], by (simp only [EVA, ↓reduceIte, Nat.reduceEqDiff, Nat.reduceMul, reduceCtorEq, Nat.reduceAdd, Nat.reduceSub, Nat.reduceLeDiff, Nat.reduceLT, Int.reduceToNat, Int.reduceLE, Int.reduceLT, Ze, men]) <;> rfl⟩ ⟨by omega, by omega, hr⟩ ?_
  intro j l hj ⟨hl0, hl1, hl⟩
  simp only [List.length_map, EVA, ↓reduceIte, Nat.reduceEqDiff, Nat.reduceMul, reduceCtorEq, Nat.reduceAdd, Nat.reduceSub, Nat.reduceLeDiff, Nat.reduceLT, Int.reduceToNat, Int.reduceLE, Int.reduceLT, Ze, men]
  split
  ·rename_i hlt
   have hja : j < a.length := by omega
   have ga : (a.map c)[j]? = some (c a[j]) := by simp [hja]
   have hkk := hk a[j]
   have htk : (c a[j]).take k = c a[j] := List.take_of_length_le (by omega)
   rw [List.drop_eq_getElem_cons hja] at hl
   obtain ⟨hle, hsem⟩ := hf a[j] (List.getElem_mem hja) l hl0 hl1
   simp only [ga, hkk, htk, Int.natCast_nonneg, Nat.le_refl, EVA, ↓reduceIte, Nat.reduceEqDiff, Nat.reduceMul, reduceCtorEq, Nat.reduceAdd, Nat.reduceSub, Nat.reduceLeDiff, Nat.reduceLT, Int.reduceToNat, Int.reduceLE, Int.reduceLT, Ze, men]
   refine Zb hsem ?_
   simp only [EVA, ↓reduceIte, Nat.reduceEqDiff, Nat.reduceMul, reduceCtorEq, Nat.reduceAdd, Nat.reduceSub, Nat.reduceLeDiff, Nat.reduceLT, Int.reduceToNat, Int.reduceLE, Int.reduceLT, Ze, men]
   split
   ·rename_i hneg
    simp only [szF, if_pos hneg] at hl
    rw [hl]
   ·rename_i hneg
    simp only [szF, if_neg hneg] at hl
    refine ⟨by rw [Zg]; omega, Zi (f a[j] l) hja rfl ⟨by omega, by omega, hl⟩⟩
  ·rename_i hge
   have : j = a.length := by omega
   subst this
   simp only [List.drop_length, szF] at hl
   rw [hl]
def ZvM : F2 :=
 { nt := 28, res := [.t 4 [0]], body :=
  (.sq (.rg none [⟨some 4, none, .mv (.k (.int .i64 0)) none⟩])
  (.sq (.rg none [⟨some 6, none, .mv (.t 1) none⟩,
   ⟨some 7, none, .mv (.t 0) none⟩,
   ⟨some 8, none, .ln (.t 7)⟩,
   ⟨some 9, none, .bi .sub 0 (.t 6) (.t 8)⟩,
   ⟨some 1, none, .mv (.t 9) none⟩])
  (.sq (.sq (.rg none [⟨some 10, none, .mv (.t 1) none⟩,
    ⟨some 11, none, .bi .lss 0 (.t 10) (.k (.int .i64 0))⟩])
  (.cd (.t 11) (.sq (.rg none [⟨some 4, none, .mv (.k (.int .i64 (-1))) none⟩])
   (.rt))
  (.sk)))
  (.sq (.sq (.rg none [⟨some 5, none, .mv (.k (.int .i64 0)) none⟩])
  (.bl 0 (.lp [0, 1, 5] [] (.sq (.sq (.rg none [⟨some 12, none, .mv (.t 5) none⟩,
     ⟨some 13, none, .mv (.t 0) none⟩,
     ⟨some 14, none, .ln (.t 13)⟩,
     ⟨some 15, none, .bi .lss 0 (.t 12) (.t 14)⟩])
    (.cd (.t 15) (.sk)
    (.ex 0)))
   (.sq (.bl 1 (.sq (.rg none [⟨some 18, none, .mv (.t 1) none⟩,
      ⟨some 19, none, .mv (.t 0) none⟩,
      ⟨some 20, none, .mv (.t 5) none⟩,
      ⟨some 21, none, .ia 1 (.t 19) (.t 20)⟩,
      ⟨some 22, none, .ld none (.t 21)⟩,
      ⟨some 23, none, .lg (.t 22)⟩,
      ⟨some 24, none, .bi .sub 0 (.t 18) (.t 23)⟩,
      ⟨some 1, none, .mv (.t 24) none⟩])
    (.sq (.rg none [⟨some 25, none, .mv (.t 1) none⟩,
      ⟨some 26, none, .bi .lss 0 (.t 25) (.k (.int .i64 0))⟩])
    (.cd (.t 26) (.sq (.rg none [⟨some 4, none, .mv (.k (.int .i64 (-1))) none⟩])
     (.rt))
    (.sk)))))
   (.rg none [⟨some 16, none, .mv (.t 5) none⟩,
    ⟨some 17, none, .bi .add 0 (.t 16) (.k (.int .i64 1))⟩,
    ⟨some 5, none, .mv (.t 17) none⟩]))))))
  (.sq (.rg none [⟨some 27, none, .mv (.t 1) none⟩,
   ⟨some 4, none, .mv (.t 27) none⟩])
  (.rt)))))) }
theorem ZlN {P : Program} {fid : FuncId} (hc : Z2 P fid ZvM = true) (a : List ByteArray) (left : Int) (h : a.length <= 9223372036854775807) (h0 : 0 <= left) (h1 : left <= 1048576)
  (hf : ∀ x ∈ a, x.size <= 9223372036854775807) (lvl : Nat) (S : Sto) :
  Sem P fid lvl [tS a, iI left] S (iI (szL (fun x l => l - x.size) a left)) S := by
 refine Zf hc trivial ?_
 simp only [ZvM, List.length_map, EVA, ↓reduceIte, Nat.reduceEqDiff, Nat.reduceMul, reduceCtorEq, Nat.reduceAdd, Nat.reduceSub, Nat.reduceLeDiff, Nat.reduceLT, Int.reduceToNat, Int.reduceLE, Int.reduceLT, Ze, men]
 refine ⟨by rw [Zg]; omega, ?_⟩
 unfold szL
 split
 ·rfl
 ·rename_i hlt
  generalize hr : szF (fun (x : ByteArray) l => l - x.size) a (left - a.length) = total
  refine Z6 (α := Int) a.length (fun j l => ⟨lvl, [(0, tS a), (1, iI l), (5, iI j)], [], S⟩) (fun j l => 0 <= l /\ l <= 1048576 /\ szF (fun (x : ByteArray) l => l - x.size) (a.drop j) l = total) (left - a.length) ⟨by simp only [EVA, ↓reduceIte, Nat.reduceEqDiff, Nat.reduceMul, reduceCtorEq, Nat.reduceAdd, Nat.reduceSub, Nat.reduceLeDiff, Nat.reduceLT, Int.reduceToNat, Int.reduceLE, Int.reduceLT, Ze, men], by (simp only [EVA, ↓reduceIte, Nat.reduceEqDiff, Nat.reduceMul, reduceCtorEq, Nat.reduceAdd, Nat.reduceSub, Nat.reduceLeDiff, Nat.reduceLT, Int.reduceToNat, Int.reduceLE, Int.reduceLT, Ze, men]) <;> rfl⟩ ⟨by omega, by omega, hr⟩ ?_
  intro j l hj ⟨hl0, hl1, hl⟩
  simp only [List.length_map, EVA, ↓reduceIte, Nat.reduceEqDiff, Nat.reduceMul, reduceCtorEq, Nat.reduceAdd, Nat.reduceSub, Nat.reduceLeDiff, Nat.reduceLT, Int.reduceToNat, Int.reduceLE, Int.reduceLT, Ze, men]
  split
  ·rename_i hlt
   have hja : j < a.length := by omega
   have ga : (rS a)[j]? = some [ts a[j]] := by simp [hja]
   rw [List.drop_eq_getElem_cons hja] at hl
   have hs := hf a[j] (List.getElem_mem hja)
   simp only [ga, Int.natCast_nonneg, Nat.le_refl, EVA, ↓reduceIte, Nat.reduceEqDiff, Nat.reduceMul, reduceCtorEq, Nat.reduceAdd, Nat.reduceSub, Nat.reduceLeDiff, Nat.reduceLT, Int.reduceToNat, Int.reduceLE, Int.reduceLT, Ze, men]
   refine ⟨by rw [Zg]; omega, ?_⟩
   split
   ·rename_i hneg
    simp only [szF, if_pos hneg] at hl
    rw [hl]
   ·rename_i hneg
    simp only [szF, if_neg hneg] at hl
    refine ⟨by rw [Zg]; omega, Zi (l - a[j].size) hja rfl ⟨by omega, by omega, hl⟩⟩
  ·rename_i hge
   have : j = a.length := by omega
   subst this
   simp only [List.drop_length, szF] at hl
   rw [hl]
def ZrB (k : Nat) (m : Option Nat) (fid : FuncId) : F2 :=
 { nt := 27, res := [.t 4 [0]], body :=
  (.sq (.rg none [⟨some 4, none, .mv (.k (.bool false)) none⟩])
  (.sq (.sq (.rg none [⟨some 6, none, .mv (.t 0) none⟩,
    ⟨some 7, none, .ln (.t 6)⟩,
    ⟨some 8, none, .mv (.t 1) none⟩,
    ⟨some 9, none, .ln (.t 8)⟩,
    ⟨some 10, none, .bi .neq 0 (.t 7) (.t 9)⟩])
  (.cd (.t 10) (.sq (.rg none [⟨some 4, none, .mv (.k (.bool false)) none⟩])
   (.rt))
  (.sk)))
  (.sq (.sq (.rg none [⟨some 5, none, .mv (.k (.int .i64 0)) none⟩])
  (.bl 0 (.lp [0, 1, 5] [] (.sq (.sq (.rg none [⟨some 11, none, .mv (.t 5) none⟩,
     ⟨some 12, none, .mv (.t 0) none⟩,
     ⟨some 13, none, .ln (.t 12)⟩,
     ⟨some 14, none, .bi .lss 0 (.t 11) (.t 13)⟩])
    (.cd (.t 14) (.sk)
    (.ex 0)))
   (.sq (.bl 1 (.sq (.rg (some 0) [⟨some 17, none, .mv (.t 0) none⟩,
      ⟨some 18, none, .mv (.t 5) none⟩,
      ⟨some 19, none, .ia k (.t 17) (.t 18)⟩,
      ⟨some 20, none, .ld m (.t 19)⟩,
      ⟨some 21, none, .mv (.t 1) none⟩,
      ⟨some 22, none, .mv (.t 5) none⟩,
      ⟨some 23, none, .ia k (.t 21) (.t 22)⟩,
      ⟨some 24, none, .ld m (.t 23)⟩,
      ⟨some 25, none, .ca .pure false (.f fid) [.t 20, .t 24]⟩,
      ⟨some 26, none, .nt (.t 25)⟩])
    (.cd (.t 26) (.sq (.rg none [⟨some 4, none, .mv (.k (.bool false)) none⟩])
     (.rt))
    (.sk))))
   (.rg none [⟨some 15, none, .mv (.t 5) none⟩,
    ⟨some 16, none, .bi .add 0 (.t 15) (.k (.int .i64 1))⟩,
    ⟨some 5, none, .mv (.t 16) none⟩]))))))
  (.sq (.rg none [⟨some 4, none, .mv (.k (.bool true)) none⟩])
  (.rt))))) }
theorem ZbH {α : Type} {a b : List α} {j : Nat} (ha : j < a.length) (hb : j < b.length) (h : a[j] ≠ b[j]) : a ≠ b := by
 intro e; subst e; exact h rfl
theorem Zak {α : Type} {a b : List α} (hl : a.length = b.length) (h : a.take a.length = b.take a.length) : a = b := by
 rw [List.take_length, hl, List.take_length] at h; exact h
theorem U9 {α : Type} {a b : List α} {j : Nat} (ha : j < a.length) (hb : j < b.length) (h : a.take j = b.take j) (e : a[j] = b[j]) : a.take (j + 1) = b.take (j + 1) := by
 rw [List.take_succ_eq_append_getElem ha, List.take_succ_eq_append_getElem hb, h, e]
theorem Ze5 {P : Program} {fid fe : FuncId} {k : Nat} (hc : Z2 P fid (ZrB k (some k) fe) = true) {α : Type} [DecidableEq α] (c : α -> List Tr) (hk : ∀ x, (c x).length = k) (a b : List α) (ha : a.length <= 9223372036854775807)
  (hf : ∀ x ∈ a, ∀ y ∈ b, ∀ lvl S, Sem P fe lvl [.ag ((c x).map .tr), .ag ((c y).map .tr)] S (iB (decide (x = y))) S) (lvl : Nat) (S : Sto) :
  Sem P fid lvl [.tr (.sl (a.map c)), .tr (.sl (b.map c))] S (iB (decide (a = b))) S := by
 refine Zf hc trivial ?_
 simp only [ZrB, List.length_map, EVA, ↓reduceIte, Nat.reduceEqDiff, Nat.reduceMul, reduceCtorEq, Nat.reduceAdd, Nat.reduceSub, Nat.reduceLeDiff, Nat.reduceLT, Int.reduceToNat, Int.reduceLE, Int.reduceLT, Ze, men]
 split
 ·rename_i h
  have : ¬ a = b := fun e => h (by rw [e])
  simp [this]
 ·rename_i h
  have hlen : a.length = b.length := by omega
  refine Z6 (α := Unit) a.length (fun j _ => ⟨lvl, [(0, .tr (.sl (a.map c))), (1, .tr (.sl (b.map c))), (5, iI j)], [], S⟩) (fun j _ => a.take j = b.take j) () ⟨by simp only [EVA, ↓reduceIte, Nat.reduceEqDiff, Nat.reduceMul, reduceCtorEq, Nat.reduceAdd, Nat.reduceSub, Nat.reduceLeDiff, Nat.reduceLT, Int.reduceToNat, Int.reduceLE, Int.reduceLT, Ze, men], by (simp only [EVA, ↓reduceIte, Nat.reduceEqDiff, Nat.reduceMul, reduceCtorEq, Nat.reduceAdd, Nat.reduceSub, Nat.reduceLeDiff, Nat.reduceLT, Int.reduceToNat, Int.reduceLE, Int.reduceLT, Ze, men]) <;> rfl⟩ rfl ?_
  intro j _ hj hA
  simp only [List.length_map, EVA, ↓reduceIte, Nat.reduceEqDiff, Nat.reduceMul, reduceCtorEq, Nat.reduceAdd, Nat.reduceSub, Nat.reduceLeDiff, Nat.reduceLT, Int.reduceToNat, Int.reduceLE, Int.reduceLT, Ze, men]
  split
  ·rename_i hlt
   have hja : j < a.length := by omega
   have hjb : j < b.length := by omega
   have ga : (a.map c)[j]? = some (c a[j]) := by simp [hja]
   have gb : (b.map c)[j]? = some (c b[j]) := by simp [hjb]
   have hka := hk a[j]
   have hkb := hk b[j]
   have hta : (c a[j]).take k = c a[j] := List.take_of_length_le (by omega)
   have htb : (c b[j]).take k = c b[j] := List.take_of_length_le (by omega)
   have hsem := hf a[j] (List.getElem_mem hja) b[j] (List.getElem_mem hjb)
   simp only [ga, gb, hka, hkb, hta, htb, Int.natCast_nonneg, Nat.le_refl, EVA, ↓reduceIte, Nat.reduceEqDiff, Nat.reduceMul, reduceCtorEq, Nat.reduceAdd, Nat.reduceSub, Nat.reduceLeDiff, Nat.reduceLT, Int.reduceToNat, Int.reduceLE, Int.reduceLT, Ze, men]
   refine Zb hsem ?_
   simp only [Bool.not_eq_true', EVA, ↓reduceIte, Nat.reduceEqDiff, Nat.reduceMul, reduceCtorEq, Nat.reduceAdd, Nat.reduceSub, Nat.reduceLeDiff, Nat.reduceLT, Int.reduceToNat, Int.reduceLE, Int.reduceLT, Ze, men]
   split
   ·rename_i hne
    have : ¬ a = b := ZbH hja hjb (by simpa using hne)
    simp [this]
   ·rename_i he
    refine ⟨by rw [Zg]; omega, Zi () hja rfl (U9 hja hjb hA (by simpa using he))⟩
  ·rename_i hge
   have : j = a.length := by omega
   subst this
   have : a = b := Zak hlen hA
   simp [this]
def ZoV : F2 :=
 { nt := 26, res := [.t 4 [0]], body :=
  (.sq (.rg none [⟨some 4, none, .mv (.k (.bool false)) none⟩])
  (.sq (.sq (.rg none [⟨some 6, none, .mv (.t 0) none⟩,
    ⟨some 7, none, .ln (.t 6)⟩,
    ⟨some 8, none, .mv (.t 1) none⟩,
    ⟨some 9, none, .ln (.t 8)⟩,
    ⟨some 10, none, .bi .neq 0 (.t 7) (.t 9)⟩])
  (.cd (.t 10) (.sq (.rg none [⟨some 4, none, .mv (.k (.bool false)) none⟩])
   (.rt))
  (.sk)))
  (.sq (.sq (.rg none [⟨some 5, none, .mv (.k (.int .i64 0)) none⟩])
  (.bl 0 (.lp [0, 1, 5] [] (.sq (.sq (.rg none [⟨some 11, none, .mv (.t 5) none⟩,
     ⟨some 12, none, .mv (.t 0) none⟩,
     ⟨some 13, none, .ln (.t 12)⟩,
     ⟨some 14, none, .bi .lss 0 (.t 11) (.t 13)⟩])
    (.cd (.t 14) (.sk)
    (.ex 0)))
   (.sq (.bl 1 (.sq (.rg (some 0) [⟨some 17, none, .mv (.t 0) none⟩,
      ⟨some 18, none, .mv (.t 5) none⟩,
      ⟨some 19, none, .ia 1 (.t 17) (.t 18)⟩,
      ⟨some 20, none, .ld none (.t 19)⟩,
      ⟨some 21, none, .mv (.t 1) none⟩,
      ⟨some 22, none, .mv (.t 5) none⟩,
      ⟨some 23, none, .ia 1 (.t 21) (.t 22)⟩,
      ⟨some 24, none, .ld none (.t 23)⟩,
      ⟨some 25, none, .bi .neq 0 (.t 20) (.t 24)⟩])
    (.cd (.t 25) (.sq (.rg none [⟨some 4, none, .mv (.k (.bool false)) none⟩])
     (.rt))
    (.sk))))
   (.rg none [⟨some 15, none, .mv (.t 5) none⟩,
    ⟨some 16, none, .bi .add 0 (.t 15) (.k (.int .i64 1))⟩,
    ⟨some 5, none, .mv (.t 16) none⟩]))))))
  (.sq (.rg none [⟨some 4, none, .mv (.k (.bool true)) none⟩])
  (.rt))))) }
theorem Zoj {P : Program} {fid : FuncId} (hc : Z2 P fid ZoV = true) (a b : List Int) (ha : a.length <= 9223372036854775807) (lvl : Nat) (S : Sto) : Sem P fid lvl [tI a, tI b] S (iB (decide (a = b))) S := by
 refine Zf hc trivial ?_
 simp only [ZoV, List.length_map, EVA, ↓reduceIte, Nat.reduceEqDiff, Nat.reduceMul, reduceCtorEq, Nat.reduceAdd, Nat.reduceSub, Nat.reduceLeDiff, Nat.reduceLT, Int.reduceToNat, Int.reduceLE, Int.reduceLT, Ze, men]
 split
 ·rename_i h
  have : ¬ a = b := fun e => h (by rw [e])
  simp [this]
 ·rename_i h
  have hlen : a.length = b.length := by omega
  refine Z6 (α := Unit) a.length (fun j _ => ⟨lvl, [(0, tI a), (1, tI b), (5, iI j)], [], S⟩) (fun j _ => a.take j = b.take j) () ⟨by simp only [EVA, ↓reduceIte, Nat.reduceEqDiff, Nat.reduceMul, reduceCtorEq, Nat.reduceAdd, Nat.reduceSub, Nat.reduceLeDiff, Nat.reduceLT, Int.reduceToNat, Int.reduceLE, Int.reduceLT, Ze, men], by (simp only [EVA, ↓reduceIte, Nat.reduceEqDiff, Nat.reduceMul, reduceCtorEq, Nat.reduceAdd, Nat.reduceSub, Nat.reduceLeDiff, Nat.reduceLT, Int.reduceToNat, Int.reduceLE, Int.reduceLT, Ze, men]) <;> rfl⟩ rfl ?_
  intro j _ hj hA
  simp only [List.length_map, EVA, ↓reduceIte, Nat.reduceEqDiff, Nat.reduceMul, reduceCtorEq, Nat.reduceAdd, Nat.reduceSub, Nat.reduceLeDiff, Nat.reduceLT, Int.reduceToNat, Int.reduceLE, Int.reduceLT, Ze, men]
  split
  ·rename_i hlt
   have hja : j < a.length := by omega
   have hjb : j < b.length := by omega
   have ga : (rI a)[j]? = some [tv a[j]] := by simp [hja]
   have gb : (rI b)[j]? = some [tv b[j]] := by simp [hjb]
   simp only [ga, gb, Int.natCast_nonneg, Nat.le_refl, EVA, ↓reduceIte, Nat.reduceEqDiff, Nat.reduceMul, reduceCtorEq, Nat.reduceAdd, Nat.reduceSub, Nat.reduceLeDiff, Nat.reduceLT, Int.reduceToNat, Int.reduceLE, Int.reduceLT, Ze, men]
   split
   ·rename_i hne
    have : ¬ a = b := ZbH hja hjb (by simpa using hne)
    simp [this]
   ·rename_i he
    refine ⟨by rw [Zg]; omega, Zi () hja rfl (U9 hja hjb hA (by simpa using he))⟩
  ·rename_i hge
   have : j = a.length := by omega
   subst this
   have : a = b := Zak hlen hA
   simp [this]
theorem Zok {P : Program} {fid : FuncId} (hc : Z2 P fid ZoV = true) (a b : List ByteArray) (ha : a.length <= 9223372036854775807) (lvl : Nat) (S : Sto) : Sem P fid lvl [tS a, tS b] S (iB (decide (a = b))) S := by
 refine Zf hc trivial ?_
 simp only [ZoV, List.length_map, EVA, ↓reduceIte, Nat.reduceEqDiff, Nat.reduceMul, reduceCtorEq, Nat.reduceAdd, Nat.reduceSub, Nat.reduceLeDiff, Nat.reduceLT, Int.reduceToNat, Int.reduceLE, Int.reduceLT, Ze, men]
 split
 ·rename_i h
  have : ¬ a = b := fun e => h (by rw [e])
  simp [this]
 ·rename_i h
  have hlen : a.length = b.length := by omega
  refine Z6 (α := Unit) a.length (fun j _ => ⟨lvl, [(0, tS a), (1, tS b), (5, iI j)], [], S⟩) (fun j _ => a.take j = b.take j) () ⟨by simp only [EVA, ↓reduceIte, Nat.reduceEqDiff, Nat.reduceMul, reduceCtorEq, Nat.reduceAdd, Nat.reduceSub, Nat.reduceLeDiff, Nat.reduceLT, Int.reduceToNat, Int.reduceLE, Int.reduceLT, Ze, men], by (simp only [EVA, ↓reduceIte, Nat.reduceEqDiff, Nat.reduceMul, reduceCtorEq, Nat.reduceAdd, Nat.reduceSub, Nat.reduceLeDiff, Nat.reduceLT, Int.reduceToNat, Int.reduceLE, Int.reduceLT, Ze, men]) <;> rfl⟩ rfl ?_
  intro j _ hj hA
  simp only [List.length_map, EVA, ↓reduceIte, Nat.reduceEqDiff, Nat.reduceMul, reduceCtorEq, Nat.reduceAdd, Nat.reduceSub, Nat.reduceLeDiff, Nat.reduceLT, Int.reduceToNat, Int.reduceLE, Int.reduceLT, Ze, men]
  split
  ·rename_i hlt
   have hja : j < a.length := by omega
   have hjb : j < b.length := by omega
   have ga : (rS a)[j]? = some [ts a[j]] := by simp [hja]
   have gb : (rS b)[j]? = some [ts b[j]] := by simp [hjb]
   simp only [ga, gb, Int.natCast_nonneg, Nat.le_refl, EVA, ↓reduceIte, Nat.reduceEqDiff, Nat.reduceMul, reduceCtorEq, Nat.reduceAdd, Nat.reduceSub, Nat.reduceLeDiff, Nat.reduceLT, Int.reduceToNat, Int.reduceLE, Int.reduceLT, Ze, men]
   split
   ·rename_i hne
    have : ¬ a = b := ZbH hja hjb (by simpa using hne)
    simp [this]
   ·rename_i he
    refine ⟨by rw [Zg]; omega, Zi () hja rfl (U9 hja hjb hA (by simpa using he))⟩
  ·rename_i hge
   have : j = a.length := by omega
   subst this
   have : a = b := Zak hlen hA
   simp [this]
def YN {α : Type} (c : α -> List Tr) (z : List Tr) (a : List α) (j : Nat) : Row := (a.take j).map c ++ List.replicate (a.length - j) z
theorem XO {α : Type} (c : α -> List Tr) (z : List Tr) (a : List α) : YN c z a 0 = List.replicate a.length z := by simp [YN]
theorem WP {α : Type} (c : α -> List Tr) (z : List Tr) (a : List α) : YN c z a a.length = a.map c := by simp [YN]
theorem Ul {α : Type} {c : α -> List Tr} {z : List Tr} {a : List α} {j : Nat} (h : j <= a.length) : (YN c z a j).length = a.length := by
 simp [YN]; omega
theorem WQ {α : Type} {c : α -> List Tr} {z : List Tr} {a : List α} {j : Nat} (h : j < a.length) : (YN c z a j)[j]? = some z := by
 unfold YN
 have h1 : ((a.take j).map c).length = j := by rw [List.length_map, List.length_take]; omega
 rw [List.getElem?_append_right (by omega), h1, Nat.sub_self, List.getElem?_replicate]
 rw [if_pos (by omega)]
theorem WR {α : Type} {c : α -> List Tr} {z e : List Tr} {a : List α} {j : Nat} (h : j < a.length) (he : e = c a[j]) : (YN c z a j).set j e = YN c z a (j + 1) := by
 subst he
 unfold YN
 have h1 : ((a.take j).map c).length = j := by simp; omega
 rw [List.set_append_right _ _ (by omega), h1, Nat.sub_self, show a.length - j = (a.length - (j + 1)) + 1 from by omega, List.replicate_succ, List.set_cons_zero, List.take_succ_eq_append_getElem h, List.map_append]
 simp
def ZoW (z : Value) : F2 :=
 { nt := 22, res := [.t 2 [2]], body :=
  (.sq (.rg none [⟨some 2, none, .mv (.k (.slice none 0 0)) none⟩])
  (.sq (.rg none [⟨some 5, none, .mv (.t 0) none⟩,
   ⟨some 6, none, .ln (.t 5)⟩,
   ⟨some 7, none, .ms 1 [z] (.t 6)⟩,
   ⟨some 3, none, .mv (.t 7) none⟩])
  (.sq (.sq (.rg none [⟨some 4, none, .mv (.k (.int .i64 0)) none⟩])
  (.bl 0 (.lp [0, 3, 4] [224] (.sq (.sq (.rg none [⟨some 8, none, .mv (.t 4) none⟩,
     ⟨some 9, none, .mv (.t 0) none⟩,
     ⟨some 10, none, .ln (.t 9)⟩,
     ⟨some 11, none, .bi .lss 0 (.t 8) (.t 10)⟩])
    (.cd (.t 11) (.sk)
    (.ex 0)))
   (.sq (.bl 1 (.rg none [⟨some 14, none, .mv (.t 3) none⟩,
     ⟨some 15, none, .mv (.t 4) none⟩,
     ⟨some 16, none, .mv (.t 0) none⟩,
     ⟨some 17, none, .mv (.t 4) none⟩,
     ⟨some 18, none, .ia 1 (.t 16) (.t 17)⟩,
     ⟨some 19, none, .ld none (.t 18)⟩,
     ⟨some 20, none, .ia 1 (.t 14) (.t 15)⟩,
     ⟨none, none, .st 1 (.t 20) (.t 19)⟩]))
   (.rg none [⟨some 12, none, .mv (.t 4) none⟩,
    ⟨some 13, none, .bi .add 0 (.t 12) (.k (.int .i64 1))⟩,
    ⟨some 4, none, .mv (.t 13) none⟩]))))))
  (.sq (.rg none [⟨some 21, none, .mv (.t 3) none⟩,
   ⟨some 2, none, .mv (.t 21) none⟩])
  (.rt))))) }
theorem Zol {P : Program} {fid : FuncId} (hc : Z2 P fid (ZoW (.int .i64 0)) = true) (a : List Int) (ha : a.length <= 4294967296) (lvl : Nat) (S : Sto) : Sem P fid lvl [tI a] S (.ow 1 (rI a) true) S := by
 refine Zf hc trivial ?_
 simp only [ZoW, List.length_map, bigN, Int.natCast_nonneg, EVA, ↓reduceIte, Nat.reduceEqDiff, Nat.reduceMul, reduceCtorEq, Nat.reduceAdd, Nat.reduceSub, Nat.reduceLeDiff, Nat.reduceLT, Int.reduceToNat, Int.reduceLE, Int.reduceLT, Ze, men]
 refine ⟨by omega, ?_⟩
 refine Z6 (α := Unit) a.length (fun j _ => ⟨lvl, [(0, tI a), (3, .hd (lvl, 224) [] 0 a.length none a.length), (4, iI j)], [(224, .ar 1 (YN (fun n => [tv n]) [tv 0] a j) true a.length 0)], S⟩) (fun _ _ => True) () ⟨by simp only [EVA, ↓reduceIte, Nat.reduceEqDiff, Nat.reduceMul, reduceCtorEq, Nat.reduceAdd, Nat.reduceSub, Nat.reduceLeDiff, Nat.reduceLT, Int.reduceToNat, Int.reduceLE, Int.reduceLT, Ze, men], by (simp only [XO, EVA, ↓reduceIte, Nat.reduceEqDiff, Nat.reduceMul, reduceCtorEq, Nat.reduceAdd, Nat.reduceSub, Nat.reduceLeDiff, Nat.reduceLT, Int.reduceToNat, Int.reduceLE, Int.reduceLT, Ze, men]) <;> rfl⟩ trivial ?_
 intro j _ hj _
 simp only [List.length_map, EVA, ↓reduceIte, Nat.reduceEqDiff, Nat.reduceMul, reduceCtorEq, Nat.reduceAdd, Nat.reduceSub, Nat.reduceLeDiff, Nat.reduceLT, Int.reduceToNat, Int.reduceLE, Int.reduceLT, Ze, men]
 split
 ·rename_i hlt
  have hja : j < a.length := by omega
  have ga : (rI a)[j]? = some [tv a[j]] := by simp [hja]
  have gz : (YN (fun n => [tv n]) [tv 0] a j)[j]? = some [tv 0] := WQ hja
  simp only [ga, gz, Int.natCast_nonneg, Nat.le_refl, hja, YC, List.set_cons_zero, Zaj, EVA, ↓reduceIte, Nat.reduceEqDiff, Nat.reduceMul, reduceCtorEq, Nat.reduceAdd, Nat.reduceSub, Nat.reduceLeDiff, Nat.reduceLT, Int.reduceToNat, Int.reduceLE, Int.reduceLT, Ze, men]
  refine ⟨by rw [Zg]; omega, Zi () hja ?_ trivial⟩
  rw [WR hja rfl]
  rfl
 ·rename_i hge
  have : j = a.length := by omega
  subst this
  rw [WP]
  simp
theorem Zom {P : Program} {fid : FuncId} (hc : Z2 P fid (ZoW (.string ⟨#[]⟩)) = true) (a : List ByteArray) (ha : a.length <= 4294967296) (lvl : Nat) (S : Sto) : Sem P fid lvl [tS a] S (.ow 1 (rS a) true) S := by
 refine Zf hc trivial ?_
 simp only [ZoW, List.length_map, bigN, Int.natCast_nonneg, EVA, ↓reduceIte, Nat.reduceEqDiff, Nat.reduceMul, reduceCtorEq, Nat.reduceAdd, Nat.reduceSub, Nat.reduceLeDiff, Nat.reduceLT, Int.reduceToNat, Int.reduceLE, Int.reduceLT, Ze, men]
 refine ⟨by omega, ?_⟩
 refine Z6 (α := Unit) a.length (fun j _ => ⟨lvl, [(0, tS a), (3, .hd (lvl, 224) [] 0 a.length none a.length), (4, iI j)], [(224, .ar 1 (YN (fun n => [ts n]) [ts ⟨#[]⟩] a j) true a.length 0)], S⟩) (fun _ _ => True) () ⟨by simp only [EVA, ↓reduceIte, Nat.reduceEqDiff, Nat.reduceMul, reduceCtorEq, Nat.reduceAdd, Nat.reduceSub, Nat.reduceLeDiff, Nat.reduceLT, Int.reduceToNat, Int.reduceLE, Int.reduceLT, Ze, men], by (simp only [XO, EVA, ↓reduceIte, Nat.reduceEqDiff, Nat.reduceMul, reduceCtorEq, Nat.reduceAdd, Nat.reduceSub, Nat.reduceLeDiff, Nat.reduceLT, Int.reduceToNat, Int.reduceLE, Int.reduceLT, Ze, men]) <;> rfl⟩ trivial ?_
 intro j _ hj _
 simp only [List.length_map, EVA, ↓reduceIte, Nat.reduceEqDiff, Nat.reduceMul, reduceCtorEq, Nat.reduceAdd, Nat.reduceSub, Nat.reduceLeDiff, Nat.reduceLT, Int.reduceToNat, Int.reduceLE, Int.reduceLT, Ze, men]
 split
 ·rename_i hlt
  have hja : j < a.length := by omega
  have ga : (rS a)[j]? = some [ts a[j]] := by simp [hja]
  have gz : (YN (fun n => [ts n]) [ts ⟨#[]⟩] a j)[j]? = some [ts ⟨#[]⟩] := WQ hja
  simp only [ga, gz, Int.natCast_nonneg, Nat.le_refl, hja, YC, List.set_cons_zero, Zaj, EVA, ↓reduceIte, Nat.reduceEqDiff, Nat.reduceMul, reduceCtorEq, Nat.reduceAdd, Nat.reduceSub, Nat.reduceLeDiff, Nat.reduceLT, Int.reduceToNat, Int.reduceLE, Int.reduceLT, Ze, men]
  refine ⟨by rw [Zg]; omega, Zi () hja ?_ trivial⟩
  rw [WR hja rfl]
  rfl
 ·rename_i hge
  have : j = a.length := by omega
  subst this
  rw [WP]
  simp
end Go.Fd

/-
  THE LAWS' HELPERS AT SLICES WHOSE ELEMENTS ARE ONE CELL. Own work.
-/
namespace Go.Fd
set_option maxRecDepth 10000
end Go.Fd

/-
  HOW MANY MARKS A THING TAKES, AGAINST ITS SIZE. Own work.
-/
namespace Go.Fd
def ZaU (l : Int) (g : Int -> Int) : Int := if l < 0 then -1 else g l
def Zq (c : Int) (s : Int -> Int) (q : Nat) : Prop := ∀ l : Int, 0 <= l -> l <= 1048576 -> s l <= l /\ (0 <= s l -> (q : Int) <= c + 256 * (l - s l))
theorem ZlO : Zq 0 (fun l => l) 0 := fun l _ _ => ⟨Int.le_refl _, fun _ => by simp only; omega⟩
theorem Zhd {c e : Int} {s g : Int -> Int} {q r : Nat} (hc : 0 <= c) (he : 0 <= e) (hs : Zq c s q) (hg : Zq e g r) : Zq (c + e) (fun l => ZaU (s l) g) (q + r) := fun l h0 h1 => by
 have a := hs l h0 h1
 by_cases h : s l < 0
 ·simp only [ZaU, if_pos h]
  exact ⟨by omega, fun h => by omega⟩
 ·simp only [ZaU, if_neg h]
  have b := hg (s l) (by omega) (by omega)
  refine ⟨by omega, fun h2 => ?_⟩
  have := a.2 (by omega)
  have := b.2 h2
  omega
theorem Zwn {α : Type} (n : α -> Nat) (hn : ∀ x, n x <= 256) (a : List α) : Zq 0 (fun l => szN a.length l) (nL n a) := fun l h0 h1 => by
 have hh : ∀ b : List α, nL n b <= 256 * b.length := fun b => by
  induction b with
  | nil => exact Nat.le_refl 0
  | cons x r ih => simp only [nL, List.length_cons]; have := hn x; omega
 have := hh a
 simp only [szN]
 split
 ·exact ⟨by omega, fun h => by omega⟩
 ·exact ⟨by omega, fun h => by omega⟩
theorem ZmF (n : Nat) : Zq 0 (fun l => l - n) 0 := fun l h0 h1 => ⟨by simp only; omega, fun h => by simp only at h ⊢; omega⟩
theorem Zon (n : Nat) : Zq 256 (fun l => l - n) 1 := fun l h0 h1 => ⟨by simp only; omega, fun h => by simp only at h ⊢; omega⟩
theorem Zwo {α : Type} {f : α -> Int -> Int} {n : α -> Nat} (hf : ∀ x, Zq 256 (f x) (n x)) : ∀ (a : List α), Zq (256 * a.length) (fun l => szF f a l) (nL n a)
 | [] => fun l _ _ => ⟨Int.le_refl l, fun _ => by simp only [szF, nL, List.length_nil]; omega⟩
 | x :: r => fun l h0 h1 => by
  simp only [szF, nL, List.length_cons]
  have a := hf x l h0 h1
  split
  ·exact ⟨by omega, fun h => by omega⟩
  ·have b := Zwo hf r (f x l) (by omega) (by omega)
   simp only at b
   refine ⟨by omega, fun h => ?_⟩
   have := a.2 (by omega)
   have := b.2 h
   omega
theorem ZoX {α : Type} {f : α -> Int -> Int} {n : α -> Nat} (hf : ∀ x, Zq 256 (f x) (n x)) (a : List α) : Zq 0 (fun l => szL f a l) (nL n a) := fun l h0 h1 => by
 simp only [szL]
 split
 ·exact ⟨by omega, fun h => by omega⟩
 ·have b := Zwo hf a (l - a.length) (by omega) (by omega)
  simp only at b
  refine ⟨by omega, fun h => ?_⟩
  have := b.2 h
  omega
theorem ZaV {c e : Int} {s : Int -> Int} {q r : Nat} (h : Zq c s q) (hq : (r : Int) + c <= q + e) : Zq e s r := fun l h0 h1 => by
 have a := h l h0 h1
 refine ⟨a.1, fun h2 => ?_⟩
 have := a.2 h2
 omega
end Go.Fd

/-
  THE DATA OF THE LAWS: plain types, how they lie in memory (printed by lawgen.py). Own work.
-/
namespace Go.Fd
set_option maxRecDepth 10000
structure TNode where
 control : Int
 parent : Int
 links : (List Int)
 deriving DecidableEq
def ZK (x : TNode) : List Tr := [tv x.control, tv x.parent, .sl (rI x.links)]
theorem ZjT (x : TNode) : (ZK x).length = 3 := rfl
def ZlP (x : TNode) : IV := .ag [iI x.control, iI x.parent, .ow 1 (rI x.links) true]
def Q6 (n : Nat) (x : TNode) : Prop := x.links.length <= n
def ZjU (x : TNode) : Prop := Q1 .i64 x.control /\ Q1 .i64 x.parent /\ (∀ y ∈ x.links, Q1 .i64 y)
def Uz (x : TNode) (l : Int) : Int := ZaU (szN x.links.length l) fun l => l
structure TWire where
 name : ByteArray
 link : Int
 deriving DecidableEq
def ZO (x : TWire) : List Tr := [ts x.name, tv x.link]
theorem ZjV (x : TWire) : (ZO x).length = 2 := rfl
def ZlQ (x : TWire) : IV := .ag [iS x.name, iI x.link]
def V4 (n : Nat) (x : TWire) : Prop := x.name.size <= n
def ZjW (x : TWire) : Prop := Q1 .i64 x.link
def UA (x : TWire) (l : Int) : Int := ZaU (l - x.name.size) fun l => l
structure TBigraph where
 roots : Int
 nodes : (List TNode)
 sites : (List Int)
 edges : Int
 outer : (List ByteArray)
 inner : (List TWire)
 deriving DecidableEq
def Za (x : TBigraph) : List Tr := [tv x.roots, .sl (x.nodes.map ZK), .sl (rI x.sites), tv x.edges, .sl (rS x.outer), .sl (x.inner.map ZO)]
def Zc (x : TBigraph) : IV := .ag [iI x.roots, .ow 3 (x.nodes.map ZK) true, .ow 1 (rI x.sites) true, iI x.edges, .ow 1 (rS x.outer) true, .ow 2 (x.inner.map ZO) true]
def Zl (n : Nat) (x : TBigraph) : Prop := x.nodes.length <= n /\ (∀ y ∈ x.nodes, Q6 n y) /\ x.sites.length <= n /\ x.outer.length <= n /\ (∀ y ∈ x.outer, y.size <= n) /\ x.inner.length <= n /\ (∀ y ∈ x.inner, V4 n y)
def Zx (x : TBigraph) : Prop := Q1 .i64 x.roots /\ (∀ y ∈ x.nodes, ZjU y) /\ (∀ y ∈ x.sites, Q1 .i64 y) /\ Q1 .i64 x.edges /\ (∀ y ∈ x.inner, ZjW y)
def JU (x : TBigraph) (l : Int) : Int := ZaU (szL Uz x.nodes l) fun l => ZaU (szN x.sites.length l) fun l => ZaU (szL (fun x m => m - x.size) x.outer l) fun l => ZaU (szL UA x.inner l) fun l => l
structure TControl where
 name : ByteArray
 ports : Int
 kind_ : Int
 deriving DecidableEq
def Zn (x : TControl) : List Tr := [ts x.name, tv x.ports, tv x.kind_]
theorem Zb4 (x : TControl) : (Zn x).length = 3 := rfl
def ZcG (x : TControl) : IV := .ag [iS x.name, iI x.ports, iI x.kind_]
def ZD (n : Nat) (x : TControl) : Prop := x.name.size <= n
def Zgf (x : TControl) : Prop := Q1 .i64 x.ports /\ Q1 .i64 x.kind_
def ZL (x : TControl) (l : Int) : Int := ZaU (l - x.name.size) fun l => l
end Go.Fd

/-
  The numbers of the functions of this program, by name (printed by ids.py).
-/
namespace Go.Fd
abbrev Yo : FuncId := 7
abbrev VE : FuncId := 8
abbrev YO : FuncId := 9
abbrev J2 : FuncId := 10
abbrev Je : FuncId := 11
abbrev ZF : FuncId := 13
abbrev Zr : FuncId := 14
abbrev Zz : FuncId := 16
abbrev J3 : FuncId := 17
abbrev JM : FuncId := 18
abbrev ZJ : FuncId := 19
abbrev Z3 : FuncId := 20
abbrev Jp : FuncId := 31
abbrev Z7 : FuncId := 32
abbrev Yb : FuncId := 33
abbrev YP : FuncId := 34
abbrev JN : FuncId := 35
abbrev Yc : FuncId := 36
abbrev Qh : FuncId := 37
abbrev Xe : FuncId := 38
abbrev Qi : FuncId := 39
abbrev Qj : FuncId := 40
abbrev Xf : FuncId := 41
abbrev Ju : FuncId := 42
abbrev Jv : FuncId := 43
abbrev Xv : FuncId := 44
abbrev QO : FuncId := 45
abbrev Yp : FuncId := 46
abbrev VM : FuncId := 48
abbrev Qk : FuncId := 49
abbrev Xg : FuncId := 50
abbrev Ql : FuncId := 51
abbrev Qm : FuncId := 52
abbrev Xh : FuncId := 53
abbrev Yd : FuncId := 54
abbrev Ji : FuncId := 55
abbrev Qn : FuncId := 56
abbrev Jw : FuncId := 57
abbrev Wt : FuncId := 58
abbrev ZU : FuncId := 59
abbrev Jf : FuncId := 60
abbrev Xi : FuncId := 62
abbrev Qo : FuncId := 63
abbrev Qp : FuncId := 64
abbrev Xj : FuncId := 65
abbrev Qq : FuncId := 66
abbrev JF : FuncId := 67
abbrev Qr : FuncId := 68
abbrev Va : FuncId := 69
abbrev Vm : FuncId := 70
abbrev Qs : FuncId := 71
abbrev Qt : FuncId := 72
abbrev Vb : FuncId := 73
abbrev Vn : FuncId := 74
abbrev Qu : FuncId := 75
abbrev Qv : FuncId := 80
abbrev JG : FuncId := 81
abbrev Qw : FuncId := 83
abbrev Wu : FuncId := 84
abbrev VX : FuncId := 85
abbrev Yx : FuncId := 86
abbrev Ja : FuncId := 87
abbrev QP : FuncId := 88
abbrev QQ : FuncId := 89
abbrev J9 : FuncId := 90
abbrev Jk : FuncId := 91
abbrev YW : FuncId := 92
abbrev Wv : FuncId := 93
abbrev JX : FuncId := 94
abbrev XP : FuncId := 95
abbrev XQ : FuncId := 96
abbrev Ww : FuncId := 97
abbrev VN : FuncId := 98
abbrev XR : FuncId := 99
abbrev VO : FuncId := 100
abbrev Qx : FuncId := 101
abbrev VP : FuncId := 102
abbrev VQ : FuncId := 103
abbrev YD : FuncId := 104
abbrev VS : FuncId := 105
abbrev XT : FuncId := 106
abbrev XU : FuncId := 107
abbrev Vo : FuncId := 108
abbrev Vc : FuncId := 109
abbrev JK : FuncId := 110
abbrev JH : FuncId := 111
abbrev Vp : FuncId := 112
abbrev JY : FuncId := 113
abbrev Vq : FuncId := 114
abbrev Jx : FuncId := 115
abbrev Vr : FuncId := 116
abbrev UB : FuncId := 117
abbrev Jg : FuncId := 118
abbrev J4 : FuncId := 119
abbrev Vs : FuncId := 120
abbrev Jy : FuncId := 121
abbrev YK : FuncId := 122
abbrev XV : FuncId := 123
abbrev XW : FuncId := 124
abbrev Vd : FuncId := 131
abbrev J0 : FuncId := 132
abbrev Jq : FuncId := 133
abbrev QY : FuncId := 134
abbrev JS : FuncId := 135
abbrev VY : FuncId := 136
abbrev JV : FuncId := 137
abbrev Ye : FuncId := 138
abbrev Yy : FuncId := 139
abbrev Yz : FuncId := 140
abbrev ZT : FuncId := 141
abbrev Jm : FuncId := 142
abbrev VT : FuncId := 143
abbrev Xk : FuncId := 144
abbrev Yq : FuncId := 145
abbrev Qy : FuncId := 146
abbrev Jc : FuncId := 147
abbrev J5 : FuncId := 148
abbrev YQ : FuncId := 149
abbrev JI : FuncId := 150
abbrev Jj : FuncId := 158
abbrev ZX : FuncId := 159
abbrev JA : FuncId := 160
abbrev QZ : FuncId := 162
abbrev Qz : FuncId := 163
abbrev J6 : FuncId := 164
abbrev ZQ : FuncId := 165
abbrev Ve : FuncId := 166
abbrev Jl : FuncId := 167
abbrev ZV : FuncId := 172
abbrev Z4 : FuncId := 173
abbrev VF : FuncId := 174
abbrev YL : FuncId := 175
abbrev YX : FuncId := 176
abbrev YT : FuncId := 177
abbrev Yf : FuncId := 178
abbrev YE : FuncId := 179
abbrev Vt : FuncId := 180
abbrev Zal : FuncId := 181
abbrev VZ : FuncId := 182
abbrev Jb : FuncId := 186
abbrev QA : FuncId := 187
abbrev Vf : FuncId := 188
abbrev VG : FuncId := 189
abbrev Vu : FuncId := 190
abbrev Yr : FuncId := 191
abbrev YA : FuncId := 192
abbrev YY : FuncId := 193
abbrev V8 : FuncId := 194
abbrev Yl : FuncId := 207
end Go.Fd
