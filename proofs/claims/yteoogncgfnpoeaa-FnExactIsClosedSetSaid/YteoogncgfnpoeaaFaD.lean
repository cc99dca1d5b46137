/-
  FOUNDATION 45: more rules: loads, parts of slices, calls, results, forgetting. Own work.
-/
import Derived.Test.YteoogncgfnpoeaaFaC
import Derived.ChangeArms
import Derived.OpenShut
import Derived.Carry
namespace Go.Fd

section
variable {C : Contract} {lvl : Nat} {env : List (Nat × IV)} {loc : List (Nat × Ob)} {out : Sto} {d : Option Nat} {K : St → Prop} {st : St} {Q : Ex → St → Prop} {F : IV → Prop}

/-! ## the store -/
theorem r_pack {k : Nat} : packS lvl loc out (lvl, k) = lkO k loc := by unfold packS; rw [if_pos rfl]
theorem r_packo {id : Oid} (h : id.1 ≠ lvl) : packS lvl loc out id = out id := by unfold packS; rw [if_neg h]
theorem r_setOb {k : Nat} {ob : Ob} : setOb ⟨lvl, env, loc, out⟩ (lvl, k) ob = ⟨lvl, env, ptO k ob loc, out⟩ := by unfold setOb; rw [if_pos rfl]
theorem r_setObo {id : Oid} {ob : Ob} (h : id.1 ≠ lvl) : setOb ⟨lvl, env, loc, out⟩ id ob = ⟨lvl, env, loc, sset out id ob⟩ := by unfold setOb; rw [if_neg h]
theorem r_kill {id : Oid} : kill id ⟨lvl, env, loc, out⟩ = ⟨lvl, scrE id env, scrL id (rmO id.2 loc), out⟩ := (rfl)
theorem r_sto : (⟨lvl, env, loc, out⟩ : St).sto = packS lvl loc out := (rfl)
theorem r_sset {id : Oid} {ob : Ob} {S : Sto} : sset S id ob id = some ob := by unfold sset; rw [if_pos rfl]

/-! ## loads -/
def ltr (F : IV → Prop) (t : Tr) : Prop := F (.tr t)
theorem r_ltr {t : Tr} : ltr F t = F (.tr t) := (rfl)
def lab (o : Option Ob) (off : Nat) (F : IV → Prop) : Prop :=
  match o with
  | some (.bx cells) => op3 cells[off]? F
  | _ => False
theorem r_lab {cells : List IV} {off : Nat} : lab (some (.bx cells)) off F = op3 cells[off]? F := (rfl)
def lae (id : Oid) (p : Pth) (i f : Nat) (F : IV → Prop) (es : Row) (u : Bool) (ver : Nat) : Prop := op3 es[i]? fun e => op3 e[f]? fun t => F (cvt id p i f u ver t)
def lae2 (id : Oid) (p : Pth) (i f : Nat) (F : IV → Prop) (u : Bool) (ver : Nat) (e : List Tr) : Prop := op3 e[f]? fun t => F (cvt id p i f u ver t)
def lae3 (id : Oid) (p : Pth) (i f : Nat) (F : IV → Prop) (u : Bool) (ver : Nat) (t : Tr) : Prop := F (cvt id p i f u ver t)
theorem r_lae {id : Oid} {p : Pth} {i f : Nat} {es : Row} {u : Bool} {ver : Nat} : lae id p i f F es u ver = op3 es[i]? (lae2 id p i f F u ver) := (rfl)
theorem r_lae2 {id : Oid} {p : Pth} {i f : Nat} {e : List Tr} {u : Bool} {ver : Nat} : lae2 id p i f F u ver e = op3 e[f]? (lae3 id p i f F u ver) := (rfl)
theorem r_lae3 {id : Oid} {p : Pth} {i f : Nat} {t : Tr} {u : Bool} {ver : Nat} : lae3 id p i f F u ver t = F (cvt id p i f u ver t) := (rfl)
def lmae (id : Oid) (p : Pth) (i f m : Nat) (F : IV → Prop) (es : Row) (u : Bool) (ver : Nat) : Prop := op3 es[i]? fun e => f + m ≤ e.length ∧ F (.ag (cvts id p i u ver f ((e.drop f).take m)))
def lmae2 (id : Oid) (p : Pth) (i f m : Nat) (F : IV → Prop) (u : Bool) (ver : Nat) (e : List Tr) : Prop := f + m ≤ e.length ∧ F (.ag (cvts id p i u ver f ((e.drop f).take m)))
theorem r_lmae {id : Oid} {p : Pth} {i f m : Nat} {es : Row} {u : Bool} {ver : Nat} : lmae id p i f m F es u ver = op3 es[i]? (lmae2 id p i f m F u ver) := (rfl)
theorem r_lmae2 {id : Oid} {p : Pth} {i f m : Nat} {e : List Tr} {u : Bool} {ver : Nat} : lmae2 id p i f m F u ver e = (f + m ≤ e.length ∧ F (.ag (cvts id p i u ver f ((e.drop f).take m)))) := (rfl)
def ld2 (L : Sto) (m : Option Nat) (x : IV) (F : IV → Prop) : Prop :=
  match m, x with
  | none, .ta cells => op3 cells[0]? (ltr F)
  | none, .ab id off => lab (L id) off F
  | none, .ae id p i f st => rd3 (L id) p st (lae id p i f F)
  | some m, .ta cells => m ≤ cells.length ∧ F (.ag ((cells.take m).map .tr))
  | some m, .ab id off =>
    match L id with
    | some (.bx cells) => off + m ≤ cells.length ∧ F (.ag ((cells.drop off).take m))
    | _ => False
  | some m, .ae id p i f st => rd3 (L id) p st (lmae id p i f m F)
  | _, _ => False
theorem r_ld {m : Option Nat} {p : X} : op2 C d (.ld m p) ⟨lvl, env, loc, out⟩ K = ld2 (packS lvl loc out) m (xv env p) (go1 lvl env loc out d K) := by
  refine op2_gen (o := .ld m p) (T := fun F => ld2 (packS lvl loc out) m (xv env p) F) (by cases m <;> rfl) (fun Kd => ?_)
  cases m with
  | none =>
    simp only [ev]
    generalize xv env p = v
    cases v <;> try rfl
    · dsimp only [ld2, lab]
      rename_i id off
      generalize packS lvl loc out id = o
      cases o with
      | none => rfl
      | some ob =>
        cases ob with
        | bx => exact op3_ex
        | ar => rfl
    · dsimp only [ld2]
      rw [← rdh_rd3]
      congr 1
      funext es u ver
      simp only [lae, ← op3_ex]
    · exact op3_ex
  | some m =>
    simp only [ev]
    generalize xv env p = v
    cases v <;> try rfl
    dsimp only [ld2]
    rw [← rdh_rd3]
    congr 1
    funext es u ver
    simp only [lmae, ← op3_ex]
theorem r_ld1 {L : Sto} {cells : List Tr} : ld2 L none (.ta cells) F = op3 cells[0]? (ltr F) := (rfl)
theorem r_ld2 {L : Sto} {id : Oid} {off : Nat} : ld2 L none (.ab id off) F = lab (L id) off F := (rfl)
theorem r_ld3 {L : Sto} {id : Oid} {p : Pth} {i f s : Nat} : ld2 L none (.ae id p i f s) F = rd3 (L id) p s (lae id p i f F) := (rfl)
theorem r_ld4 {L : Sto} {m : Nat} {cells : List Tr} : ld2 L (some m) (.ta cells) F = (m ≤ cells.length ∧ F (.ag ((cells.take m).map .tr))) := (rfl)
def labm (o : Option Ob) (off m : Nat) (F : IV → Prop) : Prop :=
  match o with
  | some (.bx cells) => off + m ≤ cells.length ∧ F (.ag ((cells.drop off).take m))
  | _ => False
theorem r_labm {cells : List IV} {off m : Nat} : labm (some (.bx cells)) off m F = (off + m ≤ cells.length ∧ F (.ag ((cells.drop off).take m))) := (rfl)
theorem r_ld5 {L : Sto} {m : Nat} {id : Oid} {off : Nat} : ld2 L (some m) (.ab id off) F = labm (L id) off m F := (rfl)
theorem r_ld6 {L : Sto} {m : Nat} {id : Oid} {p : Pth} {i f s : Nat} : ld2 L (some m) (.ae id p i f s) F = rd3 (L id) p s (lmae id p i f m F) := (rfl)

/-! ## parts of slices and strings -/
def bn (x : Option IV) (n : Nat) (F : Nat → Prop) : Prop :=
  match x with
  | none => F n
  | some (.tr (.v (.int _ m))) => 0 ≤ m ∧ F m.toNat
  | _ => False
theorem r_bn0 {n : Nat} {F : Nat → Prop} : bn none n F = F n := (rfl)
theorem r_bn1 {n : Nat} {k : IntKind} {m : Int} {F : Nat → Prop} : bn (some (.tr (.v (.int k m)))) n F = (0 ≤ m ∧ F m.toNat) := (rfl)
theorem bndI_bn {ρ : X → IV} {x : Option X} {n : Nat} {F : Nat → Prop} : bndI ρ x n F = bn (x.map ρ) n F := by
  cases x with
  | none => rfl
  | some x =>
    simp only [bndI, bn, Option.map_some]
    generalize ρ x = v
    cases v <;> try rfl
    rename_i t
    cases t <;> try rfl
    rename_i y
    cases y <;> rfl
/-- A part of a tree: k cells an element; q: as a clipped slice. -/
def sxt (k : Nat) (es : Row) (los : Bool) (hi mx : Option IV) (q : Bool) (F : IV → Prop) (a : Nat) : Prop := (los = true → UnR k es) ∧ bn hi es.length fun b => a ≤ b ∧ b ≤ es.length ∧ bn mx b fun m => m = b ∧ F (if q then .cs (cut es a (b - a)) else .tr (.sl (cut es a (b - a))))
def sxt2 (es : Row) (mx : Option IV) (q : Bool) (F : IV → Prop) (a b : Nat) : Prop := a ≤ b ∧ b ≤ es.length ∧ bn mx b fun m => m = b ∧ F (if q then .cs (cut es a (b - a)) else .tr (.sl (cut es a (b - a))))
def sxt3 (es : Row) (q : Bool) (F : IV → Prop) (a b m : Nat) : Prop := m = b ∧ F (if q then .cs (cut es a (b - a)) else .tr (.sl (cut es a (b - a))))
theorem r_sxt {k : Nat} {es : Row} {los q : Bool} {hi mx : Option IV} {a : Nat} : sxt k es los hi mx q F a = ((los = true → UnR k es) ∧ bn hi es.length (sxt2 es mx q F a)) := (rfl)
theorem r_sxt2 {es : Row} {q : Bool} {mx : Option IV} {a b : Nat} : sxt2 es mx q F a b = (a ≤ b ∧ b ≤ es.length ∧ bn mx b (sxt3 es q F a b)) := (rfl)
theorem r_sxt3 {es : Row} {q : Bool} {a b m : Nat} : sxt3 es q F a b m = (m = b ∧ F (if q = true then .cs (cut es a (b - a)) else .tr (.sl (cut es a (b - a))))) := (rfl)
def sxh (L : Sto) (k : Nat) (id : Oid) (p : Pth) (off len : Nat) (cap : Option Nat) (s : Nat) (hi mx : Option IV) (F : IV → Prop) (a : Nat) : Prop :=
  bn hi len fun b => a ≤ b ∧ b ≤ len ∧ bn mx b fun m => b ≤ m ∧ m ≤ len ∧ wid L id p k ∧ F (.hd id p (off + a) (b - a) (if mx.isSome then some (m - a) else cap.map (· - a)) s)
def sxh2 (L : Sto) (k : Nat) (id : Oid) (p : Pth) (off len : Nat) (cap : Option Nat) (s : Nat) (mx : Option IV) (F : IV → Prop) (a b : Nat) : Prop :=
  a ≤ b ∧ b ≤ len ∧ bn mx b fun m => b ≤ m ∧ m ≤ len ∧ wid L id p k ∧ F (.hd id p (off + a) (b - a) (if mx.isSome then some (m - a) else cap.map (· - a)) s)
def sxh3 (L : Sto) (k : Nat) (id : Oid) (p : Pth) (off len : Nat) (cap : Option Nat) (s : Nat) (mx : Option IV) (F : IV → Prop) (a b m : Nat) : Prop :=
  b ≤ m ∧ m ≤ len ∧ wid L id p k ∧ F (.hd id p (off + a) (b - a) (if mx.isSome then some (m - a) else cap.map (· - a)) s)
theorem r_sxh {L : Sto} {k : Nat} {id : Oid} {p : Pth} {off len : Nat} {cap : Option Nat} {s : Nat} {hi mx : Option IV} {a : Nat} : sxh L k id p off len cap s hi mx F a = bn hi len (sxh2 L k id p off len cap s mx F a) := (rfl)
theorem r_sxh2 {L : Sto} {k : Nat} {id : Oid} {p : Pth} {off len : Nat} {cap : Option Nat} {s : Nat} {mx : Option IV} {a b : Nat} : sxh2 L k id p off len cap s mx F a b = (a ≤ b ∧ b ≤ len ∧ bn mx b (sxh3 L k id p off len cap s mx F a b)) := (rfl)
theorem r_sxh3 {L : Sto} {k : Nat} {id : Oid} {p : Pth} {off len : Nat} {cap : Option Nat} {s : Nat} {mx : Option IV} {a b m : Nat} : sxh3 L k id p off len cap s mx F a b m = (b ≤ m ∧ m ≤ len ∧ wid L id p k ∧ F (.hd id p (off + a) (b - a) (if mx.isSome then some (m - a) else cap.map (· - a)) s)) := (rfl)
def sx2 (L : Sto) (k : Nat) (x : IV) (lo hi mx : Option IV) (F : IV → Prop) : Prop :=
  match x with
  | .tr (.sl es) => bn lo 0 (sxt k es lo.isSome hi mx mx.isSome F)
  | .cs es => bn lo 0 (sxt k es lo.isSome hi mx (mx.isSome || hi.isNone) F)
  | .hd id p off len cap s => bn lo 0 (sxh L k id p off len cap s hi mx F)
  | _ => False
theorem bn_and {x : Option IV} {n : Nat} {p : Prop} {F : Nat → Prop} : (p ∧ bn x n F) = bn x n fun a => p ∧ F a := by
  apply propext
  cases x with
  | none => rfl
  | some v =>
    cases v <;> try exact ⟨fun h => h.2, fun h => h.elim⟩
    rename_i t
    cases t <;> try exact ⟨fun h => h.2, fun h => h.elim⟩
    rename_i y
    cases y <;> first | exact ⟨fun h => h.2, fun h => h.elim⟩ | exact ⟨fun ⟨h1, h2, h3⟩ => ⟨h2, h1, h3⟩, fun ⟨h1, h2, h3⟩ => ⟨h2, h1, h3⟩⟩
theorem r_sx {k : Nat} {x : X} {lo hi mx : Option X} : op2 C d (.sx k x lo hi mx) ⟨lvl, env, loc, out⟩ K = sx2 (packS lvl loc out) k (xv env x) (lo.map (xv env)) (hi.map (xv env)) (mx.map (xv env)) (go1 lvl env loc out d K) := by
  refine op2_gen (o := .sx k x lo hi mx) (T := fun F => sx2 (packS lvl loc out) k (xv env x) (lo.map (xv env)) (hi.map (xv env)) (mx.map (xv env)) F) rfl (fun Kd => ?_)
  simp only [ev, bndI_bn]
  generalize xv env x = v
  cases v <;> try rfl
  · rename_i t
    cases t <;> try rfl
    dsimp only [sx2, sxt]
    rw [bn_and]
    simp only [Option.isSome_map]
    rfl
  · dsimp only [sx2, sxt]
    rw [bn_and]
    simp only [Option.isSome_map, Option.isNone_map]
    rfl
  · dsimp only [sx2]
    congr 1
    funext a
    unfold sxh
    congr 1
    funext b
    simp only [Option.isSome_map]
theorem r_sx1 {L : Sto} {k : Nat} {es : Row} {lo hi mx : Option IV} : sx2 L k (.tr (.sl es)) lo hi mx F = bn lo 0 (sxt k es lo.isSome hi mx mx.isSome F) := (rfl)
theorem r_sx2 {L : Sto} {k : Nat} {es : Row} {lo hi mx : Option IV} : sx2 L k (.cs es) lo hi mx F = bn lo 0 (sxt k es lo.isSome hi mx (mx.isSome || hi.isNone) F) := (rfl)
theorem r_sx3 {L : Sto} {k : Nat} {id : Oid} {p : Pth} {off len : Nat} {cap : Option Nat} {s : Nat} {lo hi mx : Option IV} : sx2 L k (.hd id p off len cap s) lo hi mx F = bn lo 0 (sxh L k id p off len cap s hi mx F) := (rfl)
def sst (s : ByteArray) (hi : Option IV) (F : IV → Prop) (a : Nat) : Prop := bn hi s.size fun b => a ≤ b ∧ b ≤ s.size ∧ F (iS (s.extract a b))
def sst2 (s : ByteArray) (F : IV → Prop) (a b : Nat) : Prop := a ≤ b ∧ b ≤ s.size ∧ F (iS (s.extract a b))
theorem r_sst {s : ByteArray} {hi : Option IV} {a : Nat} : sst s hi F a = bn hi s.size (sst2 s F a) := (rfl)
theorem r_sst2 {s : ByteArray} {a b : Nat} : sst2 s F a b = (a ≤ b ∧ b ≤ s.size ∧ F (iS (s.extract a b))) := (rfl)
def ss2 (x : IV) (lo hi : Option IV) (F : IV → Prop) : Prop :=
  match x with
  | .tr (.v (.string s)) => bn lo 0 (sst s hi F)
  | _ => False
theorem r_ss {x : X} {lo hi : Option X} : op2 C d (.ss x lo hi) ⟨lvl, env, loc, out⟩ K = ss2 (xv env x) (lo.map (xv env)) (hi.map (xv env)) (go1 lvl env loc out d K) := by
  refine op2_gen (o := .ss x lo hi) (T := fun F => ss2 (xv env x) (lo.map (xv env)) (hi.map (xv env)) F) rfl (fun Kd => ?_)
  simp only [ev, bndI_bn]
  rfl
theorem r_ss1 {s : ByteArray} {lo hi : Option IV} : ss2 (.tr (.v (.string s))) lo hi F = bn lo 0 (sst s hi F) := (rfl)
def sa2 (n : Nat) (x : IV) (F : IV → Prop) : Prop :=
  match x with
  | .ta cells => n ≤ cells.length ∧ F (.cs ((cells.take n).map fun c => [c]))
  | _ => False
theorem r_sa {n : Nat} {x : X} : op2 C d (.sa n x) ⟨lvl, env, loc, out⟩ K = sa2 n (xv env x) (go1 lvl env loc out d K) := op2_gen rfl fun _ => rfl
theorem r_sa1 {n : Nat} {cells : List Tr} : sa2 n (.ta cells) F = (n ≤ cells.length ∧ F (.cs ((cells.take n).map fun c => [c]))) := (rfl)
def sby (F : IV → Prop) (l : List UInt8) : Prop := F (iS ⟨l.toArray⟩)
theorem r_sby {l : List UInt8} : sby F l = F (iS ⟨l.toArray⟩) := (rfl)
def sbh (off len : Nat) (F : IV → Prop) (es : Row) (_u : Bool) (_v : Nat) : Prop := off + len ≤ es.length ∧ op3 (byR (cut es off len)) (sby F)
theorem r_sbh {off len : Nat} {es : Row} {u : Bool} {v : Nat} : sbh off len F es u v = (off + len ≤ es.length ∧ op3 (byR (cut es off len)) (sby F)) := (rfl)
def sb2 (L : Sto) (x : IV) (F : IV → Prop) : Prop :=
  match x with
  | .tr (.sl es) => op3 (byR es) (sby F)
  | .cs es => op3 (byR es) (sby F)
  | .hd id p off len _ st => rd3 (L id) p st (sbh off len F)
  | _ => False
theorem r_sb {x : X} : op2 C d (.sb x) ⟨lvl, env, loc, out⟩ K = sb2 (packS lvl loc out) (xv env x) (go1 lvl env loc out d K) := by
  refine op2_gen (o := .sb x) (T := fun F => sb2 (packS lvl loc out) (xv env x) F) rfl (fun Kd => ?_)
  simp only [ev]
  generalize xv env x = v
  cases v <;> try rfl
  · rename_i t
    cases t <;> try rfl
    exact op3_ex
  · exact op3_ex
  · dsimp only [sb2]
    rw [← rdh_rd3]
    congr 1
    funext es u ver
    simp only [sbh, ← op3_ex]
    rfl
theorem r_sb1 {L : Sto} {es : Row} : sb2 L (.tr (.sl es)) F = op3 (byR es) (sby F) := (rfl)
theorem r_sb2 {L : Sto} {es : Row} : sb2 L (.cs es) F = op3 (byR es) (sby F) := (rfl)
theorem r_sb3 {L : Sto} {id : Oid} {p : Pth} {off len s : Nat} {cap : Option Nat} : sb2 L (.hd id p off len cap s) F = rd3 (L id) p s (sbh off len F) := (rfl)

theorem op2_loud {o : O} (h : loud o = true) : op2 C d o st K = ew C d st K o := by unfold op2; rw [if_pos h]

/-! ## calls -/
def kcn (x : IV) (F : List IV → Prop) (l : List IV) : Prop := F (x :: l)
theorem r_kcn {x : IV} {F : List IV → Prop} {l : List IV} : kcn x F l = F (x :: l) := (rfl)
def kagn (L : Sto) (r : List IV) (F : List IV → Prop) (l : List IV) : Prop := snaps L r (kcn (.ag l) F)
theorem r_kagn {L : Sto} {r : List IV} {F : List IV → Prop} {l : List IV} : kagn L r F l = snaps L r (kcn (.ag l) F) := (rfl)
def kfnn (L : Sto) (f : FuncId) (r : List IV) (F : List IV → Prop) (l : List IV) : Prop := snaps L r (kcn (.fn f l) F)
theorem r_kfnn {L : Sto} {f : FuncId} {r : List IV} {F : List IV → Prop} {l : List IV} : kfnn L f r F l = snaps L r (kcn (.fn f l) F) := (rfl)
def khdn (L : Sto) (off len : Nat) (r : List IV) (F : List IV → Prop) (es : Row) (_u : Bool) (_v : Nat) : Prop := off + len ≤ es.length ∧ snaps L r (kcn (.tr (.sl (cut es off len))) F)
theorem r_khdn {L : Sto} {off len : Nat} {r : List IV} {F : List IV → Prop} {es : Row} {u : Bool} {v : Nat} : khdn L off len r F es u v = (off + len ≤ es.length ∧ snaps L r (kcn (.tr (.sl (cut es off len))) F)) := (rfl)
section sn
variable {L : Sto} {r : List IV} {F : List IV → Prop}
theorem r_sn0 : snaps L [] F = F [] := by simp only [snaps]
theorem r_sn1 {t : Tr} : snaps L (.tr t :: r) F = snaps L r (kcn (.tr t) F) := by simp only [snaps, snap]; rfl
theorem r_sn2 {es : Row} : snaps L (.cs es :: r) F = snaps L r (kcn (.tr (.sl es)) F) := by simp only [snaps, snap]; rfl
theorem r_sn3 {l : List IV} : snaps L (.ag l :: r) F = snaps L l (kagn L r F) := by simp only [snaps, snap]; rfl
theorem r_sn4 {f : FuncId} {l : List IV} : snaps L (.fn f l :: r) F = snaps L l (kfnn L f r F) := by simp only [snaps, snap]; rfl
theorem r_sn5 {l : List Tr} : snaps L (.ta l :: r) F = snaps L r (kcn (.ta l) F) := by simp only [snaps, snap]; rfl
theorem r_sn6 : snaps L (.er :: r) F = snaps L r (kcn .er F) := by simp only [snaps, snap]; rfl
theorem r_sn7 : snaps L (.un :: r) F = snaps L r (kcn .un F) := by simp only [snaps, snap]; rfl
theorem r_sn8 {id : Oid} {p : Pth} {off len s : Nat} {cap : Option Nat} : snaps L (.hd id p off len cap s :: r) F = rd3 (L id) p s (khdn L off len r F) := by simp only [snaps, snap]; rw [← rdh_rd3]; rfl
end sn
/-- A pure call, once its arguments are known. -/
def kca (C : Contract) (fid : FuncId) (nm : Prop) (imp : Bool) (lvl : Nat) (env : List (Nat × IV)) (loc : List (Nat × Ob)) (out : Sto) (d : Option Nat) (K : St → Prop) (args : List IV) : Prop :=
  ∃ r, (∀ l S, C fid l args S r S) ∧ (nm ∨ noSh r) ∧ freshK (keyOf d) loc (impv imp lvl (keyOf d) 0 r).2.length ∧ K ⟨lvl, ptd d (impv imp lvl (keyOf d) 0 r).1 env, addO (keyOf d) (impv imp lvl (keyOf d) 0 r).2 loc, out⟩
theorem kca_intro {fid : FuncId} {nm : Prop} {imp : Bool} {args : List IV} {r : IV} (h : ∀ l S, C fid l args S r S)
    (hk : (nm ∨ noSh r) ∧ freshK (keyOf d) loc (impv imp lvl (keyOf d) 0 r).2.length ∧ K ⟨lvl, ptd d (impv imp lvl (keyOf d) 0 r).1 env, addO (keyOf d) (impv imp lvl (keyOf d) 0 r).2 loc, out⟩) : kca C fid nm imp lvl env loc out d K args := ⟨r, h, hk⟩
def ca2 (C : Contract) (f : IV) (xs : List IV) (imp : Bool) (lvl : Nat) (env : List (Nat × IV)) (loc : List (Nat × Ob)) (out : Sto) (d : Option Nat) (K : St → Prop) : Prop :=
  match f with
  | .fn fid caps => snaps (packS lvl loc out) (xs ++ caps) (kca C fid (mens (fun _ => False) (xs ++ caps)) imp lvl env loc out d K)
  | _ => False
theorem r_ca {imp : Bool} {f : X} {xs : List X} : op2 C d (.ca .pure imp f xs) ⟨lvl, env, loc, out⟩ K = ca2 C (xv env f) (xs.map (xv env)) imp lvl env loc out d K := by
  rw [op2_sil rfl]
  simp only [ev]
  generalize xv env f = v
  cases v <;> rfl
theorem r_ca1 {fid : FuncId} {caps xs : List IV} {imp : Bool} : ca2 C (.fn fid caps) xs imp lvl env loc out d K = snaps (packS lvl loc out) (xs ++ caps) (kca C fid (mens (fun _ => False) (xs ++ caps)) imp lvl env loc out d K) := (rfl)
def kcs (C : Contract) (fid : FuncId) (imp : Bool) (lvl : Nat) (env : List (Nat × IV)) (loc : List (Nat × Ob)) (out : Sto) (d : Option Nat) (K : St → Prop) (args : List IV) : Prop :=
  ∃ r, C fid (lvl + 1) args (packS lvl loc out) r (packS lvl loc out) ∧ freshK (keyOf d) loc (impv imp lvl (keyOf d) 0 r).2.length ∧ K ⟨lvl, ptd d (impv imp lvl (keyOf d) 0 r).1 env, addO (keyOf d) (impv imp lvl (keyOf d) 0 r).2 loc, out⟩
theorem kcs_intro {fid : FuncId} {imp : Bool} {args : List IV} {r : IV} (h : C fid (lvl + 1) args (packS lvl loc out) r (packS lvl loc out))
    (hk : freshK (keyOf d) loc (impv imp lvl (keyOf d) 0 r).2.length ∧ K ⟨lvl, ptd d (impv imp lvl (keyOf d) 0 r).1 env, addO (keyOf d) (impv imp lvl (keyOf d) 0 r).2 loc, out⟩) : kcs C fid imp lvl env loc out d K args := ⟨r, h, hk⟩
def cas2 (C : Contract) (f : IV) (xs : List IV) (imp : Bool) (lvl : Nat) (env : List (Nat × IV)) (loc : List (Nat × Ob)) (out : Sto) (d : Option Nat) (K : St → Prop) : Prop :=
  match f with
  | .fn fid caps => kcs C fid imp lvl env loc out d K (xs.map arg1 ++ caps)
  | _ => False
theorem r_cas {imp : Bool} {f : X} {xs : List X} : op2 C d (.ca .same imp f xs) ⟨lvl, env, loc, out⟩ K = cas2 C (xv env f) (xs.map (xv env)) imp lvl env loc out d K := by
  rw [op2_loud rfl]
  simp only [ew]
  generalize xv env f = v
  cases v <;> rfl
theorem r_cas1 {fid : FuncId} {caps xs : List IV} {imp : Bool} : cas2 C (.fn fid caps) xs imp lvl env loc out d K = kcs C fid imp lvl env loc out d K (xs.map arg1 ++ caps) := (rfl)
def kcy (C : Contract) (fid : FuncId) (imp : Bool) (lvl : Nat) (env : List (Nat × IV)) (loc : List (Nat × Ob)) (out : Sto) (d : Option Nat) (K : St → Prop) (args : List IV) : Prop :=
  ∃ r loc' out', (∀ i, i.1 = lvl → out' i = out i) ∧ C fid (lvl + 1) args (packS lvl loc out) r (packS lvl loc' out') ∧ freshK (keyOf d) loc' (impv imp lvl (keyOf d) 0 r).2.length ∧ K ⟨lvl, ptd d (impv imp lvl (keyOf d) 0 r).1 env, addO (keyOf d) (impv imp lvl (keyOf d) 0 r).2 loc', out'⟩
theorem kcy_intro {fid : FuncId} {imp : Bool} {args : List IV} {r : IV} (loc' : List (Nat × Ob)) (out' : Sto) (ho : ∀ i, i.1 = lvl → out' i = out i) (h : C fid (lvl + 1) args (packS lvl loc out) r (packS lvl loc' out'))
    (hk : freshK (keyOf d) loc' (impv imp lvl (keyOf d) 0 r).2.length ∧ K ⟨lvl, ptd d (impv imp lvl (keyOf d) 0 r).1 env, addO (keyOf d) (impv imp lvl (keyOf d) 0 r).2 loc', out'⟩) : kcy C fid imp lvl env loc out d K args := ⟨r, loc', out', ho, h, hk⟩
def cay2 (C : Contract) (f : IV) (xs : List IV) (imp : Bool) (lvl : Nat) (env : List (Nat × IV)) (loc : List (Nat × Ob)) (out : Sto) (d : Option Nat) (K : St → Prop) : Prop :=
  match f with
  | .fn fid caps => kcy C fid imp lvl env loc out d K (xs.map arg1 ++ caps)
  | _ => False
theorem r_cay {imp : Bool} {f : X} {xs : List X} : op2 C d (.ca .any imp f xs) ⟨lvl, env, loc, out⟩ K = cay2 C (xv env f) (xs.map (xv env)) imp lvl env loc out d K := by
  rw [op2_loud rfl]
  simp only [ew]
  generalize xv env f = v
  cases v <;> rfl
theorem r_cay1 {fid : FuncId} {caps xs : List IV} {imp : Bool} : cay2 C (.fn fid caps) xs imp lvl env loc out d K = kcy C fid imp lvl env loc out d K (xs.map arg1 ++ caps) := (rfl)

/-! ## results -/
def kfe (K : IV → Sto → Prop) (l : List IV) (st : St) : Prop := match l with | [x] => K x st.out | xs => K (.tu xs) st.out
theorem r_fin {rs : List RS} {K : IV → Sto → Prop} : fin rs st K = exps rs st (kfe K) := (rfl)
theorem r_kfe0 {K : IV → Sto → Prop} : kfe K [] ⟨lvl, env, loc, out⟩ = K (.tu []) out := (rfl)
theorem r_kfe1 {K : IV → Sto → Prop} {x : IV} : kfe K [x] ⟨lvl, env, loc, out⟩ = K x out := (rfl)
theorem r_kfe2 {K : IV → Sto → Prop} {x y : IV} {r : List IV} : kfe K (x :: y :: r) ⟨lvl, env, loc, out⟩ = K (.tu (x :: y :: r)) out := (rfl)
def kex (rs : List RS) (F : List IV → St → Prop) (x : IV) (st : St) : Prop := exps rs st fun xs st'' => F (x :: xs) st''
def kcx (x : IV) (F : List IV → St → Prop) (l : List IV) (st : St) : Prop := F (x :: l) st
theorem r_kcx {x : IV} {F : List IV → St → Prop} {l : List IV} : kcx x F l st = F (x :: l) st := (rfl)
theorem r_exps0 {F : List IV → St → Prop} : exps [] st F = F [] st := (rfl)
theorem r_exps1 {r : RS} {rs : List RS} {F : List IV → St → Prop} : exps (r :: rs) st F = exp1 r st (kex rs F) := (rfl)
theorem r_kex {rs : List RS} {F : List IV → St → Prop} {x : IV} : kex rs F x st = exps rs st (kcx x F) := (rfl)
theorem r_exp1 {n : Nat} {ks : List Nat} {F : IV → St → Prop} : exp1 (.t n ks) ⟨lvl, env, loc, out⟩ F = expv ks (lk n env) ⟨lvl, env, loc, out⟩ F := (rfl)
def exb (o : Option Ob) (off : Nat) (m : Option Nat) (ks : List Nat) (st : St) (F : IV → St → Prop) : Prop :=
  match o, m with
  | some (.bx cells), some m => off + m ≤ cells.length ∧ expv ks (.ag ((cells.drop off).take m)) st F
  | some (.bx cells), none => op3 cells[off]? fun x => isCell x = true ∧ expv ks x st F
  | _, _ => False
def exbc (ks : List Nat) (st : St) (F : IV → St → Prop) (x : IV) : Prop := isCell x = true ∧ expv ks x st F
theorem r_exbc {ks : List Nat} {F : IV → St → Prop} {x : IV} : exbc ks st F x = (isCell x = true ∧ expv ks x st F) := (rfl)
theorem r_exb1 {cells : List IV} {off m : Nat} {ks : List Nat} {F : IV → St → Prop} : exb (some (.bx cells)) off (some m) ks st F = (off + m ≤ cells.length ∧ expv ks (.ag ((cells.drop off).take m)) st F) := (rfl)
theorem r_exb2 {cells : List IV} {off : Nat} {ks : List Nat} {F : IV → St → Prop} : exb (some (.bx cells)) off none ks st F = op3 cells[off]? (exbc ks st F) := (rfl)
def exc (v : IV) (m : Option Nat) (ks : List Nat) (st : St) (F : IV → St → Prop) : Prop :=
  match v with
  | .ab id off => exb (st.sto id) off m ks st F
  | _ => False
theorem r_exp2 {n : Nat} {m : Option Nat} {ks : List Nat} {F : IV → St → Prop} : exp1 (.c n m ks) ⟨lvl, env, loc, out⟩ F = exc (lk n env) m ks ⟨lvl, env, loc, out⟩ F := by
  simp only [exp1]
  generalize lk n env = v
  cases v <;> try rfl
  rename_i id off
  dsimp only [exc]
  generalize (⟨lvl, env, loc, out⟩ : St).sto id = o
  cases o with
  | none => rfl
  | some ob =>
    cases ob with
    | ar => cases m <;> rfl
    | bx cells =>
      cases m with
      | some m => rfl
      | none => exact op3_ex
theorem r_exc {id : Oid} {off : Nat} {m : Option Nat} {ks : List Nat} {F : IV → St → Prop} : exc (.ab id off) m ks ⟨lvl, env, loc, out⟩ F = exb (packS lvl loc out id) off m ks ⟨lvl, env, loc, out⟩ F := (rfl)
def kagx (F : IV → St → Prop) (l : List IV) (st : St) : Prop := F (.ag l) st
theorem r_kagx {F : IV → St → Prop} {l : List IV} : kagx F l st = F (.ag l) st := (rfl)
theorem r_expv1 {ks : List Nat} {l : List IV} {F : IV → St → Prop} : expv ks (.ag l) st F = expcs ks l st (kagx F) := (rfl)
theorem r_expv2 {ks : List Nat} {t : Tr} {F : IV → St → Prop} : expv ks (.tr t) st F = F (.tr t) st := (rfl)
theorem r_expv3 {ks : List Nat} {es : Row} {F : IV → St → Prop} : expv ks (.cs es) st F = expc (ks.headD 0) (.cs es) st F := (rfl)
theorem r_expv4 {ks : List Nat} {id : Oid} {p : Pth} {off len s : Nat} {cap : Option Nat} {F : IV → St → Prop} : expv ks (.hd id p off len cap s) st F = expc (ks.headD 0) (.hd id p off len cap s) st F := (rfl)
theorem r_expv5 {ks : List Nat} {F : IV → St → Prop} : expv ks .er st F = F .er st := (rfl)
theorem r_expv6 {ks : List Nat} {f : FuncId} {c : List IV} {F : IV → St → Prop} : expv ks (.fn f c) st F = (lows st.lvl c ∧ F (.fn f c) st) := (rfl)
theorem r_expv7 {ks : List Nat} {F : IV → St → Prop} : expv ks .un st F = F .un st := (rfl)
def kxc (ks : List Nat) (r : List IV) (F : List IV → St → Prop) (y : IV) (st : St) : Prop := expcs ks r st (kcx y F)
theorem r_kxc {ks : List Nat} {r : List IV} {F : List IV → St → Prop} {y : IV} : kxc ks r F y st = expcs ks r st (kcx y F) := (rfl)
theorem r_expcs0 {ks : List Nat} {F : List IV → St → Prop} : expcs ks [] st F = F [] st := by cases ks <;> rfl
theorem r_expcs1 {ks : List Nat} {x : IV} {r : List IV} {F : List IV → St → Prop} : expcs ks (x :: r) st F = expc (ks.headD 0) x st (kxc ks.tail r F) := (rfl)
theorem r_expc1 {k : Nat} {t : Tr} {F : IV → St → Prop} : expc k (.tr t) st F = F (.tr t) st := (rfl)
theorem r_expc2 {k : Nat} {F : IV → St → Prop} : expc (k + 1) (.cs []) st F = F (.ow k [] true) st := (rfl)
theorem r_expc3 {es : Row} {F : IV → St → Prop} : expc 0 (.cs es) st F = F (.tr (.sl es)) st := (rfl)
theorem r_expc4 {F : IV → St → Prop} : expc 1 (.cs []) st F = F (.ow 0 [] true) st := (rfl)
theorem r_expc4a {F : IV → St → Prop} : expc 2 (.cs []) st F = F (.ow 1 [] true) st := (rfl)
theorem r_expc4b {F : IV → St → Prop} : expc 3 (.cs []) st F = F (.ow 2 [] true) st := (rfl)
theorem r_expc4c {F : IV → St → Prop} : expc 4 (.cs []) st F = F (.ow 3 [] true) st := (rfl)
theorem r_expc4d {F : IV → St → Prop} : expc 5 (.cs []) st F = F (.ow 4 [] true) st := (rfl)
theorem r_expc4e {F : IV → St → Prop} : expc 6 (.cs []) st F = F (.ow 5 [] true) st := (rfl)
theorem r_expc4f {F : IV → St → Prop} : expc 7 (.cs []) st F = F (.ow 6 [] true) st := (rfl)
theorem r_expc5 {k : Nat} {F : IV → St → Prop} : expc k .er st F = F .er st := (rfl)
theorem r_expc6 {k : Nat} {F : IV → St → Prop} : expc k .un st F = F .un st := (rfl)
def exh (o : Option Ob) (k : Nat) (p : Pth) (off len : Nat) (cap : Option Nat) (s : Nat) (st1 : St) (F : IV → St → Prop) : Prop :=
  match o with
  | some (.ar k' es u hw _) => p = [] ∧ s = hw ∧ (match k with
    | 0 => off + len ≤ es.length ∧ F (.tr (.sl (cut es off len))) st1
    | k1 + 1 => k1 = k' ∧ off = 0 ∧ len = es.length ∧ cap = none ∧ F (.ow k' es u) st1)
  | _ => False
theorem r_expc7 {k key : Nat} {p : Pth} {off len s : Nat} {cap : Option Nat} {F : IV → St → Prop} : expc k (.hd (lvl, key) p off len cap s) ⟨lvl, env, loc, out⟩ F = exh (lkO key loc) k p off len cap s (kill (lvl, key) ⟨lvl, env, loc, out⟩) F := by
  unfold expc
  dsimp only
  rw [if_pos rfl]
  have : (⟨lvl, env, loc, out⟩ : St).sto (lvl, key) = lkO key loc := r_pack
  rw [this]
  generalize lkO key loc = o
  cases o with
  | none => rfl
  | some ob => cases ob <;> cases k <;> rfl
theorem r_exh0 {k' : Nat} {es : Row} {u : Bool} {hw ver : Nat} {p : Pth} {off len s : Nat} {cap : Option Nat} {st1 : St} {F : IV → St → Prop} : exh (some (.ar k' es u hw ver)) 0 p off len cap s st1 F = (p = [] ∧ s = hw ∧ off + len ≤ es.length ∧ F (.tr (.sl (cut es off len))) st1) := (rfl)
theorem r_exh1 {k k' : Nat} {es : Row} {u : Bool} {hw ver : Nat} {p : Pth} {off len s : Nat} {cap : Option Nat} {st1 : St} {F : IV → St → Prop} : exh (some (.ar k' es u hw ver)) (k + 1) p off len cap s st1 F = (p = [] ∧ s = hw ∧ k = k' ∧ off = 0 ∧ len = es.length ∧ cap = none ∧ F (.ow k' es u) st1) := (rfl)
theorem r_expc8 {k : Nat} {id : Oid} {p : Pth} {off len s : Nat} {cap : Option Nat} {F : IV → St → Prop} (h : id.1 ≠ lvl) : expc k (.hd id p off len cap s) ⟨lvl, env, loc, out⟩ F = F (.hd id p off len cap s) ⟨lvl, env, loc, out⟩ := by
  unfold expc
  dsimp only
  rw [if_neg h]

/-! ## loops -/
def memB (t : Nat) : List Nat → Bool
  | [] => false
  | a :: r => if t = a then true else memB t r
theorem memB_iff {t : Nat} : ∀ {l : List Nat}, memB t l = true ↔ t ∈ l
  | [] => by simp [memB]
  | a :: r => by
    simp only [memB, List.mem_cons]
    by_cases h : t = a
    · simp [h]
    · rw [if_neg h, memB_iff]; simp [h]
def keepB (ks : List Nat) : List (Nat × IV) → List (Nat × IV)
  | [] => []
  | (t, x) :: r => if memB t ks = true then (t, x) :: keepB ks r else keepB ks r
def keepOB (ks : List Nat) : List (Nat × Ob) → List (Nat × Ob)
  | [] => []
  | (t, x) :: r => if memB t ks = true then (t, x) :: keepOB ks r else keepOB ks r
theorem keepE_B {ks : List Nat} : ∀ {e : List (Nat × IV)}, keepE ks e = keepB ks e
  | [] => rfl
  | (t, x) :: r => by
    simp only [keepE, keepB, keepE_B (e := r), memB_iff]
theorem keepO_B {ks : List Nat} : ∀ {e : List (Nat × Ob)}, keepO ks e = keepOB ks e
  | [] => rfl
  | (t, x) :: r => by
    simp only [keepO, keepOB, keepO_B (e := r), memB_iff]
theorem r_fgt {ks js : List Nat} : fgt ks js ⟨lvl, env, loc, out⟩ = ⟨lvl, keepB ks env, keepOB js loc, out⟩ := by
  simp only [fgt, keepE_B, keepO_B]
theorem r_clean {ks js : List Nat} : clean ks js ⟨lvl, env, loc, out⟩ = (okE lvl js (keepB ks env) ∧ okL lvl js (keepOB js loc)) := by
  simp only [clean, keepE_B, keepO_B]
theorem r_okm1 {js : List Nat} {k : Nat} {p : Pth} {off len s : Nat} {cap : Option Nat} : okm lvl js (.hd (lvl, k) p off len cap s) = (memB k js = true) := by
  apply propext
  simp only [okm, men, forall_const, memB_iff]
theorem r_okm2 {js : List Nat} {k off : Nat} : okm lvl js (.ab (lvl, k) off) = (memB k js = true) := by
  apply propext
  simp only [okm, men, forall_const, memB_iff]
theorem r_okm3 {js : List Nat} {k : Nat} {p : Pth} {i f s : Nat} : okm lvl js (.ae (lvl, k) p i f s) = (memB k js = true) := by
  apply propext
  simp only [okm, men, forall_const, memB_iff]
theorem r_okmo {js : List Nat} {id : Oid} {p : Pth} {off len s : Nat} {cap : Option Nat} (h : id.1 ≠ lvl) : okm lvl js (.hd id p off len cap s) = True := by
  apply propext
  simp only [okm, men, iff_true]
  exact fun hh => absurd hh h
theorem r_okmo2 {js : List Nat} {id : Oid} {off : Nat} (h : id.1 ≠ lvl) : okm lvl js (.ab id off) = True := by
  apply propext
  simp only [okm, men, iff_true]
  exact fun hh => absurd hh h
theorem r_okm4 {js : List Nat} {t : Tr} : okm lvl js (.tr t) = True := (rfl)
theorem r_okm5 {js : List Nat} {es : Row} : okm lvl js (.cs es) = True := (rfl)
theorem r_okm6 {js : List Nat} {l : List IV} : okm lvl js (.ag l) = okms lvl js l := by simp only [okm, okms, men]
theorem r_okm7 {js : List Nat} {l : List IV} : okm lvl js (.tu l) = okms lvl js l := by simp only [okm, okms, men]
theorem r_okm8 {js : List Nat} {f : FuncId} {l : List IV} : okm lvl js (.fn f l) = okms lvl js l := by simp only [okm, okms, men]
theorem r_okm9 {js : List Nat} : okm lvl js .un = True := (rfl)
theorem r_okm10 {js : List Nat} : okm lvl js .er = True := (rfl)
theorem r_okm11 {js : List Nat} {l : List Tr} : okm lvl js (.ta l) = True := (rfl)
theorem r_okms0 {js : List Nat} : okms lvl js [] = True := (rfl)
theorem r_okms1 {js : List Nat} {x : IV} {r : List IV} : okms lvl js (x :: r) = (okm lvl js x ∧ okms lvl js r) := (rfl)
theorem r_okE0 {js : List Nat} : okE lvl js [] = True := (rfl)
theorem r_okE1 {js : List Nat} {t : Nat} {x : IV} {r : List (Nat × IV)} : okE lvl js ((t, x) :: r) = (okm lvl js x ∧ okE lvl js r) := (rfl)
theorem r_okL0 {js : List Nat} : okL lvl js [] = True := (rfl)
theorem r_okL1 {js : List Nat} {t : Nat} {x : List IV} {r : List (Nat × Ob)} : okL lvl js ((t, .bx x) :: r) = (okms lvl js x ∧ okL lvl js r) := (rfl)
theorem r_okL2 {js : List Nat} {t k : Nat} {es : Row} {u : Bool} {hw ver : Nat} {r : List (Nat × Ob)} : okL lvl js ((t, .ar k es u hw ver) :: r) = okL lvl js r := (rfl)

/-- A round's end. -/
def kround (ks js : List Nat) (J : St → Prop) (Q : Ex → St → Prop) : Ex → St → Prop := fun e s' => match e with | .nrm => clean ks js s' ∧ J (fgt ks js s') | e => Q e s'
theorem r_round1 {ks js : List Nat} {J : St → Prop} : kround ks js J Q .nrm st = (clean ks js st ∧ J (fgt ks js st)) := (rfl)
theorem r_round2 {ks js : List Nat} {J : St → Prop} {i : Nat} : kround ks js J Q (.ext i) st = Q (.ext i) st := (rfl)
theorem r_round3 {ks js : List Nat} {J : St → Prop} : kround ks js J Q .ret st = Q .ret st := (rfl)

/-- A loop by a relation with a measure. -/
theorem wp_lp {ks js : List Nat} {c : C2} (I : Nat → St → Prop) (n0 : Nat) (h0 : clean ks js st ∧ I n0 (fgt ks js st)) (hs : ∀ n s, I n s → wp C c s (kround ks js (fun s' => ∃ m, m < n ∧ I m s') Q)) : wp C (.lp ks js c) st Q := by
  refine ⟨I, ⟨h0.1, n0, h0.2⟩, fun n s hI => ?_⟩
  have h := hs n s hI
  have e : (kround ks js (fun s' => ∃ m, m < n ∧ I m s') Q) = fun e s' => match e with | .nrm => clean ks js s' ∧ ∃ m, m < n ∧ I m (fgt ks js s') | e => Q e s' := by
    funext e s'; cases e <;> rfl
  rw [e] at h
  exact h
/-- What a round of a loop that counts hands on. -/
def cntJ {α : Type} (N : Nat) (mk : Nat → α → St) (A : Nat → α → Prop) (n : Nat) (s' : St) : Prop := ∃ m, m < n ∧ ∃ k x, k + m = N ∧ s' = mk k x ∧ A k x
theorem cntJ_intro {α : Type} {N : Nat} {mk : Nat → α → St} {A : Nat → α → Prop} {k : Nat} {s' : St} (y : α) (hk : k < N) (h : s' = mk (k + 1) y) (ha : A (k + 1) y) : cntJ N mk A (N - k) s' := ⟨N - (k + 1), by omega, k + 1, y, by omega, h, ha⟩
/-- A loop that counts: its state at the head of round k is mk k x, of which A k x holds; it leaves at N at the latest. -/
theorem wp_count {α : Type} {ks js : List Nat} {c : C2} (N : Nat) (mk : Nat → α → St) (A : Nat → α → Prop) (x0 : α) (h0 : clean ks js st ∧ fgt ks js st = mk 0 x0) (hA : A 0 x0)
    (hs : ∀ k x, k ≤ N → A k x → wp C c (mk k x) (kround ks js (cntJ N mk A (N - k)) Q)) : wp C (.lp ks js c) st Q := by
  refine wp_lp (fun n s => ∃ k x, k + n = N ∧ s = mk k x ∧ A k x) N ⟨h0.1, 0, x0, by omega, h0.2, hA⟩ (fun n s ⟨k, x, hk, he, ha⟩ => ?_)
  subst he
  have h := hs k x (by omega) ha
  have hn : N - k = n := by omega
  rw [hn] at h
  exact h
end
end Go.Fd

/-
  FOUNDATION 46: more rules: stores, append. Own work.
-/
namespace Go.Fd

section
variable {C : Contract} {lvl : Nat} {env : List (Nat × IV)} {loc : List (Nat × Ob)} {out : Sto} {d : Option Nat} {K : St → Prop} {st : St}

def st2 (v : Option (List IV)) (m : Nat) (p : IV) (d : Option Nat) (st : St) (K : St → Prop) : Prop :=
  match v with
  | some l => d = none ∧ l.length = m ∧
    match p with
    | .ab id off =>
      match st.sto id with
      | some (.bx cells) => off + l.length ≤ cells.length ∧ lows (id.1 + 1) l ∧ K (setOb st id (.bx (setAt cells off l)))
      | _ => False
    | .ae id p i f s => stcs id p i s f l st K
    | _ => False
  | none => False
theorem r_st {m : Nat} {p x : X} : op2 C d (.st m p x) ⟨lvl, env, loc, out⟩ K = st2 (cellsOf (xv env x)) m (xv env p) d ⟨lvl, env, loc, out⟩ K := by
  rw [op2_loud rfl]
  simp only [ew]
  generalize cellsOf (xv env x) = v
  cases v with
  | none => simp [st2]
  | some l => rfl
def stb (o : Option Ob) (id : Oid) (off : Nat) (l : List IV) (st : St) (K : St → Prop) : Prop :=
  match o with
  | some (.bx cells) => off + l.length ≤ cells.length ∧ lows (id.1 + 1) l ∧ K (setOb st id (.bx (setAt cells off l)))
  | _ => False
theorem r_st1 {m : Nat} {l : List IV} {id : Oid} {off : Nat} : st2 (some l) m (.ab id off) d ⟨lvl, env, loc, out⟩ K = (d = none ∧ l.length = m ∧ stb (packS lvl loc out id) id off l ⟨lvl, env, loc, out⟩ K) := (rfl)
theorem r_st2 {m : Nat} {l : List IV} {id : Oid} {p : Pth} {i f s : Nat} : st2 (some l) m (.ae id p i f s) d st K = (d = none ∧ l.length = m ∧ stcs id p i s f l st K) := (rfl)
theorem r_stb {cells l : List IV} {id : Oid} {off : Nat} : stb (some (.bx cells)) id off l st K = (off + l.length ≤ cells.length ∧ lows (id.1 + 1) l ∧ K (setOb st id (.bx (setAt cells off l)))) := (rfl)
theorem r_setAt0 {cs : List IV} {off : Nat} : setAt cs off [] = cs := (rfl)
theorem r_setAt1 {cs : List IV} {off : Nat} {x : IV} {r : List IV} : setAt cs off (x :: r) = setAt (cs.set off x) (off + 1) r := (rfl)
theorem r_lows0 {l : Nat} : lows l [] = True := (rfl)
theorem r_lows1 {l : Nat} {x : IV} {r : List IV} : lows l (x :: r) = (low l x ∧ lows l r) := (rfl)
theorem r_low1 {l : Nat} {t : Tr} : low l (.tr t) = True := (rfl)
theorem r_low2 {l : Nat} {es : Row} : low l (.cs es) = True := (rfl)
theorem r_low3 {l k : Nat} {p : Pth} {off len s : Nat} {cap : Option Nat} : low (l + 1) (.hd (l, k) p off len cap s) = True := by
  apply propext; simp [low, men]
theorem r_low4 {l k off : Nat} : low (l + 1) (.ab (l, k) off) = True := by
  apply propext; simp [low, men]
theorem r_low5 {l : Nat} {c : List IV} : low l (.ag c) = lows l c := by simp only [low, lows, men]
theorem r_low6 {l : Nat} {c : List IV} : low l (.tu c) = lows l c := by simp only [low, lows, men]
theorem r_low7 {l k : Nat} {es : Row} {u : Bool} : low l (.ow k es u) = True := (rfl)
theorem r_low8 {l : Nat} : low l .un = True := (rfl)
theorem r_low9 {l : Nat} : low l .er = True := (rfl)
theorem r_low10 {l : Nat} {c : List Tr} : low l (.ta c) = True := (rfl)
def kst (id : Oid) (p : Pth) (i s f : Nat) (r : List IV) (K : St → Prop) (st' : St) : Prop := stcs id p i s f r st' K
theorem r_kst {id : Oid} {p : Pth} {i s f : Nat} {r : List IV} : kst id p i s f r K st = stcs id p i s f r st K := (rfl)
theorem r_stcs0 {id : Oid} {p : Pth} {i s f : Nat} : stcs id p i s f [] st K = K st := (rfl)
/-- One cell goes into an object. -/
def sc1 (o : Option Ob) (id : Oid) (p : Pth) (i f s : Nat) (x : IV) (st : St) (K : St → Prop) : Prop :=
  match o with
  | some (.ar k es u hw ver) => stamp p s hw ver u ∧ op3 (getp es p) fun es' => op3 es'[i]? fun e => op3 e[f]? fun t0 =>
    match x with
    | .tr (.v y) => isSc t0 = true ∧ K (setOb st id (.ar k (setp es p i f (.v y)) u hw ver))
    | .cs [] => p = [] ∧ K (setOb st id (.ar k (setp es [] i f (.sl [])) u hw (ver + 1)))
    | .cs zs => p = [] ∧ K (setOb st id (.ar k (setp es [] i f (.sl zs)) false hw (ver + 1)))
    | .tr (.sl zs) => p = [] ∧ K (setOb st id (.ar k (setp es [] i f (.sl zs)) false hw (ver + 1)))
    | .hd id2 [] 0 len none s2 => p = [] ∧ id2 ≠ id ∧ id2.1 = st.lvl ∧
      match st.sto id2 with
      | some (.ar _ zs u2 hw2 _) => s2 = hw2 ∧ len = zs.length ∧ K (setOb (kill id2 st) id (.ar k (setp es [] i f (.sl zs)) (u && u2) hw (ver + 1)))
      | _ => False
    | _ => False
  | _ => False
theorem r_stcs1 {id : Oid} {p : Pth} {i s f : Nat} {x : IV} {r : List IV} : stcs id p i s f (x :: r) ⟨lvl, env, loc, out⟩ K = sc1 (packS lvl loc out id) id p i f s x ⟨lvl, env, loc, out⟩ (kst id p i s (f + 1) r K) := by
  simp only [stcs, stc, sc1]
  rw [show (⟨lvl, env, loc, out⟩ : St).sto id = packS lvl loc out id from rfl]
  generalize packS lvl loc out id = o
  cases o with
  | none => rfl
  | some ob =>
    cases ob with
    | bx => rfl
    | ar k es u hw ver =>
      dsimp only
      rw [← op3_ex]
      apply propext
      constructor
      · rintro ⟨es', h1, h2, e, h3, t0, h4, h5⟩
        refine ⟨h2, es', h1, ?_⟩
        rw [h3]
        simp only [op3]
        rw [h4]
        exact h5
      · rintro ⟨h2, es', h1, h3⟩
        rw [← op3_ex] at h3
        obtain ⟨e, h3, h4⟩ := h3
        rw [← op3_ex] at h4
        obtain ⟨t0, h4, h5⟩ := h4
        exact ⟨es', h1, h2, e, h3, t0, h4, h5⟩
/-- the cell's old content is told -/
def sc2 (k : Nat) (es : Row) (u : Bool) (hw ver : Nat) (id : Oid) (p : Pth) (i f : Nat) (x : IV) (st : St) (K : St → Prop) (t0 : Tr) : Prop :=
    match x with
    | .tr (.v y) => isSc t0 = true ∧ K (setOb st id (.ar k (setp es p i f (.v y)) u hw ver))
    | .cs [] => p = [] ∧ K (setOb st id (.ar k (setp es [] i f (.sl [])) u hw (ver + 1)))
    | .cs zs => p = [] ∧ K (setOb st id (.ar k (setp es [] i f (.sl zs)) false hw (ver + 1)))
    | .tr (.sl zs) => p = [] ∧ K (setOb st id (.ar k (setp es [] i f (.sl zs)) false hw (ver + 1)))
    | .hd id2 [] 0 len none s2 => p = [] ∧ id2 ≠ id ∧ id2.1 = st.lvl ∧
      match st.sto id2 with
      | some (.ar _ zs u2 hw2 _) => s2 = hw2 ∧ len = zs.length ∧ K (setOb (kill id2 st) id (.ar k (setp es [] i f (.sl zs)) (u && u2) hw (ver + 1)))
      | _ => False
    | _ => False
def sc3 (k : Nat) (es : Row) (u : Bool) (hw ver : Nat) (id : Oid) (p : Pth) (i f : Nat) (x : IV) (st : St) (K : St → Prop) (e : List Tr) : Prop := op3 e[f]? (sc2 k es u hw ver id p i f x st K)
def sc4 (k : Nat) (es : Row) (u : Bool) (hw ver : Nat) (id : Oid) (p : Pth) (i f : Nat) (x : IV) (st : St) (K : St → Prop) (es' : Row) : Prop := op3 es'[i]? (sc3 k es u hw ver id p i f x st K)
section sc
variable {k : Nat} {es : Row} {u : Bool} {hw ver : Nat} {id : Oid} {p : Pth} {i f s : Nat} {x : IV}
theorem r_sc1 : sc1 (some (.ar k es u hw ver)) id p i f s x st K = (stamp p s hw ver u ∧ op3 (getp es p) (sc4 k es u hw ver id p i f x st K)) := (rfl)
theorem r_sc3 {e : List Tr} : sc3 k es u hw ver id p i f x st K e = op3 e[f]? (sc2 k es u hw ver id p i f x st K) := (rfl)
theorem r_sc4 {es' : Row} : sc4 k es u hw ver id p i f x st K es' = op3 es'[i]? (sc3 k es u hw ver id p i f x st K) := (rfl)
theorem r_sc2 {y : Value} {t0 : Tr} : sc2 k es u hw ver id p i f (.tr (.v y)) st K t0 = (isSc t0 = true ∧ K (setOb st id (.ar k (setp es p i f (.v y)) u hw ver))) := (rfl)
theorem r_sc2a {t0 : Tr} : sc2 k es u hw ver id p i f (.cs []) st K t0 = (p = [] ∧ K (setOb st id (.ar k (setp es [] i f (.sl [])) u hw (ver + 1)))) := (rfl)
theorem r_sc2b {zs : Row} {t0 : Tr} : sc2 k es u hw ver id p i f (.tr (.sl zs)) st K t0 = (p = [] ∧ K (setOb st id (.ar k (setp es [] i f (.sl zs)) false hw (ver + 1)))) := (rfl)
def sc5 (o : Option Ob) (k : Nat) (es : Row) (u : Bool) (hw ver : Nat) (id : Oid) (i f len s2 : Nat) (st2 st : St) (K : St → Prop) : Prop :=
  match o with
  | some (.ar _ zs u2 hw2 _) => s2 = hw2 ∧ len = zs.length ∧ K (setOb st2 id (.ar k (setp es [] i f (.sl zs)) (u && u2) hw (ver + 1)))
  | _ => False
theorem r_sc2c {key len s2 : Nat} {t0 : Tr} : sc2 k es u hw ver id p i f (.hd (lvl, key) [] 0 len none s2) ⟨lvl, env, loc, out⟩ K t0 = (p = [] ∧ (lvl, key) ≠ id ∧ sc5 (lkO key loc) k es u hw ver id i f len s2 (kill (lvl, key) ⟨lvl, env, loc, out⟩) ⟨lvl, env, loc, out⟩ K) := by
  simp only [sc2]
  rw [show (⟨lvl, env, loc, out⟩ : St).sto (lvl, key) = lkO key loc from r_pack]
  generalize lkO key loc = o
  apply propext
  constructor
  · rintro ⟨h1, h2, _, h3⟩
    refine ⟨h1, h2, ?_⟩
    cases o with
    | none => exact h3
    | some ob => cases ob <;> exact h3
  · rintro ⟨h1, h2, h3⟩
    refine ⟨h1, h2, trivial, ?_⟩
    cases o with
    | none => exact h3
    | some ob => cases ob <;> exact h3
theorem r_sc5 {k2 : Nat} {zs : Row} {u2 : Bool} {hw2 ver2 len s2 : Nat} {st2 : St} : sc5 (some (.ar k2 zs u2 hw2 ver2)) k es u hw ver id i f len s2 st2 st K = (s2 = hw2 ∧ len = zs.length ∧ K (setOb st2 id (.ar k (setp es [] i f (.sl zs)) (u && u2) hw (ver + 1)))) := (rfl)
end sc

/-! ## one new row of cells that may be objects -/
theorem r_bw {k n : Nat} {z : List Value} {ps : List (Nat × X)} : op2 C d (.bw k n z ps) ⟨lvl, env, loc, out⟩ K = ew C d ⟨lvl, env, loc, out⟩ K (.bw k n z ps) := op2_loud rfl
def kbw (k lvl : Nat) (d : Option Nat) (K : St → Prop) (ts : List Tr) (u : Bool) (st' : St) : Prop :=
  K { setOb st' (lvl, keyOf d) (.ar k [ts] u 1 0) with env := ptd d (.hd (lvl, keyOf d) [] 0 1 none 1) st'.env }
theorem r_kbw {k : Nat} {ts : List Tr} {u : Bool} : kbw k lvl d K ts u ⟨lvl, env, loc, out⟩ = K ⟨lvl, ptd d (.hd (lvl, keyOf d) [] 0 1 none 1) env, ptO (keyOf d) (.ar k [ts] u 1 0) loc, out⟩ := by
  simp only [kbw, r_setOb]
def bw2 (v : Option (List IV)) (k n : Nat) (d : Option Nat) (loc : List (Nat × Ob)) (lvl : Nat) (st : St) (K : St → Prop) : Prop :=
  match v with
  | some l => n = 1 ∧ l.length = k ∧ freshK (keyOf d) loc 1 ∧ mvcs l st (kbw k lvl d K)
  | none => False
theorem r_bw1 {k n : Nat} {z : List Value} {x : X} : ew C d ⟨lvl, env, loc, out⟩ K (.bw k n z [(0, x)]) = bw2 (cellsOf (xv env x)) k n d loc lvl ⟨lvl, env, loc, out⟩ K := by
  simp only [ew]
  generalize cellsOf (xv env x) = v
  cases v with
  | none => simp [bw2]
  | some l => rfl
theorem r_bw2 {k n : Nat} {l : List IV} : bw2 (some l) k n d loc lvl st K = (n = 1 ∧ l.length = k ∧ freshK (keyOf d) loc 1 ∧ mvcs l st (kbw k lvl d K)) := (rfl)
def kmv (r : List IV) (F : List Tr → Bool → St → Prop) (t : Tr) (a : Bool) (st' : St) : Prop := mvcs r st' fun ts b st'' => F (t :: ts) (a && b) st''
def kmc (t : Tr) (a : Bool) (F : List Tr → Bool → St → Prop) (ts : List Tr) (b : Bool) (st'' : St) : Prop := F (t :: ts) (a && b) st''
section mv
variable {r : List IV} {F : List Tr → Bool → St → Prop} {F1 : Tr → Bool → St → Prop}
theorem r_kmv {t : Tr} {a : Bool} : kmv r F t a st = mvcs r st (kmc t a F) := (rfl)
theorem r_kmc {t : Tr} {a : Bool} {ts : List Tr} {b : Bool} : kmc t a F ts b st = F (t :: ts) (a && b) st := (rfl)
theorem r_mvcs0 : mvcs [] st F = F [] true st := (rfl)
theorem r_mvcs1 {x : IV} : mvcs (x :: r) st F = mvc st x (kmv r F) := (rfl)
theorem r_mvc1 {y : Value} : mvc st (.tr (.v y)) F1 = F1 (.v y) true st := (rfl)
theorem r_mvc2 {es : Row} : mvc st (.tr (.sl es)) F1 = F1 (.sl es) false st := (rfl)
theorem r_mvc3 : mvc st (.cs []) F1 = F1 (.sl []) true st := (rfl)
def mv5 (o : Option Ob) (len s2 : Nat) (st1 : St) (F1 : Tr → Bool → St → Prop) : Prop :=
  match o with
  | some (.ar _ zs u2 hw2 _) => s2 = hw2 ∧ len = zs.length ∧ F1 (.sl zs) u2 st1
  | _ => False
theorem r_mvc4 {key len s2 : Nat} : mvc ⟨lvl, env, loc, out⟩ (.hd (lvl, key) [] 0 len none s2) F1 = mv5 (lkO key loc) len s2 (kill (lvl, key) ⟨lvl, env, loc, out⟩) F1 := by
  simp only [mvc]
  rw [show (⟨lvl, env, loc, out⟩ : St).sto (lvl, key) = lkO key loc from r_pack]
  generalize lkO key loc = o
  apply propext
  constructor
  · rintro ⟨_, h3⟩
    cases o with
    | none => exact h3
    | some ob => cases ob <;> exact h3
  · intro h3
    refine ⟨trivial, ?_⟩
    cases o with
    | none => exact h3
    | some ob => cases ob <;> exact h3
theorem r_mv5 {k2 : Nat} {zs : Row} {u2 : Bool} {hw2 ver2 len s2 : Nat} : mv5 (some (.ar k2 zs u2 hw2 ver2)) len s2 st F1 = (s2 = hw2 ∧ len = zs.length ∧ F1 (.sl zs) u2 st) := (rfl)
end mv

/-! ## append -/
def apx (v : IV) (d : Option Nat) (k : Nat) (loc0 : List (Nat × Ob)) (items : Row) (ui : Bool) (st1 : St) (K : St → Prop) : Prop :=
  UnR k items ∧
  match v with
  | .cs zs => (zs = [] ∨ items ≠ []) ∧ zs.length + items.length ≤ bigN ∧ UnR k zs ∧ freshK (keyOf d) loc0 1 ∧ (zs = [] ∨ ui = false ∨ ScR zs) ∧
    K { setOb st1 (st1.lvl, keyOf d) (.ar k (zs ++ items) ui (zs.length + items.length) 0) with env := ptd d (.hd (st1.lvl, keyOf d) [] 0 (zs.length + items.length) none (zs.length + items.length)) st1.env }
  | .hd id [] 0 len none s =>
    match st1.sto id with
    | some (.ar k' es u hw ver) => k' = k ∧ s = hw ∧ len = es.length ∧ len + items.length ≤ bigN ∧
      K { setOb st1 id (.ar k (es ++ items) (u && ui) (max hw (len + items.length)) ver) with env := ptd d (.hd id [] 0 (len + items.length) none (max hw (len + items.length))) st1.env }
    | _ => False
  | _ => False
theorem r_apgo {k : Nat} {x : X} {loc0 : List (Nat × Ob)} {items : Row} {ui : Bool} : apgo d k x loc0 items ui ⟨lvl, env, loc, out⟩ K = apx (xv env x) d k loc0 items ui ⟨lvl, env, loc, out⟩ K := (rfl)
theorem r_apx1 {k : Nat} {loc0 : List (Nat × Ob)} {items zs : Row} {ui : Bool} : apx (.cs zs) d k loc0 items ui ⟨lvl, env, loc, out⟩ K = (UnR k items ∧ (zs = [] ∨ items ≠ []) ∧ zs.length + items.length ≤ bigN ∧ UnR k zs ∧ freshK (keyOf d) loc0 1 ∧ (zs = [] ∨ ui = false ∨ ScR zs) ∧
    K ⟨lvl, ptd d (.hd (lvl, keyOf d) [] 0 (zs.length + items.length) none (zs.length + items.length)) env, ptO (keyOf d) (.ar k (zs ++ items) ui (zs.length + items.length) 0) loc, out⟩) := by
  simp only [apx, r_setOb]
def aph (o : Option Ob) (d : Option Nat) (k : Nat) (id : Oid) (len s : Nat) (items : Row) (ui : Bool) (st1 : St) (K : St → Prop) : Prop :=
  match o with
  | some (.ar k' es u hw ver) => k' = k ∧ s = hw ∧ len = es.length ∧ len + items.length ≤ bigN ∧
      K { setOb st1 id (.ar k (es ++ items) (u && ui) (max hw (len + items.length)) ver) with env := ptd d (.hd id [] 0 (len + items.length) none (max hw (len + items.length))) st1.env }
  | _ => False
theorem r_apx2 {k key len s : Nat} {loc0 : List (Nat × Ob)} {items : Row} {ui : Bool} : apx (.hd (lvl, key) [] 0 len none s) d k loc0 items ui ⟨lvl, env, loc, out⟩ K = (UnR k items ∧ aph (lkO key loc) d k (lvl, key) len s items ui ⟨lvl, env, loc, out⟩ K) := by
  simp only [apx]
  rw [show (⟨lvl, env, loc, out⟩ : St).sto (lvl, key) = lkO key loc from r_pack]
  rfl
theorem r_aph {k k' key len s : Nat} {items es : Row} {u ui : Bool} {hw ver : Nat} : aph (some (.ar k' es u hw ver)) d k (lvl, key) len s items ui ⟨lvl, env, loc, out⟩ K = (k' = k ∧ s = hw ∧ len = es.length ∧ len + items.length ≤ bigN ∧
      K ⟨lvl, ptd d (.hd (lvl, key) [] 0 (len + items.length) none (max hw (len + items.length))) env, ptO key (.ar k (es ++ items) (u && ui) (max hw (len + items.length)) ver) loc, out⟩) := by
  simp only [aph, r_setOb]
def ap2 (C : Contract) (d : Option Nat) (k md : Nat) (x : X) (y : IV) (st : St) (K : St → Prop) : Prop :=
  match y with
  | .tr (.sl es) => if md = 0 then ScR es ∧ apgo d k x st.loc es true st K else md = 1 ∧ apgo d k x st.loc es false st K
  | .cs es => if md = 0 then ScR es ∧ apgo d k x st.loc es true st K else md = 1 ∧ apgo d k x st.loc es false st K
  | .hd id2 p2 off2 len2 c2 s2 =>
      if md = 2 then
        p2 = [] ∧ off2 = 0 ∧ c2 = none ∧ id2.1 = st.lvl ∧
        match st.sto id2 with
        | some (.ar _ zs u2 hw2 _) => s2 = hw2 ∧ len2 = zs.length ∧ apgo d k x st.loc zs u2 (kill id2 st) K
        | _ => False
      else if md = 0 then
        rdh st.sto id2 p2 s2 fun es _ _ => off2 + len2 ≤ es.length ∧ ScR (cut es off2 len2) ∧ apgo d k x st.loc (cut es off2 len2) true st K
      else md = 1 ∧ p2 = [] ∧
        match st.sto id2 with
        | some (.ar k2 es _ hw2 ver2) => s2 = hw2 ∧ off2 + len2 ≤ es.length ∧ apgo d k x st.loc (cut es off2 len2) false (setOb st id2 (.ar k2 es false hw2 ver2)) K
        | _ => False
  | _ => False
theorem r_ap {k md : Nat} {x y : X} : op2 C d (.ap k md x y) ⟨lvl, env, loc, out⟩ K = ap2 C d k md x (xv env y) ⟨lvl, env, loc, out⟩ K := by
  rw [op2_loud rfl]
  rfl
section ap
variable {k : Nat} {x : X}
theorem r_ap0 {es : Row} : ap2 C d k 0 x (.tr (.sl es)) ⟨lvl, env, loc, out⟩ K = (ScR es ∧ apgo d k x loc es true ⟨lvl, env, loc, out⟩ K) := (rfl)
theorem r_ap1 {es : Row} : ap2 C d k 1 x (.tr (.sl es)) ⟨lvl, env, loc, out⟩ K = apgo d k x loc es false ⟨lvl, env, loc, out⟩ K := by simp [ap2]
theorem r_ap0c {es : Row} : ap2 C d k 0 x (.cs es) ⟨lvl, env, loc, out⟩ K = (ScR es ∧ apgo d k x loc es true ⟨lvl, env, loc, out⟩ K) := (rfl)
theorem r_ap1c {es : Row} : ap2 C d k 1 x (.cs es) ⟨lvl, env, loc, out⟩ K = apgo d k x loc es false ⟨lvl, env, loc, out⟩ K := by simp [ap2]
def kap (d : Option Nat) (k : Nat) (x : X) (off2 len2 : Nat) (st : St) (K : St → Prop) (es : Row) (_u : Bool) (_v : Nat) : Prop := off2 + len2 ≤ es.length ∧ ScR (cut es off2 len2) ∧ apgo d k x st.loc (cut es off2 len2) true st K
theorem r_kap {off2 len2 : Nat} {es : Row} {u : Bool} {v : Nat} : kap d k x off2 len2 ⟨lvl, env, loc, out⟩ K es u v = (off2 + len2 ≤ es.length ∧ ScR (cut es off2 len2) ∧ apgo d k x loc (cut es off2 len2) true ⟨lvl, env, loc, out⟩ K) := (rfl)
theorem r_ap0h {id2 : Oid} {p2 : Pth} {off2 len2 s2 : Nat} {c2 : Option Nat} : ap2 C d k 0 x (.hd id2 p2 off2 len2 c2 s2) ⟨lvl, env, loc, out⟩ K = rd3 (packS lvl loc out id2) p2 s2 (kap d k x off2 len2 ⟨lvl, env, loc, out⟩ K) := by
  rw [← rdh_rd3]
  rfl
def ap5 (o : Option Ob) (d : Option Nat) (k : Nat) (x : X) (len2 s2 : Nat) (loc0 : List (Nat × Ob)) (st1 : St) (K : St → Prop) : Prop :=
  match o with
  | some (.ar _ zs u2 hw2 _) => s2 = hw2 ∧ len2 = zs.length ∧ apgo d k x loc0 zs u2 st1 K
  | _ => False
theorem r_ap2h {key : Nat} {p2 : Pth} {off2 len2 s2 : Nat} {c2 : Option Nat} : ap2 C d k 2 x (.hd (lvl, key) p2 off2 len2 c2 s2) ⟨lvl, env, loc, out⟩ K = (p2 = [] ∧ off2 = 0 ∧ c2 = none ∧ ap5 (lkO key loc) d k x len2 s2 loc (kill (lvl, key) ⟨lvl, env, loc, out⟩) K) := by
  simp only [ap2, if_true]
  rw [show (⟨lvl, env, loc, out⟩ : St).sto (lvl, key) = lkO key loc from r_pack]
  generalize lkO key loc = o
  apply propext
  constructor
  · rintro ⟨h1, h2, h3, _, h5⟩
    refine ⟨h1, h2, h3, ?_⟩
    cases o with
    | none => exact h5
    | some ob => cases ob <;> exact h5
  · rintro ⟨h1, h2, h3, h5⟩
    refine ⟨h1, h2, h3, trivial, ?_⟩
    cases o with
    | none => exact h5
    | some ob => cases ob <;> exact h5
theorem r_ap5 {k2 : Nat} {zs : Row} {u2 : Bool} {hw2 ver2 len2 s2 : Nat} {loc0 : List (Nat × Ob)} {st1 : St} : ap5 (some (.ar k2 zs u2 hw2 ver2)) d k x len2 s2 loc0 st1 K = (s2 = hw2 ∧ len2 = zs.length ∧ apgo d k x loc0 zs u2 st1 K) := (rfl)
end ap
theorem r_snm {L : Sto} {F : List IV → Prop} : ∀ {l : List Tr}, snaps L (l.map .tr) F = F (l.map .tr)
  | [] => r_sn0
  | t :: r => by rw [List.map_cons, r_sn1, r_snm, r_kcn]
theorem r_mensm {Pd : Oid → Prop} : ∀ {l : List Tr}, mens Pd (l.map .tr) = True
  | [] => rfl
  | t :: r => by simp only [List.map_cons, mens, men, r_mensm, and_self]
theorem r_op3n {α : Type} {F : α → Prop} : op3 none F = False := (rfl)
end

/-! ## words for plain data -/
abbrev tv (n : Int) : Tr := .v (.int .i64 n)
abbrev tb (b : Bool) : Tr := .v (.bool b)
abbrev ts (s : ByteArray) : Tr := .v (.string s)
/-- numbers in memory -/
abbrev rI (l : List Int) : Row := l.map fun n => [tv n]
abbrev tI (l : List Int) : IV := .tr (.sl (rI l))
/-- strings in memory -/
abbrev rS (l : List ByteArray) : Row := l.map fun n => [ts n]
abbrev tS (l : List ByteArray) : IV := .tr (.sl (rS l))

theorem fits_i64 (n : Int) : fits .i64 n = (-9223372036854775808 ≤ n ∧ n ≤ 9223372036854775807) := by
  simp [fits, IntKind.min, IntKind.max, IntKind.signed, IntKind.bits]
theorem UnR_map {α : Type} {k : Nat} (f : α → List Tr) (h : ∀ x, (f x).length = k) (l : List α) : UnR k (l.map f) := by
  intro e he
  obtain ⟨x, _, rfl⟩ := List.mem_map.1 he
  exact h x
theorem ScR_map {α : Type} (f : α → List Tr) (h : ∀ x, ∀ t ∈ f x, isSc t = true) (l : List α) : ScR (l.map f) := by
  intro e he
  obtain ⟨x, _, rfl⟩ := List.mem_map.1 he
  exact h x
end Go.Fd

/-
  FROM THE READER'S FACTS TO TREES: what an input reads as, by its type. Own work.
-/
namespace Go.Fd

def In (w : World) (b : Nat) : Prop := b < w.heap.size
/-- A row of cells read as trees. -/
def RowRd (w : World) (cs : List Value) (ts : List Tr) : Prop := ∀ (j : Nat) (v : Value) (t : Tr), cs[j]? = some v → ts[j]? = some t → Rds w (In w) v t
/-- Values of type t, as rows of cells, read as what 'c' lays down of a plain value with 'Q'. -/
def Reads (P : Program) (t : TypeId) {α : Type} (c : α → List Tr) (Q : α → Prop) : Prop :=
  ∀ (H : Type) (enc : TypeId × Value → H) (w : World) (sp : Nat → Bool) (hd : Bool) (fuel : Nat) (cs : List Value) (x : DataW H × List MemPlace),
    DataW.trod enc P w 0 sp hd fuel t cs = some x → ∃ y, Q y ∧ RowRd w cs (c y)

theorem RowRd_one {w : World} {v : Value} {t : Tr} (h : Rds w (In w) v t) : RowRd w [v] [t] := fun j v' t' h1 h2 => by
  match j with
  | 0 => simp at h1 h2; subst h1; subst h2; exact h
  | j + 1 => simp at h1

theorem Reads_int {P : Program} {t : TypeId} (ht : P.underlying t = some (.int .i64)) : Reads P t (fun n : Int => [tv n]) (fits .i64) := by
  intro H enc w sp hd fuel cs x h
  obtain ⟨n, rfl, _, hw⟩ := DataW.trod_int ht h
  exact ⟨n, by simpa [Lit.wf, fits] using hw, RowRd_one (.v _ rfl)⟩
theorem Reads_bool {P : Program} {t : TypeId} (ht : P.underlying t = some .bool) : Reads P t (fun n : Bool => [tb n]) (fun _ => True) := by
  intro H enc w sp hd fuel cs x h
  obtain ⟨n, rfl, _⟩ := DataW.trod_bool ht h
  exact ⟨n, trivial, RowRd_one (.v _ rfl)⟩
theorem Reads_string {P : Program} {t : TypeId} (ht : P.underlying t = some .string) : Reads P t (fun n : ByteArray => [ts n]) (fun n => n.size ≤ 9223372036854775807) := by
  intro H enc w sp hd fuel cs x h
  obtain ⟨n, rfl, _, hw⟩ := DataW.trod_string ht h
  exact ⟨n, hw, RowRd_one (.v _ rfl)⟩

theorem cell_lt {w : World} {a : Addr} {v : Value} (h : w.cell? a = some v) : a.block < w.heap.size := by
  unfold World.cell? at h
  cases hh : w.heap[a.block]? with
  | none => rw [hh] at h; cases h
  | some o => exact (Array.getElem?_eq_some_iff.1 hh).1

/-- From an element's row each: a list of plain values. -/
theorem choose_list {α : Type} (n : Nat) (R : Nat → α → Prop) (h : ∀ i, i < n → ∃ y, R i y) : ∃ l : List α, l.length = n ∧ ∀ i y, l[i]? = some y → R i y := by
  induction n with
  | zero => exact ⟨[], rfl, fun i y h => by simp at h⟩
  | succ n ih =>
    obtain ⟨l, hl, hr⟩ := ih (fun i hi => h i (by omega))
    obtain ⟨y, hy⟩ := h n (by omega)
    refine ⟨l ++ [y], by simp [hl], fun i z hz => ?_⟩
    by_cases hi : i < n
    · rw [List.getElem?_append_left (by omega)] at hz; exact hr i z hz
    · have hlt := (List.getElem?_eq_some_iff.1 hz).1
      simp only [List.length_append, List.length_singleton] at hlt
      have : i = n := by omega
      subst this
      rw [List.getElem?_append_right (by omega), hl, Nat.sub_self] at hz
      simp at hz
      exact hz ▸ hy

theorem Reads_slice {P : Program} {t e : TypeId} {k : Nat} {α : Type} {c : α → List Tr} {Q : α → Prop} (ht : P.underlying t = some (.slice e)) (hk : P.cellsOf e = k + 1) (hc : ∀ x, (c x).length = k + 1)
    (he : Reads P e c Q) : Reads P t (fun l : List α => [.sl (l.map c)]) (fun l => l.length ≤ 9223372036854775807 ∧ ∀ x ∈ l, Q x) := by
  intro H enc w sp hd fuel cs x h
  rcases DataW.trod_slice ht h with ⟨rfl, _⟩ | ⟨a, len, cap, elems, rest, n, _, rfl, _, _, hl, hm, hlen, hel, _, _⟩
  · exact ⟨[], ⟨by simp, by simp⟩, RowRd_one (.nil none 0)⟩
  · have each : ∀ i, i < len → ∃ y, Q y ∧ ∀ j t, (c y)[j]? = some t → ∃ v, w.cell? (a.add (i * (k + 1) + j)) = some v ∧ Rds w (In w) v t := fun i hi => by
      have h1 := hel i hi
      rw [hk] at h1
      obtain ⟨z, hz⟩ : ∃ z, elems[i]? = some z := ⟨elems[i]'(by omega), List.getElem?_eq_getElem _⟩
      rw [hz, Option.bind_eq_some_iff] at h1
      obtain ⟨row, hrow, hx⟩ := h1
      obtain ⟨y, hy, hr⟩ := he H enc w sp hd n row z hx
      obtain ⟨_, hrl, hg⟩ := World.cells?_some hrow
      refine ⟨y, hy, fun j t hj => ?_⟩
      have hjk : j < k + 1 := by rw [← hc y]; exact (List.getElem?_eq_some_iff.1 hj).1
      have hv : row[j]? = some (row[j]'(by omega)) := List.getElem?_eq_getElem _
      have := hg j hjk
      rw [hv] at this
      have e2 : (a.add (i * (k + 1))).add j = a.add (i * (k + 1) + j) := by
        unfold Addr.add
        by_cases h0 : i * (k + 1) = 0
        · simp [h0]
        · by_cases h1 : j = 0
          · simp [h1, h0]
          · have h2 : ¬ (i * (k + 1) + j = 0) := by omega
            simp only [if_neg h0, if_neg h1, if_neg h2, Addr.mk.injEq, and_true, true_and]
            omega
      rw [e2] at this
      exact ⟨_, this, hr j _ t hv hj⟩
    obtain ⟨l, hll, hlr⟩ := choose_list len _ each
    refine ⟨l, ⟨?_, fun y hy => ?_⟩, RowRd_one ?_⟩
    · rw [hll]; exact Nat.le_trans hl hm
    · obtain ⟨i, hi⟩ := List.getElem?_of_mem hy
      exact (hlr i y hi).1
    · by_cases h0 : len = 0
      · have : l = [] := List.eq_nil_of_length_eq_zero (by omega)
        subst this; subst h0
        exact .nil _ _
      · obtain ⟨y0, hy0⟩ : ∃ y0, l[0]? = some y0 := ⟨l[0]'(by omega), List.getElem?_eq_getElem _⟩
        obtain ⟨t0, ht0⟩ : ∃ t0, (c y0)[0]? = some t0 := ⟨(c y0)[0]'(by rw [hc]; omega), List.getElem?_eq_getElem _⟩
        obtain ⟨v0, hv0, _⟩ := (hlr 0 y0 hy0).2 0 t0 ht0
        obtain ⟨b, o, s⟩ := a
        have hs : s = none := by simpa [Addr.add] using World.cell?_spot hv0
        subst hs
        have hb : b < w.heap.size := by simpa [Addr.add] using cell_lt hv0
        have hel2 : ∀ i e j t, (l.map c)[i]? = some e → e[j]? = some t → ∃ v, w.cell? ⟨b, o + i * (k + 1) + j, none⟩ = some v ∧ Rds w (In w) v t := fun i e j t h1 h2 => by
          rw [List.getElem?_map, Option.map_eq_some_iff] at h1
          obtain ⟨y, hy, rfl⟩ := h1
          obtain ⟨v, hv, hr⟩ := (hlr i y hy).2 j t h2
          refine ⟨v, ?_, hr⟩
          rw [← hv]
          congr 1
          unfold Addr.add
          by_cases h0 : i * (k + 1) + j = 0
          · have : o + i * (k + 1) + j = o := by omega
            rw [if_pos h0, this]
          · rw [if_neg h0]
            have : o + i * (k + 1) + j = o + (i * (k + 1) + j) := by omega
            simp only [this]
        have hlm : (l.map c).length = len := by simpa using hll
        have := Rds.sl (w := w) (A := In w) b o cap (k + 1) (l.map c) (fun i j => (w.cell? ⟨b, o + i * (k + 1) + j, none⟩).getD .nilFunc) hb
          (fun e he => by simp only [List.mem_map] at he; obtain ⟨y, _, rfl⟩ := he; exact hc y) (by omega)
          (fun i e j t h1 h2 => by obtain ⟨v, hv, _⟩ := hel2 i e j t h1 h2; rw [hv]; rfl)
          (fun i e j t h1 h2 => by obtain ⟨v, hv, hr⟩ := hel2 i e j t h1 h2; rw [hv]; exact hr)
        rw [hlm] at this
        exact this

/-- A struct's or an array's parts, one behind the other. -/
def ReadsP (P : Program) (o : Nat) (l : List (Nat × TypeId)) {α : Type} (c : α → List Tr) (Q : α → Prop) : Prop :=
  ∀ (H : Type) (enc : TypeId × Value → H) (w : World) (sp : Nat → Bool) (hd : Bool) (fuel : Nat) (cs : List Value),
    (∀ p ∈ l, ∃ x, DataW.trod enc P w 0 sp hd fuel p.2 ((cs.drop p.1).take (P.cellsOf p.2)) = some x) → ∃ y, Q y ∧ RowRd w (cs.drop o) (c y)
theorem ReadsP_nil {P : Program} {o : Nat} : ReadsP P o [] (fun _ : Unit => []) (fun _ => True) := fun H enc w sp hd fuel cs _ => ⟨(), trivial, fun j v t _ h => by simp at h⟩
theorem ReadsP_cons {P : Program} {o k : Nat} {t : TypeId} {l : List (Nat × TypeId)} {α β : Type} {c : α → List Tr} {Q : α → Prop} {c2 : β → List Tr} {Q2 : β → Prop}
    (hk : P.cellsOf t = k) (hc : ∀ x, (c x).length = k) (h1 : Reads P t c Q) (h2 : ReadsP P (o + k) l c2 Q2) :
    ReadsP P o ((o, t) :: l) (fun p : α × β => c p.1 ++ c2 p.2) (fun p => Q p.1 ∧ Q2 p.2) := fun H enc w sp hd fuel cs h => by
  obtain ⟨x, hx⟩ := h (o, t) (by simp)
  obtain ⟨y, hy, hr⟩ := h1 _ _ _ _ _ _ _ _ hx
  obtain ⟨y2, hy2, hr2⟩ := h2 H enc w sp hd fuel cs (fun p hp => h p (by simp [hp]))
  refine ⟨(y, y2), ⟨hy, hy2⟩, fun j v t' hv ht => ?_⟩
  by_cases hj : j < k
  · rw [List.getElem?_append_left (by rw [hc]; exact hj)] at ht
    refine hr j v t' ?_ ht
    rw [hk, List.getElem?_take_of_lt hj]
    exact hv
  · rw [List.getElem?_append_right (by rw [hc]; omega), hc] at ht
    refine hr2 (j - k) v t' ?_ ht
    rw [List.getElem?_drop] at hv ⊢
    rw [← hv]
    congr 1
    omega
theorem Reads_struct {P : Program} {t : TypeId} {fs : Array Field} {α : Type} {c : α → List Tr} {Q : α → Prop} (ht : P.underlying t = some (.struct fs)) (h : ReadsP P 0 (fs.toList.map fun f => (f.offset, f.type)) c Q) : Reads P t c Q := by
  intro H enc w sp hd fuel cs x hx
  obtain ⟨xs, n, _, _, _, hl, hf⟩ := DataW.trod_struct ht hx
  have := h H enc w sp hd n cs (fun p hp => by
    simp only [List.mem_map] at hp
    obtain ⟨f, hf1, rfl⟩ := hp
    obtain ⟨i, hi⟩ := List.getElem?_of_mem hf1
    have hi' : fs[i]? = some f := by simpa using hi
    have hlt : i < xs.length := by rw [hl]; exact (Array.getElem?_eq_some_iff.1 hi').1
    exact ⟨_, (hf i f hi').trans (List.getElem?_eq_getElem hlt)⟩)
  simpa using this
theorem Reads_array {P : Program} {t e : TypeId} {n : Nat} {α : Type} {c : α → List Tr} {Q : α → Prop} (ht : P.underlying t = some (.array n e)) (h : ReadsP P 0 ((List.range n).map fun i => (i * P.cellsOf e, e)) c Q) : Reads P t c Q := by
  intro H enc w sp hd fuel cs x hx
  obtain ⟨xs, m, _, _, _, hl, hf⟩ := DataW.trod_array ht hx
  have := h H enc w sp hd m cs (fun p hp => by
    simp only [List.mem_map, List.mem_range] at hp
    obtain ⟨i, hi, rfl⟩ := hp
    exact ⟨_, (hf i hi).trans (List.getElem?_eq_getElem (by omega))⟩)
  simpa using this
theorem Reads_array1 {P : Program} {t e : TypeId} {n k : Nat} {α : Type} {c : α → List Tr} {Q : α → Prop} (ht : P.underlying t = some (.array n e)) (hk : P.cellsOf e = k) (h : ReadsP P 0 ((List.range n).map fun i => (i * k, e)) c Q) : Reads P t c Q :=
  Reads_array ht (by rw [hk]; exact h)
theorem Reads_map {P : Program} {t : TypeId} {α β : Type} {c : α → List Tr} {Q : α → Prop} {c2 : β → List Tr} {Q2 : β → Prop} (g : α → β) (hg : ∀ x, c2 (g x) = c x) (hq : ∀ x, Q x → Q2 (g x)) (h : Reads P t c Q) : Reads P t c2 Q2 := by
  intro H enc w sp hd fuel cs x hx
  obtain ⟨y, hy, hr⟩ := h H enc w sp hd fuel cs x hx
  exact ⟨g y, hq y hy, by rw [hg]; exact hr⟩
theorem Reads_mp {P : Program} {t : TypeId} {α β : Type} {c : α → List Tr} {Q : α → Prop} {c2 : β → List Tr} {Q2 : β → Prop} (h : Reads P t c Q) (g : α → β) (hg : ∀ x, c2 (g x) = c x) (hq : ∀ x, Q x → Q2 (g x)) : Reads P t c2 Q2 := Reads_map g hg hq h
theorem Reads_num {P : Program} {t : TypeId} {k : IntKind} (ht : P.underlying t = some (.int k)) : Reads P t (fun n : Int => [.v (.int k n)]) (fits k) := by
  intro H enc w sp hd fuel cs x h
  obtain ⟨n, rfl, _, hw⟩ := DataW.trod_int ht h
  exact ⟨n, by simpa [Lit.wf, fits] using hw, RowRd_one (.v _ rfl)⟩
end Go.Fd

/-
  FROM A CONTRACT OF A LAW TO WHAT ITS ROW ASKS. Own work.
-/
namespace Go.Fd
open Go.RowKit

def G0 : Gh := fun _ _ => none
def S0 : Sto := fun _ => none
theorem Av0 {w : World} {b : Nat} (h : In w b) : Av G0 S0 w b := ⟨h, fun id ob hs => by cases hs⟩
theorem VRs_of_row {w : World} : ∀ {cs : List Value} {ts : List Tr}, cs.length = ts.length → RowRd w cs ts → VRs G0 S0 w (ts.map .tr) cs
  | [], [], _, _ => by simp [VRs]
  | v :: cs, t :: ts, hl, h => by
    simp only [List.map_cons, VRs]
    refine ⟨v, cs, rfl, ?_, VRs_of_row (by simpa using hl) (fun j v' t' h1 h2 => h (j + 1) v' t' (by simpa using h1) (by simpa using h2))⟩
    simp only [VR]
    exact Rds.mono (fun b => Av0) (fun b _ => rfl) (h 0 v t rfl rfl)
  | [], _ :: _, hl, _ => by simp at hl
  | _ :: _, [], hl, _ => by simp at hl

/-- A call of a law: it answers, and nothing old has turned. -/
theorem calls_of_sem {P : Program} {f : FuncId} {args : List IV} {b : Bool} {w : World} {vs : List Value} (h : Sem P f 0 args S0 (iB b) S0) (hv : VRs G0 S0 w args vs) :
    Calls P f vs.toArray w fun e w' => e = .returned (.bool b) ∧ Below w.heap.size w w' := by
  obtain ⟨_, _, h⟩ := h
  refine (h (fun id ob hs => by cases hs) G0 w vs ⟨fun id ob hs => (nomatch hs), fun id ob id2 ob2 b2 hs => (nomatch hs), fun id cells hs => (nomatch hs)⟩ hv).mono ?_
  rintro e w' ⟨v, G', rfl, _, hr, _, hf⟩
  have hr' : Rds w' (Av G' (addS S0 0 0 (impv true 0 0 0 (iB b)).2) w') v (.v (.bool b)) := hr
  cases hr' with
  | v x hx =>
    exact ⟨rfl, hf.os, hf.tape, hf.output, hf.size, fun k hk => hf.old k hk (fun id ob hs => by cases hs)⟩

theorem arg_slice {P : Program} {w : World} {r : Reach} {base : Nat} {t e : TypeId} {v : Value} (ht : P.underlying t = some (.slice e)) (h : Value.okWide P w r base t v) : v.cells.toList = [v] := by
  unfold Value.okWide at h
  rw [ht] at h
  simp only [Cell.okWide, ht, Cell.ok] at h
  cases v <;> first | rfl | exact absurd h (by simp)
theorem arg_struct {P : Program} {w : World} {r : Reach} {base : Nat} {t : TypeId} {fs : Array Field} {v : Value} (ht : P.underlying t = some (.struct fs)) (h : Value.okWide P w r base t v) : ∃ cs, v = .agg cs ∧ cs.size = P.cellsOf t := by
  unfold Value.okWide at h
  rw [ht] at h
  obtain ⟨cs, h1, h2, _⟩ := h
  exact ⟨cs, h1, h2⟩

section
variable {H : Type} {enc : TypeId × Value → H} {P : Program} {w : World} {t : TypeId} {v : Value} {d : DataW H} {p : List MemPlace} {α : Type} {c : α → List Tr} {Q : α → Prop} {sp : Nat → Bool} {hd : Bool} {base : Nat}
/-- A struct as a parameter. -/
theorem VR_struct {fs : Array Field} {k : Nat} (hr : Reads P t c Q) (ht : P.underlying t = some (.struct fs)) (hk : P.cellsOf t = k) (hc : ∀ x, (c x).length = k) (hok : Value.okWide P w .any base t v) (h : DataW.Trod enc P w 0 sp hd t v d p) :
    ∃ y, Q y ∧ VR G0 S0 w (.ag ((c y).map .tr)) v := by
  obtain ⟨cs, rfl, hs⟩ := arg_struct ht hok
  obtain ⟨n, hn⟩ := h
  obtain ⟨y, hy, hrow⟩ := hr H enc w sp hd n _ _ hn
  refine ⟨y, hy, ?_⟩
  simp only [VR]
  refine ⟨cs.toList, by simp, VRs_of_row ?_ hrow⟩
  rw [hc, ← hk, ← hs]
  simp
/-- A slice as a parameter. -/
theorem VR_slice {e : TypeId} {g : α → Tr} (hr : Reads P t (fun x => [g x]) Q) (ht : P.underlying t = some (.slice e)) (hok : Value.okWide P w .any base t v) (h : DataW.Trod enc P w 0 sp hd t v d p) :
    ∃ y, Q y ∧ VR G0 S0 w (.tr (g y)) v := by
  obtain ⟨n, hn⟩ := h
  rw [arg_slice ht hok] at hn
  obtain ⟨y, hy, hrow⟩ := hr H enc w sp hd n _ _ hn
  refine ⟨y, hy, ?_⟩
  simp only [VR]
  exact Rds.mono (fun b => Av0) (fun b _ => rfl) (hrow 0 v _ rfl rfl)
end

/-- The row's end, for a law: true, and the arguments read as they did. -/
theorem post_of_below {H : Type} {enc : TypeId × Value → H} {P : Program} {f : Func} {s : ChangeSpec} {apart : Bool} {W W' : World} {args : Array Value} {v : Value} {ds gs : List (DataW H)} {before pa pv : List MemPlace}
    (hW : DataW.Whole enc P f.params.toList s.vars apart W args.toList ds gs before) (hb : Below W.heap.size W W')
    (hres : DataW.TrodAll enc P W' W.heap.size (fun _ => false) false f.resultTypes.toList (v.resultList f.resultTypes.size) (s.fn H (ds ++ gs)).results [])
    (hargs : DataW.TrodAll enc P W' 0 (fun b => decide (b < W.heap.size)) true f.params.toList args.toList (s.fn H (ds ++ gs)).args pa)
    (hvars : DataW.TrodVars enc P W' (fun b => decide (b < W.heap.size)) s.vars (s.fn H (ds ++ gs)).vars pv) :
    s.post enc P f apart true false false W args v W' :=
  ⟨ds, gs, before, [], pa, pv, hW, hres, hargs, hvars, hb.frame _, fun h => by cases h⟩
end Go.Fd
