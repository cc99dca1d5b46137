/-
  FOUNDATION 44: the rules by which the predicate transformer is worked out, one operation at a time. Own work.
-/
import Derived.Test.YtopapbodofgmiaaGreatDoorT03
import Derived.ChangeArms
import Derived.OpenShut
import Derived.Carry
import Derived.ChangeMaps5
import Derived.ChangeShapes
set_option linter.all false
namespace Go.Fd

section
variable {C : Contract} {lvl : Nat} {env : List (Nat × IV)} {loc : List (Nat × Ob)} {out : Sto} {d : Option Nat} {K : St → Prop} {st : St} {Q : Ex → St → Prop}

def kont (C : Contract) (l : List OP) (K : St → Prop) : St → Prop := fun st => wpo C l st K
theorem r_cons {o : OP} {l : List OP} : wpo C (o :: l) st K = op1 C o st (kont C l K) := (rfl)
theorem r_nil : wpo C [] st K = K st := (rfl)
theorem r_kont {l : List OP} : kont C l K st = wpo C l st K := (rfl)
def kseq (C : Contract) (b : C2) (Q : Ex → St → Prop) : Ex → St → Prop := fun e st => match e with | .nrm => wp C b st Q | e => Q e st
def kblk (i : Nat) (Q : Ex → St → Prop) : Ex → St → Prop := fun e st => match e with | .ext j => if j = i then Q .nrm st else Q (.ext j) st | e => Q e st
def kfn (rs : List RS) (K : IV → Sto → Prop) : Ex → St → Prop := fun e st => match e with | .ext _ => False | _ => fin rs st K
theorem r_seq1 {b : C2} : kseq C b Q .nrm st = wp C b st Q := (rfl)
theorem r_seq2 {b : C2} {i : Nat} : kseq C b Q (.ext i) st = Q (.ext i) st := (rfl)
theorem r_seq3 {b : C2} : kseq C b Q .ret st = Q .ret st := (rfl)
theorem r_blk1 {i : Nat} : kblk i Q .nrm st = Q .nrm st := (rfl)
theorem r_blk2 {i j : Nat} : kblk i Q (.ext j) st = if j = i then Q .nrm st else Q (.ext j) st := (rfl)
theorem r_blk3 {i : Nat} : kblk i Q .ret st = Q .ret st := (rfl)
theorem r_fn1 {rs : List RS} {K : IV → Sto → Prop} : kfn rs K .nrm st = fin rs st K := (rfl)
theorem r_fn2 {rs : List RS} {K : IV → Sto → Prop} : kfn rs K .ret st = fin rs st K := (rfl)
theorem r_fn3 {rs : List RS} {K : IV → Sto → Prop} {i : Nat} : kfn rs K (.ext i) st = False := (rfl)

theorem r_sk : wp C .sk st Q = Q .nrm st := (rfl)
theorem r_rg {n : Option Nat} {ops : List OP} : wp C (.rg n ops) st Q = wpo C ops st (Q .nrm) := (rfl)
theorem r_sq {a b : C2} : wp C (.sq a b) st Q = wp C a st (kseq C b Q) := (rfl)
theorem r_bl {i : Nat} {c : C2} : wp C (.bl i c) st Q = wp C c st (kblk i Q) := (rfl)
theorem r_ex {i : Nat} : wp C (.ex i) st Q = Q (.ext i) st := (rfl)
theorem r_rt : wp C .rt st Q = Q .ret st := (rfl)
theorem r_fg {ks js : List Nat} {c : C2} : wp C (.fg ks js c) st Q = (clean ks js st ∧ wp C c (fgt ks js st) Q) := (rfl)
def cd2 (C : Contract) (v : IV) (a b : C2) (st : St) (Q : Ex → St → Prop) : Prop :=
  match v with
  | .tr (.v (.bool t)) => if t = true then wp C a st Q else wp C b st Q
  | _ => False
theorem r_cd {c : X} {a b : C2} : wp C (.cd c a b) ⟨lvl, env, loc, out⟩ Q = cd2 C (xv env c) a b ⟨lvl, env, loc, out⟩ Q := by
  simp only [wp]
  generalize xv env c = v
  cases v <;> try rfl
  rename_i t
  cases t <;> try rfl
  rename_i x
  cases x <;> try rfl
  rename_i t
  cases t <;> simp [cd2]
theorem r_cd2 {t : Bool} {a b : C2} : cd2 C (.tr (.v (.bool t))) a b st Q = if t = true then wp C a st Q else wp C b st Q := (rfl)
theorem r_wpF {f : F2} {args : List IV} {K : IV → Sto → Prop} : wpF C f lvl args out K = (args.length ≤ f.nt ∧ wp C f.body ⟨lvl, params 0 args, [], out⟩ (kfn f.res K)) := (rfl)

def gd (C : Contract) (v : IV) (w : Bool) (j : Nat) (d : Option Nat) (o : O) (lvl : Nat) (env : List (Nat × IV)) (loc : List (Nat × Ob)) (out : Sto) (K : St → Prop) : Prop :=
  match v with
  | .tr (.v (.bool c)) => if c = w then op2 C d o ⟨lvl, pt j (iB w) env, loc, out⟩ K else K ⟨lvl, ptd d (.tu []) (pt j (iB !w) env), loc, out⟩
  | .tu [] => K ⟨lvl, ptd d (.tu []) env, loc, out⟩
  | _ => False
theorem r_op1 {o : O} : op1 C ⟨d, none, o⟩ st K = op2 C d o st K := (rfl)
theorem r_op1g {o : O} {j : Nat} {w : Bool} : op1 C ⟨d, some (j, w), o⟩ ⟨lvl, env, loc, out⟩ K = gd C (lk j env) w j d o lvl env loc out K := by
  simp only [op1]
  generalize lk j env = v
  cases v with
  | tr t =>
    cases t with
    | v x =>
      cases x <;> try rfl
      rename_i c
      cases c <;> cases w <;> simp [gd]
    | sl => rfl
  | tu l => cases l <;> rfl
  | _ => rfl
theorem r_gd {c w : Bool} {j : Nat} {o : O} : gd C (.tr (.v (.bool c))) w j d o lvl env loc out K = if c = w then op2 C d o ⟨lvl, pt j (iB w) env, loc, out⟩ K else K ⟨lvl, ptd d (.tu []) (pt j (iB !w) env), loc, out⟩ := (rfl)
theorem r_gdu {w : Bool} {j : Nat} {o : O} : gd C (.tu []) w j d o lvl env loc out K = K ⟨lvl, ptd d (.tu []) env, loc, out⟩ := (rfl)

theorem op2_sil {o : O} (h : loud o = false) : op2 C d o ⟨lvl, env, loc, out⟩ K = ev C (xv env) (packS lvl loc out) (fun mk obs => freshK (keyOf d) loc (obs lvl (keyOf d)).length ∧ K ⟨lvl, ptd d (mk lvl (keyOf d)) env, addO (keyOf d) (obs lvl (keyOf d)) loc, out⟩) o := by
  unfold op2
  rw [if_neg (by simp [h])]
  rfl
theorem op2_pure {o : O} (h : loud o = false) {y : IV} (he : ∀ Kd : Kind, ev C (xv env) (packS lvl loc out) Kd o = pureK Kd y) : op2 C d o ⟨lvl, env, loc, out⟩ K = K ⟨lvl, ptd d y env, loc, out⟩ := by
  exact (op2_sil h).trans ((he _).trans (by simp [pureK, freshK, addO]))

def go1 (lvl : Nat) (env : List (Nat × IV)) (loc : List (Nat × Ob)) (out : Sto) (d : Option Nat) (K : St → Prop) (y : IV) : Prop := K ⟨lvl, ptd d y env, loc, out⟩
theorem r_go1 {y : IV} : go1 lvl env loc out d K y = K ⟨lvl, ptd d y env, loc, out⟩ := (rfl)
theorem op2_gen {o : O} (h : loud o = false) {T : (IV → Prop) → Prop} (he : ∀ Kd : Kind, ev C (xv env) (packS lvl loc out) Kd o = T (fun y => pureK Kd y)) : op2 C d o ⟨lvl, env, loc, out⟩ K = T (go1 lvl env loc out d K) := by
  exact (op2_sil h).trans ((he _).trans (congrArg T (funext fun y => by simp [pureK, freshK, addO, go1])))

theorem r_mv {x : X} : op2 C d (.mv x none) ⟨lvl, env, loc, out⟩ K = K ⟨lvl, ptd d (xv env x) env, loc, out⟩ := op2_pure rfl fun _ => rfl
def mvn (v : IV) (k lvl : Nat) (env : List (Nat × IV)) (loc : List (Nat × Ob)) (out : Sto) (d : Option Nat) (K : St → Prop) : Prop :=
  match v with
  | .cs [] => freshK (keyOf d) loc 1 ∧ K ⟨lvl, ptd d (.hd (lvl, keyOf d) [] 0 0 none 0) env, ptO (keyOf d) (.ar k [] true 0 0) loc, out⟩
  | _ => False
theorem r_mvn {x : X} {k : Nat} : op2 C d (.mv x (some k)) ⟨lvl, env, loc, out⟩ K = mvn (xv env x) k lvl env loc out d K := by
  rw [op2_sil rfl]
  simp only [ev]
  generalize xv env x = v
  cases v <;> try rfl
theorem r_mvn1 {k : Nat} : mvn (.cs []) k lvl env loc out d K = (freshK (keyOf d) loc 1 ∧ K ⟨lvl, ptd d (.hd (lvl, keyOf d) [] 0 0 none 0) env, ptO (keyOf d) (.ar k [] true 0 0) loc, out⟩) := (rfl)

def bxf (v : Option (List IV)) (lvl : Nat) (env : List (Nat × IV)) (loc : List (Nat × Ob)) (out : Sto) (d : Option Nat) (K : St → Prop) : Prop :=
  match v with
  | some c => freshK (keyOf d) loc 1 ∧ K ⟨lvl, ptd d (.ab (lvl, keyOf d) 0) env, ptO (keyOf d) (.bx c) loc, out⟩
  | none => False
theorem r_bx {x : X} : op2 C d (.bx x) ⟨lvl, env, loc, out⟩ K = bxf (cellsOf (xv env x)) lvl env loc out d K := by
  rw [op2_sil rfl]
  simp only [ev]
  generalize cellsOf (xv env x) = v
  cases v <;> rfl
theorem r_bx1 {c : List IV} : bxf (some c) lvl env loc out d K = (freshK (keyOf d) loc 1 ∧ K ⟨lvl, ptd d (.ab (lvl, keyOf d) 0) env, ptO (keyOf d) (.bx c) loc, out⟩) := (rfl)
def bvf (v : Option (List IV)) (k lvl : Nat) (env : List (Nat × IV)) (loc : List (Nat × Ob)) (out : Sto) (d : Option Nat) (K : St → Prop) : Prop :=
  match v with
  | some c => c.length = k ∧ freshK (keyOf d) loc 1 ∧ K ⟨lvl, ptd d (.sv (lvl, keyOf d)) env, ptO (keyOf d) (.bx c) loc, out⟩
  | none => False
theorem r_bv {k n : Nat} {z : List Value} {x : X} : op2 C d (.bv k n z [(0, x)]) ⟨lvl, env, loc, out⟩ K = (n = 1 ∧ bvf (cellsOf (xv env x)) k lvl env loc out d K) := by
  rw [op2_sil rfl]
  simp only [ev]
  generalize cellsOf (xv env x) = v
  cases v <;> rfl
theorem r_bv1 {c : List IV} {k : Nat} : bvf (some c) k lvl env loc out d K = (c.length = k ∧ freshK (keyOf d) loc 1 ∧ K ⟨lvl, ptd d (.sv (lvl, keyOf d)) env, ptO (keyOf d) (.bx c) loc, out⟩) := (rfl)
def tocs (v : IV) : Option (List Tr × Bool) :=
  match cellsOf v with
  | some c => totrs c
  | none => none
def btf (v : Option (List Tr × Bool)) (lvl : Nat) (env : List (Nat × IV)) (loc : List (Nat × Ob)) (out : Sto) (d : Option Nat) (K : St → Prop) : Prop :=
  match v with
  | some (ts, _) => K ⟨lvl, ptd d (.ta ts) env, loc, out⟩
  | none => False
theorem r_bt {x : X} : op2 C d (.bt x) ⟨lvl, env, loc, out⟩ K = btf (tocs (xv env x)) lvl env loc out d K := by
  rw [op2_sil rfl]
  simp only [ev, tocs]
  generalize cellsOf (xv env x) = v
  cases v with
  | none => rfl
  | some c =>
    dsimp only
    generalize totrs c = u
    cases u with
    | none => rfl
    | some p => obtain ⟨ts, q⟩ := p; simp [btf, pureK, freshK, addO]
theorem r_bt1 {ts : List Tr} {q : Bool} : btf (some (ts, q)) lvl env loc out d K = K ⟨lvl, ptd d (.ta ts) env, loc, out⟩ := (rfl)
theorem r_al {z : List Value} {nz : List (Nat × Nat)} : op2 C d (.al z nz) ⟨lvl, env, loc, out⟩ K = (freshK (keyOf d) loc (1 + nz.length) ∧ K ⟨lvl, ptd d (.ab (lvl, keyOf d) 0) env, ptO (keyOf d) (.bx (zfill lvl (keyOf d + 1) nz (z.map kc))) loc |> addO (keyOf d + 1) (zobs nz), out⟩) := by
  rw [op2_sil rfl]
  simp only [ev, List.length_cons, addO, zobs, List.length_map]
  rw [Nat.add_comm]
theorem r_bd {z : List Value} {ps : List (Nat × Nat × X)} {nz : List (Nat × Nat)} : op2 C d (.bd z ps nz) ⟨lvl, env, loc, out⟩ K = (okp (xv env) z.length ps ∧ freshK (keyOf d) loc nz.length ∧ K ⟨lvl, ptd d (.ag (fpart (xv env) ps (zfill lvl (keyOf d) nz (z.map kc)))) env, addO (keyOf d) (zobs nz) loc, out⟩) := by
  rw [op2_sil rfl]
  simp only [ev, zobs, List.length_map]

def kfill (k n lvl : Nat) (env : List (Nat × IV)) (loc : List (Nat × Ob)) (out : Sto) (d : Option Nat) (K : St → Prop) : Row → Bool → Prop := fun es u =>
  freshK (keyOf d) loc 1 ∧ K ⟨lvl, ptd d (.hd (lvl, keyOf d) [] 0 n none n) env, ptO (keyOf d) (.ar k es u n 0) loc, out⟩
def fl2 (v : Option (List Tr × Bool)) (ρ : X → IV) (i k : Nat) (r : List (Nat × X)) (es : Row) (u : Bool) (F : Row → Bool → Prop) : Prop :=
  match v with
  | some (ts, a) => ts.length = k ∧ i < es.length ∧ fills ρ k r (es.set i ts) (u && a) F
  | none => False
theorem r_bs {k n : Nat} {z : List Value} {ps : List (Nat × X)} : op2 C d (.bs k n z ps) ⟨lvl, env, loc, out⟩ K = fills (xv env) k ps (List.replicate n (z.map trv)) true (kfill k n lvl env loc out d K) := by
  rw [op2_sil rfl]
  rfl
theorem r_fills0 {ρ : X → IV} {k : Nat} {es : Row} {u : Bool} {F : Row → Bool → Prop} : fills ρ k [] es u F = F es u := (rfl)
theorem r_fills1 {ρ : X → IV} {k i : Nat} {x : X} {r : List (Nat × X)} {es : Row} {u : Bool} {F : Row → Bool → Prop} : fills ρ k ((i, x) :: r) es u F = fl2 (tocs (ρ x)) ρ i k r es u F := by
  simp only [fills, tocs]
  generalize cellsOf (ρ x) = v
  cases v with
  | none => rfl
  | some c =>
    dsimp only
    generalize totrs c = u
    cases u with
    | none => rfl
    | some p => rfl
theorem r_fl2 {ts : List Tr} {a : Bool} {ρ : X → IV} {k i : Nat} {r : List (Nat × X)} {es : Row} {u : Bool} {F : Row → Bool → Prop} : fl2 (some (ts, a)) ρ i k r es u F = (ts.length = k ∧ i < es.length ∧ fills ρ k r (es.set i ts) (u && a) F) := (rfl)
theorem r_kfill {k n : Nat} {es : Row} {u : Bool} : kfill k n lvl env loc out d K es u = (freshK (keyOf d) loc 1 ∧ K ⟨lvl, ptd d (.hd (lvl, keyOf d) [] 0 n none n) env, ptO (keyOf d) (.ar k es u n 0) loc, out⟩) := (rfl)
def msf (v : IV) (k : Nat) (z : List Value) (lvl : Nat) (env : List (Nat × IV)) (loc : List (Nat × Ob)) (out : Sto) (d : Option Nat) (K : St → Prop) : Prop :=
  match v with
  | .tr (.v (.int .i64 n)) => 0 ≤ n ∧ n ≤ bigN ∧ freshK (keyOf d) loc 1 ∧ K ⟨lvl, ptd d (.hd (lvl, keyOf d) [] 0 n.toNat none n.toNat) env, ptO (keyOf d) (.ar k (List.replicate n.toNat (z.map trv)) true n.toNat 0) loc, out⟩
  | _ => False
theorem r_ms {k : Nat} {z : List Value} {x : X} : op2 C d (.ms k z x) ⟨lvl, env, loc, out⟩ K = msf (xv env x) k z lvl env loc out d K := by
  rw [op2_sil rfl]
  simp only [ev]
  generalize xv env x = v
  cases v <;> try rfl
theorem r_ms1 {n : Int} {k : Nat} {z : List Value} : msf (.tr (.v (.int .i64 n))) k z lvl env loc out d K = (0 ≤ n ∧ n ≤ bigN ∧ freshK (keyOf d) loc 1 ∧ K ⟨lvl, ptd d (.hd (lvl, keyOf d) [] 0 n.toNat none n.toNat) env, ptO (keyOf d) (.ar k (List.replicate n.toNat (z.map trv)) true n.toNat 0) loc, out⟩) := (rfl)

def bi2 (op : BinOp) (w : Nat) (x y : IV) (F : IV → Prop) : Prop :=
  match x, y with
  | .tr (.v a), .tr (.v b) => biv op w a b fun r => F (.tr (.v r))
  | .er, .tr (.v .nilIface) =>
    match op, w with
    | .eql, 3 => F (iB false)
    | .neq, 3 => F (iB true)
    | _, _ => False
  | _, _ => False
theorem r_bi {op : BinOp} {w : Nat} {x y : X} : op2 C d (.bi op w x y) ⟨lvl, env, loc, out⟩ K = bi2 op w (xv env x) (xv env y) (go1 lvl env loc out d K) := by
  exact op2_gen rfl fun Kd => rfl
section bi
variable {F : IV → Prop} {k : IntKind} {a b : Int} {s t : ByteArray} {p q : Bool} {w : Nat}
theorem r_add0 : bi2 .add 0 (.tr (.v (.int k a))) (.tr (.v (.int k b))) F = (fits k (a + b) ∧ F (.tr (.v (.int k (a + b))))) := by simp [bi2, biv]
theorem r_sub0 : bi2 .sub 0 (.tr (.v (.int k a))) (.tr (.v (.int k b))) F = (fits k (a - b) ∧ F (.tr (.v (.int k (a - b))))) := by simp [bi2, biv]
theorem r_mul0 : bi2 .mul 0 (.tr (.v (.int k a))) (.tr (.v (.int k b))) F = (fits k (a * b) ∧ F (.tr (.v (.int k (a * b))))) := by simp [bi2, biv]
theorem r_add1 : bi2 .add 1 (.tr (.v (.int k a))) (.tr (.v (.int k b))) F = F (.tr (.v (.int k (k.wrap (a + b))))) := by simp [bi2, biv]
theorem r_sub1 : bi2 .sub 1 (.tr (.v (.int k a))) (.tr (.v (.int k b))) F = F (.tr (.v (.int k (k.wrap (a - b))))) := by simp [bi2, biv]
theorem r_mul1 : bi2 .mul 1 (.tr (.v (.int k a))) (.tr (.v (.int k b))) F = F (.tr (.v (.int k (k.wrap (a * b))))) := by simp [bi2, biv]
theorem r_quo : bi2 .quo w (.tr (.v (.int k a))) (.tr (.v (.int k b))) F = (0 ≤ a ∧ 0 < b ∧ fits k a ∧ F (.tr (.v (.int k (a / b))))) := by simp [bi2, biv]
theorem r_rem : bi2 .rem w (.tr (.v (.int k a))) (.tr (.v (.int k b))) F = (0 ≤ a ∧ 0 < b ∧ F (.tr (.v (.int k (a % b))))) := by simp [bi2, biv]
theorem r_eqi : bi2 .eql w (.tr (.v (.int k a))) (.tr (.v (.int k b))) F = F (iB (decide (a = b))) := by simp [bi2, biv]
theorem r_nei : bi2 .neq w (.tr (.v (.int k a))) (.tr (.v (.int k b))) F = F (iB (decide (a ≠ b))) := by simp [bi2, biv]
theorem r_lti : bi2 .lss w (.tr (.v (.int k a))) (.tr (.v (.int k b))) F = F (iB (decide (a < b))) := by simp [bi2, biv]
theorem r_lei : bi2 .leq w (.tr (.v (.int k a))) (.tr (.v (.int k b))) F = F (iB (decide (a ≤ b))) := by simp [bi2, biv]
theorem r_gti : bi2 .gtr w (.tr (.v (.int k a))) (.tr (.v (.int k b))) F = F (iB (decide (b < a))) := by simp [bi2, biv]
theorem r_gei : bi2 .geq w (.tr (.v (.int k a))) (.tr (.v (.int k b))) F = F (iB (decide (b ≤ a))) := by simp [bi2, biv]
theorem r_eqb : bi2 .eql 2 (.tr (.v (.bool p))) (.tr (.v (.bool q))) F = F (iB (p == q)) := by simp [bi2, biv]
theorem r_neb : bi2 .neq 2 (.tr (.v (.bool p))) (.tr (.v (.bool q))) F = F (iB (p != q)) := by simp [bi2, biv]
theorem r_eqn : bi2 .eql 3 (.tr (.v .nilIface)) (.tr (.v .nilIface)) F = F (iB true) := by simp [bi2, biv]
theorem r_nen : bi2 .neq 3 (.tr (.v .nilIface)) (.tr (.v .nilIface)) F = F (iB false) := by simp [bi2, biv]
theorem r_eqe : bi2 .eql 3 .er (.tr (.v .nilIface)) F = F (iB false) := by simp [bi2]
theorem r_nee : bi2 .neq 3 .er (.tr (.v .nilIface)) F = F (iB true) := by simp [bi2]
theorem r_adds : bi2 .add w (.tr (.v (.string s))) (.tr (.v (.string t))) F = (s.size + t.size ≤ bigN ∧ F (.tr (.v (.string (s ++ t))))) := by simp [bi2, biv]
theorem r_eqs : bi2 .eql w (.tr (.v (.string s))) (.tr (.v (.string t))) F = F (iB (decide (s = t))) := by simp [bi2, biv]
theorem r_nes : bi2 .neq w (.tr (.v (.string s))) (.tr (.v (.string t))) F = F (iB (decide (s ≠ t))) := by simp [bi2, biv]
theorem r_lts : bi2 .lss w (.tr (.v (.string s))) (.tr (.v (.string t))) F = F (iB (Op.bytesLess s.data.toList t.data.toList)) := by simp [bi2, biv]
theorem r_gts : bi2 .gtr w (.tr (.v (.string s))) (.tr (.v (.string t))) F = F (iB (!(Op.bytesLess s.data.toList t.data.toList || decide (s = t)))) := by simp [bi2, biv]
theorem r_les : bi2 .leq w (.tr (.v (.string s))) (.tr (.v (.string t))) F = F (iB (Op.bytesLess s.data.toList t.data.toList || decide (s = t))) := by simp [bi2, biv]
theorem r_ges : bi2 .geq w (.tr (.v (.string s))) (.tr (.v (.string t))) F = F (iB (!Op.bytesLess s.data.toList t.data.toList)) := by simp [bi2, biv]
end bi

def eq2 (ks : List Nat) (x y : IV) (neg : Bool) (F : IV → Prop) : Prop :=
  match x, y with
  | .ag l, .ag m => eqvs ks l m fun b => F (iB (if neg then !b else b))
  | _, _ => False
theorem r_qa {neg : Bool} {ks : List Nat} {x y : X} : op2 C d (.qa neg ks x y) ⟨lvl, env, loc, out⟩ K = eq2 ks (xv env x) (xv env y) neg (go1 lvl env loc out d K) := by
  exact op2_gen rfl fun Kd => rfl
def nt2 (x : IV) (F : IV → Prop) : Prop :=
  match x with
  | .tr (.v (.bool b)) => F (iB (!b))
  | _ => False
theorem r_nt {x : X} : op2 C d (.nt x) ⟨lvl, env, loc, out⟩ K = nt2 (xv env x) (go1 lvl env loc out d K) := op2_gen rfl fun _ => rfl
theorem r_nt1 {b : Bool} {F : IV → Prop} : nt2 (.tr (.v (.bool b))) F = F (iB (!b)) := (rfl)
def ng2 (x : IV) (F : IV → Prop) : Prop :=
  match x with
  | .tr (.v (.int k n)) => fits k (-n) ∧ F (.tr (.v (.int k (-n))))
  | _ => False
theorem r_ng {x : X} : op2 C d (.ng x) ⟨lvl, env, loc, out⟩ K = ng2 (xv env x) (go1 lvl env loc out d K) := op2_gen rfl fun _ => rfl
theorem r_ng1 {k : IntKind} {n : Int} {F : IV → Prop} : ng2 (.tr (.v (.int k n))) F = (fits k (-n) ∧ F (.tr (.v (.int k (-n))))) := (rfl)
def cv2 (c : Cv) (x : IV) (F : IV → Prop) : Prop :=
  match c, x with
  | .int k, .tr (.v (.int _ n)) => fits k n ∧ F (.tr (.v (.int k n)))
  | .wrap k, .tr (.v (.int _ n)) => F (.tr (.v (.int k (k.wrap n))))
  | .str, .tr (.v (.string s)) => F (iS s)
  | .rune, .tr (.v (.int _ n)) => 0 ≤ n ∧ n < 128 ∧ F (iS ⟨#[n.toNat.toUInt8]⟩)
  | _, _ => False
theorem r_cv {c : Cv} {x : X} : op2 C d (.cv c x) ⟨lvl, env, loc, out⟩ K = cv2 c (xv env x) (go1 lvl env loc out d K) := op2_gen rfl fun _ => rfl
theorem r_cv1 {k j : IntKind} {n : Int} {F : IV → Prop} : cv2 (.int k) (.tr (.v (.int j n))) F = (fits k n ∧ F (.tr (.v (.int k n)))) := (rfl)
theorem r_cv2 {k j : IntKind} {n : Int} {F : IV → Prop} : cv2 (.wrap k) (.tr (.v (.int j n))) F = F (.tr (.v (.int k (k.wrap n)))) := (rfl)
theorem r_cv3 {s : ByteArray} {F : IV → Prop} : cv2 .str (.tr (.v (.string s))) F = F (iS s) := (rfl)
theorem r_cv4 {j : IntKind} {n : Int} {F : IV → Prop} : cv2 .rune (.tr (.v (.int j n))) F = (0 ≤ n ∧ n < 128 ∧ F (iS ⟨#[n.toNat.toUInt8]⟩)) := (rfl)
def mf2 (f : Nat) (cs : List IV) (F : IV → Prop) : Prop := (cs.all isCell) = true ∧ F (.fn f cs)
theorem r_mf {f : Nat} {cs : List X} : op2 C d (.mf f cs) ⟨lvl, env, loc, out⟩ K = mf2 f (cs.map (xv env)) (go1 lvl env loc out d K) := op2_gen rfl fun _ => rfl
theorem r_mf1 {f : Nat} {cs : List IV} {F : IV → Prop} : mf2 f cs F = ((cs.all isCell) = true ∧ F (.fn f cs)) := (rfl)
def ln2 (x : IV) (F : IV → Prop) : Prop :=
  match x with
  | .tr (.sl es) => F (iI es.length)
  | .cs es => F (iI es.length)
  | .hd _ _ _ len _ _ => F (iI len)
  | _ => False
theorem r_ln {x : X} : op2 C d (.ln x) ⟨lvl, env, loc, out⟩ K = ln2 (xv env x) (go1 lvl env loc out d K) := op2_gen rfl fun _ => rfl
theorem r_ln1 {es : Row} {F : IV → Prop} : ln2 (.tr (.sl es)) F = F (iI es.length) := (rfl)
theorem r_ln2 {es : Row} {F : IV → Prop} : ln2 (.cs es) F = F (iI es.length) := (rfl)
theorem r_ln3 {id : Oid} {p : Pth} {off len s : Nat} {cap : Option Nat} {F : IV → Prop} : ln2 (.hd id p off len cap s) F = F (iI len) := (rfl)
def lg2 (x : IV) (F : IV → Prop) : Prop :=
  match x with
  | .tr (.v (.string s)) => F (iI s.size)
  | _ => False
theorem r_lg {x : X} : op2 C d (.lg x) ⟨lvl, env, loc, out⟩ K = lg2 (xv env x) (go1 lvl env loc out d K) := op2_gen rfl fun _ => rfl
theorem r_lg1 {s : ByteArray} {F : IV → Prop} : lg2 (.tr (.v (.string s))) F = F (iI s.size) := (rfl)
theorem r_la {n : Nat} : op2 C d (.la n) ⟨lvl, env, loc, out⟩ K = K ⟨lvl, ptd d (iI n) env, loc, out⟩ := op2_pure rfl fun _ => rfl
def mm2 (mx : Bool) (x y : IV) (F : IV → Prop) : Prop :=
  match x, y with
  | .tr (.v (.int k a)), .tr (.v (.int j b)) => k = j ∧ F (.tr (.v (.int k (if mx then max a b else min a b))))
  | _, _ => False
theorem r_mm {mx : Bool} {x y : X} : op2 C d (.mm mx x y) ⟨lvl, env, loc, out⟩ K = mm2 mx (xv env x) (xv env y) (go1 lvl env loc out d K) := op2_gen rfl fun _ => rfl
theorem r_mm1 {k : IntKind} {a b : Int} {F : IV → Prop} : mm2 true (.tr (.v (.int k a))) (.tr (.v (.int k b))) F = F (.tr (.v (.int k (max a b)))) := by simp [mm2]
theorem r_mm2 {k : IntKind} {a b : Int} {F : IV → Prop} : mm2 false (.tr (.v (.int k a))) (.tr (.v (.int k b))) F = F (.tr (.v (.int k (min a b)))) := by simp [mm2]
def pk2 (c a b : IV) (F : IV → Prop) : Prop :=
  match c with
  | .tr (.v (.bool t)) => F (if t then a else b)
  | _ => False
theorem r_pk {c a b : X} : op2 C d (.pk c a b) ⟨lvl, env, loc, out⟩ K = pk2 (xv env c) (xv env a) (xv env b) (go1 lvl env loc out d K) := op2_gen rfl fun _ => rfl
theorem r_pkt {a b : IV} {F : IV → Prop} : pk2 (.tr (.v (.bool true))) a b F = F a := (rfl)
theorem r_pkf {a b : IV} {F : IV → Prop} : pk2 (.tr (.v (.bool false))) a b F = F b := (rfl)
def op3 {α : Type} (x : Option α) (F : α → Prop) : Prop :=
  match x with
  | some a => F a
  | none => False
theorem r_op3 {α : Type} {a : α} {F : α → Prop} : op3 (some a) F = F a := (rfl)
theorem op3_ex {α : Type} {x : Option α} {F : α → Prop} : (∃ a, x = some a ∧ F a) = op3 x F := by cases x <;> simp [op3]
def ex2 (x : IV) (i : Nat) (F : IV → Prop) : Prop :=
  match x with
  | .tu l => op3 l[i]? F
  | _ => False
theorem r_xt {i : Nat} {x : X} : op2 C d (.ex i x) ⟨lvl, env, loc, out⟩ K = ex2 (xv env x) i (go1 lvl env loc out d K) := by
  refine op2_gen (o := .ex i x) (T := fun F => ex2 (xv env x) i F) rfl (fun Kd => ?_)
  simp only [ev, ex2]
  generalize xv env x = v
  cases v <;> try rfl
  exact op3_ex
theorem r_xt1 {i : Nat} {l : List IV} {F : IV → Prop} : ex2 (.tu l) i F = op3 l[i]? F := (rfl)
def nc2 (x : IV) (F : IV → Prop) : Prop :=
  match x with
  | .ta cells => F (.ta cells)
  | .ab id o => F (.ab id o)
  | .ae id p i f st => F (.ae id p i f st)
  | _ => False
theorem r_nc {x : X} : op2 C d (.nc x) ⟨lvl, env, loc, out⟩ K = nc2 (xv env x) (go1 lvl env loc out d K) := op2_gen rfl fun _ => rfl
theorem r_nc1 {cells : List Tr} {F : IV → Prop} : nc2 (.ta cells) F = F (.ta cells) := (rfl)
theorem r_nc2 {id : Oid} {o : Nat} {F : IV → Prop} : nc2 (.ab id o) F = F (.ab id o) := (rfl)
theorem r_nc3 {id : Oid} {p : Pth} {i f s : Nat} {F : IV → Prop} : nc2 (.ae id p i f s) F = F (.ae id p i f s) := (rfl)

def fa2 (off : Nat) (x : IV) (F : IV → Prop) : Prop :=
  match x with
  | .ta cells => F (.ta (cells.drop off))
  | .ab id o => F (.ab id (o + off))
  | .ae id p i f st => F (.ae id p i (f + off) st)
  | _ => False
theorem r_fa {off : Nat} {x : X} : op2 C d (.fa off x) ⟨lvl, env, loc, out⟩ K = fa2 off (xv env x) (go1 lvl env loc out d K) := op2_gen rfl fun _ => rfl
theorem r_fa1 {off : Nat} {cells : List Tr} {F : IV → Prop} : fa2 off (.ta cells) F = F (.ta (cells.drop off)) := (rfl)
theorem r_fa2 {off : Nat} {id : Oid} {o : Nat} {F : IV → Prop} : fa2 off (.ab id o) F = F (.ab id (o + off)) := (rfl)
theorem r_fa3 {off : Nat} {id : Oid} {p : Pth} {i f s : Nat} {F : IV → Prop} : fa2 off (.ae id p i f s) F = F (.ae id p i (f + off) s) := (rfl)
def fd2 (off : Nat) (m : Option Nat) (x : IV) (F : IV → Prop) : Prop :=
  match m, x with
  | none, .ag l => op3 l[off]? F
  | some m, .ag l => off + m ≤ l.length ∧ F (.ag ((l.drop off).take m))
  | _, _ => False
theorem r_fd {off : Nat} {m : Option Nat} {x : X} : op2 C d (.fd off m x) ⟨lvl, env, loc, out⟩ K = fd2 off m (xv env x) (go1 lvl env loc out d K) := by
  refine op2_gen (o := .fd off m x) (T := fun F => fd2 off m (xv env x) F) rfl (fun Kd => ?_)
  cases m <;> simp only [ev, fd2] <;> generalize xv env x = v <;> cases v <;> try rfl
  exact op3_ex
theorem r_fd1 {off : Nat} {l : List IV} {F : IV → Prop} : fd2 off none (.ag l) F = op3 l[off]? F := (rfl)
theorem r_fd2 {off m : Nat} {l : List IV} {F : IV → Prop} : fd2 off (some m) (.ag l) F = (off + m ≤ l.length ∧ F (.ag ((l.drop off).take m))) := (rfl)
def ixn (i : IV) (F : Nat → Prop) : Prop :=
  match i with
  | .tr (.v (.int _ n)) => 0 ≤ n ∧ F n.toNat
  | _ => False
theorem r_ixn {k : IntKind} {n : Int} {F : Nat → Prop} : ixn (.tr (.v (.int k n))) F = (0 ≤ n ∧ F n.toNat) := (rfl)
def ia2 (L : Sto) (k : Nat) (x : IV) (F : IV → Prop) (n : Nat) : Prop :=
  match x with
  | .tr (.sl es) => op3 es[n]? fun e => e.length = k ∧ F (.ta e)
  | .cs es => op3 es[n]? fun e => e.length = k ∧ F (.ta e)
  | .hd id p off len _ st => rdh L id p st fun es _ _ => n < len ∧ op3 es[off + n]? fun e => e.length = k ∧ F (.ae id p (off + n) 0 st)
  | _ => False
theorem r_ia {k : Nat} {x i : X} : op2 C d (.ia k x i) ⟨lvl, env, loc, out⟩ K = ixn (xv env i) (ia2 (packS lvl loc out) k (xv env x) (go1 lvl env loc out d K)) := by
  refine op2_gen (o := .ia k x i) (T := fun F => ixn (xv env i) (ia2 (packS lvl loc out) k (xv env x) F)) rfl (fun Kd => ?_)
  simp only [ev]
  generalize xv env i = vi
  cases vi <;> try rfl
  rename_i t
  cases t <;> try rfl
  rename_i y
  cases y <;> try rfl
  rename_i kk n
  simp only [ixn, ia2]
  generalize xv env x = v
  cases v <;> try rfl
  · rename_i t
    cases t <;> try rfl
    dsimp only
    rw [op3_ex]
  · dsimp only
    rw [op3_ex]
  · dsimp only
    simp only [op3_ex]
def iae (k : Nat) (F : IV → Prop) (e : List Tr) : Prop := e.length = k ∧ F (.ta e)
theorem r_iae {k : Nat} {F : IV → Prop} {e : List Tr} : iae k F e = (e.length = k ∧ F (.ta e)) := (rfl)
theorem r_ia1 {L : Sto} {k n : Nat} {es : Row} {F : IV → Prop} : ia2 L k (.tr (.sl es)) F n = op3 es[n]? (iae k F) := (rfl)
theorem r_ia2 {L : Sto} {k n : Nat} {es : Row} {F : IV → Prop} : ia2 L k (.cs es) F n = op3 es[n]? (iae k F) := (rfl)
def rd3 (o : Option Ob) (p : Pth) (st : Nat) (F : Row → Bool → Nat → Prop) : Prop :=
  match o with
  | some (.ar _ es u hw ver) => stamp p st hw ver u ∧ op3 (getp es p) fun es' => F es' u ver
  | _ => False
theorem rdh_rd3 {L : Sto} {id : Oid} {p : Pth} {st : Nat} {F : Row → Bool → Nat → Prop} : rdh L id p st F = rd3 (L id) p st F := by
  unfold rdh rd3
  generalize L id = o
  cases o with
  | none => rfl
  | some ob =>
    cases ob with
    | bx => rfl
    | ar k es u hw ver =>
      dsimp only
      rw [← op3_ex]
      apply propext
      constructor
      · rintro ⟨es', h1, h2, h3⟩; exact ⟨h2, es', h1, h3⟩
      · rintro ⟨h2, es', h1, h3⟩; exact ⟨es', h1, h2, h3⟩
def rde (u : Bool) (ver : Nat) (F : Row → Bool → Nat → Prop) (es : Row) : Prop := F es u ver
theorem r_rde {u : Bool} {ver : Nat} {F : Row → Bool → Nat → Prop} {es : Row} : rde u ver F es = F es u ver := (rfl)
theorem r_rd3 {k : Nat} {es : Row} {u : Bool} {hw ver : Nat} {p : Pth} {st : Nat} {F : Row → Bool → Nat → Prop} : rd3 (some (.ar k es u hw ver)) p st F = (stamp p st hw ver u ∧ op3 (getp es p) (rde u ver F)) := (rfl)
theorem r_stamp0 {st hw ver : Nat} {u : Bool} : stamp [] st hw ver u = (st = hw) := (rfl)
theorem r_stamp1 {a : Nat × Nat} {p : Pth} {st hw ver : Nat} {u : Bool} : stamp (a :: p) st hw ver u = (u = true ∧ st = ver) := (rfl)
def iah (id : Oid) (p : Pth) (off len st k n : Nat) (F : IV → Prop) (es : Row) (_u : Bool) (_v : Nat) : Prop := n < len ∧ op3 es[off + n]? fun e => e.length = k ∧ F (.ae id p (off + n) 0 st)
def iah2 (id : Oid) (p : Pth) (off st k n : Nat) (F : IV → Prop) (e : List Tr) : Prop := e.length = k ∧ F (.ae id p (off + n) 0 st)
theorem r_iah {id : Oid} {p : Pth} {off len st k n : Nat} {F : IV → Prop} {es : Row} {u : Bool} {v : Nat} : iah id p off len st k n F es u v = (n < len ∧ op3 es[off + n]? (iah2 id p off st k n F)) := (rfl)
theorem r_iah2 {id : Oid} {p : Pth} {off st k n : Nat} {F : IV → Prop} {e : List Tr} : iah2 id p off st k n F e = (e.length = k ∧ F (.ae id p (off + n) 0 st)) := (rfl)
theorem r_ia3 {L : Sto} {k n : Nat} {id : Oid} {p : Pth} {off len st : Nat} {cap : Option Nat} {F : IV → Prop} : ia2 L k (.hd id p off len cap st) F n = rd3 (L id) p st (iah id p off len st k n F) := rdh_rd3
def ja2 (k m : Nat) (x : IV) (F : IV → Prop) (n : Nat) : Prop :=
  n < m ∧
  match x with
  | .ta cells => F (.ta (cells.drop (n * k)))
  | .ab id o => F (.ab id (o + n * k))
  | .ae id p i f st => F (.ae id p i (f + n * k) st)
  | _ => False
theorem r_ja {k m : Nat} {x i : X} : op2 C d (.ja k m x i) ⟨lvl, env, loc, out⟩ K = ixn (xv env i) (ja2 k m (xv env x) (go1 lvl env loc out d K)) := by
  refine op2_gen (o := .ja k m x i) (T := fun F => ixn (xv env i) (ja2 k m (xv env x) F)) rfl (fun Kd => ?_)
  simp only [ev]
  generalize xv env i = vi
  cases vi <;> rfl
theorem r_ja1 {k m n : Nat} {cells : List Tr} {F : IV → Prop} : ja2 k m (.ta cells) F n = (n < m ∧ F (.ta (cells.drop (n * k)))) := (rfl)
theorem r_ja2 {k m n : Nat} {id : Oid} {o : Nat} {F : IV → Prop} : ja2 k m (.ab id o) F n = (n < m ∧ F (.ab id (o + n * k))) := (rfl)
theorem r_ja3 {k m n : Nat} {id : Oid} {p : Pth} {i f s : Nat} {F : IV → Prop} : ja2 k m (.ae id p i f s) F n = (n < m ∧ F (.ae id p i (f + n * k) s)) := (rfl)
def ixs (x : IV) (F : IV → Prop) (n : Nat) : Prop :=
  match x with
  | .tr (.v (.string s)) => op3 s.data.toList[n]? fun b => F (.tr (.v (.int .u8 b.toNat)))
  | _ => False
def ixb (F : IV → Prop) (b : UInt8) : Prop := F (.tr (.v (.int .u8 b.toNat)))
theorem r_ixb {F : IV → Prop} {b : UInt8} : ixb F b = F (.tr (.v (.int .u8 b.toNat))) := (rfl)
theorem r_ix {x i : X} : op2 C d (.ix x i) ⟨lvl, env, loc, out⟩ K = ixn (xv env i) (ixs (xv env x) (go1 lvl env loc out d K)) := by
  refine op2_gen (o := .ix x i) (T := fun F => ixn (xv env i) (ixs (xv env x) F)) rfl (fun Kd => ?_)
  simp only [ev]
  generalize xv env i = vi
  generalize xv env x = v
  cases vi with
  | tr t =>
    cases t with
    | v y =>
      cases y with
      | int kk n =>
        cases v with
        | tr t =>
          cases t with
          | v z => cases z <;> simp only [ixn, ixs, and_false] <;> rw [op3_ex]
          | sl => simp only [ixn, ixs, and_false]
        | _ => simp only [ixn, ixs, and_false]
      | _ => cases v <;> try rfl
             rename_i t
             cases t <;> try rfl
             rename_i z
             cases z <;> rfl
    | sl es => cases v <;> try rfl
               rename_i t
               cases t <;> try rfl
               rename_i z
               cases z <;> rfl
  | _ => cases v <;> try rfl
         rename_i t
         cases t <;> try rfl
         rename_i z
         cases z <;> rfl
theorem r_ix1 {s : ByteArray} {F : IV → Prop} {n : Nat} : ixs (.tr (.v (.string s))) F n = op3 s.data.toList[n]? (ixb F) := (rfl)
def jx2 (k m : Nat) (q : Option Nat) (x : IV) (F : IV → Prop) (n : Nat) : Prop :=
  match q, x with
  | none, .ag l => n < m ∧ op3 l[n * k]? F
  | some q, .ag l => n < m ∧ n * k + q ≤ l.length ∧ F (.ag ((l.drop (n * k)).take q))
  | _, _ => False
theorem r_jx {k m : Nat} {q : Option Nat} {x i : X} : op2 C d (.jx k m q x i) ⟨lvl, env, loc, out⟩ K = ixn (xv env i) (jx2 k m q (xv env x) (go1 lvl env loc out d K)) := by
  refine op2_gen (o := .jx k m q x i) (T := fun F => ixn (xv env i) (jx2 k m q (xv env x) F)) rfl (fun Kd => ?_)
  cases q <;> simp only [ev] <;> generalize xv env i = vi <;> generalize xv env x = v
  · cases vi with
    | tr t =>
      cases t with
      | v y =>
        cases y with
        | int kk n => cases v <;> simp only [ixn, jx2, and_false] <;> rw [op3_ex]
        | _ => cases v <;> rfl
      | sl es => cases v <;> rfl
    | _ => cases v <;> rfl
  · cases vi with
    | tr t =>
      cases t with
      | v y =>
        cases y with
        | int kk n => cases v <;> simp only [ixn, jx2, and_false]
        | _ => cases v <;> rfl
      | sl es => cases v <;> rfl
    | _ => cases v <;> rfl
theorem r_jx1 {k m n : Nat} {l : List IV} {F : IV → Prop} : jx2 k m none (.ag l) F n = (n < m ∧ op3 l[n * k]? F) := (rfl)
theorem r_jx2 {k m n q : Nat} {l : List IV} {F : IV → Prop} : jx2 k m (some q) (.ag l) F n = (n < m ∧ n * k + q ≤ l.length ∧ F (.ag ((l.drop (n * k)).take q))) := (rfl)
end
end Go.Fd

namespace Go.Fd

section
variable {C : Contract} {lvl : Nat} {env : List (Nat × IV)} {loc : List (Nat × Ob)} {out : Sto} {d : Option Nat} {K : St → Prop} {st : St} {Q : Ex → St → Prop} {F : IV → Prop}

theorem r_pack {k : Nat} : packS lvl loc out (lvl, k) = lkO k loc := by unfold packS; rw [if_pos rfl]
theorem r_packo {id : Oid} (h : id.1 ≠ lvl) : packS lvl loc out id = out id := by unfold packS; rw [if_neg h]
theorem r_setOb {k : Nat} {ob : Ob} : setOb ⟨lvl, env, loc, out⟩ (lvl, k) ob = ⟨lvl, env, ptO k ob loc, out⟩ := by unfold setOb; rw [if_pos rfl]
theorem r_setObo {id : Oid} {ob : Ob} (h : id.1 ≠ lvl) : setOb ⟨lvl, env, loc, out⟩ id ob = ⟨lvl, env, loc, sset out id ob⟩ := by unfold setOb; rw [if_neg h]
theorem r_kill {id : Oid} : kill id ⟨lvl, env, loc, out⟩ = ⟨lvl, scrE id env, scrL id (rmO id.2 loc), out⟩ := (rfl)
theorem r_sto : (⟨lvl, env, loc, out⟩ : St).sto = packS lvl loc out := (rfl)
theorem r_sset {id : Oid} {ob : Ob} {S : Sto} : sset S id ob id = some ob := by unfold sset; rw [if_pos rfl]

def ltr (F : IV → Prop) (t : Tr) : Prop := F (.tr t)
theorem r_ltr {t : Tr} : ltr F t = F (.tr t) := (rfl)
def lab (o : Option Ob) (off : Nat) (F : IV → Prop) : Prop :=
  match o with
  | some (.bx cells) => op3 cells[off]? F
  | _ => False
theorem r_lab {cells : List IV} {off : Nat} : lab (some (.bx cells)) off F = op3 cells[off]? F := (rfl)
def lae (id : Oid) (p : Pth) (i f : Nat) (F : IV → Prop) (es : Row) (u : Bool) (ver : Nat) : Prop := op3 es[i]? fun e => op3 e[f]? fun t => F (cvt id p i f u ver t)
def lae2 (id : Oid) (p : Pth) (i f : Nat) (F : IV → Prop) (u : Bool) (ver : Nat) (e : List Tr) : Prop := op3 e[f]? fun t => F (cvt id p i f u ver t)
def lae3 (id : Oid) (p : Pth) (i f : Nat) (F : IV → Prop) (u : Bool) (ver : Nat) (t : Tr) : Prop := F (cvt id p i f u ver t)
theorem r_lae {id : Oid} {p : Pth} {i f : Nat} {es : Row} {u : Bool} {ver : Nat} : lae id p i f F es u ver = op3 es[i]? (lae2 id p i f F u ver) := (rfl)
theorem r_lae2 {id : Oid} {p : Pth} {i f : Nat} {e : List Tr} {u : Bool} {ver : Nat} : lae2 id p i f F u ver e = op3 e[f]? (lae3 id p i f F u ver) := (rfl)
theorem r_lae3 {id : Oid} {p : Pth} {i f : Nat} {t : Tr} {u : Bool} {ver : Nat} : lae3 id p i f F u ver t = F (cvt id p i f u ver t) := (rfl)
def lmae (id : Oid) (p : Pth) (i f m : Nat) (F : IV → Prop) (es : Row) (u : Bool) (ver : Nat) : Prop := op3 es[i]? fun e => f + m ≤ e.length ∧ F (.ag (cvts id p i u ver f ((e.drop f).take m)))
def lmae2 (id : Oid) (p : Pth) (i f m : Nat) (F : IV → Prop) (u : Bool) (ver : Nat) (e : List Tr) : Prop := f + m ≤ e.length ∧ F (.ag (cvts id p i u ver f ((e.drop f).take m)))
theorem r_lmae {id : Oid} {p : Pth} {i f m : Nat} {es : Row} {u : Bool} {ver : Nat} : lmae id p i f m F es u ver = op3 es[i]? (lmae2 id p i f m F u ver) := (rfl)
theorem r_lmae2 {id : Oid} {p : Pth} {i f m : Nat} {e : List Tr} {u : Bool} {ver : Nat} : lmae2 id p i f m F u ver e = (f + m ≤ e.length ∧ F (.ag (cvts id p i u ver f ((e.drop f).take m)))) := (rfl)
def ld2 (L : Sto) (m : Option Nat) (x : IV) (F : IV → Prop) : Prop :=
  match m, x with
  | none, .ta cells => op3 cells[0]? (ltr F)
  | none, .ab id off => lab (L id) off F
  | none, .ae id p i f st => rd3 (L id) p st (lae id p i f F)
  | some m, .ta cells => m ≤ cells.length ∧ F (.ag ((cells.take m).map .tr))
  | some m, .ab id off =>
    match L id with
    | some (.bx cells) => off + m ≤ cells.length ∧ F (.ag ((cells.drop off).take m))
    | _ => False
  | some m, .ae id p i f st => rd3 (L id) p st (lmae id p i f m F)
  | _, _ => False
theorem r_ld {m : Option Nat} {p : X} : op2 C d (.ld m p) ⟨lvl, env, loc, out⟩ K = ld2 (packS lvl loc out) m (xv env p) (go1 lvl env loc out d K) := by
  refine op2_gen (o := .ld m p) (T := fun F => ld2 (packS lvl loc out) m (xv env p) F) (by cases m <;> rfl) (fun Kd => ?_)
  cases m with
  | none =>
    simp only [ev]
    generalize xv env p = v
    cases v <;> try rfl
    · dsimp only [ld2, lab]
      rename_i id off
      generalize packS lvl loc out id = o
      cases o with
      | none => rfl
      | some ob =>
        cases ob with
        | bx => exact op3_ex
        | ar => rfl
    · dsimp only [ld2]
      rw [← rdh_rd3]
      congr 1
      funext es u ver
      simp only [lae, ← op3_ex]
    · exact op3_ex
  | some m =>
    simp only [ev]
    generalize xv env p = v
    cases v <;> try rfl
    dsimp only [ld2]
    rw [← rdh_rd3]
    congr 1
    funext es u ver
    simp only [lmae, ← op3_ex]
theorem r_ld1 {L : Sto} {cells : List Tr} : ld2 L none (.ta cells) F = op3 cells[0]? (ltr F) := (rfl)
theorem r_ld2 {L : Sto} {id : Oid} {off : Nat} : ld2 L none (.ab id off) F = lab (L id) off F := (rfl)
theorem r_ld3 {L : Sto} {id : Oid} {p : Pth} {i f s : Nat} : ld2 L none (.ae id p i f s) F = rd3 (L id) p s (lae id p i f F) := (rfl)
theorem r_ld4 {L : Sto} {m : Nat} {cells : List Tr} : ld2 L (some m) (.ta cells) F = (m ≤ cells.length ∧ F (.ag ((cells.take m).map .tr))) := (rfl)
def labm (o : Option Ob) (off m : Nat) (F : IV → Prop) : Prop :=
  match o with
  | some (.bx cells) => off + m ≤ cells.length ∧ F (.ag ((cells.drop off).take m))
  | _ => False
theorem r_labm {cells : List IV} {off m : Nat} : labm (some (.bx cells)) off m F = (off + m ≤ cells.length ∧ F (.ag ((cells.drop off).take m))) := (rfl)
theorem r_ld5 {L : Sto} {m : Nat} {id : Oid} {off : Nat} : ld2 L (some m) (.ab id off) F = labm (L id) off m F := (rfl)
theorem r_ld6 {L : Sto} {m : Nat} {id : Oid} {p : Pth} {i f s : Nat} : ld2 L (some m) (.ae id p i f s) F = rd3 (L id) p s (lmae id p i f m F) := (rfl)

def bn (x : Option IV) (n : Nat) (F : Nat → Prop) : Prop :=
  match x with
  | none => F n
  | some (.tr (.v (.int _ m))) => 0 ≤ m ∧ F m.toNat
  | _ => False
theorem r_bn0 {n : Nat} {F : Nat → Prop} : bn none n F = F n := (rfl)
theorem r_bn1 {n : Nat} {k : IntKind} {m : Int} {F : Nat → Prop} : bn (some (.tr (.v (.int k m)))) n F = (0 ≤ m ∧ F m.toNat) := (rfl)
theorem bndI_bn {ρ : X → IV} {x : Option X} {n : Nat} {F : Nat → Prop} : bndI ρ x n F = bn (x.map ρ) n F := by
  cases x with
  | none => rfl
  | some x =>
    simp only [bndI, bn, Option.map_some]
    generalize ρ x = v
    cases v <;> try rfl
    rename_i t
    cases t <;> try rfl
    rename_i y
    cases y <;> rfl
def sxt (k : Nat) (es : Row) (los : Bool) (hi mx : Option IV) (q : Bool) (F : IV → Prop) (a : Nat) : Prop := (los = true → UnR k es) ∧ bn hi es.length fun b => a ≤ b ∧ b ≤ es.length ∧ bn mx b fun m => m = b ∧ F (if q then .cs (cut es a (b - a)) else .tr (.sl (cut es a (b - a))))
def sxt2 (es : Row) (mx : Option IV) (q : Bool) (F : IV → Prop) (a b : Nat) : Prop := a ≤ b ∧ b ≤ es.length ∧ bn mx b fun m => m = b ∧ F (if q then .cs (cut es a (b - a)) else .tr (.sl (cut es a (b - a))))
def sxt3 (es : Row) (q : Bool) (F : IV → Prop) (a b m : Nat) : Prop := m = b ∧ F (if q then .cs (cut es a (b - a)) else .tr (.sl (cut es a (b - a))))
theorem r_sxt {k : Nat} {es : Row} {los q : Bool} {hi mx : Option IV} {a : Nat} : sxt k es los hi mx q F a = ((los = true → UnR k es) ∧ bn hi es.length (sxt2 es mx q F a)) := (rfl)
theorem r_sxt2 {es : Row} {q : Bool} {mx : Option IV} {a b : Nat} : sxt2 es mx q F a b = (a ≤ b ∧ b ≤ es.length ∧ bn mx b (sxt3 es q F a b)) := (rfl)
theorem r_sxt3 {es : Row} {q : Bool} {a b m : Nat} : sxt3 es q F a b m = (m = b ∧ F (if q = true then .cs (cut es a (b - a)) else .tr (.sl (cut es a (b - a))))) := (rfl)
def sxh (L : Sto) (k : Nat) (id : Oid) (p : Pth) (off len : Nat) (cap : Option Nat) (s : Nat) (hi mx : Option IV) (F : IV → Prop) (a : Nat) : Prop :=
  bn hi len fun b => a ≤ b ∧ b ≤ len ∧ bn mx b fun m => b ≤ m ∧ m ≤ len ∧ wid L id p k ∧ F (.hd id p (off + a) (b - a) (if mx.isSome then some (m - a) else cap.map (· - a)) s)
def sxh2 (L : Sto) (k : Nat) (id : Oid) (p : Pth) (off len : Nat) (cap : Option Nat) (s : Nat) (mx : Option IV) (F : IV → Prop) (a b : Nat) : Prop :=
  a ≤ b ∧ b ≤ len ∧ bn mx b fun m => b ≤ m ∧ m ≤ len ∧ wid L id p k ∧ F (.hd id p (off + a) (b - a) (if mx.isSome then some (m - a) else cap.map (· - a)) s)
def sxh3 (L : Sto) (k : Nat) (id : Oid) (p : Pth) (off len : Nat) (cap : Option Nat) (s : Nat) (mx : Option IV) (F : IV → Prop) (a b m : Nat) : Prop :=
  b ≤ m ∧ m ≤ len ∧ wid L id p k ∧ F (.hd id p (off + a) (b - a) (if mx.isSome then some (m - a) else cap.map (· - a)) s)
theorem r_sxh {L : Sto} {k : Nat} {id : Oid} {p : Pth} {off len : Nat} {cap : Option Nat} {s : Nat} {hi mx : Option IV} {a : Nat} : sxh L k id p off len cap s hi mx F a = bn hi len (sxh2 L k id p off len cap s mx F a) := (rfl)
theorem r_sxh2 {L : Sto} {k : Nat} {id : Oid} {p : Pth} {off len : Nat} {cap : Option Nat} {s : Nat} {mx : Option IV} {a b : Nat} : sxh2 L k id p off len cap s mx F a b = (a ≤ b ∧ b ≤ len ∧ bn mx b (sxh3 L k id p off len cap s mx F a b)) := (rfl)
theorem r_sxh3 {L : Sto} {k : Nat} {id : Oid} {p : Pth} {off len : Nat} {cap : Option Nat} {s : Nat} {mx : Option IV} {a b m : Nat} : sxh3 L k id p off len cap s mx F a b m = (b ≤ m ∧ m ≤ len ∧ wid L id p k ∧ F (.hd id p (off + a) (b - a) (if mx.isSome then some (m - a) else cap.map (· - a)) s)) := (rfl)
def sx2 (L : Sto) (k : Nat) (x : IV) (lo hi mx : Option IV) (F : IV → Prop) : Prop :=
  match x with
  | .tr (.sl es) => bn lo 0 (sxt k es lo.isSome hi mx mx.isSome F)
  | .cs es => bn lo 0 (sxt k es lo.isSome hi mx (mx.isSome || hi.isNone) F)
  | .hd id p off len cap s => bn lo 0 (sxh L k id p off len cap s hi mx F)
  | _ => False
theorem bn_and {x : Option IV} {n : Nat} {p : Prop} {F : Nat → Prop} : (p ∧ bn x n F) = bn x n fun a => p ∧ F a := by
  apply propext
  cases x with
  | none => rfl
  | some v =>
    cases v <;> try exact ⟨fun h => h.2, fun h => h.elim⟩
    rename_i t
    cases t <;> try exact ⟨fun h => h.2, fun h => h.elim⟩
    rename_i y
    cases y <;> first | exact ⟨fun h => h.2, fun h => h.elim⟩ | exact ⟨fun ⟨h1, h2, h3⟩ => ⟨h2, h1, h3⟩, fun ⟨h1, h2, h3⟩ => ⟨h2, h1, h3⟩⟩
theorem r_sx {k : Nat} {x : X} {lo hi mx : Option X} : op2 C d (.sx k x lo hi mx) ⟨lvl, env, loc, out⟩ K = sx2 (packS lvl loc out) k (xv env x) (lo.map (xv env)) (hi.map (xv env)) (mx.map (xv env)) (go1 lvl env loc out d K) := by
  refine op2_gen (o := .sx k x lo hi mx) (T := fun F => sx2 (packS lvl loc out) k (xv env x) (lo.map (xv env)) (hi.map (xv env)) (mx.map (xv env)) F) rfl (fun Kd => ?_)
  simp only [ev, bndI_bn]
  generalize xv env x = v
  cases v <;> try rfl
  · rename_i t
    cases t <;> try rfl
    dsimp only [sx2, sxt]
    rw [bn_and]
    simp only [Option.isSome_map]
    rfl
  · dsimp only [sx2, sxt]
    rw [bn_and]
    simp only [Option.isSome_map, Option.isNone_map]
    rfl
  · dsimp only [sx2]
    congr 1
    funext a
    unfold sxh
    congr 1
    funext b
    simp only [Option.isSome_map]
theorem r_sx1 {L : Sto} {k : Nat} {es : Row} {lo hi mx : Option IV} : sx2 L k (.tr (.sl es)) lo hi mx F = bn lo 0 (sxt k es lo.isSome hi mx mx.isSome F) := (rfl)
theorem r_sx2 {L : Sto} {k : Nat} {es : Row} {lo hi mx : Option IV} : sx2 L k (.cs es) lo hi mx F = bn lo 0 (sxt k es lo.isSome hi mx (mx.isSome || hi.isNone) F) := (rfl)
theorem r_sx3 {L : Sto} {k : Nat} {id : Oid} {p : Pth} {off len : Nat} {cap : Option Nat} {s : Nat} {lo hi mx : Option IV} : sx2 L k (.hd id p off len cap s) lo hi mx F = bn lo 0 (sxh L k id p off len cap s hi mx F) := (rfl)
def sst (s : ByteArray) (hi : Option IV) (F : IV → Prop) (a : Nat) : Prop := bn hi s.size fun b => a ≤ b ∧ b ≤ s.size ∧ F (iS (s.extract a b))
def sst2 (s : ByteArray) (F : IV → Prop) (a b : Nat) : Prop := a ≤ b ∧ b ≤ s.size ∧ F (iS (s.extract a b))
theorem r_sst {s : ByteArray} {hi : Option IV} {a : Nat} : sst s hi F a = bn hi s.size (sst2 s F a) := (rfl)
theorem r_sst2 {s : ByteArray} {a b : Nat} : sst2 s F a b = (a ≤ b ∧ b ≤ s.size ∧ F (iS (s.extract a b))) := (rfl)
def ss2 (x : IV) (lo hi : Option IV) (F : IV → Prop) : Prop :=
  match x with
  | .tr (.v (.string s)) => bn lo 0 (sst s hi F)
  | _ => False
theorem r_ss {x : X} {lo hi : Option X} : op2 C d (.ss x lo hi) ⟨lvl, env, loc, out⟩ K = ss2 (xv env x) (lo.map (xv env)) (hi.map (xv env)) (go1 lvl env loc out d K) := by
  refine op2_gen (o := .ss x lo hi) (T := fun F => ss2 (xv env x) (lo.map (xv env)) (hi.map (xv env)) F) rfl (fun Kd => ?_)
  simp only [ev, bndI_bn]
  rfl
theorem r_ss1 {s : ByteArray} {lo hi : Option IV} : ss2 (.tr (.v (.string s))) lo hi F = bn lo 0 (sst s hi F) := (rfl)
def sa2 (n : Nat) (x : IV) (F : IV → Prop) : Prop :=
  match x with
  | .ta cells => n ≤ cells.length ∧ F (.cs ((cells.take n).map fun c => [c]))
  | _ => False
theorem r_sa {n : Nat} {x : X} : op2 C d (.sa n x) ⟨lvl, env, loc, out⟩ K = sa2 n (xv env x) (go1 lvl env loc out d K) := op2_gen rfl fun _ => rfl
theorem r_sa1 {n : Nat} {cells : List Tr} : sa2 n (.ta cells) F = (n ≤ cells.length ∧ F (.cs ((cells.take n).map fun c => [c]))) := (rfl)
def sby (F : IV → Prop) (l : List UInt8) : Prop := F (iS ⟨l.toArray⟩)
theorem r_sby {l : List UInt8} : sby F l = F (iS ⟨l.toArray⟩) := (rfl)
def sbh (off len : Nat) (F : IV → Prop) (es : Row) (_u : Bool) (_v : Nat) : Prop := off + len ≤ es.length ∧ op3 (byR (cut es off len)) (sby F)
theorem r_sbh {off len : Nat} {es : Row} {u : Bool} {v : Nat} : sbh off len F es u v = (off + len ≤ es.length ∧ op3 (byR (cut es off len)) (sby F)) := (rfl)
def sb2 (L : Sto) (x : IV) (F : IV → Prop) : Prop :=
  match x with
  | .tr (.sl es) => op3 (byR es) (sby F)
  | .cs es => op3 (byR es) (sby F)
  | .hd id p off len _ st => rd3 (L id) p st (sbh off len F)
  | _ => False
theorem r_sb {x : X} : op2 C d (.sb x) ⟨lvl, env, loc, out⟩ K = sb2 (packS lvl loc out) (xv env x) (go1 lvl env loc out d K) := by
  refine op2_gen (o := .sb x) (T := fun F => sb2 (packS lvl loc out) (xv env x) F) rfl (fun Kd => ?_)
  simp only [ev]
  generalize xv env x = v
  cases v <;> try rfl
  · rename_i t
    cases t <;> try rfl
    exact op3_ex
  · exact op3_ex
  · dsimp only [sb2]
    rw [← rdh_rd3]
    congr 1
    funext es u ver
    simp only [sbh, ← op3_ex]
    rfl
theorem r_sb1 {L : Sto} {es : Row} : sb2 L (.tr (.sl es)) F = op3 (byR es) (sby F) := (rfl)
theorem r_sb2 {L : Sto} {es : Row} : sb2 L (.cs es) F = op3 (byR es) (sby F) := (rfl)
theorem r_sb3 {L : Sto} {id : Oid} {p : Pth} {off len s : Nat} {cap : Option Nat} : sb2 L (.hd id p off len cap s) F = rd3 (L id) p s (sbh off len F) := (rfl)

theorem op2_loud {o : O} (h : loud o = true) : op2 C d o st K = ew C d st K o := by unfold op2; rw [if_pos h]

def kcn (x : IV) (F : List IV → Prop) (l : List IV) : Prop := F (x :: l)
theorem r_kcn {x : IV} {F : List IV → Prop} {l : List IV} : kcn x F l = F (x :: l) := (rfl)
def kagn (L : Sto) (r : List IV) (F : List IV → Prop) (l : List IV) : Prop := snaps L r (kcn (.ag l) F)
theorem r_kagn {L : Sto} {r : List IV} {F : List IV → Prop} {l : List IV} : kagn L r F l = snaps L r (kcn (.ag l) F) := (rfl)
def kfnn (L : Sto) (f : FuncId) (r : List IV) (F : List IV → Prop) (l : List IV) : Prop := snaps L r (kcn (.fn f l) F)
theorem r_kfnn {L : Sto} {f : FuncId} {r : List IV} {F : List IV → Prop} {l : List IV} : kfnn L f r F l = snaps L r (kcn (.fn f l) F) := (rfl)
def khdn (L : Sto) (off len : Nat) (r : List IV) (F : List IV → Prop) (es : Row) (_u : Bool) (_v : Nat) : Prop := off + len ≤ es.length ∧ snaps L r (kcn (.tr (.sl (cut es off len))) F)
theorem r_khdn {L : Sto} {off len : Nat} {r : List IV} {F : List IV → Prop} {es : Row} {u : Bool} {v : Nat} : khdn L off len r F es u v = (off + len ≤ es.length ∧ snaps L r (kcn (.tr (.sl (cut es off len))) F)) := (rfl)
section sn
variable {L : Sto} {r : List IV} {F : List IV → Prop}
theorem r_sn0 : snaps L [] F = F [] := by simp only [snaps]
theorem r_sn1 {t : Tr} : snaps L (.tr t :: r) F = snaps L r (kcn (.tr t) F) := by simp only [snaps, snap]; rfl
theorem r_sn2 {es : Row} : snaps L (.cs es :: r) F = snaps L r (kcn (.tr (.sl es)) F) := by simp only [snaps, snap]; rfl
theorem r_sn3 {l : List IV} : snaps L (.ag l :: r) F = snaps L l (kagn L r F) := by simp only [snaps, snap]; rfl
theorem r_sn4 {f : FuncId} {l : List IV} : snaps L (.fn f l :: r) F = snaps L l (kfnn L f r F) := by simp only [snaps, snap]; rfl
theorem r_sn5 {l : List Tr} : snaps L (.ta l :: r) F = snaps L r (kcn (.ta l) F) := by simp only [snaps, snap]; rfl
theorem r_sn6 : snaps L (.er :: r) F = snaps L r (kcn .er F) := by simp only [snaps, snap]; rfl
theorem r_sn7 : snaps L (.un :: r) F = snaps L r (kcn .un F) := by simp only [snaps, snap]; rfl
theorem r_sn8 {id : Oid} {p : Pth} {off len s : Nat} {cap : Option Nat} : snaps L (.hd id p off len cap s :: r) F = rd3 (L id) p s (khdn L off len r F) := by simp only [snaps, snap]; rw [← rdh_rd3]; rfl
end sn
def kca (C : Contract) (fid : FuncId) (nm : Prop) (imp : Bool) (lvl : Nat) (env : List (Nat × IV)) (loc : List (Nat × Ob)) (out : Sto) (d : Option Nat) (K : St → Prop) (args : List IV) : Prop :=
  ∃ r, (∀ l S, C fid l args S r S) ∧ (nm ∨ noSh r) ∧ freshK (keyOf d) loc (impv imp lvl (keyOf d) 0 r).2.length ∧ K ⟨lvl, ptd d (impv imp lvl (keyOf d) 0 r).1 env, addO (keyOf d) (impv imp lvl (keyOf d) 0 r).2 loc, out⟩
theorem kca_intro {fid : FuncId} {nm : Prop} {imp : Bool} {args : List IV} {r : IV} (h : ∀ l S, C fid l args S r S)
    (hk : (nm ∨ noSh r) ∧ freshK (keyOf d) loc (impv imp lvl (keyOf d) 0 r).2.length ∧ K ⟨lvl, ptd d (impv imp lvl (keyOf d) 0 r).1 env, addO (keyOf d) (impv imp lvl (keyOf d) 0 r).2 loc, out⟩) : kca C fid nm imp lvl env loc out d K args := ⟨r, h, hk⟩
def ca2 (C : Contract) (f : IV) (xs : List IV) (imp : Bool) (lvl : Nat) (env : List (Nat × IV)) (loc : List (Nat × Ob)) (out : Sto) (d : Option Nat) (K : St → Prop) : Prop :=
  match f with
  | .fn fid caps => snaps (packS lvl loc out) (xs ++ caps) (kca C fid (mens (fun _ => False) (xs ++ caps)) imp lvl env loc out d K)
  | _ => False
theorem r_ca {imp : Bool} {f : X} {xs : List X} : op2 C d (.ca .pure imp f xs) ⟨lvl, env, loc, out⟩ K = ca2 C (xv env f) (xs.map (xv env)) imp lvl env loc out d K := by
  rw [op2_sil rfl]
  simp only [ev]
  generalize xv env f = v
  cases v <;> rfl
theorem r_ca1 {fid : FuncId} {caps xs : List IV} {imp : Bool} : ca2 C (.fn fid caps) xs imp lvl env loc out d K = snaps (packS lvl loc out) (xs ++ caps) (kca C fid (mens (fun _ => False) (xs ++ caps)) imp lvl env loc out d K) := (rfl)
def kce (C : Contract) (fid : FuncId) (imp : Bool) (lvl : Nat) (env : List (Nat × IV)) (loc : List (Nat × Ob)) (out : Sto) (d : Option Nat) (K : St → Prop) (args : List IV) : Prop :=
  ∃ r, (∀ l S, mens (Seen2 (packS lvl loc out) S l) args → C fid l args S r S) ∧ freshK (keyOf d) loc (impv imp lvl (keyOf d) 0 r).2.length ∧ K ⟨lvl, ptd d (impv imp lvl (keyOf d) 0 r).1 env, addO (keyOf d) (impv imp lvl (keyOf d) 0 r).2 loc, out⟩
theorem kce_intro {fid : FuncId} {imp : Bool} {args : List IV} {r : IV} (h : ∀ l S, mens (Seen2 (packS lvl loc out) S l) args → C fid l args S r S)
    (hk : freshK (keyOf d) loc (impv imp lvl (keyOf d) 0 r).2.length ∧ K ⟨lvl, ptd d (impv imp lvl (keyOf d) 0 r).1 env, addO (keyOf d) (impv imp lvl (keyOf d) 0 r).2 loc, out⟩) : kce C fid imp lvl env loc out d K args := ⟨r, h, hk⟩
def cae2 (C : Contract) (f : IV) (xs : List IV) (imp : Bool) (lvl : Nat) (env : List (Nat × IV)) (loc : List (Nat × Ob)) (out : Sto) (d : Option Nat) (K : St → Prop) : Prop :=
  match f with
  | .fn fid caps => kce C fid imp lvl env loc out d K (xs ++ caps)
  | _ => False
theorem r_cae {imp : Bool} {f : X} {xs : List X} : op2 C d (.ca .see imp f xs) ⟨lvl, env, loc, out⟩ K = cae2 C (xv env f) (xs.map (xv env)) imp lvl env loc out d K := by
  rw [op2_sil rfl]
  simp only [ev]
  generalize xv env f = v
  cases v <;> rfl
theorem r_cae1 {fid : FuncId} {caps xs : List IV} {imp : Bool} : cae2 C (.fn fid caps) xs imp lvl env loc out d K = kce C fid imp lvl env loc out d K (xs ++ caps) := (rfl)
def kcs (C : Contract) (fid : FuncId) (imp : Bool) (lvl : Nat) (env : List (Nat × IV)) (loc : List (Nat × Ob)) (out : Sto) (d : Option Nat) (K : St → Prop) (args : List IV) : Prop :=
  ∃ r, C fid (lvl + 1) args (packS lvl loc out) r (packS lvl loc out) ∧ freshK (keyOf d) loc (impv imp lvl (keyOf d) 0 r).2.length ∧ K ⟨lvl, ptd d (impv imp lvl (keyOf d) 0 r).1 env, addO (keyOf d) (impv imp lvl (keyOf d) 0 r).2 loc, out⟩
def cas2 (C : Contract) (f : IV) (xs : List IV) (imp : Bool) (lvl : Nat) (env : List (Nat × IV)) (loc : List (Nat × Ob)) (out : Sto) (d : Option Nat) (K : St → Prop) : Prop :=
  match f with
  | .fn fid caps => kcs C fid imp lvl env loc out d K (xs.map arg1 ++ caps)
  | _ => False
theorem r_cas {imp : Bool} {f : X} {xs : List X} : op2 C d (.ca .same imp f xs) ⟨lvl, env, loc, out⟩ K = cas2 C (xv env f) (xs.map (xv env)) imp lvl env loc out d K := by
  rw [op2_loud rfl]
  simp only [ew]
  generalize xv env f = v
  cases v <;> rfl
theorem r_cas1 {fid : FuncId} {caps xs : List IV} {imp : Bool} : cas2 C (.fn fid caps) xs imp lvl env loc out d K = kcs C fid imp lvl env loc out d K (xs.map arg1 ++ caps) := (rfl)
def cak2 (C : Contract) (f : IV) (xs : List IV) (imp : Bool) (lvl : Nat) (env : List (Nat × IV)) (loc : List (Nat × Ob)) (out : Sto) (d : Option Nat) (K : St → Prop) : Prop :=
  match f with
  | .fn fid caps => kcs C fid imp lvl env loc out d K (xs ++ caps)
  | _ => False
theorem r_cak {imp : Bool} {f : X} {xs : List X} : op2 C d (.ca .keep imp f xs) ⟨lvl, env, loc, out⟩ K = cak2 C (xv env f) (xs.map (xv env)) imp lvl env loc out d K := by
  rw [op2_loud rfl]
  simp only [ew]
  generalize xv env f = v
  cases v <;> rfl
theorem r_cak1 {fid : FuncId} {caps xs : List IV} {imp : Bool} : cak2 C (.fn fid caps) xs imp lvl env loc out d K = kcs C fid imp lvl env loc out d K (xs ++ caps) := (rfl)
def kcy (C : Contract) (fid : FuncId) (imp : Bool) (lvl : Nat) (env : List (Nat × IV)) (loc : List (Nat × Ob)) (out : Sto) (d : Option Nat) (K : St → Prop) (args : List IV) : Prop :=
  ∃ r loc' out', (∀ i, i.1 = lvl → out' i = out i) ∧ C fid (lvl + 1) args (packS lvl loc out) r (packS lvl loc' out') ∧ freshK (keyOf d) loc' (impv imp lvl (keyOf d) 0 r).2.length ∧ K ⟨lvl, ptd d (impv imp lvl (keyOf d) 0 r).1 env, addO (keyOf d) (impv imp lvl (keyOf d) 0 r).2 loc', out'⟩
theorem kcy_intro {fid : FuncId} {imp : Bool} {args : List IV} {r : IV} (loc' : List (Nat × Ob)) (out' : Sto) (ho : ∀ i, i.1 = lvl → out' i = out i) (h : C fid (lvl + 1) args (packS lvl loc out) r (packS lvl loc' out'))
    (hk : freshK (keyOf d) loc' (impv imp lvl (keyOf d) 0 r).2.length ∧ K ⟨lvl, ptd d (impv imp lvl (keyOf d) 0 r).1 env, addO (keyOf d) (impv imp lvl (keyOf d) 0 r).2 loc', out'⟩) : kcy C fid imp lvl env loc out d K args := ⟨r, loc', out', ho, h, hk⟩
def cay2 (C : Contract) (f : IV) (xs : List IV) (imp : Bool) (lvl : Nat) (env : List (Nat × IV)) (loc : List (Nat × Ob)) (out : Sto) (d : Option Nat) (K : St → Prop) : Prop :=
  match f with
  | .fn fid caps => kcy C fid imp lvl env loc out d K (xs.map arg1 ++ caps)
  | _ => False
theorem r_cay {imp : Bool} {f : X} {xs : List X} : op2 C d (.ca .any imp f xs) ⟨lvl, env, loc, out⟩ K = cay2 C (xv env f) (xs.map (xv env)) imp lvl env loc out d K := by
  rw [op2_loud rfl]
  simp only [ew]
  generalize xv env f = v
  cases v <;> rfl
theorem r_cay1 {fid : FuncId} {caps xs : List IV} {imp : Bool} : cay2 C (.fn fid caps) xs imp lvl env loc out d K = kcy C fid imp lvl env loc out d K (xs.map arg1 ++ caps) := (rfl)

def kfe (K : IV → Sto → Prop) (l : List IV) (st : St) : Prop := match l with | [x] => K x st.out | xs => K (.tu xs) st.out
theorem r_fin {rs : List RS} {K : IV → Sto → Prop} : fin rs st K = exps rs st (kfe K) := (rfl)
theorem r_kfe0 {K : IV → Sto → Prop} : kfe K [] ⟨lvl, env, loc, out⟩ = K (.tu []) out := (rfl)
theorem r_kfe1 {K : IV → Sto → Prop} {x : IV} : kfe K [x] ⟨lvl, env, loc, out⟩ = K x out := (rfl)
theorem r_kfe2 {K : IV → Sto → Prop} {x y : IV} {r : List IV} : kfe K (x :: y :: r) ⟨lvl, env, loc, out⟩ = K (.tu (x :: y :: r)) out := (rfl)
def kex (rs : List RS) (F : List IV → St → Prop) (x : IV) (st : St) : Prop := exps rs st fun xs st'' => F (x :: xs) st''
def kcx (x : IV) (F : List IV → St → Prop) (l : List IV) (st : St) : Prop := F (x :: l) st
theorem r_kcx {x : IV} {F : List IV → St → Prop} {l : List IV} : kcx x F l st = F (x :: l) st := (rfl)
theorem r_exps0 {F : List IV → St → Prop} : exps [] st F = F [] st := (rfl)
theorem r_exps1 {r : RS} {rs : List RS} {F : List IV → St → Prop} : exps (r :: rs) st F = exp1 r st (kex rs F) := (rfl)
theorem r_kex {rs : List RS} {F : List IV → St → Prop} {x : IV} : kex rs F x st = exps rs st (kcx x F) := (rfl)
theorem r_exp1 {n : Nat} {ks : List Nat} {F : IV → St → Prop} : exp1 (.t n ks) ⟨lvl, env, loc, out⟩ F = expv ks (lk n env) ⟨lvl, env, loc, out⟩ F := (rfl)
def exb (o : Option Ob) (off : Nat) (m : Option Nat) (ks : List Nat) (st : St) (F : IV → St → Prop) : Prop :=
  match o, m with
  | some (.bx cells), some m => off + m ≤ cells.length ∧ expv ks (.ag ((cells.drop off).take m)) st F
  | some (.bx cells), none => op3 cells[off]? fun x => isCell x = true ∧ expv ks x st F
  | _, _ => False
def exbc (ks : List Nat) (st : St) (F : IV → St → Prop) (x : IV) : Prop := isCell x = true ∧ expv ks x st F
theorem r_exbc {ks : List Nat} {F : IV → St → Prop} {x : IV} : exbc ks st F x = (isCell x = true ∧ expv ks x st F) := (rfl)
theorem r_exb1 {cells : List IV} {off m : Nat} {ks : List Nat} {F : IV → St → Prop} : exb (some (.bx cells)) off (some m) ks st F = (off + m ≤ cells.length ∧ expv ks (.ag ((cells.drop off).take m)) st F) := (rfl)
theorem r_exb2 {cells : List IV} {off : Nat} {ks : List Nat} {F : IV → St → Prop} : exb (some (.bx cells)) off none ks st F = op3 cells[off]? (exbc ks st F) := (rfl)
def exc (v : IV) (m : Option Nat) (ks : List Nat) (st : St) (F : IV → St → Prop) : Prop :=
  match v with
  | .ab id off => exb (st.sto id) off m ks st F
  | _ => False
theorem r_exp2 {n : Nat} {m : Option Nat} {ks : List Nat} {F : IV → St → Prop} : exp1 (.c n m ks) ⟨lvl, env, loc, out⟩ F = exc (lk n env) m ks ⟨lvl, env, loc, out⟩ F := by
  simp only [exp1]
  generalize lk n env = v
  cases v <;> try rfl
  rename_i id off
  dsimp only [exc]
  generalize (⟨lvl, env, loc, out⟩ : St).sto id = o
  cases o with
  | none => rfl
  | some ob =>
    cases ob with
    | ar => cases m <;> rfl
    | bx cells =>
      cases m with
      | some m => rfl
      | none => exact op3_ex
theorem r_exc {id : Oid} {off : Nat} {m : Option Nat} {ks : List Nat} {F : IV → St → Prop} : exc (.ab id off) m ks ⟨lvl, env, loc, out⟩ F = exb (packS lvl loc out id) off m ks ⟨lvl, env, loc, out⟩ F := (rfl)
def kagx (F : IV → St → Prop) (l : List IV) (st : St) : Prop := F (.ag l) st
theorem r_kagx {F : IV → St → Prop} {l : List IV} : kagx F l st = F (.ag l) st := (rfl)
theorem r_expv1 {ks : List Nat} {l : List IV} {F : IV → St → Prop} : expv ks (.ag l) st F = expcs ks l st (kagx F) := (rfl)
theorem r_expv2 {ks : List Nat} {t : Tr} {F : IV → St → Prop} : expv ks (.tr t) st F = F (.tr t) st := (rfl)
theorem r_expv3 {ks : List Nat} {es : Row} {F : IV → St → Prop} : expv ks (.cs es) st F = expc (ks.headD 0) (.cs es) st F := (rfl)
theorem r_expv4 {ks : List Nat} {id : Oid} {p : Pth} {off len s : Nat} {cap : Option Nat} {F : IV → St → Prop} : expv ks (.hd id p off len cap s) st F = expc (ks.headD 0) (.hd id p off len cap s) st F := (rfl)
theorem r_expv5 {ks : List Nat} {F : IV → St → Prop} : expv ks .er st F = F .er st := (rfl)
theorem r_expv6 {ks : List Nat} {f : FuncId} {c : List IV} {F : IV → St → Prop} : expv ks (.fn f c) st F = (lows st.lvl c ∧ F (.fn f c) st) := (rfl)
theorem r_expv7 {ks : List Nat} {F : IV → St → Prop} : expv ks .un st F = F .un st := (rfl)
def kxc (ks : List Nat) (r : List IV) (F : List IV → St → Prop) (y : IV) (st : St) : Prop := expcs ks r st (kcx y F)
theorem r_kxc {ks : List Nat} {r : List IV} {F : List IV → St → Prop} {y : IV} : kxc ks r F y st = expcs ks r st (kcx y F) := (rfl)
theorem r_expcs0 {ks : List Nat} {F : List IV → St → Prop} : expcs ks [] st F = F [] st := by cases ks <;> rfl
theorem r_expcs1 {ks : List Nat} {x : IV} {r : List IV} {F : List IV → St → Prop} : expcs ks (x :: r) st F = expc (ks.headD 0) x st (kxc ks.tail r F) := (rfl)
theorem r_expc1 {k : Nat} {t : Tr} {F : IV → St → Prop} : expc k (.tr t) st F = F (.tr t) st := (rfl)
theorem r_expc2 {k : Nat} {F : IV → St → Prop} : expc (k + 1) (.cs []) st F = F (.ow k [] true) st := (rfl)
theorem r_expc3 {es : Row} {F : IV → St → Prop} : expc 0 (.cs es) st F = F (.tr (.sl es)) st := (rfl)
theorem r_expc4 {F : IV → St → Prop} : expc 1 (.cs []) st F = F (.ow 0 [] true) st := (rfl)
theorem r_expc4a {F : IV → St → Prop} : expc 2 (.cs []) st F = F (.ow 1 [] true) st := (rfl)
theorem r_expc4b {F : IV → St → Prop} : expc 3 (.cs []) st F = F (.ow 2 [] true) st := (rfl)
theorem r_expc4c {F : IV → St → Prop} : expc 4 (.cs []) st F = F (.ow 3 [] true) st := (rfl)
theorem r_expc4d {F : IV → St → Prop} : expc 5 (.cs []) st F = F (.ow 4 [] true) st := (rfl)
theorem r_expc4e {F : IV → St → Prop} : expc 6 (.cs []) st F = F (.ow 5 [] true) st := (rfl)
theorem r_expc4f {F : IV → St → Prop} : expc 7 (.cs []) st F = F (.ow 6 [] true) st := (rfl)
theorem r_expc5 {k : Nat} {F : IV → St → Prop} : expc k .er st F = F .er st := (rfl)
theorem r_expc6 {k : Nat} {F : IV → St → Prop} : expc k .un st F = F .un st := (rfl)
def exh (o : Option Ob) (k : Nat) (p : Pth) (off len : Nat) (cap : Option Nat) (s : Nat) (st1 : St) (F : IV → St → Prop) : Prop :=
  match o with
  | some (.ar k' es u hw _) => p = [] ∧ s = hw ∧ (match k with
    | 0 => off + len ≤ es.length ∧ F (.tr (.sl (cut es off len))) st1
    | k1 + 1 => k1 = k' ∧ off = 0 ∧ len = es.length ∧ cap = none ∧ F (.ow k' es u) st1)
  | _ => False
theorem r_expc7 {k key : Nat} {p : Pth} {off len s : Nat} {cap : Option Nat} {F : IV → St → Prop} : expc k (.hd (lvl, key) p off len cap s) ⟨lvl, env, loc, out⟩ F = exh (lkO key loc) k p off len cap s (kill (lvl, key) ⟨lvl, env, loc, out⟩) F := by
  unfold expc
  dsimp only
  rw [if_pos rfl]
  have : (⟨lvl, env, loc, out⟩ : St).sto (lvl, key) = lkO key loc := r_pack
  rw [this]
  generalize lkO key loc = o
  cases o with
  | none => rfl
  | some ob => cases ob <;> cases k <;> rfl
theorem r_exh0 {k' : Nat} {es : Row} {u : Bool} {hw ver : Nat} {p : Pth} {off len s : Nat} {cap : Option Nat} {st1 : St} {F : IV → St → Prop} : exh (some (.ar k' es u hw ver)) 0 p off len cap s st1 F = (p = [] ∧ s = hw ∧ off + len ≤ es.length ∧ F (.tr (.sl (cut es off len))) st1) := (rfl)
theorem r_exh1 {k k' : Nat} {es : Row} {u : Bool} {hw ver : Nat} {p : Pth} {off len s : Nat} {cap : Option Nat} {st1 : St} {F : IV → St → Prop} : exh (some (.ar k' es u hw ver)) (k + 1) p off len cap s st1 F = (p = [] ∧ s = hw ∧ k = k' ∧ off = 0 ∧ len = es.length ∧ cap = none ∧ F (.ow k' es u) st1) := (rfl)
theorem r_expc8 {k : Nat} {id : Oid} {p : Pth} {off len s : Nat} {cap : Option Nat} {F : IV → St → Prop} (h : id.1 ≠ lvl) : expc k (.hd id p off len cap s) ⟨lvl, env, loc, out⟩ F = F (.hd id p off len cap s) ⟨lvl, env, loc, out⟩ := by
  unfold expc
  dsimp only
  rw [if_neg h]

def memB (t : Nat) : List Nat → Bool
  | [] => false
  | a :: r => if t = a then true else memB t r
theorem memB_iff {t : Nat} : ∀ {l : List Nat}, memB t l = true ↔ t ∈ l
  | [] => by simp [memB]
  | a :: r => by
    simp only [memB, List.mem_cons]
    by_cases h : t = a
    · simp [h]
    · rw [if_neg h, memB_iff]; simp [h]
def keepB (ks : List Nat) : List (Nat × IV) → List (Nat × IV)
  | [] => []
  | (t, x) :: r => if memB t ks = true then (t, x) :: keepB ks r else keepB ks r
def keepOB (ks : List Nat) : List (Nat × Ob) → List (Nat × Ob)
  | [] => []
  | (t, x) :: r => if memB t ks = true then (t, x) :: keepOB ks r else keepOB ks r
theorem keepE_B {ks : List Nat} : ∀ {e : List (Nat × IV)}, keepE ks e = keepB ks e
  | [] => rfl
  | (t, x) :: r => by
    simp only [keepE, keepB, keepE_B (e := r), memB_iff]
theorem keepO_B {ks : List Nat} : ∀ {e : List (Nat × Ob)}, keepO ks e = keepOB ks e
  | [] => rfl
  | (t, x) :: r => by
    simp only [keepO, keepOB, keepO_B (e := r), memB_iff]
theorem r_fgt {ks js : List Nat} : fgt ks js ⟨lvl, env, loc, out⟩ = ⟨lvl, keepB ks env, keepOB js loc, out⟩ := by
  simp only [fgt, keepE_B, keepO_B]
theorem r_clean {ks js : List Nat} : clean ks js ⟨lvl, env, loc, out⟩ = (okE lvl js (keepB ks env) ∧ okL lvl js (keepOB js loc)) := by
  simp only [clean, keepE_B, keepO_B]
theorem r_okm1 {js : List Nat} {k : Nat} {p : Pth} {off len s : Nat} {cap : Option Nat} : okm lvl js (.hd (lvl, k) p off len cap s) = (memB k js = true) := by
  apply propext
  simp only [okm, men, forall_const, memB_iff]
theorem r_okm2 {js : List Nat} {k off : Nat} : okm lvl js (.ab (lvl, k) off) = (memB k js = true) := by
  apply propext
  simp only [okm, men, forall_const, memB_iff]
theorem r_okm2s {js : List Nat} {k : Nat} : okm lvl js (.sv (lvl, k)) = (memB k js = true) := by
  apply propext
  simp only [okm, men, forall_const, memB_iff]
theorem r_okm3 {js : List Nat} {k : Nat} {p : Pth} {i f s : Nat} : okm lvl js (.ae (lvl, k) p i f s) = (memB k js = true) := by
  apply propext
  simp only [okm, men, forall_const, memB_iff]
theorem r_okmo {js : List Nat} {id : Oid} {p : Pth} {off len s : Nat} {cap : Option Nat} (h : id.1 ≠ lvl) : okm lvl js (.hd id p off len cap s) = True := by
  apply propext
  simp only [okm, men, iff_true]
  exact fun hh => absurd hh h
theorem r_okm4 {js : List Nat} {t : Tr} : okm lvl js (.tr t) = True := (rfl)
theorem r_okm5 {js : List Nat} {es : Row} : okm lvl js (.cs es) = True := (rfl)
theorem r_okm6 {js : List Nat} {l : List IV} : okm lvl js (.ag l) = okms lvl js l := by simp only [okm, okms, men]
theorem r_okm7 {js : List Nat} {l : List IV} : okm lvl js (.tu l) = okms lvl js l := by simp only [okm, okms, men]
theorem r_okm8 {js : List Nat} {f : FuncId} {l : List IV} : okm lvl js (.fn f l) = okms lvl js l := by simp only [okm, okms, men]
theorem r_okm9 {js : List Nat} : okm lvl js .un = True := (rfl)
theorem r_okm10 {js : List Nat} : okm lvl js .er = True := (rfl)
theorem r_okm11 {js : List Nat} {l : List Tr} : okm lvl js (.ta l) = True := (rfl)
theorem r_okms0 {js : List Nat} : okms lvl js [] = True := (rfl)
theorem r_okms1 {js : List Nat} {x : IV} {r : List IV} : okms lvl js (x :: r) = (okm lvl js x ∧ okms lvl js r) := (rfl)
theorem r_okE0 {js : List Nat} : okE lvl js [] = True := (rfl)
theorem r_okE1 {js : List Nat} {t : Nat} {x : IV} {r : List (Nat × IV)} : okE lvl js ((t, x) :: r) = (okm lvl js x ∧ okE lvl js r) := (rfl)
theorem r_okL0 {js : List Nat} : okL lvl js [] = True := (rfl)
theorem r_okL1 {js : List Nat} {t : Nat} {x : List IV} {r : List (Nat × Ob)} : okL lvl js ((t, .bx x) :: r) = (okms lvl js x ∧ okL lvl js r) := (rfl)
theorem r_okL2 {js : List Nat} {t k : Nat} {es : Row} {u : Bool} {hw ver : Nat} {r : List (Nat × Ob)} : okL lvl js ((t, .ar k es u hw ver) :: r) = okL lvl js r := (rfl)

def kround (ks js : List Nat) (J : St → Prop) (Q : Ex → St → Prop) : Ex → St → Prop := fun e s' => match e with | .nrm => clean ks js s' ∧ J (fgt ks js s') | e => Q e s'
theorem r_round1 {ks js : List Nat} {J : St → Prop} : kround ks js J Q .nrm st = (clean ks js st ∧ J (fgt ks js st)) := (rfl)
theorem r_round2 {ks js : List Nat} {J : St → Prop} {i : Nat} : kround ks js J Q (.ext i) st = Q (.ext i) st := (rfl)
theorem r_round3 {ks js : List Nat} {J : St → Prop} : kround ks js J Q .ret st = Q .ret st := (rfl)

theorem wp_lp {ks js : List Nat} {c : C2} (I : Nat → St → Prop) (n0 : Nat) (h0 : clean ks js st ∧ I n0 (fgt ks js st)) (hs : ∀ n s, I n s → wp C c s (kround ks js (fun s' => ∃ m, m < n ∧ I m s') Q)) : wp C (.lp ks js c) st Q := by
  refine ⟨I, ⟨h0.1, n0, h0.2⟩, fun n s hI => ?_⟩
  have h := hs n s hI
  have e : (kround ks js (fun s' => ∃ m, m < n ∧ I m s') Q) = fun e s' => match e with | .nrm => clean ks js s' ∧ ∃ m, m < n ∧ I m (fgt ks js s') | e => Q e s' := by
    funext e s'; cases e <;> rfl
  rw [e] at h
  exact h
def cntJ {α : Type} (N : Nat) (mk : Nat → α → St) (A : Nat → α → Prop) (n : Nat) (s' : St) : Prop := ∃ m, m < n ∧ ∃ k x, k + m = N ∧ s' = mk k x ∧ A k x
theorem cntJ_intro {α : Type} {N : Nat} {mk : Nat → α → St} {A : Nat → α → Prop} {k : Nat} {s' : St} (y : α) (hk : k < N) (h : s' = mk (k + 1) y) (ha : A (k + 1) y) : cntJ N mk A (N - k) s' := ⟨N - (k + 1), by omega, k + 1, y, by omega, h, ha⟩
theorem wp_count {α : Type} {ks js : List Nat} {c : C2} (N : Nat) (mk : Nat → α → St) (A : Nat → α → Prop) (x0 : α) (h0 : clean ks js st ∧ fgt ks js st = mk 0 x0) (hA : A 0 x0)
    (hs : ∀ k x, k ≤ N → A k x → wp C c (mk k x) (kround ks js (cntJ N mk A (N - k)) Q)) : wp C (.lp ks js c) st Q := by
  refine wp_lp (fun n s => ∃ k x, k + n = N ∧ s = mk k x ∧ A k x) N ⟨h0.1, 0, x0, by omega, h0.2, hA⟩ (fun n s ⟨k, x, hk, he, ha⟩ => ?_)
  subst he
  have h := hs k x (by omega) ha
  have hn : N - k = n := by omega
  rw [hn] at h
  exact h
end
end Go.Fd

namespace Go.Fd

section
variable {C : Contract} {lvl : Nat} {env : List (Nat × IV)} {loc : List (Nat × Ob)} {out : Sto} {d : Option Nat} {K : St → Prop} {st : St}

def st2 (v : Option (List IV)) (m : Nat) (p : IV) (d : Option Nat) (st : St) (K : St → Prop) : Prop :=
  match v with
  | some l => d = none ∧ l.length = m ∧
    match p with
    | .ab id off =>
      match st.sto id with
      | some (.bx cells) => off + l.length ≤ cells.length ∧ lows (id.1 + 1) l ∧ K (setOb st id (.bx (setAt cells off l)))
      | _ => False
    | .ae id p i f s => stcs id p i s f l st K
    | _ => False
  | none => False
theorem r_st {m : Nat} {p x : X} : op2 C d (.st m p x) ⟨lvl, env, loc, out⟩ K = st2 (cellsOf (xv env x)) m (xv env p) d ⟨lvl, env, loc, out⟩ K := by
  rw [op2_loud rfl]
  simp only [ew]
  generalize cellsOf (xv env x) = v
  cases v with
  | none => simp [st2]
  | some l => rfl
def stb (o : Option Ob) (id : Oid) (off : Nat) (l : List IV) (st : St) (K : St → Prop) : Prop :=
  match o with
  | some (.bx cells) => off + l.length ≤ cells.length ∧ lows (id.1 + 1) l ∧ K (setOb st id (.bx (setAt cells off l)))
  | _ => False
theorem r_st1 {m : Nat} {l : List IV} {id : Oid} {off : Nat} : st2 (some l) m (.ab id off) d ⟨lvl, env, loc, out⟩ K = (d = none ∧ l.length = m ∧ stb (packS lvl loc out id) id off l ⟨lvl, env, loc, out⟩ K) := (rfl)
theorem r_st2 {m : Nat} {l : List IV} {id : Oid} {p : Pth} {i f s : Nat} : st2 (some l) m (.ae id p i f s) d st K = (d = none ∧ l.length = m ∧ stcs id p i s f l st K) := (rfl)
theorem r_stb {cells l : List IV} {id : Oid} {off : Nat} : stb (some (.bx cells)) id off l st K = (off + l.length ≤ cells.length ∧ lows (id.1 + 1) l ∧ K (setOb st id (.bx (setAt cells off l)))) := (rfl)
theorem r_setAt0 {cs : List IV} {off : Nat} : setAt cs off [] = cs := (rfl)
theorem r_setAt1 {cs : List IV} {off : Nat} {x : IV} {r : List IV} : setAt cs off (x :: r) = setAt (cs.set off x) (off + 1) r := (rfl)
theorem r_lows0 {l : Nat} : lows l [] = True := (rfl)
theorem r_lows1 {l : Nat} {x : IV} {r : List IV} : lows l (x :: r) = (low l x ∧ lows l r) := (rfl)
theorem r_low1 {l : Nat} {t : Tr} : low l (.tr t) = True := (rfl)
theorem r_low2 {l : Nat} {es : Row} : low l (.cs es) = True := (rfl)
theorem r_low3 {l k : Nat} {p : Pth} {off len s : Nat} {cap : Option Nat} : low (l + 1) (.hd (l, k) p off len cap s) = True := by
  apply propext; simp [low, men]
theorem r_low4 {l k off : Nat} : low (l + 1) (.ab (l, k) off) = True := by
  apply propext; simp [low, men]
theorem r_low5 {l : Nat} {c : List IV} : low l (.ag c) = lows l c := by simp only [low, lows, men]
theorem r_low6 {l : Nat} {c : List IV} : low l (.tu c) = lows l c := by simp only [low, lows, men]
theorem r_low7 {l k : Nat} {es : Row} {u : Bool} : low l (.ow k es u) = True := (rfl)
theorem r_low8 {l : Nat} : low l .un = True := (rfl)
theorem r_low9 {l : Nat} : low l .er = True := (rfl)
theorem r_low10 {l : Nat} {c : List Tr} : low l (.ta c) = True := (rfl)
def kst (id : Oid) (p : Pth) (i s f : Nat) (r : List IV) (K : St → Prop) (st' : St) : Prop := stcs id p i s f r st' K
theorem r_kst {id : Oid} {p : Pth} {i s f : Nat} {r : List IV} : kst id p i s f r K st = stcs id p i s f r st K := (rfl)
theorem r_stcs0 {id : Oid} {p : Pth} {i s f : Nat} : stcs id p i s f [] st K = K st := (rfl)
def sc1 (o : Option Ob) (id : Oid) (p : Pth) (i f s : Nat) (x : IV) (st : St) (K : St → Prop) : Prop :=
  match o with
  | some (.ar k es u hw ver) => stamp p s hw ver u ∧ op3 (getp es p) fun es' => op3 es'[i]? fun e => op3 e[f]? fun t0 =>
    match x with
    | .tr (.v y) => isSc t0 = true ∧ K (setOb st id (.ar k (setp es p i f (.v y)) u hw ver))
    | .cs [] => p = [] ∧ K (setOb st id (.ar k (setp es [] i f (.sl [])) u hw (ver + 1)))
    | .cs zs => p = [] ∧ K (setOb st id (.ar k (setp es [] i f (.sl zs)) false hw (ver + 1)))
    | .tr (.sl zs) => p = [] ∧ K (setOb st id (.ar k (setp es [] i f (.sl zs)) false hw (ver + 1)))
    | .hd id2 [] 0 len none s2 => p = [] ∧ id2 ≠ id ∧ id2.1 = st.lvl ∧
      match st.sto id2 with
      | some (.ar _ zs u2 hw2 _) => s2 = hw2 ∧ len = zs.length ∧ K (setOb (kill id2 st) id (.ar k (setp es [] i f (.sl zs)) (u && u2) hw (ver + 1)))
      | _ => False
    | _ => False
  | _ => False
theorem r_stcs1 {id : Oid} {p : Pth} {i s f : Nat} {x : IV} {r : List IV} : stcs id p i s f (x :: r) ⟨lvl, env, loc, out⟩ K = sc1 (packS lvl loc out id) id p i f s x ⟨lvl, env, loc, out⟩ (kst id p i s (f + 1) r K) := by
  simp only [stcs, stc, sc1]
  rw [show (⟨lvl, env, loc, out⟩ : St).sto id = packS lvl loc out id from rfl]
  generalize packS lvl loc out id = o
  cases o with
  | none => rfl
  | some ob =>
    cases ob with
    | bx => rfl
    | ar k es u hw ver =>
      dsimp only
      rw [← op3_ex]
      apply propext
      constructor
      · rintro ⟨es', h1, h2, e, h3, t0, h4, h5⟩
        refine ⟨h2, es', h1, ?_⟩
        rw [h3]
        simp only [op3]
        rw [h4]
        exact h5
      · rintro ⟨h2, es', h1, h3⟩
        rw [← op3_ex] at h3
        obtain ⟨e, h3, h4⟩ := h3
        rw [← op3_ex] at h4
        obtain ⟨t0, h4, h5⟩ := h4
        exact ⟨es', h1, h2, e, h3, t0, h4, h5⟩
def sc2 (k : Nat) (es : Row) (u : Bool) (hw ver : Nat) (id : Oid) (p : Pth) (i f : Nat) (x : IV) (st : St) (K : St → Prop) (t0 : Tr) : Prop :=
    match x with
    | .tr (.v y) => isSc t0 = true ∧ K (setOb st id (.ar k (setp es p i f (.v y)) u hw ver))
    | .cs [] => p = [] ∧ K (setOb st id (.ar k (setp es [] i f (.sl [])) u hw (ver + 1)))
    | .cs zs => p = [] ∧ K (setOb st id (.ar k (setp es [] i f (.sl zs)) false hw (ver + 1)))
    | .tr (.sl zs) => p = [] ∧ K (setOb st id (.ar k (setp es [] i f (.sl zs)) false hw (ver + 1)))
    | .hd id2 [] 0 len none s2 => p = [] ∧ id2 ≠ id ∧ id2.1 = st.lvl ∧
      match st.sto id2 with
      | some (.ar _ zs u2 hw2 _) => s2 = hw2 ∧ len = zs.length ∧ K (setOb (kill id2 st) id (.ar k (setp es [] i f (.sl zs)) (u && u2) hw (ver + 1)))
      | _ => False
    | _ => False
def sc3 (k : Nat) (es : Row) (u : Bool) (hw ver : Nat) (id : Oid) (p : Pth) (i f : Nat) (x : IV) (st : St) (K : St → Prop) (e : List Tr) : Prop := op3 e[f]? (sc2 k es u hw ver id p i f x st K)
def sc4 (k : Nat) (es : Row) (u : Bool) (hw ver : Nat) (id : Oid) (p : Pth) (i f : Nat) (x : IV) (st : St) (K : St → Prop) (es' : Row) : Prop := op3 es'[i]? (sc3 k es u hw ver id p i f x st K)
section sc
variable {k : Nat} {es : Row} {u : Bool} {hw ver : Nat} {id : Oid} {p : Pth} {i f s : Nat} {x : IV}
theorem r_sc1 : sc1 (some (.ar k es u hw ver)) id p i f s x st K = (stamp p s hw ver u ∧ op3 (getp es p) (sc4 k es u hw ver id p i f x st K)) := (rfl)
theorem r_sc3 {e : List Tr} : sc3 k es u hw ver id p i f x st K e = op3 e[f]? (sc2 k es u hw ver id p i f x st K) := (rfl)
theorem r_sc4 {es' : Row} : sc4 k es u hw ver id p i f x st K es' = op3 es'[i]? (sc3 k es u hw ver id p i f x st K) := (rfl)
theorem r_sc2 {y : Value} {t0 : Tr} : sc2 k es u hw ver id p i f (.tr (.v y)) st K t0 = (isSc t0 = true ∧ K (setOb st id (.ar k (setp es p i f (.v y)) u hw ver))) := (rfl)
theorem r_sc2a {t0 : Tr} : sc2 k es u hw ver id p i f (.cs []) st K t0 = (p = [] ∧ K (setOb st id (.ar k (setp es [] i f (.sl [])) u hw (ver + 1)))) := (rfl)
theorem r_sc2b {zs : Row} {t0 : Tr} : sc2 k es u hw ver id p i f (.tr (.sl zs)) st K t0 = (p = [] ∧ K (setOb st id (.ar k (setp es [] i f (.sl zs)) false hw (ver + 1)))) := (rfl)
def sc5 (o : Option Ob) (k : Nat) (es : Row) (u : Bool) (hw ver : Nat) (id : Oid) (i f len s2 : Nat) (st2 st : St) (K : St → Prop) : Prop :=
  match o with
  | some (.ar _ zs u2 hw2 _) => s2 = hw2 ∧ len = zs.length ∧ K (setOb st2 id (.ar k (setp es [] i f (.sl zs)) (u && u2) hw (ver + 1)))
  | _ => False
theorem r_sc2c {key len s2 : Nat} {t0 : Tr} : sc2 k es u hw ver id p i f (.hd (lvl, key) [] 0 len none s2) ⟨lvl, env, loc, out⟩ K t0 = (p = [] ∧ (lvl, key) ≠ id ∧ sc5 (lkO key loc) k es u hw ver id i f len s2 (kill (lvl, key) ⟨lvl, env, loc, out⟩) ⟨lvl, env, loc, out⟩ K) := by
  simp only [sc2]
  rw [show (⟨lvl, env, loc, out⟩ : St).sto (lvl, key) = lkO key loc from r_pack]
  generalize lkO key loc = o
  apply propext
  constructor
  · rintro ⟨h1, h2, _, h3⟩
    refine ⟨h1, h2, ?_⟩
    cases o with
    | none => exact h3
    | some ob => cases ob <;> exact h3
  · rintro ⟨h1, h2, h3⟩
    refine ⟨h1, h2, trivial, ?_⟩
    cases o with
    | none => exact h3
    | some ob => cases ob <;> exact h3
theorem r_sc5 {k2 : Nat} {zs : Row} {u2 : Bool} {hw2 ver2 len s2 : Nat} {st2 : St} : sc5 (some (.ar k2 zs u2 hw2 ver2)) k es u hw ver id i f len s2 st2 st K = (s2 = hw2 ∧ len = zs.length ∧ K (setOb st2 id (.ar k (setp es [] i f (.sl zs)) (u && u2) hw (ver + 1)))) := (rfl)
end sc

theorem r_bw {k n : Nat} {z : List Value} {ps : List (Nat × X)} : op2 C d (.bw k n z ps) ⟨lvl, env, loc, out⟩ K = ew C d ⟨lvl, env, loc, out⟩ K (.bw k n z ps) := op2_loud rfl
def kbw (k lvl : Nat) (d : Option Nat) (K : St → Prop) (ts : List Tr) (u : Bool) (st' : St) : Prop :=
  K { setOb st' (lvl, keyOf d) (.ar k [ts] u 1 0) with env := ptd d (.hd (lvl, keyOf d) [] 0 1 none 1) st'.env }
theorem r_kbw {k : Nat} {ts : List Tr} {u : Bool} : kbw k lvl d K ts u ⟨lvl, env, loc, out⟩ = K ⟨lvl, ptd d (.hd (lvl, keyOf d) [] 0 1 none 1) env, ptO (keyOf d) (.ar k [ts] u 1 0) loc, out⟩ := by
  simp only [kbw, r_setOb]
def bw2 (v : Option (List IV)) (k n : Nat) (d : Option Nat) (loc : List (Nat × Ob)) (lvl : Nat) (st : St) (K : St → Prop) : Prop :=
  match v with
  | some l => n = 1 ∧ l.length = k ∧ freshK (keyOf d) loc 1 ∧ mvcs l st (kbw k lvl d K)
  | none => False
theorem r_bw1 {k n : Nat} {z : List Value} {x : X} : ew C d ⟨lvl, env, loc, out⟩ K (.bw k n z [(0, x)]) = bw2 (cellsOf (xv env x)) k n d loc lvl ⟨lvl, env, loc, out⟩ K := by
  simp only [ew]
  generalize cellsOf (xv env x) = v
  cases v with
  | none => simp [bw2]
  | some l => rfl
theorem r_bw2 {k n : Nat} {l : List IV} : bw2 (some l) k n d loc lvl st K = (n = 1 ∧ l.length = k ∧ freshK (keyOf d) loc 1 ∧ mvcs l st (kbw k lvl d K)) := (rfl)
def kmv (r : List IV) (F : List Tr → Bool → St → Prop) (t : Tr) (a : Bool) (st' : St) : Prop := mvcs r st' fun ts b st'' => F (t :: ts) (a && b) st''
def kmc (t : Tr) (a : Bool) (F : List Tr → Bool → St → Prop) (ts : List Tr) (b : Bool) (st'' : St) : Prop := F (t :: ts) (a && b) st''
section mv
variable {r : List IV} {F : List Tr → Bool → St → Prop} {F1 : Tr → Bool → St → Prop}
theorem r_kmv {t : Tr} {a : Bool} : kmv r F t a st = mvcs r st (kmc t a F) := (rfl)
theorem r_kmc {t : Tr} {a : Bool} {ts : List Tr} {b : Bool} : kmc t a F ts b st = F (t :: ts) (a && b) st := (rfl)
theorem r_mvcs0 : mvcs [] st F = F [] true st := (rfl)
theorem r_mvcs1 {x : IV} : mvcs (x :: r) st F = mvc st x (kmv r F) := (rfl)
theorem r_mvc1 {y : Value} : mvc st (.tr (.v y)) F1 = F1 (.v y) true st := (rfl)
theorem r_mvc2 {es : Row} : mvc st (.tr (.sl es)) F1 = F1 (.sl es) false st := (rfl)
theorem r_mvc3 : mvc st (.cs []) F1 = F1 (.sl []) true st := (rfl)
def mv5 (o : Option Ob) (len s2 : Nat) (st1 : St) (F1 : Tr → Bool → St → Prop) : Prop :=
  match o with
  | some (.ar _ zs u2 hw2 _) => s2 = hw2 ∧ len = zs.length ∧ F1 (.sl zs) u2 st1
  | _ => False
theorem r_mvc4 {key len s2 : Nat} : mvc ⟨lvl, env, loc, out⟩ (.hd (lvl, key) [] 0 len none s2) F1 = mv5 (lkO key loc) len s2 (kill (lvl, key) ⟨lvl, env, loc, out⟩) F1 := by
  simp only [mvc]
  rw [show (⟨lvl, env, loc, out⟩ : St).sto (lvl, key) = lkO key loc from r_pack]
  generalize lkO key loc = o
  apply propext
  constructor
  · rintro ⟨_, h3⟩
    cases o with
    | none => exact h3
    | some ob => cases ob <;> exact h3
  · intro h3
    refine ⟨trivial, ?_⟩
    cases o with
    | none => exact h3
    | some ob => cases ob <;> exact h3
theorem r_mv5 {k2 : Nat} {zs : Row} {u2 : Bool} {hw2 ver2 len s2 : Nat} : mv5 (some (.ar k2 zs u2 hw2 ver2)) len s2 st F1 = (s2 = hw2 ∧ len = zs.length ∧ F1 (.sl zs) u2 st) := (rfl)
end mv

def isHd : IV → Prop
  | .hd _ [] 0 _ none _ => True
  | _ => False
theorem r_isHd {id : Oid} {len s : Nat} : isHd (.hd id [] 0 len none s) = True := (rfl)
def sall : List IV → Prop
  | [] => True
  | .tr (.v _) :: r => sall r
  | _ => False
theorem r_sall0 : sall [] = True := (rfl)
theorem r_sall1 {y : Value} {r : List IV} : sall (.tr (.v y) :: r) = sall r := (rfl)
def smp (p : IV) (l : Option (List IV)) : Prop :=
  match p with
  | .ab .. => True
  | .ae .. => l ≠ some [] ∧ sall (l.getD [])
  | _ => False
theorem r_smp1 {id : Oid} {off : Nat} {l : Option (List IV)} : smp (.ab id off) l = True := (rfl)
theorem r_smp2 {id : Oid} {p : Pth} {i f s : Nat} {x : IV} {r : List IV} : smp (.ae id p i f s) (some (x :: r)) = sall (x :: r) := by simp [smp]
theorem stcs_stq {id : Oid} {p : Pth} {i s k : Nat} {u : Bool} {hw ver : Nat} : ∀ (l : List IV) (f : Nat) (es : Row) (st0 : St) (K : St → Prop), sall l → st0.sto id = some (.ar k es u hw ver) → stcs id p i s f l st0 K → stq p i f l es (fun es' => K (setOb st0 id (.ar k es' u hw ver))) ∨ l = []
  | [], f, es, st0, K, _, _, h => .inr rfl
  | x :: r, f, es, st0, K, ha, hs, h => by
    refine .inl ?_
    simp only [stcs, stc] at h
    rw [hs] at h
    obtain ⟨es', hg, hst, e, hi, t0, hf, h⟩ := h
    cases x with
    | tr t =>
      cases t with
      | v y =>
        obtain ⟨hsc, h⟩ := h
        simp only [stq]
        refine ⟨es', hg, e, hi, t0, hf, hsc, ?_⟩
        have hs1 : (setOb st0 id (.ar k (setp es p i f (.v y)) u hw ver)).sto id = some (.ar k (setp es p i f (.v y)) u hw ver) := by rw [setOb_sto]; unfold sset; rw [if_pos rfl]
        rcases stcs_stq r (f + 1) _ _ K ha hs1 h with g | g
        · simp only [setOb_setOb] at g
          exact g
        · subst g
          exact h
      | sl => cases ha
    | _ => cases ha
theorem r_s0 {m : Nat} {p x : X} : op2 C d (.s0 m p x) ⟨lvl, env, loc, out⟩ K = (smp (xv env p) (cellsOf (xv env x)) ∧ op2 C d (.st m p x) ⟨lvl, env, loc, out⟩ K) := by
  rw [op2_loud rfl, op2_loud rfl]
  simp only [ew, qeff]
  generalize cellsOf (xv env x) = v
  generalize xv env p = q
  apply propext
  constructor
  · rintro ⟨h0, h⟩
    split at h <;> try contradiction
    rename_i l
    obtain ⟨h1, h⟩ := h
    split at h <;> try contradiction
    · exact ⟨trivial, h0, h1, h⟩
    · rename_i id p i f s
      split at h <;> try contradiction
      rename_i k es u hw ver hs
      obtain ⟨g1, g2, g3⟩ := h
      refine ⟨⟨by simpa using g1, ?_⟩, h0, h1, stq_stcs g2 l f es _ K hs g3 (fun e => absurd e g1)⟩
      have : ∀ (l : List IV) (f : Nat) (es : Row) (K : Row → Prop), stq p i f l es K → sall l := by
        intro l
        induction l with
        | nil => intros; trivial
        | cons x r ih =>
          intro f es K h
          simp only [stq] at h
          obtain ⟨_, _, _, _, _, _, _, h⟩ := h
          split at h <;> try contradiction
          exact ih _ _ _ h
      exact this _ _ _ _ g3
  · rintro ⟨h3, h0, h⟩
    refine ⟨h0, ?_⟩
    split at h <;> try contradiction
    rename_i l
    obtain ⟨h1, h⟩ := h
    refine ⟨h1, ?_⟩
    split at h <;> try contradiction
    · exact h
    · rename_i id p i f s
      obtain ⟨g1, g2⟩ := h3
      cases l with
      | nil => exact absurd rfl g1
      | cons y r =>
        have h' := h
        simp only [stcs, stc] at h'
        split at h' <;> try contradiction
        rename_i k es u hw ver hs
        refine ⟨by simp, h'.choose_spec.2.1, ?_⟩
        rcases stcs_stq _ _ _ _ K g2 hs h with g | g
        · exact g
        · cases g
theorem r_a0 {k : Nat} {x y : X} : op2 C d (.a0 k x y) ⟨lvl, env, loc, out⟩ K = (isHd (xv env x) ∧ op2 C d (.ap k 0 x y) ⟨lvl, env, loc, out⟩ K) := by
  rw [op2_loud rfl, op2_loud rfl]
  apply propext
  constructor
  · intro he
    refine ⟨?_, ap_of_a0 he⟩
    simp only [ew, qeff] at he
    split at he <;> try contradiction
    rename_i hx
    rw [hx]; trivial
  · rintro ⟨h1, h⟩
    generalize hq : xv env x = q at h1
    unfold isHd at h1
    split at h1 <;> try contradiction
    rename_i id len s
    have go : ∀ items : Row, ScR items → apgo d k x loc items true ⟨lvl, env, loc, out⟩ K → match packS lvl loc out id with
      | some (.ar k' es u hw ver) => k' = k ∧ s = hw ∧ len = es.length ∧ ScR items ∧ UnR k items ∧ len + items.length ≤ bigN ∧
          K { setOb ⟨lvl, env, loc, out⟩ id (.ar k (es ++ items) u (max hw (len + items.length)) ver) with env := ptd d (.hd id [] 0 (len + items.length) none (max hw (len + items.length))) env }
      | _ => False := fun items hsc h => by
      unfold apgo at h
      obtain ⟨g1, h⟩ := h
      simp only [hq] at h
      rw [show (⟨lvl, env, loc, out⟩ : St).sto id = packS lvl loc out id from rfl] at h
      generalize packS lvl loc out id = o at h ⊢
      cases o with
      | none => exact h
      | some ob =>
        cases ob with
        | bx => exact h
        | ar k' es u hw ver =>
          simp only [Bool.and_true] at h
          exact ⟨h.1, h.2.1, h.2.2.1, hsc, g1, h.2.2.2.1, h.2.2.2.2⟩
    simp only [ew, qeff, srcS] at h ⊢
    rw [hq]
    rw [show (⟨lvl, env, loc, out⟩ : St).sto = packS lvl loc out from rfl] at *
    split at h <;> try contradiction
    · rename_i zs hy
      simp only [if_true] at h
      have := go zs h.1 h.2
      rw [hy]
      exact this
    · rename_i zs hy
      simp only [if_true] at h
      have := go zs h.1 h.2
      rw [hy]
      exact this
    · rename_i id2 p2 off2 len2 c2 s2 hy
      simp only [if_true] at h
      rw [hy]
      dsimp only
      unfold rdh at h ⊢
      generalize packS lvl loc out id2 = o3 at h ⊢
      cases o3 with
      | none => exact h.elim
      | some ob3 =>
        cases ob3 with
        | bx => exact h.elim
        | ar k3 es3 u3 hw3 ver3 =>
          obtain ⟨es', q1, q2, q3, q4, q5⟩ := h
          have := go _ q4 q5
          split at this <;> try contradiction
          rename_i hs
          show (match packS lvl loc out id with
            | some (.ar k' es u hw ver) => k' = k ∧ s = hw ∧ len = es.length ∧ ∃ es', getp es3 p2 = some es' ∧ stamp p2 s2 hw3 ver3 u3 ∧ off2 + len2 ≤ es'.length ∧ ScR (cut es' off2 len2) ∧ UnR k (cut es' off2 len2) ∧ len + (cut es' off2 len2).length ≤ bigN ∧
                K { setOb ⟨lvl, env, loc, out⟩ id (.ar k (es ++ cut es' off2 len2) u (max hw (len + (cut es' off2 len2).length)) ver) with env := ptd d (.hd id [] 0 (len + (cut es' off2 len2).length) none (max hw (len + (cut es' off2 len2).length))) env }
            | _ => False)
          rw [hs]
          exact ⟨this.1, this.2.1, this.2.2.1, es', q1, q2, q3, this.2.2.2⟩
    · exact absurd h.1 (by decide)
def isTs : IV → Prop
  | .tr (.sl _) => True
  | .cs _ => True
  | _ => False
theorem r_isTs1 {es : Row} : isTs (.tr (.sl es)) = True := (rfl)
theorem r_isTs2 {es : Row} : isTs (.cs es) = True := (rfl)
theorem r_a1 {k : Nat} {x y : X} : op2 C d (.a1 k x y) ⟨lvl, env, loc, out⟩ K = (isHd (xv env x) ∧ isTs (xv env y) ∧ op2 C d (.ap k 1 x y) ⟨lvl, env, loc, out⟩ K) := by
  rw [op2_loud rfl, op2_loud rfl]
  apply propext
  constructor
  · intro he
    refine ⟨?_, ?_, ap_of_a1 he⟩
    · simp only [ew, qeff] at he
      split at he <;> try contradiction
      rename_i hx
      rw [hx]; trivial
    · simp only [ew, qeff] at he
      split at he <;> try contradiction
      split at he <;> try contradiction
      have h4 := he.2.2.2
      unfold srcT at h4
      split at h4 <;> try contradiction
      · rename_i hy; rw [hy]; trivial
      · rename_i hy; rw [hy]; trivial
  · rintro ⟨h1, h2, h⟩
    generalize hq : xv env x = q at h1
    unfold isHd at h1
    split at h1 <;> try contradiction
    rename_i id len s
    have go : ∀ items : Row, apgo d k x loc items false ⟨lvl, env, loc, out⟩ K → match packS lvl loc out id with
      | some (.ar k' es u hw ver) => k' = k ∧ s = hw ∧ len = es.length ∧ UnR k items ∧ len + items.length ≤ bigN ∧
          K { setOb ⟨lvl, env, loc, out⟩ id (.ar k (es ++ items) false (max hw (len + items.length)) ver) with env := ptd d (.hd id [] 0 (len + items.length) none (max hw (len + items.length))) env }
      | _ => False := fun items h => by
      unfold apgo at h
      obtain ⟨g1, h⟩ := h
      simp only [hq] at h
      rw [show (⟨lvl, env, loc, out⟩ : St).sto id = packS lvl loc out id from rfl] at h
      generalize packS lvl loc out id = o at h ⊢
      cases o with
      | none => exact h
      | some ob =>
        cases ob with
        | bx => exact h
        | ar k' es u hw ver =>
          simp only [Bool.and_false] at h
          exact ⟨h.1, h.2.1, h.2.2.1, g1, h.2.2.2.1, h.2.2.2.2⟩
    simp only [ew, qeff, srcT] at h ⊢
    rw [hq]
    rw [show (⟨lvl, env, loc, out⟩ : St).sto = packS lvl loc out from rfl] at *
    generalize hy : xv env y = yv at h h2 ⊢
    unfold isTs at h2
    split at h2 <;> try contradiction
    · simp only [Nat.reduceEqDiff, if_false, true_and] at h
      exact go _ h
    · simp only [Nat.reduceEqDiff, if_false, true_and] at h
      exact go _ h
def az1 (x n : IV) (d : Option Nat) (k : Nat) (z : List Value) (st : St) (K : St → Prop) : Prop :=
  match x with
  | .cs [] =>
    match n with
    | .tr (.v (.int .i64 m)) => 0 < m ∧ m ≤ bigN ∧ freshK (keyOf d) st.loc 1 ∧
        K { setOb st (st.lvl, keyOf d) (.ar k (List.replicate m.toNat (z.map trv)) true m.toNat 0) with env := ptd d (.hd (st.lvl, keyOf d) [] 0 m.toNat none m.toNat) st.env }
    | _ => False
  | _ => False
theorem r_az {k : Nat} {z : List Value} {x n : X} : op2 C d (.az k z x n) ⟨lvl, env, loc, out⟩ K = az1 (xv env x) (xv env n) d k z ⟨lvl, env, loc, out⟩ K := by
  rw [op2_loud rfl]
  rfl
theorem r_az1 {k : Nat} {z : List Value} {m : Int} : az1 (.cs []) (.tr (.v (.int .i64 m))) d k z ⟨lvl, env, loc, out⟩ K = (0 < m ∧ m ≤ bigN ∧ freshK (keyOf d) loc 1 ∧ K ⟨lvl, ptd d (.hd (lvl, keyOf d) [] 0 m.toNat none m.toNat) env, ptO (keyOf d) (.ar k (List.replicate m.toNat (z.map trv)) true m.toNat 0) loc, out⟩) := by
  simp only [az1, r_setOb]
def tbx : IV → Prop
  | .ta _ => True
  | _ => False
theorem r_tbx {cells : List Tr} : tbx (.ta cells) = True := (rfl)
theorem r_lt {m : Option Nat} {p : X} : op2 C d (.lt m p) ⟨lvl, env, loc, out⟩ K = (tbx (xv env p) ∧ op2 C d (.ld m p) ⟨lvl, env, loc, out⟩ K) := by
  cases m <;> (
    rw [op2_sil rfl, op2_sil rfl]
    simp only [ev]
    generalize hx : xv env p = q
    cases q <;> simp [tbx])
def tcs : IV → Prop
  | .tr (.sl _) => True
  | .cs _ => True
  | _ => False
theorem r_tcs1 {es : Row} : tcs (.tr (.sl es)) = True := (rfl)
theorem r_tcs2 {es : Row} : tcs (.cs es) = True := (rfl)
theorem r_sy {k : Nat} {x : X} {lo hi mx : Option X} : op2 C d (.sy k x lo hi mx) ⟨lvl, env, loc, out⟩ K = (tcs (xv env x) ∧ op2 C d (.sx k x lo hi mx) ⟨lvl, env, loc, out⟩ K) := by
  rw [op2_sil rfl, op2_sil rfl]
  simp only [ev]
  generalize hx : xv env x = q
  cases q with
  | tr t =>
    cases t with
    | v => simp [tcs]
    | sl es => simp only [tcs, true_and]
  | cs es => simp only [tcs, true_and]
  | _ => simp only [tcs, false_and]

def swx (L : Sto) (k : Nat) : IV → Prop
  | .tr (.sl _) => True
  | .cs _ => True
  | .hd id [] _ _ _ _ => wid L id [] k
  | _ => False
theorem r_swx1 {L : Sto} {k : Nat} {es : Row} : swx L k (.tr (.sl es)) = True := (rfl)
theorem r_swx2 {L : Sto} {k : Nat} {es : Row} : swx L k (.cs es) = True := (rfl)
theorem r_swx3 {L : Sto} {k : Nat} {id : Oid} {off len s : Nat} {cap : Option Nat} : swx L k (.hd id [] off len cap s) = wid L id [] k := (rfl)
def widO (m : Nat) : Option Ob → Prop
  | some (.ar k _ _ _ _) => k = m
  | _ => False
theorem r_widO {m k hw ver : Nat} {es : Row} {u : Bool} : widO m (some (.ar k es u hw ver)) = (k = m) := (rfl)
theorem r_widn {key m : Nat} : wid (packS lvl loc out) (lvl, key) [] m = widO m (lkO key loc) := by
  unfold wid
  rw [r_pack]
  cases lkO key loc with
  | none => rfl
  | some ob => cases ob <;> rfl
theorem r_sw {k : Nat} {x : X} {lo hi mx : Option X} : op2 C d (.sw k x lo hi mx) ⟨lvl, env, loc, out⟩ K = (swx (packS lvl loc out) k (xv env x) ∧ op2 C d (.sx k x lo hi mx) ⟨lvl, env, loc, out⟩ K) := by
  rw [op2_sil rfl, op2_sil rfl]
  simp only [ev]
  generalize xv env x = q
  cases q with
  | tr t =>
    cases t with
    | v => simp [swx]
    | sl es => simp only [swx, true_and]
  | cs es => simp only [swx, true_and]
  | hd id p off len cap s =>
    cases p with
    | nil =>
      simp only [swx]
      exact propext ⟨fun ⟨hw, h⟩ => ⟨hw, bndI_mono (fun a h => bndI_mono (fun b h => ⟨h.1, h.2.1, bndI_mono (fun m g => ⟨g.1, g.2.1, hw, g.2.2⟩) h.2.2⟩) h) h⟩, fun ⟨hw, h⟩ => ⟨hw, bndI_mono (fun a h => bndI_mono (fun b h => ⟨h.1, h.2.1, bndI_mono (fun m g => ⟨g.1, g.2.1, g.2.2.2⟩) h.2.2⟩) h) h⟩⟩
    | cons c r => simp [swx]
  | _ => simp [swx]
theorem r_it {k : Nat} {x i : X} : op2 C d (.it k x i) ⟨lvl, env, loc, out⟩ K = (tcs (xv env x) ∧ op2 C d (.ia k x i) ⟨lvl, env, loc, out⟩ K) := by
  rw [op2_sil rfl, op2_sil rfl]
  simp only [ev]
  generalize xv env x = q
  generalize xv env i = qi
  cases q with
  | tr t =>
    cases t with
    | v => simp only [tcs, false_and]; split <;> simp
    | sl es => simp only [tcs, true_and]
  | cs es => simp only [tcs, true_and]
  | _ => simp only [tcs, false_and]; split <;> simp

def apx (v : IV) (d : Option Nat) (k : Nat) (loc0 : List (Nat × Ob)) (items : Row) (ui : Bool) (st1 : St) (K : St → Prop) : Prop :=
  UnR k items ∧
  match v with
  | .cs zs => (zs = [] ∨ items ≠ []) ∧ zs.length + items.length ≤ bigN ∧ UnR k zs ∧ freshK (keyOf d) loc0 1 ∧ (zs = [] ∨ ui = false ∨ ScR zs) ∧
    K { setOb st1 (st1.lvl, keyOf d) (.ar k (zs ++ items) ui (zs.length + items.length) 0) with env := ptd d (.hd (st1.lvl, keyOf d) [] 0 (zs.length + items.length) none (zs.length + items.length)) st1.env }
  | .hd id [] 0 len none s =>
    match st1.sto id with
    | some (.ar k' es u hw ver) => k' = k ∧ s = hw ∧ len = es.length ∧ len + items.length ≤ bigN ∧
      K { setOb st1 id (.ar k (es ++ items) (u && ui) (max hw (len + items.length)) ver) with env := ptd d (.hd id [] 0 (len + items.length) none (max hw (len + items.length))) st1.env }
    | _ => False
  | _ => False
theorem r_apgo {k : Nat} {x : X} {loc0 : List (Nat × Ob)} {items : Row} {ui : Bool} : apgo d k x loc0 items ui ⟨lvl, env, loc, out⟩ K = apx (xv env x) d k loc0 items ui ⟨lvl, env, loc, out⟩ K := (rfl)
theorem r_apx1 {k : Nat} {loc0 : List (Nat × Ob)} {items zs : Row} {ui : Bool} : apx (.cs zs) d k loc0 items ui ⟨lvl, env, loc, out⟩ K = (UnR k items ∧ (zs = [] ∨ items ≠ []) ∧ zs.length + items.length ≤ bigN ∧ UnR k zs ∧ freshK (keyOf d) loc0 1 ∧ (zs = [] ∨ ui = false ∨ ScR zs) ∧
    K ⟨lvl, ptd d (.hd (lvl, keyOf d) [] 0 (zs.length + items.length) none (zs.length + items.length)) env, ptO (keyOf d) (.ar k (zs ++ items) ui (zs.length + items.length) 0) loc, out⟩) := by
  simp only [apx, r_setOb]
def aph (o : Option Ob) (d : Option Nat) (k : Nat) (id : Oid) (len s : Nat) (items : Row) (ui : Bool) (st1 : St) (K : St → Prop) : Prop :=
  match o with
  | some (.ar k' es u hw ver) => k' = k ∧ s = hw ∧ len = es.length ∧ len + items.length ≤ bigN ∧
      K { setOb st1 id (.ar k (es ++ items) (u && ui) (max hw (len + items.length)) ver) with env := ptd d (.hd id [] 0 (len + items.length) none (max hw (len + items.length))) st1.env }
  | _ => False
theorem r_apx2 {k key len s : Nat} {loc0 : List (Nat × Ob)} {items : Row} {ui : Bool} : apx (.hd (lvl, key) [] 0 len none s) d k loc0 items ui ⟨lvl, env, loc, out⟩ K = (UnR k items ∧ aph (lkO key loc) d k (lvl, key) len s items ui ⟨lvl, env, loc, out⟩ K) := by
  simp only [apx]
  rw [show (⟨lvl, env, loc, out⟩ : St).sto (lvl, key) = lkO key loc from r_pack]
  rfl
theorem r_aph {k k' key len s : Nat} {items es : Row} {u ui : Bool} {hw ver : Nat} : aph (some (.ar k' es u hw ver)) d k (lvl, key) len s items ui ⟨lvl, env, loc, out⟩ K = (k' = k ∧ s = hw ∧ len = es.length ∧ len + items.length ≤ bigN ∧
      K ⟨lvl, ptd d (.hd (lvl, key) [] 0 (len + items.length) none (max hw (len + items.length))) env, ptO key (.ar k (es ++ items) (u && ui) (max hw (len + items.length)) ver) loc, out⟩) := by
  simp only [aph, r_setOb]
def ap2 (C : Contract) (d : Option Nat) (k md : Nat) (x : X) (y : IV) (st : St) (K : St → Prop) : Prop :=
  match y with
  | .tr (.sl es) => if md = 0 then ScR es ∧ apgo d k x st.loc es true st K else md = 1 ∧ apgo d k x st.loc es false st K
  | .cs es => if md = 0 then ScR es ∧ apgo d k x st.loc es true st K else md = 1 ∧ apgo d k x st.loc es false st K
  | .hd id2 p2 off2 len2 c2 s2 =>
      if md = 2 then
        p2 = [] ∧ off2 = 0 ∧ c2 = none ∧ id2.1 = st.lvl ∧
        match st.sto id2 with
        | some (.ar _ zs u2 hw2 _) => s2 = hw2 ∧ len2 = zs.length ∧ apgo d k x st.loc zs u2 (kill id2 st) K
        | _ => False
      else if md = 0 then
        rdh st.sto id2 p2 s2 fun es _ _ => off2 + len2 ≤ es.length ∧ ScR (cut es off2 len2) ∧ apgo d k x st.loc (cut es off2 len2) true st K
      else md = 1 ∧ p2 = [] ∧
        match st.sto id2 with
        | some (.ar k2 es _ hw2 ver2) => s2 = hw2 ∧ off2 + len2 ≤ es.length ∧ apgo d k x st.loc (cut es off2 len2) false (setOb st id2 (.ar k2 es false hw2 ver2)) K
        | _ => False
  | .sv id2 => md = 2 ∧ id2.1 = st.lvl ∧
      match st.sto id2 with
      | some (.bx l) => l.length = k ∧ mvcs l st fun ts u st' => apgo d k x st.loc [ts] u (kill id2 st') K
      | _ => False
  | _ => False
theorem r_ap {k md : Nat} {x y : X} : op2 C d (.ap k md x y) ⟨lvl, env, loc, out⟩ K = ap2 C d k md x (xv env y) ⟨lvl, env, loc, out⟩ K := by
  rw [op2_loud rfl]
  rfl
section ap
variable {k : Nat} {x : X}
theorem r_ap0 {es : Row} : ap2 C d k 0 x (.tr (.sl es)) ⟨lvl, env, loc, out⟩ K = (ScR es ∧ apgo d k x loc es true ⟨lvl, env, loc, out⟩ K) := (rfl)
theorem r_ap1 {es : Row} : ap2 C d k 1 x (.tr (.sl es)) ⟨lvl, env, loc, out⟩ K = apgo d k x loc es false ⟨lvl, env, loc, out⟩ K := by simp [ap2]
theorem r_ap0c {es : Row} : ap2 C d k 0 x (.cs es) ⟨lvl, env, loc, out⟩ K = (ScR es ∧ apgo d k x loc es true ⟨lvl, env, loc, out⟩ K) := (rfl)
theorem r_ap1c {es : Row} : ap2 C d k 1 x (.cs es) ⟨lvl, env, loc, out⟩ K = apgo d k x loc es false ⟨lvl, env, loc, out⟩ K := by simp [ap2]
def kap (d : Option Nat) (k : Nat) (x : X) (off2 len2 : Nat) (st : St) (K : St → Prop) (es : Row) (_u : Bool) (_v : Nat) : Prop := off2 + len2 ≤ es.length ∧ ScR (cut es off2 len2) ∧ apgo d k x st.loc (cut es off2 len2) true st K
theorem r_kap {off2 len2 : Nat} {es : Row} {u : Bool} {v : Nat} : kap d k x off2 len2 ⟨lvl, env, loc, out⟩ K es u v = (off2 + len2 ≤ es.length ∧ ScR (cut es off2 len2) ∧ apgo d k x loc (cut es off2 len2) true ⟨lvl, env, loc, out⟩ K) := (rfl)
theorem r_ap0h {id2 : Oid} {p2 : Pth} {off2 len2 s2 : Nat} {c2 : Option Nat} : ap2 C d k 0 x (.hd id2 p2 off2 len2 c2 s2) ⟨lvl, env, loc, out⟩ K = rd3 (packS lvl loc out id2) p2 s2 (kap d k x off2 len2 ⟨lvl, env, loc, out⟩ K) := by
  rw [← rdh_rd3]
  rfl
def ap5 (o : Option Ob) (d : Option Nat) (k : Nat) (x : X) (len2 s2 : Nat) (loc0 : List (Nat × Ob)) (st1 : St) (K : St → Prop) : Prop :=
  match o with
  | some (.ar _ zs u2 hw2 _) => s2 = hw2 ∧ len2 = zs.length ∧ apgo d k x loc0 zs u2 st1 K
  | _ => False
theorem r_ap2h {key : Nat} {p2 : Pth} {off2 len2 s2 : Nat} {c2 : Option Nat} : ap2 C d k 2 x (.hd (lvl, key) p2 off2 len2 c2 s2) ⟨lvl, env, loc, out⟩ K = (p2 = [] ∧ off2 = 0 ∧ c2 = none ∧ ap5 (lkO key loc) d k x len2 s2 loc (kill (lvl, key) ⟨lvl, env, loc, out⟩) K) := by
  simp only [ap2, if_true]
  rw [show (⟨lvl, env, loc, out⟩ : St).sto (lvl, key) = lkO key loc from r_pack]
  generalize lkO key loc = o
  apply propext
  constructor
  · rintro ⟨h1, h2, h3, _, h5⟩
    refine ⟨h1, h2, h3, ?_⟩
    cases o with
    | none => exact h5
    | some ob => cases ob <;> exact h5
  · rintro ⟨h1, h2, h3, h5⟩
    refine ⟨h1, h2, h3, trivial, ?_⟩
    cases o with
    | none => exact h5
    | some ob => cases ob <;> exact h5
theorem r_ap5 {k2 : Nat} {zs : Row} {u2 : Bool} {hw2 ver2 len2 s2 : Nat} {loc0 : List (Nat × Ob)} {st1 : St} : ap5 (some (.ar k2 zs u2 hw2 ver2)) d k x len2 s2 loc0 st1 K = (s2 = hw2 ∧ len2 = zs.length ∧ apgo d k x loc0 zs u2 st1 K) := (rfl)
def kaps (d : Option Nat) (k : Nat) (x : X) (loc0 : List (Nat × Ob)) (id2 : Oid) (K : St → Prop) (ts : List Tr) (u : Bool) (st' : St) : Prop := apgo d k x loc0 [ts] u (kill id2 st') K
theorem r_kaps {loc0 : List (Nat × Ob)} {id2 : Oid} {ts : List Tr} {u : Bool} : kaps d k x loc0 id2 K ts u st = apgo d k x loc0 [ts] u (kill id2 st) K := (rfl)
def aps (o : Option Ob) (d : Option Nat) (k : Nat) (x : X) (loc0 : List (Nat × Ob)) (id2 : Oid) (st1 : St) (K : St → Prop) : Prop :=
  match o with
  | some (.bx l) => l.length = k ∧ mvcs l st1 (kaps d k x loc0 id2 K)
  | _ => False
theorem r_aps {l : List IV} {loc0 : List (Nat × Ob)} {id2 : Oid} {st1 : St} : aps (some (.bx l)) d k x loc0 id2 st1 K = (l.length = k ∧ mvcs l st1 (kaps d k x loc0 id2 K)) := (rfl)
theorem r_ap2s {key : Nat} : ap2 C d k 2 x (.sv (lvl, key)) ⟨lvl, env, loc, out⟩ K = aps (lkO key loc) d k x loc (lvl, key) ⟨lvl, env, loc, out⟩ K := by
  simp only [ap2]
  rw [show (⟨lvl, env, loc, out⟩ : St).sto (lvl, key) = lkO key loc from r_pack]
  generalize lkO key loc = o
  apply propext
  constructor
  · rintro ⟨_, _, h⟩
    cases o with
    | none => exact h
    | some ob => cases ob <;> exact h
  · intro h
    refine ⟨trivial, trivial, ?_⟩
    cases o with
    | none => exact h
    | some ob => cases ob <;> exact h
end ap
theorem r_snm {L : Sto} {F : List IV → Prop} : ∀ {l : List Tr}, snaps L (l.map .tr) F = F (l.map .tr)
  | [] => r_sn0
  | t :: r => by rw [List.map_cons, r_sn1, r_snm, r_kcn]
theorem r_mensm {Pd : Oid → Prop} : ∀ {l : List Tr}, mens Pd (l.map .tr) = True
  | [] => rfl
  | t :: r => by simp only [List.map_cons, mens, men, r_mensm, and_self]
def nlf (v : IV) (neg : Bool) (lvl : Nat) (env : List (Nat × IV)) (loc : List (Nat × Ob)) (out : Sto) (d : Option Nat) (K : St → Prop) : Prop :=
  match v with
  | .tr (.sl es) => K ⟨lvl, ptd d (iB neg) env, loc, out⟩ ∧ (es = [] → K ⟨lvl, ptd d (iB !neg) env, loc, out⟩)
  | .cs es => K ⟨lvl, ptd d (iB neg) env, loc, out⟩ ∧ (es = [] → K ⟨lvl, ptd d (iB !neg) env, loc, out⟩)
  | _ => False
theorem r_nl {C : Contract} {d : Option Nat} {neg : Bool} {x : X} {lvl : Nat} {env : List (Nat × IV)} {loc : List (Nat × Ob)} {out : Sto} {K : St → Prop} : op2 C d (.nl neg x) ⟨lvl, env, loc, out⟩ K = nlf (xv env x) neg lvl env loc out d K := by
  rw [op2_loud rfl]
  rfl
theorem r_nl1 {neg : Bool} {es : Row} {d : Option Nat} {lvl : Nat} {env : List (Nat × IV)} {loc : List (Nat × Ob)} {out : Sto} {K : St → Prop} : nlf (.tr (.sl es)) neg lvl env loc out d K = (K ⟨lvl, ptd d (iB neg) env, loc, out⟩ ∧ (es = [] → K ⟨lvl, ptd d (iB !neg) env, loc, out⟩)) := (rfl)
theorem r_nl2 {neg : Bool} {es : Row} {d : Option Nat} {lvl : Nat} {env : List (Nat × IV)} {loc : List (Nat × Ob)} {out : Sto} {K : St → Prop} : nlf (.cs es) neg lvl env loc out d K = (K ⟨lvl, ptd d (iB neg) env, loc, out⟩ ∧ (es = [] → K ⟨lvl, ptd d (iB !neg) env, loc, out⟩)) := (rfl)
section row
variable {C : Contract} {d : Option Nat} {x y hi : X} {lvl : Nat} {env : List (Nat × IV)} {loc : List (Nat × Ob)} {out : Sto} {K : St → Prop} {st : St}
def kenv (d : Option Nat) (x : IV) (st : St) (K : St → Prop) : Prop := K { st with env := ptd d x st.env }
theorem r_kenv {v : IV} : kenv d v ⟨lvl, env, loc, out⟩ K = K ⟨lvl, ptd d v env, loc, out⟩ := (rfl)
theorem kenv_set {v : IV} {id : Oid} {ob : Ob} : kenv d v (setOb st id ob) K = K { setOb st id ob with env := ptd d v st.env } := by
  unfold kenv
  rw [setOb_env]
def cpf (v : IV) (lvl : Nat) (env : List (Nat × IV)) (loc : List (Nat × Ob)) (out : Sto) (d : Option Nat) (K : St → Prop) : Prop :=
  match v with
  | .cs es => K ⟨lvl, ptd d (iI es.length) env, loc, out⟩
  | _ => False
theorem r_cp : op2 C d (.cp x) ⟨lvl, env, loc, out⟩ K = cpf (xv env x) lvl env loc out d K := by
  rw [op2_loud rfl]
  rfl
theorem r_cp1 {es : Row} : cpf (.cs es) lvl env loc out d K = K ⟨lvl, ptd d (iI es.length) env, loc, out⟩ := (rfl)
def shg (o : Option Ob) (id : Oid) (m : Int) (len s k : Nat) (d : Option Nat) (st : St) (K : St → Prop) : Prop :=
  match o with
  | some (.ar k2 es u hw ver) => k2 = k ∧ s = hw ∧ 0 ≤ m ∧ m.toNat ≤ len ∧ len ≤ es.length ∧ kenv d (.hd id [] 0 m.toNat none hw) (setOb st id (.ar k2 (es.take m.toNat) u hw (ver + 1))) K
  | _ => False
def shf (v hv : IV) (k : Nat) (d : Option Nat) (st : St) (K : St → Prop) : Prop :=
  match v with
  | .cs es =>
    match hv with
    | .tr (.v (.int _ m)) => m = es.length ∧ UnR k es ∧ kenv d (.cs es) st K
    | _ => False
  | .hd id p off len cap s =>
    match hv with
    | .tr (.v (.int _ m)) => p = [] ∧ off = 0 ∧ cap = none ∧ shg (st.sto id) id m len s k d st K
    | _ => False
  | _ => False
theorem r_sh {k : Nat} : op2 C d (.sh k x hi) ⟨lvl, env, loc, out⟩ K = shf (xv env x) (xv env hi) k d ⟨lvl, env, loc, out⟩ K := by
  rw [op2_loud rfl]
  simp only [ew]
  generalize xv env x = v
  cases v <;> try rfl
  rename_i id p off len cap s
  generalize xv env hi = hv
  cases hv <;> try rfl
  rename_i t
  cases t <;> try rfl
  rename_i q
  cases q <;> try rfl
  simp only [shf, shg]
  generalize (⟨lvl, env, loc, out⟩ : St).sto id = o
  cases o with
  | none => simp
  | some ob =>
    cases ob with
    | bx => simp
    | ar k2 es u hw ver => simp only [kenv_set]
theorem r_shf {id : Oid} {len s k : Nat} {kk : IntKind} {m : Int} : shf (.hd id [] 0 len none s) (.tr (.v (.int kk m))) k d ⟨lvl, env, loc, out⟩ K = shg (packS lvl loc out id) id m len s k d ⟨lvl, env, loc, out⟩ K := by
  simp only [shf, true_and]
  rfl
theorem r_shc {es : Row} {k : Nat} {kk : IntKind} {m : Int} : shf (.cs es) (.tr (.v (.int kk m))) k d ⟨lvl, env, loc, out⟩ K = (m = es.length ∧ UnR k es ∧ kenv d (.cs es) ⟨lvl, env, loc, out⟩ K) := (rfl)
theorem r_shg {id : Oid} {len s k k2 hw ver : Nat} {es : Row} {u : Bool} {m : Int} : shg (some (.ar k2 es u hw ver)) id m len s k d st K = (k2 = k ∧ s = hw ∧ 0 ≤ m ∧ m.toNat ≤ len ∧ len ≤ es.length ∧ kenv d (.hd id [] 0 m.toNat none hw) (setOb st id (.ar k2 (es.take m.toNat) u hw (ver + 1))) K) := (rfl)
def fzg (o : Option Ob) (len s : Nat) (d : Option Nat) (st1 : St) (K : St → Prop) : Prop :=
  match o with
  | some (.ar _ zs _ hw _) => s = hw ∧ len = zs.length ∧ kenv d (.tr (.sl zs)) st1 K
  | _ => False
def fzf (v : IV) (d : Option Nat) (st : St) (K : St → Prop) : Prop :=
  match v with
  | .hd id [] 0 len none s => id.1 = st.lvl ∧ fzg (st.sto id) len s d (kill id st) K
  | _ => False
theorem r_fz : op2 C d (.fz x) ⟨lvl, env, loc, out⟩ K = fzf (xv env x) d ⟨lvl, env, loc, out⟩ K := by
  rw [op2_loud rfl]
  simp only [ew]
  generalize xv env x = v
  unfold fzf
  split
  · rename_i id len s
    simp only [fzg]
    generalize (⟨lvl, env, loc, out⟩ : St).sto id = o
    cases o with
    | none => rfl
    | some ob => cases ob <;> rfl
  · rename_i hv
    split
    · exact (hv _ _ _ rfl).elim
    · rfl
theorem r_fzf {key len s : Nat} : fzf (.hd (lvl, key) [] 0 len none s) d ⟨lvl, env, loc, out⟩ K = fzg (lkO key loc) len s d (kill (lvl, key) ⟨lvl, env, loc, out⟩) K := by
  simp only [fzf, true_and]
  rw [show (⟨lvl, env, loc, out⟩ : St).sto (lvl, key) = lkO key loc from r_pack]
theorem r_fzg {len s k hw ver : Nat} {zs : Row} {u : Bool} : fzg (some (.ar k zs u hw ver)) len s d st K = (s = hw ∧ len = zs.length ∧ kenv d (.tr (.sl zs)) st K) := (rfl)
def drp (o : Option Ob) (id : Oid) (st : St) : St :=
  match o with
  | none => st
  | some _ => kill id st
theorem r_drp0 {id : Oid} : drp none id st = st := (rfl)
theorem r_drp1 {ob : Ob} {id : Oid} : drp (some ob) id st = kill id st := (rfl)
def rkg (o : Option Ob) (len s : Nat) (id0 : Oid) (d : Option Nat) (st1 : St) (K : St → Prop) : Prop :=
  match o with
  | some (.ar k zs u hw ver) => s = hw ∧ len = zs.length ∧ kenv d (.hd id0 [] 0 len none s) (setOb st1 id0 (.ar k zs u hw ver)) K
  | _ => False
def rkf (v : IV) (d : Option Nat) (st : St) (K : St → Prop) : Prop :=
  match v with
  | .hd id [] 0 len none s => id.1 = st.lvl ∧ (st.lvl, keyOf d) ≠ id ∧ rkg (st.sto id) len s (st.lvl, keyOf d) d (kill id (drop0 (st.lvl, keyOf d) st)) K
  | _ => False
theorem r_rk : op2 C d (.rk x) ⟨lvl, env, loc, out⟩ K = rkf (xv env x) d ⟨lvl, env, loc, out⟩ K := by
  rw [op2_loud rfl]
  simp only [ew]
  generalize xv env x = v
  unfold rkf
  split
  · rename_i id len s
    simp only [rkg]
    generalize (⟨lvl, env, loc, out⟩ : St).sto id = o
    cases o with
    | none => rfl
    | some ob =>
      cases ob with
      | bx => rfl
      | ar k2 es u hw ver => simp only [kenv_set]
  · rename_i hv
    split
    · exact (hv _ _ _ rfl).elim
    · rfl
theorem r_rkf {key len s : Nat} {t : Nat} : rkf (.hd (lvl, key) [] 0 len none s) (some t) ⟨lvl, env, loc, out⟩ K = (t * 32 ≠ key ∧ rkg (lkO key loc) len s (lvl, t * 32) (some t) (kill (lvl, key) (drp (lkO (t * 32) loc) (lvl, t * 32) ⟨lvl, env, loc, out⟩)) K) := by
  simp only [rkf, true_and, drop0, keyOf]
  rw [show (⟨lvl, env, loc, out⟩ : St).sto (lvl, key) = lkO key loc from r_pack, show (⟨lvl, env, loc, out⟩ : St).sto (lvl, t * 32) = lkO (t * 32) loc from r_pack]
  congr 1
  simp
theorem r_rkg {len s k hw ver : Nat} {zs : Row} {u : Bool} {id0 : Oid} : rkg (some (.ar k zs u hw ver)) len s id0 d st K = (s = hw ∧ len = zs.length ∧ kenv d (.hd id0 [] 0 len none s) (setOb st id0 (.ar k zs u hw ver)) K) := (rfl)
theorem r_frzs0 {K : List IV → St → Prop} : frzs [] st K = K [] st := (rfl)
theorem r_frzs1 {x : X} {r : List X} {K : List IV → St → Prop} : frzs (x :: r) st K = frz1 (xv st.env x) st fun t st1 => frzs r st1 fun ts st2 => K (.ta t :: ts) st2 := (rfl)
def frzt (o : Option (List Tr × Bool)) (F : List Tr → Prop) : Prop :=
  match o with
  | some (ts, _) => F ts
  | none => False
def frzg (o : Option Ob) (F : List Tr → Prop) : Prop :=
  match o with
  | some (.bx cells) => frzt (totrs cells) F
  | _ => False
theorem r_frz1 {ts : List Tr} {K : List Tr → St → Prop} : frz1 (.ta ts) st K = K ts st := (rfl)
theorem r_frz2 {key : Nat} {K : List Tr → St → Prop} : frz1 (.ab (lvl, key) 0) ⟨lvl, env, loc, out⟩ K = frzg (lkO key loc) fun ts => K ts (kill (lvl, key) ⟨lvl, env, loc, out⟩) := by
  simp only [frz1, true_and]
  rw [show (⟨lvl, env, loc, out⟩ : St).sto (lvl, key) = lkO key loc from r_pack]
  generalize lkO key loc = o
  cases o with
  | none => rfl
  | some ob =>
    cases ob with
    | ar => rfl
    | bx cells =>
      simp only [frzg]
      generalize totrs cells = q
      cases q <;> rfl
theorem r_frzg {cells : List IV} {F : List Tr → Prop} : frzg (some (.bx cells)) F = frzt (totrs cells) F := (rfl)
theorem r_frzt {ts : List Tr} {q : Bool} {F : List Tr → Prop} : frzt (some (ts, q)) F = F ts := (rfl)
theorem r_mz {f : Nat} {cs : List X} : op2 C d (.mz f cs) ⟨lvl, env, loc, out⟩ K = frzs cs ⟨lvl, env, loc, out⟩ fun l st1 => kenv d (.fn f l) st1 K := by
  rw [op2_loud rfl]
  rfl
theorem r_frzl0 {K : List Tr → St → Prop} : frzl [] st K = K [] st := (rfl)
theorem r_frzl1 {x : IV} {r : List IV} {K : List Tr → St → Prop} : frzl (x :: r) st K = frzc x st fun t st1 => frzl r st1 fun ts st2 => K (t :: ts) st2 := (rfl)
def frzh (o : Option Ob) (len s : Nat) (F : Row → Prop) : Prop :=
  match o with
  | some (.ar _ zs _ hw _) => s = hw ∧ len = zs.length ∧ F zs
  | _ => False
theorem r_frzc1 {t : Tr} {K : Tr → St → Prop} : frzc (.tr t) st K = K t st := (rfl)
theorem r_frzc2 {es : Row} {K : Tr → St → Prop} : frzc (.cs es) st K = K (.sl es) st := (rfl)
theorem r_frzc3 {key len s : Nat} {K : Tr → St → Prop} : frzc (.hd (lvl, key) [] 0 len none s) ⟨lvl, env, loc, out⟩ K = frzh (lkO key loc) len s fun zs => K (.sl zs) (kill (lvl, key) ⟨lvl, env, loc, out⟩) := by
  simp only [frzc, true_and]
  rw [show (⟨lvl, env, loc, out⟩ : St).sto (lvl, key) = lkO key loc from r_pack]
  generalize lkO key loc = o
  cases o with
  | none => rfl
  | some ob => cases ob <;> rfl
theorem r_frzh {k len s hw ver : Nat} {zs : Row} {u : Bool} {F : Row → Prop} : frzh (some (.ar k zs u hw ver)) len s F = (s = hw ∧ len = zs.length ∧ F zs) := (rfl)
def lzg (o : Option Ob) (off m : Nat) (d : Option Nat) (st : St) (K : St → Prop) : Prop :=
  match o with
  | some (.bx cells) => off + m ≤ cells.length ∧ frzl ((cells.drop off).take m) st fun ts st1 => kenv d (.ag (ts.map .tr)) st1 K
  | _ => False
def lzf (v : IV) (m : Nat) (d : Option Nat) (st : St) (K : St → Prop) : Prop :=
  match v with
  | .ab id off => lzg (st.sto id) off m d st K
  | _ => False
theorem r_lz {m : Nat} : op2 C d (.lz m x) ⟨lvl, env, loc, out⟩ K = lzf (xv env x) m d ⟨lvl, env, loc, out⟩ K := by
  rw [op2_loud rfl]
  simp only [ew]
  generalize xv env x = v
  cases v <;> rfl
theorem r_lzf {key off m : Nat} : lzf (.ab (lvl, key) off) m d ⟨lvl, env, loc, out⟩ K = lzg (lkO key loc) off m d ⟨lvl, env, loc, out⟩ K := by
  simp only [lzf]
  rw [show (⟨lvl, env, loc, out⟩ : St).sto (lvl, key) = lkO key loc from r_pack]
theorem r_lzg {cells : List IV} {off m : Nat} : lzg (some (.bx cells)) off m d st K = (off + m ≤ cells.length ∧ frzl ((cells.drop off).take m) st fun ts st1 => kenv d (.ag (ts.map .tr)) st1 K) := (rfl)
def clg (o : Option Ob) (id : Oid) (off len s k : Nat) (d : Option Nat) (st : St) (K : St → Prop) : Prop :=
  match o with
  | some (.ar k2 es u hw ver) => k2 = k ∧ s = hw ∧ off + len = es.length ∧ kenv d (.tu []) (setOb st id (.ar k2 (es.take off) u hw (ver + 1))) K
  | _ => False
def clf (v : IV) (k : Nat) (d : Option Nat) (st : St) (K : St → Prop) : Prop :=
  match v with
  | .hd id p off len _ s => p = [] ∧ clg (st.sto id) id off len s k d st K
  | _ => False
theorem r_cl {k : Nat} {z : List Value} : op2 C d (.cl k z x) ⟨lvl, env, loc, out⟩ K = clf (xv env x) k d ⟨lvl, env, loc, out⟩ K := by
  rw [op2_loud rfl]
  simp only [ew]
  generalize xv env x = v
  cases v <;> try rfl
  rename_i id p off len cap s
  simp only [clf, clg]
  generalize (⟨lvl, env, loc, out⟩ : St).sto id = o
  cases o with
  | none => simp
  | some ob =>
    cases ob with
    | bx => simp
    | ar k2 es u hw ver => simp only [kenv_set]
theorem r_clf {id : Oid} {off len s k : Nat} {cap : Option Nat} : clf (.hd id [] off len cap s) k d ⟨lvl, env, loc, out⟩ K = clg (packS lvl loc out id) id off len s k d ⟨lvl, env, loc, out⟩ K := by
  simp only [clf, true_and]
  rfl
theorem r_clg {id : Oid} {off len s k k2 hw ver : Nat} {es : Row} {u : Bool} : clg (some (.ar k2 es u hw ver)) id off len s k d st K = (k2 = k ∧ s = hw ∧ off + len = es.length ∧ kenv d (.tu []) (setOb st id (.ar k2 (es.take off) u hw (ver + 1))) K) := (rfl)
def srk (off len : Nat) (F : Row → Prop) (es : Row) (_u : Bool) (_v : Nat) : Prop := off + len ≤ es.length ∧ F (cut es off len)
theorem r_srk {off len : Nat} {F : Row → Prop} {es : Row} {u : Bool} {v : Nat} : srk off len F es u v = (off + len ≤ es.length ∧ F (cut es off len)) := (rfl)
theorem r_src1 {zs : Row} {F : Row → Prop} : srcR st (.tr (.sl zs)) F = F zs := (rfl)
theorem r_src2 {zs : Row} {F : Row → Prop} : srcR st (.cs zs) F = F zs := (rfl)
theorem r_src3 {id : Oid} {p : Pth} {off len s : Nat} {cap : Option Nat} {F : Row → Prop} : srcR ⟨lvl, env, loc, out⟩ (.hd id p off len cap s) F = rd3 (packS lvl loc out id) p s (srk off len F) := by
  rw [← rdh_rd3]
  rfl
def cyk (es : Row) (u : Bool) (hw ver : Nat) (id : Oid) (off len k : Nat) (d : Option Nat) (st : St) (K : St → Prop) (zs : Row) : Prop :=
  ScR zs ∧ UnR k zs ∧ kenv d (iI (min zs.length len : Nat)) (setOb st id (.ar k (es.take off ++ zs.take len ++ es.drop (off + min zs.length len)) u hw (ver + 1))) K
theorem r_cyk {es : Row} {u : Bool} {hw ver : Nat} {id : Oid} {off len k : Nat} {zs : Row} : cyk es u hw ver id off len k d st K zs = (ScR zs ∧ UnR k zs ∧ kenv d (iI (min zs.length len : Nat)) (setOb st id (.ar k (es.take off ++ zs.take len ++ es.drop (off + min zs.length len)) u hw (ver + 1))) K) := (rfl)
def cyg (o : Option Ob) (id : Oid) (off len s k : Nat) (v : IV) (d : Option Nat) (st : St) (K : St → Prop) : Prop :=
  match o with
  | some (.ar k2 es u hw ver) => k2 = k ∧ s = hw ∧ off + len ≤ es.length ∧ ScR es ∧ srcR st v (cyk es u hw ver id off len k d st K)
  | _ => False
def cyf (x v : IV) (k : Nat) (d : Option Nat) (st : St) (K : St → Prop) : Prop :=
  match x with
  | .hd id p off len _ s => p = [] ∧ cyg (st.sto id) id off len s k v d st K
  | _ => False
theorem r_cy {k : Nat} : op2 C d (.cy k x y) ⟨lvl, env, loc, out⟩ K = cyf (xv env x) (xv env y) k d ⟨lvl, env, loc, out⟩ K := by
  rw [op2_loud rfl]
  simp only [ew]
  generalize xv env x = v
  cases v <;> try rfl
  rename_i id p off len cap s
  simp only [cyf, cyg]
  generalize (⟨lvl, env, loc, out⟩ : St).sto id = o
  cases o with
  | none => simp
  | some ob =>
    cases ob with
    | bx => simp
    | ar k2 es u hw ver =>
      dsimp only
      by_cases hk : k2 = k
      · subst hk
        have : (fun zs => ScR zs ∧ UnR k2 zs ∧ K { setOb ⟨lvl, env, loc, out⟩ id (.ar k2 (es.take off ++ zs.take len ++ es.drop (off + min zs.length len)) u hw (ver + 1)) with env := ptd d (iI (min zs.length len : Nat)) env }) = cyk es u hw ver id off len k2 d ⟨lvl, env, loc, out⟩ K := by
          funext zs
          simp only [cyk, kenv_set]
        rw [this]
      · simp [hk]
theorem r_cyf {id : Oid} {off len s k : Nat} {cap : Option Nat} {v : IV} : cyf (.hd id [] off len cap s) v k d ⟨lvl, env, loc, out⟩ K = cyg (packS lvl loc out id) id off len s k v d ⟨lvl, env, loc, out⟩ K := by
  simp only [cyf, true_and]
  rfl
theorem r_cyg {id : Oid} {off len s k k2 hw ver : Nat} {es : Row} {u : Bool} {v : IV} : cyg (some (.ar k2 es u hw ver)) id off len s k v d st K = (k2 = k ∧ s = hw ∧ off + len ≤ es.length ∧ ScR es ∧ srcR st v (cyk es u hw ver id off len k d st K)) := (rfl)
end row
theorem r_op3n {α : Type} {F : α → Prop} : op3 none F = False := (rfl)
end

abbrev tv (n : Int) : Tr := .v (.int .i64 n)
abbrev ts (s : ByteArray) : Tr := .v (.string s)
abbrev rI (l : List Int) : Row := l.map fun n => [tv n]
abbrev tI (l : List Int) : IV := .tr (.sl (rI l))
abbrev rS (l : List ByteArray) : Row := l.map fun n => [ts n]
abbrev tS (l : List ByteArray) : IV := .tr (.sl (rS l))

theorem fits_i64 (n : Int) : fits .i64 n = (-9223372036854775808 ≤ n ∧ n ≤ 9223372036854775807) := by
  simp [fits, IntKind.min, IntKind.max, IntKind.signed, IntKind.bits]
theorem UnR_map {α : Type} {k : Nat} (f : α → List Tr) (h : ∀ x, (f x).length = k) (l : List α) : UnR k (l.map f) := by
  intro e he
  obtain ⟨x, _, rfl⟩ := List.mem_map.1 he
  exact h x
end Go.Fd

namespace Go.Fd

def In (w : World) (b : Nat) : Prop := b < w.heap.size
def RowRd (w : World) (cs : List Value) (ts : List Tr) : Prop := ∀ (j : Nat) (v : Value) (t : Tr), cs[j]? = some v → ts[j]? = some t → Rds w (In w) v t
def Reads (P : Program) (t : TypeId) {α : Type} (c : α → List Tr) (Q : α → Prop) : Prop :=
  ∀ (H : Type) (enc : TypeId × Value → H) (w : World) (sp : Nat → Bool) (hd : Bool) (fuel : Nat) (cs : List Value) (x : DataW H × List MemPlace),
    DataW.trod enc P w 0 sp hd fuel t cs = some x → ∃ y, Q y ∧ RowRd w cs (c y)

theorem RowRd_one {w : World} {v : Value} {t : Tr} (h : Rds w (In w) v t) : RowRd w [v] [t] := fun j v' t' h1 h2 => by
  match j with
  | 0 => simp at h1 h2; subst h1; subst h2; exact h
  | j + 1 => simp at h1

theorem Reads_int {P : Program} {t : TypeId} (ht : P.underlying t = some (.int .i64)) : Reads P t (fun n : Int => [tv n]) (fits .i64) := by
  intro H enc w sp hd fuel cs x h
  obtain ⟨n, rfl, _, hw⟩ := DataW.trod_int ht h
  exact ⟨n, by simpa [Lit.wf, fits] using hw, RowRd_one (.v _ rfl)⟩
theorem Reads_string {P : Program} {t : TypeId} (ht : P.underlying t = some .string) : Reads P t (fun n : ByteArray => [ts n]) (fun n => n.size ≤ 9223372036854775807) := by
  intro H enc w sp hd fuel cs x h
  obtain ⟨n, rfl, _, hw⟩ := DataW.trod_string ht h
  exact ⟨n, hw, RowRd_one (.v _ rfl)⟩

theorem cell_lt {w : World} {a : Addr} {v : Value} (h : w.cell? a = some v) : a.block < w.heap.size := by
  unfold World.cell? at h
  cases hh : w.heap[a.block]? with
  | none => rw [hh] at h; cases h
  | some o => exact (Array.getElem?_eq_some_iff.1 hh).1

theorem choose_list {α : Type} (n : Nat) (R : Nat → α → Prop) (h : ∀ i, i < n → ∃ y, R i y) : ∃ l : List α, l.length = n ∧ ∀ i y, l[i]? = some y → R i y := by
  induction n with
  | zero => exact ⟨[], rfl, fun i y h => by simp at h⟩
  | succ n ih =>
    obtain ⟨l, hl, hr⟩ := ih (fun i hi => h i (by omega))
    obtain ⟨y, hy⟩ := h n (by omega)
    refine ⟨l ++ [y], by simp [hl], fun i z hz => ?_⟩
    by_cases hi : i < n
    · rw [List.getElem?_append_left (by omega)] at hz; exact hr i z hz
    · have hlt := (List.getElem?_eq_some_iff.1 hz).1
      simp only [List.length_append, List.length_singleton] at hlt
      have : i = n := by omega
      subst this
      rw [List.getElem?_append_right (by omega), hl, Nat.sub_self] at hz
      simp at hz
      exact hz ▸ hy

theorem Reads_slice {P : Program} {t e : TypeId} {k : Nat} {α : Type} {c : α → List Tr} {Q : α → Prop} (ht : P.underlying t = some (.slice e)) (hk : P.cellsOf e = k + 1) (hc : ∀ x, (c x).length = k + 1)
    (he : Reads P e c Q) : Reads P t (fun l : List α => [.sl (l.map c)]) (fun l => l.length ≤ 9223372036854775807 ∧ ∀ x ∈ l, Q x) := by
  intro H enc w sp hd fuel cs x h
  rcases DataW.trod_slice ht h with ⟨rfl, _⟩ | ⟨a, len, cap, elems, rest, n, _, rfl, _, _, hl, hm, hlen, hel, _, _⟩
  · exact ⟨[], ⟨by simp, by simp⟩, RowRd_one (.nil none 0)⟩
  · have each : ∀ i, i < len → ∃ y, Q y ∧ ∀ j t, (c y)[j]? = some t → ∃ v, w.cell? (a.add (i * (k + 1) + j)) = some v ∧ Rds w (In w) v t := fun i hi => by
      have h1 := hel i hi
      rw [hk] at h1
      obtain ⟨z, hz⟩ : ∃ z, elems[i]? = some z := ⟨elems[i]'(by omega), List.getElem?_eq_getElem _⟩
      rw [hz, Option.bind_eq_some_iff] at h1
      obtain ⟨row, hrow, hx⟩ := h1
      obtain ⟨y, hy, hr⟩ := he H enc w sp hd n row z hx
      obtain ⟨_, hrl, hg⟩ := World.cells?_some hrow
      refine ⟨y, hy, fun j t hj => ?_⟩
      have hjk : j < k + 1 := by rw [← hc y]; exact (List.getElem?_eq_some_iff.1 hj).1
      have hv : row[j]? = some (row[j]'(by omega)) := List.getElem?_eq_getElem _
      have := hg j hjk
      rw [hv] at this
      have e2 : (a.add (i * (k + 1))).add j = a.add (i * (k + 1) + j) := by
        unfold Addr.add
        by_cases h0 : i * (k + 1) = 0
        · simp [h0]
        · by_cases h1 : j = 0
          · simp [h1, h0]
          · have h2 : ¬ (i * (k + 1) + j = 0) := by omega
            simp only [if_neg h0, if_neg h1, if_neg h2, Addr.mk.injEq, and_true, true_and]
            omega
      rw [e2] at this
      exact ⟨_, this, hr j _ t hv hj⟩
    obtain ⟨l, hll, hlr⟩ := choose_list len _ each
    refine ⟨l, ⟨?_, fun y hy => ?_⟩, RowRd_one ?_⟩
    · rw [hll]; exact Nat.le_trans hl hm
    · obtain ⟨i, hi⟩ := List.getElem?_of_mem hy
      exact (hlr i y hi).1
    · by_cases h0 : len = 0
      · have : l = [] := List.eq_nil_of_length_eq_zero (by omega)
        subst this; subst h0
        exact .nil _ _
      · obtain ⟨y0, hy0⟩ : ∃ y0, l[0]? = some y0 := ⟨l[0]'(by omega), List.getElem?_eq_getElem _⟩
        obtain ⟨t0, ht0⟩ : ∃ t0, (c y0)[0]? = some t0 := ⟨(c y0)[0]'(by rw [hc]; omega), List.getElem?_eq_getElem _⟩
        obtain ⟨v0, hv0, _⟩ := (hlr 0 y0 hy0).2 0 t0 ht0
        obtain ⟨b, o, s⟩ := a
        have hs : s = none := by simpa [Addr.add] using World.cell?_spot hv0
        subst hs
        have hb : b < w.heap.size := by simpa [Addr.add] using cell_lt hv0
        have hel2 : ∀ i e j t, (l.map c)[i]? = some e → e[j]? = some t → ∃ v, w.cell? ⟨b, o + i * (k + 1) + j, none⟩ = some v ∧ Rds w (In w) v t := fun i e j t h1 h2 => by
          rw [List.getElem?_map, Option.map_eq_some_iff] at h1
          obtain ⟨y, hy, rfl⟩ := h1
          obtain ⟨v, hv, hr⟩ := (hlr i y hy).2 j t h2
          refine ⟨v, ?_, hr⟩
          rw [← hv]
          congr 1
          unfold Addr.add
          by_cases h0 : i * (k + 1) + j = 0
          · have : o + i * (k + 1) + j = o := by omega
            rw [if_pos h0, this]
          · rw [if_neg h0]
            have : o + i * (k + 1) + j = o + (i * (k + 1) + j) := by omega
            simp only [this]
        have hlm : (l.map c).length = len := by simpa using hll
        have := Rds.sl (w := w) (A := In w) b o cap (k + 1) (l.map c) (fun i j => (w.cell? ⟨b, o + i * (k + 1) + j, none⟩).getD .nilFunc) hb
          (fun e he => by simp only [List.mem_map] at he; obtain ⟨y, _, rfl⟩ := he; exact hc y) (by omega)
          (fun i e j t h1 h2 => by obtain ⟨v, hv, _⟩ := hel2 i e j t h1 h2; rw [hv]; rfl)
          (fun i e j t h1 h2 => by obtain ⟨v, hv, hr⟩ := hel2 i e j t h1 h2; rw [hv]; exact hr)
        rw [hlm] at this
        exact this

def ReadsP (P : Program) (o : Nat) (l : List (Nat × TypeId)) {α : Type} (c : α → List Tr) (Q : α → Prop) : Prop :=
  ∀ (H : Type) (enc : TypeId × Value → H) (w : World) (sp : Nat → Bool) (hd : Bool) (fuel : Nat) (cs : List Value),
    (∀ p ∈ l, ∃ x, DataW.trod enc P w 0 sp hd fuel p.2 ((cs.drop p.1).take (P.cellsOf p.2)) = some x) → ∃ y, Q y ∧ RowRd w (cs.drop o) (c y)
theorem ReadsP_nil {P : Program} {o : Nat} : ReadsP P o [] (fun _ : Unit => []) (fun _ => True) := fun H enc w sp hd fuel cs _ => ⟨(), trivial, fun j v t _ h => by simp at h⟩
theorem ReadsP_cons {P : Program} {o k : Nat} {t : TypeId} {l : List (Nat × TypeId)} {α β : Type} {c : α → List Tr} {Q : α → Prop} {c2 : β → List Tr} {Q2 : β → Prop}
    (hk : P.cellsOf t = k) (hc : ∀ x, (c x).length = k) (h1 : Reads P t c Q) (h2 : ReadsP P (o + k) l c2 Q2) :
    ReadsP P o ((o, t) :: l) (fun p : α × β => c p.1 ++ c2 p.2) (fun p => Q p.1 ∧ Q2 p.2) := fun H enc w sp hd fuel cs h => by
  obtain ⟨x, hx⟩ := h (o, t) (by simp)
  obtain ⟨y, hy, hr⟩ := h1 _ _ _ _ _ _ _ _ hx
  obtain ⟨y2, hy2, hr2⟩ := h2 H enc w sp hd fuel cs (fun p hp => h p (by simp [hp]))
  refine ⟨(y, y2), ⟨hy, hy2⟩, fun j v t' hv ht => ?_⟩
  by_cases hj : j < k
  · rw [List.getElem?_append_left (by rw [hc]; exact hj)] at ht
    refine hr j v t' ?_ ht
    rw [hk, List.getElem?_take_of_lt hj]
    exact hv
  · rw [List.getElem?_append_right (by rw [hc]; omega), hc] at ht
    refine hr2 (j - k) v t' ?_ ht
    rw [List.getElem?_drop] at hv ⊢
    rw [← hv]
    congr 1
    omega
theorem Reads_struct {P : Program} {t : TypeId} {fs : Array Field} {α : Type} {c : α → List Tr} {Q : α → Prop} (ht : P.underlying t = some (.struct fs)) (h : ReadsP P 0 (fs.toList.map fun f => (f.offset, f.type)) c Q) : Reads P t c Q := by
  intro H enc w sp hd fuel cs x hx
  obtain ⟨xs, n, _, _, _, hl, hf⟩ := DataW.trod_struct ht hx
  have := h H enc w sp hd n cs (fun p hp => by
    simp only [List.mem_map] at hp
    obtain ⟨f, hf1, rfl⟩ := hp
    obtain ⟨i, hi⟩ := List.getElem?_of_mem hf1
    have hi' : fs[i]? = some f := by simpa using hi
    have hlt : i < xs.length := by rw [hl]; exact (Array.getElem?_eq_some_iff.1 hi').1
    exact ⟨_, (hf i f hi').trans (List.getElem?_eq_getElem hlt)⟩)
  simpa using this
theorem Reads_map {P : Program} {t : TypeId} {α β : Type} {c : α → List Tr} {Q : α → Prop} {c2 : β → List Tr} {Q2 : β → Prop} (g : α → β) (hg : ∀ x, c2 (g x) = c x) (hq : ∀ x, Q x → Q2 (g x)) (h : Reads P t c Q) : Reads P t c2 Q2 := by
  intro H enc w sp hd fuel cs x hx
  obtain ⟨y, hy, hr⟩ := h H enc w sp hd fuel cs x hx
  exact ⟨g y, hq y hy, by rw [hg]; exact hr⟩
theorem Reads_mp {P : Program} {t : TypeId} {α β : Type} {c : α → List Tr} {Q : α → Prop} {c2 : β → List Tr} {Q2 : β → Prop} (h : Reads P t c Q) (g : α → β) (hg : ∀ x, c2 (g x) = c x) (hq : ∀ x, Q x → Q2 (g x)) : Reads P t c2 Q2 := Reads_map g hg hq h
end Go.Fd

namespace Go.Fd
open Go.RowKit

def G0 : Gh := fun _ _ => none
def S0 : Sto := fun _ => none
theorem Av0 {w : World} {b : Nat} (h : In w b) : Av G0 S0 w b := ⟨h, fun id ob hs => by cases hs⟩
theorem calls_of_sem {P : Program} {f : FuncId} {args : List IV} {b : Bool} {w : World} {vs : List Value} (h : Sem P f 0 args S0 (iB b) S0) (hv : VRs G0 S0 w args vs) :
    Calls P f vs.toArray w fun e w' => e = .returned (.bool b) ∧ Below w.heap.size w w' := by
  obtain ⟨_, _, h⟩ := h
  refine (h (fun id ob hs => by cases hs) G0 w vs ⟨fun id ob hs => (nomatch hs), fun id ob id2 ob2 b2 hs => (nomatch hs), fun id cells hs => (nomatch hs)⟩ hv).mono ?_
  rintro e w' ⟨v, G', rfl, _, hr, _, hf⟩
  have hr' : Rds w' (Av G' (addS S0 0 0 (impv true 0 0 0 (iB b)).2) w') v (.v (.bool b)) := hr
  cases hr' with
  | v x hx =>
    exact ⟨rfl, hf.os, hf.tape, hf.output, hf.size, fun k hk => hf.old k hk (fun id ob hs => by cases hs)⟩

theorem arg_slice {P : Program} {w : World} {r : Reach} {base : Nat} {t e : TypeId} {v : Value} (ht : P.underlying t = some (.slice e)) (h : Value.okWide P w r base t v) : v.cells.toList = [v] := by
  unfold Value.okWide at h
  rw [ht] at h
  simp only [Cell.okWide, ht, Cell.ok] at h
  cases v <;> first | rfl | exact absurd h (by simp)
section
variable {H : Type} {enc : TypeId × Value → H} {P : Program} {w : World} {t : TypeId} {v : Value} {d : DataW H} {p : List MemPlace} {α : Type} {c : α → List Tr} {Q : α → Prop} {sp : Nat → Bool} {hd : Bool} {base : Nat}
theorem VR_slice {e : TypeId} {g : α → Tr} (hr : Reads P t (fun x => [g x]) Q) (ht : P.underlying t = some (.slice e)) (hok : Value.okWide P w .any base t v) (h : DataW.Trod enc P w 0 sp hd t v d p) :
    ∃ y, Q y ∧ VR G0 S0 w (.tr (g y)) v := by
  obtain ⟨n, hn⟩ := h
  rw [arg_slice ht hok] at hn
  obtain ⟨y, hy, hrow⟩ := hr H enc w sp hd n _ _ hn
  refine ⟨y, hy, ?_⟩
  simp only [VR]
  exact Rds.mono (fun b => Av0) (fun b _ => rfl) (hrow 0 v _ rfl rfl)
end

theorem post_of_below {H : Type} {enc : TypeId × Value → H} {P : Program} {f : Func} {s : ChangeSpec} {apart : Bool} {W W' : World} {args : Array Value} {v : Value} {ds gs : List (DataW H)} {before pa pv : List MemPlace}
    (hW : DataW.Whole enc P f.params.toList s.vars apart W args.toList ds gs before) (hb : Below W.heap.size W W')
    (hres : DataW.TrodAll enc P W' W.heap.size (fun _ => false) false f.resultTypes.toList (v.resultList f.resultTypes.size) (s.fn H (ds ++ gs)).results [])
    (hargs : DataW.TrodAll enc P W' 0 (fun b => decide (b < W.heap.size)) true f.params.toList args.toList (s.fn H (ds ++ gs)).args pa)
    (hvars : DataW.TrodVars enc P W' (fun b => decide (b < W.heap.size)) s.vars (s.fn H (ds ++ gs)).vars pv) :
    s.post enc P f apart true false false W args v W' :=
  ⟨ds, gs, before, [], pa, pv, hW, hres, hargs, hvars, hb.frame _, fun h => by cases h⟩
end Go.Fd

namespace Go.Fd
open Go.RowKit

theorem ext_of_below {w w' : World} (h : Below w.heap.size w w') : Ext w w' := ⟨h.size, h.block, h.os, h.tape, h.output⟩
theorem VRs_scal {G : Gh} {S : Sto} {w : World} : ∀ {xs vs : List Value}, VRs G S w (xs.map fun v => .tr (.v v)) vs → vs = xs
  | [], vs, h => by simpa [VRs] using h
  | x :: r, vs, h => by
    simp only [List.map_cons, VRs] at h
    obtain ⟨v, vr, rfl, h1, h2⟩ := h
    rw [VRs_scal h2]
    have h1' : Rds w (Av G S w) v (.v x) := h1
    cases h1'
    rfl
theorem sem_of_ext {P : Program} {f : FuncId} {lvl : Nat} {S : Sto} {args : List IV} {r : IV} (hc : Callable P f) (hi : impv true lvl 0 0 r = (r, [])) (hlow : low lvl r)
    (h : (∀ id ob, S id = some ob → id.1 < lvl) → ∀ G w vs, SOk G S w → VRs G S w args vs → Calls P f vs.toArray w fun e w' => ∃ v, e = .returned v ∧ VR G S w' r v ∧ Below w.heap.size w w') : Sem P f lvl args S r S := by
  refine ⟨hlow, hc, fun hS G w vs hok hv => ?_⟩
  refine (h hS G w vs hok hv).mono ?_
  rintro e w' ⟨v, rfl, hr, hb⟩
  rw [hi]
  have e : Ext w w' := ext_of_below hb
  exact ⟨v, G, rfl, hok.ext e, hr, hS, Frm.of_ext e⟩
theorem sem_of_scal {P : Program} {f : FuncId} {lvl : Nat} {S : Sto} {xs : List Value} {y : Value} (hc : Callable P f) (hy : scal y = true)
    (h : ∀ w, Calls P f xs.toArray w fun e w' => e = .returned y ∧ Below w.heap.size w w') : Sem P f lvl (xs.map fun v => .tr (.v v)) S (.tr (.v y)) S := by
  refine sem_of_ext hc rfl trivial fun _ G w vs _ hv => ?_
  rw [VRs_scal hv]
  exact (h w).mono fun e w' ⟨h1, h2⟩ => ⟨y, h1, .v y hy, h2⟩
end Go.Fd

namespace Go.Fd

def pts : List (Nat × IV) → List (Nat × IV) → List (Nat × IV)
  | [], env => env
  | (t, x) :: r, env => pts r (pt t x env)
def ptOs : List (Nat × Ob) → List (Nat × Ob) → List (Nat × Ob)
  | [], loc => loc
  | (t, x) :: r, loc => ptOs r (ptO t x loc)
def chg (ce : List (Nat × IV)) (co : List (Nat × Ob)) (s : St) : St := ⟨s.lvl, pts ce s.env, ptOs co s.loc, s.out⟩
section
variable {C : Contract} {lvl : Nat} {env : List (Nat × IV)} {loc : List (Nat × Ob)} {out : Sto} {st : St} {Q : Ex → St → Prop}
theorem r_chg {ce : List (Nat × IV)} {co : List (Nat × Ob)} : chg ce co ⟨lvl, env, loc, out⟩ = ⟨lvl, pts ce env, ptOs co loc, out⟩ := (rfl)
theorem r_pts0 : pts [] env = env := (rfl)
theorem r_pts1 {t : Nat} {x : IV} {r : List (Nat × IV)} : pts ((t, x) :: r) env = pts r (pt t x env) := (rfl)
theorem r_ptOs0 : ptOs [] loc = loc := (rfl)
theorem r_ptOs1 {t : Nat} {x : Ob} {r : List (Nat × Ob)} : ptOs ((t, x) :: r) loc = ptOs r (ptO t x loc) := (rfl)
theorem wp_cnt {α : Type} {ks js : List Nat} {c : C2} (N : Nat) (ce : Nat → α → List (Nat × IV)) (co : Nat → α → List (Nat × Ob)) (A : Nat → α → Prop) (x0 : α)
    (h1 : clean ks js st) (h0 : fgt ks js st = chg (ce 0 x0) (co 0 x0) (fgt ks js st)) (hA : A 0 x0)
    (hs : ∀ k x, k ≤ N → A k x → wp C c (chg (ce k x) (co k x) (fgt ks js st)) (kround ks js (cntJ N (fun k x => chg (ce k x) (co k x) (fgt ks js st)) A (N - k)) Q)) : wp C (.lp ks js c) st Q :=
  wp_count N (fun k x => chg (ce k x) (co k x) (fgt ks js st)) A x0 ⟨h1, h0⟩ hA hs
end

section
variable {L : Sto} {F : List IV → Prop} {r : List IV}
def kabn (L : Sto) (r : List IV) (F : List IV → Prop) (y : IV) : Prop := snaps L r (kcn y F)
theorem r_kabn {y : IV} : kabn L r F y = snaps L r (kcn y F) := (rfl)
theorem r_sn9 {id : Oid} {off : Nat} : snaps L (.ab id off :: r) F = snapb (L id) L off (kabn L r F) := by simp only [snaps, snap]; rfl
def kta (F : IV → Prop) (ts : List Tr) : Prop := F (.ta ts)
theorem r_kta {F : IV → Prop} {ts : List Tr} : kta F ts = F (.ta ts) := (rfl)
theorem r_snb {cells : List IV} {off : Nat} {F : IV → Prop} : snapb (some (.bx cells)) L off F = snapcs L (cells.drop off) (kta F) := (rfl)
def kct (t : Tr) (F : List Tr → Prop) (ts : List Tr) : Prop := F (t :: ts)
theorem r_kct {t : Tr} {F : List Tr → Prop} {ts : List Tr} : kct t F ts = F (t :: ts) := (rfl)
def ksnc (L : Sto) (r : List IV) (F : List Tr → Prop) (t : Tr) : Prop := snapcs L r (kct t F)
theorem r_ksnc {F : List Tr → Prop} {t : Tr} : ksnc L r F t = snapcs L r (kct t F) := (rfl)
theorem r_snc0 {F : List Tr → Prop} : snapcs L [] F = F [] := (rfl)
theorem r_snc1 {x : IV} {F : List Tr → Prop} : snapcs L (x :: r) F = snapc L x (ksnc L r F) := (rfl)
theorem r_snct {t : Tr} {F : Tr → Prop} : snapc L (.tr t) F = F t := (rfl)
theorem r_sncc {es : Row} {F : Tr → Prop} : snapc L (.cs es) F = F (.sl es) := (rfl)
def ksnh (off len : Nat) (F : Tr → Prop) (es : Row) (_u : Bool) (_v : Nat) : Prop := off + len ≤ es.length ∧ F (.sl (cut es off len))
theorem r_ksnh {off len : Nat} {F : Tr → Prop} {es : Row} {u : Bool} {v : Nat} : ksnh off len F es u v = (off + len ≤ es.length ∧ F (.sl (cut es off len))) := (rfl)
theorem r_snch {id : Oid} {p : Pth} {off len s : Nat} {cap : Option Nat} {F : Tr → Prop} : snapc L (.hd id p off len cap s) F = rd3 (L id) p s (ksnh off len F) := by rw [← rdh_rd3]; rfl
end

theorem r_rep1 {α : Type} {x : α} : List.replicate 1 x = [x] := (rfl)
theorem r_cut1 {e : List Tr} : cut [e] 0 1 = [e] := (rfl)
theorem r_scr1 {l : List Tr} : ScR [l] = (l.all isSc = true) := by
  apply propext
  constructor
  · intro h
    exact List.all_eq_true.2 fun t ht => h l (by simp) t ht
  · intro h e he t ht
    simp only [List.mem_singleton] at he
    subst he
    exact List.all_eq_true.1 h t ht
theorem r_unr1 {k : Nat} {l : List Tr} : UnR k [l] = (l.length = k) := by
  apply propext
  constructor
  · intro h; exact h l (by simp)
  · intro h e he
    simp only [List.mem_singleton] at he
    rw [he, h]
theorem r_max {j : Nat} : max j (j + 1) = j + 1 := by omega
theorem r_lt1 {j : Nat} : (j < j + 1) = True := by simp
end Go.Fd

namespace Go.Fd
open Go.RowKit Go.ChangeShapes Go.ChangeMaps Go.WideMaps
section
variable {H : Type} {enc : TypeId × Value → H} {P : Program} {w : World} {t : TypeId} {v : Value} {d : DataW H} {p : List MemPlace} {sp : Nat → Bool} {hd : Bool} {base : Nat}
end
end Go.Fd

namespace Go.Fd
set_option linter.defProp false in
def EV0 := (And.intro (And.intro (And.intro (And.intro (And.intro @r_cons @r_nil) (And.intro @r_kont (And.intro @r_seq1 @r_seq2))) (And.intro (And.intro @r_seq3 @r_blk1) (And.intro @r_blk2 (And.intro @r_blk3 @r_fn1)))) (And.intro (And.intro (And.intro @r_fn2 @r_fn3) (And.intro @r_sk (And.intro @r_rg @r_sq))) (And.intro (And.intro @r_bl @r_ex) (And.intro @r_rt (And.intro @r_fg @r_cd))))) (And.intro (And.intro (And.intro (And.intro @r_cd2 @r_wpF) (And.intro @r_op1 (And.intro @r_op1g @r_gd))) (And.intro (And.intro @r_gdu @r_go1) (And.intro @r_mv (And.intro @r_mvn @r_mvn1)))) (And.intro (And.intro (And.intro @r_bx @r_bx1) (And.intro @r_bv (And.intro @r_bv1 @r_bt))) (And.intro (And.intro @r_bt1 @r_al) (And.intro @r_bd (And.intro @r_bs @r_fills0))))))
set_option linter.defProp false in
def EV1 := (And.intro (And.intro (And.intro (And.intro (And.intro @r_fills1 @r_fl2) (And.intro @r_kfill (And.intro @r_ms @r_ms1))) (And.intro (And.intro @r_bi @r_add0) (And.intro @r_sub0 (And.intro @r_mul0 @r_add1)))) (And.intro (And.intro (And.intro @r_sub1 @r_mul1) (And.intro @r_quo (And.intro @r_rem @r_eqi))) (And.intro (And.intro @r_nei @r_lti) (And.intro @r_lei (And.intro @r_gti @r_gei))))) (And.intro (And.intro (And.intro (And.intro @r_eqb @r_neb) (And.intro @r_eqn (And.intro @r_nen @r_eqe))) (And.intro (And.intro @r_nee @r_adds) (And.intro @r_eqs (And.intro @r_nes @r_lts)))) (And.intro (And.intro (And.intro @r_gts @r_les) (And.intro @r_ges (And.intro @r_qa @r_nt))) (And.intro (And.intro @r_nt1 @r_ng) (And.intro @r_ng1 (And.intro @r_cv @r_cv1))))))
set_option linter.defProp false in
def EV2 := (And.intro (And.intro (And.intro (And.intro (And.intro @r_cv2 @r_cv3) (And.intro @r_cv4 (And.intro @r_mf @r_mf1))) (And.intro (And.intro @r_ln @r_ln1) (And.intro @r_ln2 (And.intro @r_ln3 @r_lg)))) (And.intro (And.intro (And.intro @r_lg1 @r_la) (And.intro @r_mm (And.intro @r_mm1 @r_mm2))) (And.intro (And.intro @r_pk @r_pkt) (And.intro @r_pkf (And.intro @r_op3 @r_xt))))) (And.intro (And.intro (And.intro (And.intro @r_xt1 @r_nc) (And.intro @r_nc1 (And.intro @r_nc2 @r_nc3))) (And.intro (And.intro @r_fa @r_fa1) (And.intro @r_fa2 (And.intro @r_fa3 @r_fd)))) (And.intro (And.intro (And.intro @r_fd1 @r_fd2) (And.intro @r_ixn (And.intro @r_ia @r_iae))) (And.intro (And.intro @r_ia1 @r_ia2) (And.intro @r_rde (And.intro @r_rd3 @r_stamp0))))))
set_option linter.defProp false in
def EV3 := (And.intro (And.intro (And.intro (And.intro (And.intro @r_stamp1 @r_iah) (And.intro @r_iah2 (And.intro @r_ia3 @r_ja))) (And.intro (And.intro @r_ja1 @r_ja2) (And.intro @r_ja3 (And.intro @r_ixb @r_ix)))) (And.intro (And.intro (And.intro @r_ix1 @r_jx) (And.intro @r_jx1 (And.intro @r_jx2 @r_pack))) (And.intro (And.intro @r_setOb @r_kill) (And.intro @r_sto (And.intro @r_sset @r_ltr))))) (And.intro (And.intro (And.intro (And.intro @r_lab @r_lae) (And.intro @r_lae2 (And.intro @r_lae3 @r_lmae))) (And.intro (And.intro @r_lmae2 @r_ld) (And.intro @r_ld1 (And.intro @r_ld2 @r_ld3)))) (And.intro (And.intro (And.intro @r_ld4 @r_labm) (And.intro @r_ld5 (And.intro @r_ld6 @r_bn0))) (And.intro (And.intro @r_bn1 @r_sxt) (And.intro @r_sxt2 (And.intro @r_sxt3 @r_sxh))))))
set_option linter.defProp false in
def EV4 := (And.intro (And.intro (And.intro (And.intro (And.intro @r_sxh2 @r_sxh3) (And.intro @r_sx (And.intro @r_sx1 @r_sx2))) (And.intro (And.intro @r_sx3 @r_sst) (And.intro @r_sst2 (And.intro @r_ss @r_ss1)))) (And.intro (And.intro (And.intro @r_sa @r_sa1) (And.intro @r_sby (And.intro @r_sbh @r_sb))) (And.intro (And.intro @r_sb1 @r_sb2) (And.intro @r_sb3 (And.intro @r_kcn @r_kagn))))) (And.intro (And.intro (And.intro (And.intro @r_kfnn @r_khdn) (And.intro @r_sn0 (And.intro @r_sn1 @r_sn2))) (And.intro (And.intro @r_sn3 @r_sn4) (And.intro @r_sn5 (And.intro @r_sn6 @r_sn7)))) (And.intro (And.intro (And.intro @r_sn8 @r_ca) (And.intro @r_ca1 (And.intro @r_cae @r_cae1))) (And.intro (And.intro @r_cas @r_cas1) (And.intro @r_cak (And.intro @r_cak1 @r_cay))))))
set_option linter.defProp false in
def EV5 := (And.intro (And.intro (And.intro (And.intro (And.intro @r_cay1 @r_fin) (And.intro @r_kfe0 (And.intro @r_kfe1 @r_kfe2))) (And.intro (And.intro @r_kcx @r_exps0) (And.intro @r_exps1 (And.intro @r_kex @r_exp1)))) (And.intro (And.intro (And.intro @r_exbc @r_exb1) (And.intro @r_exb2 (And.intro @r_exp2 @r_exc))) (And.intro (And.intro @r_kagx @r_expv1) (And.intro @r_expv2 (And.intro @r_expv3 @r_expv4))))) (And.intro (And.intro (And.intro (And.intro @r_expv5 @r_expv6) (And.intro @r_expv7 (And.intro @r_kxc @r_expcs0))) (And.intro (And.intro @r_expcs1 @r_expc1) (And.intro @r_expc2 (And.intro @r_expc3 @r_expc4)))) (And.intro (And.intro (And.intro @r_expc4a @r_expc4b) (And.intro @r_expc4c (And.intro @r_expc4d @r_expc4e))) (And.intro (And.intro @r_expc4f @r_expc5) (And.intro @r_expc6 (And.intro @r_expc7 @r_exh0))))))
set_option linter.defProp false in
def EV6 := (And.intro (And.intro (And.intro (And.intro (And.intro @r_exh1 @r_fgt) (And.intro @r_clean (And.intro @r_okm1 @r_okm2))) (And.intro (And.intro @r_okm2s @r_okm3) (And.intro @r_okm4 (And.intro @r_okm5 @r_okm6)))) (And.intro (And.intro (And.intro @r_okm7 @r_okm8) (And.intro @r_okm9 (And.intro @r_okm10 @r_okm11))) (And.intro (And.intro @r_okms0 @r_okms1) (And.intro @r_okE0 (And.intro @r_okE1 @r_okL0))))) (And.intro (And.intro (And.intro (And.intro @r_okL1 @r_okL2) (And.intro @r_round1 (And.intro @r_round2 @r_round3))) (And.intro (And.intro @r_st @r_st1) (And.intro @r_st2 (And.intro @r_stb @r_setAt0)))) (And.intro (And.intro (And.intro @r_setAt1 @r_lows0) (And.intro @r_lows1 (And.intro @r_low1 @r_low2))) (And.intro (And.intro @r_low3 @r_low4) (And.intro @r_low5 (And.intro @r_low6 @r_low7))))))
set_option linter.defProp false in
def EV7 := (And.intro (And.intro (And.intro (And.intro (And.intro @r_low8 @r_low9) (And.intro @r_low10 (And.intro @r_kst @r_stcs0))) (And.intro (And.intro @r_stcs1 @r_sc1) (And.intro @r_sc3 (And.intro @r_sc4 @r_sc2)))) (And.intro (And.intro (And.intro @r_sc2a @r_sc2b) (And.intro @r_sc2c (And.intro @r_sc5 @r_bw))) (And.intro (And.intro @r_kbw @r_bw1) (And.intro @r_bw2 (And.intro @r_kmv @r_kmc))))) (And.intro (And.intro (And.intro (And.intro @r_mvcs0 @r_mvcs1) (And.intro @r_mvc1 (And.intro @r_mvc2 @r_mvc3))) (And.intro (And.intro @r_mvc4 @r_mv5) (And.intro @r_isHd (And.intro @r_sall0 @r_sall1)))) (And.intro (And.intro (And.intro @r_smp1 @r_smp2) (And.intro @r_s0 (And.intro @r_a0 @r_isTs1))) (And.intro (And.intro @r_isTs2 @r_a1) (And.intro @r_az (And.intro @r_az1 @r_tbx))))))
set_option linter.defProp false in
def EV8 := (And.intro (And.intro (And.intro (And.intro (And.intro @r_lt @r_tcs1) (And.intro @r_tcs2 (And.intro @r_sy @r_swx1))) (And.intro (And.intro @r_swx2 @r_swx3) (And.intro @r_widO (And.intro @r_widn @r_sw)))) (And.intro (And.intro (And.intro @r_it @r_apgo) (And.intro @r_apx1 (And.intro @r_apx2 @r_aph))) (And.intro (And.intro @r_ap @r_ap0) (And.intro @r_ap1 (And.intro @r_ap0c @r_ap1c))))) (And.intro (And.intro (And.intro (And.intro @r_kap @r_ap0h) (And.intro @r_ap2h (And.intro @r_ap5 @r_kaps))) (And.intro (And.intro @r_aps @r_ap2s) (And.intro @r_snm (And.intro @r_mensm @r_nl)))) (And.intro (And.intro (And.intro @r_nl1 @r_nl2) (And.intro @r_kenv (And.intro @r_cp @r_cp1))) (And.intro (And.intro @r_sh @r_shf) (And.intro @r_shc (And.intro @r_shg @r_fz))))))
set_option linter.defProp false in
def EV9 := (And.intro (And.intro (And.intro (And.intro (And.intro @r_fzf @r_fzg) (And.intro @r_drp0 (And.intro @r_drp1 @r_rk))) (And.intro (And.intro @r_rkf @r_rkg) (And.intro @r_frzs0 (And.intro @r_frzs1 @r_frz1)))) (And.intro (And.intro (And.intro @r_frz2 @r_frzg) (And.intro @r_frzt (And.intro @r_mz @r_frzl0))) (And.intro (And.intro @r_frzl1 @r_frzc1) (And.intro @r_frzc2 (And.intro @r_frzc3 @r_frzh))))) (And.intro (And.intro (And.intro (And.intro @r_lz @r_lzf) (And.intro @r_lzg (And.intro @r_cl @r_clf))) (And.intro (And.intro @r_clg @r_srk) (And.intro @r_src1 (And.intro @r_src2 @r_src3)))) (And.intro (And.intro (And.intro @r_cyk @r_cy) (And.intro @r_cyf (And.intro @r_cyg @r_op3n))) (And.intro (And.intro @r_chg @r_pts0) (And.intro @r_pts1 (And.intro @r_ptOs0 @r_ptOs1))))))
set_option linter.defProp false in
def EV10 := (And.intro (And.intro (And.intro (And.intro (And.intro @r_kabn @r_sn9) (And.intro @r_kta (And.intro @r_snb @r_kct))) (And.intro (And.intro @r_ksnc @r_snc0) (And.intro @r_snc1 (And.intro @r_snct @r_sncc)))) (And.intro (And.intro (And.intro @r_ksnh @r_snch) (And.intro @r_rep1 (And.intro @r_cut1 @r_scr1))) (And.intro (And.intro @r_unr1 @r_max) (And.intro @r_lt1 (And.intro @bigN.eq_1 @fpart.eq_1))))) (And.intro (And.intro (And.intro (And.intro @fpart.eq_2 @okp.eq_1) (And.intro @okp.eq_2 (And.intro @zfill.eq_1 @zfill.eq_2))) (And.intro (And.intro @zobs.eq_1 @ptd.eq_1) (And.intro @ptd.eq_2 (And.intro @keyOf.eq_1 @keyOf.eq_2)))) (And.intro (And.intro (And.intro @freshK.eq_1 @freshK.eq_2) (And.intro @lk.eq_1 (And.intro @lk.eq_2 @pt.eq_1))) (And.intro (And.intro @pt.eq_2 @lkO.eq_1) (And.intro @lkO.eq_2 (And.intro @ptO.eq_1 @ptO.eq_2))))))
set_option linter.defProp false in
def EV11 := (And.intro (And.intro (And.intro (And.intro (And.intro @addO.eq_1 @addO.eq_2) (And.intro @xv.eq_1 (And.intro @xv.eq_2 @xv.eq_3))) (And.intro (And.intro @kv.eq_1 @kv.eq_2) (And.intro @kc.eq_1 (And.intro @kc.eq_2 @params.eq_1)))) (And.intro (And.intro (And.intro @params.eq_2 @trv.eq_1) (And.intro @trv.eq_2 (And.intro @List.length_cons.{0} @List.length_nil.{0}))) (And.intro (And.intro @Option.getD_some.{0} @Option.getD_none.{0}) (And.intro @true_and (And.intro @and_true @decide_eq_true_eq))))) (And.intro (And.intro (And.intro (And.intro @decide_true @decide_false) (And.intro @Option.map_some.{0, 0} (And.intro @Option.map_none.{0, 0} @Option.isSome_some.{0}))) (And.intro (And.intro @Option.isSome_none.{0} @Option.isNone_some.{0}) (And.intro @Option.isNone_none.{0} (And.intro @List.map_cons.{0, 0} @List.map_nil.{0, 0})))) (And.intro (And.intro (And.intro @List.cons_append.{0} @List.nil_append.{0}) (And.intro @List.getElem?_cons_zero.{0} (And.intro @List.getElem?_cons_succ.{0} @List.drop_succ_cons.{0}))) (And.intro (And.intro @List.drop_zero.{0} @List.take_succ_cons.{0}) (And.intro @List.take_zero.{0} (And.intro @List.headD_cons.{0} @List.headD_nil.{0}))))))
set_option linter.defProp false in
def EV12 := (And.intro (And.intro (And.intro (And.intro (And.intro @List.tail_cons.{0} @List.tail_nil.{0}) (And.intro @noSh.eq_1 (And.intro @noSh.eq_2 @noSh.eq_3))) (And.intro (And.intro @noSh.eq_4 @noSh.eq_5) (And.intro @noSh.eq_6 (And.intro @noSh.eq_7 @noSh.eq_8)))) (And.intro (And.intro (And.intro @noShs.eq_1 @noShs.eq_2) (And.intro @isSc.eq_1 (And.intro @isSc.eq_2 @impv.eq_1))) (And.intro (And.intro @impv.eq_2 @impv.eq_3) (And.intro @impv.eq_4 (And.intro @impvs.eq_1 @impvs.eq_2))))) (And.intro (And.intro (And.intro (And.intro @impc.eq_1 @impc.eq_2) (And.intro @memB.eq_1 (And.intro @memB.eq_2 @keepB.eq_1))) (And.intro (And.intro @keepB.eq_2 @keepOB.eq_1) (And.intro @keepOB.eq_2 (And.intro @or_true @true_or)))) (And.intro (And.intro (And.intro @or_false @false_or) (And.intro @Bool.false_eq_true (And.intro @Bool.true_eq_false @if_true.{1}))) (And.intro (And.intro @if_false.{1} @Bool.not_true) (And.intro @Bool.not_false (And.intro @scrE.eq_1 @scrE.eq_2))))))
set_option linter.defProp false in
def EV13 := (And.intro (And.intro (And.intro (And.intro (And.intro @scrL.eq_1 @scrL.eq_2) (And.intro @scr.eq_1 (And.intro @scr.eq_2 @scr.eq_3))) (And.intro (And.intro @scr.eq_4 @scr.eq_5) (And.intro @scr.eq_6 (And.intro @scr.eq_7 @scr.eq_8)))) (And.intro (And.intro (And.intro @scrs.eq_1 @scrs.eq_2) (And.intro @scrOb.eq_1 (And.intro @scrOb.eq_2 @rmO.eq_1))) (And.intro (And.intro @rmO.eq_2 @Int.toNat_natCast) (And.intro @Int.toNat_zero (And.intro @Int.toNat_one @List.all_cons.{0}))))) (And.intro (And.intro (And.intro (And.intro @List.all_nil.{0} @isCell.eq_1) (And.intro @isCell.eq_2 (And.intro @isCell.eq_3 @isCell.eq_4))) (And.intro (And.intro @isCell.eq_5 @isCell.eq_6) (And.intro @Bool.and_true (And.intro @Bool.true_and @Bool.and_self)))) (And.intro (And.intro (And.intro @cellsOf.eq_1 @cellsOf.eq_2) (And.intro @totr.eq_1 (And.intro @totr.eq_2 @totr.eq_3))) (And.intro (And.intro @totr.eq_4 @totr.eq_5) (And.intro @totrs.eq_1 (And.intro @totrs.eq_2 @tocs.eq_1))))))
set_option linter.defProp false in
def EV14 := (And.intro (And.intro (And.intro (And.intro @getp.eq_1 (And.intro @getp.eq_2 @cvt.eq_1)) (And.intro @cvt.eq_2 (And.intro @cvts.eq_1 @cvts.eq_2))) (And.intro (And.intro @Nat.zero_add (And.intro @Nat.add_zero @List.set_cons_zero.{0})) (And.intro @List.set_cons_succ.{0} (And.intro @Bool.not_eq_true' @Bool.not_eq_false')))) (And.intro (And.intro (And.intro @Int.natCast_nonneg (And.intro @Nat.le_refl @Prod.mk.injEq.{0, 0})) (And.intro @ne_eq.{1} (And.intro @not_false_eq_true @not_true_eq_false))) (And.intro (And.intro @List.length_map.{0, 0} (And.intro @List.length_replicate.{0} @List.replicate_zero.{0})) (And.intro (And.intro @and_false @false_and) (And.intro @and_self @Int.cast_ofNat_Int)))))
set_option linter.defProp false in
def EVA := (And.intro (And.intro (And.intro EV0 (And.intro EV1 EV2)) (And.intro (And.intro EV3 EV4) (And.intro EV5 EV6))) (And.intro (And.intro (And.intro EV7 EV8) (And.intro EV9 EV10)) (And.intro (And.intro EV11 EV12) (And.intro EV13 EV14))))
abbrev oo (d : Nat) (x : O) : OP := ⟨some d, none, x⟩
abbrev on1 (x : O) : OP := ⟨none, none, x⟩
abbrev og (d j : Nat) (w : Bool) (x : O) : OP := ⟨some d, some (j, w), x⟩
abbrev om (d : Nat) (x : X) : OP := ⟨some d, none, .mv x none⟩
abbrev rg (l : List OP) : C2 := .rg none l
abbrev i6 (n : Int) : X := .k (.int .i64 n)
end Go.Fd
