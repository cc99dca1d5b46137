/-
  FROM A CONTRACT OF A LAW TO WHAT ITS ROW ASKS. Own work.
-/
import Derived.Test.YtafkbnlacihocaaGreatDoorT03
import Derived.ChangeMaps5
import Derived.ChangeShapes
import Derived.Test.YtafkbnlacihocaaGreatDoorProg
import Derived.KernelRfl
import Derived.Shelf.Strings.SlTrimAscii
set_option linter.all false
namespace Go.Fd
open Go.RowKit

def G0 : Gh := fun _ _ => none
def S0 : Sto := fun _ => none
theorem Av0 {w : World} {b : Nat} (h : In w b) : Av G0 S0 w b := ⟨h, fun id ob hs => by cases hs⟩
theorem VRs_of_row {w : World} : ∀ {cs : List Value} {ts : List Tr}, cs.length = ts.length → RowRd w cs ts → VRs G0 S0 w (ts.map .tr) cs
  | [], [], _, _ => by simp [VRs]
  | v :: cs, t :: ts, hl, h => by
    simp only [List.map_cons, VRs]
    refine ⟨v, cs, rfl, ?_, VRs_of_row (by simpa using hl) (fun j v' t' h1 h2 => h (j + 1) v' t' (by simpa using h1) (by simpa using h2))⟩
    simp only [VR]
    exact Rds.mono (fun b => Av0) (fun b _ => rfl) (h 0 v t rfl rfl)
  | [], _ :: _, hl, _ => by simp at hl
  | _ :: _, [], hl, _ => by simp at hl

/-- A call of a law: it answers, and nothing old has turned. -/
theorem calls_of_sem {P : Program} {f : FuncId} {args : List IV} {b : Bool} {w : World} {vs : List Value} (h : Sem P f 0 args S0 (iB b) S0) (hv : VRs G0 S0 w args vs) :
    Calls P f vs.toArray w fun e w' => e = .returned (.bool b) ∧ Below w.heap.size w w' := by
  obtain ⟨_, _, h⟩ := h
  refine (h (fun id ob hs => by cases hs) G0 w vs ⟨fun id ob hs => (nomatch hs), fun id ob id2 ob2 b2 hs => (nomatch hs), fun id cells hs => (nomatch hs)⟩ hv).mono ?_
  rintro e w' ⟨v, G', rfl, _, hr, _, hf⟩
  have hr' : Rds w' (Av G' (addS S0 0 0 (impv true 0 0 0 (iB b)).2) w') v (.v (.bool b)) := hr
  cases hr' with
  | v x hx =>
    exact ⟨rfl, hf.os, hf.tape, hf.output, hf.size, fun k hk => hf.old k hk (fun id ob hs => by cases hs)⟩

theorem arg_slice {P : Program} {w : World} {r : Reach} {base : Nat} {t e : TypeId} {v : Value} (ht : P.underlying t = some (.slice e)) (h : Value.okWide P w r base t v) : v.cells.toList = [v] := by
  unfold Value.okWide at h
  rw [ht] at h
  simp only [Cell.okWide, ht, Cell.ok] at h
  cases v <;> first | rfl | exact absurd h (by simp)
theorem arg_struct {P : Program} {w : World} {r : Reach} {base : Nat} {t : TypeId} {fs : Array Field} {v : Value} (ht : P.underlying t = some (.struct fs)) (h : Value.okWide P w r base t v) : ∃ cs, v = .agg cs ∧ cs.size = P.cellsOf t := by
  unfold Value.okWide at h
  rw [ht] at h
  obtain ⟨cs, h1, h2, _⟩ := h
  exact ⟨cs, h1, h2⟩

section
variable {H : Type} {enc : TypeId × Value → H} {P : Program} {w : World} {t : TypeId} {v : Value} {d : DataW H} {p : List MemPlace} {α : Type} {c : α → List Tr} {Q : α → Prop} {sp : Nat → Bool} {hd : Bool} {base : Nat}
/-- A struct as a parameter. -/
theorem VR_struct {fs : Array Field} {k : Nat} (hr : Reads P t c Q) (ht : P.underlying t = some (.struct fs)) (hk : P.cellsOf t = k) (hc : ∀ x, (c x).length = k) (hok : Value.okWide P w .any base t v) (h : DataW.Trod enc P w 0 sp hd t v d p) :
    ∃ y, Q y ∧ VR G0 S0 w (.ag ((c y).map .tr)) v := by
  obtain ⟨cs, rfl, hs⟩ := arg_struct ht hok
  obtain ⟨n, hn⟩ := h
  obtain ⟨y, hy, hrow⟩ := hr H enc w sp hd n _ _ hn
  refine ⟨y, hy, ?_⟩
  simp only [VR]
  refine ⟨cs.toList, by simp, VRs_of_row ?_ hrow⟩
  rw [hc, ← hk, ← hs]
  simp
/-- A slice as a parameter. -/
theorem VR_slice {e : TypeId} {g : α → Tr} (hr : Reads P t (fun x => [g x]) Q) (ht : P.underlying t = some (.slice e)) (hok : Value.okWide P w .any base t v) (h : DataW.Trod enc P w 0 sp hd t v d p) :
    ∃ y, Q y ∧ VR G0 S0 w (.tr (g y)) v := by
  obtain ⟨n, hn⟩ := h
  rw [arg_slice ht hok] at hn
  obtain ⟨y, hy, hrow⟩ := hr H enc w sp hd n _ _ hn
  refine ⟨y, hy, ?_⟩
  simp only [VR]
  exact Rds.mono (fun b => Av0) (fun b _ => rfl) (hrow 0 v _ rfl rfl)
end

/-- The row's end, for a law: true, and the arguments read as they did. -/
theorem post_of_below {H : Type} {enc : TypeId × Value → H} {P : Program} {f : Func} {s : ChangeSpec} {apart : Bool} {W W' : World} {args : Array Value} {v : Value} {ds gs : List (DataW H)} {before pa pv : List MemPlace}
    (hW : DataW.Whole enc P f.params.toList s.vars apart W args.toList ds gs before) (hb : Below W.heap.size W W')
    (hres : DataW.TrodAll enc P W' W.heap.size (fun _ => false) false f.resultTypes.toList (v.resultList f.resultTypes.size) (s.fn H (ds ++ gs)).results [])
    (hargs : DataW.TrodAll enc P W' 0 (fun b => decide (b < W.heap.size)) true f.params.toList args.toList (s.fn H (ds ++ gs)).args pa)
    (hvars : DataW.TrodVars enc P W' (fun b => decide (b < W.heap.size)) s.vars (s.fn H (ds ++ gs)).vars pv) :
    s.post enc P f apart true false false W args v W' :=
  ⟨ds, gs, before, [], pa, pv, hW, hres, hargs, hvars, hb.frame _, fun h => by cases h⟩
end Go.Fd

/-
  FOUNDATION 50: contracts of the library, taken over: calls that read scalars alone and answer scalars. Own work.
-/
namespace Go.Fd
open Go.RowKit

theorem ext_of_below {w w' : World} (h : Below w.heap.size w w') : Ext w w' := ⟨h.size, h.block, h.os, h.tape, h.output⟩
theorem VRs_scal {G : Gh} {S : Sto} {w : World} : ∀ {xs vs : List Value}, VRs G S w (xs.map fun v => .tr (.v v)) vs → vs = xs
  | [], vs, h => by simpa [VRs] using h
  | x :: r, vs, h => by
    simp only [List.map_cons, VRs] at h
    obtain ⟨v, vr, rfl, h1, h2⟩ := h
    rw [VRs_scal h2]
    have h1' : Rds w (Av G S w) v (.v x) := h1
    cases h1'
    rfl
/-- What a call leaves that returns y and turns nothing old. -/
theorem sem_of_ext {P : Program} {f : FuncId} {lvl : Nat} {S : Sto} {args : List IV} {r : IV} (hc : Callable P f) (hi : impv true lvl 0 0 r = (r, [])) (hlow : low lvl r)
    (h : (∀ id ob, S id = some ob → id.1 < lvl) → ∀ G w vs, SOk G S w → VRs G S w args vs → Calls P f vs.toArray w fun e w' => ∃ v, e = .returned v ∧ VR G S w' r v ∧ Below w.heap.size w w') : Sem P f lvl args S r S := by
  refine ⟨hlow, hc, fun hS G w vs hok hv => ?_⟩
  refine (h hS G w vs hok hv).mono ?_
  rintro e w' ⟨v, rfl, hr, hb⟩
  rw [hi]
  have e : Ext w w' := ext_of_below hb
  exact ⟨v, G, rfl, hok.ext e, hr, hS, Frm.of_ext e⟩
theorem sem_of_scal {P : Program} {f : FuncId} {lvl : Nat} {S : Sto} {xs : List Value} {y : Value} (hc : Callable P f) (hy : scal y = true)
    (h : ∀ w, Calls P f xs.toArray w fun e w' => e = .returned y ∧ Below w.heap.size w w') : Sem P f lvl (xs.map fun v => .tr (.v v)) S (.tr (.v y)) S := by
  refine sem_of_ext hc rfl trivial fun _ G w vs _ hv => ?_
  rw [VRs_scal hv]
  exact (h w).mono fun e w' ⟨h1, h2⟩ => ⟨y, h1, .v y hy, h2⟩
end Go.Fd

/-
  FOUNDATION 51: a loop that counts, told by what changes. Own work.
-/
namespace Go.Fd

def pts : List (Nat × IV) → List (Nat × IV) → List (Nat × IV)
  | [], env => env
  | (t, x) :: r, env => pts r (pt t x env)
def ptOs : List (Nat × Ob) → List (Nat × Ob) → List (Nat × Ob)
  | [], loc => loc
  | (t, x) :: r, loc => ptOs r (ptO t x loc)
/-- A state in which some slots and objects have become others. -/
def chg (ce : List (Nat × IV)) (co : List (Nat × Ob)) (s : St) : St := ⟨s.lvl, pts ce s.env, ptOs co s.loc, s.out⟩
section
variable {C : Contract} {lvl : Nat} {env : List (Nat × IV)} {loc : List (Nat × Ob)} {out : Sto} {st : St} {Q : Ex → St → Prop}
theorem r_chg {ce : List (Nat × IV)} {co : List (Nat × Ob)} : chg ce co ⟨lvl, env, loc, out⟩ = ⟨lvl, pts ce env, ptOs co loc, out⟩ := (rfl)
theorem r_pts0 : pts [] env = env := (rfl)
theorem r_pts1 {t : Nat} {x : IV} {r : List (Nat × IV)} : pts ((t, x) :: r) env = pts r (pt t x env) := (rfl)
theorem r_ptOs0 : ptOs [] loc = loc := (rfl)
theorem r_ptOs1 {t : Nat} {x : Ob} {r : List (Nat × Ob)} : ptOs ((t, x) :: r) loc = ptOs r (ptO t x loc) := (rfl)
/-- A loop that counts: its head's state is the first one's but for what ce and co tell. -/
theorem wp_cnt {α : Type} {ks js : List Nat} {c : C2} (N : Nat) (ce : Nat → α → List (Nat × IV)) (co : Nat → α → List (Nat × Ob)) (A : Nat → α → Prop) (x0 : α)
    (h1 : clean ks js st) (h0 : fgt ks js st = chg (ce 0 x0) (co 0 x0) (fgt ks js st)) (hA : A 0 x0)
    (hs : ∀ k x, k ≤ N → A k x → wp C c (chg (ce k x) (co k x) (fgt ks js st)) (kround ks js (cntJ N (fun k x => chg (ce k x) (co k x) (fgt ks js st)) A (N - k)) Q)) : wp C (.lp ks js c) st Q :=
  wp_count N (fun k x => chg (ce k x) (co k x) (fgt ks js st)) A x0 ⟨h1, h0⟩ hA hs
end

/-! ## variables that are handed to a call that does not see them -/
section
variable {L : Sto} {F : List IV → Prop} {r : List IV}
def kabn (L : Sto) (r : List IV) (F : List IV → Prop) (y : IV) : Prop := snaps L r (kcn y F)
theorem r_kabn {y : IV} : kabn L r F y = snaps L r (kcn y F) := (rfl)
theorem r_sn9 {id : Oid} {off : Nat} : snaps L (.ab id off :: r) F = snapb (L id) L off (kabn L r F) := by simp only [snaps, snap]; rfl
def kta (F : IV → Prop) (ts : List Tr) : Prop := F (.ta ts)
theorem r_kta {F : IV → Prop} {ts : List Tr} : kta F ts = F (.ta ts) := (rfl)
theorem r_snb {cells : List IV} {off : Nat} {F : IV → Prop} : snapb (some (.bx cells)) L off F = snapcs L (cells.drop off) (kta F) := (rfl)
def kct (t : Tr) (F : List Tr → Prop) (ts : List Tr) : Prop := F (t :: ts)
theorem r_kct {t : Tr} {F : List Tr → Prop} {ts : List Tr} : kct t F ts = F (t :: ts) := (rfl)
def ksnc (L : Sto) (r : List IV) (F : List Tr → Prop) (t : Tr) : Prop := snapcs L r (kct t F)
theorem r_ksnc {F : List Tr → Prop} {t : Tr} : ksnc L r F t = snapcs L r (kct t F) := (rfl)
theorem r_snc0 {F : List Tr → Prop} : snapcs L [] F = F [] := (rfl)
theorem r_snc1 {x : IV} {F : List Tr → Prop} : snapcs L (x :: r) F = snapc L x (ksnc L r F) := (rfl)
theorem r_snct {t : Tr} {F : Tr → Prop} : snapc L (.tr t) F = F t := (rfl)
theorem r_sncc {es : Row} {F : Tr → Prop} : snapc L (.cs es) F = F (.sl es) := (rfl)
def ksnh (off len : Nat) (F : Tr → Prop) (es : Row) (_u : Bool) (_v : Nat) : Prop := off + len ≤ es.length ∧ F (.sl (cut es off len))
theorem r_ksnh {off len : Nat} {F : Tr → Prop} {es : Row} {u : Bool} {v : Nat} : ksnh off len F es u v = (off + len ≤ es.length ∧ F (.sl (cut es off len))) := (rfl)
theorem r_snch {id : Oid} {p : Pth} {off len s : Nat} {cap : Option Nat} {F : Tr → Prop} : snapc L (.hd id p off len cap s) F = rd3 (L id) p s (ksnh off len F) := by rw [← rdh_rd3]; rfl
end

/-! ## one element that is appended -/
theorem r_rep1 {α : Type} {x : α} : List.replicate 1 x = [x] := (rfl)
theorem r_cut1 {e : List Tr} : cut [e] 0 1 = [e] := (rfl)
theorem r_scr1 {l : List Tr} : ScR [l] = (l.all isSc = true) := by
  apply propext
  constructor
  · intro h
    exact List.all_eq_true.2 fun t ht => h l (by simp) t ht
  · intro h e he t ht
    simp only [List.mem_singleton] at he
    subst he
    exact List.all_eq_true.1 h t ht
theorem r_unr1 {k : Nat} {l : List Tr} : UnR k [l] = (l.length = k) := by
  apply propext
  constructor
  · intro h; exact h l (by simp)
  · intro h e he
    simp only [List.mem_singleton] at he
    rw [he, h]
theorem r_max {j : Nat} : max j (j + 1) = j + 1 := by omega
theorem r_lt1 {j : Nat} : (j < j + 1) = True := by simp
end Go.Fd

/-
  FOUNDATION 52: numbers and strings as parameters of a law. Own work.
-/
namespace Go.Fd
open Go.RowKit Go.ChangeShapes Go.ChangeMaps Go.WideMaps
section
variable {H : Type} {enc : TypeId × Value → H} {P : Program} {w : World} {t : TypeId} {v : Value} {d : DataW H} {p : List MemPlace} {sp : Nat → Bool} {hd : Bool} {base : Nat}
theorem VR_int (ht : P.underlying t = some (.int .i64)) (hok : Value.okWide P w .any base t v) (h : DataW.Trod enc P w 0 sp hd t v d p) : ∃ n : Int, fits .i64 n ∧ VR G0 S0 w (iI n) v := by
  obtain ⟨n, rfl, _, _, hw⟩ := open_int ht hok h
  refine ⟨n, ?_, .v _ rfl⟩
  simp only [Lit.wf, decide_eq_true_eq, Bool.and_eq_true] at hw
  exact hw
end
end Go.Fd

/-
  FOUNDATION 54: all rules in one word (printed by evr.py). Own work.
-/
namespace Go.Fd
set_option linter.defProp false in
def EV0 := (And.intro (And.intro (And.intro (And.intro (And.intro @r_cons @r_nil) (And.intro @r_kont (And.intro @r_seq1 @r_seq2))) (And.intro (And.intro @r_seq3 @r_blk1) (And.intro @r_blk2 (And.intro @r_blk3 @r_fn1)))) (And.intro (And.intro (And.intro @r_fn2 @r_fn3) (And.intro @r_sk (And.intro @r_rg @r_sq))) (And.intro (And.intro @r_bl @r_ex) (And.intro @r_rt (And.intro @r_fg @r_cd))))) (And.intro (And.intro (And.intro (And.intro @r_cd2 @r_wpF) (And.intro @r_op1 (And.intro @r_op1g @r_gd))) (And.intro (And.intro @r_gdu @r_go1) (And.intro @r_mv (And.intro @r_mvn @r_mvn1)))) (And.intro (And.intro (And.intro @r_bx @r_bx1) (And.intro @r_bv (And.intro @r_bv1 @r_bt))) (And.intro (And.intro @r_bt1 @r_al) (And.intro @r_bd (And.intro @r_bs @r_fills0))))))
set_option linter.defProp false in
def EV1 := (And.intro (And.intro (And.intro (And.intro (And.intro @r_fills1 @r_fl2) (And.intro @r_kfill (And.intro @r_ms @r_ms1))) (And.intro (And.intro @r_bi @r_add0) (And.intro @r_sub0 (And.intro @r_mul0 @r_add1)))) (And.intro (And.intro (And.intro @r_sub1 @r_mul1) (And.intro @r_quo (And.intro @r_rem @r_eqi))) (And.intro (And.intro @r_nei @r_lti) (And.intro @r_lei (And.intro @r_gti @r_gei))))) (And.intro (And.intro (And.intro (And.intro @r_eqb @r_neb) (And.intro @r_eqn (And.intro @r_nen @r_eqe))) (And.intro (And.intro @r_nee @r_adds) (And.intro @r_eqs (And.intro @r_nes @r_lts)))) (And.intro (And.intro (And.intro @r_gts @r_les) (And.intro @r_ges (And.intro @r_qa @r_nt))) (And.intro (And.intro @r_nt1 @r_ng) (And.intro @r_ng1 (And.intro @r_cv @r_cv1))))))
set_option linter.defProp false in
def EV2 := (And.intro (And.intro (And.intro (And.intro (And.intro @r_cv2 @r_cv3) (And.intro @r_cv4 (And.intro @r_mf @r_mf1))) (And.intro (And.intro @r_ln @r_ln1) (And.intro @r_ln2 (And.intro @r_ln3 @r_lg)))) (And.intro (And.intro (And.intro @r_lg1 @r_la) (And.intro @r_mm (And.intro @r_mm1 @r_mm2))) (And.intro (And.intro @r_pk @r_pkt) (And.intro @r_pkf (And.intro @r_op3 @r_xt))))) (And.intro (And.intro (And.intro (And.intro @r_xt1 @r_nc) (And.intro @r_nc1 (And.intro @r_nc2 @r_nc3))) (And.intro (And.intro @r_fa @r_fa1) (And.intro @r_fa2 (And.intro @r_fa3 @r_fd)))) (And.intro (And.intro (And.intro @r_fd1 @r_fd2) (And.intro @r_ixn (And.intro @r_ia @r_iae))) (And.intro (And.intro @r_ia1 @r_ia2) (And.intro @r_rde (And.intro @r_rd3 @r_stamp0))))))
set_option linter.defProp false in
def EV3 := (And.intro (And.intro (And.intro (And.intro (And.intro @r_stamp1 @r_iah) (And.intro @r_iah2 (And.intro @r_ia3 @r_ja))) (And.intro (And.intro @r_ja1 @r_ja2) (And.intro @r_ja3 (And.intro @r_ixb @r_ix)))) (And.intro (And.intro (And.intro @r_ix1 @r_jx) (And.intro @r_jx1 (And.intro @r_jx2 @r_pack))) (And.intro (And.intro @r_setOb @r_kill) (And.intro @r_sto (And.intro @r_sset @r_ltr))))) (And.intro (And.intro (And.intro (And.intro @r_lab @r_lae) (And.intro @r_lae2 (And.intro @r_lae3 @r_lmae))) (And.intro (And.intro @r_lmae2 @r_ld) (And.intro @r_ld1 (And.intro @r_ld2 @r_ld3)))) (And.intro (And.intro (And.intro @r_ld4 @r_labm) (And.intro @r_ld5 (And.intro @r_ld6 @r_bn0))) (And.intro (And.intro @r_bn1 @r_sxt) (And.intro @r_sxt2 (And.intro @r_sxt3 @r_sxh))))))
set_option linter.defProp false in
def EV4 := (And.intro (And.intro (And.intro (And.intro (And.intro @r_sxh2 @r_sxh3) (And.intro @r_sx (And.intro @r_sx1 @r_sx2))) (And.intro (And.intro @r_sx3 @r_sst) (And.intro @r_sst2 (And.intro @r_ss @r_ss1)))) (And.intro (And.intro (And.intro @r_sa @r_sa1) (And.intro @r_sby (And.intro @r_sbh @r_sb))) (And.intro (And.intro @r_sb1 @r_sb2) (And.intro @r_sb3 (And.intro @r_kcn @r_kagn))))) (And.intro (And.intro (And.intro (And.intro @r_kfnn @r_khdn) (And.intro @r_sn0 (And.intro @r_sn1 @r_sn2))) (And.intro (And.intro @r_sn3 @r_sn4) (And.intro @r_sn5 (And.intro @r_sn6 @r_sn7)))) (And.intro (And.intro (And.intro @r_sn8 @r_ca) (And.intro @r_ca1 (And.intro @r_cas @r_cas1))) (And.intro (And.intro @r_cay @r_cay1) (And.intro @r_fin (And.intro @r_kfe0 @r_kfe1))))))
set_option linter.defProp false in
def EV5 := (And.intro (And.intro (And.intro (And.intro (And.intro @r_kfe2 @r_kcx) (And.intro @r_exps0 (And.intro @r_exps1 @r_kex))) (And.intro (And.intro @r_exp1 @r_exbc) (And.intro @r_exb1 (And.intro @r_exb2 @r_exp2)))) (And.intro (And.intro (And.intro @r_exc @r_kagx) (And.intro @r_expv1 (And.intro @r_expv2 @r_expv3))) (And.intro (And.intro @r_expv4 @r_expv5) (And.intro @r_expv6 (And.intro @r_expv7 @r_kxc))))) (And.intro (And.intro (And.intro (And.intro @r_expcs0 @r_expcs1) (And.intro @r_expc1 (And.intro @r_expc2 @r_expc3))) (And.intro (And.intro @r_expc4 @r_expc4a) (And.intro @r_expc4b (And.intro @r_expc4c @r_expc4d)))) (And.intro (And.intro (And.intro @r_expc4e @r_expc4f) (And.intro @r_expc5 (And.intro @r_expc6 @r_expc7))) (And.intro (And.intro @r_exh0 @r_exh1) (And.intro @r_fgt (And.intro @r_clean @r_okm1))))))
set_option linter.defProp false in
def EV6 := (And.intro (And.intro (And.intro (And.intro (And.intro @r_okm2 @r_okm2s) (And.intro @r_okm3 (And.intro @r_okm4 @r_okm5))) (And.intro (And.intro @r_okm6 @r_okm7) (And.intro @r_okm8 (And.intro @r_okm9 @r_okm10)))) (And.intro (And.intro (And.intro @r_okm11 @r_okms0) (And.intro @r_okms1 (And.intro @r_okE0 @r_okE1))) (And.intro (And.intro @r_okL0 @r_okL1) (And.intro @r_okL2 (And.intro @r_round1 @r_round2))))) (And.intro (And.intro (And.intro (And.intro @r_round3 @r_st) (And.intro @r_st1 (And.intro @r_st2 @r_stb))) (And.intro (And.intro @r_setAt0 @r_setAt1) (And.intro @r_lows0 (And.intro @r_lows1 @r_low1)))) (And.intro (And.intro (And.intro @r_low2 @r_low3) (And.intro @r_low4 (And.intro @r_low5 @r_low6))) (And.intro (And.intro @r_low7 @r_low8) (And.intro @r_low9 (And.intro @r_low10 @r_kst))))))
set_option linter.defProp false in
def EV7 := (And.intro (And.intro (And.intro (And.intro (And.intro @r_stcs0 @r_stcs1) (And.intro @r_sc1 (And.intro @r_sc3 @r_sc4))) (And.intro (And.intro @r_sc2 @r_sc2a) (And.intro @r_sc2b (And.intro @r_sc2c @r_sc5)))) (And.intro (And.intro (And.intro @r_bw @r_kbw) (And.intro @r_bw1 (And.intro @r_bw2 @r_kmv))) (And.intro (And.intro @r_kmc @r_mvcs0) (And.intro @r_mvcs1 (And.intro @r_mvc1 @r_mvc2))))) (And.intro (And.intro (And.intro (And.intro @r_mvc3 @r_mvc4) (And.intro @r_mv5 (And.intro @r_apgo @r_apx1))) (And.intro (And.intro @r_apx2 @r_aph) (And.intro @r_ap (And.intro @r_ap0 @r_ap1)))) (And.intro (And.intro (And.intro @r_ap0c @r_ap1c) (And.intro @r_kap (And.intro @r_ap0h @r_ap2h))) (And.intro (And.intro @r_ap5 @r_kaps) (And.intro @r_aps (And.intro @r_ap2s @r_snm))))))
set_option linter.defProp false in
def EV8 := (And.intro (And.intro (And.intro (And.intro (And.intro @r_mensm @r_nl) (And.intro @r_nl1 (And.intro @r_nl2 @r_kenv))) (And.intro (And.intro @r_cp @r_cp1) (And.intro @r_sh (And.intro @r_shf @r_shc)))) (And.intro (And.intro (And.intro @r_shg @r_cl) (And.intro @r_clf (And.intro @r_clg @r_srk))) (And.intro (And.intro @r_src1 @r_src2) (And.intro @r_src3 (And.intro @r_cyk @r_cy))))) (And.intro (And.intro (And.intro (And.intro @r_cyf @r_cyg) (And.intro @r_op3n (And.intro @r_chg @r_pts0))) (And.intro (And.intro @r_pts1 @r_ptOs0) (And.intro @r_ptOs1 (And.intro @r_kabn @r_sn9)))) (And.intro (And.intro (And.intro @r_kta @r_snb) (And.intro @r_kct (And.intro @r_ksnc @r_snc0))) (And.intro (And.intro @r_snc1 @r_snct) (And.intro @r_sncc (And.intro @r_ksnh @r_snch))))))
set_option linter.defProp false in
def EV9 := (And.intro (And.intro (And.intro (And.intro (And.intro @r_rep1 @r_cut1) (And.intro @r_scr1 (And.intro @r_unr1 @r_max))) (And.intro (And.intro @r_lt1 @bigN.eq_1) (And.intro @fpart.eq_1 (And.intro @fpart.eq_2 @okp.eq_1)))) (And.intro (And.intro (And.intro @okp.eq_2 @zfill.eq_1) (And.intro @zfill.eq_2 (And.intro @zobs.eq_1 @ptd.eq_1))) (And.intro (And.intro @ptd.eq_2 @keyOf.eq_1) (And.intro @keyOf.eq_2 (And.intro @freshK.eq_1 @freshK.eq_2))))) (And.intro (And.intro (And.intro (And.intro @lk.eq_1 @lk.eq_2) (And.intro @pt.eq_1 (And.intro @pt.eq_2 @lkO.eq_1))) (And.intro (And.intro @lkO.eq_2 @ptO.eq_1) (And.intro @ptO.eq_2 (And.intro @addO.eq_1 @addO.eq_2)))) (And.intro (And.intro (And.intro @xv.eq_1 @xv.eq_2) (And.intro @xv.eq_3 (And.intro @kv.eq_1 @kv.eq_2))) (And.intro (And.intro @kc.eq_1 @kc.eq_2) (And.intro @params.eq_1 (And.intro @params.eq_2 @trv.eq_1))))))
set_option linter.defProp false in
def EV10 := (And.intro (And.intro (And.intro (And.intro (And.intro @trv.eq_2 @List.length_cons.{0}) (And.intro @List.length_nil.{0} (And.intro @Option.getD_some.{0} @Option.getD_none.{0}))) (And.intro (And.intro @true_and @and_true) (And.intro @decide_eq_true_eq (And.intro @decide_true @decide_false)))) (And.intro (And.intro (And.intro @Option.map_some.{0, 0} @Option.map_none.{0, 0}) (And.intro @Option.isSome_some.{0} (And.intro @Option.isSome_none.{0} @Option.isNone_some.{0}))) (And.intro (And.intro @Option.isNone_none.{0} @List.map_cons.{0, 0}) (And.intro @List.map_nil.{0, 0} (And.intro @List.cons_append.{0} @List.nil_append.{0}))))) (And.intro (And.intro (And.intro (And.intro @List.getElem?_cons_zero.{0} @List.getElem?_cons_succ.{0}) (And.intro @List.drop_succ_cons.{0} (And.intro @List.drop_zero.{0} @List.take_succ_cons.{0}))) (And.intro (And.intro @List.take_zero.{0} @List.headD_cons.{0}) (And.intro @List.headD_nil.{0} (And.intro @List.tail_cons.{0} @List.tail_nil.{0})))) (And.intro (And.intro (And.intro @noSh.eq_1 @noSh.eq_2) (And.intro @noSh.eq_3 (And.intro @noSh.eq_4 @noSh.eq_5))) (And.intro (And.intro @noSh.eq_6 @noSh.eq_7) (And.intro @noSh.eq_8 (And.intro @noShs.eq_1 @noShs.eq_2))))))
set_option linter.defProp false in
def EV11 := (And.intro (And.intro (And.intro (And.intro (And.intro @isSc.eq_1 @isSc.eq_2) (And.intro @impv.eq_1 (And.intro @impv.eq_2 @impv.eq_3))) (And.intro (And.intro @impv.eq_4 @impvs.eq_1) (And.intro @impvs.eq_2 (And.intro @impc.eq_1 @impc.eq_2)))) (And.intro (And.intro (And.intro @memB.eq_1 @memB.eq_2) (And.intro @keepB.eq_1 (And.intro @keepB.eq_2 @keepOB.eq_1))) (And.intro (And.intro @keepOB.eq_2 @or_true) (And.intro @true_or (And.intro @or_false @false_or))))) (And.intro (And.intro (And.intro (And.intro @Bool.false_eq_true @Bool.true_eq_false) (And.intro @if_true.{1} (And.intro @if_false.{1} @Bool.not_true))) (And.intro (And.intro @Bool.not_false @scrE.eq_1) (And.intro @scrE.eq_2 (And.intro @scrL.eq_1 @scrL.eq_2)))) (And.intro (And.intro (And.intro @scr.eq_1 @scr.eq_2) (And.intro @scr.eq_3 (And.intro @scr.eq_4 @scr.eq_5))) (And.intro (And.intro @scr.eq_6 @scr.eq_7) (And.intro @scr.eq_8 (And.intro @scrs.eq_1 @scrs.eq_2))))))
set_option linter.defProp false in
def EV12 := (And.intro (And.intro (And.intro (And.intro (And.intro @scrOb.eq_1 @scrOb.eq_2) (And.intro @rmO.eq_1 (And.intro @rmO.eq_2 @Int.toNat_natCast))) (And.intro (And.intro @Int.toNat_zero @Int.toNat_one) (And.intro @List.all_cons.{0} (And.intro @List.all_nil.{0} @isCell.eq_1)))) (And.intro (And.intro (And.intro @isCell.eq_2 @isCell.eq_3) (And.intro @isCell.eq_4 (And.intro @isCell.eq_5 @isCell.eq_6))) (And.intro (And.intro @Bool.and_true @Bool.true_and) (And.intro @Bool.and_self (And.intro @cellsOf.eq_1 @cellsOf.eq_2))))) (And.intro (And.intro (And.intro (And.intro @totr.eq_1 @totr.eq_2) (And.intro @totr.eq_3 (And.intro @totr.eq_4 @totr.eq_5))) (And.intro (And.intro @totrs.eq_1 @totrs.eq_2) (And.intro @tocs.eq_1 (And.intro @getp.eq_1 @getp.eq_2)))) (And.intro (And.intro (And.intro @cvt.eq_1 @cvt.eq_2) (And.intro @cvts.eq_1 (And.intro @cvts.eq_2 @Nat.zero_add))) (And.intro (And.intro @Nat.add_zero @List.set_cons_zero.{0}) (And.intro @List.set_cons_succ.{0} (And.intro @Bool.not_eq_true' @Bool.not_eq_false'))))))
set_option linter.defProp false in
def EV13 := (And.intro (And.intro (And.intro @Int.natCast_nonneg (And.intro @Nat.le_refl @Prod.mk.injEq.{0, 0})) (And.intro @ne_eq.{1} (And.intro @not_false_eq_true @not_true_eq_false))) (And.intro (And.intro @List.length_map.{0, 0} (And.intro @List.length_replicate.{0} @List.replicate_zero.{0})) (And.intro (And.intro @and_false @false_and) (And.intro @and_self @Int.cast_ofNat_Int))))
set_option linter.defProp false in
def EVA := (And.intro (And.intro (And.intro EV0 (And.intro EV1 EV2)) (And.intro (And.intro EV3 EV4) (And.intro EV5 EV6))) (And.intro (And.intro EV7 (And.intro EV8 EV9)) (And.intro (And.intro EV10 EV11) (And.intro EV12 EV13))))
/-! short words for annotated codes -/
abbrev oo (d : Nat) (x : O) : OP := ⟨some d, none, x⟩
abbrev on1 (x : O) : OP := ⟨none, none, x⟩
abbrev og (d j : Nat) (w : Bool) (x : O) : OP := ⟨some d, some (j, w), x⟩
abbrev om (d : Nat) (x : X) : OP := ⟨some d, none, .mv x none⟩
abbrev rg (l : List OP) : C2 := .rg none l
abbrev i6 (n : Int) : X := .k (.int .i64 n)
end Go.Fd

/-
  PLAIN WORDS FOR THE DATA, AND WHAT HOLDS OF THE HELPERS OF THE LAWS THAT ARE ALIKE FOR ALL KINDS OF SLICES. Own work.
-/
namespace Go.Fd
set_option maxRecDepth 10000

theorem ite_of {c : Prop} [Decidable c] {p q : Prop} (h1 : c → p) (h2 : ¬ c → q) : if c then p else q := by
  split
  · exact h1 ‹_›
  · exact h2 ‹_›
/-- How much is left when n is taken from it. -/
def szN (n : Nat) (left : Int) : Int := if left - n < 0 then -1 else left - n
/-- What is left behind the elements of a list. -/
def szF {α : Type} (f : α → Int → Int) : List α → Int → Int
  | [], l => l
  | x :: r, l => if f x l < 0 then -1 else szF f r (f x l)
def szL {α : Type} (f : α → Int → Int) (a : List α) (left : Int) : Int := if left - a.length < 0 then -1 else szF f a (left - a.length)

def sz0 : F2 :=
  { nt := 12, res := [.t 4 [0]], body :=
   (.sq (.rg none [⟨some 4, none, .mv (.k (.int .i64 0)) none⟩])
   (.sq (.rg none [⟨some 5, none, .mv (.t 1) none⟩,
      ⟨some 6, none, .mv (.t 0) none⟩,
      ⟨some 7, none, .ln (.t 6)⟩,
      ⟨some 8, none, .bi .sub 0 (.t 5) (.t 7)⟩,
      ⟨some 1, none, .mv (.t 8) none⟩])
   (.sq (.sq (.rg none [⟨some 9, none, .mv (.t 1) none⟩,
       ⟨some 10, none, .bi .lss 0 (.t 9) (.k (.int .i64 0))⟩])
    (.cd (.t 10) (.sq (.rg none [⟨some 4, none, .mv (.k (.int .i64 (-1))) none⟩])
     (.rt))
    (.sk)))
   (.sq (.rg none [⟨some 11, none, .mv (.t 1) none⟩,
      ⟨some 4, none, .mv (.t 11) none⟩])
   (.rt))))) }
theorem sem_sz0 {P : Program} {fid : FuncId} (hc : chkF P fid sz0 = true) (es : Row) (left : Int) (h : es.length ≤ 9223372036854775807) (h0 : 0 ≤ left) (h1 : left ≤ 1048576) (lvl : Nat) (S : Sto) :
    Sem P fid lvl [.tr (.sl es), iI left] S (iI (szN es.length left)) S := by
  refine sem_of_chk hc trivial ?_
  simp only [sz0, EVA, ↓reduceIte, Nat.reduceEqDiff, Nat.reduceMul, reduceCtorEq, Nat.reduceAdd, Nat.reduceSub, Nat.reduceLeDiff, Nat.reduceLT, Int.reduceToNat, Int.reduceLE, Int.reduceLT, mens, men]
  refine ⟨by rw [fits_i64]; omega, ?_⟩
  unfold szN
  split <;> rfl

def szSl (k : Nat) (m : Option Nat) (fid : FuncId) : F2 :=
  { nt := 27, res := [.t 4 [0]], body :=
   (.sq (.rg none [⟨some 4, none, .mv (.k (.int .i64 0)) none⟩])
   (.sq (.rg none [⟨some 6, none, .mv (.t 1) none⟩,
      ⟨some 7, none, .mv (.t 0) none⟩,
      ⟨some 8, none, .ln (.t 7)⟩,
      ⟨some 9, none, .bi .sub 0 (.t 6) (.t 8)⟩,
      ⟨some 1, none, .mv (.t 9) none⟩])
   (.sq (.sq (.rg none [⟨some 10, none, .mv (.t 1) none⟩,
       ⟨some 11, none, .bi .lss 0 (.t 10) (.k (.int .i64 0))⟩])
    (.cd (.t 11) (.sq (.rg none [⟨some 4, none, .mv (.k (.int .i64 (-1))) none⟩])
     (.rt))
    (.sk)))
   (.sq (.sq (.rg none [⟨some 5, none, .mv (.k (.int .i64 0)) none⟩])
    (.bl 0 (.lp [0, 1, 5] [] (.sq (.sq (.rg none [⟨some 12, none, .mv (.t 5) none⟩,
          ⟨some 13, none, .mv (.t 0) none⟩,
          ⟨some 14, none, .ln (.t 13)⟩,
          ⟨some 15, none, .bi .lss 0 (.t 12) (.t 14)⟩])
       (.cd (.t 15) (.sk)
       (.ex 0)))
      (.sq (.bl 1 (.sq (.rg none [⟨some 18, none, .mv (.t 0) none⟩,
           ⟨some 19, none, .mv (.t 5) none⟩,
           ⟨some 20, none, .ia k (.t 18) (.t 19)⟩,
           ⟨some 21, none, .ld m (.t 20)⟩,
           ⟨some 22, none, .mv (.t 1) none⟩,
           ⟨some 23, none, .ca .pure false (.f fid) [.t 21, .t 22]⟩,
           ⟨some 1, none, .mv (.t 23) none⟩])
        (.sq (.rg none [⟨some 24, none, .mv (.t 1) none⟩,
           ⟨some 25, none, .bi .lss 0 (.t 24) (.k (.int .i64 0))⟩])
        (.cd (.t 25) (.sq (.rg none [⟨some 4, none, .mv (.k (.int .i64 (-1))) none⟩])
         (.rt))
        (.sk)))))
      (.rg none [⟨some 16, none, .mv (.t 5) none⟩,
        ⟨some 17, none, .bi .add 0 (.t 16) (.k (.int .i64 1))⟩,
        ⟨some 5, none, .mv (.t 17) none⟩]))))))
   (.sq (.rg none [⟨some 26, none, .mv (.t 1) none⟩,
      ⟨some 4, none, .mv (.t 26) none⟩])
   (.rt)))))) }
/-- Elements are structs of k cells. -/
theorem sem_szSl {P : Program} {fid fe : FuncId} {k : Nat} (hc : chkF P fid (szSl k (some k) fe) = true) {α : Type} (c : α → List Tr) (f : α → Int → Int) (hk : ∀ x, (c x).length = k) (a : List α) (left : Int) (h : a.length ≤ 9223372036854775807) (h0 : 0 ≤ left) (h1 : left ≤ 1048576)
    (hf : ∀ x ∈ a, ∀ l : Int, 0 ≤ l → l ≤ 1048576 → f x l ≤ l ∧ ∀ lvl S, Sem P fe lvl [.ag ((c x).map .tr), iI l] S (iI (f x l)) S) (lvl : Nat) (S : Sto) :
    Sem P fid lvl [.tr (.sl (a.map c)), iI left] S (iI (szL f a left)) S := by
  refine sem_of_chk hc trivial ?_
  simp only [szSl, List.length_map, EVA, ↓reduceIte, Nat.reduceEqDiff, Nat.reduceMul, reduceCtorEq, Nat.reduceAdd, Nat.reduceSub, Nat.reduceLeDiff, Nat.reduceLT, Int.reduceToNat, Int.reduceLE, Int.reduceLT, mens, men]
  refine ⟨by rw [fits_i64]; omega, ?_⟩
  unfold szL
  split
  · rfl
  · rename_i hlt
    generalize hr : szF f a (left - a.length) = total
    refine wp_count (α := Int) a.length (fun j l => ⟨lvl, [(0, .tr (.sl (a.map c))), (1, iI l), (5, iI j)], [], S⟩) (fun j l => 0 ≤ l ∧ l ≤ 1048576 ∧ szF f (a.drop j) l = total) (left - a.length) ⟨by simp only [EVA, ↓reduceIte, Nat.reduceEqDiff, Nat.reduceMul, reduceCtorEq, Nat.reduceAdd, Nat.reduceSub, Nat.reduceLeDiff, Nat.reduceLT, Int.reduceToNat, Int.reduceLE, Int.reduceLT, mens, men], by (simp only [EVA, ↓reduceIte, Nat.reduceEqDiff, Nat.reduceMul, reduceCtorEq, Nat.reduceAdd, Nat.reduceSub, Nat.reduceLeDiff, Nat.reduceLT, Int.reduceToNat, Int.reduceLE, Int.reduceLT, mens, men]) <;> rfl⟩ ⟨by omega, by omega, hr⟩ ?_
    intro j l hj ⟨hl0, hl1, hl⟩
    simp only [List.length_map, EVA, ↓reduceIte, Nat.reduceEqDiff, Nat.reduceMul, reduceCtorEq, Nat.reduceAdd, Nat.reduceSub, Nat.reduceLeDiff, Nat.reduceLT, Int.reduceToNat, Int.reduceLE, Int.reduceLT, mens, men]
    split
    · rename_i hlt
      have hja : j < a.length := by omega
      have ga : (a.map c)[j]? = some (c a[j]) := by simp [hja]
      have hkk := hk a[j]
      have htk : (c a[j]).take k = c a[j] := List.take_of_length_le (by omega)
      rw [List.drop_eq_getElem_cons hja] at hl
      obtain ⟨hle, hsem⟩ := hf a[j] (List.getElem_mem hja) l hl0 hl1
      simp only [ga, hkk, htk, Int.natCast_nonneg, Nat.le_refl, EVA, ↓reduceIte, Nat.reduceEqDiff, Nat.reduceMul, reduceCtorEq, Nat.reduceAdd, Nat.reduceSub, Nat.reduceLeDiff, Nat.reduceLT, Int.reduceToNat, Int.reduceLE, Int.reduceLT, mens, men]
      refine kca_intro hsem ?_
      simp only [EVA, ↓reduceIte, Nat.reduceEqDiff, Nat.reduceMul, reduceCtorEq, Nat.reduceAdd, Nat.reduceSub, Nat.reduceLeDiff, Nat.reduceLT, Int.reduceToNat, Int.reduceLE, Int.reduceLT, mens, men]
      split
      · rename_i hneg
        simp only [szF, if_pos hneg] at hl
        rw [hl]
      · rename_i hneg
        simp only [szF, if_neg hneg] at hl
        refine ⟨by rw [fits_i64]; omega, cntJ_intro (f a[j] l) hja rfl ⟨by omega, by omega, hl⟩⟩
    · rename_i hge
      have : j = a.length := by omega
      subst this
      simp only [List.drop_length, szF] at hl
      rw [hl]

def szSt : F2 :=
  { nt := 28, res := [.t 4 [0]], body :=
   (.sq (.rg none [⟨some 4, none, .mv (.k (.int .i64 0)) none⟩])
   (.sq (.rg none [⟨some 6, none, .mv (.t 1) none⟩,
      ⟨some 7, none, .mv (.t 0) none⟩,
      ⟨some 8, none, .ln (.t 7)⟩,
      ⟨some 9, none, .bi .sub 0 (.t 6) (.t 8)⟩,
      ⟨some 1, none, .mv (.t 9) none⟩])
   (.sq (.sq (.rg none [⟨some 10, none, .mv (.t 1) none⟩,
       ⟨some 11, none, .bi .lss 0 (.t 10) (.k (.int .i64 0))⟩])
    (.cd (.t 11) (.sq (.rg none [⟨some 4, none, .mv (.k (.int .i64 (-1))) none⟩])
     (.rt))
    (.sk)))
   (.sq (.sq (.rg none [⟨some 5, none, .mv (.k (.int .i64 0)) none⟩])
    (.bl 0 (.lp [0, 1, 5] [] (.sq (.sq (.rg none [⟨some 12, none, .mv (.t 5) none⟩,
          ⟨some 13, none, .mv (.t 0) none⟩,
          ⟨some 14, none, .ln (.t 13)⟩,
          ⟨some 15, none, .bi .lss 0 (.t 12) (.t 14)⟩])
       (.cd (.t 15) (.sk)
       (.ex 0)))
      (.sq (.bl 1 (.sq (.rg none [⟨some 18, none, .mv (.t 1) none⟩,
           ⟨some 19, none, .mv (.t 0) none⟩,
           ⟨some 20, none, .mv (.t 5) none⟩,
           ⟨some 21, none, .ia 1 (.t 19) (.t 20)⟩,
           ⟨some 22, none, .ld none (.t 21)⟩,
           ⟨some 23, none, .lg (.t 22)⟩,
           ⟨some 24, none, .bi .sub 0 (.t 18) (.t 23)⟩,
           ⟨some 1, none, .mv (.t 24) none⟩])
        (.sq (.rg none [⟨some 25, none, .mv (.t 1) none⟩,
           ⟨some 26, none, .bi .lss 0 (.t 25) (.k (.int .i64 0))⟩])
        (.cd (.t 26) (.sq (.rg none [⟨some 4, none, .mv (.k (.int .i64 (-1))) none⟩])
         (.rt))
        (.sk)))))
      (.rg none [⟨some 16, none, .mv (.t 5) none⟩,
        ⟨some 17, none, .bi .add 0 (.t 16) (.k (.int .i64 1))⟩,
        ⟨some 5, none, .mv (.t 17) none⟩]))))))
   (.sq (.rg none [⟨some 27, none, .mv (.t 1) none⟩,
      ⟨some 4, none, .mv (.t 27) none⟩])
   (.rt)))))) }
theorem sem_szSt {P : Program} {fid : FuncId} (hc : chkF P fid szSt = true) (a : List ByteArray) (left : Int) (h : a.length ≤ 9223372036854775807) (h0 : 0 ≤ left) (h1 : left ≤ 1048576)
    (hf : ∀ x ∈ a, x.size ≤ 9223372036854775807) (lvl : Nat) (S : Sto) :
    Sem P fid lvl [tS a, iI left] S (iI (szL (fun x l => l - x.size) a left)) S := by
  refine sem_of_chk hc trivial ?_
  simp only [szSt, List.length_map, EVA, ↓reduceIte, Nat.reduceEqDiff, Nat.reduceMul, reduceCtorEq, Nat.reduceAdd, Nat.reduceSub, Nat.reduceLeDiff, Nat.reduceLT, Int.reduceToNat, Int.reduceLE, Int.reduceLT, mens, men]
  refine ⟨by rw [fits_i64]; omega, ?_⟩
  unfold szL
  split
  · rfl
  · rename_i hlt
    generalize hr : szF (fun (x : ByteArray) l => l - x.size) a (left - a.length) = total
    refine wp_count (α := Int) a.length (fun j l => ⟨lvl, [(0, tS a), (1, iI l), (5, iI j)], [], S⟩) (fun j l => 0 ≤ l ∧ l ≤ 1048576 ∧ szF (fun (x : ByteArray) l => l - x.size) (a.drop j) l = total) (left - a.length) ⟨by simp only [EVA, ↓reduceIte, Nat.reduceEqDiff, Nat.reduceMul, reduceCtorEq, Nat.reduceAdd, Nat.reduceSub, Nat.reduceLeDiff, Nat.reduceLT, Int.reduceToNat, Int.reduceLE, Int.reduceLT, mens, men], by (simp only [EVA, ↓reduceIte, Nat.reduceEqDiff, Nat.reduceMul, reduceCtorEq, Nat.reduceAdd, Nat.reduceSub, Nat.reduceLeDiff, Nat.reduceLT, Int.reduceToNat, Int.reduceLE, Int.reduceLT, mens, men]) <;> rfl⟩ ⟨by omega, by omega, hr⟩ ?_
    intro j l hj ⟨hl0, hl1, hl⟩
    simp only [List.length_map, EVA, ↓reduceIte, Nat.reduceEqDiff, Nat.reduceMul, reduceCtorEq, Nat.reduceAdd, Nat.reduceSub, Nat.reduceLeDiff, Nat.reduceLT, Int.reduceToNat, Int.reduceLE, Int.reduceLT, mens, men]
    split
    · rename_i hlt
      have hja : j < a.length := by omega
      have ga : (rS a)[j]? = some [ts a[j]] := by simp [hja]
      rw [List.drop_eq_getElem_cons hja] at hl
      have hs := hf a[j] (List.getElem_mem hja)
      simp only [ga, Int.natCast_nonneg, Nat.le_refl, EVA, ↓reduceIte, Nat.reduceEqDiff, Nat.reduceMul, reduceCtorEq, Nat.reduceAdd, Nat.reduceSub, Nat.reduceLeDiff, Nat.reduceLT, Int.reduceToNat, Int.reduceLE, Int.reduceLT, mens, men]
      refine ⟨by rw [fits_i64]; omega, ?_⟩
      split
      · rename_i hneg
        simp only [szF, if_pos hneg] at hl
        rw [hl]
      · rename_i hneg
        simp only [szF, if_neg hneg] at hl
        refine ⟨by rw [fits_i64]; omega, cntJ_intro (l - a[j].size) hja rfl ⟨by omega, by omega, hl⟩⟩
    · rename_i hge
      have : j = a.length := by omega
      subst this
      simp only [List.drop_length, szF] at hl
      rw [hl]

/-- Two slices of structs of k cells. -/
def eqSl (k : Nat) (m : Option Nat) (fid : FuncId) : F2 :=
  { nt := 27, res := [.t 4 [0]], body :=
   (.sq (.rg none [⟨some 4, none, .mv (.k (.bool false)) none⟩])
   (.sq (.sq (.rg none [⟨some 6, none, .mv (.t 0) none⟩,
       ⟨some 7, none, .ln (.t 6)⟩,
       ⟨some 8, none, .mv (.t 1) none⟩,
       ⟨some 9, none, .ln (.t 8)⟩,
       ⟨some 10, none, .bi .neq 0 (.t 7) (.t 9)⟩])
    (.cd (.t 10) (.sq (.rg none [⟨some 4, none, .mv (.k (.bool false)) none⟩])
     (.rt))
    (.sk)))
   (.sq (.sq (.rg none [⟨some 5, none, .mv (.k (.int .i64 0)) none⟩])
    (.bl 0 (.lp [0, 1, 5] [] (.sq (.sq (.rg none [⟨some 11, none, .mv (.t 5) none⟩,
          ⟨some 12, none, .mv (.t 0) none⟩,
          ⟨some 13, none, .ln (.t 12)⟩,
          ⟨some 14, none, .bi .lss 0 (.t 11) (.t 13)⟩])
       (.cd (.t 14) (.sk)
       (.ex 0)))
      (.sq (.bl 1 (.sq (.rg (some 0) [⟨some 17, none, .mv (.t 0) none⟩,
           ⟨some 18, none, .mv (.t 5) none⟩,
           ⟨some 19, none, .ia k (.t 17) (.t 18)⟩,
           ⟨some 20, none, .ld m (.t 19)⟩,
           ⟨some 21, none, .mv (.t 1) none⟩,
           ⟨some 22, none, .mv (.t 5) none⟩,
           ⟨some 23, none, .ia k (.t 21) (.t 22)⟩,
           ⟨some 24, none, .ld m (.t 23)⟩,
           ⟨some 25, none, .ca .pure false (.f fid) [.t 20, .t 24]⟩,
           ⟨some 26, none, .nt (.t 25)⟩])
        (.cd (.t 26) (.sq (.rg none [⟨some 4, none, .mv (.k (.bool false)) none⟩])
         (.rt))
        (.sk))))
      (.rg none [⟨some 15, none, .mv (.t 5) none⟩,
        ⟨some 16, none, .bi .add 0 (.t 15) (.k (.int .i64 1))⟩,
        ⟨some 5, none, .mv (.t 16) none⟩]))))))
   (.sq (.rg none [⟨some 4, none, .mv (.k (.bool true)) none⟩])
   (.rt))))) }
theorem list_ne_at {α : Type} {a b : List α} {j : Nat} (ha : j < a.length) (hb : j < b.length) (h : a[j] ≠ b[j]) : a ≠ b := by
  intro e; subst e; exact h rfl
theorem list_eq_all {α : Type} {a b : List α} (hl : a.length = b.length) (h : a.take a.length = b.take a.length) : a = b := by
  rw [List.take_length, hl, List.take_length] at h; exact h
theorem take_succ_eq {α : Type} {a b : List α} {j : Nat} (ha : j < a.length) (hb : j < b.length) (h : a.take j = b.take j) (e : a[j] = b[j]) : a.take (j + 1) = b.take (j + 1) := by
  rw [List.take_succ_eq_append_getElem ha, List.take_succ_eq_append_getElem hb, h, e]
theorem sem_eqSl {P : Program} {fid fe : FuncId} {k : Nat} (hc : chkF P fid (eqSl k (some k) fe) = true) {α : Type} [DecidableEq α] (c : α → List Tr) (hk : ∀ x, (c x).length = k) (a b : List α) (ha : a.length ≤ 9223372036854775807)
    (hf : ∀ x ∈ a, ∀ y ∈ b, ∀ lvl S, Sem P fe lvl [.ag ((c x).map .tr), .ag ((c y).map .tr)] S (iB (decide (x = y))) S) (lvl : Nat) (S : Sto) :
    Sem P fid lvl [.tr (.sl (a.map c)), .tr (.sl (b.map c))] S (iB (decide (a = b))) S := by
  refine sem_of_chk hc trivial ?_
  simp only [eqSl, List.length_map, EVA, ↓reduceIte, Nat.reduceEqDiff, Nat.reduceMul, reduceCtorEq, Nat.reduceAdd, Nat.reduceSub, Nat.reduceLeDiff, Nat.reduceLT, Int.reduceToNat, Int.reduceLE, Int.reduceLT, mens, men]
  split
  · rename_i h
    have : ¬ a = b := fun e => h (by rw [e])
    simp [this]
  · rename_i h
    have hlen : a.length = b.length := by omega
    refine wp_count (α := Unit) a.length (fun j _ => ⟨lvl, [(0, .tr (.sl (a.map c))), (1, .tr (.sl (b.map c))), (5, iI j)], [], S⟩) (fun j _ => a.take j = b.take j) () ⟨by simp only [EVA, ↓reduceIte, Nat.reduceEqDiff, Nat.reduceMul, reduceCtorEq, Nat.reduceAdd, Nat.reduceSub, Nat.reduceLeDiff, Nat.reduceLT, Int.reduceToNat, Int.reduceLE, Int.reduceLT, mens, men], by (simp only [EVA, ↓reduceIte, Nat.reduceEqDiff, Nat.reduceMul, reduceCtorEq, Nat.reduceAdd, Nat.reduceSub, Nat.reduceLeDiff, Nat.reduceLT, Int.reduceToNat, Int.reduceLE, Int.reduceLT, mens, men]) <;> rfl⟩ rfl ?_
    intro j _ hj hA
    simp only [List.length_map, EVA, ↓reduceIte, Nat.reduceEqDiff, Nat.reduceMul, reduceCtorEq, Nat.reduceAdd, Nat.reduceSub, Nat.reduceLeDiff, Nat.reduceLT, Int.reduceToNat, Int.reduceLE, Int.reduceLT, mens, men]
    split
    · rename_i hlt
      have hja : j < a.length := by omega
      have hjb : j < b.length := by omega
      have ga : (a.map c)[j]? = some (c a[j]) := by simp [hja]
      have gb : (b.map c)[j]? = some (c b[j]) := by simp [hjb]
      have hka := hk a[j]
      have hkb := hk b[j]
      have hta : (c a[j]).take k = c a[j] := List.take_of_length_le (by omega)
      have htb : (c b[j]).take k = c b[j] := List.take_of_length_le (by omega)
      have hsem := hf a[j] (List.getElem_mem hja) b[j] (List.getElem_mem hjb)
      simp only [ga, gb, hka, hkb, hta, htb, Int.natCast_nonneg, Nat.le_refl, EVA, ↓reduceIte, Nat.reduceEqDiff, Nat.reduceMul, reduceCtorEq, Nat.reduceAdd, Nat.reduceSub, Nat.reduceLeDiff, Nat.reduceLT, Int.reduceToNat, Int.reduceLE, Int.reduceLT, mens, men]
      refine kca_intro hsem ?_
      simp only [Bool.not_eq_true', EVA, ↓reduceIte, Nat.reduceEqDiff, Nat.reduceMul, reduceCtorEq, Nat.reduceAdd, Nat.reduceSub, Nat.reduceLeDiff, Nat.reduceLT, Int.reduceToNat, Int.reduceLE, Int.reduceLT, mens, men]
      split
      · rename_i hne
        have : ¬ a = b := list_ne_at hja hjb (by simpa using hne)
        simp [this]
      · rename_i he
        refine ⟨by rw [fits_i64]; omega, cntJ_intro () hja rfl (take_succ_eq hja hjb hA (by simpa using he))⟩
    · rename_i hge
      have : j = a.length := by omega
      subst this
      have : a = b := list_eq_all hlen hA
      simp [this]
/-- Two slices of cells that are compared by the machine. -/
def eqS1 : F2 :=
  { nt := 26, res := [.t 4 [0]], body :=
   (.sq (.rg none [⟨some 4, none, .mv (.k (.bool false)) none⟩])
   (.sq (.sq (.rg none [⟨some 6, none, .mv (.t 0) none⟩,
       ⟨some 7, none, .ln (.t 6)⟩,
       ⟨some 8, none, .mv (.t 1) none⟩,
       ⟨some 9, none, .ln (.t 8)⟩,
       ⟨some 10, none, .bi .neq 0 (.t 7) (.t 9)⟩])
    (.cd (.t 10) (.sq (.rg none [⟨some 4, none, .mv (.k (.bool false)) none⟩])
     (.rt))
    (.sk)))
   (.sq (.sq (.rg none [⟨some 5, none, .mv (.k (.int .i64 0)) none⟩])
    (.bl 0 (.lp [0, 1, 5] [] (.sq (.sq (.rg none [⟨some 11, none, .mv (.t 5) none⟩,
          ⟨some 12, none, .mv (.t 0) none⟩,
          ⟨some 13, none, .ln (.t 12)⟩,
          ⟨some 14, none, .bi .lss 0 (.t 11) (.t 13)⟩])
       (.cd (.t 14) (.sk)
       (.ex 0)))
      (.sq (.bl 1 (.sq (.rg (some 0) [⟨some 17, none, .mv (.t 0) none⟩,
           ⟨some 18, none, .mv (.t 5) none⟩,
           ⟨some 19, none, .ia 1 (.t 17) (.t 18)⟩,
           ⟨some 20, none, .ld none (.t 19)⟩,
           ⟨some 21, none, .mv (.t 1) none⟩,
           ⟨some 22, none, .mv (.t 5) none⟩,
           ⟨some 23, none, .ia 1 (.t 21) (.t 22)⟩,
           ⟨some 24, none, .ld none (.t 23)⟩,
           ⟨some 25, none, .bi .neq 0 (.t 20) (.t 24)⟩])
        (.cd (.t 25) (.sq (.rg none [⟨some 4, none, .mv (.k (.bool false)) none⟩])
         (.rt))
        (.sk))))
      (.rg none [⟨some 15, none, .mv (.t 5) none⟩,
        ⟨some 16, none, .bi .add 0 (.t 15) (.k (.int .i64 1))⟩,
        ⟨some 5, none, .mv (.t 16) none⟩]))))))
   (.sq (.rg none [⟨some 4, none, .mv (.k (.bool true)) none⟩])
   (.rt))))) }
theorem sem_eqI {P : Program} {fid : FuncId} (hc : chkF P fid eqS1 = true) (a b : List Int) (ha : a.length ≤ 9223372036854775807) (lvl : Nat) (S : Sto) : Sem P fid lvl [tI a, tI b] S (iB (decide (a = b))) S := by
  refine sem_of_chk hc trivial ?_
  simp only [eqS1, List.length_map, EVA, ↓reduceIte, Nat.reduceEqDiff, Nat.reduceMul, reduceCtorEq, Nat.reduceAdd, Nat.reduceSub, Nat.reduceLeDiff, Nat.reduceLT, Int.reduceToNat, Int.reduceLE, Int.reduceLT, mens, men]
  split
  · rename_i h
    have : ¬ a = b := fun e => h (by rw [e])
    simp [this]
  · rename_i h
    have hlen : a.length = b.length := by omega
    refine wp_count (α := Unit) a.length (fun j _ => ⟨lvl, [(0, tI a), (1, tI b), (5, iI j)], [], S⟩) (fun j _ => a.take j = b.take j) () ⟨by simp only [EVA, ↓reduceIte, Nat.reduceEqDiff, Nat.reduceMul, reduceCtorEq, Nat.reduceAdd, Nat.reduceSub, Nat.reduceLeDiff, Nat.reduceLT, Int.reduceToNat, Int.reduceLE, Int.reduceLT, mens, men], by (simp only [EVA, ↓reduceIte, Nat.reduceEqDiff, Nat.reduceMul, reduceCtorEq, Nat.reduceAdd, Nat.reduceSub, Nat.reduceLeDiff, Nat.reduceLT, Int.reduceToNat, Int.reduceLE, Int.reduceLT, mens, men]) <;> rfl⟩ rfl ?_
    intro j _ hj hA
    simp only [List.length_map, EVA, ↓reduceIte, Nat.reduceEqDiff, Nat.reduceMul, reduceCtorEq, Nat.reduceAdd, Nat.reduceSub, Nat.reduceLeDiff, Nat.reduceLT, Int.reduceToNat, Int.reduceLE, Int.reduceLT, mens, men]
    split
    · rename_i hlt
      have hja : j < a.length := by omega
      have hjb : j < b.length := by omega
      have ga : (rI a)[j]? = some [tv a[j]] := by simp [hja]
      have gb : (rI b)[j]? = some [tv b[j]] := by simp [hjb]
      simp only [ga, gb, Int.natCast_nonneg, Nat.le_refl, EVA, ↓reduceIte, Nat.reduceEqDiff, Nat.reduceMul, reduceCtorEq, Nat.reduceAdd, Nat.reduceSub, Nat.reduceLeDiff, Nat.reduceLT, Int.reduceToNat, Int.reduceLE, Int.reduceLT, mens, men]
      split
      · rename_i hne
        have : ¬ a = b := list_ne_at hja hjb (by simpa using hne)
        simp [this]
      · rename_i he
        refine ⟨by rw [fits_i64]; omega, cntJ_intro () hja rfl (take_succ_eq hja hjb hA (by simpa using he))⟩
    · rename_i hge
      have : j = a.length := by omega
      subst this
      have : a = b := list_eq_all hlen hA
      simp [this]
theorem sem_eqS {P : Program} {fid : FuncId} (hc : chkF P fid eqS1 = true) (a b : List ByteArray) (ha : a.length ≤ 9223372036854775807) (lvl : Nat) (S : Sto) : Sem P fid lvl [tS a, tS b] S (iB (decide (a = b))) S := by
  refine sem_of_chk hc trivial ?_
  simp only [eqS1, List.length_map, EVA, ↓reduceIte, Nat.reduceEqDiff, Nat.reduceMul, reduceCtorEq, Nat.reduceAdd, Nat.reduceSub, Nat.reduceLeDiff, Nat.reduceLT, Int.reduceToNat, Int.reduceLE, Int.reduceLT, mens, men]
  split
  · rename_i h
    have : ¬ a = b := fun e => h (by rw [e])
    simp [this]
  · rename_i h
    have hlen : a.length = b.length := by omega
    refine wp_count (α := Unit) a.length (fun j _ => ⟨lvl, [(0, tS a), (1, tS b), (5, iI j)], [], S⟩) (fun j _ => a.take j = b.take j) () ⟨by simp only [EVA, ↓reduceIte, Nat.reduceEqDiff, Nat.reduceMul, reduceCtorEq, Nat.reduceAdd, Nat.reduceSub, Nat.reduceLeDiff, Nat.reduceLT, Int.reduceToNat, Int.reduceLE, Int.reduceLT, mens, men], by (simp only [EVA, ↓reduceIte, Nat.reduceEqDiff, Nat.reduceMul, reduceCtorEq, Nat.reduceAdd, Nat.reduceSub, Nat.reduceLeDiff, Nat.reduceLT, Int.reduceToNat, Int.reduceLE, Int.reduceLT, mens, men]) <;> rfl⟩ rfl ?_
    intro j _ hj hA
    simp only [List.length_map, EVA, ↓reduceIte, Nat.reduceEqDiff, Nat.reduceMul, reduceCtorEq, Nat.reduceAdd, Nat.reduceSub, Nat.reduceLeDiff, Nat.reduceLT, Int.reduceToNat, Int.reduceLE, Int.reduceLT, mens, men]
    split
    · rename_i hlt
      have hja : j < a.length := by omega
      have hjb : j < b.length := by omega
      have ga : (rS a)[j]? = some [ts a[j]] := by simp [hja]
      have gb : (rS b)[j]? = some [ts b[j]] := by simp [hjb]
      simp only [ga, gb, Int.natCast_nonneg, Nat.le_refl, EVA, ↓reduceIte, Nat.reduceEqDiff, Nat.reduceMul, reduceCtorEq, Nat.reduceAdd, Nat.reduceSub, Nat.reduceLeDiff, Nat.reduceLT, Int.reduceToNat, Int.reduceLE, Int.reduceLT, mens, men]
      split
      · rename_i hne
        have : ¬ a = b := list_ne_at hja hjb (by simpa using hne)
        simp [this]
      · rename_i he
        refine ⟨by rw [fits_i64]; omega, cntJ_intro () hja rfl (take_succ_eq hja hjb hA (by simpa using he))⟩
    · rename_i hge
      have : j = a.length := by omega
      subst this
      have : a = b := list_eq_all hlen hA
      simp [this]

/-! ## a new slice, filled element by element -/
/-- The first j elements, the rest zero. -/
def filled {α : Type} (c : α → List Tr) (z : List Tr) (a : List α) (j : Nat) : Row := (a.take j).map c ++ List.replicate (a.length - j) z
theorem filled_zero {α : Type} (c : α → List Tr) (z : List Tr) (a : List α) : filled c z a 0 = List.replicate a.length z := by simp [filled]
theorem filled_all {α : Type} (c : α → List Tr) (z : List Tr) (a : List α) : filled c z a a.length = a.map c := by simp [filled]
theorem filled_length {α : Type} {c : α → List Tr} {z : List Tr} {a : List α} {j : Nat} (h : j ≤ a.length) : (filled c z a j).length = a.length := by
  simp [filled]; omega
theorem filled_get {α : Type} {c : α → List Tr} {z : List Tr} {a : List α} {j : Nat} (h : j < a.length) : (filled c z a j)[j]? = some z := by
  unfold filled
  have h1 : ((a.take j).map c).length = j := by rw [List.length_map, List.length_take]; omega
  rw [List.getElem?_append_right (by omega), h1, Nat.sub_self, List.getElem?_replicate]
  rw [if_pos (by omega)]
theorem filled_set {α : Type} {c : α → List Tr} {z e : List Tr} {a : List α} {j : Nat} (h : j < a.length) (he : e = c a[j]) : (filled c z a j).set j e = filled c z a (j + 1) := by
  subst he
  unfold filled
  have h1 : ((a.take j).map c).length = j := by simp; omega
  rw [List.set_append_right _ _ (by omega), h1, Nat.sub_self, show a.length - j = (a.length - (j + 1)) + 1 from by omega, List.replicate_succ, List.set_cons_zero, List.take_succ_eq_append_getElem h, List.map_append]
  simp
def toS1 (z : Value) : F2 :=
  { nt := 22, res := [.t 2 [2]], body :=
   (.sq (.rg none [⟨some 2, none, .mv (.k (.slice none 0 0)) none⟩])
   (.sq (.rg none [⟨some 5, none, .mv (.t 0) none⟩,
      ⟨some 6, none, .ln (.t 5)⟩,
      ⟨some 7, none, .ms 1 [z] (.t 6)⟩,
      ⟨some 3, none, .mv (.t 7) none⟩])
   (.sq (.sq (.rg none [⟨some 4, none, .mv (.k (.int .i64 0)) none⟩])
    (.bl 0 (.lp [0, 3, 4] [224] (.sq (.sq (.rg none [⟨some 8, none, .mv (.t 4) none⟩,
          ⟨some 9, none, .mv (.t 0) none⟩,
          ⟨some 10, none, .ln (.t 9)⟩,
          ⟨some 11, none, .bi .lss 0 (.t 8) (.t 10)⟩])
       (.cd (.t 11) (.sk)
       (.ex 0)))
      (.sq (.bl 1 (.rg none [⟨some 14, none, .mv (.t 3) none⟩,
          ⟨some 15, none, .mv (.t 4) none⟩,
          ⟨some 16, none, .mv (.t 0) none⟩,
          ⟨some 17, none, .mv (.t 4) none⟩,
          ⟨some 18, none, .ia 1 (.t 16) (.t 17)⟩,
          ⟨some 19, none, .ld none (.t 18)⟩,
          ⟨some 20, none, .ia 1 (.t 14) (.t 15)⟩,
          ⟨none, none, .st 1 (.t 20) (.t 19)⟩]))
      (.rg none [⟨some 12, none, .mv (.t 4) none⟩,
        ⟨some 13, none, .bi .add 0 (.t 12) (.k (.int .i64 1))⟩,
        ⟨some 4, none, .mv (.t 13) none⟩]))))))
   (.sq (.rg none [⟨some 21, none, .mv (.t 3) none⟩,
      ⟨some 2, none, .mv (.t 21) none⟩])
   (.rt))))) }
theorem sem_toI {P : Program} {fid : FuncId} (hc : chkF P fid (toS1 (.int .i64 0)) = true) (a : List Int) (ha : a.length ≤ 4294967296) (lvl : Nat) (S : Sto) : Sem P fid lvl [tI a] S (.ow 1 (rI a) true) S := by
  refine sem_of_chk hc trivial ?_
  simp only [toS1, List.length_map, bigN, Int.natCast_nonneg, EVA, ↓reduceIte, Nat.reduceEqDiff, Nat.reduceMul, reduceCtorEq, Nat.reduceAdd, Nat.reduceSub, Nat.reduceLeDiff, Nat.reduceLT, Int.reduceToNat, Int.reduceLE, Int.reduceLT, mens, men]
  refine ⟨by omega, ?_⟩
  refine wp_count (α := Unit) a.length (fun j _ => ⟨lvl, [(0, tI a), (3, .hd (lvl, 224) [] 0 a.length none a.length), (4, iI j)], [(224, .ar 1 (filled (fun n => [tv n]) [tv 0] a j) true a.length 0)], S⟩) (fun _ _ => True) () ⟨by simp only [EVA, ↓reduceIte, Nat.reduceEqDiff, Nat.reduceMul, reduceCtorEq, Nat.reduceAdd, Nat.reduceSub, Nat.reduceLeDiff, Nat.reduceLT, Int.reduceToNat, Int.reduceLE, Int.reduceLT, mens, men], by (simp only [filled_zero, EVA, ↓reduceIte, Nat.reduceEqDiff, Nat.reduceMul, reduceCtorEq, Nat.reduceAdd, Nat.reduceSub, Nat.reduceLeDiff, Nat.reduceLT, Int.reduceToNat, Int.reduceLE, Int.reduceLT, mens, men]) <;> rfl⟩ trivial ?_
  intro j _ hj _
  simp only [List.length_map, EVA, ↓reduceIte, Nat.reduceEqDiff, Nat.reduceMul, reduceCtorEq, Nat.reduceAdd, Nat.reduceSub, Nat.reduceLeDiff, Nat.reduceLT, Int.reduceToNat, Int.reduceLE, Int.reduceLT, mens, men]
  split
  · rename_i hlt
    have hja : j < a.length := by omega
    have ga : (rI a)[j]? = some [tv a[j]] := by simp [hja]
    have gz : (filled (fun n => [tv n]) [tv 0] a j)[j]? = some [tv 0] := filled_get hja
    simp only [ga, gz, Int.natCast_nonneg, Nat.le_refl, hja, setp, List.set_cons_zero, r_setOb, EVA, ↓reduceIte, Nat.reduceEqDiff, Nat.reduceMul, reduceCtorEq, Nat.reduceAdd, Nat.reduceSub, Nat.reduceLeDiff, Nat.reduceLT, Int.reduceToNat, Int.reduceLE, Int.reduceLT, mens, men]
    refine ⟨by rw [fits_i64]; omega, cntJ_intro () hja ?_ trivial⟩
    rw [filled_set hja rfl]
    rfl
  · rename_i hge
    have : j = a.length := by omega
    subst this
    rw [filled_all]
    simp
theorem sem_toS {P : Program} {fid : FuncId} (hc : chkF P fid (toS1 (.string ⟨#[]⟩)) = true) (a : List ByteArray) (ha : a.length ≤ 4294967296) (lvl : Nat) (S : Sto) : Sem P fid lvl [tS a] S (.ow 1 (rS a) true) S := by
  refine sem_of_chk hc trivial ?_
  simp only [toS1, List.length_map, bigN, Int.natCast_nonneg, EVA, ↓reduceIte, Nat.reduceEqDiff, Nat.reduceMul, reduceCtorEq, Nat.reduceAdd, Nat.reduceSub, Nat.reduceLeDiff, Nat.reduceLT, Int.reduceToNat, Int.reduceLE, Int.reduceLT, mens, men]
  refine ⟨by omega, ?_⟩
  refine wp_count (α := Unit) a.length (fun j _ => ⟨lvl, [(0, tS a), (3, .hd (lvl, 224) [] 0 a.length none a.length), (4, iI j)], [(224, .ar 1 (filled (fun n => [ts n]) [ts ⟨#[]⟩] a j) true a.length 0)], S⟩) (fun _ _ => True) () ⟨by simp only [EVA, ↓reduceIte, Nat.reduceEqDiff, Nat.reduceMul, reduceCtorEq, Nat.reduceAdd, Nat.reduceSub, Nat.reduceLeDiff, Nat.reduceLT, Int.reduceToNat, Int.reduceLE, Int.reduceLT, mens, men], by (simp only [filled_zero, EVA, ↓reduceIte, Nat.reduceEqDiff, Nat.reduceMul, reduceCtorEq, Nat.reduceAdd, Nat.reduceSub, Nat.reduceLeDiff, Nat.reduceLT, Int.reduceToNat, Int.reduceLE, Int.reduceLT, mens, men]) <;> rfl⟩ trivial ?_
  intro j _ hj _
  simp only [List.length_map, EVA, ↓reduceIte, Nat.reduceEqDiff, Nat.reduceMul, reduceCtorEq, Nat.reduceAdd, Nat.reduceSub, Nat.reduceLeDiff, Nat.reduceLT, Int.reduceToNat, Int.reduceLE, Int.reduceLT, mens, men]
  split
  · rename_i hlt
    have hja : j < a.length := by omega
    have ga : (rS a)[j]? = some [ts a[j]] := by simp [hja]
    have gz : (filled (fun n => [ts n]) [ts ⟨#[]⟩] a j)[j]? = some [ts ⟨#[]⟩] := filled_get hja
    simp only [ga, gz, Int.natCast_nonneg, Nat.le_refl, hja, setp, List.set_cons_zero, r_setOb, EVA, ↓reduceIte, Nat.reduceEqDiff, Nat.reduceMul, reduceCtorEq, Nat.reduceAdd, Nat.reduceSub, Nat.reduceLeDiff, Nat.reduceLT, Int.reduceToNat, Int.reduceLE, Int.reduceLT, mens, men]
    refine ⟨by rw [fits_i64]; omega, cntJ_intro () hja ?_ trivial⟩
    rw [filled_set hja rfl]
    rfl
  · rename_i hge
    have : j = a.length := by omega
    subst this
    rw [filled_all]
    simp
end Go.Fd

/-
  THE LAWS' HELPERS AT SLICES WHOSE ELEMENTS ARE ONE CELL. Own work.
-/
namespace Go.Fd
set_option maxRecDepth 10000
theorem sem_szS1 {P : Program} {fid fe : FuncId} (hc : chkF P fid (szSl 1 none fe) = true) {α : Type} (t : α → Tr) (f : α → Int → Int) (a : List α) (left : Int) (h : a.length ≤ 9223372036854775807) (h0 : 0 ≤ left) (h1 : left ≤ 1048576)
    (hf : ∀ x ∈ a, ∀ l : Int, 0 ≤ l → l ≤ 1048576 → f x l ≤ l ∧ ∀ lvl S, Sem P fe lvl [.tr (t x), iI l] S (iI (f x l)) S) (lvl : Nat) (S : Sto) :
    Sem P fid lvl [.tr (.sl (a.map fun x => [t x])), iI left] S (iI (szL f a left)) S := by
  refine sem_of_chk hc trivial ?_
  simp only [szSl, List.length_map, EVA, ↓reduceIte, Nat.reduceEqDiff, Nat.reduceMul, reduceCtorEq, Nat.reduceAdd, Nat.reduceSub, Nat.reduceLeDiff, Nat.reduceLT, Int.reduceToNat, Int.reduceLE, Int.reduceLT, mens, men]
  refine ⟨by rw [fits_i64]; omega, ?_⟩
  unfold szL
  split
  · rfl
  · rename_i hlt
    generalize hr : szF f a (left - a.length) = total
    refine wp_count (α := Int) a.length (fun j l => ⟨lvl, [(0, .tr (.sl (a.map fun x => [t x]))), (1, iI l), (5, iI j)], [], S⟩) (fun j l => 0 ≤ l ∧ l ≤ 1048576 ∧ szF f (a.drop j) l = total) (left - a.length) ⟨by simp only [EVA, ↓reduceIte, Nat.reduceEqDiff, Nat.reduceMul, reduceCtorEq, Nat.reduceAdd, Nat.reduceSub, Nat.reduceLeDiff, Nat.reduceLT, Int.reduceToNat, Int.reduceLE, Int.reduceLT, mens, men], by (simp only [EVA, ↓reduceIte, Nat.reduceEqDiff, Nat.reduceMul, reduceCtorEq, Nat.reduceAdd, Nat.reduceSub, Nat.reduceLeDiff, Nat.reduceLT, Int.reduceToNat, Int.reduceLE, Int.reduceLT, mens, men]) <;> rfl⟩ ⟨by omega, by omega, hr⟩ ?_
    intro j l hj ⟨hl0, hl1, hl⟩
    simp only [List.length_map, EVA, ↓reduceIte, Nat.reduceEqDiff, Nat.reduceMul, reduceCtorEq, Nat.reduceAdd, Nat.reduceSub, Nat.reduceLeDiff, Nat.reduceLT, Int.reduceToNat, Int.reduceLE, Int.reduceLT, mens, men]
    split
    · rename_i hlt
      have hja : j < a.length := by omega
      have ga : (a.map fun x => [t x])[j]? = some [t a[j]] := by simp [hja]
      rw [List.drop_eq_getElem_cons hja] at hl
      obtain ⟨hle, hsem⟩ := hf a[j] (List.getElem_mem hja) l hl0 hl1
      simp only [ga, Int.natCast_nonneg, Nat.le_refl, EVA, ↓reduceIte, Nat.reduceEqDiff, Nat.reduceMul, reduceCtorEq, Nat.reduceAdd, Nat.reduceSub, Nat.reduceLeDiff, Nat.reduceLT, Int.reduceToNat, Int.reduceLE, Int.reduceLT, mens, men]
      refine kca_intro hsem ?_
      simp only [EVA, ↓reduceIte, Nat.reduceEqDiff, Nat.reduceMul, reduceCtorEq, Nat.reduceAdd, Nat.reduceSub, Nat.reduceLeDiff, Nat.reduceLT, Int.reduceToNat, Int.reduceLE, Int.reduceLT, mens, men]
      split
      · rename_i hneg
        simp only [szF, if_pos hneg] at hl
        rw [hl]
      · rename_i hneg
        simp only [szF, if_neg hneg] at hl
        refine ⟨by rw [fits_i64]; omega, cntJ_intro (f a[j] l) hja rfl ⟨by omega, by omega, hl⟩⟩
    · rename_i hge
      have : j = a.length := by omega
      subst this
      simp only [List.drop_length, szF] at hl
      rw [hl]
theorem sem_eqSl1 {P : Program} {fid fe : FuncId} (hc : chkF P fid (eqSl 1 none fe) = true) {α : Type} [DecidableEq α] (t : α → Tr) (a b : List α) (ha : a.length ≤ 9223372036854775807)
    (hf : ∀ x ∈ a, ∀ y ∈ b, ∀ lvl S, Sem P fe lvl [.tr (t x), .tr (t y)] S (iB (decide (x = y))) S) (lvl : Nat) (S : Sto) :
    Sem P fid lvl [.tr (.sl (a.map fun x => [t x])), .tr (.sl (b.map fun x => [t x]))] S (iB (decide (a = b))) S := by
  refine sem_of_chk hc trivial ?_
  simp only [eqSl, List.length_map, EVA, ↓reduceIte, Nat.reduceEqDiff, Nat.reduceMul, reduceCtorEq, Nat.reduceAdd, Nat.reduceSub, Nat.reduceLeDiff, Nat.reduceLT, Int.reduceToNat, Int.reduceLE, Int.reduceLT, mens, men]
  split
  · rename_i h
    have : ¬ a = b := fun e => h (by rw [e])
    simp [this]
  · rename_i h
    have hlen : a.length = b.length := by omega
    refine wp_count (α := Unit) a.length (fun j _ => ⟨lvl, [(0, .tr (.sl (a.map fun x => [t x]))), (1, .tr (.sl (b.map fun x => [t x]))), (5, iI j)], [], S⟩) (fun j _ => a.take j = b.take j) () ⟨by simp only [EVA, ↓reduceIte, Nat.reduceEqDiff, Nat.reduceMul, reduceCtorEq, Nat.reduceAdd, Nat.reduceSub, Nat.reduceLeDiff, Nat.reduceLT, Int.reduceToNat, Int.reduceLE, Int.reduceLT, mens, men], by (simp only [EVA, ↓reduceIte, Nat.reduceEqDiff, Nat.reduceMul, reduceCtorEq, Nat.reduceAdd, Nat.reduceSub, Nat.reduceLeDiff, Nat.reduceLT, Int.reduceToNat, Int.reduceLE, Int.reduceLT, mens, men]) <;> rfl⟩ rfl ?_
    intro j _ hj hA
    simp only [List.length_map, EVA, ↓reduceIte, Nat.reduceEqDiff, Nat.reduceMul, reduceCtorEq, Nat.reduceAdd, Nat.reduceSub, Nat.reduceLeDiff, Nat.reduceLT, Int.reduceToNat, Int.reduceLE, Int.reduceLT, mens, men]
    split
    · rename_i hlt
      have hja : j < a.length := by omega
      have hjb : j < b.length := by omega
      have ga : (a.map fun x => [t x])[j]? = some [t a[j]] := by simp [hja]
      have gb : (b.map fun x => [t x])[j]? = some [t b[j]] := by simp [hjb]
      have hsem := hf a[j] (List.getElem_mem hja) b[j] (List.getElem_mem hjb)
      simp only [ga, gb, Int.natCast_nonneg, Nat.le_refl, EVA, ↓reduceIte, Nat.reduceEqDiff, Nat.reduceMul, reduceCtorEq, Nat.reduceAdd, Nat.reduceSub, Nat.reduceLeDiff, Nat.reduceLT, Int.reduceToNat, Int.reduceLE, Int.reduceLT, mens, men]
      refine kca_intro hsem ?_
      simp only [Bool.not_eq_true', EVA, ↓reduceIte, Nat.reduceEqDiff, Nat.reduceMul, reduceCtorEq, Nat.reduceAdd, Nat.reduceSub, Nat.reduceLeDiff, Nat.reduceLT, Int.reduceToNat, Int.reduceLE, Int.reduceLT, mens, men]
      split
      · rename_i hne
        have : ¬ a = b := list_ne_at hja hjb (by simpa using hne)
        simp [this]
      · rename_i he
        refine ⟨by rw [fits_i64]; omega, cntJ_intro () hja rfl (take_succ_eq hja hjb hA (by simpa using he))⟩
    · rename_i hge
      have : j = a.length := by omega
      subst this
      have : a = b := list_eq_all hlen hA
      simp [this]
end Go.Fd

/-
  FOUNDATION 49: rows at a path; functions that mark what they are handed. Own work.
-/
namespace Go.Fd

/-- The slice at path p becomes r. -/
def putp : Row → Pth → Row → Row
  | _, [], r => r
  | es, (a, b) :: p, r =>
    match es[a]? with
    | some e =>
      match e[b]? with
      | some (.sl es') => es.set a (e.set b (.sl (putp es' p r)))
      | _ => es
    | none => es

theorem pgetp_cons {es es' : Row} {a b : Nat} {p : Pth} {e : List Tr} (h1 : es[a]? = some e) (h2 : e[b]? = some (.sl es')) : getp es ((a, b) :: p) = getp es' p := by
  simp only [getp, h1, h2]
theorem putp_cons {es es' : Row} {a b : Nat} {p : Pth} {e : List Tr} {r : Row} (h1 : es[a]? = some e) (h2 : e[b]? = some (.sl es')) : putp es ((a, b) :: p) r = es.set a (e.set b (.sl (putp es' p r))) := by
  simp only [putp, h1, h2]
theorem psetp_cons {es es' : Row} {a b i f : Nat} {p : Pth} {e : List Tr} {t : Tr} (h1 : es[a]? = some e) (h2 : e[b]? = some (.sl es')) : setp es ((a, b) :: p) i f t = es.set a (e.set b (.sl (setp es' p i f t))) := by
  simp only [setp, h1, h2]
theorem getp_inv {es r0 : Row} {a b : Nat} {p : Pth} (h : getp es ((a, b) :: p) = some r0) : ∃ e es', es[a]? = some e ∧ e[b]? = some (.sl es') ∧ getp es' p = some r0 := by
  simp only [getp] at h
  cases h1 : es[a]? with
  | none => rw [h1] at h; cases h
  | some e =>
    rw [h1] at h
    cases h2 : e[b]? with
    | none => simp only [h2] at h; cases h
    | some t =>
      simp only [h2] at h
      cases t with
      | v x => cases h
      | sl es' => exact ⟨e, es', rfl, h2, h⟩
theorem pset_get {α : Type} {l : List α} {a : Nat} {x y : α} (h : l[a]? = some x) : (l.set a y)[a]? = some y := by
  rw [List.getElem?_set_self]; exact (List.getElem?_eq_some_iff.1 h).1

theorem getp_putp {r : Row} : ∀ {p : Pth} {es r0 : Row}, getp es p = some r0 → getp (putp es p r) p = some r
  | [], _, _, _ => rfl
  | (a, b) :: p, es, r0, h => by
    obtain ⟨e, es', h1, h2, h3⟩ := getp_inv h
    rw [putp_cons h1 h2, pgetp_cons (pset_get h1) (pset_get h2)]
    exact getp_putp h3
theorem putp_putp {r s : Row} : ∀ {p : Pth} {es r0 : Row}, getp es p = some r0 → putp (putp es p r) p s = putp es p s
  | [], _, _, _ => rfl
  | (a, b) :: p, es, r0, h => by
    obtain ⟨e, es', h1, h2, h3⟩ := getp_inv h
    rw [putp_cons h1 h2, putp_cons h1 h2, putp_cons (pset_get h1) (pset_get h2), putp_putp h3, List.set_set, List.set_set]
theorem setp_putp {r : Row} {i f : Nat} {t : Tr} {e0 : List Tr} (hi : r[i]? = some e0) : ∀ {p : Pth} {es r0 : Row}, getp es p = some r0 → setp (putp es p r) p i f t = putp es p (r.set i (e0.set f t))
  | [], es, _, _ => by simp only [putp, setp, hi]
  | (a, b) :: p, es, r0, h => by
    obtain ⟨e, es', h1, h2, h3⟩ := getp_inv h
    rw [putp_cons h1 h2, putp_cons h1 h2, psetp_cons (pset_get h1) (pset_get h2), setp_putp hi h3, List.set_set, List.set_set]
theorem pgetp_app {q : Pth} : ∀ {p : Pth} {es r0 : Row}, getp es p = some r0 → getp es (p ++ q) = getp r0 q
  | [], es, r0, h => by simp only [getp, Option.some.injEq] at h; subst h; rfl
  | (a, b) :: p, es, r0, h => by
    obtain ⟨e, es', h1, h2, h3⟩ := getp_inv h
    rw [List.cons_append, pgetp_cons h1 h2]
    exact pgetp_app h3
theorem putp_app {q : Pth} {z : Row} : ∀ {p : Pth} {es r0 : Row}, getp es p = some r0 → putp es (p ++ q) z = putp es p (putp r0 q z)
  | [], es, r0, h => by simp only [getp, Option.some.injEq] at h; subst h; rfl
  | (a, b) :: p, es, r0, h => by
    obtain ⟨e, es', h1, h2, h3⟩ := getp_inv h
    rw [List.cons_append, putp_cons h1 h2, putp_cons h1 h2, putp_app h3]
theorem set_self {α : Type} {l : List α} {a : Nat} {x : α} (h : l[a]? = some x) : l.set a x = l := by
  obtain ⟨h1, h2⟩ := List.getElem?_eq_some_iff.1 h
  rw [← h2, List.set_getElem_self]
theorem putp_self : ∀ {p : Pth} {es r : Row}, getp es p = some r → putp es p r = es
  | [], es, r, h => by simp only [getp, Option.some.injEq] at h; subst h; rfl
  | (a, b) :: p, es, r, h => by
    obtain ⟨e, es', h1, h2, h3⟩ := getp_inv h
    rw [putp_cons h1 h2, putp_self h3, set_self h2, set_self h1]

theorem psset_sset {S : Sto} {id : Oid} {a b : Ob} : sset (sset S id a) id b = sset S id b := by
  funext i
  unfold sset
  split <;> rfl
theorem sset_self {S : Sto} {id : Oid} {a : Ob} (h : S id = some a) : sset S id a = S := by
  funext i
  unfold sset
  split
  · rename_i e; rw [e, h]
  · rfl
theorem packS_sset {lvl : Nat} {loc : List (Nat × Ob)} {S : Sto} {id : Oid} {o : Ob} (h : id.1 ≠ lvl) : packS lvl loc (sset S id o) = sset (packS lvl loc S) id o := by
  funext i
  by_cases e : i = id
  · subst e
    rw [r_packo h]
    unfold sset
    rw [if_pos rfl, if_pos rfl]
  · unfold sset packS
    simp only [if_neg e]

/-! ## marking -/
section mark
variable {α : Type} (m : α → Int → α) (n : α → Nat)
def mL : List α → Int → List α
  | [], _ => []
  | x :: r, k => m x k :: mL r (k + n x)
def nL : List α → Nat
  | [] => 0
  | x :: r => n x + nL r
theorem mL_length : ∀ (a : List α) (k : Int), (mL m n a k).length = a.length
  | [], _ => rfl
  | x :: r, k => by simp only [mL, List.length_cons, mL_length r]
theorem nL_append : ∀ (a b : List α), nL n (a ++ b) = nL n a + nL n b
  | [], b => by simp [nL]
  | x :: r, b => by simp only [List.cons_append, nL, nL_append r b]; omega
theorem mL_append : ∀ (a b : List α) (k : Int), mL m n (a ++ b) k = mL m n a k ++ mL m n b (k + nL n a)
  | [], b, k => by simp [mL, nL]
  | x :: r, b, k => by
    simp only [List.cons_append, mL, nL, mL_append r b]
    rw [show k + (n x : Int) + (nL n r : Int) = k + ((n x + nL n r : Nat) : Int) from by omega]
/-- The number, and the list, when j elements have been marked. -/
def kJ (a : List α) (k : Int) (j : Nat) : Int := k + nL n (a.take j)
def lJ (a : List α) (k : Int) (j : Nat) : List α := mL m n (a.take j) k ++ a.drop j
theorem kJ_zero {a : List α} {k : Int} : kJ n a k 0 = k := by simp [kJ, nL]
theorem lJ_zero {a : List α} {k : Int} : lJ m n a k 0 = a := by simp [lJ, mL]
theorem kJ_all {a : List α} {k : Int} : kJ n a k a.length = k + nL n a := by simp [kJ]
theorem lJ_all {a : List α} {k : Int} : lJ m n a k a.length = mL m n a k := by simp [lJ]
theorem kJ_succ {a : List α} {k : Int} {j : Nat} (h : j < a.length) : kJ n a k (j + 1) = kJ n a k j + n a[j] := by
  unfold kJ
  rw [List.take_succ_eq_append_getElem h, nL_append]
  simp only [nL]
  omega
theorem kJ_le {a : List α} {k : Int} {j : Nat} : kJ n a k j ≤ k + nL n a := by
  have : nL n a = nL n (a.take j) + nL n (a.drop j) := by rw [← nL_append, List.take_append_drop]
  unfold kJ
  omega
theorem kJ_ge {a : List α} {k : Int} {j : Nat} : k ≤ kJ n a k j := by unfold kJ; omega
theorem lJ_len {a : List α} {k : Int} {j : Nat} : (lJ m n a k j).length = a.length := by
  unfold lJ
  rw [List.length_append, mL_length, List.length_take, List.length_drop]
  omega
theorem lJ_get {a : List α} {k : Int} {j : Nat} (h : j < a.length) : (lJ m n a k j)[j]? = some a[j] := by
  unfold lJ
  have h1 : (mL m n (a.take j) k).length = j := by rw [mL_length, List.length_take]; omega
  rw [List.getElem?_append_right (by omega), h1, Nat.sub_self, List.getElem?_drop, Nat.add_zero, List.getElem?_eq_getElem h]
theorem lJ_set {a : List α} {k : Int} {j : Nat} (h : j < a.length) : (lJ m n a k j).set j (m a[j] (kJ n a k j)) = lJ m n a k (j + 1) := by
  unfold lJ
  have h1 : (mL m n (a.take j) k).length = j := by rw [mL_length, List.length_take]; omega
  rw [List.set_append_right _ _ (by omega), h1, Nat.sub_self, List.drop_eq_getElem_cons h, List.set_cons_zero, List.take_succ_eq_append_getElem h, mL_append]
  simp only [mL, kJ, List.append_assoc, List.cons_append, List.nil_append]
theorem lJ_row (c : α → List Tr) {a : List α} {k : Int} {j : Nat} (h : j < a.length) : ∃ R : Row, j < R.length ∧ (lJ m n a k j).map c = R.set j (c a[j]) ∧ (lJ m n a k (j + 1)).map c = R.set j (c (m a[j] (kJ n a k j))) := by
  refine ⟨(lJ m n a k j).map c, by rw [List.length_map, lJ_len]; exact h, ?_, ?_⟩
  · refine (set_self ?_).symm
    rw [List.getElem?_map, lJ_get m n h]; rfl
  · rw [← lJ_set m n h, List.map_set]
end mark
theorem rset_get {R : Row} {j : Nat} (h : j < R.length) (e : List Tr) : (R.set j e)[j]? = some e := List.getElem?_set_self h
theorem setp_row {es r0 : Row} {p : Pth} {R : Row} {j : Nat} (hv : getp es p = some r0) (h : j < R.length) (e : List Tr) (f : Nat) (t : Tr) : setp (putp es p (R.set j e)) p j f t = putp es p (R.set j (e.set f t)) := by
  rw [setp_putp (rset_get h e) hv, List.set_set]

/-- A function that marks the slice that it is handed, and answers the next number. -/
def MarkS (P : Program) (fid : FuncId) {α : Type} (c : α → List Tr) (m : α → Int → α) (n : α → Nat) (B : α → Prop) : Prop :=
  ∀ (a : List α) (k : Int) (lvl : Nat) (S : Sto) (id : Oid) (p : Pth) (es r0 : Row) (kk hw ver st : Nat) (cap : Option Nat), id.1 < lvl → getp es p = some r0 → stamp p st hw ver true → 0 ≤ k → k + nL n a ≤ 4611686018427387904 →
    a.length ≤ 4294967296 → (∀ x ∈ a, B x) → Sem P fid lvl [.hd id p 0 a.length cap st, iI k] (sset S id (.ar kk (putp es p (a.map c)) true hw ver)) (iI (k + nL n a)) (sset S id (.ar kk (putp es p ((mL m n a k).map c)) true hw ver))
/-- The same for a slice in a cell of a slice. -/
theorem MarkS.nested {P : Program} {fid : FuncId} {α : Type} {c : α → List Tr} {m : α → Int → α} {n : α → Nat} {B : α → Prop} (hm : MarkS P fid c m n B) {a : List α} {k : Int} {lvl : Nat} {S : Sto} {id : Oid} {p : Pth} {es r0 : Row} {kk hw ver j f : Nat} {R : Row} {e : List Tr}
    (hid : id.1 < lvl) (hv : getp es p = some r0) (h0 : 0 ≤ k) (h1 : k + nL n a ≤ 4611686018427387904) (hl : a.length ≤ 4294967296) (hB : ∀ x ∈ a, B x) (hj : j < R.length) (he : e[f]? = some (.sl (a.map c))) :
    Sem P fid lvl [.hd id (p ++ [(j, f)]) 0 a.length none ver, iI k] (sset S id (.ar kk (putp es p (R.set j e)) true hw ver)) (iI (k + nL n a)) (sset S id (.ar kk (putp es p (R.set j (e.set f (.sl ((mL m n a k).map c))))) true hw ver)) := by
  have hR : (R.set j e)[j]? = some e := by rw [List.getElem?_set_self hj]
  have g1 : getp (putp es p (R.set j e)) p = some (R.set j e) := getp_putp hv
  have g2 : getp (putp es p (R.set j e)) (p ++ [(j, f)]) = some (a.map c) := by
    rw [pgetp_app g1, pgetp_cons hR he]; rfl
  have := hm a k lvl S id (p ++ [(j, f)]) (putp es p (R.set j e)) _ kk hw ver ver none hid g2 (by cases p <;> exact ⟨rfl, rfl⟩) h0 h1 hl hB
  rw [putp_self g2, putp_app g1, putp_putp hv, putp_cons hR he] at this
  simp only [putp, List.set_set] at this
  exact this
theorem kcy_mark {P : Program} {fid : FuncId} {α : Type} {c : α → List Tr} {m : α → Int → α} {n : α → Nat} {B : α → Prop} (hm : MarkS P fid c m n B) {a : List α} {k : Int} {lvl len : Nat} {S : Sto} {id : Oid} {p : Pth} {es r0 : Row} {kk hw ver j f : Nat} {R : Row} {e : List Tr} {env : List (Nat × IV)} {loc : List (Nat × Ob)} {d : Option Nat} {K : St → Prop}
    (hid : id.1 < lvl) (hv : getp es p = some r0) (h0 : 0 ≤ k) (h1 : k + nL n a ≤ 4611686018427387904) (hl : a.length ≤ 4294967296) (hB : ∀ x ∈ a, B x) (hj : j < R.length) (he : e[f]? = some (.sl (a.map c))) (hlen : len = a.length)
    (hk : K ⟨lvl, ptd d (iI (k + nL n a)) env, loc, sset S id (.ar kk (putp es p (R.set j (e.set f (.sl ((mL m n a k).map c))))) true hw ver)⟩) :
    kcy (Sem P) fid true lvl env loc (sset S id (.ar kk (putp es p (R.set j e)) true hw ver)) d K [.hd id (p ++ [(j, f)]) 0 len none ver, iI k] := by
  subst hlen
  have hne : id.1 ≠ lvl := by omega
  refine kcy_intro (r := iI (k + nL n a)) loc (sset S id (.ar kk (putp es p (R.set j (e.set f (.sl ((mL m n a k).map c))))) true hw ver)) ?_ ?_ ⟨?_, hk⟩
  · intro i hi
    have : i ≠ id := fun e => hne (by rw [← e]; exact hi)
    unfold sset
    rw [if_neg this, if_neg this]
  · rw [packS_sset hne, packS_sset hne]
    exact hm.nested (Nat.lt_succ_of_lt hid) hv h0 h1 hl hB hj he
  · trivial
theorem packS_ptO {lvl key : Nat} {loc : List (Nat × Ob)} {out : Sto} {o : Ob} : packS lvl (ptO key o loc) out = sset (packS lvl loc out) (lvl, key) o := by
  funext i
  unfold packS sset
  by_cases h : i.1 = lvl
  · rw [if_pos h, lkO_ptO]
    by_cases h2 : i.2 = key
    · have : i = (lvl, key) := by obtain ⟨a, b⟩ := i; simp only at h h2; rw [h, h2]
      rw [if_pos h2, if_pos this]
    · have : ¬ i = (lvl, key) := fun e => h2 (by rw [e])
      rw [if_neg h2, if_neg this]
      exact (if_pos h).symm
  · have : ¬ i = (lvl, key) := fun e => h (by rw [e])
    rw [if_neg h, if_neg this]
    exact (if_neg h).symm
/-- A whole slice of an elder call's is marked. -/
theorem kcy_mark0 {P : Program} {fid : FuncId} {α : Type} {c : α → List Tr} {m : α → Int → α} {n : α → Nat} {B : α → Prop} (hm : MarkS P fid c m n B) {a : List α} {k : Int} {lvl : Nat} {out : Sto} {id : Oid} {kk hw ver : Nat} {cap : Option Nat} {env : List (Nat × IV)} {loc : List (Nat × Ob)} {d : Option Nat} {K : St → Prop}
    (hid : id.1 < lvl) (hS : out id = some (.ar kk (a.map c) true hw ver)) (h0 : 0 ≤ k) (h1 : k + nL n a ≤ 4611686018427387904) (hl : a.length ≤ 4294967296) (hB : ∀ x ∈ a, B x)
    (hk : K ⟨lvl, ptd d (iI (k + nL n a)) env, loc, sset out id (.ar kk ((mL m n a k).map c) true hw ver)⟩) :
    kcy (Sem P) fid true lvl env loc out d K [.hd id [] 0 a.length cap hw, iI k] := by
  have hne : id.1 ≠ lvl := by omega
  refine kcy_intro (r := iI (k + nL n a)) loc (sset out id (.ar kk ((mL m n a k).map c) true hw ver)) ?_ ?_ ⟨?_, hk⟩
  · intro i hi
    have : i ≠ id := fun e => hne (by rw [← e]; exact hi)
    unfold sset
    rw [if_neg this]
  · rw [packS_sset hne]
    have e : packS lvl loc out = sset (packS lvl loc out) id (.ar kk (putp (a.map c) [] (a.map c)) true hw ver) := (sset_self (by rw [r_packo hne]; exact hS)).symm
    have := hm a k (lvl + 1) (packS lvl loc out) id [] (a.map c) (a.map c) kk hw ver hw cap (Nat.lt_succ_of_lt hid) rfl rfl h0 h1 hl hB
    rw [← e] at this
    exact this
  · trivial
/-- The same for a slice of the call's own. -/
theorem kcy_mark1 {P : Program} {fid : FuncId} {α : Type} {c : α → List Tr} {m : α → Int → α} {n : α → Nat} {B : α → Prop} (hm : MarkS P fid c m n B) {a : List α} {k : Int} {lvl key : Nat} {out : Sto} {kk hw ver : Nat} {cap : Option Nat} {env : List (Nat × IV)} {loc : List (Nat × Ob)} {d : Option Nat} {K : St → Prop}
    (hS : lkO key loc = some (.ar kk (a.map c) true hw ver)) (h0 : 0 ≤ k) (h1 : k + nL n a ≤ 4611686018427387904) (hl : a.length ≤ 4294967296) (hB : ∀ x ∈ a, B x)
    (hk : K ⟨lvl, ptd d (iI (k + nL n a)) env, ptO key (.ar kk ((mL m n a k).map c) true hw ver) loc, out⟩) :
    kcy (Sem P) fid true lvl env loc out d K [.hd (lvl, key) [] 0 a.length cap hw, iI k] := by
  refine kcy_intro (r := iI (k + nL n a)) (ptO key (.ar kk ((mL m n a k).map c) true hw ver) loc) out (fun _ _ => rfl) ?_ ⟨?_, hk⟩
  · rw [packS_ptO]
    have e : packS lvl loc out = sset (packS lvl loc out) (lvl, key) (.ar kk (putp (a.map c) [] (a.map c)) true hw ver) := (sset_self (by unfold packS; rw [if_pos rfl]; exact hS)).symm
    have := hm a k (lvl + 1) (packS lvl loc out) (lvl, key) [] (a.map c) (a.map c) kk hw ver hw cap (Nat.lt_succ_self _) rfl rfl h0 h1 hl hB
    rw [← e] at this
    exact this
  · trivial
end Go.Fd

/-
  HOW MANY MARKS A THING TAKES, AGAINST ITS SIZE. Own work.
-/
namespace Go.Fd
/-- On, if something is left. -/
def szTh (l : Int) (g : Int → Int) : Int := if l < 0 then -1 else g l
def Zq (c : Int) (s : Int → Int) (q : Nat) : Prop := ∀ l : Int, 0 ≤ l → l ≤ 1048576 → s l ≤ l ∧ (0 ≤ s l → (q : Int) ≤ c + 256 * (l - s l))
theorem Zq_id : Zq 0 (fun l => l) 0 := fun l _ _ => ⟨Int.le_refl _, fun _ => by simp only; omega⟩
theorem Zq_th {c e : Int} {s g : Int → Int} {q r : Nat} (hc : 0 ≤ c) (he : 0 ≤ e) (hs : Zq c s q) (hg : Zq e g r) : Zq (c + e) (fun l => szTh (s l) g) (q + r) := fun l h0 h1 => by
  have a := hs l h0 h1
  by_cases h : s l < 0
  · simp only [szTh, if_pos h]
    exact ⟨by omega, fun h => by omega⟩
  · simp only [szTh, if_neg h]
    have b := hg (s l) (by omega) (by omega)
    refine ⟨by omega, fun h2 => ?_⟩
    have := a.2 (by omega)
    have := b.2 h2
    omega
theorem Zq_N {α : Type} (n : α → Nat) (hn : ∀ x, n x ≤ 256) (a : List α) : Zq 0 (fun l => szN a.length l) (nL n a) := fun l h0 h1 => by
  have hh : ∀ b : List α, nL n b ≤ 256 * b.length := fun b => by
    induction b with
    | nil => exact Nat.le_refl 0
    | cons x r ih => simp only [nL, List.length_cons]; have := hn x; omega
  have := hh a
  simp only [szN]
  split
  · exact ⟨by omega, fun h => by omega⟩
  · exact ⟨by omega, fun h => by omega⟩
theorem Zq_str (n : Nat) : Zq 0 (fun l => l - n) 0 := fun l h0 h1 => ⟨by simp only; omega, fun h => by simp only at h ⊢; omega⟩
theorem Zq_str1 (n : Nat) : Zq 256 (fun l => l - n) 1 := fun l h0 h1 => ⟨by simp only; omega, fun h => by simp only at h ⊢; omega⟩
theorem Zq_F {α : Type} {f : α → Int → Int} {n : α → Nat} (hf : ∀ x, Zq 256 (f x) (n x)) : ∀ (a : List α), Zq (256 * a.length) (fun l => szF f a l) (nL n a)
  | [] => fun l _ _ => ⟨Int.le_refl l, fun _ => by simp only [szF, nL, List.length_nil]; omega⟩
  | x :: r => fun l h0 h1 => by
    simp only [szF, nL, List.length_cons]
    have a := hf x l h0 h1
    split
    · exact ⟨by omega, fun h => by omega⟩
    · have b := Zq_F hf r (f x l) (by omega) (by omega)
      simp only at b
      refine ⟨by omega, fun h => ?_⟩
      have := a.2 (by omega)
      have := b.2 h
      omega
theorem Zq_L {α : Type} {f : α → Int → Int} {n : α → Nat} (hf : ∀ x, Zq 256 (f x) (n x)) (a : List α) : Zq 0 (fun l => szL f a l) (nL n a) := fun l h0 h1 => by
  simp only [szL]
  split
  · exact ⟨by omega, fun h => by omega⟩
  · have b := Zq_F hf a (l - a.length) (by omega) (by omega)
    simp only at b
    refine ⟨by omega, fun h => ?_⟩
    have := b.2 h
    omega
theorem Zq_imp {c e : Int} {s : Int → Int} {q r : Nat} (h : Zq c s q) (hq : (r : Int) + c ≤ q + e) : Zq e s r := fun l h0 h1 => by
  have a := h l h0 h1
  refine ⟨a.1, fun h2 => ?_⟩
  have := a.2 h2
  omega
end Go.Fd

/-
  THE DATA OF THE LAWS: plain types, how they lie in memory (printed by lawgen.py). Own work.
-/
namespace Go.Fd
set_option maxRecDepth 10000
def cA2 (x : (Int × Int)) : List Tr := [tv x.1, tv x.2]
structure TNode where
  control : Int
  parent : Int
  links : (List Int)
  deriving DecidableEq
def cNode (x : TNode) : List Tr := [tv x.control, tv x.parent, .sl (rI x.links)]
theorem cNode_len (x : TNode) : (cNode x).length = 3 := rfl
def oNode (x : TNode) : IV := .ag [iI x.control, iI x.parent, .ow 1 (rI x.links) true]
def bdNode (n : Nat) (x : TNode) : Prop := x.links.length ≤ n
def ftNode (x : TNode) : Prop := fits .i64 x.control ∧ fits .i64 x.parent ∧ (∀ y ∈ x.links, fits .i64 y)
def szNode (x : TNode) (l : Int) : Int := szTh (szN x.links.length l) fun l => l
structure TWire where
  name : ByteArray
  link : Int
  deriving DecidableEq
def cWire (x : TWire) : List Tr := [ts x.name, tv x.link]
theorem cWire_len (x : TWire) : (cWire x).length = 2 := rfl
def oWire (x : TWire) : IV := .ag [iS x.name, iI x.link]
def bdWire (n : Nat) (x : TWire) : Prop := x.name.size ≤ n
def ftWire (x : TWire) : Prop := fits .i64 x.link
def szWire (x : TWire) (l : Int) : Int := szTh (l - x.name.size) fun l => l
structure TBigraph where
  roots : Int
  nodes : (List TNode)
  sites : (List Int)
  edges : Int
  outer : (List ByteArray)
  inner : (List TWire)
  deriving DecidableEq
def cBigraph (x : TBigraph) : List Tr := [tv x.roots, .sl (x.nodes.map cNode), .sl (rI x.sites), tv x.edges, .sl (rS x.outer), .sl (x.inner.map cWire)]
def oBigraph (x : TBigraph) : IV := .ag [iI x.roots, .ow 3 (x.nodes.map cNode) true, .ow 1 (rI x.sites) true, iI x.edges, .ow 1 (rS x.outer) true, .ow 2 (x.inner.map cWire) true]
def bdBigraph (n : Nat) (x : TBigraph) : Prop := x.nodes.length ≤ n ∧ (∀ y ∈ x.nodes, bdNode n y) ∧ x.sites.length ≤ n ∧ x.outer.length ≤ n ∧ (∀ y ∈ x.outer, y.size ≤ n) ∧ x.inner.length ≤ n ∧ (∀ y ∈ x.inner, bdWire n y)
def ftBigraph (x : TBigraph) : Prop := fits .i64 x.roots ∧ (∀ y ∈ x.nodes, ftNode y) ∧ (∀ y ∈ x.sites, fits .i64 y) ∧ fits .i64 x.edges ∧ (∀ y ∈ x.inner, ftWire y)
def szBigraph (x : TBigraph) (l : Int) : Int := szTh (szL szNode x.nodes l) fun l => szTh (szN x.sites.length l) fun l => szTh (szL (fun x m => m - x.size) x.outer l) fun l => szTh (szL szWire x.inner l) fun l => l
structure TSorting where
  tops : (List Int)
  nest : (List (List Int))
  sorts : (List (List Int))
  most : (List Int)
  apart : (List (Int × Int))
  deriving DecidableEq
def cSorting (x : TSorting) : List Tr := [.sl (rI x.tops), .sl (x.nest.map (fun l => [Tr.sl (rI l)])), .sl (x.sorts.map (fun l => [Tr.sl (rI l)])), .sl (rI x.most), .sl (x.apart.map cA2)]
def oSorting (x : TSorting) : IV := .ag [.ow 1 (rI x.tops) true, .ow 1 (x.nest.map (fun l => [Tr.sl (rI l)])) true, .ow 1 (x.sorts.map (fun l => [Tr.sl (rI l)])) true, .ow 1 (rI x.most) true, .ow 2 (x.apart.map cA2) true]
def bdSorting (n : Nat) (x : TSorting) : Prop := x.tops.length ≤ n ∧ x.nest.length ≤ n ∧ (∀ y ∈ x.nest, y.length ≤ n) ∧ x.sorts.length ≤ n ∧ (∀ y ∈ x.sorts, y.length ≤ n) ∧ x.most.length ≤ n ∧ x.apart.length ≤ n
def ftSorting (x : TSorting) : Prop := (∀ y ∈ x.tops, fits .i64 y) ∧ (∀ y ∈ x.nest, (∀ yy ∈ y, fits .i64 yy)) ∧ (∀ y ∈ x.sorts, (∀ yy ∈ y, fits .i64 yy)) ∧ (∀ y ∈ x.most, fits .i64 y) ∧ (∀ y ∈ x.apart, fits .i64 y.1 ∧ fits .i64 y.2)
def szSorting (x : TSorting) (l : Int) : Int := szTh (szN x.tops.length l) fun l => szTh (szL (fun x m => (szN x.length m)) x.nest l) fun l => szTh (szL (fun x m => (szN x.length m)) x.sorts l) fun l => szTh (szN x.most.length l) fun l => szTh (szN x.apart.length l) fun l => l
structure TControl where
  name : ByteArray
  ports : Int
  kind_ : Int
  deriving DecidableEq
def cControl (x : TControl) : List Tr := [ts x.name, tv x.ports, tv x.kind_]
theorem cControl_len (x : TControl) : (cControl x).length = 3 := rfl
def oControl (x : TControl) : IV := .ag [iS x.name, iI x.ports, iI x.kind_]
def bdControl (n : Nat) (x : TControl) : Prop := x.name.size ≤ n
def ftControl (x : TControl) : Prop := fits .i64 x.ports ∧ fits .i64 x.kind_
def szControl (x : TControl) (l : Int) : Int := szTh (l - x.name.size) fun l => l
end Go.Fd

/-
  The numbers of the functions of this program, by name (printed by ids.py).
-/
namespace Go.Fd
abbrev fid_laws_FnExactChoicesIn : FuncId := 4
abbrev fid_laws_szControlS : FuncId := 10
abbrev fid_laws_toControlS : FuncId := 13
abbrev fid_laws_eqControlS : FuncId := 16
abbrev fid_laws_szSorting : FuncId := 18
abbrev fid_laws_szBigraph : FuncId := 19
abbrev fid_spec_ChoicesIn : FuncId := 20
abbrev fid_laws_toSorting : FuncId := 21
abbrev fid_laws_toBigraph : FuncId := 22
abbrev fid_impl_ChoicesIn : FuncId := 23
abbrev fid_laws_eqIntS : FuncId := 24
abbrev fid_laws_eqSorting : FuncId := 25
abbrev fid_laws_eqBigraph : FuncId := 26
abbrev fid_laws_markControlS : FuncId := 27
abbrev fid_laws_markSorting : FuncId := 28
abbrev fid_laws_markBigraph : FuncId := 29
abbrev fid_laws_markIntS : FuncId := 30
abbrev fid_laws_heldIntS : FuncId := 31
abbrev fid_laws_szControl : FuncId := 45
abbrev fid_laws_toControl : FuncId := 49
abbrev fid_impl_within : FuncId := 53
abbrev fid_laws_eqControl : FuncId := 57
abbrev fid_laws_szIntS : FuncId := 60
abbrev fid_laws_szIntSS : FuncId := 61
abbrev fid_laws_szIntA2S : FuncId := 62
abbrev fid_laws_szNodeS : FuncId := 63
abbrev fid_laws_szStringS : FuncId := 64
abbrev fid_laws_szWireS : FuncId := 65
abbrev fid_spec_l7Two : FuncId := 66
abbrev fid_spec_l2Place : FuncId := 67
abbrev fid_spec_l1Own : FuncId := 68
abbrev fid_spec_l7Allowed : FuncId := 69
abbrev fid_laws_toIntS : FuncId := 70
abbrev fid_laws_toIntSS : FuncId := 71
abbrev fid_laws_toIntA2S : FuncId := 72
abbrev fid_laws_toNodeS : FuncId := 73
abbrev fid_laws_toStringS : FuncId := 74
abbrev fid_laws_toWireS : FuncId := 75
abbrev fid_impl_isSortedBy : FuncId := 76
abbrev fid_slices_Clone_int_int : FuncId := 77
abbrev fid_impl_Sorting_choices : FuncId := 78
abbrev fid_laws_eqIntSS : FuncId := 79
abbrev fid_laws_eqIntA2S : FuncId := 80
abbrev fid_laws_eqNodeS : FuncId := 81
abbrev fid_laws_eqStringS : FuncId := 82
abbrev fid_laws_eqWireS : FuncId := 83
abbrev fid_laws_markText : FuncId := 84
abbrev fid_laws_markIntSS : FuncId := 85
abbrev fid_laws_markIntA2S : FuncId := 86
abbrev fid_laws_markNodeS : FuncId := 87
abbrev fid_laws_markStringS : FuncId := 88
abbrev fid_laws_markWireS : FuncId := 89
abbrev fid_spec_l2Link : FuncId := 90
abbrev fid_impl_Bigraph_isLink : FuncId := 92
abbrev fid_spec_l2Good : FuncId := 97
abbrev fid_impl_IsBigraph : FuncId := 100
abbrev fid_spec_l1In : FuncId := 108
abbrev fid_slices_ContainsFunc_int_int : FuncId := 113
abbrev fid_laws_szNode : FuncId := 117
abbrev fid_laws_szWire : FuncId := 118
abbrev fid_spec_l7Good : FuncId := 119
abbrev fid_laws_toIntA2 : FuncId := 120
abbrev fid_laws_toNode : FuncId := 121
abbrev fid_laws_toWire : FuncId := 122
abbrev fid_impl_IsSorting : FuncId := 123
abbrev fid_laws_eqIntA2 : FuncId := 124
abbrev fid_laws_eqNode : FuncId := 125
abbrev fid_laws_eqWire : FuncId := 126
abbrev fid_spec_l2Sig : FuncId := 133
abbrev fid_spec_l2Names : FuncId := 134
abbrev fid_spec_l2Inner : FuncId := 135
abbrev fid_spec_l2Node : FuncId := 136
abbrev fid_spec_l2Under : FuncId := 137
abbrev fid_impl_IsSignature : FuncId := 142
abbrev fid_impl_areNames : FuncId := 143
abbrev fid_impl_Bigraph_innerNames : FuncId := 144
abbrev fid_impl_Bigraph_isParent : FuncId := 145
abbrev fid_impl_IsBigraph_1 : FuncId := 146
abbrev fid_impl_IsBigraph_2 : FuncId := 147
abbrev fid_slices_ContainsFunc_impl_Wire_impl_Wire : FuncId := 148
abbrev fid_impl_IsBigraph_3 : FuncId := 149
abbrev fid_slices_IndexFunc_int_int : FuncId := 158
abbrev fid_spec_l7Controls : FuncId := 159
abbrev fid_spec_l7Nest : FuncId := 160
abbrev fid_spec_l7Sorts : FuncId := 161
abbrev fid_spec_l7Before : FuncId := 162
abbrev fid_impl_isRising : FuncId := 163
abbrev fid_impl_IsSorting_1 : FuncId := 164
abbrev fid_impl_arePairs : FuncId := 165
abbrev fid_impl_IsSorting_2 : FuncId := 166
abbrev fid_spec_l2Name : FuncId := 168
abbrev fid_impl_isName : FuncId := 169
abbrev fid_slices_ContainsFunc_impl_Control_impl_Control : FuncId := 170
abbrev fid_impl_IsSignature_1 : FuncId := 171
abbrev fid_slices_IndexFunc_impl_Wire_impl_Wire : FuncId := 172
abbrev fid_spec_l1Rising : FuncId := 175
abbrev fid_impl_comparePairs : FuncId := 176
abbrev fid_strings_Trim : FuncId := 177
abbrev fid_slices_IndexFunc_impl_Control_impl_Control : FuncId := 178
abbrev fid_slices_Compare_int_int : FuncId := 181
abbrev fid_cmp_Compare_int : FuncId := 190
abbrev fid_cmp_isNaN_int : FuncId := 195
end Go.Fd

/-
  The annotated codes of the functions, printed by a program of mine (gen.py), and the check that they belong to the program.
-/
namespace Go.Fd
def c_spec_ChoicesIn : F2 :=
  { nt := 27, res := [.t 8 [2], .t 9 [0]], body :=
   (.sq (rg [oo 5 (.bt (.t 1)),
 oo 6 (.bt (.t 2)),
 om 8 (.k (.slice none 0 0)),
 om 9 (.k (.bool false))])
 (.sq (.sq (rg [om 10 (.t 0),
 oo 11 (.ld (some 5) (.t 5)),
 oo 12 (.ld (some 6) (.t 6)),
 oo 13 (.ca .pure false (.f fid_spec_l7Two) [.t 10, .t 11, .t 12]),
 oo 14 (.nt (.t 13)),
 om 15 (.t 14),
 og 16 15 false (.ld (some 6) (.t 6)),
 og 17 15 false (.mv (.t 3) none),
 og 18 15 false (.ca .pure false (.f fid_spec_l2Place) [.t 16, .t 17]),
 og 19 15 false (.nt (.t 18)),
 oo 20 (.pk (.t 15) (.k (.bool true)) (.t 19))])
 (.cd (.t 20) (.sq (rg [oo 21 (.bs 1 0 [] []),
 om 8 (.t 21),
 om 9 (.k (.bool false))])
 (.rt))
 (.sk)))
 (.sq (rg [oo 22 (.ld (some 5) (.t 5)),
 oo 23 (.ld (some 6) (.t 6)),
 om 24 (.t 3),
 oo 25 (.ca .pure false (.f fid_spec_l7Allowed) [.t 22, .t 23, .t 24]),
 oo 26 (.ca .pure true (.f fid_spec_l1Own) [.t 25]),
 om 8 (.t 26),
 om 9 (.k (.bool true))])
 (.rt)))) }
theorem k_spec_ChoicesIn : chkF Go.Proofs.Tryz.prog fid_spec_ChoicesIn c_spec_ChoicesIn = true := by kernel_rfl

def c_impl_ChoicesIn : F2 :=
  { nt := 32, res := [.t 8 [2], .t 9 [0]], body :=
   (.sq (rg [oo 5 (.bt (.t 1)),
 oo 6 (.bt (.t 2)),
 om 8 (.k (.slice none 0 0)),
 om 9 (.k (.bool false))])
 (.sq (.sq (rg [om 10 (.t 0),
 oo 11 (.ld (some 5) (.t 5)),
 oo 12 (.ld (some 6) (.t 6)),
 oo 13 (.ca .pure false (.f fid_impl_isSortedBy) [.t 10, .t 11, .t 12]),
 oo 14 (.nt (.t 13)),
 om 15 (.t 14),
 og 16 15 false (.mv (.t 3) none),
 og 17 15 false (.fa 0 (.t 6)),
 og 18 15 false (.ld none (.t 17)),
 og 19 15 false (.ng (.t 18)),
 og 20 15 false (.fa 1 (.t 6)),
 og 21 15 false (.ld none (.t 20)),
 og 22 15 false (.ln (.t 21)),
 og 23 15 false (.bi .sub 0 (.t 22) (i6 1)),
 og 24 15 false (.ca .pure false (.f fid_impl_within) [.t 16, .t 19, .t 23]),
 og 25 15 false (.nt (.t 24)),
 oo 26 (.pk (.t 15) (.k (.bool true)) (.t 25))])
 (.cd (.t 26) (.sq (rg [om 8 (.k (.slice none 0 0)),
 om 9 (.k (.bool false))])
 (.rt))
 (.sk)))
 (.sq (rg [oo 27 (.ld (some 5) (.t 5)),
 oo 28 (.ld (some 6) (.t 6)),
 om 29 (.t 3),
 oo 30 (.ca .pure false (.f fid_impl_Sorting_choices) [.t 27, .t 28, .t 29]),
 oo 31 (.ca .pure true (.f fid_slices_Clone_int_int) [.t 30]),
 om 8 (.t 31),
 om 9 (.k (.bool true))])
 (.rt)))) }
theorem k_impl_ChoicesIn : chkF Go.Proofs.Tryz.prog fid_impl_ChoicesIn c_impl_ChoicesIn = true := by kernel_rfl

def c_impl_within : F2 :=
  { nt := 15, res := [.t 6 [0]], body :=
   (.sq (rg [om 6 (.k (.bool false))])
 (.sq (rg [om 7 (.t 0),
 om 8 (.t 1),
 oo 9 (.bi .geq 0 (.t 7) (.t 8)),
 om 10 (.t 9),
 og 11 10 true (.mv (.t 0) none),
 og 12 10 true (.mv (.t 2) none),
 og 13 10 true (.bi .leq 0 (.t 11) (.t 12)),
 oo 14 (.pk (.t 10) (.t 13) (.k (.bool false))),
 om 6 (.t 14)])
 (.rt))) }
theorem k_impl_within : chkF Go.Proofs.Tryz.prog fid_impl_within c_impl_within = true := by kernel_rfl

def c_spec_l7Two : F2 :=
  { nt := 15, res := [.t 6 [0]], body :=
   (.sq (rg [oo 4 (.bt (.t 1)),
 oo 5 (.bt (.t 2)),
 om 6 (.k (.bool false))])
 (.sq (rg [om 7 (.t 0),
 oo 8 (.ld (some 5) (.t 4)),
 oo 9 (.ca .pure false (.f fid_spec_l7Good) [.t 7, .t 8]),
 om 10 (.t 9),
 og 11 10 true (.mv (.t 0) none),
 og 12 10 true (.ld (some 6) (.t 5)),
 og 13 10 true (.ca .pure false (.f fid_spec_l2Good) [.t 11, .t 12]),
 oo 14 (.pk (.t 10) (.t 13) (.k (.bool false))),
 om 6 (.t 14)])
 (.rt))) }
theorem k_spec_l7Two : chkF Go.Proofs.Tryz.prog fid_spec_l7Two c_spec_l7Two = true := by kernel_rfl

def c_spec_l2Place : F2 :=
  { nt := 14, res := [.t 4 [0]], body :=
   (.sq (rg [oo 2 (.bt (.t 0)),
 om 4 (.k (.bool false))])
 (.sq (rg [om 5 (.t 1),
 oo 6 (.fa 0 (.t 2)),
 oo 7 (.ld none (.t 6)),
 oo 8 (.ng (.t 7)),
 oo 9 (.fa 1 (.t 2)),
 oo 10 (.ld none (.t 9)),
 oo 11 (.ln (.t 10)),
 oo 12 (.bi .sub 0 (.t 11) (i6 1)),
 oo 13 (.ca .pure false (.f fid_spec_l1In) [.t 5, .t 8, .t 12]),
 om 4 (.t 13)])
 (.rt))) }
theorem k_spec_l2Place : chkF Go.Proofs.Tryz.prog fid_spec_l2Place c_spec_l2Place = true := by kernel_rfl

def c_spec_l1Own : F2 :=
  { nt := 6, res := [.t 2 [2]], body :=
   (.sq (rg [om 2 (.k (.slice none 0 0))])
 (.sq (rg [oo 3 (.bs 1 0 [] []),
 om 4 (.t 0),
 oo 5 (.ap 1 0 (.t 3) (.t 4)),
 om 2 (.t 5)])
 (.rt))) }
theorem k_spec_l1Own : chkF Go.Proofs.Tryz.prog fid_spec_l1Own c_spec_l1Own = true := by kernel_rfl

def c_spec_l7Allowed : F2 :=
  { nt := 21, res := [.t 6 [2]], body :=
   (.sq (rg [oo 3 (.bt (.t 0)),
 oo 4 (.bt (.t 1)),
 om 6 (.k (.slice none 0 0))])
 (.sq (.sq (rg [om 7 (.t 2),
 oo 8 (.bi .lss 0 (.t 7) (i6 0))])
 (.cd (.t 8) (.sq (rg [oo 9 (.fa 0 (.t 3)),
 oo 10 (.ld none (.t 9)),
 om 6 (.t 10)])
 (.rt))
 (.sk)))
 (.sq (.rg (some 0) [oo 11 (.fa 1 (.t 3)),
 oo 12 (.ld none (.t 11)),
 oo 13 (.fa 1 (.t 4)),
 oo 14 (.ld none (.t 13)),
 om 15 (.t 2),
 oo 16 (.ia 3 (.t 14) (.t 15)),
 oo 17 (.fa 0 (.t 16)),
 oo 18 (.ld none (.t 17)),
 oo 19 (.ia 1 (.t 12) (.t 18)),
 oo 20 (.ld none (.t 19)),
 om 6 (.t 20)])
 (.rt)))) }
theorem k_spec_l7Allowed : chkF Go.Proofs.Tryz.prog fid_spec_l7Allowed c_spec_l7Allowed = true := by kernel_rfl

def c_impl_isSortedBy : F2 :=
  { nt := 15, res := [.t 6 [0]], body :=
   (.sq (rg [oo 4 (.bt (.t 1)),
 oo 5 (.bt (.t 2)),
 om 6 (.k (.bool false))])
 (.sq (rg [om 7 (.t 0),
 oo 8 (.ld (some 5) (.t 4)),
 oo 9 (.ca .pure false (.f fid_impl_IsSorting) [.t 7, .t 8]),
 om 10 (.t 9),
 og 11 10 true (.mv (.t 0) none),
 og 12 10 true (.ld (some 6) (.t 5)),
 og 13 10 true (.ca .pure false (.f fid_impl_IsBigraph) [.t 11, .t 12]),
 oo 14 (.pk (.t 10) (.t 13) (.k (.bool false))),
 om 6 (.t 14)])
 (.rt))) }
theorem k_impl_isSortedBy : chkF Go.Proofs.Tryz.prog fid_impl_isSortedBy c_impl_isSortedBy = true := by kernel_rfl

def c_slices_Clone_int_int : F2 :=
  { nt := 8, res := [.t 2 [2]], body :=
   (.sq (rg [om 2 (.k (.slice none 0 0))])
 (.sq (.sq (rg [om 3 (.t 0),
 oo 4 (.nl false (.t 3))])
 (.cd (.t 4) (.sq (rg [om 2 (.k (.slice none 0 0))])
 (.rt))
 (.sk)))
 (.sq (rg [oo 5 (.bs 1 0 [] []),
 om 6 (.t 0),
 oo 7 (.ap 1 0 (.t 5) (.t 6)),
 om 2 (.t 7)])
 (.rt)))) }
theorem k_slices_Clone_int_int : chkF Go.Proofs.Tryz.prog fid_slices_Clone_int_int c_slices_Clone_int_int = true := by kernel_rfl

def c_impl_Sorting_choices : F2 :=
  { nt := 21, res := [.t 6 [2]], body :=
   (.sq (rg [oo 3 (.bt (.t 0)),
 oo 4 (.bt (.t 1)),
 om 6 (.k (.slice none 0 0))])
 (.sq (.sq (rg [om 7 (.t 2),
 oo 8 (.bi .lss 0 (.t 7) (i6 0))])
 (.cd (.t 8) (.sq (rg [oo 9 (.fa 0 (.t 3)),
 oo 10 (.ld none (.t 9)),
 om 6 (.t 10)])
 (.rt))
 (.sk)))
 (.sq (.rg (some 0) [oo 11 (.fa 1 (.t 3)),
 oo 12 (.ld none (.t 11)),
 oo 13 (.fa 1 (.t 4)),
 oo 14 (.ld none (.t 13)),
 om 15 (.t 2),
 oo 16 (.ia 3 (.t 14) (.t 15)),
 oo 17 (.fa 0 (.t 16)),
 oo 18 (.ld none (.t 17)),
 oo 19 (.ia 1 (.t 12) (.t 18)),
 oo 20 (.ld none (.t 19)),
 om 6 (.t 20)])
 (.rt)))) }
theorem k_impl_Sorting_choices : chkF Go.Proofs.Tryz.prog fid_impl_Sorting_choices c_impl_Sorting_choices = true := by kernel_rfl

def c_spec_l2Link : F2 :=
  { nt := 14, res := [.t 4 [0]], body :=
   (.sq (rg [oo 2 (.bt (.t 0)),
 om 4 (.k (.bool false))])
 (.sq (rg [om 5 (.t 1),
 oo 6 (.fa 3 (.t 2)),
 oo 7 (.ld none (.t 6)),
 oo 8 (.fa 4 (.t 2)),
 oo 9 (.ld none (.t 8)),
 oo 10 (.ln (.t 9)),
 oo 11 (.bi .add 0 (.t 7) (.t 10)),
 oo 12 (.bi .sub 0 (.t 11) (i6 1)),
 oo 13 (.ca .pure false (.f fid_spec_l1In) [.t 5, i6 0, .t 12]),
 om 4 (.t 13)])
 (.rt))) }
theorem k_spec_l2Link : chkF Go.Proofs.Tryz.prog fid_spec_l2Link c_spec_l2Link = true := by kernel_rfl

def c_impl_Bigraph_isLink : F2 :=
  { nt := 14, res := [.t 4 [0]], body :=
   (.sq (rg [oo 2 (.bt (.t 0)),
 om 4 (.k (.bool false))])
 (.sq (rg [om 5 (.t 1),
 oo 6 (.fa 3 (.t 2)),
 oo 7 (.ld none (.t 6)),
 oo 8 (.fa 4 (.t 2)),
 oo 9 (.ld none (.t 8)),
 oo 10 (.ln (.t 9)),
 oo 11 (.bi .add 0 (.t 7) (.t 10)),
 oo 12 (.bi .sub 0 (.t 11) (i6 1)),
 oo 13 (.ca .pure false (.f fid_impl_within) [.t 5, i6 0, .t 12]),
 om 4 (.t 13)])
 (.rt))) }
theorem k_impl_Bigraph_isLink : chkF Go.Proofs.Tryz.prog fid_impl_Bigraph_isLink c_impl_Bigraph_isLink = true := by kernel_rfl

def c_spec_l2Good : F2 :=
  { nt := 98, res := [.t 4 [0]], body :=
   (.sq (rg [oo 3 (.bt (.t 1)),
 om 4 (.k (.bool false))])
 (.sq (.sq (rg [om 8 (.t 0),
 oo 9 (.ca .pure false (.f fid_spec_l2Sig) [.t 8]),
 oo 10 (.nt (.t 9)),
 om 11 (.t 10),
 og 12 11 false (.fa 0 (.t 3)),
 og 13 11 false (.ld none (.t 12)),
 og 14 11 false (.ca .pure false (.f fid_spec_l1In) [.t 13, i6 0, i6 4]),
 og 15 11 false (.nt (.t 14)),
 oo 16 (.pk (.t 11) (.k (.bool true)) (.t 15)),
 om 17 (.t 16),
 og 18 17 false (.fa 1 (.t 3)),
 og 19 17 false (.ld none (.t 18)),
 og 20 17 false (.ln (.t 19)),
 og 21 17 false (.bi .gtr 0 (.t 20) (i6 8)),
 oo 22 (.pk (.t 17) (.k (.bool true)) (.t 21)),
 om 23 (.t 22),
 og 24 23 false (.fa 2 (.t 3)),
 og 25 23 false (.ld none (.t 24)),
 og 26 23 false (.ln (.t 25)),
 og 27 23 false (.bi .gtr 0 (.t 26) (i6 4)),
 oo 28 (.pk (.t 23) (.k (.bool true)) (.t 27)),
 om 29 (.t 28),
 og 30 29 false (.fa 3 (.t 3)),
 og 31 29 false (.ld none (.t 30)),
 og 32 29 false (.ca .pure false (.f fid_spec_l1In) [.t 31, i6 0, i6 8]),
 og 33 29 false (.nt (.t 32)),
 oo 34 (.pk (.t 29) (.k (.bool true)) (.t 33))])
 (.cd (.t 34) (.sq (rg [om 4 (.k (.bool false))])
 (.rt))
 (.sk)))
 (.sq (.sq (rg [oo 35 (.fa 4 (.t 3)),
 oo 36 (.ld none (.t 35)),
 oo 37 (.ca .pure false (.f fid_spec_l2Names) [.t 36]),
 oo 38 (.nt (.t 37)),
 om 39 (.t 38),
 og 40 39 false (.fa 5 (.t 3)),
 og 41 39 false (.ld none (.t 40)),
 og 42 39 false (.ln (.t 41)),
 og 43 39 false (.bi .gtr 0 (.t 42) (i6 16)),
 oo 44 (.pk (.t 39) (.k (.bool true)) (.t 43)),
 om 45 (.t 44),
 og 46 45 false (.ld (some 6) (.t 3)),
 og 47 45 false (.ca .pure false (.f fid_spec_l2Inner) [.t 46]),
 og 48 45 false (.ca .pure false (.f fid_spec_l2Names) [.t 47]),
 og 49 45 false (.nt (.t 48)),
 oo 50 (.pk (.t 45) (.k (.bool true)) (.t 49))])
 (.cd (.t 50) (.sq (rg [om 4 (.k (.bool false))])
 (.rt))
 (.sk)))
 (.sq (.sq (rg [om 5 (i6 0)])
 (.bl 0 (.lp [0, 3, 5] [] (.sq (.sq (rg [om 51 (.t 5),
 oo 52 (.fa 1 (.t 3)),
 oo 53 (.ld none (.t 52)),
 oo 54 (.ln (.t 53)),
 oo 55 (.bi .lss 0 (.t 51) (.t 54))])
 (.cd (.t 55) (.sk)
 (.ex 0)))
 (.sq (.bl 1 (.sq (rg [om 58 (.t 0),
 oo 59 (.ld (some 6) (.t 3)),
 om 60 (.t 5),
 oo 61 (.ca .pure false (.f fid_spec_l2Node) [.t 58, .t 59, .t 60]),
 oo 62 (.nt (.t 61))])
 (.cd (.t 62) (.sq (rg [om 4 (.k (.bool false))])
 (.rt))
 (.sk))))
 (rg [om 56 (.t 5),
 oo 57 (.bi .add 0 (.t 56) (i6 1)),
 om 5 (.t 57)]))))))
 (.sq (.sq (rg [om 6 (i6 0)])
 (.bl 2 (.lp [0, 3, 6] [] (.sq (.sq (rg [om 63 (.t 6),
 oo 64 (.fa 2 (.t 3)),
 oo 65 (.ld none (.t 64)),
 oo 66 (.ln (.t 65)),
 oo 67 (.bi .lss 0 (.t 63) (.t 66))])
 (.cd (.t 67) (.sk)
 (.ex 2)))
 (.sq (.bl 3 (.sq (.rg (some 0) [om 70 (.t 0),
 oo 71 (.ld (some 6) (.t 3)),
 oo 72 (.fa 2 (.t 3)),
 oo 73 (.ld none (.t 72)),
 om 74 (.t 6),
 oo 75 (.ia 1 (.t 73) (.t 74)),
 oo 76 (.ld none (.t 75)),
 oo 77 (.fa 1 (.t 3)),
 oo 78 (.ld none (.t 77)),
 oo 79 (.ln (.t 78)),
 oo 80 (.ca .pure false (.f fid_spec_l2Under) [.t 70, .t 71, .t 76, .t 79]),
 oo 81 (.nt (.t 80))])
 (.cd (.t 81) (.sq (rg [om 4 (.k (.bool false))])
 (.rt))
 (.sk))))
 (rg [om 68 (.t 6),
 oo 69 (.bi .add 0 (.t 68) (i6 1)),
 om 6 (.t 69)]))))))
 (.sq (.sq (rg [om 7 (i6 0)])
 (.bl 4 (.lp [3, 7] [] (.sq (.sq (rg [om 82 (.t 7),
 oo 83 (.fa 5 (.t 3)),
 oo 84 (.ld none (.t 83)),
 oo 85 (.ln (.t 84)),
 oo 86 (.bi .lss 0 (.t 82) (.t 85))])
 (.cd (.t 86) (.sk)
 (.ex 4)))
 (.sq (.bl 5 (.sq (.rg (some 0) [oo 89 (.ld (some 6) (.t 3)),
 oo 90 (.fa 5 (.t 3)),
 oo 91 (.ld none (.t 90)),
 om 92 (.t 7),
 oo 93 (.ia 2 (.t 91) (.t 92)),
 oo 94 (.fa 1 (.t 93)),
 oo 95 (.ld none (.t 94)),
 oo 96 (.ca .pure false (.f fid_spec_l2Link) [.t 89, .t 95]),
 oo 97 (.nt (.t 96))])
 (.cd (.t 97) (.sq (rg [om 4 (.k (.bool false))])
 (.rt))
 (.sk))))
 (rg [om 87 (.t 7),
 oo 88 (.bi .add 0 (.t 87) (i6 1)),
 om 7 (.t 88)]))))))
 (.sq (rg [om 4 (.k (.bool true))])
 (.rt)))))))) }
theorem k_spec_l2Good : chkF Go.Proofs.Tryz.prog fid_spec_l2Good c_spec_l2Good = true := by kernel_rfl

def c_impl_IsBigraph : F2 :=
  { nt := 101, res := [.t 4 [0]], body :=
   (.sq (rg [oo 2 (.bt (.t 0)),
 oo 3 (.bt (.t 1)),
 om 4 (.k (.bool false))])
 (.sq (.sq (rg [oo 7 (.ld none (.t 2)),
 oo 8 (.ca .pure false (.f fid_impl_IsSignature) [.t 7]),
 oo 9 (.nt (.t 8)),
 om 10 (.t 9),
 og 11 10 false (.fa 0 (.t 3)),
 og 12 10 false (.ld none (.t 11)),
 og 13 10 false (.ca .pure false (.f fid_impl_within) [.t 12, i6 0, i6 4]),
 og 14 10 false (.nt (.t 13)),
 oo 15 (.pk (.t 10) (.k (.bool true)) (.t 14)),
 om 16 (.t 15),
 og 17 16 false (.fa 1 (.t 3)),
 og 18 16 false (.ld none (.t 17)),
 og 19 16 false (.ln (.t 18)),
 og 20 16 false (.bi .gtr 0 (.t 19) (i6 8)),
 oo 21 (.pk (.t 16) (.k (.bool true)) (.t 20)),
 om 22 (.t 21),
 og 23 22 false (.fa 2 (.t 3)),
 og 24 22 false (.ld none (.t 23)),
 og 25 22 false (.ln (.t 24)),
 og 26 22 false (.bi .gtr 0 (.t 25) (i6 4)),
 oo 27 (.pk (.t 22) (.k (.bool true)) (.t 26)),
 om 28 (.t 27),
 og 29 28 false (.fa 3 (.t 3)),
 og 30 28 false (.ld none (.t 29)),
 og 31 28 false (.ca .pure false (.f fid_impl_within) [.t 30, i6 0, i6 8]),
 og 32 28 false (.nt (.t 31)),
 oo 33 (.pk (.t 28) (.k (.bool true)) (.t 32)),
 om 34 (.t 33),
 og 35 34 false (.fa 4 (.t 3)),
 og 36 34 false (.ld none (.t 35)),
 og 37 34 false (.ca .pure false (.f fid_impl_areNames) [.t 36]),
 og 38 34 false (.nt (.t 37)),
 oo 39 (.pk (.t 34) (.k (.bool true)) (.t 38)),
 om 40 (.t 39),
 og 41 40 false (.ld (some 6) (.t 3)),
 og 42 40 false (.ca .pure false (.f fid_impl_Bigraph_innerNames) [.t 41]),
 og 43 40 false (.ca .pure false (.f fid_impl_areNames) [.t 42]),
 og 44 40 false (.nt (.t 43)),
 oo 45 (.pk (.t 40) (.k (.bool true)) (.t 44))])
 (.cd (.t 45) (.sq (rg [om 4 (.k (.bool false))])
 (.rt))
 (.sk)))
 (.sq (.sq (rg [oo 46 (.fa 1 (.t 3)),
 oo 47 (.ld none (.t 46)),
 oo 48 (.ln (.t 47)),
 om 49 (i6 0)])
 (.bl 0 (.lp [2, 3, 47, 48, 49] [] (.sq (rg [oo 50 (.bi .lss 0 (.t 49) (.t 48))])
 (.sq (.cd (.t 50) (.sk)
 (.ex 0))
 (.sq (.bl 1 (.sq (rg [om 51 (.t 49),
 oo 52 (.ia 3 (.t 47) (.t 49)),
 oo 53 (.ld (some 3) (.t 52)),
 oo 6 (.al [.int .i64 0, .int .i64 0, .slice none 0 0] []),
 om 5 (.t 51),
 on1 (.st 3 (.t 6) (.t 53))])
 (.sq (.rg (some 0) [oo 54 (.fa 0 (.t 6)),
 oo 55 (.ld none (.t 54)),
 oo 56 (.ld none (.t 2)),
 oo 57 (.ln (.t 56)),
 oo 58 (.bi .sub 0 (.t 57) (i6 1)),
 oo 59 (.ca .pure false (.f fid_impl_within) [.t 55, i6 0, .t 58]),
 oo 60 (.nt (.t 59)),
 om 61 (.t 60),
 og 62 61 false (.ld (some 6) (.t 3)),
 og 63 61 false (.ld none (.t 2)),
 og 64 61 false (.fa 1 (.t 6)),
 og 65 61 false (.ld none (.t 64)),
 og 66 61 false (.mv (.t 5) none),
 og 67 61 false (.ca .pure false (.f fid_impl_Bigraph_isParent) [.t 62, .t 63, .t 65, .t 66]),
 og 68 61 false (.nt (.t 67)),
 oo 69 (.pk (.t 61) (.k (.bool true)) (.t 68)),
 om 70 (.t 69),
 og 71 70 false (.fa 2 (.t 6)),
 og 72 70 false (.ld none (.t 71)),
 og 73 70 false (.ln (.t 72)),
 og 74 70 false (.ld none (.t 2)),
 og 75 70 false (.fa 0 (.t 6)),
 og 76 70 false (.ld none (.t 75)),
 og 77 70 false (.ia 3 (.t 74) (.t 76)),
 og 78 70 false (.fa 1 (.t 77)),
 og 79 70 false (.ld none (.t 78)),
 og 80 70 false (.bi .neq 0 (.t 73) (.t 79)),
 oo 81 (.pk (.t 70) (.k (.bool true)) (.t 80)),
 om 82 (.t 81),
 og 83 82 false (.fa 2 (.t 6)),
 og 84 82 false (.ld none (.t 83)),
 og 85 82 false (.mf fid_impl_IsBigraph_1 [.t 3]),
 og 86 82 false (.ca .pure false (.f fid_slices_ContainsFunc_int_int) [.t 84, .t 85]),
 oo 87 (.pk (.t 82) (.k (.bool true)) (.t 86))])
 (.cd (.t 87) (.sq (rg [om 4 (.k (.bool false))])
 (.rt))
 (.sk)))))
 (rg [oo 88 (.bi .add 0 (.t 49) (i6 1)),
 om 49 (.t 88)])))))))
 (.sq (rg [oo 89 (.fa 2 (.t 3)),
 oo 90 (.ld none (.t 89)),
 oo 91 (.mf fid_impl_IsBigraph_2 [.t 3, .t 2]),
 oo 92 (.ca .pure false (.f fid_slices_ContainsFunc_int_int) [.t 90, .t 91]),
 oo 93 (.nt (.t 92)),
 om 94 (.t 93),
 og 95 94 true (.fa 5 (.t 3)),
 og 96 94 true (.ld none (.t 95)),
 og 97 94 true (.mf fid_impl_IsBigraph_3 [.t 3]),
 og 98 94 true (.ca .pure false (.f fid_slices_ContainsFunc_impl_Wire_impl_Wire) [.t 96, .t 97]),
 og 99 94 true (.nt (.t 98)),
 oo 100 (.pk (.t 94) (.t 99) (.k (.bool false))),
 om 4 (.t 100)])
 (.rt))))) }
theorem k_impl_IsBigraph : chkF Go.Proofs.Tryz.prog fid_impl_IsBigraph c_impl_IsBigraph = true := by kernel_rfl

def c_spec_l1In : F2 :=
  { nt := 15, res := [.t 6 [0]], body :=
   (.sq (rg [om 6 (.k (.bool false))])
 (.sq (rg [om 7 (.t 0),
 om 8 (.t 1),
 oo 9 (.bi .geq 0 (.t 7) (.t 8)),
 om 10 (.t 9),
 og 11 10 true (.mv (.t 0) none),
 og 12 10 true (.mv (.t 2) none),
 og 13 10 true (.bi .leq 0 (.t 11) (.t 12)),
 oo 14 (.pk (.t 10) (.t 13) (.k (.bool false))),
 om 6 (.t 14)])
 (.rt))) }
theorem k_spec_l1In : chkF Go.Proofs.Tryz.prog fid_spec_l1In c_spec_l1In = true := by kernel_rfl

def c_spec_l7Good : F2 :=
  { nt := 101, res := [.t 4 [0]], body :=
   (.sq (rg [oo 3 (.bt (.t 1)),
 om 4 (.k (.bool false))])
 (.sq (.sq (rg [om 8 (.t 0),
 oo 9 (.ca .pure false (.f fid_spec_l2Sig) [.t 8]),
 oo 10 (.nt (.t 9)),
 om 11 (.t 10),
 og 12 11 false (.mv (.t 0) none),
 og 13 11 false (.fa 0 (.t 3)),
 og 14 11 false (.ld none (.t 13)),
 og 15 11 false (.ca .pure false (.f fid_spec_l7Controls) [.t 12, .t 14]),
 og 16 11 false (.nt (.t 15)),
 oo 17 (.pk (.t 11) (.k (.bool true)) (.t 16)),
 om 18 (.t 17),
 og 19 18 false (.mv (.t 0) none),
 og 20 18 false (.fa 1 (.t 3)),
 og 21 18 false (.ld none (.t 20)),
 og 22 18 false (.ca .pure false (.f fid_spec_l7Nest) [.t 19, .t 21]),
 og 23 18 false (.nt (.t 22)),
 oo 24 (.pk (.t 18) (.k (.bool true)) (.t 23)),
 om 25 (.t 24),
 og 26 25 false (.fa 3 (.t 3)),
 og 27 25 false (.ld none (.t 26)),
 og 28 25 false (.ln (.t 27)),
 og 29 25 false (.ca .pure false (.f fid_spec_l1In) [.t 28, i6 1, i6 4]),
 og 30 25 false (.nt (.t 29)),
 oo 31 (.pk (.t 25) (.k (.bool true)) (.t 30)),
 om 32 (.t 31),
 og 33 32 false (.mv (.t 0) none),
 og 34 32 false (.fa 2 (.t 3)),
 og 35 32 false (.ld none (.t 34)),
 og 36 32 false (.fa 3 (.t 3)),
 og 37 32 false (.ld none (.t 36)),
 og 38 32 false (.ln (.t 37)),
 og 39 32 false (.ca .pure false (.f fid_spec_l7Sorts) [.t 33, .t 35, .t 38]),
 og 40 32 false (.nt (.t 39)),
 oo 41 (.pk (.t 32) (.k (.bool true)) (.t 40))])
 (.cd (.t 41) (.sq (rg [om 4 (.k (.bool false))])
 (.rt))
 (.sk)))
 (.sq (.sq (rg [om 5 (i6 0)])
 (.bl 0 (.lp [3, 5] [] (.sq (.sq (rg [om 42 (.t 5),
 oo 43 (.fa 3 (.t 3)),
 oo 44 (.ld none (.t 43)),
 oo 45 (.ln (.t 44)),
 oo 46 (.bi .lss 0 (.t 42) (.t 45))])
 (.cd (.t 46) (.sk)
 (.ex 0)))
 (.sq (.bl 1 (.sq (rg [oo 49 (.fa 3 (.t 3)),
 oo 50 (.ld none (.t 49)),
 om 51 (.t 5),
 oo 52 (.ia 1 (.t 50) (.t 51)),
 oo 53 (.ld none (.t 52)),
 oo 54 (.ca .pure false (.f fid_spec_l1In) [.t 53, i6 0, i6 24]),
 oo 55 (.nt (.t 54))])
 (.cd (.t 55) (.sq (rg [om 4 (.k (.bool false))])
 (.rt))
 (.sk))))
 (rg [om 47 (.t 5),
 oo 48 (.bi .add 0 (.t 47) (i6 1)),
 om 5 (.t 48)]))))))
 (.sq (.sq (rg [om 6 (i6 0)])
 (.bl 2 (.lp [3, 6] [] (.sq (.sq (rg [om 56 (.t 6),
 oo 57 (.fa 4 (.t 3)),
 oo 58 (.ld none (.t 57)),
 oo 59 (.ln (.t 58)),
 oo 60 (.bi .lss 0 (.t 56) (.t 59))])
 (.cd (.t 60) (.sk)
 (.ex 2)))
 (.sq (.bl 3 (.sq (rg [oo 63 (.fa 4 (.t 3)),
 oo 64 (.ld none (.t 63)),
 om 65 (.t 6),
 oo 66 (.ia 2 (.t 64) (.t 65)),
 oo 67 (.ld (some 2) (.t 66)),
 oo 7 (.al [.int .i64 0, .int .i64 0] []),
 on1 (.st 2 (.t 7) (.t 67))])
 (.sq (.rg (some 0) [oo 68 (.ja 1 2 (.t 7) (i6 0)),
 oo 69 (.ld none (.t 68)),
 oo 70 (.bi .lss 0 (.t 69) (i6 0)),
 om 71 (.t 70),
 og 72 71 false (.ja 1 2 (.t 7) (i6 0)),
 og 73 71 false (.ld none (.t 72)),
 og 74 71 false (.ja 1 2 (.t 7) (i6 1)),
 og 75 71 false (.ld none (.t 74)),
 og 76 71 false (.bi .geq 0 (.t 73) (.t 75)),
 oo 77 (.pk (.t 71) (.k (.bool true)) (.t 76)),
 om 78 (.t 77),
 og 79 78 false (.ja 1 2 (.t 7) (i6 1)),
 og 80 78 false (.ld none (.t 79)),
 og 81 78 false (.fa 3 (.t 3)),
 og 82 78 false (.ld none (.t 81)),
 og 83 78 false (.ln (.t 82)),
 og 84 78 false (.bi .geq 0 (.t 80) (.t 83)),
 oo 85 (.pk (.t 78) (.k (.bool true)) (.t 84)),
 om 86 (.t 85),
 og 87 86 false (.mv (.t 6) none),
 og 88 86 false (.bi .gtr 0 (.t 87) (i6 0)),
 og 89 86 false (.mv (.t 88) none),
 og 90 89 true (.fa 4 (.t 3)),
 og 91 89 true (.ld none (.t 90)),
 og 92 89 true (.mv (.t 6) none),
 og 93 89 true (.bi .sub 0 (.t 92) (i6 1)),
 og 94 89 true (.ia 2 (.t 91) (.t 93)),
 og 95 89 true (.ld (some 2) (.t 94)),
 og 96 89 true (.ld (some 2) (.t 7)),
 og 97 89 true (.ca .pure false (.f fid_spec_l7Before) [.t 95, .t 96]),
 og 98 89 true (.nt (.t 97)),
 og 99 86 false (.pk (.t 89) (.t 98) (.k (.bool false))),
 oo 100 (.pk (.t 86) (.k (.bool true)) (.t 99))])
 (.cd (.t 100) (.sq (rg [om 4 (.k (.bool false))])
 (.rt))
 (.sk)))))
 (rg [om 61 (.t 6),
 oo 62 (.bi .add 0 (.t 61) (i6 1)),
 om 6 (.t 62)]))))))
 (.sq (rg [om 4 (.k (.bool true))])
 (.rt)))))) }
theorem k_spec_l7Good : chkF Go.Proofs.Tryz.prog fid_spec_l7Good c_spec_l7Good = true := by kernel_rfl

def c_impl_IsSorting : F2 :=
  { nt := 104, res := [.t 4 [0]], body :=
   (.sq (rg [oo 3 (.bt (.t 1)),
 om 4 (.k (.bool false))])
 (.sq (.sq (rg [om 7 (.t 0),
 oo 8 (.ca .pure false (.f fid_impl_IsSignature) [.t 7]),
 oo 9 (.nt (.t 8)),
 om 10 (.t 9),
 og 11 10 false (.fa 0 (.t 3)),
 og 12 10 false (.ld none (.t 11)),
 og 13 10 false (.mv (.t 0) none),
 og 14 10 false (.ln (.t 13)),
 og 15 10 false (.ca .pure false (.f fid_impl_isRising) [.t 12, .t 14]),
 og 16 10 false (.nt (.t 15)),
 oo 17 (.pk (.t 10) (.k (.bool true)) (.t 16)),
 om 18 (.t 17),
 og 19 18 false (.fa 1 (.t 3)),
 og 20 18 false (.ld none (.t 19)),
 og 21 18 false (.ln (.t 20)),
 og 22 18 false (.mv (.t 0) none),
 og 23 18 false (.ln (.t 22)),
 og 24 18 false (.bi .neq 0 (.t 21) (.t 23)),
 oo 25 (.pk (.t 18) (.k (.bool true)) (.t 24)),
 om 26 (.t 25),
 og 27 26 false (.fa 2 (.t 3)),
 og 28 26 false (.ld none (.t 27)),
 og 29 26 false (.ln (.t 28)),
 og 30 26 false (.mv (.t 0) none),
 og 31 26 false (.ln (.t 30)),
 og 32 26 false (.bi .neq 0 (.t 29) (.t 31)),
 oo 33 (.pk (.t 26) (.k (.bool true)) (.t 32))])
 (.cd (.t 33) (.sq (rg [om 4 (.k (.bool false))])
 (.rt))
 (.sk)))
 (.sq (.sq (rg [oo 34 (.fa 3 (.t 3)),
 oo 35 (.ld none (.t 34)),
 oo 36 (.ln (.t 35)),
 oo 37 (.ca .pure false (.f fid_impl_within) [.t 36, i6 1, i6 4]),
 oo 38 (.nt (.t 37)),
 om 39 (.t 38),
 og 40 39 false (.fa 3 (.t 3)),
 og 41 39 false (.ld none (.t 40)),
 og 42 39 false (.ca .pure false (.f fid_slices_ContainsFunc_int_int) [.t 41, .f fid_impl_IsSorting_1]),
 oo 43 (.pk (.t 39) (.k (.bool true)) (.t 42)),
 om 44 (.t 43),
 og 45 44 false (.fa 4 (.t 3)),
 og 46 44 false (.ld none (.t 45)),
 og 47 44 false (.fa 3 (.t 3)),
 og 48 44 false (.ld none (.t 47)),
 og 49 44 false (.ln (.t 48)),
 og 50 44 false (.ca .pure false (.f fid_impl_arePairs) [.t 46, .t 49]),
 og 51 44 false (.nt (.t 50)),
 oo 52 (.pk (.t 44) (.k (.bool true)) (.t 51))])
 (.cd (.t 52) (.sq (rg [om 4 (.k (.bool false))])
 (.rt))
 (.sk)))
 (.sq (.sq (rg [om 53 (.t 0),
 oo 54 (.ln (.t 53)),
 om 55 (i6 0)])
 (.bl 0 (.lp [0, 3, 53, 54, 55] [] (.sq (rg [oo 56 (.bi .lss 0 (.t 55) (.t 54))])
 (.sq (.cd (.t 56) (.sk)
 (.ex 0))
 (.sq (.bl 1 (.sq (rg [om 57 (.t 55),
 oo 58 (.ia 3 (.t 53) (.t 55)),
 oo 59 (.ld (some 3) (.t 58)),
 oo 6 (.al [.string ⟨#[]⟩, .int .i64 0, .int .i64 0] []),
 om 5 (.t 57),
 on1 (.st 3 (.t 6) (.t 59))])
 (.sq (.rg (some 0) [oo 60 (.fa 1 (.t 3)),
 oo 61 (.ld none (.t 60)),
 om 62 (.t 5),
 oo 63 (.ia 1 (.t 61) (.t 62)),
 oo 64 (.ld none (.t 63)),
 om 65 (.t 0),
 oo 66 (.ln (.t 65)),
 oo 67 (.ca .pure false (.f fid_impl_isRising) [.t 64, .t 66]),
 oo 68 (.nt (.t 67)),
 om 69 (.t 68),
 og 70 69 false (.fa 2 (.t 6)),
 og 71 69 false (.ld none (.t 70)),
 og 72 69 false (.bi .eql 0 (.t 71) (i6 2)),
 og 73 69 false (.mv (.t 72) none),
 og 74 73 true (.fa 1 (.t 3)),
 og 75 73 true (.ld none (.t 74)),
 og 76 73 true (.mv (.t 5) none),
 og 77 73 true (.ia 1 (.t 75) (.t 76)),
 og 78 73 true (.ld none (.t 77)),
 og 79 73 true (.ln (.t 78)),
 og 80 73 true (.bi .gtr 0 (.t 79) (i6 0)),
 og 81 69 false (.pk (.t 73) (.t 80) (.k (.bool false))),
 oo 82 (.pk (.t 69) (.k (.bool true)) (.t 81)),
 om 83 (.t 82),
 og 84 83 false (.fa 2 (.t 3)),
 og 85 83 false (.ld none (.t 84)),
 og 86 83 false (.mv (.t 5) none),
 og 87 83 false (.ia 1 (.t 85) (.t 86)),
 og 88 83 false (.ld none (.t 87)),
 og 89 83 false (.ln (.t 88)),
 og 90 83 false (.fa 1 (.t 6)),
 og 91 83 false (.ld none (.t 90)),
 og 92 83 false (.bi .neq 0 (.t 89) (.t 91)),
 oo 93 (.pk (.t 83) (.k (.bool true)) (.t 92)),
 om 94 (.t 93),
 og 95 94 false (.fa 2 (.t 3)),
 og 96 94 false (.ld none (.t 95)),
 og 97 94 false (.mv (.t 5) none),
 og 98 94 false (.ia 1 (.t 96) (.t 97)),
 og 99 94 false (.ld none (.t 98)),
 og 100 94 false (.mf fid_impl_IsSorting_2 [.t 3]),
 og 101 94 false (.ca .pure false (.f fid_slices_ContainsFunc_int_int) [.t 99, .t 100]),
 oo 102 (.pk (.t 94) (.k (.bool true)) (.t 101))])
 (.cd (.t 102) (.sq (rg [om 4 (.k (.bool false))])
 (.rt))
 (.sk)))))
 (rg [oo 103 (.bi .add 0 (.t 55) (i6 1)),
 om 55 (.t 103)])))))))
 (.sq (rg [om 4 (.k (.bool true))])
 (.rt)))))) }
theorem k_impl_IsSorting : chkF Go.Proofs.Tryz.prog fid_impl_IsSorting c_impl_IsSorting = true := by kernel_rfl

def c_spec_l2Sig : F2 :=
  { nt := 55, res := [.t 2 [0]], body :=
   (.sq (rg [om 2 (.k (.bool false))])
 (.sq (.sq (rg [om 3 (i6 0)])
 (.bl 0 (.lp [0, 3] [] (.sq (.sq (rg [om 5 (.t 3),
 om 6 (.t 0),
 oo 7 (.ln (.t 6)),
 oo 8 (.bi .lss 0 (.t 5) (.t 7))])
 (.cd (.t 8) (.sk)
 (.ex 0)))
 (.sq (.bl 1 (.sq (.sq (rg [om 11 (.t 0),
 om 12 (.t 3),
 oo 13 (.ia 3 (.t 11) (.t 12)),
 oo 14 (.fa 0 (.t 13)),
 oo 15 (.ld none (.t 14)),
 oo 16 (.ca .pure false (.f fid_spec_l2Name) [.t 15]),
 oo 17 (.nt (.t 16)),
 om 18 (.t 17),
 og 19 18 false (.mv (.t 0) none),
 og 20 18 false (.mv (.t 3) none),
 og 21 18 false (.ia 3 (.t 19) (.t 20)),
 og 22 18 false (.fa 1 (.t 21)),
 og 23 18 false (.ld none (.t 22)),
 og 24 18 false (.ca .pure false (.f fid_spec_l1In) [.t 23, i6 0, i6 3]),
 og 25 18 false (.nt (.t 24)),
 oo 26 (.pk (.t 18) (.k (.bool true)) (.t 25)),
 om 27 (.t 26),
 og 28 27 false (.mv (.t 0) none),
 og 29 27 false (.mv (.t 3) none),
 og 30 27 false (.ia 3 (.t 28) (.t 29)),
 og 31 27 false (.fa 2 (.t 30)),
 og 32 27 false (.ld none (.t 31)),
 og 33 27 false (.ca .pure false (.f fid_spec_l1In) [.t 32, i6 0, i6 2]),
 og 34 27 false (.nt (.t 33)),
 oo 35 (.pk (.t 27) (.k (.bool true)) (.t 34))])
 (.cd (.t 35) (.sq (rg [om 2 (.k (.bool false))])
 (.rt))
 (.sk)))
 (.sq (rg [om 4 (i6 0)])
 (.bl 2 (.lp [0, 3, 4] [] (.sq (.sq (rg [om 36 (.t 4),
 om 37 (.t 3),
 oo 38 (.bi .lss 0 (.t 36) (.t 37))])
 (.cd (.t 38) (.sk)
 (.ex 2)))
 (.sq (.bl 3 (.sq (.rg (some 0) [om 41 (.t 0),
 om 42 (.t 4),
 oo 43 (.ia 3 (.t 41) (.t 42)),
 oo 44 (.fa 0 (.t 43)),
 oo 45 (.ld none (.t 44)),
 om 46 (.t 0),
 om 47 (.t 3),
 oo 48 (.ia 3 (.t 46) (.t 47)),
 oo 49 (.fa 0 (.t 48)),
 oo 50 (.ld none (.t 49)),
 oo 51 (.bi .eql 0 (.t 45) (.t 50))])
 (.cd (.t 51) (.sq (rg [om 2 (.k (.bool false))])
 (.rt))
 (.sk))))
 (rg [om 39 (.t 4),
 oo 40 (.bi .add 0 (.t 39) (i6 1)),
 om 4 (.t 40)]))))))))
 (rg [om 9 (.t 3),
 oo 10 (.bi .add 0 (.t 9) (i6 1)),
 om 3 (.t 10)]))))))
 (.sq (rg [om 52 (.t 0),
 oo 53 (.ln (.t 52)),
 oo 54 (.ca .pure false (.f fid_spec_l1In) [.t 53, i6 1, i6 6]),
 om 2 (.t 54)])
 (.rt)))) }
theorem k_spec_l2Sig : chkF Go.Proofs.Tryz.prog fid_spec_l2Sig c_spec_l2Sig = true := by kernel_rfl

def c_spec_l2Names : F2 :=
  { nt := 35, res := [.t 2 [0]], body :=
   (.sq (rg [om 2 (.k (.bool false))])
 (.sq (.sq (rg [om 3 (i6 0)])
 (.bl 0 (.lp [0, 3] [] (.sq (.sq (rg [om 4 (.t 3),
 om 5 (.t 0),
 oo 6 (.ln (.t 5)),
 oo 7 (.bi .lss 0 (.t 4) (.t 6))])
 (.cd (.t 7) (.sk)
 (.ex 0)))
 (.sq (.bl 1 (.sq (.rg (some 0) [om 10 (.t 0),
 om 11 (.t 3),
 oo 12 (.ia 1 (.t 10) (.t 11)),
 oo 13 (.ld none (.t 12)),
 oo 14 (.ca .pure false (.f fid_spec_l2Name) [.t 13]),
 oo 15 (.nt (.t 14)),
 om 16 (.t 15),
 og 17 16 false (.mv (.t 3) none),
 og 18 16 false (.bi .gtr 0 (.t 17) (i6 0)),
 og 19 16 false (.mv (.t 18) none),
 og 20 19 true (.mv (.t 0) none),
 og 21 19 true (.mv (.t 3) none),
 og 22 19 true (.bi .sub 0 (.t 21) (i6 1)),
 og 23 19 true (.ia 1 (.t 20) (.t 22)),
 og 24 19 true (.ld none (.t 23)),
 og 25 19 true (.mv (.t 0) none),
 og 26 19 true (.mv (.t 3) none),
 og 27 19 true (.ia 1 (.t 25) (.t 26)),
 og 28 19 true (.ld none (.t 27)),
 og 29 19 true (.bi .geq 0 (.t 24) (.t 28)),
 og 30 16 false (.pk (.t 19) (.t 29) (.k (.bool false))),
 oo 31 (.pk (.t 16) (.k (.bool true)) (.t 30))])
 (.cd (.t 31) (.sq (rg [om 2 (.k (.bool false))])
 (.rt))
 (.sk))))
 (rg [om 8 (.t 3),
 oo 9 (.bi .add 0 (.t 8) (i6 1)),
 om 3 (.t 9)]))))))
 (.sq (rg [om 32 (.t 0),
 oo 33 (.ln (.t 32)),
 oo 34 (.bi .leq 0 (.t 33) (i6 16)),
 om 2 (.t 34)])
 (.rt)))) }
theorem k_spec_l2Names : chkF Go.Proofs.Tryz.prog fid_spec_l2Names c_spec_l2Names = true := by kernel_rfl

def c_spec_l2Inner : F2 :=
  { nt := 23, res := [.t 2 [2]], body :=
   (.sq (rg [oo 1 (.bt (.t 0)),
 om 2 (.k (.slice none 0 0))])
 (.sq (rg [oo 5 (.bs 1 0 [] []),
 om 3 (.t 5)])
 (.sq (.sq (rg [om 4 (i6 0)])
 (.bl 0 (.lp [1, 3, 4] [160, 672] (.sq (.sq (rg [om 6 (.t 4),
 oo 7 (.fa 5 (.t 1)),
 oo 8 (.ld none (.t 7)),
 oo 9 (.ln (.t 8)),
 oo 10 (.bi .lss 0 (.t 6) (.t 9))])
 (.cd (.t 10) (.sk)
 (.ex 0)))
 (.sq (.bl 1 (rg [om 13 (.t 3),
 oo 14 (.fa 5 (.t 1)),
 oo 15 (.ld none (.t 14)),
 om 16 (.t 4),
 oo 17 (.ia 2 (.t 15) (.t 16)),
 oo 18 (.fa 0 (.t 17)),
 oo 19 (.ld none (.t 18)),
 oo 20 (.bs 1 1 [.string ⟨#[]⟩] [(0, .t 19)]),
 oo 21 (.ap 1 0 (.t 13) (.t 20)),
 om 3 (.t 21)]))
 (rg [om 11 (.t 4),
 oo 12 (.bi .add 0 (.t 11) (i6 1)),
 om 4 (.t 12)]))))))
 (.sq (rg [om 22 (.t 3),
 om 2 (.t 22)])
 (.rt))))) }
theorem k_spec_l2Inner : chkF Go.Proofs.Tryz.prog fid_spec_l2Inner c_spec_l2Inner = true := by kernel_rfl

def c_spec_l2Node : F2 :=
  { nt := 57, res := [.t 6 [0]], body :=
   (.sq (rg [oo 4 (.bt (.t 1)),
 om 6 (.k (.bool false))])
 (.sq (rg [oo 9 (.fa 1 (.t 4)),
 oo 10 (.ld none (.t 9)),
 om 11 (.t 2),
 oo 12 (.ia 3 (.t 10) (.t 11)),
 oo 13 (.ld (some 3) (.t 12)),
 oo 7 (.al [.int .i64 0, .int .i64 0, .slice none 0 0] []),
 on1 (.st 3 (.t 7) (.t 13))])
 (.sq (.sq (.rg (some 0) [oo 14 (.fa 0 (.t 7)),
 oo 15 (.ld none (.t 14)),
 om 16 (.t 0),
 oo 17 (.ln (.t 16)),
 oo 18 (.bi .sub 0 (.t 17) (i6 1)),
 oo 19 (.ca .pure false (.f fid_spec_l1In) [.t 15, i6 0, .t 18]),
 oo 20 (.nt (.t 19)),
 om 21 (.t 20),
 og 22 21 false (.mv (.t 0) none),
 og 23 21 false (.ld (some 6) (.t 4)),
 og 24 21 false (.fa 1 (.t 7)),
 og 25 21 false (.ld none (.t 24)),
 og 26 21 false (.mv (.t 2) none),
 og 27 21 false (.ca .pure false (.f fid_spec_l2Under) [.t 22, .t 23, .t 25, .t 26]),
 og 28 21 false (.nt (.t 27)),
 oo 29 (.pk (.t 21) (.k (.bool true)) (.t 28)),
 om 30 (.t 29),
 og 31 30 false (.fa 2 (.t 7)),
 og 32 30 false (.ld none (.t 31)),
 og 33 30 false (.ln (.t 32)),
 og 34 30 false (.mv (.t 0) none),
 og 35 30 false (.fa 0 (.t 7)),
 og 36 30 false (.ld none (.t 35)),
 og 37 30 false (.ia 3 (.t 34) (.t 36)),
 og 38 30 false (.fa 1 (.t 37)),
 og 39 30 false (.ld none (.t 38)),
 og 40 30 false (.bi .neq 0 (.t 33) (.t 39)),
 oo 41 (.pk (.t 30) (.k (.bool true)) (.t 40))])
 (.cd (.t 41) (.sq (rg [om 6 (.k (.bool false))])
 (.rt))
 (.sk)))
 (.sq (.sq (rg [om 8 (i6 0)])
 (.bl 0 (.lp [4, 7, 8] [224] (.sq (.sq (rg [om 42 (.t 8),
 oo 43 (.fa 2 (.t 7)),
 oo 44 (.ld none (.t 43)),
 oo 45 (.ln (.t 44)),
 oo 46 (.bi .lss 0 (.t 42) (.t 45))])
 (.cd (.t 46) (.sk)
 (.ex 0)))
 (.sq (.bl 1 (.sq (.rg (some 0) [oo 49 (.ld (some 6) (.t 4)),
 oo 50 (.fa 2 (.t 7)),
 oo 51 (.ld none (.t 50)),
 om 52 (.t 8),
 oo 53 (.ia 1 (.t 51) (.t 52)),
 oo 54 (.ld none (.t 53)),
 oo 55 (.ca .pure false (.f fid_spec_l2Link) [.t 49, .t 54]),
 oo 56 (.nt (.t 55))])
 (.cd (.t 56) (.sq (rg [om 6 (.k (.bool false))])
 (.rt))
 (.sk))))
 (rg [om 47 (.t 8),
 oo 48 (.bi .add 0 (.t 47) (i6 1)),
 om 8 (.t 48)]))))))
 (.sq (rg [om 6 (.k (.bool true))])
 (.rt)))))) }
theorem k_spec_l2Node : chkF Go.Proofs.Tryz.prog fid_spec_l2Node c_spec_l2Node = true := by kernel_rfl

def c_spec_l2Under : F2 :=
  { nt := 33, res := [.t 8 [0]], body :=
   (.sq (rg [oo 5 (.bt (.t 1)),
 om 8 (.k (.bool false))])
 (.sq (.sq (rg [om 9 (.t 2),
 oo 10 (.bi .lss 0 (.t 9) (i6 0))])
 (.cd (.t 10) (.sq (rg [om 11 (.t 2),
 oo 12 (.bi .sub 0 (i6 (-1)) (.t 11)),
 oo 13 (.fa 0 (.t 5)),
 oo 14 (.ld none (.t 13)),
 oo 15 (.bi .sub 0 (.t 14) (i6 1)),
 oo 16 (.ca .pure false (.f fid_spec_l1In) [.t 12, i6 0, .t 15]),
 om 8 (.t 16)])
 (.rt))
 (.sk)))
 (.sq (rg [om 17 (.t 2),
 om 18 (.t 3),
 oo 19 (.bi .lss 0 (.t 17) (.t 18)),
 om 20 (.t 19),
 og 21 20 true (.mv (.t 0) none),
 og 22 20 true (.fa 1 (.t 5)),
 og 23 20 true (.ld none (.t 22)),
 og 24 20 true (.mv (.t 2) none),
 og 25 20 true (.ia 3 (.t 23) (.t 24)),
 og 26 20 true (.fa 0 (.t 25)),
 og 27 20 true (.ld none (.t 26)),
 og 28 20 true (.ia 3 (.t 21) (.t 27)),
 og 29 20 true (.fa 2 (.t 28)),
 og 30 20 true (.ld none (.t 29)),
 og 31 20 true (.bi .neq 0 (.t 30) (i6 2)),
 oo 32 (.pk (.t 20) (.t 31) (.k (.bool false))),
 om 8 (.t 32)])
 (.rt)))) }
theorem k_spec_l2Under : chkF Go.Proofs.Tryz.prog fid_spec_l2Under c_spec_l2Under = true := by kernel_rfl

def c_impl_IsSignature : F2 :=
  { nt := 40, res := [.t 2 [0]], body :=
   (.sq (rg [om 2 (.k (.bool false))])
 (.sq (.sq (rg [om 5 (.t 0),
 oo 6 (.ln (.t 5)),
 oo 7 (.ca .pure false (.f fid_impl_within) [.t 6, i6 1, i6 6]),
 oo 8 (.nt (.t 7))])
 (.cd (.t 8) (.sq (rg [om 2 (.k (.bool false))])
 (.rt))
 (.sk)))
 (.sq (.sq (rg [om 9 (.t 0),
 oo 10 (.ln (.t 9)),
 om 11 (i6 0)])
 (.bl 0 (.lp [0, 9, 10, 11] [] (.sq (rg [oo 12 (.bi .lss 0 (.t 11) (.t 10))])
 (.sq (.cd (.t 12) (.sk)
 (.ex 0))
 (.sq (.bl 1 (.sq (rg [om 13 (.t 11),
 oo 14 (.ia 3 (.t 9) (.t 11)),
 oo 15 (.ld (some 3) (.t 14)),
 oo 4 (.al [.string ⟨#[]⟩, .int .i64 0, .int .i64 0] []),
 om 3 (.t 13),
 on1 (.st 3 (.t 4) (.t 15))])
 (.sq (rg [oo 16 (.fa 0 (.t 4)),
 oo 17 (.ld none (.t 16)),
 oo 18 (.ca .pure false (.f fid_impl_isName) [.t 17]),
 oo 19 (.nt (.t 18)),
 om 20 (.t 19),
 og 21 20 false (.fa 1 (.t 4)),
 og 22 20 false (.ld none (.t 21)),
 og 23 20 false (.ca .pure false (.f fid_impl_within) [.t 22, i6 0, i6 3]),
 og 24 20 false (.nt (.t 23)),
 oo 25 (.pk (.t 20) (.k (.bool true)) (.t 24)),
 om 26 (.t 25),
 og 27 26 false (.fa 2 (.t 4)),
 og 28 26 false (.ld none (.t 27)),
 og 29 26 false (.ca .pure false (.f fid_impl_within) [.t 28, i6 0, i6 2]),
 og 30 26 false (.nt (.t 29)),
 oo 31 (.pk (.t 26) (.k (.bool true)) (.t 30)),
 om 32 (.t 31),
 og 33 32 false (.mv (.t 0) none),
 og 34 32 false (.mv (.t 3) none),
 og 35 32 false (.sx 3 (.t 33) none (some (.t 34)) none),
 og 36 32 false (.mf fid_impl_IsSignature_1 [.t 4]),
 og 37 32 false (.ca .pure false (.f fid_slices_ContainsFunc_impl_Control_impl_Control) [.t 35, .t 36]),
 oo 38 (.pk (.t 32) (.k (.bool true)) (.t 37))])
 (.cd (.t 38) (.sq (rg [om 2 (.k (.bool false))])
 (.rt))
 (.sk)))))
 (rg [oo 39 (.bi .add 0 (.t 11) (i6 1)),
 om 11 (.t 39)])))))))
 (.sq (rg [om 2 (.k (.bool true))])
 (.rt))))) }
theorem k_impl_IsSignature : chkF Go.Proofs.Tryz.prog fid_impl_IsSignature c_impl_IsSignature = true := by kernel_rfl

def c_impl_areNames : F2 :=
  { nt := 32, res := [.t 2 [0]], body :=
   (.sq (rg [om 2 (.k (.bool false))])
 (.sq (.sq (rg [om 5 (.t 0),
 oo 6 (.ln (.t 5)),
 om 7 (i6 0)])
 (.bl 0 (.lp [0, 5, 6, 7] [] (.sq (rg [oo 8 (.bi .lss 0 (.t 7) (.t 6))])
 (.sq (.cd (.t 8) (.sk)
 (.ex 0))
 (.sq (.bl 1 (.sq (rg [om 9 (.t 7),
 oo 10 (.ia 1 (.t 5) (.t 7)),
 oo 11 (.ld none (.t 10)),
 om 3 (.t 9),
 om 4 (.t 11)])
 (.sq (rg [om 12 (.t 4),
 oo 13 (.ca .pure false (.f fid_impl_isName) [.t 12]),
 oo 14 (.nt (.t 13)),
 om 15 (.t 14),
 og 16 15 false (.mv (.t 3) none),
 og 17 15 false (.bi .gtr 0 (.t 16) (i6 0)),
 og 18 15 false (.mv (.t 17) none),
 og 19 18 true (.mv (.t 4) none),
 og 20 18 true (.mv (.t 0) none),
 og 21 18 true (.mv (.t 3) none),
 og 22 18 true (.bi .sub 0 (.t 21) (i6 1)),
 og 23 18 true (.ia 1 (.t 20) (.t 22)),
 og 24 18 true (.ld none (.t 23)),
 og 25 18 true (.bi .leq 0 (.t 19) (.t 24)),
 og 26 15 false (.pk (.t 18) (.t 25) (.k (.bool false))),
 oo 27 (.pk (.t 15) (.k (.bool true)) (.t 26))])
 (.cd (.t 27) (.sq (rg [om 2 (.k (.bool false))])
 (.rt))
 (.sk)))))
 (rg [oo 28 (.bi .add 0 (.t 7) (i6 1)),
 om 7 (.t 28)])))))))
 (.sq (rg [om 29 (.t 0),
 oo 30 (.ln (.t 29)),
 oo 31 (.bi .leq 0 (.t 30) (i6 16)),
 om 2 (.t 31)])
 (.rt)))) }
theorem k_impl_areNames : chkF Go.Proofs.Tryz.prog fid_impl_areNames c_impl_areNames = true := by kernel_rfl

def c_impl_Bigraph_innerNames : F2 :=
  { nt := 21, res := [.t 2 [2]], body :=
   (.sq (rg [oo 1 (.bt (.t 0)),
 om 2 (.k (.slice none 0 0))])
 (.sq (rg [oo 6 (.bs 1 0 [] []),
 om 3 (.t 6)])
 (.sq (.sq (rg [oo 7 (.fa 5 (.t 1)),
 oo 8 (.ld none (.t 7)),
 oo 9 (.ln (.t 8)),
 om 10 (i6 0)])
 (.bl 0 (.lp [3, 8, 9, 10] [192, 576] (.sq (rg [oo 11 (.bi .lss 0 (.t 10) (.t 9))])
 (.sq (.cd (.t 11) (.sk)
 (.ex 0))
 (.sq (.bl 1 (.sq (rg [oo 12 (.ia 2 (.t 8) (.t 10)),
 oo 13 (.ld (some 2) (.t 12)),
 oo 5 (.al [.string ⟨#[]⟩, .int .i64 0] []),
 on1 (.st 2 (.t 5) (.t 13))])
 (rg [om 14 (.t 3),
 oo 15 (.fa 0 (.t 5)),
 oo 16 (.ld none (.t 15)),
 oo 17 (.bs 1 1 [.string ⟨#[]⟩] [(0, .t 16)]),
 oo 18 (.ap 1 0 (.t 14) (.t 17)),
 om 3 (.t 18)])))
 (rg [oo 19 (.bi .add 0 (.t 10) (i6 1)),
 om 10 (.t 19)])))))))
 (.sq (rg [om 20 (.t 3),
 om 2 (.t 20)])
 (.rt))))) }
theorem k_impl_Bigraph_innerNames : chkF Go.Proofs.Tryz.prog fid_impl_Bigraph_innerNames c_impl_Bigraph_innerNames = true := by kernel_rfl

def c_impl_Bigraph_isParent : F2 :=
  { nt := 32, res := [.t 8 [0]], body :=
   (.sq (rg [oo 4 (.bt (.t 0)),
 om 8 (.k (.bool false))])
 (.sq (.sq (rg [om 9 (.t 2),
 oo 10 (.bi .lss 0 (.t 9) (i6 0))])
 (.cd (.t 10) (.sq (rg [om 11 (.t 2),
 oo 12 (.fa 0 (.t 4)),
 oo 13 (.ld none (.t 12)),
 oo 14 (.ng (.t 13)),
 oo 15 (.bi .geq 0 (.t 11) (.t 14)),
 om 8 (.t 15)])
 (.rt))
 (.sk)))
 (.sq (rg [om 16 (.t 2),
 om 17 (.t 3),
 oo 18 (.bi .lss 0 (.t 16) (.t 17)),
 om 19 (.t 18),
 og 20 19 true (.mv (.t 1) none),
 og 21 19 true (.fa 1 (.t 4)),
 og 22 19 true (.ld none (.t 21)),
 og 23 19 true (.mv (.t 2) none),
 og 24 19 true (.ia 3 (.t 22) (.t 23)),
 og 25 19 true (.fa 0 (.t 24)),
 og 26 19 true (.ld none (.t 25)),
 og 27 19 true (.ia 3 (.t 20) (.t 26)),
 og 28 19 true (.fa 2 (.t 27)),
 og 29 19 true (.ld none (.t 28)),
 og 30 19 true (.bi .neq 0 (.t 29) (i6 2)),
 oo 31 (.pk (.t 19) (.t 30) (.k (.bool false))),
 om 8 (.t 31)])
 (.rt)))) }
theorem k_impl_Bigraph_isParent : chkF Go.Proofs.Tryz.prog fid_impl_Bigraph_isParent c_impl_Bigraph_isParent = true := by kernel_rfl

def c_impl_IsBigraph_1 : F2 :=
  { nt := 8, res := [.t 3 [0]], body :=
   (.sq (rg [om 3 (.k (.bool false))])
 (.sq (rg [oo 4 (.ld (some 6) (.t 1)),
 om 5 (.t 0),
 oo 6 (.ca .pure false (.f fid_impl_Bigraph_isLink) [.t 4, .t 5]),
 oo 7 (.nt (.t 6)),
 om 3 (.t 7)])
 (.rt))) }
theorem k_impl_IsBigraph_1 : chkF Go.Proofs.Tryz.prog fid_impl_IsBigraph_1 c_impl_IsBigraph_1 = true := by kernel_rfl

def c_impl_IsBigraph_2 : F2 :=
  { nt := 13, res := [.t 4 [0]], body :=
   (.sq (rg [om 4 (.k (.bool false))])
 (.sq (rg [oo 5 (.ld (some 6) (.t 1)),
 oo 6 (.ld none (.t 2)),
 om 7 (.t 0),
 oo 8 (.fa 1 (.t 1)),
 oo 9 (.ld none (.t 8)),
 oo 10 (.ln (.t 9)),
 oo 11 (.ca .pure false (.f fid_impl_Bigraph_isParent) [.t 5, .t 6, .t 7, .t 10]),
 oo 12 (.nt (.t 11)),
 om 4 (.t 12)])
 (.rt))) }
theorem k_impl_IsBigraph_2 : chkF Go.Proofs.Tryz.prog fid_impl_IsBigraph_2 c_impl_IsBigraph_2 = true := by kernel_rfl

def c_impl_IsBigraph_3 : F2 :=
  { nt := 9, res := [.t 3 [0]], body :=
   (.sq (rg [oo 2 (.bt (.t 0)),
 om 3 (.k (.bool false))])
 (.sq (rg [oo 4 (.ld (some 6) (.t 1)),
 oo 5 (.fa 1 (.t 2)),
 oo 6 (.ld none (.t 5)),
 oo 7 (.ca .pure false (.f fid_impl_Bigraph_isLink) [.t 4, .t 6]),
 oo 8 (.nt (.t 7)),
 om 3 (.t 8)])
 (.rt))) }
theorem k_impl_IsBigraph_3 : chkF Go.Proofs.Tryz.prog fid_impl_IsBigraph_3 c_impl_IsBigraph_3 = true := by kernel_rfl

def c_spec_l7Controls : F2 :=
  { nt := 10, res := [.t 4 [0]], body :=
   (.sq (rg [om 4 (.k (.bool false))])
 (.sq (rg [om 5 (.t 1),
 om 6 (.t 0),
 oo 7 (.ln (.t 6)),
 oo 8 (.bi .sub 0 (.t 7) (i6 1)),
 oo 9 (.ca .pure false (.f fid_spec_l1Rising) [.t 5, i6 0, .t 8]),
 om 4 (.t 9)])
 (.rt))) }
theorem k_spec_l7Controls : chkF Go.Proofs.Tryz.prog fid_spec_l7Controls c_spec_l7Controls = true := by kernel_rfl

def c_spec_l7Nest : F2 :=
  { nt := 40, res := [.t 4 [0]], body :=
   (.sq (rg [om 4 (.k (.bool false))])
 (.sq (.sq (rg [om 6 (.t 1),
 oo 7 (.ln (.t 6)),
 om 8 (.t 0),
 oo 9 (.ln (.t 8)),
 oo 10 (.bi .neq 0 (.t 7) (.t 9))])
 (.cd (.t 10) (.sq (rg [om 4 (.k (.bool false))])
 (.rt))
 (.sk)))
 (.sq (.sq (rg [om 5 (i6 0)])
 (.bl 0 (.lp [0, 1, 5] [] (.sq (.sq (rg [om 11 (.t 5),
 om 12 (.t 1),
 oo 13 (.ln (.t 12)),
 oo 14 (.bi .lss 0 (.t 11) (.t 13))])
 (.cd (.t 14) (.sk)
 (.ex 0)))
 (.sq (.bl 1 (.sq (rg [om 17 (.t 0),
 om 18 (.t 1),
 om 19 (.t 5),
 oo 20 (.ia 1 (.t 18) (.t 19)),
 oo 21 (.ld none (.t 20)),
 oo 22 (.ca .pure false (.f fid_spec_l7Controls) [.t 17, .t 21]),
 oo 23 (.nt (.t 22)),
 om 24 (.t 23),
 og 25 24 false (.mv (.t 0) none),
 og 26 24 false (.mv (.t 5) none),
 og 27 24 false (.ia 3 (.t 25) (.t 26)),
 og 28 24 false (.fa 2 (.t 27)),
 og 29 24 false (.ld none (.t 28)),
 og 30 24 false (.bi .eql 0 (.t 29) (i6 2)),
 og 31 24 false (.mv (.t 30) none),
 og 32 31 true (.mv (.t 1) none),
 og 33 31 true (.mv (.t 5) none),
 og 34 31 true (.ia 1 (.t 32) (.t 33)),
 og 35 31 true (.ld none (.t 34)),
 og 36 31 true (.ln (.t 35)),
 og 37 31 true (.bi .gtr 0 (.t 36) (i6 0)),
 og 38 24 false (.pk (.t 31) (.t 37) (.k (.bool false))),
 oo 39 (.pk (.t 24) (.k (.bool true)) (.t 38))])
 (.cd (.t 39) (.sq (rg [om 4 (.k (.bool false))])
 (.rt))
 (.sk))))
 (rg [om 15 (.t 5),
 oo 16 (.bi .add 0 (.t 15) (i6 1)),
 om 5 (.t 16)]))))))
 (.sq (rg [om 4 (.k (.bool true))])
 (.rt))))) }
theorem k_spec_l7Nest : chkF Go.Proofs.Tryz.prog fid_spec_l7Nest c_spec_l7Nest = true := by kernel_rfl

def c_spec_l7Sorts : F2 :=
  { nt := 51, res := [.t 6 [0]], body :=
   (.sq (rg [om 6 (.k (.bool false))])
 (.sq (.sq (rg [om 9 (.t 1),
 oo 10 (.ln (.t 9)),
 om 11 (.t 0),
 oo 12 (.ln (.t 11)),
 oo 13 (.bi .neq 0 (.t 10) (.t 12))])
 (.cd (.t 13) (.sq (rg [om 6 (.k (.bool false))])
 (.rt))
 (.sk)))
 (.sq (.sq (rg [om 7 (i6 0)])
 (.bl 0 (.lp [0, 1, 2, 7] [] (.sq (.sq (rg [om 14 (.t 7),
 om 15 (.t 1),
 oo 16 (.ln (.t 15)),
 oo 17 (.bi .lss 0 (.t 14) (.t 16))])
 (.cd (.t 17) (.sk)
 (.ex 0)))
 (.sq (.bl 1 (.sq (.sq (.rg (some 0) [om 20 (.t 1),
 om 21 (.t 7),
 oo 22 (.ia 1 (.t 20) (.t 21)),
 oo 23 (.ld none (.t 22)),
 oo 24 (.ln (.t 23)),
 om 25 (.t 0),
 om 26 (.t 7),
 oo 27 (.ia 3 (.t 25) (.t 26)),
 oo 28 (.fa 1 (.t 27)),
 oo 29 (.ld none (.t 28)),
 oo 30 (.bi .neq 0 (.t 24) (.t 29))])
 (.cd (.t 30) (.sq (rg [om 6 (.k (.bool false))])
 (.rt))
 (.sk)))
 (.sq (rg [om 8 (i6 0)])
 (.bl 2 (.lp [0, 1, 2, 7, 8] [] (.sq (.sq (rg [om 31 (.t 8),
 om 32 (.t 1),
 om 33 (.t 7),
 oo 34 (.ia 1 (.t 32) (.t 33)),
 oo 35 (.ld none (.t 34)),
 oo 36 (.ln (.t 35)),
 oo 37 (.bi .lss 0 (.t 31) (.t 36))])
 (.cd (.t 37) (.sk)
 (.ex 2)))
 (.sq (.bl 3 (.sq (rg [om 40 (.t 1),
 om 41 (.t 7),
 oo 42 (.ia 1 (.t 40) (.t 41)),
 oo 43 (.ld none (.t 42)),
 om 44 (.t 8),
 oo 45 (.ia 1 (.t 43) (.t 44)),
 oo 46 (.ld none (.t 45)),
 om 47 (.t 2),
 oo 48 (.bi .sub 0 (.t 47) (i6 1)),
 oo 49 (.ca .pure false (.f fid_spec_l1In) [.t 46, i6 0, .t 48]),
 oo 50 (.nt (.t 49))])
 (.cd (.t 50) (.sq (rg [om 6 (.k (.bool false))])
 (.rt))
 (.sk))))
 (rg [om 38 (.t 8),
 oo 39 (.bi .add 0 (.t 38) (i6 1)),
 om 8 (.t 39)]))))))))
 (rg [om 18 (.t 7),
 oo 19 (.bi .add 0 (.t 18) (i6 1)),
 om 7 (.t 19)]))))))
 (.sq (rg [om 6 (.k (.bool true))])
 (.rt))))) }
theorem k_spec_l7Sorts : chkF Go.Proofs.Tryz.prog fid_spec_l7Sorts c_spec_l7Sorts = true := by kernel_rfl

def c_spec_l7Before : F2 :=
  { nt := 24, res := [.t 4 [0]], body :=
   (.sq (rg [oo 2 (.bt (.t 0)),
 oo 3 (.bt (.t 1)),
 om 4 (.k (.bool false))])
 (.sq (rg [oo 5 (.ja 1 2 (.t 2) (i6 0)),
 oo 6 (.ld none (.t 5)),
 oo 7 (.ja 1 2 (.t 3) (i6 0)),
 oo 8 (.ld none (.t 7)),
 oo 9 (.bi .lss 0 (.t 6) (.t 8)),
 om 10 (.t 9),
 og 11 10 false (.ja 1 2 (.t 2) (i6 0)),
 og 12 10 false (.ld none (.t 11)),
 og 13 10 false (.ja 1 2 (.t 3) (i6 0)),
 og 14 10 false (.ld none (.t 13)),
 og 15 10 false (.bi .eql 0 (.t 12) (.t 14)),
 og 16 10 false (.mv (.t 15) none),
 og 17 16 true (.ja 1 2 (.t 2) (i6 1)),
 og 18 16 true (.ld none (.t 17)),
 og 19 16 true (.ja 1 2 (.t 3) (i6 1)),
 og 20 16 true (.ld none (.t 19)),
 og 21 16 true (.bi .lss 0 (.t 18) (.t 20)),
 og 22 10 false (.pk (.t 16) (.t 21) (.k (.bool false))),
 oo 23 (.pk (.t 10) (.k (.bool true)) (.t 22)),
 om 4 (.t 23)])
 (.rt))) }
theorem k_spec_l7Before : chkF Go.Proofs.Tryz.prog fid_spec_l7Before c_spec_l7Before = true := by kernel_rfl

def c_impl_isRising : F2 :=
  { nt := 33, res := [.t 4 [0]], body :=
   (.sq (rg [om 4 (.k (.bool false))])
 (.sq (.sq (rg [om 7 (.t 0),
 oo 8 (.ln (.t 7)),
 om 9 (i6 0)])
 (.bl 0 (.lp [0, 1, 7, 8, 9] [] (.sq (rg [oo 10 (.bi .lss 0 (.t 9) (.t 8))])
 (.sq (.cd (.t 10) (.sk)
 (.ex 0))
 (.sq (.bl 1 (.sq (rg [om 11 (.t 9),
 oo 12 (.ia 1 (.t 7) (.t 9)),
 oo 13 (.ld none (.t 12)),
 om 5 (.t 11),
 om 6 (.t 13)])
 (.sq (rg [om 14 (.t 6),
 om 15 (.t 1),
 oo 16 (.bi .sub 0 (.t 15) (i6 1)),
 oo 17 (.ca .pure false (.f fid_impl_within) [.t 14, i6 0, .t 16]),
 oo 18 (.nt (.t 17)),
 om 19 (.t 18),
 og 20 19 false (.mv (.t 5) none),
 og 21 19 false (.bi .gtr 0 (.t 20) (i6 0)),
 og 22 19 false (.mv (.t 21) none),
 og 23 22 true (.mv (.t 6) none),
 og 24 22 true (.mv (.t 0) none),
 og 25 22 true (.mv (.t 5) none),
 og 26 22 true (.bi .sub 0 (.t 25) (i6 1)),
 og 27 22 true (.ia 1 (.t 24) (.t 26)),
 og 28 22 true (.ld none (.t 27)),
 og 29 22 true (.bi .leq 0 (.t 23) (.t 28)),
 og 30 19 false (.pk (.t 22) (.t 29) (.k (.bool false))),
 oo 31 (.pk (.t 19) (.k (.bool true)) (.t 30))])
 (.cd (.t 31) (.sq (rg [om 4 (.k (.bool false))])
 (.rt))
 (.sk)))))
 (rg [oo 32 (.bi .add 0 (.t 9) (i6 1)),
 om 9 (.t 32)])))))))
 (.sq (rg [om 4 (.k (.bool true))])
 (.rt)))) }
theorem k_impl_isRising : chkF Go.Proofs.Tryz.prog fid_impl_isRising c_impl_isRising = true := by kernel_rfl

def c_impl_IsSorting_1 : F2 :=
  { nt := 6, res := [.t 2 [0]], body :=
   (.sq (rg [om 2 (.k (.bool false))])
 (.sq (rg [om 3 (.t 0),
 oo 4 (.ca .pure false (.f fid_impl_within) [.t 3, i6 0, i6 24]),
 oo 5 (.nt (.t 4)),
 om 2 (.t 5)])
 (.rt))) }
theorem k_impl_IsSorting_1 : chkF Go.Proofs.Tryz.prog fid_impl_IsSorting_1 c_impl_IsSorting_1 = true := by kernel_rfl

def c_impl_arePairs : F2 :=
  { nt := 44, res := [.t 4 [0]], body :=
   (.sq (rg [om 4 (.k (.bool false))])
 (.sq (.sq (rg [om 7 (.t 0),
 oo 8 (.ln (.t 7)),
 om 9 (i6 0)])
 (.bl 0 (.lp [0, 1, 7, 8, 9] [] (.sq (rg [oo 10 (.bi .lss 0 (.t 9) (.t 8))])
 (.sq (.cd (.t 10) (.sk)
 (.ex 0))
 (.sq (.bl 1 (.sq (rg [om 11 (.t 9),
 oo 12 (.ia 2 (.t 7) (.t 9)),
 oo 13 (.ld (some 2) (.t 12)),
 oo 6 (.al [.int .i64 0, .int .i64 0] []),
 om 5 (.t 11),
 on1 (.st 2 (.t 6) (.t 13))])
 (.sq (.rg (some 0) [oo 14 (.ja 1 2 (.t 6) (i6 0)),
 oo 15 (.ld none (.t 14)),
 oo 16 (.ja 1 2 (.t 6) (i6 1)),
 oo 17 (.ld none (.t 16)),
 oo 18 (.bi .sub 1 (.t 17) (i6 1)),
 oo 19 (.ca .pure false (.f fid_impl_within) [.t 15, i6 0, .t 18]),
 oo 20 (.nt (.t 19)),
 om 21 (.t 20),
 og 22 21 false (.ja 1 2 (.t 6) (i6 1)),
 og 23 21 false (.ld none (.t 22)),
 og 24 21 false (.mv (.t 1) none),
 og 25 21 false (.bi .sub 0 (.t 24) (i6 1)),
 og 26 21 false (.ca .pure false (.f fid_impl_within) [.t 23, i6 0, .t 25]),
 og 27 21 false (.nt (.t 26)),
 oo 28 (.pk (.t 21) (.k (.bool true)) (.t 27)),
 om 29 (.t 28),
 og 30 29 false (.mv (.t 5) none),
 og 31 29 false (.bi .gtr 0 (.t 30) (i6 0)),
 og 32 29 false (.mv (.t 31) none),
 og 33 32 true (.mv (.t 0) none),
 og 34 32 true (.mv (.t 5) none),
 og 35 32 true (.bi .sub 0 (.t 34) (i6 1)),
 og 36 32 true (.ia 2 (.t 33) (.t 35)),
 og 37 32 true (.ld (some 2) (.t 36)),
 og 38 32 true (.ld (some 2) (.t 6)),
 og 39 32 true (.ca .pure false (.f fid_impl_comparePairs) [.t 37, .t 38]),
 og 40 32 true (.bi .geq 0 (.t 39) (i6 0)),
 og 41 29 false (.pk (.t 32) (.t 40) (.k (.bool false))),
 oo 42 (.pk (.t 29) (.k (.bool true)) (.t 41))])
 (.cd (.t 42) (.sq (rg [om 4 (.k (.bool false))])
 (.rt))
 (.sk)))))
 (rg [oo 43 (.bi .add 0 (.t 9) (i6 1)),
 om 9 (.t 43)])))))))
 (.sq (rg [om 4 (.k (.bool true))])
 (.rt)))) }
theorem k_impl_arePairs : chkF Go.Proofs.Tryz.prog fid_impl_arePairs c_impl_arePairs = true := by kernel_rfl

def c_impl_IsSorting_2 : F2 :=
  { nt := 11, res := [.t 3 [0]], body :=
   (.sq (rg [om 3 (.k (.bool false))])
 (.sq (rg [om 4 (.t 0),
 oo 5 (.fa 3 (.t 1)),
 oo 6 (.ld none (.t 5)),
 oo 7 (.ln (.t 6)),
 oo 8 (.bi .sub 0 (.t 7) (i6 1)),
 oo 9 (.ca .pure false (.f fid_impl_within) [.t 4, i6 0, .t 8]),
 oo 10 (.nt (.t 9)),
 om 3 (.t 10)])
 (.rt))) }
theorem k_impl_IsSorting_2 : chkF Go.Proofs.Tryz.prog fid_impl_IsSorting_2 c_impl_IsSorting_2 = true := by kernel_rfl

def c_spec_l2Name : F2 :=
  { nt := 23, res := [.t 2 [0]], body :=
   (.sq (rg [om 2 (.k (.bool false))])
 (.sq (.sq (rg [om 3 (i6 0)])
 (.bl 0 (.lp [0, 3] [] (.sq (.sq (rg [om 4 (.t 3),
 om 5 (.t 0),
 oo 6 (.lg (.t 5)),
 oo 7 (.bi .lss 0 (.t 4) (.t 6))])
 (.cd (.t 7) (.sk)
 (.ex 0)))
 (.sq (.bl 1 (.sq (rg [om 10 (.t 0),
 om 11 (.t 3),
 oo 12 (.ix (.t 10) (.t 11)),
 oo 13 (.bi .lss 0 (.t 12) (.k (.int .u8 97))),
 om 14 (.t 13),
 og 15 14 false (.mv (.t 0) none),
 og 16 14 false (.mv (.t 3) none),
 og 17 14 false (.ix (.t 15) (.t 16)),
 og 18 14 false (.bi .gtr 0 (.t 17) (.k (.int .u8 122))),
 oo 19 (.pk (.t 14) (.k (.bool true)) (.t 18))])
 (.cd (.t 19) (.sq (rg [om 2 (.k (.bool false))])
 (.rt))
 (.sk))))
 (rg [om 8 (.t 3),
 oo 9 (.bi .add 0 (.t 8) (i6 1)),
 om 3 (.t 9)]))))))
 (.sq (rg [om 20 (.t 0),
 oo 21 (.lg (.t 20)),
 oo 22 (.ca .pure false (.f fid_spec_l1In) [.t 21, i6 1, i6 4]),
 om 2 (.t 22)])
 (.rt)))) }
theorem k_spec_l2Name : chkF Go.Proofs.Tryz.prog fid_spec_l2Name c_spec_l2Name = true := by kernel_rfl

def c_impl_isName : F2 :=
  { nt := 11, res := [.t 2 [0]], body :=
   (.sq (rg [om 2 (.k (.bool false))])
 (.sq (rg [om 3 (.t 0),
 oo 4 (.lg (.t 3)),
 oo 5 (.ca .pure false (.f fid_impl_within) [.t 4, i6 1, i6 4]),
 om 6 (.t 5),
 og 7 6 true (.mv (.t 0) none),
 og 8 6 true (.ca .pure false (.f fid_strings_Trim) [.t 7, .k (.string ⟨#[97, 98, 99, 100, 101, 102, 103, 104, 105, 106, 107, 108, 109, 110, 111, 112, 113, 114, 115, 116, 117, 118, 119, 120, 121, 122]⟩)]),
 og 9 6 true (.bi .eql 0 (.t 8) (.k (.string ⟨#[]⟩))),
 oo 10 (.pk (.t 6) (.t 9) (.k (.bool false))),
 om 2 (.t 10)])
 (.rt))) }
theorem k_impl_isName : chkF Go.Proofs.Tryz.prog fid_impl_isName c_impl_isName = true := by kernel_rfl

def c_impl_IsSignature_1 : F2 :=
  { nt := 9, res := [.t 3 [0]], body :=
   (.sq (rg [oo 2 (.bt (.t 0)),
 om 3 (.k (.bool false))])
 (.sq (rg [oo 4 (.fa 0 (.t 2)),
 oo 5 (.ld none (.t 4)),
 oo 6 (.fa 0 (.t 1)),
 oo 7 (.ld none (.t 6)),
 oo 8 (.bi .eql 0 (.t 5) (.t 7)),
 om 3 (.t 8)])
 (.rt))) }
theorem k_impl_IsSignature_1 : chkF Go.Proofs.Tryz.prog fid_impl_IsSignature_1 c_impl_IsSignature_1 = true := by kernel_rfl

def c_spec_l1Rising : F2 :=
  { nt := 38, res := [.t 6 [0]], body :=
   (.sq (rg [om 6 (.k (.bool false))])
 (.sq (.sq (rg [om 7 (i6 0)])
 (.bl 0 (.lp [0, 1, 2, 7] [] (.sq (.sq (rg [om 8 (.t 7),
 om 9 (.t 0),
 oo 10 (.ln (.t 9)),
 oo 11 (.bi .lss 0 (.t 8) (.t 10))])
 (.cd (.t 11) (.sk)
 (.ex 0)))
 (.sq (.bl 1 (.sq (.rg (some 0) [om 14 (.t 0),
 om 15 (.t 7),
 oo 16 (.ia 1 (.t 14) (.t 15)),
 oo 17 (.ld none (.t 16)),
 om 18 (.t 1),
 om 19 (.t 2),
 oo 20 (.ca .pure false (.f fid_spec_l1In) [.t 17, .t 18, .t 19]),
 oo 21 (.nt (.t 20)),
 om 22 (.t 21),
 og 23 22 false (.mv (.t 7) none),
 og 24 22 false (.bi .gtr 0 (.t 23) (i6 0)),
 og 25 22 false (.mv (.t 24) none),
 og 26 25 true (.mv (.t 0) none),
 og 27 25 true (.mv (.t 7) none),
 og 28 25 true (.bi .sub 0 (.t 27) (i6 1)),
 og 29 25 true (.ia 1 (.t 26) (.t 28)),
 og 30 25 true (.ld none (.t 29)),
 og 31 25 true (.mv (.t 0) none),
 og 32 25 true (.mv (.t 7) none),
 og 33 25 true (.ia 1 (.t 31) (.t 32)),
 og 34 25 true (.ld none (.t 33)),
 og 35 25 true (.bi .geq 0 (.t 30) (.t 34)),
 og 36 22 false (.pk (.t 25) (.t 35) (.k (.bool false))),
 oo 37 (.pk (.t 22) (.k (.bool true)) (.t 36))])
 (.cd (.t 37) (.sq (rg [om 6 (.k (.bool false))])
 (.rt))
 (.sk))))
 (rg [om 12 (.t 7),
 oo 13 (.bi .add 0 (.t 12) (i6 1)),
 om 7 (.t 13)]))))))
 (.sq (rg [om 6 (.k (.bool true))])
 (.rt)))) }
theorem k_spec_l1Rising : chkF Go.Proofs.Tryz.prog fid_spec_l1Rising c_spec_l1Rising = true := by kernel_rfl

def c_impl_comparePairs : F2 :=
  { nt := 8, res := [.t 4 [0]], body :=
   (.sq (rg [oo 2 (.bt (.t 0)),
 oo 3 (.bt (.t 1)),
 om 4 (i6 0)])
 (.sq (.rg (some 0) [oo 5 (.sa 2 (.t 2)),
 oo 6 (.sa 2 (.t 3)),
 oo 7 (.ca .pure false (.f fid_slices_Compare_int_int) [.t 5, .t 6]),
 om 4 (.t 7)])
 (.rt))) }
theorem k_impl_comparePairs : chkF Go.Proofs.Tryz.prog fid_impl_comparePairs c_impl_comparePairs = true := by kernel_rfl

def c_slices_Compare_int_int : F2 :=
  { nt := 36, res := [.t 4 [0]], body :=
   (.sq (rg [om 4 (i6 0)])
 (.sq (.sq (rg [om 9 (.t 0),
 oo 10 (.ln (.t 9)),
 om 11 (i6 0)])
 (.bl 0 (.lp [0, 1, 9, 10, 11] [] (.sq (rg [oo 12 (.bi .lss 0 (.t 11) (.t 10))])
 (.sq (.cd (.t 12) (.sk)
 (.ex 0))
 (.sq (.bl 1 (.sq (rg [om 13 (.t 11),
 oo 14 (.ia 1 (.t 9) (.t 11)),
 oo 15 (.ld none (.t 14)),
 om 5 (.t 13),
 om 6 (.t 15)])
 (.sq (.sq (rg [om 16 (.t 5),
 om 17 (.t 1),
 oo 18 (.ln (.t 17)),
 oo 19 (.bi .geq 0 (.t 16) (.t 18))])
 (.cd (.t 19) (.sq (rg [om 4 (i6 1)])
 (.rt))
 (.sk)))
 (.sq (rg [om 20 (.t 1),
 om 21 (.t 5),
 oo 22 (.ia 1 (.t 20) (.t 21)),
 oo 23 (.ld none (.t 22)),
 om 7 (.t 23)])
 (.sq (rg [om 24 (.t 6),
 om 25 (.t 7),
 oo 26 (.ca .pure false (.f fid_cmp_Compare_int) [.t 24, .t 25]),
 om 8 (.t 26)])
 (.sq (rg [om 27 (.t 8),
 oo 28 (.bi .neq 0 (.t 27) (i6 0))])
 (.cd (.t 28) (.sq (rg [om 29 (.t 8),
 om 4 (.t 29)])
 (.rt))
 (.sk))))))))
 (rg [oo 30 (.bi .add 0 (.t 11) (i6 1)),
 om 11 (.t 30)])))))))
 (.sq (.sq (rg [om 31 (.t 0),
 oo 32 (.ln (.t 31)),
 om 33 (.t 1),
 oo 34 (.ln (.t 33)),
 oo 35 (.bi .lss 0 (.t 32) (.t 34))])
 (.cd (.t 35) (.sq (rg [om 4 (i6 (-1))])
 (.rt))
 (.sk)))
 (.sq (rg [om 4 (i6 0)])
 (.rt))))) }
theorem k_slices_Compare_int_int : chkF Go.Proofs.Tryz.prog fid_slices_Compare_int_int c_slices_Compare_int_int = true := by kernel_rfl

def c_cmp_Compare_int : F2 :=
  { nt := 20, res := [.t 4 [0]], body :=
   (.sq (rg [om 4 (i6 0)])
 (.sq (rg [om 7 (.t 0),
 oo 8 (.ca .pure false (.f fid_cmp_isNaN_int) [.t 7]),
 om 5 (.t 8)])
 (.sq (rg [om 9 (.t 1),
 oo 10 (.ca .pure false (.f fid_cmp_isNaN_int) [.t 9]),
 om 6 (.t 10)])
 (.sq (.sq (rg [om 11 (.t 5)])
 (.cd (.t 11) (.sq (.sq (rg [om 12 (.t 6)])
 (.cd (.t 12) (.sq (rg [om 4 (i6 0)])
 (.rt))
 (.sk)))
 (.sq (rg [om 4 (i6 (-1))])
 (.rt)))
 (.sk)))
 (.sq (.sq (rg [om 13 (.t 6)])
 (.cd (.t 13) (.sq (rg [om 4 (i6 1)])
 (.rt))
 (.sk)))
 (.sq (.sq (rg [om 14 (.t 0),
 om 15 (.t 1),
 oo 16 (.bi .lss 0 (.t 14) (.t 15))])
 (.cd (.t 16) (.sq (rg [om 4 (i6 (-1))])
 (.rt))
 (.sk)))
 (.sq (.sq (rg [om 17 (.t 0),
 om 18 (.t 1),
 oo 19 (.bi .gtr 0 (.t 17) (.t 18))])
 (.cd (.t 19) (.sq (rg [om 4 (i6 1)])
 (.rt))
 (.sk)))
 (.sq (rg [om 4 (i6 0)])
 (.rt))))))))) }
theorem k_cmp_Compare_int : chkF Go.Proofs.Tryz.prog fid_cmp_Compare_int c_cmp_Compare_int = true := by kernel_rfl

def c_cmp_isNaN_int : F2 :=
  { nt := 6, res := [.t 2 [0]], body :=
   (.sq (rg [om 2 (.k (.bool false))])
 (.sq (rg [om 3 (.t 0),
 om 4 (.t 0),
 oo 5 (.bi .neq 0 (.t 3) (.t 4)),
 om 2 (.t 5)])
 (.rt))) }
theorem k_cmp_isNaN_int : chkF Go.Proofs.Tryz.prog fid_cmp_isNaN_int c_cmp_isNaN_int = true := by kernel_rfl

end Go.Fd

/-
  ANNOTATED CODES OF GO'S GENERIC FUNCTIONS ON SLICES, AT ANY ELEMENT (printed by generic.py out of one instance each). Own work.
-/
namespace Go.Fd
def gIxF (k : Nat) (m : Option Nat) : F2 :=
  { nt := 19, res := [.t 4 [0]], body :=
   (.sq (.rg none [⟨some 4, none, .mv (.k (.int .i64 0)) none⟩])
   (.sq (.sq (.rg none [⟨some 6, none, .mv (.t 0) none⟩,
       ⟨some 7, none, .ln (.t 6)⟩,
       ⟨some 8, none, .mv (.k (.int .i64 0)) none⟩])
    (.bl 0 (.lp [0, 1, 7, 8] [] (.sq (.rg none [⟨some 9, none, .bi .lss 0 (.t 8) (.t 7)⟩])
      (.sq (.cd (.t 9) (.sk)
       (.ex 0))
      (.sq (.bl 1 (.sq (.rg none [⟨some 10, none, .mv (.t 8) none⟩,
           ⟨some 5, none, .mv (.t 10) none⟩])
        (.sq (.rg none [⟨some 11, none, .mv (.t 1) none⟩,
           ⟨some 12, none, .mv (.t 0) none⟩,
           ⟨some 13, none, .mv (.t 5) none⟩,
           ⟨some 14, none, .ia k (.t 12) (.t 13)⟩,
           ⟨some 15, none, .ld m (.t 14)⟩,
           ⟨some 16, none, .ca .pure false (.t 11) [.t 15]⟩])
        (.cd (.t 16) (.sq (.rg none [⟨some 17, none, .mv (.t 5) none⟩,
            ⟨some 4, none, .mv (.t 17) none⟩])
         (.rt))
        (.sk)))))
      (.rg none [⟨some 18, none, .bi .add 0 (.t 8) (.k (.int .i64 1))⟩,
        ⟨some 8, none, .mv (.t 18) none⟩])))))))
   (.sq (.rg none [⟨some 4, none, .mv (.k (.int .i64 (-1))) none⟩])
   (.rt)))) }
def gCoF (fi : FuncId) : F2 :=
  { nt := 9, res := [.t 4 [0]], body :=
   (.sq (.rg none [⟨some 4, none, .mv (.k (.bool false)) none⟩])
   (.sq (.rg none [⟨some 5, none, .mv (.t 0) none⟩,
      ⟨some 6, none, .mv (.t 1) none⟩,
      ⟨some 7, none, .ca .pure false (.f fi) [.t 5, .t 6]⟩,
      ⟨some 8, none, .bi .geq 0 (.t 7) (.k (.int .i64 0))⟩,
      ⟨some 4, none, .mv (.t 8) none⟩])
   (.rt))) }
end Go.Fd

/-
  GO'S GENERIC FUNCTIONS ON SLICES, AT ANY ELEMENT. Own work.
-/
namespace Go.Fd
set_option maxRecDepth 20000

section rules
variable {L : Sto} {F : List IV → Prop} {lvl : Nat}
theorem r_snta : ∀ {l : List (List Tr)} {F : List IV → Prop}, snaps L (l.map IV.ta) F = F (l.map IV.ta)
  | [], F => r_sn0
  | x :: r, F => by
    simp only [List.map_cons]
    rw [r_sn5, r_snta]
    rfl
theorem r_mensta {Pd : Oid → Prop} : ∀ {l : List (List Tr)}, mens Pd (l.map IV.ta) = True
  | [] => rfl
  | x :: r => by
    simp only [List.map_cons, mens, men, true_and]
    exact r_mensta
theorem r_okmsta {js : List Nat} {l : List (List Tr)} : okms lvl js (l.map IV.ta) = True := r_mensta
end rules

section
variable {P : Program} {α : Type}
theorem getA {α β : Type} {c : α → β} {l : List α} {j : Nat} (h : j < l.length) : (l.map c)[j]? = some (c l[j]) := by simp [h]
theorem cut_take0 {α : Type} {c : α → List Tr} {l : List α} {j : Nat} : cut (l.map c) 0 (j - 0) = (l.take j).map c := by
  simp only [cut, List.drop_zero, Nat.sub_zero, List.map_take]
theorem drop_cons {α : Type} {l : List α} {j : Nat} (h : j < l.length) : l.drop j = l[j] :: l.drop (j + 1) := List.drop_eq_getElem_cons h

/-- The first place that answers true, -1 for none. -/
def ixF (f : α → Bool) : List α → Int → Int
  | [], _ => -1
  | x :: r, j => if f x = true then j else ixF f r (j + 1)
theorem ixF_cons {f : α → Bool} {x : α} {r : List α} {j : Int} : ixF f (x :: r) j = if f x = true then j else ixF f r (j + 1) := rfl
theorem ixF_any {f : α → Bool} : ∀ {l : List α} {j : Int}, 0 ≤ j → (0 ≤ ixF f l j ↔ l.any f = true)
  | [], j, _ => by simp [ixF]
  | x :: r, j, h => by
    rw [ixF_cons, List.any_cons]
    cases hx : f x with
    | true => simp [h]
    | false =>
      simp only [Bool.false_eq_true, if_false, Bool.false_or]
      exact ixF_any (by omega)

theorem sem_ixF1 {fid : FuncId} (hc : chkF P fid (gIxF 1 none) = true) {t : α → Tr} {f : α → Bool} {fe : FuncId} {cs : List (List Tr)} (l : List α) (hl : l.length ≤ 9223372036854775807)
    (hf : ∀ x ∈ l, ∀ lvl S, Sem P fe lvl (.tr (t x) :: cs.map IV.ta) S (iB (f x)) S) (lvl : Nat) (S : Sto) : Sem P fid lvl [.tr (.sl (l.map fun x => [t x])), .fn fe (cs.map IV.ta)] S (iI (ixF f l 0)) S := by
  refine sem_of_chk hc trivial ?_
  simp only [gIxF, List.length_map, r_okmsta, EVA, ↓reduceIte, Nat.reduceEqDiff, Nat.reduceMul, reduceCtorEq, Nat.reduceAdd, Nat.reduceSub, Nat.reduceLeDiff, Nat.reduceLT, Int.reduceToNat, Int.reduceLE, Int.reduceLT, mens, men]
  refine wp_cnt (α := Unit) l.length (fun j _ => [(8, iI j)]) (fun _ _ => []) (fun j _ => ixF f (l.drop j) j = ixF f l 0) () (by simp only [r_okmsta, EVA, ↓reduceIte, Nat.reduceEqDiff, Nat.reduceMul, reduceCtorEq, Nat.reduceAdd, Nat.reduceSub, Nat.reduceLeDiff, Nat.reduceLT, Int.reduceToNat, Int.reduceLE, Int.reduceLT, mens, men]) (by (simp only [EVA, ↓reduceIte, Nat.reduceEqDiff, Nat.reduceMul, reduceCtorEq, Nat.reduceAdd, Nat.reduceSub, Nat.reduceLeDiff, Nat.reduceLT, Int.reduceToNat, Int.reduceLE, Int.reduceLT, mens, men]) <;> rfl) rfl ?_
  intro j _ hj hA
  simp only [List.length_map, r_okmsta, EVA, ↓reduceIte, Nat.reduceEqDiff, Nat.reduceMul, reduceCtorEq, Nat.reduceAdd, Nat.reduceSub, Nat.reduceLeDiff, Nat.reduceLT, Int.reduceToNat, Int.reduceLE, Int.reduceLT, mens, men]
  refine ite_of (fun hlt => ?_) (fun hge => ?_)
  · have hja : j < l.length := by omega
    have ga := getA (c := fun x => [t x]) hja
    rw [drop_cons hja, ixF_cons] at hA
    simp only [ga, r_okmsta, r_snta, r_mensta, EVA, ↓reduceIte, Nat.reduceEqDiff, Nat.reduceMul, reduceCtorEq, Nat.reduceAdd, Nat.reduceSub, Nat.reduceLeDiff, Nat.reduceLT, Int.reduceToNat, Int.reduceLE, Int.reduceLT, mens, men]
    refine kca_intro (hf _ (List.getElem_mem hja)) ?_
    simp only [r_mensta, r_okmsta, EVA, ↓reduceIte, Nat.reduceEqDiff, Nat.reduceMul, reduceCtorEq, Nat.reduceAdd, Nat.reduceSub, Nat.reduceLeDiff, Nat.reduceLT, Int.reduceToNat, Int.reduceLE, Int.reduceLT, mens, men]
    refine ite_of (fun h => ?_) (fun h => ?_)
    · rw [if_pos h] at hA
      rw [← hA]
    · rw [if_neg h] at hA
      exact ⟨by rw [fits_i64]; omega, cntJ_intro () hja rfl hA⟩
  · have : j = l.length := by omega
    subst this
    rw [List.drop_length] at hA
    rw [← hA]
    rfl
theorem sem_ixFk {k : Nat} {fid : FuncId} (hc : chkF P fid (gIxF k (some k)) = true) {c : α → List Tr} (hk : ∀ x, (c x).length = k) {f : α → Bool} {fe : FuncId} {cs : List (List Tr)} (l : List α) (hl : l.length ≤ 9223372036854775807)
    (hf : ∀ x ∈ l, ∀ lvl S, Sem P fe lvl (.ag ((c x).map .tr) :: cs.map IV.ta) S (iB (f x)) S) (lvl : Nat) (S : Sto) : Sem P fid lvl [.tr (.sl (l.map c)), .fn fe (cs.map IV.ta)] S (iI (ixF f l 0)) S := by
  refine sem_of_chk hc trivial ?_
  simp only [gIxF, List.length_map, r_okmsta, EVA, ↓reduceIte, Nat.reduceEqDiff, Nat.reduceMul, reduceCtorEq, Nat.reduceAdd, Nat.reduceSub, Nat.reduceLeDiff, Nat.reduceLT, Int.reduceToNat, Int.reduceLE, Int.reduceLT, mens, men]
  refine wp_cnt (α := Unit) l.length (fun j _ => [(8, iI j)]) (fun _ _ => []) (fun j _ => ixF f (l.drop j) j = ixF f l 0) () (by simp only [r_okmsta, EVA, ↓reduceIte, Nat.reduceEqDiff, Nat.reduceMul, reduceCtorEq, Nat.reduceAdd, Nat.reduceSub, Nat.reduceLeDiff, Nat.reduceLT, Int.reduceToNat, Int.reduceLE, Int.reduceLT, mens, men]) (by (simp only [EVA, ↓reduceIte, Nat.reduceEqDiff, Nat.reduceMul, reduceCtorEq, Nat.reduceAdd, Nat.reduceSub, Nat.reduceLeDiff, Nat.reduceLT, Int.reduceToNat, Int.reduceLE, Int.reduceLT, mens, men]) <;> rfl) rfl ?_
  intro j _ hj hA
  simp only [List.length_map, r_okmsta, EVA, ↓reduceIte, Nat.reduceEqDiff, Nat.reduceMul, reduceCtorEq, Nat.reduceAdd, Nat.reduceSub, Nat.reduceLeDiff, Nat.reduceLT, Int.reduceToNat, Int.reduceLE, Int.reduceLT, mens, men]
  refine ite_of (fun hlt => ?_) (fun hge => ?_)
  · have hja : j < l.length := by omega
    have ga := getA (c := c) hja
    have hkk := hk l[j]
    have htk : (c l[j]).take k = c l[j] := List.take_of_length_le (by omega)
    rw [drop_cons hja, ixF_cons] at hA
    simp only [ga, hkk, htk, r_okmsta, r_snta, r_snm, r_mensta, r_mensm, EVA, ↓reduceIte, Nat.reduceEqDiff, Nat.reduceMul, reduceCtorEq, Nat.reduceAdd, Nat.reduceSub, Nat.reduceLeDiff, Nat.reduceLT, Int.reduceToNat, Int.reduceLE, Int.reduceLT, mens, men]
    refine kca_intro (hf _ (List.getElem_mem hja)) ?_
    simp only [r_mensta, r_mensm, r_okmsta, EVA, ↓reduceIte, Nat.reduceEqDiff, Nat.reduceMul, reduceCtorEq, Nat.reduceAdd, Nat.reduceSub, Nat.reduceLeDiff, Nat.reduceLT, Int.reduceToNat, Int.reduceLE, Int.reduceLT, mens, men]
    refine ite_of (fun h => ?_) (fun h => ?_)
    · rw [if_pos h] at hA
      rw [← hA]
    · rw [if_neg h] at hA
      exact ⟨by rw [fits_i64]; omega, cntJ_intro () hja rfl hA⟩
  · have : j = l.length := by omega
    subst this
    rw [List.drop_length] at hA
    rw [← hA]
    rfl
theorem sem_coF {fid fi : FuncId} (hc : chkF P fid (gCoF fi) = true) {es : Row} {f : α → Bool} {fe : FuncId} {cs : List (List Tr)} {l : List α}
    (hi : ∀ lvl S, Sem P fi lvl [.tr (.sl es), .fn fe (cs.map IV.ta)] S (iI (ixF f l 0)) S) (lvl : Nat) (S : Sto) : Sem P fid lvl [.tr (.sl es), .fn fe (cs.map IV.ta)] S (iB (l.any f)) S := by
  refine sem_of_chk hc trivial ?_
  simp only [gCoF, r_snta, r_mensta, r_okmsta, EVA, ↓reduceIte, Nat.reduceEqDiff, Nat.reduceMul, reduceCtorEq, Nat.reduceAdd, Nat.reduceSub, Nat.reduceLeDiff, Nat.reduceLT, Int.reduceToNat, Int.reduceLE, Int.reduceLT, mens, men]
  refine kca_intro hi ?_
  simp only [r_snta, r_mensta, EVA, ↓reduceIte, Nat.reduceEqDiff, Nat.reduceMul, reduceCtorEq, Nat.reduceAdd, Nat.reduceSub, Nat.reduceLeDiff, Nat.reduceLT, Int.reduceToNat, Int.reduceLE, Int.reduceLT, mens, men]
  have := ixF_any (f := f) (l := l) (Int.le_refl 0)
  by_cases h : l.any f = true
  · simp [h, this.2 h]
  · simp [h, mt this.1 h]
theorem sem_coF1 {fid fi : FuncId} (hc : chkF P fid (gCoF fi) = true) (hi : chkF P fi (gIxF 1 none) = true) {t : α → Tr} {f : α → Bool} {fe : FuncId} {cs : List (List Tr)} (l : List α) (hl : l.length ≤ 9223372036854775807)
    (hf : ∀ x ∈ l, ∀ lvl S, Sem P fe lvl (.tr (t x) :: cs.map IV.ta) S (iB (f x)) S) (lvl : Nat) (S : Sto) : Sem P fid lvl [.tr (.sl (l.map fun x => [t x])), .fn fe (cs.map IV.ta)] S (iB (l.any f)) S :=
  sem_coF hc (sem_ixF1 hi l hl hf) lvl S
theorem sem_coFk {k : Nat} {fid fi : FuncId} (hc : chkF P fid (gCoF fi) = true) (hi : chkF P fi (gIxF k (some k)) = true) {c : α → List Tr} (hk : ∀ x, (c x).length = k) {f : α → Bool} {fe : FuncId} {cs : List (List Tr)} (l : List α) (hl : l.length ≤ 9223372036854775807)
    (hf : ∀ x ∈ l, ∀ lvl S, Sem P fe lvl (.ag ((c x).map .tr) :: cs.map IV.ta) S (iB (f x)) S) (lvl : Nat) (S : Sto) : Sem P fid lvl [.tr (.sl (l.map c)), .fn fe (cs.map IV.ta)] S (iB (l.any f)) S :=
  sem_coF hc (sem_ixFk hi hk l hl hf) lvl S

/-! ## equal slices -/
/-! ## the place of an element -/
end
end Go.Fd

/-
  WHAT HOLDS OF THE PROGRAM'S AND THE REFERENCE'S SMALL FUNCTIONS ON NUMBERS. Own work.
-/
namespace Go.Fd
set_option maxRecDepth 20000

/-- A statement as a bool. -/
noncomputable def dc (p : Prop) : Bool := @decide p (Classical.propDecidable p)
theorem dc_iff {p : Prop} : dc p = true ↔ p := by unfold dc; simp
theorem dc_true {p : Prop} (h : p) : dc p = true := dc_iff.2 h
theorem dc_false {p : Prop} (h : ¬ p) : dc p = false := by
  cases hh : dc p with
  | false => rfl
  | true => exact absurd (dc_iff.1 hh) h
theorem dc_not {p : Prop} : dc p = false ↔ ¬ p := ⟨fun h hp => (by rw [dc_true hp] at h; cases h), dc_false⟩
theorem dc_congr {p q : Prop} (h : p ↔ q) : dc p = dc q := by rw [propext h]
theorem dc_decide {p : Prop} [Decidable p] : dc p = decide p := by
  by_cases h : p
  · rw [dc_true h]; simp [h]
  · rw [dc_false h]; simp [h]

abbrev g0 (l : List Int) (i : Nat) : Int := l.getD i 0
abbrev A3 := Int × Int × Int
abbrev g3 (l : List A3) (i : Nat) : A3 := l.getD i (0, 0, 0)
theorem rI_get {l : List Int} {i : Nat} (h : i < l.length) : (rI l)[i]? = some [tv (g0 l i)] := by simp [h]
def inB (n a b : Int) : Bool := decide (a ≤ n) && decide (n ≤ b)
theorem inB_iff {n a b : Int} : inB n a b = true ↔ a ≤ n ∧ n ≤ b := by simp [inB]
theorem inB_not {n a b : Int} : inB n a b = false ↔ ¬ (a ≤ n ∧ n ≤ b) := by
  rw [← inB_iff]; cases inB n a b <;> simp

theorem sem_l1In (n a b : Int) (lvl : Nat) (S : Sto) : Sem Go.Proofs.Tryz.prog fid_spec_l1In lvl [iI n, iI a, iI b] S (iB (inB n a b)) S := by
  refine sem_of_chk k_spec_l1In trivial ?_
  simp only [c_spec_l1In, EVA, ↓reduceIte, Nat.reduceEqDiff, Nat.reduceMul, reduceCtorEq, Nat.reduceAdd, Nat.reduceSub, Nat.reduceLeDiff, Nat.reduceLT, Int.reduceToNat, Int.reduceLE, Int.reduceLT, mens, men]
  refine ite_of (fun h => ?_) (fun h => ?_) <;> simp [inB, h]
theorem sem_within (n a b : Int) (lvl : Nat) (S : Sto) : Sem Go.Proofs.Tryz.prog fid_impl_within lvl [iI n, iI a, iI b] S (iB (inB n a b)) S := by
  refine sem_of_chk k_impl_within trivial ?_
  simp only [c_impl_within, EVA, ↓reduceIte, Nat.reduceEqDiff, Nat.reduceMul, reduceCtorEq, Nat.reduceAdd, Nat.reduceSub, Nat.reduceLeDiff, Nat.reduceLT, Int.reduceToNat, Int.reduceLE, Int.reduceLT, mens, men]
  refine ite_of (fun h => ?_) (fun h => ?_) <;> simp [inB, h]

/-- Numbers that rise, within bounds. -/
def Ris (lo hi : Int) (l : List Int) : Prop := ∀ i, i < l.length → lo ≤ g0 l i ∧ g0 l i ≤ hi ∧ (0 < i → g0 l (i - 1) < g0 l i)
theorem sem_l1Rising (l : List Int) (lo hi : Int) (hl : l.length ≤ 9223372036854775807) (lvl : Nat) (S : Sto) : Sem Go.Proofs.Tryz.prog fid_spec_l1Rising lvl [tI l, iI lo, iI hi] S (iB (dc (Ris lo hi l))) S := by
  refine sem_of_chk k_spec_l1Rising trivial ?_
  simp only [c_spec_l1Rising, EVA, ↓reduceIte, Nat.reduceEqDiff, Nat.reduceMul, reduceCtorEq, Nat.reduceAdd, Nat.reduceSub, Nat.reduceLeDiff, Nat.reduceLT, Int.reduceToNat, Int.reduceLE, Int.reduceLT, mens, men]
  refine wp_count (α := Unit) l.length (fun j _ => ⟨lvl, [(0, tI l), (1, iI lo), (2, iI hi), (7, iI j)], [], S⟩) (fun j _ => ∀ i, i < j → lo ≤ g0 l i ∧ g0 l i ≤ hi ∧ (0 < i → g0 l (i - 1) < g0 l i)) () ⟨by simp only [EVA, ↓reduceIte, Nat.reduceEqDiff, Nat.reduceMul, reduceCtorEq, Nat.reduceAdd, Nat.reduceSub, Nat.reduceLeDiff, Nat.reduceLT, Int.reduceToNat, Int.reduceLE, Int.reduceLT, mens, men], by (simp only [EVA, ↓reduceIte, Nat.reduceEqDiff, Nat.reduceMul, reduceCtorEq, Nat.reduceAdd, Nat.reduceSub, Nat.reduceLeDiff, Nat.reduceLT, Int.reduceToNat, Int.reduceLE, Int.reduceLT, mens, men]) <;> rfl⟩ (fun i hi => by omega) ?_
  intro j _ hj hA
  simp only [List.length_map, EVA, ↓reduceIte, Nat.reduceEqDiff, Nat.reduceMul, reduceCtorEq, Nat.reduceAdd, Nat.reduceSub, Nat.reduceLeDiff, Nat.reduceLT, Int.reduceToNat, Int.reduceLE, Int.reduceLT, mens, men]
  refine ite_of (fun hlt => ?_) (fun hge => ?_)
  · have hja : j < l.length := by omega
    have ga := rI_get hja
    simp only [ga, EVA, ↓reduceIte, Nat.reduceEqDiff, Nat.reduceMul, reduceCtorEq, Nat.reduceAdd, Nat.reduceSub, Nat.reduceLeDiff, Nat.reduceLT, Int.reduceToNat, Int.reduceLE, Int.reduceLT, mens, men]
    refine kca_intro (sem_l1In (g0 l j) lo hi) ?_
    simp only [EVA, ↓reduceIte, Nat.reduceEqDiff, Nat.reduceMul, reduceCtorEq, Nat.reduceAdd, Nat.reduceSub, Nat.reduceLeDiff, Nat.reduceLT, Int.reduceToNat, Int.reduceLE, Int.reduceLT, mens, men]
    refine ite_of (fun hin => ?_) (fun hin => ?_)
    · have hin' := inB_iff.1 hin
      have hgo : (0 < j → g0 l (j - 1) < g0 l j) → ∀ i, i < j + 1 → lo ≤ g0 l i ∧ g0 l i ≤ hi ∧ (0 < i → g0 l (i - 1) < g0 l i) := fun hp i hi => by
        by_cases e : i = j
        · subst e; exact ⟨hin'.1, hin'.2, hp⟩
        · exact hA i (by omega)
      refine ite_of (fun hpos => ?_) (fun hpos => ?_)
      · have hp : ((j : Int) - 1).toNat = j - 1 := by omega
        have hp0 : (0 : Int) ≤ j - 1 := by omega
        have gb := rI_get (l := l) (i := j - 1) (by omega)
        simp only [hp, hp0, gb, ga, EVA, ↓reduceIte, Nat.reduceEqDiff, Nat.reduceMul, reduceCtorEq, Nat.reduceAdd, Nat.reduceSub, Nat.reduceLeDiff, Nat.reduceLT, Int.reduceToNat, Int.reduceLE, Int.reduceLT, mens, men]
        refine ⟨by rw [fits_i64]; omega, ite_of (fun hge => ?_) (fun hlt2 => ?_)⟩
        · have : ¬ Ris lo hi l := fun hr => by have := (hr j hja).2.2 (by omega); omega
          rw [dc_false this]
        · exact ⟨by rw [fits_i64]; omega, cntJ_intro () hja rfl (hgo fun _ => by omega)⟩
      · exact ⟨by rw [fits_i64]; omega, cntJ_intro () hja rfl (hgo fun h => by omega)⟩
    · have : ¬ Ris lo hi l := fun hr => hin (inB_iff.2 ⟨(hr j hja).1, (hr j hja).2.1⟩)
      rw [dc_false this]
  · have : j = l.length := by omega
    subst this
    rw [dc_true (p := Ris lo hi l) hA]

theorem sem_isRising (l : List Int) (below : Int) (hl : l.length ≤ 9223372036854775807) (hb : 0 ≤ below) (hb2 : below ≤ 9223372036854775807) (lvl : Nat) (S : Sto) : Sem Go.Proofs.Tryz.prog fid_impl_isRising lvl [tI l, iI below] S (iB (dc (Ris 0 (below - 1) l))) S := by
  refine sem_of_chk k_impl_isRising trivial ?_
  simp only [c_impl_isRising, List.length_map, EVA, ↓reduceIte, Nat.reduceEqDiff, Nat.reduceMul, reduceCtorEq, Nat.reduceAdd, Nat.reduceSub, Nat.reduceLeDiff, Nat.reduceLT, Int.reduceToNat, Int.reduceLE, Int.reduceLT, mens, men]
  refine wp_count (α := Unit) l.length (fun j _ => ⟨lvl, [(0, tI l), (1, iI below), (7, tI l), (8, iI l.length), (9, iI j)], [], S⟩) (fun j _ => ∀ i, i < j → 0 ≤ g0 l i ∧ g0 l i ≤ below - 1 ∧ (0 < i → g0 l (i - 1) < g0 l i)) () ⟨by simp only [EVA, ↓reduceIte, Nat.reduceEqDiff, Nat.reduceMul, reduceCtorEq, Nat.reduceAdd, Nat.reduceSub, Nat.reduceLeDiff, Nat.reduceLT, Int.reduceToNat, Int.reduceLE, Int.reduceLT, mens, men], by (simp only [EVA, ↓reduceIte, Nat.reduceEqDiff, Nat.reduceMul, reduceCtorEq, Nat.reduceAdd, Nat.reduceSub, Nat.reduceLeDiff, Nat.reduceLT, Int.reduceToNat, Int.reduceLE, Int.reduceLT, mens, men]) <;> rfl⟩ (fun i hi => by omega) ?_
  intro j _ hj hA
  simp only [List.length_map, EVA, ↓reduceIte, Nat.reduceEqDiff, Nat.reduceMul, reduceCtorEq, Nat.reduceAdd, Nat.reduceSub, Nat.reduceLeDiff, Nat.reduceLT, Int.reduceToNat, Int.reduceLE, Int.reduceLT, mens, men]
  refine ite_of (fun hlt => ?_) (fun hge => ?_)
  · have hja : j < l.length := by omega
    have ga := rI_get hja
    have hfb : fits .i64 (below - 1) := by rw [fits_i64]; omega
    simp only [ga, hfb, EVA, ↓reduceIte, Nat.reduceEqDiff, Nat.reduceMul, reduceCtorEq, Nat.reduceAdd, Nat.reduceSub, Nat.reduceLeDiff, Nat.reduceLT, Int.reduceToNat, Int.reduceLE, Int.reduceLT, mens, men]
    refine kca_intro (sem_within (g0 l j) 0 (below - 1)) ?_
    simp only [EVA, ↓reduceIte, Nat.reduceEqDiff, Nat.reduceMul, reduceCtorEq, Nat.reduceAdd, Nat.reduceSub, Nat.reduceLeDiff, Nat.reduceLT, Int.reduceToNat, Int.reduceLE, Int.reduceLT, mens, men]
    refine ite_of (fun hin => ?_) (fun hin => ?_)
    · have hin' := inB_iff.1 hin
      have hgo : (0 < j → g0 l (j - 1) < g0 l j) → ∀ i, i < j + 1 → 0 ≤ g0 l i ∧ g0 l i ≤ below - 1 ∧ (0 < i → g0 l (i - 1) < g0 l i) := fun hp i hi => by
        by_cases e : i = j
        · subst e; exact ⟨hin'.1, hin'.2, hp⟩
        · exact hA i (by omega)
      refine ite_of (fun hpos => ?_) (fun hpos => ?_)
      · have hp : ((j : Int) - 1).toNat = j - 1 := by omega
        have hp0 : (0 : Int) ≤ j - 1 := by omega
        have gb := rI_get (l := l) (i := j - 1) (by omega)
        simp only [hp, hp0, gb, ga, EVA, ↓reduceIte, Nat.reduceEqDiff, Nat.reduceMul, reduceCtorEq, Nat.reduceAdd, Nat.reduceSub, Nat.reduceLeDiff, Nat.reduceLT, Int.reduceToNat, Int.reduceLE, Int.reduceLT, mens, men]
        refine ⟨by rw [fits_i64]; omega, ite_of (fun hge => ?_) (fun hlt2 => ?_)⟩
        · have : ¬ Ris 0 (below - 1) l := fun hr => by have := (hr j hja).2.2 (by omega); omega
          rw [dc_false this]
        · exact ⟨by rw [fits_i64]; omega, cntJ_intro () hja rfl (hgo fun _ => by omega)⟩
      · exact ⟨by rw [fits_i64]; omega, cntJ_intro () hja rfl (hgo fun h => by omega)⟩
    · have : ¬ Ris 0 (below - 1) l := fun hr => hin (inB_iff.2 ⟨(hr j hja).1, (hr j hja).2.1⟩)
      rw [dc_false this]
  · have : j = l.length := by omega
    subst this
    rw [dc_true (p := Ris 0 (below - 1) l) hA]

/-- Lists of numbers, compared. -/
def cmpL : List Int → List Int → Int
  | [], [] => 0
  | [], _ :: _ => -1
  | _ :: _, [] => 1
  | x :: r, y :: s => if x < y then -1 else if y < x then 1 else cmpL r s
def cmpI (x y : Int) : Int := if x < y then -1 else if y < x then 1 else 0
theorem sem_isNaN (x : Int) (lvl : Nat) (S : Sto) : Sem Go.Proofs.Tryz.prog fid_cmp_isNaN_int lvl [iI x] S (iB false) S := by
  refine sem_of_chk k_cmp_isNaN_int trivial ?_
  simp only [c_cmp_isNaN_int, EVA, ↓reduceIte, Nat.reduceEqDiff, Nat.reduceMul, reduceCtorEq, Nat.reduceAdd, Nat.reduceSub, Nat.reduceLeDiff, Nat.reduceLT, Int.reduceToNat, Int.reduceLE, Int.reduceLT, mens, men]
theorem sem_cmp (x y : Int) (lvl : Nat) (S : Sto) : Sem Go.Proofs.Tryz.prog fid_cmp_Compare_int lvl [iI x, iI y] S (iI (cmpI x y)) S := by
  refine sem_of_chk k_cmp_Compare_int trivial ?_
  simp only [c_cmp_Compare_int, EVA, ↓reduceIte, Nat.reduceEqDiff, Nat.reduceMul, reduceCtorEq, Nat.reduceAdd, Nat.reduceSub, Nat.reduceLeDiff, Nat.reduceLT, Int.reduceToNat, Int.reduceLE, Int.reduceLT, mens, men]
  refine kca_intro (sem_isNaN x) ?_
  simp only [EVA, ↓reduceIte, Nat.reduceEqDiff, Nat.reduceMul, reduceCtorEq, Nat.reduceAdd, Nat.reduceSub, Nat.reduceLeDiff, Nat.reduceLT, Int.reduceToNat, Int.reduceLE, Int.reduceLT, mens, men]
  refine kca_intro (sem_isNaN y) ?_
  simp only [EVA, ↓reduceIte, Nat.reduceEqDiff, Nat.reduceMul, reduceCtorEq, Nat.reduceAdd, Nat.reduceSub, Nat.reduceLeDiff, Nat.reduceLT, Int.reduceToNat, Int.reduceLE, Int.reduceLT, mens, men]
  unfold cmpI
  refine ite_of (fun h => ?_) (fun h => ?_)
  · rw [if_pos h]
  · rw [if_neg h]
    refine ite_of (fun h2 => ?_) (fun h2 => ?_)
    · rw [if_pos h2]
    · rw [if_neg h2]
theorem sem_Compare (a b : List Int) (ha : a.length ≤ 9223372036854775807) (hb : b.length ≤ 9223372036854775807) (lvl : Nat) (S : Sto) : Sem Go.Proofs.Tryz.prog fid_slices_Compare_int_int lvl [tI a, tI b] S (iI (cmpL a b)) S := by
  refine sem_of_chk k_slices_Compare_int_int trivial ?_
  simp only [c_slices_Compare_int_int, List.length_map, EVA, ↓reduceIte, Nat.reduceEqDiff, Nat.reduceMul, reduceCtorEq, Nat.reduceAdd, Nat.reduceSub, Nat.reduceLeDiff, Nat.reduceLT, Int.reduceToNat, Int.reduceLE, Int.reduceLT, mens, men]
  refine wp_count (α := Unit) a.length (fun j _ => ⟨lvl, [(0, tI a), (1, tI b), (9, tI a), (10, iI a.length), (11, iI j)], [], S⟩) (fun j _ => j ≤ b.length ∧ cmpL (a.drop j) (b.drop j) = cmpL a b) () ⟨by simp only [EVA, ↓reduceIte, Nat.reduceEqDiff, Nat.reduceMul, reduceCtorEq, Nat.reduceAdd, Nat.reduceSub, Nat.reduceLeDiff, Nat.reduceLT, Int.reduceToNat, Int.reduceLE, Int.reduceLT, mens, men], by (simp only [EVA, ↓reduceIte, Nat.reduceEqDiff, Nat.reduceMul, reduceCtorEq, Nat.reduceAdd, Nat.reduceSub, Nat.reduceLeDiff, Nat.reduceLT, Int.reduceToNat, Int.reduceLE, Int.reduceLT, mens, men]) <;> rfl⟩ ⟨Nat.zero_le _, rfl⟩ ?_
  intro j _ hj ⟨hjb, hA⟩
  simp only [List.length_map, EVA, ↓reduceIte, Nat.reduceEqDiff, Nat.reduceMul, reduceCtorEq, Nat.reduceAdd, Nat.reduceSub, Nat.reduceLeDiff, Nat.reduceLT, Int.reduceToNat, Int.reduceLE, Int.reduceLT, mens, men]
  refine ite_of (fun hlt => ?_) (fun hge => ?_)
  · have hja : j < a.length := by omega
    have ga := rI_get hja
    have e1 : a.drop j = g0 a j :: a.drop (j + 1) := by rw [List.drop_eq_getElem_cons hja]; simp [hja]
    rw [e1] at hA
    simp only [ga, List.length_map, EVA, ↓reduceIte, Nat.reduceEqDiff, Nat.reduceMul, reduceCtorEq, Nat.reduceAdd, Nat.reduceSub, Nat.reduceLeDiff, Nat.reduceLT, Int.reduceToNat, Int.reduceLE, Int.reduceLT, mens, men]
    refine ite_of (fun hbe => ?_) (fun hbl => ?_)
    · have : b.drop j = [] := List.drop_eq_nil_of_le (by omega)
      rw [this] at hA
      simp only [cmpL] at hA
      rw [← hA]
    · have hjb2 : j < b.length := by omega
      have gb := rI_get hjb2
      have e2 : b.drop j = g0 b j :: b.drop (j + 1) := by rw [List.drop_eq_getElem_cons hjb2]; simp [hjb2]
      rw [e2] at hA
      simp only [cmpL] at hA
      simp only [gb, EVA, ↓reduceIte, Nat.reduceEqDiff, Nat.reduceMul, reduceCtorEq, Nat.reduceAdd, Nat.reduceSub, Nat.reduceLeDiff, Nat.reduceLT, Int.reduceToNat, Int.reduceLE, Int.reduceLT, mens, men]
      refine kca_intro (sem_cmp (g0 a j) (g0 b j)) ?_
      simp only [EVA, ↓reduceIte, Nat.reduceEqDiff, Nat.reduceMul, reduceCtorEq, Nat.reduceAdd, Nat.reduceSub, Nat.reduceLeDiff, Nat.reduceLT, Int.reduceToNat, Int.reduceLE, Int.reduceLT, mens, men]
      unfold cmpI
      by_cases h1 : g0 a j < g0 b j
      · rw [if_pos h1] at hA
        rw [if_pos h1, if_pos (by decide), ← hA]
      · rw [if_neg h1] at hA
        rw [if_neg h1]
        by_cases h2 : g0 b j < g0 a j
        · rw [if_pos h2] at hA
          rw [if_pos h2, if_pos (by decide), ← hA]
        · rw [if_neg h2] at hA
          rw [if_neg h2, if_neg (by decide)]
          exact ⟨by rw [fits_i64]; omega, cntJ_intro () hja rfl ⟨by omega, hA⟩⟩
  · have : j = a.length := by omega
    subst this
    rw [List.drop_length] at hA
    refine ite_of (fun h1 => ?_) (fun h1 => ?_)
    · have hb1 : a.length < b.length := by omega
      have e2 : b.drop a.length = g0 b a.length :: b.drop (a.length + 1) := by rw [List.drop_eq_getElem_cons hb1]; simp [hb1]
      rw [e2] at hA
      simp only [cmpL] at hA
      rw [← hA]
    · have : b.drop a.length = [] := List.drop_eq_nil_of_le (by omega)
      rw [this] at hA
      simp only [cmpL] at hA
      rw [← hA]

end Go.Fd

/-
  NUMBERS OF LIBRARY FUNCTIONS IN THIS PROGRAM, as the guide's shelf lays them (printed by lay.py out of the kit's own command).
-/
namespace Go.Proofs
open Go.Shelf
def Tryz.lays160_ren : Go.Shelf.Ren := ⟨fun | 160 => 177 | 232 => 183 | 231 => 182 | 227 => 184 | 234 => 186 | 233 => 185 | 236 => 188 | 235 => 187 | 228 => 191 | 271 => 194 | 151 => 193 | 197 => 192 | 120 => 198 | 152 => 197 | 260 => 196 | 137 => 199 | 119 => 200 | 224 => 201 | 225 => 202 | 217 => 203 | 266 => 204 | n => n, fun | 9 => 9 | 4 => 4 | 3 => 3 | 5 => 5 | 117 => 199 | 116 => 198 | 0 => 0 | 124 => 202 | 21 => 21 | 105 => 206 | 46 => 211 | 119 => 210 | 139 => 214 | 138 => 213 | n => n, fun | 3 => 0 | 4 => 1 | n => n⟩
theorem Tryz.lays160 : Go.Proofs.Lays.n160 Tryz.prog Tryz.lays160_ren := {
    mixed := by kernel_rfl,
    f119 := Tryz.func200.trans (congrArg some (by kernel_rfl)),
    f120 := Tryz.func198.trans (congrArg some (by kernel_rfl)),
    f137 := Tryz.func199.trans (congrArg some (by kernel_rfl)),
    f151 := Tryz.func193.trans (congrArg some (by kernel_rfl)),
    f152 := Tryz.func197.trans (congrArg some (by kernel_rfl)),
    f160 := Tryz.func177.trans (congrArg some (by kernel_rfl)),
    f197 := Tryz.func192.trans (congrArg some (by kernel_rfl)),
    f217 := Tryz.func203.trans (congrArg some (by kernel_rfl)),
    f224 := Tryz.func201.trans (congrArg some (by kernel_rfl)),
    f225 := Tryz.func202.trans (congrArg some (by kernel_rfl)),
    f227 := Tryz.func184.trans (congrArg some (by kernel_rfl)),
    f228 := Tryz.func191.trans (congrArg some (by kernel_rfl)),
    f231 := Tryz.func182.trans (congrArg some (by kernel_rfl)),
    f232 := Tryz.func183.trans (congrArg some (by kernel_rfl)),
    f233 := Tryz.func185.trans (congrArg some (by kernel_rfl)),
    f234 := Tryz.func186.trans (congrArg some (by kernel_rfl)),
    f235 := Tryz.func187.trans (congrArg some (by kernel_rfl)),
    f236 := Tryz.func188.trans (congrArg some (by kernel_rfl)),
    f260 := Tryz.func196.trans (congrArg some (by kernel_rfl)),
    f266 := Tryz.func204.trans (congrArg some (by kernel_rfl)),
    f271 := Tryz.func194.trans (congrArg some (by kernel_rfl)),
    t0 := Tryz.underlying0,
    a0 := Tryz.isAgg0,
    z0 := Tryz.sizeOf0,
    v0 := Tryz.zeroValue0,
    t3 := Tryz.underlying3,
    a3 := Tryz.isAgg3,
    z3 := Tryz.sizeOf3,
    v3 := Tryz.zeroValue3,
    t4 := Tryz.underlying4,
    a4 := Tryz.isAgg4,
    z4 := Tryz.sizeOf4,
    v4 := Tryz.zeroValue4,
    t5 := Tryz.underlying5,
    a5 := Tryz.isAgg5,
    z5 := Tryz.sizeOf5,
    v5 := Tryz.zeroValue5,
    t9 := Tryz.underlying9,
    a9 := Tryz.isAgg9,
    z9 := Tryz.sizeOf9,
    v9 := Tryz.zeroValue9,
    t21 := Tryz.underlying21,
    a21 := Tryz.isAgg21,
    z21 := Tryz.sizeOf21,
    v21 := Tryz.zeroValue21,
    t46 := Tryz.underlying211,
    a46 := Tryz.isAgg211,
    z46 := Tryz.sizeOf211,
    v46 := Tryz.zeroValue211,
    t105 := Tryz.underlying206,
    a105 := Tryz.isAgg206,
    z105 := Tryz.sizeOf206,
    v105 := Tryz.zeroValue206,
    t116 := Tryz.underlying198,
    a116 := Tryz.isAgg198,
    z116 := Tryz.sizeOf198,
    t117 := Tryz.underlying199,
    a117 := Tryz.isAgg199,
    z117 := Tryz.sizeOf199,
    v117 := Tryz.zeroValue199,
    t119 := Tryz.underlying210,
    a119 := Tryz.isAgg210,
    z119 := Tryz.sizeOf210,
    t124 := Tryz.underlying202,
    a124 := Tryz.isAgg202,
    z124 := Tryz.sizeOf202,
    v124 := Tryz.zeroValue202,
    t138 := Tryz.underlying213,
    a138 := Tryz.isAgg213,
    z138 := Tryz.sizeOf213,
    v138 := Tryz.zeroValue213,
    t139 := Tryz.underlying214,
    a139 := Tryz.isAgg214,
    z139 := Tryz.sizeOf214,
    v139 := Tryz.zeroValue214,
    g3 := by kernel_rfl,
    g4 := by kernel_rfl }
end Go.Proofs
