/-
  FOUNDATION 50: contracts of the library, taken over: calls that read scalars alone and answer scalars. Own work.
-/
import Derived.Test.YteiiokiaflldnaaGreatDoorT03
import Derived.ChangeMaps5
import Derived.ChangeShapes
import Derived.Test.YteiiokiaflldnaaGreatDoorProg
import Derived.KernelRfl
import Derived.Shelf.Strconv.Itoa3
import Derived.Shelf.Strings.OnBuilder
import Derived.Shelf.Strings.SlTrimAscii
set_option linter.all false
namespace Go.Fd
open Go.RowKit

theorem ext_of_below {w w' : World} (h : Below w.heap.size w w') : Ext w w' := ⟨h.size, h.block, h.os, h.tape, h.output⟩
theorem VRs_scal {G : Gh} {S : Sto} {w : World} : ∀ {xs vs : List Value}, VRs G S w (xs.map fun v => .tr (.v v)) vs → vs = xs
  | [], vs, h => by simpa [VRs] using h
  | x :: r, vs, h => by
    simp only [List.map_cons, VRs] at h
    obtain ⟨v, vr, rfl, h1, h2⟩ := h
    rw [VRs_scal h2]
    have h1' : Rds w (Av G S w) v (.v x) := h1
    cases h1'
    rfl
/-- What a call leaves that returns y and turns nothing old. -/
theorem sem_of_ext {P : Program} {f : FuncId} {lvl : Nat} {S : Sto} {args : List IV} {r : IV} (hc : Callable P f) (hi : impv true lvl 0 0 r = (r, [])) (hlow : low lvl r)
    (h : (∀ id ob, S id = some ob → id.1 < lvl) → ∀ G w vs, SOk G S w → VRs G S w args vs → Calls P f vs.toArray w fun e w' => ∃ v, e = .returned v ∧ VR G S w' r v ∧ Below w.heap.size w w') : Sem P f lvl args S r S := by
  refine ⟨hlow, hc, fun hS G w vs hok hv => ?_⟩
  refine (h hS G w vs hok hv).mono ?_
  rintro e w' ⟨v, rfl, hr, hb⟩
  rw [hi]
  have e : Ext w w' := ext_of_below hb
  exact ⟨v, G, rfl, hok.ext e, hr, hS, Frm.of_ext e⟩
theorem sem_of_scal {P : Program} {f : FuncId} {lvl : Nat} {S : Sto} {xs : List Value} {y : Value} (hc : Callable P f) (hy : scal y = true)
    (h : ∀ w, Calls P f xs.toArray w fun e w' => e = .returned y ∧ Below w.heap.size w w') : Sem P f lvl (xs.map fun v => .tr (.v v)) S (.tr (.v y)) S := by
  refine sem_of_ext hc rfl trivial fun _ G w vs _ hv => ?_
  rw [VRs_scal hv]
  exact (h w).mono fun e w' ⟨h1, h2⟩ => ⟨y, h1, .v y hy, h2⟩
end Go.Fd

/-
  FOUNDATION 51: a loop that counts, told by what changes. Own work.
-/
namespace Go.Fd

def pts : List (Nat × IV) → List (Nat × IV) → List (Nat × IV)
  | [], env => env
  | (t, x) :: r, env => pts r (pt t x env)
def ptOs : List (Nat × Ob) → List (Nat × Ob) → List (Nat × Ob)
  | [], loc => loc
  | (t, x) :: r, loc => ptOs r (ptO t x loc)
/-- A state in which some slots and objects have become others. -/
def chg (ce : List (Nat × IV)) (co : List (Nat × Ob)) (s : St) : St := ⟨s.lvl, pts ce s.env, ptOs co s.loc, s.out⟩
section
variable {C : Contract} {lvl : Nat} {env : List (Nat × IV)} {loc : List (Nat × Ob)} {out : Sto} {st : St} {Q : Ex → St → Prop}
theorem r_chg {ce : List (Nat × IV)} {co : List (Nat × Ob)} : chg ce co ⟨lvl, env, loc, out⟩ = ⟨lvl, pts ce env, ptOs co loc, out⟩ := (rfl)
theorem r_pts0 : pts [] env = env := (rfl)
theorem r_pts1 {t : Nat} {x : IV} {r : List (Nat × IV)} : pts ((t, x) :: r) env = pts r (pt t x env) := (rfl)
theorem r_ptOs0 : ptOs [] loc = loc := (rfl)
theorem r_ptOs1 {t : Nat} {x : Ob} {r : List (Nat × Ob)} : ptOs ((t, x) :: r) loc = ptOs r (ptO t x loc) := (rfl)
/-- A loop that counts: its head's state is the first one's but for what ce and co tell. -/
theorem wp_cnt {α : Type} {ks js : List Nat} {c : C2} (N : Nat) (ce : Nat → α → List (Nat × IV)) (co : Nat → α → List (Nat × Ob)) (A : Nat → α → Prop) (x0 : α)
    (h1 : clean ks js st) (h0 : fgt ks js st = chg (ce 0 x0) (co 0 x0) (fgt ks js st)) (hA : A 0 x0)
    (hs : ∀ k x, k ≤ N → A k x → wp C c (chg (ce k x) (co k x) (fgt ks js st)) (kround ks js (cntJ N (fun k x => chg (ce k x) (co k x) (fgt ks js st)) A (N - k)) Q)) : wp C (.lp ks js c) st Q :=
  wp_count N (fun k x => chg (ce k x) (co k x) (fgt ks js st)) A x0 ⟨h1, h0⟩ hA hs
end

/-! ## variables that are handed to a call that does not see them -/
section
variable {L : Sto} {F : List IV → Prop} {r : List IV}
def kabn (L : Sto) (r : List IV) (F : List IV → Prop) (y : IV) : Prop := snaps L r (kcn y F)
theorem r_kabn {y : IV} : kabn L r F y = snaps L r (kcn y F) := (rfl)
theorem r_sn9 {id : Oid} {off : Nat} : snaps L (.ab id off :: r) F = snapb (L id) L off (kabn L r F) := by simp only [snaps, snap]; rfl
def kta (F : IV → Prop) (ts : List Tr) : Prop := F (.ta ts)
theorem r_kta {F : IV → Prop} {ts : List Tr} : kta F ts = F (.ta ts) := (rfl)
theorem r_snb {cells : List IV} {off : Nat} {F : IV → Prop} : snapb (some (.bx cells)) L off F = snapcs L (cells.drop off) (kta F) := (rfl)
def kct (t : Tr) (F : List Tr → Prop) (ts : List Tr) : Prop := F (t :: ts)
theorem r_kct {t : Tr} {F : List Tr → Prop} {ts : List Tr} : kct t F ts = F (t :: ts) := (rfl)
def ksnc (L : Sto) (r : List IV) (F : List Tr → Prop) (t : Tr) : Prop := snapcs L r (kct t F)
theorem r_ksnc {F : List Tr → Prop} {t : Tr} : ksnc L r F t = snapcs L r (kct t F) := (rfl)
theorem r_snc0 {F : List Tr → Prop} : snapcs L [] F = F [] := (rfl)
theorem r_snc1 {x : IV} {F : List Tr → Prop} : snapcs L (x :: r) F = snapc L x (ksnc L r F) := (rfl)
theorem r_snct {t : Tr} {F : Tr → Prop} : snapc L (.tr t) F = F t := (rfl)
theorem r_sncc {es : Row} {F : Tr → Prop} : snapc L (.cs es) F = F (.sl es) := (rfl)
def ksnh (off len : Nat) (F : Tr → Prop) (es : Row) (_u : Bool) (_v : Nat) : Prop := off + len ≤ es.length ∧ F (.sl (cut es off len))
theorem r_ksnh {off len : Nat} {F : Tr → Prop} {es : Row} {u : Bool} {v : Nat} : ksnh off len F es u v = (off + len ≤ es.length ∧ F (.sl (cut es off len))) := (rfl)
theorem r_snch {id : Oid} {p : Pth} {off len s : Nat} {cap : Option Nat} {F : Tr → Prop} : snapc L (.hd id p off len cap s) F = rd3 (L id) p s (ksnh off len F) := by rw [← rdh_rd3]; rfl
end

/-! ## one element that is appended -/
theorem r_rep1 {α : Type} {x : α} : List.replicate 1 x = [x] := (rfl)
theorem r_cut1 {e : List Tr} : cut [e] 0 1 = [e] := (rfl)
theorem r_scr1 {l : List Tr} : ScR [l] = (l.all isSc = true) := by
  apply propext
  constructor
  · intro h
    exact List.all_eq_true.2 fun t ht => h l (by simp) t ht
  · intro h e he t ht
    simp only [List.mem_singleton] at he
    subst he
    exact List.all_eq_true.1 h t ht
theorem r_unr1 {k : Nat} {l : List Tr} : UnR k [l] = (l.length = k) := by
  apply propext
  constructor
  · intro h; exact h l (by simp)
  · intro h e he
    simp only [List.mem_singleton] at he
    rw [he, h]
theorem r_max {j : Nat} : max j (j + 1) = j + 1 := by omega
theorem r_lt1 {j : Nat} : (j < j + 1) = True := by simp
end Go.Fd

/-
  FOUNDATION 52: numbers and strings as parameters of a law. Own work.
-/
namespace Go.Fd
open Go.RowKit Go.ChangeShapes Go.ChangeMaps Go.WideMaps
section
variable {H : Type} {enc : TypeId × Value → H} {P : Program} {w : World} {t : TypeId} {v : Value} {d : DataW H} {p : List MemPlace} {sp : Nat → Bool} {hd : Bool} {base : Nat}
end
end Go.Fd

/-
  FOUNDATION 54: all rules in one word (printed by evr.py). Own work.
-/
namespace Go.Fd
set_option linter.defProp false in
def EV0 := (And.intro (And.intro (And.intro (And.intro (And.intro @r_cons @r_nil) (And.intro @r_kont (And.intro @r_seq1 @r_seq2))) (And.intro (And.intro @r_seq3 @r_blk1) (And.intro @r_blk2 (And.intro @r_blk3 @r_fn1)))) (And.intro (And.intro (And.intro @r_fn2 @r_fn3) (And.intro @r_sk (And.intro @r_rg @r_sq))) (And.intro (And.intro @r_bl @r_ex) (And.intro @r_rt (And.intro @r_fg @r_cd))))) (And.intro (And.intro (And.intro (And.intro @r_cd2 @r_wpF) (And.intro @r_op1 (And.intro @r_op1g @r_gd))) (And.intro (And.intro @r_gdu @r_go1) (And.intro @r_mv (And.intro @r_mvn @r_mvn1)))) (And.intro (And.intro (And.intro @r_bx @r_bx1) (And.intro @r_bv (And.intro @r_bv1 @r_bt))) (And.intro (And.intro @r_bt1 @r_al) (And.intro @r_bd (And.intro @r_bs @r_fills0))))))
set_option linter.defProp false in
def EV1 := (And.intro (And.intro (And.intro (And.intro (And.intro @r_fills1 @r_fl2) (And.intro @r_kfill (And.intro @r_ms @r_ms1))) (And.intro (And.intro @r_bi @r_add0) (And.intro @r_sub0 (And.intro @r_mul0 @r_add1)))) (And.intro (And.intro (And.intro @r_sub1 @r_mul1) (And.intro @r_quo (And.intro @r_rem @r_eqi))) (And.intro (And.intro @r_nei @r_lti) (And.intro @r_lei (And.intro @r_gti @r_gei))))) (And.intro (And.intro (And.intro (And.intro @r_eqb @r_neb) (And.intro @r_eqn (And.intro @r_nen @r_eqe))) (And.intro (And.intro @r_nee @r_adds) (And.intro @r_eqs (And.intro @r_nes @r_lts)))) (And.intro (And.intro (And.intro @r_gts @r_les) (And.intro @r_ges (And.intro @r_qa @r_nt))) (And.intro (And.intro @r_nt1 @r_ng) (And.intro @r_ng1 (And.intro @r_cv @r_cv1))))))
set_option linter.defProp false in
def EV2 := (And.intro (And.intro (And.intro (And.intro (And.intro @r_cv2 @r_cv3) (And.intro @r_cv4 (And.intro @r_mf @r_mf1))) (And.intro (And.intro @r_ln @r_ln1) (And.intro @r_ln2 (And.intro @r_ln3 @r_lg)))) (And.intro (And.intro (And.intro @r_lg1 @r_la) (And.intro @r_mm (And.intro @r_mm1 @r_mm2))) (And.intro (And.intro @r_pk @r_pkt) (And.intro @r_pkf (And.intro @r_op3 @r_xt))))) (And.intro (And.intro (And.intro (And.intro @r_xt1 @r_nc) (And.intro @r_nc1 (And.intro @r_nc2 @r_nc3))) (And.intro (And.intro @r_fa @r_fa1) (And.intro @r_fa2 (And.intro @r_fa3 @r_fd)))) (And.intro (And.intro (And.intro @r_fd1 @r_fd2) (And.intro @r_ixn (And.intro @r_ia @r_iae))) (And.intro (And.intro @r_ia1 @r_ia2) (And.intro @r_rde (And.intro @r_rd3 @r_stamp0))))))
set_option linter.defProp false in
def EV3 := (And.intro (And.intro (And.intro (And.intro (And.intro @r_stamp1 @r_iah) (And.intro @r_iah2 (And.intro @r_ia3 @r_ja))) (And.intro (And.intro @r_ja1 @r_ja2) (And.intro @r_ja3 (And.intro @r_ixb @r_ix)))) (And.intro (And.intro (And.intro @r_ix1 @r_jx) (And.intro @r_jx1 (And.intro @r_jx2 @r_pack))) (And.intro (And.intro @r_setOb @r_kill) (And.intro @r_sto (And.intro @r_sset @r_ltr))))) (And.intro (And.intro (And.intro (And.intro @r_lab @r_lae) (And.intro @r_lae2 (And.intro @r_lae3 @r_lmae))) (And.intro (And.intro @r_lmae2 @r_ld) (And.intro @r_ld1 (And.intro @r_ld2 @r_ld3)))) (And.intro (And.intro (And.intro @r_ld4 @r_labm) (And.intro @r_ld5 (And.intro @r_ld6 @r_bn0))) (And.intro (And.intro @r_bn1 @r_sxt) (And.intro @r_sxt2 (And.intro @r_sxt3 @r_sxh))))))
set_option linter.defProp false in
def EV4 := (And.intro (And.intro (And.intro (And.intro (And.intro @r_sxh2 @r_sxh3) (And.intro @r_sx (And.intro @r_sx1 @r_sx2))) (And.intro (And.intro @r_sx3 @r_sst) (And.intro @r_sst2 (And.intro @r_ss @r_ss1)))) (And.intro (And.intro (And.intro @r_sa @r_sa1) (And.intro @r_sby (And.intro @r_sbh @r_sb))) (And.intro (And.intro @r_sb1 @r_sb2) (And.intro @r_sb3 (And.intro @r_kcn @r_kagn))))) (And.intro (And.intro (And.intro (And.intro @r_kfnn @r_khdn) (And.intro @r_sn0 (And.intro @r_sn1 @r_sn2))) (And.intro (And.intro @r_sn3 @r_sn4) (And.intro @r_sn5 (And.intro @r_sn6 @r_sn7)))) (And.intro (And.intro (And.intro @r_sn8 @r_ca) (And.intro @r_ca1 (And.intro @r_cas @r_cas1))) (And.intro (And.intro @r_cay @r_cay1) (And.intro @r_fin (And.intro @r_kfe0 @r_kfe1))))))
set_option linter.defProp false in
def EV5 := (And.intro (And.intro (And.intro (And.intro (And.intro @r_kfe2 @r_kcx) (And.intro @r_exps0 (And.intro @r_exps1 @r_kex))) (And.intro (And.intro @r_exp1 @r_exbc) (And.intro @r_exb1 (And.intro @r_exb2 @r_exp2)))) (And.intro (And.intro (And.intro @r_exc @r_kagx) (And.intro @r_expv1 (And.intro @r_expv2 @r_expv3))) (And.intro (And.intro @r_expv4 @r_expv5) (And.intro @r_expv6 (And.intro @r_expv7 @r_kxc))))) (And.intro (And.intro (And.intro (And.intro @r_expcs0 @r_expcs1) (And.intro @r_expc1 (And.intro @r_expc2 @r_expc3))) (And.intro (And.intro @r_expc4 @r_expc4a) (And.intro @r_expc4b (And.intro @r_expc4c @r_expc4d)))) (And.intro (And.intro (And.intro @r_expc4e @r_expc4f) (And.intro @r_expc5 (And.intro @r_expc6 @r_expc7))) (And.intro (And.intro @r_exh0 @r_exh1) (And.intro @r_fgt (And.intro @r_clean @r_okm1))))))
set_option linter.defProp false in
def EV6 := (And.intro (And.intro (And.intro (And.intro (And.intro @r_okm2 @r_okm2s) (And.intro @r_okm3 (And.intro @r_okm4 @r_okm5))) (And.intro (And.intro @r_okm6 @r_okm7) (And.intro @r_okm8 (And.intro @r_okm9 @r_okm10)))) (And.intro (And.intro (And.intro @r_okm11 @r_okms0) (And.intro @r_okms1 (And.intro @r_okE0 @r_okE1))) (And.intro (And.intro @r_okL0 @r_okL1) (And.intro @r_okL2 (And.intro @r_round1 @r_round2))))) (And.intro (And.intro (And.intro (And.intro @r_round3 @r_st) (And.intro @r_st1 (And.intro @r_st2 @r_stb))) (And.intro (And.intro @r_setAt0 @r_setAt1) (And.intro @r_lows0 (And.intro @r_lows1 @r_low1)))) (And.intro (And.intro (And.intro @r_low2 @r_low3) (And.intro @r_low4 (And.intro @r_low5 @r_low6))) (And.intro (And.intro @r_low7 @r_low8) (And.intro @r_low9 (And.intro @r_low10 @r_kst))))))
set_option linter.defProp false in
def EV7 := (And.intro (And.intro (And.intro (And.intro (And.intro @r_stcs0 @r_stcs1) (And.intro @r_sc1 (And.intro @r_sc3 @r_sc4))) (And.intro (And.intro @r_sc2 @r_sc2a) (And.intro @r_sc2b (And.intro @r_sc2c @r_sc5)))) (And.intro (And.intro (And.intro @r_bw @r_kbw) (And.intro @r_bw1 (And.intro @r_bw2 @r_kmv))) (And.intro (And.intro @r_kmc @r_mvcs0) (And.intro @r_mvcs1 (And.intro @r_mvc1 @r_mvc2))))) (And.intro (And.intro (And.intro (And.intro @r_mvc3 @r_mvc4) (And.intro @r_mv5 (And.intro @r_apgo @r_apx1))) (And.intro (And.intro @r_apx2 @r_aph) (And.intro @r_ap (And.intro @r_ap0 @r_ap1)))) (And.intro (And.intro (And.intro @r_ap0c @r_ap1c) (And.intro @r_kap (And.intro @r_ap0h @r_ap2h))) (And.intro (And.intro @r_ap5 @r_kaps) (And.intro @r_aps (And.intro @r_ap2s @r_snm))))))
set_option linter.defProp false in
def EV8 := (And.intro (And.intro (And.intro (And.intro (And.intro @r_mensm @r_nl) (And.intro @r_nl1 (And.intro @r_nl2 @r_kenv))) (And.intro (And.intro @r_cp @r_cp1) (And.intro @r_sh (And.intro @r_shf @r_shc)))) (And.intro (And.intro (And.intro @r_shg @r_cl) (And.intro @r_clf (And.intro @r_clg @r_srk))) (And.intro (And.intro @r_src1 @r_src2) (And.intro @r_src3 (And.intro @r_cyk @r_cy))))) (And.intro (And.intro (And.intro (And.intro @r_cyf @r_cyg) (And.intro @r_op3n (And.intro @r_chg @r_pts0))) (And.intro (And.intro @r_pts1 @r_ptOs0) (And.intro @r_ptOs1 (And.intro @r_kabn @r_sn9)))) (And.intro (And.intro (And.intro @r_kta @r_snb) (And.intro @r_kct (And.intro @r_ksnc @r_snc0))) (And.intro (And.intro @r_snc1 @r_snct) (And.intro @r_sncc (And.intro @r_ksnh @r_snch))))))
set_option linter.defProp false in
def EV9 := (And.intro (And.intro (And.intro (And.intro (And.intro @r_rep1 @r_cut1) (And.intro @r_scr1 (And.intro @r_unr1 @r_max))) (And.intro (And.intro @r_lt1 @bigN.eq_1) (And.intro @fpart.eq_1 (And.intro @fpart.eq_2 @okp.eq_1)))) (And.intro (And.intro (And.intro @okp.eq_2 @zfill.eq_1) (And.intro @zfill.eq_2 (And.intro @zobs.eq_1 @ptd.eq_1))) (And.intro (And.intro @ptd.eq_2 @keyOf.eq_1) (And.intro @keyOf.eq_2 (And.intro @freshK.eq_1 @freshK.eq_2))))) (And.intro (And.intro (And.intro (And.intro @lk.eq_1 @lk.eq_2) (And.intro @pt.eq_1 (And.intro @pt.eq_2 @lkO.eq_1))) (And.intro (And.intro @lkO.eq_2 @ptO.eq_1) (And.intro @ptO.eq_2 (And.intro @addO.eq_1 @addO.eq_2)))) (And.intro (And.intro (And.intro @xv.eq_1 @xv.eq_2) (And.intro @xv.eq_3 (And.intro @kv.eq_1 @kv.eq_2))) (And.intro (And.intro @kc.eq_1 @kc.eq_2) (And.intro @params.eq_1 (And.intro @params.eq_2 @trv.eq_1))))))
set_option linter.defProp false in
def EV10 := (And.intro (And.intro (And.intro (And.intro (And.intro @trv.eq_2 @List.length_cons.{0}) (And.intro @List.length_nil.{0} (And.intro @Option.getD_some.{0} @Option.getD_none.{0}))) (And.intro (And.intro @true_and @and_true) (And.intro @decide_eq_true_eq (And.intro @decide_true @decide_false)))) (And.intro (And.intro (And.intro @Option.map_some.{0, 0} @Option.map_none.{0, 0}) (And.intro @Option.isSome_some.{0} (And.intro @Option.isSome_none.{0} @Option.isNone_some.{0}))) (And.intro (And.intro @Option.isNone_none.{0} @List.map_cons.{0, 0}) (And.intro @List.map_nil.{0, 0} (And.intro @List.cons_append.{0} @List.nil_append.{0}))))) (And.intro (And.intro (And.intro (And.intro @List.getElem?_cons_zero.{0} @List.getElem?_cons_succ.{0}) (And.intro @List.drop_succ_cons.{0} (And.intro @List.drop_zero.{0} @List.take_succ_cons.{0}))) (And.intro (And.intro @List.take_zero.{0} @List.headD_cons.{0}) (And.intro @List.headD_nil.{0} (And.intro @List.tail_cons.{0} @List.tail_nil.{0})))) (And.intro (And.intro (And.intro @noSh.eq_1 @noSh.eq_2) (And.intro @noSh.eq_3 (And.intro @noSh.eq_4 @noSh.eq_5))) (And.intro (And.intro @noSh.eq_6 @noSh.eq_7) (And.intro @noSh.eq_8 (And.intro @noShs.eq_1 @noShs.eq_2))))))
set_option linter.defProp false in
def EV11 := (And.intro (And.intro (And.intro (And.intro (And.intro @isSc.eq_1 @isSc.eq_2) (And.intro @impv.eq_1 (And.intro @impv.eq_2 @impv.eq_3))) (And.intro (And.intro @impv.eq_4 @impvs.eq_1) (And.intro @impvs.eq_2 (And.intro @impc.eq_1 @impc.eq_2)))) (And.intro (And.intro (And.intro @memB.eq_1 @memB.eq_2) (And.intro @keepB.eq_1 (And.intro @keepB.eq_2 @keepOB.eq_1))) (And.intro (And.intro @keepOB.eq_2 @or_true) (And.intro @true_or (And.intro @or_false @false_or))))) (And.intro (And.intro (And.intro (And.intro @Bool.false_eq_true @Bool.true_eq_false) (And.intro @if_true.{1} (And.intro @if_false.{1} @Bool.not_true))) (And.intro (And.intro @Bool.not_false @scrE.eq_1) (And.intro @scrE.eq_2 (And.intro @scrL.eq_1 @scrL.eq_2)))) (And.intro (And.intro (And.intro @scr.eq_1 @scr.eq_2) (And.intro @scr.eq_3 (And.intro @scr.eq_4 @scr.eq_5))) (And.intro (And.intro @scr.eq_6 @scr.eq_7) (And.intro @scr.eq_8 (And.intro @scrs.eq_1 @scrs.eq_2))))))
set_option linter.defProp false in
def EV12 := (And.intro (And.intro (And.intro (And.intro (And.intro @scrOb.eq_1 @scrOb.eq_2) (And.intro @rmO.eq_1 (And.intro @rmO.eq_2 @Int.toNat_natCast))) (And.intro (And.intro @Int.toNat_zero @Int.toNat_one) (And.intro @List.all_cons.{0} (And.intro @List.all_nil.{0} @isCell.eq_1)))) (And.intro (And.intro (And.intro @isCell.eq_2 @isCell.eq_3) (And.intro @isCell.eq_4 (And.intro @isCell.eq_5 @isCell.eq_6))) (And.intro (And.intro @Bool.and_true @Bool.true_and) (And.intro @Bool.and_self (And.intro @cellsOf.eq_1 @cellsOf.eq_2))))) (And.intro (And.intro (And.intro (And.intro @totr.eq_1 @totr.eq_2) (And.intro @totr.eq_3 (And.intro @totr.eq_4 @totr.eq_5))) (And.intro (And.intro @totrs.eq_1 @totrs.eq_2) (And.intro @tocs.eq_1 (And.intro @getp.eq_1 @getp.eq_2)))) (And.intro (And.intro (And.intro @cvt.eq_1 @cvt.eq_2) (And.intro @cvts.eq_1 (And.intro @cvts.eq_2 @Nat.zero_add))) (And.intro (And.intro @Nat.add_zero @List.set_cons_zero.{0}) (And.intro @List.set_cons_succ.{0} (And.intro @Bool.not_eq_true' @Bool.not_eq_false'))))))
set_option linter.defProp false in
def EV13 := (And.intro (And.intro (And.intro @Int.natCast_nonneg (And.intro @Nat.le_refl @Prod.mk.injEq.{0, 0})) (And.intro @ne_eq.{1} (And.intro @not_false_eq_true @not_true_eq_false))) (And.intro (And.intro @List.length_map.{0, 0} (And.intro @List.length_replicate.{0} @List.replicate_zero.{0})) (And.intro (And.intro @and_false @false_and) (And.intro @and_self @Int.cast_ofNat_Int))))
set_option linter.defProp false in
def EVA := (And.intro (And.intro (And.intro EV0 (And.intro EV1 EV2)) (And.intro (And.intro EV3 EV4) (And.intro EV5 EV6))) (And.intro (And.intro EV7 (And.intro EV8 EV9)) (And.intro (And.intro EV10 EV11) (And.intro EV12 EV13))))
/-! short words for annotated codes -/
abbrev oo (d : Nat) (x : O) : OP := ⟨some d, none, x⟩
abbrev on1 (x : O) : OP := ⟨none, none, x⟩
abbrev og (d j : Nat) (w : Bool) (x : O) : OP := ⟨some d, some (j, w), x⟩
abbrev om (d : Nat) (x : X) : OP := ⟨some d, none, .mv x none⟩
abbrev rg (l : List OP) : C2 := .rg none l
abbrev i6 (n : Int) : X := .k (.int .i64 n)
end Go.Fd

/-
  PLAIN WORDS FOR THE DATA, AND WHAT HOLDS OF THE HELPERS OF THE LAWS THAT ARE ALIKE FOR ALL KINDS OF SLICES. Own work.
-/
namespace Go.Fd
set_option maxRecDepth 10000

theorem ite_of {c : Prop} [Decidable c] {p q : Prop} (h1 : c → p) (h2 : ¬ c → q) : if c then p else q := by
  split
  · exact h1 ‹_›
  · exact h2 ‹_›
/-- How much is left when n is taken from it. -/
def szN (n : Nat) (left : Int) : Int := if left - n < 0 then -1 else left - n
/-- What is left behind the elements of a list. -/
def szF {α : Type} (f : α → Int → Int) : List α → Int → Int
  | [], l => l
  | x :: r, l => if f x l < 0 then -1 else szF f r (f x l)
def szL {α : Type} (f : α → Int → Int) (a : List α) (left : Int) : Int := if left - a.length < 0 then -1 else szF f a (left - a.length)

def sz0 : F2 :=
  { nt := 12, res := [.t 4 [0]], body :=
   (.sq (.rg none [⟨some 4, none, .mv (.k (.int .i64 0)) none⟩])
   (.sq (.rg none [⟨some 5, none, .mv (.t 1) none⟩,
      ⟨some 6, none, .mv (.t 0) none⟩,
      ⟨some 7, none, .ln (.t 6)⟩,
      ⟨some 8, none, .bi .sub 0 (.t 5) (.t 7)⟩,
      ⟨some 1, none, .mv (.t 8) none⟩])
   (.sq (.sq (.rg none [⟨some 9, none, .mv (.t 1) none⟩,
       ⟨some 10, none, .bi .lss 0 (.t 9) (.k (.int .i64 0))⟩])
    (.cd (.t 10) (.sq (.rg none [⟨some 4, none, .mv (.k (.int .i64 (-1))) none⟩])
     (.rt))
    (.sk)))
   (.sq (.rg none [⟨some 11, none, .mv (.t 1) none⟩,
      ⟨some 4, none, .mv (.t 11) none⟩])
   (.rt))))) }
theorem sem_sz0 {P : Program} {fid : FuncId} (hc : chkF P fid sz0 = true) (es : Row) (left : Int) (h : es.length ≤ 9223372036854775807) (h0 : 0 ≤ left) (h1 : left ≤ 1048576) (lvl : Nat) (S : Sto) :
    Sem P fid lvl [.tr (.sl es), iI left] S (iI (szN es.length left)) S := by
  refine sem_of_chk hc trivial ?_
  simp only [sz0, EVA, ↓reduceIte, Nat.reduceEqDiff, Nat.reduceMul, reduceCtorEq, Nat.reduceAdd, Nat.reduceSub, Nat.reduceLeDiff, Nat.reduceLT, Int.reduceToNat, Int.reduceLE, Int.reduceLT, mens, men]
  refine ⟨by rw [fits_i64]; omega, ?_⟩
  unfold szN
  split <;> rfl

def szSl (k : Nat) (m : Option Nat) (fid : FuncId) : F2 :=
  { nt := 27, res := [.t 4 [0]], body :=
   (.sq (.rg none [⟨some 4, none, .mv (.k (.int .i64 0)) none⟩])
   (.sq (.rg none [⟨some 6, none, .mv (.t 1) none⟩,
      ⟨some 7, none, .mv (.t 0) none⟩,
      ⟨some 8, none, .ln (.t 7)⟩,
      ⟨some 9, none, .bi .sub 0 (.t 6) (.t 8)⟩,
      ⟨some 1, none, .mv (.t 9) none⟩])
   (.sq (.sq (.rg none [⟨some 10, none, .mv (.t 1) none⟩,
       ⟨some 11, none, .bi .lss 0 (.t 10) (.k (.int .i64 0))⟩])
    (.cd (.t 11) (.sq (.rg none [⟨some 4, none, .mv (.k (.int .i64 (-1))) none⟩])
     (.rt))
    (.sk)))
   (.sq (.sq (.rg none [⟨some 5, none, .mv (.k (.int .i64 0)) none⟩])
    (.bl 0 (.lp [0, 1, 5] [] (.sq (.sq (.rg none [⟨some 12, none, .mv (.t 5) none⟩,
          ⟨some 13, none, .mv (.t 0) none⟩,
          ⟨some 14, none, .ln (.t 13)⟩,
          ⟨some 15, none, .bi .lss 0 (.t 12) (.t 14)⟩])
       (.cd (.t 15) (.sk)
       (.ex 0)))
      (.sq (.bl 1 (.sq (.rg none [⟨some 18, none, .mv (.t 0) none⟩,
           ⟨some 19, none, .mv (.t 5) none⟩,
           ⟨some 20, none, .ia k (.t 18) (.t 19)⟩,
           ⟨some 21, none, .ld m (.t 20)⟩,
           ⟨some 22, none, .mv (.t 1) none⟩,
           ⟨some 23, none, .ca .pure false (.f fid) [.t 21, .t 22]⟩,
           ⟨some 1, none, .mv (.t 23) none⟩])
        (.sq (.rg none [⟨some 24, none, .mv (.t 1) none⟩,
           ⟨some 25, none, .bi .lss 0 (.t 24) (.k (.int .i64 0))⟩])
        (.cd (.t 25) (.sq (.rg none [⟨some 4, none, .mv (.k (.int .i64 (-1))) none⟩])
         (.rt))
        (.sk)))))
      (.rg none [⟨some 16, none, .mv (.t 5) none⟩,
        ⟨some 17, none, .bi .add 0 (.t 16) (.k (.int .i64 1))⟩,
        ⟨some 5, none, .mv (.t 17) none⟩]))))))
   (.sq (.rg none [⟨some 26, none, .mv (.t 1) none⟩,
      ⟨some 4, none, .mv (.t 26) none⟩])
   (.rt)))))) }
/-- Elements are structs of k cells. -/
theorem sem_szSl {P : Program} {fid fe : FuncId} {k : Nat} (hc : chkF P fid (szSl k (some k) fe) = true) {α : Type} (c : α → List Tr) (f : α → Int → Int) (hk : ∀ x, (c x).length = k) (a : List α) (left : Int) (h : a.length ≤ 9223372036854775807) (h0 : 0 ≤ left) (h1 : left ≤ 1048576)
    (hf : ∀ x ∈ a, ∀ l : Int, 0 ≤ l → l ≤ 1048576 → f x l ≤ l ∧ ∀ lvl S, Sem P fe lvl [.ag ((c x).map .tr), iI l] S (iI (f x l)) S) (lvl : Nat) (S : Sto) :
    Sem P fid lvl [.tr (.sl (a.map c)), iI left] S (iI (szL f a left)) S := by
  refine sem_of_chk hc trivial ?_
  simp only [szSl, List.length_map, EVA, ↓reduceIte, Nat.reduceEqDiff, Nat.reduceMul, reduceCtorEq, Nat.reduceAdd, Nat.reduceSub, Nat.reduceLeDiff, Nat.reduceLT, Int.reduceToNat, Int.reduceLE, Int.reduceLT, mens, men]
  refine ⟨by rw [fits_i64]; omega, ?_⟩
  unfold szL
  split
  · rfl
  · rename_i hlt
    generalize hr : szF f a (left - a.length) = total
    refine wp_count (α := Int) a.length (fun j l => ⟨lvl, [(0, .tr (.sl (a.map c))), (1, iI l), (5, iI j)], [], S⟩) (fun j l => 0 ≤ l ∧ l ≤ 1048576 ∧ szF f (a.drop j) l = total) (left - a.length) ⟨by simp only [EVA, ↓reduceIte, Nat.reduceEqDiff, Nat.reduceMul, reduceCtorEq, Nat.reduceAdd, Nat.reduceSub, Nat.reduceLeDiff, Nat.reduceLT, Int.reduceToNat, Int.reduceLE, Int.reduceLT, mens, men], by (simp only [EVA, ↓reduceIte, Nat.reduceEqDiff, Nat.reduceMul, reduceCtorEq, Nat.reduceAdd, Nat.reduceSub, Nat.reduceLeDiff, Nat.reduceLT, Int.reduceToNat, Int.reduceLE, Int.reduceLT, mens, men]) <;> rfl⟩ ⟨by omega, by omega, hr⟩ ?_
    intro j l hj ⟨hl0, hl1, hl⟩
    simp only [List.length_map, EVA, ↓reduceIte, Nat.reduceEqDiff, Nat.reduceMul, reduceCtorEq, Nat.reduceAdd, Nat.reduceSub, Nat.reduceLeDiff, Nat.reduceLT, Int.reduceToNat, Int.reduceLE, Int.reduceLT, mens, men]
    split
    · rename_i hlt
      have hja : j < a.length := by omega
      have ga : (a.map c)[j]? = some (c a[j]) := by simp [hja]
      have hkk := hk a[j]
      have htk : (c a[j]).take k = c a[j] := List.take_of_length_le (by omega)
      rw [List.drop_eq_getElem_cons hja] at hl
      obtain ⟨hle, hsem⟩ := hf a[j] (List.getElem_mem hja) l hl0 hl1
      simp only [ga, hkk, htk, Int.natCast_nonneg, Nat.le_refl, EVA, ↓reduceIte, Nat.reduceEqDiff, Nat.reduceMul, reduceCtorEq, Nat.reduceAdd, Nat.reduceSub, Nat.reduceLeDiff, Nat.reduceLT, Int.reduceToNat, Int.reduceLE, Int.reduceLT, mens, men]
      refine kca_intro hsem ?_
      simp only [EVA, ↓reduceIte, Nat.reduceEqDiff, Nat.reduceMul, reduceCtorEq, Nat.reduceAdd, Nat.reduceSub, Nat.reduceLeDiff, Nat.reduceLT, Int.reduceToNat, Int.reduceLE, Int.reduceLT, mens, men]
      split
      · rename_i hneg
        simp only [szF, if_pos hneg] at hl
        rw [hl]
      · rename_i hneg
        simp only [szF, if_neg hneg] at hl
        refine ⟨by rw [fits_i64]; omega, cntJ_intro (f a[j] l) hja rfl ⟨by omega, by omega, hl⟩⟩
    · rename_i hge
      have : j = a.length := by omega
      subst this
      simp only [List.drop_length, szF] at hl
      rw [hl]

/-- Two slices of structs of k cells. -/
def eqSl (k : Nat) (m : Option Nat) (fid : FuncId) : F2 :=
  { nt := 27, res := [.t 4 [0]], body :=
   (.sq (.rg none [⟨some 4, none, .mv (.k (.bool false)) none⟩])
   (.sq (.sq (.rg none [⟨some 6, none, .mv (.t 0) none⟩,
       ⟨some 7, none, .ln (.t 6)⟩,
       ⟨some 8, none, .mv (.t 1) none⟩,
       ⟨some 9, none, .ln (.t 8)⟩,
       ⟨some 10, none, .bi .neq 0 (.t 7) (.t 9)⟩])
    (.cd (.t 10) (.sq (.rg none [⟨some 4, none, .mv (.k (.bool false)) none⟩])
     (.rt))
    (.sk)))
   (.sq (.sq (.rg none [⟨some 5, none, .mv (.k (.int .i64 0)) none⟩])
    (.bl 0 (.lp [0, 1, 5] [] (.sq (.sq (.rg none [⟨some 11, none, .mv (.t 5) none⟩,
          ⟨some 12, none, .mv (.t 0) none⟩,
          ⟨some 13, none, .ln (.t 12)⟩,
          ⟨some 14, none, .bi .lss 0 (.t 11) (.t 13)⟩])
       (.cd (.t 14) (.sk)
       (.ex 0)))
      (.sq (.bl 1 (.sq (.rg (some 0) [⟨some 17, none, .mv (.t 0) none⟩,
           ⟨some 18, none, .mv (.t 5) none⟩,
           ⟨some 19, none, .ia k (.t 17) (.t 18)⟩,
           ⟨some 20, none, .ld m (.t 19)⟩,
           ⟨some 21, none, .mv (.t 1) none⟩,
           ⟨some 22, none, .mv (.t 5) none⟩,
           ⟨some 23, none, .ia k (.t 21) (.t 22)⟩,
           ⟨some 24, none, .ld m (.t 23)⟩,
           ⟨some 25, none, .ca .pure false (.f fid) [.t 20, .t 24]⟩,
           ⟨some 26, none, .nt (.t 25)⟩])
        (.cd (.t 26) (.sq (.rg none [⟨some 4, none, .mv (.k (.bool false)) none⟩])
         (.rt))
        (.sk))))
      (.rg none [⟨some 15, none, .mv (.t 5) none⟩,
        ⟨some 16, none, .bi .add 0 (.t 15) (.k (.int .i64 1))⟩,
        ⟨some 5, none, .mv (.t 16) none⟩]))))))
   (.sq (.rg none [⟨some 4, none, .mv (.k (.bool true)) none⟩])
   (.rt))))) }
theorem list_ne_at {α : Type} {a b : List α} {j : Nat} (ha : j < a.length) (hb : j < b.length) (h : a[j] ≠ b[j]) : a ≠ b := by
  intro e; subst e; exact h rfl
theorem list_eq_all {α : Type} {a b : List α} (hl : a.length = b.length) (h : a.take a.length = b.take a.length) : a = b := by
  rw [List.take_length, hl, List.take_length] at h; exact h
theorem take_succ_eq {α : Type} {a b : List α} {j : Nat} (ha : j < a.length) (hb : j < b.length) (h : a.take j = b.take j) (e : a[j] = b[j]) : a.take (j + 1) = b.take (j + 1) := by
  rw [List.take_succ_eq_append_getElem ha, List.take_succ_eq_append_getElem hb, h, e]
theorem sem_eqSl {P : Program} {fid fe : FuncId} {k : Nat} (hc : chkF P fid (eqSl k (some k) fe) = true) {α : Type} [DecidableEq α] (c : α → List Tr) (hk : ∀ x, (c x).length = k) (a b : List α) (ha : a.length ≤ 9223372036854775807)
    (hf : ∀ x ∈ a, ∀ y ∈ b, ∀ lvl S, Sem P fe lvl [.ag ((c x).map .tr), .ag ((c y).map .tr)] S (iB (decide (x = y))) S) (lvl : Nat) (S : Sto) :
    Sem P fid lvl [.tr (.sl (a.map c)), .tr (.sl (b.map c))] S (iB (decide (a = b))) S := by
  refine sem_of_chk hc trivial ?_
  simp only [eqSl, List.length_map, EVA, ↓reduceIte, Nat.reduceEqDiff, Nat.reduceMul, reduceCtorEq, Nat.reduceAdd, Nat.reduceSub, Nat.reduceLeDiff, Nat.reduceLT, Int.reduceToNat, Int.reduceLE, Int.reduceLT, mens, men]
  split
  · rename_i h
    have : ¬ a = b := fun e => h (by rw [e])
    simp [this]
  · rename_i h
    have hlen : a.length = b.length := by omega
    refine wp_count (α := Unit) a.length (fun j _ => ⟨lvl, [(0, .tr (.sl (a.map c))), (1, .tr (.sl (b.map c))), (5, iI j)], [], S⟩) (fun j _ => a.take j = b.take j) () ⟨by simp only [EVA, ↓reduceIte, Nat.reduceEqDiff, Nat.reduceMul, reduceCtorEq, Nat.reduceAdd, Nat.reduceSub, Nat.reduceLeDiff, Nat.reduceLT, Int.reduceToNat, Int.reduceLE, Int.reduceLT, mens, men], by (simp only [EVA, ↓reduceIte, Nat.reduceEqDiff, Nat.reduceMul, reduceCtorEq, Nat.reduceAdd, Nat.reduceSub, Nat.reduceLeDiff, Nat.reduceLT, Int.reduceToNat, Int.reduceLE, Int.reduceLT, mens, men]) <;> rfl⟩ rfl ?_
    intro j _ hj hA
    simp only [List.length_map, EVA, ↓reduceIte, Nat.reduceEqDiff, Nat.reduceMul, reduceCtorEq, Nat.reduceAdd, Nat.reduceSub, Nat.reduceLeDiff, Nat.reduceLT, Int.reduceToNat, Int.reduceLE, Int.reduceLT, mens, men]
    split
    · rename_i hlt
      have hja : j < a.length := by omega
      have hjb : j < b.length := by omega
      have ga : (a.map c)[j]? = some (c a[j]) := by simp [hja]
      have gb : (b.map c)[j]? = some (c b[j]) := by simp [hjb]
      have hka := hk a[j]
      have hkb := hk b[j]
      have hta : (c a[j]).take k = c a[j] := List.take_of_length_le (by omega)
      have htb : (c b[j]).take k = c b[j] := List.take_of_length_le (by omega)
      have hsem := hf a[j] (List.getElem_mem hja) b[j] (List.getElem_mem hjb)
      simp only [ga, gb, hka, hkb, hta, htb, Int.natCast_nonneg, Nat.le_refl, EVA, ↓reduceIte, Nat.reduceEqDiff, Nat.reduceMul, reduceCtorEq, Nat.reduceAdd, Nat.reduceSub, Nat.reduceLeDiff, Nat.reduceLT, Int.reduceToNat, Int.reduceLE, Int.reduceLT, mens, men]
      refine kca_intro hsem ?_
      simp only [Bool.not_eq_true', EVA, ↓reduceIte, Nat.reduceEqDiff, Nat.reduceMul, reduceCtorEq, Nat.reduceAdd, Nat.reduceSub, Nat.reduceLeDiff, Nat.reduceLT, Int.reduceToNat, Int.reduceLE, Int.reduceLT, mens, men]
      split
      · rename_i hne
        have : ¬ a = b := list_ne_at hja hjb (by simpa using hne)
        simp [this]
      · rename_i he
        refine ⟨by rw [fits_i64]; omega, cntJ_intro () hja rfl (take_succ_eq hja hjb hA (by simpa using he))⟩
    · rename_i hge
      have : j = a.length := by omega
      subst this
      have : a = b := list_eq_all hlen hA
      simp [this]
/-- Two slices of cells that are compared by the machine. -/
def eqS1 : F2 :=
  { nt := 26, res := [.t 4 [0]], body :=
   (.sq (.rg none [⟨some 4, none, .mv (.k (.bool false)) none⟩])
   (.sq (.sq (.rg none [⟨some 6, none, .mv (.t 0) none⟩,
       ⟨some 7, none, .ln (.t 6)⟩,
       ⟨some 8, none, .mv (.t 1) none⟩,
       ⟨some 9, none, .ln (.t 8)⟩,
       ⟨some 10, none, .bi .neq 0 (.t 7) (.t 9)⟩])
    (.cd (.t 10) (.sq (.rg none [⟨some 4, none, .mv (.k (.bool false)) none⟩])
     (.rt))
    (.sk)))
   (.sq (.sq (.rg none [⟨some 5, none, .mv (.k (.int .i64 0)) none⟩])
    (.bl 0 (.lp [0, 1, 5] [] (.sq (.sq (.rg none [⟨some 11, none, .mv (.t 5) none⟩,
          ⟨some 12, none, .mv (.t 0) none⟩,
          ⟨some 13, none, .ln (.t 12)⟩,
          ⟨some 14, none, .bi .lss 0 (.t 11) (.t 13)⟩])
       (.cd (.t 14) (.sk)
       (.ex 0)))
      (.sq (.bl 1 (.sq (.rg (some 0) [⟨some 17, none, .mv (.t 0) none⟩,
           ⟨some 18, none, .mv (.t 5) none⟩,
           ⟨some 19, none, .ia 1 (.t 17) (.t 18)⟩,
           ⟨some 20, none, .ld none (.t 19)⟩,
           ⟨some 21, none, .mv (.t 1) none⟩,
           ⟨some 22, none, .mv (.t 5) none⟩,
           ⟨some 23, none, .ia 1 (.t 21) (.t 22)⟩,
           ⟨some 24, none, .ld none (.t 23)⟩,
           ⟨some 25, none, .bi .neq 0 (.t 20) (.t 24)⟩])
        (.cd (.t 25) (.sq (.rg none [⟨some 4, none, .mv (.k (.bool false)) none⟩])
         (.rt))
        (.sk))))
      (.rg none [⟨some 15, none, .mv (.t 5) none⟩,
        ⟨some 16, none, .bi .add 0 (.t 15) (.k (.int .i64 1))⟩,
        ⟨some 5, none, .mv (.t 16) none⟩]))))))
   (.sq (.rg none [⟨some 4, none, .mv (.k (.bool true)) none⟩])
   (.rt))))) }
theorem sem_eqI {P : Program} {fid : FuncId} (hc : chkF P fid eqS1 = true) (a b : List Int) (ha : a.length ≤ 9223372036854775807) (lvl : Nat) (S : Sto) : Sem P fid lvl [tI a, tI b] S (iB (decide (a = b))) S := by
  refine sem_of_chk hc trivial ?_
  simp only [eqS1, List.length_map, EVA, ↓reduceIte, Nat.reduceEqDiff, Nat.reduceMul, reduceCtorEq, Nat.reduceAdd, Nat.reduceSub, Nat.reduceLeDiff, Nat.reduceLT, Int.reduceToNat, Int.reduceLE, Int.reduceLT, mens, men]
  split
  · rename_i h
    have : ¬ a = b := fun e => h (by rw [e])
    simp [this]
  · rename_i h
    have hlen : a.length = b.length := by omega
    refine wp_count (α := Unit) a.length (fun j _ => ⟨lvl, [(0, tI a), (1, tI b), (5, iI j)], [], S⟩) (fun j _ => a.take j = b.take j) () ⟨by simp only [EVA, ↓reduceIte, Nat.reduceEqDiff, Nat.reduceMul, reduceCtorEq, Nat.reduceAdd, Nat.reduceSub, Nat.reduceLeDiff, Nat.reduceLT, Int.reduceToNat, Int.reduceLE, Int.reduceLT, mens, men], by (simp only [EVA, ↓reduceIte, Nat.reduceEqDiff, Nat.reduceMul, reduceCtorEq, Nat.reduceAdd, Nat.reduceSub, Nat.reduceLeDiff, Nat.reduceLT, Int.reduceToNat, Int.reduceLE, Int.reduceLT, mens, men]) <;> rfl⟩ rfl ?_
    intro j _ hj hA
    simp only [List.length_map, EVA, ↓reduceIte, Nat.reduceEqDiff, Nat.reduceMul, reduceCtorEq, Nat.reduceAdd, Nat.reduceSub, Nat.reduceLeDiff, Nat.reduceLT, Int.reduceToNat, Int.reduceLE, Int.reduceLT, mens, men]
    split
    · rename_i hlt
      have hja : j < a.length := by omega
      have hjb : j < b.length := by omega
      have ga : (rI a)[j]? = some [tv a[j]] := by simp [hja]
      have gb : (rI b)[j]? = some [tv b[j]] := by simp [hjb]
      simp only [ga, gb, Int.natCast_nonneg, Nat.le_refl, EVA, ↓reduceIte, Nat.reduceEqDiff, Nat.reduceMul, reduceCtorEq, Nat.reduceAdd, Nat.reduceSub, Nat.reduceLeDiff, Nat.reduceLT, Int.reduceToNat, Int.reduceLE, Int.reduceLT, mens, men]
      split
      · rename_i hne
        have : ¬ a = b := list_ne_at hja hjb (by simpa using hne)
        simp [this]
      · rename_i he
        refine ⟨by rw [fits_i64]; omega, cntJ_intro () hja rfl (take_succ_eq hja hjb hA (by simpa using he))⟩
    · rename_i hge
      have : j = a.length := by omega
      subst this
      have : a = b := list_eq_all hlen hA
      simp [this]
/-! ## a new slice, filled element by element -/
/-- The first j elements, the rest zero. -/
def filled {α : Type} (c : α → List Tr) (z : List Tr) (a : List α) (j : Nat) : Row := (a.take j).map c ++ List.replicate (a.length - j) z
theorem filled_zero {α : Type} (c : α → List Tr) (z : List Tr) (a : List α) : filled c z a 0 = List.replicate a.length z := by simp [filled]
theorem filled_all {α : Type} (c : α → List Tr) (z : List Tr) (a : List α) : filled c z a a.length = a.map c := by simp [filled]
theorem filled_length {α : Type} {c : α → List Tr} {z : List Tr} {a : List α} {j : Nat} (h : j ≤ a.length) : (filled c z a j).length = a.length := by
  simp [filled]; omega
theorem filled_get {α : Type} {c : α → List Tr} {z : List Tr} {a : List α} {j : Nat} (h : j < a.length) : (filled c z a j)[j]? = some z := by
  unfold filled
  have h1 : ((a.take j).map c).length = j := by rw [List.length_map, List.length_take]; omega
  rw [List.getElem?_append_right (by omega), h1, Nat.sub_self, List.getElem?_replicate]
  rw [if_pos (by omega)]
theorem filled_set {α : Type} {c : α → List Tr} {z e : List Tr} {a : List α} {j : Nat} (h : j < a.length) (he : e = c a[j]) : (filled c z a j).set j e = filled c z a (j + 1) := by
  subst he
  unfold filled
  have h1 : ((a.take j).map c).length = j := by simp; omega
  rw [List.set_append_right _ _ (by omega), h1, Nat.sub_self, show a.length - j = (a.length - (j + 1)) + 1 from by omega, List.replicate_succ, List.set_cons_zero, List.take_succ_eq_append_getElem h, List.map_append]
  simp
def toS1 (z : Value) : F2 :=
  { nt := 22, res := [.t 2 [2]], body :=
   (.sq (.rg none [⟨some 2, none, .mv (.k (.slice none 0 0)) none⟩])
   (.sq (.rg none [⟨some 5, none, .mv (.t 0) none⟩,
      ⟨some 6, none, .ln (.t 5)⟩,
      ⟨some 7, none, .ms 1 [z] (.t 6)⟩,
      ⟨some 3, none, .mv (.t 7) none⟩])
   (.sq (.sq (.rg none [⟨some 4, none, .mv (.k (.int .i64 0)) none⟩])
    (.bl 0 (.lp [0, 3, 4] [224] (.sq (.sq (.rg none [⟨some 8, none, .mv (.t 4) none⟩,
          ⟨some 9, none, .mv (.t 0) none⟩,
          ⟨some 10, none, .ln (.t 9)⟩,
          ⟨some 11, none, .bi .lss 0 (.t 8) (.t 10)⟩])
       (.cd (.t 11) (.sk)
       (.ex 0)))
      (.sq (.bl 1 (.rg none [⟨some 14, none, .mv (.t 3) none⟩,
          ⟨some 15, none, .mv (.t 4) none⟩,
          ⟨some 16, none, .mv (.t 0) none⟩,
          ⟨some 17, none, .mv (.t 4) none⟩,
          ⟨some 18, none, .ia 1 (.t 16) (.t 17)⟩,
          ⟨some 19, none, .ld none (.t 18)⟩,
          ⟨some 20, none, .ia 1 (.t 14) (.t 15)⟩,
          ⟨none, none, .st 1 (.t 20) (.t 19)⟩]))
      (.rg none [⟨some 12, none, .mv (.t 4) none⟩,
        ⟨some 13, none, .bi .add 0 (.t 12) (.k (.int .i64 1))⟩,
        ⟨some 4, none, .mv (.t 13) none⟩]))))))
   (.sq (.rg none [⟨some 21, none, .mv (.t 3) none⟩,
      ⟨some 2, none, .mv (.t 21) none⟩])
   (.rt))))) }
theorem sem_toI {P : Program} {fid : FuncId} (hc : chkF P fid (toS1 (.int .i64 0)) = true) (a : List Int) (ha : a.length ≤ 4294967296) (lvl : Nat) (S : Sto) : Sem P fid lvl [tI a] S (.ow 1 (rI a) true) S := by
  refine sem_of_chk hc trivial ?_
  simp only [toS1, List.length_map, bigN, Int.natCast_nonneg, EVA, ↓reduceIte, Nat.reduceEqDiff, Nat.reduceMul, reduceCtorEq, Nat.reduceAdd, Nat.reduceSub, Nat.reduceLeDiff, Nat.reduceLT, Int.reduceToNat, Int.reduceLE, Int.reduceLT, mens, men]
  refine ⟨by omega, ?_⟩
  refine wp_count (α := Unit) a.length (fun j _ => ⟨lvl, [(0, tI a), (3, .hd (lvl, 224) [] 0 a.length none a.length), (4, iI j)], [(224, .ar 1 (filled (fun n => [tv n]) [tv 0] a j) true a.length 0)], S⟩) (fun _ _ => True) () ⟨by simp only [EVA, ↓reduceIte, Nat.reduceEqDiff, Nat.reduceMul, reduceCtorEq, Nat.reduceAdd, Nat.reduceSub, Nat.reduceLeDiff, Nat.reduceLT, Int.reduceToNat, Int.reduceLE, Int.reduceLT, mens, men], by (simp only [filled_zero, EVA, ↓reduceIte, Nat.reduceEqDiff, Nat.reduceMul, reduceCtorEq, Nat.reduceAdd, Nat.reduceSub, Nat.reduceLeDiff, Nat.reduceLT, Int.reduceToNat, Int.reduceLE, Int.reduceLT, mens, men]) <;> rfl⟩ trivial ?_
  intro j _ hj _
  simp only [List.length_map, EVA, ↓reduceIte, Nat.reduceEqDiff, Nat.reduceMul, reduceCtorEq, Nat.reduceAdd, Nat.reduceSub, Nat.reduceLeDiff, Nat.reduceLT, Int.reduceToNat, Int.reduceLE, Int.reduceLT, mens, men]
  split
  · rename_i hlt
    have hja : j < a.length := by omega
    have ga : (rI a)[j]? = some [tv a[j]] := by simp [hja]
    have gz : (filled (fun n => [tv n]) [tv 0] a j)[j]? = some [tv 0] := filled_get hja
    simp only [ga, gz, Int.natCast_nonneg, Nat.le_refl, hja, setp, List.set_cons_zero, r_setOb, EVA, ↓reduceIte, Nat.reduceEqDiff, Nat.reduceMul, reduceCtorEq, Nat.reduceAdd, Nat.reduceSub, Nat.reduceLeDiff, Nat.reduceLT, Int.reduceToNat, Int.reduceLE, Int.reduceLT, mens, men]
    refine ⟨by rw [fits_i64]; omega, cntJ_intro () hja ?_ trivial⟩
    rw [filled_set hja rfl]
    rfl
  · rename_i hge
    have : j = a.length := by omega
    subst this
    rw [filled_all]
    simp
end Go.Fd

/-
  THE LAWS' HELPERS AT SLICES WHOSE ELEMENTS ARE ONE CELL. Own work.
-/
namespace Go.Fd
set_option maxRecDepth 10000
theorem sem_szS1 {P : Program} {fid fe : FuncId} (hc : chkF P fid (szSl 1 none fe) = true) {α : Type} (t : α → Tr) (f : α → Int → Int) (a : List α) (left : Int) (h : a.length ≤ 9223372036854775807) (h0 : 0 ≤ left) (h1 : left ≤ 1048576)
    (hf : ∀ x ∈ a, ∀ l : Int, 0 ≤ l → l ≤ 1048576 → f x l ≤ l ∧ ∀ lvl S, Sem P fe lvl [.tr (t x), iI l] S (iI (f x l)) S) (lvl : Nat) (S : Sto) :
    Sem P fid lvl [.tr (.sl (a.map fun x => [t x])), iI left] S (iI (szL f a left)) S := by
  refine sem_of_chk hc trivial ?_
  simp only [szSl, List.length_map, EVA, ↓reduceIte, Nat.reduceEqDiff, Nat.reduceMul, reduceCtorEq, Nat.reduceAdd, Nat.reduceSub, Nat.reduceLeDiff, Nat.reduceLT, Int.reduceToNat, Int.reduceLE, Int.reduceLT, mens, men]
  refine ⟨by rw [fits_i64]; omega, ?_⟩
  unfold szL
  split
  · rfl
  · rename_i hlt
    generalize hr : szF f a (left - a.length) = total
    refine wp_count (α := Int) a.length (fun j l => ⟨lvl, [(0, .tr (.sl (a.map fun x => [t x]))), (1, iI l), (5, iI j)], [], S⟩) (fun j l => 0 ≤ l ∧ l ≤ 1048576 ∧ szF f (a.drop j) l = total) (left - a.length) ⟨by simp only [EVA, ↓reduceIte, Nat.reduceEqDiff, Nat.reduceMul, reduceCtorEq, Nat.reduceAdd, Nat.reduceSub, Nat.reduceLeDiff, Nat.reduceLT, Int.reduceToNat, Int.reduceLE, Int.reduceLT, mens, men], by (simp only [EVA, ↓reduceIte, Nat.reduceEqDiff, Nat.reduceMul, reduceCtorEq, Nat.reduceAdd, Nat.reduceSub, Nat.reduceLeDiff, Nat.reduceLT, Int.reduceToNat, Int.reduceLE, Int.reduceLT, mens, men]) <;> rfl⟩ ⟨by omega, by omega, hr⟩ ?_
    intro j l hj ⟨hl0, hl1, hl⟩
    simp only [List.length_map, EVA, ↓reduceIte, Nat.reduceEqDiff, Nat.reduceMul, reduceCtorEq, Nat.reduceAdd, Nat.reduceSub, Nat.reduceLeDiff, Nat.reduceLT, Int.reduceToNat, Int.reduceLE, Int.reduceLT, mens, men]
    split
    · rename_i hlt
      have hja : j < a.length := by omega
      have ga : (a.map fun x => [t x])[j]? = some [t a[j]] := by simp [hja]
      rw [List.drop_eq_getElem_cons hja] at hl
      obtain ⟨hle, hsem⟩ := hf a[j] (List.getElem_mem hja) l hl0 hl1
      simp only [ga, Int.natCast_nonneg, Nat.le_refl, EVA, ↓reduceIte, Nat.reduceEqDiff, Nat.reduceMul, reduceCtorEq, Nat.reduceAdd, Nat.reduceSub, Nat.reduceLeDiff, Nat.reduceLT, Int.reduceToNat, Int.reduceLE, Int.reduceLT, mens, men]
      refine kca_intro hsem ?_
      simp only [EVA, ↓reduceIte, Nat.reduceEqDiff, Nat.reduceMul, reduceCtorEq, Nat.reduceAdd, Nat.reduceSub, Nat.reduceLeDiff, Nat.reduceLT, Int.reduceToNat, Int.reduceLE, Int.reduceLT, mens, men]
      split
      · rename_i hneg
        simp only [szF, if_pos hneg] at hl
        rw [hl]
      · rename_i hneg
        simp only [szF, if_neg hneg] at hl
        refine ⟨by rw [fits_i64]; omega, cntJ_intro (f a[j] l) hja rfl ⟨by omega, by omega, hl⟩⟩
    · rename_i hge
      have : j = a.length := by omega
      subst this
      simp only [List.drop_length, szF] at hl
      rw [hl]
theorem sem_eqSl1 {P : Program} {fid fe : FuncId} (hc : chkF P fid (eqSl 1 none fe) = true) {α : Type} [DecidableEq α] (t : α → Tr) (a b : List α) (ha : a.length ≤ 9223372036854775807)
    (hf : ∀ x ∈ a, ∀ y ∈ b, ∀ lvl S, Sem P fe lvl [.tr (t x), .tr (t y)] S (iB (decide (x = y))) S) (lvl : Nat) (S : Sto) :
    Sem P fid lvl [.tr (.sl (a.map fun x => [t x])), .tr (.sl (b.map fun x => [t x]))] S (iB (decide (a = b))) S := by
  refine sem_of_chk hc trivial ?_
  simp only [eqSl, List.length_map, EVA, ↓reduceIte, Nat.reduceEqDiff, Nat.reduceMul, reduceCtorEq, Nat.reduceAdd, Nat.reduceSub, Nat.reduceLeDiff, Nat.reduceLT, Int.reduceToNat, Int.reduceLE, Int.reduceLT, mens, men]
  split
  · rename_i h
    have : ¬ a = b := fun e => h (by rw [e])
    simp [this]
  · rename_i h
    have hlen : a.length = b.length := by omega
    refine wp_count (α := Unit) a.length (fun j _ => ⟨lvl, [(0, .tr (.sl (a.map fun x => [t x]))), (1, .tr (.sl (b.map fun x => [t x]))), (5, iI j)], [], S⟩) (fun j _ => a.take j = b.take j) () ⟨by simp only [EVA, ↓reduceIte, Nat.reduceEqDiff, Nat.reduceMul, reduceCtorEq, Nat.reduceAdd, Nat.reduceSub, Nat.reduceLeDiff, Nat.reduceLT, Int.reduceToNat, Int.reduceLE, Int.reduceLT, mens, men], by (simp only [EVA, ↓reduceIte, Nat.reduceEqDiff, Nat.reduceMul, reduceCtorEq, Nat.reduceAdd, Nat.reduceSub, Nat.reduceLeDiff, Nat.reduceLT, Int.reduceToNat, Int.reduceLE, Int.reduceLT, mens, men]) <;> rfl⟩ rfl ?_
    intro j _ hj hA
    simp only [List.length_map, EVA, ↓reduceIte, Nat.reduceEqDiff, Nat.reduceMul, reduceCtorEq, Nat.reduceAdd, Nat.reduceSub, Nat.reduceLeDiff, Nat.reduceLT, Int.reduceToNat, Int.reduceLE, Int.reduceLT, mens, men]
    split
    · rename_i hlt
      have hja : j < a.length := by omega
      have hjb : j < b.length := by omega
      have ga : (a.map fun x => [t x])[j]? = some [t a[j]] := by simp [hja]
      have gb : (b.map fun x => [t x])[j]? = some [t b[j]] := by simp [hjb]
      have hsem := hf a[j] (List.getElem_mem hja) b[j] (List.getElem_mem hjb)
      simp only [ga, gb, Int.natCast_nonneg, Nat.le_refl, EVA, ↓reduceIte, Nat.reduceEqDiff, Nat.reduceMul, reduceCtorEq, Nat.reduceAdd, Nat.reduceSub, Nat.reduceLeDiff, Nat.reduceLT, Int.reduceToNat, Int.reduceLE, Int.reduceLT, mens, men]
      refine kca_intro hsem ?_
      simp only [Bool.not_eq_true', EVA, ↓reduceIte, Nat.reduceEqDiff, Nat.reduceMul, reduceCtorEq, Nat.reduceAdd, Nat.reduceSub, Nat.reduceLeDiff, Nat.reduceLT, Int.reduceToNat, Int.reduceLE, Int.reduceLT, mens, men]
      split
      · rename_i hne
        have : ¬ a = b := list_ne_at hja hjb (by simpa using hne)
        simp [this]
      · rename_i he
        refine ⟨by rw [fits_i64]; omega, cntJ_intro () hja rfl (take_succ_eq hja hjb hA (by simpa using he))⟩
    · rename_i hge
      have : j = a.length := by omega
      subst this
      have : a = b := list_eq_all hlen hA
      simp [this]
end Go.Fd

/-
  FOUNDATION 49: rows at a path; functions that mark what they are handed. Own work.
-/
namespace Go.Fd

/-! ## marking -/
section mark
variable {α : Type} (m : α → Int → α) (n : α → Nat)
def mL : List α → Int → List α
  | [], _ => []
  | x :: r, k => m x k :: mL r (k + n x)
theorem mL_length : ∀ (a : List α) (k : Int), (mL m n a k).length = a.length
  | [], _ => rfl
  | x :: r, k => by simp only [mL, List.length_cons, mL_length r]
end mark
end Go.Fd

/-
  HOW MANY MARKS A THING TAKES, AGAINST ITS SIZE. Own work.
-/
namespace Go.Fd
/-- On, if something is left. -/
def szTh (l : Int) (g : Int → Int) : Int := if l < 0 then -1 else g l
end Go.Fd

/-
  THE DATA OF THE LAWS: plain types, how they lie in memory (printed by lawgen.py). Own work.
-/
namespace Go.Fd
set_option maxRecDepth 10000
def cA2 (x : (Int × Int)) : List Tr := [tv x.1, tv x.2]
structure TSorting where
  tops : (List Int)
  nest : (List (List Int))
  sorts : (List (List Int))
  most : (List Int)
  apart : (List (Int × Int))
  deriving DecidableEq
def cSorting (x : TSorting) : List Tr := [.sl (rI x.tops), .sl (x.nest.map (fun l => [Tr.sl (rI l)])), .sl (x.sorts.map (fun l => [Tr.sl (rI l)])), .sl (rI x.most), .sl (x.apart.map cA2)]
def oSorting (x : TSorting) : IV := .ag [.ow 1 (rI x.tops) true, .ow 1 (x.nest.map (fun l => [Tr.sl (rI l)])) true, .ow 1 (x.sorts.map (fun l => [Tr.sl (rI l)])) true, .ow 1 (rI x.most) true, .ow 2 (x.apart.map cA2) true]
def bdSorting (n : Nat) (x : TSorting) : Prop := x.tops.length ≤ n ∧ x.nest.length ≤ n ∧ (∀ y ∈ x.nest, y.length ≤ n) ∧ x.sorts.length ≤ n ∧ (∀ y ∈ x.sorts, y.length ≤ n) ∧ x.most.length ≤ n ∧ x.apart.length ≤ n
def ftSorting (x : TSorting) : Prop := (∀ y ∈ x.tops, fits .i64 y) ∧ (∀ y ∈ x.nest, (∀ yy ∈ y, fits .i64 yy)) ∧ (∀ y ∈ x.sorts, (∀ yy ∈ y, fits .i64 yy)) ∧ (∀ y ∈ x.most, fits .i64 y) ∧ (∀ y ∈ x.apart, fits .i64 y.1 ∧ fits .i64 y.2)
def szSorting (x : TSorting) (l : Int) : Int := szTh (szN x.tops.length l) fun l => szTh (szL (fun x m => (szN x.length m)) x.nest l) fun l => szTh (szL (fun x m => (szN x.length m)) x.sorts l) fun l => szTh (szN x.most.length l) fun l => szTh (szN x.apart.length l) fun l => l
structure TControl where
  name : ByteArray
  ports : Int
  kind_ : Int
  deriving DecidableEq
def cControl (x : TControl) : List Tr := [ts x.name, tv x.ports, tv x.kind_]
theorem cControl_len (x : TControl) : (cControl x).length = 3 := rfl
def oControl (x : TControl) : IV := .ag [iS x.name, iI x.ports, iI x.kind_]
def bdControl (n : Nat) (x : TControl) : Prop := x.name.size ≤ n
def ftControl (x : TControl) : Prop := fits .i64 x.ports ∧ fits .i64 x.kind_
def szControl (x : TControl) (l : Int) : Int := szTh (l - x.name.size) fun l => l
end Go.Fd

/-
  The numbers of the functions of this program, by name (printed by ids.py).
-/
namespace Go.Fd
abbrev fid_laws_FnExactSortingText : FuncId := 3
abbrev fid_laws_szControlS : FuncId := 6
abbrev fid_laws_szSorting : FuncId := 7
abbrev fid_spec_SortingText : FuncId := 8
abbrev fid_laws_toControlS : FuncId := 9
abbrev fid_laws_toSorting : FuncId := 10
abbrev fid_impl_SortingText : FuncId := 11
abbrev fid_laws_eqControlS : FuncId := 12
abbrev fid_laws_eqSorting : FuncId := 13
abbrev fid_laws_szControl : FuncId := 21
abbrev fid_laws_szIntS : FuncId := 22
abbrev fid_laws_szIntSS : FuncId := 23
abbrev fid_laws_szIntA2S : FuncId := 24
abbrev fid_spec_l7Good : FuncId := 25
abbrev fid_spec_l7Text : FuncId := 26
abbrev fid_laws_toControl : FuncId := 27
abbrev fid_laws_toIntS : FuncId := 28
abbrev fid_laws_toIntSS : FuncId := 29
abbrev fid_laws_toIntA2S : FuncId := 30
abbrev fid_impl_IsSorting : FuncId := 31
abbrev fid_impl_sortingText : FuncId := 32
abbrev fid_laws_eqControl : FuncId := 33
abbrev fid_laws_eqIntS : FuncId := 34
abbrev fid_laws_eqIntSS : FuncId := 35
abbrev fid_laws_eqIntA2S : FuncId := 36
abbrev fid_impl_comparePairs : FuncId := 55
abbrev fid_spec_l2Sig : FuncId := 57
abbrev fid_spec_l7Controls : FuncId := 58
abbrev fid_spec_l7Nest : FuncId := 59
abbrev fid_spec_l1In : FuncId := 60
abbrev fid_spec_l7Sorts : FuncId := 61
abbrev fid_spec_l7Before : FuncId := 62
abbrev fid_spec_l7Named : FuncId := 63
abbrev fid_spec_l1Num : FuncId := 64
abbrev fid_spec_l2Words : FuncId := 65
abbrev fid_laws_toIntA2 : FuncId := 66
abbrev fid_impl_IsSignature : FuncId := 67
abbrev fid_impl_isRising : FuncId := 68
abbrev fid_impl_within : FuncId := 69
abbrev fid_slices_ContainsFunc_int_int : FuncId := 70
abbrev fid_impl_IsSorting_1 : FuncId := 71
abbrev fid_impl_arePairs : FuncId := 72
abbrev fid_impl_IsSorting_2 : FuncId := 73
abbrev fid_impl_named : FuncId := 74
abbrev fid_impl_digits : FuncId := 75
abbrev fid_impl_dec : FuncId := 76
abbrev fid_strings_Join : FuncId := 77
abbrev fid_impl_numbered : FuncId := 78
abbrev fid_laws_eqIntA2 : FuncId := 79
abbrev fid_slices_Compare_int_int : FuncId := 101
abbrev fid_spec_l2Name : FuncId := 102
abbrev fid_spec_l1Rising : FuncId := 103
abbrev fid_impl_isName : FuncId := 104
abbrev fid_slices_ContainsFunc_impl_Control_impl_Control : FuncId := 105
abbrev fid_impl_IsSignature_1 : FuncId := 106
abbrev fid_slices_IndexFunc_int_int : FuncId := 107
abbrev fid_strconv_Itoa : FuncId := 108
abbrev fid_cmp_Compare_int : FuncId := 130
abbrev fid_strings_Trim : FuncId := 131
abbrev fid_slices_IndexFunc_impl_Control_impl_Control : FuncId := 132
abbrev fid_cmp_isNaN_int : FuncId := 150
end Go.Fd

/-
  The annotated codes of the functions, printed by a program of mine (gen.py), and the check that they belong to the program.
-/
namespace Go.Fd
def c_spec_SortingText : F2 :=
  { nt := 13, res := [.t 4 [0], .t 5 [0]], body :=
   (.sq (rg [oo 3 (.bt (.t 1)),
 om 4 (.k (.string ⟨#[]⟩)),
 om 5 (.k (.bool false))])
 (.sq (.sq (rg [om 6 (.t 0),
 oo 7 (.ld (some 5) (.t 3)),
 oo 8 (.ca .pure false (.f fid_spec_l7Good) [.t 6, .t 7]),
 oo 9 (.nt (.t 8))])
 (.cd (.t 9) (.sq (rg [om 4 (.k (.string ⟨#[]⟩)),
 om 5 (.k (.bool false))])
 (.rt))
 (.sk)))
 (.sq (rg [om 10 (.t 0),
 oo 11 (.ld (some 5) (.t 3)),
 oo 12 (.ca .pure false (.f fid_spec_l7Text) [.t 10, .t 11]),
 om 4 (.t 12),
 om 5 (.k (.bool true))])
 (.rt)))) }
theorem k_spec_SortingText : chkF Go.Proofs.Tryz.prog fid_spec_SortingText c_spec_SortingText = true := by kernel_rfl

def c_impl_SortingText : F2 :=
  { nt := 13, res := [.t 4 [0], .t 5 [0]], body :=
   (.sq (rg [oo 3 (.bt (.t 1)),
 om 4 (.k (.string ⟨#[]⟩)),
 om 5 (.k (.bool false))])
 (.sq (.sq (rg [om 6 (.t 0),
 oo 7 (.ld (some 5) (.t 3)),
 oo 8 (.ca .pure false (.f fid_impl_IsSorting) [.t 6, .t 7]),
 oo 9 (.nt (.t 8))])
 (.cd (.t 9) (.sq (rg [om 4 (.k (.string ⟨#[]⟩)),
 om 5 (.k (.bool false))])
 (.rt))
 (.sk)))
 (.sq (rg [om 10 (.t 0),
 oo 11 (.ld (some 5) (.t 3)),
 oo 12 (.ca .pure false (.f fid_impl_sortingText) [.t 10, .t 11]),
 om 4 (.t 12),
 om 5 (.k (.bool true))])
 (.rt)))) }
theorem k_impl_SortingText : chkF Go.Proofs.Tryz.prog fid_impl_SortingText c_impl_SortingText = true := by kernel_rfl

def c_spec_l7Good : F2 :=
  { nt := 101, res := [.t 4 [0]], body :=
   (.sq (rg [oo 3 (.bt (.t 1)),
 om 4 (.k (.bool false))])
 (.sq (.sq (rg [om 8 (.t 0),
 oo 9 (.ca .pure false (.f fid_spec_l2Sig) [.t 8]),
 oo 10 (.nt (.t 9)),
 om 11 (.t 10),
 og 12 11 false (.mv (.t 0) none),
 og 13 11 false (.fa 0 (.t 3)),
 og 14 11 false (.ld none (.t 13)),
 og 15 11 false (.ca .pure false (.f fid_spec_l7Controls) [.t 12, .t 14]),
 og 16 11 false (.nt (.t 15)),
 oo 17 (.pk (.t 11) (.k (.bool true)) (.t 16)),
 om 18 (.t 17),
 og 19 18 false (.mv (.t 0) none),
 og 20 18 false (.fa 1 (.t 3)),
 og 21 18 false (.ld none (.t 20)),
 og 22 18 false (.ca .pure false (.f fid_spec_l7Nest) [.t 19, .t 21]),
 og 23 18 false (.nt (.t 22)),
 oo 24 (.pk (.t 18) (.k (.bool true)) (.t 23)),
 om 25 (.t 24),
 og 26 25 false (.fa 3 (.t 3)),
 og 27 25 false (.ld none (.t 26)),
 og 28 25 false (.ln (.t 27)),
 og 29 25 false (.ca .pure false (.f fid_spec_l1In) [.t 28, i6 1, i6 4]),
 og 30 25 false (.nt (.t 29)),
 oo 31 (.pk (.t 25) (.k (.bool true)) (.t 30)),
 om 32 (.t 31),
 og 33 32 false (.mv (.t 0) none),
 og 34 32 false (.fa 2 (.t 3)),
 og 35 32 false (.ld none (.t 34)),
 og 36 32 false (.fa 3 (.t 3)),
 og 37 32 false (.ld none (.t 36)),
 og 38 32 false (.ln (.t 37)),
 og 39 32 false (.ca .pure false (.f fid_spec_l7Sorts) [.t 33, .t 35, .t 38]),
 og 40 32 false (.nt (.t 39)),
 oo 41 (.pk (.t 32) (.k (.bool true)) (.t 40))])
 (.cd (.t 41) (.sq (rg [om 4 (.k (.bool false))])
 (.rt))
 (.sk)))
 (.sq (.sq (rg [om 5 (i6 0)])
 (.bl 0 (.lp [3, 5] [] (.sq (.sq (rg [om 42 (.t 5),
 oo 43 (.fa 3 (.t 3)),
 oo 44 (.ld none (.t 43)),
 oo 45 (.ln (.t 44)),
 oo 46 (.bi .lss 0 (.t 42) (.t 45))])
 (.cd (.t 46) (.sk)
 (.ex 0)))
 (.sq (.bl 1 (.sq (rg [oo 49 (.fa 3 (.t 3)),
 oo 50 (.ld none (.t 49)),
 om 51 (.t 5),
 oo 52 (.ia 1 (.t 50) (.t 51)),
 oo 53 (.ld none (.t 52)),
 oo 54 (.ca .pure false (.f fid_spec_l1In) [.t 53, i6 0, i6 24]),
 oo 55 (.nt (.t 54))])
 (.cd (.t 55) (.sq (rg [om 4 (.k (.bool false))])
 (.rt))
 (.sk))))
 (rg [om 47 (.t 5),
 oo 48 (.bi .add 0 (.t 47) (i6 1)),
 om 5 (.t 48)]))))))
 (.sq (.sq (rg [om 6 (i6 0)])
 (.bl 2 (.lp [3, 6] [] (.sq (.sq (rg [om 56 (.t 6),
 oo 57 (.fa 4 (.t 3)),
 oo 58 (.ld none (.t 57)),
 oo 59 (.ln (.t 58)),
 oo 60 (.bi .lss 0 (.t 56) (.t 59))])
 (.cd (.t 60) (.sk)
 (.ex 2)))
 (.sq (.bl 3 (.sq (rg [oo 63 (.fa 4 (.t 3)),
 oo 64 (.ld none (.t 63)),
 om 65 (.t 6),
 oo 66 (.ia 2 (.t 64) (.t 65)),
 oo 67 (.ld (some 2) (.t 66)),
 oo 7 (.al [.int .i64 0, .int .i64 0] []),
 on1 (.st 2 (.t 7) (.t 67))])
 (.sq (.rg (some 0) [oo 68 (.ja 1 2 (.t 7) (i6 0)),
 oo 69 (.ld none (.t 68)),
 oo 70 (.bi .lss 0 (.t 69) (i6 0)),
 om 71 (.t 70),
 og 72 71 false (.ja 1 2 (.t 7) (i6 0)),
 og 73 71 false (.ld none (.t 72)),
 og 74 71 false (.ja 1 2 (.t 7) (i6 1)),
 og 75 71 false (.ld none (.t 74)),
 og 76 71 false (.bi .geq 0 (.t 73) (.t 75)),
 oo 77 (.pk (.t 71) (.k (.bool true)) (.t 76)),
 om 78 (.t 77),
 og 79 78 false (.ja 1 2 (.t 7) (i6 1)),
 og 80 78 false (.ld none (.t 79)),
 og 81 78 false (.fa 3 (.t 3)),
 og 82 78 false (.ld none (.t 81)),
 og 83 78 false (.ln (.t 82)),
 og 84 78 false (.bi .geq 0 (.t 80) (.t 83)),
 oo 85 (.pk (.t 78) (.k (.bool true)) (.t 84)),
 om 86 (.t 85),
 og 87 86 false (.mv (.t 6) none),
 og 88 86 false (.bi .gtr 0 (.t 87) (i6 0)),
 og 89 86 false (.mv (.t 88) none),
 og 90 89 true (.fa 4 (.t 3)),
 og 91 89 true (.ld none (.t 90)),
 og 92 89 true (.mv (.t 6) none),
 og 93 89 true (.bi .sub 0 (.t 92) (i6 1)),
 og 94 89 true (.ia 2 (.t 91) (.t 93)),
 og 95 89 true (.ld (some 2) (.t 94)),
 og 96 89 true (.ld (some 2) (.t 7)),
 og 97 89 true (.ca .pure false (.f fid_spec_l7Before) [.t 95, .t 96]),
 og 98 89 true (.nt (.t 97)),
 og 99 86 false (.pk (.t 89) (.t 98) (.k (.bool false))),
 oo 100 (.pk (.t 86) (.k (.bool true)) (.t 99))])
 (.cd (.t 100) (.sq (rg [om 4 (.k (.bool false))])
 (.rt))
 (.sk)))))
 (rg [om 61 (.t 6),
 oo 62 (.bi .add 0 (.t 61) (i6 1)),
 om 6 (.t 62)]))))))
 (.sq (rg [om 4 (.k (.bool true))])
 (.rt)))))) }
theorem k_spec_l7Good : chkF Go.Proofs.Tryz.prog fid_spec_l7Good c_spec_l7Good = true := by kernel_rfl

def c_spec_l7Text : F2 :=
  { nt := 93, res := [.t 4 [0]], body :=
   (.sq (rg [oo 3 (.bt (.t 1)),
 om 4 (.k (.string ⟨#[]⟩))])
 (.sq (rg [om 9 (.t 0),
 oo 10 (.fa 0 (.t 3)),
 oo 11 (.ld none (.t 10)),
 oo 12 (.ca .pure false (.f fid_spec_l7Named) [.t 9, .t 11]),
 oo 13 (.bi .add 0 (.k (.string ⟨#[116, 111, 112, 115]⟩)) (.t 12)),
 om 5 (.t 13)])
 (.sq (.sq (rg [om 6 (i6 0)])
 (.bl 0 (.lp [0, 3, 5, 6] [] (.sq (.sq (rg [om 14 (.t 6),
 om 15 (.t 0),
 oo 16 (.ln (.t 15)),
 oo 17 (.bi .lss 0 (.t 14) (.t 16))])
 (.cd (.t 17) (.sk)
 (.ex 0)))
 (.sq (.bl 1 (.sq (rg [om 20 (.t 5),
 oo 21 (.bi .add 0 (.t 20) (.k (.string ⟨#[59, 32]⟩))),
 om 22 (.t 0),
 om 23 (.t 6),
 oo 24 (.ia 3 (.t 22) (.t 23)),
 oo 25 (.fa 0 (.t 24)),
 oo 26 (.ld none (.t 25)),
 oo 27 (.bi .add 0 (.t 21) (.t 26)),
 oo 28 (.bi .add 0 (.t 27) (.k (.string ⟨#[58]⟩))),
 om 5 (.t 28)])
 (.sq (.sq (rg [om 7 (i6 0)])
 (.bl 2 (.lp [0, 3, 5, 6, 7] [] (.sq (.sq (rg [om 29 (.t 7),
 oo 30 (.fa 2 (.t 3)),
 oo 31 (.ld none (.t 30)),
 om 32 (.t 6),
 oo 33 (.ia 1 (.t 31) (.t 32)),
 oo 34 (.ld none (.t 33)),
 oo 35 (.ln (.t 34)),
 oo 36 (.bi .lss 0 (.t 29) (.t 35))])
 (.cd (.t 36) (.sk)
 (.ex 2)))
 (.sq (.bl 3 (rg [om 39 (.t 5),
 oo 40 (.fa 2 (.t 3)),
 oo 41 (.ld none (.t 40)),
 om 42 (.t 6),
 oo 43 (.ia 1 (.t 41) (.t 42)),
 oo 44 (.ld none (.t 43)),
 om 45 (.t 7),
 oo 46 (.ia 1 (.t 44) (.t 45)),
 oo 47 (.ld none (.t 46)),
 oo 48 (.ca .pure false (.f fid_spec_l1Num) [.t 47]),
 oo 49 (.bi .add 0 (.t 39) (.t 48)),
 om 5 (.t 49)]))
 (rg [om 37 (.t 7),
 oo 38 (.bi .add 0 (.t 37) (i6 1)),
 om 7 (.t 38)]))))))
 (rg [om 50 (.t 5),
 om 51 (.t 0),
 oo 52 (.fa 1 (.t 3)),
 oo 53 (.ld none (.t 52)),
 om 54 (.t 6),
 oo 55 (.ia 1 (.t 53) (.t 54)),
 oo 56 (.ld none (.t 55)),
 oo 57 (.ca .pure false (.f fid_spec_l7Named) [.t 51, .t 56]),
 oo 58 (.bi .add 0 (.t 50) (.t 57)),
 om 5 (.t 58)]))))
 (rg [om 18 (.t 6),
 oo 19 (.bi .add 0 (.t 18) (i6 1)),
 om 6 (.t 19)]))))))
 (.sq (rg [om 59 (.t 5),
 oo 60 (.bi .add 0 (.t 59) (.k (.string ⟨#[59, 32, 109, 111, 115, 116]⟩))),
 oo 61 (.fa 3 (.t 3)),
 oo 62 (.ld none (.t 61)),
 oo 63 (.ca .pure false (.f fid_spec_l2Words) [.t 62]),
 oo 64 (.bi .add 0 (.t 60) (.t 63)),
 oo 65 (.bi .add 0 (.t 64) (.k (.string ⟨#[59, 32, 97, 112, 97, 114, 116]⟩))),
 om 5 (.t 65)])
 (.sq (.sq (rg [om 8 (i6 0)])
 (.bl 4 (.lp [3, 5, 8] [] (.sq (.sq (rg [om 66 (.t 8),
 oo 67 (.fa 4 (.t 3)),
 oo 68 (.ld none (.t 67)),
 oo 69 (.ln (.t 68)),
 oo 70 (.bi .lss 0 (.t 66) (.t 69))])
 (.cd (.t 70) (.sk)
 (.ex 4)))
 (.sq (.bl 5 (.rg (some 0) [om 73 (.t 5),
 oo 74 (.bi .add 0 (.t 73) (.k (.string ⟨#[32]⟩))),
 oo 75 (.fa 4 (.t 3)),
 oo 76 (.ld none (.t 75)),
 om 77 (.t 8),
 oo 78 (.ia 2 (.t 76) (.t 77)),
 oo 79 (.ja 1 2 (.t 78) (i6 0)),
 oo 80 (.ld none (.t 79)),
 oo 81 (.ca .pure false (.f fid_spec_l1Num) [.t 80]),
 oo 82 (.bi .add 0 (.t 74) (.t 81)),
 oo 83 (.bi .add 0 (.t 82) (.k (.string ⟨#[45]⟩))),
 oo 84 (.fa 4 (.t 3)),
 oo 85 (.ld none (.t 84)),
 om 86 (.t 8),
 oo 87 (.ia 2 (.t 85) (.t 86)),
 oo 88 (.ja 1 2 (.t 87) (i6 1)),
 oo 89 (.ld none (.t 88)),
 oo 90 (.ca .pure false (.f fid_spec_l1Num) [.t 89]),
 oo 91 (.bi .add 0 (.t 83) (.t 90)),
 om 5 (.t 91)]))
 (rg [om 71 (.t 8),
 oo 72 (.bi .add 0 (.t 71) (i6 1)),
 om 8 (.t 72)]))))))
 (.sq (rg [om 92 (.t 5),
 om 4 (.t 92)])
 (.rt))))))) }
theorem k_spec_l7Text : chkF Go.Proofs.Tryz.prog fid_spec_l7Text c_spec_l7Text = true := by kernel_rfl

def c_impl_IsSorting : F2 :=
  { nt := 104, res := [.t 4 [0]], body :=
   (.sq (rg [oo 3 (.bt (.t 1)),
 om 4 (.k (.bool false))])
 (.sq (.sq (rg [om 7 (.t 0),
 oo 8 (.ca .pure false (.f fid_impl_IsSignature) [.t 7]),
 oo 9 (.nt (.t 8)),
 om 10 (.t 9),
 og 11 10 false (.fa 0 (.t 3)),
 og 12 10 false (.ld none (.t 11)),
 og 13 10 false (.mv (.t 0) none),
 og 14 10 false (.ln (.t 13)),
 og 15 10 false (.ca .pure false (.f fid_impl_isRising) [.t 12, .t 14]),
 og 16 10 false (.nt (.t 15)),
 oo 17 (.pk (.t 10) (.k (.bool true)) (.t 16)),
 om 18 (.t 17),
 og 19 18 false (.fa 1 (.t 3)),
 og 20 18 false (.ld none (.t 19)),
 og 21 18 false (.ln (.t 20)),
 og 22 18 false (.mv (.t 0) none),
 og 23 18 false (.ln (.t 22)),
 og 24 18 false (.bi .neq 0 (.t 21) (.t 23)),
 oo 25 (.pk (.t 18) (.k (.bool true)) (.t 24)),
 om 26 (.t 25),
 og 27 26 false (.fa 2 (.t 3)),
 og 28 26 false (.ld none (.t 27)),
 og 29 26 false (.ln (.t 28)),
 og 30 26 false (.mv (.t 0) none),
 og 31 26 false (.ln (.t 30)),
 og 32 26 false (.bi .neq 0 (.t 29) (.t 31)),
 oo 33 (.pk (.t 26) (.k (.bool true)) (.t 32))])
 (.cd (.t 33) (.sq (rg [om 4 (.k (.bool false))])
 (.rt))
 (.sk)))
 (.sq (.sq (rg [oo 34 (.fa 3 (.t 3)),
 oo 35 (.ld none (.t 34)),
 oo 36 (.ln (.t 35)),
 oo 37 (.ca .pure false (.f fid_impl_within) [.t 36, i6 1, i6 4]),
 oo 38 (.nt (.t 37)),
 om 39 (.t 38),
 og 40 39 false (.fa 3 (.t 3)),
 og 41 39 false (.ld none (.t 40)),
 og 42 39 false (.ca .pure false (.f fid_slices_ContainsFunc_int_int) [.t 41, .f fid_impl_IsSorting_1]),
 oo 43 (.pk (.t 39) (.k (.bool true)) (.t 42)),
 om 44 (.t 43),
 og 45 44 false (.fa 4 (.t 3)),
 og 46 44 false (.ld none (.t 45)),
 og 47 44 false (.fa 3 (.t 3)),
 og 48 44 false (.ld none (.t 47)),
 og 49 44 false (.ln (.t 48)),
 og 50 44 false (.ca .pure false (.f fid_impl_arePairs) [.t 46, .t 49]),
 og 51 44 false (.nt (.t 50)),
 oo 52 (.pk (.t 44) (.k (.bool true)) (.t 51))])
 (.cd (.t 52) (.sq (rg [om 4 (.k (.bool false))])
 (.rt))
 (.sk)))
 (.sq (.sq (rg [om 53 (.t 0),
 oo 54 (.ln (.t 53)),
 om 55 (i6 0)])
 (.bl 0 (.lp [0, 3, 53, 54, 55] [] (.sq (rg [oo 56 (.bi .lss 0 (.t 55) (.t 54))])
 (.sq (.cd (.t 56) (.sk)
 (.ex 0))
 (.sq (.bl 1 (.sq (rg [om 57 (.t 55),
 oo 58 (.ia 3 (.t 53) (.t 55)),
 oo 59 (.ld (some 3) (.t 58)),
 oo 6 (.al [.string ⟨#[]⟩, .int .i64 0, .int .i64 0] []),
 om 5 (.t 57),
 on1 (.st 3 (.t 6) (.t 59))])
 (.sq (.rg (some 0) [oo 60 (.fa 1 (.t 3)),
 oo 61 (.ld none (.t 60)),
 om 62 (.t 5),
 oo 63 (.ia 1 (.t 61) (.t 62)),
 oo 64 (.ld none (.t 63)),
 om 65 (.t 0),
 oo 66 (.ln (.t 65)),
 oo 67 (.ca .pure false (.f fid_impl_isRising) [.t 64, .t 66]),
 oo 68 (.nt (.t 67)),
 om 69 (.t 68),
 og 70 69 false (.fa 2 (.t 6)),
 og 71 69 false (.ld none (.t 70)),
 og 72 69 false (.bi .eql 0 (.t 71) (i6 2)),
 og 73 69 false (.mv (.t 72) none),
 og 74 73 true (.fa 1 (.t 3)),
 og 75 73 true (.ld none (.t 74)),
 og 76 73 true (.mv (.t 5) none),
 og 77 73 true (.ia 1 (.t 75) (.t 76)),
 og 78 73 true (.ld none (.t 77)),
 og 79 73 true (.ln (.t 78)),
 og 80 73 true (.bi .gtr 0 (.t 79) (i6 0)),
 og 81 69 false (.pk (.t 73) (.t 80) (.k (.bool false))),
 oo 82 (.pk (.t 69) (.k (.bool true)) (.t 81)),
 om 83 (.t 82),
 og 84 83 false (.fa 2 (.t 3)),
 og 85 83 false (.ld none (.t 84)),
 og 86 83 false (.mv (.t 5) none),
 og 87 83 false (.ia 1 (.t 85) (.t 86)),
 og 88 83 false (.ld none (.t 87)),
 og 89 83 false (.ln (.t 88)),
 og 90 83 false (.fa 1 (.t 6)),
 og 91 83 false (.ld none (.t 90)),
 og 92 83 false (.bi .neq 0 (.t 89) (.t 91)),
 oo 93 (.pk (.t 83) (.k (.bool true)) (.t 92)),
 om 94 (.t 93),
 og 95 94 false (.fa 2 (.t 3)),
 og 96 94 false (.ld none (.t 95)),
 og 97 94 false (.mv (.t 5) none),
 og 98 94 false (.ia 1 (.t 96) (.t 97)),
 og 99 94 false (.ld none (.t 98)),
 og 100 94 false (.mf fid_impl_IsSorting_2 [.t 3]),
 og 101 94 false (.ca .pure false (.f fid_slices_ContainsFunc_int_int) [.t 99, .t 100]),
 oo 102 (.pk (.t 94) (.k (.bool true)) (.t 101))])
 (.cd (.t 102) (.sq (rg [om 4 (.k (.bool false))])
 (.rt))
 (.sk)))))
 (rg [oo 103 (.bi .add 0 (.t 55) (i6 1)),
 om 55 (.t 103)])))))))
 (.sq (rg [om 4 (.k (.bool true))])
 (.rt)))))) }
theorem k_impl_IsSorting : chkF Go.Proofs.Tryz.prog fid_impl_IsSorting c_impl_IsSorting = true := by kernel_rfl

def c_impl_sortingText : F2 :=
  { nt := 71, res := [.t 4 [0]], body :=
   (.sq (rg [oo 3 (.bt (.t 1)),
 om 4 (.k (.string ⟨#[]⟩))])
 (.sq (rg [om 11 (.t 0),
 oo 12 (.fa 0 (.t 3)),
 oo 13 (.ld none (.t 12)),
 oo 14 (.ca .pure false (.f fid_impl_named) [.t 11, .k (.string ⟨#[116, 111, 112, 115]⟩), .t 13]),
 oo 15 (.bs 1 1 [.string ⟨#[]⟩] [(0, .t 14)]),
 om 5 (.t 15)])
 (.sq (.sq (rg [om 16 (.t 0),
 oo 17 (.ln (.t 16)),
 om 18 (i6 0)])
 (.bl 0 (.lp [0, 3, 5, 16, 17, 18] [480, 1344] (.sq (rg [oo 19 (.bi .lss 0 (.t 18) (.t 17))])
 (.sq (.cd (.t 19) (.sk)
 (.ex 0))
 (.sq (.bl 1 (.sq (rg [om 20 (.t 18),
 oo 21 (.ia 3 (.t 16) (.t 18)),
 oo 22 (.ld (some 3) (.t 21)),
 oo 7 (.al [.string ⟨#[]⟩, .int .i64 0, .int .i64 0] []),
 om 6 (.t 20),
 on1 (.st 3 (.t 7) (.t 22))])
 (.rg (some 0) [om 23 (.t 5),
 om 24 (.t 0),
 oo 25 (.fa 0 (.t 7)),
 oo 26 (.ld none (.t 25)),
 oo 27 (.bi .add 0 (.t 26) (.k (.string ⟨#[58]⟩))),
 oo 28 (.fa 2 (.t 3)),
 oo 29 (.ld none (.t 28)),
 om 30 (.t 6),
 oo 31 (.ia 1 (.t 29) (.t 30)),
 oo 32 (.ld none (.t 31)),
 oo 33 (.ca .pure false (.f fid_impl_digits) [.t 32]),
 oo 34 (.bi .add 0 (.t 27) (.t 33)),
 oo 35 (.fa 1 (.t 3)),
 oo 36 (.ld none (.t 35)),
 om 37 (.t 6),
 oo 38 (.ia 1 (.t 36) (.t 37)),
 oo 39 (.ld none (.t 38)),
 oo 40 (.ca .pure false (.f fid_impl_named) [.t 24, .t 34, .t 39]),
 oo 41 (.bs 1 1 [.string ⟨#[]⟩] [(0, .t 40)]),
 oo 42 (.ap 1 0 (.t 23) (.t 41)),
 om 5 (.t 42)])))
 (rg [oo 43 (.bi .add 0 (.t 18) (i6 1)),
 om 18 (.t 43)])))))))
 (.sq (rg [om 8 (.k (.string ⟨#[97, 112, 97, 114, 116]⟩))])
 (.sq (.sq (rg [oo 44 (.fa 4 (.t 3)),
 oo 45 (.ld none (.t 44)),
 oo 46 (.ln (.t 45)),
 om 47 (i6 0)])
 (.bl 2 (.lp [3, 5, 8, 45, 46, 47] [480, 1344] (.sq (rg [oo 48 (.bi .lss 0 (.t 47) (.t 46))])
 (.sq (.cd (.t 48) (.sk)
 (.ex 2))
 (.sq (.bl 3 (.sq (rg [oo 49 (.ia 2 (.t 45) (.t 47)),
 oo 50 (.ld (some 2) (.t 49)),
 oo 10 (.al [.int .i64 0, .int .i64 0] []),
 on1 (.st 2 (.t 10) (.t 50))])
 (.rg (some 0) [om 51 (.t 8),
 oo 52 (.ja 1 2 (.t 10) (i6 0)),
 oo 53 (.ld none (.t 52)),
 oo 54 (.ca .pure false (.f fid_impl_dec) [.t 53]),
 oo 55 (.bi .add 0 (.k (.string ⟨#[32]⟩)) (.t 54)),
 oo 56 (.bi .add 0 (.t 55) (.k (.string ⟨#[45]⟩))),
 oo 57 (.ja 1 2 (.t 10) (i6 1)),
 oo 58 (.ld none (.t 57)),
 oo 59 (.ca .pure false (.f fid_impl_dec) [.t 58]),
 oo 60 (.bi .add 0 (.t 56) (.t 59)),
 oo 61 (.bi .add 0 (.t 51) (.t 60)),
 om 8 (.t 61)])))
 (rg [oo 62 (.bi .add 0 (.t 47) (i6 1)),
 om 47 (.t 62)])))))))
 (.sq (rg [om 63 (.t 5),
 oo 64 (.fa 3 (.t 3)),
 oo 65 (.ld none (.t 64)),
 oo 66 (.ca .pure false (.f fid_impl_numbered) [.k (.string ⟨#[109, 111, 115, 116]⟩), .t 65]),
 om 67 (.t 8),
 oo 68 (.bs 1 2 [.string ⟨#[]⟩] [(0, .t 66), (1, .t 67)]),
 oo 69 (.ap 1 0 (.t 63) (.t 68)),
 oo 70 (.ca .pure false (.f fid_strings_Join) [.t 69, .k (.string ⟨#[59, 32]⟩)]),
 om 4 (.t 70)])
 (.rt))))))) }
theorem k_impl_sortingText : chkF Go.Proofs.Tryz.prog fid_impl_sortingText c_impl_sortingText = true := by kernel_rfl

def c_impl_comparePairs : F2 :=
  { nt := 8, res := [.t 4 [0]], body :=
   (.sq (rg [oo 2 (.bt (.t 0)),
 oo 3 (.bt (.t 1)),
 om 4 (i6 0)])
 (.sq (.rg (some 0) [oo 5 (.sa 2 (.t 2)),
 oo 6 (.sa 2 (.t 3)),
 oo 7 (.ca .pure false (.f fid_slices_Compare_int_int) [.t 5, .t 6]),
 om 4 (.t 7)])
 (.rt))) }
theorem k_impl_comparePairs : chkF Go.Proofs.Tryz.prog fid_impl_comparePairs c_impl_comparePairs = true := by kernel_rfl

def c_spec_l2Sig : F2 :=
  { nt := 55, res := [.t 2 [0]], body :=
   (.sq (rg [om 2 (.k (.bool false))])
 (.sq (.sq (rg [om 3 (i6 0)])
 (.bl 0 (.lp [0, 3] [] (.sq (.sq (rg [om 5 (.t 3),
 om 6 (.t 0),
 oo 7 (.ln (.t 6)),
 oo 8 (.bi .lss 0 (.t 5) (.t 7))])
 (.cd (.t 8) (.sk)
 (.ex 0)))
 (.sq (.bl 1 (.sq (.sq (rg [om 11 (.t 0),
 om 12 (.t 3),
 oo 13 (.ia 3 (.t 11) (.t 12)),
 oo 14 (.fa 0 (.t 13)),
 oo 15 (.ld none (.t 14)),
 oo 16 (.ca .pure false (.f fid_spec_l2Name) [.t 15]),
 oo 17 (.nt (.t 16)),
 om 18 (.t 17),
 og 19 18 false (.mv (.t 0) none),
 og 20 18 false (.mv (.t 3) none),
 og 21 18 false (.ia 3 (.t 19) (.t 20)),
 og 22 18 false (.fa 1 (.t 21)),
 og 23 18 false (.ld none (.t 22)),
 og 24 18 false (.ca .pure false (.f fid_spec_l1In) [.t 23, i6 0, i6 3]),
 og 25 18 false (.nt (.t 24)),
 oo 26 (.pk (.t 18) (.k (.bool true)) (.t 25)),
 om 27 (.t 26),
 og 28 27 false (.mv (.t 0) none),
 og 29 27 false (.mv (.t 3) none),
 og 30 27 false (.ia 3 (.t 28) (.t 29)),
 og 31 27 false (.fa 2 (.t 30)),
 og 32 27 false (.ld none (.t 31)),
 og 33 27 false (.ca .pure false (.f fid_spec_l1In) [.t 32, i6 0, i6 2]),
 og 34 27 false (.nt (.t 33)),
 oo 35 (.pk (.t 27) (.k (.bool true)) (.t 34))])
 (.cd (.t 35) (.sq (rg [om 2 (.k (.bool false))])
 (.rt))
 (.sk)))
 (.sq (rg [om 4 (i6 0)])
 (.bl 2 (.lp [0, 3, 4] [] (.sq (.sq (rg [om 36 (.t 4),
 om 37 (.t 3),
 oo 38 (.bi .lss 0 (.t 36) (.t 37))])
 (.cd (.t 38) (.sk)
 (.ex 2)))
 (.sq (.bl 3 (.sq (.rg (some 0) [om 41 (.t 0),
 om 42 (.t 4),
 oo 43 (.ia 3 (.t 41) (.t 42)),
 oo 44 (.fa 0 (.t 43)),
 oo 45 (.ld none (.t 44)),
 om 46 (.t 0),
 om 47 (.t 3),
 oo 48 (.ia 3 (.t 46) (.t 47)),
 oo 49 (.fa 0 (.t 48)),
 oo 50 (.ld none (.t 49)),
 oo 51 (.bi .eql 0 (.t 45) (.t 50))])
 (.cd (.t 51) (.sq (rg [om 2 (.k (.bool false))])
 (.rt))
 (.sk))))
 (rg [om 39 (.t 4),
 oo 40 (.bi .add 0 (.t 39) (i6 1)),
 om 4 (.t 40)]))))))))
 (rg [om 9 (.t 3),
 oo 10 (.bi .add 0 (.t 9) (i6 1)),
 om 3 (.t 10)]))))))
 (.sq (rg [om 52 (.t 0),
 oo 53 (.ln (.t 52)),
 oo 54 (.ca .pure false (.f fid_spec_l1In) [.t 53, i6 1, i6 6]),
 om 2 (.t 54)])
 (.rt)))) }
theorem k_spec_l2Sig : chkF Go.Proofs.Tryz.prog fid_spec_l2Sig c_spec_l2Sig = true := by kernel_rfl

def c_spec_l7Controls : F2 :=
  { nt := 10, res := [.t 4 [0]], body :=
   (.sq (rg [om 4 (.k (.bool false))])
 (.sq (rg [om 5 (.t 1),
 om 6 (.t 0),
 oo 7 (.ln (.t 6)),
 oo 8 (.bi .sub 0 (.t 7) (i6 1)),
 oo 9 (.ca .pure false (.f fid_spec_l1Rising) [.t 5, i6 0, .t 8]),
 om 4 (.t 9)])
 (.rt))) }
theorem k_spec_l7Controls : chkF Go.Proofs.Tryz.prog fid_spec_l7Controls c_spec_l7Controls = true := by kernel_rfl

def c_spec_l7Nest : F2 :=
  { nt := 40, res := [.t 4 [0]], body :=
   (.sq (rg [om 4 (.k (.bool false))])
 (.sq (.sq (rg [om 6 (.t 1),
 oo 7 (.ln (.t 6)),
 om 8 (.t 0),
 oo 9 (.ln (.t 8)),
 oo 10 (.bi .neq 0 (.t 7) (.t 9))])
 (.cd (.t 10) (.sq (rg [om 4 (.k (.bool false))])
 (.rt))
 (.sk)))
 (.sq (.sq (rg [om 5 (i6 0)])
 (.bl 0 (.lp [0, 1, 5] [] (.sq (.sq (rg [om 11 (.t 5),
 om 12 (.t 1),
 oo 13 (.ln (.t 12)),
 oo 14 (.bi .lss 0 (.t 11) (.t 13))])
 (.cd (.t 14) (.sk)
 (.ex 0)))
 (.sq (.bl 1 (.sq (rg [om 17 (.t 0),
 om 18 (.t 1),
 om 19 (.t 5),
 oo 20 (.ia 1 (.t 18) (.t 19)),
 oo 21 (.ld none (.t 20)),
 oo 22 (.ca .pure false (.f fid_spec_l7Controls) [.t 17, .t 21]),
 oo 23 (.nt (.t 22)),
 om 24 (.t 23),
 og 25 24 false (.mv (.t 0) none),
 og 26 24 false (.mv (.t 5) none),
 og 27 24 false (.ia 3 (.t 25) (.t 26)),
 og 28 24 false (.fa 2 (.t 27)),
 og 29 24 false (.ld none (.t 28)),
 og 30 24 false (.bi .eql 0 (.t 29) (i6 2)),
 og 31 24 false (.mv (.t 30) none),
 og 32 31 true (.mv (.t 1) none),
 og 33 31 true (.mv (.t 5) none),
 og 34 31 true (.ia 1 (.t 32) (.t 33)),
 og 35 31 true (.ld none (.t 34)),
 og 36 31 true (.ln (.t 35)),
 og 37 31 true (.bi .gtr 0 (.t 36) (i6 0)),
 og 38 24 false (.pk (.t 31) (.t 37) (.k (.bool false))),
 oo 39 (.pk (.t 24) (.k (.bool true)) (.t 38))])
 (.cd (.t 39) (.sq (rg [om 4 (.k (.bool false))])
 (.rt))
 (.sk))))
 (rg [om 15 (.t 5),
 oo 16 (.bi .add 0 (.t 15) (i6 1)),
 om 5 (.t 16)]))))))
 (.sq (rg [om 4 (.k (.bool true))])
 (.rt))))) }
theorem k_spec_l7Nest : chkF Go.Proofs.Tryz.prog fid_spec_l7Nest c_spec_l7Nest = true := by kernel_rfl

def c_spec_l1In : F2 :=
  { nt := 15, res := [.t 6 [0]], body :=
   (.sq (rg [om 6 (.k (.bool false))])
 (.sq (rg [om 7 (.t 0),
 om 8 (.t 1),
 oo 9 (.bi .geq 0 (.t 7) (.t 8)),
 om 10 (.t 9),
 og 11 10 true (.mv (.t 0) none),
 og 12 10 true (.mv (.t 2) none),
 og 13 10 true (.bi .leq 0 (.t 11) (.t 12)),
 oo 14 (.pk (.t 10) (.t 13) (.k (.bool false))),
 om 6 (.t 14)])
 (.rt))) }
theorem k_spec_l1In : chkF Go.Proofs.Tryz.prog fid_spec_l1In c_spec_l1In = true := by kernel_rfl

def c_spec_l7Sorts : F2 :=
  { nt := 51, res := [.t 6 [0]], body :=
   (.sq (rg [om 6 (.k (.bool false))])
 (.sq (.sq (rg [om 9 (.t 1),
 oo 10 (.ln (.t 9)),
 om 11 (.t 0),
 oo 12 (.ln (.t 11)),
 oo 13 (.bi .neq 0 (.t 10) (.t 12))])
 (.cd (.t 13) (.sq (rg [om 6 (.k (.bool false))])
 (.rt))
 (.sk)))
 (.sq (.sq (rg [om 7 (i6 0)])
 (.bl 0 (.lp [0, 1, 2, 7] [] (.sq (.sq (rg [om 14 (.t 7),
 om 15 (.t 1),
 oo 16 (.ln (.t 15)),
 oo 17 (.bi .lss 0 (.t 14) (.t 16))])
 (.cd (.t 17) (.sk)
 (.ex 0)))
 (.sq (.bl 1 (.sq (.sq (.rg (some 0) [om 20 (.t 1),
 om 21 (.t 7),
 oo 22 (.ia 1 (.t 20) (.t 21)),
 oo 23 (.ld none (.t 22)),
 oo 24 (.ln (.t 23)),
 om 25 (.t 0),
 om 26 (.t 7),
 oo 27 (.ia 3 (.t 25) (.t 26)),
 oo 28 (.fa 1 (.t 27)),
 oo 29 (.ld none (.t 28)),
 oo 30 (.bi .neq 0 (.t 24) (.t 29))])
 (.cd (.t 30) (.sq (rg [om 6 (.k (.bool false))])
 (.rt))
 (.sk)))
 (.sq (rg [om 8 (i6 0)])
 (.bl 2 (.lp [0, 1, 2, 7, 8] [] (.sq (.sq (rg [om 31 (.t 8),
 om 32 (.t 1),
 om 33 (.t 7),
 oo 34 (.ia 1 (.t 32) (.t 33)),
 oo 35 (.ld none (.t 34)),
 oo 36 (.ln (.t 35)),
 oo 37 (.bi .lss 0 (.t 31) (.t 36))])
 (.cd (.t 37) (.sk)
 (.ex 2)))
 (.sq (.bl 3 (.sq (rg [om 40 (.t 1),
 om 41 (.t 7),
 oo 42 (.ia 1 (.t 40) (.t 41)),
 oo 43 (.ld none (.t 42)),
 om 44 (.t 8),
 oo 45 (.ia 1 (.t 43) (.t 44)),
 oo 46 (.ld none (.t 45)),
 om 47 (.t 2),
 oo 48 (.bi .sub 0 (.t 47) (i6 1)),
 oo 49 (.ca .pure false (.f fid_spec_l1In) [.t 46, i6 0, .t 48]),
 oo 50 (.nt (.t 49))])
 (.cd (.t 50) (.sq (rg [om 6 (.k (.bool false))])
 (.rt))
 (.sk))))
 (rg [om 38 (.t 8),
 oo 39 (.bi .add 0 (.t 38) (i6 1)),
 om 8 (.t 39)]))))))))
 (rg [om 18 (.t 7),
 oo 19 (.bi .add 0 (.t 18) (i6 1)),
 om 7 (.t 19)]))))))
 (.sq (rg [om 6 (.k (.bool true))])
 (.rt))))) }
theorem k_spec_l7Sorts : chkF Go.Proofs.Tryz.prog fid_spec_l7Sorts c_spec_l7Sorts = true := by kernel_rfl

def c_spec_l7Before : F2 :=
  { nt := 24, res := [.t 4 [0]], body :=
   (.sq (rg [oo 2 (.bt (.t 0)),
 oo 3 (.bt (.t 1)),
 om 4 (.k (.bool false))])
 (.sq (rg [oo 5 (.ja 1 2 (.t 2) (i6 0)),
 oo 6 (.ld none (.t 5)),
 oo 7 (.ja 1 2 (.t 3) (i6 0)),
 oo 8 (.ld none (.t 7)),
 oo 9 (.bi .lss 0 (.t 6) (.t 8)),
 om 10 (.t 9),
 og 11 10 false (.ja 1 2 (.t 2) (i6 0)),
 og 12 10 false (.ld none (.t 11)),
 og 13 10 false (.ja 1 2 (.t 3) (i6 0)),
 og 14 10 false (.ld none (.t 13)),
 og 15 10 false (.bi .eql 0 (.t 12) (.t 14)),
 og 16 10 false (.mv (.t 15) none),
 og 17 16 true (.ja 1 2 (.t 2) (i6 1)),
 og 18 16 true (.ld none (.t 17)),
 og 19 16 true (.ja 1 2 (.t 3) (i6 1)),
 og 20 16 true (.ld none (.t 19)),
 og 21 16 true (.bi .lss 0 (.t 18) (.t 20)),
 og 22 10 false (.pk (.t 16) (.t 21) (.k (.bool false))),
 oo 23 (.pk (.t 10) (.k (.bool true)) (.t 22)),
 om 4 (.t 23)])
 (.rt))) }
theorem k_spec_l7Before : chkF Go.Proofs.Tryz.prog fid_spec_l7Before c_spec_l7Before = true := by kernel_rfl

def c_spec_l7Named : F2 :=
  { nt := 25, res := [.t 4 [0]], body :=
   (.sq (rg [om 4 (.k (.string ⟨#[]⟩))])
 (.sq (rg [om 5 (.k (.string ⟨#[]⟩))])
 (.sq (.sq (rg [om 6 (i6 0)])
 (.bl 0 (.lp [0, 1, 5, 6] [] (.sq (.sq (rg [om 7 (.t 6),
 om 8 (.t 1),
 oo 9 (.ln (.t 8)),
 oo 10 (.bi .lss 0 (.t 7) (.t 9))])
 (.cd (.t 10) (.sk)
 (.ex 0)))
 (.sq (.bl 1 (rg [om 13 (.t 5),
 oo 14 (.bi .add 0 (.t 13) (.k (.string ⟨#[32]⟩))),
 om 15 (.t 0),
 om 16 (.t 1),
 om 17 (.t 6),
 oo 18 (.ia 1 (.t 16) (.t 17)),
 oo 19 (.ld none (.t 18)),
 oo 20 (.ia 3 (.t 15) (.t 19)),
 oo 21 (.fa 0 (.t 20)),
 oo 22 (.ld none (.t 21)),
 oo 23 (.bi .add 0 (.t 14) (.t 22)),
 om 5 (.t 23)]))
 (rg [om 11 (.t 6),
 oo 12 (.bi .add 0 (.t 11) (i6 1)),
 om 6 (.t 12)]))))))
 (.sq (rg [om 24 (.t 5),
 om 4 (.t 24)])
 (.rt))))) }
theorem k_spec_l7Named : chkF Go.Proofs.Tryz.prog fid_spec_l7Named c_spec_l7Named = true := by kernel_rfl

def c_spec_l1Num : F2 :=
  { nt := 25, res := [.t 2 [0]], body :=
   (.sq (rg [om 2 (.k (.string ⟨#[]⟩))])
 (.sq (.sq (rg [om 3 (.t 0),
 oo 4 (.bi .lss 0 (.t 3) (i6 0))])
 (.cd (.t 4) (.sq (rg [om 5 (.t 0),
 oo 6 (.ng (.t 5)),
 oo 7 (.ca .pure false (.f fid_spec_l1Num) [.t 6]),
 oo 8 (.bi .add 0 (.k (.string ⟨#[45]⟩)) (.t 7)),
 om 2 (.t 8)])
 (.rt))
 (.sk)))
 (.sq (.sq (rg [om 9 (.t 0),
 oo 10 (.bi .lss 0 (.t 9) (i6 10))])
 (.cd (.t 10) (.sq (rg [om 11 (.t 0),
 om 12 (.t 0),
 oo 13 (.bi .add 0 (.t 12) (i6 1)),
 oo 14 (.ss (.k (.string ⟨#[48, 49, 50, 51, 52, 53, 54, 55, 56, 57]⟩)) (some (.t 11)) (some (.t 13))),
 om 2 (.t 14)])
 (.rt))
 (.sk)))
 (.sq (.rg (some 0) [om 15 (.t 0),
 oo 16 (.bi .quo 0 (.t 15) (i6 10)),
 oo 17 (.ca .pure false (.f fid_spec_l1Num) [.t 16]),
 om 18 (.t 0),
 oo 19 (.bi .rem 0 (.t 18) (i6 10)),
 om 20 (.t 0),
 oo 21 (.bi .rem 0 (.t 20) (i6 10)),
 oo 22 (.bi .add 0 (.t 21) (i6 1)),
 oo 23 (.ss (.k (.string ⟨#[48, 49, 50, 51, 52, 53, 54, 55, 56, 57]⟩)) (some (.t 19)) (some (.t 22))),
 oo 24 (.bi .add 0 (.t 17) (.t 23)),
 om 2 (.t 24)])
 (.rt))))) }
theorem k_spec_l1Num : chkF Go.Proofs.Tryz.prog fid_spec_l1Num c_spec_l1Num = true := by kernel_rfl

def c_spec_l2Words : F2 :=
  { nt := 20, res := [.t 2 [0]], body :=
   (.sq (rg [om 2 (.k (.string ⟨#[]⟩))])
 (.sq (rg [om 3 (.k (.string ⟨#[]⟩))])
 (.sq (.sq (rg [om 4 (i6 0)])
 (.bl 0 (.lp [0, 3, 4] [] (.sq (.sq (rg [om 5 (.t 4),
 om 6 (.t 0),
 oo 7 (.ln (.t 6)),
 oo 8 (.bi .lss 0 (.t 5) (.t 7))])
 (.cd (.t 8) (.sk)
 (.ex 0)))
 (.sq (.bl 1 (rg [om 11 (.t 3),
 oo 12 (.bi .add 0 (.t 11) (.k (.string ⟨#[32]⟩))),
 om 13 (.t 0),
 om 14 (.t 4),
 oo 15 (.ia 1 (.t 13) (.t 14)),
 oo 16 (.ld none (.t 15)),
 oo 17 (.ca .pure false (.f fid_spec_l1Num) [.t 16]),
 oo 18 (.bi .add 0 (.t 12) (.t 17)),
 om 3 (.t 18)]))
 (rg [om 9 (.t 4),
 oo 10 (.bi .add 0 (.t 9) (i6 1)),
 om 4 (.t 10)]))))))
 (.sq (rg [om 19 (.t 3),
 om 2 (.t 19)])
 (.rt))))) }
theorem k_spec_l2Words : chkF Go.Proofs.Tryz.prog fid_spec_l2Words c_spec_l2Words = true := by kernel_rfl

def c_impl_IsSignature : F2 :=
  { nt := 40, res := [.t 2 [0]], body :=
   (.sq (rg [om 2 (.k (.bool false))])
 (.sq (.sq (rg [om 5 (.t 0),
 oo 6 (.ln (.t 5)),
 oo 7 (.ca .pure false (.f fid_impl_within) [.t 6, i6 1, i6 6]),
 oo 8 (.nt (.t 7))])
 (.cd (.t 8) (.sq (rg [om 2 (.k (.bool false))])
 (.rt))
 (.sk)))
 (.sq (.sq (rg [om 9 (.t 0),
 oo 10 (.ln (.t 9)),
 om 11 (i6 0)])
 (.bl 0 (.lp [0, 9, 10, 11] [] (.sq (rg [oo 12 (.bi .lss 0 (.t 11) (.t 10))])
 (.sq (.cd (.t 12) (.sk)
 (.ex 0))
 (.sq (.bl 1 (.sq (rg [om 13 (.t 11),
 oo 14 (.ia 3 (.t 9) (.t 11)),
 oo 15 (.ld (some 3) (.t 14)),
 oo 4 (.al [.string ⟨#[]⟩, .int .i64 0, .int .i64 0] []),
 om 3 (.t 13),
 on1 (.st 3 (.t 4) (.t 15))])
 (.sq (rg [oo 16 (.fa 0 (.t 4)),
 oo 17 (.ld none (.t 16)),
 oo 18 (.ca .pure false (.f fid_impl_isName) [.t 17]),
 oo 19 (.nt (.t 18)),
 om 20 (.t 19),
 og 21 20 false (.fa 1 (.t 4)),
 og 22 20 false (.ld none (.t 21)),
 og 23 20 false (.ca .pure false (.f fid_impl_within) [.t 22, i6 0, i6 3]),
 og 24 20 false (.nt (.t 23)),
 oo 25 (.pk (.t 20) (.k (.bool true)) (.t 24)),
 om 26 (.t 25),
 og 27 26 false (.fa 2 (.t 4)),
 og 28 26 false (.ld none (.t 27)),
 og 29 26 false (.ca .pure false (.f fid_impl_within) [.t 28, i6 0, i6 2]),
 og 30 26 false (.nt (.t 29)),
 oo 31 (.pk (.t 26) (.k (.bool true)) (.t 30)),
 om 32 (.t 31),
 og 33 32 false (.mv (.t 0) none),
 og 34 32 false (.mv (.t 3) none),
 og 35 32 false (.sx 3 (.t 33) none (some (.t 34)) none),
 og 36 32 false (.mf fid_impl_IsSignature_1 [.t 4]),
 og 37 32 false (.ca .pure false (.f fid_slices_ContainsFunc_impl_Control_impl_Control) [.t 35, .t 36]),
 oo 38 (.pk (.t 32) (.k (.bool true)) (.t 37))])
 (.cd (.t 38) (.sq (rg [om 2 (.k (.bool false))])
 (.rt))
 (.sk)))))
 (rg [oo 39 (.bi .add 0 (.t 11) (i6 1)),
 om 11 (.t 39)])))))))
 (.sq (rg [om 2 (.k (.bool true))])
 (.rt))))) }
theorem k_impl_IsSignature : chkF Go.Proofs.Tryz.prog fid_impl_IsSignature c_impl_IsSignature = true := by kernel_rfl

def c_impl_isRising : F2 :=
  { nt := 33, res := [.t 4 [0]], body :=
   (.sq (rg [om 4 (.k (.bool false))])
 (.sq (.sq (rg [om 7 (.t 0),
 oo 8 (.ln (.t 7)),
 om 9 (i6 0)])
 (.bl 0 (.lp [0, 1, 7, 8, 9] [] (.sq (rg [oo 10 (.bi .lss 0 (.t 9) (.t 8))])
 (.sq (.cd (.t 10) (.sk)
 (.ex 0))
 (.sq (.bl 1 (.sq (rg [om 11 (.t 9),
 oo 12 (.ia 1 (.t 7) (.t 9)),
 oo 13 (.ld none (.t 12)),
 om 5 (.t 11),
 om 6 (.t 13)])
 (.sq (rg [om 14 (.t 6),
 om 15 (.t 1),
 oo 16 (.bi .sub 0 (.t 15) (i6 1)),
 oo 17 (.ca .pure false (.f fid_impl_within) [.t 14, i6 0, .t 16]),
 oo 18 (.nt (.t 17)),
 om 19 (.t 18),
 og 20 19 false (.mv (.t 5) none),
 og 21 19 false (.bi .gtr 0 (.t 20) (i6 0)),
 og 22 19 false (.mv (.t 21) none),
 og 23 22 true (.mv (.t 6) none),
 og 24 22 true (.mv (.t 0) none),
 og 25 22 true (.mv (.t 5) none),
 og 26 22 true (.bi .sub 0 (.t 25) (i6 1)),
 og 27 22 true (.ia 1 (.t 24) (.t 26)),
 og 28 22 true (.ld none (.t 27)),
 og 29 22 true (.bi .leq 0 (.t 23) (.t 28)),
 og 30 19 false (.pk (.t 22) (.t 29) (.k (.bool false))),
 oo 31 (.pk (.t 19) (.k (.bool true)) (.t 30))])
 (.cd (.t 31) (.sq (rg [om 4 (.k (.bool false))])
 (.rt))
 (.sk)))))
 (rg [oo 32 (.bi .add 0 (.t 9) (i6 1)),
 om 9 (.t 32)])))))))
 (.sq (rg [om 4 (.k (.bool true))])
 (.rt)))) }
theorem k_impl_isRising : chkF Go.Proofs.Tryz.prog fid_impl_isRising c_impl_isRising = true := by kernel_rfl

def c_impl_within : F2 :=
  { nt := 15, res := [.t 6 [0]], body :=
   (.sq (rg [om 6 (.k (.bool false))])
 (.sq (rg [om 7 (.t 0),
 om 8 (.t 1),
 oo 9 (.bi .geq 0 (.t 7) (.t 8)),
 om 10 (.t 9),
 og 11 10 true (.mv (.t 0) none),
 og 12 10 true (.mv (.t 2) none),
 og 13 10 true (.bi .leq 0 (.t 11) (.t 12)),
 oo 14 (.pk (.t 10) (.t 13) (.k (.bool false))),
 om 6 (.t 14)])
 (.rt))) }
theorem k_impl_within : chkF Go.Proofs.Tryz.prog fid_impl_within c_impl_within = true := by kernel_rfl

def c_impl_IsSorting_1 : F2 :=
  { nt := 6, res := [.t 2 [0]], body :=
   (.sq (rg [om 2 (.k (.bool false))])
 (.sq (rg [om 3 (.t 0),
 oo 4 (.ca .pure false (.f fid_impl_within) [.t 3, i6 0, i6 24]),
 oo 5 (.nt (.t 4)),
 om 2 (.t 5)])
 (.rt))) }
theorem k_impl_IsSorting_1 : chkF Go.Proofs.Tryz.prog fid_impl_IsSorting_1 c_impl_IsSorting_1 = true := by kernel_rfl

def c_impl_arePairs : F2 :=
  { nt := 44, res := [.t 4 [0]], body :=
   (.sq (rg [om 4 (.k (.bool false))])
 (.sq (.sq (rg [om 7 (.t 0),
 oo 8 (.ln (.t 7)),
 om 9 (i6 0)])
 (.bl 0 (.lp [0, 1, 7, 8, 9] [] (.sq (rg [oo 10 (.bi .lss 0 (.t 9) (.t 8))])
 (.sq (.cd (.t 10) (.sk)
 (.ex 0))
 (.sq (.bl 1 (.sq (rg [om 11 (.t 9),
 oo 12 (.ia 2 (.t 7) (.t 9)),
 oo 13 (.ld (some 2) (.t 12)),
 oo 6 (.al [.int .i64 0, .int .i64 0] []),
 om 5 (.t 11),
 on1 (.st 2 (.t 6) (.t 13))])
 (.sq (.rg (some 0) [oo 14 (.ja 1 2 (.t 6) (i6 0)),
 oo 15 (.ld none (.t 14)),
 oo 16 (.ja 1 2 (.t 6) (i6 1)),
 oo 17 (.ld none (.t 16)),
 oo 18 (.bi .sub 1 (.t 17) (i6 1)),
 oo 19 (.ca .pure false (.f fid_impl_within) [.t 15, i6 0, .t 18]),
 oo 20 (.nt (.t 19)),
 om 21 (.t 20),
 og 22 21 false (.ja 1 2 (.t 6) (i6 1)),
 og 23 21 false (.ld none (.t 22)),
 og 24 21 false (.mv (.t 1) none),
 og 25 21 false (.bi .sub 0 (.t 24) (i6 1)),
 og 26 21 false (.ca .pure false (.f fid_impl_within) [.t 23, i6 0, .t 25]),
 og 27 21 false (.nt (.t 26)),
 oo 28 (.pk (.t 21) (.k (.bool true)) (.t 27)),
 om 29 (.t 28),
 og 30 29 false (.mv (.t 5) none),
 og 31 29 false (.bi .gtr 0 (.t 30) (i6 0)),
 og 32 29 false (.mv (.t 31) none),
 og 33 32 true (.mv (.t 0) none),
 og 34 32 true (.mv (.t 5) none),
 og 35 32 true (.bi .sub 0 (.t 34) (i6 1)),
 og 36 32 true (.ia 2 (.t 33) (.t 35)),
 og 37 32 true (.ld (some 2) (.t 36)),
 og 38 32 true (.ld (some 2) (.t 6)),
 og 39 32 true (.ca .pure false (.f fid_impl_comparePairs) [.t 37, .t 38]),
 og 40 32 true (.bi .geq 0 (.t 39) (i6 0)),
 og 41 29 false (.pk (.t 32) (.t 40) (.k (.bool false))),
 oo 42 (.pk (.t 29) (.k (.bool true)) (.t 41))])
 (.cd (.t 42) (.sq (rg [om 4 (.k (.bool false))])
 (.rt))
 (.sk)))))
 (rg [oo 43 (.bi .add 0 (.t 9) (i6 1)),
 om 9 (.t 43)])))))))
 (.sq (rg [om 4 (.k (.bool true))])
 (.rt)))) }
theorem k_impl_arePairs : chkF Go.Proofs.Tryz.prog fid_impl_arePairs c_impl_arePairs = true := by kernel_rfl

def c_impl_IsSorting_2 : F2 :=
  { nt := 11, res := [.t 3 [0]], body :=
   (.sq (rg [om 3 (.k (.bool false))])
 (.sq (rg [om 4 (.t 0),
 oo 5 (.fa 3 (.t 1)),
 oo 6 (.ld none (.t 5)),
 oo 7 (.ln (.t 6)),
 oo 8 (.bi .sub 0 (.t 7) (i6 1)),
 oo 9 (.ca .pure false (.f fid_impl_within) [.t 4, i6 0, .t 8]),
 oo 10 (.nt (.t 9)),
 om 3 (.t 10)])
 (.rt))) }
theorem k_impl_IsSorting_2 : chkF Go.Proofs.Tryz.prog fid_impl_IsSorting_2 c_impl_IsSorting_2 = true := by kernel_rfl

def c_impl_named : F2 :=
  { nt := 25, res := [.t 6 [0]], body :=
   (.sq (rg [om 6 (.k (.string ⟨#[]⟩))])
 (.sq (.sq (rg [om 9 (.t 2),
 oo 10 (.ln (.t 9)),
 om 11 (i6 0)])
 (.bl 0 (.lp [0, 1, 9, 10, 11] [] (.sq (rg [oo 12 (.bi .lss 0 (.t 11) (.t 10))])
 (.sq (.cd (.t 12) (.sk)
 (.ex 0))
 (.sq (.bl 1 (.sq (rg [oo 13 (.ia 1 (.t 9) (.t 11)),
 oo 14 (.ld none (.t 13)),
 om 8 (.t 14)])
 (rg [om 15 (.t 1),
 om 16 (.t 0),
 om 17 (.t 8),
 oo 18 (.ia 3 (.t 16) (.t 17)),
 oo 19 (.fa 0 (.t 18)),
 oo 20 (.ld none (.t 19)),
 oo 21 (.bi .add 0 (.k (.string ⟨#[32]⟩)) (.t 20)),
 oo 22 (.bi .add 0 (.t 15) (.t 21)),
 om 1 (.t 22)])))
 (rg [oo 23 (.bi .add 0 (.t 11) (i6 1)),
 om 11 (.t 23)])))))))
 (.sq (rg [om 24 (.t 1),
 om 6 (.t 24)])
 (.rt)))) }
theorem k_impl_named : chkF Go.Proofs.Tryz.prog fid_impl_named c_impl_named = true := by kernel_rfl

def c_impl_digits : F2 :=
  { nt := 18, res := [.t 2 [0]], body :=
   (.sq (rg [om 2 (.k (.string ⟨#[]⟩))])
 (.sq (rg [om 3 (.k (.string ⟨#[]⟩))])
 (.sq (.sq (rg [om 6 (.t 0),
 oo 7 (.ln (.t 6)),
 om 8 (i6 0)])
 (.bl 0 (.lp [3, 6, 7, 8] [] (.sq (rg [oo 9 (.bi .lss 0 (.t 8) (.t 7))])
 (.sq (.cd (.t 9) (.sk)
 (.ex 0))
 (.sq (.bl 1 (.sq (rg [oo 10 (.ia 1 (.t 6) (.t 8)),
 oo 11 (.ld none (.t 10)),
 om 5 (.t 11)])
 (rg [om 12 (.t 3),
 om 13 (.t 5),
 oo 14 (.ca .pure false (.f fid_impl_dec) [.t 13]),
 oo 15 (.bi .add 0 (.t 12) (.t 14)),
 om 3 (.t 15)])))
 (rg [oo 16 (.bi .add 0 (.t 8) (i6 1)),
 om 8 (.t 16)])))))))
 (.sq (rg [om 17 (.t 3),
 om 2 (.t 17)])
 (.rt))))) }
theorem k_impl_digits : chkF Go.Proofs.Tryz.prog fid_impl_digits c_impl_digits = true := by kernel_rfl

def c_impl_dec : F2 :=
  { nt := 5, res := [.t 2 [0]], body :=
   (.sq (rg [om 2 (.k (.string ⟨#[]⟩))])
 (.sq (rg [om 3 (.t 0),
 oo 4 (.ca .pure false (.f fid_strconv_Itoa) [.t 3]),
 om 2 (.t 4)])
 (.rt))) }
theorem k_impl_dec : chkF Go.Proofs.Tryz.prog fid_impl_dec c_impl_dec = true := by kernel_rfl

def c_impl_numbered : F2 :=
  { nt := 20, res := [.t 4 [0]], body :=
   (.sq (rg [om 4 (.k (.string ⟨#[]⟩))])
 (.sq (.sq (rg [om 7 (.t 1),
 oo 8 (.ln (.t 7)),
 om 9 (i6 0)])
 (.bl 0 (.lp [0, 7, 8, 9] [] (.sq (rg [oo 10 (.bi .lss 0 (.t 9) (.t 8))])
 (.sq (.cd (.t 10) (.sk)
 (.ex 0))
 (.sq (.bl 1 (.sq (rg [oo 11 (.ia 1 (.t 7) (.t 9)),
 oo 12 (.ld none (.t 11)),
 om 6 (.t 12)])
 (rg [om 13 (.t 0),
 om 14 (.t 6),
 oo 15 (.ca .pure false (.f fid_impl_dec) [.t 14]),
 oo 16 (.bi .add 0 (.k (.string ⟨#[32]⟩)) (.t 15)),
 oo 17 (.bi .add 0 (.t 13) (.t 16)),
 om 0 (.t 17)])))
 (rg [oo 18 (.bi .add 0 (.t 9) (i6 1)),
 om 9 (.t 18)])))))))
 (.sq (rg [om 19 (.t 0),
 om 4 (.t 19)])
 (.rt)))) }
theorem k_impl_numbered : chkF Go.Proofs.Tryz.prog fid_impl_numbered c_impl_numbered = true := by kernel_rfl

def c_slices_Compare_int_int : F2 :=
  { nt := 36, res := [.t 4 [0]], body :=
   (.sq (rg [om 4 (i6 0)])
 (.sq (.sq (rg [om 9 (.t 0),
 oo 10 (.ln (.t 9)),
 om 11 (i6 0)])
 (.bl 0 (.lp [0, 1, 9, 10, 11] [] (.sq (rg [oo 12 (.bi .lss 0 (.t 11) (.t 10))])
 (.sq (.cd (.t 12) (.sk)
 (.ex 0))
 (.sq (.bl 1 (.sq (rg [om 13 (.t 11),
 oo 14 (.ia 1 (.t 9) (.t 11)),
 oo 15 (.ld none (.t 14)),
 om 5 (.t 13),
 om 6 (.t 15)])
 (.sq (.sq (rg [om 16 (.t 5),
 om 17 (.t 1),
 oo 18 (.ln (.t 17)),
 oo 19 (.bi .geq 0 (.t 16) (.t 18))])
 (.cd (.t 19) (.sq (rg [om 4 (i6 1)])
 (.rt))
 (.sk)))
 (.sq (rg [om 20 (.t 1),
 om 21 (.t 5),
 oo 22 (.ia 1 (.t 20) (.t 21)),
 oo 23 (.ld none (.t 22)),
 om 7 (.t 23)])
 (.sq (rg [om 24 (.t 6),
 om 25 (.t 7),
 oo 26 (.ca .pure false (.f fid_cmp_Compare_int) [.t 24, .t 25]),
 om 8 (.t 26)])
 (.sq (rg [om 27 (.t 8),
 oo 28 (.bi .neq 0 (.t 27) (i6 0))])
 (.cd (.t 28) (.sq (rg [om 29 (.t 8),
 om 4 (.t 29)])
 (.rt))
 (.sk))))))))
 (rg [oo 30 (.bi .add 0 (.t 11) (i6 1)),
 om 11 (.t 30)])))))))
 (.sq (.sq (rg [om 31 (.t 0),
 oo 32 (.ln (.t 31)),
 om 33 (.t 1),
 oo 34 (.ln (.t 33)),
 oo 35 (.bi .lss 0 (.t 32) (.t 34))])
 (.cd (.t 35) (.sq (rg [om 4 (i6 (-1))])
 (.rt))
 (.sk)))
 (.sq (rg [om 4 (i6 0)])
 (.rt))))) }
theorem k_slices_Compare_int_int : chkF Go.Proofs.Tryz.prog fid_slices_Compare_int_int c_slices_Compare_int_int = true := by kernel_rfl

def c_spec_l2Name : F2 :=
  { nt := 23, res := [.t 2 [0]], body :=
   (.sq (rg [om 2 (.k (.bool false))])
 (.sq (.sq (rg [om 3 (i6 0)])
 (.bl 0 (.lp [0, 3] [] (.sq (.sq (rg [om 4 (.t 3),
 om 5 (.t 0),
 oo 6 (.lg (.t 5)),
 oo 7 (.bi .lss 0 (.t 4) (.t 6))])
 (.cd (.t 7) (.sk)
 (.ex 0)))
 (.sq (.bl 1 (.sq (rg [om 10 (.t 0),
 om 11 (.t 3),
 oo 12 (.ix (.t 10) (.t 11)),
 oo 13 (.bi .lss 0 (.t 12) (.k (.int .u8 97))),
 om 14 (.t 13),
 og 15 14 false (.mv (.t 0) none),
 og 16 14 false (.mv (.t 3) none),
 og 17 14 false (.ix (.t 15) (.t 16)),
 og 18 14 false (.bi .gtr 0 (.t 17) (.k (.int .u8 122))),
 oo 19 (.pk (.t 14) (.k (.bool true)) (.t 18))])
 (.cd (.t 19) (.sq (rg [om 2 (.k (.bool false))])
 (.rt))
 (.sk))))
 (rg [om 8 (.t 3),
 oo 9 (.bi .add 0 (.t 8) (i6 1)),
 om 3 (.t 9)]))))))
 (.sq (rg [om 20 (.t 0),
 oo 21 (.lg (.t 20)),
 oo 22 (.ca .pure false (.f fid_spec_l1In) [.t 21, i6 1, i6 4]),
 om 2 (.t 22)])
 (.rt)))) }
theorem k_spec_l2Name : chkF Go.Proofs.Tryz.prog fid_spec_l2Name c_spec_l2Name = true := by kernel_rfl

def c_spec_l1Rising : F2 :=
  { nt := 38, res := [.t 6 [0]], body :=
   (.sq (rg [om 6 (.k (.bool false))])
 (.sq (.sq (rg [om 7 (i6 0)])
 (.bl 0 (.lp [0, 1, 2, 7] [] (.sq (.sq (rg [om 8 (.t 7),
 om 9 (.t 0),
 oo 10 (.ln (.t 9)),
 oo 11 (.bi .lss 0 (.t 8) (.t 10))])
 (.cd (.t 11) (.sk)
 (.ex 0)))
 (.sq (.bl 1 (.sq (.rg (some 0) [om 14 (.t 0),
 om 15 (.t 7),
 oo 16 (.ia 1 (.t 14) (.t 15)),
 oo 17 (.ld none (.t 16)),
 om 18 (.t 1),
 om 19 (.t 2),
 oo 20 (.ca .pure false (.f fid_spec_l1In) [.t 17, .t 18, .t 19]),
 oo 21 (.nt (.t 20)),
 om 22 (.t 21),
 og 23 22 false (.mv (.t 7) none),
 og 24 22 false (.bi .gtr 0 (.t 23) (i6 0)),
 og 25 22 false (.mv (.t 24) none),
 og 26 25 true (.mv (.t 0) none),
 og 27 25 true (.mv (.t 7) none),
 og 28 25 true (.bi .sub 0 (.t 27) (i6 1)),
 og 29 25 true (.ia 1 (.t 26) (.t 28)),
 og 30 25 true (.ld none (.t 29)),
 og 31 25 true (.mv (.t 0) none),
 og 32 25 true (.mv (.t 7) none),
 og 33 25 true (.ia 1 (.t 31) (.t 32)),
 og 34 25 true (.ld none (.t 33)),
 og 35 25 true (.bi .geq 0 (.t 30) (.t 34)),
 og 36 22 false (.pk (.t 25) (.t 35) (.k (.bool false))),
 oo 37 (.pk (.t 22) (.k (.bool true)) (.t 36))])
 (.cd (.t 37) (.sq (rg [om 6 (.k (.bool false))])
 (.rt))
 (.sk))))
 (rg [om 12 (.t 7),
 oo 13 (.bi .add 0 (.t 12) (i6 1)),
 om 7 (.t 13)]))))))
 (.sq (rg [om 6 (.k (.bool true))])
 (.rt)))) }
theorem k_spec_l1Rising : chkF Go.Proofs.Tryz.prog fid_spec_l1Rising c_spec_l1Rising = true := by kernel_rfl

def c_impl_isName : F2 :=
  { nt := 11, res := [.t 2 [0]], body :=
   (.sq (rg [om 2 (.k (.bool false))])
 (.sq (rg [om 3 (.t 0),
 oo 4 (.lg (.t 3)),
 oo 5 (.ca .pure false (.f fid_impl_within) [.t 4, i6 1, i6 4]),
 om 6 (.t 5),
 og 7 6 true (.mv (.t 0) none),
 og 8 6 true (.ca .pure false (.f fid_strings_Trim) [.t 7, .k (.string ⟨#[97, 98, 99, 100, 101, 102, 103, 104, 105, 106, 107, 108, 109, 110, 111, 112, 113, 114, 115, 116, 117, 118, 119, 120, 121, 122]⟩)]),
 og 9 6 true (.bi .eql 0 (.t 8) (.k (.string ⟨#[]⟩))),
 oo 10 (.pk (.t 6) (.t 9) (.k (.bool false))),
 om 2 (.t 10)])
 (.rt))) }
theorem k_impl_isName : chkF Go.Proofs.Tryz.prog fid_impl_isName c_impl_isName = true := by kernel_rfl

def c_impl_IsSignature_1 : F2 :=
  { nt := 9, res := [.t 3 [0]], body :=
   (.sq (rg [oo 2 (.bt (.t 0)),
 om 3 (.k (.bool false))])
 (.sq (rg [oo 4 (.fa 0 (.t 2)),
 oo 5 (.ld none (.t 4)),
 oo 6 (.fa 0 (.t 1)),
 oo 7 (.ld none (.t 6)),
 oo 8 (.bi .eql 0 (.t 5) (.t 7)),
 om 3 (.t 8)])
 (.rt))) }
theorem k_impl_IsSignature_1 : chkF Go.Proofs.Tryz.prog fid_impl_IsSignature_1 c_impl_IsSignature_1 = true := by kernel_rfl

def c_cmp_Compare_int : F2 :=
  { nt := 20, res := [.t 4 [0]], body :=
   (.sq (rg [om 4 (i6 0)])
 (.sq (rg [om 7 (.t 0),
 oo 8 (.ca .pure false (.f fid_cmp_isNaN_int) [.t 7]),
 om 5 (.t 8)])
 (.sq (rg [om 9 (.t 1),
 oo 10 (.ca .pure false (.f fid_cmp_isNaN_int) [.t 9]),
 om 6 (.t 10)])
 (.sq (.sq (rg [om 11 (.t 5)])
 (.cd (.t 11) (.sq (.sq (rg [om 12 (.t 6)])
 (.cd (.t 12) (.sq (rg [om 4 (i6 0)])
 (.rt))
 (.sk)))
 (.sq (rg [om 4 (i6 (-1))])
 (.rt)))
 (.sk)))
 (.sq (.sq (rg [om 13 (.t 6)])
 (.cd (.t 13) (.sq (rg [om 4 (i6 1)])
 (.rt))
 (.sk)))
 (.sq (.sq (rg [om 14 (.t 0),
 om 15 (.t 1),
 oo 16 (.bi .lss 0 (.t 14) (.t 15))])
 (.cd (.t 16) (.sq (rg [om 4 (i6 (-1))])
 (.rt))
 (.sk)))
 (.sq (.sq (rg [om 17 (.t 0),
 om 18 (.t 1),
 oo 19 (.bi .gtr 0 (.t 17) (.t 18))])
 (.cd (.t 19) (.sq (rg [om 4 (i6 1)])
 (.rt))
 (.sk)))
 (.sq (rg [om 4 (i6 0)])
 (.rt))))))))) }
theorem k_cmp_Compare_int : chkF Go.Proofs.Tryz.prog fid_cmp_Compare_int c_cmp_Compare_int = true := by kernel_rfl

def c_cmp_isNaN_int : F2 :=
  { nt := 6, res := [.t 2 [0]], body :=
   (.sq (rg [om 2 (.k (.bool false))])
 (.sq (rg [om 3 (.t 0),
 om 4 (.t 0),
 oo 5 (.bi .neq 0 (.t 3) (.t 4)),
 om 2 (.t 5)])
 (.rt))) }
theorem k_cmp_isNaN_int : chkF Go.Proofs.Tryz.prog fid_cmp_isNaN_int c_cmp_isNaN_int = true := by kernel_rfl

end Go.Fd

/-
  ANNOTATED CODES OF GO'S GENERIC FUNCTIONS ON SLICES, AT ANY ELEMENT (printed by generic.py out of one instance each). Own work.
-/
namespace Go.Fd
def gIxF (k : Nat) (m : Option Nat) : F2 :=
  { nt := 19, res := [.t 4 [0]], body :=
   (.sq (.rg none [⟨some 4, none, .mv (.k (.int .i64 0)) none⟩])
   (.sq (.sq (.rg none [⟨some 6, none, .mv (.t 0) none⟩,
       ⟨some 7, none, .ln (.t 6)⟩,
       ⟨some 8, none, .mv (.k (.int .i64 0)) none⟩])
    (.bl 0 (.lp [0, 1, 7, 8] [] (.sq (.rg none [⟨some 9, none, .bi .lss 0 (.t 8) (.t 7)⟩])
      (.sq (.cd (.t 9) (.sk)
       (.ex 0))
      (.sq (.bl 1 (.sq (.rg none [⟨some 10, none, .mv (.t 8) none⟩,
           ⟨some 5, none, .mv (.t 10) none⟩])
        (.sq (.rg none [⟨some 11, none, .mv (.t 1) none⟩,
           ⟨some 12, none, .mv (.t 0) none⟩,
           ⟨some 13, none, .mv (.t 5) none⟩,
           ⟨some 14, none, .ia k (.t 12) (.t 13)⟩,
           ⟨some 15, none, .ld m (.t 14)⟩,
           ⟨some 16, none, .ca .pure false (.t 11) [.t 15]⟩])
        (.cd (.t 16) (.sq (.rg none [⟨some 17, none, .mv (.t 5) none⟩,
            ⟨some 4, none, .mv (.t 17) none⟩])
         (.rt))
        (.sk)))))
      (.rg none [⟨some 18, none, .bi .add 0 (.t 8) (.k (.int .i64 1))⟩,
        ⟨some 8, none, .mv (.t 18) none⟩])))))))
   (.sq (.rg none [⟨some 4, none, .mv (.k (.int .i64 (-1))) none⟩])
   (.rt)))) }
def gCoF (fi : FuncId) : F2 :=
  { nt := 9, res := [.t 4 [0]], body :=
   (.sq (.rg none [⟨some 4, none, .mv (.k (.bool false)) none⟩])
   (.sq (.rg none [⟨some 5, none, .mv (.t 0) none⟩,
      ⟨some 6, none, .mv (.t 1) none⟩,
      ⟨some 7, none, .ca .pure false (.f fi) [.t 5, .t 6]⟩,
      ⟨some 8, none, .bi .geq 0 (.t 7) (.k (.int .i64 0))⟩,
      ⟨some 4, none, .mv (.t 8) none⟩])
   (.rt))) }
end Go.Fd

/-
  GO'S GENERIC FUNCTIONS ON SLICES, AT ANY ELEMENT. Own work.
-/
namespace Go.Fd
set_option maxRecDepth 20000

section rules
variable {L : Sto} {F : List IV → Prop} {lvl : Nat}
theorem r_snta : ∀ {l : List (List Tr)} {F : List IV → Prop}, snaps L (l.map IV.ta) F = F (l.map IV.ta)
  | [], F => r_sn0
  | x :: r, F => by
    simp only [List.map_cons]
    rw [r_sn5, r_snta]
    rfl
theorem r_mensta {Pd : Oid → Prop} : ∀ {l : List (List Tr)}, mens Pd (l.map IV.ta) = True
  | [] => rfl
  | x :: r => by
    simp only [List.map_cons, mens, men, true_and]
    exact r_mensta
theorem r_okmsta {js : List Nat} {l : List (List Tr)} : okms lvl js (l.map IV.ta) = True := r_mensta
end rules

section
variable {P : Program} {α : Type}
theorem getA {α β : Type} {c : α → β} {l : List α} {j : Nat} (h : j < l.length) : (l.map c)[j]? = some (c l[j]) := by simp [h]
theorem cut_take0 {α : Type} {c : α → List Tr} {l : List α} {j : Nat} : cut (l.map c) 0 (j - 0) = (l.take j).map c := by
  simp only [cut, List.drop_zero, Nat.sub_zero, List.map_take]
theorem drop_cons {α : Type} {l : List α} {j : Nat} (h : j < l.length) : l.drop j = l[j] :: l.drop (j + 1) := List.drop_eq_getElem_cons h

/-- The first place that answers true, -1 for none. -/
def ixF (f : α → Bool) : List α → Int → Int
  | [], _ => -1
  | x :: r, j => if f x = true then j else ixF f r (j + 1)
theorem ixF_cons {f : α → Bool} {x : α} {r : List α} {j : Int} : ixF f (x :: r) j = if f x = true then j else ixF f r (j + 1) := rfl
theorem ixF_any {f : α → Bool} : ∀ {l : List α} {j : Int}, 0 ≤ j → (0 ≤ ixF f l j ↔ l.any f = true)
  | [], j, _ => by simp [ixF]
  | x :: r, j, h => by
    rw [ixF_cons, List.any_cons]
    cases hx : f x with
    | true => simp [h]
    | false =>
      simp only [Bool.false_eq_true, if_false, Bool.false_or]
      exact ixF_any (by omega)

theorem sem_ixF1 {fid : FuncId} (hc : chkF P fid (gIxF 1 none) = true) {t : α → Tr} {f : α → Bool} {fe : FuncId} {cs : List (List Tr)} (l : List α) (hl : l.length ≤ 9223372036854775807)
    (hf : ∀ x ∈ l, ∀ lvl S, Sem P fe lvl (.tr (t x) :: cs.map IV.ta) S (iB (f x)) S) (lvl : Nat) (S : Sto) : Sem P fid lvl [.tr (.sl (l.map fun x => [t x])), .fn fe (cs.map IV.ta)] S (iI (ixF f l 0)) S := by
  refine sem_of_chk hc trivial ?_
  simp only [gIxF, List.length_map, r_okmsta, EVA, ↓reduceIte, Nat.reduceEqDiff, Nat.reduceMul, reduceCtorEq, Nat.reduceAdd, Nat.reduceSub, Nat.reduceLeDiff, Nat.reduceLT, Int.reduceToNat, Int.reduceLE, Int.reduceLT, mens, men]
  refine wp_cnt (α := Unit) l.length (fun j _ => [(8, iI j)]) (fun _ _ => []) (fun j _ => ixF f (l.drop j) j = ixF f l 0) () (by simp only [r_okmsta, EVA, ↓reduceIte, Nat.reduceEqDiff, Nat.reduceMul, reduceCtorEq, Nat.reduceAdd, Nat.reduceSub, Nat.reduceLeDiff, Nat.reduceLT, Int.reduceToNat, Int.reduceLE, Int.reduceLT, mens, men]) (by (simp only [EVA, ↓reduceIte, Nat.reduceEqDiff, Nat.reduceMul, reduceCtorEq, Nat.reduceAdd, Nat.reduceSub, Nat.reduceLeDiff, Nat.reduceLT, Int.reduceToNat, Int.reduceLE, Int.reduceLT, mens, men]) <;> rfl) rfl ?_
  intro j _ hj hA
  simp only [List.length_map, r_okmsta, EVA, ↓reduceIte, Nat.reduceEqDiff, Nat.reduceMul, reduceCtorEq, Nat.reduceAdd, Nat.reduceSub, Nat.reduceLeDiff, Nat.reduceLT, Int.reduceToNat, Int.reduceLE, Int.reduceLT, mens, men]
  refine ite_of (fun hlt => ?_) (fun hge => ?_)
  · have hja : j < l.length := by omega
    have ga := getA (c := fun x => [t x]) hja
    rw [drop_cons hja, ixF_cons] at hA
    simp only [ga, r_okmsta, r_snta, r_mensta, EVA, ↓reduceIte, Nat.reduceEqDiff, Nat.reduceMul, reduceCtorEq, Nat.reduceAdd, Nat.reduceSub, Nat.reduceLeDiff, Nat.reduceLT, Int.reduceToNat, Int.reduceLE, Int.reduceLT, mens, men]
    refine kca_intro (hf _ (List.getElem_mem hja)) ?_
    simp only [r_mensta, r_okmsta, EVA, ↓reduceIte, Nat.reduceEqDiff, Nat.reduceMul, reduceCtorEq, Nat.reduceAdd, Nat.reduceSub, Nat.reduceLeDiff, Nat.reduceLT, Int.reduceToNat, Int.reduceLE, Int.reduceLT, mens, men]
    refine ite_of (fun h => ?_) (fun h => ?_)
    · rw [if_pos h] at hA
      rw [← hA]
    · rw [if_neg h] at hA
      exact ⟨by rw [fits_i64]; omega, cntJ_intro () hja rfl hA⟩
  · have : j = l.length := by omega
    subst this
    rw [List.drop_length] at hA
    rw [← hA]
    rfl
theorem sem_ixFk {k : Nat} {fid : FuncId} (hc : chkF P fid (gIxF k (some k)) = true) {c : α → List Tr} (hk : ∀ x, (c x).length = k) {f : α → Bool} {fe : FuncId} {cs : List (List Tr)} (l : List α) (hl : l.length ≤ 9223372036854775807)
    (hf : ∀ x ∈ l, ∀ lvl S, Sem P fe lvl (.ag ((c x).map .tr) :: cs.map IV.ta) S (iB (f x)) S) (lvl : Nat) (S : Sto) : Sem P fid lvl [.tr (.sl (l.map c)), .fn fe (cs.map IV.ta)] S (iI (ixF f l 0)) S := by
  refine sem_of_chk hc trivial ?_
  simp only [gIxF, List.length_map, r_okmsta, EVA, ↓reduceIte, Nat.reduceEqDiff, Nat.reduceMul, reduceCtorEq, Nat.reduceAdd, Nat.reduceSub, Nat.reduceLeDiff, Nat.reduceLT, Int.reduceToNat, Int.reduceLE, Int.reduceLT, mens, men]
  refine wp_cnt (α := Unit) l.length (fun j _ => [(8, iI j)]) (fun _ _ => []) (fun j _ => ixF f (l.drop j) j = ixF f l 0) () (by simp only [r_okmsta, EVA, ↓reduceIte, Nat.reduceEqDiff, Nat.reduceMul, reduceCtorEq, Nat.reduceAdd, Nat.reduceSub, Nat.reduceLeDiff, Nat.reduceLT, Int.reduceToNat, Int.reduceLE, Int.reduceLT, mens, men]) (by (simp only [EVA, ↓reduceIte, Nat.reduceEqDiff, Nat.reduceMul, reduceCtorEq, Nat.reduceAdd, Nat.reduceSub, Nat.reduceLeDiff, Nat.reduceLT, Int.reduceToNat, Int.reduceLE, Int.reduceLT, mens, men]) <;> rfl) rfl ?_
  intro j _ hj hA
  simp only [List.length_map, r_okmsta, EVA, ↓reduceIte, Nat.reduceEqDiff, Nat.reduceMul, reduceCtorEq, Nat.reduceAdd, Nat.reduceSub, Nat.reduceLeDiff, Nat.reduceLT, Int.reduceToNat, Int.reduceLE, Int.reduceLT, mens, men]
  refine ite_of (fun hlt => ?_) (fun hge => ?_)
  · have hja : j < l.length := by omega
    have ga := getA (c := c) hja
    have hkk := hk l[j]
    have htk : (c l[j]).take k = c l[j] := List.take_of_length_le (by omega)
    rw [drop_cons hja, ixF_cons] at hA
    simp only [ga, hkk, htk, r_okmsta, r_snta, r_snm, r_mensta, r_mensm, EVA, ↓reduceIte, Nat.reduceEqDiff, Nat.reduceMul, reduceCtorEq, Nat.reduceAdd, Nat.reduceSub, Nat.reduceLeDiff, Nat.reduceLT, Int.reduceToNat, Int.reduceLE, Int.reduceLT, mens, men]
    refine kca_intro (hf _ (List.getElem_mem hja)) ?_
    simp only [r_mensta, r_mensm, r_okmsta, EVA, ↓reduceIte, Nat.reduceEqDiff, Nat.reduceMul, reduceCtorEq, Nat.reduceAdd, Nat.reduceSub, Nat.reduceLeDiff, Nat.reduceLT, Int.reduceToNat, Int.reduceLE, Int.reduceLT, mens, men]
    refine ite_of (fun h => ?_) (fun h => ?_)
    · rw [if_pos h] at hA
      rw [← hA]
    · rw [if_neg h] at hA
      exact ⟨by rw [fits_i64]; omega, cntJ_intro () hja rfl hA⟩
  · have : j = l.length := by omega
    subst this
    rw [List.drop_length] at hA
    rw [← hA]
    rfl
theorem sem_coF {fid fi : FuncId} (hc : chkF P fid (gCoF fi) = true) {es : Row} {f : α → Bool} {fe : FuncId} {cs : List (List Tr)} {l : List α}
    (hi : ∀ lvl S, Sem P fi lvl [.tr (.sl es), .fn fe (cs.map IV.ta)] S (iI (ixF f l 0)) S) (lvl : Nat) (S : Sto) : Sem P fid lvl [.tr (.sl es), .fn fe (cs.map IV.ta)] S (iB (l.any f)) S := by
  refine sem_of_chk hc trivial ?_
  simp only [gCoF, r_snta, r_mensta, r_okmsta, EVA, ↓reduceIte, Nat.reduceEqDiff, Nat.reduceMul, reduceCtorEq, Nat.reduceAdd, Nat.reduceSub, Nat.reduceLeDiff, Nat.reduceLT, Int.reduceToNat, Int.reduceLE, Int.reduceLT, mens, men]
  refine kca_intro hi ?_
  simp only [r_snta, r_mensta, EVA, ↓reduceIte, Nat.reduceEqDiff, Nat.reduceMul, reduceCtorEq, Nat.reduceAdd, Nat.reduceSub, Nat.reduceLeDiff, Nat.reduceLT, Int.reduceToNat, Int.reduceLE, Int.reduceLT, mens, men]
  have := ixF_any (f := f) (l := l) (Int.le_refl 0)
  by_cases h : l.any f = true
  · simp [h, this.2 h]
  · simp [h, mt this.1 h]
theorem sem_coF1 {fid fi : FuncId} (hc : chkF P fid (gCoF fi) = true) (hi : chkF P fi (gIxF 1 none) = true) {t : α → Tr} {f : α → Bool} {fe : FuncId} {cs : List (List Tr)} (l : List α) (hl : l.length ≤ 9223372036854775807)
    (hf : ∀ x ∈ l, ∀ lvl S, Sem P fe lvl (.tr (t x) :: cs.map IV.ta) S (iB (f x)) S) (lvl : Nat) (S : Sto) : Sem P fid lvl [.tr (.sl (l.map fun x => [t x])), .fn fe (cs.map IV.ta)] S (iB (l.any f)) S :=
  sem_coF hc (sem_ixF1 hi l hl hf) lvl S
theorem sem_coFk {k : Nat} {fid fi : FuncId} (hc : chkF P fid (gCoF fi) = true) (hi : chkF P fi (gIxF k (some k)) = true) {c : α → List Tr} (hk : ∀ x, (c x).length = k) {f : α → Bool} {fe : FuncId} {cs : List (List Tr)} (l : List α) (hl : l.length ≤ 9223372036854775807)
    (hf : ∀ x ∈ l, ∀ lvl S, Sem P fe lvl (.ag ((c x).map .tr) :: cs.map IV.ta) S (iB (f x)) S) (lvl : Nat) (S : Sto) : Sem P fid lvl [.tr (.sl (l.map c)), .fn fe (cs.map IV.ta)] S (iB (l.any f)) S :=
  sem_coF hc (sem_ixFk hi hk l hl hf) lvl S

/-! ## equal slices -/
/-! ## the place of an element -/
end
end Go.Fd

/-
  WHAT HOLDS OF THE PROGRAM'S AND THE REFERENCE'S SMALL FUNCTIONS ON NUMBERS. Own work.
-/
namespace Go.Fd
set_option maxRecDepth 20000

/-- A statement as a bool. -/
noncomputable def dc (p : Prop) : Bool := @decide p (Classical.propDecidable p)
theorem dc_iff {p : Prop} : dc p = true ↔ p := by unfold dc; simp
theorem dc_true {p : Prop} (h : p) : dc p = true := dc_iff.2 h
theorem dc_false {p : Prop} (h : ¬ p) : dc p = false := by
  cases hh : dc p with
  | false => rfl
  | true => exact absurd (dc_iff.1 hh) h
theorem dc_not {p : Prop} : dc p = false ↔ ¬ p := ⟨fun h hp => (by rw [dc_true hp] at h; cases h), dc_false⟩
theorem dc_congr {p q : Prop} (h : p ↔ q) : dc p = dc q := by rw [propext h]
theorem dc_decide {p : Prop} [Decidable p] : dc p = decide p := by
  by_cases h : p
  · rw [dc_true h]; simp [h]
  · rw [dc_false h]; simp [h]

abbrev g0 (l : List Int) (i : Nat) : Int := l.getD i 0
abbrev A3 := Int × Int × Int
abbrev g3 (l : List A3) (i : Nat) : A3 := l.getD i (0, 0, 0)
theorem rI_get {l : List Int} {i : Nat} (h : i < l.length) : (rI l)[i]? = some [tv (g0 l i)] := by simp [h]
def inB (n a b : Int) : Bool := decide (a ≤ n) && decide (n ≤ b)
theorem inB_iff {n a b : Int} : inB n a b = true ↔ a ≤ n ∧ n ≤ b := by simp [inB]
theorem inB_not {n a b : Int} : inB n a b = false ↔ ¬ (a ≤ n ∧ n ≤ b) := by
  rw [← inB_iff]; cases inB n a b <;> simp

theorem sem_l1In (n a b : Int) (lvl : Nat) (S : Sto) : Sem Go.Proofs.Tryz.prog fid_spec_l1In lvl [iI n, iI a, iI b] S (iB (inB n a b)) S := by
  refine sem_of_chk k_spec_l1In trivial ?_
  simp only [c_spec_l1In, EVA, ↓reduceIte, Nat.reduceEqDiff, Nat.reduceMul, reduceCtorEq, Nat.reduceAdd, Nat.reduceSub, Nat.reduceLeDiff, Nat.reduceLT, Int.reduceToNat, Int.reduceLE, Int.reduceLT, mens, men]
  refine ite_of (fun h => ?_) (fun h => ?_) <;> simp [inB, h]
theorem sem_within (n a b : Int) (lvl : Nat) (S : Sto) : Sem Go.Proofs.Tryz.prog fid_impl_within lvl [iI n, iI a, iI b] S (iB (inB n a b)) S := by
  refine sem_of_chk k_impl_within trivial ?_
  simp only [c_impl_within, EVA, ↓reduceIte, Nat.reduceEqDiff, Nat.reduceMul, reduceCtorEq, Nat.reduceAdd, Nat.reduceSub, Nat.reduceLeDiff, Nat.reduceLT, Int.reduceToNat, Int.reduceLE, Int.reduceLT, mens, men]
  refine ite_of (fun h => ?_) (fun h => ?_) <;> simp [inB, h]

/-- Numbers that rise, within bounds. -/
def Ris (lo hi : Int) (l : List Int) : Prop := ∀ i, i < l.length → lo ≤ g0 l i ∧ g0 l i ≤ hi ∧ (0 < i → g0 l (i - 1) < g0 l i)
theorem sem_l1Rising (l : List Int) (lo hi : Int) (hl : l.length ≤ 9223372036854775807) (lvl : Nat) (S : Sto) : Sem Go.Proofs.Tryz.prog fid_spec_l1Rising lvl [tI l, iI lo, iI hi] S (iB (dc (Ris lo hi l))) S := by
  refine sem_of_chk k_spec_l1Rising trivial ?_
  simp only [c_spec_l1Rising, EVA, ↓reduceIte, Nat.reduceEqDiff, Nat.reduceMul, reduceCtorEq, Nat.reduceAdd, Nat.reduceSub, Nat.reduceLeDiff, Nat.reduceLT, Int.reduceToNat, Int.reduceLE, Int.reduceLT, mens, men]
  refine wp_count (α := Unit) l.length (fun j _ => ⟨lvl, [(0, tI l), (1, iI lo), (2, iI hi), (7, iI j)], [], S⟩) (fun j _ => ∀ i, i < j → lo ≤ g0 l i ∧ g0 l i ≤ hi ∧ (0 < i → g0 l (i - 1) < g0 l i)) () ⟨by simp only [EVA, ↓reduceIte, Nat.reduceEqDiff, Nat.reduceMul, reduceCtorEq, Nat.reduceAdd, Nat.reduceSub, Nat.reduceLeDiff, Nat.reduceLT, Int.reduceToNat, Int.reduceLE, Int.reduceLT, mens, men], by (simp only [EVA, ↓reduceIte, Nat.reduceEqDiff, Nat.reduceMul, reduceCtorEq, Nat.reduceAdd, Nat.reduceSub, Nat.reduceLeDiff, Nat.reduceLT, Int.reduceToNat, Int.reduceLE, Int.reduceLT, mens, men]) <;> rfl⟩ (fun i hi => by omega) ?_
  intro j _ hj hA
  simp only [List.length_map, EVA, ↓reduceIte, Nat.reduceEqDiff, Nat.reduceMul, reduceCtorEq, Nat.reduceAdd, Nat.reduceSub, Nat.reduceLeDiff, Nat.reduceLT, Int.reduceToNat, Int.reduceLE, Int.reduceLT, mens, men]
  refine ite_of (fun hlt => ?_) (fun hge => ?_)
  · have hja : j < l.length := by omega
    have ga := rI_get hja
    simp only [ga, EVA, ↓reduceIte, Nat.reduceEqDiff, Nat.reduceMul, reduceCtorEq, Nat.reduceAdd, Nat.reduceSub, Nat.reduceLeDiff, Nat.reduceLT, Int.reduceToNat, Int.reduceLE, Int.reduceLT, mens, men]
    refine kca_intro (sem_l1In (g0 l j) lo hi) ?_
    simp only [EVA, ↓reduceIte, Nat.reduceEqDiff, Nat.reduceMul, reduceCtorEq, Nat.reduceAdd, Nat.reduceSub, Nat.reduceLeDiff, Nat.reduceLT, Int.reduceToNat, Int.reduceLE, Int.reduceLT, mens, men]
    refine ite_of (fun hin => ?_) (fun hin => ?_)
    · have hin' := inB_iff.1 hin
      have hgo : (0 < j → g0 l (j - 1) < g0 l j) → ∀ i, i < j + 1 → lo ≤ g0 l i ∧ g0 l i ≤ hi ∧ (0 < i → g0 l (i - 1) < g0 l i) := fun hp i hi => by
        by_cases e : i = j
        · subst e; exact ⟨hin'.1, hin'.2, hp⟩
        · exact hA i (by omega)
      refine ite_of (fun hpos => ?_) (fun hpos => ?_)
      · have hp : ((j : Int) - 1).toNat = j - 1 := by omega
        have hp0 : (0 : Int) ≤ j - 1 := by omega
        have gb := rI_get (l := l) (i := j - 1) (by omega)
        simp only [hp, hp0, gb, ga, EVA, ↓reduceIte, Nat.reduceEqDiff, Nat.reduceMul, reduceCtorEq, Nat.reduceAdd, Nat.reduceSub, Nat.reduceLeDiff, Nat.reduceLT, Int.reduceToNat, Int.reduceLE, Int.reduceLT, mens, men]
        refine ⟨by rw [fits_i64]; omega, ite_of (fun hge => ?_) (fun hlt2 => ?_)⟩
        · have : ¬ Ris lo hi l := fun hr => by have := (hr j hja).2.2 (by omega); omega
          rw [dc_false this]
        · exact ⟨by rw [fits_i64]; omega, cntJ_intro () hja rfl (hgo fun _ => by omega)⟩
      · exact ⟨by rw [fits_i64]; omega, cntJ_intro () hja rfl (hgo fun h => by omega)⟩
    · have : ¬ Ris lo hi l := fun hr => hin (inB_iff.2 ⟨(hr j hja).1, (hr j hja).2.1⟩)
      rw [dc_false this]
  · have : j = l.length := by omega
    subst this
    rw [dc_true (p := Ris lo hi l) hA]

theorem sem_isRising (l : List Int) (below : Int) (hl : l.length ≤ 9223372036854775807) (hb : 0 ≤ below) (hb2 : below ≤ 9223372036854775807) (lvl : Nat) (S : Sto) : Sem Go.Proofs.Tryz.prog fid_impl_isRising lvl [tI l, iI below] S (iB (dc (Ris 0 (below - 1) l))) S := by
  refine sem_of_chk k_impl_isRising trivial ?_
  simp only [c_impl_isRising, List.length_map, EVA, ↓reduceIte, Nat.reduceEqDiff, Nat.reduceMul, reduceCtorEq, Nat.reduceAdd, Nat.reduceSub, Nat.reduceLeDiff, Nat.reduceLT, Int.reduceToNat, Int.reduceLE, Int.reduceLT, mens, men]
  refine wp_count (α := Unit) l.length (fun j _ => ⟨lvl, [(0, tI l), (1, iI below), (7, tI l), (8, iI l.length), (9, iI j)], [], S⟩) (fun j _ => ∀ i, i < j → 0 ≤ g0 l i ∧ g0 l i ≤ below - 1 ∧ (0 < i → g0 l (i - 1) < g0 l i)) () ⟨by simp only [EVA, ↓reduceIte, Nat.reduceEqDiff, Nat.reduceMul, reduceCtorEq, Nat.reduceAdd, Nat.reduceSub, Nat.reduceLeDiff, Nat.reduceLT, Int.reduceToNat, Int.reduceLE, Int.reduceLT, mens, men], by (simp only [EVA, ↓reduceIte, Nat.reduceEqDiff, Nat.reduceMul, reduceCtorEq, Nat.reduceAdd, Nat.reduceSub, Nat.reduceLeDiff, Nat.reduceLT, Int.reduceToNat, Int.reduceLE, Int.reduceLT, mens, men]) <;> rfl⟩ (fun i hi => by omega) ?_
  intro j _ hj hA
  simp only [List.length_map, EVA, ↓reduceIte, Nat.reduceEqDiff, Nat.reduceMul, reduceCtorEq, Nat.reduceAdd, Nat.reduceSub, Nat.reduceLeDiff, Nat.reduceLT, Int.reduceToNat, Int.reduceLE, Int.reduceLT, mens, men]
  refine ite_of (fun hlt => ?_) (fun hge => ?_)
  · have hja : j < l.length := by omega
    have ga := rI_get hja
    have hfb : fits .i64 (below - 1) := by rw [fits_i64]; omega
    simp only [ga, hfb, EVA, ↓reduceIte, Nat.reduceEqDiff, Nat.reduceMul, reduceCtorEq, Nat.reduceAdd, Nat.reduceSub, Nat.reduceLeDiff, Nat.reduceLT, Int.reduceToNat, Int.reduceLE, Int.reduceLT, mens, men]
    refine kca_intro (sem_within (g0 l j) 0 (below - 1)) ?_
    simp only [EVA, ↓reduceIte, Nat.reduceEqDiff, Nat.reduceMul, reduceCtorEq, Nat.reduceAdd, Nat.reduceSub, Nat.reduceLeDiff, Nat.reduceLT, Int.reduceToNat, Int.reduceLE, Int.reduceLT, mens, men]
    refine ite_of (fun hin => ?_) (fun hin => ?_)
    · have hin' := inB_iff.1 hin
      have hgo : (0 < j → g0 l (j - 1) < g0 l j) → ∀ i, i < j + 1 → 0 ≤ g0 l i ∧ g0 l i ≤ below - 1 ∧ (0 < i → g0 l (i - 1) < g0 l i) := fun hp i hi => by
        by_cases e : i = j
        · subst e; exact ⟨hin'.1, hin'.2, hp⟩
        · exact hA i (by omega)
      refine ite_of (fun hpos => ?_) (fun hpos => ?_)
      · have hp : ((j : Int) - 1).toNat = j - 1 := by omega
        have hp0 : (0 : Int) ≤ j - 1 := by omega
        have gb := rI_get (l := l) (i := j - 1) (by omega)
        simp only [hp, hp0, gb, ga, EVA, ↓reduceIte, Nat.reduceEqDiff, Nat.reduceMul, reduceCtorEq, Nat.reduceAdd, Nat.reduceSub, Nat.reduceLeDiff, Nat.reduceLT, Int.reduceToNat, Int.reduceLE, Int.reduceLT, mens, men]
        refine ⟨by rw [fits_i64]; omega, ite_of (fun hge => ?_) (fun hlt2 => ?_)⟩
        · have : ¬ Ris 0 (below - 1) l := fun hr => by have := (hr j hja).2.2 (by omega); omega
          rw [dc_false this]
        · exact ⟨by rw [fits_i64]; omega, cntJ_intro () hja rfl (hgo fun _ => by omega)⟩
      · exact ⟨by rw [fits_i64]; omega, cntJ_intro () hja rfl (hgo fun h => by omega)⟩
    · have : ¬ Ris 0 (below - 1) l := fun hr => hin (inB_iff.2 ⟨(hr j hja).1, (hr j hja).2.1⟩)
      rw [dc_false this]
  · have : j = l.length := by omega
    subst this
    rw [dc_true (p := Ris 0 (below - 1) l) hA]

/-- Lists of numbers, compared. -/
def cmpL : List Int → List Int → Int
  | [], [] => 0
  | [], _ :: _ => -1
  | _ :: _, [] => 1
  | x :: r, y :: s => if x < y then -1 else if y < x then 1 else cmpL r s
def cmpI (x y : Int) : Int := if x < y then -1 else if y < x then 1 else 0
theorem sem_isNaN (x : Int) (lvl : Nat) (S : Sto) : Sem Go.Proofs.Tryz.prog fid_cmp_isNaN_int lvl [iI x] S (iB false) S := by
  refine sem_of_chk k_cmp_isNaN_int trivial ?_
  simp only [c_cmp_isNaN_int, EVA, ↓reduceIte, Nat.reduceEqDiff, Nat.reduceMul, reduceCtorEq, Nat.reduceAdd, Nat.reduceSub, Nat.reduceLeDiff, Nat.reduceLT, Int.reduceToNat, Int.reduceLE, Int.reduceLT, mens, men]
theorem sem_cmp (x y : Int) (lvl : Nat) (S : Sto) : Sem Go.Proofs.Tryz.prog fid_cmp_Compare_int lvl [iI x, iI y] S (iI (cmpI x y)) S := by
  refine sem_of_chk k_cmp_Compare_int trivial ?_
  simp only [c_cmp_Compare_int, EVA, ↓reduceIte, Nat.reduceEqDiff, Nat.reduceMul, reduceCtorEq, Nat.reduceAdd, Nat.reduceSub, Nat.reduceLeDiff, Nat.reduceLT, Int.reduceToNat, Int.reduceLE, Int.reduceLT, mens, men]
  refine kca_intro (sem_isNaN x) ?_
  simp only [EVA, ↓reduceIte, Nat.reduceEqDiff, Nat.reduceMul, reduceCtorEq, Nat.reduceAdd, Nat.reduceSub, Nat.reduceLeDiff, Nat.reduceLT, Int.reduceToNat, Int.reduceLE, Int.reduceLT, mens, men]
  refine kca_intro (sem_isNaN y) ?_
  simp only [EVA, ↓reduceIte, Nat.reduceEqDiff, Nat.reduceMul, reduceCtorEq, Nat.reduceAdd, Nat.reduceSub, Nat.reduceLeDiff, Nat.reduceLT, Int.reduceToNat, Int.reduceLE, Int.reduceLT, mens, men]
  unfold cmpI
  refine ite_of (fun h => ?_) (fun h => ?_)
  · rw [if_pos h]
  · rw [if_neg h]
    refine ite_of (fun h2 => ?_) (fun h2 => ?_)
    · rw [if_pos h2]
    · rw [if_neg h2]
theorem sem_Compare (a b : List Int) (ha : a.length ≤ 9223372036854775807) (hb : b.length ≤ 9223372036854775807) (lvl : Nat) (S : Sto) : Sem Go.Proofs.Tryz.prog fid_slices_Compare_int_int lvl [tI a, tI b] S (iI (cmpL a b)) S := by
  refine sem_of_chk k_slices_Compare_int_int trivial ?_
  simp only [c_slices_Compare_int_int, List.length_map, EVA, ↓reduceIte, Nat.reduceEqDiff, Nat.reduceMul, reduceCtorEq, Nat.reduceAdd, Nat.reduceSub, Nat.reduceLeDiff, Nat.reduceLT, Int.reduceToNat, Int.reduceLE, Int.reduceLT, mens, men]
  refine wp_count (α := Unit) a.length (fun j _ => ⟨lvl, [(0, tI a), (1, tI b), (9, tI a), (10, iI a.length), (11, iI j)], [], S⟩) (fun j _ => j ≤ b.length ∧ cmpL (a.drop j) (b.drop j) = cmpL a b) () ⟨by simp only [EVA, ↓reduceIte, Nat.reduceEqDiff, Nat.reduceMul, reduceCtorEq, Nat.reduceAdd, Nat.reduceSub, Nat.reduceLeDiff, Nat.reduceLT, Int.reduceToNat, Int.reduceLE, Int.reduceLT, mens, men], by (simp only [EVA, ↓reduceIte, Nat.reduceEqDiff, Nat.reduceMul, reduceCtorEq, Nat.reduceAdd, Nat.reduceSub, Nat.reduceLeDiff, Nat.reduceLT, Int.reduceToNat, Int.reduceLE, Int.reduceLT, mens, men]) <;> rfl⟩ ⟨Nat.zero_le _, rfl⟩ ?_
  intro j _ hj ⟨hjb, hA⟩
  simp only [List.length_map, EVA, ↓reduceIte, Nat.reduceEqDiff, Nat.reduceMul, reduceCtorEq, Nat.reduceAdd, Nat.reduceSub, Nat.reduceLeDiff, Nat.reduceLT, Int.reduceToNat, Int.reduceLE, Int.reduceLT, mens, men]
  refine ite_of (fun hlt => ?_) (fun hge => ?_)
  · have hja : j < a.length := by omega
    have ga := rI_get hja
    have e1 : a.drop j = g0 a j :: a.drop (j + 1) := by rw [List.drop_eq_getElem_cons hja]; simp [hja]
    rw [e1] at hA
    simp only [ga, List.length_map, EVA, ↓reduceIte, Nat.reduceEqDiff, Nat.reduceMul, reduceCtorEq, Nat.reduceAdd, Nat.reduceSub, Nat.reduceLeDiff, Nat.reduceLT, Int.reduceToNat, Int.reduceLE, Int.reduceLT, mens, men]
    refine ite_of (fun hbe => ?_) (fun hbl => ?_)
    · have : b.drop j = [] := List.drop_eq_nil_of_le (by omega)
      rw [this] at hA
      simp only [cmpL] at hA
      rw [← hA]
    · have hjb2 : j < b.length := by omega
      have gb := rI_get hjb2
      have e2 : b.drop j = g0 b j :: b.drop (j + 1) := by rw [List.drop_eq_getElem_cons hjb2]; simp [hjb2]
      rw [e2] at hA
      simp only [cmpL] at hA
      simp only [gb, EVA, ↓reduceIte, Nat.reduceEqDiff, Nat.reduceMul, reduceCtorEq, Nat.reduceAdd, Nat.reduceSub, Nat.reduceLeDiff, Nat.reduceLT, Int.reduceToNat, Int.reduceLE, Int.reduceLT, mens, men]
      refine kca_intro (sem_cmp (g0 a j) (g0 b j)) ?_
      simp only [EVA, ↓reduceIte, Nat.reduceEqDiff, Nat.reduceMul, reduceCtorEq, Nat.reduceAdd, Nat.reduceSub, Nat.reduceLeDiff, Nat.reduceLT, Int.reduceToNat, Int.reduceLE, Int.reduceLT, mens, men]
      unfold cmpI
      by_cases h1 : g0 a j < g0 b j
      · rw [if_pos h1] at hA
        rw [if_pos h1, if_pos (by decide), ← hA]
      · rw [if_neg h1] at hA
        rw [if_neg h1]
        by_cases h2 : g0 b j < g0 a j
        · rw [if_pos h2] at hA
          rw [if_pos h2, if_pos (by decide), ← hA]
        · rw [if_neg h2] at hA
          rw [if_neg h2, if_neg (by decide)]
          exact ⟨by rw [fits_i64]; omega, cntJ_intro () hja rfl ⟨by omega, hA⟩⟩
  · have : j = a.length := by omega
    subst this
    rw [List.drop_length] at hA
    refine ite_of (fun h1 => ?_) (fun h1 => ?_)
    · have hb1 : a.length < b.length := by omega
      have e2 : b.drop a.length = g0 b a.length :: b.drop (a.length + 1) := by rw [List.drop_eq_getElem_cons hb1]; simp [hb1]
      rw [e2] at hA
      simp only [cmpL] at hA
      rw [← hA]
    · have : b.drop a.length = [] := List.drop_eq_nil_of_le (by omega)
      rw [this] at hA
      simp only [cmpL] at hA
      rw [← hA]

end Go.Fd

/-
  NUMBERS OF LIBRARY FUNCTIONS IN THIS PROGRAM, as the guide's shelf lays them (printed by lay.py out of the kit's own command).
-/
namespace Go.Proofs
open Go.Shelf
def Tryz.lays160_ren : Go.Shelf.Ren := ⟨fun | 160 => 131 | 232 => 152 | 231 => 151 | 227 => 153 | 234 => 155 | 233 => 154 | 236 => 157 | 235 => 156 | 228 => 165 | 271 => 168 | 151 => 167 | 197 => 166 | 120 => 176 | 152 => 175 | 260 => 174 | 137 => 181 | 119 => 182 | 224 => 183 | 225 => 184 | 217 => 187 | 266 => 188 | n => n, fun | 9 => 9 | 4 => 4 | 3 => 3 | 5 => 5 | 117 => 147 | 116 => 146 | 0 => 0 | 124 => 150 | 21 => 21 | 105 => 161 | 46 => 100 | 119 => 174 | 139 => 177 | 138 => 176 | n => n, fun | 3 => 2 | 4 => 3 | n => n⟩
theorem Tryz.lays160 : Go.Proofs.Lays.n160 Tryz.prog Tryz.lays160_ren := {
    mixed := by kernel_rfl,
    f119 := Tryz.func182.trans (congrArg some (by kernel_rfl)),
    f120 := Tryz.func176.trans (congrArg some (by kernel_rfl)),
    f137 := Tryz.func181.trans (congrArg some (by kernel_rfl)),
    f151 := Tryz.func167.trans (congrArg some (by kernel_rfl)),
    f152 := Tryz.func175.trans (congrArg some (by kernel_rfl)),
    f160 := Tryz.func131.trans (congrArg some (by kernel_rfl)),
    f197 := Tryz.func166.trans (congrArg some (by kernel_rfl)),
    f217 := Tryz.func187.trans (congrArg some (by kernel_rfl)),
    f224 := Tryz.func183.trans (congrArg some (by kernel_rfl)),
    f225 := Tryz.func184.trans (congrArg some (by kernel_rfl)),
    f227 := Tryz.func153.trans (congrArg some (by kernel_rfl)),
    f228 := Tryz.func165.trans (congrArg some (by kernel_rfl)),
    f231 := Tryz.func151.trans (congrArg some (by kernel_rfl)),
    f232 := Tryz.func152.trans (congrArg some (by kernel_rfl)),
    f233 := Tryz.func154.trans (congrArg some (by kernel_rfl)),
    f234 := Tryz.func155.trans (congrArg some (by kernel_rfl)),
    f235 := Tryz.func156.trans (congrArg some (by kernel_rfl)),
    f236 := Tryz.func157.trans (congrArg some (by kernel_rfl)),
    f260 := Tryz.func174.trans (congrArg some (by kernel_rfl)),
    f266 := Tryz.func188.trans (congrArg some (by kernel_rfl)),
    f271 := Tryz.func168.trans (congrArg some (by kernel_rfl)),
    t0 := Tryz.underlying0,
    a0 := Tryz.isAgg0,
    z0 := Tryz.sizeOf0,
    v0 := Tryz.zeroValue0,
    t3 := Tryz.underlying3,
    a3 := Tryz.isAgg3,
    z3 := Tryz.sizeOf3,
    v3 := Tryz.zeroValue3,
    t4 := Tryz.underlying4,
    a4 := Tryz.isAgg4,
    z4 := Tryz.sizeOf4,
    v4 := Tryz.zeroValue4,
    t5 := Tryz.underlying5,
    a5 := Tryz.isAgg5,
    z5 := Tryz.sizeOf5,
    v5 := Tryz.zeroValue5,
    t9 := Tryz.underlying9,
    a9 := Tryz.isAgg9,
    z9 := Tryz.sizeOf9,
    v9 := Tryz.zeroValue9,
    t21 := Tryz.underlying21,
    a21 := Tryz.isAgg21,
    z21 := Tryz.sizeOf21,
    v21 := Tryz.zeroValue21,
    t46 := Tryz.underlying100,
    a46 := Tryz.isAgg100,
    z46 := Tryz.sizeOf100,
    v46 := Tryz.zeroValue100,
    t105 := Tryz.underlying161,
    a105 := Tryz.isAgg161,
    z105 := Tryz.sizeOf161,
    v105 := Tryz.zeroValue161,
    t116 := Tryz.underlying146,
    a116 := Tryz.isAgg146,
    z116 := Tryz.sizeOf146,
    t117 := Tryz.underlying147,
    a117 := Tryz.isAgg147,
    z117 := Tryz.sizeOf147,
    v117 := Tryz.zeroValue147,
    t119 := Tryz.underlying174,
    a119 := Tryz.isAgg174,
    z119 := Tryz.sizeOf174,
    t124 := Tryz.underlying150,
    a124 := Tryz.isAgg150,
    z124 := Tryz.sizeOf150,
    v124 := Tryz.zeroValue150,
    t138 := Tryz.underlying176,
    a138 := Tryz.isAgg176,
    z138 := Tryz.sizeOf176,
    v138 := Tryz.zeroValue176,
    t139 := Tryz.underlying177,
    a139 := Tryz.isAgg177,
    z139 := Tryz.sizeOf177,
    v139 := Tryz.zeroValue177,
    g3 := by kernel_rfl,
    g4 := by kernel_rfl }
def Tryz.lays171_ren : Go.Shelf.Ren := ⟨fun | 171 => 108 | 243 => 133 | 246 => 158 | 283 => 169 | 284 => 170 | 285 => 171 | 286 => 172 | 129 => 129 | 317 => 177 | 318 => 178 | 319 => 179 | 320 => 180 | 337 => 185 | 338 => 186 | n => n, fun | 3 => 3 | 9 => 9 | 2 => 2 | 4 => 4 | 171 => 164 | 0 => 0 | 53 => 129 | 37 => 94 | 5 => 5 | 173 => 166 | 212 => 172 | 51 => 127 | 20 => 20 | 213 => 173 | 46 => 100 | 232 => 181 | 233 => 182 | n => n, fun | 17 => 1 | 18 => 4 | 19 => 5 | n => n⟩
theorem Tryz.lays171 : Go.Proofs.Lays.n171 Tryz.prog Tryz.lays171_ren := {
    mixed := by kernel_rfl,
    f129 := Tryz.func129.trans (congrArg some (by kernel_rfl)),
    f171 := Tryz.func108.trans (congrArg some (by kernel_rfl)),
    f243 := Tryz.func133.trans (congrArg some (by kernel_rfl)),
    f246 := Tryz.func158.trans (congrArg some (by kernel_rfl)),
    f283 := Tryz.func169.trans (congrArg some (by kernel_rfl)),
    f284 := Tryz.func170.trans (congrArg some (by kernel_rfl)),
    f285 := Tryz.func171.trans (congrArg some (by kernel_rfl)),
    f286 := Tryz.func172.trans (congrArg some (by kernel_rfl)),
    f317 := Tryz.func177.trans (congrArg some (by kernel_rfl)),
    f318 := Tryz.func178.trans (congrArg some (by kernel_rfl)),
    f319 := Tryz.func179.trans (congrArg some (by kernel_rfl)),
    f320 := Tryz.func180.trans (congrArg some (by kernel_rfl)),
    f337 := Tryz.func185.trans (congrArg some (by kernel_rfl)),
    f338 := Tryz.func186.trans (congrArg some (by kernel_rfl)),
    t0 := Tryz.underlying0,
    a0 := Tryz.isAgg0,
    z0 := Tryz.sizeOf0,
    v0 := Tryz.zeroValue0,
    t2 := Tryz.underlying2,
    a2 := Tryz.isAgg2,
    z2 := Tryz.sizeOf2,
    v2 := Tryz.zeroValue2,
    t3 := Tryz.underlying3,
    a3 := Tryz.isAgg3,
    z3 := Tryz.sizeOf3,
    v3 := Tryz.zeroValue3,
    t4 := Tryz.underlying4,
    a4 := Tryz.isAgg4,
    z4 := Tryz.sizeOf4,
    v4 := Tryz.zeroValue4,
    t5 := Tryz.underlying5,
    a5 := Tryz.isAgg5,
    z5 := Tryz.sizeOf5,
    v5 := Tryz.zeroValue5,
    t9 := Tryz.underlying9,
    a9 := Tryz.isAgg9,
    z9 := Tryz.sizeOf9,
    v9 := Tryz.zeroValue9,
    t20 := Tryz.underlying20,
    a20 := Tryz.isAgg20,
    z20 := Tryz.sizeOf20,
    v20 := Tryz.zeroValue20,
    t37 := Tryz.underlying94,
    a37 := Tryz.isAgg94,
    z37 := Tryz.sizeOf94,
    v37 := Tryz.zeroValue94,
    t46 := Tryz.underlying100,
    a46 := Tryz.isAgg100,
    z46 := Tryz.sizeOf100,
    v46 := Tryz.zeroValue100,
    t51 := Tryz.underlying127,
    a51 := Tryz.isAgg127,
    z51 := Tryz.sizeOf127,
    v51 := Tryz.zeroValue127,
    t53 := Tryz.underlying129,
    a53 := Tryz.isAgg129,
    z53 := Tryz.sizeOf129,
    v53 := Tryz.zeroValue129,
    t171 := Tryz.underlying164,
    a171 := Tryz.isAgg164,
    z171 := Tryz.sizeOf164,
    v171 := Tryz.zeroValue164,
    t173 := Tryz.underlying166,
    a173 := Tryz.isAgg166,
    z173 := Tryz.sizeOf166,
    v173 := Tryz.zeroValue166,
    t212 := Tryz.underlying172,
    a212 := Tryz.isAgg172,
    z212 := Tryz.sizeOf172,
    v212 := Tryz.zeroValue172,
    t213 := Tryz.underlying173,
    a213 := Tryz.isAgg173,
    z213 := Tryz.sizeOf173,
    t232 := Tryz.underlying181,
    a232 := Tryz.isAgg181,
    z232 := Tryz.sizeOf181,
    v232 := Tryz.zeroValue181,
    t233 := Tryz.underlying182,
    a233 := Tryz.isAgg182,
    z233 := Tryz.sizeOf182,
    v233 := Tryz.zeroValue182,
    g17 := by kernel_rfl,
    g18 := by kernel_rfl,
    g19 := by kernel_rfl }
def Tryz.lays156_ren : Go.Shelf.Ren := ⟨fun | 156 => 77 | 165 => 109 | 166 => 110 | 169 => 111 | 240 => 134 | 241 => 135 | 276 => 159 | 277 => 160 | n => n, fun | 31 => 86 | 9 => 9 | 3 => 3 | 4 => 4 | 0 => 0 | 20 => 20 | 72 => 109 | 76 => 113 | 70 => 107 | 37 => 94 | 75 => 112 | 127 => 132 | 164 => 152 | 5 => 5 | 80 => 115 | n => n, fun | n => n⟩
theorem Tryz.lays156 : Go.Proofs.Lays.n156 Tryz.prog Tryz.lays156_ren := {
    mixed := by kernel_rfl,
    f156 := Tryz.func77.trans (congrArg some (by kernel_rfl)),
    f165 := Tryz.func109.trans (congrArg some (by kernel_rfl)),
    f166 := Tryz.func110.trans (congrArg some (by kernel_rfl)),
    f169 := Tryz.func111.trans (congrArg some (by kernel_rfl)),
    f240 := Tryz.func134.trans (congrArg some (by kernel_rfl)),
    f241 := Tryz.func135.trans (congrArg some (by kernel_rfl)),
    f276 := Tryz.func159.trans (congrArg some (by kernel_rfl)),
    f277 := Tryz.func160.trans (congrArg some (by kernel_rfl)),
    t0 := Tryz.underlying0,
    a0 := Tryz.isAgg0,
    z0 := Tryz.sizeOf0,
    v0 := Tryz.zeroValue0,
    t3 := Tryz.underlying3,
    a3 := Tryz.isAgg3,
    z3 := Tryz.sizeOf3,
    v3 := Tryz.zeroValue3,
    t4 := Tryz.underlying4,
    a4 := Tryz.isAgg4,
    z4 := Tryz.sizeOf4,
    v4 := Tryz.zeroValue4,
    t9 := Tryz.underlying9,
    a9 := Tryz.isAgg9,
    z9 := Tryz.sizeOf9,
    v9 := Tryz.zeroValue9,
    t20 := Tryz.underlying20,
    a20 := Tryz.isAgg20,
    z20 := Tryz.sizeOf20,
    v20 := Tryz.zeroValue20,
    t31 := Tryz.underlying86,
    a31 := Tryz.isAgg86,
    z31 := Tryz.sizeOf86,
    v31 := Tryz.zeroValue86,
    t37 := Tryz.underlying94,
    a37 := Tryz.isAgg94,
    z37 := Tryz.sizeOf94,
    v37 := Tryz.zeroValue94,
    t70 := Tryz.underlying107,
    a70 := Tryz.isAgg107,
    z70 := Tryz.sizeOf107,
    v70 := Tryz.zeroValue107,
    t72 := Tryz.underlying109,
    a72 := Tryz.isAgg109,
    z72 := Tryz.sizeOf109,
    v72 := Tryz.zeroValue109,
    t75 := Tryz.underlying112,
    a75 := Tryz.isAgg112,
    z75 := Tryz.sizeOf112,
    v75 := Tryz.zeroValue112,
    t76 := Tryz.underlying113,
    a76 := Tryz.isAgg113,
    z76 := Tryz.sizeOf113,
    v76 := Tryz.zeroValue113,
    t127 := Tryz.underlying132,
    a127 := Tryz.isAgg132,
    z127 := Tryz.sizeOf132,
    v127 := Tryz.zeroValue132,
    t164 := Tryz.underlying152,
    a164 := Tryz.isAgg152,
    z164 := Tryz.sizeOf152,
    v164 := Tryz.zeroValue152 }
end Go.Proofs

/-
  NAMES AND SIGNATURES, BOTH SIDES. Own work.
-/
namespace Go.Fd
set_option maxRecDepth 20000

def callB (P : Program) (f : FuncId) : Bool := match P.funcs[f]? with | some fn => fn.body.isSome && !(fn.name == "runtime.NumGoroutine") | none => false

theorem callB_ok {P : Program} {f : FuncId} (h : callB P f = true) : Callable P f := by
  unfold callB at h
  split at h
  · rename_i fn hf
    simp only [Bool.and_eq_true, Bool.not_eq_true'] at h
    exact ⟨fn, hf, h.1, h.2⟩
  · cases h

abbrev AZ : ByteArray := ⟨#[97, 98, 99, 100, 101, 102, 103, 104, 105, 106, 107, 108, 109, 110, 111, 112, 113, 114, 115, 116, 117, 118, 119, 120, 121, 122]⟩

theorem sem_Trim (s : ByteArray) (hs : s.size ≤ 9223372036854775807) (lvl : Nat) (S : Sto) : Sem Go.Proofs.Tryz.prog fid_strings_Trim lvl [iS s, iS AZ] S (iS ⟨(Lib.trimS s.data.toList AZ.data.toList).toArray⟩) S :=
  sem_of_scal (xs := [.string s, .string AZ]) (callB_ok (by kernel_rfl)) rfl (fun w => Go.Proofs.Any.strings_Trim_laid Go.Proofs.Tryz.lays160 (by kernel_rfl) s AZ w hs (by decide) (Go.Proofs.ascii_of_all (by decide)))

/-- A name: one to four small letters. -/
def isNm (s : ByteArray) : Prop := (∀ b ∈ s.data.toList, 97 ≤ b.toNat ∧ b.toNat ≤ 122) ∧ 1 ≤ s.size ∧ s.size ≤ 4

theorem size_list (s : ByteArray) : s.size = s.data.toList.length := by rw [Array.length_toList]; rfl

theorem az_mem (b : UInt8) : b ∈ AZ.data.toList ↔ 97 ≤ b.toNat ∧ b.toNat ≤ 122 := by
  have : ∀ n : Fin 256, (UInt8.ofNat n.val) ∈ AZ.data.toList ↔ 97 ≤ n.val ∧ n.val ≤ 122 := by decide +kernel
  have h : UInt8.ofNat b.toNat ∈ AZ.data.toList ↔ 97 ≤ b.toNat ∧ b.toNat ≤ 122 := this ⟨b.toNat, b.toNat_lt⟩
  rw [show UInt8.ofNat b.toNat = b from UInt8.ofNat_toNat] at h
  exact h

theorem dw_nil {p : UInt8 → Bool} : ∀ {l : List UInt8}, l.dropWhile p = [] ↔ ∀ b ∈ l, p b = true
  | [] => by simp
  | x :: r => by
    simp only [List.dropWhile_cons, List.mem_cons, forall_eq_or_imp]
    cases h : p x with
    | true => simp [dw_nil (l := r)]
    | false => simp

theorem tw_mem {p : UInt8 → Bool} {b : UInt8} : ∀ {l : List UInt8}, b ∈ l.takeWhile p → p b = true
  | [], h => by simp at h
  | x :: r, h => by
    rw [List.takeWhile_cons] at h
    split at h
    · rename_i hx
      rcases List.mem_cons.1 h with rfl | h
      · exact hx
      · exact tw_mem h
    · cases h

theorem drop_nil {l cs : List UInt8} (h : ∀ b ∈ l, b ∈ cs) : l.dropWhile (cs.contains ·) = [] := by
  rw [dw_nil]
  intro b hb
  simpa using h b hb

theorem trimS_nil {l cs : List UInt8} : Lib.trimS l cs = [] ↔ ∀ b ∈ l, b ∈ cs := by
  unfold Lib.trimS Lib.trimLeftS Lib.trimRightS
  constructor
  · intro h b hb
    rw [dw_nil] at h
    have hrev : ∀ x ∈ (l.reverse.dropWhile (cs.contains ·)), x ∈ cs := fun x hx => by
      have := h x (by simpa using hx)
      simpa using this
    have hsplit : l.reverse = l.reverse.takeWhile (cs.contains ·) ++ l.reverse.dropWhile (cs.contains ·) := (List.takeWhile_append_dropWhile).symm
    have hb2 : b ∈ l.reverse := by simpa using hb
    rw [hsplit] at hb2
    rcases List.mem_append.1 hb2 with h1 | h1
    · have := tw_mem h1
      simpa using this
    · exact hrev b h1
  · intro h
    rw [drop_nil (l := l.reverse) (fun b hb => h b (by simpa using hb))]
    rfl

theorem sem_l2Name (s : ByteArray) (hs : s.size ≤ 9223372036854775807) (lvl : Nat) (S : Sto) : Sem Go.Proofs.Tryz.prog fid_spec_l2Name lvl [iS s] S (iB (dc (isNm s))) S := by
  refine sem_of_chk k_spec_l2Name trivial ?_
  simp only [c_spec_l2Name, EVA, ↓reduceIte, Nat.reduceEqDiff, Nat.reduceMul, reduceCtorEq, Nat.reduceAdd, Nat.reduceSub, Nat.reduceLeDiff, Nat.reduceLT, Int.reduceToNat, Int.reduceLE, Int.reduceLT, mens, men]
  refine wp_cnt (α := Unit) s.size (fun j _ => [(3, iI j)]) (fun _ _ => []) (fun j _ => ∀ b ∈ s.data.toList.take j, 97 ≤ b.toNat ∧ b.toNat ≤ 122) () (by simp only [EVA, ↓reduceIte, Nat.reduceEqDiff, Nat.reduceMul, reduceCtorEq, Nat.reduceAdd, Nat.reduceSub, Nat.reduceLeDiff, Nat.reduceLT, Int.reduceToNat, Int.reduceLE, Int.reduceLT, mens, men]) (by (simp only [EVA, ↓reduceIte, Nat.reduceEqDiff, Nat.reduceMul, reduceCtorEq, Nat.reduceAdd, Nat.reduceSub, Nat.reduceLeDiff, Nat.reduceLT, Int.reduceToNat, Int.reduceLE, Int.reduceLT, mens, men]) <;> rfl) (fun b hb => by simp at hb) ?_
  intro j _ hj hA
  simp only [EVA, ↓reduceIte, Nat.reduceEqDiff, Nat.reduceMul, reduceCtorEq, Nat.reduceAdd, Nat.reduceSub, Nat.reduceLeDiff, Nat.reduceLT, Int.reduceToNat, Int.reduceLE, Int.reduceLT, mens, men]
  refine ite_of (fun hlt => ?_) (fun hge => ?_)
  · have hja : j < s.data.toList.length := by rw [← size_list]; omega
    have ga : s.data.toList[j]? = some (s.data.toList[j]) := List.getElem?_eq_getElem hja
    have hno : ¬ (97 ≤ (s.data.toList[j]).toNat ∧ (s.data.toList[j]).toNat ≤ 122) → ¬ isNm s := fun h hn => h (hn.1 _ (List.getElem_mem hja))
    by_cases h1 : ((s.data.toList[j]).toNat : Int) < 97
    · simp only [ga, h1, EVA, ↓reduceIte, Nat.reduceEqDiff, Nat.reduceMul, reduceCtorEq, Nat.reduceAdd, Nat.reduceSub, Nat.reduceLeDiff, Nat.reduceLT, Int.reduceToNat, Int.reduceLE, Int.reduceLT, mens, men]
      rw [dc_false (hno (by omega))]
    by_cases h2 : (122 : Int) < (s.data.toList[j]).toNat
    · simp only [ga, h1, h2, EVA, ↓reduceIte, Nat.reduceEqDiff, Nat.reduceMul, reduceCtorEq, Nat.reduceAdd, Nat.reduceSub, Nat.reduceLeDiff, Nat.reduceLT, Int.reduceToNat, Int.reduceLE, Int.reduceLT, mens, men]
      rw [dc_false (hno (by omega))]
    · simp only [ga, h1, h2, EVA, ↓reduceIte, Nat.reduceEqDiff, Nat.reduceMul, reduceCtorEq, Nat.reduceAdd, Nat.reduceSub, Nat.reduceLeDiff, Nat.reduceLT, Int.reduceToNat, Int.reduceLE, Int.reduceLT, mens, men]
      refine ⟨by rw [fits_i64]; omega, cntJ_intro () (by omega) rfl ?_⟩
      intro b hb
      rw [List.take_succ_eq_append_getElem hja] at hb
      rcases List.mem_append.1 hb with h | h
      · exact hA b h
      · have : b = s.data.toList[j] := by simpa using h
        subst this
        omega
  · have : j = s.size := by omega
    subst this
    rw [size_list, List.take_length] at hA
    refine kca_intro (sem_l1In s.size 1 4) ?_
    simp only [EVA, ↓reduceIte, Nat.reduceEqDiff, Nat.reduceMul, reduceCtorEq, Nat.reduceAdd, Nat.reduceSub, Nat.reduceLeDiff, Nat.reduceLT, Int.reduceToNat, Int.reduceLE, Int.reduceLT, mens, men]
    rw [dc_congr (q := 1 ≤ s.size ∧ s.size ≤ 4) ⟨fun h => h.2, fun h => ⟨hA, h⟩⟩]
    by_cases h : 1 ≤ s.size ∧ s.size ≤ 4
    · rw [dc_true h, inB_iff.2 (by omega)]
    · rw [dc_false h, inB_not.2 (by omega)]

theorem sem_isName (s : ByteArray) (hs : s.size ≤ 9223372036854775807) (lvl : Nat) (S : Sto) : Sem Go.Proofs.Tryz.prog fid_impl_isName lvl [iS s] S (iB (dc (isNm s))) S := by
  refine sem_of_chk k_impl_isName trivial ?_
  simp only [c_impl_isName, EVA, ↓reduceIte, Nat.reduceEqDiff, Nat.reduceMul, reduceCtorEq, Nat.reduceAdd, Nat.reduceSub, Nat.reduceLeDiff, Nat.reduceLT, Int.reduceToNat, Int.reduceLE, Int.reduceLT, mens, men]
  refine kca_intro (sem_within s.size 1 4) ?_
  simp only [EVA, ↓reduceIte, Nat.reduceEqDiff, Nat.reduceMul, reduceCtorEq, Nat.reduceAdd, Nat.reduceSub, Nat.reduceLeDiff, Nat.reduceLT, Int.reduceToNat, Int.reduceLE, Int.reduceLT, mens, men]
  cases hin : inB (s.size : Int) 1 4 with
  | false =>
    have : ¬ isNm s := fun h => (inB_not.1 hin) (by have := h.2; omega)
    rw [dc_false this]
    simp only [EVA, ↓reduceIte, Nat.reduceEqDiff, Nat.reduceMul, reduceCtorEq, Nat.reduceAdd, Nat.reduceSub, Nat.reduceLeDiff, Nat.reduceLT, Int.reduceToNat, Int.reduceLE, Int.reduceLT, mens, men]
  | true =>
    have hin' := inB_iff.1 hin
    simp only [EVA, ↓reduceIte, Nat.reduceEqDiff, Nat.reduceMul, reduceCtorEq, Nat.reduceAdd, Nat.reduceSub, Nat.reduceLeDiff, Nat.reduceLT, Int.reduceToNat, Int.reduceLE, Int.reduceLT, mens, men]
    refine kca_intro (sem_Trim s hs) ?_
    simp only [EVA, ↓reduceIte, Nat.reduceEqDiff, Nat.reduceMul, reduceCtorEq, Nat.reduceAdd, Nat.reduceSub, Nat.reduceLeDiff, Nat.reduceLT, Int.reduceToNat, Int.reduceLE, Int.reduceLT, mens, men]
    by_cases h : isNm s
    · have : Lib.trimS s.data.toList AZ.data.toList = [] := trimS_nil.2 (fun b hb => (az_mem b).2 (h.1 b hb))
      rw [dc_true h, this]
      rfl
    · have : ¬ Lib.trimS s.data.toList AZ.data.toList = [] := fun e => h ⟨fun b hb => (az_mem b).1 (trimS_nil.1 e b hb), by omega, by omega⟩
      rw [dc_false h]
      have h2 : ¬ (⟨(Lib.trimS s.data.toList AZ.data.toList).toArray⟩ : ByteArray) = ⟨#[]⟩ := fun e => this (by
        have := congrArg (fun b : ByteArray => b.data.toList) e
        simpa using this)
      simp [h2]

/-- A signature: each control has a name, few ports and a kind; no two have one name. -/
def ctlOK (c : TControl) : Prop := isNm c.name ∧ (0 ≤ c.ports ∧ c.ports ≤ 3) ∧ 0 ≤ c.kind_ ∧ c.kind_ ≤ 2

def sigAt (sig : List TControl) (i : Nat) : Prop := ∀ h : i < sig.length, ctlOK sig[i] ∧ ∀ k (hk : k < i), (sig[k]'(by omega)).name ≠ sig[i].name

def sigOK (sig : List TControl) : Prop := (∀ i, sigAt sig i) ∧ 1 ≤ sig.length ∧ sig.length ≤ 6

theorem sem_IsSignature_1 (c d : TControl) (lvl : Nat) (S : Sto) : Sem Go.Proofs.Tryz.prog fid_impl_IsSignature_1 lvl [.ag ((cControl d).map .tr), .ta (cControl c)] S (iB (decide (d.name = c.name))) S := by
  refine sem_of_chk k_impl_IsSignature_1 trivial ?_
  simp only [c_impl_IsSignature_1, cControl, EVA, ↓reduceIte, Nat.reduceEqDiff, Nat.reduceMul, reduceCtorEq, Nat.reduceAdd, Nat.reduceSub, Nat.reduceLeDiff, Nat.reduceLT, Int.reduceToNat, Int.reduceLE, Int.reduceLT, mens, men]

theorem g_ixFControl : chkF Go.Proofs.Tryz.prog fid_slices_IndexFunc_impl_Control_impl_Control (gIxF 3 (some 3)) = true := by kernel_rfl

theorem g_coFControl : chkF Go.Proofs.Tryz.prog fid_slices_ContainsFunc_impl_Control_impl_Control (gCoF fid_slices_IndexFunc_impl_Control_impl_Control) = true := by kernel_rfl

theorem sem_l2Sig (sig : List TControl) (hl : sig.length ≤ 9223372036854775807) (hb : ∀ y ∈ sig, bdControl 9223372036854775807 y) (lvl : Nat) (S : Sto) : Sem Go.Proofs.Tryz.prog fid_spec_l2Sig lvl [.tr (.sl (sig.map cControl))] S (iB (dc (sigOK sig))) S := by
  refine sem_of_chk k_spec_l2Sig trivial ?_
  simp only [c_spec_l2Sig, List.length_map, EVA, ↓reduceIte, Nat.reduceEqDiff, Nat.reduceMul, reduceCtorEq, Nat.reduceAdd, Nat.reduceSub, Nat.reduceLeDiff, Nat.reduceLT, Int.reduceToNat, Int.reduceLE, Int.reduceLT, mens, men]
  refine wp_cnt (α := Unit) sig.length (fun j _ => [(3, iI j)]) (fun _ _ => []) (fun j _ => ∀ i, i < j → sigAt sig i) () (by simp only [EVA, ↓reduceIte, Nat.reduceEqDiff, Nat.reduceMul, reduceCtorEq, Nat.reduceAdd, Nat.reduceSub, Nat.reduceLeDiff, Nat.reduceLT, Int.reduceToNat, Int.reduceLE, Int.reduceLT, mens, men]) (by (simp only [EVA, ↓reduceIte, Nat.reduceEqDiff, Nat.reduceMul, reduceCtorEq, Nat.reduceAdd, Nat.reduceSub, Nat.reduceLeDiff, Nat.reduceLT, Int.reduceToNat, Int.reduceLE, Int.reduceLT, mens, men]) <;> rfl) (fun i hi => by omega) ?_
  intro j _ hj hA
  simp only [List.length_map, EVA, ↓reduceIte, Nat.reduceEqDiff, Nat.reduceMul, reduceCtorEq, Nat.reduceAdd, Nat.reduceSub, Nat.reduceLeDiff, Nat.reduceLT, Int.reduceToNat, Int.reduceLE, Int.reduceLT, mens, men]
  refine ite_of (fun hlt => ?_) (fun hge => ?_)
  · have hja : j < sig.length := by omega
    have ga := getA (c := cControl) hja
    have hbj : sig[j].name.size ≤ 9223372036854775807 := hb _ (List.getElem_mem hja)
    have hno : ¬ ctlOK sig[j] → ¬ sigOK sig := fun h hs => h (hs.1 j hja).1
    simp only [ga, cControl, EVA, ↓reduceIte, Nat.reduceEqDiff, Nat.reduceMul, reduceCtorEq, Nat.reduceAdd, Nat.reduceSub, Nat.reduceLeDiff, Nat.reduceLT, Int.reduceToNat, Int.reduceLE, Int.reduceLT, mens, men]
    refine kca_intro (sem_l2Name sig[j].name hbj) ?_
    simp only [ga, cControl, EVA, ↓reduceIte, Nat.reduceEqDiff, Nat.reduceMul, reduceCtorEq, Nat.reduceAdd, Nat.reduceSub, Nat.reduceLeDiff, Nat.reduceLT, Int.reduceToNat, Int.reduceLE, Int.reduceLT, mens, men]
    cases hn : dc (isNm sig[j].name) with
    | false =>
      simp only [EVA, ↓reduceIte, Nat.reduceEqDiff, Nat.reduceMul, reduceCtorEq, Nat.reduceAdd, Nat.reduceSub, Nat.reduceLeDiff, Nat.reduceLT, Int.reduceToNat, Int.reduceLE, Int.reduceLT, mens, men]
      rw [dc_false (hno fun h => dc_not.1 hn h.1)]
    | true =>
      have hn' := dc_iff.1 hn
      simp only [ga, cControl, EVA, ↓reduceIte, Nat.reduceEqDiff, Nat.reduceMul, reduceCtorEq, Nat.reduceAdd, Nat.reduceSub, Nat.reduceLeDiff, Nat.reduceLT, Int.reduceToNat, Int.reduceLE, Int.reduceLT, mens, men]
      refine kca_intro (sem_l1In sig[j].ports 0 3) ?_
      simp only [ga, cControl, EVA, ↓reduceIte, Nat.reduceEqDiff, Nat.reduceMul, reduceCtorEq, Nat.reduceAdd, Nat.reduceSub, Nat.reduceLeDiff, Nat.reduceLT, Int.reduceToNat, Int.reduceLE, Int.reduceLT, mens, men]
      cases hp : inB sig[j].ports 0 3 with
      | false =>
        simp only [EVA, ↓reduceIte, Nat.reduceEqDiff, Nat.reduceMul, reduceCtorEq, Nat.reduceAdd, Nat.reduceSub, Nat.reduceLeDiff, Nat.reduceLT, Int.reduceToNat, Int.reduceLE, Int.reduceLT, mens, men]
        rw [dc_false (hno fun h => inB_not.1 hp h.2.1)]
      | true =>
        have hp' := inB_iff.1 hp
        simp only [ga, cControl, EVA, ↓reduceIte, Nat.reduceEqDiff, Nat.reduceMul, reduceCtorEq, Nat.reduceAdd, Nat.reduceSub, Nat.reduceLeDiff, Nat.reduceLT, Int.reduceToNat, Int.reduceLE, Int.reduceLT, mens, men]
        refine kca_intro (sem_l1In sig[j].kind_ 0 2) ?_
        simp only [ga, cControl, EVA, ↓reduceIte, Nat.reduceEqDiff, Nat.reduceMul, reduceCtorEq, Nat.reduceAdd, Nat.reduceSub, Nat.reduceLeDiff, Nat.reduceLT, Int.reduceToNat, Int.reduceLE, Int.reduceLT, mens, men]
        cases hk : inB sig[j].kind_ 0 2 with
        | false =>
          simp only [EVA, ↓reduceIte, Nat.reduceEqDiff, Nat.reduceMul, reduceCtorEq, Nat.reduceAdd, Nat.reduceSub, Nat.reduceLeDiff, Nat.reduceLT, Int.reduceToNat, Int.reduceLE, Int.reduceLT, mens, men]
          rw [dc_false (hno fun h => inB_not.1 hk h.2.2)]
        | true =>
          have hk' := inB_iff.1 hk
          simp only [EVA, ↓reduceIte, Nat.reduceEqDiff, Nat.reduceMul, reduceCtorEq, Nat.reduceAdd, Nat.reduceSub, Nat.reduceLeDiff, Nat.reduceLT, Int.reduceToNat, Int.reduceLE, Int.reduceLT, mens, men]
          refine wp_cnt (α := Unit) j (fun k _ => [(4, iI k)]) (fun _ _ => []) (fun k _ => ∀ i (hi : i < k), k ≤ j → ∀ hi2 : i < sig.length, (sig[i]'hi2).name ≠ sig[j].name) () (by simp only [EVA, ↓reduceIte, Nat.reduceEqDiff, Nat.reduceMul, reduceCtorEq, Nat.reduceAdd, Nat.reduceSub, Nat.reduceLeDiff, Nat.reduceLT, Int.reduceToNat, Int.reduceLE, Int.reduceLT, mens, men]) (by (simp only [EVA, ↓reduceIte, Nat.reduceEqDiff, Nat.reduceMul, reduceCtorEq, Nat.reduceAdd, Nat.reduceSub, Nat.reduceLeDiff, Nat.reduceLT, Int.reduceToNat, Int.reduceLE, Int.reduceLT, mens, men]) <;> rfl) (fun i hi => by omega) ?_
          intro k _ hkj hB
          simp only [List.length_map, EVA, ↓reduceIte, Nat.reduceEqDiff, Nat.reduceMul, reduceCtorEq, Nat.reduceAdd, Nat.reduceSub, Nat.reduceLeDiff, Nat.reduceLT, Int.reduceToNat, Int.reduceLE, Int.reduceLT, mens, men]
          refine ite_of (fun hlt2 => ?_) (fun hge2 => ?_)
          · have hka : k < sig.length := by omega
            have gb := getA (c := cControl) hka
            simp only [ga, gb, cControl, EVA, ↓reduceIte, Nat.reduceEqDiff, Nat.reduceMul, reduceCtorEq, Nat.reduceAdd, Nat.reduceSub, Nat.reduceLeDiff, Nat.reduceLT, Int.reduceToNat, Int.reduceLE, Int.reduceLT, mens, men]
            refine ite_of (fun he => ?_) (fun hne => ?_)
            · rw [dc_false (fun hs : sigOK sig => (hs.1 j hja).2 k (by omega) he)]
            · refine ⟨by rw [fits_i64]; omega, cntJ_intro () (by omega) rfl (fun i hi _ hi2 => ?_)⟩
              by_cases e : i = k
              · subst e; exact hne
              · exact hB i (by omega) (by omega) hi2
          · have : k = j := by omega
            subst this
            refine ⟨by rw [fits_i64]; omega, cntJ_intro () hja rfl (fun i hi => ?_)⟩
            by_cases e : i = k
            · subst e
              exact fun h => ⟨⟨hn', hp', hk'⟩, fun q hq => hB q hq (Nat.le_refl _) (by omega)⟩
            · exact hA i (by omega)
  · have : j = sig.length := by omega
    subst this
    refine kca_intro (sem_l1In sig.length 1 6) ?_
    simp only [EVA, ↓reduceIte, Nat.reduceEqDiff, Nat.reduceMul, reduceCtorEq, Nat.reduceAdd, Nat.reduceSub, Nat.reduceLeDiff, Nat.reduceLT, Int.reduceToNat, Int.reduceLE, Int.reduceLT, mens, men]
    have hall : ∀ i, sigAt sig i := fun i h => hA i h h
    rw [dc_congr (q := 1 ≤ sig.length ∧ sig.length ≤ 6) ⟨fun h => h.2, fun h => ⟨hall, h⟩⟩]
    by_cases h : 1 ≤ sig.length ∧ sig.length ≤ 6
    · rw [dc_true h, inB_iff.2 (by omega)]
    · rw [dc_false h, inB_not.2 (by omega)]

theorem sem_impl_IsSignature (sig : List TControl) (hl : sig.length ≤ 9223372036854775807) (hb : ∀ y ∈ sig, bdControl 9223372036854775807 y) (lvl : Nat) (S : Sto) : Sem Go.Proofs.Tryz.prog fid_impl_IsSignature lvl [.tr (.sl (sig.map cControl))] S (iB (dc (sigOK sig))) S := by
  refine sem_of_chk k_impl_IsSignature trivial ?_
  simp only [c_impl_IsSignature, List.length_map, EVA, ↓reduceIte, Nat.reduceEqDiff, Nat.reduceMul, reduceCtorEq, Nat.reduceAdd, Nat.reduceSub, Nat.reduceLeDiff, Nat.reduceLT, Int.reduceToNat, Int.reduceLE, Int.reduceLT, mens, men]
  refine kca_intro (sem_within sig.length 1 6) ?_
  simp only [List.length_map, EVA, ↓reduceIte, Nat.reduceEqDiff, Nat.reduceMul, reduceCtorEq, Nat.reduceAdd, Nat.reduceSub, Nat.reduceLeDiff, Nat.reduceLT, Int.reduceToNat, Int.reduceLE, Int.reduceLT, mens, men]
  refine ite_of (fun h => ?_) (fun h => ?_)
  · rw [dc_false (fun hs : sigOK sig => (inB_not.1 h) (by have := hs.2; omega))]
  have hln := inB_iff.1 (by simpa using h)
  refine wp_cnt (α := Unit) sig.length (fun j _ => [(11, iI j)]) (fun _ _ => []) (fun j _ => ∀ i, i < j → sigAt sig i) () (by simp only [EVA, ↓reduceIte, Nat.reduceEqDiff, Nat.reduceMul, reduceCtorEq, Nat.reduceAdd, Nat.reduceSub, Nat.reduceLeDiff, Nat.reduceLT, Int.reduceToNat, Int.reduceLE, Int.reduceLT, mens, men]) (by (simp only [EVA, ↓reduceIte, Nat.reduceEqDiff, Nat.reduceMul, reduceCtorEq, Nat.reduceAdd, Nat.reduceSub, Nat.reduceLeDiff, Nat.reduceLT, Int.reduceToNat, Int.reduceLE, Int.reduceLT, mens, men]) <;> rfl) (fun i hi => by omega) ?_
  intro j _ hj hA
  simp only [List.length_map, EVA, ↓reduceIte, Nat.reduceEqDiff, Nat.reduceMul, reduceCtorEq, Nat.reduceAdd, Nat.reduceSub, Nat.reduceLeDiff, Nat.reduceLT, Int.reduceToNat, Int.reduceLE, Int.reduceLT, mens, men]
  refine ite_of (fun hlt => ?_) (fun hge => ?_)
  · have hja : j < sig.length := by omega
    have ga := getA (c := cControl) hja
    have hbj : sig[j].name.size ≤ 9223372036854775807 := hb _ (List.getElem_mem hja)
    have hno : ¬ ctlOK sig[j] → ¬ sigOK sig := fun h hs => h (hs.1 j hja).1
    simp only [ga, cControl, EVA, ↓reduceIte, Nat.reduceEqDiff, Nat.reduceMul, reduceCtorEq, Nat.reduceAdd, Nat.reduceSub, Nat.reduceLeDiff, Nat.reduceLT, Int.reduceToNat, Int.reduceLE, Int.reduceLT, mens, men]
    refine kca_intro (sem_isName sig[j].name hbj) ?_
    simp only [ga, cControl, EVA, ↓reduceIte, Nat.reduceEqDiff, Nat.reduceMul, reduceCtorEq, Nat.reduceAdd, Nat.reduceSub, Nat.reduceLeDiff, Nat.reduceLT, Int.reduceToNat, Int.reduceLE, Int.reduceLT, mens, men]
    cases hn : dc (isNm sig[j].name) with
    | false =>
      simp only [EVA, ↓reduceIte, Nat.reduceEqDiff, Nat.reduceMul, reduceCtorEq, Nat.reduceAdd, Nat.reduceSub, Nat.reduceLeDiff, Nat.reduceLT, Int.reduceToNat, Int.reduceLE, Int.reduceLT, mens, men]
      rw [dc_false (hno fun h => dc_not.1 hn h.1)]
    | true =>
      have hn' := dc_iff.1 hn
      simp only [ga, cControl, EVA, ↓reduceIte, Nat.reduceEqDiff, Nat.reduceMul, reduceCtorEq, Nat.reduceAdd, Nat.reduceSub, Nat.reduceLeDiff, Nat.reduceLT, Int.reduceToNat, Int.reduceLE, Int.reduceLT, mens, men]
      refine kca_intro (sem_within sig[j].ports 0 3) ?_
      simp only [ga, cControl, EVA, ↓reduceIte, Nat.reduceEqDiff, Nat.reduceMul, reduceCtorEq, Nat.reduceAdd, Nat.reduceSub, Nat.reduceLeDiff, Nat.reduceLT, Int.reduceToNat, Int.reduceLE, Int.reduceLT, mens, men]
      cases hp : inB sig[j].ports 0 3 with
      | false =>
        simp only [EVA, ↓reduceIte, Nat.reduceEqDiff, Nat.reduceMul, reduceCtorEq, Nat.reduceAdd, Nat.reduceSub, Nat.reduceLeDiff, Nat.reduceLT, Int.reduceToNat, Int.reduceLE, Int.reduceLT, mens, men]
        rw [dc_false (hno fun h => inB_not.1 hp h.2.1)]
      | true =>
        have hp' := inB_iff.1 hp
        simp only [ga, cControl, EVA, ↓reduceIte, Nat.reduceEqDiff, Nat.reduceMul, reduceCtorEq, Nat.reduceAdd, Nat.reduceSub, Nat.reduceLeDiff, Nat.reduceLT, Int.reduceToNat, Int.reduceLE, Int.reduceLT, mens, men]
        refine kca_intro (sem_within sig[j].kind_ 0 2) ?_
        simp only [ga, cControl, EVA, ↓reduceIte, Nat.reduceEqDiff, Nat.reduceMul, reduceCtorEq, Nat.reduceAdd, Nat.reduceSub, Nat.reduceLeDiff, Nat.reduceLT, Int.reduceToNat, Int.reduceLE, Int.reduceLT, mens, men]
        cases hk : inB sig[j].kind_ 0 2 with
        | false =>
          simp only [EVA, ↓reduceIte, Nat.reduceEqDiff, Nat.reduceMul, reduceCtorEq, Nat.reduceAdd, Nat.reduceSub, Nat.reduceLeDiff, Nat.reduceLT, Int.reduceToNat, Int.reduceLE, Int.reduceLT, mens, men]
          rw [dc_false (hno fun h => inB_not.1 hk h.2.2)]
        | true =>
          have hk' := inB_iff.1 hk
          have hjl : j ≤ sig.length := by omega
          simp only [List.length_map, hjl, EVA, ↓reduceIte, Nat.reduceEqDiff, Nat.reduceMul, reduceCtorEq, Nat.reduceAdd, Nat.reduceSub, Nat.reduceLeDiff, Nat.reduceLT, Int.reduceToNat, Int.reduceLE, Int.reduceLT, mens, men]
          have hc := sem_coFk (P := Go.Proofs.Tryz.prog) g_coFControl g_ixFControl cControl_len (f := fun d : TControl => decide (d.name = sig[j].name)) (fe := fid_impl_IsSignature_1) (cs := [cControl sig[j]]) (sig.take j) (by rw [List.length_take]; omega) (fun d _ lvl S => sem_IsSignature_1 sig[j] d lvl S)
          rw [← cut_take0] at hc
          refine ⟨fun h => h.elim, Nat.zero_le _, kca_intro hc ?_⟩
          simp only [EVA, ↓reduceIte, Nat.reduceEqDiff, Nat.reduceMul, reduceCtorEq, Nat.reduceAdd, Nat.reduceSub, Nat.reduceLeDiff, Nat.reduceLT, Int.reduceToNat, Int.reduceLE, Int.reduceLT, mens, men]
          cases ha : (sig.take j).any (fun d : TControl => decide (d.name = sig[j].name)) with
          | true =>
            simp only [EVA, ↓reduceIte, Nat.reduceEqDiff, Nat.reduceMul, reduceCtorEq, Nat.reduceAdd, Nat.reduceSub, Nat.reduceLeDiff, Nat.reduceLT, Int.reduceToNat, Int.reduceLE, Int.reduceLT, mens, men]
            obtain ⟨d, hd, he⟩ := List.any_eq_true.1 ha
            obtain ⟨q, hq, rfl⟩ := List.getElem_of_mem hd
            rw [List.length_take] at hq
            rw [dc_false (fun hs : sigOK sig => (hs.1 j hja).2 q (by omega) (by simpa using he))]
          | false =>
            simp only [EVA, ↓reduceIte, Nat.reduceEqDiff, Nat.reduceMul, reduceCtorEq, Nat.reduceAdd, Nat.reduceSub, Nat.reduceLeDiff, Nat.reduceLT, Int.reduceToNat, Int.reduceLE, Int.reduceLT, mens, men]
            refine ⟨by rw [fits_i64]; omega, cntJ_intro () hja rfl (fun i hi => ?_)⟩
            by_cases e : i = j
            · subst e
              refine fun h => ⟨⟨hn', hp', hk'⟩, fun q hq => ?_⟩
              have := (List.any_eq_false.1 ha) sig[q] (by
                rw [List.mem_take_iff_getElem]
                exact ⟨q, by omega, rfl⟩)
              simpa using this
            · exact hA i (by omega)
  · have : j = sig.length := by omega
    subst this
    have hall : ∀ i, sigAt sig i := fun i h => hA i h h
    rw [dc_true (p := sigOK sig) ⟨hall, by omega, by omega⟩]
theorem g_ixFI : chkF Go.Proofs.Tryz.prog fid_slices_IndexFunc_int_int (gIxF 1 none) = true := by kernel_rfl
theorem g_coFI : chkF Go.Proofs.Tryz.prog fid_slices_ContainsFunc_int_int (gCoF fid_slices_IndexFunc_int_int) = true := by kernel_rfl
end Go.Fd

/-
  WHAT A SIZE THAT IS LEFT SAYS OF BOUNDS (printed by lawgen.py). Own work.
-/
namespace Go.Fd
/-- A measure that only falls, and what it shows where something is left. -/
def Zm (s : Int → Int) (P : Prop) : Prop := ∀ l : Int, 0 ≤ l → l ≤ 1048576 → s l ≤ l ∧ (0 ≤ s l → P)
theorem Zm_id : Zm (fun l => l) True := fun _ _ _ => ⟨Int.le_refl _, fun _ => trivial⟩
theorem Zm_th {s g : Int → Int} {P Q : Prop} (hs : Zm s P) (hg : Zm g Q) : Zm (fun l => szTh (s l) g) (P ∧ Q) := fun l h0 h1 => by
  have a := hs l h0 h1
  by_cases h : s l < 0
  · simp only [szTh, if_pos h]
    exact ⟨by omega, fun h => by omega⟩
  · simp only [szTh, if_neg h]
    have b := hg (s l) (by omega) (by omega)
    exact ⟨by omega, fun h2 => ⟨a.2 (by omega), b.2 h2⟩⟩
theorem Zm_N (n : Nat) : Zm (fun l => szN n l) (n ≤ 4294967296) := fun l h0 h1 => by
  simp only [szN]
  split
  · exact ⟨by omega, fun h => by omega⟩
  · exact ⟨by omega, fun h => by omega⟩
theorem Zm_str (n : Nat) : Zm (fun l => l - n) (n ≤ 4294967296) := fun l h0 h1 => ⟨by simp only; omega, fun h => by simp only at h; omega⟩
theorem Zm_F {α : Type} {f : α → Int → Int} {P : α → Prop} (hf : ∀ x, Zm (f x) (P x)) : ∀ (a : List α), Zm (fun l => szF f a l) (∀ y ∈ a, P y)
  | [] => fun l _ _ => ⟨Int.le_refl l, fun _ y hy => by cases hy⟩
  | x :: r => fun l h0 h1 => by
    simp only [szF]
    have a := hf x l h0 h1
    split
    · exact ⟨by omega, fun h => by omega⟩
    · have b := Zm_F hf r (f x l) (by omega) (by omega)
      refine ⟨by simp only at b; omega, fun h y hy => ?_⟩
      cases hy with
      | head => exact a.2 (by omega)
      | tail _ hy => exact b.2 h y hy
theorem Zm_L {α : Type} {f : α → Int → Int} {P : α → Prop} (hf : ∀ x, Zm (f x) (P x)) (a : List α) : Zm (fun l => szL f a l) (a.length ≤ 4294967296 ∧ ∀ y ∈ a, P y) := fun l h0 h1 => by
  simp only [szL]
  split
  · exact ⟨by omega, fun h => by omega⟩
  · have b := Zm_F hf a (l - a.length) (by omega) (by omega)
    simp only at b
    exact ⟨by omega, fun h => ⟨by omega, b.2 h⟩⟩
theorem Zm_imp {s : Int → Int} {P Q : Prop} (h : Zm s P) (hq : P → Q) : Zm s Q := fun l h0 h1 => ⟨(h l h0 h1).1, fun h2 => hq ((h l h0 h1).2 h2)⟩
theorem zpSorting (x : TSorting) : Zm (fun l => szSorting x l) (bdSorting 4294967296 x) := by
  unfold szSorting
  exact Zm_imp (Zm_th (Zm_N _) (Zm_th (Zm_L (fun y => (Zm_N _)) _) (Zm_th (Zm_L (fun y => (Zm_N _)) _) (Zm_th (Zm_N _) (Zm_th (Zm_N _) Zm_id))))) (fun h => by unfold bdSorting; simp only [and_assoc, and_true, true_and, implies_true, forall_const] at h ⊢; try exact h)
theorem zpControl (x : TControl) : Zm (fun l => szControl x l) (bdControl 4294967296 x) := by
  unfold szControl
  exact Zm_imp (Zm_th (Zm_str _) Zm_id) (fun h => by unfold bdControl; simp only [and_assoc, and_true, true_and, implies_true, forall_const] at h ⊢; try exact h)
theorem mono_le {a : Nat} (h : a ≤ 4294967296) : a ≤ 9223372036854775807 := by omega
theorem monoControl {x : TControl} (h : bdControl 4294967296 x) : bdControl 9223372036854775807 x := by
  exact (mono_le h)
end Go.Fd

/-
  SORTINGS, BOTH SIDES: VALID, FREE, FINER. Own work.
-/
namespace Go.Fd
set_option maxRecDepth 20000

theorem all_succ {P : Nat → Prop} {j : Nat} (h : ∀ k, k < j → P k) (hj : P j) : ∀ k, k < j + 1 → P k := fun k hk => by
  by_cases e : k = j
  · subst e; exact hj
  · exact h k (by omega)

abbrev A2 := Int × Int

abbrev eIS : List Int → List Tr := fun l => [Tr.sl (rI l)]

def nestAt (sig : List TControl) (nest : List (List Int)) (k : Nat) : Prop := ∀ (h : k < nest.length) (h2 : k < sig.length), Ris 0 ((sig.length : Int) - 1) nest[k] ∧ (sig[k].kind_ = 2 → nest[k] = [])

def sortsAt (sig : List TControl) (sorts : List (List Int)) (many : Nat) (k : Nat) : Prop := ∀ (h : k < sorts.length) (h2 : k < sig.length), (sorts[k].length : Int) = sig[k].ports ∧ ∀ n ∈ sorts[k], 0 ≤ n ∧ n ≤ (many : Int) - 1

def lt2 (a b : A2) : Prop := a.1 < b.1 ∨ a.1 = b.1 ∧ a.2 < b.2

def apartAt (l : List A2) (many : Nat) (i : Nat) : Prop := ∀ h : i < l.length, 0 ≤ l[i].1 ∧ l[i].1 < l[i].2 ∧ l[i].2 < (many : Int) ∧ (∀ h0 : 0 < i, lt2 (l[i - 1]'(by omega)) l[i])

structure sortOK (sig : List TControl) (s : TSorting) : Prop where
  sg : sigOK sig
  tops : Ris 0 ((sig.length : Int) - 1) s.tops
  nestL : s.nest.length = sig.length
  nest : ∀ k, nestAt sig s.nest k
  sortsL : s.sorts.length = sig.length
  sorts : ∀ k, sortsAt sig s.sorts s.most.length k
  many : 1 ≤ s.most.length ∧ s.most.length ≤ 4
  most : ∀ n ∈ s.most, 0 ≤ n ∧ n ≤ 24
  apart : ∀ i, apartAt s.apart s.most.length i

/-! ## numbers in order -/
theorem cut_all {es : Row} {n : Nat} (h : es.length = n) : cut es 0 n = es := by
  simp only [cut, List.drop_zero]
  exact List.take_of_length_le (by omega)

end Go.Fd
