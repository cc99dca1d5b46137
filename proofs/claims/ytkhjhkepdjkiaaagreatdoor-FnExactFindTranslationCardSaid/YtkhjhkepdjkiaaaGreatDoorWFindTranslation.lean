/-
  WHAT THE LAW OF FindTranslation LEANS ON. Own work.
-/
import Derived.Test.YtkhjhkepdjkiaaaGreatDoorT07
set_option linter.all false
namespace Go.Fd
theorem Zcx(sig:List TControl)(a b:TBigraph)(_hn:sig.length<=4294967296)(_hbs:∀ y∈sig,ZC 4294967296 y)(_ha:Zw 4294967296 a)(_hb:Zw 4294967296 b):(Zu sig a b).length<=4294967296/\1+(nL WV (Zu sig a b):Int)<=4611686018427387904:=by
 have h:(Zu sig a b).length<=4294967296:=by
  unfold Zu
  split
  ·rename_i ho
   have he:=ho.1.nodesL
   cases hT:Uh a b with
   | nil=>simp
   | cons x r =>
    have:=(Zd4 (a:=a) (b:=b) (r:=a.nodes.length) (ns:=[]) (by simp) (show x∈Zbm a b a.nodes.length [] by rw[show Zbm a b a.nodes.length []=Uh a b from rfl,hT];simp)).1
    show x.length<=_
    omega
  ·simp
 rw[ZkB]
 exact⟨h,by omega⟩
end Go.Fd

/-
  THE LAW OF FindTranslation (printed by lawtext.py). Own work.
-/
namespace Go.Fd
set_option maxRecDepth 20000
theorem WZ(x0:(List TControl))(x1:TBigraph)(x2:TBigraph)(hb0_0:x0.length<=9223372036854775807)(hb0_1:∀ y∈x0,ZC 9223372036854775807 y)(hb1_0:Zw 9223372036854775807 x1)(hb2_0:Zw 9223372036854775807 x2)(hf1:ZR x1)(hf2:ZR x2)(lvl:Nat)(S:Sto):Sem Proofs.Tryz.prog Yl lvl [.tr (.sl (x0.map Zj)),.ag ((Za x1).map .tr),.ag ((Za x2).map .tr)] S (iB true) S:=by
 refine Zc XX trivial ?_
 simp only[YR,List.length_map,Zi,Zr,Zg,ne_eq,not_true_eq_false,bne_self_eq_false,Za,Zh,EVA,seval,Zd,men]
 have ul:(1048576:Int)<=1048576:=Int.le_refl _
 obtain⟨_,ha0⟩:=VY x0 hb0_0 hb0_1 (1048576) (by omega) (by omega)
 refine Zb ha0 ?_
 simp only[List.length_map,Zi,Zr,Zg,ne_eq,not_true_eq_false,bne_self_eq_false,Za,Zh,EVA,seval,Zd,men]
 refine Zn (fun _=>trivial) (fun hz0=>?_)
 have zp0:=(Zo9 (f:=ZE) (fun y=>(Zao y)) x0) (1048576) (by omega) (by omega)
 have zq0:=(Zrp (f:=ZE) (n:=JU) (fun y=>ZbN (ZeY y) (by omega)) x0) (1048576) (by omega) (by omega)
 simp only at zp0 zq0
 have hp0:=zp0.2 (by omega)
 have hq0:=zq0.2 (by omega)
 obtain⟨hs0_0,hs0_1⟩:=hp0
 obtain⟨_,ha1⟩:=YH x1 hb1_0 (szL ZE x0 (1048576)) (by omega) (by omega)
 refine Zb ha1 ?_
 simp only[List.length_map,Zi,Zr,Zg,ne_eq,not_true_eq_false,bne_self_eq_false,Za,Zh,EVA,seval,Zd,men]
 refine Zn (fun _=>trivial) (fun hz1=>?_)
 have zp1:=(WP x1) (szL ZE x0 (1048576)) (by omega) (by omega)
 have zq1:=(Zcu x1) (szL ZE x0 (1048576)) (by omega) (by omega)
 simp only at zp1 zq1
 have hp1:=zp1.2 (by omega)
 have hq1:=zq1.2 (by omega)
 have hs1_0:=hp1
 obtain⟨_,ha2⟩:=YH x2 hb2_0 (YL x1 (szL ZE x0 (1048576))) (by omega) (by omega)
 refine Zb ha2 ?_
 simp only[List.length_map,Zi,Zr,Zg,ne_eq,not_true_eq_false,bne_self_eq_false,Za,Zh,EVA,seval,Zd,men]
 refine Zn (fun _=>trivial) (fun hz2=>?_)
 have zp2:=(WP x2) (YL x1 (szL ZE x0 (1048576))) (by omega) (by omega)
 have zq2:=(Zcu x2) (YL x1 (szL ZE x0 (1048576))) (by omega) (by omega)
 simp only at zp2 zq2
 have hp2:=zp2.2 (by omega)
 have hq2:=zq2.2 (by omega)
 have hs2_0:=hp2
 refine Zb (ZI x0 hs0_0 hs0_1) ?_
 simp only[List.length_map,Zi,Zr,Zg,ne_eq,not_true_eq_false,bne_self_eq_false,Za,Zh,EVA,seval,Zd,men]
 refine Zb (Zz x1 hs1_0) ?_
 simp only[List.length_map,Zi,Zr,Zg,ne_eq,not_true_eq_false,bne_self_eq_false,Za,Zh,EVA,seval,Zd,men]
 refine Zb (Zz x2 hs2_0) ?_
 simp only[List.length_map,Zi,Zr,Zg,ne_eq,not_true_eq_false,bne_self_eq_false,Za,Zh,EVA,seval,Zd,men]
 refine Zb (UX x0 x1 x2 hs0_0 hs0_1 hs1_0 hs2_0 hf1 hf2) ?_
 simp only[List.length_map,Zi,Zr,Zg,ne_eq,not_true_eq_false,bne_self_eq_false,Za,Zh,EVA,seval,Zd,men]
 refine Zb (ZI x0 hs0_0 hs0_1) ?_
 simp only[List.length_map,Zi,Zr,Zg,ne_eq,not_true_eq_false,bne_self_eq_false,Za,Zh,EVA,seval,Zd,men]
 refine Zb (Zz x1 hs1_0) ?_
 simp only[List.length_map,Zi,Zr,Zg,ne_eq,not_true_eq_false,bne_self_eq_false,Za,Zh,EVA,seval,Zd,men]
 refine Zb (Zz x2 hs2_0) ?_
 simp only[List.length_map,Zi,Zr,Zg,ne_eq,not_true_eq_false,bne_self_eq_false,Za,Zh,EVA,seval,Zd,men]
 refine Zb (Qj x0 x1 x2 hs0_0 hs0_1 hs1_0 hs2_0 hf1 hf2) ?_
 simp only[List.length_map,Zi,Zr,Zg,ne_eq,not_true_eq_false,bne_self_eq_false,Za,Zh,EVA,seval,Zd,men]
 obtain⟨hr0_0,hrn⟩:=Zcx x0 x1 x2 hs0_0 hs0_1 hs1_0 hs2_0
 refine Zb (Vu (Zu x0 x1 x2) (Zu x0 x1 x2) (by omega)) ?_
 simp only[List.length_map,Zi,Zr,Zg,ne_eq,not_true_eq_false,bne_self_eq_false,Za,Zh,EVA,seval,Zd,men]
 refine Zb (ZI x0 hs0_0 hs0_1) ?_
 simp only[List.length_map,Zi,Zr,Zg,ne_eq,not_true_eq_false,bne_self_eq_false,Za,Zh,EVA,seval,Zd,men]
 refine Zb (VZ x0 x0 hb0_0 hb0_1) ?_
 simp only[List.length_map,Zi,Zr,Zg,ne_eq,not_true_eq_false,bne_self_eq_false,Za,Zh,EVA,seval,Zd,men]
 refine Zb (Zz x1 hs1_0) ?_
 simp only[List.length_map,Zi,Zr,Zg,ne_eq,not_true_eq_false,bne_self_eq_false,Za,Zh,EVA,seval,Zd,men]
 refine Zb (YI x1 x1 hb1_0) ?_
 simp only[List.length_map,Zi,Zr,Zg,ne_eq,not_true_eq_false,bne_self_eq_false,Za,Zh,EVA,seval,Zd,men]
 refine Zb (Zz x2 hs2_0) ?_
 simp only[List.length_map,Zi,Zr,Zg,ne_eq,not_true_eq_false,bne_self_eq_false,Za,Zh,EVA,seval,Zd,men]
 refine Zb (YI x2 x2 hb2_0) ?_
 simp only[List.length_map,Zi,Zr,Zg,ne_eq,not_true_eq_false,bne_self_eq_false,Za,Zh,EVA,seval,Zd,men]
 simp only[Zcy]
 refine UK Dl (a:=x0) rfl (by omega) (by omega) hs0_0 hs0_1 ?_
 simp only[List.length_map,Zi,Zr,Zg,ne_eq,not_true_eq_false,bne_self_eq_false,Za,Zh,EVA,seval,Zd,men]
 simp only[Zcy]
 refine Q5 (x:=x1) (by decide) (by decide) (by decide) (by decide) (by decide) (by decide) rfl rfl rfl rfl (by omega) (by omega) hs1_0 ?_
 simp only[List.length_map,Zi,Zr,Zg,ne_eq,not_true_eq_false,bne_self_eq_false,Za,Zh,EVA,seval,Zd,men]
 simp only[Zcy]
 refine Q5 (x:=x2) (by decide) (by decide) (by decide) (by decide) (by decide) (by decide) rfl rfl rfl rfl (by omega) (by omega) hs2_0 ?_
 simp only[List.length_map,Zi,Zr,Zg,ne_eq,not_true_eq_false,bne_self_eq_false,Za,Zh,EVA,seval,Zd,men]
 have hk0:¬ (1+(nL JU x0:Nat)+(Vt x1:Nat)+(Vt x2:Nat)<(0:Int)):=by omega
 simp only[hk0,List.length_map,Zi,Zr,Zg,ne_eq,not_true_eq_false,bne_self_eq_false,Za,Zh,EVA,seval,Zd,men]
 refine Zb (Vu (Zu x0 x1 x2) (Zu x0 x1 x2) (by omega)) ?_
 simp only[List.length_map,Zi,Zr,Zg,ne_eq,not_true_eq_false,bne_self_eq_false,Za,Zh,EVA,seval,Zd,men]
 simp only[Zcy]
 refine UK Zav (a:=(Zu x0 x1 x2)) rfl (by omega) (by omega) hr0_0 (fun _ _=>trivial) ?_
 simp only[List.length_map,Zi,Zr,Zg,ne_eq,not_true_eq_false,bne_self_eq_false,Za,Zh,EVA,seval,Zd,men]
 refine Zb (Zaw (Zu x0 x1 x2) (1) hr0_0 (by omega) (by omega)) ?_
 have hh0:¬ (1+(nL WV (Zu x0 x1 x2):Nat)<(0:Int)):=by omega
 simp only[hh0,List.length_map,Zi,Zr,Zg,ne_eq,not_true_eq_false,bne_self_eq_false,Za,Zh,EVA,seval,Zd,men]
 refine Zb (ZI x0 hs0_0 hs0_1) ?_
 simp only[List.length_map,Zi,Zr,Zg,ne_eq,not_true_eq_false,bne_self_eq_false,Za,Zh,EVA,seval,Zd,men]
 refine Zb (Zz x1 hs1_0) ?_
 simp only[List.length_map,Zi,Zr,Zg,ne_eq,not_true_eq_false,bne_self_eq_false,Za,Zh,EVA,seval,Zd,men]
 refine Zb (Zz x2 hs2_0) ?_
 simp only[List.length_map,Zi,Zr,Zg,ne_eq,not_true_eq_false,bne_self_eq_false,Za,Zh,EVA,seval,Zd,men]
 refine Zb (Qj x0 x1 x2 hs0_0 hs0_1 hs1_0 hs2_0 hf1 hf2) ?_
 simp only[List.length_map,Zi,Zr,Zg,ne_eq,not_true_eq_false,bne_self_eq_false,Za,Zh,EVA,seval,Zd,men]
 refine Zb (Vu (Zu x0 x1 x2) (Zu x0 x1 x2) (by omega)) ?_
 simp only[List.length_map,Zi,Zr,Zg,ne_eq,not_true_eq_false,bne_self_eq_false,Za,Zh,EVA,seval,Zd,men]
 refine Zb (Zaw (Zu x0 x1 x2) (1) hr0_0 (by omega) (by omega)) ?_
 have hh0:¬ (1+(nL WV (Zu x0 x1 x2):Nat)<(0:Int)):=by omega
 simp only[hh0,List.length_map,Zi,Zr,Zg,ne_eq,not_true_eq_false,bne_self_eq_false,Za,Zh,EVA,seval,Zd,men]
end Go.Fd
