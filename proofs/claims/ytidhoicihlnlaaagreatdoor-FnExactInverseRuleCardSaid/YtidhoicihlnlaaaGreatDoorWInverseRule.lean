/-
  WHAT THE LAW OF InverseRule LEANS ON. Own work.
-/
import Derived.Test.YtidhoicihlnlaaaGreatDoorT06
set_option linter.all false
namespace Go.Fd
theorem ZdX{α:Type}{f:α->Nat}{B:Nat}(l:List α)(h:∀ x∈l,f x<=B){n:Nat}(hl:l.length<=n):nL f l<=n*B:=Nat.le_trans (Zou l h) (Nat.mul_le_mul_right _ hl)
theorem Zir{sig:List TControl}{b:TBigraph}(h:bigOK sig b):ZG 4294967296 b/\Zt b<=1000000:=by
 refine⟨Zfy (by omega) (ZdF h),?_⟩
 have hs:=h.small
 have n1:=ZdX (f:=Zz) (B:=1002) b.nodes (fun x hx=>by have:=hs.links x hx;simp only[Zz,Zil];omega) hs.nodes
 have n2:=ZdX (f:=Jk) (B:=1) b.sites (fun x _=>by simp [Jk]) hs.sites
 have n3:=ZdX (f:=Yb) (B:=1) b.outer (fun x _=>by simp [Yb]) hs.outer
 have n4:=ZdX (f:=Z3) (B:=2) b.inner (fun x _=>by simp [Z3]) hs.inner
 unfold Zt
 omega
theorem Zjx:Vb 4294967296 JW/\1+(Xw JW:Int)<=4611686018427387904:=by
 refine⟨⟨⟨by simp [JW,Yn],by simp [JW,Yn],by simp [JW,Yn],by simp [JW,Yn],by simp [JW,Yn],by simp [JW,Yn],by simp [JW,Yn]⟩,⟨by simp [JW,Yn],by simp [JW,Yn],by simp [JW,Yn],by simp [JW,Yn],by simp [JW,Yn],by simp [JW,Yn],by simp [JW,Yn]⟩,by simp [JW]⟩,?_⟩
 simp [Xw,Zt,JW,Yn,nL]
theorem Zci(sig:List TControl)(r:TRule)(_hn:sig.length<=4294967296)(_hbs:∀ y∈sig,ZH 4294967296 y)(_hb:Vb 4294967296 r):Vb 4294967296 (Zh sig r)/\1+(Xw (Zh sig r):Int)<=4611686018427387904:=by
 unfold Zh
 split
 ·rename_i h
  obtain⟨a1,a2⟩:=Zir h.rule.red
  obtain⟨b1,b2⟩:=Zir h.rule.rea
  have hs:=h.rule.red.sitesL
  have hc:=ZaX (r:=r)
  refine⟨⟨b1,a1,by show (ZfC r).length<=_;omega⟩,?_⟩
  have hn:nL Jk (ZfC r)<=4:=by rw[Zil];omega
  show 1+((Zt r.reactum+Zt r.redex+nL Jk (ZfC r):Nat):Int)<=_
  omega
 ·exact Zjx
end Go.Fd

/-
  THE LAW OF InverseRule (printed by lawtext.py). Own work.
-/
namespace Go.Fd
set_option maxRecDepth 20000
theorem Wz(x0:(List TControl))(x1:TRule)(hb0_0:x0.length<=9223372036854775807)(hb0_1:∀ y∈x0,ZH 9223372036854775807 y)(hb1_0:Vb 9223372036854775807 x1)(hf1:Zcu x1)(lvl:Nat)(S:Sto):Sem Proofs.Tryz.prog Yh lvl [.tr (.sl (x0.map Zi)),.ag ((ZP x1).map .tr)] S (iB true) S:=by
 refine Zb Xv trivial ?_
 simp only[YT,List.length_map,Z9,JV,Zv,ne_eq,not_true_eq_false,bne_self_eq_false,Zc,Zw,ZP,JS,EVA,seval,Zd,men]
 have ul:(1048576:Int)<=1048576:=Int.le_refl _
 obtain⟨_,ha0⟩:=Zcg x0 hb0_0 hb0_1 (1048576) (by omega) (by omega)
 refine Za ha0 ?_
 simp only[List.length_map,Z9,JV,Zv,ne_eq,not_true_eq_false,bne_self_eq_false,Zc,Zw,ZP,JS,EVA,seval,Zd,men]
 refine Zl (fun _=>trivial) (fun hz0=>?_)
 have zp0:=(ZoL (f:=Jo) (fun y=>(Zh2 y)) x0) (1048576) (by omega) (by omega)
 have zq0:=(ZoK (f:=Jo) (n:=JP) (fun y=>Zak (Zim y) (by omega)) x0) (1048576) (by omega) (by omega)
 simp only at zp0 zq0
 have hp0:=zp0.2 (by omega)
 have hq0:=zq0.2 (by omega)
 obtain⟨hs0_0,hs0_1⟩:=hp0
 obtain⟨_,ha1⟩:=ZgP x1 hb1_0 (szL Jo x0 (1048576)) (by omega) (by omega)
 refine Za ha1 ?_
 simp only[List.length_map,Z9,JV,Zv,ne_eq,not_true_eq_false,bne_self_eq_false,Zc,Zw,ZP,JS,EVA,seval,Zd,men]
 refine Zl (fun _=>trivial) (fun hz1=>?_)
 have zp1:=(Zoh x1) (szL Jo x0 (1048576)) (by omega) (by omega)
 have zq1:=(Zox x1) (szL Jo x0 (1048576)) (by omega) (by omega)
 simp only at zp1 zq1
 have hp1:=zp1.2 (by omega)
 have hq1:=zq1.2 (by omega)
 have hs1_0:=hp1
 refine Za (VW x0 hs0_0 hs0_1) ?_
 simp only[List.length_map,Z9,JV,Zv,ne_eq,not_true_eq_false,bne_self_eq_false,Zc,Zw,ZP,JS,EVA,seval,Zd,men]
 refine Za (Ui x1 hs1_0) ?_
 simp only[List.length_map,Z9,JV,Zv,ne_eq,not_true_eq_false,bne_self_eq_false,Zc,Zw,ZP,JS,EVA,seval,Zd,men]
 refine Za (Up x0 x1 hs0_0 hs0_1 hs1_0 hf1) ?_
 simp only[List.length_map,Z9,JV,Zv,ne_eq,not_true_eq_false,bne_self_eq_false,Zc,Zw,ZP,JS,EVA,seval,Zd,men]
 refine Za (VW x0 hs0_0 hs0_1) ?_
 simp only[List.length_map,Z9,JV,Zv,ne_eq,not_true_eq_false,bne_self_eq_false,Zc,Zw,ZP,JS,EVA,seval,Zd,men]
 refine Za (Ui x1 hs1_0) ?_
 simp only[List.length_map,Z9,JV,Zv,ne_eq,not_true_eq_false,bne_self_eq_false,Zc,Zw,ZP,JS,EVA,seval,Zd,men]
 refine Za (Qm x0 x1 hs0_0 hs0_1 hs1_0 hf1) ?_
 simp only[List.length_map,Z9,JV,Zv,ne_eq,not_true_eq_false,bne_self_eq_false,Zc,Zw,ZP,JS,EVA,seval,Zd,men]
 obtain⟨hr0_0,hrn⟩:=Zci x0 x1 hs0_0 hs0_1 hs1_0
 refine Za (Uh (Zh x0 x1) (Zh x0 x1) (Zdx hr0_0)) ?_
 simp only[List.length_map,Z9,JV,Zv,ne_eq,not_true_eq_false,bne_self_eq_false,Zc,Zw,ZP,JS,EVA,seval,Zd,men]
 refine Za (VW x0 hs0_0 hs0_1) ?_
 simp only[List.length_map,Z9,JV,Zv,ne_eq,not_true_eq_false,bne_self_eq_false,Zc,Zw,ZP,JS,EVA,seval,Zd,men]
 refine Za (Zch x0 x0 hb0_0 hb0_1) ?_
 simp only[List.length_map,Z9,JV,Zv,ne_eq,not_true_eq_false,bne_self_eq_false,Zc,Zw,ZP,JS,EVA,seval,Zd,men]
 refine Za (Ui x1 hs1_0) ?_
 simp only[List.length_map,Z9,JV,Zv,ne_eq,not_true_eq_false,bne_self_eq_false,Zc,Zw,ZP,JS,EVA,seval,Zd,men]
 refine Za (Uh x1 x1 hb1_0) ?_
 simp only[List.length_map,Z9,JV,Zv,ne_eq,not_true_eq_false,bne_self_eq_false,Zc,Zw,ZP,JS,EVA,seval,Zd,men]
 simp only[ZbT]
 refine ZhI ZdJ (a:=x0) rfl (by omega) (by omega) hs0_0 hs0_1 ?_
 simp only[List.length_map,Z9,JV,Zv,ne_eq,not_true_eq_false,bne_self_eq_false,Zc,Zw,ZP,JS,EVA,seval,Zd,men]
 simp only[ZbT]
 refine Zat (x:=x1) (by decide) (by decide) (by decide) (by decide) (by decide) (by decide) (by decide) (by decide) (by decide) (by decide) (by decide) (by decide) (by decide) (by decide) (by decide) (by decide) (by decide) (by decide) (by decide) (by decide) (by decide) (by decide) (by decide) (by decide) (by decide) (by decide) (by decide) (by decide) (by decide) (by decide) (by decide) (by decide) (by decide) (by decide) (by decide) (by decide) rfl rfl rfl rfl rfl rfl rfl rfl rfl (by omega) (by omega) hs1_0 ?_
 simp only[List.length_map,Z9,JV,Zv,ne_eq,not_true_eq_false,bne_self_eq_false,Zc,Zw,ZP,JS,EVA,seval,Zd,men]
 have hk0:¬ (1+(nL JP x0:Nat)+(Xw x1:Nat)<(0:Int)):=by omega
 simp only[hk0,List.length_map,Z9,JV,Zv,ne_eq,not_true_eq_false,bne_self_eq_false,Zc,Zw,ZP,JS,EVA,seval,Zd,men]
 refine Za (Uh (Zh x0 x1) (Zh x0 x1) (Zdx hr0_0)) ?_
 simp only[List.length_map,Z9,JV,Zv,ne_eq,not_true_eq_false,bne_self_eq_false,Zc,Zw,ZP,JS,EVA,seval,Zd,men]
 simp only[ZbT]
 refine Zat (x:=(Zh x0 x1)) (by decide) (by decide) (by decide) (by decide) (by decide) (by decide) (by decide) (by decide) (by decide) (by decide) (by decide) (by decide) (by decide) (by decide) (by decide) (by decide) (by decide) (by decide) (by decide) (by decide) (by decide) (by decide) (by decide) (by decide) (by decide) (by decide) (by decide) (by decide) (by decide) (by decide) (by decide) (by decide) (by decide) (by decide) (by decide) (by decide) rfl rfl rfl rfl rfl rfl rfl rfl rfl (by omega) (by omega) hr0_0 ?_
 simp only[List.length_map,Z9,JV,Zv,ne_eq,not_true_eq_false,bne_self_eq_false,Zc,Zw,ZP,JS,EVA,seval,Zd,men]
 have hH:=ZeX (Zh x0 x1) (1) hr0_0 (by omega) (by omega)
 have hE1:(1:Int)+(Zt (Zh x0 x1).redex:Nat)=1+(nL Zz (Zh x0 x1).redex.nodes:Nat)+(nL Jk (Zh x0 x1).redex.sites:Nat)+(nL Yb (Zh x0 x1).redex.outer:Nat)+(nL Z3 (Zh x0 x1).redex.inner:Nat):=by unfold Zt;omega
 have hE2:∀ k:Int,k+(Zt (Zh x0 x1).reactum:Nat)=k+(nL Zz (Zh x0 x1).reactum.nodes:Nat)+(nL Jk (Zh x0 x1).reactum.sites:Nat)+(nL Yb (Zh x0 x1).reactum.outer:Nat)+(nL Z3 (Zh x0 x1).reactum.inner:Nat):=fun k=>by unfold Zt;omega
 simp only[ZP,UM,JZ,List.map_cons,List.map_nil,hE1,hE2] at hH
 refine Za hH ?_
 have hh0:¬ (1+(Xw (Zh x0 x1):Nat)<(0:Int)):=by omega
 simp only[hh0,List.length_map,Z9,JV,Zv,ne_eq,not_true_eq_false,bne_self_eq_false,Zc,Zw,ZP,JS,EVA,seval,Zd,men]
 refine Za (VW x0 hs0_0 hs0_1) ?_
 simp only[List.length_map,Z9,JV,Zv,ne_eq,not_true_eq_false,bne_self_eq_false,Zc,Zw,ZP,JS,EVA,seval,Zd,men]
 refine Za (Ui x1 hs1_0) ?_
 simp only[List.length_map,Z9,JV,Zv,ne_eq,not_true_eq_false,bne_self_eq_false,Zc,Zw,ZP,JS,EVA,seval,Zd,men]
 refine Za (Qm x0 x1 hs0_0 hs0_1 hs1_0 hf1) ?_
 simp only[List.length_map,Z9,JV,Zv,ne_eq,not_true_eq_false,bne_self_eq_false,Zc,Zw,ZP,JS,EVA,seval,Zd,men]
 refine Za (Uh (Zh x0 x1) (Zh x0 x1) (Zdx hr0_0)) ?_
 simp only[List.length_map,Z9,JV,Zv,ne_eq,not_true_eq_false,bne_self_eq_false,Zc,Zw,ZP,JS,EVA,seval,Zd,men]
 have hH:=ZeX (Zh x0 x1) (1) hr0_0 (by omega) (by omega)
 have hE1:(1:Int)+(Zt (Zh x0 x1).redex:Nat)=1+(nL Zz (Zh x0 x1).redex.nodes:Nat)+(nL Jk (Zh x0 x1).redex.sites:Nat)+(nL Yb (Zh x0 x1).redex.outer:Nat)+(nL Z3 (Zh x0 x1).redex.inner:Nat):=by unfold Zt;omega
 have hE2:∀ k:Int,k+(Zt (Zh x0 x1).reactum:Nat)=k+(nL Zz (Zh x0 x1).reactum.nodes:Nat)+(nL Jk (Zh x0 x1).reactum.sites:Nat)+(nL Yb (Zh x0 x1).reactum.outer:Nat)+(nL Z3 (Zh x0 x1).reactum.inner:Nat):=fun k=>by unfold Zt;omega
 simp only[ZP,UM,JZ,List.map_cons,List.map_nil,hE1,hE2] at hH
 refine Za hH ?_
 have hh0:¬ (1+(Xw (Zh x0 x1):Nat)<(0:Int)):=by omega
 simp only[hh0,List.length_map,Z9,JV,Zv,ne_eq,not_true_eq_false,bne_self_eq_false,Zc,Zw,ZP,JS,EVA,seval,Zd,men]
end Go.Fd
