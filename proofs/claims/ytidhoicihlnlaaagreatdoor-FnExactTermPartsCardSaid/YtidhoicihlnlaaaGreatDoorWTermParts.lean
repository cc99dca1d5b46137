/-
  WHAT THE LAW OF TermParts LEANS ON. Own work.
-/
import Derived.Test.YtidhoicihlnlaaaGreatDoorT08
set_option linter.all false
namespace Go.Fd
theorem ZkA(sig:List TControl)(t:List TTermStep)(_hn:sig.length<=4294967296)(_hbs:∀ y∈sig,Zp 4294967296 y)(ht:t.length<=4294967296)(_hbt:∀ y∈t,Zw 4294967296 y):(ZO sig t).length<=4294967296/\1+(nL Zd7 (ZO sig t):Int)<=4611686018427387904:=by
 have h:(ZO sig t).length<=4294967296:=by
  unfold ZO
  split
  ·rw[stS_one];exact ht
  ·simp
 rw[Zsn]
 exact⟨h,by omega⟩
end Go.Fd

/-
  THE LAW OF TermParts (printed by lawtext.py). Own work.
-/
namespace Go.Fd
set_option maxRecDepth 20000
theorem ZbA(x0:(List TControl))(x1:(List TTermStep))(hb0_0:x0.length<=9223372036854775807)(hb0_1:∀ y∈x0,Zp 9223372036854775807 y)(hb1_0:x1.length<=9223372036854775807)(hb1_1:∀ y∈x1,Zw 9223372036854775807 y)(lvl:Nat)(S:Sto):Sem Proofs.Tryz.prog Qm lvl [.tr (.sl (x0.map Zh)),.tr (.sl (x1.map Zg))] S (iB true) S:=by
 refine Zc DW trivial ?_
 simp only[XD,List.length_map,ZF,JB,Zs,ne_eq,not_true_eq_false,bne_self_eq_false,EVA,seval,Zd,men]
 have ul:(1048576:Int)<=1048576:=Int.le_refl _
 obtain⟨_,ha0⟩:=ZbZ x0 hb0_0 hb0_1 (1048576) (by omega) (by omega)
 refine Za ha0 ?_
 simp only[List.length_map,ZF,JB,Zs,ne_eq,not_true_eq_false,bne_self_eq_false,EVA,seval,Zd,men]
 refine Zl (fun _=>trivial) (fun hz0=>?_)
 have zp0:=(Zw3 (f:=JD) (fun y=>(Zj2 y)) x0) (1048576) (by omega) (by omega)
 have zq0:=(ZBJ (f:=JD) (n:=Va) (fun y=>Zmd (ZpZ y) (by omega)) x0) (1048576) (by omega) (by omega)
 simp only at zp0 zq0
 have hp0:=zp0.2 (by omega)
 have hq0:=zq0.2 (by omega)
 obtain⟨hs0_0,hs0_1⟩:=hp0
 obtain⟨_,ha1⟩:=Za4 x1 hb1_0 hb1_1 (szL JD x0 (1048576)) (by omega) (by omega)
 refine Za ha1 ?_
 simp only[List.length_map,ZF,JB,Zs,ne_eq,not_true_eq_false,bne_self_eq_false,EVA,seval,Zd,men]
 refine Zl (fun _=>trivial) (fun hz1=>?_)
 have zp1:=(Zw3 (f:=J7) (fun y=>(Zhn y)) x1) (szL JD x0 (1048576)) (by omega) (by omega)
 have zq1:=(ZBJ (f:=J7) (n:=YD) (fun y=>Zmd (ZnL y) (by omega)) x1) (szL JD x0 (1048576)) (by omega) (by omega)
 simp only at zp1 zq1
 have hp1:=zp1.2 (by omega)
 have hq1:=zq1.2 (by omega)
 obtain⟨hs1_0,hs1_1⟩:=hp1
 refine Za (YH x0 hs0_0 hs0_1) ?_
 simp only[List.length_map,ZF,JB,Zs,ne_eq,not_true_eq_false,bne_self_eq_false,EVA,seval,Zd,men]
 refine Za (Yh x1 hs1_0 hs1_1) ?_
 simp only[List.length_map,ZF,JB,Zs,ne_eq,not_true_eq_false,bne_self_eq_false,EVA,seval,Zd,men]
 refine Za (Zdw x0 x1 hs0_0 hs0_1 hs1_0 hs1_1) ?_
 simp only[List.length_map,ZF,JB,Zs,ne_eq,not_true_eq_false,bne_self_eq_false,EVA,seval,Zd,men]
 refine Za (YH x0 hs0_0 hs0_1) ?_
 simp only[List.length_map,ZF,JB,Zs,ne_eq,not_true_eq_false,bne_self_eq_false,EVA,seval,Zd,men]
 refine Za (Yh x1 hs1_0 hs1_1) ?_
 simp only[List.length_map,ZF,JB,Zs,ne_eq,not_true_eq_false,bne_self_eq_false,EVA,seval,Zd,men]
 refine Za (UM x0 x1 hs0_0 hs0_1 hs1_0 hs1_1) ?_
 simp only[List.length_map,ZF,JB,Zs,ne_eq,not_true_eq_false,bne_self_eq_false,EVA,seval,Zd,men]
 obtain⟨hr0_0,hrn⟩:=ZkA x0 x1 hs0_0 hs0_1 hs1_0 hs1_1
 refine Za (Zec (ZO x0 x1) (ZO x0 x1) (by omega)) ?_
 simp only[List.length_map,ZF,JB,Zs,ne_eq,not_true_eq_false,bne_self_eq_false,EVA,seval,Zd,men]
 refine Za (YH x0 hs0_0 hs0_1) ?_
 simp only[List.length_map,ZF,JB,Zs,ne_eq,not_true_eq_false,bne_self_eq_false,EVA,seval,Zd,men]
 refine Za (Zb1 x0 x0 hb0_0 hb0_1) ?_
 simp only[List.length_map,ZF,JB,Zs,ne_eq,not_true_eq_false,bne_self_eq_false,EVA,seval,Zd,men]
 refine Za (Yh x1 hs1_0 hs1_1) ?_
 simp only[List.length_map,ZF,JB,Zs,ne_eq,not_true_eq_false,bne_self_eq_false,EVA,seval,Zd,men]
 refine Za (Za5 x1 x1 hb1_0 hb1_1) ?_
 simp only[List.length_map,ZF,JB,Zs,ne_eq,not_true_eq_false,bne_self_eq_false,EVA,seval,Zd,men]
 simp only[Zjf]
 refine ZfG Zi3 (a:=x0) rfl (by omega) (by omega) hs0_0 hs0_1 ?_
 simp only[List.length_map,ZF,JB,Zs,ne_eq,not_true_eq_false,bne_self_eq_false,EVA,seval,Zd,men]
 simp only[Zjf]
 refine ZfG Zg5 (a:=x1) rfl (by omega) (by omega) hs1_0 hs1_1 ?_
 simp only[List.length_map,ZF,JB,Zs,ne_eq,not_true_eq_false,bne_self_eq_false,EVA,seval,Zd,men]
 have hk0:¬ (1+(nL Va x0:Nat)+(nL YD x1:Nat)<(0:Int)):=by omega
 simp only[hk0,List.length_map,ZF,JB,Zs,ne_eq,not_true_eq_false,bne_self_eq_false,EVA,seval,Zd,men]
 refine Za (Zec (ZO x0 x1) (ZO x0 x1) (by omega)) ?_
 simp only[List.length_map,ZF,JB,Zs,ne_eq,not_true_eq_false,bne_self_eq_false,EVA,seval,Zd,men]
 simp only[Zjf]
 refine ZfG ZpY (a:=(ZO x0 x1)) rfl (by omega) (by omega) hr0_0 (fun _ _=>trivial) ?_
 simp only[List.length_map,ZF,JB,Zs,ne_eq,not_true_eq_false,bne_self_eq_false,EVA,seval,Zd,men]
 refine Za (Zkx (ZO x0 x1) (1) hr0_0 (by omega) (by omega)) ?_
 have hh0:¬ (1+(nL Zd7 (ZO x0 x1):Nat)<(0:Int)):=by omega
 simp only[hh0,List.length_map,ZF,JB,Zs,ne_eq,not_true_eq_false,bne_self_eq_false,EVA,seval,Zd,men]
 refine Za (YH x0 hs0_0 hs0_1) ?_
 simp only[List.length_map,ZF,JB,Zs,ne_eq,not_true_eq_false,bne_self_eq_false,EVA,seval,Zd,men]
 refine Za (Yh x1 hs1_0 hs1_1) ?_
 simp only[List.length_map,ZF,JB,Zs,ne_eq,not_true_eq_false,bne_self_eq_false,EVA,seval,Zd,men]
 refine Za (UM x0 x1 hs0_0 hs0_1 hs1_0 hs1_1) ?_
 simp only[List.length_map,ZF,JB,Zs,ne_eq,not_true_eq_false,bne_self_eq_false,EVA,seval,Zd,men]
 refine Za (Zec (ZO x0 x1) (ZO x0 x1) (by omega)) ?_
 simp only[List.length_map,ZF,JB,Zs,ne_eq,not_true_eq_false,bne_self_eq_false,EVA,seval,Zd,men]
 refine Za (Zkx (ZO x0 x1) (1) hr0_0 (by omega) (by omega)) ?_
 have hh0:¬ (1+(nL Zd7 (ZO x0 x1):Nat)<(0:Int)):=by omega
 simp only[hh0,List.length_map,ZF,JB,Zs,ne_eq,not_true_eq_false,bne_self_eq_false,EVA,seval,Zd,men]
end Go.Fd
