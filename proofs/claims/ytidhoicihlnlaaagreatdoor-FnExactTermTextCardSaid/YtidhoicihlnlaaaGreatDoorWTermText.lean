/-
  WHAT THE LAW OF TermText LEANS ON. Own work.
-/
import Derived.Test.YtidhoicihlnlaaaGreatDoorT08
set_option linter.all false

/-
  THE LAW OF TermText (printed by lawtext.py). Own work.
-/
namespace Go.Fd
set_option maxRecDepth 20000
theorem Zch(x0:(List TControl))(x1:(List TTermStep))(hb0_0:x0.length<=9223372036854775807)(hb0_1:∀ y∈x0,Zp 9223372036854775807 y)(hb1_0:x1.length<=9223372036854775807)(hb1_1:∀ y∈x1,Zw 9223372036854775807 y)(lvl:Nat)(S:Sto):Sem Proofs.Tryz.prog QX lvl [.tr (.sl (x0.map Zh)),.tr (.sl (x1.map Zg))] S (iB true) S:=by
 refine Zc Zan trivial ?_
 simp only[XK,List.length_map,ZF,JB,Zs,ne_eq,not_true_eq_false,bne_self_eq_false,EVA,seval,Zd,men]
 have ul:(1048576:Int)<=1048576:=Int.le_refl _
 obtain⟨_,ha0⟩:=ZbZ x0 hb0_0 hb0_1 (1048576) (by omega) (by omega)
 refine Za ha0 ?_
 simp only[List.length_map,ZF,JB,Zs,ne_eq,not_true_eq_false,bne_self_eq_false,EVA,seval,Zd,men]
 refine Zl (fun _=>trivial) (fun hz0=>?_)
 have zp0:=(Zw3 (f:=JD) (fun y=>(Zj2 y)) x0) (1048576) (by omega) (by omega)
 simp only at zp0
 have hp0:=zp0.2 (by omega)
 obtain⟨hs0_0,hs0_1⟩:=hp0
 obtain⟨_,ha1⟩:=Za4 x1 hb1_0 hb1_1 (szL JD x0 (1048576)) (by omega) (by omega)
 refine Za ha1 ?_
 simp only[List.length_map,ZF,JB,Zs,ne_eq,not_true_eq_false,bne_self_eq_false,EVA,seval,Zd,men]
 refine Zl (fun _=>trivial) (fun hz1=>?_)
 have zp1:=(Zw3 (f:=J7) (fun y=>(Zhn y)) x1) (szL JD x0 (1048576)) (by omega) (by omega)
 simp only at zp1
 have hp1:=zp1.2 (by omega)
 obtain⟨hs1_0,hs1_1⟩:=hp1
 refine Za (YH x0 hs0_0 hs0_1) ?_
 simp only[List.length_map,ZF,JB,Zs,ne_eq,not_true_eq_false,bne_self_eq_false,EVA,seval,Zd,men]
 refine Za (Yh x1 hs1_0 hs1_1) ?_
 simp only[List.length_map,ZF,JB,Zs,ne_eq,not_true_eq_false,bne_self_eq_false,EVA,seval,Zd,men]
 refine Za (Zd5 x0 x1 hs0_0 hs0_1 hs1_0 hs1_1) ?_
 simp only[List.length_map,ZF,JB,Zs,ne_eq,not_true_eq_false,bne_self_eq_false,EVA,seval,Zd,men]
 refine Za (YH x0 hs0_0 hs0_1) ?_
 simp only[List.length_map,ZF,JB,Zs,ne_eq,not_true_eq_false,bne_self_eq_false,EVA,seval,Zd,men]
 refine Za (Yh x1 hs1_0 hs1_1) ?_
 simp only[List.length_map,ZF,JB,Zs,ne_eq,not_true_eq_false,bne_self_eq_false,EVA,seval,Zd,men]
 refine Za (Zd6 x0 x1 hs0_0 hs0_1 hs1_0 hs1_1) ?_
 simp only[List.length_map,ZF,JB,Zs,ne_eq,not_true_eq_false,bne_self_eq_false,EVA,seval,Zd,men]
 refine Za (YH x0 hs0_0 hs0_1) ?_
 simp only[List.length_map,ZF,JB,Zs,ne_eq,not_true_eq_false,bne_self_eq_false,EVA,seval,Zd,men]
 refine Za (Zb1 x0 x0 hb0_0 hb0_1) ?_
 simp only[List.length_map,ZF,JB,Zs,ne_eq,not_true_eq_false,bne_self_eq_false,EVA,seval,Zd,men]
 refine Za (Yh x1 hs1_0 hs1_1) ?_
 simp only[List.length_map,ZF,JB,Zs,ne_eq,not_true_eq_false,bne_self_eq_false,EVA,seval,Zd,men]
 refine Za (Za5 x1 x1 hb1_0 hb1_1) ?_
 simp only[List.length_map,ZF,JB,Zs,ne_eq,not_true_eq_false,bne_self_eq_false,EVA,seval,Zd,men]
end Go.Fd
