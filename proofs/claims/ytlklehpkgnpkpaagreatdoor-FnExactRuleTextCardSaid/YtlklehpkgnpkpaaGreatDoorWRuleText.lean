/-
  WHAT THE LAW OF RuleText LEANS ON. Own work.
-/
import Derived.Test.YtlklehpkgnpkpaaGreatDoorT05
set_option linter.all false

/-
  THE LAW OF RuleText (printed by lawtext.py). Own work.
-/
namespace Go.Fd
set_option maxRecDepth 20000
theorem Wf(x0:(List TControl))(x1:TRule)(hb0_0:x0.length<=9223372036854775807)(hb0_1:∀ y∈x0,Zu 9223372036854775807 y)(hb1_0:QQ 9223372036854775807 x1)(hf1:ZaB x1)(lvl:Nat)(S:Sto):Sem Proofs.Tryz.prog Yf lvl [.tr (.sl (x0.map Zj)),.ag ((ZH x1).map .tr)] S (iB true) S:=by
 refine Zc Q3 trivial ?_
 simp only[YH,List.length_map,JX,Qq,ZW,ne_eq,not_true_eq_false,bne_self_eq_false,Zb,Z7,ZH,Wa,EVA,seval,Zf,men]
 have ul:(1048576:Int)<=1048576:=Int.le_refl _
 obtain⟨_,ha0⟩:=Zan x0 hb0_0 hb0_1 (1048576) (by omega) (by omega)
 refine Za ha0 ?_
 simp only[List.length_map,JX,Qq,ZW,ne_eq,not_true_eq_false,bne_self_eq_false,Zb,Z7,ZH,Wa,EVA,seval,Zf,men]
 refine Zn (fun _=>trivial) (fun hz0=>?_)
 have zp0:=(ZlS (f:=Jl) (fun y=>(ZfP y)) x0) (1048576) (by omega) (by omega)
 simp only at zp0
 have hp0:=zp0.2 (by omega)
 obtain⟨hs0_0,hs0_1⟩:=hp0
 obtain⟨_,ha1⟩:=ZeG x1 hb1_0 (szL Jl x0 (1048576)) (by omega) (by omega)
 refine Za ha1 ?_
 simp only[List.length_map,JX,Qq,ZW,ne_eq,not_true_eq_false,bne_self_eq_false,Zb,Z7,ZH,Wa,EVA,seval,Zf,men]
 refine Zn (fun _=>trivial) (fun hz1=>?_)
 have zp1:=(ZlC x1) (szL Jl x0 (1048576)) (by omega) (by omega)
 simp only at zp1
 have hp1:=zp1.2 (by omega)
 have hs1_0:=hp1
 refine Za (Qc x0 hs0_0 hs0_1) ?_
 simp only[List.length_map,JX,Qq,ZW,ne_eq,not_true_eq_false,bne_self_eq_false,Zb,Z7,ZH,Wa,EVA,seval,Zf,men]
 refine Za (UB x1 hs1_0) ?_
 simp only[List.length_map,JX,Qq,ZW,ne_eq,not_true_eq_false,bne_self_eq_false,Zb,Z7,ZH,Wa,EVA,seval,Zf,men]
 refine Za (Uw x0 x1 hs0_0 hs0_1 hs1_0 hf1) ?_
 simp only[List.length_map,JX,Qq,ZW,ne_eq,not_true_eq_false,bne_self_eq_false,Zb,Z7,ZH,Wa,EVA,seval,Zf,men]
 refine Za (Qc x0 hs0_0 hs0_1) ?_
 simp only[List.length_map,JX,Qq,ZW,ne_eq,not_true_eq_false,bne_self_eq_false,Zb,Z7,ZH,Wa,EVA,seval,Zf,men]
 refine Za (UB x1 hs1_0) ?_
 simp only[List.length_map,JX,Qq,ZW,ne_eq,not_true_eq_false,bne_self_eq_false,Zb,Z7,ZH,Wa,EVA,seval,Zf,men]
 refine Za (Ux x0 x1 hs0_0 hs0_1 hs1_0 hf1) ?_
 simp only[List.length_map,JX,Qq,ZW,ne_eq,not_true_eq_false,bne_self_eq_false,Zb,Z7,ZH,Wa,EVA,seval,Zf,men]
 refine Za (Qc x0 hs0_0 hs0_1) ?_
 simp only[List.length_map,JX,Qq,ZW,ne_eq,not_true_eq_false,bne_self_eq_false,Zb,Z7,ZH,Wa,EVA,seval,Zf,men]
 refine Za (Zao x0 x0 hb0_0 hb0_1) ?_
 simp only[List.length_map,JX,Qq,ZW,ne_eq,not_true_eq_false,bne_self_eq_false,Zb,Z7,ZH,Wa,EVA,seval,Zf,men]
 refine Za (UB x1 hs1_0) ?_
 simp only[List.length_map,JX,Qq,ZW,ne_eq,not_true_eq_false,bne_self_eq_false,Zb,Z7,ZH,Wa,EVA,seval,Zf,men]
 refine Za (ZeJ x1 x1 hb1_0) ?_
 simp only[List.length_map,JX,Qq,ZW,ne_eq,not_true_eq_false,bne_self_eq_false,Zb,Z7,ZH,Wa,EVA,seval,Zf,men]
end Go.Fd
