/-
  WHAT THE LAW OF AreIsomorphic LEANS ON. Own work.
-/
import Derived.Test.YtfgceefkblbbjaaGreatDoorT06
set_option linter.all false

/-
  THE LAW OF AreIsomorphic (printed by lawtext.py). Own work.
-/
namespace Go.Fd
set_option maxRecDepth 20000
theorem Wb(x0:(List TControl))(x1:TBigraph)(x2:TBigraph)(hb0_0:x0.length<=9223372036854775807)(hb0_1:∀ y∈x0,ZA 9223372036854775807 y)(hb1_0:Zv 9223372036854775807 x1)(hb2_0:Zv 9223372036854775807 x2)(hf1:ZG x1)(hf2:ZG x2)(lvl:Nat)(S:Sto):Sem Go.Proofs.Tryz.prog J1 lvl [.tr (.sl (x0.map Zi)),.ag ((Zc x1).map .tr),.ag ((Zc x2).map .tr)] S (iB true) S:=by
 refine Zb Xk trivial ?_
 simp only[Yu,Zc,EVA,seval,Zl,men]
 have ul:(1048576:Int)<=1048576:=Int.le_refl _
 obtain⟨_,ha0⟩:=XO x0 hb0_0 hb0_1 (1048576) (by omega) (by omega)
 refine Za ha0 ?_
 simp only[EVA,seval,Zl,men]
 refine Zp (fun _=>trivial) (fun hz0=>?_)
 have zp0:=(ZmU (f:=ZB) (fun y=>(Zb4 y)) x0) (1048576) (by omega) (by omega)
 simp only at zp0
 have hp0:=zp0.2 (by omega)
 obtain⟨hs0_0,hs0_1⟩:=hp0
 obtain⟨_,ha1⟩:=YB x1 hb1_0 (szL ZB x0 (1048576)) (by omega) (by omega)
 refine Za ha1 ?_
 simp only[EVA,seval,Zl,men]
 refine Zp (fun _=>trivial) (fun hz1=>?_)
 have zp1:=(X7 x1) (szL ZB x0 (1048576)) (by omega) (by omega)
 simp only at zp1
 have hp1:=zp1.2 (by omega)
 have hs1_0:=hp1
 obtain⟨_,ha2⟩:=YB x2 hb2_0 (JD x1 (szL ZB x0 (1048576))) (by omega) (by omega)
 refine Za ha2 ?_
 simp only[EVA,seval,Zl,men]
 refine Zp (fun _=>trivial) (fun hz2=>?_)
 have zp2:=(X7 x2) (JD x1 (szL ZB x0 (1048576))) (by omega) (by omega)
 simp only at zp2
 have hp2:=zp2.2 (by omega)
 have hs2_0:=hp2
 refine Za (Z3 x0 hs0_0 hs0_1) ?_
 simp only[EVA,seval,Zl,men]
 refine Za (Zx x1 hs1_0) ?_
 simp only[Jb,EVA,seval,Zl,men]
 refine Za (Zx x2 hs2_0) ?_
 simp only[Jb,EVA,seval,Zl,men]
 refine Za (W4 x0 x1 x2 hs0_0 hs0_1 hs1_0 hs2_0 hf1 hf2) ?_
 simp only[EVA,seval,Zl,men]
 refine Za (Z3 x0 hs0_0 hs0_1) ?_
 simp only[EVA,seval,Zl,men]
 refine Za (Zx x1 hs1_0) ?_
 simp only[Jb,EVA,seval,Zl,men]
 refine Za (Zx x2 hs2_0) ?_
 simp only[Jb,EVA,seval,Zl,men]
 refine Za (W5 x0 x1 x2 hs0_0 hs0_1 hs1_0 hs2_0 hf1 hf2) ?_
 simp only[bne_self_eq_false,EVA,seval,Zl,men]
 refine Za (Z3 x0 hs0_0 hs0_1) ?_
 simp only[EVA,seval,Zl,men]
 refine Za (XP x0 x0 hb0_0 hb0_1) ?_
 simp only[EVA,seval,Zl,men]
 refine Za (Zx x1 hs1_0) ?_
 simp only[Jb,EVA,seval,Zl,men]
 refine Za (YC x1 x1 hb1_0) ?_
 simp only[EVA,seval,Zl,men]
 refine Za (Zx x2 hs2_0) ?_
 simp only[Jb,EVA,seval,Zl,men]
 refine Za (YC x2 x2 hb2_0) ?_
 simp only[EVA,seval]
end Go.Fd
