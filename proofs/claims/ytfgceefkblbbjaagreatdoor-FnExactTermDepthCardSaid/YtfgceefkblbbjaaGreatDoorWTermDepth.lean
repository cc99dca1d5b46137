/-
  WHAT THE LAW OF TermDepth LEANS ON. Own work.
-/
import Derived.Test.YtfgceefkblbbjaaGreatDoorT08
set_option linter.all false

/-
  THE LAW OF TermDepth (printed by lawtext.py). Own work.
-/
namespace Go.Fd
set_option maxRecDepth 20000
theorem ZbU(x0:(List TControl))(x1:(List TTermStep))(hb0_0:x0.length<=9223372036854775807)(hb0_1:∀ y∈x0,Zo 9223372036854775807 y)(hb1_0:x1.length<=9223372036854775807)(hb1_1:∀ y∈x1,Zv 9223372036854775807 y)(lvl:Nat)(S:Sto):Sem Go.Proofs.Tryz.prog Qq lvl [.tr (.sl (x0.map Zh)),.tr (.sl (x1.map Zf))] S (iB true) S:=by
 refine Zb Zak trivial ?_
 simp only[XM,EVA,seval,Zj,men]
 have ul:(1048576:Int)<=1048576:=Int.le_refl _
 obtain⟨_,ha0⟩:=Dh x0 hb0_0 hb0_1 (1048576) (by omega) (by omega)
 refine Za ha0 ?_
 simp only[EVA,seval,Zj,men]
 refine Zk (fun _=>trivial) (fun hz0=>?_)
 have zp0:=(ZtP (f:=Jf) (fun y=>(Zgn y)) x0) (1048576) (by omega) (by omega)
 simp only at zp0
 have hp0:=zp0.2 (by omega)
 obtain⟨hs0_0,hs0_1⟩:=hp0
 obtain⟨_,ha1⟩:=Uy x1 hb1_0 hb1_1 (szL Jf x0 (1048576)) (by omega) (by omega)
 refine Za ha1 ?_
 simp only[EVA,seval,Zj,men]
 refine Zk (fun _=>trivial) (fun hz1=>?_)
 have zp1:=(ZtP (f:=JO) (fun y=>(Zen y)) x1) (szL Jf x0 (1048576)) (by omega) (by omega)
 simp only at zp1
 have hp1:=zp1.2 (by omega)
 obtain⟨hs1_0,hs1_1⟩:=hp1
 refine Za (Jt x0 hs0_0 hs0_1) ?_
 simp only[EVA,seval,Zj,men]
 refine Za (Ji x1 hs1_0 hs1_1) ?_
 simp only[EVA,seval,Zj,men]
 refine Za (ZdK x0 x1 hs0_0 hs0_1 hs1_0 hs1_1) ?_
 simp only[EVA,seval,Zj,men]
 refine Za (Jt x0 hs0_0 hs0_1) ?_
 simp only[EVA,seval,Zj,men]
 refine Za (Ji x1 hs1_0 hs1_1) ?_
 simp only[EVA,seval,Zj,men]
 refine Za (ZdL x0 x1 hs0_0 hs0_1 hs1_0 hs1_1) ?_
 simp only[ne_eq,not_true_eq_false,bne_self_eq_false,EVA,seval,Zj,men]
 refine Za (Jt x0 hs0_0 hs0_1) ?_
 simp only[EVA,seval,Zj,men]
 refine Za (Di x0 x0 hb0_0 hb0_1) ?_
 simp only[EVA,seval,Zj,men]
 refine Za (Ji x1 hs1_0 hs1_1) ?_
 simp only[EVA,seval,Zj,men]
 refine Za (Uz x1 x1 hb1_0 hb1_1) ?_
 simp only[EVA,seval]
end Go.Fd
