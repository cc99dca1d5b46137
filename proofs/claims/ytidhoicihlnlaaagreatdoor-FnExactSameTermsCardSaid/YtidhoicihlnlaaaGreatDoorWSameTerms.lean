/-
  WHAT THE LAW OF SameTerms LEANS ON. Own work.
-/
import Derived.Test.YtidhoicihlnlaaaGreatDoorT08
set_option linter.all false

/-
  THE LAW OF SameTerms (printed by lawtext.py). Own work.
-/
namespace Go.Fd
set_option maxRecDepth 20000
theorem Zb3(x0:(List TControl))(x1:(List TTermStep))(x2:(List TTermStep))(hb0_0:x0.length<=9223372036854775807)(hb0_1:∀ y∈x0,Zq 9223372036854775807 y)(hb1_0:x1.length<=9223372036854775807)(hb1_1:∀ y∈x1,Zz 9223372036854775807 y)(hb2_0:x2.length<=9223372036854775807)(hb2_1:∀ y∈x2,Zz 9223372036854775807 y)(lvl:Nat)(S:Sto):Sem Proofs.Tryz.prog Qt lvl [.tr (.sl (x0.map Zj)),.tr (.sl (x1.map Zi)),.tr (.sl (x2.map Zi))] S (iB true) S:=by
 refine Zc Zax trivial ?_
 simp only[X2,List.length_map,Js,X7,Jn,ne_eq,not_true_eq_false,bne_self_eq_false,EVA,seval,Zf,men]
 have ul:(1048576:Int)<=1048576:=Int.le_refl _
 obtain⟨_,ha0⟩:=Zhr x0 hb0_0 hb0_1 (1048576) (by omega) (by omega)
 refine Za ha0 ?_
 simp only[List.length_map,Js,X7,Jn,ne_eq,not_true_eq_false,bne_self_eq_false,EVA,seval,Zf,men]
 refine Zk (fun _=>trivial) (fun hz0=>?_)
 have zp0:=(Zzf (f:=Yu) (fun y=>(Zpo y)) x0) (1048576) (by omega) (by omega)
 simp only at zp0
 have hp0:=zp0.2 (by omega)
 obtain⟨hs0_0,hs0_1⟩:=hp0
 obtain⟨_,ha1⟩:=ZbA x1 hb1_0 hb1_1 (szL Yu x0 (1048576)) (by omega) (by omega)
 refine Za ha1 ?_
 simp only[List.length_map,Js,X7,Jn,ne_eq,not_true_eq_false,bne_self_eq_false,EVA,seval,Zf,men]
 refine Zk (fun _=>trivial) (fun hz1=>?_)
 have zp1:=(Zzf (f:=Ya) (fun y=>(ZhJ y)) x1) (szL Yu x0 (1048576)) (by omega) (by omega)
 simp only at zp1
 have hp1:=zp1.2 (by omega)
 obtain⟨hs1_0,hs1_1⟩:=hp1
 obtain⟨_,ha2⟩:=ZbA x2 hb2_0 hb2_1 (szL Ya x1 (szL Yu x0 (1048576))) (by omega) (by omega)
 refine Za ha2 ?_
 simp only[List.length_map,Js,X7,Jn,ne_eq,not_true_eq_false,bne_self_eq_false,EVA,seval,Zf,men]
 refine Zk (fun _=>trivial) (fun hz2=>?_)
 have zp2:=(Zzf (f:=Ya) (fun y=>(ZhJ y)) x2) (szL Ya x1 (szL Yu x0 (1048576))) (by omega) (by omega)
 simp only at zp2
 have hp2:=zp2.2 (by omega)
 obtain⟨hs2_0,hs2_1⟩:=hp2
 refine Za (Dv x0 hs0_0 hs0_1) ?_
 simp only[List.length_map,Js,X7,Jn,ne_eq,not_true_eq_false,bne_self_eq_false,EVA,seval,Zf,men]
 refine Za (Y3 x1 hs1_0 hs1_1) ?_
 simp only[List.length_map,Js,X7,Jn,ne_eq,not_true_eq_false,bne_self_eq_false,EVA,seval,Zf,men]
 refine Za (Y3 x2 hs2_0 hs2_1) ?_
 simp only[List.length_map,Js,X7,Jn,ne_eq,not_true_eq_false,bne_self_eq_false,EVA,seval,Zf,men]
 refine Za (ZdV x0 x1 x2 hs0_0 hs0_1 hs1_0 hs1_1 hs2_0 hs2_1) ?_
 simp only[List.length_map,Js,X7,Jn,ne_eq,not_true_eq_false,bne_self_eq_false,EVA,seval,Zf,men]
 refine Za (Dv x0 hs0_0 hs0_1) ?_
 simp only[List.length_map,Js,X7,Jn,ne_eq,not_true_eq_false,bne_self_eq_false,EVA,seval,Zf,men]
 refine Za (Y3 x1 hs1_0 hs1_1) ?_
 simp only[List.length_map,Js,X7,Jn,ne_eq,not_true_eq_false,bne_self_eq_false,EVA,seval,Zf,men]
 refine Za (Y3 x2 hs2_0 hs2_1) ?_
 simp only[List.length_map,Js,X7,Jn,ne_eq,not_true_eq_false,bne_self_eq_false,EVA,seval,Zf,men]
 refine Za (ZdW x0 x1 x2 hs0_0 hs0_1 hs1_0 hs1_1 hs2_0 hs2_1) ?_
 simp only[List.length_map,Js,X7,Jn,ne_eq,not_true_eq_false,bne_self_eq_false,EVA,seval,Zf,men]
 refine Za (Dv x0 hs0_0 hs0_1) ?_
 simp only[List.length_map,Js,X7,Jn,ne_eq,not_true_eq_false,bne_self_eq_false,EVA,seval,Zf,men]
 refine Za (Zhs x0 x0 hb0_0 hb0_1) ?_
 simp only[List.length_map,Js,X7,Jn,ne_eq,not_true_eq_false,bne_self_eq_false,EVA,seval,Zf,men]
 refine Za (Y3 x1 hs1_0 hs1_1) ?_
 simp only[List.length_map,Js,X7,Jn,ne_eq,not_true_eq_false,bne_self_eq_false,EVA,seval,Zf,men]
 refine Za (ZbB x1 x1 hb1_0 hb1_1) ?_
 simp only[List.length_map,Js,X7,Jn,ne_eq,not_true_eq_false,bne_self_eq_false,EVA,seval,Zf,men]
 refine Za (Y3 x2 hs2_0 hs2_1) ?_
 simp only[List.length_map,Js,X7,Jn,ne_eq,not_true_eq_false,bne_self_eq_false,EVA,seval,Zf,men]
 refine Za (ZbB x2 x2 hb2_0 hb2_1) ?_
 simp only[List.length_map,Js,X7,Jn,ne_eq,not_true_eq_false,bne_self_eq_false,EVA,seval,Zf,men]
end Go.Fd
