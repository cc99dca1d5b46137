/-
  WHAT THE LAW OF CountSymmetries LEANS ON. Own work.
-/
import Derived.Test.YtkhjhkepdjkiaaaGreatDoorT07
set_option linter.all false

/-
  THE LAW OF CountSymmetries (printed by lawtext.py). Own work.
-/
namespace Go.Fd
set_option maxRecDepth 20000
theorem WY(x0:(List TControl))(x1:TBigraph)(hb0_0:x0.length<=9223372036854775807)(hb0_1:∀ y∈x0,ZC 9223372036854775807 y)(hb1_0:Zw 9223372036854775807 x1)(hf1:ZR x1)(lvl:Nat)(S:Sto):Sem Proofs.Tryz.prog Yk lvl [.tr (.sl (x0.map Zj)),.ag ((Za x1).map .tr)] S (iB true) S:=by
 refine Zc XW trivial ?_
 simp only[YQ,List.length_map,Zi,Zr,Zg,ne_eq,not_true_eq_false,bne_self_eq_false,Za,Zh,EVA,seval,Zd,men]
 have ul:(1048576:Int)<=1048576:=Int.le_refl _
 obtain⟨_,ha0⟩:=VZ x0 hb0_0 hb0_1 (1048576) (by omega) (by omega)
 refine Zb ha0 ?_
 simp only[List.length_map,Zi,Zr,Zg,ne_eq,not_true_eq_false,bne_self_eq_false,Za,Zh,EVA,seval,Zd,men]
 refine Zn (fun _=>trivial) (fun hz0=>?_)
 have zp0:=(Zo9 (f:=ZE) (fun y=>(Zao y)) x0) (1048576) (by omega) (by omega)
 simp only at zp0
 have hp0:=zp0.2 (by omega)
 obtain⟨hs0_0,hs0_1⟩:=hp0
 obtain⟨_,ha1⟩:=YH x1 hb1_0 (szL ZE x0 (1048576)) (by omega) (by omega)
 refine Zb ha1 ?_
 simp only[List.length_map,Zi,Zr,Zg,ne_eq,not_true_eq_false,bne_self_eq_false,Za,Zh,EVA,seval,Zd,men]
 refine Zn (fun _=>trivial) (fun hz1=>?_)
 have zp1:=(WP x1) (szL ZE x0 (1048576)) (by omega) (by omega)
 simp only at zp1
 have hp1:=zp1.2 (by omega)
 have hs1_0:=hp1
 refine Zb (ZI x0 hs0_0 hs0_1) ?_
 simp only[List.length_map,Zi,Zr,Zg,ne_eq,not_true_eq_false,bne_self_eq_false,Za,Zh,EVA,seval,Zd,men]
 refine Zb (Zz x1 hs1_0) ?_
 simp only[List.length_map,Zi,Zr,Zg,ne_eq,not_true_eq_false,bne_self_eq_false,Za,Zh,EVA,seval,Zd,men]
 refine Zb (UT x0 x1 hs0_0 hs0_1 hs1_0 hf1) ?_
 simp only[List.length_map,Zi,Zr,Zg,ne_eq,not_true_eq_false,bne_self_eq_false,Za,Zh,EVA,seval,Zd,men]
 refine Zb (ZI x0 hs0_0 hs0_1) ?_
 simp only[List.length_map,Zi,Zr,Zg,ne_eq,not_true_eq_false,bne_self_eq_false,Za,Zh,EVA,seval,Zd,men]
 refine Zb (Zz x1 hs1_0) ?_
 simp only[List.length_map,Zi,Zr,Zg,ne_eq,not_true_eq_false,bne_self_eq_false,Za,Zh,EVA,seval,Zd,men]
 refine Zb (UU x0 x1 hs0_0 hs0_1 hs1_0 hf1) ?_
 simp only[List.length_map,Zi,Zr,Zg,ne_eq,not_true_eq_false,bne_self_eq_false,Za,Zh,EVA,seval,Zd,men]
 refine Zb (ZI x0 hs0_0 hs0_1) ?_
 simp only[List.length_map,Zi,Zr,Zg,ne_eq,not_true_eq_false,bne_self_eq_false,Za,Zh,EVA,seval,Zd,men]
 refine Zb (V0 x0 x0 hb0_0 hb0_1) ?_
 simp only[List.length_map,Zi,Zr,Zg,ne_eq,not_true_eq_false,bne_self_eq_false,Za,Zh,EVA,seval,Zd,men]
 refine Zb (Zz x1 hs1_0) ?_
 simp only[List.length_map,Zi,Zr,Zg,ne_eq,not_true_eq_false,bne_self_eq_false,Za,Zh,EVA,seval,Zd,men]
 refine Zb (YI x1 x1 hb1_0) ?_
 simp only[List.length_map,Zi,Zr,Zg,ne_eq,not_true_eq_false,bne_self_eq_false,Za,Zh,EVA,seval,Zd,men]
end Go.Fd
