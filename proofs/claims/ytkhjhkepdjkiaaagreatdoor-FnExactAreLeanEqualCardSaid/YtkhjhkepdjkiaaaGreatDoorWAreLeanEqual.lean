/-
  WHAT THE LAW OF AreLeanEqual LEANS ON. Own work.
-/
import Derived.Test.YtkhjhkepdjkiaaaGreatDoorT07
set_option linter.all false

/-
  THE LAW OF AreLeanEqual (printed by lawtext.py). Own work.
-/
namespace Go.Fd
set_option maxRecDepth 20000
theorem Dn(x0:(List TControl))(x1:TBigraph)(x2:TBigraph)(hb0_0:x0.length<=9223372036854775807)(hb0_1:∀ y∈x0,ZC 9223372036854775807 y)(hb1_0:Zw 9223372036854775807 x1)(hb2_0:Zw 9223372036854775807 x2)(hf1:ZR x1)(hf2:ZR x2)(lvl:Nat)(S:Sto):Sem Proofs.Tryz.prog Y0 lvl [.tr (.sl (x0.map Zj)),.ag ((Za x1).map .tr),.ag ((Za x2).map .tr)] S (iB true) S:=by
 refine Zc WX trivial ?_
 simp only[Vx,List.length_map,Zi,Zr,Zg,ne_eq,not_true_eq_false,bne_self_eq_false,Za,Zh,EVA,seval,Zd,men]
 have ul:(1048576:Int)<=1048576:=Int.le_refl _
 obtain⟨_,ha0⟩:=VY x0 hb0_0 hb0_1 (1048576) (by omega) (by omega)
 refine Zb ha0 ?_
 simp only[List.length_map,Zi,Zr,Zg,ne_eq,not_true_eq_false,bne_self_eq_false,Za,Zh,EVA,seval,Zd,men]
 refine Zn (fun _=>trivial) (fun hz0=>?_)
 have zp0:=(Zo9 (f:=ZE) (fun y=>(Zao y)) x0) (1048576) (by omega) (by omega)
 simp only at zp0
 have hp0:=zp0.2 (by omega)
 obtain⟨hs0_0,hs0_1⟩:=hp0
 obtain⟨_,ha1⟩:=YH x1 hb1_0 (szL ZE x0 (1048576)) (by omega) (by omega)
 refine Zb ha1 ?_
 simp only[List.length_map,Zi,Zr,Zg,ne_eq,not_true_eq_false,bne_self_eq_false,Za,Zh,EVA,seval,Zd,men]
 refine Zn (fun _=>trivial) (fun hz1=>?_)
 have zp1:=(WP x1) (szL ZE x0 (1048576)) (by omega) (by omega)
 simp only at zp1
 have hp1:=zp1.2 (by omega)
 have hs1_0:=hp1
 obtain⟨_,ha2⟩:=YH x2 hb2_0 (YL x1 (szL ZE x0 (1048576))) (by omega) (by omega)
 refine Zb ha2 ?_
 simp only[List.length_map,Zi,Zr,Zg,ne_eq,not_true_eq_false,bne_self_eq_false,Za,Zh,EVA,seval,Zd,men]
 refine Zn (fun _=>trivial) (fun hz2=>?_)
 have zp2:=(WP x2) (YL x1 (szL ZE x0 (1048576))) (by omega) (by omega)
 simp only at zp2
 have hp2:=zp2.2 (by omega)
 have hs2_0:=hp2
 refine Zb (ZI x0 hs0_0 hs0_1) ?_
 simp only[List.length_map,Zi,Zr,Zg,ne_eq,not_true_eq_false,bne_self_eq_false,Za,Zh,EVA,seval,Zd,men]
 refine Zb (Zz x1 hs1_0) ?_
 simp only[List.length_map,Zi,Zr,Zg,ne_eq,not_true_eq_false,bne_self_eq_false,Za,Zh,EVA,seval,Zd,men]
 refine Zb (Zz x2 hs2_0) ?_
 simp only[List.length_map,Zi,Zr,Zg,ne_eq,not_true_eq_false,bne_self_eq_false,Za,Zh,EVA,seval,Zd,men]
 refine Zb (Zay x0 x1 x2 hs0_0 hs0_1 hs1_0 hs2_0 hf1 hf2) ?_
 simp only[List.length_map,Zi,Zr,Zg,ne_eq,not_true_eq_false,bne_self_eq_false,Za,Zh,EVA,seval,Zd,men]
 refine Zb (ZI x0 hs0_0 hs0_1) ?_
 simp only[List.length_map,Zi,Zr,Zg,ne_eq,not_true_eq_false,bne_self_eq_false,Za,Zh,EVA,seval,Zd,men]
 refine Zb (Zz x1 hs1_0) ?_
 simp only[List.length_map,Zi,Zr,Zg,ne_eq,not_true_eq_false,bne_self_eq_false,Za,Zh,EVA,seval,Zd,men]
 refine Zb (Zz x2 hs2_0) ?_
 simp only[List.length_map,Zi,Zr,Zg,ne_eq,not_true_eq_false,bne_self_eq_false,Za,Zh,EVA,seval,Zd,men]
 refine Zb (Zaz x0 x1 x2 hs0_0 hs0_1 hs1_0 hs2_0 hf1 hf2) ?_
 simp only[List.length_map,Zi,Zr,Zg,ne_eq,not_true_eq_false,bne_self_eq_false,Za,Zh,EVA,seval,Zd,men]
 refine Zb (ZI x0 hs0_0 hs0_1) ?_
 simp only[List.length_map,Zi,Zr,Zg,ne_eq,not_true_eq_false,bne_self_eq_false,Za,Zh,EVA,seval,Zd,men]
 refine Zb (VZ x0 x0 hb0_0 hb0_1) ?_
 simp only[List.length_map,Zi,Zr,Zg,ne_eq,not_true_eq_false,bne_self_eq_false,Za,Zh,EVA,seval,Zd,men]
 refine Zb (Zz x1 hs1_0) ?_
 simp only[List.length_map,Zi,Zr,Zg,ne_eq,not_true_eq_false,bne_self_eq_false,Za,Zh,EVA,seval,Zd,men]
 refine Zb (YI x1 x1 hb1_0) ?_
 simp only[List.length_map,Zi,Zr,Zg,ne_eq,not_true_eq_false,bne_self_eq_false,Za,Zh,EVA,seval,Zd,men]
 refine Zb (Zz x2 hs2_0) ?_
 simp only[List.length_map,Zi,Zr,Zg,ne_eq,not_true_eq_false,bne_self_eq_false,Za,Zh,EVA,seval,Zd,men]
 refine Zb (YI x2 x2 hb2_0) ?_
 simp only[List.length_map,Zi,Zr,Zg,ne_eq,not_true_eq_false,bne_self_eq_false,Za,Zh,EVA,seval,Zd,men]
end Go.Fd
