/-
  WHAT THE LAW OF KeepsSorting LEANS ON. Own work.
-/
import Derived.Test.YtkbgkgggoiefoaaGreatDoorT07
set_option linter.all false

/-
  THE LAW OF KeepsSorting (printed by lawtext.py). Own work.
-/
namespace Go.Fd
set_option maxRecDepth 20000
theorem Wv(x0:(List TControl))(x1:TSorting)(x2:TRule)(hb0_0:x0.length<=9223372036854775807)(hb0_1:∀ y∈x0,ZF 9223372036854775807 y)(hb1_0:Jv 9223372036854775807 x1)(hb2_0:WB 9223372036854775807 x2)(hf2:Zdd x2)(lvl:Nat)(S:Sto):Sem Proofs.Tryz.prog J0 lvl [.tr (.sl (x0.map Zi)),.ag ((Zh x1).map .tr),.ag ((ZO x2).map .tr)] S (iB true) S:=by
 refine Zb Xr trivial ?_
 simp only[Yo,List.length_map,JB,VP,ZX,ne_eq,not_true_eq_false,bne_self_eq_false,Zg,Z3,ZO,X1,Zh,Je,EVA,seval,Zc,men]
 have ul:(1048576:Int)<=1048576:=Int.le_refl _
 obtain⟨_,ha0⟩:=ZcZ x0 hb0_0 hb0_1 (1048576) (by omega) (by omega)
 refine Za ha0 ?_
 simp only[List.length_map,JB,VP,ZX,ne_eq,not_true_eq_false,bne_self_eq_false,Zg,Z3,ZO,X1,Zh,Je,EVA,seval,Zc,men]
 refine Zj (fun _=>trivial) (fun hz0=>?_)
 have zp0:=(ZmD (f:=Jw) (fun y=>(ZiT y)) x0) (1048576) (by omega) (by omega)
 simp only at zp0
 have hp0:=zp0.2 (by omega)
 obtain⟨hs0_0,hs0_1⟩:=hp0
 obtain⟨_,ha1⟩:=ZeH x1 hb1_0 (szL Jw x0 (1048576)) (by omega) (by omega)
 refine Za ha1 ?_
 simp only[List.length_map,JB,VP,ZX,ne_eq,not_true_eq_false,bne_self_eq_false,Zg,Z3,ZO,X1,Zh,Je,EVA,seval,Zc,men]
 refine Zj (fun _=>trivial) (fun hz1=>?_)
 have zp1:=(ZiS x1) (szL Jw x0 (1048576)) (by omega) (by omega)
 simp only at zp1
 have hp1:=zp1.2 (by omega)
 have hs1_0:=hp1
 obtain⟨_,ha2⟩:=ZhJ x2 hb2_0 (Qh x1 (szL Jw x0 (1048576))) (by omega) (by omega)
 refine Za ha2 ?_
 simp only[List.length_map,JB,VP,ZX,ne_eq,not_true_eq_false,bne_self_eq_false,Zg,Z3,ZO,X1,Zh,Je,EVA,seval,Zc,men]
 refine Zj (fun _=>trivial) (fun hz2=>?_)
 have zp2:=(Zpg x2) (Qh x1 (szL Jw x0 (1048576))) (by omega) (by omega)
 simp only at zp2
 have hp2:=zp2.2 (by omega)
 have hs2_0:=hp2
 refine Za (XQ x0 hs0_0 hs0_1) ?_
 simp only[List.length_map,JB,VP,ZX,ne_eq,not_true_eq_false,bne_self_eq_false,Zg,Z3,ZO,X1,Zh,Je,EVA,seval,Zc,men]
 refine Za (Wu x1 hs1_0) ?_
 simp only[List.length_map,JB,VP,ZX,ne_eq,not_true_eq_false,bne_self_eq_false,Zg,Z3,ZO,X1,Zh,Je,EVA,seval,Zc,men]
 refine Za (ZaQ x2 hs2_0) ?_
 simp only[List.length_map,JB,VP,ZX,ne_eq,not_true_eq_false,bne_self_eq_false,Zg,Z3,ZO,X1,Zh,Je,EVA,seval,Zc,men]
 refine Za (Ur x0 x1 x2 hs0_0 hs0_1 hs1_0 hs2_0 hf2) ?_
 simp only[List.length_map,JB,VP,ZX,ne_eq,not_true_eq_false,bne_self_eq_false,Zg,Z3,ZO,X1,Zh,Je,EVA,seval,Zc,men]
 refine Za (XQ x0 hs0_0 hs0_1) ?_
 simp only[List.length_map,JB,VP,ZX,ne_eq,not_true_eq_false,bne_self_eq_false,Zg,Z3,ZO,X1,Zh,Je,EVA,seval,Zc,men]
 refine Za (Wu x1 hs1_0) ?_
 simp only[List.length_map,JB,VP,ZX,ne_eq,not_true_eq_false,bne_self_eq_false,Zg,Z3,ZO,X1,Zh,Je,EVA,seval,Zc,men]
 refine Za (ZaQ x2 hs2_0) ?_
 simp only[List.length_map,JB,VP,ZX,ne_eq,not_true_eq_false,bne_self_eq_false,Zg,Z3,ZO,X1,Zh,Je,EVA,seval,Zc,men]
 refine Za (Us x0 x1 x2 hs0_0 hs0_1 hs1_0 hs2_0 hf2) ?_
 simp only[List.length_map,JB,VP,ZX,ne_eq,not_true_eq_false,bne_self_eq_false,Zg,Z3,ZO,X1,Zh,Je,EVA,seval,Zc,men]
 refine Za (XQ x0 hs0_0 hs0_1) ?_
 simp only[List.length_map,JB,VP,ZX,ne_eq,not_true_eq_false,bne_self_eq_false,Zg,Z3,ZO,X1,Zh,Je,EVA,seval,Zc,men]
 refine Za (Zc0 x0 x0 hb0_0 hb0_1) ?_
 simp only[List.length_map,JB,VP,ZX,ne_eq,not_true_eq_false,bne_self_eq_false,Zg,Z3,ZO,X1,Zh,Je,EVA,seval,Zc,men]
 refine Za (Wu x1 hs1_0) ?_
 simp only[List.length_map,JB,VP,ZX,ne_eq,not_true_eq_false,bne_self_eq_false,Zg,Z3,ZO,X1,Zh,Je,EVA,seval,Zc,men]
 refine Za (ZeI x1 x1 hb1_0) ?_
 simp only[List.length_map,JB,VP,ZX,ne_eq,not_true_eq_false,bne_self_eq_false,Zg,Z3,ZO,X1,Zh,Je,EVA,seval,Zc,men]
 refine Za (ZaQ x2 hs2_0) ?_
 simp only[List.length_map,JB,VP,ZX,ne_eq,not_true_eq_false,bne_self_eq_false,Zg,Z3,ZO,X1,Zh,Je,EVA,seval,Zc,men]
 refine Za (ZhN x2 x2 hb2_0) ?_
 simp only[List.length_map,JB,VP,ZX,ne_eq,not_true_eq_false,bne_self_eq_false,Zg,Z3,ZO,X1,Zh,Je,EVA,seval,Zc,men]
end Go.Fd
