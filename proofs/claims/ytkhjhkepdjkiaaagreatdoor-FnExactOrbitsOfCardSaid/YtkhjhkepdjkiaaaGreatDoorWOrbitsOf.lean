/-
  WHAT THE LAW OF OrbitsOf LEANS ON. Own work.
-/
import Derived.Test.YtkhjhkepdjkiaaaGreatDoorT07
set_option linter.all false
namespace Go.Fd
theorem ZjE(sig:List TControl)(b:TBigraph)(_hn:sig.length<=4294967296)(_hbs:∀ y∈sig,ZC 4294967296 y)(_hb:Zw 4294967296 b):(ZU sig b).length<=4294967296/\1+(nL WV (ZU sig b):Int)<=4611686018427387904:=by
 have h:(ZU sig b).length<=4294967296:=by
  unfold ZU
  split
  ·rename_i ho
   rw[Wc]
   have:=ho.nodesL
   omega
  ·simp
 rw[ZkB]
 exact⟨h,by omega⟩
end Go.Fd

/-
  THE LAW OF OrbitsOf (printed by lawtext.py). Own work.
-/
namespace Go.Fd
set_option maxRecDepth 20000
theorem Zbq(x0:(List TControl))(x1:TBigraph)(hb0_0:x0.length<=9223372036854775807)(hb0_1:∀ y∈x0,ZC 9223372036854775807 y)(hb1_0:Zw 9223372036854775807 x1)(hf1:ZR x1)(lvl:Nat)(S:Sto):Sem Proofs.Tryz.prog Qg lvl [.tr (.sl (x0.map Zj)),.ag ((Za x1).map .tr)] S (iB true) S:=by
 refine Zc DS trivial ?_
 simp only[Xg,List.length_map,Zi,Zr,Zg,ne_eq,not_true_eq_false,bne_self_eq_false,Za,Zh,EVA,seval,Zd,men]
 have ul:(1048576:Int)<=1048576:=Int.le_refl _
 obtain⟨_,ha0⟩:=VY x0 hb0_0 hb0_1 (1048576) (by omega) (by omega)
 refine Zb ha0 ?_
 simp only[List.length_map,Zi,Zr,Zg,ne_eq,not_true_eq_false,bne_self_eq_false,Za,Zh,EVA,seval,Zd,men]
 refine Zn (fun _=>trivial) (fun hz0=>?_)
 have zp0:=(Zo9 (f:=ZE) (fun y=>(Zao y)) x0) (1048576) (by omega) (by omega)
 have zq0:=(Zrp (f:=ZE) (n:=JU) (fun y=>ZbN (ZeY y) (by omega)) x0) (1048576) (by omega) (by omega)
 simp only at zp0 zq0
 have hp0:=zp0.2 (by omega)
 have hq0:=zq0.2 (by omega)
 obtain⟨hs0_0,hs0_1⟩:=hp0
 obtain⟨_,ha1⟩:=YH x1 hb1_0 (szL ZE x0 (1048576)) (by omega) (by omega)
 refine Zb ha1 ?_
 simp only[List.length_map,Zi,Zr,Zg,ne_eq,not_true_eq_false,bne_self_eq_false,Za,Zh,EVA,seval,Zd,men]
 refine Zn (fun _=>trivial) (fun hz1=>?_)
 have zp1:=(WP x1) (szL ZE x0 (1048576)) (by omega) (by omega)
 have zq1:=(Zcu x1) (szL ZE x0 (1048576)) (by omega) (by omega)
 simp only at zp1 zq1
 have hp1:=zp1.2 (by omega)
 have hq1:=zq1.2 (by omega)
 have hs1_0:=hp1
 refine Zb (ZI x0 hs0_0 hs0_1) ?_
 simp only[List.length_map,Zi,Zr,Zg,ne_eq,not_true_eq_false,bne_self_eq_false,Za,Zh,EVA,seval,Zd,men]
 refine Zb (Zz x1 hs1_0) ?_
 simp only[List.length_map,Zi,Zr,Zg,ne_eq,not_true_eq_false,bne_self_eq_false,Za,Zh,EVA,seval,Zd,men]
 refine Zb (Zc8 x0 x1 hs0_0 hs0_1 hs1_0 hf1) ?_
 simp only[List.length_map,Zi,Zr,Zg,ne_eq,not_true_eq_false,bne_self_eq_false,Za,Zh,EVA,seval,Zd,men]
 refine Zb (ZI x0 hs0_0 hs0_1) ?_
 simp only[List.length_map,Zi,Zr,Zg,ne_eq,not_true_eq_false,bne_self_eq_false,Za,Zh,EVA,seval,Zd,men]
 refine Zb (Zz x1 hs1_0) ?_
 simp only[List.length_map,Zi,Zr,Zg,ne_eq,not_true_eq_false,bne_self_eq_false,Za,Zh,EVA,seval,Zd,men]
 refine Zb (UV x0 x1 hs0_0 hs0_1 hs1_0 hf1) ?_
 simp only[List.length_map,Zi,Zr,Zg,ne_eq,not_true_eq_false,bne_self_eq_false,Za,Zh,EVA,seval,Zd,men]
 obtain⟨hr0_0,hrn⟩:=ZjE x0 x1 hs0_0 hs0_1 hs1_0
 refine Zb (Vu (ZU x0 x1) (ZU x0 x1) (by omega)) ?_
 simp only[List.length_map,Zi,Zr,Zg,ne_eq,not_true_eq_false,bne_self_eq_false,Za,Zh,EVA,seval,Zd,men]
 refine Zb (ZI x0 hs0_0 hs0_1) ?_
 simp only[List.length_map,Zi,Zr,Zg,ne_eq,not_true_eq_false,bne_self_eq_false,Za,Zh,EVA,seval,Zd,men]
 refine Zb (VZ x0 x0 hb0_0 hb0_1) ?_
 simp only[List.length_map,Zi,Zr,Zg,ne_eq,not_true_eq_false,bne_self_eq_false,Za,Zh,EVA,seval,Zd,men]
 refine Zb (Zz x1 hs1_0) ?_
 simp only[List.length_map,Zi,Zr,Zg,ne_eq,not_true_eq_false,bne_self_eq_false,Za,Zh,EVA,seval,Zd,men]
 refine Zb (YI x1 x1 hb1_0) ?_
 simp only[List.length_map,Zi,Zr,Zg,ne_eq,not_true_eq_false,bne_self_eq_false,Za,Zh,EVA,seval,Zd,men]
 simp only[Zcy]
 refine UK Dl (a:=x0) rfl (by omega) (by omega) hs0_0 hs0_1 ?_
 simp only[List.length_map,Zi,Zr,Zg,ne_eq,not_true_eq_false,bne_self_eq_false,Za,Zh,EVA,seval,Zd,men]
 simp only[Zcy]
 refine Q5 (x:=x1) (by decide) (by decide) (by decide) (by decide) (by decide) (by decide) rfl rfl rfl rfl (by omega) (by omega) hs1_0 ?_
 simp only[List.length_map,Zi,Zr,Zg,ne_eq,not_true_eq_false,bne_self_eq_false,Za,Zh,EVA,seval,Zd,men]
 have hk0:¬ (1+(nL JU x0:Nat)+(Vt x1:Nat)<(0:Int)):=by omega
 simp only[hk0,List.length_map,Zi,Zr,Zg,ne_eq,not_true_eq_false,bne_self_eq_false,Za,Zh,EVA,seval,Zd,men]
 refine Zb (Vu (ZU x0 x1) (ZU x0 x1) (by omega)) ?_
 simp only[List.length_map,Zi,Zr,Zg,ne_eq,not_true_eq_false,bne_self_eq_false,Za,Zh,EVA,seval,Zd,men]
 simp only[Zcy]
 refine UK Zav (a:=(ZU x0 x1)) rfl (by omega) (by omega) hr0_0 (fun _ _=>trivial) ?_
 simp only[List.length_map,Zi,Zr,Zg,ne_eq,not_true_eq_false,bne_self_eq_false,Za,Zh,EVA,seval,Zd,men]
 refine Zb (Zaw (ZU x0 x1) (1) hr0_0 (by omega) (by omega)) ?_
 have hh0:¬ (1+(nL WV (ZU x0 x1):Nat)<(0:Int)):=by omega
 simp only[hh0,List.length_map,Zi,Zr,Zg,ne_eq,not_true_eq_false,bne_self_eq_false,Za,Zh,EVA,seval,Zd,men]
 refine Zb (ZI x0 hs0_0 hs0_1) ?_
 simp only[List.length_map,Zi,Zr,Zg,ne_eq,not_true_eq_false,bne_self_eq_false,Za,Zh,EVA,seval,Zd,men]
 refine Zb (Zz x1 hs1_0) ?_
 simp only[List.length_map,Zi,Zr,Zg,ne_eq,not_true_eq_false,bne_self_eq_false,Za,Zh,EVA,seval,Zd,men]
 refine Zb (UV x0 x1 hs0_0 hs0_1 hs1_0 hf1) ?_
 simp only[List.length_map,Zi,Zr,Zg,ne_eq,not_true_eq_false,bne_self_eq_false,Za,Zh,EVA,seval,Zd,men]
 refine Zb (Vu (ZU x0 x1) (ZU x0 x1) (by omega)) ?_
 simp only[List.length_map,Zi,Zr,Zg,ne_eq,not_true_eq_false,bne_self_eq_false,Za,Zh,EVA,seval,Zd,men]
 refine Zb (Zaw (ZU x0 x1) (1) hr0_0 (by omega) (by omega)) ?_
 have hh0:¬ (1+(nL WV (ZU x0 x1):Nat)<(0:Int)):=by omega
 simp only[hh0,List.length_map,Zi,Zr,Zg,ne_eq,not_true_eq_false,bne_self_eq_false,Za,Zh,EVA,seval,Zd,men]
end Go.Fd
