/-
  WHAT THE LAW OF TermValue LEANS ON. Own work.
-/
import Derived.Test.YtfgceefkblbbjaaGreatDoorT08
set_option linter.all false
namespace Go.Fd
theorem ZkO(sig:List TControl)(t:List TTermStep)(_hn:sig.length<=4294967296)(_hbs:∀ y∈sig,Zo 4294967296 y)(_ht:t.length<=4294967296)(_hbt:∀ y∈t,Zv 4294967296 y):Zp 4294967296 (ZS sig t)/\1+(Yl (ZS sig t):Int)<=4611686018427387904:=by
 unfold ZS ZBR
 cases h:ZcB sig t with
 | none=>exact Zul
 | some b=>exact ZxN (Zrw h)
end Go.Fd

/-
  THE LAW OF TermValue (printed by lawtext.py). Own work.
-/
namespace Go.Fd
set_option maxRecDepth 20000
theorem ZbV(x0:(List TControl))(x1:(List TTermStep))(hb0_0:x0.length<=9223372036854775807)(hb0_1:∀ y∈x0,Zo 9223372036854775807 y)(hb1_0:x1.length<=9223372036854775807)(hb1_1:∀ y∈x1,Zv 9223372036854775807 y)(lvl:Nat)(S:Sto):Sem Go.Proofs.Tryz.prog Qr lvl [.tr (.sl (x0.map Zh)),.tr (.sl (x1.map Zf))] S (iB true) S:=by
 refine Zb Zal trivial ?_
 simp only[XN,EVA,seval,Zj,men]
 have ul:(1048576:Int)<=1048576:=Int.le_refl _
 obtain⟨_,ha0⟩:=Dh x0 hb0_0 hb0_1 (1048576) (by omega) (by omega)
 refine Za ha0 ?_
 simp only[EVA,seval,Zj,men]
 refine Zk (fun _=>trivial) (fun hz0=>?_)
 have zp0:=(ZtP (f:=Jf) (fun y=>(Zgn y)) x0) (1048576) (by omega) (by omega)
 have zq0:=(ZBH (f:=Jf) (n:=Vb) (fun y=>Zmr (Zqa y) (by omega)) x0) (1048576) (by omega) (by omega)
 simp only at zp0 zq0
 have hp0:=zp0.2 (by omega)
 have hq0:=zq0.2 (by omega)
 obtain⟨hs0_0,hs0_1⟩:=hp0
 obtain⟨_,ha1⟩:=Uy x1 hb1_0 hb1_1 (szL Jf x0 (1048576)) (by omega) (by omega)
 refine Za ha1 ?_
 simp only[EVA,seval,Zj,men]
 refine Zk (fun _=>trivial) (fun hz1=>?_)
 have zp1:=(ZtP (f:=JO) (fun y=>(Zen y)) x1) (szL Jf x0 (1048576)) (by omega) (by omega)
 have zq1:=(ZBH (f:=JO) (n:=YG) (fun y=>Zmr (ZnX y) (by omega)) x1) (szL Jf x0 (1048576)) (by omega) (by omega)
 simp only at zp1 zq1
 have hp1:=zp1.2 (by omega)
 have hq1:=zq1.2 (by omega)
 obtain⟨hs1_0,hs1_1⟩:=hp1
 refine Za (Jt x0 hs0_0 hs0_1) ?_
 simp only[EVA,seval,Zj,men]
 refine Za (Ji x1 hs1_0 hs1_1) ?_
 simp only[EVA,seval,Zj,men]
 refine Za (ZdJ x0 x1 hs0_0 hs0_1 hs1_0 hs1_1) ?_
 simp only[Zg,EVA,seval,Zj,men]
 refine Za (Jt x0 hs0_0 hs0_1) ?_
 simp only[List.length_map,EVA,seval,Zj,men]
 refine Za (Ji x1 hs1_0 hs1_1) ?_
 simp only[List.length_map,Q1,EVA,seval,Zj,men]
 refine Za (UU x0 x1 hs0_0 hs0_1 hs1_0 hs1_1) ?_
 simp only[List.length_map,Q1,Zg,EVA,seval,Zj,men]
 obtain⟨hr0_0,hrn⟩:=ZkO x0 x1 hs0_0 hs0_1 hs1_0 hs1_1
 refine Za (Zam (ZS x0 x1) (ZS x0 x1) (Zcw hr0_0)) ?_
 simp only[bne_self_eq_false,EVA,seval,Zj,men]
 refine Za (Jt x0 hs0_0 hs0_1) ?_
 simp only[List.length_map,Q1,EVA,seval,Zj,men]
 refine Za (Di x0 x0 hb0_0 hb0_1) ?_
 simp only[EVA,seval,Zj,men]
 refine Za (Ji x1 hs1_0 hs1_1) ?_
 simp only[List.length_map,Q1,EVA,seval,Zj,men]
 refine Za (Uz x1 x1 hb1_0 hb1_1) ?_
 simp only[EVA,seval]
 simp only[ZgU]
 refine ZjZ Zjm (a:=x0) rfl (by omega) (by omega) hs0_0 hs0_1 ?_
 simp only[EVA,seval]
 simp only[ZgU]
 refine ZjZ Zhu (a:=x1) rfl (by omega) (by omega) hs1_0 hs1_1 ?_
 simp only[List.length_map,Q1,EVA,seval,Zj,men]
 have hk0:¬ (1+(nL Vb x0:Nat)+(nL YG x1:Nat)<(0:Int)):=by omega
 simp only[hk0,EVA,seval]
 refine Za (Zam (ZS x0 x1) (ZS x0 x1) (Zcw hr0_0)) ?_
 simp only[bne_self_eq_false,EVA,seval]
 simp only[ZgU]
 refine ZgT (x:=(ZS x0 x1)) (by decide) (by decide) (by decide) (by decide) (by decide) (by decide) rfl rfl rfl rfl (by omega) (by omega) hr0_0 ?_
 simp only[List.length_map,Zsq,Vz,EVA,seval,Zj,men]
 refine Za (Ze4 (ZS x0 x1) (1) hr0_0 (by omega) (by omega)) ?_
 have hh0:¬ (1+(Yl (ZS x0 x1):Nat)<(0:Int)):=by omega
 simp only[hh0,ne_eq,not_true_eq_false,EVA,seval,Zj,men]
 refine Za (Jt x0 hs0_0 hs0_1) ?_
 simp only[EVA,seval,Zj,men]
 refine Za (Ji x1 hs1_0 hs1_1) ?_
 simp only[EVA,seval,Zj,men]
 refine Za (UU x0 x1 hs0_0 hs0_1 hs1_0 hs1_1) ?_
 simp only[Zg,EVA,seval,Zj,men]
 refine Za (Zam (ZS x0 x1) (ZS x0 x1) (Zcw hr0_0)) ?_
 simp only[List.length_map,Zsq,Vz,bne_self_eq_false,EVA,seval,Zj,men]
 refine Za (Ze4 (ZS x0 x1) (1) hr0_0 (by omega) (by omega)) ?_
 have hh0:¬ (1+(Yl (ZS x0 x1):Nat)<(0:Int)):=by omega
 simp only[hh0,ne_eq,not_true_eq_false,EVA,seval]
end Go.Fd
