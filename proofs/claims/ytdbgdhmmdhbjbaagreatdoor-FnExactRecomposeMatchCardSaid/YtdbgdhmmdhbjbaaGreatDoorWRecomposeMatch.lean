/-
  WHAT THE LAW OF RecomposeMatch LEANS ON. Own work.
-/
import Derived.Test.YtdbgdhmmdhbjbaaGreatDoorT07
set_option linter.all false
namespace Go.Fd
theorem Uu(sig:List TControl)(r c p:TBigraph)(_hn:sig.length<=4294967296)(_hbs:∀ y∈sig,Zy 4294967296 y)(_h1:Zl 4294967296 r)(_h2:Zl 4294967296 c)(_h3:Zl 4294967296 p):Zl 4294967296 (Zj sig r c p)/\1+(Z4 (Zj sig r c p):Int)<=4611686018427387904:=by
 unfold Zj
 split
 ·rename_i h;exact Zt2 h.2.2.2.2.2.2.2.2.2
 ·exact ZqC
end Go.Fd

/-
  THE LAW OF RecomposeMatch (printed by lawtext.py). Own work.
-/
namespace Go.Fd
set_option maxRecDepth 20000
set_option maxHeartbeats 2000000 in
theorem W4(x0:(List TControl))(x1:TBigraph)(x2:TBigraph)(x3:TBigraph)(hb0_0:x0.length<=9223372036854775807)(hb0_1:∀ y∈x0,Zy 9223372036854775807 y)(hb1_0:Zl 9223372036854775807 x1)(hb2_0:Zl 9223372036854775807 x2)(hb3_0:Zl 9223372036854775807 x3)(hf1:Zr x1)(hf2:Zr x2)(hf3:Zr x3)(lvl:Nat)(S:Sto):Sem Proofs.Tryz.prog Yt lvl [.tr (.sl (x0.map Zk)),.ag ((Za x1).map .tr),.ag ((Za x2).map .tr),.ag ((Za x3).map .tr)] S (iB true) S:=by
 refine Zc XW trivial ?_
 simp only[Y6,List.length_map,Zu,ZE,Zi,ne_eq,not_true_eq_false,bne_self_eq_false,Za,Zg,EVA,seval,Zd,men]
 have ul:(1048576:Int)<=1048576:=Int.le_refl _
 obtain⟨_,ha0⟩:=Zfg x0 hb0_0 hb0_1 (1048576) (by omega) (by omega)
 refine Zb ha0 ?_
 simp only[List.length_map,Zu,ZE,Zi,ne_eq,not_true_eq_false,bne_self_eq_false,Za,Zg,EVA,seval,Zd,men]
 refine Zo (fun _=>trivial) (fun hz0=>?_)
 have zp0:=(Zue (f:=Jg) (fun y=>(Zl4 y)) x0) (1048576) (by omega) (by omega)
 have zq0:=(Zuc (f:=Jg) (n:=Yo) (fun y=>Zd2 (ZmX y) (by omega)) x0) (1048576) (by omega) (by omega)
 simp only at zp0 zq0
 have hp0:=zp0.2 (by omega)
 have hq0:=zq0.2 (by omega)
 obtain⟨hs0_0,hs0_1⟩:=hp0
 obtain⟨_,ha1⟩:=UW x1 hb1_0 (szL Jg x0 (1048576)) (by omega) (by omega)
 refine Zb ha1 ?_
 simp only[List.length_map,Zu,ZE,Zi,ne_eq,not_true_eq_false,bne_self_eq_false,Za,Zg,EVA,seval,Zd,men]
 refine Zo (fun _=>trivial) (fun hz1=>?_)
 have zp1:=(Zei x1) (szL Jg x0 (1048576)) (by omega) (by omega)
 have zq1:=(ZeE x1) (szL Jg x0 (1048576)) (by omega) (by omega)
 simp only at zp1 zq1
 have hp1:=zp1.2 (by omega)
 have hq1:=zq1.2 (by omega)
 have hs1_0:=hp1
 obtain⟨_,ha2⟩:=UW x2 hb2_0 (JS x1 (szL Jg x0 (1048576))) (by omega) (by omega)
 refine Zb ha2 ?_
 simp only[List.length_map,Zu,ZE,Zi,ne_eq,not_true_eq_false,bne_self_eq_false,Za,Zg,EVA,seval,Zd,men]
 refine Zo (fun _=>trivial) (fun hz2=>?_)
 have zp2:=(Zei x2) (JS x1 (szL Jg x0 (1048576))) (by omega) (by omega)
 have zq2:=(ZeE x2) (JS x1 (szL Jg x0 (1048576))) (by omega) (by omega)
 simp only at zp2 zq2
 have hp2:=zp2.2 (by omega)
 have hq2:=zq2.2 (by omega)
 have hs2_0:=hp2
 obtain⟨_,ha3⟩:=UW x3 hb3_0 (JS x2 (JS x1 (szL Jg x0 (1048576)))) (by omega) (by omega)
 refine Zb ha3 ?_
 simp only[List.length_map,Zu,ZE,Zi,ne_eq,not_true_eq_false,bne_self_eq_false,Za,Zg,EVA,seval,Zd,men]
 refine Zo (fun _=>trivial) (fun hz3=>?_)
 have zp3:=(Zei x3) (JS x2 (JS x1 (szL Jg x0 (1048576)))) (by omega) (by omega)
 have zq3:=(ZeE x3) (JS x2 (JS x1 (szL Jg x0 (1048576)))) (by omega) (by omega)
 simp only at zp3 zq3
 have hp3:=zp3.2 (by omega)
 have hq3:=zq3.2 (by omega)
 have hs3_0:=hp3
 refine Zb (Yj x0 hs0_0 hs0_1) ?_
 simp only[List.length_map,Zu,ZE,Zi,ne_eq,not_true_eq_false,bne_self_eq_false,Za,Zg,EVA,seval,Zd,men]
 refine Zb (ZA x1 hs1_0) ?_
 simp only[List.length_map,Zu,ZE,Zi,ne_eq,not_true_eq_false,bne_self_eq_false,Za,Zg,EVA,seval,Zd,men]
 refine Zb (ZA x2 hs2_0) ?_
 simp only[List.length_map,Zu,ZE,Zi,ne_eq,not_true_eq_false,bne_self_eq_false,Za,Zg,EVA,seval,Zd,men]
 refine Zb (ZA x3 hs3_0) ?_
 simp only[List.length_map,Zu,ZE,Zi,ne_eq,not_true_eq_false,bne_self_eq_false,Za,Zg,EVA,seval,Zd,men]
 by_cases hB:Zh8 x0 x1 x2 x3
 ·refine Zb (W2 x0 x1 x2 x3 hs0_0 hs0_1 hs1_0 hs2_0 hs3_0 hf1 hf2 hf3 hB) ?_
  simp only[List.length_map,Zu,ZE,Zi,ne_eq,not_true_eq_false,bne_self_eq_false,Za,Zg,EVA,seval,Zd,men]
  refine Zb (Yj x0 hs0_0 hs0_1) ?_
  simp only[List.length_map,Zu,ZE,Zi,ne_eq,not_true_eq_false,bne_self_eq_false,Za,Zg,EVA,seval,Zd,men]
  refine Zb (ZA x1 hs1_0) ?_
  simp only[List.length_map,Zu,ZE,Zi,ne_eq,not_true_eq_false,bne_self_eq_false,Za,Zg,EVA,seval,Zd,men]
  refine Zb (ZA x2 hs2_0) ?_
  simp only[List.length_map,Zu,ZE,Zi,ne_eq,not_true_eq_false,bne_self_eq_false,Za,Zg,EVA,seval,Zd,men]
  refine Zb (ZA x3 hs3_0) ?_
  simp only[List.length_map,Zu,ZE,Zi,ne_eq,not_true_eq_false,bne_self_eq_false,Za,Zg,EVA,seval,Zd,men]
  refine Zb (JX x0 x1 x2 x3 hs0_0 hs0_1 hs1_0 hs2_0 hs3_0 hf1 hf2 hf3) ?_
  simp only[List.length_map,Zu,ZE,Zi,ne_eq,not_true_eq_false,bne_self_eq_false,Za,Zg,EVA,seval,Zd,men]
  obtain⟨hr0_0,hrn⟩:=Uu x0 x1 x2 x3 hs0_0 hs0_1 hs1_0 hs2_0 hs3_0
  refine Zb (Jl (Zj x0 x1 x2 x3) (Zj x0 x1 x2 x3) (Q9 hr0_0)) ?_
  simp only[List.length_map,Zu,ZE,Zi,ne_eq,not_true_eq_false,bne_self_eq_false,Za,Zg,EVA,seval,Zd,men]
  refine Zb (Yj x0 hs0_0 hs0_1) ?_
  simp only[List.length_map,Zu,ZE,Zi,ne_eq,not_true_eq_false,bne_self_eq_false,Za,Zg,EVA,seval,Zd,men]
  refine Zb (ZaO x0 x0 hb0_0 hb0_1) ?_
  simp only[List.length_map,Zu,ZE,Zi,ne_eq,not_true_eq_false,bne_self_eq_false,Za,Zg,EVA,seval,Zd,men]
  refine Zb (ZA x1 hs1_0) ?_
  simp only[List.length_map,Zu,ZE,Zi,ne_eq,not_true_eq_false,bne_self_eq_false,Za,Zg,EVA,seval,Zd,men]
  refine Zb (Jl x1 x1 hb1_0) ?_
  simp only[List.length_map,Zu,ZE,Zi,ne_eq,not_true_eq_false,bne_self_eq_false,Za,Zg,EVA,seval,Zd,men]
  refine Zb (ZA x2 hs2_0) ?_
  simp only[List.length_map,Zu,ZE,Zi,ne_eq,not_true_eq_false,bne_self_eq_false,Za,Zg,EVA,seval,Zd,men]
  refine Zb (Jl x2 x2 hb2_0) ?_
  simp only[List.length_map,Zu,ZE,Zi,ne_eq,not_true_eq_false,bne_self_eq_false,Za,Zg,EVA,seval,Zd,men]
  refine Zb (ZA x3 hs3_0) ?_
  simp only[List.length_map,Zu,ZE,Zi,ne_eq,not_true_eq_false,bne_self_eq_false,Za,Zg,EVA,seval,Zd,men]
  refine Zb (Jl x3 x3 hb3_0) ?_
  simp only[List.length_map,Zu,ZE,Zi,ne_eq,not_true_eq_false,bne_self_eq_false,Za,Zg,EVA,seval,Zd,men]
  simp only[Zcd]
  refine ZhB Zb3 (a:=x0) rfl (by omega) (by omega) hs0_0 hs0_1 ?_
  simp only[List.length_map,Zu,ZE,Zi,ne_eq,not_true_eq_false,bne_self_eq_false,Za,Zg,EVA,seval,Zd,men]
  simp only[Zcd]
  refine JJ (x:=x1) (by decide) (by decide) (by decide) (by decide) (by decide) (by decide) rfl rfl rfl rfl (by omega) (by omega) hs1_0 ?_
  simp only[List.length_map,Zu,ZE,Zi,ne_eq,not_true_eq_false,bne_self_eq_false,Za,Zg,EVA,seval,Zd,men]
  simp only[Zcd]
  refine JJ (x:=x2) (by decide) (by decide) (by decide) (by decide) (by decide) (by decide) rfl rfl rfl rfl (by omega) (by omega) hs2_0 ?_
  simp only[List.length_map,Zu,ZE,Zi,ne_eq,not_true_eq_false,bne_self_eq_false,Za,Zg,EVA,seval,Zd,men]
  simp only[Zcd]
  refine JJ (x:=x3) (by decide) (by decide) (by decide) (by decide) (by decide) (by decide) rfl rfl rfl rfl (by omega) (by omega) hs3_0 ?_
  simp only[List.length_map,Zu,ZE,Zi,ne_eq,not_true_eq_false,bne_self_eq_false,Za,Zg,EVA,seval,Zd,men]
  have hk0:¬ (1+(nL Yo x0:Nat)+(Z4 x1:Nat)+(Z4 x2:Nat)+(Z4 x3:Nat)<(0:Int)):=by omega
  simp only[hk0,List.length_map,Zu,ZE,Zi,ne_eq,not_true_eq_false,bne_self_eq_false,Za,Zg,EVA,seval,Zd,men]
  refine Zb (Jl (Zj x0 x1 x2 x3) (Zj x0 x1 x2 x3) (Q9 hr0_0)) ?_
  simp only[List.length_map,Zu,ZE,Zi,ne_eq,not_true_eq_false,bne_self_eq_false,Za,Zg,EVA,seval,Zd,men]
  simp only[Zcd]
  refine JJ (x:=(Zj x0 x1 x2 x3)) (by decide) (by decide) (by decide) (by decide) (by decide) (by decide) rfl rfl rfl rfl (by omega) (by omega) hr0_0 ?_
  simp only[List.length_map,Zu,ZE,Zi,ne_eq,not_true_eq_false,bne_self_eq_false,Za,Zg,EVA,seval,Zd,men]
  refine Zb (WW (Zj x0 x1 x2 x3) (1) hr0_0 (by omega) (by omega)) ?_
  have hh0:¬ (1+(Z4 (Zj x0 x1 x2 x3):Nat)<(0:Int)):=by omega
  simp only[hh0,List.length_map,Zu,ZE,Zi,ne_eq,not_true_eq_false,bne_self_eq_false,Za,Zg,EVA,seval,Zd,men]
  refine Zb (Yj x0 hs0_0 hs0_1) ?_
  simp only[List.length_map,Zu,ZE,Zi,ne_eq,not_true_eq_false,bne_self_eq_false,Za,Zg,EVA,seval,Zd,men]
  refine Zb (ZA x1 hs1_0) ?_
  simp only[List.length_map,Zu,ZE,Zi,ne_eq,not_true_eq_false,bne_self_eq_false,Za,Zg,EVA,seval,Zd,men]
  refine Zb (ZA x2 hs2_0) ?_
  simp only[List.length_map,Zu,ZE,Zi,ne_eq,not_true_eq_false,bne_self_eq_false,Za,Zg,EVA,seval,Zd,men]
  refine Zb (ZA x3 hs3_0) ?_
  simp only[List.length_map,Zu,ZE,Zi,ne_eq,not_true_eq_false,bne_self_eq_false,Za,Zg,EVA,seval,Zd,men]
  refine Zb (JX x0 x1 x2 x3 hs0_0 hs0_1 hs1_0 hs2_0 hs3_0 hf1 hf2 hf3) ?_
  simp only[List.length_map,Zu,ZE,Zi,ne_eq,not_true_eq_false,bne_self_eq_false,Za,Zg,EVA,seval,Zd,men]
  refine Zb (Jl (Zj x0 x1 x2 x3) (Zj x0 x1 x2 x3) (Q9 hr0_0)) ?_
  simp only[List.length_map,Zu,ZE,Zi,ne_eq,not_true_eq_false,bne_self_eq_false,Za,Zg,EVA,seval,Zd,men]
  refine Zb (WW (Zj x0 x1 x2 x3) (1) hr0_0 (by omega) (by omega)) ?_
  have hh0:¬ (1+(Z4 (Zj x0 x1 x2 x3):Nat)<(0:Int)):=by omega
  simp only[hh0,List.length_map,Zu,ZE,Zi,ne_eq,not_true_eq_false,bne_self_eq_false,Za,Zg,EVA,seval,Zd,men]
 ·refine Zb (W3 x0 x1 x2 x3 hs0_0 hs0_1 hs1_0 hs2_0 hs3_0 hf1 hf2 hf3 hB) ?_
  simp only[List.length_map,Zu,ZE,Zi,ne_eq,not_true_eq_false,bne_self_eq_false,Za,Zg,EVA,seval,Zd,men]
  refine Zb (Yj x0 hs0_0 hs0_1) ?_
  simp only[List.length_map,Zu,ZE,Zi,ne_eq,not_true_eq_false,bne_self_eq_false,Za,Zg,EVA,seval,Zd,men]
  refine Zb (ZA x1 hs1_0) ?_
  simp only[List.length_map,Zu,ZE,Zi,ne_eq,not_true_eq_false,bne_self_eq_false,Za,Zg,EVA,seval,Zd,men]
  refine Zb (ZA x2 hs2_0) ?_
  simp only[List.length_map,Zu,ZE,Zi,ne_eq,not_true_eq_false,bne_self_eq_false,Za,Zg,EVA,seval,Zd,men]
  refine Zb (ZA x3 hs3_0) ?_
  simp only[List.length_map,Zu,ZE,Zi,ne_eq,not_true_eq_false,bne_self_eq_false,Za,Zg,EVA,seval,Zd,men]
  refine Zb (JX x0 x1 x2 x3 hs0_0 hs0_1 hs1_0 hs2_0 hs3_0 hf1 hf2 hf3) ?_
  simp only[List.length_map,Zu,ZE,Zi,ne_eq,not_true_eq_false,bne_self_eq_false,Za,Zg,EVA,seval,Zd,men]
  obtain⟨hr0_0,hrn⟩:=Uu x0 x1 x2 x3 hs0_0 hs0_1 hs1_0 hs2_0 hs3_0
  refine Zb (Jl (Zj x0 x1 x2 x3) (Zj x0 x1 x2 x3) (Q9 hr0_0)) ?_
  simp only[List.length_map,Zu,ZE,Zi,ne_eq,not_true_eq_false,bne_self_eq_false,Za,Zg,EVA,seval,Zd,men]
  refine Zb (Yj x0 hs0_0 hs0_1) ?_
  simp only[List.length_map,Zu,ZE,Zi,ne_eq,not_true_eq_false,bne_self_eq_false,Za,Zg,EVA,seval,Zd,men]
  refine Zb (ZaO x0 x0 hb0_0 hb0_1) ?_
  simp only[List.length_map,Zu,ZE,Zi,ne_eq,not_true_eq_false,bne_self_eq_false,Za,Zg,EVA,seval,Zd,men]
  refine Zb (ZA x1 hs1_0) ?_
  simp only[List.length_map,Zu,ZE,Zi,ne_eq,not_true_eq_false,bne_self_eq_false,Za,Zg,EVA,seval,Zd,men]
  refine Zb (Jl x1 x1 hb1_0) ?_
  simp only[List.length_map,Zu,ZE,Zi,ne_eq,not_true_eq_false,bne_self_eq_false,Za,Zg,EVA,seval,Zd,men]
  refine Zb (ZA x2 hs2_0) ?_
  simp only[List.length_map,Zu,ZE,Zi,ne_eq,not_true_eq_false,bne_self_eq_false,Za,Zg,EVA,seval,Zd,men]
  refine Zb (Jl x2 x2 hb2_0) ?_
  simp only[List.length_map,Zu,ZE,Zi,ne_eq,not_true_eq_false,bne_self_eq_false,Za,Zg,EVA,seval,Zd,men]
  refine Zb (ZA x3 hs3_0) ?_
  simp only[List.length_map,Zu,ZE,Zi,ne_eq,not_true_eq_false,bne_self_eq_false,Za,Zg,EVA,seval,Zd,men]
  refine Zb (Jl x3 x3 hb3_0) ?_
  simp only[List.length_map,Zu,ZE,Zi,ne_eq,not_true_eq_false,bne_self_eq_false,Za,Zg,EVA,seval,Zd,men]
  simp only[Zcd]
  refine ZhB Zb3 (a:=x0) rfl (by omega) (by omega) hs0_0 hs0_1 ?_
  simp only[List.length_map,Zu,ZE,Zi,ne_eq,not_true_eq_false,bne_self_eq_false,Za,Zg,EVA,seval,Zd,men]
  simp only[Zcd]
  refine JJ (x:=x1) (by decide) (by decide) (by decide) (by decide) (by decide) (by decide) rfl rfl rfl rfl (by omega) (by omega) hs1_0 ?_
  simp only[List.length_map,Zu,ZE,Zi,ne_eq,not_true_eq_false,bne_self_eq_false,Za,Zg,EVA,seval,Zd,men]
  simp only[Zcd]
  refine JJ (x:=x2) (by decide) (by decide) (by decide) (by decide) (by decide) (by decide) rfl rfl rfl rfl (by omega) (by omega) hs2_0 ?_
  simp only[List.length_map,Zu,ZE,Zi,ne_eq,not_true_eq_false,bne_self_eq_false,Za,Zg,EVA,seval,Zd,men]
  simp only[Zcd]
  refine JJ (x:=x3) (by decide) (by decide) (by decide) (by decide) (by decide) (by decide) rfl rfl rfl rfl (by omega) (by omega) hs3_0 ?_
  simp only[List.length_map,Zu,ZE,Zi,ne_eq,not_true_eq_false,bne_self_eq_false,Za,Zg,EVA,seval,Zd,men]
  have hk0:¬ (1+(nL Yo x0:Nat)+(Z4 x1:Nat)+(Z4 x2:Nat)+(Z4 x3:Nat)<(0:Int)):=by omega
  simp only[hk0,List.length_map,Zu,ZE,Zi,ne_eq,not_true_eq_false,bne_self_eq_false,Za,Zg,EVA,seval,Zd,men]
  refine Zb (Jl (Zj x0 x1 x2 x3) (Zj x0 x1 x2 x3) (Q9 hr0_0)) ?_
  simp only[List.length_map,Zu,ZE,Zi,ne_eq,not_true_eq_false,bne_self_eq_false,Za,Zg,EVA,seval,Zd,men]
  simp only[Zcd]
  refine JJ (x:=(Zj x0 x1 x2 x3)) (by decide) (by decide) (by decide) (by decide) (by decide) (by decide) rfl rfl rfl rfl (by omega) (by omega) hr0_0 ?_
  simp only[List.length_map,Zu,ZE,Zi,ne_eq,not_true_eq_false,bne_self_eq_false,Za,Zg,EVA,seval,Zd,men]
  refine Zb (WW (Zj x0 x1 x2 x3) (1) hr0_0 (by omega) (by omega)) ?_
  have hh0:¬ (1+(Z4 (Zj x0 x1 x2 x3):Nat)<(0:Int)):=by omega
  simp only[hh0,List.length_map,Zu,ZE,Zi,ne_eq,not_true_eq_false,bne_self_eq_false,Za,Zg,EVA,seval,Zd,men]
  refine Zb (Yj x0 hs0_0 hs0_1) ?_
  simp only[List.length_map,Zu,ZE,Zi,ne_eq,not_true_eq_false,bne_self_eq_false,Za,Zg,EVA,seval,Zd,men]
  refine Zb (ZA x1 hs1_0) ?_
  simp only[List.length_map,Zu,ZE,Zi,ne_eq,not_true_eq_false,bne_self_eq_false,Za,Zg,EVA,seval,Zd,men]
  refine Zb (ZA x2 hs2_0) ?_
  simp only[List.length_map,Zu,ZE,Zi,ne_eq,not_true_eq_false,bne_self_eq_false,Za,Zg,EVA,seval,Zd,men]
  refine Zb (ZA x3 hs3_0) ?_
  simp only[List.length_map,Zu,ZE,Zi,ne_eq,not_true_eq_false,bne_self_eq_false,Za,Zg,EVA,seval,Zd,men]
  refine Zb (JX x0 x1 x2 x3 hs0_0 hs0_1 hs1_0 hs2_0 hs3_0 hf1 hf2 hf3) ?_
  simp only[List.length_map,Zu,ZE,Zi,ne_eq,not_true_eq_false,bne_self_eq_false,Za,Zg,EVA,seval,Zd,men]
  refine Zb (Jl (Zj x0 x1 x2 x3) (Zj x0 x1 x2 x3) (Q9 hr0_0)) ?_
  simp only[List.length_map,Zu,ZE,Zi,ne_eq,not_true_eq_false,bne_self_eq_false,Za,Zg,EVA,seval,Zd,men]
  refine Zb (WW (Zj x0 x1 x2 x3) (1) hr0_0 (by omega) (by omega)) ?_
  have hh0:¬ (1+(Z4 (Zj x0 x1 x2 x3):Nat)<(0:Int)):=by omega
  simp only[hh0,List.length_map,Zu,ZE,Zi,ne_eq,not_true_eq_false,bne_self_eq_false,Za,Zg,EVA,seval,Zd,men]
end Go.Fd
