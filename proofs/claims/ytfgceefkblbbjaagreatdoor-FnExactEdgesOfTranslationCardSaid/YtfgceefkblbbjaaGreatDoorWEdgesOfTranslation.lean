/-
  WHAT THE LAW OF EdgesOfTranslation LEANS ON. Own work.
-/
import Derived.Test.YtfgceefkblbbjaaGreatDoorT06
set_option linter.all false
namespace Go.Fd
theorem ZmO{a b:TBigraph}{l w:List Int}(h:trT a b l=some w):w.length=a.edges.toNat:=by
 unfold trT at h
 split at h
 ·cases hp:Zfv a b l with
  | none=>rw[hp] at h;cases h
  | some z =>
   rw[hp] at h
   cases h
   obtain⟨es,h1,_,h2⟩:=Zc2 hp
   show (Jr z z.length).length=_
   rw[Jl,Yr h2,Uv h1]
 ·cases h
theorem UD(sig:List TControl)(a b:TBigraph)(l:List Int)(_hn:sig.length<=4294967296)(_hbs:∀ y∈sig,ZA 4294967296 y)(_ha:Zv 4294967296 a)(_hb:Zv 4294967296 b)(_hl:l.length<=4294967296):(Zj sig a b l).length<=4294967296/\1+(nL XN (Zj sig a b l):Int)<=4611686018427387904:=by
 have h:(Zj sig a b l).length<=4294967296:=by
  unfold Zj
  split
  ·rename_i ho
   have he:=ho.1.edges
   cases hw:trT a b l with
   | none=>simp
   | some w =>
    have:=ZmO hw
    show w.length<=_
    omega
  ·simp
 rw[Zi4]
 exact⟨h,by omega⟩
end Go.Fd

/-
  THE LAW OF EdgesOfTranslation (printed by lawtext.py). Own work.
-/
namespace Go.Fd
set_option maxRecDepth 20000
set_option maxHeartbeats 1000000 in
theorem Qz(x0:(List TControl))(x1:TBigraph)(x2:TBigraph)(x3:(List Int))(hb0_0:x0.length<=9223372036854775807)(hb0_1:∀ y∈x0,ZA 9223372036854775807 y)(hb1_0:Zv 9223372036854775807 x1)(hb2_0:Zv 9223372036854775807 x2)(hb3_0:x3.length<=9223372036854775807)(hf1:ZG x1)(hf2:ZG x2)(lvl:Nat)(S:Sto):Sem Go.Proofs.Tryz.prog JA lvl [.tr (.sl (x0.map Zi)),.ag ((Zc x1).map .tr),.ag ((Zc x2).map .tr),.tr (.sl (rI x3))] S (iB true) S:=by
 refine Zb VZ trivial ?_
 simp only[JM,List.length_map,Zc,EVA,seval,Zl,men]
 refine Zp (fun _=>trivial) (fun hl3=>?_)
 have hs3_0:x3.length<=4294967296:=by omega
 have ul:(1048576:Int)<=1048576:=Int.le_refl _
 obtain⟨_,ha0⟩:=XO x0 hb0_0 hb0_1 (1048576) (by omega) (by omega)
 refine Za ha0 ?_
 simp only[EVA,seval,Zl,men]
 refine Zp (fun _=>trivial) (fun hz0=>?_)
 have zp0:=(ZmU (f:=ZB) (fun y=>(Zb4 y)) x0) (1048576) (by omega) (by omega)
 have zq0:=(Zp7 (f:=ZB) (n:=JZ) (fun y=>ZbZ (ZiZ y) (by omega)) x0) (1048576) (by omega) (by omega)
 simp only at zp0 zq0
 have hp0:=zp0.2 (by omega)
 have hq0:=zq0.2 (by omega)
 obtain⟨hs0_0,hs0_1⟩:=hp0
 obtain⟨_,ha1⟩:=YB x1 hb1_0 (szL ZB x0 (1048576)) (by omega) (by omega)
 refine Za ha1 ?_
 simp only[EVA,seval,Zl,men]
 refine Zp (fun _=>trivial) (fun hz1=>?_)
 have zp1:=(X7 x1) (szL ZB x0 (1048576)) (by omega) (by omega)
 have zq1:=(Zfr x1) (szL ZB x0 (1048576)) (by omega) (by omega)
 simp only at zp1 zq1
 have hp1:=zp1.2 (by omega)
 have hq1:=zq1.2 (by omega)
 have hs1_0:=hp1
 obtain⟨_,ha2⟩:=YB x2 hb2_0 (JD x1 (szL ZB x0 (1048576))) (by omega) (by omega)
 refine Za ha2 ?_
 simp only[EVA,seval,Zl,men]
 refine Zp (fun _=>trivial) (fun hz2=>?_)
 have zp2:=(X7 x2) (JD x1 (szL ZB x0 (1048576))) (by omega) (by omega)
 have zq2:=(Zfr x2) (JD x1 (szL ZB x0 (1048576))) (by omega) (by omega)
 simp only at zp2 zq2
 have hp2:=zp2.2 (by omega)
 have hq2:=zq2.2 (by omega)
 have hs2_0:=hp2
 refine Za (Z3 x0 hs0_0 hs0_1) ?_
 simp only[EVA,seval,Zl,men]
 refine Za (Zx x1 hs1_0) ?_
 simp only[Jb,EVA,seval,Zl,men]
 refine Za (Zx x2 hs2_0) ?_
 simp only[Jb,EVA,seval,Zl,men]
 refine Za (YD x3 hs3_0) ?_
 simp only[EVA,seval,Zl,men]
 refine Za (Xi x0 x1 x2 x3 hs0_0 hs0_1 hs1_0 hs2_0 hs3_0 hf1 hf2) ?_
 simp only[EVA,seval,Zl,men]
 refine Za (Z3 x0 hs0_0 hs0_1) ?_
 simp only[List.length_map,EVA,seval,Zl,men]
 refine Za (Zx x1 hs1_0) ?_
 simp only[List.length_map,Jb,EVA,seval,Zl,men]
 refine Za (Zx x2 hs2_0) ?_
 simp only[List.length_map,Jb,EVA,seval,Zl,men]
 refine Za (YD x3 hs3_0) ?_
 simp only[List.length_map,Dq,EVA,seval,Zl,men]
 refine Za (Ys x0 x1 x2 x3 hs0_0 hs0_1 hs1_0 hs2_0 hs3_0 hf1 hf2) ?_
 simp only[List.length_map,Dq,EVA,seval,Zl,men]
 obtain⟨hr0_0,hrn⟩:=UD x0 x1 x2 x3 hs0_0 hs0_1 hs1_0 hs2_0 hs3_0
 have hq3:(nL XN x3:Int)<=4294967296:=by rw[Zi4];omega
 refine Za (V6 (Zj x0 x1 x2 x3) (Zj x0 x1 x2 x3) (by omega)) ?_
 simp only[bne_self_eq_false,EVA,seval,Zl,men]
 refine Za (Z3 x0 hs0_0 hs0_1) ?_
 simp only[List.length_map,Dq,EVA,seval,Zl,men]
 refine Za (XP x0 x0 hb0_0 hb0_1) ?_
 simp only[EVA,seval,Zl,men]
 refine Za (Zx x1 hs1_0) ?_
 simp only[List.length_map,Dq,Jb,EVA,seval,Zl,men]
 refine Za (YC x1 x1 hb1_0) ?_
 simp only[EVA,seval,Zl,men]
 refine Za (Zx x2 hs2_0) ?_
 simp only[List.length_map,Dq,Jb,EVA,seval,Zl,men]
 refine Za (YC x2 x2 hb2_0) ?_
 simp only[EVA,seval,Zl,men]
 refine Za (YD x3 hs3_0) ?_
 simp only[List.length_map,Dq,EVA,seval,Zl,men]
 refine Za (V6 x3 x3 hb3_0) ?_
 simp only[EVA,seval]
 simp only[ZcI]
 refine ZbY Zej (a:=x0) rfl (by omega) (by omega) hs0_0 hs0_1 ?_
 simp only[EVA,seval]
 simp only[ZcI]
 refine UC (x:=x1) (by decide) (by decide) (by decide) (by decide) (by decide) (by decide) rfl rfl rfl rfl (by omega) (by omega) hs1_0 ?_
 simp only[EVA,seval]
 simp only[ZcI]
 refine UC (x:=x2) (by decide) (by decide) (by decide) (by decide) (by decide) (by decide) rfl rfl rfl rfl (by omega) (by omega) hs2_0 ?_
 simp only[EVA,seval]
 simp only[ZcI]
 refine ZbY Zal (a:=x3) rfl (by omega) (by omega) hs3_0 (fun _ _=>trivial) ?_
 simp only[List.length_map,Dq,EVA,seval,Zl,men]
 have hk0:¬ (1+(nL JZ x0:Nat)+(VX x1:Nat)+(VX x2:Nat)+(nL XN x3:Nat)<(0:Int)):=by omega
 simp only[hk0,EVA,seval]
 refine Za (V6 (Zj x0 x1 x2 x3) (Zj x0 x1 x2 x3) (by omega)) ?_
 simp only[bne_self_eq_false,EVA,seval]
 simp only[ZcI]
 refine ZbY Zal (a:=(Zj x0 x1 x2 x3)) rfl (by omega) (by omega) hr0_0 (fun _ _=>trivial) ?_
 simp only[List.length_map,ZkX,Qe,EVA,seval,Zl,men]
 refine Za (Zfq (Zj x0 x1 x2 x3) (1) hr0_0 (by omega) (by omega)) ?_
 have hh0:¬ (1+(nL XN (Zj x0 x1 x2 x3):Nat)<(0:Int)):=by omega
 simp only[hh0,ne_eq,not_true_eq_false,EVA,seval,Zl,men]
 refine Za (Z3 x0 hs0_0 hs0_1) ?_
 simp only[EVA,seval,Zl,men]
 refine Za (Zx x1 hs1_0) ?_
 simp only[Jb,EVA,seval,Zl,men]
 refine Za (Zx x2 hs2_0) ?_
 simp only[Jb,EVA,seval,Zl,men]
 refine Za (YD x3 hs3_0) ?_
 simp only[EVA,seval,Zl,men]
 refine Za (Ys x0 x1 x2 x3 hs0_0 hs0_1 hs1_0 hs2_0 hs3_0 hf1 hf2) ?_
 simp only[EVA,seval,Zl,men]
 refine Za (V6 (Zj x0 x1 x2 x3) (Zj x0 x1 x2 x3) (by omega)) ?_
 simp only[List.length_map,ZkX,Qe,bne_self_eq_false,EVA,seval,Zl,men]
 refine Za (Zfq (Zj x0 x1 x2 x3) (1) hr0_0 (by omega) (by omega)) ?_
 have hh0:¬ (1+(nL XN (Zj x0 x1 x2 x3):Nat)<(0:Int)):=by omega
 simp only[hh0,ne_eq,not_true_eq_false,EVA,seval]
end Go.Fd
