/-
  WHAT THE LAW OF SymmetriesOf LEANS ON. Own work.
-/
import Derived.Test.YtkhjhkepdjkiaaaGreatDoorT07
set_option linter.all false
namespace Go.Fd
theorem ZuH{B:Nat}(l:List (List Int))(h:∀ x∈l,x.length<=B):nL Q4 l<=l.length*B:=ZuG l fun x hx=>by simp only[Q4,ZkB];exact h x hx
set_option maxRecDepth 20000 in
theorem Zbr(a b:List (List Int))(ha:a.length<=9223372036854775807)(ha2:∀ y∈a,y.length<=9223372036854775807)(lvl:Nat)(S:Sto):Sem Proofs.Tryz.prog YM lvl [.tr (.sl (a.map (fun l=>[Tr.sl (rI l)]))),.tr (.sl (b.map (fun l=>[Tr.sl (rI l)])))] S (iB (decide (a=b))) S:=by
 refine Zc Zfl trivial ?_
 by_cases hl:a.length=b.length
 rotate_left
 ·have e:((a.length:Int)=b.length)=False:=eq_false (by omega)
  have hn:¬ a=b:=fun h=>hl (by rw[h])
  rw[decide_eq_false hn]
  simp only[Ux,e,List.length_map,EVA,seval,Zd,men]
  try rfl
 have e:((a.length:Int)=b.length)=True:=eq_true (by omega)
 simp only[Ux,e,List.length_map,EVA,seval,Zd,men]
 refine ZO (α:=Unit) a.length (fun j _=>[(5,iI j)]) (fun _ _=>[]) (fun j _=>∀ k,k<j->∀(h1:k<a.length) (h2:k<b.length),a[k]=b[k]) () (by simp only[EVA,seval,Zd,men]) (by (simp only[EVA,seval,Zd,men]) <;> rfl) (fun k hk=>absurd hk (Nat.not_lt_zero k)) ?_
 intro j _ hj hA
 simp only[List.length_map,EVA,seval,Zd,men]
 refine Zn (fun hlt=>?_) (fun hge=>?_)
 ·have hja:j<a.length:=by omega
  have hjb:j<b.length:=by omega
  have ga:=Wh (c:=fun l:List Int=>[Tr.sl (rI l)]) hja
  have gb:=Wh (c:=fun l:List Int=>[Tr.sl (rI l)]) hjb
  simp only[ga,gb,hja,hjb,List.length_map,EVA,seval,Zd,men]
  refine Zb (Vu a[j] b[j] (ha2 _ (List.getElem_mem hja))) ?_
  by_cases hc:a[j]=b[j]
  ·rw[decide_eq_true hc]
   simp only[EVA,seval,Zd,men]
   exact⟨by rw[Ze];omega,Zf () hja rfl (fun k hk h1 h2=>by
    by_cases ek:k=j
    ·subst ek;exact hc
    ·exact hA k (by omega) h1 h2)⟩
  ·have hn:¬ a=b:=fun h=>hc (by subst h;rfl)
   rw[decide_eq_false hc,decide_eq_false hn]
   simp only[EVA,seval,Zd,men]
   try rfl
 ·have hab:a=b:=List.ext_getElem hl fun k h1 h2=>hA k (by omega) h1 h2
  rw[decide_eq_true hab]
  try first | rfl | exact⟨rfl,rfl⟩
theorem Ze1(sig:List TControl)(b:TBigraph)(_hn:sig.length<=4294967296)(_hbs:∀ y∈sig,ZC 4294967296 y)(_hb:Zw 4294967296 b):(Zx sig b).length<=4294967296/\(∀ y∈Zx sig b,y.length<=4294967296)/\1+(nL Q4 (Zx sig b):Int)<=4611686018427387904:=by
 have h:(Zx sig b).length<=24/\∀ y∈Zx sig b,y.length<=8:=by
  unfold Zx
  split
  ·rename_i ho
   have:=ho.1.nodesL
   refine⟨ho.2,fun y hy=>?_⟩
   have:=(Zd4 (a:=b) (b:=b) (r:=b.nodes.length) (ns:=[]) (by simp) hy).1
   omega
  ·simp
 have h2:=ZuH (Zx sig b) h.2
 have h3:(Zx sig b).length*8<=24*8:=Nat.mul_le_mul_right _ h.1
 exact⟨by omega,fun y hy=>by have:=h.2 y hy;omega,by omega⟩
end Go.Fd

/-
  THE LAW OF SymmetriesOf (printed by lawtext.py). Own work.
-/
namespace Go.Fd
set_option maxRecDepth 20000
theorem Dm(x0:(List TControl))(x1:TBigraph)(hb0_0:x0.length<=9223372036854775807)(hb0_1:∀ y∈x0,ZC 9223372036854775807 y)(hb1_0:Zw 9223372036854775807 x1)(hf1:ZR x1)(lvl:Nat)(S:Sto):Sem Proofs.Tryz.prog YZ lvl [.tr (.sl (x0.map Zj)),.ag ((Za x1).map .tr)] S (iB true) S:=by
 refine Zc WW trivial ?_
 simp only[Vw,List.length_map,Zi,Zr,Zg,ne_eq,not_true_eq_false,bne_self_eq_false,Za,Zh,EVA,seval,Zd,men]
 have ul:(1048576:Int)<=1048576:=Int.le_refl _
 obtain⟨_,ha0⟩:=VY x0 hb0_0 hb0_1 (1048576) (by omega) (by omega)
 refine Zb ha0 ?_
 simp only[List.length_map,Zi,Zr,Zg,ne_eq,not_true_eq_false,bne_self_eq_false,Za,Zh,EVA,seval,Zd,men]
 refine Zn (fun _=>trivial) (fun hz0=>?_)
 have zp0:=(Zo9 (f:=ZE) (fun y=>(Zao y)) x0) (1048576) (by omega) (by omega)
 have zq0:=(Zrp (f:=ZE) (n:=JU) (fun y=>ZbN (ZeY y) (by omega)) x0) (1048576) (by omega) (by omega)
 simp only at zp0 zq0
 have hp0:=zp0.2 (by omega)
 have hq0:=zq0.2 (by omega)
 obtain⟨hs0_0,hs0_1⟩:=hp0
 obtain⟨_,ha1⟩:=YH x1 hb1_0 (szL ZE x0 (1048576)) (by omega) (by omega)
 refine Zb ha1 ?_
 simp only[List.length_map,Zi,Zr,Zg,ne_eq,not_true_eq_false,bne_self_eq_false,Za,Zh,EVA,seval,Zd,men]
 refine Zn (fun _=>trivial) (fun hz1=>?_)
 have zp1:=(WP x1) (szL ZE x0 (1048576)) (by omega) (by omega)
 have zq1:=(Zcu x1) (szL ZE x0 (1048576)) (by omega) (by omega)
 simp only at zp1 zq1
 have hp1:=zp1.2 (by omega)
 have hq1:=zq1.2 (by omega)
 have hs1_0:=hp1
 refine Zb (ZI x0 hs0_0 hs0_1) ?_
 simp only[List.length_map,Zi,Zr,Zg,ne_eq,not_true_eq_false,bne_self_eq_false,Za,Zh,EVA,seval,Zd,men]
 refine Zb (Zz x1 hs1_0) ?_
 simp only[List.length_map,Zi,Zr,Zg,ne_eq,not_true_eq_false,bne_self_eq_false,Za,Zh,EVA,seval,Zd,men]
 refine Zb (Zax x0 x1 hs0_0 hs0_1 hs1_0 hf1) ?_
 simp only[List.length_map,Zi,Zr,Zg,ne_eq,not_true_eq_false,bne_self_eq_false,Za,Zh,EVA,seval,Zd,men]
 refine Zb (ZI x0 hs0_0 hs0_1) ?_
 simp only[List.length_map,Zi,Zr,Zg,ne_eq,not_true_eq_false,bne_self_eq_false,Za,Zh,EVA,seval,Zd,men]
 refine Zb (Zz x1 hs1_0) ?_
 simp only[List.length_map,Zi,Zr,Zg,ne_eq,not_true_eq_false,bne_self_eq_false,Za,Zh,EVA,seval,Zd,men]
 refine Zb (XF x0 x1 hs0_0 hs0_1 hs1_0 hf1) ?_
 simp only[List.length_map,Zi,Zr,Zg,ne_eq,not_true_eq_false,bne_self_eq_false,Za,Zh,EVA,seval,Zd,men]
 obtain⟨hr0_0,hr0_1,hrn⟩:=Ze1 x0 x1 hs0_0 hs0_1 hs1_0
 refine Zb (Zbr (Zx x0 x1) (Zx x0 x1) (by omega) (ZgL hr0_1)) ?_
 simp only[List.length_map,Zi,Zr,Zg,ne_eq,not_true_eq_false,bne_self_eq_false,Za,Zh,EVA,seval,Zd,men]
 refine Zb (ZI x0 hs0_0 hs0_1) ?_
 simp only[List.length_map,Zi,Zr,Zg,ne_eq,not_true_eq_false,bne_self_eq_false,Za,Zh,EVA,seval,Zd,men]
 refine Zb (VZ x0 x0 hb0_0 hb0_1) ?_
 simp only[List.length_map,Zi,Zr,Zg,ne_eq,not_true_eq_false,bne_self_eq_false,Za,Zh,EVA,seval,Zd,men]
 refine Zb (Zz x1 hs1_0) ?_
 simp only[List.length_map,Zi,Zr,Zg,ne_eq,not_true_eq_false,bne_self_eq_false,Za,Zh,EVA,seval,Zd,men]
 refine Zb (YI x1 x1 hb1_0) ?_
 simp only[List.length_map,Zi,Zr,Zg,ne_eq,not_true_eq_false,bne_self_eq_false,Za,Zh,EVA,seval,Zd,men]
 simp only[Zcy]
 refine UK Dl (a:=x0) rfl (by omega) (by omega) hs0_0 hs0_1 ?_
 simp only[List.length_map,Zi,Zr,Zg,ne_eq,not_true_eq_false,bne_self_eq_false,Za,Zh,EVA,seval,Zd,men]
 simp only[Zcy]
 refine Q5 (x:=x1) (by decide) (by decide) (by decide) (by decide) (by decide) (by decide) rfl rfl rfl rfl (by omega) (by omega) hs1_0 ?_
 simp only[List.length_map,Zi,Zr,Zg,ne_eq,not_true_eq_false,bne_self_eq_false,Za,Zh,EVA,seval,Zd,men]
 have hk0:¬ (1+(nL JU x0:Nat)+(Vt x1:Nat)<(0:Int)):=by omega
 simp only[hk0,List.length_map,Zi,Zr,Zg,ne_eq,not_true_eq_false,bne_self_eq_false,Za,Zh,EVA,seval,Zd,men]
 refine Zb (Zbr (Zx x0 x1) (Zx x0 x1) (by omega) (ZgL hr0_1)) ?_
 simp only[List.length_map,Zi,Zr,Zg,ne_eq,not_true_eq_false,bne_self_eq_false,Za,Zh,EVA,seval,Zd,men]
 simp only[Zcy]
 refine UK Zla (a:=(Zx x0 x1)) rfl (by omega) (by omega) hr0_0 hr0_1 ?_
 simp only[List.length_map,Zi,Zr,Zg,ne_eq,not_true_eq_false,bne_self_eq_false,Za,Zh,EVA,seval,Zd,men]
 refine Zb (ZfV (Zx x0 x1) (1) hr0_0 hr0_1 (by omega) (by omega)) ?_
 have hh0:¬ (1+(nL Q4 (Zx x0 x1):Nat)<(0:Int)):=by omega
 simp only[hh0,List.length_map,Zi,Zr,Zg,ne_eq,not_true_eq_false,bne_self_eq_false,Za,Zh,EVA,seval,Zd,men]
 refine Zb (ZI x0 hs0_0 hs0_1) ?_
 simp only[List.length_map,Zi,Zr,Zg,ne_eq,not_true_eq_false,bne_self_eq_false,Za,Zh,EVA,seval,Zd,men]
 refine Zb (Zz x1 hs1_0) ?_
 simp only[List.length_map,Zi,Zr,Zg,ne_eq,not_true_eq_false,bne_self_eq_false,Za,Zh,EVA,seval,Zd,men]
 refine Zb (XF x0 x1 hs0_0 hs0_1 hs1_0 hf1) ?_
 simp only[List.length_map,Zi,Zr,Zg,ne_eq,not_true_eq_false,bne_self_eq_false,Za,Zh,EVA,seval,Zd,men]
 refine Zb (Zbr (Zx x0 x1) (Zx x0 x1) (by omega) (ZgL hr0_1)) ?_
 simp only[List.length_map,Zi,Zr,Zg,ne_eq,not_true_eq_false,bne_self_eq_false,Za,Zh,EVA,seval,Zd,men]
 refine Zb (ZfV (Zx x0 x1) (1) hr0_0 hr0_1 (by omega) (by omega)) ?_
 have hh0:¬ (1+(nL Q4 (Zx x0 x1):Nat)<(0:Int)):=by omega
 simp only[hh0,List.length_map,Zi,Zr,Zg,ne_eq,not_true_eq_false,bne_self_eq_false,Za,Zh,EVA,seval,Zd,men]
end Go.Fd
