/-
  TRANSLATIONS, THE REFERENCE: WHAT IS LEFT; THE WHOLE. Own work.
-/
import Derived.Test.YtfgceefkblbbjaaGreatDoorT05
import Derived.Shelf.GgSortFunc.InsertionK
import Derived.Shelf.SlSortCmp.WholeK
import Derived.Test.YtfgceefkblbbjaaGreatDoorProg
import Derived.Shelf.Sort.AssemblyIn
import Derived.Shelf.Sort.Plain
import Derived.Shelf.Bits.Mul64
import Derived.KernelRfl
set_option linter.all false
namespace Go.Fd
set_option maxRecDepth 20000
theorem Zfn{l:List Int}{v w:Int}{j:Nat}(hv:0<=v)(hm:v∈l)(hn:g0 l j<0):v∈l.set j w:=by
 obtain⟨i,hi,hie⟩:=List.getElem_of_mem hm
 have hgi:g0 l i=v:=by rw[<-hie];simp [hi]
 by_cases hj:j<l.length
 ·have hne:j≠i:=fun e=>by subst e;omega
  have:=Zf4 (j:=i) (v:=w) hj
  rw[if_neg hne,hgi] at this
  rw[<-this]
  exact J5 (by rw[List.length_set];exact hi)
 ·rw[List.set_eq_of_length_le (by omega)];exact hm
theorem Zhl(es:List Int)(hl:es.length<=1000)(lvl:Nat)(S:Sto):Sem Go.Proofs.Tryz.prog Xa lvl [tI es] S (.ow 1 (rI (Zf3 es)) true) S:=by
 refine Zb ZdX trivial ?_
 simp only[DZ,EVA,seval,Zl,men]
 refine Za (UX es (by omega)) ?_
 simp only[List.length_map,EVA,seval]
 refine Ji (α:=Nat) es.length (fun j (n:Nat)=>[(4,iI n),(5,iI j)]) (fun j _=>[(224,.ar 1 (rI (Jr es j)) true es.length 0)]) (fun j n=>∀ i:Nat,i<n->(i:Int)∈Jr es j) 0 (by simp only[EVA,seval]) (by (simp only[Jr,EVA,seval]) <;> rfl) (fun i hi=>absurd hi (Nat.not_lt_zero i)) ?_
 intro j n hj hA
 simp only[List.length_map,Jl,EVA,seval]
 refine Zp (fun hlt=>?_) (fun hge=>?_)
 ·have hja:j<es.length:=by omega
  have ga:=JL (l:=Jr es j) (i:=j) (by rw[Jl];exact hja)
  by_cases hn:g0 (Jr es j) j<0
  ·obtain⟨q1,q2,q3⟩:=ZaL hja hn
   have hnv:n<=WC es j:=Nat.le_of_not_lt fun h=>q1 (hA _ h)
   simp only[ga,hja,hn,EVA,seval]
   refine Ji (α:=Unit) (WC es j-n) (fun k _=>[(4,iI ((n+k:Nat):Int))]) (fun _ _=>[]) (fun _ _=>True) () (by simp only[EVA,seval]) (by (simp only[Nat.add_zero,EVA,seval]) <;> rfl) trivial ?_
   intro k _ hk _
   have c1:cut (rI (Jr es j)) 0 es.length=rI (Jr es j):=Uu (by rw[List.length_map,Jl])
   simp only[c1,Jl,List.length_map,EVA,seval,Zl,men]
   refine Za (X6 (Jr es j) ((n+k:Nat):Int) (by rw[Jl];omega)) ?_
   by_cases hk2:k<WC es j-n
   ·have hin:((n+k:Nat):Int)∈Jr es j:=q3 (n+k) (by omega)
    simp only[hin,decide_true,EVA,seval]
    exact⟨by rw[Zd];omega,Ze () hk2 rfl trivial⟩
   ·have hkv:n+k=WC es j:=by omega
    rw[hkv]
    have sp:=Zkb (y:=Jr es j) (j:=j) (v:=((WC es j:Nat):Int)) (by rw[Jl];exact hja)
    simp only[q1,decide_false,ga,sp,hja,EVA,seval]
    exact⟨by rw[Zd];omega,Ze (WC es j) hja (by rw[Zaf hn];rfl) (fun i hi=>by
     rw[Zaf hn]
     exact Zfn (by omega) (q3 i hi) hn)⟩
  ·simp only[ga,hja,hn,EVA,seval]
   exact⟨by rw[Zd];omega,Ze n hja (by rw[Zby hn];rfl) (by rw[Zby hn];exact hA)⟩
 ·have:j=es.length:=by omega
  subst this
  rfl
theorem WN(a b:List ByteArray)(ha:a.length<=4294967296)(hb:b.length<=4294967296)(lvl:Nat)(S:Sto):Sem Go.Proofs.Tryz.prog JN lvl [.tr (.sl (rS a)),.tr (.sl (rS b))] S (iB (dc (a=b))) S:=by
 refine Zb D9 trivial ?_
 simp only[Xu,EVA,seval]
 refine Ji (α:=Unit) (min a.length b.length) (fun j _=>[(5,iI j)]) (fun j _=>[]) (fun j _=>∀ k,k<j->∀(h1:k<a.length) (h2:k<b.length),a[k]=b[k]) () (by simp only[EVA,seval]) (by (simp only[EVA,seval]) <;> rfl) (fun k hk=>absurd hk (Nat.not_lt_zero k)) ?_
 intro j _ hj hA
 simp only[List.length_map,EVA,seval]
 by_cases hlt:j<min a.length b.length
 ·have hja:j<a.length:=by omega
  have hjb:j<b.length:=by omega
  have q1:(j:Int)<a.length:=by omega
  have q2:(j:Int)<b.length:=by omega
  have ga:=Wd (c:=fun s=>[ts s]) hja
  have gb:=Wd (c:=fun s=>[ts s]) hjb
  simp only[q1,q2,ga,gb,EVA,seval]
  by_cases hc:a[j]=b[j]
  ·simp only[hc,EVA,seval]
   exact⟨by rw[Zd];omega,Ze () hlt rfl (Zi6 hA fun _ _=>hc)⟩
  ·simp only[hc,EVA,seval]
   have:¬ a=b:=fun h=>hc (by subst h;rfl)
   rw[Zf this]
 ·have fin:((a.length:Int)=b.length)↔a=b:=⟨fun h=>List.ext_getElem (by omega) fun k h1 h2=>hA k (by omega) h1 h2,fun h=>by rw[h]⟩
  by_cases q1:(j:Int)<a.length
  ·have q2:¬ (j:Int)<b.length:=by omega
   simp only[q1,q2,seval]
   rw[<-Yq,JY fin]
  ·simp only[q1,seval]
   rw[<-Yq,JY fin]
theorem Zcg(a b:TBigraph)(ha:small a)(hb:small b)(lvl:Nat)(S:Sto):Sem Go.Proofs.Tryz.prog Y2 lvl [cB a,cB b] S (iB (dc (Vl a b))) S:=by
 refine Zb ZcB trivial ?_
 have e1:∀{x y:Int},x=y->(x=y)=True:=fun h=>eq_true h
 by_cases h1:a.roots=b.roots
 rotate_left
 ·have e:=eq_false h1
  rw[Zf fun h:Vl a b=>h1 h.1]
  simp only[J9,Zc,e,EVA,seval]
  try rfl
 have e1:=eq_true h1
 by_cases h2:a.edges=b.edges
 rotate_left
 ·have e:=eq_false h2
  rw[Zf fun h:Vl a b=>h2 h.2.1]
  simp only[J9,Zc,e1,e,EVA,seval]
  try rfl
 have e2:=eq_true h2
 by_cases h3:a.nodes.length=b.nodes.length
 rotate_left
 ·have e:((a.nodes.length:Int)=b.nodes.length)=False:=eq_false (by omega)
  rw[Zf fun h:Vl a b=>h3 h.2.2.1]
  simp only[J9,Zc,e1,e2,e,List.length_map,EVA,seval]
  try rfl
 have e3:((a.nodes.length:Int)=b.nodes.length)=True:=eq_true (by omega)
 by_cases h4:a.sites.length=b.sites.length
 rotate_left
 ·have e:((a.sites.length:Int)=b.sites.length)=False:=eq_false (by omega)
  rw[Zf fun h:Vl a b=>h4 h.2.2.2.1]
  simp only[J9,Zc,e1,e2,e3,e,List.length_map,EVA,seval]
  try rfl
 have e4:((a.sites.length:Int)=b.sites.length)=True:=eq_true (by omega)
 have q1:=WN a.outer b.outer (by have:=ha.outer;omega) (by have:=hb.outer;omega)
 have q2:=Do a (by have:=ha.inner;omega)
 have q3:=Do b (by have:=hb.inner;omega)
 have q4:=WN (inn a) (inn b) (by rw[Dp];have:=ha.inner;omega) (by rw[Dp];have:=hb.inner;omega)
 simp only[Zc,List.map_cons,List.map_nil] at q2 q3
 simp only[J9,Zc,e1,e2,e3,e4,List.length_map,EVA,seval,Zl,men]
 refine Za q1 ?_
 by_cases h5:a.outer=b.outer
 rotate_left
 ·rw[Zf fun h:Vl a b=>h5 h.2.2.2.2.1,Zf h5]
  simp only[EVA,seval]
  try rfl
 rw[ZK h5]
 simp only[EVA,seval,Zl,men]
 refine Za q2 ?_
 simp only[EVA,seval,Zl,men]
 refine Za q3 ?_
 simp only[EVA,seval,Zl,men]
 refine Za q4 ?_
 rw[JY (show Vl a b↔inn a=inn b from ⟨fun h=>h.2.2.2.2.2,fun h=>⟨h1,h2,h3,h4,h5,h⟩⟩)]
 simp only[EVA,seval]
 try rfl
end Go.Fd

/-
  FOUNDATION 56: a function of the library that orders a row of structs by another function, in place, by the guide's contract. Own work.
-/
namespace Go.Fd
open Go.Sort Go.Proofs Go.RowKit
section
variable {P:Program} {α:Type} [Inhabited α] {enc:α->List Value} {k:Nat}
end
end Go.Fd

/-
  NUMBERS OF LIBRARY FUNCTIONS IN THIS PROGRAM, as the guide's shelf lays them (printed by lay.py out of the kit's own command).
-/
namespace Go.Proofs
open Go.Shelf
end Go.Proofs

/-
  ONE BIGRAPH UNDER ANOTHER, THE REFERENCE'S SIDE. Own work.
-/
namespace Go.Fd
set_option maxRecDepth 20000
def sm(n:Int):Prop:=-1000<=n/\n<=1000
end Go.Fd

/-
  ONE BIGRAPH UNDER ANOTHER, THE PROGRAM'S SIDE: joined. Own work.
-/
namespace Go.Fd
set_option maxRecDepth 20000
end Go.Fd

/-
  A BIGRAPH AFTER ANOTHER: BOTH SIDES. Own work.
-/
namespace Go.Fd
set_option maxRecDepth 20000
theorem ZtO:ZS Go.Proofs.Tryz.prog ZP ZtM=true:=by kernel_rfl
theorem Zc9(a b:List ByteArray)(ha:a.length<=4294967296)(lvl:Nat)(S:Sto):Sem Go.Proofs.Tryz.prog ZP lvl [.tr (.sl (rS a)),.tr (.sl (rS b))] S (iB (dc (a=b))) S:=by
 have h:=Zmo ZtO ZtN a b (by omega) lvl S
 have e:∀ i:Decidable (a=b),@decide (a=b) i=dc (a=b):=fun i=>(@Yq _ i).symm
 rw[e] at h
 exact h
end Go.Fd

/-
  A BIGRAPH NESTED IN ANOTHER: BOTH SIDES. Own work.
-/
namespace Go.Fd
set_option maxRecDepth 20000
end Go.Fd

/-
  BIGRAPHS SIDE BY SIDE: IN PLAIN TERMS, AND THE REFERENCE'S SIDE. Own work.
-/
namespace Go.Fd
set_option maxRecDepth 20000
end Go.Fd

/-
  SORTING WIRES BY NAME: THE LIBRARY'S CONTRACT AT THIS PROGRAM. Own work.
-/
namespace Go.Proofs
open Go.Shelf Go.RowKit Go.Lib Go.Sort
instance:Inhabited Go.Fd.TWire:=⟨⟨⟨#[]⟩,0⟩⟩
end Go.Proofs
namespace Go.Fd
open Go.Sort Go.Proofs
end Go.Fd

/-
  BIGRAPHS SIDE BY SIDE, THE PROGRAM'S SIDE. Own work.
-/
namespace Go.Fd
set_option maxRecDepth 20000
end Go.Fd

/-
  BIGRAPHS SIDE BY SIDE: THE REFERENCE'S ANSWERS; JUXTAPOSITION (printed by mkpar.py). Own work.
-/
namespace Go.Fd
set_option maxRecDepth 20000
end Go.Fd

/-
  THE MERGED PRODUCT, IN PLAIN TERMS. Own work.
-/
namespace Go.Fd
set_option maxRecDepth 20000
end Go.Fd

/-
  SMALL WORDS FOR MARKS. Own work.
-/
namespace Go.Fd
theorem ZaO{S:Sto}{id i:Oid}{ob:Ob}(h:i≠id):ZF S id ob i=S i:=if_neg h
theorem ZkW{α:Type}{m:α->Int->α}{n:α->Nat}:∀{a:List α} {k:Int} {j:Nat} (h:j<a.length),(mL m n a k)[j]? = some (m a[j] (kJ n a k j))
 | [],_,_,h=>by cases h
 | x::r,k,0,_=>by simp [mL,kJ,nL]
 | x::r,k,j+1,h=>by
  simp only[mL,List.getElem?_cons_succ,List.getElem_cons_succ]
  rw[ZkW (by simpa using h)]
  simp only[kJ,List.take_succ_cons,nL]
  congr 2
  omega
theorem ZpM{α:Type}{c:α->List Tr}{m:α->Int->α}{n:α->Nat}{a:List α}{k:Int}{j:Nat}(h:j<a.length):((mL m n a k).map c)[j]? = some (c (m a[j] (kJ n a k j))):=by
 rw[List.getElem?_map,ZkW h];rfl
theorem ZkX{α:Type}{c:α->List Tr}{m:α->Int->α}{n:α->Nat}{a:List α}{k:Int}:cut ((mL m n a k).map c) 0 a.length=(mL m n a k).map c:=by
 simp only[cut,List.drop_zero]
 exact List.take_of_length_le (by rw[List.length_map,Qe];exact Nat.le_refl _)
theorem Dq{α:Type}{c:α->List Tr}{a:List α}:cut (a.map c) 0 a.length=a.map c:=by
 simp only[cut,List.drop_zero]
 exact List.take_of_length_le (by rw[List.length_map];exact Nat.le_refl _)
end Go.Fd

/-
  THE MERGED PRODUCT, BOTH SIDES. Own work.
-/
namespace Go.Fd
set_option maxRecDepth 20000
end Go.Fd

/-
  TERMS, IN PLAIN TERMS. Own work.
-/
namespace Go.Fd
set_option maxRecDepth 20000
end Go.Fd

/-
  ONE MORE NAME, BOTH SIDES. Own work.
-/
namespace Go.Fd
set_option maxRecDepth 20000
end Go.Fd

/-
  STEPS OF TERMS: WHICH ARE RIGHT, BOTH SIDES. Own work.
-/
namespace Go.Fd
set_option maxRecDepth 20000
end Go.Fd

/-
  A NODE AROUND A BIGRAPH, THE PROGRAM'S SIDE. Own work.
-/
namespace Go.Fd
set_option maxRecDepth 20000
end Go.Fd

/-
  WHAT STEPS MAKE, THE PROGRAM'S SIDE: made, stacked. Own work.
-/
namespace Go.Fd
set_option maxRecDepth 20000
end Go.Fd

/-
  THE STACK, THE PROGRAM'S SIDE. Own work.
-/
namespace Go.Fd
set_option maxRecDepth 20000
end Go.Fd

/-
  SORTING A FEW NUMBERS: slices.Sort. Own work.
-/
namespace Go.Fd
set_option maxRecDepth 20000
theorem Zkd(a b:Int)(lvl:Nat)(S:Sto):Sem Go.Proofs.Tryz.prog Y5 lvl [iI a,iI b] S (iB (decide (a<b))) S:=by
 refine Zb ZcF trivial ?_
 simp only[Di,EVA,seval,Zl,men]
 refine Za (Zip a) ?_
 simp only[EVA,seval]
def Zke(x:List Int)(i:Nat):Prop:=∀ p q,p<q->q<i->g0 x p<=g0 x q
def ZiO(x:List Int)(i j:Nat):Prop:=(∀ p q,p<q->q<=i->p≠j->q≠j->g0 x p<=g0 x q)/\∀ q,j<q->q<=i->g0 x j<=g0 x q
def swp(x:List Int)(j:Nat):List Int:=(x.set j (g0 x (j-1))).set (j-1) (g0 x j)
theorem ZkY{y:List Int}{a b:Nat}{v:Int}(h:a<y.length):g0 (y.set a v) b=if a=b then v else g0 y b:=by
 show (y.set a v).getD b 0=if a=b then v else y.getD b 0
 rw[List.getD_eq_getElem?_getD,List.getElem?_set,List.getD_eq_getElem?_getD]
 by_cases e:a=b
 ·rw[if_pos e,if_pos e,if_pos (by omega)];rfl
 ·rw[if_neg e,if_neg e]
theorem Zhm{y:List Int}{i:Nat}(h:ZiO y i 0):Zke y (i+1):=fun p q h1 h2=>by
 by_cases e:p=0
 ·subst e;exact h.2 q h1 (by omega)
 ·exact h.1 p q h1 (by omega) e (by omega)
theorem Zhn{y:List Int}{i j:Nat}(h:ZiO y i j)(hj:0<j)(hji:j<=i)(hle:g0 y (j-1)<=g0 y j):Zke y (i+1):=fun p q h1 h2=>by
 by_cases e:p=j
 ·subst e;exact h.2 q h1 (by omega)
 ·by_cases e2:q=j
  ·subst e2
   by_cases e3:p=q-1
   ·subst e3;exact hle
   ·exact Int.le_trans (h.1 p (q-1) (by omega) (by omega) e (by omega)) hle
  ·exact h.1 p q h1 (by omega) e e2
theorem ZiP{y:List Int}{i j:Nat}(h:ZiO y i j)(hj:0<j)(hji:j<=i)(hi:i<y.length)(hlt:g0 y j<g0 y (j-1)):ZiO (swp y j) i (j-1):=by
 have e:∀ b,g0 (swp y j) b=if j-1=b then g0 y j else if j=b then g0 y (j-1) else g0 y b:=fun b=>by
  unfold swp
  rw[ZkY (by rw[List.length_set];omega),ZkY (by omega)]
 refine⟨fun p q h1 h2 h3 h4=>?_,fun q h1 h2=>?_⟩
 ·rw[e p,e q,if_neg (show ¬ j-1=p from fun g=>h3 g.symm),if_neg (show ¬ j-1=q from fun g=>h4 g.symm)]
  by_cases ep:j=p
  ·rw[if_pos ep,if_neg (show ¬ j=q by omega)]
   exact h.1 (j-1) q (by omega) h2 (by omega) (by omega)
  ·rw[if_neg ep]
   by_cases eq:j=q
   ·rw[if_pos eq]
    exact h.1 p (j-1) (by omega) (by omega) (by omega) (by omega)
   ·rw[if_neg eq]
    exact h.1 p q h1 h2 (fun g=>ep g.symm) (fun g=>eq g.symm)
 ·rw[e (j-1),e q,if_pos rfl,if_neg (show ¬ j-1=q by omega)]
  by_cases eq:j=q
  ·rw[if_pos eq];omega
  ·rw[if_neg eq]
   exact h.2 q (by omega) h2
theorem Zkf{y:List Int}{j:Nat}(hj:0<j)(hi:j<y.length):(swp y j).Perm y:=by
 have h:=@List.set_set_perm _ y j (j-1) hi (by omega)
 have e1:g0 y j=y[j]:=by simp [g0,hi]
 have e2:g0 y (j-1)=y[j-1]'(by omega):=by
  show y.getD (j-1) 0=_
  rw[List.getD_eq_getElem?_getD,List.getElem?_eq_getElem (by omega)]
  rfl
 unfold swp
 rw[e1,e2]
 exact h
theorem ZpN{y:List Int}{j:Nat}{v:Int}(h:j<y.length):YG (rI y) [] j 0 (.v (.int .i64 v))=rI (y.set j v):=by
 simp only[YG]
 rw[JL h]
 exact(List.map_set (f:=fun n:Int=>[tv n]) (l:=y) (i:=j) (a:=v)).symm
theorem Zkg(l:List Int)(hl:l.length<=12)(lvl:Nat)(S:Sto)(id:Oid)(u:Bool)(hw ver:Nat)(hid:id.1<lvl)(hS:S id=some (.ar 1 (rI l) u hw ver))(srt:List Int)(hsrt:∀ x:List Int,x.Perm l->Zke x l.length->x=srt) :
  Sem Go.Proofs.Tryz.prog ZY lvl [.hd id [] 0 l.length none hw,iI 0,iI l.length] S (.tu []) (ZF S id (.ar 1 (rI srt) u hw ver)):=by
 have hne:id.1≠lvl:=by omega
 refine Zb VW trivial ?_
 simp only[JG,EVA,seval]
 refine⟨by rw[Zd];omega,?_⟩
 refine ZW (α:=List Int) l.length (fun k x=>⟨lvl,[(0,.hd id [] 0 l.length none hw),(1,iI 0),(2,iI l.length),(6,iI ((k+1:Nat):Int))],[],ZF S id (.ar 1 (rI x) u hw ver)⟩) (fun k x=>x.Perm l/\Zke x (k+1)) l ⟨by simp only[Vi hne,EVA,seval],by (simp only[X2 hS,EVA,seval]) <;> rfl⟩ ⟨List.Perm.refl _,fun p q h1 h2=>by omega⟩ ?_
 intro k x hk ⟨hA1,hA2⟩
 have hxl:x.length=l.length:=hA1.length_eq
 simp only[EVA,seval]
 refine Zp (fun hlt=>?_) (fun hge=>?_)
 ·have hk1:k+1<l.length:=by omega
  refine ZW (α:=List Int) (k+1) (fun m y=>⟨lvl,[(0,.hd id [] 0 l.length none hw),(1,iI 0),(2,iI l.length),(6,iI ((k+1:Nat):Int)),(7,iI ((k+1-m:Nat):Int))],[],ZF S id (.ar 1 (rI y) u hw ver)⟩) (fun m y=>y.Perm l/\ZiO y (k+1) (k+1-m)) x ⟨by simp only[Vi hne,EVA,seval],by (simp only[EVA,seval]) <;> rfl⟩ ⟨hA1,fun p q h1 h2 h3 h4=>hA2 p q h1 (by omega),fun q h1 h2=>by omega⟩ ?_
  intro m y hm ⟨hB1,hB2⟩
  have hyl:y.length=l.length:=hB1.length_eq
  generalize hj:k+1-m=j at hB2 ⊢
  by_cases hj0:j=0
  ·subst hj0
   simp only[EVA,seval,men]
   exact⟨by rw[Zd];omega,fun h=>absurd h hne,Ze y (by omega) rfl ⟨hB1,Zhm hB2⟩⟩
  ·have g1:(0:Int)<j:=by omega
   have e1:((j:Int)-1)=((j-1:Nat):Int):=by omega
   have gj:=JL (l:=y) (i:=j) (by omega)
   have gj1:=JL (l:=y) (i:=j-1) (by omega)
   have l1:j<l.length:=by omega
   have l2:j-1<l.length:=by omega
   simp only[g1,Jd hne,Xq,e1,gj,gj1,l1,l2,Nat.zero_add,EVA,seval,Zl,men]
   refine⟨by rw[Zd];omega,Za (Zkd (g0 y j) (g0 y (j-1))) ?_⟩
   by_cases hlt2:g0 y j<g0 y (j-1)
   ·have s1:=ZpN (y:=y) (j:=j) (v:=g0 y (j-1)) (by omega)
    have s2:=ZpN (y:=y.set j (g0 y (j-1))) (j:=j-1) (v:=g0 y j) (by rw[List.length_set];omega)
    have gj2:=JL (l:=y.set j (g0 y (j-1))) (i:=j-1) (by rw[List.length_set];omega)
    simp only[hlt2,Jd hne,V9 hne,Vj,Xq,Vi hne,e1,gj,gj1,gj2,s1,s2,l1,l2,Nat.zero_add,EVA,seval]
    subst hj
    refine⟨by rw[Zd];omega,by rw[Zd];omega,by rw[Zd];omega,Ze (swp y (k+1-m)) (by omega) (by rw[show k+1-(m+1)=k+1-m-1 from by omega];rfl) ⟨(Zkf (by omega) (by omega)).trans hB1,?_⟩⟩
    rw[show k+1-(m+1)=k+1-m-1 from by omega]
    exact ZiP hB2 (by omega) (by omega) (by omega) hlt2
   ·simp only[hlt2,EVA,seval,men]
    exact⟨by rw[Zd];omega,fun h=>absurd h hne,Ze y (by omega) rfl ⟨hB1,Zhn hB2 (by omega) (by omega) (by omega)⟩⟩
 ·have:k+1=l.length\/k=l.length:=by omega
  have hup:Zke x l.length:=fun p q h1 h2=>hA2 p q h1 (by omega)
  have hx:=hsrt x hA1 hup
  rw[hx]
theorem Zkh(l:List Int)(hl:l.length<=12)(r:Int)(lvl:Nat)(S:Sto)(id:Oid)(u:Bool)(hw ver:Nat)(hid:id.1<lvl)(hS:S id=some (.ar 1 (rI l) u hw ver))(srt:List Int)(hsrt:∀ x:List Int,x.Perm l->Zke x l.length->x=srt) :
  Sem Go.Proofs.Tryz.prog ZE lvl [.hd id [] 0 l.length none hw,iI 0,iI l.length,iI r] S (.tu []) (ZF S id (.ar 1 (rI srt) u hw ver)):=by
 have hne:id.1≠lvl:=by omega
 refine Zb Xf trivial ?_
 simp only[Yp,EVA,seval]
 refine ZW (α:=Unit) 0 (fun _ _=>⟨lvl,[(0,.hd id [] 0 l.length none hw),(1,iI 0),(2,iI l.length),(3,iI r),(8,iB true),(9,iB true)],[],S⟩) (fun _ _=>True) () ⟨by simp only[Vi hne,EVA,seval],by (simp only[EVA,seval]) <;> rfl⟩ trivial ?_
 intro _ _ _ _
 have h12:(l.length:Int)-0<=12:=by omega
 simp only[h12,EVA,seval]
 refine⟨by rw[Zd];omega,?_⟩
 simp only[ZcI]
 refine Vv [] (ZF S id (.ar 1 (rI srt) u hw ver)) (fun i hi=>by unfold ZF;rw[if_neg (fun e=>hne (by rw[<-e];exact hi))]) (by
  rw[X3 hne]
  exact Zkg l hl (lvl+1) (Zu lvl [] S) id u hw ver (by omega) (by rw[Jd hne];exact hS) srt hsrt) ?_
 simp only[EVA,seval]
theorem ZiQ(l:List Int)(hl:l.length<=12)(lvl:Nat)(S:Sto)(id:Oid)(u:Bool)(hw ver:Nat)(hid:id.1<lvl)(hS:S id=some (.ar 1 (rI l) u hw ver))(srt:List Int)(hsrt:∀ x:List Int,x.Perm l->Zke x l.length->x=srt) :
  Sem Go.Proofs.Tryz.prog Z9 lvl [.hd id [] 0 l.length none hw] S (.tu []) (ZF S id (.ar 1 (rI srt) u hw ver)):=by
 have hne:id.1≠lvl:=by omega
 obtain⟨r,hr⟩:=Zmt (v:=(l.length:Int)) (by omega) (by omega)
 refine Zb Ul trivial ?_
 simp only[Qg,EVA,seval,Zl,men]
 refine⟨⟨by show (0:Int)<=l.length;omega,by show (l.length:Int)<=18446744073709551615;omega⟩,Za hr ?_⟩
 simp only[EVA,seval]
 refine Vv [] (ZF S id (.ar 1 (rI srt) u hw ver)) (fun i hi=>by unfold ZF;rw[if_neg (fun e=>hne (by rw[<-e];exact hi))]) (by
  rw[X3 hne]
  exact Zkh l hl r (lvl+1) (Zu lvl [] S) id u hw ver (by omega) (by rw[Jd hne];exact hS) srt hsrt) ?_
 simp only[EVA,seval]
end Go.Fd

/-
  THE VALUE OF A TERM, THE PROGRAM'S SIDE. Own work.
-/
namespace Go.Fd
set_option maxRecDepth 20000
theorem ZmB{x:List Int}(h:Zke x x.length):x.Pairwise (fun a b=>a<=b):=by
 rw[List.pairwise_iff_getElem]
 intro i j hi hj hij
 have:=h i j hij hj
 rwa [show g0 x i=x[i] by simp [hi],show g0 x j=x[j] by simp [hj]] at this
theorem ZpO{l x:List Int}(hp:x.Perm l)(h:Zke x l.length):x=ZkT (fun a b:Int=>a<b) l:=by
 rw[<-hp.length_eq] at h
 exact Zd5 Zhi ((ZmB h).imp fun h=>by omega) (ZfY Zhi) (hp.trans srtG_perm.symm)
theorem ZpP{n i:Nat}(h:i<n):(Zcr n)[i]? = some (i:Int):=by
 unfold Zcr
 simp [h]
theorem ZtP{l:List Int}{j:Nat}(h:j<l.length):(rI l)[j]? = some [tv l[j]]:=by
 show (l.map _)[j]? = _
 rw[List.getElem?_map,List.getElem?_eq_getElem h]
 rfl
end Go.Fd

/-
  WHICH STEPS ARE RIGHT, THE REFERENCE'S SIDE. Own work.
-/
namespace Go.Fd
set_option maxRecDepth 20000
end Go.Fd

/-
  WHAT STEPS MAKE, THE REFERENCE'S SIDE. Own work.
-/
namespace Go.Fd
set_option maxRecDepth 20000
end Go.Fd

/-
  WHAT STEPS MAKE OF TWO, AND OF ONE AND A NAME, THE REFERENCE'S SIDE. Own work.
-/
namespace Go.Fd
set_option maxRecDepth 20000
end Go.Fd

/-
  A STEP ON A STACK, THE REFERENCE'S SIDE. Own work.
-/
namespace Go.Fd
set_option maxRecDepth 20000
end Go.Fd

/-
  ALL STEPS, THE REFERENCE'S SIDE. Own work.
-/
namespace Go.Fd
set_option maxRecDepth 20000
end Go.Fd

/-
  NUMBERS OF LIBRARY FUNCTIONS IN THIS PROGRAM, as the guide's shelf lays them (printed by lay.py out of the kit's own command).
-/
namespace Go.Proofs
open Go.Shelf
def Tryz.lays189_ren:Go.Shelf.Ren:=⟨fun | 189=>172 | 125=>227 | 257=>226 | 128=>271 | 129=>272 | 294=>262 | 295=>263 | 296=>264 | 297=>265 | 298=>266 | 299=>267 | 216=>268 | 300=>269 | 301=>270 | 328=>315 | 329=>316 | 330=>317 | 331=>318 | 332=>319 | 215=>320 | 343=>342 | n=>n,fun | 28=>37 | 3=>3 | 46=>217 | 0=>0 | 51=>245 | 53=>248 | 4=>4 | 183=>260 | 182=>259 | 131=>35 | 5=>5 | 9=>9 | 218=>298 | 222=>302 | 228=>326 | 229=>327 | n=>n,fun | n=>n⟩
theorem Tryz.lays189:Go.Proofs.Lays.n189 Tryz.prog Tryz.lays189_ren:={
  mixed:=by kernel_rfl,
  f125:=Tryz.func227.trans (congrArg some (by kernel_rfl)),
  f128:=Tryz.func271.trans (congrArg some (by kernel_rfl)),
  f129:=Tryz.func272.trans (congrArg some (by kernel_rfl)),
  f189:=Tryz.func172.trans (congrArg some (by kernel_rfl)),
  f215:=Tryz.func320.trans (congrArg some (by kernel_rfl)),
  f216:=Tryz.func268.trans (congrArg some (by kernel_rfl)),
  f257:=Tryz.func226.trans (congrArg some (by kernel_rfl)),
  f294:=Tryz.func262.trans (congrArg some (by kernel_rfl)),
  f295:=Tryz.func263.trans (congrArg some (by kernel_rfl)),
  f296:=Tryz.func264.trans (congrArg some (by kernel_rfl)),
  f297:=Tryz.func265.trans (congrArg some (by kernel_rfl)),
  f298:=Tryz.func266.trans (congrArg some (by kernel_rfl)),
  f299:=Tryz.func267.trans (congrArg some (by kernel_rfl)),
  f300:=Tryz.func269.trans (congrArg some (by kernel_rfl)),
  f301:=Tryz.func270.trans (congrArg some (by kernel_rfl)),
  f328:=Tryz.func315.trans (congrArg some (by kernel_rfl)),
  f329:=Tryz.func316.trans (congrArg some (by kernel_rfl)),
  f330:=Tryz.func317.trans (congrArg some (by kernel_rfl)),
  f331:=Tryz.func318.trans (congrArg some (by kernel_rfl)),
  f332:=Tryz.func319.trans (congrArg some (by kernel_rfl)),
  f343:=Tryz.func342.trans (congrArg some (by kernel_rfl)),
  t0:=Tryz.underlying0,
  a0:=Tryz.isAgg0,
  z0:=Tryz.sizeOf0,
  v0:=Tryz.zeroValue0,
  t3:=Tryz.underlying3,
  a3:=Tryz.isAgg3,
  z3:=Tryz.sizeOf3,
  v3:=Tryz.zeroValue3,
  t4:=Tryz.underlying4,
  a4:=Tryz.isAgg4,
  z4:=Tryz.sizeOf4,
  v4:=Tryz.zeroValue4,
  t5:=Tryz.underlying5,
  a5:=Tryz.isAgg5,
  z5:=Tryz.sizeOf5,
  v5:=Tryz.zeroValue5,
  t9:=Tryz.underlying9,
  a9:=Tryz.isAgg9,
  z9:=Tryz.sizeOf9,
  v9:=Tryz.zeroValue9,
  t28:=Tryz.underlying37,
  a28:=Tryz.isAgg37,
  z28:=Tryz.sizeOf37,
  v28:=Tryz.zeroValue37,
  t46:=Tryz.underlying217,
  a46:=Tryz.isAgg217,
  z46:=Tryz.sizeOf217,
  v46:=Tryz.zeroValue217,
  t51:=Tryz.underlying245,
  a51:=Tryz.isAgg245,
  z51:=Tryz.sizeOf245,
  v51:=Tryz.zeroValue245,
  t53:=Tryz.underlying248,
  a53:=Tryz.isAgg248,
  z53:=Tryz.sizeOf248,
  v53:=Tryz.zeroValue248,
  t131:=Tryz.underlying35,
  a131:=Tryz.isAgg35,
  z131:=Tryz.sizeOf35,
  v131:=Tryz.zeroValue35,
  t182:=Tryz.underlying259,
  a182:=Tryz.isAgg259,
  z182:=Tryz.sizeOf259,
  v182:=Tryz.zeroValue259,
  t183:=Tryz.underlying260,
  a183:=Tryz.isAgg260,
  z183:=Tryz.sizeOf260,
  v183:=Tryz.zeroValue260,
  t218:=Tryz.underlying298,
  a218:=Tryz.isAgg298,
  z218:=Tryz.sizeOf298,
  v218:=Tryz.zeroValue298,
  t222:=Tryz.underlying302,
  a222:=Tryz.isAgg302,
  z222:=Tryz.sizeOf302,
  v222:=Tryz.zeroValue302,
  t228:=Tryz.underlying326,
  a228:=Tryz.isAgg326,
  z228:=Tryz.sizeOf326,
  v228:=Tryz.zeroValue326,
  t229:=Tryz.underlying327,
  a229:=Tryz.isAgg327,
  z229:=Tryz.sizeOf327,
  v229:=Tryz.zeroValue327 }
end Go.Proofs

/-
  SORTING NUMBERS, ANY NUMBER OF THEM; WHAT IS AN ORDER, BOTH SIDES. Own work.
-/
namespace Go.Fd
set_option maxRecDepth 20000
theorem ZpQ(l:List Int):l.mergeSort (fun x y=>decide (x<=y))=ZkT (fun a b:Int=>a<b) l:=by
 refine Zd5 Zhi ?_ (ZfY Zhi) ((List.mergeSort_perm l _).trans srtG_perm.symm)
 have h:=List.pairwise_mergeSort (le:=fun x y:Int=>decide (x<=y)) (fun a b c h1 h2=>by simp only[decide_eq_true_eq] at *;omega) (fun a b=>by simp only[Bool.or_eq_true,decide_eq_true_eq];omega) l
 refine h.imp fun {x y} h=>?_
 simp only[decide_eq_true_eq] at h
 omega
theorem Zee(l:List Int)(hl:l.length<=4294967296)(lvl:Nat)(S:Sto)(id:Oid)(u:Bool)(hw ver:Nat)(hid:id.1<lvl)(hS:S id=some (.ar 1 (rI l) u hw ver)) :
  Sem Go.Proofs.Tryz.prog Z9 lvl [.hd id [] 0 l.length none hw] S (.tu []) (ZF S id (.ar 1 (rI (ZkT (fun a b:Int=>a<b) l)) u hw ver)):=by
 by_cases hs:l.length<=12
 ·exact ZiQ l hs lvl S id u hw ver hid hS _ fun x hp hu=>ZpO hp hu
 ·have h:=Zfg (P:=Go.Proofs.Tryz.prog) (f:=Z9) (lvl:=lvl) (S:=S) (id:=id) (xs:=l) (ys:=ZkT (fun a b:Int=>a<b) l) (enc:=Value.int .i64) (u:=u) (hw:=hw) (ver:=ver) (Zd2 (by kernel_rfl)) hid hS (fun _=>rfl) srtG_perm.length_eq
   (fun h=>absurd (congrArg List.length h) (by show ¬ l.length=0;omega))
   (fun _ b cap w hH hb=>by
    have:=Go.Proofs.Any.slices_Sort_int Go.Proofs.Tryz.lays189 b 0 cap l w hH hb (by omega)
    rw[ZpQ] at this
    exact this)
  exact h
theorem Zfo(n:Nat)(l:List Int)(hl:l.length<=4294967296)(lvl:Nat)(S:Sto):Sem Go.Proofs.Tryz.prog Qw lvl [iI n,.tr (.sl (rI l))] S (iB (dc (Xh n l))) S:=by
 obtain⟨r,hr⟩:∃ r,r=ZkT (fun a b:Int=>a<b) l:=⟨_,rfl⟩
 have hrl:r.length=l.length:=by rw[hr];exact srtG_perm.length_eq
 refine Zb ZcA trivial ?_
 simp only[De,EVA,seval,Zl,men]
 refine Za (Zcc l (by omega)) ?_
 simp only[List.length_map,EVA,seval]
 have s1:=fun S' hS=>Zee l hl (lvl+1) S' (lvl,288) true l.length 0 (Nat.lt_succ_self _) hS
 rw[<-hr] at s1
 have hord:Xh l.length l↔r=Zcr l.length:=by rw[hr];exact ZiD
 refine Zd4 288 _ (s1 _ ?_) ?_
 ·rw[Yg];rfl
 simp only[EVA,seval]
 refine Ji (α:=Unit) l.length (fun j _=>[(14,iI j)]) (fun _ _=>[]) (fun j _=>∀ i:Nat,i<j->r[i]? = some (i:Int)) () (by simp only[EVA,seval]) (by (simp only[EVA,seval]) <;> rfl) (fun i hi=>absurd hi (Nat.not_lt_zero i)) ?_
 intro j _ hj hA
 simp only[List.length_map,EVA,seval]
 refine Zp (fun hlt=>?_) (fun hge=>?_)
 ·have hja:j<l.length:=by omega
  have hjr:j<r.length:=by omega
  have ga:=ZtP hjr
  simp only[ga,hja,EVA,seval]
  refine Zp (fun hq=>?_) (fun hq=>?_)
  ·have hno:¬ Xh n l:=fun g=>by
    have hnl:=g.1
    rw[<-hnl] at g
    have e:=hord.1 g
    have e2:r[j]? = some (j:Int):=by rw[e];exact ZpP hja
    rw[List.getElem?_eq_getElem hjr] at e2
    have e3:=Option.some.inj e2
    omega
   rw[Zf hno]
  ·exact⟨by rw[Zd];omega,Ze () hja rfl (fun i hi=>by
    rcases Nat.lt_or_eq_of_le (Nat.le_of_lt_succ hi) with h | h
    ·exact hA i h
    ·subst h
     rw[List.getElem?_eq_getElem hjr]
     congr 1
     omega)⟩
 ·have:j=l.length:=by omega
  subst this
  have hyes:Xh l.length l:=hord.2 (List.ext_getElem? fun i=>by
   by_cases hi:i<l.length
   ·rw[hA i hi,ZpP hi]
   ·rw[List.getElem?_eq_none (by omega),List.getElem?_eq_none (by rw[UV];omega)])
  by_cases hn:l.length=n
  ·have e:((l.length:Int)=n)=True:=eq_true (by omega)
   subst hn
   rw[ZK hyes]
   simp only[EVA,seval]
  ·have e:((l.length:Int)=n)=False:=eq_false (by omega)
   rw[Zf fun g:Xh n l=>hn g.1]
   simp only[e,EVA,seval]
theorem Zf6(l:List Int)(n:Nat)(hl:l.length<=4294967296)(hn:n<=4294967296)(lvl:Nat)(S:Sto):Sem Go.Proofs.Tryz.prog Q5 lvl [.tr (.sl (rI l)),iI n] S (iB (dc (Xh n l))) S:=by
 refine Zb ZdP trivial ?_
 simp only[DR,EVA,seval]
 refine Ji (α:=Unit) n (fun j _=>[(5,iI j)]) (fun _ _=>[]) (fun j _=>∀ i:Nat,i<j->(i:Int)∈l) () (by simp only[EVA,seval]) (by (simp only[EVA,seval]) <;> rfl) (fun i hi=>absurd hi (Nat.not_lt_zero i)) ?_
 intro j _ hj hA
 simp only[List.length_map,EVA,seval,Zl,men]
 refine Zp (fun hlt=>?_) (fun hge=>?_)
 ·have hja:j<n:=by omega
  refine Za (X6 l j (by omega)) ?_
  by_cases hm:(j:Int)∈l
  ·simp only[hm,EVA,seval]
   exact⟨by rw[Zd];omega,Ze () hja rfl (fun i hi=>by
    rcases Nat.lt_or_eq_of_le (Nat.le_of_lt_succ hi) with h | h
    ·exact hA i h
    ·subst h;exact hm)⟩
  ·rw[Zf fun g:Xh n l=>hm (g.2 j hja)]
   simp only[hm,EVA,seval]
 ·have:j=n:=by omega
  subst this
  by_cases hn:l.length=j
  ·have e:((l.length:Int)=j)=True:=eq_true (by omega)
   rw[ZK (show Xh j l from ⟨hn,hA⟩)]
   simp only[e,EVA,seval]
  ·have e:((l.length:Int)=j)=False:=eq_false (by omega)
   rw[Zf fun g:Xh j l=>hn g.1]
   simp only[e,EVA,seval]
end Go.Fd

/-
  TRANSLATIONS, THE REFERENCE: THE EDGES OF A TRANSLATION; ALL TRANSLATIONS. Own work.
-/
namespace Go.Fd
set_option maxRecDepth 20000
theorem ZiR{a b:TBigraph}{ns es:List Int}{k:Nat}(hz:edJ a b ns k=some es)(hf:Zav a b (ns.take k) (g0 ns k)):edJ a b ns (k+1)=QN a.edges es (Jk a k).links (Jk b (g0 ns k).toNat).links:=by
 rw[edJ,hz]
 exact if_pos hf
theorem ZkZ{a b:TBigraph}{ns es:List Int}{k:Nat}(hz:edJ a b ns k=some es)(hf:¬ Zav a b (ns.take k) (g0 ns k)):edJ a b ns (k+1)=none:=by
 rw[edJ,hz]
 exact if_neg hf
theorem Zef{a b:TBigraph}{ns:List Int}{j:Nat}(h:edJ a b ns j=none)(hj:j<=a.nodes.length):trT a b ns=none:=by
 unfold trT Zfv
 split
 ·rw[ZgU h hj];rfl
 ·rfl
theorem Zda{a b:TBigraph}{ns:List Int}(ha:Vl a b)(ho:Xh a.nodes.length ns):trT a b ns=(Zfv a b ns).map Zf3:=by
 unfold trT
 rw[if_pos ⟨ha,ho⟩]
theorem Dj{a b:TBigraph}{ns:List Int}(h:¬ (Vl a b/\Xh a.nodes.length ns)):trT a b ns=none:=by
 unfold trT
 rw[if_neg h]
theorem Zag{sig:List TControl}{b:TBigraph}(h:bigOK sig b){k:Nat}(hk:k<b.nodes.length):(Jk b k).parent<k:=by
 rw[ZQ hk]
 have:=(h.nodes k hk).par
 unfold W0 at this
 omega
theorem X8{sig:List TControl}{b:TBigraph}(h:bigOK sig b){k:Nat}(hk:k<b.nodes.length):∀ v∈(Jk b k).links,0<=v/\v<=1000:=fun v hv=>by
 rw[ZQ hk] at hv
 have:=(h.nodes k hk).links v hv
 unfold Xg at this
 have h1:=h.edges
 have h2:=h.small.outer
 omega
theorem ZaP{sig:List TControl}{b:TBigraph}(h:bigOK sig b):∀ v∈lnk b,0<=v/\v<=1000:=fun v hv=>by
 obtain⟨w,hw,rfl⟩:=List.mem_map.1 hv
 have:=h.inner w hw
 unfold Xg at this
 have h1:=h.edges
 have h2:=h.small.outer
 omega
theorem Zeg{sig:List TControl}{b:TBigraph}(h:bigOK sig b){k:Nat}(hk:k<b.nodes.length):(Jk b k).links.length<=1000:=by
 rw[ZQ hk]
 exact h.small.links _ (List.getElem_mem hk)
theorem Zf7{sig:List TControl}{b:TBigraph}(h:bigOK sig b):∀ p∈b.sites,p<b.nodes.length:=fun p hp=>by
 have:=h.sites p hp
 unfold W0 at this
 omega
theorem Zch{a b:TBigraph}(h:Vl a b):a.inner.length=b.inner.length:=by
 have:=Zf5 h
 simpa [lnk] using this
theorem Zci(sig:List TControl)(a b:TBigraph)(l:List Int)(hA:bigOK sig a)(hB:bigOK sig b)(hl:l.length<=4294967296)(lvl:Nat)(S:Sto) :
  Sem Go.Proofs.Tryz.prog Y1 lvl [cB a,cB b,tI l] S (.tu [.ow 1 (rI ((trT a b l).getD [])) true,iB (trT a b l).isSome]) S:=by
 have nA:=hA.small.nodes
 have q0:=Zcg a b hA.small hB.small
 simp only[cB,Zc,List.map_cons,List.map_nil] at q0
 refine Zb Zcx (by simp [low,men,Zl]) ?_
 simp only[Dc,Zc,EVA,seval,Zl,men]
 refine Za q0 ?_
 by_cases hal:Vl a b
 rotate_left
 ·rw[Zf hal,Dj fun h=>hal h.1]
  simp only[Option.isSome_none,Option.getD_none,EVA,seval]
  try rfl
 rw[ZK hal]
 simp only[List.length_map,EVA,seval,Zl,men]
 refine Za (Zf6 l a.nodes.length hl (by omega)) ?_
 by_cases ho:Xh a.nodes.length l
 rotate_left
 ·rw[Zf ho,Dj fun h=>ho h.2]
  simp only[Option.isSome_none,Option.getD_none,EVA,seval]
  try rfl
 rw[ZK ho]
 have hll:l.length=a.nodes.length:=ho.1
 have hab:=hal.2.1
 have hnn:=hal.2.2.1
 have he:=hA.edges
 have qn:=Zc5 a.edges.toNat (by omega)
 rw[show ((a.edges.toNat:Nat):Int)=a.edges by omega] at qn
 simp only[EVA,seval,Zl,men]
 refine Za qn ?_
 rw[Zda hal ho]
 simp only[EVA,seval]
 refine Ji (α:=Unit) a.nodes.length (fun j _=>[(8,tI ((edJ a b l j).getD [])),(9,iI j)]) (fun _ _=>[]) (fun j _=>∃ es,edJ a b l j=some es) () (by simp only[EVA,seval]) (by (simp only[edJ,Option.getD_some,EVA,seval]) <;> rfl) ⟨_,rfl⟩ ?_
 intro j _ hj ⟨es,hz⟩
 rw[hz,Option.getD_some]
 have hesl:=Uv hz
 simp only[List.length_map,hll,EVA,seval,Zl,men]
 refine Zp (fun hlt=>?_) (fun hge=>?_)
 ·have hja:j<a.nodes.length:=by omega
  have hjl:j<l.length:=by omega
  have hgm:=Zcd ho (J5 hjl)
  obtain⟨m,hm⟩:=Int.eq_ofNat_of_zero_le hgm.1
  have hmb:m<b.nodes.length:=by omega
  have gx:=JL hjl
  have htl:(l.take j).length=j:=by rw[List.length_take];omega
  have hpar:=Zag hA hja
  have q1:=Zc7 a b (l.take j) m (by omega) (by omega) hmb (by rw[htl];exact hpar)
  have ga:=Wd (c:=ZR) hja
  have gb:=Wd (c:=ZR) hmb
  have ct:cut (rI l) 0 j=rI (l.take j):=by simp [cut]
  simp only[cB,Zc,List.map_cons,List.map_nil] at q1
  rw[hm] at gx
  simp only[gx,Nat.sub_zero,ct,EVA,seval,Zl,men]
  refine⟨fun h=>h.elim,by omega,by omega,Za q1 ?_⟩
  by_cases hf:Zav a b (l.take j) m
  rotate_left
  ·have hn:=ZkZ hz (by rw[hm];exact hf)
   have ht:=Zef hn (by omega)
   rw[Zda hal ho] at ht
   rw[Zf hf,ht]
   simp only[Option.isSome_none,Option.getD_none,EVA,seval]
   try rfl
  rw[ZK hf]
  have hy:=ZiR hz (by rw[hm];exact hf)
  rw[hm,Int.toNat_natCast] at hy
  have hctl:=hf.2.1
  rw[htl,Int.toNat_natCast] at hctl
  have q2:=ZaN a b es (Jk a j).links (Jk b m).links he hab hesl (Uw hA hB hja hmb hctl) (Zeg hA hja) (X8 hA hja) (X8 hB hmb)
  rw[ZQ hja,ZQ hmb] at q2 hy
  simp only[cB,Zc,List.map_cons,List.map_nil] at q2
  simp only[gx,ga,gb,ZR,EVA,seval,Zl,men]
  refine Za q2 ?_
  cases ht:QN a.edges es a.nodes[j].links b.nodes[m].links with
  | none =>
   rw[ht] at hy
   have ht2:=Zef hy (by omega)
   rw[Zda hal ho] at ht2
   rw[ht2]
   simp only[Option.isSome_none,Option.getD_none,EVA,seval]
   try rfl
  | some w =>
   rw[ht] at hy
   have hw:Ux a.edges es a.nodes[j].links b.nodes[m].links a.nodes[j].links.length=w:=JR ht
   rw[hw]
   simp only[Option.isSome_some,EVA,seval]
   exact⟨by rw[Zd];omega,Ze () hja (by rw[hy];rfl) ⟨w,hy⟩⟩
 ·have hjn:j=a.nodes.length:=by omega
  subst hjn
  have hpre:Zfv a b l=Zew a b l es:=by unfold Zfv;rw[hz];rfl
  have q3:=Zc8 a b l es he hab hesl hal.2.2.2.1 (by have:=hA.sitesL;omega) (Zch hal) (by have:=hA.small.inner;omega) (fun p hp=>by have:=Zf7 hA p hp;omega) (ZaP hA) (ZaP hB)
  simp only[cB,Zc,List.map_cons,List.map_nil] at q3
  rw[hpre]
  refine Za q3 ?_
  cases ht:Zew a b l es with
  | none =>
   simp only[Option.isSome_none,Option.getD_none,Option.map_none,EVA,seval]
   try rfl
  | some z =>
   have hr:ZpL a b l es=z:=by
    unfold Zew at ht
    unfold ZpL
    split at ht
    ·rename_i hs
     rw[if_pos hs]
     exact JR ht
    ·cases ht
   have hzl:z.length<=1000:=by
    unfold Zew at ht
    split at ht
    ·rw[Yr ht,hesl];omega
    ·cases ht
   rw[hr]
   simp only[Option.isSome_some,Option.getD_some,Option.map_some,EVA,seval,Zl,men]
   refine Za (Zhl z hzl) ?_
   simp only[List.length_map,EVA,seval]
   try exact⟨by simp [Zf3,Jl],rfl⟩
   try rfl
end Go.Fd

/-
  TRANSLATIONS, THE REFERENCE: ALL THAT BEGIN WITH SOME. Own work.
-/
namespace Go.Fd
set_option maxRecDepth 20000
abbrev rT(L:List (List Int)):Row:=L.map fun l=>[Tr.sl (rI l)]
noncomputable def fR(a b:TBigraph)(r:Nat)(ns es:List Int)(m:Int):List (List Int):=@ite _ (Zav a b ns m) (Classical.propDecidable _) (match QN a.edges es (Jk a ns.length).links (Jk b m.toNat).links with
   | some z=>Zhj a b r (ns++[m]) z
   | none=>[]) []
theorem ZiS{a b:TBigraph}{r:Nat}{ns es:List Int}:Zhj a b (r+1) ns es=jnL (fR a b r ns es) b.nodes.length:=by
 rw[Zhj]
 rfl
theorem ZtQ{a b:TBigraph}{r:Nat}{ns es:List Int}{m:Int}(h:¬ Zav a b ns m):fR a b r ns es m=[]:=if_neg h
theorem ZmC{a b:TBigraph}{r:Nat}{ns es:List Int}{m:Int}(h:Zav a b ns m)(ht:QN a.edges es (Jk a ns.length).links (Jk b m.toNat).links=none):fR a b r ns es m=[]:=by
 unfold fR
 rw[if_pos h,ht]
theorem ZmD{a b:TBigraph}{r:Nat}{ns es z:List Int}{m:Int}(h:Zav a b ns m)(ht:QN a.edges es (Jk a ns.length).links (Jk b m.toNat).links=some z):fR a b r ns es m=Zhj a b r (ns++[m]) z:=by
 unfold fR
 rw[if_pos h,ht]
theorem Zf8{β:Type}{f:Int->List β}{j:Nat}(h:f j=[]):jnL f (j+1)=jnL f j:=by rw[Xz,h,List.append_nil]
theorem Zdb(sig:List TControl)(a b:TBigraph)(hA:bigOK sig a)(hB:bigOK sig b)(hal:Vl a b):∀(r:Nat) (ns es:List Int) (most:Nat) (lvl:Nat) (S:Sto),ns.length+r=a.nodes.length->es.length=a.edges.toNat->1<=most->most<=100000 ->
  Sem Go.Proofs.Tryz.prog VO lvl [cB a,cB b,tI ns,tI es,iI most] S (.ow 1 (rT ((Zhj a b r ns es).take most)) true) S
 | 0,ns,es,most,lvl,S,hr,hes,h1,h2=>by
  have nA:=hA.small.nodes
  have hk:ns.length=a.nodes.length:=by omega
  have q3:=Zc8 a b ns es hA.edges hal.2.1 hes hal.2.2.2.1 (by have:=hA.sitesL;omega) (Zch hal) (by have:=hA.small.inner;omega) (fun p hp=>by have:=Zf7 hA p hp;omega) (ZaP hA) (ZaP hB)
  simp only[cB,Zc,List.map_cons,List.map_nil] at q3
  refine Zb D0 trivial ?_
  rw[Zhj]
  simp only[Wx,Zc,hk,List.length_map,EVA,seval,Zl,men]
  refine Za q3 ?_
  by_cases hs:(Zew a b ns es).isSome=true
  ·rw[if_pos hs,hs,List.take_of_length_le (by simpa using h1)]
   simp only[EVA,seval,Zl,men]
   refine Za (UX ns (by omega)) ?_
   simp only[List.length_map,EVA,seval]
   try rfl
  ·have hs2:(Zew a b ns es).isSome=false:=by simpa using hs
   rw[if_neg hs,hs2]
   simp only[List.take_nil,EVA,seval]
   try rfl
 | r+1,ns,es,most,lvl,S,hr,hes,h1,h2=>by
  have nA:=hA.small.nodes
  have nB:=hB.small.nodes
  have hk:ns.length<a.nodes.length:=by omega
  have hkn:((ns.length:Int)=a.nodes.length)=False:=eq_false (by omega)
  obtain⟨f,hf⟩:∃ f,f=fR a b r ns es:=⟨_,rfl⟩
  have hX:Zhj a b (r+1) ns es=jnL f b.nodes.length:=by rw[hf];exact ZiS
  rw[hX]
  refine Zb D0 trivial ?_
  simp only[Wx,Zc,hkn,List.length_map,EVA,seval]
  refine Ji (α:=Unit) b.nodes.length (fun j _=>[(13,.hd (lvl,1152) [] 0 ((jnL f j).take most).length none ((jnL f j).take most).length),(14,iI j)]) (fun j _=>[(1152,.ar 1 (rT ((jnL f j).take most)) true ((jnL f j).take most).length 0)]) (fun _ _=>True) () (by simp only[EVA,seval]) (by (simp only[Zg1,List.take_nil,List.length_nil,EVA,seval]) <;> rfl) trivial ?_
  intro j _ hj _
  obtain⟨acc,hacc⟩:∃ acc,acc=(jnL f j).take most:=⟨_,rfl⟩
  rw[<-hacc]
  by_cases hja:j<b.nodes.length
  rotate_left
  ·have hjn:j=b.nodes.length:=by omega
   subst hjn
   rw[<-hacc]
   have e:¬ (b.nodes.length:Int)<b.nodes.length:=by omega
   simp only[e,List.length_map,EVA,seval]
   try rfl
  have e1:(j:Int)<b.nodes.length:=by omega
  by_cases hm:acc.length<most
  rotate_left
  ·have e2:¬ (acc.length:Int)<most:=by omega
   have hfull:=Zj8 (f:=f) (j:=j) (n:=b.nodes.length) (m:=most) (by omega) (by rw[<-hacc];omega)
   rw[hfull,<-hacc]
   simp only[e1,e2,List.length_map,EVA,seval]
   try rfl
  have e2:(acc.length:Int)<most:=by omega
  have hnext:=Zj7 (f:=f) (j:=j) (m:=most) (by rw[<-hacc];exact hm)
  rw[<-hacc] at hnext
  have hpar:=Zag hA hk
  have q1:=Zc7 a b ns j hk (by omega) hja hpar
  simp only[cB,Zc,List.map_cons,List.map_nil] at q1
  simp only[e1,e2,List.length_map,EVA,seval,Zl,men]
  refine Za q1 ?_
  by_cases hfit:Zav a b ns j
  rotate_left
  ·have hn:jnL f (j+1)=jnL f j:=Zf8 (by rw[hf];exact ZtQ hfit)
   rw[Zf hfit]
   simp only[EVA,seval]
   exact⟨by rw[Zd];omega,Ze () hja (by rw[hn,<-hacc];rfl) trivial⟩
  rw[ZK hfit]
  have hctl:=hfit.2.1
  rw[Int.toNat_natCast] at hctl
  have q2:=ZaN a b es (Jk a ns.length).links (Jk b j).links hA.edges hal.2.1 hes (Uw hA hB hk hja hctl) (Zeg hA hk) (X8 hA hk) (X8 hB hja)
  have ga:=Wd (c:=ZR) hk
  have gb:=Wd (c:=ZR) hja
  have hh:=ZmC (r:=r) (es:=es) hfit
  have hh2:=fun z=>ZmD (r:=r) (es:=es) (z:=z) hfit
  rw[Int.toNat_natCast] at hh hh2
  rw[ZQ hk,ZQ hja] at q2 hh hh2
  simp only[cB,Zc,List.map_cons,List.map_nil] at q2
  simp only[ga,gb,ZR,List.length_map,EVA,seval,Zl,men]
  refine Za q2 ?_
  cases ht:QN a.edges es a.nodes[ns.length].links b.nodes[j].links with
  | none =>
   have hn:jnL f (j+1)=jnL f j:=Zf8 (by rw[hf];exact hh ht)
   simp only[Option.isSome_none,EVA,seval]
   exact⟨by rw[Zd];omega,Ze () hja (by rw[hn,<-hacc];rfl) trivial⟩
  | some w =>
   have hw:Ux a.edges es a.nodes[ns.length].links b.nodes[j].links a.nodes[ns.length].links.length=w:=JR ht
   have hfj:f j=Zhj a b r (ns++[(j:Int)]) w:=by rw[hf];exact hh2 w ht
   have ih:=fun lvl S=>Zdb sig a b hA hB hal r (ns++[(j:Int)]) w (most-acc.length) lvl S (by rw[List.length_append,List.length_singleton];omega) (by rw[Yr ht];exact hes) (by omega) (by omega)
   have hml:((most-acc.length:Nat):Int)=(most:Int)-acc.length:=by omega
   rw[hml,<-hfj] at ih
   rw[hw]
   simp only[cB,Zc,List.map_cons,List.map_nil] at ih
   simp only[Option.isSome_some,EVA,seval,Zl,men]
   refine Za (UX ns (by omega)) ?_
   simp only[List.length_map,EVA,seval,Zl,men]
   have c1:cut (rI ns++[[Tr.v (Value.int IntKind.i64 (j:Int))]]) 0 (ns.length+1)=rI (ns++[(j:Int)]):=by
    rw[ZkP]
    exact Uu (by simp)
   have l1:(rI ns++[[Tr.v (Value.int IntKind.i64 (j:Int))]]).length=ns.length+1:=by simp
   have hmx:max acc.length (acc.length+(List.take (most-acc.length) (f (j:Int))).length)=acc.length+(List.take (most-acc.length) (f (j:Int))).length:=by omega
   have hlen:(List.take (most-acc.length) (f (j:Int))).length<=100000:=by rw[List.length_take];omega
   simp only[c1,l1,EVA,seval]
   refine⟨by omega,by rw[Zd];omega,?_⟩
   refine Za ih ?_
   simp only[List.length_map,hmx,EVA,seval]
   exact⟨ZfS (fun l:List Int=>[Tr.sl (rI l)]) (fun _=>rfl) _,by omega,by rw[Zd];omega,Ze () hja (by rw[hnext,List.length_append,show ∀ x y:List (List Int),rT (x++y)=rT x++rT y from fun x y=>List.map_append];rfl) trivial⟩
noncomputable def Zf9(a b:TBigraph):List (List Int):=Zbf a b a.nodes.length []
theorem ZmE{n:Nat}:(List.replicate n (-1:Int)).length=n:=List.length_replicate
theorem Zki{a b:TBigraph}(ha:Vl a b):Zhj a b a.nodes.length [] (List.replicate a.edges.toNat (-1))=Zf9 a b :=
 ZiG ha (by simp) List.nodup_nil (fun x hx=>by simp at hx) rfl
theorem ZaQ{a b:TBigraph}(h:¬ Vl a b):∀{r:Nat} {ns:List Int},Zbf a b r ns=[]
 | 0,ns=>by
  rw[Zbf,if_neg]
  rw[Dj fun g=>h g.1]
  simp
 | r+1,ns=>by
  rw[Zbf,List.flatMap_eq_nil_iff]
  intro m _
  split
  ·exact ZaQ h
  ·rfl
theorem Zga(sig:List TControl)(a b:TBigraph)(hA:bigOK sig a)(hB:bigOK sig b)(lvl:Nat)(S:Sto):Sem Go.Proofs.Tryz.prog Qv lvl [cB a,cB b] S (.ow 1 (rT ((Zf9 a b).take 1)) true) S:=by
 have q0:=Zcg a b hA.small hB.small
 have he:=hA.edges
 have qn:=Zc5 a.edges.toNat (by omega)
 rw[show ((a.edges.toNat:Nat):Int)=a.edges by omega] at qn
 simp only[cB,Zc,List.map_cons,List.map_nil] at q0
 refine Zb Zcz trivial ?_
 simp only[Dd,Zc,EVA,seval,Zl,men]
 refine Za q0 ?_
 by_cases hal:Vl a b
 rotate_left
 ·rw[Zf hal,show Zf9 a b=[] from ZaQ hal]
  simp only[List.take_nil,EVA,seval]
  try rfl
 rw[ZK hal]
 have q:=fun lvl S=>Zdb sig a b hA hB hal a.nodes.length [] (List.replicate a.edges.toNat (-1)) 1 lvl S (by simp) ZmE (Nat.le_refl _) (by omega)
 rw[Zki hal] at q
 simp only[cB,Zc,List.map_cons,List.map_nil] at q
 simp only[EVA,seval,Zl,men]
 refine Za qn ?_
 simp only[EVA,seval,Zl,men]
 refine Za q ?_
 simp only[List.length_map,EVA,seval]
 try rfl
theorem ZiT(sig:List TControl)(a b:TBigraph)(hA:bigOK sig a)(hB:bigOK sig b)(lvl:Nat)(S:Sto):Sem Go.Proofs.Tryz.prog XE lvl [cB a,cB b] S (iB (!(Zf9 a b).isEmpty)) S:=by
 have q:=Zga sig a b hA hB
 simp only[cB,Zc,List.map_cons,List.map_nil] at q
 refine Zb Ze4 trivial ?_
 simp only[Za1,Zc,EVA,seval,Zl,men]
 refine Za q ?_
 cases h:Zf9 a b with
 | nil =>
  simp only[List.take_nil,List.length_nil,List.isEmpty_nil,List.map_nil,EVA,seval]
  try rfl
 | cons x r =>
  simp only[List.take_succ_cons,List.take_zero,List.length_cons,List.length_nil,List.isEmpty_cons,List.map_cons,List.map_nil,EVA,seval]
  try rfl
theorem Zcj(sig:List TControl)(a b:TBigraph)(hn:sig.length<=4294967296)(hbs:∀ y∈sig,ZA 4294967296 y)(hba:Zv 4294967296 a)(hbb:Zv 4294967296 b)(fa:ZG a)(fb:ZG b)(lvl:Nat)(S:Sto):Sem Go.Proofs.Tryz.prog YT lvl [.tr (.sl (sig.map Zi)),cB a,cB b] S (iB (dc (bigOK sig a/\bigOK sig b))) S:=by
 have q1:=Zc0 sig a hn hbs hba fa
 have q2:=Zc0 sig b hn hbs hbb fb
 simp only[Zc,List.map_cons,List.map_nil] at q1 q2
 refine Zb Ze5 trivial ?_
 simp only[Za2,Zc,EVA,seval,Zl,men]
 refine Za q1 ?_
 by_cases h1:bigOK sig a
 rotate_left
 ·rw[Zf h1,Zf fun h:bigOK sig a/\bigOK sig b=>h1 h.1]
  simp only[EVA,seval]
  try rfl
 rw[ZK h1]
 simp only[EVA,seval,Zl,men]
 refine Za q2 ?_
 rw[JY (show bigOK sig a/\bigOK sig b↔bigOK sig b from ⟨fun h=>h.2,fun h=>⟨h1,h⟩⟩)]
 simp only[EVA,seval]
 try rfl
end Go.Fd

/-
  NUMBERS OF LIBRARY FUNCTIONS IN THIS PROGRAM, as the guide's shelf lays them (printed by lay.py out of the kit's own command).
-/
namespace Go.Proofs
open Go.Shelf
def Tryz.lays212_ren:Go.Shelf.Ren:=⟨fun | 212=>214 | 263=>255 | 264=>256 | n=>n,fun | 46=>217 | 51=>245 | 146=>246 | 53=>248 | 148=>249 | n=>n,fun | n=>n⟩
theorem Tryz.lays212:Go.Proofs.Lays.n212 Tryz.prog Tryz.lays212_ren:={
  mixed:=by kernel_rfl,
  f212:=Tryz.func214.trans (congrArg some (by kernel_rfl)),
  f263:=Tryz.func255.trans (congrArg some (by kernel_rfl)),
  f264:=Tryz.func256.trans (congrArg some (by kernel_rfl)),
  t46:=Tryz.underlying217,
  a46:=Tryz.isAgg217,
  z46:=Tryz.sizeOf217,
  v46:=Tryz.zeroValue217,
  t51:=Tryz.underlying245,
  a51:=Tryz.isAgg245,
  z51:=Tryz.sizeOf245,
  v51:=Tryz.zeroValue245,
  t53:=Tryz.underlying248,
  a53:=Tryz.isAgg248,
  z53:=Tryz.sizeOf248,
  v53:=Tryz.zeroValue248,
  t146:=Tryz.underlying246,
  a146:=Tryz.isAgg246,
  z146:=Tryz.sizeOf246,
  v146:=Tryz.zeroValue246,
  t148:=Tryz.underlying249,
  a148:=Tryz.isAgg249,
  z148:=Tryz.sizeOf249,
  v148:=Tryz.zeroValue249 }
end Go.Proofs

/-
  TRANSLATIONS, THE PROGRAM: THE LIBRARY'S REPEAT, TIES, IDLE EDGES. Own work.
-/
namespace Go.Fd
open Go.RowKit
set_option maxRecDepth 20000
theorem ZmF(x y:Nat)(hx:x<=1000)(hy:y<=1000)(lvl:Nat)(S:Sto):Sem Go.Proofs.Tryz.prog X5 lvl [.tr (.v (.int .u64 x)),.tr (.v (.int .u64 y))] S (.tu [.tr (.v (.int .u64 0)),.tr (.v (.int .u64 (x*y:Nat)))]) S:=by
 have hxy:x*y<=1000*1000:=Nat.mul_le_mul hx hy
 have e1:x*y / 18446744073709551616=0:=Nat.div_eq_of_lt (by omega)
 have e2:x*y % 18446744073709551616=x*y:=Nat.mod_eq_of_lt (by omega)
 exact ZeU (P:=Go.Proofs.Tryz.prog) (xs:=[.int .u64 x,.int .u64 y]) (ys:=[.int .u64 0,.int .u64 (x*y:Nat)]) (Zd2 (by kernel_rfl)) (fun v hv=>by
  rcases List.mem_cons.1 hv with h | h
  ·rw[h];rfl
  ·rw[List.mem_singleton.1 h];rfl) (fun w=>(Go.Proofs.Any.bits_Mul Go.Proofs.Tryz.lays212 x y (by omega) (by omega) w).mono fun e w' ⟨h,h'⟩=>⟨by rw[h,e1,e2];rfl,h' ▸ Below.refl _ _⟩)
def rpL(N k:Nat):List Int:=List.replicate k (-1)++List.replicate (N-k) 0
theorem ZiU{N k:Nat}(h:k<=N):(rpL N k).length=N:=by simp [rpL];omega
theorem Zkj{N k:Nat}(h:k<=N):(rpL N k).take k++((rpL N k).take k).take (N-k)++(rpL N k).drop (k+min k (N-k))=rpL N (k+min k (N-k)):=by
 have e1:(rpL N k).take k=List.replicate k (-1):=by
  unfold rpL
  rw[List.take_append_of_le_length (by simp),List.take_of_length_le (by simp)]
 have e2:(rpL N k).drop (k+min k (N-k))=List.replicate (N-k-min k (N-k)) 0:=by
  unfold rpL
  rw[List.drop_append,List.drop_of_length_le (by simp),List.length_replicate,List.drop_replicate]
  simp
 rw[e1,e2,List.take_replicate,List.replicate_append_replicate]
 unfold rpL
 rw[Nat.min_comm (N-k) k,show N-(k+min k (N-k))=N-k-min k (N-k) by omega]
theorem Zho(N:Nat)(hN:N<=1000)(lvl:Nat)(S:Sto):Sem Go.Proofs.Tryz.prog JJ lvl [tI [-1],iI N] S (.ow 1 (rI (List.replicate N (-1))) true) S:=by
 refine Zb Ww trivial ?_
 have h0:¬ (N:Int)<0:=by omega
 have qm:=ZmF 1 N (by omega) hN
 rw[Nat.one_mul] at qm
 have h1:¬ (9223372036854775807:Int)<N:=by omega
 have f1:QO .u64 (N:Int):=⟨by show (0:Int)<=N;omega,by show (N:Int)<=18446744073709551615;omega⟩
 have f2:QO .i64 (N:Int):=by rw[Zd];omega
 simp only[VT,h0,List.length_cons,List.length_nil,EVA,seval,Zl,men]
 refine⟨⟨by decide,by decide⟩,f1,Za qm ?_⟩
 have tz:trv (.int .i64 0)=tv 0:=rfl
 have hrow:List.replicate N [tv 0]=rI (rpL N 0):=by simp [rpL]
 simp only[h1,tz,hrow,Int.toNat_natCast,EVA,seval]
 have hi:List.take N [[tv (-1)]]++List.drop (min 1 N) (rI (rpL N 0))=rI (rpL N (min 1 N)):=by
  cases N with
  | zero=>rfl
  | succ n =>
   have e:min 1 (n+1)=1:=by omega
   rw[e]
   simp [rpL,List.replicate_succ]
 rw[hi]
 refine⟨f2,by omega,by rw[ZiU (Nat.zero_le _)];exact Nat.le_refl _,of_eq_true Zj2,?_⟩
 refine Zpi (α:=Nat×Nat) (fun x=>N-x.1) (fun x=>[(8,iI x.1)]) (fun x=>[(960,.ar 1 (rI (rpL N x.1)) true N x.2)]) (fun x=>x.1<=N/\(0<N->0<x.1)) (min 1 N,1) (by simp only[EVA,seval]) (by (simp only[EVA,seval]) <;> rfl) ⟨by omega,by omega⟩ ?_
 rintro⟨k,v⟩ ⟨hk,hk0⟩
 have hk:k<=N:=hk
 have hk0:0<N->0<k:=hk0
 have hrl:=ZiU hk
 simp only[List.length_map,EVA,seval]
 refine Zp (fun hlt=>?_) (fun hge=>?_)
 ·have hkN:k<N:=by omega
  have ck:cut (rI (rpL N k)) 0 k=rI ((rpL N k).take k):=by simp [cut]
  have l1:(rI ((rpL N k).take k)).length=k:=by rw[List.length_map,List.length_take,hrl];omega
  have hrow2:List.take k (rI (rpL N k))++List.take (N-k) (rI ((rpL N k).take k))++List.drop (k+min k (N-k)) (rI (rpL N k))=rI (rpL N (k+min k (N-k))):=by
   rw[<-Zkj hk]
   simp only[List.map_append,List.map_take,List.map_drop]
  simp only[Nat.sub_zero,ck,l1,hrl,Zj2,Zj3,hrow2,EVA,seval]
  exact⟨hk,by omega,hk,hk,by omega,hk,by rw[Zd];omega,(k+min k (N-k),v+1),by show N-(k+min k (N-k))<N-k;have:=hk0 (by omega);omega,by rw[show (k:Int)+(min k (N-k):Nat)=((k+min k (N-k):Nat):Int) by omega],by show k+min k (N-k)<=N;omega,fun _=>by show 0<k+min k (N-k);have:=hk0 (by omega);omega⟩
 ·have hkN:k=N:=by omega
  subst hkN
  have e:rpL k k=List.replicate k (-1):=by simp [rpL]
  rw[e]
  exact⟨by simp,rfl⟩
theorem Zkk{k:Nat}{id:Oid}{p:Pth}{off len s:Nat}{cap:Option Nat}{st:St}{F:IV->St->Prop}(h:id.1≠st.lvl):Zcq k (.hd id p off len cap s) st F=F (.hd id p off len cap s) st:=if_neg h
theorem Zah(p:Int)(ns:List Int)(h:p<ns.length)(lvl:Nat)(S:Sto):Sem Go.Proofs.Tryz.prog VM lvl [iI p,.ta [Tr.sl (rI ns)]] S (iI (mvP ns p)) S:=by
 refine Zb Zbc trivial ?_
 unfold mvP
 by_cases h0:p<0
 ·have e:¬ 0<=p:=by omega
  rw[if_pos h0]
  simp only[Qx,e,EVA,seval]
  try rfl
 ·have e:0<=p:=by omega
  rw[if_neg h0]
  obtain⟨k,rfl⟩:=Int.eq_ofNat_of_zero_le e
  have hk:k<ns.length:=by omega
  have ga:=JL hk
  simp only[Qx,e,ga,EVA,seval]
  try rfl
theorem Zai(a b:TBigraph)(es:List Int)(x y:Int)(ha:0<=a.edges/\a.edges<=8)(hab:a.edges=b.edges)(hes:es.length=a.edges.toNat)(hx:0<=x/\x<=1000)(hy:0<=y/\y<=1000)(lvl:Nat)(S:Sto)(idB idR:Oid)(hB:idB.1<lvl)(hR:idR.1<lvl)(sB:S idB=some (.bx [.hd idR [] 0 es.length none es.length]))(sR:S idR=some (.ar 1 (rI es) true es.length 0)) :
  Sem Go.Proofs.Tryz.prog VL lvl [iI x,iI y,.ta (Zc a),.ta (Zc b),.ab idB 0] S (iB (Zcs a.edges es x y).isSome) (ZF S idR (.ar 1 (rI ((Zcs a.edges es x y).getD es)) true es.length 0)):=by
 have nB:idB.1≠lvl:=by omega
 have nR:idR.1≠lvl:=by omega
 refine Zb Zbb trivial ?_
 unfold Zcs
 rw[hab] at ha hes ⊢
 have self:=X2 sR
 by_cases h1:b.edges<=x
 ·rw[if_pos (.inl h1)]
  by_cases h2:x=y
  ·have e:=eq_true h2
   rw[if_pos h2,Option.getD_some,self]
   simp only[Jo,Zc,hab,h1,e,EVA,seval]
   try rfl
  ·have e:=eq_false h2
   rw[if_neg h2,Option.getD_none,self]
   simp only[Jo,Zc,hab,h1,e,EVA,seval]
   try rfl
 by_cases h3:b.edges<=y
 ·have h2:¬ x=y:=by omega
  have e:=eq_false h2
  rw[if_pos (.inr h3),if_neg h2,Option.getD_none,self]
  simp only[Jo,Zc,hab,h1,h3,e,EVA,seval]
  try rfl
 rw[if_neg (show ¬ (b.edges<=x\/b.edges<=y) by omega)]
 obtain⟨k,rfl⟩:=Int.eq_ofNat_of_zero_le hx.1
 have hk:k<es.length:=by omega
 have ga:=JL hk
 simp only[Int.toNat_natCast]
 by_cases h4:0<=g0 es k
 ·have h4n:¬ g0 es k<0:=by omega
  rw[if_pos (.inl h4)]
  by_cases h5:g0 es k=y
  ·have e:=eq_true h5
   rw[if_pos h5,Option.getD_some,self]
   simp only[Jo,Zc,hab,h1,h3,Jd nB,Jd nR,sB,sR,ga,hk,h4n,e,EVA,seval]
   try rfl
  ·have e:=eq_false h5
   rw[if_neg h5,Option.getD_none,self]
   simp only[Jo,Zc,hab,h1,h3,Jd nB,Jd nR,sB,sR,ga,hk,h4n,e,EVA,seval]
   try rfl
 have h4n:g0 es k<0:=by omega
 have c1:cut (rI es) 0 es.length=rI es:=Uu (by simp)
 simp only[Jo,Zc,hab,h1,h3,Jd nB,Jd nR,sB,sR,ga,hk,h4n,c1,List.length_map,EVA,seval,Zl,men]
 refine Za (Us es y (by omega)) ?_
 by_cases h6:y∈es
 ·have h5:¬ g0 es k=y:=by omega
  have e:=eq_false h5
  rw[if_pos (.inr h6),if_neg h5,Option.getD_none,self]
  simp only[h6,decide_true,Jd nB,Jd nR,sB,sR,ga,hk,e,EVA,seval]
  try rfl
 ·rw[if_neg (show ¬ (0<=g0 es k\/y∈es) from fun h=>h.elim h4 h6),Option.getD_some]
  have hne:idB≠idR:=fun g=>by rw[g,sR] at sB;cases sB
  have sp:=Zkb (y:=es) (j:=k) (v:=y) hk
  have ga2:(rI (es.set k y))[k]? = some [tv y]:=by
   have:=JL (l:=es.set k y) (i:=k) (by rw[List.length_set];exact hk)
   rw[Zf4 hk,if_pos rfl] at this
   exact this
  have sB2:ZF S idR (.ar 1 (rI (es.set k y)) true es.length 0) idB=some (.bx [.hd idR [] 0 es.length none es.length]):=by
   unfold ZF
   rw[if_neg hne];exact sB
  simp only[h6,decide_false,Jd nB,Jd nR,sB,sR,ga,hk,sp,V9 nR,Xq,sB2,ga2,EVA,seval]
  try rfl
theorem Zeh(a b:TBigraph)(es:List Int)(hb:small b)(hl:es.length<=1000)(hid:∀ j,j<es.length->g0 (Jr es j) j<0->idle b (WC es j:Nat))(lvl:Nat)(S:Sto)(id:Oid)(hR:id.1<lvl)(sR:S id=some (.ar 1 (rI es) true es.length 0)) :
  Sem Go.Proofs.Tryz.prog VN lvl [cB a,cB b,.hd id [] 0 es.length none es.length] S (.tu [.hd id [] 0 es.length none es.length,iB true]) (ZF S id (.ar 1 (rI (Zf3 es)) true es.length 0)):=by
 have hne:id.1≠lvl:=by omega
 refine Zb Zbd (by simp only[low,men,Zl];exact⟨hR,trivial,trivial⟩) ?_
 simp only[WM,Zc,EVA,seval]
 refine ZW (α:=Unit) es.length (fun k _=>⟨lvl,[(2,.hd id [] 0 es.length none es.length),(4,.ta (Zc b)),(11,iI es.length),(12,iI k)],[],ZF S id (.ar 1 (rI (Jr es k)) true es.length 0)⟩) (fun _ _=>True) () ⟨by simp only[Vi hne,EVA,seval],by (simp only[X2 sR,Jr,Zc,EVA,seval]) <;> rfl⟩ trivial ?_
 intro j _ hj _
 simp only[EVA,seval]
 refine Zp (fun hlt=>?_) (fun hge=>?_)
 ·have hja:j<es.length:=by omega
  have ga:=JL (l:=Jr es j) (i:=j) (by rw[Jl];exact hja)
  by_cases hn:0<=g0 (Jr es j) j
  ·simp only[Jd hne,Xq,ga,hja,hn,Vi hne,EVA,seval]
   exact⟨by rw[Zd];omega,Ze () hja (by rw[Zby (by omega)];rfl) trivial⟩
  ·have hn2:g0 (Jr es j) j<0:=by omega
   obtain⟨q1,q2,q3⟩:=ZaL hja hn2
   simp only[Jd hne,Xq,ga,hja,hn,EVA,seval]
   refine Ji (α:=Unit) (WC es j) (fun m _=>[(9,iI m)]) (fun _ _=>[]) (fun _ _=>True) () (by simp only[Vi hne,EVA,seval]) (by (simp only[EVA,seval]) <;> rfl) trivial ?_
   intro m _ hm _
   have c1:cut (rI (Jr es j)) 0 es.length=rI (Jr es j):=Uu (by rw[List.length_map,Jl])
   simp only[Jd hne,Xq,c1,Jl,List.length_map,EVA,seval,Zl,men]
   refine Za (Us (Jr es j) (m:Int) (by rw[Jl];omega)) ?_
   by_cases hk2:m<WC es j
   ·have hin:(m:Int)∈Jr es j:=q3 m hk2
    simp only[hin,decide_true,Vi hne,EVA,seval]
    exact⟨by rw[Zd];omega,Ze () hk2 rfl trivial⟩
   ·have hkv:m=WC es j:=by omega
    subst hkv
    have q:=Zhh b (WC es j:Nat) hb
    rw[ZK (hid j hja hn2)] at q
    simp only[Zc,List.map_cons,List.map_nil] at q
    have sp:=Zkb (y:=Jr es j) (j:=j) (v:=((WC es j:Nat):Int)) (by rw[Jl];exact hja)
    simp only[q1,decide_false,Zc,EVA,seval,Zl,men]
    refine Za q ?_
    simp only[Jd hne,V9 hne,Vj,Xq,ga,sp,hja,Vi hne,EVA,seval]
    exact⟨by rw[Zd];omega,Ze () hja (by rw[Zaf hn2];rfl) trivial⟩
 ·have:j=es.length:=by omega
  subst this
  rw[Zkk hne]
  simp only[EVA,seval]
  try rfl
end Go.Fd

/-
  TRANSLATIONS, THE PROGRAM: THE EDGES OF A TRANSLATION. Own work.
-/
namespace Go.Fd
set_option maxRecDepth 20000
theorem Zkl{l:List Int}{p:Int}{j:Nat}(h:p<j):mvP (l.take j) p=mvP l p:=by
 unfold mvP
 split
 ·rfl
 ·exact ZiF (by omega)
theorem ZmG{a b:TBigraph}{l:List Int}{n j m:Nat}(ho:Xh n l)(hj:j<n)(hm:g0 l j=(m:Int))(hp:(Jk a j).parent<j):Zav a b (l.take j) m↔(Jk a j).control=(Jk b m).control/\mvP l (Jk a j).parent=(Jk b m).parent:=by
 have hjl:j<l.length:=by rw[ho.1];exact hj
 have htl:(l.take j).length=j:=by rw[List.length_take];omega
 unfold Zav
 rw[htl,Int.toNat_natCast,Zkl hp]
 refine⟨fun h=>h.2,fun h=>⟨fun hmem=>?_,h⟩⟩
 obtain⟨i,hi,hie⟩:=List.getElem_of_mem hmem
 rw[htl] at hi
 rw[List.getElem_take] at hie
 have hd:=Zf2 ho
 have e1:g0 l j=l[j]:=by simp [hjl]
 exact List.pairwise_iff_getElem.1 hd i j (by omega) hjl hi (by rw[hie,<-hm,e1])
set_option maxHeartbeats 2000000 in
theorem Dr(sig:List TControl)(a b:TBigraph)(l:List Int)(hA:bigOK sig a)(hB:bigOK sig b)(hl:l.length<=4294967296)(lvl:Nat)(S:Sto) :
  Sem Go.Proofs.Tryz.prog J2 lvl [cB a,cB b,tI l] S (.tu [.ow 1 (rI ((trT a b l).getD [])) true,iB (trT a b l).isSome]) S:=by
 have sA:=hA.small
 have sB:=hB.small
 have q1:=Zc9 a.outer b.outer (by have:=sA.outer;omega)
 have q2:=XM a (by have:=sA.inner;omega)
 have q3:=XM b (by have:=sB.inner;omega)
 have q4:=Zc9 (inn a) (inn b) (by rw[Dp];have:=sA.inner;omega)
 have q5:=Zfo a.nodes.length l hl
 simp only[Zc,List.map_cons,List.map_nil] at q2 q3
 refine Zb Zcy (by simp [low,men,Zl]) ?_
 by_cases h1:a.roots=b.roots
 rotate_left
 ·have e:=eq_false h1
  rw[Dj fun h=>h1 h.1.1]
  simp only[XI,Zc,e,Option.isSome_none,Option.getD_none,EVA,seval,Zl,men]
  try rfl
 have e1:=eq_true h1
 simp only[XI,Zc,e1,List.length_map,EVA,seval,Zl,men]
 refine Za q1 ?_
 by_cases h2:a.outer=b.outer
 rotate_left
 ·rw[Zf h2,Dj fun h=>h2 h.1.2.2.2.2.1]
  simp only[Option.isSome_none,Option.getD_none,EVA,seval,Zl,men]
  try rfl
 rw[ZK h2]
 simp only[EVA,seval,Zl,men]
 refine Za q2 ?_
 simp only[EVA,seval,Zl,men]
 refine Za q3 ?_
 simp only[EVA,seval,Zl,men]
 refine Za q4 ?_
 by_cases h3:inn a=inn b
 rotate_left
 ·rw[Zf h3,Dj fun h=>h3 h.1.2.2.2.2.2]
  simp only[Option.isSome_none,Option.getD_none,EVA,seval,Zl,men]
  try rfl
 rw[ZK h3]
 by_cases h4:a.edges=b.edges
 rotate_left
 ·have e:=eq_false h4
  rw[Dj fun h=>h4 h.1.2.1]
  simp only[e,Option.isSome_none,Option.getD_none,EVA,seval,Zl,men]
  try rfl
 have e4:=eq_true h4
 by_cases h5:a.sites.length=b.sites.length
 rotate_left
 ·have e:((a.sites.length:Int)=b.sites.length)=False:=eq_false (by omega)
  rw[Dj fun h=>h5 h.1.2.2.2.1]
  simp only[e4,e,List.length_map,Option.isSome_none,Option.getD_none,EVA,seval,Zl,men]
  try rfl
 have e5:((a.sites.length:Int)=b.sites.length)=True:=eq_true (by omega)
 by_cases h6:a.nodes.length=b.nodes.length
 rotate_left
 ·have e:((a.nodes.length:Int)=b.nodes.length)=False:=eq_false (by omega)
  rw[Dj fun h=>h6 h.1.2.2.1]
  simp only[e4,e5,e,List.length_map,Option.isSome_none,Option.getD_none,EVA,seval,Zl,men]
  try rfl
 have e6:((a.nodes.length:Int)=b.nodes.length)=True:=eq_true (by omega)
 have hal:Vl a b:=⟨h1,h4,h6,h5,h2,h3⟩
 simp only[e4,e5,e6,List.length_map,EVA,seval,Zl,men]
 refine Za q5 ?_
 by_cases ho:Xh a.nodes.length l
 rotate_left
 ·rw[Zf ho,Dj fun h=>ho h.2]
  simp only[Option.isSome_none,Option.getD_none,EVA,seval,Zl,men]
  try rfl
 rw[ZK ho,Zda hal ho]
 have he:=hA.edges
 have hll:l.length=a.nodes.length:=ho.1
 have nA:=sA.nodes
 have nS:=sA.sites
 have nI:=sA.inner
 have q6:=Zho a.edges.toNat (by omega)
 rw[show ((a.edges.toNat:Nat):Int)=a.edges by omega] at q6
 simp only[EVA,seval,Zl,men]
 refine Za q6 ?_
 simp only[List.length_map,List.length_replicate,EVA,seval,Zl,men]
 obtain⟨N,hN⟩:∃ N,N=a.edges.toNat:=⟨_,rfl⟩
 rw[<-hN]
 refine Ji (α:=Unit) a.nodes.length (fun j _=>[(83,iI j)]) (fun j _=>[(2464,.ar 1 (rI ((edJ a b l j).getD [])) true N 0)]) (fun j _=>∃ es,edJ a b l j=some es) () (by simp only[EVA,seval,Zl,men]) (by (simp only[edJ,Option.getD_some,hN,EVA,seval,Zl,men]) <;> rfl) ⟨_,rfl⟩ ?_
 intro j _ hj ⟨es,hz⟩
 rw[hz,Option.getD_some]
 have hesl:=Uv hz
 rw[<-hN] at hesl
 simp only[List.length_map,EVA,seval,Zl,men]
 refine Zp (fun hlt=>?_) (fun hge=>?_)
 ·have hja:j<a.nodes.length:=by omega
  have hjl:j<l.length:=by omega
  have hgm:=Zcd ho (J5 hjl)
  obtain⟨m,hm⟩:=Int.eq_ofNat_of_zero_le hgm.1
  have hmb:m<b.nodes.length:=by omega
  have gx:=JL hjl
  have hpar:=Zag hA hja
  have ga:=Wd (c:=ZR) hja
  have gb:=Wd (c:=ZR) hmb
  have hfi:=ZmG (a:=a) (b:=b) ho hja hm hpar
  have hno:¬ Zav a b (l.take j) m->(Zfv a b l).map Zf3=none:=fun h=>by
   rw[<-Zda hal ho]
   exact Zef (ZkZ hz (by rw[hm];exact h)) (by omega)
  rw[hm] at gx
  rw[ZQ hja,ZQ hmb] at hfi
  rw[ZQ hja] at hpar
  have qp:=Zah a.nodes[j].parent l (by omega)
  by_cases hc:a.nodes[j].control=b.nodes[m].control
  rotate_left
  ·have e:=eq_false hc
   rw[hno fun h=>hc (hfi.1 h).1]
   simp only[gx,ga,gb,ZR,hjl,hja,hmb,e,List.length_map,Option.isSome_none,Option.getD_none,EVA,seval,Zl,men]
   try rfl
  have ec:=eq_true hc
  simp only[gx,ga,gb,ZR,hjl,hja,hmb,ec,List.length_map,EVA,seval,Zl,men]
  refine Za qp ?_
  by_cases hq:mvP l a.nodes[j].parent=b.nodes[m].parent
  rotate_left
  ·have e:=eq_false hq
   rw[hno fun h=>hq (hfi.1 h).2]
   simp only[e,Option.isSome_none,Option.getD_none,EVA,seval,Zl,men]
   try rfl
  have eq:=eq_true hq
  have hf:=hfi.2 ⟨hc,hq⟩
  have hy:=ZiR hz (by rw[hm];exact hf)
  rw[hm,Int.toNat_natCast] at hy
  have hll2:=Uw hA hB hja hmb (by rw[ZQ hja,ZQ hmb];exact hc)
  have hle:=Zeg hA hja
  have hr1:=X8 hA hja
  have hr2:=X8 hB hmb
  rw[ZQ hja,ZQ hmb] at hy hll2
  rw[ZQ hja] at hr1 hle
  rw[ZQ hmb] at hr2
  simp only[eq,List.length_map,EVA,seval,Zl,men]
  refine Ji (α:=Unit) a.nodes[j].links.length (fun k _=>[(113,iI k)]) (fun k _=>[(2464,.ar 1 (rI (Ux a.edges es a.nodes[j].links b.nodes[m].links k)) true N 0)]) (fun k _=>∃ z,Qk a.edges es a.nodes[j].links b.nodes[m].links k=some z) () (by simp only[EVA,seval,Zl,men]) (by (simp only[Ux,EVA,seval,Zl,men]) <;> rfl) ⟨es,rfl⟩ ?_
  intro k _ hk ⟨z,hzk⟩
  rw[JR hzk]
  simp only[List.length_map,EVA,seval,Zl,men]
  refine Zp (fun hlt=>?_) (fun hge=>?_)
  ·have hka:k<a.nodes[j].links.length:=by omega
   have hkb:k<b.nodes[m].links.length:=by omega
   have gk:=JL hka
   have gk2:=JL hkb
   have hzl:z.length=N:=by rw[Yr hzk,hesl]
   have q:=fun S' s1 s2=>Zai a b z (g0 a.nodes[j].links k) (g0 b.nodes[m].links k) he h4 (by rw[hzl,hN]) (hr1 _ (J5 hka)) (hr2 _ (J5 hkb)) (lvl+1) S' (lvl,256) (lvl,2464) (Nat.lt_succ_self _) (Nat.lt_succ_self _) s1 s2
   rw[hzl] at q
   have hsucc:=ZaM hzk
   simp only[gk,gk2,hka,hkb,List.length_map,EVA,seval,Zl,men]
   refine Zd4 2464 _ (q _ ?_ ?_) ?_
   ·rw[Yg];rfl
   ·rw[Yg];rfl
   cases ht:Zcs a.edges z (g0 a.nodes[j].links k) (g0 b.nodes[m].links k) with
   | none =>
    rw[ht] at hsucc
    have hbad:(Zfv a b l).map Zf3=none:=by
     rw[<-Zda hal ho]
     refine Zef (j:=j+1) ?_ (by omega)
     rw[hy]
     exact UW hsucc (by omega)
    rw[hbad]
    simp only[Option.isSome_none,Option.getD_none,EVA,seval,Zl,men]
    try rfl
   | some w =>
    rw[ht] at hsucc
    simp only[Option.isSome_some,Option.getD_some,EVA,seval,Zl,men]
    exact⟨by rw[Zd];omega,Ze () hka (by rw[JR hsucc];rfl) ⟨w,hsucc⟩⟩
  ·have hkn:k=a.nodes[j].links.length:=by omega
   subst hkn
   have hw:edJ a b l (j+1)=some z:=by rw[hy];exact hzk
   exact⟨by rw[Zd];omega,Ze () hja (by rw[hw];rfl) ⟨z,hw⟩⟩
 ·have hjn:j=a.nodes.length:=by omega
  subst hjn
  have hpre:Zfv a b l=Zew a b l es:=by unfold Zfv;rw[hz];rfl
  rw[hpre]
  refine Ji (α:=Unit) a.sites.length (fun j _=>[(132,iI j)]) (fun _ _=>[]) (fun j _=>∀ i,i<j->mvP l (g0 a.sites i)=g0 b.sites i) () (by simp only[EVA,seval,Zl,men]) (by (simp only[EVA,seval,Zl,men]) <;> rfl) (fun i hi=>absurd hi (Nat.not_lt_zero i)) ?_
  intro j _ hj hS
  simp only[List.length_map,EVA,seval,Zl,men]
  refine Zp (fun hlt=>?_) (fun hge=>?_)
  ·have hja:j<a.sites.length:=by omega
   have hjb:j<b.sites.length:=by omega
   have gx:=JL hja
   have gy:=JL hjb
   have qp:=Zah (g0 a.sites j) l (by have:=Zf7 hA _ (J5 hja);omega)
   simp only[gx,gy,hja,hjb,List.length_map,EVA,seval,Zl,men]
   refine Za qp ?_
   by_cases h:mvP l (g0 a.sites j)=g0 b.sites j
   ·have e:=eq_true h
    simp only[gy,e,EVA,seval,Zl,men]
    exact⟨by rw[Zd];omega,Ze () hja rfl (fun i hi=>by
     by_cases e:i=j
     ·subst e;exact h
     ·exact hS i (by omega))⟩
   ·have e:=eq_false h
    have hne:¬ a.sites.map (mvP l)=b.sites:=fun g=>h (by
     rw[<-g]
     show _=(a.sites.map (mvP l)).getD j 0
     simp [hja])
    unfold Zew
    rw[if_neg hne]
    simp only[gy,e,Option.isSome_none,Option.getD_none,Option.map_none,EVA,seval,Zl,men]
    try rfl
  have hj1:j=a.sites.length:=by omega
  subst hj1
  have heq:a.sites.map (mvP l)=b.sites:=List.ext_getElem (by rw[List.length_map];exact h5) fun i h1 h2=>by
   rw[List.length_map] at h1
   have:=hS i h1
   rw[List.getElem_map]
   simpa [h1,h2] using this
  have hend:Zew a b l es=QN a.edges es (lnk a) (lnk b):=by unfold Zew;rw[if_pos heq]
  rw[hend] at hpre ⊢
  have hla:(lnk a).length=a.inner.length:=by simp [lnk]
  have hlb:(lnk b).length=b.inner.length:=by simp [lnk]
  have hil:=Zch hal
  refine Ji (α:=Unit) a.inner.length (fun k _=>[(150,iI k)]) (fun k _=>[(2464,.ar 1 (rI (Ux a.edges es (lnk a) (lnk b) k)) true N 0)]) (fun k _=>∃ z,Qk a.edges es (lnk a) (lnk b) k=some z) () (by simp only[EVA,seval,Zl,men]) (by (simp only[Ux,EVA,seval,Zl,men]) <;> rfl) ⟨es,rfl⟩ ?_
  intro k _ hk ⟨z,hzk⟩
  rw[JR hzk]
  have hzl:z.length=N:=by rw[Yr hzk,hesl]
  simp only[List.length_map,EVA,seval,Zl,men]
  refine Zp (fun hlt=>?_) (fun hge=>?_)
  ·have hka:k<a.inner.length:=by omega
   have hkb:k<b.inner.length:=by omega
   have gk:=Wd (c:=Jj) hka
   have gk2:=Wd (c:=Jj) hkb
   have e1:g0 (lnk a) k=a.inner[k].link:=by simp [lnk,hka]
   have e2:g0 (lnk b) k=b.inner[k].link:=by simp [lnk,hkb]
   have q:=fun S' s1 s2=>Zai a b z (g0 (lnk a) k) (g0 (lnk b) k) he h4 (by rw[hzl,hN]) (ZaP hA _ (J5 (by omega))) (ZaP hB _ (J5 (by omega))) (lvl+1) S' (lvl,256) (lvl,2464) (Nat.lt_succ_self _) (Nat.lt_succ_self _) s1 s2
   have hsucc:=ZaM hzk
   rw[e1,e2] at q hsucc
   rw[hzl] at q
   simp only[gk,gk2,Jj,hka,hkb,List.length_map,EVA,seval,Zl,men]
   refine Zd4 2464 _ (q _ ?_ ?_) ?_
   ·rw[Yg];rfl
   ·rw[Yg];rfl
   cases ht:Zcs a.edges z a.inner[k].link b.inner[k].link with
   | none =>
    rw[ht] at hsucc
    have hbad:QN a.edges es (lnk a) (lnk b)=none:=UW hsucc (by omega)
    rw[hbad]
    simp only[Option.isSome_none,Option.getD_none,Option.map_none,EVA,seval,Zl,men]
    try rfl
   | some w =>
    rw[ht] at hsucc
    simp only[Option.isSome_some,Option.getD_some,EVA,seval,Zl,men]
    exact⟨by rw[Zd];omega,Ze () hka (by rw[JR hsucc];rfl) ⟨w,hsucc⟩⟩
  ·have hkn:k=a.inner.length:=by omega
   subst hkn
   have hfz:QN a.edges es (lnk a) (lnk b)=some z:=by unfold QN;rw[hla];exact hzk
   rw[hfz] at hpre ⊢
   have pok:pairOK sig a b:=⟨hA,hB,hal⟩
   have q7:=fun S' s1=>Zeh a b z sB (by omega) (fun j hj hn=>ZiM pok ho hpre hj hn) (lvl+1) S' (lvl,2464) (Nat.lt_succ_self _) s1
   simp only[cB,Zc,List.map_cons,List.map_nil] at q7
   rw[hzl] at q7
   simp only[Zc,EVA,seval,Zl,men]
   refine Zd4 2464 _ (q7 _ ?_) ?_
   ·rw[Yg];rfl
   simp only[Option.isSome_some,Option.getD_some,Option.map_some,List.length_map,EVA,seval,Zl,men]
   show N=(Jr z z.length).length
   rw[Jl,hzl]
end Go.Fd

/-
  TRANSLATIONS, THE PROGRAM: ALL THAT BEGIN WITH SOME. Own work.
-/
namespace Go.Fd
set_option maxRecDepth 20000
section
variable {C:Zg} {lvl:Nat} {env:List (Nat×IV)} {loc:List (Nat×Ob)} {out:Sto} {st:St} {Q:Ex->St->Prop} {d:Option Nat} {K:St->Prop}
def ZpR(ce:List (Nat×IV))(co:List (Nat×Ob))(o:Sto)(s:St):St:=⟨s.lvl,pts ce s.env,ZkL co s.loc,o⟩
theorem Zk0{ce:List (Nat×IV)}{co:List (Nat×Ob)}{o:Sto}:ZpR ce co o ⟨lvl,env,loc,out⟩=⟨lvl,pts ce env,ZkL co loc,o⟩:=(rfl)
theorem ZmH{α:Type}{ks js:List Nat}{c:C2}(N:Nat)(ce:Nat->α->List (Nat×IV))(co:Nat->α->List (Nat×Ob))(oo:Nat->α->Sto)(A:Nat->α->Prop)(x0:α)
  (h1:clean ks js st) (h0:fgt ks js st=ZpR (ce 0 x0) (co 0 x0) (oo 0 x0) (fgt ks js st)) (hA:A 0 x0)
  (hs:∀ k x,k<=N->A k x->wp C c (ZpR (ce k x) (co k x) (oo k x) (fgt ks js st)) (DJ ks js (Zp5 N (fun k x=>ZpR (ce k x) (co k x) (oo k x) (fgt ks js st)) A (N-k)) Q)):wp C (.lp ks js c) st Q :=
 ZW N (fun k x=>ZpR (ce k x) (co k x) (oo k x) (fgt ks js st)) A x0 ⟨h1,h0⟩ hA hs
theorem ZiV{β:Type}{L0:Nat}{D:β->List (Nat×Ob)}{acc:β}{base:Sto}{fid:FuncId}{imp:Bool}{args:List IV}(acc':β)(r:IV)(hne:L0≠lvl)
  (h:∀ B,C fid (lvl+1) args (Zu L0 (D acc) B) r (Zu L0 (D acc') B))
  (hk:freshK (keyOf d) loc (impv imp lvl (keyOf d) 0 r).2.length/\K ⟨lvl,ptd d (impv imp lvl (keyOf d) 0 r).1 env,addO (keyOf d) (impv imp lvl (keyOf d) 0 r).2 loc,Zu L0 (D acc') base⟩) :
  kcy C fid imp lvl env loc (Zu L0 (D acc) base) d K args :=
 Vv loc (Zu L0 (D acc') base) (fun i hi=>by rw[Zfm (fun e=>hne (by omega)),Zfm (fun e=>hne (by omega))]) (by
  rw[Zc4 (fun e=>hne e.symm),Zc4 (fun e=>hne e.symm)]
  exact h _) hk
end
theorem ZiW(l:List Int)(hl:l.length<=4294967296)(lvl:Nat)(S:Sto):Sem Go.Proofs.Tryz.prog JW lvl [tI l] S (.cs (rI l)) S:=by
 refine Zb Up trivial ?_
 have c1:cut (rI l) 0 (l.length-0)=rI l:=by rw[Nat.sub_zero];exact Uu (by simp)
 simp only[Qj,List.length_map,EVA,seval,Zl,men]
 exact⟨fun h=>h.elim,by omega,by rw[c1]⟩
noncomputable def fT(a b:TBigraph)(r:Nat)(ns:List Int)(m:Int):List (List Int):=@ite _ (Zav a b ns m) (Classical.propDecidable _) (Zbf a b r (ns++[m])) []
theorem ZiX{a b:TBigraph}{r:Nat}{ns:List Int}:Zbf a b (r+1) ns=jnL (fT a b r ns) b.nodes.length:=by
 rw[Zbf]
 rfl
theorem ZtR{a b:TBigraph}{r:Nat}{ns:List Int}{m:Int}(h:¬ Zav a b ns m):fT a b r ns m=[]:=if_neg h
theorem ZpS{a b:TBigraph}{r:Nat}{ns:List Int}{m:Int}(h:Zav a b ns m):fT a b r ns m=Zbf a b r (ns++[m]):=if_pos h
theorem ZmI{β:Type}{m:Bool}{x:List β}:(tkB m x).length<=x.length:=by
 cases m
 ·show (x.take 1).length<=_
  rw[List.length_take];omega
 ·exact Nat.le_refl _
set_option maxHeartbeats 1000000 in
theorem WO(sig:List TControl)(a b:TBigraph)(hA:bigOK sig a)(hB:bigOK sig b)(more:Bool)(yid:FuncId)(L0 kb:Nat)(D:List (List Int)->List (Nat×Ob))
  (hy:∀(base:Sto) (acc:List (List Int)) (x:List Int) (lvl:Nat),L0<lvl->x.length=a.nodes.length->acc.length<=100000->Sem Go.Proofs.Tryz.prog yid lvl [tI x,.ab (L0,kb) 0] (Zu L0 (D acc) base) (iB more) (Zu L0 (D (acc++[x])) base)) :
  ∀(r:Nat) (ns:List Int) (acc:List (List Int)) (base:Sto) (lvl:Nat),ns.length+r=a.nodes.length->L0<lvl->(more=false->acc=[])->acc.length+(Zbf a b r ns).length<=100000 ->
   Sem Go.Proofs.Tryz.prog JE lvl [cB a,cB b,tI ns,.fn yid [.ab (L0,kb) 0]] (Zu L0 (D acc) base) (iB (more || (Zbf a b r ns).isEmpty)) (Zu L0 (D (acc++tkB more (Zbf a b r ns))) base)
 | 0,ns,acc,base,lvl,hr,hL,hm,hlen=>by
  have nA:=hA.small.nodes
  have hk:ns.length=a.nodes.length:=by omega
  have hne:L0≠lvl:=by omega
  have q:=Dr sig a b ns hA hB (by omega)
  simp only[cB,Zc,List.map_cons,List.map_nil] at q
  refine Zb Xe trivial ?_
  rw[Zbf] at hlen ⊢
  simp only[Vf,Zc,hk,List.length_map,EVA,seval,Zl,men]
  refine Za q ?_
  by_cases hs:(trT a b ns).isSome=true
  ·rw[if_pos hs] at hlen ⊢
   rw[hs]
   simp only[EVA,seval,Zl,men]
   refine ZiV (acc++[ns]) (iB more) hne (fun B=>hy B acc ns (lvl+1) (by omega) hk (by simp at hlen;omega)) ?_
   have e1:(more || [ns].isEmpty)=more:=by cases more <;> rfl
   have e2:tkB more [ns]=[ns]:=by cases more <;> rfl
   rw[e1,e2]
   simp only[EVA,seval,Zl,men]
   try rfl
  ·have hs2:(trT a b ns).isSome=false:=by simpa using hs
   rw[if_neg hs,hs2,Zed,List.append_nil]
   have e1:(more || ([]:List (List Int)).isEmpty)=true:=by cases more <;> rfl
   rw[e1]
   simp only[EVA,seval,Zl,men]
   try rfl
 | r+1,ns,acc,base,lvl,hr,hL,hm,hlen=>by
  have nA:=hA.small.nodes
  have nB:=hB.small.nodes
  have hk:ns.length<a.nodes.length:=by omega
  have hne:L0≠lvl:=by omega
  have hkn:((ns.length:Int)=a.nodes.length)=False:=eq_false (by omega)
  have hfi0:(False->kb∈([]:List Nat))=True:=eq_true fun h=>h.elim
  obtain⟨f,hf⟩:∃ f,f=fT a b r ns:=⟨_,rfl⟩
  have hX:Zbf a b (r+1) ns=jnL f b.nodes.length:=by rw[hf];exact ZiX
  rw[hX] at hlen ⊢
  have ga:=Wd (c:=ZR) hk
  have hpar:=Zag hA hk
  rw[ZQ hk] at hpar
  obtain⟨P,hP⟩:∃ P,P=mvP ns a.nodes[ns.length].parent:=⟨_,rfl⟩
  refine Zb Xe trivial ?_
  simp only[Vf,Zc,hkn,ga,hk,ZR,List.length_map,EVA,seval,Zl,men]
  refine Zp (fun hp0=>?_) (fun hp0=>?_)
  case' refine_1 =>
   obtain⟨p,hp⟩:=Int.eq_ofNat_of_zero_le hp0
   have hpl:p<ns.length:=by omega
   have gp:=JL hpl
   have hPp:g0 ns p=P:=by
    rw[hP,hp]
    unfold mvP
    rw[if_neg (by omega),Int.toNat_natCast]
   rw[hp]
   simp only[gp,hPp,Int.toNat_natCast,EVA,seval,Zl,men]
  case' refine_2 =>
   have hPp:a.nodes[ns.length].parent=P:=by
    rw[hP]
    unfold mvP
    rw[if_pos (by omega)]
   rw[hPp]
  all_goals
   refine ZmH (α:=Unit) b.nodes.length (fun j _=>[(48,iI j)]) (fun _ _=>[]) (fun j _=>Zu L0 (D (acc++tkB more (jnL f j))) base) (fun j _=>more=false->jnL f j=[]) () (by simp only[hne,hfi0,EVA,seval,Zl,men]) (by (simp only[Zk0,Zg1,Zed,List.append_nil,EVA,seval,Zl,men]) <;> rfl) (fun _=>rfl) ?_
   intro j _ hj hA2
   simp only[Zk0,List.length_map,EVA,seval,Zl,men]
   refine Zp (fun hlt=>?_) (fun hge=>?_)
   ·have hja:j<b.nodes.length:=by omega
    have gb:=Wd (c:=ZR) hja
    have hskip:¬ Zav a b ns j->jnL f (j+1)=jnL f j:=fun h=>Zf8 (by rw[hf];exact ZtR h)
    have hfi:Zav a b ns j↔(j:Int) ∉ ns/\a.nodes[ns.length].control=b.nodes[j].control/\P=b.nodes[j].parent:=by
     unfold Zav
     rw[Int.toNat_natCast,ZQ hk,ZQ hja,hP]
    by_cases hc:b.nodes[j].control=a.nodes[ns.length].control
    rotate_left
    ·have e:=eq_false hc
     have hn:=hskip fun h=>hc (hfi.1 h).2.1.symm
     simp only[gb,ga,ZR,hja,hk,e,hne,hfi0,List.length_map,EVA,seval,Zl,men]
     exact⟨by rw[Zd];omega,Ze () hja (by rw[hn];rfl) (fun h=>by rw[hn];exact hA2 h)⟩
    have ec:=eq_true hc
    by_cases hq:b.nodes[j].parent=P
    rotate_left
    ·have e:=eq_false hq
     have hn:=hskip fun h=>hq (hfi.1 h).2.2.symm
     simp only[gb,ga,ZR,hja,hk,ec,e,hne,hfi0,List.length_map,EVA,seval,Zl,men]
     exact⟨by rw[Zd];omega,Ze () hja (by rw[hn];rfl) (fun h=>by rw[hn];exact hA2 h)⟩
    have eq:=eq_true hq
    simp only[gb,ga,ZR,hja,hk,ec,eq,hne,hfi0,List.length_map,EVA,seval,Zl,men]
    refine Za (Us ns j (by omega)) ?_
    by_cases hmem:(j:Int)∈ns
    ·have hn:=hskip fun h=>(hfi.1 h).1 hmem
     simp only[hmem,decide_true,hne,hfi0,EVA,seval,Zl,men]
     exact⟨by rw[Zd];omega,Ze () hja (by rw[hn];rfl) (fun h=>by rw[hn];exact hA2 h)⟩
    have hfit:=hfi.2 ⟨hmem,hc.symm,hq.symm⟩
    have hfj:f j=Zbf a b r (ns++[(j:Int)]):=by rw[hf];exact ZpS hfit
    obtain⟨X,hXj⟩:=Zec (f:=f) (show j+1<=b.nodes.length by omega)
    have hsz:(jnL f j).length+(f j).length<=(jnL f b.nodes.length).length:=by
     rw[hXj,Xz,List.length_append,List.length_append];omega
    have htk:=ZmI (m:=more) (x:=jnL f j)
    have ih:=fun B=>WO sig a b hA hB more yid L0 kb D hy r (ns++[(j:Int)]) (acc++tkB more (jnL f j)) B (lvl+1) (by rw[List.length_append,List.length_singleton];omega) (by omega) (fun h=>by rw[hm h,hA2 h,Zed];rfl) (by rw[<-hfj,List.length_append];omega)
    rw[<-hfj] at ih
    simp only[cB,Zc,List.map_cons,List.map_nil] at ih
    have ea:rI ns++[[tv (j:Int)]]=rI (ns++[(j:Int)]):=by rw[ZkP];rfl
    have hacc:acc++tkB more (jnL f j)++tkB more (f j)=acc++tkB more (jnL f (j+1)):=by rw[Xz,ZmA hA2,List.append_assoc]
    rw[hacc] at ih
    simp only[hmem,decide_false,hne,hfi0,EVA,seval,Zl,men]
    refine Za (ZiW ns (by omega)) ?_
    simp only[Zj3,ea,List.length_map,EVA,seval,Zl,men]
    refine⟨by omega,ZiV (acc++tkB more (jnL f (j+1))) (iB (more || (f j).isEmpty)) hne (fun B=>ih B) ?_⟩
    cases hb:more || (f j).isEmpty
    ·have hmf:more=false:=by
      cases hm2:more
      ·rfl
      ·rw[hm2] at hb;simp at hb
     have hne2:f j≠[]:=fun h=>by rw[h] at hb;simp at hb
     obtain⟨t1,t2⟩:=Zj9 hja (hA2 hmf) hne2
     have t3:jnL f (j+1)=f j:=by rw[Xz,hA2 hmf,List.nil_append]
     rw[hmf,t1,t2,t3]
     simp only[Bool.or_false,EVA,seval,Zl,men]
     try rfl
    ·simp only[hne,hfi0,EVA,seval,Zl,men]
     exact⟨by rw[Zd];omega,Ze () hja rfl (fun h=>by
      rw[Xz,hA2 h,List.nil_append]
      rw[h] at hb
      simpa using hb)⟩
   ·have hjn:j=b.nodes.length:=by omega
    subst hjn
    have e:(more || (jnL f b.nodes.length).isEmpty)=true:=by
     cases hmm:more
     ·rw[hA2 hmm];rfl
     ·rfl
    rw[e]
    first | rfl | exact⟨rfl,rfl⟩
end Go.Fd

/-
  TRANSLATIONS, THE PROGRAM: THE FIRST ONE. Own work.
-/
namespace Go.Fd
set_option maxRecDepth 20000
theorem ZmJ:∀ n,n<=8->ZpK n<=40320:=by decide
def Zkm(acc:List (List Int)):IV:=match acc.getLast? with
 | none=>.cs []
 | some x=>tI x
def Zhx(kb:Nat)(acc:List (List Int)):List (Nat×Ob):=[(kb,.bx [Zkm acc])]
theorem Zkn{L0 kb:Nat}{acc:List (List Int)}{base:Sto}{o:Ob}:ZF (Zu L0 (Zhx kb acc) base) (L0,kb) o=Zu L0 [(kb,o)] base:=by
 rw[<-Q4]
 simp [Zhx,ptO]
theorem ZmK{L0 kb:Nat}{acc:List (List Int)}{base:Sto}:Zu L0 (Zhx kb acc) base (L0,kb)=some (.bx [Zkm acc]):=by
 rw[Zka]
 simp [Zhx,lkO]
theorem W1(L0 kb:Nat)(base:Sto)(acc:List (List Int))(x:List Int)(lvl:Nat)(hL:L0<lvl)(hx:x.length<=100):Sem Go.Proofs.Tryz.prog Z8 lvl [tI x,.ab (L0,kb) 0] (Zu L0 (Zhx kb acc) base) (iB false) (Zu L0 (Zhx kb (acc++[x])) base):=by
 have hne:L0≠lvl:=by omega
 have e:Zhx kb (acc++[x])=[(kb,.bx [tI x])]:=by
  unfold Zhx Zkm
  rw[List.getLast?_concat]
 rw[e]
 have hS:=ZmK (L0:=L0) (kb:=kb) (acc:=acc) (base:=base)
 refine Zb XL trivial ?_
 simp only[YZ,EVA,seval,Zl,men]
 refine Za (Zcc x (by omega)) ?_
 have ho:((L0,kb):Oid).1≠lvl:=hne
 simp only[Jd ho,hS,V9 ho,Zkn,List.length_cons,List.length_nil,EVA,seval]
 try rfl
theorem Zko{a b:TBigraph}(h:a.nodes.length=b.nodes.length)(h8:a.nodes.length<=8):(Zf9 a b).length<=40320 :=
 Nat.le_trans (ZiH (by simp;omega) List.nodup_nil (fun x hx=>by simp at hx)) (ZmJ _ h8)
theorem U8(sig:List TControl)(a b:TBigraph)(hA:bigOK sig a)(hB:bigOK sig b)(lvl:Nat)(S:Sto):Sem Go.Proofs.Tryz.prog JI lvl [cB a,cB b] S (.tu [tI ((Zf9 a b).headD []),iB (!(Zf9 a b).isEmpty)]) S:=by
 have nA:=hA.small.nodes
 refine Zb Wv (by simp [low,men,Zl]) ?_
 by_cases hn:a.nodes.length=b.nodes.length
 rotate_left
 ·have e:((a.nodes.length:Int)=b.nodes.length)=False:=eq_false (by omega)
  rw[show Zf9 a b=[] from ZaQ fun h=>hn h.2.2.1]
  simp only[JX,Zc,e,List.length_map,List.headD_nil,List.isEmpty_nil,EVA,seval]
  try rfl
 have e:((a.nodes.length:Int)=b.nodes.length)=True:=eq_true (by omega)
 have q:=WO sig a b hA hB false Z8 lvl 192 (Zhx 192) (fun base acc x l h1 h2 _=>W1 lvl 192 base acc x l h1 (by omega)) a.nodes.length [] [] S (lvl+1) (by simp) (Nat.lt_succ_self _) (fun _=>rfl) (by have:=Zko hn nA;unfold Zf9 at this;simp;omega)
 rw[show Zbf a b a.nodes.length []=Zf9 a b from rfl,List.nil_append] at q
 simp only[cB,Zc,List.map_cons,List.map_nil] at q
 simp only[JX,Zc,e,List.length_map,EVA,seval]
 refine Vv (Zhx 192 (tkB false (Zf9 a b))) S (fun _ _=>rfl) q ?_
 cases h:Zf9 a b with
 | nil =>
  rw[Zed]
  simp only[Zhx,Zkm,List.getLast?_nil,List.isEmpty_nil,List.headD_nil,Bool.or_true,EVA,seval]
  try rfl
 | cons x r =>
  have e1:tkB false (x::r)=[x]:=rfl
  have e2:Zhx 192 [x]=[(192,.bx [tI x])]:=rfl
  rw[e1,e2]
  simp only[List.isEmpty_cons,List.headD_cons,Bool.or_false,EVA,seval]
  try rfl
theorem ZaR(sig:List TControl)(a b:TBigraph)(hA:bigOK sig a)(hB:bigOK sig b)(lvl:Nat)(S:Sto):Sem Go.Proofs.Tryz.prog Ye lvl [cB a,cB b] S (iB (!(Zf9 a b).isEmpty)) S:=by
 have q:=U8 sig a b hA hB
 simp only[cB,Zc,List.map_cons,List.map_nil] at q
 refine Zb U5 trivial ?_
 simp only[QG,Zc,EVA,seval,Zl,men]
 refine Za q ?_
 simp only[EVA,seval]
 try rfl
theorem ZaS(sig:List TControl)(a b:TBigraph)(hn:sig.length<=4294967296)(hbs:∀ y∈sig,ZA 4294967296 y)(hba:Zv 4294967296 a)(hbb:Zv 4294967296 b)(fa:ZG a)(fb:ZG b)(lvl:Nat)(S:Sto):Sem Go.Proofs.Tryz.prog Yn lvl [.tr (.sl (sig.map Zi)),cB a,cB b] S (iB (dc (bigOK sig a/\bigOK sig b))) S:=by
 have q1:=Xy sig a hn hbs hba
 have q2:=Xy sig b hn hbs hbb
 simp only[Zc,List.map_cons,List.map_nil] at q1 q2
 refine Zb ZdO trivial ?_
 simp only[DQ,Zc,EVA,seval,Zl,men]
 refine Za q1 ?_
 by_cases h1:bigOK sig a
 rotate_left
 ·rw[Zf h1,Zf fun h:bigOK sig a/\bigOK sig b=>h1 h.1]
  simp only[EVA,seval]
  try rfl
 rw[ZK h1]
 simp only[EVA,seval,Zl,men]
 refine Za q2 ?_
 rw[JY (show bigOK sig a/\bigOK sig b↔bigOK sig b from ⟨fun h=>h.2,fun h=>⟨h1,h⟩⟩)]
 simp only[EVA,seval]
 try rfl
end Go.Fd

/-
  EdgesOfTranslation, IsTranslation, FindTranslation, AreIsomorphic: BOTH SIDES. Own work.
-/
namespace Go.Fd
set_option maxRecDepth 20000
def Zbg(sig:List TControl)(a b:TBigraph):Prop:=bigOK sig a/\bigOK sig b
open Classical in
noncomputable def Zj(sig:List TControl)(a b:TBigraph)(l:List Int):List Int:=if Zbg sig a b then (trT a b l).getD [] else []
open Classical in
noncomputable def JH(sig:List TControl)(a b:TBigraph)(l:List Int):Bool:=if Zbg sig a b then (trT a b l).isSome else false
theorem Xi(sig:List TControl)(a b:TBigraph)(l:List Int)(hn:sig.length<=4294967296)(hbs:∀ y∈sig,ZA 4294967296 y)(hba:Zv 4294967296 a)(hbb:Zv 4294967296 b)(hl:l.length<=4294967296)(fa:ZG a)(fb:ZG b)(lvl:Nat)(S:Sto):Sem Go.Proofs.Tryz.prog Jy lvl [.tr (.sl (sig.map Zi)),.ag ((Zc a).map .tr),.ag ((Zc b).map .tr),.tr (.sl (rI l))] S (.tu [.ow 1 (rI (Zj sig a b l)) true,iB (JH sig a b l)]) S:=by
 have q:=Zcj sig a b hn hbs hba hbb fa fb
 simp only[cB,Zc,List.map_cons,List.map_nil] at q
 unfold Zj JH
 refine Zb XG (by simp [low,men,Zl]) ?_
 simp only[YV,Zc,EVA,seval,Zl,men]
 refine Za q ?_
 by_cases h:Zbg sig a b
 rotate_left
 ·rw[Zf (show ¬ (bigOK sig a/\bigOK sig b) from h),if_neg h,if_neg h]
  simp only[EVA,seval]
  try rfl
 rw[ZK (show bigOK sig a/\bigOK sig b from h),if_pos h,if_pos h]
 have q2:=Zci sig a b l h.1 h.2 hl
 simp only[cB,Zc,List.map_cons,List.map_nil] at q2
 simp only[EVA,seval,Zl,men]
 refine Za q2 ?_
 simp only[List.length_map,EVA,seval]
 try rfl
theorem Ys(sig:List TControl)(a b:TBigraph)(l:List Int)(hn:sig.length<=4294967296)(hbs:∀ y∈sig,ZA 4294967296 y)(hba:Zv 4294967296 a)(hbb:Zv 4294967296 b)(hl:l.length<=4294967296)(fa:ZG a)(fb:ZG b)(lvl:Nat)(S:Sto):Sem Go.Proofs.Tryz.prog Z6 lvl [.tr (.sl (sig.map Zi)),.ag ((Zc a).map .tr),.ag ((Zc b).map .tr),.tr (.sl (rI l))] S (.tu [.ow 1 (rI (Zj sig a b l)) true,iB (JH sig a b l)]) S:=by
 have q:=ZaS sig a b hn hbs hba hbb fa fb
 simp only[cB,Zc,List.map_cons,List.map_nil] at q
 unfold Zj JH
 refine Zb XH (by simp [low,men,Zl]) ?_
 simp only[YW,Zc,EVA,seval,Zl,men]
 refine Za q ?_
 by_cases h:Zbg sig a b
 rotate_left
 ·rw[Zf (show ¬ (bigOK sig a/\bigOK sig b) from h),if_neg h,if_neg h]
  simp only[EVA,seval]
  try rfl
 rw[ZK (show bigOK sig a/\bigOK sig b from h),if_pos h,if_pos h]
 have q2:=Dr sig a b l h.1 h.2 hl
 simp only[cB,Zc,List.map_cons,List.map_nil] at q2
 simp only[EVA,seval,Zl,men]
 refine Za q2 ?_
 simp only[List.length_map,EVA,seval]
 try rfl
open Classical in
noncomputable def Y6(sig:List TControl)(a b:TBigraph)(l:List Int):Bool:=if Zbg sig a b then (trT a b l).isSome else false
noncomputable def Y7(sig:List TControl)(a b:TBigraph)(_l:List Int):Bool:=dc (Zbg sig a b)
theorem W2(sig:List TControl)(a b:TBigraph)(l:List Int)(hn:sig.length<=4294967296)(hbs:∀ y∈sig,ZA 4294967296 y)(hba:Zv 4294967296 a)(hbb:Zv 4294967296 b)(hl:l.length<=4294967296)(fa:ZG a)(fb:ZG b)(lvl:Nat)(S:Sto):Sem Go.Proofs.Tryz.prog Ya lvl [.tr (.sl (sig.map Zi)),.ag ((Zc a).map .tr),.ag ((Zc b).map .tr),.tr (.sl (rI l))] S (.tu [iB (Y6 sig a b l),iB (Y7 sig a b l)]) S:=by
 have q:=Zcj sig a b hn hbs hba hbb fa fb
 simp only[cB,Zc,List.map_cons,List.map_nil] at q
 unfold Y6 Y7
 refine Zb U1 (by simp [low,men,Zl]) ?_
 simp only[QC,Zc,EVA,seval,Zl,men]
 refine Za q ?_
 by_cases h:Zbg sig a b
 rotate_left
 ·rw[Zf (show ¬ (bigOK sig a/\bigOK sig b) from h),Zf h,if_neg h]
  simp only[EVA,seval]
  try rfl
 rw[ZK (show bigOK sig a/\bigOK sig b from h),ZK h,if_pos h]
 have q2:=Zci sig a b l h.1 h.2 hl
 simp only[cB,Zc,List.map_cons,List.map_nil] at q2
 simp only[EVA,seval,Zl,men]
 refine Za q2 ?_
 simp only[List.length_map,EVA,seval]
 try rfl
theorem W3(sig:List TControl)(a b:TBigraph)(l:List Int)(hn:sig.length<=4294967296)(hbs:∀ y∈sig,ZA 4294967296 y)(hba:Zv 4294967296 a)(hbb:Zv 4294967296 b)(hl:l.length<=4294967296)(fa:ZG a)(fb:ZG b)(lvl:Nat)(S:Sto):Sem Go.Proofs.Tryz.prog Yb lvl [.tr (.sl (sig.map Zi)),.ag ((Zc a).map .tr),.ag ((Zc b).map .tr),.tr (.sl (rI l))] S (.tu [iB (Y6 sig a b l),iB (Y7 sig a b l)]) S:=by
 have q:=ZaS sig a b hn hbs hba hbb fa fb
 simp only[cB,Zc,List.map_cons,List.map_nil] at q
 unfold Y6 Y7
 refine Zb U2 (by simp [low,men,Zl]) ?_
 simp only[QD,Zc,EVA,seval,Zl,men]
 refine Za q ?_
 by_cases h:Zbg sig a b
 rotate_left
 ·rw[Zf (show ¬ (bigOK sig a/\bigOK sig b) from h),Zf h,if_neg h]
  simp only[EVA,seval]
  try rfl
 rw[ZK (show bigOK sig a/\bigOK sig b from h),ZK h,if_pos h]
 have q2:=Dr sig a b l h.1 h.2 hl
 simp only[cB,Zc,List.map_cons,List.map_nil] at q2
 simp only[EVA,seval,Zl,men]
 refine Za q2 ?_
 simp only[List.length_map,EVA,seval]
 try rfl
open Classical in
noncomputable def Y8(sig:List TControl)(a b:TBigraph):Bool:=if Zbg sig a b then !(Zf9 a b).isEmpty else false
noncomputable def Y9(sig:List TControl)(a b:TBigraph):Bool:=dc (Zbg sig a b)
theorem W4(sig:List TControl)(a b:TBigraph)(hn:sig.length<=4294967296)(hbs:∀ y∈sig,ZA 4294967296 y)(hba:Zv 4294967296 a)(hbb:Zv 4294967296 b)(fa:ZG a)(fb:ZG b)(lvl:Nat)(S:Sto):Sem Go.Proofs.Tryz.prog Yc lvl [.tr (.sl (sig.map Zi)),.ag ((Zc a).map .tr),.ag ((Zc b).map .tr)] S (.tu [iB (Y8 sig a b),iB (Y9 sig a b)]) S:=by
 have q:=Zcj sig a b hn hbs hba hbb fa fb
 simp only[cB,Zc,List.map_cons,List.map_nil] at q
 unfold Y8 Y9
 refine Zb U3 (by simp [low,men,Zl]) ?_
 simp only[QE,Zc,EVA,seval,Zl,men]
 refine Za q ?_
 by_cases h:Zbg sig a b
 rotate_left
 ·rw[Zf (show ¬ (bigOK sig a/\bigOK sig b) from h),Zf h,if_neg h]
  simp only[EVA,seval]
  try rfl
 rw[ZK (show bigOK sig a/\bigOK sig b from h),ZK h,if_pos h]
 have q2:=ZiT sig a b h.1 h.2
 simp only[cB,Zc,List.map_cons,List.map_nil] at q2
 simp only[EVA,seval,Zl,men]
 refine Za q2 ?_
 simp only[EVA,seval]
 try rfl
theorem W5(sig:List TControl)(a b:TBigraph)(hn:sig.length<=4294967296)(hbs:∀ y∈sig,ZA 4294967296 y)(hba:Zv 4294967296 a)(hbb:Zv 4294967296 b)(fa:ZG a)(fb:ZG b)(lvl:Nat)(S:Sto):Sem Go.Proofs.Tryz.prog Yd lvl [.tr (.sl (sig.map Zi)),.ag ((Zc a).map .tr),.ag ((Zc b).map .tr)] S (.tu [iB (Y8 sig a b),iB (Y9 sig a b)]) S:=by
 have q:=ZaS sig a b hn hbs hba hbb fa fb
 simp only[cB,Zc,List.map_cons,List.map_nil] at q
 unfold Y8 Y9
 refine Zb U4 (by simp [low,men,Zl]) ?_
 simp only[QF,Zc,EVA,seval,Zl,men]
 refine Za q ?_
 by_cases h:Zbg sig a b
 rotate_left
 ·rw[Zf (show ¬ (bigOK sig a/\bigOK sig b) from h),Zf h,if_neg h]
  simp only[EVA,seval]
  try rfl
 rw[ZK (show bigOK sig a/\bigOK sig b from h),ZK h,if_pos h]
 have q2:=ZaR sig a b h.1 h.2
 simp only[cB,Zc,List.map_cons,List.map_nil] at q2
 simp only[EVA,seval,Zl,men]
 refine Za q2 ?_
 simp only[EVA,seval]
 try rfl
end Go.Fd

/-
  The annotated codes of the functions, printed by a program of mine (gen.py), and the check that they belong to the program.
-/
namespace Go.Fd
def JM:F2 :=
 { nt:=163,res:=[.t 8 [0]],body :=
  (.sq (rg [oo 5 (.bt (.t 1)),
 oo 6 (.bt (.t 2)),
 om 8 (.k (.bool false))])
 (.sq (.sq (rg [om 23 (.t 3),
 oo 24 (.ln (.t 23)),
 oo 25 (.bi .gtr 0 (.t 24) (i6 1048576))])
 (.cd (.t 25) (.sq (rg [om 8 (.k (.bool true))])
 (.rt))
 (.sk)))
 (.sq (rg [om 9 (i6 1048576)])
 (.sq (rg [om 26 (.t 0),
 om 27 (.t 9),
 oo 28 (.ca .pure false (.f Jw) [.t 26,.t 27]),
 om 9 (.t 28)])
 (.sq (.sq (rg [om 29 (.t 9),
 oo 30 (.bi .lss 0 (.t 29) (i6 0))])
 (.cd (.t 30) (.sq (rg [om 8 (.k (.bool true))])
 (.rt))
 (.sk)))
 (.sq (rg [oo 31 (.ld (some 6) (.t 5)),
 om 32 (.t 9),
 oo 33 (.ca .pure false (.f ZO) [.t 31,.t 32]),
 om 9 (.t 33)])
 (.sq (.sq (rg [om 34 (.t 9),
 oo 35 (.bi .lss 0 (.t 34) (i6 0))])
 (.cd (.t 35) (.sq (rg [om 8 (.k (.bool true))])
 (.rt))
 (.sk)))
 (.sq (rg [oo 36 (.ld (some 6) (.t 6)),
 om 37 (.t 9),
 oo 38 (.ca .pure false (.f ZO) [.t 36,.t 37]),
 om 9 (.t 38)])
 (.sq (.sq (rg [om 39 (.t 9),
 oo 40 (.bi .lss 0 (.t 39) (i6 0))])
 (.cd (.t 40) (.sq (rg [om 8 (.k (.bool true))])
 (.rt))
 (.sk)))
 (.sq (.rg (some 0) [om 42 (.t 0),
 oo 43 (.ca .pure false (.f Zy) [.t 42]),
 oo 44 (.ld (some 6) (.t 5)),
 oo 45 (.ca .pure false (.f Zk) [.t 44]),
 oo 46 (.ld (some 6) (.t 6)),
 oo 47 (.ca .pure false (.f Zk) [.t 46]),
 om 48 (.t 3),
 oo 49 (.ca .pure false (.f ZH) [.t 48]),
 oo 50 (.ca .pure false (.f Jy) [.t 43,.t 45,.t 47,.t 49]),
 om 41 (.t 50),
 oo 51 (.ex 0 (.t 41)),
 oo 52 (.ex 1 (.t 41)),
 om 10 (.t 51),
 om 11 (.t 52)])
 (.sq (rg [om 53 (.t 0),
 oo 54 (.ca .pure true (.f Zy) [.t 53]),
 om 12 (.t 54)])
 (.sq (rg [oo 55 (.ld (some 6) (.t 5)),
 oo 56 (.ca .pure true (.f Zk) [.t 55]),
 oo 13 (.al [.int .i64 0,.slice none 0 0,.slice none 0 0,.int .i64 0,.slice none 0 0,.slice none 0 0] []),
 on1 (.st 6 (.t 13) (.t 56))])
 (.sq (rg [oo 57 (.ld (some 6) (.t 6)),
 oo 58 (.ca .pure true (.f Zk) [.t 57]),
 oo 14 (.al [.int .i64 0,.slice none 0 0,.slice none 0 0,.int .i64 0,.slice none 0 0,.slice none 0 0] []),
 on1 (.st 6 (.t 14) (.t 58))])
 (.sq (rg [om 59 (.t 3),
 oo 60 (.ca .pure true (.f ZH) [.t 59]),
 om 15 (.t 60)])
 (.sq (rg [om 62 (.t 12),
 oo 63 (.ld (some 6) (.t 13)),
 oo 64 (.ld (some 6) (.t 14)),
 om 65 (.t 15),
 oo 66 (.ca .pure true (.f Z6) [.t 62,.t 63,.t 64,.t 65]),
 om 61 (.t 66),
 oo 67 (.ex 0 (.t 61)),
 oo 68 (.ex 1 (.t 61)),
 om 16 (.t 67),
 om 17 (.t 68)])
 (.sq (.sq (rg [om 69 (.t 16),
 om 70 (.t 10),
 oo 71 (.ca .pure false (.f Z5) [.t 69,.t 70]),
 oo 72 (.nt (.t 71)),
 om 73 (.t 72),
 og 74 73 false (.mv (.t 17) none),
 og 75 73 false (.mv (.t 11) none),
 og 76 73 false (.bi .neq 2 (.t 74) (.t 75)),
 oo 77 (.pk (.t 73) (.k (.bool true)) (.t 76))])
 (.cd (.t 77) (.sq (rg [om 8 (.k (.bool false))])
 (.rt))
 (.sk)))
 (.sq (.sq (rg [om 78 (.t 12),
 om 79 (.t 0),
 oo 80 (.ca .pure false (.f Zy) [.t 79]),
 oo 81 (.ca .pure false (.f Jx) [.t 78,.t 80]),
 oo 82 (.nt (.t 81))])
 (.cd (.t 82) (.sq (rg [om 8 (.k (.bool false))])
 (.rt))
 (.sk)))
 (.sq (.sq (.rg (some 0) [oo 83 (.ld (some 6) (.t 13)),
 oo 84 (.ld (some 6) (.t 5)),
 oo 85 (.ca .pure false (.f Zk) [.t 84]),
 oo 86 (.ca .pure false (.f ZN) [.t 83,.t 85]),
 oo 87 (.nt (.t 86))])
 (.cd (.t 87) (.sq (rg [om 8 (.k (.bool false))])
 (.rt))
 (.sk)))
 (.sq (.sq (.rg (some 0) [oo 88 (.ld (some 6) (.t 14)),
 oo 89 (.ld (some 6) (.t 6)),
 oo 90 (.ca .pure false (.f Zk) [.t 89]),
 oo 91 (.ca .pure false (.f ZN) [.t 88,.t 90]),
 oo 92 (.nt (.t 91))])
 (.cd (.t 92) (.sq (rg [om 8 (.k (.bool false))])
 (.rt))
 (.sk)))
 (.sq (.sq (rg [om 93 (.t 15),
 om 94 (.t 3),
 oo 95 (.ca .pure false (.f ZH) [.t 94]),
 oo 96 (.ca .pure false (.f Z5) [.t 93,.t 95]),
 oo 97 (.nt (.t 96))])
 (.cd (.t 97) (.sq (rg [om 8 (.k (.bool false))])
 (.rt))
 (.sk)))
 (.sq (rg [om 18 (i6 1)])
 (.sq (rg [om 98 (.t 12),
 om 99 (.t 18),
 oo 100 (.ca .any true (.f Ym) [.t 98,.t 99]),
 om 18 (.t 100)])
 (.sq (rg [oo 101 (.ld (some 6) (.t 13)),
 om 102 (.t 18),
 oo 103 (.ca .any true (.f Jp) [.t 101,.t 102]),
 om 18 (.t 103)])
 (.sq (rg [oo 104 (.ld (some 6) (.t 14)),
 om 105 (.t 18),
 oo 106 (.ca .any true (.f Jp) [.t 104,.t 105]),
 om 18 (.t 106)])
 (.sq (rg [om 107 (.t 15),
 om 108 (.t 18),
 oo 109 (.ca .any true (.f Js) [.t 107,.t 108]),
 om 18 (.t 109)])
 (.sq (.sq (rg [om 110 (.t 18),
 oo 111 (.bi .lss 0 (.t 110) (i6 0)),
 om 112 (.t 111),
 og 113 112 false (.mv (.t 16) none),
 og 114 112 false (.mv (.t 10) none),
 og 115 112 false (.ca .pure false (.f Z5) [.t 113,.t 114]),
 og 116 112 false (.nt (.t 115)),
 oo 117 (.pk (.t 112) (.k (.bool true)) (.t 116)),
 om 118 (.t 117),
 og 119 118 false (.mv (.t 17) none),
 og 120 118 false (.mv (.t 11) none),
 og 121 118 false (.bi .neq 2 (.t 119) (.t 120)),
 oo 122 (.pk (.t 118) (.k (.bool true)) (.t 121))])
 (.cd (.t 122) (.sq (rg [om 8 (.k (.bool false))])
 (.rt))
 (.sk)))
 (.sq (rg [om 19 (i6 1)])
 (.sq (rg [om 123 (.t 16),
 om 124 (.t 19),
 oo 125 (.ca .any true (.f Js) [.t 123,.t 124]),
 om 19 (.t 125)])
 (.sq (rg [om 20 (i6 1)])
 (.sq (rg [om 126 (.t 16),
 om 127 (.t 20),
 oo 128 (.ca .pure false (.f Yy) [.t 126,.t 127]),
 om 20 (.t 128)])
 (.sq (.sq (rg [om 129 (.t 20),
 oo 130 (.bi .lss 0 (.t 129) (i6 0))])
 (.cd (.t 130) (.sq (rg [om 8 (.k (.bool false))])
 (.rt))
 (.sk)))
 (.sq (.sq (rg [om 131 (.t 20),
 om 132 (.t 19),
 oo 133 (.bi .neq 0 (.t 131) (.t 132))])
 (.cd (.t 133) (.sq (rg [om 8 (.k (.bool false))])
 (.rt))
 (.sk)))
 (.sq (.rg (some 0) [om 135 (.t 0),
 oo 136 (.ca .pure false (.f Zy) [.t 135]),
 oo 137 (.ld (some 6) (.t 5)),
 oo 138 (.ca .pure false (.f Zk) [.t 137]),
 oo 139 (.ld (some 6) (.t 6)),
 oo 140 (.ca .pure false (.f Zk) [.t 139]),
 om 141 (.t 3),
 oo 142 (.ca .pure false (.f ZH) [.t 141]),
 oo 143 (.ca .pure false (.f Z6) [.t 136,.t 138,.t 140,.t 142]),
 om 134 (.t 143),
 oo 144 (.ex 0 (.t 134)),
 oo 145 (.ex 1 (.t 134)),
 om 21 (.t 144),
 om 22 (.t 145)])
 (.sq (.sq (rg [om 146 (.t 21),
 om 147 (.t 10),
 oo 148 (.ca .pure false (.f Z5) [.t 146,.t 147]),
 oo 149 (.nt (.t 148)),
 om 150 (.t 149),
 og 151 150 false (.mv (.t 22) none),
 og 152 150 false (.mv (.t 11) none),
 og 153 150 false (.bi .neq 2 (.t 151) (.t 152)),
 oo 154 (.pk (.t 150) (.k (.bool true)) (.t 153))])
 (.cd (.t 154) (.sq (rg [om 8 (.k (.bool false))])
 (.rt))
 (.sk)))
 (.sq (rg [om 20 (i6 1)])
 (.sq (rg [om 155 (.t 16),
 om 156 (.t 20),
 oo 157 (.ca .pure false (.f Yy) [.t 155,.t 156]),
 om 20 (.t 157)])
 (.sq (.sq (rg [om 158 (.t 20),
 oo 159 (.bi .lss 0 (.t 158) (i6 0))])
 (.cd (.t 159) (.sq (rg [om 8 (.k (.bool false))])
 (.rt))
 (.sk)))
 (.sq (.sq (rg [om 160 (.t 20),
 om 161 (.t 19),
 oo 162 (.bi .neq 0 (.t 160) (.t 161))])
 (.cd (.t 162) (.sq (rg [om 8 (.k (.bool false))])
 (.rt))
 (.sk)))
 (.sq (rg [om 8 (.k (.bool true))])
 (.rt)))))))))))))))))))))))))))))))))))))))) }
theorem VZ:ZS Go.Proofs.Tryz.prog JA JM=true:=by kernel_rfl
def Yt:F2 :=
 { nt:=92,res:=[.t 8 [0]],body :=
  (.sq (rg [oo 5 (.bt (.t 1)),
 oo 6 (.bt (.t 2)),
 om 8 (.k (.bool false))])
 (.sq (.sq (rg [om 18 (.t 3),
 oo 19 (.ln (.t 18)),
 oo 20 (.bi .gtr 0 (.t 19) (i6 1048576))])
 (.cd (.t 20) (.sq (rg [om 8 (.k (.bool true))])
 (.rt))
 (.sk)))
 (.sq (rg [om 9 (i6 1048576)])
 (.sq (rg [om 21 (.t 0),
 om 22 (.t 9),
 oo 23 (.ca .pure false (.f Jw) [.t 21,.t 22]),
 om 9 (.t 23)])
 (.sq (.sq (rg [om 24 (.t 9),
 oo 25 (.bi .lss 0 (.t 24) (i6 0))])
 (.cd (.t 25) (.sq (rg [om 8 (.k (.bool true))])
 (.rt))
 (.sk)))
 (.sq (rg [oo 26 (.ld (some 6) (.t 5)),
 om 27 (.t 9),
 oo 28 (.ca .pure false (.f ZO) [.t 26,.t 27]),
 om 9 (.t 28)])
 (.sq (.sq (rg [om 29 (.t 9),
 oo 30 (.bi .lss 0 (.t 29) (i6 0))])
 (.cd (.t 30) (.sq (rg [om 8 (.k (.bool true))])
 (.rt))
 (.sk)))
 (.sq (rg [oo 31 (.ld (some 6) (.t 6)),
 om 32 (.t 9),
 oo 33 (.ca .pure false (.f ZO) [.t 31,.t 32]),
 om 9 (.t 33)])
 (.sq (.sq (rg [om 34 (.t 9),
 oo 35 (.bi .lss 0 (.t 34) (i6 0))])
 (.cd (.t 35) (.sq (rg [om 8 (.k (.bool true))])
 (.rt))
 (.sk)))
 (.sq (.rg (some 0) [om 37 (.t 0),
 oo 38 (.ca .pure false (.f Zy) [.t 37]),
 oo 39 (.ld (some 6) (.t 5)),
 oo 40 (.ca .pure false (.f Zk) [.t 39]),
 oo 41 (.ld (some 6) (.t 6)),
 oo 42 (.ca .pure false (.f Zk) [.t 41]),
 om 43 (.t 3),
 oo 44 (.ca .pure false (.f ZH) [.t 43]),
 oo 45 (.ca .pure false (.f Ya) [.t 38,.t 40,.t 42,.t 44]),
 om 36 (.t 45),
 oo 46 (.ex 0 (.t 36)),
 oo 47 (.ex 1 (.t 36)),
 om 10 (.t 46),
 om 11 (.t 47)])
 (.sq (rg [om 48 (.t 0),
 oo 49 (.ca .pure false (.f Zy) [.t 48]),
 om 12 (.t 49)])
 (.sq (rg [oo 50 (.ld (some 6) (.t 5)),
 oo 51 (.ca .pure false (.f Zk) [.t 50]),
 oo 13 (.al [.int .i64 0,.slice none 0 0,.slice none 0 0,.int .i64 0,.slice none 0 0,.slice none 0 0] []),
 on1 (.st 6 (.t 13) (.t 51))])
 (.sq (rg [oo 52 (.ld (some 6) (.t 6)),
 oo 53 (.ca .pure false (.f Zk) [.t 52]),
 oo 14 (.al [.int .i64 0,.slice none 0 0,.slice none 0 0,.int .i64 0,.slice none 0 0,.slice none 0 0] []),
 on1 (.st 6 (.t 14) (.t 53))])
 (.sq (rg [om 54 (.t 3),
 oo 55 (.ca .pure false (.f ZH) [.t 54]),
 om 15 (.t 55)])
 (.sq (rg [om 57 (.t 12),
 oo 58 (.ld (some 6) (.t 13)),
 oo 59 (.ld (some 6) (.t 14)),
 om 60 (.t 15),
 oo 61 (.ca .pure false (.f Yb) [.t 57,.t 58,.t 59,.t 60]),
 om 56 (.t 61),
 oo 62 (.ex 0 (.t 56)),
 oo 63 (.ex 1 (.t 56)),
 om 16 (.t 62),
 om 17 (.t 63)])
 (.sq (.sq (rg [om 64 (.t 16),
 om 65 (.t 10),
 oo 66 (.bi .neq 2 (.t 64) (.t 65)),
 om 67 (.t 66),
 og 68 67 false (.mv (.t 17) none),
 og 69 67 false (.mv (.t 11) none),
 og 70 67 false (.bi .neq 2 (.t 68) (.t 69)),
 oo 71 (.pk (.t 67) (.k (.bool true)) (.t 70))])
 (.cd (.t 71) (.sq (rg [om 8 (.k (.bool false))])
 (.rt))
 (.sk)))
 (.sq (.sq (rg [om 72 (.t 12),
 om 73 (.t 0),
 oo 74 (.ca .pure false (.f Zy) [.t 73]),
 oo 75 (.ca .pure false (.f Jx) [.t 72,.t 74]),
 oo 76 (.nt (.t 75))])
 (.cd (.t 76) (.sq (rg [om 8 (.k (.bool false))])
 (.rt))
 (.sk)))
 (.sq (.sq (.rg (some 0) [oo 77 (.ld (some 6) (.t 13)),
 oo 78 (.ld (some 6) (.t 5)),
 oo 79 (.ca .pure false (.f Zk) [.t 78]),
 oo 80 (.ca .pure false (.f ZN) [.t 77,.t 79]),
 oo 81 (.nt (.t 80))])
 (.cd (.t 81) (.sq (rg [om 8 (.k (.bool false))])
 (.rt))
 (.sk)))
 (.sq (.sq (.rg (some 0) [oo 82 (.ld (some 6) (.t 14)),
 oo 83 (.ld (some 6) (.t 6)),
 oo 84 (.ca .pure false (.f Zk) [.t 83]),
 oo 85 (.ca .pure false (.f ZN) [.t 82,.t 84]),
 oo 86 (.nt (.t 85))])
 (.cd (.t 86) (.sq (rg [om 8 (.k (.bool false))])
 (.rt))
 (.sk)))
 (.sq (.sq (rg [om 87 (.t 15),
 om 88 (.t 3),
 oo 89 (.ca .pure false (.f ZH) [.t 88]),
 oo 90 (.ca .pure false (.f Z5) [.t 87,.t 89]),
 oo 91 (.nt (.t 90))])
 (.cd (.t 91) (.sq (rg [om 8 (.k (.bool false))])
 (.rt))
 (.sk)))
 (.sq (rg [om 8 (.k (.bool true))])
 (.rt)))))))))))))))))))))) }
theorem Xj:ZS Go.Proofs.Tryz.prog J0 Yt=true:=by kernel_rfl
def Yu:F2 :=
 { nt:=76,res:=[.t 6 [0]],body :=
  (.sq (rg [oo 4 (.bt (.t 1)),
 oo 5 (.bt (.t 2)),
 om 6 (.k (.bool false))])
 (.sq (rg [om 7 (i6 1048576)])
 (.sq (rg [om 15 (.t 0),
 om 16 (.t 7),
 oo 17 (.ca .pure false (.f Jw) [.t 15,.t 16]),
 om 7 (.t 17)])
 (.sq (.sq (rg [om 18 (.t 7),
 oo 19 (.bi .lss 0 (.t 18) (i6 0))])
 (.cd (.t 19) (.sq (rg [om 6 (.k (.bool true))])
 (.rt))
 (.sk)))
 (.sq (rg [oo 20 (.ld (some 6) (.t 4)),
 om 21 (.t 7),
 oo 22 (.ca .pure false (.f ZO) [.t 20,.t 21]),
 om 7 (.t 22)])
 (.sq (.sq (rg [om 23 (.t 7),
 oo 24 (.bi .lss 0 (.t 23) (i6 0))])
 (.cd (.t 24) (.sq (rg [om 6 (.k (.bool true))])
 (.rt))
 (.sk)))
 (.sq (rg [oo 25 (.ld (some 6) (.t 5)),
 om 26 (.t 7),
 oo 27 (.ca .pure false (.f ZO) [.t 25,.t 26]),
 om 7 (.t 27)])
 (.sq (.sq (rg [om 28 (.t 7),
 oo 29 (.bi .lss 0 (.t 28) (i6 0))])
 (.cd (.t 29) (.sq (rg [om 6 (.k (.bool true))])
 (.rt))
 (.sk)))
 (.sq (.rg (some 0) [om 31 (.t 0),
 oo 32 (.ca .pure false (.f Zy) [.t 31]),
 oo 33 (.ld (some 6) (.t 4)),
 oo 34 (.ca .pure false (.f Zk) [.t 33]),
 oo 35 (.ld (some 6) (.t 5)),
 oo 36 (.ca .pure false (.f Zk) [.t 35]),
 oo 37 (.ca .pure false (.f Yc) [.t 32,.t 34,.t 36]),
 om 30 (.t 37),
 oo 38 (.ex 0 (.t 30)),
 oo 39 (.ex 1 (.t 30)),
 om 8 (.t 38),
 om 9 (.t 39)])
 (.sq (rg [om 40 (.t 0),
 oo 41 (.ca .pure false (.f Zy) [.t 40]),
 om 10 (.t 41)])
 (.sq (rg [oo 42 (.ld (some 6) (.t 4)),
 oo 43 (.ca .pure false (.f Zk) [.t 42]),
 oo 11 (.al [.int .i64 0,.slice none 0 0,.slice none 0 0,.int .i64 0,.slice none 0 0,.slice none 0 0] []),
 on1 (.st 6 (.t 11) (.t 43))])
 (.sq (rg [oo 44 (.ld (some 6) (.t 5)),
 oo 45 (.ca .pure false (.f Zk) [.t 44]),
 oo 12 (.al [.int .i64 0,.slice none 0 0,.slice none 0 0,.int .i64 0,.slice none 0 0,.slice none 0 0] []),
 on1 (.st 6 (.t 12) (.t 45))])
 (.sq (rg [om 47 (.t 10),
 oo 48 (.ld (some 6) (.t 11)),
 oo 49 (.ld (some 6) (.t 12)),
 oo 50 (.ca .pure false (.f Yd) [.t 47,.t 48,.t 49]),
 om 46 (.t 50),
 oo 51 (.ex 0 (.t 46)),
 oo 52 (.ex 1 (.t 46)),
 om 13 (.t 51),
 om 14 (.t 52)])
 (.sq (.sq (rg [om 53 (.t 13),
 om 54 (.t 8),
 oo 55 (.bi .neq 2 (.t 53) (.t 54)),
 om 56 (.t 55),
 og 57 56 false (.mv (.t 14) none),
 og 58 56 false (.mv (.t 9) none),
 og 59 56 false (.bi .neq 2 (.t 57) (.t 58)),
 oo 60 (.pk (.t 56) (.k (.bool true)) (.t 59))])
 (.cd (.t 60) (.sq (rg [om 6 (.k (.bool false))])
 (.rt))
 (.sk)))
 (.sq (.sq (rg [om 61 (.t 10),
 om 62 (.t 0),
 oo 63 (.ca .pure false (.f Zy) [.t 62]),
 oo 64 (.ca .pure false (.f Jx) [.t 61,.t 63]),
 oo 65 (.nt (.t 64))])
 (.cd (.t 65) (.sq (rg [om 6 (.k (.bool false))])
 (.rt))
 (.sk)))
 (.sq (.sq (.rg (some 0) [oo 66 (.ld (some 6) (.t 11)),
 oo 67 (.ld (some 6) (.t 4)),
 oo 68 (.ca .pure false (.f Zk) [.t 67]),
 oo 69 (.ca .pure false (.f ZN) [.t 66,.t 68]),
 oo 70 (.nt (.t 69))])
 (.cd (.t 70) (.sq (rg [om 6 (.k (.bool false))])
 (.rt))
 (.sk)))
 (.sq (.sq (.rg (some 0) [oo 71 (.ld (some 6) (.t 12)),
 oo 72 (.ld (some 6) (.t 5)),
 oo 73 (.ca .pure false (.f Zk) [.t 72]),
 oo 74 (.ca .pure false (.f ZN) [.t 71,.t 73]),
 oo 75 (.nt (.t 74))])
 (.cd (.t 75) (.sq (rg [om 6 (.k (.bool false))])
 (.rt))
 (.sk)))
 (.sq (rg [om 6 (.k (.bool true))])
 (.rt))))))))))))))))))) }
theorem Xk:ZS Go.Proofs.Tryz.prog J1 Yu=true:=by kernel_rfl
def Xl:F2 :=
 { nt:=35,res:=[.t 4 [0]],body :=
  (.sq (rg [om 4 (i6 0)])
 (.sq (.sq (rg [om 5 (i6 0)])
 (.bl 0 (.lp [0,1,5] [] (.sq (.sq (rg [om 6 (.t 5),
 om 7 (.t 0),
 oo 8 (.ln (.t 7)),
 oo 9 (.bi .lss 0 (.t 6) (.t 8))])
 (.cd (.t 9) (.sk)
 (.ex 0)))
 (.sq (.bl 1 (.sq (rg [om 12 (.t 0),
 om 13 (.t 5),
 om 14 (.t 1),
 oo 15 (.ca .pure false (.f JP) [.t 14]),
 oo 16 (.ia 3 (.t 12) (.t 13)),
 oo 17 (.fa 0 (.t 16)),
 on1 (.st 1 (.t 17) (.t 15))])
 (.sq (rg [om 18 (.t 1),
 oo 19 (.bi .add 0 (.t 18) (i6 1)),
 om 1 (.t 19)])
 (.sq (rg [om 20 (.t 0),
 om 21 (.t 5),
 om 22 (.t 1),
 oo 23 (.ia 3 (.t 20) (.t 21)),
 oo 24 (.fa 1 (.t 23)),
 on1 (.st 1 (.t 24) (.t 22))])
 (.sq (rg [om 25 (.t 1),
 oo 26 (.bi .add 0 (.t 25) (i6 1)),
 om 1 (.t 26)])
 (.sq (rg [om 27 (.t 0),
 om 28 (.t 5),
 om 29 (.t 1),
 oo 30 (.ia 3 (.t 27) (.t 28)),
 oo 31 (.fa 2 (.t 30)),
 on1 (.st 1 (.t 31) (.t 29))])
 (rg [om 32 (.t 1),
 oo 33 (.bi .add 0 (.t 32) (i6 1)),
 om 1 (.t 33)])))))))
 (rg [om 10 (.t 5),
 oo 11 (.bi .add 0 (.t 10) (i6 1)),
 om 5 (.t 11)]))))))
 (.sq (rg [om 34 (.t 1),
 om 4 (.t 34)])
 (.rt)))) }
theorem Ds:ZS Go.Proofs.Tryz.prog Ym Xl=true:=by kernel_rfl
def Uy:F2 :=
 { nt:=19,res:=[.t 4 [0]],body :=
  (.sq (rg [om 4 (i6 0)])
 (.sq (.sq (rg [om 5 (i6 0)])
 (.bl 0 (.lp [0,1,5] [] (.sq (.sq (rg [om 6 (.t 5),
 om 7 (.t 0),
 oo 8 (.ln (.t 7)),
 oo 9 (.bi .lss 0 (.t 6) (.t 8))])
 (.cd (.t 9) (.sk)
 (.ex 0)))
 (.sq (.bl 1 (.sq (rg [om 12 (.t 0),
 om 13 (.t 5),
 om 14 (.t 1),
 oo 15 (.ia 1 (.t 12) (.t 13)),
 on1 (.st 1 (.t 15) (.t 14))])
 (rg [om 16 (.t 1),
 oo 17 (.bi .add 0 (.t 16) (i6 1)),
 om 1 (.t 17)])))
 (rg [om 10 (.t 5),
 oo 11 (.bi .add 0 (.t 10) (i6 1)),
 om 5 (.t 11)]))))))
 (.sq (rg [om 18 (.t 1),
 om 4 (.t 18)])
 (.rt)))) }
theorem Zck:ZS Go.Proofs.Tryz.prog Js Uy=true:=by kernel_rfl
def Uz:F2 :=
 { nt:=21,res:=[.t 4 [0]],body :=
  (.sq (rg [om 4 (i6 0)])
 (.sq (.sq (rg [om 5 (i6 0)])
 (.bl 0 (.lp [0,1,5] [] (.sq (.sq (rg [om 6 (.t 5),
 om 7 (.t 0),
 oo 8 (.ln (.t 7)),
 oo 9 (.bi .lss 0 (.t 6) (.t 8))])
 (.cd (.t 9) (.sk)
 (.ex 0)))
 (.sq (.bl 1 (.sq (.sq (rg [om 12 (.t 0),
 om 13 (.t 5),
 oo 14 (.ia 1 (.t 12) (.t 13)),
 oo 15 (.ld none (.t 14)),
 om 16 (.t 1),
 oo 17 (.bi .neq 0 (.t 15) (.t 16))])
 (.cd (.t 17) (.sq (rg [om 4 (i6 (-1))])
 (.rt))
 (.sk)))
 (rg [om 18 (.t 1),
 oo 19 (.bi .add 0 (.t 18) (i6 1)),
 om 1 (.t 19)])))
 (rg [om 10 (.t 5),
 oo 11 (.bi .add 0 (.t 10) (i6 1)),
 om 5 (.t 11)]))))))
 (.sq (rg [om 20 (.t 1),
 om 4 (.t 20)])
 (.rt)))) }
theorem Zcl:ZS Go.Proofs.Tryz.prog Yy Uz=true:=by kernel_rfl
def XA:F2 :=
 { nt:=22,res:=[.t 4 [0]],body :=
  (.sq (rg [oo 2 (.bx (.t 0)),
 om 4 (i6 0)])
 (.sq (rg [oo 5 (.fa 1 (.t 2)),
 oo 6 (.ld none (.t 5)),
 om 7 (.t 1),
 oo 8 (.ca .any true (.f VA) [.t 6,.t 7]),
 om 1 (.t 8)])
 (.sq (rg [oo 9 (.fa 2 (.t 2)),
 oo 10 (.ld none (.t 9)),
 om 11 (.t 1),
 oo 12 (.ca .any true (.f Js) [.t 10,.t 11]),
 om 1 (.t 12)])
 (.sq (rg [oo 13 (.fa 4 (.t 2)),
 oo 14 (.ld none (.t 13)),
 om 15 (.t 1),
 oo 16 (.ca .any true (.f YJ) [.t 14,.t 15]),
 om 1 (.t 16)])
 (.sq (rg [oo 17 (.fa 5 (.t 2)),
 oo 18 (.ld none (.t 17)),
 om 19 (.t 1),
 oo 20 (.ca .any true (.f VB) [.t 18,.t 19]),
 om 1 (.t 20)])
 (.sq (rg [om 21 (.t 1),
 om 4 (.t 21)])
 (.rt))))))) }
theorem Zaj:ZS Go.Proofs.Tryz.prog Jp XA=true:=by kernel_rfl
def UA:F2 :=
 { nt:=20,res:=[.t 2 [0]],body :=
  (.sq (rg [om 2 (.k (.string ⟨#[]⟩))])
 (.sq (.sq (rg [om 4 (.t 0),
 oo 5 (.bi .leq 0 (.t 4) (i6 0))])
 (.cd (.t 5) (.sq (rg [om 2 (.k (.string ⟨#[109,48]⟩))])
 (.rt))
 (.sk)))
 (.sq (rg [om 3 (.k (.string ⟨#[]⟩))])
 (.sq (.bl 0 (.lp [0,3] [] (.sq (.sq (rg [om 6 (.t 0),
 oo 7 (.bi .gtr 0 (.t 6) (i6 0))])
 (.cd (.t 7) (.sk)
 (.ex 0)))
 (.bl 1 (.sq (rg [om 8 (.t 0),
 oo 9 (.bi .rem 0 (.t 8) (i6 10)),
 oo 10 (.bi .add 0 (i6 48) (.t 9)),
 oo 11 (.cv (.int .u8) (.t 10)),
 oo 12 (.bs 1 1 [.int .u8 0] [(0,.t 11)]),
 oo 13 (.sb (.t 12)),
 om 14 (.t 3),
 oo 15 (.bi .add 0 (.t 13) (.t 14)),
 om 3 (.t 15)])
 (rg [om 16 (.t 0),
 oo 17 (.bi .quo 0 (.t 16) (i6 10)),
 om 0 (.t 17)]))))))
 (.sq (rg [om 18 (.t 3),
 oo 19 (.bi .add 0 (.k (.string ⟨#[109]⟩)) (.t 18)),
 om 2 (.t 19)])
 (.rt)))))) }
theorem Zcm:ZS Go.Proofs.Tryz.prog JP UA=true:=by kernel_rfl
def XB:F2 :=
 { nt:=20,res:=[.t 4 [0]],body :=
  (.sq (rg [om 4 (i6 0)])
 (.sq (.sq (rg [om 5 (i6 0)])
 (.bl 0 (.lp [0,1,5] [] (.sq (.sq (rg [om 6 (.t 5),
 om 7 (.t 0),
 oo 8 (.ln (.t 7)),
 oo 9 (.bi .lss 0 (.t 6) (.t 8))])
 (.cd (.t 9) (.sk)
 (.ex 0)))
 (.sq (.bl 1 (.sq (rg [om 12 (.t 0),
 om 13 (.t 5),
 om 14 (.t 1),
 oo 15 (.ca .pure false (.f JP) [.t 14]),
 oo 16 (.ia 1 (.t 12) (.t 13)),
 on1 (.st 1 (.t 16) (.t 15))])
 (rg [om 17 (.t 1),
 oo 18 (.bi .add 0 (.t 17) (i6 1)),
 om 1 (.t 18)])))
 (rg [om 10 (.t 5),
 oo 11 (.bi .add 0 (.t 10) (i6 1)),
 om 5 (.t 11)]))))))
 (.sq (rg [om 19 (.t 1),
 om 4 (.t 19)])
 (.rt)))) }
theorem Zak:ZS Go.Proofs.Tryz.prog YJ XB=true:=by kernel_rfl
def WP:F2 :=
 { nt:=34,res:=[.t 4 [0]],body :=
  (.sq (rg [om 4 (i6 0)])
 (.sq (.sq (rg [om 5 (i6 0)])
 (.bl 0 (.lp [0,1,5] [] (.sq (.sq (rg [om 6 (.t 5),
 om 7 (.t 0),
 oo 8 (.ln (.t 7)),
 oo 9 (.bi .lss 0 (.t 6) (.t 8))])
 (.cd (.t 9) (.sk)
 (.ex 0)))
 (.sq (.bl 1 (.sq (rg [om 12 (.t 0),
 om 13 (.t 5),
 om 14 (.t 1),
 oo 15 (.ia 3 (.t 12) (.t 13)),
 oo 16 (.fa 0 (.t 15)),
 on1 (.st 1 (.t 16) (.t 14))])
 (.sq (rg [om 17 (.t 1),
 oo 18 (.bi .add 0 (.t 17) (i6 1)),
 om 1 (.t 18)])
 (.sq (rg [om 19 (.t 0),
 om 20 (.t 5),
 om 21 (.t 1),
 oo 22 (.ia 3 (.t 19) (.t 20)),
 oo 23 (.fa 1 (.t 22)),
 on1 (.st 1 (.t 23) (.t 21))])
 (.sq (rg [om 24 (.t 1),
 oo 25 (.bi .add 0 (.t 24) (i6 1)),
 om 1 (.t 25)])
 (rg [om 26 (.t 0),
 om 27 (.t 5),
 oo 28 (.ia 3 (.t 26) (.t 27)),
 oo 29 (.fa 2 (.t 28)),
 oo 30 (.ld none (.t 29)),
 om 31 (.t 1),
 oo 32 (.ca .any true (.f Js) [.t 30,.t 31]),
 om 1 (.t 32)]))))))
 (rg [om 10 (.t 5),
 oo 11 (.bi .add 0 (.t 10) (i6 1)),
 om 5 (.t 11)]))))))
 (.sq (rg [om 33 (.t 1),
 om 4 (.t 33)])
 (.rt)))) }
theorem Zbh:ZS Go.Proofs.Tryz.prog VA WP=true:=by kernel_rfl
def WQ:F2 :=
 { nt:=28,res:=[.t 4 [0]],body :=
  (.sq (rg [om 4 (i6 0)])
 (.sq (.sq (rg [om 5 (i6 0)])
 (.bl 0 (.lp [0,1,5] [] (.sq (.sq (rg [om 6 (.t 5),
 om 7 (.t 0),
 oo 8 (.ln (.t 7)),
 oo 9 (.bi .lss 0 (.t 6) (.t 8))])
 (.cd (.t 9) (.sk)
 (.ex 0)))
 (.sq (.bl 1 (.sq (rg [om 12 (.t 0),
 om 13 (.t 5),
 om 14 (.t 1),
 oo 15 (.ca .pure false (.f JP) [.t 14]),
 oo 16 (.ia 2 (.t 12) (.t 13)),
 oo 17 (.fa 0 (.t 16)),
 on1 (.st 1 (.t 17) (.t 15))])
 (.sq (rg [om 18 (.t 1),
 oo 19 (.bi .add 0 (.t 18) (i6 1)),
 om 1 (.t 19)])
 (.sq (rg [om 20 (.t 0),
 om 21 (.t 5),
 om 22 (.t 1),
 oo 23 (.ia 2 (.t 20) (.t 21)),
 oo 24 (.fa 1 (.t 23)),
 on1 (.st 1 (.t 24) (.t 22))])
 (rg [om 25 (.t 1),
 oo 26 (.bi .add 0 (.t 25) (i6 1)),
 om 1 (.t 26)])))))
 (rg [om 10 (.t 5),
 oo 11 (.bi .add 0 (.t 10) (i6 1)),
 om 5 (.t 11)]))))))
 (.sq (rg [om 27 (.t 1),
 om 4 (.t 27)])
 (.rt)))) }
theorem Zbi:ZS Go.Proofs.Tryz.prog VB WQ=true:=by kernel_rfl
end Go.Fd

/-
  THE TEXT OF A MARK; THE MARKS OF NUMBERS AND TEXTS. Own work.
-/
namespace Go.Fd
set_option maxRecDepth 20000
abbrev Zhy(_:Int)(k:Int):Int:=k
abbrev XN(_:Int):Nat:=1
def mt(q:Nat)(o:ByteArray):ByteArray:=if q=0 then o else mt (q / 10) (⟨#[UInt8.ofNat (48+q % 10)]⟩++o)
 termination_by q
 decreasing_by omega
theorem ZpT{q:Nat}{o:ByteArray}(h:0<q):mt q o=mt (q / 10) (⟨#[UInt8.ofNat (48+q % 10)]⟩++o):=by
 rw[mt,if_neg (by omega)]
theorem ZmL{o:ByteArray}:mt 0 o=o:=by rw[mt,if_pos rfl]
def ZiY(k:Int):ByteArray:=if k<=0 then ⟨#[109,48]⟩ else ⟨#[109]⟩++mt k.toNat ⟨#[]⟩
theorem UB(k:Int)(h:k<=4611686018427387904)(lvl:Nat)(S:Sto):Sem Go.Proofs.Tryz.prog JP lvl [iI k] S (iS (ZiY k)) S:=by
 refine Zb Zcm trivial ?_
 simp only[UA,EVA,seval]
 unfold ZiY
 refine Zp (fun h0=>?_) (fun h0=>?_)
 ·rw[if_pos h0]
 ·rw[if_neg h0]
  obtain⟨K,hK⟩:∃ K:Nat,k=K:=⟨k.toNat,by omega⟩
  subst hK
  rw[Int.toNat_natCast]
  refine ZW (α:=Nat×ByteArray) K (fun j y=>⟨lvl,[(0,iI y.1),(3,iS y.2)],[],S⟩) (fun j y=>y.1+j<=K/\mt y.1 y.2=mt K ⟨#[]⟩/\y.1*10 ^ y.2.size<=K/\y.2.size<=19) (K,⟨#[]⟩) ⟨by simp only[EVA,seval],by simp only[EVA,seval]⟩ ⟨Nat.le_refl _,rfl,Nat.le_of_eq (Nat.mul_one K),(by decide:(0:Nat)<=19)⟩ ?_
  intro j y hj hA
  obtain⟨q,o⟩:=y
  obtain⟨h1,h2,h3,h4⟩:=hA
  simp only at h1 h2 h3 h4
  simp only[EVA,seval]
  refine Zp (fun hq=>?_) (fun hq=>?_)
  ·have hq0:0<q:=by omega
   have hby:byR [[Tr.v (Value.int IntKind.u8 (48+(q:Int) % 10))]]=some [UInt8.ofNat (48+q % 10)]:=by
    have e:(48+(q:Int) % 10).toNat=48+q % 10:=by omega
    simp only[byR,Option.map_some,e]
   have h5:o.size<19:=by
    apply Classical.byContradiction
    intro hc
    have e:o.size=19:=by omega
    rw[e] at h3
    have:1*10 ^ 19<=q*10 ^ 19:=Nat.mul_le_mul_right _ hq0
    omega
   have h6:q / 10*10 ^ (o.size+1)<=K:=by
    refine Nat.le_trans ?_ h3
    rw[Nat.pow_succ,Nat.mul_comm (10 ^ o.size) 10,<-Nat.mul_assoc]
    exact Nat.mul_le_mul_right _ (by omega)
   rw[hby]
   simp only[EVA,seval]
   have hs:(ByteArray.mk #[UInt8.ofNat (48+q % 10)]++o).size=o.size+1:=by
    rw[ByteArray.size_append,Nat.add_comm];rfl
   have e8:QO .u8 (48+(q:Int) % 10):=by
    constructor
    ·show (0:Int)<=_;omega
    ·show _<=(255:Int);omega
   refine⟨by rw[Zd];omega,e8,?_,by rw[Zd];omega,Ze (q / 10,ByteArray.mk #[UInt8.ofNat (48+q % 10)]++o) (by omega) ?_ ⟨by simp only;omega,?_,?_,?_⟩⟩
   ·show 1+o.size<=4294967296
    omega
   ·rfl
   ·rw[<-h2,ZpT hq0]
   ·simp only[hs];exact h6
   ·simp only[hs];omega
  ·have:q=0:=by omega
   subst this
   rw[<-h2,ZmL]
   refine⟨?_,rfl⟩
   show 1+o.size<=4294967296
   omega
abbrev ZmM(_:ByteArray)(k:Int):ByteArray:=ZiY k
abbrev Zei(_:ByteArray):Nat:=1
end Go.Fd

/-
  WHAT THE MARKING FUNCTIONS DO (printed by lawgen.py). Own work.
-/
namespace Go.Fd
set_option maxRecDepth 20000
theorem Zal:MarkS Go.Proofs.Tryz.prog Js (fun n:Int=>[tv n]) Zhy XN (fun _=>True):=by
 intro a k lvl S id p es r0 kk hw ver st cap hid hv hst h0 hk hl hB
 have hne:id.1≠lvl:=by omega
 have hgp:∀ r,getp (Wc es p r) p=some r:=fun r=>Q3 hv
 refine Zb Zck trivial ?_
 simp only[Uy,EVA,seval]
 refine ZW (α:=Unit) a.length (fun j _=>⟨lvl,[(0,.hd id p 0 a.length cap st),(1,iI (kJ XN a k j)),(5,iI j)],[],ZF S id (.ar kk (Wc es p ((lJ Zhy XN a k j).map (fun n:Int=>[tv n]))) true hw ver)⟩) (fun _ _=>True) () ⟨by simp only[Vi hne,EVA,seval],by (simp only[ZaH,ZbX,EVA,seval]) <;> rfl⟩ trivial ?_
 intro j _ hj _
 simp only[EVA,seval]
 refine Zp (fun hlt=>?_) (fun hge=>?_)
 ·have hja:j<a.length:=by omega
  obtain⟨R,hjR,hR,hR'⟩:=Ze1 Zhy XN (fun n:Int=>[tv n]) (k:=k) hja
  have hge2:=Zhd XN (a:=a) (k:=k) (j:=j+1)
  rw[Qo XN hja] at hge2
  have hge3:=Zhe XN (a:=a) (k:=k) (j:=j)
  rw[hR]
  try simp only[XN] at hge2
  try simp only[Jd hne,V9 hne,Vj,Xq,hst,hgp,Wu hjR,UU hv hjR,Nat.zero_add,hja,Vi hne,tv,EVA,seval]
  refine⟨by rw[Zd];omega,⟨by rw[Zd];omega,Ze () hja ?_ trivial⟩⟩
  rw[Qo XN hja,hR']
  simp only[XN,Zhy,tv,Int.natCast_add,Int.natCast_one]
  try rfl
 ·have:j=a.length:=by omega
  subst this
  rw[ZcV,Ze0]
  exact⟨rfl,rfl⟩
def Zgb(x:TNode)(k:Int):TNode:={ control:=k,parent:=k+1,links:=mL Zhy XN x.links (k+1+1) }
def Ql(x:TNode):Nat:=1+1+nL XN x.links
theorem Zhp:MarkS Go.Proofs.Tryz.prog VA ZR Zgb Ql (WH 4294967296):=by
 intro a k lvl S id p es r0 kk hw ver st cap hid hv hst h0 hk hl hB
 have hne:id.1≠lvl:=by omega
 have hgp:∀ r,getp (Wc es p r) p=some r:=fun r=>Q3 hv
 refine Zb Zbh trivial ?_
 simp only[WP,EVA,seval]
 refine ZW (α:=Unit) a.length (fun j _=>⟨lvl,[(0,.hd id p 0 a.length cap st),(1,iI (kJ Ql a k j)),(5,iI j)],[],ZF S id (.ar kk (Wc es p ((lJ Zgb Ql a k j).map ZR)) true hw ver)⟩) (fun _ _=>True) () ⟨by simp only[Vi hne,EVA,seval],by (simp only[ZaH,ZbX,EVA,seval]) <;> rfl⟩ trivial ?_
 intro j _ hj _
 simp only[EVA,seval]
 refine Zp (fun hlt=>?_) (fun hge=>?_)
 ·have hja:j<a.length:=by omega
  obtain⟨R,hjR,hR,hR'⟩:=Ze1 Zgb Ql ZR (k:=k) hja
  have hge2:=Zhd Ql (a:=a) (k:=k) (j:=j+1)
  rw[Qo Ql hja] at hge2
  have hge3:=Zhe Ql (a:=a) (k:=k) (j:=j)
  rw[hR]
  try simp only[Ql] at hge2
  have hb:=hB _ (List.getElem_mem hja)
  have b0:(a[j]).links.length<=4294967296:=hb
  try simp only[Jd hne,V9 hne,Vj,Xq,hst,hgp,Wu hjR,UU hv hjR,Nat.zero_add,hja,List.length_map,ZR,EVA,seval]
  refine⟨by rw[Zd];omega,⟨by rw[Zd];omega,?_⟩⟩
  simp only[ZcI]
  refine ZjR Zal hid hv (by omega) (by omega) b0 (fun _ _=>trivial) hjR rfl (by simp only[List.length_map]) ?_
  simp only[List.set_cons_succ,List.set_cons_zero,Vi hne,EVA,seval]
  refine⟨by rw[Zd];omega,Ze () hja ?_ trivial⟩
  rw[Qo Ql hja,hR']
  simp only[Ql,Zgb,ZR,Int.natCast_add,Int.natCast_one,Int.add_assoc]
  try rfl
 ·have:j=a.length:=by omega
  subst this
  rw[ZcV,Ze0]
  exact⟨rfl,rfl⟩
theorem Zfp:MarkS Go.Proofs.Tryz.prog YJ (fun n:ByteArray=>[ts n]) ZmM Zei (fun x=>x.size<=4294967296):=by
 intro a k lvl S id p es r0 kk hw ver st cap hid hv hst h0 hk hl hB
 have hne:id.1≠lvl:=by omega
 have hgp:∀ r,getp (Wc es p r) p=some r:=fun r=>Q3 hv
 refine Zb Zak trivial ?_
 simp only[XB,EVA,seval]
 refine ZW (α:=Unit) a.length (fun j _=>⟨lvl,[(0,.hd id p 0 a.length cap st),(1,iI (kJ Zei a k j)),(5,iI j)],[],ZF S id (.ar kk (Wc es p ((lJ ZmM Zei a k j).map (fun n:ByteArray=>[ts n]))) true hw ver)⟩) (fun _ _=>True) () ⟨by simp only[Vi hne,EVA,seval],by (simp only[ZaH,ZbX,EVA,seval]) <;> rfl⟩ trivial ?_
 intro j _ hj _
 simp only[EVA,seval,Zl,men]
 refine Zp (fun hlt=>?_) (fun hge=>?_)
 ·have hja:j<a.length:=by omega
  obtain⟨R,hjR,hR,hR'⟩:=Ze1 ZmM Zei (fun n:ByteArray=>[ts n]) (k:=k) hja
  have hge2:=Zhd Zei (a:=a) (k:=k) (j:=j+1)
  rw[Qo Zei hja] at hge2
  have hge3:=Zhe Zei (a:=a) (k:=k) (j:=j)
  rw[hR]
  try simp only[Zei] at hge2
  try simp only[Jd hne,V9 hne,Vj,Xq,hst,hgp,Wu hjR,UU hv hjR,Nat.zero_add,hja,Vi hne,List.length_map,tv,EVA,seval,Zl,men]
  refine Za (UB (kJ Zei a k j) (by omega)) ?_
  simp only[Jd hne,V9 hne,Vj,Xq,hst,hgp,Wu hjR,UU hv hjR,Nat.zero_add,hja,Vi hne,EVA,seval]
  refine⟨by rw[Zd];omega,⟨by rw[Zd];omega,Ze () hja ?_ trivial⟩⟩
  rw[Qo Zei hja,hR']
  simp only[Zei,ZmM,Int.natCast_add,Int.natCast_one]
  try rfl
 ·have:j=a.length:=by omega
  subst this
  rw[ZcV,Ze0]
  exact⟨rfl,rfl⟩
def Zgc(x:TWire)(k:Int):TWire:={ name:=ZiY (k),link:=k+1 }
def W6(x:TWire):Nat:=1+1
theorem Zhq:MarkS Go.Proofs.Tryz.prog VB Jj Zgc W6 (X4 4294967296):=by
 intro a k lvl S id p es r0 kk hw ver st cap hid hv hst h0 hk hl hB
 have hne:id.1≠lvl:=by omega
 have hgp:∀ r,getp (Wc es p r) p=some r:=fun r=>Q3 hv
 refine Zb Zbi trivial ?_
 simp only[WQ,EVA,seval]
 refine ZW (α:=Unit) a.length (fun j _=>⟨lvl,[(0,.hd id p 0 a.length cap st),(1,iI (kJ W6 a k j)),(5,iI j)],[],ZF S id (.ar kk (Wc es p ((lJ Zgc W6 a k j).map Jj)) true hw ver)⟩) (fun _ _=>True) () ⟨by simp only[Vi hne,EVA,seval],by (simp only[ZaH,ZbX,EVA,seval]) <;> rfl⟩ trivial ?_
 intro j _ hj _
 simp only[EVA,seval,Zl,men]
 refine Zp (fun hlt=>?_) (fun hge=>?_)
 ·have hja:j<a.length:=by omega
  obtain⟨R,hjR,hR,hR'⟩:=Ze1 Zgc W6 Jj (k:=k) hja
  have hge2:=Zhd W6 (a:=a) (k:=k) (j:=j+1)
  rw[Qo W6 hja] at hge2
  have hge3:=Zhe W6 (a:=a) (k:=k) (j:=j)
  rw[hR]
  try simp only[W6] at hge2
  have hb:=hB _ (List.getElem_mem hja)
  have b0:(a[j]).name.size<=4294967296:=hb
  try simp only[Jj,seval]
  refine Za (UB (kJ W6 a k j) (by omega)) ?_
  simp only[Jd hne,V9 hne,Vj,Xq,hst,hgp,Wu hjR,UU hv hjR,Nat.zero_add,hja,Vi hne,EVA,seval]
  refine⟨by rw[Zd];omega,⟨by rw[Zd];omega,⟨by rw[Zd];omega,Ze () hja ?_ trivial⟩⟩⟩
  rw[Qo W6 hja,hR']
  simp only[W6,Zgc,Jj,Int.natCast_add,Int.natCast_one,Int.add_assoc]
  try rfl
 ·have:j=a.length:=by omega
  subst this
  rw[ZcV,Ze0]
  exact⟨rfl,rfl⟩
def Zbz(x:TControl)(k:Int):TControl:={ name:=ZiY (k),ports:=k+1,kind_:=k+1+1 }
def JZ(x:TControl):Nat:=1+1+1
theorem Zej:MarkS Go.Proofs.Tryz.prog Ym Zi Zbz JZ (ZA 4294967296):=by
 intro a k lvl S id p es r0 kk hw ver st cap hid hv hst h0 hk hl hB
 have hne:id.1≠lvl:=by omega
 have hgp:∀ r,getp (Wc es p r) p=some r:=fun r=>Q3 hv
 refine Zb Ds trivial ?_
 simp only[Xl,EVA,seval]
 refine ZW (α:=Unit) a.length (fun j _=>⟨lvl,[(0,.hd id p 0 a.length cap st),(1,iI (kJ JZ a k j)),(5,iI j)],[],ZF S id (.ar kk (Wc es p ((lJ Zbz JZ a k j).map Zi)) true hw ver)⟩) (fun _ _=>True) () ⟨by simp only[Vi hne,EVA,seval],by (simp only[ZaH,ZbX,EVA,seval]) <;> rfl⟩ trivial ?_
 intro j _ hj _
 simp only[EVA,seval,Zl,men]
 refine Zp (fun hlt=>?_) (fun hge=>?_)
 ·have hja:j<a.length:=by omega
  obtain⟨R,hjR,hR,hR'⟩:=Ze1 Zbz JZ Zi (k:=k) hja
  have hge2:=Zhd JZ (a:=a) (k:=k) (j:=j+1)
  rw[Qo JZ hja] at hge2
  have hge3:=Zhe JZ (a:=a) (k:=k) (j:=j)
  rw[hR]
  try simp only[JZ] at hge2
  have hb:=hB _ (List.getElem_mem hja)
  have b0:(a[j]).name.size<=4294967296:=hb
  try simp only[Zi,seval]
  refine Za (UB (kJ JZ a k j) (by omega)) ?_
  simp only[Jd hne,V9 hne,Vj,Xq,hst,hgp,Wu hjR,UU hv hjR,Nat.zero_add,hja,Vi hne,EVA,seval]
  refine⟨by rw[Zd];omega,⟨by rw[Zd];omega,⟨by rw[Zd];omega,⟨by rw[Zd];omega,Ze () hja ?_ trivial⟩⟩⟩⟩
  rw[Qo JZ hja,hR']
  simp only[JZ,Zbz,Zi,Int.natCast_add,Int.natCast_one,Int.add_assoc]
  try rfl
 ·have:j=a.length:=by omega
  subst this
  rw[ZcV,Ze0]
  exact⟨rfl,rfl⟩
end Go.Fd

/-
  The annotated codes of the functions, printed by a program of mine (gen.py), and the check that they belong to the program.
-/
namespace Go.Fd
def X9:F2 :=
 { nt:=23,res:=[.t 2 [4]],body :=
  (.sq (rg [om 2 (.k (.slice none 0 0))])
 (.sq (rg [om 5 (.t 0),
 oo 6 (.ln (.t 5)),
 oo 7 (.ms 3 [.string ⟨#[]⟩,.int .i64 0,.int .i64 0] (.t 6)),
 om 3 (.t 7)])
 (.sq (.sq (rg [om 4 (i6 0)])
 (.bl 0 (.lp [0,3,4] [224] (.sq (.sq (rg [om 8 (.t 4),
 om 9 (.t 0),
 oo 10 (.ln (.t 9)),
 oo 11 (.bi .lss 0 (.t 8) (.t 10))])
 (.cd (.t 11) (.sk)
 (.ex 0)))
 (.sq (.bl 1 (rg [om 14 (.t 3),
 om 15 (.t 4),
 om 16 (.t 0),
 om 17 (.t 4),
 oo 18 (.ia 3 (.t 16) (.t 17)),
 oo 19 (.ld (some 3) (.t 18)),
 oo 20 (.ca .pure true (.f Vx) [.t 19]),
 oo 21 (.ia 3 (.t 14) (.t 15)),
 on1 (.st 3 (.t 21) (.t 20))]))
 (rg [om 12 (.t 4),
 oo 13 (.bi .add 0 (.t 12) (i6 1)),
 om 4 (.t 13)]))))))
 (.sq (rg [om 22 (.t 3),
 om 2 (.t 22)])
 (.rt))))) }
theorem ZaT:ZS Go.Proofs.Tryz.prog Zy X9=true:=by kernel_rfl
def WR:F2 :=
 { nt:=39,res:=[.t 4 [0]],body :=
  (.sq (rg [oo 2 (.bt (.t 0)),
 oo 3 (.bt (.t 1)),
 om 4 (.k (.bool false))])
 (.sq (.sq (rg [oo 5 (.fa 0 (.t 2)),
 oo 6 (.ld none (.t 5)),
 oo 7 (.fa 0 (.t 3)),
 oo 8 (.ld none (.t 7)),
 oo 9 (.bi .neq 0 (.t 6) (.t 8))])
 (.cd (.t 9) (.sq (rg [om 4 (.k (.bool false))])
 (.rt))
 (.sk)))
 (.sq (.sq (rg [oo 10 (.fa 1 (.t 2)),
 oo 11 (.ld none (.t 10)),
 oo 12 (.fa 1 (.t 3)),
 oo 13 (.ld none (.t 12)),
 oo 14 (.ca .pure false (.f Qp) [.t 11,.t 13]),
 oo 15 (.nt (.t 14))])
 (.cd (.t 15) (.sq (rg [om 4 (.k (.bool false))])
 (.rt))
 (.sk)))
 (.sq (.sq (rg [oo 16 (.fa 2 (.t 2)),
 oo 17 (.ld none (.t 16)),
 oo 18 (.fa 2 (.t 3)),
 oo 19 (.ld none (.t 18)),
 oo 20 (.ca .pure false (.f Z5) [.t 17,.t 19]),
 oo 21 (.nt (.t 20))])
 (.cd (.t 21) (.sq (rg [om 4 (.k (.bool false))])
 (.rt))
 (.sk)))
 (.sq (.sq (rg [oo 22 (.fa 3 (.t 2)),
 oo 23 (.ld none (.t 22)),
 oo 24 (.fa 3 (.t 3)),
 oo 25 (.ld none (.t 24)),
 oo 26 (.bi .neq 0 (.t 23) (.t 25))])
 (.cd (.t 26) (.sq (rg [om 4 (.k (.bool false))])
 (.rt))
 (.sk)))
 (.sq (.sq (rg [oo 27 (.fa 4 (.t 2)),
 oo 28 (.ld none (.t 27)),
 oo 29 (.fa 4 (.t 3)),
 oo 30 (.ld none (.t 29)),
 oo 31 (.ca .pure false (.f Vz) [.t 28,.t 30]),
 oo 32 (.nt (.t 31))])
 (.cd (.t 32) (.sq (rg [om 4 (.k (.bool false))])
 (.rt))
 (.sk)))
 (.sq (.sq (rg [oo 33 (.fa 5 (.t 2)),
 oo 34 (.ld none (.t 33)),
 oo 35 (.fa 5 (.t 3)),
 oo 36 (.ld none (.t 35)),
 oo 37 (.ca .pure false (.f Qq) [.t 34,.t 36]),
 oo 38 (.nt (.t 37))])
 (.cd (.t 38) (.sq (rg [om 4 (.k (.bool false))])
 (.rt))
 (.sk)))
 (.sq (rg [om 4 (.k (.bool true))])
 (.rt))))))))) }
theorem Zbj:ZS Go.Proofs.Tryz.prog ZN WR=true:=by kernel_rfl
def WS:F2 :=
 { nt:=30,res:=[.t 4 [0]],body :=
  (.sq (rg [oo 2 (.bt (.t 0)),
 om 4 (i6 0)])
 (.sq (rg [oo 5 (.fa 1 (.t 2)),
 oo 6 (.ld none (.t 5)),
 om 7 (.t 1),
 oo 8 (.ca .pure false (.f Qr) [.t 6,.t 7]),
 om 1 (.t 8)])
 (.sq (.sq (rg [om 9 (.t 1),
 oo 10 (.bi .lss 0 (.t 9) (i6 0))])
 (.cd (.t 10) (.sq (rg [om 4 (i6 (-1))])
 (.rt))
 (.sk)))
 (.sq (rg [oo 11 (.fa 2 (.t 2)),
 oo 12 (.ld none (.t 11)),
 om 13 (.t 1),
 oo 14 (.ca .pure false (.f VC) [.t 12,.t 13]),
 om 1 (.t 14)])
 (.sq (.sq (rg [om 15 (.t 1),
 oo 16 (.bi .lss 0 (.t 15) (i6 0))])
 (.cd (.t 16) (.sq (rg [om 4 (i6 (-1))])
 (.rt))
 (.sk)))
 (.sq (rg [oo 17 (.fa 4 (.t 2)),
 oo 18 (.ld none (.t 17)),
 om 19 (.t 1),
 oo 20 (.ca .pure false (.f VD) [.t 18,.t 19]),
 om 1 (.t 20)])
 (.sq (.sq (rg [om 21 (.t 1),
 oo 22 (.bi .lss 0 (.t 21) (i6 0))])
 (.cd (.t 22) (.sq (rg [om 4 (i6 (-1))])
 (.rt))
 (.sk)))
 (.sq (rg [oo 23 (.fa 5 (.t 2)),
 oo 24 (.ld none (.t 23)),
 om 25 (.t 1),
 oo 26 (.ca .pure false (.f Qs) [.t 24,.t 25]),
 om 1 (.t 26)])
 (.sq (.sq (rg [om 27 (.t 1),
 oo 28 (.bi .lss 0 (.t 27) (i6 0))])
 (.cd (.t 28) (.sq (rg [om 4 (i6 (-1))])
 (.rt))
 (.sk)))
 (.sq (rg [om 29 (.t 1),
 om 4 (.t 29)])
 (.rt))))))))))) }
theorem Zbk:ZS Go.Proofs.Tryz.prog ZO WS=true:=by kernel_rfl
def WT:F2 :=
 { nt:=27,res:=[.c 2 (some 6) [0,4,2,0,2,3]],body :=
  (.sq (rg [oo 1 (.bt (.t 0)),
 oo 2 (.al [.int .i64 0,.slice none 0 0,.slice none 0 0,.int .i64 0,.slice none 0 0,.slice none 0 0] [])])
 (.sq (rg [oo 3 (.al [.int .i64 0,.slice none 0 0,.slice none 0 0,.int .i64 0,.slice none 0 0,.slice none 0 0] [])])
 (.sq (rg [oo 4 (.fa 0 (.t 1)),
 oo 5 (.ld none (.t 4)),
 oo 6 (.fa 0 (.t 3)),
 on1 (.st 1 (.t 6) (.t 5))])
 (.sq (rg [oo 7 (.fa 1 (.t 1)),
 oo 8 (.ld none (.t 7)),
 oo 9 (.ca .pure true (.f Qt) [.t 8]),
 oo 10 (.fa 1 (.t 3)),
 on1 (.st 1 (.t 10) (.t 9))])
 (.sq (rg [oo 11 (.fa 2 (.t 1)),
 oo 12 (.ld none (.t 11)),
 oo 13 (.ca .pure true (.f ZH) [.t 12]),
 oo 14 (.fa 2 (.t 3)),
 on1 (.st 1 (.t 14) (.t 13))])
 (.sq (rg [oo 15 (.fa 3 (.t 1)),
 oo 16 (.ld none (.t 15)),
 oo 17 (.fa 3 (.t 3)),
 on1 (.st 1 (.t 17) (.t 16))])
 (.sq (rg [oo 18 (.fa 4 (.t 1)),
 oo 19 (.ld none (.t 18)),
 oo 20 (.ca .pure true (.f VE) [.t 19]),
 oo 21 (.fa 4 (.t 3)),
 on1 (.st 1 (.t 21) (.t 20))])
 (.sq (rg [oo 22 (.fa 5 (.t 1)),
 oo 23 (.ld none (.t 22)),
 oo 24 (.ca .pure true (.f Qu) [.t 23]),
 oo 25 (.fa 5 (.t 3)),
 on1 (.st 1 (.t 25) (.t 24))])
 (.sq (rg [oo 26 (.ld (some 6) (.t 3)),
 on1 (.st 6 (.t 2) (.t 26))])
 (.rt)))))))))) }
theorem Zbl:ZS Go.Proofs.Tryz.prog Zk WT=true:=by kernel_rfl
def WU:F2 :=
 { nt:=13,res:=[.t 4 [0]],body :=
  (.sq (rg [oo 2 (.bt (.t 0)),
 om 4 (i6 0)])
 (.sq (rg [om 5 (.t 1),
 oo 6 (.fa 0 (.t 2)),
 oo 7 (.ld none (.t 6)),
 oo 8 (.lg (.t 7)),
 oo 9 (.bi .sub 0 (.t 5) (.t 8)),
 om 1 (.t 9)])
 (.sq (.sq (rg [om 10 (.t 1),
 oo 11 (.bi .lss 0 (.t 10) (i6 0))])
 (.cd (.t 11) (.sq (rg [om 4 (i6 (-1))])
 (.rt))
 (.sk)))
 (.sq (rg [om 12 (.t 1),
 om 4 (.t 12)])
 (.rt))))) }
theorem Zbm:ZS Go.Proofs.Tryz.prog Vw WU=true:=by kernel_rfl
def WV:F2 :=
 { nt:=14,res:=[.c 2 (some 3) [0,0,0]],body :=
  (.sq (rg [oo 1 (.bt (.t 0)),
 oo 2 (.al [.string ⟨#[]⟩,.int .i64 0,.int .i64 0] [])])
 (.sq (rg [oo 3 (.al [.string ⟨#[]⟩,.int .i64 0,.int .i64 0] [])])
 (.sq (rg [oo 4 (.fa 0 (.t 1)),
 oo 5 (.ld none (.t 4)),
 oo 6 (.fa 0 (.t 3)),
 on1 (.st 1 (.t 6) (.t 5))])
 (.sq (rg [oo 7 (.fa 1 (.t 1)),
 oo 8 (.ld none (.t 7)),
 oo 9 (.fa 1 (.t 3)),
 on1 (.st 1 (.t 9) (.t 8))])
 (.sq (rg [oo 10 (.fa 2 (.t 1)),
 oo 11 (.ld none (.t 10)),
 oo 12 (.fa 2 (.t 3)),
 on1 (.st 1 (.t 12) (.t 11))])
 (.sq (rg [oo 13 (.ld (some 3) (.t 3)),
 on1 (.st 3 (.t 2) (.t 13))])
 (.rt))))))) }
theorem Zbn:ZS Go.Proofs.Tryz.prog Vx WV=true:=by kernel_rfl
def WW:F2 :=
 { nt:=20,res:=[.t 4 [0]],body :=
  (.sq (rg [oo 2 (.bt (.t 0)),
 oo 3 (.bt (.t 1)),
 om 4 (.k (.bool false))])
 (.sq (.sq (rg [oo 5 (.fa 0 (.t 2)),
 oo 6 (.ld none (.t 5)),
 oo 7 (.fa 0 (.t 3)),
 oo 8 (.ld none (.t 7)),
 oo 9 (.bi .neq 0 (.t 6) (.t 8))])
 (.cd (.t 9) (.sq (rg [om 4 (.k (.bool false))])
 (.rt))
 (.sk)))
 (.sq (.sq (rg [oo 10 (.fa 1 (.t 2)),
 oo 11 (.ld none (.t 10)),
 oo 12 (.fa 1 (.t 3)),
 oo 13 (.ld none (.t 12)),
 oo 14 (.bi .neq 0 (.t 11) (.t 13))])
 (.cd (.t 14) (.sq (rg [om 4 (.k (.bool false))])
 (.rt))
 (.sk)))
 (.sq (.sq (rg [oo 15 (.fa 2 (.t 2)),
 oo 16 (.ld none (.t 15)),
 oo 17 (.fa 2 (.t 3)),
 oo 18 (.ld none (.t 17)),
 oo 19 (.bi .neq 0 (.t 16) (.t 18))])
 (.cd (.t 19) (.sq (rg [om 4 (.k (.bool false))])
 (.rt))
 (.sk)))
 (.sq (rg [om 4 (.k (.bool true))])
 (.rt)))))) }
theorem Zbo:ZS Go.Proofs.Tryz.prog Vy WW=true:=by kernel_rfl
def Dk:F2 :=
 { nt:=23,res:=[.t 2 [4]],body :=
  (.sq (rg [om 2 (.k (.slice none 0 0))])
 (.sq (rg [om 5 (.t 0),
 oo 6 (.ln (.t 5)),
 oo 7 (.ms 3 [.int .i64 0,.int .i64 0,.slice none 0 0] (.t 6)),
 om 3 (.t 7)])
 (.sq (.sq (rg [om 4 (i6 0)])
 (.bl 0 (.lp [0,3,4] [224,640] (.sq (.sq (rg [om 8 (.t 4),
 om 9 (.t 0),
 oo 10 (.ln (.t 9)),
 oo 11 (.bi .lss 0 (.t 8) (.t 10))])
 (.cd (.t 11) (.sk)
 (.ex 0)))
 (.sq (.bl 1 (rg [om 14 (.t 3),
 om 15 (.t 4),
 om 16 (.t 0),
 om 17 (.t 4),
 oo 18 (.ia 3 (.t 16) (.t 17)),
 oo 19 (.ld (some 3) (.t 18)),
 oo 20 (.ca .pure true (.f Xb) [.t 19]),
 oo 21 (.ia 3 (.t 14) (.t 15)),
 on1 (.st 3 (.t 21) (.t 20))]))
 (rg [om 12 (.t 4),
 oo 13 (.bi .add 0 (.t 12) (i6 1)),
 om 4 (.t 13)]))))))
 (.sq (rg [om 22 (.t 3),
 om 2 (.t 22)])
 (.rt))))) }
theorem ZcG:ZS Go.Proofs.Tryz.prog Qt Dk=true:=by kernel_rfl
def Dl:F2 :=
 { nt:=23,res:=[.t 2 [3]],body :=
  (.sq (rg [om 2 (.k (.slice none 0 0))])
 (.sq (rg [om 5 (.t 0),
 oo 6 (.ln (.t 5)),
 oo 7 (.ms 2 [.string ⟨#[]⟩,.int .i64 0] (.t 6)),
 om 3 (.t 7)])
 (.sq (.sq (rg [om 4 (i6 0)])
 (.bl 0 (.lp [0,3,4] [224] (.sq (.sq (rg [om 8 (.t 4),
 om 9 (.t 0),
 oo 10 (.ln (.t 9)),
 oo 11 (.bi .lss 0 (.t 8) (.t 10))])
 (.cd (.t 11) (.sk)
 (.ex 0)))
 (.sq (.bl 1 (rg [om 14 (.t 3),
 om 15 (.t 4),
 om 16 (.t 0),
 om 17 (.t 4),
 oo 18 (.ia 2 (.t 16) (.t 17)),
 oo 19 (.ld (some 2) (.t 18)),
 oo 20 (.ca .pure true (.f Xc) [.t 19]),
 oo 21 (.ia 2 (.t 14) (.t 15)),
 on1 (.st 2 (.t 21) (.t 20))]))
 (rg [om 12 (.t 4),
 oo 13 (.bi .add 0 (.t 12) (i6 1)),
 om 4 (.t 13)]))))))
 (.sq (rg [om 22 (.t 3),
 om 2 (.t 22)])
 (.rt))))) }
theorem ZcH:ZS Go.Proofs.Tryz.prog Qu Dl=true:=by kernel_rfl
def Zam:F2 :=
 { nt:=21,res:=[.t 4 [0]],body :=
  (.sq (rg [oo 2 (.bt (.t 0)),
 oo 3 (.bt (.t 1)),
 om 4 (.k (.bool false))])
 (.sq (.sq (rg [oo 5 (.fa 0 (.t 2)),
 oo 6 (.ld none (.t 5)),
 oo 7 (.fa 0 (.t 3)),
 oo 8 (.ld none (.t 7)),
 oo 9 (.bi .neq 0 (.t 6) (.t 8))])
 (.cd (.t 9) (.sq (rg [om 4 (.k (.bool false))])
 (.rt))
 (.sk)))
 (.sq (.sq (rg [oo 10 (.fa 1 (.t 2)),
 oo 11 (.ld none (.t 10)),
 oo 12 (.fa 1 (.t 3)),
 oo 13 (.ld none (.t 12)),
 oo 14 (.bi .neq 0 (.t 11) (.t 13))])
 (.cd (.t 14) (.sq (rg [om 4 (.k (.bool false))])
 (.rt))
 (.sk)))
 (.sq (.sq (rg [oo 15 (.fa 2 (.t 2)),
 oo 16 (.ld none (.t 15)),
 oo 17 (.fa 2 (.t 3)),
 oo 18 (.ld none (.t 17)),
 oo 19 (.ca .pure false (.f Z5) [.t 16,.t 18]),
 oo 20 (.nt (.t 19))])
 (.cd (.t 20) (.sq (rg [om 4 (.k (.bool false))])
 (.rt))
 (.sk)))
 (.sq (rg [om 4 (.k (.bool true))])
 (.rt)))))) }
theorem Zek:ZS Go.Proofs.Tryz.prog Q6 Zam=true:=by kernel_rfl
def Zan:F2 :=
 { nt:=15,res:=[.t 4 [0]],body :=
  (.sq (rg [oo 2 (.bt (.t 0)),
 oo 3 (.bt (.t 1)),
 om 4 (.k (.bool false))])
 (.sq (.sq (rg [oo 5 (.fa 0 (.t 2)),
 oo 6 (.ld none (.t 5)),
 oo 7 (.fa 0 (.t 3)),
 oo 8 (.ld none (.t 7)),
 oo 9 (.bi .neq 0 (.t 6) (.t 8))])
 (.cd (.t 9) (.sq (rg [om 4 (.k (.bool false))])
 (.rt))
 (.sk)))
 (.sq (.sq (rg [oo 10 (.fa 1 (.t 2)),
 oo 11 (.ld none (.t 10)),
 oo 12 (.fa 1 (.t 3)),
 oo 13 (.ld none (.t 12)),
 oo 14 (.bi .neq 0 (.t 11) (.t 13))])
 (.cd (.t 14) (.sq (rg [om 4 (.k (.bool false))])
 (.rt))
 (.sk)))
 (.sq (rg [om 4 (.k (.bool true))])
 (.rt))))) }
theorem Zel:ZS Go.Proofs.Tryz.prog Q7 Zan=true:=by kernel_rfl
def Zao:F2 :=
 { nt:=12,res:=[.t 4 [0]],body :=
  (.sq (rg [oo 2 (.bt (.t 0)),
 om 4 (i6 0)])
 (.sq (rg [oo 5 (.fa 2 (.t 2)),
 oo 6 (.ld none (.t 5)),
 om 7 (.t 1),
 oo 8 (.ca .pure false (.f VC) [.t 6,.t 7]),
 om 1 (.t 8)])
 (.sq (.sq (rg [om 9 (.t 1),
 oo 10 (.bi .lss 0 (.t 9) (i6 0))])
 (.cd (.t 10) (.sq (rg [om 4 (i6 (-1))])
 (.rt))
 (.sk)))
 (.sq (rg [om 11 (.t 1),
 om 4 (.t 11)])
 (.rt))))) }
theorem Zem:ZS Go.Proofs.Tryz.prog Q8 Zao=true:=by kernel_rfl
def Zap:F2 :=
 { nt:=13,res:=[.t 4 [0]],body :=
  (.sq (rg [oo 2 (.bt (.t 0)),
 om 4 (i6 0)])
 (.sq (rg [om 5 (.t 1),
 oo 6 (.fa 0 (.t 2)),
 oo 7 (.ld none (.t 6)),
 oo 8 (.lg (.t 7)),
 oo 9 (.bi .sub 0 (.t 5) (.t 8)),
 om 1 (.t 9)])
 (.sq (.sq (rg [om 10 (.t 1),
 oo 11 (.bi .lss 0 (.t 10) (i6 0))])
 (.cd (.t 11) (.sq (rg [om 4 (i6 (-1))])
 (.rt))
 (.sk)))
 (.sq (rg [om 12 (.t 1),
 om 4 (.t 12)])
 (.rt))))) }
theorem Zen:ZS Go.Proofs.Tryz.prog Q9 Zap=true:=by kernel_rfl
def Zaq:F2 :=
 { nt:=15,res:=[.c 2 (some 3) [0,0,2]],body :=
  (.sq (rg [oo 1 (.bt (.t 0)),
 oo 2 (.al [.int .i64 0,.int .i64 0,.slice none 0 0] [])])
 (.sq (rg [oo 3 (.al [.int .i64 0,.int .i64 0,.slice none 0 0] [])])
 (.sq (rg [oo 4 (.fa 0 (.t 1)),
 oo 5 (.ld none (.t 4)),
 oo 6 (.fa 0 (.t 3)),
 on1 (.st 1 (.t 6) (.t 5))])
 (.sq (rg [oo 7 (.fa 1 (.t 1)),
 oo 8 (.ld none (.t 7)),
 oo 9 (.fa 1 (.t 3)),
 on1 (.st 1 (.t 9) (.t 8))])
 (.sq (rg [oo 10 (.fa 2 (.t 1)),
 oo 11 (.ld none (.t 10)),
 oo 12 (.ca .pure true (.f ZH) [.t 11]),
 oo 13 (.fa 2 (.t 3)),
 on1 (.st 1 (.t 13) (.t 12))])
 (.sq (rg [oo 14 (.ld (some 3) (.t 3)),
 on1 (.st 3 (.t 2) (.t 14))])
 (.rt))))))) }
theorem Zeo:ZS Go.Proofs.Tryz.prog Xb Zaq=true:=by kernel_rfl
def Zar:F2 :=
 { nt:=11,res:=[.c 2 (some 2) [0,0]],body :=
  (.sq (rg [oo 1 (.bt (.t 0)),
 oo 2 (.al [.string ⟨#[]⟩,.int .i64 0] [])])
 (.sq (rg [oo 3 (.al [.string ⟨#[]⟩,.int .i64 0] [])])
 (.sq (rg [oo 4 (.fa 0 (.t 1)),
 oo 5 (.ld none (.t 4)),
 oo 6 (.fa 0 (.t 3)),
 on1 (.st 1 (.t 6) (.t 5))])
 (.sq (rg [oo 7 (.fa 1 (.t 1)),
 oo 8 (.ld none (.t 7)),
 oo 9 (.fa 1 (.t 3)),
 on1 (.st 1 (.t 9) (.t 8))])
 (.sq (rg [oo 10 (.ld (some 2) (.t 3)),
 on1 (.st 2 (.t 2) (.t 10))])
 (.rt)))))) }
theorem Zep:ZS Go.Proofs.Tryz.prog Xc Zar=true:=by kernel_rfl
end Go.Fd

/-
  MARKING STRUCTS; WHETHER MARKS ARE HELD (printed by lawgen.py). Own work.
-/
namespace Go.Fd
set_option maxRecDepth 20000
def VX(x:TBigraph):Nat:=nL Ql x.nodes+nL XN x.sites+nL Zei x.outer+nL W6 x.inner
theorem Zcn(x:TBigraph)(k:Int)(lvl:Nat)(S:Sto)(i1 i2 i3 i4:Oid)(k1 h1 v1 k2 h2 v2 k3 h3 v3 k4 h4 v4:Nat)(c1 c2 c3 c4:Option Nat)(l1:i1.1<lvl)(l2:i2.1<lvl)(l3:i3.1<lvl)(l4:i4.1<lvl)(n2_1:i2≠i1)(n3_1:i3≠i1)(n3_2:i3≠i2)(n4_1:i4≠i1)(n4_2:i4≠i2)(n4_3:i4≠i3)(s1:S i1=some (.ar k1 (x.nodes.map ZR) true h1 v1))(s2:S i2=some (.ar k2 (rI x.sites) true h2 v2))(s3:S i3=some (.ar k3 (rS x.outer) true h3 v3))(s4:S i4=some (.ar k4 (x.inner.map Jj) true h4 v4))(h0:0<=k)(hk:k+VX x<=4611686018427387904)(hb:Zv 4294967296 x) :
  Sem Go.Proofs.Tryz.prog Jp lvl [.ag [iI x.roots,.hd i1 [] 0 x.nodes.length c1 h1,.hd i2 [] 0 x.sites.length c2 h2,iI x.edges,.hd i3 [] 0 x.outer.length c3 h3,.hd i4 [] 0 x.inner.length c4 h4],iI k] S (iI (k+VX x)) (ZF (ZF (ZF (ZF S i1 (.ar k1 (((mL Zgb Ql x.nodes (k))).map ZR) true h1 v1)) i2 (.ar k2 (rI (mL Zhy XN x.sites (k+(nL Ql x.nodes:Nat)))) true h2 v2)) i3 (.ar k3 (rS (mL ZmM Zei x.outer (k+(nL Ql x.nodes:Nat)+(nL XN x.sites:Nat)))) true h3 v3)) i4 (.ar k4 (((mL Zgc W6 x.inner (k+(nL Ql x.nodes:Nat)+(nL XN x.sites:Nat)+(nL Zei x.outer:Nat)))).map Jj) true h4 v4)):=by
 obtain⟨b0,b1,b2,b3,b4,b5,b6⟩:=hb
 have e1:i1.1≠lvl:=by omega
 have e2:i2.1≠lvl:=by omega
 have e3:i3.1≠lvl:=by omega
 have e4:i4.1≠lvl:=by omega
 simp only[VX] at hk
 refine Zb Zaj trivial ?_
 simp only[XA,EVA,seval]
 simp only[ZcI]
 refine DM Zhp l1 s1 (by omega) (by omega) b0 b1 ?_
 simp only[EVA,seval]
 simp only[ZcI]
 refine DM Zal l2 (by rw[ZaO n2_1];exact s2) (by omega) (by omega) b2 (fun _ _=>trivial) ?_
 simp only[EVA,seval]
 simp only[ZcI]
 refine DM Zfp l3 (by rw[ZaO n3_2,ZaO n3_1];exact s3) (by omega) (by omega) b3 b4 ?_
 simp only[EVA,seval]
 simp only[ZcI]
 refine DM Zhq l4 (by rw[ZaO n4_3,ZaO n4_2,ZaO n4_1];exact s4) (by omega) (by omega) b5 b6 ?_
 simp only[EVA,seval]
 simp only[VX,Int.natCast_add,<-Int.add_assoc]
 try exact⟨rfl,rfl⟩
theorem UC{x:TBigraph}{k:Int}{lvl a1 a2 a3 a4:Nat}{out:Sto}{k1 h1 v1 k2 h2 v2 k3 h3 v3 k4 h4 v4:Nat}{c1 c2 c3 c4:Option Nat}{env:List (Nat×IV)}{loc:List (Nat×Ob)}{d:Option Nat}{K:St->Prop}(n2_1:a2≠a1)(n3_1:a3≠a1)(n3_2:a3≠a2)(n4_1:a4≠a1)(n4_2:a4≠a2)(n4_3:a4≠a3)(s1:lkO a1 loc=some (.ar k1 (x.nodes.map ZR) true h1 v1))(s2:lkO a2 loc=some (.ar k2 (rI x.sites) true h2 v2))(s3:lkO a3 loc=some (.ar k3 (rS x.outer) true h3 v3))(s4:lkO a4 loc=some (.ar k4 (x.inner.map Jj) true h4 v4))(h0:0<=k)(hk:k+VX x<=4611686018427387904)(hb:Zv 4294967296 x)
  (hK:K ⟨lvl,ptd d (iI (k+VX x)) env,(ptO a4 (.ar k4 (((mL Zgc W6 x.inner (k+(nL Ql x.nodes:Nat)+(nL XN x.sites:Nat)+(nL Zei x.outer:Nat)))).map Jj) true h4 v4) (ptO a3 (.ar k3 (rS (mL ZmM Zei x.outer (k+(nL Ql x.nodes:Nat)+(nL XN x.sites:Nat)))) true h3 v3) (ptO a2 (.ar k2 (rI (mL Zhy XN x.sites (k+(nL Ql x.nodes:Nat)))) true h2 v2) (ptO a1 (.ar k1 (((mL Zgb Ql x.nodes (k))).map ZR) true h1 v1) loc)))),out⟩) :
  kcy (Sem Go.Proofs.Tryz.prog) Jp true lvl env loc out d K [.ag [iI x.roots,.hd (lvl,a1) [] 0 x.nodes.length c1 h1,.hd (lvl,a2) [] 0 x.sites.length c2 h2,iI x.edges,.hd (lvl,a3) [] 0 x.outer.length c3 h3,.hd (lvl,a4) [] 0 x.inner.length c4 h4],iI k]:=by
 refine Vv (r:=iI (k+VX x)) (ptO a4 (.ar k4 (((mL Zgc W6 x.inner (k+(nL Ql x.nodes:Nat)+(nL XN x.sites:Nat)+(nL Zei x.outer:Nat)))).map Jj) true h4 v4) (ptO a3 (.ar k3 (rS (mL ZmM Zei x.outer (k+(nL Ql x.nodes:Nat)+(nL XN x.sites:Nat)))) true h3 v3) (ptO a2 (.ar k2 (rI (mL Zhy XN x.sites (k+(nL Ql x.nodes:Nat)))) true h2 v2) (ptO a1 (.ar k1 (((mL Zgb Ql x.nodes (k))).map ZR) true h1 v1) loc)))) out (fun _ _=>rfl) ?_ ⟨trivial,hK⟩
 rw[Q4,Q4,Q4,Q4]
 exact Zcn x k (lvl+1) _ (lvl,a1) (lvl,a2) (lvl,a3) (lvl,a4) k1 h1 v1 k2 h2 v2 k3 h3 v3 k4 h4 v4 c1 c2 c3 c4 (Nat.lt_succ_self _) (Nat.lt_succ_self _) (Nat.lt_succ_self _) (Nat.lt_succ_self _) (fun e=>n2_1 (congrArg Prod.snd e)) (fun e=>n3_1 (congrArg Prod.snd e)) (fun e=>n3_2 (congrArg Prod.snd e)) (fun e=>n4_1 (congrArg Prod.snd e)) (fun e=>n4_2 (congrArg Prod.snd e)) (fun e=>n4_3 (congrArg Prod.snd e)) (by rw[Yg];exact s1) (by rw[Yg];exact s2) (by rw[Yg];exact s3) (by rw[Yg];exact s4) h0 hk hb
theorem Zfq(a:List Int)(k:Int)(hl:a.length<=4294967296)(h0:0<=k)(hk:k+nL XN a<=4611686018427387904)(lvl:Nat)(S:Sto):Sem Go.Proofs.Tryz.prog Yy lvl [.tr (.sl (rI (mL Zhy XN a k))),iI k] S (iI (k+nL XN a)) S:=by
 refine Zb Zcl trivial ?_
 simp only[Uz,EVA,seval]
 refine ZW (α:=Unit) a.length (fun j _=>⟨lvl,[(0,.tr (.sl (rI (mL Zhy XN a k)))),(1,iI (kJ XN a k j)),(5,iI j)],[],S⟩) (fun _ _=>True) () ⟨by simp only[EVA,seval],by (simp only[ZaH,EVA,seval]) <;> rfl⟩ trivial ?_
 intro j _ hj _
 simp only[List.length_map,Qe,EVA,seval]
 refine Zp (fun hlt=>?_) (fun hge=>?_)
 ·have hja:j<a.length:=by omega
  have ga:=ZpM (c:=(fun n:Int=>[tv n])) (m:=Zhy) (n:=XN) (k:=k) hja
  have hge2:=Zhd XN (a:=a) (k:=k) (j:=j+1)
  rw[Qo XN hja] at hge2
  have hge3:=Zhe XN (a:=a) (k:=k) (j:=j)
  try simp only[XN] at hge2
  simp only[ga,Zhy,Nat.zero_add,ne_eq,not_true_eq_false,EVA,seval]
  refine⟨by rw[Zd];omega,⟨by rw[Zd];omega,Ze () hja ?_ trivial⟩⟩
  rw[Qo XN hja]
  simp only[XN,Int.natCast_add,Int.natCast_one]
  try rfl
 ·have:j=a.length:=by omega
  subst this
  rw[ZcV]
end Go.Fd

/-
  HOW MANY MARKS A THING TAKES, AGAINST ITS SIZE (printed by lawgen.py). Own work.
-/
namespace Go.Fd
theorem ZpU(x:TNode):Zq 256 (fun l=>WI x l) (Ql x):=ZbZ (ZfV (by omega) (by omega) (Zum XN (fun _=>(by decide:1<=256)) x.links) ZjS) (by simp only[Ql];omega)
theorem ZpV(x:TWire):Zq 256 (fun l=>WJ x l) (W6 x):=ZbZ (ZfV (by omega) (by omega) (ZkM x.name.size) ZjS) (by simp only[W6];omega)
theorem Zfr(x:TBigraph):Zq 0 (fun l=>JD x l) (VX x):=ZbZ (ZfV (by omega) (by omega) (Zp7 (n:=Ql) (fun y=>ZbZ (ZpU y) (by omega)) x.nodes) (ZfV (by omega) (by omega) (Zum XN (fun _=>(by decide:1<=256)) x.sites) (ZfV (by omega) (by omega) (Zp7 (n:=Zei) (fun y=>Zmk y.size) x.outer) (ZfV (by omega) (by omega) (Zp7 (n:=W6) (fun y=>ZbZ (ZpV y) (by omega)) x.inner) ZjS)))) (by simp only[VX];omega)
theorem ZiZ(x:TControl):Zq 256 (fun l=>ZB x l) (JZ x):=ZbZ (ZfV (by omega) (by omega) (ZkM x.name.size) ZjS) (by simp only[JZ];omega)
end Go.Fd

/-
  WHAT HOLDS OF THE HELPERS OF THE LAWS (printed by lawgen.py). Own work.
-/
namespace Go.Fd
set_option maxRecDepth 20000
theorem ZpW{n:Nat}{l:Int}(h:0<=l):szN n l<=l:=by unfold szN;split <;> omega
theorem Zk1{α:Type}{f:α->Int->Int}:∀(a:List α) (l:Int),(∀ x∈a,∀ l:Int,0<=l->l<=1048576->f x l<=l)->0<=l->l<=1048576->szF f a l<=l
 | [],l,_,_,_=>Int.le_refl l
 | x::r,l,hf,h0,h1=>by
  simp only[szF]
  have:=hf x (by simp) l h0 h1
  split
  ·omega
  ·have h2:=Zk1 r (f x l) (fun y hy=>hf y (by simp [hy])) (by omega) (by omega)
   omega
theorem Zg3{α:Type}{f:α->Int->Int}(a:List α){l:Int}(hf:∀ x∈a,∀ l:Int,0<=l->l<=1048576->f x l<=l)(h0:0<=l)(h1:l<=1048576):szL f a l<=l:=by
 unfold szL
 split
 ·omega
 ·have:=Zk1 a (l-a.length) hf (by omega) (by omega)
  omega
theorem Dt{l m:Int}{g:Int->Int}(h0:0<=l)(h:m<=l)(hg:0<=m->g m<=m):DN m g<=l:=by
 unfold DN
 split
 ·omega
 ·have:=hg (by omega)
  omega
theorem Zkp:ZS Go.Proofs.Tryz.prog VC sz0=true:=by kernel_rfl
theorem UY(a:List Int)(hl:a.length<=9223372036854775807)(l:Int)(h0:0<=l)(h1:l<=1048576):szN a.length l<=l/\∀ lvl S,Sem Go.Proofs.Tryz.prog VC lvl [.tr (.sl (rI a)),iI l] S (iI (szN a.length l)) S:=by
 refine⟨ZpW h0,fun lvl S=>?_⟩
 have:=Zmf Zkp (rI a) l (by simpa using hl) h0 h1 lvl S
 simpa using this
theorem Zdc(x:TNode)(hb:WH 9223372036854775807 x)(l:Int)(h0:0<=l)(h1:l<=1048576):WI x l<=l/\∀ lvl S,Sem Go.Proofs.Tryz.prog Q8 lvl [.ag ((ZR x).map .tr),iI l] S (iI (WI x l)) S:=by
 have b0:x.links.length<=9223372036854775807:=hb
 refine⟨?_,fun lvl S=>?_⟩
 ·unfold WI
  have q0:=UY x.links b0 _ h0 h1
  refine Dt h0 q0.1 (fun p0=>?_)
  have r0:_<=(1048576:Int):=Int.le_trans q0.1 h1
  exact Int.le_refl _
 ·refine Zb Zem trivial ?_
  simp only[Zao,ZR,List.map_cons,List.map_nil,EVA,seval,Zl,men]
  unfold WI
  have q0:=UY x.links b0 l h0 h1
  refine Za q0.2 ?_
  simp only[EVA,seval]
  obtain⟨l1,hl1⟩:∃ m:Int,m=(szN x.links.length l):=⟨_,rfl⟩
  have u1:l1<=l:=by rw[hl1];exact q0.1
  rw[<-hl1]
  split
  ·rename_i hn;rw[DN,if_pos hn]
  rename_i hn0
  rw[DN,if_neg hn0]
theorem Zi0:ZS Go.Proofs.Tryz.prog Qr (Zpv 3 (some 3) Q8)=true:=by kernel_rfl
theorem Zco(a:List TNode)(hl:a.length<=9223372036854775807)(hb:∀ y∈a,WH 9223372036854775807 y)(l:Int)(h0:0<=l)(h1:l<=1048576):szL WI a l<=l/\∀ lvl S,Sem Go.Proofs.Tryz.prog Qr lvl [.tr (.sl (a.map ZR)),iI l] S (iI (szL WI a l)) S :=
 ⟨Zg3 a (fun x hx l h0 h1=>(Zdc x (hb x hx) l h0 h1).1) h0 h1,fun lvl S=>ZdJ Zi0 ZR WI Zih a l hl h0 h1 (fun x hx l h0 h1=>Zdc x (hb x hx) l h0 h1) lvl S⟩
theorem Zdd(x:TWire)(hb:X4 9223372036854775807 x)(l:Int)(h0:0<=l)(h1:l<=1048576):WJ x l<=l/\∀ lvl S,Sem Go.Proofs.Tryz.prog Q9 lvl [.ag ((Jj x).map .tr),iI l] S (iI (WJ x l)) S:=by
 have b0:x.name.size<=9223372036854775807:=hb
 refine⟨?_,fun lvl S=>?_⟩
 ·unfold WJ
  refine Dt h0 (m:=l-x.name.size) (by omega) (fun p0=>?_)
  have r0:_<=(1048576:Int):=Int.le_trans (show l-x.name.size<=l by omega) h1
  exact Int.le_refl _
 ·refine Zb Zen trivial ?_
  simp only[Zap,Jj,List.map_cons,List.map_nil,EVA,seval]
  unfold WJ
  refine⟨by rw[Zd];omega,?_⟩
  obtain⟨l1,hl1⟩:∃ m:Int,m=l-x.name.size:=⟨_,rfl⟩
  have u1:l1<=l:=by omega
  rw[<-hl1]
  split
  ·rename_i hn;rw[DN,if_pos hn]
  rename_i hn0
  rw[DN,if_neg hn0]
theorem Zi1:ZS Go.Proofs.Tryz.prog Qs (Zpv 2 (some 2) Q9)=true:=by kernel_rfl
theorem Zcp(a:List TWire)(hl:a.length<=9223372036854775807)(hb:∀ y∈a,X4 9223372036854775807 y)(l:Int)(h0:0<=l)(h1:l<=1048576):szL WJ a l<=l/\∀ lvl S,Sem Go.Proofs.Tryz.prog Qs lvl [.tr (.sl (a.map Jj)),iI l] S (iI (szL WJ a l)) S :=
 ⟨Zg3 a (fun x hx l h0 h1=>(Zdd x (hb x hx) l h0 h1).1) h0 h1,fun lvl S=>ZdJ Zi1 Jj WJ Zij a l hl h0 h1 (fun x hx l h0 h1=>Zdd x (hb x hx) l h0 h1) lvl S⟩
theorem Zgd:ZS Go.Proofs.Tryz.prog VD ZtL=true:=by kernel_rfl
theorem Zas(a:List ByteArray)(hl:a.length<=9223372036854775807)(hb:∀ y∈a,y.size<=9223372036854775807)(l:Int)(h0:0<=l)(h1:l<=1048576):szL (fun x m=>m-x.size) a l<=l/\∀ lvl S,Sem Go.Proofs.Tryz.prog VD lvl [tS a,iI l] S (iI (szL (fun x m=>m-x.size) a l)) S :=
 ⟨Zg3 a (fun x _ l _ _=>by omega) h0 h1,fun lvl S=>ZjQ Zgd a l hl h0 h1 hb lvl S⟩
theorem YB(x:TBigraph)(hb:Zv 9223372036854775807 x)(l:Int)(h0:0<=l)(h1:l<=1048576):JD x l<=l/\∀ lvl S,Sem Go.Proofs.Tryz.prog ZO lvl [.ag ((Zc x).map .tr),iI l] S (iI (JD x l)) S:=by
 obtain⟨b0,b1,b2,b3,b4,b5,b6⟩:=hb
 refine⟨?_,fun lvl S=>?_⟩
 ·unfold JD
  have q0:=Zco x.nodes b0 b1 _ h0 h1
  refine Dt h0 q0.1 (fun p0=>?_)
  have r0:_<=(1048576:Int):=Int.le_trans q0.1 h1
  have q1:=UY x.sites b2 _ p0 r0
  refine Dt p0 q1.1 (fun p1=>?_)
  have r1:_<=(1048576:Int):=Int.le_trans q1.1 r0
  have q2:=Zas x.outer b3 b4 _ p1 r1
  refine Dt p1 q2.1 (fun p2=>?_)
  have r2:_<=(1048576:Int):=Int.le_trans q2.1 r1
  have q3:=Zcp x.inner b5 b6 _ p2 r2
  refine Dt p2 q3.1 (fun p3=>?_)
  have r3:_<=(1048576:Int):=Int.le_trans q3.1 r2
  exact Int.le_refl _
 ·refine Zb Zbk trivial ?_
  simp only[WS,Zc,List.map_cons,List.map_nil,EVA,seval,Zl,men]
  unfold JD
  have q0:=Zco x.nodes b0 b1 l h0 h1
  refine Za q0.2 ?_
  simp only[EVA,seval,Zl,men]
  obtain⟨l1,hl1⟩:∃ m:Int,m=(szL WI x.nodes l):=⟨_,rfl⟩
  have u1:l1<=l:=by rw[hl1];exact q0.1
  rw[<-hl1]
  split
  ·rename_i hn;rw[DN,if_pos hn]
  rename_i hn0
  rw[DN,if_neg hn0]
  have q1:=UY x.sites b2 l1 (show 0<=l1 by omega) (show l1<=1048576 by omega)
  refine Za q1.2 ?_
  simp only[EVA,seval,Zl,men]
  obtain⟨l2,hl2⟩:∃ m:Int,m=(szN x.sites.length l1):=⟨_,rfl⟩
  have u2:l2<=l1:=by rw[hl2];exact q1.1
  rw[<-hl2]
  split
  ·rename_i hn;rw[DN,if_pos hn]
  rename_i hn1
  rw[DN,if_neg hn1]
  have q2:=Zas x.outer b3 b4 l2 (show 0<=l2 by omega) (show l2<=1048576 by omega)
  refine Za q2.2 ?_
  simp only[EVA,seval,Zl,men]
  obtain⟨l3,hl3⟩:∃ m:Int,m=(szL (fun x m=>m-x.size) x.outer l2):=⟨_,rfl⟩
  have u3:l3<=l2:=by rw[hl3];exact q2.1
  rw[<-hl3]
  split
  ·rename_i hn;rw[DN,if_pos hn]
  rename_i hn2
  rw[DN,if_neg hn2]
  have q3:=Zcp x.inner b5 b6 l3 (show 0<=l3 by omega) (show l3<=1048576 by omega)
  refine Za q3.2 ?_
  simp only[EVA,seval]
  obtain⟨l4,hl4⟩:∃ m:Int,m=(szL WJ x.inner l3):=⟨_,rfl⟩
  have u4:l4<=l3:=by rw[hl4];exact q3.1
  rw[<-hl4]
  split
  ·rename_i hn;rw[DN,if_pos hn]
  rename_i hn3
  rw[DN,if_neg hn3]
theorem Zat(x:TControl)(hb:ZA 9223372036854775807 x)(l:Int)(h0:0<=l)(h1:l<=1048576):ZB x l<=l/\∀ lvl S,Sem Go.Proofs.Tryz.prog Vw lvl [.ag ((Zi x).map .tr),iI l] S (iI (ZB x l)) S:=by
 have b0:x.name.size<=9223372036854775807:=hb
 refine⟨?_,fun lvl S=>?_⟩
 ·unfold ZB
  refine Dt h0 (m:=l-x.name.size) (by omega) (fun p0=>?_)
  have r0:_<=(1048576:Int):=Int.le_trans (show l-x.name.size<=l by omega) h1
  exact Int.le_refl _
 ·refine Zb Zbm trivial ?_
  simp only[WU,Zi,List.map_cons,List.map_nil,EVA,seval]
  unfold ZB
  refine⟨by rw[Zd];omega,?_⟩
  obtain⟨l1,hl1⟩:∃ m:Int,m=l-x.name.size:=⟨_,rfl⟩
  have u1:l1<=l:=by omega
  rw[<-hl1]
  split
  ·rename_i hn;rw[DN,if_pos hn]
  rename_i hn0
  rw[DN,if_neg hn0]
theorem Zfs:ZS Go.Proofs.Tryz.prog Jw (Zpv 3 (some 3) Vw)=true:=by kernel_rfl
theorem XO(a:List TControl)(hl:a.length<=9223372036854775807)(hb:∀ y∈a,ZA 9223372036854775807 y)(l:Int)(h0:0<=l)(h1:l<=1048576):szL ZB a l<=l/\∀ lvl S,Sem Go.Proofs.Tryz.prog Jw lvl [.tr (.sl (a.map Zi)),iI l] S (iI (szL ZB a l)) S :=
 ⟨Zg3 a (fun x hx l h0 h1=>(Zat x (hb x hx) l h0 h1).1) h0 h1,fun lvl S=>ZdJ Zfs Zi ZB ZaZ a l hl h0 h1 (fun x hx l h0 h1=>Zat x (hb x hx) l h0 h1) lvl S⟩
end Go.Fd

/-
  WHAT HOLDS OF THE HELPERS OF THE LAWS: eq.. (printed by lawgen.py). Own work.
-/
namespace Go.Fd
set_option maxRecDepth 20000
theorem Zkq:ZS Go.Proofs.Tryz.prog Z5 ZmS=true:=by kernel_rfl
theorem V6(a b:(List Int))(ha:a.length<=9223372036854775807)(lvl:Nat)(S:Sto):Sem Go.Proofs.Tryz.prog Z5 lvl [.tr (.sl (rI a)),.tr (.sl (rI b))] S (iB (decide (a=b))) S:=Zmg Zkq a b ha lvl S
theorem Zhr(x y:TNode)(hb:WH 9223372036854775807 x)(lvl:Nat)(S:Sto):Sem Go.Proofs.Tryz.prog Q6 lvl [.ag ((ZR x).map .tr),.ag ((ZR y).map .tr)] S (iB (decide (x=y))) S:=by
 have b0:x.links.length<=9223372036854775807:=hb
 refine Zb Zek trivial ?_
 simp only[Zam,ZR,List.map_cons,List.map_nil,EVA,seval,Zl,men]
 refine Zp (fun hne=>?_) (fun heq0=>?_)
 ·have:¬ x=y:=fun e=>(by rw[e] at hne;simp at hne)
  simp [this]
 refine Zp (fun hne=>?_) (fun heq1=>?_)
 ·have:¬ x=y:=fun e=>(by rw[e] at hne;simp at hne)
  simp [this]
 refine Za (V6 x.links y.links b0) ?_
 simp only[Bool.not_eq_true',EVA,seval]
 refine Zp (fun hne=>?_) (fun heq2=>?_)
 ·have:¬ x=y:=fun e=>(by rw[e] at hne;simp at hne)
  simp [this]
 have:x=y:=by
  cases x;cases y;simp_all
 simp [this]
theorem Zi2:ZS Go.Proofs.Tryz.prog Qp (Zpw 3 (some 3) Q6)=true:=by kernel_rfl
theorem Zge(a b:(List TNode))(ha:a.length<=9223372036854775807)(ha2:∀ y∈a,WH 9223372036854775807 y)(lvl:Nat)(S:Sto):Sem Go.Proofs.Tryz.prog Qp lvl [.tr (.sl (a.map ZR)),.tr (.sl (b.map ZR))] S (iB (decide (a=b))) S :=
 ZdK Zi2 ZR (fun _=>rfl) a b ha (fun x hx y _ lvl S=>Zhr x y (ha2 x hx) lvl S) lvl S
theorem Zhs(x y:TWire)(hb:X4 9223372036854775807 x)(lvl:Nat)(S:Sto):Sem Go.Proofs.Tryz.prog Q7 lvl [.ag ((Jj x).map .tr),.ag ((Jj y).map .tr)] S (iB (decide (x=y))) S:=by
 have b0:x.name.size<=9223372036854775807:=hb
 refine Zb Zel trivial ?_
 simp only[Zan,Jj,List.map_cons,List.map_nil,EVA,seval]
 refine Zp (fun hne=>?_) (fun heq0=>?_)
 ·have:¬ x=y:=fun e=>(by rw[e] at hne;simp at hne)
  simp [this]
 refine Zp (fun hne=>?_) (fun heq1=>?_)
 ·have:¬ x=y:=fun e=>(by rw[e] at hne;simp at hne)
  simp [this]
 have:x=y:=by
  cases x;cases y;simp_all
 simp [this]
theorem Zi3:ZS Go.Proofs.Tryz.prog Qq (Zpw 2 (some 2) Q7)=true:=by kernel_rfl
theorem Zgf(a b:(List TWire))(ha:a.length<=9223372036854775807)(ha2:∀ y∈a,X4 9223372036854775807 y)(lvl:Nat)(S:Sto):Sem Go.Proofs.Tryz.prog Qq lvl [.tr (.sl (a.map Jj)),.tr (.sl (b.map Jj))] S (iB (decide (a=b))) S :=
 ZdK Zi3 Jj (fun _=>rfl) a b ha (fun x hx y _ lvl S=>Zhs x y (ha2 x hx) lvl S) lvl S
theorem Zgg:ZS Go.Proofs.Tryz.prog Vz ZmS=true:=by kernel_rfl
theorem Zeq(a b:(List ByteArray))(ha:a.length<=9223372036854775807)(lvl:Nat)(S:Sto):Sem Go.Proofs.Tryz.prog Vz lvl [.tr (.sl (rS a)),.tr (.sl (rS b))] S (iB (decide (a=b))) S:=Zmh Zgg a b ha lvl S
theorem YC(x y:TBigraph)(hb:Zv 9223372036854775807 x)(lvl:Nat)(S:Sto):Sem Go.Proofs.Tryz.prog ZN lvl [.ag ((Zc x).map .tr),.ag ((Zc y).map .tr)] S (iB (decide (x=y))) S:=by
 obtain⟨b0,b1,b2,b3,b4,b5,b6⟩:=hb
 refine Zb Zbj trivial ?_
 simp only[WR,Zc,List.map_cons,List.map_nil,EVA,seval,Zl,men]
 refine Zp (fun hne=>?_) (fun heq0=>?_)
 ·have:¬ x=y:=fun e=>(by rw[e] at hne;simp at hne)
  simp [this]
 refine Za (Zge x.nodes y.nodes b0 b1) ?_
 simp only[Bool.not_eq_true',EVA,seval,Zl,men]
 refine Zp (fun hne=>?_) (fun heq1=>?_)
 ·have:¬ x=y:=fun e=>(by rw[e] at hne;simp at hne)
  simp [this]
 refine Za (V6 x.sites y.sites b2) ?_
 simp only[Bool.not_eq_true',EVA,seval,Zl,men]
 refine Zp (fun hne=>?_) (fun heq2=>?_)
 ·have:¬ x=y:=fun e=>(by rw[e] at hne;simp at hne)
  simp [this]
 refine Zp (fun hne=>?_) (fun heq3=>?_)
 ·have:¬ x=y:=fun e=>(by rw[e] at hne;simp at hne)
  simp [this]
 refine Za (Zeq x.outer y.outer b3) ?_
 simp only[Bool.not_eq_true',EVA,seval,Zl,men]
 refine Zp (fun hne=>?_) (fun heq4=>?_)
 ·have:¬ x=y:=fun e=>(by rw[e] at hne;simp at hne)
  simp [this]
 refine Za (Zgf x.inner y.inner b5 b6) ?_
 simp only[Bool.not_eq_true',EVA,seval]
 refine Zp (fun hne=>?_) (fun heq5=>?_)
 ·have:¬ x=y:=fun e=>(by rw[e] at hne;simp at hne)
  simp [this]
 have:x=y:=by
  cases x;cases y;simp_all
 simp [this]
theorem Zer(x y:TControl)(hb:ZA 9223372036854775807 x)(lvl:Nat)(S:Sto):Sem Go.Proofs.Tryz.prog Vy lvl [.ag ((Zi x).map .tr),.ag ((Zi y).map .tr)] S (iB (decide (x=y))) S:=by
 have b0:x.name.size<=9223372036854775807:=hb
 refine Zb Zbo trivial ?_
 simp only[WW,Zi,List.map_cons,List.map_nil,EVA,seval]
 refine Zp (fun hne=>?_) (fun heq0=>?_)
 ·have:¬ x=y:=fun e=>(by rw[e] at hne;simp at hne)
  simp [this]
 refine Zp (fun hne=>?_) (fun heq1=>?_)
 ·have:¬ x=y:=fun e=>(by rw[e] at hne;simp at hne)
  simp [this]
 refine Zp (fun hne=>?_) (fun heq2=>?_)
 ·have:¬ x=y:=fun e=>(by rw[e] at hne;simp at hne)
  simp [this]
 have:x=y:=by
  cases x;cases y;simp_all
 simp [this]
theorem Zft:ZS Go.Proofs.Tryz.prog Jx (Zpw 3 (some 3) Vy)=true:=by kernel_rfl
theorem XP(a b:(List TControl))(ha:a.length<=9223372036854775807)(ha2:∀ y∈a,ZA 9223372036854775807 y)(lvl:Nat)(S:Sto):Sem Go.Proofs.Tryz.prog Jx lvl [.tr (.sl (a.map Zi)),.tr (.sl (b.map Zi))] S (iB (decide (a=b))) S :=
 ZdK Zft Zi (fun _=>rfl) a b ha (fun x hx y _ lvl S=>Zer x y (ha2 x hx) lvl S) lvl S
end Go.Fd

/-
  WHAT HOLDS OF THE HELPERS OF THE LAWS: to.. (printed by lawgen.py). Own work.
-/
namespace Go.Fd
set_option maxRecDepth 20000
theorem Zkr:ZS Go.Proofs.Tryz.prog ZH (ZmT (.int .i64 0))=true:=by kernel_rfl
theorem YD(a:(List Int))(ha:a.length<=4294967296)(lvl:Nat)(S:Sto):Sem Go.Proofs.Tryz.prog ZH lvl [.tr (.sl (rI a))] S (.ow 1 (rI a) true) S:=Zmi Zkr a ha lvl S
theorem Zht(x:TNode)(hb:WH 4294967296 x)(lvl:Nat)(S:Sto):Sem Go.Proofs.Tryz.prog Xb lvl [.ag ((ZR x).map .tr)] S (Zml x) S:=by
 have b0:x.links.length<=4294967296:=hb
 refine Zb Zeo (by simp [Zml,low,men,Zl]) ?_
 simp only[Zaq,ZR,zfill,zobs,List.map_cons,List.map_nil,Qa,Qb,List.set_cons_zero,List.set_cons_succ,EVA,seval,Zl,men]
 refine Za (YD x.links b0) ?_
 simp only[Qa,Qb,List.set_cons_zero,List.set_cons_succ,Prod.mk.injEq,EVA,seval]
 rfl
theorem Zgh(a:(List TNode))(ha:a.length<=4294967296)(hb:∀ y∈a,WH 4294967296 y)(lvl:Nat)(S:Sto):Sem Go.Proofs.Tryz.prog Qt lvl [.tr (.sl (a.map ZR))] S (.ow 3 (a.map ZR) true) S:=by
 refine Zb ZcG trivial ?_
 simp only[Dk,List.length_map,bigN,EVA,seval]
 refine⟨by omega,?_⟩
 refine ZW (α:=Unit) a.length (fun j _=>⟨lvl,[(0,.tr (.sl (a.map ZR))),(3,.hd (lvl,224) [] 0 a.length none a.length),(4,iI j)],[(224,.ar 3 (Yh ZR [tv 0,tv 0,.sl []] a j) true a.length (j*1))],S⟩) (fun _ _=>True) () ⟨by simp only[EVA,seval],by (simp only[Q1,EVA,seval]) <;> rfl⟩ trivial ?_
 intro j _ hj _
 simp only[List.length_map,EVA,seval]
 refine Zp (fun hlt=>?_) (fun hge=>?_)
 ·have hja:j<a.length:=by omega
  have ga:(a.map ZR)[j]? = some (ZR a[j]):=by simp [hja]
  have gz:(Yh ZR [tv 0,tv 0,.sl []] a j)[j]? = some [tv 0,tv 0,.sl []]:=X0 hja
  have hfl:(Yh ZR [tv 0,tv 0,.sl []] a j).length=a.length:=Wt hj
  have hsem:=fun lvl S=>Zht a[j] (hb a[j] (List.getElem_mem hja)) lvl S
  simp only[ga,ZR,EVA,seval,Zl,men]
  refine Za hsem ?_
  simp only[Zml,gz,hja,hfl,YG,List.getElem?_set_self,List.set_set,List.set_cons_zero,List.set_cons_succ,Prod.mk.injEq,ne_eq,not_false_eq_true,EVA,seval]
  refine⟨by rw[Zd];omega,Ze () hja ?_ trivial⟩
  have hse:=X1 (c:=ZR) (z:=[tv 0,tv 0,.sl []]) (e:=[tv a[j].control,tv a[j].parent,.sl (rI a[j].links)]) hja rfl
  rw[hse,show (j+1)*1=j*1+1 from by omega]
  rfl
 ·have:j=a.length:=by omega
  subst this
  rw[XZ]
  simp
theorem Zhu(x:TWire)(hb:X4 4294967296 x)(lvl:Nat)(S:Sto):Sem Go.Proofs.Tryz.prog Xc lvl [.ag ((Jj x).map .tr)] S (Zmm x) S:=by
 have b0:x.name.size<=4294967296:=hb
 refine Zb Zep (by simp [Zmm,low,men,Zl]) ?_
 simp only[Zar,Jj,zfill,zobs,List.map_cons,List.map_nil,Qa,Qb,List.set_cons_zero,List.set_cons_succ,EVA,seval]
 rfl
theorem Zgi(a:(List TWire))(ha:a.length<=4294967296)(hb:∀ y∈a,X4 4294967296 y)(lvl:Nat)(S:Sto):Sem Go.Proofs.Tryz.prog Qu lvl [.tr (.sl (a.map Jj))] S (.ow 2 (a.map Jj) true) S:=by
 refine Zb ZcH trivial ?_
 simp only[Dl,List.length_map,bigN,EVA,seval]
 refine⟨by omega,?_⟩
 refine ZW (α:=Unit) a.length (fun j _=>⟨lvl,[(0,.tr (.sl (a.map Jj))),(3,.hd (lvl,224) [] 0 a.length none a.length),(4,iI j)],[(224,.ar 2 (Yh Jj [ts ⟨#[]⟩,tv 0] a j) true a.length (j*0))],S⟩) (fun _ _=>True) () ⟨by simp only[EVA,seval],by (simp only[Q1,EVA,seval]) <;> rfl⟩ trivial ?_
 intro j _ hj _
 simp only[List.length_map,EVA,seval]
 refine Zp (fun hlt=>?_) (fun hge=>?_)
 ·have hja:j<a.length:=by omega
  have ga:(a.map Jj)[j]? = some (Jj a[j]):=by simp [hja]
  have gz:(Yh Jj [ts ⟨#[]⟩,tv 0] a j)[j]? = some [ts ⟨#[]⟩,tv 0]:=X0 hja
  have hfl:(Yh Jj [ts ⟨#[]⟩,tv 0] a j).length=a.length:=Wt hj
  have hsem:=fun lvl S=>Zhu a[j] (hb a[j] (List.getElem_mem hja)) lvl S
  simp only[ga,Jj,EVA,seval,Zl,men]
  refine Za hsem ?_
  simp only[Zmm,gz,hja,hfl,YG,List.getElem?_set_self,List.set_set,List.set_cons_zero,List.set_cons_succ,EVA,seval]
  refine⟨by rw[Zd];omega,Ze () hja ?_ trivial⟩
  have hse:=X1 (c:=Jj) (z:=[ts ⟨#[]⟩,tv 0]) (e:=[ts a[j].name,tv a[j].link]) hja rfl
  rw[hse,show (j+1)*0=j*0 from by omega]
  rfl
 ·have:j=a.length:=by omega
  subst this
  rw[XZ]
  simp
theorem Zgj:ZS Go.Proofs.Tryz.prog VE (ZmT (.string ⟨#[]⟩))=true:=by kernel_rfl
theorem Zes(a:(List ByteArray))(ha:a.length<=4294967296)(lvl:Nat)(S:Sto):Sem Go.Proofs.Tryz.prog VE lvl [.tr (.sl (rS a))] S (.ow 1 (rS a) true) S:=Zmj Zgj a ha lvl S
theorem Zx(x:TBigraph)(hb:Zv 4294967296 x)(lvl:Nat)(S:Sto):Sem Go.Proofs.Tryz.prog Zk lvl [.ag ((Zc x).map .tr)] S (Jb x) S:=by
 obtain⟨b0,b1,b2,b3,b4,b5,b6⟩:=hb
 refine Zb Zbl (by simp [Jb,low,men,Zl]) ?_
 simp only[WT,Zc,zfill,zobs,List.map_cons,List.map_nil,Qa,Qb,List.set_cons_zero,EVA,seval,Zl,men]
 refine Za (Zgh x.nodes b0 b1) ?_
 simp only[Qa,Qb,List.set_cons_zero,List.set_cons_succ,EVA,seval,Zl,men]
 refine Za (YD x.sites b2) ?_
 simp only[Qa,Qb,List.set_cons_zero,List.set_cons_succ,EVA,seval,Zl,men]
 refine Za (Zes x.outer b3) ?_
 simp only[Qa,Qb,List.set_cons_zero,List.set_cons_succ,EVA,seval,Zl,men]
 refine Za (Zgi x.inner b5 b6) ?_
 simp only[Qa,Qb,List.set_cons_zero,List.set_cons_succ,Prod.mk.injEq,EVA,seval]
 rfl
theorem Zet(x:TControl)(hb:ZA 4294967296 x)(lvl:Nat)(S:Sto):Sem Go.Proofs.Tryz.prog Vx lvl [.ag ((Zi x).map .tr)] S (ZdM x) S:=by
 have b0:x.name.size<=4294967296:=hb
 refine Zb Zbn (by simp [ZdM,low,men,Zl]) ?_
 simp only[WV,Zi,zfill,zobs,List.map_cons,List.map_nil,Qa,Qb,List.set_cons_zero,List.set_cons_succ,EVA,seval]
 rfl
theorem Z3(a:(List TControl))(ha:a.length<=4294967296)(hb:∀ y∈a,ZA 4294967296 y)(lvl:Nat)(S:Sto):Sem Go.Proofs.Tryz.prog Zy lvl [.tr (.sl (a.map Zi))] S (.ow 3 (a.map Zi) true) S:=by
 refine Zb ZaT trivial ?_
 simp only[X9,List.length_map,bigN,EVA,seval]
 refine⟨by omega,?_⟩
 refine ZW (α:=Unit) a.length (fun j _=>⟨lvl,[(0,.tr (.sl (a.map Zi))),(3,.hd (lvl,224) [] 0 a.length none a.length),(4,iI j)],[(224,.ar 3 (Yh Zi [ts ⟨#[]⟩,tv 0,tv 0] a j) true a.length (j*0))],S⟩) (fun _ _=>True) () ⟨by simp only[EVA,seval],by (simp only[Q1,EVA,seval]) <;> rfl⟩ trivial ?_
 intro j _ hj _
 simp only[List.length_map,EVA,seval]
 refine Zp (fun hlt=>?_) (fun hge=>?_)
 ·have hja:j<a.length:=by omega
  have ga:(a.map Zi)[j]? = some (Zi a[j]):=by simp [hja]
  have gz:(Yh Zi [ts ⟨#[]⟩,tv 0,tv 0] a j)[j]? = some [ts ⟨#[]⟩,tv 0,tv 0]:=X0 hja
  have hfl:(Yh Zi [ts ⟨#[]⟩,tv 0,tv 0] a j).length=a.length:=Wt hj
  have hsem:=fun lvl S=>Zet a[j] (hb a[j] (List.getElem_mem hja)) lvl S
  simp only[ga,Zi,EVA,seval,Zl,men]
  refine Za hsem ?_
  simp only[ZdM,gz,hja,hfl,YG,List.getElem?_set_self,List.set_set,List.set_cons_zero,List.set_cons_succ,EVA,seval]
  refine⟨by rw[Zd];omega,Ze () hja ?_ trivial⟩
  have hse:=X1 (c:=Zi) (z:=[ts ⟨#[]⟩,tv 0,tv 0]) (e:=[ts a[j].name,tv a[j].ports,tv a[j].kind_]) hja rfl
  rw[hse,show (j+1)*0=j*0 from by omega]
  rfl
 ·have:j=a.length:=by omega
  subst this
  rw[XZ]
  simp
end Go.Fd

/-
  WHAT THE LAWS' ARGUMENTS READ AS (printed by lawgen.py). Own work.
-/
namespace Go.Fd
set_option maxRecDepth 20000
theorem ZtS:QZ Go.Proofs.Tryz.prog 9 (fun n:ByteArray=>[ts n]) (fun n=>n.size<=9223372036854775807):=ZeS Go.Proofs.Tryz.underlying9
theorem Zk2:QZ Go.Proofs.Tryz.prog 3 (fun n:Int=>[tv n]) (QO .i64):=Zie Go.Proofs.Tryz.underlying3
theorem ZtT:QZ Go.Proofs.Tryz.prog 77 Zi (fun x=>ZA 9223372036854775807 x/\Ze2 x):=Zbx (Xr Go.Proofs.Tryz.underlying77 (show ZaY Go.Proofs.Tryz.prog 0 [(0,9),(1,3),(2,3)] _ _ from (Z4 (k:=1) (by kernel_rfl) (fun _=>rfl) ZtS (Z4 (k:=1) (by kernel_rfl) (fun _=>rfl) Zk2 (Z4 (k:=1) (by kernel_rfl) (fun _=>rfl) Zk2 UQ))))) (fun p=>TControl.mk p.1 p.2.1 p.2.2.1) (fun _=>rfl) (fun x h=>⟨h.1,⟨h.2.1,h.2.2.1⟩⟩)
theorem ZmN:QZ Go.Proofs.Tryz.prog 22 (fun l:List TControl=>[Tr.sl (l.map Zi)]) (fun l=>l.length<=9223372036854775807/\∀ x∈l,(fun x=>ZA 9223372036854775807 x/\Ze2 x) x):=Q0 (k:=2) Go.Proofs.Tryz.underlying22 (by kernel_rfl) (fun _=>rfl) ZtT
theorem ZtU:QZ Go.Proofs.Tryz.prog 45 (fun l:List ByteArray=>[Tr.sl (l.map (fun n:ByteArray=>[ts n]))]) (fun l=>l.length<=9223372036854775807/\∀ x∈l,(fun n=>n.size<=9223372036854775807) x):=Q0 (k:=0) Go.Proofs.Tryz.underlying45 (by kernel_rfl) (fun _=>rfl) ZtS
theorem Zks:QZ Go.Proofs.Tryz.prog 37 (fun l:List Int=>[Tr.sl (l.map (fun n:Int=>[tv n]))]) (fun l=>l.length<=9223372036854775807/\∀ x∈l,(QO .i64) x):=Q0 (k:=0) Go.Proofs.Tryz.underlying37 (by kernel_rfl) (fun _=>rfl) Zk2
theorem ZpX:QZ Go.Proofs.Tryz.prog 165 ZR (fun x=>WH 9223372036854775807 x/\Zii x):=Zbx (Xr Go.Proofs.Tryz.underlying165 (show ZaY Go.Proofs.Tryz.prog 0 [(0,3),(1,3),(2,37)] _ _ from (Z4 (k:=1) (by kernel_rfl) (fun _=>rfl) Zk2 (Z4 (k:=1) (by kernel_rfl) (fun _=>rfl) Zk2 (Z4 (k:=1) (by kernel_rfl) (fun _=>rfl) Zks UQ))))) (fun p=>TNode.mk p.1 p.2.1 p.2.2.1) (fun _=>rfl) (fun x h=>⟨h.2.2.1.1,⟨h.1,h.2.1,(fun y hy=>(h.2.2.1.2 y hy))⟩⟩)
theorem ZtV:QZ Go.Proofs.Tryz.prog 62 (fun l:List TNode=>[Tr.sl (l.map ZR)]) (fun l=>l.length<=9223372036854775807/\∀ x∈l,(fun x=>WH 9223372036854775807 x/\Zii x) x):=Q0 (k:=2) Go.Proofs.Tryz.underlying62 (by kernel_rfl) (fun _=>rfl) ZpX
theorem ZpY:QZ Go.Proofs.Tryz.prog 167 Jj (fun x=>X4 9223372036854775807 x/\Zik x):=Zbx (Xr Go.Proofs.Tryz.underlying167 (show ZaY Go.Proofs.Tryz.prog 0 [(0,9),(1,3)] _ _ from (Z4 (k:=1) (by kernel_rfl) (fun _=>rfl) ZtS (Z4 (k:=1) (by kernel_rfl) (fun _=>rfl) Zk2 UQ)))) (fun p=>TWire.mk p.1 p.2.1) (fun _=>rfl) (fun x h=>⟨h.1,h.2.1⟩)
theorem ZtW:QZ Go.Proofs.Tryz.prog 63 (fun l:List TWire=>[Tr.sl (l.map Jj)]) (fun l=>l.length<=9223372036854775807/\∀ x∈l,(fun x=>X4 9223372036854775807 x/\Zik x) x):=Q0 (k:=1) Go.Proofs.Tryz.underlying63 (by kernel_rfl) (fun _=>rfl) ZpY
theorem Zhv:QZ Go.Proofs.Tryz.prog 65 Zc (fun x=>Zv 9223372036854775807 x/\ZG x):=Zbx (Xr Go.Proofs.Tryz.underlying65 (show ZaY Go.Proofs.Tryz.prog 0 [(0,3),(1,62),(2,37),(3,3),(4,45),(5,63)] _ _ from (Z4 (k:=1) (by kernel_rfl) (fun _=>rfl) Zk2 (Z4 (k:=1) (by kernel_rfl) (fun _=>rfl) ZtV (Z4 (k:=1) (by kernel_rfl) (fun _=>rfl) Zks (Z4 (k:=1) (by kernel_rfl) (fun _=>rfl) Zk2 (Z4 (k:=1) (by kernel_rfl) (fun _=>rfl) ZtU (Z4 (k:=1) (by kernel_rfl) (fun _=>rfl) ZtW UQ)))))))) (fun p=>TBigraph.mk p.1 p.2.1 p.2.2.1 p.2.2.2.1 p.2.2.2.2.1 p.2.2.2.2.2.1) (fun _=>rfl) (fun x h=>⟨⟨h.2.1.1,(fun y hy=>(h.2.1.2 y hy).1),h.2.2.1.1,h.2.2.2.2.1.1,(fun y hy=>(h.2.2.2.2.1.2 y hy)),h.2.2.2.2.2.1.1,(fun y hy=>(h.2.2.2.2.2.1.2 y hy).1)⟩,⟨h.1,(fun y hy=>(h.2.1.2 y hy).2),(fun y hy=>(h.2.2.1.2 y hy)),h.2.2.2.1,(fun y hy=>(h.2.2.2.2.2.1.2 y hy).2)⟩⟩)
end Go.Fd

/-
  HOW MANY MARKS SMALL THINGS TAKE. Own work.
-/
namespace Go.Fd
theorem Zi4:∀(l:List Int),nL XN l=l.length
 | []=>rfl
 | x::r=>by simp only[nL,List.length_cons,Zi4 r,XN];omega
end Go.Fd
