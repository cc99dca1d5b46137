/-
  WHAT A SIZE THAT IS LEFT SAYS OF BOUNDS (printed by lawgen.py). Own work.
-/
import Derived.Test.YtidhoicihlnlaaaGreatDoorT05
import Derived.Shelf.Sort.Plain
set_option linter.all false
namespace Go.Fd
def Zm(s:Int->Int)(P:Prop):Prop:=∀ l:Int,0<=l->l<=1048576->s l<=l/\(0<=s l->P)
theorem Zw1:Zm (fun l=>l) True:=fun _ _ _=>⟨Int.le_refl _,fun _=>trivial⟩
theorem Zw2{s g:Int->Int}{P Q:Prop}(hs:Zm s P)(hg:Zm g Q):Zm (fun l=>Zmc (s l) g) (P/\Q):=fun l h0 h1=>by
 have a:=hs l h0 h1
 by_cases h:s l<0
 ·simp only[Zmc,if_pos h]
  exact⟨by omega,fun h=>by omega⟩
 ·simp only[Zmc,if_neg h]
  have b:=hg (s l) (by omega) (by omega)
  exact⟨by omega,fun h2=>⟨a.2 (by omega),b.2 h2⟩⟩
theorem ZrZ(n:Nat):Zm (fun l=>l-n) (n<=4294967296):=fun l h0 h1=>⟨by simp only;omega,fun h=>by simp only at h;omega⟩
theorem ZCk{α:Type}{f:α->Int->Int}{P:α->Prop}(hf:∀ x,Zm (f x) (P x)):∀(a:List α),Zm (fun l=>szF f a l) (∀ y∈a,P y)
 | []=>fun l _ _=>⟨Int.le_refl l,fun _ y hy=>by cases hy⟩
 | x::r=>fun l h0 h1=>by
  simp only[szF]
  have a:=hf x l h0 h1
  split
  ·exact⟨by omega,fun h=>by omega⟩
  ·have b:=ZCk hf r (f x l) (by omega) (by omega)
   refine⟨by simp only at b;omega,fun h y hy=>?_⟩
   cases hy with
   | head=>exact a.2 (by omega)
   | tail _ hy=>exact b.2 h y hy
theorem Zw3{α:Type}{f:α->Int->Int}{P:α->Prop}(hf:∀ x,Zm (f x) (P x))(a:List α):Zm (fun l=>szL f a l) (a.length<=4294967296/\∀ y∈a,P y):=fun l h0 h1=>by
 simp only[szL]
 split
 ·exact⟨by omega,fun h=>by omega⟩
 ·have b:=ZCk hf a (l-a.length) (by omega) (by omega)
  simp only at b
  exact⟨by omega,fun h=>⟨by omega,b.2 h⟩⟩
theorem Zr0{s:Int->Int}{P Q:Prop}(h:Zm s P)(hq:P->Q):Zm s Q:=fun l h0 h1=>⟨(h l h0 h1).1,fun h2=>hq ((h l h0 h1).2 h2)⟩
theorem Zj2(x:TControl):Zm (fun l=>JD x l) (Zp 4294967296 x):=by
 unfold JD
 exact Zr0 (Zw2 (ZrZ _) Zw1) (fun h=>by unfold Zp;simp only[and_assoc,and_true,true_and,implies_true,forall_const] at h ⊢;try exact h)
theorem Zhn(x:TTermStep):Zm (fun l=>J7 x l) (Zw 4294967296 x):=by
 unfold J7
 exact Zr0 (Zw2 (Zw3 (fun y=>(ZrZ _)) _) Zw1) (fun h=>by unfold Zw;simp only[and_assoc,and_true,true_and,implies_true,forall_const] at h ⊢;try exact h)
theorem ZtH{a:Nat}(h:a<=4294967296):a<=9223372036854775807:=by omega
theorem DN{x:TControl}(h:Zp 4294967296 x):Zp 9223372036854775807 x:=by
 exact(ZtH h)
end Go.Fd

/-
  WHAT A VALID BIGRAPH IS, BOTH SIDES. Own work.
-/
namespace Go.Fd
set_option maxRecDepth 20000
theorem ZqX{P:Nat->Prop}{j:Nat}(h:∀ k,k<j->P k)(hj:P j):∀ k,k<j+1->P k:=fun k hk=>by
 by_cases e:k=j
 ·subst e;exact hj
 ·exact h k (by omega)
theorem ZoL{n a b:Int}:inB n a b=dc (a<=n/\n<=b):=by
 unfold inB
 rw[XA,Bool.decide_and]
theorem ZoM:∀(x y:List UInt8),(!Op.bytesLess x y)=(Op.bytesLess y x || decide (x=y))
 | [],[]=>by simp [Op.bytesLess]
 | [],_::_=>by simp [Op.bytesLess]
 | _::_,[]=>by simp [Op.bytesLess]
 | a::x,b::y=>by
  have ih:=ZoM x y
  simp only[Op.bytesLess]
  by_cases h:a=b
  ·subst h
   have e:¬ a<a:=UInt8.lt_irrefl a
   simp [e,ih]
  ·by_cases h1:a<b
   ·have h2:¬ b<a:=fun h2=>UInt8.lt_irrefl a (UInt8.lt_trans h1 h2)
    have h3:¬ b=a:=fun e=>h e.symm
    simp [h,h1,h2,h3]
   ·have h2:b<a:=by
     rcases UInt8.lt_or_lt_of_ne h with h | h
     ·exact absurd h h1
     ·exact h
    simp [h,h1,h2]
def ltS(s t:ByteArray):Prop:=Op.bytesLess s.data.toList t.data.toList=true
theorem ZtI{s t:ByteArray}:(!Op.bytesLess s.data.toList t.data.toList) = !dc (ltS s t):=by
 unfold ltS
 rw[XA,Bool.decide_eq_true]
theorem ZtJ{s t:ByteArray}:(Op.bytesLess t.data.toList s.data.toList || decide (t=s)) = !dc (ltS s t):=by
 rw[<-ZtI,ZoM]
 congr 1
 have:t=s↔s.data.toList=t.data.toList:=⟨fun h=>by rw[h],fun h=>by
  cases s with | mk s=>cases t with | mk t=>exact congrArg ByteArray.mk (Array.toList_inj.1 h.symm)⟩
 simp only[this]
def Zw4(l:List ByteArray)(i:Nat):Prop:=∀ h:i<l.length,Zcb l[i]/\∀ _:0<i,ltS (l[i-1]'(by omega)) l[i]
def VK(l:List ByteArray):Prop:=(∀ i,Zw4 l i)/\l.length<=16
theorem Zf0(l:List ByteArray)(hl:l.length<=4294967296)(hb:∀ y∈l,y.size<=4294967296)(lvl:Nat)(S:Sto):Sem Proofs.Tryz.prog Qz lvl [.tr (.sl (rS l))] S (iB (dc (VK l))) S:=by
 refine Zc ZgH trivial ?_
 simp only[ZbH,List.length_map,EVA,seval,Zd,men]
 refine Zz (α:=Unit) l.length (fun j _=>[(3,iI j)]) (fun j _=>[]) (fun j _=>∀ k,k<j->Zw4 l k) () (by simp only[EVA,seval,Zd,men]) (by (simp only[EVA,seval,Zd,men]) <;> rfl) (fun k hk=>absurd hk (Nat.not_lt_zero k)) ?_
 intro j _ hj hA
 simp only[List.length_map,EVA,seval,Zd,men]
 refine Zl (fun hlt=>?_) (fun hge=>?_)
 ·have hja:j<l.length:=by omega
  have ga:=WH (c:=fun s=>[ts s]) hja
  have hno:¬ Zw4 l j->dc (VK l)=false:=fun h=>Zj fun g=>h (g.1 j)
  simp only[ga,List.length_map,EVA,seval,Zd,men]
  refine Za (ZdU l[j] (by have:=hb _ (List.getElem_mem hja);omega)) ?_
  cases h1:dc (Zcb l[j])
  ·simp only[EVA,seval,Zd,men]
   rw[hno fun h=>dc_not.1 h1 (h hja).1]
  by_cases q:0<j
  ·have e1:((j:Int)-1).toNat=j-1:=by omega
   have e2:(0:Int)<=j-1:=by omega
   have q5:(0:Int)<j:=by omega
   have gb:=WH (c:=fun s=>[ts s]) (l:=l) (j:=j-1) (by omega)
   simp only[q5,e1,e2,ga,gb,List.length_map,EVA,seval,Zd,men]
   cases hc:Op.bytesLess (l[j-1]'(by omega)).data.toList l[j].data.toList
   ·simp only[EVA,seval,Zd,men]
    exact⟨by rw[Ze];omega,by rw[hno fun h=>by have:=(h hja).2 q;unfold ltS at this;rw[this] at hc;cases hc]⟩
   ·simp only[EVA,seval,Zd,men]
    exact⟨by rw[Ze];omega,by rw[Ze];omega,Zf () hja rfl (ZqX hA fun _=>⟨dc_iff.1 h1,fun _=>hc⟩)⟩
  ·have q5:¬ (0:Int)<j:=by omega
   simp only[q5,ga,List.length_map,EVA,seval,Zd,men]
   exact⟨by rw[Ze];omega,Zf () hja rfl (ZqX hA fun _=>⟨dc_iff.1 h1,fun h=>absurd h q⟩)⟩
 ·have hj1:j=l.length:=by omega
  subst hj1
  rw[Vs (p:=VK l) (q:=(l.length:Int)<=16) ⟨fun g=>by have:=g.2;omega,fun g=>⟨fun i h=>hA i h h,by omega⟩⟩,XA]
theorem Zew(l:List ByteArray)(hl:l.length<=4294967296)(hb:∀ y∈l,y.size<=4294967296)(lvl:Nat)(S:Sto):Sem Proofs.Tryz.prog VW lvl [.tr (.sl (rS l))] S (iB (dc (VK l))) S:=by
 refine Zc ZfO trivial ?_
 simp only[ZaK,List.length_map,EVA,seval,Zd,men]
 refine Zz (α:=Unit) l.length (fun j _=>[(7,iI j)]) (fun j _=>[]) (fun j _=>∀ k,k<j->Zw4 l k) () (by simp only[EVA,seval,Zd,men]) (by (simp only[EVA,seval,Zd,men]) <;> rfl) (fun k hk=>absurd hk (Nat.not_lt_zero k)) ?_
 intro j _ hj hA
 simp only[List.length_map,EVA,seval,Zd,men]
 refine Zl (fun hlt=>?_) (fun hge=>?_)
 ·have hja:j<l.length:=by omega
  have ga:=WH (c:=fun s=>[ts s]) hja
  have hno:¬ Zw4 l j->dc (VK l)=false:=fun h=>Zj fun g=>h (g.1 j)
  simp only[ga,List.length_map,EVA,seval,Zd,men]
  refine Za (Dg l[j] (by have:=hb _ (List.getElem_mem hja);omega)) ?_
  cases h1:dc (Zcb l[j])
  ·simp only[EVA,seval,Zd,men]
   rw[hno fun h=>dc_not.1 h1 (h hja).1]
  by_cases q:0<j
  ·have e1:((j:Int)-1).toNat=j-1:=by omega
   have e2:(0:Int)<=j-1:=by omega
   have q5:(0:Int)<j:=by omega
   have gb:=WH (c:=fun s=>[ts s]) (l:=l) (j:=j-1) (by omega)
   simp only[q5,e1,e2,ga,gb,List.length_map,EVA,seval,Zd,men]
   rw[ZtJ]
   cases hc:dc (ltS (l[j-1]'(by omega)) l[j])
   ·simp only[EVA,seval,Zd,men]
    exact⟨by rw[Ze];omega,by rw[hno fun h=>dc_not.1 hc ((h hja).2 q)]⟩
   ·simp only[EVA,seval,Zd,men]
    exact⟨by rw[Ze];omega,by rw[Ze];omega,Zf () hja rfl (ZqX hA fun _=>⟨dc_iff.1 h1,fun _=>dc_iff.1 hc⟩)⟩
  ·have q5:¬ (0:Int)<j:=by omega
   simp only[q5,ga,List.length_map,EVA,seval,Zd,men]
   exact⟨by rw[Ze];omega,Zf () hja rfl (ZqX hA fun _=>⟨dc_iff.1 h1,fun h=>absurd h q⟩)⟩
 ·have hj1:j=l.length:=by omega
  subst hj1
  rw[Vs (p:=VK l) (q:=(l.length:Int)<=16) ⟨fun g=>by have:=g.2;omega,fun g=>⟨fun i h=>hA i h h,by omega⟩⟩,XA]
def ZV(b:TBigraph)(l:Int):Prop:=0<=l/\l<=b.edges+b.outer.length-1
theorem Zho(b:TBigraph)(l:Int)(he:0<=b.edges/\b.edges<=8)(ho:b.outer.length<=4294967296)(lvl:Nat)(S:Sto):Sem Proofs.Tryz.prog Xo lvl [.ag ((Zb b).map .tr),iI l] S (iB (dc (ZV b l))) S:=by
 refine Zc Zit trivial ?_
 simp only[ZcO,Zb,List.length_map,EVA,seval,Zd,men]
 refine⟨by rw[Ze];omega,by rw[Ze];omega,?_⟩
 refine Za (QE l 0 (b.edges+b.outer.length-1)) ?_
 simp only[EVA,seval,Zd,men]
 rw[ZoL]
 rfl
theorem Zhp(b:TBigraph)(l:Int)(he:0<=b.edges/\b.edges<=8)(ho:b.outer.length<=4294967296)(lvl:Nat)(S:Sto):Sem Proofs.Tryz.prog JX lvl [.ag ((Zb b).map .tr),iI l] S (iB (dc (ZV b l))) S:=by
 refine Zc ZaL trivial ?_
 simp only[Wb,Zb,List.length_map,EVA,seval,Zd,men]
 refine⟨by rw[Ze];omega,by rw[Ze];omega,?_⟩
 refine Za (YS l 0 (b.edges+b.outer.length-1)) ?_
 simp only[EVA,seval,Zd,men]
 rw[ZoL]
 rfl
def Qv(sig:List TControl)(c:Int):Int:=((sig[c.toNat]?).map TControl.kind_).getD 0
def Y7(sig:List TControl)(c:Int):Int:=((sig[c.toNat]?).map TControl.ports).getD 0
def ZgX(b:TBigraph)(p:Int):Int:=((b.nodes[p.toNat]?).map TNode.control).getD 0
def Uq(sig:List TControl)(b:TBigraph)(p below:Int):Prop:=(p<0/\-b.roots<=p)\/(0<=p/\p<below/\¬ Qv sig (ZgX b p)=2)
def Zj3(sig:List TControl)(b:TBigraph)(n:Nat):Prop:=∀ i,i<n->∀ h:i<b.nodes.length,0<=b.nodes[i].control/\b.nodes[i].control<=(sig.length:Int)-1
theorem Zf1(sig:List TControl)(b:TBigraph)(p:Int)(k:Nat)(hp:XE .i64 p)(hr:0<=b.roots/\b.roots<=4)(hk:k<=b.nodes.length)(hc:Zj3 sig b k)(lvl:Nat)(S:Sto):Sem Proofs.Tryz.prog QA lvl [.tr (.sl (sig.map Zh)),.ag ((Zb b).map .tr),iI p,iI k] S (iB (dc (Uq sig b p k))) S:=by
 rw[Ze] at hp
 refine Zc ZgJ trivial ?_
 simp only[ZbJ,Zb,List.length_map,EVA,seval,Zd,men]
 refine Zl (fun hneg=>?_) (fun hpos=>?_)
 ·refine⟨by rw[Ze];omega,by rw[Ze];omega,?_⟩
  refine Za (QE (-1-p) 0 (b.roots-1)) ?_
  simp only[EVA,seval,Zd,men]
  have hiff:(0 <= -1-p/\-1-p<=b.roots-1)↔Uq sig b p k:=⟨fun h=>.inl (by omega),fun h=>by rcases h with h | h <;> omega⟩
  rw[ZoL,Vs hiff]
 ·refine Zl (fun hb=>?_) (fun hb=>?_)
  ·obtain⟨q,rfl⟩:∃ q:Nat,p=q:=⟨p.toNat,by omega⟩
   have hq:q<b.nodes.length:=by omega
   have ga:=WH (c:=ZX) hq
   obtain⟨m1,m2⟩:=hc q (by omega) hq
   obtain⟨m,hm⟩:∃ m:Nat,b.nodes[q].control=m:=⟨b.nodes[q].control.toNat,by omega⟩
   have hms:m<sig.length:=by omega
   have gs:=WH (c:=Zh) hms
   simp only[hb,ga,gs,ZX,Zh,hm,Int.toNat_natCast,Int.natCast_nonneg,List.length_map,EVA,seval,Zd,men]
   have e:Qv sig (ZgX b q)=sig[m].kind_:=by simp [Qv,ZgX,hq,hm,hms]
   have hiff:Uq sig b q k ↔ ¬ sig[m].kind_=2:=by
    constructor
    ·intro h
     rcases h with h | h
     ·omega
     ·rw[<-e];exact h.2.2
    ·intro h
     exact .inr ⟨by omega,hb,by rw[e];exact h⟩
   rw[Vs hiff,XA]
  ·rw[Zj fun h:Uq sig b p k=>by rcases h with h | h <;> omega]
theorem Zex(sig:List TControl)(b:TBigraph)(p:Int)(k:Nat)(hr:0<=b.roots/\b.roots<=4)(hk:k<=b.nodes.length)(hc:Zj3 sig b k)(lvl:Nat)(S:Sto):Sem Proofs.Tryz.prog JK lvl [.ag ((Zb b).map .tr),.tr (.sl (sig.map Zh)),iI p,iI k] S (iB (dc (Uq sig b p k))) S:=by
 refine Zc DK trivial ?_
 simp only[Xw,Zb,List.length_map,EVA,seval,Zd,men]
 refine Zl (fun hneg=>?_) (fun hpos=>?_)
 ·refine⟨by rw[Ze];omega,?_⟩
  have hiff:Uq sig b p k ↔ -b.roots<=p:=⟨fun h=>by rcases h with h | h <;> omega,fun h=>.inl (by omega)⟩
  rw[Vs hiff,XA]
 ·refine Zl (fun hb=>?_) (fun hb=>?_)
  ·obtain⟨q,rfl⟩:∃ q:Nat,p=q:=⟨p.toNat,by omega⟩
   have hq:q<b.nodes.length:=by omega
   have ga:=WH (c:=ZX) hq
   obtain⟨m1,m2⟩:=hc q (by omega) hq
   obtain⟨m,hm⟩:∃ m:Nat,b.nodes[q].control=m:=⟨b.nodes[q].control.toNat,by omega⟩
   have hms:m<sig.length:=by omega
   have gs:=WH (c:=Zh) hms
   simp only[hb,ga,gs,ZX,Zh,hm,Int.toNat_natCast,Int.natCast_nonneg,List.length_map,EVA,seval,Zd,men]
   have e:Qv sig (ZgX b q)=sig[m].kind_:=by simp [Qv,ZgX,hq,hm,hms]
   have hiff:Uq sig b q k ↔ ¬ sig[m].kind_=2:=by
    constructor
    ·intro h
     rcases h with h | h
     ·omega
     ·rw[<-e];exact h.2.2
    ·intro h
     exact .inr ⟨by omega,hb,by rw[e];exact h⟩
   rw[Vs hiff,XA]
  ·rw[Zj fun h:Uq sig b p k=>by rcases h with h | h <;> omega]
structure nodeOK (sig:List TControl) (b:TBigraph) (x:TNode) (i:Nat):Prop where
 ctl:0<=x.control/\x.control<=(sig.length:Int)-1
 par:Uq sig b x.parent i
 ports:(x.links.length:Int)=Y7 sig x.control
 links:∀ l∈x.links,ZV b l
theorem Zm1(sig:List TControl)(b:TBigraph)(i:Nat)(hi:i<b.nodes.length)(hn:sig.length<=4294967296)(hl:b.nodes[i].links.length<=4294967296)(hp:XE .i64 b.nodes[i].parent)(hr:0<=b.roots/\b.roots<=4)(he:0<=b.edges/\b.edges<=8)(ho:b.outer.length<=4294967296)(hc:Zj3 sig b i)(lvl:Nat)(S:Sto):Sem Proofs.Tryz.prog W1 lvl [.tr (.sl (sig.map Zh)),.ag ((Zb b).map .tr),iI i] S (iB (dc (nodeOK sig b b.nodes[i] i))) S:=by
 refine Zc Zis trivial ?_
 have ga:=WH (c:=ZX) hi
 simp only[ZcN,Zb,List.length_map,ga,ZX,EVA,seval,Zd,men]
 refine⟨by rw[Ze];omega,?_⟩
 refine Za (QE b.nodes[i].control 0 ((sig.length:Int)-1)) ?_
 cases h1:inB b.nodes[i].control 0 ((sig.length:Int)-1)
 ·simp only[EVA,seval,Zd,men]
  rw[Zj fun h:nodeOK sig b b.nodes[i] i=>inB_not.1 h1 h.ctl]
 have r1:=inB_iff.1 h1
 simp only[Zb,List.length_map,ZX,EVA,seval,Zd,men]
 refine Za (Zf1 sig b b.nodes[i].parent i hp hr (by omega) hc) ?_
 cases h2:dc (Uq sig b b.nodes[i].parent i)
 ·simp only[EVA,seval,Zd,men]
  rw[Zj fun h:nodeOK sig b b.nodes[i] i=>dc_not.1 h2 h.par]
 obtain⟨m,hm⟩:∃ m:Nat,b.nodes[i].control=m:=⟨b.nodes[i].control.toNat,by omega⟩
 have hms:m<sig.length:=by omega
 have gs:=WH (c:=Zh) hms
 have e:Y7 sig b.nodes[i].control=sig[m].ports:=by simp [Y7,hm,hms]
 simp only[hm,gs,Zh,Zb,List.length_map,ZX,EVA,seval,Zd,men]
 refine Zl (fun hne=>?_) (fun heq=>?_)
 ·rw[Zj fun h:nodeOK sig b b.nodes[i] i=>by have:=h.ports;rw[e] at this;exact hne this]
 refine Zz (α:=Unit) b.nodes[i].links.length (fun j _=>[(8,iI j)]) (fun j _=>[]) (fun j _=>∀ k,k<j->ZV b (g0 b.nodes[i].links k)) () (by simp only[EVA,seval,Zd,men]) (by (simp only[EVA,seval,Zd,men]) <;> rfl) (fun k hk=>absurd hk (Nat.not_lt_zero k)) ?_
 intro j _ hj hA
 simp only[List.length_map,EVA,seval,Zd,men]
 refine Zl (fun hlt=>?_) (fun hge=>?_)
 ·have hja:j<b.nodes[i].links.length:=by omega
  have gl:=V5 hja
  simp only[gl,List.length_map,EVA,seval,Zd,men]
  refine Za (Zho b (g0 b.nodes[i].links j) he ho) ?_
  cases hc:dc (ZV b (g0 b.nodes[i].links j))
  ·simp only[EVA,seval,Zd,men]
   rw[Zj fun h:nodeOK sig b b.nodes[i] i=>dc_not.1 hc (h.links _ (by simp [hja]))]
  ·simp only[EVA,seval,Zd,men]
   exact⟨by rw[Ze];omega,Zf () hja rfl (ZqX hA (dc_iff.1 hc))⟩
 ·have hj1:j=b.nodes[i].links.length:=by omega
  subst hj1
  have:nodeOK sig b b.nodes[i] i:=⟨r1,dc_iff.1 h2,by rw[e];omega,fun l hl=>by
   obtain⟨k,hk,rfl⟩:=List.getElem_of_mem hl
   have:=hA k hk
   simpa [hk] using this⟩
  rw[ZN this]
def inn(b:TBigraph):List ByteArray:=b.inner.map TWire.name
theorem Zf2(a b:List ByteArray):rS (a++b)=rS a++rS b:=List.map_append
theorem Zk8(b:TBigraph)(hn:b.inner.length<=4294967296)(lvl:Nat)(S:Sto):Sem Proofs.Tryz.prog Wn lvl [.ag ((Zb b).map .tr)] S (.ow 1 (rS (inn b)) true) S:=by
 refine Zc ZgI trivial ?_
 simp only[ZbI,List.length_map,Zb,EVA,seval,Zd,men]
 refine Zz (α:=Unit) b.inner.length (fun j _=>[(3,.hd (lvl,160) [] 0 j none j),(4,iI j)]) (fun j _=>[(160,.ar 1 (rS ((inn b).take j)) true j 0)]) (fun _ _=>True) () (by simp only[EVA,seval,Zd,men]) (by (simp only[EVA,seval,Zd,men]) <;> rfl) trivial ?_
 intro j _ hj _
 have hil:(inn b).length=b.inner.length:=by simp [inn]
 simp only[List.length_map,EVA,seval,Zd,men]
 refine Zl (fun hlt=>?_) (fun hge=>?_)
 ·have hja:j<b.inner.length:=by omega
  have ga:=WH (c:=Ji) hja
  have hlN:(rS ((inn b).take j)).length=j:=by rw[List.length_map,List.length_take];omega
  simp only[ga,Ji,hlN,List.length_map,EVA,seval,Zd,men]
  have hstep:rS ((inn b).take j)++[[ts b.inner[j].name]]=rS ((inn b).take (j+1)):=by
   rw[List.take_succ_eq_append_getElem (by omega),Zf2]
   simp [inn]
  refine⟨by omega,by rw[Ze];omega,Zf () hja ?_ trivial⟩
  rw[<-hstep]
  rfl
 ·have:j=b.inner.length:=by omega
  subst this
  rw[List.take_of_length_le (by omega)]
  exact⟨hil.symm,rfl⟩
end Go.Fd

/-
  A VALID BIGRAPH: THE WHOLE, BOTH SIDES. Own work.
-/
namespace Go.Fd
set_option maxRecDepth 20000
theorem UW(b:TBigraph)(hn:b.inner.length<=4294967296)(lvl:Nat)(S:Sto):Sem Proofs.Tryz.prog Ja lvl [.ag ((Zb b).map .tr)] S (.ow 1 (rS (inn b)) true) S:=by
 refine Zc UT trivial ?_
 simp only[Qr,List.length_map,Zb,EVA,seval,Zd,men]
 refine Zz (α:=Unit) b.inner.length (fun j _=>[(3,.hd (lvl,192) [] 0 j none j),(10,iI j)]) (fun j _=>[(192,.ar 1 (rS ((inn b).take j)) true j 0)]) (fun _ _=>True) () (by simp only[EVA,seval,Zd,men]) (by (simp only[EVA,seval,Zd,men]) <;> rfl) trivial ?_
 intro j _ hj _
 have hil:(inn b).length=b.inner.length:=by simp [inn]
 simp only[List.length_map,EVA,seval,Zd,men]
 refine Zl (fun hlt=>?_) (fun hge=>?_)
 ·have hja:j<b.inner.length:=by omega
  have ga:=WH (c:=Ji) hja
  have hlN:(rS ((inn b).take j)).length=j:=by rw[List.length_map,List.length_take];omega
  simp only[ga,Ji,hlN,List.length_map,EVA,seval,Zd,men]
  have hstep:rS ((inn b).take j)++[[ts b.inner[j].name]]=rS ((inn b).take (j+1)):=by
   rw[List.take_succ_eq_append_getElem (by omega),Zf2]
   simp [inn]
  refine⟨by omega,by rw[Ze];omega,Zf () hja ?_ trivial⟩
  rw[<-hstep]
  rfl
 ·have:j=b.inner.length:=by omega
  subst this
  rw[List.take_of_length_le (by omega)]
  exact⟨hil.symm,rfl⟩
def Zmg(sig:List TControl)(b:TBigraph)(i:Nat):Prop:=∀ h:i<b.nodes.length,nodeOK sig b b.nodes[i] i
structure bigOK (sig:List TControl) (b:TBigraph):Prop where
 sg:Yl sig
 roots:0<=b.roots/\b.roots<=4
 nodesL:b.nodes.length<=8
 sitesL:b.sites.length<=4
 edges:0<=b.edges/\b.edges<=8
 outer:VK b.outer
 inn:VK (inn b)
 nodes:∀ i,Zmg sig b i
 sites:∀ p∈b.sites,Uq sig b p b.nodes.length
 inner:∀ w∈b.inner,ZV b w.link
theorem ZiH{sig:List TControl}{b:TBigraph}{j:Nat}(h:∀ k,k<j->Zmg sig b k):Zj3 sig b j:=fun i hi hl=>(h i hi hl).ctl
theorem ZdW{b:TBigraph}:(inn b).length=b.inner.length:=by simp [inn]
theorem ZoN{b:TBigraph}{n:Nat}(h:∀ y∈b.inner,Zej n y):∀ y∈inn b,y.size<=n:=fun y hy=>by
 obtain⟨w,hw,rfl⟩:=List.mem_map.1 hy
 exact h w hw
theorem XU(sig:List TControl)(b:TBigraph)(hn:sig.length<=4294967296)(hbs:∀ y∈sig,Zp 4294967296 y)(hb:Zt 4294967296 b)(hf:ZB b)(lvl:Nat)(S:Sto):Sem Proofs.Tryz.prog Yd lvl [.tr (.sl (sig.map Zh)),.ag ((Zb b).map .tr)] S (iB (dc (bigOK sig b))) S:=by
 obtain⟨b1,b2,b3,b4,b5,b6,b7⟩:=hb
 obtain⟨f1,f2,f3,f4,f5⟩:=hf
 refine Zc Zil trivial ?_
 simp only[ZcI,List.length_map,Zb,EVA,seval,Zd,men]
 refine Za (Zj1 sig (by omega) (fun y hy=>DN (hbs y hy))) ?_
 cases h1:dc (Yl sig)
 ·simp only[EVA,seval,Zd,men]
  rw[Zj fun h:bigOK sig b=>dc_not.1 h1 h.sg]
 simp only[List.length_map,Zb,EVA,seval,Zd,men]
 refine Za (QE b.roots 0 4) ?_
 cases h2:inB b.roots 0 4
 ·simp only[EVA,seval,Zd,men]
  rw[Zj fun h:bigOK sig b=>inB_not.1 h2 h.roots]
 by_cases h3:(8:Int)<b.nodes.length
 ·simp only[h3,List.length_map,Zb,EVA,seval,Zd,men]
  rw[Zj fun h:bigOK sig b=>by have:=h.nodesL;omega]
 by_cases h4:(4:Int)<b.sites.length
 ·simp only[h3,h4,List.length_map,Zb,EVA,seval,Zd,men]
  rw[Zj fun h:bigOK sig b=>by have:=h.sitesL;omega]
 simp only[h3,h4,List.length_map,Zb,EVA,seval,Zd,men]
 refine Za (QE b.edges 0 8) ?_
 cases h5:inB b.edges 0 8
 ·simp only[EVA,seval,Zd,men]
  rw[Zj fun h:bigOK sig b=>inB_not.1 h5 h.edges]
 have r2:=inB_iff.1 h2
 have r5:=inB_iff.1 h5
 simp only[List.length_map,Zb,EVA,seval,Zd,men]
 refine Za (Zf0 b.outer (by assumption) (by assumption)) ?_
 cases h6:dc (VK b.outer)
 ·simp only[EVA,seval,Zd,men]
  rw[Zj fun h:bigOK sig b=>dc_not.1 h6 h.outer]
 by_cases h7:(16:Int)<b.inner.length
 ·simp only[h7,List.length_map,Zb,EVA,seval,Zd,men]
  rw[Zj fun h:bigOK sig b=>by have:=h.inn.2;rw[ZdW] at this;omega]
 simp only[h7,List.length_map,Zb,EVA,seval,Zd,men]
 refine Za (Zk8 b (by omega)) ?_
 simp only[List.length_map,Zb,EVA,seval,Zd,men]
 refine Za (Zf0 (inn b) (by rw[ZdW];omega) (ZoN (by assumption))) ?_
 cases h8:dc (VK (inn b))
 ·simp only[EVA,seval,Zd,men]
  rw[Zj fun h:bigOK sig b=>dc_not.1 h8 h.inn]
 simp only[List.length_map,Zb,EVA,seval,Zd,men]
 have ho:=(dc_iff.1 h6).2
 refine Zz (α:=Unit) b.nodes.length (fun j _=>[(5,iI j)]) (fun j _=>[]) (fun j _=>∀ k,k<j->Zmg sig b k) () (by simp only[EVA,seval,Zd,men]) (by (simp only[EVA,seval,Zd,men]) <;> rfl) (fun k hk=>absurd hk (Nat.not_lt_zero k)) ?_
 intro j _ hj hA
 simp only[List.length_map,Zb,EVA,seval,Zd,men]
 refine Zl (fun hlt=>?_) (fun hge=>?_)
 ·have hja:j<b.nodes.length:=by omega
  have hm:=List.getElem_mem hja
  refine Za (Zm1 sig b j hja hn (by first | exact(b2 _ hm) | exact(b3 _ hm)) (by first | exact(f1 _ hm).2.1 | exact(f2 _ hm).2.1) r2 r5 (by omega) (ZiH hA)) ?_
  cases hc:dc (nodeOK sig b b.nodes[j] j)
  ·simp only[EVA,seval,Zd,men]
   rw[Zj fun h:bigOK sig b=>dc_not.1 hc (h.nodes j hja)]
  ·simp only[EVA,seval,Zd,men]
   exact⟨by rw[Ze];omega,Zf () hja rfl (ZqX hA fun _=>dc_iff.1 hc)⟩
 have hj1:j=b.nodes.length:=by omega
 subst hj1
 refine Zz (α:=Unit) b.sites.length (fun j _=>[(6,iI j)]) (fun j _=>[]) (fun j _=>∀ k,k<j->Uq sig b (g0 b.sites k) b.nodes.length) () (by simp only[EVA,seval,Zd,men]) (by (simp only[EVA,seval,Zd,men]) <;> rfl) (fun k hk=>absurd hk (Nat.not_lt_zero k)) ?_
 intro j _ hj hB
 simp only[List.length_map,Zb,EVA,seval,Zd,men]
 refine Zl (fun hlt=>?_) (fun hge=>?_)
 ·have hja:j<b.sites.length:=by omega
  have ga:=V5 hja
  have hg:g0 b.sites j∈b.sites:=by simp [hja]
  simp only[ga,List.length_map,Zb,EVA,seval,Zd,men]
  refine Za (Zf1 sig b (g0 b.sites j) b.nodes.length (by first | exact f3 _ hg | exact f2 _ hg | exact f4 _ hg) r2 (Nat.le_refl _) (ZiH hA)) ?_
  cases hc:dc (Uq sig b (g0 b.sites j) b.nodes.length)
  ·simp only[EVA,seval,Zd,men]
   rw[Zj fun h:bigOK sig b=>dc_not.1 hc (h.sites _ hg)]
  ·simp only[EVA,seval,Zd,men]
   exact⟨by rw[Ze];omega,Zf () hja rfl (ZqX hB (dc_iff.1 hc))⟩
 have hj1:j=b.sites.length:=by omega
 subst hj1
 refine Zz (α:=Unit) b.inner.length (fun j _=>[(7,iI j)]) (fun j _=>[]) (fun j _=>∀ k,k<j->∀ h:k<b.inner.length,ZV b b.inner[k].link) () (by simp only[EVA,seval,Zd,men]) (by (simp only[EVA,seval,Zd,men]) <;> rfl) (fun k hk=>absurd hk (Nat.not_lt_zero k)) ?_
 intro j _ hj hC
 simp only[List.length_map,Zb,EVA,seval,Zd,men]
 refine Zl (fun hlt=>?_) (fun hge=>?_)
 ·have hja:j<b.inner.length:=by omega
  have ga:=WH (c:=Ji) hja
  simp only[ga,Ji,List.length_map,Zb,EVA,seval,Zd,men]
  refine Za (Zho b b.inner[j].link r5 (by omega)) ?_
  cases hc:dc (ZV b b.inner[j].link)
  ·simp only[EVA,seval,Zd,men]
   rw[Zj fun h:bigOK sig b=>dc_not.1 hc (h.inner _ (List.getElem_mem hja))]
  ·simp only[EVA,seval,Zd,men]
   exact⟨by rw[Ze];omega,Zf () hja rfl (ZqX hC fun _=>dc_iff.1 hc)⟩
 have hj1:j=b.inner.length:=by omega
 subst hj1
 have:bigOK sig b:=⟨dc_iff.1 h1,r2,by omega,by omega,r5,dc_iff.1 h6,dc_iff.1 h8,fun i h=>hA i h h,fun p hp=>by
  obtain⟨k,hk,rfl⟩:=List.getElem_of_mem hp
  have:=hB k hk
  simpa [hk] using this,fun w hw=>by
  obtain⟨k,hk,rfl⟩:=List.getElem_of_mem hw
  exact hC k hk hk⟩
 rw[ZN this]
theorem Zf3(l:Int)(b:TBigraph)(he:0<=b.edges/\b.edges<=8)(ho:b.outer.length<=4294967296)(lvl:Nat)(S:Sto):Sem Proofs.Tryz.prog V8 lvl [iI l,.ta (Zb b)] S (iB (!dc (ZV b l))) S:=by
 refine Zc ZcT trivial ?_
 simp only[UA,Zb,EVA,seval,Zd,men]
 refine Za (Zhp b l he ho) ?_
 simp only[EVA,seval,Zd,men]
theorem Zf4(p:Int)(sig:List TControl)(b:TBigraph)(hr:0<=b.roots/\b.roots<=4)(hc:Zj3 sig b b.nodes.length)(lvl:Nat)(S:Sto):Sem Proofs.Tryz.prog V9 lvl [iI p,.ta (Zb b),.ta [Tr.sl (sig.map Zh)]] S (iB (!dc (Uq sig b p b.nodes.length))) S:=by
 refine Zc ZcU trivial ?_
 simp only[UB,Zb,List.length_map,EVA,seval,Zd,men]
 refine Za (Zex sig b p b.nodes.length hr (Nat.le_refl _) hc) ?_
 simp only[EVA,seval,Zd,men]
theorem Zf5(w:TWire)(b:TBigraph)(he:0<=b.edges/\b.edges<=8)(ho:b.outer.length<=4294967296)(lvl:Nat)(S:Sto):Sem Proofs.Tryz.prog Qa lvl [.ag ((Ji w).map .tr),.ta (Zb b)] S (iB (!dc (ZV b w.link))) S:=by
 refine Zc ZcV trivial ?_
 simp only[UC,Zb,Ji,EVA,seval,Zd,men]
 refine Za (Zhp b w.link he ho) ?_
 simp only[EVA,seval,Zd,men]
theorem Zw5:ZK Proofs.Tryz.prog JH (ZoD 2 (some 2))=true:=by kernel_rfl
theorem Zw6:ZK Proofs.Tryz.prog Jw (ZrU JH)=true:=by kernel_rfl
theorem any_no{α:Type}{l:List α}{p:α->Prop}:(l.any fun n=>!dc (p n))=false↔∀ n∈l,p n:=by
 simp only[List.any_eq_false,Bool.not_eq_true',Bool.not_eq_false,dc_iff]
theorem Jz(sig:List TControl)(b:TBigraph)(hn:sig.length<=4294967296)(hbs:∀ y∈sig,Zp 4294967296 y)(hb:Zt 4294967296 b)(lvl:Nat)(S:Sto):Sem Proofs.Tryz.prog Z6 lvl [.tr (.sl (sig.map Zh)),.ag ((Zb b).map .tr)] S (iB (dc (bigOK sig b))) S:=by
 obtain⟨b1,b2,b3,b4,b5,b6,b7⟩:=hb
 refine Zc ZeL trivial ?_
 simp only[Zad,List.length_map,Zb,EVA,seval,Zd,men]
 refine Za (Qf sig (by omega) (fun y hy=>DN (hbs y hy))) ?_
 cases h1:dc (Yl sig)
 ·simp only[EVA,seval,Zd,men]
  rw[Zj fun h:bigOK sig b=>dc_not.1 h1 h.sg]
 simp only[List.length_map,Zb,EVA,seval,Zd,men]
 refine Za (YS b.roots 0 4) ?_
 cases h2:inB b.roots 0 4
 ·simp only[EVA,seval,Zd,men]
  rw[Zj fun h:bigOK sig b=>inB_not.1 h2 h.roots]
 by_cases h3:(8:Int)<b.nodes.length
 ·simp only[h3,List.length_map,Zb,EVA,seval,Zd,men]
  rw[Zj fun h:bigOK sig b=>by have:=h.nodesL;omega]
 by_cases h4:(4:Int)<b.sites.length
 ·simp only[h3,h4,List.length_map,Zb,EVA,seval,Zd,men]
  rw[Zj fun h:bigOK sig b=>by have:=h.sitesL;omega]
 simp only[h3,h4,List.length_map,Zb,EVA,seval,Zd,men]
 refine Za (YS b.edges 0 8) ?_
 cases h5:inB b.edges 0 8
 ·simp only[EVA,seval,Zd,men]
  rw[Zj fun h:bigOK sig b=>inB_not.1 h5 h.edges]
 have r2:=inB_iff.1 h2
 have r5:=inB_iff.1 h5
 simp only[List.length_map,Zb,EVA,seval,Zd,men]
 refine Za (Zew b.outer (by assumption) (by assumption)) ?_
 cases h6:dc (VK b.outer)
 ·simp only[EVA,seval,Zd,men]
  rw[Zj fun h:bigOK sig b=>dc_not.1 h6 h.outer]
 simp only[List.length_map,Zb,EVA,seval,Zd,men]
 refine Za (UW b (by omega)) ?_
 simp only[List.length_map,Zb,EVA,seval,Zd,men]
 refine Za (Zew (inn b) (by rw[ZdW];omega) (ZoN (by assumption))) ?_
 cases h8:dc (VK (inn b))
 ·simp only[EVA,seval,Zd,men]
  rw[Zj fun h:bigOK sig b=>dc_not.1 h8 h.inn]
 simp only[List.length_map,Zb,EVA,seval,Zd,men]
 have ho:=(dc_iff.1 h6).2
 refine Zz (α:=Unit) b.nodes.length (fun j _=>[(49,iI j)]) (fun j _=>[]) (fun j _=>∀ k,k<j->Zmg sig b k) () (by simp only[EVA,seval,Zd,men]) (by (simp only[EVA,seval,Zd,men]) <;> rfl) (fun k hk=>absurd hk (Nat.not_lt_zero k)) ?_
 intro j _ hj hA
 simp only[List.length_map,Zb,EVA,seval,Zd,men]
 refine Zl (fun hlt=>?_) (fun hge=>?_)
 ·have hja:j<b.nodes.length:=by omega
  have hm:=List.getElem_mem hja
  have ga:=WH (c:=ZX) hja
  have hll:b.nodes[j].links.length<=4294967296:=by first | exact(b2 _ hm) | exact(b3 _ hm)
  have hno:¬ nodeOK sig b b.nodes[j] j->dc (bigOK sig b)=false:=fun h=>Zj fun g=>h (g.nodes j hja)
  simp only[ga,ZX,List.length_map,Zb,EVA,seval,Zd,men]
  refine⟨by rw[Ze];omega,?_⟩
  refine Za (YS b.nodes[j].control 0 ((sig.length:Int)-1)) ?_
  cases p1:inB b.nodes[j].control 0 ((sig.length:Int)-1)
  ·simp only[EVA,seval,Zd,men]
   rw[hno fun h=>inB_not.1 p1 h.ctl]
  have q1:=inB_iff.1 p1
  simp only[ZX,List.length_map,Zb,EVA,seval,Zd,men]
  refine Za (Zex sig b b.nodes[j].parent j r2 (by omega) (ZiH hA)) ?_
  cases p2:dc (Uq sig b b.nodes[j].parent j)
  ·simp only[EVA,seval,Zd,men]
   rw[hno fun h=>dc_not.1 p2 h.par]
  obtain⟨m,hmm⟩:∃ m:Nat,b.nodes[j].control=m:=⟨b.nodes[j].control.toNat,by omega⟩
  have hms:m<sig.length:=by omega
  have gs:=WH (c:=Zh) hms
  have e:Y7 sig b.nodes[j].control=sig[m].ports:=by simp [Y7,hmm,hms]
  by_cases p3:(b.nodes[j].links.length:Int)=sig[m].ports
  case neg =>
   simp only[p3,hmm,gs,Int.toNat_natCast,Int.natCast_nonneg,Zh,ZX,List.length_map,Zb,EVA,seval,Zd,men]
   rw[hno fun h=>p3 (by rw[<-e];exact h.ports)]
  simp only[p3,hmm,gs,Int.toNat_natCast,Int.natCast_nonneg,Zh,ZX,List.length_map,Zb,EVA,seval,Zd,men]
  refine Za (Ze8 (t:=tv) (cs:=[Zb b]) ZrY ZrX b.nodes[j].links (by omega) (fun x _ lvl S=>Zf3 x b r5 (by omega) lvl S)) ?_
  cases p4:b.nodes[j].links.any fun l=>!dc (ZV b l)
  ·simp only[EVA,seval,Zd,men]
   exact⟨by rw[Ze];omega,Zf () hja rfl (ZqX hA fun _=>⟨q1,dc_iff.1 p2,by rw[e];exact p3,any_no.1 p4⟩)⟩
  ·simp only[EVA,seval,Zd,men]
   rw[hno fun h=>by rw[any_no.2 h.links] at p4;cases p4]
 have hj1:j=b.nodes.length:=by omega
 subst hj1
 refine Za (Ze8 (t:=tv) (cs:=[Zb b,[Tr.sl (sig.map Zh)]]) ZrY ZrX b.sites (by omega) (fun x _ lvl S=>Zf4 x sig b r2 (ZiH hA) lvl S)) ?_
 cases h9:b.sites.any fun p=>!dc (Uq sig b p b.nodes.length)
 case true =>
  simp only[EVA,seval,Zd,men]
  rw[Zj fun h:bigOK sig b=>by rw[any_no.2 h.sites] at h9;cases h9]
 simp only[List.length_map,Zb,EVA,seval,Zd,men]
 refine Za (Zmf (cs:=[Zb b]) Zw6 Zw5 (fun x=>rfl) b.inner (by omega) (fun x _ lvl S=>Zf5 x b r5 (by omega) lvl S)) ?_
 cases h10:b.inner.any fun w=>!dc (ZV b w.link)
 case true =>
  simp only[EVA,seval,Zd,men]
  rw[Zj fun h:bigOK sig b=>by rw[(any_no (p:=fun w:TWire=>ZV b w.link)).2 h.inner] at h10;cases h10]
 simp only[EVA,seval,Zd,men]
 have:bigOK sig b:=⟨dc_iff.1 h1,r2,by omega,by omega,r5,dc_iff.1 h6,dc_iff.1 h8,fun i h=>hA i h h,any_no.1 h9,any_no.1 h10⟩
 rw[ZN this]
end Go.Fd

/-
  LISTS IN ORDER, OF ANY KIND: SORTED, EACH ONCE; CALLS THAT CHANGE ONE OBJECT. Own work.
-/
namespace Go.Fd
set_option maxRecDepth 20000
def cz{α:Type}[DecidableEq α](g:Nat->α):Nat->List α
 | 0=>[]
 | m+1=>cz g m++if m≠0/\g m=g (m-1) then [] else [g m]
theorem Zw7{α:Type}[DecidableEq α](g:Nat->α):∀ m,(cz g m).length<=m
 | 0=>Nat.le_refl _
 | m+1=>by
  have:=Zw7 g m
  simp only[cz,List.length_append]
  split <;> simp <;> omega
theorem ZtK{α:Type}[DecidableEq α]{g:Nat->α}{m:Nat}(h0:m≠0)(h:g m=g (m-1)):cz g (m+1)=cz g m:=by
 rw[cz,if_pos ⟨h0,h⟩,List.append_nil]
theorem ZBL{α:Type}[DecidableEq α]{g:Nat->α}{m:Nat}(h:g m≠g (m-1)):cz g (m+1)=cz g m++[g m]:=by
 rw[cz,if_neg (fun e=>h e.2)]
theorem Zc9{α:Type}{y:List α}{i:Nat}{v:α}(h:i<y.length):(y.set i v).take (i+1)=y.take i++[v]:=by
 rw[List.take_succ_eq_append_getElem (by rw[List.length_set];exact h),List.getElem_set_self,List.take_set_of_le (Nat.le_refl i)]
theorem Zw8{lvl:Nat}{S:Sto}{id:Oid}{k hw ver:Nat}{es:Row}{u:Bool}(hne:id.1≠lvl)(hS:S id=some (.ar k es u hw ver)):wid (ZG lvl [] S) id [] k:=by
 unfold wid
 rw[Z9 hne,hS]
theorem ZiI{C:Zk}{env:List (Nat×IV)}{loc:List (Nat×Ob)}{out:Sto}{d:Option Nat}{K:St->Prop}{fid:FuncId}{imp:Bool}{lvl:Nat}{args:List IV}{r:IV}(key:Nat)(o:Ob)(h:C fid (lvl+1) args (ZG lvl loc out) r (ZP (ZG lvl loc out) (lvl,key) o))
  (hk:freshK (keyOf d) (ptO key o loc) (impv imp lvl (keyOf d) 0 r).2.length/\K ⟨lvl,ptd d (impv imp lvl (keyOf d) 0 r).1 env,addO (keyOf d) (impv imp lvl (keyOf d) 0 r).2 (ptO key o loc),out⟩):kcy C fid imp lvl env loc out d K args :=
 Xc (ptO key o loc) out (fun _ _=>rfl) (by rw[ZjJ];exact h) hk
theorem Zmh{C:Zk}{env:List (Nat×IV)}{loc:List (Nat×Ob)}{out:Sto}{d:Option Nat}{K:St->Prop}{fid:FuncId}{imp:Bool}{lvl:Nat}{args:List IV}{r:IV}(key:Nat)(o:Nat->Ob)(h:∃ v,C fid (lvl+1) args (ZG lvl loc out) r (ZP (ZG lvl loc out) (lvl,key) (o v)))
  (hk:∀ v,freshK (keyOf d) (ptO key (o v) loc) (impv imp lvl (keyOf d) 0 r).2.length/\K ⟨lvl,ptd d (impv imp lvl (keyOf d) 0 r).1 env,addO (keyOf d) (impv imp lvl (keyOf d) 0 r).2 (ptO key (o v) loc),out⟩):kcy C fid imp lvl env loc out d K args:=by
 obtain⟨v,h⟩:=h
 exact ZiI key (o v) h (hk v)
section
variable {α:Type} {e0:α} {lt:α->α->Prop}
def gx(e0:α)(l:List α)(i:Nat):α:=l.getD i e0
theorem XV{l:List α}{i:Nat}(h:i<l.length):gx e0 l i=l[i]:=by
 unfold gx
 rw[List.getD_eq_getElem?_getD,List.getElem?_eq_getElem h]
 rfl
def ZiJ(e0:α)(lt:α->α->Prop)(x:List α)(i:Nat):Prop:=∀ p q,p<q->q<i -> ¬ lt (gx e0 x q) (gx e0 x p)
def Zj4(e0:α)(lt:α->α->Prop)(x:List α)(i j:Nat):Prop:=(∀ p q,p<q->q<=i->p≠j->q≠j -> ¬ lt (gx e0 x q) (gx e0 x p))/\∀ q,j<q->q<=i -> ¬ lt (gx e0 x q) (gx e0 x j)
def Zug(e0:α)(x:List α)(j:Nat):List α:=(x.set j (gx e0 x (j-1))).set (j-1) (gx e0 x j)
theorem Zmi{y:List α}{a b:Nat}{v:α}(h:a<y.length):gx e0 (y.set a v) b=if a=b then v else gx e0 y b:=by
 show (y.set a v).getD b e0=if a=b then v else y.getD b e0
 rw[List.getD_eq_getElem?_getD,List.getElem?_set,List.getD_eq_getElem?_getD]
 by_cases e:a=b
 ·rw[if_pos e,if_pos e,if_pos (by omega)];rfl
 ·rw[if_neg e,if_neg e]
theorem Zk9{y:List α}{i:Nat}(h:Zj4 e0 lt y i 0):ZiJ e0 lt y (i+1):=fun p q h1 h2=>by
 by_cases e:p=0
 ·subst e;exact h.2 q h1 (by omega)
 ·exact h.1 p q h1 (by omega) e (by omega)
theorem Zla(tr:∀ a b c,¬ lt b a -> ¬ lt c b -> ¬ lt c a){y:List α}{i j:Nat}(h:Zj4 e0 lt y i j)(hj:0<j)(hji:j<=i)(hle:¬ lt (gx e0 y j) (gx e0 y (j-1))):ZiJ e0 lt y (i+1):=fun p q h1 h2=>by
 by_cases e:p=j
 ·subst e;exact h.2 q h1 (by omega)
 ·by_cases e2:q=j
  ·subst e2
   by_cases e3:p=q-1
   ·subst e3;exact hle
   ·exact tr _ _ _ (h.1 p (q-1) (by omega) (by omega) e (by omega)) hle
  ·exact h.1 p q h1 (by omega) e e2
theorem Zm2(asym:∀ a b,lt a b -> ¬ lt b a){y:List α}{i j:Nat}(h:Zj4 e0 lt y i j)(hj:0<j)(hji:j<=i)(hi:i<y.length)(hlt:lt (gx e0 y j) (gx e0 y (j-1))):Zj4 e0 lt (Zug e0 y j) i (j-1):=by
 have e:∀ b,gx e0 (Zug e0 y j) b=if j-1=b then gx e0 y j else if j=b then gx e0 y (j-1) else gx e0 y b:=fun b=>by
  unfold Zug
  rw[Zmi (by rw[List.length_set];omega),Zmi (by omega)]
 refine⟨fun p q h1 h2 h3 h4=>?_,fun q h1 h2=>?_⟩
 ·rw[e p,e q,if_neg (show ¬ j-1=p from fun g=>h3 g.symm),if_neg (show ¬ j-1=q from fun g=>h4 g.symm)]
  by_cases ep:j=p
  ·rw[if_pos ep,if_neg (show ¬ j=q by omega)]
   exact h.1 (j-1) q (by omega) h2 (by omega) (by omega)
  ·rw[if_neg ep]
   by_cases eq:j=q
   ·rw[if_pos eq]
    exact h.1 p (j-1) (by omega) (by omega) (by omega) (by omega)
   ·rw[if_neg eq]
    exact h.1 p q h1 h2 (fun g=>ep g.symm) (fun g=>eq g.symm)
 ·rw[e (j-1),e q,if_pos rfl,if_neg (show ¬ j-1=q by omega)]
  by_cases eq:j=q
  ·rw[if_pos eq];exact asym _ _ hlt
  ·rw[if_neg eq]
   exact h.2 q (by omega) h2
theorem ZoO{y:List α}{j:Nat}(hj:0<j)(hi:j<y.length):(Zug e0 y j).Perm y:=by
 have h:=@List.set_set_perm _ y j (j-1) hi (by omega)
 unfold Zug
 rw[XV hi,XV (by omega)]
 exact h
theorem ZeN{γ:Type}{c:α->γ}{l:List α}{i:Nat}(h:i<l.length):(l.map c)[i]? = some (c (gx e0 l i)):=by
 rw[XV h];simp [h]
end
theorem ZiK{α:Type}[DecidableEq α]{e0:α}{l:List α}:∀{n:Nat},n<=l.length->(∀ m,0<m->m<n->gx e0 l m≠gx e0 l (m-1))->cz (gx e0 l) n=l.take n
 | 0,_,_=>by simp [cz]
 | n+1,hn,h=>by
  have ih:=ZiK (n:=n) (by omega) fun m h0 h1=>h m h0 (by omega)
  have hx:cz (gx e0 l) (n+1)=cz (gx e0 l) n++[gx e0 l n]:=by
   rw[cz,if_neg (fun e=>h n (by omega) (by omega) e.2)]
  rw[hx,ih,List.take_succ_eq_append_getElem (by omega)]
  rw[XV (by omega)]
structure Ords {α:Type} (lt:α->α->Prop):Prop where
 irr:∀ a,¬ lt a a
 tr:∀ a b c,lt a b->lt b c->lt a c
 tri:∀ a b,lt a b\/a=b\/lt b a
theorem Ords.asym{α:Type}{lt:α->α->Prop}(O:Ords lt)(a b:α)(h:lt a b):¬ lt b a:=fun g=>O.irr a (O.tr _ _ _ h g)
section
variable {α:Type} {e0:α} {lt:α->α->Prop}
theorem Zj5(O:Ords lt):∀{x y:List α},x.Pairwise lt->y.Pairwise lt->(∀ c,c∈x↔c∈y)->x=y
 | [],[],_,_,_=>rfl
 | [],b::s,_,_,h=>by have:=(h b).2 (by simp);simp at this
 | a::r,[],_,_,h=>by have:=(h a).1 (by simp);simp at this
 | a::r,b::s,hx,hy,h=>by
  rw[List.pairwise_cons] at hx hy
  have e:a=b:=by
   rcases List.mem_cons.1 ((h a).1 (by simp)) with e | h1
   ·exact e
   ·rcases List.mem_cons.1 ((h b).2 (by simp)) with e | h2
    ·exact e.symm
    ·exact absurd (hy.1 a h1) (O.asym _ _ (hx.1 b h2))
  subst e
  congr 1
  refine Zj5 O hx.2 hy.2 fun c=>⟨fun hc=>?_,fun hc=>?_⟩
  ·rcases List.mem_cons.1 ((h c).1 (by simp [hc])) with e | h1
   ·subst e;exact absurd (hx.1 c hc) (O.irr c)
   ·exact h1
  ·rcases List.mem_cons.1 ((h c).2 (by simp [hc])) with e | h1
   ·subst e;exact absurd (hy.1 c hc) (O.irr c)
   ·exact h1
theorem Zf6(O:Ords lt):∀{x y:List α},x.Pairwise (fun a b=>¬ lt b a)->y.Pairwise (fun a b=>¬ lt b a)->x.Perm y->x=y
 | [],y,_,_,h=>by rw[List.nil_perm.1 h]
 | a::r,[],_,_,h=>by have:=h.length_eq;simp at this
 | a::r,b::s,hx,hy,h=>by
  rw[List.pairwise_cons] at hx hy
  have e:a=b:=by
   rcases List.mem_cons.1 (h.mem_iff.1 (List.mem_cons_self (a:=a) (l:=r))) with e | h1
   ·exact e
   ·rcases List.mem_cons.1 (h.mem_iff.2 (List.mem_cons_self (a:=b) (l:=s))) with e | h2
    ·exact e.symm
    ·rcases O.tri a b with g | g | g
     ·exact absurd g (hy.1 a h1)
     ·exact g
     ·exact absurd g (hx.1 b h2)
  subst e
  congr 1
  exact Zf6 O hx.2 hy.2 h.cons_inv
theorem ZqY{x:List α}(h:ZiJ e0 lt x x.length):x.Pairwise (fun a b=>¬ lt b a):=List.pairwise_iff_getElem.2 fun i j hi hj hij=>by
 have:=h i j hij hj
 rwa [XV hi,XV hj] at this
noncomputable def Zlb(lt:α->α->Prop)(l:List α):List α:=l.mergeSort fun a b=>@decide (¬ lt b a) (Classical.propDecidable _)
theorem srtG_perm{l:List α}:(Zlb lt l).Perm l:=List.mergeSort_perm ..
theorem Zf7(O:Ords lt){l:List α}:(Zlb lt l).Pairwise (fun a b=>¬ lt b a):=by
 classical
 have h:=List.pairwise_mergeSort (le:=fun a b=>@decide (¬ lt b a) (Classical.propDecidable _)) (fun a b c h1 h2=>by
  simp only[decide_eq_true_eq] at *
  intro g
  rcases O.tri a b with k | k | k
  ·exact h2 (O.tr _ _ _ g k)
  ·subst k;exact h2 g
  ·exact h1 k) (fun a b=>by
  simp only[Bool.or_eq_true,decide_eq_true_eq]
  by_cases g:lt b a
  ·exact .inr (O.asym _ _ g)
  ·exact .inl g) l
 exact h.imp (fun h=>by simpa using h)
theorem ZqZ(O:Ords lt){l x:List α}(hp:x.Perm l)(hu:ZiJ e0 lt x l.length):x=Zlb lt l:=by
 rw[<-hp.length_eq] at hu
 exact Zf6 O (ZqY hu) (Zf7 O) (hp.trans srtG_perm.symm)
theorem cz_mem[DecidableEq α]{g:Nat->α}{c:α}:∀{n:Nat},c∈cz g n↔∃ i,i<n/\g i=c
 | 0=>by simp [cz]
 | n+1=>by
  rw[cz,List.mem_append,cz_mem (n:=n)]
  constructor
  ·rintro(⟨i,h1,h2⟩ | h)
   ·exact⟨i,by omega,h2⟩
   ·split at h
    ·cases h
    ·exact⟨n,by omega,(List.mem_singleton.1 h).symm⟩
  ·rintro⟨i,h1,h2⟩
   by_cases e:i=n
   ·subst e
    by_cases k:i≠0/\g i=g (i-1)
    ·exact .inl ⟨i-1,by omega,k.2.symm.trans h2⟩
    ·rw[if_neg k];exact .inr (by simp [h2])
   ·exact .inl ⟨i,by omega,h2⟩
theorem Zw9(O:Ords lt)[DecidableEq α]{g:Nat->α}:∀{n:Nat},(∀ i j,i<j->j<n -> ¬ lt (g j) (g i))->(cz g n).Pairwise lt
 | 0,_=>by simp [cz]
 | n+1,h=>by
  have ih:=Zw9 O (n:=n) fun i j h1 h2=>h i j h1 (by omega)
  by_cases k:n≠0/\g n=g (n-1)
  ·rw[ZtK k.1 k.2];exact ih
  ·have hx:cz g (n+1)=cz g n++[g n]:=by rw[cz,if_neg k]
   rw[hx,List.pairwise_append]
   refine⟨ih,by simp,fun c hc d hd=>?_⟩
   rw[List.mem_singleton] at hd
   subst hd
   obtain⟨i,h1,rfl⟩:=cz_mem.1 hc
   have hn0:n≠0:=by omega
   rcases O.tri (g i) (g n) with e | e | e
   ·exact e
   ·exfalso
    have e1:¬ lt (g n) (g (n-1)):=h (n-1) n (by omega) (by omega)
    have e2:¬ lt (g (n-1)) (g i):=by
     by_cases q:i=n-1
     ·subst q;exact O.irr _
     ·exact h i (n-1) (by omega) (by omega)
    rw[e] at e2
    rcases O.tri (g n) (g (n-1)) with q | q | q
    ·exact e1 q
    ·exact k ⟨hn0,q⟩
    ·exact e2 q
   ·exact absurd e (h i n h1 (by omega))
noncomputable def Zuh[DecidableEq α](e0:α)(lt:α->α->Prop)(l:List α):List α:=cz (gx e0 (Zlb lt l)) (Zlb lt l).length
theorem ZoP(O:Ords lt)[DecidableEq α]{l:List α}:(Zuh e0 lt l).Pairwise lt:=Zw9 O fun i j h1 h2=>by
 rw[XV h2,XV (Nat.lt_trans h1 h2)]
 exact List.pairwise_iff_getElem.1 (Zf7 O) i j _ _ h1
theorem setG_mem[DecidableEq α]{l:List α}{c:α}:c∈Zuh e0 lt l↔c∈l:=by
 unfold Zuh
 rw[cz_mem,<-(srtG_perm (lt:=lt) (l:=l)).mem_iff]
 constructor
 ·rintro⟨i,h1,h2⟩
  rw[XV h1] at h2
  rw[<-h2];exact List.getElem_mem h1
 ·intro h
  obtain⟨i,h1,h2⟩:=List.getElem_of_mem h
  exact⟨i,h1,by rw[XV h1];exact h2⟩
theorem ZiL(O:Ords lt)[DecidableEq α]{l y:List α}(hy:y.Pairwise lt)(h:∀ c,c∈l↔c∈y):Zuh e0 lt l=y:=Zj5 O (ZoP O) hy fun c=>setG_mem.trans (h c)
theorem ZoQ[DecidableEq α]{l:List α}:(Zuh e0 lt l).length<=l.length:=Nat.le_trans (Zw7 _ _) (Nat.le_of_eq srtG_perm.length_eq)
end
end Go.Fd

/-
  SORTING A FEW STRINGS: slices.Sort, slices.Compact ON ANOTHER'S ROW. Own work.
-/
namespace Go.Fd
set_option maxRecDepth 20000
abbrev e0S:ByteArray:=⟨#[]⟩
abbrev gS(l:List ByteArray)(i:Nat):ByteArray:=gx e0S l i
theorem bl_irr:∀(x:List UInt8),Op.bytesLess x x=false
 | []=>rfl
 | a::x=>by
  have e:¬ a<a:=UInt8.lt_irrefl a
  simp [Op.bytesLess,e,bl_irr x]
theorem Zmj:∀(x y z:List UInt8),Op.bytesLess x y=true->Op.bytesLess y z=true->Op.bytesLess x z=true
 | [],[],_,h,_=>by simp [Op.bytesLess] at h
 | [],_::_,[],_,h=>by simp [Op.bytesLess] at h
 | [],_::_,_::_,_,_=>by simp [Op.bytesLess]
 | _::_,[],_,h,_=>by simp [Op.bytesLess] at h
 | _::_,_::_,[],_,h=>by simp [Op.bytesLess] at h
 | a::x,b::y,c::z,h1,h2=>by
  have ih:=Zmj x y z
  have irr:∀ a:UInt8,¬ a<a:=UInt8.lt_irrefl
  simp only[Op.bytesLess] at h1 h2 ⊢
  by_cases e1:a=b
  ·subst e1
   simp only[irr,decide_false,Bool.false_or,beq_self_eq_true,Bool.true_and,if_true,if_false] at h1
   by_cases e2:a=c
   ·subst e2
    simp [irr] at h1 h2 ⊢
    exact ih h1 h2
   ·by_cases l2:a<c
    ·simp [l2]
    ·simp [l2,e2] at h2
  ·by_cases l1:a<b
   ·by_cases e2:b=c
    ·subst e2;simp [l1]
    ·by_cases l2:b<c
     ·simp [UInt8.lt_trans l1 l2]
     ·simp [l2,e2] at h2
   ·simp [l1,e1] at h1
theorem ordsS:Ords ltS:=by
 refine⟨fun a h=>?_,fun a b c=>Zmj _ _ _,fun a b=>?_⟩
 ·unfold ltS at h
  rw[bl_irr] at h
  cases h
 ·have h:=ZoM a.data.toList b.data.toList
  unfold ltS
  cases h1:Op.bytesLess a.data.toList b.data.toList with
  | true=>exact .inl rfl
  | false =>
   rw[h1] at h
   cases h2:Op.bytesLess b.data.toList a.data.toList with
   | true=>exact .inr (.inr rfl)
   | false =>
    rw[h2] at h
    refine .inr (.inl ?_)
    have:a.data.toList=b.data.toList:=by simpa using h
    cases a with | mk a=>cases b with | mk b=>exact congrArg ByteArray.mk (Array.toList_inj.1 this)
theorem Zq0(a b:ByteArray)(h:ltS a b):¬ ltS b a:=ordsS.asym a b h
theorem ltS_tr(a b c:ByteArray)(h1:¬ ltS b a)(h2:¬ ltS c b):¬ ltS c a:=fun h=>by
 rcases ordsS.tri b c with g | g | g
 ·exact h1 (ordsS.tr _ _ _ g h)
 ·subst g;exact h1 h
 ·exact h2 g
theorem Zq1{y:List ByteArray}{j:Nat}{v:ByteArray}(h:j<y.length):YU (rS y) [] j 0 (.v (.string v))=rS (y.set j v):=by
 simp only[YU]
 rw[ZeN (e0:=e0S) (c:=fun n:ByteArray=>[ts n]) h]
 exact(List.map_set (f:=fun n:ByteArray=>[ts n]) (l:=y) (i:=j) (a:=v)).symm
theorem Zm3(a:ByteArray)(lvl:Nat)(S:Sto):Sem Proofs.Tryz.prog YN lvl [iS a] S (iB false) S:=by
 refine Zc Zc6 trivial ?_
 simp only[UF,EVA,seval,Zd,men]
theorem ZoR(a b:ByteArray)(lvl:Nat)(S:Sto):Sem Proofs.Tryz.prog Y6 lvl [iS a,iS b] S (iB (dc (ltS a b))) S:=by
 refine Zc ZdT trivial ?_
 simp only[Df,EVA,seval,Zd,men]
 refine Za (Zm3 a) ?_
 simp only[EVA,seval,Zd,men]
 have:Op.bytesLess a.data.toList b.data.toList=dc (ltS a b):=by
  unfold ltS
  rw[XA,Bool.decide_eq_true]
 rw[this]
theorem Zq2(l:List ByteArray)(hl:l.length<=12)(lvl:Nat)(S:Sto)(id:Oid)(u:Bool)(hw ver:Nat)(hid:id.1<lvl)(hS:S id=some (.ar 1 (rS l) u hw ver))(srt:List ByteArray)(hsrt:∀ x:List ByteArray,x.Perm l->ZiJ e0S ltS x l.length->x=srt) :
  Sem Proofs.Tryz.prog Jf lvl [.hd id [] 0 l.length none hw,iI 0,iI l.length] S (.tu []) (ZP S id (.ar 1 (rS srt) u hw ver)):=by
 have hne:id.1≠lvl:=by omega
 refine Zc Qu trivial ?_
 simp only[J2,EVA,seval,Zd,men]
 refine⟨by rw[Ze];omega,?_⟩
 refine Z8 (α:=List ByteArray) l.length (fun k x=>⟨lvl,[(0,.hd id [] 0 l.length none hw),(1,iI 0),(2,iI l.length),(6,iI ((k+1:Nat):Int))],[],ZP S id (.ar 1 (rS x) u hw ver)⟩) (fun k x=>x.Perm l/\ZiJ e0S ltS x (k+1)) l ⟨by simp only[Jv hne,EVA,seval,Zd,men],by (simp only[Xd hS,EVA,seval,Zd,men]) <;> rfl⟩ ⟨List.Perm.refl _,fun p q h1 h2=>by omega⟩ ?_
 intro k x hk ⟨hA1,hA2⟩
 have hxl:x.length=l.length:=hA1.length_eq
 simp only[EVA,seval,Zd,men]
 refine Zl (fun hlt=>?_) (fun hge=>?_)
 ·have hk1:k+1<l.length:=by omega
  refine Z8 (α:=List ByteArray) (k+1) (fun m y=>⟨lvl,[(0,.hd id [] 0 l.length none hw),(1,iI 0),(2,iI l.length),(6,iI ((k+1:Nat):Int)),(7,iI ((k+1-m:Nat):Int))],[],ZP S id (.ar 1 (rS y) u hw ver)⟩) (fun m y=>y.Perm l/\Zj4 e0S ltS y (k+1) (k+1-m)) x ⟨by simp only[Jv hne,EVA,seval,Zd,men],by (simp only[EVA,seval,Zd,men]) <;> rfl⟩ ⟨hA1,fun p q h1 h2 h3 h4=>hA2 p q h1 (by omega),fun q h1 h2=>by omega⟩ ?_
  intro m y hm ⟨hB1,hB2⟩
  have hyl:y.length=l.length:=hB1.length_eq
  generalize hj:k+1-m=j at hB2 ⊢
  by_cases hj0:j=0
  ·subst hj0
   simp only[EVA,seval,Zd,men]
   exact⟨by rw[Ze];omega,fun h=>absurd h hne,Zf y (by omega) rfl ⟨hB1,Zk9 hB2⟩⟩
  ·have g1:(0:Int)<j:=by omega
   have e1:((j:Int)-1)=((j-1:Nat):Int):=by omega
   have gj:=ZeN (e0:=e0S) (c:=fun n:ByteArray=>[ts n]) (l:=y) (i:=j) (by omega)
   have gj1:=ZeN (e0:=e0S) (c:=fun n:ByteArray=>[ts n]) (l:=y) (i:=j-1) (by omega)
   have l1:j<l.length:=by omega
   have l2:j-1<l.length:=by omega
   simp only[g1,Z9 hne,V3,e1,gj,gj1,l1,l2,Nat.zero_add,EVA,seval,Zd,men]
   refine⟨by rw[Ze];omega,Za (ZoR (gS y j) (gS y (j-1))) ?_⟩
   by_cases hlt2:ltS (gS y j) (gS y (j-1))
   ·rw[ZN hlt2]
    have s1:=Zq1 (y:=y) (j:=j) (v:=gS y (j-1)) (by omega)
    have s2:=Zq1 (y:=y.set j (gS y (j-1))) (j:=j-1) (v:=gS y j) (by rw[List.length_set];omega)
    have gj2:=ZeN (e0:=e0S) (c:=fun n:ByteArray=>[ts n]) (l:=y.set j (gS y (j-1))) (i:=j-1) (by rw[List.length_set];omega)
    simp only[g1,Z9 hne,VS hne,J6,V3,Jv hne,e1,gj,gj1,gj2,s1,s2,l1,l2,Nat.zero_add,EVA,seval,Zd,men]
    subst hj
    refine⟨by rw[Ze];omega,by rw[Ze];omega,by rw[Ze];omega,Zf (Zug e0S y (k+1-m)) (by omega) (by rw[show k+1-(m+1)=k+1-m-1 from by omega];rfl) ⟨(ZoO (by omega) (by omega)).trans hB1,?_⟩⟩
    rw[show k+1-(m+1)=k+1-m-1 from by omega]
    exact Zm2 Zq0 hB2 (by omega) (by omega) (by omega) hlt2
   ·rw[Zj hlt2]
    simp only[EVA,seval,Zd,men]
    exact⟨by rw[Ze];omega,fun h=>absurd h hne,Zf y (by omega) rfl ⟨hB1,Zla ltS_tr hB2 (by omega) (by omega) hlt2⟩⟩
 ·have:k+1=l.length\/k=l.length:=by omega
  have hup:ZiJ e0S ltS x l.length:=fun p q h1 h2=>hA2 p q h1 (by omega)
  have hx:=hsrt x hA1 hup
  rw[hx]
theorem Zq3(l:List ByteArray)(hl:l.length<=12)(r:Int)(lvl:Nat)(S:Sto)(id:Oid)(u:Bool)(hw ver:Nat)(hid:id.1<lvl)(hS:S id=some (.ar 1 (rS l) u hw ver))(srt:List ByteArray)(hsrt:∀ x:List ByteArray,x.Perm l->ZiJ e0S ltS x l.length->x=srt) :
  Sem Proofs.Tryz.prog ZR lvl [.hd id [] 0 l.length none hw,iI 0,iI l.length,iI r] S (.tu []) (ZP S id (.ar 1 (rS srt) u hw ver)):=by
 have hne:id.1≠lvl:=by omega
 refine Zc Wd trivial ?_
 simp only[YX,EVA,seval,Zd,men]
 refine Z8 (α:=Unit) 0 (fun _ _=>⟨lvl,[(0,.hd id [] 0 l.length none hw),(1,iI 0),(2,iI l.length),(3,iI r),(8,iB true),(9,iB true)],[],S⟩) (fun _ _=>True) () ⟨by simp only[Jv hne,EVA,seval,Zd,men],by (simp only[EVA,seval,Zd,men]) <;> rfl⟩ trivial ?_
 intro _ _ _ _
 have h12:(l.length:Int)-0<=12:=by omega
 simp only[h12,EVA,seval,Zd,men]
 refine⟨by rw[Ze];omega,?_⟩
 simp only[Zjf]
 refine Xc [] (ZP S id (.ar 1 (rS srt) u hw ver)) (fun i hi=>by unfold ZP;rw[if_neg (fun e=>hne (by rw[<-e];exact hi))]) (by
  rw[WN hne]
  exact Zq2 l hl (lvl+1) (ZG lvl [] S) id u hw ver (by omega) (by rw[Z9 hne];exact hS) srt hsrt) ?_
 simp only[Jv hne,EVA,seval,Zd,men]
theorem ZoS{v:Int}(h0:0<=v)(h:v<=12):∃ r:Int,∀(lvl:Nat) (S:Sto),Sem Proofs.Tryz.prog QN lvl [.tr (.v (.int .u64 v))] S (iI r) S:=by
 have:v=0\/v=1\/v=2\/v=3\/v=4\/v=5\/v=6\/v=7\/v=8\/v=9\/v=10\/v=11\/v=12:=by omega
 rcases this with rfl | rfl | rfl | rfl | rfl | rfl | rfl | rfl | rfl | rfl | rfl | rfl | rfl
 ·refine⟨0,fun lvl S=>Zc ZE trivial ?_⟩
  simp only[ZA,EVA,seval,Zd,men]
  simp [XE,IntKind.min,IntKind.max,IntKind.signed,IntKind.bits]
 ·refine⟨1,fun lvl S=>Zc ZE trivial ?_⟩
  simp only[ZA,EVA,seval,Zd,men]
  simp [XE,IntKind.min,IntKind.max,IntKind.signed,IntKind.bits]
 ·refine⟨2,fun lvl S=>Zc ZE trivial ?_⟩
  simp only[ZA,EVA,seval,Zd,men]
  simp [XE,IntKind.min,IntKind.max,IntKind.signed,IntKind.bits]
 ·refine⟨2,fun lvl S=>Zc ZE trivial ?_⟩
  simp only[ZA,EVA,seval,Zd,men]
  simp [XE,IntKind.min,IntKind.max,IntKind.signed,IntKind.bits]
 ·refine⟨3,fun lvl S=>Zc ZE trivial ?_⟩
  simp only[ZA,EVA,seval,Zd,men]
  simp [XE,IntKind.min,IntKind.max,IntKind.signed,IntKind.bits]
 ·refine⟨3,fun lvl S=>Zc ZE trivial ?_⟩
  simp only[ZA,EVA,seval,Zd,men]
  simp [XE,IntKind.min,IntKind.max,IntKind.signed,IntKind.bits]
 ·refine⟨3,fun lvl S=>Zc ZE trivial ?_⟩
  simp only[ZA,EVA,seval,Zd,men]
  simp [XE,IntKind.min,IntKind.max,IntKind.signed,IntKind.bits]
 ·refine⟨3,fun lvl S=>Zc ZE trivial ?_⟩
  simp only[ZA,EVA,seval,Zd,men]
  simp [XE,IntKind.min,IntKind.max,IntKind.signed,IntKind.bits]
 ·refine⟨4,fun lvl S=>Zc ZE trivial ?_⟩
  simp only[ZA,EVA,seval,Zd,men]
  simp [XE,IntKind.min,IntKind.max,IntKind.signed,IntKind.bits]
 ·refine⟨4,fun lvl S=>Zc ZE trivial ?_⟩
  simp only[ZA,EVA,seval,Zd,men]
  simp [XE,IntKind.min,IntKind.max,IntKind.signed,IntKind.bits]
 ·refine⟨4,fun lvl S=>Zc ZE trivial ?_⟩
  simp only[ZA,EVA,seval,Zd,men]
  simp [XE,IntKind.min,IntKind.max,IntKind.signed,IntKind.bits]
 ·refine⟨4,fun lvl S=>Zc ZE trivial ?_⟩
  simp only[ZA,EVA,seval,Zd,men]
  simp [XE,IntKind.min,IntKind.max,IntKind.signed,IntKind.bits]
 ·refine⟨4,fun lvl S=>Zc ZE trivial ?_⟩
  simp only[ZA,EVA,seval,Zd,men]
  simp [XE,IntKind.min,IntKind.max,IntKind.signed,IntKind.bits]
theorem Zlc{v:Int}(h0:0<=v)(h:v<=12):∃ r:Int,∀(lvl:Nat) (S:Sto),Sem Proofs.Tryz.prog YO lvl [.tr (.v (.int .u64 v))] S (iI r) S:=by
 obtain⟨r,hr⟩:=ZoS h0 h
 refine⟨r,fun lvl S=>Zc ZfM trivial ?_⟩
 simp only[ZaI,EVA,seval,Zd,men]
 refine Za hr ?_
 simp only[EVA,seval,Zd,men]
theorem ZoT(l:List ByteArray)(hl:l.length<=12)(lvl:Nat)(S:Sto)(id:Oid)(u:Bool)(hw ver:Nat)(hid:id.1<lvl)(hS:S id=some (.ar 1 (rS l) u hw ver))(srt:List ByteArray)(hsrt:∀ x:List ByteArray,x.Perm l->ZiJ e0S ltS x l.length->x=srt) :
  Sem Proofs.Tryz.prog Z2 lvl [.hd id [] 0 l.length none hw] S (.tu []) (ZP S id (.ar 1 (rS srt) u hw ver)):=by
 have hne:id.1≠lvl:=by omega
 obtain⟨r,hr⟩:=Zlc (v:=(l.length:Int)) (by omega) (by omega)
 refine Zc Ug trivial ?_
 simp only[VI,EVA,seval,Zd,men]
 refine⟨⟨by show (0:Int)<=l.length;omega,by show (l.length:Int)<=18446744073709551615;omega⟩,Za hr ?_⟩
 simp only[EVA,seval,Zd,men]
 refine Xc [] (ZP S id (.ar 1 (rS srt) u hw ver)) (fun i hi=>by unfold ZP;rw[if_neg (fun e=>hne (by rw[<-e];exact hi))]) (by
  rw[WN hne]
  exact Zq3 l hl r (lvl+1) (ZG lvl [] S) id u hw ver (by omega) (by rw[Z9 hne];exact hS) srt hsrt) ?_
 simp only[Jv hne,EVA,seval,Zd,men]
theorem Zj6(l:List ByteArray)(hl:l.length<=4294967290)(lvl:Nat)(S:Sto)(id:Oid)(u:Bool)(hw ver:Nat)(hid:id.1<lvl)(hS:S id=some (.ar 1 (rS l) u hw ver)) :
  ∃ v2,Sem Proofs.Tryz.prog JC lvl [.hd id [] 0 l.length none hw] S (.hd id [] 0 (cz (gS l) l.length).length none hw) (ZP S id (.ar 1 (rS (cz (gS l) l.length)) u hw v2)):=by
 have hne:id.1≠lvl:=by omega
 by_cases hd:∀ m,0<m->m<l.length->gS l m≠gS l (m-1)
 ·refine⟨ver,?_⟩
  rw[ZiK (Nat.le_refl _) hd,List.take_length,Xd hS]
  refine Zc YW hid ?_
  simp only[JL,EVA,seval,Zd,men]
  by_cases h2:(l.length:Int)<2
  ·rw[if_pos h2]
   simp only[ZfB hne,EVA,seval,Zd,men]
  rw[if_neg h2]
  refine Z8 (α:=Unit) l.length (fun k _=>⟨lvl,[(0,.hd id [] 0 l.length none hw),(3,iI ((k+1:Nat):Int))],[],S⟩) (fun k _=>k+1<=l.length) () ⟨by simp only[Jv hne,EVA,seval,Zd,men],by (simp only[EVA,seval,Zd,men]) <;> rfl⟩ (by omega) ?_
  intro k _ hk hA
  simp only[EVA,seval,Zd,men]
  refine Zl (fun hlt=>?_) (fun hge=>?_)
  ·have gj:=ZeN (e0:=e0S) (c:=fun n:ByteArray=>[ts n]) (l:=l) (i:=k+1) (by omega)
   have gj1:=ZeN (e0:=e0S) (c:=fun n:ByteArray=>[ts n]) (l:=l) (i:=k) (by omega)
   have l1:k+1<l.length:=by omega
   have l2:k<l.length:=by omega
   have hx:=hd (k+1) (by omega) l1
   rw[Nat.add_sub_cancel] at hx
   have e1:(((k+1:Nat):Int)-1)=(k:Int):=by omega
   simp only[Z9 hne,hS,e1,gj,gj1,l1,l2,hx,Nat.zero_add,Jv hne,EVA,seval,Zd,men]
   exact⟨by rw[Ze];omega,by rw[Ze];omega,Zf () (by omega) rfl (by omega)⟩
  ·simp only[ZfB hne,EVA,seval,Zd,men]
 ·refine⟨ver+1,?_⟩
  refine Zc YW hid ?_
  simp only[JL,EVA,seval,Zd,men]
  by_cases h2:(l.length:Int)<2
  ·exact absurd (fun m h0 h1=>by omega) hd
  rw[if_neg h2]
  refine Z8 (α:=Unit) l.length (fun k _=>⟨lvl,[(0,.hd id [] 0 l.length none hw),(3,iI ((k+1:Nat):Int))],[],S⟩) (fun k _=>k+1<=l.length/\∀ m,0<m->m<k+1->gS l m≠gS l (m-1)) () ⟨by simp only[Jv hne,EVA,seval,Zd,men],by (simp only[EVA,seval,Zd,men]) <;> rfl⟩ ⟨by omega,fun m h0 h1=>by omega⟩ ?_
  intro k _ hk ⟨hA,hB⟩
  simp only[EVA,seval,Zd,men]
  refine Zl (fun hlt=>?_) (fun hge=>?_)
  ·have gj:=ZeN (e0:=e0S) (c:=fun n:ByteArray=>[ts n]) (l:=l) (i:=k+1) (by omega)
   have gj1:=ZeN (e0:=e0S) (c:=fun n:ByteArray=>[ts n]) (l:=l) (i:=k) (by omega)
   have l1:k+1<l.length:=by omega
   have l2:k<l.length:=by omega
   have e1:(((k+1:Nat):Int)-1)=(k:Int):=by omega
   by_cases hx:gS l (k+1)=gS l k
   ·have hc1:=ZiK (l:=l) (n:=k+1) (by omega) hB
    have hc2:cz (gS l) (k+1+1)=cz (gS l) (k+1):=ZtK (by omega) (by rw[Nat.add_sub_cancel];exact hx)
    simp only[Z9 hne,hS,e1,gj,gj1,l1,l2,hx,Nat.zero_add,Jv hne,EVA,seval,Zd,men]
    refine⟨by rw[Ze];omega,by omega,Zw8 hne hS,?_⟩
    refine Z8 (α:=Nat×List ByteArray) l.length (fun m x=>⟨lvl,[(0,.hd id [] 0 l.length none hw),(3,iI (x.1:Int)),(4,.hd id [] (k+1) (l.length-(k+1)) none hw),(5,iI ((m+1:Nat):Int))],[],ZP S id (.ar 1 (rS x.2) u hw ver)⟩) (fun m x=>k+1+m+1<=l.length/\x.2.length=l.length/\x.1=(cz (gS l) (k+1+m+1)).length/\x.2.take x.1=cz (gS l) (k+1+m+1)/\x.1<=k+1+m/\∀ q,k+1+m<=q->gS x.2 q=gS l q) (k+1,l) ⟨by simp only[Jv hne,EVA,seval,Zd,men],by (simp only[Xd hS,EVA,seval,Zd,men]) <;> rfl⟩ ⟨by omega,rfl,by rw[Nat.add_zero,hc2,hc1,List.length_take];omega,by rw[Nat.add_zero,hc2,hc1],by omega,fun _ _=>rfl⟩ ?_
    intro m ⟨i,y⟩ hm ⟨hm1,hy,hi,ht,hle,hq⟩
    dsimp only at hy hi ht hle hq
    simp only[EVA,seval,Zd,men]
    refine Zl (fun hlt2=>?_) (fun hge2=>?_)
    ·have b1:k+1+(m+1)<l.length:=by omega
     have b2:m+1<l.length-(k+1):=by omega
     have b3:m<l.length-(k+1):=by omega
     have gy:=ZeN (e0:=e0S) (c:=fun n:ByteArray=>[ts n]) (l:=y) (i:=k+1+(m+1)) (by omega)
     have gy1:=ZeN (e0:=e0S) (c:=fun n:ByteArray=>[ts n]) (l:=y) (i:=k+1+m) (by omega)
     have q1:=hq (k+1+(m+1)) (by omega)
     have q2:=hq (k+1+m) (by omega)
     have e2:(((m+1:Nat):Int)-1)=(m:Int):=by omega
     have b4:i<l.length:=by omega
     by_cases hx2:gS l (k+1+(m+1))=gS l (k+1+m)
     ·have hc3:cz (gS l) (k+1+(m+1)+1)=cz (gS l) (k+1+m+1):=ZtK (by omega) hx2
      simp only[Z9 hne,V3,e2,gy,gy1,q1,q2,b2,b3,hx2,Jv hne,EVA,seval,Zd,men]
      exact⟨by rw[Ze];omega,by rw[Ze];omega,Zf (i,y) (by omega) rfl ⟨by omega,hy,by rw[show k+1+(m+1)+1=k+1+(m+1)+1 from rfl,hc3];exact hi,by rw[hc3];exact ht,by show i<=k+1+(m+1);omega,fun q hqq=>hq q (by omega)⟩⟩
     ·have hc3:cz (gS l) (k+1+(m+1)+1)=cz (gS l) (k+1+m+1)++[gS l (k+1+(m+1))]:=ZBL hx2
      have s1:=Zq1 (y:=y) (j:=i) (v:=gS l (k+1+(m+1))) (by omega)
      have gy0:=ZeN (e0:=e0S) (c:=fun n:ByteArray=>[ts n]) (l:=y) (i:=i) (by omega)
      simp only[Z9 hne,VS hne,J6,V3,e2,gy,gy0,gy1,q1,q2,b2,b3,b4,hx2,s1,Nat.zero_add,Jv hne,EVA,seval,Zd,men]
      exact⟨by rw[Ze];omega,by rw[Ze];omega,by rw[Ze];omega,Zf (i+1,y.set i (gS l (k+1+(m+1)))) (by omega) rfl ⟨by omega,by rw[List.length_set];exact hy,by rw[hc3,List.length_append,<-hi];rfl,by rw[Zc9 (by omega),ht,hc3],by show i+1<=k+1+(m+1);omega,fun q hqq=>by
       show gx e0S (y.set i (gS l (k+1+(m+1)))) q=_
       rw[Zmi (by omega),if_neg (by omega)]
       exact hq q (by omega)⟩⟩
    ·have en:k+1+m+1=l.length:=by omega
     rw[en] at hi ht
     refine⟨by omega,Zw8 hne (V3 ..),?_⟩
     have tk:(rS y).take i=rS (cz (gS l) l.length):=by rw[<-ht];exact(List.map_take ..).symm
     simp only[Z9 hne,VS hne,J6,V3,tk,List.length_map,hy,EVA,seval,Zd,men]
     refine⟨by omega,by omega,by omega,by omega,Zw8 hne (V3 ..),?_⟩
     simp only[ZfB hne,Nat.sub_zero,hi,EVA,seval,Zd,men]
   ·simp only[Z9 hne,hS,e1,gj,gj1,l1,l2,hx,Nat.zero_add,Jv hne,EVA,seval,Zd,men]
    exact⟨by rw[Ze];omega,by rw[Ze];omega,Zf () (by omega) rfl ⟨by omega,fun m h0 h1=>by
     by_cases e:m=k+1
     ·subst e;exact hx
     ·exact hB m h0 (by omega)⟩⟩
  ·exact absurd (fun m h0 h1=>hB m h0 (by omega)) hd
end Go.Fd

/-
  SORTING STRINGS, ANY NUMBER OF THEM, BY THE GUIDE'S CONTRACT. Own work.
-/
namespace Go.Fd
set_option maxRecDepth 20000
theorem Zxa:∀(x y:List UInt8),x<y↔Op.bytesLess x y=true
 | [],[]=>by simp [Op.bytesLess]
 | [],_::_=>by simp [Op.bytesLess]
 | _::_,[]=>by simp [Op.bytesLess]
 | a::x,b::y=>by
  rw[List.cons_lt_cons_iff,Zxa x y]
  simp [Op.bytesLess]
abbrev bsL(s:ByteArray):List UInt8:=s.data.toList
abbrev lbS(l:List UInt8):ByteArray:=⟨l.toArray⟩
theorem Zxb{s:ByteArray}:lbS (bsL s)=s:=by simp [lbS,bsL]
theorem Zr1{l:List ByteArray}:Zp2 Go.Proofs.encStr (l.map bsL)=rS l:=by
 simp only[Zp2,List.map_map]
 refine List.map_congr_left fun s _=>?_
 show [Tr.v (Value.string (lbS (bsL s)))]=_
 rw[Zxb]
theorem Zxc(l:List ByteArray):(l.map bsL).mergeSort (fun x y=>decide (x<=y))=(Zlb ltS l).map bsL:=by
 have e1:((l.map bsL).mergeSort (fun x y=>decide (x<=y))).map lbS=Zlb ltS l:=by
  refine Zf6 ordsS ?_ (Zf7 ordsS) (List.Perm.trans ?_ srtG_perm.symm)
  ·rw[List.pairwise_map]
   have h:=List.pairwise_mergeSort (le:=fun x y:List UInt8=>decide (x<=y)) (fun a b c h1 h2=>by simp only[decide_eq_true_eq] at *;exact List.le_trans h1 h2) (fun a b=>by simp only[Bool.or_eq_true,decide_eq_true_eq];exact List.le_total a b) (l.map bsL)
   refine h.imp fun {x y} h=>?_
   simp only[decide_eq_true_eq] at h
   intro hlt
   exact h ((Zxa y x).2 hlt)
  ·have h:=(List.mergeSort_perm (l.map bsL) (fun x y=>decide (x<=y))).map lbS
   rw[List.map_map] at h
   have:l.map (lbS ∘ bsL)=l:=by
    rw[show (lbS ∘ bsL)=id from funext fun s=>Zxb]
    exact List.map_id l
   rwa [this] at h
 rw[<-e1,List.map_map]
 rw[show (bsL ∘ lbS)=id from funext fun s=>by simp [bsL,lbS]]
 exact(List.map_id _).symm
theorem ZiM(l:List ByteArray)(hl:l.length<=4294967296)(lvl:Nat)(S:Sto)(id:Oid)(u:Bool)(hw ver:Nat)(hid:id.1<lvl)(hS:S id=some (.ar 1 (rS l) u hw ver)) :
  Sem Proofs.Tryz.prog Z2 lvl [.hd id [] 0 l.length none hw] S (.tu []) (ZP S id (.ar 1 (rS (Zlb ltS l)) u hw ver)):=by
 by_cases hs:l.length<=12
 ·exact ZoT l hs lvl S id u hw ver hid hS _ fun x hp hu=>ZqZ ordsS hp hu
 ·have h:=ZjL (P:=Proofs.Tryz.prog) (f:=Z2) (lvl:=lvl) (S:=S) (id:=id) (xs:=l.map bsL) (ys:=(Zlb ltS l).map bsL) (enc:=Go.Proofs.encStr) (u:=u) (hw:=hw) (ver:=ver) (Zc8 (by kernel_rfl)) hid (by rw[Zr1];exact hS) (fun _=>rfl) (by rw[List.length_map,List.length_map,srtG_perm.length_eq])
   (fun h=>absurd (congrArg List.length h) (by rw[List.length_map];show ¬ l.length=0;omega))
   (fun _ b cap w hH hb=>by
    have:=Go.Proofs.Any.slices_Sort_string Proofs.Tryz.lays190 b 0 cap (l.map bsL) w hH hb (by rw[List.length_map];omega)
    rw[Zxc] at this
    exact this)
  rw[Zr1,List.length_map] at h
  exact h
end Go.Fd

/-
  CHILDREN, POINTS, REDEXES, BOTH SIDES. Own work.
-/
namespace Go.Fd
set_option maxRecDepth 20000
def ZBM(l:Int)(i:Nat)(ls:List Int):Nat->List (Int×Int)
 | 0=>[]
 | k+1=>if g0 ls k=l then ZBM l i ls k++[((i:Int),(k:Int))] else ZBM l i ls k
def ZoU(b:TBigraph)(j:Nat):List Int:=((b.nodes[j]?).map TNode.links).getD []
def Zr2(b:TBigraph)(l:Int):Nat->List (Int×Int)
 | 0=>[]
 | i+1=>Zr2 b l i++ZBM l i (ZoU b i) (ZoU b i).length
def ports(b:TBigraph)(l:Int):List (Int×Int):=Zr2 b l b.nodes.length
def ZDE(b:TBigraph)(j:Nat):Int:=((b.inner[j]?).map TWire.link).getD 0
def ZDF(b:TBigraph)(j:Nat):ByteArray:=((b.inner[j]?).map TWire.name).getD ⟨#[]⟩
def ZtL(b:TBigraph)(l:Int):Nat->List ByteArray
 | 0=>[]
 | j+1=>if ZDE b j=l then ZtL b l j++[ZDF b j] else ZtL b l j
def ZDG(b:TBigraph)(l:Int):List ByteArray:=ZtL b l b.inner.length
end Go.Fd

/-
  REDEXES, BOTH SIDES. Own work.
-/
namespace Go.Fd
set_option maxRecDepth 20000
def idle(b:TBigraph)(l:Int):Prop:=(ports b l).length=0/\(ZDG b l).length=0
structure small (b:TBigraph):Prop where
 nodes:b.nodes.length<=8
 links:∀ x∈b.nodes,x.links.length<=1000
 sites:b.sites.length<=4
 outer:b.outer.length<=16
 inner:b.inner.length<=16
 roots:0<=b.roots/\b.roots<=4
 edges:0<=b.edges/\b.edges<=8
theorem Zm4{sig:List TControl}(h:Yl sig)(c:Int):Y7 sig c<=3:=by
 unfold Y7
 cases e:sig[c.toNat]? with
 | none=>decide
 | some x =>
  obtain⟨hl,rfl⟩:=List.getElem?_eq_some_iff.1 e
  exact((h.1 _ hl).1).2.1.2
theorem bigOK.small{sig:List TControl}{b:TBigraph}(h:bigOK sig b):small b :=
 ⟨h.nodesL,fun x hx=>by
  obtain⟨k,hk,rfl⟩:=List.getElem_of_mem hx
  have h1:=(h.nodes k hk).ports
  have h2:=Zm4 h.sg b.nodes[k].control
  omega,h.sitesL,h.outer.2,by have:=h.inn.2;rw[ZdW] at this;exact this,h.roots,h.edges⟩
end Go.Fd

/-
  SORTINGS, BOTH SIDES: VALID, FREE, FINER. Own work.
-/
namespace Go.Fd
set_option maxRecDepth 20000
def Wz(n:Nat):List Int:=(List.range n).map fun i:Nat=>(i:Int)
theorem Y8{n:Nat}:(Wz n).length=n:=by simp [Wz]
theorem Yg{es:Row}{n:Nat}(h:es.length=n):cut es 0 n=es:=by
 simp only[cut,List.drop_zero]
 exact List.take_of_length_le (by omega)
end Go.Fd

/-
  LINKS THAT ARE TURNED: WHAT COMPOSITION COMPUTES, IN PLAIN TERMS. Own work.
-/
namespace Go.Fd
set_option maxRecDepth 20000
def Ze9(b:TBigraph)(l:Int):Int×ByteArray:=if l<b.edges then (l,e0S) else (0,gS b.outer (l-b.edges).toNat)
def ixS(l:List ByteArray)(s:ByteArray):Int:=ixF (fun x=>decide (s=x)) l 0
def Zda(b:TBigraph)(e:Int)(o:List ByteArray)(T:Int×ByteArray->Int×ByteArray)(l:Int):Int:=if (T (Ze9 b l)).2=e0S then (T (Ze9 b l)).1 else e+ixS o (T (Ze9 b l)).2
def U1(b:TBigraph)(F:Int->Int)(e:Int)(o:List ByteArray):TBigraph:=⟨b.roots,b.nodes.map fun x=>⟨x.control,x.parent,x.links.map F⟩,b.sites,e,o,b.inner.map fun w=>⟨w.name,F w.link⟩⟩
theorem ZiN{α:Type}{f:α->Bool}:∀{l:List α} {j:Int},(ixF f l j = -1/\∀ x∈l,f x=false)\/∃ i,∃ h:i<l.length,ixF f l j=j+i/\(∀ x∈l.take i,f x=false)/\f l[i]=true
 | [],j=>.inl ⟨rfl,fun _ h=>by cases h⟩
 | x::r,j=>by
  rw[WI]
  cases hx:f x with
  | true=>exact .inr ⟨0,by simp,by simp,by simp,hx⟩
  | false =>
   rcases ZiN (f:=f) (l:=r) (j:=j+1) with ⟨h1,h2⟩ | ⟨i,h,h1,h2,h3⟩
   ·exact .inl ⟨by simp [h1],fun y hy=>by
     rcases List.mem_cons.1 hy with rfl | hy
     ·exact hx
     ·exact h2 y hy⟩
   ·refine .inr ⟨i+1,by simpa using h,by simp only[Bool.false_eq_true,if_false,h1];omega,fun y hy=>?_,by simpa using h3⟩
    rw[List.take_succ_cons] at hy
    rcases List.mem_cons.1 hy with rfl | hy
    ·exact hx
    ·exact h2 y hy
theorem Zhq{α:Type}{f:α->Bool}{l:List α}(h:∀ x∈l,f x=false):(l.filter fun n=>!f n)=l:=List.filter_eq_self.2 fun x hx=>by simp [h x hx]
theorem Zf8{α:Type}{f:α->Bool}{l:List α}{j:Nat}(h:j<l.length):((l.take (j+1)).filter fun n=>!f n)=((l.take j).filter fun n=>!f n)++if f l[j]=true then [] else [l[j]]:=by
 rw[List.take_succ_eq_append_getElem h,List.filter_append]
 cases hx:f l[j] <;> simp [hx]
theorem Zr3{α:Type}{f:α->Bool}:∀{l:List α} {i:Nat} {j:Int} (h:i<l.length),f l[i]=true->(∀ k (hk:k<i),f (l[k]'(by omega))=false)->ixF f l j=j+i
 | [],_,_,h,_,_=>by simp at h
 | x::r,0,j,_,h1,_=>by
  have:f x=true:=h1
  rw[WI,if_pos this];omega
 | x::r,i+1,j,h,h1,h2=>by
  have:f x=false:=h2 0 (by omega)
  rw[WI,this,if_neg (by decide)]
  rw[Zr3 (i:=i) (by simpa using h) (by simpa using h1) fun k hk=>by
   have:=h2 (k+1) (by omega)
   simpa using this]
  omega
theorem Zmk{α:Type}{f:α->Bool}:∀{l:List α} {j:Int},(∀ x∈l,f x=false)->ixF f l j = -1
 | [],_,_=>rfl
 | x::r,j,h=>by
  rw[WI,h x (by simp),if_neg (by decide)]
  exact Zmk fun y hy=>h y (by simp [hy])
theorem Zxd{l:List ByteArray}(h:l.Pairwise ltS){i j:Nat}(hi:i<l.length)(hj:j<l.length)(e:l[i]=l[j]):i=j:=by
 rcases Nat.lt_trichotomy i j with g | g | g
 ·have:=List.pairwise_iff_getElem.1 h i j hi hj g
  rw[e] at this
  exact absurd this (ordsS.irr _)
 ·exact g
 ·have:=List.pairwise_iff_getElem.1 h j i hj hi g
  rw[e] at this
  exact absurd this (ordsS.irr _)
theorem Zxe{l:List ByteArray}(h:l.Pairwise ltS){i:Nat}(hi:i<l.length):ixS l l[i]=i:=by
 unfold ixS
 rw[Zr3 hi (by simp) fun k hk=>by
  simp only[decide_eq_false_iff_not]
  intro e
  have:=Zxd h hi (by omega) e
  omega]
 omega
theorem Zml{l:List ByteArray}{s:ByteArray}(h:s ∉ l):ixS l s = -1:=Zmk fun x hx=>by
 simp only[decide_eq_false_iff_not]
 intro e
 exact h (e ▸ hx)
theorem ixS_nn{l:List ByteArray}{s:ByteArray}:0<=ixS l s↔s∈l:=by
 unfold ixS
 rw[ZiG (Int.le_refl 0)]
 simp
theorem Zmm{l:List ByteArray}{s:ByteArray}(h:s∈l):ixS l s<l.length:=by
 rcases ZiN (f:=fun x=>decide (s=x)) (l:=l) (j:=0) with ⟨_,h2⟩ | ⟨i,hi,h1,_⟩
 ·have:=h2 s h
  simp at this
 ·unfold ixS
  rw[h1];omega
theorem ZiO{l:List ByteArray}(h:VK l):l.Pairwise ltS:=by
 have key:∀ d i (hi:i+d+1<l.length),ltS (l[i]'(by omega)) (l[i+d+1]'hi):=fun d=>by
  induction d with
  | zero =>
   intro i hi
   exact(h.1 (i+0+1) hi).2 (by omega)
  | succ d ih =>
   intro i hi
   have h1:=ih i (by omega)
   have h2:=(h.1 (i+(d+1)+1) hi).2 (by omega)
   exact ordsS.tr _ _ _ h1 h2
 refine List.pairwise_iff_getElem.2 fun i j hi hj hij=>?_
 have:=key (j-i-1) i (by omega)
 simp only[show i+(j-i-1)+1=j from by omega] at this
 exact this
theorem Zbi{l:List ByteArray}(h:VK l){s:ByteArray}(hs:s∈l):s≠e0S:=by
 obtain⟨i,hi,rfl⟩:=List.getElem_of_mem hs
 intro e
 have:=(h.1 i hi).1.2.1
 rw[e] at this
 exact absurd this (by decide)
theorem Zhr{b:TBigraph}{l:Int}(h:l<b.edges):Ze9 b l=(l,e0S):=if_pos h
theorem Zhs{b:TBigraph}{i:Nat}(h:i<b.outer.length):Ze9 b (b.edges+i)=(0,b.outer[i]):=by
 unfold Ze9
 rw[if_neg (by omega),show (b.edges+(i:Int)-b.edges).toNat=i from by omega]
 rw[show gS b.outer i=b.outer[i] from XV h]
theorem Ya{b:TBigraph}{l:Int}(h:ZV b l):(0<=l/\l<b.edges)\/∃ i:Nat,∃ _:i<b.outer.length,l=b.edges+i:=by
 unfold ZV at h
 by_cases hl:l<b.edges
 ·exact .inl ⟨h.1,hl⟩
 ·exact .inr ⟨(l-b.edges).toNat,by omega,by omega⟩
theorem Zht{sig:List TControl}{b:TBigraph}(h:bigOK sig b){F F':Int->Int}{e:Int}{o:List ByteArray}(hF:∀ l,ZV b l->F l=F' l):U1 b F e o=U1 b F' e o:=by
 unfold U1
 congr 1
 ·refine List.map_congr_left fun x hx=>?_
  obtain⟨i,hi,rfl⟩:=List.getElem_of_mem hx
  have hn:=h.nodes i hi
  congr 1
  exact List.map_congr_left fun l hl=>hF l (hn.links l hl)
 ·refine List.map_congr_left fun w hw=>?_
  rw[hF _ (h.inner w hw)]
def Zmn(b:TBigraph)(f:Int->Int)(g:ByteArray->Int):List Int:=(Wz b.edges.toNat).map f++b.outer.map g
theorem ZbX{b:TBigraph}{f:Int->Int}{g:ByteArray->Int}{l:Int}(h0:0<=l)(h:l<b.edges):g0 (Zmn b f g) l.toNat=f l:=by
 have hl:l.toNat<(Wz b.edges.toNat).length:=by rw[Y8];omega
 have hx:l.toNat<((Wz b.edges.toNat).map f).length:=by rw[List.length_map];exact hl
 show (Zmn b f g).getD l.toNat 0=_
 unfold Zmn
 rw[List.getD_eq_getElem?_getD,List.getElem?_append_left hx,List.getElem?_map]
 simp [Wz,List.getElem?_map,List.getElem?_range (show l.toNat<b.edges.toNat by omega)]
 congr 1
 omega
theorem ZbY{b:TBigraph}{f:Int->Int}{g:ByteArray->Int}(hb:0<=b.edges){i:Nat}(h:i<b.outer.length):g0 (Zmn b f g) (b.edges+i).toNat=g b.outer[i]:=by
 have hl:((Wz b.edges.toNat).map f).length=b.edges.toNat:=by rw[List.length_map,Y8]
 show (Zmn b f g).getD _ 0=_
 unfold Zmn
 rw[List.getD_eq_getElem?_getD,List.getElem?_append_right (by rw[hl];omega),hl,List.getElem?_map,show (b.edges+(i:Int)).toNat-b.edges.toNat=i from by omega,List.getElem?_eq_getElem h]
 rfl
def QQ(o:List ByteArray)(s:ByteArray):List ByteArray:=o.filter fun x=>!decide (x=s)
theorem lessN_mem{o:List ByteArray}{s c:ByteArray}:c∈QQ o s↔c∈o/\c≠s:=by simp [QQ]
theorem Zq4{o:List ByteArray}{s:ByteArray}(h:o.Pairwise ltS):(QQ o s).Pairwise ltS:=h.filter _
noncomputable def Vt(l:List ByteArray):List ByteArray:=Zuh e0S ltS l
def Zhu(b:TBigraph)(s:ByteArray)(e:Int×ByteArray):Int×ByteArray:=if e.2=s then (b.edges,e0S) else e
def Dh(b:TBigraph)(s:ByteArray):List Int:=Zmn b (fun l=>l) fun x=>if x=s then b.edges else b.edges+1+ixS (QQ b.outer s) x
def XB(b:TBigraph)(s:ByteArray):TBigraph:=U1 b (fun l=>g0 (Dh b s) l.toNat) (b.edges+1) (QQ b.outer s)
theorem Zq5{sig:List TControl}{b:TBigraph}{s:ByteArray}(h:bigOK sig b)(hs:s∈b.outer):U1 b (Zda b (b.edges+1) (Vt (QQ b.outer s)) (Zhu b s)) (b.edges+1) (Vt (QQ b.outer s))=XB b s:=by
 have hp:=ZiO h.outer
 have e1:Vt (QQ b.outer s)=QQ b.outer s:=ZiL ordsS (Zq4 hp) fun _=>Iff.rfl
 rw[e1]
 refine Zht h fun l hl=>?_
 unfold Dh
 have hse:=Zbi h.outer hs
 rcases Ya hl with ⟨h0,h1⟩ | ⟨i,hi,rfl⟩
 ·rw[ZbX h0 h1]
  unfold Zda Zhu
  rw[Zhr h1]
  simp [Ne.symm hse]
 ·rw[ZbY h.edges.1 hi]
  unfold Zda Zhu
  rw[Zhs hi]
  have hne:=Zbi h.outer (List.getElem_mem hi)
  by_cases he:b.outer[i]=s
  ·simp [he]
  ·simp [he,hne]
end Go.Fd

/-
  LINKS THAT ARE TURNED, THE PROGRAM'S SIDE. Own work.
-/
namespace Go.Fd
set_option maxRecDepth 20000
theorem ZnN{l:List ByteArray}:ScR (rS l)=True:=eq_true fun e he t ht=>by
 obtain⟨n,_,rfl⟩:=List.mem_map.1 he
 simp only[List.mem_cons,List.not_mem_nil,or_false] at ht
 subst ht
 rfl
theorem ZnO{l:List ByteArray}:UnR 1 (rS l)=True:=eq_true (Zb3 (fun n:ByteArray=>[ts n]) (fun _=>rfl) l)
theorem Zbt{l:List Int}:ScR (rI l)=True:=eq_true fun e he t ht=>by
 obtain⟨n,_,rfl⟩:=List.mem_map.1 he
 simp only[List.mem_cons,List.not_mem_nil,or_false] at ht
 subst ht
 rfl
theorem Zbu{l:List Int}:UnR 1 (rI l)=True:=eq_true (Zb3 (fun n:Int=>[tv n]) (fun _=>rfl) l)
theorem Zxf{l:List TWire}:ScR (l.map Ji)=True:=eq_true fun e he t ht=>by
 obtain⟨n,_,rfl⟩:=List.mem_map.1 he
 simp only[Ji,List.mem_cons,List.not_mem_nil,or_false] at ht
 rcases ht with rfl | rfl <;> rfl
theorem Zxg{l:List TWire}:UnR 2 (l.map Ji)=True:=eq_true (Zb3 Ji (fun _=>rfl) l)
theorem DO(l:List Int)(hl:l.length<=4294967296)(lvl:Nat)(S:Sto):Sem Proofs.Tryz.prog Z7 lvl [tI l] S (.ow 1 (rI l) true) S:=by
 refine Zc Zal trivial ?_
 simp only[XG,List.length_map,Zbt,Zbu,EVA,seval,Zd,men]
 exact⟨hl,fun h=>by rw[h]⟩
theorem Zbj(l:List ByteArray)(hl:l.length<=4294967296)(lvl:Nat)(S:Sto):Sem Proofs.Tryz.prog ZJ lvl [.tr (.sl (rS l))] S (.ow 1 (rS l) true) S:=by
 refine Zc WF trivial ?_
 simp only[Vr,List.length_map,ZnN,ZnO,EVA,seval,Zd,men]
 exact⟨hl,fun h=>by rw[h]⟩
theorem Zm5(l:List TWire)(hl:l.length<=4294967296)(lvl:Nat)(S:Sto):Sem Proofs.Tryz.prog Jm lvl [.tr (.sl (l.map Ji))] S (.ow 2 (l.map Ji) true) S:=by
 refine Zc Q1 trivial ?_
 simp only[Ym,List.length_map,Zxf,Zxg,EVA,seval,Zd,men]
 exact⟨hl,fun h=>by rw[h]⟩
theorem ZaV(l:List ByteArray)(hl:l.length<=4294967290)(lvl:Nat)(S:Sto):Sem Proofs.Tryz.prog YM lvl [.tr (.sl (rS l))] S (.ow 1 (rS (Vt l)) true) S:=by
 refine Zc Zc5 trivial ?_
 simp only[UE,EVA,seval,Zd,men]
 refine Za (Zbj l (by omega)) ?_
 simp only[EVA,seval,Zd,men]
 have hp:(Zlb ltS l).length=l.length:=srtG_perm.length_eq
 have s1:=fun S' hS=>ZiM l (by omega) (lvl+1) S' (lvl,160) true l.length 0 (Nat.lt_succ_self _) hS
 refine ZiI 160 _ (s1 _ ?_) ?_
 ·rw[YV];rfl
 simp only[EVA,seval,Zd,men]
 have s2:=fun S' hS=>Zj6 (Zlb ltS l) (by omega) (lvl+1) S' (lvl,160) true l.length 0 (Nat.lt_succ_self _) hS
 rw[show Zjf (IV.hd (lvl,160) [] 0 l.length none l.length)=IV.hd (lvl,160) [] 0 (Zlb ltS l).length none l.length from by rw[hp];rfl]
 refine Zmh 160 _ (s2 _ ?_) fun v=>?_
 ·rw[YV];rfl
 simp only[List.length_map,EVA,seval,Zd,men]
 rfl
abbrev oE(e:Int×ByteArray):IV:=.ag [iI e.1,iS e.2]
theorem ZoV(b:TBigraph)(l:Int)(he:0<=b.edges)(hl:ZV b l)(ho:b.outer.length<=4294967296)(hb:b.edges<=4294967296)(lvl:Nat)(S:Sto):Sem Proofs.Tryz.prog Vk lvl [.ag ((Zb b).map .tr),iI l] S (oE (Ze9 b l)) S:=by
 refine Zc Zbr (by simp [low,men,Zd]) ?_
 simp only[Wx,Zb,EVA,seval,Zd,men]
 rcases Ya hl with ⟨h0,h1⟩ | ⟨i,hi,rfl⟩
 ·rw[Zhr h1]
  simp only[h1,EVA,seval,Zd,men]
  try rfl
 ·rw[Zhs hi]
  have h1:¬ b.edges+(i:Int)<b.edges:=by omega
  have ga:=ZeN (e0:=e0S) (c:=fun n:ByteArray=>[ts n]) hi
  have e1:b.edges+(i:Int)-b.edges=i:=by omega
  rw[XV hi] at ga
  simp only[h1,e1,ga,EVA,seval,Zd,men]
  rw[Ze];omega
theorem X5(b:TBigraph)(hb:Zt 4294967290 b)(lvl:Nat)(S:Sto):Sem Proofs.Tryz.prog JF lvl [.ag ((Zb b).map .tr)] S (Zi b) S:=by
 obtain⟨b1,b2,b3,b4,b5,b6,b7⟩:=hb
 refine Zc ZdO (by simp [Zi,low,men,Zd]) ?_
 simp only[Da,Zb,EVA,seval,Zd,men]
 refine Za (DO b.sites (by omega)) ?_
 simp only[List.length_map,EVA,seval,Zd,men]
 refine Za (Zbj b.outer (by omega)) ?_
 simp only[List.length_map,EVA,seval,Zd,men]
 refine Za (Zm5 b.inner (by omega)) ?_
 simp only[List.length_map,EVA,seval,Zd,men]
 refine Zz (α:=Unit) b.nodes.length (fun j _=>[(23,iI j)]) (fun j _=>[(96,.bx [iI b.roots,.hd (lvl,608) [] 0 j none j,.hd (lvl,320) [] 0 b.sites.length none b.sites.length,iI b.edges,.hd (lvl,480) [] 0 b.outer.length none b.outer.length,.hd (lvl,576) [] 0 b.inner.length none b.inner.length]),(608,.ar 3 ((b.nodes.take j).map ZX) true j 0)]) (fun _ _=>True) () (by simp only[EVA,seval,Zd,men]) (by (simp only[EVA,seval,Zd,men]) <;> rfl) trivial ?_
 intro j _ hj _
 simp only[List.length_map,EVA,seval,Zd,men]
 refine Zl (fun hlt=>?_) (fun hge=>?_)
 ·have hja:j<b.nodes.length:=by omega
  have ga:=WH (c:=ZX) hja
  have k2:b.nodes[j].links.length<=4294967290:=b2 _ (List.getElem_mem hja)
  have hl1:((b.nodes.take j).map ZX).length=j:=by rw[List.length_map,List.length_take];omega
  have st1:(b.nodes.take j).map ZX++[[Tr.v (Value.int .i64 b.nodes[j].control),Tr.v (Value.int .i64 b.nodes[j].parent),Tr.sl (rI b.nodes[j].links)]]=(b.nodes.take (j+1)).map ZX:=by
   rw[List.take_succ_eq_append_getElem hja,List.map_append]
   rfl
  simp only[ga,hja,ZX,EVA,seval,Zd,men]
  refine Za (DO b.nodes[j].links (by omega)) ?_
  have hl2:(List.map (fun x=>[Tr.v (Value.int .i64 x.control),Tr.v (Value.int .i64 x.parent),Tr.sl (rI x.links)]) (b.nodes.take j)).length=j:=by rw[List.length_map,List.length_take];omega
  simp only[hl1,st1,ZX,EVA,seval,Zd,men]
  exact⟨by omega,by rw[Ze];omega,Zf () hja rfl trivial⟩
 ·have:j=b.nodes.length:=by omega
  subst this
  rw[List.take_length]
  exact⟨rfl,rfl⟩
end Go.Fd

/-
  LINKS THAT ARE TURNED, THE REFERENCE'S SIDE. Own work.
-/
namespace Go.Fd
set_option maxRecDepth 20000
theorem DP(l:List ByteArray)(s:ByteArray)(hl:l.length<=4294967296)(lvl:Nat)(S:Sto):Sem Proofs.Tryz.prog Yu lvl [.tr (.sl (rS l)),iS s] S (iI (ixS l s)) S:=by
 refine Zc Zk7 trivial ?_
 simp only[ZfT,List.length_map,EVA,seval,Zd,men]
 refine Zz (α:=Unit) l.length (fun j _=>[(5,iI j)]) (fun _ _=>[]) (fun j _=>ixF (fun x=>decide (s=x)) (l.drop j) j=ixS l s) () (by simp only[EVA,seval,Zd,men]) (by (simp only[EVA,seval,Zd,men]) <;> rfl) rfl ?_
 intro j _ hj hA
 simp only[List.length_map,EVA,seval,Zd,men]
 refine Zl (fun hlt=>?_) (fun hge=>?_)
 ·have hja:j<l.length:=by omega
  have ga:=ZeN (e0:=e0S) (c:=fun n:ByteArray=>[ts n]) hja
  rw[XV hja] at ga
  rw[Zc7 hja,WI] at hA
  by_cases h:l[j]=s
  ·rw[if_pos (by simp [h])] at hA
   simp only[ga,h,EVA,seval,Zd,men]
   rw[<-hA]
  ·rw[if_neg (by simp;exact fun e=>h e.symm)] at hA
   simp only[ga,h,EVA,seval,Zd,men]
   exact⟨by rw[Ze];omega,Zf () hja rfl hA⟩
 ·have:j=l.length:=by omega
  subst this
  rw[List.drop_length] at hA
  rw[<-hA]
  rfl
theorem Zm6{o:List ByteArray}{s:ByteArray}{j:Nat}(h:j<o.length):QQ (o.take (j+1)) s=QQ (o.take j) s++if o[j]=s then [] else [o[j]]:=by
 unfold QQ
 rw[List.take_succ_eq_append_getElem h,List.filter_append]
 by_cases e:o[j]=s <;> simp [e]
theorem Zm7(o:List ByteArray)(s:ByteArray)(ho:o.length<=4294967290)(lvl:Nat)(S:Sto):Sem Proofs.Tryz.prog W9 lvl [.tr (.sl (rS o)),iS s] S (.ow 1 (rS (QQ o s)) true) S:=by
 refine Zc ZiC trivial ?_
 simp only[ZcZ,List.length_map,EVA,seval,Zd,men]
 refine Zz (α:=Unit) o.length (fun j _=>[(5,.hd (lvl,224) [] 0 (QQ (o.take j) s).length none (QQ (o.take j) s).length),(6,iI j)]) (fun j _=>[(224,.ar 1 (rS (QQ (o.take j) s)) true (QQ (o.take j) s).length 0)]) (fun _ _=>True) () (by simp only[EVA,seval,Zd,men]) (by (simp only[EVA,seval,Zd,men]) <;> rfl) trivial ?_
 intro j _ hj _
 simp only[List.length_map,EVA,seval,Zd,men]
 refine Zl (fun hlt=>?_) (fun hge=>?_)
 ·have hja:j<o.length:=by omega
  have ga:=ZeN (e0:=e0S) (c:=fun n:ByteArray=>[ts n]) hja
  rw[XV hja] at ga
  have hs:=Zm6 (s:=s) hja
  have hle:(QQ (o.take j) s).length<=j:=Nat.le_trans (List.length_filter_le ..) (by rw[List.length_take];omega)
  by_cases h:o[j]=s
  ·rw[if_pos h,List.append_nil] at hs
   simp only[ga,h,EVA,seval,Zd,men]
   exact⟨by rw[Ze];omega,Zf () hja (by rw[hs];rfl) trivial⟩
  ·rw[if_neg h] at hs
   simp only[ga,h,List.length_map,EVA,seval,Zd,men]
   exact⟨by omega,by rw[Ze];omega,Zf () hja (by rw[hs,List.length_append,Zf2];rfl) trivial⟩
 ·have:j=o.length:=by omega
  subst this
  rw[List.take_length]
def Ur(a:Int)(n:Nat):List Int:=(List.range n).map fun i:Nat=>a+i
theorem Zm8{a:Int}{n:Nat}:Ur a (n+1)=Ur a n++[a+n]:=by simp [Ur,List.range_succ]
theorem fromN_len{a:Int}{n:Nat}:(Ur a n).length=n:=by simp [Ur]
theorem Uh(a:Int)(n:Nat)(ha:-4294967296<=a/\a<=4294967296)(hn:n<=4294967290)(lvl:Nat)(S:Sto):Sem Proofs.Tryz.prog JR lvl [iI a,iI n] S (.ow 1 (rI (Ur a n)) true) S:=by
 refine Zc ZgQ trivial ?_
 simp only[ZbQ,EVA,seval,Zd,men]
 refine Zz (α:=Unit) n (fun j _=>[(5,.hd (lvl,224) [] 0 j none j),(6,iI j)]) (fun j _=>[(224,.ar 1 (rI (Ur a j)) true j 0)]) (fun _ _=>True) () (by simp only[EVA,seval,Zd,men]) (by (simp only[EVA,seval,Zd,men]) <;> rfl) trivial ?_
 intro j _ hj _
 simp only[List.length_map,EVA,seval,Zd,men]
 refine Zl (fun hlt=>?_) (fun hge=>?_)
 ·have hl:=fromN_len (a:=a) (n:=j)
  have hs:rI (Ur a j)++[[Tr.v (.int .i64 (a+j))]]=rI (Ur a (j+1)):=by rw[Zm8,YA];rfl
  simp only[hl,hs,EVA,seval,Zd,men]
  exact⟨by rw[Ze];omega,by omega,by rw[Ze];omega,Zf () (by omega) rfl trivial⟩
 ·have:j=n:=by omega
  subst this
  exact⟨fromN_len.symm,rfl⟩
def JI(a:Int)(n:Nat):List Int:=(List.range n).map fun i:Nat=>-1-a-i
theorem Zld{a:Int}{n:Nat}:JI a (n+1)=JI a n++[-1-a-n]:=by simp [JI,List.range_succ]
theorem rootsN_len{a:Int}{n:Nat}:(JI a n).length=n:=by simp [JI]
theorem DQ(a:Int)(n:Nat)(ha:-4294967296<=a/\a<=4294967296)(hn:n<=4294967290)(lvl:Nat)(S:Sto):Sem Proofs.Tryz.prog Yp lvl [iI a,iI n] S (.ow 1 (rI (JI a n)) true) S:=by
 refine Zc ZgS trivial ?_
 simp only[ZbS,EVA,seval,Zd,men]
 refine Zz (α:=Unit) n (fun j _=>[(5,.hd (lvl,224) [] 0 j none j),(6,iI j)]) (fun j _=>[(224,.ar 1 (rI (JI a j)) true j 0)]) (fun _ _=>True) () (by simp only[EVA,seval,Zd,men]) (by (simp only[EVA,seval,Zd,men]) <;> rfl) trivial ?_
 intro j _ hj _
 simp only[List.length_map,EVA,seval,Zd,men]
 refine Zl (fun hlt=>?_) (fun hge=>?_)
 ·have hl:=rootsN_len (a:=a) (n:=j)
  have hs:rI (JI a j)++[[Tr.v (.int .i64 (-1-a-j))]]=rI (JI a (j+1)):=by rw[Zld,YA];rfl
  simp only[hl,hs,EVA,seval,Zd,men]
  exact⟨by rw[Ze];omega,by rw[Ze];omega,by omega,by rw[Ze];omega,Zf () (by omega) rfl trivial⟩
 ·have:j=n:=by omega
  subst this
  exact⟨rootsN_len.symm,rfl⟩
def ZdX(by_:Int)(ps:List Int)(p:Int):Int:=if p<0 then g0 ps (-1-p).toNat else p+by_
theorem ZaW(p by_:Int)(ps:List Int)(h0:-4294967296<=p/\p<=4294967296)(h1:-4294967296<=by_/\by_<=4294967296)(h2:p<0->(-1-p).toNat<ps.length)(lvl:Nat)(S:Sto):Sem Proofs.Tryz.prog YP lvl [iI p,iI by_,tI ps] S (iI (ZdX by_ ps p)) S:=by
 refine Zc ZfV trivial ?_
 simp only[ZaQ,EVA,seval,Zd,men]
 unfold ZdX
 refine Zl (fun hlt=>?_) (fun hge=>?_)
 ·rw[if_pos hlt]
  have hk:=h2 hlt
  obtain⟨k,hkk⟩:∃ k:Nat,-1-p=k:=⟨(-1-p).toNat,by omega⟩
  rw[hkk] at hk ⊢
  rw[Int.toNat_natCast] at hk ⊢
  have ga:=V5 hk
  simp only[ga,hk,EVA,seval,Zd,men]
  rw[Ze];omega
 ·rw[if_neg hge]
  exact⟨by rw[Ze];omega,rfl⟩
theorem XW(b:TBigraph)(by_:Int)(ps:List Int)(hl:b.sites.length<=4294967290)(h1:-4294967296<=by_/\by_<=4294967296)(hp:∀ p∈b.sites,(-4294967296<=p/\p<=4294967296)/\(p<0->(-1-p).toNat<ps.length))(lvl:Nat)(S:Sto):Sem Proofs.Tryz.prog JA lvl [.ag ((Zb b).map .tr),iI by_,tI ps] S (.ow 1 (rI (b.sites.map (ZdX by_ ps))) true) S:=by
 refine Zc ZgU trivial ?_
 simp only[ZbU,Zb,EVA,seval,Zd,men]
 refine Zz (α:=Unit) b.sites.length (fun j _=>[(7,.hd (lvl,288) [] 0 j none j),(8,iI j)]) (fun j _=>[(288,.ar 1 (rI ((b.sites.take j).map (ZdX by_ ps))) true j 0)]) (fun _ _=>True) () (by simp only[EVA,seval,Zd,men]) (by (simp only[EVA,seval,Zd,men]) <;> rfl) trivial ?_
 intro j _ hj _
 simp only[List.length_map,EVA,seval,Zd,men]
 refine Zl (fun hlt=>?_) (fun hge=>?_)
 ·have hja:j<b.sites.length:=by omega
  have ga:=V5 hja
  have e0:g0 b.sites j=b.sites[j]:=by simp [hja]
  have hq:=hp _ (List.getElem_mem hja)
  rw[<-e0] at hq
  have hl1:(List.map (ZdX by_ ps) (b.sites.take j)).length=j:=by rw[List.length_map,List.length_take];omega
  have hl2:(b.sites.take j).length=j:=by rw[List.length_take];omega
  simp only[ga,hja,EVA,seval,Zd,men]
  refine Za (ZaW (g0 b.sites j) by_ ps hq.1 h1 hq.2) ?_
  have hs:rI ((b.sites.take j).map (ZdX by_ ps))++[[Tr.v (.int .i64 (ZdX by_ ps (g0 b.sites j)))]]=rI ((b.sites.take (j+1)).map (ZdX by_ ps)):=by
   rw[List.take_succ_eq_append_getElem hja,List.map_append,YA,e0];rfl
  simp only[hl1,hl2,hs,List.length_map,EVA,seval,Zd,men]
  exact⟨by omega,by rw[Ze];omega,Zf () hja rfl trivial⟩
 ·have:j=b.sites.length:=by omega
  subst this
  rw[List.take_length]
  exact⟨by simp,rfl⟩
def Zj7(ls:List Int)(w:TWire):TWire:=⟨w.name,g0 ls w.link.toNat⟩
theorem DR(b:TBigraph)(ls:List Int)(hl:b.inner.length<=4294967290)(hp:∀ w∈b.inner,0<=w.link/\w.link<ls.length)(lvl:Nat)(S:Sto):Sem Proofs.Tryz.prog Yq lvl [.ag ((Zb b).map .tr),tI ls] S (.ow 2 ((b.inner.map (Zj7 ls)).map Ji) true) S:=by
 refine Zc ZgW trivial ?_
 simp only[ZbW,Zb,EVA,seval,Zd,men]
 refine Zz (α:=Unit) b.inner.length (fun j _=>[(5,.hd (lvl,224) [] 0 j none j),(6,iI j)]) (fun j _=>[(224,.ar 2 (((b.inner.take j).map (Zj7 ls)).map Ji) true j 0)]) (fun _ _=>True) () (by simp only[EVA,seval,Zd,men]) (by (simp only[EVA,seval,Zd,men]) <;> rfl) trivial ?_
 intro j _ hj _
 simp only[List.length_map,EVA,seval,Zd,men]
 refine Zl (fun hlt=>?_) (fun hge=>?_)
 ·have hja:j<b.inner.length:=by omega
  have ga:=WH (c:=Ji) hja
  have hq:=hp _ (List.getElem_mem hja)
  obtain⟨k,hk⟩:∃ k:Nat,b.inner[j].link=k:=⟨b.inner[j].link.toNat,by omega⟩
  have hkl:k<ls.length:=by omega
  have gl:=V5 hkl
  have hl2:(b.inner.take j).length=j:=by rw[List.length_take];omega
  have hs:((b.inner.take j).map (Zj7 ls)).map Ji++[[ts b.inner[j].name,tv (g0 ls k)]]=((b.inner.take (j+1)).map (Zj7 ls)).map Ji:=by
   rw[List.take_succ_eq_append_getElem hja,List.map_append,List.map_append]
   simp [Zj7,Ji,hk]
  simp only[ga,Ji,hk,gl,hja,hkl,hl2,List.length_map,EVA,seval,Zd,men]
  exact⟨by omega,by rw[Ze];omega,Zf () hja (by rw[<-hs];rfl) trivial⟩
 ·have:j=b.inner.length:=by omega
  subst this
  rw[List.take_length]
  exact⟨by simp,rfl⟩
def Zf9(by_:Int)(ps ls:List Int)(x:TNode):TNode:=⟨x.control,ZdX by_ ps x.parent,x.links.map fun l=>g0 ls l.toNat⟩
theorem Ui(b:TBigraph)(by_:Int)(ps ls:List Int)(hl:b.nodes.length<=4294967290)(h1:-4294967296<=by_/\by_<=4294967296)(hp:∀ x∈b.nodes,x.links.length<=4294967290/\((-4294967296<=x.parent/\x.parent<=4294967296)/\(x.parent<0->(-1-x.parent).toNat<ps.length))/\∀ l∈x.links,0<=l/\l<ls.length)(lvl:Nat)(S:Sto):Sem Proofs.Tryz.prog JS lvl [.ag ((Zb b).map .tr),iI by_,tI ps,tI ls] S (.ow 3 ((b.nodes.map (Zf9 by_ ps ls)).map ZX) true) S:=by
 refine Zc ZgT trivial ?_
 simp only[ZbT,Zb,EVA,seval,Zd,men]
 refine Zz (α:=Unit) b.nodes.length (fun j _=>[(9,.hd (lvl,416) [] 0 j none j),(10,iI j)]) (fun j _=>[(416,.ar 3 (((b.nodes.take j).map (Zf9 by_ ps ls)).map ZX) true j 0)]) (fun _ _=>True) () (by simp only[EVA,seval,Zd,men]) (by (simp only[EVA,seval,Zd,men]) <;> rfl) trivial ?_
 intro j _ hj _
 simp only[List.length_map,EVA,seval,Zd,men]
 refine Zl (fun hlt=>?_) (fun hge=>?_)
 ·have hja:j<b.nodes.length:=by omega
  have ga:=WH (c:=ZX) hja
  obtain⟨q1,q2,q3⟩:=hp _ (List.getElem_mem hja)
  have hl2:(b.nodes.take j).length=j:=by rw[List.length_take];omega
  refine Zz (α:=Unit) b.nodes[j].links.length (fun k _=>[(11,.hd (lvl,672) [] 0 k none k),(12,iI k)]) (fun k _=>[(672,.ar 1 (rI ((b.nodes[j].links.take k).map fun l=>g0 ls l.toNat)) true k 0)]) (fun _ _=>True) () (by simp only[EVA,seval,Zd,men]) (by (simp only[EVA,seval,Zd,men]) <;> rfl) trivial ?_
  intro k _ hk _
  simp only[ga,ZX,List.length_map,EVA,seval,Zd,men]
  refine Zl (fun hlt2=>?_) (fun hge2=>?_)
  ·have hka:k<b.nodes[j].links.length:=by omega
   have gl:=V5 hka
   have e0:g0 b.nodes[j].links k=b.nodes[j].links[k]:=by simp [hka]
   have hq:=q3 _ (List.getElem_mem hka)
   rw[<-e0] at hq
   obtain⟨m,hm⟩:∃ m:Nat,g0 b.nodes[j].links k=m:=⟨(g0 b.nodes[j].links k).toNat,by omega⟩
   have hml:m<ls.length:=by omega
   have gm:=V5 hml
   have hl3:(b.nodes[j].links.take k).length=k:=by rw[List.length_take];omega
   have hs:rI ((b.nodes[j].links.take k).map fun l=>g0 ls l.toNat)++[[tv (g0 ls m)]]=rI ((b.nodes[j].links.take (k+1)).map fun l=>g0 ls l.toNat):=by
    rw[List.take_succ_eq_append_getElem hka,List.map_append,YA,<-e0]
    simp only[List.map_cons,List.map_nil,hm,Int.toNat_natCast]
   simp only[ga,ZX,gl,hm,gm,hka,hml,hl3,hs,List.length_map,EVA,seval,Zd,men]
   exact⟨by omega,by rw[Ze];omega,Zf () hka rfl trivial⟩
  ·have:k=b.nodes[j].links.length:=by omega
   subst this
   rw[List.take_length]
   refine Za (ZaW b.nodes[j].parent by_ ps q2.1 h1 q2.2) ?_
   have hs:((b.nodes.take j).map (Zf9 by_ ps ls)).map ZX++[[tv b.nodes[j].control,tv (ZdX by_ ps b.nodes[j].parent),Tr.sl (rI (b.nodes[j].links.map fun l=>g0 ls l.toNat))]]=((b.nodes.take (j+1)).map (Zf9 by_ ps ls)).map ZX:=by
    rw[List.take_succ_eq_append_getElem hja,List.map_append,List.map_append]
    simp [Zf9,ZX]
   simp only[ga,ZX,hl2,List.length_map,EVA,seval,Zd,men]
   exact⟨by omega,by rw[Ze];omega,Zf () hja (by rw[<-hs];rfl) trivial⟩
 ·have:j=b.nodes.length:=by omega
  subst this
  rw[List.take_length]
  exact⟨by simp,rfl⟩
end Go.Fd

/-
  A LINK IS TURNED: relinked AND ITS CLOSURE. Own work.
-/
namespace Go.Fd
set_option maxRecDepth 20000
theorem Zxh:ZK Proofs.Tryz.prog ZW ZxV=true:=by kernel_rfl
theorem ZBN:ZK Proofs.Tryz.prog ZL (ZBK ZW)=true:=by kernel_rfl
theorem Zhv(l:List ByteArray)(s:ByteArray)(hl:l.length<=4294967296)(lvl:Nat)(S:Sto):Sem Proofs.Tryz.prog ZW lvl [.tr (.sl (rS l)),iS s] S (iI (ixS l s)) S:=ZoG Zxh ZwZ l s (by omega) lvl S
theorem DS(l:List ByteArray)(s:ByteArray)(hl:l.length<=4294967296)(lvl:Nat)(S:Sto):Sem Proofs.Tryz.prog ZL lvl [.tr (.sl (rS l)),iS s] S (iB (dc (s∈l))) S:=by
 have h:=ZtG ZBN Zxh ZwZ l s (by omega) lvl S
 have e:∀ i:Decidable (s∈l),@decide (s∈l) i=dc (s∈l):=fun i=>(@XA _ i).symm
 rw[e] at h
 exact h
theorem Zga{l:List ByteArray}{s:ByteArray}:-1<=ixS l s:=by
 by_cases h:s∈l
 ·have:=ixS_nn.2 h;omega
 ·rw[Zml h];omega
theorem Zey{l:List ByteArray}{s:ByteArray}:ixS l s<=l.length:=by
 by_cases h:s∈l
 ·have:=Zmm h;omega
 ·rw[Zml h];omega
mutual
theorem ZtM{P Q:Oid->Prop}:∀ x,men P x->men Q x->men (fun i=>P i/\Q i) x
 | .hd ..,h,g=>⟨h,g⟩
 | .ab ..,h,g=>⟨h,g⟩
 | .sv _,h,g=>⟨h,g⟩
 | .ae ..,h,g=>⟨h,g⟩
 | .ag l,h,g=>by simp only[men] at *;exact Zdb l h g
 | .tu l,h,g=>by simp only[men] at *;exact Zdb l h g
 | .fn f l,h,g=>by simp only[men] at *;exact Zdb l h g
 | .un,_,_=>trivial
 | .tr _,_,_=>trivial
 | .cs _,_,_=>trivial
 | .ta _,_,_=>trivial
 | .ow ..,_,_=>trivial
 | .er,_,_=>trivial
theorem Zdb{P Q:Oid->Prop}:∀ l,Zd P l->Zd Q l->Zd (fun i=>P i/\Q i) l
 | [],_,_=>trivial
 | x::r,h,g=>⟨ZtM x h.1 g.1,Zdb r h.2 g.2⟩
end
theorem Zj8{B S S':Sto}{loc:List (Nat×Ob)}{lvl l':Nat}{cps:List IV}(h:Zd (ZmS B S lvl) cps)(h2:Zd (ZmS (ZG lvl loc S) S' l') cps):Zd (ZmS B S' l') cps :=
 ZH (fun i hi=>⟨hi.2.1,fun ob hb=>hi.2.2 ob (by rw[show ZG lvl loc S i=S i from if_neg (by have:=hi.1.1;omega)];exact hi.1.2 ob hb)⟩) _ (Zdb _ h h2)
theorem Zj9{L S:Sto}{l:Nat}{cps:List IV}(h:Zd (ZhJ L S l) cps):Zd (ZmS L S l) cps:=ZH (fun _ hi=>hi.1) _ h
theorem Zq6{B S:Sto}{lvl:Nat}{cps:List IV}(h:Zd (ZmS B S lvl) cps)(js:List Nat):ZlC lvl js cps=True:=eq_true (ZH (fun i hi e=>absurd e (by have:=hi.1;omega)) _ h)
theorem ZtN{B S:Sto}{lvl:Nat}{cs:List (List Tr)}:Zd (ZmS B S lvl) (cs.map IV.ta):=by rw[Yk];trivial
theorem ZgY(b:TBigraph)(l:Int)(e:Int)(o:List ByteArray)(tf:FuncId)(cps:List IV)(B:Sto)(T:Int×ByteArray->Int×ByteArray)(he0:0<=b.edges)(hl:ZV b l)(ho:b.outer.length<=4294967296)(hb:b.edges<=4294967296)(he:0<=e/\e<=4294967296)(hol:o.length<=4294967296)
  (hT:∀ l' S',Zd (ZmS B S' l') cps->Sem Proofs.Tryz.prog tf l' (oE (Ze9 b l)::cps) S' (oE (T (Ze9 b l))) S')
  (lvl:Nat) (S:Sto) (hcp:Zd (ZmS B S lvl) cps) (iT iO io:Oid) (c0 c1 c2 c3 c5:IV) (hwo ver:Nat) (u:Bool) (hT1:iT.1<lvl) (hO1:iO.1<lvl) (ho1:io.1<lvl) (sT:S iT=some (.bx [.fn tf cps])) (sO:S iO=some (.bx [c0,c1,c2,c3,.hd io [] 0 o.length none hwo,c5])) (so:S io=some (.ar 1 (rS o) u hwo ver)) :
  Sem Proofs.Tryz.prog Jx lvl [iI l,.ab iT 0,.ta (Zb b),.ta [tv e],.ab iO 0] S (iI (Zda b e o T l)) S:=by
 have hneT:iT.1≠lvl:=by omega
 have hneO:iO.1≠lvl:=by omega
 have hneo:io.1≠lvl:=by omega
 refine Zc UV trivial ?_
 simp only[Qt,Zb,Z9 hneT,Z9 hneO,Z9 hneo,sT,sO,so,EVA,seval,Zd,men]
 refine Za (ZoV b l he0 hl ho hb) ?_
 simp only[EVA,seval,Zd,men]
 refine Zcy (fun l' S' hs=>hT l' S' (Zj8 hcp (Zj9 hs.2))) ?_
 simp only[EVA,seval,Zd,men]
 unfold Zda
 by_cases h2:(T (Ze9 b l)).2=e0S
 ·rw[if_pos h2]
  simp only[h2,EVA,seval,Zd,men]
 ·rw[if_neg h2]
  simp only[h2,Z9 hneO,Z9 hneo,sO,so,EVA,seval,Zd,men]
  rw[show cut (rS o) 0 o.length=rS o from Yg (by rw[List.length_map])]
  refine Za (Zhv o (T (Ze9 b l)).2 (by omega)) ?_
  have:=Zga (l:=o) (s:=(T (Ze9 b l)).2)
  have:=Zey (l:=o) (s:=(T (Ze9 b l)).2)
  simp only[EVA,seval,Zd,men]
  rw[Ze];omega
theorem ZoW{y:List Int}{j:Nat}{v:Int}(h:j<y.length):YU (rI y) [] j 0 (.v (.int .i64 v))=rI (y.set j v):=by
 simp only[YU]
 rw[V5 h]
 exact(List.map_set (f:=fun n:Int=>[tv n]) (l:=y) (i:=j) (a:=v)).symm
def Zle(F:Int->Int)(x:TNode):TNode:=⟨x.control,x.parent,x.links.map F⟩
def Y9(F:Int->Int)(l:List TNode)(j:Nat):List TNode:=(l.take j).map (Zle F)++l.drop j
def YJ(F:Int->Int)(l:List Int)(k:Nat):List Int:=(l.take k).map F++l.drop k
theorem ZaX{F:Int->Int}{l:List Int}{k:Nat}:(YJ F l k).length=l.length:=by simp [YJ];omega
theorem Zgb{F:Int->Int}{l:List Int}{k:Nat}(h:k<l.length):g0 (YJ F l k) k=g0 l k:=by
 show (YJ F l k).getD k 0=l.getD k 0
 have:((l.take k).map F).length=k:=by rw[List.length_map,List.length_take];omega
 rw[List.getD_eq_getElem?_getD,List.getD_eq_getElem?_getD,YJ,List.getElem?_append_right (by omega),this,List.getElem?_drop]
 simp
theorem Zgc{F:Int->Int}{l:List Int}{k:Nat}(h:k<l.length):(YJ F l k).set k (F (g0 l k))=YJ F l (k+1):=by
 have hl:((l.take k).map F).length=k:=by rw[List.length_map,List.length_take];omega
 have e:g0 l k=l[k]:=by simp [h]
 unfold YJ
 rw[List.set_append_right _ _ (by omega),hl,Nat.sub_self,List.drop_eq_getElem_cons h,List.set_cons_zero,List.take_succ_eq_append_getElem h,List.map_append,e,List.append_assoc]
 rfl
theorem Zdc{F:Int->Int}{l:List TNode}{j:Nat}:(Y9 F l j).length=l.length:=by simp [Y9];omega
theorem Zgd{F:Int->Int}{l:List TNode}{j:Nat}(h:j<l.length):(Y9 F l j)[j]? = some l[j]:=by
 have:((l.take j).map (Zle F)).length=j:=by rw[List.length_map,List.length_take];omega
 rw[Y9,List.getElem?_append_right (by omega),this,List.getElem?_drop]
 simp [h]
theorem Zka{F:Int->Int}{l:List TNode}{j:Nat}(h:j<l.length):(Y9 F l j).set j (Zle F l[j])=Y9 F l (j+1):=by
 have hl:((l.take j).map (Zle F)).length=j:=by rw[List.length_map,List.length_take];omega
 unfold Y9
 rw[List.set_append_right _ _ (by omega),hl,Nat.sub_self,List.drop_eq_getElem_cons h,List.set_cons_zero,List.take_succ_eq_append_getElem h,List.map_append,List.append_assoc]
 rfl
def Zbk(F:Int->Int)(w:TWire):TWire:=⟨w.name,F w.link⟩
def Uj(F:Int->Int)(l:List TWire)(j:Nat):List TWire:=(l.take j).map (Zbk F)++l.drop j
theorem ZoX{F:Int->Int}{l:List TWire}{j:Nat}:(Uj F l j).length=l.length:=by simp [Uj];omega
theorem Zge{F:Int->Int}{l:List TWire}{j:Nat}(h:j<l.length):(Uj F l j)[j]? = some l[j]:=by
 have:((l.take j).map (Zbk F)).length=j:=by rw[List.length_map,List.length_take];omega
 rw[Uj,List.getElem?_append_right (by omega),this,List.getElem?_drop]
 simp [h]
theorem Zgf{F:Int->Int}{l:List TWire}{j:Nat}(h:j<l.length):(Uj F l j).set j (Zbk F l[j])=Uj F l (j+1):=by
 have hl:((l.take j).map (Zbk F)).length=j:=by rw[List.length_map,List.length_take];omega
 unfold Uj
 rw[List.set_append_right _ _ (by omega),hl,Nat.sub_self,List.drop_eq_getElem_cons h,List.set_cons_zero,List.take_succ_eq_append_getElem h,List.map_append,List.append_assoc]
 rfl
theorem Zr4{X:List TNode}{j k:Nat}{x:TNode}{v:Int}(h:X[j]? = some x)(hk:k<x.links.length):YU (X.map ZX) [(j,2)] k 0 (.v (.int .i64 v))=(X.set j ⟨x.control,x.parent,x.links.set k v⟩).map ZX:=by
 have h1:=ZoW (y:=x.links) (j:=k) (v:=v) hk
 have e1:YU (X.map ZX) [(j,2)] k 0 (.v (.int .i64 v))=(X.map ZX).set j [tv x.control,tv x.parent,Tr.sl (YU (rI x.links) [] k 0 (.v (.int .i64 v)))]:=by
  simp only[YU,List.getElem?_map,h,Option.map_some,ZX,List.getElem?_cons_succ,List.getElem?_cons_zero,List.set_cons_succ,List.set_cons_zero]
 rw[e1,h1,List.map_set]
 rfl
theorem Zdd(b:TBigraph)(e:Int)(o:List ByteArray)(tf:FuncId)(cps:List IV)(B:Sto)(T:Int×ByteArray->Int×ByteArray)(he0:0<=b.edges)(hbd:Zt 4294967290 b)(hb:b.edges<=4294967296)(he:0<=e/\e<=4294967296)(ho:o.length<=4294967290)
  (hln:∀ x∈b.nodes,∀ l∈x.links,ZV b l) (hlw:∀ w∈b.inner,ZV b w.link) (hT:∀ l,ZV b l->∀ l' S',Zd (ZmS B S' l') cps->Sem Proofs.Tryz.prog tf l' (oE (Ze9 b l)::cps) S' (oE (T (Ze9 b l))) S')
  (lvl:Nat) (S:Sto) (hcp:Zd (ZmS B S lvl) cps):Sem Proofs.Tryz.prog Zy lvl [.ag ((Zb b).map .tr),iI e,.tr (.sl (rS o)),.fn tf cps] S (Zi (U1 b (Zda b e (Vt o) T) e (Vt o))) S:=by
 have hok:=Zq6 hcp
 refine Zc DL (by simp [Zi,low,men,Zd]) ?_
 simp only[Xy,Zb,EVA,seval,Zd,men]
 refine Za (X5 b hbd) ?_
 simp only[Zi,Zb,List.length_map,EVA,seval,Zd,men]
 refine Za (ZaV o ho) ?_
 obtain⟨b1,b2,b3,b4,b5,b6,b7⟩:=hbd
 simp only[List.length_map,EVA,seval,Zd,men]
 have hFdef:∃ F,F=Zda b e (Vt o) T:=⟨_,rfl⟩
 obtain⟨F,hF⟩:=hFdef
 rw[<-hF]
 have hsl:(Vt o).length<=4294967296:=Nat.le_trans ZoQ (by omega)
 have hc:∀(loc:List (Nat×Ob)) (l:Int),ZV b l->lkO 224 loc=some (.bx [.fn tf cps])->lkO 288 loc=some (.bx [iI b.roots,.hd (lvl,576) [] 0 b.nodes.length none b.nodes.length,.hd (lvl,577) [] 0 b.sites.length none b.sites.length,iI e,.hd (lvl,672) [] 0 (Vt o).length none (Vt o).length,.hd (lvl,579) [] 0 b.inner.length none b.inner.length])->lkO 672 loc=some (.ar 1 (rS (Vt o)) true (Vt o).length 0) ->
   ∀ l' S',Zd (ZhJ (ZG lvl loc S) S' l') [iI l,.ab (lvl,224) 0,.ta (Zb b),.ta [tv e],.ab (lvl,288) 0]->Sem Proofs.Tryz.prog Jx l' [iI l,.ab (lvl,224) 0,.ta (Zb b),.ta [tv e],.ab (lvl,288) 0] S' (iI (F l)) S':=fun loc l hl h1 h2 h3 l' S' hs=>by
  simp only[Zd,men] at hs
  obtain⟨_,h224,_,_,h288,_⟩:=hs
  have sT:=h224.1.2 _ (by rw[YV];exact h1)
  have hc2:=h224.2 _ (by rw[YV];exact h1)
  simp only[Zd,men,and_true] at hc2
  have sO:=h288.1.2 _ (by rw[YV];exact h2)
  have hm:=h288.2 _ (by rw[YV];exact h2)
  simp only[Zd,men] at hm
  obtain⟨_,_,_,_,h672,_,_⟩:=hm
  have so:=h672.2 _ (by rw[YV];exact h3)
  rw[hF]
  exact ZgY b l e (Vt o) tf cps B T he0 hl (by omega) hb he hsl (hT l hl) l' S' (Zj8 hcp hc2) (lvl,224) (lvl,288) (lvl,672) _ _ _ _ _ _ _ _ h224.1.1 h288.1.1 h672.1 sT sO so
 refine Zz (α:=Unit) b.nodes.length (fun j _=>[(28,iI j)]) (fun j _=>[(576,.ar 3 ((Y9 F b.nodes j).map ZX) true b.nodes.length 0)]) (fun _ _=>True) () (by simp only[hok,EVA,seval,Zd,men]) (by (simp only[EVA,seval,Zd,men]) <;> rfl) trivial ?_
 intro j _ hj _
 simp only[List.length_map,EVA,seval,Zd,men]
 refine Zl (fun hlt=>?_) (fun hge=>?_)
 ·have hja:j<b.nodes.length:=by omega
  have gp:=Zgd (F:=F) hja
  have ga:((Y9 F b.nodes j).map ZX)[j]? = some [Tr.v (.int .i64 b.nodes[j].control),Tr.v (.int .i64 b.nodes[j].parent),Tr.sl (rI b.nodes[j].links)]:=by rw[List.getElem?_map,gp];rfl
  have hkl:b.nodes[j].links.length<=4294967290:=b2 _ (List.getElem_mem hja)
  simp only[ga,hja,List.length_map,EVA,seval,Zd,men]
  have e0:(Y9 F b.nodes j).set j ⟨b.nodes[j].control,b.nodes[j].parent,YJ F b.nodes[j].links 0⟩=Y9 F b.nodes j:=by
   have:(⟨b.nodes[j].control,b.nodes[j].parent,YJ F b.nodes[j].links 0⟩:TNode)=b.nodes[j]:=by simp [YJ]
   rw[this]
   have hl:j<(Y9 F b.nodes j).length:=by rw[Zdc];exact hja
   have e:b.nodes[j]=(Y9 F b.nodes j)[j]:=by
    have:=gp
    rw[List.getElem?_eq_getElem hl] at this
    exact(Option.some.inj this).symm
   rw[e]
   exact List.set_getElem_self hl
  refine Zz (α:=Unit) b.nodes[j].links.length (fun k _=>[(35,iI k)]) (fun k _=>[(576,.ar 3 (((Y9 F b.nodes j).set j ⟨b.nodes[j].control,b.nodes[j].parent,YJ F b.nodes[j].links k⟩).map ZX) true b.nodes.length 0)]) (fun _ _=>True) () (by simp only[hok,EVA,seval,Zd,men]) (by (simp only[e0,EVA,seval,Zd,men]) <;> rfl) trivial ?_
  intro k _ hk _
  have gq:((Y9 F b.nodes j).set j ⟨b.nodes[j].control,b.nodes[j].parent,YJ F b.nodes[j].links k⟩)[j]? = some ⟨b.nodes[j].control,b.nodes[j].parent,YJ F b.nodes[j].links k⟩:=by
   rw[List.getElem?_set_self (by rw[Zdc];exact hja)]
  have hgp:(((Y9 F b.nodes j).set j ⟨b.nodes[j].control,b.nodes[j].parent,YJ F b.nodes[j].links k⟩).map ZX)[j]? = some [Tr.v (.int .i64 b.nodes[j].control),Tr.v (.int .i64 b.nodes[j].parent),Tr.sl (rI (YJ F b.nodes[j].links k))]:=by rw[List.getElem?_map,gq];rfl
  simp only[hgp,List.length_map,EVA,seval,Zd,men]
  refine Zl (fun hlt2=>?_) (fun hge2=>?_)
  ·have hka:k<b.nodes[j].links.length:=by omega
   have hpl:=ZaX (F:=F) (l:=b.nodes[j].links) (k:=k)
   have gk:(rI (YJ F b.nodes[j].links k))[k]? = some [tv (g0 b.nodes[j].links k)]:=by rw[V5 (by omega),Zgb hka]
   have hlk:ZV b (g0 b.nodes[j].links k):=hln _ (List.getElem_mem hja) _ (by simp [hka])
   have hsp:=Zr4 (v:=F (g0 b.nodes[j].links k)) gq (k:=k) (by show k<(YJ F b.nodes[j].links k).length;omega)
   simp only[hgp,gk,hka,hpl,Nat.zero_add,List.length_map,EVA,seval,Zd,men]
   refine Zcy (hc _ (g0 b.nodes[j].links k) hlk rfl rfl rfl) ?_
   have hst:((Y9 F b.nodes j).set j ⟨b.nodes[j].control,b.nodes[j].parent,YJ F b.nodes[j].links k⟩).set j ⟨b.nodes[j].control,b.nodes[j].parent,(YJ F b.nodes[j].links k).set k (F (g0 b.nodes[j].links k))⟩=(Y9 F b.nodes j).set j ⟨b.nodes[j].control,b.nodes[j].parent,YJ F b.nodes[j].links (k+1)⟩:=by
    rw[List.set_set,Zgc hka]
   rw[hst] at hsp
   simp only[hgp,gk,hka,hpl,hsp,hok,Nat.zero_add,List.length_map,EVA,seval,Zd,men]
   exact⟨by rw[Ze];omega,Zf () hka rfl trivial⟩
  ·have:k=b.nodes[j].links.length:=by omega
   subst this
   have hst:(Y9 F b.nodes j).set j ⟨b.nodes[j].control,b.nodes[j].parent,YJ F b.nodes[j].links b.nodes[j].links.length⟩=Y9 F b.nodes (j+1):=by
    rw[<-Zka hja]
    congr 1
    simp [Zle,YJ]
   rw[hst]
   simp only[hok,EVA,seval,Zd,men]
   exact⟨by rw[Ze];omega,Zf () hja rfl trivial⟩
 ·have:j=b.nodes.length:=by omega
  subst this
  have hpn:Y9 F b.nodes b.nodes.length=(U1 b F e (Vt o)).nodes:=by simp [Y9,U1,Zle]
  rw[hpn]
  refine Zz (α:=Unit) b.inner.length (fun j _=>[(52,iI j)]) (fun j _=>[(579,.ar 2 ((Uj F b.inner j).map Ji) true b.inner.length 0)]) (fun _ _=>True) () (by simp only[hok,EVA,seval,Zd,men]) (by (simp only[EVA,seval,Zd,men]) <;> rfl) trivial ?_
  intro j _ hj _
  simp only[List.length_map,EVA,seval,Zd,men]
  refine Zl (fun hlt=>?_) (fun hge=>?_)
  ·have hja:j<b.inner.length:=by omega
   have gp:=Zge (F:=F) hja
   have ga:((Uj F b.inner j).map Ji)[j]? = some [ts b.inner[j].name,tv b.inner[j].link]:=by rw[List.getElem?_map,gp];rfl
   have hsp:YU ((Uj F b.inner j).map Ji) [] j 1 (.v (.int .i64 (F b.inner[j].link)))=(Uj F b.inner (j+1)).map Ji:=by
    simp only[YU]
    rw[ga,<-Zgf hja,List.map_set]
    rfl
   have hlk:ZV b b.inner[j].link:=hlw _ (List.getElem_mem hja)
   simp only[ga,hja,Nat.zero_add,List.length_map,EVA,seval,Zd,men]
   refine Zcy (hc _ b.inner[j].link hlk rfl rfl rfl) ?_
   simp only[ga,hja,hsp,hok,Nat.zero_add,List.length_map,EVA,seval,Zd,men]
   exact⟨by rw[Ze];omega,Zf () hja rfl trivial⟩
  ·have:j=b.inner.length:=by omega
   subst this
   have hpw:Uj F b.inner b.inner.length=(U1 b F e (Vt o)).inner:=by simp [Uj,U1,Zbk]
   rw[hpw]
   exact⟨by simp [U1],by simp [U1],rfl⟩
theorem UH(b:TBigraph)(e:Int)(o:List ByteArray)(tf:FuncId)(cs:List (List Tr))(T:Int×ByteArray->Int×ByteArray)(he0:0<=b.edges)(hbd:Zt 4294967290 b)(hb:b.edges<=4294967296)(he:0<=e/\e<=4294967296)(ho:o.length<=4294967290)
  (hln:∀ x∈b.nodes,∀ l∈x.links,ZV b l) (hlw:∀ w∈b.inner,ZV b w.link) (hT:∀ l,ZV b l->∀ lvl S,Sem Proofs.Tryz.prog tf lvl (oE (Ze9 b l)::cs.map IV.ta) S (oE (T (Ze9 b l))) S)
  (lvl:Nat) (S:Sto):Sem Proofs.Tryz.prog Zy lvl [.ag ((Zb b).map .tr),iI e,.tr (.sl (rS o)),.fn tf (cs.map IV.ta)] S (Zi (U1 b (Zda b e (Vt o) T) e (Vt o))) S :=
 Zdd b e o tf (cs.map IV.ta) (fun _=>none) T he0 hbd hb he ho hln hlw (fun l hl l' S' _=>hT l hl l' S') lvl S ZtN
end Go.Fd

/-
  A NAME BECOMES AN EDGE, AN EDGE A NAME: THE PROGRAM'S SIDE. Own work.
-/
namespace Go.Fd
set_option maxRecDepth 20000
theorem Zxi:ZK Proofs.Tryz.prog Z3 (ZoD 1 none)=true:=by kernel_rfl
theorem Zgg(l:List ByteArray)(hl:l.length<=4294967290)(f:ByteArray->Bool){fe:FuncId}{cs:List (List Tr)}(hf:∀ x lvl S,Sem Proofs.Tryz.prog fe lvl (iS x::cs.map IV.ta) S (iB (f x)) S)(lvl:Nat)(S:Sto)(id:Oid)(u:Bool)(hw ver:Nat)(hid:id.1<lvl)(hS:S id=some (.ar 1 (rS l) u hw ver)) :
  ∃ v2,Sem Proofs.Tryz.prog Jt lvl [.hd id [] 0 l.length none hw,.fn fe (cs.map IV.ta)] S (.hd id [] 0 (l.filter fun n=>!f n).length none hw) (ZP S id (.ar 1 (rS (l.filter fun n=>!f n)) u hw v2)):=by
 have hne:id.1≠lvl:=by omega
 have hix:=Zme (P:=Proofs.Tryz.prog) Zxi (t:=fun n:ByteArray=>ts n) (f:=f) (fe:=fe) (cs:=cs) l (by omega) (fun x _ lvl S=>hf x lvl S)
 rcases ZiN (f:=f) (l:=l) (j:=0) with ⟨h1,h2⟩ | ⟨i0,h,h1,h2,h3⟩
 ·refine⟨ver,?_⟩
  rw[Zhq h2,Xd hS]
  refine Zc Yz hid ?_
  simp only[Jy,UG,Yk,Z9 hne,hS,EVA,seval,Zd,men]
  rw[show cut (rS l) 0 l.length=rS l from Yg (by rw[List.length_map])]
  refine Za hix ?_
  simp only[h1,ZfB hne,EVA,seval,Zd,men]
 ·refine⟨ver+1,?_⟩
  rw[Int.zero_add] at h1
  refine Zc Yz hid ?_
  simp only[Jy,UG,Yk,Z9 hne,hS,EVA,seval,Zd,men]
  rw[show cut (rS l) 0 l.length=rS l from Yg (by rw[List.length_map])]
  refine Za hix ?_
  have hm1:¬ (i0:Int) = -1:=by omega
  simp only[h1,hm1,EVA,seval,Zd,men]
  refine⟨by rw[Ze];omega,?_⟩
  have f0:(l.take i0).filter (fun n=>!f n)=l.take i0:=Zhq h2
  have f1:(l.take (i0+1)).filter (fun n=>!f n)=l.take i0:=by rw[Zf8 h,f0,if_pos h3,List.append_nil]
  refine Z8 (α:=Nat×List ByteArray) l.length (fun m x=>⟨lvl,[(0,.hd id [] 0 l.length none hw),(1,.fn fe (cs.map IV.ta)),(5,iI (x.1:Int)),(6,iI ((i0+1+m:Nat):Int))],[],ZP S id (.ar 1 (rS x.2) u hw ver)⟩) (fun m x=>i0+1+m<=l.length/\x.2.length=l.length/\x.1=((l.take (i0+1+m)).filter fun n=>!f n).length/\x.2.take x.1=(l.take (i0+1+m)).filter (fun n=>!f n)/\x.1<=i0+m/\∀ q,i0+1+m<=q->gS x.2 q=gS l q) (i0,l) ⟨by simp only[Jv hne,Jp,EVA,seval,Zd,men],by (simp only[Xd hS,EVA,seval,Zd,men]) <;> rfl⟩ ⟨by omega,rfl,by rw[Nat.add_zero,f1,List.length_take];omega,by rw[Nat.add_zero,f1],by omega,fun _ _=>rfl⟩ ?_
  intro m ⟨i,y⟩ hm ⟨hm1,hy,hi,ht,hle,hq⟩
  dsimp only at hy hi ht hle hq
  simp only[EVA,seval,Zd,men]
  refine Zl (fun hlt2=>?_) (fun hge2=>?_)
  ·have b1:i0+1+m<l.length:=by omega
   have gy:=ZeN (e0:=e0S) (c:=fun n:ByteArray=>[ts n]) (l:=y) (i:=i0+1+m) (by omega)
   have q1:=hq (i0+1+m) (by omega)
   have b4:i<l.length:=by omega
   have e0:gS l (i0+1+m)=l[i0+1+m]:=XV b1
   have fs:=Zf8 (f:=f) b1
   simp only[Z9 hne,V3,gy,q1,b1,Jv hne,UG,Yk,Nat.zero_add,EVA,seval,Zd,men]
   refine Za (hf (gS l (i0+1+m))) ?_
   rw[<-e0] at fs
   cases hx:f (gS l (i0+1+m)) with
   | true =>
    rw[if_pos hx,List.append_nil] at fs
    simp only[hx,Jv hne,Jp,EVA,seval,Zd,men]
    exact⟨by rw[Ze];omega,Zf (i,y) (by omega) rfl ⟨by omega,hy,by rw[show i0+1+(m+1)=i0+1+m+1 from rfl,fs];exact hi,by rw[show i0+1+(m+1)=i0+1+m+1 from rfl,fs];exact ht,by show i<=i0+(m+1);omega,fun q hqq=>hq q (by omega)⟩⟩
   | false =>
    rw[if_neg (by rw[hx];decide)] at fs
    have s1:=Zq1 (y:=y) (j:=i) (v:=gS l (i0+1+m)) (by omega)
    have gy0:=ZeN (e0:=e0S) (c:=fun n:ByteArray=>[ts n]) (l:=y) (i:=i) (by omega)
    simp only[Z9 hne,VS hne,J6,V3,gy,gy0,q1,b1,b4,s1,hx,Nat.zero_add,Jv hne,Jp,EVA,seval,Zd,men]
    exact⟨by rw[Ze];omega,by rw[Ze];omega,Zf (i+1,y.set i (gS l (i0+1+m))) (by omega) rfl ⟨by omega,by rw[List.length_set];exact hy,by rw[show i0+1+(m+1)=i0+1+m+1 from rfl,fs,List.length_append,<-hi];rfl,by rw[Zc9 (by omega),ht,show i0+1+(m+1)=i0+1+m+1 from rfl,fs],by show i+1<=i0+(m+1);omega,fun q hqq=>by
     show gx e0S (y.set i (gS l (i0+1+m))) q=_
     rw[Zmi (by omega),if_neg (by omega)]
     exact hq q (by omega)⟩⟩
  ·have en:i0+1+m=l.length:=by omega
   rw[en,List.take_length] at hi ht
   refine⟨by omega,Zw8 hne (V3 ..),?_⟩
   have tk:(rS y).take i=rS (l.filter fun n=>!f n):=by rw[<-ht];exact(List.map_take ..).symm
   simp only[Z9 hne,VS hne,J6,V3,tk,List.length_map,hy,EVA,seval,Zd,men]
   refine⟨by omega,by omega,by omega,by omega,Zw8 hne (V3 ..),?_⟩
   simp only[ZfB hne,Nat.sub_zero,hi,EVA,seval,Zd,men]
theorem ZdY(x s:ByteArray)(lvl:Nat)(S:Sto):Sem Proofs.Tryz.prog Yj lvl [iS x,.ta [ts s]] S (iB (decide (x=s))) S:=by
 refine Zc Zbs trivial ?_
 simp only[Wy,EVA,seval,Zd,men]
theorem Zgh(o:List ByteArray)(s:ByteArray)(ho:o.length<=4294967290)(lvl:Nat)(S:Sto):Sem Proofs.Tryz.prog Qb lvl [.tr (.sl (rS o)),iS s] S (.ow 1 (rS (QQ o s)) true) S:=by
 refine Zc Zc4 trivial ?_
 simp only[UD,EVA,seval,Zd,men]
 refine Za (Zbj o (by omega)) ?_
 simp only[EVA,seval,Zd,men]
 have h1:=fun S' hS=>Zgg o ho (fun n=>decide (n=s)) (fe:=Yj) (cs:=[[ts s]]) (fun n lvl S=>ZdY n s lvl S) (lvl+1) S' (lvl,192) true o.length 0 (Nat.lt_succ_self _) hS
 refine Zmh 192 _ (h1 _ ?_) fun v=>?_
 ·rw[YV];rfl
 simp only[List.length_map,EVA,seval,Zd,men]
 rfl
theorem ZeO(b:TBigraph)(s:ByteArray)(e:Int×ByteArray)(lvl:Nat)(S:Sto):Sem Proofs.Tryz.prog Jo lvl [oE e,.ta [ts s],.ta (Zb b)] S (oE (Zhu b s e)) S:=by
 refine Zc Ue (by simp [low,men,Zd]) ?_
 simp only[VG,Zb,EVA,seval,Zd,men]
 unfold Zhu
 by_cases h:e.2=s
 ·rw[if_pos h]
  simp only[h,EVA,seval,Zd,men]
  try rfl
 ·rw[if_neg h]
  simp only[h,EVA,seval,Zd,men]
  try rfl
theorem Zde(sig:List TControl)(b:TBigraph)(hn:sig.length<=4294967296)(hbs:∀ y∈sig,Zp 4294967296 y)(hb:Zt 4294967290 b)(hf:ZB b)(lvl:Nat)(S:Sto):Sem Proofs.Tryz.prog Vh lvl [.tr (.sl (sig.map Zh)),.ag ((Zb b).map .tr)] S (.tu [Zi (@ite TBigraph (bigOK sig b) (Classical.propDecidable _) b ⟨0,[],[],0,[],[]⟩),iB (dc (bigOK sig b))]) S:=by
 have hb2:Zt 4294967296 b:=by
  obtain⟨b1,b2,b3,b4,b5,b6,b7⟩:=hb
  exact⟨by omega,fun y hy=>Nat.le_trans (b2 y hy) (by omega),by omega,by omega,fun y hy=>Nat.le_trans (b5 y hy) (by omega),by omega,fun y hy=>Nat.le_trans (b7 y hy) (by omega)⟩
 refine Zc ZjX (by simp [Zi,low,men,Zd]) ?_
 simp only[Zeu,Zb,EVA,seval,Zd,men]
 refine Za (Jz sig b hn hbs hb2) ?_
 cases h:dc (bigOK sig b)
 ·rw[if_neg (dc_not.1 h)]
  simp only[EVA,seval,Zd,men]
  try rfl
 ·rw[if_pos (dc_iff.1 h)]
  simp only[Zb,EVA,seval,Zd,men]
  refine Za (X5 b hb) ?_
  simp only[Zi,Zb,List.length_map,EVA,seval,Zd,men]
  try rfl
end Go.Fd

/-
  A NAME BECOMES AN EDGE: BOTH SIDES. Own work.
-/
namespace Go.Fd
set_option maxRecDepth 20000
theorem Zm9{n:Nat}{k:Nat}(h:k<n):g0 (JI 0 n) k = -1-(k:Int):=by
 show (JI 0 n).getD k 0=_
 rw[List.getD_eq_getElem?_getD,JI,List.getElem?_map,List.getElem?_range h]
 simp
theorem ZiP{b:TBigraph}{n:Nat}(hn:b.roots=n){p:Int}(h:-b.roots<=p):ZdX 0 (JI 0 n) p=p:=by
 unfold ZdX
 split
 ·rw[Zm9 (by omega)];omega
 ·omega
theorem Ju{sig:List TControl}{b:TBigraph}{p below:Int}(hr:0<=b.roots)(h:Uq sig b p below):-b.roots<=p:=by
 rcases h with h | h <;> omega
theorem Zkb(sig:List TControl)(b:TBigraph)(h:bigOK sig b)(ls:List Int)(e:Int)(o:List ByteArray)(hb:Zt 4294967296 b)(hls:∀ l,ZV b l->l<ls.length)(ho:o.length<=4294967290)(lvl:Nat)(S:Sto):Sem Proofs.Tryz.prog XT lvl [.ag ((Zb b).map .tr),tI ls,iI e,.tr (.sl (rS o))] S (Zi (U1 b (fun l=>g0 ls l.toNat) e o)) S:=by
 obtain⟨n,hn⟩:∃ n:Nat,b.roots=n:=⟨b.roots.toNat,by have:=h.roots;omega⟩
 have hr:=h.roots
 have hsm:=h.small
 have hpar:∀ p,-b.roots<=p->p<=100->(-4294967296<=p/\p<=4294967296)/\(p<0->(-1-p).toNat<(JI 0 n).length):=fun p h1 h2=>⟨by omega,fun h3=>by rw[rootsN_len];omega⟩
 have hN:∀ x∈b.nodes,x.links.length<=4294967290/\((-4294967296<=x.parent/\x.parent<=4294967296)/\(x.parent<0->(-1-x.parent).toNat<(JI 0 n).length))/\∀ l∈x.links,0<=l/\l<ls.length:=fun x hx=>by
  obtain⟨k,hk,rfl⟩:=List.getElem_of_mem hx
  have hnode:=h.nodes k hk
  have hl:=hsm.links _ hx
  have hnl:=h.nodesL
  refine⟨by omega,hpar _ (Ju hr.1 hnode.par) ?_,fun l hl=>⟨(hnode.links l hl).1,hls l (hnode.links l hl)⟩⟩
  have:=hnode.par
  unfold Uq at this
  omega
 have hP:∀ p∈b.sites,(-4294967296<=p/\p<=4294967296)/\(p<0->(-1-p).toNat<(JI 0 n).length):=fun p hp=>by
  have hu:=h.sites p hp
  have hnl:=h.nodesL
  refine hpar _ (Ju hr.1 hu) ?_
  unfold Uq at hu
  omega
 have hW:∀ w∈b.inner,0<=w.link/\w.link<ls.length:=fun w hw=>⟨(h.inner w hw).1,hls _ (h.inner w hw)⟩
 have e1:b.nodes.map (Zf9 0 (JI 0 n) ls)=(U1 b (fun l=>g0 ls l.toNat) e o).nodes:=by
  unfold U1
  refine List.map_congr_left fun x hx=>?_
  obtain⟨k,hk,rfl⟩:=List.getElem_of_mem hx
  unfold Zf9
  rw[ZiP hn (Ju hr.1 (h.nodes k hk).par)]
 have e2:b.sites.map (ZdX 0 (JI 0 n))=b.sites:=by
  have:b.sites.map (ZdX 0 (JI 0 n))=b.sites.map id:=List.map_congr_left fun p hp=>ZiP hn (Ju hr.1 (h.sites p hp))
  rw[this,List.map_id]
 have s1:=hsm.nodes;have s2:=hsm.sites;have s3:=hsm.inner
 refine Zc ZfU (by simp [Zi,low,men,Zd]) ?_
 simp only[ZaP,Zb,hn,EVA,seval,Zd,men]
 refine Za (DQ 0 n (by omega) (by omega)) ?_
 simp only[Zb,EVA,seval,Zd,men]
 have q1:=Ui b 0 (JI 0 n) ls (by omega) (by omega) hN
 rw[e1] at q1
 simp only[Zb,hn,List.map_cons,List.map_nil] at q1
 refine Za q1 ?_
 simp only[List.length_map,EVA,seval,Zd,men]
 have q2:=XW b 0 (JI 0 n) (by omega) (by omega) hP
 rw[e2] at q2
 simp only[Zb,hn,List.map_cons,List.map_nil] at q2
 refine Za q2 ?_
 simp only[ZnN,ZnO,List.length_map,EVA,seval,Zd,men]
 refine⟨by omega,?_⟩
 have q3:=DR b ls (by omega) hW
 rw[show b.inner.map (Zj7 ls)=(U1 b (fun l=>g0 ls l.toNat) e o).inner from rfl] at q3
 simp only[Zb,hn,List.map_cons,List.map_nil] at q3
 refine Za q3 ?_
 simp only[List.length_map,EVA,seval,Zd,men]
 rw[<-hn]
 rfl
def J3:TBigraph:=⟨0,[],[],0,[],[]⟩
theorem Zez(sig:List TControl)(b:TBigraph)(hn:sig.length<=4294967296)(hbs:∀ y∈sig,Zp 4294967296 y)(hb:Zt 4294967296 b)(hf:ZB b)(hG:bigOK sig b)(lvl:Nat)(S:Sto):Sem Proofs.Tryz.prog VB lvl [.tr (.sl (sig.map Zh)),.ag ((Zb b).map .tr)] S (.tu [.ag ((Zb b).map .tr),iB true]) S:=by
 refine Zc Zc0 (by simp [Zb,low,men,Zd]) ?_
 simp only[DM,Zb,EVA,seval,Zd,men]
 refine Za (XU sig b hn hbs hb hf) ?_
 rw[ZN hG]
 simp only[Zb,EVA,seval,Zd,men]
theorem ZeA(sig:List TControl)(b:TBigraph)(hn:sig.length<=4294967296)(hbs:∀ y∈sig,Zp 4294967296 y)(hb:Zt 4294967296 b)(hf:ZB b)(hG:¬ bigOK sig b)(lvl:Nat)(S:Sto):Sem Proofs.Tryz.prog VB lvl [.tr (.sl (sig.map Zh)),.ag ((Zb b).map .tr)] S (.tu [Zi J3,iB false]) S:=by
 refine Zc Zc0 (by simp [Zi,low,men,Zd]) ?_
 simp only[DM,Zb,EVA,seval,Zd,men]
 refine Za (XU sig b hn hbs hb hf) ?_
 rw[Zj hG]
 simp only[Zb,EVA,seval,Zd,men]
 rfl
def QR(sig:List TControl)(b:TBigraph)(s:ByteArray):Prop:=bigOK sig b/\s∈b.outer/\bigOK sig (XB b s)
theorem Zna{b:TBigraph}{s:ByteArray}(h:0<=b.edges):((Dh b s).length:Int)=b.edges+b.outer.length:=by
 unfold Dh Zmn
 rw[List.length_append,List.length_map,List.length_map,Y8]
 omega
theorem Znb{sig:List TControl}{b:TBigraph}{s:ByteArray}(h:bigOK sig b){l:Int}(hl:ZV b l):0<=g0 (Dh b s) l.toNat/\g0 (Dh b s) l.toNat<=100:=by
 have he:=h.edges
 have ho:=h.outer.2
 unfold Dh
 rcases Ya hl with ⟨h0,h1⟩ | ⟨i,hi,rfl⟩
 ·rw[ZbX h0 h1];omega
 ·rw[ZbY h.edges.1 hi]
  split
  ·omega
  ·rename_i hne
   have h1:b.outer[i]∈QQ b.outer s:=lessN_mem.2 ⟨List.getElem_mem hi,hne⟩
   have:=ixS_nn.2 h1
   have:=Zmm h1
   have:(QQ b.outer s).length<=b.outer.length:=List.length_filter_le ..
   omega
theorem Zlf{sig:List TControl}{b:TBigraph}(h:bigOK sig b){F:Int->Int}{e:Int}{o:List ByteArray}(hb:Zt 4294967296 b)(ho:o.length<=100)(hos:∀ y∈o,y.size<=4294967290):Zt 4294967290 (U1 b F e o):=by
 obtain⟨b1,b2,b3,b4,b5,b6,b7⟩:=hb
 have hs:=h.small
 have s1:=hs.nodes;have s2:=hs.sites;have s3:=hs.inner
 refine⟨by simp only[U1,List.length_map];omega,fun y hy=>?_,by simp only[U1];omega,by simp only[U1];omega,hos,by simp only[U1,List.length_map];omega,fun y hy=>?_⟩
 ·obtain⟨x,hx,rfl⟩:=List.mem_map.1 hy
  have:=hs.links x hx
  simp only[ZjN,List.length_map]
  omega
 ·obtain⟨w,hw,rfl⟩:=List.mem_map.1 hy
  have hn:w.name∈inn b:=List.mem_map.2 ⟨w,hw,rfl⟩
  obtain⟨i,hi,hie⟩:=List.getElem_of_mem hn
  have:=(h.inn.1 i hi).1.2.2
  rw[hie] at this
  simp only[Zej]
  omega
theorem ZoY{sig:List TControl}{b:TBigraph}(h:bigOK sig b){F:Int->Int}{e:Int}{o:List ByteArray}(hf:ZB b)(hF:∀ l,ZV b l->0<=F l/\F l<=100)(he:XE .i64 e):ZB (U1 b F e o):=by
 obtain⟨f1,f2,f3,f4,f5⟩:=hf
 refine⟨f1,fun y hy=>?_,f3,he,fun y hy=>?_⟩
 ·obtain⟨x,hx,rfl⟩:=List.mem_map.1 hy
  have hq:=f2 x hx
  obtain⟨i,hi,hie⟩:=List.getElem_of_mem hx
  refine⟨hq.1,hq.2.1,fun l hl=>?_⟩
  obtain⟨l0,hl0,rfl⟩:=List.mem_map.1 hl
  have:=hF l0 ((h.nodes i hi).links l0 (by rw[hie];exact hl0))
  rw[Ze];omega
 ·obtain⟨w,hw,rfl⟩:=List.mem_map.1 hy
  have:=hF _ (h.inner w hw)
  show XE .i64 (F w.link)
  rw[Ze];omega
theorem Yr{l:List ByteArray}(h:VK l){s:ByteArray}(hs:s∈l):s.size<=4:=by
 obtain⟨i,hi,rfl⟩:=List.getElem_of_mem hs
 exact(h.1 i hi).1.2.2
theorem ZiQ{sig:List TControl}{b:TBigraph}{s:ByteArray}(h:bigOK sig b)(hb:Zt 4294967296 b):Zt 4294967290 (XB b s) :=
 Zlf h hb (Nat.le_trans (List.length_filter_le ..) (by have:=h.outer.2;omega)) fun y hy=>by
  have:=Yr h.outer (lessN_mem.1 hy).1
  omega
theorem ZiR{sig:List TControl}{b:TBigraph}{s:ByteArray}(h:bigOK sig b)(hf:ZB b):ZB (XB b s) :=
 ZoY h hf (fun l hl=>Znb h hl) (by have:=h.edges;rw[Ze];omega)
end Go.Fd

/-
  A NAME BECOMES AN EDGE: BOTH ANSWERS. Own work.
-/
namespace Go.Fd
set_option maxRecDepth 20000
open Classical in
noncomputable def J4(sig:List TControl)(b:TBigraph)(s:ByteArray):TBigraph:=if QR sig b s then XB b s else J3
noncomputable def J5(sig:List TControl)(b:TBigraph)(s:ByteArray):Bool:=dc (QR sig b s)
theorem QT{a c:Nat}{b:TBigraph}(h:a<=c)(hb:Zt a b):Zt c b:=by
 obtain⟨b1,b2,b3,b4,b5,b6,b7⟩:=hb
 exact⟨by omega,fun y hy=>Nat.le_trans (b2 y hy) h,by omega,by omega,fun y hy=>Nat.le_trans (b5 y hy) h,by omega,fun y hy=>Nat.le_trans (b7 y hy) h⟩
theorem XC{sig:List TControl}{b:TBigraph}(h:bigOK sig b):Zt 1000 b:=by
 have hs:=h.small
 have s1:=hs.nodes;have s2:=hs.sites;have s3:=hs.inner;have s4:=hs.outer
 refine⟨by omega,fun y hy=>hs.links y hy,by omega,by omega,fun y hy=>?_,by omega,fun w hw=>?_⟩
 ·have:=Yr h.outer hy;omega
 ·have hn:w.name∈inn b:=List.mem_map.2 ⟨w,hw,rfl⟩
  have:=Yr h.inn hn
  simp only[Zej]
  omega
theorem ZgZ(sig:List TControl)(b:TBigraph)(s:ByteArray)(h:bigOK sig b)(hs:s∈b.outer)(lvl:Nat)(S:Sto):Sem Proofs.Tryz.prog Yf lvl [.ag ((Zb b).map .tr),iS s] S (Zi (XB b s)) S:=by
 have hsm:=h.small
 have s4:=hsm.outer
 have he:=h.edges
 have hle:(QQ b.outer s).length<=16:=Nat.le_trans (List.length_filter_le ..) s4
 refine Zc UU (by simp [Zi,low,men,Zd]) ?_
 simp only[Qs,Zb,EVA,seval,Zd,men]
 refine⟨by rw[Ze];omega,?_⟩
 refine Za (Zgh b.outer s (by omega)) ?_
 simp only[Zb,EVA,seval,Zd,men]
 have q:=UH b (b.edges+1) (QQ b.outer s) Jo [[ts s],Zb b] (Zhu b s) he.1 (QT (by omega) (XC h)) (by omega) (by omega) (by omega) (fun x hx l hl=>by
  obtain⟨k,hk,rfl⟩:=List.getElem_of_mem hx
  exact(h.nodes k hk).links l hl) h.inner (fun l hl lvl S=>ZeO b s (Ze9 b l) lvl S)
 rw[Zq5 h hs] at q
 simp only[Zb,List.map_cons,List.map_nil] at q
 refine Za q ?_
 simp only[Zi,List.length_map,EVA,seval,Zd,men]
theorem Zdf(sig:List TControl)(b:TBigraph)(s:ByteArray)(hn:sig.length<=4294967296)(hbs:∀ y∈sig,Zp 4294967296 y)(hb:Zt 4294967296 b)(_hs:s.size<=4294967296)(hf:ZB b)(lvl:Nat)(S:Sto):Sem Proofs.Tryz.prog Xq lvl [.tr (.sl (sig.map Zh)),.ag ((Zb b).map .tr),iS s] S (.tu [Zi (J4 sig b s),iB (J5 sig b s)]) S:=by
 refine Zc ZeM (by simp [Zi,low,men,Zd]) ?_
 simp only[Zae,Zb,EVA,seval,Zd,men]
 refine Za (Jz sig b hn hbs hb) ?_
 unfold J4 J5
 cases h1:dc (bigOK sig b)
 ·have hno:¬ QR sig b s:=fun g=>dc_not.1 h1 g.1
  rw[if_neg hno,Zj hno]
  simp only[EVA,seval,Zd,men]
  rfl
 have hG:=dc_iff.1 h1
 simp only[Zb,EVA,seval,Zd,men]
 refine Za (DS b.outer s (by have:=hb.2.2.2.1;omega)) ?_
 cases h2:dc (s∈b.outer)
 ·have hno:¬ QR sig b s:=fun g=>dc_not.1 h2 g.2.1
  rw[if_neg hno,Zj hno]
  simp only[EVA,seval,Zd,men]
  rfl
 have hM:=dc_iff.1 h2
 simp only[Zb,EVA,seval,Zd,men]
 have q:=ZgZ sig b s hG hM
 simp only[Zb,List.map_cons,List.map_nil] at q
 refine Za q ?_
 simp only[Zi,List.length_map,EVA,seval,Zd,men]
 have qv:=Zde sig (XB b s) hn hbs (ZiQ hG hb) (ZiR hG hf)
 simp only[Zb,List.map_cons,List.map_nil] at qv
 refine Za qv ?_
 cases h3:dc (bigOK sig (XB b s))
 ·have hno:¬ QR sig b s:=fun g=>dc_not.1 h3 g.2.2
  rw[if_neg hno,Zj hno,if_neg (dc_not.1 h3)]
  simp only[Zi,List.length_map,EVA,seval,Zd,men]
  rfl
 ·have hyes:QR sig b s:=⟨hG,hM,dc_iff.1 h3⟩
  rw[if_pos hyes,ZN hyes,if_pos (dc_iff.1 h3)]
  simp only[Zi,List.length_map,EVA,seval,Zd,men]
theorem Zhw{n:Nat}:Ur 0 n=(Wz n).map fun l=>l:=by simp [Ur,Wz]
theorem ZtO{o:List ByteArray}{s:ByteArray}(hp:o.Pairwise ltS)(hs:s∈o){j:Nat}(h:j<o.length):(j:Int)=ixS o s↔o[j]=s:=by
 obtain⟨k,hk,rfl⟩:=List.getElem_of_mem hs
 rw[Zxe hp hk]
 constructor
 ·intro e
  have:j=k:=by omega
  subst this;rfl
 ·intro e
  have:=Zxd hp h hk e
  omega
def Znc(b:TBigraph)(g:ByteArray->Int)(j:Nat):List Int:=(Wz b.edges.toNat).map (fun l=>l)++(b.outer.take j).map g
theorem Zq7{b:TBigraph}{g:ByteArray->Int}{j:Nat}(h:j<=b.outer.length):(Znc b g j).length=b.edges.toNat+j:=by
 unfold Znc
 rw[List.length_append,List.length_map,List.length_map,Y8,List.length_take]
 omega
theorem ZoZ{b:TBigraph}{g:ByteArray->Int}{j:Nat}(h:j<b.outer.length):Znc b g (j+1)=Znc b g j++[g b.outer[j]]:=by
 unfold Znc
 rw[List.take_succ_eq_append_getElem h,List.map_append,List.append_assoc]
 rfl
theorem Zg0(sig:List TControl)(b:TBigraph)(s:ByteArray)(hn:sig.length<=4294967296)(hbs:∀ y∈sig,Zp 4294967296 y)(hb:Zt 4294967296 b)(hf:ZB b)(hno:¬ (bigOK sig b/\s∈b.outer))(lvl:Nat)(S:Sto):Sem Proofs.Tryz.prog JP lvl [.tr (.sl (sig.map Zh)),.ag ((Zb b).map .tr),iS s] S (.tu [Zi J3,iB false]) S:=by
 refine Zc Zaf (by simp [Zi,low,men,Zd]) ?_
 simp only[Wt,Zb,EVA,seval,Zd,men]
 refine Za (DP b.outer s (by have:=hb.2.2.2.1;omega)) ?_
 simp only[Zb,EVA,seval,Zd,men]
 refine Za (XU sig b hn hbs hb hf) ?_
 cases h1:dc (bigOK sig b)
 ·simp only[EVA,seval,Zd,men]
  rfl
 have hG:=dc_iff.1 h1
 have hm:s ∉ b.outer:=fun g=>hno ⟨hG,g⟩
 have e:=Zml hm
 simp only[e,EVA,seval,Zd,men]
 rfl
theorem Di(sig:List TControl)(b:TBigraph)(s:ByteArray)(hn:sig.length<=4294967296)(hbs:∀ y∈sig,Zp 4294967296 y)(hb:Zt 4294967296 b)(hf:ZB b)(hG:bigOK sig b)(hM:s∈b.outer)
  (lvl:Nat) (S:Sto):Sem Proofs.Tryz.prog JP lvl [.tr (.sl (sig.map Zh)),.ag ((Zb b).map .tr),iS s] S (.tu [@ite IV (bigOK sig (XB b s)) (Classical.propDecidable _) (.ag ((Zb (XB b s)).map .tr)) (Zi J3),iB (dc (bigOK sig (XB b s)))]) S:=by
 have hsm:=hG.small
 have s4:=hsm.outer
 have he:=hG.edges
 have hp:=ZiO hG.outer
 have hix:=ixS_nn.2 hM
 have hle:(QQ b.outer s).length<=16:=Nat.le_trans (List.length_filter_le ..) s4
 refine Zc Zaf (by split <;> simp [Zi,Zb,low,men,Zd]) ?_
 simp only[Wt,Zb,EVA,seval,Zd,men]
 refine Za (DP b.outer s (by omega)) ?_
 simp only[Zb,EVA,seval,Zd,men]
 refine Za (XU sig b hn hbs hb hf) ?_
 rw[ZN hG]
 have hnl:¬ ixS b.outer s<0:=by omega
 simp only[hnl,Zb,EVA,seval,Zd,men]
 refine Za (Zm7 b.outer s (by omega)) ?_
 simp only[Zb,EVA,seval,Zd,men]
 obtain⟨n,hn2⟩:∃ n:Nat,b.edges=n:=⟨b.edges.toNat,by omega⟩
 have qE:=Uh 0 n (by omega) (by omega)
 obtain⟨g,hg⟩:∃ g:ByteArray->Int,g=fun x=>if x=s then b.edges else b.edges+1+ixS (QQ b.outer s) x:=⟨_,rfl⟩
 have e0:Ur 0 n=Znc b g 0:=by
  unfold Znc
  rw[Zhw,show b.edges.toNat=n from by omega]
  simp
 rw[<-hn2,e0] at qE
 refine Za qE ?_
 simp only[List.length_map,EVA,seval,Zd,men]
 refine Zz (α:=Unit) b.outer.length (fun j _=>[(10,.hd (lvl,992) [] 0 (Znc b g j).length none (Znc b g j).length),(11,iI j)]) (fun j _=>[(992,.ar 1 (rI (Znc b g j)) true (Znc b g j).length 0)]) (fun _ _=>True) () (by simp only[EVA,seval,Zd,men]) (by (simp only[EVA,seval,Zd,men]) <;> rfl) trivial ?_
 intro j _ hj _
 simp only[List.length_map,EVA,seval,Zd,men]
 refine Zl (fun hlt=>?_) (fun hge=>?_)
 ·have hja:j<b.outer.length:=by omega
  have ga:=ZeN (e0:=e0S) (c:=fun n:ByteArray=>[ts n]) hja
  rw[XV hja] at ga
  have htl:=Zq7 (b:=b) (g:=g) hj
  have hs:=ZoZ (b:=b) (g:=g) hja
  have hiff:=ZtO hp hM hja
  by_cases hx:b.outer[j]=s
  ·have hx2:=hiff.2 hx
   have hgx:g b.outer[j]=b.edges:=by rw[hg];simp [hx]
   rw[hgx] at hs
   have hx3:ixS b.outer s=(j:Int):=hx2.symm
   simp only[hx3,List.length_map,EVA,seval,Zd,men]
   exact⟨by omega,by rw[Ze];omega,Zf () hja (by rw[hs,List.length_append,YA];rfl) trivial⟩
  ·have hx3:¬ (j:Int)=ixS b.outer s:=fun e=>hx (hiff.1 e)
   have hgx:g b.outer[j]=b.edges+1+ixS (QQ b.outer s) b.outer[j]:=by rw[hg];simp [hx]
   rw[hgx] at hs
   have hm:b.outer[j]∈QQ b.outer s:=lessN_mem.2 ⟨List.getElem_mem hja,hx⟩
   have:=ixS_nn.2 hm
   have:=Zmm hm
   simp only[hx3,ga,hja,List.length_map,EVA,seval,Zd,men]
   refine⟨by rw[Ze];omega,?_⟩
   refine Za (DP (QQ b.outer s) b.outer[j] (by omega)) ?_
   simp only[List.length_map,EVA,seval,Zd,men]
   have:(QQ b.outer s).length<=16:=hle
   exact⟨by rw[Ze];omega,by omega,by rw[Ze];omega,Zf () hja (by rw[hs,List.length_append,YA];rfl) trivial⟩
 ·have:j=b.outer.length:=by omega
  subst this
  have hfin:Znc b g b.outer.length=Dh b s:=by rw[hg,Znc,List.take_length];rfl
  rw[hfin]
  refine⟨by rw[Ze];omega,?_⟩
  rw[show cut (rI (Dh b s)) 0 (Dh b s).length=rI (Dh b s) from Yg (by rw[List.length_map])]
  have qR:=Zkb sig b hG (Dh b s) (b.edges+1) (QQ b.outer s) hb (fun l hl=>by rw[Zna he.1];have:=hl.2;omega) (by omega)
  rw[show U1 b (fun l=>g0 (Dh b s) l.toNat) (b.edges+1) (QQ b.outer s)=XB b s from rfl] at qR
  simp only[Zb,List.map_cons,List.map_nil] at qR
  refine Za qR ?_
  simp only[Zi,Zb,List.length_map,EVA,seval,Zd,men]
  by_cases hq:bigOK sig (XB b s)
  ·have qG:=Zez sig (XB b s) hn hbs (QT (by omega) (ZiQ hG hb)) (ZiR hG hf) hq
   simp only[Zb,List.map_cons,List.map_nil] at qG
   rw[if_pos hq,ZN hq]
   refine Za qG ?_
   simp only[Zi,Zb,List.length_map,EVA,seval,Zd,men]
  ·have qG:=ZeA sig (XB b s) hn hbs (QT (by omega) (ZiQ hG hb)) (ZiR hG hf) hq
   simp only[Zb,List.map_cons,List.map_nil] at qG
   rw[if_neg hq,Zj hq]
   refine Za qG ?_
   simp only[Zi,Zb,List.length_map,EVA,seval,Zd,men]
   try rfl
theorem Zbv(sig:List TControl)(b:TBigraph)(s:ByteArray)(hn:sig.length<=4294967296)(hbs:∀ y∈sig,Zp 4294967296 y)(hb:Zt 4294967296 b)(_hs:s.size<=4294967296)(hf:ZB b)(hB:QR sig b s)(lvl:Nat)(S:Sto):Sem Proofs.Tryz.prog JP lvl [.tr (.sl (sig.map Zh)),.ag ((Zb b).map .tr),iS s] S (.tu [.ag ((Zb (J4 sig b s)).map .tr),iB (J5 sig b s)]) S:=by
 have h:=Di sig b s hn hbs hb hf hB.1 hB.2.1 lvl S
 unfold J4 J5
 rw[if_pos hB,ZN hB]
 rw[if_pos hB.2.2,ZN hB.2.2] at h
 exact h
theorem Zbw(sig:List TControl)(b:TBigraph)(s:ByteArray)(hn:sig.length<=4294967296)(hbs:∀ y∈sig,Zp 4294967296 y)(hb:Zt 4294967296 b)(_hs:s.size<=4294967296)(hf:ZB b)(hB:¬ QR sig b s)(lvl:Nat)(S:Sto):Sem Proofs.Tryz.prog JP lvl [.tr (.sl (sig.map Zh)),.ag ((Zb b).map .tr),iS s] S (.tu [Zi (J4 sig b s),iB (J5 sig b s)]) S:=by
 unfold J4 J5
 rw[if_neg hB,Zj hB]
 by_cases hl:bigOK sig b/\s∈b.outer
 ·have h:=Di sig b s hn hbs hb hf hl.1 hl.2 lvl S
  have hq:¬ bigOK sig (XB b s):=fun g=>hB ⟨hl.1,hl.2,g⟩
  rw[if_neg hq,Zj hq] at h
  exact h
 ·exact Zg0 sig b s hn hbs hb hf hl lvl S
end Go.Fd

/-
  TWO NAMES BECOME ONE: THE PROGRAM'S SIDE; A COPY BY NUMBERING ANEW. Own work.
-/
namespace Go.Fd
set_option maxRecDepth 20000
theorem ZiS{n k:Nat}(h:k<n):g0 (Wz n) k=k:=by
 show (Wz n).getD k 0=_
 rw[List.getD_eq_getElem?_getD,Wz,List.getElem?_map,List.getElem?_range h]
 simp
theorem Zdg(p:Int)(n:Nat)(h:p<n)(lvl:Nat)(S:Sto):Sem Proofs.Tryz.prog Xp lvl [iI p,tI (Wz n)] S (iI p) S:=by
 refine Zc Ziu trivial ?_
 simp only[ZcP,EVA,seval,Zd,men]
 refine Zl (fun hlt=>?_) (fun hge=>?_)
 ·trivial
 ·obtain⟨k,rfl⟩:∃ k:Nat,p=k:=⟨p.toNat,by omega⟩
  have hk:k<(Wz n).length:=by rw[Y8];omega
  have ga:=V5 hk
  rw[ZiS (by omega)] at ga
  simp only[ga,EVA,seval,Zd,men]
  try rfl
theorem ZeB(b:TBigraph)(l:Int)(n:Nat)(hn:b.edges=n)(h:0<=l)(lvl:Nat)(S:Sto):Sem Proofs.Tryz.prog X2 lvl [.ag ((Zb b).map .tr),iI l,tI (Wz n)] S (iI l) S:=by
 refine Zc ZjU trivial ?_
 simp only[Zer,Zb,hn,EVA,seval,Zd,men]
 refine Zl (fun hlt=>?_) (fun hge=>?_)
 ·trivial
 ·obtain⟨k,rfl⟩:∃ k:Nat,l=k:=⟨l.toNat,by omega⟩
  have hk:k<(Wz n).length:=by rw[Y8];omega
  have ga:=V5 hk
  rw[ZiS (by omega)] at ga
  simp only[ga,EVA,seval,Zd,men]
  try rfl
def Zcc(l:List TNode)(j:Nat):Row:=(l.take j).map ZX++List.replicate (l.length-j) [tv 0,tv 0,Tr.sl []]
theorem ZtP{l:List TNode}:List.replicate l.length [tv 0,tv 0,Tr.sl []]=Zcc l 0:=by simp [Zcc]
theorem ZtQ{l:List TNode}:Zcc l l.length=l.map ZX:=by simp [Zcc]
theorem Zo0{l:List TNode}{j:Nat}(h:j<=l.length):(Zcc l j).length=l.length:=by simp [Zcc];omega
theorem Zo1{l:List TNode}{j:Nat}(h:j<l.length):(Zcc l j)[j]? = some [tv 0,tv 0,Tr.sl []]:=by
 have:(((l.take j).map ZX)).length=j:=by rw[List.length_map,List.length_take];omega
 rw[Zcc,List.getElem?_append_right (by omega),this,List.getElem?_replicate]
 rw[if_pos (by omega)]
theorem Zo2{l:List TNode}{j:Nat}(h:j<l.length):(Zcc l j).set j (ZX l[j])=Zcc l (j+1):=by
 have e:(((l.take j).map ZX)).length=j:=by rw[List.length_map,List.length_take];omega
 rw[Zcc,List.set_append_right _ _ (by omega),e,Nat.sub_self]
 rw[show l.length-j=(l.length-(j+1))+1 by omega,List.replicate_succ,List.set_cons_zero,Zcc,List.take_succ_eq_append_getElem h,List.map_append,List.append_assoc]
 rfl
theorem ZiT{R:Row}{j k:Nat}{e:List Tr}{t:Tr}(h:R[j]? = some e):YU R [] j k t=R.set j (e.set k t):=by
 simp only[YU,h]
theorem ZiU{R:Row}{j:Nat}{e:List Tr}(h:j<R.length):(R.set j e)[j]? = some e:=List.getElem?_set_self h
theorem ZdZ(b:TBigraph)(n E:Nat)(hn:b.nodes.length=n)(hE:b.edges=E)(hbd:Zt 4294967290 b)(hE2:E<=4294967290)(hp:∀ x∈b.nodes,x.parent<n/\∀ l∈x.links,0<=l)(hs:∀ p∈b.sites,p<n)(hw:∀ w∈b.inner,0<=w.link)(lvl:Nat)(S:Sto):Sem Proofs.Tryz.prog QL lvl [.ag ((Zb b).map .tr),tI (Wz n),tI (Wz E)] S (Zi b) S:=by
 refine Zc ZdP (by simp [Zi,low,men,Zd]) ?_
 simp only[Db,Zb,ZnN,ZnO,Nat.zero_max,List.length_map,EVA,seval,Zd,men]
 obtain⟨b1,b2,b3,b4,b5,b6,b7⟩:=hbd
 refine⟨by omega,by omega,?_⟩
 refine Zz (α:=Unit) b.nodes.length (fun j _=>[(8,iI j)]) (fun j _=>[(576,.ar 3 (Zcc b.nodes j) true b.nodes.length j)]) (fun _ _=>True) () (by simp only[EVA,seval,Zd,men]) (by (simp only[ZtP,EVA,seval,Zd,men]) <;> rfl) trivial ?_
 intro j _ hj _
 simp only[List.length_map,EVA,seval,Zd,men]
 refine Zl (fun hlt=>?_) (fun hge=>?_)
 ·have hja:j<b.nodes.length:=by omega
  have ga:=WH (c:=ZX) hja
  have hkl:b.nodes[j].links.length<=4294967290:=b2 _ (List.getElem_mem hja)
  obtain⟨p1,p2⟩:=hp _ (List.getElem_mem hja)
  refine Zz (α:=Unit) b.nodes[j].links.length (fun k _=>[(9,.hd (lvl,1056) [] 0 k none k),(10,iI k)]) (fun k _=>[(1056,.ar 1 (rI (b.nodes[j].links.take k)) true k 0)]) (fun _ _=>True) () (by simp only[EVA,seval,Zd,men]) (by (simp only[EVA,seval,Zd,men]) <;> rfl) trivial ?_
  intro k _ hk _
  simp only[ga,ZX,List.length_map,EVA,seval,Zd,men]
  refine Zl (fun hlt2=>?_) (fun hge2=>?_)
  ·have hka:k<b.nodes[j].links.length:=by omega
   have gl:=V5 hka
   have e0:g0 b.nodes[j].links k=b.nodes[j].links[k]:=by simp [hka]
   have hq:=p2 _ (List.getElem_mem hka)
   rw[<-e0] at hq
   have hl3:(b.nodes[j].links.take k).length=k:=by rw[List.length_take];omega
   have hs:rI (b.nodes[j].links.take k)++[[tv (g0 b.nodes[j].links k)]]=rI (b.nodes[j].links.take (k+1)):=by
    rw[List.take_succ_eq_append_getElem hka,YA,<-e0]
    rfl
   simp only[ga,ZX,gl,hka,hl3,hs,List.length_map,EVA,seval,Zd,men]
   have q:=ZeB b (g0 b.nodes[j].links k) E hE hq
   simp only[Zb,List.map_cons,List.map_nil] at q
   refine Za q ?_
   simp only[ga,ZX,gl,hka,hl3,hs,List.length_map,EVA,seval,Zd,men]
   exact⟨by omega,by rw[Ze];omega,Zf () hka rfl trivial⟩
  ·have:k=b.nodes[j].links.length:=by omega
   subst this
   rw[List.take_length]
   rw[<-hn] at p1
   have hj2:(Wz n).length=n:=Y8
   have gu:=V5 (l:=Wz n) (i:=j) (by omega)
   rw[ZiS (by omega)] at gu
   have q:=Zdg b.nodes[j].parent n (by omega)
   have g1:=Zo1 hja
   have hfl:=Zo0 (Nat.le_of_lt hja)
   have hst:=Zo2 hja
   simp only[ga,ZX,gu,g1,hja,List.length_map,EVA,seval,Zd,men]
   refine Za q ?_
   have t1:=ZiT (k:=0) (t:=Tr.v (.int .i64 b.nodes[j].control)) g1
   simp only[List.set_cons_zero] at t1
   have t2:=ZiT (k:=1) (t:=Tr.v (.int .i64 b.nodes[j].parent)) (ZiU (e:=[Tr.v (.int .i64 b.nodes[j].control),tv 0,Tr.sl []]) (by rw[hfl];exact hja))
   simp only[List.set_cons_zero,List.set_cons_succ,List.set_set] at t2
   have t3:=ZiT (k:=2) (t:=Tr.sl (rI b.nodes[j].links)) (ZiU (e:=[Tr.v (.int .i64 b.nodes[j].control),Tr.v (.int .i64 b.nodes[j].parent),Tr.sl []]) (by rw[hfl];exact hja))
   simp only[List.set_cons_zero,List.set_cons_succ,List.set_set] at t3
   have hst':(Zcc b.nodes j).set j [Tr.v (.int .i64 b.nodes[j].control),Tr.v (.int .i64 b.nodes[j].parent),Tr.sl (rI b.nodes[j].links)]=Zcc b.nodes (j+1):=hst
   rw[hst'] at t3
   have g2:=ZiU (e:=[Tr.v (.int .i64 b.nodes[j].control),tv 0,Tr.sl []]) (by rw[hfl];exact hja)
   have g3:=ZiU (e:=[Tr.v (.int .i64 b.nodes[j].control),Tr.v (.int .i64 b.nodes[j].parent),Tr.sl []]) (by rw[hfl];exact hja)
   simp only[ga,ZX,gu,g1,g2,g3,t1,t2,t3,hja,List.length_map,EVA,seval,Zd,men]
   exact⟨by rw[Ze];omega,Zf () hja rfl trivial⟩
 ·have:j=b.nodes.length:=by omega
  subst this
  rw[ZtQ]
  refine Zz (α:=Unit) b.sites.length (fun j _=>[(11,iI j)]) (fun j _=>[(224,.bx [iI b.roots,.hd (lvl,576) [] 0 b.nodes.length none b.nodes.length,.hd (lvl,800) [] 0 j none j,iI b.edges,.hd (lvl,672) [] 0 b.outer.length none b.outer.length,.hd (lvl,801) [] 0 0 none 0]),(800,.ar 1 (rI (b.sites.take j)) true j 0)]) (fun _ _=>True) () (by simp only[EVA,seval,Zd,men]) (by (simp only[EVA,seval,Zd,men]) <;> rfl) trivial ?_
  intro j _ hj _
  simp only[List.length_map,EVA,seval,Zd,men]
  refine Zl (fun hlt=>?_) (fun hge=>?_)
  ·have hja:j<b.sites.length:=by omega
   have ga:=V5 hja
   have e0:g0 b.sites j=b.sites[j]:=by simp [hja]
   have hq:=hs _ (List.getElem_mem hja)
   rw[<-e0] at hq
   have hl3:(b.sites.take j).length=j:=by rw[List.length_take];omega
   have hs:rI (b.sites.take j)++[[tv (g0 b.sites j)]]=rI (b.sites.take (j+1)):=by
    rw[List.take_succ_eq_append_getElem hja,YA,<-e0]
    rfl
   simp only[ga,hja,hl3,hs,List.length_map,EVA,seval,Zd,men]
   refine Za (Zdg (g0 b.sites j) n hq) ?_
   simp only[ga,hja,hl3,hs,List.length_map,EVA,seval,Zd,men]
   exact⟨by omega,by rw[Ze];omega,Zf () hja rfl trivial⟩
  ·have:j=b.sites.length:=by omega
   subst this
   rw[List.take_length]
   refine Zz (α:=Unit) b.inner.length (fun j _=>[(12,iI j)]) (fun j _=>[(224,.bx [iI b.roots,.hd (lvl,576) [] 0 b.nodes.length none b.nodes.length,.hd (lvl,800) [] 0 b.sites.length none b.sites.length,iI b.edges,.hd (lvl,672) [] 0 b.outer.length none b.outer.length,.hd (lvl,801) [] 0 j none j]),(801,.ar 2 ((b.inner.take j).map Ji) true j 0)]) (fun _ _=>True) () (by simp only[EVA,seval,Zd,men]) (by (simp only[EVA,seval,Zd,men]) <;> rfl) trivial ?_
   intro j _ hj _
   simp only[List.length_map,EVA,seval,Zd,men]
   refine Zl (fun hlt=>?_) (fun hge=>?_)
   ·have hja:j<b.inner.length:=by omega
    have ga:=WH (c:=Ji) hja
    have hq:=hw _ (List.getElem_mem hja)
    have hl3:(b.inner.take j).length=j:=by rw[List.length_take];omega
    have hs:(b.inner.take j).map Ji++[[ts b.inner[j].name,tv b.inner[j].link]]=(b.inner.take (j+1)).map Ji:=by
     rw[List.take_succ_eq_append_getElem hja,List.map_append]
     rfl
    simp only[ga,Ji,hja,hl3,hs,List.length_map,EVA,seval,Zd,men]
    have q:=ZeB b b.inner[j].link E hE hq
    simp only[Zb,List.map_cons,List.map_nil] at q
    refine Za q ?_
    simp only[ga,Ji,hja,hl3,hs,List.length_map,EVA,seval,Zd,men]
    exact⟨by omega,by rw[Ze];omega,Zf () hja rfl trivial⟩
   ·have:j=b.inner.length:=by omega
    subst this
    rw[List.take_length]
    exact⟨rfl,rfl⟩
theorem Zgi(b:TBigraph)(E:Nat)(hE:b.edges=E)(hbd:Zt 4294967290 b)(hE2:E<=4294967290)(hp:∀ x∈b.nodes,x.parent<b.nodes.length/\∀ l∈x.links,0<=l)(hs:∀ p∈b.sites,p<b.nodes.length)(hw:∀ w∈b.inner,0<=w.link)(lvl:Nat)(S:Sto):Sem Proofs.Tryz.prog Vg lvl [.ag ((Zb b).map .tr)] S (Zi b) S:=by
 refine Zc ZjP (by simp [Zi,low,men,Zd]) ?_
 simp only[Zel,Zb,List.length_map,EVA,seval,Zd,men]
 have b1:=hbd.1
 refine Zz (α:=Unit) b.nodes.length (fun j _=>[(3,.hd (lvl,224) [] 0 j none j),(5,iI j)]) (fun j _=>[(224,.ar 1 (rI (Wz j)) true j 0)]) (fun _ _=>True) () (by simp only[EVA,seval,Zd,men]) (by (simp only[EVA,seval,Zd,men]) <;> rfl) trivial ?_
 intro j _ hj _
 simp only[List.length_map,EVA,seval,Zd,men]
 refine Zl (fun hlt=>?_) (fun hge=>?_)
 ·have hja:j<b.nodes.length:=by omega
  have hl:(Wz j).length=j:=Y8
  have hs:rI (Wz j)++[[tv (j:Int)]]=rI (Wz (j+1)):=by simp [Wz,rI,List.range_succ]
  simp only[hja,hl,hs,List.length_map,EVA,seval,Zd,men]
  exact⟨by omega,by rw[Ze];omega,Zf () hja rfl trivial⟩
 ·have:j=b.nodes.length:=by omega
  subst this
  refine Zz (α:=Unit) E (fun j _=>[(4,.hd (lvl,256) [] 0 j none j),(6,iI j)]) (fun j _=>[(256,.ar 1 (rI (Wz j)) true j 0)]) (fun _ _=>True) () (by simp only[EVA,seval,Zd,men]) (by (simp only[EVA,seval,Zd,men]) <;> rfl) trivial ?_
  intro j _ hj _
  simp only[hE,List.length_map,EVA,seval,Zd,men]
  refine Zl (fun hlt=>?_) (fun hge=>?_)
  ·have hja:j<E:=by omega
   have hl:(Wz j).length=j:=Y8
   have hs:rI (Wz j)++[[tv (j:Int)]]=rI (Wz (j+1)):=by simp [Wz,rI,List.range_succ]
   simp only[hja,hl,hs,List.length_map,EVA,seval,Zd,men]
   exact⟨by omega,by rw[Ze];omega,Zf () hja rfl trivial⟩
  ·have:j=E:=by omega
   subst this
   have l1:(Wz b.nodes.length).length=b.nodes.length:=Y8
   have l2:(Wz j).length=j:=Y8
   have q:=ZdZ b b.nodes.length j rfl hE hbd hE2 hp hs hw
   simp only[Zb,List.map_cons,List.map_nil,hE] at q
   rw[show cut (rI (Wz b.nodes.length)) 0 b.nodes.length=rI (Wz b.nodes.length) from Yg (by rw[List.length_map,l1]),show cut (rI (Wz j)) 0 j=rI (Wz j) from Yg (by rw[List.length_map,l2])]
   refine⟨by omega,by omega,Za q ?_⟩
   simp only[Zi,hE,List.length_map,EVA,seval,Zd,men]
   try rfl
theorem Znd{F:Int->Int}{l:List TNode}{j:Nat}(h:j<l.length):(Y9 F l j).set j ⟨l[j].control,l[j].parent,YJ F l[j].links 0⟩=Y9 F l j:=by
 have:(⟨l[j].control,l[j].parent,YJ F l[j].links 0⟩:TNode)=l[j]:=by simp [YJ]
 rw[this]
 have hl:j<(Y9 F l j).length:=by rw[Zdc];exact h
 have e:l[j]=(Y9 F l j)[j]:=by
  have:=Zgd (F:=F) h
  rw[List.getElem?_eq_getElem hl] at this
  exact(Option.some.inj this).symm
 rw[e]
 exact List.set_getElem_self hl
theorem Zne{F:Int->Int}{l:List Int}{k:Nat}(h:k<l.length)(hf:F (g0 l k)=g0 l k):YJ F l (k+1)=YJ F l k:=by
 rw[<-Zgc h,hf]
 have e:g0 l k=(YJ F l k)[k]'(by rw[ZaX];exact h):=by
  have:=Zgb (F:=F) h
  rw[<-this]
  simp [ZaX,h]
 rw[e]
 exact List.set_getElem_self _
theorem Znf{F:Int->Int}{l:List TWire}{j:Nat}(h:j<l.length)(hf:F l[j].link=l[j].link):Uj F l (j+1)=Uj F l j:=by
 rw[<-Zgf h]
 have hl:j<(Uj F l j).length:=by rw[ZoX];exact h
 have e:Zbk F l[j]=(Uj F l j)[j]:=by
  have:=Zge (F:=F) h
  rw[List.getElem?_eq_getElem hl] at this
  rw[Option.some.inj this,Zbk,hf]
 rw[e]
 exact List.set_getElem_self hl
def Zp3(b:TBigraph)(names o:List ByteArray)(l:Int):Int:=if b.edges<=l then b.edges+ixS o (gS names (l-b.edges).toNat) else l
theorem Zlg(b:TBigraph)(names o:List ByteArray)(E:Nat)(hE:b.edges=E)(hbd:Zt 4294967290 b)(hE2:E<=4294967290)(hp:∀ x∈b.nodes,x.parent<b.nodes.length/\∀ l∈x.links,0<=l/\l<E+names.length)(hs:∀ p∈b.sites,p<b.nodes.length)(hw:∀ w∈b.inner,0<=w.link/\w.link<E+names.length)(hn:names.length<=4294967290)(ho:o.length<=4294967290)(lvl:Nat)(S:Sto):Sem Proofs.Tryz.prog QD lvl [.ag ((Zb b).map .tr),.tr (.sl (rS names)),.tr (.sl (rS o))] S (Zi (U1 b (Zp3 b names o) b.edges o)) S:=by
 refine Zc ZgR (by simp [Zi,low,men,Zd]) ?_
 simp only[ZbR,Zb,List.length_map,EVA,seval,Zd,men]
 have q:=Zgi b E hE hbd hE2 (fun x hx=>⟨(hp x hx).1,fun l hl=>((hp x hx).2 l hl).1⟩) hs (fun w hh=>(hw w hh).1)
 simp only[Zb,List.map_cons,List.map_nil] at q
 refine Za q ?_
 simp only[Zi,Zb,ZnN,ZnO,Nat.zero_max,List.length_map,EVA,seval,Zd,men]
 obtain⟨b1,b2,b3,b4,b5,b6,b7⟩:=hbd
 refine⟨by omega,?_⟩
 have hFdef:∃ F,F=Zp3 b names o:=⟨_,rfl⟩
 obtain⟨F,hF⟩:=hFdef
 rw[<-hF]
 refine Zz (α:=Unit) b.nodes.length (fun j _=>[(8,iI j)]) (fun j _=>[(448,.ar 3 ((Y9 F b.nodes j).map ZX) true b.nodes.length 0)]) (fun _ _=>True) () (by simp only[Jp,EVA,seval,Zd,men]) (by (simp only[EVA,seval,Zd,men]) <;> rfl) trivial ?_
 intro j _ hj _
 simp only[List.length_map,EVA,seval,Zd,men]
 refine Zl (fun hlt=>?_) (fun hge=>?_)
 ·have hja:j<b.nodes.length:=by omega
  have gp:=Zgd (F:=F) hja
  have ga:((Y9 F b.nodes j).map ZX)[j]? = some [Tr.v (.int .i64 b.nodes[j].control),Tr.v (.int .i64 b.nodes[j].parent),Tr.sl (rI b.nodes[j].links)]:=by rw[List.getElem?_map,gp];rfl
  have hkl:b.nodes[j].links.length<=4294967290:=b2 _ (List.getElem_mem hja)
  have e0:(Y9 F b.nodes j).set j ⟨b.nodes[j].control,b.nodes[j].parent,YJ F b.nodes[j].links 0⟩=Y9 F b.nodes j:=Znd hja
  refine Zz (α:=Unit) b.nodes[j].links.length (fun k _=>[(9,iI k)]) (fun k _=>[(448,.ar 3 (((Y9 F b.nodes j).set j ⟨b.nodes[j].control,b.nodes[j].parent,YJ F b.nodes[j].links k⟩).map ZX) true b.nodes.length 0)]) (fun _ _=>True) () (by simp only[Jp,EVA,seval,Zd,men]) (by (simp only[e0,EVA,seval,Zd,men]) <;> rfl) trivial ?_
  intro k _ hk _
  have gq:((Y9 F b.nodes j).set j ⟨b.nodes[j].control,b.nodes[j].parent,YJ F b.nodes[j].links k⟩)[j]? = some ⟨b.nodes[j].control,b.nodes[j].parent,YJ F b.nodes[j].links k⟩:=by
   rw[List.getElem?_set_self (by rw[Zdc];exact hja)]
  have hgp:(((Y9 F b.nodes j).set j ⟨b.nodes[j].control,b.nodes[j].parent,YJ F b.nodes[j].links k⟩).map ZX)[j]? = some [Tr.v (.int .i64 b.nodes[j].control),Tr.v (.int .i64 b.nodes[j].parent),Tr.sl (rI (YJ F b.nodes[j].links k))]:=by rw[List.getElem?_map,gq];rfl
  simp only[hgp,hja,List.length_map,EVA,seval,Zd,men]
  refine Zl (fun hlt2=>?_) (fun hge2=>?_)
  ·have hpl:=ZaX (F:=F) (l:=b.nodes[j].links) (k:=k)
   have hka:k<b.nodes[j].links.length:=by omega
   have gk:(rI (YJ F b.nodes[j].links k))[k]? = some [tv (g0 b.nodes[j].links k)]:=by rw[V5 (by omega),Zgb hka]
   have hlk:=(hp _ (List.getElem_mem hja)).2 _ (show g0 b.nodes[j].links k∈b.nodes[j].links by simp [hka])
   have hsp:=Zr4 (v:=F (g0 b.nodes[j].links k)) gq (k:=k) (by show k<(YJ F b.nodes[j].links k).length;omega)
   have hst:((Y9 F b.nodes j).set j ⟨b.nodes[j].control,b.nodes[j].parent,YJ F b.nodes[j].links k⟩).set j ⟨b.nodes[j].control,b.nodes[j].parent,(YJ F b.nodes[j].links k).set k (F (g0 b.nodes[j].links k))⟩=(Y9 F b.nodes j).set j ⟨b.nodes[j].control,b.nodes[j].parent,YJ F b.nodes[j].links (k+1)⟩:=by
    rw[List.set_set,Zgc hka]
   rw[hst] at hsp
   simp only[hgp,gk,hja,hka,hpl,Nat.zero_add,List.length_map,EVA,seval,Zd,men]
   refine Zl (fun hl1=>?_) (fun hl1=>?_)
   ·obtain⟨i,hi⟩:∃ i:Nat,g0 b.nodes[j].links k-b.edges=i:=⟨(g0 b.nodes[j].links k-b.edges).toNat,by omega⟩
    have hin:i<names.length:=by omega
    have gn:=ZeN (e0:=e0S) (c:=fun n:ByteArray=>[ts n]) hin
    have hFe:F (g0 b.nodes[j].links k)=b.edges+ixS o (gS names i):=by rw[hF,Zp3,if_pos hl1,hi,Int.toNat_natCast]
    have x1:=Zga (l:=o) (s:=gS names i)
    have x2:=Zey (l:=o) (s:=gS names i)
    rw[hFe] at hsp
    simp only[hgp,gk,hja,hka,hpl,hi,gn,hin,Nat.zero_add,List.length_map,EVA,seval,Zd,men]
    refine⟨by rw[Ze];omega,?_⟩
    refine Za (DP o (gS names i) (by omega)) ?_
    simp only[hgp,gk,hja,hka,hpl,hsp,Jp,Nat.zero_add,List.length_map,EVA,seval,Zd,men]
    exact⟨by rw[Ze];omega,by rw[Ze];omega,Zf () hka rfl trivial⟩
   ·have hFe:F (g0 b.nodes[j].links k)=g0 b.nodes[j].links k:=by rw[hF,Zp3,if_neg hl1]
    exact⟨by rw[Ze];omega,Zf () hka (by rw[Zne hka hFe];rfl) trivial⟩
  ·have:k=b.nodes[j].links.length:=by
    have hpl:=ZaX (F:=F) (l:=b.nodes[j].links) (k:=k)
    omega
   subst this
   have hst:(Y9 F b.nodes j).set j ⟨b.nodes[j].control,b.nodes[j].parent,YJ F b.nodes[j].links b.nodes[j].links.length⟩=Y9 F b.nodes (j+1):=by
    rw[<-Zka hja]
    congr 1
    simp [Zle,YJ]
   rw[hst]
   exact⟨by rw[Ze];omega,Zf () hja rfl trivial⟩
 ·have:j=b.nodes.length:=by omega
  subst this
  have hpn:Y9 F b.nodes b.nodes.length=(U1 b F b.edges o).nodes:=by simp [Y9,U1,Zle]
  rw[hpn]
  refine Zz (α:=Unit) b.inner.length (fun j _=>[(11,iI j)]) (fun j _=>[(451,.ar 2 ((Uj F b.inner j).map Ji) true b.inner.length 0)]) (fun _ _=>True) () (by simp only[Jp,EVA,seval,Zd,men]) (by (simp only[EVA,seval,Zd,men]) <;> rfl) trivial ?_
  intro j _ hj _
  simp only[List.length_map,EVA,seval,Zd,men]
  refine Zl (fun hlt=>?_) (fun hge=>?_)
  ·have hja:j<b.inner.length:=by omega
   have gp:=Zge (F:=F) hja
   have ga:((Uj F b.inner j).map Ji)[j]? = some [ts b.inner[j].name,tv b.inner[j].link]:=by rw[List.getElem?_map,gp];rfl
   have hsp:YU ((Uj F b.inner j).map Ji) [] j 1 (.v (.int .i64 (F b.inner[j].link)))=(Uj F b.inner (j+1)).map Ji:=by
    simp only[YU]
    rw[ga,<-Zgf hja,List.map_set]
    rfl
   have hlk:=hw _ (List.getElem_mem hja)
   simp only[ga,hja,Nat.zero_add,List.length_map,EVA,seval,Zd,men]
   refine Zl (fun hl1=>?_) (fun hl1=>?_)
   ·obtain⟨i,hi⟩:∃ i:Nat,b.inner[j].link-b.edges=i:=⟨(b.inner[j].link-b.edges).toNat,by omega⟩
    have hin:i<names.length:=by omega
    have gn:=ZeN (e0:=e0S) (c:=fun n:ByteArray=>[ts n]) hin
    have hFe:F b.inner[j].link=b.edges+ixS o (gS names i):=by rw[hF,Zp3,if_pos hl1,hi,Int.toNat_natCast]
    have x1:=Zga (l:=o) (s:=gS names i)
    have x2:=Zey (l:=o) (s:=gS names i)
    rw[hFe] at hsp
    simp only[ga,hja,hi,gn,hin,Nat.zero_add,List.length_map,EVA,seval,Zd,men]
    refine⟨by rw[Ze];omega,?_⟩
    refine Za (DP o (gS names i) (by omega)) ?_
    simp only[ga,hja,hsp,Jp,Nat.zero_add,List.length_map,EVA,seval,Zd,men]
    exact⟨by rw[Ze];omega,by rw[Ze];omega,Zf () hja rfl trivial⟩
   ·have hFe:F b.inner[j].link=b.inner[j].link:=by rw[hF,Zp3,if_neg hl1]
    exact⟨by rw[Ze];omega,Zf () hja (by rw[Znf hja hFe];rfl) trivial⟩
  ·have:j=b.inner.length:=by omega
   subst this
   have hpw:Uj F b.inner b.inner.length=(U1 b F b.edges o).inner:=by simp [Uj,U1,Zbk]
   rw[hpw]
   exact⟨by simp [U1],by simp [U1],rfl⟩
theorem UX{sig:List TControl}{b:TBigraph}(h:bigOK sig b){x:TNode}(hx:x∈b.nodes):x.parent<b.nodes.length/\∀ l∈x.links,0<=l/\l<b.edges+b.outer.length:=by
 obtain⟨k,hk,rfl⟩:=List.getElem_of_mem hx
 have q:=h.nodes k hk
 refine⟨?_,fun l hl=>?_⟩
 ·rcases q.par with p | p <;> omega
 ·have:=q.links l hl
  unfold ZV at this
  omega
theorem X6{sig:List TControl}{b:TBigraph}(h:bigOK sig b){p:Int}(hp:p∈b.sites):p<b.nodes.length:=by
 rcases h.sites p hp with q | q <;> omega
theorem Zng(sig:List TControl)(b:TBigraph)(h:bigOK sig b)(lvl:Nat)(S:Sto):Sem Proofs.Tryz.prog Vg lvl [.ag ((Zb b).map .tr)] S (Zi b) S:=by
 have he:=h.edges
 exact Zgi b b.edges.toNat (by omega) (QT (by omega) (XC h)) (by omega) (fun x hx=>⟨(UX h hx).1,fun l hl=>((UX h hx).2 l hl).1⟩) (fun p hp=>X6 h hp) (fun w hw=>(h.inner w hw).1) lvl S
theorem Zkc(sig:List TControl)(b:TBigraph)(h:bigOK sig b)(names o:List ByteArray)(hn:names.length=b.outer.length)(ho:o.length<=4294967290)(lvl:Nat)(S:Sto):Sem Proofs.Tryz.prog QD lvl [.ag ((Zb b).map .tr),.tr (.sl (rS names)),.tr (.sl (rS o))] S (Zi (U1 b (Zp3 b names o) b.edges o)) S:=by
 have he:=h.edges
 have h4:=h.small.outer
 refine Zlg b names o b.edges.toNat (by omega) (QT (by omega) (XC h)) (by omega) (fun x hx=>⟨(UX h hx).1,fun l hl=>?_⟩) (fun p hp=>X6 h hp) (fun w hw=>?_) (by omega) ho lvl S
 ·have:=(UX h hx).2 l hl
  omega
 ·have:=h.inner w hw
  unfold ZV at this
  omega
end Go.Fd

/-
  NAMES IN ORDER, AND THEIR LINKS, AS THE REFERENCE HAS THEM. Own work.
-/
namespace Go.Fd
set_option maxRecDepth 20000
theorem Zxj{O:List ByteArray}{x:ByteArray}{k:Nat}(hp:O.Pairwise ltS)(h1:∀ y∈O.take k,ltS y x)(h2:∀ y∈O.drop k,ltS x y):(O.take k++([x]++O.drop k)).Pairwise ltS:=by
 refine List.pairwise_append.2 ⟨hp.sublist (List.take_sublist ..),List.pairwise_append.2 ⟨List.pairwise_singleton ..,hp.sublist (List.drop_sublist ..),fun a ha b hb=>?_⟩,fun a ha b hb=>?_⟩
 ·rw[List.mem_singleton.1 ha];exact h2 b hb
 ·rcases List.mem_append.1 hb with hb | hb
  ·rw[List.mem_singleton.1 hb];exact h1 a ha
  ·have q:=hp
   rw[<-List.take_append_drop k O] at q
   exact(List.pairwise_append.1 q).2.2 a ha b hb
theorem ZiV{l:List ByteArray}:(Vt l).Pairwise ltS:=ZoP ordsS
theorem setS_mem{l:List ByteArray}{c:ByteArray}:c∈Vt l↔c∈l:=setG_mem
theorem Zbl{l:List ByteArray}:(Vt l).length<=l.length:=ZoQ
theorem Zmo{l:List ByteArray}{i k:Nat}(hi:i<l.length)(h1:∀ y∈(Vt (l.take i)).take k,ltS y l[i])(h2:∀ y∈(Vt (l.take i)).drop k,ltS l[i] y):Vt (l.take (i+1))=(Vt (l.take i)).take k++([l[i]]++(Vt (l.take i)).drop k):=by
 refine ZiL ordsS (Zxj ZiV h1 h2) fun c=>?_
 rw[List.take_succ_eq_append_getElem hi]
 have e:c∈Vt (l.take i)↔c∈l.take i:=setS_mem
 rw[<-List.take_append_drop k (Vt (l.take i)),List.mem_append] at e
 simp only[List.mem_append,<-e]
 constructor
 ·rintro((h | h) | h)
  ·exact .inl h
  ·exact .inr (.inr h)
  ·exact .inr (.inl h)
 ·rintro(h | h | h)
  ·exact .inl (.inl h)
  ·exact .inr h
  ·exact .inl (.inr h)
theorem Zo3{l:List ByteArray}{i:Nat}(hi:i<l.length)(h:l[i]∈Vt (l.take i)):Vt (l.take (i+1))=Vt (l.take i):=by
 refine ZiL ordsS ZiV fun c=>?_
 rw[List.take_succ_eq_append_getElem hi,List.mem_append,setS_mem]
 constructor
 ·rintro(h2 | h2)
  ·exact h2
  ·rw[List.mem_singleton.1 h2];exact setS_mem.1 h
 ·exact .inl
theorem Zxk{l:List ByteArray}{j:Nat}:cut (rS l) 0 (j-0)=rS (l.take j):=by simp [cut,rS,List.map_take]
theorem Zxl{l:List ByteArray}{j:Nat}:cut (rS l) j (l.length-j)=rS (l.drop j):=by
 simp only[cut,rS,<-List.map_drop]
 rw[<-List.map_take,List.take_of_length_le (by rw[List.length_drop];omega)]
theorem Zr5{a b:List ByteArray}{x:ByteArray}:rS a++[[Tr.v (Value.string x)]]++rS b=rS (a++([x]++b)):=by simp [rS]
theorem Zr6{a:List ByteArray}:(rS a).length=a.length:=by simp [rS]
theorem Zo4:Vt []=[]:=ZiL ordsS List.Pairwise.nil fun c=>Iff.rfl
theorem UI(l:List ByteArray)(hl:l.length<=4294967290)(lvl:Nat)(S:Sto):Sem Proofs.Tryz.prog J8 lvl [.tr (.sl (rS l))] S (.ow 1 (rS (Vt l)) true) S:=by
 refine Zc ZfP (by simp [low,men,Zd]) ?_
 simp only[ZaM,List.length_map,EVA,seval,Zd,men]
 refine Zz (α:=Unit) l.length (fun j _=>[(3,.hd (lvl,96) [] 0 (Vt (l.take j)).length none (Vt (l.take j)).length),(4,iI j)]) (fun j _=>[(96,.ar 1 (rS (Vt (l.take j))) true (Vt (l.take j)).length 0)]) (fun _ _=>True) () (by simp only[EVA,seval,Zd,men]) (by rw[List.take_zero,Zo4]; (simp only[EVA,seval,Zd,men]) <;> rfl) trivial ?_
 intro j _ hj _
 simp only[List.length_map,EVA,seval,Zd,men]
 refine Zl (fun hlt=>?_) (fun hge=>?_)
 ·have hja:j<l.length:=by omega
  have ga:=ZeN (e0:=e0S) (c:=fun n:ByteArray=>[ts n]) hja
  rw[XV hja] at ga
  obtain⟨O,hO⟩:∃ O,O=Vt (l.take j):=⟨_,rfl⟩
  have hOl:O.length<=j:=by rw[hO];exact Nat.le_trans Zbl (by rw[List.length_take];omega)
  have hOp:O.Pairwise ltS:=by rw[hO];exact ZiV
  rw[<-hO]
  refine Zz (α:=Unit) O.length (fun k _=>[(5,iI k)]) (fun _ _=>[]) (fun k _=>∀ y∈O.take k,ltS y l[j]) () (by simp only[EVA,seval,Zd,men]) (by (simp only[EVA,seval,Zd,men]) <;> rfl) (by simp) ?_
  intro k _ hk hK
  simp only[List.length_map,EVA,seval,Zd,men]
  refine Zl (fun hlt2=>?_) (fun hge2=>?_)
  ·have hka:k<O.length:=by omega
   have gk:=ZeN (e0:=e0S) (c:=fun n:ByteArray=>[ts n]) hka
   rw[XV hka] at gk
   have hm:min k O.length=k:=by omega
   have hq1:k+1+(O.length-k)=O.length+1:=by omega
   have hq2:max (max (max 0 k) (k+1)) (O.length+1)=O.length+1:=by omega
   have hq3:k+(O.length-k)=O.length:=by omega
   simp only[ga,gk,hja,hka,hm,hq1,hq2,hq3,Zxk,Zxl,ZnN,ZnO,Zr5,Zr6,List.length_append,List.length_take,List.length_drop,List.length_map,EVA,seval,Zd,men]
   refine Zl (fun h1=>?_) (fun h1=>?_)
   ·exact⟨by rw[Ze];omega,Zf () hka rfl fun y hy=>by
     rw[List.take_succ_eq_append_getElem hka] at hy
     rcases List.mem_append.1 hy with hy | hy
     ·exact hK y hy
     ·rw[List.mem_singleton.1 hy];exact h1⟩
   ·have hkn:decide ((k:Int)=(O.length:Int))=false:=by simp;omega
    rw[if_pos hkn]
    refine Zl (fun h2=>?_) (fun h2=>?_)
    ·have h3:ltS l[j] O[k]:=by
      rcases ordsS.tri l[j] O[k] with q | q | q
      ·exact q
      ·exact absurd q.symm h2
      ·exact absurd q h1
     have hput:=Zmo (k:=k) hja (by rw[<-hO];exact hK) (by
      rw[<-hO]
      intro y hy
      rw[List.drop_eq_getElem_cons hka] at hy
      rcases List.mem_cons.1 hy with rfl | hy
      ·exact h3
      ·have q:=hOp
       rw[<-List.take_append_drop k O,List.drop_eq_getElem_cons hka] at q
       exact ordsS.tr _ _ _ h3 ((List.pairwise_cons.1 (List.pairwise_append.1 q).2.1).1 y hy))
     rw[<-hO] at hput
     have hpl:(O.take k++([l[j]]++O.drop k)).length=O.length+1:=by
      simp only[List.length_append,List.length_take,List.length_drop,List.length_cons,List.length_nil]
      omega
     have hfit:XE .i64 ((j:Int)+1):=by rw[Ze];omega
     and_intros
     all_goals try first | omega | exact fun _=>trivial
     ·exact hfit.1
     ·exact hfit.2
     ·exact Zf () hja (by rw[hput,hpl];rfl) trivial
    ·have hkeep:=Zo3 hja (by rw[<-hO,<-(Classical.not_not.1 h2)];exact List.getElem_mem hka)
     rw[<-hO] at hkeep
     exact⟨by rw[Ze];omega,Zf () hja (by rw[hkeep];rfl) trivial⟩
  ·have:k=O.length:=by omega
   subst this
   have hq1:O.length+1+(O.length-O.length)=O.length+1:=by omega
   have hq2:max (max (max 0 O.length) (O.length+1)) (O.length+1)=O.length+1:=by omega
   simp only[ga,hja,hq1,hq2,Zxk,Zxl,ZnN,ZnO,Zr5,Zr6,List.length_append,List.length_take,List.length_drop,List.length_map,EVA,seval,Zd,men]
   have hput:=Zmo (k:=O.length) hja (by rw[<-hO];exact hK) (by
    rw[<-hO,List.drop_length]
    intro y hy
    cases hy)
   rw[<-hO] at hput
   rw[List.take_length] at hput
   have hpl:(O++([l[j]]++O.drop O.length)).length=O.length+1:=by
    simp only[List.length_append,List.length_drop,List.length_cons,List.length_nil]
    omega
   have hfit:XE .i64 ((j:Int)+1):=by rw[Ze];omega
   and_intros
   all_goals try first | omega | exact fun _=>trivial
   ·exact hfit.1
   ·exact hfit.2
   ·exact Zf () hja (by rw[hput,hpl];rfl) trivial
 ·have:j=l.length:=by omega
  subst this
  rw[List.take_length]
theorem Uk(names:List ByteArray)(e:Int)(o:List ByteArray)(hn:names.length<=4294967290)(he:-4294967296<=e/\e<=4294967296)(ho:o.length<=4294967290)(lvl:Nat)(S:Sto):Sem Proofs.Tryz.prog JQ lvl [.tr (.sl (rS names)),iI e,.tr (.sl (rS o))] S (.ow 1 (rI (names.map fun x=>e+ixS o x)) true) S:=by
 refine Zc ZgN trivial ?_
 simp only[ZbN,List.length_map,EVA,seval,Zd,men]
 refine Zz (α:=Unit) names.length (fun j _=>[(7,.hd (lvl,288) [] 0 j none j),(8,iI j)]) (fun j _=>[(288,.ar 1 (rI ((names.take j).map fun x=>e+ixS o x)) true j 0)]) (fun _ _=>True) () (by simp only[EVA,seval,Zd,men]) (by (simp only[EVA,seval,Zd,men]) <;> rfl) trivial ?_
 intro j _ hj _
 simp only[List.length_map,EVA,seval,Zd,men]
 refine Zl (fun hlt=>?_) (fun hge=>?_)
 ·have hja:j<names.length:=by omega
  have ga:=ZeN (e0:=e0S) (c:=fun n:ByteArray=>[ts n]) hja
  rw[XV hja] at ga
  have hl2:(names.take j).length=j:=by rw[List.length_take];omega
  have x1:=Zga (l:=o) (s:=names[j])
  have x2:=Zey (l:=o) (s:=names[j])
  have hs:rI ((names.take j).map fun x=>e+ixS o x)++[[tv (e+ixS o names[j])]]=rI ((names.take (j+1)).map fun x=>e+ixS o x):=by
   rw[List.take_succ_eq_append_getElem hja,List.map_append,YA]
   rfl
  simp only[ga,hja,List.length_map,EVA,seval,Zd,men]
  refine Za (DP o names[j] (by omega)) ?_
  simp only[ga,hja,hl2,hs,List.length_map,EVA,seval,Zd,men]
  exact⟨by rw[Ze];omega,by omega,by rw[Ze];omega,Zf () hja rfl trivial⟩
 ·have:j=names.length:=by omega
  subst this
  rw[List.take_length]
  exact⟨by simp,rfl⟩
theorem Zq8{b:TBigraph}{l:Int}(he:0<=b.edges/\b.edges<=8)(hl:ZV b l):-4294967296<=(Ze9 b l).1/\(Ze9 b l).1<=4294967296:=by
 rcases Ya hl with ⟨h0,h1⟩ | ⟨i,hi,rfl⟩
 ·rw[Zhr h1];dsimp only;omega
 ·rw[Zhs hi];dsimp only;omega
theorem Zq9{sig:List TControl}{b:TBigraph}(h:bigOK sig b){F:Int->Int}{e:Int}{o:List ByteArray}(ho:o.length<=100)(hos:∀ y∈o,y.size<=4294967296):Zt 4294967296 (U1 b F e o):=by
 obtain⟨b1,b2,b3,b4,b5,b6,b7⟩:=Zlf (F:=F) (e:=e) (o:=[]) h (QT (by omega) (XC h)) (by simp) (by simp)
 refine⟨Nat.le_trans (show (U1 b F e o).nodes.length<=4294967290 from b1) (by omega),fun y hy=>?_,Nat.le_trans (show (U1 b F e o).sites.length<=4294967290 from b3) (by omega),by show o.length<=_;omega,hos,Nat.le_trans (show (U1 b F e o).inner.length<=4294967290 from b6) (by omega),fun y hy=>?_⟩
 ·have:=b2 y hy
  simp only[ZjN] at this ⊢
  omega
 ·have:=b7 y hy
  simp only[Zej] at this ⊢
  omega
end Go.Fd

/-
  OpenName: BOTH ANSWERS OF THE REFERENCE. Own work.
-/
namespace Go.Fd
end Go.Fd

/-
  ONE BIGRAPH UNDER ANOTHER: WHAT COMPOSITION COMPUTES, IN PLAIN TERMS. Own work.
-/
namespace Go.Fd
set_option maxRecDepth 20000
def ZaY(a b:TBigraph)(roots:Int)(ss:List Int)(o:List ByteArray)(FL FR mv:Int->Int):TBigraph :=
 ⟨roots,a.nodes.map (Zle FL)++b.nodes.map (fun x=>⟨x.control,mv x.parent,x.links.map FR⟩),ss++b.sites.map mv,a.edges+b.edges,o,b.inner.map (Zbk FR)⟩
theorem Zgj{sig:List TControl}{a b:TBigraph}(ha:bigOK sig a)(hb:bigOK sig b){roots:Int}{ss:List Int}{o:List ByteArray}{FL FR mv FL' FR' mv':Int->Int}(hL:∀ l,ZV a l->FL l=FL' l)(hR:∀ l,ZV b l->FR l=FR' l)(hm:∀ p,-b.roots<=p->mv p=mv' p) :
  ZaY a b roots ss o FL FR mv=ZaY a b roots ss o FL' FR' mv':=by
 have hr:=hb.roots.1
 unfold ZaY
 have e1:a.nodes.map (Zle FL)=a.nodes.map (Zle FL'):=List.map_congr_left fun x hx=>by
  obtain⟨i,hi,rfl⟩:=List.getElem_of_mem hx
  unfold Zle
  congr 1
  exact List.map_congr_left fun l hl=>hL l ((ha.nodes i hi).links l hl)
 have e2:b.nodes.map (fun x=>(⟨x.control,mv x.parent,x.links.map FR⟩:TNode))=b.nodes.map (fun x=>⟨x.control,mv' x.parent,x.links.map FR'⟩):=List.map_congr_left fun x hx=>by
  obtain⟨i,hi,rfl⟩:=List.getElem_of_mem hx
  have hn:=hb.nodes i hi
  rw[hm _ (Ju hr hn.par)]
  congr 1
  exact List.map_congr_left fun l hl=>hR l (hn.links l hl)
 have e3:b.sites.map mv=b.sites.map mv':=List.map_congr_left fun p hp=>hm p (Ju hr (hb.sites p hp))
 have e4:b.inner.map (Zbk FR)=b.inner.map (Zbk FR'):=List.map_congr_left fun w hw=>by
  unfold Zbk
  rw[hR _ (hb.inner w hw)]
 rw[e1,e2,e3,e4]
def Zmp(a:TBigraph)(e:Int)(o:List ByteArray):List Int:=Zmn a (fun l=>l) fun x=>e+ixS o x
def Zo5(a b:TBigraph)(g:ByteArray->Int):List Int:=Zmn b (fun l=>a.edges+l) g
theorem Zo6{c:Int}{n:Nat}:Ur c n=(Wz n).map fun l=>c+l:=by simp [Ur,Wz]
theorem Zo7{a:TBigraph}{e:Int}{o:List ByteArray}{n:Nat}(hn:a.edges=n):Ur 0 n++a.outer.map (fun x=>e+ixS o x)=Zmp a e o:=by
 rw[Zmp,Zmn,Zhw,hn,Int.toNat_natCast]
theorem Zo8{a b:TBigraph}{g:ByteArray->Int}{n:Nat}(hn:b.edges=n):Ur a.edges n++b.outer.map g=Zo5 a b g:=by
 rw[Zo5,Zmn,Zo6,hn,Int.toNat_natCast]
theorem Zmq{b:TBigraph}{f:Int->Int}{g:ByteArray->Int}(h:0<=b.edges):((Zmn b f g).length:Int)=b.edges+b.outer.length:=by
 rw[Zmn,List.length_append,List.length_map,List.length_map,Y8]
 omega
theorem Zxm{sig:List TControl}{a:TBigraph}(ha:bigOK sig a){e:Int}{o:List ByteArray}{l:Int}(hl:ZV a l):Zda a e o (fun x=>x) l=g0 (Zmp a e o) l.toNat:=by
 have he:=ha.edges
 unfold Zda Zmp
 rcases Ya hl with ⟨h0,h1⟩ | ⟨i,hi,rfl⟩
 ·rw[ZbX h0 h1,Zhr h1,if_pos rfl]
 ·rw[ZbY he.1 hi,Zhs hi,if_neg (Zbi ha.outer (List.getElem_mem hi))]
def ZeP(a:TBigraph)(nm:ByteArray->Int×ByteArray)(x:Int×ByteArray):Int×ByteArray:=if x.2=e0S then (x.1+a.edges,e0S) else nm x.2
theorem ZCl{sig:List TControl}{a b:TBigraph}(hb:bigOK sig b){e:Int}{o:List ByteArray}{nm:ByteArray->Int×ByteArray}{g:ByteArray->Int}(hg:∀ i (h:i<b.outer.length),(if (nm b.outer[i]).2=e0S then (nm b.outer[i]).1 else e+ixS o (nm b.outer[i]).2)=g b.outer[i]){l:Int}(hl:ZV b l):Zda b e o (ZeP a nm) l=g0 (Zo5 a b g) l.toNat:=by
 have he:=hb.edges
 unfold Zda Zo5
 rcases Ya hl with ⟨h0,h1⟩ | ⟨i,hi,rfl⟩
 ·rw[ZbX h0 h1,Zhr h1]
  unfold ZeP
  rw[if_pos rfl,if_pos rfl]
  omega
 ·rw[ZbY he.1 hi,Zhs hi]
  unfold ZeP
  rw[if_neg (Zbi hb.outer (List.getElem_mem hi)),hg i hi]
def Zmr(a b:TBigraph)(o:List ByteArray)(L R:List Int):TBigraph:=ZaY a b a.roots [] o (fun l=>g0 L l.toNat) (fun l=>g0 R l.toNat) (ZdX a.nodes.length a.sites)
def ZxW(a:TBigraph)(p:Int):Int:=if 0<=p then p+a.nodes.length else g0 a.sites (-1-p).toNat
theorem ZtR{a:TBigraph}{p:Int}:ZxW a p=ZdX a.nodes.length a.sites p:=by
 unfold ZxW ZdX
 by_cases h:0<=p
 ·rw[if_pos h,if_neg (by omega)]
 ·rw[if_neg h,if_pos (by omega)]
noncomputable def YG(a b:TBigraph):List ByteArray:=Vt (a.outer++b.outer)
noncomputable def Dj(a b:TBigraph):TBigraph:=Zmr a b (YG a b) (Zmp a (a.edges+b.edges) (YG a b)) (Zo5 a b fun x=>a.edges+b.edges+ixS (YG a b) x)
theorem ZtS{sig:List TControl}{a b:TBigraph}(ha:bigOK sig a)(hb:bigOK sig b) :
  ZaY a b a.roots [] (YG a b) (Zda a (a.edges+b.edges) (YG a b) fun x=>x) (Zda b (a.edges+b.edges) (YG a b) (ZeP a fun s=>(0,s))) (ZxW a)=Dj a b :=
 Zgj ha hb (fun l hl=>Zxm ha hl) (fun l hl=>ZCl hb (fun i hi=>if_neg (Zbi hb.outer (List.getElem_mem hi))) hl) fun p _=>ZtR
end Go.Fd

/-
  ONE BIGRAPH UNDER ANOTHER, THE REFERENCE'S SIDE. Own work.
-/
namespace Go.Fd
set_option maxRecDepth 20000
theorem Zr7{sig:List TControl}{b:TBigraph}(h:bigOK sig b){ps:List Int}(hp:(ps.length:Int)=b.roots){p:Int}(h1:-b.roots<=p)(h2:p<b.nodes.length):(-4294967296<=p/\p<=4294967296)/\(p<0->(-1-p).toNat<ps.length):=by
 have hr:=h.roots
 have hn:=h.small.nodes
 exact⟨by omega,fun h3=>by omega⟩
theorem Zms{sig:List TControl}{b:TBigraph}(h:bigOK sig b){ps ls:List Int}(hp:(ps.length:Int)=b.roots)(hl:(ls.length:Int)=b.edges+b.outer.length):∀ x∈b.nodes,x.links.length<=4294967290/\((-4294967296<=x.parent/\x.parent<=4294967296)/\(x.parent<0->(-1-x.parent).toNat<ps.length))/\∀ l∈x.links,0<=l/\l<ls.length:=fun x hx=>by
 have hl2:=h.small.links _ hx
 have hb:=UX h hx
 obtain⟨k,hk,rfl⟩:=List.getElem_of_mem hx
 refine⟨by omega,Zr7 h hp (Ju h.roots.1 (h.nodes k hk).par) hb.1,fun l hl3=>?_⟩
 have:=hb.2 l hl3
 omega
theorem Zmt{sig:List TControl}{b:TBigraph}(h:bigOK sig b){ps:List Int}(hp:(ps.length:Int)=b.roots):∀ p∈b.sites,(-4294967296<=p/\p<=4294967296)/\(p<0->(-1-p).toNat<ps.length):=fun p hq=>Zr7 h hp (Ju h.roots.1 (h.sites p hq)) (X6 h hq)
theorem Zo9{sig:List TControl}{b:TBigraph}(h:bigOK sig b){ls:List Int}(hl:(ls.length:Int)=b.edges+b.outer.length):∀ w∈b.inner,0<=w.link/\w.link<ls.length:=fun w hw=>by
 have:=h.inner w hw
 unfold ZV at this
 omega
theorem Zmu{sig:List TControl}{b:TBigraph}(h:bigOK sig b){n:Nat}(hn:b.roots=n){ls:List Int}:b.nodes.map (Zf9 0 (JI 0 n) ls)=b.nodes.map (Zle fun l=>g0 ls l.toNat):=List.map_congr_left fun x hx=>by
 obtain⟨k,hk,rfl⟩:=List.getElem_of_mem hx
 unfold Zf9 Zle
 rw[ZiP hn (Ju h.roots.1 (h.nodes k hk).par)]
theorem Zmv{sig:List TControl}{b:TBigraph}(h:bigOK sig b){n:Nat}(hn:b.roots=n):b.sites.map (ZdX 0 (JI 0 n))=b.sites:=by
 have:b.sites.map (ZdX 0 (JI 0 n))=b.sites.map id:=List.map_congr_left fun p hp=>ZiP hn (Ju h.roots.1 (h.sites p hp))
 rw[this,List.map_id]
theorem ZCm{l:List TNode}:UnR 3 (l.map ZX)=True:=eq_true (Zb3 ZX (fun _=>rfl) l)
abbrev Zra(b:TBigraph)(u:Bool):IV:=.ag [iI b.roots,.ow 3 (b.nodes.map ZX) u,.ow 1 (rI b.sites) true,iI b.edges,.ow 1 (rS b.outer) true,.ow 2 (b.inner.map Ji) true]
theorem Zlh(sig:List TControl)(a b:TBigraph)(o:List ByteArray)(above below:List Int)(ha:bigOK sig a)(hb:bigOK sig b)(hf:(a.sites.length:Int)=b.roots)(hA:above.length=a.outer.length)(hB:below.length=b.outer.length)(ho:o.length<=4294967290)(L R:List Int)(hL:∀ n:Nat,a.edges=n->Ur 0 n++above=L)(hR:∀ n:Nat,b.edges=n->Ur a.edges n++below=R)
  (lvl:Nat) (S:Sto):Sem Proofs.Tryz.prog Wr lvl [.ag ((Zb a).map .tr),.ag ((Zb b).map .tr),.tr (.sl (rS o)),tI above,tI below] S (Zra (Zmr a b o L R) false) S:=by
 have ra:=ha.roots;have rb:=hb.roots
 have ea:=ha.edges;have eb:=hb.edges
 have sa:=ha.small;have sb:=hb.small
 have a1:=sa.nodes;have a2:=sa.sites;have a3:=sa.inner;have a4:=sa.outer
 have b1:=sb.nodes;have b2:=sb.sites;have b3:=sb.inner;have b4:=sb.outer
 obtain⟨n,hn⟩:∃ n:Nat,a.roots=n:=⟨a.roots.toNat,by omega⟩
 obtain⟨m,hm⟩:∃ m:Nat,a.edges=m:=⟨a.edges.toNat,by omega⟩
 obtain⟨k,hk⟩:∃ k:Nat,b.edges=k:=⟨b.edges.toNat,by omega⟩
 have hLL:=hL m hm
 have hRR:=hR k hk
 have lenL:(L.length:Int)=a.edges+a.outer.length:=by rw[<-hLL,List.length_append,fromN_len,hA];omega
 have lenR:(R.length:Int)=b.edges+b.outer.length:=by rw[<-hRR,List.length_append,fromN_len,hB];omega
 have w1:rI (Ur 0 m)++rI above=rI L:=by rw[<-YA,hLL]
 have w2:m+above.length=L.length:=by rw[<-hLL,List.length_append,fromN_len]
 have w3:rI (Ur (m:Int) k)++rI below=rI R:=by rw[<-YA,<-hm,hRR]
 have w4:k+below.length=R.length:=by rw[<-hRR,List.length_append,fromN_len]
 have w5:max m L.length=L.length:=by omega
 have w6:max k R.length=R.length:=by omega
 have c1:cut (rI L) 0 L.length=rI L:=Yg (by rw[List.length_map])
 have c2:cut (rI R) 0 R.length=rI R:=Yg (by rw[List.length_map])
 refine Zc ZgP (by simp [low,men,Zd]) ?_
 simp only[ZbP,Zb,hn,EVA,seval,Zd,men]
 refine Za (DQ 0 n (by omega) (by omega)) ?_
 simp only[Zb,hm,List.length_map,EVA,seval,Zd,men]
 refine Za (Uh 0 m (by omega) (by omega)) ?_
 simp only[Zb,Zbt,Zbu,hm,hk,w1,w2,w5,fromN_len,List.length_append,List.length_map,EVA,seval,Zd,men]
 refine⟨by omega,Za (Uh m k (by omega) (by omega)) ?_⟩
 simp only[Zb,Zbt,Zbu,hm,hk,w3,w4,w6,fromN_len,List.length_append,List.length_map,EVA,seval,Zd,men]
 refine⟨by omega,?_⟩
 have q1:=XW a 0 (JI 0 n) (by omega) (by omega) (Zmt ha (by rw[rootsN_len];omega))
 rw[Zmv ha hn] at q1
 simp only[Zb,hn,hm,List.map_cons,List.map_nil] at q1
 refine Za q1 ?_
 simp only[Zb,hm,hk,c1,c2,List.length_map,EVA,seval,Zd,men]
 have q2:=Ui a 0 (JI 0 n) L (by omega) (by omega) (Zms ha (by rw[rootsN_len];omega) lenL)
 rw[Zmu ha hn] at q2
 simp only[Zb,hn,hm,List.map_cons,List.map_nil] at q2
 refine Za q2 ?_
 simp only[Zb,hm,hk,c1,c2,List.length_map,EVA,seval,Zd,men]
 have q3:=Ui b a.nodes.length a.sites R (by omega) (by omega) (Zms hb hf lenR)
 simp only[Zb,hm,hk,List.map_cons,List.map_nil] at q3
 refine Za q3 ?_
 simp only[Zb,ZCm,hm,hk,c1,c2,List.length_append,List.length_map,EVA,seval,Zd,men]
 refine⟨by omega,?_⟩
 have q4:=XW b a.nodes.length a.sites (by omega) (by omega) (Zmt hb hf)
 simp only[Zb,hm,hk,List.map_cons,List.map_nil] at q4
 refine Za q4 ?_
 simp only[Zb,ZnN,ZnO,hm,hk,c1,c2,List.length_append,List.length_map,EVA,seval,Zd,men]
 refine⟨by rw[Ze];omega,by omega,?_⟩
 have q5:=DR b R (by omega) (Zo9 hb lenR)
 simp only[Zb,hm,hk,List.map_cons,List.map_nil] at q5
 refine Za q5 ?_
 simp only[Zb,ZnN,ZnO,hm,hk,c1,c2,List.length_append,List.length_map,EVA,seval,Zd,men]
 simp only[Zra,Zmr,ZaY,List.map_append,List.nil_append,hn,hm,hk]
 rfl
theorem Zpa{sig:List TControl}{a b:TBigraph}(ha:bigOK sig a)(hb:bigOK sig b){roots:Int}{ss:List Int}{o:List ByteArray}{FL FR mv:Int->Int}(hs:ss.length<=4)(ho:o.length<=100)(hos:∀ y∈o,y.size<=4294967290):Zt 4294967290 (ZaY a b roots ss o FL FR mv):=by
 have sa:=ha.small;have sb:=hb.small
 have a1:=sa.nodes;have a2:=sa.sites;have a3:=sa.inner
 have b1:=sb.nodes;have b2:=sb.sites;have b3:=sb.inner
 refine⟨by simp only[ZaY,List.length_map,List.length_append];omega,fun y hy=>?_,by simp only[ZaY,List.length_map,List.length_append];omega,by show o.length<=_;omega,hos,by simp only[ZaY,List.length_map];omega,fun y hy=>?_⟩
 ·rcases List.mem_append.1 hy with hy | hy
  ·obtain⟨x,hx,rfl⟩:=List.mem_map.1 hy
   have:=sa.links x hx
   simp only[ZjN,Zle,List.length_map]
   omega
  ·obtain⟨x,hx,rfl⟩:=List.mem_map.1 hy
   have:=sb.links x hx
   simp only[ZjN,List.length_map]
   omega
 ·obtain⟨w,hw,rfl⟩:=List.mem_map.1 hy
  have hn:w.name∈inn b:=List.mem_map.2 ⟨w,hw,rfl⟩
  have:=Yr hb.inn hn
  simp only[Zej,Zbk]
  omega
def sm(n:Int):Prop:=-1000<=n/\n<=1000
theorem Zdh{n:Int}(h:sm n):XE .i64 n:=by
 unfold sm at h
 rw[Ze];omega
theorem Zpb{sig:List TControl}{a b:TBigraph}(ha:bigOK sig a)(hb:bigOK sig b)(fa:ZB a)(fb:ZB b){roots:Int}{ss:List Int}{o:List ByteArray}{FL FR mv:Int->Int}(hr:sm roots)(hs:∀ p∈ss,sm p)(hL:∀ l,ZV a l->sm (FL l))(hR:∀ l,ZV b l->sm (FR l))(hm:∀ p,-b.roots<=p->p<b.nodes.length->sm (mv p)):ZB (ZaY a b roots ss o FL FR mv):=by
 have ea:=ha.edges;have eb:=hb.edges
 refine⟨Zdh hr,fun y hy=>?_,fun p hp=>?_,by show XE .i64 (a.edges+b.edges);rw[Ze];omega,fun y hy=>?_⟩
 ·rcases List.mem_append.1 hy with hy | hy
  ·obtain⟨x,hx,rfl⟩:=List.mem_map.1 hy
   have hq:=fa.2.1 x hx
   obtain⟨i,hi,hie⟩:=List.getElem_of_mem hx
   refine⟨hq.1,hq.2.1,fun l hl=>?_⟩
   obtain⟨l0,hl0,rfl⟩:=List.mem_map.1 hl
   exact Zdh (hL l0 ((ha.nodes i hi).links l0 (by rw[hie];exact hl0)))
  ·obtain⟨x,hx,rfl⟩:=List.mem_map.1 hy
   have hq:=fb.2.1 x hx
   have hbp:=UX hb hx
   obtain⟨i,hi,hie⟩:=List.getElem_of_mem hx
   refine⟨hq.1,Zdh (hm _ (Ju hb.roots.1 (by rw[<-hie];exact(hb.nodes i hi).par)) hbp.1),fun l hl=>?_⟩
   obtain⟨l0,hl0,rfl⟩:=List.mem_map.1 hl
   exact Zdh (hR l0 ((hb.nodes i hi).links l0 (by rw[hie];exact hl0)))
 ·rcases List.mem_append.1 hp with hp | hp
  ·exact Zdh (hs p hp)
  ·obtain⟨x,hx,rfl⟩:=List.mem_map.1 hp
   exact Zdh (hm _ (Ju hb.roots.1 (hb.sites x hx)) (X6 hb hx))
 ·obtain⟨w,hw,rfl⟩:=List.mem_map.1 hy
  exact Zdh (hR _ (hb.inner w hw))
theorem Zxn{sig:List TControl}{a b:TBigraph}(ha:bigOK sig a)(hb:bigOK sig b)(hf:(a.sites.length:Int)=b.roots){p:Int}(h1:-b.roots<=p)(h2:p<b.nodes.length):sm (ZdX a.nodes.length a.sites p):=by
 have a1:=ha.small.nodes;have b1:=hb.small.nodes
 have ra:=ha.roots
 unfold ZdX sm
 split
 ·rename_i h
  have hl:(-1-p).toNat<a.sites.length:=by omega
  have hg:g0 a.sites (-1-p).toNat=a.sites[(-1-p).toNat]:=by simp [hl]
  have hm:=List.getElem_mem hl
  have:=Ju ra.1 (ha.sites _ hm)
  have:=X6 ha hm
  rw[hg];omega
 ·omega
theorem ZtT{sig:List TControl}{a:TBigraph}(ha:bigOK sig a){e:Int}(he:0<=e/\e<=100){o:List ByteArray}(ho:o.length<=100){l:Int}(hl:ZV a l):sm (g0 (Zmp a e o) l.toNat):=by
 have ea:=ha.edges
 unfold Zmp sm
 rcases Ya hl with ⟨h0,h1⟩ | ⟨i,hi,rfl⟩
 ·rw[ZbX h0 h1];omega
 ·rw[ZbY ea.1 hi]
  have:=Zga (l:=o) (s:=a.outer[i])
  have:=Zey (l:=o) (s:=a.outer[i])
  omega
theorem Zpc{sig:List TControl}{a b:TBigraph}(ha:bigOK sig a)(hb:bigOK sig b){g:ByteArray->Int}(hg:∀ x∈b.outer,sm (g x)){l:Int}(hl:ZV b l):sm (g0 (Zo5 a b g) l.toNat):=by
 have ea:=ha.edges;have eb:=hb.edges
 unfold Zo5
 rcases Ya hl with ⟨h0,h1⟩ | ⟨i,hi,rfl⟩
 ·rw[ZbX h0 h1]
  unfold sm
  omega
 ·rw[ZbY eb.1 hi]
  exact hg _ (List.getElem_mem hi)
end Go.Fd

/-
  ONE BIGRAPH UNDER ANOTHER, THE PROGRAM'S SIDE: joined. Own work.
-/
namespace Go.Fd
set_option maxRecDepth 20000
theorem Zkd(e:Int×ByteArray)(lvl:Nat)(S:Sto):Sem Proofs.Tryz.prog VZ lvl [oE e] S (oE e) S:=by
 refine Zc ZfX (by simp [low,men,Zd]) ?_
 simp only[ZaT,EVA,seval,Zd,men]
theorem Zke(a:TBigraph)(e:Int×ByteArray)(nf:FuncId)(cs:List (List Tr))(nm:ByteArray->Int×ByteArray)(h1:-4294967296<=e.1/\e.1<=4294967296)(h2:0<=a.edges/\a.edges<=4294967296)(hN:e.2≠e0S->∀ lvl S,Sem Proofs.Tryz.prog nf lvl (iS e.2::cs.map IV.ta) S (oE (nm e.2)) S)
  (lvl:Nat) (S:Sto) (id:Oid) (hid:id.1<lvl) (sN:S id=some (.bx [.fn nf (cs.map IV.ta)])):Sem Proofs.Tryz.prog J9 lvl [oE e,.ta (Zb a),.ab id 0] S (oE (ZeP a nm e)) S:=by
 have hne:id.1≠lvl:=by omega
 refine Zc ZfY (by simp [low,men,Zd]) ?_
 simp only[ZaU,Zb,Z9 hne,sN,EVA,seval,Zd,men]
 unfold ZeP
 by_cases h:e.2=e0S
 ·rw[if_pos h]
  have h':e.2 = { data:=#[] }:=h
  simp only[h',EVA,seval,Zd,men]
  rw[Ze];omega
 ·rw[if_neg h]
  have h':¬ e.2 = { data:=#[] }:=h
  simp only[h',Z9 hne,sN,UG,Yk,EVA,seval,Zd,men]
  refine Za (hN h) ?_
  simp only[EVA,seval,Zd,men]
def Zr8(n:Int)(pl:Int->Int)(p:Int):Int:=if 0<=p then p+n else pl p
theorem Zkf(a:TBigraph)(p:Int)(pf:FuncId)(cs:List (List Tr))(pl:Int->Int)(hn:a.nodes.length<=4294967296)(hp:-4294967296<=p/\p<=4294967296)(hP:p<0->∀ lvl S,Sem Proofs.Tryz.prog pf lvl (iI p::cs.map IV.ta) S (iI (pl p)) S)(lvl:Nat)(S:Sto):Sem Proofs.Tryz.prog X3 lvl [.ag ((Zb a).map .tr),iI p,.fn pf (cs.map IV.ta)] S (iI (Zr8 a.nodes.length pl p)) S:=by
 refine Zc ZjY trivial ?_
 simp only[Zev,Zb,List.length_map,EVA,seval,Zd,men]
 unfold Zr8
 by_cases h:0<=p
 ·rw[if_pos h]
  simp only[h,List.length_map,EVA,seval,Zd,men]
  rw[Ze];omega
 ·rw[if_neg h]
  simp only[h,UG,Yk,EVA,seval,Zd,men]
  refine Za (hP (by omega)) ?_
  simp only[EVA,seval,Zd,men]
theorem Zli{id:Oid}:∀{l:List (List Tr)},scrs id (l.map IV.ta)=l.map IV.ta
 | []=>rfl
 | x::r=>by
  simp only[List.map_cons,scrs,scr]
  rw[Zli]
theorem Znh(sig:List TControl)(a b:TBigraph)(ha:bigOK sig a)(hb:bigOK sig b)(roots:Int)(ss:List Int)(hss:ss.length<=1000)(o:List ByteArray)(ho:o.length<=1000)(pf:FuncId)(ps:List (List Tr))(pl:Int->Int)(nf:FuncId)(ns:List (List Tr))(nm:ByteArray->Int×ByteArray)
  (hP:∀ p,-b.roots<=p->p<0->∀ lvl S,Sem Proofs.Tryz.prog pf lvl (iI p::ps.map IV.ta) S (iI (pl p)) S) (hN:∀ x∈b.outer,∀ lvl S,Sem Proofs.Tryz.prog nf lvl (iS x::ns.map IV.ta) S (oE (nm x)) S)
  (lvl:Nat) (S:Sto):Sem Proofs.Tryz.prog VC lvl [.ag ((Zb a).map .tr),.ag ((Zb b).map .tr),iI roots,tI ss,.tr (.sl (rS o)),.fn pf (ps.map IV.ta),.fn nf (ns.map IV.ta)] S
   (.ag [iI roots,.ow 3 ((ZaY a b roots ss (Vt o) (Zda a (a.edges+b.edges) (Vt o) fun x=>x) (Zda b (a.edges+b.edges) (Vt o) (ZeP a nm)) (Zr8 a.nodes.length pl)).nodes.map ZX) (decide (b.nodes.length=0)),.ow 1 (rI (ss++b.sites.map (Zr8 a.nodes.length pl))) true,iI (a.edges+b.edges),.ow 1 (rS (Vt o)) true,.tr (.sl ((b.inner.map (Zbk (Zda b (a.edges+b.edges) (Vt o) (ZeP a nm)))).map Ji))]) S:=by
 have ra:=ha.roots;have rb:=hb.roots
 have ea:=ha.edges;have eb:=hb.edges
 have sa:=ha.small;have sb:=hb.small
 have a1:=sa.nodes;have a2:=sa.sites;have a3:=sa.inner;have a4:=sa.outer
 have b1:=sb.nodes;have b2:=sb.sites;have b3:=sb.inner;have b4:=sb.outer
 have lnA:∀ x∈a.nodes,∀ l∈x.links,ZV a l:=fun x hx l hl=>by
  obtain⟨k,hk,rfl⟩:=List.getElem_of_mem hx
  exact(ha.nodes k hk).links l hl
 have lnB:∀ x∈b.nodes,∀ l∈x.links,ZV b l:=fun x hx l hl=>by
  obtain⟨k,hk,rfl⟩:=List.getElem_of_mem hx
  exact(hb.nodes k hk).links l hl
 obtain⟨FL,hFL⟩:∃ F,F=Zda a (a.edges+b.edges) (Vt o) fun x=>x:=⟨_,rfl⟩
 obtain⟨FR,hFR⟩:∃ F,F=Zda b (a.edges+b.edges) (Vt o) (ZeP a nm):=⟨_,rfl⟩
 obtain⟨mv,hmv⟩:∃ F,F=Zr8 a.nodes.length pl:=⟨_,rfl⟩
 have q1:=UH a (a.edges+b.edges) o VZ [] (fun x=>x) ea.1 (QT (by omega) (XC ha)) (by omega) (by omega) (by omega) lnA ha.inner (fun l _ lvl S=>Zkd (Ze9 a l) lvl S)
 have hR:∀ loc:List (Nat×Ob),lkO 416 loc=some (.bx [.fn nf (ns.map IV.ta)])->∀ l' S',Zd (ZhJ (ZG lvl loc S) S' l') [.ag ((Zb b).map .tr),iI (a.edges+b.edges),.tr (.sl (rS o)),.fn J9 [.ta (Zb a),.ab (lvl,416) 0]]->Sem Proofs.Tryz.prog Zy l' [.ag ((Zb b).map .tr),iI (a.edges+b.edges),.tr (.sl (rS o)),.fn J9 [.ta (Zb a),.ab (lvl,416) 0]] S' (Zi (U1 b FR (a.edges+b.edges) (Vt o))) S':=fun loc h1 l' S' hs=>by
  have hc:Zd (ZmS (ZG lvl loc S) S' l') [.ta (Zb a),.ab (lvl,416) 0]:=by
   have h2:=(Zj9 hs).2.2.2.1
   simp only[men] at h2
   exact h2
  rw[hFR]
  exact Zdd b (a.edges+b.edges) o J9 _ (ZG lvl loc S) (ZeP a nm) eb.1 (QT (by omega) (XC hb)) (by omega) (by omega) (by omega) lnB hb.inner (fun l hl l'' S'' hs2=>by
   have hz:=hs2.2.1
   simp only[men] at hz
   refine Zke a (Ze9 b l) nf ns nm (Zq8 eb hl) (by omega) (fun hne=>hN _ ?_) l'' S'' (lvl,416) hz.1 (hz.2 _ (by rw[YV];exact h1))
   rcases Ya hl with ⟨g0,g1⟩ | ⟨i,hi,rfl⟩
   ·rw[Zhr g1] at hne
    exact absurd rfl hne
   ·rw[Zhs hi]
    exact List.getElem_mem hi) l' S' hc
 rw[<-hFL] at q1
 rw[<-hFL,<-hFR,<-hmv]
 simp only[Zb,Zi,U1,List.map_cons,List.map_nil] at q1 hR
 obtain⟨N1,hN1⟩:∃ l,l=a.nodes.map (fun x=>({ control:=x.control,parent:=x.parent,links:=List.map FL x.links }:TNode)):=⟨_,rfl⟩
 obtain⟨B1,hB1⟩:∃ l,l=b.nodes.map (fun x=>({ control:=x.control,parent:=x.parent,links:=List.map FR x.links }:TNode)):=⟨_,rfl⟩
 obtain⟨B2,hB2⟩:∃ l,l=b.nodes.map (fun x=>({ control:=x.control,parent:=mv x.parent,links:=List.map FR x.links }:TNode)):=⟨_,rfl⟩
 have lN1:N1.length=a.nodes.length:=by rw[hN1,List.length_map]
 have lB1:B1.length=b.nodes.length:=by rw[hB1,List.length_map]
 have lB2:B2.length=b.nodes.length:=by rw[hB2,List.length_map]
 simp only[<-hN1] at q1
 have hW1:b.inner.map (fun w=>({ name:=w.name,link:=FR w.link }:TWire))=b.inner.map (Zbk FR):=rfl
 simp only[<-hB1,hW1] at hR
 refine Zc ZiE (by simp [low,men,Zd]) ?_
 simp only[Zc2,Zb,EVA,seval,Zd,men]
 refine⟨by rw[Ze];omega,?_⟩
 refine Za q1 ?_
 simp only[lN1,List.length_map,EVA,seval,Zd,men]
 refine Zcy (hR _ rfl) ?_
 simp only[lN1,lB1,List.length_map,EVA,seval,Zd,men]
 refine Za (DO ss (by omega)) ?_
 simp only[lN1,lB1,List.length_map,EVA,seval,Zd,men]
 refine Zz (α:=Unit) b.nodes.length (fun j _=>[(51,iI j)]) (fun j _=>[(576,.bx [iI roots,.hd (lvl,992) [] 0 (a.nodes.length+j) none (a.nodes.length+j),.hd (lvl,1312) [] 0 ss.length none ss.length,iI (a.edges+b.edges),.hd (lvl,994) [] 0 (Vt o).length none (Vt o).length,.tr (.sl ((b.inner.map (Zbk FR)).map Ji))]),(992,.ar 3 ((N1++B2.take j).map ZX) (decide (j=0)) (a.nodes.length+j) 0)]) (fun _ _=>True) () (by simp only[Jp,EVA,seval,Zd,men]) (by simp only[hN1,EVA,seval,Zd,men];simp) trivial ?_
 intro j _ hj _
 simp only[List.length_map,EVA,seval,Zd,men]
 refine Zl (fun hlt=>?_) (fun hge=>?_)
 ·have hja:j<b.nodes.length:=by omega
  have ga:(B1.map ZX)[j]? = some [tv b.nodes[j].control,tv b.nodes[j].parent,Tr.sl (rI (b.nodes[j].links.map FR))]:=by
   rw[hB1,List.getElem?_map,List.getElem?_map,List.getElem?_eq_getElem hja]
   rfl
  have hx:=List.getElem_mem hja
  have hbp:=UX hb hx
  have hge:=Ju rb.1 (hb.nodes j hja).par
  simp only[ga,hja,Jp,UG,Yk,List.length_map,EVA,seval,Zd,men]
  have q3:=Zkf a b.nodes[j].parent pf ps pl (by omega) (by omega) (fun h=>hP _ hge h)
  rw[<-hmv] at q3
  simp only[Zb,List.map_cons,List.map_nil] at q3
  refine Za q3 ?_
  have hs:(N1++B2.take j).map ZX++[[tv b.nodes[j].control,tv (mv b.nodes[j].parent),Tr.sl (rI (b.nodes[j].links.map FR))]]=(N1++B2.take (j+1)).map ZX:=by
   have hj2:j<B2.length:=by omega
   rw[List.take_succ_eq_append_getElem hj2,<-List.append_assoc,List.map_append (l₂:=[B2[j]])]
   simp [hB2,ZX]
  have hl:(N1++B2.take j).length=a.nodes.length+j:=by rw[List.length_append,List.length_take];omega
  simp only[hs,hl,Bool.and_false,Zli,Jp,UG,Yk,List.length_map,EVA,seval,Zd,men]
  exact⟨by omega,by rw[Ze];omega,Zf () hja rfl trivial⟩
 ·have:j=b.nodes.length:=by omega
  subst this
  rw[show B2.take b.nodes.length=B2 from by rw[<-lB2,List.take_length]]
  refine Zz (α:=Unit) b.sites.length (fun j _=>[(71,iI j)]) (fun j _=>[(576,.bx [iI roots,.hd (lvl,992) [] 0 (a.nodes.length+b.nodes.length) none (a.nodes.length+b.nodes.length),.hd (lvl,1312) [] 0 (ss.length+j) none (ss.length+j),iI (a.edges+b.edges),.hd (lvl,994) [] 0 (Vt o).length none (Vt o).length,.tr (.sl ((b.inner.map (Zbk FR)).map Ji))]),(1312,.ar 1 (rI (ss++(b.sites.take j).map mv)) true (ss.length+j) 0)]) (fun _ _=>True) () (by simp only[Jp,EVA,seval,Zd,men]) (by simp only[EVA,seval,Zd,men];simp) trivial ?_
  intro j _ hj _
  simp only[List.length_map,EVA,seval,Zd,men]
  refine Zl (fun hlt=>?_) (fun hge=>?_)
  ·have hja:j<b.sites.length:=by omega
   have ga:=V5 hja
   have e0:g0 b.sites j=b.sites[j]:=by simp [hja]
   have hx:=List.getElem_mem hja
   have hbp:=X6 hb hx
   have hge:=Ju rb.1 (hb.sites _ hx)
   rw[<-e0] at hbp hge
   simp only[ga,hja,Jp,UG,Yk,List.length_map,EVA,seval,Zd,men]
   have q3:=Zkf a (g0 b.sites j) pf ps pl (by omega) (by omega) (fun h=>hP _ hge h)
   rw[<-hmv] at q3
   simp only[Zb,List.map_cons,List.map_nil] at q3
   refine Za q3 ?_
   have hs:rI (ss++(b.sites.take j).map mv)++[[tv (mv (g0 b.sites j))]]=rI (ss++(b.sites.take (j+1)).map mv):=by
    rw[List.take_succ_eq_append_getElem hja,List.map_append,<-List.append_assoc,YA (ss++_),e0]
    rfl
   have hl:(ss++(b.sites.take j).map mv).length=ss.length+j:=by rw[List.length_append,List.length_map,List.length_take];omega
   simp only[hs,hl,Bool.and_false,Zli,Jp,UG,Yk,List.length_map,EVA,seval,Zd,men]
   exact⟨by omega,by rw[Ze];omega,Zf () hja rfl trivial⟩
  ·have:j=b.sites.length:=by omega
   subst this
   rw[List.take_length]
   exact⟨by rw[List.length_append];omega,by rw[List.length_append,List.length_map],by rw[hN1,hB2];rfl⟩
abbrev ZBO(b:TBigraph)(u:Bool):IV:=.ag [iI b.roots,.ow 3 (b.nodes.map ZX) u,.ow 1 (rI b.sites) true,iI b.edges,.ow 1 (rS b.outer) true,.tr (.sl (b.inner.map Ji))]
theorem Zgk(sig:List TControl)(a b X:TBigraph)(ha:bigOK sig a)(hb:bigOK sig b)(roots:Int)(ss:List Int)(hss:ss.length<=1000)(o:List ByteArray)(ho:o.length<=1000)(pf:FuncId)(ps:List (List Tr))(pl:Int->Int)(nf:FuncId)(ns:List (List Tr))(nm:ByteArray->Int×ByteArray)
  (hP:∀ p,-b.roots<=p->p<0->∀ lvl S,Sem Proofs.Tryz.prog pf lvl (iI p::ps.map IV.ta) S (iI (pl p)) S) (hN:∀ x∈b.outer,∀ lvl S,Sem Proofs.Tryz.prog nf lvl (iS x::ns.map IV.ta) S (oE (nm x)) S)
  (hX:ZaY a b roots ss (Vt o) (Zda a (a.edges+b.edges) (Vt o) fun x=>x) (Zda b (a.edges+b.edges) (Vt o) (ZeP a nm)) (Zr8 a.nodes.length pl)=X)
  (lvl:Nat) (S:Sto):Sem Proofs.Tryz.prog VC lvl [.ag ((Zb a).map .tr),.ag ((Zb b).map .tr),iI roots,tI ss,.tr (.sl (rS o)),.fn pf (ps.map IV.ta),.fn nf (ns.map IV.ta)] S (ZBO X (decide (b.nodes.length=0))) S:=by
 subst hX
 exact Znh sig a b ha hb roots ss hss o ho pf ps pl nf ns nm hP hN lvl S
end Go.Fd

/-
  A BIGRAPH AFTER ANOTHER: BOTH SIDES. Own work.
-/
namespace Go.Fd
set_option maxRecDepth 20000
theorem ZtU{a:TBigraph}:Zr8 a.nodes.length (fun p=>g0 a.sites (-1-p).toNat)=ZxW a:=rfl
theorem Zpd{sig:List TControl}{a b:TBigraph}(ha:bigOK sig a)(hb:bigOK sig b){o:List ByteArray}(ho:o.length<=100):(∀ l,ZV a l->sm (g0 (Zmp a (a.edges+b.edges) o) l.toNat)):=fun l hl=>by
 have ea:=ha.edges;have eb:=hb.edges
 exact ZtT ha (by omega) ho hl
end Go.Fd
