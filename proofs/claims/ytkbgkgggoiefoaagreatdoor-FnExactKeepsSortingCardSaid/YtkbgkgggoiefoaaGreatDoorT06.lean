/-
  CHILDREN, POINTS, REDEXES, BOTH SIDES. Own work.
-/
import Derived.Test.YtkbgkgggoiefoaaGreatDoorT05
import Derived.KernelRfl
set_option linter.all false
namespace Go.Fd
set_option maxRecDepth 20000
def Zgo(f:Nat->Prop)[DecidablePred f]:Nat->List Int
 | 0=>[]
 | j+1=>if f j then Zgo f j++[(j:Int)] else Zgo f j
theorem ZaM{f:Nat->Prop}[DecidablePred f]:∀{j:Nat},(Zgo f j).length<=j
 | 0=>Nat.le_refl 0
 | j+1=>by
  unfold Zgo
  have:=ZaM (f:=f) (j:=j)
  split
  ·rw[List.length_append,List.length_singleton];omega
  ·omega
theorem Zbx{f:Nat->Prop}[DecidablePred f]{j:Nat}(h:f j):Zgo f (j+1)=Zgo f j++[(j:Int)]:=by rw[Zgo,if_pos h]
theorem Zeo{f:Nat->Prop}[DecidablePred f]{j:Nat}(h:¬ f j):Zgo f (j+1)=Zgo f j:=by rw[Zgo,if_neg h]
def ZiV(b:TBigraph)(j:Nat):Int:=((b.nodes[j]?).map TNode.parent).getD 0
theorem UF{b:TBigraph}{j:Nat}(h:j<b.nodes.length):ZiV b j=b.nodes[j].parent:=by simp [ZiV,h]
abbrev Dj(b:TBigraph)(p:Int):Nat->List Int:=Zgo fun j=>ZiV b j=p
abbrev Xq(b:TBigraph)(p:Int):Nat->List Int:=Zgo fun j=>g0 b.sites j=p
def QR(b:TBigraph)(p:Int):List Int:=Dj b p b.nodes.length
def Zaf(b:TBigraph)(p:Int):List Int:=Xq b p b.sites.length
theorem Zdl(b:TBigraph)(p:Int)(hl:b.nodes.length<=4294967296)(lvl:Nat)(S:Sto):Sem Proofs.Tryz.prog VA lvl [.ag ((Zg b).map .tr),iI p] S (.ow 1 (rI (QR b p)) true) S:=by
 refine Zb Zeg trivial ?_
 simp only[D7,Zg,List.length_map,EVA,seval,Zc,men]
 refine Zx (α:=Unit) b.nodes.length (fun j _=>[(5,.hd (lvl,224) [] 0 (Dj b p j).length none (Dj b p j).length),(6,iI j)]) (fun j _=>[(224,.ar 1 (rI (Dj b p j)) true (Dj b p j).length 0)]) (fun _ _=>True) () (by simp only[EVA,seval,Zc,men]) (by (simp only[EVA,seval,Zc,men]) <;> rfl) trivial ?_
 intro j _ hj _
 simp only[List.length_map,EVA,seval,Zc,men]
 refine Zj (fun hlt=>?_) (fun hge=>?_)
 ·have hja:j<b.nodes.length:=by omega
  have ga:=VK (c:=ZE) hja
  have hle:(Dj b p j).length<=j:=ZaM
  simp only[ga,ZE,List.length_map,EVA,seval,Zc,men]
  refine Zj (fun he=>?_) (fun hne=>?_)
  ·refine⟨by omega,by rw[Zd];omega,Ze () hja ?_ trivial⟩
   rw[Dj,Zbx (by rw[UF hja];exact he),List.length_append,Zfs]
   rfl
  ·refine⟨by rw[Zd];omega,Ze () hja ?_ trivial⟩
   rw[Dj,Zeo (by rw[UF hja];exact hne)]
   rfl
 ·have:j=b.nodes.length:=by omega
  subst this
  rfl
theorem Zcr(b:TBigraph)(p:Int)(hl:b.sites.length<=4294967296)(lvl:Nat)(S:Sto):Sem Proofs.Tryz.prog YQ lvl [.ag ((Zg b).map .tr),iI p] S (.ow 1 (rI (Zaf b p)) true) S:=by
 refine Zb ZcP trivial ?_
 simp only[U2,Zg,List.length_map,EVA,seval,Zc,men]
 refine Zx (α:=Unit) b.sites.length (fun j _=>[(5,.hd (lvl,224) [] 0 (Xq b p j).length none (Xq b p j).length),(6,iI j)]) (fun j _=>[(224,.ar 1 (rI (Xq b p j)) true (Xq b p j).length 0)]) (fun _ _=>True) () (by simp only[EVA,seval,Zc,men]) (by (simp only[EVA,seval,Zc,men]) <;> rfl) trivial ?_
 intro j _ hj _
 simp only[List.length_map,EVA,seval,Zc,men]
 refine Zj (fun hlt=>?_) (fun hge=>?_)
 ·have hja:j<b.sites.length:=by omega
  have ga:=Zz hja
  have hle:(Xq b p j).length<=j:=ZaM
  simp only[ga,List.length_map,EVA,seval,Zc,men]
  refine Zj (fun he=>?_) (fun hne=>?_)
  ·refine⟨by omega,by rw[Zd];omega,Ze () hja ?_ trivial⟩
   rw[Xq,Zbx (f:=fun j=>g0 b.sites j=p) he,List.length_append,Zfs]
   rfl
  ·refine⟨by rw[Zd];omega,Ze () hja ?_ trivial⟩
   rw[Xq,Zeo (f:=fun j=>g0 b.sites j=p) hne]
   rfl
 ·have:j=b.sites.length:=by omega
  subst this
  rfl
theorem XP(b:TBigraph)(p:Int)(hn:b.nodes.length<=4294967296)(hl:b.sites.length<=4294967296)(lvl:Nat)(S:Sto):Sem Proofs.Tryz.prog ZJ lvl [.ag ((Zg b).map .tr),iI p] S (.tu [.ow 1 (rI (QR b p)) true,.ow 1 (rI (Zaf b p)) true]) S:=by
 refine Zb XL ⟨trivial,trivial,trivial⟩ ?_
 simp only[YF,Zg,List.length_map,EVA,seval,Zc,men]
 refine Zx (α:=Unit) b.nodes.length (fun j _=>[(6,.hd (lvl,384) [] 0 (Dj b p j).length none (Dj b p j).length),(17,iI j)]) (fun j _=>[(384,.ar 1 (rI (Dj b p j)) true (Dj b p j).length 0)]) (fun _ _=>True) () (by simp only[EVA,seval,Zc,men]) (by (simp only[EVA,seval,Zc,men]) <;> rfl) trivial ?_
 intro j _ hj _
 simp only[List.length_map,EVA,seval,Zc,men]
 refine Zj (fun hlt=>?_) (fun hge=>?_)
 ·have hja:j<b.nodes.length:=by omega
  have ga:=VK (c:=ZE) hja
  have hle:(Dj b p j).length<=j:=ZaM
  simp only[ga,ZE,List.length_map,EVA,seval,Zc,men]
  refine Zj (fun he=>?_) (fun hne=>?_)
  ·refine⟨by omega,by rw[Zd];omega,Ze () hja ?_ trivial⟩
   rw[Dj,Zbx (by rw[UF hja];exact he),List.length_append,Zfs]
   rfl
  ·refine⟨by rw[Zd];omega,Ze () hja ?_ trivial⟩
   rw[Dj,Zeo (by rw[UF hja];exact hne)]
   rfl
 have:j=b.nodes.length:=by omega
 subst this
 refine Zx (α:=Unit) b.sites.length (fun j _=>[(7,.hd (lvl,416) [] 0 (Xq b p j).length none (Xq b p j).length),(34,iI j)]) (fun j _=>[(416,.ar 1 (rI (Xq b p j)) true (Xq b p j).length 0)]) (fun _ _=>True) () (by simp only[EVA,seval,Zc,men]) (by (simp only[EVA,seval,Zc,men]) <;> rfl) trivial ?_
 intro j _ hj _
 simp only[List.length_map,EVA,seval,Zc,men]
 refine Zj (fun hlt=>?_) (fun hge=>?_)
 ·have hja:j<b.sites.length:=by omega
  have ga:=Zz hja
  have hle:(Xq b p j).length<=j:=ZaM
  simp only[ga,List.length_map,EVA,seval,Zc,men]
  refine Zj (fun he=>?_) (fun hne=>?_)
  ·refine⟨by omega,by rw[Zd];omega,Ze () hja ?_ trivial⟩
   rw[Xq,Zbx (f:=fun j=>g0 b.sites j=p) he,List.length_append,Zfs]
   rfl
  ·refine⟨by rw[Zd];omega,Ze () hja ?_ trivial⟩
   rw[Xq,Zeo (f:=fun j=>g0 b.sites j=p) hne]
   rfl
 ·have:j=b.sites.length:=by omega
  subst this
  rfl
def cP2(x:Int×Int):List Tr:=[tv x.1,tv x.2]
def Zby(l:Int)(i:Nat)(ls:List Int):Nat->List (Int×Int)
 | 0=>[]
 | k+1=>if g0 ls k=l then Zby l i ls k++[((i:Int),(k:Int))] else Zby l i ls k
theorem Zep{l:Int}{i:Nat}{ls:List Int}:∀{k:Nat},(Zby l i ls k).length<=k
 | 0=>Nat.le_refl 0
 | k+1=>by
  unfold Zby
  have:=Zep (l:=l) (i:=i) (ls:=ls) (k:=k)
  split
  ·rw[List.length_append,List.length_singleton];omega
  ·omega
theorem Zha{l:Int}{i:Nat}{ls:List Int}{k:Nat}(h:g0 ls k=l):Zby l i ls (k+1)=Zby l i ls k++[((i:Int),(k:Int))]:=by rw[Zby,if_pos h]
theorem ZiW{l:Int}{i:Nat}{ls:List Int}{k:Nat}(h:¬ g0 ls k=l):Zby l i ls (k+1)=Zby l i ls k:=by rw[Zby,if_neg h]
def Dk(b:TBigraph)(j:Nat):List Int:=((b.nodes[j]?).map TNode.links).getD []
theorem UG{b:TBigraph}{j:Nat}(h:j<b.nodes.length):Dk b j=b.nodes[j].links:=by simp [Dk,h]
def JI(b:TBigraph)(l:Int):Nat->List (Int×Int)
 | 0=>[]
 | i+1=>JI b l i++Zby l i (Dk b i) (Dk b i).length
def ports(b:TBigraph)(l:Int):List (Int×Int):=JI b l b.nodes.length
theorem Uq{b:TBigraph}{l:Int}(h:∀ x∈b.nodes,x.links.length<=1000):∀{j:Nat},j<=b.nodes.length->(JI b l j).length<=j*1000
 | 0,_=>Nat.zero_le _
 | j+1,hj=>by
  have ih:=Uq h (l:=l) (j:=j) (by omega)
  have h1:=Zep (l:=l) (i:=j) (ls:=Dk b j) (k:=(Dk b j).length)
  have h2:=h _ (List.getElem_mem (show j<b.nodes.length by omega))
  rw[JI,List.length_append]
  rw[UG (by omega)] at h1 ⊢
  omega
def Zpl(b:TBigraph)(j:Nat):Int:=((b.inner[j]?).map TWire.link).getD 0
def ZpE(b:TBigraph)(j:Nat):ByteArray:=((b.inner[j]?).map TWire.name).getD ⟨#[]⟩
theorem Zeq{b:TBigraph}{j:Nat}(h:j<b.inner.length):Zpl b j=b.inner[j].link:=by simp [Zpl,h]
theorem ZiX{b:TBigraph}{j:Nat}(h:j<b.inner.length):ZpE b j=b.inner[j].name:=by simp [ZpE,h]
def Wr(b:TBigraph)(l:Int):Nat->List ByteArray
 | 0=>[]
 | j+1=>if Zpl b j=l then Wr b l j++[ZpE b j] else Wr b l j
theorem Zbz{b:TBigraph}{l:Int}:∀{j:Nat},(Wr b l j).length<=j
 | 0=>Nat.le_refl 0
 | j+1=>by
  unfold Wr
  have:=Zbz (b:=b) (l:=l) (j:=j)
  split
  ·rw[List.length_append,List.length_singleton];omega
  ·omega
theorem Zfz{b:TBigraph}{l:Int}{j:Nat}(h:Zpl b j=l):Wr b l (j+1)=Wr b l j++[ZpE b j]:=by rw[Wr,if_pos h]
theorem Zhb{b:TBigraph}{l:Int}{j:Nat}(h:¬ Zpl b j=l):Wr b l (j+1)=Wr b l j:=by rw[Wr,if_neg h]
def ZmE(b:TBigraph)(l:Int):List ByteArray:=Wr b l b.inner.length
theorem ZiY(a b:List (Int×Int)):(a++b).map cP2=a.map cP2++b.map cP2:=List.map_append
theorem Zcs(b:TBigraph)(l:Int)(hn:b.nodes.length<=1000)(hk:∀ x∈b.nodes,x.links.length<=1000)(lvl:Nat)(S:Sto):Sem Proofs.Tryz.prog YP lvl [.ag ((Zg b).map .tr),iI l] S (.ow 2 ((ports b l).map cP2) true) S:=by
 refine Zb ZcO trivial ?_
 simp only[U1,Zg,List.length_map,EVA,seval,Zc,men]
 refine Zx (α:=Unit) b.nodes.length (fun j _=>[(5,.hd (lvl,256) [] 0 (JI b l j).length none (JI b l j).length),(6,iI j)]) (fun j _=>[(256,.ar 2 ((JI b l j).map cP2) true (JI b l j).length 0)]) (fun _ _=>True) () (by simp only[EVA,seval,Zc,men]) (by (simp only[EVA,seval,Zc,men]) <;> rfl) trivial ?_
 intro j _ hj _
 simp only[List.length_map,EVA,seval,Zc,men]
 refine Zj (fun hlt=>?_) (fun hge=>?_)
 ·have hja:j<b.nodes.length:=by omega
  have ga:=VK (c:=ZE) hja
  have hle:=Uq hk (l:=l) hj
  have hlk:=hk _ (List.getElem_mem hja)
  refine Zx (α:=Unit) b.nodes[j].links.length (fun k _=>[(5,.hd (lvl,256) [] 0 (JI b l j++Zby l j b.nodes[j].links k).length none (JI b l j++Zby l j b.nodes[j].links k).length),(7,iI k)]) (fun k _=>[(256,.ar 2 ((JI b l j++Zby l j b.nodes[j].links k).map cP2) true (JI b l j++Zby l j b.nodes[j].links k).length 0)]) (fun _ _=>True) () (by simp only[EVA,seval,Zc,men]) (by (simp only[Zby,List.append_nil,EVA,seval,Zc,men]) <;> rfl) trivial ?_
  intro k _ hkk _
  simp only[ga,ZE,List.length_map,EVA,seval,Zc,men]
  refine Zj (fun hlt2=>?_) (fun hge2=>?_)
  ·have hka:k<b.nodes[j].links.length:=by omega
   have gl:=Zz hka
   have hr:=Zep (l:=l) (i:=j) (ls:=b.nodes[j].links) (k:=k)
   simp only[ga,gl,ZE,List.length_map,EVA,seval,Zc,men]
   refine Zj (fun he=>?_) (fun hne=>?_)
   ·refine⟨by rw[List.length_append];omega,by rw[Zd];omega,Ze () hka ?_ trivial⟩
    rw[Zha he,<-List.append_assoc,List.length_append (bs:=[_]),ZiY (JI b l j++_)]
    rfl
   ·refine⟨by rw[Zd];omega,Ze () hka ?_ trivial⟩
    rw[ZiW hne]
    rfl
  ·have:k=b.nodes[j].links.length:=by omega
   subst this
   refine⟨by rw[Zd];omega,Ze () hja ?_ trivial⟩
   rw[JI,UG hja]
   rfl
 ·have:j=b.nodes.length:=by omega
  subst this
  rfl
theorem Zht(b:TBigraph)(l:Int)(hn:b.inner.length<=4294967296)(lvl:Nat)(S:Sto):Sem Proofs.Tryz.prog Xl lvl [.ag ((Zg b).map .tr),iI l] S (.ow 1 (rS (ZmE b l)) true) S:=by
 refine Zb Zej trivial ?_
 simp only[Zad,Zg,List.length_map,EVA,seval,Zc,men]
 refine Zx (α:=Unit) b.inner.length (fun j _=>[(5,.hd (lvl,224) [] 0 (Wr b l j).length none (Wr b l j).length),(6,iI j)]) (fun j _=>[(224,.ar 1 (rS (Wr b l j)) true (Wr b l j).length 0)]) (fun _ _=>True) () (by simp only[EVA,seval,Zc,men]) (by (simp only[EVA,seval,Zc,men]) <;> rfl) trivial ?_
 intro j _ hj _
 simp only[List.length_map,EVA,seval,Zc,men]
 refine Zj (fun hlt=>?_) (fun hge=>?_)
 ·have hja:j<b.inner.length:=by omega
  have ga:=VK (c:=JA) hja
  have hle:=Zbz (b:=b) (l:=l) (j:=j)
  simp only[ga,JA,List.length_map,EVA,seval,Zc,men]
  refine Zj (fun he=>?_) (fun hne=>?_)
  ·refine⟨by omega,by rw[Zd];omega,Ze () hja ?_ trivial⟩
   rw[Zfz (by rw[Zeq hja];exact he),List.length_append,Zg8,ZiX hja]
   rfl
  ·refine⟨by rw[Zd];omega,Ze () hja ?_ trivial⟩
   rw[Zhb (by rw[Zeq hja];exact hne)]
   rfl
 ·have:j=b.inner.length:=by omega
  subst this
  rfl
theorem Za5(b:TBigraph)(l:Int)(hn:b.nodes.length<=1000)(hk:∀ x∈b.nodes,x.links.length<=1000)(hi:b.inner.length<=4294967296)(lvl:Nat)(S:Sto):Sem Proofs.Tryz.prog Z8 lvl [.ag ((Zg b).map .tr),iI l] S (.tu [.ow 2 ((ports b l).map cP2) true,.ow 1 (rS (ZmE b l)) true]) S:=by
 refine Zb Wn ⟨trivial,trivial,trivial⟩ ?_
 simp only[VD,Zg,List.length_map,EVA,seval,Zc,men]
 refine Zx (α:=Unit) b.nodes.length (fun j _=>[(6,.hd (lvl,448) [] 0 (JI b l j).length none (JI b l j).length),(19,iI j)]) (fun j _=>[(448,.ar 2 ((JI b l j).map cP2) true (JI b l j).length 0)]) (fun _ _=>True) () (by simp only[EVA,seval,Zc,men]) (by (simp only[EVA,seval,Zc,men]) <;> rfl) trivial ?_
 intro j _ hj _
 simp only[List.length_map,EVA,seval,Zc,men]
 refine Zj (fun hlt=>?_) (fun hge=>?_)
 ·have hja:j<b.nodes.length:=by omega
  have ga:=VK (c:=ZE) hja
  have hle:=Uq hk (l:=l) hj
  have hlk:=hk _ (List.getElem_mem hja)
  simp only[ga,ZE,List.length_map,EVA,seval,Zc,men]
  refine Zx (α:=Unit) b.nodes[j].links.length (fun k _=>[(6,.hd (lvl,448) [] 0 (JI b l j++Zby l j b.nodes[j].links k).length none (JI b l j++Zby l j b.nodes[j].links k).length),(27,iI k)]) (fun k _=>[(448,.ar 2 ((JI b l j++Zby l j b.nodes[j].links k).map cP2) true (JI b l j++Zby l j b.nodes[j].links k).length 0)]) (fun _ _=>True) () (by simp only[EVA,seval,Zc,men]) (by (simp only[Zby,List.append_nil,EVA,seval,Zc,men]) <;> rfl) trivial ?_
  intro k _ hkk _
  simp only[ga,ZE,List.length_map,EVA,seval,Zc,men]
  refine Zj (fun hlt2=>?_) (fun hge2=>?_)
  ·have hka:k<b.nodes[j].links.length:=by omega
   have gl:=Zz hka
   have hr:=Zep (l:=l) (i:=j) (ls:=b.nodes[j].links) (k:=k)
   simp only[ga,gl,ZE,List.length_map,EVA,seval,Zc,men]
   refine Zj (fun he=>?_) (fun hne=>?_)
   ·refine⟨by rw[List.length_append];omega,by rw[Zd];omega,Ze () hka ?_ trivial⟩
    rw[Zha he,<-List.append_assoc,List.length_append (bs:=[_]),ZiY (JI b l j++_)]
    rfl
   ·refine⟨by rw[Zd];omega,Ze () hka ?_ trivial⟩
    rw[ZiW hne]
    rfl
  ·have:k=b.nodes[j].links.length:=by omega
   subst this
   refine⟨by rw[Zd];omega,Ze () hja ?_ trivial⟩
   rw[JI,UG hja]
   rfl
 have:j=b.nodes.length:=by omega
 subst this
 refine Zx (α:=Unit) b.inner.length (fun j _=>[(7,.hd (lvl,480) [] 0 (Wr b l j).length none (Wr b l j).length),(46,iI j)]) (fun j _=>[(480,.ar 1 (rS (Wr b l j)) true (Wr b l j).length 0)]) (fun _ _=>True) () (by simp only[EVA,seval,Zc,men]) (by (simp only[EVA,seval,Zc,men]) <;> rfl) trivial ?_
 intro j _ hj _
 simp only[List.length_map,EVA,seval,Zc,men]
 refine Zj (fun hlt=>?_) (fun hge=>?_)
 ·have hja:j<b.inner.length:=by omega
  have ga:=VK (c:=JA) hja
  have hle:=Zbz (b:=b) (l:=l) (j:=j)
  simp only[ga,JA,List.length_map,EVA,seval,Zc,men]
  refine Zj (fun he=>?_) (fun hne=>?_)
  ·refine⟨by omega,by rw[Zd];omega,Ze () hja ?_ trivial⟩
   rw[Zfz (by rw[Zeq hja];exact he),List.length_append,Zg8,ZiX hja]
   rfl
  ·refine⟨by rw[Zd];omega,Ze () hja ?_ trivial⟩
   rw[Zhb (by rw[Zeq hja];exact hne)]
   rfl
 ·have:j=b.inner.length:=by omega
  subst this
  rfl
end Go.Fd

/-
  REDEXES, BOTH SIDES. Own work.
-/
namespace Go.Fd
set_option maxRecDepth 20000
def idle(b:TBigraph)(l:Int):Prop:=(ports b l).length=0/\(ZmE b l).length=0
structure small (b:TBigraph):Prop where
 nodes:b.nodes.length<=8
 links:∀ x∈b.nodes,x.links.length<=1000
 sites:b.sites.length<=4
 outer:b.outer.length<=16
 inner:b.inner.length<=16
 roots:0<=b.roots/\b.roots<=4
 edges:0<=b.edges/\b.edges<=8
theorem Zhu{sig:List TControl}(h:UM sig)(c:Int):Wq sig c<=3:=by
 unfold Wq
 cases e:sig[c.toNat]? with
 | none=>decide
 | some x =>
  obtain⟨hl,rfl⟩:=List.getElem?_eq_some_iff.1 e
  exact((h.1 _ hl).1).2.1.2
theorem bigOK.small{sig:List TControl}{b:TBigraph}(h:bigOK sig b):small b :=
 ⟨h.nodesL,fun x hx=>by
  obtain⟨k,hk,rfl⟩:=List.getElem_of_mem hx
  have h1:=(h.nodes k hk).ports
  have h2:=Zhu h.sg b.nodes[k].control
  omega,h.sitesL,h.outer.2,by have:=h.inn.2;rw[Zen] at this;exact this,h.roots,h.edges⟩
theorem Zhv(b:TBigraph)(l:Int)(hs:small b)(lvl:Nat)(S:Sto):Sem Proofs.Tryz.prog Xk lvl [.ag ((Zg b).map .tr),iI l] S (iB (dc (idle b l))) S:=by
 have s1:=hs.nodes
 have s2:=hs.inner
 refine Zb Zei trivial ?_
 simp only[D9,Zg,List.length_map,EVA,seval,Zc,men]
 refine Za (Zcs b l (by omega) hs.links) ?_
 by_cases h1:(ports b l).length=0
 ·have h1':((ports b l).length:Int)=0:=by omega
  simp only[h1,h1',Zg,List.length_map,EVA,seval,Zc,men]
  refine Za (Zht b l (by omega)) ?_
  simp only[List.length_map,EVA,seval,Zc,men]
  have hiff:idle b l↔((ZmE b l).length:Int)=0:=⟨fun h=>by have:=h.2;omega,fun h=>⟨h1,by omega⟩⟩
  rw[Jf hiff,JH]
 ·have h1':¬ ((ports b l).length:Int)=0:=by omega
  simp only[h1',Zg,List.length_map,EVA,seval,Zc,men]
  rw[Zf fun h:idle b l=>h1 h.1]
theorem Zhw(b:TBigraph)(l:Int)(hs:small b)(lvl:Nat)(S:Sto):Sem Proofs.Tryz.prog JS lvl [.ag ((Zg b).map .tr),iI l] S (iB (dc (idle b l))) S:=by
 have s1:=hs.nodes
 have s2:=hs.inner
 have e1:(ports b l).length<=b.nodes.length*1000:=Uq hs.links (Nat.le_refl _)
 have e2:(ZmE b l).length<=b.inner.length:=Zbz
 refine Zb Ui trivial ?_
 simp only[Qk,Zg,List.length_map,EVA,seval,Zc,men]
 refine Za (Za5 b l (by omega) hs.links (by omega)) ?_
 simp only[List.length_map,EVA,seval,Zc,men]
 refine⟨by rw[Zd];omega,?_⟩
 have hiff:idle b l↔((ports b l).length:Int)+(ZmE b l).length=0:=⟨fun h=>by have:=h.1;have:=h.2;omega,fun h=>⟨by omega,by omega⟩⟩
 rw[Jf hiff,JH]
structure solid (b:TBigraph):Prop where
 inner:b.inner.length=0
 roots:¬ b.roots=0
 root:∀ r:Nat,(r:Int)<b.roots -> ¬ (QR b (-1-r)).length=0/\(Zaf b (-1-r)).length=0
 node:∀ i:Nat,i<b.nodes.length->(Zaf b i).length<=1
 link:∀ l:Nat,(l:Int)<b.edges+b.outer.length -> ¬ idle b l
theorem Zgp(b:TBigraph)(hs:small b)(lvl:Nat)(S:Sto):Sem Proofs.Tryz.prog QC lvl [.ag ((Zg b).map .tr)] S (iB (dc (solid b))) S:=by
 have s1:=hs.nodes
 have s2:=hs.inner
 have s3:=hs.sites
 have s4:=hs.outer
 obtain⟨r1,r2⟩:=hs.roots
 obtain⟨e1,e2⟩:=hs.edges
 refine Zb ZcK trivial ?_
 simp only[UX,Zg,List.length_map,EVA,seval,Zc,men]
 by_cases h1:(0:Int)<b.inner.length
 ·simp only[h1,List.length_map,EVA,seval,Zc,men]
  rw[Zf fun h:solid b=>by have:=h.inner;omega]
 by_cases h2:b.roots=0
 ·simp only[h1,h2,List.length_map,EVA,seval,Zc,men]
  rw[Zf fun h:solid b=>h.roots h2]
 simp only[h1,h2,List.length_map,EVA,seval,Zc,men]
 refine Zx (α:=Unit) b.roots.toNat (fun j _=>[(3,iI j)]) (fun j _=>[]) (fun j _=>∀ r,r<j -> ¬ (QR b (-1-(r:Nat))).length=0/\(Zaf b (-1-(r:Nat))).length=0) () (by simp only[EVA,seval,Zc,men]) (by (simp only[EVA,seval,Zc,men]) <;> rfl) (fun k hk=>absurd hk (Nat.not_lt_zero k)) ?_
 intro j _ hj hA
 simp only[List.length_map,EVA,seval,Zc,men]
 refine Zj (fun hlt=>?_) (fun hge=>?_)
 ·have hja:j<b.roots.toNat:=by omega
  refine⟨by rw[Zd];omega,?_⟩
  refine Za (Zdl b (-1-(j:Nat)) (by omega)) ?_
  by_cases p1:(QR b (-1-(j:Nat))).length=0
  ·have p1':((QR b (-1-(j:Nat))).length:Int)=0:=by omega
   simp only[p1,p1',List.length_map,EVA,seval,Zc,men]
   rw[Zf fun h:solid b=>(h.root j (by omega)).1 p1]
  have p1':¬ ((QR b (-1-(j:Nat))).length:Int)=0:=by omega
  simp only[p1',List.length_map,EVA,seval,Zc,men]
  refine⟨by rw[Zd];omega,?_⟩
  refine Za (Zcr b (-1-(j:Nat)) (by omega)) ?_
  simp only[List.length_map,EVA,seval,Zc,men]
  refine Zj (fun p2=>?_) (fun p2=>?_)
  ·rw[Zf fun h:solid b=>by have:=(h.root j (by omega)).2;omega]
  ·exact⟨by rw[Zd];omega,Ze () hja rfl (UN hA ⟨p1,by omega⟩)⟩
 have hj1:j=b.roots.toNat:=by omega
 subst hj1
 refine Zx (α:=Unit) b.nodes.length (fun j _=>[(4,iI j)]) (fun j _=>[]) (fun j _=>∀ i,i<j->(Zaf b (i:Nat)).length<=1) () (by simp only[EVA,seval,Zc,men]) (by (simp only[EVA,seval,Zc,men]) <;> rfl) (fun k hk=>absurd hk (Nat.not_lt_zero k)) ?_
 intro j _ hj hB
 simp only[List.length_map,EVA,seval,Zc,men]
 refine Zj (fun hlt=>?_) (fun hge=>?_)
 ·have hja:j<b.nodes.length:=by omega
  refine Za (Zcr b (j:Nat) (by omega)) ?_
  simp only[List.length_map,EVA,seval,Zc,men]
  refine Zj (fun p2=>?_) (fun p2=>?_)
  ·rw[Zf fun h:solid b=>by have:=h.node j hja;omega]
  ·exact⟨by rw[Zd];omega,Ze () hja rfl (UN hB (by omega))⟩
 have hj1:j=b.nodes.length:=by omega
 subst hj1
 refine Zx (α:=Unit) (b.edges+b.outer.length).toNat (fun j _=>[(5,iI j)]) (fun j _=>[]) (fun j _=>∀ i,i<j -> ¬ idle b (i:Nat)) () (by simp only[EVA,seval,Zc,men]) (by (simp only[EVA,seval,Zc,men]) <;> rfl) (fun k hk=>absurd hk (Nat.not_lt_zero k)) ?_
 intro j _ hj hC
 simp only[List.length_map,EVA,seval,Zc,men]
 refine⟨by rw[Zd];omega,?_⟩
 refine Zj (fun hlt=>?_) (fun hge=>?_)
 ·have hja:j<(b.edges+b.outer.length).toNat:=by omega
  refine Za (Zhv b (j:Nat) hs) ?_
  cases hc:dc (idle b (j:Nat))
  ·simp only[EVA,seval,Zc,men]
   exact⟨by rw[Zd];omega,Ze () hja rfl (UN hC (dc_not.1 hc))⟩
  ·simp only[EVA,seval,Zc,men]
   rw[Zf fun h:solid b=>h.link j (by omega) (dc_iff.1 hc)]
 have hj1:j=(b.edges+b.outer.length).toNat:=by omega
 subst hj1
 have:solid b:=⟨by omega,h2,fun r hr=>hA r (by omega),hB,fun l hl=>hC l (by omega)⟩
 rw[ZD this]
theorem Zbd(b:TBigraph)(hs:small b)(lvl:Nat)(S:Sto):Sem Proofs.Tryz.prog Qy lvl [.ag ((Zg b).map .tr)] S (iB (dc (solid b))) S:=by
 have s1:=hs.nodes
 have s2:=hs.inner
 have s3:=hs.sites
 have s4:=hs.outer
 obtain⟨r1,r2⟩:=hs.roots
 obtain⟨e1,e2⟩:=hs.edges
 refine Zb ZcJ trivial ?_
 simp only[UW,Zg,List.length_map,EVA,seval,Zc,men]
 by_cases h1:(0:Int)<b.inner.length
 ·simp only[h1,List.length_map,EVA,seval,Zc,men]
  rw[Zf fun h:solid b=>by have:=h.inner;omega]
 by_cases h2:b.roots=0
 ·simp only[h1,h2,List.length_map,EVA,seval,Zc,men]
  rw[Zf fun h:solid b=>h.roots h2]
 simp only[h1,h2,List.length_map,EVA,seval,Zc,men]
 refine⟨by rw[Zd];omega,?_⟩
 refine Zx (α:=Unit) (b.roots+b.nodes.length).toNat (fun j _=>[(3,iI (-b.roots+j))]) (fun j _=>[]) (fun j _=>∀ r,r<j->((-b.roots+(r:Nat)<0 -> ¬ (QR b (-b.roots+(r:Nat))).length=0/\(Zaf b (-b.roots+(r:Nat))).length=0)/\(Zaf b (-b.roots+(r:Nat))).length<=1)) () (by simp only[EVA,seval,Zc,men]) (by (simp only[Int.natCast_zero,Int.cast_ofNat_Int,Int.add_zero,EVA,seval,Zc,men]) <;> rfl) (fun k hk=>absurd hk (Nat.not_lt_zero k)) ?_
 intro j _ hj hA
 simp only[List.length_map,EVA,seval,Zc,men]
 refine Zj (fun hlt=>?_) (fun hge=>?_)
 ·have hja:j<(b.roots+b.nodes.length).toNat:=by omega
  refine Za (XP b (-b.roots+(j:Nat)) (by omega) (by omega)) ?_
  have hno:(solid b->False)->dc (solid b)=false:=fun h=>Zf h
  have hroot:solid b -> -b.roots+(j:Int)<0 -> ¬ (QR b (-b.roots+(j:Nat))).length=0/\(Zaf b (-b.roots+(j:Nat))).length=0:=fun h hn=>by
   have:=h.root (b.roots-1-j).toNat (by omega)
   have e:(-1-((b.roots-1-j).toNat:Int)) = -b.roots+j:=by omega
   rw[e] at this
   exact this
  have hnode:solid b -> ¬ -b.roots+(j:Int)<0->(Zaf b (-b.roots+(j:Nat))).length<=1:=fun h hn=>by
   have:=h.node (-b.roots+j).toNat (by omega)
   have e:(((-b.roots+j).toNat:Nat):Int) = -b.roots+j:=by omega
   rw[e] at this
   exact this
  have hnext:(-b.roots+(j:Int))+1 = -b.roots+((j+1:Nat):Int):=by omega
  by_cases q:-b.roots+(j:Int)<0
  ·by_cases k0:(QR b (-b.roots+(j:Nat))).length=0
   ·have k0':((QR b (-b.roots+(j:Nat))).length:Int)=0:=by omega
    simp only[q,k0,k0',List.length_map,EVA,seval,Zc,men]
    rw[hno fun h=>(hroot h q).1 k0]
   have k0':¬ ((QR b (-b.roots+(j:Nat))).length:Int)=0:=by omega
   by_cases k1:(Zaf b (-b.roots+(j:Nat))).length=0
   ·have k1a:¬ (0:Int)<((Zaf b (-b.roots+(j:Nat))).length:Int):=by omega
    have k1b:¬ (1:Int)<((Zaf b (-b.roots+(j:Nat))).length:Int):=by omega
    simp only[q,k0',k1a,k1b,List.length_map,EVA,seval,Zc,men]
    refine⟨by rw[Zd];omega,?_⟩
    rw[hnext]
    exact Ze () hja rfl (UN hA ⟨fun _=>⟨k0,k1⟩,by omega⟩)
   ·have k1a:(0:Int)<((Zaf b (-b.roots+(j:Nat))).length:Int):=by omega
    simp only[q,k0',k1a,List.length_map,EVA,seval,Zc,men]
    rw[hno fun h=>k1 (hroot h q).2]
  ·simp only[q,List.length_map,EVA,seval,Zc,men]
   refine Zj (fun k2=>?_) (fun k2=>?_)
   ·rw[hno fun h=>by have:=hnode h q;omega]
   ·refine⟨by rw[Zd];omega,?_⟩
    rw[hnext]
    exact Ze () hja rfl (UN hA ⟨fun h=>absurd h q,by omega⟩)
 have hj1:j=(b.roots+b.nodes.length).toNat:=by omega
 subst hj1
 refine⟨by rw[Zd];omega,?_⟩
 refine Zx (α:=Unit) (b.edges+b.outer.length).toNat (fun j _=>[(55,iI j)]) (fun j _=>[]) (fun j _=>∀ i,i<j -> ¬ idle b (i:Nat)) () (by simp only[EVA,seval,Zc,men]) (by (simp only[EVA,seval,Zc,men]) <;> rfl) (fun k hk=>absurd hk (Nat.not_lt_zero k)) ?_
 intro j _ hj hC
 simp only[List.length_map,EVA,seval,Zc,men]
 refine Zj (fun hlt=>?_) (fun hge=>?_)
 ·have hja:j<(b.edges+b.outer.length).toNat:=by omega
  refine Za (Zhw b (j:Nat) hs) ?_
  cases hc:dc (idle b (j:Nat))
  ·simp only[EVA,seval,Zc,men]
   exact⟨by rw[Zd];omega,Ze () hja rfl (UN hC (dc_not.1 hc))⟩
  ·simp only[EVA,seval,Zc,men]
   rw[Zf fun h:solid b=>h.link j (by omega) (dc_iff.1 hc)]
 have hj1:j=(b.edges+b.outer.length).toNat:=by omega
 subst hj1
 have:solid b:=⟨by omega,h2,fun r hr=>by
  have:=(hA (b.roots-1-r).toNat (by omega)).1
  have e:-b.roots+((b.roots-1-r).toNat:Int) = -1-r:=by omega
  rw[e] at this
  exact this (by omega),fun i hi=>by
  have:=(hA (b.roots+i).toNat (by omega)).2
  have e:-b.roots+((b.roots+i).toNat:Int)=i:=by omega
  rw[e] at this
  exact this,fun l hl=>hC l (by omega)⟩
 rw[ZD this]
end Go.Fd

/-
  PORTS OF EACH SORT, FAULTS: WHAT THEY ARE. Own work.
-/
namespace Go.Fd
set_option maxRecDepth 20000
def UH{α:Type}(f:Nat->List α):Nat->List α
 | 0=>[]
 | j+1=>UH f j++f j
theorem YJ{α:Type}{f:Nat->List α}{j:Nat}:UH f (j+1)=UH f j++f j:=rfl
theorem ZfA{α:Type}{f:Nat->List α}:UH f 0=[]:=rfl
theorem Dl{α:Type}{f:Nat->List α}{B:Nat}:∀{j:Nat},(∀ k,k<j->(f k).length<=B)->(UH f j).length<=j*B
 | 0,_=>Nat.zero_le _
 | j+1,h=>by
  have ih:=Dl (f:=f) (B:=B) (j:=j) fun k hk=>h k (by omega)
  have h1:=h j (by omega)
  rw[UH,List.length_append,Nat.succ_mul]
  omega
theorem Zer{l:Int}{i:Nat}{ls:List Int}{p:Int×Int}:∀{k:Nat},p∈Zby l i ls k->∃ m:Nat,m<k/\p=((i:Int),(m:Int))
 | 0,h=>by simp [Zby] at h
 | k+1,h=>by
  unfold Zby at h
  split at h
  ·rcases List.mem_append.1 h with h | h
   ·obtain⟨m,h1,h2⟩:=Zer h
    exact⟨m,by omega,h2⟩
   ·exact⟨k,by omega,by simpa using h⟩
  ·obtain⟨m,h1,h2⟩:=Zer h
   exact⟨m,by omega,h2⟩
theorem Zdm{b:TBigraph}{l:Int}{p:Int×Int}:∀{j:Nat},p∈JI b l j->∃ i m:Nat,i<j/\m<(Dk b i).length/\p=((i:Int),(m:Int))
 | 0,h=>by simp [JI] at h
 | j+1,h=>by
  rw[JI] at h
  rcases List.mem_append.1 h with h | h
  ·obtain⟨i,m,h1,h2,h3⟩:=Zdm h
   exact⟨i,m,by omega,h2,h3⟩
  ·obtain⟨m,h1,h2⟩:=Zer h
   exact⟨j,m,by omega,h1,h2⟩
theorem Zag{f:Nat->Prop}[DecidablePred f]{n:Int}:∀{j:Nat},n∈Zgo f j->∃ i:Nat,i<j/\n=i/\f i
 | 0,h=>by simp [Zgo] at h
 | j+1,h=>by
  unfold Zgo at h
  split at h
  ·rename_i hf
   rcases List.mem_append.1 h with h | h
   ·obtain⟨i,h1,h2⟩:=Zag h
    exact⟨i,by omega,h2⟩
   ·exact⟨j,by omega,by simpa using h,hf⟩
  ·obtain⟨i,h1,h2⟩:=Zag h
   exact⟨i,by omega,h2⟩
def ZiZ(s:TSorting)(c:Int):List Int:=(s.sorts[c.toNat]?).getD []
def Zhc(s:TSorting)(c:Int):List Int:=(s.nest[c.toNat]?).getD []
def ZfB(s:TSorting)(b:TBigraph)(p:Int×Int):Int:=g0 (ZiZ s (Ye b p.1)) p.2.toNat
def bump(l:List Int)(k:Int):List Int:=l.set k.toNat (g0 l k.toNat+1)
def onN(s:TSorting)(b:TBigraph)(ps:List (Int×Int)):List Int:=ps.foldl (fun l p=>bump l (ZfB s b p)) (List.replicate s.most.length 0)
def onL(s:TSorting)(b:TBigraph)(l:Int):List Int:=onN s b (ports b l)
structure Bn (n:Nat) (B:Int) (l:List Int):Prop where
 len:l.length=n
 bd:∀ x∈l,0<=x/\x<=B
theorem Bn.g{n:Nat}{B:Int}{l:List Int}(h:Bn n B l)(hB:0<=B)(k:Nat):0<=g0 l k/\g0 l k<=B:=by
 by_cases hk:k<l.length
 ·have:g0 l k=l[k]:=by simp [hk]
  rw[this]
  exact h.bd _ (List.getElem_mem hk)
 ·have:g0 l k=0:=by simp [g0,List.getD,List.getElem?_eq_none (Nat.le_of_not_lt hk)]
  rw[this]
  omega
theorem Bn.set{n:Nat}{B C:Int}{l:List Int}(h:Bn n B l)(hB:B<=C){k:Nat}{v:Int}(h0:0<=v)(h1:v<=C):Bn n C (l.set k v):=by
 refine⟨by rw[List.length_set];exact h.len,fun x hx=>?_⟩
 rcases List.mem_or_eq_of_mem_set hx with hx | hx
 ·have:=h.bd x hx
  omega
 ·omega
theorem Bn.mono{n:Nat}{B C:Int}{l:List Int}(h:Bn n B l)(hB:B<=C):Bn n C l:=⟨h.len,fun x hx=>by have:=h.bd x hx;omega⟩
theorem Zpm(n:Nat):Bn n 0 (List.replicate n 0):=⟨List.length_replicate,fun x hx=>by
 have:=List.eq_of_mem_replicate hx
 omega⟩
theorem Bn.bump{n:Nat}{B:Int}{l:List Int}(h:Bn n B l)(hB:0<=B)(k:Int):Bn n (B+1) (bump l k):=by
 have:=h.g hB k.toNat
 exact h.set (by omega) (by omega) (by omega)
theorem Zi0{n:Nat}(f:Int×Int->Int):∀(ps:List (Int×Int)) {B:Int} {l:List Int},0<=B->Bn n B l->Bn n (B+ps.length) (ps.foldl (fun l p=>bump l (f p)) l)
 | [],B,l,_,h=>by simpa using h
 | p::r,B,l,hB,h=>by
  have:=Zi0 f r (B:=B+1) (by omega) (h.bump hB (f p))
  rw[List.foldl_cons,List.length_cons]
  exact this.mono (by omega)
theorem ZfC(s:TSorting)(b:TBigraph)(ps:List (Int×Int)):Bn s.most.length ps.length (onN s b ps):=by
 have:=Zi0 (n:=s.most.length) (ZfB s b) ps (Int.le_refl 0) (Zpm _)
 rw[Int.zero_add] at this
 exact this
theorem Zhd{s:TSorting}{b:TBigraph}{ps:List (Int×Int)}{j:Nat}(h:j<ps.length):onN s b (ps.take (j+1))=bump (onN s b (ps.take j)) (ZfB s b ps[j]):=by
 unfold onN
 rw[List.take_succ_eq_append_getElem h,List.foldl_append]
 rfl
theorem Zes{b:TBigraph}(hs:small b)(l:Int):(ports b l).length<=8000:=by
 have h1:=Uq (l:=l) hs.links (j:=b.nodes.length) (Nat.le_refl _)
 have h2:=hs.nodes
 unfold ports
 omega
theorem Zdn{s:TSorting}{b:TBigraph}(hs:small b)(l:Int):Bn s.most.length 8000 (onL s b l):=(ZfC s b (ports b l)).mono (by have:=Zes hs l;omega)
structure two (sig:List TControl) (s:TSorting) (b:TBigraph):Prop where
 srt:sortOK sig s
 big:bigOK sig b
theorem two.ctl{sig:List TControl}{s:TSorting}{b:TBigraph}(h:two sig s b){i:Nat}(hi:i<b.nodes.length):∃ c:Nat,b.nodes[i].control=c/\Ye b i=c/\c<sig.length/\c<s.nest.length/\c<s.sorts.length:=by
 have hc:=(h.big.nodes i hi).ctl
 refine⟨b.nodes[i].control.toNat,by omega,?_,by omega,by rw[h.srt.nestL];omega,by rw[h.srt.sortsL];omega⟩
 simp [Ye,hi]
 omega
theorem two.port{sig:List TControl}{s:TSorting}{b:TBigraph}(h:two sig s b){l:Int}{p:Int×Int}(hp:p∈ports b l) :
  ∃(i m c q:Nat) (hi:i<b.nodes.length) (hc:c<s.sorts.length),p=((i:Int),(m:Int))/\b.nodes[i].control=c/\m<s.sorts[c].length/\g0 s.sorts[c] m=q/\q<s.most.length/\ZfB s b p=q:=by
 obtain⟨i,m,hi,hm,rfl⟩:=Zdm hp
 obtain⟨c,e1,e2,c1,c2,c3⟩:=h.ctl hi
 have hn:=h.big.nodes i hi
 have hs:=h.srt.sorts c c3 c1
 rw[UG hi] at hm
 have hpt:=hn.ports
 have e3:Wq sig b.nodes[i].control=sig[c].ports:=by simp [Wq,e1,c1]
 rw[e3,<-hs.1] at hpt
 have hm2:m<s.sorts[c].length:=by omega
 have hg:g0 s.sorts[c] m=s.sorts[c][m]:=by simp [hm2]
 have hq:=hs.2 _ (List.getElem_mem hm2)
 refine⟨i,m,c,(s.sorts[c][m]).toNat,hi,c3,rfl,e1,hm2,by omega,by omega,?_⟩
 simp only[ZfB,e2,ZiZ,Int.toNat_natCast,List.getElem?_eq_getElem c3,Option.getD_some]
 omega
def chs(s:TSorting)(b:TBigraph)(p:Int):List Int:=if p<0 then s.tops else Zhc s (Ye b p)
def ZpF(s:TSorting)(i:Nat):A2:=(s.apart[i]?).getD (0,0)
def Yx(s:TSorting)(l:Int)(cs:List Int)(k:Nat):List TFault:=if g0 s.most k<g0 cs k then [⟨3,l,k⟩] else []
def JV(s:TSorting)(l:Int)(cs:List Int)(i:Nat):List TFault:=if 0<g0 cs (ZpF s i).1.toNat/\0<g0 cs (ZpF s i).2.toNat then [⟨4,l,i⟩] else []
def Zah(s:TSorting)(l:Int)(cs:List Int):List TFault:=UH (Yx s l cs) cs.length++UH (JV s l cs) s.apart.length
def ZkU(b:TBigraph):Nat:=(b.edges+b.outer.length).toNat
theorem ZbA{s:TSorting}{l:Int}{cs:List Int}{k:Nat}:(Yx s l cs k).length<=1:=by unfold Yx;split <;> simp
theorem ZfD{s:TSorting}{l:Int}{cs:List Int}{k:Nat}:(JV s l cs k).length<=1:=by unfold JV;split <;> simp
theorem Zi1{s:TSorting}{i:Nat}(h:i<s.apart.length):ZpF s i=s.apart[i]:=by simp [ZpF,h]
theorem sortOK.apartL{sig:List TControl}{s:TSorting}(h:sortOK sig s):s.apart.length<=16:=by
 have hm:=h.many.2
 have key:∀ i:Nat,∀ hi:i<s.apart.length,(i:Int)<=4*s.apart[i].1+s.apart[i].2:=by
  intro i
  induction i with
  | zero=>intro hi;have:=h.apart 0 hi;omega
  | succ i ih =>
   intro hi
   have h1:=ih (by omega)
   have h2:=h.apart (i+1) hi
   have h3:=h.apart i (by omega)
   have h4:=h2.2.2.2 (by omega)
   simp only[Nat.add_sub_cancel] at h4
   unfold lt2 at h4
   rcases h4 with h4 | ⟨h4,h5⟩ <;> omega
 by_cases h0:s.apart.length<=16
 ·exact h0
 ·have h1:=key 16 (by omega)
  have h2:=h.apart 16 (by omega)
  omega
theorem Zi2{l:List Int}{q:Nat}{v:Int}(h:q<l.length):Y2 (rI l) [] q 0 (.v (.int .i64 v))=rI (l.set q v):=by
 rw[Qa (Zz h)]
 simp only[List.map_set]
 rfl
theorem Zhe(a b:List TFault):(a++b).map DH=a.map DH++b.map DH:=List.map_append
end Go.Fd

/-
  PORTS OF EACH SORT, FAULTS, CHOICES, BOTH SIDES. Own work.
-/
namespace Go.Fd
set_option maxRecDepth 20000
theorem Zet(sig:List TControl)(s:TSorting)(b:TBigraph)(l:Int)(h2:two sig s b)(lvl:Nat)(S:Sto):Sem Proofs.Tryz.prog Vv lvl [.ag ((Zh s).map .tr),.ag ((Zg b).map .tr),iI l] S (.ow 1 (rI (onL s b l)) true) S:=by
 have hsm:=h2.big.small
 have hmany:=h2.srt.many
 refine Zb Zgj trivial ?_
 simp only[Zb8,Zh,Zg,List.length_map,EVA,seval,Zc,men]
 refine⟨by omega,?_⟩
 refine Za (Zcs b l (by have:=hsm.nodes;omega) hsm.links) ?_
 simp only[List.length_map,EVA,seval,Zc,men]
 refine Zx (α:=Unit) (ports b l).length (fun j _=>[(9,iI j)]) (fun j _=>[(448,.ar 1 (rI (onN s b ((ports b l).take j))) true s.most.length 0)]) (fun _ _=>True) () (by simp only[EVA,seval,Zc,men]) (by (simp only[ZkS,EVA,seval,Zc,men]) <;> rfl) trivial ?_
 intro j _ hj _
 simp only[List.length_map,EVA,seval,Zc,men]
 refine Zj (fun hlt=>?_) (fun hge=>?_)
 ·have hja:j<(ports b l).length:=by omega
  obtain⟨i,m,c,q,hi,hc,e1,e2,hm,e3,hq,e4⟩:=h2.port (List.getElem_mem hja)
  have gp:=VK (c:=cP2) hja
  rw[e1] at gp
  have gn:=VK (c:=ZE) hi
  have gs:=VK (c:=eIS) hc
  have gm:=Zz hm
  have hbn:=ZfC s b ((ports b l).take j)
  have hq2:q<(onN s b ((ports b l).take j)).length:=by rw[hbn.len];exact hq
  have gq:=Zz hq2
  have hg:=hbn.g (by omega) q
  have hl8:=Zes hsm l
  rw[List.length_take] at hg
  simp only[gp,cP2,gn,ZE,e2,gs,gm,e3,gq,hq,Int.toNat_natCast,Int.natCast_nonneg,List.length_map,isSc,EVA,seval,Zc,men]
  refine⟨by rw[Zd];omega,by rw[Zd];omega,Ze () hja ?_ trivial⟩
  rw[Zi2 hq2,Zhd hja,e4]
  rfl
 ·have:j=(ports b l).length:=by omega
  subst this
  rw[List.take_length]
  refine⟨(ZfC s b (ports b l)).len.symm,?_⟩
  rfl
theorem Dm(sig:List TControl)(s:TSorting)(b:TBigraph)(l:Int)(h2:two sig s b)(lvl:Nat)(S:Sto):Sem Proofs.Tryz.prog ZZ lvl [.ag ((Zh s).map .tr),.ag ((Zg b).map .tr),iI l] S (.ow 1 (rI (onL s b l)) true) S:=by
 have hsm:=h2.big.small
 have hmany:=h2.srt.many
 refine Zb WR trivial ?_
 simp only[VN,Zh,Zg,List.length_map,EVA,seval,Zc,men]
 refine⟨by omega,?_⟩
 refine Za (Za5 b l (by have:=hsm.nodes;omega) hsm.links (by have:=hsm.inner;omega)) ?_
 simp only[List.length_map,EVA,seval,Zc,men]
 refine Zx (α:=Unit) (ports b l).length (fun j _=>[(24,iI j)]) (fun j _=>[(480,.ar 1 (rI (onN s b ((ports b l).take j))) true s.most.length 0)]) (fun _ _=>True) () (by simp only[EVA,seval,Zc,men]) (by (simp only[ZkS,EVA,seval,Zc,men]) <;> rfl) trivial ?_
 intro j _ hj _
 simp only[List.length_map,EVA,seval,Zc,men]
 refine Zj (fun hlt=>?_) (fun hge=>?_)
 ·have hja:j<(ports b l).length:=by omega
  obtain⟨i,m,c,q,hi,hc,e1,e2,hm,e3,hq,e4⟩:=h2.port (List.getElem_mem hja)
  have gp:=VK (c:=cP2) hja
  rw[e1] at gp
  have gn:=VK (c:=ZE) hi
  have gs:=VK (c:=eIS) hc
  have gm:=Zz hm
  have hbn:=ZfC s b ((ports b l).take j)
  have hq2:q<(onN s b ((ports b l).take j)).length:=by rw[hbn.len];exact hq
  have gq:=Zz hq2
  have hg:=hbn.g (by omega) q
  have hl8:=Zes hsm l
  rw[List.length_take] at hg
  simp only[gp,cP2,gn,ZE,e2,gs,gm,e3,gq,hq,Int.toNat_natCast,Int.natCast_nonneg,List.length_map,isSc,EVA,seval,Zc,men]
  refine⟨by rw[Zd];omega,by rw[Zd];omega,Ze () hja ?_ trivial⟩
  rw[Zi2 hq2,Zhd hja,e4]
  rfl
 ·have:j=(ports b l).length:=by omega
  subst this
  rw[List.take_length]
  refine⟨(ZfC s b (ports b l)).len.symm,?_⟩
  rfl
theorem Ws(sig:List TControl)(s:TSorting)(b:TBigraph)(p:Int)(h2:two sig s b)(hp:p<b.nodes.length)(lvl:Nat)(S:Sto):Sem Proofs.Tryz.prog Jy lvl [.ag ((Zh s).map .tr),.ag ((Zg b).map .tr),iI p] S (tI (chs s b p)) S:=by
 refine Zb Zba trivial ?_
 simp only[WE,Zh,Zg,List.length_map,EVA,seval,Zc,men]
 refine Zj (fun hlt=>?_) (fun hge=>?_)
 ·unfold chs
  rw[if_pos hlt]
 ·obtain⟨i,rfl⟩:∃ i:Nat,p=i:=⟨p.toNat,by omega⟩
  have hi:i<b.nodes.length:=by omega
  obtain⟨c,e1,e2,c1,c2,c3⟩:=h2.ctl hi
  have gn:=VK (c:=ZE) hi
  have gs:=VK (c:=eIS) c2
  simp only[gn,ZE,e1,gs,Int.toNat_natCast,Int.natCast_nonneg,List.length_map,EVA,seval,Zc,men]
  unfold chs
  rw[if_neg hge,e2]
  simp [Zhc,c2]
theorem Dn(sig:List TControl)(s:TSorting)(b:TBigraph)(p:Int)(h2:two sig s b)(hp:p<b.nodes.length)(lvl:Nat)(S:Sto):Sem Proofs.Tryz.prog ZY lvl [.ag ((Zh s).map .tr),.ag ((Zg b).map .tr),iI p] S (tI (chs s b p)) S:=by
 refine Zb WQ trivial ?_
 simp only[VM,Zh,Zg,List.length_map,EVA,seval,Zc,men]
 refine Zj (fun hlt=>?_) (fun hge=>?_)
 ·unfold chs
  rw[if_pos hlt]
 ·obtain⟨i,rfl⟩:∃ i:Nat,p=i:=⟨p.toNat,by omega⟩
  have hi:i<b.nodes.length:=by omega
  obtain⟨c,e1,e2,c1,c2,c3⟩:=h2.ctl hi
  have gn:=VK (c:=ZE) hi
  have gs:=VK (c:=eIS) c2
  simp only[gn,ZE,e1,gs,Int.toNat_natCast,Int.natCast_nonneg,List.length_map,EVA,seval,Zc,men]
  unfold chs
  rw[if_neg hge,e2]
  simp [Zhc,c2]
theorem two.par{sig:List TControl}{s:TSorting}{b:TBigraph}(h2:two sig s b){j:Nat}(hj:j<b.nodes.length):-4<=b.nodes[j].parent/\b.nodes[j].parent<b.nodes.length:=by
 have h1:=(h2.big.nodes j hj).par
 have h3:=h2.big.roots
 rcases h1 with h1 | h1 <;> omega
theorem two.chsL{sig:List TControl}{s:TSorting}{b:TBigraph}(h2:two sig s b)(hs:Jv 4294967296 s)(p:Int):(chs s b p).length<=4294967296:=by
 obtain⟨b1,b2,b3,b4,b5,b6,b7⟩:=hs
 unfold chs
 split
 ·exact b1
 ·unfold Zhc
  cases e:s.nest[(Ye b p).toNat]? with
  | none=>simp
  | some x =>
   obtain⟨hl,rfl⟩:=List.getElem?_eq_some_iff.1 e
   exact b3 _ (List.getElem_mem hl)
theorem Zhf{sig:List TControl}{s:TSorting}(g:sortOK sig s){j:Nat}(h:j<s.apart.length):∃ x y:Nat,s.apart[j].1=x/\s.apart[j].2=y/\x<s.most.length/\y<s.most.length:=by
 have:=g.apart j h
 exact⟨s.apart[j].1.toNat,s.apart[j].2.toNat,by omega,by omega,by omega,by omega⟩
theorem ZfE(sig:List TControl)(s:TSorting)(l:Int)(cs:List Int)(g:sortOK sig s)(hc:cs.length=s.most.length)(lvl:Nat)(S:Sto):Sem Proofs.Tryz.prog V2 lvl [.ag ((Zh s).map .tr),iI l,tI cs] S (.ow 3 ((Zah s l cs).map DH) true) S:=by
 have hmany:=g.many
 have hapl:=g.apartL
 refine Zb Zb7 trivial ?_
 simp only[Uc,Zh,List.length_map,EVA,seval,Zc,men]
 refine Zx (α:=Unit) cs.length (fun j _=>[(7,.hd (lvl,320) [] 0 (UH (Yx s l cs) j).length none (UH (Yx s l cs) j).length),(8,iI j)]) (fun j _=>[(320,.ar 3 ((UH (Yx s l cs) j).map DH) true (UH (Yx s l cs) j).length 0)]) (fun _ _=>True) () (by simp only[EVA,seval,Zc,men]) (by (simp only[EVA,seval,Zc,men]) <;> rfl) trivial ?_
 intro j _ hj _
 simp only[List.length_map,EVA,seval,Zc,men]
 refine Zj (fun hlt=>?_) (fun hge=>?_)
 ·have hja:j<cs.length:=by omega
  have gc:=Zz hja
  have gm:=Zz (l:=s.most) (i:=j) (by omega)
  have hle:=Dl (f:=Yx s l cs) (B:=1) (j:=j) fun k _=>ZbA
  simp only[gc,gm,List.length_map,EVA,seval,Zc,men]
  refine Zj (fun he=>?_) (fun hne=>?_)
  ·refine⟨by omega,by rw[Zd];omega,Ze () hja ?_ trivial⟩
   have e:Yx s l cs j=[⟨3,l,j⟩]:=by unfold Yx;rw[if_pos he]
   rw[YJ,e,List.length_append,Zhe]
   rfl
  ·refine⟨by rw[Zd];omega,Ze () hja ?_ trivial⟩
   have e:Yx s l cs j=[]:=by unfold Yx;rw[if_neg hne]
   rw[YJ,e,List.append_nil]
   rfl
 have hj1:j=cs.length:=by omega
 subst hj1
 refine Zx (α:=Unit) s.apart.length (fun j _=>[(7,.hd (lvl,320) [] 0 (UH (Yx s l cs) cs.length++UH (JV s l cs) j).length none (UH (Yx s l cs) cs.length++UH (JV s l cs) j).length),(9,iI j)]) (fun j _=>[(320,.ar 3 ((UH (Yx s l cs) cs.length++UH (JV s l cs) j).map DH) true (UH (Yx s l cs) cs.length++UH (JV s l cs) j).length 0)]) (fun _ _=>True) () (by simp only[EVA,seval,Zc,men]) (by (simp only[ZfA,List.append_nil,EVA,seval,Zc,men]) <;> rfl) trivial ?_
 intro j _ hj _
 simp only[List.length_map,EVA,seval,Zc,men]
 refine Zj (fun hlt=>?_) (fun hge=>?_)
 ·have hja:j<s.apart.length:=by omega
  have ga:=VK (c:=cA2) hja
  obtain⟨x,y,ex,ey,hx,hy⟩:=Zhf g hja
  have gx:=Zz (l:=cs) (i:=x) (by omega)
  have gy:=Zz (l:=cs) (i:=y) (by omega)
  have hle:=Dl (f:=Yx s l cs) (B:=1) (j:=cs.length) fun k _=>ZbA
  have hle2:=Dl (f:=JV s l cs) (B:=1) (j:=j) fun k _=>ZfD
  have hap:=Zi1 hja
  by_cases h1:0<g0 cs x
  ·by_cases h2:0<g0 cs y
   ·simp only[ga,cA2,ex,ey,gx,gy,h1,h2,List.length_map,EVA,seval,Zc,men]
    refine⟨by rw[List.length_append];omega,by rw[Zd];omega,Ze () hja ?_ trivial⟩
    have e:JV s l cs j=[⟨4,l,j⟩]:=by unfold JV;rw[if_pos (by rw[hap,ex,ey];exact⟨h1,h2⟩)]
    rw[YJ,<-List.append_assoc,e,List.length_append (bs:=[_]),Zhe (UH (Yx s l cs) cs.length++_)]
    rfl
   ·simp only[ga,cA2,ex,ey,gx,gy,h1,h2,List.length_map,EVA,seval,Zc,men]
    refine⟨by rw[Zd];omega,Ze () hja ?_ trivial⟩
    have e:JV s l cs j=[]:=by unfold JV;rw[if_neg (by rw[hap,ex,ey];exact fun h=>h2 h.2)]
    rw[YJ,e,List.append_nil]
    rfl
  ·simp only[ga,cA2,ex,ey,gx,gy,h1,List.length_map,EVA,seval,Zc,men]
   refine⟨by rw[Zd];omega,Ze () hja ?_ trivial⟩
   have e:JV s l cs j=[]:=by unfold JV;rw[if_neg (by rw[hap,ex,ey];exact fun h=>h1 h.1)]
   rw[YJ,e,List.append_nil]
   rfl
 ·have:j=s.apart.length:=by omega
  subst this
  rfl
theorem ZcS(sig:List TControl)(s:TSorting)(l:Int)(cs:List Int)(g:sortOK sig s)(hc:cs.length=s.most.length)(lvl:Nat)(S:Sto):Sem Proofs.Tryz.prog Jl lvl [.ag ((Zh s).map .tr),iI l,tI cs] S (.ow 3 ((Zah s l cs).map DH) true) S:=by
 have hmany:=g.many
 have hapl:=g.apartL
 refine Zb XN trivial ?_
 simp only[YH,Zh,List.length_map,EVA,seval,Zc,men]
 refine Zx (α:=Unit) cs.length (fun j _=>[(7,.hd (lvl,384) [] 0 (UH (Yx s l cs) j).length none (UH (Yx s l cs) j).length),(15,iI j)]) (fun j _=>[(384,.ar 3 ((UH (Yx s l cs) j).map DH) true (UH (Yx s l cs) j).length 0)]) (fun _ _=>True) () (by simp only[EVA,seval,Zc,men]) (by (simp only[EVA,seval,Zc,men]) <;> rfl) trivial ?_
 intro j _ hj _
 simp only[List.length_map,EVA,seval,Zc,men]
 refine Zj (fun hlt=>?_) (fun hge=>?_)
 ·have hja:j<cs.length:=by omega
  have gc:=Zz hja
  have gm:=Zz (l:=s.most) (i:=j) (by omega)
  have hle:=Dl (f:=Yx s l cs) (B:=1) (j:=j) fun k _=>ZbA
  simp only[gc,gm,List.length_map,EVA,seval,Zc,men]
  refine Zj (fun he=>?_) (fun hne=>?_)
  ·refine⟨by omega,by rw[Zd];omega,Ze () hja ?_ trivial⟩
   have e:Yx s l cs j=[⟨3,l,j⟩]:=by unfold Yx;rw[if_pos he]
   rw[YJ,e,List.length_append,Zhe]
   rfl
  ·refine⟨by rw[Zd];omega,Ze () hja ?_ trivial⟩
   have e:Yx s l cs j=[]:=by unfold Yx;rw[if_neg hne]
   rw[YJ,e,List.append_nil]
   rfl
 have hj1:j=cs.length:=by omega
 subst hj1
 refine Zx (α:=Unit) s.apart.length (fun j _=>[(7,.hd (lvl,384) [] 0 (UH (Yx s l cs) cs.length++UH (JV s l cs) j).length none (UH (Yx s l cs) cs.length++UH (JV s l cs) j).length),(37,iI j)]) (fun j _=>[(384,.ar 3 ((UH (Yx s l cs) cs.length++UH (JV s l cs) j).map DH) true (UH (Yx s l cs) cs.length++UH (JV s l cs) j).length 0)]) (fun _ _=>True) () (by simp only[EVA,seval,Zc,men]) (by (simp only[ZfA,List.append_nil,EVA,seval,Zc,men]) <;> rfl) trivial ?_
 intro j _ hj _
 simp only[List.length_map,EVA,seval,Zc,men]
 refine Zj (fun hlt=>?_) (fun hge=>?_)
 ·have hja:j<s.apart.length:=by omega
  have ga:=VK (c:=cA2) hja
  obtain⟨x,y,ex,ey,hx,hy⟩:=Zhf g hja
  have gx:=Zz (l:=cs) (i:=x) (by omega)
  have gy:=Zz (l:=cs) (i:=y) (by omega)
  have hle:=Dl (f:=Yx s l cs) (B:=1) (j:=cs.length) fun k _=>ZbA
  have hle2:=Dl (f:=JV s l cs) (B:=1) (j:=j) fun k _=>ZfD
  have hap:=Zi1 hja
  by_cases h1:0<g0 cs x
  ·by_cases h2:0<g0 cs y
   ·simp only[ga,cA2,ex,ey,gx,gy,h1,h2,List.length_map,EVA,seval,Zc,men]
    refine⟨by rw[List.length_append];omega,by rw[Zd];omega,Ze () hja ?_ trivial⟩
    have e:JV s l cs j=[⟨4,l,j⟩]:=by unfold JV;rw[if_pos (by rw[hap,ex,ey];exact⟨h1,h2⟩)]
    rw[YJ,<-List.append_assoc,e,List.length_append (bs:=[_]),Zhe (UH (Yx s l cs) cs.length++_)]
    rfl
   ·simp only[ga,cA2,ex,ey,gx,gy,h1,h2,List.length_map,EVA,seval,Zc,men]
    refine⟨by rw[Zd];omega,Ze () hja ?_ trivial⟩
    have e:JV s l cs j=[]:=by unfold JV;rw[if_neg (by rw[hap,ex,ey];exact fun h=>h2 h.2)]
    rw[YJ,e,List.append_nil]
    rfl
  ·simp only[ga,cA2,ex,ey,gx,gy,h1,List.length_map,EVA,seval,Zc,men]
   refine⟨by rw[Zd];omega,Ze () hja ?_ trivial⟩
   have e:JV s l cs j=[]:=by unfold JV;rw[if_neg (by rw[hap,ex,ey];exact fun h=>h1 h.1)]
   rw[YJ,e,List.append_nil]
   rfl
 ·have:j=s.apart.length:=by omega
  subst this
  rfl
end Go.Fd

/-
  ALL FAULTS, BOTH SIDES; SORTED OR NOT. Own work.
-/
namespace Go.Fd
set_option maxRecDepth 20000
theorem two.links{sig:List TControl}{s:TSorting}{b:TBigraph}(h2:two sig s b):(ZkU b:Int)=b.edges+b.outer.length:=by
 have:=h2.big.edges
 unfold ZkU
 omega
end Go.Fd

/-
  THE LAWS' FUNCTIONS ON SORTED BIGRAPHS, BOTH SIDES. Own work.
-/
namespace Go.Fd
set_option maxRecDepth 20000
theorem Zvi{l:List Int}:ScR (rI l)=True:=eq_true fun e he t ht=>by
 obtain⟨f,_,rfl⟩:=List.mem_map.1 he
 simp only[List.mem_singleton] at ht
 subst ht
 rfl
theorem Zvj{l:List Int}:UnR 1 (rI l)=True:=eq_true fun e he=>by
 obtain⟨f,_,rfl⟩:=List.mem_map.1 he
 rfl
theorem Zhx(l:List Int)(hl:l.length<=4294967296)(lvl:Nat)(S:Sto):Sem Proofs.Tryz.prog JE lvl [tI l] S (.ow 1 (rI l) true) S:=by
 refine Zb WP trivial ?_
 simp only[VL,List.length_map,Zvi,Zvj,EVA,seval,Zc,men]
 exact⟨hl,fun h=>by rw[h]⟩
end Go.Fd

/-
  RULES, BOTH SIDES. Own work.
-/
namespace Go.Fd
set_option maxRecDepth 20000
theorem Zgq(sig:List TControl)(b:TBigraph)(hn:sig.length<=4294967296)(hbs:∀ y∈sig,ZF 4294967296 y)(hb:JD 4294967296 b)(hf:W8 b)(lvl:Nat)(S:Sto):Sem Proofs.Tryz.prog Qu lvl [.tr (.sl (sig.map Zi)),.ag ((Zg b).map .tr)] S (iB (dc (bigOK sig b/\solid b))) S:=by
 refine Zb ZcI trivial ?_
 simp only[UV,List.length_map,Zg,EVA,seval,Zc,men]
 refine Za (Zdk sig b hn hbs hb hf) ?_
 cases h1:dc (bigOK sig b)
 ·simp only[EVA,seval,Zc,men]
  rw[Zf fun g:bigOK sig b/\solid b=>dc_not.1 h1 g.1]
 simp only[List.length_map,Zg,EVA,seval,Zc,men]
 have g1:=dc_iff.1 h1
 refine Za (Zgp b g1.small) ?_
 simp only[EVA,seval,Zc,men]
 rw[Jf (p:=bigOK sig b/\solid b) ⟨fun g=>g.2,fun g=>⟨g1,g⟩⟩]
theorem Zct(a b:List ByteArray)(ha:a.length<=4294967296)(hb:b.length<=4294967296)(lvl:Nat)(S:Sto):Sem Proofs.Tryz.prog Yr lvl [.tr (.sl (rS a)),.tr (.sl (rS b))] S (iB (dc (a=b))) S:=by
 refine Zb DQ trivial ?_
 simp only[Xz,List.length_map,EVA,seval,Zc,men]
 refine Zx (α:=Unit) (min a.length b.length) (fun j _=>[(5,iI j)]) (fun j _=>[]) (fun j _=>∀ k,k<j->∀(h1:k<a.length) (h2:k<b.length),a[k]=b[k]) () (by simp only[EVA,seval,Zc,men]) (by (simp only[EVA,seval,Zc,men]) <;> rfl) (fun k hk=>absurd hk (Nat.not_lt_zero k)) ?_
 intro j _ hj hA
 simp only[List.length_map,EVA,seval,Zc,men]
 by_cases hlt:j<min a.length b.length
 ·have hja:j<a.length:=by omega
  have hjb:j<b.length:=by omega
  have q1:(j:Int)<a.length:=by omega
  have q2:(j:Int)<b.length:=by omega
  have ga:=VK (c:=fun s=>[ts s]) hja
  have gb:=VK (c:=fun s=>[ts s]) hjb
  simp only[q1,q2,ga,gb,List.length_map,EVA,seval,Zc,men]
  by_cases hc:a[j]=b[j]
  ·simp only[hc,EVA,seval,Zc,men]
   exact⟨by rw[Zd];omega,Ze () hlt rfl (UN hA fun _ _=>hc)⟩
  ·simp only[hc,EVA,seval,Zc,men]
   have:¬ a=b:=fun h=>hc (by subst h;rfl)
   rw[Zf this]
 ·have fin:((a.length:Int)=b.length)↔a=b:=⟨fun h=>List.ext_getElem (by omega) fun k h1 h2=>hA k (by omega) h1 h2,fun h=>by rw[h]⟩
  by_cases q1:(j:Int)<a.length
  ·have q2:¬ (j:Int)<b.length:=by omega
   simp only[q1,q2,List.length_map,EVA,seval,Zc,men]
   rw[<-JH,Jf fin]
  ·simp only[q1,List.length_map,EVA,seval,Zc,men]
   rw[<-JH,Jf fin]
def Zdo(r:TRule)(k:Int):Prop:=0<=k/\k<=(r.redex.sites.length:Int)-1
structure ruleOK (sig:List TControl) (r:TRule):Prop where
 red:bigOK sig r.redex
 sol:solid r.redex
 rea:bigOK sig r.reactum
 inn:r.reactum.inner.length=0
 roots:r.redex.roots=r.reactum.roots
 outer:r.redex.outer=r.reactum.outer
 copies:∀ k∈r.copies,Zdo r k
 len:r.copies.length=r.reactum.sites.length
def ZbB(r:TRule):Prop:=(∀ k∈r.copies,Zdo r k)/\r.copies.length=r.reactum.sites.length
theorem ZfF(r:TRule)(hb:WB 4294967296 r)(lvl:Nat)(S:Sto):Sem Proofs.Tryz.prog V1 lvl [.ag ((ZO r).map .tr)] S (iB (dc (ZbB r))) S:=by
 obtain⟨⟨a1,a2,a3,a4,a5,a6,a7⟩,⟨b1,b2,b3,b4,b5,b6,b7⟩,b8⟩:=hb
 refine Zb Zb6 trivial ?_
 simp only[Ub,ZO,List.length_map,EVA,seval,Zc,men]
 refine Zx (α:=Unit) r.copies.length (fun j _=>[(3,iI j)]) (fun j _=>[]) (fun j _=>∀ k,k<j->Zdo r (g0 r.copies k)) () (by simp only[EVA,seval,Zc,men]) (by (simp only[EVA,seval,Zc,men]) <;> rfl) (fun k hk=>absurd hk (Nat.not_lt_zero k)) ?_
 intro j _ hj hA
 simp only[List.length_map,EVA,seval,Zc,men]
 refine Zj (fun hlt=>?_) (fun hge=>?_)
 ·have hja:j<r.copies.length:=by omega
  have ga:=Zz hja
  simp only[ga,List.length_map,EVA,seval,Zc,men]
  refine⟨by rw[Zd];omega,?_⟩
  refine Za (J6 (g0 r.copies j) 0 ((r.redex.sites.length:Int)-1)) ?_
  cases hc:inB (g0 r.copies j) 0 ((r.redex.sites.length:Int)-1)
  ·simp only[EVA,seval,Zc,men]
   rw[Zf fun h:ZbB r=>inB_not.1 hc (h.1 _ (by simp [hja]))]
  ·simp only[EVA,seval,Zc,men]
   exact⟨by rw[Zd];omega,Ze () hja rfl (UN hA (inB_iff.1 hc))⟩
 ·have hj1:j=r.copies.length:=by omega
  subst hj1
  have hiff:ZbB r↔(r.copies.length:Int)=r.reactum.sites.length:=⟨fun h=>by have:=h.2;omega,fun h=>⟨fun n hn=>by
   obtain⟨k,hk,rfl⟩:=List.getElem_of_mem hn
   have:=hA k hk
   simpa [hk] using this,by omega⟩⟩
  rw[Jf hiff,JH]
theorem Zhy(sig:List TControl)(r:TRule)(hn:sig.length<=4294967296)(hbs:∀ y∈sig,ZF 4294967296 y)(hb:WB 4294967296 r)(hf:Zdd r)(lvl:Nat)(S:Sto):Sem Proofs.Tryz.prog Q6 lvl [.tr (.sl (sig.map Zi)),.ag ((ZO r).map .tr)] S (iB (dc (ruleOK sig r))) S:=by
 have hb0:=hb
 obtain⟨d1,d2,d3⟩:=hb
 obtain⟨f1,f2,f3⟩:=hf
 refine Zb Zd3 trivial ?_
 simp only[DJ,ZO,List.length_map,EVA,seval,Zc,men]
 refine Za (Zgq sig r.redex hn hbs d1 f1) ?_
 cases h1:dc (bigOK sig r.redex/\solid r.redex)
 ·simp only[EVA,seval,Zc,men]
  rw[Zf fun h:ruleOK sig r=>dc_not.1 h1 ⟨h.red,h.sol⟩]
 simp only[ZO,List.length_map,EVA,seval,Zc,men]
 refine Za (Zdk sig r.reactum hn hbs d2 f2) ?_
 cases h2:dc (bigOK sig r.reactum)
 ·simp only[EVA,seval,Zc,men]
  rw[Zf fun h:ruleOK sig r=>dc_not.1 h2 h.rea]
 have g1:=dc_iff.1 h1
 have g2:=dc_iff.1 h2
 by_cases h3:(r.reactum.inner.length:Int)=0
 case neg =>
  simp only[h3,ZO,List.length_map,EVA,seval,Zc,men]
  rw[Zf fun h:ruleOK sig r=>by have:=h.inn;omega]
 by_cases h4:r.redex.roots=r.reactum.roots
 case neg =>
  simp only[h3,h4,ZO,List.length_map,EVA,seval,Zc,men]
  rw[Zf fun h:ruleOK sig r=>h4 h.roots]
 have h4':(r.redex.roots=r.reactum.roots)=True:=eq_true h4
 simp only[h3,h4',ZO,List.length_map,EVA,seval,Zc,men]
 have o1:=g1.1.outer.2
 have o2:=g2.outer.2
 refine Za (Zct r.redex.outer r.reactum.outer (by omega) (by omega)) ?_
 cases h5:dc (r.redex.outer=r.reactum.outer)
 ·simp only[EVA,seval,Zc,men]
  rw[Zf fun h:ruleOK sig r=>dc_not.1 h5 h.outer]
 simp only[ZO,List.length_map,EVA,seval,Zc,men]
 refine Za (ZfF r hb0) ?_
 simp only[EVA,seval,Zc,men]
 rw[Jf (p:=ruleOK sig r) (q:=ZbB r) ⟨fun h=>⟨h.copies,h.len⟩,fun h=>⟨g1.1,g1.2,g2,by omega,h4,dc_iff.1 h5,h.1,h.2⟩⟩]
theorem Zhz(sig:List TControl)(a b:TBigraph)(hn:sig.length<=4294967296)(hbs:∀ y∈sig,ZF 4294967296 y)(ha:JD 4294967296 a)(hb:JD 4294967296 b)(lvl:Nat)(S:Sto):Sem Proofs.Tryz.prog Xb lvl [.tr (.sl (sig.map Zi)),.ag ((Zg a).map .tr),.ag ((Zg b).map .tr)] S (iB (dc (bigOK sig a/\bigOK sig b))) S:=by
 refine Zb Zeb trivial ?_
 simp only[DW,Zg,List.length_map,EVA,seval,Zc,men]
 refine Za (XI sig a hn hbs ha) ?_
 cases h1:dc (bigOK sig a)
 ·simp only[EVA,seval,Zc,men]
  rw[Zf fun h:bigOK sig a/\bigOK sig b=>dc_not.1 h1 h.1]
 simp only[Zg,List.length_map,EVA,seval,Zc,men]
 refine Za (XI sig b hn hbs hb) ?_
 simp only[EVA,seval,Zc,men]
 rw[Jf (p:=bigOK sig a/\bigOK sig b) (q:=bigOK sig b) ⟨fun h=>h.2,fun h=>⟨dc_iff.1 h1,h⟩⟩]
theorem ZfG(k:Int)(r:TRule)(hb:r.redex.sites.length<=4294967296)(lvl:Nat)(S:Sto):Sem Proofs.Tryz.prog V4 lvl [iI k,.ta (ZO r)] S (iB (!dc (Zdo r k))) S:=by
 refine Zb Zcb trivial ?_
 simp only[Uf,ZO,List.length_map,EVA,seval,Zc,men]
 refine⟨by rw[Zd];omega,?_⟩
 refine Za (Z5 k 0 ((r.redex.sites.length:Int)-1)) ?_
 simp only[EVA,seval,Zc,men]
 rw[Zg7]
 rfl
theorem Zts:ZH Proofs.Tryz.prog JL Ztp=true:=by kernel_rfl
theorem Zcu(sig:List TControl)(r:TRule)(hn:sig.length<=4294967296)(hbs:∀ y∈sig,ZF 4294967296 y)(hb:WB 4294967296 r)(_hf:Zdd r)(lvl:Nat)(S:Sto):Sem Proofs.Tryz.prog Q8 lvl [.tr (.sl (sig.map Zi)),.ag ((ZO r).map .tr)] S (iB (dc (ruleOK sig r))) S:=by
 obtain⟨d1,d2,d3⟩:=hb
 refine Zb Zd5 trivial ?_
 simp only[DL,ZO,List.length_map,EVA,seval,Zc,men]
 refine Za (Zhz sig r.redex r.reactum hn hbs d1 d2) ?_
 cases h1:dc (bigOK sig r.redex/\bigOK sig r.reactum)
 ·simp only[EVA,seval,Zc,men]
  rw[Zf fun h:ruleOK sig r=>dc_not.1 h1 ⟨h.red,h.rea⟩]
 have g1:=dc_iff.1 h1
 simp only[ZO,List.length_map,EVA,seval,Zc,men]
 refine Za (Zbd r.redex g1.1.small) ?_
 cases h2:dc (solid r.redex)
 ·simp only[EVA,seval,Zc,men]
  rw[Zf fun h:ruleOK sig r=>dc_not.1 h2 h.sol]
 by_cases h3:(0:Int)<r.reactum.inner.length
 ·simp only[h3,ZO,List.length_map,EVA,seval,Zc,men]
  rw[Zf fun h:ruleOK sig r=>by have:=h.inn;omega]
 by_cases h4:r.redex.roots=r.reactum.roots
 case neg =>
  simp only[h3,h4,ZO,List.length_map,EVA,seval,Zc,men]
  rw[Zf fun h:ruleOK sig r=>h4 h.roots]
 have h4':(r.redex.roots=r.reactum.roots)=True:=eq_true h4
 simp only[h3,h4',ZO,List.length_map,EVA,seval,Zc,men]
 have o1:=g1.1.outer.2
 have o2:=g1.2.outer.2
 refine Za (Zmg Zts Ztq r.redex.outer r.reactum.outer (by omega)) ?_
 by_cases h5:r.redex.outer=r.reactum.outer
 case neg =>
  simp only[h5,ZO,List.length_map,EVA,seval,Zc,men]
  rw[Zf fun h:ruleOK sig r=>h5 h.outer]
 have h5':(r.redex.outer=r.reactum.outer)=True:=eq_true h5
 by_cases h6:r.copies.length=r.reactum.sites.length
 case neg =>
  have h6':¬ (r.copies.length:Int)=r.reactum.sites.length:=by omega
  simp only[h5',h6',ZO,List.length_map,EVA,seval,Zc,men]
  rw[Zf fun h:ruleOK sig r=>h6 h.len]
 have h6':((r.copies.length:Int)=r.reactum.sites.length)=True:=eq_true (by omega)
 simp only[h5',h6',ZO,List.length_map,EVA,seval,Zc,men]
 refine Za (XH (t:=tv) (cs:=[ZO r]) Za2 Za1 r.copies (by omega) (fun x _ lvl S=>ZfG x r d1.2.2.1 lvl S)) ?_
 cases h7:r.copies.any fun k=>!dc (Zdo r k)
 ·simp only[EVA,seval,Zc,men]
  have:ruleOK sig r:=⟨g1.1,dc_iff.1 h2,g1.2,by omega,h4,h5,any_no.1 h7,h6⟩
  rw[ZD this]
 ·simp only[EVA,seval,Zc,men]
  rw[Zf fun h:ruleOK sig r=>by rw[any_no.2 h.copies] at h7;cases h7]
end Go.Fd

/-
  SORTED BIGRAPHS THAT FIT, BOTH SIDES. Own work.
-/
namespace Go.Fd
set_option maxRecDepth 20000
theorem Zeu{b:TBigraph}{p:Int}:(QR b p).length<=b.nodes.length:=ZaM
theorem ZbC{sig:List TControl}{a:TBigraph}(h:bigOK sig a){i:Nat}(hi:i<a.sites.length):g0 a.sites i<a.nodes.length:=by
 have e:g0 a.sites i=a.sites[i]:=by simp [hi]
 have:=h.sites _ (List.getElem_mem hi)
 rw[e]
 rcases this with h | h <;> omega
end Go.Fd

/-
  FINER SORTINGS, BOTH SIDES. Own work.
-/
namespace Go.Fd
set_option maxRecDepth 20000
def U5(a b:List Int):Prop:=∀ n∈a,n∈b
theorem Zdp(a b:List Int)(ha:a.length<=4294967296)(hb:b.length<=4294967296)(lvl:Nat)(S:Sto):Sem Proofs.Tryz.prog Vu lvl [tI a,tI b] S (iB (dc (U5 a b))) S:=by
 refine Zb Zd9 trivial ?_
 simp only[DR,List.length_map,EVA,seval,Zc,men]
 refine Zx (α:=Unit) a.length (fun j _=>[(5,iI j)]) (fun j _=>[]) (fun j _=>∀ k,k<j->g0 a k∈b) () (by simp only[EVA,seval,Zc,men]) (by (simp only[EVA,seval,Zc,men]) <;> rfl) (fun k hk=>absurd hk (Nat.not_lt_zero k)) ?_
 intro j _ hj hA
 simp only[List.length_map,EVA,seval,Zc,men]
 refine Zj (fun hlt=>?_) (fun hge=>?_)
 ·have hja:j<a.length:=by omega
  have ga:=Zz hja
  simp only[ga,List.length_map,EVA,seval,Zc,men]
  refine Za (Zch b (g0 a j) (by omega)) ?_
  by_cases hc:g0 a j∈b
  ·simp only[hc,EVA,seval,Zc,men]
   exact⟨by rw[Zd];omega,Ze () hja rfl (Ym hA hc)⟩
  ·simp only[hc,EVA,seval,Zc,men]
   have:¬ U5 a b:=fun h=>hc (h _ (by simp [hja]))
   rw[Zf this]
 ·have hj1:j=a.length:=by omega
  subst hj1
  have:U5 a b:=fun n hn=>by
   obtain⟨k,hk,rfl⟩:=List.getElem_of_mem hn
   have:=hA k hk
   simpa [hk] using this
  rw[ZD this]
theorem ZfH(n:Int)(b:List Int)(hb:b.length<=4294967296)(lvl:Nat)(S:Sto):Sem Proofs.Tryz.prog V7 lvl [iI n,.ta [Tr.sl (rI b)]] S (iB (!decide (n∈b))) S:=by
 refine Zb Zce trivial ?_
 simp only[Uk,EVA,seval,Zc,men]
 refine Za (Uo b n (by omega)) ?_
 simp only[EVA,seval,Zc,men]
theorem ZhA(a b:List Int)(ha:a.length<=4294967296)(hb:b.length<=4294967296)(lvl:Nat)(S:Sto):Sem Proofs.Tryz.prog Xc lvl [tI a,tI b] S (iB (dc (U5 a b))) S:=by
 refine Zb Zec trivial ?_
 simp only[DX,EVA,seval,Zc,men]
 refine Za (XH (t:=tv) (cs:=[[Tr.sl (rI b)]]) Za2 Za1 a (by omega) (fun x _ lvl S=>ZfH x b hb lvl S)) ?_
 cases h:a.any fun n=>!decide (n∈b)
 ·simp only[EVA,seval,Zc,men]
  have:U5 a b:=fun n hn=>by
   have:=List.any_eq_false.1 h n hn
   simpa using this
  rw[ZD this]
 ·simp only[EVA,seval,Zc,men]
  have:¬ U5 a b:=fun g=>by
   obtain⟨n,hn,h2⟩:=List.any_eq_true.1 h
   simp [g n hn] at h2
  rw[Zf this]
end Go.Fd

/-
  GROWING, JOINING ROWS OF NUMBERS, SORTING: GENERIC FUNCTIONS OF slices ON NUMBERS. Own work.
-/
namespace Go.Fd
set_option maxRecDepth 20000
end Go.Fd

/-
  SORTING A FEW NUMBERS: insertionSortOrdered ON ANOTHER'S ROW. Own work.
-/
namespace Go.Fd
set_option maxRecDepth 20000
theorem Zkk(a b:Int)(lvl:Nat)(S:Sto):Sem Proofs.Tryz.prog YR lvl [iI a,iI b] S (iB (decide (a<b))) S:=by
 refine Zb ZcQ trivial ?_
 simp only[U3,EVA,seval,Zc,men]
 refine Za (Zci a) ?_
 simp only[EVA,seval,Zc,men]
def Zkl(x:List Int)(i:Nat):Prop:=∀ p q,p<q->q<i->g0 x p<=g0 x q
def Zi3(x:List Int)(i j:Nat):Prop:=(∀ p q,p<q->q<=i->p≠j->q≠j->g0 x p<=g0 x q)/\∀ q,j<q->q<=i->g0 x j<=g0 x q
def swp(x:List Int)(j:Nat):List Int:=(x.set j (g0 x (j-1))).set (j-1) (g0 x j)
theorem Zi4{y:List Int}{a b:Nat}{v:Int}(h:a<y.length):g0 (y.set a v) b=if a=b then v else g0 y b:=by
 show (y.set a v).getD b 0=if a=b then v else y.getD b 0
 rw[List.getD_eq_getElem?_getD,List.getElem?_set,List.getD_eq_getElem?_getD]
 by_cases e:a=b
 ·rw[if_pos e,if_pos e,if_pos (by omega)];rfl
 ·rw[if_neg e,if_neg e]
theorem ZhB{y:List Int}{i:Nat}(h:Zi3 y i 0):Zkl y (i+1):=fun p q h1 h2=>by
 by_cases e:p=0
 ·subst e;exact h.2 q h1 (by omega)
 ·exact h.1 p q h1 (by omega) e (by omega)
theorem ZhC{y:List Int}{i j:Nat}(h:Zi3 y i j)(hj:0<j)(hji:j<=i)(hle:g0 y (j-1)<=g0 y j):Zkl y (i+1):=fun p q h1 h2=>by
 by_cases e:p=j
 ·subst e;exact h.2 q h1 (by omega)
 ·by_cases e2:q=j
  ·subst e2
   by_cases e3:p=q-1
   ·subst e3;exact hle
   ·exact Int.le_trans (h.1 p (q-1) (by omega) (by omega) e (by omega)) hle
  ·exact h.1 p q h1 (by omega) e e2
theorem Zi5{y:List Int}{i j:Nat}(h:Zi3 y i j)(hj:0<j)(hji:j<=i)(hi:i<y.length)(hlt:g0 y j<g0 y (j-1)):Zi3 (swp y j) i (j-1):=by
 have e:∀ b,g0 (swp y j) b=if j-1=b then g0 y j else if j=b then g0 y (j-1) else g0 y b:=fun b=>by
  unfold swp
  rw[Zi4 (by rw[List.length_set];omega),Zi4 (by omega)]
 refine⟨fun p q h1 h2 h3 h4=>?_,fun q h1 h2=>?_⟩
 ·rw[e p,e q,if_neg (show ¬ j-1=p from fun g=>h3 g.symm),if_neg (show ¬ j-1=q from fun g=>h4 g.symm)]
  by_cases ep:j=p
  ·rw[if_pos ep,if_neg (show ¬ j=q by omega)]
   exact h.1 (j-1) q (by omega) h2 (by omega) (by omega)
  ·rw[if_neg ep]
   by_cases eq:j=q
   ·rw[if_pos eq]
    exact h.1 p (j-1) (by omega) (by omega) (by omega) (by omega)
   ·rw[if_neg eq]
    exact h.1 p q h1 h2 (fun g=>ep g.symm) (fun g=>eq g.symm)
 ·rw[e (j-1),e q,if_pos rfl,if_neg (show ¬ j-1=q by omega)]
  by_cases eq:j=q
  ·rw[if_pos eq];omega
  ·rw[if_neg eq]
   exact h.2 q (by omega) h2
theorem Zkm{y:List Int}{j:Nat}(hj:0<j)(hi:j<y.length):(swp y j).Perm y:=by
 have h:=@List.set_set_perm _ y j (j-1) hi (by omega)
 have e1:g0 y j=y[j]:=by simp [g0,hi]
 have e2:g0 y (j-1)=y[j-1]'(by omega):=by
  show y.getD (j-1) 0=_
  rw[List.getD_eq_getElem?_getD,List.getElem?_eq_getElem (by omega)]
  rfl
 unfold swp
 rw[e1,e2]
 exact h
theorem Zmm{y:List Int}{j:Nat}{v:Int}(h:j<y.length):Y2 (rI y) [] j 0 (.v (.int .i64 v))=rI (y.set j v):=by
 simp only[Y2]
 rw[Zz h]
 exact(List.map_set (f:=fun n:Int=>[tv n]) (l:=y) (i:=j) (a:=v)).symm
theorem Zkn(l:List Int)(hl:l.length<=12)(lvl:Nat)(S:Sto)(id:Oid)(u:Bool)(hw ver:Nat)(hid:id.1<lvl)(hS:S id=some (.ar 1 (rI l) u hw ver))(srt:List Int)(hsrt:∀ x:List Int,x.Perm l->Zkl x l.length->x=srt) :
  Sem Proofs.Tryz.prog ZW lvl [.hd id [] 0 l.length none hw,iI 0,iI l.length] S (.tu []) (ZT S id (.ar 1 (rI srt) u hw ver)):=by
 have hne:id.1≠lvl:=by omega
 refine Zb VF trivial ?_
 simp only[Jz,EVA,seval,Zc,men]
 refine⟨by rw[Zd];omega,?_⟩
 refine ZI (α:=List Int) l.length (fun k x=>⟨lvl,[(0,.hd id [] 0 l.length none hw),(1,iI 0),(2,iI l.length),(6,iI ((k+1:Nat):Int))],[],ZT S id (.ar 1 (rI x) u hw ver)⟩) (fun k x=>x.Perm l/\Zkl x (k+1)) l ⟨by simp only[Xx hne,EVA,seval,Zc,men],by (simp only[Zb2 hS,EVA,seval,Zc,men]) <;> rfl⟩ ⟨List.Perm.refl _,fun p q h1 h2=>by omega⟩ ?_
 intro k x hk ⟨hA1,hA2⟩
 have hxl:x.length=l.length:=hA1.length_eq
 simp only[EVA,seval,Zc,men]
 refine Zj (fun hlt=>?_) (fun hge=>?_)
 ·have hk1:k+1<l.length:=by omega
  refine ZI (α:=List Int) (k+1) (fun m y=>⟨lvl,[(0,.hd id [] 0 l.length none hw),(1,iI 0),(2,iI l.length),(6,iI ((k+1:Nat):Int)),(7,iI ((k+1-m:Nat):Int))],[],ZT S id (.ar 1 (rI y) u hw ver)⟩) (fun m y=>y.Perm l/\Zi3 y (k+1) (k+1-m)) x ⟨by simp only[Xx hne,EVA,seval,Zc,men],by (simp only[EVA,seval,Zc,men]) <;> rfl⟩ ⟨hA1,fun p q h1 h2 h3 h4=>hA2 p q h1 (by omega),fun q h1 h2=>by omega⟩ ?_
  intro m y hm ⟨hB1,hB2⟩
  have hyl:y.length=l.length:=hB1.length_eq
  generalize hj:k+1-m=j at hB2 ⊢
  by_cases hj0:j=0
  ·subst hj0
   simp only[EVA,seval,Zc,men]
   exact⟨by rw[Zd];omega,fun h=>absurd h hne,Ze y (by omega) rfl ⟨hB1,ZhB hB2⟩⟩
  ·have g1:(0:Int)<j:=by omega
   have e1:((j:Int)-1)=((j-1:Nat):Int):=by omega
   have gj:=Zz (l:=y) (i:=j) (by omega)
   have gj1:=Zz (l:=y) (i:=j-1) (by omega)
   have l1:j<l.length:=by omega
   have l2:j-1<l.length:=by omega
   simp only[g1,Qp hne,ZaV,e1,gj,gj1,l1,l2,Nat.zero_add,EVA,seval,Zc,men]
   refine⟨by rw[Zd];omega,Za (Zkk (g0 y j) (g0 y (j-1))) ?_⟩
   by_cases hlt2:g0 y j<g0 y (j-1)
   ·have s1:=Zmm (y:=y) (j:=j) (v:=g0 y (j-1)) (by omega)
    have s2:=Zmm (y:=y.set j (g0 y (j-1))) (j:=j-1) (v:=g0 y j) (by rw[List.length_set];omega)
    have gj2:=Zz (l:=y.set j (g0 y (j-1))) (i:=j-1) (by rw[List.length_set];omega)
    simp only[hlt2,g1,Qp hne,ZdY hne,ZaG,ZaV,Xx hne,e1,gj,gj1,gj2,s1,s2,l1,l2,Nat.zero_add,EVA,seval,Zc,men]
    subst hj
    refine⟨by rw[Zd];omega,by rw[Zd];omega,by rw[Zd];omega,Ze (swp y (k+1-m)) (by omega) (by rw[show k+1-(m+1)=k+1-m-1 from by omega];rfl) ⟨(Zkm (by omega) (by omega)).trans hB1,?_⟩⟩
    rw[show k+1-(m+1)=k+1-m-1 from by omega]
    exact Zi5 hB2 (by omega) (by omega) (by omega) hlt2
   ·simp only[hlt2,EVA,seval,Zc,men]
    exact⟨by rw[Zd];omega,fun h=>absurd h hne,Ze y (by omega) rfl ⟨hB1,ZhC hB2 (by omega) (by omega) (by omega)⟩⟩
 ·have:k+1=l.length\/k=l.length:=by omega
  have hup:Zkl x l.length:=fun p q h1 h2=>hA2 p q h1 (by omega)
  have hx:=hsrt x hA1 hup
  rw[hx]
end Go.Fd

/-
  SORTING A FEW NUMBERS: slices.Sort. Own work.
-/
namespace Go.Fd
set_option maxRecDepth 20000
theorem Zko(l:List Int)(hl:l.length<=12)(r:Int)(lvl:Nat)(S:Sto)(id:Oid)(u:Bool)(hw ver:Nat)(hid:id.1<lvl)(hS:S id=some (.ar 1 (rI l) u hw ver))(srt:List Int)(hsrt:∀ x:List Int,x.Perm l->Zkl x l.length->x=srt) :
  Sem Proofs.Tryz.prog ZG lvl [.hd id [] 0 l.length none hw,iI 0,iI l.length,iI r] S (.tu []) (ZT S id (.ar 1 (rI srt) u hw ver)):=by
 have hne:id.1≠lvl:=by omega
 refine Zb Xp trivial ?_
 simp only[Yd,EVA,seval,Zc,men]
 refine ZI (α:=Unit) 0 (fun _ _=>⟨lvl,[(0,.hd id [] 0 l.length none hw),(1,iI 0),(2,iI l.length),(3,iI r),(8,iB true),(9,iB true)],[],S⟩) (fun _ _=>True) () ⟨by simp only[Xx hne,EVA,seval,Zc,men],by (simp only[EVA,seval,Zc,men]) <;> rfl⟩ trivial ?_
 intro _ _ _ _
 have h12:(l.length:Int)-0<=12:=by omega
 simp only[h12,EVA,seval,Zc,men]
 refine⟨by rw[Zd];omega,?_⟩
 simp only[ZhS]
 refine Zb0 [] (ZT S id (.ar 1 (rI srt) u hw ver)) (fun i hi=>by unfold ZT;rw[if_neg (fun e=>hne (by rw[<-e];exact hi))]) (by
  rw[Zdc hne]
  exact Zkn l hl (lvl+1) (ZC lvl [] S) id u hw ver (by omega) (by rw[Qp hne];exact hS) srt hsrt) ?_
 simp only[Xx hne,EVA,seval,Zc,men]
theorem Zi6{v:Int}(h0:0<=v)(h:v<=12):∃ r:Int,∀(lvl:Nat) (S:Sto),Sem Proofs.Tryz.prog YZ lvl [.tr (.v (.int .u64 v))] S (iI r) S:=by
 have:v=0\/v=1\/v=2\/v=3\/v=4\/v=5\/v=6\/v=7\/v=8\/v=9\/v=10\/v=11\/v=12:=by omega
 rcases this with rfl | rfl | rfl | rfl | rfl | rfl | rfl | rfl | rfl | rfl | rfl | rfl | rfl
 ·refine⟨0,fun lvl S=>Zb Zw trivial ?_⟩
  simp only[Zu,EVA,seval,Zc,men]
  simp [VJ,IntKind.min,IntKind.max,IntKind.signed,IntKind.bits]
 ·refine⟨1,fun lvl S=>Zb Zw trivial ?_⟩
  simp only[Zu,EVA,seval,Zc,men]
  simp [VJ,IntKind.min,IntKind.max,IntKind.signed,IntKind.bits]
 ·refine⟨2,fun lvl S=>Zb Zw trivial ?_⟩
  simp only[Zu,EVA,seval,Zc,men]
  simp [VJ,IntKind.min,IntKind.max,IntKind.signed,IntKind.bits]
 ·refine⟨2,fun lvl S=>Zb Zw trivial ?_⟩
  simp only[Zu,EVA,seval,Zc,men]
  simp [VJ,IntKind.min,IntKind.max,IntKind.signed,IntKind.bits]
 ·refine⟨3,fun lvl S=>Zb Zw trivial ?_⟩
  simp only[Zu,EVA,seval,Zc,men]
  simp [VJ,IntKind.min,IntKind.max,IntKind.signed,IntKind.bits]
 ·refine⟨3,fun lvl S=>Zb Zw trivial ?_⟩
  simp only[Zu,EVA,seval,Zc,men]
  simp [VJ,IntKind.min,IntKind.max,IntKind.signed,IntKind.bits]
 ·refine⟨3,fun lvl S=>Zb Zw trivial ?_⟩
  simp only[Zu,EVA,seval,Zc,men]
  simp [VJ,IntKind.min,IntKind.max,IntKind.signed,IntKind.bits]
 ·refine⟨3,fun lvl S=>Zb Zw trivial ?_⟩
  simp only[Zu,EVA,seval,Zc,men]
  simp [VJ,IntKind.min,IntKind.max,IntKind.signed,IntKind.bits]
 ·refine⟨4,fun lvl S=>Zb Zw trivial ?_⟩
  simp only[Zu,EVA,seval,Zc,men]
  simp [VJ,IntKind.min,IntKind.max,IntKind.signed,IntKind.bits]
 ·refine⟨4,fun lvl S=>Zb Zw trivial ?_⟩
  simp only[Zu,EVA,seval,Zc,men]
  simp [VJ,IntKind.min,IntKind.max,IntKind.signed,IntKind.bits]
 ·refine⟨4,fun lvl S=>Zb Zw trivial ?_⟩
  simp only[Zu,EVA,seval,Zc,men]
  simp [VJ,IntKind.min,IntKind.max,IntKind.signed,IntKind.bits]
 ·refine⟨4,fun lvl S=>Zb Zw trivial ?_⟩
  simp only[Zu,EVA,seval,Zc,men]
  simp [VJ,IntKind.min,IntKind.max,IntKind.signed,IntKind.bits]
 ·refine⟨4,fun lvl S=>Zb Zw trivial ?_⟩
  simp only[Zu,EVA,seval,Zc,men]
  simp [VJ,IntKind.min,IntKind.max,IntKind.signed,IntKind.bits]
theorem Zmn{v:Int}(h0:0<=v)(h:v<=12):∃ r:Int,∀(lvl:Nat) (S:Sto),Sem Proofs.Tryz.prog V6 lvl [.tr (.v (.int .u64 v))] S (iI r) S:=by
 obtain⟨r,hr⟩:=Zi6 h0 h
 refine⟨r,fun lvl S=>Zb Zcd trivial ?_⟩
 simp only[Uj,EVA,seval,Zc,men]
 refine Za hr ?_
 simp only[EVA,seval,Zc,men]
theorem Zi7(l:List Int)(hl:l.length<=12)(lvl:Nat)(S:Sto)(id:Oid)(u:Bool)(hw ver:Nat)(hid:id.1<lvl)(hS:S id=some (.ar 1 (rI l) u hw ver))(srt:List Int)(hsrt:∀ x:List Int,x.Perm l->Zkl x l.length->x=srt) :
  Sem Proofs.Tryz.prog JR lvl [.hd id [] 0 l.length none hw] S (.tu []) (ZT S id (.ar 1 (rI srt) u hw ver)):=by
 have hne:id.1≠lvl:=by omega
 obtain⟨r,hr⟩:=Zmn (v:=(l.length:Int)) (by omega) (by omega)
 refine Zb Ug trivial ?_
 simp only[Qj,EVA,seval,Zc,men]
 refine⟨⟨by show (0:Int)<=l.length;omega,by show (l.length:Int)<=18446744073709551615;omega⟩,Za hr ?_⟩
 simp only[EVA,seval,Zc,men]
 refine Zb0 [] (ZT S id (.ar 1 (rI srt) u hw ver)) (fun i hi=>by unfold ZT;rw[if_neg (fun e=>hne (by rw[<-e];exact hi))]) (by
  rw[Zdc hne]
  exact Zko l hl r (lvl+1) (ZC lvl [] S) id u hw ver (by omega) (by rw[Qp hne];exact hS) srt hsrt) ?_
 simp only[Xx hne,EVA,seval,Zc,men]
end Go.Fd

/-
  NEIGHBOURS THAT ARE EQUAL FALL AWAY: slices.Compact ON ANOTHER'S ROW. Own work.
-/
namespace Go.Fd
set_option maxRecDepth 20000
def cz{α:Type}[DecidableEq α](g:Nat->α):Nat->List α
 | 0=>[]
 | m+1=>cz g m++if m≠0/\g m=g (m-1) then [] else [g m]
theorem Zpn{α:Type}[DecidableEq α](g:Nat->α):∀ m,(cz g m).length<=m
 | 0=>Nat.le_refl _
 | m+1=>by
  have:=Zpn g m
  simp only[cz,List.length_append]
  split <;> simp <;> omega
theorem Zmo{α:Type}[DecidableEq α]{g:Nat->α}{m:Nat}(h0:m≠0)(h:g m=g (m-1)):cz g (m+1)=cz g m:=by
 rw[cz,if_pos ⟨h0,h⟩,List.append_nil]
theorem Ztt{α:Type}[DecidableEq α]{g:Nat->α}{m:Nat}(h:g m≠g (m-1)):cz g (m+1)=cz g m++[g m]:=by
 rw[cz,if_neg (fun e=>h e.2)]
theorem Zgr{l:List Int}:∀{n:Nat},n<=l.length->(∀ m,0<m->m<n->g0 l m≠g0 l (m-1))->cz (g0 l) n=l.take n
 | 0,_,_=>by simp [cz]
 | n+1,hn,h=>by
  have ih:=Zgr (n:=n) (by omega) fun m h0 h1=>h m h0 (by omega)
  have hx:cz (g0 l) (n+1)=cz (g0 l) n++[g0 l n]:=by
   rw[cz,if_neg (fun e=>h n (by omega) (by omega) e.2)]
  rw[hx,ih,List.take_succ_eq_append_getElem (by omega)]
  have:g0 l n=l[n]'(by omega):=by
   show l.getD n 0=_
   rw[List.getD_eq_getElem?_getD,List.getElem?_eq_getElem (by omega)]
   rfl
  rw[this]
theorem Zev{α:Type}{y:List α}{i:Nat}{v:α}(h:i<y.length):(y.set i v).take (i+1)=y.take i++[v]:=by
 rw[List.take_succ_eq_append_getElem (by rw[List.length_set];exact h),List.getElem_set_self,List.take_set_of_le (Nat.le_refl i)]
theorem Ztu{lvl:Nat}{S:Sto}{id:Oid}{k hw ver:Nat}{es:Row}{u:Bool}(hne:id.1≠lvl)(hS:S id=some (.ar k es u hw ver)):wid (ZC lvl [] S) id [] k:=by
 unfold wid
 rw[Qp hne,hS]
theorem ZfI(l:List Int)(hl:l.length<=4294967290)(lvl:Nat)(S:Sto)(id:Oid)(u:Bool)(hw ver:Nat)(hid:id.1<lvl)(hS:S id=some (.ar 1 (rI l) u hw ver)) :
  ∃ v2,Sem Proofs.Tryz.prog Jq lvl [.hd id [] 0 l.length none hw] S (.hd id [] 0 (cz (g0 l) l.length).length none hw) (ZT S id (.ar 1 (rI (cz (g0 l) l.length)) u hw v2)):=by
 have hne:id.1≠lvl:=by omega
 by_cases hd:∀ m,0<m->m<l.length->g0 l m≠g0 l (m-1)
 ·refine⟨ver,?_⟩
  rw[Zgr (Nat.le_refl _) hd,List.take_length,Zb2 hS]
  refine Zb Y7 hid ?_
  simp only[JG,EVA,seval,Zc,men]
  by_cases h2:(l.length:Int)<2
  ·rw[if_pos h2]
   simp only[Zgb hne,EVA,seval,Zc,men]
  rw[if_neg h2]
  refine ZI (α:=Unit) l.length (fun k _=>⟨lvl,[(0,.hd id [] 0 l.length none hw),(3,iI ((k+1:Nat):Int))],[],S⟩) (fun k _=>k+1<=l.length) () ⟨by simp only[Xx hne,EVA,seval,Zc,men],by (simp only[EVA,seval,Zc,men]) <;> rfl⟩ (by omega) ?_
  intro k _ hk hA
  simp only[EVA,seval,Zc,men]
  refine Zj (fun hlt=>?_) (fun hge=>?_)
  ·have gj:=Zz (l:=l) (i:=k+1) (by omega)
   have gj1:=Zz (l:=l) (i:=k) (by omega)
   have l1:k+1<l.length:=by omega
   have l2:k<l.length:=by omega
   have hx:=hd (k+1) (by omega) l1
   rw[Nat.add_sub_cancel] at hx
   have e1:(((k+1:Nat):Int)-1)=(k:Int):=by omega
   simp only[Qp hne,hS,e1,gj,gj1,l1,l2,hx,Nat.zero_add,Xx hne,EVA,seval,Zc,men]
   exact⟨by rw[Zd];omega,by rw[Zd];omega,Ze () (by omega) rfl (by omega)⟩
  ·simp only[Zgb hne,EVA,seval,Zc,men]
 ·refine⟨ver+1,?_⟩
  refine Zb Y7 hid ?_
  simp only[JG,EVA,seval,Zc,men]
  by_cases h2:(l.length:Int)<2
  ·exact absurd (fun m h0 h1=>by omega) hd
  rw[if_neg h2]
  refine ZI (α:=Unit) l.length (fun k _=>⟨lvl,[(0,.hd id [] 0 l.length none hw),(3,iI ((k+1:Nat):Int))],[],S⟩) (fun k _=>k+1<=l.length/\∀ m,0<m->m<k+1->g0 l m≠g0 l (m-1)) () ⟨by simp only[Xx hne,EVA,seval,Zc,men],by (simp only[EVA,seval,Zc,men]) <;> rfl⟩ ⟨by omega,fun m h0 h1=>by omega⟩ ?_
  intro k _ hk ⟨hA,hB⟩
  simp only[EVA,seval,Zc,men]
  refine Zj (fun hlt=>?_) (fun hge=>?_)
  ·have gj:=Zz (l:=l) (i:=k+1) (by omega)
   have gj1:=Zz (l:=l) (i:=k) (by omega)
   have l1:k+1<l.length:=by omega
   have l2:k<l.length:=by omega
   have e1:(((k+1:Nat):Int)-1)=(k:Int):=by omega
   by_cases hx:g0 l (k+1)=g0 l k
   ·have hc1:=Zgr (l:=l) (n:=k+1) (by omega) hB
    have hc2:cz (g0 l) (k+1+1)=cz (g0 l) (k+1):=Zmo (by omega) (by rw[Nat.add_sub_cancel];exact hx)
    simp only[Qp hne,hS,e1,gj,gj1,l1,l2,hx,Nat.zero_add,Xx hne,EVA,seval,Zc,men]
    refine⟨by rw[Zd];omega,by omega,Ztu hne hS,?_⟩
    refine ZI (α:=Nat×List Int) l.length (fun m x=>⟨lvl,[(0,.hd id [] 0 l.length none hw),(3,iI (x.1:Int)),(4,.hd id [] (k+1) (l.length-(k+1)) none hw),(5,iI ((m+1:Nat):Int))],[],ZT S id (.ar 1 (rI x.2) u hw ver)⟩) (fun m x=>k+1+m+1<=l.length/\x.2.length=l.length/\x.1=(cz (g0 l) (k+1+m+1)).length/\x.2.take x.1=cz (g0 l) (k+1+m+1)/\x.1<=k+1+m/\∀ q,k+1+m<=q->g0 x.2 q=g0 l q) (k+1,l) ⟨by simp only[Xx hne,EVA,seval,Zc,men],by (simp only[Zb2 hS,EVA,seval,Zc,men]) <;> rfl⟩ ⟨by omega,rfl,by rw[Nat.add_zero,hc2,hc1,List.length_take];omega,by rw[Nat.add_zero,hc2,hc1],by omega,fun _ _=>rfl⟩ ?_
    intro m ⟨i,y⟩ hm ⟨hm1,hy,hi,ht,hle,hq⟩
    dsimp only at hy hi ht hle hq
    simp only[EVA,seval,Zc,men]
    refine Zj (fun hlt2=>?_) (fun hge2=>?_)
    ·have b1:k+1+(m+1)<l.length:=by omega
     have b2:m+1<l.length-(k+1):=by omega
     have b3:m<l.length-(k+1):=by omega
     have gy:=Zz (l:=y) (i:=k+1+(m+1)) (by omega)
     have gy1:=Zz (l:=y) (i:=k+1+m) (by omega)
     have q1:=hq (k+1+(m+1)) (by omega)
     have q2:=hq (k+1+m) (by omega)
     have e2:(((m+1:Nat):Int)-1)=(m:Int):=by omega
     have b4:i<l.length:=by omega
     by_cases hx2:g0 l (k+1+(m+1))=g0 l (k+1+m)
     ·have hc3:cz (g0 l) (k+1+(m+1)+1)=cz (g0 l) (k+1+m+1):=Zmo (by omega) hx2
      simp only[Qp hne,ZaV,e2,gy,gy1,q1,q2,b2,b3,hx2,Xx hne,EVA,seval,Zc,men]
      exact⟨by rw[Zd];omega,by rw[Zd];omega,Ze (i,y) (by omega) rfl ⟨by omega,hy,by rw[show k+1+(m+1)+1=k+1+(m+1)+1 from rfl,hc3];exact hi,by rw[hc3];exact ht,by show i<=k+1+(m+1);omega,fun q hqq=>hq q (by omega)⟩⟩
     ·have hc3:cz (g0 l) (k+1+(m+1)+1)=cz (g0 l) (k+1+m+1)++[g0 l (k+1+(m+1))]:=Ztt hx2
      have s1:=Zmm (y:=y) (j:=i) (v:=g0 l (k+1+(m+1))) (by omega)
      have gy0:=Zz (l:=y) (i:=i) (by omega)
      simp only[Qp hne,ZdY hne,ZaG,ZaV,e2,gy,gy0,gy1,q1,q2,b2,b3,b4,hx2,s1,Nat.zero_add,Xx hne,EVA,seval,Zc,men]
      exact⟨by rw[Zd];omega,by rw[Zd];omega,by rw[Zd];omega,Ze (i+1,y.set i (g0 l (k+1+(m+1)))) (by omega) rfl ⟨by omega,by rw[List.length_set];exact hy,by rw[hc3,List.length_append,<-hi];rfl,by rw[Zev (by omega),ht,hc3],by show i+1<=k+1+(m+1);omega,fun q hqq=>by
       rw[Zi4 (by omega),if_neg (by omega)]
       exact hq q (by omega)⟩⟩
    ·have en:k+1+m+1=l.length:=by omega
     rw[en] at hi ht
     refine⟨by omega,Ztu hne (ZaV ..),?_⟩
     have tk:(rI y).take i=rI (cz (g0 l) l.length):=by rw[<-ht];exact(List.map_take ..).symm
     simp only[Qp hne,ZdY hne,ZaG,ZaV,tk,List.length_map,hy,EVA,seval,Zc,men]
     refine⟨by omega,by omega,by omega,by omega,Ztu hne (ZaV ..),?_⟩
     simp only[Zgb hne,Nat.sub_zero,hi,EVA,seval,Zc,men]
   ·simp only[Qp hne,hS,e1,gj,gj1,l1,l2,hx,Nat.zero_add,Xx hne,EVA,seval,Zc,men]
    exact⟨by rw[Zd];omega,by rw[Zd];omega,Ze () (by omega) rfl ⟨by omega,fun m h0 h1=>by
     by_cases e:m=k+1
     ·subst e;exact hx
     ·exact hB m h0 (by omega)⟩⟩
  ·exact absurd (fun m h0 h1=>hB m h0 (by omega)) hd
theorem Zi8{C:Zk}{env:List (Nat×IV)}{loc:List (Nat×Ob)}{out:Sto}{d:Option Nat}{K:St->Prop}{fid:FuncId}{imp:Bool}{lvl:Nat}{args:List IV}{r:IV}(key:Nat)(o:Ob)(h:C fid (lvl+1) args (ZC lvl loc out) r (ZT (ZC lvl loc out) (lvl,key) o))
  (hk:freshK (keyOf d) (ptO key o loc) (impv imp lvl (keyOf d) 0 r).2.length/\K ⟨lvl,ptd d (impv imp lvl (keyOf d) 0 r).1 env,addO (keyOf d) (impv imp lvl (keyOf d) 0 r).2 (ptO key o loc),out⟩):kcy C fid imp lvl env loc out d K args :=
 Zb0 (ptO key o loc) out (fun _ _=>rfl) (by rw[ZiF];exact h) hk
theorem Zkp{C:Zk}{env:List (Nat×IV)}{loc:List (Nat×Ob)}{out:Sto}{d:Option Nat}{K:St->Prop}{fid:FuncId}{imp:Bool}{lvl:Nat}{args:List IV}{r:IV}(key:Nat)(o:Nat->Ob)(h:∃ v,C fid (lvl+1) args (ZC lvl loc out) r (ZT (ZC lvl loc out) (lvl,key) (o v)))
  (hk:∀ v,freshK (keyOf d) (ptO key (o v) loc) (impv imp lvl (keyOf d) 0 r).2.length/\K ⟨lvl,ptd d (impv imp lvl (keyOf d) 0 r).1 env,addO (keyOf d) (impv imp lvl (keyOf d) 0 r).2 (ptO key (o v) loc),out⟩):kcy C fid imp lvl env loc out d K args:=by
 obtain⟨v,h⟩:=h
 exact Zi8 key (o v) h (hk v)
end Go.Fd

/-
  JOIN AND MEET, THE REFERENCE'S SIDE. Own work.
-/
namespace Go.Fd
set_option maxRecDepth 20000
def Zgs(n:Int)(l:List Int):List Int:=if (l.dropWhile fun x=>decide (x<n)).head? = some n then l else (l.takeWhile fun x=>decide (x<n))++n::(l.dropWhile fun x=>decide (x<n))
theorem Zew{n:Int}:∀{l:List Int} {j:Nat},(∀ k,k<j->g0 l k<n)->j<=l.length->(j<l.length -> ¬ g0 l j<n)->(l.takeWhile fun x=>decide (x<n))=l.take j/\(l.dropWhile fun x=>decide (x<n))=l.drop j
 | [],j,_,h2,_=>by
  have:j=0:=by simpa using h2
  subst this
  simp
 | x::r,0,_,_,h3=>by
  have:=h3 (by simp)
  have e:¬ x<n:=this
  simp [e]
 | x::r,j+1,h1,h2,h3=>by
  have e:x<n:=h1 0 (by omega)
  have ih:=Zew (l:=r) (j:=j) (n:=n) (fun k hk=>h1 (k+1) (by omega)) (by simpa using h2) (fun h=>h3 (by simpa using h))
  simp [e,ih.1,ih.2]
theorem Zpo{l:List Int}{j:Nat}:cut (rI l) 0 (j-0)=rI (l.take j):=Zfl (c:=fun n:Int=>[tv n])
theorem Zpp{l:List Int}{j:Nat}:cut (rI l) j (l.length-j)=rI (l.drop j):=by
 simp only[cut,List.map_drop]
 exact List.take_of_length_le (by simp)
theorem Zi9(l:List Int)(n:Int)(hl:l.length<=4294967290)(lvl:Nat)(S:Sto):Sem Proofs.Tryz.prog XK lvl [tI l,iI n] S (tI (Zgs n l)) S:=by
 refine Zb Zfj trivial ?_
 simp only[ZaZ,List.length_map,EVA,seval,Zc,men]
 refine Zx (α:=Unit) l.length (fun j _=>[(5,iI j)]) (fun _ _=>[]) (fun j _=>∀ k,k<j->g0 l k<n) () (by simp only[EVA,seval,Zc,men]) (by (simp only[EVA,seval,Zc,men]) <;> rfl) (fun k hk=>absurd hk (Nat.not_lt_zero k)) ?_
 intro j _ hj hA
 simp only[List.length_map,EVA,seval,Zc,men]
 have scr:∀ x:List Int,ScR (rI x):=fun x e he t ht=>by
  obtain⟨n,_,rfl⟩:=List.mem_map.1 he
  simp only[List.mem_cons,List.not_mem_nil,or_false] at ht
  subst ht
  rfl
 have unr:∀ x:List Int,UnR 1 (rI x):=fun x=>Zl7 (fun n:Int=>[tv n]) (fun _=>rfl) x
 have fin:(j<l.length -> ¬ g0 l j<n)->(j<l.length->g0 l j≠n)->rI (l.take j)++[[tv n]]++rI (l.drop j)=rI (Zgs n l):=fun h1 h2=>by
  obtain⟨e1,e2⟩:=Zew hA hj h1
  unfold Zgs
  rw[e1,e2,if_neg]
  ·simp
  ·intro e
   rw[List.head?_drop] at e
   have hjl:=(List.getElem?_eq_some_iff.1 e).1
   refine h2 hjl ?_
   show l.getD j 0=n
   rw[List.getD_eq_getElem?_getD,e]
   rfl
 have lt:(l.take j).length=j:=by rw[List.length_take];omega
 have ld:(l.drop j).length=l.length-j:=List.length_drop
 by_cases hja:j<l.length
 ·have ga:=Zz hja
  have h1:(j:Int)<l.length:=by omega
  by_cases hlt:g0 l j<n
  ·simp only[h1,hja,ga,hlt,List.length_map,EVA,seval,Zc,men]
   exact⟨by rw[Zd];omega,Ze () hja rfl (Ym hA hlt)⟩
  ·by_cases he:g0 l j=n
   ·have hnn:¬ n<n:=by omega
    simp only[h1,hja,ga,hlt,he,hnn,List.length_map,EVA,seval,Zc,men]
    have e2:=(Zew hA hj fun _=>hlt).2
    have:Zgs n l=l:=by
     unfold Zgs
     rw[if_pos]
     rw[e2,List.head?_drop,List.getElem?_eq_getElem hja]
     have:g0 l j=l[j]:=by simp [hja]
     rw[<-this,he]
    rw[this]
   ·have hf:=fin (fun _=>hlt) (fun _=>he)
    have hlen:=congrArg List.length hf
    simp only[List.length_append,List.length_map,List.length_cons,List.length_nil,lt,ld] at hlen
    simp only[h1,hja,ga,hlt,he,List.length_map,Zpo,Zpp,scr,unr,hf,List.length_append,lt,ld,EVA,seval,Zc,men]
    refine⟨fun _=>trivial,by omega,by omega,by omega,by omega,fun _=>trivial,by omega,by omega,by omega,?_⟩
    rw[Zgl (by rw[List.length_map];omega)]
 ·have h1:¬ (j:Int)<l.length:=by omega
  have hf:=fin (fun h=>absurd h hja) (fun h=>absurd h hja)
  have hlen:=congrArg List.length hf
  simp only[List.length_append,List.length_map,List.length_cons,List.length_nil,lt,ld] at hlen
  simp only[h1,List.length_map,Zpo,Zpp,scr,unr,hf,List.length_append,lt,ld,EVA,seval,Zc,men]
  refine⟨fun _=>trivial,by omega,by omega,by omega,by omega,fun _=>trivial,by omega,by omega,by omega,?_⟩
  rw[Zgl (by rw[List.length_map];omega)]
def Do(a b:List Int):List Int:=b.foldl (fun l n=>Zgs n l) a
theorem ZhD{a b:List Int}{j:Nat}(h:j<b.length):Do a (b.take (j+1))=Zgs (g0 b j) (Do a (b.take j)):=by
 have e:g0 b j=b[j]:=by simp [h]
 unfold Do
 rw[List.take_succ_eq_append_getElem h,List.foldl_append,e]
 rfl
theorem Zmp{n:Int}{l:List Int}:(Zgs n l).length<=l.length+1:=by
 unfold Zgs
 split
 ·omega
 ·have:=congrArg List.length (List.takeWhile_append_dropWhile (p:=fun x=>decide (x<n)) (l:=l))
  simp only[List.length_append,List.length_cons] at this ⊢
  omega
end Go.Fd

/-
  NUMBERS FALL OUT OF ANOTHER'S ROW: slices.DeleteFunc; common. Own work.
-/
namespace Go.Fd
set_option maxRecDepth 20000
end Go.Fd

/-
  SORTING A FEW PAIRS: insertionSortCmpFunc ON ANOTHER'S ROW; RISING LISTS OF ANY ORDER. Own work.
-/
namespace Go.Fd
set_option maxRecDepth 20000
section
variable {α:Type} {e0:α} {lt:α->α->Prop}
def gx(e0:α)(l:List α)(i:Nat):α:=l.getD i e0
theorem Zkq{l:List α}{i:Nat}(h:i<l.length):gx e0 l i=l[i]:=by
 unfold gx
 rw[List.getD_eq_getElem?_getD,List.getElem?_eq_getElem h]
 rfl
end
end Go.Fd

/-
  LISTS IN ORDER: THE ONE RISING LIST OF SOME MEMBERS. Own work.
-/
namespace Go.Fd
set_option maxRecDepth 20000
structure Ords {α:Type} (lt:α->α->Prop):Prop where
 irr:∀ a,¬ lt a a
 tr:∀ a b c,lt a b->lt b c->lt a c
 tri:∀ a b,lt a b\/a=b\/lt b a
theorem Ords.asym{α:Type}{lt:α->α->Prop}(O:Ords lt)(a b:α)(h:lt a b):¬ lt b a:=fun g=>O.irr a (O.tr _ _ _ h g)
section
variable {α:Type} {e0:α} {lt:α->α->Prop}
theorem Zja(O:Ords lt):∀{x y:List α},x.Pairwise (fun a b=>¬ lt b a)->y.Pairwise (fun a b=>¬ lt b a)->x.Perm y->x=y
 | [],y,_,_,h=>by rw[List.nil_perm.1 h]
 | a::r,[],_,_,h=>by have:=h.length_eq;simp at this
 | a::r,b::s,hx,hy,h=>by
  rw[List.pairwise_cons] at hx hy
  have e:a=b:=by
   rcases List.mem_cons.1 (h.mem_iff.1 (List.mem_cons_self (a:=a) (l:=r))) with e | h1
   ·exact e
   ·rcases List.mem_cons.1 (h.mem_iff.2 (List.mem_cons_self (a:=b) (l:=s))) with e | h2
    ·exact e.symm
    ·rcases O.tri a b with g | g | g
     ·exact absurd g (hy.1 a h1)
     ·exact g
     ·exact absurd g (hx.1 b h2)
  subst e
  congr 1
  exact Zja O hx.2 hy.2 h.cons_inv
noncomputable def ZmF(lt:α->α->Prop)(l:List α):List α:=l.mergeSort fun a b=>@decide (¬ lt b a) (Classical.propDecidable _)
theorem srtG_perm{l:List α}:(ZmF lt l).Perm l:=List.mergeSort_perm ..
theorem Zjb(O:Ords lt){l:List α}:(ZmF lt l).Pairwise (fun a b=>¬ lt b a):=by
 classical
 have h:=List.pairwise_mergeSort (le:=fun a b=>@decide (¬ lt b a) (Classical.propDecidable _)) (fun a b c h1 h2=>by
  simp only[decide_eq_true_eq] at *
  intro g
  rcases O.tri a b with k | k | k
  ·exact h2 (O.tr _ _ _ g k)
  ·subst k;exact h2 g
  ·exact h1 k) (fun a b=>by
  simp only[Bool.or_eq_true,decide_eq_true_eq]
  by_cases g:lt b a
  ·exact .inr (O.asym _ _ g)
  ·exact .inl g) l
 exact h.imp (fun h=>by simpa using h)
theorem cz_mem[DecidableEq α]{g:Nat->α}{c:α}:∀{n:Nat},c∈cz g n↔∃ i,i<n/\g i=c
 | 0=>by simp [cz]
 | n+1=>by
  rw[cz,List.mem_append,cz_mem (n:=n)]
  constructor
  ·rintro(⟨i,h1,h2⟩ | h)
   ·exact⟨i,by omega,h2⟩
   ·split at h
    ·cases h
    ·exact⟨n,by omega,(List.mem_singleton.1 h).symm⟩
  ·rintro⟨i,h1,h2⟩
   by_cases e:i=n
   ·subst e
    by_cases k:i≠0/\g i=g (i-1)
    ·exact .inl ⟨i-1,by omega,k.2.symm.trans h2⟩
    ·rw[if_neg k];exact .inr (by simp [h2])
   ·exact .inl ⟨i,by omega,h2⟩
theorem Zpq(O:Ords lt)[DecidableEq α]{g:Nat->α}:∀{n:Nat},(∀ i j,i<j->j<n -> ¬ lt (g j) (g i))->(cz g n).Pairwise lt
 | 0,_=>by simp [cz]
 | n+1,h=>by
  have ih:=Zpq O (n:=n) fun i j h1 h2=>h i j h1 (by omega)
  by_cases k:n≠0/\g n=g (n-1)
  ·rw[Zmo k.1 k.2];exact ih
  ·have hx:cz g (n+1)=cz g n++[g n]:=by rw[cz,if_neg k]
   rw[hx,List.pairwise_append]
   refine⟨ih,by simp,fun c hc d hd=>?_⟩
   rw[List.mem_singleton] at hd
   subst hd
   obtain⟨i,h1,rfl⟩:=cz_mem.1 hc
   have hn0:n≠0:=by omega
   rcases O.tri (g i) (g n) with e | e | e
   ·exact e
   ·exfalso
    have e1:¬ lt (g n) (g (n-1)):=h (n-1) n (by omega) (by omega)
    have e2:¬ lt (g (n-1)) (g i):=by
     by_cases q:i=n-1
     ·subst q;exact O.irr _
     ·exact h i (n-1) (by omega) (by omega)
    rw[e] at e2
    rcases O.tri (g n) (g (n-1)) with q | q | q
    ·exact e1 q
    ·exact k ⟨hn0,q⟩
    ·exact e2 q
   ·exact absurd e (h i n h1 (by omega))
noncomputable def Zpr[DecidableEq α](e0:α)(lt:α->α->Prop)(l:List α):List α:=cz (gx e0 (ZmF lt l)) (ZmF lt l).length
theorem Zmq(O:Ords lt)[DecidableEq α]{l:List α}:(Zpr e0 lt l).Pairwise lt:=Zpq O fun i j h1 h2=>by
 rw[Zkq h2,Zkq (Nat.lt_trans h1 h2)]
 exact List.pairwise_iff_getElem.1 (Zjb O) i j _ _ h1
theorem setG_mem[DecidableEq α]{l:List α}{c:α}:c∈Zpr e0 lt l↔c∈l:=by
 unfold Zpr
 rw[cz_mem,<-(srtG_perm (lt:=lt) (l:=l)).mem_iff]
 constructor
 ·rintro⟨i,h1,h2⟩
  rw[Zkq h1] at h2
  rw[<-h2];exact List.getElem_mem h1
 ·intro h
  obtain⟨i,h1,h2⟩:=List.getElem_of_mem h
  exact⟨i,h1,by rw[Zkq h1];exact h2⟩
theorem Zmr[DecidableEq α]{l:List α}:(Zpr e0 lt l).length<=l.length:=Nat.le_trans (Zpn _ _) (Nat.le_of_eq srtG_perm.length_eq)
end
theorem Zms:Ords (fun a b:Int=>a<b):=⟨fun a=>Int.lt_irrefl a,fun a b c=>Int.lt_trans,fun a b=>Int.lt_trichotomy a b⟩
end Go.Fd

/-
  JOIN AND MEET, THE PROGRAM'S SIDE. Own work.
-/
namespace Go.Fd
set_option maxRecDepth 20000
theorem Zkr{n c:Int}{l:List Int}:c∈Zgs n l↔c=n\/c∈l:=by
 unfold Zgs
 have hl:=List.takeWhile_append_dropWhile (p:=fun x=>decide (x<n)) (l:=l)
 split
 ·rename_i h
  constructor
  ·exact .inr
  ·rintro(rfl | h2)
   ·have:c∈l.dropWhile fun x=>decide (x<c):=by
     cases hd:l.dropWhile fun x=>decide (x<c) with
     | nil=>rw[hd] at h;cases h
     | cons a r=>rw[hd] at h;simp at h;simp [h]
    rw[<-hl];exact List.mem_append_right _ this
   ·exact h2
 ·rw[List.mem_append,List.mem_cons]
  constructor
  ·rintro(h | h | h)
   ·exact .inr (hl ▸ List.mem_append_left _ h)
   ·exact .inl h
   ·exact .inr (hl ▸ List.mem_append_right _ h)
  ·rintro(h | h)
   ·exact .inr (.inl h)
   ·rw[<-hl,List.mem_append] at h
    rcases h with h | h
    ·exact .inl h
    ·exact .inr (.inr h)
end Go.Fd

/-
  A RULE KEEPS A SORTING, IN PLAIN TERMS. Own work.
-/
namespace Go.Fd
set_option maxRecDepth 20000
noncomputable def ZkV(l:List Int):List Int:=Zpr 0 (fun a b:Int=>a<b) l
theorem Zdq{l:List Int}:(ZkV l).Nodup:=(Zmq Zms).imp fun h e=>by omega
theorem Zcv:∀{x y:List Int},x.Nodup->(∀ c∈x,c∈y)->x.length<=y.length/\(y.length<=x.length->x.Perm y)
 | [],y,_,_=>⟨Nat.zero_le _,fun h=>by rw[List.length_eq_zero_iff.1 (Nat.le_zero.1 h)]⟩
 | a::r,y,hd,hs=>by
  have hc:=List.nodup_cons.1 hd
  have ha:a∈y:=hs a (by simp)
  have hp:=List.perm_cons_erase ha
  obtain⟨h1,h2⟩:=Zcv (x:=r) (y:=y.erase a) hc.2 fun c hcr=>(List.mem_erase_of_ne (fun e=>hc.1 (by rw[<-e];exact hcr))).2 (hs c (by simp [hcr]))
  have hl:=hp.length_eq
  simp only[List.length_cons] at hl ⊢
  exact⟨by omega,fun h=>((h2 (by omega)).cons a).trans hp.symm⟩
theorem setN_len{l:List Int}:(ZkV l).length=l.length↔l.Nodup:=by
 constructor
 ·intro h
  exact(((Zcv Zdq fun c hc=>setG_mem.1 hc).2 (Nat.le_of_eq h.symm)).nodup_iff).1 Zdq
 ·intro h
  have h1:=(Zcv (y:=ZkV l) h fun c hc=>setG_mem.2 hc).1
  have h2:(ZkV l).length<=l.length:=Zmr
  omega
def Zgt(r:TRule)(k:Nat):Prop:=∀ q∈QR r.reactum (-1-(k:Int)),Ye r.reactum q∈(QR r.redex (-1-(k:Int))).map (Ye r.redex)
def Zmt(s:TSorting)(r:TRule)(i:Nat):Prop:=0<=ZiV r.reactum i->Ye r.reactum i∈chs s r.reactum (ZiV r.reactum i)
def UP(s:TSorting)(r:TRule)(i:Nat):List Int:=chs s r.redex (g0 r.redex.sites (g0 r.copies i).toNat)
def Zmu(s:TSorting)(r:TRule)(i:Nat):Prop:=0<(UP s r i).length->0<=g0 r.reactum.sites i/\U5 (UP s r i) (chs s r.reactum (g0 r.reactum.sites i))
def Zmv(s:TSorting)(r:TRule)(l:Nat):Prop:=(Zah s l (onL s r.reactum l)).length=0
def Zjc(s:TSorting)(r:TRule)(i k:Nat):Prop:=g0 (onL s r.reactum (r.reactum.edges+i)) k<=g0 (onL s r.redex (r.redex.edges+i)) k
structure keepP (s:TSorting) (r:TRule):Prop where
 roots:∀ k:Nat,k<r.redex.roots.toNat->Zgt r k
 nodes:∀ i,i<r.reactum.nodes.length->Zmt s r i
 sites:∀ i,i<r.copies.length->Zmu s r i
structure keepL (s:TSorting) (r:TRule):Prop where
 edges:∀ l:Nat,l<r.reactum.edges.toNat->Zmv s r l
 outer:∀ i:Nat,i<r.redex.outer.length->∀ k:Nat,k<s.most.length->Zjc s r i k
structure keepOK (s:TSorting) (r:TRule):Prop where
 once:r.copies.Nodup
 places:keepP s r
 links:keepL s r
structure goodK (sig:List TControl) (s:TSorting) (r:TRule):Prop where
 srt:sortOK sig s
 rule:ruleOK sig r
noncomputable def VH(sig:List TControl)(s:TSorting)(r:TRule):Bool:=dc (goodK sig s r/\keepOK s r)
noncomputable def VI(sig:List TControl)(s:TSorting)(r:TRule):Bool:=dc (goodK sig s r)
end Go.Fd

/-
  A RULE KEEPS A SORTING: PARTS, BOTH SIDES. Own work.
-/
namespace Go.Fd
set_option maxRecDepth 20000
theorem Zks{x:List Int}(h:Zkl x x.length):x.Pairwise (fun a b=>a<=b):=by
 rw[List.pairwise_iff_getElem]
 intro i j hi hj hij
 have:=h i j hij hj
 rwa [show g0 x i=x[i] by simp [hi],show g0 x j=x[j] by simp [hj]] at this
theorem Zmw{l x:List Int}(hp:x.Perm l)(h:Zkl x l.length):x=ZmF (fun a b:Int=>a<b) l:=by
 rw[<-hp.length_eq] at h
 exact Zja Zms ((Zks h).imp fun h=>by omega) (Zjb Zms) (hp.trans srtG_perm.symm)
theorem ZhE(l:List Int)(hl:l.length<=12)(lvl:Nat)(S:Sto):Sem Proofs.Tryz.prog Q9 lvl [tI l] S (iI ((ZkV l).length:Int)) S:=by
 obtain⟨srt,hsr⟩:∃ r,r=ZmF (fun a b:Int=>a<b) l:=⟨_,rfl⟩
 have hp:srt.length=l.length:=by rw[hsr];exact srtG_perm.length_eq
 have hN:ZkV l=cz (g0 srt) srt.length:=by rw[hsr];rfl
 rw[hN]
 refine Zb Zd6 trivial ?_
 simp only[DM,EVA,seval,Zc,men]
 refine Za (Zhx l (by omega)) ?_
 simp only[List.length_map,EVA,seval,Zc,men]
 have s1:=fun S' hS=>Zi7 l hl (lvl+1) S' (lvl,160) true l.length 0 (Nat.lt_succ_self _) hS srt (fun x hp hu=>by rw[hsr];exact Zmw hp hu)
 refine Zi8 160 _ (s1 _ ?_) ?_
 ·rw[Qf];rfl
 simp only[EVA,seval,Zc,men]
 have s2:=fun S' hS=>ZfI srt (by omega) (lvl+1) S' (lvl,160) true l.length 0 (Nat.lt_succ_self _) hS
 rw[show ZhS (IV.hd (lvl,160) [] 0 l.length none l.length)=IV.hd (lvl,160) [] 0 srt.length none l.length from by rw[hp];rfl]
 refine Zkp 160 _ (s2 _ ?_) fun v=>?_
 ·rw[Qf];rfl
 simp only[List.length_map,EVA,seval,Zc,men]
 try rfl
theorem Zvk{l:List Int}{j:Nat}:cut (rI l) 0 j=rI (l.take j):=by
 unfold cut
 rw[List.drop_zero]
 exact(List.map_take ..).symm
theorem ZhF{l:List Int}{j:Nat}(h:j<l.length):(l.take (j+1)).Nodup↔(l.take j).Nodup/\g0 l j ∉ l.take j:=by
 have e:g0 l j=l[j]:=by simp [h]
 rw[e,List.take_succ_eq_append_getElem h,List.nodup_append]
 constructor
 ·rintro⟨h1,_,h3⟩
  exact⟨h1,fun hm=>h3 _ hm _ (by simp) rfl⟩
 ·rintro⟨h1,h2⟩
  refine⟨h1,by simp,fun a ha b hb e=>?_⟩
  rw[List.mem_singleton] at hb
  rw[e,hb] at ha
  exact h2 ha
theorem ZhG{l:List Int}{j:Nat}(h:l.Nodup):(l.take j).Nodup:=List.Nodup.sublist (List.take_sublist ..) h
theorem ZhH(r:TRule)(hl:r.copies.length<=100)(lvl:Nat)(S:Sto):Sem Proofs.Tryz.prog Q7 lvl [.ag ((ZO r).map .tr)] S (iB (dc r.copies.Nodup)) S:=by
 refine Zb Zd4 trivial ?_
 simp only[DK,ZO,List.length_map,EVA,seval,Zc,men]
 refine Zx (α:=Unit) r.copies.length (fun j _=>[(3,iI j)]) (fun _ _=>[]) (fun j _=>(r.copies.take j).Nodup) () (by simp only[EVA,seval,Zc,men]) (by (simp only[EVA,seval,Zc,men]) <;> rfl) (by simp) ?_
 intro j _ hj hA
 simp only[List.length_map,EVA,seval,Zc,men]
 refine Zj (fun hlt=>?_) (fun hge=>?_)
 ·have hja:j<r.copies.length:=by omega
  have ga:=Zz hja
  have hs:=ZhF hja
  simp only[ga,hja,Zvk,Nat.sub_zero,Int.toNat_natCast,List.length_map,EVA,seval,Zc,men]
  refine⟨fun h=>h.elim,by omega,by omega,?_⟩
  refine Za (Zch (r.copies.take j) (g0 r.copies j) (by rw[List.length_take];omega)) ?_
  by_cases hm:g0 r.copies j∈r.copies.take j
  ·have hno:¬ r.copies.Nodup:=fun g=>(hs.1 (ZhG g)).2 hm
   rw[decide_eq_true hm,Zf hno]
   simp only[EVA,seval,Zc,men]
   try rfl
  ·rw[decide_eq_false hm]
   simp only[EVA,seval,Zc,men]
   exact⟨by rw[Zd];omega,Ze () hja rfl (hs.2 ⟨hA,hm⟩)⟩
 ·have hj1:j=r.copies.length:=by omega
  subst hj1
  rw[List.take_length] at hA
  rw[ZD hA]
  try rfl
def Zex(b:TBigraph)(p:Int):List Int:=Do [] ((QR b p).map (Ye b))
theorem Zdr{c:Int}:∀{l a:List Int},c∈Do a l↔c∈a\/c∈l
 | [],a=>by simp [Do]
 | n::r,a=>by
  have ih:=Zdr (c:=c) (l:=r) (a:=Zgs n a)
  rw[show Do a (n::r)=Do (Zgs n a) r from rfl,ih,Zkr,List.mem_cons]
  constructor
  ·rintro((h | h) | h)
   ·exact .inr (.inl h)
   ·exact .inl h
   ·exact .inr (.inr h)
  ·rintro(h | h | h)
   ·exact .inl (.inr h)
   ·exact .inl (.inl h)
   ·exact .inr h
theorem ctlsN_mem{b:TBigraph}{p c:Int}:c∈Zex b p↔c∈(QR b p).map (Ye b):=by
 unfold Zex
 rw[Zdr]
 simp
theorem ZaN:∀{l a:List Int},(Do a l).length<=a.length+l.length
 | [],a=>by simp [Do]
 | n::r,a=>by
  have ih:=ZaN (l:=r) (a:=Zgs n a)
  have:=Zmp (n:=n) (l:=a)
  rw[show Do a (n::r)=Do (Zgs n a) r from rfl,List.length_cons]
  omega
theorem U6(b:TBigraph)(p:Int)(hn:b.nodes.length<=1000)(lvl:Nat)(S:Sto):Sem Proofs.Tryz.prog JQ lvl [.ag ((Zg b).map .tr),iI p] S (tI (Zex b p)) S:=by
 refine Zb ZaJ trivial ?_
 simp only[X4,Zg,List.length_map,EVA,seval,Zc,men]
 have qk:=Zdl b p (by omega)
 simp only[Zg,List.map_cons,List.map_nil] at qk
 refine Za qk ?_
 have hkl:=Zeu (b:=b) (p:=p)
 simp only[List.length_map,EVA,seval,Zc,men]
 refine Zx (α:=Unit) (QR b p).length (fun j _=>[(5,tI (Do [] (((QR b p).map (Ye b)).take j))),(7,iI j)]) (fun _ _=>[]) (fun _ _=>True) () (by simp only[EVA,seval,Zc,men]) (by (simp only[List.take_zero,Do,List.foldl_nil,EVA,seval,Zc,men]) <;> rfl) trivial ?_
 intro j _ hj _
 simp only[List.length_map,EVA,seval,Zc,men]
 refine Zj (fun hlt=>?_) (fun hge=>?_)
 ·have hja:j<(QR b p).length:=by omega
  have gk:=Zz hja
  obtain⟨q,hq,hqe,_⟩:=Zag (show g0 (QR b p) j∈QR b p by simp [hja])
  have gn:=VK (c:=ZE) hq
  have hjm:j<((QR b p).map (Ye b)).length:=by rw[List.length_map];exact hja
  have hc:g0 ((QR b p).map (Ye b)) j=b.nodes[q].control:=by
   have e:(QR b p)[j]=q:=by
    have:g0 (QR b p) j=(QR b p)[j]:=by simp [hja]
    rw[<-this];exact hqe
   simp [hja,e,Ye,hq]
  have hst:=ZhD (a:=[]) hjm
  rw[hc] at hst
  have hel:=ZaN (a:=[]) (l:=((QR b p).map (Ye b)).take j)
  rw[List.length_take,List.length_map] at hel
  simp only[List.length_nil] at hel
  rw[hqe] at gk
  simp only[gk,gn,hja,hq,ZE,Int.toNat_natCast,List.length_map,EVA,seval,Zc,men]
  refine Za (Zi9 (Do [] (((QR b p).map (Ye b)).take j)) b.nodes[q].control (by omega)) ?_
  rw[<-hst]
  simp only[EVA,seval,Zc,men]
  exact⟨by rw[Zd];omega,Ze () hja rfl trivial⟩
 ·have hj1:j=(QR b p).length:=by omega
  subst hj1
  have e:((QR b p).map (Ye b)).take (QR b p).length=(QR b p).map (Ye b):=List.take_of_length_le (by rw[List.length_map];exact Nat.le_refl _)
  rw[e]
  try first | rfl | exact⟨rfl,rfl⟩
end Go.Fd

/-
  A RULE KEEPS A SORTING: PLACES AND LINKS, THE REFERENCE. Own work.
-/
namespace Go.Fd
set_option maxRecDepth 20000
theorem Zjd{r:TRule}{k:Nat}:Zgt r k↔U5 (Zex r.reactum (-1-(k:Int))) (Zex r.redex (-1-(k:Int))):=by
 constructor
 ·intro h c hc
  obtain⟨q,hq,rfl⟩:=List.mem_map.1 (ctlsN_mem.1 hc)
  exact ctlsN_mem.2 (h q hq)
 ·intro h q hq
  exact ctlsN_mem.1 (h _ (ctlsN_mem.2 (List.mem_map.2 ⟨q,hq,rfl⟩)))
theorem ZfJ{b:TBigraph}{p:Int}:(Zex b p).length<=b.nodes.length:=by
 have h1:=ZaN (a:=[]) (l:=(QR b p).map (Ye b))
 have h2:=Zeu (b:=b) (p:=p)
 rw[List.length_map] at h1
 simp only[List.length_nil] at h1
 unfold Zex
 omega
theorem Zje{sig:List TControl}{b:TBigraph}(h:bigOK sig b){i:Nat}(hi:i<b.nodes.length):b.nodes[i].parent<b.nodes.length:=by
 rcases (h.nodes i hi).par with q | q <;> omega
theorem Zjf{sig:List TControl}{r:TRule}(hr:ruleOK sig r){i:Nat}(hi:i<r.copies.length):∃ k:Nat,g0 r.copies i=k/\k<r.redex.sites.length:=by
 have h:=hr.copies (g0 r.copies i) (by simp [hi])
 unfold Zdo at h
 exact⟨(g0 r.copies i).toNat,by omega,by omega⟩
theorem ZfK(sig:List TControl)(s:TSorting)(r:TRule)(hs:sortOK sig s)(hr:ruleOK sig r)(hb:Jv 4294967296 s)(lvl:Nat)(S:Sto):Sem Proofs.Tryz.prog VX lvl [.ag ((Zh s).map .tr),.ag ((ZO r).map .tr)] S (iB (dc (keepP s r))) S:=by
 have h2a:two sig s r.reactum:=⟨hs,hr.rea⟩
 have h2b:two sig s r.redex:=⟨hs,hr.red⟩
 have r1:=hr.red.roots
 have n1:=hr.red.small.nodes
 have n2:=hr.rea.small.nodes
 have s1:=hr.red.sitesL
 have s2:=hr.rea.sitesL
 have hcl:=hr.len
 refine Zb Zb3 trivial ?_
 simp only[W9,ZO,Zh,List.length_map,EVA,seval,Zc,men]
 refine Zx (α:=Unit) r.redex.roots.toNat (fun j _=>[(5,iI j)]) (fun _ _=>[]) (fun j _=>∀ k,k<j->Zgt r k) () (by simp only[EVA,seval,Zc,men]) (by (simp only[EVA,seval,Zc,men]) <;> rfl) (fun k hk=>absurd hk (Nat.not_lt_zero k)) ?_
 intro j _ hj hA
 simp only[List.length_map,EVA,seval,Zc,men]
 refine Zj (fun hlt=>?_) (fun hge=>?_)
 ·have hja:j<r.redex.roots.toNat:=by omega
  have qa:=U6 r.reactum (-1-(j:Int)) (by omega)
  have qb:=U6 r.redex (-1-(j:Int)) (by omega)
  simp only[Zg,List.map_cons,List.map_nil] at qa qb
  refine⟨by rw[Zd];omega,?_⟩
  refine Za qa ?_
  simp only[EVA,seval,Zc,men]
  refine⟨by rw[Zd];omega,?_⟩
  refine Za qb ?_
  simp only[EVA,seval,Zc,men]
  have l1:=ZfJ (b:=r.reactum) (p:=-1-(j:Int))
  have l2:=ZfJ (b:=r.redex) (p:=-1-(j:Int))
  refine Za (Zdp (Zex r.reactum (-1-(j:Int))) (Zex r.redex (-1-(j:Int))) (by omega) (by omega)) ?_
  rw[Jf (Zjd (r:=r) (k:=j)).symm]
  by_cases hm:Zgt r j
  ·rw[ZD hm]
   simp only[EVA,seval,Zc,men]
   exact⟨by rw[Zd];omega,Ze () hja rfl (UN hA hm)⟩
  ·rw[Zf hm,Zf fun g:keepP s r=>hm (g.roots j hja)]
   simp only[EVA,seval,Zc,men]
   try rfl
 have hj1:j=r.redex.roots.toNat:=by omega
 subst hj1
 refine Zx (α:=Unit) r.reactum.nodes.length (fun j _=>[(6,iI j)]) (fun _ _=>[]) (fun j _=>∀ k,k<j->Zmt s r k) () (by simp only[EVA,seval,Zc,men]) (by (simp only[EVA,seval,Zc,men]) <;> rfl) (fun k hk=>absurd hk (Nat.not_lt_zero k)) ?_
 intro j _ hj hB
 simp only[List.length_map,EVA,seval,Zc,men]
 refine Zj (fun hlt=>?_) (fun hge=>?_)
 ·have hja:j<r.reactum.nodes.length:=by omega
  have ga:=VK (c:=ZE) hja
  have hpp:=UF hja
  have hcc:Ye r.reactum j=r.reactum.nodes[j].control:=by simp [Ye,hja]
  by_cases hp:0<=r.reactum.nodes[j].parent
  ·have e:=eq_true hp
   have ql:=Ws sig s r.reactum r.reactum.nodes[j].parent h2a (Zje hr.rea hja)
   simp only[Zg,Zh,List.map_cons,List.map_nil] at ql
   simp only[ga,e,hja,ZE,ZM,ZN,List.set_cons_zero,List.set_cons_succ,List.length_map,EVA,seval,Zc,men]
   refine Za ql ?_
   simp only[ga,e,hja,ZE,List.length_map,EVA,seval,Zc,men]
   have hle:=h2a.chsL hb r.reactum.nodes[j].parent
   refine Za (Zch (chs s r.reactum r.reactum.nodes[j].parent) r.reactum.nodes[j].control (by omega)) ?_
   by_cases hm:r.reactum.nodes[j].control∈chs s r.reactum r.reactum.nodes[j].parent
   ·rw[decide_eq_true hm]
    simp only[EVA,seval,Zc,men]
    exact⟨by rw[Zd];omega,Ze () hja rfl (UN hB (fun _=>by rw[hpp,hcc];exact hm))⟩
   ·rw[decide_eq_false hm,Zf fun g:keepP s r=>hm (by have:=g.nodes j hja (by rw[hpp];exact hp);rw[hpp,hcc] at this;exact this)]
    simp only[EVA,seval,Zc,men]
    try rfl
  ·have e:=eq_false hp
   simp only[ga,e,hja,ZE,ZM,ZN,List.set_cons_zero,List.set_cons_succ,List.length_map,EVA,seval,Zc,men]
   exact⟨by rw[Zd];omega,Ze () hja rfl (UN hB (fun h=>by rw[hpp] at h;exact absurd h hp))⟩
 have hj1:j=r.reactum.nodes.length:=by omega
 subst hj1
 refine Zx (α:=Unit) r.copies.length (fun j _=>[(8,iI j)]) (fun _ _=>[]) (fun j _=>∀ k,k<j->Zmu s r k) () (by simp only[EVA,seval,Zc,men]) (by (simp only[EVA,seval,Zc,men]) <;> rfl) (fun k hk=>absurd hk (Nat.not_lt_zero k)) ?_
 intro j _ hj hC
 simp only[List.length_map,EVA,seval,Zc,men]
 refine Zj (fun hlt=>?_) (fun hge=>?_)
 ·have hja:j<r.copies.length:=by omega
  have ga:=Zz hja
  obtain⟨k,hk,hkl⟩:=Zjf hr hja
  rw[hk] at ga
  have gs:=Zz hkl
  have hjs:j<r.reactum.sites.length:=by omega
  have gt:=Zz hjs
  have hfr:UP s r j=chs s r.redex (g0 r.redex.sites k):=by unfold UP;rw[hk,Int.toNat_natCast]
  have qf:=Ws sig s r.redex (g0 r.redex.sites k) h2b (ZbC hr.red hkl)
  have qt:=Ws sig s r.reactum (g0 r.reactum.sites j) h2a (ZbC hr.rea hjs)
  simp only[Zg,Zh,List.map_cons,List.map_nil] at qf qt
  have l1:=h2b.chsL hb (g0 r.redex.sites k)
  have l2:=h2a.chsL hb (g0 r.reactum.sites j)
  simp only[ga,gs,hja,hkl,Int.toNat_natCast,List.length_map,EVA,seval,Zc,men]
  refine Za qf ?_
  rw[<-hfr] at l1 ⊢
  by_cases hpos:0<(UP s r j).length
  ·have e1:=eq_true (show (0:Int)<(UP s r j).length by omega)
   by_cases ht:g0 r.reactum.sites j<0
   ·have e2:=eq_true ht
    rw[Zf fun g:keepP s r=>by have:=(g.sites j hja hpos).1;omega]
    simp only[gt,e1,e2,hjs,Int.toNat_natCast,List.length_map,EVA,seval,Zc,men]
    try rfl
   ·have e2:=eq_false ht
    simp only[gt,e1,e2,hjs,Int.toNat_natCast,List.length_map,EVA,seval,Zc,men]
    refine Za qt ?_
    simp only[List.length_map,EVA,seval,Zc,men]
    refine Za (Zdp (UP s r j) (chs s r.reactum (g0 r.reactum.sites j)) (by omega) (by omega)) ?_
    by_cases hm:U5 (UP s r j) (chs s r.reactum (g0 r.reactum.sites j))
    ·rw[ZD hm]
     simp only[EVA,seval,Zc,men]
     exact⟨by rw[Zd];omega,Ze () hja rfl (UN hC fun _=>⟨by omega,hm⟩)⟩
    ·rw[Zf hm,Zf fun g:keepP s r=>hm (g.sites j hja hpos).2]
     simp only[EVA,seval,Zc,men]
     try rfl
  ·have e1:=eq_false (show ¬ (0:Int)<(UP s r j).length by omega)
   simp only[gt,e1,hjs,Int.toNat_natCast,List.length_map,EVA,seval,Zc,men]
   exact⟨by rw[Zd];omega,Ze () hja rfl (UN hC fun h=>absurd h hpos)⟩
 ·have hj1:j=r.copies.length:=by omega
  subst hj1
  rw[ZD (p:=keepP s r) ⟨hA,hB,hC⟩]
  try rfl
theorem Zgu(sig:List TControl)(s:TSorting)(r:TRule)(hs:sortOK sig s)(hr:ruleOK sig r)(lvl:Nat)(S:Sto):Sem Proofs.Tryz.prog Qq lvl [.ag ((Zh s).map .tr),.ag ((ZO r).map .tr)] S (iB (dc (keepL s r))) S:=by
 have h2a:two sig s r.reactum:=⟨hs,hr.rea⟩
 have h2b:two sig s r.redex:=⟨hs,hr.red⟩
 have ea:=hr.rea.edges
 have eb:=hr.red.edges
 have ol:=hr.red.small.outer
 have hm:=hs.many
 have hoo:=congrArg List.length hr.outer
 refine Zb ZcG trivial ?_
 simp only[UT,ZO,Zh,List.length_map,EVA,seval,Zc,men]
 refine Zx (α:=Unit) r.reactum.edges.toNat (fun j _=>[(5,iI j)]) (fun _ _=>[]) (fun j _=>∀ k,k<j->Zmv s r k) () (by simp only[EVA,seval,Zc,men]) (by (simp only[EVA,seval,Zc,men]) <;> rfl) (fun k hk=>absurd hk (Nat.not_lt_zero k)) ?_
 intro j _ hj hA
 simp only[List.length_map,EVA,seval,Zc,men]
 refine Zj (fun hlt=>?_) (fun hge=>?_)
 ·have hja:j<r.reactum.edges.toNat:=by omega
  have q1:=Zet sig s r.reactum j h2a
  simp only[Zg,Zh,List.map_cons,List.map_nil] at q1
  have l0:=(Zdn (s:=s) hr.rea.small j).len
  have q2:=ZfE sig s j (onL s r.reactum j) hs l0
  simp only[Zh,List.map_cons,List.map_nil] at q2
  refine Za q1 ?_
  simp only[List.length_map,EVA,seval,Zc,men]
  refine Za q2 ?_
  by_cases h0:(Zah s j (onL s r.reactum j)).length=0
  ·have e0:=eq_false (show ¬ (0:Int)<(Zah s j (onL s r.reactum j)).length by omega)
   simp only[e0,List.length_map,EVA,seval,Zc,men]
   exact⟨by rw[Zd];omega,Ze () hja rfl (UN hA h0)⟩
  ·have e0:=eq_true (show (0:Int)<(Zah s j (onL s r.reactum j)).length by omega)
   rw[Zf fun g:keepL s r=>h0 (g.edges j hja)]
   simp only[e0,List.length_map,EVA,seval,Zc,men]
   try rfl
 have hj1:j=r.reactum.edges.toNat:=by omega
 subst hj1
 refine Zx (α:=Unit) r.redex.outer.length (fun j _=>[(6,iI j)]) (fun _ _=>[]) (fun j _=>∀ i,i<j->∀ k,k<s.most.length->Zjc s r i k) () (by simp only[EVA,seval,Zc,men]) (by (simp only[EVA,seval,Zc,men]) <;> rfl) (fun k hk=>absurd hk (Nat.not_lt_zero k)) ?_
 intro j _ hj hB
 simp only[List.length_map,EVA,seval,Zc,men]
 refine Zj (fun hlt=>?_) (fun hge=>?_)
 ·have hja:j<r.redex.outer.length:=by omega
  have q1:=Zet sig s r.redex (r.redex.edges+j) h2b
  have q2:=Zet sig s r.reactum (r.reactum.edges+j) h2a
  simp only[Zg,Zh,List.map_cons,List.map_nil] at q1 q2
  have l1:=(Zdn (s:=s) hr.red.small (r.redex.edges+j)).len
  have l2:=(Zdn (s:=s) hr.rea.small (r.reactum.edges+j)).len
  refine⟨by rw[Zd];omega,?_⟩
  refine Za q1 ?_
  simp only[List.length_map,EVA,seval,Zc,men]
  refine⟨by rw[Zd];omega,?_⟩
  refine Za q2 ?_
  simp only[List.length_map,EVA,seval,Zc,men]
  refine Zx (α:=Unit) s.most.length (fun k _=>[(9,iI k)]) (fun _ _=>[]) (fun k _=>∀ q,q<k->Zjc s r j q) () (by simp only[EVA,seval,Zc,men]) (by (simp only[EVA,seval,Zc,men]) <;> rfl) (fun k hk=>absurd hk (Nat.not_lt_zero k)) ?_
  intro k _ hk hC
  simp only[l1,List.length_map,EVA,seval,Zc,men]
  refine Zj (fun hlt2=>?_) (fun hge2=>?_)
  ·have hka:k<s.most.length:=by omega
   have g1:=Zz (l:=onL s r.redex (r.redex.edges+j)) (i:=k) (by omega)
   have g2:=Zz (l:=onL s r.reactum (r.reactum.edges+j)) (i:=k) (by omega)
   by_cases hq:Zjc s r j k
   ·have e:=eq_false (show ¬ g0 (onL s r.redex (r.redex.edges+j)) k<g0 (onL s r.reactum (r.reactum.edges+j)) k by unfold Zjc at hq;omega)
    simp only[g1,g2,e,Int.toNat_natCast,List.length_map,EVA,seval,Zc,men]
    exact⟨by rw[Zd];omega,Ze () hka rfl (UN hC hq)⟩
   ·have e:=eq_true (show g0 (onL s r.redex (r.redex.edges+j)) k<g0 (onL s r.reactum (r.reactum.edges+j)) k by unfold Zjc at hq;omega)
    rw[Zf fun g:keepL s r=>hq (g.outer j hja k hka)]
    simp only[g1,g2,e,Int.toNat_natCast,List.length_map,EVA,seval,Zc,men]
    try rfl
  ·have hk1:k=s.most.length:=by omega
   subst hk1
   exact⟨by rw[Zd];omega,Ze () hja rfl (UN hB hC)⟩
 ·have hj1:j=r.redex.outer.length:=by omega
  subst hj1
  rw[ZD (p:=keepL s r) ⟨hA,hB⟩]
  try rfl
end Go.Fd

/-
  A RULE KEEPS A SORTING: PLACES AND LINKS, THE PROGRAM; THE LAW'S FUNCTIONS. Own work.
-/
namespace Go.Fd
set_option maxRecDepth 20000
theorem ZaO(had:List Int)(r:TRule)(q:Nat)(hq:q<r.reactum.nodes.length)(hl:had.length<=1000)(lvl:Nat)(S:Sto):Sem Proofs.Tryz.prog JY lvl [iI q,.ta [Tr.sl (rI had)],.ta (ZO r)] S (iB (!decide (Ye r.reactum q∈had))) S:=by
 have gn:=VK (c:=ZE) hq
 have hc:Ye r.reactum q=r.reactum.nodes[q].control:=by simp [Ye,hq]
 refine Zb UK trivial ?_
 simp only[QH,ZO,gn,hq,ZE,Int.toNat_natCast,List.length_map,EVA,seval,Zc,men]
 refine Za (Uo had r.reactum.nodes[q].control (by omega)) ?_
 simp only[EVA,seval,Zc,men]
 rw[hc]
 try rfl
theorem Zcw(sig:List TControl)(s:TSorting)(r:TRule)(hs:sortOK sig s)(hr:ruleOK sig r)(hb:Jv 4294967296 s)(lvl:Nat)(S:Sto):Sem Proofs.Tryz.prog Yq lvl [.ag ((Zh s).map .tr),.ag ((ZO r).map .tr)] S (iB (dc (keepP s r))) S:=by
 have h2a:two sig s r.reactum:=⟨hs,hr.rea⟩
 have h2b:two sig s r.redex:=⟨hs,hr.red⟩
 have r1:=hr.red.roots
 have n1:=hr.red.small.nodes
 have n2:=hr.rea.small.nodes
 have s1:=hr.red.sitesL
 have s2:=hr.rea.sitesL
 have hcl:=hr.len
 refine Zb DN trivial ?_
 simp only[Xy,ZO,Zh,List.length_map,EVA,seval,Zc,men]
 refine Zx (α:=Unit) r.redex.roots.toNat (fun j _=>[(21,iI j)]) (fun _ _=>[]) (fun j _=>∀ k,k<j->Zgt r k) () (by simp only[EVA,seval,Zc,men]) (by (simp only[EVA,seval,Zc,men]) <;> rfl) (fun k hk=>absurd hk (Nat.not_lt_zero k)) ?_
 intro j _ hj hA
 simp only[List.length_map,EVA,seval,Zc,men]
 refine Zj (fun hlt=>?_) (fun hge=>?_)
 ·have hja:j<r.redex.roots.toNat:=by omega
  obtain⟨p,hp⟩:∃ p,p = -1-(j:Int):=⟨_,rfl⟩
  have qa:=XP r.redex p (by omega) (by omega)
  have qb:=XP r.reactum p (by omega) (by omega)
  simp only[Zg,List.map_cons,List.map_nil] at qa qb
  rw[<-hp]
  refine⟨by rw[Zd];omega,?_⟩
  refine Za qa ?_
  simp only[EVA,seval,Zc,men]
  rw[<-hp]
  refine⟨by rw[Zd];omega,?_⟩
  refine Za qb ?_
  obtain⟨had,hh⟩:∃ l,l=(QR r.redex p).map (Ye r.redex):=⟨_,rfl⟩
  have hkl:=Zeu (b:=r.redex) (p:=p)
  have hkl2:=Zeu (b:=r.reactum) (p:=p)
  have hhl:had.length=(QR r.redex p).length:=by rw[hh,List.length_map]
  simp only[List.length_map,EVA,seval,Zc,men]
  refine Zx (α:=Unit) (QR r.redex p).length (fun i _=>[(43,iI i)]) (fun i _=>[(320,.bx [.hd (lvl,1280) [] 0 i none i]),(1280,.ar 1 (rI (had.take i)) true i 0)]) (fun _ _=>True) () (by simp only[EVA,seval,Zc,men]) (by (simp only[EVA,seval,Zc,men]) <;> rfl) trivial ?_
  intro i _ hi _
  simp only[List.length_map,EVA,seval,Zc,men]
  refine Zj (fun hlt2=>?_) (fun hge2=>?_)
  ·have hia:i<(QR r.redex p).length:=by omega
   have gk:=Zz hia
   obtain⟨q,hq,hqe,_⟩:=Zag (show g0 (QR r.redex p) i∈QR r.redex p by simp [hia])
   have gn:=VK (c:=ZE) hq
   rw[hqe] at gk
   have hih:i<had.length:=by omega
   have hc:had[i]=r.redex.nodes[q].control:=by
    have e:(QR r.redex p)[i]=q:=by
     have:g0 (QR r.redex p) i=(QR r.redex p)[i]:=by simp [hia]
     rw[<-this];exact hqe
    simp [hh,e,Ye,hq]
   have hmx:max i (i+1)=i+1:=by omega
   have htl:(had.take i).length=i:=by rw[List.length_take];omega
   have hst:rI (had.take i)++[[Tr.v (Value.int IntKind.i64 r.redex.nodes[q].control)]]=rI (had.take (i+1)):=by
    rw[List.take_succ_eq_append_getElem hih,Zfs,hc]
    rfl
   simp only[gk,gn,hia,hq,ZE,hmx,htl,hst,Int.toNat_natCast,List.length_map,EVA,seval,Zc,men]
   exact⟨by omega,by rw[Zd];omega,Ze () hia rfl trivial⟩
  ·have hi1:i=(QR r.redex p).length:=by omega
   subst hi1
   rw[show had.take (QR r.redex p).length=had from List.take_of_length_le (by omega)]
   have hcut:cut (rI had) 0 (QR r.redex p).length=rI had:=Zgl (by rw[List.length_map];omega)
   simp only[hcut,List.length_map,EVA,seval,Zc,men]
   refine⟨by omega,?_⟩
   refine Za (XH (t:=tv) (f:=fun x=>!decide (Ye r.reactum x∈had)) (cs:=[[Tr.sl (rI had)],ZO r]) Za2 Za1 (QR r.reactum p) (by omega) (fun x hx lvl S=>by
    obtain⟨q,h1,rfl,_⟩:=Zag hx
    exact ZaO had r q h1 (by omega) lvl S)) ?_
   cases h:(QR r.reactum p).any fun x=>!decide (Ye r.reactum x∈had)
   ·have hm:Zgt r j:=fun q hq=>by
     rw[<-hp] at hq ⊢
     have h3:=List.any_eq_false.1 h q hq
     rw[<-hh]
     simpa using h3
    simp only[EVA,seval,Zc,men]
    exact⟨by rw[Zd];omega,Ze () hja rfl (UN hA hm)⟩
   ·have hm:¬ Zgt r j:=fun g=>by
     obtain⟨q,hq,h3⟩:=List.any_eq_true.1 h
     have:=g q (by rw[<-hp];exact hq)
     rw[<-hp,<-hh] at this
     simp only[Bool.not_eq_true',decide_eq_false_iff_not] at h3
     exact h3 this
    rw[Zf fun g:keepP s r=>hm (g.roots j hja)]
    simp only[EVA,seval,Zc,men]
    try rfl
 have hj1:j=r.redex.roots.toNat:=by omega
 subst hj1
 refine Zx (α:=Unit) r.reactum.nodes.length (fun j _=>[(66,iI j)]) (fun _ _=>[]) (fun j _=>∀ k,k<j->Zmt s r k) () (by simp only[EVA,seval,Zc,men]) (by (simp only[EVA,seval,Zc,men]) <;> rfl) (fun k hk=>absurd hk (Nat.not_lt_zero k)) ?_
 intro j _ hj hB
 simp only[List.length_map,EVA,seval,Zc,men]
 refine Zj (fun hlt=>?_) (fun hge=>?_)
 ·have hja:j<r.reactum.nodes.length:=by omega
  have ga:=VK (c:=ZE) hja
  have hpp:=UF hja
  have hcc:Ye r.reactum j=r.reactum.nodes[j].control:=by simp [Ye,hja]
  by_cases hp:0<=r.reactum.nodes[j].parent
  ·have e:=eq_true hp
   have ql:=Dn sig s r.reactum r.reactum.nodes[j].parent h2a (Zje hr.rea hja)
   simp only[Zg,Zh,List.map_cons,List.map_nil] at ql
   simp only[ga,e,hja,ZE,ZM,ZN,List.set_cons_zero,List.set_cons_succ,List.length_map,EVA,seval,Zc,men]
   refine Za ql ?_
   simp only[ga,e,hja,ZE,List.length_map,EVA,seval,Zc,men]
   have hle:=h2a.chsL hb r.reactum.nodes[j].parent
   refine Za (Uo (chs s r.reactum r.reactum.nodes[j].parent) r.reactum.nodes[j].control (by omega)) ?_
   by_cases hm:r.reactum.nodes[j].control∈chs s r.reactum r.reactum.nodes[j].parent
   ·rw[decide_eq_true hm]
    simp only[EVA,seval,Zc,men]
    exact⟨by rw[Zd];omega,Ze () hja rfl (UN hB (fun _=>by rw[hpp,hcc];exact hm))⟩
   ·rw[decide_eq_false hm,Zf fun g:keepP s r=>hm (by have:=g.nodes j hja (by rw[hpp];exact hp);rw[hpp,hcc] at this;exact this)]
    simp only[EVA,seval,Zc,men]
    try rfl
  ·have e:=eq_false hp
   simp only[ga,e,hja,ZE,ZM,ZN,List.set_cons_zero,List.set_cons_succ,List.length_map,EVA,seval,Zc,men]
   exact⟨by rw[Zd];omega,Ze () hja rfl (UN hB (fun h=>by rw[hpp] at h;exact absurd h hp))⟩
 have hj1:j=r.reactum.nodes.length:=by omega
 subst hj1
 refine Zx (α:=Unit) r.reactum.sites.length (fun j _=>[(90,iI j)]) (fun _ _=>[]) (fun j _=>∀ k,k<j->Zmu s r k) () (by simp only[EVA,seval,Zc,men]) (by (simp only[EVA,seval,Zc,men]) <;> rfl) (fun k hk=>absurd hk (Nat.not_lt_zero k)) ?_
 intro j _ hj hC
 simp only[List.length_map,EVA,seval,Zc,men]
 refine Zj (fun hlt=>?_) (fun hge=>?_)
 ·have hjs:j<r.reactum.sites.length:=by omega
  have hja:j<r.copies.length:=by omega
  have ga:=Zz hja
  obtain⟨k,hk,hkl⟩:=Zjf hr hja
  rw[hk] at ga
  have gs:=Zz hkl
  have gt:=Zz hjs
  have hfr:UP s r j=chs s r.redex (g0 r.redex.sites k):=by unfold UP;rw[hk,Int.toNat_natCast]
  have qf:=Dn sig s r.redex (g0 r.redex.sites k) h2b (ZbC hr.red hkl)
  have qt:=Dn sig s r.reactum (g0 r.reactum.sites j) h2a (ZbC hr.rea hjs)
  simp only[Zg,Zh,List.map_cons,List.map_nil] at qf qt
  have l1:=h2b.chsL hb (g0 r.redex.sites k)
  have l2:=h2a.chsL hb (g0 r.reactum.sites j)
  simp only[ga,gs,gt,hja,hjs,hkl,Int.toNat_natCast,List.length_map,EVA,seval,Zc,men]
  refine Za qf ?_
  rw[<-hfr] at l1 ⊢
  by_cases hpos:0<(UP s r j).length
  ·have e1:=eq_true (show (0:Int)<(UP s r j).length by omega)
   by_cases ht:g0 r.reactum.sites j<0
   ·have e2:=eq_true ht
    rw[Zf fun g:keepP s r=>by have:=(g.sites j hja hpos).1;omega]
    simp only[gt,e1,e2,hjs,Int.toNat_natCast,List.length_map,EVA,seval,Zc,men]
    try rfl
   ·have e2:=eq_false ht
    simp only[gt,e1,e2,hjs,Int.toNat_natCast,List.length_map,EVA,seval,Zc,men]
    refine Za qt ?_
    simp only[List.length_map,EVA,seval,Zc,men]
    refine Za (ZhA (UP s r j) (chs s r.reactum (g0 r.reactum.sites j)) (by omega) (by omega)) ?_
    by_cases hm:U5 (UP s r j) (chs s r.reactum (g0 r.reactum.sites j))
    ·rw[ZD hm]
     simp only[EVA,seval,Zc,men]
     exact⟨by rw[Zd];omega,Ze () hjs rfl (UN hC fun _=>⟨by omega,hm⟩)⟩
    ·rw[Zf hm,Zf fun g:keepP s r=>hm (g.sites j hja hpos).2]
     simp only[EVA,seval,Zc,men]
     try rfl
  ·have e1:=eq_false (show ¬ (0:Int)<(UP s r j).length by omega)
   simp only[gt,e1,hjs,Int.toNat_natCast,List.length_map,EVA,seval,Zc,men]
   exact⟨by rw[Zd];omega,Ze () hjs rfl (UN hC fun h=>absurd h hpos)⟩
 ·have hj1:j=r.reactum.sites.length:=by omega
  subst hj1
  rw[ZD (p:=keepP s r) ⟨hA,hB,fun i hi=>hC i (by omega)⟩]
  try rfl
theorem ZcT(sig:List TControl)(s:TSorting)(r:TRule)(hs:sortOK sig s)(hr:ruleOK sig r)(lvl:Nat)(S:Sto):Sem Proofs.Tryz.prog YX lvl [.ag ((Zh s).map .tr),.ag ((ZO r).map .tr)] S (iB (dc (keepL s r))) S:=by
 have h2a:two sig s r.reactum:=⟨hs,hr.rea⟩
 have h2b:two sig s r.redex:=⟨hs,hr.red⟩
 have ea:=hr.rea.edges
 have eb:=hr.red.edges
 have ol:=hr.red.small.outer
 have hm:=hs.many
 refine Zb ZaH trivial ?_
 simp only[X2,ZO,Zh,List.length_map,EVA,seval,Zc,men]
 refine Zx (α:=Unit) r.reactum.edges.toNat (fun j _=>[(14,iI j)]) (fun _ _=>[]) (fun j _=>∀ k,k<j->Zmv s r k) () (by simp only[EVA,seval,Zc,men]) (by (simp only[EVA,seval,Zc,men]) <;> rfl) (fun k hk=>absurd hk (Nat.not_lt_zero k)) ?_
 intro j _ hj hA
 simp only[List.length_map,EVA,seval,Zc,men]
 refine Zj (fun hlt=>?_) (fun hge=>?_)
 ·have hja:j<r.reactum.edges.toNat:=by omega
  have q1:=Dm sig s r.reactum j h2a
  simp only[Zg,Zh,List.map_cons,List.map_nil] at q1
  have l0:=(Zdn (s:=s) hr.rea.small j).len
  have q2:=ZcS sig s j (onL s r.reactum j) hs l0
  simp only[Zh,List.map_cons,List.map_nil] at q2
  refine Za q1 ?_
  simp only[List.length_map,EVA,seval,Zc,men]
  refine Za q2 ?_
  by_cases h0:(Zah s j (onL s r.reactum j)).length=0
  ·have e0:=eq_false (show ¬ (0:Int)<(Zah s j (onL s r.reactum j)).length by omega)
   simp only[e0,List.length_map,EVA,seval,Zc,men]
   exact⟨by rw[Zd];omega,Ze () hja rfl (UN hA h0)⟩
  ·have e0:=eq_true (show (0:Int)<(Zah s j (onL s r.reactum j)).length by omega)
   rw[Zf fun g:keepL s r=>h0 (g.edges j hja)]
   simp only[e0,List.length_map,EVA,seval,Zc,men]
   try rfl
 have hj1:j=r.reactum.edges.toNat:=by omega
 subst hj1
 refine Zx (α:=Unit) r.redex.outer.length (fun j _=>[(32,iI j)]) (fun _ _=>[]) (fun j _=>∀ i,i<j->∀ k,k<s.most.length->Zjc s r i k) () (by simp only[EVA,seval,Zc,men]) (by (simp only[EVA,seval,Zc,men]) <;> rfl) (fun k hk=>absurd hk (Nat.not_lt_zero k)) ?_
 intro j _ hj hB
 simp only[List.length_map,EVA,seval,Zc,men]
 refine Zj (fun hlt=>?_) (fun hge=>?_)
 ·have hja:j<r.redex.outer.length:=by omega
  have q1:=Dm sig s r.redex (r.redex.edges+j) h2b
  have q2:=Dm sig s r.reactum (r.reactum.edges+j) h2a
  simp only[Zg,Zh,List.map_cons,List.map_nil] at q1 q2
  have l1:=(Zdn (s:=s) hr.red.small (r.redex.edges+j)).len
  have l2:=(Zdn (s:=s) hr.rea.small (r.reactum.edges+j)).len
  refine⟨by rw[Zd];omega,?_⟩
  refine Za q1 ?_
  simp only[List.length_map,EVA,seval,Zc,men]
  refine⟨by rw[Zd];omega,?_⟩
  refine Za q2 ?_
  simp only[List.length_map,EVA,seval,Zc,men]
  refine Zx (α:=Unit) s.most.length (fun k _=>[(55,iI k)]) (fun _ _=>[]) (fun k _=>∀ q,q<k->Zjc s r j q) () (by simp only[EVA,seval,Zc,men]) (by (simp only[EVA,seval,Zc,men]) <;> rfl) (fun k hk=>absurd hk (Nat.not_lt_zero k)) ?_
  intro k _ hk hC
  simp only[l2,List.length_map,EVA,seval,Zc,men]
  refine Zj (fun hlt2=>?_) (fun hge2=>?_)
  ·have hka:k<s.most.length:=by omega
   have g1:=Zz (l:=onL s r.redex (r.redex.edges+j)) (i:=k) (by omega)
   have g2:=Zz (l:=onL s r.reactum (r.reactum.edges+j)) (i:=k) (by omega)
   by_cases hq:Zjc s r j k
   ·have e:=eq_false (show ¬ g0 (onL s r.redex (r.redex.edges+j)) k<g0 (onL s r.reactum (r.reactum.edges+j)) k by unfold Zjc at hq;omega)
    simp only[g1,g2,e,Int.toNat_natCast,List.length_map,EVA,seval,Zc,men]
    exact⟨by rw[Zd];omega,Ze () hka rfl (UN hC hq)⟩
   ·have e:=eq_true (show g0 (onL s r.redex (r.redex.edges+j)) k<g0 (onL s r.reactum (r.reactum.edges+j)) k by unfold Zjc at hq;omega)
    rw[Zf fun g:keepL s r=>hq (g.outer j hja k hka)]
    simp only[g1,g2,e,Int.toNat_natCast,List.length_map,EVA,seval,Zc,men]
    try rfl
  ·have hk1:k=s.most.length:=by omega
   subst hk1
   exact⟨by rw[Zd];omega,Ze () hja rfl (UN hB hC)⟩
 ·have hj1:j=r.redex.outer.length:=by omega
  subst hj1
  rw[ZD (p:=keepL s r) ⟨hA,hB⟩]
  try rfl
theorem Ur(sig:List TControl)(s:TSorting)(r:TRule)(hn:sig.length<=4294967296)(hbs:∀ y∈sig,ZF 4294967296 y)(hs:Jv 4294967296 s)(hb:WB 4294967296 r)(hf:Zdd r)(lvl:Nat)(S:Sto):Sem Proofs.Tryz.prog J9 lvl [.tr (.sl (sig.map Zi)),.ag ((Zh s).map .tr),.ag ((ZO r).map .tr)] S (.tu [iB (VH sig s r),iB (VI sig s r)]) S:=by
 have q1:=Zhr sig s hn hbs hs
 have q2:=Zhy sig r hn hbs hb hf
 simp only[Zh,ZO,List.map_cons,List.map_nil] at q1 q2
 unfold VH VI
 refine Zb Dd (by simp [low,men,Zc]) ?_
 simp only[Xm,Zh,ZO,EVA,seval,Zc,men]
 refine Za q1 ?_
 by_cases h1:sortOK sig s
 rotate_left
 ·have hno:¬ goodK sig s r:=fun g=>h1 g.srt
  rw[Zf h1,Zf hno,Zf fun g:goodK sig s r/\keepOK s r=>hno g.1]
  simp only[EVA,seval,Zc,men]
  try rfl
 rw[ZD h1]
 simp only[EVA,seval,Zc,men]
 refine Za q2 ?_
 by_cases h2:ruleOK sig r
 rotate_left
 ·have hno:¬ goodK sig s r:=fun g=>h2 g.rule
  rw[Zf h2,Zf hno,Zf fun g:goodK sig s r/\keepOK s r=>hno g.1]
  simp only[EVA,seval,Zc,men]
  try rfl
 have hg:goodK sig s r:=⟨h1,h2⟩
 have hcl:=h2.len
 have hs2:=h2.rea.sitesL
 have q3:=ZhH r (by omega)
 have q4:=ZfK sig s r h1 h2 hs
 have q5:=Zgu sig s r h1 h2
 simp only[Zh,ZO,List.map_cons,List.map_nil] at q3 q4 q5
 rw[ZD h2,ZD hg]
 simp only[EVA,seval,Zc,men]
 refine Za q3 ?_
 by_cases h3:r.copies.Nodup
 rotate_left
 ·rw[Zf h3,Zf fun g:goodK sig s r/\keepOK s r=>h3 g.2.once]
  simp only[EVA,seval,Zc,men]
  try rfl
 rw[ZD h3]
 simp only[EVA,seval,Zc,men]
 refine Za q4 ?_
 by_cases h4:keepP s r
 rotate_left
 ·rw[Zf h4,Zf fun g:goodK sig s r/\keepOK s r=>h4 g.2.places]
  simp only[EVA,seval,Zc,men]
  try rfl
 rw[ZD h4]
 simp only[EVA,seval,Zc,men]
 refine Za q5 ?_
 rw[Jf (show goodK sig s r/\keepOK s r↔keepL s r from ⟨fun g=>g.2.links,fun g=>⟨hg,h3,h4,g⟩⟩)]
 simp only[EVA,seval,Zc,men]
 try rfl
theorem Us(sig:List TControl)(s:TSorting)(r:TRule)(hn:sig.length<=4294967296)(hbs:∀ y∈sig,ZF 4294967296 y)(hs:Jv 4294967296 s)(hb:WB 4294967296 r)(hf:Zdd r)(lvl:Nat)(S:Sto):Sem Proofs.Tryz.prog Yb lvl [.tr (.sl (sig.map Zi)),.ag ((Zh s).map .tr),.ag ((ZO r).map .tr)] S (.tu [iB (VH sig s r),iB (VI sig s r)]) S:=by
 have q1:=Zae sig s hn hbs hs
 have q2:=Zcu sig r hn hbs hb hf
 simp only[Zh,ZO,List.map_cons,List.map_nil] at q1 q2
 unfold VH VI
 refine Zb De (by simp [low,men,Zc]) ?_
 simp only[Xn,Zh,ZO,EVA,seval,Zc,men]
 refine Za q1 ?_
 by_cases h1:sortOK sig s
 rotate_left
 ·have hno:¬ goodK sig s r:=fun g=>h1 g.srt
  rw[Zf h1,Zf hno,Zf fun g:goodK sig s r/\keepOK s r=>hno g.1]
  simp only[EVA,seval,Zc,men]
  try rfl
 rw[ZD h1]
 simp only[EVA,seval,Zc,men]
 refine Za q2 ?_
 by_cases h2:ruleOK sig r
 rotate_left
 ·have hno:¬ goodK sig s r:=fun g=>h2 g.rule
  rw[Zf h2,Zf hno,Zf fun g:goodK sig s r/\keepOK s r=>hno g.1]
  simp only[EVA,seval,Zc,men]
  try rfl
 have hg:goodK sig s r:=⟨h1,h2⟩
 have hcl:=h2.len
 have hs2:=h2.rea.sitesL
 have q4:=Zcw sig s r h1 h2 hs
 have q5:=ZcT sig s r h1 h2
 simp only[Zh,ZO,List.map_cons,List.map_nil] at q4 q5
 rw[ZD h2,ZD hg]
 simp only[List.length_map,EVA,seval,Zc,men]
 refine Za (ZhE r.copies (by omega)) ?_
 by_cases h3:r.copies.Nodup
 rotate_left
 ·have e3:=eq_false (show ¬ (((ZkV r.copies).length:Nat):Int)=r.copies.length from fun e=>h3 (setN_len.1 (by omega)))
  rw[Zf fun g:goodK sig s r/\keepOK s r=>h3 g.2.once]
  simp only[e3,List.length_map,EVA,seval,Zc,men]
  try rfl
 have e3:=eq_true (show (((ZkV r.copies).length:Nat):Int)=r.copies.length from by rw[setN_len.2 h3])
 simp only[e3,List.length_map,EVA,seval,Zc,men]
 refine Za q4 ?_
 by_cases h4:keepP s r
 rotate_left
 ·rw[Zf h4,Zf fun g:goodK sig s r/\keepOK s r=>h4 g.2.places]
  simp only[EVA,seval,Zc,men]
  try rfl
 rw[ZD h4]
 simp only[EVA,seval,Zc,men]
 refine Za q5 ?_
 rw[Jf (show goodK sig s r/\keepOK s r↔keepL s r from ⟨fun g=>g.2.links,fun g=>⟨hg,h3,h4,g⟩⟩)]
 simp only[EVA,seval,Zc,men]
 try rfl
end Go.Fd

/-
  The annotated codes of the functions, printed by a program of mine (gen.py), and the check that they belong to the program.
-/
namespace Go.Fd
def Yo:F2 :=
 { nt:=76,res:=[.t 6 [0]],body:=(.sq (rg [oo 4 (.bt (.t 1)),oo 5 (.bt (.t 2)),om 6 (.k (.bool false))]) (.sq (rg [om 7 (i6 1048576)]) (.sq (rg [qM 15 0,qM 16 7,oo 17 (.ca .pure false (.f YV) [.t 15,.t 16]),qM 7 17]) (.sq (.sq (rg [qM 18 7,oo 19 (.bi .lss 0 (.t 18) (i6 0))]) (.cd (.t 19) (.sq (rg [om 6 (.k (.bool true))]) (.rt)) (.sk))) (.sq (rg [qS 20 5 4,qM 21 7,oo 22 (.ca .pure false (.f Vm) [.t 20,.t 21]),qM 7 22]) (.sq (.sq (rg [qM 23 7,oo 24 (.bi .lss 0 (.t 23) (i6 0))]) (.cd (.t 24) (.sq (rg [om 6 (.k (.bool true))]) (.rt)) (.sk))) (.sq (rg [qS 25 13 5,qM 26 7,oo 27 (.ca .pure false (.f Q3) [.t 25,.t 26]),qM 7 27]) (.sq (.sq (rg [qM 28 7,oo 29 (.bi .lss 0 (.t 28) (i6 0))]) (.cd (.t 29) (.sq (rg [om 6 (.k (.bool true))]) (.rt)) (.sk))) (.sq (.rg (some 0) [qM 31 0,oo 32 (.ca .pure false (.f Jk) [.t 31]),qS 33 5 4,oo 34 (.ca .pure false (.f Jx) [.t 33]),qS 35 13 5,oo 36 (.ca .pure false (.f Ya) [.t 35]),oo 37 (.ca .pure false (.f J9) [.t 32,.t 34,.t 36]),qM 30 37,qE 38 0 30,qE 39 1 30,qM 8 38,qM 9 39]) (.sq (rg [qM 40 0,oo 41 (.ca .pure false (.f Jk) [.t 40]),qM 10 41]) (.sq (rg [qS 42 5 4,oo 43 (.ca .pure false (.f Jx) [.t 42]),oo 11 (.al [.slice none 0 0,.slice none 0 0,.slice none 0 0,.slice none 0 0,.slice none 0 0] []),on1 (.st 5 (.t 11) (.t 43))]) (.sq (rg [qS 44 13 5,oo 45 (.ca .pure false (.f Ya) [.t 44]),oo 12 (.al [.int .i64 0,.slice none 0 0,.slice none 0 0,.int .i64 0,.slice none 0 0,.slice none 0 0,.int .i64 0,.slice none 0 0,.slice none 0 0,.int .i64 0,.slice none 0 0,.slice none 0 0,.slice none 0 0] []),on1 (.st 13 (.t 12) (.t 45))]) (.sq (rg [qM 47 10,qS 48 5 11,qS 49 13 12,oo 50 (.ca .pure false (.f Yb) [.t 47,.t 48,.t 49]),qM 46 50,qE 51 0 46,qE 52 1 46,qM 13 51,qM 14 52]) (.sq (.sq (rg [qM 53 13,qM 54 8,oo 55 (.bi .neq 2 (.t 53) (.t 54)),qM 56 55,og 57 56 false (.mv (.t 14) none),og 58 56 false (.mv (.t 9) none),og 59 56 false (.bi .neq 2 (.t 57) (.t 58)),oo 60 (.pk (.t 56) (.k (.bool true)) (.t 59))]) (.cd (.t 60) (.sq (rg [om 6 (.k (.bool false))]) (.rt)) (.sk))) (.sq (.sq (rg [qM 61 10,qM 62 0,oo 63 (.ca .pure false (.f Jk) [.t 62]),oo 64 (.ca .pure false (.f YW) [.t 61,.t 63]),oo 65 (.nt (.t 64))]) (.cd (.t 65) (.sq (rg [om 6 (.k (.bool false))]) (.rt)) (.sk))) (.sq (.sq (.rg (some 0) [qS 66 5 11,qS 67 5 4,oo 68 (.ca .pure false (.f Jx) [.t 67]),oo 69 (.ca .pure false (.f Vn) [.t 66,.t 68]),oo 70 (.nt (.t 69))]) (.cd (.t 70) (.sq (rg [om 6 (.k (.bool false))]) (.rt)) (.sk))) (.sq (.sq (.rg (some 0) [qS 71 13 12,qS 72 13 5,oo 73 (.ca .pure false (.f Ya) [.t 72]),oo 74 (.ca .pure false (.f Q4) [.t 71,.t 73]),oo 75 (.nt (.t 74))]) (.cd (.t 75) (.sq (rg [om 6 (.k (.bool false))]) (.rt)) (.sk))) (.sq (rg [om 6 (.k (.bool true))]) (.rt))))))))))))))))))) }
theorem Xr:ZH Proofs.Tryz.prog J0 Yo=true:=by kernel_rfl
end Go.Fd

/-
  THE TEXT OF A MARK; THE MARKS OF NUMBERS AND TEXTS. Own work.
-/
namespace Go.Fd
set_option maxRecDepth 20000
def mt(q:Nat)(o:ByteArray):ByteArray:=if q=0 then o else mt (q / 10) (⟨#[UInt8.ofNat (48+q % 10)]⟩++o)
 termination_by q
 decreasing_by omega
end Go.Fd

/-
  WHAT THE MARKING FUNCTIONS DO (printed by lawgen.py). Own work.
-/
namespace Go.Fd
set_option maxRecDepth 20000
end Go.Fd

/-
  The annotated codes of the functions, printed by a program of mine (gen.py), and the check that they belong to the program.
-/
namespace Go.Fd
def WG:F2 :=
 { nt:=36,res:=[.t 4 [0]],body:=(.sq (rg [oo 2 (.bt (.t 0)),om 4 (i6 0)]) (.sq (rg [qF 5 0 2,qL 6 5,qM 7 1,oo 8 (.ca .pure false (.f Ja) [.t 6,.t 7]),qM 1 8]) (.sq (.sq (rg [qM 9 1,oo 10 (.bi .lss 0 (.t 9) (i6 0))]) (.cd (.t 10) (.sq (rg [om 4 (i6 (-1))]) (.rt)) (.sk))) (.sq (rg [qF 11 1 2,qL 12 11,qM 13 1,oo 14 (.ca .pure false (.f YK) [.t 12,.t 13]),qM 1 14]) (.sq (.sq (rg [qM 15 1,oo 16 (.bi .lss 0 (.t 15) (i6 0))]) (.cd (.t 16) (.sq (rg [om 4 (i6 (-1))]) (.rt)) (.sk))) (.sq (rg [qF 17 2 2,qL 18 17,qM 19 1,oo 20 (.ca .pure false (.f YK) [.t 18,.t 19]),qM 1 20]) (.sq (.sq (rg [qM 21 1,oo 22 (.bi .lss 0 (.t 21) (i6 0))]) (.cd (.t 22) (.sq (rg [om 4 (i6 (-1))]) (.rt)) (.sk))) (.sq (rg [qF 23 3 2,qL 24 23,qM 25 1,oo 26 (.ca .pure false (.f Ja) [.t 24,.t 25]),qM 1 26]) (.sq (.sq (rg [qM 27 1,oo 28 (.bi .lss 0 (.t 27) (i6 0))]) (.cd (.t 28) (.sq (rg [om 4 (i6 (-1))]) (.rt)) (.sk))) (.sq (rg [qF 29 4 2,qL 30 29,qM 31 1,oo 32 (.ca .pure false (.f VW) [.t 30,.t 31]),qM 1 32]) (.sq (.sq (rg [qM 33 1,oo 34 (.bi .lss 0 (.t 33) (i6 0))]) (.cd (.t 34) (.sq (rg [om 4 (i6 (-1))]) (.rt)) (.sk))) (.sq (rg [qM 35 1,qM 4 35]) (.rt))))))))))))) }
theorem Zbe:ZH Proofs.Tryz.prog Vm WG=true:=by kernel_rfl
def Zai:F2 :=
 { nt:=24,res:=[.t 4 [0]],body:=(.sq (rg [oo 2 (.bt (.t 0)),om 4 (i6 0)]) (.sq (rg [qF 5 0 2,qS 6 6 5,qM 7 1,oo 8 (.ca .pure false (.f J1) [.t 6,.t 7]),qM 1 8]) (.sq (.sq (rg [qM 9 1,oo 10 (.bi .lss 0 (.t 9) (i6 0))]) (.cd (.t 10) (.sq (rg [om 4 (i6 (-1))]) (.rt)) (.sk))) (.sq (rg [qF 11 6 2,qS 12 6 11,qM 13 1,oo 14 (.ca .pure false (.f J1) [.t 12,.t 13]),qM 1 14]) (.sq (.sq (rg [qM 15 1,oo 16 (.bi .lss 0 (.t 15) (i6 0))]) (.cd (.t 16) (.sq (rg [om 4 (i6 (-1))]) (.rt)) (.sk))) (.sq (rg [qF 17 12 2,qL 18 17,qM 19 1,oo 20 (.ca .pure false (.f Ja) [.t 18,.t 19]),qM 1 20]) (.sq (.sq (rg [qM 21 1,oo 22 (.bi .lss 0 (.t 21) (i6 0))]) (.cd (.t 22) (.sq (rg [om 4 (i6 (-1))]) (.rt)) (.sk))) (.sq (rg [qM 23 1,qM 4 23]) (.rt))))))))) }
theorem Zey:ZH Proofs.Tryz.prog Q3 Zai=true:=by kernel_rfl
def X8:F2 :=
 { nt:=23,res:=[.t 2 [4]],body:=(.sq (rg [om 2 (.k (.slice none 0 0))]) (.sq (rg [qM 5 0,qN 6 5,oo 7 (.ms 3 [.string ⟨#[]⟩,.int .i64 0,.int .i64 0] (.t 6)),qM 3 7]) (.sq (.sq (rg [om 4 (i6 0)]) (.bl 0 (.lp [0,3,4] [224] (.sq (.sq (rg [qM 8 4,qM 9 0,qN 10 9,qB 11 .lss 8 10]) (.cd (.t 11) (.sk) (.ex 0))) (.sq (.bl 1 (rg [qM 14 3,qM 15 4,qM 16 0,qM 17 4,qI 18 3 16 17,qS 19 3 18,oo 20 (.ca .pure true (.f Vp) [.t 19]),qI 21 3 14 15,on1 (.st 3 (.t 21) (.t 20))]))
 (rg [qM 12 4,oo 13 (.bi .add 0 (.t 12) (i6 1)),qM 4 13])))))) (.sq (rg [qM 22 3,qM 2 22]) (.rt))))) }
theorem ZaP:ZH Proofs.Tryz.prog Jk X8=true:=by kernel_rfl
def WH:F2 :=
 { nt:=25,res:=[.c 2 (some 5) [2,2,2,2,3]],body:=(.sq (rg [oo 1 (.bt (.t 0)),oo 2 (.al [.slice none 0 0,.slice none 0 0,.slice none 0 0,.slice none 0 0,.slice none 0 0] [])]) (.sq (rg [oo 3 (.al [.slice none 0 0,.slice none 0 0,.slice none 0 0,.slice none 0 0,.slice none 0 0] [])]) (.sq (rg [qF 4 0 1,qL 5 4,oo 6 (.ca .pure true (.f Jb) [.t 5]),qF 7 0 3,on1 (.st 1 (.t 7) (.t 6))]) (.sq (rg [qF 8 1 1,qL 9 8,oo 10 (.ca .pure true (.f YL) [.t 9]),qF 11 1 3,on1 (.st 1 (.t 11) (.t 10))]) (.sq (rg [qF 12 2 1,qL 13 12,oo 14 (.ca .pure true (.f YL) [.t 13]),qF 15 2 3,on1 (.st 1 (.t 15) (.t 14))]) (.sq (rg [qF 16 3 1,qL 17 16,oo 18 (.ca .pure true (.f Jb) [.t 17]),qF 19 3 3,on1 (.st 1 (.t 19) (.t 18))]) (.sq (rg [qF 20 4 1,qL 21 20,oo 22 (.ca .pure true (.f VY) [.t 21]),qF 23 4 3,on1 (.st 1 (.t 23) (.t 22))]) (.sq (rg [qS 24 5 3,on1 (.st 5 (.t 2) (.t 24))]) (.rt))))))))) }
theorem Zbf:ZH Proofs.Tryz.prog Jx WH=true:=by kernel_rfl
def Zaj:F2 :=
 { nt:=17,res:=[.c 2 (some 13) [0,4,2,0,2,3,0,4,2,0,2,3,2]],body:=(.sq (rg [oo 1 (.bt (.t 0)),oo 2 (.al [.int .i64 0,.slice none 0 0,.slice none 0 0,.int .i64 0,.slice none 0 0,.slice none 0 0,.int .i64 0,.slice none 0 0,.slice none 0 0,.int .i64 0,.slice none 0 0,.slice none 0 0,.slice none 0 0] [])]) (.sq (rg [oo 3 (.al [.int .i64 0,.slice none 0 0,.slice none 0 0,.int .i64 0,.slice none 0 0,.slice none 0 0,.int .i64 0,.slice none 0 0,.slice none 0 0,.int .i64 0,.slice none 0 0,.slice none 0 0,.slice none 0 0] [])]) (.sq (rg [qF 4 0 1,qS 5 6 4,oo 6 (.ca .pure true (.f J2) [.t 5]),qF 7 0 3,on1 (.st 6 (.t 7) (.t 6))]) (.sq (rg [qF 8 6 1,qS 9 6 8,oo 10 (.ca .pure true (.f J2) [.t 9]),qF 11 6 3,on1 (.st 6 (.t 11) (.t 10))]) (.sq (rg [qF 12 12 1,qL 13 12,oo 14 (.ca .pure true (.f Jb) [.t 13]),qF 15 12 3,on1 (.st 1 (.t 15) (.t 14))]) (.sq (rg [qS 16 13 3,on1 (.st 13 (.t 2) (.t 16))]) (.rt))))))) }
theorem Zez:ZH Proofs.Tryz.prog Ya Zaj=true:=by kernel_rfl
def WI:F2 :=
 { nt:=35,res:=[.t 4 [0]],body:=(.sq (rg [oo 2 (.bt (.t 0)),oo 3 (.bt (.t 1)),om 4 (.k (.bool false))]) (.sq (.sq (rg [qF 5 0 2,qL 6 5,qF 7 0 3,qL 8 7,oo 9 (.ca .pure false (.f Jc) [.t 6,.t 8]),oo 10 (.nt (.t 9))]) (.cd (.t 10) (.sq (rg [om 4 (.k (.bool false))]) (.rt)) (.sk))) (.sq (.sq (rg [qF 11 1 2,qL 12 11,qF 13 1 3,qL 14 13,oo 15 (.ca .pure false (.f YM) [.t 12,.t 14]),oo 16 (.nt (.t 15))]) (.cd (.t 16) (.sq (rg [om 4 (.k (.bool false))]) (.rt)) (.sk))) (.sq (.sq (rg [qF 17 2 2,qL 18 17,qF 19 2 3,qL 20 19,oo 21 (.ca .pure false (.f YM) [.t 18,.t 20]),oo 22 (.nt (.t 21))]) (.cd (.t 22) (.sq (rg [om 4 (.k (.bool false))]) (.rt)) (.sk))) (.sq (.sq (rg [qF 23 3 2,qL 24 23,qF 25 3 3,qL 26 25,oo 27 (.ca .pure false (.f Jc) [.t 24,.t 26]),oo 28 (.nt (.t 27))]) (.cd (.t 28) (.sq (rg [om 4 (.k (.bool false))]) (.rt)) (.sk))) (.sq (.sq (rg [qF 29 4 2,qL 30 29,qF 31 4 3,qL 32 31,oo 33 (.ca .pure false (.f VZ) [.t 30,.t 32]),oo 34 (.nt (.t 33))]) (.cd (.t 34) (.sq (rg [om 4 (.k (.bool false))]) (.rt)) (.sk))) (.sq (rg [om 4 (.k (.bool true))]) (.rt)))))))) }
theorem Zbg:ZH Proofs.Tryz.prog Vn WI=true:=by kernel_rfl
def Zak:F2 :=
 { nt:=23,res:=[.t 4 [0]],body:=(.sq (rg [oo 2 (.bt (.t 0)),oo 3 (.bt (.t 1)),om 4 (.k (.bool false))]) (.sq (.sq (rg [qF 5 0 2,qS 6 6 5,qF 7 0 3,qS 8 6 7,oo 9 (.ca .pure false (.f J3) [.t 6,.t 8]),oo 10 (.nt (.t 9))]) (.cd (.t 10) (.sq (rg [om 4 (.k (.bool false))]) (.rt)) (.sk))) (.sq (.sq (rg [qF 11 6 2,qS 12 6 11,qF 13 6 3,qS 14 6 13,oo 15 (.ca .pure false (.f J3) [.t 12,.t 14]),oo 16 (.nt (.t 15))]) (.cd (.t 16) (.sq (rg [om 4 (.k (.bool false))]) (.rt)) (.sk))) (.sq (.sq (rg [qF 17 12 2,qL 18 17,qF 19 12 3,qL 20 19,oo 21 (.ca .pure false (.f Jc) [.t 18,.t 20]),oo 22 (.nt (.t 21))]) (.cd (.t 22) (.sq (rg [om 4 (.k (.bool false))]) (.rt)) (.sk))) (.sq (rg [om 4 (.k (.bool true))]) (.rt)))))) }
theorem ZeA:ZH Proofs.Tryz.prog Q4 Zak=true:=by kernel_rfl
def WJ:F2 :=
 { nt:=13,res:=[.t 4 [0]],body:=(.sq (rg [oo 2 (.bt (.t 0)),om 4 (i6 0)]) (.sq (rg [qM 5 1,qF 6 0 2,qL 7 6,oo 8 (.lg (.t 7)),qB 9 .sub 5 8,qM 1 9]) (.sq (.sq (rg [qM 10 1,oo 11 (.bi .lss 0 (.t 10) (i6 0))]) (.cd (.t 11) (.sq (rg [om 4 (i6 (-1))]) (.rt)) (.sk))) (.sq (rg [qM 12 1,qM 4 12]) (.rt))))) }
theorem Zbh:ZH Proofs.Tryz.prog Vo WJ=true:=by kernel_rfl
def WK:F2 :=
 { nt:=30,res:=[.t 4 [0]],body:=(.sq (rg [oo 2 (.bt (.t 0)),om 4 (i6 0)]) (.sq (rg [qF 5 1 2,qL 6 5,qM 7 1,oo 8 (.ca .pure false (.f Qr) [.t 6,.t 7]),qM 1 8]) (.sq (.sq (rg [qM 9 1,oo 10 (.bi .lss 0 (.t 9) (i6 0))]) (.cd (.t 10) (.sq (rg [om 4 (i6 (-1))]) (.rt)) (.sk))) (.sq (rg [qF 11 2 2,qL 12 11,qM 13 1,oo 14 (.ca .pure false (.f Ja) [.t 12,.t 13]),qM 1 14]) (.sq (.sq (rg [qM 15 1,oo 16 (.bi .lss 0 (.t 15) (i6 0))]) (.cd (.t 16) (.sq (rg [om 4 (i6 (-1))]) (.rt)) (.sk))) (.sq (rg [qF 17 4 2,qL 18 17,qM 19 1,oo 20 (.ca .pure false (.f Vs) [.t 18,.t 19]),qM 1 20]) (.sq (.sq (rg [qM 21 1,oo 22 (.bi .lss 0 (.t 21) (i6 0))]) (.cd (.t 22) (.sq (rg [om 4 (i6 (-1))]) (.rt)) (.sk))) (.sq (rg [qF 23 5 2,qL 24 23,qM 25 1,oo 26 (.ca .pure false (.f Qs) [.t 24,.t 25]),qM 1 26]) (.sq (.sq (rg [qM 27 1,oo 28 (.bi .lss 0 (.t 27) (i6 0))]) (.cd (.t 28) (.sq (rg [om 4 (i6 (-1))]) (.rt)) (.sk))) (.sq (rg [qM 29 1,qM 4 29]) (.rt))))))))))) }
theorem Zbi:ZH Proofs.Tryz.prog J1 WK=true:=by kernel_rfl
def WL:F2 :=
 { nt:=14,res:=[.c 2 (some 3) [0,0,0]],body:=(.sq (rg [oo 1 (.bt (.t 0)),oo 2 (.al [.string ⟨#[]⟩,.int .i64 0,.int .i64 0] [])]) (.sq (rg [oo 3 (.al [.string ⟨#[]⟩,.int .i64 0,.int .i64 0] [])]) (.sq (rg [qF 4 0 1,qL 5 4,qF 6 0 3,on1 (.st 1 (.t 6) (.t 5))]) (.sq (rg [qF 7 1 1,qL 8 7,qF 9 1 3,on1 (.st 1 (.t 9) (.t 8))]) (.sq (rg [qF 10 2 1,qL 11 10,qF 12 2 3,on1 (.st 1 (.t 12) (.t 11))]) (.sq (rg [qS 13 3 3,on1 (.st 3 (.t 2) (.t 13))]) (.rt))))))) }
theorem Zbj:ZH Proofs.Tryz.prog Vp WL=true:=by kernel_rfl
def U7:F2 :=
 { nt:=23,res:=[.t 2 [2]],body:=(.sq (rg [om 2 (.k (.slice none 0 0))]) (.sq (rg [qM 5 0,qN 6 5,oo 7 (.ms 1 [.slice none 0 0] (.t 6)),qM 3 7]) (.sq (.sq (rg [om 4 (i6 0)]) (.bl 0 (.lp [0,3,4] [224,640] (.sq (.sq (rg [qM 8 4,qM 9 0,qN 10 9,qB 11 .lss 8 10]) (.cd (.t 11) (.sk) (.ex 0))) (.sq (.bl 1 (rg [qM 14 3,qM 15 4,qM 16 0,qM 17 4,qI 18 1 16 17,qL 19 18,oo 20 (.ca .pure true (.f Jb) [.t 19]),qI 21 1 14 15,on1 (.st 1 (.t 21) (.t 20))]))
 (rg [qM 12 4,oo 13 (.bi .add 0 (.t 12) (i6 1)),qM 4 13])))))) (.sq (rg [qM 22 3,qM 2 22]) (.rt))))) }
theorem ZcU:ZH Proofs.Tryz.prog YL U7=true:=by kernel_rfl
def Ut:F2 :=
 { nt:=23,res:=[.t 2 [3]],body:=(.sq (rg [om 2 (.k (.slice none 0 0))]) (.sq (rg [qM 5 0,qN 6 5,oo 7 (.ms 2 [.int .i64 0,.int .i64 0] (.t 6)),qM 3 7]) (.sq (.sq (rg [om 4 (i6 0)]) (.bl 0 (.lp [0,3,4] [224] (.sq (.sq (rg [qM 8 4,qM 9 0,qN 10 9,qB 11 .lss 8 10]) (.cd (.t 11) (.sk) (.ex 0))) (.sq (.bl 1 (rg [qM 14 3,qM 15 4,qM 16 0,qM 17 4,qI 18 2 16 17,qS 19 2 18,oo 20 (.ca .pure true (.f Qv) [.t 19]),qI 21 2 14 15,on1 (.st 2 (.t 21) (.t 20))]))
 (rg [qM 12 4,oo 13 (.bi .add 0 (.t 12) (i6 1)),qM 4 13])))))) (.sq (rg [qM 22 3,qM 2 22]) (.rt))))) }
theorem Zcx:ZH Proofs.Tryz.prog VY Ut=true:=by kernel_rfl
def WM:F2 :=
 { nt:=27,res:=[.c 2 (some 6) [0,4,2,0,2,3]],body:=(.sq (rg [oo 1 (.bt (.t 0)),oo 2 (.al [.int .i64 0,.slice none 0 0,.slice none 0 0,.int .i64 0,.slice none 0 0,.slice none 0 0] [])]) (.sq (rg [oo 3 (.al [.int .i64 0,.slice none 0 0,.slice none 0 0,.int .i64 0,.slice none 0 0,.slice none 0 0] [])]) (.sq (rg [qF 4 0 1,qL 5 4,qF 6 0 3,on1 (.st 1 (.t 6) (.t 5))]) (.sq (rg [qF 7 1 1,qL 8 7,oo 9 (.ca .pure true (.f Qw) [.t 8]),qF 10 1 3,on1 (.st 1 (.t 10) (.t 9))]) (.sq (rg [qF 11 2 1,qL 12 11,oo 13 (.ca .pure true (.f Jb) [.t 12]),qF 14 2 3,on1 (.st 1 (.t 14) (.t 13))]) (.sq (rg [qF 15 3 1,qL 16 15,qF 17 3 3,on1 (.st 1 (.t 17) (.t 16))]) (.sq (rg [qF 18 4 1,qL 19 18,oo 20 (.ca .pure true (.f Vw) [.t 19]),qF 21 4 3,on1 (.st 1 (.t 21) (.t 20))]) (.sq (rg [qF 22 5 1,qL 23 22,oo 24 (.ca .pure true (.f Qx) [.t 23]),qF 25 5 3,on1 (.st 1 (.t 25) (.t 24))]) (.sq (rg [qS 26 6 3,on1 (.st 6 (.t 2) (.t 26))]) (.rt)))))))))) }
theorem Zbk:ZH Proofs.Tryz.prog J2 WM=true:=by kernel_rfl
def WN:F2 :=
 { nt:=20,res:=[.t 4 [0]],body:=(.sq (rg [oo 2 (.bt (.t 0)),oo 3 (.bt (.t 1)),om 4 (.k (.bool false))]) (.sq (.sq (rg [qF 5 0 2,qL 6 5,qF 7 0 3,qL 8 7,qB 9 .neq 6 8]) (.cd (.t 9) (.sq (rg [om 4 (.k (.bool false))]) (.rt)) (.sk))) (.sq (.sq (rg [qF 10 1 2,qL 11 10,qF 12 1 3,qL 13 12,qB 14 .neq 11 13]) (.cd (.t 14) (.sq (rg [om 4 (.k (.bool false))]) (.rt)) (.sk))) (.sq (.sq (rg [qF 15 2 2,qL 16 15,qF 17 2 3,qL 18 17,qB 19 .neq 16 18]) (.cd (.t 19) (.sq (rg [om 4 (.k (.bool false))]) (.rt)) (.sk))) (.sq (rg [om 4 (.k (.bool true))]) (.rt)))))) }
theorem Zbl:ZH Proofs.Tryz.prog Vr WN=true:=by kernel_rfl
def WO:F2 :=
 { nt:=39,res:=[.t 4 [0]],body:=(.sq (rg [oo 2 (.bt (.t 0)),oo 3 (.bt (.t 1)),om 4 (.k (.bool false))]) (.sq (.sq (rg [qF 5 0 2,qL 6 5,qF 7 0 3,qL 8 7,qB 9 .neq 6 8]) (.cd (.t 9) (.sq (rg [om 4 (.k (.bool false))]) (.rt)) (.sk))) (.sq (.sq (rg [qF 10 1 2,qL 11 10,qF 12 1 3,qL 13 12,oo 14 (.ca .pure false (.f QA) [.t 11,.t 13]),oo 15 (.nt (.t 14))]) (.cd (.t 15) (.sq (rg [om 4 (.k (.bool false))]) (.rt)) (.sk))) (.sq (.sq (rg [qF 16 2 2,qL 17 16,qF 18 2 3,qL 19 18,oo 20 (.ca .pure false (.f Jc) [.t 17,.t 19]),oo 21 (.nt (.t 20))]) (.cd (.t 21) (.sq (rg [om 4 (.k (.bool false))]) (.rt)) (.sk))) (.sq (.sq (rg [qF 22 3 2,qL 23 22,qF 24 3 3,qL 25 24,qB 26 .neq 23 25]) (.cd (.t 26) (.sq (rg [om 4 (.k (.bool false))]) (.rt)) (.sk))) (.sq (.sq (rg [qF 27 4 2,qL 28 27,qF 29 4 3,qL 30 29,oo 31 (.ca .pure false (.f Vx) [.t 28,.t 30]),oo 32 (.nt (.t 31))]) (.cd (.t 32) (.sq (rg [om 4 (.k (.bool false))]) (.rt)) (.sk))) (.sq (.sq (rg [qF 33 5 2,qL 34 33,qF 35 5 3,qL 36 35,oo 37 (.ca .pure false (.f QB) [.t 34,.t 36]),oo 38 (.nt (.t 37))]) (.cd (.t 38) (.sq (rg [om 4 (.k (.bool false))]) (.rt)) (.sk))) (.sq (rg [om 4 (.k (.bool true))]) (.rt))))))))) }
theorem Zbm:ZH Proofs.Tryz.prog J3 WO=true:=by kernel_rfl
def U8:F2 :=
 { nt:=15,res:=[.c 2 (some 2) [0,0]],body:=(.sq (rg [oo 1 (.bt (.t 0)),oo 2 (.al [.int .i64 0,.int .i64 0] [])]) (.sq (rg [oo 3 (.al [.int .i64 0,.int .i64 0] [])]) (.sq (.sq (rg [om 4 (i6 0)]) (.bl 0 (.lp [1,2,3,4] [64,96] (.sq (.sq (rg [qM 5 4,oo 6 (.bi .lss 0 (.t 5) (i6 2))]) (.cd (.t 6) (.sk) (.ex 0))) (.sq (.bl 1 (rg [qM 9 4,qM 10 4,oo 11 (.ja 1 2 (.t 1) (.t 10)),qL 12 11,oo 13 (.ja 1 2 (.t 3) (.t 9)),on1 (.st 1 (.t 13) (.t 12))]))
 (rg [qM 7 4,oo 8 (.bi .add 0 (.t 7) (i6 1)),qM 4 8])))))) (.sq (rg [qS 14 2 3,on1 (.st 2 (.t 2) (.t 14))]) (.rt))))) }
theorem ZcV:ZH Proofs.Tryz.prog Qv U8=true:=by kernel_rfl
def U9:F2 :=
 { nt:=23,res:=[.t 2 [4]],body:=(.sq (rg [om 2 (.k (.slice none 0 0))]) (.sq (rg [qM 5 0,qN 6 5,oo 7 (.ms 3 [.int .i64 0,.int .i64 0,.slice none 0 0] (.t 6)),qM 3 7]) (.sq (.sq (rg [om 4 (i6 0)]) (.bl 0 (.lp [0,3,4] [224,640] (.sq (.sq (rg [qM 8 4,qM 9 0,qN 10 9,qB 11 .lss 8 10]) (.cd (.t 11) (.sk) (.ex 0))) (.sq (.bl 1 (rg [qM 14 3,qM 15 4,qM 16 0,qM 17 4,qI 18 3 16 17,qS 19 3 18,oo 20 (.ca .pure true (.f Xg) [.t 19]),qI 21 3 14 15,on1 (.st 3 (.t 21) (.t 20))]))
 (rg [qM 12 4,oo 13 (.bi .add 0 (.t 12) (i6 1)),qM 4 13])))))) (.sq (rg [qM 22 3,qM 2 22]) (.rt))))) }
theorem ZcW:ZH Proofs.Tryz.prog Qw U9=true:=by kernel_rfl
def Da:F2 :=
 { nt:=23,res:=[.t 2 [3]],body:=(.sq (rg [om 2 (.k (.slice none 0 0))]) (.sq (rg [qM 5 0,qN 6 5,oo 7 (.ms 2 [.string ⟨#[]⟩,.int .i64 0] (.t 6)),qM 3 7]) (.sq (.sq (rg [om 4 (i6 0)]) (.bl 0 (.lp [0,3,4] [224] (.sq (.sq (rg [qM 8 4,qM 9 0,qN 10 9,qB 11 .lss 8 10]) (.cd (.t 11) (.sk) (.ex 0))) (.sq (.bl 1 (rg [qM 14 3,qM 15 4,qM 16 0,qM 17 4,qI 18 2 16 17,qS 19 2 18,oo 20 (.ca .pure true (.f Xh) [.t 19]),qI 21 2 14 15,on1 (.st 2 (.t 21) (.t 20))]))
 (rg [qM 12 4,oo 13 (.bi .add 0 (.t 12) (i6 1)),qM 4 13])))))) (.sq (rg [qM 22 3,qM 2 22]) (.rt))))) }
theorem ZcX:ZH Proofs.Tryz.prog Qx Da=true:=by kernel_rfl
def Db:F2 :=
 { nt:=17,res:=[.t 4 [0]],body:=(.sq (rg [oo 2 (.bt (.t 0)),oo 3 (.bt (.t 1)),om 4 (.k (.bool false))]) (.sq (.sq (rg [om 5 (i6 0)]) (.bl 0 (.lp [2,3,5] [] (.sq (.sq (rg [qM 6 5,oo 7 (.bi .lss 0 (.t 6) (i6 2))]) (.cd (.t 7) (.sk) (.ex 0))) (.sq (.bl 1 (.sq (.rg (some 0) [qM 10 5,oo 11 (.ja 1 2 (.t 2) (.t 10)),qL 12 11,qM 13 5,oo 14 (.ja 1 2 (.t 3) (.t 13)),qL 15 14,qB 16 .neq 12 15]) (.cd (.t 16) (.sq (rg [om 4 (.k (.bool false))]) (.rt)) (.sk))))
 (rg [qM 8 5,oo 9 (.bi .add 0 (.t 8) (i6 1)),qM 5 9])))))) (.sq (rg [om 4 (.k (.bool true))]) (.rt)))) }
theorem ZcY:ZH Proofs.Tryz.prog Qz Db=true:=by kernel_rfl
def Zal:F2 :=
 { nt:=12,res:=[.t 4 [0]],body:=(.sq (rg [oo 2 (.bt (.t 0)),om 4 (i6 0)]) (.sq (rg [qF 5 2 2,qL 6 5,qM 7 1,oo 8 (.ca .pure false (.f Ja) [.t 6,.t 7]),qM 1 8]) (.sq (.sq (rg [qM 9 1,oo 10 (.bi .lss 0 (.t 9) (i6 0))]) (.cd (.t 10) (.sq (rg [om 4 (i6 (-1))]) (.rt)) (.sk))) (.sq (rg [qM 11 1,qM 4 11]) (.rt))))) }
theorem ZeB:ZH Proofs.Tryz.prog Xd Zal=true:=by kernel_rfl
def Zam:F2 :=
 { nt:=13,res:=[.t 4 [0]],body:=(.sq (rg [oo 2 (.bt (.t 0)),om 4 (i6 0)]) (.sq (rg [qM 5 1,qF 6 0 2,qL 7 6,oo 8 (.lg (.t 7)),qB 9 .sub 5 8,qM 1 9]) (.sq (.sq (rg [qM 10 1,oo 11 (.bi .lss 0 (.t 10) (i6 0))]) (.cd (.t 11) (.sq (rg [om 4 (i6 (-1))]) (.rt)) (.sk))) (.sq (rg [qM 12 1,qM 4 12]) (.rt))))) }
theorem ZeC:ZH Proofs.Tryz.prog Xe Zam=true:=by kernel_rfl
def Zan:F2 :=
 { nt:=15,res:=[.c 2 (some 3) [0,0,2]],body:=(.sq (rg [oo 1 (.bt (.t 0)),oo 2 (.al [.int .i64 0,.int .i64 0,.slice none 0 0] [])]) (.sq (rg [oo 3 (.al [.int .i64 0,.int .i64 0,.slice none 0 0] [])]) (.sq (rg [qF 4 0 1,qL 5 4,qF 6 0 3,on1 (.st 1 (.t 6) (.t 5))]) (.sq (rg [qF 7 1 1,qL 8 7,qF 9 1 3,on1 (.st 1 (.t 9) (.t 8))]) (.sq (rg [qF 10 2 1,qL 11 10,oo 12 (.ca .pure true (.f Jb) [.t 11]),qF 13 2 3,on1 (.st 1 (.t 13) (.t 12))]) (.sq (rg [qS 14 3 3,on1 (.st 3 (.t 2) (.t 14))]) (.rt))))))) }
theorem ZeD:ZH Proofs.Tryz.prog Xg Zan=true:=by kernel_rfl
def Zao:F2 :=
 { nt:=11,res:=[.c 2 (some 2) [0,0]],body:=(.sq (rg [oo 1 (.bt (.t 0)),oo 2 (.al [.string ⟨#[]⟩,.int .i64 0] [])]) (.sq (rg [oo 3 (.al [.string ⟨#[]⟩,.int .i64 0] [])]) (.sq (rg [qF 4 0 1,qL 5 4,qF 6 0 3,on1 (.st 1 (.t 6) (.t 5))]) (.sq (rg [qF 7 1 1,qL 8 7,qF 9 1 3,on1 (.st 1 (.t 9) (.t 8))]) (.sq (rg [qS 10 2 3,on1 (.st 2 (.t 2) (.t 10))]) (.rt)))))) }
theorem ZeE:ZH Proofs.Tryz.prog Xh Zao=true:=by kernel_rfl
def Zap:F2 :=
 { nt:=21,res:=[.t 4 [0]],body:=(.sq (rg [oo 2 (.bt (.t 0)),oo 3 (.bt (.t 1)),om 4 (.k (.bool false))]) (.sq (.sq (rg [qF 5 0 2,qL 6 5,qF 7 0 3,qL 8 7,qB 9 .neq 6 8]) (.cd (.t 9) (.sq (rg [om 4 (.k (.bool false))]) (.rt)) (.sk))) (.sq (.sq (rg [qF 10 1 2,qL 11 10,qF 12 1 3,qL 13 12,qB 14 .neq 11 13]) (.cd (.t 14) (.sq (rg [om 4 (.k (.bool false))]) (.rt)) (.sk))) (.sq (.sq (rg [qF 15 2 2,qL 16 15,qF 17 2 3,qL 18 17,oo 19 (.ca .pure false (.f Jc) [.t 16,.t 18]),oo 20 (.nt (.t 19))]) (.cd (.t 20) (.sq (rg [om 4 (.k (.bool false))]) (.rt)) (.sk))) (.sq (rg [om 4 (.k (.bool true))]) (.rt)))))) }
theorem ZeF:ZH Proofs.Tryz.prog Xi Zap=true:=by kernel_rfl
def Zaq:F2 :=
 { nt:=15,res:=[.t 4 [0]],body:=(.sq (rg [oo 2 (.bt (.t 0)),oo 3 (.bt (.t 1)),om 4 (.k (.bool false))]) (.sq (.sq (rg [qF 5 0 2,qL 6 5,qF 7 0 3,qL 8 7,qB 9 .neq 6 8]) (.cd (.t 9) (.sq (rg [om 4 (.k (.bool false))]) (.rt)) (.sk))) (.sq (.sq (rg [qF 10 1 2,qL 11 10,qF 12 1 3,qL 13 12,qB 14 .neq 11 13]) (.cd (.t 14) (.sq (rg [om 4 (.k (.bool false))]) (.rt)) (.sk))) (.sq (rg [om 4 (.k (.bool true))]) (.rt))))) }
theorem ZeG:ZH Proofs.Tryz.prog Xj Zaq=true:=by kernel_rfl
end Go.Fd

/-
  SMALL WORDS FOR MARKS. Own work.
-/
namespace Go.Fd
theorem VP{α:Type}{c:α->List Tr}{m:α->Int->α}{n:α->Nat}{a:List α}{k:Int}:cut ((mL m n a k).map c) 0 a.length=(mL m n a k).map c:=by
 simp only[cut,List.drop_zero]
 exact List.take_of_length_le (by rw[List.length_map,ZX];exact Nat.le_refl _)
theorem JB{α:Type}{c:α->List Tr}{a:List α}:cut (a.map c) 0 a.length=a.map c:=by
 simp only[cut,List.drop_zero]
 exact List.take_of_length_le (by rw[List.length_map];exact Nat.le_refl _)
end Go.Fd

/-
  MARKING STRUCTS; WHETHER MARKS ARE HELD (printed by lawgen.py). Own work.
-/
namespace Go.Fd
set_option maxRecDepth 20000
end Go.Fd

/-
  HOW MANY MARKS A THING TAKES, AGAINST ITS SIZE (printed by lawgen.py). Own work.
-/
namespace Go.Fd
end Go.Fd

/-
  WHAT HOLDS OF THE HELPERS OF THE LAWS (printed by lawgen.py). Own work.
-/
namespace Go.Fd
set_option maxRecDepth 20000
theorem ZkW{n:Nat}{l:Int}(h:0<=l):szN n l<=l:=by unfold szN;split <;> omega
theorem ZkX{α:Type}{f:α->Int->Int}:∀(a:List α) (l:Int),(∀ x∈a,∀ l:Int,0<=l->l<=1048576->f x l<=l)->0<=l->l<=1048576->szF f a l<=l
 | [],l,_,_,_=>Int.le_refl l
 | x::r,l,hf,h0,h1=>by
  simp only[szF]
  have:=hf x (by simp) l h0 h1
  split
  ·omega
  ·have h2:=ZkX r (f x l) (fun y hy=>hf y (by simp [hy])) (by omega) (by omega)
   omega
theorem ZfL{α:Type}{f:α->Int->Int}(a:List α){l:Int}(hf:∀ x∈a,∀ l:Int,0<=l->l<=1048576->f x l<=l)(h0:0<=l)(h1:l<=1048576):szL f a l<=l:=by
 unfold szL
 split
 ·omega
 ·have:=ZkX a (l-a.length) hf (by omega) (by omega)
  omega
theorem Y1{l m:Int}{g:Int->Int}(h0:0<=l)(h:m<=l)(hg:0<=m->g m<=m):QG m g<=l:=by
 unfold QG
 split
 ·omega
 ·have:=hg (by omega)
  omega
theorem Zkt:ZH Proofs.Tryz.prog Ja sz0=true:=by kernel_rfl
theorem Js(a:List Int)(hl:a.length<=9223372036854775807)(l:Int)(h0:0<=l)(h1:l<=1048576):szN a.length l<=l/\∀ lvl S,Sem Proofs.Tryz.prog Ja lvl [.tr (.sl (rI a)),iI l] S (iI (szN a.length l)) S:=by
 refine⟨ZkW h0,fun lvl S=>?_⟩
 have:=ZiD Zkt (rI a) l (by simpa using hl) h0 h1 lvl S
 simpa using this
theorem Zjg:ZH Proofs.Tryz.prog YK (ZkO 1 none Ja)=true:=by kernel_rfl
theorem Wt(a:(List (List Int)))(hl:a.length<=9223372036854775807)(hb:∀ y∈a,y.length<=9223372036854775807)(l:Int)(h0:0<=l)(h1:l<=1048576):szL (fun x m=>(szN x.length m)) a l<=l/\∀ lvl S,Sem Proofs.Tryz.prog YK lvl [.tr (.sl (a.map (fun l=>[Tr.sl (rI l)]))),iI l] S (iI (szL (fun x m=>(szN x.length m)) a l)) S :=
 ⟨ZfL a (fun x hx l h0 h1=>(Js x (hb x hx) l h0 h1).1) h0 h1,fun lvl S=>Zka Zjg (fun l=>Tr.sl (rI l)) (fun x m=>(szN x.length m)) a l hl h0 h1 (fun x hx l h0 h1=>Js x (hb x hx) l h0 h1) lvl S⟩
theorem ZhI:ZH Proofs.Tryz.prog VW sz0=true:=by kernel_rfl
theorem Za6(a:List (Int×Int))(hl:a.length<=9223372036854775807)(l:Int)(h0:0<=l)(h1:l<=1048576):szN a.length l<=l/\∀ lvl S,Sem Proofs.Tryz.prog VW lvl [.tr (.sl (a.map cA2)),iI l] S (iI (szN a.length l)) S:=by
 refine⟨ZkW h0,fun lvl S=>?_⟩
 have:=ZiD ZhI (a.map cA2) l (by simpa using hl) h0 h1 lvl S
 simpa using this
theorem ZeH(x:TSorting)(hb:Jv 9223372036854775807 x)(l:Int)(h0:0<=l)(h1:l<=1048576):Qh x l<=l/\∀ lvl S,Sem Proofs.Tryz.prog Vm lvl [.ag ((Zh x).map .tr),iI l] S (iI (Qh x l)) S:=by
 obtain⟨b0,b1,b2,b3,b4,b5,b6⟩:=hb
 refine⟨?_,fun lvl S=>?_⟩
 ·unfold Qh
  have q0:=Js x.tops b0 _ h0 h1
  refine Y1 h0 q0.1 (fun p0=>?_)
  have r0:_<=(1048576:Int):=Int.le_trans q0.1 h1
  have q1:=Wt x.nest b1 b2 _ p0 r0
  refine Y1 p0 q1.1 (fun p1=>?_)
  have r1:_<=(1048576:Int):=Int.le_trans q1.1 r0
  have q2:=Wt x.sorts b3 b4 _ p1 r1
  refine Y1 p1 q2.1 (fun p2=>?_)
  have r2:_<=(1048576:Int):=Int.le_trans q2.1 r1
  have q3:=Js x.most b5 _ p2 r2
  refine Y1 p2 q3.1 (fun p3=>?_)
  have r3:_<=(1048576:Int):=Int.le_trans q3.1 r2
  have q4:=Za6 x.apart b6 _ p3 r3
  refine Y1 p3 q4.1 (fun p4=>?_)
  have r4:_<=(1048576:Int):=Int.le_trans q4.1 r3
  exact Int.le_refl _
 ·refine Zb Zbe trivial ?_
  simp only[WG,Zh,List.map_cons,List.map_nil,EVA,seval,Zc,men]
  unfold Qh
  have q0:=Js x.tops b0 l h0 h1
  refine Za q0.2 ?_
  simp only[EVA,seval,Zc,men]
  obtain⟨l1,hl1⟩:∃ m:Int,m=(szN x.tops.length l):=⟨_,rfl⟩
  have u1:l1<=l:=by rw[hl1];exact q0.1
  rw[<-hl1]
  split
  ·rename_i hn;rw[QG,if_pos hn]
  rename_i hn0
  rw[QG,if_neg hn0]
  have q1:=Wt x.nest b1 b2 l1 (show 0<=l1 by omega) (show l1<=1048576 by omega)
  refine Za q1.2 ?_
  simp only[EVA,seval,Zc,men]
  obtain⟨l2,hl2⟩:∃ m:Int,m=(szL (fun x m=>(szN x.length m)) x.nest l1):=⟨_,rfl⟩
  have u2:l2<=l1:=by rw[hl2];exact q1.1
  rw[<-hl2]
  split
  ·rename_i hn;rw[QG,if_pos hn]
  rename_i hn1
  rw[QG,if_neg hn1]
  have q2:=Wt x.sorts b3 b4 l2 (show 0<=l2 by omega) (show l2<=1048576 by omega)
  refine Za q2.2 ?_
  simp only[EVA,seval,Zc,men]
  obtain⟨l3,hl3⟩:∃ m:Int,m=(szL (fun x m=>(szN x.length m)) x.sorts l2):=⟨_,rfl⟩
  have u3:l3<=l2:=by rw[hl3];exact q2.1
  rw[<-hl3]
  split
  ·rename_i hn;rw[QG,if_pos hn]
  rename_i hn2
  rw[QG,if_neg hn2]
  have q3:=Js x.most b5 l3 (show 0<=l3 by omega) (show l3<=1048576 by omega)
  refine Za q3.2 ?_
  simp only[EVA,seval,Zc,men]
  obtain⟨l4,hl4⟩:∃ m:Int,m=(szN x.most.length l3):=⟨_,rfl⟩
  have u4:l4<=l3:=by rw[hl4];exact q3.1
  rw[<-hl4]
  split
  ·rename_i hn;rw[QG,if_pos hn]
  rename_i hn3
  rw[QG,if_neg hn3]
  have q4:=Za6 x.apart b6 l4 (show 0<=l4 by omega) (show l4<=1048576 by omega)
  refine Za q4.2 ?_
  simp only[EVA,seval,Zc,men]
  obtain⟨l5,hl5⟩:∃ m:Int,m=(szN x.apart.length l4):=⟨_,rfl⟩
  have u5:l5<=l4:=by rw[hl5];exact q4.1
  rw[<-hl5]
  split
  ·rename_i hn;rw[QG,if_pos hn]
  rename_i hn4
  rw[QG,if_neg hn4]
theorem Zds(x:TNode)(hb:W5 9223372036854775807 x)(l:Int)(h0:0<=l)(h1:l<=1048576):W6 x l<=l/\∀ lvl S,Sem Proofs.Tryz.prog Xd lvl [.ag ((ZE x).map .tr),iI l] S (iI (W6 x l)) S:=by
 have b0:x.links.length<=9223372036854775807:=hb
 refine⟨?_,fun lvl S=>?_⟩
 ·unfold W6
  have q0:=Js x.links b0 _ h0 h1
  refine Y1 h0 q0.1 (fun p0=>?_)
  have r0:_<=(1048576:Int):=Int.le_trans q0.1 h1
  exact Int.le_refl _
 ·refine Zb ZeB trivial ?_
  simp only[Zal,ZE,List.map_cons,List.map_nil,EVA,seval,Zc,men]
  unfold W6
  have q0:=Js x.links b0 l h0 h1
  refine Za q0.2 ?_
  simp only[EVA,seval,Zc,men]
  obtain⟨l1,hl1⟩:∃ m:Int,m=(szN x.links.length l):=⟨_,rfl⟩
  have u1:l1<=l:=by rw[hl1];exact q0.1
  rw[<-hl1]
  split
  ·rename_i hn;rw[QG,if_pos hn]
  rename_i hn0
  rw[QG,if_neg hn0]
theorem Zjh:ZH Proofs.Tryz.prog Qr (ZkO 3 (some 3) Xd)=true:=by kernel_rfl
theorem Zcy(a:List TNode)(hl:a.length<=9223372036854775807)(hb:∀ y∈a,W5 9223372036854775807 y)(l:Int)(h0:0<=l)(h1:l<=1048576):szL W6 a l<=l/\∀ lvl S,Sem Proofs.Tryz.prog Qr lvl [.tr (.sl (a.map ZE)),iI l] S (iI (szL W6 a l)) S :=
 ⟨ZfL a (fun x hx l h0 h1=>(Zds x (hb x hx) l h0 h1).1) h0 h1,fun lvl S=>Zd1 Zjh ZE W6 ZiH a l hl h0 h1 (fun x hx l h0 h1=>Zds x (hb x hx) l h0 h1) lvl S⟩
theorem Zdt(x:TWire)(hb:WA 9223372036854775807 x)(l:Int)(h0:0<=l)(h1:l<=1048576):W7 x l<=l/\∀ lvl S,Sem Proofs.Tryz.prog Xe lvl [.ag ((JA x).map .tr),iI l] S (iI (W7 x l)) S:=by
 have b0:x.name.size<=9223372036854775807:=hb
 refine⟨?_,fun lvl S=>?_⟩
 ·unfold W7
  refine Y1 h0 (m:=l-x.name.size) (by omega) (fun p0=>?_)
  have r0:_<=(1048576:Int):=Int.le_trans (show l-x.name.size<=l by omega) h1
  exact Int.le_refl _
 ·refine Zb ZeC trivial ?_
  simp only[Zam,JA,List.map_cons,List.map_nil,EVA,seval,Zc,men]
  unfold W7
  refine⟨by rw[Zd];omega,?_⟩
  obtain⟨l1,hl1⟩:∃ m:Int,m=l-x.name.size:=⟨_,rfl⟩
  have u1:l1<=l:=by omega
  rw[<-hl1]
  split
  ·rename_i hn;rw[QG,if_pos hn]
  rename_i hn0
  rw[QG,if_neg hn0]
theorem Zji:ZH Proofs.Tryz.prog Qs (ZkO 2 (some 2) Xe)=true:=by kernel_rfl
theorem Zcz(a:List TWire)(hl:a.length<=9223372036854775807)(hb:∀ y∈a,WA 9223372036854775807 y)(l:Int)(h0:0<=l)(h1:l<=1048576):szL W7 a l<=l/\∀ lvl S,Sem Proofs.Tryz.prog Qs lvl [.tr (.sl (a.map JA)),iI l] S (iI (szL W7 a l)) S :=
 ⟨ZfL a (fun x hx l h0 h1=>(Zdt x (hb x hx) l h0 h1).1) h0 h1,fun lvl S=>Zd1 Zji JA W7 ZiJ a l hl h0 h1 (fun x hx l h0 h1=>Zdt x (hb x hx) l h0 h1) lvl S⟩
theorem Zgv:ZH Proofs.Tryz.prog Vs Zto=true:=by kernel_rfl
theorem Zar(a:List ByteArray)(hl:a.length<=9223372036854775807)(hb:∀ y∈a,y.size<=9223372036854775807)(l:Int)(h0:0<=l)(h1:l<=1048576):szL (fun x m=>m-x.size) a l<=l/\∀ lvl S,Sem Proofs.Tryz.prog Vs lvl [tS a,iI l] S (iI (szL (fun x m=>m-x.size) a l)) S :=
 ⟨ZfL a (fun x _ l _ _=>by omega) h0 h1,fun lvl S=>Zj8 Zgv a l hl h0 h1 hb lvl S⟩
theorem QM(x:TBigraph)(hb:JD 9223372036854775807 x)(l:Int)(h0:0<=l)(h1:l<=1048576):YC x l<=l/\∀ lvl S,Sem Proofs.Tryz.prog J1 lvl [.ag ((Zg x).map .tr),iI l] S (iI (YC x l)) S:=by
 obtain⟨b0,b1,b2,b3,b4,b5,b6⟩:=hb
 refine⟨?_,fun lvl S=>?_⟩
 ·unfold YC
  have q0:=Zcy x.nodes b0 b1 _ h0 h1
  refine Y1 h0 q0.1 (fun p0=>?_)
  have r0:_<=(1048576:Int):=Int.le_trans q0.1 h1
  have q1:=Js x.sites b2 _ p0 r0
  refine Y1 p0 q1.1 (fun p1=>?_)
  have r1:_<=(1048576:Int):=Int.le_trans q1.1 r0
  have q2:=Zar x.outer b3 b4 _ p1 r1
  refine Y1 p1 q2.1 (fun p2=>?_)
  have r2:_<=(1048576:Int):=Int.le_trans q2.1 r1
  have q3:=Zcz x.inner b5 b6 _ p2 r2
  refine Y1 p2 q3.1 (fun p3=>?_)
  have r3:_<=(1048576:Int):=Int.le_trans q3.1 r2
  exact Int.le_refl _
 ·refine Zb Zbi trivial ?_
  simp only[WK,Zg,List.map_cons,List.map_nil,EVA,seval,Zc,men]
  unfold YC
  have q0:=Zcy x.nodes b0 b1 l h0 h1
  refine Za q0.2 ?_
  simp only[EVA,seval,Zc,men]
  obtain⟨l1,hl1⟩:∃ m:Int,m=(szL W6 x.nodes l):=⟨_,rfl⟩
  have u1:l1<=l:=by rw[hl1];exact q0.1
  rw[<-hl1]
  split
  ·rename_i hn;rw[QG,if_pos hn]
  rename_i hn0
  rw[QG,if_neg hn0]
  have q1:=Js x.sites b2 l1 (show 0<=l1 by omega) (show l1<=1048576 by omega)
  refine Za q1.2 ?_
  simp only[EVA,seval,Zc,men]
  obtain⟨l2,hl2⟩:∃ m:Int,m=(szN x.sites.length l1):=⟨_,rfl⟩
  have u2:l2<=l1:=by rw[hl2];exact q1.1
  rw[<-hl2]
  split
  ·rename_i hn;rw[QG,if_pos hn]
  rename_i hn1
  rw[QG,if_neg hn1]
  have q2:=Zar x.outer b3 b4 l2 (show 0<=l2 by omega) (show l2<=1048576 by omega)
  refine Za q2.2 ?_
  simp only[EVA,seval,Zc,men]
  obtain⟨l3,hl3⟩:∃ m:Int,m=(szL (fun x m=>m-x.size) x.outer l2):=⟨_,rfl⟩
  have u3:l3<=l2:=by rw[hl3];exact q2.1
  rw[<-hl3]
  split
  ·rename_i hn;rw[QG,if_pos hn]
  rename_i hn2
  rw[QG,if_neg hn2]
  have q3:=Zcz x.inner b5 b6 l3 (show 0<=l3 by omega) (show l3<=1048576 by omega)
  refine Za q3.2 ?_
  simp only[EVA,seval,Zc,men]
  obtain⟨l4,hl4⟩:∃ m:Int,m=(szL W7 x.inner l3):=⟨_,rfl⟩
  have u4:l4<=l3:=by rw[hl4];exact q3.1
  rw[<-hl4]
  split
  ·rename_i hn;rw[QG,if_pos hn]
  rename_i hn3
  rw[QG,if_neg hn3]
theorem ZhJ(x:TRule)(hb:WB 9223372036854775807 x)(l:Int)(h0:0<=l)(h1:l<=1048576):Zde x l<=l/\∀ lvl S,Sem Proofs.Tryz.prog Q3 lvl [.ag ((ZO x).map .tr),iI l] S (iI (Zde x l)) S:=by
 obtain⟨b0,b1,b2⟩:=hb
 refine⟨?_,fun lvl S=>?_⟩
 ·unfold Zde
  have q0:=QM x.redex b0 _ h0 h1
  refine Y1 h0 q0.1 (fun p0=>?_)
  have r0:_<=(1048576:Int):=Int.le_trans q0.1 h1
  have q1:=QM x.reactum b1 _ p0 r0
  refine Y1 p0 q1.1 (fun p1=>?_)
  have r1:_<=(1048576:Int):=Int.le_trans q1.1 r0
  have q2:=Js x.copies b2 _ p1 r1
  refine Y1 p1 q2.1 (fun p2=>?_)
  have r2:_<=(1048576:Int):=Int.le_trans q2.1 r1
  exact Int.le_refl _
 ·refine Zb Zey trivial ?_
  simp only[Zai,ZO,List.map_cons,List.map_nil,EVA,seval,Zc,men]
  unfold Zde
  have q0:=QM x.redex b0 l h0 h1
  refine Za q0.2 ?_
  simp only[EVA,seval,Zc,men]
  obtain⟨l1,hl1⟩:∃ m:Int,m=(YC x.redex l):=⟨_,rfl⟩
  have u1:l1<=l:=by rw[hl1];exact q0.1
  rw[<-hl1]
  split
  ·rename_i hn;rw[QG,if_pos hn]
  rename_i hn0
  rw[QG,if_neg hn0]
  have q1:=QM x.reactum b1 l1 (show 0<=l1 by omega) (show l1<=1048576 by omega)
  refine Za q1.2 ?_
  simp only[EVA,seval,Zc,men]
  obtain⟨l2,hl2⟩:∃ m:Int,m=(YC x.reactum l1):=⟨_,rfl⟩
  have u2:l2<=l1:=by rw[hl2];exact q1.1
  rw[<-hl2]
  split
  ·rename_i hn;rw[QG,if_pos hn]
  rename_i hn1
  rw[QG,if_neg hn1]
  have q2:=Js x.copies b2 l2 (show 0<=l2 by omega) (show l2<=1048576 by omega)
  refine Za q2.2 ?_
  simp only[EVA,seval,Zc,men]
  obtain⟨l3,hl3⟩:∃ m:Int,m=(szN x.copies.length l2):=⟨_,rfl⟩
  have u3:l3<=l2:=by rw[hl3];exact q2.1
  rw[<-hl3]
  split
  ·rename_i hn;rw[QG,if_pos hn]
  rename_i hn2
  rw[QG,if_neg hn2]
theorem Zas(x:TControl)(hb:ZF 9223372036854775807 x)(l:Int)(h0:0<=l)(h1:l<=1048576):Jw x l<=l/\∀ lvl S,Sem Proofs.Tryz.prog Vo lvl [.ag ((Zi x).map .tr),iI l] S (iI (Jw x l)) S:=by
 have b0:x.name.size<=9223372036854775807:=hb
 refine⟨?_,fun lvl S=>?_⟩
 ·unfold Jw
  refine Y1 h0 (m:=l-x.name.size) (by omega) (fun p0=>?_)
  have r0:_<=(1048576:Int):=Int.le_trans (show l-x.name.size<=l by omega) h1
  exact Int.le_refl _
 ·refine Zb Zbh trivial ?_
  simp only[WJ,Zi,List.map_cons,List.map_nil,EVA,seval,Zc,men]
  unfold Jw
  refine⟨by rw[Zd];omega,?_⟩
  obtain⟨l1,hl1⟩:∃ m:Int,m=l-x.name.size:=⟨_,rfl⟩
  have u1:l1<=l:=by omega
  rw[<-hl1]
  split
  ·rename_i hn;rw[QG,if_pos hn]
  rename_i hn0
  rw[QG,if_neg hn0]
theorem ZfM:ZH Proofs.Tryz.prog YV (ZkO 3 (some 3) Vo)=true:=by kernel_rfl
theorem ZcZ(a:List TControl)(hl:a.length<=9223372036854775807)(hb:∀ y∈a,ZF 9223372036854775807 y)(l:Int)(h0:0<=l)(h1:l<=1048576):szL Jw a l<=l/\∀ lvl S,Sem Proofs.Tryz.prog YV lvl [.tr (.sl (a.map Zi)),iI l] S (iI (szL Jw a l)) S :=
 ⟨ZfL a (fun x hx l h0 h1=>(Zas x (hb x hx) l h0 h1).1) h0 h1,fun lvl S=>Zd1 ZfM Zi Jw ZaW a l hl h0 h1 (fun x hx l h0 h1=>Zas x (hb x hx) l h0 h1) lvl S⟩
end Go.Fd

/-
  WHAT HOLDS OF THE HELPERS OF THE LAWS: eq.. (printed by lawgen.py). Own work.
-/
namespace Go.Fd
set_option maxRecDepth 20000
theorem Zku:ZH Proofs.Tryz.prog Jc ZmB=true:=by kernel_rfl
theorem QT(a b:(List Int))(ha:a.length<=9223372036854775807)(lvl:Nat)(S:Sto):Sem Proofs.Tryz.prog Jc lvl [.tr (.sl (rI a)),.tr (.sl (rI b))] S (iB (decide (a=b))) S:=Zmb Zku a b ha lvl S
theorem Zjj:ZH Proofs.Tryz.prog YM (Zj9 1 none Jc)=true:=by kernel_rfl
theorem ZcA(a b:(List (List Int)))(ha:a.length<=9223372036854775807)(ha2:∀ y∈a,y.length<=9223372036854775807)(lvl:Nat)(S:Sto):Sem Proofs.Tryz.prog YM lvl [.tr (.sl (a.map (fun l=>[Tr.sl (rI l)]))),.tr (.sl (b.map (fun l=>[Tr.sl (rI l)])))] S (iB (decide (a=b))) S :=
 ZiE Zjj (fun l=>Tr.sl (rI l)) a b ha (fun x hx y _ lvl S=>QT x y (ha2 x hx) lvl S) lvl S
theorem Zgw(x y:(Int×Int))(lvl:Nat)(S:Sto):Sem Proofs.Tryz.prog Qz lvl [.ag ((cA2 x).map .tr),.ag ((cA2 y).map .tr)] S (iB (decide (x=y))) S:=by
 refine Zb ZcY trivial ?_
 simp only[Db,cA2,EVA,seval,Zc,men]
 refine ZI (α:=Unit) 2 (fun j _=>⟨lvl,[(2,.ta (cA2 x)),(3,.ta (cA2 y)),(5,iI j)],[],S⟩) (fun j _=>(cA2 x).take j=(cA2 y).take j) () ⟨by simp only[EVA,seval,Zc,men],by (simp only[EVA,seval,Zc,men]) <;> rfl⟩ rfl ?_
 intro j _ hj hA
 have hc:j=0\/j=1\/j=2:=by omega
 rcases hc with rfl | rfl | rfl
 ·simp only[cA2,Int.cast_ofNat_Int,Int.natCast_zero,Nat.zero_mul,Nat.one_mul,Nat.mul_one,EVA,seval,Zc,men]
  refine Zj (fun hne=>?_) (fun heq=>?_)
  ·have:¬ x=y:=fun e=>hne (by rw[e])
   simp [this]
  ·refine⟨by rw[Zd];omega,Ze (N:=2) (k:=0) () (by omega) rfl ?_⟩
   simp [cA2] at hA ⊢
   simp_all
 ·simp only[cA2,Int.cast_ofNat_Int,Int.natCast_zero,Nat.zero_mul,Nat.one_mul,Nat.mul_one,EVA,seval,Zc,men]
  refine Zj (fun hne=>?_) (fun heq=>?_)
  ·have:¬ x=y:=fun e=>hne (by rw[e])
   simp [this]
  ·refine⟨by rw[Zd];omega,Ze (N:=2) (k:=1) () (by omega) rfl ?_⟩
   simp [cA2] at hA ⊢
   simp_all
 ·simp only[cA2,Int.cast_ofNat_Int,EVA,seval,Zc,men]
  have:x=y:=by
   simp [cA2] at hA
   obtain⟨x0,x1⟩:=x;obtain⟨y0,y1⟩:=y
   simp_all
  simp [this]
theorem ZhK:ZH Proofs.Tryz.prog VZ (Zj9 2 (some 2) Qz)=true:=by kernel_rfl
theorem ZfN(a b:(List (Int×Int)))(ha:a.length<=9223372036854775807)(lvl:Nat)(S:Sto):Sem Proofs.Tryz.prog VZ lvl [.tr (.sl (a.map cA2)),.tr (.sl (b.map cA2))] S (iB (decide (a=b))) S :=
 Zbv ZhK cA2 (fun _=>rfl) a b ha (fun x hx y _ lvl S=>Zgw x y lvl S) lvl S
theorem ZeI(x y:TSorting)(hb:Jv 9223372036854775807 x)(lvl:Nat)(S:Sto):Sem Proofs.Tryz.prog Vn lvl [.ag ((Zh x).map .tr),.ag ((Zh y).map .tr)] S (iB (decide (x=y))) S:=by
 obtain⟨b0,b1,b2,b3,b4,b5,b6⟩:=hb
 refine Zb Zbg trivial ?_
 simp only[WI,Zh,List.map_cons,List.map_nil,EVA,seval,Zc,men]
 refine Za (QT x.tops y.tops b0) ?_
 simp only[Bool.not_eq_true',EVA,seval,Zc,men]
 refine Zj (fun hne=>?_) (fun heq0=>?_)
 ·have:¬ x=y:=fun e=>(by rw[e] at hne;simp at hne)
  simp [this]
 refine Za (ZcA x.nest y.nest b1 b2) ?_
 simp only[Bool.not_eq_true',EVA,seval,Zc,men]
 refine Zj (fun hne=>?_) (fun heq1=>?_)
 ·have:¬ x=y:=fun e=>(by rw[e] at hne;simp at hne)
  simp [this]
 refine Za (ZcA x.sorts y.sorts b3 b4) ?_
 simp only[Bool.not_eq_true',EVA,seval,Zc,men]
 refine Zj (fun hne=>?_) (fun heq2=>?_)
 ·have:¬ x=y:=fun e=>(by rw[e] at hne;simp at hne)
  simp [this]
 refine Za (QT x.most y.most b5) ?_
 simp only[Bool.not_eq_true',EVA,seval,Zc,men]
 refine Zj (fun hne=>?_) (fun heq3=>?_)
 ·have:¬ x=y:=fun e=>(by rw[e] at hne;simp at hne)
  simp [this]
 refine Za (ZfN x.apart y.apart b6) ?_
 simp only[Bool.not_eq_true',EVA,seval,Zc,men]
 refine Zj (fun hne=>?_) (fun heq4=>?_)
 ·have:¬ x=y:=fun e=>(by rw[e] at hne;simp at hne)
  simp [this]
 have:x=y:=by
  cases x;cases y;simp_all
 simp [this]
theorem ZhL(x y:TNode)(hb:W5 9223372036854775807 x)(lvl:Nat)(S:Sto):Sem Proofs.Tryz.prog Xi lvl [.ag ((ZE x).map .tr),.ag ((ZE y).map .tr)] S (iB (decide (x=y))) S:=by
 have b0:x.links.length<=9223372036854775807:=hb
 refine Zb ZeF trivial ?_
 simp only[Zap,ZE,List.map_cons,List.map_nil,EVA,seval,Zc,men]
 refine Zj (fun hne=>?_) (fun heq0=>?_)
 ·have:¬ x=y:=fun e=>(by rw[e] at hne;simp at hne)
  simp [this]
 refine Zj (fun hne=>?_) (fun heq1=>?_)
 ·have:¬ x=y:=fun e=>(by rw[e] at hne;simp at hne)
  simp [this]
 refine Za (QT x.links y.links b0) ?_
 simp only[Bool.not_eq_true',EVA,seval,Zc,men]
 refine Zj (fun hne=>?_) (fun heq2=>?_)
 ·have:¬ x=y:=fun e=>(by rw[e] at hne;simp at hne)
  simp [this]
 have:x=y:=by
  cases x;cases y;simp_all
 simp [this]
theorem Zjk:ZH Proofs.Tryz.prog QA (Zj9 3 (some 3) Xi)=true:=by kernel_rfl
theorem Zgx(a b:(List TNode))(ha:a.length<=9223372036854775807)(ha2:∀ y∈a,W5 9223372036854775807 y)(lvl:Nat)(S:Sto):Sem Proofs.Tryz.prog QA lvl [.tr (.sl (a.map ZE)),.tr (.sl (b.map ZE))] S (iB (decide (a=b))) S :=
 Zbv Zjk ZE (fun _=>rfl) a b ha (fun x hx y _ lvl S=>ZhL x y (ha2 x hx) lvl S) lvl S
theorem ZhM(x y:TWire)(hb:WA 9223372036854775807 x)(lvl:Nat)(S:Sto):Sem Proofs.Tryz.prog Xj lvl [.ag ((JA x).map .tr),.ag ((JA y).map .tr)] S (iB (decide (x=y))) S:=by
 have b0:x.name.size<=9223372036854775807:=hb
 refine Zb ZeG trivial ?_
 simp only[Zaq,JA,List.map_cons,List.map_nil,EVA,seval,Zc,men]
 refine Zj (fun hne=>?_) (fun heq0=>?_)
 ·have:¬ x=y:=fun e=>(by rw[e] at hne;simp at hne)
  simp [this]
 refine Zj (fun hne=>?_) (fun heq1=>?_)
 ·have:¬ x=y:=fun e=>(by rw[e] at hne;simp at hne)
  simp [this]
 have:x=y:=by
  cases x;cases y;simp_all
 simp [this]
theorem Zjl:ZH Proofs.Tryz.prog QB (Zj9 2 (some 2) Xj)=true:=by kernel_rfl
theorem Zgy(a b:(List TWire))(ha:a.length<=9223372036854775807)(ha2:∀ y∈a,WA 9223372036854775807 y)(lvl:Nat)(S:Sto):Sem Proofs.Tryz.prog QB lvl [.tr (.sl (a.map JA)),.tr (.sl (b.map JA))] S (iB (decide (a=b))) S :=
 Zbv Zjl JA (fun _=>rfl) a b ha (fun x hx y _ lvl S=>ZhM x y (ha2 x hx) lvl S) lvl S
theorem Zgz:ZH Proofs.Tryz.prog Vx ZmB=true:=by kernel_rfl
theorem ZeJ(a b:(List ByteArray))(ha:a.length<=9223372036854775807)(lvl:Nat)(S:Sto):Sem Proofs.Tryz.prog Vx lvl [.tr (.sl (rS a)),.tr (.sl (rS b))] S (iB (decide (a=b))) S:=Zmc Zgz a b ha lvl S
theorem Zat(x y:TBigraph)(hb:JD 9223372036854775807 x)(lvl:Nat)(S:Sto):Sem Proofs.Tryz.prog J3 lvl [.ag ((Zg x).map .tr),.ag ((Zg y).map .tr)] S (iB (decide (x=y))) S:=by
 obtain⟨b0,b1,b2,b3,b4,b5,b6⟩:=hb
 refine Zb Zbm trivial ?_
 simp only[WO,Zg,List.map_cons,List.map_nil,EVA,seval,Zc,men]
 refine Zj (fun hne=>?_) (fun heq0=>?_)
 ·have:¬ x=y:=fun e=>(by rw[e] at hne;simp at hne)
  simp [this]
 refine Za (Zgx x.nodes y.nodes b0 b1) ?_
 simp only[Bool.not_eq_true',EVA,seval,Zc,men]
 refine Zj (fun hne=>?_) (fun heq1=>?_)
 ·have:¬ x=y:=fun e=>(by rw[e] at hne;simp at hne)
  simp [this]
 refine Za (QT x.sites y.sites b2) ?_
 simp only[Bool.not_eq_true',EVA,seval,Zc,men]
 refine Zj (fun hne=>?_) (fun heq2=>?_)
 ·have:¬ x=y:=fun e=>(by rw[e] at hne;simp at hne)
  simp [this]
 refine Zj (fun hne=>?_) (fun heq3=>?_)
 ·have:¬ x=y:=fun e=>(by rw[e] at hne;simp at hne)
  simp [this]
 refine Za (ZeJ x.outer y.outer b3) ?_
 simp only[Bool.not_eq_true',EVA,seval,Zc,men]
 refine Zj (fun hne=>?_) (fun heq4=>?_)
 ·have:¬ x=y:=fun e=>(by rw[e] at hne;simp at hne)
  simp [this]
 refine Za (Zgy x.inner y.inner b5 b6) ?_
 simp only[Bool.not_eq_true',EVA,seval,Zc,men]
 refine Zj (fun hne=>?_) (fun heq5=>?_)
 ·have:¬ x=y:=fun e=>(by rw[e] at hne;simp at hne)
  simp [this]
 have:x=y:=by
  cases x;cases y;simp_all
 simp [this]
theorem ZhN(x y:TRule)(hb:WB 9223372036854775807 x)(lvl:Nat)(S:Sto):Sem Proofs.Tryz.prog Q4 lvl [.ag ((ZO x).map .tr),.ag ((ZO y).map .tr)] S (iB (decide (x=y))) S:=by
 obtain⟨b0,b1,b2⟩:=hb
 refine Zb ZeA trivial ?_
 simp only[Zak,ZO,List.map_cons,List.map_nil,EVA,seval,Zc,men]
 refine Za (Zat x.redex y.redex b0) ?_
 simp only[Bool.not_eq_true',EVA,seval,Zc,men]
 refine Zj (fun hne=>?_) (fun heq0=>?_)
 ·have:¬ x=y:=fun e=>(by rw[e] at hne;simp at hne)
  simp [this]
 refine Za (Zat x.reactum y.reactum b1) ?_
 simp only[Bool.not_eq_true',EVA,seval,Zc,men]
 refine Zj (fun hne=>?_) (fun heq1=>?_)
 ·have:¬ x=y:=fun e=>(by rw[e] at hne;simp at hne)
  simp [this]
 refine Za (QT x.copies y.copies b2) ?_
 simp only[Bool.not_eq_true',EVA,seval,Zc,men]
 refine Zj (fun hne=>?_) (fun heq2=>?_)
 ·have:¬ x=y:=fun e=>(by rw[e] at hne;simp at hne)
  simp [this]
 have:x=y:=by
  cases x;cases y;simp_all
 simp [this]
theorem ZeK(x y:TControl)(hb:ZF 9223372036854775807 x)(lvl:Nat)(S:Sto):Sem Proofs.Tryz.prog Vr lvl [.ag ((Zi x).map .tr),.ag ((Zi y).map .tr)] S (iB (decide (x=y))) S:=by
 have b0:x.name.size<=9223372036854775807:=hb
 refine Zb Zbl trivial ?_
 simp only[WN,Zi,List.map_cons,List.map_nil,EVA,seval,Zc,men]
 refine Zj (fun hne=>?_) (fun heq0=>?_)
 ·have:¬ x=y:=fun e=>(by rw[e] at hne;simp at hne)
  simp [this]
 refine Zj (fun hne=>?_) (fun heq1=>?_)
 ·have:¬ x=y:=fun e=>(by rw[e] at hne;simp at hne)
  simp [this]
 refine Zj (fun hne=>?_) (fun heq2=>?_)
 ·have:¬ x=y:=fun e=>(by rw[e] at hne;simp at hne)
  simp [this]
 have:x=y:=by
  cases x;cases y;simp_all
 simp [this]
theorem ZfO:ZH Proofs.Tryz.prog YW (Zj9 3 (some 3) Vr)=true:=by kernel_rfl
theorem Zc0(a b:(List TControl))(ha:a.length<=9223372036854775807)(ha2:∀ y∈a,ZF 9223372036854775807 y)(lvl:Nat)(S:Sto):Sem Proofs.Tryz.prog YW lvl [.tr (.sl (a.map Zi)),.tr (.sl (b.map Zi))] S (iB (decide (a=b))) S :=
 Zbv ZfO Zi (fun _=>rfl) a b ha (fun x hx y _ lvl S=>ZeK x y (ha2 x hx) lvl S) lvl S
end Go.Fd
