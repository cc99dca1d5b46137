/-
  ONE BIGRAPH UNDER ANOTHER, THE PROGRAM'S SIDE: joined. Own work.
-/
import Derived.Test.YtcjkjlchlflbfaaGreatDoorT06
import Derived.Shelf.SlSortCmp.WholeK
set_option linter.all false
namespace Go.Fd
open Go.Proofs.Tryz renaming prog->Uch
set_option maxRecDepth 20000
theorem ZDB(e:Int×ByteArray)(lvl:Nat)(S:Zc):Sem Uch ZcP lvl [oE e] S (oE e) S:=by
 refine Zi ZBN (by simp [low,men,Za]) ?_
 simp only[Zme,Zb,seval,Za,men]
theorem ZDC(a:TBigraph)(e:Int×ByteArray)(nf:FuncId)(cs:List (List Tr))(nm:ByteArray->Int×ByteArray)(h1:-4294967296<=e.1/\e.1<=4294967296)(h2:0<=a.edges/\a.edges<=4294967296)(hN:e.2≠Jd->∀ lvl S,Sem Uch nf lvl (iS e.2::cs.map IV.ta) S (oE (nm e.2)) S)
  (lvl:Nat) (S:Zc) (id:Zd) (hid:id.1<lvl) (sN:S id=some (.bx [.fn nf (cs.map IV.ta)])):Sem Uch Dk lvl [oE e,.ta (Ze a),.ab id 0] S (oE (QC a nm e)) S:=by
 have hne:id.1≠lvl:=by omega
 refine Zi ZBO (by simp [low,men,Za]) ?_
 simp only[Zmf,Ze,JE hne,sN,Zb,seval,Za,men]
 unfold QC
 by_cases h:e.2=Jd
 ·rw[if_pos h]
  have h':e.2 = { data:=#[] }:=h
  simp only[h',Zb,seval,Za,men]
  rw[Zg];omega
 ·rw[if_neg h]
  have h':¬ e.2 = { data:=#[] }:=h
  simp only[h',JE hne,sN,V1,Y5,Zb,seval,Za,men]
  refine Zf (hN h) ?_
  simp only[Zb,seval,Za,men]
def WU(n:Int)(pl:Int->Int)(p:Int):Int:=if 0<=p then p+n else pl p
theorem ZnB(a:TBigraph)(p:Int)(pf:FuncId)(cs:List (List Tr))(pl:Int->Int)(hn:a.nodes.length<=4294967296)(hp:-4294967296<=p/\p<=4294967296)(hP:p<0->∀ lvl S,Sem Uch pf lvl (iI p::cs.map IV.ta) S (iI (pl p)) S)(lvl:Nat)(S:Zc):Sem Uch ZcQ lvl [.ag ((Ze a).map .tr),iI p,.fn pf (cs.map IV.ta)] S (iI (WU a.nodes.length pl p)) S:=by
 refine Zi ZBP trivial ?_
 simp only[Zmg,Ze,Uaa,Zb,seval,Za,men]
 unfold WU
 by_cases h:0<=p
 ·rw[if_pos h]
  simp only[h,Uaa,Zb,seval,Za,men]
  rw[Zg];omega
 ·rw[if_neg h]
  simp only[h,V1,Y5,Zb,seval,Za,men]
  refine Zf (hP (by omega)) ?_
  simp only[Zb,seval,Za,men]
theorem Zha{id:Zd}:∀{l:List (List Tr)},scrs id (l.map IV.ta)=l.map IV.ta
 | []=>rfl
 | x::r=>by
  simp only[Uai,scrs,scr]
  rw[Zha]
theorem ZDD(sig:List TControl)(a b:TBigraph)(ha:bigOK sig a)(hb:bigOK sig b)(roots:Int)(ss:List Int)(hss:ss.length<=1000)(o:List ByteArray)(ho:o.length<=1000)(pf:FuncId)(ps:List (List Tr))(pl:Int->Int)(nf:FuncId)(ns:List (List Tr))(nm:ByteArray->Int×ByteArray)
  (hP:∀ p,-b.roots<=p->p<0->∀ lvl S,Sem Uch pf lvl (iI p::ps.map IV.ta) S (iI (pl p)) S) (hN:∀ x∈b.outer,∀ lvl S,Sem Uch nf lvl (iS x::ns.map IV.ta) S (oE (nm x)) S)
  (lvl:Nat) (S:Zc):Sem Uch ZaK lvl [.ag ((Ze a).map .tr),.ag ((Ze b).map .tr),iI roots,tI ss,.tr (.sl (rS o)),.fn pf (ps.map IV.ta),.fn nf (ns.map IV.ta)] S
   (.ag [iI roots,.ow 3 ((Vg a b roots ss (ZM o) (JT a (a.edges+b.edges) (ZM o) fun x=>x) (JT b (a.edges+b.edges) (ZM o) (QC a nm)) (WU a.nodes.length pl)).nodes.map ZG) (decide (b.nodes.length=0)),.ow 1 (rI (ss++b.sites.map (WU a.nodes.length pl))) true,iI (a.edges+b.edges),.ow 1 (rS (ZM o)) true,.tr (.sl ((b.inner.map (JF (JT b (a.edges+b.edges) (ZM o) (QC a nm)))).map ZO))]) S:=by
 have ra:=ha.roots;have rb:=hb.roots
 have ea:=ha.edges;have eb:=hb.edges
 have sa:=ha.small;have sb:=hb.small
 have a1:=sa.nodes;have a2:=sa.sites;have a3:=sa.inner;have a4:=sa.outer
 have b1:=sb.nodes;have b2:=sb.sites;have b3:=sb.inner;have b4:=sb.outer
 have lnA:∀ x∈a.nodes,∀ l∈x.links,ZZ a l:=fun x hx l hl=>by
  obtain⟨k,hk,rfl⟩:=Uao hx
  exact(ha.nodes k hk).links l hl
 have lnB:∀ x∈b.nodes,∀ l∈x.links,ZZ b l:=fun x hx l hl=>by
  obtain⟨k,hk,rfl⟩:=Uao hx
  exact(hb.nodes k hk).links l hl
 obtain⟨FL,hFL⟩:∃ F,F=JT a (a.edges+b.edges) (ZM o) fun x=>x:=⟨_,rfl⟩
 obtain⟨FR,hFR⟩:∃ F,F=JT b (a.edges+b.edges) (ZM o) (QC a nm):=⟨_,rfl⟩
 obtain⟨mv,hmv⟩:∃ F,F=WU a.nodes.length pl:=⟨_,rfl⟩
 have q1:=Zdi a (a.edges+b.edges) o ZcP [] (fun x=>x) ea.1 (VJ (by omega) (Q1 ha)) (by omega) (by omega) (by omega) lnA ha.inner (fun l _ lvl S=>ZDB (Yq a l) lvl S)
 have hR:∀ loc:List (Nat×Ob),lkO 416 loc=some (.bx [.fn nf (ns.map IV.ta)])->∀ l' S',Za (XI (Zy lvl loc S) S' l') [.ag ((Ze b).map .tr),iI (a.edges+b.edges),.tr (.sl (rS o)),.fn Dk [.ta (Ze a),.ab (lvl,416) 0]]->Sem Uch X8 l' [.ag ((Ze b).map .tr),iI (a.edges+b.edges),.tr (.sl (rS o)),.fn Dk [.ta (Ze a),.ab (lvl,416) 0]] S' (Zw (Jk b FR (a.edges+b.edges) (ZM o))) S':=fun loc h1 l' S' hs=>by
  have hc:Za (V9 (Zy lvl loc S) S' l') [.ta (Ze a),.ab (lvl,416) 0]:=by
   have h2:=(Zm9 hs).2.2.2.1
   simp only[men] at h2
   exact h2
  rw[hFR]
  exact Znc b (a.edges+b.edges) o Dk _ (Zy lvl loc S) (QC a nm) eb.1 (VJ (by omega) (Q1 hb)) (by omega) (by omega) (by omega) lnB hb.inner (fun l hl l'' S'' hs2=>by
   have hz:=hs2.2.1
   simp only[men] at hz
   refine ZDC a (Yq b l) nf ns nm (ZDt eb hl) (by omega) (fun hne=>hN _ ?_) l'' S'' (lvl,416) hz.1 (hz.2 _ (by rw[J7];exact h1))
   rcases Qe hl with ⟨g0,g1⟩ | ⟨i,hi,rfl⟩
   ·rw[Dr g1] at hne
    exact absurd rfl hne
   ·rw[Ds hi]
    exact Uak hi) l' S' hc
 rw[<-hFL] at q1
 rw[<-hFL,<-hFR,<-hmv]
 simp only[Ze,Zw,Jk,Uai,Uaj] at q1 hR
 obtain⟨N1,hN1⟩:∃ l,l=a.nodes.map (fun x=>({ control:=x.control,parent:=x.parent,links:=List.map FL x.links }:TNode)):=⟨_,rfl⟩
 obtain⟨B1,hB1⟩:∃ l,l=b.nodes.map (fun x=>({ control:=x.control,parent:=x.parent,links:=List.map FR x.links }:TNode)):=⟨_,rfl⟩
 obtain⟨B2,hB2⟩:∃ l,l=b.nodes.map (fun x=>({ control:=x.control,parent:=mv x.parent,links:=List.map FR x.links }:TNode)):=⟨_,rfl⟩
 have lN1:N1.length=a.nodes.length:=by rw[hN1,Uaa]
 have lB1:B1.length=b.nodes.length:=by rw[hB1,Uaa]
 have lB2:B2.length=b.nodes.length:=by rw[hB2,Uaa]
 simp only[<-hN1] at q1
 have hW1:b.inner.map (fun w=>({ name:=w.name,link:=FR w.link }:TWire))=b.inner.map (JF FR):=rfl
 simp only[<-hB1,hW1] at hR
 refine Zi ZBs (by simp [low,men,Za]) ?_
 simp only[ZlT,Ze,Zb,seval,Za,men]
 refine⟨by rw[Zg];omega,?_⟩
 refine Zf q1 ?_
 simp only[lN1,Uaa,Zb,seval,Za,men]
 refine Zb2 (hR _ rfl) ?_
 simp only[lN1,lB1,Uaa,Zb,seval,Za,men]
 refine Zf (Zdc ss (by omega)) ?_
 simp only[lN1,lB1,Uaa,Zb,seval,Za,men]
 refine ZJ (α:=Unit) b.nodes.length (fun j _=>[(51,iI j)]) (fun j _=>[(576,.bx [iI roots,.hd (lvl,992) [] 0 (a.nodes.length+j) none (a.nodes.length+j),.hd (lvl,1312) [] 0 ss.length none ss.length,iI (a.edges+b.edges),.hd (lvl,994) [] 0 (ZM o).length none (ZM o).length,.tr (.sl ((b.inner.map (JF FR)).map ZO))]),(992,.ar 3 ((N1++B2.take j).map ZG) (decide (j=0)) (a.nodes.length+j) 0)]) (fun _ _=>True) () (by simp only[Ye,Zb,seval,Za,men]) (by simp only[hN1,Zb,seval,Za,men];simp) trivial ?_
 intro j _ hj _
 simp only[Uaa,Zb,seval,Za,men]
 refine Zs (fun hlt=>?_) (fun hge=>?_)
 ·have hja:j<b.nodes.length:=by omega
  have ga:(B1.map ZG)[j]? = some [tv b.nodes[j].control,tv b.nodes[j].parent,Tr.sl (rI (b.nodes[j].links.map FR))]:=by
   rw[hB1,Uas,Uas,Uah hja]
   rfl
  have hx:=Uak hja
  have hbp:=Xz hb hx
  have hge:=Yr rb.1 (hb.nodes j hja).par
  simp only[ga,hja,Ye,V1,Y5,Uaa,Zb,seval,Za,men]
  have q3:=ZnB a b.nodes[j].parent pf ps pl (by omega) (by omega) (fun h=>hP _ hge h)
  rw[<-hmv] at q3
  simp only[Ze,Uai,Uaj] at q3
  refine Zf q3 ?_
  have hs:(N1++B2.take j).map ZG++[[tv b.nodes[j].control,tv (mv b.nodes[j].parent),Tr.sl (rI (b.nodes[j].links.map FR))]]=(N1++B2.take (j+1)).map ZG:=by
   have hj2:j<B2.length:=by omega
   rw[Uaf hj2,<-UaA,Uay (l₂:=[B2[j]])]
   simp [hB2,ZG]
  have hl:(N1++B2.take j).length=a.nodes.length+j:=by rw[Uad,Uam];omega
  simp only[hs,hl,Ub0,Zha,Ye,V1,Y5,Uaa,Zb,seval,Za,men]
  exact⟨by omega,by rw[Zg];omega,Zu () hja rfl trivial⟩
 ·have:j=b.nodes.length:=by omega
  subst this
  rw[show B2.take b.nodes.length=B2 from by rw[<-lB2,Uaw]]
  refine ZJ (α:=Unit) b.sites.length (fun j _=>[(71,iI j)]) (fun j _=>[(576,.bx [iI roots,.hd (lvl,992) [] 0 (a.nodes.length+b.nodes.length) none (a.nodes.length+b.nodes.length),.hd (lvl,1312) [] 0 (ss.length+j) none (ss.length+j),iI (a.edges+b.edges),.hd (lvl,994) [] 0 (ZM o).length none (ZM o).length,.tr (.sl ((b.inner.map (JF FR)).map ZO))]),(1312,.ar 1 (rI (ss++(b.sites.take j).map mv)) true (ss.length+j) 0)]) (fun _ _=>True) () (by simp only[Ye,Zb,seval,Za,men]) (by simp only[Zb,seval,Za,men];simp) trivial ?_
  intro j _ hj _
  simp only[Uaa,Zb,seval,Za,men]
  refine Zs (fun hlt=>?_) (fun hge=>?_)
  ·have hja:j<b.sites.length:=by omega
   have ga:=YB hja
   have e0:g0 b.sites j=b.sites[j]:=by simp [hja]
   have hx:=Uak hja
   have hbp:=XA hb hx
   have hge:=Yr rb.1 (hb.sites _ hx)
   rw[<-e0] at hbp hge
   simp only[ga,hja,Ye,V1,Y5,Uaa,Zb,seval,Za,men]
   have q3:=ZnB a (g0 b.sites j) pf ps pl (by omega) (by omega) (fun h=>hP _ hge h)
   rw[<-hmv] at q3
   simp only[Ze,Uai,Uaj] at q3
   refine Zf q3 ?_
   have hs:rI (ss++(b.sites.take j).map mv)++[[tv (mv (g0 b.sites j))]]=rI (ss++(b.sites.take (j+1)).map mv):=by
    rw[Uaf hja,Uay,<-UaA,Yf (ss++_),e0]
    rfl
   have hl:(ss++(b.sites.take j).map mv).length=ss.length+j:=by rw[Uad,Uaa,Uam];omega
   simp only[hs,hl,Ub0,Zha,Ye,V1,Y5,Uaa,Zb,seval,Za,men]
   exact⟨by omega,by rw[Zg];omega,Zu () hja rfl trivial⟩
  ·have:j=b.sites.length:=by omega
   subst this
   rw[Uaw]
   exact⟨by rw[Uad];omega,by rw[Uad,Uaa],by rw[hN1,hB2];rfl⟩
abbrev Zhb(b:TBigraph)(u:Bool):IV:=.ag [iI b.roots,.ow 3 (b.nodes.map ZG) u,.ow 1 (rI b.sites) true,iI b.edges,.ow 1 (rS b.outer) true,.tr (.sl (b.inner.map ZO))]
theorem ZnC(sig:List TControl)(a b X:TBigraph)(ha:bigOK sig a)(hb:bigOK sig b)(roots:Int)(ss:List Int)(hss:ss.length<=1000)(o:List ByteArray)(ho:o.length<=1000)(pf:FuncId)(ps:List (List Tr))(pl:Int->Int)(nf:FuncId)(ns:List (List Tr))(nm:ByteArray->Int×ByteArray)
  (hP:∀ p,-b.roots<=p->p<0->∀ lvl S,Sem Uch pf lvl (iI p::ps.map IV.ta) S (iI (pl p)) S) (hN:∀ x∈b.outer,∀ lvl S,Sem Uch nf lvl (iS x::ns.map IV.ta) S (oE (nm x)) S)
  (hX:Vg a b roots ss (ZM o) (JT a (a.edges+b.edges) (ZM o) fun x=>x) (JT b (a.edges+b.edges) (ZM o) (QC a nm)) (WU a.nodes.length pl)=X)
  (lvl:Nat) (S:Zc):Sem Uch ZaK lvl [.ag ((Ze a).map .tr),.ag ((Ze b).map .tr),iI roots,tI ss,.tr (.sl (rS o)),.fn pf (ps.map IV.ta),.fn nf (ns.map IV.ta)] S (Zhb X (decide (b.nodes.length=0))) S:=by
 subst hX
 exact ZDD sig a b ha hb roots ss hss o ho pf ps pl nf ns nm hP hN lvl S
theorem ZDE{a:TBigraph}:WU a.nodes.length (fun p=>g0 a.sites (-1-p).toNat)=Zdq a:=rfl
theorem ZnD{sig:List TControl}{a b:TBigraph}(ha:bigOK sig a)(hb:bigOK sig b){o:List ByteArray}(ho:o.length<=100):(∀ l,ZZ a l->sm (g0 (V6 a (a.edges+b.edges) o) l.toNat)):=fun l hl=>by
 have ea:=ha.edges;have eb:=hb.edges
 exact ZDA ha (by omega) ho hl
theorem ZDF(a:TBigraph)(p:Int)(hp:-4294967296<=p/\p<0)(hl:(-1-p).toNat<a.sites.length)(lvl:Nat)(S:Zc):Sem Uch ZcC lvl [iI p,.ta (Ze a)] S (iI (g0 a.sites (-1-p).toNat)) S:=by
 obtain⟨k,hk⟩:∃ k:Nat,-1-p=k:=⟨(-1-p).toNat,by omega⟩
 rw[hk] at hl ⊢
 rw[Int.toNat_natCast] at hl ⊢
 have ga:=YB hl
 refine Zi ZBu trivial ?_
 simp only[ZlV,Ze,hk,ga,hl,Zb,↓reduceIte,Nat.reduceEqDiff,Nat.reduceMul,reduceCtorEq,Nat.reduceAdd,Nat.reduceSub,Nat.reduceLeDiff,Nat.reduceLT,Int.reduceToNat,Int.reduceLE,Int.reduceLT,Za,men]
 rw[Zg];omega
theorem ZnE(s:ByteArray)(lvl:Nat)(S:Zc):Sem Uch Dj lvl [iS s] S (oE (0,s)) S:=by
 refine Zi ZBv (by simp [low,men,Za]) ?_
 simp only[ZlW,Zb,↓reduceIte,Nat.reduceEqDiff,Nat.reduceMul,reduceCtorEq,Nat.reduceAdd,Nat.reduceSub,Nat.reduceLeDiff,Nat.reduceLT,Int.reduceToNat,Int.reduceLE,Int.reduceLT,Za,men]
theorem ZDG(n:Nat)(hn:n<=4294967296)(lvl:Nat)(S:Zc):Sem Uch Zgs lvl [.cs [],iI n] S (.ow 1 [] true) S:=by
 refine Zi ZBQ trivial ?_
 simp only[Zmh,Zb,↓reduceIte,Nat.reduceEqDiff,Nat.reduceMul,reduceCtorEq,Nat.reduceAdd,Nat.reduceSub,Nat.reduceLeDiff,Nat.reduceLT,Int.reduceToNat,Int.reduceLE,Int.reduceLT,Za,men]
 rw[if_neg (by omega)]
 refine⟨by rw[Zg];omega,by rw[Zg];omega,?_⟩
 split
 ·exact⟨fun e he=>by (cases he),by omega,by omega,by omega⟩
 ·trivial
theorem ZnF{α:Type}{ls:List (List α)}{j:Nat}(h:j<ls.length):(ls.take (j+1)).flatten=(ls.take j).flatten++ls[j]:=by
 rw[Uaf h,List.flatten_append]
 simp
theorem ZnG{α:Type}{ls:List (List α)}{j:Nat}:((ls.take j).flatten).length<=ls.flatten.length:=by
 have h:=congrArg (fun l=>l.flatten.length) (Ua8 j ls)
 simp only[List.flatten_append,Uad] at h
 omega
abbrev eSS(l:List ByteArray):List Tr:=[Tr.sl (rS l)]
theorem ZnH(ls:List (List ByteArray))(hl:ls.length<=4294967296)(ht:ls.flatten.length<=4294967296)(lvl:Nat)(S:Zc):Sem Uch ZcB lvl [.tr (.sl (ls.map eSS))] S (.ow 1 (rS ls.flatten) true) S:=by
 refine Zi ZBt trivial ?_
 simp only[ZlU,Uaa,Zb,↓reduceIte,Nat.reduceEqDiff,Nat.reduceMul,reduceCtorEq,Nat.reduceAdd,Nat.reduceSub,Nat.reduceLeDiff,Nat.reduceLT,Int.reduceToNat,Int.reduceLE,Int.reduceLT,Za,men]
 refine ZJ (α:=Unit) ls.length (fun j _=>[(3,iI ((ls.take j).flatten).length),(11,iI j)]) (fun _ _=>[]) (fun _ _=>True) () (by simp only[Zb,↓reduceIte,Nat.reduceEqDiff,Nat.reduceMul,reduceCtorEq,Nat.reduceAdd,Nat.reduceSub,Nat.reduceLeDiff,Nat.reduceLT,Int.reduceToNat,Int.reduceLE,Int.reduceLT,Za,men]) (by (simp only[Zb,↓reduceIte,Nat.reduceEqDiff,Nat.reduceMul,reduceCtorEq,Nat.reduceAdd,Nat.reduceSub,Nat.reduceLeDiff,Nat.reduceLT,Int.reduceToNat,Int.reduceLE,Int.reduceLT,Za,men]) <;> rfl) trivial ?_
 intro j _ hj _
 simp only[Uaa,Zb,↓reduceIte,Nat.reduceEqDiff,Nat.reduceMul,reduceCtorEq,Nat.reduceAdd,Nat.reduceSub,Nat.reduceLeDiff,Nat.reduceLT,Int.reduceToNat,Int.reduceLE,Int.reduceLT,Za,men]
 refine Zs (fun hlt=>?_) (fun hge=>?_)
 ·have hja:j<ls.length:=by omega
  have ga:=Z6 (c:=eSS) hja
  have h1:=ZnF (ls:=ls) hja
  have h2:=ZnG (ls:=ls) (j:=j+1)
  rw[h1,Uad] at h2
  simp only[ga,Uaa,Zb,↓reduceIte,Nat.reduceEqDiff,Nat.reduceMul,reduceCtorEq,Nat.reduceAdd,Nat.reduceSub,Nat.reduceLeDiff,Nat.reduceLT,Int.reduceToNat,Int.reduceLE,Int.reduceLT,Za,men]
  refine⟨by rw[Zg];omega,?_⟩
  rw[if_neg (by omega)]
  exact⟨by rw[Zg];omega,Zu () hja (by rw[h1,Uad];rfl) trivial⟩
 ·have:j=ls.length:=by omega
  subst this
  rw[Uaw]
  refine ZuU (ZDG _ ht _ _) ?_
  simp only[Uaa,Zb,↓reduceIte,Nat.reduceEqDiff,Nat.reduceMul,reduceCtorEq,Nat.reduceAdd,Nat.reduceSub,Nat.reduceLeDiff,Nat.reduceLT,Int.reduceToNat,Int.reduceLE,Int.reduceLT,Za,men]
  refine ZJ (α:=Unit) ls.length (fun j _=>[(6,.hd (lvl,768) [] 0 ((ls.take j).flatten).length none ((ls.take j).flatten).length),(27,iI j)]) (fun j _=>[(768,.ar 1 (rS (ls.take j).flatten) true ((ls.take j).flatten).length 0)]) (fun _ _=>True) () (by simp only[Zb,↓reduceIte,Nat.reduceEqDiff,Nat.reduceMul,reduceCtorEq,Nat.reduceAdd,Nat.reduceSub,Nat.reduceLeDiff,Nat.reduceLT,Int.reduceToNat,Int.reduceLE,Int.reduceLT,Za,men]) (by (simp only[Zb,↓reduceIte,Nat.reduceEqDiff,Nat.reduceMul,reduceCtorEq,Nat.reduceAdd,Nat.reduceSub,Nat.reduceLeDiff,Nat.reduceLT,Int.reduceToNat,Int.reduceLE,Int.reduceLT,Za,men]) <;> rfl) trivial ?_
  intro j _ hj _
  simp only[Uaa,Zb,↓reduceIte,Nat.reduceEqDiff,Nat.reduceMul,reduceCtorEq,Nat.reduceAdd,Nat.reduceSub,Nat.reduceLeDiff,Nat.reduceLT,Int.reduceToNat,Int.reduceLE,Int.reduceLT,Za,men]
  refine Zs (fun hlt2=>?_) (fun hge2=>?_)
  ·have hja:j<ls.length:=by omega
   have ga:=Z6 (c:=eSS) hja
   have h1:=ZnF (ls:=ls) hja
   have h2:=ZnG (ls:=ls) (j:=j+1)
   rw[h1,Uad] at h2
   simp only[ga,Qz,QA,Uaa,Zb,↓reduceIte,Nat.reduceEqDiff,Nat.reduceMul,reduceCtorEq,Nat.reduceAdd,Nat.reduceSub,Nat.reduceLeDiff,Nat.reduceLT,Int.reduceToNat,Int.reduceLE,Int.reduceLT,Za,men]
   exact⟨by omega,by rw[Zg];omega,Zu () hja (by rw[h1,Uad,Us,UbG (UbH _ _)];rfl) trivial⟩
  ·have:j=ls.length:=by omega
   subst this
   rw[Uaw]
theorem WV{a b:TBigraph}:(Jh a b).length<=a.outer.length+b.outer.length:=UaI Dv (by rw[Uad];omega)
def ZDH(sig:List TControl)(a b:TBigraph):Prop:=bigOK sig a/\bigOK sig b/\a.inner.length=0/\(a.sites.length:Int)=b.roots
def Wh(sig:List TControl)(a b:TBigraph):Prop:=ZDH sig a b/\bigOK sig (YO a b)
theorem ZnI{sig:List TControl}{a b:TBigraph}(ha:bigOK sig a)(hb:bigOK sig b):Jj 4294967290 (YO a b):=by
 have a4:=ha.small.outer;have b4:=hb.small.outer
 have hl:=WV (a:=a) (b:=b)
 refine Zny ha hb (by simp) (by omega) fun y hy=>?_
 rcases Uap.1 (setS_mem.1 hy) with hy | hy
 ·have:=QB ha.outer hy;omega
 ·have:=QB hb.outer hy;omega
theorem ZnJ{sig:List TControl}{a b:TBigraph}(ha:bigOK sig a)(hb:bigOK sig b)(hf:(a.sites.length:Int)=b.roots)(fa:JJ a)(fb:JJ b):JJ (YO a b):=by
 have a4:=ha.small.outer;have b4:=hb.small.outer
 have ea:=ha.edges;have eb:=hb.edges
 have ra:=ha.roots
 have hl:=WV (a:=a) (b:=b)
 refine Znz ha hb fa fb (by unfold sm;omega) (by simp) (fun l hl2=>ZnD ha hb (by omega) l hl2) (fun l hl2=>ZnA ha hb (fun x hx=>?_) hl2) fun p h1 h2=>ZDz ha hb hf h1 h2
 have:=Uw (l:=Jh a b) (s:=x)
 have:=WT (l:=Jh a b) (s:=x)
 unfold sm
 omega
open Classical in
noncomputable def Zhc(sig:List TControl)(a b:TBigraph):TBigraph:=if Wh sig a b then YO a b else JL
noncomputable def Zhd(sig:List TControl)(a b:TBigraph):Bool:=dc (Wh sig a b)
theorem ZDI(sig:List TControl)(a b:TBigraph)(ha:bigOK sig a)(hb:bigOK sig b)(hf:(a.sites.length:Int)=b.roots)(lvl:Nat)(S:Zc):Sem Uch Zf2 lvl [.ag ((Ze a).map .tr),.ag ((Ze b).map .tr)] S (Wf (YO a b) false) S:=by
 have ea:=ha.edges;have eb:=hb.edges
 have sa:=ha.small;have sb:=hb.small
 have a4:=sa.outer;have b4:=sb.outer
 have hol:=WV (a:=a) (b:=b)
 refine Zi ZAQ (by simp [low,men,Za]) ?_
 simp only[Zlf,Ze,Qz,QA,UbV,Uaa,Zb,↓reduceIte,Nat.reduceEqDiff,Nat.reduceMul,reduceCtorEq,Nat.reduceAdd,Nat.reduceSub,Nat.reduceLeDiff,Nat.reduceLT,Int.reduceToNat,Int.reduceLE,Int.reduceLT,Za,men]
 rw[show cut (rS a.outer++rS b.outer) 0 (a.outer.length+b.outer.length)=rS (a.outer++b.outer) from by
  rw[<-Us]
  exact Yh (by simp [rS])]
 refine⟨by omega,by omega,by simp [rS],Zf (Zdo (a.outer++b.outer) (by rw[Uad];omega)) ?_⟩
 rw[show ZM (a.outer++b.outer)=Jh a b from rfl]
 simp only[Ze,Uaa,Zb,↓reduceIte,Nat.reduceEqDiff,Nat.reduceMul,reduceCtorEq,Nat.reduceAdd,Nat.reduceSub,Nat.reduceLeDiff,Nat.reduceLT,Int.reduceToNat,Int.reduceLE,Int.reduceLT,Za,men]
 refine⟨by rw[Zg];omega,?_⟩
 refine Zf (Za7 a.outer (a.edges+b.edges) (Jh a b) (by omega) (by omega) (by omega)) ?_
 simp only[Ze,Uaa,Zb,↓reduceIte,Nat.reduceEqDiff,Nat.reduceMul,reduceCtorEq,Nat.reduceAdd,Nat.reduceSub,Nat.reduceLeDiff,Nat.reduceLT,Int.reduceToNat,Int.reduceLE,Int.reduceLT,Za,men]
 refine Zf (Za7 b.outer (a.edges+b.edges) (Jh a b) (by omega) (by omega) (by omega)) ?_
 simp only[Ze,Uaa,Zb,↓reduceIte,Nat.reduceEqDiff,Nat.reduceMul,reduceCtorEq,Nat.reduceAdd,Nat.reduceSub,Nat.reduceLeDiff,Nat.reduceLT,Int.reduceToNat,Int.reduceLE,Int.reduceLT,Za,men]
 have q:=ZDy sig a b (Jh a b) (a.outer.map fun x=>a.edges+b.edges+Jf (Jh a b) x) (b.outer.map fun x=>a.edges+b.edges+Jf (Jh a b) x) ha hb hf (by simp) (by simp) (by omega) (V6 a (a.edges+b.edges) (Jh a b)) (Q3 a b fun x=>a.edges+b.edges+Jf (Jh a b) x) (fun n hn=>Znq hn) (fun n hn=>Znr hn)
 rw[show Zdp a b (Jh a b) (V6 a (a.edges+b.edges) (Jh a b)) (Q3 a b fun x=>a.edges+b.edges+Jf (Jh a b) x)=YO a b from rfl] at q
 simp only[Ze,Wf,Uai,Uaj] at q
 refine Zf q ?_
 simp only[Ze,Uaa,Zb,↓reduceIte,Nat.reduceEqDiff,Nat.reduceMul,reduceCtorEq,Nat.reduceAdd,Nat.reduceSub,Nat.reduceLeDiff,Nat.reduceLT,Int.reduceToNat,Int.reduceLE,Int.reduceLT,Za,men]
theorem ZDJ(sig:List TControl)(a b:TBigraph)(hn:sig.length<=4294967296)(hbs:∀ y∈sig,Jc 4294967296 y)(hba:Jj 4294967296 a)(hbb:Jj 4294967296 b)(fa:JJ a)(fb:JJ b)(lvl:Nat)(S:Zc):Sem Uch Zf8 lvl [.tr (.sl (sig.map Zr)),.ag ((Ze a).map .tr),.ag ((Ze b).map .tr)] S (.tu [Zw (Zhc sig a b),iB (Zhd sig a b)]) S:=by
 refine Zi ZAX (by simp [Zw,low,men,Za]) ?_
 simp only[Zln,Ze,Zb,↓reduceIte,Nat.reduceEqDiff,Nat.reduceMul,reduceCtorEq,Nat.reduceAdd,Nat.reduceSub,Nat.reduceLeDiff,Nat.reduceLT,Int.reduceToNat,Int.reduceLE,Int.reduceLT,Za,men]
 have i1:=Uu sig a hn hbs hba
 have i2:=Uu sig b hn hbs hbb
 simp only[Ze,Uai,Uaj] at i1 i2
 refine Zf i1 ?_
 unfold Zhc Zhd
 cases h1:dc (bigOK sig a)
 ·have hno:¬ Wh sig a b:=fun g=>dc_not.1 h1 g.1.1
  rw[if_neg hno,Zt hno]
  simp only[Zb,↓reduceIte,Nat.reduceEqDiff,Nat.reduceMul,reduceCtorEq,Nat.reduceAdd,Nat.reduceSub,Nat.reduceLeDiff,Nat.reduceLT,Int.reduceToNat,Int.reduceLE,Int.reduceLT,Za,men]
  rfl
 have hA:=dc_iff.1 h1
 simp only[Ze,Zb,↓reduceIte,Nat.reduceEqDiff,Nat.reduceMul,reduceCtorEq,Nat.reduceAdd,Nat.reduceSub,Nat.reduceLeDiff,Nat.reduceLT,Int.reduceToNat,Int.reduceLE,Int.reduceLT,Za,men]
 refine Zf i2 ?_
 cases h2:dc (bigOK sig b)
 ·have hno:¬ Wh sig a b:=fun g=>dc_not.1 h2 g.1.2.1
  rw[if_neg hno,Zt hno]
  simp only[Zb,↓reduceIte,Nat.reduceEqDiff,Nat.reduceMul,reduceCtorEq,Nat.reduceAdd,Nat.reduceSub,Nat.reduceLeDiff,Nat.reduceLT,Int.reduceToNat,Int.reduceLE,Int.reduceLT,Za,men]
  rfl
 have hB:=dc_iff.1 h2
 have sa:=hA.small;have sb:=hB.small
 have a2:=sa.sites;have a3:=sa.inner;have a4:=sa.outer;have b4:=sb.outer
 have ra:=hA.roots;have rb:=hB.roots
 simp only[Ze,Uaa,Zb,↓reduceIte,Nat.reduceEqDiff,Nat.reduceMul,reduceCtorEq,Nat.reduceAdd,Nat.reduceSub,Nat.reduceLeDiff,Nat.reduceLT,Int.reduceToNat,Int.reduceLE,Int.reduceLT,Za,men]
 by_cases h3:(0:Int)<a.inner.length
 ·have hno:¬ Wh sig a b:=fun g=>by have:=g.1.2.2.1;omega
  rw[if_neg hno,Zt hno]
  simp only[h3,Uaa,Zb,↓reduceIte,Nat.reduceEqDiff,Nat.reduceMul,reduceCtorEq,Nat.reduceAdd,Nat.reduceSub,Nat.reduceLeDiff,Nat.reduceLT,Int.reduceToNat,Int.reduceLE,Int.reduceLT,Za,men]
  rfl
 by_cases h4:(a.sites.length:Int)=b.roots
 ·simp only[h3,h4,Uaa,Zb,↓reduceIte,Nat.reduceEqDiff,Nat.reduceMul,reduceCtorEq,Nat.reduceAdd,Nat.reduceSub,Nat.reduceLeDiff,Nat.reduceLT,Int.reduceToNat,Int.reduceLE,Int.reduceLT,Za,men]
  have hfl:[a.outer,b.outer].flatten=a.outer++b.outer:=by simp
  have hc:=ZnH [a.outer,b.outer] (by simp) (by rw[hfl,Uad];omega)
  rw[hfl] at hc
  refine⟨by simp,by simp,Zf hc ?_⟩
  simp only[Ze,Uaa,Zb,↓reduceIte,Nat.reduceEqDiff,Nat.reduceMul,reduceCtorEq,Nat.reduceAdd,Nat.reduceSub,Nat.reduceLeDiff,Nat.reduceLT,Int.reduceToNat,Int.reduceLE,Int.reduceLT,Za,men]
  have qj:=ZnC sig a b (YO a b) hA hB a.roots [] (by simp) (a.outer++b.outer) (by rw[Uad];omega) ZcC [Ze a] (fun p=>g0 a.sites (-1-p).toNat) Dj [] (fun s=>(0,s)) (fun p h1 h2 lvl S=>ZDF a p (by omega) (by omega) lvl S) (fun x _ lvl S=>ZnE x lvl S) (by rw[ZDE];exact ZDx hA hB)
  simp only[Ze,Zhb,Uai,Uaj] at qj
  refine Zf qj ?_
  simp only[Ze,Uaa,Zb,↓reduceIte,Nat.reduceEqDiff,Nat.reduceMul,reduceCtorEq,Nat.reduceAdd,Nat.reduceSub,Nat.reduceLeDiff,Nat.reduceLT,Int.reduceToNat,Int.reduceLE,Int.reduceLT,Za,men]
  have qv:=Zdj sig (YO a b) hn hbs (ZnI hA hB) (ZnJ hA hB h4 fa fb)
  simp only[Ze,Uai,Uaj] at qv
  refine Zf qv ?_
  cases h6:dc (bigOK sig (YO a b))
  ·have hno:¬ Wh sig a b:=fun g=>dc_not.1 h6 g.2
   rw[if_neg hno,Zt hno,if_neg (dc_not.1 h6)]
   simp only[Zw,Uaa,Zb,↓reduceIte,Nat.reduceEqDiff,Nat.reduceMul,reduceCtorEq,Nat.reduceAdd,Nat.reduceSub,Nat.reduceLeDiff,Nat.reduceLT,Int.reduceToNat,Int.reduceLE,Int.reduceLT,Za,men]
   rfl
  ·have hyes:Wh sig a b:=⟨⟨hA,hB,by omega,h4⟩,dc_iff.1 h6⟩
   rw[if_pos hyes,ZY hyes,if_pos (dc_iff.1 h6)]
   simp only[Zw,Uaa,Zb,↓reduceIte,Nat.reduceEqDiff,Nat.reduceMul,reduceCtorEq,Nat.reduceAdd,Nat.reduceSub,Nat.reduceLeDiff,Nat.reduceLT,Int.reduceToNat,Int.reduceLE,Int.reduceLT,Za,men]
 ·have hno:¬ Wh sig a b:=fun g=>h4 g.1.2.2.2
  rw[if_neg hno,Zt hno]
  simp only[h3,h4,Uaa,Zb,↓reduceIte,Nat.reduceEqDiff,Nat.reduceMul,reduceCtorEq,Nat.reduceAdd,Nat.reduceSub,Nat.reduceLeDiff,Nat.reduceLT,Int.reduceToNat,Int.reduceLE,Int.reduceLT,Za,men]
  rfl
def Yi(x y:TWire):Prop:=ltS x.name y.name
open Classical in
noncomputable def QD:List TWire->TWire->List TWire
 | [],w=>[w]
 | x::r,w=>if Yi x w then x::QD r w else w::x::r
theorem ZnK{w:TWire}:∀{O:List TWire} {k:Nat},k<=O.length->(∀ y∈O.take k,Yi y w)->(∀ h:k<O.length,¬ Yi O[k] w)->QD O w=O.take k++([w]++O.drop k)
 | [],0,_,_,_=>rfl
 | [],k+1,h,_,_=>by simp at h
 | x::r,0,_,_,h2=>by
  have:¬ Yi x w:=h2 (by simp)
  rw[QD,if_neg this]
  rfl
 | x::r,k+1,h,h1,h2=>by
  have:Yi x w:=h1 x (by simp)
  rw[QD,if_pos this,ZnK (k:=k) (by simpa using h) (fun y hy=>h1 y (by simp [hy])) (fun h3=>by
   have:=h2 (by simpa using h3)
   simpa using this)]
  simp
theorem insW_perm{w:TWire}:∀{O:List TWire},(QD O w).Perm (w::O)
 | []=>List.Perm.refl _
 | x::r=>by
  rw[QD]
  split
  ·exact(List.Perm.cons x insW_perm).trans (List.Perm.swap w x r)
  ·exact List.Perm.refl _
theorem ZnL{w:TWire}:∀{O:List TWire},O.Pairwise Yi->(∀ x∈O,x.name≠w.name)->(QD O w).Pairwise Yi
 | [],_,_=>List.pairwise_singleton ..
 | x::r,h,hn=>by
  have hc:=Ua5.1 h
  rw[QD]
  split
  ·rename_i hlt
   refine Ua5.2 ⟨fun y hy=>?_,ZnL hc.2 fun z hz=>hn z (by simp [hz])⟩
   rcases UaE.1 (insW_perm.mem_iff.1 hy) with rfl | hy
   ·exact hlt
   ·exact hc.1 y hy
  ·rename_i hlt
   have hwx:Yi w x:=by
    rcases ordsS.tri x.name w.name with q | q | q
    ·exact absurd q hlt
    ·exact absurd q (hn x (by simp))
    ·exact q
   refine Ua5.2 ⟨fun y hy=>?_,h⟩
   rcases UaE.1 hy with rfl | hy
   ·exact hwx
   ·exact ordsS.tr _ _ _ hwx (hc.1 y hy)
noncomputable def YH(a b:List TWire):List TWire:=b.foldl QD a
theorem wjoin_perm:∀{b a:List TWire},(YH a b).Perm (a++b)
 | [],a=>by simp [YH]
 | w::r,a=>by
  have h:=wjoin_perm (b:=r) (a:=QD a w)
  refine h.trans ?_
  refine(insW_perm.append_right r).trans ?_
  exact List.perm_middle.symm
theorem Zdt{a b:List TWire}:(YH a b).length=a.length+b.length:=by rw[wjoin_perm.length_eq,Uad]
theorem ZDK{a b:List TWire}{j:Nat}(h:j<b.length):YH a (b.take (j+1))=QD (YH a (b.take j)) b[j]:=by
 unfold YH
 rw[Uaf h,List.foldl_append]
 rfl
theorem ZnM:∀{b a:List TWire},a.Pairwise Yi->b.Pairwise Yi->(∀ x∈a,∀ y∈b,x.name≠y.name)->(YH a b).Pairwise Yi
 | [],a,ha,_,_=>ha
 | w::r,a,ha,hb,hd=>by
  have hc:=Ua5.1 hb
  refine ZnM (b:=r) (a:=QD a w) (ZnL ha fun x hx=>hd x hx w (by simp)) hc.2 fun x hx y hy=>?_
  rcases UaE.1 (insW_perm.mem_iff.1 hx) with rfl | hx
  ·intro e
   have:=hc.1 y hy
   unfold Yi at this
   rw[e] at this
   exact ordsS.irr _ this
  ·exact hd x hx y (by simp [hy])
theorem ZnN{l:List TWire}{j:Nat}:cut (l.map ZO) 0 (j-0)=(l.take j).map ZO:=by simp [cut,UbK]
theorem ZnO{l:List TWire}{j:Nat}:cut (l.map ZO) j (l.length-j)=(l.drop j).map ZO:=by
 simp only[cut,<-List.map_drop]
 rw[Uau (by rw[Uaa,UaW];omega)]
theorem ZnP{a b:List TWire}{x:TWire}:a.map ZO++[[Tr.v (Value.string x.name),Tr.v (Value.int .i64 x.link)]]++b.map ZO=(a++([x]++b)).map ZO:=by simp [ZO]
theorem ZDL(a b:List TWire)(hl:a.length+b.length<=4294967290)(lvl:Nat)(S:Zc):Sem Uch Zgl lvl [.tr (.sl (a.map ZO)),.tr (.sl (b.map ZO))] S (.ow 2 ((YH a b).map ZO) true) S:=by
 refine Zi ZBo (by simp [low,men,Za]) ?_
 simp only[ZlP,Za1,Za2,UbV,Uaa,Zb,seval,Za,men]
 refine⟨by omega,?_⟩
 refine ZJ (α:=Unit) b.length (fun j _=>[(5,.hd (lvl,160) [] 0 (YH a (b.take j)).length none (YH a (b.take j)).length),(6,iI j)]) (fun j _=>[(160,.ar 2 ((YH a (b.take j)).map ZO) true (YH a (b.take j)).length 0)]) (fun _ _=>True) () (by simp only[Zb,seval,Za,men]) (by simp only[List.take_zero,YH,List.foldl_nil]; (simp only[Zb,seval,Za,men]) <;> rfl) trivial ?_
 intro j _ hj _
 simp only[Uaa,Zb,seval,Za,men]
 refine Zs (fun hlt=>?_) (fun hge=>?_)
 ·have hja:j<b.length:=by omega
  have ga:=Z6 (c:=ZO) hja
  obtain⟨O,hO⟩:∃ O,O=YH a (b.take j):=⟨_,rfl⟩
  have hOl:O.length=a.length+j:=by rw[hO,Zdt,Uam];omega
  have hsucc:=ZDK (a:=a) hja
  rw[<-hO] at hsucc
  rw[<-hO]
  refine ZJ (α:=Unit) O.length (fun k _=>[(7,iI k)]) (fun _ _=>[]) (fun k _=>∀ y∈O.take k,Yi y b[j]) () (by simp only[Zb,seval,Za,men]) (by (simp only[Zb,seval,Za,men]) <;> rfl) (by simp) ?_
  intro k _ hk hK
  have hput:=ZnK (w:=b[j]) hk hK
  have hpl:(O.take k++([b[j]]++O.drop k)).length=O.length+1:=by
   simp only[Uad,Uam,UaW,List.length_cons,List.length_nil]
   omega
  have hm:min k O.length=k:=by omega
  have hq1:k+1+(O.length-k)=O.length+1:=by omega
  have hq2:max (max (max 0 k) (k+1)) (O.length+1)=O.length+1:=by omega
  have hq3:k+(O.length-k)=O.length:=by omega
  have hfit:ZW .i64 ((j:Int)+1):=by rw[Zg];omega
  simp only[Uaa,Zb,seval,Za,men]
  refine Zs (fun hlt2=>?_) (fun hge2=>?_)
  ·have hka:k<O.length:=by omega
   have gk:=Z6 (c:=ZO) hka
   simp only[ga,gk,ZO,hja,hka,hm,hq1,hq2,hq3,ZnN,ZnO,Za1,Za2,Uad,Uam,UaW,Uaa,Zb,seval,Za,men]
   refine Zs (fun h1=>?_) (fun h1=>?_)
   ·exact⟨by rw[Zg];omega,Zu () hka rfl fun y hy=>by
     rw[Uaf hka] at hy
     rcases Uap.1 hy with hy | hy
     ·exact hK y hy
     ·rw[UaN.1 hy];exact h1⟩
   ·have hp:=hput fun _=>h1
    exact⟨by omega,by omega,by omega,by omega,by omega,by omega,by omega,by omega,hfit,Zu () hja (by rw[hsucc,hp,hpl,<-ZnP];rfl) trivial⟩
  ·have:k=O.length:=by omega
   subst this
   simp only[ga,ZO,hja,hm,hq1,hq2,hq3,ZnN,ZnO,Za1,Za2,Uad,Uam,UaW,Uaa,Zb,seval,Za,men]
   have hp:=hput fun h=>absurd h (by omega)
   rw[Uaw] at hp hpl
   exact⟨by omega,by omega,by omega,by omega,by omega,hfit,Zu () hja (by rw[hsucc,hp,hpl,<-ZnP];rfl) trivial⟩
 ·have:j=b.length:=by omega
  subst this
  rw[Uaw]
def Zhe(J:TBigraph)(w:List TWire):TBigraph:=⟨J.roots,J.nodes,J.sites,J.edges,J.outer,w⟩
def VL(a:TBigraph)(p:Int):Int:=if 0<=p then p+a.nodes.length else p-a.roots
noncomputable def Qh(a b:TBigraph):List Int:=V6 a (a.edges+b.edges) (Jh a b)
noncomputable def Q4(a b:TBigraph):List Int:=Q3 a b fun x=>a.edges+b.edges+Jf (Jh a b) x
noncomputable def Dw(a b:TBigraph):TBigraph:=Vg a b (a.roots+b.roots) a.sites (Jh a b) (fun l=>g0 (Qh a b) l.toNat) (fun l=>g0 (Q4 a b) l.toNat) (VL a)
noncomputable def J0(a b:TBigraph):TBigraph:=Zhe (Dw a b) (YH (a.inner.map (JF fun l=>g0 (Qh a b) l.toNat)) (b.inner.map (JF fun l=>g0 (Q4 a b) l.toNat)))
theorem ZDM{r:Int}{n:Nat}{k:Nat}(h:k<n):g0 (Jx r n) k = -1-r-(k:Int):=by
 show (Jx r n).getD k 0=_
 rw[UaH,Jx,Uas,Ubt h]
 simp
theorem ZnQ{a b:TBigraph}{n:Nat}(hn:b.roots=n){p:Int}(h:-b.roots<=p):J4 a.nodes.length (Jx a.roots n) p=VL a p:=by
 unfold J4 VL
 by_cases h0:0<=p
 ·rw[if_neg (by omega),if_pos h0]
 ·rw[if_pos (by omega),if_neg h0,ZDM (by omega)]
  omega
theorem ZDN{sig:List TControl}{a b:TBigraph}(h:bigOK sig b){n:Nat}(hn:b.roots=n){ls:List Int}:b.nodes.map (Q0 a.nodes.length (Jx a.roots n) ls)=b.nodes.map (fun x=>({ control:=x.control,parent:=VL a x.parent,links:=x.links.map fun l=>g0 ls l.toNat }:TNode)):=UaF fun x hx=>by
 obtain⟨k,hk,rfl⟩:=Uao hx
 unfold Q0
 rw[ZnQ hn (Yr h.roots.1 (h.nodes k hk).par)]
theorem ZDO{sig:List TControl}{a b:TBigraph}(h:bigOK sig b){n:Nat}(hn:b.roots=n):b.sites.map (J4 a.nodes.length (Jx a.roots n))=b.sites.map (VL a):=UaF fun p hp=>ZnQ hn (Yr h.roots.1 (h.sites p hp))
theorem ZDP(sig:List TControl)(a b:TBigraph)(ha:bigOK sig a)(hb:bigOK sig b)(lvl:Nat)(S:Zc):Sem Uch Zf4 lvl [.ag ((Ze a).map .tr),.ag ((Ze b).map .tr)] S (Wf (J0 a b) false) S:=by
 have ra:=ha.roots;have rb:=hb.roots
 have ea:=ha.edges;have eb:=hb.edges
 have sa:=ha.small;have sb:=hb.small
 have a1:=sa.nodes;have a2:=sa.sites;have a3:=sa.inner;have a4:=sa.outer
 have b1:=sb.nodes;have b2:=sb.sites;have b3:=sb.inner;have b4:=sb.outer
 have hol:=WV (a:=a) (b:=b)
 obtain⟨n,hn⟩:∃ n:Nat,a.roots=n:=⟨a.roots.toNat,by omega⟩
 obtain⟨n2,hn2⟩:∃ n:Nat,b.roots=n:=⟨b.roots.toNat,by omega⟩
 obtain⟨m,hm⟩:∃ m:Nat,a.edges=m:=⟨a.edges.toNat,by omega⟩
 obtain⟨k,hk⟩:∃ k:Nat,b.edges=k:=⟨b.edges.toNat,by omega⟩
 obtain⟨L,hL⟩:∃ L,L=Qh a b:=⟨_,rfl⟩
 obtain⟨R,hR⟩:∃ R,R=Q4 a b:=⟨_,rfl⟩
 have lenL:(L.length:Int)=a.edges+a.outer.length:=by rw[hL];exact Zns ea.1
 have lenR:(R.length:Int)=b.edges+b.outer.length:=by rw[hR];exact Zns eb.1
 have w1:rI (YD 0 m)++rI (a.outer.map fun x=>(m:Int)+k+Jf (Jh a b) x)=rI L:=by rw[<-Yf,hL,Qh,<-Znq hm,hm,hk]
 have w2:m+a.outer.length=L.length:=by omega
 have w3:rI (YD (m:Int) k)++rI (b.outer.map fun x=>(m:Int)+k+Jf (Jh a b) x)=rI R:=by rw[<-Yf,hR,Q4,<-Znr hk,hm,hk]
 have w4:k+b.outer.length=R.length:=by omega
 have w5:max m L.length=L.length:=by omega
 have w6:max k R.length=R.length:=by omega
 have c1:cut (rI L) 0 L.length=rI L:=Yh (by rw[Uaa])
 have c2:cut (rI R) 0 R.length=rI R:=Yh (by rw[Uaa])
 refine Zi ZAT (by simp [low,men,Za]) ?_
 simp only[Zlj,Ze,Qz,QA,hn,hn2,hm,hk,UbV,Uaa,Zb,seval,Za,men]
 rw[show cut (rS a.outer++rS b.outer) 0 (a.outer.length+b.outer.length)=rS (a.outer++b.outer) from by
  rw[<-Us]
  exact Yh (by simp [rS])]
 refine⟨by omega,by omega,by simp [rS],Zf (Zdo (a.outer++b.outer) (by rw[Uad];omega)) ?_⟩
 rw[show ZM (a.outer++b.outer)=Jh a b from rfl]
 simp only[Ze,hm,hk,Uaa,Zb,seval,Za,men]
 have c0:cut (rS (Jh a b)) 0 (Jh a b).length=rS (Jh a b):=Yh (by rw[Uaa])
 refine⟨by rw[Zg];omega,Zf (Za3 0 m (by omega) (by omega)) ?_⟩
 simp only[Ze,c0,hm,hk,fromN_len,Uaa,Zb,seval,Za,men]
 refine Zf (Za7 a.outer (m+k) (Jh a b) (by omega) (by omega) (by omega)) ?_
 simp only[Ze,c0,V4,V5,hm,hk,w1,w2,w5,fromN_len,Uad,Uaa,Zb,seval,Za,men]
 refine⟨by omega,Zf (Za3 m k (by omega) (by omega)) ?_⟩
 simp only[Ze,c0,hm,hk,fromN_len,Uaa,Zb,seval,Za,men]
 refine Zf (Za7 b.outer (m+k) (Jh a b) (by omega) (by omega) (by omega)) ?_
 simp only[Ze,c0,V4,V5,hm,hk,w3,w4,w6,fromN_len,Uad,Uaa,Zb,seval,Za,men]
 refine⟨by omega,Zf (Zdf 0 n (by omega) (by omega)) ?_⟩
 simp only[Ze,hm,hk,Uaa,Zb,seval,Za,men]
 refine Zf (Zdf n n2 (by omega) (by omega)) ?_
 simp only[Ze,hm,hk,c1,c2,Uaa,Zb,seval,Za,men]
 refine⟨by rw[Zg];omega,?_⟩
 have q2:=Za4 a 0 (Jx 0 n) L (by omega) (by omega) (Zdr ha (by rw[rootsN_len];omega) lenL)
 rw[Znv ha hn] at q2
 simp only[Ze,hn,hm,Uai,Uaj] at q2
 refine Zf q2 ?_
 simp only[Ze,hm,hk,c1,c2,Uaa,Zb,seval,Za,men]
 have q3:=Za4 b a.nodes.length (Jx a.roots n2) R (by omega) (by omega) (Zdr hb (by rw[rootsN_len];omega) lenR)
 rw[ZDN hb hn2] at q3
 simp only[Ze,hn,hn2,hk,Uai,Uaj] at q3
 refine Zf q3 ?_
 simp only[Ze,Znx,hm,hk,c1,c2,Uad,Uaa,Zb,seval,Za,men]
 refine⟨by omega,?_⟩
 have q4:=Du a 0 (Jx 0 n) (by omega) (by omega) (Zds ha (by rw[rootsN_len];omega))
 rw[Znw ha hn] at q4
 simp only[Ze,hn,hm,Uai,Uaj] at q4
 refine Zf q4 ?_
 simp only[Ze,hm,hk,c1,c2,Uad,Uaa,Zb,seval,Za,men]
 have q5:=Du b a.nodes.length (Jx a.roots n2) (by omega) (by omega) (Zds hb (by rw[rootsN_len];omega))
 rw[ZDO hb hn2] at q5
 simp only[Ze,hn,hn2,hk,Uai,Uaj] at q5
 refine Zf q5 ?_
 simp only[Ze,V4,V5,hm,hk,c1,c2,Uad,Uaa,Zb,seval,Za,men]
 refine⟨by omega,?_⟩
 have q6:=Zdg a L (by omega) (Zg9 ha lenL)
 simp only[Ze,hn,hm,Uai,Uaj] at q6
 refine Zf q6 ?_
 simp only[Ze,hm,hk,c1,c2,Uad,Uaa,Zb,seval,Za,men]
 have q7:=Zdg b R (by omega) (Zg9 hb lenR)
 simp only[Ze,hn2,hk,Uai,Uaj] at q7
 refine Zf q7 ?_
 simp only[Ze,hm,hk,c1,c2,Uad,Uaa,Zb,seval,Za,men]
 have q8:=ZDL (a.inner.map (WS L)) (b.inner.map (WS R)) (by rw[Uaa,Uaa];omega)
 refine Zf q8 ?_
 simp only[Ze,hm,hk,c1,c2,Zdt,Uad,Uaa,Zb,seval,Za,men]
 simp only[Wf,J0,Dw,Zhe,Vg,<-hL,<-hR,Uay,Yf,hn,hn2,hm,hk]
 rfl
end Go.Fd

namespace Go.Proofs
open Go.Shelf Go.RowKit Go.Lib Go.Sort
instance:Inhabited Go.Fd.TWire:=⟨⟨⟨#[]⟩,0⟩⟩
def Za9(w:Go.Fd.TWire):List Value:=[.string w.name,.int .i64 w.link]
def Wi(x y:Go.Fd.TWire):Int:=if Op.bytesLess x.name.data.toList y.name.data.toList then -1 else 1
set_option maxHeartbeats 1000000 in
theorem ZDQ(x y:Go.Fd.TWire)(W:World):Calls Tryz.prog 199 #[.agg #[.string x.name,.int .i64 x.link],.agg #[.string y.name,.int .i64 y.link]] W fun e w' => e = .returned (.int .i64 (Wi x y))/\∃ q os',w'=grow (W.drewN q) os':=by
 have hr:Wi x y=if Op.bytesLess x.name.toList y.name.toList then -1 else 1:=by
  unfold Wi
  rw[ByteArray.toList_eq,ByteArray.toList_eq]
 generalize Wi x y=r at hr ⊢
 go_enter Tryz.func199,Tryz.ntmps199
 go_wp2
 ·rename_i h
  rw[h] at hr
  have hr:r = -1:=hr
  subst hr
  go_ret
  exact⟨rfl,0,_,by rw[alloc_eq_grow,alloc_eq_grow,grow_grow];rfl⟩
 ·rename_i h
  rw[h] at hr
  have hr:r=1:=hr
  subst hr
  go_ret
  exact⟨rfl,0,_,by rw[alloc_eq_grow,alloc_eq_grow,grow_grow];rfl⟩
theorem Zdu(x y:Go.Fd.TWire):ltOf Wi x y=Op.bytesLess x.name.data.toList y.name.data.toList:=by
 unfold ltOf Wi
 cases Op.bytesLess x.name.data.toList y.name.data.toList <;> rfl
theorem ZDR:SWO (ltOf Wi) where
 irrefl x:=by rw[Zdu];exact Go.Fd.bl_irr _
 trans x y z h1 h2:=by
  rw[Zdu] at *
  exact Go.Fd.ordsS.tr _ _ _ h1 h2
 ntrans x y z h1 h2:=by
  rw[Zdu] at *
  have:=Go.Fd.ltS_tr z.name y.name x.name
  have k:¬ Go.Fd.ltS x.name z.name:=Go.Fd.ltS_tr z.name y.name x.name (by unfold Go.Fd.ltS;rw[h2];decide) (by unfold Go.Fd.ltS;rw[h1];decide)
  unfold Go.Fd.ltS at k
  simpa using k
theorem ZDS(blk off size:Nat)(w:World):CmpLays Tryz.prog 199 #[] Za9 2 Wi blk off size w :=
 fun _ _ _ _ x y=>ZDQ x y _
end Go.Proofs
namespace Go.Fd
open Go.Sort Go.Proofs
theorem ZnR:∀{x y:List TWire},x.Pairwise Yi->y.Pairwise Yi->x.Perm y->x=y
 | [],y,_,_,h=>(List.Perm.nil_eq h)
 | a::r,[],_,_,h=>by simp at h
 | a::r,b::t,hx,hy,h=>by
  have hcx:=List.pairwise_cons.1 hx
  have hcy:=List.pairwise_cons.1 hy
  have hab:a=b:=by
   have h1:a∈b::t:=h.mem_iff.1 (by simp)
   have h2:b∈a::r:=h.mem_iff.2 (by simp)
   rcases List.mem_cons.1 h1 with e | h1
   ·exact e
   ·rcases List.mem_cons.1 h2 with e | h2
    ·exact e.symm
    ·exact absurd (hcx.1 b h2) (ordsS.asym _ _ (hcy.1 a h1))
  subst hab
  rw[ZnR hcx.2 hcy.2 h.cons_inv]
theorem ZDT{x y:List TWire}(hy:y.Pairwise Yi)(hp:x.Perm y)(hx:∀ i j (hi:i<x.length) (hj:j<x.length),i<j -> ¬ Yi x[j] x[i]):x.Pairwise Yi:=by
 have hnd:x.Nodup:=hp.nodup_iff.2 (hy.imp fun {a b} h e=>by subst e;exact ordsS.irr _ h)
 refine List.pairwise_iff_getElem.2 fun i j hi hj hij=>?_
 rcases ordsS.tri (x[i]).name (x[j]).name with q | q | q
 ·exact q
 ·have h1:x[i]∈y:=hp.mem_iff.1 (List.getElem_mem hi)
  have h2:x[j]∈y:=hp.mem_iff.1 (List.getElem_mem hj)
  obtain⟨a,ha,ea⟩:=List.getElem_of_mem h1
  obtain⟨b,hb,eb⟩:=List.getElem_of_mem h2
  have hpg:=List.pairwise_iff_getElem.1 hy
  have hab:a=b:=by
   rcases Nat.lt_trichotomy a b with g | g | g
   ·have:=hpg a b ha hb g
    unfold Yi at this
    rw[ea,eb,q] at this
    exact absurd this (ordsS.irr _)
   ·exact g
   ·have:=hpg b a hb ha g
    unfold Yi at this
    rw[ea,eb,q] at this
    exact absurd this (ordsS.irr _)
  subst hab
  have e:x[i]=x[j]:=ea.symm.trans eb
  have:=List.pairwise_iff_getElem.1 hnd i j hi hj hij
  exact absurd e this
 ·exact absurd q (hx i j hi hj hij)
theorem ZDU(lvl:Nat)(S:Zc)(id:Zd)(hw:Nat)(hid:id.1<lvl):Sem Tryz.prog Zgv lvl [.hd id [] 0 0 none hw,iI 0,iI 0,.fn Up []] S (.tu []) S:=by
 have hne:id.1≠lvl:=by omega
 refine Zi ZBU trivial ?_
 simp only[Zmn,Zb,seval,Za,men]
 refine⟨by rw[Zg];omega,?_⟩
 refine Yn (α:=Unit) 0 (fun _ _=>⟨lvl,[(0,.hd id [] 0 0 none hw),(1,iI 0),(2,iI 0),(3,.fn Up []),(8,iI 1)],[],S⟩) (fun _ _=>True) () ⟨by simp only[Jv hne,Zb,seval,Za,men],by (simp only[Zb,seval,Za,men]) <;> rfl⟩ trivial ?_
 intro _ _ _ _
 simp only[Zb,seval,Za,men]
theorem ZDV(r:Int)(lvl:Nat)(S:Zc)(id:Zd)(hw:Nat)(hid:id.1<lvl):Sem Tryz.prog ZaM lvl [.hd id [] 0 0 none hw,iI 0,iI 0,iI r,.fn Up []] S (.tu []) S:=by
 have hne:id.1≠lvl:=by omega
 refine Zi ZBR trivial ?_
 simp only[Zmi,Zb,seval,Za,men]
 refine Yn (α:=Unit) 0 (fun _ _=>⟨lvl,[(0,.hd id [] 0 0 none hw),(1,iI 0),(2,iI 0),(3,iI r),(4,.fn Up []),(10,iB true),(11,iB true)],[],S⟩) (fun _ _=>True) () ⟨by simp only[Jv hne,Zb,seval,Za,men],by (simp only[Zb,seval,Za,men]) <;> rfl⟩ trivial ?_
 intro _ _ _ _
 simp only[Zb,seval,Za,men]
 refine⟨by rw[Zg];omega,?_⟩
 simp only[Vl]
 refine X5 [] S (fun _ _=>rfl) (ZDU (lvl+1) (Zy lvl [] S) id hw (by omega)) ?_
 simp only[Jv hne,Zb,seval,Za,men]
theorem ZDW(lvl:Nat)(S:Zc)(id:Zd)(u:Bool)(hw ver:Nat)(hid:id.1<lvl)(hS:S id=some (.ar 2 [] u hw ver)):Sem Tryz.prog ZcJ lvl [.hd id [] 0 0 none hw,.fn Up []] S (.tu []) (Zl S id (.ar 2 [] u hw ver)):=by
 rw[X6 hS]
 have hne:id.1≠lvl:=by omega
 obtain⟨r,hr⟩:=ZgR (v:=0) (by omega) (by omega)
 refine Zi ZBF trivial ?_
 simp only[Zl6,Zb,seval,Za,men]
 refine⟨⟨by decide,by decide⟩,Zf hr ?_⟩
 simp only[Zb,seval,Za,men]
 refine X5 [] S (fun _ _=>rfl) (ZDV r (lvl+1) (Zy lvl [] S) id hw (by omega)) ?_
 simp only[Jv hne,Zb,seval,Za,men]
theorem ZDX(l ys:List TWire)(hp:ys.Perm l)(hs:ys.Pairwise Yi)(hl:l.length<=4294967296)(lvl:Nat)(S:Zc)(id:Zd)(u:Bool)(hw ver:Nat)(hid:id.1<lvl)(hS:S id=some (.ar 2 (l.map ZO) u hw ver)) :
  Sem Tryz.prog ZcJ lvl [.hd id [] 0 l.length none hw,.fn Up []] S (.tu []) (Zl S id (.ar 2 (ys.map ZO) u hw ver)):=by
 by_cases h0:l=[]
 ·subst h0
  have hy:ys=[]:=List.length_eq_zero_iff.1 (by simpa using hp.length_eq)
  subst hy
  exact ZDW lvl S id u hw ver hid hS
 ·have hpos:0<l.length:=List.length_pos_iff.2 h0
  refine ZyP (enc:=Za9) (k:=2) (fun _=>rfl) (by decide) (Xs (by kernel_rfl)) hid hS (fun x v hv=>by simp [Za9] at hv;rcases hv with rfl | rfl <;> rfl) hp.length_eq hpos fun b cap w hH hb=>?_
  have hcon:=AnyQ.slices_SortFunc Tryz.sortW 2 Tryz.isAgg107 Tryz.sizeOf107 Za9 (fun _=>rfl) (fun x v hv=>by simp [Za9] at hv;rcases hv with rfl | rfl <;> rfl) Wi ZDR 199 #[] b 0 cap l.toArray w (enters_of Tryz.func199 (by kernel_rfl) rfl) (ZDS b 0 _ w) hH hb (by simp;omega)
  have hsz:l.toArray.size=l.length:=by simp
  rw[hsz] at hcon
  refine Calls.mono hcon ?_
  rintro e w' ⟨rfl,d',n,os,hperm,hsort,rfl⟩
  refine⟨rfl,n,os,?_⟩
  have hds:d'.size=l.length:=by rw[hperm.1,hsz]
  have hd:d'.toList=ys:=by
   have h1:d'.toList.Perm l:=by
    have:=hperm.2.2
    rw[show d'.extract 0 l.length=d' from by rw[<-hds];exact Array.extract_size,show l.toArray.extract 0 l.length=l.toArray from by rw[<-hsz];exact Array.extract_size] at this
    simpa using this
   refine ZnR (ZDT hs (h1.trans hp.symm) fun i j hi hj hij hlt=>?_) hs (h1.trans hp.symm)
   have hjj:j<d'.size:=by simpa using hj
   have hii:i<d'.size:=by simpa using hi
   have:=hsort i j (Nat.zero_le _) hij (by omega)
   rw[Zdu] at this
   have h2:d'[j]! = d'.toList[j]:=by simp [hjj]
   have h3:d'[i]! = d'.toList[i]:=by simp [hii]
   rw[h2,h3] at this
   unfold Yi ltS at hlt
   rw[this] at hlt
   cases hlt
  rw[<-hd]
end Go.Fd

namespace Go.Fd
open Go.Proofs.Tryz renaming prog->Uch
set_option maxRecDepth 20000
theorem ZnS:Zj Uch Zct (QY 1 none)=true:=by kernel_rfl
theorem ZnT:Zj Uch ZaD (WR Zct)=true:=by kernel_rfl
theorem ZDY(b:List ByteArray)(s:ByteArray)(hb:b.length<=4294967296)(lvl:Nat)(S:Zc):Sem Uch ZcG lvl [iS s,.ta [Tr.sl (rS b)]] S (iB (dc (s∈b))) S:=by
 refine Zi ZBC trivial ?_
 simp only[Zl3,Zb,↓reduceIte,Nat.reduceEqDiff,Nat.reduceMul,reduceCtorEq,Nat.reduceAdd,Nat.reduceSub,Nat.reduceLeDiff,Nat.reduceLT,Int.reduceToNat,Int.reduceLE,Int.reduceLT,Za,men]
 refine Zf (ZgX b s hb) ?_
 simp only[Zb,↓reduceIte,Nat.reduceEqDiff,Nat.reduceMul,reduceCtorEq,Nat.reduceAdd,Nat.reduceSub,Nat.reduceLeDiff,Nat.reduceLT,Int.reduceToNat,Int.reduceLE,Int.reduceLT,Za,men]
theorem ZDZ(a b:List ByteArray)(ha:a.length<=4294967296)(hb:b.length<=4294967296)(lvl:Nat)(S:Zc):Sem Uch Zgb lvl [.tr (.sl (rS a)),.tr (.sl (rS b))] S (iB (!dc (∀ x∈a,x ∉ b))) S:=by
 have q:=Zc1 (P:=Uch) ZnT ZnS (t:=fun n:ByteArray=>ts n) (f:=fun s=>dc (s∈b)) (fe:=ZcG) (cs:=[[Tr.sl (rS b)]]) a (by omega) (fun x _ lvl S=>ZDY b x hb lvl S)
 have e:a.any (fun s=>dc (s∈b)) = !dc (∀ x∈a,x ∉ b):=by
  cases h:dc (∀ x∈a,x ∉ b)
  ·have h1:=dc_not.1 h
   have:∃ x∈a,x∈b:=Ubg fun g=>h1 fun x hx hb=>g ⟨x,hx,hb⟩
   obtain⟨x,hx,hxb⟩:=this
   simp only[Bool.not_false,Ub9]
   exact⟨x,hx,ZY hxb⟩
  ·have h1:=dc_iff.1 h
   simp only[Ub4,Ub1]
   intro x hx
   rw[Zt (h1 x hx)]
   decide
 rw[e] at q
 refine Zi ZA1 trivial ?_
 simp only[Zlr,Zb,↓reduceIte,Nat.reduceEqDiff,Nat.reduceMul,reduceCtorEq,Nat.reduceAdd,Nat.reduceSub,Nat.reduceLeDiff,Nat.reduceLT,Int.reduceToNat,Int.reduceLE,Int.reduceLT,Za,men]
 refine Zf q ?_
 simp only[Zb,↓reduceIte,Nat.reduceEqDiff,Nat.reduceMul,reduceCtorEq,Nat.reduceAdd,Nat.reduceSub,Nat.reduceLeDiff,Nat.reduceLT,Int.reduceToNat,Int.reduceLE,Int.reduceLT,Za,men]
theorem ZD0(a:TBigraph)(p:Int)(hp:-4294967296<=p/\p<=4294967296)(ha:0<=a.roots/\a.roots<=4)(lvl:Nat)(S:Zc):Sem Uch ZcH lvl [iI p,.ta (Ze a)] S (iI (p-a.roots)) S:=by
 refine Zi ZBD trivial ?_
 simp only[Zl4,Ze,Zb,↓reduceIte,Nat.reduceEqDiff,Nat.reduceMul,reduceCtorEq,Nat.reduceAdd,Nat.reduceSub,Nat.reduceLeDiff,Nat.reduceLT,Int.reduceToNat,Int.reduceLE,Int.reduceLT,Za,men]
 rw[Zg];omega
theorem ZD1(e:Int×ByteArray)(lvl:Nat)(S:Zc):Sem Uch ZcI lvl [oE e] S (oE e) S:=by
 refine Zi ZBE (by simp [low,men,Za]) ?_
 simp only[Zl5,Zb,↓reduceIte,Nat.reduceEqDiff,Nat.reduceMul,reduceCtorEq,Nat.reduceAdd,Nat.reduceSub,Nat.reduceLeDiff,Nat.reduceLT,Int.reduceToNat,Int.reduceLE,Int.reduceLT,Za,men]
theorem ZnU{b:TBigraph}{F:Int->Int}:(b.inner.map (JF F)).map TWire.name=inn b:=by simp [inn,JF]
theorem ZnV{sig:List TControl}{b:TBigraph}(h:bigOK sig b){F:Int->Int}:(b.inner.map (JF F)).Pairwise Yi:=by
 have hp:=ZgV h.inn
 unfold inn at hp
 rw[Ub2] at hp ⊢
 exact hp
theorem ZD2{sig:List TControl}{a b:TBigraph}(ha:bigOK sig a)(hb:bigOK sig b)(hd:∀ x∈inn a,x ∉ inn b){F F':Int->Int}:(YH (a.inner.map (JF F)) (b.inner.map (JF F'))).Pairwise Yi :=
 ZnM (ZnV ha) (ZnV hb) fun x hx y hy e=>by
  refine hd x.name ?_ ?_
  ·rw[<-ZnU (F:=F)];exact Uaq.2 ⟨x,hx,rfl⟩
  ·rw[<-ZnU (F:=F'),e];exact Uaq.2 ⟨y,hy,rfl⟩
theorem ZD3{a:TBigraph}:WU a.nodes.length (fun p=>p-a.roots)=VL a:=rfl
theorem ZD4{sig:List TControl}{a b:TBigraph}(ha:bigOK sig a)(hb:bigOK sig b) :
  Vg a b (a.roots+b.roots) a.sites (Jh a b) (JT a (a.edges+b.edges) (Jh a b) fun x=>x) (JT b (a.edges+b.edges) (Jh a b) (QC a fun s=>(0,s))) (VL a)=Dw a b :=
 Znp ha hb (fun l hl=>Za8 ha hl) (fun l hl=>Znt hb (fun i hi=>if_neg (Dq hb.outer (Uak hi))) hl) fun p _=>rfl
theorem ZD5{sig:List TControl}{a b:TBigraph}(ha:bigOK sig a):a.inner.map (JF (JT a (a.edges+b.edges) (Jh a b) fun x=>x))=a.inner.map (JF fun l=>g0 (Qh a b) l.toNat):=UaF fun w hw=>by
 unfold JF
 rw[Za8 ha (ha.inner w hw)]
 rfl
theorem ZD6(sig:List TControl)(a b:TBigraph)(ha:bigOK sig a)(hb:bigOK sig b)(hd:∀ x∈inn a,x ∉ inn b)(lvl:Nat)(S:Zc):Sem Uch Zgc lvl [.ag ((Ze a).map .tr),.ag ((Ze b).map .tr)] S (Wf (J0 a b) (decide (b.nodes.length=0))) S:=by
 have ra:=ha.roots;have rb:=hb.roots
 have ea:=ha.edges;have eb:=hb.edges
 have sa:=ha.small;have sb:=hb.small
 have a1:=sa.nodes;have a2:=sa.sites;have a3:=sa.inner;have a4:=sa.outer
 have b1:=sb.nodes;have b2:=sb.sites;have b3:=sb.inner;have b4:=sb.outer
 have hol:=WV (a:=a) (b:=b)
 have lnA:∀ x∈a.nodes,∀ l∈x.links,ZZ a l:=fun x hx l hl=>by
  obtain⟨k,hk,rfl⟩:=Uao hx
  exact(ha.nodes k hk).links l hl
 have hfl:[a.outer,b.outer].flatten=a.outer++b.outer:=by simp
 have hc:=ZnH [a.outer,b.outer] (by simp) (by rw[hfl,Uad];omega)
 rw[hfl] at hc
 have qj:=ZnC sig a b (Dw a b) ha hb (a.roots+b.roots) a.sites (by omega) (a.outer++b.outer) (by rw[Uad];omega) ZcH [Ze a] (fun p=>p-a.roots) Dj [] (fun s=>(0,s)) (fun p h1 h2 lvl S=>ZD0 a p (by omega) ra lvl S) (fun x _ lvl S=>ZnE x lvl S) (by rw[ZD3];exact ZD4 ha hb)
 have qr:=Zdi a (a.edges+b.edges) (a.outer++b.outer) ZcI [] (fun x=>x) ea.1 (VJ (by omega) (Q1 ha)) (by omega) (by omega) (by rw[Uad];omega) lnA ha.inner (fun l _ lvl S=>ZD1 (Yq a l) lvl S)
 refine Zi ZA4 (by simp [low,men,Za]) ?_
 simp only[Zlu,Ze,Zb,↓reduceIte,Nat.reduceEqDiff,Nat.reduceMul,reduceCtorEq,Nat.reduceAdd,Nat.reduceSub,Nat.reduceLeDiff,Nat.reduceLT,Int.reduceToNat,Int.reduceLE,Int.reduceLT,Za,men]
 refine⟨by simp,by simp,Zf hc ?_⟩
 simp only[Ze,Uaa,Zb,↓reduceIte,Nat.reduceEqDiff,Nat.reduceMul,reduceCtorEq,Nat.reduceAdd,Nat.reduceSub,Nat.reduceLeDiff,Nat.reduceLT,Int.reduceToNat,Int.reduceLE,Int.reduceLT,Za,men]
 simp only[Ze,Zhb,Uai,Uaj] at qj
 refine⟨by rw[Zg];omega,Zf qj ?_⟩
 simp only[Ze,Uaa,Zb,↓reduceIte,Nat.reduceEqDiff,Nat.reduceMul,reduceCtorEq,Nat.reduceAdd,Nat.reduceSub,Nat.reduceLeDiff,Nat.reduceLT,Int.reduceToNat,Int.reduceLE,Int.reduceLT,Za,men]
 rw[show ZM (a.outer++b.outer)=Jh a b from rfl] at qr
 have hA1:a.inner.map (fun w=>({ name:=w.name,link:=JT a (a.edges+b.edges) (Jh a b) (fun x=>x) w.link }:TWire))=a.inner.map (JF fun l=>g0 (Qh a b) l.toNat):=ZD5 ha
 simp only[Ze,Zw,Jk,Uai,Uaj] at qr
 simp only[hA1] at qr
 obtain⟨A1,hA⟩:∃ l,l=a.inner.map (JF fun l=>g0 (Qh a b) l.toNat):=⟨_,rfl⟩
 obtain⟨B1,hB⟩:∃ l,l=(Dw a b).inner:=⟨_,rfl⟩
 have hBb:B1=b.inner.map (JF fun l=>g0 (Q4 a b) l.toNat):=hB
 have lA:A1.length=a.inner.length:=by rw[hA,Uaa]
 have lB:B1.length=b.inner.length:=by rw[hBb,Uaa]
 have hpw:(YH A1 B1).Pairwise Yi:=by rw[hA,hBb];exact ZD2 ha hb hd
 have hmx:max a.inner.length (a.inner.length+b.inner.length)=a.inner.length+b.inner.length:=by omega
 have hpi:(J0 a b).inner=YH A1 B1:=by rw[hA,hBb];rfl
 rw[<-hA] at qr
 rw[<-hB]
 refine Zf qr ?_
 simp only[Ze,Za1,Za2,lA,lB,hmx,Uad,Uaa,Zb,↓reduceIte,Nat.reduceEqDiff,Nat.reduceMul,reduceCtorEq,Nat.reduceAdd,Nat.reduceSub,Nat.reduceLeDiff,Nat.reduceLT,Int.reduceToNat,Int.reduceLE,Int.reduceLT,Za,men]
 rw[<-Uay]
 refine⟨by omega,?_⟩
 have hab:(A1++B1).length=a.inner.length+b.inner.length:=by rw[Uad];omega
 have s1:=fun S' hS=>ZDX (A1++B1) (YH A1 B1) wjoin_perm hpw (by omega) (lvl+1) S' (lvl,963) true (a.inner.length+b.inner.length) 0 (Ua4 _) hS
 rw[hab] at s1
 refine Zc6 963 _ (s1 _ ?_) ?_
 ·rw[J7];rfl
 simp only[Zdt,lA,lB,Uaa,Zb,↓reduceIte,Nat.reduceEqDiff,Nat.reduceMul,reduceCtorEq,Nat.reduceAdd,Nat.reduceSub,Nat.reduceLeDiff,Nat.reduceLT,Int.reduceToNat,Int.reduceLE,Int.reduceLT,Za,men]
 simp only[Wf,hpi]
 rfl
theorem ZnW{sig:List TControl}{a b:TBigraph}(ha:bigOK sig a)(hb:bigOK sig b):∀ l,ZZ b l->sm (g0 (Q4 a b) l.toNat):=fun l hl=>by
 have ea:=ha.edges;have eb:=hb.edges
 have a4:=ha.small.outer;have b4:=hb.small.outer
 have hol:=WV (a:=a) (b:=b)
 refine ZnA ha hb (fun x hx=>?_) hl
 have:=Uw (l:=Jh a b) (s:=x)
 have:=WT (l:=Jh a b) (s:=x)
 unfold sm
 omega
theorem ZnX{sig:List TControl}{a b:TBigraph}(ha:bigOK sig a)(hb:bigOK sig b):∀ l,ZZ a l->sm (g0 (Qh a b) l.toNat):=fun l hl=>by
 have a4:=ha.small.outer;have b4:=hb.small.outer
 have hol:=WV (a:=a) (b:=b)
 exact ZnD ha hb (by omega) l hl
theorem Zhf{a b:TBigraph}{w:TWire}(h:w∈(J0 a b).inner):w∈a.inner.map (JF fun l=>g0 (Qh a b) l.toNat)\/w∈b.inner.map (JF fun l=>g0 (Q4 a b) l.toNat):=Uap.1 (wjoin_perm.mem_iff.1 h)
theorem Zdv{sig:List TControl}{a b:TBigraph}(ha:bigOK sig a)(hb:bigOK sig b):Jj 4294967290 (J0 a b):=by
 have sa:=ha.small;have sb:=hb.small
 have a2:=sa.sites;have a3:=sa.inner;have b3:=sb.inner;have a4:=sa.outer;have b4:=sb.outer
 have hol:=WV (a:=a) (b:=b)
 obtain⟨b1,b2,b3',b4',b5,b6,b7⟩:=Zny (roots:=a.roots+b.roots) (ss:=a.sites) (o:=Jh a b) (FL:=fun l=>g0 (Qh a b) l.toNat) (FR:=fun l=>g0 (Q4 a b) l.toNat) (mv:=VL a) ha hb (by omega) (by omega) fun y hy=>by
  rcases Uap.1 (setS_mem.1 hy) with hy | hy
  ·have:=QB ha.outer hy;omega
  ·have:=QB hb.outer hy;omega
 refine⟨b1,b2,b3',b4',b5,?_,fun w hw=>?_⟩
 ·show (YH _ _).length<=_
  rw[Zdt,Uaa,Uaa]
  omega
 ·rcases Zhf hw with h | h
  ·obtain⟨x,hx,rfl⟩:=Uaq.1 h
   have:=QB ha.inn (Uaq.2 ⟨x,hx,rfl⟩)
   simp only[WO,JF]
   omega
  ·obtain⟨x,hx,rfl⟩:=Uaq.1 h
   have:=QB hb.inn (Uaq.2 ⟨x,hx,rfl⟩)
   simp only[WO,JF]
   omega
theorem ZD7{sig:List TControl}{a b:TBigraph}(ha:bigOK sig a)(hb:bigOK sig b){p:Int}(h1:-b.roots<=p)(h2:p<b.nodes.length):sm (VL a p):=by
 have a1:=ha.small.nodes;have b1:=hb.small.nodes
 have ra:=ha.roots;have rb:=hb.roots
 unfold VL sm
 split <;> omega
theorem ZD8{sig:List TControl}{a:TBigraph}(ha:bigOK sig a):∀ p∈a.sites,sm p:=fun p hp=>by
 have h1:=Yr ha.roots.1 (ha.sites p hp)
 have h2:=XA ha hp
 have ra:=ha.roots
 have a1:=ha.small.nodes
 unfold sm
 omega
theorem ZnY{sig:List TControl}{a b:TBigraph}(ha:bigOK sig a)(hb:bigOK sig b)(fa:JJ a)(fb:JJ b):JJ (J0 a b):=by
 have ra:=ha.roots;have rb:=hb.roots
 obtain⟨f1,f2,f3,f4,f5⟩:=Znz (roots:=a.roots+b.roots) (ss:=a.sites) (o:=Jh a b) (FL:=fun l=>g0 (Qh a b) l.toNat) (FR:=fun l=>g0 (Q4 a b) l.toNat) (mv:=VL a) ha hb fa fb (by unfold sm;omega) (ZD8 ha) (ZnX ha hb) (ZnW ha hb) fun p h1 h2=>ZD7 ha hb h1 h2
 refine⟨f1,f2,f3,f4,fun w hw=>?_⟩
 rcases Zhf hw with h | h
 ·obtain⟨x,hx,rfl⟩:=Uaq.1 h
  exact Wg (ZnX ha hb _ (ha.inner x hx))
 ·obtain⟨x,hx,rfl⟩:=Uaq.1 h
  exact Wg (ZnW ha hb _ (hb.inner x hx))
def Yz(sig:List TControl)(a b:TBigraph):Prop:=bigOK sig a/\bigOK sig b/\(∀ x∈inn a,x ∉ inn b)/\bigOK sig (J0 a b)
open Classical in
noncomputable def Zba(sig:List TControl)(a b:TBigraph):TBigraph:=if Yz sig a b then J0 a b else JL
noncomputable def Zbb(sig:List TControl)(a b:TBigraph):Bool:=dc (Yz sig a b)
theorem ZnZ(sig:List TControl)(a b:TBigraph)(hn:sig.length<=4294967296)(hbs:∀ y∈sig,Jc 4294967296 y)(hba:Jj 4294967296 a)(hbb:Jj 4294967296 b)(fa:JJ a)(fb:JJ b)(lvl:Nat)(S:Zc):Sem Uch Zcs lvl [.tr (.sl (sig.map Zr)),.ag ((Ze a).map .tr),.ag ((Ze b).map .tr)] S (.tu [Zw (Zba sig a b),iB (Zbb sig a b)]) S:=by
 refine Zi ZAI (by simp [Zw,low,men,Za]) ?_
 simp only[Zk8,Ze,Zb,↓reduceIte,Nat.reduceEqDiff,Nat.reduceMul,reduceCtorEq,Nat.reduceAdd,Nat.reduceSub,Nat.reduceLeDiff,Nat.reduceLT,Int.reduceToNat,Int.reduceLE,Int.reduceLT,Za,men]
 have i1:=Uu sig a hn hbs hba
 have i2:=Uu sig b hn hbs hbb
 simp only[Ze,Uai,Uaj] at i1 i2
 refine Zf i1 ?_
 unfold Zba Zbb
 cases h1:dc (bigOK sig a)
 ·have hno:¬ Yz sig a b:=fun g=>dc_not.1 h1 g.1
  rw[if_neg hno,Zt hno]
  simp only[Zb,↓reduceIte,Nat.reduceEqDiff,Nat.reduceMul,reduceCtorEq,Nat.reduceAdd,Nat.reduceSub,Nat.reduceLeDiff,Nat.reduceLT,Int.reduceToNat,Int.reduceLE,Int.reduceLT,Za,men]
  rfl
 have hA:=dc_iff.1 h1
 simp only[Ze,Zb,↓reduceIte,Nat.reduceEqDiff,Nat.reduceMul,reduceCtorEq,Nat.reduceAdd,Nat.reduceSub,Nat.reduceLeDiff,Nat.reduceLT,Int.reduceToNat,Int.reduceLE,Int.reduceLT,Za,men]
 refine Zf i2 ?_
 cases h2:dc (bigOK sig b)
 ·have hno:¬ Yz sig a b:=fun g=>dc_not.1 h2 g.2.1
  rw[if_neg hno,Zt hno]
  simp only[Zb,↓reduceIte,Nat.reduceEqDiff,Nat.reduceMul,reduceCtorEq,Nat.reduceAdd,Nat.reduceSub,Nat.reduceLeDiff,Nat.reduceLT,Int.reduceToNat,Int.reduceLE,Int.reduceLT,Za,men]
  rfl
 have hB:=dc_iff.1 h2
 have sa:=hA.small;have sb:=hB.small
 have a3:=sa.inner;have b3:=sb.inner
 simp only[Ze,Zb,↓reduceIte,Nat.reduceEqDiff,Nat.reduceMul,reduceCtorEq,Nat.reduceAdd,Nat.reduceSub,Nat.reduceLeDiff,Nat.reduceLT,Int.reduceToNat,Int.reduceLE,Int.reduceLT,Za,men]
 have n1:=ZgO a (by omega)
 have n2:=ZgO b (by omega)
 simp only[Ze,Uai,Uaj] at n1 n2
 refine Zf n1 ?_
 simp only[Ze,Uaa,Zb,↓reduceIte,Nat.reduceEqDiff,Nat.reduceMul,reduceCtorEq,Nat.reduceAdd,Nat.reduceSub,Nat.reduceLeDiff,Nat.reduceLT,Int.reduceToNat,Int.reduceLE,Int.reduceLT,Za,men]
 refine Zf n2 ?_
 simp only[Ze,Uaa,Zb,↓reduceIte,Nat.reduceEqDiff,Nat.reduceMul,reduceCtorEq,Nat.reduceAdd,Nat.reduceSub,Nat.reduceLeDiff,Nat.reduceLT,Int.reduceToNat,Int.reduceLE,Int.reduceLT,Za,men]
 refine Zf (ZDZ (inn a) (inn b) (by rw[Dn];omega) (by rw[Dn];omega)) ?_
 cases h3:dc (∀ x∈inn a,x ∉ inn b)
 ·have hno:¬ Yz sig a b:=fun g=>dc_not.1 h3 g.2.2.1
  rw[if_neg hno,Zt hno]
  simp only[Zb,↓reduceIte,Nat.reduceEqDiff,Nat.reduceMul,reduceCtorEq,Nat.reduceAdd,Nat.reduceSub,Nat.reduceLeDiff,Nat.reduceLT,Int.reduceToNat,Int.reduceLE,Int.reduceLT,Za,men]
  rfl
 have hD:=dc_iff.1 h3
 simp only[Ze,Zb,↓reduceIte,Nat.reduceEqDiff,Nat.reduceMul,reduceCtorEq,Nat.reduceAdd,Nat.reduceSub,Nat.reduceLeDiff,Nat.reduceLT,Int.reduceToNat,Int.reduceLE,Int.reduceLT,Za,men]
 have qc:=ZD6 sig a b hA hB hD
 simp only[Ze,Wf,Uai,Uaj] at qc
 refine Zf qc ?_
 simp only[Ze,Uaa,Zb,↓reduceIte,Nat.reduceEqDiff,Nat.reduceMul,reduceCtorEq,Nat.reduceAdd,Nat.reduceSub,Nat.reduceLeDiff,Nat.reduceLT,Int.reduceToNat,Int.reduceLE,Int.reduceLT,Za,men]
 have qv:=Zdj sig (J0 a b) hn hbs (Zdv hA hB) (ZnY hA hB fa fb)
 simp only[Ze,Uai,Uaj] at qv
 refine Zf qv ?_
 cases h6:dc (bigOK sig (J0 a b))
 ·have hno:¬ Yz sig a b:=fun g=>dc_not.1 h6 g.2.2.2
  rw[if_neg hno,Zt hno,if_neg (dc_not.1 h6)]
  simp only[Zw,Uaa,Zb,↓reduceIte,Nat.reduceEqDiff,Nat.reduceMul,reduceCtorEq,Nat.reduceAdd,Nat.reduceSub,Nat.reduceLeDiff,Nat.reduceLT,Int.reduceToNat,Int.reduceLE,Int.reduceLT,Za,men]
  rfl
 ·have hyes:Yz sig a b:=⟨hA,hB,hD,dc_iff.1 h6⟩
  rw[if_pos hyes,ZY hyes,if_pos (dc_iff.1 h6)]
  simp only[Zw,Uaa,Zb,↓reduceIte,Nat.reduceEqDiff,Nat.reduceMul,reduceCtorEq,Nat.reduceAdd,Nat.reduceSub,Nat.reduceLeDiff,Nat.reduceLT,Int.reduceToNat,Int.reduceLE,Int.reduceLT,Za,men]
def Vt(p:Int):Int:=max (-1) p
def WW(x:TNode):TNode:=⟨x.control,Vt x.parent,x.links⟩
def VM(b:TBigraph):TBigraph:=⟨1,b.nodes.map WW,b.sites.map Vt,b.edges,b.outer,b.inner⟩
def Zhg(b:TBigraph):Prop:=0<=b.roots/\(∀ x∈b.nodes,-b.roots<=x.parent)/\∀ p∈b.sites,-b.roots<=p
theorem Zdw{sig:List TControl}{b:TBigraph}{p below:Int}(h:-b.roots<=p):YC sig (VM b) (Vt p) below↔YC sig b p below:=by
 unfold YC Vt
 by_cases h0:0<=p
 ·rw[show max (-1) p=p by omega]
  have e:Xt (VM b) p=Xt b p:=by
   unfold Xt VM
   rw[Uas]
   cases b.nodes[p.toNat]? <;> rfl
  rw[e]
  constructor
  ·rintro(q | q)
   ·omega
   ·exact .inr q
  ·rintro(q | q)
   ·omega
   ·exact .inr q
 ·have e:max (-1) p = -1:=by omega
  rw[e]
  constructor
  ·intro _
   exact .inl ⟨by omega,h⟩
  ·intro _
   refine .inl ⟨by omega,?_⟩
   show -(1:Int) <= -1
   omega
theorem Zn0{sig:List TControl}{b:TBigraph}(h:Zhg b):bigOK sig (VM b)/\b.roots<=4↔bigOK sig b:=by
 obtain⟨h0,h1,h2⟩:=h
 have hl:(VM b).nodes.length=b.nodes.length:=Uaa ..
 have hs:(VM b).sites.length=b.sites.length:=Uaa ..
 constructor
 ·rintro⟨g,hr⟩
  refine⟨g.sg,⟨h0,hr⟩,by rw[<-hl];exact g.nodesL,by rw[<-hs];exact g.sitesL,g.edges,g.outer,g.inn,fun i hi=>?_,fun p hp=>?_,g.inner⟩
  ·have q:=g.nodes i (by rw[hl];exact hi)
   have e:(VM b).nodes[i]'(by rw[hl];exact hi)=WW b.nodes[i]:=by simp [VM]
   rw[e] at q
   exact⟨q.ctl,(Zdw (h1 _ (Uak hi))).1 q.par,q.ports,q.links⟩
  ·have q:=g.sites (Vt p) (Uaq.2 ⟨p,hp,rfl⟩)
   rw[hl] at q
   exact(Zdw (h2 p hp)).1 q
 ·intro g
  refine⟨⟨g.sg,by show (0:Int)<=1/\(1:Int)<=4;omega,by rw[hl];exact g.nodesL,by rw[hs];exact g.sitesL,g.edges,g.outer,g.inn,fun i hi=>?_,fun p hp=>?_,g.inner⟩,g.roots.2⟩
  ·have hi2:i<b.nodes.length:=by rw[<-hl];exact hi
   have q:=g.nodes i hi2
   have e:(VM b).nodes[i]=WW b.nodes[i]:=by simp [VM]
   rw[e]
   exact⟨q.ctl,(Zdw (h1 _ (Uak hi2))).2 q.par,q.ports,q.links⟩
  ·obtain⟨p0,hp0,rfl⟩:=Uaq.1 hp
   rw[hl]
   exact(Zdw (h2 p0 hp0)).2 (g.sites p0 hp0)
theorem Zhh{sig:List TControl}{a b:TBigraph}(ha:bigOK sig a)(hb:bigOK sig b):Zhg (J0 a b):=by
 have ra:=ha.roots;have rb:=hb.roots
 have hbes:∀ p,-b.roots<=p -> -(a.roots+b.roots)<=VL a p:=fun p hp=>by
  unfold VL
  split <;> omega
 refine⟨?_,fun x hx=>?_,fun p hp=>?_⟩
 ·show 0<=a.roots+b.roots
  omega
 ·show -(a.roots+b.roots)<=x.parent
  rcases Uap.1 hx with hx | hx
  ·obtain⟨y,hy,rfl⟩:=Uaq.1 hx
   obtain⟨k,hk,rfl⟩:=Uao hy
   have:=Yr ra.1 (ha.nodes k hk).par
   show _<=(a.nodes[k]).parent
   omega
  ·obtain⟨y,hy,rfl⟩:=Uaq.1 hx
   obtain⟨k,hk,rfl⟩:=Uao hy
   exact hbes _ (Yr rb.1 (hb.nodes k hk).par)
 ·show -(a.roots+b.roots)<=p
  rcases Uap.1 hp with hp | hp
  ·have:=Yr ra.1 (ha.sites p hp)
   omega
  ·obtain⟨y,hy,rfl⟩:=Uaq.1 hp
   exact hbes _ (Yr rb.1 (hb.sites y hy))
theorem Zn1{b:TBigraph}{n:Nat}(hn:b.roots=n){p:Int}(h:-b.roots<=p):J4 0 (List.replicate n (-1)) p=Vt p:=by
 unfold J4 Vt
 by_cases h0:0<=p
 ·rw[if_neg (by omega)]
  omega
 ·rw[if_pos (by omega)]
  have hk:(-1-p).toNat<n:=by omega
  show (List.replicate n (-1:Int)).getD _ 0=_
  rw[UaH,Ubk,if_pos hk]
  show (-1:Int)=_
  omega
noncomputable def Dx(a b:TBigraph):TBigraph:=VM (J0 a b)
open Classical in
noncomputable def Zbc(sig:List TControl)(a b:TBigraph):TBigraph:=if Yz sig a b then Dx a b else JL
noncomputable def Zbd(sig:List TControl)(a b:TBigraph):Bool:=dc (Yz sig a b)
theorem Zn2{α:Type}{m:α->Int->α}{n:α->Nat}:∀{a:List α} {k:Int} {j:Nat} (h:j<a.length),(mL m n a k)[j]? = some (m a[j] (kJ n a k j))
 | [],_,_,h=>by cases h
 | x::r,k,0,_=>by simp [mL,kJ,nL]
 | x::r,k,j+1,h=>by
  simp only[mL,List.getElem?_cons_succ,List.getElem_cons_succ]
  rw[Zn2 (by simpa using h)]
  simp only[kJ,List.take_succ_cons,nL]
  congr 2
  omega
theorem Zn3{α:Type}{c:α->List Tr}{m:α->Int->α}{n:α->Nat}{a:List α}{k:Int}{j:Nat}(h:j<a.length):((mL m n a k).map c)[j]? = some (c (m a[j] (kJ n a k j))):=by
 rw[Uas,Zn2 h];rfl
theorem Y7{α:Type}{c:α->List Tr}{m:α->Int->α}{n:α->Nat}{a:List α}{k:Int}:cut ((mL m n a k).map c) 0 a.length=(mL m n a k).map c:=by
 simp only[cut,Ubw]
 exact Uau (by rw[Uaa,Yd];exact Ual _)
theorem J1{α:Type}{c:α->List Tr}{a:List α}:cut (a.map c) 0 a.length=a.map c:=by
 simp only[cut,Ubw]
 exact Uau (by rw[Uaa];exact Ual _)
def YI{α:Type}(f:α->α)(l:List α)(j:Nat):List α:=(l.take j).map f++l.drop j
theorem Zhi{α:Type}{f:α->α}{l:List α}:YI f l 0=l:=by simp [YI]
theorem Zhj{α:Type}{f:α->α}{l:List α}:YI f l l.length=l.map f:=by simp [YI]
theorem Dy{α:Type}{f:α->α}{l:List α}{j:Nat}:(YI f l j).length=l.length:=by simp [YI];omega
theorem Zn4{α:Type}{f:α->α}{l:List α}{j:Nat}(h:j<l.length):(YI f l j)[j]? = some l[j]:=by
 have:((l.take j).map f).length=j:=by rw[Uaa,Uam];omega
 rw[YI,Uar (by omega),this,UaK]
 simp [h]
theorem Zn5{α:Type}{f:α->α}{l:List α}{j:Nat}(h:j<l.length):(YI f l j).set j (f l[j])=YI f l (j+1):=by
 have hl:((l.take j).map f).length=j:=by rw[Uaa,Uam];omega
 unfold YI
 rw[Ubh _ _ (by omega),hl,Ubn,UaJ h,List.set_cons_zero,Uaf h,Uay,UaA]
 rfl
theorem Zhk{l:List TNode}{j:Nat}(h:j<l.length):((YI WW l j).map ZG)[j]? = some [tv l[j].control,tv l[j].parent,Tr.sl (rI l[j].links)]:=by rw[Uas,Zn4 h];rfl
theorem Zn6{l:List TNode}{j:Nat}(h:j<l.length):ZI ((YI WW l j).map ZG) [] j 1 (Tr.v (.int .i64 (max (-1) l[j].parent)))=(YI WW l (j+1)).map ZG:=by
 rw[Zdl (Zhk h),<-Zn5 h,UbJ]
 rfl
theorem ZD9{l:List Int}{j:Nat}(h:j<l.length):(rI (YI Vt l j))[j]? = some [tv l[j]]:=by
 show ((YI Vt l j).map _)[j]? = _
 rw[Uas,Zn4 h]
 rfl
theorem ZEa{l:List Int}{j:Nat}(h:j<l.length):ZI (rI (YI Vt l j)) [] j 0 (Tr.v (.int .i64 (max (-1) l[j])))=rI (YI Vt l (j+1)):=by
 rw[ZgY (by rw[Dy];exact h),show max (-1) l[j]=Vt l[j] from rfl,Zn5 h]
theorem ZEb(b:TBigraph)(hb:Jj 4294967290 b)(lvl:Nat)(S:Zc):Sem Uch Zga lvl [.ag ((Ze b).map .tr)] S (Zw (VM b)) S:=by
 refine Zi ZAZ (by simp [Zw,low,men,Za]) ?_
 simp only[Zlp,Ze,Zb,seval,Za,men]
 have q:=Zde b hb
 simp only[Ze,Uai,Uaj] at q
 obtain⟨b1,b2,b3,b4,b5,b6,b7⟩:=hb
 refine Zf q ?_
 simp only[Zw,Ze,Uaa,Zb,seval,Za,men]
 refine ZJ (α:=Unit) b.nodes.length (fun j _=>[(14,iI j)]) (fun j _=>[(288,.ar 3 ((YI WW b.nodes j).map ZG) true b.nodes.length 0)]) (fun _ _=>True) () (by simp only[Zb,seval,Za,men]) (by (simp only[Zhi,Zb,seval,Za,men]) <;> rfl) trivial ?_
 intro j _ hj _
 simp only[Uaa,Zb,seval,Za,men]
 refine Zs (fun hlt=>?_) (fun hge=>?_)
 ·have hja:j<b.nodes.length:=by omega
  have ga:=Zhk hja
  have hst:=Zn6 hja
  simp only[ga,hst,hja,Dy,Uaa,Zb,seval,Za,men]
  exact⟨by rw[Zg];omega,Zu () hja rfl trivial⟩
 ·have:j=b.nodes.length:=by omega
  subst this
  rw[Zhj]
  refine ZJ (α:=Unit) b.sites.length (fun j _=>[(31,iI j)]) (fun j _=>[(289,.ar 1 (rI (YI Vt b.sites j)) true b.sites.length 0)]) (fun _ _=>True) () (by simp only[Zb,seval,Za,men]) (by (simp only[Zhi,Zb,seval,Za,men]) <;> rfl) trivial ?_
  intro j _ hj _
  simp only[Uaa,Zb,seval,Za,men]
  refine Zs (fun hlt=>?_) (fun hge=>?_)
  ·have hja:j<b.sites.length:=by omega
   have ga:=ZD9 hja
   have hst:=ZEa hja
   simp only[ga,hst,hja,Dy,Uaa,Zb,seval,Za,men]
   exact⟨by rw[Zg];omega,Zu () hja rfl trivial⟩
  ·have:j=b.sites.length:=by omega
   subst this
   rw[Zhj]
   simp only[Dy,Uaa,Zb,seval,Za,men]
   try rfl
structure easy (b:TBigraph):Prop where
 root:Zhg b
 bd:Jj 4294967290 b
 r4:b.roots<=4294967290
 edges:0<=b.edges/\b.edges<=4294967290
 par:∀ x∈b.nodes,x.parent<b.nodes.length/\∀ l∈x.links,0<=l
 site:∀ p∈b.sites,p<b.nodes.length
 link:∀ w∈b.inner,0<=w.link
theorem ZEc{n:Nat}:rI (List.replicate n (-1))++[[tv (-1)]]=rI (List.replicate (n+1) (-1)):=by
 rw[List.replicate_succ',Yf]
 rfl
theorem ZEd(b:TBigraph)(h:easy b)(lvl:Nat)(S:Zc):Sem Uch Zf5 lvl [.ag ((Ze b).map .tr)] S (Zw (VM b)) S:=by
 obtain⟨E,hE⟩:∃ E:Nat,b.edges=E:=⟨b.edges.toNat,by have:=h.edges;omega⟩
 obtain⟨R,hR⟩:∃ R:Nat,b.roots=R:=⟨b.roots.toNat,by have:=h.root.1;omega⟩
 have hr4:=h.r4;have he4:=h.edges
 have hbd:=h.bd
 obtain⟨b1,b2,b3,b4,b5,b6,b7⟩:=h.bd
 refine Zi ZAU (by simp [Zw,low,men,Za]) ?_
 simp only[Zlk,Ze,Zb,seval,Za,men]
 have q:=Zg8 b E hE hbd (by omega) h.par h.site h.link
 simp only[Ze,Uai,Uaj] at q
 refine Zf q ?_
 simp only[Zw,Ze,Uaa,Zb,seval,Za,men]
 refine ZJ (α:=Unit) R (fun j _=>[(4,.hd (lvl,288) [] 0 j none j),(5,iI j)]) (fun j _=>[(288,.ar 1 (rI (List.replicate j (-1))) true j 0)]) (fun _ _=>True) () (by simp only[Zb,seval,Za,men]) (by (simp only[Zb,seval,Za,men]) <;> rfl) trivial ?_
 intro j _ hj _
 simp only[hR,Uaa,Zb,seval,Za,men]
 refine Zs (fun hlt=>?_) (fun hge=>?_)
 ·have hja:j<R:=by omega
  simp only[ZEc,hja,Uaa,Zb,seval,Za,men]
  exact⟨by omega,by rw[Zg];omega,Zu () hja rfl trivial⟩
 ·have:j=R:=by omega
  subst this
  have hlr:(List.replicate j (-1:Int)).length=j:=UbB
  have hcr:cut (rI (List.replicate j (-1))) 0 j=rI (List.replicate j (-1)):=Yh (by rw[Uaa,hlr])
  have hroot:=h.root
  have hpar:∀ p,-b.roots<=p->p<4294967296->(-4294967296<=p/\p<=4294967296)/\(p<0->(-1-p).toNat<(List.replicate j (-1:Int)).length):=fun p h1 h2=>⟨by omega,fun h3=>by rw[hlr];omega⟩
  refine ZJ (α:=Unit) b.nodes.length (fun j _=>[(6,iI j)]) (fun j _=>[(256,.ar 3 ((YI WW b.nodes j).map ZG) true b.nodes.length 0)]) (fun _ _=>True) () (by simp only[Zb,seval,Za,men]) (by (simp only[Zhi,Zb,seval,Za,men]) <;> rfl) trivial ?_
  intro i _ hi _
  simp only[Uaa,Zb,seval,Za,men]
  refine Zs (fun hlt=>?_) (fun hge=>?_)
  ·have hia:i<b.nodes.length:=by omega
   have ga:=Zhk hia
   have hst:=Zn6 hia
   have hx:=Uak hia
   have hp1:=hroot.2.1 _ hx
   have hp2:=(h.par _ hx).1
   obtain⟨g1,g2⟩:=hpar _ hp1 (by omega)
   have e:=Zn1 hR hp1
   simp only[ga,hcr,hia,Dy,Uaa,Zb,seval,Za,men]
   refine Zf (ZgW b.nodes[i].parent 0 (List.replicate j (-1)) g1 (by omega) g2) ?_
   rw[e]
   unfold Vt
   simp only[ga,hst,hia,Dy,Uaa,Zb,seval,Za,men]
   exact⟨by rw[Zg];omega,Zu () hia rfl trivial⟩
  ·have:i=b.nodes.length:=by omega
   subst this
   rw[Zhj]
   have qs:=Du b 0 (List.replicate j (-1)) (by omega) (by omega) fun p hp=>by
    have:=h.site p hp
    exact hpar p (hroot.2.2 p hp) (by omega)
   rw[show b.sites.map (J4 0 (List.replicate j (-1)))=b.sites.map Vt from UaF fun p hp=>Zn1 hR (hroot.2.2 p hp)] at qs
   simp only[Ze,hR,Uai,Uaj] at qs
   simp only[Ze,hcr,hR,Uaa,Zb,seval,Za,men]
   refine Zf qs ?_
   simp only[VM,Uaa,Zb,seval,Za,men]
   try rfl
theorem Zn7{sig:List TControl}{a b:TBigraph}(ha:bigOK sig a)(hb:bigOK sig b){l:Int}(hl:ZZ a l):0<=g0 (Qh a b) l.toNat:=by
 have ea:=ha.edges;have eb:=hb.edges
 unfold Qh V6
 rcases Qe hl with ⟨h0,h1⟩ | ⟨i,hi,rfl⟩
 ·rw[Xu h0 h1];omega
 ·rw[Xv ea.1 hi]
  have:a.outer[i]∈Jh a b:=setS_mem.2 (Uap.2 (.inl (Uak hi)))
  have:=ixS_nn.2 this
  omega
theorem Zn8{sig:List TControl}{a b:TBigraph}(ha:bigOK sig a)(hb:bigOK sig b){l:Int}(hl:ZZ b l):0<=g0 (Q4 a b) l.toNat:=by
 have ea:=ha.edges;have eb:=hb.edges
 unfold Q4 Q3
 rcases Qe hl with ⟨h0,h1⟩ | ⟨i,hi,rfl⟩
 ·rw[Xu h0 h1];omega
 ·rw[Xv eb.1 hi]
  have:b.outer[i]∈Jh a b:=setS_mem.2 (Uap.2 (.inr (Uak hi)))
  have:=ixS_nn.2 this
  omega
theorem ZEe{sig:List TControl}{a b:TBigraph}(ha:bigOK sig a)(hb:bigOK sig b):easy (J0 a b):=by
 have ra:=ha.roots;have rb:=hb.roots
 have ea:=ha.edges;have eb:=hb.edges
 have a1:=ha.small.nodes;have b1:=hb.small.nodes
 have hlen:(J0 a b).nodes.length=a.nodes.length+b.nodes.length:=by
  simp [J0,Zhe,Dw,Vg]
 have hbes:∀ p:Int,p<b.nodes.length->VL a p<(a.nodes.length+b.nodes.length:Nat):=fun p hp=>by
  unfold VL
  split <;> omega
 refine⟨Zhh ha hb,Zdv ha hb,by show a.roots+b.roots<=_;omega,by show 0<=a.edges+b.edges/\a.edges+b.edges<=_;omega,fun x hx=>?_,fun p hp=>?_,fun w hw=>?_⟩
 ·rw[hlen]
  rcases Uap.1 hx with hx | hx
  ·obtain⟨y,hy,rfl⟩:=Uaq.1 hx
   obtain⟨k,hk,rfl⟩:=Uao hy
   have h1:=(Xz ha hy).1
   refine⟨by show (a.nodes[k]).parent<_;omega,fun l hl=>?_⟩
   obtain⟨l0,hl0,rfl⟩:=Uaq.1 hl
   exact Zn7 ha hb ((ha.nodes k hk).links l0 hl0)
  ·obtain⟨y,hy,rfl⟩:=Uaq.1 hx
   obtain⟨k,hk,rfl⟩:=Uao hy
   have h1:=(Xz hb hy).1
   refine⟨hbes _ h1,fun l hl=>?_⟩
   obtain⟨l0,hl0,rfl⟩:=Uaq.1 hl
   exact Zn8 ha hb ((hb.nodes k hk).links l0 hl0)
 ·rw[hlen]
  rcases Uap.1 hp with hp | hp
  ·have:=XA ha hp
   omega
  ·obtain⟨y,hy,rfl⟩:=Uaq.1 hp
   exact hbes _ (XA hb hy)
 ·rcases Zhf hw with h | h
  ·obtain⟨x,hx,rfl⟩:=Uaq.1 h
   exact Zn7 ha hb (ha.inner x hx)
  ·obtain⟨x,hx,rfl⟩:=Uaq.1 h
   exact Zn8 ha hb (hb.inner x hx)
theorem Zn9(sig:List TControl)(a b:TBigraph)(hn:sig.length<=4294967296)(hbs:∀ y∈sig,Jc 4294967296 y)(hba:Jj 4294967296 a)(hbb:Jj 4294967296 b)(fa:JJ a)(fb:JJ b)(lvl:Nat)(S:Zc):Sem Uch Zcr lvl [.tr (.sl (sig.map Zr)),.ag ((Ze a).map .tr),.ag ((Ze b).map .tr)] S (.tu [Zw (Zbc sig a b),iB (Zbd sig a b)]) S:=by
 refine Zi ZAH (by simp [Zw,low,men,Za]) ?_
 simp only[Zk7,Ze,Zb,seval,Za,men]
 have q:=ZnZ sig a b hn hbs hba hbb fa fb
 unfold Zba Zbb at q
 simp only[Ze,Uai,Uaj] at q
 unfold Zbc Zbd
 by_cases hq:Yz sig a b
 ·rw[if_pos hq,ZY hq] at q
  rw[if_pos hq,ZY hq]
  refine Zf q ?_
  have qm:=ZEb (J0 a b) (Zdv hq.1 hq.2.1)
  simp only[Ze,Uai,Uaj] at qm
  simp only[Zw,J1,Uaa,Zb,seval,Za,men]
  refine Zf qm ?_
  simp only[Zw,Uaa,Zb,seval,Za,men]
  try rfl
 ·rw[if_neg hq,Zt hq] at q
  rw[if_neg hq,Zt hq]
  refine Zf q ?_
  simp only[Zw,Uaa,Zb,seval,Za,men]
  try rfl
def Vu(n:Nat)(l:List Int):Prop:=l.length=n/\∀ i:Nat,i<n->(i:Int)∈l
theorem Zdx:Ords (fun a b:Int=>a<b):=⟨fun a=>Int.lt_irrefl a,fun a b c=>Int.lt_trans,fun a b=>Int.lt_trichotomy a b⟩
theorem upto_mem{n:Nat}{x:Int}:x∈Z7 n↔0<=x/\x<n:=by
 unfold Z7
 rw[Uaq]
 constructor
 ·rintro⟨i,hi,rfl⟩
  have:=Ucf.1 hi
  omega
 ·rintro⟨h1,h2⟩
  exact⟨x.toNat,Ucf.2 (by omega),by omega⟩
theorem upto_pw{n:Nat}:(Z7 n).Pairwise (fun a b=>a<b):=by
 unfold Z7
 rw[Ub2]
 exact List.pairwise_lt_range.imp fun h=>by omega
theorem ZEf{n:Nat}:(Z7 n).Nodup:=upto_pw.imp fun h e=>by omega
theorem Zoa:∀{x y:List Int},x.Nodup->(∀ c∈x,c∈y)->x.length<=y.length/\(y.length<=x.length->x.Perm y)
 | [],y,_,_=>⟨Ubi _,fun h=>by rw[UaS.1 (Nat.le_zero.1 h)]⟩
 | a::r,y,hd,hs=>by
  have hc:=List.nodup_cons.1 hd
  have ha:a∈y:=hs a (by simp)
  have hp:=List.perm_cons_erase ha
  obtain⟨h1,h2⟩:=Zoa (x:=r) (y:=y.erase a) hc.2 fun c hcr=>(List.mem_erase_of_ne (fun e=>hc.1 (by rw[<-e];exact hcr))).2 (hs c (by simp [hcr]))
  have hl:=hp.length_eq
  simp only[List.length_cons] at hl ⊢
  exact⟨by omega,fun h=>((h2 (by omega)).cons a).trans hp.symm⟩
theorem ordOK_perm{n:Nat}{l:List Int}:Vu n l↔l.Perm (Z7 n):=by
 constructor
 ·rintro⟨h1,h2⟩
  refine((Zoa (x:=Z7 n) (y:=l) ZEf fun x hx=>?_).2 (by rw[h1,VG];exact Ual _)).symm
  have:=upto_mem.1 hx
  have h3:=h2 x.toNat (by omega)
  rwa [show ((x.toNat:Nat):Int)=x by omega] at h3
 ·intro h
  refine⟨by rw[h.length_eq,VG],fun i hi=>h.mem_iff.2 (upto_mem.2 (by omega))⟩
theorem ZEg{n:Nat}{l:List Int}:Vu n l↔VF (fun a b:Int=>a<b) l=Z7 n:=by
 rw[ordOK_perm]
 constructor
 ·intro h
  exact ZaZ Zdx (Za0 Zdx) (upto_pw.imp fun h=>by omega) (srtG_perm.trans h)
 ·intro h
  rw[<-h]
  exact srtG_perm.symm
theorem Zob{n:Nat}{l:List Int}(h:Vu n l){x:Int}(hx:x∈l):0<=x/\x<n:=upto_mem.1 ((ordOK_perm.1 h).mem_iff.1 hx)
def XB:TBigraph:=⟨1,[],[],0,[],[]⟩
def XC:TBigraph:=⟨1,[],[-1],0,[],[]⟩
abbrev ZS:=TBigraph×List Int
def ZT(k:Int):Nat:=if k=4\/k=5 then 2 else if k=3\/k=6\/k=7 then 1 else 0
structure stepOK (sig:List TControl) (s:TTermStep):Prop where
 kind:0<=s.kind_/\s.kind_<=7
 ctl0:s.kind_≠3->s.control=0
 site0:s.kind_≠2->s.site=0
 nms:∀ n∈s.names,Jw n
 site:s.kind_=2->0<=s.site/\s.site<=3
 ctl:s.kind_=3->0<=s.control/\s.control<=(sig.length:Int)-1
 ports:s.kind_=3->(s.names.length:Int)=YY sig s.control
 one:s.kind_=6\/s.kind_=7->s.names.length=1
 non:s.kind_≠3->s.kind_≠6->s.kind_≠7->s.names.length=0
noncomputable def V7(s:TTermStep):TBigraph:=⟨1,[⟨s.control,-1,s.names.map fun n=>Jf (ZM s.names) n⟩],[],0,ZM s.names,[]⟩
noncomputable def Yj(s:TTermStep):TBigraph:=⟨1,[⟨s.control,-1,s.names.map fun n=>Jf (ZM s.names) n⟩],[0],0,ZM s.names,[]⟩
def Y8(sig:List TControl)(s:TTermStep)(x:TBigraph):Prop:=x.roots=1/\(YG sig s.control=2->x.nodes=[]/\x.sites=[])/\bigOK sig (YO (Yj s) x)
noncomputable def V8(b:TBigraph)(n:ByteArray):List ByteArray:=ZM (b.outer++[n])
noncomputable def Y9(b:TBigraph)(n:ByteArray):TBigraph:=Jk b (JT b b.edges (V8 b n) fun x=>x) b.edges (V8 b n)
def YJ(sig:List TControl)(b:TBigraph)(n:ByteArray):Prop:=bigOK sig b/\n ∉ b.outer/\bigOK sig (Y9 b n)
open Classical in
noncomputable def JK(sig:List TControl)(s:TTermStep)(xs:List ZS):Option ZS :=
 if s.kind_=0 then some (JL,[])
 else if s.kind_=1 then some (XB,[])
 else if s.kind_=2 then some (XC,[s.site])
 else match xs with
 | [x] =>
  if s.kind_=3 then (if Y8 sig s x.1 then some (YO (Yj s) x.1,x.2) else none)
  else if s.kind_=6 then (if VI sig x.1 (gS s.names 0) then some (YZ x.1 (gS s.names 0),x.2) else none)
  else (if YJ sig x.1 (gS s.names 0) then some (Y9 x.1 (gS s.names 0),x.2) else none)
 | [x,y]=>if Yz sig x.1 y.1 then some (if s.kind_=4 then Dx x.1 y.1 else J0 x.1 y.1,x.2++y.2) else none
 | _=>none
structure partOK (sig:List TControl) (x:ZS):Prop where
 big:bigOK sig x.1
 inn:x.1.inner=[]
 len:x.2.length=x.1.sites.length
 num:∀ k∈x.2,0<=k/\k<=3
abbrev YK:=List ZS×Nat
open Classical in
noncomputable def YL(sig:List TControl)(z:YK)(s:TTermStep):Option YK :=
 if stepOK sig s/\ZT s.kind_<=z.1.length then
  match JK sig s (z.1.drop (z.1.length-ZT s.kind_)) with
  | some x=>some (z.1.take (z.1.length-ZT s.kind_)++[x],max z.2 (z.1.length-ZT s.kind_+1))
  | none=>none
 else none
noncomputable def JP(sig:List TControl)(t:List TTermStep):Option YK:=t.foldlM (YL sig) ([],0)
theorem Zhl{sig:List TControl}:JP sig []=some ([],0):=rfl
theorem Zdy{sig:List TControl}{t:List TTermStep}{j:Nat}(h:j<t.length):JP sig (t.take (j+1))=(JP sig (t.take j)).bind fun z=>YL sig z t[j]:=by
 unfold JP
 rw[Uaf h,List.foldlM_append]
 cases List.foldlM (YL sig) (([],0):YK) (t.take j) with
 | none=>rfl
 | some z =>
  show List.foldlM (YL sig) z [t[j]]=_
  simp
theorem Zdz{sig:List TControl}{t:List TTermStep}{j:Nat}(h:JP sig (t.take j)=none):JP sig t=none:=by
 have e:t=t.take j++t.drop j:=(Ua8 j t).symm
 rw[e]
 unfold JP at *
 rw[List.foldlM_append,h]
 rfl
theorem Zoc{sig:List TControl}{z:YK}{s:TTermStep}{x:ZS}(h:stepOK sig s)(hn:ZT s.kind_<=z.1.length)(hx:JK sig s (z.1.drop (z.1.length-ZT s.kind_))=some x):YL sig z s=some (z.1.take (z.1.length-ZT s.kind_)++[x],max z.2 (z.1.length-ZT s.kind_+1)):=by
 unfold YL
 rw[if_pos ⟨h,hn⟩,hx]
theorem Zbe{sig:List TControl}{z:YK}{s:TTermStep}(h:¬ (stepOK sig s/\ZT s.kind_<=z.1.length)):YL sig z s=none:=by
 unfold YL
 rw[if_neg h]
theorem Zod{sig:List TControl}{z:YK}{s:TTermStep}(hx:JK sig s (z.1.drop (z.1.length-ZT s.kind_))=none):YL sig z s=none:=by
 unfold YL
 split
 ·rw[hx]
 ·rfl
theorem ZEh{l:List ByteArray}(hp:l.Pairwise ltS)(hn:∀ n∈l,Jw n)(hl:l.length<=16):Vf l:=by
 refine⟨fun i h=>⟨hn _ (Uak h),fun h0=>?_⟩,hl⟩
 exact Uba.1 hp (i-1) i (by omega) h (by omega)
theorem ZEi{sig:List TControl}(h:Z2 sig){x:TControl}(hx:x∈sig):Zc2 x:=by
 obtain⟨i,hi,rfl⟩:=Uao hx
 exact(h.1 i hi).1
theorem Dz{sig:List TControl}(h:Z2 sig){c:Int}:YY sig c<=3:=by
 unfold YY
 cases hc:sig[c.toNat]? with
 | none=>simp
 | some x =>
  have hx:x∈sig:=Uae hc
  have:=(ZEi h hx).2.1
  simp only[Option.map_some,Option.getD_some]
  omega
theorem Zoe{sig:List TControl}{s:TTermStep}(hs:Z2 sig)(h:stepOK sig s)(h3:s.kind_=3):Vf (ZM s.names):=by
 refine ZEh Zdn (fun n hn=>h.nms n (setS_mem.1 hn)) ?_
 have h1:=Dv (l:=s.names)
 have h2:=h.ports h3
 have h4:=Dz hs (c:=s.control)
 omega
theorem Zof{sig:List TControl}{s:TTermStep}(h:stepOK sig s)(h3:s.kind_=3){b:TBigraph}(hr:b.roots=1)(he:b.edges=0)(ho:b.outer=ZM s.names):nodeOK sig b ⟨s.control,-1,s.names.map fun n=>Jf (ZM s.names) n⟩ 0:=by
 refine⟨h.ctl h3,.inl ⟨by show (-1:Int)<0;omega,by show -b.roots <= -1;omega⟩,by rw[<-h.ports h3,Uaa],fun l hl=>?_⟩
 obtain⟨n,hn,rfl⟩:=Uaq.1 hl
 have hm:=setS_mem.2 hn
 have h1:=ixS_nn.2 hm
 have h2:=Zdb hm
 unfold ZZ
 rw[he,ho]
 omega
theorem ZEj{sig:List TControl}{s:TTermStep}(hs:Z2 sig)(h:stepOK sig s)(h3:s.kind_=3):bigOK sig (V7 s):=by
 refine⟨hs,by show (0:Int)<=1/\(1:Int)<=4;omega,by show 1<=8;omega,by show 0<=4;omega,by show (0:Int)<=0/\(0:Int)<=8;omega,Zoe hs h h3,?_,fun i hi=>?_,fun p hp=>?_,fun w hw=>?_⟩
 ·exact⟨fun i hi=>by simp [inn,V7] at hi,by simp [inn,V7]⟩
 ·have hi2:i<1:=hi
  have:i=0:=by omega
  subst this
  exact Zof h h3 rfl rfl rfl
 ·simp [V7] at hp
 ·simp [V7] at hw
theorem Zhm{sig:List TControl}{s:TTermStep}(hs:Z2 sig)(h:stepOK sig s)(h3:s.kind_=3)(hk:¬ YG sig s.control=2):bigOK sig (Yj s):=by
 refine⟨hs,by show (0:Int)<=1/\(1:Int)<=4;omega,by show 1<=8;omega,by show 1<=4;omega,by show (0:Int)<=0/\(0:Int)<=8;omega,Zoe hs h h3,?_,fun i hi=>?_,fun p hp=>?_,fun w hw=>?_⟩
 ·exact⟨fun i hi=>by simp [inn,Yj] at hi,by simp [inn,Yj]⟩
 ·have hi2:i<1:=hi
  have:i=0:=by omega
  subst this
  exact Zof h h3 rfl rfl rfl
 ·have hp2:p=0:=by simpa [Yj] using hp
  subst hp2
  refine .inr ⟨by omega,by show (0:Int)<((1:Nat):Int);omega,?_⟩
  show ¬ YG sig (Xt (Yj s) 0)=2
  have e:Xt (Yj s) 0=s.control:=rfl
  rw[e]
  exact hk
 ·simp [Yj] at hw
theorem Zhn{sig:List TControl}(hs:Z2 sig){b:TBigraph}(hr:0<=b.roots/\b.roots<=4)(hn:b.nodes=[])(he:b.edges=0)(ho:b.outer=[])(hi:b.inner=[])(hp:∀ p∈b.sites,p<0/\-b.roots<=p)(hl:b.sites.length<=4):bigOK sig b:=by
 refine⟨hs,hr,by rw[hn];simp,hl,by rw[he];omega,?_,?_,fun i h=>by rw[hn] at h;simp at h,fun p h=>.inl (hp p h),fun w h=>by rw[hi] at h;simp at h⟩
 ·rw[ho];exact⟨fun i h=>by simp at h,by simp⟩
 ·unfold inn
  rw[hi];exact⟨fun i h=>by simp at h,by simp⟩
theorem ZEk{sig:List TControl}(hs:Z2 sig):bigOK sig JL:=Zhn hs (by show (0:Int)<=0/\(0:Int)<=4;omega) rfl rfl rfl rfl (fun p hp=>by simp [JL] at hp) (by simp [JL])
theorem ZEl{sig:List TControl}(hs:Z2 sig):bigOK sig XB:=Zhn hs (by show (0:Int)<=1/\(1:Int)<=4;omega) rfl rfl rfl rfl (fun p hp=>by simp [XB] at hp) (by simp [XB])
theorem ZEm{sig:List TControl}(hs:Z2 sig):bigOK sig XC:=Zhn hs (by show (0:Int)<=1/\(1:Int)<=4;omega) rfl rfl rfl rfl (fun p hp=>by
 have:p = -1:=by simpa [XC] using hp
 subst this
 exact⟨by omega,by show -(1:Int) <= -1;omega⟩) (by simp [XC])
theorem Zog{a b:TBigraph}(ha:a.inner=[])(hb:b.inner=[]):(J0 a b).inner=[]:=by
 show YH (a.inner.map _) (b.inner.map _)=[]
 rw[ha,hb]
 rfl
theorem ZEn{s:TTermStep}{x:TBigraph}(hr:x.roots=1)(hn:x.nodes=[])(hs:x.sites=[])(hi:x.inner=[]):Dx (V7 s) x=YO (Yj s) x:=by
 obtain⟨r,ns,ss,e,o,i⟩:=x
 simp only at hr hn hs hi
 subst hr hn hs hi
 rfl
theorem ZEo{sig:List TControl}(hs:Z2 sig){s:TTermStep}(h:stepOK sig s){xs:List ZS}(hx:∀ x∈xs,partOK sig x){y:ZS}(hy:JK sig s xs=some y):partOK sig y:=by
 unfold JK at hy
 split at hy
 ·cases hy;exact⟨ZEk hs,rfl,rfl,fun k hk=>by simp at hk⟩
 split at hy
 ·cases hy;exact⟨ZEl hs,rfl,rfl,fun k hk=>by simp at hk⟩
 split at hy
 ·rename_i h2
  cases hy
  refine⟨ZEm hs,rfl,rfl,fun k hk=>?_⟩
  have:k=s.site:=by simpa using hk
  subst this
  exact h.site h2
 split at hy
 ·rename_i x
  have hx0:=hx x (by simp)
  split at hy
  ·split at hy
   ·rename_i hA
    cases hy
    refine⟨hA.2.2,?_,?_,hx0.num⟩
    ·show (x.1.inner.map _)=[]
     rw[hx0.inn]
     rfl
    ·rw[hx0.len]
     show _=([]++x.1.sites.map _).length
     simp
   ·cases hy
  split at hy
  ·split at hy
   ·rename_i hA
    cases hy
    refine⟨hA.2.2,?_,?_,hx0.num⟩
    ·show (x.1.inner.map _)=[]
     rw[hx0.inn]
     rfl
    ·exact hx0.len
   ·cases hy
  ·split at hy
   ·rename_i hA
    cases hy
    refine⟨hA.2.2,?_,?_,hx0.num⟩
    ·show (x.1.inner.map _)=[]
     rw[hx0.inn]
     rfl
    ·exact hx0.len
   ·cases hy
 ·rename_i x z
  have hx0:=hx x (by simp)
  have hx1:=hx z (by simp)
  split at hy
  ·rename_i hA
   cases hy
   have hlen:(x.2++z.2).length=(J0 x.1 z.1).sites.length:=by
    show _=(x.1.sites++z.1.sites.map _).length
    simp only[Uad,Uaa,hx0.len,hx1.len]
   have hnum:∀ k∈x.2++z.2,0<=k/\k<=3:=fun k hk=>by
    rcases Uap.1 hk with hk | hk
    ·exact hx0.num k hk
    ·exact hx1.num k hk
   split
   ·refine⟨((Zn0 (Zhh hA.1 hA.2.1)).2 hA.2.2.2).1,Zog hx0.inn hx1.inn,?_,hnum⟩
    rw[hlen]
    show _=((J0 x.1 z.1).sites.map Vt).length
    rw[Uaa]
   ·exact⟨hA.2.2.2,Zog hx0.inn hx1.inn,hlen,hnum⟩
  ·cases hy
 ·cases hy
theorem ZEp{sig:List TControl}(hs:Z2 sig){s:TTermStep}{z z':YK}(hx:∀ x∈z.1,partOK sig x)(h:YL sig z s=some z'):(∀ x∈z'.1,partOK sig x)/\z'.1.length<=z.1.length+1/\z'.2<=max z.2 (z.1.length+1)/\z'.1.length<=z'.2:=by
 unfold YL at h
 split at h
 ·rename_i hA
  split at h
  ·rename_i y hy
   cases h
   refine⟨fun x hx2=>?_,?_,?_,?_⟩
   ·rcases Uap.1 hx2 with q | q
    ·exact hx x (UaX q)
    ·rw[UaN.1 q]
     exact ZEo hs hA.1 (fun x hx3=>hx x (UbE hx3)) hy
   ·simp only[Uad,Uam,List.length_cons,List.length_nil]
    omega
   ·show max z.2 _<=_
    omega
   ·simp only[Uad,Uam,List.length_cons,List.length_nil]
    omega
  ·cases h
 ·cases h
theorem Zbf{sig:List TControl}(hs:Z2 sig){t:List TTermStep}:∀{j:Nat} {z:YK},j<=t.length->JP sig (t.take j)=some z->(∀ x∈z.1,partOK sig x)/\z.1.length<=j/\z.2<=j/\z.1.length<=z.2
 | 0,z,_,h=>by
  rw[List.take_zero,Zhl] at h
  cases h
  exact⟨fun x hx=>by simp at hx,Ual _,Ual _,Ual _⟩
 | j+1,z,hj,h=>by
  rw[Zdy (by omega)] at h
  cases hp:JP sig (t.take j) with
  | none=>rw[hp] at h;cases h
  | some z0 =>
   rw[hp] at h
   obtain⟨a1,a2,a3,a4⟩:=Zbf hs (j:=j) (by omega) hp
   obtain⟨b1,b2,b3,b4⟩:=ZEp hs a1 h
   exact⟨b1,by omega,by omega,b4⟩
def Y0(l v ini:List Int):Nat->List Int
 | 0=>ini
 | j+1=>(Y0 l v ini j).set (g0 l j).toNat (g0 v j)
theorem QE{l v ini:List Int}:∀{j:Nat},(Y0 l v ini j).length=ini.length
 | 0=>rfl
 | j+1=>by rw[Y0,UaT,QE]
theorem Zoh{l v a b:List Int}(hl:a.length=b.length):∀{j:Nat},j<=l.length->∀ i:Nat,i<a.length->(∃ k,k<j/\(g0 l k).toNat=i)->(Y0 l v a j)[i]? = (Y0 l v b j)[i]?
 | 0,_,i,_,h=>by obtain⟨k,hk,_⟩:=h;omega
 | j+1,hj,i,hi,h=>by
  have la:=QE (l:=l) (v:=v) (ini:=a) (j:=j)
  have lb:=QE (l:=l) (v:=v) (ini:=b) (j:=j)
  rw[Y0,Y0,Ubb,Ubb,la,lb,hl]
  by_cases e:(g0 l j).toNat=i
  ·rw[if_pos e,if_pos e]
  ·rw[if_neg e,if_neg e]
   obtain⟨k,hk,hke⟩:=h
   refine Zoh hl (by omega) i hi ⟨k,?_,hke⟩
   by_cases q:k=j
   ·subst q;exact absurd hke e
   ·omega
theorem ZEq{l v a b:List Int}{n:Nat}(ho:Vu n l)(ha:a.length=n)(hb:b.length=n):Y0 l v a n=Y0 l v b n:=by
 refine Ubp fun i=>?_
 by_cases hi:i<n
 ·refine Zoh (by omega) (by rw[ho.1];omega) i (by omega) ?_
  obtain⟨k,hk,e⟩:=Uao (ho.2 i hi)
  refine⟨k,by rw[<-ho.1];exact hk,?_⟩
  have:g0 l k=l[k]:=by simp [hk]
  rw[this,e]
  omega
 ·rw[UaY (by rw[QE];omega),UaY (by rw[QE];omega)]
def Zoi(x:ZS):TBigraph:=⟨x.1.roots,x.1.nodes,Y0 x.2 x.1.sites x.1.sites x.2.length,x.1.edges,x.1.outer,x.1.inner⟩
open Classical in
noncomputable def Yk(sig:List TControl)(t:List TTermStep):Option TBigraph :=
 if Z2 sig/\t.length<=60 then
  match JP sig t with
  | some ([x],_)=>if Vu x.2.length x.2 then some (Zoi x) else none
  | _=>none
 else none
theorem ZdA{b:TBigraph}{s:ByteArray}:(V8 b s).length<=b.outer.length+1:=UaI Dv (by simp)
theorem ZEr{sig:List TControl}{b:TBigraph}{s:ByteArray}(h:bigOK sig b){l:Int}(hl:ZZ b l):0<=JT b b.edges (V8 b s) (fun x=>x) l/\JT b b.edges (V8 b s) (fun x=>x) l<=100:=by
 have he:=h.edges
 have h4:=h.small.outer
 have ho:=ZdA (b:=b) (s:=s)
 rw[Za8 h hl]
 unfold V6
 rcases Qe hl with ⟨h0,h1⟩ | ⟨i,hi,rfl⟩
 ·rw[Xu h0 h1];omega
 ·rw[Xv he.1 hi]
  have x2:=WT (l:=V8 b s) (s:=b.outer[i])
  have x4:0<=Jf (V8 b s) b.outer[i]:=ixS_nn.2 (setS_mem.2 (by simp))
  omega
theorem ZEs{sig:List TControl}{b:TBigraph}{s:ByteArray}(h:bigOK sig (Y9 b s)):Jw s:=by
 have hm:s∈(Y9 b s).outer:=setS_mem.2 (by simp)
 obtain⟨i,hi,e⟩:=Uao hm
 have:=(h.outer.1 i hi).1
 rwa [e] at this
theorem ZEt{sig:List TControl}{b:TBigraph}{s:ByteArray}(h:bigOK sig b)(hs:s.size<=4294967290):Jj 4294967290 (Y9 b s) :=
 Zg4 h (VJ (by omega) (Q1 h)) (UaI ZdA (by have:=h.outer.2;omega)) fun y hy=>by
  rcases Uap.1 (setS_mem.1 hy) with hy | hy
  ·have:=QB h.outer hy
   omega
  ·rw[UaN.1 hy];exact hs
theorem Zoj{sig:List TControl}{b:TBigraph}{s:ByteArray}(h:bigOK sig b)(hs:s.size<=4294967296):Jj 4294967296 (Y9 b s) :=
 ZDu h (UaI ZdA (by have:=h.outer.2;omega)) fun y hy=>by
  rcases Uap.1 (setS_mem.1 hy) with hy | hy
  ·have:=QB h.outer hy
   omega
  ·rw[UaN.1 hy];exact hs
theorem Zho{sig:List TControl}{b:TBigraph}{s:ByteArray}(h:bigOK sig b)(hf:JJ b):JJ (Y9 b s) :=
 Znf h hf (fun l hl=>ZEr h hl) (by have:=h.edges;rw[Zg];omega)
theorem ZEu{sig:List TControl}{b:TBigraph}{s:ByteArray}(h:bigOK sig b):Jk b (Xy b b.outer (V8 b s)) b.edges (V8 b s)=Y9 b s:=by
 refine Zm4 h fun l hl=>?_
 have he:=h.edges
 rw[Za8 h hl]
 unfold V6
 rcases Qe hl with ⟨h0,h1⟩ | ⟨i,hi,rfl⟩
 ·rw[Xu h0 h1,Xy,if_neg (by omega)]
 ·rw[Xv he.1 hi,Xy,if_pos (by omega),show b.edges+(i:Int)-b.edges=i by omega,Int.toNat_natCast,show gS b.outer i=b.outer[i] from J3 hi]
theorem ZEv(e:Int×ByteArray)(lvl:Nat)(S:Zc):Sem Uch Zcu lvl [oE e] S (oE e) S:=by
 refine Zi ZA7 (by simp [low,men,Za]) ?_
 simp only[Zlx,Zb,seval,Za,men]
noncomputable def ZdB(sig:List TControl)(b:TBigraph)(s:ByteArray):TBigraph:=@ite _ (YJ sig b s) (Classical.propDecidable _) (Y9 b s) JL
theorem ZEw(sig:List TControl)(b:TBigraph)(s:ByteArray)(hn:sig.length<=4294967296)(hbs:∀ y∈sig,Jc 4294967296 y)(hb:Jj 4294967296 b)(hs:s.size<=4294967296)(hf:JJ b)(lvl:Nat)(S:Zc):Sem Uch Zf0 lvl [.tr (.sl (sig.map Zr)),.ag ((Ze b).map .tr),iS s] S (.tu [Zw (ZdB sig b s),iB (dc (YJ sig b s))]) S:=by
 refine Zi ZAK (by simp [Zw,low,men,Za]) ?_
 simp only[Zla,Ze,Zb,seval,Za,men]
 refine Zf (Uu sig b hn hbs hb) ?_
 unfold ZdB
 cases h1:dc (bigOK sig b)
 ·have hno:¬ YJ sig b s:=fun g=>dc_not.1 h1 g.1
  rw[if_neg hno,Zt hno]
  simp only[Zb,seval,Za,men]
  rfl
 have hG:=dc_iff.1 h1
 have hE:=hG.edges
 have h4:=hG.small.outer
 simp only[Ze,Zb,seval,Za,men]
 refine Zf (ZaT s (by omega)) ?_
 cases h3:dc (Jw s)
 ·have hno:¬ YJ sig b s:=fun g=>dc_not.1 h3 (ZEs g.2.2)
  rw[if_neg hno,Zt hno]
  simp only[Zb,seval,Za,men]
  rfl
 have hnm:=dc_iff.1 h3
 simp only[Ze,Zb,seval,Za,men]
 refine Zf (ZgX b.outer s (by have:=hb.2.2.2.1;omega)) ?_
 cases h5:dc (s∈b.outer)
 ·have hM:=dc_not.1 h5
  simp only[Ze,Zb,seval,Za,men]
  refine Zf (Zdd b.outer (by omega)) ?_
  simp only[Ze,Uaa,Zb,seval,Za,men]
  have q:=Zdi b b.edges (b.outer++[s]) Zcu [] (fun x=>x) hE.1 (VJ (by omega) (Q1 hG)) (by omega) (by omega) (by rw[Uad];simp only[List.length_cons,List.length_nil];omega) (fun x hx l hl=>by
   obtain⟨i,hi,rfl⟩:=Uao hx
   exact(hG.nodes i hi).links l hl) hG.inner (fun l hl lvl S=>ZEv (Yq b l) lvl S)
  rw[show ZM (b.outer++[s])=V8 b s from rfl,show Jk b (JT b b.edges (V8 b s) fun x=>x) b.edges (V8 b s)=Y9 b s from rfl] at q
  rw[show cut (rS b.outer++[[Tr.v (Value.string s)]]) 0 (b.outer.length+1)=rS (b.outer++[s]) from by
   rw[Yh (by simp [rS])]
   simp [rS]]
  simp only[Ze,Uai,Uaj] at q
  refine⟨by omega,by simp [rS],Zf q ?_⟩
  simp only[Zw,Uaa,Zb,seval,Za,men]
  have qv:=Zdj sig (Y9 b s) hn hbs (ZEt hG (by have:=hnm.2.2;omega)) (Zho hG hf)
  simp only[Ze,Uai,Uaj] at qv
  refine Zf qv ?_
  cases h6:dc (bigOK sig (Y9 b s))
  ·have hno:¬ YJ sig b s:=fun g=>dc_not.1 h6 g.2.2
   rw[if_neg hno,Zt hno,if_neg (dc_not.1 h6)]
   simp only[Zw,Uaa,Zb,seval,Za,men]
   rfl
  ·have hyes:YJ sig b s:=⟨hG,hM,dc_iff.1 h6⟩
   rw[if_pos hyes,ZY hyes,if_pos (dc_iff.1 h6)]
   simp only[Zw,Uaa,Zb,seval,Za,men]
 ·have hno:¬ YJ sig b s:=fun g=>g.2.1 (dc_iff.1 h5)
  rw[if_neg hno,Zt hno]
  simp only[Zb,seval,Za,men]
  rfl
theorem ZEx(sig:List TControl)(b:TBigraph)(s:ByteArray)(hn:sig.length<=4294967296)(hbs:∀ y∈sig,Jc 4294967296 y)(hb:Jj 4294967296 b)(hs:s.size<=4294967296)(hf:JJ b)(lvl:Nat)(S:Zc):Sem Uch Zf3 lvl [.tr (.sl (sig.map Zr)),.ag ((Ze b).map .tr),iS s] S (.tu [@ite IV (YJ sig b s) (Classical.propDecidable _) (.ag ((Ze (Y9 b s)).map .tr)) (Zw JL),iB (dc (YJ sig b s))]) S:=by
 refine Zi ZAS (by split <;> simp [Zw,Ze,low,men,Za]) ?_
 simp only[Zli,Ze,Zb,seval,Za,men]
 have q:=Ut sig b hn hbs hb hf
 simp only[Ze,Uai,Uaj] at q
 refine Zf q ?_
 cases h1:dc (bigOK sig b)
 ·have hno:¬ YJ sig b s:=fun g=>dc_not.1 h1 g.1
  rw[if_neg hno,Zt hno]
  simp only[Zb,seval,Za,men]
  rfl
 have hG:=dc_iff.1 h1
 have hE:=hG.edges
 have h4:=hG.small.outer
 simp only[Ze,Zb,seval,Za,men]
 refine Zf (Uv b.outer s (by omega)) ?_
 by_cases hM:s∈b.outer
 ·have hno:¬ YJ sig b s:=fun g=>g.2.1 hM
  rw[if_neg hno,Zt hno]
  have e:=ixS_nn.2 hM
  simp only[e,Zb,seval,Za,men]
  rfl
 have e:=Zda hM
 have hol:=ZdA (b:=b) (s:=s)
 simp only[e,Ze,Qz,QA,UbV,Uaa,Zb,seval,Za,men]
 rw[show cut (rS b.outer++[[Tr.v (Value.string s)]]) 0 (b.outer.length+1)=rS (b.outer++[s]) from by
  rw[Yh (by simp [rS])]
  simp [rS]]
 refine⟨by omega,by omega,by simp [rS],Zf (Zdo (b.outer++[s]) (by rw[Uad];simp only[List.length_cons,List.length_nil];omega)) ?_⟩
 rw[show ZM (b.outer++[s])=V8 b s from rfl]
 simp only[Ze,Uaa,Zb,seval,Za,men]
 have qR:=ZDp sig b hG b.outer (V8 b s) rfl (by omega)
 rw[ZEu hG] at qR
 simp only[Ze,Uai,Uaj] at qR
 refine Zf qR ?_
 simp only[Zw,Ze,Uaa,Zb,seval,Za,men]
 by_cases hq:bigOK sig (Y9 b s)
 ·have qG:=Znd sig (Y9 b s) hn hbs (Zoj hG hs) (Zho hG hf) hq
  simp only[Ze,Uai,Uaj] at qG
  have hyes:YJ sig b s:=⟨hG,hM,hq⟩
  rw[if_pos hyes,ZY hyes]
  refine Zf qG ?_
  simp only[Zw,Ze,Uaa,Zb,seval,Za,men]
 ·have qG:=Zne sig (Y9 b s) hn hbs (Zoj hG hs) (Zho hG hf) hq
  simp only[Ze,Uai,Uaj] at qG
  have hno:¬ YJ sig b s:=fun g=>hq g.2.2
  rw[if_neg hno,Zt hno]
  refine Zf qG ?_
  simp only[Zw,Ze,Uaa,Zb,seval,Za,men]
  try rfl
theorem ZEy(s:ByteArray)(hs:s.size<=4294967296)(lvl:Nat)(S:Zc):Sem Uch Zcq lvl [iS s] S (iB (!dc (Jw s))) S:=by
 refine Zi ZAE trivial ?_
 simp only[Zk4,Zb,seval,Za,men]
 refine Zf (ZaT s (by omega)) ?_
 simp only[Zb,seval,Za,men]
theorem Zok{fe:FuncId}(ns:List ByteArray)(hl:ns.length<=4294967296)(hf:∀ n∈ns,∀(lvl:Nat) (S:Zc),Sem Uch fe lvl [iS n] S (iB (!dc (Jw n))) S)(lvl:Nat)(S:Zc):Sem Uch ZaD lvl [.tr (.sl (rS ns)),.fn fe []] S (iB (!dc (∀ n∈ns,Jw n))) S:=by
 have q:=Zc1 (P:=Uch) ZnT ZnS (t:=fun n:ByteArray=>ts n) (f:=fun s=>!dc (Jw s)) (fe:=fe) (cs:=[]) ns (by omega) (fun x hx lvl S=>hf x hx lvl S)
 have e:(ns.any fun s=>!dc (Jw s)) = !dc (∀ n∈ns,Jw n):=by
  cases h:dc (∀ n∈ns,Jw n)
  ·have h1:=dc_not.1 h
   have:∃ n∈ns,¬ Jw n:=Ubg fun g=>h1 fun x hx=>Ubg fun k=>g ⟨x,hx,k⟩
   obtain⟨n,hn,hb⟩:=this
   simp only[Bool.not_false,Ub9]
   exact⟨n,hn,by rw[Zt hb];rfl⟩
  ·have h1:=dc_iff.1 h
   simp only[Ub4,Ub1]
   intro n hn
   rw[ZY (h1 n hn)]
   decide
 rw[e] at q
 exact q lvl S
def Vv(a b d:Bool)(c t:Int)(n:Nat):Bool:=(a || decide (c=0))&&(b || decide (t=0))&&(d || decide ((n:Int)=0))
set_option maxHeartbeats 2000000 in
theorem ZdC(k c t:Int)(ns:List ByteArray)(a b d:Bool)(lvl:Nat)(S:Zc):Sem Uch Uk lvl [.ag [iI k,iI c,iI t,.tr (.sl (rS ns))],iB a,iB b,iB d] S (iB (Vv a b d c t ns.length)) S:=by
 refine Zi ZAF trivial ?_
 by_cases hc:c=0 <;> by_cases ht:t=0 <;> by_cases hn:(ns.length:Int)=0 <;> cases a <;> cases b <;> cases d <;> (simp only[Zk5,hc,ht,hn,Uaa,Zb,seval,Za,men]) <;> simp [Vv,hc,ht,hn] <;> exact fun e=>hn (by simp [e])
def Ux(k:Int):Int:=if k=0\/k=1\/k=2 then 0 else if k=3\/k=6\/k=7 then 1 else if k=4\/k=5 then 2 else -1
theorem Zol(k c t:Int)(ns:List ByteArray)(lvl:Nat)(S:Zc):Sem Uch ZaB lvl [.ag [iI k,iI c,iI t,.tr (.sl (rS ns))]] S (iI (Ux k)) S:=by
 refine Zi ZAr trivial ?_
 by_cases h0:k=0
 ·subst h0; (simp only[Xr,Zb,seval,Za,men]) <;> rfl
 by_cases h1:k=1
 ·subst h1; (simp only[Xr,Zb,seval,Za,men]) <;> rfl
 by_cases h2:k=2
 ·subst h2; (simp only[Xr,Zb,seval,Za,men]) <;> rfl
 by_cases h3:k=3
 ·subst h3; (simp only[Xr,Zb,seval,Za,men]) <;> rfl
 by_cases h4:k=4
 ·subst h4; (simp only[Xr,Zb,seval,Za,men]) <;> rfl
 by_cases h5:k=5
 ·subst h5; (simp only[Xr,Zb,seval,Za,men]) <;> rfl
 by_cases h6:k=6
 ·subst h6; (simp only[Xr,Zb,seval,Za,men]) <;> rfl
 by_cases h7:k=7
 ·subst h7; (simp only[Xr,Zb,seval,Za,men]) <;> rfl
 simp only[Xr,h0,h1,h2,h3,h4,h5,h6,h7,Zb,seval,Za,men]
 simp [Ux,h0,h1,h2,h3,h4,h5,h6,h7]
theorem ZEz{sig:List TControl}{s:TTermStep}(h:stepOK sig s):Ux s.kind_=ZT s.kind_:=by
 have hk:=h.kind
 unfold Ux ZT
 by_cases h0:s.kind_=0
 ·simp [h0]
 by_cases h1:s.kind_=1
 ·simp [h1]
 by_cases h2:s.kind_=2
 ·simp [h2]
 by_cases h3:s.kind_=3
 ·simp [h3]
 by_cases h4:s.kind_=4
 ·simp [h4]
 by_cases h5:s.kind_=5
 ·simp [h5]
 by_cases h6:s.kind_=6
 ·simp [h6]
 have h7:s.kind_=7:=by omega
 simp [h7]
theorem ZEA(sig:List TControl)(s:TTermStep)(hn:sig.length<=4294967296)(hb:Yx 4294967296 s)(lvl:Nat)(S:Zc):Sem Uch ZfP lvl [.tr (.sl (sig.map Zr)),.ag ((Zv s).map .tr)] S (iB (dc (stepOK sig s))) S:=by
 obtain⟨k,c,t,ns⟩:=s
 obtain⟨b1,b2⟩:=hb
 simp only at b1 b2
 have q:=Zok (fe:=Zcq) ns b1 fun n hn lvl S=>ZEy n (b2 n hn) lvl S
 refine Zi ZAq trivial ?_
 simp only[ZkU,Zv,Zb,seval,Za,men]
 refine Zf q ?_
 cases hA:dc (∀ n∈ns,Jw n)
 ·rw[Zt fun g:stepOK sig ⟨k,c,t,ns⟩=>dc_not.1 hA g.nms]
  simp only[Zb,seval,Za,men]
 have hnm:=dc_iff.1 hA
 by_cases h2:k=2
 ·subst h2
  simp only[Zb,seval,Za,men]
  refine Zf (ZdC 2 c t ns false true false) ?_
  cases hP:Vv false true false c t ns.length
  ·have hno:¬ stepOK sig ⟨2,c,t,ns⟩:=fun g=>by
    have e1:c=0:=g.ctl0 (by simp)
    have e2:ns.length=0:=g.non (by simp) (by simp) (by simp)
    rw[show Vv false true false c t ns.length=true by simp [Vv,e1,e2]] at hP
    cases hP
   rw[Zt hno]
   simp only[Zb,seval,Za,men]
  ·simp only[Vv,Uag,UaU,decide_eq_true_eq,UaZ,false_or,true_or,and_true] at hP
   simp only[Zb,seval,Za,men]
   refine Zf (QZ t 0 3) ?_
   cases hW:Jo t 0 3
   ·rw[Zt fun g:stepOK sig ⟨2,c,t,ns⟩=>inB_not.1 hW (g.site rfl)]
    simp only[Zb,seval,Za,men]
   ·have hyes:stepOK sig ⟨2,c,t,ns⟩:=⟨by simp,fun _=>hP.1,fun g=>absurd rfl g,hnm,fun _=>inB_iff.1 hW,fun g=>by simp at g,fun g=>by simp at g,fun g=>by simp at g,fun _ _ _=>by have:=hP.2;simp only;omega⟩
    rw[ZY hyes]
    simp only[Zb,seval,Za,men]
 by_cases h3:k=3
 ·subst h3
  simp only[Zb,seval,Za,men]
  refine Zf (ZdC 3 c t ns true false true) ?_
  cases hP:Vv true false true c t ns.length
  ·have hno:¬ stepOK sig ⟨3,c,t,ns⟩:=fun g=>by
    have e1:t=0:=g.site0 (by simp)
    rw[show Vv true false true c t ns.length=true by simp [Vv,e1]] at hP
    cases hP
   rw[Zt hno]
   simp only[Zb,seval,Za,men]
  ·simp only[Vv,Uag,UaU,decide_eq_true_eq,UaZ,false_or,true_or,and_true,true_and] at hP
   simp only[Uaa,Zb,seval,Za,men]
   refine⟨by rw[Zg];omega,Zf (QZ c 0 ((sig.length:Int)-1)) ?_⟩
   cases hW:Jo c 0 ((sig.length:Int)-1)
   ·rw[Zt fun g:stepOK sig ⟨3,c,t,ns⟩=>inB_not.1 hW (g.ctl rfl)]
    simp only[Zb,seval,Za,men]
   ·have hw:=inB_iff.1 hW
    obtain⟨m,hm⟩:∃ m:Nat,c=m:=⟨c.toNat,by omega⟩
    have hms:m<sig.length:=by omega
    have gs:=Z6 (c:=Zr) hms
    have e:YY sig c=sig[m].ports:=by simp [YY,hm,hms]
    simp only[hm,gs,Zr,Uaa,Zb,seval,Za,men]
    by_cases hp:(ns.length:Int)=sig[m].ports
    ·have hyes:stepOK sig ⟨3,c,t,ns⟩:=⟨by simp,fun g=>absurd rfl g,fun _=>hP,hnm,fun g=>by simp at g,fun _=>hw,fun _=>by rw[e];exact hp,fun g=>by simp at g,fun g=>absurd rfl g⟩
     rw[<-hm,ZY hyes]
     simp [hp]
    ·have hno:¬ stepOK sig ⟨3,c,t,ns⟩:=fun g=>hp (by rw[<-e];exact g.ports rfl)
     rw[<-hm,Zt hno]
     simp [hp]
 by_cases h67:k=6\/k=7
 ·have key:Sem Uch Uk lvl [] S (iB true) S->True:=fun _=>trivial
  have hl:Vv false false true c t ns.length=true↔c=0/\t=0:=by simp [Vv]
  rcases h67 with rfl | rfl
  all_goals
   simp only[Zb,seval,Za,men]
   refine Zf (ZdC _ c t ns false false true) ?_
   cases hP:Vv false false true c t ns.length
   ·rw[Zt fun g:stepOK sig ⟨_,c,t,ns⟩=>by
     rw[hl.2 ⟨g.ctl0 (by simp),g.site0 (by simp)⟩] at hP
     cases hP]
    simp only[Zb,seval,Za,men]
   ·have hP:=hl.1 hP
    simp only[Uaa,Zb,seval,Za,men]
    by_cases hp:(ns.length:Int)=1
    ·rw[ZY (show stepOK sig ⟨_,c,t,ns⟩ from ⟨by simp,fun _=>hP.1,fun _=>hP.2,hnm,fun g=>by simp at g,fun g=>by simp at g,fun g=>by simp at g,fun _=>by simp only;omega,fun g1 g2 g3=>by simp at g2 g3⟩)]
     simp [hp]
    ·rw[Zt fun g:stepOK sig ⟨_,c,t,ns⟩=>hp (by have:=g.one (by simp);simp only at this;omega)]
     simp [hp]
 have h6:¬ k=6:=fun e=>h67 (.inl e)
 have h7:¬ k=7:=fun e=>h67 (.inr e)
 simp only[h2,h3,h6,h7,Zb,seval,Za,men]
 refine Zf (Zol k c t ns) ?_
 have hl:Vv false false false c t ns.length=true↔c=0/\t=0/\ns.length=0:=by
  simp [Vv]
  constructor
  ·rintro⟨⟨a,b⟩,d⟩;exact⟨a,b,by omega⟩
  ·rintro⟨a,b,d⟩;exact⟨⟨a,b⟩,by omega⟩
 by_cases hk:k=0\/k=1\/k=4\/k=5
 ·have hnd:(0:Int)<=Ux k:=by rcases hk with rfl | rfl | rfl | rfl <;> decide
  simp only[hnd,Zb,seval,Za,men]
  refine Zf (ZdC k c t ns false false false) ?_
  cases hP:Vv false false false c t ns.length
  ·rw[Zt fun g:stepOK sig ⟨k,c,t,ns⟩=>by
    rw[hl.2 ⟨g.ctl0 h3,g.site0 h2,g.non h3 h6 h7⟩] at hP
    cases hP]
   simp only[Zb,seval,Za,men]
  ·have hP:=hl.1 hP
   rw[ZY (show stepOK sig ⟨k,c,t,ns⟩ from ⟨by simp only;omega,fun _=>hP.1,fun _=>hP.2.1,hnm,fun g=>absurd g h2,fun g=>absurd g h3,fun g=>absurd g h3,fun g=>g.elim (fun e=>absurd e h6) (fun e=>absurd e h7),fun _ _ _=>hP.2.2⟩)]
   simp only[Zb,seval,Za,men]
 ·have hnd:¬ (0:Int)<=Ux k:=by
   unfold Ux
   rw[if_neg (by omega),if_neg (by omega),if_neg (by omega)]
   decide
  rw[Zt fun g:stepOK sig ⟨k,c,t,ns⟩=>by have:=g.kind;simp only at this;omega]
  simp only[hnd,Zb,seval,Za,men]
theorem ZEB(l:List ByteArray)(hl:l.length<=4294967296)(hb:∀ y∈l,y.size<=4294967296)(lvl:Nat)(S:Zc):Sem Uch Zcn lvl [.tr (.sl (rS l))] S (iB (dc (∀ n∈l,Jw n))) S:=by
 refine Zi ZAx trivial ?_
 simp only[ZkZ,Uaa,Zb,seval,Za,men]
 refine ZJ (α:=Unit) l.length (fun j _=>[(3,iI j)]) (fun _ _=>[]) (fun j _=>∀ n∈l.take j,Jw n) () (by simp only[Zb,seval,Za,men]) (by (simp only[Zb,seval,Za,men]) <;> rfl) (by simp) ?_
 intro j _ hj hA
 simp only[Uaa,Zb,seval,Za,men]
 refine Zs (fun hlt=>?_) (fun hge=>?_)
 ·have hja:j<l.length:=by omega
  have ga:=Yg (e0:=Jd) (c:=fun n:ByteArray=>[ts n]) hja
  rw[J3 hja] at ga
  simp only[ga,hja,Uaa,Zb,seval,Za,men]
  refine Zf (ZgH l[j] (by have:=hb _ (Uak hja);omega)) ?_
  cases hm:dc (Jw l[j])
  ·rw[Zt fun g:∀ n∈l,Jw n=>dc_not.1 hm (g _ (Uak hja))]
   simp only[Zb,seval,Za,men]
  ·have hm:=dc_iff.1 hm
   simp only[Zb,seval,Za,men]
   exact⟨by rw[Zg];omega,Zu () hja rfl (by
    intro x hx
    rw[Uaf hja] at hx
    rcases Uap.1 hx with hx | hx
    ·exact hA x hx
    ·rw[UaN.1 hx];exact hm)⟩
 ·have:j=l.length:=by omega
  subst this
  rw[Uaw] at hA
  rw[ZY hA]
theorem ZEC(k:Int)(lvl:Nat)(S:Zc):Sem Uch ZaC lvl [iI k] S (iI (ZT k:Nat)) S:=by
 refine Zi ZAy trivial ?_
 by_cases h4:k=4
 ·subst h4; (simp only[Ur,Zb,seval,Za,men]) <;> rfl
 by_cases h5:k=5
 ·subst h5; (simp only[Ur,Zb,seval,Za,men]) <;> rfl
 by_cases h3:k=3
 ·subst h3; (simp only[Ur,Zb,seval,Za,men]) <;> rfl
 by_cases h6:k=6
 ·subst h6; (simp only[Ur,Zb,seval,Za,men]) <;> rfl
 by_cases h7:k=7
 ·subst h7; (simp only[Ur,Zb,seval,Za,men]) <;> rfl
 simp only[Ur,h3,h4,h5,h6,h7,Zb,seval,Za,men]
 simp [ZT,h3,h4,h5,h6,h7]
theorem DA{n:Int}(h:-4294967296<=n/\n<=4294967296):ZW .i64 n:=by rw[Zg];omega
theorem Vh{sig:List TControl}{b:TBigraph}(h:bigOK sig b):JJ b:=by
 have hr:=h.roots;have he:=h.edges;have hn:=h.nodesL;have ho:=h.outer.2;have hs:=h.sg.2.2
 have hl:∀ l,ZZ b l->ZW .i64 l:=fun l hl=>by
  unfold ZZ at hl
  exact DA (by omega)
 refine⟨DA (by omega),fun x hx=>?_,fun p hp=>?_,DA (by omega),fun w hw=>hl _ (h.inner w hw)⟩
 ·obtain⟨i,hi,rfl⟩:=Uao hx
  have q:=h.nodes i hi
  have q1:=q.ctl
  have q2:=Yr hr.1 q.par
  have q3:=(Xz h hx).1
  exact⟨DA (by omega),DA (by omega),fun l hl2=>hl l (q.links l hl2)⟩
 ·have q2:=Yr hr.1 (h.sites p hp)
  have q3:=XA h hp
  exact DA (by omega)
theorem Qi{sig:List TControl}{b:TBigraph}(h:bigOK sig b):Jj 4294967296 b:=VJ (by omega) (Q1 h)
theorem ZED(s:ByteArray)(hs:s.size<=4294967296)(lvl:Nat)(S:Zc):Sem Uch ZcO lvl [iS s] S (iB (!dc (Jw s))) S:=by
 refine Zi ZBM trivial ?_
 simp only[Zmd,Zb,↓reduceIte,Nat.reduceEqDiff,Nat.reduceMul,reduceCtorEq,Nat.reduceAdd,Nat.reduceSub,Nat.reduceLeDiff,Nat.reduceLT,Int.reduceToNat,Int.reduceLE,Int.reduceLT,Za,men]
 refine Zf (ZaT s (by omega)) ?_
 simp only[Zb,↓reduceIte,Nat.reduceEqDiff,Nat.reduceMul,reduceCtorEq,Nat.reduceAdd,Nat.reduceSub,Nat.reduceLeDiff,Nat.reduceLT,Int.reduceToNat,Int.reduceLE,Int.reduceLT,Za,men]
theorem Zom(sig:List TControl)(s:TTermStep)(hn:sig.length<=4294967296)(hbs:∀ y∈sig,Jc 4294967296 y)(hb:Yx 4294967296 s)(hs:Z2 sig)(h:stepOK sig s)(h3:s.kind_=3)(lvl:Nat)(S:Zc):Sem Uch ZcA lvl [.tr (.sl (sig.map Zr)),iI s.control,.tr (.sl (rS s.names))] S (.tu [Zw (V7 s),iB true]) S:=by
 obtain⟨k,c,t,ns⟩:=s
 obtain⟨b1,b2⟩:=hb
 simp only at b1 b2 h3
 have hw:=h.ctl h3
 have hp:=h.ports h3
 have hnm:=h.nms
 simp only at hw hp hnm
 have hpl:=Dz hs (c:=c)
 obtain⟨m,hm⟩:∃ m:Nat,c=m:=⟨c.toNat,by omega⟩
 have hms:m<sig.length:=by omega
 have gs:=Z6 (c:=Zr) hms
 have e:YY sig c=sig[m].ports:=by simp [YY,hm,hms]
 have hpp:(ns.length:Int)=sig[m].ports:=by rw[<-e];exact hp
 have q:=Zok (fe:=ZcO) ns b1 fun n hn lvl S=>ZED n (b2 n hn) lvl S
 rw[ZY hnm] at q
 refine Zi ZBr (by simp [Zw,low,men,Za]) ?_
 simp only[ZlS,Uaa,Zb,↓reduceIte,Nat.reduceEqDiff,Nat.reduceMul,reduceCtorEq,Nat.reduceAdd,Nat.reduceSub,Nat.reduceLeDiff,Nat.reduceLT,Int.reduceToNat,Int.reduceLE,Int.reduceLT,Za,men]
 refine Zf (ZgJ sig (by omega) fun y hy=>UaI (hbs y hy) (by omega)) ?_
 rw[ZY hs]
 simp only[Uaa,Zb,↓reduceIte,Nat.reduceEqDiff,Nat.reduceMul,reduceCtorEq,Nat.reduceAdd,Nat.reduceSub,Nat.reduceLeDiff,Nat.reduceLT,Int.reduceToNat,Int.reduceLE,Int.reduceLT,Za,men]
 refine⟨by rw[Zg];omega,Zf (QZ c 0 ((sig.length:Int)-1)) ?_⟩
 rw[inB_iff.2 hw]
 simp only[hm,gs,hpp,Zr,Uaa,Zb,↓reduceIte,Nat.reduceEqDiff,Nat.reduceMul,reduceCtorEq,Nat.reduceAdd,Nat.reduceSub,Nat.reduceLeDiff,Nat.reduceLT,Int.reduceToNat,Int.reduceLE,Int.reduceLT,Za,men]
 refine Zf q ?_
 simp only[Zb,↓reduceIte,Nat.reduceEqDiff,Nat.reduceMul,reduceCtorEq,Nat.reduceAdd,Nat.reduceSub,Nat.reduceLeDiff,Nat.reduceLT,Int.reduceToNat,Int.reduceLE,Int.reduceLT,Za,men]
 refine Zf (Zm5 ns (by omega)) ?_
 simp only[Uaa,Zb,↓reduceIte,Nat.reduceEqDiff,Nat.reduceMul,reduceCtorEq,Nat.reduceAdd,Nat.reduceSub,Nat.reduceLeDiff,Nat.reduceLT,Int.reduceToNat,Int.reduceLE,Int.reduceLT,Za,men]
 obtain⟨o,ho⟩:∃ o,o=ZM ns:=⟨_,rfl⟩
 rw[<-ho]
 obtain⟨L,hL⟩:∃ L,L=ns.map fun n=>Jf o n:=⟨_,rfl⟩
 have lL:L.length=ns.length:=by rw[hL,Uaa]
 have hol:o.length<=ns.length:=by rw[ho];exact Dv
 refine ZJ (α:=Unit) ns.length (fun j _=>[(45,iI j)]) (fun j _=>[(288,.bx [iI m,iI (-1),.hd (lvl,1344) [] 0 j none j]),(1344,.ar 1 (rI (L.take j)) true j 0)]) (fun _ _=>True) () (by simp only[Zb,↓reduceIte,Nat.reduceEqDiff,Nat.reduceMul,reduceCtorEq,Nat.reduceAdd,Nat.reduceSub,Nat.reduceLeDiff,Nat.reduceLT,Int.reduceToNat,Int.reduceLE,Int.reduceLT,Za,men]) (by (simp only[Zb,↓reduceIte,Nat.reduceEqDiff,Nat.reduceMul,reduceCtorEq,Nat.reduceAdd,Nat.reduceSub,Nat.reduceLeDiff,Nat.reduceLT,Int.reduceToNat,Int.reduceLE,Int.reduceLT,Za,men]) <;> rfl) trivial ?_
 intro j _ hj _
 simp only[Uaa,Zb,↓reduceIte,Nat.reduceEqDiff,Nat.reduceMul,reduceCtorEq,Nat.reduceAdd,Nat.reduceSub,Nat.reduceLeDiff,Nat.reduceLT,Int.reduceToNat,Int.reduceLE,Int.reduceLT,Za,men]
 refine Zs (fun hlt=>?_) (fun hge=>?_)
 ·have hja:j<ns.length:=by omega
  have ga:=Yg (e0:=Jd) (c:=fun n:ByteArray=>[ts n]) hja
  rw[J3 hja] at ga
  have hl2:(L.take j).length=j:=by rw[Uam];omega
  have hco:cut (rS o) 0 o.length=rS o:=Yh (by rw[Uaa])
  have hsu:rI (L.take j)++[[tv (Jf o ns[j])]]=rI (L.take (j+1)):=by
   rw[Uaf (by omega),Yf]
   simp [hL]
  simp only[ga,hja,hco,Uaa,Zb,↓reduceIte,Nat.reduceEqDiff,Nat.reduceMul,reduceCtorEq,Nat.reduceAdd,Nat.reduceSub,Nat.reduceLeDiff,Nat.reduceLT,Int.reduceToNat,Int.reduceLE,Int.reduceLT,Za,men]
  refine Zf (Zm7 o ns[j] (by omega)) ?_
  simp only[hl2,hsu,Uaa,Zb,↓reduceIte,Nat.reduceEqDiff,Nat.reduceMul,reduceCtorEq,Nat.reduceAdd,Nat.reduceSub,Nat.reduceLeDiff,Nat.reduceLT,Int.reduceToNat,Int.reduceLE,Int.reduceLT,Za,men]
  exact⟨by omega,by rw[Zg];omega,Zu () hja rfl trivial⟩
 ·have:j=ns.length:=by omega
  subst this
  rw[<-lL,Uaw]
  simp only[Uaa,Zb,↓reduceIte,Nat.reduceEqDiff,Nat.reduceMul,reduceCtorEq,Nat.reduceAdd,Nat.reduceSub,Nat.reduceLeDiff,Nat.reduceLT,Int.reduceToNat,Int.reduceLE,Int.reduceLT,Za,men]
  simp only[Zw,V7,<-ho,<-hL,hm]
  try rfl
theorem ZEE(sig:List TControl)(s:TTermStep)(hn:sig.length<=4294967296)(hbs:∀ y∈sig,Jc 4294967296 y)(hb:Yx 4294967296 s)(hs:Z2 sig)(h:stepOK sig s)(h3:s.kind_=3)(hk:¬ YG sig s.control=2)(lvl:Nat)(S:Zc):Sem Uch Zf7 lvl [.tr (.sl (sig.map Zr)),iI s.control,.tr (.sl (rS s.names))] S (.tu [Zw (Yj s),iB true]) S:=by
 have hw:=h.ctl h3
 obtain⟨m,hm⟩:∃ m:Nat,s.control=m:=⟨s.control.toNat,by omega⟩
 have hms:m<sig.length:=by omega
 have gs:=Z6 (c:=Zr) hms
 have e:YG sig s.control=sig[m].kind_:=by simp [YG,hm,hms]
 rw[e] at hk
 have q:=Zom sig s hn hbs hb hs h h3
 refine Zi ZAW (by simp [Zw,low,men,Za]) ?_
 simp only[Zlm,Zb,↓reduceIte,Nat.reduceEqDiff,Nat.reduceMul,reduceCtorEq,Nat.reduceAdd,Nat.reduceSub,Nat.reduceLeDiff,Nat.reduceLT,Int.reduceToNat,Int.reduceLE,Int.reduceLT,Za,men]
 refine Zf q ?_
 simp only[Zw,V7,hm,gs,hk,Zr,Uaa,Zb,↓reduceIte,Nat.reduceEqDiff,Nat.reduceMul,reduceCtorEq,Nat.reduceAdd,Nat.reduceSub,Nat.reduceLeDiff,Nat.reduceLT,Int.reduceToNat,Int.reduceLE,Int.reduceLT,Za,men]
 simp only[Zw,Yj,hm]
 try rfl
theorem ZEF(sig:List TControl)(s:TTermStep)(hn:sig.length<=4294967296)(hbs:∀ y∈sig,Jc 4294967296 y)(hb:Yx 4294967296 s)(hs:Z2 sig)(h:stepOK sig s)(h3:s.kind_=3)(lvl:Nat)(S:Zc):Sem Uch Zf9 lvl [.tr (.sl (sig.map Zr)),iI s.control,.tr (.sl (rS s.names))] S (.tu [Zw (V7 s),iB true]) S:=by
 have q:=Zom sig s hn hbs hb hs h h3
 refine Zi ZAY (by simp [Zw,low,men,Za]) ?_
 simp only[Zlo,Zb,↓reduceIte,Nat.reduceEqDiff,Nat.reduceMul,reduceCtorEq,Nat.reduceAdd,Nat.reduceSub,Nat.reduceLeDiff,Nat.reduceLT,Int.reduceToNat,Int.reduceLE,Int.reduceLT,Za,men]
 refine Zf q ?_
 simp only[Zw,Uaa,Zb,↓reduceIte,Nat.reduceEqDiff,Nat.reduceMul,reduceCtorEq,Nat.reduceAdd,Nat.reduceSub,Nat.reduceLeDiff,Nat.reduceLT,Int.reduceToNat,Int.reduceLE,Int.reduceLT,Za,men]
noncomputable def ZdD(sig:List TControl)(s:TTermStep)(x:TBigraph):TBigraph:=@ite _ (Y8 sig s x) (Classical.propDecidable _) (YO (Yj s) x) JL
theorem ZEG(sig:List TControl)(s:TTermStep)(x:TBigraph)(hn:sig.length<=4294967296)(hbs:∀ y∈sig,Jc 4294967296 y)(hb:Yx 4294967296 s)(h:stepOK sig s)(h3:s.kind_=3)(hx:bigOK sig x)(hi:x.inner=[])(lvl:Nat)(S:Zc):Sem Uch ZfY lvl [.tr (.sl (sig.map Zr)),.ag ((Zv s).map .tr),.ag ((Ze x).map .tr)] S (.tu [Zw (ZdD sig s x),iB (dc (Y8 sig s x))]) S:=by
 have hs:=hx.sg
 have hw:=h.ctl h3
 obtain⟨m,hm⟩:∃ m:Nat,s.control=m:=⟨s.control.toNat,by omega⟩
 have hms:m<sig.length:=by omega
 have gs:=Z6 (c:=Zr) hms
 have e:YG sig s.control=sig[m].kind_:=by simp [YG,hm,hms]
 have x1:=hx.small.nodes;have x2:=hx.small.sites
 refine Zi ZAG (by simp [Zw,low,men,Za]) ?_
 simp only[Zk6,Zv,Ze,Zb,↓reduceIte,Nat.reduceEqDiff,Nat.reduceMul,reduceCtorEq,Nat.reduceAdd,Nat.reduceSub,Nat.reduceLeDiff,Nat.reduceLT,Int.reduceToNat,Int.reduceLE,Int.reduceLT,Za,men]
 unfold ZdD
 by_cases hr:x.roots=1
 ·by_cases hk:sig[m].kind_=2
  ·by_cases hz:(x.nodes.length:Int)+x.sites.length=0
   ·have z1:x.nodes=[]:=UaS.1 (by omega)
    have z2:x.sites=[]:=UaS.1 (by omega)
    have hA:=ZEj hs h h3
    have e1:=ZEn (s:=s) hr z1 z2 hi
    have e2:=Zn0 (Zhh hA hx) (sig:=sig)
    have hpr:(J0 (V7 s) x).roots<=4:=by show (1:Int)+x.roots<=4;omega
    have hpa:Yz sig (V7 s) x↔Y8 sig s x:=by
     constructor
     ·rintro⟨_,_,_,g⟩
      exact⟨hr,fun _=>⟨z1,z2⟩,by rw[<-e1];exact(e2.2 g).1⟩
     ·rintro⟨_,_,g⟩
      rw[<-e1] at g
      exact⟨hA,hx,fun n hn=>by simp [inn,V7] at hn,e2.1 ⟨g,hpr⟩⟩
    have qa:=ZEF sig s hn hbs hb hs h h3
    simp only[hm] at qa
    simp only[hr,hk,hm,gs,z1,z2,Zr,Uaa,Zb,↓reduceIte,Nat.reduceEqDiff,Nat.reduceMul,reduceCtorEq,Nat.reduceAdd,Nat.reduceSub,Nat.reduceLeDiff,Nat.reduceLT,Int.reduceToNat,Int.reduceLE,Int.reduceLT,Za,men]
    refine⟨by rw[Zg];omega,?_⟩
    rw[if_neg (by decide)]
    refine Zf qa ?_
    simp only[Zw,hr,z1,z2,Uaa,Zb,↓reduceIte,Nat.reduceEqDiff,Nat.reduceMul,reduceCtorEq,Nat.reduceAdd,Nat.reduceSub,Nat.reduceLeDiff,Nat.reduceLT,Int.reduceToNat,Int.reduceLE,Int.reduceLT,Za,men]
    have qm:=Zn9 sig (V7 s) x hn hbs (Qi hA) (Qi hx) (Vh hA) (Vh hx)
    unfold Zbc Zbd at qm
    rw[V2 hpa] at qm
    simp only[Ze,hr,z1,z2,Uai,Uaj] at qm
    simp only[J1]
    refine Zf qm ?_
    by_cases g:Y8 sig s x
    ·rw[if_pos g,if_pos (hpa.2 g),e1]
     simp only[Zw,Uaa,Zb,↓reduceIte,Nat.reduceEqDiff,Nat.reduceMul,reduceCtorEq,Nat.reduceAdd,Nat.reduceSub,Nat.reduceLeDiff,Nat.reduceLT,Int.reduceToNat,Int.reduceLE,Int.reduceLT,Za,men]
    ·rw[if_neg g,if_neg (fun k=>g (hpa.1 k))]
     simp only[Zw,Uaa,Zb,↓reduceIte,Nat.reduceEqDiff,Nat.reduceMul,reduceCtorEq,Nat.reduceAdd,Nat.reduceSub,Nat.reduceLeDiff,Nat.reduceLT,Int.reduceToNat,Int.reduceLE,Int.reduceLT,Za,men]
     try rfl
   ·have hno:¬ Y8 sig s x:=fun g=>by
     obtain⟨z1,z2⟩:=g.2.1 (e.trans hk)
     rw[z1,z2] at hz
     simp at hz
    have hz2:(0:Int)<(x.nodes.length:Int)+x.sites.length:=by omega
    rw[if_neg hno,Zt hno]
    simp only[hr,hk,hm,gs,hz2,Zr,Uaa,Zb,↓reduceIte,Nat.reduceEqDiff,Nat.reduceMul,reduceCtorEq,Nat.reduceAdd,Nat.reduceSub,Nat.reduceLeDiff,Nat.reduceLT,Int.reduceToNat,Int.reduceLE,Int.reduceLT,Za,men]
    refine⟨by rw[Zg];omega,?_⟩
    rfl
  ·have hk2:¬ YG sig s.control=2:=by rw[e];exact hk
   have hT:=Zhm hs h h3 hk2
   have hne:Wh sig (Yj s) x↔Y8 sig s x:=by
    constructor
    ·rintro⟨_,g⟩
     exact⟨hr,fun k=>absurd k hk2,g⟩
    ·rintro⟨_,_,g⟩
     exact⟨⟨hT,hx,rfl,by rw[hr];rfl⟩,g⟩
   have qa:=ZEE sig s hn hbs hb hs h h3 hk2
   simp only[hm] at qa
   simp only[hr,hk,hm,gs,Zr,Uaa,Zb,↓reduceIte,Nat.reduceEqDiff,Nat.reduceMul,reduceCtorEq,Nat.reduceAdd,Nat.reduceSub,Nat.reduceLeDiff,Nat.reduceLT,Int.reduceToNat,Int.reduceLE,Int.reduceLT,Za,men]
   refine Zf qa ?_
   simp only[Zw,hr,Uaa,Zb,↓reduceIte,Nat.reduceEqDiff,Nat.reduceMul,reduceCtorEq,Nat.reduceAdd,Nat.reduceSub,Nat.reduceLeDiff,Nat.reduceLT,Int.reduceToNat,Int.reduceLE,Int.reduceLT,Za,men]
   have qm:=ZDJ sig (Yj s) x hn hbs (Qi hT) (Qi hx) (Vh hT) (Vh hx)
   unfold Zhc Zhd at qm
   rw[V2 hne] at qm
   simp only[Ze,hr,Uai,Uaj] at qm
   simp only[J1]
   refine Zf qm ?_
   by_cases g:Y8 sig s x
   ·rw[if_pos g,if_pos (hne.2 g)]
    simp only[Zw,Uaa,Zb,↓reduceIte,Nat.reduceEqDiff,Nat.reduceMul,reduceCtorEq,Nat.reduceAdd,Nat.reduceSub,Nat.reduceLeDiff,Nat.reduceLT,Int.reduceToNat,Int.reduceLE,Int.reduceLT,Za,men]
   ·rw[if_neg g,if_neg (fun k=>g (hne.1 k))]
    simp only[Zw,Uaa,Zb,↓reduceIte,Nat.reduceEqDiff,Nat.reduceMul,reduceCtorEq,Nat.reduceAdd,Nat.reduceSub,Nat.reduceLeDiff,Nat.reduceLT,Int.reduceToNat,Int.reduceLE,Int.reduceLT,Za,men]
    try rfl
 ·have hno:¬ Y8 sig s x:=fun g=>hr g.1
  rw[if_neg hno,Zt hno]
  simp only[hr,Zb,↓reduceIte,Nat.reduceEqDiff,Nat.reduceMul,reduceCtorEq,Nat.reduceAdd,Nat.reduceSub,Nat.reduceLeDiff,Nat.reduceLT,Int.reduceToNat,Int.reduceLE,Int.reduceLT,Za,men]
  rfl
def Zx(x:ZS):List Tr:=Ze x.1++[Tr.sl (rI x.2)]
theorem ZEH(s:TTermStep)(lvl:Nat)(S:Zc):Sem Uch Zf1 lvl [.ag ((Zv s).map .tr)] S (.ag ((Zx (if s.kind_=1 then (XB,[]) else if s.kind_=2 then (XC,[s.site]) else (JL,[]))).map .tr)) S:=by
 obtain⟨k,c,t,ns⟩:=s
 refine Zi ZAL (by simp [low,men,Za,Zx,Ze]) ?_
 by_cases h1:k=1
 ·subst h1
  simp only[ZcY,Zv,Zb,seval,Za,men]
  rfl
 ·by_cases h2:k=2
  ·subst h2
   simp only[ZcY,Zv,Zb,seval,Za,men]
   rfl
  ·rw[if_neg h1,if_neg h2]
   simp only[ZcY,Zv,h1,h2,Zb,seval,Za,men]
   rfl
noncomputable def Uy(sig:List TControl)(s:TTermStep)(xs:List ZS):TBigraph:=((JK sig s xs).map Prod.fst).getD JL
def Je(xs:List ZS):List Int:=(xs.map Prod.snd).flatten
theorem ZEI{sig:List TControl}{s:TTermStep}{xs:List ZS}(h2:¬ s.kind_=2){y:ZS}(h:JK sig s xs=some y)(hl:xs.length=ZT s.kind_):y.2=Je xs:=by
 unfold JK at h
 split at h
 ·rename_i h0
  rw[h0] at hl
  have:xs=[]:=UaS.1 hl
  subst this
  cases h;rfl
 split at h
 ·rename_i h0
  rw[h0] at hl
  have:xs=[]:=UaS.1 hl
  subst this
  cases h;rfl
 split at h
 ·split at h
  ·split at h
   ·cases h;simp [Je]
   ·cases h
  split at h
  ·split at h
   ·cases h;simp [Je]
   ·cases h
  ·split at h
   ·cases h;simp [Je]
   ·cases h
 ·split at h
  ·cases h;simp [Je]
  ·cases h
 ·cases h
theorem DB{xs:List ZS}{j:Nat}(h:j<xs.length):Je (xs.take (j+1))=Je (xs.take j)++(xs[j]).2:=by
 unfold Je
 rw[Uaf h,Uay,List.flatten_append]
 simp
theorem DC{sig:List TControl}{xs:List ZS}(hx:∀ x∈xs,partOK sig x):∀{j:Nat},j<=xs.length->(Je (xs.take j)).length<=4*j
 | 0,_=>by simp [Je]
 | j+1,hj=>by
  have hp:=hx _ (Uak (show j<xs.length by omega))
  have h1:=hp.len
  have h2:=hp.big.sitesL
  rw[DB (by omega),Uad]
  have:=DC hx (j:=j) (by omega)
  omega
theorem Zon{xs:List ZS}(h:xs.length=2):∃ x y,xs=[x,y] :=
 match xs,h with
 | [x,y],_=>⟨x,y,rfl⟩
theorem Zbg{xs:List ZS}(h:xs.length=1):∃ x,xs=[x] :=
 match xs,h with
 | [x],_=>⟨x,rfl⟩
theorem Qj{xs:List ByteArray}(h:xs.length=1):∃ x,xs=[x] :=
 match xs,h with
 | [x],_=>⟨x,rfl⟩
noncomputable def DD(sig:List TControl)(s:TTermStep)(xs:List ZS):ZS:=(JK sig s xs).getD (JL,Je xs)
theorem gS0{n:ByteArray}{l:List ByteArray}(h:l=[n]):gS l 0=n:=by subst h;rfl
theorem Zoo{sig:List TControl}{s:TTermStep}{xs:List ZS}(h:s.kind_=0\/s.kind_=1\/s.kind_=2):JK sig s xs=some (if s.kind_=1 then (XB,[]) else if s.kind_=2 then (XC,[s.site]) else (JL,[])):=by
 unfold JK
 rcases h with h | h | h <;> simp [h]
open Classical in
theorem XD{sig:List TControl}{s:TTermStep}{x:ZS}(h:s.kind_=3\/s.kind_=6\/s.kind_=7):JK sig s [x]=if s.kind_=3 then (if Y8 sig s x.1 then some (YO (Yj s) x.1,x.2) else none) else if s.kind_=6 then (if VI sig x.1 (gS s.names 0) then some (YZ x.1 (gS s.names 0),x.2) else none) else (if YJ sig x.1 (gS s.names 0) then some (Y9 x.1 (gS s.names 0),x.2) else none):=by
 unfold JK
 rw[if_neg (by omega),if_neg (by omega),if_neg (by omega)]
open Classical in
theorem DE{sig:List TControl}{s:TTermStep}{x y:ZS}(h:s.kind_=4\/s.kind_=5):JK sig s [x,y]=if Yz sig x.1 y.1 then some (if s.kind_=4 then Dx x.1 y.1 else J0 x.1 y.1,x.2++y.2) else none:=by
 unfold JK
 rw[if_neg (by omega),if_neg (by omega),if_neg (by omega)]
theorem ZEJ(sig:List TControl)(s:TTermStep)(xs:List ZS)(hn:sig.length<=4294967296)(hbs:∀ y∈sig,Jc 4294967296 y)(hb:Yx 4294967296 s)(h:stepOK sig s)(hl:xs.length=ZT s.kind_)(hx:∀ x∈xs,partOK sig x)(lvl:Nat)(S:Zc):Sem Uch ZfQ lvl [.tr (.sl (sig.map Zr)),.ag ((Zv s).map .tr),.tr (.sl (xs.map Zx))] S (.tu [.ag ((Zx (DD sig s xs)).map .tr),iB (JK sig s xs).isSome]) S:=by
 obtain⟨k,c,t,ns⟩:=s
 have hkind:=h.kind
 simp only at hkind hl
 refine Zi ZAs (by simp [low,men,Za,Zx,Ze]) ?_
 by_cases h012:k=0\/k=1\/k=2
 ·have q:=ZEH ⟨k,c,t,ns⟩
  have e:=Zoo (sig:=sig) (s:=⟨k,c,t,ns⟩) (xs:=xs) h012
  have h3:¬ k=3:=by omega
  have h4:¬ k=4:=by omega
  have h5:¬ k=5:=by omega
  have h6:¬ k=6:=by omega
  have h7:¬ k=7:=by omega
  unfold DD
  rw[e]
  simp only[Uq,Zv,h3,h4,h5,h6,h7,Zb,seval,Za,men]
  refine Zf q ?_
  obtain⟨Q,hQ⟩:∃ Q:ZS,Q=(if k=1 then (XB,[]) else if k=2 then (XC,[t]) else (JL,[])):=⟨_,rfl⟩
  simp only[<-hQ,Zx,Ze]
  simp only[Zb,seval,Za,men]
  try rfl
 ·
  have hso:=fun y=>ZEI (sig:=sig) (s:=⟨k,c,t,ns⟩) (xs:=xs) (y:=y) (by simp only;omega)
  obtain⟨V,hV⟩:∃ V,V=Uy sig ⟨k,c,t,ns⟩ xs:=⟨_,rfl⟩
  obtain⟨ok,hok⟩:∃ ok,ok=(JK sig ⟨k,c,t,ns⟩ xs).isSome:=⟨_,rfl⟩
  have hP:DD sig ⟨k,c,t,ns⟩ xs=(V,Je xs):=by
   rw[hV]
   unfold DD Uy
   cases hm:JK sig ⟨k,c,t,ns⟩ xs with
   | none=>rfl
   | some y =>
    have:=hso y hm hl
    simp only[Option.map_some,Option.getD_some]
    rw[<-this]
  rw[hP,<-hok]
  have hcase:(k=3/\∃ x,xs=[x])\/(k=4/\∃ x y,xs=[x,y])\/(k=5/\∃ x y,xs=[x,y])\/(k=6/\∃ x,xs=[x])\/(k=7/\∃ x,xs=[x]):=by
   have:k=3\/k=4\/k=5\/k=6\/k=7:=by omega
   rcases this with rfl | rfl | rfl | rfl | rfl
   ·exact .inl ⟨rfl,Zbg hl⟩
   ·exact .inr (.inl ⟨rfl,Zon hl⟩)
   ·exact .inr (.inr (.inl ⟨rfl,Zon hl⟩))
   ·exact .inr (.inr (.inr (.inl ⟨rfl,Zbg hl⟩)))
   ·exact .inr (.inr (.inr (.inr ⟨rfl,Zbg hl⟩)))
  have hlen:xs.length<=2:=by
   rw[hl]
   unfold ZT
   split
   ·omega
   ·split <;> omega
  rcases hcase with ⟨rfl,x,hxs⟩ | ⟨rfl,x,y,hxs⟩ | ⟨rfl,x,y,hxs⟩ | ⟨rfl,x,hxs⟩ | ⟨rfl,x,hxs⟩
  ·have hpx:=hx x (by rw[hxs];simp)
   have g0:(xs.map Zx)[0]? = some (Zx x):=by rw[hxs];rfl
   have q:=ZEG sig ⟨3,c,t,ns⟩ x.1 hn hbs hb h rfl hpx.big hpx.inn
   have e1:ZdD sig ⟨3,c,t,ns⟩ x.1=V:=by
    rw[hV,Uy,hxs,XD (.inl rfl),if_pos rfl]
    unfold ZdD
    by_cases g:Y8 sig ⟨3,c,t,ns⟩ x.1
    ·rw[if_pos g,if_pos g];rfl
    ·rw[if_neg g,if_neg g];rfl
   have e2:dc (Y8 sig ⟨3,c,t,ns⟩ x.1)=ok:=by
    rw[hok,hxs,XD (.inl rfl),if_pos rfl]
    by_cases g:Y8 sig ⟨3,c,t,ns⟩ x.1
    ·rw[if_pos g,ZY g];rfl
    ·rw[if_neg g,Zt g];rfl
   rw[e1,e2] at q
   simp only[Uq,Zv,g0,Zx,Ze,Uaa,Zb,seval,Za,men]
   simp only[Zv,Ze,Uai,Uaj] at q
   refine Zf q ?_
   clear q e1 e2 g0
   simp only[Zw,Uaa,Zb,seval,Za,men]
   refine ZJ (α:=Unit) xs.length (fun j _=>[(96,iI j)]) (fun j _=>[(256,.bx [iI V.roots,.tr (.sl (V.nodes.map ZG)),.tr (.sl (rI V.sites)),iI V.edges,.tr (.sl (rS V.outer)),.tr (.sl (V.inner.map ZO)),.hd (lvl,384) [] 0 (Je (xs.take j)).length none (Je (xs.take j)).length]),(384,.ar 1 (rI (Je (xs.take j))) true (Je (xs.take j)).length 0)]) (fun _ _=>True) () (by simp only[Zb,seval,Za,men]) (by (simp only[Zb,seval,Za,men]) <;> rfl) trivial ?_
   intro j _ hj _
   simp only[Uaa,Zb,seval,Za,men]
   refine Zs (fun hlt=>?_) (fun hge=>?_)
   ·have hja:j<xs.length:=by omega
    have ga:=Z6 (c:=Zx) hja
    have hsl:=DB hja
    have hle:=DC hx (j:=j+1) hja
    rw[hsl,Uad] at hle
    simp only[ga,hja,Zx,Ze,V4,V5,Uad,Uaa,Zb,seval,Za,men]
    refine⟨by omega,by rw[Zg];omega,Zu () hja (by rw[hsl,Uad,Yf,UbG (UbH _ _)];rfl) trivial⟩
   ·have:j=xs.length:=by omega
    subst this
    rw[Uaw]
    rw[show cut (rI (Je xs)) 0 (Je xs).length=rI (Je xs) from J1]
  ·have hpx:=hx x (by rw[hxs];simp)
   have hpy:=hx y (by rw[hxs];simp)
   have g0:(xs.map Zx)[0]? = some (Zx x):=by rw[hxs];rfl
   have g1:(xs.map Zx)[1]? = some (Zx y):=by rw[hxs];rfl
   have q:=Zn9 sig x.1 y.1 hn hbs (Qi hpx.big) (Qi hpy.big) (Vh hpx.big) (Vh hpy.big)
   have e1:Zbc sig x.1 y.1=V:=by
    rw[hV,Uy,hxs,DE (.inl rfl)]
    unfold Zbc
    by_cases g:Yz sig x.1 y.1
    ·rw[if_pos g,if_pos g];rfl
    ·rw[if_neg g,if_neg g];rfl
   have e2:Zbd sig x.1 y.1=ok:=by
    rw[hok,hxs,DE (.inl rfl)]
    unfold Zbd
    by_cases g:Yz sig x.1 y.1
    ·rw[if_pos g,ZY g];rfl
    ·rw[if_neg g,Zt g];rfl
   rw[e1,e2] at q
   simp only[Uq,Zv,g0,g1,Zx,Ze,Uaa,Zb,seval,Za,men]
   simp only[Ze,Uai,Uaj] at q
   refine Zf q ?_
   clear q e1 e2 g0 g1
   simp only[Zw,Uaa,Zb,seval,Za,men]
   refine ZJ (α:=Unit) xs.length (fun j _=>[(96,iI j)]) (fun j _=>[(256,.bx [iI V.roots,.tr (.sl (V.nodes.map ZG)),.tr (.sl (rI V.sites)),iI V.edges,.tr (.sl (rS V.outer)),.tr (.sl (V.inner.map ZO)),.hd (lvl,384) [] 0 (Je (xs.take j)).length none (Je (xs.take j)).length]),(384,.ar 1 (rI (Je (xs.take j))) true (Je (xs.take j)).length 0)]) (fun _ _=>True) () (by simp only[Zb,seval,Za,men]) (by (simp only[Zb,seval,Za,men]) <;> rfl) trivial ?_
   intro j _ hj _
   simp only[Uaa,Zb,seval,Za,men]
   refine Zs (fun hlt=>?_) (fun hge=>?_)
   ·have hja:j<xs.length:=by omega
    have ga:=Z6 (c:=Zx) hja
    have hsl:=DB hja
    have hle:=DC hx (j:=j+1) hja
    rw[hsl,Uad] at hle
    simp only[ga,hja,Zx,Ze,V4,V5,Uad,Uaa,Zb,seval,Za,men]
    refine⟨by omega,by rw[Zg];omega,Zu () hja (by rw[hsl,Uad,Yf,UbG (UbH _ _)];rfl) trivial⟩
   ·have:j=xs.length:=by omega
    subst this
    rw[Uaw]
    rw[show cut (rI (Je xs)) 0 (Je xs).length=rI (Je xs) from J1]
  ·have hpx:=hx x (by rw[hxs];simp)
   have hpy:=hx y (by rw[hxs];simp)
   have g0:(xs.map Zx)[0]? = some (Zx x):=by rw[hxs];rfl
   have g1:(xs.map Zx)[1]? = some (Zx y):=by rw[hxs];rfl
   have q:=ZnZ sig x.1 y.1 hn hbs (Qi hpx.big) (Qi hpy.big) (Vh hpx.big) (Vh hpy.big)
   have e1:Zba sig x.1 y.1=V:=by
    rw[hV,Uy,hxs,DE (.inr rfl)]
    unfold Zba
    by_cases g:Yz sig x.1 y.1
    ·rw[if_pos g,if_pos g];rfl
    ·rw[if_neg g,if_neg g];rfl
   have e2:Zbb sig x.1 y.1=ok:=by
    rw[hok,hxs,DE (.inr rfl)]
    unfold Zbb
    by_cases g:Yz sig x.1 y.1
    ·rw[if_pos g,ZY g];rfl
    ·rw[if_neg g,Zt g];rfl
   rw[e1,e2] at q
   simp only[Uq,Zv,g0,g1,Zx,Ze,Uaa,Zb,seval,Za,men]
   simp only[Ze,Uai,Uaj] at q
   refine Zf q ?_
   clear q e1 e2 g0 g1
   simp only[Zw,Uaa,Zb,seval,Za,men]
   refine ZJ (α:=Unit) xs.length (fun j _=>[(96,iI j)]) (fun j _=>[(256,.bx [iI V.roots,.tr (.sl (V.nodes.map ZG)),.tr (.sl (rI V.sites)),iI V.edges,.tr (.sl (rS V.outer)),.tr (.sl (V.inner.map ZO)),.hd (lvl,384) [] 0 (Je (xs.take j)).length none (Je (xs.take j)).length]),(384,.ar 1 (rI (Je (xs.take j))) true (Je (xs.take j)).length 0)]) (fun _ _=>True) () (by simp only[Zb,seval,Za,men]) (by (simp only[Zb,seval,Za,men]) <;> rfl) trivial ?_
   intro j _ hj _
   simp only[Uaa,Zb,seval,Za,men]
   refine Zs (fun hlt=>?_) (fun hge=>?_)
   ·have hja:j<xs.length:=by omega
    have ga:=Z6 (c:=Zx) hja
    have hsl:=DB hja
    have hle:=DC hx (j:=j+1) hja
    rw[hsl,Uad] at hle
    simp only[ga,hja,Zx,Ze,V4,V5,Uad,Uaa,Zb,seval,Za,men]
    refine⟨by omega,by rw[Zg];omega,Zu () hja (by rw[hsl,Uad,Yf,UbG (UbH _ _)];rfl) trivial⟩
   ·have:j=xs.length:=by omega
    subst this
    rw[Uaw]
    rw[show cut (rI (Je xs)) 0 (Je xs).length=rI (Je xs) from J1]
  ·have hpx:=hx x (by rw[hxs];simp)
   have g0:(xs.map Zx)[0]? = some (Zx x):=by rw[hxs];rfl
   obtain⟨n,rfl⟩:∃ n,ns=[n]:=by
    exact Qj (h.one (.inl rfl))
   have q:=ZC7 sig x.1 n hn hbs (Qi hpx.big) (hb.2 n (by simp)) (Vh hpx.big)
   have e1:Xw sig x.1 n=V:=by
    rw[hV,Uy,hxs,XD (.inr (.inl rfl)),if_neg (by simp),if_pos rfl]
    unfold Xw
    show _=((@ite _ (VI sig x.1 n) (Classical.propDecidable _) _ _:Option ZS).map Prod.fst).getD JL
    by_cases g:VI sig x.1 n
    ·rw[if_pos g,if_pos g];rfl
    ·rw[if_neg g,if_neg g];rfl
   have e2:Xx sig x.1 n=ok:=by
    rw[hok,hxs,XD (.inr (.inl rfl)),if_neg (by simp),if_pos rfl]
    unfold Xx
    show _=(@ite _ (VI sig x.1 n) (Classical.propDecidable _) _ _:Option ZS).isSome
    by_cases g:VI sig x.1 n
    ·rw[if_pos g,ZY g];rfl
    ·rw[if_neg g,Zt g];rfl
   rw[e1,e2] at q
   simp only[Uq,Zv,g0,Zx,Ze,Uaa,Zb,seval,Za,men]
   simp only[Ze,Uai,Uaj] at q
   refine Zf q ?_
   clear q e1 e2 g0
   simp only[Zw,Uaa,Zb,seval,Za,men]
   refine ZJ (α:=Unit) xs.length (fun j _=>[(96,iI j)]) (fun j _=>[(256,.bx [iI V.roots,.tr (.sl (V.nodes.map ZG)),.tr (.sl (rI V.sites)),iI V.edges,.tr (.sl (rS V.outer)),.tr (.sl (V.inner.map ZO)),.hd (lvl,384) [] 0 (Je (xs.take j)).length none (Je (xs.take j)).length]),(384,.ar 1 (rI (Je (xs.take j))) true (Je (xs.take j)).length 0)]) (fun _ _=>True) () (by simp only[Zb,seval,Za,men]) (by (simp only[Zb,seval,Za,men]) <;> rfl) trivial ?_
   intro j _ hj _
   simp only[Uaa,Zb,seval,Za,men]
   refine Zs (fun hlt=>?_) (fun hge=>?_)
   ·have hja:j<xs.length:=by omega
    have ga:=Z6 (c:=Zx) hja
    have hsl:=DB hja
    have hle:=DC hx (j:=j+1) hja
    rw[hsl,Uad] at hle
    simp only[ga,hja,Zx,Ze,V4,V5,Uad,Uaa,Zb,seval,Za,men]
    refine⟨by omega,by rw[Zg];omega,Zu () hja (by rw[hsl,Uad,Yf,UbG (UbH _ _)];rfl) trivial⟩
   ·have:j=xs.length:=by omega
    subst this
    rw[Uaw]
    rw[show cut (rI (Je xs)) 0 (Je xs).length=rI (Je xs) from J1]
  ·have hpx:=hx x (by rw[hxs];simp)
   have g0:(xs.map Zx)[0]? = some (Zx x):=by rw[hxs];rfl
   obtain⟨n,rfl⟩:∃ n,ns=[n]:=by
    exact Qj (h.one (.inr rfl))
   have q:=ZEw sig x.1 n hn hbs (Qi hpx.big) (hb.2 n (by simp)) (Vh hpx.big)
   have e1:ZdB sig x.1 n=V:=by
    rw[hV,Uy,hxs,XD (.inr (.inr rfl)),if_neg (by simp),if_neg (by simp)]
    unfold ZdB
    show _=((@ite _ (YJ sig x.1 n) (Classical.propDecidable _) _ _:Option ZS).map Prod.fst).getD JL
    by_cases g:YJ sig x.1 n
    ·rw[if_pos g,if_pos g];rfl
    ·rw[if_neg g,if_neg g];rfl
   have e2:dc (YJ sig x.1 n)=ok:=by
    rw[hok,hxs,XD (.inr (.inr rfl)),if_neg (by simp),if_neg (by simp)]
    show _=(@ite _ (YJ sig x.1 n) (Classical.propDecidable _) _ _:Option ZS).isSome
    by_cases g:YJ sig x.1 n
    ·rw[if_pos g,ZY g];rfl
    ·rw[if_neg g,Zt g];rfl
   rw[e1,e2] at q
   simp only[Uq,Zv,g0,Zx,Ze,Uaa,Zb,seval,Za,men]
   simp only[Ze,Uai,Uaj] at q
   refine Zf q ?_
   clear q e1 e2 g0
   simp only[Zw,Uaa,Zb,seval,Za,men]
   refine ZJ (α:=Unit) xs.length (fun j _=>[(96,iI j)]) (fun j _=>[(256,.bx [iI V.roots,.tr (.sl (V.nodes.map ZG)),.tr (.sl (rI V.sites)),iI V.edges,.tr (.sl (rS V.outer)),.tr (.sl (V.inner.map ZO)),.hd (lvl,384) [] 0 (Je (xs.take j)).length none (Je (xs.take j)).length]),(384,.ar 1 (rI (Je (xs.take j))) true (Je (xs.take j)).length 0)]) (fun _ _=>True) () (by simp only[Zb,seval,Za,men]) (by (simp only[Zb,seval,Za,men]) <;> rfl) trivial ?_
   intro j _ hj _
   simp only[Uaa,Zb,seval,Za,men]
   refine Zs (fun hlt=>?_) (fun hge=>?_)
   ·have hja:j<xs.length:=by omega
    have ga:=Z6 (c:=Zx) hja
    have hsl:=DB hja
    have hle:=DC hx (j:=j+1) hja
    rw[hsl,Uad] at hle
    simp only[ga,hja,Zx,Ze,V4,V5,Uad,Uaa,Zb,seval,Za,men]
    refine⟨by omega,by rw[Zg];omega,Zu () hja (by rw[hsl,Uad,Yf,UbG (UbH _ _)];rfl) trivial⟩
   ·have:j=xs.length:=by omega
    subst this
    rw[Uaw]
    rw[show cut (rI (Je xs)) 0 (Je xs).length=rI (Je xs) from J1]
noncomputable def DF(sig:List TControl)(t:List TTermStep):YK:=(JP sig t).getD ([],0)
theorem Zhp{sig:List TControl}{t:List TTermStep}(h:JP sig t=none):DF sig t=([],0):=by unfold DF;rw[h];rfl
theorem Zop{sig:List TControl}{t:List TTermStep}{z:YK}(h:JP sig t=some z):DF sig t=z:=by unfold DF;rw[h];rfl
theorem Qk{l:List ZS}:Zz 7 (l.map Zx)=True:=eq_true (Ug Zx (fun _=>rfl) l)
theorem Zoq{l:List ZS}{a n:Nat}:cut (l.map Zx) a n=((l.drop a).take n).map Zx:=by
 rw[cut,<-List.map_drop,<-UbK]
theorem ZEK{l:List ZS}{a:Nat}:cut (l.map Zx) a (l.length-a)=(l.drop a).map Zx:=by
 rw[Zoq,Uau (by rw[UaW];omega)]
theorem XE{l:List ZS}{a:Nat}:cut (l.map Zx) 0 a=(l.take a).map Zx:=by
 rw[Zoq,Ubw]
theorem ZEL(sig:List TControl)(t:List TTermStep)(hn:sig.length<=4294967296)(hbs:∀ y∈sig,Jc 4294967296 y)(hbt:∀ y∈t,Yx 4294967296 y)(hs:Z2 sig)(hl:t.length<=60)(lvl:Nat)(S:Zc):Sem Uch ZfG lvl [.tr (.sl (sig.map Zr)),.tr (.sl (t.map Zv))] S (.tu [.tr (.sl ((DF sig t).1.map Zx)),iI ((DF sig t).2:Nat),iB (JP sig t).isSome]) S:=by
 refine Zi ZAf (by simp [low,men,Za]) ?_
 simp only[ZkK,Uaa,Zb,seval,Za,men]
 refine ZJ (α:=YK) t.length (fun j z=>[(7,.tr (.sl (z.1.map Zx))),(8,iI z.2),(17,iI j)]) (fun _ _=>[]) (fun j z=>JP sig (t.take j)=some z) ([],0) (by simp only[Zb,seval,Za,men]) (by (simp only[Zb,seval,Za,men]) <;> rfl) (by rw[List.take_zero];exact Zhl) ?_
 intro j z hj hA
 have hz:=Zbf hs hj hA
 simp only[Uaa,Zb,seval,Za,men]
 refine Zs (fun hlt=>?_) (fun hge=>?_)
 ·have hja:j<t.length:=by omega
  have ga:=Z6 (c:=Zv) hja
  have hb:=hbt _ (Uak hja)
  have hsu:=Zdy (sig:=sig) hja
  rw[hA] at hsu
  obtain⟨s,hs'⟩:∃ s,s=t[j]:=⟨_,rfl⟩
  rw[<-hs'] at ga hb hsu
  have hbad:YL sig z s=none->JP sig t=none:=fun g=>Zdz (j:=j+1) (by rw[hsu];exact g)
  have q1:=ZEA sig s hn hb
  have q2:=Zol s.kind_ s.control s.site s.names
  obtain⟨k,c,p,ns⟩:=s
  simp only[Zv,Uai,Uaj] at ga q1 q2
  simp only[ga,hja,Uaa,Zb,seval,Za,men]
  refine Zf q1 ?_
  cases hg:dc (stepOK sig ⟨k,c,p,ns⟩)
  ·have e:=hbad (Zbe fun g=>dc_not.1 hg g.1)
   rw[e,Zhp e]
   simp only[Zb,seval,Za,men]
   try rfl
  have hok:=dc_iff.1 hg
  have hnd:=ZEz hok
  simp only at hnd
  simp only[Zb,seval,Za,men]
  refine Zf q2 ?_
  rw[hnd]
  simp only[Uaa,Zb,seval,Za,men]
  refine Zs (fun hlo=>?_) (fun hlo=>?_)
  ·have e:=hbad (Zbe fun g=>by have:=g.2;simp only at this;omega)
   rw[e,Zhp e]
   try rfl
  have htk:ZT k<=z.1.length:=by omega
  refine Zf q2 ?_
  rw[hnd]
  simp only[Uaa,Zb,seval,Za,men]
  have hat:((z.1.length:Int)-(ZT k:Int))=((z.1.length-ZT k:Nat):Int):=by omega
  rw[hat]
  obtain⟨a,ha⟩:∃ a,a=z.1.length-ZT k:=⟨_,rfl⟩
  rw[<-ha]
  have q3:=ZEJ sig ⟨k,c,p,ns⟩ (z.1.drop a) hn hbs hb hok (by rw[UaW];simp only;omega) (fun x hx=>hz.1 x (UbE hx))
  simp only[Zv,Uai,Uaj] at q3
  simp only[Qk,Zb,seval,Za,men]
  simp only[Int.toNat_natCast,ZEK]
  refine⟨by rw[Zg];omega,?_⟩
  refine⟨?_,?_,Zf q3 ?_⟩
  ·first | omega | simp [Qk]
  ·first | omega | simp [Qk]
  obtain⟨V,hV⟩:∃ V,V=DD sig ⟨k,c,p,ns⟩ (z.1.drop a):=⟨_,rfl⟩
  rw[<-hV]
  simp only[Zx,Ze]
  cases hm:JK sig ⟨k,c,p,ns⟩ (z.1.drop a) with
  | none =>
   have e:=hbad (Zod (by show JK _ _ (z.1.drop (z.1.length-ZT k))=none;rw[<-ha];exact hm))
   rw[e,Zhp e]
   simp only[Option.isSome_none,Zb,seval,Za,men]
   try rfl
  | some y =>
   have e:=Zoc hok (z:=z) htk (by show JK _ _ (z.1.drop (z.1.length-ZT k))=some y;rw[<-ha];exact hm)
   have hy:V=y:=by rw[hV,DD,hm];rfl
   subst hy
   simp only[Option.isSome_some,Uaa,Qk,Zb,seval,Za,men]
   have e3:cut (z.1.map Zx) 0 (a-0)++[[Tr.v (Value.int .i64 V.1.roots),Tr.sl (V.1.nodes.map ZG),Tr.sl (rI V.1.sites),Tr.v (Value.int .i64 V.1.edges),Tr.sl (rS V.1.outer),Tr.sl (V.1.inner.map ZO),Tr.sl (rI V.2)]]=(z.1.take a++[V]).map Zx:=by
    rw[Nat.sub_zero,XE,Uay]
    rfl
   have e4:(cut (z.1.map Zx) 0 (a-0)).length=a:=by
    rw[Nat.sub_zero,XE,Uaa,Uam]
    omega
   have e5:max (z.2:Int) ((a+1:Nat):Int)=((max z.2 (a+1):Nat):Int):=by omega
   have e6:((z.1.take a++[V]).map Zx).length=a+1:=by
    rw[Uaa,Uad,Uam]
    simp
    omega
   rw[e3,e4,e6,e5]
   refine⟨fun g=>g.elim,by omega,by omega,by omega,by rw[Nat.sub_zero,XE,Qk];trivial,rfl,by rw[Zg];omega,Zu (z.1.take a++[V],max z.2 (a+1)) hja rfl ?_⟩
   rw[hsu]
   show YL sig z _=_
   rw[e]
   show some (z.1.take (z.1.length-ZT k)++[V],max z.2 (z.1.length-ZT k+1))=_
   rw[<-ha]
 ·have:j=t.length:=by omega
  subst this
  rw[Uaw] at hA
  rw[hA,Zop hA]
  simp only[Zb,seval,Za,men]
  try rfl
theorem ZEM(sig:List TControl)(s:TTermStep)(hn:sig.length<=4294967296)(hb:Yx 4294967296 s)(lvl:Nat)(S:Zc):Sem Uch ZfJ lvl [.tr (.sl (sig.map Zr)),.ag ((Zv s).map .tr)] S (iB (dc (stepOK sig s))) S:=by
 obtain⟨k,c,t,ns⟩:=s
 obtain⟨b1,b2⟩:=hb
 simp only at b1 b2
 have qn:=ZEB ns b1 b2
 have d23:¬ (2:Int)=3:=by decide
 have d32:¬ (3:Int)=2:=by decide
 have d62:¬ (6:Int)=2:=by decide
 have d63:¬ (6:Int)=3:=by decide
 have d72:¬ (7:Int)=2:=by decide
 have d73:¬ (7:Int)=3:=by decide
 have d76:¬ (7:Int)=6:=by decide
 refine Zi ZAi trivial ?_
 by_cases h2:k=2
 ·subst h2
  by_cases hc:c=0
  ·subst hc
   simp only[Wa,Zv,d23,Zb,seval,Za,men]
   refine Zf (Y6 t 0 3) ?_
   cases hW:Jo t 0 3
   ·rw[Zt fun g:stepOK sig ⟨2,0,t,ns⟩=>inB_not.1 hW (g.site rfl)]
    simp only[Zb,seval,Za,men]
   ·simp only[Uaa,Zb,seval,Za,men]
    by_cases hl:(ns.length:Int)=0
    ·have hyes:stepOK sig ⟨2,0,t,ns⟩:=⟨by simp,fun _=>rfl,fun g=>absurd rfl g,fun n hn=>by
      have:ns=[]:=UaS.1 (by omega)
      simp [this] at hn,fun _=>inB_iff.1 hW,fun g=>by simp at g,fun g=>by simp at g,fun g=>by simp at g,fun _ _ _=>by simp only;omega⟩
     rw[ZY hyes]
     simp [hl]
    ·rw[Zt fun g:stepOK sig ⟨2,0,t,ns⟩=>hl (by have:=g.non (by simp) (by simp) (by simp);simp only at this;omega)]
     simp [hl]
     exact fun e=>hl (by simp [e])
  ·rw[Zt fun g:stepOK sig ⟨2,c,t,ns⟩=>hc (g.ctl0 (by simp))]
   simp only[Wa,Zv,hc,d23,Zb,seval,Za,men]
 by_cases h3:k=3
 ·subst h3
  by_cases ht:t=0
  ·subst ht
   simp only[Wa,Zv,d32,Uaa,Zb,seval,Za,men]
   refine⟨by rw[Zg];omega,Zf (Y6 c 0 ((sig.length:Int)-1)) ?_⟩
   cases hW:Jo c 0 ((sig.length:Int)-1)
   ·rw[Zt fun g:stepOK sig ⟨3,c,0,ns⟩=>inB_not.1 hW (g.ctl rfl)]
    simp only[Zb,seval,Za,men]
   ·have hw:=inB_iff.1 hW
    obtain⟨m,hm⟩:∃ m:Nat,c=m:=⟨c.toNat,by omega⟩
    have hms:m<sig.length:=by omega
    have gs:=Z6 (c:=Zr) hms
    have e:YY sig c=sig[m].ports:=by simp [YY,hm,hms]
    simp only[hm,gs,Zr,Uaa,Zb,seval,Za,men]
    by_cases hp:(ns.length:Int)=sig[m].ports
    ·simp only[hp,Zb,seval,Za,men]
     refine Zf qn ?_
     simp only[Zb,seval,Za,men]
     have:stepOK sig ⟨3,c,0,ns⟩↔∀ n∈ns,Jw n:=⟨fun g=>g.nms,fun g=>⟨by simp,fun g=>absurd rfl g,fun _=>rfl,g,fun g=>by simp at g,fun _=>hw,fun _=>by rw[e];exact hp,fun g=>by simp at g,fun g=>absurd rfl g⟩⟩
     rw[<-hm,V2 this]
    ·rw[<-hm,Zt fun g:stepOK sig ⟨3,c,0,ns⟩=>hp (by rw[<-e];exact g.ports rfl)]
     simp only[hp,Zb,seval,Za,men]
  ·rw[Zt fun g:stepOK sig ⟨3,c,t,ns⟩=>ht (g.site0 (by simp))]
   simp only[Wa,Zv,ht,d32,Zb,seval,Za,men]
 by_cases hc:c=0
 ·subst hc
  by_cases ht:t=0
  ·subst ht
   by_cases h67:k=6\/k=7
   ·rcases h67 with rfl | rfl
    all_goals
     simp only[Wa,Zv,d62,d63,d72,d73,d76,Uaa,Zb,seval,Za,men]
     by_cases hp:(ns.length:Int)=1
     ·simp only[hp,Zb,seval,Za,men]
      refine Zf qn ?_
      simp only[Zb,seval,Za,men]
      rw[V2 (show stepOK sig ⟨_,0,0,ns⟩↔∀ n∈ns,Jw n from ⟨fun g=>g.nms,fun g=>⟨by simp,fun _=>rfl,fun _=>rfl,g,fun g=>by simp at g,fun g=>by simp at g,fun g=>by simp at g,fun _=>by simp only;omega,fun g1 g2 g3=>by simp at g2 g3⟩⟩)]
     ·rw[Zt fun g:stepOK sig ⟨_,0,0,ns⟩=>hp (by have:=g.one (by simp);simp only at this;omega)]
      simp only[hp,Zb,seval,Za,men]
   have h6:¬ k=6:=fun e=>h67 (.inl e)
   have h7:¬ k=7:=fun e=>h67 (.inr e)
   simp only[Wa,Zv,h2,h3,h6,h7,Zb,seval,Za,men]
   refine Zf (Y6 k 0 5) ?_
   cases hW:Jo k 0 5
   ·rw[Zt fun g:stepOK sig ⟨k,0,0,ns⟩=>inB_not.1 hW (by have:=g.kind;simp only at this;omega)]
    simp only[Zb,seval,Za,men]
   ·have hw:=inB_iff.1 hW
    simp only[Uaa,Zb,seval,Za,men]
    by_cases hl:(ns.length:Int)=0
    ·have hyes:stepOK sig ⟨k,0,0,ns⟩:=⟨by simp only;omega,fun _=>rfl,fun _=>rfl,fun n hn=>by
      have:ns=[]:=UaS.1 (by omega)
      simp [this] at hn,fun g=>absurd g h2,fun g=>absurd g h3,fun g=>absurd g h3,fun g=>g.elim (fun e=>absurd e h6) (fun e=>absurd e h7),fun _ _ _=>by simp only;omega⟩
     rw[ZY hyes]
     simp [hl]
    ·rw[Zt fun g:stepOK sig ⟨k,0,0,ns⟩=>hl (by have:=g.non h3 h6 h7;simp only at this;omega)]
     simp [hl]
     exact fun e=>hl (by simp [e])
  ·rw[Zt fun g:stepOK sig ⟨k,0,t,ns⟩=>ht (g.site0 h2)]
   simp only[Wa,Zv,h2,h3,ht,Zb,seval,Za,men]
 ·rw[Zt fun g:stepOK sig ⟨k,c,t,ns⟩=>hc (g.ctl0 h3)]
  simp only[Wa,Zv,h2,h3,hc,Zb,seval,Za,men]
def VN(sig:List TControl):List TControl:=sig.map fun c=>{ c with kind_:=0 }
theorem Zor{sig:List TControl}(h:Z2 sig):Z2 (VN sig):=by
 have hl:(VN sig).length=sig.length:=by simp [VN]
 refine⟨fun i hi=>?_,by rw[hl];exact h.2⟩
 have g:=h.1 i (by omega)
 have e:∀ k (hk:k<(VN sig).length),(VN sig)[k] = { sig[k]'(by omega) with kind_:=0 }:=fun k hk=>by simp [VN]
 refine⟨?_,fun k hk=>?_⟩
 ·rw[e i hi]
  exact⟨g.1.1,g.1.2.1,by show (0:Int)<=0/\(0:Int)<=2;omega⟩
 ·rw[e i hi,e k (by omega)]
  exact g.2 k hk
theorem ZEN{sig:List TControl}{c:Int}:YY (VN sig) c=YY sig c:=by
 unfold YY VN
 rw[Uas]
 cases sig[c.toNat]? <;> rfl
theorem ZEO{sig:List TControl}{c:Int}:YG (VN sig) c=0:=by
 unfold YG VN
 rw[Uas]
 cases sig[c.toNat]? <;> rfl
theorem ZEP{sig:List TControl}{s:TTermStep}(h:stepOK sig s):stepOK (VN sig) s :=
 ⟨h.kind,h.ctl0,h.site0,h.nms,h.site,fun g=>by rw[show (VN sig).length=sig.length by simp [VN]];exact h.ctl g,fun g=>by rw[ZEN];exact h.ports g,h.one,h.non⟩
theorem ZEQ{sig:List TControl}{x:TBigraph}(h:bigOK sig x)(h1:x.nodes=[])(h2:x.sites=[]):bigOK (VN sig) x :=
 ⟨Zor h.sg,h.roots,h.nodesL,h.sitesL,h.edges,h.outer,h.inn,fun i hi=>by simp [h1] at hi,fun p hp=>by simp [h2] at hp,h.inner⟩
theorem ZER{sig:List TControl}{s:TTermStep}(hs:Z2 sig)(h:stepOK sig s)(h3:s.kind_=3){x:TBigraph}(hx:bigOK sig x)(hk:YG sig s.control=2->x.nodes=[]/\x.sites=[]):∃ sg,bigOK sg (Yj s)/\bigOK sg x:=by
 by_cases k:YG sig s.control=2
 ·exact⟨VN sig,Zhm (Zor hs) (ZEP h) h3 (by rw[ZEO];decide),ZEQ hx (hk k).1 (hk k).2⟩
 ·exact⟨sig,Zhm hs h h3 k,hx⟩
theorem ZES(s:TTermStep)(lvl:Nat)(S:Zc):Sem Uch ZfU lvl [.ag ((Zv s).map .tr)] S (.ag ((Zx (if s.kind_=0 then (JL,[]) else if s.kind_=1 then (XB,[]) else (XC,[s.site]))).map .tr)) S:=by
 obtain⟨k,c,t,ns⟩:=s
 refine Zi ZAz (by simp [low,men,Za,Zx,Ze]) ?_
 by_cases h0:k=0
 ·subst h0
  simp only[ZcW,Zv,Zb,↓reduceIte,Nat.reduceEqDiff,Nat.reduceMul,reduceCtorEq,Nat.reduceAdd,Nat.reduceSub,Nat.reduceLeDiff,Nat.reduceLT,Int.reduceToNat,Int.reduceLE,Int.reduceLT,Za,men]
  rfl
 ·by_cases h1:k=1
  ·subst h1
   rw[if_neg h0]
   simp only[ZcW,Zv,h0,Zb,↓reduceIte,Nat.reduceEqDiff,Nat.reduceMul,reduceCtorEq,Nat.reduceAdd,Nat.reduceSub,Nat.reduceLeDiff,Nat.reduceLT,Int.reduceToNat,Int.reduceLE,Int.reduceLT,Za,men]
   rfl
  ·rw[if_neg h0,if_neg h1]
   simp only[ZcW,Zv,h0,h1,Zb,↓reduceIte,Nat.reduceEqDiff,Nat.reduceMul,reduceCtorEq,Nat.reduceAdd,Nat.reduceSub,Nat.reduceLeDiff,Nat.reduceLT,Int.reduceToNat,Int.reduceLE,Int.reduceLT,Za,men]
   rfl
def Zos(sig:List TControl)(s:TTermStep)(x:TBigraph):Prop:=x.roots=1/\(YG sig s.control=2->x.nodes=[]/\x.sites=[])
open Classical in
noncomputable def DG(sig:List TControl)(s:TTermStep)(x:ZS):ZS:=if Zos sig s x.1 then (YO (Yj s) x.1,x.2) else (JL,[])
theorem ZET(sig:List TControl)(s:TTermStep)(x:ZS)(hn:sig.length<=4294967296)(hbs:∀ y∈sig,Jc 4294967296 y)(hb:Yx 4294967296 s)(hs:Z2 sig)(h:stepOK sig s)(h3:s.kind_=3)(hx:partOK sig x)(lvl:Nat)(S:Zc):Sem Uch ZfV lvl [.tr (.sl (sig.map Zr)),.ag ((Zv s).map .tr),.ag ((Zx x).map .tr)] S (.tu [.ag ((Zx (DG sig s x)).map .tr),iB (dc (Y8 sig s x.1))]) S:=by
 have hxb:=hx.big
 have hw:=h.ctl h3
 obtain⟨m,hm⟩:∃ m:Nat,s.control=m:=⟨s.control.toNat,by omega⟩
 have hms:m<sig.length:=by omega
 have gs:=Z6 (c:=Zr) hms
 have e:YG sig s.control=sig[m].kind_:=by simp [YG,hm,hms]
 have x1:=hxb.small.nodes;have x2:=hxb.small.sites
 refine Zi ZAA (by simp [low,men,Za,Zx,Ze]) ?_
 simp only[Zk0,Zv,Zx,Ze,Zb,↓reduceIte,Nat.reduceEqDiff,Nat.reduceMul,reduceCtorEq,Nat.reduceAdd,Nat.reduceSub,Nat.reduceLeDiff,Nat.reduceLT,Int.reduceToNat,Int.reduceLE,Int.reduceLT,Za,men]
 by_cases h0:Zos sig s x.1
 ·have hr:=h0.1
  have hno:DG sig s x=(YO (Yj s) x.1,x.2):=if_pos h0
  rw[hno]
  obtain⟨sg,g1,g2⟩:=ZER hs h h3 hxb h0.2
  have hnl:s.names.length<=3:=by have:=h.ports h3;have:=Dz hs (c:=s.control);omega
  have hsl:=Dv (l:=s.names)
  have q1:=Zdo s.names (by omega)
  have q2:=Za7 s.names 0 (ZM s.names) (by omega) (by omega) (by omega)
  simp only[Int.zero_add] at q2
  have q3:=ZDI sg (Yj s) x.1 g1 g2 (by rw[hr];rfl)
  have q4:=Ut sig (YO (Yj s) x.1) hn hbs (VJ (by omega) (ZnI g1 g2)) (ZnJ g1 g2 (by rw[hr];rfl) (Vh g1) (Vh g2))
  have e4:dc (bigOK sig (YO (Yj s) x.1))=dc (Y8 sig s x.1):=V2 ⟨fun g=>⟨h0.1,h0.2,g⟩,fun g=>g.2.2⟩
  rw[e4] at q4
  obtain⟨B,hB⟩:∃ B,B=YO (Yj s) x.1:=⟨_,rfl⟩
  rw[<-hB] at q3 q4 ⊢
  simp only[Ze,Uai,Uaj] at q4
  by_cases hk:sig[m].kind_=2
  ·obtain⟨z1,z2⟩:=h0.2 (e.trans hk)
   simp only[hr,hk,hm,gs,z1,z2,Zr,Uaa,List.length_nil,Uaj,Zb,↓reduceIte,Nat.reduceEqDiff,Nat.reduceMul,reduceCtorEq,Nat.reduceAdd,Nat.reduceSub,Nat.reduceLeDiff,Nat.reduceLT,Int.reduceToNat,Int.reduceLE,Int.reduceLT,Za,men]
   refine⟨by rw[Zg];omega,?_⟩
   rw[if_neg (by decide)]
   refine Zf q1 ?_
   simp only[Uaa,Zb,↓reduceIte,Nat.reduceEqDiff,Nat.reduceMul,reduceCtorEq,Nat.reduceAdd,Nat.reduceSub,Nat.reduceLeDiff,Nat.reduceLT,Int.reduceToNat,Int.reduceLE,Int.reduceLT,Za,men]
   rw[show cut (rS (ZM s.names)) 0 (ZM s.names).length=rS (ZM s.names) from J1]
   refine Zf q2 ?_
   simp only[Uaa,Zb,↓reduceIte,Nat.reduceEqDiff,Nat.reduceMul,reduceCtorEq,Nat.reduceAdd,Nat.reduceSub,Nat.reduceLeDiff,Nat.reduceLT,Int.reduceToNat,Int.reduceLE,Int.reduceLT,Za,men]
   simp only[Ze,Yj,hr,hm,z1,z2,ZG,Uai,Uaj] at q3
   refine Zf q3 ?_
   simp only[Ze,Uaa,Zb,↓reduceIte,Nat.reduceEqDiff,Nat.reduceMul,reduceCtorEq,Nat.reduceAdd,Nat.reduceSub,Nat.reduceLeDiff,Nat.reduceLT,Int.reduceToNat,Int.reduceLE,Int.reduceLT,Za,men]
   refine Zf q4 ?_
   simp only[Uaa,Zb,↓reduceIte,Nat.reduceEqDiff,Nat.reduceMul,reduceCtorEq,Nat.reduceAdd,Nat.reduceSub,Nat.reduceLeDiff,Nat.reduceLT,Int.reduceToNat,Int.reduceLE,Int.reduceLT,Za,men]
  ·simp only[hr,hk,hm,gs,Zr,Uaa,Zb,↓reduceIte,Nat.reduceEqDiff,Nat.reduceMul,reduceCtorEq,Nat.reduceAdd,Nat.reduceSub,Nat.reduceLeDiff,Nat.reduceLT,Int.reduceToNat,Int.reduceLE,Int.reduceLT,Za,men]
   refine Zf q1 ?_
   simp only[Uaa,Zb,↓reduceIte,Nat.reduceEqDiff,Nat.reduceMul,reduceCtorEq,Nat.reduceAdd,Nat.reduceSub,Nat.reduceLeDiff,Nat.reduceLT,Int.reduceToNat,Int.reduceLE,Int.reduceLT,Za,men]
   rw[show cut (rS (ZM s.names)) 0 (ZM s.names).length=rS (ZM s.names) from J1]
   refine Zf q2 ?_
   simp only[Uaa,Zb,↓reduceIte,Nat.reduceEqDiff,Nat.reduceMul,reduceCtorEq,Nat.reduceAdd,Nat.reduceSub,Nat.reduceLeDiff,Nat.reduceLT,Int.reduceToNat,Int.reduceLE,Int.reduceLT,Za,men]
   simp only[Ze,Yj,hr,hm,ZG,Uai,Uaj] at q3
   refine Zf q3 ?_
   simp only[Ze,Uaa,Zb,↓reduceIte,Nat.reduceEqDiff,Nat.reduceMul,reduceCtorEq,Nat.reduceAdd,Nat.reduceSub,Nat.reduceLeDiff,Nat.reduceLT,Int.reduceToNat,Int.reduceLE,Int.reduceLT,Za,men]
   refine Zf q4 ?_
   simp only[Uaa,Zb,↓reduceIte,Nat.reduceEqDiff,Nat.reduceMul,reduceCtorEq,Nat.reduceAdd,Nat.reduceSub,Nat.reduceLeDiff,Nat.reduceLT,Int.reduceToNat,Int.reduceLE,Int.reduceLT,Za,men]
 ·have hno:¬ Y8 sig s x.1:=fun g=>h0 ⟨g.1,g.2.1⟩
  rw[show DG sig s x=(JL,[]) from if_neg h0,Zt hno]
  by_cases hr:x.1.roots=1
  ·have hk:sig[m].kind_=2:=Ubg fun k=>h0 ⟨hr,fun g=>absurd (e.symm.trans g) k⟩
   have hz:(0:Int)<(x.1.nodes.length:Int)+x.1.sites.length:=by
    by_cases g:(x.1.nodes.length:Int)+x.1.sites.length=0
    ·exact absurd ⟨hr,fun _=>⟨UaS.1 (by omega),UaS.1 (by omega)⟩⟩ h0
    ·omega
   simp only[hr,hk,hm,gs,hz,Zr,Uaa,Zb,↓reduceIte,Nat.reduceEqDiff,Nat.reduceMul,reduceCtorEq,Nat.reduceAdd,Nat.reduceSub,Nat.reduceLeDiff,Nat.reduceLT,Int.reduceToNat,Int.reduceLE,Int.reduceLT,Za,men]
   exact⟨by rw[Zg];omega,rfl⟩
  ·simp only[hr,Zb,↓reduceIte,Nat.reduceEqDiff,Nat.reduceMul,reduceCtorEq,Nat.reduceAdd,Nat.reduceSub,Nat.reduceLeDiff,Nat.reduceLT,Int.reduceToNat,Int.reduceLE,Int.reduceLT,Za,men]
   rfl
theorem ZEU(l:List Int)(hl:l.length<=4294967296)(lvl:Nat)(S:Zc):Sem Uch Zf6 lvl [tI l] S (.ow 1 (rI l) true) S:=by
 refine Zi ZAV trivial ?_
 simp only[Zll,Uaa,V4,V5,Zb,seval,Za,men]
 exact hl
theorem ZEV{sig:List TControl}{a b:TBigraph}(ha:bigOK sig a)(hb:bigOK sig b)(hi:a.inner=[]):Yz sig a b↔bigOK sig (J0 a b):=by
 constructor
 ·intro g;exact g.2.2.2
 ·intro g;exact⟨ha,hb,fun n hn=>by simp [inn,hi] at hn,g⟩
open Classical in
noncomputable def DH(sig:List TControl)(s:TTermStep)(x y:ZS):ZS:=if Yz sig x.1 y.1 then (if s.kind_=4 then Dx x.1 y.1 else J0 x.1 y.1,x.2++y.2) else (JL,[])
theorem ZEW(sig:List TControl)(s:TTermStep)(x y:ZS)(hn:sig.length<=4294967296)(hbs:∀ y∈sig,Jc 4294967296 y)(hx:partOK sig x)(hy:partOK sig y)(lvl:Nat)(S:Zc):Sem Uch ZfX lvl [.tr (.sl (sig.map Zr)),.ag ((Zv s).map .tr),.ag ((Zx x).map .tr),.ag ((Zx y).map .tr)] S (.tu [.ag ((Zx (DH sig s x y)).map .tr),iB (dc (Yz sig x.1 y.1))]) S:=by
 have hxb:=hx.big;have hyb:=hy.big
 have x2:=hxb.sitesL;have y2:=hyb.sitesL
 have lx:=hx.len;have ly:=hy.len
 have q1:=ZDP sig x.1 y.1 hxb hyb
 have q2:=Ut sig (J0 x.1 y.1) hn hbs (VJ (by omega) (Zdv hxb hyb)) (ZnY hxb hyb (Vh hxb) (Vh hyb))
 rw[<-V2 (ZEV hxb hyb hx.inn)] at q2
 have q3:=ZEd (J0 x.1 y.1) (ZEe hxb hyb)
 have q4:=ZEU x.2 (by omega)
 have ec:cut (rI x.2++rI y.2) 0 (x.2.length+y.2.length)=rI (x.2++y.2):=by
  rw[<-Yf]
  exact Yh (by simp [rI])
 obtain⟨B,hB⟩:∃ B,B=J0 x.1 y.1:=⟨_,rfl⟩
 rw[<-hB] at q1 q2 q3
 have hM:Dx x.1 y.1=VM B:=by rw[hB];rfl
 simp only[Ze,Uai,Uaj] at q1 q2 q3
 refine Zi ZAB (by simp [low,men,Za,Zx,Ze]) ?_
 simp only[Zk1,Zv,Zx,Ze,Zb,seval,Za,men]
 refine Zf q1 ?_
 simp only[Ze,Uaa,Zb,seval,Za,men]
 refine Zf q2 ?_
 cases hp:dc (Yz sig x.1 y.1)
 ·rw[show DH sig s x y=(JL,[]) from if_neg (dc_not.1 hp)]
  simp only[Zb,seval,Za,men]
  rfl
 ·rw[show DH sig s x y=_ from if_pos (dc_iff.1 hp)]
  by_cases h4:s.kind_=4
  ·rw[if_pos h4,hM]
   simp only[h4,Ze,Uaa,Zb,seval,Za,men]
   refine Zf q3 ?_
   simp only[Zw,Uaa,Zb,seval,Za,men]
   refine Zf q4 ?_
   simp only[V4,V5,Uaa,Zb,seval,Za,men]
   exact⟨by omega,by rw[<-Yf,Uaa,Uad];exact Ual _,by rw[ec] <;> rfl⟩
  ·rw[if_neg h4,<-hB]
   simp only[h4,Ze,Uaa,Zb,seval,Za,men]
   refine Zf q4 ?_
   simp only[V4,V5,Uaa,Zb,seval,Za,men]
   exact⟨by omega,by rw[<-Yf,Uaa,Uad];exact Ual _,by rw[ec] <;> rfl⟩
theorem ZEX(sig:List TControl)(s:TTermStep)(x:ZS)(n:ByteArray)(hn:sig.length<=4294967296)(hbs:∀ y∈sig,Jc 4294967296 y)(hns:s.names=[n])(hbn:n.size<=4294967296)(h67:s.kind_=6\/s.kind_=7)(hx:partOK sig x):∃ V:ZS,(∀ y,JK sig s [x]=some y->V=y)/\∀(lvl:Nat) (S:Zc),Sem Uch ZfW lvl [.tr (.sl (sig.map Zr)),.ag ((Zv s).map .tr),.ag ((Zx x).map .tr)] S (.tu [.ag ((Zx V).map .tr),iB (JK sig s [x]).isSome]) S:=by
 have hxb:=hx.big
 have g0:(rS [n])[0]? = some [ts n]:=rfl
 rcases h67 with h6 | h7
 ·have e:=XD (sig:=sig) (s:=s) (x:=x) (.inr (.inl h6))
  rw[if_neg (by omega),if_pos h6,hns,gS0 rfl] at e
  by_cases g:VI sig x.1 n
  ·rw[if_pos g] at e
   rw[e]
   refine⟨(YZ x.1 n,x.2),fun y hy=>UaC hy,fun lvl S=>?_⟩
   have q:=ZDc sig x.1 n hn hbs (Qi hxb) hbn (Vh hxb) g
   unfold Xw Xx at q
   rw[if_pos g,ZY g] at q
   simp only[Ze,Uai,Uaj] at q
   refine Zi ZcX (by simp [low,men,Za,Zx,Ze]) ?_
   simp only[ZaR,Zv,Zx,Ze,h6,hns,g0,Zb,seval,Za,men]
   refine Zf q ?_
   simp only[Uaa,Option.isSome_some,Zb,seval,Za,men]
  ·rw[if_neg g] at e
   rw[e]
   refine⟨(JL,x.2),(fun y hy=>by cases hy),fun lvl S=>?_⟩
   have q:=ZDd sig x.1 n hn hbs (Qi hxb) hbn (Vh hxb) g
   unfold Xw Xx at q
   rw[if_neg g,Zt g] at q
   simp only[Ze,Uai,Uaj] at q
   refine Zi ZcX (by simp [low,men,Za,Zx,Ze]) ?_
   simp only[ZaR,Zv,Zx,Ze,h6,hns,g0,Zb,seval,Za,men]
   refine Zf q ?_
   simp only[Zw,Uaa,Option.isSome_none,Zb,seval,Za,men]
 ·have e:=XD (sig:=sig) (s:=s) (x:=x) (.inr (.inr h7))
  rw[if_neg (by omega),if_neg (by omega),hns,gS0 rfl] at e
  have q:=ZEx sig x.1 n hn hbs (Qi hxb) hbn (Vh hxb)
  have h6:¬ s.kind_=6:=by omega
  by_cases g:YJ sig x.1 n
  ·rw[if_pos g] at e
   rw[e]
   refine⟨(Y9 x.1 n,x.2),fun y hy=>UaC hy,fun lvl S=>?_⟩
   rw[if_pos g,ZY g] at q
   simp only[Ze,Uai,Uaj] at q
   refine Zi ZcX (by simp [low,men,Za,Zx,Ze]) ?_
   simp only[ZaR,Zv,Zx,Ze,h6,hns,g0,Zb,seval,Za,men]
   refine Zf q ?_
   simp only[Uaa,Option.isSome_some,Zb,seval,Za,men]
  ·rw[if_neg g] at e
   rw[e]
   refine⟨(JL,x.2),(fun y hy=>by cases hy),fun lvl S=>?_⟩
   rw[if_neg g,Zt g] at q
   simp only[Ze,Uai,Uaj] at q
   refine Zi ZcX (by simp [low,men,Za,Zx,Ze]) ?_
   simp only[ZaR,Zv,Zx,Ze,h6,hns,g0,Zb,seval,Za,men]
   refine Zf q ?_
   simp only[Zw,Uaa,Option.isSome_none,Zb,seval,Za,men]
theorem Zot{z:List ZS}{a:Nat}(h:z.length=a+1):∃ x,z.drop a=[x]/\(z.map Zx)[a]? = some (Zx x)/\x∈z:=by
 have ha:a<z.length:=by omega
 refine⟨z[a],?_,by simp [ha],Uak ha⟩
 rw[UaJ ha,List.drop_of_length_le (by omega)]
theorem ZEY{z:List ZS}{a:Nat}(h:z.length=a+2):∃ x y,z.drop a=[x,y]/\(z.map Zx)[a]? = some (Zx x)/\(z.map Zx)[a+1]? = some (Zx y)/\x∈z/\y∈z:=by
 have ha:a<z.length:=by omega
 have hb:a+1<z.length:=by omega
 refine⟨z[a],z[a+1],?_,by simp [ha],by simp [hb],Uak ha,Uak hb⟩
 rw[UaJ ha,UaJ hb,List.drop_of_length_le (by omega)]
theorem ZEZ{sig:List TControl}{s:TTermStep}{x y:ZS}(h3:s.kind_=3)(h:JK sig s [x]=some y):DG sig s x=y:=by
 rw[XD (.inl h3),if_pos h3] at h
 split at h
 ·rename_i g
  rw[show DG sig s x=_ from if_pos ⟨g.1,g.2.1⟩]
  exact UaC h
 ·cases h
theorem ZE0{sig:List TControl}{s:TTermStep}{x:ZS}(h3:s.kind_=3):dc (Y8 sig s x.1)=(JK sig s [x]).isSome:=by
 rw[XD (.inl h3),if_pos h3]
 by_cases g:Y8 sig s x.1
 ·rw[if_pos g,ZY g];rfl
 ·rw[if_neg g,Zt g];rfl
theorem ZE1{sig:List TControl}{s:TTermStep}{x x2 y:ZS}(h45:s.kind_=4\/s.kind_=5)(h:JK sig s [x,x2]=some y):DH sig s x x2=y:=by
 rw[DE h45] at h
 split at h
 ·rename_i g
  rw[show DH sig s x x2=_ from if_pos g]
  exact UaC h
 ·cases h
theorem ZE2{sig:List TControl}{s:TTermStep}{x x2:ZS}(h45:s.kind_=4\/s.kind_=5):dc (Yz sig x.1 x2.1)=(JK sig s [x,x2]).isSome:=by
 rw[DE h45]
 by_cases g:Yz sig x.1 x2.1
 ·rw[if_pos g,ZY g];rfl
 ·rw[if_neg g,Zt g];rfl
theorem Zou{k:Int}:ZT k<=2:=by
 unfold ZT
 split
 ·omega
 ·split <;> omega
theorem ZdE{z:List ZS}{a:Nat}{Q:ZS}:cut (z.map Zx) 0 (a-0)++[[Tr.v (Value.int .i64 Q.1.roots),Tr.sl (Q.1.nodes.map ZG),Tr.sl (rI Q.1.sites),Tr.v (Value.int .i64 Q.1.edges),Tr.sl (rS Q.1.outer),Tr.sl (Q.1.inner.map ZO),Tr.sl (rI Q.2)]]=(z.take a++[Q]).map Zx:=by
 rw[Nat.sub_zero,XE,Uay]
 rfl
theorem ZdF{z:List ZS}{a:Nat}(h:a<=z.length):(cut (z.map Zx) 0 (a-0)).length=a:=by
 rw[Nat.sub_zero,XE,Uaa,Uam]
 omega
theorem WX{z:List ZS}{a:Nat}{Q:ZS}(h:a<=z.length):((z.take a++[Q]).map Zx).length=a+1:=by
 rw[Uaa,Uad,Uam]
 simp
 omega
theorem ZE3(sig:List TControl)(s:TTermStep)(z:List ZS)(hn:sig.length<=4294967296)(hbs:∀ y∈sig,Jc 4294967296 y)(hb:Yx 4294967296 s)(hs:Z2 sig)(h:stepOK sig s)(hz:∀ x∈z,partOK sig x)(hzl:z.length<=100):∃ V:List ZS,(ZT s.kind_<=z.length->∀ x,JK sig s (z.drop (z.length-ZT s.kind_))=some x->V=z.take (z.length-ZT s.kind_)++[x])/\∀(lvl:Nat) (S:Zc),Sem Uch Zck lvl [.tr (.sl (sig.map Zr)),.tr (.sl (z.map Zx)),.ag ((Zv s).map .tr)] S (.tu [.tr (.sl (V.map Zx)),iB (decide (ZT s.kind_<=z.length)&&(JK sig s (z.drop (z.length-ZT s.kind_))).isSome)]) S:=by
 obtain⟨k,c,p,ns⟩:=s
 have hkind:=h.kind
 simp only at hkind
 have qt:=ZEC k
 have ql:=ZES ⟨k,c,p,ns⟩
 by_cases htk:ZT k<=z.length
 ·obtain⟨a,ha⟩:∃ a,a=z.length-ZT k:=⟨_,rfl⟩
  have hat:((z.length:Int)-(ZT k:Int))=(a:Int):=by omega
  have ht2:=Zou (k:=k)
  show ∃ V:List ZS,(ZT k<=z.length->∀ x,JK sig ⟨k,c,p,ns⟩ (z.drop (z.length-ZT k))=some x->V=z.take (z.length-ZT k)++[x])/\∀(lvl:Nat) (S:Zc),Sem Uch Zck lvl [.tr (.sl (sig.map Zr)),.tr (.sl (z.map Zx)),.ag ((Zv ⟨k,c,p,ns⟩).map .tr)] S (.tu [.tr (.sl (V.map Zx)),iB (decide (ZT k<=z.length)&&(JK sig ⟨k,c,p,ns⟩ (z.drop (z.length-ZT k))).isSome)]) S
  rw[<-ha,show decide (ZT k<=z.length)=true from decide_eq_true htk]
  simp only[Bool.true_and]
  have hnot:¬ (a:Int)<0:=by omega
  have hat0:a<=z.length:=by omega
  have e6 (Q:ZS):cut (z.map Zx) 0 a=(z.take a).map Zx:=XE
  have tail (Q:ZS):(z.take a).map Zx++[Zx Q]=(z.take a++[Q]).map Zx:=by rw[Uay];rfl
  obtain⟨W,hW⟩:∃ W:ZS,W=(if k=0 then (JL,[]) else if k=1 then (XB,[]) else (XC,[p])):=⟨_,rfl⟩
  simp only[<-hW] at ql
  simp only[Zv,Zx,Ze,Uai,Uaj] at ql
  have d01:¬ (0:Int)=1:=by decide
  have d02:¬ (0:Int)=2:=by decide
  have d21:¬ (2:Int)=1:=by decide
  by_cases h012:k=0\/k=1\/k=2
  ·have e:=Zoo (sig:=sig) (s:=⟨k,c,p,ns⟩) (xs:=z.drop a) h012
   have eQ:(if k=1 then (XB,[]) else if k=2 then (XC,[p]) else (JL,[]))=W:=by
    rw[hW]
    rcases h012 with rfl | rfl | rfl <;> rfl
   simp only at e
   rw[eQ] at e
   rw[e]
   obtain⟨Q,hQ⟩:∃ Q,Q=W:=⟨_,rfl⟩
   rw[<-hQ] at ql ⊢
   refine⟨z.take a++[Q],fun _ x hx=>by rw[UaC hx],fun lvl S=>?_⟩
   have t0:ZT k=0:=by rcases h012 with rfl | rfl | rfl <;> rfl
   rw[t0] at qt hat
   simp only[Int.natCast_zero] at qt hat
   have h3:¬ k=3:=by omega
   refine Zi ZaQ (by simp [low,men,Za]) ?_
   simp only[Dm,Zv,Uaa,Zb,seval,Za,men]
   refine Zf qt ?_
   simp only[hat,hnot,Uaa,Zb,seval,Za,men]
   refine⟨by rw[Zg];omega,Zf ql ?_⟩
   simp only[h3,Uaa,Zb,seval,Za,men]
   refine Zf qt ?_
   simp only[d01,Uaa,Zb,seval,Za,men]
   refine Zf qt ?_
   simp only[d02,Qk,Uaa,Zb,seval,Za,men]
   rw[ZdE (z:=z) (a:=a) (Q:=Q),ZdF hat0]
   refine⟨fun g=>g.elim,by omega,by omega,by rw[Nat.sub_zero,XE,Qk];trivial,by omega,by omega,by rw[WX hat0];exact Ual _,by rw[Yh (WX hat0)] <;> rfl⟩
  by_cases h3:k=3
  ·subst h3
   obtain⟨x,hx1,hx2,hx3⟩:=Zot (z:=z) (a:=a) (by have:ZT 3=1:=rfl;omega)
   rw[hx1]
   obtain⟨Q,hQ⟩:∃ Q,Q=DG sig ⟨3,c,p,ns⟩ x:=⟨_,rfl⟩
   refine⟨z.take a++[Q],fun _ y hy=>by rw[hQ,ZEZ rfl hy],fun lvl S=>?_⟩
   have q:=ZET sig ⟨3,c,p,ns⟩ x hn hbs hb hs h rfl (hz x hx3)
   rw[<-hQ,ZE0 rfl] at q
   simp only[Zv,Zx,Ze,Uai,Uaj] at q hx2
   have t1:ZT 3=1:=rfl
   rw[t1] at qt hat
   simp only[Int.natCast_one] at qt hat
   have hal:a<z.length:=by omega
   refine Zi ZaQ (by simp [low,men,Za]) ?_
   simp only[Dm,Zv,Uaa,Zb,seval,Za,men]
   refine Zf qt ?_
   simp only[hat,hnot,Uaa,Zb,seval,Za,men]
   refine⟨by rw[Zg];omega,Zf ql ?_⟩
   simp only[hx2,hal,Uaa,Zb,seval,Za,men]
   refine Zf q ?_
   simp only[Qk,Uaa,Zb,seval,Za,men]
   rw[ZdE (z:=z) (a:=a) (Q:=Q),ZdF hat0]
   refine⟨fun g=>g.elim,by omega,by omega,by rw[Nat.sub_zero,XE,Qk];trivial,by omega,by omega,by rw[WX hat0];exact Ual _,by rw[Yh (WX hat0)] <;> rfl⟩
  by_cases h45:k=4\/k=5
  ·obtain⟨x,y,hx1,hx2,hx3,hx4,hx5⟩:=ZEY (z:=z) (a:=a) (by have:ZT k=2:=(by rcases h45 with rfl | rfl <;> rfl);omega)
   rw[hx1]
   obtain⟨Q,hQ⟩:∃ Q,Q=DH sig ⟨k,c,p,ns⟩ x y:=⟨_,rfl⟩
   refine⟨z.take a++[Q],fun _ v hv=>by rw[hQ,ZE1 h45 hv],fun lvl S=>?_⟩
   have q:=ZEW sig ⟨k,c,p,ns⟩ x y hn hbs (hz x hx4) (hz y hx5)
   rw[<-hQ,ZE2 (s:=⟨k,c,p,ns⟩) h45] at q
   simp only[Zv,Zx,Ze,Uai,Uaj] at q hx2 hx3
   have t2:ZT k=2:=by rcases h45 with rfl | rfl <;> rfl
   rw[t2] at qt hat
   have c2:((2:Nat):Int)=2:=rfl
   rw[c2] at qt hat
   have hal:a<z.length:=by omega
   have hal2:a+1<z.length:=by omega
   have ca:((a:Int)+1)=((a+1:Nat):Int):=by omega
   refine Zi ZaQ (by simp [low,men,Za]) ?_
   simp only[Dm,Zv,Uaa,Zb,seval,Za,men]
   refine Zf qt ?_
   simp only[hat,hnot,Uaa,Zb,seval,Za,men]
   refine⟨by rw[Zg];omega,Zf ql ?_⟩
   simp only[h3,Uaa,Zb,seval,Za,men]
   refine Zf qt ?_
   simp only[d21,Uaa,Zb,seval,Za,men]
   refine Zf qt ?_
   simp only[hx2,hx3,hal,hal2,ca,Int.toNat_natCast,Uaa,Zb,seval,Za,men]
   refine⟨by rw[Zg];omega,Zf q ?_⟩
   simp only[Qk,Uaa,Zb,seval,Za,men]
   rw[ZdE (z:=z) (a:=a) (Q:=Q),ZdF hat0]
   refine⟨fun g=>g.elim,by omega,by omega,by rw[Nat.sub_zero,XE,Qk];trivial,by omega,by omega,by rw[WX hat0];exact Ual _,by rw[Yh (WX hat0)] <;> rfl⟩
  ·have h67:k=6\/k=7:=by omega
   obtain⟨x,hx1,hx2,hx3⟩:=Zot (z:=z) (a:=a) (by have:ZT k=1:=(by rcases h67 with rfl | rfl <;> rfl);omega)
   rw[hx1]
   obtain⟨n,rfl⟩:=Qj (h.one h67)
   obtain⟨Q,hQ,q⟩:=ZEX sig ⟨k,c,p,[n]⟩ x n hn hbs rfl (hb.2 n (by simp)) h67 (hz x hx3)
   refine⟨z.take a++[Q],fun _ y hy=>by rw[hQ y hy],fun lvl S=>?_⟩
   simp only[Zv,Zx,Ze,Uai,Uaj] at q hx2
   have t1:ZT k=1:=by rcases h67 with rfl | rfl <;> rfl
   rw[t1] at qt hat
   simp only[Int.natCast_one] at qt hat
   have hal:a<z.length:=by omega
   refine Zi ZaQ (by simp [low,men,Za]) ?_
   simp only[Dm,Zv,Uaa,Zb,seval,Za,men]
   refine Zf qt ?_
   simp only[hat,hnot,Uaa,Zb,seval,Za,men]
   refine⟨by rw[Zg];omega,Zf ql ?_⟩
   simp only[h3,Uaa,Zb,seval,Za,men]
   refine Zf qt ?_
   simp only[hx2,hal,Uai,Uaj,Uaa,Zb,seval,Za,men]
   refine Zf q ?_
   simp only[Qk,Uaa,Zb,seval,Za,men]
   rw[ZdE (z:=z) (a:=a) (Q:=Q),ZdF hat0]
   refine⟨fun g=>g.elim,by omega,by omega,by rw[Nat.sub_zero,XE,Qk];trivial,by omega,by omega,by rw[WX hat0];exact Ual _,by rw[Yh (WX hat0)] <;> rfl⟩
 ·have hlt:(z.length:Int)-(ZT k:Int)<0:=by omega
  refine⟨z,fun g=>absurd g htk,fun lvl S=>?_⟩
  rw[show decide (ZT (⟨k,c,p,ns⟩:TTermStep).kind_<=z.length)=false from decide_eq_false htk]
  simp only[Bool.false_and]
  refine Zi ZaQ (by simp [low,men,Za]) ?_
  simp only[Dm,Zv,Uaa,Zb,seval,Za,men]
  refine Zf qt ?_
  simp only[hlt,Uaa,Zb,seval,Za,men]
  rw[Zg]
  have:=Zou (k:=k)
  omega
theorem ZE4(l:List Int)(n:Int)(hl:l.length<=4294967296)(hn:n=l.length)(lvl:Nat)(S:Zc):Sem Uch ZfC lvl [.tr (.sl (rI l)),iI n] S (iB (dc (Vu l.length l))) S:=by
 subst hn
 refine Zi Zz9 trivial ?_
 simp only[ZkF,Uaa,Zb,seval,Za,men]
 refine ZJ (α:=Unit) l.length (fun j _=>[(5,iI j)]) (fun _ _=>[]) (fun j _=>∀ i:Nat,i<j->(i:Int)∈l) () (by simp only[Zb,seval,Za,men]) (by (simp only[Zb,seval,Za,men]) <;> rfl) (fun i hi=>absurd hi (Ua2 i)) ?_
 intro j _ hj hA
 simp only[Uaa,Zb,seval,Za,men]
 refine Zs (fun hlt=>?_) (fun hge=>?_)
 ·have hja:j<l.length:=by omega
  refine Zf (ZB2 l j (by omega)) ?_
  by_cases hm:(j:Int)∈l
  ·simp only[hm,Zb,seval,Za,men]
   exact⟨by rw[Zg];omega,Zu () hja rfl (fun i hi=>by
    rcases Nat.lt_or_eq_of_le (Nat.le_of_lt_succ hi) with h | h
    ·exact hA i h
    ·subst h;exact hm)⟩
  ·rw[Zt fun g:Vu l.length l=>hm (g.2 j hja)]
   simp only[hm,Zb,seval,Za,men]
 ·have:j=l.length:=by omega
  subst this
  rw[ZY (show Vu l.length l from ⟨rfl,hA⟩)]
theorem ZE5(a b:Int)(lvl:Nat)(S:Zc):Sem Uch ZfK lvl [iI a,iI b] S (iI (max a b)) S:=by
 refine Zi ZAj trivial ?_
 by_cases h:b<a
 ·rw[show max a b=a by omega]
  simp only[Zgz,h,Zb,seval,Za,men]
 ·rw[show max a b=b by omega]
  simp only[Zgz,h,Zb,seval,Za,men]
noncomputable def Ql(sig:List TControl):YK->List TTermStep->YK
 | z,[]=>z
 | z,s::r=>match YL sig z s with
  | some z' => Ql sig z' r
  | none=>z
theorem Zov{sig:List TControl}{z z':YK}{s:TTermStep}{r:List TTermStep}(h:YL sig z s=some z'):Ql sig z (s::r)=Ql sig z' r:=by rw[Ql,h]
theorem ZE6{sig:List TControl}{z:YK}{s:TTermStep}{r:List TTermStep}(h:YL sig z s=none):Ql sig z (s::r)=z:=by rw[Ql,h]
theorem Zow{sig:List TControl}:∀{t:List TTermStep} {z y:YK},t.foldlM (YL sig) z=some y->Ql sig z t=y
 | [],z,y,h=>by
  simp only[List.foldlM_nil] at h
  exact UaC h
 | s::r,z,y,h=>by
  rw[List.foldlM_cons] at h
  cases hs:YL sig z s with
  | none=>rw[hs] at h;cases h
  | some z' =>
   rw[hs] at h
   rw[Zov hs]
   exact Zow h
theorem Zox{sig:List TControl}{t:List TTermStep}{y:YK}(h:JP sig t=some y):Ql sig ([],0) t=y:=Zow h
theorem ZE7{sig:List TControl}{z:YK}{s:TTermStep}(h:(decide (ZT s.kind_<=z.1.length)&&(JK sig s (z.1.drop (z.1.length-ZT s.kind_))).isSome)=false):YL sig z s=none:=by
 rcases Bool.and_eq_false_iff.1 h with g | g
 ·exact Zbe fun k=>of_decide_eq_false g k.2
 ·exact Zod (by simpa using g)
theorem ZE8(sig:List TControl)(t:List TTermStep)(hn:sig.length<=4294967296)(hbs:∀ y∈sig,Jc 4294967296 y)(hbt:∀ y∈t,Yx 4294967296 y)(hs:Z2 sig)(hl:t.length<=60)(lvl:Nat)(S:Zc):Sem Uch ZfB lvl [.tr (.sl (sig.map Zr)),.tr (.sl (t.map Zv))] S (.tu [.tr (.sl ((Ql sig ([],0) t).1.map Zx)),iI ((Ql sig ([],0) t).2:Nat),iB (JP sig t).isSome]) S:=by
 refine Zi Zz8 (by simp [low,men,Za]) ?_
 simp only[ZkE,Uaa,Zb,seval,Za,men]
 refine ZJ (α:=YK) t.length (fun j z=>[(7,.tr (.sl (z.1.map Zx))),(8,iI z.2),(9,iI j)]) (fun _ _=>[]) (fun j z=>JP sig (t.take j)=some z/\Ql sig ([],0) t=Ql sig z (t.drop j)) ([],0) (by simp only[Zb,seval,Za,men]) (by (simp only[Zb,seval,Za,men]) <;> rfl) ⟨by rw[List.take_zero];exact Zhl,by rw[Ubw]⟩ ?_
 intro j z hj hA
 obtain⟨hA,hL⟩:=hA
 have hz:=Zbf hs hj hA
 simp only[Uaa,Zb,seval,Za,men]
 refine Zs (fun hlt=>?_) (fun hge=>?_)
 ·have hja:j<t.length:=by omega
  have ga:=Z6 (c:=Zv) hja
  have hb:=hbt _ (Uak hja)
  have hsu:=Zdy (sig:=sig) hja
  rw[hA] at hsu
  rw[UaJ hja] at hL
  obtain⟨s,hs'⟩:∃ s,s=t[j]:=⟨_,rfl⟩
  rw[<-hs'] at ga hb hsu hL
  have hbad:YL sig z s=none->JP sig t=none/\Ql sig ([],0) t=z:=fun g=>⟨Zdz (j:=j+1) (by rw[hsu];exact g),by rw[hL,ZE6 g]⟩
  have q1:=ZEM sig s hn hb
  have q2:=fun hok=>ZE3 sig s z.1 hn hbs hb hs hok hz.1 (by omega)
  obtain⟨k,c,p,ns⟩:=s
  simp only[Zv,Uai,Uaj] at ga q1 q2
  simp only[ga,hja,Uaa,Zb,seval,Za,men]
  refine Zf q1 ?_
  cases hg:dc (stepOK sig ⟨k,c,p,ns⟩)
  ·have e:=hbad (Zbe fun g=>dc_not.1 hg g.1)
   rw[e.1,e.2]
   simp only[Option.isSome_none,Zb,seval,Za,men]
  have hok:=dc_iff.1 hg
  obtain⟨V,hV,qV⟩:=q2 hok
  simp only[ga,hja,Uaa,Zb,seval,Za,men]
  refine Zf qV ?_
  cases hm:(decide (ZT k<=z.1.length)&&(JK sig ⟨k,c,p,ns⟩ (z.1.drop (z.1.length-ZT k))).isSome)
  ·have e:=hbad (ZE7 hm)
   rw[e.1,e.2]
   simp only[Option.isSome_none,Zb,seval,Za,men]
  ·have h2:=Bool.and_eq_true_iff.1 hm
   have htk:ZT k<=z.1.length:=of_decide_eq_true h2.1
   obtain⟨x,hx⟩:=Uan.1 h2.2
   have e:=Zoc hok (z:=z) htk hx
   have eV:=hV htk x hx
   have hlen:V.length=z.1.length-ZT k+1:=by
    rw[eV,Uad,Uam]
    simp <;> omega
   have hLz:=Zov (r:=t.drop (j+1)) e
   rw[hLz] at hL
   simp only[Uaa,Zb,seval,Za,men]
   refine Zf (ZE5 _ _) ?_
   simp only[Uaa,Zb,seval,Za,men]
   have e5:max (z.2:Int) (V.length:Int)=((max z.2 (z.1.length-ZT k+1):Nat):Int):=by rw[hlen];omega
   rw[e5,eV]
   refine⟨by rw[Zg];omega,Zu (z.1.take (z.1.length-ZT k)++[x],max z.2 (z.1.length-ZT k+1)) hja rfl ⟨?_,hL⟩⟩
   rw[hsu]
   exact e
 ·have:j=t.length:=by omega
  subst this
  rw[Uaw] at hA
  rw[hA,Zox hA]
  simp only[Option.isSome_some,Zb,seval,Za,men]
  try rfl
theorem ZE9(a b:Int)(lvl:Nat)(S:Zc):Sem Uch Zcv lvl [iI a,iI b] S (iB (decide (a<b))) S:=by
 refine Zi ZA9 trivial ?_
 simp only[Zlz,Zb,seval,Za,men]
 refine Zf (ZB3 a) ?_
 simp only[Zb,seval,Za,men]
def Wj(x:List Int)(i:Nat):Prop:=∀ p q,p<q->q<i->g0 x p<=g0 x q
def Zbh(x:List Int)(i j:Nat):Prop:=(∀ p q,p<q->q<=i->p≠j->q≠j->g0 x p<=g0 x q)/\∀ q,j<q->q<=i->g0 x j<=g0 x q
def DI(x:List Int)(j:Nat):List Int:=(x.set j (g0 x (j-1))).set (j-1) (g0 x j)
theorem Zoy{y:List Int}{a b:Nat}{v:Int}(h:a<y.length):g0 (y.set a v) b=if a=b then v else g0 y b:=by
 show (y.set a v).getD b 0=if a=b then v else y.getD b 0
 rw[UaH,Ubb,UaH]
 by_cases e:a=b
 ·rw[if_pos e,if_pos e,if_pos (by omega)];rfl
 ·rw[if_neg e,if_neg e]
theorem ZFa{y:List Int}{i:Nat}(h:Zbh y i 0):Wj y (i+1):=fun p q h1 h2=>by
 by_cases e:p=0
 ·subst e;exact h.2 q h1 (by omega)
 ·exact h.1 p q h1 (by omega) e (by omega)
theorem ZFb{y:List Int}{i j:Nat}(h:Zbh y i j)(hj:0<j)(hji:j<=i)(hle:g0 y (j-1)<=g0 y j):Wj y (i+1):=fun p q h1 h2=>by
 by_cases e:p=j
 ·subst e;exact h.2 q h1 (by omega)
 ·by_cases e2:q=j
  ·subst e2
   by_cases e3:p=q-1
   ·subst e3;exact hle
   ·exact Int.le_trans (h.1 p (q-1) (by omega) (by omega) e (by omega)) hle
  ·exact h.1 p q h1 (by omega) e e2
theorem ZFc{y:List Int}{i j:Nat}(h:Zbh y i j)(hj:0<j)(hji:j<=i)(hi:i<y.length)(hlt:g0 y j<g0 y (j-1)):Zbh (DI y j) i (j-1):=by
 have e:∀ b,g0 (DI y j) b=if j-1=b then g0 y j else if j=b then g0 y (j-1) else g0 y b:=fun b=>by
  unfold DI
  rw[Zoy (by rw[UaT];omega),Zoy (by omega)]
 refine⟨fun p q h1 h2 h3 h4=>?_,fun q h1 h2=>?_⟩
 ·rw[e p,e q,if_neg (show ¬ j-1=p from fun g=>h3 g.symm),if_neg (show ¬ j-1=q from fun g=>h4 g.symm)]
  by_cases ep:j=p
  ·rw[if_pos ep,if_neg (show ¬ j=q by omega)]
   exact h.1 (j-1) q (by omega) h2 (by omega) (by omega)
  ·rw[if_neg ep]
   by_cases eq:j=q
   ·rw[if_pos eq]
    exact h.1 p (j-1) (by omega) (by omega) (by omega) (by omega)
   ·rw[if_neg eq]
    exact h.1 p q h1 h2 (fun g=>ep g.symm) (fun g=>eq g.symm)
 ·rw[e (j-1),e q,if_pos rfl,if_neg (show ¬ j-1=q by omega)]
  by_cases eq:j=q
  ·rw[if_pos eq];omega
  ·rw[if_neg eq]
   exact h.2 q (by omega) h2
theorem ZFd{y:List Int}{j:Nat}(hj:0<j)(hi:j<y.length):(DI y j).Perm y:=by
 have h:=@List.set_set_perm _ y j (j-1) hi (by omega)
 have e1:g0 y j=y[j]:=by simp [g0,hi]
 have e2:g0 y (j-1)=y[j-1]'(by omega):=by
  show y.getD (j-1) 0=_
  rw[UaH,Uah (by omega)]
  rfl
 unfold DI
 rw[e1,e2]
 exact h
theorem Zoz{y:List Int}{j:Nat}{v:Int}(h:j<y.length):ZI (rI y) [] j 0 (.v (.int .i64 v))=rI (y.set j v):=by
 simp only[ZI]
 rw[YB h]
 exact(UbJ (f:=fun n:Int=>[tv n]) (l:=y) (i:=j) (a:=v)).symm
theorem ZFe(l:List Int)(hl:l.length<=12)(lvl:Nat)(S:Zc)(id:Zd)(u:Bool)(hw ver:Nat)(hid:id.1<lvl)(hS:S id=some (.ar 1 (rI l) u hw ver))(srt:List Int)(hsrt:∀ x:List Int,x.Perm l->Wj x l.length->x=srt) :
  Sem Uch Zge lvl [.hd id [] 0 l.length none hw,iI 0,iI l.length] S (.tu []) (Zl S id (.ar 1 (rI srt) u hw ver)):=by
 have hne:id.1≠lvl:=by omega
 refine Zi ZA8 trivial ?_
 simp only[Zly,Zb,seval,Za,men]
 refine⟨by rw[Zg];omega,?_⟩
 refine Yn (α:=List Int) l.length (fun k x=>⟨lvl,[(0,.hd id [] 0 l.length none hw),(1,iI 0),(2,iI l.length),(6,iI ((k+1:Nat):Int))],[],Zl S id (.ar 1 (rI x) u hw ver)⟩) (fun k x=>x.Perm l/\Wj x (k+1)) l ⟨by simp only[Jv hne,Zb,seval,Za,men],by (simp only[X6 hS,Zb,seval,Za,men]) <;> rfl⟩ ⟨List.Perm.refl _,fun p q h1 h2=>by omega⟩ ?_
 intro k x hk ⟨hA1,hA2⟩
 have hxl:x.length=l.length:=hA1.length_eq
 simp only[Zb,seval,Za,men]
 refine Zs (fun hlt=>?_) (fun hge=>?_)
 ·have hk1:k+1<l.length:=by omega
  refine Yn (α:=List Int) (k+1) (fun m y=>⟨lvl,[(0,.hd id [] 0 l.length none hw),(1,iI 0),(2,iI l.length),(6,iI ((k+1:Nat):Int)),(7,iI ((k+1-m:Nat):Int))],[],Zl S id (.ar 1 (rI y) u hw ver)⟩) (fun m y=>y.Perm l/\Zbh y (k+1) (k+1-m)) x ⟨by simp only[Jv hne,Zb,seval,Za,men],by (simp only[Zb,seval,Za,men]) <;> rfl⟩ ⟨hA1,fun p q h1 h2 h3 h4=>hA2 p q h1 (by omega),fun q h1 h2=>by omega⟩ ?_
  intro m y hm ⟨hB1,hB2⟩
  have hyl:y.length=l.length:=hB1.length_eq
  generalize hj:k+1-m=j at hB2 ⊢
  by_cases hj0:j=0
  ·subst hj0
   simp only[Zb,seval,Za,men]
   exact⟨by rw[Zg];omega,fun h=>absurd h hne,Zu y (by omega) rfl ⟨hB1,ZFa hB2⟩⟩
  ·have g1:(0:Int)<j:=by omega
   have e1:((j:Int)-1)=((j-1:Nat):Int):=by omega
   have gj:=YB (l:=y) (i:=j) (by omega)
   have gj1:=YB (l:=y) (i:=j-1) (by omega)
   have l1:j<l.length:=by omega
   have l2:j-1<l.length:=by omega
   simp only[g1,JE hne,YF,e1,gj,gj1,l1,l2,Uax,Zb,seval,Za,men]
   refine⟨by rw[Zg];omega,Zf (ZE9 (g0 y j) (g0 y (j-1))) ?_⟩
   by_cases hlt2:g0 y j<g0 y (j-1)
   ·have s1:=Zoz (y:=y) (j:=j) (v:=g0 y (j-1)) (by omega)
    have s2:=Zoz (y:=y.set j (g0 y (j-1))) (j:=j-1) (v:=g0 y j) (by rw[UaT];omega)
    have gj2:=YB (l:=y.set j (g0 y (j-1))) (i:=j-1) (by rw[UaT];omega)
    simp only[hlt2,g1,JE hne,Qt hne,Qw,YF,Jv hne,e1,gj,gj1,gj2,s1,s2,l1,l2,Uax,Zb,seval,Za,men]
    subst hj
    refine⟨by rw[Zg];omega,by rw[Zg];omega,by rw[Zg];omega,Zu (DI y (k+1-m)) (by omega) (by rw[show k+1-(m+1)=k+1-m-1 from by omega];rfl) ⟨(ZFd (by omega) (by omega)).trans hB1,?_⟩⟩
    rw[show k+1-(m+1)=k+1-m-1 from by omega]
    exact ZFc hB2 (by omega) (by omega) (by omega) hlt2
   ·simp only[hlt2,Zb,seval,Za,men]
    exact⟨by rw[Zg];omega,fun h=>absurd h hne,Zu y (by omega) rfl ⟨hB1,ZFb hB2 (by omega) (by omega) (by omega)⟩⟩
 ·have:k+1=l.length\/k=l.length:=by omega
  have hup:Wj x l.length:=fun p q h1 h2=>hA2 p q h1 (by omega)
  have hx:=hsrt x hA1 hup
  rw[hx]
theorem ZFf(l:List Int)(hl:l.length<=12)(r:Int)(lvl:Nat)(S:Zc)(id:Zd)(u:Bool)(hw ver:Nat)(hid:id.1<lvl)(hS:S id=some (.ar 1 (rI l) u hw ver))(srt:List Int)(hsrt:∀ x:List Int,x.Perm l->Wj x l.length->x=srt) :
  Sem Uch ZaE lvl [.hd id [] 0 l.length none hw,iI 0,iI l.length,iI r] S (.tu []) (Zl S id (.ar 1 (rI srt) u hw ver)):=by
 have hne:id.1≠lvl:=by omega
 refine Zi ZAM trivial ?_
 simp only[Zlb,Zb,seval,Za,men]
 refine Yn (α:=Unit) 0 (fun _ _=>⟨lvl,[(0,.hd id [] 0 l.length none hw),(1,iI 0),(2,iI l.length),(3,iI r),(8,iB true),(9,iB true)],[],S⟩) (fun _ _=>True) () ⟨by simp only[Jv hne,Zb,seval,Za,men],by (simp only[Zb,seval,Za,men]) <;> rfl⟩ trivial ?_
 intro _ _ _ _
 have h12:(l.length:Int)-0<=12:=by omega
 simp only[h12,Zb,seval,Za,men]
 refine⟨by rw[Zg];omega,?_⟩
 simp only[Vl]
 refine X5 [] (Zl S id (.ar 1 (rI srt) u hw ver)) (fun i hi=>by unfold Zl;rw[if_neg (fun e=>hne (by rw[<-e];exact hi))]) (by
  rw[U3 hne]
  exact ZFe l hl (lvl+1) (Zy lvl [] S) id u hw ver (by omega) (by rw[JE hne];exact hS) srt hsrt) ?_
 simp only[Jv hne,Zb,seval,Za,men]
theorem ZFg(l:List Int)(hl:l.length<=12)(lvl:Nat)(S:Zc)(id:Zd)(u:Bool)(hw ver:Nat)(hid:id.1<lvl)(hS:S id=some (.ar 1 (rI l) u hw ver))(srt:List Int)(hsrt:∀ x:List Int,x.Perm l->Wj x l.length->x=srt) :
  Sem Uch ZfR lvl [.hd id [] 0 l.length none hw] S (.tu []) (Zl S id (.ar 1 (rI srt) u hw ver)):=by
 have hne:id.1≠lvl:=by omega
 obtain⟨r,hr⟩:=ZgR (v:=(l.length:Int)) (by omega) (by omega)
 refine Zi ZAu trivial ?_
 simp only[ZkW,Zb,seval,Za,men]
 refine⟨⟨by show (0:Int)<=l.length;omega,by show (l.length:Int)<=18446744073709551615;omega⟩,Zf hr ?_⟩
 simp only[Zb,seval,Za,men]
 refine X5 [] (Zl S id (.ar 1 (rI srt) u hw ver)) (fun i hi=>by unfold Zl;rw[if_neg (fun e=>hne (by rw[<-e];exact hi))]) (by
  rw[U3 hne]
  exact ZFf l hl r (lvl+1) (Zy lvl [] S) id u hw ver (by omega) (by rw[JE hne];exact hS) srt hsrt) ?_
 simp only[Jv hne,Zb,seval,Za,men]
theorem ZFh{x:List Int}(h:Wj x x.length):x.Pairwise (fun a b=>a<=b):=by
 rw[Uba]
 intro i j hi hj hij
 have:=h i j hij hj
 rwa [show g0 x i=x[i] by simp [hi],show g0 x j=x[j] by simp [hj]] at this
theorem ZFi{l x:List Int}(hp:x.Perm l)(h:Wj x l.length):x=VF (fun a b:Int=>a<b) l:=by
 rw[<-hp.length_eq] at h
 exact ZaZ Zdx ((ZFh h).imp fun h=>by omega) (Za0 Zdx) (hp.trans srtG_perm.symm)
theorem ZoA{n i:Nat}(h:i<n):(Z7 n)[i]? = some (i:Int):=by
 unfold Z7
 simp [h]
theorem Uz{l:List Int}{j:Nat}(h:j<l.length):(rI l)[j]? = some [tv l[j]]:=by
 show (l.map _)[j]? = _
 rw[Uas,Uah h]
 rfl
theorem ZFj(n:Int)(l:List Int)(hl:l.length<=12)(hn:n=l.length)(lvl:Nat)(S:Zc):Sem Uch ZfH lvl [iI n,.tr (.sl (rI l))] S (iB (dc (Vu l.length l))) S:=by
 obtain⟨r,hr⟩:∃ r,r=VF (fun a b:Int=>a<b) l:=⟨_,rfl⟩
 have hrl:r.length=l.length:=by rw[hr];exact srtG_perm.length_eq
 refine Zi ZAg trivial ?_
 simp only[ZkL,Zb,seval,Za,men]
 refine Zf (Zdc l (by omega)) ?_
 simp only[Uaa,Zb,seval,Za,men]
 have s1:=fun S' hS=>ZFg l hl (lvl+1) S' (lvl,288) true l.length 0 (Ua4 _) hS r (fun x hp hu=>by rw[hr];exact ZFi hp hu)
 have hord:Vu l.length l↔r=Z7 l.length:=by rw[hr];exact ZEg
 refine Zc6 288 _ (s1 _ ?_) ?_
 ·rw[J7];rfl
 simp only[Zb,seval,Za,men]
 refine ZJ (α:=Unit) l.length (fun j _=>[(14,iI j)]) (fun _ _=>[]) (fun j _=>∀ i:Nat,i<j->r[i]? = some (i:Int)) () (by simp only[Zb,seval,Za,men]) (by (simp only[Zb,seval,Za,men]) <;> rfl) (fun i hi=>absurd hi (Ua2 i)) ?_
 intro j _ hj hA
 simp only[Uaa,Zb,seval,Za,men]
 refine Zs (fun hlt=>?_) (fun hge=>?_)
 ·have hja:j<l.length:=by omega
  have hjr:j<r.length:=by omega
  have ga:=Uz hjr
  simp only[ga,hja,Uaa,Zb,seval,Za,men]
  refine Zs (fun hq=>?_) (fun hq=>?_)
  ·have hno:¬ Vu l.length l:=fun g=>by
    have e:=hord.1 g
    have e2:r[j]? = some (j:Int):=by rw[e];exact ZoA hja
    rw[Uah hjr] at e2
    have e3:=UaC e2
    omega
   rw[Zt hno]
  ·exact⟨by rw[Zg];omega,Zu () hja rfl (fun i hi=>by
    rcases Nat.lt_or_eq_of_le (Nat.le_of_lt_succ hi) with h | h
    ·exact hA i h
    ·subst h
     rw[Uah hjr]
     congr 1
     omega)⟩
 ·have:j=l.length:=by omega
  subst this
  have hyes:Vu l.length l:=hord.2 (Ubp fun i=>by
   by_cases hi:i<l.length
   ·rw[hA i hi,ZoA hi]
   ·rw[UaY (by omega),UaY (by rw[VG];omega)])
  rw[ZY hyes,hn]
  simp only[Uaa,Zb,seval,Za,men]
noncomputable def WY(sig:List TControl)(t:List TTermStep):TBigraph:=(Yk sig t).getD JL
theorem UA{sig:List TControl}{t:List TTermStep}(h:∀ x m,JP sig t=some ([x],m) -> ¬ Vu x.2.length x.2):Yk sig t=none:=by
 unfold Yk
 split
 ·split
  ·rename_i x m he
   rw[if_neg (h x m he)]
  ·rfl
 ·rfl
theorem ZoB{sig:List TControl}{t:List TTermStep}(hs:Z2 sig)(hl:t.length<=60){x:ZS}{m:Nat}(hr:JP sig t=some ([x],m))(ho:Vu x.2.length x.2):Yk sig t=some (Zoi x):=by
 unfold Yk
 rw[if_pos ⟨hs,hl⟩,hr]
 simp only
 rw[if_pos ho]
theorem ZdG{sig:List TControl}{t:List TTermStep}(h:¬ (Z2 sig/\t.length<=60)):Yk sig t=none:=by
 unfold Yk
 rw[if_neg h]
theorem XF{sig:List TControl}{t:List TTermStep}(h:Yk sig t=none):WY sig t=JL:=by unfold WY;rw[h];rfl
theorem ZoC{sig:List TControl}{t:List TTermStep}{b:TBigraph}(h:Yk sig t=some b):WY sig t=b:=by unfold WY;rw[h];rfl
theorem ZoD{l v ini:List Int}{j:Nat}(hl:j<l.length)(hv:j<v.length)(h0:0<=l[j])(hn:l[j]<ini.length):ZI (rI (Y0 l v ini j)) [] l[j].toNat 0 (Tr.v (.int .i64 v[j]))=rI (Y0 l v ini (j+1)):=by
 rw[ZgY (by rw[QE];omega),Y0,show g0 l j=l[j] by simp [hl],show g0 v j=v[j] by simp [hv]]
theorem ZFk(sig:List TControl)(t:List TTermStep)(hn:sig.length<=4294967296)(hbs:∀ y∈sig,Jc 4294967296 y)(hlt:t.length<=4294967296)(hbt:∀ y∈t,Yx 4294967296 y)(lvl:Nat)(S:Zc):Sem Uch Zft lvl [.tr (.sl (sig.map Zr)),.tr (.sl (t.map Zv))] S (.tu [Zw (WY sig t),iB (Yk sig t).isSome]) S:=by
 refine Zi Zz2 (by simp [Zw,low,men,Za]) ?_
 simp only[Zky,Zb,seval,Za,men]
 refine Zf (ZgJ sig (by omega) (fun y hy=>Zc3 (hbs y hy))) ?_
 cases hsg:dc (Z2 sig)
 ·have e:=ZdG (t:=t) fun g=>dc_not.1 hsg g.1
  rw[e,XF e]
  simp only[Option.isSome_none,Zb,seval,Za,men]
  try rfl
 have hs:=dc_iff.1 hsg
 simp only[Uaa,Zb,seval,Za,men]
 refine Zs (fun hlo=>?_) (fun hlo=>?_)
 ·have e:=ZdG (sig:=sig) (t:=t) fun g=>by have:=g.2;omega
  rw[e,XF e]
  simp only[Option.isSome_none,Zb,seval,Za,men]
  try rfl
 have hl60:t.length<=60:=by omega
 refine Zf (ZEL sig t hn hbs hbt hs hl60) ?_
 cases hr:JP sig t with
 | none =>
  have e:Yk sig t=none:=UA fun x m g=>by rw[hr] at g;cases g
  rw[e,XF e]
  simp only[Option.isSome_none,Zb,seval,Za,men]
  try rfl
 | some z =>
  rw[Zop hr]
  obtain⟨L,m⟩:=z
  have hz:=Zbf hs (j:=t.length) (Ual _) (by rw[Uaw];exact hr)
  simp only[Option.isSome_some,Uaa,Zb,seval,Za,men]
  refine Zs (fun h1=>?_) (fun h1=>?_)
  ·obtain⟨x,rfl⟩:∃ x,L=[x]:=Zbg (by have:=of_decide_eq_false h1;omega)
   have hp:=hz.1 x (by simp)
   have h4:=hp.big.sitesL
   have hlen:=hp.len
   have ga:([x].map Zx)[0]? = some (Zx x):=rfl
   have hf:(decide ¬ ((([x]:List ZS).length:Nat):Int)=1)=false:=h1
   have q:=ZFj (x.2.length:Int) x.2 (by omega) rfl
   simp only[ga,hf,Zx,Ze,Uai,Uaj,Uaa,List.length_cons,List.length_nil,Zb,seval,Za,men]
   refine Zf q ?_
   cases ho:dc (Vu x.2.length x.2)
   ·have e:Yk sig t=none:=UA fun y m' g=>by
     rw[hr] at g
     cases g
     exact dc_not.1 ho
    rw[e,XF e]
    simp only[Option.isSome_none,Zb,seval,Za,men]
    try rfl
   have hord:=dc_iff.1 ho
   have e:=ZoB hs hl60 hr hord
   rw[e,ZoC e]
   have qo:=Zde x.1 (VJ (by omega) (Q1 hp.big))
   simp only[Ze,Uai,Uaj] at qo
   simp only[Option.isSome_some,Zb,seval,Za,men]
   refine Zf qo ?_
   simp only[Zw,Uaa,Zb,seval,Za,men]
   refine ZJ (α:=Unit) x.2.length (fun j _=>[(59,iI j)]) (fun j _=>[(1697,.ar 1 (rI (Y0 x.2 x.1.sites x.1.sites j)) true x.1.sites.length 0)]) (fun _ _=>True) () (by simp only[Zb,seval,Za,men]) (by (simp only[Y0,Zb,seval,Za,men]) <;> rfl) trivial ?_
   intro j _ hj _
   simp only[Uaa,Zb,seval,Za,men]
   refine Zs (fun hlt2=>?_) (fun hge=>?_)
   ·have hja:j<x.2.length:=by omega
    have hjs:j<x.1.sites.length:=by omega
    have gk:=Uz hja
    have gv:=Uz hjs
    have hm:=Zob hord (Uak hja)
    have hst:=ZoD (ini:=x.1.sites) hja hjs hm.1 (by omega)
    have hkl:x.2[j].toNat<x.1.sites.length:=by omega
    have gp:=Uz (l:=Y0 x.2 x.1.sites x.1.sites j) (j:=x.2[j].toNat) (by rw[QE];exact hkl)
    simp only[gk,gv,gp,hst,hkl,List.getElem?_cons_zero,QE,Uaa,Zb,seval,Za,men]
    exact⟨hm.1,by rw[Zg];omega,Zu () hja rfl trivial⟩
   ·have:j=x.2.length:=by omega
    subst this
    simp only[QE,Uaa,Zb,seval,Za,men]
    try rfl
  ·have e:Yk sig t=none:=UA fun x m' g=>by
    rw[hr] at g
    cases g
    simp at h1
   rw[e,XF e]
   simp only[Option.isSome_none,Zb,seval,Za,men]
   try rfl
end Go.Fd
