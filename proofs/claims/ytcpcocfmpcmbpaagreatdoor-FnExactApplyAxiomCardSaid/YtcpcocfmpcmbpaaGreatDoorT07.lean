/-
  ONE BIGRAPH UNDER ANOTHER, THE PROGRAM'S SIDE: joined. Own work.
-/
import Derived.Test.YtcpcocfmpcmbpaaGreatDoorT06
import Derived.Shelf.SlSortCmp.WholeK
set_option linter.all false
namespace Go.Fd
open Go.Proofs.Tryz renaming prog->Ucb
set_option maxRecDepth 20000
theorem ZEG(e:Int×ByteArray)(lvl:Nat)(S:Zb):Sem Ucb Zdh lvl [oE e] S (oE e) S:=by refine Zl ZCT (by simp [low,men,Zc]) ?_;simp only[ZmX,Za,seval]
theorem ZEH(a:TBigraph)(e:Int×ByteArray)(nf:FuncId)(cs:List (List Tr))(nm:ByteArray->Int×ByteArray)(h1:-4294967296<=e.1/\e.1<=4294967296)(h2:0<=a.edges/\a.edges<=4294967296)(hN:e.2≠Ja->∀ lvl S,Sem Ucb nf lvl (iS e.2::cs.map IV.ta) S (oE (nm e.2)) S)
  (lvl:Nat) (S:Zb) (id:Zd) (hid:id.1<lvl) (sN:S id=some (.bx [.fn nf (cs.map IV.ta)])):Sem Ucb DP lvl [oE e,.ta (Zh a),.ab id 0] S (oE (QM a nm e)) S:=by
 have hne:id.1≠lvl:=by omega
 refine Zl ZCU (by simp [low,men,Zc]) ?_;simp only[ZmY,Zh,J0 hne,sN,Za,seval,Zc,men];unfold QM;by_cases h:e.2=Ja
 ·rw[if_pos h];have h':e.2 = { data:=#[] }:=h;simp only[h',Za,seval];rw[Ze];omega
 ·rw[if_neg h];have h':¬ e.2 = { data:=#[] }:=h;simp only[h',Q6,Vf,Za,seval];refine Zf (hN h) ?_;simp only[Za,seval]
def Ue(n:Int)(pl:Int->Int)(p:Int):Int:=if 0<=p then p+n else pl p
theorem Zom(a:TBigraph)(p:Int)(pf:FuncId)(cs:List (List Tr))(pl:Int->Int)(hn:a.nodes.length<=4294967296)(hp:-4294967296<=p/\p<=4294967296)(hP:p<0->∀ lvl S,Sem Ucb pf lvl (iI p::cs.map IV.ta) S (iI (pl p)) S)(lvl:Nat)(S:Zb):Sem Ucb Zdi lvl [.ag ((Zh a).map .tr),iI p,.fn pf (cs.map IV.ta)] S (iI (Ue a.nodes.length pl p)) S:=by
 refine Zl ZCV trivial ?_;simp only[ZmZ,Zh,Uaa,Za,seval,Zc,men];unfold Ue;by_cases h:0<=p
 ·rw[if_pos h];simp only[h,Za,seval];rw[Ze];omega
 ·rw[if_neg h];simp only[h,Q6,Vf,Za,seval];refine Zf (hP (by omega)) ?_;simp only[Za,seval]
theorem Zon{id:Zd}:∀{l:List (List Tr)},scrs id (l.map IV.ta)=l.map IV.ta
 | []=>rfl
 | x::r=>by simp only[Uah,scrs,scr];rw[Zon]
theorem ZEI(sig:List TControl)(a b:TBigraph)(ha:bigOK sig a)(hb:bigOK sig b)(roots:Int)(ss:List Int)(hss:ss.length<=1000)(o:List ByteArray)(ho:o.length<=1000)(pf:FuncId)(ps:List (List Tr))(pl:Int->Int)(nf:FuncId)(ns:List (List Tr))(nm:ByteArray->Int×ByteArray)
  (hP:∀ p,-b.roots<=p->p<0->∀ lvl S,Sem Ucb pf lvl (iI p::ps.map IV.ta) S (iI (pl p)) S) (hN:∀ x∈b.outer,∀ lvl S,Sem Ucb nf lvl (iS x::ns.map IV.ta) S (oE (nm x)) S)
  (lvl:Nat) (S:Zb):Sem Ucb Za9 lvl [.ag ((Zh a).map .tr),.ag ((Zh b).map .tr),iI roots,tI ss,.tr (.sl (rS o)),.fn pf (ps.map IV.ta),.fn nf (ns.map IV.ta)] S
   (.ag [iI roots,.ow 3 ((Vh a b roots ss (ZN o) (J1 a (a.edges+b.edges) (ZN o) fun x=>x) (J1 b (a.edges+b.edges) (ZN o) (QM a nm)) (Ue a.nodes.length pl)).nodes.map ZQ) (decide (b.nodes.length=0)),.ow 1 (rI (ss++b.sites.map (Ue a.nodes.length pl))) true,iI (a.edges+b.edges),.ow 1 (rS (ZN o)) true,.tr (.sl ((b.inner.map (JL (J1 b (a.edges+b.edges) (ZN o) (QM a nm)))).map ZS))]) S:=by
 have ra:=ha.roots;have rb:=hb.roots;have ea:=ha.edges;have eb:=hb.edges;have sa:=ha.small;have sb:=hb.small;have a1:=sa.nodes;have a2:=sa.sites;have a3:=sa.inner;have a4:=sa.outer;have b1:=sb.nodes;have b2:=sb.sites;have b3:=sb.inner;have b4:=sb.outer;have lnA:∀ x∈a.nodes,∀ l∈x.links,Z6 a l:=fun x hx l hl=>by obtain⟨k,hk,rfl⟩:=Uar hx;exact(ha.nodes k hk).links l hl
 have lnB:∀ x∈b.nodes,∀ l∈x.links,Z6 b l:=fun x hx l hl=>by obtain⟨k,hk,rfl⟩:=Uar hx;exact(hb.nodes k hk).links l hl
 obtain⟨FL,hFL⟩:∃ F,F=J1 a (a.edges+b.edges) (ZN o) fun x=>x:=⟨_,rfl⟩;obtain⟨FR,hFR⟩:∃ F,F=J1 b (a.edges+b.edges) (ZN o) (QM a nm):=⟨_,rfl⟩;obtain⟨mv,hmv⟩:∃ F,F=Ue a.nodes.length pl:=⟨_,rfl⟩;have q1:=ZdH a (a.edges+b.edges) o Zdh [] (fun x=>x) ea.1 (VK (by omega) (Q9 ha)) (by omega) (by omega) (by omega) lnA ha.inner (fun l _ lvl S=>ZEG (Yn a l) lvl S);have hR:∀ loc:List (Nat×Ob),lkO 416 loc=some (.bx [.fn nf (ns.map IV.ta)])->∀ l' S',Zc (XY (ZF lvl loc S) S' l') [.ag ((Zh b).map .tr),iI (a.edges+b.edges),.tr (.sl (rS o)),.fn DP [.ta (Zh a),.ab (lvl,416) 0]]->Sem Ucb Wr l' [.ag ((Zh b).map .tr),iI (a.edges+b.edges),.tr (.sl (rS o)),.fn DP [.ta (Zh a),.ab (lvl,416) 0]] S' (ZA (Jp b FR (a.edges+b.edges) (ZN o))) S':=fun loc h1 l' S' hs=>by
  have hc:Zc (Qf (ZF lvl loc S) S' l') [.ta (Zh a),.ab (lvl,416) 0]:=by have h2:=(ZnW hs).2.2.2.1;simp only[men] at h2;exact h2
  rw[hFR];exact ZnZ b (a.edges+b.edges) o DP _ (ZF lvl loc S) (QM a nm) eb.1 (VK (by omega) (Q9 hb)) (by omega) (by omega) (by omega) lnB hb.inner (fun l hl l'' S'' hs2=>by
   have hz:=hs2.2.1;simp only[men] at hz;refine ZEH a (Yn b l) nf ns nm (ZEy eb hl) (by omega) (fun hne=>hN _ ?_) l'' S'' (lvl,416) hz.1 (hz.2 _ (by rw[J3];exact h1));rcases Qq hl with ⟨g0,g1⟩ | ⟨i,hi,rfl⟩
   ·rw[DX g1] at hne;exact absurd rfl hne
   ·rw[DY hi];exact Uaj hi) l' S' hc
 rw[<-hFL] at q1;rw[<-hFL,<-hFR,<-hmv];simp only[Zh,ZA,Jp,Uah,Uam] at q1 hR;obtain⟨N1,hN1⟩:∃ l,l=a.nodes.map (fun x=>({ control:=x.control,parent:=x.parent,links:=List.map FL x.links }:TNode)):=⟨_,rfl⟩;obtain⟨B1,hB1⟩:∃ l,l=b.nodes.map (fun x=>({ control:=x.control,parent:=x.parent,links:=List.map FR x.links }:TNode)):=⟨_,rfl⟩;obtain⟨B2,hB2⟩:∃ l,l=b.nodes.map (fun x=>({ control:=x.control,parent:=mv x.parent,links:=List.map FR x.links }:TNode)):=⟨_,rfl⟩;have lN1:N1.length=a.nodes.length:=by rw[hN1,Uaa]
 have lB1:B1.length=b.nodes.length:=by rw[hB1,Uaa]
 have lB2:B2.length=b.nodes.length:=by rw[hB2,Uaa]
 simp only[<-hN1] at q1;have hW1:b.inner.map (fun w=>({ name:=w.name,link:=FR w.link }:TWire))=b.inner.map (JL FR):=rfl;simp only[<-hB1,hW1] at hR;refine Zl ZCy (by simp [low,men,Zc]) ?_;simp only[ZmC,Zh,Za,seval,Zc,men];refine⟨by rw[Ze];omega,?_⟩;refine Zf q1 ?_;simp only[lN1,Uaa,Za,seval];refine Zct (hR _ rfl) ?_;simp only[Za,seval,Zc,men];refine Zf (ZdC ss (by omega)) ?_;simp only[lB1,Uaa,Za,seval];refine ZP (α:=Unit) b.nodes.length (fun j _=>[(51,iI j)]) (fun j _=>[(576,.bx [iI roots,.hd (lvl,992) [] 0 (a.nodes.length+j) none (a.nodes.length+j),.hd (lvl,1312) [] 0 ss.length none ss.length,iI (a.edges+b.edges),.hd (lvl,994) [] 0 (ZN o).length none (ZN o).length,.tr (.sl ((b.inner.map (JL FR)).map ZS))]),(992,.ar 3 ((N1++B2.take j).map ZQ) (decide (j=0)) (a.nodes.length+j) 0)]) (fun _ _=>True) () (by simp only[UX,Za,seval]) (by simp only[hN1,Za,seval];simp) trivial ?_;intro j _ hj _;simp only[Uaa,Za,seval];refine Zv (fun hlt=>?_) (fun hge=>?_)
 ·have hja:j<b.nodes.length:=by omega
  have ga:(B1.map ZQ)[j]? = some [tv b.nodes[j].control,tv b.nodes[j].parent,Tr.sl (rI (b.nodes[j].links.map FR))]:=by rw[hB1,Uao,Uao,Uak hja];rfl
  have hx:=Uaj hja;have hbp:=XO hb hx;have hge:=Yo rb.1 (hb.nodes j hja).par;simp only[ga,Q6,Vf,Za,seval,Zc,men];have q3:=Zom a b.nodes[j].parent pf ps pl (by omega) (by omega) (fun h=>hP _ hge h);rw[<-hmv] at q3;simp only[Zh,Uah,Uam] at q3;refine Zf q3 ?_;have hs:(N1++B2.take j).map ZQ++[[tv b.nodes[j].control,tv (mv b.nodes[j].parent),Tr.sl (rI (b.nodes[j].links.map FR))]]=(N1++B2.take (j+1)).map ZQ:=by have hj2:j<B2.length:=(by omega);rw[Uag hj2,<-UaR,Uaw (l₂:=[B2[j]])];simp [hB2,ZQ]
  have hl:(N1++B2.take j).length=a.nodes.length+j:=by rw[Uac,Uai];omega
  simp only[hs,hl,UbR,Zon,Vf,Uaa,Za,seval];exact⟨by omega,by rw[Ze];omega,Zz () hja rfl trivial⟩
 ·have:j=b.nodes.length:=by omega
  subst this;rw[show B2.take b.nodes.length=B2 from by rw[<-lB2,Uap]];refine ZP (α:=Unit) b.sites.length (fun j _=>[(71,iI j)]) (fun j _=>[(576,.bx [iI roots,.hd (lvl,992) [] 0 (a.nodes.length+b.nodes.length) none (a.nodes.length+b.nodes.length),.hd (lvl,1312) [] 0 (ss.length+j) none (ss.length+j),iI (a.edges+b.edges),.hd (lvl,994) [] 0 (ZN o).length none (ZN o).length,.tr (.sl ((b.inner.map (JL FR)).map ZS))]),(1312,.ar 1 (rI (ss++(b.sites.take j).map mv)) true (ss.length+j) 0)]) (fun _ _=>True) () (by simp only[UX,Za,seval]) (by simp only[Za,seval];simp) trivial ?_;intro j _ hj _;simp only[Uaa,Za,seval];refine Zv (fun hlt=>?_) (fun hge=>?_)
  ·have hja:j<b.sites.length:=(by omega);have ga:=JC hja;have e0:g0 b.sites j=b.sites[j]:=(by simp [hja]);have hx:=Uaj hja;have hbp:=XP hb hx;have hge:=Yo rb.1 (hb.sites _ hx);rw[<-e0] at hbp hge;simp only[ga,Q6,Vf,Za,seval,Zc,men];have q3:=Zom a (g0 b.sites j) pf ps pl (by omega) (by omega) (fun h=>hP _ hge h);rw[<-hmv] at q3;simp only[Zh,Uah,Uam] at q3;refine Zf q3 ?_;have hs:rI (ss++(b.sites.take j).map mv)++[[tv (mv (g0 b.sites j))]]=rI (ss++(b.sites.take (j+1)).map mv):=(by rw[Uag hja,Uaw,<-UaR,J4 (ss++_),e0];rfl);have hl:(ss++(b.sites.take j).map mv).length=ss.length+j:=(by rw[Uac,Uaa,Uai];omega);simp only[hs,hl,Vf,Uaa,Za,seval];exact⟨by omega,by rw[Ze];omega,Zz () hja rfl trivial⟩
  ·have:j=b.sites.length:=(by omega);subst this;rw[Uap];exact⟨by rw[Uac];omega,by rw[Uac,Uaa],by rw[hN1,hB2];rfl⟩
abbrev ZhH(b:TBigraph)(u:Bool):IV:=.ag [iI b.roots,.ow 3 (b.nodes.map ZQ) u,.ow 1 (rI b.sites) true,iI b.edges,.ow 1 (rS b.outer) true,.tr (.sl (b.inner.map ZS))]
theorem Zoo(sig:List TControl)(a b X:TBigraph)(ha:bigOK sig a)(hb:bigOK sig b)(roots:Int)(ss:List Int)(hss:ss.length<=1000)(o:List ByteArray)(ho:o.length<=1000)(pf:FuncId)(ps:List (List Tr))(pl:Int->Int)(nf:FuncId)(ns:List (List Tr))(nm:ByteArray->Int×ByteArray)
  (hP:∀ p,-b.roots<=p->p<0->∀ lvl S,Sem Ucb pf lvl (iI p::ps.map IV.ta) S (iI (pl p)) S) (hN:∀ x∈b.outer,∀ lvl S,Sem Ucb nf lvl (iS x::ns.map IV.ta) S (oE (nm x)) S)
  (hX:Vh a b roots ss (ZN o) (J1 a (a.edges+b.edges) (ZN o) fun x=>x) (J1 b (a.edges+b.edges) (ZN o) (QM a nm)) (Ue a.nodes.length pl)=X)
  (lvl:Nat) (S:Zb):Sem Ucb Za9 lvl [.ag ((Zh a).map .tr),.ag ((Zh b).map .tr),iI roots,tI ss,.tr (.sl (rS o)),.fn pf (ps.map IV.ta),.fn nf (ns.map IV.ta)] S (ZhH X (decide (b.nodes.length=0))) S:=by
 subst hX;exact ZEI sig a b ha hb roots ss hss o ho pf ps pl nf ns nm hP hN lvl S
theorem ZEJ{a:TBigraph}:Ue a.nodes.length (fun p=>g0 a.sites (-1-p).toNat)=ZdP a:=rfl
theorem Zop{sig:List TControl}{a b:TBigraph}(ha:bigOK sig a)(hb:bigOK sig b){o:List ByteArray}(ho:o.length<=100):(∀ l,Z6 a l->sm (g0 (Qb a (a.edges+b.edges) o) l.toNat)):=fun l hl=>by have ea:=ha.edges;have eb:=hb.edges;exact ZEF ha (by omega) ho hl
theorem ZEK(a:TBigraph)(p:Int)(hp:-4294967296<=p/\p<0)(hl:(-1-p).toNat<a.sites.length)(lvl:Nat)(S:Zb):Sem Ucb Zc4 lvl [iI p,.ta (Zh a)] S (iI (g0 a.sites (-1-p).toNat)) S:=by obtain⟨k,hk⟩:∃ k:Nat,-1-p=k:=⟨(-1-p).toNat,by omega⟩;rw[hk] at hl ⊢;rw[Int.toNat_natCast] at hl ⊢;have ga:=JC hl;refine Zl ZCA trivial ?_;simp only[ZmE,Zh,hk,ga,Za,↓reduceIte,Nat.reduceEqDiff,reduceCtorEq,Nat.reduceAdd,Nat.reduceLeDiff,Nat.reduceLT];rw[Ze];omega
theorem Zoq(s:ByteArray)(lvl:Nat)(S:Zb):Sem Ucb DO lvl [iS s] S (oE (0,s)) S:=by refine Zl ZCB (by simp [low,men,Zc]) ?_;simp only[ZmF,Za,↓reduceIte,Nat.reduceEqDiff,Nat.reduceMul,reduceCtorEq,Nat.reduceAdd,Nat.reduceLeDiff,Nat.reduceLT]
theorem ZEL(n:Nat)(hn:n<=4294967296)(lvl:Nat)(S:Zb):Sem Ucb Zg0 lvl [.cs [],iI n] S (.ow 1 [] true) S:=by
 refine Zl ZCW trivial ?_;simp only[Zm0,Za,↓reduceIte,Nat.reduceEqDiff,Nat.reduceMul,reduceCtorEq,Nat.reduceAdd,Nat.reduceLeDiff,Nat.reduceLT,Int.reduceLE];rw[if_neg (by omega)];refine⟨by rw[Ze];omega,by rw[Ze];omega,?_⟩;split
 ·exact⟨fun e he=>by (cases he),by omega,by omega,by omega⟩
 ·trivial
theorem Zor{α:Type}{ls:List (List α)}{j:Nat}(h:j<ls.length):(ls.take (j+1)).flatten=(ls.take j).flatten++ls[j]:=by rw[Uag h,List.flatten_append];simp
theorem Zos{α:Type}{ls:List (List α)}{j:Nat}:((ls.take j).flatten).length<=ls.flatten.length:=by have h:=congrArg (fun l=>l.flatten.length) (Ua5 j ls);simp only[List.flatten_append,Uac] at h;omega
abbrev eSS(l:List ByteArray):List Tr:=[Tr.sl (rS l)]
theorem Zot(ls:List (List ByteArray))(hl:ls.length<=4294967296)(ht:ls.flatten.length<=4294967296)(lvl:Nat)(S:Zb):Sem Ucb Zc3 lvl [.tr (.sl (ls.map eSS))] S (.ow 1 (rS ls.flatten) true) S:=by
 refine Zl ZCz trivial ?_;simp only[ZmD,Uaa,Za,↓reduceIte,Nat.reduceEqDiff,reduceCtorEq,Nat.reduceLeDiff,Nat.reduceLT];refine ZP (α:=Unit) ls.length (fun j _=>[(3,iI ((ls.take j).flatten).length),(11,iI j)]) (fun _ _=>[]) (fun _ _=>True) () (by simp only[Za,↓reduceIte,Nat.reduceEqDiff,reduceCtorEq]) (by (simp only[Za,↓reduceIte,Nat.reduceEqDiff,reduceCtorEq,Nat.reduceLT])<;>rfl) trivial ?_;intro j _ hj _;simp only[Za,↓reduceIte,Nat.reduceEqDiff,reduceCtorEq,Nat.reduceLT];refine Zv (fun hlt=>?_) (fun hge=>?_)
 ·have hja:j<ls.length:=by omega
  have ga:=Jb (c:=eSS) hja;have h1:=Zor (ls:=ls) hja;have h2:=Zos (ls:=ls) (j:=j+1);rw[h1,Uac] at h2;simp only[ga,Uaa,Za,↓reduceIte,Nat.reduceEqDiff,reduceCtorEq,Nat.reduceLT];refine⟨by rw[Ze];omega,?_⟩;rw[if_neg (by omega)];exact⟨by rw[Ze];omega,Zz () hja (by rw[h1,Uac];rfl) trivial⟩
 ·have:j=ls.length:=by omega
  subst this;rw[Uap];refine Zkn (ZEL _ ht _ _) ?_;simp only[Uaa,Za,↓reduceIte,Nat.reduceEqDiff,Nat.reduceMul,reduceCtorEq,Nat.reduceAdd,Nat.reduceLT];refine ZP (α:=Unit) ls.length (fun j _=>[(6,.hd (lvl,768) [] 0 ((ls.take j).flatten).length none ((ls.take j).flatten).length),(27,iI j)]) (fun j _=>[(768,.ar 1 (rS (ls.take j).flatten) true ((ls.take j).flatten).length 0)]) (fun _ _=>True) () (by simp only[Za,↓reduceIte,Nat.reduceEqDiff,reduceCtorEq]) (by (simp only[Za,↓reduceIte,Nat.reduceEqDiff,reduceCtorEq,Nat.reduceLT])<;>rfl) trivial ?_;intro j _ hj _;simp only[Uaa,Za,↓reduceIte,Nat.reduceEqDiff,reduceCtorEq,Nat.reduceLT];refine Zv (fun hlt2=>?_) (fun hge2=>?_)
  ·have hja:j<ls.length:=(by omega);have ga:=Jb (c:=eSS) hja;have h1:=Zor (ls:=ls) hja;have h2:=Zos (ls:=ls) (j:=j+1);rw[h1,Uac] at h2;simp only[ga,QK,V8,Uaa,Za,↓reduceIte,Nat.reduceEqDiff,Nat.reduceLT];exact⟨by omega,by rw[Ze];omega,Zz () hja (by rw[h1,Uac,DR,Ubq (Ubr _ _)];rfl) trivial⟩
  ·have:j=ls.length:=(by omega);subst this;rw[Uap]
theorem Uf{a b:TBigraph}:(Jn a b).length<=a.outer.length+b.outer.length:=UaG D7 (by rw[Uac];omega)
def ZEM(sig:List TControl)(a b:TBigraph):Prop:=bigOK sig a/\bigOK sig b/\a.inner.length=0/\(a.sites.length:Int)=b.roots
def WA(sig:List TControl)(a b:TBigraph):Prop:=ZEM sig a b/\bigOK sig (YK a b)
theorem Zou{sig:List TControl}{a b:TBigraph}(ha:bigOK sig a)(hb:bigOK sig b):Jo 4294967290 (YK a b):=by
 have a4:=ha.small.outer;have b4:=hb.small.outer;have hl:=Uf (a:=a) (b:=b);refine Zoj ha hb (by simp) (by omega) fun y hy=>?_;rcases Uaq.1 (setS_mem.1 hy) with hy | hy
 ·have:=QL ha.outer hy;omega
 ·have:=QL hb.outer hy;omega
theorem Zov{sig:List TControl}{a b:TBigraph}(ha:bigOK sig a)(hb:bigOK sig b)(hf:(a.sites.length:Int)=b.roots)(fa:JM a)(fb:JM b):JM (YK a b):=by have a4:=ha.small.outer;have b4:=hb.small.outer;have ea:=ha.edges;have eb:=hb.edges;have ra:=ha.roots;have hl:=Uf (a:=a) (b:=b);refine Zok ha hb fa fb (by unfold sm;omega) (by simp) (fun l hl2=>Zop ha hb (by omega) l hl2) (fun l hl2=>Zol ha hb (fun x hx=>?_) hl2) fun p h1 h2=>ZEE ha hb hf h1 h2;have:=U0 (l:=Jn a b) (s:=x);have:=Ud (l:=Jn a b) (s:=x);unfold sm;omega
open Classical in
noncomputable def ZhI(sig:List TControl)(a b:TBigraph):TBigraph:=if WA sig a b then YK a b else JN
noncomputable def ZhJ(sig:List TControl)(a b:TBigraph):Bool:=dc (WA sig a b)
theorem ZEN(sig:List TControl)(a b:TBigraph)(ha:bigOK sig a)(hb:bigOK sig b)(hf:(a.sites.length:Int)=b.roots)(lvl:Nat)(S:Zb):Sem Ucb ZgB lvl [.ag ((Zh a).map .tr),.ag ((Zh b).map .tr)] S (Wy (YK a b) false) S:=by
 have ea:=ha.edges;have eb:=hb.edges;have sa:=ha.small;have sb:=hb.small;have a4:=sa.outer;have b4:=sb.outer;have hol:=Uf (a:=a) (b:=b);refine Zl ZBY (by simp [low,men,Zc]) ?_;simp only[Zl0,Zh,QK,V8,UbX,Uaa,Za,↓reduceIte,Nat.reduceEqDiff,Nat.reduceMul,reduceCtorEq,Nat.reduceAdd,Nat.reduceLeDiff,Nat.reduceLT,Zc,men];rw[show cut (rS a.outer++rS b.outer) 0 (a.outer.length+b.outer.length)=rS (a.outer++b.outer) from by
  rw[<-DR];exact Ym (by simp [rS])]
 refine⟨by omega,by omega,by simp [rS],Zf (ZdN (a.outer++b.outer) (by rw[Uac];omega)) ?_⟩;rw[show ZN (a.outer++b.outer)=Jn a b from rfl];simp only[Za,↓reduceIte,Nat.reduceEqDiff,Nat.reduceMul,reduceCtorEq,Nat.reduceAdd,Nat.reduceLT,Zc,men];refine⟨by rw[Ze];omega,?_⟩;refine Zf (Zbu a.outer (a.edges+b.edges) (Jn a b) (by omega) (by omega) (by omega)) ?_;simp only[Za,↓reduceIte,Nat.reduceEqDiff,Nat.reduceMul,reduceCtorEq,Nat.reduceLT,Zc,men];refine Zf (Zbu b.outer (a.edges+b.edges) (Jn a b) (by omega) (by omega) (by omega)) ?_;simp only[Za,↓reduceIte,Nat.reduceEqDiff,Nat.reduceMul,reduceCtorEq,Nat.reduceLT,Zc,men];have q:=ZED sig a b (Jn a b) (a.outer.map fun x=>a.edges+b.edges+Jh (Jn a b) x) (b.outer.map fun x=>a.edges+b.edges+Jh (Jn a b) x) ha hb hf (by simp) (by simp) (by omega) (Qb a (a.edges+b.edges) (Jn a b)) (Xa a b fun x=>a.edges+b.edges+Jh (Jn a b) x) (fun n hn=>Zob hn) (fun n hn=>Zoc hn);rw[show ZdO a b (Jn a b) (Qb a (a.edges+b.edges) (Jn a b)) (Xa a b fun x=>a.edges+b.edges+Jh (Jn a b) x)=YK a b from rfl] at q;simp only[Zh,Wy,Uah,Uam] at q;refine Zf q ?_;simp only[Uaa,Za,↓reduceIte,Nat.reduceEqDiff,Nat.reduceMul,reduceCtorEq,Nat.reduceAdd,Nat.reduceLT]
theorem ZEO(sig:List TControl)(a b:TBigraph)(hn:sig.length<=4294967296)(hbs:∀ y∈sig,Z9 4294967296 y)(hba:Jo 4294967296 a)(hbb:Jo 4294967296 b)(fa:JM a)(fb:JM b)(lvl:Nat)(S:Zb):Sem Ucb ZgG lvl [.tr (.sl (sig.map Zx)),.ag ((Zh a).map .tr),.ag ((Zh b).map .tr)] S (.tu [ZA (ZhI sig a b),iB (ZhJ sig a b)]) S:=by
 refine Zl ZB4 (by simp [ZA,low,men,Zc]) ?_;simp only[Zl7,Zh,Za,↓reduceIte,Nat.reduceEqDiff,Nat.reduceMul,reduceCtorEq,Nat.reduceAdd,Nat.reduceLeDiff,Nat.reduceLT,Zc,men];have i1:=UZ sig a hn hbs hba;have i2:=UZ sig b hn hbs hbb;simp only[Zh,Uah,Uam] at i1 i2;refine Zf i1 ?_;unfold ZhI ZhJ;cases h1:dc (bigOK sig a)
 ·have hno:¬ WA sig a b:=fun g=>dc_not.1 h1 g.1.1;rw[if_neg hno,Zt hno];simp only[Za,↓reduceIte,Nat.reduceEqDiff,Nat.reduceMul,reduceCtorEq,Nat.reduceAdd,Nat.reduceLT];rfl
 have hA:=dc_iff.1 h1;simp only[Za,↓reduceIte,Nat.reduceEqDiff,Nat.reduceMul,reduceCtorEq,Nat.reduceAdd,Nat.reduceLT,Zc,men];refine Zf i2 ?_;cases h2:dc (bigOK sig b)
 ·have hno:¬ WA sig a b:=fun g=>dc_not.1 h2 g.1.2.1;rw[if_neg hno,Zt hno];simp only[Za,↓reduceIte,Nat.reduceEqDiff,Nat.reduceMul,reduceCtorEq,Nat.reduceAdd,Nat.reduceLT];rfl
 have hB:=dc_iff.1 h2;have sa:=hA.small;have sb:=hB.small;have a2:=sa.sites;have a3:=sa.inner;have a4:=sa.outer;have b4:=sb.outer;have ra:=hA.roots;have rb:=hB.roots;simp only[Uaa,Za,↓reduceIte,Nat.reduceEqDiff,Nat.reduceMul,reduceCtorEq,Nat.reduceAdd,Nat.reduceLT,Zc,men];by_cases h3:(0:Int)<a.inner.length
 ·have hno:¬ WA sig a b:=fun g=>by have:=g.1.2.2.1;omega
  rw[if_neg hno,Zt hno];simp only[h3,Za,↓reduceIte];rfl
 by_cases h4:(a.sites.length:Int)=b.roots
 ·simp only[h3,h4,Za,↓reduceIte];have hfl:[a.outer,b.outer].flatten=a.outer++b.outer:=by simp
  have hc:=Zot [a.outer,b.outer] (by simp) (by rw[hfl,Uac];omega);rw[hfl] at hc;refine⟨by simp,by simp,Zf hc ?_⟩;simp only[Za,↓reduceIte,Nat.reduceEqDiff,Nat.reduceMul,reduceCtorEq,Nat.reduceLT,Zc,men];have qj:=Zoo sig a b (YK a b) hA hB a.roots [] (by simp) (a.outer++b.outer) (by rw[Uac];omega) Zc4 [Zh a] (fun p=>g0 a.sites (-1-p).toNat) DO [] (fun s=>(0,s)) (fun p h1 h2 lvl S=>ZEK a p (by omega) (by omega) lvl S) (fun x _ lvl S=>Zoq x lvl S) (by rw[ZEJ];exact ZEC hA hB);simp only[Zh,ZhH,Uah,Uam] at qj;refine Zf qj ?_;simp only[Za,↓reduceIte,Nat.reduceEqDiff,Nat.reduceMul,reduceCtorEq,Nat.reduceLT,Zc,men];have qv:=ZdI sig (YK a b) hn hbs (Zou hA hB) (Zov hA hB h4 fa fb);simp only[Zh,Uah,Uam] at qv;refine Zf qv ?_;cases h6:dc (bigOK sig (YK a b))
  ·have hno:¬ WA sig a b:=fun g=>dc_not.1 h6 g.2;rw[if_neg hno,Zt hno,if_neg (dc_not.1 h6)];simp only[ZA,Za,↓reduceIte,Nat.reduceEqDiff,Nat.reduceMul,reduceCtorEq,Nat.reduceAdd,Nat.reduceLT];rfl
  ·have hyes:WA sig a b:=⟨⟨hA,hB,by omega,h4⟩,dc_iff.1 h6⟩;rw[if_pos hyes,ZU hyes,if_pos (dc_iff.1 h6)];simp only[ZA,Uaa,Za,↓reduceIte,Nat.reduceEqDiff,Nat.reduceMul,reduceCtorEq,Nat.reduceAdd,Nat.reduceLT]
 ·have hno:¬ WA sig a b:=fun g=>h4 g.1.2.2.2;rw[if_neg hno,Zt hno];simp only[h3,h4,Za,↓reduceIte];rfl
def Yj(x y:TWire):Prop:=ltS x.name y.name
open Classical in
noncomputable def QN:List TWire->TWire->List TWire
 | [],w=>[w]
 | x::r,w=>if Yj x w then x::QN r w else w::x::r
theorem Zow{w:TWire}:∀{O:List TWire} {k:Nat},k<=O.length->(∀ y∈O.take k,Yj y w)->(∀ h:k<O.length,¬ Yj O[k] w)->QN O w=O.take k++([w]++O.drop k)
 | [],0,_,_,_=>rfl
 | [],k+1,h,_,_=>by simp at h
 | x::r,0,_,_,h2=>by have:¬ Yj x w:=h2 (by simp);rw[QN,if_neg this];rfl
 | x::r,k+1,h,h1,h2=>by
  have:Yj x w:=h1 x (by simp);rw[QN,if_pos this,Zow (k:=k) (by simpa using h) (fun y hy=>h1 y (by simp [hy])) (fun h3=>by
   have:=h2 (by simpa using h3);simpa using this)]
  simp
theorem insW_perm{w:TWire}:∀{O:List TWire},(QN O w).Perm (w::O)
 | []=>List.Perm.refl _
 | x::r=>by
  rw[QN];split
  ·exact(List.Perm.cons x insW_perm).trans (List.Perm.swap w x r)
  ·exact List.Perm.refl _
theorem Zox{w:TWire}:∀{O:List TWire},O.Pairwise Yj->(∀ x∈O,x.name≠w.name)->(QN O w).Pairwise Yj
 | [],_,_=>List.pairwise_singleton ..
 | x::r,h,hn=>by
  have hc:=Ua4.1 h;rw[QN];split
  ·rename_i hlt;refine Ua4.2 ⟨fun y hy=>?_,Zox hc.2 fun z hz=>hn z (by simp [hz])⟩;rcases UaF.1 (insW_perm.mem_iff.1 hy) with rfl | hy
   ·exact hlt
   ·exact hc.1 y hy
  ·rename_i hlt;have hwx:Yj w x:=by
    rcases ordsS.tri x.name w.name with q | q | q
    ·exact absurd q hlt
    ·exact absurd q (hn x (by simp))
    ·exact q
   refine Ua4.2 ⟨fun y hy=>?_,h⟩;rcases UaF.1 hy with rfl | hy
   ·exact hwx
   ·exact ordsS.tr _ _ _ hwx (hc.1 y hy)
noncomputable def YG(a b:List TWire):List TWire:=b.foldl QN a
theorem wjoin_perm:∀{b a:List TWire},(YG a b).Perm (a++b)
 | [],a=>by simp [YG]
 | w::r,a=>by have h:=wjoin_perm (b:=r) (a:=QN a w);refine h.trans ?_;refine(insW_perm.append_right r).trans ?_;exact List.perm_middle.symm
theorem ZdS{a b:List TWire}:(YG a b).length=a.length+b.length:=by rw[wjoin_perm.length_eq,Uac]
theorem ZEP{a b:List TWire}{j:Nat}(h:j<b.length):YG a (b.take (j+1))=QN (YG a (b.take j)) b[j]:=by unfold YG;rw[Uag h,List.foldl_append];rfl
theorem Zoy:∀{b a:List TWire},a.Pairwise Yj->b.Pairwise Yj->(∀ x∈a,∀ y∈b,x.name≠y.name)->(YG a b).Pairwise Yj
 | [],a,ha,_,_=>ha
 | w::r,a,ha,hb,hd=>by
  have hc:=Ua4.1 hb;refine Zoy (b:=r) (a:=QN a w) (Zox ha fun x hx=>hd x hx w (by simp)) hc.2 fun x hx y hy=>?_;rcases UaF.1 (insW_perm.mem_iff.1 hx) with rfl | hx
  ·intro e;have:=hc.1 y hy;unfold Yj at this;rw[e] at this;exact ordsS.irr _ this
  ·exact hd x hx y (by simp [hy])
theorem ZEQ{l:List TWire}{j:Nat}:cut (l.map ZS) 0 (j-0)=(l.take j).map ZS:=by simp [cut,Ubj]
theorem Zoz{l:List TWire}{j:Nat}:cut (l.map ZS) j (l.length-j)=(l.drop j).map ZS:=by simp only[cut,<-List.map_drop];rw[UaQ (by rw[Uaa,UaL];omega)]
theorem ZoA{a b:List TWire}{x:TWire}:a.map ZS++[[Tr.v (Value.string x.name),Tr.v (Value.int .i64 x.link)]]++b.map ZS=(a++([x]++b)).map ZS:=by simp [ZS]
theorem ZER(a b:List TWire)(hl:a.length+b.length<=4294967290)(lvl:Nat)(S:Zb):Sem Ucb ZgT lvl [.tr (.sl (a.map ZS)),.tr (.sl (b.map ZS))] S (.ow 2 ((YG a b).map ZS) true) S:=by
 refine Zl ZCu (by simp [low,men]) ?_;simp only[Zmy,Zbn,Zbo,UbX,Uaa,Za,seval];refine⟨by omega,?_⟩;refine ZP (α:=Unit) b.length (fun j _=>[(5,.hd (lvl,160) [] 0 (YG a (b.take j)).length none (YG a (b.take j)).length),(6,iI j)]) (fun j _=>[(160,.ar 2 ((YG a (b.take j)).map ZS) true (YG a (b.take j)).length 0)]) (fun _ _=>True) () (by simp only[Za,seval]) (by simp only[List.take_zero,YG,List.foldl_nil]; (simp only[Za,seval])<;>rfl) trivial ?_;intro j _ hj _;simp only[Uaa,Za,seval];refine Zv (fun hlt=>?_) (fun hge=>?_)
 ·have hja:j<b.length:=by omega
  have ga:=Jb (c:=ZS) hja;obtain⟨O,hO⟩:∃ O,O=YG a (b.take j):=⟨_,rfl⟩;have hOl:O.length=a.length+j:=by rw[hO,ZdS,Uai];omega
  have hsucc:=ZEP (a:=a) hja;rw[<-hO] at hsucc;rw[<-hO];refine ZP (α:=Unit) O.length (fun k _=>[(7,iI k)]) (fun _ _=>[]) (fun k _=>∀ y∈O.take k,Yj y b[j]) () (by simp only[Za,seval]) (by (simp only[Za,seval])<;>rfl) (by simp) ?_;intro k _ hk hK;have hput:=Zow (w:=b[j]) hk hK;have hpl:(O.take k++([b[j]]++O.drop k)).length=O.length+1:=by simp only[Uac,Uai,UaL,List.length_cons,List.length_nil];omega
  have hm:min k O.length=k:=by omega
  have hq1:k+1+(O.length-k)=O.length+1:=by omega
  have hq2:max (max (max 0 k) (k+1)) (O.length+1)=O.length+1:=by omega
  have hq3:k+(O.length-k)=O.length:=by omega
  have hfit:ZZ .i64 ((j:Int)+1):=by rw[Ze];omega
  simp only[Uaa,Za,seval];refine Zv (fun hlt2=>?_) (fun hge2=>?_)
  ·have hka:k<O.length:=(by omega);have gk:=Jb (c:=ZS) hka;simp only[ga,gk,ZS,hka,hm,hq1,hq2,hq3,ZEQ,Zoz,Zbn,Zbo,Uac,Uai,UaL,Uaa,Za,seval];refine Zv (fun h1=>?_) (fun h1=>?_)
   ·exact⟨by rw[Ze];omega,Zz () hka rfl fun y hy=>by
     rw[Uag hka] at hy;rcases Uaq.1 hy with hy | hy
     ·exact hK y hy
     ·rw[UaI.1 hy];exact h1⟩
   ·have hp:=hput fun _=>h1;exact⟨by omega,by omega,by omega,by omega,by omega,by omega,by omega,by omega,hfit,Zz () hja (by rw[hsucc,hp,hpl,<-ZoA];rfl) trivial⟩
  ·have:k=O.length:=(by omega);subst this;simp only[ga,ZS,hq1,hq2,hq3,Zoz,Zbn,Zbo,Uac,UaL,Uaa,Za,seval];have hp:=hput fun h=>absurd h (by omega);rw[Uap] at hp hpl;exact⟨by omega,by omega,by omega,by omega,by omega,hfit,Zz () hja (by rw[hsucc,hp,hpl,<-ZoA];rfl) trivial⟩
 ·have:j=b.length:=by omega
  subst this;rw[Uap]
def ZhK(J:TBigraph)(w:List TWire):TBigraph:=⟨J.roots,J.nodes,J.sites,J.edges,J.outer,w⟩
def VM(a:TBigraph)(p:Int):Int:=if 0<=p then p+a.nodes.length else p-a.roots
noncomputable def Qt(a b:TBigraph):List Int:=Qb a (a.edges+b.edges) (Jn a b)
noncomputable def Xb(a b:TBigraph):List Int:=Xa a b fun x=>a.edges+b.edges+Jh (Jn a b) x
noncomputable def D8(a b:TBigraph):TBigraph:=Vh a b (a.roots+b.roots) a.sites (Jn a b) (fun l=>g0 (Qt a b) l.toNat) (fun l=>g0 (Xb a b) l.toNat) (VM a)
noncomputable def J5(a b:TBigraph):TBigraph:=ZhK (D8 a b) (YG (a.inner.map (JL fun l=>g0 (Qt a b) l.toNat)) (b.inner.map (JL fun l=>g0 (Xb a b) l.toNat)))
theorem ZES{r:Int}{n:Nat}{k:Nat}(h:k<n):g0 (JD r n) k = -1-r-(k:Int):=by show (JD r n).getD k 0=_;rw[UaD,JD,Uao,Uby h];simp
theorem ZoB{a b:TBigraph}{n:Nat}(hn:b.roots=n){p:Int}(h:-b.roots<=p):Ya a.nodes.length (JD a.roots n) p=VM a p:=by
 unfold Ya VM;by_cases h0:0<=p
 ·rw[if_neg (by omega),if_pos h0]
 ·rw[if_pos (by omega),if_neg h0,ZES (by omega)];omega
theorem ZET{sig:List TControl}{a b:TBigraph}(h:bigOK sig b){n:Nat}(hn:b.roots=n){ls:List Int}:b.nodes.map (Q8 a.nodes.length (JD a.roots n) ls)=b.nodes.map (fun x=>({ control:=x.control,parent:=VM a x.parent,links:=x.links.map fun l=>g0 ls l.toNat }:TNode)):=UaC fun x hx=>by obtain⟨k,hk,rfl⟩:=Uar hx;unfold Q8;rw[ZoB hn (Yo h.roots.1 (h.nodes k hk).par)]
theorem ZEU{sig:List TControl}{a b:TBigraph}(h:bigOK sig b){n:Nat}(hn:b.roots=n):b.sites.map (Ya a.nodes.length (JD a.roots n))=b.sites.map (VM a):=UaC fun p hp=>ZoB hn (Yo h.roots.1 (h.sites p hp))
theorem ZEV(sig:List TControl)(a b:TBigraph)(ha:bigOK sig a)(hb:bigOK sig b)(lvl:Nat)(S:Zb):Sem Ucb ZgD lvl [.ag ((Zh a).map .tr),.ag ((Zh b).map .tr)] S (Wy (J5 a b) false) S:=by
 have ra:=ha.roots;have rb:=hb.roots;have ea:=ha.edges;have eb:=hb.edges;have sa:=ha.small;have sb:=hb.small;have a1:=sa.nodes;have a2:=sa.sites;have a3:=sa.inner;have a4:=sa.outer;have b1:=sb.nodes;have b2:=sb.sites;have b3:=sb.inner;have b4:=sb.outer;have hol:=Uf (a:=a) (b:=b);obtain⟨n,hn⟩:∃ n:Nat,a.roots=n:=⟨a.roots.toNat,by omega⟩;obtain⟨n2,hn2⟩:∃ n:Nat,b.roots=n:=⟨b.roots.toNat,by omega⟩;obtain⟨m,hm⟩:∃ m:Nat,a.edges=m:=⟨a.edges.toNat,by omega⟩;obtain⟨k,hk⟩:∃ k:Nat,b.edges=k:=⟨b.edges.toNat,by omega⟩;obtain⟨L,hL⟩:∃ L,L=Qt a b:=⟨_,rfl⟩;obtain⟨R,hR⟩:∃ R,R=Xb a b:=⟨_,rfl⟩;have lenL:(L.length:Int)=a.edges+a.outer.length:=by rw[hL];exact Zod ea.1
 have lenR:(R.length:Int)=b.edges+b.outer.length:=by rw[hR];exact Zod eb.1
 have w1:rI (YC 0 m)++rI (a.outer.map fun x=>(m:Int)+k+Jh (Jn a b) x)=rI L:=by rw[<-J4,hL,Qt,<-Zob hm,hm,hk]
 have w2:m+a.outer.length=L.length:=by omega
 have w3:rI (YC (m:Int) k)++rI (b.outer.map fun x=>(m:Int)+k+Jh (Jn a b) x)=rI R:=by rw[<-J4,hR,Xb,<-Zoc hk,hm,hk]
 have w4:k+b.outer.length=R.length:=by omega
 have w5:max m L.length=L.length:=by omega
 have w6:max k R.length=R.length:=by omega
 have c1:cut (rI L) 0 L.length=rI L:=Ym (by rw[Uaa]);have c2:cut (rI R) 0 R.length=rI R:=Ym (by rw[Uaa]);refine Zl ZB1 (by simp [low,men,Zc]) ?_;simp only[Zl4,Zh,QK,V8,hn,hn2,hm,hk,UbX,Uaa,Za,seval,Zc,men];rw[show cut (rS a.outer++rS b.outer) 0 (a.outer.length+b.outer.length)=rS (a.outer++b.outer) from by
  rw[<-DR];exact Ym (by simp [rS])]
 refine⟨by omega,by omega,by simp [rS],Zf (ZdN (a.outer++b.outer) (by rw[Uac];omega)) ?_⟩;rw[show ZN (a.outer++b.outer)=Jn a b from rfl];simp only[Uaa,Za,seval,Zc,men];have c0:cut (rS (Jn a b)) 0 (Jn a b).length=rS (Jn a b):=Ym (by rw[Uaa]);refine⟨by rw[Ze];omega,Zf (Zbq 0 m (by omega) (by omega)) ?_⟩;simp only[c0,fromN_len,Uaa,Za,seval,Zc,men];refine Zf (Zbu a.outer (m+k) (Jn a b) (by omega) (by omega) (by omega)) ?_;simp only[V9,Qa,w1,w2,w5,fromN_len,Uaa,Za,seval,Zc,men];refine⟨by omega,Zf (Zbq m k (by omega) (by omega)) ?_⟩;simp only[c0,fromN_len,Uaa,Za,seval,Zc,men];refine Zf (Zbu b.outer (m+k) (Jn a b) (by omega) (by omega) (by omega)) ?_;simp only[V9,Qa,w3,w4,w6,fromN_len,Uaa,Za,seval,Zc,men];refine⟨by omega,Zf (ZdE 0 n (by omega) (by omega)) ?_⟩;simp only[Za,seval,Zc,men];refine Zf (ZdE n n2 (by omega) (by omega)) ?_;simp only[c1,Uaa,Za,seval,Zc,men];refine⟨by rw[Ze];omega,?_⟩;have q2:=Zbr a 0 (JD 0 n) L (by omega) (by omega) (ZdQ ha (by rw[rootsN_len];omega) lenL);rw[Zog ha hn] at q2;simp only[Zh,hn,hm,Uah,Uam] at q2;refine Zf q2 ?_;simp only[c2,Uaa,Za,seval,Zc,men];have q3:=Zbr b a.nodes.length (JD a.roots n2) R (by omega) (by omega) (ZdQ hb (by rw[rootsN_len];omega) lenR);rw[ZET hb hn2] at q3;simp only[Zh,hn,hn2,hk,Uah,Uam] at q3;refine Zf q3 ?_;simp only[Zoi,Uaa,Za,seval,Zc,men];refine⟨by omega,?_⟩;have q4:=D0 a 0 (JD 0 n) (by omega) (by omega) (ZdR ha (by rw[rootsN_len];omega));rw[Zoh ha hn] at q4;simp only[Zh,hn,hm,Uah,Uam] at q4;refine Zf q4 ?_;simp only[Uaa,Za,seval,Zc,men];have q5:=D0 b a.nodes.length (JD a.roots n2) (by omega) (by omega) (ZdR hb (by rw[rootsN_len];omega));rw[ZEU hb hn2] at q5;simp only[Zh,hn,hn2,hk,Uah,Uam] at q5;refine Zf q5 ?_;simp only[V9,Qa,c1,Uaa,Za,seval,Zc,men];refine⟨by omega,?_⟩;have q6:=ZdF a L (by omega) (ZhG ha lenL);simp only[Zh,hn,hm,Uah,Uam] at q6;refine Zf q6 ?_;simp only[c2,Uaa,Za,seval,Zc,men];have q7:=ZdF b R (by omega) (ZhG hb lenR);simp only[Zh,hn2,hk,Uah,Uam] at q7;refine Zf q7 ?_;simp only[Za,seval,Zc,men];have q8:=ZER (a.inner.map (Uc L)) (b.inner.map (Uc R)) (by rw[Uaa,Uaa];omega);refine Zf q8 ?_;simp only[ZdS,Uac,Uaa,Za,seval];simp only[Wy,J5,D8,ZhK,Vh,<-hL,<-hR,Uaw,hn,hn2,hm,hk];rfl
end Go.Fd
namespace Go.Proofs
open Go.Shelf Go.RowKit Go.Lib Go.Sort
instance:Inhabited Go.Fd.TWire:=⟨⟨⟨#[]⟩,0⟩⟩
def Zbw(w:Go.Fd.TWire):List Value:=[.string w.name,.int .i64 w.link]
def WB(x y:Go.Fd.TWire):Int:=if Op.bytesLess x.name.data.toList y.name.data.toList then -1 else 1
set_option maxHeartbeats 1000000 in
theorem ZEW(x y:Go.Fd.TWire)(W:World):Calls Tryz.prog 169 #[.agg #[.string x.name,.int .i64 x.link],.agg #[.string y.name,.int .i64 y.link]] W fun e w' => e = .returned (.int .i64 (WB x y))/\∃ q os',w'=grow (W.drewN q) os':=by
 have hr:WB x y=if Op.bytesLess x.name.toList y.name.toList then -1 else 1:=by unfold WB;rw[ByteArray.toList_eq,ByteArray.toList_eq]
 generalize WB x y=r at hr ⊢
 go_enter Tryz.func169,Tryz.ntmps169
 go_wp2
 ·rename_i h;rw[h] at hr;have hr:r = -1:=hr;subst hr
  go_ret
  exact⟨rfl,0,_,by rw[alloc_eq_grow,alloc_eq_grow,grow_grow];rfl⟩
 ·rename_i h;rw[h] at hr;have hr:r=1:=hr;subst hr
  go_ret
  exact⟨rfl,0,_,by rw[alloc_eq_grow,alloc_eq_grow,grow_grow];rfl⟩
theorem ZdT(x y:Go.Fd.TWire):ltOf WB x y=Op.bytesLess x.name.data.toList y.name.data.toList:=by unfold ltOf WB;cases Op.bytesLess x.name.data.toList y.name.data.toList<;>rfl
theorem ZEX:SWO (ltOf WB) where
 irrefl x:=by rw[ZdT];exact Go.Fd.bl_irr _
 trans x y z h1 h2:=by rw[ZdT] at *;exact Go.Fd.ordsS.tr _ _ _ h1 h2
 ntrans x y z h1 h2:=by rw[ZdT] at *;have:=Go.Fd.ltS_tr z.name y.name x.name;have k:¬ Go.Fd.ltS x.name z.name:=Go.Fd.ltS_tr z.name y.name x.name (by unfold Go.Fd.ltS;rw[h2];decide) (by unfold Go.Fd.ltS;rw[h1];decide);unfold Go.Fd.ltS at k;simpa using k
theorem ZEY(blk off size:Nat)(w:World):CmpLays Tryz.prog 169 #[] Zbw 2 WB blk off size w :=
 fun _ _ _ _ x y=>ZEW x y _
end Go.Proofs
namespace Go.Fd
open Go.Sort Go.Proofs
theorem ZoC:∀{x y:List TWire},x.Pairwise Yj->y.Pairwise Yj->x.Perm y->x=y
 | [],y,_,_,h=>(List.Perm.nil_eq h)
 | a::r,[],_,_,h=>by simp at h
 | a::r,b::t,hx,hy,h=>by
  have hcx:=List.pairwise_cons.1 hx;have hcy:=List.pairwise_cons.1 hy;have hab:a=b:=by
   have h1:a∈b::t:=h.mem_iff.1 (by simp);have h2:b∈a::r:=h.mem_iff.2 (by simp);rcases List.mem_cons.1 h1 with e | h1
   ·exact e
   ·rcases List.mem_cons.1 h2 with e | h2
    ·exact e.symm
    ·exact absurd (hcx.1 b h2) (ordsS.asym _ _ (hcy.1 a h1))
  subst hab;rw[ZoC hcx.2 hcy.2 h.cons_inv]
theorem ZEZ{x y:List TWire}(hy:y.Pairwise Yj)(hp:x.Perm y)(hx:∀ i j (hi:i<x.length) (hj:j<x.length),i<j -> ¬ Yj x[j] x[i]):x.Pairwise Yj:=by
 have hnd:x.Nodup:=hp.nodup_iff.2 (hy.imp fun {a b} h e=>by subst e;exact ordsS.irr _ h);refine List.pairwise_iff_getElem.2 fun i j hi hj hij=>?_;rcases ordsS.tri (x[i]).name (x[j]).name with q | q | q
 ·exact q
 ·have h1:x[i]∈y:=hp.mem_iff.1 (List.getElem_mem hi);have h2:x[j]∈y:=hp.mem_iff.1 (List.getElem_mem hj);obtain⟨a,ha,ea⟩:=List.getElem_of_mem h1;obtain⟨b,hb,eb⟩:=List.getElem_of_mem h2;have hpg:=List.pairwise_iff_getElem.1 hy;have hab:a=b:=by
   rcases Nat.lt_trichotomy a b with g | g | g
   ·have:=hpg a b ha hb g;unfold Yj at this;rw[ea,eb,q] at this;exact absurd this (ordsS.irr _)
   ·exact g
   ·have:=hpg b a hb ha g;unfold Yj at this;rw[ea,eb,q] at this;exact absurd this (ordsS.irr _)
  subst hab;have e:x[i]=x[j]:=ea.symm.trans eb;have:=List.pairwise_iff_getElem.1 hnd i j hi hj hij;exact absurd e this
 ·exact absurd q (hx i j hi hj hij)
theorem ZE0(lvl:Nat)(S:Zb)(id:Zd)(hw:Nat)(hid:id.1<lvl):Sem Tryz.prog Zg3 lvl [.hd id [] 0 0 none hw,iI 0,iI 0,.fn UU []] S (.tu []) S:=by
 have hne:id.1≠lvl:=by omega
 refine Zl ZC0 trivial ?_;simp only[Zm6,Za,seval];refine⟨by rw[Ze];omega,?_⟩;refine J9 (α:=Unit) 0 (fun _ _=>⟨lvl,[(0,.hd id [] 0 0 none hw),(1,iI 0),(2,iI 0),(3,.fn UU []),(8,iI 1)],[],S⟩) (fun _ _=>True) () ⟨by simp only[J8 hne,Za,seval],by (simp only[Za,seval])<;>rfl⟩ trivial ?_;intro _ _ _ _;simp only[Za,seval]
theorem ZE1(r:Int)(lvl:Nat)(S:Zb)(id:Zd)(hw:Nat)(hid:id.1<lvl):Sem Tryz.prog Zba lvl [.hd id [] 0 0 none hw,iI 0,iI 0,iI r,.fn UU []] S (.tu []) S:=by
 have hne:id.1≠lvl:=by omega
 refine Zl ZCX trivial ?_;simp only[Zm1,Za,seval];refine J9 (α:=Unit) 0 (fun _ _=>⟨lvl,[(0,.hd id [] 0 0 none hw),(1,iI 0),(2,iI 0),(3,iI r),(4,.fn UU []),(10,iB true),(11,iB true)],[],S⟩) (fun _ _=>True) () ⟨by simp only[J8 hne,Za,seval],by (simp only[Za,seval])<;>rfl⟩ trivial ?_;intro _ _ _ _;simp only[Za,seval];refine⟨by rw[Ze];omega,?_⟩;simp only[Va];refine Wm [] S (fun _ _=>rfl) (ZE0 (lvl+1) (ZF lvl [] S) id hw (by omega)) ?_;simp only[Za,seval]
theorem ZE2(lvl:Nat)(S:Zb)(id:Zd)(u:Bool)(hw ver:Nat)(hid:id.1<lvl)(hS:S id=some (.ar 2 [] u hw ver)):Sem Tryz.prog Zdb lvl [.hd id [] 0 0 none hw,.fn UU []] S (.tu []) (Zo S id (.ar 2 [] u hw ver)):=by
 rw[Wn hS];have hne:id.1≠lvl:=by omega
 obtain⟨r,hr⟩:=Zhp (v:=0) (by omega) (by omega);refine Zl ZCL trivial ?_;simp only[ZmP,Za,seval,Zc,men];refine⟨⟨by decide,by decide⟩,Zf hr ?_⟩;simp only[Za,seval];refine Wm [] S (fun _ _=>rfl) (ZE1 r (lvl+1) (ZF lvl [] S) id hw (by omega)) ?_;simp only[Za,seval]
theorem ZE3(l ys:List TWire)(hp:ys.Perm l)(hs:ys.Pairwise Yj)(hl:l.length<=4294967296)(lvl:Nat)(S:Zb)(id:Zd)(u:Bool)(hw ver:Nat)(hid:id.1<lvl)(hS:S id=some (.ar 2 (l.map ZS) u hw ver)) :
  Sem Tryz.prog Zdb lvl [.hd id [] 0 l.length none hw,.fn UU []] S (.tu []) (Zo S id (.ar 2 (ys.map ZS) u hw ver)):=by
 by_cases h0:l=[]
 ·subst h0;have hy:ys=[]:=List.length_eq_zero_iff.1 (by simpa using hp.length_eq);subst hy;exact ZE2 lvl S id u hw ver hid hS
 ·have hpos:0<l.length:=List.length_pos_iff.2 h0;refine Zz2 (enc:=Zbw) (k:=2) (fun _=>rfl) (by decide) (Zhd (by kernel_rfl)) hid hS (fun x v hv=>by simp [Zbw] at hv;rcases hv with rfl | rfl<;>rfl) hp.length_eq hpos fun b cap w hH hb=>?_;have hcon:=AnyQ.slices_SortFunc Tryz.sortW 2 Tryz.isAgg107 Tryz.sizeOf107 Zbw (fun _=>rfl) (fun x v hv=>by simp [Zbw] at hv;rcases hv with rfl | rfl<;>rfl) WB ZEX 169 #[] b 0 cap l.toArray w (enters_of Tryz.func169 (by kernel_rfl) rfl) (ZEY b 0 _ w) hH hb (by simp;omega);have hsz:l.toArray.size=l.length:=by simp
  rw[hsz] at hcon;refine Calls.mono hcon ?_
  rintro e w' ⟨rfl,d',n,os,hperm,hsort,rfl⟩
  refine⟨rfl,n,os,?_⟩;have hds:d'.size=l.length:=by rw[hperm.1,hsz]
  have hd:d'.toList=ys:=by have h1:d'.toList.Perm l:=(by have:=hperm.2.2;rw[show d'.extract 0 l.length=d' from by rw[<-hds];exact Array.extract_size,show l.toArray.extract 0 l.length=l.toArray from by rw[<-hsz];exact Array.extract_size] at this;simpa using this);refine ZoC (ZEZ hs (h1.trans hp.symm) fun i j hi hj hij hlt=>?_) hs (h1.trans hp.symm);have hjj:j<d'.size:=(by simpa using hj);have hii:i<d'.size:=(by simpa using hi);have:=hsort i j (Nat.zero_le _) hij (by omega);rw[ZdT] at this;have h2:d'[j]! = d'.toList[j]:=(by simp [hjj]);have h3:d'[i]! = d'.toList[i]:=(by simp [hii]);rw[h2,h3] at this;unfold Yj ltS at hlt;rw[this] at hlt;cases hlt
  rw[<-hd]
end Go.Fd
namespace Go.Fd
open Go.Proofs.Tryz renaming prog->Ucb
set_option maxRecDepth 20000
theorem ZoD:Zk Ucb ZcV (Q5 1 none)=true:=by kernel_rfl
theorem ZoE:Zk Ucb Za3 (Ua ZcV)=true:=by kernel_rfl
theorem ZE4(b:List ByteArray)(s:ByteArray)(hb:b.length<=4294967296)(lvl:Nat)(S:Zb):Sem Ucb Zc8 lvl [iS s,.ta [Tr.sl (rS b)]] S (iB (dc (s∈b))) S:=by refine Zl ZCI trivial ?_;simp only[ZmM,Za,↓reduceIte,Nat.reduceEqDiff,reduceCtorEq,Nat.reduceAdd,Nat.reduceLeDiff,Nat.reduceLT,Zc,men];refine Zf (Wx b s hb) ?_;simp only[Za,↓reduceIte,Nat.reduceEqDiff,Nat.reduceMul,reduceCtorEq,Nat.reduceLT]
theorem ZE5(a b:List ByteArray)(ha:a.length<=4294967296)(hb:b.length<=4294967296)(lvl:Nat)(S:Zb):Sem Ucb ZgJ lvl [.tr (.sl (rS a)),.tr (.sl (rS b))] S (iB (!dc (∀ x∈a,x ∉ b))) S:=by
 have q:=Zds (P:=Ucb) ZoE ZoD (t:=fun n:ByteArray=>ts n) (f:=fun s=>dc (s∈b)) (fe:=Zc8) (cs:=[[Tr.sl (rS b)]]) a (by omega) (fun x _ lvl S=>ZE4 b x hb lvl S);have e:a.any (fun s=>dc (s∈b)) = !dc (∀ x∈a,x ∉ b):=by
  cases h:dc (∀ x∈a,x ∉ b)
  ·have h1:=dc_not.1 h;have:∃ x∈a,x∈b:=Ubg fun g=>h1 fun x hx hb=>g ⟨x,hx,hb⟩;obtain⟨x,hx,hxb⟩:=this;simp only[Bool.not_false,Ub4];exact⟨x,hx,ZU hxb⟩
  ·have h1:=dc_iff.1 h;simp only[Ub3,Ub0];intro x hx;rw[Zt (h1 x hx)];decide
 rw[e] at q;refine Zl ZB8 trivial ?_;simp only[Zmb,Za,↓reduceIte,Nat.reduceEqDiff,reduceCtorEq,Nat.reduceAdd,Nat.reduceLeDiff,Nat.reduceLT,Zc,men];refine Zf q ?_;simp only[Za,↓reduceIte,Nat.reduceEqDiff,Nat.reduceMul,reduceCtorEq,Nat.reduceLT]
theorem ZE6(a:TBigraph)(p:Int)(hp:-4294967296<=p/\p<=4294967296)(ha:0<=a.roots/\a.roots<=4)(lvl:Nat)(S:Zb):Sem Ucb Zc9 lvl [iI p,.ta (Zh a)] S (iI (p-a.roots)) S:=by refine Zl ZCJ trivial ?_;simp only[ZmN,Zh,Za,↓reduceIte,Nat.reduceEqDiff,reduceCtorEq,Nat.reduceAdd,Nat.reduceLeDiff,Nat.reduceLT];rw[Ze];omega
theorem ZE7(e:Int×ByteArray)(lvl:Nat)(S:Zb):Sem Ucb Zda lvl [oE e] S (oE e) S:=by refine Zl ZCK (by simp [low,men,Zc]) ?_;simp only[ZmO,Za,↓reduceIte,Nat.reduceEqDiff,Nat.reduceMul,reduceCtorEq,Nat.reduceAdd,Nat.reduceLeDiff,Nat.reduceLT]
theorem ZoF{b:TBigraph}{F:Int->Int}:(b.inner.map (JL F)).map TWire.name=inn b:=by simp [inn,JL]
theorem ZoG{sig:List TControl}{b:TBigraph}(h:bigOK sig b){F:Int->Int}:(b.inner.map (JL F)).Pairwise Yj:=by have hp:=Zht h.inn;unfold inn at hp;rw[Ub1] at hp ⊢;exact hp
theorem ZE8{sig:List TControl}{a b:TBigraph}(ha:bigOK sig a)(hb:bigOK sig b)(hd:∀ x∈inn a,x ∉ inn b){F F':Int->Int}:(YG (a.inner.map (JL F)) (b.inner.map (JL F'))).Pairwise Yj :=
 Zoy (ZoG ha) (ZoG hb) fun x hx y hy e=>by
  refine hd x.name ?_ ?_
  ·rw[<-ZoF (F:=F)];exact Uau.2 ⟨x,hx,rfl⟩
  ·rw[<-ZoF (F:=F'),e];exact Uau.2 ⟨y,hy,rfl⟩
theorem ZE9{a:TBigraph}:Ue a.nodes.length (fun p=>p-a.roots)=VM a:=rfl
theorem ZFa{sig:List TControl}{a b:TBigraph}(ha:bigOK sig a)(hb:bigOK sig b) :
  Vh a b (a.roots+b.roots) a.sites (Jn a b) (J1 a (a.edges+b.edges) (Jn a b) fun x=>x) (J1 b (a.edges+b.edges) (Jn a b) (QM a fun s=>(0,s))) (VM a)=D8 a b :=
 Zoa ha hb (fun l hl=>Zbv ha hl) (fun l hl=>Zoe hb (fun i hi=>if_neg (DW hb.outer (Uaj hi))) hl) fun p _=>rfl
theorem ZFb{sig:List TControl}{a b:TBigraph}(ha:bigOK sig a):a.inner.map (JL (J1 a (a.edges+b.edges) (Jn a b) fun x=>x))=a.inner.map (JL fun l=>g0 (Qt a b) l.toNat):=UaC fun w hw=>by unfold JL;rw[Zbv ha (ha.inner w hw)];rfl
theorem ZFc(sig:List TControl)(a b:TBigraph)(ha:bigOK sig a)(hb:bigOK sig b)(hd:∀ x∈inn a,x ∉ inn b)(lvl:Nat)(S:Zb):Sem Ucb ZgK lvl [.ag ((Zh a).map .tr),.ag ((Zh b).map .tr)] S (Wy (J5 a b) (decide (b.nodes.length=0))) S:=by
 have ra:=ha.roots;have rb:=hb.roots;have ea:=ha.edges;have eb:=hb.edges;have sa:=ha.small;have sb:=hb.small;have a1:=sa.nodes;have a2:=sa.sites;have a3:=sa.inner;have a4:=sa.outer;have b1:=sb.nodes;have b2:=sb.sites;have b3:=sb.inner;have b4:=sb.outer;have hol:=Uf (a:=a) (b:=b);have lnA:∀ x∈a.nodes,∀ l∈x.links,Z6 a l:=fun x hx l hl=>by obtain⟨k,hk,rfl⟩:=Uar hx;exact(ha.nodes k hk).links l hl
 have hfl:[a.outer,b.outer].flatten=a.outer++b.outer:=by simp
 have hc:=Zot [a.outer,b.outer] (by simp) (by rw[hfl,Uac];omega);rw[hfl] at hc;have qj:=Zoo sig a b (D8 a b) ha hb (a.roots+b.roots) a.sites (by omega) (a.outer++b.outer) (by rw[Uac];omega) Zc9 [Zh a] (fun p=>p-a.roots) DO [] (fun s=>(0,s)) (fun p h1 h2 lvl S=>ZE6 a p (by omega) ra lvl S) (fun x _ lvl S=>Zoq x lvl S) (by rw[ZE9];exact ZFa ha hb);have qr:=ZdH a (a.edges+b.edges) (a.outer++b.outer) Zda [] (fun x=>x) ea.1 (VK (by omega) (Q9 ha)) (by omega) (by omega) (by rw[Uac];omega) lnA ha.inner (fun l _ lvl S=>ZE7 (Yn a l) lvl S);refine Zl ZCb (by simp [low,men,Zc]) ?_;simp only[Zme,Zh,Za,↓reduceIte,Nat.reduceEqDiff,Nat.reduceMul,reduceCtorEq,Nat.reduceAdd,Nat.reduceLeDiff,Nat.reduceLT,Zc,men];refine⟨by simp,by simp,Zf hc ?_⟩;simp only[Za,↓reduceIte,Nat.reduceEqDiff,Nat.reduceMul,reduceCtorEq,Nat.reduceAdd,Nat.reduceLT,Zc,men];simp only[Zh,ZhH,Uah,Uam] at qj;refine⟨by rw[Ze];omega,Zf qj ?_⟩;simp only[Uaa,Za,↓reduceIte,Nat.reduceEqDiff,Nat.reduceMul,reduceCtorEq,Nat.reduceAdd,Nat.reduceLT,Zc,men];rw[show ZN (a.outer++b.outer)=Jn a b from rfl] at qr;have hA1:a.inner.map (fun w=>({ name:=w.name,link:=J1 a (a.edges+b.edges) (Jn a b) (fun x=>x) w.link }:TWire))=a.inner.map (JL fun l=>g0 (Qt a b) l.toNat):=ZFb ha;simp only[Zh,ZA,Jp,Uah,Uam] at qr;simp only[hA1] at qr;obtain⟨A1,hA⟩:∃ l,l=a.inner.map (JL fun l=>g0 (Qt a b) l.toNat):=⟨_,rfl⟩;obtain⟨B1,hB⟩:∃ l,l=(D8 a b).inner:=⟨_,rfl⟩;have hBb:B1=b.inner.map (JL fun l=>g0 (Xb a b) l.toNat):=hB;have lA:A1.length=a.inner.length:=by rw[hA,Uaa]
 have lB:B1.length=b.inner.length:=by rw[hBb,Uaa]
 have hpw:(YG A1 B1).Pairwise Yj:=by rw[hA,hBb];exact ZE8 ha hb hd
 have hmx:max a.inner.length (a.inner.length+b.inner.length)=a.inner.length+b.inner.length:=by omega
 have hpi:(J5 a b).inner=YG A1 B1:=by rw[hA,hBb];rfl
 rw[<-hA] at qr;rw[<-hB];refine Zf qr ?_;simp only[Zbn,Zbo,lA,lB,hmx,Uaa,Za,↓reduceIte,Nat.reduceEqDiff,Nat.reduceMul,reduceCtorEq,Nat.reduceAdd,Nat.reduceLT];rw[<-Uaw];refine⟨by omega,?_⟩;have hab:(A1++B1).length=a.inner.length+b.inner.length:=by rw[Uac];omega
 have s1:=fun S' hS=>ZE3 (A1++B1) (YG A1 B1) wjoin_perm hpw (by omega) (lvl+1) S' (lvl,963) true (a.inner.length+b.inner.length) 0 (Ua2 _) hS;rw[hab] at s1;refine Zdx 963 _ (s1 _ ?_) ?_
 ·rw[J3];rfl
 simp only[ZdS,lA,lB,Uaa,Za,↓reduceIte,Nat.reduceEqDiff,Nat.reduceMul,reduceCtorEq,Nat.reduceAdd,Nat.reduceLT];simp only[Wy,hpi];rfl
theorem ZoH{sig:List TControl}{a b:TBigraph}(ha:bigOK sig a)(hb:bigOK sig b):∀ l,Z6 b l->sm (g0 (Xb a b) l.toNat):=fun l hl=>by have ea:=ha.edges;have eb:=hb.edges;have a4:=ha.small.outer;have b4:=hb.small.outer;have hol:=Uf (a:=a) (b:=b);refine Zol ha hb (fun x hx=>?_) hl;have:=U0 (l:=Jn a b) (s:=x);have:=Ud (l:=Jn a b) (s:=x);unfold sm;omega
theorem ZoI{sig:List TControl}{a b:TBigraph}(ha:bigOK sig a)(hb:bigOK sig b):∀ l,Z6 a l->sm (g0 (Qt a b) l.toNat):=fun l hl=>by have a4:=ha.small.outer;have b4:=hb.small.outer;have hol:=Uf (a:=a) (b:=b);exact Zop ha hb (by omega) l hl
theorem ZhL{a b:TBigraph}{w:TWire}(h:w∈(J5 a b).inner):w∈a.inner.map (JL fun l=>g0 (Qt a b) l.toNat)\/w∈b.inner.map (JL fun l=>g0 (Xb a b) l.toNat):=Uaq.1 (wjoin_perm.mem_iff.1 h)
theorem ZdU{sig:List TControl}{a b:TBigraph}(ha:bigOK sig a)(hb:bigOK sig b):Jo 4294967290 (J5 a b):=by
 have sa:=ha.small;have sb:=hb.small;have a2:=sa.sites;have a3:=sa.inner;have b3:=sb.inner;have a4:=sa.outer;have b4:=sb.outer;have hol:=Uf (a:=a) (b:=b);obtain⟨b1,b2,b3',b4',b5,b6,b7⟩:=Zoj (roots:=a.roots+b.roots) (ss:=a.sites) (o:=Jn a b) (FL:=fun l=>g0 (Qt a b) l.toNat) (FR:=fun l=>g0 (Xb a b) l.toNat) (mv:=VM a) ha hb (by omega) (by omega) fun y hy=>by
  rcases Uaq.1 (setS_mem.1 hy) with hy | hy
  ·have:=QL ha.outer hy;omega
  ·have:=QL hb.outer hy;omega
 refine⟨b1,b2,b3',b4',b5,?_,fun w hw=>?_⟩
 ·show (YG _ _).length<=_;rw[ZdS,Uaa,Uaa];omega
 ·rcases ZhL hw with h | h
  ·obtain⟨x,hx,rfl⟩:=Uau.1 h;have:=QL ha.inn (Uau.2 ⟨x,hx,rfl⟩);simp only[W8,JL];omega
  ·obtain⟨x,hx,rfl⟩:=Uau.1 h;have:=QL hb.inn (Uau.2 ⟨x,hx,rfl⟩);simp only[W8,JL];omega
theorem ZFd{sig:List TControl}{a b:TBigraph}(ha:bigOK sig a)(hb:bigOK sig b){p:Int}(h1:-b.roots<=p)(h2:p<b.nodes.length):sm (VM a p):=by have a1:=ha.small.nodes;have b1:=hb.small.nodes;have ra:=ha.roots;have rb:=hb.roots;unfold VM sm;split<;>omega
theorem ZFe{sig:List TControl}{a:TBigraph}(ha:bigOK sig a):∀ p∈a.sites,sm p:=fun p hp=>by have h1:=Yo ha.roots.1 (ha.sites p hp);have h2:=XP ha hp;have ra:=ha.roots;have a1:=ha.small.nodes;unfold sm;omega
theorem ZoJ{sig:List TControl}{a b:TBigraph}(ha:bigOK sig a)(hb:bigOK sig b)(fa:JM a)(fb:JM b):JM (J5 a b):=by
 have ra:=ha.roots;have rb:=hb.roots;obtain⟨f1,f2,f3,f4,f5⟩:=Zok (roots:=a.roots+b.roots) (ss:=a.sites) (o:=Jn a b) (FL:=fun l=>g0 (Qt a b) l.toNat) (FR:=fun l=>g0 (Xb a b) l.toNat) (mv:=VM a) ha hb fa fb (by unfold sm;omega) (ZFe ha) (ZoI ha hb) (ZoH ha hb) fun p h1 h2=>ZFd ha hb h1 h2;refine⟨f1,f2,f3,f4,fun w hw=>?_⟩;rcases ZhL hw with h | h
 ·obtain⟨x,hx,rfl⟩:=Uau.1 h;exact Wz (ZoI ha hb _ (ha.inner x hx))
 ·obtain⟨x,hx,rfl⟩:=Uau.1 h;exact Wz (ZoH ha hb _ (hb.inner x hx))
def Yx(sig:List TControl)(a b:TBigraph):Prop:=bigOK sig a/\bigOK sig b/\(∀ x∈inn a,x ∉ inn b)/\bigOK sig (J5 a b)
open Classical in
noncomputable def Zbx(sig:List TControl)(a b:TBigraph):TBigraph:=if Yx sig a b then J5 a b else JN
noncomputable def Zby(sig:List TControl)(a b:TBigraph):Bool:=dc (Yx sig a b)
theorem ZoK(sig:List TControl)(a b:TBigraph)(hn:sig.length<=4294967296)(hbs:∀ y∈sig,Z9 4294967296 y)(hba:Jo 4294967296 a)(hbb:Jo 4294967296 b)(fa:JM a)(fb:JM b)(lvl:Nat)(S:Zb):Sem Ucb ZcU lvl [.tr (.sl (sig.map Zx)),.ag ((Zh a).map .tr),.ag ((Zh b).map .tr)] S (.tu [ZA (Zbx sig a b),iB (Zby sig a b)]) S:=by
 refine Zl ZBQ (by simp [ZA,low,men,Zc]) ?_;simp only[ZlT,Zh,Za,↓reduceIte,Nat.reduceEqDiff,Nat.reduceMul,reduceCtorEq,Nat.reduceAdd,Nat.reduceLeDiff,Nat.reduceLT,Zc,men];have i1:=UZ sig a hn hbs hba;have i2:=UZ sig b hn hbs hbb;simp only[Zh,Uah,Uam] at i1 i2;refine Zf i1 ?_;unfold Zbx Zby;cases h1:dc (bigOK sig a)
 ·have hno:¬ Yx sig a b:=fun g=>dc_not.1 h1 g.1;rw[if_neg hno,Zt hno];simp only[Za,↓reduceIte,Nat.reduceEqDiff,Nat.reduceMul,reduceCtorEq,Nat.reduceAdd,Nat.reduceLT];rfl
 have hA:=dc_iff.1 h1;simp only[Za,↓reduceIte,Nat.reduceEqDiff,Nat.reduceMul,reduceCtorEq,Nat.reduceAdd,Nat.reduceLT,Zc,men];refine Zf i2 ?_;cases h2:dc (bigOK sig b)
 ·have hno:¬ Yx sig a b:=fun g=>dc_not.1 h2 g.2.1;rw[if_neg hno,Zt hno];simp only[Za,↓reduceIte,Nat.reduceEqDiff,Nat.reduceMul,reduceCtorEq,Nat.reduceAdd,Nat.reduceLT];rfl
 have hB:=dc_iff.1 h2;have sa:=hA.small;have sb:=hB.small;have a3:=sa.inner;have b3:=sb.inner;simp only[Za,↓reduceIte,Nat.reduceEqDiff,Nat.reduceMul,reduceCtorEq,Nat.reduceAdd,Nat.reduceLT,Zc,men];have n1:=Zhm a (by omega);have n2:=Zhm b (by omega);simp only[Zh,Uah,Uam] at n1 n2;refine Zf n1 ?_;simp only[Za,↓reduceIte,Nat.reduceEqDiff,Nat.reduceMul,reduceCtorEq,Nat.reduceAdd,Nat.reduceLT,Zc,men];refine Zf n2 ?_;simp only[Za,↓reduceIte,Nat.reduceEqDiff,Nat.reduceMul,reduceCtorEq,Nat.reduceLT,Zc,men];refine Zf (ZE5 (inn a) (inn b) (by rw[DS];omega) (by rw[DS];omega)) ?_;cases h3:dc (∀ x∈inn a,x ∉ inn b)
 ·have hno:¬ Yx sig a b:=fun g=>dc_not.1 h3 g.2.2.1;rw[if_neg hno,Zt hno];simp only[Za,↓reduceIte,Nat.reduceEqDiff,Nat.reduceMul,reduceCtorEq,Nat.reduceAdd,Nat.reduceLT];rfl
 have hD:=dc_iff.1 h3;simp only[Za,↓reduceIte,Nat.reduceEqDiff,Nat.reduceMul,reduceCtorEq,Nat.reduceAdd,Nat.reduceLT,Zc,men];have qc:=ZFc sig a b hA hB hD;simp only[Zh,Wy,Uah,Uam] at qc;refine Zf qc ?_;simp only[Za,↓reduceIte,Nat.reduceEqDiff,Nat.reduceMul,reduceCtorEq,Nat.reduceLT,Zc,men];have qv:=ZdI sig (J5 a b) hn hbs (ZdU hA hB) (ZoJ hA hB fa fb);simp only[Zh,Uah,Uam] at qv;refine Zf qv ?_;cases h6:dc (bigOK sig (J5 a b))
 ·have hno:¬ Yx sig a b:=fun g=>dc_not.1 h6 g.2.2.2;rw[if_neg hno,Zt hno,if_neg (dc_not.1 h6)];simp only[ZA,Za,↓reduceIte,Nat.reduceEqDiff,Nat.reduceMul,reduceCtorEq,Nat.reduceAdd,Nat.reduceLT];rfl
 ·have hyes:Yx sig a b:=⟨hA,hB,hD,dc_iff.1 h6⟩;rw[if_pos hyes,ZU hyes,if_pos (dc_iff.1 h6)];simp only[ZA,Uaa,Za,↓reduceIte,Nat.reduceEqDiff,Nat.reduceMul,reduceCtorEq,Nat.reduceAdd,Nat.reduceLT]
def Vr(p:Int):Int:=max (-1) p
def Ug(x:TNode):TNode:=⟨x.control,Vr x.parent,x.links⟩
def VN(b:TBigraph):TBigraph:=⟨1,b.nodes.map Ug,b.sites.map Vr,b.edges,b.outer,b.inner⟩
def ZhM(b:TBigraph):Prop:=0<=b.roots/\(∀ x∈b.nodes,-b.roots<=x.parent)/\∀ p∈b.sites,-b.roots<=p
theorem ZdV{sig:List TControl}{b:TBigraph}{p below:Int}(h:-b.roots<=p):YA sig (VN b) (Vr p) below↔YA sig b p below:=by
 unfold YA Vr;by_cases h0:0<=p
 ·rw[show max (-1) p=p by omega];have e:Xz (VN b) p=Xz b p:=by unfold Xz VN;rw[Uao];cases b.nodes[p.toNat]?<;>rfl
  rw[e];constructor
  ·rintro(q | q)
   ·omega
   ·exact .inr q
  ·rintro(q | q)
   ·omega
   ·exact .inr q
 ·have e:max (-1) p = -1:=by omega
  rw[e];constructor
  ·intro _;exact .inl ⟨by omega,h⟩
  ·intro _;refine .inl ⟨by omega,?_⟩;show -(1:Int) <= -1;omega
theorem ZoL{sig:List TControl}{b:TBigraph}(h:ZhM b):bigOK sig (VN b)/\b.roots<=4↔bigOK sig b:=by
 obtain⟨h0,h1,h2⟩:=h;have hl:(VN b).nodes.length=b.nodes.length:=Uaa ..;have hs:(VN b).sites.length=b.sites.length:=Uaa ..;constructor
 ·rintro⟨g,hr⟩
  refine⟨g.sg,⟨h0,hr⟩,by rw[<-hl];exact g.nodesL,by rw[<-hs];exact g.sitesL,g.edges,g.outer,g.inn,fun i hi=>?_,fun p hp=>?_,g.inner⟩
  ·have q:=g.nodes i (by rw[hl];exact hi);have e:(VN b).nodes[i]'(by rw[hl];exact hi)=Ug b.nodes[i]:=(by simp [VN]);rw[e] at q;exact⟨q.ctl,(ZdV (h1 _ (Uaj hi))).1 q.par,q.ports,q.links⟩
  ·have q:=g.sites (Vr p) (Uau.2 ⟨p,hp,rfl⟩);rw[hl] at q;exact(ZdV (h2 p hp)).1 q
 ·intro g;refine⟨⟨g.sg,by show (0:Int)<=1/\(1:Int)<=4;omega,by rw[hl];exact g.nodesL,by rw[hs];exact g.sitesL,g.edges,g.outer,g.inn,fun i hi=>?_,fun p hp=>?_,g.inner⟩,g.roots.2⟩
  ·have hi2:i<b.nodes.length:=(by rw[<-hl];exact hi);have q:=g.nodes i hi2;have e:(VN b).nodes[i]=Ug b.nodes[i]:=(by simp [VN]);rw[e];exact⟨q.ctl,(ZdV (h1 _ (Uaj hi2))).2 q.par,q.ports,q.links⟩
  ·obtain⟨p0,hp0,rfl⟩:=Uau.1 hp;rw[hl];exact(ZdV (h2 p0 hp0)).2 (g.sites p0 hp0)
theorem ZhN{sig:List TControl}{a b:TBigraph}(ha:bigOK sig a)(hb:bigOK sig b):ZhM (J5 a b):=by
 have ra:=ha.roots;have rb:=hb.roots;have hbes:∀ p,-b.roots<=p -> -(a.roots+b.roots)<=VM a p:=fun p hp=>by unfold VM;split<;>omega
 refine⟨?_,fun x hx=>?_,fun p hp=>?_⟩
 ·show 0<=a.roots+b.roots;omega
 ·show -(a.roots+b.roots)<=x.parent;rcases Uaq.1 hx with hx | hx
  ·obtain⟨y,hy,rfl⟩:=Uau.1 hx;obtain⟨k,hk,rfl⟩:=Uar hy;have:=Yo ra.1 (ha.nodes k hk).par;show _<=(a.nodes[k]).parent;omega
  ·obtain⟨y,hy,rfl⟩:=Uau.1 hx;obtain⟨k,hk,rfl⟩:=Uar hy;exact hbes _ (Yo rb.1 (hb.nodes k hk).par)
 ·show -(a.roots+b.roots)<=p;rcases Uaq.1 hp with hp | hp
  ·have:=Yo ra.1 (ha.sites p hp);omega
  ·obtain⟨y,hy,rfl⟩:=Uau.1 hp;exact hbes _ (Yo rb.1 (hb.sites y hy))
theorem ZoM{b:TBigraph}{n:Nat}(hn:b.roots=n){p:Int}(h:-b.roots<=p):Ya 0 (List.replicate n (-1)) p=Vr p:=by
 unfold Ya Vr;by_cases h0:0<=p
 ·rw[if_neg (by omega)];omega
 ·rw[if_pos (by omega)];have hk:(-1-p).toNat<n:=by omega
  show (List.replicate n (-1:Int)).getD _ 0=_;rw[UaD,Uba,if_pos hk];show (-1:Int)=_;omega
noncomputable def D9(a b:TBigraph):TBigraph:=VN (J5 a b)
open Classical in
noncomputable def Zbz(sig:List TControl)(a b:TBigraph):TBigraph:=if Yx sig a b then D9 a b else JN
noncomputable def ZbA(sig:List TControl)(a b:TBigraph):Bool:=dc (Yx sig a b)
theorem ZoN{α:Type}{m:α->Int->α}{n:α->Nat}:∀{a:List α} {k:Int} {j:Nat} (h:j<a.length),(mL m n a k)[j]? = some (m a[j] (kJ n a k j))
 | [],_,_,h=>by cases h
 | x::r,k,0,_=>by simp [mL,kJ,nL]
 | x::r,k,j+1,h=>by simp only[mL,List.getElem?_cons_succ,List.getElem_cons_succ];rw[ZoN (by simpa using h)];simp only[kJ,List.take_succ_cons,nL];congr 2;omega
theorem ZoO{α:Type}{c:α->List Tr}{m:α->Int->α}{n:α->Nat}{a:List α}{k:Int}{j:Nat}(h:j<a.length):((mL m n a k).map c)[j]? = some (c (m a[j] (kJ n a k j))):=by rw[Uao,ZoN h];rfl
theorem ZoP{α:Type}{c:α->List Tr}{m:α->Int->α}{n:α->Nat}{a:List α}{k:Int}:cut ((mL m n a k).map c) 0 a.length=(mL m n a k).map c:=by simp only[cut,Ubl];exact UaQ (by rw[Uaa,Wo];exact Ual _)
theorem VO{α:Type}{c:α->List Tr}{a:List α}:cut (a.map c) 0 a.length=a.map c:=by simp only[cut,Ubl];exact UaQ (by rw[Uaa];exact Ual _)
def YH{α:Type}(f:α->α)(l:List α)(j:Nat):List α:=(l.take j).map f++l.drop j
theorem ZhO{α:Type}{f:α->α}{l:List α}:YH f l 0=l:=by simp [YH]
theorem ZhP{α:Type}{f:α->α}{l:List α}:YH f l l.length=l.map f:=by simp [YH]
theorem ZFf{α:Type}{f:α->α}{l:List α}{j:Nat}:(YH f l j).length=l.length:=by simp [YH];omega
theorem ZoQ{α:Type}{f:α->α}{l:List α}{j:Nat}(h:j<l.length):(YH f l j)[j]? = some l[j]:=by
 have:((l.take j).map f).length=j:=by rw[Uaa,Uai];omega
 rw[YH,Uas (by omega),this,UaM];simp [h]
theorem ZoR{α:Type}{f:α->α}{l:List α}{j:Nat}(h:j<l.length):(YH f l j).set j (f l[j])=YH f l (j+1):=by
 have hl:((l.take j).map f).length=j:=by rw[Uaa,Uai];omega
 unfold YH;rw[Ubh _ _ (by omega),hl,Ubi,UaA h,List.set_cons_zero,Uag h,Uaw,UaR];rfl
theorem ZhQ{l:List TNode}{j:Nat}(h:j<l.length):((YH Ug l j).map ZQ)[j]? = some [tv l[j].control,tv l[j].parent,Tr.sl (rI l[j].links)]:=by rw[Uao,ZoQ h];rfl
theorem ZoS{l:List TNode}{j:Nat}(h:j<l.length):ZK ((YH Ug l j).map ZQ) [] j 1 (Tr.v (.int .i64 (max (-1) l[j].parent)))=(YH Ug l (j+1)).map ZQ:=by rw[ZdK (ZhQ h),<-ZoR h,UbE];rfl
theorem ZFg{l:List Int}{j:Nat}(h:j<l.length):(rI (YH Vr l j))[j]? = some [tv l[j]]:=by show ((YH Vr l j).map _)[j]? = _;rw[Uao,ZoQ h];rfl
theorem ZFh{l:List Int}{j:Nat}(h:j<l.length):ZK (rI (YH Vr l j)) [] j 0 (Tr.v (.int .i64 (max (-1) l[j])))=rI (YH Vr l (j+1)):=by rw[Zhv (by rw[ZFf];exact h),show max (-1) l[j]=Vr l[j] from rfl,ZoR h]
theorem ZFi(b:TBigraph)(hb:Jo 4294967290 b)(lvl:Nat)(S:Zb):Sem Ucb ZgI lvl [.ag ((Zh b).map .tr)] S (ZA (VN b)) S:=by
 refine Zl ZB6 (by simp [ZA,low,men,Zc]) ?_;simp only[Zl9,Zh,Za,seval,Zc,men];have q:=ZdD b hb;simp only[Zh,Uah,Uam] at q;obtain⟨b1,b2,b3,b4,b5,b6,b7⟩:=hb;refine Zf q ?_;simp only[ZA,Uaa,Za,seval];refine ZP (α:=Unit) b.nodes.length (fun j _=>[(14,iI j)]) (fun j _=>[(288,.ar 3 ((YH Ug b.nodes j).map ZQ) true b.nodes.length 0)]) (fun _ _=>True) () (by simp only[Za,seval]) (by (simp only[ZhO,Za,seval])<;>rfl) trivial ?_;intro j _ hj _;simp only[Za,seval];refine Zv (fun hlt=>?_) (fun hge=>?_)
 ·have hja:j<b.nodes.length:=by omega
  have ga:=ZhQ hja;have hst:=ZoS hja;simp only[ga,hst,hja,Uaa,Za,seval];exact⟨by rw[Ze];omega,Zz () hja rfl trivial⟩
 ·have:j=b.nodes.length:=by omega
  subst this;rw[ZhP];refine ZP (α:=Unit) b.sites.length (fun j _=>[(31,iI j)]) (fun j _=>[(289,.ar 1 (rI (YH Vr b.sites j)) true b.sites.length 0)]) (fun _ _=>True) () (by simp only[Za,seval]) (by (simp only[ZhO,Za,seval])<;>rfl) trivial ?_;intro j _ hj _;simp only[Uaa,Za,seval];refine Zv (fun hlt=>?_) (fun hge=>?_)
  ·have hja:j<b.sites.length:=(by omega);have ga:=ZFg hja;have hst:=ZFh hja;simp only[ga,hst,hja,Za,seval];exact⟨by rw[Ze];omega,Zz () hja rfl trivial⟩
  ·have:j=b.sites.length:=(by omega);subst this;rw[ZhP];simp only[Uaa,Za,seval];try rfl
structure easy (b:TBigraph):Prop where
 root:ZhM b
 bd:Jo 4294967290 b
 r4:b.roots<=4294967290
 edges:0<=b.edges/\b.edges<=4294967290
 par:∀ x∈b.nodes,x.parent<b.nodes.length/\∀ l∈x.links,0<=l
 site:∀ p∈b.sites,p<b.nodes.length
 link:∀ w∈b.inner,0<=w.link
theorem ZFj{n:Nat}:rI (List.replicate n (-1))++[[tv (-1)]]=rI (List.replicate (n+1) (-1)):=by rw[List.replicate_succ',J4];rfl
theorem ZFk(b:TBigraph)(h:easy b)(lvl:Nat)(S:Zb):Sem Ucb ZgE lvl [.ag ((Zh b).map .tr)] S (ZA (VN b)) S:=by
 obtain⟨E,hE⟩:∃ E:Nat,b.edges=E:=⟨b.edges.toNat,by have:=h.edges;omega⟩;obtain⟨R,hR⟩:∃ R:Nat,b.roots=R:=⟨b.roots.toNat,by have:=h.root.1;omega⟩;have hr4:=h.r4;have he4:=h.edges;have hbd:=h.bd;obtain⟨b1,b2,b3,b4,b5,b6,b7⟩:=h.bd;refine Zl ZB2 (by simp [ZA,low,men,Zc]) ?_;simp only[Zl5,Zh,Za,seval,Zc,men];have q:=ZhF b E hE hbd (by omega) h.par h.site h.link;simp only[Zh,Uah,Uam] at q;refine Zf q ?_;simp only[ZA,Uaa,Za,seval];refine ZP (α:=Unit) R (fun j _=>[(4,.hd (lvl,288) [] 0 j none j),(5,iI j)]) (fun j _=>[(288,.ar 1 (rI (List.replicate j (-1))) true j 0)]) (fun _ _=>True) () (by simp only[Za,seval]) (by (simp only[Za,seval])<;>rfl) trivial ?_;intro j _ hj _;simp only[hR,Uaa,Za,seval];refine Zv (fun hlt=>?_) (fun hge=>?_)
 ·have hja:j<R:=by omega
  simp only[ZFj,seval];exact⟨by omega,by rw[Ze];omega,Zz () hja rfl trivial⟩
 ·have:j=R:=by omega
  subst this;have hlr:(List.replicate j (-1:Int)).length=j:=UbH;have hcr:cut (rI (List.replicate j (-1))) 0 j=rI (List.replicate j (-1)):=Ym (by rw[Uaa,hlr]);have hroot:=h.root;have hpar:∀ p,-b.roots<=p->p<4294967296->(-4294967296<=p/\p<=4294967296)/\(p<0->(-1-p).toNat<(List.replicate j (-1:Int)).length):=fun p h1 h2=>⟨by omega,fun h3=>by rw[hlr];omega⟩;refine ZP (α:=Unit) b.nodes.length (fun j _=>[(6,iI j)]) (fun j _=>[(256,.ar 3 ((YH Ug b.nodes j).map ZQ) true b.nodes.length 0)]) (fun _ _=>True) () (by simp only[Za,seval]) (by (simp only[ZhO,Za,seval])<;>rfl) trivial ?_;intro i _ hi _;simp only[Uaa,Za,seval,Zc,men];refine Zv (fun hlt=>?_) (fun hge=>?_)
  ·have hia:i<b.nodes.length:=(by omega);have ga:=ZhQ hia;have hst:=ZoS hia;have hx:=Uaj hia;have hp1:=hroot.2.1 _ hx;have hp2:=(h.par _ hx).1;obtain⟨g1,g2⟩:=hpar _ hp1 (by omega);have e:=ZoM hR hp1;simp only[ga,hcr,hia,Uaa,Za,seval,Zc,men];refine Zf (Zhu b.nodes[i].parent 0 (List.replicate j (-1)) g1 (by omega) g2) ?_;rw[e];unfold Vr;simp only[ga,hst,hia,Za,seval];exact⟨by rw[Ze];omega,Zz () hia rfl trivial⟩
  ·have:i=b.nodes.length:=(by omega);subst this;rw[ZhP];have qs:=D0 b 0 (List.replicate j (-1)) (by omega) (by omega) fun p hp=>by have:=h.site p hp;exact hpar p (hroot.2.2 p hp) (by omega)
   rw[show b.sites.map (Ya 0 (List.replicate j (-1)))=b.sites.map Vr from UaC fun p hp=>ZoM hR (hroot.2.2 p hp)] at qs;simp only[Zh,hR,Uah,Uam] at qs;simp only[hcr,seval];refine Zf qs ?_;simp only[VN,Uaa,Za,seval];try rfl
theorem ZoT{sig:List TControl}{a b:TBigraph}(ha:bigOK sig a)(hb:bigOK sig b){l:Int}(hl:Z6 a l):0<=g0 (Qt a b) l.toNat:=by
 have ea:=ha.edges;have eb:=hb.edges;unfold Qt Qb;rcases Qq hl with ⟨h0,h1⟩ | ⟨i,hi,rfl⟩
 ·rw[XJ h0 h1];omega
 ·rw[XK ea.1 hi];have:a.outer[i]∈Jn a b:=setS_mem.2 (Uaq.2 (.inl (Uaj hi)));have:=ixS_nn.2 this;omega
theorem ZoU{sig:List TControl}{a b:TBigraph}(ha:bigOK sig a)(hb:bigOK sig b){l:Int}(hl:Z6 b l):0<=g0 (Xb a b) l.toNat:=by
 have ea:=ha.edges;have eb:=hb.edges;unfold Xb Xa;rcases Qq hl with ⟨h0,h1⟩ | ⟨i,hi,rfl⟩
 ·rw[XJ h0 h1];omega
 ·rw[XK eb.1 hi];have:b.outer[i]∈Jn a b:=setS_mem.2 (Uaq.2 (.inr (Uaj hi)));have:=ixS_nn.2 this;omega
theorem ZFl{sig:List TControl}{a b:TBigraph}(ha:bigOK sig a)(hb:bigOK sig b):easy (J5 a b):=by
 have ra:=ha.roots;have rb:=hb.roots;have ea:=ha.edges;have eb:=hb.edges;have a1:=ha.small.nodes;have b1:=hb.small.nodes;have hlen:(J5 a b).nodes.length=a.nodes.length+b.nodes.length:=by simp [J5,ZhK,D8,Vh]
 have hbes:∀ p:Int,p<b.nodes.length->VM a p<(a.nodes.length+b.nodes.length:Nat):=fun p hp=>by unfold VM;split<;>omega
 refine⟨ZhN ha hb,ZdU ha hb,by show a.roots+b.roots<=_;omega,by show 0<=a.edges+b.edges/\a.edges+b.edges<=_;omega,fun x hx=>?_,fun p hp=>?_,fun w hw=>?_⟩
 ·rw[hlen];rcases Uaq.1 hx with hx | hx
  ·obtain⟨y,hy,rfl⟩:=Uau.1 hx;obtain⟨k,hk,rfl⟩:=Uar hy;have h1:=(XO ha hy).1;refine⟨by show (a.nodes[k]).parent<_;omega,fun l hl=>?_⟩;obtain⟨l0,hl0,rfl⟩:=Uau.1 hl;exact ZoT ha hb ((ha.nodes k hk).links l0 hl0)
  ·obtain⟨y,hy,rfl⟩:=Uau.1 hx;obtain⟨k,hk,rfl⟩:=Uar hy;have h1:=(XO hb hy).1;refine⟨hbes _ h1,fun l hl=>?_⟩;obtain⟨l0,hl0,rfl⟩:=Uau.1 hl;exact ZoU ha hb ((hb.nodes k hk).links l0 hl0)
 ·rw[hlen];rcases Uaq.1 hp with hp | hp
  ·have:=XP ha hp;omega
  ·obtain⟨y,hy,rfl⟩:=Uau.1 hp;exact hbes _ (XP hb hy)
 ·rcases ZhL hw with h | h
  ·obtain⟨x,hx,rfl⟩:=Uau.1 h;exact ZoT ha hb (ha.inner x hx)
  ·obtain⟨x,hx,rfl⟩:=Uau.1 h;exact ZoU ha hb (hb.inner x hx)
theorem ZoV(sig:List TControl)(a b:TBigraph)(hn:sig.length<=4294967296)(hbs:∀ y∈sig,Z9 4294967296 y)(hba:Jo 4294967296 a)(hbb:Jo 4294967296 b)(fa:JM a)(fb:JM b)(lvl:Nat)(S:Zb):Sem Ucb ZcT lvl [.tr (.sl (sig.map Zx)),.ag ((Zh a).map .tr),.ag ((Zh b).map .tr)] S (.tu [ZA (Zbz sig a b),iB (ZbA sig a b)]) S:=by
 refine Zl ZBP (by simp [ZA,low,men,Zc]) ?_;simp only[ZlS,Zh,Za,seval,Zc,men];have q:=ZoK sig a b hn hbs hba hbb fa fb;unfold Zbx Zby at q;simp only[Zh,Uah,Uam] at q;unfold Zbz ZbA;by_cases hq:Yx sig a b
 ·rw[if_pos hq,ZU hq] at q;rw[if_pos hq,ZU hq];refine Zf q ?_;have qm:=ZFi (J5 a b) (ZdU hq.1 hq.2.1);simp only[Zh,Uah,Uam] at qm;simp only[ZA,VO,Uaa,Za,seval,Zc,men];refine Zf qm ?_;simp only[ZA,Uaa,Za,seval];try rfl
 ·rw[if_neg hq,Zt hq] at q;rw[if_neg hq,Zt hq];refine Zf q ?_;simp only[ZA,Uaa,Za,seval];try rfl
def Vs(n:Nat)(l:List Int):Prop:=l.length=n/\∀ i:Nat,i<n->(i:Int)∈l
theorem ZdW:Ords (fun a b:Int=>a<b):=⟨fun a=>Int.lt_irrefl a,fun a b c=>Int.lt_trans,fun a b=>Int.lt_trichotomy a b⟩
theorem upto_mem{n:Nat}{x:Int}:x∈Je n↔0<=x/\x<n:=by
 unfold Je;rw[Uau];constructor
 ·rintro⟨i,hi,rfl⟩
  have:=Ub9.1 hi;omega
 ·rintro⟨h1,h2⟩
  exact⟨x.toNat,Ub9.2 (by omega),by omega⟩
theorem upto_pw{n:Nat}:(Je n).Pairwise (fun a b=>a<b):=by unfold Je;rw[Ub1];exact List.pairwise_lt_range.imp fun h=>by omega
theorem ZFm{n:Nat}:(Je n).Nodup:=upto_pw.imp fun h e=>by omega
theorem ZoW:∀{x y:List Int},x.Nodup->(∀ c∈x,c∈y)->x.length<=y.length/\(y.length<=x.length->x.Perm y)
 | [],y,_,_=>⟨UbC _,fun h=>by rw[Ua1.1 (Nat.le_zero.1 h)]⟩
 | a::r,y,hd,hs=>by have hc:=List.nodup_cons.1 hd;have ha:a∈y:=hs a (by simp);have hp:=List.perm_cons_erase ha;obtain⟨h1,h2⟩:=ZoW (x:=r) (y:=y.erase a) hc.2 fun c hcr=>(List.mem_erase_of_ne (fun e=>hc.1 (by rw[<-e];exact hcr))).2 (hs c (by simp [hcr]));have hl:=hp.length_eq;simp only[List.length_cons] at hl ⊢;exact⟨by omega,fun h=>((h2 (by omega)).cons a).trans hp.symm⟩
theorem ordOK_perm{n:Nat}{l:List Int}:Vs n l↔l.Perm (Je n):=by
 constructor
 ·rintro⟨h1,h2⟩
  refine((ZoW (x:=Je n) (y:=l) ZFm fun x hx=>?_).2 (by rw[h1,VH];exact Ual _)).symm;have:=upto_mem.1 hx;have h3:=h2 x.toNat (by omega);rwa [show ((x.toNat:Nat):Int)=x by omega] at h3
 ·intro h;refine⟨by rw[h.length_eq,VH],fun i hi=>h.mem_iff.2 (upto_mem.2 (by omega))⟩
theorem ZFn{n:Nat}{l:List Int}:Vs n l↔VG (fun a b:Int=>a<b) l=Je n:=by
 rw[ordOK_perm];constructor
 ·intro h;exact Zbl ZdW (Zbm ZdW) (upto_pw.imp fun h=>by omega) (srtG_perm.trans h)
 ·intro h;rw[<-h];exact srtG_perm.symm
theorem ZoX{n:Nat}{l:List Int}(h:Vs n l){x:Int}(hx:x∈l):0<=x/\x<n:=upto_mem.1 ((ordOK_perm.1 h).mem_iff.1 hx)
def XQ:TBigraph:=⟨1,[],[],0,[],[]⟩
def XR:TBigraph:=⟨1,[],[-1],0,[],[]⟩
abbrev ZR:=TBigraph×List Int
def ZE(k:Int):Nat:=if k=4\/k=5 then 2 else if k=3\/k=6\/k=7 then 1 else 0
structure stepOK (sig:List TControl) (s:TTermStep):Prop where
 kind:0<=s.kind_/\s.kind_<=7
 ctl0:s.kind_≠3->s.control=0
 site0:s.kind_≠2->s.site=0
 nms:∀ n∈s.names,JR n
 site:s.kind_=2->0<=s.site/\s.site<=3
 ctl:s.kind_=3->0<=s.control/\s.control<=(sig.length:Int)-1
 ports:s.kind_=3->(s.names.length:Int)=YX sig s.control
 one:s.kind_=6\/s.kind_=7->s.names.length=1
 non:s.kind_≠3->s.kind_≠6->s.kind_≠7->s.names.length=0
noncomputable def Qc(s:TTermStep):TBigraph:=⟨1,[⟨s.control,-1,s.names.map fun n=>Jh (ZN s.names) n⟩],[],0,ZN s.names,[]⟩
noncomputable def Yk(s:TTermStep):TBigraph:=⟨1,[⟨s.control,-1,s.names.map fun n=>Jh (ZN s.names) n⟩],[0],0,ZN s.names,[]⟩
def Y8(sig:List TControl)(s:TTermStep)(x:TBigraph):Prop:=x.roots=1/\(YF sig s.control=2->x.nodes=[]/\x.sites=[])/\bigOK sig (YK (Yk s) x)
noncomputable def Qd(b:TBigraph)(n:ByteArray):List ByteArray:=ZN (b.outer++[n])
noncomputable def Y9(b:TBigraph)(n:ByteArray):TBigraph:=Jp b (J1 b b.edges (Qd b n) fun x=>x) b.edges (Qd b n)
def YI(sig:List TControl)(b:TBigraph)(n:ByteArray):Prop:=bigOK sig b/\n ∉ b.outer/\bigOK sig (Y9 b n)
open Classical in
noncomputable def JI(sig:List TControl)(s:TTermStep)(xs:List ZR):Option ZR :=
 if s.kind_=0 then some (JN,[])
 else if s.kind_=1 then some (XQ,[])
 else if s.kind_=2 then some (XR,[s.site])
 else match xs with
 | [x] =>
  if s.kind_=3 then (if Y8 sig s x.1 then some (YK (Yk s) x.1,x.2) else none)
  else if s.kind_=6 then (if VJ sig x.1 (gS s.names 0) then some (YY x.1 (gS s.names 0),x.2) else none)
  else (if YI sig x.1 (gS s.names 0) then some (Y9 x.1 (gS s.names 0),x.2) else none)
 | [x,y]=>if Yx sig x.1 y.1 then some (if s.kind_=4 then D9 x.1 y.1 else J5 x.1 y.1,x.2++y.2) else none
 | _=>none
structure partOK (sig:List TControl) (x:ZR):Prop where
 big:bigOK sig x.1
 inn:x.1.inner=[]
 len:x.2.length=x.1.sites.length
 num:∀ k∈x.2,0<=k/\k<=3
abbrev Jz:=List ZR×Nat
open Classical in
noncomputable def JE(sig:List TControl)(z:Jz)(s:TTermStep):Option Jz :=
 if stepOK sig s/\ZE s.kind_<=z.1.length then
  match JI sig s (z.1.drop (z.1.length-ZE s.kind_)) with
  | some x=>some (z.1.take (z.1.length-ZE s.kind_)++[x],max z.2 (z.1.length-ZE s.kind_+1))
  | none=>none
 else none
noncomputable def Z3(sig:List TControl)(t:List TTermStep):Option Jz:=t.foldlM (JE sig) ([],0)
theorem Zaa{sig:List TControl}:Z3 sig []=some ([],0):=rfl
theorem Zab{sig:List TControl}{t:List TTermStep}{j:Nat}(h:j<t.length):Z3 sig (t.take (j+1))=(Z3 sig (t.take j)).bind fun z=>JE sig z t[j]:=by
 unfold Z3;rw[Uag h,List.foldlM_append];cases List.foldlM (JE sig) (([],0):Jz) (t.take j) with
 | none=>rfl
 | some z =>
  show List.foldlM (JE sig) z [t[j]]=_;simp
theorem ZdX{sig:List TControl}{t:List TTermStep}{j:Nat}(h:Z3 sig (t.take j)=none):Z3 sig t=none:=by have e:t=t.take j++t.drop j:=(Ua5 j t).symm;rw[e];unfold Z3 at *;rw[List.foldlM_append,h];rfl
theorem ZdY{sig:List TControl}{z:Jz}{s:TTermStep}{x:ZR}(h:stepOK sig s)(hn:ZE s.kind_<=z.1.length)(hx:JI sig s (z.1.drop (z.1.length-ZE s.kind_))=some x):JE sig z s=some (z.1.take (z.1.length-ZE s.kind_)++[x],max z.2 (z.1.length-ZE s.kind_+1)):=by unfold JE;rw[if_pos ⟨h,hn⟩,hx]
theorem ZbB{sig:List TControl}{z:Jz}{s:TTermStep}(h:¬ (stepOK sig s/\ZE s.kind_<=z.1.length)):JE sig z s=none:=by unfold JE;rw[if_neg h]
theorem ZoY{sig:List TControl}{z:Jz}{s:TTermStep}(hx:JI sig s (z.1.drop (z.1.length-ZE s.kind_))=none):JE sig z s=none:=by
 unfold JE;split
 ·rw[hx]
 ·rfl
theorem ZFo{l:List ByteArray}(hp:l.Pairwise ltS)(hn:∀ n∈l,JR n)(hl:l.length<=16):Vg l:=by refine⟨fun i h=>⟨hn _ (Uaj h),fun h0=>?_⟩,hl⟩;exact Ua8.1 hp (i-1) i (by omega) h (by omega)
theorem ZFp{sig:List TControl}(h:Jj sig){x:TControl}(hx:x∈sig):Zdt x:=by obtain⟨i,hi,rfl⟩:=Uar hx;exact(h.1 i hi).1
theorem ZhR{sig:List TControl}(h:Jj sig){c:Int}:YX sig c<=3:=by
 unfold YX;cases hc:sig[c.toNat]? with
 | none=>simp
 | some x =>
  have hx:x∈sig:=Uaf hc;have:=(ZFp h hx).2.1;simp only[Option.map_some,Option.getD_some];omega
theorem ZoZ{sig:List TControl}{s:TTermStep}(hs:Jj sig)(h:stepOK sig s)(h3:s.kind_=3):Vg (ZN s.names):=by refine ZFo ZdM (fun n hn=>h.nms n (setS_mem.1 hn)) ?_;have h1:=D7 (l:=s.names);have h2:=h.ports h3;have h4:=ZhR hs (c:=s.control);omega
theorem Zo0{sig:List TControl}{s:TTermStep}(h:stepOK sig s)(h3:s.kind_=3){b:TBigraph}(hr:b.roots=1)(he:b.edges=0)(ho:b.outer=ZN s.names):nodeOK sig b ⟨s.control,-1,s.names.map fun n=>Jh (ZN s.names) n⟩ 0:=by refine⟨h.ctl h3,.inl ⟨by show (-1:Int)<0;omega,by show -b.roots <= -1;omega⟩,by rw[<-h.ports h3,Uaa],fun l hl=>?_⟩;obtain⟨n,hn,rfl⟩:=Uau.1 hl;have hm:=setS_mem.2 hn;have h1:=ixS_nn.2 hm;have h2:=ZdB hm;unfold Z6;rw[he,ho];omega
theorem ZFq{sig:List TControl}{s:TTermStep}(hs:Jj sig)(h:stepOK sig s)(h3:s.kind_=3):bigOK sig (Qc s):=by
 refine⟨hs,by show (0:Int)<=1/\(1:Int)<=4;omega,by show 1<=8;omega,by show 0<=4;omega,by show (0:Int)<=0/\(0:Int)<=8;omega,ZoZ hs h h3,?_,fun i hi=>?_,fun p hp=>?_,fun w hw=>?_⟩
 ·exact⟨fun i hi=>by simp [inn,Qc] at hi,by simp [inn,Qc]⟩
 ·have hi2:i<1:=hi;have:i=0:=by omega
  subst this;exact Zo0 h h3 rfl rfl rfl
 ·simp [Qc] at hp
 ·simp [Qc] at hw
theorem ZhS{sig:List TControl}{s:TTermStep}(hs:Jj sig)(h:stepOK sig s)(h3:s.kind_=3)(hk:¬ YF sig s.control=2):bigOK sig (Yk s):=by
 refine⟨hs,by show (0:Int)<=1/\(1:Int)<=4;omega,by show 1<=8;omega,by show 1<=4;omega,by show (0:Int)<=0/\(0:Int)<=8;omega,ZoZ hs h h3,?_,fun i hi=>?_,fun p hp=>?_,fun w hw=>?_⟩
 ·exact⟨fun i hi=>by simp [inn,Yk] at hi,by simp [inn,Yk]⟩
 ·have hi2:i<1:=hi;have:i=0:=by omega
  subst this;exact Zo0 h h3 rfl rfl rfl
 ·have hp2:p=0:=by simpa [Yk] using hp
  subst hp2;refine .inr ⟨by omega,by show (0:Int)<((1:Nat):Int);omega,?_⟩;show ¬ YF sig (Xz (Yk s) 0)=2;have e:Xz (Yk s) 0=s.control:=rfl;rw[e];exact hk
 ·simp [Yk] at hw
theorem ZhT{sig:List TControl}(hs:Jj sig){b:TBigraph}(hr:0<=b.roots/\b.roots<=4)(hn:b.nodes=[])(he:b.edges=0)(ho:b.outer=[])(hi:b.inner=[])(hp:∀ p∈b.sites,p<0/\-b.roots<=p)(hl:b.sites.length<=4):bigOK sig b:=by
 refine⟨hs,hr,by rw[hn];simp,hl,by rw[he];omega,?_,?_,fun i h=>by rw[hn] at h;simp at h,fun p h=>.inl (hp p h),fun w h=>by rw[hi] at h;simp at h⟩
 ·rw[ho];exact⟨fun i h=>by simp at h,by simp⟩
 ·unfold inn;rw[hi];exact⟨fun i h=>by simp at h,by simp⟩
theorem ZFr{sig:List TControl}(hs:Jj sig):bigOK sig JN:=ZhT hs (by show (0:Int)<=0/\(0:Int)<=4;omega) rfl rfl rfl rfl (fun p hp=>by simp [JN] at hp) (by simp [JN])
theorem ZFs{sig:List TControl}(hs:Jj sig):bigOK sig XQ:=ZhT hs (by show (0:Int)<=1/\(1:Int)<=4;omega) rfl rfl rfl rfl (fun p hp=>by simp [XQ] at hp) (by simp [XQ])
theorem ZFt{sig:List TControl}(hs:Jj sig):bigOK sig XR:=ZhT hs (by show (0:Int)<=1/\(1:Int)<=4;omega) rfl rfl rfl rfl (fun p hp=>by
 have:p = -1:=by simpa [XR] using hp
 subst this;exact⟨by omega,by show -(1:Int) <= -1;omega⟩) (by simp [XR])
theorem Zo1{a b:TBigraph}(ha:a.inner=[])(hb:b.inner=[]):(J5 a b).inner=[]:=by show YG (a.inner.map _) (b.inner.map _)=[];rw[ha,hb];rfl
theorem ZFu{s:TTermStep}{x:TBigraph}(hr:x.roots=1)(hn:x.nodes=[])(hs:x.sites=[])(hi:x.inner=[]):D9 (Qc s) x=YK (Yk s) x:=by obtain⟨r,ns,ss,e,o,i⟩:=x;simp only at hr hn hs hi;subst hr hn hs hi;rfl
theorem ZFv{sig:List TControl}(hs:Jj sig){s:TTermStep}(h:stepOK sig s){xs:List ZR}(hx:∀ x∈xs,partOK sig x){y:ZR}(hy:JI sig s xs=some y):partOK sig y:=by
 unfold JI at hy;split at hy
 ·cases hy;exact⟨ZFr hs,rfl,rfl,fun k hk=>by simp at hk⟩
 split at hy
 ·cases hy;exact⟨ZFs hs,rfl,rfl,fun k hk=>by simp at hk⟩
 split at hy
 ·rename_i h2;cases hy;refine⟨ZFt hs,rfl,rfl,fun k hk=>?_⟩;have:k=s.site:=by simpa using hk
  subst this;exact h.site h2
 split at hy
 ·rename_i x;have hx0:=hx x (by simp);split at hy
  ·split at hy
   ·rename_i hA;cases hy;refine⟨hA.2.2,?_,?_,hx0.num⟩
    ·show (x.1.inner.map _)=[];rw[hx0.inn];rfl
    ·rw[hx0.len];show _=([]++x.1.sites.map _).length;simp
   ·cases hy
  split at hy
  ·split at hy
   ·rename_i hA;cases hy;refine⟨hA.2.2,?_,?_,hx0.num⟩
    ·show (x.1.inner.map _)=[];rw[hx0.inn];rfl
    ·exact hx0.len
   ·cases hy
  ·split at hy
   ·rename_i hA;cases hy;refine⟨hA.2.2,?_,?_,hx0.num⟩
    ·show (x.1.inner.map _)=[];rw[hx0.inn];rfl
    ·exact hx0.len
   ·cases hy
 ·rename_i x z;have hx0:=hx x (by simp);have hx1:=hx z (by simp);split at hy
  ·rename_i hA;cases hy;have hlen:(x.2++z.2).length=(J5 x.1 z.1).sites.length:=by show _=(x.1.sites++z.1.sites.map _).length;simp only[Uac,Uaa,hx0.len,hx1.len]
   have hnum:∀ k∈x.2++z.2,0<=k/\k<=3:=fun k hk=>by
    rcases Uaq.1 hk with hk | hk
    ·exact hx0.num k hk
    ·exact hx1.num k hk
   split
   ·refine⟨((ZoL (ZhN hA.1 hA.2.1)).2 hA.2.2.2).1,Zo1 hx0.inn hx1.inn,?_,hnum⟩;rw[hlen];show _=((J5 x.1 z.1).sites.map Vr).length;rw[Uaa]
   ·exact⟨hA.2.2.2,Zo1 hx0.inn hx1.inn,hlen,hnum⟩
  ·cases hy
 ·cases hy
theorem ZFw{sig:List TControl}(hs:Jj sig){s:TTermStep}{z z':Jz}(hx:∀ x∈z.1,partOK sig x)(h:JE sig z s=some z'):(∀ x∈z'.1,partOK sig x)/\z'.1.length<=z.1.length+1/\z'.2<=max z.2 (z.1.length+1)/\z'.1.length<=z'.2:=by
 unfold JE at h;split at h
 ·rename_i hA;split at h
  ·rename_i y hy;cases h;refine⟨fun x hx2=>?_,?_,?_,?_⟩
   ·rcases Uaq.1 hx2 with q | q
    ·exact hx x (UaS q)
    ·rw[UaI.1 q];exact ZFv hs hA.1 (fun x hx3=>hx x (Ubd hx3)) hy
   ·simp only[Uac,Uai,List.length_cons,List.length_nil];omega
   ·show max z.2 _<=_;omega
   ·simp only[Uac,Uai,List.length_cons,List.length_nil];omega
  ·cases h
 ·cases h
theorem WC{sig:List TControl}(hs:Jj sig){t:List TTermStep}:∀{j:Nat} {z:Jz},j<=t.length->Z3 sig (t.take j)=some z->(∀ x∈z.1,partOK sig x)/\z.1.length<=j/\z.2<=j/\z.1.length<=z.2
 | 0,z,_,h=>by rw[List.take_zero,Zaa] at h;cases h;exact⟨fun x hx=>by simp at hx,Ual _,Ual _,Ual _⟩
 | j+1,z,hj,h=>by
  rw[Zab (by omega)] at h;cases hp:Z3 sig (t.take j) with
  | none=>rw[hp] at h;cases h
  | some z0 =>
   rw[hp] at h;obtain⟨a1,a2,a3,a4⟩:=WC hs (j:=j) (by omega) hp;obtain⟨b1,b2,b3,b4⟩:=ZFw hs a1 h;exact⟨b1,by omega,by omega,b4⟩
def YZ(l v ini:List Int):Nat->List Int
 | 0=>ini
 | j+1=>(YZ l v ini j).set (g0 l j).toNat (g0 v j)
theorem XT{l v ini:List Int}:∀{j:Nat},(YZ l v ini j).length=ini.length
 | 0=>rfl
 | j+1=>by rw[YZ,UaU,XT]
theorem Zo2{l v a b:List Int}(hl:a.length=b.length):∀{j:Nat},j<=l.length->∀ i:Nat,i<a.length->(∃ k,k<j/\(g0 l k).toNat=i)->(YZ l v a j)[i]? = (YZ l v b j)[i]?
 | 0,_,i,_,h=>by obtain⟨k,hk,_⟩:=h;omega
 | j+1,hj,i,hi,h=>by
  have la:=XT (l:=l) (v:=v) (ini:=a) (j:=j);have lb:=XT (l:=l) (v:=v) (ini:=b) (j:=j);rw[YZ,YZ,Ua3,Ua3,la,lb,hl];by_cases e:(g0 l j).toNat=i
  ·rw[if_pos e,if_pos e]
  ·rw[if_neg e,if_neg e];obtain⟨k,hk,hke⟩:=h;refine Zo2 hl (by omega) i hi ⟨k,?_,hke⟩;by_cases q:k=j
   ·subst q;exact absurd hke e
   ·omega
theorem ZFx{l v a b:List Int}{n:Nat}(ho:Vs n l)(ha:a.length=n)(hb:b.length=n):YZ l v a n=YZ l v b n:=by
 refine Ubf fun i=>?_;by_cases hi:i<n
 ·refine Zo2 (by omega) (by rw[ho.1];omega) i (by omega) ?_;obtain⟨k,hk,e⟩:=Uar (ho.2 i hi);refine⟨k,by rw[<-ho.1];exact hk,?_⟩;have:g0 l k=l[k]:=by simp [hk]
  rw[this,e];omega
 ·rw[UaX (by rw[XT];omega),UaX (by rw[XT];omega)]
def Zo3(x:ZR):TBigraph:=⟨x.1.roots,x.1.nodes,YZ x.2 x.1.sites x.1.sites x.2.length,x.1.edges,x.1.outer,x.1.inner⟩
open Classical in
noncomputable def JX(sig:List TControl)(t:List TTermStep):Option TBigraph :=
 if Jj sig/\t.length<=60 then
  match Z3 sig t with
  | some ([x],_)=>if Vs x.2.length x.2 then some (Zo3 x) else none
  | _=>none
 else none
theorem ZdZ{b:TBigraph}{s:ByteArray}:(Qd b s).length<=b.outer.length+1:=UaG D7 (by simp)
theorem ZFy{sig:List TControl}{b:TBigraph}{s:ByteArray}(h:bigOK sig b){l:Int}(hl:Z6 b l):0<=J1 b b.edges (Qd b s) (fun x=>x) l/\J1 b b.edges (Qd b s) (fun x=>x) l<=100:=by
 have he:=h.edges;have h4:=h.small.outer;have ho:=ZdZ (b:=b) (s:=s);rw[Zbv h hl];unfold Qb;rcases Qq hl with ⟨h0,h1⟩ | ⟨i,hi,rfl⟩
 ·rw[XJ h0 h1];omega
 ·rw[XK he.1 hi];have x2:=Ud (l:=Qd b s) (s:=b.outer[i]);have x4:0<=Jh (Qd b s) b.outer[i]:=ixS_nn.2 (setS_mem.2 (by simp));omega
theorem ZFz{sig:List TControl}{b:TBigraph}{s:ByteArray}(h:bigOK sig (Y9 b s)):JR s:=by have hm:s∈(Y9 b s).outer:=setS_mem.2 (by simp);obtain⟨i,hi,e⟩:=Uar hm;have:=(h.outer.1 i hi).1;rwa [e] at this
theorem ZFA{sig:List TControl}{b:TBigraph}{s:ByteArray}(h:bigOK sig b)(hs:s.size<=4294967290):Jo 4294967290 (Y9 b s) :=
 ZhB h (VK (by omega) (Q9 h)) (UaG ZdZ (by have:=h.outer.2;omega)) fun y hy=>by
  rcases Uaq.1 (setS_mem.1 hy) with hy | hy
  ·have:=QL h.outer hy;omega
  ·rw[UaI.1 hy];exact hs
theorem Zo4{sig:List TControl}{b:TBigraph}{s:ByteArray}(h:bigOK sig b)(hs:s.size<=4294967296):Jo 4294967296 (Y9 b s) :=
 ZEz h (UaG ZdZ (by have:=h.outer.2;omega)) fun y hy=>by
  rcases Uaq.1 (setS_mem.1 hy) with hy | hy
  ·have:=QL h.outer hy;omega
  ·rw[UaI.1 hy];exact hs
theorem ZhU{sig:List TControl}{b:TBigraph}{s:ByteArray}(h:bigOK sig b)(hf:JM b):JM (Y9 b s) :=
 Zn2 h hf (fun l hl=>ZFy h hl) (by have:=h.edges;rw[Ze];omega)
theorem ZFB{sig:List TControl}{b:TBigraph}{s:ByteArray}(h:bigOK sig b):Jp b (XN b b.outer (Qd b s)) b.edges (Qd b s)=Y9 b s:=by
 refine ZnR h fun l hl=>?_;have he:=h.edges;rw[Zbv h hl];unfold Qb;rcases Qq hl with ⟨h0,h1⟩ | ⟨i,hi,rfl⟩
 ·rw[XJ h0 h1,XN,if_neg (by omega)]
 ·rw[XK he.1 hi,XN,if_pos (by omega),show b.edges+(i:Int)-b.edges=i by omega,Int.toNat_natCast,show gS b.outer i=b.outer[i] from YB hi]
theorem ZFC(e:Int×ByteArray)(lvl:Nat)(S:Zb):Sem Ucb ZcW lvl [oE e] S (oE e) S:=by refine Zl ZCe (by simp [low,men,Zc]) ?_;simp only[Zmh,Za,seval]
noncomputable def Zd0(sig:List TControl)(b:TBigraph)(s:ByteArray):TBigraph:=@ite _ (YI sig b s) (Classical.propDecidable _) (Y9 b s) JN
theorem ZFD(sig:List TControl)(b:TBigraph)(s:ByteArray)(hn:sig.length<=4294967296)(hbs:∀ y∈sig,Z9 4294967296 y)(hb:Jo 4294967296 b)(hs:s.size<=4294967296)(hf:JM b)(lvl:Nat)(S:Zb):Sem Ucb Zgz lvl [.tr (.sl (sig.map Zx)),.ag ((Zh b).map .tr),iS s] S (.tu [ZA (Zd0 sig b s),iB (dc (YI sig b s))]) S:=by
 refine Zl ZBS (by simp [ZA,low,men,Zc]) ?_;simp only[ZlV,Zh,Za,seval,Zc,men];refine Zf (UZ sig b hn hbs hb) ?_;unfold Zd0;cases h1:dc (bigOK sig b)
 ·have hno:¬ YI sig b s:=fun g=>dc_not.1 h1 g.1;rw[if_neg hno,Zt hno];simp only[Za,seval];rfl
 have hG:=dc_iff.1 h1;have hE:=hG.edges;have h4:=hG.small.outer;simp only[Za,seval,Zc,men];refine Zf (Zbf s (by omega)) ?_;cases h3:dc (JR s)
 ·have hno:¬ YI sig b s:=fun g=>dc_not.1 h3 (ZFz g.2.2);rw[if_neg hno,Zt hno];simp only[Za,seval];rfl
 have hnm:=dc_iff.1 h3;simp only[Za,seval,Zc,men];refine Zf (Wx b.outer s (by have:=hb.2.2.2.1;omega)) ?_;cases h5:dc (s∈b.outer)
 ·have hM:=dc_not.1 h5;simp only[Za,seval,Zc,men];refine Zf (Zbp b.outer (by omega)) ?_;simp only[Uaa,Za,seval,Zc,men];have q:=ZdH b b.edges (b.outer++[s]) ZcW [] (fun x=>x) hE.1 (VK (by omega) (Q9 hG)) (by omega) (by omega) (by rw[Uac];simp only[List.length_cons,List.length_nil];omega) (fun x hx l hl=>by
   obtain⟨i,hi,rfl⟩:=Uar hx;exact(hG.nodes i hi).links l hl) hG.inner (fun l hl lvl S=>ZFC (Yn b l) lvl S)
  rw[show ZN (b.outer++[s])=Qd b s from rfl,show Jp b (J1 b b.edges (Qd b s) fun x=>x) b.edges (Qd b s)=Y9 b s from rfl] at q;rw[show cut (rS b.outer++[[Tr.v (Value.string s)]]) 0 (b.outer.length+1)=rS (b.outer++[s]) from by
   rw[Ym (by simp [rS])];simp [rS]]
  simp only[Zh,Uah,Uam] at q;refine⟨by omega,by simp [rS],Zf q ?_⟩;simp only[ZA,Za,seval,Zc,men];have qv:=ZdI sig (Y9 b s) hn hbs (ZFA hG (by have:=hnm.2.2;omega)) (ZhU hG hf);simp only[Zh,Uah,Uam] at qv;refine Zf qv ?_;cases h6:dc (bigOK sig (Y9 b s))
  ·have hno:¬ YI sig b s:=fun g=>dc_not.1 h6 g.2.2;rw[if_neg hno,Zt hno,if_neg (dc_not.1 h6)];simp only[ZA,Za,seval];rfl
  ·have hyes:YI sig b s:=⟨hG,hM,dc_iff.1 h6⟩;rw[if_pos hyes,ZU hyes,if_pos (dc_iff.1 h6)];simp only[ZA,Uaa,Za,seval]
 ·have hno:¬ YI sig b s:=fun g=>g.2.1 (dc_iff.1 h5);rw[if_neg hno,Zt hno];simp only[Za,seval];rfl
theorem ZFE(sig:List TControl)(b:TBigraph)(s:ByteArray)(hn:sig.length<=4294967296)(hbs:∀ y∈sig,Z9 4294967296 y)(hb:Jo 4294967296 b)(hs:s.size<=4294967296)(hf:JM b)(lvl:Nat)(S:Zb):Sem Ucb ZgC lvl [.tr (.sl (sig.map Zx)),.ag ((Zh b).map .tr),iS s] S (.tu [@ite IV (YI sig b s) (Classical.propDecidable _) (.ag ((Zh (Y9 b s)).map .tr)) (ZA JN),iB (dc (YI sig b s))]) S:=by
 refine Zl ZB0 (by split<;>simp [ZA,Zh,low,men,Zc]) ?_;simp only[Zl3,Zh,Za,seval,Zc,men];have q:=UY sig b hn hbs hb hf;simp only[Zh,Uah,Uam] at q;refine Zf q ?_;cases h1:dc (bigOK sig b)
 ·have hno:¬ YI sig b s:=fun g=>dc_not.1 h1 g.1;rw[if_neg hno,Zt hno];simp only[Za,seval];rfl
 have hG:=dc_iff.1 h1;have hE:=hG.edges;have h4:=hG.small.outer;simp only[Za,seval,Zc,men];refine Zf (Q7 b.outer s (by omega)) ?_;by_cases hM:s∈b.outer
 ·have hno:¬ YI sig b s:=fun g=>g.2.1 hM;rw[if_neg hno,Zt hno];have e:=ixS_nn.2 hM;simp only[e,Za,seval];rfl
 have e:=DV hM;have hol:=ZdZ (b:=b) (s:=s);simp only[e,QK,V8,UbX,Uaa,Za,seval,Zc,men];rw[show cut (rS b.outer++[[Tr.v (Value.string s)]]) 0 (b.outer.length+1)=rS (b.outer++[s]) from by
  rw[Ym (by simp [rS])];simp [rS]]
 refine⟨by omega,by omega,by simp [rS],Zf (ZdN (b.outer++[s]) (by rw[Uac];simp only[List.length_cons,List.length_nil];omega)) ?_⟩;rw[show ZN (b.outer++[s])=Qd b s from rfl];simp only[Za,seval,Zc,men];have qR:=ZEt sig b hG b.outer (Qd b s) rfl (by omega);rw[ZFB hG] at qR;simp only[Zh,Uah,Uam] at qR;refine Zf qR ?_;simp only[ZA,Za,seval,Zc,men];by_cases hq:bigOK sig (Y9 b s)
 ·have qG:=Zn0 sig (Y9 b s) hn hbs (Zo4 hG hs) (ZhU hG hf) hq;simp only[Zh,Uah,Uam] at qG;have hyes:YI sig b s:=⟨hG,hM,hq⟩;rw[if_pos hyes,ZU hyes];refine Zf qG ?_;simp only[Za,seval]
 ·have qG:=Zn1 sig (Y9 b s) hn hbs (Zo4 hG hs) (ZhU hG hf) hq;simp only[Zh,Uah,Uam] at qG;have hno:¬ YI sig b s:=fun g=>hq g.2.2;rw[if_neg hno,Zt hno];refine Zf qG ?_;simp only[ZA,Uaa,Za,seval];try rfl
theorem ZFF(s:ByteArray)(hs:s.size<=4294967296)(lvl:Nat)(S:Zb):Sem Ucb ZcS lvl [iS s] S (iB (!dc (JR s))) S:=by refine Zl ZBM trivial ?_;simp only[ZlP,Za,seval,Zc,men];refine Zf (Zbf s (by omega)) ?_;simp only[Za,seval]
theorem Zo5{fe:FuncId}(ns:List ByteArray)(hl:ns.length<=4294967296)(hf:∀ n∈ns,∀(lvl:Nat) (S:Zb),Sem Ucb fe lvl [iS n] S (iB (!dc (JR n))) S)(lvl:Nat)(S:Zb):Sem Ucb Za3 lvl [.tr (.sl (rS ns)),.fn fe []] S (iB (!dc (∀ n∈ns,JR n))) S:=by
 have q:=Zds (P:=Ucb) ZoE ZoD (t:=fun n:ByteArray=>ts n) (f:=fun s=>!dc (JR s)) (fe:=fe) (cs:=[]) ns (by omega) (fun x hx lvl S=>hf x hx lvl S);have e:(ns.any fun s=>!dc (JR s)) = !dc (∀ n∈ns,JR n):=by
  cases h:dc (∀ n∈ns,JR n)
  ·have h1:=dc_not.1 h;have:∃ n∈ns,¬ JR n:=Ubg fun g=>h1 fun x hx=>Ubg fun k=>g ⟨x,hx,k⟩;obtain⟨n,hn,hb⟩:=this;simp only[Bool.not_false,Ub4];exact⟨n,hn,by rw[Zt hb];rfl⟩
  ·have h1:=dc_iff.1 h;simp only[Ub3,Ub0];intro n hn;rw[ZU (h1 n hn)];decide
 rw[e] at q;exact q lvl S
def Vt(a b d:Bool)(c t:Int)(n:Nat):Bool:=(a || decide (c=0))&&(b || decide (t=0))&&(d || decide ((n:Int)=0))
set_option maxHeartbeats 2000000 in
theorem Zd1(k c t:Int)(ns:List ByteArray)(a b d:Bool)(lvl:Nat)(S:Zb):Sem Ucb UP lvl [.ag [iI k,iI c,iI t,.tr (.sl (rS ns))],iB a,iB b,iB d] S (iB (Vt a b d c t ns.length)) S:=by refine Zl ZBN trivial ?_;by_cases hc:c=0<;>by_cases ht:t=0<;>by_cases hn:(ns.length:Int)=0<;>cases a<;>cases b<;>cases d<;>(simp only[ZlQ,hc,ht,hn,Uaa,Za,seval])<;>simp [Vt,hc,ht,hn]<;>exact fun e=>hn (by simp [e])
def Uh(k:Int):Int:=if k=0\/k=1\/k=2 then 0 else if k=3\/k=6\/k=7 then 1 else if k=4\/k=5 then 2 else -1
theorem ZhV(k c t:Int)(ns:List ByteArray)(lvl:Nat)(S:Zb):Sem Ucb DH lvl [.ag [iI k,iI c,iI t,.tr (.sl (rS ns))]] S (iI (Uh k)) S:=by
 refine Zl ZBs trivial ?_;by_cases h0:k=0
 ·subst h0; (simp only[Xy,Za,seval])<;>rfl
 by_cases h1:k=1
 ·subst h1; (simp only[Xy,Za,seval])<;>rfl
 by_cases h2:k=2
 ·subst h2; (simp only[Xy,Za,seval])<;>rfl
 by_cases h3:k=3
 ·subst h3; (simp only[Xy,Za,seval])<;>rfl
 by_cases h4:k=4
 ·subst h4; (simp only[Xy,Za,seval])<;>rfl
 by_cases h5:k=5
 ·subst h5; (simp only[Xy,Za,seval])<;>rfl
 by_cases h6:k=6
 ·subst h6; (simp only[Xy,Za,seval])<;>rfl
 by_cases h7:k=7
 ·subst h7; (simp only[Xy,Za,seval])<;>rfl
 simp only[Xy,h0,h1,h2,h3,h4,h5,h6,h7,Za,seval];simp [Uh,h0,h1,h2,h3,h4,h5,h6,h7]
theorem Zo6{sig:List TControl}{s:TTermStep}(h:stepOK sig s):Uh s.kind_=ZE s.kind_:=by
 have hk:=h.kind;unfold Uh ZE;by_cases h0:s.kind_=0
 ·simp [h0]
 by_cases h1:s.kind_=1
 ·simp [h1]
 by_cases h2:s.kind_=2
 ·simp [h2]
 by_cases h3:s.kind_=3
 ·simp [h3]
 by_cases h4:s.kind_=4
 ·simp [h4]
 by_cases h5:s.kind_=5
 ·simp [h5]
 by_cases h6:s.kind_=6
 ·simp [h6]
 have h7:s.kind_=7:=by omega
 simp [h7]
theorem ZFG(sig:List TControl)(s:TTermStep)(hn:sig.length<=4294967296)(hb:Jm 4294967296 s)(lvl:Nat)(S:Zb):Sem Ucb Zgp lvl [.tr (.sl (sig.map Zx)),.ag ((Zg s).map .tr)] S (iB (dc (stepOK sig s))) S:=by
 obtain⟨k,c,t,ns⟩:=s;obtain⟨b1,b2⟩:=hb;simp only at b1 b2;have q:=Zo5 (fe:=ZcS) ns b1 fun n hn lvl S=>ZFF n (b2 n hn) lvl S;refine Zl ZBB trivial ?_;simp only[ZlG,Zg,Za,seval,Zc,men];refine Zf q ?_;cases hA:dc (∀ n∈ns,JR n)
 ·rw[Zt fun g:stepOK sig ⟨k,c,t,ns⟩=>dc_not.1 hA g.nms];simp only[Za,seval]
 have hnm:=dc_iff.1 hA;by_cases h2:k=2
 ·subst h2;simp only[Za,seval,Zc,men];refine Zf (Zd1 2 c t ns false true false) ?_;cases hP:Vt false true false c t ns.length
  ·have hno:¬ stepOK sig ⟨2,c,t,ns⟩:=fun g=>by have e1:c=0:=g.ctl0 (by simp);have e2:ns.length=0:=g.non (by simp) (by simp) (by simp);rw[show Vt false true false c t ns.length=true by simp [Vt,e1,e2]] at hP;cases hP
   rw[Zt hno];simp only[Za,seval]
  ·simp only[Vt,Uae,UaO,decide_eq_true_eq,Ua0,false_or,true_or,and_true] at hP;simp only[Za,seval,Zc,men];refine Zf (QJ t 0 3) ?_;cases hW:JW t 0 3
   ·rw[Zt fun g:stepOK sig ⟨2,c,t,ns⟩=>inB_not.1 hW (g.site rfl)];simp only[Za,seval]
   ·have hyes:stepOK sig ⟨2,c,t,ns⟩:=⟨by simp,fun _=>hP.1,fun g=>absurd rfl g,hnm,fun _=>inB_iff.1 hW,fun g=>by simp at g,fun g=>by simp at g,fun g=>by simp at g,fun _ _ _=>by have:=hP.2;simp only;omega⟩;rw[ZU hyes];simp only[Za,seval]
 by_cases h3:k=3
 ·subst h3;simp only[Za,seval,Zc,men];refine Zf (Zd1 3 c t ns true false true) ?_;cases hP:Vt true false true c t ns.length
  ·have hno:¬ stepOK sig ⟨3,c,t,ns⟩:=fun g=>by have e1:t=0:=g.site0 (by simp);rw[show Vt true false true c t ns.length=true by simp [Vt,e1]] at hP;cases hP
   rw[Zt hno];simp only[Za,seval]
  ·simp only[Vt,Uae,UaO,decide_eq_true_eq,Ua0,false_or,true_or,and_true,true_and] at hP;simp only[Uaa,Za,seval,Zc,men];refine⟨by rw[Ze];omega,Zf (QJ c 0 ((sig.length:Int)-1)) ?_⟩;cases hW:JW c 0 ((sig.length:Int)-1)
   ·rw[Zt fun g:stepOK sig ⟨3,c,t,ns⟩=>inB_not.1 hW (g.ctl rfl)];simp only[Za,seval]
   ·have hw:=inB_iff.1 hW;obtain⟨m,hm⟩:∃ m:Nat,c=m:=⟨c.toNat,by omega⟩;have hms:m<sig.length:=(by omega);have gs:=Jb (c:=Zx) hms;have e:YX sig c=sig[m].ports:=(by simp [YX,hm,hms]);simp only[hm,gs,Zx,Uaa,Za,seval];by_cases hp:(ns.length:Int)=sig[m].ports
    ·have hyes:stepOK sig ⟨3,c,t,ns⟩:=⟨by simp,fun g=>absurd rfl g,fun _=>hP,hnm,fun g=>by simp at g,fun _=>hw,fun _=>by rw[e];exact hp,fun g=>by simp at g,fun g=>absurd rfl g⟩;rw[<-hm,ZU hyes];simp [hp]
    ·have hno:¬ stepOK sig ⟨3,c,t,ns⟩:=fun g=>hp (by rw[<-e];exact g.ports rfl);rw[<-hm,Zt hno];simp [hp]
 by_cases h67:k=6\/k=7
 ·have key:Sem Ucb UP lvl [] S (iB true) S->True:=fun _=>trivial;have hl:Vt false false true c t ns.length=true↔c=0/\t=0:=by simp [Vt]
  rcases h67 with rfl | rfl
  all_goals
   simp only[Za,seval,Zc,men];refine Zf (Zd1 _ c t ns false false true) ?_;cases hP:Vt false false true c t ns.length
   ·rw[Zt fun g:stepOK sig ⟨_,c,t,ns⟩=>by
     rw[hl.2 ⟨g.ctl0 (by simp),g.site0 (by simp)⟩] at hP;cases hP]
    simp only[Za,seval]
   ·have hP:=hl.1 hP;simp only[Uaa,Za,seval];by_cases hp:(ns.length:Int)=1
    ·rw[ZU (show stepOK sig ⟨_,c,t,ns⟩ from ⟨by simp,fun _=>hP.1,fun _=>hP.2,hnm,fun g=>by simp at g,fun g=>by simp at g,fun g=>by simp at g,fun _=>by simp only;omega,fun g1 g2 g3=>by simp at g2 g3⟩)];simp [hp]
    ·rw[Zt fun g:stepOK sig ⟨_,c,t,ns⟩=>hp (by have:=g.one (by simp);simp only at this;omega)];simp [hp]
 have h6:¬ k=6:=fun e=>h67 (.inl e);have h7:¬ k=7:=fun e=>h67 (.inr e);simp only[h2,h3,h6,h7,Za,seval,Zc,men];refine Zf (ZhV k c t ns) ?_;have hl:Vt false false false c t ns.length=true↔c=0/\t=0/\ns.length=0:=by
  simp [Vt];constructor
  ·rintro⟨⟨a,b⟩,d⟩;exact⟨a,b,by omega⟩
  ·rintro⟨a,b,d⟩;exact⟨⟨a,b⟩,by omega⟩
 by_cases hk:k=0\/k=1\/k=4\/k=5
 ·have hnd:(0:Int)<=Uh k:=by rcases hk with rfl | rfl | rfl | rfl<;>decide
  simp only[hnd,Za,seval,Zc,men];refine Zf (Zd1 k c t ns false false false) ?_;cases hP:Vt false false false c t ns.length
  ·rw[Zt fun g:stepOK sig ⟨k,c,t,ns⟩=>by
    rw[hl.2 ⟨g.ctl0 h3,g.site0 h2,g.non h3 h6 h7⟩] at hP;cases hP]
   simp only[Za,seval]
  ·have hP:=hl.1 hP;rw[ZU (show stepOK sig ⟨k,c,t,ns⟩ from ⟨by simp only;omega,fun _=>hP.1,fun _=>hP.2.1,hnm,fun g=>absurd g h2,fun g=>absurd g h3,fun g=>absurd g h3,fun g=>g.elim (fun e=>absurd e h6) (fun e=>absurd e h7),fun _ _ _=>hP.2.2⟩)];simp only[Za,seval]
 ·have hnd:¬ (0:Int)<=Uh k:=by unfold Uh;rw[if_neg (by omega),if_neg (by omega),if_neg (by omega)];decide
  rw[Zt fun g:stepOK sig ⟨k,c,t,ns⟩=>by have:=g.kind;simp only at this;omega];simp only[hnd,Za,seval]
theorem ZFH(l:List ByteArray)(hl:l.length<=4294967296)(hb:∀ y∈l,y.size<=4294967296)(lvl:Nat)(S:Zb):Sem Ucb ZcP lvl [.tr (.sl (rS l))] S (iB (dc (∀ n∈l,JR n))) S:=by
 refine Zl ZBG trivial ?_;simp only[ZlK,Za,seval];refine ZP (α:=Unit) l.length (fun j _=>[(3,iI j)]) (fun _ _=>[]) (fun j _=>∀ n∈l.take j,JR n) () (by simp only[Za,seval]) (by (simp only[Za,seval])<;>rfl) (by simp) ?_;intro j _ hj hA;simp only[Uaa,Za,seval];refine Zv (fun hlt=>?_) (fun hge=>?_)
 ·have hja:j<l.length:=by omega
  have ga:=JS (e0:=Ja) (c:=fun n:ByteArray=>[ts n]) hja;rw[YB hja] at ga;simp only[ga,Za,seval,Zc,men];refine Zf (Zhf l[j] (by have:=hb _ (Uaj hja);omega)) ?_;cases hm:dc (JR l[j])
  ·rw[Zt fun g:∀ n∈l,JR n=>dc_not.1 hm (g _ (Uaj hja))];simp only[Za,seval]
  ·have hm:=dc_iff.1 hm;simp only[Za,seval];exact⟨by rw[Ze];omega,Zz () hja rfl (by
    intro x hx;rw[Uag hja] at hx;rcases Uaq.1 hx with hx | hx
    ·exact hA x hx
    ·rw[UaI.1 hx];exact hm)⟩
 ·have:j=l.length:=by omega
  subst this;rw[Uap] at hA;rw[ZU hA]
theorem Zd2(k:Int)(lvl:Nat)(S:Zb):Sem Ucb UL lvl [iI k] S (iI (ZE k:Nat)) S:=by
 refine Zl ZBh trivial ?_;by_cases h4:k=4
 ·subst h4; (simp only[UV,Za,seval])<;>rfl
 by_cases h5:k=5
 ·subst h5; (simp only[UV,Za,seval])<;>rfl
 by_cases h3:k=3
 ·subst h3; (simp only[UV,Za,seval])<;>rfl
 by_cases h6:k=6
 ·subst h6; (simp only[UV,Za,seval])<;>rfl
 by_cases h7:k=7
 ·subst h7; (simp only[UV,Za,seval])<;>rfl
 simp only[UV,h3,h4,h5,h6,h7,Za,seval];simp [ZE,h3,h4,h5,h6,h7]
theorem Zac{n:Int}(h:-4294967296<=n/\n<=4294967296):ZZ .i64 n:=by rw[Ze];omega
theorem Vi{sig:List TControl}{b:TBigraph}(h:bigOK sig b):JM b:=by
 have hr:=h.roots;have he:=h.edges;have hn:=h.nodesL;have ho:=h.outer.2;have hs:=h.sg.2.2;have hl:∀ l,Z6 b l->ZZ .i64 l:=fun l hl=>by unfold Z6 at hl;exact Zac (by omega)
 refine⟨Zac (by omega),fun x hx=>?_,fun p hp=>?_,Zac (by omega),fun w hw=>hl _ (h.inner w hw)⟩
 ·obtain⟨i,hi,rfl⟩:=Uar hx;have q:=h.nodes i hi;have q1:=q.ctl;have q2:=Yo hr.1 q.par;have q3:=(XO h hx).1;exact⟨Zac (by omega),Zac (by omega),fun l hl2=>hl l (q.links l hl2)⟩
 ·have q2:=Yo hr.1 (h.sites p hp);have q3:=XP h hp;exact Zac (by omega)
theorem Qu{sig:List TControl}{b:TBigraph}(h:bigOK sig b):Jo 4294967296 b:=VK (by omega) (Q9 h)
theorem ZFI(s:ByteArray)(hs:s.size<=4294967296)(lvl:Nat)(S:Zb):Sem Ucb Zdg lvl [iS s] S (iB (!dc (JR s))) S:=by refine Zl ZCS trivial ?_;simp only[ZmW,Za,↓reduceIte,Nat.reduceEqDiff,reduceCtorEq,Nat.reduceLeDiff,Nat.reduceLT,Zc,men];refine Zf (Zbf s (by omega)) ?_;simp only[Za,↓reduceIte,Nat.reduceEqDiff,Nat.reduceMul,reduceCtorEq,Nat.reduceLT]
theorem Zo7(sig:List TControl)(s:TTermStep)(hn:sig.length<=4294967296)(hbs:∀ y∈sig,Z9 4294967296 y)(hb:Jm 4294967296 s)(hs:Jj sig)(h:stepOK sig s)(h3:s.kind_=3)(lvl:Nat)(S:Zb):Sem Ucb Zc2 lvl [.tr (.sl (sig.map Zx)),iI s.control,.tr (.sl (rS s.names))] S (.tu [ZA (Qc s),iB true]) S:=by
 obtain⟨k,c,t,ns⟩:=s;obtain⟨b1,b2⟩:=hb;simp only at b1 b2 h3;have hw:=h.ctl h3;have hp:=h.ports h3;have hnm:=h.nms;simp only at hw hp hnm;have hpl:=ZhR hs (c:=c);obtain⟨m,hm⟩:∃ m:Nat,c=m:=⟨c.toNat,by omega⟩;have hms:m<sig.length:=by omega
 have gs:=Jb (c:=Zx) hms;have e:YX sig c=sig[m].ports:=by simp [YX,hm,hms]
 have hpp:(ns.length:Int)=sig[m].ports:=by rw[<-e];exact hp
 have q:=Zo5 (fe:=Zdg) ns b1 fun n hn lvl S=>ZFI n (b2 n hn) lvl S;rw[ZU hnm] at q;refine Zl ZCx (by simp [ZA,low,men,Zc]) ?_;simp only[ZmB,Za,↓reduceIte,Nat.reduceEqDiff,Nat.reduceMul,reduceCtorEq,Nat.reduceAdd,Nat.reduceLeDiff,Nat.reduceLT,Zc,men];refine Zf (Zhg sig (by omega) fun y hy=>UaG (hbs y hy) (by omega)) ?_;rw[ZU hs];simp only[Uaa,Za,↓reduceIte,Nat.reduceEqDiff,Nat.reduceMul,reduceCtorEq,Nat.reduceLT,Zc,men];refine⟨by rw[Ze];omega,Zf (QJ c 0 ((sig.length:Int)-1)) ?_⟩;rw[inB_iff.2 hw];simp only[hm,gs,hpp,Zx,Uaa,Za,↓reduceIte,Nat.reduceEqDiff,Nat.reduceMul,reduceCtorEq,Nat.reduceAdd,Nat.reduceLT,Zc,men];refine Zf q ?_;simp only[Za,↓reduceIte,Nat.reduceEqDiff,Nat.reduceMul,reduceCtorEq,Nat.reduceLT,Zc,men];refine Zf (ZnS ns (by omega)) ?_;simp only[Uaa,Za,↓reduceIte,Nat.reduceEqDiff,Nat.reduceMul,reduceCtorEq,Nat.reduceAdd,Nat.reduceLeDiff,Nat.reduceLT];obtain⟨o,ho⟩:∃ o,o=ZN ns:=⟨_,rfl⟩;rw[<-ho];obtain⟨L,hL⟩:∃ L,L=ns.map fun n=>Jh o n:=⟨_,rfl⟩;have lL:L.length=ns.length:=by rw[hL,Uaa]
 have hol:o.length<=ns.length:=by rw[ho];exact D7
 refine ZP (α:=Unit) ns.length (fun j _=>[(45,iI j)]) (fun j _=>[(288,.bx [iI m,iI (-1),.hd (lvl,1344) [] 0 j none j]),(1344,.ar 1 (rI (L.take j)) true j 0)]) (fun _ _=>True) () (by simp only[Za,↓reduceIte,Nat.reduceEqDiff,reduceCtorEq]) (by (simp only[Za,↓reduceIte,Nat.reduceEqDiff,reduceCtorEq,Nat.reduceLT])<;>rfl) trivial ?_;intro j _ hj _;simp only[Uaa,Za,↓reduceIte,Nat.reduceEqDiff,Nat.reduceMul,reduceCtorEq,Nat.reduceAdd,Nat.reduceLeDiff,Nat.reduceLT];refine Zv (fun hlt=>?_) (fun hge=>?_)
 ·have hja:j<ns.length:=by omega
  have ga:=JS (e0:=Ja) (c:=fun n:ByteArray=>[ts n]) hja;rw[YB hja] at ga;have hl2:(L.take j).length=j:=by rw[Uai];omega
  have hco:cut (rS o) 0 o.length=rS o:=Ym (by rw[Uaa]);have hsu:rI (L.take j)++[[tv (Jh o ns[j])]]=rI (L.take (j+1)):=by rw[Uag (by omega),J4];simp [hL]
  simp only[ga,hco,Uaa,Za,↓reduceIte,Nat.reduceEqDiff,Nat.reduceLT,Zc,men];refine Zf (ZnU o ns[j] (by omega)) ?_;simp only[hl2,hsu,Uaa,Za,↓reduceIte,Nat.reduceEqDiff,Nat.reduceMul,Nat.reduceAdd,Nat.reduceLeDiff,Nat.reduceLT];exact⟨by omega,by rw[Ze];omega,Zz () hja rfl trivial⟩
 ·have:j=ns.length:=by omega
  subst this;rw[<-lL,Uap];simp only[Za];simp only[ZA,Qc,<-ho,<-hL];try rfl
theorem ZFJ(sig:List TControl)(s:TTermStep)(hn:sig.length<=4294967296)(hbs:∀ y∈sig,Z9 4294967296 y)(hb:Jm 4294967296 s)(hs:Jj sig)(h:stepOK sig s)(h3:s.kind_=3)(hk:¬ YF sig s.control=2)(lvl:Nat)(S:Zb):Sem Ucb ZgF lvl [.tr (.sl (sig.map Zx)),iI s.control,.tr (.sl (rS s.names))] S (.tu [ZA (Yk s),iB true]) S:=by
 have hw:=h.ctl h3;obtain⟨m,hm⟩:∃ m:Nat,s.control=m:=⟨s.control.toNat,by omega⟩;have hms:m<sig.length:=by omega
 have gs:=Jb (c:=Zx) hms;have e:YF sig s.control=sig[m].kind_:=by simp [YF,hm,hms]
 rw[e] at hk;have q:=Zo7 sig s hn hbs hb hs h h3;refine Zl ZB3 (by simp [ZA,low,men,Zc]) ?_;simp only[Zl6,Za,↓reduceIte,Nat.reduceEqDiff,Nat.reduceMul,reduceCtorEq,Nat.reduceAdd,Nat.reduceLeDiff,Nat.reduceLT,Zc,men];refine Zf q ?_;simp only[ZA,Qc,hm,gs,hk,Zx,Uaa,Za,↓reduceIte,Nat.reduceEqDiff,Nat.reduceMul,reduceCtorEq,Nat.reduceAdd,Nat.reduceLeDiff,Nat.reduceLT];simp only[Yk,hm];try rfl
theorem ZFK(sig:List TControl)(s:TTermStep)(hn:sig.length<=4294967296)(hbs:∀ y∈sig,Z9 4294967296 y)(hb:Jm 4294967296 s)(hs:Jj sig)(h:stepOK sig s)(h3:s.kind_=3)(lvl:Nat)(S:Zb):Sem Ucb ZgH lvl [.tr (.sl (sig.map Zx)),iI s.control,.tr (.sl (rS s.names))] S (.tu [ZA (Qc s),iB true]) S:=by have q:=Zo7 sig s hn hbs hb hs h h3;refine Zl ZB5 (by simp [ZA,low,men,Zc]) ?_;simp only[Zl8,Za,↓reduceIte,Nat.reduceEqDiff,Nat.reduceMul,reduceCtorEq,Nat.reduceAdd,Nat.reduceLeDiff,Nat.reduceLT,Zc,men];refine Zf q ?_;simp only[ZA,Uaa,Za,↓reduceIte,Nat.reduceEqDiff,Nat.reduceMul,reduceCtorEq,Nat.reduceAdd,Nat.reduceLT]
noncomputable def Zd3(sig:List TControl)(s:TTermStep)(x:TBigraph):TBigraph:=@ite _ (Y8 sig s x) (Classical.propDecidable _) (YK (Yk s) x) JN
theorem ZFL(sig:List TControl)(s:TTermStep)(x:TBigraph)(hn:sig.length<=4294967296)(hbs:∀ y∈sig,Z9 4294967296 y)(hb:Jm 4294967296 s)(h:stepOK sig s)(h3:s.kind_=3)(hx:bigOK sig x)(hi:x.inner=[])(lvl:Nat)(S:Zb):Sem Ucb Zgx lvl [.tr (.sl (sig.map Zx)),.ag ((Zg s).map .tr),.ag ((Zh x).map .tr)] S (.tu [ZA (Zd3 sig s x),iB (dc (Y8 sig s x))]) S:=by
 have hs:=hx.sg;have hw:=h.ctl h3;obtain⟨m,hm⟩:∃ m:Nat,s.control=m:=⟨s.control.toNat,by omega⟩;have hms:m<sig.length:=by omega
 have gs:=Jb (c:=Zx) hms;have e:YF sig s.control=sig[m].kind_:=by simp [YF,hm,hms]
 have x1:=hx.small.nodes;have x2:=hx.small.sites;refine Zl ZBO (by simp [ZA,low,men,Zc]) ?_;simp only[ZlR,Zg,Zh,Za,↓reduceIte,Nat.reduceEqDiff,Nat.reduceMul,reduceCtorEq,Nat.reduceAdd,Nat.reduceLeDiff,Nat.reduceLT];unfold Zd3;by_cases hr:x.roots=1
 ·by_cases hk:sig[m].kind_=2
  ·by_cases hz:(x.nodes.length:Int)+x.sites.length=0
   ·have z1:x.nodes=[]:=Ua1.1 (by omega);have z2:x.sites=[]:=Ua1.1 (by omega);have hA:=ZFq hs h h3;have e1:=ZFu (s:=s) hr z1 z2 hi;have e2:=ZoL (ZhN hA hx) (sig:=sig);have hpr:(J5 (Qc s) x).roots<=4:=(by show (1:Int)+x.roots<=4;omega);have hpa:Yx sig (Qc s) x↔Y8 sig s x:=by
     constructor
     ·rintro⟨_,_,_,g⟩
      exact⟨hr,fun _=>⟨z1,z2⟩,by rw[<-e1];exact(e2.2 g).1⟩
     ·rintro⟨_,_,g⟩
      rw[<-e1] at g;exact⟨hA,hx,fun n hn=>by simp [inn,Qc] at hn,e2.1 ⟨g,hpr⟩⟩
    have qa:=ZFK sig s hn hbs hb hs h h3;simp only[hm] at qa;simp only[hr,hk,hm,gs,z1,z2,Zx,Za,↓reduceIte,Nat.reduceEqDiff,Nat.reduceMul,reduceCtorEq,Nat.reduceAdd,Nat.reduceLT,Zc,men];refine⟨by rw[Ze];omega,?_⟩;rw[if_neg (by decide)];refine Zf qa ?_;simp only[ZA,Uaa,Za,↓reduceIte,Nat.reduceEqDiff,Nat.reduceMul,reduceCtorEq,Nat.reduceAdd,Nat.reduceLT,Zc,men];have qm:=ZoV sig (Qc s) x hn hbs (Qu hA) (Qu hx) (Vi hA) (Vi hx);unfold Zbz ZbA at qm;rw[V6 hpa] at qm;simp only[Zh,hr,z1,z2,Uah,Uam] at qm;simp only[VO];refine Zf qm ?_;by_cases g:Y8 sig s x
    ·rw[if_pos g,if_pos (hpa.2 g),e1];simp only[ZA,Uaa,Za,↓reduceIte,Nat.reduceEqDiff,Nat.reduceMul,reduceCtorEq,Nat.reduceAdd,Nat.reduceLT]
    ·rw[if_neg g,if_neg (fun k=>g (hpa.1 k))];simp only[ZA,Uaa,Za,↓reduceIte,Nat.reduceEqDiff,Nat.reduceMul,reduceCtorEq,Nat.reduceAdd,Nat.reduceLT];try rfl
   ·have hno:¬ Y8 sig s x:=fun g=>by obtain⟨z1,z2⟩:=g.2.1 (e.trans hk);rw[z1,z2] at hz;simp at hz
    have hz2:(0:Int)<(x.nodes.length:Int)+x.sites.length:=(by omega);rw[if_neg hno,Zt hno];simp only[hr,hk,hm,gs,hz2,Zx,Uaa,Za,↓reduceIte,Nat.reduceEqDiff,Nat.reduceMul,reduceCtorEq,Nat.reduceAdd,Nat.reduceLT];refine⟨by rw[Ze];omega,?_⟩;rfl
  ·have hk2:¬ YF sig s.control=2:=(by rw[e];exact hk);have hT:=ZhS hs h h3 hk2;have hne:WA sig (Yk s) x↔Y8 sig s x:=by
    constructor
    ·rintro⟨_,g⟩
     exact⟨hr,fun k=>absurd k hk2,g⟩
    ·rintro⟨_,_,g⟩
     exact⟨⟨hT,hx,rfl,by rw[hr];rfl⟩,g⟩
   have qa:=ZFJ sig s hn hbs hb hs h h3 hk2;simp only[hm] at qa;simp only[hr,hk,hm,gs,Zx,Za,↓reduceIte,Nat.reduceEqDiff,reduceCtorEq,Nat.reduceAdd,Nat.reduceLT,Zc,men];refine Zf qa ?_;simp only[ZA,Uaa,Za,↓reduceIte,Nat.reduceEqDiff,Nat.reduceMul,reduceCtorEq,Nat.reduceAdd,Nat.reduceLT,Zc,men];have qm:=ZEO sig (Yk s) x hn hbs (Qu hT) (Qu hx) (Vi hT) (Vi hx);unfold ZhI ZhJ at qm;rw[V6 hne] at qm;simp only[Zh,hr,Uah,Uam] at qm;simp only[VO];refine Zf qm ?_;by_cases g:Y8 sig s x
   ·rw[if_pos g,if_pos (hne.2 g)];simp only[ZA,Uaa,Za,↓reduceIte,Nat.reduceEqDiff,Nat.reduceMul,reduceCtorEq,Nat.reduceAdd,Nat.reduceLT]
   ·rw[if_neg g,if_neg (fun k=>g (hne.1 k))];simp only[ZA,Uaa,Za,↓reduceIte,Nat.reduceEqDiff,Nat.reduceMul,reduceCtorEq,Nat.reduceAdd,Nat.reduceLT];try rfl
 ·have hno:¬ Y8 sig s x:=fun g=>hr g.1;rw[if_neg hno,Zt hno];simp only[hr,Za,↓reduceIte];rfl
def Zy(x:ZR):List Tr:=Zh x.1++[Tr.sl (rI x.2)]
theorem ZFM(s:TTermStep)(lvl:Nat)(S:Zb):Sem Ucb ZgA lvl [.ag ((Zg s).map .tr)] S (.ag ((Zy (if s.kind_=1 then (XQ,[]) else if s.kind_=2 then (XR,[s.site]) else (JN,[]))).map .tr)) S:=by
 obtain⟨k,c,t,ns⟩:=s;refine Zl ZBT (by simp [low,men,Zc,Zy,Zh]) ?_;by_cases h1:k=1
 ·subst h1;simp only[Zdo,Zg,Za,seval];rfl
 ·by_cases h2:k=2
  ·subst h2;simp only[Zdo,Zg,Za,seval];rfl
  ·rw[if_neg h1,if_neg h2];simp only[Zdo,Zg,h1,h2,Za,seval];rfl
noncomputable def U1(sig:List TControl)(s:TTermStep)(xs:List ZR):TBigraph:=((JI sig s xs).map Prod.fst).getD JN
def Ji(xs:List ZR):List Int:=(xs.map Prod.snd).flatten
theorem ZFN{sig:List TControl}{s:TTermStep}{xs:List ZR}(h2:¬ s.kind_=2){y:ZR}(h:JI sig s xs=some y)(hl:xs.length=ZE s.kind_):y.2=Ji xs:=by
 unfold JI at h;split at h
 ·rename_i h0;rw[h0] at hl;have:xs=[]:=Ua1.1 hl;subst this;cases h;rfl
 split at h
 ·rename_i h0;rw[h0] at hl;have:xs=[]:=Ua1.1 hl;subst this;cases h;rfl
 split at h
 ·split at h
  ·split at h
   ·cases h;simp [Ji]
   ·cases h
  split at h
  ·split at h
   ·cases h;simp [Ji]
   ·cases h
  ·split at h
   ·cases h;simp [Ji]
   ·cases h
 ·split at h
  ·cases h;simp [Ji]
  ·cases h
 ·cases h
theorem Zad{xs:List ZR}{j:Nat}(h:j<xs.length):Ji (xs.take (j+1))=Ji (xs.take j)++(xs[j]).2:=by unfold Ji;rw[Uag h,Uaw,List.flatten_append];simp
theorem Zae{sig:List TControl}{xs:List ZR}(hx:∀ x∈xs,partOK sig x):∀{j:Nat},j<=xs.length->(Ji (xs.take j)).length<=4*j
 | 0,_=>by simp [Ji]
 | j+1,hj=>by have hp:=hx _ (Uaj (show j<xs.length by omega));have h1:=hp.len;have h2:=hp.big.sitesL;rw[Zad (by omega),Uac];have:=Zae hx (j:=j) (by omega);omega
theorem Zo8{xs:List ZR}(h:xs.length=2):∃ x y,xs=[x,y] :=
 match xs,h with
 | [x,y],_=>⟨x,y,rfl⟩
theorem ZbC{xs:List ZR}(h:xs.length=1):∃ x,xs=[x] :=
 match xs,h with
 | [x],_=>⟨x,rfl⟩
theorem ZhW{xs:List ByteArray}(h:xs.length=1):∃ x,xs=[x] :=
 match xs,h with
 | [x],_=>⟨x,rfl⟩
noncomputable def Zaf(sig:List TControl)(s:TTermStep)(xs:List ZR):ZR:=(JI sig s xs).getD (JN,Ji xs)
theorem gS0{n:ByteArray}{l:List ByteArray}(h:l=[n]):gS l 0=n:=by subst h;rfl
theorem Zo9{sig:List TControl}{s:TTermStep}{xs:List ZR}(h:s.kind_=0\/s.kind_=1\/s.kind_=2):JI sig s xs=some (if s.kind_=1 then (XQ,[]) else if s.kind_=2 then (XR,[s.site]) else (JN,[])):=by unfold JI;rcases h with h | h | h<;>simp [h]
open Classical in
theorem XU{sig:List TControl}{s:TTermStep}{x:ZR}(h:s.kind_=3\/s.kind_=6\/s.kind_=7):JI sig s [x]=if s.kind_=3 then (if Y8 sig s x.1 then some (YK (Yk s) x.1,x.2) else none) else if s.kind_=6 then (if VJ sig x.1 (gS s.names 0) then some (YY x.1 (gS s.names 0),x.2) else none) else (if YI sig x.1 (gS s.names 0) then some (Y9 x.1 (gS s.names 0),x.2) else none):=by unfold JI;rw[if_neg (by omega),if_neg (by omega),if_neg (by omega)]
open Classical in
theorem Zag{sig:List TControl}{s:TTermStep}{x y:ZR}(h:s.kind_=4\/s.kind_=5):JI sig s [x,y]=if Yx sig x.1 y.1 then some (if s.kind_=4 then D9 x.1 y.1 else J5 x.1 y.1,x.2++y.2) else none:=by unfold JI;rw[if_neg (by omega),if_neg (by omega),if_neg (by omega)]
theorem ZFO(sig:List TControl)(s:TTermStep)(xs:List ZR)(hn:sig.length<=4294967296)(hbs:∀ y∈sig,Z9 4294967296 y)(hb:Jm 4294967296 s)(h:stepOK sig s)(hl:xs.length=ZE s.kind_)(hx:∀ x∈xs,partOK sig x)(lvl:Nat)(S:Zb):Sem Ucb Zgq lvl [.tr (.sl (sig.map Zx)),.ag ((Zg s).map .tr),.tr (.sl (xs.map Zy))] S (.tu [.ag ((Zy (Zaf sig s xs)).map .tr),iB (JI sig s xs).isSome]) S:=by
 obtain⟨k,c,t,ns⟩:=s;have hkind:=h.kind;simp only at hkind hl;refine Zl ZBC (by simp [low,men,Zc,Zy,Zh]) ?_;by_cases h012:k=0\/k=1\/k=2
 ·have q:=ZFM ⟨k,c,t,ns⟩;have e:=Zo9 (sig:=sig) (s:=⟨k,c,t,ns⟩) (xs:=xs) h012;have h3:¬ k=3:=by omega
  have h4:¬ k=4:=by omega
  have h5:¬ k=5:=by omega
  have h6:¬ k=6:=by omega
  have h7:¬ k=7:=by omega
  unfold Zaf;rw[e];simp only[UW,Zg,h3,h4,h5,h6,h7,Za,seval,Zc,men];refine Zf q ?_;obtain⟨Q,hQ⟩:∃ Q:ZR,Q=(if k=1 then (XQ,[]) else if k=2 then (XR,[t]) else (JN,[])):=⟨_,rfl⟩;simp only[<-hQ,Zy,Zh];simp only[Za,seval];try rfl
 ·
  have hso:=fun y=>ZFN (sig:=sig) (s:=⟨k,c,t,ns⟩) (xs:=xs) (y:=y) (by simp only;omega);obtain⟨V,hV⟩:∃ V,V=U1 sig ⟨k,c,t,ns⟩ xs:=⟨_,rfl⟩;obtain⟨ok,hok⟩:∃ ok,ok=(JI sig ⟨k,c,t,ns⟩ xs).isSome:=⟨_,rfl⟩;have hP:Zaf sig ⟨k,c,t,ns⟩ xs=(V,Ji xs):=by
   rw[hV];unfold Zaf U1;cases hm:JI sig ⟨k,c,t,ns⟩ xs with
   | none=>rfl
   | some y =>
    have:=hso y hm hl;simp only[Option.map_some,Option.getD_some];rw[<-this]
  rw[hP,<-hok];have hcase:(k=3/\∃ x,xs=[x])\/(k=4/\∃ x y,xs=[x,y])\/(k=5/\∃ x y,xs=[x,y])\/(k=6/\∃ x,xs=[x])\/(k=7/\∃ x,xs=[x]):=by
   have:k=3\/k=4\/k=5\/k=6\/k=7:=(by omega);rcases this with rfl | rfl | rfl | rfl | rfl
   ·exact .inl ⟨rfl,ZbC hl⟩
   ·exact .inr (.inl ⟨rfl,Zo8 hl⟩)
   ·exact .inr (.inr (.inl ⟨rfl,Zo8 hl⟩))
   ·exact .inr (.inr (.inr (.inl ⟨rfl,ZbC hl⟩)))
   ·exact .inr (.inr (.inr (.inr ⟨rfl,ZbC hl⟩)))
  have hlen:xs.length<=2:=by
   rw[hl];unfold ZE;split
   ·omega
   ·split<;>omega
  rcases hcase with ⟨rfl,x,hxs⟩ | ⟨rfl,x,y,hxs⟩ | ⟨rfl,x,y,hxs⟩ | ⟨rfl,x,hxs⟩ | ⟨rfl,x,hxs⟩
  ·have hpx:=hx x (by rw[hxs];simp);have g0:(xs.map Zy)[0]? = some (Zy x):=(by rw[hxs];rfl);have q:=ZFL sig ⟨3,c,t,ns⟩ x.1 hn hbs hb h rfl hpx.big hpx.inn;have e1:Zd3 sig ⟨3,c,t,ns⟩ x.1=V:=by
    rw[hV,U1,hxs,XU (.inl rfl),if_pos rfl];unfold Zd3;by_cases g:Y8 sig ⟨3,c,t,ns⟩ x.1
    ·rw[if_pos g,if_pos g];rfl
    ·rw[if_neg g,if_neg g];rfl
   have e2:dc (Y8 sig ⟨3,c,t,ns⟩ x.1)=ok:=by
    rw[hok,hxs,XU (.inl rfl),if_pos rfl];by_cases g:Y8 sig ⟨3,c,t,ns⟩ x.1
    ·rw[if_pos g,ZU g];rfl
    ·rw[if_neg g,Zt g];rfl
   rw[e1,e2] at q;simp only[UW,Zg,g0,Zy,Zh,Za,seval,Zc,men];simp only[Zg,Zh,Uah,Uam] at q;refine Zf q ?_;clear q e1 e2 g0;simp only[ZA,Uaa,Za,seval];refine ZP (α:=Unit) xs.length (fun j _=>[(96,iI j)]) (fun j _=>[(256,.bx [iI V.roots,.tr (.sl (V.nodes.map ZQ)),.tr (.sl (rI V.sites)),iI V.edges,.tr (.sl (rS V.outer)),.tr (.sl (V.inner.map ZS)),.hd (lvl,384) [] 0 (Ji (xs.take j)).length none (Ji (xs.take j)).length]),(384,.ar 1 (rI (Ji (xs.take j))) true (Ji (xs.take j)).length 0)]) (fun _ _=>True) () (by simp only[Za,seval]) (by (simp only[Za,seval])<;>rfl) trivial ?_;intro j _ hj _;simp only[Uaa,Za,seval];refine Zv (fun hlt=>?_) (fun hge=>?_)
   ·have hja:j<xs.length:=(by omega);have ga:=Jb (c:=Zy) hja;have hsl:=Zad hja;have hle:=Zae hx (j:=j+1) hja;rw[hsl,Uac] at hle;simp only[ga,Zy,Zh,V9,Qa,Uaa,Za,seval];refine⟨by omega,by rw[Ze];omega,Zz () hja (by rw[hsl,Uac,J4,Ubq (Ubr _ _)];rfl) trivial⟩
   ·have:j=xs.length:=(by omega);subst this;rw[Uap];rw[show cut (rI (Ji xs)) 0 (Ji xs).length=rI (Ji xs) from VO]
  ·have hpx:=hx x (by rw[hxs];simp);have hpy:=hx y (by rw[hxs];simp);have g0:(xs.map Zy)[0]? = some (Zy x):=(by rw[hxs];rfl);have g1:(xs.map Zy)[1]? = some (Zy y):=(by rw[hxs];rfl);have q:=ZoV sig x.1 y.1 hn hbs (Qu hpx.big) (Qu hpy.big) (Vi hpx.big) (Vi hpy.big);have e1:Zbz sig x.1 y.1=V:=by
    rw[hV,U1,hxs,Zag (.inl rfl)];unfold Zbz;by_cases g:Yx sig x.1 y.1
    ·rw[if_pos g,if_pos g];rfl
    ·rw[if_neg g,if_neg g];rfl
   have e2:ZbA sig x.1 y.1=ok:=by
    rw[hok,hxs,Zag (.inl rfl)];unfold ZbA;by_cases g:Yx sig x.1 y.1
    ·rw[if_pos g,ZU g];rfl
    ·rw[if_neg g,Zt g];rfl
   rw[e1,e2] at q;simp only[UW,Zg,g0,g1,Zy,Zh,Za,seval,Zc,men];simp only[Zh,Uah,Uam] at q;refine Zf q ?_;clear q e1 e2 g0 g1;simp only[ZA,Uaa,Za,seval];refine ZP (α:=Unit) xs.length (fun j _=>[(96,iI j)]) (fun j _=>[(256,.bx [iI V.roots,.tr (.sl (V.nodes.map ZQ)),.tr (.sl (rI V.sites)),iI V.edges,.tr (.sl (rS V.outer)),.tr (.sl (V.inner.map ZS)),.hd (lvl,384) [] 0 (Ji (xs.take j)).length none (Ji (xs.take j)).length]),(384,.ar 1 (rI (Ji (xs.take j))) true (Ji (xs.take j)).length 0)]) (fun _ _=>True) () (by simp only[Za,seval]) (by (simp only[Za,seval])<;>rfl) trivial ?_;intro j _ hj _;simp only[Uaa,Za,seval];refine Zv (fun hlt=>?_) (fun hge=>?_)
   ·have hja:j<xs.length:=(by omega);have ga:=Jb (c:=Zy) hja;have hsl:=Zad hja;have hle:=Zae hx (j:=j+1) hja;rw[hsl,Uac] at hle;simp only[ga,Zy,Zh,V9,Qa,Uaa,Za,seval];refine⟨by omega,by rw[Ze];omega,Zz () hja (by rw[hsl,Uac,J4,Ubq (Ubr _ _)];rfl) trivial⟩
   ·have:j=xs.length:=(by omega);subst this;rw[Uap];rw[show cut (rI (Ji xs)) 0 (Ji xs).length=rI (Ji xs) from VO]
  ·have hpx:=hx x (by rw[hxs];simp);have hpy:=hx y (by rw[hxs];simp);have g0:(xs.map Zy)[0]? = some (Zy x):=(by rw[hxs];rfl);have g1:(xs.map Zy)[1]? = some (Zy y):=(by rw[hxs];rfl);have q:=ZoK sig x.1 y.1 hn hbs (Qu hpx.big) (Qu hpy.big) (Vi hpx.big) (Vi hpy.big);have e1:Zbx sig x.1 y.1=V:=by
    rw[hV,U1,hxs,Zag (.inr rfl)];unfold Zbx;by_cases g:Yx sig x.1 y.1
    ·rw[if_pos g,if_pos g];rfl
    ·rw[if_neg g,if_neg g];rfl
   have e2:Zby sig x.1 y.1=ok:=by
    rw[hok,hxs,Zag (.inr rfl)];unfold Zby;by_cases g:Yx sig x.1 y.1
    ·rw[if_pos g,ZU g];rfl
    ·rw[if_neg g,Zt g];rfl
   rw[e1,e2] at q;simp only[UW,Zg,g0,g1,Zy,Zh,Za,seval,Zc,men];simp only[Zh,Uah,Uam] at q;refine Zf q ?_;clear q e1 e2 g0 g1;simp only[ZA,Uaa,Za,seval];refine ZP (α:=Unit) xs.length (fun j _=>[(96,iI j)]) (fun j _=>[(256,.bx [iI V.roots,.tr (.sl (V.nodes.map ZQ)),.tr (.sl (rI V.sites)),iI V.edges,.tr (.sl (rS V.outer)),.tr (.sl (V.inner.map ZS)),.hd (lvl,384) [] 0 (Ji (xs.take j)).length none (Ji (xs.take j)).length]),(384,.ar 1 (rI (Ji (xs.take j))) true (Ji (xs.take j)).length 0)]) (fun _ _=>True) () (by simp only[Za,seval]) (by (simp only[Za,seval])<;>rfl) trivial ?_;intro j _ hj _;simp only[Uaa,Za,seval];refine Zv (fun hlt=>?_) (fun hge=>?_)
   ·have hja:j<xs.length:=(by omega);have ga:=Jb (c:=Zy) hja;have hsl:=Zad hja;have hle:=Zae hx (j:=j+1) hja;rw[hsl,Uac] at hle;simp only[ga,Zy,Zh,V9,Qa,Uaa,Za,seval];refine⟨by omega,by rw[Ze];omega,Zz () hja (by rw[hsl,Uac,J4,Ubq (Ubr _ _)];rfl) trivial⟩
   ·have:j=xs.length:=(by omega);subst this;rw[Uap];rw[show cut (rI (Ji xs)) 0 (Ji xs).length=rI (Ji xs) from VO]
  ·have hpx:=hx x (by rw[hxs];simp);have g0:(xs.map Zy)[0]? = some (Zy x):=(by rw[hxs];rfl);obtain⟨n,rfl⟩:∃ n,ns=[n]:=(by exact ZhW (h.one (.inl rfl)));have q:=ZEb sig x.1 n hn hbs (Qu hpx.big) (hb.2 n (by simp)) (Vi hpx.big);have e1:XL sig x.1 n=V:=by
    rw[hV,U1,hxs,XU (.inr (.inl rfl)),if_neg (by simp),if_pos rfl];unfold XL;show _=((@ite _ (VJ sig x.1 n) (Classical.propDecidable _) _ _:Option ZR).map Prod.fst).getD JN;by_cases g:VJ sig x.1 n
    ·rw[if_pos g,if_pos g];rfl
    ·rw[if_neg g,if_neg g];rfl
   have e2:XM sig x.1 n=ok:=by
    rw[hok,hxs,XU (.inr (.inl rfl)),if_neg (by simp),if_pos rfl];unfold XM;show _=(@ite _ (VJ sig x.1 n) (Classical.propDecidable _) _ _:Option ZR).isSome;by_cases g:VJ sig x.1 n
    ·rw[if_pos g,ZU g];rfl
    ·rw[if_neg g,Zt g];rfl
   rw[e1,e2] at q;simp only[UW,Zg,g0,Zy,Zh,Za,seval,Zc,men];simp only[Zh,Uah,Uam] at q;refine Zf q ?_;clear q e1 e2 g0;simp only[ZA,Uaa,Za,seval];refine ZP (α:=Unit) xs.length (fun j _=>[(96,iI j)]) (fun j _=>[(256,.bx [iI V.roots,.tr (.sl (V.nodes.map ZQ)),.tr (.sl (rI V.sites)),iI V.edges,.tr (.sl (rS V.outer)),.tr (.sl (V.inner.map ZS)),.hd (lvl,384) [] 0 (Ji (xs.take j)).length none (Ji (xs.take j)).length]),(384,.ar 1 (rI (Ji (xs.take j))) true (Ji (xs.take j)).length 0)]) (fun _ _=>True) () (by simp only[Za,seval]) (by (simp only[Za,seval])<;>rfl) trivial ?_;intro j _ hj _;simp only[Uaa,Za,seval];refine Zv (fun hlt=>?_) (fun hge=>?_)
   ·have hja:j<xs.length:=(by omega);have ga:=Jb (c:=Zy) hja;have hsl:=Zad hja;have hle:=Zae hx (j:=j+1) hja;rw[hsl,Uac] at hle;simp only[ga,Zy,Zh,V9,Qa,Uaa,Za,seval];refine⟨by omega,by rw[Ze];omega,Zz () hja (by rw[hsl,Uac,J4,Ubq (Ubr _ _)];rfl) trivial⟩
   ·have:j=xs.length:=(by omega);subst this;rw[Uap];rw[show cut (rI (Ji xs)) 0 (Ji xs).length=rI (Ji xs) from VO]
  ·have hpx:=hx x (by rw[hxs];simp);have g0:(xs.map Zy)[0]? = some (Zy x):=(by rw[hxs];rfl);obtain⟨n,rfl⟩:∃ n,ns=[n]:=(by exact ZhW (h.one (.inr rfl)));have q:=ZFD sig x.1 n hn hbs (Qu hpx.big) (hb.2 n (by simp)) (Vi hpx.big);have e1:Zd0 sig x.1 n=V:=by
    rw[hV,U1,hxs,XU (.inr (.inr rfl)),if_neg (by simp),if_neg (by simp)];unfold Zd0;show _=((@ite _ (YI sig x.1 n) (Classical.propDecidable _) _ _:Option ZR).map Prod.fst).getD JN;by_cases g:YI sig x.1 n
    ·rw[if_pos g,if_pos g];rfl
    ·rw[if_neg g,if_neg g];rfl
   have e2:dc (YI sig x.1 n)=ok:=by
    rw[hok,hxs,XU (.inr (.inr rfl)),if_neg (by simp),if_neg (by simp)];show _=(@ite _ (YI sig x.1 n) (Classical.propDecidable _) _ _:Option ZR).isSome;by_cases g:YI sig x.1 n
    ·rw[if_pos g,ZU g];rfl
    ·rw[if_neg g,Zt g];rfl
   rw[e1,e2] at q;simp only[UW,Zg,g0,Zy,Zh,Za,seval,Zc,men];simp only[Zh,Uah,Uam] at q;refine Zf q ?_;clear q e1 e2 g0;simp only[ZA,Uaa,Za,seval];refine ZP (α:=Unit) xs.length (fun j _=>[(96,iI j)]) (fun j _=>[(256,.bx [iI V.roots,.tr (.sl (V.nodes.map ZQ)),.tr (.sl (rI V.sites)),iI V.edges,.tr (.sl (rS V.outer)),.tr (.sl (V.inner.map ZS)),.hd (lvl,384) [] 0 (Ji (xs.take j)).length none (Ji (xs.take j)).length]),(384,.ar 1 (rI (Ji (xs.take j))) true (Ji (xs.take j)).length 0)]) (fun _ _=>True) () (by simp only[Za,seval]) (by (simp only[Za,seval])<;>rfl) trivial ?_;intro j _ hj _;simp only[Uaa,Za,seval];refine Zv (fun hlt=>?_) (fun hge=>?_)
   ·have hja:j<xs.length:=(by omega);have ga:=Jb (c:=Zy) hja;have hsl:=Zad hja;have hle:=Zae hx (j:=j+1) hja;rw[hsl,Uac] at hle;simp only[ga,Zy,Zh,V9,Qa,Uaa,Za,seval];refine⟨by omega,by rw[Ze];omega,Zz () hja (by rw[hsl,Uac,J4,Ubq (Ubr _ _)];rfl) trivial⟩
   ·have:j=xs.length:=(by omega);subst this;rw[Uap];rw[show cut (rI (Ji xs)) 0 (Ji xs).length=rI (Ji xs) from VO]
noncomputable def U2(sig:List TControl)(t:List TTermStep):Jz:=(Z3 sig t).getD ([],0)
theorem ZhX{sig:List TControl}{t:List TTermStep}(h:Z3 sig t=none):U2 sig t=([],0):=by unfold U2;rw[h];rfl
theorem ZbD{sig:List TControl}{t:List TTermStep}{z:Jz}(h:Z3 sig t=some z):U2 sig t=z:=by unfold U2;rw[h];rfl
theorem Qv{l:List ZR}:ZC 7 (l.map Zy)=True:=eq_true (VD Zy (fun _=>rfl) l)
theorem Zpa{l:List ZR}{a n:Nat}:cut (l.map Zy) a n=((l.drop a).take n).map Zy:=by rw[cut,<-List.map_drop,<-Ubj]
theorem ZFP{l:List ZR}{a:Nat}:cut (l.map Zy) a (l.length-a)=(l.drop a).map Zy:=by rw[Zpa,UaQ (by rw[UaL];omega)]
theorem XV{l:List ZR}{a:Nat}:cut (l.map Zy) 0 a=(l.take a).map Zy:=by rw[Zpa,Ubl]
theorem ZhY(sig:List TControl)(t:List TTermStep)(hn:sig.length<=4294967296)(hbs:∀ y∈sig,Z9 4294967296 y)(hbt:∀ y∈t,Jm 4294967296 y)(hs:Jj sig)(hl:t.length<=60)(lvl:Nat)(S:Zb):Sem Ucb Za0 lvl [.tr (.sl (sig.map Zx)),.tr (.sl (t.map Zg))] S (.tu [.tr (.sl ((U2 sig t).1.map Zy)),iI ((U2 sig t).2:Nat),iB (Z3 sig t).isSome]) S:=by
 refine Zl ZBn (by simp [low,men,Zc]) ?_;simp only[Zlw,Uaa,Za,seval];refine ZP (α:=Jz) t.length (fun j z=>[(7,.tr (.sl (z.1.map Zy))),(8,iI z.2),(17,iI j)]) (fun _ _=>[]) (fun j z=>Z3 sig (t.take j)=some z) ([],0) (by simp only[Za,seval]) (by (simp only[Za,seval])<;>rfl) (by rw[List.take_zero];exact Zaa) ?_;intro j z hj hA;have hz:=WC hs hj hA;simp only[Za,seval];refine Zv (fun hlt=>?_) (fun hge=>?_)
 ·have hja:j<t.length:=by omega
  have ga:=Jb (c:=Zg) hja;have hb:=hbt _ (Uaj hja);have hsu:=Zab (sig:=sig) hja;rw[hA] at hsu;obtain⟨s,hs'⟩:∃ s,s=t[j]:=⟨_,rfl⟩;rw[<-hs'] at ga hb hsu;have hbad:JE sig z s=none->Z3 sig t=none:=fun g=>ZdX (j:=j+1) (by rw[hsu];exact g);have q1:=ZFG sig s hn hb;have q2:=ZhV s.kind_ s.control s.site s.names;obtain⟨k,c,p,ns⟩:=s;simp only[Zg,Uah,Uam] at ga q1 q2;simp only[ga,Za,seval,Zc,men];refine Zf q1 ?_;cases hg:dc (stepOK sig ⟨k,c,p,ns⟩)
  ·have e:=hbad (ZbB fun g=>dc_not.1 hg g.1);rw[e,ZhX e];simp only[Za,seval];try rfl
  have hok:=dc_iff.1 hg;have hnd:=Zo6 hok;simp only at hnd;simp only[Za,seval,Zc,men];refine Zf q2 ?_;rw[hnd];simp only[Uaa,Za,seval,Zc,men];refine Zv (fun hlo=>?_) (fun hlo=>?_)
  ·have e:=hbad (ZbB fun g=>by have:=g.2;simp only at this;omega);rw[e,ZhX e];try rfl
  have htk:ZE k<=z.1.length:=by omega
  refine Zf q2 ?_;rw[hnd];simp only[Uaa,Za,seval,Zc,men];have hat:((z.1.length:Int)-(ZE k:Int))=((z.1.length-ZE k:Nat):Int):=by omega
  rw[hat];obtain⟨a,ha⟩:∃ a,a=z.1.length-ZE k:=⟨_,rfl⟩;rw[<-ha];have q3:=ZFO sig ⟨k,c,p,ns⟩ (z.1.drop a) hn hbs hb hok (by rw[UaL];simp only;omega) (fun x hx=>hz.1 x (Ubd hx));simp only[Zg,Uah,Uam] at q3;simp only[Qv,Za,seval];simp only[ZFP];refine⟨by rw[Ze];omega,?_⟩;refine⟨?_,?_,Zf q3 ?_⟩
  ·first | omega | simp [Qv]
  ·first | omega | simp [Qv]
  obtain⟨V,hV⟩:∃ V,V=Zaf sig ⟨k,c,p,ns⟩ (z.1.drop a):=⟨_,rfl⟩;rw[<-hV];simp only[Zy,Zh];cases hm:JI sig ⟨k,c,p,ns⟩ (z.1.drop a) with
  | none =>
   have e:=hbad (ZoY (by show JI _ _ (z.1.drop (z.1.length-ZE k))=none;rw[<-ha];exact hm));rw[e,ZhX e];simp only[Option.isSome_none,Za,seval];try rfl
  | some y =>
   have e:=ZdY hok (z:=z) htk (by show JI _ _ (z.1.drop (z.1.length-ZE k))=some y;rw[<-ha];exact hm);have hy:V=y:=(by rw[hV,Zaf,hm];rfl);subst hy;simp only[Option.isSome_some,Uaa,Qv,Za,seval];have e3:cut (z.1.map Zy) 0 (a-0)++[[Tr.v (Value.int .i64 V.1.roots),Tr.sl (V.1.nodes.map ZQ),Tr.sl (rI V.1.sites),Tr.v (Value.int .i64 V.1.edges),Tr.sl (rS V.1.outer),Tr.sl (V.1.inner.map ZS),Tr.sl (rI V.2)]]=(z.1.take a++[V]).map Zy:=(by rw[Nat.sub_zero,XV,Uaw];rfl);have e4:(cut (z.1.map Zy) 0 (a-0)).length=a:=(by rw[Nat.sub_zero,XV,Uaa,Uai];omega);have e5:max (z.2:Int) ((a+1:Nat):Int)=((max z.2 (a+1):Nat):Int):=(by omega);have e6:((z.1.take a++[V]).map Zy).length=a+1:=(by rw[Uaa,Uac,Uai];simp;omega);rw[e3,e4,e6,e5];refine⟨fun g=>g.elim,by omega,by omega,by omega,by rw[Nat.sub_zero,XV,Qv];trivial,rfl,by rw[Ze];omega,Zz (z.1.take a++[V],max z.2 (a+1)) hja rfl ?_⟩;rw[hsu];show JE sig z _=_;rw[e];show some (z.1.take (z.1.length-ZE k)++[V],max z.2 (z.1.length-ZE k+1))=_;rw[<-ha]
 ·have:j=t.length:=by omega
  subst this;rw[Uap] at hA;rw[hA,ZbD hA];simp only[Za,seval];try rfl
theorem ZFQ(sig:List TControl)(s:TTermStep)(hn:sig.length<=4294967296)(hb:Jm 4294967296 s)(lvl:Nat)(S:Zb):Sem Ucb Zgl lvl [.tr (.sl (sig.map Zx)),.ag ((Zg s).map .tr)] S (iB (dc (stepOK sig s))) S:=by
 obtain⟨k,c,t,ns⟩:=s;obtain⟨b1,b2⟩:=hb;simp only at b1 b2;have qn:=ZFH ns b1 b2;have d23:¬ (2:Int)=3:=by decide
 have d32:¬ (3:Int)=2:=by decide
 have d62:¬ (6:Int)=2:=by decide
 have d63:¬ (6:Int)=3:=by decide
 have d72:¬ (7:Int)=2:=by decide
 have d73:¬ (7:Int)=3:=by decide
 have d76:¬ (7:Int)=6:=by decide
 refine Zl ZBv trivial ?_;by_cases h2:k=2
 ·subst h2;by_cases hc:c=0
  ·subst hc;simp only[Ws,Zg,d23,Za,seval,Zc,men];refine Zf (Qp t 0 3) ?_;cases hW:JW t 0 3
   ·rw[Zt fun g:stepOK sig ⟨2,0,t,ns⟩=>inB_not.1 hW (g.site rfl)];simp only[Za,seval]
   ·simp only[Uaa,Za,seval];by_cases hl:(ns.length:Int)=0
    ·have hyes:stepOK sig ⟨2,0,t,ns⟩:=⟨by simp,fun _=>rfl,fun g=>absurd rfl g,fun n hn=>by
      have:ns=[]:=Ua1.1 (by omega);simp [this] at hn,fun _=>inB_iff.1 hW,fun g=>by simp at g,fun g=>by simp at g,fun g=>by simp at g,fun _ _ _=>by simp only;omega⟩
     rw[ZU hyes];simp [hl]
    ·rw[Zt fun g:stepOK sig ⟨2,0,t,ns⟩=>hl (by have:=g.non (by simp) (by simp) (by simp);simp only at this;omega)];simp [hl];exact fun e=>hl (by simp [e])
  ·rw[Zt fun g:stepOK sig ⟨2,c,t,ns⟩=>hc (g.ctl0 (by simp))];simp only[Ws,Zg,hc,d23,Za,seval]
 by_cases h3:k=3
 ·subst h3;by_cases ht:t=0
  ·subst ht;simp only[Ws,Zg,d32,Uaa,Za,seval,Zc,men];refine⟨by rw[Ze];omega,Zf (Qp c 0 ((sig.length:Int)-1)) ?_⟩;cases hW:JW c 0 ((sig.length:Int)-1)
   ·rw[Zt fun g:stepOK sig ⟨3,c,0,ns⟩=>inB_not.1 hW (g.ctl rfl)];simp only[Za,seval]
   ·have hw:=inB_iff.1 hW;obtain⟨m,hm⟩:∃ m:Nat,c=m:=⟨c.toNat,by omega⟩;have hms:m<sig.length:=(by omega);have gs:=Jb (c:=Zx) hms;have e:YX sig c=sig[m].ports:=(by simp [YX,hm,hms]);simp only[hm,gs,Zx,Uaa,Za,seval,Zc,men];by_cases hp:(ns.length:Int)=sig[m].ports
    ·simp only[hp,Za,seval];refine Zf qn ?_;simp only[Za,seval];have:stepOK sig ⟨3,c,0,ns⟩↔∀ n∈ns,JR n:=⟨fun g=>g.nms,fun g=>⟨by simp,fun g=>absurd rfl g,fun _=>rfl,g,fun g=>by simp at g,fun _=>hw,fun _=>by rw[e];exact hp,fun g=>by simp at g,fun g=>absurd rfl g⟩⟩;rw[<-hm,V6 this]
    ·rw[<-hm,Zt fun g:stepOK sig ⟨3,c,0,ns⟩=>hp (by rw[<-e];exact g.ports rfl)];simp only[hp,seval]
  ·rw[Zt fun g:stepOK sig ⟨3,c,t,ns⟩=>ht (g.site0 (by simp))];simp only[Ws,Zg,ht,d32,Za,seval]
 by_cases hc:c=0
 ·subst hc;by_cases ht:t=0
  ·subst ht;by_cases h67:k=6\/k=7
   ·rcases h67 with rfl | rfl
    all_goals
     simp only[Ws,Zg,d62,d63,d72,d73,d76,Uaa,Za,seval,Zc,men];by_cases hp:(ns.length:Int)=1
     ·simp only[hp,Za,seval];refine Zf qn ?_;simp only[Za,seval];rw[V6 (show stepOK sig ⟨_,0,0,ns⟩↔∀ n∈ns,JR n from ⟨fun g=>g.nms,fun g=>⟨by simp,fun _=>rfl,fun _=>rfl,g,fun g=>by simp at g,fun g=>by simp at g,fun g=>by simp at g,fun _=>by simp only;omega,fun g1 g2 g3=>by simp at g2 g3⟩⟩)]
     ·rw[Zt fun g:stepOK sig ⟨_,0,0,ns⟩=>hp (by have:=g.one (by simp);simp only at this;omega)];simp only[hp,seval]
   have h6:¬ k=6:=fun e=>h67 (.inl e);have h7:¬ k=7:=fun e=>h67 (.inr e);simp only[Ws,Zg,h2,h3,h6,h7,Za,seval,Zc,men];refine Zf (Qp k 0 5) ?_;cases hW:JW k 0 5
   ·rw[Zt fun g:stepOK sig ⟨k,0,0,ns⟩=>inB_not.1 hW (by have:=g.kind;simp only at this;omega)];simp only[Za,seval]
   ·have hw:=inB_iff.1 hW;simp only[Uaa,Za,seval];by_cases hl:(ns.length:Int)=0
    ·have hyes:stepOK sig ⟨k,0,0,ns⟩:=⟨by simp only;omega,fun _=>rfl,fun _=>rfl,fun n hn=>by
      have:ns=[]:=Ua1.1 (by omega);simp [this] at hn,fun g=>absurd g h2,fun g=>absurd g h3,fun g=>absurd g h3,fun g=>g.elim (fun e=>absurd e h6) (fun e=>absurd e h7),fun _ _ _=>by simp only;omega⟩
     rw[ZU hyes];simp [hl]
    ·rw[Zt fun g:stepOK sig ⟨k,0,0,ns⟩=>hl (by have:=g.non h3 h6 h7;simp only at this;omega)];simp [hl];exact fun e=>hl (by simp [e])
  ·rw[Zt fun g:stepOK sig ⟨k,0,t,ns⟩=>ht (g.site0 h2)];simp only[Ws,Zg,h2,h3,ht,Za,seval]
 ·rw[Zt fun g:stepOK sig ⟨k,c,t,ns⟩=>hc (g.ctl0 h3)];simp only[Ws,Zg,h3,hc,Za,seval]
def VP(sig:List TControl):List TControl:=sig.map fun c=>{ c with kind_:=0 }
theorem Zpb{sig:List TControl}(h:Jj sig):Jj (VP sig):=by
 have hl:(VP sig).length=sig.length:=by simp [VP]
 refine⟨fun i hi=>?_,by rw[hl];exact h.2⟩;have g:=h.1 i (by omega);have e:∀ k (hk:k<(VP sig).length),(VP sig)[k] = { sig[k]'(by omega) with kind_:=0 }:=fun k hk=>by simp [VP]
 refine⟨?_,fun k hk=>?_⟩
 ·rw[e i hi];exact⟨g.1.1,g.1.2.1,by show (0:Int)<=0/\(0:Int)<=2;omega⟩
 ·rw[e i hi,e k (by omega)];exact g.2 k hk
theorem ZFR{sig:List TControl}{c:Int}:YX (VP sig) c=YX sig c:=by unfold YX VP;rw[Uao];cases sig[c.toNat]?<;>rfl
theorem ZFS{sig:List TControl}{c:Int}:YF (VP sig) c=0:=by unfold YF VP;rw[Uao];cases sig[c.toNat]?<;>rfl
theorem ZFT{sig:List TControl}{s:TTermStep}(h:stepOK sig s):stepOK (VP sig) s :=
 ⟨h.kind,h.ctl0,h.site0,h.nms,h.site,fun g=>by rw[show (VP sig).length=sig.length by simp [VP]];exact h.ctl g,fun g=>by rw[ZFR];exact h.ports g,h.one,h.non⟩
theorem ZFU{sig:List TControl}{x:TBigraph}(h:bigOK sig x)(h1:x.nodes=[])(h2:x.sites=[]):bigOK (VP sig) x :=
 ⟨Zpb h.sg,h.roots,h.nodesL,h.sitesL,h.edges,h.outer,h.inn,fun i hi=>by simp [h1] at hi,fun p hp=>by simp [h2] at hp,h.inner⟩
theorem ZFV{sig:List TControl}{s:TTermStep}(hs:Jj sig)(h:stepOK sig s)(h3:s.kind_=3){x:TBigraph}(hx:bigOK sig x)(hk:YF sig s.control=2->x.nodes=[]/\x.sites=[]):∃ sg,bigOK sg (Yk s)/\bigOK sg x:=by
 by_cases k:YF sig s.control=2
 ·exact⟨VP sig,ZhS (Zpb hs) (ZFT h) h3 (by rw[ZFS];decide),ZFU hx (hk k).1 (hk k).2⟩
 ·exact⟨sig,ZhS hs h h3 k,hx⟩
theorem ZFW(s:TTermStep)(lvl:Nat)(S:Zb):Sem Ucb Zgt lvl [.ag ((Zg s).map .tr)] S (.ag ((Zy (if s.kind_=0 then (JN,[]) else if s.kind_=1 then (XQ,[]) else (XR,[s.site]))).map .tr)) S:=by
 obtain⟨k,c,t,ns⟩:=s;refine Zl ZBH (by simp [low,men,Zc,Zy,Zh]) ?_;by_cases h0:k=0
 ·subst h0;simp only[Zdm,Zg,Za,↓reduceIte,Nat.reduceEqDiff,Nat.reduceMul,reduceCtorEq,Nat.reduceAdd,Nat.reduceLeDiff,Nat.reduceLT];rfl
 ·by_cases h1:k=1
  ·subst h1;rw[if_neg h0];simp only[Zdm,Zg,h0,Za,↓reduceIte,Nat.reduceEqDiff,Nat.reduceMul,reduceCtorEq,Nat.reduceAdd,Nat.reduceLeDiff,Nat.reduceLT];rfl
  ·rw[if_neg h0,if_neg h1];simp only[Zdm,Zg,h0,h1,Za,↓reduceIte,Nat.reduceEqDiff,Nat.reduceMul,reduceCtorEq,Nat.reduceAdd,Nat.reduceLeDiff,Nat.reduceLT];rfl
def Zpc(sig:List TControl)(s:TTermStep)(x:TBigraph):Prop:=x.roots=1/\(YF sig s.control=2->x.nodes=[]/\x.sites=[])
open Classical in
noncomputable def Zah(sig:List TControl)(s:TTermStep)(x:ZR):ZR:=if Zpc sig s x.1 then (YK (Yk s) x.1,x.2) else (JN,[])
theorem ZFX(sig:List TControl)(s:TTermStep)(x:ZR)(hn:sig.length<=4294967296)(hbs:∀ y∈sig,Z9 4294967296 y)(hb:Jm 4294967296 s)(hs:Jj sig)(h:stepOK sig s)(h3:s.kind_=3)(hx:partOK sig x)(lvl:Nat)(S:Zb):Sem Ucb Zgu lvl [.tr (.sl (sig.map Zx)),.ag ((Zg s).map .tr),.ag ((Zy x).map .tr)] S (.tu [.ag ((Zy (Zah sig s x)).map .tr),iB (dc (Y8 sig s x.1))]) S:=by
 have hxb:=hx.big;have hw:=h.ctl h3;obtain⟨m,hm⟩:∃ m:Nat,s.control=m:=⟨s.control.toNat,by omega⟩;have hms:m<sig.length:=by omega
 have gs:=Jb (c:=Zx) hms;have e:YF sig s.control=sig[m].kind_:=by simp [YF,hm,hms]
 have x1:=hxb.small.nodes;have x2:=hxb.small.sites;refine Zl ZBI (by simp [low,men,Zc,Zy,Zh]) ?_;simp only[ZlL,Zg,Zy,Zh,Za,↓reduceIte,Nat.reduceEqDiff,Nat.reduceMul,reduceCtorEq,Nat.reduceAdd,Nat.reduceLeDiff,Nat.reduceLT];by_cases h0:Zpc sig s x.1
 ·have hr:=h0.1;have hno:Zah sig s x=(YK (Yk s) x.1,x.2):=if_pos h0;rw[hno];obtain⟨sg,g1,g2⟩:=ZFV hs h h3 hxb h0.2;have hnl:s.names.length<=3:=by have:=h.ports h3;have:=ZhR hs (c:=s.control);omega
  have hsl:=D7 (l:=s.names);have q1:=ZdN s.names (by omega);have q2:=Zbu s.names 0 (ZN s.names) (by omega) (by omega) (by omega);simp only[Int.zero_add] at q2;have q3:=ZEN sg (Yk s) x.1 g1 g2 (by rw[hr];rfl);have q4:=UY sig (YK (Yk s) x.1) hn hbs (VK (by omega) (Zou g1 g2)) (Zov g1 g2 (by rw[hr];rfl) (Vi g1) (Vi g2));have e4:dc (bigOK sig (YK (Yk s) x.1))=dc (Y8 sig s x.1):=V6 ⟨fun g=>⟨h0.1,h0.2,g⟩,fun g=>g.2.2⟩;rw[e4] at q4;obtain⟨B,hB⟩:∃ B,B=YK (Yk s) x.1:=⟨_,rfl⟩;rw[<-hB] at q3 q4 ⊢;simp only[Zh,Uah,Uam] at q4;by_cases hk:sig[m].kind_=2
  ·obtain⟨z1,z2⟩:=h0.2 (e.trans hk);simp only[hr,hk,hm,gs,z1,z2,Zx,List.length_nil,Uam,Za,↓reduceIte,Nat.reduceEqDiff,Nat.reduceMul,reduceCtorEq,Nat.reduceAdd,Nat.reduceLT,Zc,men];refine⟨by rw[Ze];omega,?_⟩;rw[if_neg (by decide)];refine Zf q1 ?_;simp only[Uaa,Za,↓reduceIte,Nat.reduceEqDiff,Nat.reduceMul,reduceCtorEq,Nat.reduceAdd,Nat.reduceLeDiff,Nat.reduceLT,Zc,men];rw[show cut (rS (ZN s.names)) 0 (ZN s.names).length=rS (ZN s.names) from VO];refine Zf q2 ?_;simp only[Uaa,Za,↓reduceIte,Nat.reduceEqDiff,Nat.reduceMul,reduceCtorEq,Nat.reduceAdd,Nat.reduceLeDiff,Nat.reduceLT,Zc,men];simp only[Zh,Yk,hr,hm,z1,z2,ZQ,Uah,Uam] at q3;refine Zf q3 ?_;simp only[Za,↓reduceIte,Nat.reduceEqDiff,Nat.reduceMul,reduceCtorEq,Nat.reduceAdd,Nat.reduceLeDiff,Nat.reduceLT,Zc,men];refine Zf q4 ?_;simp only[Za,↓reduceIte,Nat.reduceEqDiff,Nat.reduceMul,reduceCtorEq,Nat.reduceAdd,Nat.reduceLT]
  ·simp only[hr,hk,hm,gs,Zx,Za,↓reduceIte,Nat.reduceEqDiff,reduceCtorEq,Nat.reduceAdd,Nat.reduceLT,Zc,men];refine Zf q1 ?_;simp only[Uaa,Za,↓reduceIte,Nat.reduceEqDiff,Nat.reduceMul,reduceCtorEq,Nat.reduceAdd,Nat.reduceLeDiff,Nat.reduceLT,Zc,men];rw[show cut (rS (ZN s.names)) 0 (ZN s.names).length=rS (ZN s.names) from VO];refine Zf q2 ?_;simp only[Uaa,Za,↓reduceIte,Nat.reduceEqDiff,Nat.reduceMul,reduceCtorEq,Nat.reduceAdd,Nat.reduceLeDiff,Nat.reduceLT,Zc,men];simp only[Zh,Yk,hr,hm,ZQ,Uah,Uam] at q3;refine Zf q3 ?_;simp only[Za,↓reduceIte,Nat.reduceEqDiff,Nat.reduceMul,reduceCtorEq,Nat.reduceAdd,Nat.reduceLeDiff,Nat.reduceLT,Zc,men];refine Zf q4 ?_;simp only[Za,↓reduceIte,Nat.reduceEqDiff,Nat.reduceMul,reduceCtorEq,Nat.reduceAdd,Nat.reduceLT]
 ·have hno:¬ Y8 sig s x.1:=fun g=>h0 ⟨g.1,g.2.1⟩;rw[show Zah sig s x=(JN,[]) from if_neg h0,Zt hno];by_cases hr:x.1.roots=1
  ·have hk:sig[m].kind_=2:=Ubg fun k=>h0 ⟨hr,fun g=>absurd (e.symm.trans g) k⟩;have hz:(0:Int)<(x.1.nodes.length:Int)+x.1.sites.length:=by
    by_cases g:(x.1.nodes.length:Int)+x.1.sites.length=0
    ·exact absurd ⟨hr,fun _=>⟨Ua1.1 (by omega),Ua1.1 (by omega)⟩⟩ h0
    ·omega
   simp only[hr,hk,hm,gs,hz,Zx,Uaa,Za,↓reduceIte,Nat.reduceEqDiff,Nat.reduceMul,reduceCtorEq,Nat.reduceAdd,Nat.reduceLT];exact⟨by rw[Ze];omega,rfl⟩
  ·simp only[hr,Za,↓reduceIte];rfl
theorem ZhZ(l:List Int)(hl:l.length<=4294967296)(lvl:Nat)(S:Zb):Sem Ucb ZcL lvl [tI l] S (.ow 1 (rI l) true) S:=by refine Zl ZBi trivial ?_;simp only[Zlr,Uaa,V9,Qa,Za,seval];exact hl
theorem ZFY{sig:List TControl}{a b:TBigraph}(ha:bigOK sig a)(hb:bigOK sig b)(hi:a.inner=[]):Yx sig a b↔bigOK sig (J5 a b):=by
 constructor
 ·intro g;exact g.2.2.2
 ·intro g;exact⟨ha,hb,fun n hn=>by simp [inn,hi] at hn,g⟩
open Classical in
noncomputable def Zai(sig:List TControl)(s:TTermStep)(x y:ZR):ZR:=if Yx sig x.1 y.1 then (if s.kind_=4 then D9 x.1 y.1 else J5 x.1 y.1,x.2++y.2) else (JN,[])
theorem ZFZ(sig:List TControl)(s:TTermStep)(x y:ZR)(hn:sig.length<=4294967296)(hbs:∀ y∈sig,Z9 4294967296 y)(hx:partOK sig x)(hy:partOK sig y)(lvl:Nat)(S:Zb):Sem Ucb Zgw lvl [.tr (.sl (sig.map Zx)),.ag ((Zg s).map .tr),.ag ((Zy x).map .tr),.ag ((Zy y).map .tr)] S (.tu [.ag ((Zy (Zai sig s x y)).map .tr),iB (dc (Yx sig x.1 y.1))]) S:=by
 have hxb:=hx.big;have hyb:=hy.big;have x2:=hxb.sitesL;have y2:=hyb.sitesL;have lx:=hx.len;have ly:=hy.len;have q1:=ZEV sig x.1 y.1 hxb hyb;have q2:=UY sig (J5 x.1 y.1) hn hbs (VK (by omega) (ZdU hxb hyb)) (ZoJ hxb hyb (Vi hxb) (Vi hyb));rw[<-V6 (ZFY hxb hyb hx.inn)] at q2;have q3:=ZFk (J5 x.1 y.1) (ZFl hxb hyb);have q4:=ZhZ x.2 (by omega);have ec:cut (rI x.2++rI y.2) 0 (x.2.length+y.2.length)=rI (x.2++y.2):=by rw[<-J4];exact Ym (by simp [rI])
 obtain⟨B,hB⟩:∃ B,B=J5 x.1 y.1:=⟨_,rfl⟩;rw[<-hB] at q1 q2 q3;have hM:D9 x.1 y.1=VN B:=by rw[hB];rfl
 simp only[Zh,Uah,Uam] at q1 q2 q3;refine Zl ZBJ (by simp [low,men,Zc,Zy,Zh]) ?_;simp only[ZlM,Zg,Zy,Zh,Za,seval,Zc,men];refine Zf q1 ?_;simp only[Za,seval,Zc,men];refine Zf q2 ?_;cases hp:dc (Yx sig x.1 y.1)
 ·rw[show Zai sig s x y=(JN,[]) from if_neg (dc_not.1 hp)];simp only[Za,seval];rfl
 ·rw[show Zai sig s x y=_ from if_pos (dc_iff.1 hp)];by_cases h4:s.kind_=4
  ·rw[if_pos h4,hM];simp only[h4,Za,seval,Zc,men];refine Zf q3 ?_;simp only[ZA,Za,seval,Zc,men];refine Zf q4 ?_;simp only[V9,Qa,Uaa,Za,seval];exact⟨by omega,by rw[<-J4,Uaa,Uac];exact Ual _,by rw[ec]<;>rfl⟩
  ·rw[if_neg h4,<-hB];simp only[h4,Za,seval,Zc,men];refine Zf q4 ?_;simp only[V9,Qa,Uaa,Za,seval];exact⟨by omega,by rw[<-J4,Uaa,Uac];exact Ual _,by rw[ec]<;>rfl⟩
theorem ZF0(sig:List TControl)(s:TTermStep)(x:ZR)(n:ByteArray)(hn:sig.length<=4294967296)(hbs:∀ y∈sig,Z9 4294967296 y)(hns:s.names=[n])(hbn:n.size<=4294967296)(h67:s.kind_=6\/s.kind_=7)(hx:partOK sig x):∃ V:ZR,(∀ y,JI sig s [x]=some y->V=y)/\∀(lvl:Nat) (S:Zb),Sem Ucb Zgv lvl [.tr (.sl (sig.map Zx)),.ag ((Zg s).map .tr),.ag ((Zy x).map .tr)] S (.tu [.ag ((Zy V).map .tr),iB (JI sig s [x]).isSome]) S:=by
 have hxb:=hx.big;have g0:(rS [n])[0]? = some [ts n]:=rfl;rcases h67 with h6 | h7
 ·have e:=XU (sig:=sig) (s:=s) (x:=x) (.inr (.inl h6));rw[if_neg (by omega),if_pos h6,hns,gS0 rfl] at e;by_cases g:VJ sig x.1 n
  ·rw[if_pos g] at e;rw[e];refine⟨(YY x.1 n,x.2),fun y hy=>UaT hy,fun lvl S=>?_⟩;have q:=ZEg sig x.1 n hn hbs (Qu hxb) hbn (Vi hxb) g;unfold XL XM at q;rw[if_pos g,ZU g] at q;simp only[Zh,Uah,Uam] at q;refine Zl Zdn (by simp [low,men,Zc,Zy,Zh]) ?_;simp only[Zbe,Zg,Zy,Zh,h6,hns,Za,seval,Zc,men];refine Zf q ?_;simp only[Za,seval]
  ·rw[if_neg g] at e;rw[e];refine⟨(JN,x.2),(fun y hy=>by cases hy),fun lvl S=>?_⟩;have q:=ZEh sig x.1 n hn hbs (Qu hxb) hbn (Vi hxb) g;unfold XL XM at q;rw[if_neg g,Zt g] at q;simp only[Zh,Uah,Uam] at q;refine Zl Zdn (by simp [low,men,Zc,Zy,Zh]) ?_;simp only[Zbe,Zg,Zy,Zh,h6,hns,Za,seval,Zc,men];refine Zf q ?_;simp only[ZA,Za,seval]
 ·have e:=XU (sig:=sig) (s:=s) (x:=x) (.inr (.inr h7));rw[if_neg (by omega),if_neg (by omega),hns,gS0 rfl] at e;have q:=ZFE sig x.1 n hn hbs (Qu hxb) hbn (Vi hxb);have h6:¬ s.kind_=6:=by omega
  by_cases g:YI sig x.1 n
  ·rw[if_pos g] at e;rw[e];refine⟨(Y9 x.1 n,x.2),fun y hy=>UaT hy,fun lvl S=>?_⟩;rw[if_pos g,ZU g] at q;simp only[Zh,Uah,Uam] at q;refine Zl Zdn (by simp [low,men,Zc,Zy,Zh]) ?_;simp only[Zbe,Zg,Zy,Zh,h6,hns,Za,seval,Zc,men];refine Zf q ?_;simp only[Za,seval]
  ·rw[if_neg g] at e;rw[e];refine⟨(JN,x.2),(fun y hy=>by cases hy),fun lvl S=>?_⟩;rw[if_neg g,Zt g] at q;simp only[Zh,Uah,Uam] at q;refine Zl Zdn (by simp [low,men,Zc,Zy,Zh]) ?_;simp only[Zbe,Zg,Zy,Zh,h6,hns,Za,seval,Zc,men];refine Zf q ?_;simp only[ZA,Za,seval]
theorem Zpd{z:List ZR}{a:Nat}(h:z.length=a+1):∃ x,z.drop a=[x]/\(z.map Zy)[a]? = some (Zy x)/\x∈z:=by
 have ha:a<z.length:=by omega
 refine⟨z[a],?_,by simp [ha],Uaj ha⟩;rw[UaA ha,List.drop_of_length_le (by omega)]
theorem ZF1{z:List ZR}{a:Nat}(h:z.length=a+2):∃ x y,z.drop a=[x,y]/\(z.map Zy)[a]? = some (Zy x)/\(z.map Zy)[a+1]? = some (Zy y)/\x∈z/\y∈z:=by
 have ha:a<z.length:=by omega
 have hb:a+1<z.length:=by omega
 refine⟨z[a],z[a+1],?_,by simp [ha],by simp [hb],Uaj ha,Uaj hb⟩;rw[UaA ha,UaA hb,List.drop_of_length_le (by omega)]
theorem ZF2{sig:List TControl}{s:TTermStep}{x y:ZR}(h3:s.kind_=3)(h:JI sig s [x]=some y):Zah sig s x=y:=by
 rw[XU (.inl h3),if_pos h3] at h;split at h
 ·rename_i g;rw[show Zah sig s x=_ from if_pos ⟨g.1,g.2.1⟩];exact UaT h
 ·cases h
theorem ZF3{sig:List TControl}{s:TTermStep}{x:ZR}(h3:s.kind_=3):dc (Y8 sig s x.1)=(JI sig s [x]).isSome:=by
 rw[XU (.inl h3),if_pos h3];by_cases g:Y8 sig s x.1
 ·rw[if_pos g,ZU g];rfl
 ·rw[if_neg g,Zt g];rfl
theorem ZF4{sig:List TControl}{s:TTermStep}{x x2 y:ZR}(h45:s.kind_=4\/s.kind_=5)(h:JI sig s [x,x2]=some y):Zai sig s x x2=y:=by
 rw[Zag h45] at h;split at h
 ·rename_i g;rw[show Zai sig s x x2=_ from if_pos g];exact UaT h
 ·cases h
theorem ZF5{sig:List TControl}{s:TTermStep}{x x2:ZR}(h45:s.kind_=4\/s.kind_=5):dc (Yx sig x.1 x2.1)=(JI sig s [x,x2]).isSome:=by
 rw[Zag h45];by_cases g:Yx sig x.1 x2.1
 ·rw[if_pos g,ZU g];rfl
 ·rw[if_neg g,Zt g];rfl
theorem Zpe{k:Int}:ZE k<=2:=by
 unfold ZE;split
 ·omega
 ·split<;>omega
theorem Zd4{z:List ZR}{a:Nat}{Q:ZR}:cut (z.map Zy) 0 (a-0)++[[Tr.v (Value.int .i64 Q.1.roots),Tr.sl (Q.1.nodes.map ZQ),Tr.sl (rI Q.1.sites),Tr.v (Value.int .i64 Q.1.edges),Tr.sl (rS Q.1.outer),Tr.sl (Q.1.inner.map ZS),Tr.sl (rI Q.2)]]=(z.take a++[Q]).map Zy:=by rw[Nat.sub_zero,XV,Uaw];rfl
theorem Zd5{z:List ZR}{a:Nat}(h:a<=z.length):(cut (z.map Zy) 0 (a-0)).length=a:=by rw[Nat.sub_zero,XV,Uaa,Uai];omega
theorem Ui{z:List ZR}{a:Nat}{Q:ZR}(h:a<=z.length):((z.take a++[Q]).map Zy).length=a+1:=by rw[Uaa,Uac,Uai];simp;omega
theorem ZF6(sig:List TControl)(s:TTermStep)(z:List ZR)(hn:sig.length<=4294967296)(hbs:∀ y∈sig,Z9 4294967296 y)(hb:Jm 4294967296 s)(hs:Jj sig)(h:stepOK sig s)(hz:∀ x∈z,partOK sig x)(hzl:z.length<=100):∃ V:List ZR,(ZE s.kind_<=z.length->∀ x,JI sig s (z.drop (z.length-ZE s.kind_))=some x->V=z.take (z.length-ZE s.kind_)++[x])/\∀(lvl:Nat) (S:Zb),Sem Ucb ZcN lvl [.tr (.sl (sig.map Zx)),.tr (.sl (z.map Zy)),.ag ((Zg s).map .tr)] S (.tu [.tr (.sl (V.map Zy)),iB (decide (ZE s.kind_<=z.length)&&(JI sig s (z.drop (z.length-ZE s.kind_))).isSome)]) S:=by
 obtain⟨k,c,p,ns⟩:=s;have hkind:=h.kind;simp only at hkind;have qt:=Zd2 k;have ql:=ZFW ⟨k,c,p,ns⟩;by_cases htk:ZE k<=z.length
 ·obtain⟨a,ha⟩:∃ a,a=z.length-ZE k:=⟨_,rfl⟩;have hat:((z.length:Int)-(ZE k:Int))=(a:Int):=by omega
  have ht2:=Zpe (k:=k);show ∃ V:List ZR,(ZE k<=z.length->∀ x,JI sig ⟨k,c,p,ns⟩ (z.drop (z.length-ZE k))=some x->V=z.take (z.length-ZE k)++[x])/\∀(lvl:Nat) (S:Zb),Sem Ucb ZcN lvl [.tr (.sl (sig.map Zx)),.tr (.sl (z.map Zy)),.ag ((Zg ⟨k,c,p,ns⟩).map .tr)] S (.tu [.tr (.sl (V.map Zy)),iB (decide (ZE k<=z.length)&&(JI sig ⟨k,c,p,ns⟩ (z.drop (z.length-ZE k))).isSome)]) S;rw[<-ha,show decide (ZE k<=z.length)=true from decide_eq_true htk];simp only[Bool.true_and];have hnot:¬ (a:Int)<0:=by omega
  have hat0:a<=z.length:=by omega
  have e6 (Q:ZR):cut (z.map Zy) 0 a=(z.take a).map Zy:=XV;have tail (Q:ZR):(z.take a).map Zy++[Zy Q]=(z.take a++[Q]).map Zy:=by rw[Uaw];rfl
  obtain⟨W,hW⟩:∃ W:ZR,W=(if k=0 then (JN,[]) else if k=1 then (XQ,[]) else (XR,[p])):=⟨_,rfl⟩;simp only[<-hW] at ql;simp only[Zg,Zy,Zh,Uah,Uam] at ql;have d01:¬ (0:Int)=1:=by decide
  have d02:¬ (0:Int)=2:=by decide
  have d21:¬ (2:Int)=1:=by decide
  by_cases h012:k=0\/k=1\/k=2
  ·have e:=Zo9 (sig:=sig) (s:=⟨k,c,p,ns⟩) (xs:=z.drop a) h012;have eQ:(if k=1 then (XQ,[]) else if k=2 then (XR,[p]) else (JN,[]))=W:=(by rw[hW];rcases h012 with rfl | rfl | rfl<;>rfl);simp only at e;rw[eQ] at e;rw[e];obtain⟨Q,hQ⟩:∃ Q,Q=W:=⟨_,rfl⟩;rw[<-hQ] at ql ⊢;refine⟨z.take a++[Q],fun _ x hx=>by rw[UaT hx],fun lvl S=>?_⟩;have t0:ZE k=0:=(by rcases h012 with rfl | rfl | rfl<;>rfl);rw[t0] at qt hat;simp only[Int.natCast_zero] at qt hat;have h3:¬ k=3:=(by omega);refine Zl Zbd (by simp [low,men,Zc]) ?_;simp only[DQ,Zg,Uaa,Za,seval,Zc,men];refine Zf qt ?_;simp only[hat,hnot,Za,seval,Zc,men];refine⟨by rw[Ze];omega,Zf ql ?_⟩;simp only[h3,Za,seval,Zc,men];refine Zf qt ?_;simp only[d01,Za,seval,Zc,men];refine Zf qt ?_;simp only[d02,Qv,Uaa,Za,seval];rw[Zd4 (z:=z) (a:=a) (Q:=Q),Zd5 hat0];refine⟨fun g=>g.elim,by omega,by omega,by rw[Nat.sub_zero,XV,Qv];trivial,by omega,by omega,by rw[Ui hat0];exact Ual _,by rw[Ym (Ui hat0)]<;>rfl⟩
  by_cases h3:k=3
  ·subst h3;obtain⟨x,hx1,hx2,hx3⟩:=Zpd (z:=z) (a:=a) (by have:ZE 3=1:=rfl;omega);rw[hx1];obtain⟨Q,hQ⟩:∃ Q,Q=Zah sig ⟨3,c,p,ns⟩ x:=⟨_,rfl⟩;refine⟨z.take a++[Q],fun _ y hy=>by rw[hQ,ZF2 rfl hy],fun lvl S=>?_⟩;have q:=ZFX sig ⟨3,c,p,ns⟩ x hn hbs hb hs h rfl (hz x hx3);rw[<-hQ,ZF3 rfl] at q;simp only[Zg,Zy,Zh,Uah,Uam] at q hx2;have t1:ZE 3=1:=rfl;rw[t1] at qt hat;simp only[Int.natCast_one] at qt hat;have hal:a<z.length:=by omega
   refine Zl Zbd (by simp [low,men,Zc]) ?_;simp only[DQ,Zg,Uaa,Za,seval,Zc,men];refine Zf qt ?_;simp only[hat,hnot,Za,seval,Zc,men];refine⟨by rw[Ze];omega,Zf ql ?_⟩;simp only[hx2,Za,seval,Zc,men];refine Zf q ?_;simp only[Qv,Uaa,Za,seval];rw[Zd4 (z:=z) (a:=a) (Q:=Q),Zd5 hat0];refine⟨fun g=>g.elim,by omega,by omega,by rw[Nat.sub_zero,XV,Qv];trivial,by omega,by omega,by rw[Ui hat0];exact Ual _,by rw[Ym (Ui hat0)]<;>rfl⟩
  by_cases h45:k=4\/k=5
  ·obtain⟨x,y,hx1,hx2,hx3,hx4,hx5⟩:=ZF1 (z:=z) (a:=a) (by have:ZE k=2:=(by rcases h45 with rfl | rfl<;>rfl);omega);rw[hx1];obtain⟨Q,hQ⟩:∃ Q,Q=Zai sig ⟨k,c,p,ns⟩ x y:=⟨_,rfl⟩;refine⟨z.take a++[Q],fun _ v hv=>by rw[hQ,ZF4 h45 hv],fun lvl S=>?_⟩;have q:=ZFZ sig ⟨k,c,p,ns⟩ x y hn hbs (hz x hx4) (hz y hx5);rw[<-hQ,ZF5 (s:=⟨k,c,p,ns⟩) h45] at q;simp only[Zg,Zy,Zh,Uah,Uam] at q hx2 hx3;have t2:ZE k=2:=by rcases h45 with rfl | rfl<;>rfl
   rw[t2] at qt hat;have c2:((2:Nat):Int)=2:=rfl;rw[c2] at qt hat;have hal:a<z.length:=by omega
   have hal2:a+1<z.length:=(by omega);have ca:((a:Int)+1)=((a+1:Nat):Int):=(by omega);refine Zl Zbd (by simp [low,men,Zc]) ?_;simp only[DQ,Zg,Uaa,Za,seval,Zc,men];refine Zf qt ?_;simp only[hat,hnot,Za,seval,Zc,men];refine⟨by rw[Ze];omega,Zf ql ?_⟩;simp only[h3,Za,seval,Zc,men];refine Zf qt ?_;simp only[d21,Za,seval,Zc,men];refine Zf qt ?_;simp only[hx2,hx3,ca,Int.toNat_natCast,Za,seval,Zc,men];refine⟨by rw[Ze];omega,Zf q ?_⟩;simp only[Qv,Uaa,Za,seval];rw[Zd4 (z:=z) (a:=a) (Q:=Q),Zd5 hat0];refine⟨fun g=>g.elim,by omega,by omega,by rw[Nat.sub_zero,XV,Qv];trivial,by omega,by omega,by rw[Ui hat0];exact Ual _,by rw[Ym (Ui hat0)]<;>rfl⟩
  ·have h67:k=6\/k=7:=(by omega);obtain⟨x,hx1,hx2,hx3⟩:=Zpd (z:=z) (a:=a) (by have:ZE k=1:=(by rcases h67 with rfl | rfl<;>rfl);omega);rw[hx1];obtain⟨n,rfl⟩:=ZhW (h.one h67);obtain⟨Q,hQ,q⟩:=ZF0 sig ⟨k,c,p,[n]⟩ x n hn hbs rfl (hb.2 n (by simp)) h67 (hz x hx3);refine⟨z.take a++[Q],fun _ y hy=>by rw[hQ y hy],fun lvl S=>?_⟩;simp only[Zg,Zy,Zh,Uah,Uam] at q hx2;have t1:ZE k=1:=(by rcases h67 with rfl | rfl<;>rfl);rw[t1] at qt hat;simp only[Int.natCast_one] at qt hat;have hal:a<z.length:=(by omega);refine Zl Zbd (by simp [low,men,Zc]) ?_;simp only[DQ,Zg,Uaa,Za,seval,Zc,men];refine Zf qt ?_;simp only[hat,hnot,Za,seval,Zc,men];refine⟨by rw[Ze];omega,Zf ql ?_⟩;simp only[h3,Za,seval,Zc,men];refine Zf qt ?_;simp only[hx2,Uah,Uam,Za,seval,Zc,men];refine Zf q ?_;simp only[Qv,Uaa,Za,seval];rw[Zd4 (z:=z) (a:=a) (Q:=Q),Zd5 hat0];refine⟨fun g=>g.elim,by omega,by omega,by rw[Nat.sub_zero,XV,Qv];trivial,by omega,by omega,by rw[Ui hat0];exact Ual _,by rw[Ym (Ui hat0)]<;>rfl⟩
 ·have hlt:(z.length:Int)-(ZE k:Int)<0:=by omega
  refine⟨z,fun g=>absurd g htk,fun lvl S=>?_⟩;rw[show decide (ZE (⟨k,c,p,ns⟩:TTermStep).kind_<=z.length)=false from decide_eq_false htk];simp only[Bool.false_and];refine Zl Zbd (by simp [low,men,Zc]) ?_;simp only[DQ,Zg,Uaa,Za,seval,Zc,men];refine Zf qt ?_;simp only[hlt,Za,seval];rw[Ze];have:=Zpe (k:=k);omega
theorem ZF7(l:List Int)(n:Int)(hl:l.length<=4294967296)(hn:n=l.length)(lvl:Nat)(S:Zb):Sem Ucb Zge lvl [.tr (.sl (rI l)),iI n] S (iB (dc (Vs l.length l))) S:=by
 subst hn;refine Zl ZBf trivial ?_;simp only[Zlp,Za,seval];refine ZP (α:=Unit) l.length (fun j _=>[(5,iI j)]) (fun _ _=>[]) (fun j _=>∀ i:Nat,i<j->(i:Int)∈l) () (by simp only[Za,seval]) (by (simp only[Za,seval])<;>rfl) (fun i hi=>absurd hi (Ua9 i)) ?_;intro j _ hj hA;simp only[Uaa,Za,seval,Zc,men];refine Zv (fun hlt=>?_) (fun hge=>?_)
 ·have hja:j<l.length:=by omega
  refine Zf (ZC9 l j (by omega)) ?_;by_cases hm:(j:Int)∈l
  ·simp only[hm,Za,seval];exact⟨by rw[Ze];omega,Zz () hja rfl (fun i hi=>by
    rcases Nat.lt_or_eq_of_le (Nat.le_of_lt_succ hi) with h | h
    ·exact hA i h
    ·subst h;exact hm)⟩
  ·rw[Zt fun g:Vs l.length l=>hm (g.2 j hja)];simp only[hm,Za,seval]
 ·have:j=l.length:=by omega
  subst this;rw[ZU (show Vs l.length l from ⟨rfl,hA⟩)]
theorem ZF8(a b:Int)(lvl:Nat)(S:Zb):Sem Ucb Zgm lvl [iI a,iI b] S (iI (max a b)) S:=by
 refine Zl ZBw trivial ?_;by_cases h:b<a
 ·rw[show max a b=a by omega];simp only[Zg7,h,Za,seval]
 ·rw[show max a b=b by omega];simp only[Zg7,h,Za,seval]
noncomputable def Qw(sig:List TControl):Jz->List TTermStep->Jz
 | z,[]=>z
 | z,s::r=>match JE sig z s with
  | some z' => Qw sig z' r
  | none=>z
theorem Zpf{sig:List TControl}{z z':Jz}{s:TTermStep}{r:List TTermStep}(h:JE sig z s=some z'):Qw sig z (s::r)=Qw sig z' r:=by rw[Qw,h]
theorem ZF9{sig:List TControl}{z:Jz}{s:TTermStep}{r:List TTermStep}(h:JE sig z s=none):Qw sig z (s::r)=z:=by rw[Qw,h]
theorem Zpg{sig:List TControl}:∀{t:List TTermStep} {z y:Jz},t.foldlM (JE sig) z=some y->Qw sig z t=y
 | [],z,y,h=>by simp only[List.foldlM_nil] at h;exact UaT h
 | s::r,z,y,h=>by
  rw[List.foldlM_cons] at h;cases hs:JE sig z s with
  | none=>rw[hs] at h;cases h
  | some z' =>
   rw[hs] at h;rw[Zpf hs];exact Zpg h
theorem Zh0{sig:List TControl}{t:List TTermStep}{y:Jz}(h:Z3 sig t=some y):Qw sig ([],0) t=y:=Zpg h
theorem ZGa{sig:List TControl}{z:Jz}{s:TTermStep}(h:(decide (ZE s.kind_<=z.1.length)&&(JI sig s (z.1.drop (z.1.length-ZE s.kind_))).isSome)=false):JE sig z s=none:=by
 rcases Bool.and_eq_false_iff.1 h with g | g
 ·exact ZbB fun k=>of_decide_eq_false g k.2
 ·exact ZoY (by simpa using g)
theorem Zph(sig:List TControl)(t:List TTermStep)(hn:sig.length<=4294967296)(hbs:∀ y∈sig,Z9 4294967296 y)(hbt:∀ y∈t,Jm 4294967296 y)(hs:Jj sig)(hl:t.length<=60)(lvl:Nat)(S:Zb):Sem Ucb ZcK lvl [.tr (.sl (sig.map Zx)),.tr (.sl (t.map Zg))] S (.tu [.tr (.sl ((Qw sig ([],0) t).1.map Zy)),iI ((Qw sig ([],0) t).2:Nat),iB (Z3 sig t).isSome]) S:=by
 refine Zl ZBe (by simp [low,men,Zc]) ?_;simp only[Zlo,Za,seval];refine ZP (α:=Jz) t.length (fun j z=>[(7,.tr (.sl (z.1.map Zy))),(8,iI z.2),(9,iI j)]) (fun _ _=>[]) (fun j z=>Z3 sig (t.take j)=some z/\Qw sig ([],0) t=Qw sig z (t.drop j)) ([],0) (by simp only[Za,seval]) (by (simp only[Za,seval])<;>rfl) ⟨by rw[List.take_zero];exact Zaa,by rw[Ubl]⟩ ?_;intro j z hj hA;obtain⟨hA,hL⟩:=hA;have hz:=WC hs hj hA;simp only[Uaa,Za,seval];refine Zv (fun hlt=>?_) (fun hge=>?_)
 ·have hja:j<t.length:=by omega
  have ga:=Jb (c:=Zg) hja;have hb:=hbt _ (Uaj hja);have hsu:=Zab (sig:=sig) hja;rw[hA] at hsu;rw[UaA hja] at hL;obtain⟨s,hs'⟩:∃ s,s=t[j]:=⟨_,rfl⟩;rw[<-hs'] at ga hb hsu hL;have hbad:JE sig z s=none->Z3 sig t=none/\Qw sig ([],0) t=z:=fun g=>⟨ZdX (j:=j+1) (by rw[hsu];exact g),by rw[hL,ZF9 g]⟩;have q1:=ZFQ sig s hn hb;have q2:=fun hok=>ZF6 sig s z.1 hn hbs hb hs hok hz.1 (by omega);obtain⟨k,c,p,ns⟩:=s;simp only[Zg,Uah,Uam] at ga q1 q2;simp only[ga,Za,seval,Zc,men];refine Zf q1 ?_;cases hg:dc (stepOK sig ⟨k,c,p,ns⟩)
  ·have e:=hbad (ZbB fun g=>dc_not.1 hg g.1);rw[e.1,e.2];simp only[Option.isSome_none,Za,seval]
  have hok:=dc_iff.1 hg;obtain⟨V,hV,qV⟩:=q2 hok;simp only[ga,Za,seval,Zc,men];refine Zf qV ?_;cases hm:(decide (ZE k<=z.1.length)&&(JI sig ⟨k,c,p,ns⟩ (z.1.drop (z.1.length-ZE k))).isSome)
  ·have e:=hbad (ZGa hm);rw[e.1,e.2];simp only[Option.isSome_none,Za,seval]
  ·have h2:=Bool.and_eq_true_iff.1 hm;have htk:ZE k<=z.1.length:=of_decide_eq_true h2.1;obtain⟨x,hx⟩:=Uan.1 h2.2;have e:=ZdY hok (z:=z) htk hx;have eV:=hV htk x hx;have hlen:V.length=z.1.length-ZE k+1:=(by rw[eV,Uac,Uai];simp<;>omega);have hLz:=Zpf (r:=t.drop (j+1)) e;rw[hLz] at hL;simp only[Uaa,Za,seval,Zc,men];refine Zf (ZF8 _ _) ?_;simp only[Za,seval];have e5:max (z.2:Int) (V.length:Int)=((max z.2 (z.1.length-ZE k+1):Nat):Int):=(by rw[hlen];omega);rw[e5,eV];refine⟨by rw[Ze];omega,Zz (z.1.take (z.1.length-ZE k)++[x],max z.2 (z.1.length-ZE k+1)) hja rfl ⟨?_,hL⟩⟩;rw[hsu];exact e
 ·have:j=t.length:=by omega
  subst this;rw[Uap] at hA;rw[hA,Zh0 hA];simp only[Option.isSome_some,seval];try rfl
theorem ZGb(a b:Int)(lvl:Nat)(S:Zb):Sem Ucb ZcX lvl [iI a,iI b] S (iB (decide (a<b))) S:=by refine Zl ZCg trivial ?_;simp only[Zmj,Za,seval,Zc,men];refine Zf (ZDa a) ?_;simp only[Za,seval]
def WD(x:List Int)(i:Nat):Prop:=∀ p q,p<q->q<i->g0 x p<=g0 x q
def ZbE(x:List Int)(i j:Nat):Prop:=(∀ p q,p<q->q<=i->p≠j->q≠j->g0 x p<=g0 x q)/\∀ q,j<q->q<=i->g0 x j<=g0 x q
def swp(x:List Int)(j:Nat):List Int:=(x.set j (g0 x (j-1))).set (j-1) (g0 x j)
theorem Zpi{y:List Int}{a b:Nat}{v:Int}(h:a<y.length):g0 (y.set a v) b=if a=b then v else g0 y b:=by
 show (y.set a v).getD b 0=if a=b then v else y.getD b 0
 rw[UaD,Ua3,UaD];by_cases e:a=b
 ·rw[if_pos e,if_pos e,if_pos (by omega)];rfl
 ·rw[if_neg e,if_neg e]
theorem ZGc{y:List Int}{i:Nat}(h:ZbE y i 0):WD y (i+1):=fun p q h1 h2=>by
 by_cases e:p=0
 ·subst e;exact h.2 q h1 (by omega)
 ·exact h.1 p q h1 (by omega) e (by omega)
theorem ZGd{y:List Int}{i j:Nat}(h:ZbE y i j)(hj:0<j)(hji:j<=i)(hle:g0 y (j-1)<=g0 y j):WD y (i+1):=fun p q h1 h2=>by
 by_cases e:p=j
 ·subst e;exact h.2 q h1 (by omega)
 ·by_cases e2:q=j
  ·subst e2;by_cases e3:p=q-1
   ·subst e3;exact hle
   ·exact Int.le_trans (h.1 p (q-1) (by omega) (by omega) e (by omega)) hle
  ·exact h.1 p q h1 (by omega) e e2
theorem ZGe{y:List Int}{i j:Nat}(h:ZbE y i j)(hj:0<j)(hji:j<=i)(hi:i<y.length)(hlt:g0 y j<g0 y (j-1)):ZbE (swp y j) i (j-1):=by
 have e:∀ b,g0 (swp y j) b=if j-1=b then g0 y j else if j=b then g0 y (j-1) else g0 y b:=fun b=>by unfold swp;rw[Zpi (by rw[UaU];omega),Zpi (by omega)]
 refine⟨fun p q h1 h2 h3 h4=>?_,fun q h1 h2=>?_⟩
 ·rw[e p,e q,if_neg (show ¬ j-1=p from fun g=>h3 g.symm),if_neg (show ¬ j-1=q from fun g=>h4 g.symm)];by_cases ep:j=p
  ·rw[if_pos ep,if_neg (show ¬ j=q by omega)];exact h.1 (j-1) q (by omega) h2 (by omega) (by omega)
  ·rw[if_neg ep];by_cases eq:j=q
   ·rw[if_pos eq];exact h.1 p (j-1) (by omega) (by omega) (by omega) (by omega)
   ·rw[if_neg eq];exact h.1 p q h1 h2 (fun g=>ep g.symm) (fun g=>eq g.symm)
 ·rw[e (j-1),e q,if_pos rfl,if_neg (show ¬ j-1=q by omega)];by_cases eq:j=q
  ·rw[if_pos eq];omega
  ·rw[if_neg eq];exact h.2 q (by omega) h2
theorem ZGf{y:List Int}{j:Nat}(hj:0<j)(hi:j<y.length):(swp y j).Perm y:=by
 have h:=@List.set_set_perm _ y j (j-1) hi (by omega);have e1:g0 y j=y[j]:=by simp [g0,hi]
 have e2:g0 y (j-1)=y[j-1]'(by omega):=by show y.getD (j-1) 0=_;rw[UaD,Uak (by omega)];rfl
 unfold swp;rw[e1,e2];exact h
theorem Zpj{y:List Int}{j:Nat}{v:Int}(h:j<y.length):ZK (rI y) [] j 0 (.v (.int .i64 v))=rI (y.set j v):=by simp only[ZK];rw[JC h];exact(UbE (f:=fun n:Int=>[tv n]) (l:=y) (i:=j) (a:=v)).symm
theorem ZGg(l:List Int)(hl:l.length<=12)(lvl:Nat)(S:Zb)(id:Zd)(u:Bool)(hw ver:Nat)(hid:id.1<lvl)(hS:S id=some (.ar 1 (rI l) u hw ver))(srt:List Int)(hsrt:∀ x:List Int,x.Perm l->WD x l.length->x=srt) :
  Sem Ucb ZgM lvl [.hd id [] 0 l.length none hw,iI 0,iI l.length] S (.tu []) (Zo S id (.ar 1 (rI srt) u hw ver)):=by
 have hne:id.1≠lvl:=by omega
 refine Zl ZCf trivial ?_;simp only[Zmi,Za,seval];refine⟨by rw[Ze];omega,?_⟩;refine J9 (α:=List Int) l.length (fun k x=>⟨lvl,[(0,.hd id [] 0 l.length none hw),(1,iI 0),(2,iI l.length),(6,iI ((k+1:Nat):Int))],[],Zo S id (.ar 1 (rI x) u hw ver)⟩) (fun k x=>x.Perm l/\WD x (k+1)) l ⟨by simp only[J8 hne,Za,seval],by (simp only[Wn hS,Za,seval])<;>rfl⟩ ⟨List.Perm.refl _,fun p q h1 h2=>by omega⟩ ?_;intro k x hk ⟨hA1,hA2⟩;have hxl:x.length=l.length:=hA1.length_eq;simp only[Za,seval];refine Zv (fun hlt=>?_) (fun hge=>?_)
 ·have hk1:k+1<l.length:=by omega
  refine J9 (α:=List Int) (k+1) (fun m y=>⟨lvl,[(0,.hd id [] 0 l.length none hw),(1,iI 0),(2,iI l.length),(6,iI ((k+1:Nat):Int)),(7,iI ((k+1-m:Nat):Int))],[],Zo S id (.ar 1 (rI y) u hw ver)⟩) (fun m y=>y.Perm l/\ZbE y (k+1) (k+1-m)) x ⟨by simp only[J8 hne,Za,seval],by (simp only[Za,seval])<;>rfl⟩ ⟨hA1,fun p q h1 h2 h3 h4=>hA2 p q h1 (by omega),fun q h1 h2=>by omega⟩ ?_;intro m y hm ⟨hB1,hB2⟩;have hyl:y.length=l.length:=hB1.length_eq;generalize hj:k+1-m=j at hB2 ⊢;by_cases hj0:j=0
  ·subst hj0;simp only[Za,seval,men];exact⟨by rw[Ze];omega,fun h=>absurd h hne,Zz y (by omega) rfl ⟨hB1,ZGc hB2⟩⟩
  ·have g1:(0:Int)<j:=(by omega);have e1:((j:Int)-1)=((j-1:Nat):Int):=(by omega);have gj:=JC (l:=y) (i:=j) (by omega);have gj1:=JC (l:=y) (i:=j-1) (by omega);have l1:j<l.length:=(by omega);have l2:j-1<l.length:=(by omega);simp only[g1,J0 hne,YU,e1,gj,gj1,l1,l2,Uax,Za,seval,Zc,men];refine⟨by rw[Ze];omega,Zf (ZGb (g0 y j) (g0 y (j-1))) ?_⟩;by_cases hlt2:g0 y j<g0 y (j-1)
   ·have s1:=Zpj (y:=y) (j:=j) (v:=g0 y (j-1)) (by omega);have s2:=Zpj (y:=y.set j (g0 y (j-1))) (j:=j-1) (v:=g0 y j) (by rw[UaU];omega);have gj2:=JC (l:=y.set j (g0 y (j-1))) (i:=j-1) (by rw[UaU];omega);simp only[hlt2,J0 hne,Xr hne,Xu,YU,J8 hne,e1,gj,gj1,gj2,s1,s2,l1,l2,Uax,Za,seval];subst hj;refine⟨by rw[Ze];omega,by rw[Ze];omega,by rw[Ze];omega,Zz (swp y (k+1-m)) (by omega) (by rw[show k+1-(m+1)=k+1-m-1 from by omega];rfl) ⟨(ZGf (by omega) (by omega)).trans hB1,?_⟩⟩;rw[show k+1-(m+1)=k+1-m-1 from by omega];exact ZGe hB2 (by omega) (by omega) (by omega) hlt2
   ·simp only[hlt2,Za,seval,men];exact⟨by rw[Ze];omega,fun h=>absurd h hne,Zz y (by omega) rfl ⟨hB1,ZGd hB2 (by omega) (by omega) (by omega)⟩⟩
 ·have:k+1=l.length\/k=l.length:=by omega
  have hup:WD x l.length:=fun p q h1 h2=>hA2 p q h1 (by omega);have hx:=hsrt x hA1 hup;rw[hx]
theorem ZGh(l:List Int)(hl:l.length<=12)(r:Int)(lvl:Nat)(S:Zb)(id:Zd)(u:Bool)(hw ver:Nat)(hid:id.1<lvl)(hS:S id=some (.ar 1 (rI l) u hw ver))(srt:List Int)(hsrt:∀ x:List Int,x.Perm l->WD x l.length->x=srt) :
  Sem Ucb Za4 lvl [.hd id [] 0 l.length none hw,iI 0,iI l.length,iI r] S (.tu []) (Zo S id (.ar 1 (rI srt) u hw ver)):=by
 have hne:id.1≠lvl:=by omega
 refine Zl ZBU trivial ?_;simp only[ZlW,Za,seval];refine J9 (α:=Unit) 0 (fun _ _=>⟨lvl,[(0,.hd id [] 0 l.length none hw),(1,iI 0),(2,iI l.length),(3,iI r),(8,iB true),(9,iB true)],[],S⟩) (fun _ _=>True) () ⟨by simp only[J8 hne,Za,seval],by (simp only[Za,seval])<;>rfl⟩ trivial ?_;intro _ _ _ _;have h12:(l.length:Int)-0<=12:=by omega
 simp only[h12,Za,seval];refine⟨by rw[Ze];omega,?_⟩;simp only[Va];refine Wm [] (Zo S id (.ar 1 (rI srt) u hw ver)) (fun i hi=>by unfold Zo;rw[if_neg (fun e=>hne (by rw[<-e];exact hi))]) (by
  rw[Dz hne];exact ZGg l hl (lvl+1) (ZF lvl [] S) id u hw ver (by omega) (by rw[J0 hne];exact hS) srt hsrt) ?_
 simp only[Za,seval]
theorem ZGi(l:List Int)(hl:l.length<=12)(lvl:Nat)(S:Zb)(id:Zd)(u:Bool)(hw ver:Nat)(hid:id.1<lvl)(hS:S id=some (.ar 1 (rI l) u hw ver))(srt:List Int)(hsrt:∀ x:List Int,x.Perm l->WD x l.length->x=srt) :
  Sem Ucb Zgr lvl [.hd id [] 0 l.length none hw] S (.tu []) (Zo S id (.ar 1 (rI srt) u hw ver)):=by
 have hne:id.1≠lvl:=by omega
 obtain⟨r,hr⟩:=Zhp (v:=(l.length:Int)) (by omega) (by omega);refine Zl ZBE trivial ?_;simp only[ZlI,Za,seval,Zc,men];refine⟨⟨by show (0:Int)<=l.length;omega,by show (l.length:Int)<=18446744073709551615;omega⟩,Zf hr ?_⟩;simp only[Za,seval];refine Wm [] (Zo S id (.ar 1 (rI srt) u hw ver)) (fun i hi=>by unfold Zo;rw[if_neg (fun e=>hne (by rw[<-e];exact hi))]) (by
  rw[Dz hne];exact ZGh l hl r (lvl+1) (ZF lvl [] S) id u hw ver (by omega) (by rw[J0 hne];exact hS) srt hsrt) ?_
 simp only[Za,seval]
theorem ZGj{x:List Int}(h:WD x x.length):x.Pairwise (fun a b=>a<=b):=by rw[Ua8];intro i j hi hj hij;have:=h i j hij hj;rwa [show g0 x i=x[i] by simp [hi],show g0 x j=x[j] by simp [hj]] at this
theorem ZGk{l x:List Int}(hp:x.Perm l)(h:WD x l.length):x=VG (fun a b:Int=>a<b) l:=by rw[<-hp.length_eq] at h;exact Zbl ZdW ((ZGj h).imp fun h=>by omega) (Zbm ZdW) (hp.trans srtG_perm.symm)
theorem Zpk{n i:Nat}(h:i<n):(Je n)[i]? = some (i:Int):=by unfold Je;simp [h]
theorem WE{l:List Int}{j:Nat}(h:j<l.length):(rI l)[j]? = some [tv l[j]]:=by show (l.map _)[j]? = _;rw[Uao,Uak h];rfl
theorem ZGl(n:Int)(l:List Int)(hl:l.length<=12)(hn:n=l.length)(lvl:Nat)(S:Zb):Sem Ucb Zgh lvl [iI n,.tr (.sl (rI l))] S (iB (dc (Vs l.length l))) S:=by
 obtain⟨r,hr⟩:∃ r,r=VG (fun a b:Int=>a<b) l:=⟨_,rfl⟩;have hrl:r.length=l.length:=by rw[hr];exact srtG_perm.length_eq
 refine Zl ZBo trivial ?_;simp only[Zlx,Za,seval,Zc,men];refine Zf (ZdC l (by omega)) ?_;simp only[Uaa,Za,seval];have s1:=fun S' hS=>ZGi l hl (lvl+1) S' (lvl,288) true l.length 0 (Ua2 _) hS r (fun x hp hu=>by rw[hr];exact ZGk hp hu);have hord:Vs l.length l↔r=Je l.length:=by rw[hr];exact ZFn
 refine Zdx 288 _ (s1 _ ?_) ?_
 ·rw[J3];rfl
 simp only[Za,seval];refine ZP (α:=Unit) l.length (fun j _=>[(14,iI j)]) (fun _ _=>[]) (fun j _=>∀ i:Nat,i<j->r[i]? = some (i:Int)) () (by simp only[Za,seval]) (by (simp only[Za,seval])<;>rfl) (fun i hi=>absurd hi (Ua9 i)) ?_;intro j _ hj hA;simp only[Uaa,Za,seval];refine Zv (fun hlt=>?_) (fun hge=>?_)
 ·have hja:j<l.length:=by omega
  have hjr:j<r.length:=by omega
  have ga:=WE hjr;simp only[ga,hja,Za,seval];refine Zv (fun hq=>?_) (fun hq=>?_)
  ·have hno:¬ Vs l.length l:=fun g=>by have e:=hord.1 g;have e2:r[j]? = some (j:Int):=(by rw[e];exact Zpk hja);rw[Uak hjr] at e2;have e3:=UaT e2;omega
   rw[Zt hno]
  ·exact⟨by rw[Ze];omega,Zz () hja rfl (fun i hi=>by
    rcases Nat.lt_or_eq_of_le (Nat.le_of_lt_succ hi) with h | h
    ·exact hA i h
    ·subst h;rw[Uak hjr];congr 1;omega)⟩
 ·have:j=l.length:=by omega
  subst this;have hyes:Vs l.length l:=hord.2 (Ubf fun i=>by
   by_cases hi:i<l.length
   ·rw[hA i hi,Zpk hi]
   ·rw[UaX (by omega),UaX (by rw[VH];omega)])
  rw[ZU hyes,hn];simp only[Za,seval]
noncomputable def XW(sig:List TControl)(t:List TTermStep):TBigraph:=(JX sig t).getD JN
theorem Zaj{sig:List TControl}{t:List TTermStep}(h:∀ x m,Z3 sig t=some ([x],m) -> ¬ Vs x.2.length x.2):JX sig t=none:=by
 unfold JX;split
 ·split
  ·rename_i x m he;rw[if_neg (h x m he)]
  ·rfl
 ·rfl
theorem Zpl{sig:List TControl}{t:List TTermStep}(hs:Jj sig)(hl:t.length<=60){x:ZR}{m:Nat}(hr:Z3 sig t=some ([x],m))(ho:Vs x.2.length x.2):JX sig t=some (Zo3 x):=by unfold JX;rw[if_pos ⟨hs,hl⟩,hr];simp only;rw[if_pos ho]
theorem Zd6{sig:List TControl}{t:List TTermStep}(h:¬ (Jj sig/\t.length<=60)):JX sig t=none:=by unfold JX;rw[if_neg h]
theorem XX{sig:List TControl}{t:List TTermStep}(h:JX sig t=none):XW sig t=JN:=by unfold XW;rw[h];rfl
theorem Zpm{sig:List TControl}{t:List TTermStep}{b:TBigraph}(h:JX sig t=some b):XW sig t=b:=by unfold XW;rw[h];rfl
theorem Zpn{l v ini:List Int}{j:Nat}(hl:j<l.length)(hv:j<v.length)(h0:0<=l[j])(hn:l[j]<ini.length):ZK (rI (YZ l v ini j)) [] l[j].toNat 0 (Tr.v (.int .i64 v[j]))=rI (YZ l v ini (j+1)):=by rw[Zhv (by rw[XT];omega),YZ,show g0 l j=l[j] by simp [hl],show g0 v j=v[j] by simp [hv]]
theorem Zpo(sig:List TControl)(t:List TTermStep)(hn:sig.length<=4294967296)(hbs:∀ y∈sig,Z9 4294967296 y)(hlt:t.length<=4294967296)(hbt:∀ y∈t,Jm 4294967296 y)(lvl:Nat)(S:Zb):Sem Ucb ZcH lvl [.tr (.sl (sig.map Zx)),.tr (.sl (t.map Zg))] S (.tu [ZA (XW sig t),iB (JX sig t).isSome]) S:=by
 refine Zl ZA7 (by simp [ZA,low,men,Zc]) ?_;simp only[Zlh,Za,seval,Zc,men];refine Zf (Zhg sig (by omega) (fun y hy=>Zdu (hbs y hy))) ?_;cases hsg:dc (Jj sig)
 ·have e:=Zd6 (t:=t) fun g=>dc_not.1 hsg g.1;rw[e,XX e];simp only[Option.isSome_none,Za,seval];try rfl
 have hs:=dc_iff.1 hsg;simp only[Uaa,Za,seval,Zc,men];refine Zv (fun hlo=>?_) (fun hlo=>?_)
 ·have e:=Zd6 (sig:=sig) (t:=t) fun g=>by have:=g.2;omega
  rw[e,XX e];simp only[Option.isSome_none,seval];try rfl
 have hl60:t.length<=60:=by omega
 refine Zf (ZhY sig t hn hbs hbt hs hl60) ?_;cases hr:Z3 sig t with
 | none =>
  have e:JX sig t=none:=Zaj fun x m g=>by rw[hr] at g;cases g
  rw[e,XX e];simp only[Option.isSome_none,Za,seval];try rfl
 | some z =>
  rw[ZbD hr];obtain⟨L,m⟩:=z;have hz:=WC hs (j:=t.length) (Ual _) (by rw[Uap];exact hr);simp only[Option.isSome_some,Uaa,Za,seval];refine Zv (fun h1=>?_) (fun h1=>?_)
  ·obtain⟨x,rfl⟩:∃ x,L=[x]:=ZbC (by have:=of_decide_eq_false h1;omega);have hp:=hz.1 x (by simp);have h4:=hp.big.sitesL;have hlen:=hp.len;have ga:([x].map Zy)[0]? = some (Zy x):=rfl;have hf:(decide ¬ ((([x]:List ZR).length:Nat):Int)=1)=false:=h1;have q:=ZGl (x.2.length:Int) x.2 (by omega) rfl;simp only[Zy,Zh,Uah,Uam,Uaa,List.length_cons,List.length_nil,Za,seval,Zc,men];refine Zf q ?_;cases ho:dc (Vs x.2.length x.2)
   ·have e:JX sig t=none:=Zaj fun y m' g=>by rw[hr] at g;cases g;exact dc_not.1 ho
    rw[e,XX e];simp only[Option.isSome_none,Za,seval];try rfl
   have hord:=dc_iff.1 ho;have e:=Zpl hs hl60 hr hord;rw[e,Zpm e];have qo:=ZdD x.1 (VK (by omega) (Q9 hp.big));simp only[Zh,Uah,Uam] at qo;simp only[Option.isSome_some,Za,seval,Zc,men];refine Zf qo ?_;simp only[ZA,Uaa,Za,seval];refine ZP (α:=Unit) x.2.length (fun j _=>[(59,iI j)]) (fun j _=>[(1697,.ar 1 (rI (YZ x.2 x.1.sites x.1.sites j)) true x.1.sites.length 0)]) (fun _ _=>True) () (by simp only[Za,seval]) (by (simp only[YZ,Za,seval])<;>rfl) trivial ?_;intro j _ hj _;simp only[Uaa,Za,seval];refine Zv (fun hlt2=>?_) (fun hge=>?_)
   ·have hja:j<x.2.length:=(by omega);have hjs:j<x.1.sites.length:=(by omega);have gk:=WE hja;have gv:=WE hjs;have hm:=ZoX hord (Uaj hja);have hst:=Zpn (ini:=x.1.sites) hja hjs hm.1 (by omega);have hkl:x.2[j].toNat<x.1.sites.length:=(by omega);have gp:=WE (l:=YZ x.2 x.1.sites x.1.sites j) (j:=x.2[j].toNat) (by rw[XT];exact hkl);simp only[gk,gv,gp,hst,hkl,List.getElem?_cons_zero,Za,seval];exact⟨hm.1,by rw[Ze];omega,Zz () hja rfl trivial⟩
   ·have:j=x.2.length:=(by omega);subst this;simp only[XT,Za,seval];try rfl
  ·have e:JX sig t=none:=Zaj fun x m' g=>by rw[hr] at g;cases g;simp at h1
   rw[e,XX e];simp only[Option.isSome_none,seval];try rfl
theorem Zpp(sig:List TControl)(t:List TTermStep)(hn:sig.length<=4294967296)(hbs:∀ y∈sig,Z9 4294967296 y)(hlt:t.length<=4294967296)(hbt:∀ y∈t,Jm 4294967296 y)(lvl:Nat)(S:Zb):Sem Ucb ZcG lvl [.tr (.sl (sig.map Zx)),.tr (.sl (t.map Zg))] S (.tu [ZA (XW sig t),iB (JX sig t).isSome]) S:=by
 refine Zl ZA2 (by simp [ZA,low,men,Zc]) ?_;simp only[Zlb,Za,seval,Zc,men];refine Zf (Znk sig (by omega) (fun y hy=>Zdu (hbs y hy))) ?_;cases hsg:dc (Jj sig)
 ·have e:=Zd6 (t:=t) fun g=>dc_not.1 hsg g.1;rw[e,XX e];simp only[Option.isSome_none,Za,seval];try rfl
 have hs:=dc_iff.1 hsg;simp only[Uaa,Za,seval,Zc,men];refine Zv (fun hlo=>?_) (fun hlo=>?_)
 ·have e:=Zd6 (sig:=sig) (t:=t) fun g=>by have:=g.2;omega
  rw[e,XX e];simp only[Option.isSome_none,seval];try rfl
 have hl60:t.length<=60:=by omega
 refine Zf (Zph sig t hn hbs hbt hs hl60) ?_;cases hr:Z3 sig t with
 | none =>
  have e:JX sig t=none:=Zaj fun x m g=>by rw[hr] at g;cases g
  rw[e,XX e];simp only[Option.isSome_none,Za,seval];try rfl
 | some z =>
  rw[Zh0 hr];obtain⟨L,m⟩:=z;have hz:=WC hs (j:=t.length) (Ual _) (by rw[Uap];exact hr);simp only[Option.isSome_some,Uaa,Za,seval];refine Zv (fun h1=>?_) (fun h1=>?_)
  ·obtain⟨x,rfl⟩:∃ x,L=[x]:=ZbC (by have:=of_decide_eq_false h1;omega);have hp:=hz.1 x (by simp);have h4:=hp.big.sitesL;have hlen:=hp.len;have ga:([x].map Zy)[0]? = some (Zy x):=rfl;have hf:(decide ¬ ((([x]:List ZR).length:Nat):Int)=1)=false:=h1;have q:=ZF7 x.2 (x.2.length:Int) (by omega) rfl;simp only[Zy,Zh,Uah,Uam,Uaa,List.length_cons,List.length_nil,Za,seval,Zc,men];refine Zf q ?_;cases ho:dc (Vs x.2.length x.2)
   ·have e:JX sig t=none:=Zaj fun y m' g=>by rw[hr] at g;cases g;exact dc_not.1 ho
    rw[e,XX e];simp only[Option.isSome_none,Za,seval];try rfl
   have hord:=dc_iff.1 ho;have e:=Zpl hs hl60 hr hord;rw[e,Zpm e];have qo:=ZEs sig x.1 hp.big;simp only[Zh,Uah,Uam] at qo;simp only[Option.isSome_some,Za,seval,Zc,men];refine Zf qo ?_;simp only[ZA,Uaa,Za,seval];obtain⟨R,hR⟩:∃ R,R=List.replicate x.2.length (0:Int):=⟨_,rfl⟩;have hRl:R.length=x.2.length:=(by rw[hR,UbH]);have hrep:rI R=List.replicate x.2.length [Tr.v (Value.int .i64 0)]:=(by rw[hR];show List.map _ _=_;rw[List.map_replicate]);refine⟨by omega,?_⟩;refine ZP (α:=Unit) x.2.length (fun j _=>[(11,iI j)]) (fun j _=>[(1888,.ar 1 (rI (YZ x.2 x.1.sites R j)) true x.2.length 0)]) (fun _ _=>True) () (by simp only[Za,seval]) (by (simp only[YZ,hrep,Za,seval])<;>rfl) trivial ?_;intro j _ hj _;simp only[Uaa,Za,seval];refine Zv (fun hlt2=>?_) (fun hge=>?_)
   ·have hja:j<x.2.length:=(by omega);have hjs:j<x.1.sites.length:=(by omega);have gk:=WE hja;have gv:=WE hjs;have hm:=ZoX hord (Uaj hja);have hst:=Zpn (ini:=R) hja hjs hm.1 (by omega);have hkl:x.2[j].toNat<x.2.length:=(by omega);have gp:=WE (l:=YZ x.2 x.1.sites R j) (j:=x.2[j].toNat) (by rw[XT];omega);simp only[gk,gv,gp,hst,hkl,hjs,List.getElem?_cons_zero,Za,seval];exact⟨hm.1,by rw[Ze];omega,Zz () hja rfl trivial⟩
   ·have:j=x.2.length:=(by omega);subst this;have hpa:=ZFx (v:=x.1.sites) (a:=R) (b:=x.1.sites) hord hRl (by omega);rw[hpa];simp only[XT,seval];exact⟨hlen,rfl⟩
  ·have e:JX sig t=none:=Zaj fun x m' g=>by rw[hr] at g;cases g;simp at h1
   rw[e,XX e];simp only[Option.isSome_none,seval];try rfl
theorem Zd7{sig:List TControl}{t:List TTermStep}{b:TBigraph}(h:JX sig t=some b):Jj sig/\t.length<=60/\∃ z,Z3 sig t=some z:=by
 unfold JX at h;split at h
 ·rename_i g;refine⟨g.1,g.2,?_⟩;cases hr:Z3 sig t with
  | none=>rw[hr] at h;cases h
  | some z=>exact⟨z,rfl⟩
 ·cases h
def Qe(t:List TTermStep)(j:Nat):Nat:=((t[j]?).map fun s=>ZE s.kind_).getD 0
theorem Uj{t:List TTermStep}{j:Nat}(h:j<t.length):Qe t j=ZE t[j].kind_:=by simp [Qe,h]
def ZI(t:List TTermStep):Nat->List Int×List Int
 | 0=>([],[])
 | j+1=>((ZI t j).1++[if 0<Qe t j then g0 (ZI t j).2 ((ZI t j).2.length-Qe t j) else (j:Int)],(ZI t j).2.take ((ZI t j).2.length-Qe t j)++[if 0<Qe t j then g0 (ZI t j).2 ((ZI t j).2.length-Qe t j) else (j:Int)])
theorem stS_one{t:List TTermStep}:∀{j:Nat},(ZI t j).1.length=j
 | 0=>rfl
 | j+1=>by simp [ZI,stS_one (j:=j)]
theorem Uk{sig:List TControl}{t:List TTermStep}:∀{j:Nat} {z:Jz},j<=t.length->Z3 sig (t.take j)=some z->(ZI t j).2.length=z.1.length
 | 0,z,_,h=>by rw[List.take_zero,Zaa] at h;cases h;rfl
 | j+1,z,hj,h=>by
  rw[Zab (by omega)] at h;cases hp:Z3 sig (t.take j) with
  | none=>rw[hp] at h;cases h
  | some z0 =>
   rw[hp] at h;have ih:=Uk (j:=j) (by omega) hp;have hst:JE sig z0 t[j]=some z:=h;unfold JE at hst;split at hst
   ·rename_i hA;split at hst
    ·cases hst;have e:=Uj (t:=t) (j:=j) (by omega);simp only[ZI,Uac,Uai,List.length_cons,List.length_nil,ih,e]
    ·cases hst
   ·cases hst
theorem Vu{sig:List TControl}{t:List TTermStep}{y:Jz}(h:Z3 sig t=some y){j:Nat}(hj:j<t.length):∃ z,Z3 sig (t.take j)=some z/\stepOK sig t[j]/\ZE t[j].kind_<=z.1.length:=by
 cases hp:Z3 sig (t.take j) with
 | none=>rw[ZdX hp] at h;cases h
 | some z =>
  refine⟨z,rfl,?_⟩;refine Ubg fun g=>?_;have hb:=ZbB (sig:=sig) (z:=z) (s:=t[j]) g;have hs:=Zab (sig:=sig) hj;rw[hp] at hs;have:Z3 sig (t.take (j+1))=none:=by rw[hs];exact hb
  rw[ZdX this] at h;cases h
structure goodT (t:List TTermStep):Prop where
 len:t.length<=60
 tak:∀ j,j<t.length->Qe t j<=(ZI t j).2.length
 sml:∀ j,j<=t.length->(ZI t j).2.length<=60
 ned:∀ j (h:j<t.length),Uh t[j].kind_=ZE t[j].kind_
theorem Zpq{sig:List TControl}{t:List TTermStep}{b:TBigraph}(h:JX sig t=some b):goodT t:=by
 obtain⟨hs,hl,y,hr⟩:=Zd7 h;refine⟨hl,fun j hj=>?_,fun j hj=>?_,fun j hj=>?_⟩
 ·obtain⟨z,h1,h2,h3⟩:=Vu hr hj;rw[Uk (by omega) h1,Uj hj];exact h3
 ·rcases Nat.lt_or_eq_of_le hj with hj2 | hj2
  ·obtain⟨z,h1,h2,h3⟩:=Vu hr hj2;have:=(WC hs hj h1).2.1;rw[Uk hj h1];omega
  ·subst hj2;have h1:Z3 sig (t.take t.length)=some y:=by rw[Uap];exact hr
   have:=(WC hs (Ual _) h1).2.1;rw[Uk (Ual _) h1];omega
 ·obtain⟨z,h1,h2,h3⟩:=Vu hr hj;exact Zo6 h2
theorem Zpr{l:List Int}{n:Nat}:cut (rI l) 0 (n-0)=rI (l.take n):=by rw[cut,Nat.sub_zero,Ubl];exact(Ubj ..).symm
theorem ZGm(t:List TTermStep)(h:goodT t)(lvl:Nat)(S:Zb):Sem Ucb Zf3 lvl [.tr (.sl (t.map Zg))] S (.ow 1 (rI (ZI t t.length).1) true) S:=by
 have hl:=h.len;refine Zl ZA4 trivial ?_;simp only[Zld,Za,seval];refine ZP (α:=Unit) t.length (fun j _=>[(3,.hd (lvl,256) [] 0 j none j),(4,.tr (.sl (rI (ZI t j).2))),(5,iI j)]) (fun j _=>[(256,.ar 1 (rI (ZI t j).1) true j 0)]) (fun _ _=>True) () (by simp only[Za,seval]) (by (simp only[ZI,Za,seval])<;>rfl) trivial ?_;intro j _ hj _;have hsm:=h.sml j hj;have h1:=stS_one (t:=t) (j:=j);simp only[Uaa,Za,seval];refine Zv (fun hlt=>?_) (fun hge=>?_)
 ·have hja:j<t.length:=by omega
  have ga:=Jb (c:=Zg) hja;have htk:=h.tak j hja;obtain⟨T,hT⟩:∃ T,T=Qe t j:=⟨_,rfl⟩;have hT2:ZE t[j].kind_=T:=by rw[hT,Uj hja]
  have qt:=Zd2 t[j].kind_;rw[hT2] at qt;rw[<-hT] at htk;obtain⟨n,hn⟩:∃ n,n=(ZI t j).2.length-T:=⟨_,rfl⟩;have hn2:(((ZI t j).2.length:Int)-(T:Int))=(n:Int):=by omega
  have hst:ZI t (j+1)=((ZI t j).1++[if 0<T then g0 (ZI t j).2 n else (j:Int)],(ZI t j).2.take n++[if 0<T then g0 (ZI t j).2 n else (j:Int)]):=by rw[ZI,<-hT,<-hn]
  obtain⟨Z,hZ⟩:∃ Z,Z=ZI t j:=⟨_,rfl⟩;rw[<-hZ] at hn hn2 htk hst hsm h1 ⊢;simp only[ga,Zg,Za,seval,Zc,men];refine Zf qt ?_;simp only[hn2,Uaa,Za,seval,Zc,men];refine⟨by rw[Ze];omega,?_⟩;by_cases h0:0<T
  ·have hlt2:(n:Int)<(Z.2.length:Int):=(by omega);have hnl:n<Z.2.length:=(by omega);have gn:=WE hnl;simp only[hlt2,gn,Uaa,Za,seval,Zc,men];refine⟨fun g=>g.elim,by omega,by omega,?_⟩;rw[Zpr];refine Zf (ZhZ (Z.2.take n) (by rw[Uai];omega)) ?_;simp only[Uaa,Za,seval];have e1:∀ L:List Int,rI L++[[Tr.v (Value.int .i64 Z.2[n])]]=rI (L++[Z.2[n]]):=fun L=>by rw[J4];rfl
   rw[if_pos h0,show g0 Z.2 n=Z.2[n] by simp [hnl]] at hst;refine⟨by rw[Uai];omega,by rw[e1,Uaa,Uac];rfl,h1.symm,by omega,by rw[Ze];omega,Zz () hja ?_ trivial⟩;rw[hst,e1,e1];rfl
  ·have hlt2:¬ (n:Int)<(Z.2.length:Int):=(by omega);simp only[hlt2,Za,seval];refine⟨fun g=>g.elim,by omega,by omega,?_⟩;rw[Zpr];refine Zf (ZhZ (Z.2.take n) (by rw[Uai];omega)) ?_;simp only[Uaa,Za,seval];have e1:∀ L:List Int,rI L++[[Tr.v (Value.int .i64 j)]]=rI (L++[(j:Int)]):=fun L=>by rw[J4];rfl
   rw[if_neg h0] at hst;refine⟨by rw[Uai];omega,by rw[e1,Uaa,Uac];rfl,h1.symm,by omega,by rw[Ze];omega,Zz () hja ?_ trivial⟩;rw[hst,e1,e1];rfl
 ·have:j=t.length:=by omega
  subst this;simp only[Za,seval];exact stS_one.symm
end Go.Fd
