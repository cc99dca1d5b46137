/-
  SORTING WIRES BY NAME: THE LIBRARY'S CONTRACT AT THIS PROGRAM. Own work.
-/
import Derived.Test.YtdbgdhmmdhbjbaaGreatDoorT06
import Derived.Shelf.SlSortCmp.WholeK
import Derived.KernelRfl
import Derived.Test.YtdbgdhmmdhbjbaaGreatDoorProg
set_option linter.all false
namespace Go.Proofs
open Go.Shelf Go.RowKit Go.Lib Go.Sort
instance:Inhabited Go.Fd.TWire:=⟨⟨⟨#[]⟩,0⟩⟩
def ZtR(w:Go.Fd.TWire):List Value:=[.string w.name,.int .i64 w.link]
def Zob(x y:Go.Fd.TWire):Int:=if Op.bytesLess x.name.data.toList y.name.data.toList then -1 else 1
set_option maxHeartbeats 1000000 in
theorem Zx8(x y:Go.Fd.TWire)(W:World):Calls Tryz.prog 143 #[.agg #[.string x.name,.int .i64 x.link],.agg #[.string y.name,.int .i64 y.link]] W fun e w' => e = .returned (.int .i64 (Zob x y))/\∃ q os',w'=grow (W.drewN q) os':=by
 have hr:Zob x y=if Op.bytesLess x.name.toList y.name.toList then -1 else 1:=by
  unfold Zob
  rw[ByteArray.toList_eq,ByteArray.toList_eq]
 generalize Zob x y=r at hr ⊢
 go_enter Tryz.func143,Tryz.ntmps143
 go_wp2
 ·rename_i h
  rw[h] at hr
  have hr:r = -1:=hr
  subst hr
  go_ret
  exact⟨rfl,0,_,by rw[alloc_eq_grow,alloc_eq_grow,grow_grow];rfl⟩
 ·rename_i h
  rw[h] at hr
  have hr:r=1:=hr
  subst hr
  go_ret
  exact⟨rfl,0,_,by rw[alloc_eq_grow,alloc_eq_grow,grow_grow];rfl⟩
theorem Zkh(x y:Go.Fd.TWire):ltOf Zob x y=Op.bytesLess x.name.data.toList y.name.data.toList:=by
 unfold ltOf Zob
 cases Op.bytesLess x.name.data.toList y.name.data.toList <;> rfl
theorem Zz2:SWO (ltOf Zob) where
 irrefl x:=by rw[Zkh];exact Go.Fd.bl_irr _
 trans x y z h1 h2:=by
  rw[Zkh] at *
  exact Go.Fd.ordsS.tr _ _ _ h1 h2
 ntrans x y z h1 h2:=by
  rw[Zkh] at *
  have:=Go.Fd.ltS_tr z.name y.name x.name
  have k:¬ Go.Fd.ltS x.name z.name:=Go.Fd.ltS_tr z.name y.name x.name (by unfold Go.Fd.ltS;rw[h2];decide) (by unfold Go.Fd.ltS;rw[h1];decide)
  unfold Go.Fd.ltS at k
  simpa using k
theorem Zoc(blk off size:Nat)(w:World):CmpLays Tryz.prog 143 #[] ZtR 2 Zob blk off size w :=
 fun _ _ _ _ x y=>Zx8 x y _
end Go.Proofs
namespace Go.Fd
open Go.Sort Go.Proofs
theorem ZyN:∀{x y:List TWire},x.Pairwise wlt->y.Pairwise wlt->x.Perm y->x=y
 | [],y,_,_,h=>(List.Perm.nil_eq h)
 | a::r,[],_,_,h=>by simp at h
 | a::r,b::t,hx,hy,h=>by
  have hcx:=List.pairwise_cons.1 hx
  have hcy:=List.pairwise_cons.1 hy
  have hab:a=b:=by
   have h1:a∈b::t:=h.mem_iff.1 (by simp)
   have h2:b∈a::r:=h.mem_iff.2 (by simp)
   rcases List.mem_cons.1 h1 with e | h1
   ·exact e
   ·rcases List.mem_cons.1 h2 with e | h2
    ·exact e.symm
    ·exact absurd (hcx.1 b h2) (ordsS.asym _ _ (hcy.1 a h1))
  subst hab
  rw[ZyN hcx.2 hcy.2 h.cons_inv]
theorem Zz3{x y:List TWire}(hy:y.Pairwise wlt)(hp:x.Perm y)(hx:∀ i j (hi:i<x.length) (hj:j<x.length),i<j -> ¬ wlt x[j] x[i]):x.Pairwise wlt:=by
 have hnd:x.Nodup:=hp.nodup_iff.2 (hy.imp fun {a b} h e=>by subst e;exact ordsS.irr _ h)
 refine List.pairwise_iff_getElem.2 fun i j hi hj hij=>?_
 rcases ordsS.tri (x[i]).name (x[j]).name with q | q | q
 ·exact q
 ·have h1:x[i]∈y:=hp.mem_iff.1 (List.getElem_mem hi)
  have h2:x[j]∈y:=hp.mem_iff.1 (List.getElem_mem hj)
  obtain⟨a,ha,ea⟩:=List.getElem_of_mem h1
  obtain⟨b,hb,eb⟩:=List.getElem_of_mem h2
  have hpg:=List.pairwise_iff_getElem.1 hy
  have hab:a=b:=by
   rcases Nat.lt_trichotomy a b with g | g | g
   ·have:=hpg a b ha hb g
    unfold wlt at this
    rw[ea,eb,q] at this
    exact absurd this (ordsS.irr _)
   ·exact g
   ·have:=hpg b a hb ha g
    unfold wlt at this
    rw[ea,eb,q] at this
    exact absurd this (ordsS.irr _)
  subst hab
  have e:x[i]=x[j]:=ea.symm.trans eb
  have:=List.pairwise_iff_getElem.1 hnd i j hi hj hij
  exact absurd e this
 ·exact absurd q (hx i j hi hj hij)
theorem ZmL(lvl:Nat)(S:Sto)(id:Oid)(hw:Nat)(hid:id.1<lvl):Sem Tryz.prog Z2 lvl [.hd id [] 0 0 none hw,iI 0,iI 0,.fn Jn []] S (.tu []) S:=by
 have hne:id.1≠lvl:=by omega
 refine Zc Vi trivial ?_
 simp only[JH,EVA,seval,Zd,men]
 refine⟨by rw[Ze];omega,?_⟩
 refine ZY (α:=Unit) 0 (fun _ _=>⟨lvl,[(0,.hd id [] 0 0 none hw),(1,iI 0),(2,iI 0),(3,.fn Jn []),(8,iI 1)],[],S⟩) (fun _ _=>True) () ⟨by simp only[ZR hne,EVA,seval,Zd,men],by (simp only[EVA,seval,Zd,men]) <;> rfl⟩ trivial ?_
 intro _ _ _ _
 simp only[EVA,seval,Zd,men]
theorem ZmM(r:Int)(lvl:Nat)(S:Sto)(id:Oid)(hw:Nat)(hid:id.1<lvl):Sem Tryz.prog ZJ lvl [.hd id [] 0 0 none hw,iI 0,iI 0,iI r,.fn Jn []] S (.tu []) S:=by
 have hne:id.1≠lvl:=by omega
 refine Zc QR trivial ?_
 simp only[Yh,EVA,seval,Zd,men]
 refine ZY (α:=Unit) 0 (fun _ _=>⟨lvl,[(0,.hd id [] 0 0 none hw),(1,iI 0),(2,iI 0),(3,iI r),(4,.fn Jn []),(10,iB true),(11,iB true)],[],S⟩) (fun _ _=>True) () ⟨by simp only[ZR hne,EVA,seval,Zd,men],by (simp only[EVA,seval,Zd,men]) <;> rfl⟩ trivial ?_
 intro _ _ _ _
 simp only[EVA,seval,Zd,men]
 refine⟨by rw[Ze];omega,?_⟩
 simp only[Zcd]
 refine Qs [] S (fun _ _=>rfl) (ZmL (lvl+1) (ZG lvl [] S) id hw (by omega)) ?_
 simp only[ZR hne,EVA,seval,Zd,men]
theorem ZkT(lvl:Nat)(S:Sto)(id:Oid)(u:Bool)(hw ver:Nat)(hid:id.1<lvl)(hS:S id=some (.ar 2 [] u hw ver)):Sem Tryz.prog ZN lvl [.hd id [] 0 0 none hw,.fn Jn []] S (.tu []) (ZM S id (.ar 2 [] u hw ver)):=by
 rw[Qt hS]
 have hne:id.1≠lvl:=by omega
 obtain⟨r,hr⟩:=Zme (v:=0) (by omega) (by omega)
 refine Zc VI trivial ?_
 simp only[JU,EVA,seval,Zd,men]
 refine⟨⟨by decide,by decide⟩,Zb hr ?_⟩
 simp only[EVA,seval,Zd,men]
 refine Qs [] S (fun _ _=>rfl) (ZmM r (lvl+1) (ZG lvl [] S) id hw (by omega)) ?_
 simp only[ZR hne,EVA,seval,Zd,men]
theorem ZmN(l ys:List TWire)(hp:ys.Perm l)(hs:ys.Pairwise wlt)(hl:l.length<=4294967296)(lvl:Nat)(S:Sto)(id:Oid)(u:Bool)(hw ver:Nat)(hid:id.1<lvl)(hS:S id=some (.ar 2 (l.map ZC) u hw ver)) :
  Sem Tryz.prog ZN lvl [.hd id [] 0 l.length none hw,.fn Jn []] S (.tu []) (ZM S id (.ar 2 (ys.map ZC) u hw ver)):=by
 by_cases h0:l=[]
 ·subst h0
  have hy:ys=[]:=List.length_eq_zero_iff.1 (by simpa using hp.length_eq)
  subst hy
  exact ZkT lvl S id u hw ver hid hS
 ·have hpos:0<l.length:=List.length_pos_iff.2 h0
  refine ZgL (enc:=ZtR) (k:=2) (fun _=>rfl) (by decide) (Zgu (by kernel_rfl)) hid hS (fun x v hv=>by simp [ZtR] at hv;rcases hv with rfl | rfl <;> rfl) hp.length_eq hpos fun b cap w hH hb=>?_
  have hcon:=AnyQ.slices_SortFunc Tryz.sortW 2 Tryz.isAgg83 Tryz.sizeOf83 ZtR (fun _=>rfl) (fun x v hv=>by simp [ZtR] at hv;rcases hv with rfl | rfl <;> rfl) Zob Zz2 143 #[] b 0 cap l.toArray w (enters_of Tryz.func143 (by kernel_rfl) rfl) (Zoc b 0 _ w) hH hb (by simp;omega)
  have hsz:l.toArray.size=l.length:=by simp
  rw[hsz] at hcon
  refine Calls.mono hcon ?_
  rintro e w' ⟨rfl,d',n,os,hperm,hsort,rfl⟩
  refine⟨rfl,n,os,?_⟩
  have hds:d'.size=l.length:=by rw[hperm.1,hsz]
  have hd:d'.toList=ys:=by
   have h1:d'.toList.Perm l:=by
    have:=hperm.2.2
    rw[show d'.extract 0 l.length=d' from by rw[<-hds];exact Array.extract_size,show l.toArray.extract 0 l.length=l.toArray from by rw[<-hsz];exact Array.extract_size] at this
    simpa using this
   refine ZyN (Zz3 hs (h1.trans hp.symm) fun i j hi hj hij hlt=>?_) hs (h1.trans hp.symm)
   have hjj:j<d'.size:=by simpa using hj
   have hii:i<d'.size:=by simpa using hi
   have:=hsort i j (Nat.zero_le _) hij (by omega)
   rw[Zkh] at this
   have h2:d'[j]! = d'.toList[j]:=by simp [hjj]
   have h3:d'[i]! = d'.toList[i]:=by simp [hii]
   rw[h2,h3] at this
   unfold wlt ltS at hlt
   rw[this] at hlt
   cases hlt
  rw[<-hd]
end Go.Fd

/-
  BIGRAPHS SIDE BY SIDE, THE PROGRAM'S SIDE. Own work.
-/
namespace Go.Fd
set_option maxRecDepth 20000
theorem Zqv:ZP Proofs.Tryz.prog ZZ (ZlV 1 none)=true:=by kernel_rfl
theorem ZtS:ZP Proofs.Tryz.prog JT (ZoB ZZ)=true:=by kernel_rfl
theorem Zc7(b:List ByteArray)(s:ByteArray)(hb:b.length<=4294967296)(lvl:Nat)(S:Sto):Sem Proofs.Tryz.prog Ye lvl [iS s,.ta [Tr.sl (rS b)]] S (iB (dc (s∈b))) S:=by
 refine Zc ZaR trivial ?_
 simp only[Ws,EVA,↓reduceIte,Nat.reduceEqDiff,Nat.reduceMul,reduceCtorEq,Nat.reduceAdd,Nat.reduceSub,Nat.reduceLeDiff,Nat.reduceLT,Int.reduceToNat,Int.reduceLE,Int.reduceLT,Zd,men]
 refine Zb (ZbN b s hb) ?_
 simp only[EVA,↓reduceIte,Nat.reduceEqDiff,Nat.reduceMul,reduceCtorEq,Nat.reduceAdd,Nat.reduceSub,Nat.reduceLeDiff,Nat.reduceLT,Int.reduceToNat,Int.reduceLE,Int.reduceLT,Zd,men]
theorem ZaL(a b:List ByteArray)(ha:a.length<=4294967296)(hb:b.length<=4294967296)(lvl:Nat)(S:Sto):Sem Proofs.Tryz.prog YA lvl [.tr (.sl (rS a)),.tr (.sl (rS b))] S (iB (!dc (∀ x∈a,x ∉ b))) S:=by
 have q:=Zgt (P:=Proofs.Tryz.prog) ZtS Zqv (t:=fun n:ByteArray=>ts n) (f:=fun s=>dc (s∈b)) (fe:=Ye) (cs:=[[Tr.sl (rS b)]]) a (by omega) (fun x _ lvl S=>Zc7 b x hb lvl S)
 have e:a.any (fun s=>dc (s∈b)) = !dc (∀ x∈a,x ∉ b):=by
  cases h:dc (∀ x∈a,x ∉ b)
  ·have h1:=dc_not.1 h
   have:∃ x∈a,x∈b:=Classical.byContradiction fun g=>h1 fun x hx hb=>g ⟨x,hx,hb⟩
   obtain⟨x,hx,hxb⟩:=this
   simp only[Bool.not_false,List.any_eq_true]
   exact⟨x,hx,ZK hxb⟩
  ·have h1:=dc_iff.1 h
   simp only[Bool.not_true,List.any_eq_false]
   intro x hx
   rw[Zh (h1 x hx)]
   decide
 rw[e] at q
 refine Zc Zcs trivial ?_
 simp only[Uj,EVA,↓reduceIte,Nat.reduceEqDiff,Nat.reduceMul,reduceCtorEq,Nat.reduceAdd,Nat.reduceSub,Nat.reduceLeDiff,Nat.reduceLT,Int.reduceToNat,Int.reduceLE,Int.reduceLT,Zd,men]
 refine Zb q ?_
 simp only[EVA,↓reduceIte,Nat.reduceEqDiff,Nat.reduceMul,reduceCtorEq,Nat.reduceAdd,Nat.reduceSub,Nat.reduceLeDiff,Nat.reduceLT,Int.reduceToNat,Int.reduceLE,Int.reduceLT,Zd,men]
theorem Zfb(a:TBigraph)(p:Int)(hp:-4294967296<=p/\p<=4294967296)(ha:0<=a.roots/\a.roots<=4)(lvl:Nat)(S:Sto):Sem Proofs.Tryz.prog YE lvl [iI p,.ta (Za a)] S (iI (p-a.roots)) S:=by
 refine Zc Zcw trivial ?_
 simp only[Un,Za,EVA,↓reduceIte,Nat.reduceEqDiff,Nat.reduceMul,reduceCtorEq,Nat.reduceAdd,Nat.reduceSub,Nat.reduceLeDiff,Nat.reduceLT,Int.reduceToNat,Int.reduceLE,Int.reduceLT,Zd,men]
 rw[Ze];omega
theorem Zfc(e:Int×ByteArray)(lvl:Nat)(S:Sto):Sem Proofs.Tryz.prog YF lvl [oE e] S (oE e) S:=by
 refine Zc Zcx (by simp [low,men,Zd]) ?_
 simp only[Uo,EVA,↓reduceIte,Nat.reduceEqDiff,Nat.reduceMul,reduceCtorEq,Nat.reduceAdd,Nat.reduceSub,Nat.reduceLeDiff,Nat.reduceLT,Int.reduceToNat,Int.reduceLE,Int.reduceLT,Zd,men]
theorem ZyO{b:TBigraph}{F:Int->Int}:(b.inner.map (ZaX F)).map TWire.name=inn b:=by simp [inn,ZaX]
theorem Zki{sig:List TControl}{b:TBigraph}(h:bigOK sig b){F:Int->Int}:(b.inner.map (ZaX F)).Pairwise wlt:=by
 have hp:=Zdy h.inn
 unfold inn at hp
 rw[List.pairwise_map] at hp ⊢
 exact hp
theorem ZtT{sig:List TControl}{a b:TBigraph}(ha:bigOK sig a)(hb:bigOK sig b)(hd:∀ x∈inn a,x ∉ inn b){F F':Int->Int}:(Uq (a.inner.map (ZaX F)) (b.inner.map (ZaX F'))).Pairwise wlt :=
 Zkf (Zki ha) (Zki hb) fun x hx y hy e=>by
  refine hd x.name ?_ ?_
  ·rw[<-ZyO (F:=F)];exact List.mem_map.2 ⟨x,hx,rfl⟩
  ·rw[<-ZyO (F:=F'),e];exact List.mem_map.2 ⟨y,hy,rfl⟩
theorem Zod{a:TBigraph}:ZoO a.nodes.length (fun p=>p-a.roots)=ZmH a:=rfl
theorem Zqw{sig:List TControl}{a b:TBigraph}(ha:bigOK sig a)(hb:bigOK sig b) :
  Zan a b (a.roots+b.roots) a.sites (WD a b) (ZeH a (a.edges+b.edges) (WD a b) fun x=>x) (ZeH b (a.edges+b.edges) (WD a b) (Zc5 a fun s=>(0,s))) (ZmH a)=ZtQ a b :=
 Zew ha hb (fun l hl=>Zug ha hl) (fun l hl=>ZyL hb (fun i hi=>if_neg (ZgG hb.outer (List.getElem_mem hi))) hl) fun p _=>rfl
theorem Zqx{sig:List TControl}{a b:TBigraph}(ha:bigOK sig a):a.inner.map (ZaX (ZeH a (a.edges+b.edges) (WD a b) fun x=>x))=a.inner.map (ZaX fun l=>g0 (ZmI a b) l.toNat):=List.map_congr_left fun w hw=>by
 unfold ZaX
 rw[Zug ha (ha.inner w hw)]
 rfl
theorem Zh6(sig:List TControl)(a b:TBigraph)(ha:bigOK sig a)(hb:bigOK sig b)(hd:∀ x∈inn a,x ∉ inn b)(lvl:Nat)(S:Sto):Sem Proofs.Tryz.prog Q7 lvl [.ag ((Za a).map .tr),.ag ((Za b).map .tr)] S (Zmz (ZgM a b) (decide (b.nodes.length=0))) S:=by
 have ra:=ha.roots;have rb:=hb.roots
 have ea:=ha.edges;have eb:=hb.edges
 have sa:=ha.small;have sb:=hb.small
 have a1:=sa.nodes;have a2:=sa.sites;have a3:=sa.inner;have a4:=sa.outer
 have b1:=sb.nodes;have b2:=sb.sites;have b3:=sb.inner;have b4:=sb.outer
 have hol:=DQ (a:=a) (b:=b)
 have lnA:∀ x∈a.nodes,∀ l∈x.links,Jk a l:=fun x hx l hl=>by
  obtain⟨k,hk,rfl⟩:=List.getElem_of_mem hx
  exact(ha.nodes k hk).links l hl
 have hfl:[a.outer,b.outer].flatten=a.outer++b.outer:=by simp
 have hc:=Zi9 [a.outer,b.outer] (by simp) (by rw[hfl,List.length_append];omega)
 rw[hfl] at hc
 have qj:=Zex sig a b (ZtQ a b) ha hb (a.roots+b.roots) a.sites (by omega) (a.outer++b.outer) (by rw[List.length_append];omega) YE [Za a] (fun p=>p-a.roots) QM [] (fun s=>(0,s)) (fun p h1 h2 lvl S=>Zfb a p (by omega) ra lvl S) (fun x _ lvl S=>ZkQ x lvl S) (by rw[Zod];exact Zqw ha hb)
 have qr:=ZcU a (a.edges+b.edges) (a.outer++b.outer) YF [] (fun x=>x) ea.1 (UU (by omega) (Zag ha)) (by omega) (by omega) (by rw[List.length_append];omega) lnA ha.inner (fun l _ lvl S=>Zfc (Zdx a l) lvl S)
 refine Zc Zec (by simp [low,men,Zd]) ?_
 simp only[DI,Za,EVA,↓reduceIte,Nat.reduceEqDiff,Nat.reduceMul,reduceCtorEq,Nat.reduceAdd,Nat.reduceSub,Nat.reduceLeDiff,Nat.reduceLT,Int.reduceToNat,Int.reduceLE,Int.reduceLT,Zd,men]
 refine⟨by simp,by simp,Zb hc ?_⟩
 simp only[Za,List.length_map,EVA,↓reduceIte,Nat.reduceEqDiff,Nat.reduceMul,reduceCtorEq,Nat.reduceAdd,Nat.reduceSub,Nat.reduceLeDiff,Nat.reduceLT,Int.reduceToNat,Int.reduceLE,Int.reduceLT,Zd,men]
 simp only[Za,Zx6,List.map_cons,List.map_nil] at qj
 refine⟨by rw[Ze];omega,Zb qj ?_⟩
 simp only[Za,List.length_map,EVA,↓reduceIte,Nat.reduceEqDiff,Nat.reduceMul,reduceCtorEq,Nat.reduceAdd,Nat.reduceSub,Nat.reduceLeDiff,Nat.reduceLT,Int.reduceToNat,Int.reduceLE,Int.reduceLT,Zd,men]
 rw[show Q0 (a.outer++b.outer)=WD a b from rfl] at qr
 have hA1:a.inner.map (fun w=>({ name:=w.name,link:=ZeH a (a.edges+b.edges) (WD a b) (fun x=>x) w.link }:TWire))=a.inner.map (ZaX fun l=>g0 (ZmI a b) l.toNat):=Zqx ha
 simp only[Za,Zg,Zmk,List.map_cons,List.map_nil] at qr
 simp only[hA1] at qr
 obtain⟨A1,hA⟩:∃ l,l=a.inner.map (ZaX fun l=>g0 (ZmI a b) l.toNat):=⟨_,rfl⟩
 obtain⟨B1,hB⟩:∃ l,l=(ZtQ a b).inner:=⟨_,rfl⟩
 have hBb:B1=b.inner.map (ZaX fun l=>g0 (Zoa a b) l.toNat):=hB
 have lA:A1.length=a.inner.length:=by rw[hA,List.length_map]
 have lB:B1.length=b.inner.length:=by rw[hBb,List.length_map]
 have hpw:(Uq A1 B1).Pairwise wlt:=by rw[hA,hBb];exact ZtT ha hb hd
 have hmx:max a.inner.length (a.inner.length+b.inner.length)=a.inner.length+b.inner.length:=by omega
 have hpi:(ZgM a b).inner=Uq A1 B1:=by rw[hA,hBb];rfl
 rw[<-hA] at qr
 rw[<-hB]
 refine Zb qr ?_
 simp only[Za,ZtD,ZtE,lA,lB,hmx,List.length_append,List.length_map,EVA,↓reduceIte,Nat.reduceEqDiff,Nat.reduceMul,reduceCtorEq,Nat.reduceAdd,Nat.reduceSub,Nat.reduceLeDiff,Nat.reduceLT,Int.reduceToNat,Int.reduceLE,Int.reduceLT,Zd,men]
 rw[<-List.map_append]
 refine⟨by omega,?_⟩
 have hab:(A1++B1).length=a.inner.length+b.inner.length:=by rw[List.length_append];omega
 have s1:=fun S' hS=>ZmN (A1++B1) (Uq A1 B1) wjoin_perm hpw (by omega) (lvl+1) S' (lvl,963) true (a.inner.length+b.inner.length) 0 (Nat.lt_succ_self _) hS
 rw[hab] at s1
 refine ZiO 963 _ (s1 _ ?_) ?_
 ·rw[Yc];rfl
 simp only[ZbU,lA,lB,List.length_map,EVA,↓reduceIte,Nat.reduceEqDiff,Nat.reduceMul,reduceCtorEq,Nat.reduceAdd,Nat.reduceSub,Nat.reduceLeDiff,Nat.reduceLT,Int.reduceToNat,Int.reduceLE,Int.reduceLT,Zd,men]
 simp only[Zmz,hpi]
 rfl
theorem ZmO{sig:List TControl}{a b:TBigraph}(ha:bigOK sig a)(hb:bigOK sig b):∀ l,Jk b l->sm (g0 (Zoa a b) l.toNat):=fun l hl=>by
 have ea:=ha.edges;have eb:=hb.edges
 have a4:=ha.small.outer;have b4:=hb.small.outer
 have hol:=DQ (a:=a) (b:=b)
 refine ZmC ha hb (fun x hx=>?_) hl
 have:=Zj3 (l:=WD a b) (s:=x)
 have:=Zj4 (l:=WD a b) (s:=x)
 unfold sm
 omega
theorem ZmP{sig:List TControl}{a b:TBigraph}(ha:bigOK sig a)(hb:bigOK sig b):∀ l,Jk a l->sm (g0 (ZmI a b) l.toNat):=fun l hl=>by
 have a4:=ha.small.outer;have b4:=hb.small.outer
 have hol:=DQ (a:=a) (b:=b)
 exact Zi6 ha hb (by omega) l hl
theorem ZmQ{a b:TBigraph}{w:TWire}(h:w∈(ZgM a b).inner):w∈a.inner.map (ZaX fun l=>g0 (ZmI a b) l.toNat)\/w∈b.inner.map (ZaX fun l=>g0 (Zoa a b) l.toNat):=List.mem_append.1 (wjoin_perm.mem_iff.1 h)
theorem ZmR{sig:List TControl}{a b:TBigraph}(ha:bigOK sig a)(hb:bigOK sig b):Zl 4294967290 (ZgM a b):=by
 have sa:=ha.small;have sb:=hb.small
 have a2:=sa.sites;have a3:=sa.inner;have b3:=sb.inner;have a4:=sa.outer;have b4:=sb.outer
 have hol:=DQ (a:=a) (b:=b)
 obtain⟨b1,b2,b3',b4',b5,b6,b7⟩:=ZmA (roots:=a.roots+b.roots) (ss:=a.sites) (o:=WD a b) (FL:=fun l=>g0 (ZmI a b) l.toNat) (FR:=fun l=>g0 (Zoa a b) l.toNat) (mv:=ZmH a) ha hb (by omega) (by omega) fun y hy=>by
  rcases List.mem_append.1 (setS_mem.1 hy) with hy | hy
  ·have:=Qg ha.outer hy;omega
  ·have:=Qg hb.outer hy;omega
 refine⟨b1,b2,b3',b4',b5,?_,fun w hw=>?_⟩
 ·show (Uq _ _).length<=_
  rw[ZbU,List.length_map,List.length_map]
  omega
 ·rcases ZmQ hw with h | h
  ·obtain⟨x,hx,rfl⟩:=List.mem_map.1 h
   have:=Qg ha.inn (List.mem_map.2 ⟨x,hx,rfl⟩)
   simp only[Qe,ZaX]
   omega
  ·obtain⟨x,hx,rfl⟩:=List.mem_map.1 h
   have:=Qg hb.inn (List.mem_map.2 ⟨x,hx,rfl⟩)
   simp only[Qe,ZaX]
   omega
theorem ZtU{sig:List TControl}{a b:TBigraph}(ha:bigOK sig a)(hb:bigOK sig b){p:Int}(h1:-b.roots<=p)(h2:p<b.nodes.length):sm (ZmH a p):=by
 have a1:=ha.small.nodes;have b1:=hb.small.nodes
 have ra:=ha.roots;have rb:=hb.roots
 unfold ZmH sm
 split <;> omega
theorem Zqy{sig:List TControl}{a:TBigraph}(ha:bigOK sig a):∀ p∈a.sites,sm p:=fun p hp=>by
 have h1:=Y3 ha.roots.1 (ha.sites p hp)
 have h2:=ZbQ ha hp
 have ra:=ha.roots
 have a1:=ha.small.nodes
 unfold sm
 omega
theorem Zkj{sig:List TControl}{a b:TBigraph}(ha:bigOK sig a)(hb:bigOK sig b)(fa:Zr a)(fb:Zr b):Zr (ZgM a b):=by
 have ra:=ha.roots;have rb:=hb.roots
 obtain⟨f1,f2,f3,f4,f5⟩:=ZmB (roots:=a.roots+b.roots) (ss:=a.sites) (o:=WD a b) (FL:=fun l=>g0 (ZmI a b) l.toNat) (FR:=fun l=>g0 (Zoa a b) l.toNat) (mv:=ZmH a) ha hb fa fb (by unfold sm;omega) (Zqy ha) (ZmP ha hb) (ZmO ha hb) fun p h1 h2=>ZtU ha hb h1 h2
 refine⟨f1,f2,f3,f4,fun w hw=>?_⟩
 rcases ZmQ hw with h | h
 ·obtain⟨x,hx,rfl⟩:=List.mem_map.1 h
  exact ZbR (ZmP ha hb _ (ha.inner x hx))
 ·obtain⟨x,hx,rfl⟩:=List.mem_map.1 h
  exact ZbR (ZmO ha hb _ (hb.inner x hx))
def ZgN(sig:List TControl)(a b:TBigraph):Prop:=bigOK sig a/\bigOK sig b/\(∀ x∈inn a,x ∉ inn b)/\bigOK sig (ZgM a b)
open Classical in
noncomputable def QT(sig:List TControl)(a b:TBigraph):TBigraph:=if ZgN sig a b then ZgM a b else YO
noncomputable def QU(sig:List TControl)(a b:TBigraph):Bool:=dc (ZgN sig a b)
theorem Ur(sig:List TControl)(a b:TBigraph)(hn:sig.length<=4294967296)(hbs:∀ y∈sig,Zy 4294967296 y)(hba:Zl 4294967296 a)(hbb:Zl 4294967296 b)(fa:Zr a)(fb:Zr b)(lvl:Nat)(S:Sto):Sem Proofs.Tryz.prog Yp lvl [.tr (.sl (sig.map Zk)),.ag ((Za a).map .tr),.ag ((Za b).map .tr)] S (.tu [Zg (QT sig a b),iB (QU sig a b)]) S:=by
 refine Zc Dj (by simp [Zg,low,men,Zd]) ?_
 simp only[QY,Za,EVA,↓reduceIte,Nat.reduceEqDiff,Nat.reduceMul,reduceCtorEq,Nat.reduceAdd,Nat.reduceSub,Nat.reduceLeDiff,Nat.reduceLT,Int.reduceToNat,Int.reduceLE,Int.reduceLT,Zd,men]
 have i1:=Je sig a hn hbs hba
 have i2:=Je sig b hn hbs hbb
 simp only[Za,List.map_cons,List.map_nil] at i1 i2
 refine Zb i1 ?_
 unfold QT QU
 cases h1:dc (bigOK sig a)
 ·have hno:¬ ZgN sig a b:=fun g=>dc_not.1 h1 g.1
  rw[if_neg hno,Zh hno]
  simp only[EVA,↓reduceIte,Nat.reduceEqDiff,Nat.reduceMul,reduceCtorEq,Nat.reduceAdd,Nat.reduceSub,Nat.reduceLeDiff,Nat.reduceLT,Int.reduceToNat,Int.reduceLE,Int.reduceLT,Zd,men]
  rfl
 have hA:=dc_iff.1 h1
 simp only[Za,EVA,↓reduceIte,Nat.reduceEqDiff,Nat.reduceMul,reduceCtorEq,Nat.reduceAdd,Nat.reduceSub,Nat.reduceLeDiff,Nat.reduceLT,Int.reduceToNat,Int.reduceLE,Int.reduceLT,Zd,men]
 refine Zb i2 ?_
 cases h2:dc (bigOK sig b)
 ·have hno:¬ ZgN sig a b:=fun g=>dc_not.1 h2 g.2.1
  rw[if_neg hno,Zh hno]
  simp only[EVA,↓reduceIte,Nat.reduceEqDiff,Nat.reduceMul,reduceCtorEq,Nat.reduceAdd,Nat.reduceSub,Nat.reduceLeDiff,Nat.reduceLT,Int.reduceToNat,Int.reduceLE,Int.reduceLT,Zd,men]
  rfl
 have hB:=dc_iff.1 h2
 have sa:=hA.small;have sb:=hB.small
 have a3:=sa.inner;have b3:=sb.inner
 simp only[Za,EVA,↓reduceIte,Nat.reduceEqDiff,Nat.reduceMul,reduceCtorEq,Nat.reduceAdd,Nat.reduceSub,Nat.reduceLeDiff,Nat.reduceLT,Int.reduceToNat,Int.reduceLE,Int.reduceLT,Zd,men]
 have n1:=YQ a (by omega)
 have n2:=YQ b (by omega)
 simp only[Za,List.map_cons,List.map_nil] at n1 n2
 refine Zb n1 ?_
 simp only[Za,List.length_map,EVA,↓reduceIte,Nat.reduceEqDiff,Nat.reduceMul,reduceCtorEq,Nat.reduceAdd,Nat.reduceSub,Nat.reduceLeDiff,Nat.reduceLT,Int.reduceToNat,Int.reduceLE,Int.reduceLT,Zd,men]
 refine Zb n2 ?_
 simp only[Za,List.length_map,EVA,↓reduceIte,Nat.reduceEqDiff,Nat.reduceMul,reduceCtorEq,Nat.reduceAdd,Nat.reduceSub,Nat.reduceLeDiff,Nat.reduceLT,Int.reduceToNat,Int.reduceLE,Int.reduceLT,Zd,men]
 refine Zb (ZaL (inn a) (inn b) (by rw[Yr];omega) (by rw[Yr];omega)) ?_
 cases h3:dc (∀ x∈inn a,x ∉ inn b)
 ·have hno:¬ ZgN sig a b:=fun g=>dc_not.1 h3 g.2.2.1
  rw[if_neg hno,Zh hno]
  simp only[EVA,↓reduceIte,Nat.reduceEqDiff,Nat.reduceMul,reduceCtorEq,Nat.reduceAdd,Nat.reduceSub,Nat.reduceLeDiff,Nat.reduceLT,Int.reduceToNat,Int.reduceLE,Int.reduceLT,Zd,men]
  rfl
 have hD:=dc_iff.1 h3
 simp only[Za,EVA,↓reduceIte,Nat.reduceEqDiff,Nat.reduceMul,reduceCtorEq,Nat.reduceAdd,Nat.reduceSub,Nat.reduceLeDiff,Nat.reduceLT,Int.reduceToNat,Int.reduceLE,Int.reduceLT,Zd,men]
 have qc:=Zh6 sig a b hA hB hD
 simp only[Za,Zmz,List.map_cons,List.map_nil] at qc
 refine Zb qc ?_
 simp only[Za,List.length_map,EVA,↓reduceIte,Nat.reduceEqDiff,Nat.reduceMul,reduceCtorEq,Nat.reduceAdd,Nat.reduceSub,Nat.reduceLeDiff,Nat.reduceLT,Int.reduceToNat,Int.reduceLE,Int.reduceLT,Zd,men]
 have qv:=ZhY sig (ZgM a b) hn hbs (ZmR hA hB) (Zkj hA hB fa fb)
 simp only[Za,List.map_cons,List.map_nil] at qv
 refine Zb qv ?_
 cases h6:dc (bigOK sig (ZgM a b))
 ·have hno:¬ ZgN sig a b:=fun g=>dc_not.1 h6 g.2.2.2
  rw[if_neg hno,Zh hno,if_neg (dc_not.1 h6)]
  simp only[Zg,List.length_map,EVA,↓reduceIte,Nat.reduceEqDiff,Nat.reduceMul,reduceCtorEq,Nat.reduceAdd,Nat.reduceSub,Nat.reduceLeDiff,Nat.reduceLT,Int.reduceToNat,Int.reduceLE,Int.reduceLT,Zd,men]
  rfl
 ·have hyes:ZgN sig a b:=⟨hA,hB,hD,dc_iff.1 h6⟩
  rw[if_pos hyes,ZK hyes,if_pos (dc_iff.1 h6)]
  simp only[Zg,List.length_map,EVA,↓reduceIte,Nat.reduceEqDiff,Nat.reduceMul,reduceCtorEq,Nat.reduceAdd,Nat.reduceSub,Nat.reduceLeDiff,Nat.reduceLT,Int.reduceToNat,Int.reduceLE,Int.reduceLT,Zd,men]
end Go.Fd

/-
  BIGRAPHS SIDE BY SIDE: THE REFERENCE'S ANSWERS; JUXTAPOSITION (printed by mkpar.py). Own work.
-/
namespace Go.Fd
set_option maxRecDepth 20000
def Us(sig:List TControl)(a b:TBigraph):Prop:=(∀ x∈a.outer,x ∉ b.outer)/\ZgN sig a b
open Classical in
noncomputable def DR(sig:List TControl)(a b:TBigraph):TBigraph:=if Us sig a b then ZgM a b else YO
noncomputable def DS(sig:List TControl)(a b:TBigraph):Bool:=dc (Us sig a b)
theorem Zh7(sig:List TControl)(a b:TBigraph)(hn:sig.length<=4294967296)(hbs:∀ y∈sig,Zy 4294967296 y)(hba:Zl 4294967296 a)(hbb:Zl 4294967296 b)(fa:Zr a)(fb:Zr b)(lvl:Nat)(S:Sto):Sem Proofs.Tryz.prog Q5 lvl [.tr (.sl (sig.map Zk)),.ag ((Za a).map .tr),.ag ((Za b).map .tr)] S (.tu [@ite IV (Us sig a b) (Classical.propDecidable _) (.ag ((Za (ZgM a b)).map .tr)) (Zg YO),iB (dc (Us sig a b))]) S:=by
 refine Zc Zd9 (by split <;> simp [Zg,Za,low,men,Zd]) ?_
 simp only[DG,Za,EVA,seval,Zd,men]
 have i1:=Vv sig a hn hbs hba fa
 have i2:=Vv sig b hn hbs hbb fb
 simp only[Za,List.map_cons,List.map_nil] at i1 i2
 refine Zb i1 ?_
 cases h1:dc (bigOK sig a)
 ·have hno:¬ Us sig a b:=fun g=>dc_not.1 h1 g.2.1
  rw[if_neg hno,Zh hno]
  simp only[EVA,seval,Zd,men]
  rfl
 have hA:=dc_iff.1 h1
 simp only[Za,List.length_map,EVA,seval,Zd,men]
 refine Zb i2 ?_
 cases h2:dc (bigOK sig b)
 ·have hno:¬ Us sig a b:=fun g=>dc_not.1 h2 g.2.2.1
  rw[if_neg hno,Zh hno]
  simp only[EVA,seval,Zd,men]
  rfl
 have hB:=dc_iff.1 h2
 simp only[Za,List.length_map,EVA,seval,Zd,men]
 have sa:=hA.small;have sb:=hB.small
 have a3:=sa.inner;have b3:=sb.inner;have a4:=sa.outer;have b4:=sb.outer
 refine Zb (Zey a.outer b.outer (by omega) (by omega)) ?_
 cases h0:dc (∀ x∈a.outer,x ∉ b.outer)
 ·have hno:¬ Us sig a b:=fun g=>dc_not.1 h0 g.1
  rw[if_neg hno,Zh hno]
  simp only[EVA,seval,Zd,men]
  rfl
 have hO:=dc_iff.1 h0
 simp only[Za,List.length_map,EVA,seval,Zd,men]
 have n1:=Wv a (by omega)
 have n2:=Wv b (by omega)
 simp only[Za,List.map_cons,List.map_nil] at n1 n2
 refine Zb n1 ?_
 simp only[Za,List.length_map,EVA,seval,Zd,men]
 refine Zb n2 ?_
 simp only[Za,List.length_map,EVA,seval,Zd,men]
 refine Zb (Zey (inn a) (inn b) (by rw[Yr];omega) (by rw[Yr];omega)) ?_
 cases h3:dc (∀ x∈inn a,x ∉ inn b)
 ·have hno:¬ Us sig a b:=fun g=>dc_not.1 h3 g.2.2.2.1
  rw[if_neg hno,Zh hno]
  simp only[EVA,seval,Zd,men]
  rfl
 have hD:=dc_iff.1 h3
 simp only[Za,EVA,seval,Zd,men]
 have qc:=ZkS sig a b hA hB
 simp only[Za,Zmz,List.map_cons,List.map_nil] at qc
 refine Zb qc ?_
 simp only[Za,List.length_map,EVA,seval,Zd,men]
 by_cases hq:bigOK sig (ZgM a b)
 ·have qG:=ZcV sig (ZgM a b) hn hbs (UU (by omega) (ZmR hA hB)) (Zkj hA hB fa fb) hq
  simp only[Za,List.map_cons,List.map_nil] at qG
  have hyes:Us sig a b:=⟨hO,hA,hB,hD,hq⟩
  rw[if_pos hyes,ZK hyes]
  refine Zb qG ?_
  simp only[Zg,Za,List.length_map,EVA,seval,Zd,men]
 ·have qG:=ZcW sig (ZgM a b) hn hbs (UU (by omega) (ZmR hA hB)) (Zkj hA hB fa fb) hq
  simp only[Za,List.map_cons,List.map_nil] at qG
  have hno:¬ Us sig a b:=fun g=>hq g.2.2.2.2
  rw[if_neg hno,Zh hno]
  refine Zb qG ?_
  simp only[Zg,Za,List.length_map,EVA,seval,Zd,men]
  try rfl
theorem ZbV(sig:List TControl)(a b:TBigraph)(hn:sig.length<=4294967296)(hbs:∀ y∈sig,Zy 4294967296 y)(hba:Zl 4294967296 a)(hbb:Zl 4294967296 b)(fa:Zr a)(fb:Zr b)(lvl:Nat)(S:Sto):Sem Proofs.Tryz.prog QI lvl [.tr (.sl (sig.map Zk)),.ag ((Za a).map .tr),.ag ((Za b).map .tr)] S (.tu [Zg (DR sig a b),iB (DS sig a b)]) S:=by
 refine Zc Zc2 (by simp [Zg,low,men,Zd]) ?_
 simp only[U6,Za,EVA,seval,Zd,men]
 refine Zb (ZaL a.outer b.outer (by have:=hba.2.2.2.1;omega) (by have:=hbb.2.2.2.1;omega)) ?_
 unfold DR DS
 cases h0:dc (∀ x∈a.outer,x ∉ b.outer)
 ·have hno:¬ Us sig a b:=fun g=>dc_not.1 h0 g.1
  rw[if_neg hno,Zh hno]
  simp only[EVA,seval,Zd,men]
  rfl
 have hO:=dc_iff.1 h0
 simp only[Za,EVA,seval,Zd,men]
 have q:=Ur sig a b hn hbs hba hbb fa fb
 unfold QT QU at q
 simp only[Za,List.map_cons,List.map_nil] at q
 by_cases hq:ZgN sig a b
 ·have hyes:Us sig a b:=⟨hO,hq⟩
  rw[if_pos hq,ZK hq] at q
  rw[if_pos hyes,ZK hyes]
  refine Zb q ?_
  simp only[Zg,List.length_map,EVA,seval,Zd,men]
 ·have hno:¬ Us sig a b:=fun g=>hq g.2
  rw[if_neg hq,Zh hq] at q
  rw[if_neg hno,Zh hno]
  refine Zb q ?_
  simp only[Zg,List.length_map,EVA,seval,Zd,men]
  try rfl
end Go.Fd

/-
  RULES, BOTH SIDES. Own work.
-/
namespace Go.Fd
set_option maxRecDepth 20000
theorem Zjc(sig:List TControl)(b:TBigraph)(hn:sig.length<=4294967296)(hbs:∀ y∈sig,Zy 4294967296 y)(hb:Zl 4294967296 b)(hf:Zr b)(lvl:Nat)(S:Sto):Sem Proofs.Tryz.prog Xx lvl [.tr (.sl (sig.map Zk)),.ag ((Za b).map .tr)] S (iB (dc (bigOK sig b/\solid b))) S:=by
 refine Zc ZeN trivial ?_
 simp only[Zar,List.length_map,Za,EVA,seval,Zd,men]
 refine Zb (Vv sig b hn hbs hb hf) ?_
 cases h1:dc (bigOK sig b)
 ·simp only[EVA,seval,Zd,men]
  rw[Zh fun g:bigOK sig b/\solid b=>dc_not.1 h1 g.1]
 simp only[List.length_map,Za,EVA,seval,Zd,men]
 have g1:=dc_iff.1 h1
 refine Zb (ZiV b g1.small) ?_
 simp only[EVA,seval,Zd,men]
 rw[Y1 (p:=bigOK sig b/\solid b) ⟨fun g=>g.2,fun g=>⟨g1,g⟩⟩]
end Go.Fd

/-
  A CONTEXT AFTER A REDEX BESIDE AN IDENTITY, AFTER A PARAMETER: THE PARTS. Own work.
-/
namespace Go.Fd
set_option maxRecDepth 20000
def idW(l:List ByteArray):List TWire:=l.zipIdx.map fun p=>⟨p.1,(p.2:Int)⟩
def idB(l:List ByteArray):TBigraph:=⟨0,[],[],0,l,idW l⟩
theorem ZcD{l:List ByteArray}:(idW l).length=l.length:=by simp [idW]
theorem Zkk{l:List ByteArray}{j:Nat}(h:j<l.length):((idW l).take j).map ZC++[[ts l[j],tv (j:Int)]]=((idW l).take (j+1)).map ZC:=by
 rw[List.take_succ_eq_append_getElem (by rw[ZcD];exact h),List.map_append]
 congr 1
 simp [idW,ZC]
theorem ZmS{l:List ByteArray}:(idW l).take l.length=idW l:=List.take_of_length_le (by rw[ZcD];omega)
theorem ZoR{l:List ByteArray}{j:Nat}(h:j<=l.length):((idW l).take j).length=j:=by rw[List.length_take,ZcD];omega
theorem ZgO(l:List ByteArray)(hl:l.length<=4294967290)(lvl:Nat)(S:Sto):Sem Proofs.Tryz.prog Q4 lvl [iI 0,.tr (.sl (rS l))] S (Zg (idB l)) S:=by
 refine Zc Zd7 (by simp [Zg,low,men,Zd]) ?_
 simp only[DF,EVA,seval,Zd,men]
 refine Zb (ZcC l (by omega)) ?_
 simp only[zfill,zobs,VX,VY,List.set_cons_zero,List.set_cons_succ,List.length_map,EVA,seval,Zd,men]
 refine ZL (α:=Unit) 0 (fun j _=>[(14,iI j)]) (fun _ _=>[]) (fun _ _=>True) () (by simp only[EVA,seval,Zd,men]) (by (simp only[EVA,seval,Zd,men]) <;> rfl) trivial ?_
 intro j0 _ hj0 _
 obtain rfl:j0=0:=by omega
 simp only[List.length_map,EVA,seval,Zd,men]
 refine ZL (α:=Unit) l.length (fun j _=>[(27,iI j)]) (fun j _=>[(160,.bx [iI 0,.cs [],.hd (lvl,384) [] 0 0 none 0,iI 0,.hd (lvl,352) [] 0 l.length none l.length,.hd (lvl,385) [] 0 j none j]),(385,.ar 2 (((idW l).take j).map ZC) true j 0)]) (fun _ _=>True) () (by simp only[EVA,seval,Zd,men]) (by (simp only[EVA,seval,Zd,men]) <;> rfl) trivial ?_
 intro j _ hj _
 simp only[List.length_map,EVA,seval,Zd,men]
 refine Zo (fun hlt=>?_) (fun hge=>?_)
 ·have hja:j<l.length:=by omega
  have ga:=Zdt (e0:=e0S) (c:=fun n:ByteArray=>[ts n]) hja
  rw[Ww hja] at ga
  have hl2:=ZoR (l:=l) (j:=j) (by omega)
  have hsu:=Zkk hja
  simp only[ga,hja,hl2,hsu,List.length_map,EVA,seval,Zd,men]
  exact⟨by omega,by rw[Ze];omega,Zf () hja rfl trivial⟩
 ·have:j=l.length:=by omega
  subst this
  rw[ZmS]
  simp only[Zg,idB,List.length_map,ZcD,EVA,seval,Zd,men]
  try rfl
theorem Zez(l:List ByteArray)(hl:l.length<=4294967290)(lvl:Nat)(S:Sto):Sem Proofs.Tryz.prog V7 lvl [iI 0,.tr (.sl (rS l))] S (Zg (idB l)) S:=by
 refine Zc Zcr (by simp [Zg,low,men,Zd]) ?_
 simp only[Ui,ZoJ,ZoK,zfill,zobs,VX,VY,List.set_cons_zero,List.set_cons_succ,List.length_map,EVA,seval,Zd,men]
 refine⟨by omega,?_⟩
 refine ZL (α:=Unit) 0 (fun j _=>[(6,iI j)]) (fun _ _=>[]) (fun _ _=>True) () (by simp only[EVA,seval,Zd,men]) (by (simp only[EVA,seval,Zd,men]) <;> rfl) trivial ?_
 intro j0 _ hj0 _
 obtain rfl:j0=0:=by omega
 simp only[List.length_map,EVA,seval,Zd,men]
 refine ZL (α:=Unit) l.length (fun j _=>[(7,iI j)]) (fun j _=>[(160,.bx [iI 0,.cs [],.hd (lvl,384) [] 0 0 none 0,iI 0,.hd (lvl,288) [] 0 l.length none l.length,.hd (lvl,385) [] 0 j none j]),(385,.ar 2 (((idW l).take j).map ZC) true j 0)]) (fun _ _=>True) () (by simp only[EVA,seval,Zd,men]) (by (simp only[EVA,seval,Zd,men]) <;> rfl) trivial ?_
 intro j _ hj _
 simp only[List.length_map,EVA,seval,Zd,men]
 refine Zo (fun hlt=>?_) (fun hge=>?_)
 ·have hja:j<l.length:=by omega
  have ga:=Zdt (e0:=e0S) (c:=fun n:ByteArray=>[ts n]) hja
  rw[Ww hja] at ga
  have hl2:=ZoR (l:=l) (j:=j) (by omega)
  have hsu:=Zkk hja
  simp only[ga,hja,hl2,hsu,List.length_map,EVA,seval,Zd,men]
  exact⟨by omega,by rw[Ze];omega,Zf () hja rfl trivial⟩
 ·have:j=l.length:=by omega
  subst this
  rw[ZmS]
  simp only[Zg,idB,List.length_map,ZcD,EVA,seval,Zd,men]
  try rfl
theorem Zc8(r:TBigraph)(s:ByteArray)(hl:r.outer.length<=4294967296)(lvl:Nat)(S:Sto):Sem Proofs.Tryz.prog JE lvl [iS s,.ta (Za r)] S (iB (dc (s∈r.outer))) S:=by
 refine Zc ZaQ trivial ?_
 simp only[Wr,Za,EVA,seval,Zd,men]
 refine Zb (ZbN r.outer s hl) ?_
 simp only[EVA,seval,Zd,men]
noncomputable def nmR(r c:TBigraph):List ByteArray:=(inn c).filter fun s=>!dc (s∈r.outer)
theorem ZgP{r c:TBigraph}:(nmR r c).length<=c.inner.length:=by
 have:=List.length_filter_le (fun s=>!dc (s∈r.outer)) (inn c)
 rw[Yr] at this
 exact this
theorem ZtV{sig:List TControl}{c:TBigraph}(h:bigOK sig c):∀ s∈inn c,s.size<=4294967296:=fun s hs=>by
 obtain⟨w,hw,rfl⟩:=List.mem_map.1 hs
 exact Nat.le_trans ((Zag h).2.2.2.2.2.2 w hw) (by omega)
theorem Zx9{l:List ByteArray}(hl:l.length<=4294967290)(h:∀ s∈l,s.size<=4294967296):Zl 4294967296 (idB l):=by
 refine⟨by simp [idB],by simp [idB],by simp [idB],by simp only[idB];omega,h,by simp only[idB,ZcD];omega,fun y hy=>?_⟩
 obtain⟨p,hp,rfl⟩:=List.mem_map.1 (show y∈idW l from hy)
 exact h _ (by have:=List.mem_zipIdx hp;simp only at this ⊢;rw[this.2.2];exact List.getElem_mem _)
theorem Zya{l:List ByteArray}(hl:l.length<=4294967290):Zr (idB l):=by
 refine⟨by simp only[idB];rw[Ze];omega,by simp [idB],by simp [idB],by simp only[idB];rw[Ze];omega,fun y hy=>?_⟩
 obtain⟨p,hp,rfl⟩:=List.mem_map.1 (show y∈idW l from hy)
 have:=List.mem_zipIdx hp
 simp only[ZjQ]
 rw[Ze]
 omega
end Go.Fd

/-
  RecomposeMatch: BOTH SIDES. Own work.
-/
namespace Go.Fd
set_option maxRecDepth 20000
noncomputable def Zii(r c:TBigraph):TBigraph:=idB (nmR r c)
noncomputable def Zg4(r c:TBigraph):TBigraph:=ZgM r (Zii r c)
noncomputable def ZqN(r c p:TBigraph):TBigraph:=QW (QW c (Zg4 r c)) p
def ZaZ(sig:List TControl)(r c p:TBigraph):Prop:=Us sig r (Zii r c)/\VW sig c (Zg4 r c)/\VW sig (QW c (Zg4 r c)) p
def Zh8(sig:List TControl)(r c p:TBigraph):Prop:=bigOK sig r/\solid r/\bigOK sig c/\bigOK sig p/\ZaZ sig r c p
open Classical in
noncomputable def Zj(sig:List TControl)(r c p:TBigraph):TBigraph:=if Zh8 sig r c p then ZqN r c p else YO
noncomputable def J0(sig:List TControl)(r c p:TBigraph):Bool:=dc (Zh8 sig r c p)
theorem ZmT{sig:List TControl}{r c:TBigraph}(hc:bigOK sig c):Zl 4294967296 (Zii r c):=by
 have h1:=hc.small.inner
 have h2:=ZgP (r:=r) (c:=c)
 exact Zx9 (by omega) fun s hs=>ZtV hc s (List.mem_filter.1 hs).1
theorem Zjd{sig:List TControl}{r c:TBigraph}(hc:bigOK sig c):Zr (Zii r c):=by
 have h1:=hc.small.inner
 have h2:=ZgP (r:=r) (c:=c)
 exact Zya (by omega)
theorem Zoe{sig:List TControl}{b:TBigraph}(h:bigOK sig b):Zl 4294967296 b:=UU (by omega) (Zag h)
theorem ZmU{sig:List TControl}{r c:TBigraph}(fr:Zr r)(hc:bigOK sig c)(h:Us sig r (Zii r c)):bigOK sig (Zg4 r c)/\Zr (Zg4 r c):=⟨h.2.2.2.2,Zkj h.2.1 h.2.2.1 fr (Zjd hc)⟩
theorem ZmV{sig:List TControl}{a b:TBigraph}(fa:Zr a)(fb:Zr b)(h:VW sig a b):bigOK sig (QW a b)/\Zr (QW a b):=⟨h.2.2.2,ZgK h.1 h.2.1 h.2.2.1 fa fb⟩
theorem ZbW{α:Type}{f:α->List Tr}{l:List α}:cut (l.map f) 0 l.length=l.map f:=Qa (by rw[List.length_map])
theorem ZbX{l:List Int}:cut (rI l) 0 l.length=rI l:=Qa (by rw[List.length_map])
theorem ZbY{l:List ByteArray}:cut (rS l) 0 l.length=rS l:=Qa (by rw[List.length_map])
theorem Zfd(sig:List TControl)(r c p:TBigraph)(hn:sig.length<=4294967296)(hbs:∀ y∈sig,Zy 4294967296 y)(hbr:Zl 4294967296 r)(hbc:Zl 4294967296 c)(hbp:Zl 4294967296 p)(fr:Zr r)(fc:Zr c)(fp:Zr p)(hr:bigOK sig r)(hc:bigOK sig c)(lvl:Nat)(S:Sto):Sem Proofs.Tryz.prog V6 lvl [.tr (.sl (sig.map Zk)),.ag ((Za c).map .tr),.ag ((Za r).map .tr),.ag ((Za r).map .tr),.ag ((Za p).map .tr)] S (.tu [Zg (@ite TBigraph (ZaZ sig r c p) (Classical.propDecidable _) (ZqN r c p) YO),iB (dc (ZaZ sig r c p))]) S:=by
 refine Zc Zcq (by simp [Zg,low,men,Zd]) ?_
 have s1:=hc.small.inner
 have s2:=hr.small.outer
 have s3:=ZgP (r:=r) (c:=c)
 have n1:=YQ c (by omega)
 simp only[Za,List.map_cons,List.map_nil] at n1
 simp only[Uh,Za,EVA,seval,Zd,men]
 refine Zb n1 ?_
 simp only[Za,List.length_map,EVA,seval,Zd,men]
 have h1:∀ S',S' (lvl,544)=some (.ar 1 (rS (inn c)) true (inn c).length 0)->∃ v2,Sem Proofs.Tryz.prog ZW (lvl+1) [.hd (lvl,544) [] 0 (inn c).length none (inn c).length,.fn JE [.ta (Za r)]] S' (.hd (lvl,544) [] 0 (nmR r c).length none (inn c).length) (ZM S' (lvl,544) (.ar 1 (rS (nmR r c)) true (inn c).length v2)):=fun S' hS=>Zev (inn c) (by rw[Yr];omega) (fun s=>dc (s∈r.outer)) (fe:=JE) (cs:=[Za r]) (fun n lvl S=>Zc8 r n (by omega) lvl S) (lvl+1) S' (lvl,544) true (inn c).length 0 (Nat.lt_succ_self _) hS
 refine ZjV 544 _ (h1 _ ?_) fun v=>?_
 ·rw[Yc];rfl
 have hco:cut (rS (nmR r c)) 0 (nmR r c).length=rS (nmR r c):=Qa (by rw[List.length_map])
 simp only[hco,List.length_map,EVA,seval,Zd,men]
 have qi:=ZgO (nmR r c) (by omega)
 rw[show idB (nmR r c)=Zii r c from rfl] at qi
 refine Zb qi ?_
 have qj:=ZbV sig r (Zii r c) hn hbs hbr (ZmT hc) fr (Zjd hc)
 unfold DR DS at qj
 simp only[Zg,Za,ZbW,ZbX,ZbY,List.length_map,EVA,seval,Zd,men]
 by_cases hj:Us sig r (Zii r c)
 rotate_left
 ·have hno:¬ ZaZ sig r c p:=fun g=>hj g.1
  rw[if_neg hj,Zh hj] at qj
  rw[if_neg hno,Zh hno]
  simp only[Za,List.map_cons,List.map_nil] at qj
  refine Zb qj ?_
  simp only[Zg,List.length_map,EVA,seval,Zd,men]
  try rfl
 have hJ:=ZmU fr hc hj
 rw[if_pos hj,ZK hj] at qj
 rw[show ZgM r (Zii r c)=Zg4 r c from rfl] at qj
 simp only[Za,List.map_cons,List.map_nil] at qj
 refine Zb qj ?_
 have qc:=Qh sig c (Zg4 r c) hn hbs hbc (Zoe hJ.1) fc hJ.2
 unfold Y4 Y5 at qc
 simp only[Zg,Za,ZbW,ZbX,ZbY,List.length_map,EVA,seval,Zd,men]
 by_cases hk:VW sig c (Zg4 r c)
 rotate_left
 ·have hno:¬ ZaZ sig r c p:=fun g=>hk g.2.1
  rw[if_neg hk,Zh hk] at qc
  rw[if_neg hno,Zh hno]
  simp only[Za,List.map_cons,List.map_nil] at qc
  refine Zb qc ?_
  simp only[Zg,List.length_map,EVA,seval,Zd,men]
  try rfl
 have hK:=ZmV fc hJ.2 hk
 rw[if_pos hk,ZK hk] at qc
 simp only[Za,List.map_cons,List.map_nil] at qc
 refine Zb qc ?_
 have qp:=Qh sig (QW c (Zg4 r c)) p hn hbs (Zoe hK.1) hbp hK.2 fp
 unfold Y4 Y5 at qp
 simp only[Zg,Za,ZbW,ZbX,ZbY,List.length_map,EVA,seval,Zd,men]
 by_cases hm:VW sig (QW c (Zg4 r c)) p
 rotate_left
 ·have hno:¬ ZaZ sig r c p:=fun g=>hm g.2.2
  rw[if_neg hm,Zh hm] at qp
  rw[if_neg hno,Zh hno]
  simp only[Za,List.map_cons,List.map_nil] at qp
  refine Zb qp ?_
  simp only[Zg,List.length_map,EVA,seval,Zd,men]
  try rfl
 have hyes:ZaZ sig r c p:=⟨hj,hk,hm⟩
 rw[if_pos hm,ZK hm] at qp
 rw[if_pos hyes,ZK hyes]
 rw[show QW (QW c (Zg4 r c)) p=ZqN r c p from rfl] at qp
 simp only[Za,List.map_cons,List.map_nil] at qp
 refine Zb qp ?_
 simp only[Zg,List.length_map,EVA,seval,Zd,men]
 try rfl
theorem Zje(sig:List TControl)(a b:TBigraph)(hn:sig.length<=4294967296)(hbs:∀ y∈sig,Zy 4294967296 y)(hba:Zl 4294967296 a)(hbb:Zl 4294967296 b)(lvl:Nat)(S:Sto):Sem Proofs.Tryz.prog Wd lvl [.tr (.sl (sig.map Zk)),.ag ((Za a).map .tr),.ag ((Za b).map .tr)] S (iB (dc (bigOK sig a/\bigOK sig b))) S:=by
 have q1:=Je sig a hn hbs hba
 have q2:=Je sig b hn hbs hbb
 simp only[Za,List.map_cons,List.map_nil] at q1 q2
 refine Zc Zgf trivial ?_
 simp only[Zbo,Za,List.length_map,EVA,seval,Zd,men]
 refine Zb q1 ?_
 by_cases h1:bigOK sig a
 rotate_left
 ·rw[Zh h1,Zh fun h:bigOK sig a/\bigOK sig b=>h1 h.1]
  simp only[EVA,seval,Zd,men]
  try rfl
 rw[ZK h1]
 simp only[EVA,seval,Zd,men]
 refine Zb q2 ?_
 rw[Y1 (show bigOK sig a/\bigOK sig b↔bigOK sig b from ⟨fun h=>h.2,fun h=>⟨h1,h⟩⟩)]
 simp only[EVA,seval,Zd,men]
 try rfl
theorem JX(sig:List TControl)(r c p:TBigraph)(hn:sig.length<=4294967296)(hbs:∀ y∈sig,Zy 4294967296 y)(hbr:Zl 4294967296 r)(hbc:Zl 4294967296 c)(hbp:Zl 4294967296 p)(fr:Zr r)(fc:Zr c)(fp:Zr p)(lvl:Nat)(S:Sto):Sem Proofs.Tryz.prog JV lvl [.tr (.sl (sig.map Zk)),.ag ((Za r).map .tr),.ag ((Za c).map .tr),.ag ((Za p).map .tr)] S (.tu [Zg (Zj sig r c p),iB (J0 sig r c p)]) S:=by
 refine Zc Dz (by simp [Zg,low,men,Zd]) ?_
 unfold Zj J0
 have q1:=Je sig r hn hbs hbr
 simp only[Za,List.map_cons,List.map_nil] at q1
 simp only[Xk,Za,EVA,seval,Zd,men]
 refine Zb q1 ?_
 by_cases h1:bigOK sig r
 rotate_left
 ·have hno:¬ Zh8 sig r c p:=fun g=>h1 g.1
  rw[Zh h1,if_neg hno,Zh hno]
  simp only[EVA,seval,Zd,men]
  rfl
 rw[ZK h1]
 have q2:=Zc4 r h1.small
 simp only[Za,List.map_cons,List.map_nil] at q2
 simp only[Za,EVA,seval,Zd,men]
 refine Zb q2 ?_
 by_cases h2:solid r
 rotate_left
 ·have hno:¬ Zh8 sig r c p:=fun g=>h2 g.2.1
  rw[Zh h2,if_neg hno,Zh hno]
  simp only[EVA,seval,Zd,men]
  rfl
 rw[ZK h2]
 have q3:=Zje sig c p hn hbs hbc hbp
 simp only[Za,List.map_cons,List.map_nil] at q3
 simp only[Za,EVA,seval,Zd,men]
 refine Zb q3 ?_
 by_cases h3:bigOK sig c/\bigOK sig p
 rotate_left
 ·have hno:¬ Zh8 sig r c p:=fun g=>h3 ⟨g.2.2.1,g.2.2.2.1⟩
  rw[Zh h3,if_neg hno,Zh hno]
  simp only[EVA,seval,Zd,men]
  rfl
 rw[ZK h3]
 have q4:=Zfd sig r c p hn hbs hbr hbc hbp fr fc fp h1 h3.1
 simp only[Za,EVA,seval,Zd,men]
 by_cases h4:ZaZ sig r c p
 ·have hyes:Zh8 sig r c p:=⟨h1,h2,h3.1,h3.2,h4⟩
  rw[if_pos h4,ZK h4] at q4
  rw[if_pos hyes,ZK hyes]
  simp only[Za,List.map_cons,List.map_nil] at q4
  refine Zb q4 ?_
  simp only[Zg,List.length_map,EVA,seval,Zd,men]
  try rfl
 ·have hno:¬ Zh8 sig r c p:=fun g=>h4 g.2.2.2.2
  rw[if_neg h4,Zh h4] at q4
  rw[if_neg hno,Zh hno]
  simp only[Za,List.map_cons,List.map_nil] at q4
  refine Zb q4 ?_
  simp only[Zg,List.length_map,EVA,seval,Zd,men]
  try rfl
end Go.Fd

/-
  RecomposeMatch: THE REFERENCE'S SIDE. Own work.
-/
namespace Go.Fd
set_option maxRecDepth 20000
noncomputable def nmT(r c:TBigraph)(j:Nat):List ByteArray:=((inn c).take j).filter fun s=>!dc (s∈r.outer)
theorem ZtW{r c:TBigraph}{j:Nat}(h:j<(inn c).length)(e:(inn c)[j]∈r.outer):nmT r c (j+1)=nmT r c j:=by
 unfold nmT
 rw[List.take_succ_eq_append_getElem h,List.filter_append]
 simp [ZK e]
theorem Zqz{r c:TBigraph}{j:Nat}(h:j<(inn c).length)(e:¬ (inn c)[j]∈r.outer):nmT r c (j+1)=nmT r c j++[(inn c)[j]]:=by
 unfold nmT
 rw[List.take_succ_eq_append_getElem h,List.filter_append]
 simp [Zh e]
theorem ZqA{r c:TBigraph}:nmT r c (inn c).length=nmR r c:=by
 unfold nmT nmR
 rw[List.take_length]
theorem Zh9(sig:List TControl)(r c:TBigraph)(hn:sig.length<=4294967296)(hbs:∀ y∈sig,Zy 4294967296 y)(hbr:Zl 4294967296 r)(fr:Zr r)(hr:bigOK sig r)(hc:bigOK sig c)(lvl:Nat)(S:Sto):Sem Proofs.Tryz.prog Q3 lvl [.tr (.sl (sig.map Zk)),.ag ((Za r).map .tr),.ag ((Za c).map .tr)] S (.tu [@ite IV (Us sig r (Zii r c)) (Classical.propDecidable _) (.ag ((Za (Zg4 r c)).map .tr)) (Zg YO),iB (dc (Us sig r (Zii r c)))]) S:=by
 refine Zc Zd5 (by split <;> simp [Zg,Za,low,men,Zd]) ?_
 have s1:=hc.small.inner
 have s2:=hr.small.outer
 have s3:=ZgP (r:=r) (c:=c)
 have n1:=Wv c (by omega)
 simp only[Za,List.map_cons,List.map_nil] at n1
 simp only[DB,Za,EVA,seval,Zd,men]
 refine Zb n1 ?_
 simp only[Za,List.length_map,EVA,seval,Zd,men]
 have hin:(inn c).length=c.inner.length:=Yr
 refine ZL (α:=Unit) (inn c).length (fun j _=>[(8,.hd (lvl,352) [] 0 (nmT r c j).length none (nmT r c j).length),(10,iI j)]) (fun j _=>[(352,.ar 1 (rS (nmT r c j)) true (nmT r c j).length 0)]) (fun _ _=>True) () (by simp only[EVA,seval,Zd,men]) (by (simp only[EVA,seval,Zd,men]) <;> rfl) trivial ?_
 intro j _ hj _
 simp only[List.length_map,EVA,seval,Zd,men]
 refine Zo (fun hlt=>?_) (fun hge=>?_)
 ·have hja:j<(inn c).length:=by omega
  have ga:=Zdt (e0:=e0S) (c:=fun n:ByteArray=>[ts n]) hja
  rw[Ww hja] at ga
  have hle:(nmT r c j).length<=j:=Nat.le_trans (List.length_filter_le ..) (by rw[List.length_take];omega)
  have hci:cut (rS (inn c)) 0 (inn c).length=rS (inn c):=Qa (by rw[List.length_map])
  simp only[ga,hja,hci,Za,List.length_map,EVA,seval,Zd,men]
  refine Zb (ZgH r.outer (inn c)[j] (by omega)) ?_
  by_cases h:(inn c)[j]∈r.outer
  ·have hs:=ZtW hja h
   have h0:=ixS_nn.2 h
   have hx:¬ ixS r.outer (inn c)[j]<0:=by omega
   simp only[hx,EVA,seval,Zd,men]
   exact⟨by rw[Ze];omega,Zf () hja (by rw[hs];rfl) trivial⟩
  ·have hs:=Zqz hja h
   have hx:ixS r.outer (inn c)[j]<0:=by rw[Zml h];omega
   simp only[hx,ga,hja,hci,List.length_map,EVA,seval,Zd,men]
   exact⟨by omega,by rw[Ze];omega,Zf () hja (by rw[hs,List.length_append,Zem];rfl) trivial⟩
 ·have:j=(inn c).length:=by omega
  subst this
  rw[ZqA]
  have hco:cut (rS (nmR r c)) 0 (nmR r c).length=rS (nmR r c):=Qa (by rw[List.length_map])
  simp only[hco,Za,List.length_map,EVA,seval,Zd,men]
  have qi:=Zez (nmR r c) (by omega)
  rw[show idB (nmR r c)=Zii r c from rfl] at qi
  refine Zb qi ?_
  have qj:=Zh7 sig r (Zii r c) hn hbs hbr (ZmT hc) fr (Zjd hc)
  rw[show ZgM r (Zii r c)=Zg4 r c from rfl] at qj
  simp only[Zg,Za,ZbW,ZbX,ZbY,List.length_map,EVA,seval,Zd,men]
  by_cases hj:Us sig r (Zii r c)
  ·rw[if_pos hj,ZK hj] at qj
   rw[if_pos hj,ZK hj]
   simp only[Za,List.map_cons,List.map_nil] at qj
   refine Zb qj ?_
   simp only[Zg,Za,ZbW,ZbX,ZbY,List.length_map,EVA,seval,Zd,men]
   try rfl
  ·rw[if_neg hj,Zh hj] at qj
   rw[if_neg hj,Zh hj]
   simp only[Za,List.map_cons,List.map_nil] at qj
   refine Zb qj ?_
   simp only[Zg,List.length_map,EVA,seval,Zd,men]
   try rfl
theorem Zia(sig:List TControl)(r c p:TBigraph)(hn:sig.length<=4294967296)(hbs:∀ y∈sig,Zy 4294967296 y)(hbr:Zl 4294967296 r)(hbc:Zl 4294967296 c)(hbp:Zl 4294967296 p)(fr:Zr r)(fc:Zr c)(fp:Zr p)(hr:bigOK sig r)(hc:bigOK sig c)(lvl:Nat)(S:Sto):Sem Proofs.Tryz.prog Q1 lvl [.tr (.sl (sig.map Zk)),.ag ((Za r).map .tr),.ag ((Za c).map .tr),.ag ((Za p).map .tr)] S (.tu [@ite IV (ZaZ sig r c p) (Classical.propDecidable _) (.ag ((Za (ZqN r c p)).map .tr)) (Zg YO),iB (dc (ZaZ sig r c p))]) S:=by
 refine Zc Zd3 (by split <;> simp [Zg,Za,low,men,Zd]) ?_
 have q1:=Zh9 sig r c hn hbs hbr fr hr hc
 simp only[Za,List.map_cons,List.map_nil] at q1
 simp only[DA,Za,EVA,seval,Zd,men]
 by_cases hj:Us sig r (Zii r c)
 rotate_left
 ·have hno:¬ ZaZ sig r c p:=fun g=>hj g.1
  rw[if_neg hj,Zh hj] at q1
  rw[if_neg hno,Zh hno]
  refine Zb q1 ?_
  simp only[Zg,YO,List.length_map,EVA,seval,Zd,men]
  try rfl
 have hJ:=ZmU fr hc hj
 rw[if_pos hj,ZK hj] at q1
 refine Zb q1 ?_
 have qc:=ZbS sig c (Zg4 r c) hn hbs hbc (Zoe hJ.1) fc hJ.2
 simp only[Zg,Za,ZbW,ZbX,ZbY,List.length_map,EVA,seval,Zd,men]
 by_cases hk:VW sig c (Zg4 r c)
 rotate_left
 ·have hno:¬ ZaZ sig r c p:=fun g=>hk g.2.1
  rw[if_neg hk,Zh hk] at qc
  rw[if_neg hno,Zh hno]
  simp only[Za,List.map_cons,List.map_nil] at qc
  refine Zb qc ?_
  simp only[Zg,YO,List.length_map,EVA,seval,Zd,men]
  try rfl
 have hK:=ZmV fc hJ.2 hk
 rw[if_pos hk,ZK hk] at qc
 simp only[Za,List.map_cons,List.map_nil] at qc
 refine Zb qc ?_
 have qp:=ZbS sig (QW c (Zg4 r c)) p hn hbs (Zoe hK.1) hbp hK.2 fp
 rw[show QW (QW c (Zg4 r c)) p=ZqN r c p from rfl] at qp
 simp only[Zg,Za,ZbW,ZbX,ZbY,List.length_map,EVA,seval,Zd,men]
 by_cases hm:VW sig (QW c (Zg4 r c)) p
 rotate_left
 ·have hno:¬ ZaZ sig r c p:=fun g=>hm g.2.2
  rw[if_neg hm,Zh hm] at qp
  rw[if_neg hno,Zh hno]
  simp only[Za,List.map_cons,List.map_nil] at qp
  refine Zb qp ?_
  simp only[Zg,YO,List.length_map,EVA,seval,Zd,men]
  try rfl
 have hyes:ZaZ sig r c p:=⟨hj,hk,hm⟩
 rw[if_pos hm,ZK hm] at qp
 rw[if_pos hyes,ZK hyes]
 simp only[Za,List.map_cons,List.map_nil] at qp
 refine Zb qp ?_
 simp only[Zg,Za,ZbW,ZbX,ZbY,List.length_map,EVA,seval,Zd,men]
 try rfl
theorem Xp(sig:List TControl)(r c p:TBigraph)(hn:sig.length<=4294967296)(hbs:∀ y∈sig,Zy 4294967296 y)(hbr:Zl 4294967296 r)(hbc:Zl 4294967296 c)(hbp:Zl 4294967296 p)(fr:Zr r)(fc:Zr c)(fp:Zr p)(lvl:Nat)(S:Sto):Sem Proofs.Tryz.prog Jq lvl [.tr (.sl (sig.map Zk)),.ag ((Za r).map .tr),.ag ((Za c).map .tr),.ag ((Za p).map .tr)] S (.tu [@ite IV (Zh8 sig r c p) (Classical.propDecidable _) (.ag ((Za (ZqN r c p)).map .tr)) (Zg YO),iB (dc (Zh8 sig r c p))]) S:=by
 refine Zc Dy (by split <;> simp [Zg,Za,low,men,Zd]) ?_
 have q1:=Zjc sig r hn hbs hbr fr
 simp only[Za,List.map_cons,List.map_nil] at q1
 simp only[Xj,Za,EVA,seval,Zd,men]
 refine Zb q1 ?_
 by_cases h1:bigOK sig r/\solid r
 rotate_left
 ·have hno:¬ Zh8 sig r c p:=fun g=>h1 ⟨g.1,g.2.1⟩
  rw[Zh h1,if_neg hno,Zh hno]
  simp only[EVA,seval,Zd,men]
  rfl
 rw[ZK h1]
 have q2:=Vv sig c hn hbs hbc fc
 simp only[Za,List.map_cons,List.map_nil] at q2
 simp only[Za,EVA,seval,Zd,men]
 refine Zb q2 ?_
 by_cases h2:bigOK sig c
 rotate_left
 ·have hno:¬ Zh8 sig r c p:=fun g=>h2 g.2.2.1
  rw[Zh h2,if_neg hno,Zh hno]
  simp only[EVA,seval,Zd,men]
  rfl
 rw[ZK h2]
 have q3:=Vv sig p hn hbs hbp fp
 simp only[Za,List.map_cons,List.map_nil] at q3
 simp only[Za,EVA,seval,Zd,men]
 refine Zb q3 ?_
 by_cases h3:bigOK sig p
 rotate_left
 ·have hno:¬ Zh8 sig r c p:=fun g=>h3 g.2.2.2.1
  rw[Zh h3,if_neg hno,Zh hno]
  simp only[EVA,seval,Zd,men]
  rfl
 rw[ZK h3]
 have q4:=Zia sig r c p hn hbs hbr hbc hbp fr fc fp h1.1 h2
 simp only[Za,EVA,seval,Zd,men]
 by_cases h4:ZaZ sig r c p
 ·have hyes:Zh8 sig r c p:=⟨h1.1,h1.2,h2,h3,h4⟩
  rw[if_pos h4,ZK h4] at q4
  rw[if_pos hyes,ZK hyes]
  simp only[Za,List.map_cons,List.map_nil] at q4
  refine Zb q4 ?_
  simp only[Zg,Za,ZbW,ZbX,ZbY,List.length_map,EVA,seval,Zd,men]
  try rfl
 ·have hno:¬ Zh8 sig r c p:=fun g=>h4 g.2.2.2.2
  rw[if_neg h4,Zh h4] at q4
  rw[if_neg hno,Zh hno]
  simp only[Za,List.map_cons,List.map_nil] at q4
  refine Zb q4 ?_
  simp only[Zg,List.length_map,EVA,seval,Zd,men]
  try rfl
theorem W2(sig:List TControl)(r c p:TBigraph)(hn:sig.length<=4294967296)(hbs:∀ y∈sig,Zy 4294967296 y)(hbr:Zl 4294967296 r)(hbc:Zl 4294967296 c)(hbp:Zl 4294967296 p)(fr:Zr r)(fc:Zr c)(fp:Zr p)(hB:Zh8 sig r c p)(lvl:Nat)(S:Sto):Sem Proofs.Tryz.prog Jq lvl [.tr (.sl (sig.map Zk)),.ag ((Za r).map .tr),.ag ((Za c).map .tr),.ag ((Za p).map .tr)] S (.tu [.ag ((Za (Zj sig r c p)).map .tr),iB (J0 sig r c p)]) S:=by
 have h:=Xp sig r c p hn hbs hbr hbc hbp fr fc fp lvl S
 unfold Zj J0
 rw[if_pos hB,ZK hB]
 rw[if_pos hB,ZK hB] at h
 exact h
theorem W3(sig:List TControl)(r c p:TBigraph)(hn:sig.length<=4294967296)(hbs:∀ y∈sig,Zy 4294967296 y)(hbr:Zl 4294967296 r)(hbc:Zl 4294967296 c)(hbp:Zl 4294967296 p)(fr:Zr r)(fc:Zr c)(fp:Zr p)(hB:¬ Zh8 sig r c p)(lvl:Nat)(S:Sto):Sem Proofs.Tryz.prog Jq lvl [.tr (.sl (sig.map Zk)),.ag ((Za r).map .tr),.ag ((Za c).map .tr),.ag ((Za p).map .tr)] S (.tu [Zg (Zj sig r c p),iB (J0 sig r c p)]) S:=by
 have h:=Xp sig r c p hn hbs hbr hbc hbp fr fc fp lvl S
 unfold Zj J0
 rw[if_neg hB,Zh hB]
 rw[if_neg hB,Zh hB] at h
 exact h
end Go.Fd

/-
  The annotated codes of the functions, printed by a program of mine (gen.py), and the check that they belong to the program.
-/
namespace Go.Fd
def Y6:F2 :=
 { nt:=165,res:=[.t 8 [0]],body:=(.sq (rg [oo 5 (.bt (.t 1)),oo 6 (.bt (.t 2)),oo 7 (.bt (.t 3)),om 8 (.k (.bool false))]) (.sq (rg [om 9 (i6 1048576)]) (.sq (rg [qM 23 0,qM 24 9,oo 25 (.ca .pure false (.f V4) [.t 23,.t 24]),qM 9 25]) (.sq (.sq (rg [qM 26 9,oo 27 (.bi .lss 0 (.t 26) (i6 0))]) (.cd (.t 27) (.sq (rg [om 8 (.k (.bool true))]) (.rt)) (.sk))) (.sq (rg [qS 28 6 5,qM 29 9,oo 30 (.ca .pure false (.f Yd) [.t 28,.t 29]),qM 9 30]) (.sq (.sq (rg [qM 31 9,oo 32 (.bi .lss 0 (.t 31) (i6 0))]) (.cd (.t 32) (.sq (rg [om 8 (.k (.bool true))]) (.rt)) (.sk))) (.sq (rg [qS 33 6 6,qM 34 9,oo 35 (.ca .pure false (.f Yd) [.t 33,.t 34]),qM 9 35]) (.sq (.sq (rg [qM 36 9,oo 37 (.bi .lss 0 (.t 36) (i6 0))]) (.cd (.t 37) (.sq (rg [om 8 (.k (.bool true))]) (.rt)) (.sk))) (.sq (rg [qS 38 6 7,qM 39 9,oo 40 (.ca .pure false (.f Yd) [.t 38,.t 39]),qM 9 40]) (.sq (.sq (rg [qM 41 9,oo 42 (.bi .lss 0 (.t 41) (i6 0))]) (.cd (.t 42) (.sq (rg [om 8 (.k (.bool true))]) (.rt)) (.sk))) (.sq (.rg (some 0) [qM 44 0,oo 45 (.ca .pure false (.f Jx) [.t 44]),qS 46 6 5,oo 47 (.ca .pure false (.f Zx) [.t 46]),qS 48 6 6,oo 49 (.ca .pure false (.f Zx) [.t 48]),qS 50 6 7,oo 51 (.ca .pure false (.f Zx) [.t 50]),oo 52 (.ca .pure false (.f Jq) [.t 45,.t 47,.t 49,.t 51]),qM 43 52,qE 53 0 43,qE 54 1 43,oo 10 (.al [.int .i64 0,.slice none 0 0,.slice none 0 0,.int .i64 0,.slice none 0 0,.slice none 0 0] []),on1 (.s0 6 (.t 10) (.t 53)),qM 11 54]) (.sq (rg [qM 55 0,oo 56 (.ca .pure true (.f Jx) [.t 55]),qM 12 56]) (.sq (rg [qS 57 6 5,oo 58 (.ca .pure true (.f Zx) [.t 57]),oo 13 (.al [.int .i64 0,.slice none 0 0,.slice none 0 0,.int .i64 0,.slice none 0 0,.slice none 0 0] []),on1 (.st 6 (.t 13) (.t 58))]) (.sq (rg [qS 59 6 6,oo 60 (.ca .pure true (.f Zx) [.t 59]),oo 14 (.al [.int .i64 0,.slice none 0 0,.slice none 0 0,.int .i64 0,.slice none 0 0,.slice none 0 0] []),on1 (.st 6 (.t 14) (.t 60))]) (.sq (rg [qS 61 6 7,oo 62 (.ca .pure true (.f Zx) [.t 61]),oo 15 (.al [.int .i64 0,.slice none 0 0,.slice none 0 0,.int .i64 0,.slice none 0 0,.slice none 0 0] []),on1 (.st 6 (.t 15) (.t 62))]) (.sq (rg [qM 64 12,qS 65 6 13,qS 66 6 14,qS 67 6 15,oo 68 (.ca .pure true (.f JV) [.t 64,.t 65,.t 66,.t 67]),qM 63 68,qE 69 0 63,qE 70 1 63,oo 16 (.al [.int .i64 0,.slice none 0 0,.slice none 0 0,.int .i64 0,.slice none 0 0,.slice none 0 0] []),on1 (.st 6 (.t 16) (.t 69)),qM 17 70]) (.sq (.sq (rg [qS 71 6 16,qS 72 6 10,oo 73 (.ca .pure false (.f Jd) [.t 71,.t 72]),oo 74 (.nt (.t 73)),qM 75 74,og 76 75 false (.mv (.t 17) none),og 77 75 false (.mv (.t 11) none),og 78 75 false (.bi .neq 2 (.t 76) (.t 77)),oo 79 (.pk (.t 75) (.k (.bool true)) (.t 78))]) (.cd (.t 79) (.sq (rg [om 8 (.k (.bool false))]) (.rt)) (.sk))) (.sq (.sq (rg [qM 80 12,qM 81 0,oo 82 (.ca .pure false (.f Jx) [.t 81]),oo 83 (.ca .pure false (.f V5) [.t 80,.t 82]),oo 84 (.nt (.t 83))]) (.cd (.t 84) (.sq (rg [om 8 (.k (.bool false))]) (.rt)) (.sk))) (.sq (.sq (.rg (some 0) [qS 85 6 13,qS 86 6 5,oo 87 (.ca .pure false (.f Zx) [.t 86]),oo 88 (.ca .pure false (.f Jd) [.t 85,.t 87]),oo 89 (.nt (.t 88))]) (.cd (.t 89) (.sq (rg [om 8 (.k (.bool false))]) (.rt)) (.sk))) (.sq (.sq (.rg (some 0) [qS 90 6 14,qS 91 6 6,oo 92 (.ca .pure false (.f Zx) [.t 91]),oo 93 (.ca .pure false (.f Jd) [.t 90,.t 92]),oo 94 (.nt (.t 93))]) (.cd (.t 94) (.sq (rg [om 8 (.k (.bool false))]) (.rt)) (.sk))) (.sq (.sq (.rg (some 0) [qS 95 6 15,qS 96 6 7,oo 97 (.ca .pure false (.f Zx) [.t 96]),oo 98 (.ca .pure false (.f Jd) [.t 95,.t 97]),oo 99 (.nt (.t 98))]) (.cd (.t 99) (.sq (rg [om 8 (.k (.bool false))]) (.rt)) (.sk))) (.sq (rg [om 18 (i6 1)]) (.sq (rg [qM 100 12,qM 101 18,oo 102 (.ca .any true (.f Vb) [.t 100,.t 101]),qM 18 102]) (.sq (rg [qS 103 6 13,qM 104 18,oo 105 (.ca .any true (.f Ja) [.t 103,.t 104]),qM 18 105]) (.sq (rg [qS 106 6 14,qM 107 18,oo 108 (.ca .any true (.f Ja) [.t 106,.t 107]),qM 18 108]) (.sq (rg [qS 109 6 15,qM 110 18,oo 111 (.ca .any true (.f Ja) [.t 109,.t 110]),qM 18 111]) (.sq (.sq (rg [qM 112 18,oo 113 (.bi .lss 0 (.t 112) (i6 0)),qM 114 113,og 115 114 false (.ld (some 6) (.t 16)),og 116 114 false (.ld (some 6) (.t 10)),og 117 114 false (.ca .pure false (.f Jd) [.t 115,.t 116]),og 118 114 false (.nt (.t 117)),oo 119 (.pk (.t 114) (.k (.bool true)) (.t 118)),qM 120 119,og 121 120 false (.mv (.t 17) none),og 122 120 false (.mv (.t 11) none),og 123 120 false (.bi .neq 2 (.t 121) (.t 122)),oo 124 (.pk (.t 120) (.k (.bool true)) (.t 123))]) (.cd (.t 124) (.sq (rg [om 8 (.k (.bool false))]) (.rt)) (.sk))) (.sq (rg [om 19 (i6 1)]) (.sq (rg [qS 125 6 16,qM 126 19,oo 127 (.ca .any true (.f Ja) [.t 125,.t 126]),qM 19 127]) (.sq (rg [om 20 (i6 1)]) (.sq (rg [qS 128 6 16,qM 129 20,oo 130 (.ca .pure false (.f Ym) [.t 128,.t 129]),qM 20 130]) (.sq (.sq (rg [qM 131 20,oo 132 (.bi .lss 0 (.t 131) (i6 0))]) (.cd (.t 132) (.sq (rg [om 8 (.k (.bool false))]) (.rt)) (.sk))) (.sq (.sq (rg [qM 133 20,qM 134 19,qB 135 .neq 133 134]) (.cd (.t 135) (.sq (rg [om 8 (.k (.bool false))]) (.rt)) (.sk))) (.sq (.rg (some 0) [qM 137 0,oo 138 (.ca .pure false (.f Jx) [.t 137]),qS 139 6 5,oo 140 (.ca .pure false (.f Zx) [.t 139]),qS 141 6 6,oo 142 (.ca .pure false (.f Zx) [.t 141]),qS 143 6 7,oo 144 (.ca .pure false (.f Zx) [.t 143]),oo 145 (.ca .pure false (.f JV) [.t 138,.t 140,.t 142,.t 144]),qM 136 145,qE 146 0 136,qE 147 1 136,oo 21 (.al [.int .i64 0,.slice none 0 0,.slice none 0 0,.int .i64 0,.slice none 0 0,.slice none 0 0] []),on1 (.s0 6 (.t 21) (.t 146)),qM 22 147]) (.sq (.sq (rg [qS 148 6 21,qS 149 6 10,oo 150 (.ca .pure false (.f Jd) [.t 148,.t 149]),oo 151 (.nt (.t 150)),qM 152 151,og 153 152 false (.mv (.t 22) none),og 154 152 false (.mv (.t 11) none),og 155 152 false (.bi .neq 2 (.t 153) (.t 154)),oo 156 (.pk (.t 152) (.k (.bool true)) (.t 155))]) (.cd (.t 156) (.sq (rg [om 8 (.k (.bool false))]) (.rt)) (.sk))) (.sq (rg [om 20 (i6 1)]) (.sq (rg [qS 157 6 16,qM 158 20,oo 159 (.ca .pure false (.f Ym) [.t 157,.t 158]),qM 20 159]) (.sq (.sq (rg [qM 160 20,oo 161 (.bi .lss 0 (.t 160) (i6 0))]) (.cd (.t 161) (.sq (rg [om 8 (.k (.bool false))]) (.rt)) (.sk))) (.sq (.sq (rg [qM 162 20,qM 163 19,qB 164 .neq 162 163]) (.cd (.t 164) (.sq (rg [om 8 (.k (.bool false))]) (.rt)) (.sk))) (.sq (rg [om 8 (.k (.bool true))]) (.rt))))))))))))))))))))))))))))))))))))))))) }
theorem XW:ZP Proofs.Tryz.prog Yt Y6=true:=by kernel_rfl
def WB:F2 :=
 { nt:=35,res:=[.t 4 [0]],body:=(.sq (rg [om 4 (i6 0)]) (.sq (.sq (rg [om 5 (i6 0)]) (.bl 0 (.lp [0,1,5] [] (.sq (.sq (rg [qM 6 5,qM 7 0,qN 8 7,qB 9 .lss 6 8]) (.cd (.t 9) (.sk) (.ex 0))) (.sq (.bl 1 (.sq (rg [qM 12 0,qM 13 5,qM 14 1,oo 15 (.ca .pure false (.f Jy) [.t 14]),qI 16 3 12 13,qF 17 0 16,on1 (.st 1 (.t 17) (.t 15))]) (.sq (rg [qM 18 1,oo 19 (.bi .add 0 (.t 18) (i6 1)),qM 1 19]) (.sq (rg [qM 20 0,qM 21 5,qM 22 1,qI 23 3 20 21,qF 24 1 23,on1 (.st 1 (.t 24) (.t 22))]) (.sq (rg [qM 25 1,oo 26 (.bi .add 0 (.t 25) (i6 1)),qM 1 26]) (.sq (rg [qM 27 0,qM 28 5,qM 29 1,qI 30 3 27 28,qF 31 2 30,on1 (.st 1 (.t 31) (.t 29))])
 (rg [qM 32 1,oo 33 (.bi .add 0 (.t 32) (i6 1)),qM 1 33])))))))
 (rg [qM 10 5,oo 11 (.bi .add 0 (.t 10) (i6 1)),qM 5 11])))))) (.sq (rg [qM 34 1,qM 4 34]) (.rt)))) }
theorem Za0:ZP Proofs.Tryz.prog Vb WB=true:=by kernel_rfl
def WS:F2 :=
 { nt:=22,res:=[.t 4 [0]],body:=(.sq (rg [oo 2 (.bx (.t 0)),om 4 (i6 0)]) (.sq (rg [qF 5 1 2,qL 6 5,qM 7 1,oo 8 (.ca .any true (.f QD) [.t 6,.t 7]),qM 1 8]) (.sq (rg [qF 9 2 2,qL 10 9,qM 11 1,oo 12 (.ca .any true (.f Vo) [.t 10,.t 11]),qM 1 12]) (.sq (rg [qF 13 4 2,qL 14 13,qM 15 1,oo 16 (.ca .any true (.f Vz) [.t 14,.t 15]),qM 1 16]) (.sq (rg [qF 17 5 2,qL 18 17,qM 19 1,oo 20 (.ca .any true (.f QE) [.t 18,.t 19]),qM 1 20]) (.sq (rg [qM 21 1,qM 4 21]) (.rt))))))) }
theorem ZbZ:ZP Proofs.Tryz.prog Ja WS=true:=by kernel_rfl
def WT:F2 :=
 { nt:=30,res:=[.t 4 [0]],body:=(.sq (rg [oo 2 (.bt (.t 0)),om 4 (i6 0)]) (.sq (rg [qF 5 1 2,qL 6 5,qM 7 1,oo 8 (.ca .pure false (.f QF) [.t 6,.t 7]),qM 1 8]) (.sq (.sq (rg [qM 9 1,oo 10 (.bi .lss 0 (.t 9) (i6 0))]) (.cd (.t 10) (.sq (rg [om 4 (i6 (-1))]) (.rt)) (.sk))) (.sq (rg [qF 11 2 2,qL 12 11,qM 13 1,oo 14 (.ca .pure false (.f Vp) [.t 12,.t 13]),qM 1 14]) (.sq (.sq (rg [qM 15 1,oo 16 (.bi .lss 0 (.t 15) (i6 0))]) (.cd (.t 16) (.sq (rg [om 4 (i6 (-1))]) (.rt)) (.sk))) (.sq (rg [qF 17 4 2,qL 18 17,qM 19 1,oo 20 (.ca .pure false (.f VA) [.t 18,.t 19]),qM 1 20]) (.sq (.sq (rg [qM 21 1,oo 22 (.bi .lss 0 (.t 21) (i6 0))]) (.cd (.t 22) (.sq (rg [om 4 (i6 (-1))]) (.rt)) (.sk))) (.sq (rg [qF 23 5 2,qL 24 23,qM 25 1,oo 26 (.ca .pure false (.f QG) [.t 24,.t 25]),qM 1 26]) (.sq (.sq (rg [qM 27 1,oo 28 (.bi .lss 0 (.t 27) (i6 0))]) (.cd (.t 28) (.sq (rg [om 4 (i6 (-1))]) (.rt)) (.sk))) (.sq (rg [qM 29 1,qM 4 29]) (.rt))))))))))) }
theorem Zb0:ZP Proofs.Tryz.prog Ym WT=true:=by kernel_rfl
def DT:F2 :=
 { nt:=20,res:=[.t 2 [0]],body:=(.sq (rg [om 2 (.k (.string ⟨#[]⟩))]) (.sq (.sq (rg [qM 4 0,oo 5 (.bi .leq 0 (.t 4) (i6 0))]) (.cd (.t 5) (.sq (rg [om 2 (.k (.string ⟨#[109,48]⟩))]) (.rt)) (.sk))) (.sq (rg [om 3 (.k (.string ⟨#[]⟩))]) (.sq (.bl 0 (.lp [0,3] [] (.sq (.sq (rg [qM 6 0,oo 7 (.bi .gtr 0 (.t 6) (i6 0))]) (.cd (.t 7) (.sk) (.ex 0))) (.bl 1 (.sq (rg [qM 8 0,oo 9 (.bi .rem 0 (.t 8) (i6 10)),oo 10 (.bi .add 0 (i6 48) (.t 9)),oo 11 (.cv (.int .u8) (.t 10)),oo 12 (.bs 1 1 [.int .u8 0] [(0,.t 11)]),oo 13 (.sb (.t 12)),qM 14 3,qB 15 .add 13 14,qM 3 15])
 (rg [qM 16 0,oo 17 (.bi .quo 0 (.t 16) (i6 10)),qM 0 17])))))) (.sq (rg [qM 18 3,oo 19 (.bi .add 0 (.k (.string ⟨#[109]⟩)) (.t 18)),qM 2 19]) (.rt)))))) }
theorem ZeA:ZP Proofs.Tryz.prog Jy DT=true:=by kernel_rfl
def U8:F2 :=
 { nt:=34,res:=[.t 4 [0]],body:=(.sq (rg [om 4 (i6 0)]) (.sq (.sq (rg [om 5 (i6 0)]) (.bl 0 (.lp [0,1,5] [] (.sq (.sq (rg [qM 6 5,qM 7 0,qN 8 7,qB 9 .lss 6 8]) (.cd (.t 9) (.sk) (.ex 0))) (.sq (.bl 1 (.sq (rg [qM 12 0,qM 13 5,qM 14 1,qI 15 3 12 13,qF 16 0 15,on1 (.st 1 (.t 16) (.t 14))]) (.sq (rg [qM 17 1,oo 18 (.bi .add 0 (.t 17) (i6 1)),qM 1 18]) (.sq (rg [qM 19 0,qM 20 5,qM 21 1,qI 22 3 19 20,qF 23 1 22,on1 (.st 1 (.t 23) (.t 21))]) (.sq (rg [qM 24 1,oo 25 (.bi .add 0 (.t 24) (i6 1)),qM 1 25])
 (rg [qM 26 0,qM 27 5,qI 28 3 26 27,qF 29 2 28,qL 30 29,qM 31 1,oo 32 (.ca .any true (.f Vo) [.t 30,.t 31]),qM 1 32]))))))
 (rg [qM 10 5,oo 11 (.bi .add 0 (.t 10) (i6 1)),qM 5 11])))))) (.sq (rg [qM 33 1,qM 4 33]) (.rt)))) }
theorem Zc9:ZP Proofs.Tryz.prog QD U8=true:=by kernel_rfl
def DU:F2 :=
 { nt:=19,res:=[.t 4 [0]],body:=(.sq (rg [om 4 (i6 0)]) (.sq (.sq (rg [om 5 (i6 0)]) (.bl 0 (.lp [0,1,5] [] (.sq (.sq (rg [qM 6 5,qM 7 0,qN 8 7,qB 9 .lss 6 8]) (.cd (.t 9) (.sk) (.ex 0))) (.sq (.bl 1 (.sq (rg [qM 12 0,qM 13 5,qM 14 1,qI 15 1 12 13,on1 (.st 1 (.t 15) (.t 14))])
 (rg [qM 16 1,oo 17 (.bi .add 0 (.t 16) (i6 1)),qM 1 17])))
 (rg [qM 10 5,oo 11 (.bi .add 0 (.t 10) (i6 1)),qM 5 11])))))) (.sq (rg [qM 18 1,qM 4 18]) (.rt)))) }
theorem ZeB:ZP Proofs.Tryz.prog Vo DU=true:=by kernel_rfl
def WU:F2 :=
 { nt:=20,res:=[.t 4 [0]],body:=(.sq (rg [om 4 (i6 0)]) (.sq (.sq (rg [om 5 (i6 0)]) (.bl 0 (.lp [0,1,5] [] (.sq (.sq (rg [qM 6 5,qM 7 0,qN 8 7,qB 9 .lss 6 8]) (.cd (.t 9) (.sk) (.ex 0))) (.sq (.bl 1 (.sq (rg [qM 12 0,qM 13 5,qM 14 1,oo 15 (.ca .pure false (.f Jy) [.t 14]),qI 16 1 12 13,on1 (.st 1 (.t 16) (.t 15))])
 (rg [qM 17 1,oo 18 (.bi .add 0 (.t 17) (i6 1)),qM 1 18])))
 (rg [qM 10 5,oo 11 (.bi .add 0 (.t 10) (i6 1)),qM 5 11])))))) (.sq (rg [qM 19 1,qM 4 19]) (.rt)))) }
theorem Zb1:ZP Proofs.Tryz.prog Vz WU=true:=by kernel_rfl
def U9:F2 :=
 { nt:=28,res:=[.t 4 [0]],body:=(.sq (rg [om 4 (i6 0)]) (.sq (.sq (rg [om 5 (i6 0)]) (.bl 0 (.lp [0,1,5] [] (.sq (.sq (rg [qM 6 5,qM 7 0,qN 8 7,qB 9 .lss 6 8]) (.cd (.t 9) (.sk) (.ex 0))) (.sq (.bl 1 (.sq (rg [qM 12 0,qM 13 5,qM 14 1,oo 15 (.ca .pure false (.f Jy) [.t 14]),qI 16 2 12 13,qF 17 0 16,on1 (.st 1 (.t 17) (.t 15))]) (.sq (rg [qM 18 1,oo 19 (.bi .add 0 (.t 18) (i6 1)),qM 1 19]) (.sq (rg [qM 20 0,qM 21 5,qM 22 1,qI 23 2 20 21,qF 24 1 23,on1 (.st 1 (.t 24) (.t 22))])
 (rg [qM 25 1,oo 26 (.bi .add 0 (.t 25) (i6 1)),qM 1 26])))))
 (rg [qM 10 5,oo 11 (.bi .add 0 (.t 10) (i6 1)),qM 5 11])))))) (.sq (rg [qM 27 1,qM 4 27]) (.rt)))) }
theorem Zda:ZP Proofs.Tryz.prog QE U9=true:=by kernel_rfl
def Da:F2 :=
 { nt:=40,res:=[.t 4 [0]],body:=(.sq (rg [om 4 (i6 0)]) (.sq (.sq (rg [om 5 (i6 0)]) (.bl 0 (.lp [0,1,5] [] (.sq (.sq (rg [qM 6 5,qM 7 0,qN 8 7,qB 9 .lss 6 8]) (.cd (.t 9) (.sk) (.ex 0))) (.sq (.bl 1 (.sq (.sq (rg [qM 12 0,qM 13 5,qI 14 3 12 13,qF 15 0 14,qL 16 15,qM 17 1,qB 18 .neq 16 17]) (.cd (.t 18) (.sq (rg [om 4 (i6 (-1))]) (.rt)) (.sk))) (.sq (rg [qM 19 1,oo 20 (.bi .add 0 (.t 19) (i6 1)),qM 1 20]) (.sq (.sq (rg [qM 21 0,qM 22 5,qI 23 3 21 22,qF 24 1 23,qL 25 24,qM 26 1,qB 27 .neq 25 26]) (.cd (.t 27) (.sq (rg [om 4 (i6 (-1))]) (.rt)) (.sk))) (.sq (rg [qM 28 1,oo 29 (.bi .add 0 (.t 28) (i6 1)),qM 1 29]) (.sq (rg [qM 30 0,qM 31 5,qI 32 3 30 31,qF 33 2 32,qL 34 33,qM 35 1,oo 36 (.ca .pure false (.f Vp) [.t 34,.t 35]),qM 1 36]) (.sq (rg [qM 37 1,oo 38 (.bi .lss 0 (.t 37) (i6 0))]) (.cd (.t 38) (.sq (rg [om 4 (i6 (-1))]) (.rt)) (.sk)))))))))
 (rg [qM 10 5,oo 11 (.bi .add 0 (.t 10) (i6 1)),qM 5 11])))))) (.sq (rg [qM 39 1,qM 4 39]) (.rt)))) }
theorem Zdb:ZP Proofs.Tryz.prog QF Da=true:=by kernel_rfl
def DV:F2 :=
 { nt:=21,res:=[.t 4 [0]],body:=(.sq (rg [om 4 (i6 0)]) (.sq (.sq (rg [om 5 (i6 0)]) (.bl 0 (.lp [0,1,5] [] (.sq (.sq (rg [qM 6 5,qM 7 0,qN 8 7,qB 9 .lss 6 8]) (.cd (.t 9) (.sk) (.ex 0))) (.sq (.bl 1 (.sq (.sq (rg [qM 12 0,qM 13 5,qI 14 1 12 13,qL 15 14,qM 16 1,qB 17 .neq 15 16]) (.cd (.t 17) (.sq (rg [om 4 (i6 (-1))]) (.rt)) (.sk)))
 (rg [qM 18 1,oo 19 (.bi .add 0 (.t 18) (i6 1)),qM 1 19])))
 (rg [qM 10 5,oo 11 (.bi .add 0 (.t 10) (i6 1)),qM 5 11])))))) (.sq (rg [qM 20 1,qM 4 20]) (.rt)))) }
theorem ZeC:ZP Proofs.Tryz.prog Vp DV=true:=by kernel_rfl
def WV:F2 :=
 { nt:=22,res:=[.t 4 [0]],body:=(.sq (rg [om 4 (i6 0)]) (.sq (.sq (rg [om 5 (i6 0)]) (.bl 0 (.lp [0,1,5] [] (.sq (.sq (rg [qM 6 5,qM 7 0,qN 8 7,qB 9 .lss 6 8]) (.cd (.t 9) (.sk) (.ex 0))) (.sq (.bl 1 (.sq (.sq (.rg (some 0) [qM 12 0,qM 13 5,qI 14 1 12 13,qL 15 14,qM 16 1,oo 17 (.ca .pure false (.f Jy) [.t 16]),qB 18 .neq 15 17]) (.cd (.t 18) (.sq (rg [om 4 (i6 (-1))]) (.rt)) (.sk)))
 (rg [qM 19 1,oo 20 (.bi .add 0 (.t 19) (i6 1)),qM 1 20])))
 (rg [qM 10 5,oo 11 (.bi .add 0 (.t 10) (i6 1)),qM 5 11])))))) (.sq (rg [qM 21 1,qM 4 21]) (.rt)))) }
theorem Zb2:ZP Proofs.Tryz.prog VA WV=true:=by kernel_rfl
def Db:F2 :=
 { nt:=32,res:=[.t 4 [0]],body:=(.sq (rg [om 4 (i6 0)]) (.sq (.sq (rg [om 5 (i6 0)]) (.bl 0 (.lp [0,1,5] [] (.sq (.sq (rg [qM 6 5,qM 7 0,qN 8 7,qB 9 .lss 6 8]) (.cd (.t 9) (.sk) (.ex 0))) (.sq (.bl 1 (.sq (.sq (.rg (some 0) [qM 12 0,qM 13 5,qI 14 2 12 13,qF 15 0 14,qL 16 15,qM 17 1,oo 18 (.ca .pure false (.f Jy) [.t 17]),qB 19 .neq 16 18]) (.cd (.t 19) (.sq (rg [om 4 (i6 (-1))]) (.rt)) (.sk))) (.sq (rg [qM 20 1,oo 21 (.bi .add 0 (.t 20) (i6 1)),qM 1 21]) (.sq (.sq (rg [qM 22 0,qM 23 5,qI 24 2 22 23,qF 25 1 24,qL 26 25,qM 27 1,qB 28 .neq 26 27]) (.cd (.t 28) (.sq (rg [om 4 (i6 (-1))]) (.rt)) (.sk)))
 (rg [qM 29 1,oo 30 (.bi .add 0 (.t 29) (i6 1)),qM 1 30])))))
 (rg [qM 10 5,oo 11 (.bi .add 0 (.t 10) (i6 1)),qM 5 11])))))) (.sq (rg [qM 31 1,qM 4 31]) (.rt)))) }
theorem Zdc:ZP Proofs.Tryz.prog QG Db=true:=by kernel_rfl
end Go.Fd

/-
  THE TEXT OF A MARK; THE MARKS OF NUMBERS AND TEXTS. Own work.
-/
namespace Go.Fd
set_option maxRecDepth 20000
abbrev ZgQ(_:Int)(k:Int):Int:=k
abbrev XX(_:Int):Nat:=1
def mt(q:Nat)(o:ByteArray):ByteArray:=if q=0 then o else mt (q / 10) (⟨#[UInt8.ofNat (48+q % 10)]⟩++o)
 termination_by q
 decreasing_by omega
theorem ZtX{q:Nat}{o:ByteArray}(h:0<q):mt q o=mt (q / 10) (⟨#[UInt8.ofNat (48+q % 10)]⟩++o):=by
 rw[mt,if_neg (by omega)]
theorem ZqB{o:ByteArray}:mt 0 o=o:=by rw[mt,if_pos rfl]
def ZmW(k:Int):ByteArray:=if k<=0 then ⟨#[109,48]⟩ else ⟨#[109]⟩++mt k.toNat ⟨#[]⟩
theorem Xq(k:Int)(h:k<=4611686018427387904)(lvl:Nat)(S:Sto):Sem Proofs.Tryz.prog Jy lvl [iI k] S (iS (ZmW k)) S:=by
 refine Zc ZeA trivial ?_
 simp only[DT,EVA,seval,Zd,men]
 unfold ZmW
 refine Zo (fun h0=>?_) (fun h0=>?_)
 ·rw[if_pos h0]
 ·rw[if_neg h0]
  obtain⟨K,hK⟩:∃ K:Nat,k=K:=⟨k.toNat,by omega⟩
  subst hK
  rw[Int.toNat_natCast]
  refine ZY (α:=Nat×ByteArray) K (fun j y=>⟨lvl,[(0,iI y.1),(3,iS y.2)],[],S⟩) (fun j y=>y.1+j<=K/\mt y.1 y.2=mt K ⟨#[]⟩/\y.1*10 ^ y.2.size<=K/\y.2.size<=19) (K,⟨#[]⟩) ⟨by simp only[EVA,seval,Zd,men],by simp only[EVA,seval,Zd,men]⟩ ⟨Nat.le_refl _,rfl,Nat.le_of_eq (Nat.mul_one K),(by decide:(0:Nat)<=19)⟩ ?_
  intro j y hj hA
  obtain⟨q,o⟩:=y
  obtain⟨h1,h2,h3,h4⟩:=hA
  simp only at h1 h2 h3 h4
  simp only[EVA,seval,Zd,men]
  refine Zo (fun hq=>?_) (fun hq=>?_)
  ·have hq0:0<q:=by omega
   have hby:byR [[Tr.v (Value.int IntKind.u8 (48+(q:Int) % 10))]]=some [UInt8.ofNat (48+q % 10)]:=by
    have e:(48+(q:Int) % 10).toNat=48+q % 10:=by omega
    simp only[cut,List.replicate_one,List.set_cons_zero,List.drop_zero,List.take_succ_cons,List.take_zero,byR,Option.map_some,e]
   have h5:o.size<19:=by
    apply Classical.byContradiction
    intro hc
    have e:o.size=19:=by omega
    rw[e] at h3
    have:1*10 ^ 19<=q*10 ^ 19:=Nat.mul_le_mul_right _ hq0
    omega
   have h6:q / 10*10 ^ (o.size+1)<=K:=by
    refine Nat.le_trans ?_ h3
    rw[Nat.pow_succ,Nat.mul_comm (10 ^ o.size) 10,<-Nat.mul_assoc]
    exact Nat.mul_le_mul_right _ (by omega)
   rw[hby]
   simp only[EVA,seval,Zd,men]
   have hs:(ByteArray.mk #[UInt8.ofNat (48+q % 10)]++o).size=o.size+1:=by
    rw[ByteArray.size_append,Nat.add_comm];rfl
   have e8:Xt .u8 (48+(q:Int) % 10):=by
    constructor
    ·show (0:Int)<=_;omega
    ·show _<=(255:Int);omega
   refine⟨by rw[Ze];omega,e8,?_,by rw[Ze];omega,Zf (q / 10,ByteArray.mk #[UInt8.ofNat (48+q % 10)]++o) (by omega) ?_ ⟨by simp only;omega,?_,?_,?_⟩⟩
   ·show 1+o.size<=4294967296
    omega
   ·rfl
   ·rw[<-h2,ZtX hq0]
   ·simp only[hs];exact h6
   ·simp only[hs];omega
  ·have:q=0:=by omega
   subst this
   rw[<-h2,ZqB]
   refine⟨?_,rfl⟩
   show 1+o.size<=4294967296
   omega
abbrev Zg5(_:ByteArray)(k:Int):ByteArray:=ZmW k
abbrev UV(_:ByteArray):Nat:=1
end Go.Fd

/-
  WHAT THE MARKING FUNCTIONS DO (printed by lawgen.py). Own work.
-/
namespace Go.Fd
set_option maxRecDepth 20000
theorem Zib:MarkS Proofs.Tryz.prog Vo (fun n:Int=>[tv n]) ZgQ XX (fun _=>True):=by
 intro a k lvl S id p es r0 kk hw ver st cap hid hv hst h0 hk hl hB
 have hne:id.1≠lvl:=by omega
 have hgp:∀ r,getp (Uw es p r) p=some r:=fun r=>Wc hv
 refine Zc ZeB trivial ?_
 simp only[DU,EVA,seval,Zd,men]
 refine ZY (α:=Unit) a.length (fun j _=>⟨lvl,[(0,.hd id p 0 a.length cap st),(1,iI (kJ XX a k j)),(5,iI j)],[],ZM S id (.ar kk (Uw es p ((lJ ZgQ XX a k j).map (fun n:Int=>[tv n]))) true hw ver)⟩) (fun _ _=>True) () ⟨by simp only[ZR hne,EVA,seval,Zd,men],by (simp only[UL,Zd1,EVA,seval,Zd,men]) <;> rfl⟩ trivial ?_
 intro j _ hj _
 simp only[List.length_map,EVA,seval,Zd,men]
 refine Zo (fun hlt=>?_) (fun hge=>?_)
 ·have hja:j<a.length:=by omega
  obtain⟨R,hjR,hR,hR'⟩:=ZhA ZgQ XX (fun n:Int=>[tv n]) (k:=k) hja
  have hge2:=Zgc XX (a:=a) (k:=k) (j:=j+1)
  rw[YS XX hja] at hge2
  have hge3:=Zgd XX (a:=a) (k:=k) (j:=j)
  rw[hR]
  try simp only[XX] at hge2
  try simp only[Z6 hne,YW hne,JL,Vx,hst,hgp,Xd hjR,XR hv hjR,Nat.zero_add,hja,ZR hne,List.length_map,tv,EVA,seval,Zd,men]
  refine⟨by rw[Ze];omega,⟨by rw[Ze];omega,Zf () hja ?_ trivial⟩⟩
  rw[YS XX hja,hR']
  simp only[XX,ZgQ,tv,Int.natCast_add,Int.natCast_one,Int.add_assoc]
  try rfl
 ·have:j=a.length:=by omega
  subst this
  rw[Zbk,Zhz]
  exact⟨rfl,rfl⟩
def ZcE(x:TNode)(k:Int):TNode:={ control:=k,parent:=k+1,links:=mL ZgQ XX x.links (k+1+1) }
def JI(x:TNode):Nat:=1+1+nL XX x.links
theorem ZkU:MarkS Proofs.Tryz.prog QD ZF ZcE JI (Xi 4294967296):=by
 intro a k lvl S id p es r0 kk hw ver st cap hid hv hst h0 hk hl hB
 have hne:id.1≠lvl:=by omega
 have hgp:∀ r,getp (Uw es p r) p=some r:=fun r=>Wc hv
 refine Zc Zc9 trivial ?_
 simp only[U8,EVA,seval,Zd,men]
 refine ZY (α:=Unit) a.length (fun j _=>⟨lvl,[(0,.hd id p 0 a.length cap st),(1,iI (kJ JI a k j)),(5,iI j)],[],ZM S id (.ar kk (Uw es p ((lJ ZcE JI a k j).map ZF)) true hw ver)⟩) (fun _ _=>True) () ⟨by simp only[ZR hne,EVA,seval,Zd,men],by (simp only[UL,Zd1,EVA,seval,Zd,men]) <;> rfl⟩ trivial ?_
 intro j _ hj _
 simp only[List.length_map,EVA,seval,Zd,men]
 refine Zo (fun hlt=>?_) (fun hge=>?_)
 ·have hja:j<a.length:=by omega
  obtain⟨R,hjR,hR,hR'⟩:=ZhA ZcE JI ZF (k:=k) hja
  have hge2:=Zgc JI (a:=a) (k:=k) (j:=j+1)
  rw[YS JI hja] at hge2
  have hge3:=Zgd JI (a:=a) (k:=k) (j:=j)
  rw[hR]
  try simp only[JI] at hge2
  have hb:=hB _ (List.getElem_mem hja)
  have b0:(a[j]).links.length<=4294967296:=hb
  try simp only[Z6 hne,YW hne,JL,Vx,hst,hgp,Xd hjR,XR hv hjR,Nat.zero_add,hja,ZR hne,List.length_map,ZF,EVA,seval,Zd,men]
  refine⟨by rw[Ze];omega,⟨by rw[Ze];omega,?_⟩⟩
  simp only[Zcd]
  refine ZnP Zib hid hv (by omega) (by omega) b0 (fun _ _=>trivial) hjR rfl (by simp only[List.length_map]) ?_
  simp only[List.set_cons_succ,List.set_cons_zero,Z6 hne,YW hne,JL,Vx,hst,hgp,Xd hjR,XR hv hjR,Nat.zero_add,hja,ZR hne,List.length_map,ZF,EVA,seval,Zd,men]
  refine⟨by rw[Ze];omega,Zf () hja ?_ trivial⟩
  rw[YS JI hja,hR']
  simp only[JI,ZcE,ZF,Int.natCast_add,Int.natCast_one,Int.add_assoc]
  try rfl
 ·have:j=a.length:=by omega
  subst this
  rw[Zbk,Zhz]
  exact⟨rfl,rfl⟩
theorem Zic:MarkS Proofs.Tryz.prog Vz (fun n:ByteArray=>[ts n]) Zg5 UV (fun x=>x.size<=4294967296):=by
 intro a k lvl S id p es r0 kk hw ver st cap hid hv hst h0 hk hl hB
 have hne:id.1≠lvl:=by omega
 have hgp:∀ r,getp (Uw es p r) p=some r:=fun r=>Wc hv
 refine Zc Zb1 trivial ?_
 simp only[WU,EVA,seval,Zd,men]
 refine ZY (α:=Unit) a.length (fun j _=>⟨lvl,[(0,.hd id p 0 a.length cap st),(1,iI (kJ UV a k j)),(5,iI j)],[],ZM S id (.ar kk (Uw es p ((lJ Zg5 UV a k j).map (fun n:ByteArray=>[ts n]))) true hw ver)⟩) (fun _ _=>True) () ⟨by simp only[ZR hne,EVA,seval,Zd,men],by (simp only[UL,Zd1,EVA,seval,Zd,men]) <;> rfl⟩ trivial ?_
 intro j _ hj _
 simp only[List.length_map,EVA,seval,Zd,men]
 refine Zo (fun hlt=>?_) (fun hge=>?_)
 ·have hja:j<a.length:=by omega
  obtain⟨R,hjR,hR,hR'⟩:=ZhA Zg5 UV (fun n:ByteArray=>[ts n]) (k:=k) hja
  have hge2:=Zgc UV (a:=a) (k:=k) (j:=j+1)
  rw[YS UV hja] at hge2
  have hge3:=Zgd UV (a:=a) (k:=k) (j:=j)
  rw[hR]
  try simp only[UV] at hge2
  try simp only[Z6 hne,YW hne,JL,Vx,hst,hgp,Xd hjR,XR hv hjR,Nat.zero_add,hja,ZR hne,List.length_map,tv,EVA,seval,Zd,men]
  refine Zb (Xq (kJ UV a k j) (by omega)) ?_
  simp only[Z6 hne,YW hne,JL,Vx,hst,hgp,Xd hjR,XR hv hjR,Nat.zero_add,hja,ZR hne,List.length_map,tv,EVA,seval,Zd,men]
  refine⟨by rw[Ze];omega,⟨by rw[Ze];omega,Zf () hja ?_ trivial⟩⟩
  rw[YS UV hja,hR']
  simp only[UV,Zg5,tv,Int.natCast_add,Int.natCast_one,Int.add_assoc]
  try rfl
 ·have:j=a.length:=by omega
  subst this
  rw[Zbk,Zhz]
  exact⟨rfl,rfl⟩
def ZcF(x:TWire)(k:Int):TWire:={ name:=ZmW (k),link:=k+1 }
def Vj(x:TWire):Nat:=1+1
theorem ZkV:MarkS Proofs.Tryz.prog QE ZC ZcF Vj (Qe 4294967296):=by
 intro a k lvl S id p es r0 kk hw ver st cap hid hv hst h0 hk hl hB
 have hne:id.1≠lvl:=by omega
 have hgp:∀ r,getp (Uw es p r) p=some r:=fun r=>Wc hv
 refine Zc Zda trivial ?_
 simp only[U9,EVA,seval,Zd,men]
 refine ZY (α:=Unit) a.length (fun j _=>⟨lvl,[(0,.hd id p 0 a.length cap st),(1,iI (kJ Vj a k j)),(5,iI j)],[],ZM S id (.ar kk (Uw es p ((lJ ZcF Vj a k j).map ZC)) true hw ver)⟩) (fun _ _=>True) () ⟨by simp only[ZR hne,EVA,seval,Zd,men],by (simp only[UL,Zd1,EVA,seval,Zd,men]) <;> rfl⟩ trivial ?_
 intro j _ hj _
 simp only[List.length_map,EVA,seval,Zd,men]
 refine Zo (fun hlt=>?_) (fun hge=>?_)
 ·have hja:j<a.length:=by omega
  obtain⟨R,hjR,hR,hR'⟩:=ZhA ZcF Vj ZC (k:=k) hja
  have hge2:=Zgc Vj (a:=a) (k:=k) (j:=j+1)
  rw[YS Vj hja] at hge2
  have hge3:=Zgd Vj (a:=a) (k:=k) (j:=j)
  rw[hR]
  try simp only[Vj] at hge2
  have hb:=hB _ (List.getElem_mem hja)
  have b0:(a[j]).name.size<=4294967296:=hb
  try simp only[Z6 hne,YW hne,JL,Vx,hst,hgp,Xd hjR,XR hv hjR,Nat.zero_add,hja,ZR hne,List.length_map,ZC,EVA,seval,Zd,men]
  refine Zb (Xq (kJ Vj a k j) (by omega)) ?_
  simp only[Z6 hne,YW hne,JL,Vx,hst,hgp,Xd hjR,XR hv hjR,Nat.zero_add,hja,ZR hne,List.length_map,ZC,EVA,seval,Zd,men]
  refine⟨by rw[Ze];omega,⟨by rw[Ze];omega,⟨by rw[Ze];omega,Zf () hja ?_ trivial⟩⟩⟩
  rw[YS Vj hja,hR']
  simp only[Vj,ZcF,ZC,Int.natCast_add,Int.natCast_one,Int.add_assoc]
  try rfl
 ·have:j=a.length:=by omega
  subst this
  rw[Zbk,Zhz]
  exact⟨rfl,rfl⟩
def Zdz(x:TControl)(k:Int):TControl:={ name:=ZmW (k),ports:=k+1,kind_:=k+1+1 }
def Yo(x:TControl):Nat:=1+1+1
theorem Zb3:MarkS Proofs.Tryz.prog Vb Zk Zdz Yo (Zy 4294967296):=by
 intro a k lvl S id p es r0 kk hw ver st cap hid hv hst h0 hk hl hB
 have hne:id.1≠lvl:=by omega
 have hgp:∀ r,getp (Uw es p r) p=some r:=fun r=>Wc hv
 refine Zc Za0 trivial ?_
 simp only[WB,EVA,seval,Zd,men]
 refine ZY (α:=Unit) a.length (fun j _=>⟨lvl,[(0,.hd id p 0 a.length cap st),(1,iI (kJ Yo a k j)),(5,iI j)],[],ZM S id (.ar kk (Uw es p ((lJ Zdz Yo a k j).map Zk)) true hw ver)⟩) (fun _ _=>True) () ⟨by simp only[ZR hne,EVA,seval,Zd,men],by (simp only[UL,Zd1,EVA,seval,Zd,men]) <;> rfl⟩ trivial ?_
 intro j _ hj _
 simp only[List.length_map,EVA,seval,Zd,men]
 refine Zo (fun hlt=>?_) (fun hge=>?_)
 ·have hja:j<a.length:=by omega
  obtain⟨R,hjR,hR,hR'⟩:=ZhA Zdz Yo Zk (k:=k) hja
  have hge2:=Zgc Yo (a:=a) (k:=k) (j:=j+1)
  rw[YS Yo hja] at hge2
  have hge3:=Zgd Yo (a:=a) (k:=k) (j:=j)
  rw[hR]
  try simp only[Yo] at hge2
  have hb:=hB _ (List.getElem_mem hja)
  have b0:(a[j]).name.size<=4294967296:=hb
  try simp only[Z6 hne,YW hne,JL,Vx,hst,hgp,Xd hjR,XR hv hjR,Nat.zero_add,hja,ZR hne,List.length_map,Zk,EVA,seval,Zd,men]
  refine Zb (Xq (kJ Yo a k j) (by omega)) ?_
  simp only[Z6 hne,YW hne,JL,Vx,hst,hgp,Xd hjR,XR hv hjR,Nat.zero_add,hja,ZR hne,List.length_map,Zk,EVA,seval,Zd,men]
  refine⟨by rw[Ze];omega,⟨by rw[Ze];omega,⟨by rw[Ze];omega,⟨by rw[Ze];omega,Zf () hja ?_ trivial⟩⟩⟩⟩
  rw[YS Yo hja,hR']
  simp only[Yo,Zdz,Zk,Int.natCast_add,Int.natCast_one,Int.add_assoc]
  try rfl
 ·have:j=a.length:=by omega
  subst this
  rw[Zbk,Zhz]
  exact⟨rfl,rfl⟩
end Go.Fd

/-
  The annotated codes of the functions, printed by a program of mine (gen.py), and the check that they belong to the program.
-/
namespace Go.Fd
def Dc:F2 :=
 { nt:=30,res:=[.t 4 [0]],body:=(.sq (rg [oo 2 (.bt (.t 0)),om 4 (i6 0)]) (.sq (rg [qF 5 1 2,qL 6 5,qM 7 1,oo 8 (.ca .pure false (.f Xv) [.t 6,.t 7]),qM 1 8]) (.sq (.sq (rg [qM 9 1,oo 10 (.bi .lss 0 (.t 9) (i6 0))]) (.cd (.t 10) (.sq (rg [om 4 (i6 (-1))]) (.rt)) (.sk))) (.sq (rg [qF 11 2 2,qL 12 11,qM 13 1,oo 14 (.ca .pure false (.f Qv) [.t 12,.t 13]),qM 1 14]) (.sq (.sq (rg [qM 15 1,oo 16 (.bi .lss 0 (.t 15) (i6 0))]) (.cd (.t 16) (.sq (rg [om 4 (i6 (-1))]) (.rt)) (.sk))) (.sq (rg [qF 17 4 2,qL 18 17,qM 19 1,oo 20 (.ca .pure false (.f Qw) [.t 18,.t 19]),qM 1 20]) (.sq (.sq (rg [qM 21 1,oo 22 (.bi .lss 0 (.t 21) (i6 0))]) (.cd (.t 22) (.sq (rg [om 4 (i6 (-1))]) (.rt)) (.sk))) (.sq (rg [qF 23 5 2,qL 24 23,qM 25 1,oo 26 (.ca .pure false (.f Xw) [.t 24,.t 25]),qM 1 26]) (.sq (.sq (rg [qM 27 1,oo 28 (.bi .lss 0 (.t 27) (i6 0))]) (.cd (.t 28) (.sq (rg [om 4 (i6 (-1))]) (.rt)) (.sk))) (.sq (rg [qM 29 1,qM 4 29]) (.rt))))))))))) }
theorem Zdd:ZP Proofs.Tryz.prog Yd Dc=true:=by kernel_rfl
def Ut:F2 :=
 { nt:=23,res:=[.t 2 [4]],body:=(.sq (rg [om 2 (.k (.slice none 0 0))]) (.sq (rg [qM 5 0,qN 6 5,oo 7 (.ms 3 [.string ⟨#[]⟩,.int .i64 0,.int .i64 0] (.t 6)),qM 3 7]) (.sq (.sq (rg [om 4 (i6 0)]) (.bl 0 (.lp [0,3,4] [224] (.sq (.sq (rg [qM 8 4,qM 9 0,qN 10 9,qB 11 .lss 8 10]) (.cd (.t 11) (.sk) (.ex 0))) (.sq (.bl 1 (rg [qM 14 3,qM 15 4,qM 16 0,qM 17 4,qI 18 3 16 17,qS 19 3 18,oo 20 (.ca .pure true (.f Qx) [.t 19]),qI 21 3 14 15,on1 (.st 3 (.t 21) (.t 20))]))
 (rg [qM 12 4,oo 13 (.bi .add 0 (.t 12) (i6 1)),qM 4 13])))))) (.sq (rg [qM 22 3,qM 2 22]) (.rt))))) }
theorem ZcG:ZP Proofs.Tryz.prog Jx Ut=true:=by kernel_rfl
def Dd:F2 :=
 { nt:=27,res:=[.c 2 (some 6) [0,4,2,0,2,3]],body:=(.sq (rg [oo 1 (.bt (.t 0)),oo 2 (.al [.int .i64 0,.slice none 0 0,.slice none 0 0,.int .i64 0,.slice none 0 0,.slice none 0 0] [])]) (.sq (rg [oo 3 (.al [.int .i64 0,.slice none 0 0,.slice none 0 0,.int .i64 0,.slice none 0 0,.slice none 0 0] [])]) (.sq (rg [qF 4 0 1,qL 5 4,qF 6 0 3,on1 (.st 1 (.t 6) (.t 5))]) (.sq (rg [qF 7 1 1,qL 8 7,oo 9 (.ca .pure true (.f Xy) [.t 8]),qF 10 1 3,on1 (.st 1 (.t 10) (.t 9))]) (.sq (rg [qF 11 2 1,qL 12 11,oo 13 (.ca .pure true (.f Qy) [.t 12]),qF 14 2 3,on1 (.st 1 (.t 14) (.t 13))]) (.sq (rg [qF 15 3 1,qL 16 15,qF 17 3 3,on1 (.st 1 (.t 17) (.t 16))]) (.sq (rg [qF 18 4 1,qL 19 18,oo 20 (.ca .pure true (.f Qz) [.t 19]),qF 21 4 3,on1 (.st 1 (.t 21) (.t 20))]) (.sq (rg [qF 22 5 1,qL 23 22,oo 24 (.ca .pure true (.f Xz) [.t 23]),qF 25 5 3,on1 (.st 1 (.t 25) (.t 24))]) (.sq (rg [qS 26 6 3,on1 (.st 6 (.t 2) (.t 26))]) (.rt)))))))))) }
theorem Zde:ZP Proofs.Tryz.prog Zx Dd=true:=by kernel_rfl
def De:F2 :=
 { nt:=39,res:=[.t 4 [0]],body:=(.sq (rg [oo 2 (.bt (.t 0)),oo 3 (.bt (.t 1)),om 4 (.k (.bool false))]) (.sq (.sq (rg [qF 5 0 2,qL 6 5,qF 7 0 3,qL 8 7,qB 9 .neq 6 8]) (.cd (.t 9) (.sq (rg [om 4 (.k (.bool false))]) (.rt)) (.sk))) (.sq (.sq (rg [qF 10 1 2,qL 11 10,qF 12 1 3,qL 13 12,oo 14 (.ca .pure false (.f XB) [.t 11,.t 13]),oo 15 (.nt (.t 14))]) (.cd (.t 15) (.sq (rg [om 4 (.k (.bool false))]) (.rt)) (.sk))) (.sq (.sq (rg [qF 16 2 2,qL 17 16,qF 18 2 3,qL 19 18,oo 20 (.ca .pure false (.f QA) [.t 17,.t 19]),oo 21 (.nt (.t 20))]) (.cd (.t 21) (.sq (rg [om 4 (.k (.bool false))]) (.rt)) (.sk))) (.sq (.sq (rg [qF 22 3 2,qL 23 22,qF 24 3 3,qL 25 24,qB 26 .neq 23 25]) (.cd (.t 26) (.sq (rg [om 4 (.k (.bool false))]) (.rt)) (.sk))) (.sq (.sq (rg [qF 27 4 2,qL 28 27,qF 29 4 3,qL 30 29,oo 31 (.ca .pure false (.f QB) [.t 28,.t 30]),oo 32 (.nt (.t 31))]) (.cd (.t 32) (.sq (rg [om 4 (.k (.bool false))]) (.rt)) (.sk))) (.sq (.sq (rg [qF 33 5 2,qL 34 33,qF 35 5 3,qL 36 35,oo 37 (.ca .pure false (.f XC) [.t 34,.t 36]),oo 38 (.nt (.t 37))]) (.cd (.t 38) (.sq (rg [om 4 (.k (.bool false))]) (.rt)) (.sk))) (.sq (rg [om 4 (.k (.bool true))]) (.rt))))))))) }
theorem Zdf:ZP Proofs.Tryz.prog Jd De=true:=by kernel_rfl
def Df:F2 :=
 { nt:=13,res:=[.t 4 [0]],body:=(.sq (rg [oo 2 (.bt (.t 0)),om 4 (i6 0)]) (.sq (rg [qM 5 1,qF 6 0 2,qL 7 6,oo 8 (.lg (.t 7)),qB 9 .sub 5 8,qM 1 9]) (.sq (.sq (rg [qM 10 1,oo 11 (.bi .lss 0 (.t 10) (i6 0))]) (.cd (.t 11) (.sq (rg [om 4 (i6 (-1))]) (.rt)) (.sk))) (.sq (rg [qM 12 1,qM 4 12]) (.rt))))) }
theorem Zdg:ZP Proofs.Tryz.prog Qu Df=true:=by kernel_rfl
def Dg:F2 :=
 { nt:=14,res:=[.c 2 (some 3) [0,0,0]],body:=(.sq (rg [oo 1 (.bt (.t 0)),oo 2 (.al [.string ⟨#[]⟩,.int .i64 0,.int .i64 0] [])]) (.sq (rg [oo 3 (.al [.string ⟨#[]⟩,.int .i64 0,.int .i64 0] [])]) (.sq (rg [qF 4 0 1,qL 5 4,qF 6 0 3,on1 (.st 1 (.t 6) (.t 5))]) (.sq (rg [qF 7 1 1,qL 8 7,qF 9 1 3,on1 (.st 1 (.t 9) (.t 8))]) (.sq (rg [qF 10 2 1,qL 11 10,qF 12 2 3,on1 (.st 1 (.t 12) (.t 11))]) (.sq (rg [qS 13 3 3,on1 (.st 3 (.t 2) (.t 13))]) (.rt))))))) }
theorem Zdh:ZP Proofs.Tryz.prog Qx Dg=true:=by kernel_rfl
def ZaM:F2 :=
 { nt:=23,res:=[.t 2 [4]],body:=(.sq (rg [om 2 (.k (.slice none 0 0))]) (.sq (rg [qM 5 0,qN 6 5,oo 7 (.ms 3 [.int .i64 0,.int .i64 0,.slice none 0 0] (.t 6)),qM 3 7]) (.sq (.sq (rg [om 4 (i6 0)]) (.bl 0 (.lp [0,3,4] [224,640] (.sq (.sq (rg [qM 8 4,qM 9 0,qN 10 9,qB 11 .lss 8 10]) (.cd (.t 11) (.sk) (.ex 0))) (.sq (.bl 1 (rg [qM 14 3,qM 15 4,qM 16 0,qM 17 4,qI 18 3 16 17,qS 19 3 18,oo 20 (.ca .pure true (.f Wh) [.t 19]),qI 21 3 14 15,on1 (.st 3 (.t 21) (.t 20))]))
 (rg [qM 12 4,oo 13 (.bi .add 0 (.t 12) (i6 1)),qM 4 13])))))) (.sq (rg [qM 22 3,qM 2 22]) (.rt))))) }
theorem Zfe:ZP Proofs.Tryz.prog Xy ZaM=true:=by kernel_rfl
def ZaN:F2 :=
 { nt:=23,res:=[.t 2 [3]],body:=(.sq (rg [om 2 (.k (.slice none 0 0))]) (.sq (rg [qM 5 0,qN 6 5,oo 7 (.ms 2 [.string ⟨#[]⟩,.int .i64 0] (.t 6)),qM 3 7]) (.sq (.sq (rg [om 4 (i6 0)]) (.bl 0 (.lp [0,3,4] [224] (.sq (.sq (rg [qM 8 4,qM 9 0,qN 10 9,qB 11 .lss 8 10]) (.cd (.t 11) (.sk) (.ex 0))) (.sq (.bl 1 (rg [qM 14 3,qM 15 4,qM 16 0,qM 17 4,qI 18 2 16 17,qS 19 2 18,oo 20 (.ca .pure true (.f Wi) [.t 19]),qI 21 2 14 15,on1 (.st 2 (.t 21) (.t 20))]))
 (rg [qM 12 4,oo 13 (.bi .add 0 (.t 12) (i6 1)),qM 4 13])))))) (.sq (rg [qM 22 3,qM 2 22]) (.rt))))) }
theorem Zff:ZP Proofs.Tryz.prog Xz ZaN=true:=by kernel_rfl
def Dh:F2 :=
 { nt:=20,res:=[.t 4 [0]],body:=(.sq (rg [oo 2 (.bt (.t 0)),oo 3 (.bt (.t 1)),om 4 (.k (.bool false))]) (.sq (.sq (rg [qF 5 0 2,qL 6 5,qF 7 0 3,qL 8 7,qB 9 .neq 6 8]) (.cd (.t 9) (.sq (rg [om 4 (.k (.bool false))]) (.rt)) (.sk))) (.sq (.sq (rg [qF 10 1 2,qL 11 10,qF 12 1 3,qL 13 12,qB 14 .neq 11 13]) (.cd (.t 14) (.sq (rg [om 4 (.k (.bool false))]) (.rt)) (.sk))) (.sq (.sq (rg [qF 15 2 2,qL 16 15,qF 17 2 3,qL 18 17,qB 19 .neq 16 18]) (.cd (.t 19) (.sq (rg [om 4 (.k (.bool false))]) (.rt)) (.sk))) (.sq (rg [om 4 (.k (.bool true))]) (.rt)))))) }
theorem Zdi:ZP Proofs.Tryz.prog QC Dh=true:=by kernel_rfl
def Zb4:F2 :=
 { nt:=12,res:=[.t 4 [0]],body:=(.sq (rg [oo 2 (.bt (.t 0)),om 4 (i6 0)]) (.sq (rg [qF 5 2 2,qL 6 5,qM 7 1,oo 8 (.ca .pure false (.f Qv) [.t 6,.t 7]),qM 1 8]) (.sq (.sq (rg [qM 9 1,oo 10 (.bi .lss 0 (.t 9) (i6 0))]) (.cd (.t 10) (.sq (rg [om 4 (i6 (-1))]) (.rt)) (.sk))) (.sq (rg [qM 11 1,qM 4 11]) (.rt))))) }
theorem ZgR:ZP Proofs.Tryz.prog We Zb4=true:=by kernel_rfl
def Zb5:F2 :=
 { nt:=13,res:=[.t 4 [0]],body:=(.sq (rg [oo 2 (.bt (.t 0)),om 4 (i6 0)]) (.sq (rg [qM 5 1,qF 6 0 2,qL 7 6,oo 8 (.lg (.t 7)),qB 9 .sub 5 8,qM 1 9]) (.sq (.sq (rg [qM 10 1,oo 11 (.bi .lss 0 (.t 10) (i6 0))]) (.cd (.t 11) (.sq (rg [om 4 (i6 (-1))]) (.rt)) (.sk))) (.sq (rg [qM 12 1,qM 4 12]) (.rt))))) }
theorem ZgS:ZP Proofs.Tryz.prog Wf Zb5=true:=by kernel_rfl
def Zb6:F2 :=
 { nt:=15,res:=[.c 2 (some 3) [0,0,2]],body:=(.sq (rg [oo 1 (.bt (.t 0)),oo 2 (.al [.int .i64 0,.int .i64 0,.slice none 0 0] [])]) (.sq (rg [oo 3 (.al [.int .i64 0,.int .i64 0,.slice none 0 0] [])]) (.sq (rg [qF 4 0 1,qL 5 4,qF 6 0 3,on1 (.st 1 (.t 6) (.t 5))]) (.sq (rg [qF 7 1 1,qL 8 7,qF 9 1 3,on1 (.st 1 (.t 9) (.t 8))]) (.sq (rg [qF 10 2 1,qL 11 10,oo 12 (.ca .pure true (.f Qy) [.t 11]),qF 13 2 3,on1 (.st 1 (.t 13) (.t 12))]) (.sq (rg [qS 14 3 3,on1 (.st 3 (.t 2) (.t 14))]) (.rt))))))) }
theorem ZgT:ZP Proofs.Tryz.prog Wh Zb6=true:=by kernel_rfl
def Zb7:F2 :=
 { nt:=11,res:=[.c 2 (some 2) [0,0]],body:=(.sq (rg [oo 1 (.bt (.t 0)),oo 2 (.al [.string ⟨#[]⟩,.int .i64 0] [])]) (.sq (rg [oo 3 (.al [.string ⟨#[]⟩,.int .i64 0] [])]) (.sq (rg [qF 4 0 1,qL 5 4,qF 6 0 3,on1 (.st 1 (.t 6) (.t 5))]) (.sq (rg [qF 7 1 1,qL 8 7,qF 9 1 3,on1 (.st 1 (.t 9) (.t 8))]) (.sq (rg [qS 10 2 3,on1 (.st 2 (.t 2) (.t 10))]) (.rt)))))) }
theorem ZgU:ZP Proofs.Tryz.prog Wi Zb7=true:=by kernel_rfl
def Zb8:F2 :=
 { nt:=21,res:=[.t 4 [0]],body:=(.sq (rg [oo 2 (.bt (.t 0)),oo 3 (.bt (.t 1)),om 4 (.k (.bool false))]) (.sq (.sq (rg [qF 5 0 2,qL 6 5,qF 7 0 3,qL 8 7,qB 9 .neq 6 8]) (.cd (.t 9) (.sq (rg [om 4 (.k (.bool false))]) (.rt)) (.sk))) (.sq (.sq (rg [qF 10 1 2,qL 11 10,qF 12 1 3,qL 13 12,qB 14 .neq 11 13]) (.cd (.t 14) (.sq (rg [om 4 (.k (.bool false))]) (.rt)) (.sk))) (.sq (.sq (rg [qF 15 2 2,qL 16 15,qF 17 2 3,qL 18 17,oo 19 (.ca .pure false (.f QA) [.t 16,.t 18]),oo 20 (.nt (.t 19))]) (.cd (.t 20) (.sq (rg [om 4 (.k (.bool false))]) (.rt)) (.sk))) (.sq (rg [om 4 (.k (.bool true))]) (.rt)))))) }
theorem ZgV:ZP Proofs.Tryz.prog Wj Zb8=true:=by kernel_rfl
def Zb9:F2 :=
 { nt:=15,res:=[.t 4 [0]],body:=(.sq (rg [oo 2 (.bt (.t 0)),oo 3 (.bt (.t 1)),om 4 (.k (.bool false))]) (.sq (.sq (rg [qF 5 0 2,qL 6 5,qF 7 0 3,qL 8 7,qB 9 .neq 6 8]) (.cd (.t 9) (.sq (rg [om 4 (.k (.bool false))]) (.rt)) (.sk))) (.sq (.sq (rg [qF 10 1 2,qL 11 10,qF 12 1 3,qL 13 12,qB 14 .neq 11 13]) (.cd (.t 14) (.sq (rg [om 4 (.k (.bool false))]) (.rt)) (.sk))) (.sq (rg [om 4 (.k (.bool true))]) (.rt))))) }
theorem ZgW:ZP Proofs.Tryz.prog Wl Zb9=true:=by kernel_rfl
end Go.Fd

/-
  SMALL WORDS FOR MARKS. Own work.
-/
namespace Go.Fd
theorem ZcH{S:Sto}{id i:Oid}{ob:Ob}(h:i≠id):ZM S id ob i=S i:=if_neg h
theorem ZoS{α:Type}{m:α->Int->α}{n:α->Nat}:∀{a:List α} {k:Int} {j:Nat} (h:j<a.length),(mL m n a k)[j]? = some (m a[j] (kJ n a k j))
 | [],_,_,h=>by cases h
 | x::r,k,0,_=>by simp [mL,kJ,nL]
 | x::r,k,j+1,h=>by
  simp only[mL,List.getElem?_cons_succ,List.getElem_cons_succ]
  rw[ZoS (by simpa using h)]
  simp only[kJ,List.take_succ_cons,nL]
  congr 2
  omega
theorem Zkl{α:Type}{c:α->List Tr}{m:α->Int->α}{n:α->Nat}{a:List α}{k:Int}{j:Nat}(h:j<a.length):((mL m n a k).map c)[j]? = some (c (m a[j] (kJ n a k j))):=by
 rw[List.getElem?_map,ZoS h];rfl
theorem ZE{α:Type}{c:α->List Tr}{m:α->Int->α}{n:α->Nat}{a:List α}{k:Int}:cut ((mL m n a k).map c) 0 a.length=(mL m n a k).map c:=by
 simp only[cut,List.drop_zero]
 exact List.take_of_length_le (by rw[List.length_map,Zi];exact Nat.le_refl _)
theorem Zu{α:Type}{c:α->List Tr}{a:List α}:cut (a.map c) 0 a.length=a.map c:=by
 simp only[cut,List.drop_zero]
 exact List.take_of_length_le (by rw[List.length_map];exact Nat.le_refl _)
end Go.Fd

/-
  MARKING STRUCTS; WHETHER MARKS ARE HELD (printed by lawgen.py). Own work.
-/
namespace Go.Fd
set_option maxRecDepth 20000
def Z4(x:TBigraph):Nat:=nL JI x.nodes+nL XX x.sites+nL UV x.outer+nL Vj x.inner
theorem ZeD(x:TBigraph)(k:Int)(lvl:Nat)(S:Sto)(i1 i2 i3 i4:Oid)(k1 h1 v1 k2 h2 v2 k3 h3 v3 k4 h4 v4:Nat)(c1 c2 c3 c4:Option Nat)(l1:i1.1<lvl)(l2:i2.1<lvl)(l3:i3.1<lvl)(l4:i4.1<lvl)(n2_1:i2≠i1)(n3_1:i3≠i1)(n3_2:i3≠i2)(n4_1:i4≠i1)(n4_2:i4≠i2)(n4_3:i4≠i3)(s1:S i1=some (.ar k1 (x.nodes.map ZF) true h1 v1))(s2:S i2=some (.ar k2 (rI x.sites) true h2 v2))(s3:S i3=some (.ar k3 (rS x.outer) true h3 v3))(s4:S i4=some (.ar k4 (x.inner.map ZC) true h4 v4))(h0:0<=k)(hk:k+Z4 x<=4611686018427387904)(hb:Zl 4294967296 x) :
  Sem Proofs.Tryz.prog Ja lvl [.ag [iI x.roots,.hd i1 [] 0 x.nodes.length c1 h1,.hd i2 [] 0 x.sites.length c2 h2,iI x.edges,.hd i3 [] 0 x.outer.length c3 h3,.hd i4 [] 0 x.inner.length c4 h4],iI k] S (iI (k+Z4 x)) (ZM (ZM (ZM (ZM S i1 (.ar k1 (((mL ZcE JI x.nodes (k))).map ZF) true h1 v1)) i2 (.ar k2 (rI (mL ZgQ XX x.sites (k+(nL JI x.nodes:Nat)))) true h2 v2)) i3 (.ar k3 (rS (mL Zg5 UV x.outer (k+(nL JI x.nodes:Nat)+(nL XX x.sites:Nat)))) true h3 v3)) i4 (.ar k4 (((mL ZcF Vj x.inner (k+(nL JI x.nodes:Nat)+(nL XX x.sites:Nat)+(nL UV x.outer:Nat)))).map ZC) true h4 v4)):=by
 obtain⟨b0,b1,b2,b3,b4,b5,b6⟩:=hb
 have e1:i1.1≠lvl:=by omega
 have e2:i2.1≠lvl:=by omega
 have e3:i3.1≠lvl:=by omega
 have e4:i4.1≠lvl:=by omega
 simp only[Z4] at hk
 refine Zc ZbZ trivial ?_
 simp only[WS,ZR e1,ZR e2,ZR e3,ZR e4,EVA,seval,Zd,men]
 simp only[Zcd]
 refine Zbl ZkU l1 s1 (by omega) (by omega) b0 b1 ?_
 simp only[ZR e1,ZR e2,ZR e3,ZR e4,EVA,seval,Zd,men]
 simp only[Zcd]
 refine Zbl Zib l2 (by rw[ZcH n2_1];exact s2) (by omega) (by omega) b2 (fun _ _=>trivial) ?_
 simp only[ZR e1,ZR e2,ZR e3,ZR e4,EVA,seval,Zd,men]
 simp only[Zcd]
 refine Zbl Zic l3 (by rw[ZcH n3_2,ZcH n3_1];exact s3) (by omega) (by omega) b3 b4 ?_
 simp only[ZR e1,ZR e2,ZR e3,ZR e4,EVA,seval,Zd,men]
 simp only[Zcd]
 refine Zbl ZkV l4 (by rw[ZcH n4_3,ZcH n4_2,ZcH n4_1];exact s4) (by omega) (by omega) b5 b6 ?_
 simp only[ZR e1,ZR e2,ZR e3,ZR e4,EVA,seval,Zd,men]
 simp only[Z4,Int.natCast_add,<-Int.add_assoc]
 try exact⟨rfl,rfl⟩
theorem JJ{x:TBigraph}{k:Int}{lvl a1 a2 a3 a4:Nat}{out:Sto}{k1 h1 v1 k2 h2 v2 k3 h3 v3 k4 h4 v4:Nat}{c1 c2 c3 c4:Option Nat}{env:List (Nat×IV)}{loc:List (Nat×Ob)}{d:Option Nat}{K:St->Prop}(n2_1:a2≠a1)(n3_1:a3≠a1)(n3_2:a3≠a2)(n4_1:a4≠a1)(n4_2:a4≠a2)(n4_3:a4≠a3)(s1:lkO a1 loc=some (.ar k1 (x.nodes.map ZF) true h1 v1))(s2:lkO a2 loc=some (.ar k2 (rI x.sites) true h2 v2))(s3:lkO a3 loc=some (.ar k3 (rS x.outer) true h3 v3))(s4:lkO a4 loc=some (.ar k4 (x.inner.map ZC) true h4 v4))(h0:0<=k)(hk:k+Z4 x<=4611686018427387904)(hb:Zl 4294967296 x)
  (hK:K ⟨lvl,ptd d (iI (k+Z4 x)) env,(ptO a4 (.ar k4 (((mL ZcF Vj x.inner (k+(nL JI x.nodes:Nat)+(nL XX x.sites:Nat)+(nL UV x.outer:Nat)))).map ZC) true h4 v4) (ptO a3 (.ar k3 (rS (mL Zg5 UV x.outer (k+(nL JI x.nodes:Nat)+(nL XX x.sites:Nat)))) true h3 v3) (ptO a2 (.ar k2 (rI (mL ZgQ XX x.sites (k+(nL JI x.nodes:Nat)))) true h2 v2) (ptO a1 (.ar k1 (((mL ZcE JI x.nodes (k))).map ZF) true h1 v1) loc)))),out⟩) :
  kcy (Sem Proofs.Tryz.prog) Ja true lvl env loc out d K [.ag [iI x.roots,.hd (lvl,a1) [] 0 x.nodes.length c1 h1,.hd (lvl,a2) [] 0 x.sites.length c2 h2,iI x.edges,.hd (lvl,a3) [] 0 x.outer.length c3 h3,.hd (lvl,a4) [] 0 x.inner.length c4 h4],iI k]:=by
 refine Qs (r:=iI (k+Z4 x)) (ptO a4 (.ar k4 (((mL ZcF Vj x.inner (k+(nL JI x.nodes:Nat)+(nL XX x.sites:Nat)+(nL UV x.outer:Nat)))).map ZC) true h4 v4) (ptO a3 (.ar k3 (rS (mL Zg5 UV x.outer (k+(nL JI x.nodes:Nat)+(nL XX x.sites:Nat)))) true h3 v3) (ptO a2 (.ar k2 (rI (mL ZgQ XX x.sites (k+(nL JI x.nodes:Nat)))) true h2 v2) (ptO a1 (.ar k1 (((mL ZcE JI x.nodes (k))).map ZF) true h1 v1) loc)))) out (fun _ _=>rfl) ?_ ⟨trivial,hK⟩
 rw[Ug,Ug,Ug,Ug]
 exact ZeD x k (lvl+1) _ (lvl,a1) (lvl,a2) (lvl,a3) (lvl,a4) k1 h1 v1 k2 h2 v2 k3 h3 v3 k4 h4 v4 c1 c2 c3 c4 (Nat.lt_succ_self _) (Nat.lt_succ_self _) (Nat.lt_succ_self _) (Nat.lt_succ_self _) (fun e=>n2_1 (congrArg Prod.snd e)) (fun e=>n3_1 (congrArg Prod.snd e)) (fun e=>n3_2 (congrArg Prod.snd e)) (fun e=>n4_1 (congrArg Prod.snd e)) (fun e=>n4_2 (congrArg Prod.snd e)) (fun e=>n4_3 (congrArg Prod.snd e)) (by rw[Yc];exact s1) (by rw[Yc];exact s2) (by rw[Yc];exact s3) (by rw[Yc];exact s4) h0 hk hb
def X1(x:TBigraph)(k:Int):TBigraph:={ x with nodes:=mL ZcE JI x.nodes (k),sites:=mL ZgQ XX x.sites (k+(nL JI x.nodes:Nat)),outer:=mL Zg5 UV x.outer (k+(nL JI x.nodes:Nat)+(nL XX x.sites:Nat)),inner:=mL ZcF Vj x.inner (k+(nL JI x.nodes:Nat)+(nL XX x.sites:Nat)+(nL UV x.outer:Nat)) }
theorem Zid(a:List Int)(k:Int)(hl:a.length<=4294967296)(h0:0<=k)(hk:k+nL XX a<=4611686018427387904)(lvl:Nat)(S:Sto):Sem Proofs.Tryz.prog Vp lvl [.tr (.sl (rI (mL ZgQ XX a k))),iI k] S (iI (k+nL XX a)) S:=by
 refine Zc ZeC trivial ?_
 simp only[DV,EVA,seval,Zd,men]
 refine ZY (α:=Unit) a.length (fun j _=>⟨lvl,[(0,.tr (.sl (rI (mL ZgQ XX a k)))),(1,iI (kJ XX a k j)),(5,iI j)],[],S⟩) (fun _ _=>True) () ⟨by simp only[EVA,seval,Zd,men],by (simp only[UL,EVA,seval,Zd,men]) <;> rfl⟩ trivial ?_
 intro j _ hj _
 simp only[List.length_map,Zi,EVA,seval,Zd,men]
 refine Zo (fun hlt=>?_) (fun hge=>?_)
 ·have hja:j<a.length:=by omega
  have ga:=Zkl (c:=(fun n:Int=>[tv n])) (m:=ZgQ) (n:=XX) (k:=k) hja
  have hge2:=Zgc XX (a:=a) (k:=k) (j:=j+1)
  rw[YS XX hja] at hge2
  have hge3:=Zgd XX (a:=a) (k:=k) (j:=j)
  try simp only[XX] at hge2
  simp only[ga,ZgQ,Zg5,Nat.zero_add,hja,ne_eq,not_true_eq_false,EVA,seval,Zd,men]
  refine⟨by rw[Ze];omega,⟨by rw[Ze];omega,Zf () hja ?_ trivial⟩⟩
  rw[YS XX hja]
  simp only[XX,Int.natCast_add,Int.natCast_one,Int.add_assoc]
  try rfl
 ·have:j=a.length:=by omega
  subst this
  rw[Zbk]
theorem ZkW(a:List TNode)(k:Int)(hl:a.length<=4294967296)(hB:∀ x∈a,(Xi 4294967296) x)(h0:0<=k)(hk:k+nL JI a<=4611686018427387904)(lvl:Nat)(S:Sto):Sem Proofs.Tryz.prog QF lvl [.tr (.sl (((mL ZcE JI a k)).map ZF)),iI k] S (iI (k+nL JI a)) S:=by
 refine Zc Zdb trivial ?_
 simp only[Da,EVA,seval,Zd,men]
 refine ZY (α:=Unit) a.length (fun j _=>⟨lvl,[(0,.tr (.sl (((mL ZcE JI a k)).map ZF))),(1,iI (kJ JI a k j)),(5,iI j)],[],S⟩) (fun _ _=>True) () ⟨by simp only[EVA,seval,Zd,men],by (simp only[UL,EVA,seval,Zd,men]) <;> rfl⟩ trivial ?_
 intro j _ hj _
 simp only[List.length_map,Zi,EVA,seval,Zd,men]
 refine Zo (fun hlt=>?_) (fun hge=>?_)
 ·have hja:j<a.length:=by omega
  have ga:=Zkl (c:=ZF) (m:=ZcE) (n:=JI) (k:=k) hja
  have hge2:=Zgc JI (a:=a) (k:=k) (j:=j+1)
  rw[YS JI hja] at hge2
  have hge3:=Zgd JI (a:=a) (k:=k) (j:=j)
  try simp only[JI] at hge2
  have hb:=hB _ (List.getElem_mem hja)
  simp only[ga,ZF,ZcE,ZgQ,Zg5,Nat.zero_add,hja,ne_eq,not_true_eq_false,EVA,seval,Zd,men]
  refine⟨by rw[Ze];omega,⟨by rw[Ze];omega,?_⟩⟩
  refine Zb (Zid (a[j]).links (kJ JI a k j+1+1) hb (by omega) (by omega)) ?_
  have hz2:¬ (kJ JI a k j+1+1+(nL XX (a[j]).links:Nat)<0):=by omega
  simp only[ga,ZF,ZcE,ZgQ,Zg5,Nat.zero_add,hja,ne_eq,not_true_eq_false,hz2,EVA,seval,Zd,men]
  refine⟨by rw[Ze];omega,Zf () hja ?_ trivial⟩
  rw[YS JI hja]
  simp only[JI,Int.natCast_add,Int.natCast_one,Int.add_assoc]
  try rfl
 ·have:j=a.length:=by omega
  subst this
  rw[Zbk]
theorem Zie(a:List ByteArray)(k:Int)(hl:a.length<=4294967296)(hB:∀ x∈a,(fun x=>x.size<=4294967296) x)(h0:0<=k)(hk:k+nL UV a<=4611686018427387904)(lvl:Nat)(S:Sto):Sem Proofs.Tryz.prog VA lvl [.tr (.sl (rS (mL Zg5 UV a k))),iI k] S (iI (k+nL UV a)) S:=by
 refine Zc Zb2 trivial ?_
 simp only[WV,EVA,seval,Zd,men]
 refine ZY (α:=Unit) a.length (fun j _=>⟨lvl,[(0,.tr (.sl (rS (mL Zg5 UV a k)))),(1,iI (kJ UV a k j)),(5,iI j)],[],S⟩) (fun _ _=>True) () ⟨by simp only[EVA,seval,Zd,men],by (simp only[UL,EVA,seval,Zd,men]) <;> rfl⟩ trivial ?_
 intro j _ hj _
 simp only[List.length_map,Zi,EVA,seval,Zd,men]
 refine Zo (fun hlt=>?_) (fun hge=>?_)
 ·have hja:j<a.length:=by omega
  have ga:=Zkl (c:=(fun n:ByteArray=>[ts n])) (m:=Zg5) (n:=UV) (k:=k) hja
  have hge2:=Zgc UV (a:=a) (k:=k) (j:=j+1)
  rw[YS UV hja] at hge2
  have hge3:=Zgd UV (a:=a) (k:=k) (j:=j)
  try simp only[UV] at hge2
  have hb:=hB _ (List.getElem_mem hja)
  simp only[ga,Zg5,ZgQ,Nat.zero_add,hja,ne_eq,not_true_eq_false,EVA,seval,Zd,men]
  refine Zb (Xq (kJ UV a k j) (by omega)) ?_
  simp only[ga,Zg5,ZgQ,Nat.zero_add,hja,ne_eq,not_true_eq_false,EVA,seval,Zd,men]
  refine⟨by rw[Ze];omega,⟨by rw[Ze];omega,Zf () hja ?_ trivial⟩⟩
  rw[YS UV hja]
  simp only[UV,Int.natCast_add,Int.natCast_one,Int.add_assoc]
  try rfl
 ·have:j=a.length:=by omega
  subst this
  rw[Zbk]
theorem ZkX(a:List TWire)(k:Int)(hl:a.length<=4294967296)(hB:∀ x∈a,(Qe 4294967296) x)(h0:0<=k)(hk:k+nL Vj a<=4611686018427387904)(lvl:Nat)(S:Sto):Sem Proofs.Tryz.prog QG lvl [.tr (.sl (((mL ZcF Vj a k)).map ZC)),iI k] S (iI (k+nL Vj a)) S:=by
 refine Zc Zdc trivial ?_
 simp only[Db,EVA,seval,Zd,men]
 refine ZY (α:=Unit) a.length (fun j _=>⟨lvl,[(0,.tr (.sl (((mL ZcF Vj a k)).map ZC))),(1,iI (kJ Vj a k j)),(5,iI j)],[],S⟩) (fun _ _=>True) () ⟨by simp only[EVA,seval,Zd,men],by (simp only[UL,EVA,seval,Zd,men]) <;> rfl⟩ trivial ?_
 intro j _ hj _
 simp only[List.length_map,Zi,EVA,seval,Zd,men]
 refine Zo (fun hlt=>?_) (fun hge=>?_)
 ·have hja:j<a.length:=by omega
  have ga:=Zkl (c:=ZC) (m:=ZcF) (n:=Vj) (k:=k) hja
  have hge2:=Zgc Vj (a:=a) (k:=k) (j:=j+1)
  rw[YS Vj hja] at hge2
  have hge3:=Zgd Vj (a:=a) (k:=k) (j:=j)
  try simp only[Vj] at hge2
  have hb:=hB _ (List.getElem_mem hja)
  simp only[ga,ZC,ZcF,ZgQ,Zg5,Nat.zero_add,hja,ne_eq,not_true_eq_false,EVA,seval,Zd,men]
  refine Zb (Xq (kJ Vj a k j) (by omega)) ?_
  simp only[ga,ZC,ZcF,ZgQ,Zg5,Nat.zero_add,hja,ne_eq,not_true_eq_false,EVA,seval,Zd,men]
  refine⟨by rw[Ze];omega,⟨by rw[Ze];omega,⟨by rw[Ze];omega,Zf () hja ?_ trivial⟩⟩⟩
  rw[YS Vj hja]
  simp only[Vj,Int.natCast_add,Int.natCast_one,Int.add_assoc]
  try rfl
 ·have:j=a.length:=by omega
  subst this
  rw[Zbk]
theorem WW(x:TBigraph)(k:Int)(hb:Zl 4294967296 x)(h0:0<=k)(hk:k+Z4 x<=4611686018427387904)(lvl:Nat)(S:Sto):Sem Proofs.Tryz.prog Ym lvl [.ag ((Za (X1 x k)).map .tr),iI k] S (iI (k+Z4 x)) S:=by
 obtain⟨b0,b1,b2,b3,b4,b5,b6⟩:=hb
 simp only[Z4] at hk
 refine Zc Zb0 trivial ?_
 simp only[WT,Za,X1,EVA,seval,Zd,men]
 refine Zb (ZkW x.nodes (k) b0 b1 (by omega) (by omega)) ?_
 have hz0:¬ (k+(nL JI x.nodes:Nat)<0):=by omega
 simp only[Za,X1,hz0,EVA,seval,Zd,men]
 refine Zb (Zid x.sites (k+(nL JI x.nodes:Nat)) b2 (by omega) (by omega)) ?_
 have hz1:¬ (k+(nL JI x.nodes:Nat)+(nL XX x.sites:Nat)<0):=by omega
 simp only[Za,X1,hz1,EVA,seval,Zd,men]
 refine Zb (Zie x.outer (k+(nL JI x.nodes:Nat)+(nL XX x.sites:Nat)) b3 b4 (by omega) (by omega)) ?_
 have hz2:¬ (k+(nL JI x.nodes:Nat)+(nL XX x.sites:Nat)+(nL UV x.outer:Nat)<0):=by omega
 simp only[Za,X1,hz2,EVA,seval,Zd,men]
 refine Zb (ZkX x.inner (k+(nL JI x.nodes:Nat)+(nL XX x.sites:Nat)+(nL UV x.outer:Nat)) b5 b6 (by omega) (by omega)) ?_
 have hz3:¬ (k+(nL JI x.nodes:Nat)+(nL XX x.sites:Nat)+(nL UV x.outer:Nat)+(nL Vj x.inner:Nat)<0):=by omega
 simp only[Za,X1,hz3,EVA,seval,Zd,men]
 simp only[Z4,Int.natCast_add,<-Int.add_assoc]
end Go.Fd

/-
  HOW MANY MARKS SMALL THINGS TAKE. Own work.
-/
namespace Go.Fd
theorem ZoT:∀(l:List Int),nL XX l=l.length
 | []=>rfl
 | x::r=>by simp only[nL,List.length_cons,ZoT r,XX];omega
theorem ZtY{α:Type}{n:α->Nat}{B:Nat}:∀(l:List α),(∀ x∈l,n x<=B)->nL n l<=l.length*B
 | [],_=>Nat.zero_le _
 | x::r,h=>by
  have h1:=h x (by simp)
  have h2:=ZtY r (fun y hy=>h y (by simp [hy]))
  simp only[nL,List.length_cons,Nat.add_mul]
  omega
end Go.Fd

/-
  HOW MANY MARKS A THING TAKES, AGAINST ITS SIZE (printed by lawgen.py). Own work.
-/
namespace Go.Fd
theorem ZtZ(x:TNode):Zq 256 (fun l=>U1 x l) (JI x):=Zd2 (ZiI (by omega) (by omega) (ZyH XX (fun _=>(by decide:1<=256)) x.links) ZnQ) (by simp only[JI];omega)
theorem Zt0(x:TWire):Zq 256 (fun l=>U2 x l) (Vj x):=Zd2 (ZiI (by omega) (by omega) (ZoA x.name.size) ZnQ) (by simp only[Vj];omega)
theorem ZeE(x:TBigraph):Zq 0 (fun l=>JS x l) (Z4 x):=Zd2 (ZiI (by omega) (by omega) (Zuc (n:=JI) (fun y=>Zd2 (ZtZ y) (by omega)) x.nodes) (ZiI (by omega) (by omega) (ZyH XX (fun _=>(by decide:1<=256)) x.sites) (ZiI (by omega) (by omega) (Zuc (n:=UV) (fun y=>Zqd y.size) x.outer) (ZiI (by omega) (by omega) (Zuc (n:=Vj) (fun y=>Zd2 (Zt0 y) (by omega)) x.inner) ZnQ)))) (by simp only[Z4];omega)
theorem ZmX(x:TControl):Zq 256 (fun l=>Jg x l) (Yo x):=Zd2 (ZiI (by omega) (by omega) (ZoA x.name.size) ZnQ) (by simp only[Yo];omega)
end Go.Fd

/-
  WHAT HOLDS OF THE HELPERS OF THE LAWS (printed by lawgen.py). Own work.
-/
namespace Go.Fd
set_option maxRecDepth 20000
theorem Zt1{n:Nat}{l:Int}(h:0<=l):szN n l<=l:=by unfold szN;split <;> omega
theorem ZoU{α:Type}{f:α->Int->Int}:∀(a:List α) (l:Int),(∀ x∈a,∀ l:Int,0<=l->l<=1048576->f x l<=l)->0<=l->l<=1048576->szF f a l<=l
 | [],l,_,_,_=>Int.le_refl l
 | x::r,l,hf,h0,h1=>by
  simp only[szF]
  have:=hf x (by simp) l h0 h1
  split
  ·omega
  ·have h2:=ZoU r (f x l) (fun y hy=>hf y (by simp [hy])) (by omega) (by omega)
   omega
theorem Zkm{α:Type}{f:α->Int->Int}(a:List α){l:Int}(hf:∀ x∈a,∀ l:Int,0<=l->l<=1048576->f x l<=l)(h0:0<=l)(h1:l<=1048576):szL f a l<=l:=by
 unfold szL
 split
 ·omega
 ·have:=ZoU a (l-a.length) hf (by omega) (by omega)
  omega
theorem Za1{l m:Int}{g:Int->Int}(h0:0<=l)(h:m<=l)(hg:0<=m->g m<=m):Zbm m g<=l:=by
 unfold Zbm
 split
 ·omega
 ·have:=hg (by omega)
  omega
theorem Zof:ZP Proofs.Tryz.prog Qv sz0=true:=by kernel_rfl
theorem Zah(a:List Int)(hl:a.length<=9223372036854775807)(l:Int)(h0:0<=l)(h1:l<=1048576):szN a.length l<=l/\∀ lvl S,Sem Proofs.Tryz.prog Qv lvl [.tr (.sl (rI a)),iI l] S (iI (szN a.length l)) S:=by
 refine⟨Zt1 h0,fun lvl S=>?_⟩
 have:=Zp8 Zof (rI a) l (by simpa using hl) h0 h1 lvl S
 simpa using this
theorem Zfy(x:TNode)(hb:Xi 9223372036854775807 x)(l:Int)(h0:0<=l)(h1:l<=1048576):U1 x l<=l/\∀ lvl S,Sem Proofs.Tryz.prog We lvl [.ag ((ZF x).map .tr),iI l] S (iI (U1 x l)) S:=by
 have b0:x.links.length<=9223372036854775807:=hb
 refine⟨?_,fun lvl S=>?_⟩
 ·unfold U1
  have q0:=Zah x.links b0 _ h0 h1
  refine Za1 h0 q0.1 (fun p0=>?_)
  have r0:_<=(1048576:Int):=Int.le_trans q0.1 h1
  exact Int.le_refl _
 ·refine Zc ZgR trivial ?_
  simp only[Zb4,ZF,List.map_cons,List.map_nil,EVA,seval,Zd,men]
  unfold U1
  have q0:=Zah x.links b0 l h0 h1
  refine Zb q0.2 ?_
  simp only[EVA,seval,Zd,men]
  obtain⟨l1,hl1⟩:∃ m:Int,m=(szN x.links.length l):=⟨_,rfl⟩
  have u1:l1<=l:=by rw[hl1];exact q0.1
  rw[<-hl1]
  split
  ·rename_i hn;rw[Zbm,if_pos hn]
  rename_i hn0
  rw[Zbm,if_neg hn0]
theorem ZmY:ZP Proofs.Tryz.prog Xv (Ztk 3 (some 3) We)=true:=by kernel_rfl
theorem ZeF(a:List TNode)(hl:a.length<=9223372036854775807)(hb:∀ y∈a,Xi 9223372036854775807 y)(l:Int)(h0:0<=l)(h1:l<=1048576):szL U1 a l<=l/\∀ lvl S,Sem Proofs.Tryz.prog Xv lvl [.tr (.sl (a.map ZF)),iI l] S (iI (szL U1 a l)) S :=
 ⟨Zkm a (fun x hx l h0 h1=>(Zfy x (hb x hx) l h0 h1).1) h0 h1,fun lvl S=>Zf9 ZmY ZF U1 ZlS a l hl h0 h1 (fun x hx l h0 h1=>Zfy x (hb x hx) l h0 h1) lvl S⟩
theorem Zfz(x:TWire)(hb:Qe 9223372036854775807 x)(l:Int)(h0:0<=l)(h1:l<=1048576):U2 x l<=l/\∀ lvl S,Sem Proofs.Tryz.prog Wf lvl [.ag ((ZC x).map .tr),iI l] S (iI (U2 x l)) S:=by
 have b0:x.name.size<=9223372036854775807:=hb
 refine⟨?_,fun lvl S=>?_⟩
 ·unfold U2
  refine Za1 h0 (m:=l-x.name.size) (by omega) (fun p0=>?_)
  have r0:_<=(1048576:Int):=Int.le_trans (show l-x.name.size<=l by omega) h1
  exact Int.le_refl _
 ·refine Zc ZgS trivial ?_
  simp only[Zb5,ZC,List.map_cons,List.map_nil,EVA,seval,Zd,men]
  unfold U2
  refine⟨by rw[Ze];omega,?_⟩
  obtain⟨l1,hl1⟩:∃ m:Int,m=l-x.name.size:=⟨_,rfl⟩
  have u1:l1<=l:=by omega
  rw[<-hl1]
  split
  ·rename_i hn;rw[Zbm,if_pos hn]
  rename_i hn0
  rw[Zbm,if_neg hn0]
theorem ZmZ:ZP Proofs.Tryz.prog Xw (Ztk 2 (some 2) Wf)=true:=by kernel_rfl
theorem ZeG(a:List TWire)(hl:a.length<=9223372036854775807)(hb:∀ y∈a,Qe 9223372036854775807 y)(l:Int)(h0:0<=l)(h1:l<=1048576):szL U2 a l<=l/\∀ lvl S,Sem Proofs.Tryz.prog Xw lvl [.tr (.sl (a.map ZC)),iI l] S (iI (szL U2 a l)) S :=
 ⟨Zkm a (fun x hx l h0 h1=>(Zfz x (hb x hx) l h0 h1).1) h0 h1,fun lvl S=>Zf9 ZmZ ZC U2 ZlU a l hl h0 h1 (fun x hx l h0 h1=>Zfz x (hb x hx) l h0 h1) lvl S⟩
theorem Zjf:ZP Proofs.Tryz.prog Qw Zx0=true:=by kernel_rfl
theorem Zca(a:List ByteArray)(hl:a.length<=9223372036854775807)(hb:∀ y∈a,y.size<=9223372036854775807)(l:Int)(h0:0<=l)(h1:l<=1048576):szL (fun x m=>m-x.size) a l<=l/\∀ lvl S,Sem Proofs.Tryz.prog Qw lvl [tS a,iI l] S (iI (szL (fun x m=>m-x.size) a l)) S :=
 ⟨Zkm a (fun x _ l _ _=>by omega) h0 h1,fun lvl S=>ZnO Zjf a l hl h0 h1 hb lvl S⟩
theorem UW(x:TBigraph)(hb:Zl 9223372036854775807 x)(l:Int)(h0:0<=l)(h1:l<=1048576):JS x l<=l/\∀ lvl S,Sem Proofs.Tryz.prog Yd lvl [.ag ((Za x).map .tr),iI l] S (iI (JS x l)) S:=by
 obtain⟨b0,b1,b2,b3,b4,b5,b6⟩:=hb
 refine⟨?_,fun lvl S=>?_⟩
 ·unfold JS
  have q0:=ZeF x.nodes b0 b1 _ h0 h1
  refine Za1 h0 q0.1 (fun p0=>?_)
  have r0:_<=(1048576:Int):=Int.le_trans q0.1 h1
  have q1:=Zah x.sites b2 _ p0 r0
  refine Za1 p0 q1.1 (fun p1=>?_)
  have r1:_<=(1048576:Int):=Int.le_trans q1.1 r0
  have q2:=Zca x.outer b3 b4 _ p1 r1
  refine Za1 p1 q2.1 (fun p2=>?_)
  have r2:_<=(1048576:Int):=Int.le_trans q2.1 r1
  have q3:=ZeG x.inner b5 b6 _ p2 r2
  refine Za1 p2 q3.1 (fun p3=>?_)
  have r3:_<=(1048576:Int):=Int.le_trans q3.1 r2
  exact Int.le_refl _
 ·refine Zc Zdd trivial ?_
  simp only[Dc,Za,List.map_cons,List.map_nil,EVA,seval,Zd,men]
  unfold JS
  have q0:=ZeF x.nodes b0 b1 l h0 h1
  refine Zb q0.2 ?_
  simp only[EVA,seval,Zd,men]
  obtain⟨l1,hl1⟩:∃ m:Int,m=(szL U1 x.nodes l):=⟨_,rfl⟩
  have u1:l1<=l:=by rw[hl1];exact q0.1
  rw[<-hl1]
  split
  ·rename_i hn;rw[Zbm,if_pos hn]
  rename_i hn0
  rw[Zbm,if_neg hn0]
  have q1:=Zah x.sites b2 l1 (show 0<=l1 by omega) (show l1<=1048576 by omega)
  refine Zb q1.2 ?_
  simp only[EVA,seval,Zd,men]
  obtain⟨l2,hl2⟩:∃ m:Int,m=(szN x.sites.length l1):=⟨_,rfl⟩
  have u2:l2<=l1:=by rw[hl2];exact q1.1
  rw[<-hl2]
  split
  ·rename_i hn;rw[Zbm,if_pos hn]
  rename_i hn1
  rw[Zbm,if_neg hn1]
  have q2:=Zca x.outer b3 b4 l2 (show 0<=l2 by omega) (show l2<=1048576 by omega)
  refine Zb q2.2 ?_
  simp only[EVA,seval,Zd,men]
  obtain⟨l3,hl3⟩:∃ m:Int,m=(szL (fun x m=>m-x.size) x.outer l2):=⟨_,rfl⟩
  have u3:l3<=l2:=by rw[hl3];exact q2.1
  rw[<-hl3]
  split
  ·rename_i hn;rw[Zbm,if_pos hn]
  rename_i hn2
  rw[Zbm,if_neg hn2]
  have q3:=ZeG x.inner b5 b6 l3 (show 0<=l3 by omega) (show l3<=1048576 by omega)
  refine Zb q3.2 ?_
  simp only[EVA,seval,Zd,men]
  obtain⟨l4,hl4⟩:∃ m:Int,m=(szL U2 x.inner l3):=⟨_,rfl⟩
  have u4:l4<=l3:=by rw[hl4];exact q3.1
  rw[<-hl4]
  split
  ·rename_i hn;rw[Zbm,if_pos hn]
  rename_i hn3
  rw[Zbm,if_neg hn3]
theorem Zcb(x:TControl)(hb:Zy 9223372036854775807 x)(l:Int)(h0:0<=l)(h1:l<=1048576):Jg x l<=l/\∀ lvl S,Sem Proofs.Tryz.prog Qu lvl [.ag ((Zk x).map .tr),iI l] S (iI (Jg x l)) S:=by
 have b0:x.name.size<=9223372036854775807:=hb
 refine⟨?_,fun lvl S=>?_⟩
 ·unfold Jg
  refine Za1 h0 (m:=l-x.name.size) (by omega) (fun p0=>?_)
  have r0:_<=(1048576:Int):=Int.le_trans (show l-x.name.size<=l by omega) h1
  exact Int.le_refl _
 ·refine Zc Zdg trivial ?_
  simp only[Df,Zk,List.map_cons,List.map_nil,EVA,seval,Zd,men]
  unfold Jg
  refine⟨by rw[Ze];omega,?_⟩
  obtain⟨l1,hl1⟩:∃ m:Int,m=l-x.name.size:=⟨_,rfl⟩
  have u1:l1<=l:=by omega
  rw[<-hl1]
  split
  ·rename_i hn;rw[Zbm,if_pos hn]
  rename_i hn0
  rw[Zbm,if_neg hn0]
theorem Zif:ZP Proofs.Tryz.prog V4 (Ztk 3 (some 3) Qu)=true:=by kernel_rfl
theorem Zfg(a:List TControl)(hl:a.length<=9223372036854775807)(hb:∀ y∈a,Zy 9223372036854775807 y)(l:Int)(h0:0<=l)(h1:l<=1048576):szL Jg a l<=l/\∀ lvl S,Sem Proofs.Tryz.prog V4 lvl [.tr (.sl (a.map Zk)),iI l] S (iI (szL Jg a l)) S :=
 ⟨Zkm a (fun x hx l h0 h1=>(Zcb x (hb x hx) l h0 h1).1) h0 h1,fun lvl S=>Zf9 Zif Zk Jg ZcN a l hl h0 h1 (fun x hx l h0 h1=>Zcb x (hb x hx) l h0 h1) lvl S⟩
end Go.Fd

/-
  WHAT HOLDS OF THE HELPERS OF THE LAWS: eq.. (printed by lawgen.py). Own work.
-/
namespace Go.Fd
set_option maxRecDepth 20000
theorem Zog:ZP Proofs.Tryz.prog QA ZqI=true:=by kernel_rfl
theorem ZfA(a b:(List Int))(ha:a.length<=9223372036854775807)(lvl:Nat)(S:Sto):Sem Proofs.Tryz.prog QA lvl [.tr (.sl (rI a)),.tr (.sl (rI b))] S (iB (decide (a=b))) S:=Zp9 Zog a b ha lvl S
theorem ZkY(x y:TNode)(hb:Xi 9223372036854775807 x)(lvl:Nat)(S:Sto):Sem Proofs.Tryz.prog Wj lvl [.ag ((ZF x).map .tr),.ag ((ZF y).map .tr)] S (iB (decide (x=y))) S:=by
 have b0:x.links.length<=9223372036854775807:=hb
 refine Zc ZgV trivial ?_
 simp only[Zb8,ZF,List.map_cons,List.map_nil,EVA,seval,Zd,men]
 refine Zo (fun hne=>?_) (fun heq0=>?_)
 ·have:¬ x=y:=fun e=>(by rw[e] at hne;simp at hne)
  simp [this]
 refine Zo (fun hne=>?_) (fun heq1=>?_)
 ·have:¬ x=y:=fun e=>(by rw[e] at hne;simp at hne)
  simp [this]
 refine Zb (ZfA x.links y.links b0) ?_
 simp only[Bool.not_eq_true',EVA,seval,Zd,men]
 refine Zo (fun hne=>?_) (fun heq2=>?_)
 ·have:¬ x=y:=fun e=>(by rw[e] at hne;simp at hne)
  simp [this]
 have:x=y:=by
  cases x;cases y;simp_all
 simp [this]
theorem Zm0:ZP Proofs.Tryz.prog XB (Ztl 3 (some 3) Wj)=true:=by kernel_rfl
theorem Zjg(a b:(List TNode))(ha:a.length<=9223372036854775807)(ha2:∀ y∈a,Xi 9223372036854775807 y)(lvl:Nat)(S:Sto):Sem Proofs.Tryz.prog XB lvl [.tr (.sl (a.map ZF)),.tr (.sl (b.map ZF))] S (iB (decide (a=b))) S :=
 Zga Zm0 ZF (fun _=>rfl) a b ha (fun x hx y _ lvl S=>ZkY x y (ha2 x hx) lvl S) lvl S
theorem ZkZ(x y:TWire)(hb:Qe 9223372036854775807 x)(lvl:Nat)(S:Sto):Sem Proofs.Tryz.prog Wl lvl [.ag ((ZC x).map .tr),.ag ((ZC y).map .tr)] S (iB (decide (x=y))) S:=by
 have b0:x.name.size<=9223372036854775807:=hb
 refine Zc ZgW trivial ?_
 simp only[Zb9,ZC,List.map_cons,List.map_nil,EVA,seval,Zd,men]
 refine Zo (fun hne=>?_) (fun heq0=>?_)
 ·have:¬ x=y:=fun e=>(by rw[e] at hne;simp at hne)
  simp [this]
 refine Zo (fun hne=>?_) (fun heq1=>?_)
 ·have:¬ x=y:=fun e=>(by rw[e] at hne;simp at hne)
  simp [this]
 have:x=y:=by
  cases x;cases y;simp_all
 simp [this]
theorem Zm1:ZP Proofs.Tryz.prog XC (Ztl 2 (some 2) Wl)=true:=by kernel_rfl
theorem Zjh(a b:(List TWire))(ha:a.length<=9223372036854775807)(ha2:∀ y∈a,Qe 9223372036854775807 y)(lvl:Nat)(S:Sto):Sem Proofs.Tryz.prog XC lvl [.tr (.sl (a.map ZC)),.tr (.sl (b.map ZC))] S (iB (decide (a=b))) S :=
 Zga Zm1 ZC (fun _=>rfl) a b ha (fun x hx y _ lvl S=>ZkZ x y (ha2 x hx) lvl S) lvl S
theorem Zji:ZP Proofs.Tryz.prog QB ZqI=true:=by kernel_rfl
theorem ZgX(a b:(List ByteArray))(ha:a.length<=9223372036854775807)(lvl:Nat)(S:Sto):Sem Proofs.Tryz.prog QB lvl [.tr (.sl (rS a)),.tr (.sl (rS b))] S (iB (decide (a=b))) S:=Zqa Zji a b ha lvl S
theorem Jl(x y:TBigraph)(hb:Zl 9223372036854775807 x)(lvl:Nat)(S:Sto):Sem Proofs.Tryz.prog Jd lvl [.ag ((Za x).map .tr),.ag ((Za y).map .tr)] S (iB (decide (x=y))) S:=by
 obtain⟨b0,b1,b2,b3,b4,b5,b6⟩:=hb
 refine Zc Zdf trivial ?_
 simp only[De,Za,List.map_cons,List.map_nil,EVA,seval,Zd,men]
 refine Zo (fun hne=>?_) (fun heq0=>?_)
 ·have:¬ x=y:=fun e=>(by rw[e] at hne;simp at hne)
  simp [this]
 refine Zb (Zjg x.nodes y.nodes b0 b1) ?_
 simp only[Bool.not_eq_true',EVA,seval,Zd,men]
 refine Zo (fun hne=>?_) (fun heq1=>?_)
 ·have:¬ x=y:=fun e=>(by rw[e] at hne;simp at hne)
  simp [this]
 refine Zb (ZfA x.sites y.sites b2) ?_
 simp only[Bool.not_eq_true',EVA,seval,Zd,men]
 refine Zo (fun hne=>?_) (fun heq2=>?_)
 ·have:¬ x=y:=fun e=>(by rw[e] at hne;simp at hne)
  simp [this]
 refine Zo (fun hne=>?_) (fun heq3=>?_)
 ·have:¬ x=y:=fun e=>(by rw[e] at hne;simp at hne)
  simp [this]
 refine Zb (ZgX x.outer y.outer b3) ?_
 simp only[Bool.not_eq_true',EVA,seval,Zd,men]
 refine Zo (fun hne=>?_) (fun heq4=>?_)
 ·have:¬ x=y:=fun e=>(by rw[e] at hne;simp at hne)
  simp [this]
 refine Zb (Zjh x.inner y.inner b5 b6) ?_
 simp only[Bool.not_eq_true',EVA,seval,Zd,men]
 refine Zo (fun hne=>?_) (fun heq5=>?_)
 ·have:¬ x=y:=fun e=>(by rw[e] at hne;simp at hne)
  simp [this]
 have:x=y:=by
  cases x;cases y;simp_all
 simp [this]
theorem ZgY(x y:TControl)(hb:Zy 9223372036854775807 x)(lvl:Nat)(S:Sto):Sem Proofs.Tryz.prog QC lvl [.ag ((Zk x).map .tr),.ag ((Zk y).map .tr)] S (iB (decide (x=y))) S:=by
 have b0:x.name.size<=9223372036854775807:=hb
 refine Zc Zdi trivial ?_
 simp only[Dh,Zk,List.map_cons,List.map_nil,EVA,seval,Zd,men]
 refine Zo (fun hne=>?_) (fun heq0=>?_)
 ·have:¬ x=y:=fun e=>(by rw[e] at hne;simp at hne)
  simp [this]
 refine Zo (fun hne=>?_) (fun heq1=>?_)
 ·have:¬ x=y:=fun e=>(by rw[e] at hne;simp at hne)
  simp [this]
 refine Zo (fun hne=>?_) (fun heq2=>?_)
 ·have:¬ x=y:=fun e=>(by rw[e] at hne;simp at hne)
  simp [this]
 have:x=y:=by
  cases x;cases y;simp_all
 simp [this]
theorem Zig:ZP Proofs.Tryz.prog V5 (Ztl 3 (some 3) QC)=true:=by kernel_rfl
theorem ZaO(a b:(List TControl))(ha:a.length<=9223372036854775807)(ha2:∀ y∈a,Zy 9223372036854775807 y)(lvl:Nat)(S:Sto):Sem Proofs.Tryz.prog V5 lvl [.tr (.sl (a.map Zk)),.tr (.sl (b.map Zk))] S (iB (decide (a=b))) S :=
 Zga Zig Zk (fun _=>rfl) a b ha (fun x hx y _ lvl S=>ZgY x y (ha2 x hx) lvl S) lvl S
end Go.Fd

/-
  WHAT HOLDS OF THE HELPERS OF THE LAWS: to.. (printed by lawgen.py). Own work.
-/
namespace Go.Fd
set_option maxRecDepth 20000
theorem Zoh:ZP Proofs.Tryz.prog Qy (ZqJ (.int .i64 0))=true:=by kernel_rfl
theorem ZfB(a:(List Int))(ha:a.length<=4294967296)(lvl:Nat)(S:Sto):Sem Proofs.Tryz.prog Qy lvl [.tr (.sl (rI a))] S (.ow 1 (rI a) true) S:=Zqb Zoh a ha lvl S
theorem Zk0(x:TNode)(hb:Xi 4294967296 x)(lvl:Nat)(S:Sto):Sem Proofs.Tryz.prog Wh lvl [.ag ((ZF x).map .tr)] S (ZnR x) S:=by
 have b0:x.links.length<=4294967296:=hb
 refine Zc ZgT (by simp [ZnR,low,men,Zd]) ?_
 simp only[Zb6,ZF,zfill,zobs,List.map_cons,List.map_nil,VX,VY,List.set_cons_zero,List.set_cons_succ,EVA,seval,Zd,men]
 refine Zb (ZfB x.links b0) ?_
 simp only[VX,VY,List.set_cons_zero,List.set_cons_succ,Prod.mk.injEq,EVA,seval,Zd,men]
 rfl
theorem Zjj(a:(List TNode))(ha:a.length<=4294967296)(hb:∀ y∈a,Xi 4294967296 y)(lvl:Nat)(S:Sto):Sem Proofs.Tryz.prog Xy lvl [.tr (.sl (a.map ZF))] S (.ow 3 (a.map ZF) true) S:=by
 refine Zc Zfe trivial ?_
 simp only[ZaM,List.length_map,bigN,Int.natCast_nonneg,EVA,seval,Zd,men]
 refine⟨by omega,?_⟩
 refine ZY (α:=Unit) a.length (fun j _=>⟨lvl,[(0,.tr (.sl (a.map ZF))),(3,.hd (lvl,224) [] 0 a.length none a.length),(4,iI j)],[(224,.ar 3 (YX ZF [tv 0,tv 0,.sl []] a j) true a.length (j*1))],S⟩) (fun _ _=>True) () ⟨by simp only[EVA,seval,Zd,men],by (simp only[Wb,EVA,seval,Zd,men]) <;> rfl⟩ trivial ?_
 intro j _ hj _
 simp only[List.length_map,EVA,seval,Zd,men]
 refine Zo (fun hlt=>?_) (fun hge=>?_)
 ·have hja:j<a.length:=by omega
  have ga:(a.map ZF)[j]? = some (ZF a[j]):=by simp [hja]
  have gz:(YX ZF [tv 0,tv 0,.sl []] a j)[j]? = some [tv 0,tv 0,.sl []]:=Ud hja
  have hfl:(YX ZF [tv 0,tv 0,.sl []] a j).length=a.length:=UK hj
  have hsem:=fun lvl S=>Zk0 a[j] (hb a[j] (List.getElem_mem hja)) lvl S
  simp only[ga,gz,Int.natCast_nonneg,Nat.le_refl,hja,ZF,ZnR,Nat.reduceLeDiff,EVA,↓reduceIte,Nat.reduceEqDiff,Nat.reduceMul,reduceCtorEq,Nat.reduceAdd,Nat.reduceSub,Nat.reduceLT,Int.reduceToNat,Int.reduceLE,Int.reduceLT,Zd,men]
  refine Zb hsem ?_
  simp only[ZnR,gz,Int.natCast_nonneg,Nat.le_refl,hja,hfl,Y7,List.getElem?_set_self,List.set_set,List.length_set,List.set_cons_zero,List.set_cons_succ,Prod.mk.injEq,ne_eq,not_false_eq_true,EVA,seval,Zd,men]
  refine⟨by rw[Ze];omega,Zf () hja ?_ trivial⟩
  have hse:=Ue (c:=ZF) (z:=[tv 0,tv 0,.sl []]) (e:=[tv a[j].control,tv a[j].parent,.sl (rI a[j].links)]) hja rfl
  rw[hse,show (j+1)*1=j*1+1 from by omega]
  rfl
 ·have:j=a.length:=by omega
  subst this
  rw[Uc]
  simp
theorem Zk1(x:TWire)(hb:Qe 4294967296 x)(lvl:Nat)(S:Sto):Sem Proofs.Tryz.prog Wi lvl [.ag ((ZC x).map .tr)] S (ZnS x) S:=by
 have b0:x.name.size<=4294967296:=hb
 refine Zc ZgU (by simp [ZnS,low,men,Zd]) ?_
 simp only[Zb7,ZC,zfill,zobs,List.map_cons,List.map_nil,VX,VY,List.set_cons_zero,List.set_cons_succ,EVA,seval,Zd,men]
 rfl
theorem Zjk(a:(List TWire))(ha:a.length<=4294967296)(hb:∀ y∈a,Qe 4294967296 y)(lvl:Nat)(S:Sto):Sem Proofs.Tryz.prog Xz lvl [.tr (.sl (a.map ZC))] S (.ow 2 (a.map ZC) true) S:=by
 refine Zc Zff trivial ?_
 simp only[ZaN,List.length_map,bigN,Int.natCast_nonneg,EVA,seval,Zd,men]
 refine⟨by omega,?_⟩
 refine ZY (α:=Unit) a.length (fun j _=>⟨lvl,[(0,.tr (.sl (a.map ZC))),(3,.hd (lvl,224) [] 0 a.length none a.length),(4,iI j)],[(224,.ar 2 (YX ZC [ts ⟨#[]⟩,tv 0] a j) true a.length (j*0))],S⟩) (fun _ _=>True) () ⟨by simp only[EVA,seval,Zd,men],by (simp only[Wb,EVA,seval,Zd,men]) <;> rfl⟩ trivial ?_
 intro j _ hj _
 simp only[List.length_map,EVA,seval,Zd,men]
 refine Zo (fun hlt=>?_) (fun hge=>?_)
 ·have hja:j<a.length:=by omega
  have ga:(a.map ZC)[j]? = some (ZC a[j]):=by simp [hja]
  have gz:(YX ZC [ts ⟨#[]⟩,tv 0] a j)[j]? = some [ts ⟨#[]⟩,tv 0]:=Ud hja
  have hfl:(YX ZC [ts ⟨#[]⟩,tv 0] a j).length=a.length:=UK hj
  have hsem:=fun lvl S=>Zk1 a[j] (hb a[j] (List.getElem_mem hja)) lvl S
  simp only[ga,gz,Int.natCast_nonneg,Nat.le_refl,hja,ZC,ZnS,Nat.reduceLeDiff,EVA,↓reduceIte,Nat.reduceEqDiff,Nat.reduceMul,reduceCtorEq,Nat.reduceAdd,Nat.reduceSub,Nat.reduceLT,Int.reduceToNat,Int.reduceLE,Int.reduceLT,Zd,men]
  refine Zb hsem ?_
  simp only[ZnS,gz,Int.natCast_nonneg,Nat.le_refl,hja,hfl,Y7,List.getElem?_set_self,List.set_set,List.length_set,List.set_cons_zero,List.set_cons_succ,Prod.mk.injEq,ne_eq,not_false_eq_true,EVA,seval,Zd,men]
  refine⟨by rw[Ze];omega,Zf () hja ?_ trivial⟩
  have hse:=Ue (c:=ZC) (z:=[ts ⟨#[]⟩,tv 0]) (e:=[ts a[j].name,tv a[j].link]) hja rfl
  rw[hse,show (j+1)*0=j*0 from by omega]
  rfl
 ·have:j=a.length:=by omega
  subst this
  rw[Uc]
  simp
theorem Zjl:ZP Proofs.Tryz.prog Qz (ZqJ (.string ⟨#[]⟩))=true:=by kernel_rfl
theorem ZgZ(a:(List ByteArray))(ha:a.length<=4294967296)(lvl:Nat)(S:Sto):Sem Proofs.Tryz.prog Qz lvl [.tr (.sl (rS a))] S (.ow 1 (rS a) true) S:=Zqc Zjl a ha lvl S
theorem ZA(x:TBigraph)(hb:Zl 4294967296 x)(lvl:Nat)(S:Sto):Sem Proofs.Tryz.prog Zx lvl [.ag ((Za x).map .tr)] S (Zg x) S:=by
 obtain⟨b0,b1,b2,b3,b4,b5,b6⟩:=hb
 refine Zc Zde (by simp [Zg,low,men,Zd]) ?_
 simp only[Dd,Za,zfill,zobs,List.map_cons,List.map_nil,VX,VY,List.set_cons_zero,List.set_cons_succ,EVA,seval,Zd,men]
 refine Zb (Zjj x.nodes b0 b1) ?_
 simp only[VX,VY,List.set_cons_zero,List.set_cons_succ,Prod.mk.injEq,EVA,seval,Zd,men]
 refine Zb (ZfB x.sites b2) ?_
 simp only[VX,VY,List.set_cons_zero,List.set_cons_succ,Prod.mk.injEq,EVA,seval,Zd,men]
 refine Zb (ZgZ x.outer b3) ?_
 simp only[VX,VY,List.set_cons_zero,List.set_cons_succ,Prod.mk.injEq,EVA,seval,Zd,men]
 refine Zb (Zjk x.inner b5 b6) ?_
 simp only[VX,VY,List.set_cons_zero,List.set_cons_succ,Prod.mk.injEq,EVA,seval,Zd,men]
 rfl
theorem Zg0(x:TControl)(hb:Zy 4294967296 x)(lvl:Nat)(S:Sto):Sem Proofs.Tryz.prog Qx lvl [.ag ((Zk x).map .tr)] S (Zds x) S:=by
 have b0:x.name.size<=4294967296:=hb
 refine Zc Zdh (by simp [Zds,low,men,Zd]) ?_
 simp only[Dg,Zk,zfill,zobs,List.map_cons,List.map_nil,VX,VY,List.set_cons_zero,List.set_cons_succ,EVA,seval,Zd,men]
 rfl
theorem Yj(a:(List TControl))(ha:a.length<=4294967296)(hb:∀ y∈a,Zy 4294967296 y)(lvl:Nat)(S:Sto):Sem Proofs.Tryz.prog Jx lvl [.tr (.sl (a.map Zk))] S (.ow 3 (a.map Zk) true) S:=by
 refine Zc ZcG trivial ?_
 simp only[Ut,List.length_map,bigN,Int.natCast_nonneg,EVA,seval,Zd,men]
 refine⟨by omega,?_⟩
 refine ZY (α:=Unit) a.length (fun j _=>⟨lvl,[(0,.tr (.sl (a.map Zk))),(3,.hd (lvl,224) [] 0 a.length none a.length),(4,iI j)],[(224,.ar 3 (YX Zk [ts ⟨#[]⟩,tv 0,tv 0] a j) true a.length (j*0))],S⟩) (fun _ _=>True) () ⟨by simp only[EVA,seval,Zd,men],by (simp only[Wb,EVA,seval,Zd,men]) <;> rfl⟩ trivial ?_
 intro j _ hj _
 simp only[List.length_map,EVA,seval,Zd,men]
 refine Zo (fun hlt=>?_) (fun hge=>?_)
 ·have hja:j<a.length:=by omega
  have ga:(a.map Zk)[j]? = some (Zk a[j]):=by simp [hja]
  have gz:(YX Zk [ts ⟨#[]⟩,tv 0,tv 0] a j)[j]? = some [ts ⟨#[]⟩,tv 0,tv 0]:=Ud hja
  have hfl:(YX Zk [ts ⟨#[]⟩,tv 0,tv 0] a j).length=a.length:=UK hj
  have hsem:=fun lvl S=>Zg0 a[j] (hb a[j] (List.getElem_mem hja)) lvl S
  simp only[ga,gz,Int.natCast_nonneg,Nat.le_refl,hja,Zk,Zds,Nat.reduceLeDiff,EVA,↓reduceIte,Nat.reduceEqDiff,Nat.reduceMul,reduceCtorEq,Nat.reduceAdd,Nat.reduceSub,Nat.reduceLT,Int.reduceToNat,Int.reduceLE,Int.reduceLT,Zd,men]
  refine Zb hsem ?_
  simp only[Zds,gz,Int.natCast_nonneg,Nat.le_refl,hja,hfl,Y7,List.getElem?_set_self,List.set_set,List.length_set,List.set_cons_zero,List.set_cons_succ,Prod.mk.injEq,ne_eq,not_false_eq_true,EVA,seval,Zd,men]
  refine⟨by rw[Ze];omega,Zf () hja ?_ trivial⟩
  have hse:=Ue (c:=Zk) (z:=[ts ⟨#[]⟩,tv 0,tv 0]) (e:=[ts a[j].name,tv a[j].ports,tv a[j].kind_]) hja rfl
  rw[hse,show (j+1)*0=j*0 from by omega]
  rfl
 ·have:j=a.length:=by omega
  subst this
  rw[Uc]
  simp
end Go.Fd

/-
  WHAT THE LAW OF CloseName LEANS ON. Own work.
-/
namespace Go.Fd
theorem Zkn{α:Type}{f:α->Nat}{B:Nat}(l:List α)(h:∀ x∈l,f x<=B){n:Nat}(hl:l.length<=n):nL f l<=n*B:=Nat.le_trans (ZtY l h) (Nat.mul_le_mul_right _ hl)
theorem Zt2{sig:List TControl}{b:TBigraph}(h:bigOK sig b):Zl 4294967296 b/\1+(Z4 b:Int)<=4611686018427387904:=by
 refine⟨UU (by omega) (Zag h),?_⟩
 have hs:=h.small
 have n1:=Zkn (f:=JI) (B:=1002) b.nodes (fun x hx=>by have:=hs.links x hx;simp only[JI,ZoT];omega) hs.nodes
 have n2:=Zkn (f:=XX) (B:=1) b.sites (fun x _=>by simp [XX]) hs.sites
 have n3:=Zkn (f:=UV) (B:=1) b.outer (fun x _=>by simp [UV]) hs.outer
 have n4:=Zkn (f:=Vj) (B:=2) b.inner (fun x _=>by simp [Vj]) hs.inner
 unfold Z4
 omega
theorem ZqC:Zl 4294967296 YO/\1+(Z4 YO:Int)<=4611686018427387904:=by
 refine⟨⟨by simp [YO],by simp [YO],by simp [YO],by simp [YO],by simp [YO],by simp [YO],by simp [YO]⟩,?_⟩
 simp [Z4,YO,nL]
end Go.Fd

/-
  WHAT THE LAWS' ARGUMENTS READ AS (printed by lawgen.py). Own work.
-/
namespace Go.Fd
set_option maxRecDepth 20000
theorem Zyb:X9 Proofs.Tryz.prog 9 (fun n:ByteArray=>[ts n]) (fun n=>n.size<=9223372036854775807):=Zhr Proofs.Tryz.underlying9
theorem ZoV:X9 Proofs.Tryz.prog 3 (fun n:Int=>[tv n]) (Xt .i64):=ZlP Proofs.Tryz.underlying3
theorem Zyc:X9 Proofs.Tryz.prog 47 Zk (fun x=>Zy 9223372036854775807 x/\ZhC x):=Zdr (WJ Proofs.Tryz.underlying47 (show ZcM Proofs.Tryz.prog 0 [(0,9),(1,3),(2,3)] _ _ from (Jp (k:=1) (by kernel_rfl) (fun _=>rfl) Zyb (Jp (k:=1) (by kernel_rfl) (fun _=>rfl) ZoV (Jp (k:=1) (by kernel_rfl) (fun _=>rfl) ZoV Zac))))) (fun p=>TControl.mk p.1 p.2.1 p.2.2.1) (fun _=>rfl) (fun x h=>⟨h.1,⟨h.2.1,h.2.2.1⟩⟩)
theorem Zyd:X9 Proofs.Tryz.prog 22 (fun l:List TControl=>[Tr.sl (l.map Zk)]) (fun l=>l.length<=9223372036854775807/\∀ x∈l,(fun x=>Zy 9223372036854775807 x/\ZhC x) x):=Wa (k:=2) Proofs.Tryz.underlying22 (by kernel_rfl) (fun _=>rfl) Zyc
theorem Zt3:X9 Proofs.Tryz.prog 24 (fun l:List Int=>[Tr.sl (l.map (fun n:Int=>[tv n]))]) (fun l=>l.length<=9223372036854775807/\∀ x∈l,(Xt .i64) x):=Wa (k:=0) Proofs.Tryz.underlying24 (by kernel_rfl) (fun _=>rfl) ZoV
theorem Zye:X9 Proofs.Tryz.prog 72 ZF (fun x=>Xi 9223372036854775807 x/\ZlT x):=Zdr (WJ Proofs.Tryz.underlying72 (show ZcM Proofs.Tryz.prog 0 [(0,3),(1,3),(2,24)] _ _ from (Jp (k:=1) (by kernel_rfl) (fun _=>rfl) ZoV (Jp (k:=1) (by kernel_rfl) (fun _=>rfl) ZoV (Jp (k:=1) (by kernel_rfl) (fun _=>rfl) Zt3 Zac))))) (fun p=>TNode.mk p.1 p.2.1 p.2.2.1) (fun _=>rfl) (fun x h=>⟨h.2.2.1.1,⟨h.1,h.2.1,(fun y hy=>(h.2.2.1.2 y hy))⟩⟩)
theorem Zyf:X9 Proofs.Tryz.prog 23 (fun l:List TNode=>[Tr.sl (l.map ZF)]) (fun l=>l.length<=9223372036854775807/\∀ x∈l,(fun x=>Xi 9223372036854775807 x/\ZlT x) x):=Wa (k:=2) Proofs.Tryz.underlying23 (by kernel_rfl) (fun _=>rfl) Zye
theorem Zyg:X9 Proofs.Tryz.prog 25 (fun l:List ByteArray=>[Tr.sl (l.map (fun n:ByteArray=>[ts n]))]) (fun l=>l.length<=9223372036854775807/\∀ x∈l,(fun n=>n.size<=9223372036854775807) x):=Wa (k:=0) Proofs.Tryz.underlying25 (by kernel_rfl) (fun _=>rfl) Zyb
theorem Zyh:X9 Proofs.Tryz.prog 75 ZC (fun x=>Qe 9223372036854775807 x/\ZjQ x):=Zdr (WJ Proofs.Tryz.underlying75 (show ZcM Proofs.Tryz.prog 0 [(0,9),(1,3)] _ _ from (Jp (k:=1) (by kernel_rfl) (fun _=>rfl) Zyb (Jp (k:=1) (by kernel_rfl) (fun _=>rfl) ZoV Zac)))) (fun p=>TWire.mk p.1 p.2.1) (fun _=>rfl) (fun x h=>⟨h.1,h.2.1⟩)
theorem Zyi:X9 Proofs.Tryz.prog 26 (fun l:List TWire=>[Tr.sl (l.map ZC)]) (fun l=>l.length<=9223372036854775807/\∀ x∈l,(fun x=>Qe 9223372036854775807 x/\ZjQ x) x):=Wa (k:=1) Proofs.Tryz.underlying26 (by kernel_rfl) (fun _=>rfl) Zyh
theorem ZqD:X9 Proofs.Tryz.prog 28 Za (fun x=>Zl 9223372036854775807 x/\Zr x):=Zdr (WJ Proofs.Tryz.underlying28 (show ZcM Proofs.Tryz.prog 0 [(0,3),(1,23),(2,24),(3,3),(4,25),(5,26)] _ _ from (Jp (k:=1) (by kernel_rfl) (fun _=>rfl) ZoV (Jp (k:=1) (by kernel_rfl) (fun _=>rfl) Zyf (Jp (k:=1) (by kernel_rfl) (fun _=>rfl) Zt3 (Jp (k:=1) (by kernel_rfl) (fun _=>rfl) ZoV (Jp (k:=1) (by kernel_rfl) (fun _=>rfl) Zyg (Jp (k:=1) (by kernel_rfl) (fun _=>rfl) Zyi Zac)))))))) (fun p=>TBigraph.mk p.1 p.2.1 p.2.2.1 p.2.2.2.1 p.2.2.2.2.1 p.2.2.2.2.2.1) (fun _=>rfl) (fun x h=>⟨⟨h.2.1.1,(fun y hy=>(h.2.1.2 y hy).1),h.2.2.1.1,h.2.2.2.2.1.1,(fun y hy=>(h.2.2.2.2.1.2 y hy)),h.2.2.2.2.2.1.1,(fun y hy=>(h.2.2.2.2.2.1.2 y hy).1)⟩,⟨h.1,(fun y hy=>(h.2.1.2 y hy).2),(fun y hy=>(h.2.2.1.2 y hy)),h.2.2.2.1,(fun y hy=>(h.2.2.2.2.2.1.2 y hy).2)⟩⟩)
end Go.Fd
