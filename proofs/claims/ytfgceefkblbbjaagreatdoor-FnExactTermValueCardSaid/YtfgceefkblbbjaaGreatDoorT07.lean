/-
  BIGRAPHS SIDE BY SIDE: IN PLAIN TERMS, AND THE REFERENCE'S SIDE. Own work.
-/
import Derived.Test.YtfgceefkblbbjaaGreatDoorT06
import Derived.Shelf.SlSortCmp.WholeK
set_option linter.all false
namespace Go.Fd
set_option maxRecDepth 20000
def wlt(x y:TWire):Prop:=ltS x.name y.name
open Classical in
noncomputable def Zn1:List TWire->TWire->List TWire
 | [],w=>[w]
 | x::r,w=>if wlt x w then x::Zn1 r w else w::x::r
theorem Zps{w:TWire}:∀{O:List TWire} {k:Nat},k<=O.length->(∀ y∈O.take k,wlt y w)->(∀ h:k<O.length,¬ wlt O[k] w)->Zn1 O w=O.take k++([w]++O.drop k)
 | [],0,_,_,_=>rfl
 | [],k+1,h,_,_=>by simp at h
 | x::r,0,_,_,h2=>by
  have:¬ wlt x w:=h2 (by simp)
  rw[Zn1,if_neg this]
  rfl
 | x::r,k+1,h,h1,h2=>by
  have:wlt x w:=h1 x (by simp)
  rw[Zn1,if_pos this,Zps (k:=k) (by simpa using h) (fun y hy=>h1 y (by simp [hy])) (fun h3=>by
   have:=h2 (by simpa using h3)
   simpa using this)]
  simp
theorem insW_perm{w:TWire}:∀{O:List TWire},(Zn1 O w).Perm (w::O)
 | []=>List.Perm.refl _
 | x::r=>by
  rw[Zn1]
  split
  ·exact(List.Perm.cons x insW_perm).trans (List.Perm.swap w x r)
  ·exact List.Perm.refl _
theorem Zpt{w:TWire}:∀{O:List TWire},O.Pairwise wlt->(∀ x∈O,x.name≠w.name)->(Zn1 O w).Pairwise wlt
 | [],_,_=>List.pairwise_singleton ..
 | x::r,h,hn=>by
  have hc:=List.pairwise_cons.1 h
  rw[Zn1]
  split
  ·rename_i hlt
   refine List.pairwise_cons.2 ⟨fun y hy=>?_,Zpt hc.2 fun z hz=>hn z (by simp [hz])⟩
   rcases List.mem_cons.1 (insW_perm.mem_iff.1 hy) with rfl | hy
   ·exact hlt
   ·exact hc.1 y hy
  ·rename_i hlt
   have hwx:wlt w x:=by
    rcases ordsS.tri x.name w.name with q | q | q
    ·exact absurd q hlt
    ·exact absurd q (hn x (by simp))
    ·exact q
   refine List.pairwise_cons.2 ⟨fun y hy=>?_,h⟩
   rcases List.mem_cons.1 hy with rfl | hy
   ·exact hwx
   ·exact ordsS.tr _ _ _ hwx (hc.1 y hy)
noncomputable def De(a b:List TWire):List TWire:=b.foldl Zn1 a
theorem wjoin_perm:∀{b a:List TWire},(De a b).Perm (a++b)
 | [],a=>by simp [De]
 | w::r,a=>by
  have h:=wjoin_perm (b:=r) (a:=Zn1 a w)
  refine h.trans ?_
  refine(insW_perm.append_right r).trans ?_
  exact List.perm_middle.symm
theorem ZdD{a b:List TWire}:(De a b).length=a.length+b.length:=by rw[wjoin_perm.length_eq,List.length_append]
theorem Znu{a b:List TWire}{j:Nat}(h:j<b.length):De a (b.take (j+1))=Zn1 (De a (b.take j)) b[j]:=by
 unfold De
 rw[List.take_succ_eq_append_getElem h,List.foldl_append]
 rfl
theorem ZmK:∀{b a:List TWire},a.Pairwise wlt->b.Pairwise wlt->(∀ x∈a,∀ y∈b,x.name≠y.name)->(De a b).Pairwise wlt
 | [],a,ha,_,_=>ha
 | w::r,a,ha,hb,hd=>by
  have hc:=List.pairwise_cons.1 hb
  refine ZmK (b:=r) (a:=Zn1 a w) (Zpt ha fun x hx=>hd x hx w (by simp)) hc.2 fun x hx y hy=>?_
  rcases List.mem_cons.1 (insW_perm.mem_iff.1 hx) with rfl | hx
  ·intro e
   have:=hc.1 y hy
   unfold wlt at this
   rw[e] at this
   exact ordsS.irr _ this
  ·exact hd x hx y (by simp [hy])
theorem ZBP{l:List TWire}{j:Nat}:cut (l.map ZP) 0 (j-0)=(l.take j).map ZP:=by simp [cut,List.map_take]
theorem Zxw{l:List TWire}{j:Nat}:cut (l.map ZP) j (l.length-j)=(l.drop j).map ZP:=by
 simp only[cut,<-List.map_drop]
 rw[List.take_of_length_le (by rw[List.length_map,List.length_drop];omega)]
theorem Zsl{a b:List TWire}{x:TWire}:a.map ZP++[[Tr.v (Value.string x.name),Tr.v (Value.int .i64 x.link)]]++b.map ZP=(a++([x]++b)).map ZP:=by simp [ZP]
theorem Zlw(a b:List TWire)(hl:a.length+b.length<=4294967290)(lvl:Nat)(S:Sto):Sem Go.Proofs.Tryz.prog WB lvl [.tr (.sl (a.map ZP)),.tr (.sl (b.map ZP))] S (.ow 2 ((De a b).map ZP) true) S:=by
 refine Zb Zhj (by simp [low,men]) ?_
 simp only[Zch,Zxo,Zxp,Nat.zero_max,List.length_map,EVA,seval]
 refine⟨by omega,?_⟩
 refine ZH (α:=Unit) b.length (fun j _=>[(5,.hd (lvl,160) [] 0 (De a (b.take j)).length none (De a (b.take j)).length),(6,iI j)]) (fun j _=>[(160,.ar 2 ((De a (b.take j)).map ZP) true (De a (b.take j)).length 0)]) (fun _ _=>True) () (by simp only[EVA,seval]) (by simp only[List.take_zero,De,List.foldl_nil]; (simp only[EVA,seval]) <;> rfl) trivial ?_
 intro j _ hj _
 simp only[List.length_map,EVA,seval]
 refine Zk (fun hlt=>?_) (fun hge=>?_)
 ·have hja:j<b.length:=by omega
  have ga:=Db (c:=ZP) hja
  obtain⟨O,hO⟩:∃ O,O=De a (b.take j):=⟨_,rfl⟩
  have hOl:O.length=a.length+j:=by rw[hO,ZdD,List.length_take];omega
  have hsucc:=Znu (a:=a) hja
  rw[<-hO] at hsucc
  rw[<-hO]
  refine ZH (α:=Unit) O.length (fun k _=>[(7,iI k)]) (fun _ _=>[]) (fun k _=>∀ y∈O.take k,wlt y b[j]) () (by simp only[EVA,seval]) (by (simp only[EVA,seval]) <;> rfl) (by simp) ?_
  intro k _ hk hK
  have hput:=Zps (w:=b[j]) hk hK
  have hpl:(O.take k++([b[j]]++O.drop k)).length=O.length+1:=by
   simp only[List.length_append,List.length_take,List.length_drop,List.length_cons,List.length_nil]
   omega
  have hm:min k O.length=k:=by omega
  have hq1:k+1+(O.length-k)=O.length+1:=by omega
  have hq2:max (max (max 0 k) (k+1)) (O.length+1)=O.length+1:=by omega
  have hq3:k+(O.length-k)=O.length:=by omega
  have hfit:XP .i64 ((j:Int)+1):=by rw[Zd];omega
  simp only[List.length_map,EVA,seval]
  refine Zk (fun hlt2=>?_) (fun hge2=>?_)
  ·have hka:k<O.length:=by omega
   have gk:=Db (c:=ZP) hka
   simp only[ga,gk,ZP,hka,hm,hq1,hq2,hq3,ZBP,Zxw,Zxo,Zxp,List.length_append,List.length_take,List.length_drop,List.length_map,EVA,seval]
   refine Zk (fun h1=>?_) (fun h1=>?_)
   ·exact⟨by rw[Zd];omega,Ze () hka rfl fun y hy=>by
     rw[List.take_succ_eq_append_getElem hka] at hy
     rcases List.mem_append.1 hy with hy | hy
     ·exact hK y hy
     ·rw[List.mem_singleton.1 hy];exact h1⟩
   ·have hp:=hput fun _=>h1
    exact⟨by omega,by omega,by omega,by omega,by omega,by omega,by omega,by omega,hfit,Ze () hja (by rw[hsucc,hp,hpl,<-Zsl];rfl) trivial⟩
  ·have:k=O.length:=by omega
   subst this
   simp only[ga,ZP,hq1,hq2,hq3,Zxw,Zxo,Zxp,List.length_append,List.length_drop,List.length_map,EVA,seval]
   have hp:=hput fun h=>absurd h (by omega)
   rw[List.take_length] at hp hpl
   exact⟨by omega,by omega,by omega,by omega,by omega,hfit,Ze () hja (by rw[hsucc,hp,hpl,<-Zsl];rfl) trivial⟩
 ·have:j=b.length:=by omega
  subst this
  rw[List.take_length]
def Zt3(J:TBigraph)(w:List TWire):TBigraph:=⟨J.roots,J.nodes,J.sites,J.edges,J.outer,w⟩
def Zlx(a:TBigraph)(p:Int):Int:=if 0<=p then p+a.nodes.length else p-a.roots
noncomputable def Znv(a b:TBigraph):List Int:=ZmD a (a.edges+b.edges) (YJ a b)
noncomputable def Zpu(a b:TBigraph):List Int:=Zpf a b fun x=>a.edges+b.edges+ixS (YJ a b) x
noncomputable def Zuu(a b:TBigraph):TBigraph:=Zbl a b (a.roots+b.roots) a.sites (YJ a b) (fun l=>g0 (Znv a b) l.toNat) (fun l=>g0 (Zpu a b) l.toNat) (Zlx a)
noncomputable def ZdY(a b:TBigraph):TBigraph:=Zt3 (Zuu a b) (De (a.inner.map (ZbG fun l=>g0 (Znv a b) l.toNat)) (b.inner.map (ZbG fun l=>g0 (Zpu a b) l.toNat)))
theorem Zly{r:Int}{n:Nat}{k:Nat}(h:k<n):g0 (JI r n) k = -1-r-(k:Int):=by
 show (JI r n).getD k 0=_
 rw[List.getD_eq_getElem?_getD,JI,List.getElem?_map,List.getElem?_range h]
 simp
theorem ZmL{a b:TBigraph}{n:Nat}(hn:b.roots=n){p:Int}(h:-b.roots<=p):Zep a.nodes.length (JI a.roots n) p=Zlx a p:=by
 unfold Zep Zlx
 by_cases h0:0<=p
 ·rw[if_neg (by omega),if_pos h0]
 ·rw[if_pos (by omega),if_neg h0,Zly (by omega)]
  omega
theorem Zpv{sig:List TControl}{a b:TBigraph}(h:bigOK sig b){n:Nat}(hn:b.roots=n){ls:List Int}:b.nodes.map (Zgw a.nodes.length (JI a.roots n) ls)=b.nodes.map (fun x=>({ control:=x.control,parent:=Zlx a x.parent,links:=x.links.map fun l=>g0 ls l.toNat }:TNode)):=List.map_congr_left fun x hx=>by
 obtain⟨k,hk,rfl⟩:=List.getElem_of_mem hx
 unfold Zgw
 rw[ZmL hn (Js h.roots.1 (h.nodes k hk).par)]
theorem Zpw{sig:List TControl}{a b:TBigraph}(h:bigOK sig b){n:Nat}(hn:b.roots=n):b.sites.map (Zep a.nodes.length (JI a.roots n))=b.sites.map (Zlx a):=List.map_congr_left fun p hp=>ZmL hn (Js h.roots.1 (h.sites p hp))
theorem Znw(sig:List TControl)(a b:TBigraph)(ha:bigOK sig a)(hb:bigOK sig b)(lvl:Nat)(S:Sto):Sem Go.Proofs.Tryz.prog Uf lvl [.ag ((Zc a).map .tr),.ag ((Zc b).map .tr)] S (Zrn (ZdY a b) false) S:=by
 have ra:=ha.roots;have rb:=hb.roots
 have ea:=ha.edges;have eb:=hb.edges
 have sa:=ha.small;have sb:=hb.small
 have a1:=sa.nodes;have a2:=sa.sites;have a3:=sa.inner;have a4:=sa.outer
 have b1:=sb.nodes;have b2:=sb.sites;have b3:=sb.inner;have b4:=sb.outer
 have hol:=Wm (a:=a) (b:=b)
 obtain⟨n,hn⟩:∃ n:Nat,a.roots=n:=⟨a.roots.toNat,by omega⟩
 obtain⟨n2,hn2⟩:∃ n:Nat,b.roots=n:=⟨b.roots.toNat,by omega⟩
 obtain⟨m,hm⟩:∃ m:Nat,a.edges=m:=⟨a.edges.toNat,by omega⟩
 obtain⟨k,hk⟩:∃ k:Nat,b.edges=k:=⟨b.edges.toNat,by omega⟩
 obtain⟨L,hL⟩:∃ L,L=Znv a b:=⟨_,rfl⟩
 obtain⟨R,hR⟩:∃ R,R=Zpu a b:=⟨_,rfl⟩
 have lenL:(L.length:Int)=a.edges+a.outer.length:=by rw[hL];exact ZmE ea.1
 have lenR:(R.length:Int)=b.edges+b.outer.length:=by rw[hR];exact ZmE eb.1
 have w1:rI (UD 0 m)++rI (a.outer.map fun x=>(m:Int)+k+ixS (YJ a b) x)=rI L:=by rw[<-Vt,hL,Znv,<-Zph hm,hm,hk]
 have w2:m+a.outer.length=L.length:=by omega
 have w3:rI (UD (m:Int) k)++rI (b.outer.map fun x=>(m:Int)+k+ixS (YJ a b) x)=rI R:=by rw[<-Vt,hR,Zpu,<-Zpi hk,hm,hk]
 have w4:k+b.outer.length=R.length:=by omega
 have w5:max m L.length=L.length:=by omega
 have w6:max k R.length=R.length:=by omega
 have c1:cut (rI L) 0 L.length=rI L:=Yn (by rw[List.length_map])
 have c2:cut (rI R) 0 R.length=rI R:=Yn (by rw[List.length_map])
 refine Zb ZiU (by simp [low,men,Zj]) ?_
 simp only[Zdf,Zc,Zo3,Zo4,hn,hn2,hm,hk,Nat.zero_max,List.length_map,EVA,seval,Zj,men]
 rw[show cut (rS a.outer++rS b.outer) 0 (a.outer.length+b.outer.length)=rS (a.outer++b.outer) from by
  rw[<-ZhO]
  exact Yn (by simp [rS])]
 refine⟨by omega,by omega,by simp [rS],Za (US (a.outer++b.outer) (by rw[List.length_append];omega)) ?_⟩
 rw[show Vu (a.outer++b.outer)=YJ a b from rfl]
 simp only[List.length_map,EVA,seval,Zj,men]
 have c0:cut (rS (YJ a b)) 0 (YJ a b).length=rS (YJ a b):=Yn (by rw[List.length_map])
 refine⟨by rw[Zd];omega,Za (Up 0 m (by omega) (by omega)) ?_⟩
 simp only[c0,fromN_len,List.length_map,EVA,seval,Zj,men]
 refine Za (Us a.outer (m+k) (YJ a b) (by omega) (by omega) (by omega)) ?_
 simp only[Zds,Zdt,w1,w2,w5,fromN_len,List.length_map,EVA,seval,Zj,men]
 refine⟨by omega,Za (Up m k (by omega) (by omega)) ?_⟩
 simp only[c0,fromN_len,List.length_map,EVA,seval,Zj,men]
 refine Za (Us b.outer (m+k) (YJ a b) (by omega) (by omega) (by omega)) ?_
 simp only[Zds,Zdt,w3,w4,w6,fromN_len,List.length_map,EVA,seval,Zj,men]
 refine⟨by omega,Za (Zaf 0 n (by omega) (by omega)) ?_⟩
 simp only[EVA,seval,Zj,men]
 refine Za (Zaf n n2 (by omega) (by omega)) ?_
 simp only[c1,List.length_map,EVA,seval,Zj,men]
 refine⟨by rw[Zd];omega,?_⟩
 have q2:=Uq a 0 (JI 0 n) L (by omega) (by omega) (ZmG ha (by rw[rootsN_len];omega) lenL)
 rw[ZmI ha hn] at q2
 simp only[Zc,hn,hm,List.map_cons,List.map_nil] at q2
 refine Za q2 ?_
 simp only[c2,List.length_map,EVA,seval,Zj,men]
 have q3:=Uq b a.nodes.length (JI a.roots n2) R (by omega) (by omega) (ZmG hb (by rw[rootsN_len];omega) lenR)
 rw[Zpv hb hn2] at q3
 simp only[Zc,hn,hn2,hk,List.map_cons,List.map_nil] at q3
 refine Za q3 ?_
 simp only[ZCn,List.length_map,EVA,seval,Zj,men]
 refine⟨by omega,?_⟩
 have q4:=X3 a 0 (JI 0 n) (by omega) (by omega) (ZmH ha (by rw[rootsN_len];omega))
 rw[ZmJ ha hn] at q4
 simp only[Zc,hn,hm,List.map_cons,List.map_nil] at q4
 refine Za q4 ?_
 simp only[List.length_map,EVA,seval,Zj,men]
 have q5:=X3 b a.nodes.length (JI a.roots n2) (by omega) (by omega) (ZmH hb (by rw[rootsN_len];omega))
 rw[Zpw hb hn2] at q5
 simp only[Zc,hn,hn2,hk,List.map_cons,List.map_nil] at q5
 refine Za q5 ?_
 simp only[Zds,Zdt,c1,List.length_map,EVA,seval,Zj,men]
 refine⟨by omega,?_⟩
 have q6:=Zag a L (by omega) (Zpj ha lenL)
 simp only[Zc,hn,hm,List.map_cons,List.map_nil] at q6
 refine Za q6 ?_
 simp only[c2,List.length_map,EVA,seval,Zj,men]
 have q7:=Zag b R (by omega) (Zpj hb lenR)
 simp only[Zc,hn2,hk,List.map_cons,List.map_nil] at q7
 refine Za q7 ?_
 simp only[EVA,seval,Zj,men]
 have q8:=Zlw (a.inner.map (Zkl L)) (b.inner.map (Zkl R)) (by rw[List.length_map,List.length_map];omega)
 refine Za q8 ?_
 simp only[ZdD,List.length_append,List.length_map,EVA,seval]
 simp only[Zrn,ZdY,Zuu,Zt3,Zbl,<-hL,<-hR,List.map_append,hn,hn2,hm,hk]
 rfl
end Go.Fd

/-
  SORTING WIRES BY NAME: THE LIBRARY'S CONTRACT AT THIS PROGRAM. Own work.
-/
namespace Go.Proofs
open Go.Shelf Go.RowKit Go.Lib Go.Sort
instance:Inhabited Go.Fd.TWire:=⟨⟨⟨#[]⟩,0⟩⟩
def Zxx(w:Go.Fd.TWire):List Value:=[.string w.name,.int .i64 w.link]
def Zro(x y:Go.Fd.TWire):Int:=if Op.bytesLess x.name.data.toList y.name.data.toList then -1 else 1
set_option maxHeartbeats 1000000 in
theorem ZBQ(x y:Go.Fd.TWire)(W:World):Calls Tryz.prog 294 #[.agg #[.string x.name,.int .i64 x.link],.agg #[.string y.name,.int .i64 y.link]] W fun e w' => e = .returned (.int .i64 (Zro x y))/\∃ q os',w'=grow (W.drewN q) os':=by
 have hr:Zro x y=if Op.bytesLess x.name.toList y.name.toList then -1 else 1:=by
  unfold Zro
  rw[ByteArray.toList_eq,ByteArray.toList_eq]
 generalize Zro x y=r at hr ⊢
 go_enter Tryz.func294,Tryz.ntmps294
 go_wp2
 ·rename_i h
  rw[h] at hr
  have hr:r = -1:=hr
  subst hr
  go_ret
  exact⟨rfl,0,_,by rw[alloc_eq_grow,alloc_eq_grow,grow_grow];rfl⟩
 ·rename_i h
  rw[h] at hr
  have hr:r=1:=hr
  subst hr
  go_ret
  exact⟨rfl,0,_,by rw[alloc_eq_grow,alloc_eq_grow,grow_grow];rfl⟩
theorem ZmM(x y:Go.Fd.TWire):ltOf Zro x y=Op.bytesLess x.name.data.toList y.name.data.toList:=by
 unfold ltOf Zro
 cases Op.bytesLess x.name.data.toList y.name.data.toList <;> rfl
theorem ZDF:SWO (ltOf Zro) where
 irrefl x:=by rw[ZmM];exact Go.Fd.bl_irr _
 trans x y z h1 h2:=by
  rw[ZmM] at *
  exact Go.Fd.ordsS.tr _ _ _ h1 h2
 ntrans x y z h1 h2:=by
  rw[ZmM] at *
  have:=Go.Fd.ltS_tr z.name y.name x.name
  have k:¬ Go.Fd.ltS x.name z.name:=Go.Fd.ltS_tr z.name y.name x.name (by unfold Go.Fd.ltS;rw[h2];decide) (by unfold Go.Fd.ltS;rw[h1];decide)
  unfold Go.Fd.ltS at k
  simpa using k
theorem Zrp(blk off size:Nat)(w:World):CmpLays Tryz.prog 294 #[] Zxx 2 Zro blk off size w :=
 fun _ _ _ _ x y=>ZBQ x y _
end Go.Proofs
namespace Go.Fd
open Go.Sort Go.Proofs
theorem ZCo:∀{x y:List TWire},x.Pairwise wlt->y.Pairwise wlt->x.Perm y->x=y
 | [],y,_,_,h=>(List.Perm.nil_eq h)
 | a::r,[],_,_,h=>by simp at h
 | a::r,b::t,hx,hy,h=>by
  have hcx:=List.pairwise_cons.1 hx
  have hcy:=List.pairwise_cons.1 hy
  have hab:a=b:=by
   have h1:a∈b::t:=h.mem_iff.1 (by simp)
   have h2:b∈a::r:=h.mem_iff.2 (by simp)
   rcases List.mem_cons.1 h1 with e | h1
   ·exact e
   ·rcases List.mem_cons.1 h2 with e | h2
    ·exact e.symm
    ·exact absurd (hcx.1 b h2) (ordsS.asym _ _ (hcy.1 a h1))
  subst hab
  rw[ZCo hcx.2 hcy.2 h.cons_inv]
theorem ZDG{x y:List TWire}(hy:y.Pairwise wlt)(hp:x.Perm y)(hx:∀ i j (hi:i<x.length) (hj:j<x.length),i<j -> ¬ wlt x[j] x[i]):x.Pairwise wlt:=by
 have hnd:x.Nodup:=hp.nodup_iff.2 (hy.imp fun {a b} h e=>by subst e;exact ordsS.irr _ h)
 refine List.pairwise_iff_getElem.2 fun i j hi hj hij=>?_
 rcases ordsS.tri (x[i]).name (x[j]).name with q | q | q
 ·exact q
 ·have h1:x[i]∈y:=hp.mem_iff.1 (List.getElem_mem hi)
  have h2:x[j]∈y:=hp.mem_iff.1 (List.getElem_mem hj)
  obtain⟨a,ha,ea⟩:=List.getElem_of_mem h1
  obtain⟨b,hb,eb⟩:=List.getElem_of_mem h2
  have hpg:=List.pairwise_iff_getElem.1 hy
  have hab:a=b:=by
   rcases Nat.lt_trichotomy a b with g | g | g
   ·have:=hpg a b ha hb g
    unfold wlt at this
    rw[ea,eb,q] at this
    exact absurd this (ordsS.irr _)
   ·exact g
   ·have:=hpg b a hb ha g
    unfold wlt at this
    rw[ea,eb,q] at this
    exact absurd this (ordsS.irr _)
  subst hab
  have e:x[i]=x[j]:=ea.symm.trans eb
  have:=List.pairwise_iff_getElem.1 hnd i j hi hj hij
  exact absurd e this
 ·exact absurd q (hx i j hi hj hij)
theorem Zpx(lvl:Nat)(S:Sto)(id:Oid)(hw:Nat)(hid:id.1<lvl):Sem Tryz.prog Z4 lvl [.hd id [] 0 0 none hw,iI 0,iI 0,.fn Jo []] S (.tu []) S:=by
 have hne:id.1≠lvl:=by omega
 refine Zb VL trivial ?_
 simp only[JM,EVA,seval]
 refine⟨by rw[Zd];omega,?_⟩
 refine ZU (α:=Unit) 0 (fun _ _=>⟨lvl,[(0,.hd id [] 0 0 none hw),(1,iI 0),(2,iI 0),(3,.fn Jo []),(8,iI 1)],[],S⟩) (fun _ _=>True) () ⟨by simp only[JW hne,EVA,seval],by (simp only[EVA,seval]) <;> rfl⟩ trivial ?_
 intro _ _ _ _
 simp only[EVA,seval]
theorem Zpy(r:Int)(lvl:Nat)(S:Sto)(id:Oid)(hw:Nat)(hid:id.1<lvl):Sem Tryz.prog ZI lvl [.hd id [] 0 0 none hw,iI 0,iI 0,iI r,.fn Jo []] S (.tu []) S:=by
 have hne:id.1≠lvl:=by omega
 refine Zb XI trivial ?_
 simp only[YB,EVA,seval]
 refine ZU (α:=Unit) 0 (fun _ _=>⟨lvl,[(0,.hd id [] 0 0 none hw),(1,iI 0),(2,iI 0),(3,iI r),(4,.fn Jo []),(10,iB true),(11,iB true)],[],S⟩) (fun _ _=>True) () ⟨by simp only[JW hne,EVA,seval],by (simp only[EVA,seval]) <;> rfl⟩ trivial ?_
 intro _ _ _ _
 simp only[EVA,seval]
 refine⟨by rw[Zd];omega,?_⟩
 simp only[ZgU]
 refine Vy [] S (fun _ _=>rfl) (Zpx (lvl+1) (ZE lvl [] S) id hw (by omega)) ?_
 simp only[EVA,seval]
theorem Znx(lvl:Nat)(S:Sto)(id:Oid)(u:Bool)(hw ver:Nat)(hid:id.1<lvl)(hS:S id=some (.ar 2 [] u hw ver)):Sem Tryz.prog ZM lvl [.hd id [] 0 0 none hw,.fn Jo []] S (.tu []) (ZT S id (.ar 2 [] u hw ver)):=by
 rw[Qp hS]
 have hne:id.1≠lvl:=by omega
 obtain⟨r,hr⟩:=Zlq (v:=0) (by omega) (by omega)
 refine Zb Qg trivial ?_
 simp only[JZ,EVA,seval,Zj,men]
 refine⟨⟨by decide,by decide⟩,Za hr ?_⟩
 simp only[EVA,seval]
 refine Vy [] S (fun _ _=>rfl) (Zpy r (lvl+1) (ZE lvl [] S) id hw (by omega)) ?_
 simp only[EVA,seval]
theorem Zpz(l ys:List TWire)(hp:ys.Perm l)(hs:ys.Pairwise wlt)(hl:l.length<=4294967296)(lvl:Nat)(S:Sto)(id:Oid)(u:Bool)(hw ver:Nat)(hid:id.1<lvl)(hS:S id=some (.ar 2 (l.map ZP) u hw ver)) :
  Sem Tryz.prog ZM lvl [.hd id [] 0 l.length none hw,.fn Jo []] S (.tu []) (ZT S id (.ar 2 (ys.map ZP) u hw ver)):=by
 by_cases h0:l=[]
 ·subst h0
  have hy:ys=[]:=List.length_eq_zero_iff.1 (by simpa using hp.length_eq)
  subst hy
  exact Znx lvl S id u hw ver hid hS
 ·have hpos:0<l.length:=List.length_pos_iff.2 h0
  refine Ziz (enc:=Zxx) (k:=2) (fun _=>rfl) (by decide) (Zi1 (by kernel_rfl)) hid hS (fun x v hv=>by simp [Zxx] at hv;rcases hv with rfl | rfl <;> rfl) hp.length_eq hpos fun b cap w hH hb=>?_
  have hcon:=AnyQ.slices_SortFunc Tryz.sortW 2 Tryz.isAgg147 Tryz.sizeOf147 Zxx (fun _=>rfl) (fun x v hv=>by simp [Zxx] at hv;rcases hv with rfl | rfl <;> rfl) Zro ZDF 294 #[] b 0 cap l.toArray w (enters_of Tryz.func294 (by kernel_rfl) rfl) (Zrp b 0 _ w) hH hb (by simp;omega)
  have hsz:l.toArray.size=l.length:=by simp
  rw[hsz] at hcon
  refine Calls.mono hcon ?_
  rintro e w' ⟨rfl,d',n,os,hperm,hsort,rfl⟩
  refine⟨rfl,n,os,?_⟩
  have hds:d'.size=l.length:=by rw[hperm.1,hsz]
  have hd:d'.toList=ys:=by
   have h1:d'.toList.Perm l:=by
    have:=hperm.2.2
    rw[show d'.extract 0 l.length=d' from by rw[<-hds];exact Array.extract_size,show l.toArray.extract 0 l.length=l.toArray from by rw[<-hsz];exact Array.extract_size] at this
    simpa using this
   refine ZCo (ZDG hs (h1.trans hp.symm) fun i j hi hj hij hlt=>?_) hs (h1.trans hp.symm)
   have hjj:j<d'.size:=by simpa using hj
   have hii:i<d'.size:=by simpa using hi
   have:=hsort i j (Nat.zero_le _) hij (by omega)
   rw[ZmM] at this
   have h2:d'[j]! = d'.toList[j]:=by simp [hjj]
   have h3:d'[i]! = d'.toList[i]:=by simp [hii]
   rw[h2,h3] at this
   unfold wlt ltS at hlt
   rw[this] at hlt
   cases hlt
  rw[<-hd]
end Go.Fd

/-
  BIGRAPHS SIDE BY SIDE, THE PROGRAM'S SIDE. Own work.
-/
namespace Go.Fd
set_option maxRecDepth 20000
theorem ZpA:ZF Go.Proofs.Tryz.prog Z3 (ZoL 1 none)=true:=by kernel_rfl
theorem Zsm:ZF Go.Proofs.Tryz.prog ZC (Zr7 Z3)=true:=by kernel_rfl
theorem Zfg(b:List ByteArray)(s:ByteArray)(hb:b.length<=4294967296)(lvl:Nat)(S:Sto):Sem Go.Proofs.Tryz.prog Yy lvl [iS s,.ta [Tr.sl (rS b)]] S (iB (dc (s∈b))) S:=by
 refine Zb Zcu trivial ?_
 simp only[Ul,EVA,↓reduceIte,Nat.reduceEqDiff,reduceCtorEq,Nat.reduceAdd,Nat.reduceLeDiff,Nat.reduceLT,Zj,men]
 refine Za (Zah b s hb) ?_
 simp only[EVA,↓reduceIte,Nat.reduceEqDiff,Nat.reduceMul,reduceCtorEq,Nat.reduceLT]
theorem Zhp(a b:List ByteArray)(ha:a.length<=4294967296)(hb:b.length<=4294967296)(lvl:Nat)(S:Sto):Sem Go.Proofs.Tryz.prog QV lvl [.tr (.sl (rS a)),.tr (.sl (rS b))] S (iB (!dc (∀ x∈a,x ∉ b))) S:=by
 have q:=ZfD (P:=Go.Proofs.Tryz.prog) Zsm ZpA (t:=fun n:ByteArray=>ts n) (f:=fun s=>dc (s∈b)) (fe:=Yy) (cs:=[[Tr.sl (rS b)]]) a (by omega) (fun x _ lvl S=>Zfg b x hb lvl S)
 have e:a.any (fun s=>dc (s∈b)) = !dc (∀ x∈a,x ∉ b):=by
  cases h:dc (∀ x∈a,x ∉ b)
  ·have h1:=dc_not.1 h
   have:∃ x∈a,x∈b:=Classical.byContradiction fun g=>h1 fun x hx hb=>g ⟨x,hx,hb⟩
   obtain⟨x,hx,hxb⟩:=this
   simp only[Bool.not_false,List.any_eq_true]
   exact⟨x,hx,ZN hxb⟩
  ·have h1:=dc_iff.1 h
   simp only[Bool.not_true,List.any_eq_false]
   intro x hx
   rw[Zi (h1 x hx)]
   decide
 rw[e] at q
 refine Zb Zeh trivial ?_
 simp only[Dv,EVA,↓reduceIte,Nat.reduceEqDiff,reduceCtorEq,Nat.reduceAdd,Nat.reduceLeDiff,Nat.reduceLT,Zj,men]
 refine Za q ?_
 simp only[EVA,↓reduceIte,Nat.reduceEqDiff,Nat.reduceMul,reduceCtorEq,Nat.reduceLT]
theorem Zhq(a:TBigraph)(p:Int)(hp:-4294967296<=p/\p<=4294967296)(ha:0<=a.roots/\a.roots<=4)(lvl:Nat)(S:Sto):Sem Go.Proofs.Tryz.prog Y5 lvl [iI p,.ta (Zc a)] S (iI (p-a.roots)) S:=by
 refine Zb Zei trivial ?_
 simp only[Dw,Zc,EVA,↓reduceIte,Nat.reduceEqDiff,reduceCtorEq,Nat.reduceAdd,Nat.reduceLeDiff,Nat.reduceLT]
 rw[Zd];omega
theorem Zhr(e:Int×ByteArray)(lvl:Nat)(S:Sto):Sem Go.Proofs.Tryz.prog Y6 lvl [oE e] S (oE e) S:=by
 refine Zb Zej (by simp [low,men,Zj]) ?_
 simp only[Dx,EVA,↓reduceIte,Nat.reduceEqDiff,Nat.reduceMul,reduceCtorEq,Nat.reduceAdd,Nat.reduceLeDiff,Nat.reduceLT]
theorem ZCp{b:TBigraph}{F:Int->Int}:(b.inner.map (ZbG F)).map TWire.name=inn b:=by simp [inn,ZbG]
theorem ZmN{sig:List TControl}{b:TBigraph}(h:bigOK sig b){F:Int->Int}:(b.inner.map (ZbG F)).Pairwise wlt:=by
 have hp:=Zi9 h.inn
 unfold inn at hp
 rw[List.pairwise_map] at hp ⊢
 exact hp
theorem Zxy{sig:List TControl}{a b:TBigraph}(ha:bigOK sig a)(hb:bigOK sig b)(hd:∀ x∈inn a,x ∉ inn b){F F':Int->Int}:(De (a.inner.map (ZbG F)) (b.inner.map (ZbG F'))).Pairwise wlt :=
 ZmK (ZmN ha) (ZmN hb) fun x hx y hy e=>by
  refine hd x.name ?_ ?_
  ·rw[<-ZCp (F:=F)];exact List.mem_map.2 ⟨x,hx,rfl⟩
  ·rw[<-ZCp (F:=F'),e];exact List.mem_map.2 ⟨y,hy,rfl⟩
theorem Zrq{a:TBigraph}:Zsk a.nodes.length (fun p=>p-a.roots)=Zlx a:=rfl
theorem Zt4{sig:List TControl}{a b:TBigraph}(ha:bigOK sig a)(hb:bigOK sig b) :
  Zbl a b (a.roots+b.roots) a.sites (YJ a b) (Zdr a (a.edges+b.edges) (YJ a b) fun x=>x) (Zdr b (a.edges+b.edges) (YJ a b) (Zff a fun s=>(0,s))) (Zlx a)=Zuu a b :=
 ZgG ha hb (fun l hl=>Zxu ha hl) (fun l hl=>ZCm hb (fun i hi=>if_neg (ZbE hb.outer (List.getElem_mem hi))) hl) fun p _=>rfl
theorem Zt5{sig:List TControl}{a b:TBigraph}(ha:bigOK sig a):a.inner.map (ZbG (Zdr a (a.edges+b.edges) (YJ a b) fun x=>x))=a.inner.map (ZbG fun l=>g0 (Znv a b) l.toNat):=List.map_congr_left fun w hw=>by
 unfold ZbG
 rw[Zxu ha (ha.inner w hw)]
 rfl
theorem Zkv(sig:List TControl)(a b:TBigraph)(ha:bigOK sig a)(hb:bigOK sig b)(hd:∀ x∈inn a,x ∉ inn b)(lvl:Nat)(S:Sto):Sem Go.Proofs.Tryz.prog XY lvl [.ag ((Zc a).map .tr),.ag ((Zc b).map .tr)] S (Zrn (ZdY a b) (decide (b.nodes.length=0))) S:=by
 have ra:=ha.roots;have rb:=hb.roots
 have ea:=ha.edges;have eb:=hb.edges
 have sa:=ha.small;have sb:=hb.small
 have a1:=sa.nodes;have a2:=sa.sites;have a3:=sa.inner;have a4:=sa.outer
 have b1:=sb.nodes;have b2:=sb.sites;have b3:=sb.inner;have b4:=sb.outer
 have hol:=Wm (a:=a) (b:=b)
 have lnA:∀ x∈a.nodes,∀ l∈x.links,ZX a l:=fun x hx l hl=>by
  obtain⟨k,hk,rfl⟩:=List.getElem_of_mem hx
  exact(ha.nodes k hk).links l hl
 have hfl:[a.outer,b.outer].flatten=a.outer++b.outer:=by simp
 have hc:=ZgI [a.outer,b.outer] (by simp) (by rw[hfl,List.length_append];omega)
 rw[hfl] at hc
 have qj:=ZgH sig a b (Zuu a b) ha hb (a.roots+b.roots) a.sites (by omega) (a.outer++b.outer) (by rw[List.length_append];omega) Y5 [Zc a] (fun p=>p-a.roots) YV [] (fun s=>(0,s)) (fun p h1 h2 lvl S=>Zhq a p (by omega) ra lvl S) (fun x _ lvl S=>ZhW x lvl S) (by rw[Zrq];exact Zt4 ha hb)
 have qr:=UR a (a.edges+b.edges) (a.outer++b.outer) Y6 [] (fun x=>x) ea.1 (Qh (by omega) (QM ha)) (by omega) (by omega) (by rw[List.length_append];omega) lnA ha.inner (fun l _ lvl S=>Zhr (ZfF a l) lvl S)
 refine Zb Zge (by simp [low,men,Zj]) ?_
 simp only[Za8,Zc,EVA,↓reduceIte,Nat.reduceEqDiff,Nat.reduceMul,reduceCtorEq,Nat.reduceAdd,Nat.reduceLeDiff,Nat.reduceLT,Zj,men]
 refine⟨by simp,by simp,Za hc ?_⟩
 simp only[EVA,↓reduceIte,Nat.reduceEqDiff,Nat.reduceMul,reduceCtorEq,Nat.reduceAdd,Nat.reduceLT,Zj,men]
 simp only[Zc,ZBN,List.map_cons,List.map_nil] at qj
 refine⟨by rw[Zd];omega,Za qj ?_⟩
 simp only[List.length_map,EVA,↓reduceIte,Nat.reduceEqDiff,Nat.reduceMul,reduceCtorEq,Nat.reduceAdd,Nat.reduceLT,Zj,men]
 rw[show Vu (a.outer++b.outer)=YJ a b from rfl] at qr
 have hA1:a.inner.map (fun w=>({ name:=w.name,link:=Zdr a (a.edges+b.edges) (YJ a b) (fun x=>x) w.link }:TWire))=a.inner.map (ZbG fun l=>g0 (Znv a b) l.toNat):=Zt5 ha
 simp only[Zc,Zg,Dk,List.map_cons,List.map_nil] at qr
 simp only[hA1] at qr
 obtain⟨A1,hA⟩:∃ l,l=a.inner.map (ZbG fun l=>g0 (Znv a b) l.toNat):=⟨_,rfl⟩
 obtain⟨B1,hB⟩:∃ l,l=(Zuu a b).inner:=⟨_,rfl⟩
 have hBb:B1=b.inner.map (ZbG fun l=>g0 (Zpu a b) l.toNat):=hB
 have lA:A1.length=a.inner.length:=by rw[hA,List.length_map]
 have lB:B1.length=b.inner.length:=by rw[hBb,List.length_map]
 have hpw:(De A1 B1).Pairwise wlt:=by rw[hA,hBb];exact Zxy ha hb hd
 have hmx:max a.inner.length (a.inner.length+b.inner.length)=a.inner.length+b.inner.length:=by omega
 have hpi:(ZdY a b).inner=De A1 B1:=by rw[hA,hBb];rfl
 rw[<-hA] at qr
 rw[<-hB]
 refine Za qr ?_
 simp only[Zxo,Zxp,lA,lB,hmx,List.length_map,EVA,↓reduceIte,Nat.reduceEqDiff,Nat.reduceMul,reduceCtorEq,Nat.reduceAdd,Nat.reduceLT]
 rw[<-List.map_append]
 refine⟨by omega,?_⟩
 have hab:(A1++B1).length=a.inner.length+b.inner.length:=by rw[List.length_append];omega
 have s1:=fun S' hS=>Zpz (A1++B1) (De A1 B1) wjoin_perm hpw (by omega) (lvl+1) S' (lvl,963) true (a.inner.length+b.inner.length) 0 (Nat.lt_succ_self _) hS
 rw[hab] at s1
 refine Zi3 963 _ (s1 _ ?_) ?_
 ·rw[Yt];rfl
 simp only[ZdD,lA,lB,List.length_map,EVA,↓reduceIte,Nat.reduceEqDiff,Nat.reduceMul,reduceCtorEq,Nat.reduceAdd,Nat.reduceLT]
 simp only[Zrn,hpi]
 rfl
theorem ZpB{sig:List TControl}{a b:TBigraph}(ha:bigOK sig a)(hb:bigOK sig b):∀ l,ZX b l->sm (g0 (Zpu a b) l.toNat):=fun l hl=>by
 have ea:=ha.edges;have eb:=hb.edges
 have a4:=ha.small.outer;have b4:=hb.small.outer
 have hol:=Wm (a:=a) (b:=b)
 refine Zpm ha hb (fun x hx=>?_) hl
 have:=Zgx (l:=YJ a b) (s:=x)
 have:=ZeW (l:=YJ a b) (s:=x)
 unfold sm
 omega
theorem ZpC{sig:List TControl}{a b:TBigraph}(ha:bigOK sig a)(hb:bigOK sig b):∀ l,ZX a l->sm (g0 (Znv a b) l.toNat):=fun l hl=>by
 have a4:=ha.small.outer;have b4:=hb.small.outer
 have hol:=Wm (a:=a) (b:=b)
 exact Zpo ha hb (by omega) l hl
theorem Zlz{a b:TBigraph}{w:TWire}(h:w∈(ZdY a b).inner):w∈a.inner.map (ZbG fun l=>g0 (Znv a b) l.toNat)\/w∈b.inner.map (ZbG fun l=>g0 (Zpu a b) l.toNat):=List.mem_append.1 (wjoin_perm.mem_iff.1 h)
theorem ZmO{sig:List TControl}{a b:TBigraph}(ha:bigOK sig a)(hb:bigOK sig b):Zp 4294967290 (ZdY a b):=by
 have sa:=ha.small;have sb:=hb.small
 have a2:=sa.sites;have a3:=sa.inner;have b3:=sb.inner;have a4:=sa.outer;have b4:=sb.outer
 have hol:=Wm (a:=a) (b:=b)
 obtain⟨b1,b2,b3',b4',b5,b6,b7⟩:=Zpk (roots:=a.roots+b.roots) (ss:=a.sites) (o:=YJ a b) (FL:=fun l=>g0 (Znv a b) l.toNat) (FR:=fun l=>g0 (Zpu a b) l.toNat) (mv:=Zlx a) ha hb (by omega) (by omega) fun y hy=>by
  rcases List.mem_append.1 (setS_mem.1 hy) with hy | hy
  ·have:=Yq ha.outer hy;omega
  ·have:=Yq hb.outer hy;omega
 refine⟨b1,b2,b3',b4',b5,?_,fun w hw=>?_⟩
 ·show (De _ _).length<=_
  rw[ZdD,List.length_map,List.length_map]
  omega
 ·rcases Zlz hw with h | h
  ·obtain⟨x,hx,rfl⟩:=List.mem_map.1 h
   have:=Yq ha.inn (List.mem_map.2 ⟨x,hx,rfl⟩)
   simp only[UJ,ZbG]
   omega
  ·obtain⟨x,hx,rfl⟩:=List.mem_map.1 h
   have:=Yq hb.inn (List.mem_map.2 ⟨x,hx,rfl⟩)
   simp only[UJ,ZbG]
   omega
theorem Zxz{sig:List TControl}{a b:TBigraph}(ha:bigOK sig a)(hb:bigOK sig b){p:Int}(h1:-b.roots<=p)(h2:p<b.nodes.length):sm (Zlx a p):=by
 have a1:=ha.small.nodes;have b1:=hb.small.nodes
 have ra:=ha.roots;have rb:=hb.roots
 unfold Zlx sm
 split <;> omega
theorem Zt6{sig:List TControl}{a:TBigraph}(ha:bigOK sig a):∀ p∈a.sites,sm p:=fun p hp=>by
 have h1:=Js ha.roots.1 (ha.sites p hp)
 have h2:=Wc ha hp
 have ra:=ha.roots
 have a1:=ha.small.nodes
 unfold sm
 omega
theorem Zsn{sig:List TControl}{a b:TBigraph}(ha:bigOK sig a)(hb:bigOK sig b)(fa:ZB a)(fb:ZB b):ZB (ZdY a b):=by
 have ra:=ha.roots;have rb:=hb.roots
 obtain⟨f1,f2,f3,f4,f5⟩:=Zpl (roots:=a.roots+b.roots) (ss:=a.sites) (o:=YJ a b) (FL:=fun l=>g0 (Znv a b) l.toNat) (FR:=fun l=>g0 (Zpu a b) l.toNat) (mv:=Zlx a) ha hb fa fb (by unfold sm;omega) (Zt6 ha) (ZpC ha hb) (ZpB ha hb) fun p h1 h2=>Zxz ha hb h1 h2
 refine⟨f1,f2,f3,f4,fun w hw=>?_⟩
 rcases Zlz hw with h | h
 ·obtain⟨x,hx,rfl⟩:=List.mem_map.1 h
  exact ZdA (ZpC ha hb _ (ha.inner x hx))
 ·obtain⟨x,hx,rfl⟩:=List.mem_map.1 h
  exact ZdA (ZpB ha hb _ (hb.inner x hx))
def Uv(sig:List TControl)(a b:TBigraph):Prop:=bigOK sig a/\bigOK sig b/\(∀ x∈inn a,x ∉ inn b)/\bigOK sig (ZdY a b)
open Classical in
noncomputable def YE(sig:List TControl)(a b:TBigraph):TBigraph:=if Uv sig a b then ZdY a b else Jh
noncomputable def YF(sig:List TControl)(a b:TBigraph):Bool:=dc (Uv sig a b)
theorem Q5(sig:List TControl)(a b:TBigraph)(hn:sig.length<=4294967296)(hbs:∀ y∈sig,Zo 4294967296 y)(hba:Zp 4294967296 a)(hbb:Zp 4294967296 b)(fa:ZB a)(fb:ZB b)(lvl:Nat)(S:Sto):Sem Go.Proofs.Tryz.prog JP lvl [.tr (.sl (sig.map Zh)),.ag ((Zc a).map .tr),.ag ((Zc b).map .tr)] S (.tu [Zg (YE sig a b),iB (YF sig a b)]) S:=by
 refine Zb ZaK (by simp [Zg,low,men,Zj]) ?_
 simp only[XT,Zc,EVA,↓reduceIte,Nat.reduceEqDiff,Nat.reduceMul,reduceCtorEq,Nat.reduceAdd,Nat.reduceLeDiff,Nat.reduceLT,Zj,men]
 have i1:=Jy sig a hn hbs hba
 have i2:=Jy sig b hn hbs hbb
 simp only[Zc,List.map_cons,List.map_nil] at i1 i2
 refine Za i1 ?_
 unfold YE YF
 cases h1:dc (bigOK sig a)
 ·have hno:¬ Uv sig a b:=fun g=>dc_not.1 h1 g.1
  rw[if_neg hno,Zi hno]
  simp only[EVA,↓reduceIte,Nat.reduceEqDiff,Nat.reduceMul,reduceCtorEq,Nat.reduceAdd,Nat.reduceLT]
  rfl
 have hA:=dc_iff.1 h1
 simp only[EVA,↓reduceIte,Nat.reduceEqDiff,Nat.reduceMul,reduceCtorEq,Nat.reduceAdd,Nat.reduceLT,Zj,men]
 refine Za i2 ?_
 cases h2:dc (bigOK sig b)
 ·have hno:¬ Uv sig a b:=fun g=>dc_not.1 h2 g.2.1
  rw[if_neg hno,Zi hno]
  simp only[EVA,↓reduceIte,Nat.reduceEqDiff,Nat.reduceMul,reduceCtorEq,Nat.reduceAdd,Nat.reduceLT]
  rfl
 have hB:=dc_iff.1 h2
 have sa:=hA.small;have sb:=hB.small
 have a3:=sa.inner;have b3:=sb.inner
 simp only[EVA,↓reduceIte,Nat.reduceEqDiff,Nat.reduceMul,reduceCtorEq,Nat.reduceAdd,Nat.reduceLT,Zj,men]
 have n1:=Dc a (by omega)
 have n2:=Dc b (by omega)
 simp only[Zc,List.map_cons,List.map_nil] at n1 n2
 refine Za n1 ?_
 simp only[EVA,↓reduceIte,Nat.reduceEqDiff,Nat.reduceMul,reduceCtorEq,Nat.reduceAdd,Nat.reduceLT,Zj,men]
 refine Za n2 ?_
 simp only[EVA,↓reduceIte,Nat.reduceEqDiff,Nat.reduceMul,reduceCtorEq,Nat.reduceLT,Zj,men]
 refine Za (Zhp (inn a) (inn b) (by rw[Zeo];omega) (by rw[Zeo];omega)) ?_
 cases h3:dc (∀ x∈inn a,x ∉ inn b)
 ·have hno:¬ Uv sig a b:=fun g=>dc_not.1 h3 g.2.2.1
  rw[if_neg hno,Zi hno]
  simp only[EVA,↓reduceIte,Nat.reduceEqDiff,Nat.reduceMul,reduceCtorEq,Nat.reduceAdd,Nat.reduceLT]
  rfl
 have hD:=dc_iff.1 h3
 simp only[EVA,↓reduceIte,Nat.reduceEqDiff,Nat.reduceMul,reduceCtorEq,Nat.reduceAdd,Nat.reduceLT,Zj,men]
 have qc:=Zkv sig a b hA hB hD
 simp only[Zc,Zrn,List.map_cons,List.map_nil] at qc
 refine Za qc ?_
 simp only[EVA,↓reduceIte,Nat.reduceEqDiff,Nat.reduceMul,reduceCtorEq,Nat.reduceLT,Zj,men]
 have qv:=Zdx sig (ZdY a b) hn hbs (ZmO hA hB) (Zsn hA hB fa fb)
 simp only[Zc,List.map_cons,List.map_nil] at qv
 refine Za qv ?_
 cases h6:dc (bigOK sig (ZdY a b))
 ·have hno:¬ Uv sig a b:=fun g=>dc_not.1 h6 g.2.2.2
  rw[if_neg hno,Zi hno,if_neg (dc_not.1 h6)]
  simp only[Zg,EVA,↓reduceIte,Nat.reduceEqDiff,Nat.reduceMul,reduceCtorEq,Nat.reduceAdd,Nat.reduceLT]
  rfl
 ·have hyes:Uv sig a b:=⟨hA,hB,hD,dc_iff.1 h6⟩
  rw[if_pos hyes,ZN hyes,if_pos (dc_iff.1 h6)]
  simp only[Zg,List.length_map,EVA,↓reduceIte,Nat.reduceEqDiff,Nat.reduceMul,reduceCtorEq,Nat.reduceAdd,Nat.reduceLT]
end Go.Fd

/-
  BIGRAPHS SIDE BY SIDE: THE REFERENCE'S ANSWERS; JUXTAPOSITION (printed by mkpar.py). Own work.
-/
namespace Go.Fd
set_option maxRecDepth 20000
end Go.Fd

/-
  THE MERGED PRODUCT, IN PLAIN TERMS. Own work.
-/
namespace Go.Fd
set_option maxRecDepth 20000
def ZkQ(p:Int):Int:=max (-1) p
def Zso(x:TNode):TNode:=⟨x.control,ZkQ x.parent,x.links⟩
def ZlA(b:TBigraph):TBigraph:=⟨1,b.nodes.map Zso,b.sites.map ZkQ,b.edges,b.outer,b.inner⟩
def ZpD(b:TBigraph):Prop:=0<=b.roots/\(∀ x∈b.nodes,-b.roots<=x.parent)/\∀ p∈b.sites,-b.roots<=p
theorem ZbI{sig:List TControl}{b:TBigraph}{p below:Int}(h:-b.roots<=p):UB sig (ZlA b) (ZkQ p) below↔UB sig b p below:=by
 unfold UB ZkQ
 by_cases h0:0<=p
 ·rw[show max (-1) p=p by omega]
  have e:Zhl (ZlA b) p=Zhl b p:=by
   unfold Zhl ZlA
   rw[List.getElem?_map]
   cases b.nodes[p.toNat]? <;> rfl
  rw[e]
  constructor
  ·rintro(q | q)
   ·omega
   ·exact .inr q
  ·rintro(q | q)
   ·omega
   ·exact .inr q
 ·have e:max (-1) p = -1:=by omega
  rw[e]
  constructor
  ·intro _
   exact .inl ⟨by omega,h⟩
  ·intro _
   refine .inl ⟨by omega,?_⟩
   show -(1:Int) <= -1
   omega
theorem ZpE{sig:List TControl}{b:TBigraph}(h:ZpD b):bigOK sig (ZlA b)/\b.roots<=4↔bigOK sig b:=by
 obtain⟨h0,h1,h2⟩:=h
 have hl:(ZlA b).nodes.length=b.nodes.length:=List.length_map ..
 have hs:(ZlA b).sites.length=b.sites.length:=List.length_map ..
 constructor
 ·rintro⟨g,hr⟩
  refine⟨g.sg,⟨h0,hr⟩,by rw[<-hl];exact g.nodesL,by rw[<-hs];exact g.sitesL,g.edges,g.outer,g.inn,fun i hi=>?_,fun p hp=>?_,g.inner⟩
  ·have q:=g.nodes i (by rw[hl];exact hi)
   have e:(ZlA b).nodes[i]'(by rw[hl];exact hi)=Zso b.nodes[i]:=by simp [ZlA]
   rw[e] at q
   exact⟨q.ctl,(ZbI (h1 _ (List.getElem_mem hi))).1 q.par,q.ports,q.links⟩
  ·have q:=g.sites (ZkQ p) (List.mem_map.2 ⟨p,hp,rfl⟩)
   rw[hl] at q
   exact(ZbI (h2 p hp)).1 q
 ·intro g
  refine⟨⟨g.sg,by show (0:Int)<=1/\(1:Int)<=4;omega,by rw[hl];exact g.nodesL,by rw[hs];exact g.sitesL,g.edges,g.outer,g.inn,fun i hi=>?_,fun p hp=>?_,g.inner⟩,g.roots.2⟩
  ·have hi2:i<b.nodes.length:=by rw[<-hl];exact hi
   have q:=g.nodes i hi2
   have e:(ZlA b).nodes[i]=Zso b.nodes[i]:=by simp [ZlA]
   rw[e]
   exact⟨q.ctl,(ZbI (h1 _ (List.getElem_mem hi2))).2 q.par,q.ports,q.links⟩
  ·obtain⟨p0,hp0,rfl⟩:=List.mem_map.1 hp
   rw[hl]
   exact(ZbI (h2 p0 hp0)).2 (g.sites p0 hp0)
theorem Zes{sig:List TControl}{a b:TBigraph}(ha:bigOK sig a)(hb:bigOK sig b):ZpD (ZdY a b):=by
 have ra:=ha.roots;have rb:=hb.roots
 have hbes:∀ p,-b.roots<=p -> -(a.roots+b.roots)<=Zlx a p:=fun p hp=>by
  unfold Zlx
  split <;> omega
 refine⟨?_,fun x hx=>?_,fun p hp=>?_⟩
 ·show 0<=a.roots+b.roots
  omega
 ·show -(a.roots+b.roots)<=x.parent
  rcases List.mem_append.1 hx with hx | hx
  ·obtain⟨y,hy,rfl⟩:=List.mem_map.1 hx
   obtain⟨k,hk,rfl⟩:=List.getElem_of_mem hy
   have:=Js ra.1 (ha.nodes k hk).par
   show _<=(a.nodes[k]).parent
   omega
  ·obtain⟨y,hy,rfl⟩:=List.mem_map.1 hx
   obtain⟨k,hk,rfl⟩:=List.getElem_of_mem hy
   exact hbes _ (Js rb.1 (hb.nodes k hk).par)
 ·show -(a.roots+b.roots)<=p
  rcases List.mem_append.1 hp with hp | hp
  ·have:=Js ra.1 (ha.sites p hp)
   omega
  ·obtain⟨y,hy,rfl⟩:=List.mem_map.1 hp
   exact hbes _ (Js rb.1 (hb.sites y hy))
theorem ZmP{b:TBigraph}{n:Nat}(hn:b.roots=n){p:Int}(h:-b.roots<=p):Zep 0 (List.replicate n (-1)) p=ZkQ p:=by
 unfold Zep ZkQ
 by_cases h0:0<=p
 ·rw[if_neg (by omega)]
  omega
 ·rw[if_pos (by omega)]
  have hk:(-1-p).toNat<n:=by omega
  show (List.replicate n (-1:Int)).getD _ 0=_
  rw[List.getD_eq_getElem?_getD,List.getElem?_replicate,if_pos hk]
  show (-1:Int)=_
  omega
noncomputable def ZhX(a b:TBigraph):TBigraph:=ZlA (ZdY a b)
open Classical in
noncomputable def VN(sig:List TControl)(a b:TBigraph):TBigraph:=if Uv sig a b then ZhX a b else Jh
noncomputable def VO(sig:List TControl)(a b:TBigraph):Bool:=dc (Uv sig a b)
end Go.Fd

/-
  SMALL WORDS FOR MARKS. Own work.
-/
namespace Go.Fd
theorem Zet{S:Sto}{id i:Oid}{ob:Ob}(h:i≠id):ZT S id ob i=S i:=if_neg h
theorem Zsp{α:Type}{m:α->Int->α}{n:α->Nat}:∀{a:List α} {k:Int} {j:Nat} (h:j<a.length),(mL m n a k)[j]? = some (m a[j] (kJ n a k j))
 | [],_,_,h=>by cases h
 | x::r,k,0,_=>by simp [mL,kJ,nL]
 | x::r,k,j+1,h=>by
  simp only[mL,List.getElem?_cons_succ,List.getElem_cons_succ]
  rw[Zsp (by simpa using h)]
  simp only[kJ,List.take_succ_cons,nL]
  congr 2
  omega
theorem ZmQ{α:Type}{c:α->List Tr}{m:α->Int->α}{n:α->Nat}{a:List α}{k:Int}{j:Nat}(h:j<a.length):((mL m n a k).map c)[j]? = some (c (m a[j] (kJ n a k j))):=by
 rw[List.getElem?_map,Zsp h];rfl
theorem Zsq{α:Type}{c:α->List Tr}{m:α->Int->α}{n:α->Nat}{a:List α}{k:Int}:cut ((mL m n a k).map c) 0 a.length=(mL m n a k).map c:=by
 simp only[cut,List.drop_zero]
 exact List.take_of_length_le (by rw[List.length_map,Vz];exact Nat.le_refl _)
theorem Q1{α:Type}{c:α->List Tr}{a:List α}:cut (a.map c) 0 a.length=a.map c:=by
 simp only[cut,List.drop_zero]
 exact List.take_of_length_le (by rw[List.length_map];exact Nat.le_refl _)
end Go.Fd

/-
  THE MERGED PRODUCT, BOTH SIDES. Own work.
-/
namespace Go.Fd
set_option maxRecDepth 20000
def prt{α:Type}(f:α->α)(l:List α)(j:Nat):List α:=(l.take j).map f++l.drop j
theorem Zt7{α:Type}{f:α->α}{l:List α}:prt f l 0=l:=by simp [prt]
theorem Zt8{α:Type}{f:α->α}{l:List α}:prt f l l.length=l.map f:=by simp [prt]
theorem Zt9{α:Type}{f:α->α}{l:List α}{j:Nat}:(prt f l j).length=l.length:=by simp [prt];omega
theorem ZpF{α:Type}{f:α->α}{l:List α}{j:Nat}(h:j<l.length):(prt f l j)[j]? = some l[j]:=by
 have:((l.take j).map f).length=j:=by rw[List.length_map,List.length_take];omega
 rw[prt,List.getElem?_append_right (by omega),this,List.getElem?_drop]
 simp [h]
theorem ZpG{α:Type}{f:α->α}{l:List α}{j:Nat}(h:j<l.length):(prt f l j).set j (f l[j])=prt f l (j+1):=by
 have hl:((l.take j).map f).length=j:=by rw[List.length_map,List.length_take];omega
 unfold prt
 rw[List.set_append_right _ _ (by omega),hl,Nat.sub_self,List.drop_eq_getElem_cons h,List.set_cons_zero,List.take_succ_eq_append_getElem h,List.map_append,List.append_assoc]
 rfl
theorem ZlB{l:List TNode}{j:Nat}(h:j<l.length):((prt Zso l j).map ZO)[j]? = some [tv l[j].control,tv l[j].parent,Tr.sl (rI l[j].links)]:=by rw[List.getElem?_map,ZpF h];rfl
theorem ZpH{l:List TNode}{j:Nat}(h:j<l.length):YZ ((prt Zso l j).map ZO) [] j 1 (Tr.v (.int .i64 (max (-1) l[j].parent)))=(prt Zso l (j+1)).map ZO:=by
 rw[Zje (ZlB h),<-ZpG h,List.map_set]
 rfl
theorem Zrr{l:List Int}{j:Nat}(h:j<l.length):(rI (prt ZkQ l j))[j]? = some [tv l[j]]:=by
 show ((prt ZkQ l j).map _)[j]? = _
 rw[List.getElem?_map,ZpF h]
 rfl
theorem Zrs{l:List Int}{j:Nat}(h:j<l.length):YZ (rI (prt ZkQ l j)) [] j 0 (Tr.v (.int .i64 (max (-1) l[j])))=rI (prt ZkQ l (j+1)):=by
 rw[Zo6 (by rw[Zt9];exact h),show max (-1) l[j]=ZkQ l[j] from rfl,ZpG h]
theorem ZgJ(b:TBigraph)(hb:Zp 4294967290 b)(lvl:Nat)(S:Sto):Sem Go.Proofs.Tryz.prog J2 lvl [.ag ((Zc b).map .tr)] S (Zg (ZlA b)) S:=by
 refine Zb UA (by simp [Zg,low,men,Zj]) ?_
 simp only[V6,Zc,EVA,seval,Zj,men]
 have q:=Wb b hb
 simp only[Zc,List.map_cons,List.map_nil] at q
 obtain⟨b1,b2,b3,b4,b5,b6,b7⟩:=hb
 refine Za q ?_
 simp only[Zg,List.length_map,EVA,seval]
 refine ZH (α:=Unit) b.nodes.length (fun j _=>[(14,iI j)]) (fun j _=>[(288,.ar 3 ((prt Zso b.nodes j).map ZO) true b.nodes.length 0)]) (fun _ _=>True) () (by simp only[EVA,seval]) (by (simp only[Zt7,EVA,seval]) <;> rfl) trivial ?_
 intro j _ hj _
 simp only[EVA,seval]
 refine Zk (fun hlt=>?_) (fun hge=>?_)
 ·have hja:j<b.nodes.length:=by omega
  have ga:=ZlB hja
  have hst:=ZpH hja
  simp only[ga,hst,hja,List.length_map,EVA,seval]
  exact⟨by rw[Zd];omega,Ze () hja rfl trivial⟩
 ·have:j=b.nodes.length:=by omega
  subst this
  rw[Zt8]
  refine ZH (α:=Unit) b.sites.length (fun j _=>[(31,iI j)]) (fun j _=>[(289,.ar 1 (rI (prt ZkQ b.sites j)) true b.sites.length 0)]) (fun _ _=>True) () (by simp only[EVA,seval]) (by (simp only[Zt7,EVA,seval]) <;> rfl) trivial ?_
  intro j _ hj _
  simp only[List.length_map,EVA,seval]
  refine Zk (fun hlt=>?_) (fun hge=>?_)
  ·have hja:j<b.sites.length:=by omega
   have ga:=Zrr hja
   have hst:=Zrs hja
   simp only[ga,hst,hja,EVA,seval]
   exact⟨by rw[Zd];omega,Ze () hja rfl trivial⟩
  ·have:j=b.sites.length:=by omega
   subst this
   rw[Zt8]
   simp only[List.length_map,EVA,seval]
   try rfl
structure easy (b:TBigraph):Prop where
 root:ZpD b
 bd:Zp 4294967290 b
 r4:b.roots<=4294967290
 edges:0<=b.edges/\b.edges<=4294967290
 par:∀ x∈b.nodes,x.parent<b.nodes.length/\∀ l∈x.links,0<=l
 site:∀ p∈b.sites,p<b.nodes.length
 link:∀ w∈b.inner,0<=w.link
theorem ZpI{n:Nat}:rI (List.replicate n (-1))++[[tv (-1)]]=rI (List.replicate (n+1) (-1)):=by
 rw[List.replicate_succ',Vt]
 rfl
theorem ZpJ(b:TBigraph)(h:easy b)(lvl:Nat)(S:Sto):Sem Go.Proofs.Tryz.prog U6 lvl [.ag ((Zc b).map .tr)] S (Zg (ZlA b)) S:=by
 obtain⟨E,hE⟩:∃ E:Nat,b.edges=E:=⟨b.edges.toNat,by have:=h.edges;omega⟩
 obtain⟨R,hR⟩:∃ R:Nat,b.roots=R:=⟨b.roots.toNat,by have:=h.root.1;omega⟩
 have hr4:=h.r4;have he4:=h.edges
 have hbd:=h.bd
 obtain⟨b1,b2,b3,b4,b5,b6,b7⟩:=h.bd
 refine Zb Zka (by simp [Zg,low,men,Zj]) ?_
 simp only[ZeQ,Zc,EVA,seval,Zj,men]
 have q:=ZgF b E hE hbd (by omega) h.par h.site h.link
 simp only[Zc,List.map_cons,List.map_nil] at q
 refine Za q ?_
 simp only[Zg,List.length_map,EVA,seval]
 refine ZH (α:=Unit) R (fun j _=>[(4,.hd (lvl,288) [] 0 j none j),(5,iI j)]) (fun j _=>[(288,.ar 1 (rI (List.replicate j (-1))) true j 0)]) (fun _ _=>True) () (by simp only[EVA,seval]) (by (simp only[EVA,seval]) <;> rfl) trivial ?_
 intro j _ hj _
 simp only[hR,List.length_map,EVA,seval]
 refine Zk (fun hlt=>?_) (fun hge=>?_)
 ·have hja:j<R:=by omega
  simp only[ZpI,seval]
  exact⟨by omega,by rw[Zd];omega,Ze () hja rfl trivial⟩
 ·have:j=R:=by omega
  subst this
  have hlr:(List.replicate j (-1:Int)).length=j:=List.length_replicate
  have hcr:cut (rI (List.replicate j (-1))) 0 j=rI (List.replicate j (-1)):=Yn (by rw[List.length_map,hlr])
  have hroot:=h.root
  have hpar:∀ p,-b.roots<=p->p<4294967296->(-4294967296<=p/\p<=4294967296)/\(p<0->(-1-p).toNat<(List.replicate j (-1:Int)).length):=fun p h1 h2=>⟨by omega,fun h3=>by rw[hlr];omega⟩
  refine ZH (α:=Unit) b.nodes.length (fun j _=>[(6,iI j)]) (fun j _=>[(256,.ar 3 ((prt Zso b.nodes j).map ZO) true b.nodes.length 0)]) (fun _ _=>True) () (by simp only[EVA,seval]) (by (simp only[Zt7,EVA,seval]) <;> rfl) trivial ?_
  intro i _ hi _
  simp only[List.length_map,EVA,seval,Zj,men]
  refine Zk (fun hlt=>?_) (fun hge=>?_)
  ·have hia:i<b.nodes.length:=by omega
   have ga:=ZlB hia
   have hst:=ZpH hia
   have hx:=List.getElem_mem hia
   have hp1:=hroot.2.1 _ hx
   have hp2:=(h.par _ hx).1
   obtain⟨g1,g2⟩:=hpar _ hp1 (by omega)
   have e:=ZmP hR hp1
   simp only[ga,hcr,hia,List.length_map,EVA,seval,Zj,men]
   refine Za (Zbj b.nodes[i].parent 0 (List.replicate j (-1)) g1 (by omega) g2) ?_
   rw[e]
   unfold ZkQ
   simp only[ga,hst,hia,EVA,seval]
   exact⟨by rw[Zd];omega,Ze () hia rfl trivial⟩
  ·have:i=b.nodes.length:=by omega
   subst this
   rw[Zt8]
   have qs:=X3 b 0 (List.replicate j (-1)) (by omega) (by omega) fun p hp=>by
    have:=h.site p hp
    exact hpar p (hroot.2.2 p hp) (by omega)
   rw[show b.sites.map (Zep 0 (List.replicate j (-1)))=b.sites.map ZkQ from List.map_congr_left fun p hp=>ZmP hR (hroot.2.2 p hp)] at qs
   simp only[Zc,hR,List.map_cons,List.map_nil] at qs
   simp only[hcr,seval]
   refine Za qs ?_
   simp only[ZlA,List.length_map,EVA,seval]
   try rfl
theorem ZpK{sig:List TControl}{a b:TBigraph}(ha:bigOK sig a)(hb:bigOK sig b){l:Int}(hl:ZX a l):0<=g0 (Znv a b) l.toNat:=by
 have ea:=ha.edges;have eb:=hb.edges
 unfold Znv ZmD
 rcases Yb hl with ⟨h0,h1⟩ | ⟨i,hi,rfl⟩
 ·rw[Zcj h0 h1];omega
 ·rw[Zck ea.1 hi]
  have:a.outer[i]∈YJ a b:=setS_mem.2 (List.mem_append.2 (.inl (List.getElem_mem hi)))
  have:=ixS_nn.2 this
  omega
theorem ZpL{sig:List TControl}{a b:TBigraph}(ha:bigOK sig a)(hb:bigOK sig b){l:Int}(hl:ZX b l):0<=g0 (Zpu a b) l.toNat:=by
 have ea:=ha.edges;have eb:=hb.edges
 unfold Zpu Zpf
 rcases Yb hl with ⟨h0,h1⟩ | ⟨i,hi,rfl⟩
 ·rw[Zcj h0 h1];omega
 ·rw[Zck eb.1 hi]
  have:b.outer[i]∈YJ a b:=setS_mem.2 (List.mem_append.2 (.inr (List.getElem_mem hi)))
  have:=ixS_nn.2 this
  omega
theorem Zrt{sig:List TControl}{a b:TBigraph}(ha:bigOK sig a)(hb:bigOK sig b):easy (ZdY a b):=by
 have ra:=ha.roots;have rb:=hb.roots
 have ea:=ha.edges;have eb:=hb.edges
 have a1:=ha.small.nodes;have b1:=hb.small.nodes
 have hlen:(ZdY a b).nodes.length=a.nodes.length+b.nodes.length:=by
  simp [ZdY,Zt3,Zuu,Zbl]
 have hbes:∀ p:Int,p<b.nodes.length->Zlx a p<(a.nodes.length+b.nodes.length:Nat):=fun p hp=>by
  unfold Zlx
  split <;> omega
 refine⟨Zes ha hb,ZmO ha hb,by show a.roots+b.roots<=_;omega,by show 0<=a.edges+b.edges/\a.edges+b.edges<=_;omega,fun x hx=>?_,fun p hp=>?_,fun w hw=>?_⟩
 ·rw[hlen]
  rcases List.mem_append.1 hx with hx | hx
  ·obtain⟨y,hy,rfl⟩:=List.mem_map.1 hx
   obtain⟨k,hk,rfl⟩:=List.getElem_of_mem hy
   have h1:=(Dd ha hy).1
   refine⟨by show (a.nodes[k]).parent<_;omega,fun l hl=>?_⟩
   obtain⟨l0,hl0,rfl⟩:=List.mem_map.1 hl
   exact ZpK ha hb ((ha.nodes k hk).links l0 hl0)
  ·obtain⟨y,hy,rfl⟩:=List.mem_map.1 hx
   obtain⟨k,hk,rfl⟩:=List.getElem_of_mem hy
   have h1:=(Dd hb hy).1
   refine⟨hbes _ h1,fun l hl=>?_⟩
   obtain⟨l0,hl0,rfl⟩:=List.mem_map.1 hl
   exact ZpL ha hb ((hb.nodes k hk).links l0 hl0)
 ·rw[hlen]
  rcases List.mem_append.1 hp with hp | hp
  ·have:=Wc ha hp
   omega
  ·obtain⟨y,hy,rfl⟩:=List.mem_map.1 hp
   exact hbes _ (Wc hb hy)
 ·rcases Zlz hw with h | h
  ·obtain⟨x,hx,rfl⟩:=List.mem_map.1 h
   exact ZpK ha hb (ha.inner x hx)
  ·obtain⟨x,hx,rfl⟩:=List.mem_map.1 h
   exact ZpL ha hb (hb.inner x hx)
theorem Wn(sig:List TControl)(a b:TBigraph)(hn:sig.length<=4294967296)(hbs:∀ y∈sig,Zo 4294967296 y)(hba:Zp 4294967296 a)(hbb:Zp 4294967296 b)(fa:ZB a)(fb:ZB b)(lvl:Nat)(S:Sto):Sem Go.Proofs.Tryz.prog Yx lvl [.tr (.sl (sig.map Zh)),.ag ((Zc a).map .tr),.ag ((Zc b).map .tr)] S (.tu [Zg (VN sig a b),iB (VO sig a b)]) S:=by
 refine Zb Zcs (by simp [Zg,low,men,Zj]) ?_
 simp only[Ui,Zc,EVA,seval,Zj,men]
 have q:=Q5 sig a b hn hbs hba hbb fa fb
 unfold YE YF at q
 simp only[Zc,List.map_cons,List.map_nil] at q
 unfold VN VO
 by_cases hq:Uv sig a b
 ·rw[if_pos hq,ZN hq] at q
  rw[if_pos hq,ZN hq]
  refine Za q ?_
  have qm:=ZgJ (ZdY a b) (ZmO hq.1 hq.2.1)
  simp only[Zc,List.map_cons,List.map_nil] at qm
  simp only[Zg,Q1,List.length_map,EVA,seval,Zj,men]
  refine Za qm ?_
  simp only[Zg,List.length_map,EVA,seval]
  try rfl
 ·rw[if_neg hq,Zi hq] at q
  rw[if_neg hq,Zi hq]
  refine Za q ?_
  simp only[Zg,List.length_map,EVA,seval]
  try rfl
end Go.Fd

/-
  EACH NUMBER ONCE. Own work.
-/
namespace Go.Fd
set_option maxRecDepth 20000
def ZbR(n:Nat)(l:List Int):Prop:=l.length=n/\∀ i:Nat,i<n->(i:Int)∈l
theorem Zru:Ords (fun a b:Int=>a<b):=⟨fun a=>Int.lt_irrefl a,fun a b c=>Int.lt_trans,fun a b=>Int.lt_trichotomy a b⟩
theorem upto_mem{n:Nat}{x:Int}:x∈WI n↔0<=x/\x<n:=by
 unfold WI
 rw[List.mem_map]
 constructor
 ·rintro⟨i,hi,rfl⟩
  have:=List.mem_range.1 hi
  omega
 ·rintro⟨h1,h2⟩
  exact⟨x.toNat,List.mem_range.2 (by omega),by omega⟩
theorem upto_pw{n:Nat}:(WI n).Pairwise (fun a b=>a<b):=by
 unfold WI
 rw[List.pairwise_map]
 exact List.pairwise_lt_range.imp fun h=>by omega
theorem Zny{n:Nat}:(WI n).Nodup:=upto_pw.imp fun h e=>by omega
theorem ZmR:∀{x y:List Int},x.Nodup->(∀ c∈x,c∈y)->x.length<=y.length/\(y.length<=x.length->x.Perm y)
 | [],y,_,_=>⟨Nat.zero_le _,fun h=>by rw[List.length_eq_zero_iff.1 (Nat.le_zero.1 h)]⟩
 | a::r,y,hd,hs=>by
  have hc:=List.nodup_cons.1 hd
  have ha:a∈y:=hs a (by simp)
  have hp:=List.perm_cons_erase ha
  obtain⟨h1,h2⟩:=ZmR (x:=r) (y:=y.erase a) hc.2 fun c hcr=>(List.mem_erase_of_ne (fun e=>hc.1 (by rw[<-e];exact hcr))).2 (hs c (by simp [hcr]))
  have hl:=hp.length_eq
  simp only[List.length_cons] at hl ⊢
  exact⟨by omega,fun h=>((h2 (by omega)).cons a).trans hp.symm⟩
theorem ordOK_perm{n:Nat}{l:List Int}:ZbR n l↔l.Perm (WI n):=by
 constructor
 ·rintro⟨h1,h2⟩
  refine((ZmR (x:=WI n) (y:=l) Zny fun x hx=>?_).2 (by rw[h1,Y9];exact Nat.le_refl _)).symm
  have:=upto_mem.1 hx
  have h3:=h2 x.toNat (by omega)
  rwa [show ((x.toNat:Nat):Int)=x by omega] at h3
 ·intro h
  refine⟨by rw[h.length_eq,Y9],fun i hi=>h.mem_iff.2 (upto_mem.2 (by omega))⟩
theorem ZpM{n:Nat}{l:List Int}:ZbR n l↔Zlp (fun a b:Int=>a<b) l=WI n:=by
 rw[ordOK_perm]
 constructor
 ·intro h
  exact Zgt Zru (Zgu Zru) (upto_pw.imp fun h=>by omega) (srtG_perm.trans h)
 ·intro h
  rw[<-h]
  exact srtG_perm.symm
theorem Zkw{n:Nat}{l:List Int}(h:ZbR n l){x:Int}(hx:x∈l):0<=x/\x<n:=upto_mem.1 ((ordOK_perm.1 h).mem_iff.1 hx)
end Go.Fd

/-
  TERMS, IN PLAIN TERMS. Own work.
-/
namespace Go.Fd
set_option maxRecDepth 20000
def Zqi:TBigraph:=⟨1,[],[],0,[],[]⟩
def Zqj:TBigraph:=⟨1,[],[-1],0,[],[]⟩
abbrev Q9:=TBigraph×List Int
def Jz(k:Int):Nat:=if k=4\/k=5 then 2 else if k=3\/k=6\/k=7 then 1 else 0
structure stepOK (sig:List TControl) (s:TTermStep):Prop where
 kind:0<=s.kind_/\s.kind_<=7
 ctl0:s.kind_≠3->s.control=0
 site0:s.kind_≠2->s.site=0
 nms:∀ n∈s.names,Zcv n
 site:s.kind_=2->0<=s.site/\s.site<=3
 ctl:s.kind_=3->0<=s.control/\s.control<=(sig.length:Int)-1
 ports:s.kind_=3->(s.names.length:Int)=Y8 sig s.control
 one:s.kind_=6\/s.kind_=7->s.names.length=1
 non:s.kind_≠3->s.kind_≠6->s.kind_≠7->s.names.length=0
noncomputable def ZdE(s:TTermStep):TBigraph:=⟨1,[⟨s.control,-1,s.names.map fun n=>ixS (Vu s.names) n⟩],[],0,Vu s.names,[]⟩
noncomputable def Zfh(s:TTermStep):TBigraph:=⟨1,[⟨s.control,-1,s.names.map fun n=>ixS (Vu s.names) n⟩],[0],0,Vu s.names,[]⟩
def XU(sig:List TControl)(s:TTermStep)(x:TBigraph):Prop:=x.roots=1/\(QB sig s.control=2->x.nodes=[]/\x.sites=[])/\bigOK sig (DC (Zfh s) x)
noncomputable def adN(b:TBigraph)(n:ByteArray):List ByteArray:=Vu (b.outer++[n])
noncomputable def Zjw(b:TBigraph)(n:ByteArray):TBigraph:=Dk b (Zdr b b.edges (adN b n) fun x=>x) b.edges (adN b n)
def Df(sig:List TControl)(b:TBigraph)(n:ByteArray):Prop:=bigOK sig b/\n ∉ b.outer/\bigOK sig (Zjw b n)
open Classical in
noncomputable def mkR(sig:List TControl)(s:TTermStep)(xs:List Q9):Option Q9 :=
 if s.kind_=0 then some (Jh,[])
 else if s.kind_=1 then some (Zqi,[])
 else if s.kind_=2 then some (Zqj,[s.site])
 else match xs with
 | [x] =>
  if s.kind_=3 then (if XU sig s x.1 then some (DC (Zfh s) x.1,x.2) else none)
  else if s.kind_=6 then (if Q0 sig x.1 (gS s.names 0) then some (XK x.1 (gS s.names 0),x.2) else none)
  else (if Df sig x.1 (gS s.names 0) then some (Zjw x.1 (gS s.names 0),x.2) else none)
 | [x,y]=>if Uv sig x.1 y.1 then some (if s.kind_=4 then ZhX x.1 y.1 else ZdY x.1 y.1,x.2++y.2) else none
 | _=>none
structure partOK (sig:List TControl) (x:Q9):Prop where
 big:bigOK sig x.1
 inn:x.1.inner=[]
 len:x.2.length=x.1.sites.length
 num:∀ k∈x.2,0<=k/\k<=3
abbrev Stk:=List Q9×Nat
open Classical in
noncomputable def stT(sig:List TControl)(z:Stk)(s:TTermStep):Option Stk :=
 if stepOK sig s/\Jz s.kind_<=z.1.length then
  match mkR sig s (z.1.drop (z.1.length-Jz s.kind_)) with
  | some x=>some (z.1.take (z.1.length-Jz s.kind_)++[x],max z.2 (z.1.length-Jz s.kind_+1))
  | none=>none
 else none
noncomputable def Ze1(sig:List TControl)(t:List TTermStep):Option Stk:=t.foldlM (stT sig) ([],0)
theorem ZpN{sig:List TControl}:Ze1 sig []=some ([],0):=rfl
theorem ZgK{sig:List TControl}{t:List TTermStep}{j:Nat}(h:j<t.length):Ze1 sig (t.take (j+1))=(Ze1 sig (t.take j)).bind fun z=>stT sig z t[j]:=by
 unfold Ze1
 rw[List.take_succ_eq_append_getElem h,List.foldlM_append]
 cases List.foldlM (stT sig) (([],0):Stk) (t.take j) with
 | none=>rfl
 | some z =>
  show List.foldlM (stT sig) z [t[j]]=_
  simp
theorem Zkx{sig:List TControl}{t:List TTermStep}{j:Nat}(h:Ze1 sig (t.take j)=none):Ze1 sig t=none:=by
 have e:t=t.take j++t.drop j:=(List.take_append_drop j t).symm
 rw[e]
 unfold Ze1 at *
 rw[List.foldlM_append,h]
 rfl
theorem ZmS{sig:List TControl}{z:Stk}{s:TTermStep}{x:Q9}(h:stepOK sig s)(hn:Jz s.kind_<=z.1.length)(hx:mkR sig s (z.1.drop (z.1.length-Jz s.kind_))=some x):stT sig z s=some (z.1.take (z.1.length-Jz s.kind_)++[x],max z.2 (z.1.length-Jz s.kind_+1)):=by
 unfold stT
 rw[if_pos ⟨h,hn⟩,hx]
theorem Zjh{sig:List TControl}{z:Stk}{s:TTermStep}(h:¬ (stepOK sig s/\Jz s.kind_<=z.1.length)):stT sig z s=none:=by
 unfold stT
 rw[if_neg h]
theorem ZmT{sig:List TControl}{z:Stk}{s:TTermStep}(hx:mkR sig s (z.1.drop (z.1.length-Jz s.kind_))=none):stT sig z s=none:=by
 unfold stT
 split
 ·rw[hx]
 ·rfl
theorem Znz{l:List ByteArray}(hp:l.Pairwise ltS)(hn:∀ n∈l,Zcv n)(hl:l.length<=16):VM l:=by
 refine⟨fun i h=>⟨hn _ (List.getElem_mem h),fun h0=>?_⟩,hl⟩
 exact List.pairwise_iff_getElem.1 hp (i-1) i (by omega) h (by omega)
theorem ZpO{sig:List TControl}(h:YI sig){x:TControl}(hx:x∈sig):Zq7 x:=by
 obtain⟨i,hi,rfl⟩:=List.getElem_of_mem hx
 exact(h.1 i hi).1
theorem Zji{sig:List TControl}(h:YI sig){c:Int}:Y8 sig c<=3:=by
 unfold Y8
 cases hc:sig[c.toNat]? with
 | none=>simp
 | some x =>
  have hx:x∈sig:=List.mem_of_getElem? hc
  have:=(ZpO h hx).2.1
  simp only[Option.map_some,Option.getD_some]
  omega
theorem Zky{sig:List TControl}{s:TTermStep}(hs:YI sig)(h:stepOK sig s)(h3:s.kind_=3):VM (Vu s.names):=by
 refine Znz Zjg (fun n hn=>h.nms n (setS_mem.1 hn)) ?_
 have h1:=ZbH (l:=s.names)
 have h2:=h.ports h3
 have h4:=Zji hs (c:=s.control)
 omega
theorem Zkz{sig:List TControl}{s:TTermStep}(h:stepOK sig s)(h3:s.kind_=3){b:TBigraph}(hr:b.roots=1)(he:b.edges=0)(ho:b.outer=Vu s.names):nodeOK sig b ⟨s.control,-1,s.names.map fun n=>ixS (Vu s.names) n⟩ 0:=by
 refine⟨h.ctl h3,.inl ⟨by show (-1:Int)<0;omega,by show -b.roots <= -1;omega⟩,by rw[<-h.ports h3,List.length_map],fun l hl=>?_⟩
 obtain⟨n,hn,rfl⟩:=List.mem_map.1 hl
 have hm:=setS_mem.2 hn
 have h1:=ixS_nn.2 hm
 have h2:=ZmA hm
 unfold ZX
 rw[he,ho]
 omega
theorem Zua{sig:List TControl}{s:TTermStep}(hs:YI sig)(h:stepOK sig s)(h3:s.kind_=3):bigOK sig (ZdE s):=by
 refine⟨hs,by show (0:Int)<=1/\(1:Int)<=4;omega,by show 1<=8;omega,by show 0<=4;omega,by show (0:Int)<=0/\(0:Int)<=8;omega,Zky hs h h3,?_,fun i hi=>?_,fun p hp=>?_,fun w hw=>?_⟩
 ·exact⟨fun i hi=>by simp [inn,ZdE] at hi,by simp [inn,ZdE]⟩
 ·have hi2:i<1:=hi
  have:i=0:=by omega
  subst this
  exact Zkz h h3 rfl rfl rfl
 ·simp [ZdE] at hp
 ·simp [ZdE] at hw
theorem ZpP{sig:List TControl}{s:TTermStep}(hs:YI sig)(h:stepOK sig s)(h3:s.kind_=3)(hk:¬ QB sig s.control=2):bigOK sig (Zfh s):=by
 refine⟨hs,by show (0:Int)<=1/\(1:Int)<=4;omega,by show 1<=8;omega,by show 1<=4;omega,by show (0:Int)<=0/\(0:Int)<=8;omega,Zky hs h h3,?_,fun i hi=>?_,fun p hp=>?_,fun w hw=>?_⟩
 ·exact⟨fun i hi=>by simp [inn,Zfh] at hi,by simp [inn,Zfh]⟩
 ·have hi2:i<1:=hi
  have:i=0:=by omega
  subst this
  exact Zkz h h3 rfl rfl rfl
 ·have hp2:p=0:=by simpa [Zfh] using hp
  subst hp2
  refine .inr ⟨by omega,by show (0:Int)<((1:Nat):Int);omega,?_⟩
  show ¬ QB sig (Zhl (Zfh s) 0)=2
  have e:Zhl (Zfh s) 0=s.control:=rfl
  rw[e]
  exact hk
 ·simp [Zfh] at hw
theorem Zjj{sig:List TControl}(hs:YI sig){b:TBigraph}(hr:0<=b.roots/\b.roots<=4)(hn:b.nodes=[])(he:b.edges=0)(ho:b.outer=[])(hi:b.inner=[])(hp:∀ p∈b.sites,p<0/\-b.roots<=p)(hl:b.sites.length<=4):bigOK sig b:=by
 refine⟨hs,hr,by rw[hn];simp,hl,by rw[he];omega,?_,?_,fun i h=>by rw[hn] at h;simp at h,fun p h=>.inl (hp p h),fun w h=>by rw[hi] at h;simp at h⟩
 ·rw[ho];exact⟨fun i h=>by simp at h,by simp⟩
 ·unfold inn
  rw[hi];exact⟨fun i h=>by simp at h,by simp⟩
theorem ZpQ{sig:List TControl}(hs:YI sig):bigOK sig Jh:=Zjj hs (by show (0:Int)<=0/\(0:Int)<=4;omega) rfl rfl rfl rfl (fun p hp=>by simp [Jh] at hp) (by simp [Jh])
theorem Zub{sig:List TControl}(hs:YI sig):bigOK sig Zqi:=Zjj hs (by show (0:Int)<=1/\(1:Int)<=4;omega) rfl rfl rfl rfl (fun p hp=>by simp [Zqi] at hp) (by simp [Zqi])
theorem Zuc{sig:List TControl}(hs:YI sig):bigOK sig Zqj:=Zjj hs (by show (0:Int)<=1/\(1:Int)<=4;omega) rfl rfl rfl rfl (fun p hp=>by
 have:p = -1:=by simpa [Zqj] using hp
 subst this
 exact⟨by omega,by show -(1:Int) <= -1;omega⟩) (by simp [Zqj])
theorem ZpR{a b:TBigraph}(ha:a.inner=[])(hb:b.inner=[]):(ZdY a b).inner=[]:=by
 show De (a.inner.map _) (b.inner.map _)=[]
 rw[ha,hb]
 rfl
theorem Zud{s:TTermStep}{x:TBigraph}(hr:x.roots=1)(hn:x.nodes=[])(hs:x.sites=[])(hi:x.inner=[]):ZhX (ZdE s) x=DC (Zfh s) x:=by
 obtain⟨r,ns,ss,e,o,i⟩:=x
 simp only at hr hn hs hi
 subst hr hn hs hi
 rfl
theorem ZxA{sig:List TControl}(hs:YI sig){s:TTermStep}(h:stepOK sig s){xs:List Q9}(hx:∀ x∈xs,partOK sig x){y:Q9}(hy:mkR sig s xs=some y):partOK sig y:=by
 unfold mkR at hy
 split at hy
 ·cases hy;exact⟨ZpQ hs,rfl,rfl,fun k hk=>by simp at hk⟩
 split at hy
 ·cases hy;exact⟨Zub hs,rfl,rfl,fun k hk=>by simp at hk⟩
 split at hy
 ·rename_i h2
  cases hy
  refine⟨Zuc hs,rfl,rfl,fun k hk=>?_⟩
  have:k=s.site:=by simpa using hk
  subst this
  exact h.site h2
 split at hy
 ·rename_i x
  have hx0:=hx x (by simp)
  split at hy
  ·split at hy
   ·rename_i hA
    cases hy
    refine⟨hA.2.2,?_,?_,hx0.num⟩
    ·show (x.1.inner.map _)=[]
     rw[hx0.inn]
     rfl
    ·rw[hx0.len]
     show _=([]++x.1.sites.map _).length
     simp
   ·cases hy
  split at hy
  ·split at hy
   ·rename_i hA
    cases hy
    refine⟨hA.2.2,?_,?_,hx0.num⟩
    ·show (x.1.inner.map _)=[]
     rw[hx0.inn]
     rfl
    ·exact hx0.len
   ·cases hy
  ·split at hy
   ·rename_i hA
    cases hy
    refine⟨hA.2.2,?_,?_,hx0.num⟩
    ·show (x.1.inner.map _)=[]
     rw[hx0.inn]
     rfl
    ·exact hx0.len
   ·cases hy
 ·rename_i x z
  have hx0:=hx x (by simp)
  have hx1:=hx z (by simp)
  split at hy
  ·rename_i hA
   cases hy
   have hlen:(x.2++z.2).length=(ZdY x.1 z.1).sites.length:=by
    show _=(x.1.sites++z.1.sites.map _).length
    simp only[List.length_append,List.length_map,hx0.len,hx1.len]
   have hnum:∀ k∈x.2++z.2,0<=k/\k<=3:=fun k hk=>by
    rcases List.mem_append.1 hk with hk | hk
    ·exact hx0.num k hk
    ·exact hx1.num k hk
   split
   ·refine⟨((ZpE (Zes hA.1 hA.2.1)).2 hA.2.2.2).1,ZpR hx0.inn hx1.inn,?_,hnum⟩
    rw[hlen]
    show _=((ZdY x.1 z.1).sites.map ZkQ).length
    rw[List.length_map]
   ·exact⟨hA.2.2.2,ZpR hx0.inn hx1.inn,hlen,hnum⟩
  ·cases hy
 ·cases hy
theorem ZxB{sig:List TControl}(hs:YI sig){s:TTermStep}{z z':Stk}(hx:∀ x∈z.1,partOK sig x)(h:stT sig z s=some z'):(∀ x∈z'.1,partOK sig x)/\z'.1.length<=z.1.length+1/\z'.2<=max z.2 (z.1.length+1)/\z'.1.length<=z'.2:=by
 unfold stT at h
 split at h
 ·rename_i hA
  split at h
  ·rename_i y hy
   cases h
   refine⟨fun x hx2=>?_,?_,?_,?_⟩
   ·rcases List.mem_append.1 hx2 with q | q
    ·exact hx x (List.mem_of_mem_take q)
    ·rw[List.mem_singleton.1 q]
     exact ZxA hs hA.1 (fun x hx3=>hx x (List.mem_of_mem_drop hx3)) hy
   ·simp only[List.length_append,List.length_take,List.length_cons,List.length_nil]
    omega
   ·show max z.2 _<=_
    omega
   ·simp only[List.length_append,List.length_take,List.length_cons,List.length_nil]
    omega
  ·cases h
 ·cases h
theorem Zeu{sig:List TControl}(hs:YI sig){t:List TTermStep}:∀{j:Nat} {z:Stk},j<=t.length->Ze1 sig (t.take j)=some z->(∀ x∈z.1,partOK sig x)/\z.1.length<=j/\z.2<=j/\z.1.length<=z.2
 | 0,z,_,h=>by
  rw[List.take_zero,ZpN] at h
  cases h
  exact⟨fun x hx=>by simp at hx,Nat.le_refl _,Nat.le_refl _,Nat.le_refl _⟩
 | j+1,z,hj,h=>by
  rw[ZgK (by omega)] at h
  cases hp:Ze1 sig (t.take j) with
  | none=>rw[hp] at h;cases h
  | some z0 =>
   rw[hp] at h
   obtain⟨a1,a2,a3,a4⟩:=Zeu hs (j:=j) (by omega) hp
   obtain⟨b1,b2,b3,b4⟩:=ZxB hs a1 h
   exact⟨b1,by omega,by omega,b4⟩
def Zhs(l v ini:List Int):Nat->List Int
 | 0=>ini
 | j+1=>(Zhs l v ini j).set (g0 l j).toNat (g0 v j)
theorem XL{l v ini:List Int}:∀{j:Nat},(Zhs l v ini j).length=ini.length
 | 0=>rfl
 | j+1=>by rw[Zhs,List.length_set,XL]
theorem ZmU{l v ini:List Int}(hv:l.length<=v.length):∀{j:Nat},j<=l.length->∀ p∈Zhs l v ini j,p∈ini\/p∈v
 | 0,_,p,hp=>.inl hp
 | j+1,hj,p,hp=>by
  rw[Zhs] at hp
  rcases List.mem_or_eq_of_mem_set hp with q | q
  ·exact ZmU hv (by omega) p q
  ·right
   have hjv:j<v.length:=by omega
   have:g0 v j=v[j]:=by simp [hjv]
   rw[q,this]
   exact List.getElem_mem hjv
theorem ZkA{l v a b:List Int}(hl:a.length=b.length):∀{j:Nat},j<=l.length->∀ i:Nat,i<a.length->(∃ k,k<j/\(g0 l k).toNat=i)->(Zhs l v a j)[i]? = (Zhs l v b j)[i]?
 | 0,_,i,_,h=>by obtain⟨k,hk,_⟩:=h;omega
 | j+1,hj,i,hi,h=>by
  have la:=XL (l:=l) (v:=v) (ini:=a) (j:=j)
  have lb:=XL (l:=l) (v:=v) (ini:=b) (j:=j)
  rw[Zhs,Zhs,List.getElem?_set,List.getElem?_set,la,lb,hl]
  by_cases e:(g0 l j).toNat=i
  ·rw[if_pos e,if_pos e]
  ·rw[if_neg e,if_neg e]
   obtain⟨k,hk,hke⟩:=h
   refine ZkA hl (by omega) i hi ⟨k,?_,hke⟩
   by_cases q:k=j
   ·subst q;exact absurd hke e
   ·omega
theorem Zrv{l v a b:List Int}{n:Nat}(ho:ZbR n l)(ha:a.length=n)(hb:b.length=n):Zhs l v a n=Zhs l v b n:=by
 refine List.ext_getElem? fun i=>?_
 by_cases hi:i<n
 ·refine ZkA (by omega) (by rw[ho.1];omega) i (by omega) ?_
  obtain⟨k,hk,e⟩:=List.getElem_of_mem (ho.2 i hi)
  refine⟨k,by rw[<-ho.1];exact hk,?_⟩
  have:g0 l k=l[k]:=by simp [hk]
  rw[this,e]
  omega
 ·rw[List.getElem?_eq_none (by rw[XL];omega),List.getElem?_eq_none (by rw[XL];omega)]
def ZmV(x:Q9):TBigraph:=⟨x.1.roots,x.1.nodes,Zhs x.2 x.1.sites x.1.sites x.2.length,x.1.edges,x.1.outer,x.1.inner⟩
theorem ZpS{sig:List TControl}{x:Q9}(h:partOK sig x):bigOK sig (ZmV x):=by
 have g:=h.big
 have hl:(ZmV x).sites.length=x.1.sites.length:=XL
 refine⟨g.sg,g.roots,g.nodesL,by rw[hl];exact g.sitesL,g.edges,g.outer,g.inn,fun i hi=>⟨(g.nodes i hi).ctl,(g.nodes i hi).par,(g.nodes i hi).ports,(g.nodes i hi).links⟩,fun p hp=>?_,g.inner⟩
 rcases ZmU (by rw[h.len];exact Nat.le_refl _) (Nat.le_refl _) p hp with q | q
 ·exact g.sites p q
 ·exact g.sites p q
open Classical in
noncomputable def ZcB(sig:List TControl)(t:List TTermStep):Option TBigraph :=
 if YI sig/\t.length<=60 then
  match Ze1 sig t with
  | some ([x],_)=>if ZbR x.2.length x.2 then some (ZmV x) else none
  | _=>none
 else none
theorem Zrw{sig:List TControl}{t:List TTermStep}{b:TBigraph}(h:ZcB sig t=some b):bigOK sig b:=by
 unfold ZcB at h
 split at h
 ·rename_i hA
  split at h
  ·rename_i x m hr
   have:=(Zeu hA.1 (j:=t.length) (Nat.le_refl _) (by rw[List.take_length];exact hr)).1 x (by simp)
   split at h
   ·cases h;exact ZpS this
   ·cases h
  ·cases h
 ·cases h
noncomputable def ZBR(sig:List TControl)(t:List TTermStep):TBigraph:=(ZcB sig t).getD Jh
noncomputable def ZS(sig:List TControl)(t:List TTermStep):TBigraph:=ZBR sig t
noncomputable def UT(sig:List TControl)(t:List TTermStep):Bool:=(ZcB sig t).isSome
end Go.Fd

/-
  ONE MORE NAME, BOTH SIDES. Own work.
-/
namespace Go.Fd
set_option maxRecDepth 20000
theorem Zjk{b:TBigraph}{s:ByteArray}:(adN b s).length<=b.outer.length+1:=Nat.le_trans ZbH (by simp)
theorem Zrx{sig:List TControl}{b:TBigraph}{s:ByteArray}(h:bigOK sig b){l:Int}(hl:ZX b l):0<=Zdr b b.edges (adN b s) (fun x=>x) l/\Zdr b b.edges (adN b s) (fun x=>x) l<=100:=by
 have he:=h.edges
 have h4:=h.small.outer
 have ho:=Zjk (b:=b) (s:=s)
 rw[Zxu h hl]
 unfold ZmD
 rcases Yb hl with ⟨h0,h1⟩ | ⟨i,hi,rfl⟩
 ·rw[Zcj h0 h1];omega
 ·rw[Zck he.1 hi]
  have x2:=ZeW (l:=adN b s) (s:=b.outer[i])
  have x4:0<=ixS (adN b s) b.outer[i]:=ixS_nn.2 (setS_mem.2 (by simp))
  omega
theorem ZxC{sig:List TControl}{b:TBigraph}{s:ByteArray}(h:bigOK sig (Zjw b s)):Zcv s:=by
 have hm:s∈(Zjw b s).outer:=setS_mem.2 (by simp)
 obtain⟨i,hi,e⟩:=List.getElem_of_mem hm
 have:=(h.outer.1 i hi).1
 rwa [e] at this
theorem ZxD{sig:List TControl}{b:TBigraph}{s:ByteArray}(h:bigOK sig b)(hs:s.size<=4294967290):Zp 4294967290 (Zjw b s) :=
 Zlt h (Qh (by omega) (QM h)) (Nat.le_trans Zjk (by have:=h.outer.2;omega)) fun y hy=>by
  rcases List.mem_append.1 (setS_mem.1 hy) with hy | hy
  ·have:=Yq h.outer hy
   omega
  ·rw[List.mem_singleton.1 hy];exact hs
theorem ZpT{sig:List TControl}{b:TBigraph}{s:ByteArray}(h:bigOK sig b)(hs:s.size<=4294967296):Zp 4294967296 (Zjw b s) :=
 Zrm h (Nat.le_trans Zjk (by have:=h.outer.2;omega)) fun y hy=>by
  rcases List.mem_append.1 (setS_mem.1 hy) with hy | hy
  ·have:=Yq h.outer hy
   omega
  ·rw[List.mem_singleton.1 hy];exact hs
theorem ZpU{sig:List TControl}{b:TBigraph}{s:ByteArray}(h:bigOK sig b)(hf:ZB b):ZB (Zjw b s) :=
 Zo8 h hf (fun l hl=>Zrx h hl) (by have:=h.edges;rw[Zd];omega)
theorem Zue{sig:List TControl}{b:TBigraph}{s:ByteArray}(h:bigOK sig b):Dk b (Zqh b b.outer (adN b s)) b.edges (adN b s)=Zjw b s:=by
 refine ZhS h fun l hl=>?_
 have he:=h.edges
 rw[Zxu h hl]
 unfold ZmD
 rcases Yb hl with ⟨h0,h1⟩ | ⟨i,hi,rfl⟩
 ·rw[Zcj h0 h1,Zqh,if_neg (by omega)]
 ·rw[Zck he.1 hi,Zqh,if_pos (by omega),show b.edges+(i:Int)-b.edges=i by omega,Int.toNat_natCast,show gS b.outer i=b.outer[i] from UC hi]
theorem Zry(e:Int×ByteArray)(lvl:Nat)(S:Sto):Sem Go.Proofs.Tryz.prog WO lvl [oE e] S (oE e) S:=by
 refine Zb Zll (by simp [low,men,Zj]) ?_
 simp only[Zgf,EVA,seval]
noncomputable def ZxY(sig:List TControl)(b:TBigraph)(s:ByteArray):TBigraph:=@ite _ (Df sig b s) (Classical.propDecidable _) (Zjw b s) Jh
theorem ZlC(sig:List TControl)(b:TBigraph)(s:ByteArray)(hn:sig.length<=4294967296)(hbs:∀ y∈sig,Zo 4294967296 y)(hb:Zp 4294967296 b)(hs:s.size<=4294967296)(hf:ZB b)(lvl:Nat)(S:Sto):Sem Go.Proofs.Tryz.prog Wx lvl [.tr (.sl (sig.map Zh)),.ag ((Zc b).map .tr),iS s] S (.tu [Zg (ZxY sig b s),iB (dc (Df sig b s))]) S:=by
 refine Zb Zg6 (by simp [Zg,low,men,Zj]) ?_
 simp only[Zb4,Zc,EVA,seval,Zj,men]
 refine Za (Jy sig b hn hbs hb) ?_
 unfold ZxY
 cases h1:dc (bigOK sig b)
 ·have hno:¬ Df sig b s:=fun g=>dc_not.1 h1 g.1
  rw[if_neg hno,Zi hno]
  simp only[EVA,seval]
  rfl
 have hG:=dc_iff.1 h1
 have hE:=hG.edges
 have h4:=hG.small.outer
 simp only[EVA,seval,Zj,men]
 refine Za (Dz s (by omega)) ?_
 cases h3:dc (Zcv s)
 ·have hno:¬ Df sig b s:=fun g=>dc_not.1 h3 (ZxC g.2.2)
  rw[if_neg hno,Zi hno]
  simp only[EVA,seval]
  rfl
 have hnm:=dc_iff.1 h3
 simp only[EVA,seval,Zj,men]
 refine Za (Zah b.outer s (by have:=hb.2.2.2.1;omega)) ?_
 cases h5:dc (s∈b.outer)
 ·have hM:=dc_not.1 h5
  simp only[EVA,seval,Zj,men]
  refine Za (ZbF b.outer (by omega)) ?_
  simp only[List.length_map,EVA,seval,Zj,men]
  have q:=UR b b.edges (b.outer++[s]) WO [] (fun x=>x) hE.1 (Qh (by omega) (QM hG)) (by omega) (by omega) (by rw[List.length_append];simp only[List.length_cons,List.length_nil];omega) (fun x hx l hl=>by
   obtain⟨i,hi,rfl⟩:=List.getElem_of_mem hx
   exact(hG.nodes i hi).links l hl) hG.inner (fun l hl lvl S=>Zry (ZfF b l) lvl S)
  rw[show Vu (b.outer++[s])=adN b s from rfl,show Dk b (Zdr b b.edges (adN b s) fun x=>x) b.edges (adN b s)=Zjw b s from rfl] at q
  rw[show cut (rS b.outer++[[Tr.v (Value.string s)]]) 0 (b.outer.length+1)=rS (b.outer++[s]) from by
   rw[Yn (by simp [rS])]
   simp [rS]]
  simp only[Zc,List.map_cons,List.map_nil] at q
  refine⟨by omega,by simp [rS],Za q ?_⟩
  simp only[Zg,EVA,seval,Zj,men]
  have qv:=Zdx sig (Zjw b s) hn hbs (ZxD hG (by have:=hnm.2.2;omega)) (ZpU hG hf)
  simp only[Zc,List.map_cons,List.map_nil] at qv
  refine Za qv ?_
  cases h6:dc (bigOK sig (Zjw b s))
  ·have hno:¬ Df sig b s:=fun g=>dc_not.1 h6 g.2.2
   rw[if_neg hno,Zi hno,if_neg (dc_not.1 h6)]
   simp only[Zg,EVA,seval]
   rfl
  ·have hyes:Df sig b s:=⟨hG,hM,dc_iff.1 h6⟩
   rw[if_pos hyes,ZN hyes,if_pos (dc_iff.1 h6)]
   simp only[Zg,List.length_map,EVA,seval]
 ·have hno:¬ Df sig b s:=fun g=>g.2.1 (dc_iff.1 h5)
  rw[if_neg hno,Zi hno]
  simp only[EVA,seval]
  rfl
theorem Zfi(sig:List TControl)(b:TBigraph)(s:ByteArray)(hn:sig.length<=4294967296)(hbs:∀ y∈sig,Zo 4294967296 y)(hb:Zp 4294967296 b)(hs:s.size<=4294967296)(hf:ZB b)(lvl:Nat)(S:Sto):Sem Go.Proofs.Tryz.prog Wz lvl [.tr (.sl (sig.map Zh)),.ag ((Zc b).map .tr),iS s] S (.tu [@ite IV (Df sig b s) (Classical.propDecidable _) (.ag ((Zc (Zjw b s)).map .tr)) (Zg Jh),iB (dc (Df sig b s))]) S:=by
 refine Zb Zhb (by split <;> simp [Zg,Zc,low,men,Zj]) ?_
 simp only[Zb9,Zc,EVA,seval,Zj,men]
 have q:=X2 sig b hn hbs hb hf
 simp only[Zc,List.map_cons,List.map_nil] at q
 refine Za q ?_
 cases h1:dc (bigOK sig b)
 ·have hno:¬ Df sig b s:=fun g=>dc_not.1 h1 g.1
  rw[if_neg hno,Zi hno]
  simp only[EVA,seval]
  rfl
 have hG:=dc_iff.1 h1
 have hE:=hG.edges
 have h4:=hG.small.outer
 simp only[EVA,seval,Zj,men]
 refine Za (Zae b.outer s (by omega)) ?_
 by_cases hM:s∈b.outer
 ·have hno:¬ Df sig b s:=fun g=>g.2.1 hM
  rw[if_neg hno,Zi hno]
  have e:=ixS_nn.2 hM
  simp only[e,EVA,seval]
  rfl
 have e:=Zmz hM
 have hol:=Zjk (b:=b) (s:=s)
 simp only[e,Zo3,Zo4,Nat.zero_max,List.length_map,EVA,seval,Zj,men]
 rw[show cut (rS b.outer++[[Tr.v (Value.string s)]]) 0 (b.outer.length+1)=rS (b.outer++[s]) from by
  rw[Yn (by simp [rS])]
  simp [rS]]
 refine⟨by omega,by omega,by simp [rS],Za (US (b.outer++[s]) (by rw[List.length_append];simp only[List.length_cons,List.length_nil];omega)) ?_⟩
 rw[show Vu (b.outer++[s])=adN b s from rfl]
 simp only[EVA,seval,Zj,men]
 have qR:=Zkq sig b hG b.outer (adN b s) rfl (by omega)
 rw[Zue hG] at qR
 simp only[Zc,List.map_cons,List.map_nil] at qR
 refine Za qR ?_
 simp only[Zg,EVA,seval,Zj,men]
 by_cases hq:bigOK sig (Zjw b s)
 ·have qG:=ZeX sig (Zjw b s) hn hbs (ZpT hG hs) (ZpU hG hf) hq
  simp only[Zc,List.map_cons,List.map_nil] at qG
  have hyes:Df sig b s:=⟨hG,hM,hq⟩
  rw[if_pos hyes,ZN hyes]
  refine Za qG ?_
  simp only[EVA,seval]
 ·have qG:=ZeY sig (Zjw b s) hn hbs (ZpT hG hs) (ZpU hG hf) hq
  simp only[Zc,List.map_cons,List.map_nil] at qG
  have hno:¬ Df sig b s:=fun g=>hq g.2.2
  rw[if_neg hno,Zi hno]
  refine Za qG ?_
  simp only[Zg,List.length_map,EVA,seval]
  try rfl
end Go.Fd

/-
  STEPS OF TERMS: WHICH ARE RIGHT, BOTH SIDES. Own work.
-/
namespace Go.Fd
set_option maxRecDepth 20000
theorem ZkB(s:ByteArray)(hs:s.size<=4294967296)(lvl:Nat)(S:Sto):Sem Go.Proofs.Tryz.prog VX lvl [iS s] S (iB (!dc (Zcv s))) S:=by
 refine Zb Zga trivial ?_
 simp only[Za3,EVA,seval,Zj,men]
 refine Za (Dz s (by omega)) ?_
 simp only[EVA,seval]
theorem Ze2{fe:FuncId}(ns:List ByteArray)(hl:ns.length<=4294967296)(hf:∀ n∈ns,∀(lvl:Nat) (S:Sto),Sem Go.Proofs.Tryz.prog fe lvl [iS n] S (iB (!dc (Zcv n))) S)(lvl:Nat)(S:Sto):Sem Go.Proofs.Tryz.prog ZC lvl [.tr (.sl (rS ns)),.fn fe []] S (iB (!dc (∀ n∈ns,Zcv n))) S:=by
 have q:=ZfD (P:=Go.Proofs.Tryz.prog) Zsm ZpA (t:=fun n:ByteArray=>ts n) (f:=fun s=>!dc (Zcv s)) (fe:=fe) (cs:=[]) ns (by omega) (fun x hx lvl S=>hf x hx lvl S)
 have e:(ns.any fun s=>!dc (Zcv s)) = !dc (∀ n∈ns,Zcv n):=by
  cases h:dc (∀ n∈ns,Zcv n)
  ·have h1:=dc_not.1 h
   have:∃ n∈ns,¬ Zcv n:=Classical.byContradiction fun g=>h1 fun x hx=>Classical.byContradiction fun k=>g ⟨x,hx,k⟩
   obtain⟨n,hn,hb⟩:=this
   simp only[Bool.not_false,List.any_eq_true]
   exact⟨n,hn,by rw[Zi hb];rfl⟩
  ·have h1:=dc_iff.1 h
   simp only[Bool.not_true,List.any_eq_false]
   intro n hn
   rw[ZN (h1 n hn)]
   decide
 rw[e] at q
 exact q lvl S
def plB(a b d:Bool)(c t:Int)(n:Nat):Bool:=(a || decide (c=0))&&(b || decide (t=0))&&(d || decide ((n:Int)=0))
set_option maxHeartbeats 2000000 in
theorem Zai(k c t:Int)(ns:List ByteArray)(a b d:Bool)(lvl:Nat)(S:Sto):Sem Go.Proofs.Tryz.prog ZQ lvl [.ag [iI k,iI c,iI t,.tr (.sl (rS ns))],iB a,iB b,iB d] S (iB (plB a b d c t ns.length)) S:=by
 refine Zb D7 trivial ?_
 by_cases hc:c=0 <;> by_cases ht:t=0 <;> by_cases hn:(ns.length:Int)=0 <;> cases a <;> cases b <;> cases d <;> (simp only[XE,hc,ht,hn,List.length_map,EVA,seval]) <;> simp [plB,hc,ht,hn] <;> exact fun e=>hn (by simp [e])
def ZlD(k:Int):Int:=if k=0\/k=1\/k=2 then 0 else if k=3\/k=6\/k=7 then 1 else if k=4\/k=5 then 2 else -1
theorem ZkC(k c t:Int)(ns:List ByteArray)(lvl:Nat)(S:Sto):Sem Go.Proofs.Tryz.prog Ju lvl [.ag [iI k,iI c,iI t,.tr (.sl (rS ns))]] S (iI (ZlD k)) S:=by
 refine Zb Za1 trivial ?_
 by_cases h0:k=0
 ·subst h0; (simp only[ZD,EVA,seval]) <;> rfl
 by_cases h1:k=1
 ·subst h1; (simp only[ZD,EVA,seval]) <;> rfl
 by_cases h2:k=2
 ·subst h2; (simp only[ZD,EVA,seval]) <;> rfl
 by_cases h3:k=3
 ·subst h3; (simp only[ZD,EVA,seval]) <;> rfl
 by_cases h4:k=4
 ·subst h4; (simp only[ZD,EVA,seval]) <;> rfl
 by_cases h5:k=5
 ·subst h5; (simp only[ZD,EVA,seval]) <;> rfl
 by_cases h6:k=6
 ·subst h6; (simp only[ZD,EVA,seval]) <;> rfl
 by_cases h7:k=7
 ·subst h7; (simp only[ZD,EVA,seval]) <;> rfl
 simp only[ZD,h0,h1,h2,h3,h4,h5,h6,h7,EVA,seval]
 simp [ZlD,h0,h1,h2,h3,h4,h5,h6,h7]
theorem Zrz{sig:List TControl}{s:TTermStep}(h:stepOK sig s):ZlD s.kind_=Jz s.kind_:=by
 have hk:=h.kind
 unfold ZlD Jz
 by_cases h0:s.kind_=0
 ·simp [h0]
 by_cases h1:s.kind_=1
 ·simp [h1]
 by_cases h2:s.kind_=2
 ·simp [h2]
 by_cases h3:s.kind_=3
 ·simp [h3]
 by_cases h4:s.kind_=4
 ·simp [h4]
 by_cases h5:s.kind_=5
 ·simp [h5]
 by_cases h6:s.kind_=6
 ·simp [h6]
 have h7:s.kind_=7:=by omega
 simp [h7]
theorem ZnA(sig:List TControl)(s:TTermStep)(hn:sig.length<=4294967296)(hb:Zv 4294967296 s)(lvl:Nat)(S:Sto):Sem Go.Proofs.Tryz.prog W6 lvl [.tr (.sl (sig.map Zh)),.ag ((Zf s).map .tr)] S (iB (dc (stepOK sig s))) S:=by
 obtain⟨k,c,t,ns⟩:=s
 obtain⟨b1,b2⟩:=hb
 simp only at b1 b2
 have q:=Ze2 (fe:=VX) ns b1 fun n hn lvl S=>ZkB n (b2 n hn) lvl S
 refine Zb ZiK trivial ?_
 simp only[Zc3,Zf,EVA,seval,Zj,men]
 refine Za q ?_
 cases hA:dc (∀ n∈ns,Zcv n)
 ·rw[Zi fun g:stepOK sig ⟨k,c,t,ns⟩=>dc_not.1 hA g.nms]
  simp only[EVA,seval]
 have hnm:=dc_iff.1 hA
 by_cases h2:k=2
 ·subst h2
  simp only[EVA,seval,Zj,men]
  refine Za (Zai 2 c t ns false true false) ?_
  cases hP:plB false true false c t ns.length
  ·have hno:¬ stepOK sig ⟨2,c,t,ns⟩:=fun g=>by
    have e1:c=0:=g.ctl0 (by simp)
    have e2:ns.length=0:=g.non (by simp) (by simp) (by simp)
    rw[show plB false true false c t ns.length=true by simp [plB,e1,e2]] at hP
    cases hP
   rw[Zi hno]
   simp only[EVA,seval]
  ·simp only[plB,Bool.and_eq_true,Bool.or_eq_true,decide_eq_true_eq,Bool.false_eq_true,false_or,true_or,and_true] at hP
   simp only[EVA,seval,Zj,men]
   refine Za (YX t 0 3) ?_
   cases hW:inB t 0 3
   ·rw[Zi fun g:stepOK sig ⟨2,c,t,ns⟩=>inB_not.1 hW (g.site rfl)]
    simp only[EVA,seval]
   ·have hyes:stepOK sig ⟨2,c,t,ns⟩:=⟨by simp,fun _=>hP.1,fun g=>absurd rfl g,hnm,fun _=>inB_iff.1 hW,fun g=>by simp at g,fun g=>by simp at g,fun g=>by simp at g,fun _ _ _=>by have:=hP.2;simp only;omega⟩
    rw[ZN hyes]
    simp only[EVA,seval]
 by_cases h3:k=3
 ·subst h3
  simp only[EVA,seval,Zj,men]
  refine Za (Zai 3 c t ns true false true) ?_
  cases hP:plB true false true c t ns.length
  ·have hno:¬ stepOK sig ⟨3,c,t,ns⟩:=fun g=>by
    have e1:t=0:=g.site0 (by simp)
    rw[show plB true false true c t ns.length=true by simp [plB,e1]] at hP
    cases hP
   rw[Zi hno]
   simp only[EVA,seval]
  ·simp only[plB,Bool.and_eq_true,Bool.or_eq_true,decide_eq_true_eq,Bool.false_eq_true,false_or,true_or,and_true,true_and] at hP
   simp only[List.length_map,EVA,seval,Zj,men]
   refine⟨by rw[Zd];omega,Za (YX c 0 ((sig.length:Int)-1)) ?_⟩
   cases hW:inB c 0 ((sig.length:Int)-1)
   ·rw[Zi fun g:stepOK sig ⟨3,c,t,ns⟩=>inB_not.1 hW (g.ctl rfl)]
    simp only[EVA,seval]
   ·have hw:=inB_iff.1 hW
    obtain⟨m,hm⟩:∃ m:Nat,c=m:=⟨c.toNat,by omega⟩
    have hms:m<sig.length:=by omega
    have gs:=Db (c:=Zh) hms
    have e:Y8 sig c=sig[m].ports:=by simp [Y8,hm,hms]
    simp only[hm,gs,Zh,List.length_map,EVA,seval]
    by_cases hp:(ns.length:Int)=sig[m].ports
    ·have hyes:stepOK sig ⟨3,c,t,ns⟩:=⟨by simp,fun g=>absurd rfl g,fun _=>hP,hnm,fun g=>by simp at g,fun _=>hw,fun _=>by rw[e];exact hp,fun g=>by simp at g,fun g=>absurd rfl g⟩
     rw[<-hm,ZN hyes]
     simp [hp]
    ·have hno:¬ stepOK sig ⟨3,c,t,ns⟩:=fun g=>hp (by rw[<-e];exact g.ports rfl)
     rw[<-hm,Zi hno]
     simp [hp]
 by_cases h67:k=6\/k=7
 ·have key:Sem Go.Proofs.Tryz.prog ZQ lvl [] S (iB true) S->True:=fun _=>trivial
  have hl:plB false false true c t ns.length=true↔c=0/\t=0:=by simp [plB]
  rcases h67 with rfl | rfl
  all_goals
   simp only[EVA,seval,Zj,men]
   refine Za (Zai _ c t ns false false true) ?_
   cases hP:plB false false true c t ns.length
   ·rw[Zi fun g:stepOK sig ⟨_,c,t,ns⟩=>by
     rw[hl.2 ⟨g.ctl0 (by simp),g.site0 (by simp)⟩] at hP
     cases hP]
    simp only[EVA,seval]
   ·have hP:=hl.1 hP
    simp only[List.length_map,EVA,seval]
    by_cases hp:(ns.length:Int)=1
    ·rw[ZN (show stepOK sig ⟨_,c,t,ns⟩ from ⟨by simp,fun _=>hP.1,fun _=>hP.2,hnm,fun g=>by simp at g,fun g=>by simp at g,fun g=>by simp at g,fun _=>by simp only;omega,fun g1 g2 g3=>by simp at g2 g3⟩)]
     simp [hp]
    ·rw[Zi fun g:stepOK sig ⟨_,c,t,ns⟩=>hp (by have:=g.one (by simp);simp only at this;omega)]
     simp [hp]
 have h6:¬ k=6:=fun e=>h67 (.inl e)
 have h7:¬ k=7:=fun e=>h67 (.inr e)
 simp only[h2,h3,h6,h7,EVA,seval,Zj,men]
 refine Za (ZkC k c t ns) ?_
 have hl:plB false false false c t ns.length=true↔c=0/\t=0/\ns.length=0:=by
  simp [plB]
  constructor
  ·rintro⟨⟨a,b⟩,d⟩;exact⟨a,b,by omega⟩
  ·rintro⟨a,b,d⟩;exact⟨⟨a,b⟩,by omega⟩
 by_cases hk:k=0\/k=1\/k=4\/k=5
 ·have hnd:(0:Int)<=ZlD k:=by rcases hk with rfl | rfl | rfl | rfl <;> decide
  simp only[hnd,EVA,seval,Zj,men]
  refine Za (Zai k c t ns false false false) ?_
  cases hP:plB false false false c t ns.length
  ·rw[Zi fun g:stepOK sig ⟨k,c,t,ns⟩=>by
    rw[hl.2 ⟨g.ctl0 h3,g.site0 h2,g.non h3 h6 h7⟩] at hP
    cases hP]
   simp only[EVA,seval]
  ·have hP:=hl.1 hP
   rw[ZN (show stepOK sig ⟨k,c,t,ns⟩ from ⟨by simp only;omega,fun _=>hP.1,fun _=>hP.2.1,hnm,fun g=>absurd g h2,fun g=>absurd g h3,fun g=>absurd g h3,fun g=>g.elim (fun e=>absurd e h6) (fun e=>absurd e h7),fun _ _ _=>hP.2.2⟩)]
   simp only[EVA,seval]
 ·have hnd:¬ (0:Int)<=ZlD k:=by
   unfold ZlD
   rw[if_neg (by omega),if_neg (by omega),if_neg (by omega)]
   decide
  rw[Zi fun g:stepOK sig ⟨k,c,t,ns⟩=>by have:=g.kind;simp only at this;omega]
  simp only[hnd,EVA,seval]
theorem ZlE(l:List ByteArray)(hl:l.length<=4294967296)(hb:∀ y∈l,y.size<=4294967296)(lvl:Nat)(S:Sto):Sem Go.Proofs.Tryz.prog QG lvl [.tr (.sl (rS l))] S (iB (dc (∀ n∈l,Zcv n))) S:=by
 refine Zb Zg5 trivial ?_
 simp only[Zb3,EVA,seval]
 refine ZH (α:=Unit) l.length (fun j _=>[(3,iI j)]) (fun _ _=>[]) (fun j _=>∀ n∈l.take j,Zcv n) () (by simp only[EVA,seval]) (by (simp only[EVA,seval]) <;> rfl) (by simp) ?_
 intro j _ hj hA
 simp only[List.length_map,EVA,seval]
 refine Zk (fun hlt=>?_) (fun hge=>?_)
 ·have hja:j<l.length:=by omega
  have ga:=ZfE (e0:=e0S) (c:=fun n:ByteArray=>[ts n]) hja
  rw[UC hja] at ga
  simp only[ga,EVA,seval,Zj,men]
  refine Za (Zel l[j] (by have:=hb _ (List.getElem_mem hja);omega)) ?_
  cases hm:dc (Zcv l[j])
  ·rw[Zi fun g:∀ n∈l,Zcv n=>dc_not.1 hm (g _ (List.getElem_mem hja))]
   simp only[EVA,seval]
  ·have hm:=dc_iff.1 hm
   simp only[EVA,seval]
   exact⟨by rw[Zd];omega,Ze () hja rfl (by
    intro x hx
    rw[List.take_succ_eq_append_getElem hja] at hx
    rcases List.mem_append.1 hx with hx | hx
    ·exact hA x hx
    ·rw[List.mem_singleton.1 hx];exact hm)⟩
 ·have:j=l.length:=by omega
  subst this
  rw[List.take_length] at hA
  rw[ZN hA]
theorem ZlF(k:Int)(lvl:Nat)(S:Sto):Sem Go.Proofs.Tryz.prog Vd lvl [iI k] S (iI (Jz k:Nat)) S:=by
 refine Zb Zg4 trivial ?_
 by_cases h4:k=4
 ·subst h4; (simp only[YH,EVA,seval]) <;> rfl
 by_cases h5:k=5
 ·subst h5; (simp only[YH,EVA,seval]) <;> rfl
 by_cases h3:k=3
 ·subst h3; (simp only[YH,EVA,seval]) <;> rfl
 by_cases h6:k=6
 ·subst h6; (simp only[YH,EVA,seval]) <;> rfl
 by_cases h7:k=7
 ·subst h7; (simp only[YH,EVA,seval]) <;> rfl
 simp only[YH,h3,h4,h5,h6,h7,EVA,seval]
 simp [Jz,h3,h4,h5,h6,h7]
end Go.Fd

/-
  A NODE AROUND A BIGRAPH, THE PROGRAM'S SIDE. Own work.
-/
namespace Go.Fd
set_option maxRecDepth 20000
theorem ZhY{n:Int}(h:-4294967296<=n/\n<=4294967296):XP .i64 n:=by rw[Zd];omega
theorem Wo{sig:List TControl}{b:TBigraph}(h:bigOK sig b):ZB b:=by
 have hr:=h.roots;have he:=h.edges;have hn:=h.nodesL;have ho:=h.outer.2;have hs:=h.sg.2.2
 have hl:∀ l,ZX b l->XP .i64 l:=fun l hl=>by
  unfold ZX at hl
  exact ZhY (by omega)
 refine⟨ZhY (by omega),fun x hx=>?_,fun p hp=>?_,ZhY (by omega),fun w hw=>hl _ (h.inner w hw)⟩
 ·obtain⟨i,hi,rfl⟩:=List.getElem_of_mem hx
  have q:=h.nodes i hi
  have q1:=q.ctl
  have q2:=Js hr.1 q.par
  have q3:=(Dd h hx).1
  exact⟨ZhY (by omega),ZhY (by omega),fun l hl2=>hl l (q.links l hl2)⟩
 ·have q2:=Js hr.1 (h.sites p hp)
  have q3:=Wc h hp
  exact ZhY (by omega)
theorem DD{sig:List TControl}{b:TBigraph}(h:bigOK sig b):Zp 4294967296 b:=Qh (by omega) (QM h)
theorem ZkD(s:ByteArray)(hs:s.size<=4294967296)(lvl:Nat)(S:Sto):Sem Go.Proofs.Tryz.prog V0 lvl [iS s] S (iB (!dc (Zcv s))) S:=by
 refine Zb Zgj trivial ?_
 simp only[Zbd,EVA,↓reduceIte,Nat.reduceEqDiff,reduceCtorEq,Nat.reduceLeDiff,Nat.reduceLT,Zj,men]
 refine Za (Dz s (by omega)) ?_
 simp only[EVA,↓reduceIte,Nat.reduceEqDiff,Nat.reduceMul,reduceCtorEq,Nat.reduceLT]
theorem ZhZ(sig:List TControl)(s:TTermStep)(hn:sig.length<=4294967296)(hbs:∀ y∈sig,Zo 4294967296 y)(hb:Zv 4294967296 s)(hs:YI sig)(h:stepOK sig s)(h3:s.kind_=3)(lvl:Nat)(S:Sto):Sem Go.Proofs.Tryz.prog XB lvl [.tr (.sl (sig.map Zh)),iI s.control,.tr (.sl (rS s.names))] S (.tu [Zg (ZdE s),iB true]) S:=by
 obtain⟨k,c,t,ns⟩:=s
 obtain⟨b1,b2⟩:=hb
 simp only at b1 b2 h3
 have hw:=h.ctl h3
 have hp:=h.ports h3
 have hnm:=h.nms
 simp only at hw hp hnm
 have hpl:=Zji hs (c:=c)
 obtain⟨m,hm⟩:∃ m:Nat,c=m:=⟨c.toNat,by omega⟩
 have hms:m<sig.length:=by omega
 have gs:=Db (c:=Zh) hms
 have e:Y8 sig c=sig[m].ports:=by simp [Y8,hm,hms]
 have hpp:(ns.length:Int)=sig[m].ports:=by rw[<-e];exact hp
 have q:=Ze2 (fe:=V0) ns b1 fun n hn lvl S=>ZkD n (b2 n hn) lvl S
 rw[ZN hnm] at q
 refine Zb ZiX (by simp [Zg,low,men,Zj]) ?_
 simp only[Zdj,EVA,↓reduceIte,Nat.reduceEqDiff,Nat.reduceMul,reduceCtorEq,Nat.reduceAdd,Nat.reduceLeDiff,Nat.reduceLT,Zj,men]
 refine Za (YR sig (by omega) fun y hy=>Nat.le_trans (hbs y hy) (by omega)) ?_
 rw[ZN hs]
 simp only[List.length_map,EVA,↓reduceIte,Nat.reduceEqDiff,Nat.reduceMul,reduceCtorEq,Nat.reduceLT,Zj,men]
 refine⟨by rw[Zd];omega,Za (YX c 0 ((sig.length:Int)-1)) ?_⟩
 rw[inB_iff.2 hw]
 simp only[hm,gs,hpp,Zh,List.length_map,EVA,↓reduceIte,Nat.reduceEqDiff,Nat.reduceMul,reduceCtorEq,Nat.reduceAdd,Nat.reduceLT,Zj,men]
 refine Za q ?_
 simp only[EVA,↓reduceIte,Nat.reduceEqDiff,Nat.reduceMul,reduceCtorEq,Nat.reduceLT,Zj,men]
 refine Za (Zbi ns (by omega)) ?_
 simp only[List.length_map,EVA,↓reduceIte,Nat.reduceEqDiff,Nat.reduceMul,reduceCtorEq,Nat.reduceAdd,Nat.reduceLeDiff,Nat.reduceLT]
 obtain⟨o,ho⟩:∃ o,o=Vu ns:=⟨_,rfl⟩
 rw[<-ho]
 obtain⟨L,hL⟩:∃ L,L=ns.map fun n=>ixS o n:=⟨_,rfl⟩
 have lL:L.length=ns.length:=by rw[hL,List.length_map]
 have hol:o.length<=ns.length:=by rw[ho];exact ZbH
 refine ZH (α:=Unit) ns.length (fun j _=>[(45,iI j)]) (fun j _=>[(288,.bx [iI m,iI (-1),.hd (lvl,1344) [] 0 j none j]),(1344,.ar 1 (rI (L.take j)) true j 0)]) (fun _ _=>True) () (by simp only[EVA,↓reduceIte,Nat.reduceEqDiff,reduceCtorEq]) (by (simp only[EVA,↓reduceIte,Nat.reduceEqDiff,reduceCtorEq,Nat.reduceLT]) <;> rfl) trivial ?_
 intro j _ hj _
 simp only[List.length_map,EVA,↓reduceIte,Nat.reduceEqDiff,Nat.reduceMul,reduceCtorEq,Nat.reduceAdd,Nat.reduceLeDiff,Nat.reduceLT]
 refine Zk (fun hlt=>?_) (fun hge=>?_)
 ·have hja:j<ns.length:=by omega
  have ga:=ZfE (e0:=e0S) (c:=fun n:ByteArray=>[ts n]) hja
  rw[UC hja] at ga
  have hl2:(L.take j).length=j:=by rw[List.length_take];omega
  have hco:cut (rS o) 0 o.length=rS o:=Yn (by rw[List.length_map])
  have hsu:rI (L.take j)++[[tv (ixS o ns[j])]]=rI (L.take (j+1)):=by
   rw[List.take_succ_eq_append_getElem (by omega),Vt]
   simp [hL]
  simp only[ga,hco,List.length_map,EVA,↓reduceIte,Nat.reduceEqDiff,Nat.reduceLT,Zj,men]
  refine Za (ZhU o ns[j] (by omega)) ?_
  simp only[hl2,hsu,List.length_map,EVA,↓reduceIte,Nat.reduceEqDiff,Nat.reduceMul,Nat.reduceAdd,Nat.reduceLeDiff,Nat.reduceLT]
  exact⟨by omega,by rw[Zd];omega,Ze () hja rfl trivial⟩
 ·have:j=ns.length:=by omega
  subst this
  rw[<-lL,List.take_length]
  simp only[EVA]
  simp only[Zg,ZdE,<-ho,<-hL]
  try rfl
theorem ZpV(sig:List TControl)(s:TTermStep)(hn:sig.length<=4294967296)(hbs:∀ y∈sig,Zo 4294967296 y)(hb:Zv 4294967296 s)(hs:YI sig)(h:stepOK sig s)(h3:s.kind_=3)(hk:¬ QB sig s.control=2)(lvl:Nat)(S:Sto):Sem Go.Proofs.Tryz.prog U7 lvl [.tr (.sl (sig.map Zh)),iI s.control,.tr (.sl (rS s.names))] S (.tu [Zg (Zfh s),iB true]) S:=by
 have hw:=h.ctl h3
 obtain⟨m,hm⟩:∃ m:Nat,s.control=m:=⟨s.control.toNat,by omega⟩
 have hms:m<sig.length:=by omega
 have gs:=Db (c:=Zh) hms
 have e:QB sig s.control=sig[m].kind_:=by simp [QB,hm,hms]
 rw[e] at hk
 have q:=ZhZ sig s hn hbs hb hs h h3
 refine Zb Zkb (by simp [Zg,low,men,Zj]) ?_
 simp only[ZeR,EVA,↓reduceIte,Nat.reduceEqDiff,Nat.reduceMul,reduceCtorEq,Nat.reduceAdd,Nat.reduceLeDiff,Nat.reduceLT,Zj,men]
 refine Za q ?_
 simp only[Zg,ZdE,hm,gs,hk,Zh,List.length_map,EVA,↓reduceIte,Nat.reduceEqDiff,Nat.reduceMul,reduceCtorEq,Nat.reduceAdd,Nat.reduceLeDiff,Nat.reduceLT]
 simp only[Zfh,hm]
 try rfl
theorem ZnB(sig:List TControl)(s:TTermStep)(hn:sig.length<=4294967296)(hbs:∀ y∈sig,Zo 4294967296 y)(hb:Zv 4294967296 s)(hs:YI sig)(h:stepOK sig s)(h3:s.kind_=3)(lvl:Nat)(S:Sto):Sem Go.Proofs.Tryz.prog Ug lvl [.tr (.sl (sig.map Zh)),iI s.control,.tr (.sl (rS s.names))] S (.tu [Zg (ZdE s),iB true]) S:=by
 have q:=ZhZ sig s hn hbs hb hs h h3
 refine Zb ZiV (by simp [Zg,low,men,Zj]) ?_
 simp only[Zdg,EVA,↓reduceIte,Nat.reduceEqDiff,Nat.reduceMul,reduceCtorEq,Nat.reduceAdd,Nat.reduceLeDiff,Nat.reduceLT,Zj,men]
 refine Za q ?_
 simp only[Zg,List.length_map,EVA,↓reduceIte,Nat.reduceEqDiff,Nat.reduceMul,reduceCtorEq,Nat.reduceAdd,Nat.reduceLT]
noncomputable def ZrA(sig:List TControl)(s:TTermStep)(x:TBigraph):TBigraph:=@ite _ (XU sig s x) (Classical.propDecidable _) (DC (Zfh s) x) Jh
theorem ZnC(sig:List TControl)(s:TTermStep)(x:TBigraph)(hn:sig.length<=4294967296)(hbs:∀ y∈sig,Zo 4294967296 y)(hb:Zv 4294967296 s)(h:stepOK sig s)(h3:s.kind_=3)(hx:bigOK sig x)(hi:x.inner=[])(lvl:Nat)(S:Sto):Sem Go.Proofs.Tryz.prog Uc lvl [.tr (.sl (sig.map Zh)),.ag ((Zf s).map .tr),.ag ((Zc x).map .tr)] S (.tu [Zg (ZrA sig s x),iB (dc (XU sig s x))]) S:=by
 have hs:=hx.sg
 have hw:=h.ctl h3
 obtain⟨m,hm⟩:∃ m:Nat,s.control=m:=⟨s.control.toNat,by omega⟩
 have hms:m<sig.length:=by omega
 have gs:=Db (c:=Zh) hms
 have e:QB sig s.control=sig[m].kind_:=by simp [QB,hm,hms]
 have x1:=hx.small.nodes;have x2:=hx.small.sites
 refine Zb ZiP (by simp [Zg,low,men,Zj]) ?_
 simp only[Zc7,Zf,Zc,EVA,↓reduceIte,Nat.reduceEqDiff,Nat.reduceMul,reduceCtorEq,Nat.reduceAdd,Nat.reduceLeDiff,Nat.reduceLT]
 unfold ZrA
 by_cases hr:x.roots=1
 ·by_cases hk:sig[m].kind_=2
  ·by_cases hz:(x.nodes.length:Int)+x.sites.length=0
   ·have z1:x.nodes=[]:=List.length_eq_zero_iff.1 (by omega)
    have z2:x.sites=[]:=List.length_eq_zero_iff.1 (by omega)
    have hA:=Zua hs h h3
    have e1:=Zud (s:=s) hr z1 z2 hi
    have e2:=ZpE (Zes hA hx) (sig:=sig)
    have hpr:(ZdY (ZdE s) x).roots<=4:=by show (1:Int)+x.roots<=4;omega
    have hpa:Uv sig (ZdE s) x↔XU sig s x:=by
     constructor
     ·rintro⟨_,_,_,g⟩
      exact⟨hr,fun _=>⟨z1,z2⟩,by rw[<-e1];exact(e2.2 g).1⟩
     ·rintro⟨_,_,g⟩
      rw[<-e1] at g
      exact⟨hA,hx,fun n hn=>by simp [inn,ZdE] at hn,e2.1 ⟨g,hpr⟩⟩
    have qa:=ZnB sig s hn hbs hb hs h h3
    simp only[hm] at qa
    simp only[hr,hk,hm,gs,z1,z2,Zh,EVA,↓reduceIte,Nat.reduceEqDiff,Nat.reduceMul,reduceCtorEq,Nat.reduceAdd,Nat.reduceLT,Zj,men]
    refine⟨by rw[Zd];omega,?_⟩
    rw[if_neg (by decide)]
    refine Za qa ?_
    simp only[Zg,List.length_map,EVA,↓reduceIte,Nat.reduceEqDiff,Nat.reduceMul,reduceCtorEq,Nat.reduceAdd,Nat.reduceLT,Zj,men]
    have qm:=Wn sig (ZdE s) x hn hbs (DD hA) (DD hx) (Wo hA) (Wo hx)
    unfold VN VO at qm
    rw[Vs hpa] at qm
    simp only[Zc,hr,z1,z2,List.map_cons,List.map_nil] at qm
    simp only[Q1]
    refine Za qm ?_
    by_cases g:XU sig s x
    ·rw[if_pos g,if_pos (hpa.2 g),e1]
     simp only[Zg,List.length_map,EVA,↓reduceIte,Nat.reduceEqDiff,Nat.reduceMul,reduceCtorEq,Nat.reduceAdd,Nat.reduceLT]
    ·rw[if_neg g,if_neg (fun k=>g (hpa.1 k))]
     simp only[Zg,List.length_map,EVA,↓reduceIte,Nat.reduceEqDiff,Nat.reduceMul,reduceCtorEq,Nat.reduceAdd,Nat.reduceLT]
     try rfl
   ·have hno:¬ XU sig s x:=fun g=>by
     obtain⟨z1,z2⟩:=g.2.1 (e.trans hk)
     rw[z1,z2] at hz
     simp at hz
    have hz2:(0:Int)<(x.nodes.length:Int)+x.sites.length:=by omega
    rw[if_neg hno,Zi hno]
    simp only[hr,hk,hm,gs,hz2,Zh,List.length_map,EVA,↓reduceIte,Nat.reduceEqDiff,Nat.reduceMul,reduceCtorEq,Nat.reduceAdd,Nat.reduceLT]
    refine⟨by rw[Zd];omega,?_⟩
    rfl
  ·have hk2:¬ QB sig s.control=2:=by rw[e];exact hk
   have hT:=ZpP hs h h3 hk2
   have hne:ZdC sig (Zfh s) x↔XU sig s x:=by
    constructor
    ·rintro⟨_,g⟩
     exact⟨hr,fun k=>absurd k hk2,g⟩
    ·rintro⟨_,_,g⟩
     exact⟨⟨hT,hx,rfl,by rw[hr];rfl⟩,g⟩
   have qa:=ZpV sig s hn hbs hb hs h h3 hk2
   simp only[hm] at qa
   simp only[hr,hk,hm,gs,Zh,EVA,↓reduceIte,Nat.reduceEqDiff,reduceCtorEq,Nat.reduceAdd,Nat.reduceLT,Zj,men]
   refine Za qa ?_
   simp only[Zg,List.length_map,EVA,↓reduceIte,Nat.reduceEqDiff,Nat.reduceMul,reduceCtorEq,Nat.reduceAdd,Nat.reduceLT,Zj,men]
   have qm:=Zbm sig (Zfh s) x hn hbs (DD hT) (DD hx) (Wo hT) (Wo hx)
   unfold Ut Uu at qm
   rw[Vs hne] at qm
   simp only[Zc,hr,List.map_cons,List.map_nil] at qm
   simp only[Q1]
   refine Za qm ?_
   by_cases g:XU sig s x
   ·rw[if_pos g,if_pos (hne.2 g)]
    simp only[Zg,List.length_map,EVA,↓reduceIte,Nat.reduceEqDiff,Nat.reduceMul,reduceCtorEq,Nat.reduceAdd,Nat.reduceLT]
   ·rw[if_neg g,if_neg (fun k=>g (hne.1 k))]
    simp only[Zg,List.length_map,EVA,↓reduceIte,Nat.reduceEqDiff,Nat.reduceMul,reduceCtorEq,Nat.reduceAdd,Nat.reduceLT]
    try rfl
 ·have hno:¬ XU sig s x:=fun g=>hr g.1
  rw[if_neg hno,Zi hno]
  simp only[hr,EVA,↓reduceIte]
  rfl
end Go.Fd

/-
  WHAT STEPS MAKE, THE PROGRAM'S SIDE: made, stacked. Own work.
-/
namespace Go.Fd
set_option maxRecDepth 20000
def ptC(x:Q9):List Tr:=Zc x.1++[Tr.sl (rI x.2)]
theorem ZrB(s:TTermStep)(lvl:Nat)(S:Sto):Sem Go.Proofs.Tryz.prog DZ lvl [.ag ((Zf s).map .tr)] S (.ag ((ptC (if s.kind_=1 then (Zqi,[]) else if s.kind_=2 then (Zqj,[s.site]) else (Jh,[]))).map .tr)) S:=by
 obtain⟨k,c,t,ns⟩:=s
 refine Zb Zlk (by simp [low,men,Zj,ptC,Zc]) ?_
 by_cases h1:k=1
 ·subst h1
  simp only[D8,Zf,EVA,seval]
  rfl
 ·by_cases h2:k=2
  ·subst h2
   simp only[D8,Zf,EVA,seval]
   rfl
  ·rw[if_neg h1,if_neg h2]
   simp only[D8,Zf,h1,h2,EVA,seval]
   rfl
noncomputable def ZlG(sig:List TControl)(s:TTermStep)(xs:List Q9):TBigraph:=((mkR sig s xs).map Prod.fst).getD Jh
def Z9(xs:List Q9):List Int:=(xs.map Prod.snd).flatten
theorem ZpW{sig:List TControl}{s:TTermStep}{xs:List Q9}(h2:¬ s.kind_=2){y:Q9}(h:mkR sig s xs=some y)(hl:xs.length=Jz s.kind_):y.2=Z9 xs:=by
 unfold mkR at h
 split at h
 ·rename_i h0
  rw[h0] at hl
  have:xs=[]:=List.length_eq_zero_iff.1 hl
  subst this
  cases h;rfl
 split at h
 ·rename_i h0
  rw[h0] at hl
  have:xs=[]:=List.length_eq_zero_iff.1 hl
  subst this
  cases h;rfl
 split at h
 ·split at h
  ·split at h
   ·cases h;simp [Z9]
   ·cases h
  split at h
  ·split at h
   ·cases h;simp [Z9]
   ·cases h
  ·split at h
   ·cases h;simp [Z9]
   ·cases h
 ·split at h
  ·cases h;simp [Z9]
  ·cases h
 ·cases h
theorem X4{xs:List Q9}{j:Nat}(h:j<xs.length):Z9 (xs.take (j+1))=Z9 (xs.take j)++(xs[j]).2:=by
 unfold Z9
 rw[List.take_succ_eq_append_getElem h,List.map_append,List.flatten_append]
 simp
theorem DE{sig:List TControl}{xs:List Q9}(hx:∀ x∈xs,partOK sig x):∀{j:Nat},j<=xs.length->(Z9 (xs.take j)).length<=4*j
 | 0,_=>by simp [Z9]
 | j+1,hj=>by
  have hp:=hx _ (List.getElem_mem (show j<xs.length by omega))
  have h1:=hp.len
  have h2:=hp.big.sitesL
  rw[X4 (by omega),List.length_append]
  have:=DE hx (j:=j) (by omega)
  omega
theorem Zsr{xs:List Q9}(h:xs.length=2):∃ x y,xs=[x,y] :=
 match xs,h with
 | [x,y],_=>⟨x,y,rfl⟩
theorem ZkE{xs:List Q9}(h:xs.length=1):∃ x,xs=[x] :=
 match xs,h with
 | [x],_=>⟨x,rfl⟩
theorem ZlH{xs:List ByteArray}(h:xs.length=1):∃ x,xs=[x] :=
 match xs,h with
 | [x],_=>⟨x,rfl⟩
noncomputable def ZnD(sig:List TControl)(s:TTermStep)(xs:List Q9):Q9:=(mkR sig s xs).getD (Jh,Z9 xs)
theorem gS0{n:ByteArray}{l:List ByteArray}(h:l=[n]):gS l 0=n:=by subst h;rfl
theorem ZmW{sig:List TControl}{s:TTermStep}{xs:List Q9}(h:s.kind_=0\/s.kind_=1\/s.kind_=2):mkR sig s xs=some (if s.kind_=1 then (Zqi,[]) else if s.kind_=2 then (Zqj,[s.site]) else (Jh,[])):=by
 unfold mkR
 rcases h with h | h | h <;> simp [h]
open Classical in
theorem Dg{sig:List TControl}{s:TTermStep}{x:Q9}(h:s.kind_=3\/s.kind_=6\/s.kind_=7):mkR sig s [x]=if s.kind_=3 then (if XU sig s x.1 then some (DC (Zfh s) x.1,x.2) else none) else if s.kind_=6 then (if Q0 sig x.1 (gS s.names 0) then some (XK x.1 (gS s.names 0),x.2) else none) else (if Df sig x.1 (gS s.names 0) then some (Zjw x.1 (gS s.names 0),x.2) else none):=by
 unfold mkR
 rw[if_neg (by omega),if_neg (by omega),if_neg (by omega)]
open Classical in
theorem Zev{sig:List TControl}{s:TTermStep}{x y:Q9}(h:s.kind_=4\/s.kind_=5):mkR sig s [x,y]=if Uv sig x.1 y.1 then some (if s.kind_=4 then ZhX x.1 y.1 else ZdY x.1 y.1,x.2++y.2) else none:=by
 unfold mkR
 rw[if_neg (by omega),if_neg (by omega),if_neg (by omega)]
theorem ZrC(sig:List TControl)(s:TTermStep)(xs:List Q9)(hn:sig.length<=4294967296)(hbs:∀ y∈sig,Zo 4294967296 y)(hb:Zv 4294967296 s)(h:stepOK sig s)(hl:xs.length=Jz s.kind_)(hx:∀ x∈xs,partOK sig x)(lvl:Nat)(S:Sto):Sem Go.Proofs.Tryz.prog DY lvl [.tr (.sl (sig.map Zh)),.ag ((Zf s).map .tr),.tr (.sl (xs.map ptC))] S (.tu [.ag ((ptC (ZnD sig s xs)).map .tr),iB (mkR sig s xs).isSome]) S:=by
 obtain⟨k,c,t,ns⟩:=s
 have hkind:=h.kind
 simp only at hkind hl
 refine Zb Zli (by simp [low,men,Zj,ptC,Zc]) ?_
 by_cases h012:k=0\/k=1\/k=2
 ·have q:=ZrB ⟨k,c,t,ns⟩
  have e:=ZmW (sig:=sig) (s:=⟨k,c,t,ns⟩) (xs:=xs) h012
  have h3:¬ k=3:=by omega
  have h4:¬ k=4:=by omega
  have h5:¬ k=5:=by omega
  have h6:¬ k=6:=by omega
  have h7:¬ k=7:=by omega
  unfold ZnD
  rw[e]
  simp only[QY,Zf,h3,h4,h5,h6,h7,EVA,seval,Zj,men]
  refine Za q ?_
  obtain⟨Q,hQ⟩:∃ Q:Q9,Q=(if k=1 then (Zqi,[]) else if k=2 then (Zqj,[t]) else (Jh,[])):=⟨_,rfl⟩
  simp only[<-hQ,ptC,Zc]
  simp only[EVA,seval]
  try rfl
 ·
  have hso:=fun y=>ZpW (sig:=sig) (s:=⟨k,c,t,ns⟩) (xs:=xs) (y:=y) (by simp only;omega)
  obtain⟨V,hV⟩:∃ V,V=ZlG sig ⟨k,c,t,ns⟩ xs:=⟨_,rfl⟩
  obtain⟨ok,hok⟩:∃ ok,ok=(mkR sig ⟨k,c,t,ns⟩ xs).isSome:=⟨_,rfl⟩
  have hP:ZnD sig ⟨k,c,t,ns⟩ xs=(V,Z9 xs):=by
   rw[hV]
   unfold ZnD ZlG
   cases hm:mkR sig ⟨k,c,t,ns⟩ xs with
   | none=>rfl
   | some y =>
    have:=hso y hm hl
    simp only[Option.map_some,Option.getD_some]
    rw[<-this]
  rw[hP,<-hok]
  have hcase:(k=3/\∃ x,xs=[x])\/(k=4/\∃ x y,xs=[x,y])\/(k=5/\∃ x y,xs=[x,y])\/(k=6/\∃ x,xs=[x])\/(k=7/\∃ x,xs=[x]):=by
   have:k=3\/k=4\/k=5\/k=6\/k=7:=by omega
   rcases this with rfl | rfl | rfl | rfl | rfl
   ·exact .inl ⟨rfl,ZkE hl⟩
   ·exact .inr (.inl ⟨rfl,Zsr hl⟩)
   ·exact .inr (.inr (.inl ⟨rfl,Zsr hl⟩))
   ·exact .inr (.inr (.inr (.inl ⟨rfl,ZkE hl⟩)))
   ·exact .inr (.inr (.inr (.inr ⟨rfl,ZkE hl⟩)))
  have hlen:xs.length<=2:=by
   rw[hl]
   unfold Jz
   split
   ·omega
   ·split <;> omega
  rcases hcase with ⟨rfl,x,hxs⟩ | ⟨rfl,x,y,hxs⟩ | ⟨rfl,x,y,hxs⟩ | ⟨rfl,x,hxs⟩ | ⟨rfl,x,hxs⟩
  ·have hpx:=hx x (by rw[hxs];simp)
   have g0:(xs.map ptC)[0]? = some (ptC x):=by rw[hxs];rfl
   have q:=ZnC sig ⟨3,c,t,ns⟩ x.1 hn hbs hb h rfl hpx.big hpx.inn
   have e1:ZrA sig ⟨3,c,t,ns⟩ x.1=V:=by
    rw[hV,ZlG,hxs,Dg (.inl rfl),if_pos rfl]
    unfold ZrA
    by_cases g:XU sig ⟨3,c,t,ns⟩ x.1
    ·rw[if_pos g,if_pos g];rfl
    ·rw[if_neg g,if_neg g];rfl
   have e2:dc (XU sig ⟨3,c,t,ns⟩ x.1)=ok:=by
    rw[hok,hxs,Dg (.inl rfl),if_pos rfl]
    by_cases g:XU sig ⟨3,c,t,ns⟩ x.1
    ·rw[if_pos g,ZN g];rfl
    ·rw[if_neg g,Zi g];rfl
   rw[e1,e2] at q
   simp only[QY,Zf,g0,ptC,Zc,EVA,seval,Zj,men]
   simp only[Zf,Zc,List.map_cons,List.map_nil] at q
   refine Za q ?_
   clear q e1 e2 g0
   simp only[Zg,List.length_map,EVA,seval]
   refine ZH (α:=Unit) xs.length (fun j _=>[(96,iI j)]) (fun j _=>[(256,.bx [iI V.roots,.tr (.sl (V.nodes.map ZO)),.tr (.sl (rI V.sites)),iI V.edges,.tr (.sl (rS V.outer)),.tr (.sl (V.inner.map ZP)),.hd (lvl,384) [] 0 (Z9 (xs.take j)).length none (Z9 (xs.take j)).length]),(384,.ar 1 (rI (Z9 (xs.take j))) true (Z9 (xs.take j)).length 0)]) (fun _ _=>True) () (by simp only[EVA,seval]) (by (simp only[EVA,seval]) <;> rfl) trivial ?_
   intro j _ hj _
   simp only[List.length_map,EVA,seval]
   refine Zk (fun hlt=>?_) (fun hge=>?_)
   ·have hja:j<xs.length:=by omega
    have ga:=Db (c:=ptC) hja
    have hsl:=X4 hja
    have hle:=DE hx (j:=j+1) hja
    rw[hsl,List.length_append] at hle
    simp only[ga,ptC,Zc,Zds,Zdt,List.length_map,EVA,seval]
    refine⟨by omega,by rw[Zd];omega,Ze () hja (by rw[hsl,List.length_append,Vt,Nat.max_eq_right (Nat.le_add_right _ _)];rfl) trivial⟩
   ·have:j=xs.length:=by omega
    subst this
    rw[List.take_length]
    rw[show cut (rI (Z9 xs)) 0 (Z9 xs).length=rI (Z9 xs) from Q1]
  ·have hpx:=hx x (by rw[hxs];simp)
   have hpy:=hx y (by rw[hxs];simp)
   have g0:(xs.map ptC)[0]? = some (ptC x):=by rw[hxs];rfl
   have g1:(xs.map ptC)[1]? = some (ptC y):=by rw[hxs];rfl
   have q:=Wn sig x.1 y.1 hn hbs (DD hpx.big) (DD hpy.big) (Wo hpx.big) (Wo hpy.big)
   have e1:VN sig x.1 y.1=V:=by
    rw[hV,ZlG,hxs,Zev (.inl rfl)]
    unfold VN
    by_cases g:Uv sig x.1 y.1
    ·rw[if_pos g,if_pos g];rfl
    ·rw[if_neg g,if_neg g];rfl
   have e2:VO sig x.1 y.1=ok:=by
    rw[hok,hxs,Zev (.inl rfl)]
    unfold VO
    by_cases g:Uv sig x.1 y.1
    ·rw[if_pos g,ZN g];rfl
    ·rw[if_neg g,Zi g];rfl
   rw[e1,e2] at q
   simp only[QY,Zf,g0,g1,ptC,Zc,EVA,seval,Zj,men]
   simp only[Zc,List.map_cons,List.map_nil] at q
   refine Za q ?_
   clear q e1 e2 g0 g1
   simp only[Zg,List.length_map,EVA,seval]
   refine ZH (α:=Unit) xs.length (fun j _=>[(96,iI j)]) (fun j _=>[(256,.bx [iI V.roots,.tr (.sl (V.nodes.map ZO)),.tr (.sl (rI V.sites)),iI V.edges,.tr (.sl (rS V.outer)),.tr (.sl (V.inner.map ZP)),.hd (lvl,384) [] 0 (Z9 (xs.take j)).length none (Z9 (xs.take j)).length]),(384,.ar 1 (rI (Z9 (xs.take j))) true (Z9 (xs.take j)).length 0)]) (fun _ _=>True) () (by simp only[EVA,seval]) (by (simp only[EVA,seval]) <;> rfl) trivial ?_
   intro j _ hj _
   simp only[List.length_map,EVA,seval]
   refine Zk (fun hlt=>?_) (fun hge=>?_)
   ·have hja:j<xs.length:=by omega
    have ga:=Db (c:=ptC) hja
    have hsl:=X4 hja
    have hle:=DE hx (j:=j+1) hja
    rw[hsl,List.length_append] at hle
    simp only[ga,ptC,Zc,Zds,Zdt,List.length_map,EVA,seval]
    refine⟨by omega,by rw[Zd];omega,Ze () hja (by rw[hsl,List.length_append,Vt,Nat.max_eq_right (Nat.le_add_right _ _)];rfl) trivial⟩
   ·have:j=xs.length:=by omega
    subst this
    rw[List.take_length]
    rw[show cut (rI (Z9 xs)) 0 (Z9 xs).length=rI (Z9 xs) from Q1]
  ·have hpx:=hx x (by rw[hxs];simp)
   have hpy:=hx y (by rw[hxs];simp)
   have g0:(xs.map ptC)[0]? = some (ptC x):=by rw[hxs];rfl
   have g1:(xs.map ptC)[1]? = some (ptC y):=by rw[hxs];rfl
   have q:=Q5 sig x.1 y.1 hn hbs (DD hpx.big) (DD hpy.big) (Wo hpx.big) (Wo hpy.big)
   have e1:YE sig x.1 y.1=V:=by
    rw[hV,ZlG,hxs,Zev (.inr rfl)]
    unfold YE
    by_cases g:Uv sig x.1 y.1
    ·rw[if_pos g,if_pos g];rfl
    ·rw[if_neg g,if_neg g];rfl
   have e2:YF sig x.1 y.1=ok:=by
    rw[hok,hxs,Zev (.inr rfl)]
    unfold YF
    by_cases g:Uv sig x.1 y.1
    ·rw[if_pos g,ZN g];rfl
    ·rw[if_neg g,Zi g];rfl
   rw[e1,e2] at q
   simp only[QY,Zf,g0,g1,ptC,Zc,EVA,seval,Zj,men]
   simp only[Zc,List.map_cons,List.map_nil] at q
   refine Za q ?_
   clear q e1 e2 g0 g1
   simp only[Zg,List.length_map,EVA,seval]
   refine ZH (α:=Unit) xs.length (fun j _=>[(96,iI j)]) (fun j _=>[(256,.bx [iI V.roots,.tr (.sl (V.nodes.map ZO)),.tr (.sl (rI V.sites)),iI V.edges,.tr (.sl (rS V.outer)),.tr (.sl (V.inner.map ZP)),.hd (lvl,384) [] 0 (Z9 (xs.take j)).length none (Z9 (xs.take j)).length]),(384,.ar 1 (rI (Z9 (xs.take j))) true (Z9 (xs.take j)).length 0)]) (fun _ _=>True) () (by simp only[EVA,seval]) (by (simp only[EVA,seval]) <;> rfl) trivial ?_
   intro j _ hj _
   simp only[List.length_map,EVA,seval]
   refine Zk (fun hlt=>?_) (fun hge=>?_)
   ·have hja:j<xs.length:=by omega
    have ga:=Db (c:=ptC) hja
    have hsl:=X4 hja
    have hle:=DE hx (j:=j+1) hja
    rw[hsl,List.length_append] at hle
    simp only[ga,ptC,Zc,Zds,Zdt,List.length_map,EVA,seval]
    refine⟨by omega,by rw[Zd];omega,Ze () hja (by rw[hsl,List.length_append,Vt,Nat.max_eq_right (Nat.le_add_right _ _)];rfl) trivial⟩
   ·have:j=xs.length:=by omega
    subst this
    rw[List.take_length]
    rw[show cut (rI (Z9 xs)) 0 (Z9 xs).length=rI (Z9 xs) from Q1]
  ·have hpx:=hx x (by rw[hxs];simp)
   have g0:(xs.map ptC)[0]? = some (ptC x):=by rw[hxs];rfl
   obtain⟨n,rfl⟩:∃ n,ns=[n]:=by
    exact ZlH (h.one (.inl rfl))
   have q:=Zdy sig x.1 n hn hbs (DD hpx.big) (hb.2 n (by simp)) (Wo hpx.big)
   have e1:J6 sig x.1 n=V:=by
    rw[hV,ZlG,hxs,Dg (.inr (.inl rfl)),if_neg (by simp),if_pos rfl]
    unfold J6
    show _=((@ite _ (Q0 sig x.1 n) (Classical.propDecidable _) _ _:Option Q9).map Prod.fst).getD Jh
    by_cases g:Q0 sig x.1 n
    ·rw[if_pos g,if_pos g];rfl
    ·rw[if_neg g,if_neg g];rfl
   have e2:J7 sig x.1 n=ok:=by
    rw[hok,hxs,Dg (.inr (.inl rfl)),if_neg (by simp),if_pos rfl]
    unfold J7
    show _=(@ite _ (Q0 sig x.1 n) (Classical.propDecidable _) _ _:Option Q9).isSome
    by_cases g:Q0 sig x.1 n
    ·rw[if_pos g,ZN g];rfl
    ·rw[if_neg g,Zi g];rfl
   rw[e1,e2] at q
   simp only[QY,Zf,g0,ptC,Zc,EVA,seval,Zj,men]
   simp only[Zc,List.map_cons,List.map_nil] at q
   refine Za q ?_
   clear q e1 e2 g0
   simp only[Zg,List.length_map,EVA,seval]
   refine ZH (α:=Unit) xs.length (fun j _=>[(96,iI j)]) (fun j _=>[(256,.bx [iI V.roots,.tr (.sl (V.nodes.map ZO)),.tr (.sl (rI V.sites)),iI V.edges,.tr (.sl (rS V.outer)),.tr (.sl (V.inner.map ZP)),.hd (lvl,384) [] 0 (Z9 (xs.take j)).length none (Z9 (xs.take j)).length]),(384,.ar 1 (rI (Z9 (xs.take j))) true (Z9 (xs.take j)).length 0)]) (fun _ _=>True) () (by simp only[EVA,seval]) (by (simp only[EVA,seval]) <;> rfl) trivial ?_
   intro j _ hj _
   simp only[List.length_map,EVA,seval]
   refine Zk (fun hlt=>?_) (fun hge=>?_)
   ·have hja:j<xs.length:=by omega
    have ga:=Db (c:=ptC) hja
    have hsl:=X4 hja
    have hle:=DE hx (j:=j+1) hja
    rw[hsl,List.length_append] at hle
    simp only[ga,ptC,Zc,Zds,Zdt,List.length_map,EVA,seval]
    refine⟨by omega,by rw[Zd];omega,Ze () hja (by rw[hsl,List.length_append,Vt,Nat.max_eq_right (Nat.le_add_right _ _)];rfl) trivial⟩
   ·have:j=xs.length:=by omega
    subst this
    rw[List.take_length]
    rw[show cut (rI (Z9 xs)) 0 (Z9 xs).length=rI (Z9 xs) from Q1]
  ·have hpx:=hx x (by rw[hxs];simp)
   have g0:(xs.map ptC)[0]? = some (ptC x):=by rw[hxs];rfl
   obtain⟨n,rfl⟩:∃ n,ns=[n]:=by
    exact ZlH (h.one (.inr rfl))
   have q:=ZlC sig x.1 n hn hbs (DD hpx.big) (hb.2 n (by simp)) (Wo hpx.big)
   have e1:ZxY sig x.1 n=V:=by
    rw[hV,ZlG,hxs,Dg (.inr (.inr rfl)),if_neg (by simp),if_neg (by simp)]
    unfold ZxY
    show _=((@ite _ (Df sig x.1 n) (Classical.propDecidable _) _ _:Option Q9).map Prod.fst).getD Jh
    by_cases g:Df sig x.1 n
    ·rw[if_pos g,if_pos g];rfl
    ·rw[if_neg g,if_neg g];rfl
   have e2:dc (Df sig x.1 n)=ok:=by
    rw[hok,hxs,Dg (.inr (.inr rfl)),if_neg (by simp),if_neg (by simp)]
    show _=(@ite _ (Df sig x.1 n) (Classical.propDecidable _) _ _:Option Q9).isSome
    by_cases g:Df sig x.1 n
    ·rw[if_pos g,ZN g];rfl
    ·rw[if_neg g,Zi g];rfl
   rw[e1,e2] at q
   simp only[QY,Zf,g0,ptC,Zc,EVA,seval,Zj,men]
   simp only[Zc,List.map_cons,List.map_nil] at q
   refine Za q ?_
   clear q e1 e2 g0
   simp only[Zg,List.length_map,EVA,seval]
   refine ZH (α:=Unit) xs.length (fun j _=>[(96,iI j)]) (fun j _=>[(256,.bx [iI V.roots,.tr (.sl (V.nodes.map ZO)),.tr (.sl (rI V.sites)),iI V.edges,.tr (.sl (rS V.outer)),.tr (.sl (V.inner.map ZP)),.hd (lvl,384) [] 0 (Z9 (xs.take j)).length none (Z9 (xs.take j)).length]),(384,.ar 1 (rI (Z9 (xs.take j))) true (Z9 (xs.take j)).length 0)]) (fun _ _=>True) () (by simp only[EVA,seval]) (by (simp only[EVA,seval]) <;> rfl) trivial ?_
   intro j _ hj _
   simp only[List.length_map,EVA,seval]
   refine Zk (fun hlt=>?_) (fun hge=>?_)
   ·have hja:j<xs.length:=by omega
    have ga:=Db (c:=ptC) hja
    have hsl:=X4 hja
    have hle:=DE hx (j:=j+1) hja
    rw[hsl,List.length_append] at hle
    simp only[ga,ptC,Zc,Zds,Zdt,List.length_map,EVA,seval]
    refine⟨by omega,by rw[Zd];omega,Ze () hja (by rw[hsl,List.length_append,Vt,Nat.max_eq_right (Nat.le_add_right _ _)];rfl) trivial⟩
   ·have:j=xs.length:=by omega
    subst this
    rw[List.take_length]
    rw[show cut (rI (Z9 xs)) 0 (Z9 xs).length=rI (Z9 xs) from Q1]
end Go.Fd

/-
  THE STACK, THE PROGRAM'S SIDE. Own work.
-/
namespace Go.Fd
set_option maxRecDepth 20000
noncomputable def Zuf(sig:List TControl)(t:List TTermStep):Stk:=(Ze1 sig t).getD ([],0)
theorem ZgL{sig:List TControl}{t:List TTermStep}(h:Ze1 sig t=none):Zuf sig t=([],0):=by unfold Zuf;rw[h];rfl
theorem ZdF{sig:List TControl}{t:List TTermStep}{z:Stk}(h:Ze1 sig t=some z):Zuf sig t=z:=by unfold Zuf;rw[h];rfl
theorem Zew{l:List Q9}:UnR 7 (l.map ptC)=True:=eq_true (Zcn ptC (fun _=>rfl) l)
theorem ZxE{l:List Q9}{a n:Nat}:cut (l.map ptC) a n=((l.drop a).take n).map ptC:=by
 rw[cut,<-List.map_drop,<-List.map_take]
theorem ZBS{l:List Q9}{a:Nat}:cut (l.map ptC) a (l.length-a)=(l.drop a).map ptC:=by
 rw[ZxE,List.take_of_length_le (by rw[List.length_drop];omega)]
theorem Zht{l:List Q9}{a:Nat}:cut (l.map ptC) 0 a=(l.take a).map ptC:=by
 rw[ZxE,List.drop_zero]
theorem ZgM(sig:List TControl)(t:List TTermStep)(hn:sig.length<=4294967296)(hbs:∀ y∈sig,Zo 4294967296 y)(hbt:∀ y∈t,Zv 4294967296 y)(hs:YI sig)(hl:t.length<=60)(lvl:Nat)(S:Sto):Sem Go.Proofs.Tryz.prog QF lvl [.tr (.sl (sig.map Zh)),.tr (.sl (t.map Zf))] S (.tu [.tr (.sl ((Zuf sig t).1.map ptC)),iI ((Zuf sig t).2:Nat),iB (Ze1 sig t).isSome]) S:=by
 refine Zb Zg2 (by simp [low,men,Zj]) ?_
 simp only[Zb1,List.length_map,EVA,seval]
 refine ZH (α:=Stk) t.length (fun j z=>[(7,.tr (.sl (z.1.map ptC))),(8,iI z.2),(17,iI j)]) (fun _ _=>[]) (fun j z=>Ze1 sig (t.take j)=some z) ([],0) (by simp only[EVA,seval]) (by (simp only[EVA,seval]) <;> rfl) (by rw[List.take_zero];exact ZpN) ?_
 intro j z hj hA
 have hz:=Zeu hs hj hA
 simp only[EVA,seval]
 refine Zk (fun hlt=>?_) (fun hge=>?_)
 ·have hja:j<t.length:=by omega
  have ga:=Db (c:=Zf) hja
  have hb:=hbt _ (List.getElem_mem hja)
  have hsu:=ZgK (sig:=sig) hja
  rw[hA] at hsu
  obtain⟨s,hs'⟩:∃ s,s=t[j]:=⟨_,rfl⟩
  rw[<-hs'] at ga hb hsu
  have hbad:stT sig z s=none->Ze1 sig t=none:=fun g=>Zkx (j:=j+1) (by rw[hsu];exact g)
  have q1:=ZnA sig s hn hb
  have q2:=ZkC s.kind_ s.control s.site s.names
  obtain⟨k,c,p,ns⟩:=s
  simp only[Zf,List.map_cons,List.map_nil] at ga q1 q2
  simp only[ga,EVA,seval,Zj,men]
  refine Za q1 ?_
  cases hg:dc (stepOK sig ⟨k,c,p,ns⟩)
  ·have e:=hbad (Zjh fun g=>dc_not.1 hg g.1)
   rw[e,ZgL e]
   simp only[EVA,seval]
   try rfl
  have hok:=dc_iff.1 hg
  have hnd:=Zrz hok
  simp only at hnd
  simp only[EVA,seval,Zj,men]
  refine Za q2 ?_
  rw[hnd]
  simp only[List.length_map,EVA,seval,Zj,men]
  refine Zk (fun hlo=>?_) (fun hlo=>?_)
  ·have e:=hbad (Zjh fun g=>by have:=g.2;simp only at this;omega)
   rw[e,ZgL e]
   try rfl
  have htk:Jz k<=z.1.length:=by omega
  refine Za q2 ?_
  rw[hnd]
  simp only[List.length_map,EVA,seval,Zj,men]
  have hat:((z.1.length:Int)-(Jz k:Int))=((z.1.length-Jz k:Nat):Int):=by omega
  rw[hat]
  obtain⟨a,ha⟩:∃ a,a=z.1.length-Jz k:=⟨_,rfl⟩
  rw[<-ha]
  have q3:=ZrC sig ⟨k,c,p,ns⟩ (z.1.drop a) hn hbs hb hok (by rw[List.length_drop];simp only;omega) (fun x hx=>hz.1 x (List.mem_of_mem_drop hx))
  simp only[Zf,List.map_cons,List.map_nil] at q3
  simp only[Zew,EVA,seval]
  simp only[ZBS]
  refine⟨by rw[Zd];omega,?_⟩
  refine⟨?_,?_,Za q3 ?_⟩
  ·first | omega | simp [Zew]
  ·first | omega | simp [Zew]
  obtain⟨V,hV⟩:∃ V,V=ZnD sig ⟨k,c,p,ns⟩ (z.1.drop a):=⟨_,rfl⟩
  rw[<-hV]
  simp only[ptC,Zc]
  cases hm:mkR sig ⟨k,c,p,ns⟩ (z.1.drop a) with
  | none =>
   have e:=hbad (ZmT (by show mkR _ _ (z.1.drop (z.1.length-Jz k))=none;rw[<-ha];exact hm))
   rw[e,ZgL e]
   simp only[Option.isSome_none,EVA,seval]
   try rfl
  | some y =>
   have e:=ZmS hok (z:=z) htk (by show mkR _ _ (z.1.drop (z.1.length-Jz k))=some y;rw[<-ha];exact hm)
   have hy:V=y:=by rw[hV,ZnD,hm];rfl
   subst hy
   simp only[Option.isSome_some,List.length_map,Zew,EVA,seval]
   have e3:cut (z.1.map ptC) 0 (a-0)++[[Tr.v (Value.int .i64 V.1.roots),Tr.sl (V.1.nodes.map ZO),Tr.sl (rI V.1.sites),Tr.v (Value.int .i64 V.1.edges),Tr.sl (rS V.1.outer),Tr.sl (V.1.inner.map ZP),Tr.sl (rI V.2)]]=(z.1.take a++[V]).map ptC:=by
    rw[Nat.sub_zero,Zht,List.map_append]
    rfl
   have e4:(cut (z.1.map ptC) 0 (a-0)).length=a:=by
    rw[Nat.sub_zero,Zht,List.length_map,List.length_take]
    omega
   have e5:max (z.2:Int) ((a+1:Nat):Int)=((max z.2 (a+1):Nat):Int):=by omega
   have e6:((z.1.take a++[V]).map ptC).length=a+1:=by
    rw[List.length_map,List.length_append,List.length_take]
    simp
    omega
   rw[e3,e4,e6,e5]
   refine⟨fun g=>g.elim,by omega,by omega,by omega,by rw[Nat.sub_zero,Zht,Zew];trivial,rfl,by rw[Zd];omega,Ze (z.1.take a++[V],max z.2 (a+1)) hja rfl ?_⟩
   rw[hsu]
   show stT sig z _=_
   rw[e]
   show some (z.1.take (z.1.length-Jz k)++[V],max z.2 (z.1.length-Jz k+1))=_
   rw[<-ha]
 ·have:j=t.length:=by omega
  subst this
  rw[List.take_length] at hA
  rw[hA,ZdF hA]
  simp only[EVA,seval]
  try rfl
end Go.Fd

/-
  WHICH STEPS ARE RIGHT, THE REFERENCE'S SIDE. Own work.
-/
namespace Go.Fd
set_option maxRecDepth 20000
theorem ZnE(sig:List TControl)(s:TTermStep)(hn:sig.length<=4294967296)(hb:Zv 4294967296 s)(lvl:Nat)(S:Sto):Sem Go.Proofs.Tryz.prog W4 lvl [.tr (.sl (sig.map Zh)),.ag ((Zf s).map .tr)] S (iB (dc (stepOK sig s))) S:=by
 obtain⟨k,c,t,ns⟩:=s
 obtain⟨b1,b2⟩:=hb
 simp only at b1 b2
 have qn:=ZlE ns b1 b2
 have d23:¬ (2:Int)=3:=by decide
 have d32:¬ (3:Int)=2:=by decide
 have d62:¬ (6:Int)=2:=by decide
 have d63:¬ (6:Int)=3:=by decide
 have d72:¬ (7:Int)=2:=by decide
 have d73:¬ (7:Int)=3:=by decide
 have d76:¬ (7:Int)=6:=by decide
 refine Zb ZiI trivial ?_
 by_cases h2:k=2
 ·subst h2
  by_cases hc:c=0
  ·subst hc
   simp only[J4,Zf,d23,EVA,seval,Zj,men]
   refine Za (QL t 0 3) ?_
   cases hW:inB t 0 3
   ·rw[Zi fun g:stepOK sig ⟨2,0,t,ns⟩=>inB_not.1 hW (g.site rfl)]
    simp only[EVA,seval]
   ·simp only[List.length_map,EVA,seval]
    by_cases hl:(ns.length:Int)=0
    ·have hyes:stepOK sig ⟨2,0,t,ns⟩:=⟨by simp,fun _=>rfl,fun g=>absurd rfl g,fun n hn=>by
      have:ns=[]:=List.length_eq_zero_iff.1 (by omega)
      simp [this] at hn,fun _=>inB_iff.1 hW,fun g=>by simp at g,fun g=>by simp at g,fun g=>by simp at g,fun _ _ _=>by simp only;omega⟩
     rw[ZN hyes]
     simp [hl]
    ·rw[Zi fun g:stepOK sig ⟨2,0,t,ns⟩=>hl (by have:=g.non (by simp) (by simp) (by simp);simp only at this;omega)]
     simp [hl]
     exact fun e=>hl (by simp [e])
  ·rw[Zi fun g:stepOK sig ⟨2,c,t,ns⟩=>hc (g.ctl0 (by simp))]
   simp only[J4,Zf,hc,d23,EVA,seval]
 by_cases h3:k=3
 ·subst h3
  by_cases ht:t=0
  ·subst ht
   simp only[J4,Zf,d32,List.length_map,EVA,seval,Zj,men]
   refine⟨by rw[Zd];omega,Za (QL c 0 ((sig.length:Int)-1)) ?_⟩
   cases hW:inB c 0 ((sig.length:Int)-1)
   ·rw[Zi fun g:stepOK sig ⟨3,c,0,ns⟩=>inB_not.1 hW (g.ctl rfl)]
    simp only[EVA,seval]
   ·have hw:=inB_iff.1 hW
    obtain⟨m,hm⟩:∃ m:Nat,c=m:=⟨c.toNat,by omega⟩
    have hms:m<sig.length:=by omega
    have gs:=Db (c:=Zh) hms
    have e:Y8 sig c=sig[m].ports:=by simp [Y8,hm,hms]
    simp only[hm,gs,Zh,List.length_map,EVA,seval,Zj,men]
    by_cases hp:(ns.length:Int)=sig[m].ports
    ·simp only[hp,EVA,seval]
     refine Za qn ?_
     simp only[EVA,seval]
     have:stepOK sig ⟨3,c,0,ns⟩↔∀ n∈ns,Zcv n:=⟨fun g=>g.nms,fun g=>⟨by simp,fun g=>absurd rfl g,fun _=>rfl,g,fun g=>by simp at g,fun _=>hw,fun _=>by rw[e];exact hp,fun g=>by simp at g,fun g=>absurd rfl g⟩⟩
     rw[<-hm,Vs this]
    ·rw[<-hm,Zi fun g:stepOK sig ⟨3,c,0,ns⟩=>hp (by rw[<-e];exact g.ports rfl)]
     simp only[hp,seval]
  ·rw[Zi fun g:stepOK sig ⟨3,c,t,ns⟩=>ht (g.site0 (by simp))]
   simp only[J4,Zf,ht,d32,EVA,seval]
 by_cases hc:c=0
 ·subst hc
  by_cases ht:t=0
  ·subst ht
   by_cases h67:k=6\/k=7
   ·rcases h67 with rfl | rfl
    all_goals
     simp only[J4,Zf,d62,d63,d72,d73,d76,List.length_map,EVA,seval,Zj,men]
     by_cases hp:(ns.length:Int)=1
     ·simp only[hp,EVA,seval]
      refine Za qn ?_
      simp only[EVA,seval]
      rw[Vs (show stepOK sig ⟨_,0,0,ns⟩↔∀ n∈ns,Zcv n from ⟨fun g=>g.nms,fun g=>⟨by simp,fun _=>rfl,fun _=>rfl,g,fun g=>by simp at g,fun g=>by simp at g,fun g=>by simp at g,fun _=>by simp only;omega,fun g1 g2 g3=>by simp at g2 g3⟩⟩)]
     ·rw[Zi fun g:stepOK sig ⟨_,0,0,ns⟩=>hp (by have:=g.one (by simp);simp only at this;omega)]
      simp only[hp,seval]
   have h6:¬ k=6:=fun e=>h67 (.inl e)
   have h7:¬ k=7:=fun e=>h67 (.inr e)
   simp only[J4,Zf,h2,h3,h6,h7,EVA,seval,Zj,men]
   refine Za (QL k 0 5) ?_
   cases hW:inB k 0 5
   ·rw[Zi fun g:stepOK sig ⟨k,0,0,ns⟩=>inB_not.1 hW (by have:=g.kind;simp only at this;omega)]
    simp only[EVA,seval]
   ·have hw:=inB_iff.1 hW
    simp only[List.length_map,EVA,seval]
    by_cases hl:(ns.length:Int)=0
    ·have hyes:stepOK sig ⟨k,0,0,ns⟩:=⟨by simp only;omega,fun _=>rfl,fun _=>rfl,fun n hn=>by
      have:ns=[]:=List.length_eq_zero_iff.1 (by omega)
      simp [this] at hn,fun g=>absurd g h2,fun g=>absurd g h3,fun g=>absurd g h3,fun g=>g.elim (fun e=>absurd e h6) (fun e=>absurd e h7),fun _ _ _=>by simp only;omega⟩
     rw[ZN hyes]
     simp [hl]
    ·rw[Zi fun g:stepOK sig ⟨k,0,0,ns⟩=>hl (by have:=g.non h3 h6 h7;simp only at this;omega)]
     simp [hl]
     exact fun e=>hl (by simp [e])
  ·rw[Zi fun g:stepOK sig ⟨k,0,t,ns⟩=>ht (g.site0 h2)]
   simp only[J4,Zf,h2,h3,ht,EVA,seval]
 ·rw[Zi fun g:stepOK sig ⟨k,c,t,ns⟩=>hc (g.ctl0 h3)]
  simp only[J4,Zf,h3,hc,EVA,seval]
end Go.Fd

/-
  WHAT STEPS MAKE, THE REFERENCE'S SIDE. Own work.
-/
namespace Go.Fd
set_option maxRecDepth 20000
def ZlI(sig:List TControl):List TControl:=sig.map fun c=>{ c with kind_:=0 }
theorem ZpX{sig:List TControl}(h:YI sig):YI (ZlI sig):=by
 have hl:(ZlI sig).length=sig.length:=by simp [ZlI]
 refine⟨fun i hi=>?_,by rw[hl];exact h.2⟩
 have g:=h.1 i (by omega)
 have e:∀ k (hk:k<(ZlI sig).length),(ZlI sig)[k] = { sig[k]'(by omega) with kind_:=0 }:=fun k hk=>by simp [ZlI]
 refine⟨?_,fun k hk=>?_⟩
 ·rw[e i hi]
  exact⟨g.1.1,g.1.2.1,by show (0:Int)<=0/\(0:Int)<=2;omega⟩
 ·rw[e i hi,e k (by omega)]
  exact g.2 k hk
theorem ZnF{sig:List TControl}{c:Int}:Y8 (ZlI sig) c=Y8 sig c:=by
 unfold Y8 ZlI
 rw[List.getElem?_map]
 cases sig[c.toNat]? <;> rfl
theorem ZpY{sig:List TControl}{c:Int}:QB (ZlI sig) c=0:=by
 unfold QB ZlI
 rw[List.getElem?_map]
 cases sig[c.toNat]? <;> rfl
theorem ZpZ{sig:List TControl}{s:TTermStep}(h:stepOK sig s):stepOK (ZlI sig) s :=
 ⟨h.kind,h.ctl0,h.site0,h.nms,h.site,fun g=>by rw[show (ZlI sig).length=sig.length by simp [ZlI]];exact h.ctl g,fun g=>by rw[ZnF];exact h.ports g,h.one,h.non⟩
theorem ZrD{sig:List TControl}{x:TBigraph}(h:bigOK sig x)(h1:x.nodes=[])(h2:x.sites=[]):bigOK (ZlI sig) x :=
 ⟨ZpX h.sg,h.roots,h.nodesL,h.sitesL,h.edges,h.outer,h.inn,fun i hi=>by simp [h1] at hi,fun p hp=>by simp [h2] at hp,h.inner⟩
theorem ZrE{sig:List TControl}{s:TTermStep}(hs:YI sig)(h:stepOK sig s)(h3:s.kind_=3){x:TBigraph}(hx:bigOK sig x)(hk:QB sig s.control=2->x.nodes=[]/\x.sites=[]):∃ sg,bigOK sg (Zfh s)/\bigOK sg x:=by
 by_cases k:QB sig s.control=2
 ·exact⟨ZlI sig,ZpP (ZpX hs) (ZpZ h) h3 (by rw[ZpY];decide),ZrD hx (hk k).1 (hk k).2⟩
 ·exact⟨sig,ZpP hs h h3 k,hx⟩
theorem ZnG(s:TTermStep)(lvl:Nat)(S:Sto):Sem Go.Proofs.Tryz.prog W9 lvl [.ag ((Zf s).map .tr)] S (.ag ((ptC (if s.kind_=0 then (Jh,[]) else if s.kind_=1 then (Zqi,[]) else (Zqj,[s.site]))).map .tr)) S:=by
 obtain⟨k,c,t,ns⟩:=s
 refine Zb ZiM (by simp [low,men,Zj,ptC,Zc]) ?_
 by_cases h0:k=0
 ·subst h0
  simp only[WQ,Zf,EVA,↓reduceIte,Nat.reduceEqDiff,Nat.reduceMul,reduceCtorEq,Nat.reduceAdd,Nat.reduceLeDiff,Nat.reduceLT]
  rfl
 ·by_cases h1:k=1
  ·subst h1
   rw[if_neg h0]
   simp only[WQ,Zf,h0,EVA,↓reduceIte,Nat.reduceEqDiff,Nat.reduceMul,reduceCtorEq,Nat.reduceAdd,Nat.reduceLeDiff,Nat.reduceLT]
   rfl
  ·rw[if_neg h0,if_neg h1]
   simp only[WQ,Zf,h0,h1,EVA,↓reduceIte,Nat.reduceEqDiff,Nat.reduceMul,reduceCtorEq,Nat.reduceAdd,Nat.reduceLeDiff,Nat.reduceLT]
   rfl
def ZxF(sig:List TControl)(s:TTermStep)(x:TBigraph):Prop:=x.roots=1/\(QB sig s.control=2->x.nodes=[]/\x.sites=[])
open Classical in
noncomputable def ZnH(sig:List TControl)(s:TTermStep)(x:Q9):Q9:=if ZxF sig s x.1 then (DC (Zfh s) x.1,x.2) else (Jh,[])
theorem ZnI(sig:List TControl)(s:TTermStep)(x:Q9)(hn:sig.length<=4294967296)(hbs:∀ y∈sig,Zo 4294967296 y)(hb:Zv 4294967296 s)(hs:YI sig)(h:stepOK sig s)(h3:s.kind_=3)(hx:partOK sig x)(lvl:Nat)(S:Sto):Sem Go.Proofs.Tryz.prog Ua lvl [.tr (.sl (sig.map Zh)),.ag ((Zf s).map .tr),.ag ((ptC x).map .tr)] S (.tu [.ag ((ptC (ZnH sig s x)).map .tr),iB (dc (XU sig s x.1))]) S:=by
 have hxb:=hx.big
 have hw:=h.ctl h3
 obtain⟨m,hm⟩:∃ m:Nat,s.control=m:=⟨s.control.toNat,by omega⟩
 have hms:m<sig.length:=by omega
 have gs:=Db (c:=Zh) hms
 have e:QB sig s.control=sig[m].kind_:=by simp [QB,hm,hms]
 have x1:=hxb.small.nodes;have x2:=hxb.small.sites
 refine Zb ZiN (by simp [low,men,Zj,ptC,Zc]) ?_
 simp only[Zc5,Zf,ptC,Zc,EVA,↓reduceIte,Nat.reduceEqDiff,Nat.reduceMul,reduceCtorEq,Nat.reduceAdd,Nat.reduceLeDiff,Nat.reduceLT]
 by_cases h0:ZxF sig s x.1
 ·have hr:=h0.1
  have hno:ZnH sig s x=(DC (Zfh s) x.1,x.2):=if_pos h0
  rw[hno]
  obtain⟨sg,g1,g2⟩:=ZrE hs h h3 hxb h0.2
  have hnl:s.names.length<=3:=by have:=h.ports h3;have:=Zji hs (c:=s.control);omega
  have hsl:=ZbH (l:=s.names)
  have q1:=US s.names (by omega)
  have q2:=Us s.names 0 (Vu s.names) (by omega) (by omega) (by omega)
  simp only[Int.zero_add] at q2
  have q3:=Znt sg (Zfh s) x.1 g1 g2 (by rw[hr];rfl)
  have q4:=X2 sig (DC (Zfh s) x.1) hn hbs (Qh (by omega) (Zpq g1 g2)) (Zpr g1 g2 (by rw[hr];rfl) (Wo g1) (Wo g2))
  have e4:dc (bigOK sig (DC (Zfh s) x.1))=dc (XU sig s x.1):=Vs ⟨fun g=>⟨h0.1,h0.2,g⟩,fun g=>g.2.2⟩
  rw[e4] at q4
  obtain⟨B,hB⟩:∃ B,B=DC (Zfh s) x.1:=⟨_,rfl⟩
  rw[<-hB] at q3 q4 ⊢
  simp only[Zc,List.map_cons,List.map_nil] at q4
  by_cases hk:sig[m].kind_=2
  ·obtain⟨z1,z2⟩:=h0.2 (e.trans hk)
   simp only[hr,hk,hm,gs,z1,z2,Zh,List.length_nil,List.map_nil,EVA,↓reduceIte,Nat.reduceEqDiff,Nat.reduceMul,reduceCtorEq,Nat.reduceAdd,Nat.reduceLT,Zj,men]
   refine⟨by rw[Zd];omega,?_⟩
   rw[if_neg (by decide)]
   refine Za q1 ?_
   simp only[List.length_map,EVA,↓reduceIte,Nat.reduceEqDiff,Nat.reduceMul,reduceCtorEq,Nat.reduceAdd,Nat.reduceLeDiff,Nat.reduceLT,Zj,men]
   rw[show cut (rS (Vu s.names)) 0 (Vu s.names).length=rS (Vu s.names) from Q1]
   refine Za q2 ?_
   simp only[List.length_map,EVA,↓reduceIte,Nat.reduceEqDiff,Nat.reduceMul,reduceCtorEq,Nat.reduceAdd,Nat.reduceLeDiff,Nat.reduceLT,Zj,men]
   simp only[Zc,Zfh,hr,hm,z1,z2,ZO,List.map_cons,List.map_nil] at q3
   refine Za q3 ?_
   simp only[EVA,↓reduceIte,Nat.reduceEqDiff,Nat.reduceMul,reduceCtorEq,Nat.reduceAdd,Nat.reduceLeDiff,Nat.reduceLT,Zj,men]
   refine Za q4 ?_
   simp only[EVA,↓reduceIte,Nat.reduceEqDiff,Nat.reduceMul,reduceCtorEq,Nat.reduceAdd,Nat.reduceLT]
  ·simp only[hr,hk,hm,gs,Zh,EVA,↓reduceIte,Nat.reduceEqDiff,reduceCtorEq,Nat.reduceAdd,Nat.reduceLT,Zj,men]
   refine Za q1 ?_
   simp only[List.length_map,EVA,↓reduceIte,Nat.reduceEqDiff,Nat.reduceMul,reduceCtorEq,Nat.reduceAdd,Nat.reduceLeDiff,Nat.reduceLT,Zj,men]
   rw[show cut (rS (Vu s.names)) 0 (Vu s.names).length=rS (Vu s.names) from Q1]
   refine Za q2 ?_
   simp only[List.length_map,EVA,↓reduceIte,Nat.reduceEqDiff,Nat.reduceMul,reduceCtorEq,Nat.reduceAdd,Nat.reduceLeDiff,Nat.reduceLT,Zj,men]
   simp only[Zc,Zfh,hr,hm,ZO,List.map_cons,List.map_nil] at q3
   refine Za q3 ?_
   simp only[EVA,↓reduceIte,Nat.reduceEqDiff,Nat.reduceMul,reduceCtorEq,Nat.reduceAdd,Nat.reduceLeDiff,Nat.reduceLT,Zj,men]
   refine Za q4 ?_
   simp only[EVA,↓reduceIte,Nat.reduceEqDiff,Nat.reduceMul,reduceCtorEq,Nat.reduceAdd,Nat.reduceLT]
 ·have hno:¬ XU sig s x.1:=fun g=>h0 ⟨g.1,g.2.1⟩
  rw[show ZnH sig s x=(Jh,[]) from if_neg h0,Zi hno]
  by_cases hr:x.1.roots=1
  ·have hk:sig[m].kind_=2:=Classical.byContradiction fun k=>h0 ⟨hr,fun g=>absurd (e.symm.trans g) k⟩
   have hz:(0:Int)<(x.1.nodes.length:Int)+x.1.sites.length:=by
    by_cases g:(x.1.nodes.length:Int)+x.1.sites.length=0
    ·exact absurd ⟨hr,fun _=>⟨List.length_eq_zero_iff.1 (by omega),List.length_eq_zero_iff.1 (by omega)⟩⟩ h0
    ·omega
   simp only[hr,hk,hm,gs,hz,Zh,List.length_map,EVA,↓reduceIte,Nat.reduceEqDiff,Nat.reduceMul,reduceCtorEq,Nat.reduceAdd,Nat.reduceLT]
   exact⟨by rw[Zd];omega,rfl⟩
  ·simp only[hr,EVA,↓reduceIte]
   rfl
end Go.Fd

/-
  WHAT STEPS MAKE OF TWO, AND OF ONE AND A NAME, THE REFERENCE'S SIDE. Own work.
-/
namespace Go.Fd
set_option maxRecDepth 20000
theorem Zp0(l:List Int)(hl:l.length<=4294967296)(lvl:Nat)(S:Sto):Sem Go.Proofs.Tryz.prog U4 lvl [tI l] S (.ow 1 (rI l) true) S:=by
 refine Zb Zj7 trivial ?_
 simp only[ZeN,List.length_map,Zds,Zdt,EVA,seval]
 exact hl
theorem Zug{sig:List TControl}{a b:TBigraph}(ha:bigOK sig a)(hb:bigOK sig b)(hi:a.inner=[]):Uv sig a b↔bigOK sig (ZdY a b):=by
 constructor
 ·intro g;exact g.2.2.2
 ·intro g;exact⟨ha,hb,fun n hn=>by simp [inn,hi] at hn,g⟩
open Classical in
noncomputable def ZnJ(sig:List TControl)(s:TTermStep)(x y:Q9):Q9:=if Uv sig x.1 y.1 then (if s.kind_=4 then ZhX x.1 y.1 else ZdY x.1 y.1,x.2++y.2) else (Jh,[])
theorem ZnK(sig:List TControl)(s:TTermStep)(x y:Q9)(hn:sig.length<=4294967296)(hbs:∀ y∈sig,Zo 4294967296 y)(hx:partOK sig x)(hy:partOK sig y)(lvl:Nat)(S:Sto):Sem Go.Proofs.Tryz.prog Ub lvl [.tr (.sl (sig.map Zh)),.ag ((Zf s).map .tr),.ag ((ptC x).map .tr),.ag ((ptC y).map .tr)] S (.tu [.ag ((ptC (ZnJ sig s x y)).map .tr),iB (dc (Uv sig x.1 y.1))]) S:=by
 have hxb:=hx.big;have hyb:=hy.big
 have x2:=hxb.sitesL;have y2:=hyb.sitesL
 have lx:=hx.len;have ly:=hy.len
 have q1:=Znw sig x.1 y.1 hxb hyb
 have q2:=X2 sig (ZdY x.1 y.1) hn hbs (Qh (by omega) (ZmO hxb hyb)) (Zsn hxb hyb (Wo hxb) (Wo hyb))
 rw[<-Vs (Zug hxb hyb hx.inn)] at q2
 have q3:=ZpJ (ZdY x.1 y.1) (Zrt hxb hyb)
 have q4:=Zp0 x.2 (by omega)
 have ec:cut (rI x.2++rI y.2) 0 (x.2.length+y.2.length)=rI (x.2++y.2):=by
  rw[<-Vt]
  exact Yn (by simp [rI])
 obtain⟨B,hB⟩:∃ B,B=ZdY x.1 y.1:=⟨_,rfl⟩
 rw[<-hB] at q1 q2 q3
 have hM:ZhX x.1 y.1=ZlA B:=by rw[hB];rfl
 simp only[Zc,List.map_cons,List.map_nil] at q1 q2 q3
 refine Zb ZiO (by simp [low,men,Zj,ptC,Zc]) ?_
 simp only[Zc6,Zf,ptC,Zc,EVA,seval,Zj,men]
 refine Za q1 ?_
 simp only[EVA,seval,Zj,men]
 refine Za q2 ?_
 cases hp:dc (Uv sig x.1 y.1)
 ·rw[show ZnJ sig s x y=(Jh,[]) from if_neg (dc_not.1 hp)]
  simp only[EVA,seval]
  rfl
 ·rw[show ZnJ sig s x y=_ from if_pos (dc_iff.1 hp)]
  by_cases h4:s.kind_=4
  ·rw[if_pos h4,hM]
   simp only[h4,EVA,seval,Zj,men]
   refine Za q3 ?_
   simp only[Zg,EVA,seval,Zj,men]
   refine Za q4 ?_
   simp only[Zds,Zdt,List.length_map,EVA,seval]
   exact⟨by omega,by rw[<-Vt,List.length_map,List.length_append];exact Nat.le_refl _,by rw[ec] <;> rfl⟩
  ·rw[if_neg h4,<-hB]
   simp only[h4,EVA,seval,Zj,men]
   refine Za q4 ?_
   simp only[Zds,Zdt,List.length_map,EVA,seval]
   exact⟨by omega,by rw[<-Vt,List.length_map,List.length_append];exact Nat.le_refl _,by rw[ec] <;> rfl⟩
theorem ZlJ(sig:List TControl)(s:TTermStep)(x:Q9)(n:ByteArray)(hn:sig.length<=4294967296)(hbs:∀ y∈sig,Zo 4294967296 y)(hns:s.names=[n])(hbn:n.size<=4294967296)(h67:s.kind_=6\/s.kind_=7)(hx:partOK sig x):∃ V:Q9,(∀ y,mkR sig s [x]=some y->V=y)/\∀(lvl:Nat) (S:Sto),Sem Go.Proofs.Tryz.prog Ww lvl [.tr (.sl (sig.map Zh)),.ag ((Zf s).map .tr),.ag ((ptC x).map .tr)] S (.tu [.ag ((ptC V).map .tr),iB (mkR sig s [x]).isSome]) S:=by
 have hxb:=hx.big
 have g0:(rS [n])[0]? = some [ts n]:=rfl
 rcases h67 with h6 | h7
 ·have e:=Dg (sig:=sig) (s:=s) (x:=x) (.inr (.inl h6))
  rw[if_neg (by omega),if_pos h6,hns,gS0 rfl] at e
  by_cases g:Q0 sig x.1 n
  ·rw[if_pos g] at e
   rw[e]
   refine⟨(XK x.1 n,x.2),fun y hy=>Option.some.inj hy,fun lvl S=>?_⟩
   have q:=ZbP sig x.1 n hn hbs (DD hxb) hbn (Wo hxb) g
   unfold J6 J7 at q
   rw[if_pos g,ZN g] at q
   simp only[Zc,List.map_cons,List.map_nil] at q
   refine Zb Wa (by simp [low,men,Zj,ptC,Zc]) ?_
   simp only[Qx,Zf,ptC,Zc,h6,hns,EVA,seval,Zj,men]
   refine Za q ?_
   simp only[EVA,seval]
  ·rw[if_neg g] at e
   rw[e]
   refine⟨(Jh,x.2),(fun y hy=>by cases hy),fun lvl S=>?_⟩
   have q:=ZbQ sig x.1 n hn hbs (DD hxb) hbn (Wo hxb) g
   unfold J6 J7 at q
   rw[if_neg g,Zi g] at q
   simp only[Zc,List.map_cons,List.map_nil] at q
   refine Zb Wa (by simp [low,men,Zj,ptC,Zc]) ?_
   simp only[Qx,Zf,ptC,Zc,h6,hns,EVA,seval,Zj,men]
   refine Za q ?_
   simp only[Zg,EVA,seval]
 ·have e:=Dg (sig:=sig) (s:=s) (x:=x) (.inr (.inr h7))
  rw[if_neg (by omega),if_neg (by omega),hns,gS0 rfl] at e
  have q:=Zfi sig x.1 n hn hbs (DD hxb) hbn (Wo hxb)
  have h6:¬ s.kind_=6:=by omega
  by_cases g:Df sig x.1 n
  ·rw[if_pos g] at e
   rw[e]
   refine⟨(Zjw x.1 n,x.2),fun y hy=>Option.some.inj hy,fun lvl S=>?_⟩
   rw[if_pos g,ZN g] at q
   simp only[Zc,List.map_cons,List.map_nil] at q
   refine Zb Wa (by simp [low,men,Zj,ptC,Zc]) ?_
   simp only[Qx,Zf,ptC,Zc,h6,hns,EVA,seval,Zj,men]
   refine Za q ?_
   simp only[EVA,seval]
  ·rw[if_neg g] at e
   rw[e]
   refine⟨(Jh,x.2),(fun y hy=>by cases hy),fun lvl S=>?_⟩
   rw[if_neg g,Zi g] at q
   simp only[Zc,List.map_cons,List.map_nil] at q
   refine Zb Wa (by simp [low,men,Zj,ptC,Zc]) ?_
   simp only[Qx,Zf,ptC,Zc,h6,hns,EVA,seval,Zj,men]
   refine Za q ?_
   simp only[Zg,EVA,seval]
end Go.Fd

/-
  A STEP ON A STACK, THE REFERENCE'S SIDE. Own work.
-/
namespace Go.Fd
set_option maxRecDepth 20000
theorem ZmX{z:List Q9}{a:Nat}(h:z.length=a+1):∃ x,z.drop a=[x]/\(z.map ptC)[a]? = some (ptC x)/\x∈z:=by
 have ha:a<z.length:=by omega
 refine⟨z[a],?_,by simp [ha],List.getElem_mem ha⟩
 rw[List.drop_eq_getElem_cons ha,List.drop_of_length_le (by omega)]
theorem ZrF{z:List Q9}{a:Nat}(h:z.length=a+2):∃ x y,z.drop a=[x,y]/\(z.map ptC)[a]? = some (ptC x)/\(z.map ptC)[a+1]? = some (ptC y)/\x∈z/\y∈z:=by
 have ha:a<z.length:=by omega
 have hb:a+1<z.length:=by omega
 refine⟨z[a],z[a+1],?_,by simp [ha],by simp [hb],List.getElem_mem ha,List.getElem_mem hb⟩
 rw[List.drop_eq_getElem_cons ha,List.drop_eq_getElem_cons hb,List.drop_of_length_le (by omega)]
theorem ZrG{sig:List TControl}{s:TTermStep}{x y:Q9}(h3:s.kind_=3)(h:mkR sig s [x]=some y):ZnH sig s x=y:=by
 rw[Dg (.inl h3),if_pos h3] at h
 split at h
 ·rename_i g
  rw[show ZnH sig s x=_ from if_pos ⟨g.1,g.2.1⟩]
  exact Option.some.inj h
 ·cases h
theorem Zp1{sig:List TControl}{s:TTermStep}{x:Q9}(h3:s.kind_=3):dc (XU sig s x.1)=(mkR sig s [x]).isSome:=by
 rw[Dg (.inl h3),if_pos h3]
 by_cases g:XU sig s x.1
 ·rw[if_pos g,ZN g];rfl
 ·rw[if_neg g,Zi g];rfl
theorem ZrH{sig:List TControl}{s:TTermStep}{x x2 y:Q9}(h45:s.kind_=4\/s.kind_=5)(h:mkR sig s [x,x2]=some y):ZnJ sig s x x2=y:=by
 rw[Zev h45] at h
 split at h
 ·rename_i g
  rw[show ZnJ sig s x x2=_ from if_pos g]
  exact Option.some.inj h
 ·cases h
theorem Zp2{sig:List TControl}{s:TTermStep}{x x2:Q9}(h45:s.kind_=4\/s.kind_=5):dc (Uv sig x.1 x2.1)=(mkR sig s [x,x2]).isSome:=by
 rw[Zev h45]
 by_cases g:Uv sig x.1 x2.1
 ·rw[if_pos g,ZN g];rfl
 ·rw[if_neg g,Zi g];rfl
theorem ZmY{k:Int}:Jz k<=2:=by
 unfold Jz
 split
 ·omega
 ·split <;> omega
theorem ZxZ{z:List Q9}{a:Nat}{Q:Q9}:cut (z.map ptC) 0 (a-0)++[[Tr.v (Value.int .i64 Q.1.roots),Tr.sl (Q.1.nodes.map ZO),Tr.sl (rI Q.1.sites),Tr.v (Value.int .i64 Q.1.edges),Tr.sl (rS Q.1.outer),Tr.sl (Q.1.inner.map ZP),Tr.sl (rI Q.2)]]=(z.take a++[Q]).map ptC:=by
 rw[Nat.sub_zero,Zht,List.map_append]
 rfl
theorem Zx0{z:List Q9}{a:Nat}(h:a<=z.length):(cut (z.map ptC) 0 (a-0)).length=a:=by
 rw[Nat.sub_zero,Zht,List.length_map,List.length_take]
 omega
theorem Zss{z:List Q9}{a:Nat}{Q:Q9}(h:a<=z.length):((z.take a++[Q]).map ptC).length=a+1:=by
 rw[List.length_map,List.length_append,List.length_take]
 simp
 omega
theorem ZnL(sig:List TControl)(s:TTermStep)(z:List Q9)(hn:sig.length<=4294967296)(hbs:∀ y∈sig,Zo 4294967296 y)(hb:Zv 4294967296 s)(hs:YI sig)(h:stepOK sig s)(hz:∀ x∈z,partOK sig x)(hzl:z.length<=100):∃ V:List Q9,(Jz s.kind_<=z.length->∀ x,mkR sig s (z.drop (z.length-Jz s.kind_))=some x->V=z.take (z.length-Jz s.kind_)++[x])/\∀(lvl:Nat) (S:Sto),Sem Go.Proofs.Tryz.prog Xw lvl [.tr (.sl (sig.map Zh)),.tr (.sl (z.map ptC)),.ag ((Zf s).map .tr)] S (.tu [.tr (.sl (V.map ptC)),iB (decide (Jz s.kind_<=z.length)&&(mkR sig s (z.drop (z.length-Jz s.kind_))).isSome)]) S:=by
 obtain⟨k,c,p,ns⟩:=s
 have hkind:=h.kind
 simp only at hkind
 have qt:=ZlF k
 have ql:=ZnG ⟨k,c,p,ns⟩
 by_cases htk:Jz k<=z.length
 ·obtain⟨a,ha⟩:∃ a,a=z.length-Jz k:=⟨_,rfl⟩
  have hat:((z.length:Int)-(Jz k:Int))=(a:Int):=by omega
  have ht2:=ZmY (k:=k)
  show ∃ V:List Q9,(Jz k<=z.length->∀ x,mkR sig ⟨k,c,p,ns⟩ (z.drop (z.length-Jz k))=some x->V=z.take (z.length-Jz k)++[x])/\∀(lvl:Nat) (S:Sto),Sem Go.Proofs.Tryz.prog Xw lvl [.tr (.sl (sig.map Zh)),.tr (.sl (z.map ptC)),.ag ((Zf ⟨k,c,p,ns⟩).map .tr)] S (.tu [.tr (.sl (V.map ptC)),iB (decide (Jz k<=z.length)&&(mkR sig ⟨k,c,p,ns⟩ (z.drop (z.length-Jz k))).isSome)]) S
  rw[<-ha,show decide (Jz k<=z.length)=true from decide_eq_true htk]
  simp only[Bool.true_and]
  have hnot:¬ (a:Int)<0:=by omega
  have hat0:a<=z.length:=by omega
  have e6 (Q:Q9):cut (z.map ptC) 0 a=(z.take a).map ptC:=Zht
  have tail (Q:Q9):(z.take a).map ptC++[ptC Q]=(z.take a++[Q]).map ptC:=by rw[List.map_append];rfl
  obtain⟨W,hW⟩:∃ W:Q9,W=(if k=0 then (Jh,[]) else if k=1 then (Zqi,[]) else (Zqj,[p])):=⟨_,rfl⟩
  simp only[<-hW] at ql
  simp only[Zf,ptC,Zc,List.map_cons,List.map_nil] at ql
  have d01:¬ (0:Int)=1:=by decide
  have d02:¬ (0:Int)=2:=by decide
  have d21:¬ (2:Int)=1:=by decide
  by_cases h012:k=0\/k=1\/k=2
  ·have e:=ZmW (sig:=sig) (s:=⟨k,c,p,ns⟩) (xs:=z.drop a) h012
   have eQ:(if k=1 then (Zqi,[]) else if k=2 then (Zqj,[p]) else (Jh,[]))=W:=by
    rw[hW]
    rcases h012 with rfl | rfl | rfl <;> rfl
   simp only at e
   rw[eQ] at e
   rw[e]
   obtain⟨Q,hQ⟩:∃ Q,Q=W:=⟨_,rfl⟩
   rw[<-hQ] at ql ⊢
   refine⟨z.take a++[Q],fun _ x hx=>by rw[Option.some.inj hx],fun lvl S=>?_⟩
   have t0:Jz k=0:=by rcases h012 with rfl | rfl | rfl <;> rfl
   rw[t0] at qt hat
   simp only[Int.natCast_zero] at qt hat
   have h3:¬ k=3:=by omega
   refine Zb XD (by simp [low,men,Zj]) ?_
   simp only[V3,Zf,List.length_map,EVA,seval,Zj,men]
   refine Za qt ?_
   simp only[hat,hnot,EVA,seval,Zj,men]
   refine⟨by rw[Zd];omega,Za ql ?_⟩
   simp only[h3,EVA,seval,Zj,men]
   refine Za qt ?_
   simp only[d01,EVA,seval,Zj,men]
   refine Za qt ?_
   simp only[d02,Zew,List.length_map,EVA,seval]
   rw[ZxZ (z:=z) (a:=a) (Q:=Q),Zx0 hat0]
   refine⟨fun g=>g.elim,by omega,by omega,by rw[Nat.sub_zero,Zht,Zew];trivial,by omega,by omega,by rw[Zss hat0];exact Nat.le_refl _,by rw[Yn (Zss hat0)] <;> rfl⟩
  by_cases h3:k=3
  ·subst h3
   obtain⟨x,hx1,hx2,hx3⟩:=ZmX (z:=z) (a:=a) (by have:Jz 3=1:=rfl;omega)
   rw[hx1]
   obtain⟨Q,hQ⟩:∃ Q,Q=ZnH sig ⟨3,c,p,ns⟩ x:=⟨_,rfl⟩
   refine⟨z.take a++[Q],fun _ y hy=>by rw[hQ,ZrG rfl hy],fun lvl S=>?_⟩
   have q:=ZnI sig ⟨3,c,p,ns⟩ x hn hbs hb hs h rfl (hz x hx3)
   rw[<-hQ,Zp1 rfl] at q
   simp only[Zf,ptC,Zc,List.map_cons,List.map_nil] at q hx2
   have t1:Jz 3=1:=rfl
   rw[t1] at qt hat
   simp only[Int.natCast_one] at qt hat
   have hal:a<z.length:=by omega
   refine Zb XD (by simp [low,men,Zj]) ?_
   simp only[V3,Zf,List.length_map,EVA,seval,Zj,men]
   refine Za qt ?_
   simp only[hat,hnot,EVA,seval,Zj,men]
   refine⟨by rw[Zd];omega,Za ql ?_⟩
   simp only[hx2,EVA,seval,Zj,men]
   refine Za q ?_
   simp only[Zew,List.length_map,EVA,seval]
   rw[ZxZ (z:=z) (a:=a) (Q:=Q),Zx0 hat0]
   refine⟨fun g=>g.elim,by omega,by omega,by rw[Nat.sub_zero,Zht,Zew];trivial,by omega,by omega,by rw[Zss hat0];exact Nat.le_refl _,by rw[Yn (Zss hat0)] <;> rfl⟩
  by_cases h45:k=4\/k=5
  ·obtain⟨x,y,hx1,hx2,hx3,hx4,hx5⟩:=ZrF (z:=z) (a:=a) (by have:Jz k=2:=(by rcases h45 with rfl | rfl <;> rfl);omega)
   rw[hx1]
   obtain⟨Q,hQ⟩:∃ Q,Q=ZnJ sig ⟨k,c,p,ns⟩ x y:=⟨_,rfl⟩
   refine⟨z.take a++[Q],fun _ v hv=>by rw[hQ,ZrH h45 hv],fun lvl S=>?_⟩
   have q:=ZnK sig ⟨k,c,p,ns⟩ x y hn hbs (hz x hx4) (hz y hx5)
   rw[<-hQ,Zp2 (s:=⟨k,c,p,ns⟩) h45] at q
   simp only[Zf,ptC,Zc,List.map_cons,List.map_nil] at q hx2 hx3
   have t2:Jz k=2:=by rcases h45 with rfl | rfl <;> rfl
   rw[t2] at qt hat
   have c2:((2:Nat):Int)=2:=rfl
   rw[c2] at qt hat
   have hal:a<z.length:=by omega
   have hal2:a+1<z.length:=by omega
   have ca:((a:Int)+1)=((a+1:Nat):Int):=by omega
   refine Zb XD (by simp [low,men,Zj]) ?_
   simp only[V3,Zf,List.length_map,EVA,seval,Zj,men]
   refine Za qt ?_
   simp only[hat,hnot,EVA,seval,Zj,men]
   refine⟨by rw[Zd];omega,Za ql ?_⟩
   simp only[h3,EVA,seval,Zj,men]
   refine Za qt ?_
   simp only[d21,EVA,seval,Zj,men]
   refine Za qt ?_
   simp only[hx2,hx3,ca,Int.toNat_natCast,EVA,seval,Zj,men]
   refine⟨by rw[Zd];omega,Za q ?_⟩
   simp only[Zew,List.length_map,EVA,seval]
   rw[ZxZ (z:=z) (a:=a) (Q:=Q),Zx0 hat0]
   refine⟨fun g=>g.elim,by omega,by omega,by rw[Nat.sub_zero,Zht,Zew];trivial,by omega,by omega,by rw[Zss hat0];exact Nat.le_refl _,by rw[Yn (Zss hat0)] <;> rfl⟩
  ·have h67:k=6\/k=7:=by omega
   obtain⟨x,hx1,hx2,hx3⟩:=ZmX (z:=z) (a:=a) (by have:Jz k=1:=(by rcases h67 with rfl | rfl <;> rfl);omega)
   rw[hx1]
   obtain⟨n,rfl⟩:=ZlH (h.one h67)
   obtain⟨Q,hQ,q⟩:=ZlJ sig ⟨k,c,p,[n]⟩ x n hn hbs rfl (hb.2 n (by simp)) h67 (hz x hx3)
   refine⟨z.take a++[Q],fun _ y hy=>by rw[hQ y hy],fun lvl S=>?_⟩
   simp only[Zf,ptC,Zc,List.map_cons,List.map_nil] at q hx2
   have t1:Jz k=1:=by rcases h67 with rfl | rfl <;> rfl
   rw[t1] at qt hat
   simp only[Int.natCast_one] at qt hat
   have hal:a<z.length:=by omega
   refine Zb XD (by simp [low,men,Zj]) ?_
   simp only[V3,Zf,List.length_map,EVA,seval,Zj,men]
   refine Za qt ?_
   simp only[hat,hnot,EVA,seval,Zj,men]
   refine⟨by rw[Zd];omega,Za ql ?_⟩
   simp only[h3,EVA,seval,Zj,men]
   refine Za qt ?_
   simp only[hx2,List.map_cons,List.map_nil,EVA,seval,Zj,men]
   refine Za q ?_
   simp only[Zew,List.length_map,EVA,seval]
   rw[ZxZ (z:=z) (a:=a) (Q:=Q),Zx0 hat0]
   refine⟨fun g=>g.elim,by omega,by omega,by rw[Nat.sub_zero,Zht,Zew];trivial,by omega,by omega,by rw[Zss hat0];exact Nat.le_refl _,by rw[Yn (Zss hat0)] <;> rfl⟩
 ·have hlt:(z.length:Int)-(Jz k:Int)<0:=by omega
  refine⟨z,fun g=>absurd g htk,fun lvl S=>?_⟩
  rw[show decide (Jz (⟨k,c,p,ns⟩:TTermStep).kind_<=z.length)=false from decide_eq_false htk]
  simp only[Bool.false_and]
  refine Zb XD (by simp [low,men,Zj]) ?_
  simp only[V3,Zf,List.length_map,EVA,seval,Zj,men]
  refine Za qt ?_
  simp only[hlt,EVA,seval]
  rw[Zd]
  have:=ZmY (k:=k)
  omega
end Go.Fd

/-
  ALL STEPS, THE REFERENCE'S SIDE. Own work.
-/
namespace Go.Fd
set_option maxRecDepth 20000
theorem ZnM(l:List Int)(n:Int)(hl:l.length<=4294967296)(hn:n=l.length)(lvl:Nat)(S:Sto):Sem Go.Proofs.Tryz.prog W3 lvl [.tr (.sl (rI l)),iI n] S (iB (dc (ZbR l.length l))) S:=by
 subst hn
 refine Zb ZiF trivial ?_
 simp only[Zc0,EVA,seval]
 refine ZH (α:=Unit) l.length (fun j _=>[(5,iI j)]) (fun _ _=>[]) (fun j _=>∀ i:Nat,i<j->(i:Int)∈l) () (by simp only[EVA,seval]) (by (simp only[EVA,seval]) <;> rfl) (fun i hi=>absurd hi (Nat.not_lt_zero i)) ?_
 intro j _ hj hA
 simp only[List.length_map,EVA,seval,Zj,men]
 refine Zk (fun hlt=>?_) (fun hge=>?_)
 ·have hja:j<l.length:=by omega
  refine Za (ZoP l j (by omega)) ?_
  by_cases hm:(j:Int)∈l
  ·simp only[hm,EVA,seval]
   exact⟨by rw[Zd];omega,Ze () hja rfl (fun i hi=>by
    rcases Nat.lt_or_eq_of_le (Nat.le_of_lt_succ hi) with h | h
    ·exact hA i h
    ·subst h;exact hm)⟩
  ·rw[Zi fun g:ZbR l.length l=>hm (g.2 j hja)]
   simp only[hm,EVA,seval]
 ·have:j=l.length:=by omega
  subst this
  rw[ZN (show ZbR l.length l from ⟨rfl,hA⟩)]
theorem ZnN(a b:Int)(lvl:Nat)(S:Sto):Sem Go.Proofs.Tryz.prog W5 lvl [iI a,iI b] S (iI (max a b)) S:=by
 refine Zb ZiJ trivial ?_
 by_cases h:b<a
 ·rw[show max a b=a by omega]
  simp only[D0,h,EVA,seval]
 ·rw[show max a b=b by omega]
  simp only[D0,h,EVA,seval]
noncomputable def ZnO(sig:List TControl):Stk->List TTermStep->Stk
 | z,[]=>z
 | z,s::r=>match stT sig z s with
  | some z' => ZnO sig z' r
  | none=>z
theorem ZkF{sig:List TControl}{z z':Stk}{s:TTermStep}{r:List TTermStep}(h:stT sig z s=some z'):ZnO sig z (s::r)=ZnO sig z' r:=by rw[ZnO,h]
theorem Zp3{sig:List TControl}{z:Stk}{s:TTermStep}{r:List TTermStep}(h:stT sig z s=none):ZnO sig z (s::r)=z:=by rw[ZnO,h]
theorem ZkG{sig:List TControl}:∀{t:List TTermStep} {z y:Stk},t.foldlM (stT sig) z=some y->ZnO sig z t=y
 | [],z,y,h=>by
  simp only[List.foldlM_nil] at h
  exact Option.some.inj h
 | s::r,z,y,h=>by
  rw[List.foldlM_cons] at h
  cases hs:stT sig z s with
  | none=>rw[hs] at h;cases h
  | some z' =>
   rw[hs] at h
   rw[ZkF hs]
   exact ZkG h
theorem Zjl{sig:List TControl}{t:List TTermStep}{y:Stk}(h:Ze1 sig t=some y):ZnO sig ([],0) t=y:=ZkG h
theorem ZxG{sig:List TControl}{z:Stk}{s:TTermStep}(h:(decide (Jz s.kind_<=z.1.length)&&(mkR sig s (z.1.drop (z.1.length-Jz s.kind_))).isSome)=false):stT sig z s=none:=by
 rcases Bool.and_eq_false_iff.1 h with g | g
 ·exact Zjh fun k=>of_decide_eq_false g k.2
 ·exact ZmT (by simpa using g)
theorem ZkH(sig:List TControl)(t:List TTermStep)(hn:sig.length<=4294967296)(hbs:∀ y∈sig,Zo 4294967296 y)(hbt:∀ y∈t,Zv 4294967296 y)(hs:YI sig)(hl:t.length<=60)(lvl:Nat)(S:Sto):Sem Go.Proofs.Tryz.prog X7 lvl [.tr (.sl (sig.map Zh)),.tr (.sl (t.map Zf))] S (.tu [.tr (.sl ((ZnO sig ([],0) t).1.map ptC)),iI ((ZnO sig ([],0) t).2:Nat),iB (Ze1 sig t).isSome]) S:=by
 refine Zb Zj5 (by simp [low,men,Zj]) ?_
 simp only[ZeL,EVA,seval]
 refine ZH (α:=Stk) t.length (fun j z=>[(7,.tr (.sl (z.1.map ptC))),(8,iI z.2),(9,iI j)]) (fun _ _=>[]) (fun j z=>Ze1 sig (t.take j)=some z/\ZnO sig ([],0) t=ZnO sig z (t.drop j)) ([],0) (by simp only[EVA,seval]) (by (simp only[EVA,seval]) <;> rfl) ⟨by rw[List.take_zero];exact ZpN,by rw[List.drop_zero]⟩ ?_
 intro j z hj hA
 obtain⟨hA,hL⟩:=hA
 have hz:=Zeu hs hj hA
 simp only[List.length_map,EVA,seval]
 refine Zk (fun hlt=>?_) (fun hge=>?_)
 ·have hja:j<t.length:=by omega
  have ga:=Db (c:=Zf) hja
  have hb:=hbt _ (List.getElem_mem hja)
  have hsu:=ZgK (sig:=sig) hja
  rw[hA] at hsu
  rw[List.drop_eq_getElem_cons hja] at hL
  obtain⟨s,hs'⟩:∃ s,s=t[j]:=⟨_,rfl⟩
  rw[<-hs'] at ga hb hsu hL
  have hbad:stT sig z s=none->Ze1 sig t=none/\ZnO sig ([],0) t=z:=fun g=>⟨Zkx (j:=j+1) (by rw[hsu];exact g),by rw[hL,Zp3 g]⟩
  have q1:=ZnE sig s hn hb
  have q2:=fun hok=>ZnL sig s z.1 hn hbs hb hs hok hz.1 (by omega)
  obtain⟨k,c,p,ns⟩:=s
  simp only[Zf,List.map_cons,List.map_nil] at ga q1 q2
  simp only[ga,EVA,seval,Zj,men]
  refine Za q1 ?_
  cases hg:dc (stepOK sig ⟨k,c,p,ns⟩)
  ·have e:=hbad (Zjh fun g=>dc_not.1 hg g.1)
   rw[e.1,e.2]
   simp only[Option.isSome_none,EVA,seval]
  have hok:=dc_iff.1 hg
  obtain⟨V,hV,qV⟩:=q2 hok
  simp only[ga,EVA,seval,Zj,men]
  refine Za qV ?_
  cases hm:(decide (Jz k<=z.1.length)&&(mkR sig ⟨k,c,p,ns⟩ (z.1.drop (z.1.length-Jz k))).isSome)
  ·have e:=hbad (ZxG hm)
   rw[e.1,e.2]
   simp only[Option.isSome_none,EVA,seval]
  ·have h2:=Bool.and_eq_true_iff.1 hm
   have htk:Jz k<=z.1.length:=of_decide_eq_true h2.1
   obtain⟨x,hx⟩:=Option.isSome_iff_exists.1 h2.2
   have e:=ZmS hok (z:=z) htk hx
   have eV:=hV htk x hx
   have hlen:V.length=z.1.length-Jz k+1:=by
    rw[eV,List.length_append,List.length_take]
    simp <;> omega
   have hLz:=ZkF (r:=t.drop (j+1)) e
   rw[hLz] at hL
   simp only[List.length_map,EVA,seval,Zj,men]
   refine Za (ZnN _ _) ?_
   simp only[EVA,seval]
   have e5:max (z.2:Int) (V.length:Int)=((max z.2 (z.1.length-Jz k+1):Nat):Int):=by rw[hlen];omega
   rw[e5,eV]
   refine⟨by rw[Zd];omega,Ze (z.1.take (z.1.length-Jz k)++[x],max z.2 (z.1.length-Jz k+1)) hja rfl ⟨?_,hL⟩⟩
   rw[hsu]
   exact e
 ·have:j=t.length:=by omega
  subst this
  rw[List.take_length] at hA
  rw[hA,Zjl hA]
  simp only[Option.isSome_some,seval]
  try rfl
end Go.Fd

/-
  SORTING A FEW NUMBERS: slices.Sort. Own work.
-/
namespace Go.Fd
set_option maxRecDepth 20000
theorem ZrI(a b:Int)(lvl:Nat)(S:Sto):Sem Go.Proofs.Tryz.prog QJ lvl [iI a,iI b] S (iB (decide (a<b))) S:=by
 refine Zb Zhc trivial ?_
 simp only[Zca,EVA,seval,Zj,men]
 refine Za (ZoQ a) ?_
 simp only[EVA,seval]
def ZrJ(x:List Int)(i:Nat):Prop:=∀ p q,p<q->q<i->g0 x p<=g0 x q
def Zp4(x:List Int)(i j:Nat):Prop:=(∀ p q,p<q->q<=i->p≠j->q≠j->g0 x p<=g0 x q)/\∀ q,j<q->q<=i->g0 x j<=g0 x q
def swp(x:List Int)(j:Nat):List Int:=(x.set j (g0 x (j-1))).set (j-1) (g0 x j)
theorem Zst{y:List Int}{a b:Nat}{v:Int}(h:a<y.length):g0 (y.set a v) b=if a=b then v else g0 y b:=by
 show (y.set a v).getD b 0=if a=b then v else y.getD b 0
 rw[List.getD_eq_getElem?_getD,List.getElem?_set,List.getD_eq_getElem?_getD]
 by_cases e:a=b
 ·rw[if_pos e,if_pos e,if_pos (by omega)];rfl
 ·rw[if_neg e,if_neg e]
theorem ZnP{y:List Int}{i:Nat}(h:Zp4 y i 0):ZrJ y (i+1):=fun p q h1 h2=>by
 by_cases e:p=0
 ·subst e;exact h.2 q h1 (by omega)
 ·exact h.1 p q h1 (by omega) e (by omega)
theorem ZnQ{y:List Int}{i j:Nat}(h:Zp4 y i j)(hj:0<j)(hji:j<=i)(hle:g0 y (j-1)<=g0 y j):ZrJ y (i+1):=fun p q h1 h2=>by
 by_cases e:p=j
 ·subst e;exact h.2 q h1 (by omega)
 ·by_cases e2:q=j
  ·subst e2
   by_cases e3:p=q-1
   ·subst e3;exact hle
   ·exact Int.le_trans (h.1 p (q-1) (by omega) (by omega) e (by omega)) hle
  ·exact h.1 p q h1 (by omega) e e2
theorem Zp5{y:List Int}{i j:Nat}(h:Zp4 y i j)(hj:0<j)(hji:j<=i)(hi:i<y.length)(hlt:g0 y j<g0 y (j-1)):Zp4 (swp y j) i (j-1):=by
 have e:∀ b,g0 (swp y j) b=if j-1=b then g0 y j else if j=b then g0 y (j-1) else g0 y b:=fun b=>by
  unfold swp
  rw[Zst (by rw[List.length_set];omega),Zst (by omega)]
 refine⟨fun p q h1 h2 h3 h4=>?_,fun q h1 h2=>?_⟩
 ·rw[e p,e q,if_neg (show ¬ j-1=p from fun g=>h3 g.symm),if_neg (show ¬ j-1=q from fun g=>h4 g.symm)]
  by_cases ep:j=p
  ·rw[if_pos ep,if_neg (show ¬ j=q by omega)]
   exact h.1 (j-1) q (by omega) h2 (by omega) (by omega)
  ·rw[if_neg ep]
   by_cases eq:j=q
   ·rw[if_pos eq]
    exact h.1 p (j-1) (by omega) (by omega) (by omega) (by omega)
   ·rw[if_neg eq]
    exact h.1 p q h1 h2 (fun g=>ep g.symm) (fun g=>eq g.symm)
 ·rw[e (j-1),e q,if_pos rfl,if_neg (show ¬ j-1=q by omega)]
  by_cases eq:j=q
  ·rw[if_pos eq];omega
  ·rw[if_neg eq]
   exact h.2 q (by omega) h2
theorem ZrK{y:List Int}{j:Nat}(hj:0<j)(hi:j<y.length):(swp y j).Perm y:=by
 have h:=@List.set_set_perm _ y j (j-1) hi (by omega)
 have e1:g0 y j=y[j]:=by simp [g0,hi]
 have e2:g0 y (j-1)=y[j-1]'(by omega):=by
  show y.getD (j-1) 0=_
  rw[List.getD_eq_getElem?_getD,List.getElem?_eq_getElem (by omega)]
  rfl
 unfold swp
 rw[e1,e2]
 exact h
theorem ZxH{y:List Int}{j:Nat}{v:Int}(h:j<y.length):YZ (rI y) [] j 0 (.v (.int .i64 v))=rI (y.set j v):=by
 simp only[YZ]
 rw[V7 h]
 exact(List.map_set (f:=fun n:Int=>[tv n]) (l:=y) (i:=j) (a:=v)).symm
theorem ZrL(l:List Int)(hl:l.length<=12)(lvl:Nat)(S:Sto)(id:Oid)(u:Bool)(hw ver:Nat)(hid:id.1<lvl)(hS:S id=some (.ar 1 (rI l) u hw ver))(srt:List Int)(hsrt:∀ x:List Int,x.Perm l->ZrJ x l.length->x=srt) :
  Sem Go.Proofs.Tryz.prog Jn lvl [.hd id [] 0 l.length none hw,iI 0,iI l.length] S (.tu []) (ZT S id (.ar 1 (rI srt) u hw ver)):=by
 have hne:id.1≠lvl:=by omega
 refine Zb XH trivial ?_
 simp only[YA,EVA,seval]
 refine⟨by rw[Zd];omega,?_⟩
 refine ZU (α:=List Int) l.length (fun k x=>⟨lvl,[(0,.hd id [] 0 l.length none hw),(1,iI 0),(2,iI l.length),(6,iI ((k+1:Nat):Int))],[],ZT S id (.ar 1 (rI x) u hw ver)⟩) (fun k x=>x.Perm l/\ZrJ x (k+1)) l ⟨by simp only[JW hne,EVA,seval],by (simp only[Qp hS,EVA,seval]) <;> rfl⟩ ⟨List.Perm.refl _,fun p q h1 h2=>by omega⟩ ?_
 intro k x hk ⟨hA1,hA2⟩
 have hxl:x.length=l.length:=hA1.length_eq
 simp only[EVA,seval]
 refine Zk (fun hlt=>?_) (fun hge=>?_)
 ·have hk1:k+1<l.length:=by omega
  refine ZU (α:=List Int) (k+1) (fun m y=>⟨lvl,[(0,.hd id [] 0 l.length none hw),(1,iI 0),(2,iI l.length),(6,iI ((k+1:Nat):Int)),(7,iI ((k+1-m:Nat):Int))],[],ZT S id (.ar 1 (rI y) u hw ver)⟩) (fun m y=>y.Perm l/\Zp4 y (k+1) (k+1-m)) x ⟨by simp only[JW hne,EVA,seval],by (simp only[EVA,seval]) <;> rfl⟩ ⟨hA1,fun p q h1 h2 h3 h4=>hA2 p q h1 (by omega),fun q h1 h2=>by omega⟩ ?_
  intro m y hm ⟨hB1,hB2⟩
  have hyl:y.length=l.length:=hB1.length_eq
  generalize hj:k+1-m=j at hB2 ⊢
  by_cases hj0:j=0
  ·subst hj0
   simp only[EVA,seval,men]
   exact⟨by rw[Zd];omega,fun h=>absurd h hne,Ze y (by omega) rfl ⟨hB1,ZnP hB2⟩⟩
  ·have g1:(0:Int)<j:=by omega
   have e1:((j:Int)-1)=((j-1:Nat):Int):=by omega
   have gj:=V7 (l:=y) (i:=j) (by omega)
   have gj1:=V7 (l:=y) (i:=j-1) (by omega)
   have l1:j<l.length:=by omega
   have l2:j-1<l.length:=by omega
   simp only[g1,Jd hne,V5,e1,gj,gj1,l1,l2,Nat.zero_add,EVA,seval,Zj,men]
   refine⟨by rw[Zd];omega,Za (ZrI (g0 y j) (g0 y (j-1))) ?_⟩
   by_cases hlt2:g0 y j<g0 y (j-1)
   ·have s1:=ZxH (y:=y) (j:=j) (v:=g0 y (j-1)) (by omega)
    have s2:=ZxH (y:=y.set j (g0 y (j-1))) (j:=j-1) (v:=g0 y j) (by rw[List.length_set];omega)
    have gj2:=V7 (l:=y.set j (g0 y (j-1))) (i:=j-1) (by rw[List.length_set];omega)
    simp only[hlt2,Jd hne,VU hne,J8,V5,JW hne,e1,gj,gj1,gj2,s1,s2,l1,l2,Nat.zero_add,EVA,seval]
    subst hj
    refine⟨by rw[Zd];omega,by rw[Zd];omega,by rw[Zd];omega,Ze (swp y (k+1-m)) (by omega) (by rw[show k+1-(m+1)=k+1-m-1 from by omega];rfl) ⟨(ZrK (by omega) (by omega)).trans hB1,?_⟩⟩
    rw[show k+1-(m+1)=k+1-m-1 from by omega]
    exact Zp5 hB2 (by omega) (by omega) (by omega) hlt2
   ·simp only[hlt2,EVA,seval,men]
    exact⟨by rw[Zd];omega,fun h=>absurd h hne,Ze y (by omega) rfl ⟨hB1,ZnQ hB2 (by omega) (by omega) (by omega)⟩⟩
 ·have:k+1=l.length\/k=l.length:=by omega
  have hup:ZrJ x l.length:=fun p q h1 h2=>hA2 p q h1 (by omega)
  have hx:=hsrt x hA1 hup
  rw[hx]
theorem ZrM(l:List Int)(hl:l.length<=12)(r:Int)(lvl:Nat)(S:Sto)(id:Oid)(u:Bool)(hw ver:Nat)(hid:id.1<lvl)(hS:S id=some (.ar 1 (rI l) u hw ver))(srt:List Int)(hsrt:∀ x:List Int,x.Perm l->ZrJ x l.length->x=srt) :
  Sem Go.Proofs.Tryz.prog ZZ lvl [.hd id [] 0 l.length none hw,iI 0,iI l.length,iI r] S (.tu []) (ZT S id (.ar 1 (rI srt) u hw ver)):=by
 have hne:id.1≠lvl:=by omega
 refine Zb Uj trivial ?_
 simp only[VH,EVA,seval]
 refine ZU (α:=Unit) 0 (fun _ _=>⟨lvl,[(0,.hd id [] 0 l.length none hw),(1,iI 0),(2,iI l.length),(3,iI r),(8,iB true),(9,iB true)],[],S⟩) (fun _ _=>True) () ⟨by simp only[JW hne,EVA,seval],by (simp only[EVA,seval]) <;> rfl⟩ trivial ?_
 intro _ _ _ _
 have h12:(l.length:Int)-0<=12:=by omega
 simp only[h12,EVA,seval]
 refine⟨by rw[Zd];omega,?_⟩
 simp only[ZgU]
 refine Vy [] (ZT S id (.ar 1 (rI srt) u hw ver)) (fun i hi=>by unfold ZT;rw[if_neg (fun e=>hne (by rw[<-e];exact hi))]) (by
  rw[XX hne]
  exact ZrL l hl (lvl+1) (ZE lvl [] S) id u hw ver (by omega) (by rw[Jd hne];exact hS) srt hsrt) ?_
 simp only[EVA,seval]
theorem Zp6(l:List Int)(hl:l.length<=12)(lvl:Nat)(S:Sto)(id:Oid)(u:Bool)(hw ver:Nat)(hid:id.1<lvl)(hS:S id=some (.ar 1 (rI l) u hw ver))(srt:List Int)(hsrt:∀ x:List Int,x.Perm l->ZrJ x l.length->x=srt) :
  Sem Go.Proofs.Tryz.prog Y4 lvl [.hd id [] 0 l.length none hw] S (.tu []) (ZT S id (.ar 1 (rI srt) u hw ver)):=by
 have hne:id.1≠lvl:=by omega
 obtain⟨r,hr⟩:=Zlq (v:=(l.length:Int)) (by omega) (by omega)
 refine Zb Za2 trivial ?_
 simp only[Wh,EVA,seval,Zj,men]
 refine⟨⟨by show (0:Int)<=l.length;omega,by show (l.length:Int)<=18446744073709551615;omega⟩,Za hr ?_⟩
 simp only[EVA,seval]
 refine Vy [] (ZT S id (.ar 1 (rI srt) u hw ver)) (fun i hi=>by unfold ZT;rw[if_neg (fun e=>hne (by rw[<-e];exact hi))]) (by
  rw[XX hne]
  exact ZrM l hl r (lvl+1) (ZE lvl [] S) id u hw ver (by omega) (by rw[Jd hne];exact hS) srt hsrt) ?_
 simp only[EVA,seval]
end Go.Fd

/-
  THE VALUE OF A TERM, THE PROGRAM'S SIDE. Own work.
-/
namespace Go.Fd
set_option maxRecDepth 20000
theorem Zuh{x:List Int}(h:ZrJ x x.length):x.Pairwise (fun a b=>a<=b):=by
 rw[List.pairwise_iff_getElem]
 intro i j hi hj hij
 have:=h i j hij hj
 rwa [show g0 x i=x[i] by simp [hi],show g0 x j=x[j] by simp [hj]] at this
theorem ZxI{l x:List Int}(hp:x.Perm l)(h:ZrJ x l.length):x=Zlp (fun a b:Int=>a<b) l:=by
 rw[<-hp.length_eq] at h
 exact Zgt Zru ((Zuh h).imp fun h=>by omega) (Zgu Zru) (hp.trans srtG_perm.symm)
theorem ZxJ{n i:Nat}(h:i<n):(WI n)[i]? = some (i:Int):=by
 unfold WI
 simp [h]
theorem ZlK{l:List Int}{j:Nat}(h:j<l.length):(rI l)[j]? = some [tv l[j]]:=by
 show (l.map _)[j]? = _
 rw[List.getElem?_map,List.getElem?_eq_getElem h]
 rfl
theorem ZlL(n:Int)(l:List Int)(hl:l.length<=12)(hn:n=l.length)(lvl:Nat)(S:Sto):Sem Go.Proofs.Tryz.prog Wv lvl [iI n,.tr (.sl (rI l))] S (iB (dc (ZbR l.length l))) S:=by
 obtain⟨r,hr⟩:∃ r,r=Zlp (fun a b:Int=>a<b) l:=⟨_,rfl⟩
 have hrl:r.length=l.length:=by rw[hr];exact srtG_perm.length_eq
 refine Zb Zg3 trivial ?_
 simp only[Zb2,EVA,seval,Zj,men]
 refine Za (Zad l (by omega)) ?_
 simp only[List.length_map,EVA,seval]
 have s1:=fun S' hS=>Zp6 l hl (lvl+1) S' (lvl,288) true l.length 0 (Nat.lt_succ_self _) hS r (fun x hp hu=>by rw[hr];exact ZxI hp hu)
 have hord:ZbR l.length l↔r=WI l.length:=by rw[hr];exact ZpM
 refine Zi3 288 _ (s1 _ ?_) ?_
 ·rw[Yt];rfl
 simp only[EVA,seval]
 refine ZH (α:=Unit) l.length (fun j _=>[(14,iI j)]) (fun _ _=>[]) (fun j _=>∀ i:Nat,i<j->r[i]? = some (i:Int)) () (by simp only[EVA,seval]) (by (simp only[EVA,seval]) <;> rfl) (fun i hi=>absurd hi (Nat.not_lt_zero i)) ?_
 intro j _ hj hA
 simp only[List.length_map,EVA,seval]
 refine Zk (fun hlt=>?_) (fun hge=>?_)
 ·have hja:j<l.length:=by omega
  have hjr:j<r.length:=by omega
  have ga:=ZlK hjr
  simp only[ga,hja,EVA,seval]
  refine Zk (fun hq=>?_) (fun hq=>?_)
  ·have hno:¬ ZbR l.length l:=fun g=>by
    have e:=hord.1 g
    have e2:r[j]? = some (j:Int):=by rw[e];exact ZxJ hja
    rw[List.getElem?_eq_getElem hjr] at e2
    have e3:=Option.some.inj e2
    omega
   rw[Zi hno]
  ·exact⟨by rw[Zd];omega,Ze () hja rfl (fun i hi=>by
    rcases Nat.lt_or_eq_of_le (Nat.le_of_lt_succ hi) with h | h
    ·exact hA i h
    ·subst h
     rw[List.getElem?_eq_getElem hjr]
     congr 1
     omega)⟩
 ·have:j=l.length:=by omega
  subst this
  have hyes:ZbR l.length l:=hord.2 (List.ext_getElem? fun i=>by
   by_cases hi:i<l.length
   ·rw[hA i hi,ZxJ hi]
   ·rw[List.getElem?_eq_none (by omega),List.getElem?_eq_none (by rw[Y9];omega)])
  rw[ZN hyes,hn]
  simp only[EVA,seval]
end Go.Fd

/-
  THE VALUE OF A TERM, THE PROGRAM'S SIDE. Own work.
-/
namespace Go.Fd
set_option maxRecDepth 20000
noncomputable def Zp7(sig:List TControl)(t:List TTermStep):TBigraph:=(ZcB sig t).getD Jh
theorem Zex{sig:List TControl}{t:List TTermStep}(h:∀ x m,Ze1 sig t=some ([x],m) -> ¬ ZbR x.2.length x.2):ZcB sig t=none:=by
 unfold ZcB
 split
 ·split
  ·rename_i x m he
   rw[if_neg (h x m he)]
  ·rfl
 ·rfl
theorem ZmZ{sig:List TControl}{t:List TTermStep}(hs:YI sig)(hl:t.length<=60){x:Q9}{m:Nat}(hr:Ze1 sig t=some ([x],m))(ho:ZbR x.2.length x.2):ZcB sig t=some (ZmV x):=by
 unfold ZcB
 rw[if_pos ⟨hs,hl⟩,hr]
 simp only
 rw[if_pos ho]
theorem ZdG{sig:List TControl}{t:List TTermStep}(h:¬ (YI sig/\t.length<=60)):ZcB sig t=none:=by
 unfold ZcB
 rw[if_neg h]
theorem QC{sig:List TControl}{t:List TTermStep}(h:ZcB sig t=none):Zp7 sig t=Jh:=by unfold Zp7;rw[h];rfl
theorem ZkI{sig:List TControl}{t:List TTermStep}{b:TBigraph}(h:ZcB sig t=some b):Zp7 sig t=b:=by unfold Zp7;rw[h];rfl
theorem Zm0{l v ini:List Int}{j:Nat}(hl:j<l.length)(hv:j<v.length)(h0:0<=l[j])(hn:l[j]<ini.length):YZ (rI (Zhs l v ini j)) [] l[j].toNat 0 (Tr.v (.int .i64 v[j]))=rI (Zhs l v ini (j+1)):=by
 rw[Zo6 (by rw[XL];omega),Zhs,show g0 l j=l[j] by simp [hl],show g0 v j=v[j] by simp [hv]]
theorem Zaj(sig:List TControl)(t:List TTermStep)(hn:sig.length<=4294967296)(hbs:∀ y∈sig,Zo 4294967296 y)(hlt:t.length<=4294967296)(hbt:∀ y∈t,Zv 4294967296 y)(lvl:Nat)(S:Sto):Sem Go.Proofs.Tryz.prog Yv lvl [.tr (.sl (sig.map Zh)),.tr (.sl (t.map Zf))] S (.tu [Zg (Zp7 sig t),iB (ZcB sig t).isSome]) S:=by
 refine Zb Zfb (by simp [Zg,low,men,Zj]) ?_
 simp only[Zaw,EVA,seval,Zj,men]
 refine Za (YR sig (by omega) (fun y hy=>X1 (hbs y hy))) ?_
 cases hsg:dc (YI sig)
 ·have e:=ZdG (t:=t) fun g=>dc_not.1 hsg g.1
  rw[e,QC e]
  simp only[Option.isSome_none,EVA,seval]
  try rfl
 have hs:=dc_iff.1 hsg
 simp only[List.length_map,EVA,seval,Zj,men]
 refine Zk (fun hlo=>?_) (fun hlo=>?_)
 ·have e:=ZdG (sig:=sig) (t:=t) fun g=>by have:=g.2;omega
  rw[e,QC e]
  simp only[Option.isSome_none,seval]
  try rfl
 have hl60:t.length<=60:=by omega
 refine Za (ZgM sig t hn hbs hbt hs hl60) ?_
 cases hr:Ze1 sig t with
 | none =>
  have e:ZcB sig t=none:=Zex fun x m g=>by rw[hr] at g;cases g
  rw[e,QC e]
  simp only[Option.isSome_none,EVA,seval]
  try rfl
 | some z =>
  rw[ZdF hr]
  obtain⟨L,m⟩:=z
  have hz:=Zeu hs (j:=t.length) (Nat.le_refl _) (by rw[List.take_length];exact hr)
  simp only[Option.isSome_some,List.length_map,EVA,seval]
  refine Zk (fun h1=>?_) (fun h1=>?_)
  ·obtain⟨x,rfl⟩:∃ x,L=[x]:=ZkE (by have:=of_decide_eq_false h1;omega)
   have hp:=hz.1 x (by simp)
   have h4:=hp.big.sitesL
   have hlen:=hp.len
   have ga:([x].map ptC)[0]? = some (ptC x):=rfl
   have hf:(decide ¬ ((([x]:List Q9).length:Nat):Int)=1)=false:=h1
   have q:=ZlL (x.2.length:Int) x.2 (by omega) rfl
   simp only[ptC,Zc,List.map_cons,List.map_nil,List.length_map,List.length_cons,List.length_nil,EVA,seval,Zj,men]
   refine Za q ?_
   cases ho:dc (ZbR x.2.length x.2)
   ·have e:ZcB sig t=none:=Zex fun y m' g=>by
     rw[hr] at g
     cases g
     exact dc_not.1 ho
    rw[e,QC e]
    simp only[Option.isSome_none,EVA,seval]
    try rfl
   have hord:=dc_iff.1 ho
   have e:=ZmZ hs hl60 hr hord
   rw[e,ZkI e]
   have qo:=Wb x.1 (Qh (by omega) (QM hp.big))
   simp only[Zc,List.map_cons,List.map_nil] at qo
   simp only[Option.isSome_some,EVA,seval,Zj,men]
   refine Za qo ?_
   simp only[Zg,List.length_map,EVA,seval]
   refine ZH (α:=Unit) x.2.length (fun j _=>[(59,iI j)]) (fun j _=>[(1697,.ar 1 (rI (Zhs x.2 x.1.sites x.1.sites j)) true x.1.sites.length 0)]) (fun _ _=>True) () (by simp only[EVA,seval]) (by (simp only[Zhs,EVA,seval]) <;> rfl) trivial ?_
   intro j _ hj _
   simp only[List.length_map,EVA,seval]
   refine Zk (fun hlt2=>?_) (fun hge=>?_)
   ·have hja:j<x.2.length:=by omega
    have hjs:j<x.1.sites.length:=by omega
    have gk:=ZlK hja
    have gv:=ZlK hjs
    have hm:=Zkw hord (List.getElem_mem hja)
    have hst:=Zm0 (ini:=x.1.sites) hja hjs hm.1 (by omega)
    have hkl:x.2[j].toNat<x.1.sites.length:=by omega
    have gp:=ZlK (l:=Zhs x.2 x.1.sites x.1.sites j) (j:=x.2[j].toNat) (by rw[XL];exact hkl)
    simp only[gk,gv,gp,hst,hkl,List.getElem?_cons_zero,EVA,seval]
    exact⟨hm.1,by rw[Zd];omega,Ze () hja rfl trivial⟩
   ·have:j=x.2.length:=by omega
    subst this
    simp only[XL,EVA,seval]
    try rfl
  ·have e:ZcB sig t=none:=Zex fun x m' g=>by
    rw[hr] at g
    cases g
    simp at h1
   rw[e,QC e]
   simp only[Option.isSome_none,seval]
   try rfl
end Go.Fd

/-
  THE VALUE OF A TERM, THE REFERENCE'S SIDE. Own work.
-/
namespace Go.Fd
set_option maxRecDepth 20000
theorem Zcy(sig:List TControl)(t:List TTermStep)(hn:sig.length<=4294967296)(hbs:∀ y∈sig,Zo 4294967296 y)(hlt:t.length<=4294967296)(hbt:∀ y∈t,Zv 4294967296 y)(lvl:Nat)(S:Sto):Sem Go.Proofs.Tryz.prog Vc lvl [.tr (.sl (sig.map Zh)),.tr (.sl (t.map Zf))] S (.tu [Zg (Zp7 sig t),iB (ZcB sig t).isSome]) S:=by
 refine Zb Zg1 (by simp [Zg,low,men,Zj]) ?_
 simp only[Zb0,EVA,seval,Zj,men]
 refine Za (Zgm sig (by omega) (fun y hy=>X1 (hbs y hy))) ?_
 cases hsg:dc (YI sig)
 ·have e:=ZdG (t:=t) fun g=>dc_not.1 hsg g.1
  rw[e,QC e]
  simp only[Option.isSome_none,EVA,seval]
  try rfl
 have hs:=dc_iff.1 hsg
 simp only[List.length_map,EVA,seval,Zj,men]
 refine Zk (fun hlo=>?_) (fun hlo=>?_)
 ·have e:=ZdG (sig:=sig) (t:=t) fun g=>by have:=g.2;omega
  rw[e,QC e]
  simp only[Option.isSome_none,seval]
  try rfl
 have hl60:t.length<=60:=by omega
 refine Za (ZkH sig t hn hbs hbt hs hl60) ?_
 cases hr:Ze1 sig t with
 | none =>
  have e:ZcB sig t=none:=Zex fun x m g=>by rw[hr] at g;cases g
  rw[e,QC e]
  simp only[Option.isSome_none,EVA,seval]
  try rfl
 | some z =>
  rw[Zjl hr]
  obtain⟨L,m⟩:=z
  have hz:=Zeu hs (j:=t.length) (Nat.le_refl _) (by rw[List.take_length];exact hr)
  simp only[Option.isSome_some,List.length_map,EVA,seval]
  refine Zk (fun h1=>?_) (fun h1=>?_)
  ·obtain⟨x,rfl⟩:∃ x,L=[x]:=ZkE (by have:=of_decide_eq_false h1;omega)
   have hp:=hz.1 x (by simp)
   have h4:=hp.big.sitesL
   have hlen:=hp.len
   have ga:([x].map ptC)[0]? = some (ptC x):=rfl
   have hf:(decide ¬ ((([x]:List Q9).length:Nat):Int)=1)=false:=h1
   have q:=ZnM x.2 (x.2.length:Int) (by omega) rfl
   simp only[ptC,Zc,List.map_cons,List.map_nil,List.length_map,List.length_cons,List.length_nil,EVA,seval,Zj,men]
   refine Za q ?_
   cases ho:dc (ZbR x.2.length x.2)
   ·have e:ZcB sig t=none:=Zex fun y m' g=>by
     rw[hr] at g
     cases g
     exact dc_not.1 ho
    rw[e,QC e]
    simp only[Option.isSome_none,EVA,seval]
    try rfl
   have hord:=dc_iff.1 ho
   have e:=ZmZ hs hl60 hr hord
   rw[e,ZkI e]
   have qo:=Znr sig x.1 hp.big
   simp only[Zc,List.map_cons,List.map_nil] at qo
   simp only[Option.isSome_some,EVA,seval,Zj,men]
   refine Za qo ?_
   simp only[Zg,List.length_map,EVA,seval]
   obtain⟨R,hR⟩:∃ R,R=List.replicate x.2.length (0:Int):=⟨_,rfl⟩
   have hRl:R.length=x.2.length:=by rw[hR,List.length_replicate]
   have hrep:rI R=List.replicate x.2.length [Tr.v (Value.int .i64 0)]:=by rw[hR];show List.map _ _=_;rw[List.map_replicate]
   refine⟨by omega,?_⟩
   refine ZH (α:=Unit) x.2.length (fun j _=>[(11,iI j)]) (fun j _=>[(1888,.ar 1 (rI (Zhs x.2 x.1.sites R j)) true x.2.length 0)]) (fun _ _=>True) () (by simp only[EVA,seval]) (by (simp only[Zhs,hrep,EVA,seval]) <;> rfl) trivial ?_
   intro j _ hj _
   simp only[List.length_map,EVA,seval]
   refine Zk (fun hlt2=>?_) (fun hge=>?_)
   ·have hja:j<x.2.length:=by omega
    have hjs:j<x.1.sites.length:=by omega
    have gk:=ZlK hja
    have gv:=ZlK hjs
    have hm:=Zkw hord (List.getElem_mem hja)
    have hst:=Zm0 (ini:=R) hja hjs hm.1 (by omega)
    have hkl:x.2[j].toNat<x.2.length:=by omega
    have gp:=ZlK (l:=Zhs x.2 x.1.sites R j) (j:=x.2[j].toNat) (by rw[XL];omega)
    simp only[gk,gv,gp,hst,hkl,hjs,List.getElem?_cons_zero,EVA,seval]
    exact⟨hm.1,by rw[Zd];omega,Ze () hja rfl trivial⟩
   ·have:j=x.2.length:=by omega
    subst this
    have hpa:=Zrv (v:=x.1.sites) (a:=R) (b:=x.1.sites) hord hRl (by omega)
    rw[hpa]
    simp only[XL,seval]
    exact⟨hlen,rfl⟩
  ·have e:ZcB sig t=none:=Zex fun x m' g=>by
    rw[hr] at g
    cases g
    simp at h1
   rw[e,QC e]
   simp only[Option.isSome_none,seval]
   try rfl
end Go.Fd

/-
  IsTerm, TermValue, TermDepth: BOTH SIDES. Own work.
-/
namespace Go.Fd
set_option maxRecDepth 20000
noncomputable def ZdH(sig:List TControl)(t:List TTermStep):Bool:=(ZcB sig t).isSome
noncomputable def ZdI(sig:List TControl)(_t:List TTermStep):Bool:=dc (YI sig)
theorem ZrN{sig:List TControl}{t:List TTermStep}(h:¬ YI sig):ZcB sig t=none:=ZdG fun g=>h g.1
theorem ZgN(sig:List TControl)(t:List TTermStep)(hn:sig.length<=4294967296)(hbs:∀ y∈sig,Zo 4294967296 y)(hlt:t.length<=4294967296)(hbt:∀ y∈t,Zv 4294967296 y)(lvl:Nat)(S:Sto):Sem Go.Proofs.Tryz.prog W1 lvl [.tr (.sl (sig.map Zh)),.tr (.sl (t.map Zf))] S (.tu [iB (ZdH sig t),iB (ZdI sig t)]) S:=by
 unfold ZdH ZdI
 have q:=Zcy sig t hn hbs hlt hbt
 obtain⟨V,hV⟩:∃ V,V=Zp7 sig t:=⟨_,rfl⟩
 rw[<-hV] at q
 refine Zb ZiC (by simp [low,men,Zj]) ?_
 simp only[ZcW,EVA,seval,Zj,men]
 refine Za q ?_
 simp only[Zg,List.length_map,EVA,seval,Zj,men]
 refine Za (Zgm sig (by omega) (fun y hy=>X1 (hbs y hy))) ?_
 simp only[EVA,seval]
theorem ZgO(sig:List TControl)(t:List TTermStep)(hn:sig.length<=4294967296)(hbs:∀ y∈sig,Zo 4294967296 y)(hlt:t.length<=4294967296)(hbt:∀ y∈t,Zv 4294967296 y)(lvl:Nat)(S:Sto):Sem Go.Proofs.Tryz.prog W2 lvl [.tr (.sl (sig.map Zh)),.tr (.sl (t.map Zf))] S (.tu [iB (ZdH sig t),iB (ZdI sig t)]) S:=by
 unfold ZdH ZdI
 have q:=Zaj sig t hn hbs hlt hbt
 obtain⟨V,hV⟩:∃ V,V=Zp7 sig t:=⟨_,rfl⟩
 rw[<-hV] at q
 refine Zb ZiD (by simp [low,men,Zj]) ?_
 simp only[ZcX,EVA,seval,Zj,men]
 refine Za (YR sig (by omega) (fun y hy=>X1 (hbs y hy))) ?_
 cases hsg:dc (YI sig)
 ·rw[ZrN (dc_not.1 hsg)]
  simp only[Option.isSome_none,EVA,seval]
 ·simp only[EVA,seval,Zj,men]
  refine Za q ?_
  simp only[Zg,List.length_map,EVA,seval]
theorem Zp8{sig:List TControl}{t:List TTermStep}:ZBR sig t=Zp7 sig t:=rfl
theorem ZdJ(sig:List TControl)(t:List TTermStep)(hn:sig.length<=4294967296)(hbs:∀ y∈sig,Zo 4294967296 y)(hlt:t.length<=4294967296)(hbt:∀ y∈t,Zv 4294967296 y)(lvl:Nat)(S:Sto):Sem Go.Proofs.Tryz.prog Xm lvl [.tr (.sl (sig.map Zh)),.tr (.sl (t.map Zf))] S (.tu [Zg (ZS sig t),iB (UT sig t)]) S:=by
 unfold ZS UT
 rw[Zp8]
 have q:=Zcy sig t hn hbs hlt hbt
 refine Zb Ze9 (by simp [Zg,low,men,Zj]) ?_
 simp only[Zau,EVA,seval,Zj,men]
 refine Za q ?_
 simp only[Zg,List.length_map,EVA,seval]
theorem UU(sig:List TControl)(t:List TTermStep)(hn:sig.length<=4294967296)(hbs:∀ y∈sig,Zo 4294967296 y)(hlt:t.length<=4294967296)(hbt:∀ y∈t,Zv 4294967296 y)(lvl:Nat)(S:Sto):Sem Go.Proofs.Tryz.prog Vo lvl [.tr (.sl (sig.map Zh)),.tr (.sl (t.map Zf))] S (.tu [Zg (ZS sig t),iB (UT sig t)]) S:=by
 unfold ZS UT
 rw[Zp8]
 have q:=Zaj sig t hn hbs hlt hbt
 refine Zb Zfa (by simp [Zg,low,men,Zj]) ?_
 simp only[Zav,EVA,seval,Zj,men]
 refine Za q ?_
 simp only[Zg,List.length_map,EVA,seval]
theorem Zm1{sig:List TControl}{t:List TTermStep}{b:TBigraph}(h:ZcB sig t=some b):YI sig/\t.length<=60/\∃ z,Ze1 sig t=some z:=by
 unfold ZcB at h
 split at h
 ·rename_i g
  refine⟨g.1,g.2,?_⟩
  cases hr:Ze1 sig t with
  | none=>rw[hr] at h;cases h
  | some z=>exact⟨z,rfl⟩
 ·cases h
open Classical in
noncomputable def UV(sig:List TControl)(t:List TTermStep):Int:=if (ZcB sig t).isSome then ((Zuf sig t).2:Nat) else 0
noncomputable def UW(sig:List TControl)(t:List TTermStep):Bool:=(ZcB sig t).isSome
theorem ZdK(sig:List TControl)(t:List TTermStep)(hn:sig.length<=4294967296)(hbs:∀ y∈sig,Zo 4294967296 y)(hlt:t.length<=4294967296)(hbt:∀ y∈t,Zv 4294967296 y)(lvl:Nat)(S:Sto):Sem Go.Proofs.Tryz.prog Xj lvl [.tr (.sl (sig.map Zh)),.tr (.sl (t.map Zf))] S (.tu [iI (UV sig t),iB (UW sig t)]) S:=by
 unfold UV UW
 have q:=Zcy sig t hn hbs hlt hbt
 obtain⟨V,hV⟩:∃ V,V=Zp7 sig t:=⟨_,rfl⟩
 rw[<-hV] at q
 refine Zb Ze7 (by simp [low,men,Zj]) ?_
 simp only[Zas,EVA,seval,Zj,men]
 refine Za q ?_
 cases hv:ZcB sig t with
 | none =>
  simp only[Zg,Option.isSome_none,Bool.false_eq_true,List.length_map,EVA,seval]
 | some b =>
  obtain⟨hs,hl,z,hr⟩:=Zm1 hv
  simp only[Zg,Option.isSome_some,List.length_map,EVA,seval,Zj,men]
  refine Za (ZkH sig t hn hbs hbt hs hl) ?_
  rw[Zjl hr,hr,ZdF hr]
  simp only[Option.isSome_some,EVA,seval]
theorem ZdL(sig:List TControl)(t:List TTermStep)(hn:sig.length<=4294967296)(hbs:∀ y∈sig,Zo 4294967296 y)(hlt:t.length<=4294967296)(hbt:∀ y∈t,Zv 4294967296 y)(lvl:Nat)(S:Sto):Sem Go.Proofs.Tryz.prog Xk lvl [.tr (.sl (sig.map Zh)),.tr (.sl (t.map Zf))] S (.tu [iI (UV sig t),iB (UW sig t)]) S:=by
 unfold UV UW
 have q:=Zaj sig t hn hbs hlt hbt
 obtain⟨V,hV⟩:∃ V,V=Zp7 sig t:=⟨_,rfl⟩
 rw[<-hV] at q
 refine Zb Ze8 (by simp [low,men,Zj]) ?_
 simp only[Zat,EVA,seval,Zj,men]
 refine Za q ?_
 cases hv:ZcB sig t with
 | none =>
  simp only[Zg,Option.isSome_none,Bool.false_eq_true,List.length_map,EVA,seval]
 | some b =>
  obtain⟨hs,hl,z,hr⟩:=Zm1 hv
  simp only[Zg,Option.isSome_some,List.length_map,EVA,seval,Zj,men]
  refine Za (ZgM sig t hn hbs hbt hs hl) ?_
  rw[hr,ZdF hr]
  simp only[Option.isSome_some,EVA,seval]
end Go.Fd
