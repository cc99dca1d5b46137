/-
  BIGRAPHS SIDE BY SIDE: IN PLAIN TERMS, AND THE REFERENCE'S SIDE. Own work.
-/
import Derived.Test.YtfgceefkblbbjaaGreatDoorT06
import Derived.Shelf.SlSortCmp.WholeK
set_option linter.all false
namespace Go.Fd
set_option maxRecDepth 20000
def wlt(x y:TWire):Prop:=ltS x.name y.name
open Classical in
noncomputable def ZmH:List TWire->TWire->List TWire
 | [],w=>[w]
 | x::r,w=>if wlt x w then x::ZmH r w else w::x::r
theorem Zob{w:TWire}:∀{O:List TWire}{k:Nat},k<=O.length->(∀ y∈O.take k,wlt y w)->(∀ h:k<O.length,¬ wlt O[k] w)->ZmH O w=O.take k++([w]++O.drop k)
 | [],0,_,_,_=>rfl
 | [],k+1,h,_,_=>by simp at h
 | x::r,0,_,_,h2=>by
  have:¬ wlt x w:=h2 (by simp)
  rw[ZmH,if_neg this]
  rfl
 | x::r,k+1,h,h1,h2=>by
  have:wlt x w:=h1 x (by simp)
  rw[ZmH,if_pos this,Zob (k:=k) (by simpa using h) (fun y hy=>h1 y (by simp [hy])) (fun h3=>by
   have:=h2 (by simpa using h3)
   simpa using this)]
  simp
theorem insW_perm{w:TWire}:∀{O:List TWire},(ZmH O w).Perm (w::O)
 | []=>List.Perm.refl _
 | x::r=>by
  rw[ZmH]
  split
  ·exact(List.Perm.cons x insW_perm).trans (List.Perm.swap w x r)
  ·exact List.Perm.refl _
theorem Zoc{w:TWire}:∀{O:List TWire},O.Pairwise wlt->(∀ x∈O,x.name≠w.name)->(ZmH O w).Pairwise wlt
 | [],_,_=>List.pairwise_singleton ..
 | x::r,h,hn=>by
  have hc:=List.pairwise_cons.1 h
  rw[ZmH]
  split
  ·rename_i hlt
   refine List.pairwise_cons.2 ⟨fun y hy=>?_,Zoc hc.2 fun z hz=>hn z (by simp [hz])⟩
   rcases List.mem_cons.1 (insW_perm.mem_iff.1 hy) with rfl | hy
   ·exact hlt
   ·exact hc.1 y hy
  ·rename_i hlt
   have hwx:wlt w x:=by
    rcases ordsS.tri x.name w.name with q | q | q
    ·exact absurd q hlt
    ·exact absurd q (hn x (by simp))
    ·exact q
   refine List.pairwise_cons.2 ⟨fun y hy=>?_,h⟩
   rcases List.mem_cons.1 hy with rfl | hy
   ·exact hwx
   ·exact ordsS.tr _ _ _ hwx (hc.1 y hy)
noncomputable def UF(a b:List TWire):List TWire:=b.foldl ZmH a
theorem wjoin_perm:∀{b a:List TWire},(UF a b).Perm (a++b)
 | [],a=>by simp [UF]
 | w::r,a=>by
  have h:=wjoin_perm (b:=r) (a:=ZmH a w)
  refine h.trans ?_
  refine(insW_perm.append_right r).trans ?_
  exact List.perm_middle.symm
theorem ZcK{a b:List TWire}:(UF a b).length=a.length+b.length:=by rw[wjoin_perm.length_eq,List.length_append]
theorem Zmi{a b:List TWire}{j:Nat}(h:j<b.length):UF a (b.take (j+1))=ZmH (UF a (b.take j)) b[j]:=by
 unfold UF
 rw[List.take_succ_eq_append_getElem h,List.foldl_append]
 rfl
theorem Zlx:∀{b a:List TWire},a.Pairwise wlt->b.Pairwise wlt->(∀ x∈a,∀ y∈b,x.name≠y.name)->(UF a b).Pairwise wlt
 | [],a,ha,_,_=>ha
 | w::r,a,ha,hb,hd=>by
  have hc:=List.pairwise_cons.1 hb
  refine Zlx (b:=r) (a:=ZmH a w) (Zoc ha fun x hx=>hd x hx w (by simp)) hc.2 fun x hx y hy=>?_
  rcases List.mem_cons.1 (insW_perm.mem_iff.1 hx) with rfl | hx
  ·intro e
   have:=hc.1 y hy
   unfold wlt at this
   rw[e] at this
   exact ordsS.irr _ this
  ·exact hd x hx y (by simp [hy])
theorem ZAu{l:List TWire}{j:Nat}:cut (l.map Jc) 0 (j-0)=(l.take j).map Jc:=by simp [cut,List.map_take]
theorem Zv8{l:List TWire}{j:Nat}:cut (l.map Jc) j (l.length-j)=(l.drop j).map Jc:=by
 simp only[cut,<-List.map_drop]
 rw[List.take_of_length_le (by rw[List.length_map,List.length_drop];omega)]
theorem ZqY{a b:List TWire}{x:TWire}:a.map Jc++[[Tr.v (Value.string x.name),Tr.v (Value.int .i64 x.link)]]++b.map Jc=(a++([x]++b)).map Jc:=by simp [Jc]
theorem Zkj(a b:List TWire)(hl:a.length+b.length<=4294967290)(lvl:Nat)(S:Sto):Sem Go.Proofs.Tryz.prog Wf lvl [.tr (.sl (a.map Jc)),.tr (.sl (b.map Jc))] S (.ow 2 ((UF a b).map Jc) true) S:=by
 refine Zb Zf3 (by simp [low,men]) ?_
 simp only[Zbs,Zv0,Zv1,Nat.zero_max,List.length_map,EVA,seval]
 refine⟨by omega,?_⟩
 refine ZB (α:=Unit) b.length (fun j _=>[(5,.hd (lvl,160) [] 0 (UF a (b.take j)).length none (UF a (b.take j)).length),(6,iI j)]) (fun j _=>[(160,.ar 2 ((UF a (b.take j)).map Jc) true (UF a (b.take j)).length 0)]) (fun _ _=>True) () (by simp only[EVA,seval]) (by simp only[List.take_zero,UF,List.foldl_nil]; (simp only[EVA,seval]) <;> rfl) trivial ?_
 intro j _ hj _
 simp only[List.length_map,EVA,seval]
 refine Zn (fun hlt=>?_) (fun hge=>?_)
 ·have hja:j<b.length:=by omega
  have ga:=W9 (c:=Jc) hja
  obtain⟨O,hO⟩:∃ O,O=UF a (b.take j):=⟨_,rfl⟩
  have hOl:O.length=a.length+j:=by rw[hO,ZcK,List.length_take];omega
  have hsucc:=Zmi (a:=a) hja
  rw[<-hO] at hsucc
  rw[<-hO]
  refine ZB (α:=Unit) O.length (fun k _=>[(7,iI k)]) (fun _ _=>[]) (fun k _=>∀ y∈O.take k,wlt y b[j]) () (by simp only[EVA,seval]) (by (simp only[EVA,seval]) <;> rfl) (by simp) ?_
  intro k _ hk hK
  have hput:=Zob (w:=b[j]) hk hK
  have hpl:(O.take k++([b[j]]++O.drop k)).length=O.length+1:=by
   simp only[List.length_append,List.length_take,List.length_drop,List.length_cons,List.length_nil]
   omega
  have hm:min k O.length=k:=by omega
  have hq1:k+1+(O.length-k)=O.length+1:=by omega
  have hq2:max (max (max 0 k) (k+1)) (O.length+1)=O.length+1:=by omega
  have hq3:k+(O.length-k)=O.length:=by omega
  have hfit:Xt .i64 ((j:Int)+1):=by rw[Zd];omega
  simp only[List.length_map,EVA,seval]
  refine Zn (fun hlt2=>?_) (fun hge2=>?_)
  ·have hka:k<O.length:=by omega
   have gk:=W9 (c:=Jc) hka
   simp only[ga,gk,Jc,hka,hm,hq1,hq2,hq3,ZAu,Zv8,Zv0,Zv1,List.length_append,List.length_take,List.length_drop,List.length_map,EVA,seval]
   refine Zn (fun h1=>?_) (fun h1=>?_)
   ·exact⟨by rw[Zd];omega,Ze () hka rfl fun y hy=>by
     rw[List.take_succ_eq_append_getElem hka] at hy
     rcases List.mem_append.1 hy with hy | hy
     ·exact hK y hy
     ·rw[List.mem_singleton.1 hy];exact h1⟩
   ·have hp:=hput fun _=>h1
    exact⟨by omega,by omega,by omega,by omega,by omega,by omega,by omega,by omega,hfit,Ze () hja (by rw[hsucc,hp,hpl,<-ZqY];rfl) trivial⟩
  ·have:k=O.length:=by omega
   subst this
   simp only[ga,Jc,hq1,hq2,hq3,Zv8,Zv0,Zv1,List.length_append,List.length_drop,List.length_map,EVA,seval]
   have hp:=hput fun h=>absurd h (by omega)
   rw[List.take_length] at hp hpl
   exact⟨by omega,by omega,by omega,by omega,by omega,hfit,Ze () hja (by rw[hsucc,hp,hpl,<-ZqY];rfl) trivial⟩
 ·have:j=b.length:=by omega
  subst this
  rw[List.take_length]
def ZsJ(J:TBigraph)(w:List TWire):TBigraph:=⟨J.roots,J.nodes,J.sites,J.edges,J.outer,w⟩
def Zkk(a:TBigraph)(p:Int):Int:=if 0<=p then p+a.nodes.length else p-a.roots
noncomputable def Zmj(a b:TBigraph):List Int:=Zlq a (a.edges+b.edges) (Yw a b)
noncomputable def Zod(a b:TBigraph):List Int:=ZnY a b fun x=>a.edges+b.edges+ixS (Yw a b) x
noncomputable def Zs5(a b:TBigraph):TBigraph:=Zax a b (a.roots+b.roots) a.sites (Yw a b) (fun l=>g0 (Zmj a b) l.toNat) (fun l=>g0 (Zod a b) l.toNat) (Zkk a)
noncomputable def ZcU(a b:TBigraph):TBigraph:=ZsJ (Zs5 a b) (UF (a.inner.map (ZaT fun l=>g0 (Zmj a b) l.toNat)) (b.inner.map (ZaT fun l=>g0 (Zod a b) l.toNat)))
theorem Zkl{r:Int}{n:Nat}{k:Nat}(h:k<n):g0 (JC r n) k = -1-r-(k:Int):=by
 show (JC r n).getD k 0=_
 rw[List.getD_eq_getElem?_getD,JC,List.getElem?_map,List.getElem?_range h]
 simp
theorem Zly{a b:TBigraph}{n:Nat}(hn:b.roots=n){p:Int}(h:-b.roots<=p):Zdj a.nodes.length (JC a.roots n) p=Zkk a p:=by
 unfold Zdj Zkk
 by_cases h0:0<=p
 ·rw[if_neg (by omega),if_pos h0]
 ·rw[if_pos (by omega),if_neg h0,Zkl (by omega)]
  omega
theorem Zoe{sig:List TControl}{a b:TBigraph}(h:bigOK sig b){n:Nat}(hn:b.roots=n){ls:List Int}:b.nodes.map (Zfj a.nodes.length (JC a.roots n) ls)=b.nodes.map (fun x=>({ control:=x.control,parent:=Zkk a x.parent,links:=x.links.map fun l=>g0 ls l.toNat }:TNode)):=List.map_congr_left fun x hx=>by
 obtain⟨k,hk,rfl⟩:=List.getElem_of_mem hx
 unfold Zfj
 rw[Zly hn (Jo h.roots.1 (h.nodes k hk).par)]
theorem Zof{sig:List TControl}{a b:TBigraph}(h:bigOK sig b){n:Nat}(hn:b.roots=n):b.sites.map (Zdj a.nodes.length (JC a.roots n))=b.sites.map (Zkk a):=List.map_congr_left fun p hp=>Zly hn (Jo h.roots.1 (h.sites p hp))
theorem Zmk(sig:List TControl)(a b:TBigraph)(ha:bigOK sig a)(hb:bigOK sig b)(lvl:Nat)(S:Sto):Sem Go.Proofs.Tryz.prog WQ lvl [.ag ((Zc a).map .tr),.ag ((Zc b).map .tr)] S (Zp1 (ZcU a b) false) S:=by
 have ra:=ha.roots;have rb:=hb.roots
 have ea:=ha.edges;have eb:=hb.edges
 have sa:=ha.small;have sb:=hb.small
 have a1:=sa.nodes;have a2:=sa.sites;have a3:=sa.inner;have a4:=sa.outer
 have b1:=sb.nodes;have b2:=sb.sites;have b3:=sb.inner;have b4:=sb.outer
 have hol:=X1 (a:=a) (b:=b)
 obtain⟨n,hn⟩:∃ n:Nat,a.roots=n:=⟨a.roots.toNat,by omega⟩
 obtain⟨n2,hn2⟩:∃ n:Nat,b.roots=n:=⟨b.roots.toNat,by omega⟩
 obtain⟨m,hm⟩:∃ m:Nat,a.edges=m:=⟨a.edges.toNat,by omega⟩
 obtain⟨k,hk⟩:∃ k:Nat,b.edges=k:=⟨b.edges.toNat,by omega⟩
 obtain⟨L,hL⟩:∃ L,L=Zmj a b:=⟨_,rfl⟩
 obtain⟨R,hR⟩:∃ R,R=Zod a b:=⟨_,rfl⟩
 have lenL:(L.length:Int)=a.edges+a.outer.length:=by rw[hL];exact Zlr ea.1
 have lenR:(R.length:Int)=b.edges+b.outer.length:=by rw[hR];exact Zlr eb.1
 have w1:rI (Uc 0 m)++rI (a.outer.map fun x=>(m:Int)+k+ixS (Yw a b) x)=rI L:=by rw[<-Yx,hL,Zmj,<-Zn0 hm,hm,hk]
 have w2:m+a.outer.length=L.length:=by omega
 have w3:rI (Uc (m:Int) k)++rI (b.outer.map fun x=>(m:Int)+k+ixS (Yw a b) x)=rI R:=by rw[<-Yx,hR,Zod,<-Zn1 hk,hm,hk]
 have w4:k+b.outer.length=R.length:=by omega
 have w5:max m L.length=L.length:=by omega
 have w6:max k R.length=R.length:=by omega
 have c1:cut (rI L) 0 L.length=rI L:=Yb (by rw[List.length_map])
 have c2:cut (rI R) 0 R.length=rI R:=Yb (by rw[List.length_map])
 refine Zb ZhB (by simp [low,men,Zj]) ?_
 simp only[Zcm,Zc,ZnM,ZnN,hn,hn2,hm,hk,Nat.zero_max,List.length_map,EVA,seval,Zj,men]
 rw[show cut (rS a.outer++rS b.outer) 0 (a.outer.length+b.outer.length)=rS (a.outer++b.outer) from by
  rw[<-Zgx]
  exact Yb (by simp [rS])]
 refine⟨by omega,by omega,by simp [rS],Za (Up (a.outer++b.outer) (by rw[List.length_append];omega)) ?_⟩
 rw[show Vc (a.outer++b.outer)=Yw a b from rfl]
 simp only[List.length_map,EVA,seval,Zj,men]
 have c0:cut (rS (Yw a b)) 0 (Yw a b).length=rS (Yw a b):=Yb (by rw[List.length_map])
 refine⟨by rw[Zd];omega,Za (W0 0 m (by omega) (by omega)) ?_⟩
 simp only[c0,fromN_len,List.length_map,EVA,seval,Zj,men]
 refine Za (W3 a.outer (m+k) (Yw a b) (by omega) (by omega) (by omega)) ?_
 simp only[Zcz,ZcA,w1,w2,w5,fromN_len,List.length_map,EVA,seval,Zj,men]
 refine⟨by omega,Za (W0 m k (by omega) (by omega)) ?_⟩
 simp only[c0,fromN_len,List.length_map,EVA,seval,Zj,men]
 refine Za (W3 b.outer (m+k) (Yw a b) (by omega) (by omega) (by omega)) ?_
 simp only[Zcz,ZcA,w3,w4,w6,fromN_len,List.length_map,EVA,seval,Zj,men]
 refine⟨by omega,Za (Dv 0 n (by omega) (by omega)) ?_⟩
 simp only[EVA,seval,Zj,men]
 refine Za (Dv n n2 (by omega) (by omega)) ?_
 simp only[c1,List.length_map,EVA,seval,Zj,men]
 refine⟨by rw[Zd];omega,?_⟩
 have q2:=W1 a 0 (JC 0 n) L (by omega) (by omega) (Zlt ha (by rw[rootsN_len];omega) lenL)
 rw[Zlv ha hn] at q2
 simp only[Zc,hn,hm,List.map_cons,List.map_nil] at q2
 refine Za q2 ?_
 simp only[c2,List.length_map,EVA,seval,Zj,men]
 have q3:=W1 b a.nodes.length (JC a.roots n2) R (by omega) (by omega) (Zlt hb (by rw[rootsN_len];omega) lenR)
 rw[Zoe hb hn2] at q3
 simp only[Zc,hn,hn2,hk,List.map_cons,List.map_nil] at q3
 refine Za q3 ?_
 simp only[ZA3,List.length_map,EVA,seval,Zj,men]
 refine⟨by omega,?_⟩
 have q4:=XF a 0 (JC 0 n) (by omega) (by omega) (Zlu ha (by rw[rootsN_len];omega))
 rw[Zlw ha hn] at q4
 simp only[Zc,hn,hm,List.map_cons,List.map_nil] at q4
 refine Za q4 ?_
 simp only[List.length_map,EVA,seval,Zj,men]
 have q5:=XF b a.nodes.length (JC a.roots n2) (by omega) (by omega) (Zlu hb (by rw[rootsN_len];omega))
 rw[Zof hb hn2] at q5
 simp only[Zc,hn,hn2,hk,List.map_cons,List.map_nil] at q5
 refine Za q5 ?_
 simp only[Zcz,ZcA,c1,List.length_map,EVA,seval,Zj,men]
 refine⟨by omega,?_⟩
 have q6:=Dw a L (by omega) (Zn2 ha lenL)
 simp only[Zc,hn,hm,List.map_cons,List.map_nil] at q6
 refine Za q6 ?_
 simp only[c2,List.length_map,EVA,seval,Zj,men]
 have q7:=Dw b R (by omega) (Zn2 hb lenR)
 simp only[Zc,hn2,hk,List.map_cons,List.map_nil] at q7
 refine Za q7 ?_
 simp only[EVA,seval,Zj,men]
 have q8:=Zkj (a.inner.map (Zi9 L)) (b.inner.map (Zi9 R)) (by rw[List.length_map,List.length_map];omega)
 refine Za q8 ?_
 simp only[ZcK,List.length_append,List.length_map,EVA,seval]
 simp only[Zp1,ZcU,Zs5,ZsJ,Zax,<-hL,<-hR,List.map_append,hn,hn2,hm,hk]
 rfl
end Go.Fd

namespace Go.Proofs
open Go.Shelf Go.RowKit Go.Lib Go.Sort
instance:Inhabited Go.Fd.TWire:=⟨⟨⟨#[]⟩,0⟩⟩
def Zv9(w:Go.Fd.TWire):List Value:=[.string w.name,.int .i64 w.link]
def Zp2(x y:Go.Fd.TWire):Int:=if Op.bytesLess x.name.data.toList y.name.data.toList then -1 else 1
set_option maxHeartbeats 1000000 in
theorem ZAv(x y:Go.Fd.TWire)(W:World):Calls Tryz.prog 294 #[.agg #[.string x.name,.int .i64 x.link],.agg #[.string y.name,.int .i64 y.link]] W fun e w' => e = .returned (.int .i64 (Zp2 x y))/\∃ q os',w'=grow (W.drewN q) os':=by
 have hr:Zp2 x y=if Op.bytesLess x.name.toList y.name.toList then -1 else 1:=by
  unfold Zp2
  rw[ByteArray.toList_eq,ByteArray.toList_eq]
 generalize Zp2 x y=r at hr ⊢
 go_enter Tryz.func294,Tryz.ntmps294
 go_wp2
 ·rename_i h
  rw[h] at hr
  have hr:r = -1:=hr
  subst hr
  go_ret
  exact⟨rfl,0,_,by rw[alloc_eq_grow,alloc_eq_grow,grow_grow];rfl⟩
 ·rename_i h
  rw[h] at hr
  have hr:r=1:=hr
  subst hr
  go_ret
  exact⟨rfl,0,_,by rw[alloc_eq_grow,alloc_eq_grow,grow_grow];rfl⟩
theorem Zlz(x y:Go.Fd.TWire):ltOf Zp2 x y=Op.bytesLess x.name.data.toList y.name.data.toList:=by
 unfold ltOf Zp2
 cases Op.bytesLess x.name.data.toList y.name.data.toList <;> rfl
theorem ZCl:SWO (ltOf Zp2) where
 irrefl x:=by rw[Zlz];exact Go.Fd.bl_irr _
 trans x y z h1 h2:=by
  rw[Zlz] at *
  exact Go.Fd.ordsS.tr _ _ _ h1 h2
 ntrans x y z h1 h2:=by
  rw[Zlz] at *
  have:=Go.Fd.ltS_tr z.name y.name x.name
  have k:¬ Go.Fd.ltS x.name z.name:=Go.Fd.ltS_tr z.name y.name x.name (by unfold Go.Fd.ltS;rw[h2];decide) (by unfold Go.Fd.ltS;rw[h1];decide)
  unfold Go.Fd.ltS at k
  simpa using k
theorem Zp3(blk off size:Nat)(w:World):CmpLays Tryz.prog 294 #[] Zv9 2 Zp2 blk off size w :=
 fun _ _ _ _ x y=>ZAv x y _
end Go.Proofs
namespace Go.Fd
open Go.Sort Go.Proofs
theorem ZA4:∀{x y:List TWire},x.Pairwise wlt->y.Pairwise wlt->x.Perm y->x=y
 | [],y,_,_,h=>(List.Perm.nil_eq h)
 | a::r,[],_,_,h=>by simp at h
 | a::r,b::t,hx,hy,h=>by
  have hcx:=List.pairwise_cons.1 hx
  have hcy:=List.pairwise_cons.1 hy
  have hab:a=b:=by
   have h1:a∈b::t:=h.mem_iff.1 (by simp)
   have h2:b∈a::r:=h.mem_iff.2 (by simp)
   rcases List.mem_cons.1 h1 with e | h1
   ·exact e
   ·rcases List.mem_cons.1 h2 with e | h2
    ·exact e.symm
    ·exact absurd (hcx.1 b h2) (ordsS.asym _ _ (hcy.1 a h1))
  subst hab
  rw[ZA4 hcx.2 hcy.2 h.cons_inv]
theorem ZCm{x y:List TWire}(hy:y.Pairwise wlt)(hp:x.Perm y)(hx:∀ i j (hi:i<x.length)(hj:j<x.length),i<j -> ¬ wlt x[j] x[i]):x.Pairwise wlt:=by
 have hnd:x.Nodup:=hp.nodup_iff.2 (hy.imp fun {a b} h e=>by subst e;exact ordsS.irr _ h)
 refine List.pairwise_iff_getElem.2 fun i j hi hj hij=>?_
 rcases ordsS.tri (x[i]).name (x[j]).name with q | q | q
 ·exact q
 ·have h1:x[i]∈y:=hp.mem_iff.1 (List.getElem_mem hi)
  have h2:x[j]∈y:=hp.mem_iff.1 (List.getElem_mem hj)
  obtain⟨a,ha,ea⟩:=List.getElem_of_mem h1
  obtain⟨b,hb,eb⟩:=List.getElem_of_mem h2
  have hpg:=List.pairwise_iff_getElem.1 hy
  have hab:a=b:=by
   rcases Nat.lt_trichotomy a b with g | g | g
   ·have:=hpg a b ha hb g
    unfold wlt at this
    rw[ea,eb,q] at this
    exact absurd this (ordsS.irr _)
   ·exact g
   ·have:=hpg b a hb ha g
    unfold wlt at this
    rw[ea,eb,q] at this
    exact absurd this (ordsS.irr _)
  subst hab
  have e:x[i]=x[j]:=ea.symm.trans eb
  have:=List.pairwise_iff_getElem.1 hnd i j hi hj hij
  exact absurd e this
 ·exact absurd q (hx i j hi hj hij)
theorem Zog(lvl:Nat)(S:Sto)(id:Oid)(hw:Nat)(hid:id.1<lvl):Sem Tryz.prog ZX lvl [.hd id [] 0 0 none hw,iI 0,iI 0,.fn Jk []] S (.tu []) S:=by
 have hne:id.1≠lvl:=by omega
 refine Zb Vs trivial ?_
 simp only[JG,EVA,seval]
 refine⟨by rw[Zd];omega,?_⟩
 refine Z3 (α:=Unit) 0 (fun _ _=>⟨lvl,[(0,.hd id [] 0 0 none hw),(1,iI 0),(2,iI 0),(3,.fn Jk []),(8,iI 1)],[],S⟩) (fun _ _=>True) () ⟨by simp only[Yj hne,EVA,seval],by (simp only[EVA,seval]) <;> rfl⟩ trivial ?_
 intro _ _ _ _
 simp only[EVA,seval]
theorem Zoh(r:Int)(lvl:Nat)(S:Sto)(id:Oid)(hw:Nat)(hid:id.1<lvl):Sem Tryz.prog ZE lvl [.hd id [] 0 0 none hw,iI 0,iI 0,iI r,.fn Jk []] S (.tu []) S:=by
 have hne:id.1≠lvl:=by omega
 refine Zb Xm trivial ?_
 simp only[Yp,EVA,seval]
 refine Z3 (α:=Unit) 0 (fun _ _=>⟨lvl,[(0,.hd id [] 0 0 none hw),(1,iI 0),(2,iI 0),(3,iI r),(4,.fn Jk []),(10,iB true),(11,iB true)],[],S⟩) (fun _ _=>True) () ⟨by simp only[Yj hne,EVA,seval],by (simp only[EVA,seval]) <;> rfl⟩ trivial ?_
 intro _ _ _ _
 simp only[EVA,seval]
 refine⟨by rw[Zd];omega,?_⟩
 simp only[Zig]
 refine QX [] S (fun _ _=>rfl) (Zog (lvl+1) (ZF lvl [] S) id hw (by omega)) ?_
 simp only[EVA,seval]
theorem Zml(lvl:Nat)(S:Sto)(id:Oid)(u:Bool)(hw ver:Nat)(hid:id.1<lvl)(hS:S id=some (.ar 2 [] u hw ver)):Sem Tryz.prog ZK lvl [.hd id [] 0 0 none hw,.fn Jk []] S (.tu []) (ZT S id (.ar 2 [] u hw ver)):=by
 rw[QY hS]
 have hne:id.1≠lvl:=by omega
 obtain⟨r,hr⟩:=Zkd (v:=0) (by omega) (by omega)
 refine Zb VX trivial ?_
 simp only[JQ,EVA,seval,Zj,men]
 refine⟨⟨by decide,by decide⟩,Za hr ?_⟩
 simp only[EVA,seval]
 refine QX [] S (fun _ _=>rfl) (Zoh r (lvl+1) (ZF lvl [] S) id hw (by omega)) ?_
 simp only[EVA,seval]
theorem Zoi(l ys:List TWire)(hp:ys.Perm l)(hs:ys.Pairwise wlt)(hl:l.length<=4294967296)(lvl:Nat)(S:Sto)(id:Oid)(u:Bool)(hw ver:Nat)(hid:id.1<lvl)(hS:S id=some (.ar 2 (l.map Jc) u hw ver)) :
  Sem Tryz.prog ZK lvl [.hd id [] 0 l.length none hw,.fn Jk []] S (.tu []) (ZT S id (.ar 2 (ys.map Jc) u hw ver)):=by
 by_cases h0:l=[]
 ·subst h0
  have hy:ys=[]:=List.length_eq_zero_iff.1 (by simpa using hp.length_eq)
  subst hy
  exact Zml lvl S id u hw ver hid hS
 ·have hpos:0<l.length:=List.length_pos_iff.2 h0
  refine Zhi (enc:=Zv9) (k:=2) (fun _=>rfl) (by decide) (ZhI (by kernel_rfl)) hid hS (fun x v hv=>by simp [Zv9] at hv;rcases hv with rfl | rfl <;> rfl) hp.length_eq hpos fun b cap w hH hb=>?_
  have hcon:=AnyQ.slices_SortFunc Tryz.sortW 2 Tryz.isAgg147 Tryz.sizeOf147 Zv9 (fun _=>rfl) (fun x v hv=>by simp [Zv9] at hv;rcases hv with rfl | rfl <;> rfl) Zp2 ZCl 294 #[] b 0 cap l.toArray w (enters_of Tryz.func294 (by kernel_rfl) rfl) (Zp3 b 0 _ w) hH hb (by simp;omega)
  have hsz:l.toArray.size=l.length:=by simp
  rw[hsz] at hcon
  refine Calls.mono hcon ?_
  rintro e w' ⟨rfl,d',n,os,hperm,hsort,rfl⟩
  refine⟨rfl,n,os,?_⟩
  have hds:d'.size=l.length:=by rw[hperm.1,hsz]
  have hd:d'.toList=ys:=by
   have h1:d'.toList.Perm l:=by
    have:=hperm.2.2
    rw[show d'.extract 0 l.length=d' from by rw[<-hds];exact Array.extract_size,show l.toArray.extract 0 l.length=l.toArray from by rw[<-hsz];exact Array.extract_size] at this
    simpa using this
   refine ZA4 (ZCm hs (h1.trans hp.symm) fun i j hi hj hij hlt=>?_) hs (h1.trans hp.symm)
   have hjj:j<d'.size:=by simpa using hj
   have hii:i<d'.size:=by simpa using hi
   have:=hsort i j (Nat.zero_le _) hij (by omega)
   rw[Zlz] at this
   have h2:d'[j]! = d'.toList[j]:=by simp [hjj]
   have h3:d'[i]! = d'.toList[i]:=by simp [hii]
   rw[h2,h3] at this
   unfold wlt ltS at hlt
   rw[this] at hlt
   cases hlt
  rw[<-hd]
end Go.Fd

namespace Go.Fd
set_option maxRecDepth 20000
theorem Zoj:ZI Go.Proofs.Tryz.prog ZW (Znt 1 none)=true:=by kernel_rfl
theorem ZqZ:ZI Go.Proofs.Tryz.prog Zz (ZqK ZW)=true:=by kernel_rfl
theorem Zd6(b:List ByteArray)(s:ByteArray)(hb:b.length<=4294967296)(lvl:Nat)(S:Sto):Sem Go.Proofs.Tryz.prog Ym lvl [iS s,.ta [Tr.sl (rS b)]] S (iB (dc (s∈b))) S:=by
 refine Zb ZbF trivial ?_
 simp only[WW,EVA,↓reduceIte,Nat.reduceEqDiff,reduceCtorEq,Nat.reduceAdd,Nat.reduceLeDiff,Nat.reduceLT,Zj,men]
 refine Za (Dx b s hb) ?_
 simp only[EVA,↓reduceIte,Nat.reduceEqDiff,Nat.reduceMul,reduceCtorEq,Nat.reduceLT]
theorem Zf9(a b:List ByteArray)(ha:a.length<=4294967296)(hb:b.length<=4294967296)(lvl:Nat)(S:Sto):Sem Go.Proofs.Tryz.prog Qx lvl [.tr (.sl (rS a)),.tr (.sl (rS b))] S (iB (!dc (∀ x∈a,x ∉ b))) S:=by
 have q:=Zem (P:=Go.Proofs.Tryz.prog) ZqZ Zoj (t:=fun n:ByteArray=>ts n) (f:=fun s=>dc (s∈b)) (fe:=Ym) (cs:=[[Tr.sl (rS b)]]) a (by omega) (fun x _ lvl S=>Zd6 b x hb lvl S)
 have e:a.any (fun s=>dc (s∈b)) = !dc (∀ x∈a,x ∉ b):=by
  cases h:dc (∀ x∈a,x ∉ b)
  ·have h1:=dc_not.1 h
   have:∃ x∈a,x∈b:=Classical.byContradiction fun g=>h1 fun x hx hb=>g ⟨x,hx,hb⟩
   obtain⟨x,hx,hxb⟩:=this
   simp only[Bool.not_false,List.any_eq_true]
   exact⟨x,hx,ZL hxb⟩
  ·have h1:=dc_iff.1 h
   simp only[Bool.not_true,List.any_eq_false]
   intro x hx
   rw[Zg (h1 x hx)]
   decide
 rw[e] at q
 refine Zb Zdc trivial ?_
 simp only[UT,EVA,↓reduceIte,Nat.reduceEqDiff,reduceCtorEq,Nat.reduceAdd,Nat.reduceLeDiff,Nat.reduceLT,Zj,men]
 refine Za q ?_
 simp only[EVA,↓reduceIte,Nat.reduceEqDiff,Nat.reduceMul,reduceCtorEq,Nat.reduceLT]
theorem Zga(a:TBigraph)(p:Int)(hp:-4294967296<=p/\p<=4294967296)(ha:0<=a.roots/\a.roots<=4)(lvl:Nat)(S:Sto):Sem Go.Proofs.Tryz.prog YQ lvl [iI p,.ta (Zc a)] S (iI (p-a.roots)) S:=by
 refine Zb Zdd trivial ?_
 simp only[UU,Zc,EVA,↓reduceIte,Nat.reduceEqDiff,reduceCtorEq,Nat.reduceAdd,Nat.reduceLeDiff,Nat.reduceLT]
 rw[Zd];omega
theorem Zgb(e:Int×ByteArray)(lvl:Nat)(S:Sto):Sem Go.Proofs.Tryz.prog YR lvl [oE e] S (oE e) S:=by
 refine Zb Zde (by simp [low,men,Zj]) ?_
 simp only[UV,EVA,↓reduceIte,Nat.reduceEqDiff,Nat.reduceMul,reduceCtorEq,Nat.reduceAdd,Nat.reduceLeDiff,Nat.reduceLT]
theorem ZA5{b:TBigraph}{F:Int->Int}:(b.inner.map (ZaT F)).map TWire.name=inn b:=by simp [inn,ZaT]
theorem ZlA{sig:List TControl}{b:TBigraph}(h:bigOK sig b){F:Int->Int}:(b.inner.map (ZaT F)).Pairwise wlt:=by
 have hp:=ZhQ h.inn
 unfold inn at hp
 rw[List.pairwise_map] at hp ⊢
 exact hp
theorem Zwa{sig:List TControl}{a b:TBigraph}(ha:bigOK sig a)(hb:bigOK sig b)(hd:∀ x∈inn a,x ∉ inn b){F F':Int->Int}:(UF (a.inner.map (ZaT F)) (b.inner.map (ZaT F'))).Pairwise wlt :=
 Zlx (ZlA ha) (ZlA hb) fun x hx y hy e=>by
  refine hd x.name ?_ ?_
  ·rw[<-ZA5 (F:=F)];exact List.mem_map.2 ⟨x,hx,rfl⟩
  ·rw[<-ZA5 (F:=F'),e];exact List.mem_map.2 ⟨y,hy,rfl⟩
theorem Zp4{a:TBigraph}:ZqX a.nodes.length (fun p=>p-a.roots)=Zkk a:=rfl
theorem ZsK{sig:List TControl}{a b:TBigraph}(ha:bigOK sig a)(hb:bigOK sig b) :
  Zax a b (a.roots+b.roots) a.sites (Yw a b) (Zcy a (a.edges+b.edges) (Yw a b) fun x=>x) (Zcy b (a.edges+b.edges) (Yw a b) (Zd5 a fun s=>(0,s))) (Zkk a)=Zs5 a b :=
 Zft ha hb (fun l hl=>Zv6 ha hl) (fun l hl=>ZA2 hb (fun i hi=>if_neg (ZaR hb.outer (List.getElem_mem hi))) hl) fun p _=>rfl
theorem ZsL{sig:List TControl}{a b:TBigraph}(ha:bigOK sig a):a.inner.map (ZaT (Zcy a (a.edges+b.edges) (Yw a b) fun x=>x))=a.inner.map (ZaT fun l=>g0 (Zmj a b) l.toNat):=List.map_congr_left fun w hw=>by
 unfold ZaT
 rw[Zv6 ha (ha.inner w hw)]
 rfl
theorem Zjj(sig:List TControl)(a b:TBigraph)(ha:bigOK sig a)(hb:bigOK sig b)(hd:∀ x∈inn a,x ∉ inn b)(lvl:Nat)(S:Sto):Sem Go.Proofs.Tryz.prog XB lvl [.ag ((Zc a).map .tr),.ag ((Zc b).map .tr)] S (Zp1 (ZcU a b) (decide (b.nodes.length=0))) S:=by
 have ra:=ha.roots;have rb:=hb.roots
 have ea:=ha.edges;have eb:=hb.edges
 have sa:=ha.small;have sb:=hb.small
 have a1:=sa.nodes;have a2:=sa.sites;have a3:=sa.inner;have a4:=sa.outer
 have b1:=sb.nodes;have b2:=sb.sites;have b3:=sb.inner;have b4:=sb.outer
 have hol:=X1 (a:=a) (b:=b)
 have lnA:∀ x∈a.nodes,∀ l∈x.links,ZR a l:=fun x hx l hl=>by
  obtain⟨k,hk,rfl⟩:=List.getElem_of_mem hx
  exact(ha.nodes k hk).links l hl
 have hfl:[a.outer,b.outer].flatten=a.outer++b.outer:=by simp
 have hc:=Zfv [a.outer,b.outer] (by simp) (by rw[hfl,List.length_append];omega)
 rw[hfl] at hc
 have qj:=Zfu sig a b (Zs5 a b) ha hb (a.roots+b.roots) a.sites (by omega) (a.outer++b.outer) (by rw[List.length_append];omega) YQ [Zc a] (fun p=>p-a.roots) YF [] (fun s=>(0,s)) (fun p h1 h2 lvl S=>Zga a p (by omega) ra lvl S) (fun x _ lvl S=>ZgF x lvl S) (by rw[Zp4];exact ZsK ha hb)
 have qr:=Uo a (a.edges+b.edges) (a.outer++b.outer) YR [] (fun x=>x) ea.1 (QD (by omega) (Xp ha)) (by omega) (by omega) (by rw[List.length_append];omega) lnA ha.inner (fun l _ lvl S=>Zgb (Zeo a l) lvl S)
 refine Zb Ze3 (by simp [low,men,Zj]) ?_
 simp only[Zal,Zc,EVA,↓reduceIte,Nat.reduceEqDiff,Nat.reduceMul,reduceCtorEq,Nat.reduceAdd,Nat.reduceLeDiff,Nat.reduceLT,Zj,men]
 refine⟨by simp,by simp,Za hc ?_⟩
 simp only[EVA,↓reduceIte,Nat.reduceEqDiff,Nat.reduceMul,reduceCtorEq,Nat.reduceAdd,Nat.reduceLT,Zj,men]
 simp only[Zc,ZAs,List.map_cons,List.map_nil] at qj
 refine⟨by rw[Zd];omega,Za qj ?_⟩
 simp only[List.length_map,EVA,↓reduceIte,Nat.reduceEqDiff,Nat.reduceMul,reduceCtorEq,Nat.reduceAdd,Nat.reduceLT,Zj,men]
 rw[show Vc (a.outer++b.outer)=Yw a b from rfl] at qr
 have hA1:a.inner.map (fun w=>({ name:=w.name,link:=Zcy a (a.edges+b.edges) (Yw a b) (fun x=>x) w.link }:TWire))=a.inner.map (ZaT fun l=>g0 (Zmj a b) l.toNat):=ZsL ha
 simp only[Zc,Zi,UI,List.map_cons,List.map_nil] at qr
 simp only[hA1] at qr
 obtain⟨A1,hA⟩:∃ l,l=a.inner.map (ZaT fun l=>g0 (Zmj a b) l.toNat):=⟨_,rfl⟩
 obtain⟨B1,hB⟩:∃ l,l=(Zs5 a b).inner:=⟨_,rfl⟩
 have hBb:B1=b.inner.map (ZaT fun l=>g0 (Zod a b) l.toNat):=hB
 have lA:A1.length=a.inner.length:=by rw[hA,List.length_map]
 have lB:B1.length=b.inner.length:=by rw[hBb,List.length_map]
 have hpw:(UF A1 B1).Pairwise wlt:=by rw[hA,hBb];exact Zwa ha hb hd
 have hmx:max a.inner.length (a.inner.length+b.inner.length)=a.inner.length+b.inner.length:=by omega
 have hpi:(ZcU a b).inner=UF A1 B1:=by rw[hA,hBb];rfl
 rw[<-hA] at qr
 rw[<-hB]
 refine Za qr ?_
 simp only[Zv0,Zv1,lA,lB,hmx,List.length_map,EVA,↓reduceIte,Nat.reduceEqDiff,Nat.reduceMul,reduceCtorEq,Nat.reduceAdd,Nat.reduceLT]
 rw[<-List.map_append]
 refine⟨by omega,?_⟩
 have hab:(A1++B1).length=a.inner.length+b.inner.length:=by rw[List.length_append];omega
 have s1:=fun S' hS=>Zoi (A1++B1) (UF A1 B1) wjoin_perm hpw (by omega) (lvl+1) S' (lvl,963) true (a.inner.length+b.inner.length) 0 (Nat.lt_succ_self _) hS
 rw[hab] at s1
 refine ZhK 963 _ (s1 _ ?_) ?_
 ·rw[YX];rfl
 simp only[ZcK,lA,lB,List.length_map,EVA,↓reduceIte,Nat.reduceEqDiff,Nat.reduceMul,reduceCtorEq,Nat.reduceAdd,Nat.reduceLT]
 simp only[Zp1,hpi]
 rfl
theorem Zok{sig:List TControl}{a b:TBigraph}(ha:bigOK sig a)(hb:bigOK sig b):∀ l,ZR b l->sm (g0 (Zod a b) l.toNat):=fun l hl=>by
 have ea:=ha.edges;have eb:=hb.edges
 have a4:=ha.small.outer;have b4:=hb.small.outer
 have hol:=X1 (a:=a) (b:=b)
 refine Zn5 ha hb (fun x hx=>?_) hl
 have:=Zfk (l:=Yw a b) (s:=x)
 have:=ZdP (l:=Yw a b) (s:=x)
 unfold sm
 omega
theorem Zol{sig:List TControl}{a b:TBigraph}(ha:bigOK sig a)(hb:bigOK sig b):∀ l,ZR a l->sm (g0 (Zmj a b) l.toNat):=fun l hl=>by
 have a4:=ha.small.outer;have b4:=hb.small.outer
 have hol:=X1 (a:=a) (b:=b)
 exact Zn7 ha hb (by omega) l hl
theorem Zkm{a b:TBigraph}{w:TWire}(h:w∈(ZcU a b).inner):w∈a.inner.map (ZaT fun l=>g0 (Zmj a b) l.toNat)\/w∈b.inner.map (ZaT fun l=>g0 (Zod a b) l.toNat):=List.mem_append.1 (wjoin_perm.mem_iff.1 h)
theorem ZlB{sig:List TControl}{a b:TBigraph}(ha:bigOK sig a)(hb:bigOK sig b):Zs 4294967290 (ZcU a b):=by
 have sa:=ha.small;have sb:=hb.small
 have a2:=sa.sites;have a3:=sa.inner;have b3:=sb.inner;have a4:=sa.outer;have b4:=sb.outer
 have hol:=X1 (a:=a) (b:=b)
 obtain⟨b1,b2,b3',b4',b5,b6,b7⟩:=Zn3 (roots:=a.roots+b.roots) (ss:=a.sites) (o:=Yw a b) (FL:=fun l=>g0 (Zmj a b) l.toNat) (FR:=fun l=>g0 (Zod a b) l.toNat) (mv:=Zkk a) ha hb (by omega) (by omega) fun y hy=>by
  rcases List.mem_append.1 (setS_mem.1 hy) with hy | hy
  ·have:=Yg ha.outer hy;omega
  ·have:=Yg hb.outer hy;omega
 refine⟨b1,b2,b3',b4',b5,?_,fun w hw=>?_⟩
 ·show (UF _ _).length<=_
  rw[ZcK,List.length_map,List.length_map]
  omega
 ·rcases Zkm hw with h | h
  ·obtain⟨x,hx,rfl⟩:=List.mem_map.1 h
   have:=Yg ha.inn (List.mem_map.2 ⟨x,hx,rfl⟩)
   simp only[ZdB,ZaT]
   omega
  ·obtain⟨x,hx,rfl⟩:=List.mem_map.1 h
   have:=Yg hb.inn (List.mem_map.2 ⟨x,hx,rfl⟩)
   simp only[ZdB,ZaT]
   omega
theorem Zwb{sig:List TControl}{a b:TBigraph}(ha:bigOK sig a)(hb:bigOK sig b){p:Int}(h1:-b.roots<=p)(h2:p<b.nodes.length):sm (Zkk a p):=by
 have a1:=ha.small.nodes;have b1:=hb.small.nodes
 have ra:=ha.roots;have rb:=hb.roots
 unfold Zkk sm
 split <;> omega
theorem ZsM{sig:List TControl}{a:TBigraph}(ha:bigOK sig a):∀ p∈a.sites,sm p:=fun p hp=>by
 have h1:=Jo ha.roots.1 (ha.sites p hp)
 have h2:=XP ha hp
 have ra:=ha.roots
 have a1:=ha.small.nodes
 unfold sm
 omega
theorem Zq0{sig:List TControl}{a b:TBigraph}(ha:bigOK sig a)(hb:bigOK sig b)(fa:Zy a)(fb:Zy b):Zy (ZcU a b):=by
 have ra:=ha.roots;have rb:=hb.roots
 obtain⟨f1,f2,f3,f4,f5⟩:=Zn4 (roots:=a.roots+b.roots) (ss:=a.sites) (o:=Yw a b) (FL:=fun l=>g0 (Zmj a b) l.toNat) (FR:=fun l=>g0 (Zod a b) l.toNat) (mv:=Zkk a) ha hb fa fb (by unfold sm;omega) (ZsM ha) (Zol ha hb) (Zok ha hb) fun p h1 h2=>Zwb ha hb h1 h2
 refine⟨f1,f2,f3,f4,fun w hw=>?_⟩
 rcases Zkm hw with h | h
 ·obtain⟨x,hx,rfl⟩:=List.mem_map.1 h
  exact ZcH (Zol ha hb _ (ha.inner x hx))
 ·obtain⟨x,hx,rfl⟩:=List.mem_map.1 h
  exact ZcH (Zok ha hb _ (hb.inner x hx))
def W6(sig:List TControl)(a b:TBigraph):Prop:=bigOK sig a/\bigOK sig b/\(∀ x∈inn a,x ∉ inn b)/\bigOK sig (ZcU a b)
open Classical in
noncomputable def Ys(sig:List TControl)(a b:TBigraph):TBigraph:=if W6 sig a b then ZcU a b else JW
noncomputable def Yt(sig:List TControl)(a b:TBigraph):Bool:=dc (W6 sig a b)
theorem QI(sig:List TControl)(a b:TBigraph)(hn:sig.length<=4294967296)(hbs:∀ y∈sig,Zr 4294967296 y)(hba:Zs 4294967296 a)(hbb:Zs 4294967296 b)(fa:Zy a)(fb:Zy b)(lvl:Nat)(S:Sto):Sem Go.Proofs.Tryz.prog JI lvl [.tr (.sl (sig.map Zh)),.ag ((Zc a).map .tr),.ag ((Zc b).map .tr)] S (.tu [Zi (Ys sig a b),iB (Yt sig a b)]) S:=by
 refine Zb DS (by simp [Zi,low,men,Zj]) ?_
 simp only[Xv,Zc,EVA,↓reduceIte,Nat.reduceEqDiff,Nat.reduceMul,reduceCtorEq,Nat.reduceAdd,Nat.reduceLeDiff,Nat.reduceLT,Zj,men]
 have i1:=Jt sig a hn hbs hba
 have i2:=Jt sig b hn hbs hbb
 simp only[Zc,List.map_cons,List.map_nil] at i1 i2
 refine Za i1 ?_
 unfold Ys Yt
 cases h1:dc (bigOK sig a)
 ·have hno:¬ W6 sig a b:=fun g=>dc_not.1 h1 g.1
  rw[if_neg hno,Zg hno]
  simp only[EVA,↓reduceIte,Nat.reduceEqDiff,Nat.reduceMul,reduceCtorEq,Nat.reduceAdd,Nat.reduceLT]
  rfl
 have hA:=dc_iff.1 h1
 simp only[EVA,↓reduceIte,Nat.reduceEqDiff,Nat.reduceMul,reduceCtorEq,Nat.reduceAdd,Nat.reduceLT,Zj,men]
 refine Za i2 ?_
 cases h2:dc (bigOK sig b)
 ·have hno:¬ W6 sig a b:=fun g=>dc_not.1 h2 g.2.1
  rw[if_neg hno,Zg hno]
  simp only[EVA,↓reduceIte,Nat.reduceEqDiff,Nat.reduceMul,reduceCtorEq,Nat.reduceAdd,Nat.reduceLT]
  rfl
 have hB:=dc_iff.1 h2
 have sa:=hA.small;have sb:=hB.small
 have a3:=sa.inner;have b3:=sb.inner
 simp only[EVA,↓reduceIte,Nat.reduceEqDiff,Nat.reduceMul,reduceCtorEq,Nat.reduceAdd,Nat.reduceLT,Zj,men]
 have n1:=UD a (by omega)
 have n2:=UD b (by omega)
 simp only[Zc,List.map_cons,List.map_nil] at n1 n2
 refine Za n1 ?_
 simp only[EVA,↓reduceIte,Nat.reduceEqDiff,Nat.reduceMul,reduceCtorEq,Nat.reduceAdd,Nat.reduceLT,Zj,men]
 refine Za n2 ?_
 simp only[EVA,↓reduceIte,Nat.reduceEqDiff,Nat.reduceMul,reduceCtorEq,Nat.reduceLT,Zj,men]
 refine Za (Zf9 (inn a) (inn b) (by rw[Zdi];omega) (by rw[Zdi];omega)) ?_
 cases h3:dc (∀ x∈inn a,x ∉ inn b)
 ·have hno:¬ W6 sig a b:=fun g=>dc_not.1 h3 g.2.2.1
  rw[if_neg hno,Zg hno]
  simp only[EVA,↓reduceIte,Nat.reduceEqDiff,Nat.reduceMul,reduceCtorEq,Nat.reduceAdd,Nat.reduceLT]
  rfl
 have hD:=dc_iff.1 h3
 simp only[EVA,↓reduceIte,Nat.reduceEqDiff,Nat.reduceMul,reduceCtorEq,Nat.reduceAdd,Nat.reduceLT,Zj,men]
 have qc:=Zjj sig a b hA hB hD
 simp only[Zc,Zp1,List.map_cons,List.map_nil] at qc
 refine Za qc ?_
 simp only[EVA,↓reduceIte,Nat.reduceEqDiff,Nat.reduceMul,reduceCtorEq,Nat.reduceLT,Zj,men]
 have qv:=ZcE sig (ZcU a b) hn hbs (ZlB hA hB) (Zq0 hA hB fa fb)
 simp only[Zc,List.map_cons,List.map_nil] at qv
 refine Za qv ?_
 cases h6:dc (bigOK sig (ZcU a b))
 ·have hno:¬ W6 sig a b:=fun g=>dc_not.1 h6 g.2.2.2
  rw[if_neg hno,Zg hno,if_neg (dc_not.1 h6)]
  simp only[Zi,EVA,↓reduceIte,Nat.reduceEqDiff,Nat.reduceMul,reduceCtorEq,Nat.reduceAdd,Nat.reduceLT]
  rfl
 ·have hyes:W6 sig a b:=⟨hA,hB,hD,dc_iff.1 h6⟩
  rw[if_pos hyes,ZL hyes,if_pos (dc_iff.1 h6)]
  simp only[Zi,List.length_map,EVA,↓reduceIte,Nat.reduceEqDiff,Nat.reduceMul,reduceCtorEq,Nat.reduceAdd,Nat.reduceLT]
end Go.Fd

namespace Go.Fd
set_option maxRecDepth 20000
end Go.Fd

namespace Go.Fd
set_option maxRecDepth 20000
def ZjD(p:Int):Int:=max (-1) p
def Zq1(x:TNode):TNode:=⟨x.control,ZjD x.parent,x.links⟩
def Zkn(b:TBigraph):TBigraph:=⟨1,b.nodes.map Zq1,b.sites.map ZjD,b.edges,b.outer,b.inner⟩
def Zom(b:TBigraph):Prop:=0<=b.roots/\(∀ x∈b.nodes,-b.roots<=x.parent)/\∀ p∈b.sites,-b.roots<=p
theorem ZaV{sig:List TControl}{b:TBigraph}{p below:Int}(h:-b.roots<=p):Ua sig (Zkn b) (ZjD p) below↔Ua sig b p below:=by
 unfold Ua ZjD
 by_cases h0:0<=p
 ·rw[show max (-1) p=p by omega]
  have e:Zf5 (Zkn b) p=Zf5 b p:=by
   unfold Zf5 Zkn
   rw[List.getElem?_map]
   cases b.nodes[p.toNat]? <;> rfl
  rw[e]
  constructor
  ·rintro(q | q)
   ·omega
   ·exact .inr q
  ·rintro(q | q)
   ·omega
   ·exact .inr q
 ·have e:max (-1) p = -1:=by omega
  rw[e]
  constructor
  ·intro _
   exact .inl ⟨by omega,h⟩
  ·intro _
   refine .inl ⟨by omega,?_⟩
   show -(1:Int) <= -1
   omega
theorem Zon{sig:List TControl}{b:TBigraph}(h:Zom b):bigOK sig (Zkn b)/\b.roots<=4↔bigOK sig b:=by
 obtain⟨h0,h1,h2⟩:=h
 have hl:(Zkn b).nodes.length=b.nodes.length:=List.length_map ..
 have hs:(Zkn b).sites.length=b.sites.length:=List.length_map ..
 constructor
 ·rintro⟨g,hr⟩
  refine⟨g.sg,⟨h0,hr⟩,by rw[<-hl];exact g.nodesL,by rw[<-hs];exact g.sitesL,g.edges,g.outer,g.inn,fun i hi=>?_,fun p hp=>?_,g.inner⟩
  ·have q:=g.nodes i (by rw[hl];exact hi)
   have e:(Zkn b).nodes[i]'(by rw[hl];exact hi)=Zq1 b.nodes[i]:=by simp [Zkn]
   rw[e] at q
   exact⟨q.ctl,(ZaV (h1 _ (List.getElem_mem hi))).1 q.par,q.ports,q.links⟩
  ·have q:=g.sites (ZjD p) (List.mem_map.2 ⟨p,hp,rfl⟩)
   rw[hl] at q
   exact(ZaV (h2 p hp)).1 q
 ·intro g
  refine⟨⟨g.sg,by show (0:Int)<=1/\(1:Int)<=4;omega,by rw[hl];exact g.nodesL,by rw[hs];exact g.sitesL,g.edges,g.outer,g.inn,fun i hi=>?_,fun p hp=>?_,g.inner⟩,g.roots.2⟩
  ·have hi2:i<b.nodes.length:=by rw[<-hl];exact hi
   have q:=g.nodes i hi2
   have e:(Zkn b).nodes[i]=Zq1 b.nodes[i]:=by simp [Zkn]
   rw[e]
   exact⟨q.ctl,(ZaV (h1 _ (List.getElem_mem hi2))).2 q.par,q.ports,q.links⟩
  ·obtain⟨p0,hp0,rfl⟩:=List.mem_map.1 hp
   rw[hl]
   exact(ZaV (h2 p0 hp0)).2 (g.sites p0 hp0)
theorem Zdm{sig:List TControl}{a b:TBigraph}(ha:bigOK sig a)(hb:bigOK sig b):Zom (ZcU a b):=by
 have ra:=ha.roots;have rb:=hb.roots
 have hbes:∀ p,-b.roots<=p -> -(a.roots+b.roots)<=Zkk a p:=fun p hp=>by
  unfold Zkk
  split <;> omega
 refine⟨?_,fun x hx=>?_,fun p hp=>?_⟩
 ·show 0<=a.roots+b.roots
  omega
 ·show -(a.roots+b.roots)<=x.parent
  rcases List.mem_append.1 hx with hx | hx
  ·obtain⟨y,hy,rfl⟩:=List.mem_map.1 hx
   obtain⟨k,hk,rfl⟩:=List.getElem_of_mem hy
   have:=Jo ra.1 (ha.nodes k hk).par
   show _<=(a.nodes[k]).parent
   omega
  ·obtain⟨y,hy,rfl⟩:=List.mem_map.1 hx
   obtain⟨k,hk,rfl⟩:=List.getElem_of_mem hy
   exact hbes _ (Jo rb.1 (hb.nodes k hk).par)
 ·show -(a.roots+b.roots)<=p
  rcases List.mem_append.1 hp with hp | hp
  ·have:=Jo ra.1 (ha.sites p hp)
   omega
  ·obtain⟨y,hy,rfl⟩:=List.mem_map.1 hp
   exact hbes _ (Jo rb.1 (hb.sites y hy))
theorem ZlC{b:TBigraph}{n:Nat}(hn:b.roots=n){p:Int}(h:-b.roots<=p):Zdj 0 (List.replicate n (-1)) p=ZjD p:=by
 unfold Zdj ZjD
 by_cases h0:0<=p
 ·rw[if_neg (by omega)]
  omega
 ·rw[if_pos (by omega)]
  have hk:(-1-p).toNat<n:=by omega
  show (List.replicate n (-1:Int)).getD _ 0=_
  rw[List.getD_eq_getElem?_getD,List.getElem?_replicate,if_pos hk]
  show (-1:Int)=_
  omega
noncomputable def ZgG(a b:TBigraph):TBigraph:=Zkn (ZcU a b)
open Classical in
noncomputable def Vu(sig:List TControl)(a b:TBigraph):TBigraph:=if W6 sig a b then ZgG a b else JW
noncomputable def Vv(sig:List TControl)(a b:TBigraph):Bool:=dc (W6 sig a b)
end Go.Fd

namespace Go.Fd
theorem Zq2{α:Type}{m:α->Int->α}{n:α->Nat}:∀{a:List α}{k:Int}{j:Nat}(h:j<a.length),(mL m n a k)[j]? = some (m a[j] (kJ n a k j))
 | [],_,_,h=>by cases h
 | x::r,k,0,_=>by simp [mL,kJ,nL]
 | x::r,k,j+1,h=>by
  simp only[mL,List.getElem?_cons_succ,List.getElem_cons_succ]
  rw[Zq2 (by simpa using h)]
  simp only[kJ,List.take_succ_cons,nL]
  congr 2
  omega
theorem Zwc{α:Type}{c:α->List Tr}{m:α->Int->α}{n:α->Nat}{a:List α}{k:Int}{j:Nat}(h:j<a.length):((mL m n a k).map c)[j]? = some (c (m a[j] (kJ n a k j))):=by
 rw[List.getElem?_map,Zq2 h];rfl
theorem Zq3{α:Type}{c:α->List Tr}{m:α->Int->α}{n:α->Nat}{a:List α}{k:Int}:cut ((mL m n a k).map c) 0 a.length=(mL m n a k).map c:=by
 simp only[cut,List.drop_zero]
 exact List.take_of_length_le (by rw[List.length_map,XV];exact Nat.le_refl _)
theorem QE{α:Type}{c:α->List Tr}{a:List α}:cut (a.map c) 0 a.length=a.map c:=by
 simp only[cut,List.drop_zero]
 exact List.take_of_length_le (by rw[List.length_map];exact Nat.le_refl _)
end Go.Fd

namespace Go.Fd
set_option maxRecDepth 20000
def prt{α:Type}(f:α->α)(l:List α)(j:Nat):List α:=(l.take j).map f++l.drop j
theorem ZsN{α:Type}{f:α->α}{l:List α}:prt f l 0=l:=by simp [prt]
theorem ZsO{α:Type}{f:α->α}{l:List α}:prt f l l.length=l.map f:=by simp [prt]
theorem ZsP{α:Type}{f:α->α}{l:List α}{j:Nat}:(prt f l j).length=l.length:=by simp [prt];omega
theorem Zoo{α:Type}{f:α->α}{l:List α}{j:Nat}(h:j<l.length):(prt f l j)[j]? = some l[j]:=by
 have:((l.take j).map f).length=j:=by rw[List.length_map,List.length_take];omega
 rw[prt,List.getElem?_append_right (by omega),this,List.getElem?_drop]
 simp [h]
theorem Zop{α:Type}{f:α->α}{l:List α}{j:Nat}(h:j<l.length):(prt f l j).set j (f l[j])=prt f l (j+1):=by
 have hl:((l.take j).map f).length=j:=by rw[List.length_map,List.length_take];omega
 unfold prt
 rw[List.set_append_right _ _ (by omega),hl,Nat.sub_self,List.drop_eq_getElem_cons h,List.set_cons_zero,List.take_succ_eq_append_getElem h,List.map_append,List.append_assoc]
 rfl
theorem Zko{l:List TNode}{j:Nat}(h:j<l.length):((prt Zq1 l j).map Z9)[j]? = some [tv l[j].control,tv l[j].parent,Tr.sl (rI l[j].links)]:=by rw[List.getElem?_map,Zoo h];rfl
theorem Zoq{l:List TNode}{j:Nat}(h:j<l.length):YK ((prt Zq1 l j).map Z9) [] j 1 (Tr.v (.int .i64 (max (-1) l[j].parent)))=(prt Zq1 l (j+1)).map Z9:=by
 rw[ZhV (Zko h),<-Zop h,List.map_set]
 rfl
theorem Zp5{l:List Int}{j:Nat}(h:j<l.length):(rI (prt ZjD l j))[j]? = some [tv l[j]]:=by
 show ((prt ZjD l j).map _)[j]? = _
 rw[List.getElem?_map,Zoo h]
 rfl
theorem Zp6{l:List Int}{j:Nat}(h:j<l.length):YK (rI (prt ZjD l j)) [] j 0 (Tr.v (.int .i64 (max (-1) l[j])))=rI (prt ZjD l (j+1)):=by
 rw[ZnP (by rw[ZsP];exact h),show max (-1) l[j]=ZjD l[j] from rfl,Zop h]
theorem Zfw(b:TBigraph)(hb:Zs 4294967290 b)(lvl:Nat)(S:Sto):Sem Go.Proofs.Tryz.prog JS lvl [.ag ((Zc b).map .tr)] S (Zi (Zkn b)) S:=by
 refine Zb W8 (by simp [Zi,low,men,Zj]) ?_
 simp only[VK,Zc,EVA,seval,Zj,men]
 have q:=XO b hb
 simp only[Zc,List.map_cons,List.map_nil] at q
 obtain⟨b1,b2,b3,b4,b5,b6,b7⟩:=hb
 refine Za q ?_
 simp only[Zi,List.length_map,EVA,seval]
 refine ZB (α:=Unit) b.nodes.length (fun j _=>[(14,iI j)]) (fun j _=>[(288,.ar 3 ((prt Zq1 b.nodes j).map Z9) true b.nodes.length 0)]) (fun _ _=>True) () (by simp only[EVA,seval]) (by (simp only[ZsN,EVA,seval]) <;> rfl) trivial ?_
 intro j _ hj _
 simp only[EVA,seval]
 refine Zn (fun hlt=>?_) (fun hge=>?_)
 ·have hja:j<b.nodes.length:=by omega
  have ga:=Zko hja
  have hst:=Zoq hja
  simp only[ga,hst,hja,List.length_map,EVA,seval]
  exact⟨by rw[Zd];omega,Ze () hja rfl trivial⟩
 ·have:j=b.nodes.length:=by omega
  subst this
  rw[ZsO]
  refine ZB (α:=Unit) b.sites.length (fun j _=>[(31,iI j)]) (fun j _=>[(289,.ar 1 (rI (prt ZjD b.sites j)) true b.sites.length 0)]) (fun _ _=>True) () (by simp only[EVA,seval]) (by (simp only[ZsN,EVA,seval]) <;> rfl) trivial ?_
  intro j _ hj _
  simp only[List.length_map,EVA,seval]
  refine Zn (fun hlt=>?_) (fun hge=>?_)
  ·have hja:j<b.sites.length:=by omega
   have ga:=Zp5 hja
   have hst:=Zp6 hja
   simp only[ga,hst,hja,EVA,seval]
   exact⟨by rw[Zd];omega,Ze () hja rfl trivial⟩
  ·have:j=b.sites.length:=by omega
   subst this
   rw[ZsO]
   simp only[List.length_map,EVA,seval]
   try rfl
structure easy (b:TBigraph):Prop where
 root:Zom b
 bd:Zs 4294967290 b
 r4:b.roots<=4294967290
 edges:0<=b.edges/\b.edges<=4294967290
 par:∀ x∈b.nodes,x.parent<b.nodes.length/\∀ l∈x.links,0<=l
 site:∀ p∈b.sites,p<b.nodes.length
 link:∀ w∈b.inner,0<=w.link
theorem Zor{n:Nat}:rI (List.replicate n (-1))++[[tv (-1)]]=rI (List.replicate (n+1) (-1)):=by
 rw[List.replicate_succ',Yx]
 rfl
theorem Zos(b:TBigraph)(h:easy b)(lvl:Nat)(S:Sto):Sem Go.Proofs.Tryz.prog Uy lvl [.ag ((Zc b).map .tr)] S (Zi (Zkn b)) S:=by
 obtain⟨E,hE⟩:∃ E:Nat,b.edges=E:=⟨b.edges.toNat,by have:=h.edges;omega⟩
 obtain⟨R,hR⟩:∃ R:Nat,b.roots=R:=⟨b.roots.toNat,by have:=h.root.1;omega⟩
 have hr4:=h.r4;have he4:=h.edges
 have hbd:=h.bd
 obtain⟨b1,b2,b3,b4,b5,b6,b7⟩:=h.bd
 refine Zb ZiX (by simp [Zi,low,men,Zj]) ?_
 simp only[ZdJ,Zc,EVA,seval,Zj,men]
 have q:=Zfs b E hE hbd (by omega) h.par h.site h.link
 simp only[Zc,List.map_cons,List.map_nil] at q
 refine Za q ?_
 simp only[Zi,List.length_map,EVA,seval]
 refine ZB (α:=Unit) R (fun j _=>[(4,.hd (lvl,288) [] 0 j none j),(5,iI j)]) (fun j _=>[(288,.ar 1 (rI (List.replicate j (-1))) true j 0)]) (fun _ _=>True) () (by simp only[EVA,seval]) (by (simp only[EVA,seval]) <;> rfl) trivial ?_
 intro j _ hj _
 simp only[hR,List.length_map,EVA,seval]
 refine Zn (fun hlt=>?_) (fun hge=>?_)
 ·have hja:j<R:=by omega
  simp only[Zor,seval]
  exact⟨by omega,by rw[Zd];omega,Ze () hja rfl trivial⟩
 ·have:j=R:=by omega
  subst this
  have hlr:(List.replicate j (-1:Int)).length=j:=List.length_replicate
  have hcr:cut (rI (List.replicate j (-1))) 0 j=rI (List.replicate j (-1)):=Yb (by rw[List.length_map,hlr])
  have hroot:=h.root
  have hpar:∀ p,-b.roots<=p->p<4294967296->(-4294967296<=p/\p<=4294967296)/\(p<0->(-1-p).toNat<(List.replicate j (-1:Int)).length):=fun p h1 h2=>⟨by omega,fun h3=>by rw[hlr];omega⟩
  refine ZB (α:=Unit) b.nodes.length (fun j _=>[(6,iI j)]) (fun j _=>[(256,.ar 3 ((prt Zq1 b.nodes j).map Z9) true b.nodes.length 0)]) (fun _ _=>True) () (by simp only[EVA,seval]) (by (simp only[ZsN,EVA,seval]) <;> rfl) trivial ?_
  intro i _ hi _
  simp only[List.length_map,EVA,seval,Zj,men]
  refine Zn (fun hlt=>?_) (fun hge=>?_)
  ·have hia:i<b.nodes.length:=by omega
   have ga:=Zko hia
   have hst:=Zoq hia
   have hx:=List.getElem_mem hia
   have hp1:=hroot.2.1 _ hx
   have hp2:=(h.par _ hx).1
   obtain⟨g1,g2⟩:=hpar _ hp1 (by omega)
   have e:=ZlC hR hp1
   simp only[ga,hcr,hia,List.length_map,EVA,seval,Zj,men]
   refine Za (Zav b.nodes[i].parent 0 (List.replicate j (-1)) g1 (by omega) g2) ?_
   rw[e]
   unfold ZjD
   simp only[ga,hst,hia,EVA,seval]
   exact⟨by rw[Zd];omega,Ze () hia rfl trivial⟩
  ·have:i=b.nodes.length:=by omega
   subst this
   rw[ZsO]
   have qs:=XF b 0 (List.replicate j (-1)) (by omega) (by omega) fun p hp=>by
    have:=h.site p hp
    exact hpar p (hroot.2.2 p hp) (by omega)
   rw[show b.sites.map (Zdj 0 (List.replicate j (-1)))=b.sites.map ZjD from List.map_congr_left fun p hp=>ZlC hR (hroot.2.2 p hp)] at qs
   simp only[Zc,hR,List.map_cons,List.map_nil] at qs
   simp only[hcr,seval]
   refine Za qs ?_
   simp only[Zkn,List.length_map,EVA,seval]
   try rfl
theorem Zot{sig:List TControl}{a b:TBigraph}(ha:bigOK sig a)(hb:bigOK sig b){l:Int}(hl:ZR a l):0<=g0 (Zmj a b) l.toNat:=by
 have ea:=ha.edges;have eb:=hb.edges
 unfold Zmj Zlq
 rcases J1 hl with ⟨h0,h1⟩ | ⟨i,hi,rfl⟩
 ·rw[Zbu h0 h1];omega
 ·rw[Zbv ea.1 hi]
  have:a.outer[i]∈Yw a b:=setS_mem.2 (List.mem_append.2 (.inl (List.getElem_mem hi)))
  have:=ixS_nn.2 this
  omega
theorem Zou{sig:List TControl}{a b:TBigraph}(ha:bigOK sig a)(hb:bigOK sig b){l:Int}(hl:ZR b l):0<=g0 (Zod a b) l.toNat:=by
 have ea:=ha.edges;have eb:=hb.edges
 unfold Zod ZnY
 rcases J1 hl with ⟨h0,h1⟩ | ⟨i,hi,rfl⟩
 ·rw[Zbu h0 h1];omega
 ·rw[Zbv eb.1 hi]
  have:b.outer[i]∈Yw a b:=setS_mem.2 (List.mem_append.2 (.inr (List.getElem_mem hi)))
  have:=ixS_nn.2 this
  omega
theorem Zp7{sig:List TControl}{a b:TBigraph}(ha:bigOK sig a)(hb:bigOK sig b):easy (ZcU a b):=by
 have ra:=ha.roots;have rb:=hb.roots
 have ea:=ha.edges;have eb:=hb.edges
 have a1:=ha.small.nodes;have b1:=hb.small.nodes
 have hlen:(ZcU a b).nodes.length=a.nodes.length+b.nodes.length:=by
  simp [ZcU,ZsJ,Zs5,Zax]
 have hbes:∀ p:Int,p<b.nodes.length->Zkk a p<(a.nodes.length+b.nodes.length:Nat):=fun p hp=>by
  unfold Zkk
  split <;> omega
 refine⟨Zdm ha hb,ZlB ha hb,by show a.roots+b.roots<=_;omega,by show 0<=a.edges+b.edges/\a.edges+b.edges<=_;omega,fun x hx=>?_,fun p hp=>?_,fun w hw=>?_⟩
 ·rw[hlen]
  rcases List.mem_append.1 hx with hx | hx
  ·obtain⟨y,hy,rfl⟩:=List.mem_map.1 hx
   obtain⟨k,hk,rfl⟩:=List.getElem_of_mem hy
   have h1:=(UE ha hy).1
   refine⟨by show (a.nodes[k]).parent<_;omega,fun l hl=>?_⟩
   obtain⟨l0,hl0,rfl⟩:=List.mem_map.1 hl
   exact Zot ha hb ((ha.nodes k hk).links l0 hl0)
  ·obtain⟨y,hy,rfl⟩:=List.mem_map.1 hx
   obtain⟨k,hk,rfl⟩:=List.getElem_of_mem hy
   have h1:=(UE hb hy).1
   refine⟨hbes _ h1,fun l hl=>?_⟩
   obtain⟨l0,hl0,rfl⟩:=List.mem_map.1 hl
   exact Zou ha hb ((hb.nodes k hk).links l0 hl0)
 ·rw[hlen]
  rcases List.mem_append.1 hp with hp | hp
  ·have:=XP ha hp
   omega
  ·obtain⟨y,hy,rfl⟩:=List.mem_map.1 hp
   exact hbes _ (XP hb hy)
 ·rcases Zkm hw with h | h
  ·obtain⟨x,hx,rfl⟩:=List.mem_map.1 h
   exact Zot ha hb (ha.inner x hx)
  ·obtain⟨x,hx,rfl⟩:=List.mem_map.1 h
   exact Zou ha hb (hb.inner x hx)
theorem X2(sig:List TControl)(a b:TBigraph)(hn:sig.length<=4294967296)(hbs:∀ y∈sig,Zr 4294967296 y)(hba:Zs 4294967296 a)(hbb:Zs 4294967296 b)(fa:Zy a)(fb:Zy b)(lvl:Nat)(S:Sto):Sem Go.Proofs.Tryz.prog Yl lvl [.tr (.sl (sig.map Zh)),.ag ((Zc a).map .tr),.ag ((Zc b).map .tr)] S (.tu [Zi (Vu sig a b),iB (Vv sig a b)]) S:=by
 refine Zb ZbD (by simp [Zi,low,men,Zj]) ?_
 simp only[WT,Zc,EVA,seval,Zj,men]
 have q:=QI sig a b hn hbs hba hbb fa fb
 unfold Ys Yt at q
 simp only[Zc,List.map_cons,List.map_nil] at q
 unfold Vu Vv
 by_cases hq:W6 sig a b
 ·rw[if_pos hq,ZL hq] at q
  rw[if_pos hq,ZL hq]
  refine Za q ?_
  have qm:=Zfw (ZcU a b) (ZlB hq.1 hq.2.1)
  simp only[Zc,List.map_cons,List.map_nil] at qm
  simp only[Zi,QE,List.length_map,EVA,seval,Zj,men]
  refine Za qm ?_
  simp only[Zi,List.length_map,EVA,seval]
  try rfl
 ·rw[if_neg hq,Zg hq] at q
  rw[if_neg hq,Zg hq]
  refine Za q ?_
  simp only[Zi,List.length_map,EVA,seval]
  try rfl
end Go.Fd

namespace Go.Fd
set_option maxRecDepth 20000
def Za4(n:Nat)(l:List Int):Prop:=l.length=n/\∀ i:Nat,i<n->(i:Int)∈l
theorem Zp8:Ords (fun a b:Int=>a<b):=⟨fun a=>Int.lt_irrefl a,fun a b c=>Int.lt_trans,fun a b=>Int.lt_trichotomy a b⟩
theorem upto_mem{n:Nat}{x:Int}:x∈Wn n↔0<=x/\x<n:=by
 unfold Wn
 rw[List.mem_map]
 constructor
 ·rintro⟨i,hi,rfl⟩
  have:=List.mem_range.1 hi
  omega
 ·rintro⟨h1,h2⟩
  exact⟨x.toNat,List.mem_range.2 (by omega),by omega⟩
theorem upto_pw{n:Nat}:(Wn n).Pairwise (fun a b=>a<b):=by
 unfold Wn
 rw[List.pairwise_map]
 exact List.pairwise_lt_range.imp fun h=>by omega
theorem Zmm{n:Nat}:(Wn n).Nodup:=upto_pw.imp fun h e=>by omega
theorem ZlD:∀{x y:List Int},x.Nodup->(∀ c∈x,c∈y)->x.length<=y.length/\(y.length<=x.length->x.Perm y)
 | [],y,_,_=>⟨Nat.zero_le _,fun h=>by rw[List.length_eq_zero_iff.1 (Nat.le_zero.1 h)]⟩
 | a::r,y,hd,hs=>by
  have hc:=List.nodup_cons.1 hd
  have ha:a∈y:=hs a (by simp)
  have hp:=List.perm_cons_erase ha
  obtain⟨h1,h2⟩:=ZlD (x:=r) (y:=y.erase a) hc.2 fun c hcr=>(List.mem_erase_of_ne (fun e=>hc.1 (by rw[<-e];exact hcr))).2 (hs c (by simp [hcr]))
  have hl:=hp.length_eq
  simp only[List.length_cons] at hl ⊢
  exact⟨by omega,fun h=>((h2 (by omega)).cons a).trans hp.symm⟩
theorem ordOK_perm{n:Nat}{l:List Int}:Za4 n l↔l.Perm (Wn n):=by
 constructor
 ·rintro⟨h1,h2⟩
  refine((ZlD (x:=Wn n) (y:=l) Zmm fun x hx=>?_).2 (by rw[h1,YU];exact Nat.le_refl _)).symm
  have:=upto_mem.1 hx
  have h3:=h2 x.toNat (by omega)
  rwa [show ((x.toNat:Nat):Int)=x by omega] at h3
 ·intro h
  refine⟨by rw[h.length_eq,YU],fun i hi=>h.mem_iff.2 (upto_mem.2 (by omega))⟩
theorem Zov{n:Nat}{l:List Int}:Za4 n l↔Zkc (fun a b:Int=>a<b) l=Wn n:=by
 rw[ordOK_perm]
 constructor
 ·intro h
  exact Zfg Zp8 (Zfh Zp8) (upto_pw.imp fun h=>by omega) (srtG_perm.trans h)
 ·intro h
  rw[<-h]
  exact srtG_perm.symm
theorem Zjk{n:Nat}{l:List Int}(h:Za4 n l){x:Int}(hx:x∈l):0<=x/\x<n:=upto_mem.1 ((ordOK_perm.1 h).mem_iff.1 hx)
end Go.Fd

namespace Go.Fd
set_option maxRecDepth 20000
def ZoW:TBigraph:=⟨1,[],[],0,[],[]⟩
def ZoX:TBigraph:=⟨1,[],[-1],0,[],[]⟩
abbrev QM:=TBigraph×List Int
def Je(k:Int):Nat:=if k=4\/k=5 then 2 else if k=3\/k=6\/k=7 then 1 else 0
structure stepOK (sig:List TControl) (s:TTermStep):Prop where
 kind:0<=s.kind_/\s.kind_<=7
 ctl0:s.kind_≠3->s.control=0
 site0:s.kind_≠2->s.site=0
 nms:∀ n∈s.names,ZbG n
 site:s.kind_=2->0<=s.site/\s.site<=3
 ctl:s.kind_=3->0<=s.control/\s.control<=(sig.length:Int)-1
 ports:s.kind_=3->(s.names.length:Int)=YT sig s.control
 one:s.kind_=6\/s.kind_=7->s.names.length=1
 non:s.kind_≠3->s.kind_≠6->s.kind_≠7->s.names.length=0
noncomputable def ZcL(s:TTermStep):TBigraph:=⟨1,[⟨s.control,-1,s.names.map fun n=>ixS (Vc s.names) n⟩],[],0,Vc s.names,[]⟩
noncomputable def Zd7(s:TTermStep):TBigraph:=⟨1,[⟨s.control,-1,s.names.map fun n=>ixS (Vc s.names) n⟩],[0],0,Vc s.names,[]⟩
def Xw(sig:List TControl)(s:TTermStep)(x:TBigraph):Prop:=x.roots=1/\(Qf sig s.control=2->x.nodes=[]/\x.sites=[])/\bigOK sig (U0 (Zd7 s) x)
noncomputable def adN(b:TBigraph)(n:ByteArray):List ByteArray:=Vc (b.outer++[n])
noncomputable def Zif(b:TBigraph)(n:ByteArray):TBigraph:=UI b (Zcy b b.edges (adN b n) fun x=>x) b.edges (adN b n)
def UG(sig:List TControl)(b:TBigraph)(n:ByteArray):Prop:=bigOK sig b/\n ∉ b.outer/\bigOK sig (Zif b n)
open Classical in
noncomputable def mkR(sig:List TControl)(s:TTermStep)(xs:List QM):Option QM :=
 if s.kind_=0 then some (JW,[])
 else if s.kind_=1 then some (ZoW,[])
 else if s.kind_=2 then some (ZoX,[s.site])
 else match xs with
 | [x] =>
  if s.kind_=3 then (if Xw sig s x.1 then some (U0 (Zd7 s) x.1,x.2) else none)
  else if s.kind_=6 then (if QC sig x.1 (gS s.names 0) then some (Xo x.1 (gS s.names 0),x.2) else none)
  else (if UG sig x.1 (gS s.names 0) then some (Zif x.1 (gS s.names 0),x.2) else none)
 | [x,y]=>if W6 sig x.1 y.1 then some (if s.kind_=4 then ZgG x.1 y.1 else ZcU x.1 y.1,x.2++y.2) else none
 | _=>none
structure partOK (sig:List TControl) (x:QM):Prop where
 big:bigOK sig x.1
 inn:x.1.inner=[]
 len:x.2.length=x.1.sites.length
 num:∀ k∈x.2,0<=k/\k<=3
abbrev Stk:=List QM×Nat
open Classical in
noncomputable def stT(sig:List TControl)(z:Stk)(s:TTermStep):Option Stk :=
 if stepOK sig s/\Je s.kind_<=z.1.length then
  match mkR sig s (z.1.drop (z.1.length-Je s.kind_)) with
  | some x=>some (z.1.take (z.1.length-Je s.kind_)++[x],max z.2 (z.1.length-Je s.kind_+1))
  | none=>none
 else none
noncomputable def Za5(sig:List TControl)(t:List TTermStep):Option Stk:=t.foldlM (stT sig) ([],0)
theorem ZlE{sig:List TControl}:Za5 sig []=some ([],0):=rfl
theorem Zaz{sig:List TControl}{t:List TTermStep}{j:Nat}(h:j<t.length):Za5 sig (t.take (j+1))=(Za5 sig (t.take j)).bind fun z=>stT sig z t[j]:=by
 unfold Za5
 rw[List.take_succ_eq_append_getElem h,List.foldlM_append]
 cases List.foldlM (stT sig) (([],0):Stk) (t.take j) with
 | none=>rfl
 | some z =>
  show List.foldlM (stT sig) z [t[j]]=_
  simp
theorem ZcM{sig:List TControl}{t:List TTermStep}{j:Nat}(h:Za5 sig (t.take j)=none):Za5 sig t=none:=by
 have e:t=t.take j++t.drop j:=(List.take_append_drop j t).symm
 rw[e]
 unfold Za5 at *
 rw[List.foldlM_append,h]
 rfl
theorem ZlF{sig:List TControl}{z:Stk}{s:TTermStep}{x:QM}(h:stepOK sig s)(hn:Je s.kind_<=z.1.length)(hx:mkR sig s (z.1.drop (z.1.length-Je s.kind_))=some x):stT sig z s=some (z.1.take (z.1.length-Je s.kind_)++[x],max z.2 (z.1.length-Je s.kind_+1)):=by
 unfold stT
 rw[if_pos ⟨h,hn⟩,hx]
theorem Zfx{sig:List TControl}{z:Stk}{s:TTermStep}(h:¬ (stepOK sig s/\Je s.kind_<=z.1.length)):stT sig z s=none:=by
 unfold stT
 rw[if_neg h]
theorem ZlG{sig:List TControl}{z:Stk}{s:TTermStep}(hx:mkR sig s (z.1.drop (z.1.length-Je s.kind_))=none):stT sig z s=none:=by
 unfold stT
 split
 ·rw[hx]
 ·rfl
theorem Zmn{l:List ByteArray}(hp:l.Pairwise ltS)(hn:∀ n∈l,ZbG n)(hl:l.length<=16):Vt l:=by
 refine⟨fun i h=>⟨hn _ (List.getElem_mem h),fun h0=>?_⟩,hl⟩
 exact List.pairwise_iff_getElem.1 hp (i-1) i (by omega) h (by omega)
theorem Zow{sig:List TControl}(h:YJ sig){x:TControl}(hx:x∈sig):ZpN x:=by
 obtain⟨i,hi,rfl⟩:=List.getElem_of_mem hx
 exact(h.1 i hi).1
theorem ZhY{sig:List TControl}(h:YJ sig){c:Int}:YT sig c<=3:=by
 unfold YT
 cases hc:sig[c.toNat]? with
 | none=>simp
 | some x =>
  have hx:x∈sig:=List.mem_of_getElem? hc
  have:=(Zow h hx).2.1
  simp only[Option.map_some,Option.getD_some]
  omega
theorem Zjl{sig:List TControl}{s:TTermStep}(hs:YJ sig)(h:stepOK sig s)(h3:s.kind_=3):Vt (Vc s.names):=by
 refine Zmn ZhX (fun n hn=>h.nms n (setS_mem.1 hn)) ?_
 have h1:=ZaU (l:=s.names)
 have h2:=h.ports h3
 have h4:=ZhY hs (c:=s.control)
 omega
theorem Zjm{sig:List TControl}{s:TTermStep}(h:stepOK sig s)(h3:s.kind_=3){b:TBigraph}(hr:b.roots=1)(he:b.edges=0)(ho:b.outer=Vc s.names):nodeOK sig b ⟨s.control,-1,s.names.map fun n=>ixS (Vc s.names) n⟩ 0:=by
 refine⟨h.ctl h3,.inl ⟨by show (-1:Int)<0;omega,by show -b.roots <= -1;omega⟩,by rw[<-h.ports h3,List.length_map],fun l hl=>?_⟩
 obtain⟨n,hn,rfl⟩:=List.mem_map.1 hl
 have hm:=setS_mem.2 hn
 have h1:=ixS_nn.2 hm
 have h2:=Zln hm
 unfold ZR
 rw[he,ho]
 omega
theorem ZsQ{sig:List TControl}{s:TTermStep}(hs:YJ sig)(h:stepOK sig s)(h3:s.kind_=3):bigOK sig (ZcL s):=by
 refine⟨hs,by show (0:Int)<=1/\(1:Int)<=4;omega,by show 1<=8;omega,by show 0<=4;omega,by show (0:Int)<=0/\(0:Int)<=8;omega,Zjl hs h h3,?_,fun i hi=>?_,fun p hp=>?_,fun w hw=>?_⟩
 ·exact⟨fun i hi=>by simp [inn,ZcL] at hi,by simp [inn,ZcL]⟩
 ·have hi2:i<1:=hi
  have:i=0:=by omega
  subst this
  exact Zjm h h3 rfl rfl rfl
 ·simp [ZcL] at hp
 ·simp [ZcL] at hw
theorem Zox{sig:List TControl}{s:TTermStep}(hs:YJ sig)(h:stepOK sig s)(h3:s.kind_=3)(hk:¬ Qf sig s.control=2):bigOK sig (Zd7 s):=by
 refine⟨hs,by show (0:Int)<=1/\(1:Int)<=4;omega,by show 1<=8;omega,by show 1<=4;omega,by show (0:Int)<=0/\(0:Int)<=8;omega,Zjl hs h h3,?_,fun i hi=>?_,fun p hp=>?_,fun w hw=>?_⟩
 ·exact⟨fun i hi=>by simp [inn,Zd7] at hi,by simp [inn,Zd7]⟩
 ·have hi2:i<1:=hi
  have:i=0:=by omega
  subst this
  exact Zjm h h3 rfl rfl rfl
 ·have hp2:p=0:=by simpa [Zd7] using hp
  subst hp2
  refine .inr ⟨by omega,by show (0:Int)<((1:Nat):Int);omega,?_⟩
  show ¬ Qf sig (Zf5 (Zd7 s) 0)=2
  have e:Zf5 (Zd7 s) 0=s.control:=rfl
  rw[e]
  exact hk
 ·simp [Zd7] at hw
theorem ZhZ{sig:List TControl}(hs:YJ sig){b:TBigraph}(hr:0<=b.roots/\b.roots<=4)(hn:b.nodes=[])(he:b.edges=0)(ho:b.outer=[])(hi:b.inner=[])(hp:∀ p∈b.sites,p<0/\-b.roots<=p)(hl:b.sites.length<=4):bigOK sig b:=by
 refine⟨hs,hr,by rw[hn];simp,hl,by rw[he];omega,?_,?_,fun i h=>by rw[hn] at h;simp at h,fun p h=>.inl (hp p h),fun w h=>by rw[hi] at h;simp at h⟩
 ·rw[ho];exact⟨fun i h=>by simp at h,by simp⟩
 ·unfold inn
  rw[hi];exact⟨fun i h=>by simp at h,by simp⟩
theorem Zoy{sig:List TControl}(hs:YJ sig):bigOK sig JW:=ZhZ hs (by show (0:Int)<=0/\(0:Int)<=4;omega) rfl rfl rfl rfl (fun p hp=>by simp [JW] at hp) (by simp [JW])
theorem ZsR{sig:List TControl}(hs:YJ sig):bigOK sig ZoW:=ZhZ hs (by show (0:Int)<=1/\(1:Int)<=4;omega) rfl rfl rfl rfl (fun p hp=>by simp [ZoW] at hp) (by simp [ZoW])
theorem ZsS{sig:List TControl}(hs:YJ sig):bigOK sig ZoX:=ZhZ hs (by show (0:Int)<=1/\(1:Int)<=4;omega) rfl rfl rfl rfl (fun p hp=>by
 have:p = -1:=by simpa [ZoX] using hp
 subst this
 exact⟨by omega,by show -(1:Int) <= -1;omega⟩) (by simp [ZoX])
theorem Zoz{a b:TBigraph}(ha:a.inner=[])(hb:b.inner=[]):(ZcU a b).inner=[]:=by
 show UF (a.inner.map _) (b.inner.map _)=[]
 rw[ha,hb]
 rfl
theorem ZsT{s:TTermStep}{x:TBigraph}(hr:x.roots=1)(hn:x.nodes=[])(hs:x.sites=[])(hi:x.inner=[]):ZgG (ZcL s) x=U0 (Zd7 s) x:=by
 obtain⟨r,ns,ss,e,o,i⟩:=x
 simp only at hr hn hs hi
 subst hr hn hs hi
 rfl
theorem Zwd{sig:List TControl}(hs:YJ sig){s:TTermStep}(h:stepOK sig s){xs:List QM}(hx:∀ x∈xs,partOK sig x){y:QM}(hy:mkR sig s xs=some y):partOK sig y:=by
 unfold mkR at hy
 split at hy
 ·cases hy;exact⟨Zoy hs,rfl,rfl,fun k hk=>by simp at hk⟩
 split at hy
 ·cases hy;exact⟨ZsR hs,rfl,rfl,fun k hk=>by simp at hk⟩
 split at hy
 ·rename_i h2
  cases hy
  refine⟨ZsS hs,rfl,rfl,fun k hk=>?_⟩
  have:k=s.site:=by simpa using hk
  subst this
  exact h.site h2
 split at hy
 ·rename_i x
  have hx0:=hx x (by simp)
  split at hy
  ·split at hy
   ·rename_i hA
    cases hy
    refine⟨hA.2.2,?_,?_,hx0.num⟩
    ·show (x.1.inner.map _)=[]
     rw[hx0.inn]
     rfl
    ·rw[hx0.len]
     show _=([]++x.1.sites.map _).length
     simp
   ·cases hy
  split at hy
  ·split at hy
   ·rename_i hA
    cases hy
    refine⟨hA.2.2,?_,?_,hx0.num⟩
    ·show (x.1.inner.map _)=[]
     rw[hx0.inn]
     rfl
    ·exact hx0.len
   ·cases hy
  ·split at hy
   ·rename_i hA
    cases hy
    refine⟨hA.2.2,?_,?_,hx0.num⟩
    ·show (x.1.inner.map _)=[]
     rw[hx0.inn]
     rfl
    ·exact hx0.len
   ·cases hy
 ·rename_i x z
  have hx0:=hx x (by simp)
  have hx1:=hx z (by simp)
  split at hy
  ·rename_i hA
   cases hy
   have hlen:(x.2++z.2).length=(ZcU x.1 z.1).sites.length:=by
    show _=(x.1.sites++z.1.sites.map _).length
    simp only[List.length_append,List.length_map,hx0.len,hx1.len]
   have hnum:∀ k∈x.2++z.2,0<=k/\k<=3:=fun k hk=>by
    rcases List.mem_append.1 hk with hk | hk
    ·exact hx0.num k hk
    ·exact hx1.num k hk
   split
   ·refine⟨((Zon (Zdm hA.1 hA.2.1)).2 hA.2.2.2).1,Zoz hx0.inn hx1.inn,?_,hnum⟩
    rw[hlen]
    show _=((ZcU x.1 z.1).sites.map ZjD).length
    rw[List.length_map]
   ·exact⟨hA.2.2.2,Zoz hx0.inn hx1.inn,hlen,hnum⟩
  ·cases hy
 ·cases hy
theorem Zwe{sig:List TControl}(hs:YJ sig){s:TTermStep}{z z':Stk}(hx:∀ x∈z.1,partOK sig x)(h:stT sig z s=some z'):(∀ x∈z'.1,partOK sig x)/\z'.1.length<=z.1.length+1/\z'.2<=max z.2 (z.1.length+1)/\z'.1.length<=z'.2:=by
 unfold stT at h
 split at h
 ·rename_i hA
  split at h
  ·rename_i y hy
   cases h
   refine⟨fun x hx2=>?_,?_,?_,?_⟩
   ·rcases List.mem_append.1 hx2 with q | q
    ·exact hx x (List.mem_of_mem_take q)
    ·rw[List.mem_singleton.1 q]
     exact Zwd hs hA.1 (fun x hx3=>hx x (List.mem_of_mem_drop hx3)) hy
   ·simp only[List.length_append,List.length_take,List.length_cons,List.length_nil]
    omega
   ·show max z.2 _<=_
    omega
   ·simp only[List.length_append,List.length_take,List.length_cons,List.length_nil]
    omega
  ·cases h
 ·cases h
theorem ZbI{sig:List TControl}(hs:YJ sig){t:List TTermStep}:∀{j:Nat}{z:Stk},j<=t.length->Za5 sig (t.take j)=some z->(∀ x∈z.1,partOK sig x)/\z.1.length<=j/\z.2<=j/\z.1.length<=z.2
 | 0,z,_,h=>by
  rw[List.take_zero,ZlE] at h
  cases h
  exact⟨fun x hx=>by simp at hx,Nat.le_refl _,Nat.le_refl _,Nat.le_refl _⟩
 | j+1,z,hj,h=>by
  rw[Zaz (by omega)] at h
  cases hp:Za5 sig (t.take j) with
  | none=>rw[hp] at h;cases h
  | some z0 =>
   rw[hp] at h
   obtain⟨a1,a2,a3,a4⟩:=ZbI hs (j:=j) (by omega) hp
   obtain⟨b1,b2,b3,b4⟩:=Zwe hs a1 h
   exact⟨b1,by omega,by omega,b4⟩
def Zh0(l v ini:List Int):Nat->List Int
 | 0=>ini
 | j+1=>(Zh0 l v ini j).set (g0 l j).toNat (g0 v j)
theorem XQ{l v ini:List Int}:∀{j:Nat},(Zh0 l v ini j).length=ini.length
 | 0=>rfl
 | j+1=>by rw[Zh0,List.length_set,XQ]
theorem Zjn{l v a b:List Int}(hl:a.length=b.length):∀{j:Nat},j<=l.length->∀ i:Nat,i<a.length->(∃ k,k<j/\(g0 l k).toNat=i)->(Zh0 l v a j)[i]? = (Zh0 l v b j)[i]?
 | 0,_,i,_,h=>by obtain⟨k,hk,_⟩:=h;omega
 | j+1,hj,i,hi,h=>by
  have la:=XQ (l:=l) (v:=v) (ini:=a) (j:=j)
  have lb:=XQ (l:=l) (v:=v) (ini:=b) (j:=j)
  rw[Zh0,Zh0,List.getElem?_set,List.getElem?_set,la,lb,hl]
  by_cases e:(g0 l j).toNat=i
  ·rw[if_pos e,if_pos e]
  ·rw[if_neg e,if_neg e]
   obtain⟨k,hk,hke⟩:=h
   refine Zjn hl (by omega) i hi ⟨k,?_,hke⟩
   by_cases q:k=j
   ·subst q;exact absurd hke e
   ·omega
theorem Zp9{l v a b:List Int}{n:Nat}(ho:Za4 n l)(ha:a.length=n)(hb:b.length=n):Zh0 l v a n=Zh0 l v b n:=by
 refine List.ext_getElem? fun i=>?_
 by_cases hi:i<n
 ·refine Zjn (by omega) (by rw[ho.1];omega) i (by omega) ?_
  obtain⟨k,hk,e⟩:=List.getElem_of_mem (ho.2 i hi)
  refine⟨k,by rw[<-ho.1];exact hk,?_⟩
  have:g0 l k=l[k]:=by simp [hk]
  rw[this,e]
  omega
 ·rw[List.getElem?_eq_none (by rw[XQ];omega),List.getElem?_eq_none (by rw[XQ];omega)]
def Zq4(x:QM):TBigraph:=⟨x.1.roots,x.1.nodes,Zh0 x.2 x.1.sites x.1.sites x.2.length,x.1.edges,x.1.outer,x.1.inner⟩
open Classical in
noncomputable def Zep(sig:List TControl)(t:List TTermStep):Option TBigraph :=
 if YJ sig/\t.length<=60 then
  match Za5 sig t with
  | some ([x],_)=>if Za4 x.2.length x.2 then some (Zq4 x) else none
  | _=>none
 else none
end Go.Fd

namespace Go.Fd
set_option maxRecDepth 20000
theorem Zh1{b:TBigraph}{s:ByteArray}:(adN b s).length<=b.outer.length+1:=Nat.le_trans ZaU (by simp)
theorem Zqa{sig:List TControl}{b:TBigraph}{s:ByteArray}(h:bigOK sig b){l:Int}(hl:ZR b l):0<=Zcy b b.edges (adN b s) (fun x=>x) l/\Zcy b b.edges (adN b s) (fun x=>x) l<=100:=by
 have he:=h.edges
 have h4:=h.small.outer
 have ho:=Zh1 (b:=b) (s:=s)
 rw[Zv6 h hl]
 unfold Zlq
 rcases J1 hl with ⟨h0,h1⟩ | ⟨i,hi,rfl⟩
 ·rw[Zbu h0 h1];omega
 ·rw[Zbv he.1 hi]
  have x2:=ZdP (l:=adN b s) (s:=b.outer[i])
  have x4:0<=ixS (adN b s) b.outer[i]:=ixS_nn.2 (setS_mem.2 (by simp))
  omega
theorem Zwf{sig:List TControl}{b:TBigraph}{s:ByteArray}(h:bigOK sig (Zif b s)):ZbG s:=by
 have hm:s∈(Zif b s).outer:=setS_mem.2 (by simp)
 obtain⟨i,hi,e⟩:=List.getElem_of_mem hm
 have:=(h.outer.1 i hi).1
 rwa [e] at this
theorem Zwg{sig:List TControl}{b:TBigraph}{s:ByteArray}(h:bigOK sig b)(hs:s.size<=4294967290):Zs 4294967290 (Zif b s) :=
 Zkg h (QD (by omega) (Xp h)) (Nat.le_trans Zh1 (by have:=h.outer.2;omega)) fun y hy=>by
  rcases List.mem_append.1 (setS_mem.1 hy) with hy | hy
  ·have:=Yg h.outer hy
   omega
  ·rw[List.mem_singleton.1 hy];exact hs
theorem ZoA{sig:List TControl}{b:TBigraph}{s:ByteArray}(h:bigOK sig b)(hs:s.size<=4294967296):Zs 4294967296 (Zif b s) :=
 Zp0 h (Nat.le_trans Zh1 (by have:=h.outer.2;omega)) fun y hy=>by
  rcases List.mem_append.1 (setS_mem.1 hy) with hy | hy
  ·have:=Yg h.outer hy
   omega
  ·rw[List.mem_singleton.1 hy];exact hs
theorem ZoB{sig:List TControl}{b:TBigraph}{s:ByteArray}(h:bigOK sig b)(hf:Zy b):Zy (Zif b s) :=
 ZnR h hf (fun l hl=>Zqa h hl) (by have:=h.edges;rw[Zd];omega)
theorem ZsU{sig:List TControl}{b:TBigraph}{s:ByteArray}(h:bigOK sig b):UI b (ZoV b b.outer (adN b s)) b.edges (adN b s)=Zif b s:=by
 refine ZgB h fun l hl=>?_
 have he:=h.edges
 rw[Zv6 h hl]
 unfold Zlq
 rcases J1 hl with ⟨h0,h1⟩ | ⟨i,hi,rfl⟩
 ·rw[Zbu h0 h1,ZoV,if_neg (by omega)]
 ·rw[Zbv he.1 hi,ZoV,if_pos (by omega),show b.edges+(i:Int)-b.edges=i by omega,Int.toNat_natCast,show gS b.outer i=b.outer[i] from Ub hi]
theorem Zqb(e:Int×ByteArray)(lvl:Nat)(S:Sto):Sem Go.Proofs.Tryz.prog Ws lvl [oE e] S (oE e) S:=by
 refine Zb Zj8 (by simp [low,men,Zj]) ?_
 simp only[Ze4,EVA,seval]
noncomputable def ZwC(sig:List TControl)(b:TBigraph)(s:ByteArray):TBigraph:=@ite _ (UG sig b s) (Classical.propDecidable _) (Zif b s) JW
theorem Zkp(sig:List TControl)(b:TBigraph)(s:ByteArray)(hn:sig.length<=4294967296)(hbs:∀ y∈sig,Zr 4294967296 y)(hb:Zs 4294967296 b)(hs:s.size<=4294967296)(hf:Zy b)(lvl:Nat)(S:Sto):Sem Go.Proofs.Tryz.prog Wb lvl [.tr (.sl (sig.map Zh)),.ag ((Zc b).map .tr),iS s] S (.tu [Zi (ZwC sig b s),iB (dc (UG sig b s))]) S:=by
 refine Zb ZfQ (by simp [Zi,low,men,Zj]) ?_
 simp only[Zbf,Zc,EVA,seval,Zj,men]
 refine Za (Jt sig b hn hbs hb) ?_
 unfold ZwC
 cases h1:dc (bigOK sig b)
 ·have hno:¬ UG sig b s:=fun g=>dc_not.1 h1 g.1
  rw[if_neg hno,Zg hno]
  simp only[EVA,seval]
  rfl
 have hG:=dc_iff.1 h1
 have hE:=hG.edges
 have h4:=hG.small.outer
 simp only[EVA,seval,Zj,men]
 refine Za (UX s (by omega)) ?_
 cases h3:dc (ZbG s)
 ·have hno:¬ UG sig b s:=fun g=>dc_not.1 h3 (Zwf g.2.2)
  rw[if_neg hno,Zg hno]
  simp only[EVA,seval]
  rfl
 have hnm:=dc_iff.1 h3
 simp only[EVA,seval,Zj,men]
 refine Za (Dx b.outer s (by have:=hb.2.2.2.1;omega)) ?_
 cases h5:dc (s∈b.outer)
 ·have hM:=dc_not.1 h5
  simp only[EVA,seval,Zj,men]
  refine Za (ZaS b.outer (by omega)) ?_
  simp only[List.length_map,EVA,seval,Zj,men]
  have q:=Uo b b.edges (b.outer++[s]) Ws [] (fun x=>x) hE.1 (QD (by omega) (Xp hG)) (by omega) (by omega) (by rw[List.length_append];simp only[List.length_cons,List.length_nil];omega) (fun x hx l hl=>by
   obtain⟨i,hi,rfl⟩:=List.getElem_of_mem hx
   exact(hG.nodes i hi).links l hl) hG.inner (fun l hl lvl S=>Zqb (Zeo b l) lvl S)
  rw[show Vc (b.outer++[s])=adN b s from rfl,show UI b (Zcy b b.edges (adN b s) fun x=>x) b.edges (adN b s)=Zif b s from rfl] at q
  rw[show cut (rS b.outer++[[Tr.v (Value.string s)]]) 0 (b.outer.length+1)=rS (b.outer++[s]) from by
   rw[Yb (by simp [rS])]
   simp [rS]]
  simp only[Zc,List.map_cons,List.map_nil] at q
  refine⟨by omega,by simp [rS],Za q ?_⟩
  simp only[Zi,EVA,seval,Zj,men]
  have qv:=ZcE sig (Zif b s) hn hbs (Zwg hG (by have:=hnm.2.2;omega)) (ZoB hG hf)
  simp only[Zc,List.map_cons,List.map_nil] at qv
  refine Za qv ?_
  cases h6:dc (bigOK sig (Zif b s))
  ·have hno:¬ UG sig b s:=fun g=>dc_not.1 h6 g.2.2
   rw[if_neg hno,Zg hno,if_neg (dc_not.1 h6)]
   simp only[Zi,EVA,seval]
   rfl
  ·have hyes:UG sig b s:=⟨hG,hM,dc_iff.1 h6⟩
   rw[if_pos hyes,ZL hyes,if_pos (dc_iff.1 h6)]
   simp only[Zi,List.length_map,EVA,seval]
 ·have hno:¬ UG sig b s:=fun g=>g.2.1 (dc_iff.1 h5)
  rw[if_neg hno,Zg hno]
  simp only[EVA,seval]
  rfl
theorem Zd8(sig:List TControl)(b:TBigraph)(s:ByteArray)(hn:sig.length<=4294967296)(hbs:∀ y∈sig,Zr 4294967296 y)(hb:Zs 4294967296 b)(hs:s.size<=4294967296)(hf:Zy b)(lvl:Nat)(S:Sto):Sem Go.Proofs.Tryz.prog Wd lvl [.tr (.sl (sig.map Zh)),.ag ((Zc b).map .tr),iS s] S (.tu [@ite IV (UG sig b s) (Classical.propDecidable _) (.ag ((Zc (Zif b s)).map .tr)) (Zi JW),iB (dc (UG sig b s))]) S:=by
 refine Zb ZfV (by split <;> simp [Zi,Zc,low,men,Zj]) ?_
 simp only[Zbk,Zc,EVA,seval,Zj,men]
 have q:=XE sig b hn hbs hb hf
 simp only[Zc,List.map_cons,List.map_nil] at q
 refine Za q ?_
 cases h1:dc (bigOK sig b)
 ·have hno:¬ UG sig b s:=fun g=>dc_not.1 h1 g.1
  rw[if_neg hno,Zg hno]
  simp only[EVA,seval]
  rfl
 have hG:=dc_iff.1 h1
 have hE:=hG.edges
 have h4:=hG.small.outer
 simp only[EVA,seval,Zj,men]
 refine Za (Du b.outer s (by omega)) ?_
 by_cases hM:s∈b.outer
 ·have hno:¬ UG sig b s:=fun g=>g.2.1 hM
  rw[if_neg hno,Zg hno]
  have e:=ixS_nn.2 hM
  simp only[e,EVA,seval]
  rfl
 have e:=Zlm hM
 have hol:=Zh1 (b:=b) (s:=s)
 simp only[e,ZnM,ZnN,Nat.zero_max,List.length_map,EVA,seval,Zj,men]
 rw[show cut (rS b.outer++[[Tr.v (Value.string s)]]) 0 (b.outer.length+1)=rS (b.outer++[s]) from by
  rw[Yb (by simp [rS])]
  simp [rS]]
 refine⟨by omega,by omega,by simp [rS],Za (Up (b.outer++[s]) (by rw[List.length_append];simp only[List.length_cons,List.length_nil];omega)) ?_⟩
 rw[show Vc (b.outer++[s])=adN b s from rfl]
 simp only[EVA,seval,Zj,men]
 have qR:=Zje sig b hG b.outer (adN b s) rfl (by omega)
 rw[ZsU hG] at qR
 simp only[Zc,List.map_cons,List.map_nil] at qR
 refine Za qR ?_
 simp only[Zi,EVA,seval,Zj,men]
 by_cases hq:bigOK sig (Zif b s)
 ·have qG:=ZdQ sig (Zif b s) hn hbs (ZoA hG hs) (ZoB hG hf) hq
  simp only[Zc,List.map_cons,List.map_nil] at qG
  have hyes:UG sig b s:=⟨hG,hM,hq⟩
  rw[if_pos hyes,ZL hyes]
  refine Za qG ?_
  simp only[EVA,seval]
 ·have qG:=ZdR sig (Zif b s) hn hbs (ZoA hG hs) (ZoB hG hf) hq
  simp only[Zc,List.map_cons,List.map_nil] at qG
  have hno:¬ UG sig b s:=fun g=>hq g.2.2
  rw[if_neg hno,Zg hno]
  refine Za qG ?_
  simp only[Zi,List.length_map,EVA,seval]
  try rfl
end Go.Fd

namespace Go.Fd
set_option maxRecDepth 20000
theorem Zjo(s:ByteArray)(hs:s.size<=4294967296)(lvl:Nat)(S:Sto):Sem Go.Proofs.Tryz.prog VC lvl [iS s] S (iB (!dc (ZbG s))) S:=by
 refine Zb ZeZ trivial ?_
 simp only[Zag,EVA,seval,Zj,men]
 refine Za (UX s (by omega)) ?_
 simp only[EVA,seval]
theorem ZdU{fe:FuncId}(ns:List ByteArray)(hl:ns.length<=4294967296)(hf:∀ n∈ns,∀(lvl:Nat)(S:Sto),Sem Go.Proofs.Tryz.prog fe lvl [iS n] S (iB (!dc (ZbG n))) S)(lvl:Nat)(S:Sto):Sem Go.Proofs.Tryz.prog Zz lvl [.tr (.sl (rS ns)),.fn fe []] S (iB (!dc (∀ n∈ns,ZbG n))) S:=by
 have q:=Zem (P:=Go.Proofs.Tryz.prog) ZqZ Zoj (t:=fun n:ByteArray=>ts n) (f:=fun s=>!dc (ZbG s)) (fe:=fe) (cs:=[]) ns (by omega) (fun x hx lvl S=>hf x hx lvl S)
 have e:(ns.any fun s=>!dc (ZbG s)) = !dc (∀ n∈ns,ZbG n):=by
  cases h:dc (∀ n∈ns,ZbG n)
  ·have h1:=dc_not.1 h
   have:∃ n∈ns,¬ ZbG n:=Classical.byContradiction fun g=>h1 fun x hx=>Classical.byContradiction fun k=>g ⟨x,hx,k⟩
   obtain⟨n,hn,hb⟩:=this
   simp only[Bool.not_false,List.any_eq_true]
   exact⟨n,hn,by rw[Zg hb];rfl⟩
  ·have h1:=dc_iff.1 h
   simp only[Bool.not_true,List.any_eq_false]
   intro n hn
   rw[ZL (h1 n hn)]
   decide
 rw[e] at q
 exact q lvl S
def plB(a b d:Bool)(c t:Int)(n:Nat):Bool:=(a || decide (c=0))&&(b || decide (t=0))&&(d || decide ((n:Int)=0))
set_option maxHeartbeats 2000000 in
theorem Dy(k c t:Int)(ns:List ByteArray)(a b d:Bool)(lvl:Nat)(S:Sto):Sem Go.Proofs.Tryz.prog ZN lvl [.ag [iI k,iI c,iI t,.tr (.sl (rS ns))],iB a,iB b,iB d] S (iB (plB a b d c t ns.length)) S:=by
 refine Zb Dm trivial ?_
 by_cases hc:c=0 <;> by_cases ht:t=0 <;> by_cases hn:(ns.length:Int)=0 <;> cases a <;> cases b <;> cases d <;> (simp only[Xi,hc,ht,hn,List.length_map,EVA,seval]) <;> simp [plB,hc,ht,hn] <;> exact fun e=>hn (by simp [e])
def Zjp(k:Int):Int:=if k=0\/k=1\/k=2 then 0 else if k=3\/k=6\/k=7 then 1 else if k=4\/k=5 then 2 else -1
theorem Zfy(k c t:Int)(ns:List ByteArray)(lvl:Nat)(S:Sto):Sem Go.Proofs.Tryz.prog Z6 lvl [.ag [iI k,iI c,iI t,.tr (.sl (rS ns))]] S (iI (Zjp k)) S:=by
 refine Zb Zae trivial ?_
 by_cases h0:k=0
 ·subst h0; (simp only[ZC,EVA,seval]) <;> rfl
 by_cases h1:k=1
 ·subst h1; (simp only[ZC,EVA,seval]) <;> rfl
 by_cases h2:k=2
 ·subst h2; (simp only[ZC,EVA,seval]) <;> rfl
 by_cases h3:k=3
 ·subst h3; (simp only[ZC,EVA,seval]) <;> rfl
 by_cases h4:k=4
 ·subst h4; (simp only[ZC,EVA,seval]) <;> rfl
 by_cases h5:k=5
 ·subst h5; (simp only[ZC,EVA,seval]) <;> rfl
 by_cases h6:k=6
 ·subst h6; (simp only[ZC,EVA,seval]) <;> rfl
 by_cases h7:k=7
 ·subst h7; (simp only[ZC,EVA,seval]) <;> rfl
 simp only[ZC,h0,h1,h2,h3,h4,h5,h6,h7,EVA,seval]
 simp [Zjp,h0,h1,h2,h3,h4,h5,h6,h7]
theorem ZlH{sig:List TControl}{s:TTermStep}(h:stepOK sig s):Zjp s.kind_=Je s.kind_:=by
 have hk:=h.kind
 unfold Zjp Je
 by_cases h0:s.kind_=0
 ·simp [h0]
 by_cases h1:s.kind_=1
 ·simp [h1]
 by_cases h2:s.kind_=2
 ·simp [h2]
 by_cases h3:s.kind_=3
 ·simp [h3]
 by_cases h4:s.kind_=4
 ·simp [h4]
 by_cases h5:s.kind_=5
 ·simp [h5]
 by_cases h6:s.kind_=6
 ·simp [h6]
 have h7:s.kind_=7:=by omega
 simp [h7]
theorem Zmo(sig:List TControl)(s:TTermStep)(hn:sig.length<=4294967296)(hb:ZA 4294967296 s)(lvl:Nat)(S:Sto):Sem Go.Proofs.Tryz.prog WJ lvl [.tr (.sl (sig.map Zh)),.ag ((Zf s).map .tr)] S (iB (dc (stepOK sig s))) S:=by
 obtain⟨k,c,t,ns⟩:=s
 obtain⟨b1,b2⟩:=hb
 simp only at b1 b2
 have q:=ZdU (fe:=VC) ns b1 fun n hn lvl S=>Zjo n (b2 n hn) lvl S
 refine Zb Zhr trivial ?_
 simp only[Zca,Zf,EVA,seval,Zj,men]
 refine Za q ?_
 cases hA:dc (∀ n∈ns,ZbG n)
 ·rw[Zg fun g:stepOK sig ⟨k,c,t,ns⟩=>dc_not.1 hA g.nms]
  simp only[EVA,seval]
 have hnm:=dc_iff.1 hA
 by_cases h2:k=2
 ·subst h2
  simp only[EVA,seval,Zj,men]
  refine Za (Dy 2 c t ns false true false) ?_
  cases hP:plB false true false c t ns.length
  ·have hno:¬ stepOK sig ⟨2,c,t,ns⟩:=fun g=>by
    have e1:c=0:=g.ctl0 (by simp)
    have e2:ns.length=0:=g.non (by simp) (by simp) (by simp)
    rw[show plB false true false c t ns.length=true by simp [plB,e1,e2]] at hP
    cases hP
   rw[Zg hno]
   simp only[EVA,seval]
  ·simp only[plB,Bool.and_eq_true,Bool.or_eq_true,decide_eq_true_eq,Bool.false_eq_true,false_or,true_or,and_true] at hP
   simp only[EVA,seval,Zj,men]
   refine Za (YH t 0 3) ?_
   cases hW:inB t 0 3
   ·rw[Zg fun g:stepOK sig ⟨2,c,t,ns⟩=>inB_not.1 hW (g.site rfl)]
    simp only[EVA,seval]
   ·have hyes:stepOK sig ⟨2,c,t,ns⟩:=⟨by simp,fun _=>hP.1,fun g=>absurd rfl g,hnm,fun _=>inB_iff.1 hW,fun g=>by simp at g,fun g=>by simp at g,fun g=>by simp at g,fun _ _ _=>by have:=hP.2;simp only;omega⟩
    rw[ZL hyes]
    simp only[EVA,seval]
 by_cases h3:k=3
 ·subst h3
  simp only[EVA,seval,Zj,men]
  refine Za (Dy 3 c t ns true false true) ?_
  cases hP:plB true false true c t ns.length
  ·have hno:¬ stepOK sig ⟨3,c,t,ns⟩:=fun g=>by
    have e1:t=0:=g.site0 (by simp)
    rw[show plB true false true c t ns.length=true by simp [plB,e1]] at hP
    cases hP
   rw[Zg hno]
   simp only[EVA,seval]
  ·simp only[plB,Bool.and_eq_true,Bool.or_eq_true,decide_eq_true_eq,Bool.false_eq_true,false_or,true_or,and_true,true_and] at hP
   simp only[List.length_map,EVA,seval,Zj,men]
   refine⟨by rw[Zd];omega,Za (YH c 0 ((sig.length:Int)-1)) ?_⟩
   cases hW:inB c 0 ((sig.length:Int)-1)
   ·rw[Zg fun g:stepOK sig ⟨3,c,t,ns⟩=>inB_not.1 hW (g.ctl rfl)]
    simp only[EVA,seval]
   ·have hw:=inB_iff.1 hW
    obtain⟨m,hm⟩:∃ m:Nat,c=m:=⟨c.toNat,by omega⟩
    have hms:m<sig.length:=by omega
    have gs:=W9 (c:=Zh) hms
    have e:YT sig c=sig[m].ports:=by simp [YT,hm,hms]
    simp only[hm,gs,Zh,List.length_map,EVA,seval]
    by_cases hp:(ns.length:Int)=sig[m].ports
    ·have hyes:stepOK sig ⟨3,c,t,ns⟩:=⟨by simp,fun g=>absurd rfl g,fun _=>hP,hnm,fun g=>by simp at g,fun _=>hw,fun _=>by rw[e];exact hp,fun g=>by simp at g,fun g=>absurd rfl g⟩
     rw[<-hm,ZL hyes]
     simp [hp]
    ·have hno:¬ stepOK sig ⟨3,c,t,ns⟩:=fun g=>hp (by rw[<-e];exact g.ports rfl)
     rw[<-hm,Zg hno]
     simp [hp]
 by_cases h67:k=6\/k=7
 ·have key:Sem Go.Proofs.Tryz.prog ZN lvl [] S (iB true) S->True:=fun _=>trivial
  have hl:plB false false true c t ns.length=true↔c=0/\t=0:=by simp [plB]
  rcases h67 with rfl | rfl
  all_goals
   simp only[EVA,seval,Zj,men]
   refine Za (Dy _ c t ns false false true) ?_
   cases hP:plB false false true c t ns.length
   ·rw[Zg fun g:stepOK sig ⟨_,c,t,ns⟩=>by
     rw[hl.2 ⟨g.ctl0 (by simp),g.site0 (by simp)⟩] at hP
     cases hP]
    simp only[EVA,seval]
   ·have hP:=hl.1 hP
    simp only[List.length_map,EVA,seval]
    by_cases hp:(ns.length:Int)=1
    ·rw[ZL (show stepOK sig ⟨_,c,t,ns⟩ from ⟨by simp,fun _=>hP.1,fun _=>hP.2,hnm,fun g=>by simp at g,fun g=>by simp at g,fun g=>by simp at g,fun _=>by simp only;omega,fun g1 g2 g3=>by simp at g2 g3⟩)]
     simp [hp]
    ·rw[Zg fun g:stepOK sig ⟨_,c,t,ns⟩=>hp (by have:=g.one (by simp);simp only at this;omega)]
     simp [hp]
 have h6:¬ k=6:=fun e=>h67 (.inl e)
 have h7:¬ k=7:=fun e=>h67 (.inr e)
 simp only[h2,h3,h6,h7,EVA,seval,Zj,men]
 refine Za (Zfy k c t ns) ?_
 have hl:plB false false false c t ns.length=true↔c=0/\t=0/\ns.length=0:=by
  simp [plB]
  constructor
  ·rintro⟨⟨a,b⟩,d⟩;exact⟨a,b,by omega⟩
  ·rintro⟨a,b,d⟩;exact⟨⟨a,b⟩,by omega⟩
 by_cases hk:k=0\/k=1\/k=4\/k=5
 ·have hnd:(0:Int)<=Zjp k:=by rcases hk with rfl | rfl | rfl | rfl <;> decide
  simp only[hnd,EVA,seval,Zj,men]
  refine Za (Dy k c t ns false false false) ?_
  cases hP:plB false false false c t ns.length
  ·rw[Zg fun g:stepOK sig ⟨k,c,t,ns⟩=>by
    rw[hl.2 ⟨g.ctl0 h3,g.site0 h2,g.non h3 h6 h7⟩] at hP
    cases hP]
   simp only[EVA,seval]
  ·have hP:=hl.1 hP
   rw[ZL (show stepOK sig ⟨k,c,t,ns⟩ from ⟨by simp only;omega,fun _=>hP.1,fun _=>hP.2.1,hnm,fun g=>absurd g h2,fun g=>absurd g h3,fun g=>absurd g h3,fun g=>g.elim (fun e=>absurd e h6) (fun e=>absurd e h7),fun _ _ _=>hP.2.2⟩)]
   simp only[EVA,seval]
 ·have hnd:¬ (0:Int)<=Zjp k:=by
   unfold Zjp
   rw[if_neg (by omega),if_neg (by omega),if_neg (by omega)]
   decide
  rw[Zg fun g:stepOK sig ⟨k,c,t,ns⟩=>by have:=g.kind;simp only at this;omega]
  simp only[hnd,EVA,seval]
theorem Zkq(l:List ByteArray)(hl:l.length<=4294967296)(hb:∀ y∈l,y.size<=4294967296)(lvl:Nat)(S:Sto):Sem Go.Proofs.Tryz.prog Qi lvl [.tr (.sl (rS l))] S (iB (dc (∀ n∈l,ZbG n))) S:=by
 refine Zb ZfP trivial ?_
 simp only[Zbe,EVA,seval]
 refine ZB (α:=Unit) l.length (fun j _=>[(3,iI j)]) (fun _ _=>[]) (fun j _=>∀ n∈l.take j,ZbG n) () (by simp only[EVA,seval]) (by (simp only[EVA,seval]) <;> rfl) (by simp) ?_
 intro j _ hj hA
 simp only[List.length_map,EVA,seval]
 refine Zn (fun hlt=>?_) (fun hge=>?_)
 ·have hja:j<l.length:=by omega
  have ga:=Zen (e0:=e0S) (c:=fun n:ByteArray=>[ts n]) hja
  rw[Ub hja] at ga
  simp only[ga,EVA,seval,Zj,men]
  refine Za (Zdg l[j] (by have:=hb _ (List.getElem_mem hja);omega)) ?_
  cases hm:dc (ZbG l[j])
  ·rw[Zg fun g:∀ n∈l,ZbG n=>dc_not.1 hm (g _ (List.getElem_mem hja))]
   simp only[EVA,seval]
  ·have hm:=dc_iff.1 hm
   simp only[EVA,seval]
   exact⟨by rw[Zd];omega,Ze () hja rfl (by
    intro x hx
    rw[List.take_succ_eq_append_getElem hja] at hx
    rcases List.mem_append.1 hx with hx | hx
    ·exact hA x hx
    ·rw[List.mem_singleton.1 hx];exact hm)⟩
 ·have:j=l.length:=by omega
  subst this
  rw[List.take_length] at hA
  rw[ZL hA]
theorem Zfz(k:Int)(lvl:Nat)(S:Sto):Sem Go.Proofs.Tryz.prog Yd lvl [iI k] S (iI (Je k:Nat)) S:=by
 refine Zb ZfO trivial ?_
 by_cases h4:k=4
 ·subst h4; (simp only[Yv,EVA,seval]) <;> rfl
 by_cases h5:k=5
 ·subst h5; (simp only[Yv,EVA,seval]) <;> rfl
 by_cases h3:k=3
 ·subst h3; (simp only[Yv,EVA,seval]) <;> rfl
 by_cases h6:k=6
 ·subst h6; (simp only[Yv,EVA,seval]) <;> rfl
 by_cases h7:k=7
 ·subst h7; (simp only[Yv,EVA,seval]) <;> rfl
 simp only[Yv,h3,h4,h5,h6,h7,EVA,seval]
 simp [Je,h3,h4,h5,h6,h7]
end Go.Fd

namespace Go.Fd
set_option maxRecDepth 20000
theorem ZgH{n:Int}(h:-4294967296<=n/\n<=4294967296):Xt .i64 n:=by rw[Zd];omega
theorem X3{sig:List TControl}{b:TBigraph}(h:bigOK sig b):Zy b:=by
 have hr:=h.roots;have he:=h.edges;have hn:=h.nodesL;have ho:=h.outer.2;have hs:=h.sg.2.2
 have hl:∀ l,ZR b l->Xt .i64 l:=fun l hl=>by
  unfold ZR at hl
  exact ZgH (by omega)
 refine⟨ZgH (by omega),fun x hx=>?_,fun p hp=>?_,ZgH (by omega),fun w hw=>hl _ (h.inner w hw)⟩
 ·obtain⟨i,hi,rfl⟩:=List.getElem_of_mem hx
  have q:=h.nodes i hi
  have q1:=q.ctl
  have q2:=Jo hr.1 q.par
  have q3:=(UE h hx).1
  exact⟨ZgH (by omega),ZgH (by omega),fun l hl2=>hl l (q.links l hl2)⟩
 ·have q2:=Jo hr.1 (h.sites p hp)
  have q3:=XP h hp
  exact ZgH (by omega)
theorem U1{sig:List TControl}{b:TBigraph}(h:bigOK sig b):Zs 4294967296 b:=QD (by omega) (Xp h)
theorem Zjq(s:ByteArray)(hs:s.size<=4294967296)(lvl:Nat)(S:Sto):Sem Go.Proofs.Tryz.prog VF lvl [iS s] S (iB (!dc (ZbG s))) S:=by
 refine Zb Ze8 trivial ?_
 simp only[Zaq,EVA,↓reduceIte,Nat.reduceEqDiff,reduceCtorEq,Nat.reduceLeDiff,Nat.reduceLT,Zj,men]
 refine Za (UX s (by omega)) ?_
 simp only[EVA,↓reduceIte,Nat.reduceEqDiff,Nat.reduceMul,reduceCtorEq,Nat.reduceLT]
theorem ZgI(sig:List TControl)(s:TTermStep)(hn:sig.length<=4294967296)(hbs:∀ y∈sig,Zr 4294967296 y)(hb:ZA 4294967296 s)(hs:YJ sig)(h:stepOK sig s)(h3:s.kind_=3)(lvl:Nat)(S:Sto):Sem Go.Proofs.Tryz.prog Xf lvl [.tr (.sl (sig.map Zh)),iI s.control,.tr (.sl (rS s.names))] S (.tu [Zi (ZcL s),iB true]) S:=by
 obtain⟨k,c,t,ns⟩:=s
 obtain⟨b1,b2⟩:=hb
 simp only at b1 b2 h3
 have hw:=h.ctl h3
 have hp:=h.ports h3
 have hnm:=h.nms
 simp only at hw hp hnm
 have hpl:=ZhY hs (c:=c)
 obtain⟨m,hm⟩:∃ m:Nat,c=m:=⟨c.toNat,by omega⟩
 have hms:m<sig.length:=by omega
 have gs:=W9 (c:=Zh) hms
 have e:YT sig c=sig[m].ports:=by simp [YT,hm,hms]
 have hpp:(ns.length:Int)=sig[m].ports:=by rw[<-e];exact hp
 have q:=ZdU (fe:=VF) ns b1 fun n hn lvl S=>Zjq n (b2 n hn) lvl S
 rw[ZL hnm] at q
 refine Zb ZhE (by simp [Zi,low,men,Zj]) ?_
 simp only[Zcq,EVA,↓reduceIte,Nat.reduceEqDiff,Nat.reduceMul,reduceCtorEq,Nat.reduceAdd,Nat.reduceLeDiff,Nat.reduceLT,Zj,men]
 refine Za (VY sig (by omega) fun y hy=>Nat.le_trans (hbs y hy) (by omega)) ?_
 rw[ZL hs]
 simp only[List.length_map,EVA,↓reduceIte,Nat.reduceEqDiff,Nat.reduceMul,reduceCtorEq,Nat.reduceLT,Zj,men]
 refine⟨by rw[Zd];omega,Za (YH c 0 ((sig.length:Int)-1)) ?_⟩
 rw[inB_iff.2 hw]
 simp only[hm,gs,hpp,Zh,List.length_map,EVA,↓reduceIte,Nat.reduceEqDiff,Nat.reduceMul,reduceCtorEq,Nat.reduceAdd,Nat.reduceLT,Zj,men]
 refine Za q ?_
 simp only[EVA,↓reduceIte,Nat.reduceEqDiff,Nat.reduceMul,reduceCtorEq,Nat.reduceLT,Zj,men]
 refine Za (Zau ns (by omega)) ?_
 simp only[List.length_map,EVA,↓reduceIte,Nat.reduceEqDiff,Nat.reduceMul,reduceCtorEq,Nat.reduceAdd,Nat.reduceLeDiff,Nat.reduceLT]
 obtain⟨o,ho⟩:∃ o,o=Vc ns:=⟨_,rfl⟩
 rw[<-ho]
 obtain⟨L,hL⟩:∃ L,L=ns.map fun n=>ixS o n:=⟨_,rfl⟩
 have lL:L.length=ns.length:=by rw[hL,List.length_map]
 have hol:o.length<=ns.length:=by rw[ho];exact ZaU
 refine ZB (α:=Unit) ns.length (fun j _=>[(45,iI j)]) (fun j _=>[(288,.bx [iI m,iI (-1),.hd (lvl,1344) [] 0 j none j]),(1344,.ar 1 (rI (L.take j)) true j 0)]) (fun _ _=>True) () (by simp only[EVA,↓reduceIte,Nat.reduceEqDiff,reduceCtorEq]) (by (simp only[EVA,↓reduceIte,Nat.reduceEqDiff,reduceCtorEq,Nat.reduceLT]) <;> rfl) trivial ?_
 intro j _ hj _
 simp only[List.length_map,EVA,↓reduceIte,Nat.reduceEqDiff,Nat.reduceMul,reduceCtorEq,Nat.reduceAdd,Nat.reduceLeDiff,Nat.reduceLT]
 refine Zn (fun hlt=>?_) (fun hge=>?_)
 ·have hja:j<ns.length:=by omega
  have ga:=Zen (e0:=e0S) (c:=fun n:ByteArray=>[ts n]) hja
  rw[Ub hja] at ga
  have hl2:(L.take j).length=j:=by rw[List.length_take];omega
  have hco:cut (rS o) 0 o.length=rS o:=Yb (by rw[List.length_map])
  have hsu:rI (L.take j)++[[tv (ixS o ns[j])]]=rI (L.take (j+1)):=by
   rw[List.take_succ_eq_append_getElem (by omega),Yx]
   simp [hL]
  simp only[ga,hco,List.length_map,EVA,↓reduceIte,Nat.reduceEqDiff,Nat.reduceLT,Zj,men]
  refine Za (ZgD o ns[j] (by omega)) ?_
  simp only[hl2,hsu,List.length_map,EVA,↓reduceIte,Nat.reduceEqDiff,Nat.reduceMul,Nat.reduceAdd,Nat.reduceLeDiff,Nat.reduceLT]
  exact⟨by omega,by rw[Zd];omega,Ze () hja rfl trivial⟩
 ·have:j=ns.length:=by omega
  subst this
  rw[<-lL,List.take_length]
  simp only[EVA]
  simp only[Zi,ZcL,<-ho,<-hL]
  try rfl
theorem ZoC(sig:List TControl)(s:TTermStep)(hn:sig.length<=4294967296)(hbs:∀ y∈sig,Zr 4294967296 y)(hb:ZA 4294967296 s)(hs:YJ sig)(h:stepOK sig s)(h3:s.kind_=3)(hk:¬ Qf sig s.control=2)(lvl:Nat)(S:Sto):Sem Go.Proofs.Tryz.prog Uz lvl [.tr (.sl (sig.map Zh)),iI s.control,.tr (.sl (rS s.names))] S (.tu [Zi (Zd7 s),iB true]) S:=by
 have hw:=h.ctl h3
 obtain⟨m,hm⟩:∃ m:Nat,s.control=m:=⟨s.control.toNat,by omega⟩
 have hms:m<sig.length:=by omega
 have gs:=W9 (c:=Zh) hms
 have e:Qf sig s.control=sig[m].kind_:=by simp [Qf,hm,hms]
 rw[e] at hk
 have q:=ZgI sig s hn hbs hb hs h h3
 refine Zb ZiY (by simp [Zi,low,men,Zj]) ?_
 simp only[ZdK,EVA,↓reduceIte,Nat.reduceEqDiff,Nat.reduceMul,reduceCtorEq,Nat.reduceAdd,Nat.reduceLeDiff,Nat.reduceLT,Zj,men]
 refine Za q ?_
 simp only[Zi,ZcL,hm,gs,hk,Zh,List.length_map,EVA,↓reduceIte,Nat.reduceEqDiff,Nat.reduceMul,reduceCtorEq,Nat.reduceAdd,Nat.reduceLeDiff,Nat.reduceLT]
 simp only[Zd7,hm]
 try rfl
theorem Zmp(sig:List TControl)(s:TTermStep)(hn:sig.length<=4294967296)(hbs:∀ y∈sig,Zr 4294967296 y)(hb:ZA 4294967296 s)(hs:YJ sig)(h:stepOK sig s)(h3:s.kind_=3)(lvl:Nat)(S:Sto):Sem Go.Proofs.Tryz.prog WR lvl [.tr (.sl (sig.map Zh)),iI s.control,.tr (.sl (rS s.names))] S (.tu [Zi (ZcL s),iB true]) S:=by
 have q:=ZgI sig s hn hbs hb hs h h3
 refine Zb ZhC (by simp [Zi,low,men,Zj]) ?_
 simp only[Zcn,EVA,↓reduceIte,Nat.reduceEqDiff,Nat.reduceMul,reduceCtorEq,Nat.reduceAdd,Nat.reduceLeDiff,Nat.reduceLT,Zj,men]
 refine Za q ?_
 simp only[Zi,List.length_map,EVA,↓reduceIte,Nat.reduceEqDiff,Nat.reduceMul,reduceCtorEq,Nat.reduceAdd,Nat.reduceLT]
noncomputable def Zqc(sig:List TControl)(s:TTermStep)(x:TBigraph):TBigraph:=@ite _ (Xw sig s x) (Classical.propDecidable _) (U0 (Zd7 s) x) JW
theorem Zmq(sig:List TControl)(s:TTermStep)(x:TBigraph)(hn:sig.length<=4294967296)(hbs:∀ y∈sig,Zr 4294967296 y)(hb:ZA 4294967296 s)(h:stepOK sig s)(h3:s.kind_=3)(hx:bigOK sig x)(hi:x.inner=[])(lvl:Nat)(S:Sto):Sem Go.Proofs.Tryz.prog WN lvl [.tr (.sl (sig.map Zh)),.ag ((Zf s).map .tr),.ag ((Zc x).map .tr)] S (.tu [Zi (Zqc sig s x),iB (dc (Xw sig s x))]) S:=by
 have hs:=hx.sg
 have hw:=h.ctl h3
 obtain⟨m,hm⟩:∃ m:Nat,s.control=m:=⟨s.control.toNat,by omega⟩
 have hms:m<sig.length:=by omega
 have gs:=W9 (c:=Zh) hms
 have e:Qf sig s.control=sig[m].kind_:=by simp [Qf,hm,hms]
 have x1:=hx.small.nodes;have x2:=hx.small.sites
 refine Zb Zhw (by simp [Zi,low,men,Zj]) ?_
 simp only[Zce,Zf,Zc,EVA,↓reduceIte,Nat.reduceEqDiff,Nat.reduceMul,reduceCtorEq,Nat.reduceAdd,Nat.reduceLeDiff,Nat.reduceLT]
 unfold Zqc
 by_cases hr:x.roots=1
 ·by_cases hk:sig[m].kind_=2
  ·by_cases hz:(x.nodes.length:Int)+x.sites.length=0
   ·have z1:x.nodes=[]:=List.length_eq_zero_iff.1 (by omega)
    have z2:x.sites=[]:=List.length_eq_zero_iff.1 (by omega)
    have hA:=ZsQ hs h h3
    have e1:=ZsT (s:=s) hr z1 z2 hi
    have e2:=Zon (Zdm hA hx) (sig:=sig)
    have hpr:(ZcU (ZcL s) x).roots<=4:=by show (1:Int)+x.roots<=4;omega
    have hpa:W6 sig (ZcL s) x↔Xw sig s x:=by
     constructor
     ·rintro⟨_,_,_,g⟩
      exact⟨hr,fun _=>⟨z1,z2⟩,by rw[<-e1];exact(e2.2 g).1⟩
     ·rintro⟨_,_,g⟩
      rw[<-e1] at g
      exact⟨hA,hx,fun n hn=>by simp [inn,ZcL] at hn,e2.1 ⟨g,hpr⟩⟩
    have qa:=Zmp sig s hn hbs hb hs h h3
    simp only[hm] at qa
    simp only[hr,hk,hm,gs,z1,z2,Zh,EVA,↓reduceIte,Nat.reduceEqDiff,Nat.reduceMul,reduceCtorEq,Nat.reduceAdd,Nat.reduceLT,Zj,men]
    refine⟨by rw[Zd];omega,?_⟩
    rw[if_neg (by decide)]
    refine Za qa ?_
    simp only[Zi,List.length_map,EVA,↓reduceIte,Nat.reduceEqDiff,Nat.reduceMul,reduceCtorEq,Nat.reduceAdd,Nat.reduceLT,Zj,men]
    have qm:=X2 sig (ZcL s) x hn hbs (U1 hA) (U1 hx) (X3 hA) (X3 hx)
    unfold Vu Vv at qm
    rw[Vb hpa] at qm
    simp only[Zc,hr,z1,z2,List.map_cons,List.map_nil] at qm
    simp only[QE]
    refine Za qm ?_
    by_cases g:Xw sig s x
    ·rw[if_pos g,if_pos (hpa.2 g),e1]
     simp only[Zi,List.length_map,EVA,↓reduceIte,Nat.reduceEqDiff,Nat.reduceMul,reduceCtorEq,Nat.reduceAdd,Nat.reduceLT]
    ·rw[if_neg g,if_neg (fun k=>g (hpa.1 k))]
     simp only[Zi,List.length_map,EVA,↓reduceIte,Nat.reduceEqDiff,Nat.reduceMul,reduceCtorEq,Nat.reduceAdd,Nat.reduceLT]
     try rfl
   ·have hno:¬ Xw sig s x:=fun g=>by
     obtain⟨z1,z2⟩:=g.2.1 (e.trans hk)
     rw[z1,z2] at hz
     simp at hz
    have hz2:(0:Int)<(x.nodes.length:Int)+x.sites.length:=by omega
    rw[if_neg hno,Zg hno]
    simp only[hr,hk,hm,gs,hz2,Zh,List.length_map,EVA,↓reduceIte,Nat.reduceEqDiff,Nat.reduceMul,reduceCtorEq,Nat.reduceAdd,Nat.reduceLT]
    refine⟨by rw[Zd];omega,?_⟩
    rfl
  ·have hk2:¬ Qf sig s.control=2:=by rw[e];exact hk
   have hT:=Zox hs h h3 hk2
   have hne:ZcJ sig (Zd7 s) x↔Xw sig s x:=by
    constructor
    ·rintro⟨_,g⟩
     exact⟨hr,fun k=>absurd k hk2,g⟩
    ·rintro⟨_,_,g⟩
     exact⟨⟨hT,hx,rfl,by rw[hr];rfl⟩,g⟩
   have qa:=ZoC sig s hn hbs hb hs h h3 hk2
   simp only[hm] at qa
   simp only[hr,hk,hm,gs,Zh,EVA,↓reduceIte,Nat.reduceEqDiff,reduceCtorEq,Nat.reduceAdd,Nat.reduceLT,Zj,men]
   refine Za qa ?_
   simp only[Zi,List.length_map,EVA,↓reduceIte,Nat.reduceEqDiff,Nat.reduceMul,reduceCtorEq,Nat.reduceAdd,Nat.reduceLT,Zj,men]
   have qm:=Zay sig (Zd7 s) x hn hbs (U1 hT) (U1 hx) (X3 hT) (X3 hx)
   unfold W4 W5 at qm
   rw[Vb hne] at qm
   simp only[Zc,hr,List.map_cons,List.map_nil] at qm
   simp only[QE]
   refine Za qm ?_
   by_cases g:Xw sig s x
   ·rw[if_pos g,if_pos (hne.2 g)]
    simp only[Zi,List.length_map,EVA,↓reduceIte,Nat.reduceEqDiff,Nat.reduceMul,reduceCtorEq,Nat.reduceAdd,Nat.reduceLT]
   ·rw[if_neg g,if_neg (fun k=>g (hne.1 k))]
    simp only[Zi,List.length_map,EVA,↓reduceIte,Nat.reduceEqDiff,Nat.reduceMul,reduceCtorEq,Nat.reduceAdd,Nat.reduceLT]
    try rfl
 ·have hno:¬ Xw sig s x:=fun g=>hr g.1
  rw[if_neg hno,Zg hno]
  simp only[hr,EVA,↓reduceIte]
  rfl
end Go.Fd

namespace Go.Fd
set_option maxRecDepth 20000
def ptC(x:QM):List Tr:=Zc x.1++[Tr.sl (rI x.2)]
theorem Zqd(s:TTermStep)(lvl:Nat)(S:Sto):Sem Go.Proofs.Tryz.prog Dk lvl [.ag ((Zf s).map .tr)] S (.ag ((ptC (if s.kind_=1 then (ZoW,[]) else if s.kind_=2 then (ZoX,[s.site]) else (JW,[]))).map .tr)) S:=by
 obtain⟨k,c,t,ns⟩:=s
 refine Zb Zj7 (by simp [low,men,Zj,ptC,Zc]) ?_
 by_cases h1:k=1
 ·subst h1
  simp only[Dn,Zf,EVA,seval]
  rfl
 ·by_cases h2:k=2
  ·subst h2
   simp only[Dn,Zf,EVA,seval]
   rfl
  ·rw[if_neg h1,if_neg h2]
   simp only[Dn,Zf,h1,h2,EVA,seval]
   rfl
noncomputable def Zkr(sig:List TControl)(s:TTermStep)(xs:List QM):TBigraph:=((mkR sig s xs).map Prod.fst).getD JW
def Z5(xs:List QM):List Int:=(xs.map Prod.snd).flatten
theorem ZoD{sig:List TControl}{s:TTermStep}{xs:List QM}(h2:¬ s.kind_=2){y:QM}(h:mkR sig s xs=some y)(hl:xs.length=Je s.kind_):y.2=Z5 xs:=by
 unfold mkR at h
 split at h
 ·rename_i h0
  rw[h0] at hl
  have:xs=[]:=List.length_eq_zero_iff.1 hl
  subst this
  cases h;rfl
 split at h
 ·rename_i h0
  rw[h0] at hl
  have:xs=[]:=List.length_eq_zero_iff.1 hl
  subst this
  cases h;rfl
 split at h
 ·split at h
  ·split at h
   ·cases h;simp [Z5]
   ·cases h
  split at h
  ·split at h
   ·cases h;simp [Z5]
   ·cases h
  ·split at h
   ·cases h;simp [Z5]
   ·cases h
 ·split at h
  ·cases h;simp [Z5]
  ·cases h
 ·cases h
theorem XG{xs:List QM}{j:Nat}(h:j<xs.length):Z5 (xs.take (j+1))=Z5 (xs.take j)++(xs[j]).2:=by
 unfold Z5
 rw[List.take_succ_eq_append_getElem h,List.map_append,List.flatten_append]
 simp
theorem U2{sig:List TControl}{xs:List QM}(hx:∀ x∈xs,partOK sig x):∀{j:Nat},j<=xs.length->(Z5 (xs.take j)).length<=4*j
 | 0,_=>by simp [Z5]
 | j+1,hj=>by
  have hp:=hx _ (List.getElem_mem (show j<xs.length by omega))
  have h1:=hp.len
  have h2:=hp.big.sitesL
  rw[XG (by omega),List.length_append]
  have:=U2 hx (j:=j) (by omega)
  omega
theorem Zq5{xs:List QM}(h:xs.length=2):∃ x y,xs=[x,y] :=
 match xs,h with
 | [x,y],_=>⟨x,y,rfl⟩
theorem Zjr{xs:List QM}(h:xs.length=1):∃ x,xs=[x] :=
 match xs,h with
 | [x],_=>⟨x,rfl⟩
theorem Zks{xs:List ByteArray}(h:xs.length=1):∃ x,xs=[x] :=
 match xs,h with
 | [x],_=>⟨x,rfl⟩
noncomputable def Zmr(sig:List TControl)(s:TTermStep)(xs:List QM):QM:=(mkR sig s xs).getD (JW,Z5 xs)
theorem gS0{n:ByteArray}{l:List ByteArray}(h:l=[n]):gS l 0=n:=by subst h;rfl
theorem ZlI{sig:List TControl}{s:TTermStep}{xs:List QM}(h:s.kind_=0\/s.kind_=1\/s.kind_=2):mkR sig s xs=some (if s.kind_=1 then (ZoW,[]) else if s.kind_=2 then (ZoX,[s.site]) else (JW,[])):=by
 unfold mkR
 rcases h with h | h | h <;> simp [h]
open Classical in
theorem UH{sig:List TControl}{s:TTermStep}{x:QM}(h:s.kind_=3\/s.kind_=6\/s.kind_=7):mkR sig s [x]=if s.kind_=3 then (if Xw sig s x.1 then some (U0 (Zd7 s) x.1,x.2) else none) else if s.kind_=6 then (if QC sig x.1 (gS s.names 0) then some (Xo x.1 (gS s.names 0),x.2) else none) else (if UG sig x.1 (gS s.names 0) then some (Zif x.1 (gS s.names 0),x.2) else none):=by
 unfold mkR
 rw[if_neg (by omega),if_neg (by omega),if_neg (by omega)]
open Classical in
theorem Zdn{sig:List TControl}{s:TTermStep}{x y:QM}(h:s.kind_=4\/s.kind_=5):mkR sig s [x,y]=if W6 sig x.1 y.1 then some (if s.kind_=4 then ZgG x.1 y.1 else ZcU x.1 y.1,x.2++y.2) else none:=by
 unfold mkR
 rw[if_neg (by omega),if_neg (by omega),if_neg (by omega)]
theorem Zqe(sig:List TControl)(s:TTermStep)(xs:List QM)(hn:sig.length<=4294967296)(hbs:∀ y∈sig,Zr 4294967296 y)(hb:ZA 4294967296 s)(h:stepOK sig s)(hl:xs.length=Je s.kind_)(hx:∀ x∈xs,partOK sig x)(lvl:Nat)(S:Sto):Sem Go.Proofs.Tryz.prog Dj lvl [.tr (.sl (sig.map Zh)),.ag ((Zf s).map .tr),.tr (.sl (xs.map ptC))] S (.tu [.ag ((ptC (Zmr sig s xs)).map .tr),iB (mkR sig s xs).isSome]) S:=by
 obtain⟨k,c,t,ns⟩:=s
 have hkind:=h.kind
 simp only at hkind hl
 refine Zb Zj5 (by simp [low,men,Zj,ptC,Zc]) ?_
 by_cases h012:k=0\/k=1\/k=2
 ·have q:=Zqd ⟨k,c,t,ns⟩
  have e:=ZlI (sig:=sig) (s:=⟨k,c,t,ns⟩) (xs:=xs) h012
  have h3:¬ k=3:=by omega
  have h4:¬ k=4:=by omega
  have h5:¬ k=5:=by omega
  have h6:¬ k=6:=by omega
  have h7:¬ k=7:=by omega
  unfold Zmr
  rw[e]
  simp only[QA,Zf,h3,h4,h5,h6,h7,EVA,seval,Zj,men]
  refine Za q ?_
  obtain⟨Q,hQ⟩:∃ Q:QM,Q=(if k=1 then (ZoW,[]) else if k=2 then (ZoX,[t]) else (JW,[])):=⟨_,rfl⟩
  simp only[<-hQ,ptC,Zc]
  simp only[EVA,seval]
  try rfl
 ·
  have hso:=fun y=>ZoD (sig:=sig) (s:=⟨k,c,t,ns⟩) (xs:=xs) (y:=y) (by simp only;omega)
  obtain⟨V,hV⟩:∃ V,V=Zkr sig ⟨k,c,t,ns⟩ xs:=⟨_,rfl⟩
  obtain⟨ok,hok⟩:∃ ok,ok=(mkR sig ⟨k,c,t,ns⟩ xs).isSome:=⟨_,rfl⟩
  have hP:Zmr sig ⟨k,c,t,ns⟩ xs=(V,Z5 xs):=by
   rw[hV]
   unfold Zmr Zkr
   cases hm:mkR sig ⟨k,c,t,ns⟩ xs with
   | none=>rfl
   | some y =>
    have:=hso y hm hl
    simp only[Option.map_some,Option.getD_some]
    rw[<-this]
  rw[hP,<-hok]
  have hcase:(k=3/\∃ x,xs=[x])\/(k=4/\∃ x y,xs=[x,y])\/(k=5/\∃ x y,xs=[x,y])\/(k=6/\∃ x,xs=[x])\/(k=7/\∃ x,xs=[x]):=by
   have:k=3\/k=4\/k=5\/k=6\/k=7:=by omega
   rcases this with rfl | rfl | rfl | rfl | rfl
   ·exact .inl ⟨rfl,Zjr hl⟩
   ·exact .inr (.inl ⟨rfl,Zq5 hl⟩)
   ·exact .inr (.inr (.inl ⟨rfl,Zq5 hl⟩))
   ·exact .inr (.inr (.inr (.inl ⟨rfl,Zjr hl⟩)))
   ·exact .inr (.inr (.inr (.inr ⟨rfl,Zjr hl⟩)))
  have hlen:xs.length<=2:=by
   rw[hl]
   unfold Je
   split
   ·omega
   ·split <;> omega
  rcases hcase with ⟨rfl,x,hxs⟩ | ⟨rfl,x,y,hxs⟩ | ⟨rfl,x,y,hxs⟩ | ⟨rfl,x,hxs⟩ | ⟨rfl,x,hxs⟩
  ·have hpx:=hx x (by rw[hxs];simp)
   have g0:(xs.map ptC)[0]? = some (ptC x):=by rw[hxs];rfl
   have q:=Zmq sig ⟨3,c,t,ns⟩ x.1 hn hbs hb h rfl hpx.big hpx.inn
   have e1:Zqc sig ⟨3,c,t,ns⟩ x.1=V:=by
    rw[hV,Zkr,hxs,UH (.inl rfl),if_pos rfl]
    unfold Zqc
    by_cases g:Xw sig ⟨3,c,t,ns⟩ x.1
    ·rw[if_pos g,if_pos g];rfl
    ·rw[if_neg g,if_neg g];rfl
   have e2:dc (Xw sig ⟨3,c,t,ns⟩ x.1)=ok:=by
    rw[hok,hxs,UH (.inl rfl),if_pos rfl]
    by_cases g:Xw sig ⟨3,c,t,ns⟩ x.1
    ·rw[if_pos g,ZL g];rfl
    ·rw[if_neg g,Zg g];rfl
   rw[e1,e2] at q
   simp only[QA,Zf,g0,ptC,Zc,EVA,seval,Zj,men]
   simp only[Zf,Zc,List.map_cons,List.map_nil] at q
   refine Za q ?_
   clear q e1 e2 g0
   simp only[Zi,List.length_map,EVA,seval]
   refine ZB (α:=Unit) xs.length (fun j _=>[(96,iI j)]) (fun j _=>[(256,.bx [iI V.roots,.tr (.sl (V.nodes.map Z9)),.tr (.sl (rI V.sites)),iI V.edges,.tr (.sl (rS V.outer)),.tr (.sl (V.inner.map Jc)),.hd (lvl,384) [] 0 (Z5 (xs.take j)).length none (Z5 (xs.take j)).length]),(384,.ar 1 (rI (Z5 (xs.take j))) true (Z5 (xs.take j)).length 0)]) (fun _ _=>True) () (by simp only[EVA,seval]) (by (simp only[EVA,seval]) <;> rfl) trivial ?_
   intro j _ hj _
   simp only[List.length_map,EVA,seval]
   refine Zn (fun hlt=>?_) (fun hge=>?_)
   ·have hja:j<xs.length:=by omega
    have ga:=W9 (c:=ptC) hja
    have hsl:=XG hja
    have hle:=U2 hx (j:=j+1) hja
    rw[hsl,List.length_append] at hle
    simp only[ga,ptC,Zc,Zcz,ZcA,List.length_map,EVA,seval]
    refine⟨by omega,by rw[Zd];omega,Ze () hja (by rw[hsl,List.length_append,Yx,Nat.max_eq_right (Nat.le_add_right _ _)];rfl) trivial⟩
   ·have:j=xs.length:=by omega
    subst this
    rw[List.take_length]
    rw[show cut (rI (Z5 xs)) 0 (Z5 xs).length=rI (Z5 xs) from QE]
  ·have hpx:=hx x (by rw[hxs];simp)
   have hpy:=hx y (by rw[hxs];simp)
   have g0:(xs.map ptC)[0]? = some (ptC x):=by rw[hxs];rfl
   have g1:(xs.map ptC)[1]? = some (ptC y):=by rw[hxs];rfl
   have q:=X2 sig x.1 y.1 hn hbs (U1 hpx.big) (U1 hpy.big) (X3 hpx.big) (X3 hpy.big)
   have e1:Vu sig x.1 y.1=V:=by
    rw[hV,Zkr,hxs,Zdn (.inl rfl)]
    unfold Vu
    by_cases g:W6 sig x.1 y.1
    ·rw[if_pos g,if_pos g];rfl
    ·rw[if_neg g,if_neg g];rfl
   have e2:Vv sig x.1 y.1=ok:=by
    rw[hok,hxs,Zdn (.inl rfl)]
    unfold Vv
    by_cases g:W6 sig x.1 y.1
    ·rw[if_pos g,ZL g];rfl
    ·rw[if_neg g,Zg g];rfl
   rw[e1,e2] at q
   simp only[QA,Zf,g0,g1,ptC,Zc,EVA,seval,Zj,men]
   simp only[Zc,List.map_cons,List.map_nil] at q
   refine Za q ?_
   clear q e1 e2 g0 g1
   simp only[Zi,List.length_map,EVA,seval]
   refine ZB (α:=Unit) xs.length (fun j _=>[(96,iI j)]) (fun j _=>[(256,.bx [iI V.roots,.tr (.sl (V.nodes.map Z9)),.tr (.sl (rI V.sites)),iI V.edges,.tr (.sl (rS V.outer)),.tr (.sl (V.inner.map Jc)),.hd (lvl,384) [] 0 (Z5 (xs.take j)).length none (Z5 (xs.take j)).length]),(384,.ar 1 (rI (Z5 (xs.take j))) true (Z5 (xs.take j)).length 0)]) (fun _ _=>True) () (by simp only[EVA,seval]) (by (simp only[EVA,seval]) <;> rfl) trivial ?_
   intro j _ hj _
   simp only[List.length_map,EVA,seval]
   refine Zn (fun hlt=>?_) (fun hge=>?_)
   ·have hja:j<xs.length:=by omega
    have ga:=W9 (c:=ptC) hja
    have hsl:=XG hja
    have hle:=U2 hx (j:=j+1) hja
    rw[hsl,List.length_append] at hle
    simp only[ga,ptC,Zc,Zcz,ZcA,List.length_map,EVA,seval]
    refine⟨by omega,by rw[Zd];omega,Ze () hja (by rw[hsl,List.length_append,Yx,Nat.max_eq_right (Nat.le_add_right _ _)];rfl) trivial⟩
   ·have:j=xs.length:=by omega
    subst this
    rw[List.take_length]
    rw[show cut (rI (Z5 xs)) 0 (Z5 xs).length=rI (Z5 xs) from QE]
  ·have hpx:=hx x (by rw[hxs];simp)
   have hpy:=hx y (by rw[hxs];simp)
   have g0:(xs.map ptC)[0]? = some (ptC x):=by rw[hxs];rfl
   have g1:(xs.map ptC)[1]? = some (ptC y):=by rw[hxs];rfl
   have q:=QI sig x.1 y.1 hn hbs (U1 hpx.big) (U1 hpy.big) (X3 hpx.big) (X3 hpy.big)
   have e1:Ys sig x.1 y.1=V:=by
    rw[hV,Zkr,hxs,Zdn (.inr rfl)]
    unfold Ys
    by_cases g:W6 sig x.1 y.1
    ·rw[if_pos g,if_pos g];rfl
    ·rw[if_neg g,if_neg g];rfl
   have e2:Yt sig x.1 y.1=ok:=by
    rw[hok,hxs,Zdn (.inr rfl)]
    unfold Yt
    by_cases g:W6 sig x.1 y.1
    ·rw[if_pos g,ZL g];rfl
    ·rw[if_neg g,Zg g];rfl
   rw[e1,e2] at q
   simp only[QA,Zf,g0,g1,ptC,Zc,EVA,seval,Zj,men]
   simp only[Zc,List.map_cons,List.map_nil] at q
   refine Za q ?_
   clear q e1 e2 g0 g1
   simp only[Zi,List.length_map,EVA,seval]
   refine ZB (α:=Unit) xs.length (fun j _=>[(96,iI j)]) (fun j _=>[(256,.bx [iI V.roots,.tr (.sl (V.nodes.map Z9)),.tr (.sl (rI V.sites)),iI V.edges,.tr (.sl (rS V.outer)),.tr (.sl (V.inner.map Jc)),.hd (lvl,384) [] 0 (Z5 (xs.take j)).length none (Z5 (xs.take j)).length]),(384,.ar 1 (rI (Z5 (xs.take j))) true (Z5 (xs.take j)).length 0)]) (fun _ _=>True) () (by simp only[EVA,seval]) (by (simp only[EVA,seval]) <;> rfl) trivial ?_
   intro j _ hj _
   simp only[List.length_map,EVA,seval]
   refine Zn (fun hlt=>?_) (fun hge=>?_)
   ·have hja:j<xs.length:=by omega
    have ga:=W9 (c:=ptC) hja
    have hsl:=XG hja
    have hle:=U2 hx (j:=j+1) hja
    rw[hsl,List.length_append] at hle
    simp only[ga,ptC,Zc,Zcz,ZcA,List.length_map,EVA,seval]
    refine⟨by omega,by rw[Zd];omega,Ze () hja (by rw[hsl,List.length_append,Yx,Nat.max_eq_right (Nat.le_add_right _ _)];rfl) trivial⟩
   ·have:j=xs.length:=by omega
    subst this
    rw[List.take_length]
    rw[show cut (rI (Z5 xs)) 0 (Z5 xs).length=rI (Z5 xs) from QE]
  ·have hpx:=hx x (by rw[hxs];simp)
   have g0:(xs.map ptC)[0]? = some (ptC x):=by rw[hxs];rfl
   obtain⟨n,rfl⟩:∃ n,ns=[n]:=by
    exact Zks (h.one (.inl rfl))
   have q:=ZcF sig x.1 n hn hbs (U1 hpx.big) (hb.2 n (by simp)) (X3 hpx.big)
   have e1:JX sig x.1 n=V:=by
    rw[hV,Zkr,hxs,UH (.inr (.inl rfl)),if_neg (by simp),if_pos rfl]
    unfold JX
    show _=((@ite _ (QC sig x.1 n) (Classical.propDecidable _) _ _:Option QM).map Prod.fst).getD JW
    by_cases g:QC sig x.1 n
    ·rw[if_pos g,if_pos g];rfl
    ·rw[if_neg g,if_neg g];rfl
   have e2:JY sig x.1 n=ok:=by
    rw[hok,hxs,UH (.inr (.inl rfl)),if_neg (by simp),if_pos rfl]
    unfold JY
    show _=(@ite _ (QC sig x.1 n) (Classical.propDecidable _) _ _:Option QM).isSome
    by_cases g:QC sig x.1 n
    ·rw[if_pos g,ZL g];rfl
    ·rw[if_neg g,Zg g];rfl
   rw[e1,e2] at q
   simp only[QA,Zf,g0,ptC,Zc,EVA,seval,Zj,men]
   simp only[Zc,List.map_cons,List.map_nil] at q
   refine Za q ?_
   clear q e1 e2 g0
   simp only[Zi,List.length_map,EVA,seval]
   refine ZB (α:=Unit) xs.length (fun j _=>[(96,iI j)]) (fun j _=>[(256,.bx [iI V.roots,.tr (.sl (V.nodes.map Z9)),.tr (.sl (rI V.sites)),iI V.edges,.tr (.sl (rS V.outer)),.tr (.sl (V.inner.map Jc)),.hd (lvl,384) [] 0 (Z5 (xs.take j)).length none (Z5 (xs.take j)).length]),(384,.ar 1 (rI (Z5 (xs.take j))) true (Z5 (xs.take j)).length 0)]) (fun _ _=>True) () (by simp only[EVA,seval]) (by (simp only[EVA,seval]) <;> rfl) trivial ?_
   intro j _ hj _
   simp only[List.length_map,EVA,seval]
   refine Zn (fun hlt=>?_) (fun hge=>?_)
   ·have hja:j<xs.length:=by omega
    have ga:=W9 (c:=ptC) hja
    have hsl:=XG hja
    have hle:=U2 hx (j:=j+1) hja
    rw[hsl,List.length_append] at hle
    simp only[ga,ptC,Zc,Zcz,ZcA,List.length_map,EVA,seval]
    refine⟨by omega,by rw[Zd];omega,Ze () hja (by rw[hsl,List.length_append,Yx,Nat.max_eq_right (Nat.le_add_right _ _)];rfl) trivial⟩
   ·have:j=xs.length:=by omega
    subst this
    rw[List.take_length]
    rw[show cut (rI (Z5 xs)) 0 (Z5 xs).length=rI (Z5 xs) from QE]
  ·have hpx:=hx x (by rw[hxs];simp)
   have g0:(xs.map ptC)[0]? = some (ptC x):=by rw[hxs];rfl
   obtain⟨n,rfl⟩:∃ n,ns=[n]:=by
    exact Zks (h.one (.inr rfl))
   have q:=Zkp sig x.1 n hn hbs (U1 hpx.big) (hb.2 n (by simp)) (X3 hpx.big)
   have e1:ZwC sig x.1 n=V:=by
    rw[hV,Zkr,hxs,UH (.inr (.inr rfl)),if_neg (by simp),if_neg (by simp)]
    unfold ZwC
    show _=((@ite _ (UG sig x.1 n) (Classical.propDecidable _) _ _:Option QM).map Prod.fst).getD JW
    by_cases g:UG sig x.1 n
    ·rw[if_pos g,if_pos g];rfl
    ·rw[if_neg g,if_neg g];rfl
   have e2:dc (UG sig x.1 n)=ok:=by
    rw[hok,hxs,UH (.inr (.inr rfl)),if_neg (by simp),if_neg (by simp)]
    show _=(@ite _ (UG sig x.1 n) (Classical.propDecidable _) _ _:Option QM).isSome
    by_cases g:UG sig x.1 n
    ·rw[if_pos g,ZL g];rfl
    ·rw[if_neg g,Zg g];rfl
   rw[e1,e2] at q
   simp only[QA,Zf,g0,ptC,Zc,EVA,seval,Zj,men]
   simp only[Zc,List.map_cons,List.map_nil] at q
   refine Za q ?_
   clear q e1 e2 g0
   simp only[Zi,List.length_map,EVA,seval]
   refine ZB (α:=Unit) xs.length (fun j _=>[(96,iI j)]) (fun j _=>[(256,.bx [iI V.roots,.tr (.sl (V.nodes.map Z9)),.tr (.sl (rI V.sites)),iI V.edges,.tr (.sl (rS V.outer)),.tr (.sl (V.inner.map Jc)),.hd (lvl,384) [] 0 (Z5 (xs.take j)).length none (Z5 (xs.take j)).length]),(384,.ar 1 (rI (Z5 (xs.take j))) true (Z5 (xs.take j)).length 0)]) (fun _ _=>True) () (by simp only[EVA,seval]) (by (simp only[EVA,seval]) <;> rfl) trivial ?_
   intro j _ hj _
   simp only[List.length_map,EVA,seval]
   refine Zn (fun hlt=>?_) (fun hge=>?_)
   ·have hja:j<xs.length:=by omega
    have ga:=W9 (c:=ptC) hja
    have hsl:=XG hja
    have hle:=U2 hx (j:=j+1) hja
    rw[hsl,List.length_append] at hle
    simp only[ga,ptC,Zc,Zcz,ZcA,List.length_map,EVA,seval]
    refine⟨by omega,by rw[Zd];omega,Ze () hja (by rw[hsl,List.length_append,Yx,Nat.max_eq_right (Nat.le_add_right _ _)];rfl) trivial⟩
   ·have:j=xs.length:=by omega
    subst this
    rw[List.take_length]
    rw[show cut (rI (Z5 xs)) 0 (Z5 xs).length=rI (Z5 xs) from QE]
end Go.Fd

namespace Go.Fd
set_option maxRecDepth 20000
noncomputable def Zs6(sig:List TControl)(t:List TTermStep):Stk:=(Za5 sig t).getD ([],0)
theorem ZfA{sig:List TControl}{t:List TTermStep}(h:Za5 sig t=none):Zs6 sig t=([],0):=by unfold Zs6;rw[h];rfl
theorem Zjs{sig:List TControl}{t:List TTermStep}{z:Stk}(h:Za5 sig t=some z):Zs6 sig t=z:=by unfold Zs6;rw[h];rfl
theorem Zdo{l:List QM}:UnR 7 (l.map ptC)=True:=eq_true (Zby ptC (fun _=>rfl) l)
theorem Zwh{l:List QM}{a n:Nat}:cut (l.map ptC) a n=((l.drop a).take n).map ptC:=by
 rw[cut,<-List.map_drop,<-List.map_take]
theorem ZAw{l:List QM}{a:Nat}:cut (l.map ptC) a (l.length-a)=(l.drop a).map ptC:=by
 rw[Zwh,List.take_of_length_le (by rw[List.length_drop];omega)]
theorem Zgc{l:List QM}{a:Nat}:cut (l.map ptC) 0 a=(l.take a).map ptC:=by
 rw[Zwh,List.drop_zero]
theorem Zkt(sig:List TControl)(t:List TTermStep)(hn:sig.length<=4294967296)(hbs:∀ y∈sig,Zr 4294967296 y)(hbt:∀ y∈t,ZA 4294967296 y)(hs:YJ sig)(hl:t.length<=60)(lvl:Nat)(S:Sto):Sem Go.Proofs.Tryz.prog X8 lvl [.tr (.sl (sig.map Zh)),.tr (.sl (t.map Zf))] S (.tu [.tr (.sl ((Zs6 sig t).1.map ptC)),iI ((Zs6 sig t).2:Nat),iB (Za5 sig t).isSome]) S:=by
 refine Zb ZfM (by simp [low,men,Zj]) ?_
 simp only[Zbc,List.length_map,EVA,seval]
 refine ZB (α:=Stk) t.length (fun j z=>[(7,.tr (.sl (z.1.map ptC))),(8,iI z.2),(17,iI j)]) (fun _ _=>[]) (fun j z=>Za5 sig (t.take j)=some z) ([],0) (by simp only[EVA,seval]) (by (simp only[EVA,seval]) <;> rfl) (by rw[List.take_zero];exact ZlE) ?_
 intro j z hj hA
 have hz:=ZbI hs hj hA
 simp only[EVA,seval]
 refine Zn (fun hlt=>?_) (fun hge=>?_)
 ·have hja:j<t.length:=by omega
  have ga:=W9 (c:=Zf) hja
  have hb:=hbt _ (List.getElem_mem hja)
  have hsu:=Zaz (sig:=sig) hja
  rw[hA] at hsu
  obtain⟨s,hs'⟩:∃ s,s=t[j]:=⟨_,rfl⟩
  rw[<-hs'] at ga hb hsu
  have hbad:stT sig z s=none->Za5 sig t=none:=fun g=>ZcM (j:=j+1) (by rw[hsu];exact g)
  have q1:=Zmo sig s hn hb
  have q2:=Zfy s.kind_ s.control s.site s.names
  obtain⟨k,c,p,ns⟩:=s
  simp only[Zf,List.map_cons,List.map_nil] at ga q1 q2
  simp only[ga,EVA,seval,Zj,men]
  refine Za q1 ?_
  cases hg:dc (stepOK sig ⟨k,c,p,ns⟩)
  ·have e:=hbad (Zfx fun g=>dc_not.1 hg g.1)
   rw[e,ZfA e]
   simp only[EVA,seval]
   try rfl
  have hok:=dc_iff.1 hg
  have hnd:=ZlH hok
  simp only at hnd
  simp only[EVA,seval,Zj,men]
  refine Za q2 ?_
  rw[hnd]
  simp only[List.length_map,EVA,seval,Zj,men]
  refine Zn (fun hlo=>?_) (fun hlo=>?_)
  ·have e:=hbad (Zfx fun g=>by have:=g.2;simp only at this;omega)
   rw[e,ZfA e]
   try rfl
  have htk:Je k<=z.1.length:=by omega
  refine Za q2 ?_
  rw[hnd]
  simp only[List.length_map,EVA,seval,Zj,men]
  have hat:((z.1.length:Int)-(Je k:Int))=((z.1.length-Je k:Nat):Int):=by omega
  rw[hat]
  obtain⟨a,ha⟩:∃ a,a=z.1.length-Je k:=⟨_,rfl⟩
  rw[<-ha]
  have q3:=Zqe sig ⟨k,c,p,ns⟩ (z.1.drop a) hn hbs hb hok (by rw[List.length_drop];simp only;omega) (fun x hx=>hz.1 x (List.mem_of_mem_drop hx))
  simp only[Zf,List.map_cons,List.map_nil] at q3
  simp only[Zdo,EVA,seval]
  simp only[ZAw]
  refine⟨by rw[Zd];omega,?_⟩
  refine⟨?_,?_,Za q3 ?_⟩
  ·first | omega | simp [Zdo]
  ·first | omega | simp [Zdo]
  obtain⟨V,hV⟩:∃ V,V=Zmr sig ⟨k,c,p,ns⟩ (z.1.drop a):=⟨_,rfl⟩
  rw[<-hV]
  simp only[ptC,Zc]
  cases hm:mkR sig ⟨k,c,p,ns⟩ (z.1.drop a) with
  | none =>
   have e:=hbad (ZlG (by show mkR _ _ (z.1.drop (z.1.length-Je k))=none;rw[<-ha];exact hm))
   rw[e,ZfA e]
   simp only[Option.isSome_none,EVA,seval]
   try rfl
  | some y =>
   have e:=ZlF hok (z:=z) htk (by show mkR _ _ (z.1.drop (z.1.length-Je k))=some y;rw[<-ha];exact hm)
   have hy:V=y:=by rw[hV,Zmr,hm];rfl
   subst hy
   simp only[Option.isSome_some,List.length_map,Zdo,EVA,seval]
   have e3:cut (z.1.map ptC) 0 (a-0)++[[Tr.v (Value.int .i64 V.1.roots),Tr.sl (V.1.nodes.map Z9),Tr.sl (rI V.1.sites),Tr.v (Value.int .i64 V.1.edges),Tr.sl (rS V.1.outer),Tr.sl (V.1.inner.map Jc),Tr.sl (rI V.2)]]=(z.1.take a++[V]).map ptC:=by
    rw[Nat.sub_zero,Zgc,List.map_append]
    rfl
   have e4:(cut (z.1.map ptC) 0 (a-0)).length=a:=by
    rw[Nat.sub_zero,Zgc,List.length_map,List.length_take]
    omega
   have e5:max (z.2:Int) ((a+1:Nat):Int)=((max z.2 (a+1):Nat):Int):=by omega
   have e6:((z.1.take a++[V]).map ptC).length=a+1:=by
    rw[List.length_map,List.length_append,List.length_take]
    simp
    omega
   rw[e3,e4,e6,e5]
   refine⟨fun g=>g.elim,by omega,by omega,by omega,by rw[Nat.sub_zero,Zgc,Zdo];trivial,rfl,by rw[Zd];omega,Ze (z.1.take a++[V],max z.2 (a+1)) hja rfl ?_⟩
   rw[hsu]
   show stT sig z _=_
   rw[e]
   show some (z.1.take (z.1.length-Je k)++[V],max z.2 (z.1.length-Je k+1))=_
   rw[<-ha]
 ·have:j=t.length:=by omega
  subst this
  rw[List.take_length] at hA
  rw[hA,Zjs hA]
  simp only[EVA,seval]
  try rfl
end Go.Fd

namespace Go.Fd
set_option maxRecDepth 20000
theorem Zms(sig:List TControl)(s:TTermStep)(hn:sig.length<=4294967296)(hb:ZA 4294967296 s)(lvl:Nat)(S:Sto):Sem Go.Proofs.Tryz.prog WH lvl [.tr (.sl (sig.map Zh)),.ag ((Zf s).map .tr)] S (iB (dc (stepOK sig s))) S:=by
 obtain⟨k,c,t,ns⟩:=s
 obtain⟨b1,b2⟩:=hb
 simp only at b1 b2
 have qn:=Zkq ns b1 b2
 have d23:¬ (2:Int)=3:=by decide
 have d32:¬ (3:Int)=2:=by decide
 have d62:¬ (6:Int)=2:=by decide
 have d63:¬ (6:Int)=3:=by decide
 have d72:¬ (7:Int)=2:=by decide
 have d73:¬ (7:Int)=3:=by decide
 have d76:¬ (7:Int)=6:=by decide
 refine Zb Zhp trivial ?_
 by_cases h2:k=2
 ·subst h2
  by_cases hc:c=0
  ·subst hc
   simp only[JU,Zf,d23,EVA,seval,Zj,men]
   refine Za (Qn t 0 3) ?_
   cases hW:inB t 0 3
   ·rw[Zg fun g:stepOK sig ⟨2,0,t,ns⟩=>inB_not.1 hW (g.site rfl)]
    simp only[EVA,seval]
   ·simp only[List.length_map,EVA,seval]
    by_cases hl:(ns.length:Int)=0
    ·have hyes:stepOK sig ⟨2,0,t,ns⟩:=⟨by simp,fun _=>rfl,fun g=>absurd rfl g,fun n hn=>by
      have:ns=[]:=List.length_eq_zero_iff.1 (by omega)
      simp [this] at hn,fun _=>inB_iff.1 hW,fun g=>by simp at g,fun g=>by simp at g,fun g=>by simp at g,fun _ _ _=>by simp only;omega⟩
     rw[ZL hyes]
     simp [hl]
    ·rw[Zg fun g:stepOK sig ⟨2,0,t,ns⟩=>hl (by have:=g.non (by simp) (by simp) (by simp);simp only at this;omega)]
     simp [hl]
     exact fun e=>hl (by simp [e])
  ·rw[Zg fun g:stepOK sig ⟨2,c,t,ns⟩=>hc (g.ctl0 (by simp))]
   simp only[JU,Zf,hc,d23,EVA,seval]
 by_cases h3:k=3
 ·subst h3
  by_cases ht:t=0
  ·subst ht
   simp only[JU,Zf,d32,List.length_map,EVA,seval,Zj,men]
   refine⟨by rw[Zd];omega,Za (Qn c 0 ((sig.length:Int)-1)) ?_⟩
   cases hW:inB c 0 ((sig.length:Int)-1)
   ·rw[Zg fun g:stepOK sig ⟨3,c,0,ns⟩=>inB_not.1 hW (g.ctl rfl)]
    simp only[EVA,seval]
   ·have hw:=inB_iff.1 hW
    obtain⟨m,hm⟩:∃ m:Nat,c=m:=⟨c.toNat,by omega⟩
    have hms:m<sig.length:=by omega
    have gs:=W9 (c:=Zh) hms
    have e:YT sig c=sig[m].ports:=by simp [YT,hm,hms]
    simp only[hm,gs,Zh,List.length_map,EVA,seval,Zj,men]
    by_cases hp:(ns.length:Int)=sig[m].ports
    ·simp only[hp,EVA,seval]
     refine Za qn ?_
     simp only[EVA,seval]
     have:stepOK sig ⟨3,c,0,ns⟩↔∀ n∈ns,ZbG n:=⟨fun g=>g.nms,fun g=>⟨by simp,fun g=>absurd rfl g,fun _=>rfl,g,fun g=>by simp at g,fun _=>hw,fun _=>by rw[e];exact hp,fun g=>by simp at g,fun g=>absurd rfl g⟩⟩
     rw[<-hm,Vb this]
    ·rw[<-hm,Zg fun g:stepOK sig ⟨3,c,0,ns⟩=>hp (by rw[<-e];exact g.ports rfl)]
     simp only[hp,seval]
  ·rw[Zg fun g:stepOK sig ⟨3,c,t,ns⟩=>ht (g.site0 (by simp))]
   simp only[JU,Zf,ht,d32,EVA,seval]
 by_cases hc:c=0
 ·subst hc
  by_cases ht:t=0
  ·subst ht
   by_cases h67:k=6\/k=7
   ·rcases h67 with rfl | rfl
    all_goals
     simp only[JU,Zf,d62,d63,d72,d73,d76,List.length_map,EVA,seval,Zj,men]
     by_cases hp:(ns.length:Int)=1
     ·simp only[hp,EVA,seval]
      refine Za qn ?_
      simp only[EVA,seval]
      rw[Vb (show stepOK sig ⟨_,0,0,ns⟩↔∀ n∈ns,ZbG n from ⟨fun g=>g.nms,fun g=>⟨by simp,fun _=>rfl,fun _=>rfl,g,fun g=>by simp at g,fun g=>by simp at g,fun g=>by simp at g,fun _=>by simp only;omega,fun g1 g2 g3=>by simp at g2 g3⟩⟩)]
     ·rw[Zg fun g:stepOK sig ⟨_,0,0,ns⟩=>hp (by have:=g.one (by simp);simp only at this;omega)]
      simp only[hp,seval]
   have h6:¬ k=6:=fun e=>h67 (.inl e)
   have h7:¬ k=7:=fun e=>h67 (.inr e)
   simp only[JU,Zf,h2,h3,h6,h7,EVA,seval,Zj,men]
   refine Za (Qn k 0 5) ?_
   cases hW:inB k 0 5
   ·rw[Zg fun g:stepOK sig ⟨k,0,0,ns⟩=>inB_not.1 hW (by have:=g.kind;simp only at this;omega)]
    simp only[EVA,seval]
   ·have hw:=inB_iff.1 hW
    simp only[List.length_map,EVA,seval]
    by_cases hl:(ns.length:Int)=0
    ·have hyes:stepOK sig ⟨k,0,0,ns⟩:=⟨by simp only;omega,fun _=>rfl,fun _=>rfl,fun n hn=>by
      have:ns=[]:=List.length_eq_zero_iff.1 (by omega)
      simp [this] at hn,fun g=>absurd g h2,fun g=>absurd g h3,fun g=>absurd g h3,fun g=>g.elim (fun e=>absurd e h6) (fun e=>absurd e h7),fun _ _ _=>by simp only;omega⟩
     rw[ZL hyes]
     simp [hl]
    ·rw[Zg fun g:stepOK sig ⟨k,0,0,ns⟩=>hl (by have:=g.non h3 h6 h7;simp only at this;omega)]
     simp [hl]
     exact fun e=>hl (by simp [e])
  ·rw[Zg fun g:stepOK sig ⟨k,0,t,ns⟩=>ht (g.site0 h2)]
   simp only[JU,Zf,h2,h3,ht,EVA,seval]
 ·rw[Zg fun g:stepOK sig ⟨k,c,t,ns⟩=>hc (g.ctl0 h3)]
  simp only[JU,Zf,h3,hc,EVA,seval]
end Go.Fd

namespace Go.Fd
set_option maxRecDepth 20000
def Zku(sig:List TControl):List TControl:=sig.map fun c=>{ c with kind_:=0 }
theorem ZoE{sig:List TControl}(h:YJ sig):YJ (Zku sig):=by
 have hl:(Zku sig).length=sig.length:=by simp [Zku]
 refine⟨fun i hi=>?_,by rw[hl];exact h.2⟩
 have g:=h.1 i (by omega)
 have e:∀ k (hk:k<(Zku sig).length),(Zku sig)[k] = { sig[k]'(by omega) with kind_:=0 }:=fun k hk=>by simp [Zku]
 refine⟨?_,fun k hk=>?_⟩
 ·rw[e i hi]
  exact⟨g.1.1,g.1.2.1,by show (0:Int)<=0/\(0:Int)<=2;omega⟩
 ·rw[e i hi,e k (by omega)]
  exact g.2 k hk
theorem Zmt{sig:List TControl}{c:Int}:YT (Zku sig) c=YT sig c:=by
 unfold YT Zku
 rw[List.getElem?_map]
 cases sig[c.toNat]? <;> rfl
theorem ZoF{sig:List TControl}{c:Int}:Qf (Zku sig) c=0:=by
 unfold Qf Zku
 rw[List.getElem?_map]
 cases sig[c.toNat]? <;> rfl
theorem ZoG{sig:List TControl}{s:TTermStep}(h:stepOK sig s):stepOK (Zku sig) s :=
 ⟨h.kind,h.ctl0,h.site0,h.nms,h.site,fun g=>by rw[show (Zku sig).length=sig.length by simp [Zku]];exact h.ctl g,fun g=>by rw[Zmt];exact h.ports g,h.one,h.non⟩
theorem Zqf{sig:List TControl}{x:TBigraph}(h:bigOK sig x)(h1:x.nodes=[])(h2:x.sites=[]):bigOK (Zku sig) x :=
 ⟨ZoE h.sg,h.roots,h.nodesL,h.sitesL,h.edges,h.outer,h.inn,fun i hi=>by simp [h1] at hi,fun p hp=>by simp [h2] at hp,h.inner⟩
theorem Zqg{sig:List TControl}{s:TTermStep}(hs:YJ sig)(h:stepOK sig s)(h3:s.kind_=3){x:TBigraph}(hx:bigOK sig x)(hk:Qf sig s.control=2->x.nodes=[]/\x.sites=[]):∃ sg,bigOK sg (Zd7 s)/\bigOK sg x:=by
 by_cases k:Qf sig s.control=2
 ·exact⟨Zku sig,Zox (ZoE hs) (ZoG h) h3 (by rw[ZoF];decide),Zqf hx (hk k).1 (hk k).2⟩
 ·exact⟨sig,Zox hs h h3 k,hx⟩
theorem Zmu(s:TTermStep)(lvl:Nat)(S:Sto):Sem Go.Proofs.Tryz.prog WK lvl [.ag ((Zf s).map .tr)] S (.ag ((ptC (if s.kind_=0 then (JW,[]) else if s.kind_=1 then (ZoW,[]) else (ZoX,[s.site]))).map .tr)) S:=by
 obtain⟨k,c,t,ns⟩:=s
 refine Zb Zht (by simp [low,men,Zj,ptC,Zc]) ?_
 by_cases h0:k=0
 ·subst h0
  simp only[Wu,Zf,EVA,↓reduceIte,Nat.reduceEqDiff,Nat.reduceMul,reduceCtorEq,Nat.reduceAdd,Nat.reduceLeDiff,Nat.reduceLT]
  rfl
 ·by_cases h1:k=1
  ·subst h1
   rw[if_neg h0]
   simp only[Wu,Zf,h0,EVA,↓reduceIte,Nat.reduceEqDiff,Nat.reduceMul,reduceCtorEq,Nat.reduceAdd,Nat.reduceLeDiff,Nat.reduceLT]
   rfl
  ·rw[if_neg h0,if_neg h1]
   simp only[Wu,Zf,h0,h1,EVA,↓reduceIte,Nat.reduceEqDiff,Nat.reduceMul,reduceCtorEq,Nat.reduceAdd,Nat.reduceLeDiff,Nat.reduceLT]
   rfl
def Zwi(sig:List TControl)(s:TTermStep)(x:TBigraph):Prop:=x.roots=1/\(Qf sig s.control=2->x.nodes=[]/\x.sites=[])
open Classical in
noncomputable def Zmv(sig:List TControl)(s:TTermStep)(x:QM):QM:=if Zwi sig s x.1 then (U0 (Zd7 s) x.1,x.2) else (JW,[])
theorem Zmw(sig:List TControl)(s:TTermStep)(x:QM)(hn:sig.length<=4294967296)(hbs:∀ y∈sig,Zr 4294967296 y)(hb:ZA 4294967296 s)(hs:YJ sig)(h:stepOK sig s)(h3:s.kind_=3)(hx:partOK sig x)(lvl:Nat)(S:Sto):Sem Go.Proofs.Tryz.prog WL lvl [.tr (.sl (sig.map Zh)),.ag ((Zf s).map .tr),.ag ((ptC x).map .tr)] S (.tu [.ag ((ptC (Zmv sig s x)).map .tr),iB (dc (Xw sig s x.1))]) S:=by
 have hxb:=hx.big
 have hw:=h.ctl h3
 obtain⟨m,hm⟩:∃ m:Nat,s.control=m:=⟨s.control.toNat,by omega⟩
 have hms:m<sig.length:=by omega
 have gs:=W9 (c:=Zh) hms
 have e:Qf sig s.control=sig[m].kind_:=by simp [Qf,hm,hms]
 have x1:=hxb.small.nodes;have x2:=hxb.small.sites
 refine Zb Zhu (by simp [low,men,Zj,ptC,Zc]) ?_
 simp only[Zcc,Zf,ptC,Zc,EVA,↓reduceIte,Nat.reduceEqDiff,Nat.reduceMul,reduceCtorEq,Nat.reduceAdd,Nat.reduceLeDiff,Nat.reduceLT]
 by_cases h0:Zwi sig s x.1
 ·have hr:=h0.1
  have hno:Zmv sig s x=(U0 (Zd7 s) x.1,x.2):=if_pos h0
  rw[hno]
  obtain⟨sg,g1,g2⟩:=Zqg hs h h3 hxb h0.2
  have hnl:s.names.length<=3:=by have:=h.ports h3;have:=ZhY hs (c:=s.control);omega
  have hsl:=ZaU (l:=s.names)
  have q1:=Up s.names (by omega)
  have q2:=W3 s.names 0 (Vc s.names) (by omega) (by omega) (by omega)
  simp only[Int.zero_add] at q2
  have q3:=Zmh sg (Zd7 s) x.1 g1 g2 (by rw[hr];rfl)
  have q4:=XE sig (U0 (Zd7 s) x.1) hn hbs (QD (by omega) (Zn9 g1 g2)) (Zoa g1 g2 (by rw[hr];rfl) (X3 g1) (X3 g2))
  have e4:dc (bigOK sig (U0 (Zd7 s) x.1))=dc (Xw sig s x.1):=Vb ⟨fun g=>⟨h0.1,h0.2,g⟩,fun g=>g.2.2⟩
  rw[e4] at q4
  obtain⟨B,hB⟩:∃ B,B=U0 (Zd7 s) x.1:=⟨_,rfl⟩
  rw[<-hB] at q3 q4 ⊢
  simp only[Zc,List.map_cons,List.map_nil] at q4
  by_cases hk:sig[m].kind_=2
  ·obtain⟨z1,z2⟩:=h0.2 (e.trans hk)
   simp only[hr,hk,hm,gs,z1,z2,Zh,List.length_nil,List.map_nil,EVA,↓reduceIte,Nat.reduceEqDiff,Nat.reduceMul,reduceCtorEq,Nat.reduceAdd,Nat.reduceLT,Zj,men]
   refine⟨by rw[Zd];omega,?_⟩
   rw[if_neg (by decide)]
   refine Za q1 ?_
   simp only[List.length_map,EVA,↓reduceIte,Nat.reduceEqDiff,Nat.reduceMul,reduceCtorEq,Nat.reduceAdd,Nat.reduceLeDiff,Nat.reduceLT,Zj,men]
   rw[show cut (rS (Vc s.names)) 0 (Vc s.names).length=rS (Vc s.names) from QE]
   refine Za q2 ?_
   simp only[List.length_map,EVA,↓reduceIte,Nat.reduceEqDiff,Nat.reduceMul,reduceCtorEq,Nat.reduceAdd,Nat.reduceLeDiff,Nat.reduceLT,Zj,men]
   simp only[Zc,Zd7,hr,hm,z1,z2,Z9,List.map_cons,List.map_nil] at q3
   refine Za q3 ?_
   simp only[EVA,↓reduceIte,Nat.reduceEqDiff,Nat.reduceMul,reduceCtorEq,Nat.reduceAdd,Nat.reduceLeDiff,Nat.reduceLT,Zj,men]
   refine Za q4 ?_
   simp only[EVA,↓reduceIte,Nat.reduceEqDiff,Nat.reduceMul,reduceCtorEq,Nat.reduceAdd,Nat.reduceLT]
  ·simp only[hr,hk,hm,gs,Zh,EVA,↓reduceIte,Nat.reduceEqDiff,reduceCtorEq,Nat.reduceAdd,Nat.reduceLT,Zj,men]
   refine Za q1 ?_
   simp only[List.length_map,EVA,↓reduceIte,Nat.reduceEqDiff,Nat.reduceMul,reduceCtorEq,Nat.reduceAdd,Nat.reduceLeDiff,Nat.reduceLT,Zj,men]
   rw[show cut (rS (Vc s.names)) 0 (Vc s.names).length=rS (Vc s.names) from QE]
   refine Za q2 ?_
   simp only[List.length_map,EVA,↓reduceIte,Nat.reduceEqDiff,Nat.reduceMul,reduceCtorEq,Nat.reduceAdd,Nat.reduceLeDiff,Nat.reduceLT,Zj,men]
   simp only[Zc,Zd7,hr,hm,Z9,List.map_cons,List.map_nil] at q3
   refine Za q3 ?_
   simp only[EVA,↓reduceIte,Nat.reduceEqDiff,Nat.reduceMul,reduceCtorEq,Nat.reduceAdd,Nat.reduceLeDiff,Nat.reduceLT,Zj,men]
   refine Za q4 ?_
   simp only[EVA,↓reduceIte,Nat.reduceEqDiff,Nat.reduceMul,reduceCtorEq,Nat.reduceAdd,Nat.reduceLT]
 ·have hno:¬ Xw sig s x.1:=fun g=>h0 ⟨g.1,g.2.1⟩
  rw[show Zmv sig s x=(JW,[]) from if_neg h0,Zg hno]
  by_cases hr:x.1.roots=1
  ·have hk:sig[m].kind_=2:=Classical.byContradiction fun k=>h0 ⟨hr,fun g=>absurd (e.symm.trans g) k⟩
   have hz:(0:Int)<(x.1.nodes.length:Int)+x.1.sites.length:=by
    by_cases g:(x.1.nodes.length:Int)+x.1.sites.length=0
    ·exact absurd ⟨hr,fun _=>⟨List.length_eq_zero_iff.1 (by omega),List.length_eq_zero_iff.1 (by omega)⟩⟩ h0
    ·omega
   simp only[hr,hk,hm,gs,hz,Zh,List.length_map,EVA,↓reduceIte,Nat.reduceEqDiff,Nat.reduceMul,reduceCtorEq,Nat.reduceAdd,Nat.reduceLT]
   exact⟨by rw[Zd];omega,rfl⟩
  ·simp only[hr,EVA,↓reduceIte]
   rfl
end Go.Fd

namespace Go.Fd
set_option maxRecDepth 20000
theorem ZfB(l:List Int)(hl:l.length<=4294967296)(lvl:Nat)(S:Sto):Sem Go.Proofs.Tryz.prog XK lvl [tI l] S (.ow 1 (rI l) true) S:=by
 refine Zb ZiU trivial ?_
 simp only[ZdG,List.length_map,Zcz,ZcA,EVA,seval]
 exact hl
theorem ZsV{sig:List TControl}{a b:TBigraph}(ha:bigOK sig a)(hb:bigOK sig b)(hi:a.inner=[]):W6 sig a b↔bigOK sig (ZcU a b):=by
 constructor
 ·intro g;exact g.2.2.2
 ·intro g;exact⟨ha,hb,fun n hn=>by simp [inn,hi] at hn,g⟩
open Classical in
noncomputable def Zmx(sig:List TControl)(s:TTermStep)(x y:QM):QM:=if W6 sig x.1 y.1 then (if s.kind_=4 then ZgG x.1 y.1 else ZcU x.1 y.1,x.2++y.2) else (JW,[])
theorem Zmy(sig:List TControl)(s:TTermStep)(x y:QM)(hn:sig.length<=4294967296)(hbs:∀ y∈sig,Zr 4294967296 y)(hx:partOK sig x)(hy:partOK sig y)(lvl:Nat)(S:Sto):Sem Go.Proofs.Tryz.prog WM lvl [.tr (.sl (sig.map Zh)),.ag ((Zf s).map .tr),.ag ((ptC x).map .tr),.ag ((ptC y).map .tr)] S (.tu [.ag ((ptC (Zmx sig s x y)).map .tr),iB (dc (W6 sig x.1 y.1))]) S:=by
 have hxb:=hx.big;have hyb:=hy.big
 have x2:=hxb.sitesL;have y2:=hyb.sitesL
 have lx:=hx.len;have ly:=hy.len
 have q1:=Zmk sig x.1 y.1 hxb hyb
 have q2:=XE sig (ZcU x.1 y.1) hn hbs (QD (by omega) (ZlB hxb hyb)) (Zq0 hxb hyb (X3 hxb) (X3 hyb))
 rw[<-Vb (ZsV hxb hyb hx.inn)] at q2
 have q3:=Zos (ZcU x.1 y.1) (Zp7 hxb hyb)
 have q4:=ZfB x.2 (by omega)
 have ec:cut (rI x.2++rI y.2) 0 (x.2.length+y.2.length)=rI (x.2++y.2):=by
  rw[<-Yx]
  exact Yb (by simp [rI])
 obtain⟨B,hB⟩:∃ B,B=ZcU x.1 y.1:=⟨_,rfl⟩
 rw[<-hB] at q1 q2 q3
 have hM:ZgG x.1 y.1=Zkn B:=by rw[hB];rfl
 simp only[Zc,List.map_cons,List.map_nil] at q1 q2 q3
 refine Zb Zhv (by simp [low,men,Zj,ptC,Zc]) ?_
 simp only[Zcd,Zf,ptC,Zc,EVA,seval,Zj,men]
 refine Za q1 ?_
 simp only[EVA,seval,Zj,men]
 refine Za q2 ?_
 cases hp:dc (W6 sig x.1 y.1)
 ·rw[show Zmx sig s x y=(JW,[]) from if_neg (dc_not.1 hp)]
  simp only[EVA,seval]
  rfl
 ·rw[show Zmx sig s x y=_ from if_pos (dc_iff.1 hp)]
  by_cases h4:s.kind_=4
  ·rw[if_pos h4,hM]
   simp only[h4,EVA,seval,Zj,men]
   refine Za q3 ?_
   simp only[Zi,EVA,seval,Zj,men]
   refine Za q4 ?_
   simp only[Zcz,ZcA,List.length_map,EVA,seval]
   exact⟨by omega,by rw[<-Yx,List.length_map,List.length_append];exact Nat.le_refl _,by rw[ec] <;> rfl⟩
  ·rw[if_neg h4,<-hB]
   simp only[h4,EVA,seval,Zj,men]
   refine Za q4 ?_
   simp only[Zcz,ZcA,List.length_map,EVA,seval]
   exact⟨by omega,by rw[<-Yx,List.length_map,List.length_append];exact Nat.le_refl _,by rw[ec] <;> rfl⟩
theorem Zkv(sig:List TControl)(s:TTermStep)(x:QM)(n:ByteArray)(hn:sig.length<=4294967296)(hbs:∀ y∈sig,Zr 4294967296 y)(hns:s.names=[n])(hbn:n.size<=4294967296)(h67:s.kind_=6\/s.kind_=7)(hx:partOK sig x):∃ V:QM,(∀ y,mkR sig s [x]=some y->V=y)/\∀(lvl:Nat)(S:Sto),Sem Go.Proofs.Tryz.prog Wa lvl [.tr (.sl (sig.map Zh)),.ag ((Zf s).map .tr),.ag ((ptC x).map .tr)] S (.tu [.ag ((ptC V).map .tr),iB (mkR sig s [x]).isSome]) S:=by
 have hxb:=hx.big
 have g0:(rS [n])[0]? = some [ts n]:=rfl
 rcases h67 with h6 | h7
 ·have e:=UH (sig:=sig) (s:=s) (x:=x) (.inr (.inl h6))
  rw[if_neg (by omega),if_pos h6,hns,gS0 rfl] at e
  by_cases g:QC sig x.1 n
  ·rw[if_pos g] at e
   rw[e]
   refine⟨(Xo x.1 n,x.2),fun y hy=>Option.some.inj hy,fun lvl S=>?_⟩
   have q:=Za2 sig x.1 n hn hbs (U1 hxb) hbn (X3 hxb) g
   unfold JX JY at q
   rw[if_pos g,ZL g] at q
   simp only[Zc,List.map_cons,List.map_nil] at q
   refine Zb XN (by simp [low,men,Zj,ptC,Zc]) ?_
   simp only[Qb,Zf,ptC,Zc,h6,hns,EVA,seval,Zj,men]
   refine Za q ?_
   simp only[EVA,seval]
  ·rw[if_neg g] at e
   rw[e]
   refine⟨(JW,x.2),(fun y hy=>by cases hy),fun lvl S=>?_⟩
   have q:=Za3 sig x.1 n hn hbs (U1 hxb) hbn (X3 hxb) g
   unfold JX JY at q
   rw[if_neg g,Zg g] at q
   simp only[Zc,List.map_cons,List.map_nil] at q
   refine Zb XN (by simp [low,men,Zj,ptC,Zc]) ?_
   simp only[Qb,Zf,ptC,Zc,h6,hns,EVA,seval,Zj,men]
   refine Za q ?_
   simp only[Zi,EVA,seval]
 ·have e:=UH (sig:=sig) (s:=s) (x:=x) (.inr (.inr h7))
  rw[if_neg (by omega),if_neg (by omega),hns,gS0 rfl] at e
  have q:=Zd8 sig x.1 n hn hbs (U1 hxb) hbn (X3 hxb)
  have h6:¬ s.kind_=6:=by omega
  by_cases g:UG sig x.1 n
  ·rw[if_pos g] at e
   rw[e]
   refine⟨(Zif x.1 n,x.2),fun y hy=>Option.some.inj hy,fun lvl S=>?_⟩
   rw[if_pos g,ZL g] at q
   simp only[Zc,List.map_cons,List.map_nil] at q
   refine Zb XN (by simp [low,men,Zj,ptC,Zc]) ?_
   simp only[Qb,Zf,ptC,Zc,h6,hns,EVA,seval,Zj,men]
   refine Za q ?_
   simp only[EVA,seval]
  ·rw[if_neg g] at e
   rw[e]
   refine⟨(JW,x.2),(fun y hy=>by cases hy),fun lvl S=>?_⟩
   rw[if_neg g,Zg g] at q
   simp only[Zc,List.map_cons,List.map_nil] at q
   refine Zb XN (by simp [low,men,Zj,ptC,Zc]) ?_
   simp only[Qb,Zf,ptC,Zc,h6,hns,EVA,seval,Zj,men]
   refine Za q ?_
   simp only[Zi,EVA,seval]
end Go.Fd

namespace Go.Fd
set_option maxRecDepth 20000
theorem ZlJ{z:List QM}{a:Nat}(h:z.length=a+1):∃ x,z.drop a=[x]/\(z.map ptC)[a]? = some (ptC x)/\x∈z:=by
 have ha:a<z.length:=by omega
 refine⟨z[a],?_,by simp [ha],List.getElem_mem ha⟩
 rw[List.drop_eq_getElem_cons ha,List.drop_of_length_le (by omega)]
theorem Zqh{z:List QM}{a:Nat}(h:z.length=a+2):∃ x y,z.drop a=[x,y]/\(z.map ptC)[a]? = some (ptC x)/\(z.map ptC)[a+1]? = some (ptC y)/\x∈z/\y∈z:=by
 have ha:a<z.length:=by omega
 have hb:a+1<z.length:=by omega
 refine⟨z[a],z[a+1],?_,by simp [ha],by simp [hb],List.getElem_mem ha,List.getElem_mem hb⟩
 rw[List.drop_eq_getElem_cons ha,List.drop_eq_getElem_cons hb,List.drop_of_length_le (by omega)]
theorem Zqi{sig:List TControl}{s:TTermStep}{x y:QM}(h3:s.kind_=3)(h:mkR sig s [x]=some y):Zmv sig s x=y:=by
 rw[UH (.inl h3),if_pos h3] at h
 split at h
 ·rename_i g
  rw[show Zmv sig s x=_ from if_pos ⟨g.1,g.2.1⟩]
  exact Option.some.inj h
 ·cases h
theorem ZoH{sig:List TControl}{s:TTermStep}{x:QM}(h3:s.kind_=3):dc (Xw sig s x.1)=(mkR sig s [x]).isSome:=by
 rw[UH (.inl h3),if_pos h3]
 by_cases g:Xw sig s x.1
 ·rw[if_pos g,ZL g];rfl
 ·rw[if_neg g,Zg g];rfl
theorem Zqj{sig:List TControl}{s:TTermStep}{x x2 y:QM}(h45:s.kind_=4\/s.kind_=5)(h:mkR sig s [x,x2]=some y):Zmx sig s x x2=y:=by
 rw[Zdn h45] at h
 split at h
 ·rename_i g
  rw[show Zmx sig s x x2=_ from if_pos g]
  exact Option.some.inj h
 ·cases h
theorem ZoI{sig:List TControl}{s:TTermStep}{x x2:QM}(h45:s.kind_=4\/s.kind_=5):dc (W6 sig x.1 x2.1)=(mkR sig s [x,x2]).isSome:=by
 rw[Zdn h45]
 by_cases g:W6 sig x.1 x2.1
 ·rw[if_pos g,ZL g];rfl
 ·rw[if_neg g,Zg g];rfl
theorem ZlK{k:Int}:Je k<=2:=by
 unfold Je
 split
 ·omega
 ·split <;> omega
theorem ZwD{z:List QM}{a:Nat}{Q:QM}:cut (z.map ptC) 0 (a-0)++[[Tr.v (Value.int .i64 Q.1.roots),Tr.sl (Q.1.nodes.map Z9),Tr.sl (rI Q.1.sites),Tr.v (Value.int .i64 Q.1.edges),Tr.sl (rS Q.1.outer),Tr.sl (Q.1.inner.map Jc),Tr.sl (rI Q.2)]]=(z.take a++[Q]).map ptC:=by
 rw[Nat.sub_zero,Zgc,List.map_append]
 rfl
theorem ZwE{z:List QM}{a:Nat}(h:a<=z.length):(cut (z.map ptC) 0 (a-0)).length=a:=by
 rw[Nat.sub_zero,Zgc,List.length_map,List.length_take]
 omega
theorem Zq6{z:List QM}{a:Nat}{Q:QM}(h:a<=z.length):((z.take a++[Q]).map ptC).length=a+1:=by
 rw[List.length_map,List.length_append,List.length_take]
 simp
 omega
theorem Zmz(sig:List TControl)(s:TTermStep)(z:List QM)(hn:sig.length<=4294967296)(hbs:∀ y∈sig,Zr 4294967296 y)(hb:ZA 4294967296 s)(hs:YJ sig)(h:stepOK sig s)(hz:∀ x∈z,partOK sig x)(hzl:z.length<=100):∃ V:List QM,(Je s.kind_<=z.length->∀ x,mkR sig s (z.drop (z.length-Je s.kind_))=some x->V=z.take (z.length-Je s.kind_)++[x])/\∀(lvl:Nat)(S:Sto),Sem Go.Proofs.Tryz.prog Xa lvl [.tr (.sl (sig.map Zh)),.tr (.sl (z.map ptC)),.ag ((Zf s).map .tr)] S (.tu [.tr (.sl (V.map ptC)),iB (decide (Je s.kind_<=z.length)&&(mkR sig s (z.drop (z.length-Je s.kind_))).isSome)]) S:=by
 obtain⟨k,c,p,ns⟩:=s
 have hkind:=h.kind
 simp only at hkind
 have qt:=Zfz k
 have ql:=Zmu ⟨k,c,p,ns⟩
 by_cases htk:Je k<=z.length
 ·obtain⟨a,ha⟩:∃ a,a=z.length-Je k:=⟨_,rfl⟩
  have hat:((z.length:Int)-(Je k:Int))=(a:Int):=by omega
  have ht2:=ZlK (k:=k)
  show ∃ V:List QM,(Je k<=z.length->∀ x,mkR sig ⟨k,c,p,ns⟩ (z.drop (z.length-Je k))=some x->V=z.take (z.length-Je k)++[x])/\∀(lvl:Nat) (S:Sto),Sem Go.Proofs.Tryz.prog Xa lvl [.tr (.sl (sig.map Zh)),.tr (.sl (z.map ptC)),.ag ((Zf ⟨k,c,p,ns⟩).map .tr)] S (.tu [.tr (.sl (V.map ptC)),iB (decide (Je k<=z.length)&&(mkR sig ⟨k,c,p,ns⟩ (z.drop (z.length-Je k))).isSome)]) S
  rw[<-ha,show decide (Je k<=z.length)=true from decide_eq_true htk]
  simp only[Bool.true_and]
  have hnot:¬ (a:Int)<0:=by omega
  have hat0:a<=z.length:=by omega
  have e6 (Q:QM):cut (z.map ptC) 0 a=(z.take a).map ptC:=Zgc
  have tail (Q:QM):(z.take a).map ptC++[ptC Q]=(z.take a++[Q]).map ptC:=by rw[List.map_append];rfl
  obtain⟨W,hW⟩:∃ W:QM,W=(if k=0 then (JW,[]) else if k=1 then (ZoW,[]) else (ZoX,[p])):=⟨_,rfl⟩
  simp only[<-hW] at ql
  simp only[Zf,ptC,Zc,List.map_cons,List.map_nil] at ql
  have d01:¬ (0:Int)=1:=by decide
  have d02:¬ (0:Int)=2:=by decide
  have d21:¬ (2:Int)=1:=by decide
  by_cases h012:k=0\/k=1\/k=2
  ·have e:=ZlI (sig:=sig) (s:=⟨k,c,p,ns⟩) (xs:=z.drop a) h012
   have eQ:(if k=1 then (ZoW,[]) else if k=2 then (ZoX,[p]) else (JW,[]))=W:=by
    rw[hW]
    rcases h012 with rfl | rfl | rfl <;> rfl
   simp only at e
   rw[eQ] at e
   rw[e]
   obtain⟨Q,hQ⟩:∃ Q,Q=W:=⟨_,rfl⟩
   rw[<-hQ] at ql ⊢
   refine⟨z.take a++[Q],fun _ x hx=>by rw[Option.some.inj hx],fun lvl S=>?_⟩
   have t0:Je k=0:=by rcases h012 with rfl | rfl | rfl <;> rfl
   rw[t0] at qt hat
   simp only[Int.natCast_zero] at qt hat
   have h3:¬ k=3:=by omega
   refine Zb Xh (by simp [low,men,Zj]) ?_
   simp only[VI,Zf,List.length_map,EVA,seval,Zj,men]
   refine Za qt ?_
   simp only[hat,hnot,EVA,seval,Zj,men]
   refine⟨by rw[Zd];omega,Za ql ?_⟩
   simp only[h3,EVA,seval,Zj,men]
   refine Za qt ?_
   simp only[d01,EVA,seval,Zj,men]
   refine Za qt ?_
   simp only[d02,Zdo,List.length_map,EVA,seval]
   rw[ZwD (z:=z) (a:=a) (Q:=Q),ZwE hat0]
   refine⟨fun g=>g.elim,by omega,by omega,by rw[Nat.sub_zero,Zgc,Zdo];trivial,by omega,by omega,by rw[Zq6 hat0];exact Nat.le_refl _,by rw[Yb (Zq6 hat0)] <;> rfl⟩
  by_cases h3:k=3
  ·subst h3
   obtain⟨x,hx1,hx2,hx3⟩:=ZlJ (z:=z) (a:=a) (by have:Je 3=1:=rfl;omega)
   rw[hx1]
   obtain⟨Q,hQ⟩:∃ Q,Q=Zmv sig ⟨3,c,p,ns⟩ x:=⟨_,rfl⟩
   refine⟨z.take a++[Q],fun _ y hy=>by rw[hQ,Zqi rfl hy],fun lvl S=>?_⟩
   have q:=Zmw sig ⟨3,c,p,ns⟩ x hn hbs hb hs h rfl (hz x hx3)
   rw[<-hQ,ZoH rfl] at q
   simp only[Zf,ptC,Zc,List.map_cons,List.map_nil] at q hx2
   have t1:Je 3=1:=rfl
   rw[t1] at qt hat
   simp only[Int.natCast_one] at qt hat
   have hal:a<z.length:=by omega
   refine Zb Xh (by simp [low,men,Zj]) ?_
   simp only[VI,Zf,List.length_map,EVA,seval,Zj,men]
   refine Za qt ?_
   simp only[hat,hnot,EVA,seval,Zj,men]
   refine⟨by rw[Zd];omega,Za ql ?_⟩
   simp only[hx2,EVA,seval,Zj,men]
   refine Za q ?_
   simp only[Zdo,List.length_map,EVA,seval]
   rw[ZwD (z:=z) (a:=a) (Q:=Q),ZwE hat0]
   refine⟨fun g=>g.elim,by omega,by omega,by rw[Nat.sub_zero,Zgc,Zdo];trivial,by omega,by omega,by rw[Zq6 hat0];exact Nat.le_refl _,by rw[Yb (Zq6 hat0)] <;> rfl⟩
  by_cases h45:k=4\/k=5
  ·obtain⟨x,y,hx1,hx2,hx3,hx4,hx5⟩:=Zqh (z:=z) (a:=a) (by have:Je k=2:=(by rcases h45 with rfl | rfl <;> rfl);omega)
   rw[hx1]
   obtain⟨Q,hQ⟩:∃ Q,Q=Zmx sig ⟨k,c,p,ns⟩ x y:=⟨_,rfl⟩
   refine⟨z.take a++[Q],fun _ v hv=>by rw[hQ,Zqj h45 hv],fun lvl S=>?_⟩
   have q:=Zmy sig ⟨k,c,p,ns⟩ x y hn hbs (hz x hx4) (hz y hx5)
   rw[<-hQ,ZoI (s:=⟨k,c,p,ns⟩) h45] at q
   simp only[Zf,ptC,Zc,List.map_cons,List.map_nil] at q hx2 hx3
   have t2:Je k=2:=by rcases h45 with rfl | rfl <;> rfl
   rw[t2] at qt hat
   have c2:((2:Nat):Int)=2:=rfl
   rw[c2] at qt hat
   have hal:a<z.length:=by omega
   have hal2:a+1<z.length:=by omega
   have ca:((a:Int)+1)=((a+1:Nat):Int):=by omega
   refine Zb Xh (by simp [low,men,Zj]) ?_
   simp only[VI,Zf,List.length_map,EVA,seval,Zj,men]
   refine Za qt ?_
   simp only[hat,hnot,EVA,seval,Zj,men]
   refine⟨by rw[Zd];omega,Za ql ?_⟩
   simp only[h3,EVA,seval,Zj,men]
   refine Za qt ?_
   simp only[d21,EVA,seval,Zj,men]
   refine Za qt ?_
   simp only[hx2,hx3,ca,Int.toNat_natCast,EVA,seval,Zj,men]
   refine⟨by rw[Zd];omega,Za q ?_⟩
   simp only[Zdo,List.length_map,EVA,seval]
   rw[ZwD (z:=z) (a:=a) (Q:=Q),ZwE hat0]
   refine⟨fun g=>g.elim,by omega,by omega,by rw[Nat.sub_zero,Zgc,Zdo];trivial,by omega,by omega,by rw[Zq6 hat0];exact Nat.le_refl _,by rw[Yb (Zq6 hat0)] <;> rfl⟩
  ·have h67:k=6\/k=7:=by omega
   obtain⟨x,hx1,hx2,hx3⟩:=ZlJ (z:=z) (a:=a) (by have:Je k=1:=(by rcases h67 with rfl | rfl <;> rfl);omega)
   rw[hx1]
   obtain⟨n,rfl⟩:=Zks (h.one h67)
   obtain⟨Q,hQ,q⟩:=Zkv sig ⟨k,c,p,[n]⟩ x n hn hbs rfl (hb.2 n (by simp)) h67 (hz x hx3)
   refine⟨z.take a++[Q],fun _ y hy=>by rw[hQ y hy],fun lvl S=>?_⟩
   simp only[Zf,ptC,Zc,List.map_cons,List.map_nil] at q hx2
   have t1:Je k=1:=by rcases h67 with rfl | rfl <;> rfl
   rw[t1] at qt hat
   simp only[Int.natCast_one] at qt hat
   have hal:a<z.length:=by omega
   refine Zb Xh (by simp [low,men,Zj]) ?_
   simp only[VI,Zf,List.length_map,EVA,seval,Zj,men]
   refine Za qt ?_
   simp only[hat,hnot,EVA,seval,Zj,men]
   refine⟨by rw[Zd];omega,Za ql ?_⟩
   simp only[h3,EVA,seval,Zj,men]
   refine Za qt ?_
   simp only[hx2,List.map_cons,List.map_nil,EVA,seval,Zj,men]
   refine Za q ?_
   simp only[Zdo,List.length_map,EVA,seval]
   rw[ZwD (z:=z) (a:=a) (Q:=Q),ZwE hat0]
   refine⟨fun g=>g.elim,by omega,by omega,by rw[Nat.sub_zero,Zgc,Zdo];trivial,by omega,by omega,by rw[Zq6 hat0];exact Nat.le_refl _,by rw[Yb (Zq6 hat0)] <;> rfl⟩
 ·have hlt:(z.length:Int)-(Je k:Int)<0:=by omega
  refine⟨z,fun g=>absurd g htk,fun lvl S=>?_⟩
  rw[show decide (Je (⟨k,c,p,ns⟩:TTermStep).kind_<=z.length)=false from decide_eq_false htk]
  simp only[Bool.false_and]
  refine Zb Xh (by simp [low,men,Zj]) ?_
  simp only[VI,Zf,List.length_map,EVA,seval,Zj,men]
  refine Za qt ?_
  simp only[hlt,EVA,seval]
  rw[Zd]
  have:=ZlK (k:=k)
  omega
end Go.Fd

namespace Go.Fd
set_option maxRecDepth 20000
theorem ZmA(l:List Int)(n:Int)(hl:l.length<=4294967296)(hn:n=l.length)(lvl:Nat)(S:Sto):Sem Go.Proofs.Tryz.prog WG lvl [.tr (.sl (rI l)),iI n] S (iB (dc (Za4 l.length l))) S:=by
 subst hn
 refine Zb Zhm trivial ?_
 simp only[Zb7,EVA,seval]
 refine ZB (α:=Unit) l.length (fun j _=>[(5,iI j)]) (fun _ _=>[]) (fun j _=>∀ i:Nat,i<j->(i:Int)∈l) () (by simp only[EVA,seval]) (by (simp only[EVA,seval]) <;> rfl) (fun i hi=>absurd hi (Nat.not_lt_zero i)) ?_
 intro j _ hj hA
 simp only[List.length_map,EVA,seval,Zj,men]
 refine Zn (fun hlt=>?_) (fun hge=>?_)
 ·have hja:j<l.length:=by omega
  refine Za (Znx l j (by omega)) ?_
  by_cases hm:(j:Int)∈l
  ·simp only[hm,EVA,seval]
   exact⟨by rw[Zd];omega,Ze () hja rfl (fun i hi=>by
    rcases Nat.lt_or_eq_of_le (Nat.le_of_lt_succ hi) with h | h
    ·exact hA i h
    ·subst h;exact hm)⟩
  ·rw[Zg fun g:Za4 l.length l=>hm (g.2 j hja)]
   simp only[hm,EVA,seval]
 ·have:j=l.length:=by omega
  subst this
  rw[ZL (show Za4 l.length l from ⟨rfl,hA⟩)]
theorem ZmB(a b:Int)(lvl:Nat)(S:Sto):Sem Go.Proofs.Tryz.prog WI lvl [iI a,iI b] S (iI (max a b)) S:=by
 refine Zb Zhq trivial ?_
 by_cases h:b<a
 ·rw[show max a b=a by omega]
  simp only[Dl,h,EVA,seval]
 ·rw[show max a b=b by omega]
  simp only[Dl,h,EVA,seval]
noncomputable def ZmC(sig:List TControl):Stk->List TTermStep->Stk
 | z,[]=>z
 | z,s::r=>match stT sig z s with
  | some z' => ZmC sig z' r
  | none=>z
theorem Zjt{sig:List TControl}{z z':Stk}{s:TTermStep}{r:List TTermStep}(h:stT sig z s=some z'):ZmC sig z (s::r)=ZmC sig z' r:=by rw[ZmC,h]
theorem ZoJ{sig:List TControl}{z:Stk}{s:TTermStep}{r:List TTermStep}(h:stT sig z s=none):ZmC sig z (s::r)=z:=by rw[ZmC,h]
theorem Zju{sig:List TControl}:∀{t:List TTermStep}{z y:Stk},t.foldlM (stT sig) z=some y->ZmC sig z t=y
 | [],z,y,h=>by
  simp only[List.foldlM_nil] at h
  exact Option.some.inj h
 | s::r,z,y,h=>by
  rw[List.foldlM_cons] at h
  cases hs:stT sig z s with
  | none=>rw[hs] at h;cases h
  | some z' =>
   rw[hs] at h
   rw[Zjt hs]
   exact Zju h
theorem ZlL{sig:List TControl}{t:List TTermStep}{y:Stk}(h:Za5 sig t=some y):ZmC sig ([],0) t=y:=Zju h
theorem Zwj{sig:List TControl}{z:Stk}{s:TTermStep}(h:(decide (Je s.kind_<=z.1.length)&&(mkR sig s (z.1.drop (z.1.length-Je s.kind_))).isSome)=false):stT sig z s=none:=by
 rcases Bool.and_eq_false_iff.1 h with g | g
 ·exact Zfx fun k=>of_decide_eq_false g k.2
 ·exact ZlG (by simpa using g)
theorem ZoK(sig:List TControl)(t:List TTermStep)(hn:sig.length<=4294967296)(hbs:∀ y∈sig,Zr 4294967296 y)(hbt:∀ y∈t,ZA 4294967296 y)(hs:YJ sig)(hl:t.length<=60)(lvl:Nat)(S:Sto):Sem Go.Proofs.Tryz.prog Uw lvl [.tr (.sl (sig.map Zh)),.tr (.sl (t.map Zf))] S (.tu [.tr (.sl ((ZmC sig ([],0) t).1.map ptC)),iI ((ZmC sig ([],0) t).2:Nat),iB (Za5 sig t).isSome]) S:=by
 refine Zb ZiS (by simp [low,men,Zj]) ?_
 simp only[ZdE,EVA,seval]
 refine ZB (α:=Stk) t.length (fun j z=>[(7,.tr (.sl (z.1.map ptC))),(8,iI z.2),(9,iI j)]) (fun _ _=>[]) (fun j z=>Za5 sig (t.take j)=some z/\ZmC sig ([],0) t=ZmC sig z (t.drop j)) ([],0) (by simp only[EVA,seval]) (by (simp only[EVA,seval]) <;> rfl) ⟨by rw[List.take_zero];exact ZlE,by rw[List.drop_zero]⟩ ?_
 intro j z hj hA
 obtain⟨hA,hL⟩:=hA
 have hz:=ZbI hs hj hA
 simp only[List.length_map,EVA,seval]
 refine Zn (fun hlt=>?_) (fun hge=>?_)
 ·have hja:j<t.length:=by omega
  have ga:=W9 (c:=Zf) hja
  have hb:=hbt _ (List.getElem_mem hja)
  have hsu:=Zaz (sig:=sig) hja
  rw[hA] at hsu
  rw[List.drop_eq_getElem_cons hja] at hL
  obtain⟨s,hs'⟩:∃ s,s=t[j]:=⟨_,rfl⟩
  rw[<-hs'] at ga hb hsu hL
  have hbad:stT sig z s=none->Za5 sig t=none/\ZmC sig ([],0) t=z:=fun g=>⟨ZcM (j:=j+1) (by rw[hsu];exact g),by rw[hL,ZoJ g]⟩
  have q1:=Zms sig s hn hb
  have q2:=fun hok=>Zmz sig s z.1 hn hbs hb hs hok hz.1 (by omega)
  obtain⟨k,c,p,ns⟩:=s
  simp only[Zf,List.map_cons,List.map_nil] at ga q1 q2
  simp only[ga,EVA,seval,Zj,men]
  refine Za q1 ?_
  cases hg:dc (stepOK sig ⟨k,c,p,ns⟩)
  ·have e:=hbad (Zfx fun g=>dc_not.1 hg g.1)
   rw[e.1,e.2]
   simp only[Option.isSome_none,EVA,seval]
  have hok:=dc_iff.1 hg
  obtain⟨V,hV,qV⟩:=q2 hok
  simp only[ga,EVA,seval,Zj,men]
  refine Za qV ?_
  cases hm:(decide (Je k<=z.1.length)&&(mkR sig ⟨k,c,p,ns⟩ (z.1.drop (z.1.length-Je k))).isSome)
  ·have e:=hbad (Zwj hm)
   rw[e.1,e.2]
   simp only[Option.isSome_none,EVA,seval]
  ·have h2:=Bool.and_eq_true_iff.1 hm
   have htk:Je k<=z.1.length:=of_decide_eq_true h2.1
   obtain⟨x,hx⟩:=Option.isSome_iff_exists.1 h2.2
   have e:=ZlF hok (z:=z) htk hx
   have eV:=hV htk x hx
   have hlen:V.length=z.1.length-Je k+1:=by
    rw[eV,List.length_append,List.length_take]
    simp <;> omega
   have hLz:=Zjt (r:=t.drop (j+1)) e
   rw[hLz] at hL
   simp only[List.length_map,EVA,seval,Zj,men]
   refine Za (ZmB _ _) ?_
   simp only[EVA,seval]
   have e5:max (z.2:Int) (V.length:Int)=((max z.2 (z.1.length-Je k+1):Nat):Int):=by rw[hlen];omega
   rw[e5,eV]
   refine⟨by rw[Zd];omega,Ze (z.1.take (z.1.length-Je k)++[x],max z.2 (z.1.length-Je k+1)) hja rfl ⟨?_,hL⟩⟩
   rw[hsu]
   exact e
 ·have:j=t.length:=by omega
  subst this
  rw[List.take_length] at hA
  rw[hA,ZlL hA]
  simp only[Option.isSome_some,seval]
  try rfl
end Go.Fd

namespace Go.Fd
set_option maxRecDepth 20000
theorem Zqk(a b:Int)(lvl:Nat)(S:Sto):Sem Go.Proofs.Tryz.prog Ql lvl [iI a,iI b] S (iB (decide (a<b))) S:=by
 refine Zb ZfW trivial ?_
 simp only[Zbl,EVA,seval,Zj,men]
 refine Za (Zny a) ?_
 simp only[EVA,seval]
def Zql(x:List Int)(i:Nat):Prop:=∀ p q,p<q->q<i->g0 x p<=g0 x q
def ZoL(x:List Int)(i j:Nat):Prop:=(∀ p q,p<q->q<=i->p≠j->q≠j->g0 x p<=g0 x q)/\∀ q,j<q->q<=i->g0 x j<=g0 x q
def swp(x:List Int)(j:Nat):List Int:=(x.set j (g0 x (j-1))).set (j-1) (g0 x j)
theorem Zq7{y:List Int}{a b:Nat}{v:Int}(h:a<y.length):g0 (y.set a v) b=if a=b then v else g0 y b:=by
 show (y.set a v).getD b 0=if a=b then v else y.getD b 0
 rw[List.getD_eq_getElem?_getD,List.getElem?_set,List.getD_eq_getElem?_getD]
 by_cases e:a=b
 ·rw[if_pos e,if_pos e,if_pos (by omega)];rfl
 ·rw[if_neg e,if_neg e]
theorem ZmD{y:List Int}{i:Nat}(h:ZoL y i 0):Zql y (i+1):=fun p q h1 h2=>by
 by_cases e:p=0
 ·subst e;exact h.2 q h1 (by omega)
 ·exact h.1 p q h1 (by omega) e (by omega)
theorem ZmE{y:List Int}{i j:Nat}(h:ZoL y i j)(hj:0<j)(hji:j<=i)(hle:g0 y (j-1)<=g0 y j):Zql y (i+1):=fun p q h1 h2=>by
 by_cases e:p=j
 ·subst e;exact h.2 q h1 (by omega)
 ·by_cases e2:q=j
  ·subst e2
   by_cases e3:p=q-1
   ·subst e3;exact hle
   ·exact Int.le_trans (h.1 p (q-1) (by omega) (by omega) e (by omega)) hle
  ·exact h.1 p q h1 (by omega) e e2
theorem ZoM{y:List Int}{i j:Nat}(h:ZoL y i j)(hj:0<j)(hji:j<=i)(hi:i<y.length)(hlt:g0 y j<g0 y (j-1)):ZoL (swp y j) i (j-1):=by
 have e:∀ b,g0 (swp y j) b=if j-1=b then g0 y j else if j=b then g0 y (j-1) else g0 y b:=fun b=>by
  unfold swp
  rw[Zq7 (by rw[List.length_set];omega),Zq7 (by omega)]
 refine⟨fun p q h1 h2 h3 h4=>?_,fun q h1 h2=>?_⟩
 ·rw[e p,e q,if_neg (show ¬ j-1=p from fun g=>h3 g.symm),if_neg (show ¬ j-1=q from fun g=>h4 g.symm)]
  by_cases ep:j=p
  ·rw[if_pos ep,if_neg (show ¬ j=q by omega)]
   exact h.1 (j-1) q (by omega) h2 (by omega) (by omega)
  ·rw[if_neg ep]
   by_cases eq:j=q
   ·rw[if_pos eq]
    exact h.1 p (j-1) (by omega) (by omega) (by omega) (by omega)
   ·rw[if_neg eq]
    exact h.1 p q h1 h2 (fun g=>ep g.symm) (fun g=>eq g.symm)
 ·rw[e (j-1),e q,if_pos rfl,if_neg (show ¬ j-1=q by omega)]
  by_cases eq:j=q
  ·rw[if_pos eq];omega
  ·rw[if_neg eq]
   exact h.2 q (by omega) h2
theorem Zqm{y:List Int}{j:Nat}(hj:0<j)(hi:j<y.length):(swp y j).Perm y:=by
 have h:=@List.set_set_perm _ y j (j-1) hi (by omega)
 have e1:g0 y j=y[j]:=by simp [g0,hi]
 have e2:g0 y (j-1)=y[j-1]'(by omega):=by
  show y.getD (j-1) 0=_
  rw[List.getD_eq_getElem?_getD,List.getElem?_eq_getElem (by omega)]
  rfl
 unfold swp
 rw[e1,e2]
 exact h
theorem Zwk{y:List Int}{j:Nat}{v:Int}(h:j<y.length):YK (rI y) [] j 0 (.v (.int .i64 v))=rI (y.set j v):=by
 simp only[YK]
 rw[VL h]
 exact(List.map_set (f:=fun n:Int=>[tv n]) (l:=y) (i:=j) (a:=v)).symm
theorem Zqn(l:List Int)(hl:l.length<=12)(lvl:Nat)(S:Sto)(id:Oid)(u:Bool)(hw ver:Nat)(hid:id.1<lvl)(hS:S id=some (.ar 1 (rI l) u hw ver))(srt:List Int)(hsrt:∀ x:List Int,x.Perm l->Zql x l.length->x=srt) :
  Sem Go.Proofs.Tryz.prog Jj lvl [.hd id [] 0 l.length none hw,iI 0,iI l.length] S (.tu []) (ZT S id (.ar 1 (rI srt) u hw ver)):=by
 have hne:id.1≠lvl:=by omega
 refine Zb Xl trivial ?_
 simp only[Yo,EVA,seval]
 refine⟨by rw[Zd];omega,?_⟩
 refine Z3 (α:=List Int) l.length (fun k x=>⟨lvl,[(0,.hd id [] 0 l.length none hw),(1,iI 0),(2,iI l.length),(6,iI ((k+1:Nat):Int))],[],ZT S id (.ar 1 (rI x) u hw ver)⟩) (fun k x=>x.Perm l/\Zql x (k+1)) l ⟨by simp only[Yj hne,EVA,seval],by (simp only[QY hS,EVA,seval]) <;> rfl⟩ ⟨List.Perm.refl _,fun p q h1 h2=>by omega⟩ ?_
 intro k x hk ⟨hA1,hA2⟩
 have hxl:x.length=l.length:=hA1.length_eq
 simp only[EVA,seval]
 refine Zn (fun hlt=>?_) (fun hge=>?_)
 ·have hk1:k+1<l.length:=by omega
  refine Z3 (α:=List Int) (k+1) (fun m y=>⟨lvl,[(0,.hd id [] 0 l.length none hw),(1,iI 0),(2,iI l.length),(6,iI ((k+1:Nat):Int)),(7,iI ((k+1-m:Nat):Int))],[],ZT S id (.ar 1 (rI y) u hw ver)⟩) (fun m y=>y.Perm l/\ZoL y (k+1) (k+1-m)) x ⟨by simp only[Yj hne,EVA,seval],by (simp only[EVA,seval]) <;> rfl⟩ ⟨hA1,fun p q h1 h2 h3 h4=>hA2 p q h1 (by omega),fun q h1 h2=>by omega⟩ ?_
  intro m y hm ⟨hB1,hB2⟩
  have hyl:y.length=l.length:=hB1.length_eq
  generalize hj:k+1-m=j at hB2 ⊢
  by_cases hj0:j=0
  ·subst hj0
   simp only[EVA,seval,men]
   exact⟨by rw[Zd];omega,fun h=>absurd h hne,Ze y (by omega) rfl ⟨hB1,ZmD hB2⟩⟩
  ·have g1:(0:Int)<j:=by omega
   have e1:((j:Int)-1)=((j-1:Nat):Int):=by omega
   have gj:=VL (l:=y) (i:=j) (by omega)
   have gj1:=VL (l:=y) (i:=j-1) (by omega)
   have l1:j<l.length:=by omega
   have l2:j-1<l.length:=by omega
   simp only[g1,Jp hne,QH,e1,gj,gj1,l1,l2,Nat.zero_add,EVA,seval,Zj,men]
   refine⟨by rw[Zd];omega,Za (Zqk (g0 y j) (g0 y (j-1))) ?_⟩
   by_cases hlt2:g0 y j<g0 y (j-1)
   ·have s1:=Zwk (y:=y) (j:=j) (v:=g0 y (j-1)) (by omega)
    have s2:=Zwk (y:=y.set j (g0 y (j-1))) (j:=j-1) (v:=g0 y j) (by rw[List.length_set];omega)
    have gj2:=VL (l:=y.set j (g0 y (j-1))) (i:=j-1) (by rw[List.length_set];omega)
    simp only[hlt2,Jp hne,QW hne,YC,QH,Yj hne,e1,gj,gj1,gj2,s1,s2,l1,l2,Nat.zero_add,EVA,seval]
    subst hj
    refine⟨by rw[Zd];omega,by rw[Zd];omega,by rw[Zd];omega,Ze (swp y (k+1-m)) (by omega) (by rw[show k+1-(m+1)=k+1-m-1 from by omega];rfl) ⟨(Zqm (by omega) (by omega)).trans hB1,?_⟩⟩
    rw[show k+1-(m+1)=k+1-m-1 from by omega]
    exact ZoM hB2 (by omega) (by omega) (by omega) hlt2
   ·simp only[hlt2,EVA,seval,men]
    exact⟨by rw[Zd];omega,fun h=>absurd h hne,Ze y (by omega) rfl ⟨hB1,ZmE hB2 (by omega) (by omega) (by omega)⟩⟩
 ·have:k+1=l.length\/k=l.length:=by omega
  have hup:Zql x l.length:=fun p q h1 h2=>hA2 p q h1 (by omega)
  have hx:=hsrt x hA1 hup
  rw[hx]
theorem Zqo(l:List Int)(hl:l.length<=12)(r:Int)(lvl:Nat)(S:Sto)(id:Oid)(u:Bool)(hw ver:Nat)(hid:id.1<lvl)(hS:S id=some (.ar 1 (rI l) u hw ver))(srt:List Int)(hsrt:∀ x:List Int,x.Perm l->Zql x l.length->x=srt) :
  Sem Go.Proofs.Tryz.prog ZU lvl [.hd id [] 0 l.length none hw,iI 0,iI l.length,iI r] S (.tu []) (ZT S id (.ar 1 (rI srt) u hw ver)):=by
 have hne:id.1≠lvl:=by omega
 refine Zb WU trivial ?_
 simp only[Vo,EVA,seval]
 refine Z3 (α:=Unit) 0 (fun _ _=>⟨lvl,[(0,.hd id [] 0 l.length none hw),(1,iI 0),(2,iI l.length),(3,iI r),(8,iB true),(9,iB true)],[],S⟩) (fun _ _=>True) () ⟨by simp only[Yj hne,EVA,seval],by (simp only[EVA,seval]) <;> rfl⟩ trivial ?_
 intro _ _ _ _
 have h12:(l.length:Int)-0<=12:=by omega
 simp only[h12,EVA,seval]
 refine⟨by rw[Zd];omega,?_⟩
 simp only[Zig]
 refine QX [] (ZT S id (.ar 1 (rI srt) u hw ver)) (fun i hi=>by unfold ZT;rw[if_neg (fun e=>hne (by rw[<-e];exact hi))]) (by
  rw[Wz hne]
  exact Zqn l hl (lvl+1) (ZF lvl [] S) id u hw ver (by omega) (by rw[Jp hne];exact hS) srt hsrt) ?_
 simp only[EVA,seval]
theorem ZoN(l:List Int)(hl:l.length<=12)(lvl:Nat)(S:Sto)(id:Oid)(u:Bool)(hw ver:Nat)(hid:id.1<lvl)(hS:S id=some (.ar 1 (rI l) u hw ver))(srt:List Int)(hsrt:∀ x:List Int,x.Perm l->Zql x l.length->x=srt) :
  Sem Go.Proofs.Tryz.prog YP lvl [.hd id [] 0 l.length none hw] S (.tu []) (ZT S id (.ar 1 (rI srt) u hw ver)):=by
 have hne:id.1≠lvl:=by omega
 obtain⟨r,hr⟩:=Zkd (v:=(l.length:Int)) (by omega) (by omega)
 refine Zb Zaf trivial ?_
 simp only[XX,EVA,seval,Zj,men]
 refine⟨⟨by show (0:Int)<=l.length;omega,by show (l.length:Int)<=18446744073709551615;omega⟩,Za hr ?_⟩
 simp only[EVA,seval]
 refine QX [] (ZT S id (.ar 1 (rI srt) u hw ver)) (fun i hi=>by unfold ZT;rw[if_neg (fun e=>hne (by rw[<-e];exact hi))]) (by
  rw[Wz hne]
  exact Zqo l hl r (lvl+1) (ZF lvl [] S) id u hw ver (by omega) (by rw[Jp hne];exact hS) srt hsrt) ?_
 simp only[EVA,seval]
end Go.Fd

namespace Go.Fd
set_option maxRecDepth 20000
theorem ZsW{x:List Int}(h:Zql x x.length):x.Pairwise (fun a b=>a<=b):=by
 rw[List.pairwise_iff_getElem]
 intro i j hi hj hij
 have:=h i j hij hj
 rwa [show g0 x i=x[i] by simp [hi],show g0 x j=x[j] by simp [hj]] at this
theorem Zwl{l x:List Int}(hp:x.Perm l)(h:Zql x l.length):x=Zkc (fun a b:Int=>a<b) l:=by
 rw[<-hp.length_eq] at h
 exact Zfg Zp8 ((ZsW h).imp fun h=>by omega) (Zfh Zp8) (hp.trans srtG_perm.symm)
theorem Zwm{n i:Nat}(h:i<n):(Wn n)[i]? = some (i:Int):=by
 unfold Wn
 simp [h]
theorem Zh2{l:List Int}{j:Nat}(h:j<l.length):(rI l)[j]? = some [tv l[j]]:=by
 show (l.map _)[j]? = _
 rw[List.getElem?_map,List.getElem?_eq_getElem h]
 rfl
theorem Zkw(n:Int)(l:List Int)(hl:l.length<=12)(hn:n=l.length)(lvl:Nat)(S:Sto):Sem Go.Proofs.Tryz.prog X9 lvl [iI n,.tr (.sl (rI l))] S (iB (dc (Za4 l.length l))) S:=by
 obtain⟨r,hr⟩:∃ r,r=Zkc (fun a b:Int=>a<b) l:=⟨_,rfl⟩
 have hrl:r.length=l.length:=by rw[hr];exact srtG_perm.length_eq
 refine Zb ZfN trivial ?_
 simp only[Zbd,EVA,seval,Zj,men]
 refine Za (Dt l (by omega)) ?_
 simp only[List.length_map,EVA,seval]
 have s1:=fun S' hS=>ZoN l hl (lvl+1) S' (lvl,288) true l.length 0 (Nat.lt_succ_self _) hS r (fun x hp hu=>by rw[hr];exact Zwl hp hu)
 have hord:Za4 l.length l↔r=Wn l.length:=by rw[hr];exact Zov
 refine ZhK 288 _ (s1 _ ?_) ?_
 ·rw[YX];rfl
 simp only[EVA,seval]
 refine ZB (α:=Unit) l.length (fun j _=>[(14,iI j)]) (fun _ _=>[]) (fun j _=>∀ i:Nat,i<j->r[i]? = some (i:Int)) () (by simp only[EVA,seval]) (by (simp only[EVA,seval]) <;> rfl) (fun i hi=>absurd hi (Nat.not_lt_zero i)) ?_
 intro j _ hj hA
 simp only[List.length_map,EVA,seval]
 refine Zn (fun hlt=>?_) (fun hge=>?_)
 ·have hja:j<l.length:=by omega
  have hjr:j<r.length:=by omega
  have ga:=Zh2 hjr
  simp only[ga,hja,EVA,seval]
  refine Zn (fun hq=>?_) (fun hq=>?_)
  ·have hno:¬ Za4 l.length l:=fun g=>by
    have e:=hord.1 g
    have e2:r[j]? = some (j:Int):=by rw[e];exact Zwm hja
    rw[List.getElem?_eq_getElem hjr] at e2
    have e3:=Option.some.inj e2
    omega
   rw[Zg hno]
  ·exact⟨by rw[Zd];omega,Ze () hja rfl (fun i hi=>by
    rcases Nat.lt_or_eq_of_le (Nat.le_of_lt_succ hi) with h | h
    ·exact hA i h
    ·subst h
     rw[List.getElem?_eq_getElem hjr]
     congr 1
     omega)⟩
 ·have:j=l.length:=by omega
  subst this
  have hyes:Za4 l.length l:=hord.2 (List.ext_getElem? fun i=>by
   by_cases hi:i<l.length
   ·rw[hA i hi,Zwm hi]
   ·rw[List.getElem?_eq_none (by omega),List.getElem?_eq_none (by rw[YU];omega)])
  rw[ZL hyes,hn]
  simp only[EVA,seval]
end Go.Fd

namespace Go.Fd
set_option maxRecDepth 20000
noncomputable def Zq8(sig:List TControl)(t:List TTermStep):TBigraph:=(Zep sig t).getD JW
theorem Zdp{sig:List TControl}{t:List TTermStep}(h:∀ x m,Za5 sig t=some ([x],m) -> ¬ Za4 x.2.length x.2):Zep sig t=none:=by
 unfold Zep
 split
 ·split
  ·rename_i x m he
   rw[if_neg (h x m he)]
  ·rfl
 ·rfl
theorem ZlM{sig:List TControl}{t:List TTermStep}(hs:YJ sig)(hl:t.length<=60){x:QM}{m:Nat}(hr:Za5 sig t=some ([x],m))(ho:Za4 x.2.length x.2):Zep sig t=some (Zq4 x):=by
 unfold Zep
 rw[if_pos ⟨hs,hl⟩,hr]
 simp only
 rw[if_pos ho]
theorem Zeq{sig:List TControl}{t:List TTermStep}(h:¬ (YJ sig/\t.length<=60)):Zep sig t=none:=by
 unfold Zep
 rw[if_neg h]
theorem Qg{sig:List TControl}{t:List TTermStep}(h:Zep sig t=none):Zq8 sig t=JW:=by unfold Zq8;rw[h];rfl
theorem Zjv{sig:List TControl}{t:List TTermStep}{b:TBigraph}(h:Zep sig t=some b):Zq8 sig t=b:=by unfold Zq8;rw[h];rfl
theorem ZlN{l v ini:List Int}{j:Nat}(hl:j<l.length)(hv:j<v.length)(h0:0<=l[j])(hn:l[j]<ini.length):YK (rI (Zh0 l v ini j)) [] l[j].toNat 0 (Tr.v (.int .i64 v[j]))=rI (Zh0 l v ini (j+1)):=by
 rw[ZnP (by rw[XQ];omega),Zh0,show g0 l j=l[j] by simp [hl],show g0 v j=v[j] by simp [hv]]
theorem Zh3(sig:List TControl)(t:List TTermStep)(hn:sig.length<=4294967296)(hbs:∀ y∈sig,Zr 4294967296 y)(hlt:t.length<=4294967296)(hbt:∀ y∈t,ZA 4294967296 y)(lvl:Nat)(S:Sto):Sem Go.Proofs.Tryz.prog Q4 lvl [.tr (.sl (sig.map Zh)),.tr (.sl (t.map Zf))] S (.tu [Zi (Zq8 sig t),iB (Zep sig t).isSome]) S:=by
 refine Zb Zd0 (by simp [Zi,low,men,Zj]) ?_
 simp only[DH,EVA,seval,Zj,men]
 refine Za (VY sig (by omega) (fun y hy=>Ds (hbs y hy))) ?_
 cases hsg:dc (YJ sig)
 ·have e:=Zeq (t:=t) fun g=>dc_not.1 hsg g.1
  rw[e,Qg e]
  simp only[Option.isSome_none,EVA,seval]
  try rfl
 have hs:=dc_iff.1 hsg
 simp only[List.length_map,EVA,seval,Zj,men]
 refine Zn (fun hlo=>?_) (fun hlo=>?_)
 ·have e:=Zeq (sig:=sig) (t:=t) fun g=>by have:=g.2;omega
  rw[e,Qg e]
  simp only[Option.isSome_none,seval]
  try rfl
 have hl60:t.length<=60:=by omega
 refine Za (Zkt sig t hn hbs hbt hs hl60) ?_
 cases hr:Za5 sig t with
 | none =>
  have e:Zep sig t=none:=Zdp fun x m g=>by rw[hr] at g;cases g
  rw[e,Qg e]
  simp only[Option.isSome_none,EVA,seval]
  try rfl
 | some z =>
  rw[Zjs hr]
  obtain⟨L,m⟩:=z
  have hz:=ZbI hs (j:=t.length) (Nat.le_refl _) (by rw[List.take_length];exact hr)
  simp only[Option.isSome_some,List.length_map,EVA,seval]
  refine Zn (fun h1=>?_) (fun h1=>?_)
  ·obtain⟨x,rfl⟩:∃ x,L=[x]:=Zjr (by have:=of_decide_eq_false h1;omega)
   have hp:=hz.1 x (by simp)
   have h4:=hp.big.sitesL
   have hlen:=hp.len
   have ga:([x].map ptC)[0]? = some (ptC x):=rfl
   have hf:(decide ¬ ((([x]:List QM).length:Nat):Int)=1)=false:=h1
   have q:=Zkw (x.2.length:Int) x.2 (by omega) rfl
   simp only[ptC,Zc,List.map_cons,List.map_nil,List.length_map,List.length_cons,List.length_nil,EVA,seval,Zj,men]
   refine Za q ?_
   cases ho:dc (Za4 x.2.length x.2)
   ·have e:Zep sig t=none:=Zdp fun y m' g=>by
     rw[hr] at g
     cases g
     exact dc_not.1 ho
    rw[e,Qg e]
    simp only[Option.isSome_none,EVA,seval]
    try rfl
   have hord:=dc_iff.1 ho
   have e:=ZlM hs hl60 hr hord
   rw[e,Zjv e]
   have qo:=XO x.1 (QD (by omega) (Xp hp.big))
   simp only[Zc,List.map_cons,List.map_nil] at qo
   simp only[Option.isSome_some,EVA,seval,Zj,men]
   refine Za qo ?_
   simp only[Zi,List.length_map,EVA,seval]
   refine ZB (α:=Unit) x.2.length (fun j _=>[(59,iI j)]) (fun j _=>[(1697,.ar 1 (rI (Zh0 x.2 x.1.sites x.1.sites j)) true x.1.sites.length 0)]) (fun _ _=>True) () (by simp only[EVA,seval]) (by (simp only[Zh0,EVA,seval]) <;> rfl) trivial ?_
   intro j _ hj _
   simp only[List.length_map,EVA,seval]
   refine Zn (fun hlt2=>?_) (fun hge=>?_)
   ·have hja:j<x.2.length:=by omega
    have hjs:j<x.1.sites.length:=by omega
    have gk:=Zh2 hja
    have gv:=Zh2 hjs
    have hm:=Zjk hord (List.getElem_mem hja)
    have hst:=ZlN (ini:=x.1.sites) hja hjs hm.1 (by omega)
    have hkl:x.2[j].toNat<x.1.sites.length:=by omega
    have gp:=Zh2 (l:=Zh0 x.2 x.1.sites x.1.sites j) (j:=x.2[j].toNat) (by rw[XQ];exact hkl)
    simp only[gk,gv,gp,hst,hkl,List.getElem?_cons_zero,EVA,seval]
    exact⟨hm.1,by rw[Zd];omega,Ze () hja rfl trivial⟩
   ·have:j=x.2.length:=by omega
    subst this
    simp only[XQ,EVA,seval]
    try rfl
  ·have e:Zep sig t=none:=Zdp fun x m' g=>by
    rw[hr] at g
    cases g
    simp at h1
   rw[e,Qg e]
   simp only[Option.isSome_none,seval]
   try rfl
end Go.Fd

namespace Go.Fd
set_option maxRecDepth 20000
theorem Zkx(sig:List TControl)(t:List TTermStep)(hn:sig.length<=4294967296)(hbs:∀ y∈sig,Zr 4294967296 y)(hlt:t.length<=4294967296)(hbt:∀ y∈t,ZA 4294967296 y)(lvl:Nat)(S:Sto):Sem Go.Proofs.Tryz.prog X7 lvl [.tr (.sl (sig.map Zh)),.tr (.sl (t.map Zf))] S (.tu [Zi (Zq8 sig t),iB (Zep sig t).isSome]) S:=by
 refine Zb ZfL (by simp [Zi,low,men,Zj]) ?_
 simp only[Zbb,EVA,seval,Zj,men]
 refine Za (Zi4 sig (by omega) (fun y hy=>Ds (hbs y hy))) ?_
 cases hsg:dc (YJ sig)
 ·have e:=Zeq (t:=t) fun g=>dc_not.1 hsg g.1
  rw[e,Qg e]
  simp only[Option.isSome_none,EVA,seval]
  try rfl
 have hs:=dc_iff.1 hsg
 simp only[List.length_map,EVA,seval,Zj,men]
 refine Zn (fun hlo=>?_) (fun hlo=>?_)
 ·have e:=Zeq (sig:=sig) (t:=t) fun g=>by have:=g.2;omega
  rw[e,Qg e]
  simp only[Option.isSome_none,seval]
  try rfl
 have hl60:t.length<=60:=by omega
 refine Za (ZoK sig t hn hbs hbt hs hl60) ?_
 cases hr:Za5 sig t with
 | none =>
  have e:Zep sig t=none:=Zdp fun x m g=>by rw[hr] at g;cases g
  rw[e,Qg e]
  simp only[Option.isSome_none,EVA,seval]
  try rfl
 | some z =>
  rw[ZlL hr]
  obtain⟨L,m⟩:=z
  have hz:=ZbI hs (j:=t.length) (Nat.le_refl _) (by rw[List.take_length];exact hr)
  simp only[Option.isSome_some,List.length_map,EVA,seval]
  refine Zn (fun h1=>?_) (fun h1=>?_)
  ·obtain⟨x,rfl⟩:∃ x,L=[x]:=Zjr (by have:=of_decide_eq_false h1;omega)
   have hp:=hz.1 x (by simp)
   have h4:=hp.big.sitesL
   have hlen:=hp.len
   have ga:([x].map ptC)[0]? = some (ptC x):=rfl
   have hf:(decide ¬ ((([x]:List QM).length:Nat):Int)=1)=false:=h1
   have q:=ZmA x.2 (x.2.length:Int) (by omega) rfl
   simp only[ptC,Zc,List.map_cons,List.map_nil,List.length_map,List.length_cons,List.length_nil,EVA,seval,Zj,men]
   refine Za q ?_
   cases ho:dc (Za4 x.2.length x.2)
   ·have e:Zep sig t=none:=Zdp fun y m' g=>by
     rw[hr] at g
     cases g
     exact dc_not.1 ho
    rw[e,Qg e]
    simp only[Option.isSome_none,EVA,seval]
    try rfl
   have hord:=dc_iff.1 ho
   have e:=ZlM hs hl60 hr hord
   rw[e,Zjv e]
   have qo:=Zmf sig x.1 hp.big
   simp only[Zc,List.map_cons,List.map_nil] at qo
   simp only[Option.isSome_some,EVA,seval,Zj,men]
   refine Za qo ?_
   simp only[Zi,List.length_map,EVA,seval]
   obtain⟨R,hR⟩:∃ R,R=List.replicate x.2.length (0:Int):=⟨_,rfl⟩
   have hRl:R.length=x.2.length:=by rw[hR,List.length_replicate]
   have hrep:rI R=List.replicate x.2.length [Tr.v (Value.int .i64 0)]:=by rw[hR];show List.map _ _=_;rw[List.map_replicate]
   refine⟨by omega,?_⟩
   refine ZB (α:=Unit) x.2.length (fun j _=>[(11,iI j)]) (fun j _=>[(1888,.ar 1 (rI (Zh0 x.2 x.1.sites R j)) true x.2.length 0)]) (fun _ _=>True) () (by simp only[EVA,seval]) (by (simp only[Zh0,hrep,EVA,seval]) <;> rfl) trivial ?_
   intro j _ hj _
   simp only[List.length_map,EVA,seval]
   refine Zn (fun hlt2=>?_) (fun hge=>?_)
   ·have hja:j<x.2.length:=by omega
    have hjs:j<x.1.sites.length:=by omega
    have gk:=Zh2 hja
    have gv:=Zh2 hjs
    have hm:=Zjk hord (List.getElem_mem hja)
    have hst:=ZlN (ini:=R) hja hjs hm.1 (by omega)
    have hkl:x.2[j].toNat<x.2.length:=by omega
    have gp:=Zh2 (l:=Zh0 x.2 x.1.sites R j) (j:=x.2[j].toNat) (by rw[XQ];omega)
    simp only[gk,gv,gp,hst,hkl,hjs,List.getElem?_cons_zero,EVA,seval]
    exact⟨hm.1,by rw[Zd];omega,Ze () hja rfl trivial⟩
   ·have:j=x.2.length:=by omega
    subst this
    have hpa:=Zp9 (v:=x.1.sites) (a:=R) (b:=x.1.sites) hord hRl (by omega)
    rw[hpa]
    simp only[XQ,seval]
    exact⟨hlen,rfl⟩
  ·have e:Zep sig t=none:=Zdp fun x m' g=>by
    rw[hr] at g
    cases g
    simp at h1
   rw[e,Qg e]
   simp only[Option.isSome_none,seval]
   try rfl
end Go.Fd

namespace Go.Fd
set_option maxRecDepth 20000
theorem Zqp{sig:List TControl}{t:List TTermStep}{b:TBigraph}(h:Zep sig t=some b):YJ sig/\t.length<=60/\∃ z,Za5 sig t=some z:=by
 unfold Zep at h
 split at h
 ·rename_i g
  refine⟨g.1,g.2,?_⟩
  cases hr:Za5 sig t with
  | none=>rw[hr] at h;cases h
  | some z=>exact⟨z,rfl⟩
 ·cases h
end Go.Fd

namespace Go.Fd
set_option maxRecDepth 20000
def ZoY(t:List TTermStep)(j:Nat):Nat:=((t[j]?).map fun s=>Je s.kind_).getD 0
theorem Zer{t:List TTermStep}{j:Nat}(h:j<t.length):ZoY t j=Je t[j].kind_:=by simp [ZoY,h]
def stS(t:List TTermStep):Nat->List Int×List Int
 | 0=>([],[])
 | j+1=>((stS t j).1++[if 0<ZoY t j then g0 (stS t j).2 ((stS t j).2.length-ZoY t j) else (j:Int)],(stS t j).2.take ((stS t j).2.length-ZoY t j)++[if 0<ZoY t j then g0 (stS t j).2 ((stS t j).2.length-ZoY t j) else (j:Int)])
theorem stS_one{t:List TTermStep}:∀{j:Nat},(stS t j).1.length=j
 | 0=>rfl
 | j+1=>by simp [stS,stS_one (j:=j)]
theorem Zh4{sig:List TControl}{t:List TTermStep}:∀{j:Nat}{z:Stk},j<=t.length->Za5 sig (t.take j)=some z->(stS t j).2.length=z.1.length
 | 0,z,_,h=>by
  rw[List.take_zero,ZlE] at h
  cases h;rfl
 | j+1,z,hj,h=>by
  rw[Zaz (by omega)] at h
  cases hp:Za5 sig (t.take j) with
  | none=>rw[hp] at h;cases h
  | some z0 =>
   rw[hp] at h
   have ih:=Zh4 (j:=j) (by omega) hp
   have hst:stT sig z0 t[j]=some z:=h
   unfold stT at hst
   split at hst
   ·rename_i hA
    split at hst
    ·cases hst
     have e:=Zer (t:=t) (j:=j) (by omega)
     simp only[stS,List.length_append,List.length_take,List.length_cons,List.length_nil,ih,e]
    ·cases hst
   ·cases hst
theorem ZoO{sig:List TControl}{t:List TTermStep}{y:Stk}(h:Za5 sig t=some y){j:Nat}(hj:j<t.length):∃ z,Za5 sig (t.take j)=some z/\stepOK sig t[j]/\Je t[j].kind_<=z.1.length:=by
 cases hp:Za5 sig (t.take j) with
 | none=>rw[ZcM hp] at h;cases h
 | some z =>
  refine⟨z,rfl,?_⟩
  refine Classical.byContradiction fun g=>?_
  have hb:=Zfx (sig:=sig) (z:=z) (s:=t[j]) g
  have hs:=Zaz (sig:=sig) hj
  rw[hp] at hs
  have:Za5 sig (t.take (j+1))=none:=by rw[hs];exact hb
  rw[ZcM this] at h
  cases h
structure goodT (t:List TTermStep):Prop where
 len:t.length<=60
 tak:∀ j,j<t.length->ZoY t j<=(stS t j).2.length
 sml:∀ j,j<=t.length->(stS t j).2.length<=60
 ned:∀ j (h:j<t.length),Zjp t[j].kind_=Je t[j].kind_
theorem ZlO{sig:List TControl}{t:List TTermStep}{b:TBigraph}(h:Zep sig t=some b):goodT t:=by
 obtain⟨hs,hl,y,hr⟩:=Zqp h
 refine⟨hl,fun j hj=>?_,fun j hj=>?_,fun j hj=>?_⟩
 ·obtain⟨z,h1,h2,h3⟩:=ZoO hr hj
  rw[Zh4 (by omega) h1,Zer hj]
  exact h3
 ·rcases Nat.lt_or_eq_of_le hj with hj2 | hj2
  ·obtain⟨z,h1,h2,h3⟩:=ZoO hr hj2
   have:=(ZbI hs hj h1).2.1
   rw[Zh4 hj h1]
   omega
  ·subst hj2
   have h1:Za5 sig (t.take t.length)=some y:=by rw[List.take_length];exact hr
   have:=(ZbI hs (Nat.le_refl _) h1).2.1
   rw[Zh4 (Nat.le_refl _) h1]
   omega
 ·obtain⟨z,h1,h2,h3⟩:=ZoO hr hj
  exact ZlH h2
theorem Zwn{l:List Int}{n:Nat}:cut (rI l) 0 (n-0)=rI (l.take n):=by
 rw[cut,Nat.sub_zero,List.drop_zero]
 exact(List.map_take ..).symm
theorem Zjw(t:List TTermStep)(h:goodT t)(lvl:Nat)(S:Sto):Sem Go.Proofs.Tryz.prog XA lvl [.tr (.sl (t.map Zf))] S (.ow 1 (rI (stS t t.length).1) true) S:=by
 have hl:=h.len
 refine Zb ZeW trivial ?_
 simp only[Zad,EVA,seval]
 refine ZB (α:=Unit) t.length (fun j _=>[(3,.hd (lvl,256) [] 0 j none j),(4,.tr (.sl (rI (stS t j).2))),(5,iI j)]) (fun j _=>[(256,.ar 1 (rI (stS t j).1) true j 0)]) (fun _ _=>True) () (by simp only[EVA,seval]) (by (simp only[stS,EVA,seval]) <;> rfl) trivial ?_
 intro j _ hj _
 have hsm:=h.sml j hj
 have h1:=stS_one (t:=t) (j:=j)
 simp only[List.length_map,EVA,seval]
 refine Zn (fun hlt=>?_) (fun hge=>?_)
 ·have hja:j<t.length:=by omega
  have ga:=W9 (c:=Zf) hja
  have htk:=h.tak j hja
  obtain⟨T,hT⟩:∃ T,T=ZoY t j:=⟨_,rfl⟩
  have hT2:Je t[j].kind_=T:=by rw[hT,Zer hja]
  have qt:=Zfz t[j].kind_
  rw[hT2] at qt
  rw[<-hT] at htk
  obtain⟨n,hn⟩:∃ n,n=(stS t j).2.length-T:=⟨_,rfl⟩
  have hn2:(((stS t j).2.length:Int)-(T:Int))=(n:Int):=by omega
  have hst:stS t (j+1)=((stS t j).1++[if 0<T then g0 (stS t j).2 n else (j:Int)],(stS t j).2.take n++[if 0<T then g0 (stS t j).2 n else (j:Int)]):=by rw[stS,<-hT,<-hn]
  obtain⟨Z,hZ⟩:∃ Z,Z=stS t j:=⟨_,rfl⟩
  rw[<-hZ] at hn hn2 htk hst hsm h1 ⊢
  simp only[ga,Zf,EVA,seval,Zj,men]
  refine Za qt ?_
  simp only[hn2,List.length_map,EVA,seval,Zj,men]
  refine⟨by rw[Zd];omega,?_⟩
  by_cases h0:0<T
  ·have hlt2:(n:Int)<(Z.2.length:Int):=by omega
   have hnl:n<Z.2.length:=by omega
   have gn:=Zh2 hnl
   simp only[hlt2,gn,List.length_map,EVA,seval,Zj,men]
   refine⟨fun g=>g.elim,by omega,by omega,?_⟩
   rw[Zwn]
   refine Za (ZfB (Z.2.take n) (by rw[List.length_take];omega)) ?_
   simp only[List.length_map,EVA,seval]
   have e1:∀ L:List Int,rI L++[[Tr.v (Value.int .i64 Z.2[n])]]=rI (L++[Z.2[n]]):=fun L=>by rw[Yx];rfl
   rw[if_pos h0,show g0 Z.2 n=Z.2[n] by simp [hnl]] at hst
   refine⟨by rw[List.length_take];omega,by rw[e1,List.length_map,List.length_append];rfl,h1.symm,by omega,by rw[Zd];omega,Ze () hja ?_ trivial⟩
   rw[hst,e1,e1]
   rfl
  ·have hlt2:¬ (n:Int)<(Z.2.length:Int):=by omega
   simp only[hlt2,EVA,seval]
   refine⟨fun g=>g.elim,by omega,by omega,?_⟩
   rw[Zwn]
   refine Za (ZfB (Z.2.take n) (by rw[List.length_take];omega)) ?_
   simp only[List.length_map,EVA,seval]
   have e1:∀ L:List Int,rI L++[[Tr.v (Value.int .i64 j)]]=rI (L++[(j:Int)]):=fun L=>by rw[Yx];rfl
   rw[if_neg h0] at hst
   refine⟨by rw[List.length_take];omega,by rw[e1,List.length_map,List.length_append];rfl,h1.symm,by omega,by rw[Zd];omega,Ze () hja ?_ trivial⟩
   rw[hst,e1,e1]
   rfl
 ·have:j=t.length:=by omega
  subst this
  simp only[EVA,seval]
  exact stS_one.symm
end Go.Fd

namespace Go.Fd
set_option maxRecDepth 20000
theorem Zh5(t:List TTermStep)(h:goodT t)(lvl:Nat)(S:Sto):Sem Go.Proofs.Tryz.prog Q6 lvl [.tr (.sl (t.map Zf))] S (.ow 1 (rI (stS t t.length).1) true) S:=by
 have hl:=h.len
 refine Zb Zd1 trivial ?_
 simp only[DI,List.length_map,EVA,seval]
 refine ZB (α:=Nat×Nat) t.length (fun j w=>[(3,.hd (lvl,288) [] 0 j none j),(4,.hd (lvl,320) [] 0 (stS t j).2.length none w.1),(13,iI j)]) (fun j w=>[(288,.ar 1 (rI (stS t j).1) true j 0),(320,.ar 1 (rI (stS t j).2) true w.1 w.2)]) (fun j w=>(stS t j).2.length<=w.1/\w.1<=100) (0,0) (by simp only[EVA,seval]) (by (simp only[stS,EVA,seval]) <;> rfl) (by simp [stS]) ?_
 intro j w hj hw
 have hsm:=h.sml j hj
 have h1:=stS_one (t:=t) (j:=j)
 simp only[List.length_map,EVA,seval]
 refine Zn (fun hlt=>?_) (fun hge=>?_)
 ·have hja:j<t.length:=by omega
  have ga:=W9 (c:=Zf) hja
  have htk:=h.tak j hja
  have hsm2:=h.sml (j+1) (by omega)
  have hnd:=h.ned j hja
  obtain⟨T,hT⟩:∃ T,T=ZoY t j:=⟨_,rfl⟩
  have hT2:Je t[j].kind_=T:=by rw[hT,Zer hja]
  have qn:=Zfy t[j].kind_ t[j].control t[j].site t[j].names
  rw[hnd,hT2] at qn
  rw[<-hT] at htk
  obtain⟨n,hn⟩:∃ n,n=(stS t j).2.length-T:=⟨_,rfl⟩
  have hn2:(((stS t j).2.length:Int)-(T:Int))=(n:Int):=by omega
  have hst:stS t (j+1)=((stS t j).1++[if 0<T then g0 (stS t j).2 n else (j:Int)],(stS t j).2.take n++[if 0<T then g0 (stS t j).2 n else (j:Int)]):=by rw[stS,<-hT,<-hn]
  obtain⟨Z,hZ⟩:∃ Z,Z=stS t j:=⟨_,rfl⟩
  rw[<-hZ] at hn hn2 htk hst hsm h1 hw ⊢
  simp only[ga,Zf,EVA,seval,Zj,men]
  refine Za qn ?_
  by_cases h0:0<T
  ·have h0i:(0:Int)<(T:Int):=by omega
   have hnl:n<Z.2.length:=by omega
   have gn:=Zh2 hnl
   simp only[h0i,hn2,gn,hnl,List.length_map,EVA,seval]
   have e1:∀ L:List Int,rI L++[[Tr.v (Value.int .i64 Z.2[n])]]=rI (L++[Z.2[n]]):=fun L=>by rw[Yx];rfl
   have e2:List.take n (rI Z.2)=rI (Z.2.take n):=(List.map_take ..).symm
   rw[if_pos h0,show g0 Z.2 n=Z.2[n] by simp [hnl]] at hst
   have e3:(stS t (j+1)).2.length=n+1:=by rw[hst];simp;omega
   refine⟨by rw[Zd];omega,by rw[Zd];omega,by omega,by rw[e2,List.length_map,List.length_take];omega,by omega,h1.symm,by omega,by rw[Zd];omega,Ze (max w.1 (n+1),w.2+1) hja ?_ ⟨by rw[e3];exact Nat.le_max_right _ _,by show max w.1 (n+1)<=100;omega⟩⟩
   rw[e3,hst,e1,e2,e1]
   rfl
  ·have h0i:¬ (0:Int)<(T:Int):=by omega
   simp only[h0i,List.length_map,EVA,seval]
   have e1:∀ L:List Int,rI L++[[Tr.v (Value.int .i64 j)]]=rI (L++[(j:Int)]):=fun L=>by rw[Yx];rfl
   have hnz:n=Z.2.length:=by omega
   rw[if_neg h0,hnz,List.take_length] at hst
   have e3:(stS t (j+1)).2.length=Z.2.length+1:=by rw[hst];simp
   refine⟨by omega,h1.symm,by omega,by rw[Zd];omega,Ze (max w.1 (Z.2.length+1),w.2) hja ?_ ⟨by rw[e3];exact Nat.le_max_right _ _,by show max w.1 (Z.2.length+1)<=100;omega⟩⟩
   rw[e3,hst,e1,e1]
   rfl
 ·have:j=t.length:=by omega
  subst this
  simp only[EVA,seval]
  exact stS_one.symm
end Go.Fd

namespace Go.Fd
set_option maxRecDepth 20000
open Classical in
noncomputable def ZM(sig:List TControl)(t:List TTermStep):List Int:=if (Zep sig t).isSome then (stS t t.length).1 else []
noncomputable def Uq(sig:List TControl)(t:List TTermStep):Bool:=(Zep sig t).isSome
theorem ZcN(sig:List TControl)(t:List TTermStep)(hn:sig.length<=4294967296)(hbs:∀ y∈sig,Zr 4294967296 y)(hlt:t.length<=4294967296)(hbt:∀ y∈t,ZA 4294967296 y)(lvl:Nat)(S:Sto):Sem Go.Proofs.Tryz.prog Q0 lvl [.tr (.sl (sig.map Zh)),.tr (.sl (t.map Zf))] S (.tu [.ow 1 (rI (ZM sig t)) true,iB (Uq sig t)]) S:=by
 unfold ZM Uq
 have q:=Zkx sig t hn hbs hlt hbt
 obtain⟨V,hV⟩:∃ V,V=Zq8 sig t:=⟨_,rfl⟩
 rw[<-hV] at q
 refine Zb ZdY (by simp [low,men,Zj]) ?_
 simp only[DF,EVA,seval,Zj,men]
 refine Za q ?_
 cases hv:Zep sig t with
 | none =>
  simp only[Zi,Option.isSome_none,Bool.false_eq_true,List.length_map,EVA,seval]
  try rfl
 | some b =>
  simp only[Zi,Option.isSome_some,List.length_map,EVA,seval,Zj,men]
  refine Za (Zjw t (ZlO hv)) ?_
  simp only[EVA,seval]
  try rfl
theorem Ur(sig:List TControl)(t:List TTermStep)(hn:sig.length<=4294967296)(hbs:∀ y∈sig,Zr 4294967296 y)(hlt:t.length<=4294967296)(hbt:∀ y∈t,ZA 4294967296 y)(lvl:Nat)(S:Sto):Sem Go.Proofs.Tryz.prog Y8 lvl [.tr (.sl (sig.map Zh)),.tr (.sl (t.map Zf))] S (.tu [.ow 1 (rI (ZM sig t)) true,iB (Uq sig t)]) S:=by
 unfold ZM Uq
 have q:=Zh3 sig t hn hbs hlt hbt
 obtain⟨V,hV⟩:∃ V,V=Zq8 sig t:=⟨_,rfl⟩
 rw[<-hV] at q
 refine Zb ZdZ (by simp [low,men,Zj]) ?_
 simp only[DG,EVA,seval,Zj,men]
 refine Za q ?_
 cases hv:Zep sig t with
 | none =>
  simp only[Zi,Option.isSome_none,Bool.false_eq_true,List.length_map,EVA,seval]
  try rfl
 | some b =>
  simp only[Zi,Option.isSome_some,List.length_map,EVA,seval,Zj,men]
  refine Za (Zh5 t (ZlO hv)) ?_
  simp only[EVA,seval]
  try rfl
end Go.Fd
