/-
  FOUNDATION 30: append: the operation. Own work.
-/
import Derived.Test.YtcpcocfmpcmbpaaGreatDoorT01
import Derived.Lib.ConvBytes
import Derived.Laws.BytesArg
import Derived.Lib.SliceRun
set_option linter.all false
namespace Go.Fd
variable [Tabs]
section
variable {P:Program} {F:Fr} {G G':Gh} {S S':Zb} {st st1 st2:St} {a:Act} {w w':World} {C:ZJ} {oper:Oper} {D D2:Zd->Prop}
theorem ScR.flat{es:Row}(h:ScR es):WP es:=fun e he t ht=>by
 have:=h e he t ht;cases t with
 | v x=>trivial
 | sl z=>simp [isSc] at this
theorem Zrd(h:Sim F G st a w){items:Row}{N:Zn->Option (Nat×Nat)}{ui:Bool}{k key:Nat}{yv xv:Value}{news:List Value}{t ty e:TypeId}{i:TypeInfo}{z:Value}{d:Option Nat}(it:IT G st st1 w D items N ui k yv news)
  (ht:P.underlying t=some (.slice e)) (hi:P.info? e=some i) (hz:i.zero=some z) (hik:i.size=k) (hzk:z.cells.size=k) (hby:i.bytes<=1024) (hk0:0<k) (hd:∀ y,d=some y->y<F.nt)
  {zs:Row} (hx:VR G st.sto w (.cs zs) xv) (hor:zs=[]\/items≠[]) (hb:zs.length+items.length<=bigN) (hkz:ZC k zs) (hkey:st.sto (st.lvl,key)=none) (hfl:zs=[]\/ui=false\/ScR zs) :
  ∃ v w' G',ZaA P t ty xv yv w v w'/\Sim F G' { Zp st1 (st.lvl,key) (.ar k (zs++items) ui (zs.length+items.length) 0) with env:=ptd d (.hd (st.lvl,key) [] 0 (zs.length+items.length) none (zs.length+items.length)) st1.env } (a.put d v) w':=by
 subst hik;obtain⟨⟨ad,rfl⟩,hrd⟩:=hx;by_cases hit:items=[]
 ·subst hit;have hzs:zs=[]:=hor.resolve_right (fun h=>h rfl);subst hzs;have hnews:news=[]:=Uay (by simpa using it.fc.1);subst hnews;let id:Zd:=(st.lvl,key);let G':Gh:=fun j=>if j=id then fun _=>none else G j
  have hG:∀ p,G' id p=none:=fun p=>by simp [G']
  have hnd:¬ D id:=fun hD=>by have:=it.kl.was id hD;rw[hkey] at this;cases this
  have hno:∀ b,¬ ZM G' id (.ar i.size [] ui 0 0) b:=fun b ⟨p,c,_,_,hg⟩=>by rw[hG] at hg;cases hg
  refine⟨_,w,G',ZiV ht hi it.fc (Ual _),?_⟩
  exact(h.turn it.kl (id:=id) (ob':=.ar i.size [] ui 0 0) (d:=d) (x:=.hd id [] 0 0 none 0) (G':=G') (w':=w) hnd (.inl rfl) (fun j hj=>by simp [G',hj]) (Ual _) (fun _ _ _=>rfl) (fun b ho=>absurd ho (hno b)) (fun ob ho=>by rw[hkey] at ho;cases ho)
   rfl rfl rfl (fun t=>⟨Ual _,fun e he=>by simp at he,by rw[hG];simp [Vx],fun p es' _ hg=>by
    obtain⟨rfl,rfl⟩:=Qi hg;unfold Z7;rw[hG],fun p p' b c c' _ _ _ _ g1 _=>by rw[hG] at g1;cases g1⟩) (fun _ he=>by cases he) hd
   (fun t=>⟨⟨_,_,rfl,Ual _⟩,i.size,[],ui,0,0,by unfold Zo;rw[if_pos rfl],Ual _,fun _=>⟨[],i.size,ad,0,rfl,fun _=>rfl,fun e he=>by simp at he,rfl,Ual _,fun m hm=>by simp at hm,fun _ _=>by rw[hG];simp [Vx],.inl rfl⟩⟩)).1
 ·have hm:0<items.length:=UbP fun h0=>hit (Uay h0);obtain⟨olds,hfc,hold⟩:=hrd.fc hk0 hkz;have hrun:=ZeY (P:=P) (ty:=ty) ht hi hz hfc it.fc (by omega) hb hby;have hge:=grownCap_ge w (zs.length+items.length) zs.length e;have holl:olds.length=zs.length*i.size:=hfc.1
  let N':Zn->Option (Nat×Nat):=fun p=>match p with
   | (i,f)::q=>if i<zs.length then none else N ((i-zs.length,f)::q)
   | []=>none
  have hNo:∀{i f:Nat} {q:Zn},i<zs.length->N' ((i,f)::q)=none:=fun hi=>by simp [N',hi]
  have hNn:∀{i f:Nat} {q:Zn},N' ((zs.length+i,f)::q)=N ((i,f)::q):=fun {i f q}=>by show (if zs.length+i<zs.length then _ else _)=_;rw[if_neg (by omega),Ubb]
  have split:∀{p:Zn} {b1 c1:Nat},p≠[]->(getp (zs++items) p).isSome=true->N' p=some (b1,c1) ->
    ∃ i f q,p=(zs.length+i,f)::q/\(getp items ((i,f)::q)).isSome=true/\N ((i,f)::q)=some (b1,c1):=by
   intro p b1 c1 hp hss hg;cases p with
   | nil=>exact absurd rfl hp
   | cons cd q =>
    obtain⟨i,f⟩:=cd;obtain⟨es2,he2⟩:=Uan.1 hss;rw[ZeX] at he2;by_cases hi:i<zs.length
    ·rw[hNo hi] at hg;cases hg
    ·rw[if_neg hi] at he2;obtain⟨m,rfl⟩:∃ m,i=zs.length+m:=⟨i-zs.length,by omega⟩;rw[hNn] at hg;rw[show zs.length+m-zs.length=m from by omega] at he2;exact⟨m,f,q,rfl,by rw[he2];rfl,hg⟩
  have hflat:ui=true->WP zs:=fun hu=>by
   rcases hfl with rfl | h | h
   ·intro e he;simp at he
   ·rw[hu] at h;cases h
   ·exact h.flat
  have hcat:∀{j:Nat} {x:Value},olds[j]? = some x->(olds.toArray++news.toArray++Builtin.zeroCells z.cells (grownCap w (zs.length+items.length) zs.length e-(zs.length+items.length)))[j]? = some x:=fun {j x} hj=>by have hjl:=(Uad.1 hj).1;rw[UbA,UaK (by simpa using hjl)];simpa using hj
  have hcat2:∀{j:Nat} {x:Value},news[j]? = some x->(olds.toArray++news.toArray++Builtin.zeroCells z.cells (grownCap w (zs.length+items.length) zs.length e-(zs.length+items.length)))[zs.length*i.size+j]? = some x:=fun {j x} hj=>by have hjl:=(Uad.1 hj).1;rw[UbA,Array.getElem?_append_right (by simp;omega),UaK (by simp;omega)];simp only[Ubv,holl,Ubb];simpa using hj
  obtain⟨G',hG'⟩:=ZeV h it.kl (d:=d) (key:=key) (k:=i.size) (c:=grownCap w (zs.length+items.length) zs.length e) (es:=zs++items) (u:=ui) (ty:=e) (N:=N') hkey hd
   (w':=w.drew.alloc (.cells (olds.toArray++news.toArray++Builtin.zeroCells z.cells (grownCap w (zs.length+items.length) zs.length e-(zs.length+items.length))) e))
   ⟨by simp,fun b hb=>heap_alloc_old w.drew _ b hb,rfl,rfl,rfl⟩ (heap_alloc_new w.drew _)
   (by simp only[Array.size_append,Ubv,size_zeroCells,hzk,holl,it.fc.1,<-UaP];congr 1;omega) (by rw[Uac];exact hge) (ZeU (by unfold bigN at *;omega))
   (fun e he=>by
    rcases Uaq.1 he with he | he
    ·exact hkz e he
    ·exact it.un e he)
   (fun i0 e0 f t0 h1 h2=>by
    by_cases hil:i0<zs.length
    ·rw[Uav hil] at h1;obtain⟨x,hx,hr⟩:=hold i0 e0 f t0 h1 h2;exact⟨x,hcat hx,Rds.cell (Rds.mono it.kl.av (fun _ _=>rfl) hr) fun hu=>hflat hu e0 (Uaf h1) t0 (Uaf h2)⟩
    ·obtain⟨m,rfl⟩:∃ m,i0=zs.length+m:=⟨i0-zs.length,by omega⟩;rw[Uas (by omega),show zs.length+m-zs.length=m from by omega] at h1;cases ui with
     | true =>
      obtain⟨x,hx,hr⟩:=it.cl rfl m e0 f t0 h1 h2;refine⟨x,by rw[UaP,Ubc];exact hcat2 hx,?_⟩;cases t0 with
      | v y=>exact hr
      | sl zz =>
       simp only[Jl,if_true,List.nil_append] at hr ⊢;rw[hNn];exact hr
     | false =>
      obtain⟨x,hx,hr⟩:=it.rd m e0 f t0 h1 h2;exact⟨x,by rw[UaP,Ubc];exact hcat2 hx,Rds.cell hr fun hu=>by cases hu⟩)
   (fun hu i0 f e0 zz q es2 h1 h2 h3=>by
    by_cases hil:i0<zs.length
    ·rw[Uav hil] at h1;have:=hflat hu e0 (Uaf h1) _ (Uaf h2);simp only[Y6] at this;subst this;obtain⟨rfl,rfl⟩:=Qi h3;unfold Z7;simp only[hNo hil]
    ·obtain⟨m,rfl⟩:∃ m,i0=zs.length+m:=⟨i0-zs.length,by omega⟩;rw[Uas (by omega),show zs.length+m-zs.length=m from by omega] at h1;have:=it.sub hu m f e0 zz q es2 h1 h2 h3;rw[hu];exact Wc (G:=fun _=>N) (id:=(0,0)) (p:=(m,f)::q) (A:=fun _=>False) hNn (fun _ r=>hNn) (fun hu2=>by cases hu2) (fun b hb=>hb.elim) (fun h=>by cases h) (fun _ _ _=>rfl) this)
   (fun hu p b1 c1 hp hss hg=>by
    obtain⟨m,f,q,rfl,r1,r2⟩:=split hp hss hg;exact it.src hu _ b1 c1 (by simp) r1 r2)
   (fun hu p p' b1 c1 c2 hp hp' h1 h2 g1 g2=>by
    obtain⟨m,f,q,rfl,r1,r2⟩:=split hp h1 g1;obtain⟨m',f',q',rfl,s1,s2⟩:=split hp' h2 g2;have:=it.inj hu _ _ b1 c1 c2 (by simp) (by simp) r1 s1 r2 s2;simp only[List.cons.injEq,UbJ] at this;rw[this.1.1,this.1.2,this.2])
  rw[Uac] at hG';exact⟨_,_,G',hrun,hG'⟩
end
variable [Tabs]
section
variable {P:Program} {F:Fr} {G G':Gh} {S S':Zb} {st st1 st2:St} {a:Act} {w w':World} {C:ZJ} {oper:Oper} {D D2:Zd->Prop}
theorem Kl.xv(k:Kl D st st1){x:X}{v:Value}(h:VR G S w (xv st.env x) v):VR G S w (xv st1.env x) v:=by
 cases x with
 | t n=>exact k.vr n G S w v h
 | k u=>exact h
 | f i=>exact h
theorem IT.mk0{items:Row}{ui:Bool}{k:Nat}{yv:Value}{news:List Value}(fc:FC w k items.length yv news)(un:ZC k items)
  (rd:∀(i:Nat) (e:List Tr) (f:Nat) (t:Tr),items[i]? = some e->e[f]? = some t->∃ x,news[i*k+f]? = some x/\Rds w (Av G st.sto w) x t) (hu:ui=true->WP items) :
  IT G st st w (fun _=>False) items (fun _=>none) ui k yv news:=by
 refine⟨Kl.refl st,fc,un,rd,fun hui i e f t hi hf=>?_,fun hui i f e zs q es2 hi hf hq=>?_,fun _ _ _ _ _ _ h=>(by cases h),fun _ _ _ _ _ _ _ _ _ _ h=>(by cases h)⟩
 ·obtain⟨x,hx,hr⟩:=rd i e f t hi hf;exact⟨x,hx,Rds.cell hr fun _=>hu hui e (Uaf hi) t (Uaf hf)⟩
 ·have:=hu hui e (Uaf hi) _ (Uaf hf);simp only[Y6] at this;subst this;obtain⟨rfl,rfl⟩:=Qi hq;unfold Z7;rfl
theorem Dj(h:Sim F G st a w){items:Row}{N:Zn->Option (Nat×Nat)}{ui:Bool}{k:Nat}{yv xv0:Value}{news:List Value}{t ty e:TypeId}{i:TypeInfo}{z:Value}{d:Option Nat}{x:X}{loc:List (Nat×Ob)}{K:St->Prop}(it:IT G st st1 w D items N ui k yv news)
  (ht:P.underlying t=some (.slice e)) (hi:P.info? e=some i) (hz:i.zero=some z) (hik:i.size=k) (hzk:z.cells.size=k) (hby:i.bytes<=1024) (hk0:0<k) (hd:∀ y,d=some y->y<F.nt)
  (hxv:VR G st.sto w (xv st1.env x) xv0) (hfr:freshK (keyOf d) loc 1->st.sto (st.lvl,keyOf d)=none) (hgo:Js d k x loc items ui st1 K) :
  ∃ v w' st' G',ZaA P t ty xv0 yv w v w'/\K st'/\Sim F G' st' (a.put d v) w':=by
 obtain⟨_,hgo⟩:=hgo;split at hgo
 ·rename_i zs hq;rw[hq] at hxv;obtain⟨g1,g2,g3,g4,g5,hk⟩:=hgo;obtain⟨v,w',G',h1,h2⟩:=Zrd (ty:=ty) h it ht hi hz hik hzk hby hk0 hd hxv g1 g2 g3 (hfr g4) g5;rw[it.kl.lvl] at hk;exact⟨v,w',_,G',h1,hk,h2⟩
 ·rename_i id len s hq;rw[hq] at hxv;split at hgo<;>try contradiction
  rename_i k' es u hw ver hs1;obtain⟨rfl,rfl,rfl,g1,hk⟩:=hgo;obtain⟨hnd,ob0,hs0,hwk⟩:=it.kl.only _ _ hs1;have hob:ob0 = .ar k' es u s ver:=by cases hwk;rfl
  subst hob;by_cases huu:u=true->ui=true
  ·obtain⟨v,w',G',h1,h2⟩:=ZiW (ty:=ty) h it ht hi hz hik hzk hby hk0 hd hs0 hnd hxv huu g1;have:(u&&ui)=u:=by cases u<;>cases ui<;>simp_all
   rw[this] at hk;exact⟨v,w',_,G',h1,hk,h2⟩
  ·have huu2:u=true/\ui=false:=(by cases u<;>cases ui<;>simp_all);obtain⟨rfl,rfl⟩:=huu2;have hkl:=h.kl it.kl;have hfz:=hkl.1.freeze hs1;have hx1:=hkl.2.vr (.hd id [] 0 es.length none s) xv0 hnd hxv;have hx2:=hfz.2.vr (.hd id [] 0 es.length none s) xv0 (fun h=>h) hx1;have hs2:(Zp st1 id (.ar k' es false s ver)).sto id=some (.ar k' es false s ver):=by rw[Yt];unfold Zo;rw[if_pos rfl]
   have it2:IT G (Zp st1 id (.ar k' es false s ver)) (Zp st1 id (.ar k' es false s ver)) w (fun _=>False) items (fun _=>none) false k' yv news :=
    IT.mk0 it.fc it.un (fun i0 e0 f t0 h1 h2=>by
     obtain⟨x,hx,hr⟩:=it.rd i0 e0 f t0 h1 h2;exact⟨x,hx,Rds.mono hfz.2.av hfz.2.same hr⟩) (fun h=>by cases h)
   obtain⟨v,w',G',h1,h2⟩:=ZiW (ty:=ty) hfz.1 it2 ht hi hz hik hzk hby hk0 hd hs2 (fun h=>h) hx2 (fun h=>by cases h) g1;rw[Zb5,WS] at h2;exact⟨v,w',_,G',h1,hk,h2⟩
 ·contradiction
theorem Zb7(h:SOk G S w){id:Zd}{k:Nat}{es es':Row}{u:Bool}{hw ver off len s:Nat}{p:Zn}{cap:Option Nat}{v:Value}(hs:S id=some (.ar k es u hw ver))(hg:getp es p=some es')(hst:J2 p s hw ver u)(hv:Vk G S id p off len cap s v)(hl:off+len<=es'.length){k0:Nat}(hk0:ZC k0 (cut es' off len)) :
  ∃ cs,FC w k0 len v cs/\∀(i:Nat) (e:List Tr) (f:Nat) (t:Tr),(cut es' off len)[i]? = some e->e[f]? = some t->∃ x,cs[i*k0+f]? = some x/\Jl G w (Av G S w) id p u (off+i) f x t:=by
 obtain⟨_,k2,es2,u2,hw2,ver2,hs2,_,hrel⟩:=hv;rw[hs] at hs2;cases hs2;obtain⟨es3,k',ad,c,hg3,_,hun,rfl,hlc,_,_,hor⟩:=hrel hst;rw[hg] at hg3;cases hg3;by_cases h0:len=0
 ·subst h0;refine⟨[],⟨by simp,ad,c,rfl,?_⟩,fun i e f t h=>by simp [cut] at h⟩;cases ad with
  | none=>exact .inr ⟨rfl,rfl⟩
  | some ad=>exact .inl ⟨ad,rfl,fun j u hj=>by simp at hj⟩
 ·have hr:=ZbR h hs hst hg;unfold Z7 at hr;rcases hor with hz | ⟨_,hz⟩ | ⟨b,cc,hG,rfl,hoc⟩
  ·omega
  ·exact absurd hz h0
  ·rw[hG] at hr;obtain⟨k2,vs,ty,h1,h2,h3,h4,h5,h6⟩:=hr;have hlt:off<es'.length:=by omega
   have hm:=Uaf (Uak hlt);have hkk:k2=k':=(by rw[<-h2 _ hm,hun _ hm]);subst hkk;have hcl:(cut es' off len).length=len:=Xn hl;have hk2:k2=k0:=(by have:(cut es' off len)[0]? = some es'[off]:=(by rw[Df,if_pos (by omega)];simp [hlt]);rw[<-hk0 _ (Uaf this),<-h2 _ hm]);subst hk2;have hll:(off+len)*k2<=vs.size:=(by rw[h4];exact Uaz _ (by omega));rw[UaP] at hll;refine⟨(vs.toList.drop (off*k2)).take (len*k2),⟨by simp;omega,_,c,rfl,.inl ⟨_,rfl,fun j u hj=>?_⟩⟩,fun i e f t hi hf=>?_⟩
   ·rw[UaB] at hj;split at hj<;>try contradiction
    rw[UaM] at hj;rw[YJ,cell_of_row w b _ vs ty (0,0) h3];simpa using hj
   ·rw[Df] at hi;split at hi<;>try contradiction
    rename_i hil;obtain⟨x,hx,hc⟩:=h6 (off+i) e f t hi hf;have hfl:=(Uad.1 hf).1;rw[h2 e (Uaf hi)] at hfl;refine⟨x,?_,hc⟩;rw[UaB,if_pos (We hil hfl),UaM];rw[UaP] at hx;rw[<-Ubc];simpa using hx
end
variable [Tabs]
section
variable {P:Program} {F:Fr} {G G':Gh} {S S':Zb} {st st1 st2:St} {a:Act} {w w':World} {C:ZJ} {oper:Oper} {D D2:Zd->Prop}
theorem IT.sv(h:Sim F G st a w){id:Zd}{l:List IV}{k b c:Nat}{K1:List Tr->Bool->St->Prop}(hs:st.sto id=some (.bx l))(hl2:id.1=st.lvl)(hg:G id []=some (b,c))(hlen:l.length=k)(hm:Y3 l st K1) :
  ∃ ts u st2 D N news,K1 ts u st2/\IT G st (Zw id st2) w D [ts] N u k (.slice (some ⟨b,0,none⟩) 1 1) news:=by
 obtain⟨b',c',vs,ty,hb1,hb2,hvs⟩:=h.ok.obs _ _ hs;rw[hg] at hb1;cases hb1;have hvl:vs.size=k:=by rw[<-hlen];simpa using YP hvs
 obtain⟨ts,u,st2,D2,src,h1,h2,_,h4,h5,h6,_,h8⟩:=Zb6 h l _ st _ _ (Kl.refl st) hvs hm;have htl:ts.length=k:=by rw[h4,hlen]
 have hk2:=h2.step (fun j cells hj=>h.ok.low j cells hj) h.outl hl2 (by rw[hs];rfl);have hs2:=(h.kl h2).1;have hav:∀ blk,Av G st2.sto w blk->Av G (Zw id st2).sto w blk:=fun blk hb=>⟨hb.1,fun i ob hi ho=>by
  by_cases hil:i.1=st2.lvl
  ·rw[Wa hil (by rw[h2.lvl];exact hl2)] at hi;split at hi
   ·cases hi
   ·obtain⟨ob0,g1,g2⟩:=UaJ.1 hi;refine hb.2 i ob0 g1 ?_;subst g2;cases ob0<;>exact ho
  ·have:(Zw id st2).sto i=st2.sto i:=(by rw[YS (st:=Zw id st2) hil,YS hil];rfl);rw[this] at hi;exact hb.2 i ob hi ho⟩
 let N:Zn->Option (Nat×Nat):=fun p=>match p with
  | (_,f)::q=>match src f with
   | some j=>G j q
   | none=>none
  | []=>none
 have es1:∀{i:Nat} {e:List Tr},[ts][i]? = some e->i=0/\e=ts:=fun {i e} hi=>by
  cases i with
  | zero=>simp at hi;exact⟨rfl,hi.symm⟩
  | succ i=>simp at hi
 have vat:∀{f:Nat} {t:Tr},ts[f]? = some t->∃ v,vs.toList[f]? = some v:=fun {f t} hf=>by
  have hlt:f<k:=by rw[<-htl];exact(Uad.1 hf).1
  exact⟨vs.toList[f]'(by simpa [hvl] using hlt),by simp [hvl,hlt]⟩
 have hsrc1:u=true->∀ p b1 c1,p≠[]->(getp [ts] p).isSome=true->N p=some (b1,c1)->∃ f q j k2 zs hw2 ver2,p=(0,f)::q/\src f=some j/\G j q=some (b1,c1)/\D2 j/\st.sto j=some (.ar k2 zs true hw2 ver2)/\(getp zs q).isSome=true:=by
  intro hu p b1 c1 hp hss hN;cases p with
  | nil=>exact absurd rfl hp
  | cons cd q =>
   obtain⟨i,f⟩:=cd;obtain⟨es2,he2⟩:=Uan.1 hss;obtain⟨e0,zs,g1,g2,g3⟩:=Vn he2;obtain⟨rfl,rfl⟩:=es1 g1;simp only[N] at hN;split at hN
   ·rename_i j hj;obtain⟨v,hv⟩:=vat g2;have:=h6 hu f _ v g2 hv;rw[hj] at this;obtain⟨r1,r2,k2,zs2,hw2,ver2,r3,r4,r5⟩:=this;cases r4;exact⟨f,q,j,k2,zs,hw2,ver2,rfl,hj,hN,r1,r3,by rw[g3];rfl⟩
   ·cases hN
 refine⟨ts,u,st2,_,N,vs.toList,h1,hk2,⟨by simp [hvl],_,_,rfl,.inl ⟨_,rfl,fun j x hj=>?_⟩⟩,fun e he=>by simp at he;subst he;exact htl,fun i e f t hi hf=>?_,fun hu i e f t hi hf=>?_,fun hu i f e zs q es2 hi hf hq=>?_,fun hu p b1 c1 hp hss hN=>?_,fun hu p p' b1 c1 c2 hp hp' hss hss' hN hN' => ?_⟩
 ·have:(⟨b,0,none⟩:Addr).add j=⟨b,j,none⟩:=by simp [Addr.add];try exact fun h=>h.symm
  rw[this];have:=cell_of_row w b j vs ty (0,0) hb2;rw[this];simpa using hj
 ·obtain⟨rfl,rfl⟩:=es1 hi;obtain⟨v,hv⟩:=vat hf;exact⟨v,by simpa using hv,Rds.mono hav (fun _ _=>rfl) (h5 f t v hf hv)⟩
 ·obtain⟨rfl,rfl⟩:=es1 hi;obtain⟨v,hv⟩:=vat hf;refine⟨v,by simpa using hv,?_⟩;subst hu;have:=h6 rfl f t v hf hv;split at this
  ·exact Rds.cell (Rds.mono hav (fun _ _=>rfl) (h5 f t v hf hv)) (fun _=>this)
  ·rename_i j hj;exact Src.cell this (by simp [N,hj])
 ·obtain⟨rfl,rfl⟩:=es1 hi;obtain⟨v,hv⟩:=vat hf;have:=h6 hu f _ v hf hv;split at this
  ·rename_i hj;simp only[Y6] at this;subst this;obtain⟨rfl,rfl⟩:=Qi hq;unfold Z7;simp [N,hj]
  ·rename_i j hj;obtain⟨r1,r2,k2,zs2,hw2,ver2,r3,r4,r5⟩:=this;cases r4;have hr:=(h.ok.obs _ _ r3).2.2.2.1 q es2 (.inr rfl) hq;have hr2:=Zb1 (G1:=G) (G2:=G) (A':=fun _=>False) (i:=j) rfl hr;exact Wc (G:=G) (id:=j) (p:=q) (A:=fun _=>False) (by simp [N,hj]) (fun _ r=>by simp [N,hj]) (fun hu=>by cases hu) (fun b hb=>hb.elim) (fun h=>by cases h) (fun _ _ _=>rfl) hr2
 ·obtain⟨f,q,j,k2,zs,hw2,ver2,rfl,hj,g1,g2,g3,g4⟩:=hsrc1 hu p b1 c1 hp hss hN;exact⟨j,_,.inl g2,g3,q,c1,.inr rfl,g4,g1⟩
 ·obtain⟨f,q,j,k2,zs,hw2,ver2,rfl,hj,g1,g2,g3,g4⟩:=hsrc1 hu p b1 c1 hp hss hN;obtain⟨f',q',j',k2',zs',hw2',ver2',rfl,hj',g1',g2',g3',g4'⟩:=hsrc1 hu p' b1 c2 hp' hss' hN';have hjj:=h.ok.dis _ _ _ _ b1 g3 g3' ⟨q,c1,.inr rfl,g4,g1⟩ ⟨q',c2,.inr rfl,g4',g1'⟩;subst hjj;rw[g3] at g3';cases g3';rw[h8 f f' j hj hj',(h.ok.obs _ _ g3).2.2.2.2 q q' b1 c1 c2 (.inr rfl) (.inr rfl) g4 g4' g1 g1']
theorem ZaB(h:Sim F G st a w){k md:Nat}{x y:X}{d:Option Nat}{K:St->Prop}(hd:d=oper.dst)(hdn:∀ y,d=some y->y<F.nt)(hc:Zs P (.ap k md x y) oper.op=true)(he:ew C d st K (.ap k md x y)):LOk P F a w oper K:=by
 subst hd;simp only[Zs] at hc;split at hc<;>try contradiction
 rename_i args argTypes ho;split at hc<;>try contradiction
 rename_i xo yo t t2 hargs htys;simp only[Uae,beq_iff_eq] at hc;obtain⟨⟨⟨rfl,hcx⟩,hcy⟩,hc⟩:=hc;split at hc<;>try contradiction
 rename_i e hel;split at hc<;>try contradiction
 rename_i i hi;simp only[Uae,beq_iff_eq,decide_eq_true_eq] at hc;obtain⟨⟨⟨hik,hk0⟩,hby⟩,hz⟩:=hc;split at hz<;>try contradiction
 rename_i z hz0;have hzk:z.cells.size=k:=by simpa using hz
 have ht:=VA hel;have hargs':args = #[xo,yo]:=by cases args;simpa using hargs
 have htys':argTypes = #[t,t]:=by cases argTypes;simpa using htys
 subst hargs';subst htys';have hx:=h.x hcx;have hy:=h.x hcy;have Jt:(∃ v w' st' G',ZaA P t oper.type (a.eval xo) (a.eval yo) w v w'/\K st'/\Sim F G' st' (a.put oper.dst v) w')->LOk P F a w oper K:=by
  rintro⟨v,w',st',G',hr,hk,hs⟩
  unfold ZaA at hr;refine Res.of_run (v:=v) (w':=w') ?_ ⟨st',G',hk,hs⟩;unfold execOp;simp only[ho,resolve,invoke,builtin,Sem.run_bind,Sem.run_pure,Result.andThen_ok,List.map_toArray,Uah,Uam,hr]
 have hfr0:freshK (keyOf oper.dst) st.loc 1->st.sto (st.lvl,keyOf oper.dst)=none:=ZeW;have trees:∀{es:Row} {ui:Bool},Rds w (Av G st.sto w) (a.eval yo) (.sl es)->(ui=true->ScR es)->Js oper.dst k x st.loc es ui st K->LOk P F a w oper K:=fun {es ui} hr hu hgo=>by obtain⟨news,it⟩:=IT.trees (ui:=ui) hr hk0 hgo.1 (fun h=>(hu h).flat);exact Jt (Dj h it ht hi hz0 hik hzk hby hk0 hdn hx hfr0 hgo)
 simp only[ew] at he;split at he<;>try contradiction
 ·rename_i es hq;rw[hq] at hy;split at he
  ·exact trees hy (fun _=>he.1) he.2
  ·exact trees hy (fun h=>by cases h) he.2
 ·rename_i es hq;rw[hq] at hy;split at he
  ·exact trees hy.2 (fun _=>he.1) he.2
  ·exact trees hy.2 (fun h=>by cases h) he.2
 ·rename_i id2 p2 off2 len2 cap2 s2 hq;rw[hq] at hy;split at he
  ·obtain⟨rfl,rfl,rfl,hl2,he⟩:=he;split at he<;>try contradiction
   rename_i k2 zs u2 hw2 ver2 hs2;obtain⟨rfl,rfl,hgo⟩:=he;cases u2 with
   | true =>
    obtain⟨news,it⟩:=IT.moved h hs2 hl2 hy hk0 hgo.1;exact Jt (Dj h it ht hi hz0 hik hzk hby hk0 hdn (it.kl.xv hx) hfr0 hgo)
   | false =>
    obtain⟨stp,hr⟩:=Zay h hs2 hl2 hy;obtain⟨news,it⟩:=IT.trees (ui:=false) hr hk0 hgo.1 (fun h=>by cases h);refine Jt (Dj stp.sim it ht hi hz0 hik hzk hby hk0 hdn (stp.sim.x hcx) (fun hf=>?_) hgo);show (Zw id2 st).sto (st.lvl,keyOf oper.dst)=none;rw[Wa rfl hl2];split
    ·rfl
    ·rw[hfr0 hf];rfl
  ·split at he
   ·unfold JU at he;split at he<;>try contradiction
    rename_i k2 es u2 hw2 ver2 hs2;obtain⟨es',hg,hst,hl,hsc,hgo⟩:=he;obtain⟨cs,fc,hcell⟩:=Zb7 h.ok hs2 hg hst hy hl hgo.1;have it:IT G st st w (fun _=>False) (cut es' off2 len2) (fun _=>none) true k (a.eval yo) cs:=IT.mk0 (by rw[Xn hl];exact fc) hgo.1 (fun i0 e0 f t0 h1 h2=>by
     obtain⟨x,hx,hr⟩:=hcell i0 e0 f t0 h1 h2;refine⟨x,hx,?_⟩;have:=hsc e0 (Uaf h1) t0 (Uaf h2);cases t0 with
     | v y=>obtain⟨rfl,hs⟩:=hr;exact .v _ hs
     | sl z=>simp [isSc] at this) (fun _=>hsc.flat)
    exact Jt (Dj h it ht hi hz0 hik hzk hby hk0 hdn hx hfr0 hgo)
   ·obtain⟨_,rfl,he⟩:=he;split at he<;>try contradiction
    rename_i k2 es u2 hw2 ver2 hs2;obtain⟨rfl,hl,hgo⟩:=he;have hfz:=h.freeze hs2;have hy2:=hfz.2.vr (.hd id2 [] off2 len2 cap2 s2) (a.eval yo) (fun h=>h) hy;have hs2':(Zp st id2 (.ar k2 es false s2 ver2)).sto id2=some (.ar k2 es false s2 ver2):=by rw[Yt];unfold Zo;rw[if_pos rfl]
    obtain⟨cs,fc,hcell⟩:=Zb7 hfz.1.ok hs2' (p:=[]) rfl (rfl:J2 [] s2 s2 ver2 false) hy2 hl hgo.1;have it:IT G (Zp st id2 (.ar k2 es false s2 ver2)) (Zp st id2 (.ar k2 es false s2 ver2)) w (fun _=>False) (cut es off2 len2) (fun _=>none) false k (a.eval yo) cs:=IT.mk0 (by rw[Xn hl];exact fc) hgo.1 (fun i0 e0 f t0 h1 h2=>by
     obtain⟨x,hx,hr⟩:=hcell i0 e0 f t0 h1 h2;refine⟨x,hx,?_⟩;cases t0 with
     | v y=>obtain⟨rfl,hs⟩:=hr;exact .v _ hs
     | sl z=>simpa [Jl] using hr) (fun h=>by cases h)
    refine Jt (Dj hfz.1 it ht hi hz0 hik hzk hby hk0 hdn (hfz.1.x hcx) (fun hf=>?_) hgo);rw[QC,Yt];unfold Zo;rw[if_neg (fun hh=>by have h1:=hfr0 hf;rw[hh,hs2] at h1;cases h1)];exact hfr0 hf
 ·rename_i id2 hq;rw[hq] at hy;obtain⟨rfl,hl2,he⟩:=he;split at he<;>try contradiction
  rename_i l hs2;obtain⟨hlen,hm⟩:=he;have hy0:∃ b c,G id2 []=some (b,c)/\a.eval yo = .slice (some ⟨b,0,none⟩) 1 1:=by
   rcases hy with ⟨_,b,c,hs3,hgb,hyv⟩ | ⟨_,b,c,hs3,_⟩
   ·exact⟨b,c,hgb,hyv⟩
   ·rw[hs2] at hs3;cases hs3
  obtain⟨b,c,hgb,hyv⟩:=hy0;obtain⟨ts,u,st2,D2,N,news,hgo,it⟩:=IT.sv h hs2 hl2 hgb hlen hm;rw[<-hyv] at it;exact Jt (Dj h it ht hi hz0 hik hzk hby hk0 hdn (it.kl.xv hx) hfr0 hgo)
theorem Got.tree{l b:Nat}{k c:Nat}{es:Row}{S:Zb}{vs:Array Value}{ty:TypeId}(h:SOk G S w)(e:Ext w w')
  (hh:w'.heap[w.heap.size]? = some (.cells vs ty (0,0))) (hc:es.length<=c) (hk:ZC k es) (hr:Zar w (Av G S w) vs k es) :
  Got G S w l b (.tr (.sl es)) [] (.slice (some ⟨w.heap.size,0,none⟩) es.length c) w':=by
 refine Got.mk (G':=G) h (fun j hj=>absurd hj (Ua9 j)) e (fun _ _ _=>rfl) (fun j ob hj=>by simp at hj) (fun hvr j ob hj=>by simp at hj) (fun j ob j' ob' blk hj=>by simp at hj) (fun j cells hj=>by simp at hj) (fun hvr=>?_);have hav:Av G S w' w.heap.size:=by refine⟨(UaE.1 hh).1,fun id ob hs ho=>?_⟩;have:=Ys (h.obs id ob hs) ho;omega
 show Rds w' (Av G S w') _ _;refine Rds.sl w.heap.size 0 c k es (fun i j=>(vs[i*k+j]?).getD undef) hav hk hc (fun i e0 j t h1 h2=>?_) (fun i e0 j t h1 h2=>?_)
 ·obtain⟨x,hx,_⟩:=hr i e0 j t h1 h2;rw[Uax,hx];rw[cell_of_row w' w.heap.size (i*k+j) vs ty (0,0) hh,hx];rfl
 ·obtain⟨x,hx,hrd⟩:=hr i e0 j t h1 h2;rw[hx];exact(hvr (.tr t) x hrd)
theorem Got.treeF{l b:Nat}{k c:Nat}{es:Row}{S:Zb}{vs:Array Value}{ty:TypeId}{fr:Nat×Nat}(h:SOk G S w)(e:Ext w w')
  (hh:w'.heap[w.heap.size]? = some (.cells vs ty fr)) (hc:es.length<=c) (hk:ZC k es) (hr:Zar w (Av G S w) vs k es) :
  Got G S w l b (.tr (.sl es)) [] (.slice (some ⟨w.heap.size,0,none⟩) es.length c) w':=by
 refine Got.mk (G':=G) h (fun j hj=>absurd hj (Ua9 j)) e (fun _ _ _=>rfl) (fun j ob hj=>by simp at hj) (fun hvr j ob hj=>by simp at hj) (fun j ob j' ob' blk hj=>by simp at hj) (fun j cells hj=>by simp at hj) (fun hvr=>?_);have hav:Av G S w' w.heap.size:=by refine⟨(UaE.1 hh).1,fun id ob hs ho=>?_⟩;have:=Ys (h.obs id ob hs) ho;omega
 show Rds w' (Av G S w') _ _;refine Rds.sl w.heap.size 0 c k es (fun i j=>(vs[i*k+j]?).getD undef) hav hk hc (fun i e0 j t h1 h2=>?_) (fun i e0 j t h1 h2=>?_)
 ·obtain⟨x,hx,_⟩:=hr i e0 j t h1 h2;rw[Uax,hx];rw[cell_of_row w' w.heap.size (i*k+j) vs ty fr hh,hx];rfl
 ·obtain⟨x,hx,hrd⟩:=hr i e0 j t h1 h2;rw[hx];exact(hvr (.tr t) x hrd)
theorem ZiX{s:ByteArray}:(WK s).length=s.size:=by unfold WK;rw[Uaa,Array.length_toList];rfl
theorem Zre{s:ByteArray}{i j:Nat}{e:List Tr}{t:Tr}(h1:(WK s)[i]? = some e)(h2:e[j]? = some t):j=0/\∃ hi:i<s.data.size,t = .v (.int .u8 (s.data[i]'hi).toNat):=by
 unfold WK at h1;rw[Uao] at h1;cases hb:s.data.toList[i]? with
 | none=>rw[hb] at h1;cases h1
 | some x =>
  rw[hb] at h1;have h1:=UaT h1;subst h1;have hj:j=0:=by have:=(Uad.1 h2).1;simpa using this
  subst hj;obtain⟨hi,rfl⟩:=Uad.1 hb;exact⟨rfl,by simpa using hi,(UaT h2).symm.trans (by simp)⟩
theorem Zrf{K:Yc}{l b:Nat}(h:Sim F G st a w){x:X}(hc:Zs P (.cv .bys x) oper.op=true)(he:ev C (xv st.env) st.sto K (.cv .bys x)):EvOk P G st a w K l b oper:=by
 simp only[Zs] at hc;split at hc<;>try contradiction
 rename_i s d y ho;simp only[Uae,Uan] at hc;obtain⟨⟨hx,sd,hs⟩,hd⟩:=hc;have hx:=h.x hx;split at hd<;>try contradiction
 rename_i hk _ e hde hk2;split at hd<;>try contradiction
 rename_i hee;simp only[ev] at he;split at he<;>try contradiction
 rename_i sv hk3 hq;rw[hq] at hx;obtain⟨hx,_⟩:=hx.val;have hrun:=Lib.run_convert_string_bytes (P:=P) w s d e sv hs (by assumption) (by assumption);refine Res.of_run (v:=.slice (some ⟨w.heap.size,0,none⟩) sv.size (grownCap w sv.size 0 e)) (w':=Lib.bytesWorld w e sv) ?_ ⟨_,_,he,?_⟩
 ·unfold execOp;simp only[ho,hx,Sem.run_bind,Sem.run_pure,Result.andThen_ok,hrun]
 ·have:=Got.treeF (l:=l) (b:=b) (S:=st.sto) (G:=G) (w:=w) (k:=1) (c:=grownCap w sv.size 0 e) (es:=WK sv) (ty:=e) (w':=Lib.bytesWorld w e sv) h.ok
   ⟨by rw[Lib.bytesWorld_size];omega,fun b hb=>Lib.bytesWorld_at_old w e sv b hb,rfl,rfl,rfl⟩ (Lib.bytesWorld_at_new w e sv) (by rw[ZiX];exact grownCap_ge w sv.size 0 e)
   (fun e0 he0=>by
    obtain⟨x,_,rfl⟩:=Uau.1 he0;rfl)
   (fun i0 e0 f t0 h1 h2=>by
    obtain⟨rfl,hi,rfl⟩:=Zre h1 h2;refine⟨.int .u8 (sv.data[i0]'hi).toNat,?_,.v _ rfl⟩;unfold Lib.bytesCells;rw[Nat.mul_one,Nat.add_zero,UaK (by simpa using hi),UbO,UaY hi];rfl)
  rw[ZiX] at this;exact this
theorem Zrg{K:Yc}{l b:Nat}(h:Sim F G st a w){k n:Nat}{z:List Value}{ps:List (Nat×X)}(hc:Zs P (.bc k n z ps) oper.op=true)
  (he:ev C (xv st.env) st.sto K (.bc k n z ps)):EvOk P G st a w K l b oper:=by
 simp only[Zs] at hc;split at hc<;>try contradiction
 rename_i t len parts ho;simp only[Uae,WN] at hc;obtain⟨hcs,hcp⟩:=hc;split at hcs<;>try contradiction
 rename_i e hel;simp only[Uae,beq_iff_eq,decide_eq_true_eq,UaO] at hcs;obtain⟨⟨⟨hsz,rfl⟩,hsm⟩,hz⟩:=hcs;have hu:=VA hel;obtain⟨ie,hie,hks⟩:=X8 hsz;simp only[ev] at he;have hr0:∀ f:Nat->Value,Array.map f (Array.range 0) = #[]:=fun f=>by simp [Array.range_zero']
 have hz':n≠0->QB P e z=true/\z.length=k:=fun hn=>hz.resolve_left hn
 have hrun:∃ cells:Array Value,cells.size=n*k/\(∀ out,Instr.fill (fun i=>some (i*k,k)) cells (parts.toList.map fun p=>(p.1,a.eval p.2))=some out ->
   (execOp a.eval oper).run P w = .ok (.value (.slice (some ⟨w.heap.size,0,none⟩) n n)) (w.alloc (.cells out e)))/\(n≠0->∀ j,j<n*k->cells[j]? = z[j % k]?):=by
  subst hks;by_cases h0:n*ie.size=0
  ·refine⟨#[],by simp [h0],fun out hf=>?_,fun _ j hj=>by omega⟩;simp [execOp,ho,Instr.buildSlice,run_underlying hu,Go.sizeOf,typeInfo,hie,h0,newRow,hr0,hf]
  ·have hn:n≠0:=fun e=>h0 (by simp [e]);obtain⟨hzt,hzl⟩:=hz' hn;obtain⟨i2,zv,hi2,hzv,hzc,_⟩:=Xm hzt;rw[hie] at hi2;cases hi2;have hzs:zv.cells.size=ie.size:=(by rw[<-hzl,<-hzc];simp);have hkp:0<ie.size:=UbP (fun hk0=>h0 (by simp [hk0]));refine⟨(Array.range (n*ie.size)).map (zv.cells[· % zv.cells.size]!),by simp,fun out hf=>?_,fun _ j hj=>?_⟩
   ·have hsm':¬ n*ie.size > 2 ^ 24:=(by omega);have:=run_buildSlice (P:=P) w t e n (parts.map fun(i,x)=>(i,a.eval x)) out ie zv hu hie hzv hsm' h0 (by rw[Ubz];exact hf);simp [execOp,ho,this]
   ·have hlt:j % ie.size<zv.cells.size:=(by rw[hzs];exact Nat.mod_lt _ hkp);rw[UbO];simp [hj,hzs,<-hzc];rw[getElem!_pos zv.cells (j % ie.size) hlt,UaY hlt]
 obtain⟨cells,hcsz,hrun,hcz⟩:=hrun;have hUn:ZC k (List.replicate n (z.map trv)):=fun e he=>by obtain⟨hn,rfl⟩:=Ubs.1 he;simpa using (hz' hn).2
 have hzs:n≠0->∀ x∈z,Jw x=true\/x = .slice none 0 0:=fun hn=>by obtain⟨_,_,_,_,_,h5⟩:=Xm (hz' hn).1;exact h5
 have htrv:∀ x:Value,(Jw x=true\/x = .slice none 0 0)->Rds w (Av G st.sto w) x (trv x)/\Y6 (trv x):=fun x hx=>by
  rcases hx with hx | rfl
  ·have:trv x = .v x:=(by cases x<;>first | rfl | simp [Jw] at hx);rw[this];exact⟨.v x hx,trivial⟩
  ·exact⟨.nil none 0,rfl⟩
 obtain⟨out,es',u',f1,f2,f3,f4,f5,f6,f7⟩:=ZeC ps parts.toList (List.replicate n (z.map trv)) true cells _ he hcp h (by simpa using hcsz) hUn
  (fun i e f t hi hf=>by
   obtain⟨hn,hi'⟩:i<n/\e=z.map trv:=by rw[Uba] at hi;split at hi<;>simp_all
   subst hi';have hn0:n≠0:=by omega
   rw[Uao,UaJ] at hf;obtain⟨x,hx,rfl⟩:=hf;have hfk:f<k:=by have:=(Uad.1 hx).1;rw[(hz' hn0).2] at this;exact this
   refine⟨x,?_,(htrv x (hzs hn0 x (Uaf hx))).1⟩;have hlt:i*k+f<n*k:=by
    calc i*k+f<i*k+k:=by omega
     _=(i+1)*k:=by rw[UaP,UbW]
     _<=n*k:=Uaz _ hn
   rw[hcz hn0 _ hlt,Ubw,Ubn,UbM hfk];exact hx)
  (fun _ e he t ht=>by
   obtain⟨hn,rfl⟩:=Ubs.1 he;simp only[Uau] at ht;obtain⟨x,hx,rfl⟩:=ht;exact(htrv x (hzs hn x hx)).2)
 have hlen:es'.length=n:=by simpa using f3
 refine Res.of_run (hrun out f1) ⟨_,_,f2,?_⟩;have:=Got.tree (l:=l) (b:=b) (S:=st.sto) (G:=G) (w:=w) (k:=k) (c:=n) (es:=es') (ty:=e) (vs:=out) (w':=w.alloc (.cells out e)) h.ok (Ext.alloc w (.cells out e)) (heap_alloc_new w _) (by omega) f5 f6;rw[hlen] at this;exact this
theorem Zrh{K:Yc}{l b:Nat}(h:Sim F G st a w){k:Nat}{x y:X}(hc:Zs P (.a3 k x y) oper.op=true)(he:ev C (xv st.env) st.sto K (.a3 k x y)):EvOk P G st a w K l b oper:=by
 simp only[Zs] at hc;split at hc<;>try contradiction
 rename_i args argTypes ho;split at hc<;>try contradiction
 rename_i xo yo t t2 hargs htys;simp only[Uae,beq_iff_eq] at hc;obtain⟨⟨⟨rfl,hcx⟩,hcy⟩,hc⟩:=hc;split at hc<;>try contradiction
 rename_i e hel;split at hc<;>try contradiction
 rename_i i hi;simp only[Uae,beq_iff_eq,decide_eq_true_eq] at hc;obtain⟨⟨⟨hik,hk0⟩,hby⟩,hz⟩:=hc;split at hz<;>try contradiction
 rename_i z hz0;have hzk:z.cells.size=k:=by simpa using hz
 have ht:=VA hel;have hargs':args = #[xo,yo]:=by cases args;simpa using hargs
 have htys':argTypes = #[t,t]:=by cases argTypes;simpa using htys
 subst hargs';subst htys';have hx:=h.x hcx;have hy:=h.x hcy;simp only[ev] at he;split at he<;>try contradiction
 rename_i zs hq;rw[hq] at hx;subst hik;obtain⟨⟨ad,hxe⟩,hrd⟩:=hx
 have key:∀{items:Row},(∃ cs,FC w i.size items.length (a.eval yo) cs/\∀(i0:Nat) (e0:List Tr) (f:Nat) (t0:Tr),items[i0]? = some e0->e0[f]? = some t0->∃ x,cs[i0*i.size+f]? = some x/\Rds w (Av G st.sto w) x t0) ->
   (items≠[]/\ScR items/\ZC i.size zs/\ZC i.size items/\zs.length+items.length<=bigN/\ZH K (.tr (.sl (zs++items))))->EvOk P G st a w K l b oper:=by
  rintro items ⟨news,hfn,hnew⟩ ⟨hit,_,hkz,hki,hb,hK⟩
  have hm:0<items.length:=UbP fun h0=>hit (Uay h0);rw[hxe] at hrd;obtain⟨olds,hfc,hold⟩:=hrd.fc hk0 hkz;have hrun:=ZeY (P:=P) (ty:=oper.type) ht hi hz0 hfc hfn (by omega) hb hby;have hge:=grownCap_ge w (zs.length+items.length) zs.length e;have holl:olds.length=zs.length*i.size:=hfc.1;refine Res.of_run (v:=.slice (some ⟨w.heap.size,0,none⟩) (zs.length+items.length) (grownCap w (zs.length+items.length) zs.length e)) (w':=w.drew.alloc (.cells (olds.toArray++news.toArray++Builtin.zeroCells z.cells (grownCap w (zs.length+items.length) zs.length e-(zs.length+items.length))) e)) ?_ ⟨_,_,hK,?_⟩
  ·unfold execOp;simp only[ho,resolve,invoke,builtin,Sem.run_bind,Sem.run_pure,Result.andThen_ok,List.map_toArray,Uah,Uam,hxe,hrun]
  ·have:=Got.tree (l:=l) (b:=b) (S:=st.sto) (G:=G) (w:=w) (k:=i.size) (c:=grownCap w (zs.length+items.length) zs.length e) (es:=zs++items) (ty:=e)
    (vs:=olds.toArray++news.toArray++Builtin.zeroCells z.cells (grownCap w (zs.length+items.length) zs.length e-(zs.length+items.length)))
    (w':=w.drew.alloc (.cells (olds.toArray++news.toArray++Builtin.zeroCells z.cells (grownCap w (zs.length+items.length) zs.length e-(zs.length+items.length))) e))
    h.ok ⟨by simp,fun b hb=>heap_alloc_old w.drew _ b hb,rfl,rfl,rfl⟩ (heap_alloc_new w.drew _) (by rw[Uac];exact hge)
    (fun e he=>by
     rcases Uaq.1 he with he | he
     ·exact hkz e he
     ·exact hki e he)
    (fun i0 e0 f t0 h1 h2=>by
     by_cases hil:i0<zs.length
     ·rw[Uav hil] at h1;obtain⟨x,hx,hr⟩:=hold i0 e0 f t0 h1 h2;refine⟨x,?_,hr⟩;have hjl:=(Uad.1 hx).1;rw[UbA,UaK (by simpa using hjl)];simpa using hx
     ·obtain⟨m,rfl⟩:∃ m,i0=zs.length+m:=⟨i0-zs.length,by omega⟩;rw[Uas (by omega),show zs.length+m-zs.length=m from by omega] at h1;obtain⟨x,hx,hr⟩:=hnew m e0 f t0 h1 h2;refine⟨x,?_,hr⟩;have hjl:=(Uad.1 hx).1;rw[UaP,Ubc,UbA,Array.getElem?_append_right (by simp;omega),UaK (by simp;omega)];simp only[Ubv,holl,Ubb];simpa using hx)
   rw[Uac] at this;exact this
 unfold Vj at he;split at he
 ·rename_i es hqy;rw[hqy] at hy;exact key (Rds.fc hy hk0 he.2.2.2.1) he
 ·rename_i es hqy;rw[hqy] at hy;exact key (Rds.fc hy.2 hk0 he.2.2.2.1) he
 ·rename_i id2 p2 off2 len2 c2 s2 hqy;rw[hqy] at hy;unfold JU at he;split at he<;>try contradiction
  rename_i k2 es u2 hw2 ver2 hs2;obtain⟨es',hg,hst,hl,he⟩:=he;obtain⟨cs,fc,hcell⟩:=Zb7 h.ok hs2 hg hst hy hl he.2.2.2.1;refine key ⟨cs,by rw[Xn hl];exact fc,fun i0 e0 f t0 h1 h2=>?_⟩ he;obtain⟨x,hx,hr⟩:=hcell i0 e0 f t0 h1 h2;refine⟨x,hx,?_⟩;have:=he.2.1 e0 (Uaf h1) t0 (Uaf h2);cases t0 with
  | v y=>obtain⟨rfl,hs⟩:=hr;exact .v _ hs
  | sl z=>simp [isSc] at this
 ·contradiction
theorem ZiY{k:Nat}{x y:X}{d:Option Nat}{K:St->Prop}(he:ew C d st K (.a0 k x y)):ew C d st K (.ap k 0 x y):=by
 simp only[ew,JG] at he ⊢;split at he<;>try contradiction
 rename_i id len s hx;split at he<;>try contradiction
 rename_i k' es u hw ver hs;obtain⟨h1,h2,h3,h4⟩:=he;have go:∀ items:Row,ScR items->ZC k items->len+items.length<=bigN->K { Zp st id (.ar k (es++items) u (max hw (len+items.length)) ver) with env:=ptd d (.hd id [] 0 (len+items.length) none (max hw (len+items.length))) st.env }->ScR items/\Js d k x st.loc items true st K:=fun items g1 g2 g3 g4=>by refine⟨g1,?_⟩;unfold Js;refine⟨g2,?_⟩;simp only[hx,hs,UbN];exact⟨h1,h2,h3,g3,g4⟩
 unfold Vj at h4;split at h4<;>try contradiction
 ·rename_i zs hy;simp only[hy,if_true];exact go zs h4.1 h4.2.1 h4.2.2.1 h4.2.2.2
 ·rename_i zs hy;simp only[hy,if_true];exact go zs h4.1 h4.2.1 h4.2.2.1 h4.2.2.2
 ·rename_i id2 p2 off2 len2 c2 s2 hy;simp only[hy,if_true];unfold JU at h4 ⊢;split at h4<;>try contradiction
  obtain⟨es',q1,q2,q3,q4⟩:=h4;exact⟨es',q1,q2,q3,go _ q4.1 q4.2.1 q4.2.2.1 q4.2.2.2⟩
theorem Zri(h:Sim F G st a w){k:Nat}{x y:X}{d:Option Nat}{K:St->Prop}(hd:d=oper.dst)(hdn:∀ y,d=some y->y<F.nt)(hc:Zs P (.a0 k x y) oper.op=true)(he:ew C d st K (.a0 k x y)):LOk P F a w oper K:=by
 have hc':Zs P (.ap k 0 x y) oper.op=true:=by simpa only[Zs] using hc
 refine ZaB (C:=C) h hd hdn hc' ?_;exact ZiY he
theorem ZiZ{k:Nat}{x y:X}{d:Option Nat}{K:St->Prop}(he:ew C d st K (.a1 k x y)):ew C d st K (.ap k 1 x y):=by
 simp only[ew,JG] at he ⊢;split at he<;>try contradiction
 rename_i id len s hx;split at he<;>try contradiction
 rename_i k' es u hw ver hs;obtain⟨h1,h2,h3,h4⟩:=he;have go:∀ items:Row,ZC k items->len+items.length<=bigN->K { Zp st id (.ar k (es++items) false (max hw (len+items.length)) ver) with env:=ptd d (.hd id [] 0 (len+items.length) none (max hw (len+items.length))) st.env }->Js d k x st.loc items false st K:=fun items g2 g3 g4=>by unfold Js;refine⟨g2,?_⟩;simp only[hx,hs,UbR];exact⟨h1,h2,h3,g3,g4⟩
 unfold U6 at h4;split at h4<;>try contradiction
 ·rename_i zs hy;simp only[hy];rw[if_neg (by decide)];exact⟨trivial,go zs h4.1 h4.2.1 h4.2.2⟩
 ·rename_i zs hy;simp only[hy];rw[if_neg (by decide)];exact⟨trivial,go zs h4.1 h4.2.1 h4.2.2⟩
theorem Zrj(h:Sim F G st a w){k:Nat}{x y:X}{d:Option Nat}{K:St->Prop}(hd:d=oper.dst)(hdn:∀ y,d=some y->y<F.nt)(hc:Zs P (.a1 k x y) oper.op=true)(he:ew C d st K (.a1 k x y)):LOk P F a w oper K:=by
 have hc':Zs P (.ap k 1 x y) oper.op=true:=by simpa only[Zs] using hc
 refine ZaB (C:=C) h hd hdn hc' ?_;exact ZiZ he
structure Sm (s t:St):Prop where
 lvl:s.lvl=t.lvl
 env:s.env=t.env
 sto:s.sto=t.sto
 out:s.out=t.out
theorem Sim.sm{s t:St}{G:Gh}{a:Act}{w:World}(h:Sim F G t a w)(e:Sm s t):Sim F G s a w :=
 ⟨h.dfr,h.sz,fun x=>by rw[e.env,e.sto];exact h.env x,by rw[e.sto];exact h.ok,e.lvl.trans h.lvl,fun id ob ho=>by rw[e.lvl];rw[e.out] at ho;exact h.outl id ob ho,by rw[e.sto];exact h.fr,h.fix⟩
theorem Zrk{st:St}{id:Zd}{ob:Ob}(h:st.sto id=some ob):(Zp st id ob).sto=st.sto/\(Zp st id ob).out=st.out:=by
 constructor
 ·rw[Yt];funext i;unfold Zo;split
  ·rename_i e;rw[e,h]
  ·rfl
 ·unfold Zp;split
  ·rfl
  ·rename_i hne;dsimp only;funext i;unfold Zo;split
   ·rename_i e;rw[e,<-h,YS hne]
   ·rfl
theorem Zrl(h:Sim F G st a w){k:Nat}{x y:X}{d:Option Nat}{K:St->Prop}(hd:d=oper.dst)(hdn:∀ y,d=some y->y<F.nt)(hc:Zs P (.a2 k x y) oper.op=true)(he:ew C d st K (.a2 k x y)):LOk P F a w oper K:=by
 have hc':Zs P (.ap k 1 x y) oper.op=true:=by simpa only[Zs] using hc
 have key:ew C d st (fun t=>∃ s,K s/\Sm s t) (.ap k 1 x y):=by
  simp only[ew,JG] at he ⊢;split at he<;>try contradiction
  rename_i id len s hx;split at he<;>try contradiction
  rename_i k' es u hw ver hs;obtain⟨h1,h2,h3,h4⟩:=he;unfold Uq at h4;split at h4<;>try contradiction
  rename_i id2 off2 len2 c2 s2 hy;split at h4<;>try contradiction
  rename_i k2 es2 hw2 ver2 hs2;obtain⟨q1,q2,q3,q4,q5⟩:=h4;obtain⟨e1,e2⟩:=Zrk hs2;simp only[hy,hs2];rw[if_neg (by decide),if_neg (by decide)];refine⟨trivial,trivial,q1,q2,?_⟩;have hlv:(Zp st id2 (.ar k2 es2 false hw2 ver2)).lvl=st.lvl:=QC _ _ _;have hev:(Zp st id2 (.ar k2 es2 false hw2 ver2)).env=st.env:=by unfold Zp;split<;>rfl
  unfold Js;refine⟨q3,?_⟩;simp only[hev,hx,e1,hs,UbR];refine⟨h1,h2,h3,q4,_,q5,?_,rfl,?_,?_⟩
  ·show (Zp st id _).lvl=(Zp (Zp st id2 _) id _).lvl;rw[QC,QC,QC]
  ·show (Zp st id _).sto=(Zp (Zp st id2 _) id _).sto;rw[Yt,Yt,e1]
  ·show (Zp st id _).out=(Zp (Zp st id2 _) id _).out;unfold Zp at e2 ⊢;split<;>split at e2<;>simp_all
 have:=ZaB (C:=C) h hd hdn hc' key;refine this.mono ?_
 rintro v w' ⟨st',G',⟨s,hk,hm⟩,hs⟩
 exact⟨s,G',hk,hs.sm hm⟩
theorem Zi0{k:Nat}{x y:X}{d:Option Nat}{K:St->Prop}(he:X1 d k x y st K):ew C d st K (.ap k 2 x y):=by
 unfold X1 at he;simp only[ew];split at he<;>try contradiction
 rename_i id2 hy;simp only[hy];exact⟨trivial,he⟩
theorem Zrm(h:Sim F G st a w){k:Nat}{x y:X}{d:Option Nat}{K:St->Prop}(hd:d=oper.dst)(hdn:∀ y,d=some y->y<F.nt)(hc:Zs P (.a4 k x y) oper.op=true)(he:ew C d st K (.a4 k x y)):LOk P F a w oper K:=by
 have hc':Zs P (.ap k 2 x y) oper.op=true:=by simpa only[Zs] using hc
 refine ZaB (C:=C) h hd hdn hc' (Zi0 ?_);simp only[ew] at he;exact he.2
end
variable [Tabs]
theorem ZeZ:∀(obs:List Ob) (b:Nat) (st:St),({ st with loc:=addO b obs st.loc }:St).sto=ZW st.sto st.lvl b obs
 | [],b,st=>rfl
 | o::r,b,st=>by
  have h1:=ZeZ r (b+1) { st with loc:=ptO b o st.loc };have h2:=Yt st (st.lvl,b) o;have h3:Zp st (st.lvl,b) o = { st with loc:=ptO b o st.loc }:=by unfold Zp;simp
  rw[h3] at h2;simp only[addO,ZW];rw[<-h2];exact h1
section
variable {P:Program} {F:Fr} {G G':Gh} {st:St} {a:Act} {w w':World} {C:ZJ} {oper:Oper}
theorem Sim.got(h:Sim F G st a w){d:Option Nat}{key:Nat}{x:IV}{obs:List Ob}{v:Value}(hg:Got G st.sto w st.lvl key x obs v w')(hd:∀ y,d=some y->y<F.nt) :
  ∃ G',Sim F G' { st with env:=ptd d x st.env,loc:=addO key obs st.loc } (a.put d v) w':=by
 obtain⟨G',h1,h2,h3⟩:=hg;have hsto:({ st with env:=ptd d x st.env,loc:=addO key obs st.loc }:St).sto=ZW st.sto st.lvl key obs:=by rw[<-ZeZ];rfl
 refine⟨G',by cases d<;>exact h.dfr,by cases d<;>simp [Act.put,h.sz],fun s=>?_,by rw[hsto];exact h1,h.lvl,h.outl,by rw[hsto];exact h.fr.trans h3 (by show F.lvl<=st.lvl+1;rw[h.lvl];omega),h.fix⟩;rw[hsto,Act.put_get a d v s (by rw[h.sz];exact hd)];have h0:=h3.stab _ _ (h.men_lt (h.env s)) (h.env s);cases d with
 | none=>simpa [ptd] using h0
 | some d =>
  simp only[ptd,Uat];rw[Uv];by_cases hs:s=d
  ·rw[if_pos hs,if_pos hs.symm];exact h2
  ·rw[if_neg hs,if_neg (fun e=>hs e.symm)];exact h0
end
variable [Tabs]
section
variable {P:Program} {F:Fr} {G G':Gh} {st:St} {a:Act} {w w':World} {oper:Oper} {K:Yc} {b:Nat}
theorem Zi1{l:List IV}{vs:List Value}{ts:List Tr}{q:Bool}(h:Zu G st.sto w l vs)(ht:totrs l=some (ts,q)):∀(j:Nat) (t:Tr),ts[j]? = some t->∃ x,vs[j]? = some x/\Rds w (Av G st.sto w) x t:=fun j t hj=>by
 obtain⟨h1,h2,_⟩:=ZeB h ht;have hlt:j<vs.length:=by rw[<-h1];exact(Uad.1 hj).1
 exact⟨vs[j],Uak hlt,h2 j t _ hj (Uak hlt)⟩
theorem Zrn(h:Sim F G st a w){C:ZJ}{l:Nat}{x:X}(hc:Zs P (.bt x) oper.op=true)(he:ev C (xv st.env) st.sto K (.bt x)):EvOk P G st a w K l b oper:=by
 simp only[Zs] at hc;split at hc<;>try contradiction
 rename_i t y ho;have hx:=h.x hc;simp only[ev] at he;split at he<;>try contradiction
 rename_i c hcc;split at he<;>try contradiction
 rename_i ts q hts;obtain⟨hvs,_⟩:=WO hx hcc;have htt:=Zi1 hvs hts;have e:=Ext.alloc w (.cells (a.eval y).cells t);refine Res.of_run (v:=.pointer (some ⟨w.heap.size,0,none⟩)) (w':=w.alloc (.cells (a.eval y).cells t)) (by simp [execOp,ho,Instr.box,newVar,newRow,newObj,Sem.run]) ⟨_,_,he,G,h.ok.ext e,?_,Frm.of_ext e⟩;have hnew:=heap_alloc_new w (.cells (a.eval y).cells t);refine⟨w.heap.size,0,fun j=>((a.eval y).cells[j]?).getD undef,⟨?_,fun i ob hs ho=>?_⟩,rfl,fun j u hj=>?_⟩
 ·exact(UaE.1 hnew).1
 ·have:=Ys (h.ok.obs i ob hs) ho;omega
 ·obtain⟨u1,h1,h2⟩:=htt j u hj;have h1':(a.eval y).cells[j]? = some u1:=by simpa using h1
  rw[Uax,cell_of_row _ _ j (a.eval y).cells t (0,0) hnew,h1'];have h3:=h2.mono (A':=Av G st.sto (w.alloc (.cells (a.eval y).cells t))) (w':=w.alloc (.cells (a.eval y).cells t)) (fun blk hb=>ZbJ e blk hb) (fun blk hb=>e.heap blk hb.1);have hf:((a.eval y).cells[j]?).getD undef=u1:=by rw[h1'];rfl
  refine⟨by dsimp only;rw[hf],?_⟩;dsimp only;rw[hf];exact h3
theorem Zro(h:Sim F G st a w){C:ZJ}{l n:Nat}{x:X}(hc:Zs P (.sa n x) oper.op=true)(he:ev C (xv st.env) st.sto K (.sa n x)):EvOk P G st a w K l b oper:=by
 simp only[Zs] at hc;split at hc<;>try contradiction
 rename_i t y ho;simp only[Uae] at hc;have hx:=h.x hc.1;obtain⟨_,hc⟩:=hc;split at hc<;>try contradiction
 rename_i m e hu;simp only[Uae,beq_iff_eq] at hc;obtain⟨rfl,hsz⟩:=hc;simp only[ev] at he;split at he<;>try contradiction
 rename_i cells hq;rw[hq] at hx;obtain⟨b0,o,f,hb,hv,hcell⟩:=hx;obtain⟨hle,he⟩:=he;have hlen:((cells.take m).map fun c=>[c]).length=m:=by simp [hle]
 have hget:∀(i:Nat) (ee:List Tr) (j:Nat) (t:Tr),((cells.take m).map fun c=>[c])[i]? = some ee->ee[j]? = some t->j=0/\cells[i]? = some t:=fun i ee j t h1 h2=>by
  rw[Uao,UaB] at h1;split at h1
  ·cases hci:cells[i]? with
   | none=>rw[hci] at h1;cases h1
   | some c =>
    rw[hci] at h1;simp only[Option.map_some,Uat] at h1;subst h1;cases j with
    | zero=>simp at h2;exact⟨rfl,by rw[h2]⟩
    | succ j=>simp at h2
  ·cases h1
 have hr:=Rds.sl (w:=w) (A:=Av G st.sto w) b0 o m 1 ((cells.take m).map fun c=>[c]) (fun i j=>f i) hb (fun ee hee=>by obtain⟨c,_,rfl⟩:=Uau.1 hee;rfl) (by rw[hlen];exact Ual _)
  (fun i ee j t h1 h2=>by
   obtain⟨rfl,hci⟩:=hget i ee j t h1 h2;rw[Nat.mul_one,Nat.add_zero];exact(hcell i t hci).1)
  (fun i ee j t h1 h2=>(hcell i t (hget i ee j t h1 h2).2).2)
 rw[hlen] at hr;refine EvOk.pure h (v:=.slice (some ⟨b0,o,none⟩) m m) ?_ (x:=.cs _) ⟨⟨_,by rw[hlen]⟩,hr⟩ he;have hb:=Zas (P:=P) (w:=w) (isS:=false) (lo:=none) (hi:=none) (mx:=none) (len:=m) (cap:=m) (A:=0) (B:=m) (M:=m) (.inl ⟨rfl,rfl⟩) (.inl ⟨rfl,rfl,rfl⟩) (.inl ⟨rfl,rfl⟩) (UbC _) (Ual _) (Ual _);simp only[execOp,ho,Instr.sliceAt,Sem.run_bind,run_underlying hu,Result.andThen_ok,hv,Instr.sureAddr,hb,Vm hsz,Sem.run_pure,Option.map_none];congr 3;simp only[Nat.zero_mul,Addr.add];simp
theorem Zi2:∀{es:Row} {l:List UInt8},Vb es=some l->∃ ns:List Int,es=ns.map (fun n=>[Tr.v (.int .u8 n)])/\l=ns.map fun n=>UInt8.ofNat n.toNat
 | [],l,h=>by cases h;exact⟨[],rfl,rfl⟩
 | e::r,l,h=>by
  unfold Vb at h;split at h
  ·rename_i heq;cases heq
  ·rename_i n r' heq;cases heq;cases hr:Vb r with
   | none=>rw[hr] at h;cases h
   | some l' =>
    rw[hr] at h;cases h;obtain⟨ns,h1,h2⟩:=Zi2 hr;exact⟨n::ns,by rw[h1];rfl,by rw[h2];rfl⟩
  ·cases h
theorem Zrp{A:Nat->Prop}{v:Value}{es:Row}{l:List UInt8}{src dst e:TypeId}(hs:P.underlying src=some (.slice e))(he:P.underlying e=some (.int .u8))(hd:P.underlying dst=some .string)(h:Rds w A v (.sl es))(hl:Vb es=some l) :
  (convert src dst v).run P w = .ok (.string ⟨l.toArray⟩) w:=by
 obtain⟨ns,rfl,rfl⟩:=Zi2 hl;generalize ht:Tr.sl (ns.map fun n=>[Tr.v (.int .u8 n)])=t at h;cases h with
 | v x h=>cases ht
 | nil ad c =>
  have h0:ns=[]:=by simpa using ht
  subst h0;cases ad with
  | none=>exact run_convert_bytes_nil w src e hs he 0 c dst hd
  | some ad =>
   rw[run_convert_bytes_string w src dst e _ 0 c hs he hd,run_bytesToString w ad 0 c [] (by simpa using run_loadCells_list (P:=P) w ad [] (fun j v h=>by simp at h))];rfl
 | sl b0 o c k es f hA hk hlc hcell hr =>
  cases ht;have hk1:ns=[]\/k=1:=by
   cases ns with
   | nil=>exact .inl rfl
   | cons n r=>right;have:=hk [Tr.v (.int .u8 n)] (by simp);simpa using this.symm
  have:=run_convert_bytes_arg (P:=P) w src e hs he b0 o (ns.map fun n=>[Tr.v (.int .u8 n)]).length c ns (by simp) (fun i hi=>by
   have hi:i<ns.length:=(by simpa using hi);rcases hk1 with h0 | rfl
   ·subst h0;simp at hi
   ·have h1:(ns.map fun n=>[Tr.v (.int .u8 n)])[i]? = some [Tr.v (.int .u8 ns[i])]:=(by simp [hi]);have h2:=hcell i _ 0 _ h1 rfl;have h3:=hr i _ 0 _ h1 rfl;rw[Nat.mul_one,Nat.add_zero] at h2;rw[h2];generalize f i 0=fv at h3;cases h3;simp [List.getD,hi]) dst hd
  rw[this];rfl
theorem Zrq(h:Sim F G st a w){C:ZJ}{l:Nat}{x:X}(hc:Zs P (.sb x) oper.op=true)(he:ev C (xv st.env) st.sto K (.sb x)):EvOk P G st a w K l b oper:=by
 simp only[Zs] at hc;split at hc<;>try contradiction
 rename_i s d y ho;simp only[Uae] at hc;obtain⟨⟨hcx,hd⟩,hs⟩:=hc;split at hd<;>try contradiction
 rename_i hd';split at hs<;>try contradiction
 rename_i e hel;split at hs<;>try contradiction
 rename_i hu8;have hx:=h.x hcx;have Jt:∀{A:Nat->Prop} {es:Row} {bs:List UInt8},Rds w A (a.eval y) (.sl es)->Vb es=some bs->ZH K (iS ⟨bs.toArray⟩)->EvOk P G st a w K l b oper:=fun hr hb hK=>by refine EvOk.pure h (v:=.string _) ?_ (VR.mk rfl) hK;have:=Zrp (P:=P) (VA hel) hu8 hd' hr hb;simp only[execOp,ho,Sem.run_bind,this,Result.andThen_ok,Sem.run_pure]
 simp only[ev] at he;split at he<;>try contradiction
 ·rename_i es hq;rw[hq] at hx;obtain⟨bs,h1,h2⟩:=he;exact Jt hx h1 h2
 ·rename_i es hq;rw[hq] at hx;obtain⟨bs,h1,h2⟩:=he;exact Jt hx.2 h1 h2
 ·rename_i id p off len cap s0 hq;rw[hq] at hx;unfold JU at he;split at he<;>try contradiction
  rename_i k es u hw ver hs0;obtain⟨es',hg,hst,hle,bs,h1,h2⟩:=he;exact Jt (WQ (A:=fun _=>True) h.ok (fun _ _ _=>trivial) hs0 (fun _ _=>trivial) hx hst hg hle).1 h1 h2
theorem Wf{ρ:X->IV}{x:Option X}{n:Nat}{K K':Nat->Prop}(h:∀ a,K a->K' a)(hb:ZT ρ x n K):ZT ρ x n K':=by
 unfold ZT at *;split at hb<;>try contradiction
 ·exact h _ hb
 ·split at hb<;>try contradiction
  exact⟨hb.1,h _ hb.2⟩
theorem Zrr(h:Sim F G st a w):∀(o:O),JA o=false->(∀ mk obs,K mk obs->YR st.sto st.lvl b (obs st.lvl b).length)->Zs P o oper.op=true->ev (Sem P) (xv st.env) st.sto K o->EvOk P G st a w K st.lvl b oper
 | .mv x none,_,_,hc,he=>Zqa h hc he
 | .mv x (some k),_,hf,hc,he=>ZqD h hf hc he
 | .bx x,_,hf,hc,he=>ZqE h rfl hf hc he
 | .al z nz,_,hf,hc,he=>ZqH h hf hc he
 | .bd z ps nz,_,hf,hc,he=>ZqK h hf hc he
 | .bs k n z ps,_,hf,hc,he=>ZqJ h hf hc he
 | .bc k n z ps,_,_,hc,he=>Zrg h hc he
 | .bw ..,hl,_,_,_=>by cases hl
 | .a3 k x y,_,_,hc,he=>Zrh h hc he
 | .bv k n z ps,_,hf,hc,he=>Zrb h rfl hf hc he
 | .ld none p,_,_,hc,he=>Zet h hc he
 | .ld (some m) p,_,_,hc,he=>Zeu h hc he
 | .st ..,hl,_,_,_=>by cases hl
 | .gv ..,hl,_,_,_=>by cases hl
 | .mk,hl,_,_,_=>by cases hl
 | .mu ..,hl,_,_,_=>by cases hl
 | .ml ..,hl,_,_,_=>by cases hl
 | .sk ..,hl,_,_,_=>by cases hl
 | .bi op w x y,_,_,hc,he=>Zqi h hc he
 | .qa neg ks x y,_,_,hc,he=>ZqQ h hc he
 | .nt x,_,_,hc,he=>Zqb h hc he
 | .ng x,_,_,hc,he=>Zqc h hc he
 | .cv c x,_,_,hc,he=>Zqs h hc he fun e=>by subst e;exact Zrf h hc he
 | .mf f cs,_,_,hc,he=>Zql h hc he
 | .ms k z l,_,hf,hc,he=>ZqL h hf hc he
 | .sx k x lo hi mx,_,_,hc,he=>ZeD h hc he
 | .ss x lo hi,_,_,hc,he=>ZqM h hc he
 | .fa off p,_,_,hc,he=>Zqx h hc he
 | .fd off m x,_,_,hc,he=>Zqz h hc he
 | .ia k x i,_,_,hc,he=>Ziq h hc he
 | .ja k n p i,_,_,hc,he=>Zqy h hc he
 | .ix x i,_,_,hc,he=>Zqr h hc he
 | .jx k n m x i,_,_,hc,he=>ZqA h hc he
 | .ln x,_,_,hc,he=>Zqo h hc he
 | .lg x,_,_,hc,he=>Zqp h hc he
 | .la n,_,_,hc,he=>Zqq h hc he
 | .ap ..,hl,_,_,_=>by cases hl
 | .nl ..,hl,_,_,_=>by cases hl
 | .cp ..,hl,_,_,_=>by cases hl
 | .sh ..,hl,_,_,_=>by cases hl
 | .cl ..,hl,_,_,_=>by cases hl
 | .cy ..,hl,_,_,_=>by cases hl
 | .c0 ..,hl,_,_,_=>by cases hl
 | .fz ..,hl,_,_,_=>by cases hl
 | .rk ..,hl,_,_,_=>by cases hl
 | .mz ..,hl,_,_,_=>by cases hl
 | .lz ..,hl,_,_,_=>by cases hl
 | .a1 ..,hl,_,_,_=>by cases hl
 | .a2 ..,hl,_,_,_=>by cases hl
 | .a4 ..,hl,_,_,_=>by cases hl
 | .xx,hl,_,_,_=>by cases hl
 | .s0 ..,hl,_,_,_=>by cases hl
 | .a0 ..,hl,_,_,_=>by cases hl
 | .az ..,hl,_,_,_=>by cases hl
 | .sy k x lo hi mx,_,_,hc,he=>ZeD (C:=Sem P) h (by simpa only[Zs] using hc) (by
   simp only[ev] at he ⊢;split at he<;>first | exact he.elim | (rename_i hq;simp only[hq];exact he))
 | .sw k x lo hi mx,_,_,hc,he=>ZeD (C:=Sem P) h (by simpa only[Zs] using hc) (by
   simp only[ev] at he ⊢;generalize xv st.env x=qx at he ⊢;split at he
   ·exact he
   ·exact he
   ·exact Wf (fun a h=>Wf (fun b h=>⟨h.1,h.2.1,Wf (fun m g=>⟨g.1,g.2.1,he.1,g.2.2⟩) h.2.2⟩) h) he.2
   ·exact he.elim)
 | .lt none p,_,_,hc,he=>Zet (C:=Sem P) h (by simpa only[Zs] using hc) (by
   simp only[ev] at he ⊢;split at he<;>first | exact he.elim | (rename_i hq;simp only[hq];exact he))
 | .lt (some m) p,_,_,hc,he=>Zeu (C:=Sem P) h (by simpa only[Zs] using hc) (by
   simp only[ev] at he ⊢;split at he<;>first | exact he.elim | (rename_i hq;simp only[hq];exact he))
 | .lb none p _,_,_,hc,he=>Zet (C:=Sem P) h (by simpa only[Zs] using hc) (by
   simp only[ev] at he ⊢;replace he:=he.2;split at he<;>first | exact he.elim | (rename_i hq;simp only[hq];exact he))
 | .lb (some m) p _,_,_,hc,he=>Zeu (C:=Sem P) h (by simpa only[Zs] using hc) (by
   simp only[ev] at he ⊢;replace he:=he.2;split at he<;>first | exact he.elim | (rename_i hq;simp only[hq];exact he))
 | .it k x i,_,_,hc,he=>Ziq (C:=Sem P) h (by simpa only[Zs] using hc) (by
   simp only[ev] at he ⊢;generalize xv st.env i=qi at he ⊢;generalize xv st.env x=qx at he ⊢;split at he<;>first | exact he.elim | skip
   refine⟨he.1,?_⟩;have he2:=he.2;split at he2<;>first | exact he2.elim | exact he2)
 | .mm mx x y,_,_,hc,he=>Zqn h hc he
 | .ex i x,_,_,hc,he=>Zqk h hc he
 | .pk c x y,_,_,hc,he=>Zqj h hc he
 | .ca .pure imp f xs,_,hf,hc,he=>ZqZ h rfl hf hc he
 | .ca .see imp f xs,_,hf,hc,he=>Zq1 h rfl hf hc he
 | .ca .same ..,hl,_,_,_=>by cases hl
 | .ca .keep ..,hl,_,_,_=>by cases hl
 | .ca .any ..,hl,_,_,_=>by cases hl
 | .nc x,_,_,hc,he=>Zqm h hc he
 | .bt x,_,_,hc,he=>Zrn h hc he
 | .sa n x,_,_,hc,he=>Zro h hc he
 | .sb x,_,_,hc,he=>Zrq h hc he
theorem ZaC{st:St}:∀{n b:Nat},freshK b st.loc n->YR st.sto st.lvl b n
 | 0,_,_,j,hj=>by omega
 | n+1,b,h,j,hj=>by
  cases j with
  | zero=>rw[Nat.add_zero,QW rfl];exact h.1
  | succ j =>
   have:=ZaC h.2 j (by omega);rwa [show b+1+j=b+(j+1) from by omega] at this
theorem Zrs{S:Zb}{x:IV}{v:Value}(h:VR G S w x v):VR G S w (Va x) v:=by
 unfold Va;split
 ·exact h.2
 ·exact h
theorem Ze0{S:Zb}:∀{l:List IV} {vs:List Value},Zu G S w l vs->Zu G S w (l.map Va) vs
 | [],_,h=>h
 | x::r,_,h=>by obtain⟨v,vr,rfl,h1,h2⟩:=h;exact⟨v,vr,rfl,Zrs h1,Ze0 h2⟩
theorem Zrt(h:Sim F G st a w){imp:Bool}{f:X}{xs:List X}{d:Option Nat}{Kw:St->Prop}(hd:d=oper.dst)(hdn:∀ y,d=some y->y<F.nt)(hc:Zs P (.ca .same imp f xs) oper.op=true)
  (he:ew (Sem P) d st Kw (.ca .same imp f xs)):LOk P F a w oper Kw:=by
 subst hd;simp only[Zs] at hc;split at hc<;>try contradiction
 rename_i g args at1 ho;simp only[Uae] at hc;have hg:=h.x hc.1;have hargs:=h.xs hc.2;simp only[ew] at he;split at he<;>try contradiction
 rename_i fid caps hq;obtain⟨r,⟨hr,⟨fn,hf,hb,hn⟩,hcall⟩,hfr,hk⟩:=he;rw[hq] at hg;simp only[VR] at hg;obtain⟨cvs,hg,hcv⟩:=hg;have hcl:=h.clean;have hrun:=Dg (P:=P) (w:=w) (caps:=cvs) ho hg hf hb hn;have hc:=hcall hcl G w (args.toList.map a.eval++cvs) h.ok (Zal (Ze0 hargs) hcv) (h.fr.fix h.fix);refine Res.of_enter hrun ?_;have harr:(args.map a.eval++cvs.toArray)=(args.toList.map a.eval++cvs).toArray:=by cases args;simp
 rw[harr];refine hc.mono ?_
 rintro e w' ⟨v,G1,rfl,h1,h2,_,h3⟩
 have hgot:=Zav (l:=st.lvl) (b:=keyOf oper.dst) (imp:=imp) hr hcl h1 h2 h3 (ZaC hfr);obtain⟨G',hG'⟩:=h.got hgot hdn;exact⟨v,rfl,_,G',hk,hG'⟩
theorem Zru(h:Sim F G st a w){imp:Bool}{f:X}{xs:List X}{d:Option Nat}{Kw:St->Prop}(hd:d=oper.dst)(hdn:∀ y,d=some y->y<F.nt)(hc:Zs P (.ca .keep imp f xs) oper.op=true)
  (he:ew (Sem P) d st Kw (.ca .keep imp f xs)):LOk P F a w oper Kw:=by
 subst hd;simp only[Zs] at hc;split at hc<;>try contradiction
 rename_i g args at1 ho;simp only[Uae] at hc;have hg:=h.x hc.1;have hargs:=h.xs hc.2;simp only[ew] at he;split at he<;>try contradiction
 rename_i fid caps hq;obtain⟨r,⟨hr,⟨fn,hf,hb,hn⟩,hcall⟩,hfr,hk⟩:=he;rw[hq] at hg;simp only[VR] at hg;obtain⟨cvs,hg,hcv⟩:=hg;have hcl:=h.clean;have hrun:=Dg (P:=P) (w:=w) (caps:=cvs) ho hg hf hb hn;have hc:=hcall hcl G w (args.toList.map a.eval++cvs) h.ok (Zal hargs hcv) (h.fr.fix h.fix);refine Res.of_enter hrun ?_;have harr:(args.map a.eval++cvs.toArray)=(args.toList.map a.eval++cvs).toArray:=by cases args;simp
 rw[harr];refine hc.mono ?_
 rintro e w' ⟨v,G1,rfl,h1,h2,_,h3⟩
 have hgot:=Zav (l:=st.lvl) (b:=keyOf oper.dst) (imp:=imp) hr hcl h1 h2 h3 (ZaC hfr);obtain⟨G',hG'⟩:=h.got hgot hdn;exact⟨v,rfl,_,G',hk,hG'⟩
end
end Go.Fd
namespace Go.Fd
variable [Tabs]
section
variable {P:Program} {F:Fr} {G G':Gh} {st:St} {a:Act} {w w':World} {oper:Oper} {K:Yc} {b:Nat}
theorem Zrv(h:Sim F G st a w){neg:Bool}{x:X}{d:Option Nat}{Kw:St->Prop}{C:ZJ}(hd:d=oper.dst)(hdn:∀ y,d=some y->y<F.nt)(hc:Zs P (.nl neg x) oper.op=true)
  (he:ew C d st Kw (.nl neg x)):LOk P F a w oper Kw:=by
 subst hd;simp only[Zs] at hc;split at hc<;>try contradiction
 rename_i op t x' y' g ho;simp only[Uae,decide_eq_true_eq] at hc;obtain⟨⟨⟨hop,hx⟩,ht⟩,hy⟩:=hc;split at ht<;>try contradiction
 rename_i e ht';split at hy<;>try contradiction
 rename_i n c;have hx:=h.x hx;have Jt:∀ r:Bool,(execOp a.eval oper).run P w = .ok (.value (.bool r)) w->Kw { st with env:=ptd oper.dst (iB r) st.env }->LOk P F a w oper Kw:=fun r hr hk=>by obtain⟨G',hs⟩:=h.got (key:=0) (Got.pure (l:=st.lvl) h.ok (show VR G st.sto w (iB r) (.bool r) from .v _ rfl)) hdn;exact Res.of_run hr ⟨_,G',hk,hs⟩
 have run:∀(ad:Option Addr) (m k:Nat),a.eval x' = .slice ad m k->(execOp a.eval oper).run P w = .ok (.value (.bool (if neg then !ad.isNone else ad.isNone))) w:=fun ad m k hv=>by
  have hg:(eqGuard op t x' (.const (.slice none n c)) (.slice ad m k) (.slice none n c)).run P w = .ok () w:=by unfold eqGuard;split<;>rfl
  have hce:a.eval (.const (.slice none n c)) = .slice none n c:=rfl;subst hop;cases neg<;>simp only[Ua0,if_false,if_true] at hg ho ⊢
  ·have:=Lib.run_equalIn_slice_nil (P:=P) w 9999 t e ad m k n c ht';simp only[execOp,ho,hv,hce];simp [hg,binOp,Op.equal,Op.maxDepth,this]
  ·have:=Lib.run_equalIn_slice_nil (P:=P) w 9999 t e ad m k n c ht';simp only[execOp,ho,hv,hce];simp [hg,binOp,Op.equal,Op.maxDepth,this]
 have key:∀{A:Nat->Prop} {es:Row},Rds w A (a.eval x') (.sl es)->Kw { st with env:=ptd oper.dst (iB neg) st.env }->(es=[]->Kw { st with env:=ptd oper.dst (iB !neg) st.env })->LOk P F a w oper Kw:=fun {A es} hr h1 h2=>by
  generalize hv:a.eval x'=v at hr;generalize htt:Tr.sl es=tt at hr;cases hr with
  | v _ hh=>cases htt
  | nil ad k =>
   cases htt;have hr:=run ad 0 k hv;cases ad with
   | none=>exact Jt _ (by cases neg<;>exact hr) (h2 rfl)
   | some _=>exact Jt _ (by cases neg<;>exact hr) h1
  | sl b0 o k1 k es f hA hk hlc hcell hrr =>
   have hr:=run _ _ _ hv;exact Jt _ (by cases neg<;>exact hr) h1
 simp only[ew] at he;split at he<;>try contradiction
 ·rename_i es hq;rw[hq] at hx;exact key hx he.1 he.2
 ·rename_i es hq;rw[hq] at hx;exact key hx.2 he.1 he.2
theorem Zi3{es es2:Row}{m:Nat}{p:Zn}(hp:p≠[])(h:getp (es.take m) p=some es2):getp es p=some es2:=by
 cases p with
 | nil=>exact absurd rfl hp
 | cons cd q =>
  obtain⟨c,d⟩:=cd;obtain⟨e,x,g1,g2,g3⟩:=Vn h;rw[UaB] at g1;split at g1
  ·exact QY g1 g2 g3
  ·cases g1
theorem Zi4(h:Sim F G st a w){id:Zd}{k:Nat}{es es':Row}{u:Bool}{hw ver:Nat}(hs:st.sto id=some (.ar k es u hw ver))(hle:es'.length<=hw)(hun:ZC k es')
  (hsub:∀ p es2,p≠[]->getp es' p=some es2->getp es p=some es2) (size:w.heap.size<=w'.heap.size) (heap:∀ blk,(∀ c,G id []≠some (blk,c))->w'.heap[blk]? = w.heap[blk]?)
  (hos:w'.os=w.os) (htape:w'.tape=w.tape) (hout:w'.output=w.output)
  (hrow:∀ A:Nat->Prop,(∀ blk,Av G st.sto w blk->A blk)->(∀ blk,Av G st.sto w blk->w'.heap[blk]? = w.heap[blk]?)->Z7 G w' A id [] k u es') :
  Stp F a G st (Zp st id (.ar k es' u hw (ver+1))) w w' G:=by
 have hsome:∀ q,(getp es' q).isSome=true->(getp es q).isSome=true:=fun q hq=>by
  cases q with
  | nil=>rfl
  | cons c r =>
   obtain⟨es2,h2⟩:=Uan.1 hq;rw[hsub _ es2 (by simp) h2];rfl
 obtain⟨o1,o2,o3,o4,o5⟩:=h.ok.obs _ _ hs
 have ht:=h.turn (Kl.refl st) (id:=id) (ob':=.ar k es' u hw (ver+1)) (d:=none) (x:=.un) (v:=undef) (G':=G) (w':=w') (fun h=>h) (.inr (by rw[hs];rfl)) (fun _ _=>rfl) size
  (fun blk hb hn=>heap blk fun c hg=>hn _ hs ⟨[],c,.inl rfl,rfl,hg⟩)
  (fun blk ho=>by
   obtain⟨q,cq,hq,hqs,hgq⟩:=ho;exact .inl ⟨id,_,.inl rfl,hs,q,cq,hq,hsome q hqs,hgq⟩)
  (fun ob ho=>by
   rw[hs] at ho;cases ho;refine⟨rfl,Ual _,Nat.le_succ _,fun q s2 hbd hq=>?_⟩;cases q with
   | nil=>exact⟨hq,fun es1 he=>⟨rfl,es',rfl,fun k' hkk _=>by rw[hkk rfl];exact hun⟩⟩
   | cons c r =>
    have h1:s2<=ver:=hbd;have h2:u=true/\s2=ver+1:=hq;omega)
  hos htape hout (fun t=>⟨hle,hun,o3,fun p es2 hp he=>by
   cases p with
   | nil =>
    simp only[getp,Uat] at he;subst he;exact hrow _ t.av t.same
   | cons c r =>
    have hg0:=hsub _ es2 (by simp) he;exact Zen rfl t.av t.same (fun b1 c1 hg=>heap b1 fun c2 hg2=>by
     have:=o5 _ [] b1 c1 c2 hp (.inl rfl) (by rw[hg0];rfl) rfl hg hg2;cases this) (o4 _ es2 hp hg0),fun p p' b1 c1 c2 hp hp' g1 g2=>o5 p p' b1 c1 c2 hp hp' (hsome p g1) (hsome p' g2)⟩) (fun _ he=>by cases he) (fun _ he=>by cases he) (fun _=>trivial)
 rw[QZ] at ht;exact Stp.of ht.1 (by rw[Yt];exact ht.2) fun j hj=>⟨fun h=>h,by rw[show j=id from hj,hs];rfl⟩
theorem Ze1(h:Sim F G st a w){id:Zd}{k:Nat}{es:Row}{u:Bool}{hw ver:Nat}(hs:st.sto id=some (.ar k es u hw ver))(m:Nat) :
  Stp F a G st (Zp st id (.ar k (es.take m) u hw (ver+1))) w w G:=by
 obtain⟨o1,o2,o3,o4,o5⟩:=h.ok.obs _ _ hs;refine Zi4 h hs (by rw[Uai];omega) (fun e he=>o2 e (UaS he)) (fun p es2 hp he=>Zi3 hp he) (Ual _) (fun _ _=>rfl) rfl rfl rfl fun A hA hh=>?_;have hr:=o4 [] es (.inl rfl) rfl;unfold Z7 at *;cases hg:G id [] with
 | none =>
  rw[hg] at hr;simp only at hr ⊢;rw[hr];exact List.take_nil
 | some bc =>
  obtain⟨b1,c1⟩:=bc;rw[hg] at hr;simp only at hr ⊢;obtain⟨k',vs,ty,h1,h2,h3,h4,h5,h6⟩:=hr;refine⟨k',vs,ty,h1,fun e he=>h2 e (UaS he),h3,h4,by rw[Uai];omega,fun i e f t hi hf=>?_⟩;rw[UaB] at hi;split at hi
  ·obtain⟨x,hx,hc⟩:=h6 i e f t hi hf;exact⟨x,hx,U8 rfl hA hh hc⟩
  ·cases hi
theorem Zi5(h:Sim F G st a w){id:Zd}{k:Nat}{es es':Row}{u:Bool}{hw ver:Nat}(hs:st.sto id=some (.ar k es u hw ver)){b1 c1:Nat}{vs vs':Array Value}{ty:TypeId}(hG:G id []=some (b1,c1))(hh:w.heap[b1]? = some (.cells vs ty (0,0)))
  (hsz:vs'.size=vs.size) (hle:es'.length<=hw) (hun:ZC k es') (hsub:∀ p es2,p≠[]->getp es' p=some es2->getp es p=some es2)
  (hrow:∀(i:Nat) (e:List Tr) (f:Nat) (t:Tr),es'[i]? = some e->e[f]? = some t->(∃ y,t = .v y/\Jw y=true/\vs'[i*k+f]? = some y)\/(vs'[i*k+f]? = vs[i*k+f]?/\∃ e0,es[i]? = some e0/\e0[f]? = some t)) :
  Stp F a G st (Zp st id (.ar k es' u hw (ver+1))) w (w.setRow b1 vs') G:=by
 obtain⟨o1,o2,o3,o4,o5⟩:=h.ok.obs _ _ hs;refine Zi4 h hs hle hun hsub (by simp) (fun blk hb=>setRow_other w b1 blk _ (fun e=>hb c1 (by rw[e];exact hG))) rfl rfl rfl fun A hA hhA=>?_;have hr:=o4 [] es (.inl rfl) rfl;unfold Z7 at *;rw[hG] at hr ⊢;rw[hG] at o3;simp only[Vx] at o3;obtain⟨k',vs0,ty0,h1,h2,h3,h4,h5,h6⟩:=hr;rw[hh] at h3;cases h3;have hkk:=h1 rfl;subst hkk;refine⟨k',vs',ty,fun _=>rfl,hun,setRow_heap w b1 vs _ ty (0,0) hh,by rw[hsz];exact h4,by omega,fun i e f t hi hf=>?_⟩;rcases hrow i e f t hi hf with ⟨y,rfl,hy,hv⟩ | ⟨hv,e0,he0,hf0⟩
 ·exact⟨y,hv,rfl,hy⟩
 ·obtain⟨x,hx,hc⟩:=h6 i e0 f t he0 hf0;exact⟨x,by rw[hv];exact hx,U8 rfl hA hhA hc⟩
theorem Stp.put{st':St}(t:Stp F a G st st' w w' G'){d:Option Nat}{x:IV}{v:Value}(hd:∀ y,d=some y->y<F.nt)(hx:VR G' st'.sto w' x v)(he:st'.env=st.env):Sim F G' { st' with env:=ptd d x st.env } (a.put d v) w':=by have:=t.sim.put (d:=d) hx hd;rw[he] at this;exact this
theorem Zrw(h:Sim F G st a w){x:X}{d:Option Nat}{Kw:St->Prop}{C:ZJ}(hd:d=oper.dst)(hdn:∀ y,d=some y->y<F.nt)(hc:Zs P (.cp x) oper.op=true)
  (he:ew C d st Kw (.cp x)):LOk P F a w oper Kw:=by
 subst hd;simp only[Zs] at hc;split at hc<;>try contradiction
 rename_i args at1 ho;split at hc<;>try contradiction
 rename_i y t hy ht;obtain⟨args⟩:=args;simp only at hy;subst hy;simp only[Uae,Uan] at hc;obtain⟨hx,e,hel⟩:=hc;have hu:=VA hel;have hx:=h.x hx;simp only[ew] at he;split at he<;>try contradiction
 rename_i es hq;rw[hq] at hx;obtain⟨⟨v,hv⟩,_⟩:=hx;have hr:(execOp a.eval oper).run P w = .ok (.value (.int .i64 es.length)) w:=by simp [execOp,ho,resolve,invoke,builtin,Builtin.cap_,ht,run_underlying hu,hv,goInt]
 obtain⟨G',hs⟩:=h.got (key:=0) (Got.pure (l:=st.lvl) h.ok (show VR G st.sto w (iI es.length) (.int .i64 es.length) from .v _ rfl)) hdn;exact Res.of_run hr ⟨_,G',he,hs⟩
theorem Zrx(h:Sim F G st a w){k:Nat}{x hi:X}{d:Option Nat}{Kw:St->Prop}{C:ZJ}(hd:d=oper.dst)(hdn:∀ y,d=some y->y<F.nt)(hc:Zs P (.sh k x hi) oper.op=true)
  (he:ew C d st Kw (.sh k x hi)):LOk P F a w oper Kw:=by
 subst hd;simp only[Zs] at hc;split at hc<;>try contradiction
 rename_i t y h0 ho;simp only[Uae] at hc;obtain⟨⟨hx,c2⟩,hc⟩:=hc;split at hc<;>try contradiction
 rename_i e0 hel;have hu:=VA hel;have hsz:JB P e0=some k:=by simpa using hc
 have hx:=h.x hx;have hh:=h.x c2;simp only[ew] at he;split at he<;>try contradiction
 ·rename_i es hq;split at he<;>try contradiction
  rename_i kk m hm;obtain⟨rfl,hun,hK⟩:=he;rw[hq] at hx;rw[hm] at hh;obtain⟨hh,_⟩:=hh.val;obtain⟨⟨ad,hv⟩,hx⟩:=hx;rw[hv] at hx;have hb:=Zas (P:=P) (w:=w) (isS:=true) (lo:=none) (hi:=some (a.eval h0)) (mx:=none) (len:=es.length) (cap:=es.length) (A:=0) (B:=es.length) (M:=es.length) (.inl ⟨rfl,rfl⟩) (.inr ⟨kk,by rw[hh]⟩) (.inl ⟨rfl,rfl⟩) (UbC _) (Ual _) (Ual _);have hr:(execOp a.eval oper).run P w = .ok (.value (.slice (if es.length=0 then ad else ad.map (·.add (0*k))) (es.length-0) (es.length-0))) w:=by simp only[execOp,ho,Instr.sliceAt,Sem.run_bind,run_underlying hu,Result.andThen_ok,Instr.slice,hv,Option.map_none,Option.map_some,hb,Vm hsz,Sem.run_pure]
  have hcut:=Rds.cut (k:=k) hx (UbC _) (Ual _) (Ual es.length) (.inl rfl);have he0:cut es 0 (es.length-0)=es:=by simp [cut]
  rw[he0] at hcut;obtain⟨G',hs⟩:=h.got (key:=0) (Got.pure (l:=st.lvl) h.ok (show VR G st.sto w (.cs es) (.slice (if es.length=0 then ad else ad.map (·.add (0*k))) (es.length-0) (es.length-0)) from ⟨⟨_,rfl⟩,hcut⟩)) hdn;exact Res.of_run hr ⟨_,G',hK,hs⟩
 rename_i id p off len cap s hq;split at he<;>try contradiction
 rename_i kk m hm;split at he<;>try contradiction
 rename_i k2 es u hw ver hs;obtain⟨rfl,rfl,rfl,rfl,rfl,hm0,hml,hle,hK⟩:=he;rw[hq] at hx;rw[hm] at hh;obtain⟨hh,_⟩:=hh.val;obtain⟨_,k3,es3,u3,hw3,ver3,hs3,_,hrel⟩:=hx;rw[hs] at hs3;cases hs3;obtain⟨es4,k',ad,c,hg4,hkk,hun,hv,hlc,_,hcap,hor⟩:=hrel rfl;simp only[getp,Uat] at hg4;subst hg4;have hkk:=hkk rfl;subst hkk;obtain⟨B,rfl⟩:=Int.eq_ofNat_of_zero_le hm0;rw[Int.toNat_natCast] at hml hK;have hb:=Zas (P:=P) (w:=w) (isS:=true) (lo:=none) (hi:=some (a.eval h0)) (mx:=none) (len:=len) (cap:=c) (A:=0) (B:=B) (M:=c) (.inl ⟨rfl,rfl⟩) (.inr ⟨kk,by rw[hh]⟩) (.inl ⟨rfl,rfl⟩) (UbC _) (by omega) (Ual _);have hr:(execOp a.eval oper).run P w = .ok (.value (.slice (if c=0 then ad else ad.map (·.add (0*k'))) (B-0) (c-0))) w:=by simp only[execOp,ho,Instr.sliceAt,Sem.run_bind,run_underlying hu,Result.andThen_ok,Instr.slice,hv,Option.map_none,Option.map_some,hb,Vm hsz,Sem.run_pure]
 have hst:=Ze1 h hs B;refine Res.of_run hr ⟨_,G,hK,hst.put hdn ?_ (WS _ _ _)⟩;rw[Yt];refine⟨⟨_,_,rfl,by omega⟩,k',es.take B,u,s,ver+1,by unfold Zo;rw[if_pos rfl],Ual _,fun _=>⟨es.take B,k',_,_,rfl,fun _=>rfl,fun e he=>hun e (UaS he),rfl,by omega,fun m hm=>by simp at hm,fun h1 h2=>by have:=hcap h1 h2;omega,?_⟩⟩;rcases hor with h0 | ⟨h0,_⟩ | ⟨b1,c0,hG,rfl,hcc⟩
 ·exact .inl (by omega)
 ·exact absurd rfl h0
 ·by_cases hc0:c=0
  ·exact .inl (by omega)
  ·exact .inr (.inr ⟨b1,c0,hG,by simp [hc0,YJ],by omega⟩)
theorem Zry{z:Value}{zl:List Value}(h1:z.cells.toList=zl)(h2:∀ x∈zl,Jw x=true\/x = .slice none 0 0)(n:Nat):∀ v∈(Builtin.zeroCells z.cells n).toList,v.oneCell'=true:=fun v hv=>by
 simp only[Builtin.zeroCells,Ubz,Uau] at hv;obtain⟨i,hi,rfl⟩:=hv;have hi2:i<n*z.cells.size:=by simpa using hi
 have hz:0<z.cells.size:=by
  rcases Nat.eq_zero_or_pos z.cells.size with h | h
  ·rw[h] at hi2;simp at hi2
  ·exact h
 have hlt:=Nat.mod_lt i hz;have:z.cells[i % z.cells.size]! = z.cells[i % z.cells.size]:=by simp [hlt]
 rw[this];have hm:z.cells[i % z.cells.size]∈zl:=by rw[<-h1];simp
 rcases h2 _ hm with h | h
 ·generalize z.cells[i % z.cells.size]=y at h;cases y<;>first | rfl | simp [Jw] at h
 ·rw[h];rfl
theorem Zrz(h:Sim F G st a w){x:X}{d:Option Nat}{Kw:St->Prop}{C:ZJ}(hd:d=oper.dst)(hdn:∀ y,d=some y->y<F.nt)(hc:Zs P (.fz x) oper.op=true)
  (he:ew C d st Kw (.fz x)):LOk P F a w oper Kw:=by
 subst hd;simp only[Zs] at hc;split at hc<;>try contradiction
 all_goals
  rename_i y ho;have hx:=h.x hc;simp only[ew] at he;split at he<;>try contradiction
  rename_i id len s hq;obtain⟨hl,he⟩:=he;split at he<;>try contradiction
  rename_i k2 zs u hw ver hs;obtain⟨rfl,rfl,hK⟩:=he;rw[hq] at hx;obtain⟨h3,h4⟩:=Zay h hs hl hx;have hr:(execOp a.eval oper).run P w = .ok (.value (a.eval y)) w:=by simp [execOp,ho]
  exact Res.of_run hr ⟨_,G,hK,h3.sim.put (show VR G (Zw id st).sto w (.tr (.sl zs)) (a.eval y) from h4) hdn⟩
theorem Zi6(h:Sim F G st a w){id0:Zd}(hl:id0.1=st.lvl):Stp F a G st (Vv id0 st) w w G/\(Vv id0 st).sto id0=none/\(Vv id0 st).lvl=st.lvl /\
  ∀ i,i≠id0->∀(k:Nat) (es:Row) (u:Bool) (hw ver:Nat),st.sto i=some (.ar k es u hw ver)->(Vv id0 st).sto i=some (.ar k es u hw ver):=by
 unfold Vv;split
 ·rename_i hs;exact⟨Stp.refl h,hs,rfl,fun _ _ _ _ _ _ _ h=>h⟩
 ·rename_i ob hs;have kl:=(Kl.refl st).step (fun j cells hj=>h.ok.low j cells hj) h.outl hl (by rw[hs];rfl);obtain⟨h1,h2⟩:=h.kl kl;refine⟨Stp.of h1 h2 (fun _ hf=>hf.elim),by rw[Wa hl hl,if_pos rfl],rfl,fun i hi k es u hw ver hsi=>?_⟩;by_cases hil:i.1=st.lvl
  ·rw[Wa hil hl,if_neg hi,hsi];rfl
  ·rw[Zax hil,hsi]
theorem Sim.ren(h:Sim F G st a w){id id0:Zd}{k:Nat}{zs:Row}{u:Bool}{hw ver:Nat}(hl:id.1=st.lvl)(hl0:id0.1=st.lvl)(hne:id0≠id)(hs:st.sto id=some (.ar k zs u hw ver))(h0:st.sto id0=none)
  {d:Option Nat} {v:Value} (hd:∀ y,d=some y->y<F.nt) (hv:Vk G st.sto id [] 0 zs.length none hw v) :
  ∃ G',Sim F G' { Zp (Zw id st) id0 (.ar k zs u hw ver) with env:=ptd d (.hd id0 [] 0 zs.length none hw) (Zw id st).env } (a.put d v) w:=by
 have k1:=(Kl.refl st).step (fun j cells hj=>h.ok.low j cells hj) h.outl hl (by rw[hs];rfl);obtain⟨G',hG⟩:∃ G':Gh,G'=fun i=>if i=id0 then G id else G i:=⟨_,rfl⟩
 have g0:G' id0=G id:=by rw[hG];exact if_pos rfl
 have g1:∀ i,i≠id0->G' i=G i:=fun i hi=>by rw[hG];exact if_neg hi
 have hob:=h.ok.obs _ _ hs
 refine⟨G',(h.turn k1 (id:=id0) (ob':=.ar k zs u hw ver) (G':=G') (w':=w) (d:=d) (x:=.hd id0 [] 0 zs.length none hw) (v:=v) (fun hf=>hf.elim (fun q=>q) hne) (.inl hl0) g1 (Ual _) (fun _ _ _=>rfl)
  (fun b hb=>.inl ⟨id,_,.inr (.inr rfl),hs,?_⟩) (fun ob hob=>by rw[h0] at hob;cases hob) rfl rfl rfl (fun t=>?_) (fun _ hc=>by cases hc) hd (fun t=>?_)).1⟩
 ·obtain⟨p,c,q1,q2,q3⟩:=hb;exact⟨p,c,q1,q2,by rw[g0] at q3;exact q3⟩
 ·obtain⟨o1,o2,o3,o4,o5⟩:=hob;refine⟨o1,o2,by rw[g0];exact o3,fun p es' hp hg=>ZbW g0 (fun b hb=>t.av b hb) (o4 p es' hp hg),fun p p' b c c' => ?_⟩;rw[g0];exact o5 p p' b c c'
 ·obtain⟨⟨a0,c0,hv0,hle⟩,k3,es3,u3,hw3,ver3,hs3,hb,hrel⟩:=hv;rw[hs] at hs3;cases hs3;refine⟨⟨a0,c0,hv0,hle⟩,k,zs,u,hw,ver,by unfold Zo;rw[if_pos rfl],hb,fun hst=>?_⟩;obtain⟨es',k',a',c',q1,q2,q3,q4,q5,q6,q7,q8⟩:=hrel hst;exact⟨es',k',a',c',q1,q2,q3,q4,q5,q6,by rw[g0];exact q7,by rw[g0];exact q8⟩
theorem ZrA(h:Sim F G st a w){x:X}{d:Option Nat}{Kw:St->Prop}{C:ZJ}(hd:d=oper.dst)(hdn:∀ y,d=some y->y<F.nt)(hc:Zs P (.rk x) oper.op=true)
  (he:ew C d st Kw (.rk x)):LOk P F a w oper Kw:=by
 subst hd;simp only[Zs] at hc;split at hc<;>try contradiction
 all_goals
  rename_i y ho;have hx:=h.x hc;simp only[ew] at he;split at he<;>try contradiction
  rename_i id len s hq;obtain⟨hl,hne,he⟩:=he;split at he<;>try contradiction
  rename_i k2 zs u hw ver hs;obtain⟨rfl,rfl,hK⟩:=he;rw[hq] at hx;obtain⟨s1,s2,s3,s4⟩:=Zi6 h (id0:=(st.lvl,keyOf oper.dst)) rfl;have hs':=s4 id (Ne.symm hne) _ _ _ _ _ hs;have hx':=s1.vr (.hd id [] 0 zs.length none s) (a.eval y) (show ((Vv (st.lvl,keyOf oper.dst) st).sto id).isSome=true by rw[hs'];rfl) hx;have hr:(execOp a.eval oper).run P w = .ok (.value (a.eval y)) w:=by simp [execOp,ho]
  obtain⟨G',hG'⟩:=s1.sim.ren (id0:=(st.lvl,keyOf oper.dst)) (hl.trans s3.symm) s3.symm hne hs' s2 hdn hx';exact Res.of_run hr ⟨_,G',hK,hG'⟩
theorem ZrB(h:Sim F G st a w){id:Zd}{cells:List IV}{ts:List Tr}{q:Bool}{v:Value}(hs:st.sto id=some (.bx cells))(hl:id.1=st.lvl)(ht:totrs cells=some (ts,q))(hv:abR G st.sto id 0 v) :
  Stp F a G st (Zw id st) w w G/\WM w (Av G (Zw id st).sto w) ts v:=by
 have kl:=(Kl.refl st).step (fun j cells hj=>h.ok.low j cells hj) h.outl hl (by rw[hs];rfl);obtain⟨h1,h2⟩:=h.kl kl;refine⟨Stp.of h1 h2 (fun _ hf=>hf.elim),?_⟩;obtain⟨cells',b,c,hs',hG,rfl⟩:=hv;obtain⟨b',c',vs,ty,hG',hh,hvs⟩:=h.ok.obs _ _ hs;rw[hG] at hG';cases hG';have htt:=Zi1 hvs ht;refine⟨b,0,fun j=>(vs[j]?).getD undef,kl.av_dead h.ok (.inr rfl) hs ⟨c,hG⟩,rfl,fun j t hj=>?_⟩;obtain⟨x,hx,hr⟩:=htt j t hj;have hx':vs[j]? = some x:=by simpa using hx
 have hf:(vs[j]?).getD undef=x:=by rw[hx'];rfl
 rw[Uax,cell_of_row _ _ j vs ty (0,0) hh,hx'];refine⟨by dsimp only;rw[hf],?_⟩;dsimp only;rw[hf];exact hr.mono (fun b hb=>kl.av b hb) (fun _ _=>rfl)
theorem Ze2{st0:St}:∀(cells:List IV) (vs:List Value) (st:St),Stp F a G st0 st w w G->Zu G st0.sto w cells vs->∀{K:List Tr->St->Prop},Y1 cells st K->∃ ts st',Stp F a G st st' w w G/\Zu G st'.sto w (ts.map .tr) vs/\K ts st'
 | [],vs,st,s,hv,K,he=>⟨[],st,Stp.refl s.sim,hv,he⟩
 | x::r,vs,st,s,hv,K,he=>by
  simp only[Zu] at hv;obtain⟨v,vr,rfl,hx,hr⟩:=hv;simp only[Y1] at he;have go:∀(t:Tr) (st1:St),Stp F a G st st1 w w G->VR G st1.sto w (.tr t) v->Y1 r st1 (fun ts st2=>K (t::ts) st2)->∃ ts st',Stp F a G st st' w w G/\Zu G st'.sto w (ts.map .tr) (v::vr)/\K ts st':=fun t st1 s1 ht he1=>by obtain⟨ts,st',s2,hvs,hK⟩:=Ze2 r vr st1 (s.trans s1) hr he1;exact⟨t::ts,st',s1.trans s2,⟨_,_,rfl,s2.vr (.tr t) _ trivial ht,hvs⟩,hK⟩
  unfold WL at he;split at he<;>try contradiction
  ·rename_i t;exact go t st (Stp.refl s.sim) (s.vr (.tr t) v trivial hx) he
  ·rename_i es;have hx2:VR G st0.sto w (.tr (.sl es)) v:=hx.2;exact go (.sl es) st (Stp.refl s.sim) (s.vr (.tr (.sl es)) v trivial hx2) he
  ·rename_i id len q;obtain⟨hl,he⟩:=he;split at he<;>try contradiction
   rename_i k2 zs u hw ver hs;obtain⟨rfl,rfl,he⟩:=he;have hx2:=s.vr (.hd id [] 0 zs.length none q) v (show (st.sto id).isSome=true by rw[hs];rfl) hx;obtain⟨s1,s2⟩:=Zay s.sim hs hl hx2;exact go (.sl zs) _ s1 s2 he
theorem Zi7{id:Zd}(hl:id.1=st.lvl):∀(cells:List IV) (st1:St),st1.lvl=st.lvl->(∃ c,st1.sto id=some (.bx c))->∀{K:List Tr->St->Prop},Y1 cells st1 K->Y1 cells st1 (fun ts st' => K ts st'/\st'.lvl=st.lvl/\∃ c,st'.sto id=some (.bx c))
 | [],st1,hv,hb,K,he=>⟨he,hv,hb⟩
 | x::r,st1,hv,hb,K,he=>by
  simp only[Y1] at he ⊢;have go:∀(t:Tr) (st2:St),st2.lvl=st.lvl->(∃ c,st2.sto id=some (.bx c))->Y1 r st2 (fun ts st3=>K (t::ts) st3)->Y1 r st2 (fun ts st3=>K (t::ts) st3/\st3.lvl=st.lvl/\∃ c,st3.sto id=some (.bx c)):=fun t st2 h1 h2 h3=>Zi7 hl r st2 h1 h2 h3;unfold WL at he ⊢;split at he<;>try contradiction
  ·exact go _ st1 hv hb he
  ·exact go _ st1 hv hb he
  ·rename_i id2 len q;obtain⟨hl2,he⟩:=he;refine⟨hl2,?_⟩;split at he<;>try contradiction
   rename_i k2 zs u hw ver hs;obtain⟨h1,h2,he⟩:=he;simp only[hs];refine⟨h1,h2,go _ (Zw id2 st1) hv ?_ he⟩;obtain⟨c,hc⟩:=hb;have hne:id≠id2:=fun e=>by rw[e] at hc;rw[hs] at hc;cases hc
   refine⟨scrs id2 c,?_⟩;rw[Wa (hl.trans hv.symm) hl2,if_neg hne,hc];rfl
theorem ZrC(h:Sim F G st a w){id:Zd}{cells:List IV}{v:Value}(hs:st.sto id=some (.bx cells))(hl:id.1=st.lvl)(hv:abR G st.sto id 0 v){K:List Tr->St->Prop}(he:Y1 cells st K) :
  ∃ ts st',Stp F a G st (Zw id st') w w G/\WM w (Av G (Zw id st').sto w) ts v/\K ts st':=by
 obtain⟨cells',b,c,hs',hG,rfl⟩:=hv;obtain⟨b',c',vs,ty,hG',hh,hvs⟩:=h.ok.obs _ _ hs;rw[hG] at hG';cases hG';obtain⟨ts,st',s1,hts,hK,hlv,cl,hcl⟩:=Ze2 (st0:=st) cells vs.toList st (Stp.refl h) hvs (Zi7 (st:=st) hl cells st rfl ⟨_,hs⟩ he);have kl:=(Kl.refl st').step (fun j cells hj=>s1.sim.ok.low j cells hj) s1.sim.outl (hl.trans hlv.symm) (by rw[hcl];rfl);obtain⟨h1,h2⟩:=s1.sim.kl kl;refine⟨ts,st',s1.trans (Stp.of h1 h2 (fun _ hf=>hf.elim)),?_,hK⟩;refine⟨b,0,fun j=>(vs[j]?).getD undef,kl.av_dead s1.sim.ok (.inr rfl) hcl ⟨c,hG⟩,rfl,fun j t hj=>?_⟩;obtain⟨x,hx,hr⟩:=Y5 hts j (.tr t) (by rw[Uao,hj];rfl);have hx':vs[j]? = some x:=by simpa using hx
 have hf:(vs[j]?).getD undef=x:=by rw[hx'];rfl
 rw[Uax,cell_of_row _ _ j vs ty (0,0) hh,hx'];refine⟨by dsimp only;rw[hf],?_⟩;dsimp only;rw[hf];exact Rds.mono (fun b hb=>kl.av b hb) (fun _ _=>rfl) hr
theorem Zi8:∀(cs:List X) (ys:List Operand) (st:St),Sim F G st a w->Qz cs ys=true->∀{K:List IV->St->Prop},XZ cs st K->∃ l st',Stp F a G st st' w w G/\Zu G st'.sto w l (ys.map a.eval)/\K l st'
 | [],ys,st,h,hc,K,he=>by
  cases ys with
  | nil=>exact⟨[],st,Stp.refl h,rfl,he⟩
  | cons y r=>simp [Qz] at hc
 | x::r,ys,st,h,hc,K,he=>by
  cases ys with
  | nil=>simp [Qz] at hc
  | cons y yr =>
   simp only[Qz,Uae] at hc;have hx:=h.x hc.1;simp only[XZ] at he;have go:∀(t:List Tr) (st1:St),Stp F a G st st1 w w G->WM w (Av G st1.sto w) t (a.eval y)->XZ r st1 (fun ts st2=>K (.ta t::ts) st2)->∃ l st',Stp F a G st st' w w G/\Zu G st'.sto w l ((y::yr).map a.eval)/\K l st':=fun t st1 s1 ht he1=>by obtain⟨l,st',s2,hvs,hK⟩:=Zi8 r yr st1 s1.sim hc.2 he1;exact⟨.ta t::l,st',s1.trans s2,⟨_,_,rfl,s2.vr (.ta t) _ trivial ht,hvs⟩,hK⟩
   unfold U4 at he;split at he<;>try contradiction
   ·rename_i ts hq;rw[hq] at hx;exact go ts st (Stp.refl h) hx he
   ·rename_i id hq;rw[hq] at hx;obtain⟨hl,he⟩:=he;split at he<;>try contradiction
    rename_i cells hs;split at he
    ·rename_i ts q ht;obtain⟨s1,s2⟩:=ZrB h hs hl ht hx;exact go ts _ s1 s2 he
    ·obtain⟨ts,st',s1,s2,he⟩:=ZrC h hs hl hx he;exact go ts _ s1 s2 he
theorem ZrD(h:Sim F G st a w){f:Nat}{cs:List X}{d:Option Nat}{Kw:St->Prop}{C:ZJ}(hd:d=oper.dst)(hdn:∀ y,d=some y->y<F.nt)(hc:Zs P (.mz f cs) oper.op=true)
  (he:ew C d st Kw (.mz f cs)):LOk P F a w oper Kw:=by
 subst hd;simp only[Zs] at hc;split at hc<;>try contradiction
 rename_i g first caps ho
 simp only[Uae,beq_iff_eq] at hc;obtain⟨⟨rfl,hf⟩,hc⟩:=hc;simp only[ew] at he;obtain⟨l,st',s1,hvs,hK⟩:=Zi8 cs caps.toList st h hc he;have h0:first = #[]:=by simpa using hf
 subst h0;have hm:Array.map a.eval caps=(List.map a.eval caps.toList).toArray:=by rw[<-Ubz]
 have hr:(execOp a.eval oper).run P w = .ok (.value (.func (.func f) #[] (List.map a.eval caps.toList).toArray)) w:=by simp [execOp,ho,Instr.makeFunc,hm]
 exact Res.of_run hr ⟨_,G,hK,s1.sim.put (show VR G st'.sto w (.fn f l) _ from ⟨_,rfl,hvs⟩) hdn⟩
theorem ZrE(h:Sim F G st a w){m:Nat}{p:X}{d:Option Nat}{Kw:St->Prop}{C:ZJ}(hd:d=oper.dst)(hdn:∀ y,d=some y->y<F.nt)(hc:Zs P (.lz m p) oper.op=true)
  (he:ew C d st Kw (.lz m p)):LOk P F a w oper Kw:=by
 subst hd;simp only[Zs] at hc;split at hc<;>try contradiction
 rename_i t y ho;simp only[Uae,Vl,beq_iff_eq] at hc;obtain⟨⟨ht,hm⟩,hx⟩:=hc;have hx:=h.x hx;have key:∀{ad:Addr} {cs:List Value},a.eval y = .pointer (some ad)->cs.length=m->(∀(j:Nat) (v:Value),cs[j]? = some v->w.cell? (ad.add j)=some v)->(execOp a.eval oper).run P w = .ok (.value (.agg cs.toArray)) w:=fun {ad cs} hv hl hcl=>by subst hl;simp [execOp,ho,Instr.loadAt,Instr.sureAddr,hv,Zes ht hm hcl]
 simp only[ew] at he;split at he<;>try contradiction
 rename_i id off hq;rw[hq] at hx;split at he<;>try contradiction
 rename_i cells hs;obtain⟨hlen,he⟩:=he;obtain⟨cells',b1,c,hs',hG,hv⟩:=hx;rw[hs] at hs';cases hs';obtain⟨b2,c2,vs,ty,hG2,hh,hvs⟩:=h.ok.obs id _ hs;rw[hG] at hG2;cases hG2;have hl:=YP hvs;obtain⟨ts,st',s1,hts,hK⟩:=Ze2 _ _ st (Stp.refl h) (Zan (Zam hvs off) m) he;refine Res.of_run (key (cs:=(vs.toList.drop off).take m) hv (by simp [hl] at hl ⊢;omega) fun j v hj=>?_) ⟨_,G,hK,s1.sim.put (show VR G st'.sto w (.ag (ts.map .tr)) _ from ⟨_,rfl,hts⟩) hdn⟩;rw[UaB] at hj;split at hj<;>try contradiction
 rw[UaM] at hj;rw[YJ,cell_of_row w b1 _ vs ty _ hh];simpa using hj
theorem ZrF(h:Sim F G st a w){k:Nat}{z:List Value}{x:X}{d:Option Nat}{Kw:St->Prop}{C:ZJ}(hd:d=oper.dst)(hdn:∀ y,d=some y->y<F.nt)(hc:Zs P (.cl k z x) oper.op=true)
  (he:ew C d st Kw (.cl k z x)):LOk P F a w oper Kw:=by
 subst hd;simp only[Zs] at hc;split at hc<;>try contradiction
 rename_i args at1 ho;split at hc<;>try contradiction
 rename_i y t hy ht;obtain⟨args⟩:=args;simp only at hy;subst hy;simp only[Uae] at hc;obtain⟨hx,hc⟩:=hc;split at hc<;>try contradiction
 rename_i e hel;simp only[Uae,beq_iff_eq,decide_eq_true_eq] at hc;obtain⟨⟨⟨hsz,hz⟩,hzl⟩,hk0⟩:=hc;have hu:=VA hel;obtain⟨i,zv,hi,hzv,hzc,hz3⟩:=Xm hz;have hzs:zv.cells.size=k:=by rw[<-hzl,<-hzc];simp
 have hx:=h.x hx;simp only[ew] at he;split at he<;>try contradiction
 rename_i id p off len cap s hq;split at he<;>try contradiction
 rename_i k2 es u hw ver hs;obtain⟨rfl,rfl,rfl,hle,hK⟩:=he;rw[hq] at hx;obtain⟨_,k3,es3,u3,hw3,ver3,hs3,_,hrel⟩:=hx;rw[hs] at hs3;cases hs3;obtain⟨es4,k',ad,c,hg4,hkk,hun,hv,hlc,_,hcap,hor⟩:=hrel rfl;simp only[getp,Uat] at hg4;subst hg4;have hkk:=hkk rfl;subst hkk;have Jt:∀{w':World},(Builtin.clear_ at1 oper.type #[a.eval y]).run P w = .ok (.tuple #[]) w'->Stp F a G st (Zp st id (.ar k' (es.take off) u s (ver+1))) w w' G->LOk P F a w oper Kw:=fun {w'} hr hst=>by
  have hr2:(execOp a.eval oper).run P w = .ok (.value (.tuple #[])) w':=by simp [execOp,ho,resolve,invoke,builtin,hr]
  exact Res.of_run hr2 ⟨_,G,hK,hst.put hdn (show VR G _ w' (.tu []) (.tuple #[]) from ⟨[],rfl,rfl⟩) (WS _ _ _)⟩
 by_cases h0:len=0
 ·subst h0;refine Jt ?_ (Ze1 h hs off);rw[hv];cases ad<;>simp [Builtin.clear_,ht,run_underlying hu]
 ·rcases hor with h1 | ⟨h1,_⟩ | ⟨b1,c0,hG,rfl,hcc⟩
  ·omega
  ·exact absurd rfl h1
  ·have hr0:=(h.ok.obs _ _ hs).2.2.2.1 [] es (.inl rfl) rfl;unfold Z7 at hr0;rw[hG] at hr0;obtain⟨k2,vs,ty,g1,g2,g3,g4,g5,g6⟩:=hr0;have hkk:=g1 rfl;subst hkk;have hroom:off*k2+len*k2<=vs.size:=(by rw[g4,<-UaP];exact Uaz _ (by omega));have hzz:(Builtin.zeroCells zv.cells len).toList.length=len*k2:=(by rw[Array.length_toList,size_zeroCells,hzs]);have hst:=run_storeCells_at P b1 (off*k2) ty (Builtin.zeroCells zv.cells len).toList 0 vs w g3 (by rw[hzz,Nat.add_zero];exact hroom) (Zry hzc hz3 len);simp only[Nat.add_zero,hzz] at hst;refine Jt (w':=w.setRow b1 (vs.toList.take (off*k2)++(Builtin.zeroCells zv.cells len).toList++vs.toList.drop (off*k2+len*k2)).toArray) ?_ (Zi5 h hs hG g3 ?_ ?_ ?_ ?_ ?_)
   ·rw[hv];obtain⟨len,rfl⟩:∃ n,len=n+1:=⟨len-1,by omega⟩;simp [Builtin.clear_,ht,run_underlying hu,zeroValue,typeInfo,hi,hzv,hst]
   ·simp only[Ubv,Uac,Uai,UaL,hzz,Array.length_toList];omega
   ·rw[Uai];have:=(h.ok.obs _ _ hs).1;omega
   ·exact fun e he=>hun e (UaS he)
   ·exact fun p es2 hp he=>Zi3 hp he
   ·intro i e f t hi hf;rw[UaB] at hi;split at hi
    ·rename_i hio;have hfl:=(Uad.1 hf).1;rw[g2 e (Uaf hi)] at hfl;refine .inr ⟨?_,e,hi,hf⟩;have hlt:i*k2+f<off*k2:=We hio hfl;rw[UbS,UaR,Uav (by rw[Uai,Array.length_toList];omega),UaB,if_pos hlt];simp
    ·cases hi
theorem ZrG{k n m:Nat}{v:Value}{cs:List Value}(h:FC w k n v cs)(hm:m<=n):(Builtin.firstCells k m v).run P w = .ok (cs.take (m*k)).toArray w:=by
 obtain⟨hl,a0,c,rfl,⟨ad,rfl,hc⟩ | ⟨rfl,rfl⟩⟩:=h
 ·have hmk:m*k<=n*k:=Uaz _ hm;exact run_firstCells_some (P:=P) w k m ad n c (cs.take (m*k)) (by rw[Uai];omega) fun j u hj=>by
   rw[UaB] at hj;split at hj
   ·exact hc j u hj
   ·cases hj
 ·have:=run_firstCells_none (P:=P) w k m n c;simpa using this
theorem ScR.getp{es es2:Row}{p:Zn}(h:ScR es)(hp:p≠[])(hg:getp es p=some es2):False:=by
 cases p with
 | nil=>exact hp rfl
 | cons cd q =>
  obtain⟨c,d⟩:=cd;obtain⟨e,x,g1,g2,g3⟩:=Vn hg;have:=h e (Uaf g1) _ (Uaf g2);simp [isSc] at this
theorem Zi9{t:Tr}(h:isSc t=true):∃ y,t = .v y:=by
 cases t with
 | v y=>exact⟨y,rfl⟩
 | sl es=>simp [isSc] at h
theorem ZrH{st:St}{x:IV}{F':Row->Prop}(h:Vj st.sto x F'):QP st x F':=by cases x<;>exact h
theorem ZrI{st:St}{x:IV}{F':Row->Prop}(h:QP st x F'):Vj st.sto x F':=by cases x<;>exact h
theorem Zja{C:ZJ}{d:Option Nat}{st:St}{Kw:St->Prop}{k:Nat}{x y:X}(he:ew C d st Kw (.c0 k x y)):ew C d st Kw (.cy k x y):=by
 simp only[ew,JG] at he ⊢;generalize xv st.env x=q at he ⊢;split at he<;>try contradiction
 dsimp only;split at he<;>try contradiction
 rename_i hs;simp only[hs];obtain⟨rfl,h2,h3,h4,h5⟩:=he;exact⟨trivial,rfl,h2,h3,h4,ZrH h5⟩
theorem ZrJ{C:ZJ}{d:Option Nat}{st:St}{Kw:St->Prop}{k:Nat}{x y:X}(he:ew C d st Kw (.cy k x y)):ew C d st Kw (.c0 k x y):=by
 simp only[ew,JG] at he ⊢;generalize xv st.env x=q at he ⊢;split at he<;>try contradiction
 split at he<;>try contradiction
 rename_i hs;obtain⟨rfl,rfl,h2,h3,h4,h5⟩:=he;simp only[hs];exact⟨trivial,h2,h3,h4,ZrI h5⟩
theorem Zjb(h:Sim F G st a w){k:Nat}{x y:X}{d:Option Nat}{Kw:St->Prop}{C:ZJ}(hd:d=oper.dst)(hdn:∀ y,d=some y->y<F.nt)(hc:Zs P (.cy k x y) oper.op=true)
  (he:ew C d st Kw (.cy k x y)):LOk P F a w oper Kw:=by
 subst hd;simp only[Zs] at hc;split at hc<;>try contradiction
 rename_i args at1 ho;split at hc<;>try contradiction
 rename_i x' y' t hxy ht;obtain⟨args⟩:=args;simp only at hxy;subst hxy;simp only[Uae] at hc;obtain⟨⟨hx,hy⟩,hc⟩:=hc;split at hc<;>try contradiction
 rename_i e hel;simp only[Uae,beq_iff_eq,decide_eq_true_eq] at hc;obtain⟨hsz,hk0⟩:=hc;have hu:=VA hel;have hx:=h.x hx;have hy:=h.x hy;simp only[ew] at he;split at he<;>try contradiction
 rename_i id p off len cap s hq;split at he<;>try contradiction
 rename_i k2 es u hw ver hs;obtain⟨rfl,rfl,rfl,hle,hsc,he⟩:=he
 have src:∃(zs:Row) (news:List Value),FC w k2 zs.length (a.eval y') news/\(∀(i:Nat) (e:List Tr) (f:Nat) (t:Tr),zs[i]? = some e->e[f]? = some t->∃ v,t = .v v/\Jw v=true/\news[i*k2+f]? = some v)/\ScR zs/\ZC k2 zs /\
   Kw { Zp st id (.ar k2 (es.take off++zs.take len++es.drop (off+min zs.length len)) u s (ver+1)) with env:=ptd oper.dst (iI (min zs.length len:Nat)) st.env }:=by
  have trees:∀{A:Nat->Prop} {zs:Row},Rds w A (a.eval y') (.sl zs)->ScR zs->ZC k2 zs->∃ news,FC w k2 zs.length (a.eval y') news/\(∀(i:Nat) (e:List Tr) (f:Nat) (t:Tr),zs[i]? = some e->e[f]? = some t->∃ v,t = .v v/\Jw v=true/\news[i*k2+f]? = some v):=fun {A zs} hr h1 h2=>by obtain⟨cs,g1,g2⟩:=hr.fc hk0 h2;refine⟨cs,g1,fun i e f t hi hf=>?_⟩;obtain⟨v,hv,hr2⟩:=g2 i e f t hi hf;obtain⟨q,rfl⟩:=Zi9 (h1 e (Uaf hi) t (Uaf hf));obtain⟨rfl,hs2⟩:=hr2.val;exact⟨_,rfl,hs2,hv⟩
  unfold QP at he;split at he<;>try contradiction
  ·rename_i zs hq2;rw[hq2] at hy;obtain⟨h1,h2,h3⟩:=he;obtain⟨news,g1,g2⟩:=trees hy h1 h2;exact⟨zs,news,g1,g2,h1,h2,h3⟩
  ·rename_i zs hq2;rw[hq2] at hy;obtain⟨h1,h2,h3⟩:=he;obtain⟨news,g1,g2⟩:=trees hy.2 h1 h2;exact⟨zs,news,g1,g2,h1,h2,h3⟩
  ·rename_i id2 p2 off2 len2 cap2 s2 hq2;rw[hq2] at hy;unfold JU at he;split at he<;>try contradiction
   rename_i k4 es4 u4 hw4 ver4 hs4;obtain⟨es5,hg5,hst5,hl5,h1,h2,h3⟩:=he;obtain⟨news,g1,g2⟩:=Zb7 h.ok hs4 hg5 hst5 hy hl5 h2;refine⟨_,news,by rw[Xn hl5];exact g1,fun i e f t hi hf=>?_,h1,h2,h3⟩;obtain⟨v,hv,hc2⟩:=g2 i e f t hi hf;obtain⟨q,rfl⟩:=Zi9 (h1 e (Uaf hi) t (Uaf hf));obtain⟨rfl,hs3⟩:=hc2;exact⟨_,rfl,hs3,hv⟩
 obtain⟨zs,news,fc,hnew,hscz,hunz,hK⟩:=src;rw[hq] at hx;obtain⟨_,k3,es3,u3,hw3,ver3,hs3,_,hrel⟩:=hx;rw[hs] at hs3;cases hs3;obtain⟨es4,k',ad,c,hg4,hkk,hun,hv,hlc,_,hcap,hor⟩:=hrel rfl;simp only[getp,Uat] at hg4;subst hg4;have hkk:=hkk rfl;subst hkk;have hlen:Builtin.lenOf (a.eval y')=pure zs.length:=by obtain⟨_,a0,c0,h1,_⟩:=fc;rw[h1];rfl
 generalize hn:min zs.length len=n at *;have hfc:=ZrG (P:=P) fc (m:=n) (by omega);have Jt:∀{w':World},(Builtin.copy_ at1 oper.type #[a.eval x',a.eval y']).run P w = .ok (.int .i64 n) w'->Stp F a G st (Zp st id (.ar k' (es.take off++zs.take len++es.drop (off+n)) u s (ver+1))) w w' G->LOk P F a w oper Kw:=fun {w'} hr hst=>by
  have hr2:(execOp a.eval oper).run P w = .ok (.value (.int .i64 n)) w':=by simp [execOp,ho,resolve,invoke,builtin,hr]
  exact Res.of_run hr2 ⟨_,G,hK,hst.put hdn (show VR G _ w' (iI n) (.int .i64 n) from .v _ rfl) (WS _ _ _)⟩
 have hzt:zs.take len=zs.take n:=by
  by_cases h1:zs.length<=len
  ·rw[UaQ h1,UaQ (by omega)]
  ·rw[show n=len from by omega]
 by_cases h0:n=0
 ·subst h0;have e0:es.take off++zs.take len++es.drop (off+0)=es:=by rw[hzt,List.take_zero,Ubm,Nat.add_zero,Ua5]
  rw[e0] at Jt;have hc0:=Ze1 h hs es.length;rw[Uap] at hc0;refine Jt ?_ hc0;rw[hv];cases ad with
  | none=>simp [Builtin.copy_,ht,run_underlying hu,hlen,Vm hsz,hn,hfc,goInt]
  | some ad=>simp [Builtin.copy_,ht,run_underlying hu,hlen,Vm hsz,hn,hfc,goInt,storeCells]
 ·rcases hor with h1 | ⟨h1,_⟩ | ⟨b1,c0,hG,rfl,hcc⟩
  ·omega
  ·exact absurd rfl h1
  ·have hr0:=(h.ok.obs _ _ hs).2.2.2.1 [] es (.inl rfl) rfl;unfold Z7 at hr0;rw[hG] at hr0;obtain⟨k2,vs,ty,g1,g2,g3,g4,g5,g6⟩:=hr0;have hkk:=g1 rfl;subst hkk;have hroom:off*k2+n*k2<=vs.size:=(by rw[g4,<-UaP];exact Uaz _ (by omega));have hnl:n*k2<=zs.length*k2:=Uaz _ (by omega);have hcl:(news.take (n*k2)).length=n*k2:=(by rw[Uai,fc.1];omega);have hone:∀ v∈news.take (n*k2),v.oneCell'=true:=fun v hv2=>by have hv3:=UaS hv2;obtain⟨q,hq1,rfl⟩:=Uar hv3;rw[fc.1] at hq1;have hd:q / k2<zs.length:=Nat.div_lt_of_lt_mul (by rwa [Ubx]);have hm:q % k2<k2:=Nat.mod_lt _ hk0;have he1:=Uak hd;have hel2:=hunz _ (Uaf he1);obtain⟨v2,_,hs5,hv5⟩:=hnew (q / k2) _ (q % k2) _ he1 (Uak (by rw[hel2];exact hm));have:q / k2*k2+q % k2=q:=(by have:=Nat.div_add_mod q k2;rw[Ubx] at this;omega);rw[this,Uak (by rw[fc.1];exact hq1)] at hv5;cases hv5;generalize news[q]=z at hs5;cases z<;>first | rfl | simp [Jw] at hs5
   have hst:=run_storeCells_at P b1 (off*k2) ty (news.take (n*k2)) 0 vs w g3 (by rw[hcl,Nat.add_zero];exact hroom) hone;simp only[Nat.add_zero,hcl] at hst;refine Jt (w':=w.setRow b1 (vs.toList.take (off*k2)++news.take (n*k2)++vs.toList.drop (off*k2+n*k2)).toArray) ?_ (Zi5 h hs hG g3 ?_ ?_ ?_ ?_ ?_)
   ·rw[hv];simp [Builtin.copy_,ht,run_underlying hu,hlen,Vm hsz,hn,hfc,goInt,hst]
   ·simp only[Ubv,Uac,UaL,hcl,Uai,Array.length_toList];omega
   ·have:=(h.ok.obs _ _ hs).1;simp only[Uac,Uai,UaL];omega
   ·intro e he;rcases Uaq.1 he with he | he
    ·rcases Uaq.1 he with he | he
     ·exact hun e (UaS he)
     ·exact hunz e (UaS he)
    ·exact hun e (Ubd he)
   ·intro p es2 hp hg;exfalso;refine ScR.getp (es:=es.take off++zs.take len++es.drop (off+n)) (fun e he t ht=>?_) hp hg;rcases Uaq.1 he with he | he
    ·rcases Uaq.1 he with he | he
     ·exact hsc e (UaS he) t ht
     ·exact hscz e (UaS he) t ht
    ·exact hsc e (Ubd he) t ht
   ·intro i e f t hi hf;have hlt:∀{l:Row},ZC k2 l->e∈l->f<k2:=fun hU hm=>by have:=(Uad.1 hf).1;rwa [hU e hm] at this
    have hoff:(es.take off).length=off:=(by rw[Uai];omega);have hzl:(zs.take len).length=n:=(by rw[Uai];omega);have hoff2:(vs.toList.take (off*k2)).length=off*k2:=(by rw[Uai,Array.length_toList];omega);rw[UbS];by_cases hi1:i<off
    ·rw[UaR,Uav (by omega),UaB,if_pos hi1] at hi;have hfl:=hlt hun (Uaf hi);have hx1:i*k2+f<off*k2:=We hi1 hfl;refine .inr ⟨?_,e,hi,hf⟩;rw[UaR,Uav (by omega),UaB,if_pos hx1];simp
    ·obtain⟨j,rfl⟩:∃ j,i=off+j:=⟨i-off,by omega⟩;by_cases hi2:j<n
     ·rw[Uav (by rw[Uac];omega),Uas (by omega),hoff,Ubb,hzt,UaB,if_pos hi2] at hi;have hfl:=hlt hunz (Uaf hi);have hx1:j*k2+f<n*k2:=We hi2 hfl;obtain⟨v,rfl,hs6,hv6⟩:=hnew j e f t hi hf;refine .inl ⟨v,rfl,hs6,?_⟩;rw[Uav (by rw[Uac,hoff2,hcl,UaP];omega),Uas (by rw[hoff2,UaP];omega),hoff2,show (off+j)*k2+f-off*k2=j*k2+f from by rw[UaP];omega,UaB,if_pos hx1];exact hv6
     ·rw[Uas (by rw[Uac];omega),Uac,hoff,hzl,UaM,show off+n+(off+j-(off+n))=off+j from by omega] at hi;have hfl:=hlt hun (Uaf hi);refine .inr ⟨?_,e,hi,hf⟩;have hx1:n*k2<=j*k2:=Uaz _ (by omega);rw[Uas (by rw[Uac,hoff2,hcl,UaP];omega),Uac,hoff2,hcl,UaM,show off*k2+n*k2+((off+j)*k2+f-(off*k2+n*k2))=(off+j)*k2+f from by rw[UaP];omega];simp
theorem ZrK{t u ty e:TypeId}{ik:IntKind}{i:TypeInfo}{z:Value}(ht:P.underlying t=some (.slice e))(hu:P.underlying u=some (.int ik))(hi:P.info? e=some i)(hz:i.zero=some z){ad:Option Addr}{n:Nat}(hn0:0<n)(hb:n<=bigN)(hby:i.bytes<=1024)(hk0:0<i.size) :
  (Builtin.append_ #[t,u] ty #[.slice ad 0 0,.int .i64 n]).run P w =
   .ok (.slice (some ⟨w.heap.size,0,none⟩) n (grownCap w n 0 e)) (w.drew.alloc (.cells (Builtin.zeroCells z.cells n++Builtin.zeroCells z.cells (grownCap w n 0 e-n)) e)):=by
 have hbb:n<=4294967296:=hb;have hw:IntKind.i64.wrap (n:Int)=n:=Uw (by show (-9223372036854775808:Int)<=(n:Int)/\(n:Int)<=9223372036854775807;omega);have hneg:¬ ((n:Int)<0):=by omega
 have hnb:(n:Int)*(i.bytes:Int)<=281474976710656:=by
  calc (n:Int)*(i.bytes:Int)<=4294967296*1024:=Int.mul_le_mul (by omega) (by omega) (by omega) (by omega)
   _<=281474976710656:=by decide
 have hnb':¬ (281474976710656<(n:Int)*(i.bytes:Int)):=by omega
 have h63':¬ (9223372036854775807<(n:Int)):=by omega
 have h48:Builtin.nextslicecap n 0*i.bytes<=281474976710656:=growslice_fits hn0 (by
  calc n*i.bytes<=4294967296*1024:=Nat.mul_le_mul hbb hby
   _<=140737488355328:=by decide)
 have h48':¬ (281474976710656<Builtin.nextslicecap n 0*i.bytes):=by omega
 have hn0':¬ (n*i.size=0):=by have:=Nat.mul_pos hn0 hk0;omega
 have hfo:=Zaz (P:=P) (w:=w) (k:=i.size) (n:=0) (v:=.slice ad 0 0) (cs:=[]) ⟨by simp,ad,0,rfl,(by cases ad with | none=>exact .inr ⟨rfl,rfl⟩ | some ad=>exact .inl ⟨ad,rfl,fun j u hj=>by simp at hj⟩)⟩ (w':=w.drew) rfl;simp [Builtin.append_,run_underlying ht,run_underlying hu,Go.sizeOf,typeInfo,zeroValue,hi,hz,asInt,asIntOf,hw,hneg,hnb',h63',h48',hn0',Nat.ne_of_gt hn0,Question.forced,hfo,newRow,grownCap]
theorem ZrL{z:Value}{k n:Nat}(hk:z.cells.size=k){i f:Nat}(hi:i<n){x:Value}(hf:z.cells[f]? = some x):(Builtin.zeroCells z.cells n)[i*k+f]? = some x:=by
 have hfk:f<k:=by rw[<-hk];exact(UaE.1 hf).1
 have hlt:i*k+f<n*k:=We hi hfk;have hmod:(i*k+f) % k=f:=by rw[Ubw,Ubn,UbM hfk]
 have hlt2:f<z.cells.size:=by omega
 unfold Builtin.zeroCells;rw[UbO];simp [hlt,hk,hmod];rw[getElem!_pos z.cells f hlt2];rw[UaY hlt2] at hf;exact UaT hf
theorem ZrM{C:ZJ}(h:Sim F G st a w){k:Nat}{z:List Value}{x n:X}{d:Option Nat}{K:St->Prop}(hd:d=oper.dst)(hdn:∀ y,d=some y->y<F.nt)(hc:Zs P (.az k z x n) oper.op=true)(he:ew C d st K (.az k z x n)):LOk P F a w oper K:=by
 subst hd;simp only[Zs] at hc;split at hc<;>try contradiction
 rename_i args argTypes ho;split at hc<;>try contradiction
 rename_i xo no t u hargs htys;simp only[Uae] at hc;obtain⟨⟨⟨hcx,hcn⟩,hcu⟩,hc⟩:=hc;split at hcu<;>try contradiction
 rename_i ik hu;split at hc<;>try contradiction
 rename_i e hel;simp only[Uae,beq_iff_eq,decide_eq_true_eq] at hc;obtain⟨⟨⟨⟨hsz,hz⟩,hzl⟩,hk0⟩,hby⟩:=hc;have ht:=VA hel;obtain⟨i,zv,hi,hzv,hzc,hz3⟩:=Xm hz;obtain⟨i2,hi2,hks⟩:=X8 hsz;rw[hi] at hi2;cases hi2;have hbytes:i.bytes<=1024:=by simpa [Program.bytesOf,hi] using hby
 have hzs:zv.cells.size=k:=by rw[<-hzl,<-hzc];simp
 have hargs':args = #[xo,no]:=by cases args;simpa using hargs
 have htys':argTypes = #[t,u]:=by cases argTypes;simpa using htys
 subst hargs';subst htys';have hx:=h.x hcx;have hn:=h.x hcn;simp only[ew] at he;split at he<;>try contradiction
 rename_i hqx;split at he<;>try contradiction
 rename_i m hqn;obtain⟨hm0,hmb,hfr,hK⟩:=he;rw[hqx] at hx;rw[hqn] at hn;obtain⟨hn,_⟩:=hn.val;obtain⟨⟨ad,hx⟩,_⟩:=hx;obtain⟨N,rfl⟩:=Int.eq_ofNat_of_zero_le (Int.le_of_lt hm0);simp only[Int.toNat_natCast] at hK;have hN0:0<N:=by omega
 have hNb:N<=bigN:=by omega
 have hrun:=ZrK (P:=P) (w:=w) (ty:=oper.type) ht hu hi hzv (ad:=ad) hN0 hNb hbytes (by rw[hks];exact hk0);have hge:N<=grownCap w N 0 e:=by simpa using grownCap_ge w N 0 e
 have htrv:∀ x∈z,Rds w (Av G st.sto w) x (trv x)/\Y6 (trv x):=fun x hx=>by
  rcases hz3 x hx with hx | rfl
  ·have:trv x = .v x:=(by cases x<;>first | rfl | simp [Jw] at hx);rw[this];exact⟨.v x hx,trivial⟩
  ·exact⟨.nil none 0,rfl⟩
 have hin:∀{i':Nat} {e':List Tr},(List.replicate N (z.map trv))[i']? = some e'->i' < N/\e'=z.map trv:=fun {i' e'} h1=>by rw[Uba] at h1;split at h1<;>simp_all
 obtain⟨G',hG'⟩:=ZeV h (Kl.refl st) (d:=oper.dst) (key:=keyOf oper.dst) (k:=k) (c:=grownCap w N 0 e) (es:=List.replicate N (z.map trv)) (u:=true) (ty:=e) (N:=fun _=>none) (ZeW hfr) hdn
  (w':=w.drew.alloc (.cells (Builtin.zeroCells zv.cells N++Builtin.zeroCells zv.cells (grownCap w N 0 e-N)) e))
  ⟨by simp,fun b hb=>heap_alloc_old w.drew _ b hb,rfl,rfl,rfl⟩ (heap_alloc_new w.drew _)
  (by simp only[Array.size_append,size_zeroCells,hzs,<-UaP];congr 1;omega) (by rw[UbH];exact hge) (ZeU (by unfold bigN at *;omega))
  (fun e' he' => by obtain⟨_,rfl⟩:=Ubs.1 he';simpa using hzl)
  (fun i' e' f t' h1 h2=>by
   obtain⟨hi',rfl⟩:=hin h1;rw[Uao,UaJ] at h2;obtain⟨y,hy,rfl⟩:=h2;have hyf:zv.cells[f]? = some y:=by rw[<-hzc] at hy;simpa using hy
   have hfk:f<k:=(by have:=(UaE.1 hyf).1;omega);refine⟨y,?_,Rds.cell (htrv y (Uaf hy)).1 fun _=>(htrv y (Uaf hy)).2⟩;rw[UaK (by rw[size_zeroCells,hzs];exact We hi' hfk)];exact ZrL hzs hi' hyf)
  (fun _ i' f e' zs q es2 h1 h2 h3=>by
   obtain⟨_,rfl⟩:=hin h1;rw[Uao,UaJ] at h2;obtain⟨y,hy,h2⟩:=h2;have:=(htrv y (Uaf hy)).2;rw[h2] at this;simp only[Y6] at this;subst this;obtain⟨rfl,rfl⟩:=Qi h3;unfold Z7;rfl)
  (fun _ _ _ _ _ _ hg=>by cases hg) (fun _ _ _ _ _ _ _ _ _ _ hg=>by cases hg)
 rw[UbH] at hG';refine Res.of_run (v:=_) (w':=_) ?_ ⟨_,G',hK,hG'⟩;unfold execOp;simp only[ho,resolve,invoke,builtin,Sem.run_bind,Sem.run_pure,Result.andThen_ok,List.map_toArray,Uah,Uam,hx,hn,List.length_nil,hrun]
end
section give
variable {P:Program} {F:Fr} {G G':Gh} {st st1:St} {a:Act} {w w':World} {oper:Oper} {D:Zd->Prop}
theorem Sim.turnL(h:Sim F G st a w)(k:Kl D st st1){id:Zd}{ob':Ob}{d:Option Nat}{x:IV}{v:Value}(hid:¬ D id)(hidl:id.1<st.lvl)
  (gh:∀ i,i≠id->G' i=G i) (size:w.heap.size<=w'.heap.size)
  (heap:∀ b,b<w.heap.size->(∀ ob,st.sto id=some ob -> ¬ ZM G id ob b)->w'.heap[b]? = w.heap[b]?)
  (own:∀ b,ZM G' id ob' b->(∃ j ob0,(j=id\/D j)/\st.sto j=some ob0/\ZM G j ob0 b)\/w.heap.size<=b)
  (rel:∀ ob,st.sto id=some ob->idR G G' id ob ob')
  (hos:w'.os=w.os) (htape:w'.tape=w.tape) (houtp:w'.output=w.output)
  (hob:Trn G G' st.sto (Zo st1.sto id ob') w w' (· = id) D->Vd G' (Zo st1.sto id ob') w' id ob')
  (hlow:∀ cells,ob' = .bx cells->Jk (id.1+1) cells)
  (hd:∀ y,d=some y->y<F.nt)
  (hx:Trn G G' st.sto (Zo st1.sto id ob') w w' (· = id) D->VR G' (Zo st1.sto id ob') w' x v) :
  Sim F G' { Zp st1 id ob' with env:=ptd d x st1.env } (a.put d v) w'/\Trn G G' st.sto (Zo st1.sto id ob') w w' (· = id) D:=by
 have hsto:({ Zp st1 id ob' with env:=ptd d x st1.env }:St).sto=Zo st1.sto id ob':=by rw[<-Yt];rfl
 have ht:Trn G G' st.sto (Zo st1.sto id ob') w w' (· = id) D:=by
  refine⟨gh,fun i ob hi hdi hs=>?_,fun i ob hi hs=>?_,size,fun b hb hn=>heap b hb fun ob hs=>hn id ob rfl hs,fun i ob b hi hs ho=>?_,fun i ob hi _ hs=>?_⟩
  ·obtain⟨o2,h1,h2⟩:=k.live i ob hdi hs;exact⟨o2,by unfold Zo;rw[if_neg hi];exact h1,h2⟩
  ·unfold Zo at hs;rw[if_neg hi] at hs;exact k.only i ob hs
  ·subst hi;unfold Zo at hs;rw[if_pos rfl] at hs;cases hs;exact own b ho
  ·subst hi;exact⟨ob',by unfold Zo;rw[if_pos rfl],rel ob hs⟩
 refine⟨h.go (T:=(· = id)) (env0:=st1.env) (D:=D) (by simp only;rw[QC,k.lvl]) (fun i ob hs=>?_) (by rw[hsto];exact ht) k.dead hos htape houtp ?_ k.vr k.men rfl hd (by rw[hsto];exact hx ht),ht⟩
 ·have hs:(Zp st1 id ob').out i=some ob:=hs;unfold Zp at hs;split at hs
  ·rw[k.out] at hs;exact h.outl i ob hs
  ·rename_i hne;simp only[Zo] at hs;split at hs
   ·rename_i hi;subst hi;exact hidl
   ·rw[k.out] at hs;exact h.outl i ob hs
 ·rw[hsto];refine ht.ok h.ok (fun i ob hi hs=>?_) (fun i ob j ob' b hi hj _ _ _ _=>hi.trans hj.symm) (fun i cells hi hs=>?_)
  ·subst hi;unfold Zo at hs;rw[if_pos rfl] at hs;cases hs;exact hob ht
  ·subst hi;unfold Zo at hs;rw[if_pos rfl] at hs;cases hs;exact hlow _ rfl
theorem Sim.renL(h:Sim F G st a w){id id0:Zd}{k:Nat}{zs:Row}{u:Bool}{hw ver:Nat}{v:Value}(hl:id.1=st.lvl)(hl0:id0.1<st.lvl)(hs:st.sto id=some (.ar k zs u hw ver))(h0:st.sto id0=none)
  (hv:Vk G st.sto id [] 0 zs.length none hw v) :
  ∃ G',Sim F G' (Zp (Zw id st) id0 (.ar k zs u hw ver)) a w/\Trn G G' st.sto (Zo (Zw id st).sto id0 (.ar k zs u hw ver)) w w (· = id0) (fun i=>False\/i=id) /\
   Vk G' (Zo (Zw id st).sto id0 (.ar k zs u hw ver)) id0 [] 0 zs.length none hw v:=by
 have hne:id0≠id:=fun e=>by rw[e] at hl0;omega
 have k1:=(Kl.refl st).step (fun j cells hj=>h.ok.low j cells hj) h.outl hl (by rw[hs];rfl);obtain⟨G',hG⟩:∃ G':Gh,G'=fun i=>if i=id0 then G id else G i:=⟨_,rfl⟩
 have g0:G' id0=G id:=by rw[hG];exact if_pos rfl
 have g1:∀ i,i≠id0->G' i=G i:=fun i hi=>by rw[hG];exact if_neg hi
 have hob:=h.ok.obs _ _ hs
 have ht:=h.turnL k1 (id:=id0) (ob':=.ar k zs u hw ver) (G':=G') (w':=w) (d:=none) (x:=.un) (v:=undef) (fun hf=>hf.elim (fun q=>q) hne) hl0 g1 (Ual _) (fun _ _ _=>rfl)
  (fun b hb=>.inl ⟨id,_,.inr (.inr rfl),hs,by
   obtain⟨p,c,q1,q2,q3⟩:=hb;exact⟨p,c,q1,q2,by rw[g0] at q3;exact q3⟩⟩) (fun ob hob=>by rw[h0] at hob;cases hob) rfl rfl rfl (fun t=>by
  obtain⟨o1,o2,o3,o4,o5⟩:=hob;refine⟨o1,o2,by rw[g0];exact o3,fun p es' hp hg=>ZbW g0 (fun b hb=>t.av b hb) (o4 p es' hp hg),fun p p' b c c' => ?_⟩;rw[g0];exact o5 p p' b c c') (fun _ hc=>by cases hc) (fun _ he=>by cases he) (fun _=>trivial)
 rw[QZ] at ht;refine⟨G',ht.1,ht.2,?_⟩;obtain⟨⟨a0,c0,hv0,hle⟩,k3,es3,u3,hw3,ver3,hs3,hb,hrel⟩:=hv;rw[hs] at hs3;cases hs3;refine⟨⟨a0,c0,hv0,hle⟩,k,zs,u,hw,ver,by unfold Zo;rw[if_pos rfl],hb,fun hst=>?_⟩;obtain⟨es',k',a',c',q1,q2,q3,q4,q5,q6,q7,q8⟩:=hrel hst;exact⟨es',k',a',c',q1,q2,q3,q4,q5,q6,by rw[g0];exact q7,by rw[g0];exact q8⟩
theorem ZrN{C:ZJ}(h0:Sim F G st a w){key:Nat}{p x:X}{d:Option Nat}{K:St->Prop}(hd:d=oper.dst)(hc:Zs P (.gv key p x) oper.op=true)(he:ew C d st K (.gv key p x)):LOk P F a w oper K:=by
 simp only[Zs] at hc;split at hc<;>try contradiction
 rename_i t y v ho;simp only[Uae,beq_iff_eq] at hc;obtain⟨⟨hsz,hp⟩,hx⟩:=hc;have hp0:=h0.x hp;have hx0:=h0.x hx;simp only[ew] at he;obtain⟨hdn,he⟩:=he;subst hd;unfold gvf at he;split at he<;>try contradiction
 rename_i id off hqp;split at he<;>try contradiction
 rename_i id2 len s hqx;obtain⟨hl2,hl1,hno,he⟩:=he;unfold gvo at he;split at he<;>try contradiction
 rename_i cells hs0;split at he<;>try contradiction
 rename_i k zs u hw ver hs2;obtain⟨hle0,rfl,rfl,hk⟩:=he;rw[hqp] at hp0;rw[hqx] at hx0;obtain⟨G1,h,tr,hx⟩:=h0.renL (id0:=(id.1,key)) hl2 hl1 hs2 hno hx0;have hsto1:(Zp (Zw id2 st) (id.1,key) (.ar k zs u s ver)).sto=Zo (Zw id2 st).sto (id.1,key) (.ar k zs u s ver):=Yt _ _ _;have hnid:id≠(id.1,key):=fun e=>by rw[e] at hs0;rw[hno] at hs0;cases hs0
 have hne2:¬ (False\/id=id2):=fun e=>by
  rcases e with e | e
  ·exact e
  ·rw[e] at hl1;omega
 have hp:=tr.vr (.ab id off) (a.eval y) hne2 hp0;have hx:VR G1 (Zo (Zw id2 st).sto (id.1,key) (.ar k zs u s ver)) w (.hd (id.1,key) [] 0 zs.length none s) (a.eval v):=hx;rw[<-hsto1] at hp hx;have hs:(Zp (Zw id2 st) (id.1,key) (.ar k zs u s ver)).sto id=some (.bx cells):=by rw[hsto1];unfold Zo;rw[if_neg hnid,Zax (by omega)];exact hs0
 obtain⟨st1,hst1⟩:∃ s1,s1=Zp (Zw id2 st) (id.1,key) (.ar k zs u s ver):=⟨_,rfl⟩;rw[<-hst1] at h hp hx hs hk;clear hx0 hp0 tr hst1 hsto1;obtain⟨l,hcl0⟩:∃ l,l=[IV.hd (id.1,key) [] 0 zs.length none s]:=⟨_,rfl⟩;have hcl:cellsOf (.hd (id.1,key) [] 0 zs.length none s)=some l:=by rw[hcl0];rfl
 obtain⟨hvs,hcell⟩:=WO hx hcl;have hl:l.length=1:=by rw[hcl0];rfl
 have hlo:Jk (id.1+1) l:=by rw[hcl0];exact⟨Ua2 _,trivial⟩
 have hle:off+l.length<=cells.length:=by omega
 rw[<-hcl0] at hk;have hlen:(a.eval v).cells.toList.length=l.length:=YP hvs;have hrun:∀{ad:Addr} {w'},a.eval y = .pointer (some ad)->(storeCells ad (a.eval v).cells.toList).run P w = .ok () w'->(execOp a.eval oper).run P w = .ok .skip w':=fun {ad w'} hy hr=>by
  have hs1:(Go.sizeOf t).run P w = .ok 1 w:=Vm hsz;have hne:¬ (a.eval v).cells.size≠1:=by rw[<-hl,<-hlen];simp
  have hne2:(a.eval v).cells.size=1:=by simpa using hne
  simp [execOp,ho,Instr.storeAt,Instr.sureAddr,hy,storeVar,hs1,hne2,hr]
 have hput:∀ u,a.put oper.dst u=a:=fun u=>by rw[hdn];rfl
 obtain⟨cells',b,c,hs',hG,hv⟩:=hp;rw[hs] at hs';cases hs';obtain⟨b2,c2,vs,ty,hG2,hh,hcs⟩:=h.ok.obs _ _ hs;rw[hG] at hG2;cases hG2;have hcl2:=YP hcs;have hvl:vs.size=cells.length:=by simpa using hcl2
 have hone:∀ u∈(a.eval v).cells.toList,u.oneCell'=true:=fun u hu=>by
  obtain⟨n,hn⟩:=Ubu hu;have hnl:n<l.length:=by rw[<-hlen];exact(Uad.1 hn).1
  obtain⟨u',hu',hr⟩:=Y5 hvs n l[n] (by simp [hnl]);rw[hn] at hu';cases hu';exact Wd hr (hcell _ (by simp))
 have hst:=run_storeCells_at P b off ty (a.eval v).cells.toList 0 vs w hh (by rw[hlen,hvl];simpa using hle) hone;refine Res.of_skip (hrun hv hst) ?_;rw[hput];generalize hnew:(vs.toList.take (off+0)++(a.eval v).cells.toList++vs.toList.drop (off+0+(a.eval v).cells.toList.length)).toArray=vs2;have hb0:ZM G1 id (.bx cells) b:=⟨c,hG⟩
 have ht:=h.turn (Kl.refl st1) (id:=id) (ob':=.bx (Yb cells off l)) (d:=none) (x:=.un) (v:=undef) (G':=G1) (w':=w.setRow b vs2) (fun h=>h) (.inr (by rw[hs];rfl)) (fun _ _=>rfl) (by simp)
  (fun blk _ hn=>setRow_other w b blk _ (fun hbb=>by subst hbb;exact hn _ hs hb0))
  (fun blk ho=>.inl ⟨id,_,.inl rfl,hs,ho⟩)
  (fun ob ho=>by rw[hs] at ho;cases ho;exact rfl)
  rfl rfl rfl (fun t=>⟨b,c,vs2,ty,hG,setRow_heap w b vs _ ty (0,0) hh,?_⟩) (fun cs hcs=>?_) (fun _ he=>by cases he) (fun _=>trivial)
 ·rw[QZ] at ht;exact⟨_,_,hk,ht.1⟩
 ·have hsv:=Zez l (a.eval v).cells.toList cells vs off hvs hcs hle;have heq:(((a.eval v).cells.toList.zipIdx.foldl (fun(cs:Array Value) (cj:Value×Nat)=>cs.setIfInBounds (off+cj.2) cj.1) vs))=vs2:=by
   rw[<-hnew];apply Array.ext';have gen:∀(us:List Value) (k:Nat) (cs:Array Value),off+k+us.length<=cs.size->((us.zipIdx k).foldl (fun(cs:Array Value) (cj:Value×Nat)=>cs.setIfInBounds (off+cj.2) cj.1) cs).toList=cs.toList.take (off+k)++us++cs.toList.drop (off+k+us.length):=by
    intro us
    induction us with
    | nil=>intro k cs _;simp
    | cons u us ih =>
     intro k cs hle;simp only[List.zipIdx_cons,List.foldl_cons,List.length_cons] at hle ⊢;rw[ih (k+1) _ (by simp;omega)];simp only[Array.toList_setIfInBounds];have hlt:off+k<cs.toList.length:=by simp;omega
     have e1:(cs.toList.set (off+k) u).take (off+(k+1))=cs.toList.take (off+k)++[u]:=by
      apply Ubf;intro n;simp only[UaB,UbT,Ua3,Uai];have:min (off+k) cs.toList.length=off+k:=by omega
      rw[this];by_cases h1:n<off+k
      ·have h2:n<off+(k+1):=(by omega);have h3:¬ off+k=n:=(by omega);simp [h1,h2,h3]
      ·by_cases h2:n=off+k
       ·subst h2;have h3:off+k<cs.size:=by simpa using hlt
        have h4:off+k<off+(k+1):=(by omega);simp [h3,h4]
       ·have h3:¬ n<off+(k+1):=(by omega);have h4:n-(off+k)≠0:=(by omega);simp [h1,h3];omega
     have e2:(cs.toList.set (off+k) u).drop (off+(k+1)+us.length)=cs.toList.drop (off+k+(us.length+1)):=(by rw[List.drop_set_of_lt (by omega)];congr 1;omega);rw[e1,e2];simp
   have:=gen (a.eval v).cells.toList 0 vs (by rw[hlen,hvl];simpa using hle);simpa using this
  rw[heq] at hsv;exact t.vrs _ _ (JK (fun _ _ h=>h) _ (QX _)) hsv
 ·cases hcs;have:∀(l cells:List IV) (off:Nat),Jk (id.1+1) l->Jk (id.1+1) cells->Jk (id.1+1) (Yb cells off l):=by
   intro l
   induction l with
   | nil=>intro cells off _ h;exact h
   | cons x r ih =>
    intro cells off h1 h2;refine ih _ _ h1.2 ?_;have:∀(cells:List IV) (off:Nat),Jk (id.1+1) cells->Jk (id.1+1) (cells.set off x):=by
     intro cells
     induction cells with
     | nil=>intro off h;exact h
     | cons y r ih =>
      intro off h;cases off with
      | zero=>exact⟨h1.1,h.2⟩
      | succ n=>exact⟨h.1,ih n h.2⟩
    exact this cells off h2
  exact this l cells off hlo (h.ok.low _ _ hs)
end give
end Go.Fd
namespace Go.Fd
variable [Tabs]
section
variable {P:Program} {F:Fr} {G G':Gh} {S S':Zb} {st:St} {a:Act} {w w':World} {oper:Oper}
theorem ZrO{C:ZJ}(h:Sim F G st a w){d:Option Nat}{K:St->Prop}(hd:d=oper.dst)(hdn:∀ y,d=some y->y<F.nt)(hc:Zs P .mk oper.op=true)(he:ew C d st K .mk):LOk P F a w oper K:=by
 subst hd;simp only[Zs] at hc;split at hc<;>try contradiction
 rename_i t ho;simp only[ew] at he;obtain⟨hfr,hK⟩:=he;have h0:st.sto (st.lvl,keyOf oper.dst)=none:=by rw[QW rfl];exact hfr.1
 obtain⟨G',hG⟩:∃ G':Gh,G'=fun i=>if i=(st.lvl,keyOf oper.dst) then fun _=>some (w.heap.size,0) else G i:=⟨_,rfl⟩
 have g0:G' (st.lvl,keyOf oper.dst) []=some (w.heap.size,0):=by rw[hG];simp
 have g1:∀ i,i≠(st.lvl,keyOf oper.dst)->G' i=G i:=fun i hi=>by rw[hG];exact if_neg hi
 have ht:=h.turn (Kl.refl st) (id:=(st.lvl,keyOf oper.dst)) (ob':=.mp []) (d:=oper.dst) (x:=.sv (st.lvl,keyOf oper.dst)) (v:=.map (some w.heap.size)) (G':=G') (w':=w.alloc (.map #[] 0)) (fun h=>h) (.inl rfl) g1 (by simp)
  (fun b hb _=>heap_alloc_old w _ b hb)
  (fun b hb=>by
   obtain⟨c,hc⟩:=hb;rw[g0] at hc;cases hc;exact .inr (Ual _))
  (fun ob hs=>by rw[h0] at hs;cases hs) rfl rfl rfl (fun t=>⟨_,_,_,_,g0,heap_alloc_new w _,rfl⟩) (fun _ he=>by cases he) hdn
  (fun t=>.inr ⟨[],_,_,by unfold Zo;rw[if_pos rfl],g0,rfl⟩)
 refine Res.of_run (v:=.map (some w.heap.size)) (w':=w.alloc (.map #[] 0)) ?_ ⟨_,G',hK,ht.1⟩;simp [execOp,ho,Instr.makeMap,newObj,Sem.run]
theorem Zjc{t:TypeId}(h:Dc P t=true):∃ a b,P.underlying t=some (.map a b)/\P.underlying a=some (.int .i64)/\ZbL P b=true:=by
 unfold Dc at h;split at h<;>try contradiction
 rename_i a b ht;simp only[Uae] at h;obtain⟨h1,h2⟩:=h;split at h1<;>try contradiction
 rename_i hk;exact⟨a,b,ht,hk,h2⟩
theorem ZrP{t:TypeId}(h:ZbL P t=true):∃ i,P.info? t=some i/\i.zero=some (.int .i64 0):=by
 unfold ZbL at h;split at h<;>try contradiction
 rename_i i hi;split at h<;>try contradiction
 rename_i n hz;have:n=0:=by simpa using h
 subst this;exact⟨i,hi,hz⟩
theorem ZrQ{t:TypeId}{i:TypeInfo}{z:Value}(hi:P.info? t=some i)(hz:i.zero=some z):(zeroValue t).run P w = .ok z w:=by simp [zeroValue,typeInfo,hi,hz]
def Qj(a:Int):List (Int×Int)->Nat->Option (Nat×Int)
 | [],_=>none
 | (x,y)::r,i=>if a=x then some (i,y) else Qj a r (i+1)
theorem Zjd(a:Int):∀(l:List (Int×Int)) (i:Nat),(Qj a l i).map (·.2)=Vw a l
 | [],_=>rfl
 | (x,y)::r,i=>by
  simp only[Qj,Vw];split
  ·rfl
  ·exact Zjd a r (i+1)
theorem Zje{kk:IntKind}{k:Int}:∀(es:List MapEntry) (l:List (Int×Int)) (i:Nat),es.map (fun e=>(e.key,e.val))=l.map (fun q=>(Value.int .i64 q.1,Value.int .i64 q.2)) ->
  Instr.findNow (.int kk) (.int .i64 k) es i=some ((Qj k l i).map fun q=>(q.1,Value.int .i64 q.2))
 | [],[],i,_=>rfl
 | [],_::_,_,h=>by simp at h
 | _::_,[],_,h=>by simp at h
 | e::es,(x,y)::l,i,h=>by
  simp only[Uah,List.cons.injEq,UbJ] at h;obtain⟨⟨h1,h2⟩,h3⟩:=h;simp only[Instr.findNow,h1,Instr.sameNow,if_true,Qj];by_cases hk:k=x
  ·subst hk;simp [h2]
  ·have hb:(k == x)=false:=(by simpa using hk);rw[hb,if_neg hk];exact Zje es l (i+1) h3
theorem Zjf{a b:Int}:∀(l:List (Int×Int)) (i:Nat),Qj a l i=none->Y2 a b l=l++[(a,b)]
 | [],_,_=>rfl
 | (x,y)::r,i,h=>by
  simp only[Qj] at h;split at h<;>try contradiction
  rename_i hn;simp only[Y2,if_neg hn,List.cons_append];rw[Zjf r (i+1) h]
theorem Zjg{a b y:Int}:∀(l:List (Int×Int)) (i n:Nat),Qj a l i=some (n,y)->i<=n/\l[n-i]? = some (a,y)/\Y2 a b l=l.set (n-i) (a,b)
 | [],_,_,h=>by simp [Qj] at h
 | (x,z)::r,i,n,h=>by
  simp only[Qj] at h;split at h
  ·rename_i hx;cases h;subst hx;simp [Y2]
  ·rename_i hx;obtain⟨h1,h2,h3⟩:=Zjg (b:=b) r (i+1) n h;obtain⟨m,rfl⟩:∃ m,n=i+1+m:=⟨n-(i+1),by omega⟩;have e1:i+1+m-(i+1)=m:=by omega
   have e2:i+1+m-i=m+1:=(by omega);rw[e1] at h2 h3;refine⟨by omega,by rw[e2];simpa using h2,?_⟩;rw[e2];simp only[Y2,if_neg hx,List.set_cons_succ,h3]
theorem Zjh{t:TypeId}{k:Int}{es:List MapEntry}{l:List (Int×Int)}(h:P.underlying t=some (.int .i64))(hl:es.map (fun e=>(e.key,e.val))=l.map (fun q=>(Value.int .i64 q.1,Value.int .i64 q.2))) :
  (Instr.findKey t (.int .i64 k) es).run P w = .ok ((Qj k l 0).map fun q=>(q.1,Value.int .i64 q.2)) w:=MapKept.run_findKey h (Zje es l 0 hl)
theorem Zji{id:Zd}{l:List (Int×Int)}{v:Value}(hs:S id=some (.mp l))(h:svR G S id v):∃ b c,G id []=some (b,c)/\v = .map (some b):=by
 rcases h with ⟨_,b,c,h1,_⟩ | ⟨_,b,c,h1,h2,h3⟩
 ·rw[hs] at h1;cases h1
 ·exact⟨b,c,h2,h3⟩
theorem ZrR{C:ZJ}(h:Sim F G st a w){m k:X}{d:Option Nat}{K:St->Prop}(hd:d=oper.dst)(hdn:∀ y,d=some y->y<F.nt)(hc:Zs P (.ml m k) oper.op=true)(he:ew C d st K (.ml m k)):LOk P F a w oper K:=by
 subst hd;simp only[Zs] at hc;split at hc<;>try contradiction
 rename_i t ym yk ho;simp only[Uae] at hc;obtain⟨⟨ht,hm⟩,hk⟩:=hc;obtain⟨ta,tb,h1,h2,h3⟩:=Zjc ht;obtain⟨ti,hti,hz⟩:=ZrP h3;have hm:=h.x hm;have hk:=h.x hk;simp only[ew,mlf] at he;split at he<;>try contradiction
 rename_i id hq;split at he<;>try contradiction
 rename_i l hs;split at he<;>try contradiction
 rename_i n hkq;rw[hq] at hm;rw[hkq] at hk;have hkv:a.eval yk = .int .i64 n:=(hk.val).1;obtain⟨b,c,hg,hv⟩:=Zji hs hm;obtain⟨b',c',es,ck,hg',hh,hes⟩:=h.ok.obs _ _ hs;rw[hg] at hg';cases hg';have hzv:=ZrQ (P:=P) (w:=w) hti hz;refine Res.of_run (v:=.tuple #[.int .i64 ((Vw n l).getD 0),.bool (Vw n l).isSome]) (w':=w) ?_ ⟨_,G,he,h.put (x:=.tu [iI ((Vw n l).getD 0),iB (Vw n l).isSome]) ?_ hdn⟩
 ·have hf:=Zjh (P:=P) (w:=w) (k:=n) h2 hes;have hck:=MapKept.run_checkKey (P:=P) (w:=w) (k:=.int .i64 n) h2 rfl es.isEmpty 9999;have hget:=Zjd n l 0;simp only[execOp,ho,Instr.lookup,Sem.run_bind,run_underlying h1,Result.andThen_ok,hv,hkv,MapKept.run_getObj_map hh,Sem.run_pure,hck,hf];rw[<-hget];cases hmf:Qj n l 0 with
  | none=>simp [hzv]
  | some q=>simp
 ·exact⟨[_,_],rfl,_,_,rfl,VR.mk rfl,_,_,rfl,VR.mk rfl,rfl⟩
theorem ZrS{C:ZJ}(h:Sim F G st a w){m k x:X}{d:Option Nat}{K:St->Prop}(hd:d=oper.dst)(hc:Zs P (.mu m k x) oper.op=true)(he:ew C d st K (.mu m k x)):LOk P F a w oper K:=by
 simp only[ew] at he;obtain⟨hdn,he⟩:=he;subst hd;have hput:∀ u,a.put oper.dst u=a:=fun u=>by rw[hdn];rfl
 have key:∀{t:TypeId} {ym yk yx:Operand},Dc P t=true->ZB m ym=true->ZB k yk=true->ZB x yx=true ->
   (∀ w',(Instr.mapUpdate t (a.eval ym) (a.eval yk) (a.eval yx)).run P w = .ok () w'->(execOp a.eval oper).run P w = .ok .skip w')->LOk P F a w oper K:=fun {t ym yk yx} ht hm hk hx hrun=>by
  obtain⟨ta,tb,h1,h2,h3⟩:=Zjc ht;have hm:=h.x hm;have hk:=h.x hk;have hx:=h.x hx;simp only[muf] at he;split at he<;>try contradiction
  rename_i id hq;split at he<;>try contradiction
  rename_i l hs;split at he<;>try contradiction
  rename_i n hkq;split at he<;>try contradiction
  rename_i y hxq;rw[hq] at hm;rw[hkq] at hk;rw[hxq] at hx;have hkv:a.eval yk = .int .i64 n:=(hk.val).1;have hxv:a.eval yx = .int .i64 y:=(hx.val).1;obtain⟨b,c,hg,hv⟩:=Zji hs hm;obtain⟨b',c',es,ck,hg',hh,hes⟩:=h.ok.obs _ _ hs;rw[hg] at hg';cases hg';have hf:=Zjh (P:=P) (w:=w) (k:=n) h2 hes;have hck:=MapKept.run_checkKey (P:=P) (w:=w) (k:=.int .i64 n) h2 rfl false 9999;have hb0:ZM G id (.mp l) b:=⟨c,hg⟩;have Jt:∀(es2:Array MapEntry) (ck2:Nat),(Instr.mapUpdate t (a.eval ym) (a.eval yk) (a.eval yx)).run P w = .ok () { w with heap:=w.heap.setIfInBounds b (.map es2 ck2) }->es2.toList.map (fun e=>(e.key,e.val))=(Y2 n y l).map (fun q=>(Value.int .i64 q.1,Value.int .i64 q.2))->LOk P F a w oper K:=fun es2 ck2 hr hm2=>by
   obtain⟨k1,k2⟩:=MapKept.heap_set (o':=.map es2 ck2) hh
   have ht:=h.turn (Kl.refl st) (id:=id) (ob':=.mp (Y2 n y l)) (d:=none) (x:=.un) (v:=undef) (G':=G) (w':={ w with heap:=w.heap.setIfInBounds b (.map es2 ck2) }) (fun h=>h) (.inr (by rw[hs];rfl)) (fun _ _=>rfl) (by simp)
    (fun blk _ hn=>k2 blk (fun hbb=>by subst hbb;exact hn _ hs hb0))
    (fun blk ho=>.inl ⟨id,_,.inl rfl,hs,ho⟩)
    (fun ob ho=>by rw[hs] at ho;cases ho;exact rfl)
    rfl rfl rfl (fun t=>⟨b,c,es2,ck2,hg,k1,hm2⟩) (fun _ hcs=>by cases hcs) (fun _ he=>by cases he) (fun _=>trivial)
   rw[QZ] at ht;refine Res.of_skip (hrun _ hr) ?_;rw[hput];exact⟨_,_,he,ht.1⟩
  cases hmf:Qj n l 0 with
  | none =>
   refine Jt (es.push ⟨.int .i64 n,.int .i64 y,ck⟩) (ck+1) ?_ ?_
   ·simp [Instr.mapUpdate,run_underlying h1,hv,hkv,hxv,MapKept.run_getObj_map hh,hck,hf,hmf,MapKept.run_setObj_map _ hh,Result.andThen]
   ·rw[Zjf l 0 hmf,Array.toList_push,Uaw,Uaw,hes];rfl
  | some q =>
   obtain⟨j,z⟩:=q;obtain⟨_,g2,g3⟩:=Zjg (b:=y) l 0 j hmf;simp only[Nat.sub_zero] at g2 g3;have hlen:es.toList.length=l.length:=by have:=congrArg List.length hes;simpa using this
   have hjl:j<l.length:=(Uad.1 g2).1;obtain⟨e0,he0⟩:∃ e0,es.toList[j]? = some e0:=⟨_,Uak (by omega)⟩;have hj:es[j]? = some e0:=(by simpa using he0);have hkv2:(e0.key,e0.val)=(Value.int .i64 n,Value.int .i64 z):=(by have h5:(es.toList.map fun e=>(e.key,e.val))[j]? = some (e0.key,e0.val):=(by rw[Uao,he0];rfl);rw[hes,Uao,g2] at h5;simpa using h5.symm);have hkk:e0.key=Value.int .i64 n:=congrArg Prod.fst hkv2;have hstay:=MapKept.run_keyThatStays (P:=P) (w:=w) (d:=.int .i64) (k:=.int .i64 n) rfl;refine Jt (es.modify j (fun e=>{ e with key:=.int .i64 n,val:=.int .i64 y })) ck ?_ ?_
   ·simp [Instr.mapUpdate,run_underlying h1,hv,hkv,hxv,MapKept.run_getObj_map hh,hck,hf,hmf,hj,hkk,hstay,MapKept.run_setObj_map _ hh,Result.andThen]
   ·rw[g3,UbE,<-hes];apply Ubf;intro i;rw[Uao,Ua3,Uao,Uaa];have:(es.modify j (fun e=>{ e with key:=.int .i64 n,val:=.int .i64 y })).toList[i]? = if j=i then es.toList[i]?.map (fun e=>{ e with key:=.int .i64 n,val:=.int .i64 y }) else es.toList[i]?:=by simp only[Array.getElem?_toList,UbI]
    rw[this];by_cases hij:j=i
    ·subst hij;rw[if_pos rfl,if_pos rfl,if_pos (by omega),he0];rfl
    ·rw[if_neg hij,if_neg hij]
 simp only[Zs] at hc;split at hc<;>try contradiction
 all_goals
  rename_i t ym yk yx ho;simp only[Uae] at hc;obtain⟨⟨⟨ht,hm⟩,hk⟩,hx⟩:=hc;exact key ht hm hk hx fun w' hr=>by simp [execOp,ho,hr]
theorem ZrT{C:ZJ}(h0:Sim F G st a w){key n:Nat}{p:X}{d:Option Nat}{K:St->Prop}(hd:d=oper.dst)(hc:Zs P (.sk key p n) oper.op=true)(he:ew C d st K (.sk key p n)):LOk P F a w oper K:=by
 have hc':Zs P (.st 1 p (.t n)) oper.op=true:=by simpa only[Zs] using hc
 have Jt:∀{G2:Gh} {st2:St},d=none->Sim F G2 st2 a w->ZbI p (.t n) K st2->LOk P F a w oper K:=fun {G2 st2} hdn h2 he2=>by
  refine ZeS (C:=C) h2 hd hc' ?_;simp only[ew,ZbI] at he2 ⊢;refine⟨hdn,?_⟩;split at he2<;>try contradiction
  rename_i l hcl;obtain⟨hl,he2⟩:=he2;refine⟨hl,?_⟩;split at he2<;>try contradiction
  rename_i hq;simp only[hq];exact he2
 simp only[ew] at he;obtain⟨hdn,he⟩:=he;unfold rkk at he;split at he<;>try contradiction
 rename_i id len s hq;obtain⟨hl,he⟩:=he;split at he
 ·exact Jt hdn h0 he
 ·rename_i hne;split at he<;>try contradiction
  rename_i k zs u hw ver hs;obtain⟨rfl,rfl,he⟩:=he;have hx:=h0.env n;rw[hq] at hx;obtain⟨s1,s2,s3,s4⟩:=Zi6 h0 (id0:=(st.lvl,key)) rfl;have hne':(st.lvl,key)≠id:=fun e=>hne (by rw[<-e]);have hs':=s4 id (Ne.symm hne') _ _ _ _ _ hs;have hx':=s1.vr (.hd id [] 0 zs.length none s) (a.tmps.getD n undef) (show ((Vv (st.lvl,key) st).sto id).isSome=true by rw[hs'];rfl) hx;have hnt:n<F.nt:=by
   by_cases hlt:n<F.nt
   ·exact hlt
   ·exfalso;obtain⟨⟨a0,c0,hv0,_⟩,_⟩:=hx;rw[UaH,UbQ (by rw[h0.sz];omega)] at hv0;simp [undef] at hv0
  obtain⟨G',hG'⟩:=s1.sim.ren (d:=some n) (v:=a.tmps.getD n undef) (id0:=(st.lvl,key)) (hl.trans s3.symm) s3.symm hne' hs' s2 (fun y hy=>by cases hy;exact hnt) hx';have hput:a.put (some n) (a.tmps.getD n undef)=a:=by
   have he:a.tmps.setIfInBounds n (a.tmps.getD n undef)=a.tmps:=by
    apply Array.ext';apply Ubf;intro i;rw[Array.toList_setIfInBounds,Ua3];split
    ·rename_i hi;subst hi;split
     ·rename_i hlt;rw[Uak hlt];simp at hlt;simp [Array.getD,hlt]
     ·rename_i hlt;rw[UaX (by omega)]
    ·rfl
   simp only[Act.put,he]
  rw[hput] at hG';exact Jt hdn hG' he
end
variable [Tabs]
section
variable {P:Program} {F:Fr} {G G':Gh} {st:St} {a:Act} {w w':World} {oper:Oper} {K:Yc} {b:Nat}
theorem Sim.gotA(h:Sim F G st a w){loc':List (Nat×Ob)}{out':Zb}{d:Option Nat}{key:Nat}{x:IV}{obs:List Ob}{v:Value}(hg:Zap G st.sto (ZF st.lvl loc' out') w st.lvl key x obs v w')
  (hcl:∀ id ob,ZF st.lvl loc' out' id=some ob->id.1<st.lvl+1) (ho:∀ i,i.1=st.lvl->out' i=st.out i) (hd:∀ y,d=some y->y<F.nt) :
  ∃ G',Sim F G' { st with env:=ptd d x st.env,loc:=addO key obs loc',out:=out' } (a.put d v) w':=by
 obtain⟨G',h1,h2,h3⟩:=hg;have hsto:({ st with env:=ptd d x st.env,loc:=addO key obs loc',out:=out' }:St).sto=ZW (ZF st.lvl loc' out') st.lvl key obs:=by have:=ZeZ obs key { st with loc:=loc',out:=out' };exact this
 refine⟨G',by cases d<;>exact h.dfr,by cases d<;>simp [Act.put,h.sz],fun s=>?_,by rw[hsto];exact h1,h.lvl,?_,by rw[hsto];exact h.fr.trans h3 (by show F.lvl<=st.lvl+1;rw[h.lvl];omega),h.fix⟩
 ·rw[hsto,Act.put_get a d v s (by rw[h.sz];exact hd)];have h0:=h3.stab _ _ (h.men_lt (h.env s)) (h.env s);cases d with
  | none=>simpa [ptd] using h0
  | some d =>
   simp only[ptd,Uat];rw[Uv];by_cases hs:s=d
   ·rw[if_pos hs,if_pos hs.symm];exact h2
   ·rw[if_neg hs,if_neg (fun e=>hs e.symm)];exact h0
 ·intro id ob hs;have hs:out' id=some ob:=hs;have hn:id.1≠st.lvl:=fun hn=>by rw[ho id hn] at hs;have:=h.outl id ob hs;omega
  have:=hcl id ob (by unfold ZF;rw[if_neg hn];exact hs);show id.1<st.lvl;omega
theorem ZrU{lvl:Nat}{loc:List (Nat×Ob)}{out:Zb}:∀{n b:Nat},freshK b loc n->YR (ZF lvl loc out) lvl b n:=fun {n b} h =>
 ZaC (st:=⟨lvl,[],loc,out⟩) h
theorem ZrV(h:Sim F G st a w){imp:Bool}{f:X}{xs:List X}{d:Option Nat}{Kw:St->Prop}(hd:d=oper.dst)(hdn:∀ y,d=some y->y<F.nt)(hc:Zs P (.ca .any imp f xs) oper.op=true)
  (he:ew (Sem P) d st Kw (.ca .any imp f xs)):LOk P F a w oper Kw:=by
 subst hd;simp only[Zs] at hc;split at hc<;>try contradiction
 rename_i g args at1 ho;simp only[Uae] at hc;have hg:=h.x hc.1;have hargs:=h.xs hc.2;simp only[ew] at he;split at he<;>try contradiction
 rename_i fid caps hq;obtain⟨r,loc',out',hou,⟨hr,⟨fn,hf,hb,hn⟩,hcall⟩,hfr,hk⟩:=he;rw[hq] at hg;simp only[VR] at hg;obtain⟨cvs,hg,hcv⟩:=hg;have hcl:=h.clean;have hrun:=Dg (P:=P) (w:=w) (caps:=cvs) ho hg hf hb hn;have hc:=hcall hcl G w (args.toList.map a.eval++cvs) h.ok (Zal (Ze0 hargs) hcv) (h.fr.fix h.fix);refine Res.of_enter hrun ?_;have harr:(args.map a.eval++cvs.toArray)=(args.toList.map a.eval++cvs).toArray:=by cases args;simp
 rw[harr];refine hc.mono ?_
 rintro e w' ⟨v,G1,rfl,h1,h2,hcl',h3⟩
 have hgot:=Zav (l:=st.lvl) (b:=keyOf oper.dst) (imp:=imp) hr hcl' h1 h2 h3 (ZrU hfr);obtain⟨G',hG'⟩:=h.gotA hgot hcl' hou hdn;exact⟨v,rfl,_,G',hk,hG'⟩
theorem ZrW(h:Sim F G st a w){d:Option Nat}{Kw:St->Prop}(hd:d=oper.dst)(hdn:∀ y,d=some y->y<F.nt):∀(o:O),JA o=true->Zs P o oper.op=true->ew (Sem P) d st Kw o->LOk P F a w oper Kw
 | .st m p x,_,hc,he=>ZeS h hd hc he
 | .gv key p x,_,hc,he=>ZrN h hd hc he
 | .mk,_,hc,he=>ZrO h hd hdn hc he
 | .mu m k x,_,hc,he=>ZrS h hd hc he
 | .ml m k,_,hc,he=>ZrR h hd hdn hc he
 | .sk key p n,_,hc,he=>ZrT h hd hc he
 | .bw k n z ps,_,hc,he=>Zra h hd hdn hc he
 | .ap k md x y,_,hc,he=>ZaB h hd hdn hc he
 | .nl neg x,_,hc,he=>Zrv h hd hdn hc he
 | .cp x,_,hc,he=>Zrw h hd hdn hc he
 | .sh k x hi,_,hc,he=>Zrx h hd hdn hc he
 | .cl k z x,_,hc,he=>ZrF h hd hdn hc he
 | .cy k x y,_,hc,he=>Zjb h hd hdn hc he
 | .c0 k x y,_,hc,he=>Zjb h hd hdn (by simpa only[Zs] using hc) (Zja he)
 | .fz x,_,hc,he=>Zrz h hd hdn hc he
 | .rk x,_,hc,he=>ZrA h hd hdn hc he
 | .mz f cs,_,hc,he=>ZrD h hd hdn hc he
 | .lz m p,_,hc,he=>ZrE h hd hdn hc he
 | .a1 k x y,_,hc,he=>Zrj h hd hdn hc he
 | .a2 k x y,_,hc,he=>Zrl h hd hdn hc he
 | .a4 k x y,_,hc,he=>Zrm h hd hdn hc he
 | .xx,_,_,he=>False.elim he
 | .s0 m p x,_,hc,he=>Zq9 h hd hc he
 | .a0 k x y,_,hc,he=>Zri h hd hdn hc he
 | .az k z x n,_,hc,he=>ZrM h hd hdn hc he
 | .ca .same imp f xs,_,hc,he=>Zrt h hd hdn hc he
 | .ca .keep imp f xs,_,hc,he=>Zru h hd hdn hc he
 | .ca .any imp f xs,_,hc,he=>ZrV h hd hdn hc he
theorem Zjj(h:Sim F G st a w){d:Option Nat}{o:O}{Kw:St->Prop}(hd:d=oper.dst)(hdn:∀ y,d=some y->y<F.nt)(hc:Zs P o oper.op=true)(he:ZD (Sem P) d o st Kw):LOk P F a w oper Kw:=by
 unfold ZD at he;split at he
 ·rename_i hl;exact ZrW h hd hdn o hl hc he
 ·rename_i hl;have:=Zrr (b:=keyOf d) h o (by simpa using hl) (fun mk obs hk=>ZaC hk.1) hc he;refine this.mono ?_
  rintro v w' ⟨mk,obs,⟨_,hk⟩,hg⟩
  obtain⟨G',hs⟩:=h.got hg hdn;subst hd;exact⟨_,G',hk,hs⟩
theorem LOk.wp{o:Oper}{Kw:St->Prop}{next:Act->World->Prop}{Q:Exit->Act->World->Prop}(h:LOk P F a w o Kw)(hn:∀ st' G' a' w',Kw st'->Sim F G' st' a' w'->next a' w'):o.wp P a w next Q :=
 h next Q fun _ _ ⟨st',G',hk,hs⟩=>hn st' G' _ _ hk hs
theorem Sim.known(h:Sim F G st a w){j:Nat}{c:Bool}(hj:lk j st.env = .tr (.v (.bool c)))(x:IV)(hx:x=iB c):Sim F G { st with env:=pt j x st.env } a w:=by
 refine⟨h.dfr,h.sz,fun t=>?_,h.ok,h.lvl,h.outl,h.fr,h.fix⟩;show VR G st.sto w (lk t (pt j x st.env)) _;rw[Uv];split
 ·rename_i ht;subst ht hx;have:=h.env t;rw[hj] at this;exact this
 ·exact h.env t
theorem Ze3(h:Sim F G st a w){ops:Array Oper}{o:OP}{Kw:St->Prop}{next:Act->World->Prop}{Q:Exit->Act->World->Prop}(hc:ZbM P F.nt ops o oper=true)(he:Yg (Sem P) o st Kw)
  (hn:∀ st' G' a' w',Kw st'->Sim F G' st' a' w'->next a' w'):if Region.wanted oper (yielded ops a.tmps)=true then oper.wp P a w next Q else next (a.put oper.dst undef) w:=by
 unfold ZbM at hc;simp only[Uae,decide_eq_true_eq] at hc;obtain⟨⟨⟨hd,hdn⟩,hg⟩,hc⟩:=hc;have hdn':∀ y,o.d=some y->y<F.nt:=fun y hy=>by rw[hy] at hdn;simpa using hdn
 unfold Yg at he;unfold Region.wanted;split at hg
 ·rename_i hg1 hg2;rw[hg1] at he;rw[hg2,if_pos rfl];exact(Zjj h hd hdn' hc he).wp hn
 ·rename_i j w1 g w2 hg1 hg2;rw[hg1] at he;simp only[hg2];simp only[Uae,beq_iff_eq,decide_eq_true_eq] at hg;obtain⟨rfl,hg⟩:=hg;have hskip:VR G st.sto w (.tu []) undef:=⟨[],rfl,rfl⟩;simp only at he;split at he<;>try contradiction
  ·rename_i c hl;have hv:=h.env j;rw[hl] at hv;have hv:=hv.val.1;have hy:yielded ops a.tmps g=some c:=by
    unfold yielded;rw[hg];simp only[Option.bind_some];have hb:a.tmps[j]? = some (.bool c):=by
     rw[UaH] at hv;cases hq:a.tmps[j]? with
     | none=>rw[hq] at hv;simp [undef] at hv
     | some u=>rw[hq] at hv;simp at hv;rw[hv]
    rw[hb]
   rw[hy];by_cases hcw:c=w1
   ·rw[if_pos (by simp [hcw])];have h':=h.known hl (iB w1) (by rw[hcw]);exact(Zjj h' hd hdn' hc (he.1 hcw)).wp hn
   ·rw[if_neg (by simp [hcw])];have hcw':c = !w1:=by cases c<;>cases w1<;>simp_all
    have h':=h.known hl (iB !w1) (by rw[hcw']);have:=h'.put (d:=o.d) (x:=.tu []) (v:=undef) hskip hdn';refine hn _ G _ _ (he.2 hcw') ?_;rw[<-hd];exact this
  ·rename_i hl;have hv:=h.env j;rw[hl] at hv;obtain⟨vs,hv,hvs⟩:=hv;simp only[Zu] at hvs;subst hvs;have hy:yielded ops a.tmps g=none:=by
    unfold yielded;rw[hg];simp only[Option.bind_some];rw[UaH] at hv;cases hq:a.tmps[j]? with
    | none=>rfl
    | some u=>rw[hq] at hv;simp at hv;rw[hv]
   rw[hy,if_neg (by simp)];refine hn _ G _ _ he ?_;rw[<-hd];exact h.put (d:=o.d) (x:=.tu []) (v:=undef) hskip hdn'
 ·cases hg
end
variable [Tabs]
theorem Ze4(ks:List Nat)(t:Nat):∀ env,lk t (Xg ks env)=if t∈ks then lk t env else .un
 | []=>by simp [Xg,lk]
 | (s,x)::r=>by
  simp only[Xg];by_cases hs:s∈ks
  ·rw[if_pos hs];simp only[lk];by_cases ht:t=s
   ·subst ht;simp [hs]
   ·rw[if_neg ht,if_neg ht];exact Ze4 ks t r
  ·rw[if_neg hs,Ze4 ks t r];simp only[lk];by_cases ht:t=s
   ·subst ht;simp [hs]
   ·rw[if_neg ht]
theorem Zb8(js:List Nat)(t:Nat):∀ loc,lkO t (X2 js loc)=if t∈js then lkO t loc else none
 | []=>by simp [X2,lkO]
 | (s,x)::r=>by
  simp only[X2];by_cases hs:s∈js
  ·rw[if_pos hs];simp only[lkO];by_cases ht:t=s
   ·subst ht;simp [hs]
   ·rw[if_neg ht,if_neg ht];exact Zb8 js t r
  ·rw[if_neg hs,Zb8 js t r];simp only[lkO];by_cases ht:t=s
   ·subst ht;simp [hs]
   ·rw[if_neg ht]
theorem Zjk{l:Nat}{js:List Nat}{t:Nat}:∀{env:List (Nat×IV)},Ur l js env->Yh l js (lk t env)
 | [],_=>trivial
 | (s,x)::r,h=>by
  simp only[lk];split
  ·exact h.1
  ·exact Zjk h.2
theorem Zb9{l:Nat}{js:List Nat}{t:Nat}{cells:List IV}:∀{loc:List (Nat×Ob)},Qy l js loc->lkO t loc=some (.bx cells)->VW l js cells
 | [],_,h=>by cases h
 | (s,.bx c)::r,h,hl=>by
  simp only[lkO] at hl;split at hl
  ·cases hl;exact h.1
  ·exact Zb9 h.2 hl
 | (s,.ar ..)::r,h,hl=>by
  simp only[lkO] at hl;split at hl
  ·cases hl
  ·exact Zb9 (loc:=r) h hl
 | (s,.mp _)::r,h,hl=>by
  simp only[lkO] at hl;split at hl
  ·cases hl
  ·exact Zb9 (loc:=r) h hl
section
variable {P:Program} {F:Fr} {G G':Gh} {st:St} {a:Act} {w w':World} {oper:Oper} {ks js:List Nat}
theorem Ze5(st:St)(i:Zd):(fgt ks js st).sto i=if i.1=st.lvl then (if i.2∈js then lkO i.2 st.loc else none) else st.out i:=by unfold St.sto ZF fgt;simp only[Zb8]
theorem Sim.fgt(h:Sim F G st a w)(hc:Fd.clean ks js st):Sim F G (Fd.fgt ks js st) a w:=by
 have del:Del st.sto (Fd.fgt ks js st).sto (fun i=>i.1=st.lvl->i.2∈js):=by
  refine⟨fun i ob hs hp=>?_,fun i ob hs=>?_,fun i cells hs=>?_⟩
  ·rw[Ze5];split
   ·rename_i hi;rw[if_pos (hp hi),<-QW hi];exact hs
   ·rename_i hi;rw[<-YS hi];exact hs
  ·rw[Ze5] at hs;split at hs
   ·rename_i hi;split at hs
    ·rename_i hj;exact⟨by rw[QW hi];exact hs,fun _=>hj⟩
    ·cases hs
   ·rename_i hi;exact⟨by rw[YS hi];exact hs,fun h=>absurd h hi⟩
  ·rw[Ze5] at hs;split at hs
   ·rename_i hi;split at hs
    ·rename_i hj;exact Zb9 (t:=i.2) hc.2 (by rw[Zb8,if_pos hj];exact hs)
    ·cases hs
   ·rename_i hi;have h1:=h.outl i _ hs;have h2:=h.ok.low i cells (by rw[YS hi];exact hs);refine JK (fun j hj=>fun hl=>?_) cells h2;have hj:j.1<i.1+1:=hj;omega
 refine⟨h.dfr,h.sz,fun t=>?_,del.ok h.ok,h.lvl,h.outl,⟨h.fr.size,h.fr.old,fun i ob b hs=>h.fr.own i ob b (del.only i ob hs).1,h.fr.os,h.fr.tape,h.fr.output,fun x v hx hv=>?_⟩,h.fix⟩
 ·show VR G _ w (lk t (Xg ks st.env)) _;have hm:=Zjk (t:=t) hc.1;refine del.vr _ _ hm ?_;rw[Ze4];split
  ·exact h.env t
  ·trivial
 ·refine del.vr x v (JZ (fun j hj=>fun hl=>?_) x hx) (h.fr.stab x v hx hv);have hj:j.1<F.lvl:=hj;rw[<-h.lvl] at hj;omega
theorem Zjl{ops:Array Oper}{Q:Exit->Act->World->Prop}{K:St->Prop}:∀(l:List OP) (r:List Oper) (i:Nat) (st:St) (G:Gh) (a:Act) (w:World),Sim F G st a w->X7 P F.nt ops l r=true ->
  ops.toList.drop i=r->Vc (Sem P) l st K->(∀ st' G' a' w',K st'->Sim F G' st' a' w'->Q .normal a' w')->wpOps P ops Q (List.range' i r.length) a w
 | [],r,i,st,G,a,w,h,hc,hr,he,hq=>by
  cases r with
  | nil=>exact hq st G a w he h
  | cons=>cases hc
 | o::l,r,i,st,G,a,w,h,hc,hr,he,hq=>by
  cases r with
  | nil=>cases hc
  | cons oper s =>
   simp only[X7,Uae] at hc;have hi:ops[i]? = some oper:=by have:=congrArg (fun l=>l[0]?) hr;simpa using this
   have hs:ops.toList.drop (i+1)=s:=(by rw[<-UbK,hr];rfl);have key:=Ze3 (ops:=ops) (Q:=Q) (next:=wpOps P ops Q (List.range' (i+1) s.length)) h hc.1 he (fun st' G' a' w' hk h' => Zjl l s (i+1) st' G' a' w' h' hc.2 hs hk hq);rw[List.length_cons,List.range'_succ];simp only[wpOps,hi];by_cases hw:Region.wanted oper (yielded ops a.tmps)=true
   ·rw[if_pos hw] at key ⊢;exact .inl key
   ·rw[if_neg hw] at key ⊢;exact key
def ZrX:Ex->Exit
 | .nrm=>.normal
 | .ext i=>.exit i
 | .ret=>.ret
end
end Go.Fd
namespace Go.Fd
variable [Tabs]
def rd:O->List X
 | .mv x _ | .bx x | .nt x | .ng x | .cv _ x | .ms _ _ x | .fa _ x | .fd _ _ x | .ln x | .lg x | .ex _ x | .nc x | .ld _ x | .lt _ x | .lz _ x | .bt x | .sa _ x | .sb x | .nl _ x | .cp x | .cl _ _ x | .fz x | .rk x=>[x]
 | .al .. | .la _ | .xx | .mk=>[]
 | .mu m k x=>[m,k,x]
 | .ml m k=>[m,k]
 | .sk _ p n=>[p,.t n]
 | .bd _ ps _=>ps.map (·.2.2)
 | .bs _ _ _ ps | .bc _ _ _ ps | .bw _ _ _ ps | .bv _ _ _ ps=>ps.map (·.2)
 | .st _ p x | .s0 _ p x | .gv _ p x=>[p,x]
 | .bi _ _ x y | .qa _ _ x y | .mm _ x y | .ap _ _ x y | .ia _ x y | .it _ x y | .ja _ _ x y | .ix x y | .jx _ _ _ x y | .sh _ x y | .cy _ x y | .c0 _ x y | .a2 _ x y | .a4 _ x y | .a3 _ x y | .a0 _ x y | .a1 _ x y | .az _ _ x y=>[x,y]
 | .mf _ cs | .mz _ cs=>cs
 | .lb _ x q=>x::(q.map X.t).toList
 | .sx _ x lo hi mx | .sy _ x lo hi mx | .sw _ x lo hi mx=>x::(lo.toList++(hi.toList++mx.toList))
 | .ss x lo hi=>x::(lo.toList++hi.toList)
 | .pk c a b=>[c,a,b]
 | .ca _ _ f xs=>f::xs
theorem Ze6{ρ ρ':X->IV}{p:X}{q:Option Nat}(h:∀ x∈p::(q.map X.t).toList,ρ' x=ρ x):VV ρ' p q↔VV ρ p q:=by
 cases q with
 | none=>exact UbB
 | some q =>
  show VU (ρ' p) (ρ' (.t q))↔VU (ρ p) (ρ (.t q));rw[h p (by simp),h (.t q) (by simp)]
def Rel{α:Type}(T:(α->Prop)->Prop):Prop:=∃ R:α->Prop,∀ K,T K↔∃ r,R r/\K r
section
variable {α β:Type} {T:(α->Prop)->Prop}
theorem Jf:Rel (fun(_:α->Prop)=>False):=⟨fun _=>False,fun K=>by simp⟩
theorem Z4(r:α):Rel (fun(K:α->Prop)=>K r):=⟨fun s=>s=r,fun K=>by simp⟩
theorem ZG{p:Prop}(h:Rel T):Rel (fun K=>p/\T K):=by
 obtain⟨R,hR⟩:=h;exact⟨fun r=>p/\R r,fun K=>by
   simp only[hR];constructor
   ·rintro⟨hp,r,h1,h2⟩;exact⟨r,⟨hp,h1⟩,h2⟩
   ·rintro⟨r,⟨hp,h1⟩,h2⟩;exact⟨hp,r,h1,h2⟩⟩
theorem Wg{U:β->(α->Prop)->Prop}(h:∀ y,Rel (U y)):Rel (fun K=>∃ y,U y K):=by
 refine⟨fun r=>∃ y,(h y).choose r,fun K=>?_⟩;constructor
 ·rintro⟨y,hy⟩
  obtain⟨r,h1,h2⟩:=((h y).choose_spec K).1 hy;exact⟨r,⟨y,h1⟩,h2⟩
 ·rintro⟨r,⟨y,h1⟩,h2⟩
  exact⟨y,((h y).choose_spec K).2 ⟨r,h1,h2⟩⟩
theorem Jd{U:α->(β->Prop)->Prop}(ht:Rel T)(h:∀ y,Rel (U y)):Rel (fun K=>T fun y=>U y K):=by
 obtain⟨R,hR⟩:=ht;have h1:(fun K=>T fun y=>U y K)=fun K=>∃ y,R y/\U y K:=by funext K;exact propext (hR _)
 rw[h1];exact Wg fun y=>ZG (h y)
theorem Ju{T':(α->Prop)->Prop}(h:∀ K,T K↔T' K)(ht:Rel T'):Rel T:=by have:T=T':=funext fun K=>propext (h K);rw[this];exact ht
theorem Rel.ex(h:Rel T){K:α->Prop}(ht:T K):∃ r,K r/\T (fun s=>s=r):=by obtain⟨R,hR⟩:=h;obtain⟨r,h1,h2⟩:=(hR K).1 ht;exact⟨r,h2,(hR _).2 ⟨r,h1,rfl⟩⟩
theorem Rel.mono(h:Rel T){K K':α->Prop}(hk:∀ r,K r->K' r)(ht:T K):T K':=by obtain⟨R,hR⟩:=h;obtain⟨r,h1,h2⟩:=(hR K).1 ht;exact(hR _).2 ⟨r,h1,hk r h2⟩
end
theorem ZrY{op:BinOp}{w:Nat}{a b:Value}:Rel (Jr op w a b):=by
 by_cases h:∃ r p,∀ K,Jr op w a b K↔p/\K r
 ·obtain⟨r,p,h⟩:=h;exact Ju h (ZG (Z4 r))
 ·refine Ju (T':=fun _=>False) (fun K=>⟨fun hk=>h ?_,False.elim⟩) Jf;unfold Jr at hk
  split at hk<;>first
   | exact hk.elim
   | exact⟨_,_,fun K=>by simp only[Jr];rw[and_assoc]⟩
   | exact⟨_,_,fun K=>by simp only[Jr];rw[<-and_assoc]⟩
   | exact⟨_,_,fun K=>by simp only[Jr];rw[<-and_assoc,<-and_assoc]⟩
   | exact⟨_,_,fun K=>by simp only[Jr];rw[<-and_assoc,<-and_assoc,<-and_assoc]⟩
   | exact⟨_,_,fun K=>by simp only[Jr];exact UbB⟩
   | exact⟨_,True,fun K=>by simp only[Jr,true_and];exact UbB⟩
theorem ZrZ{q:Nat}{x y:IV}:Rel (Xd q x y):=by
 by_cases h:∃ r p,∀ K,Xd q x y K↔p/\K r
 ·obtain⟨r,p,h⟩:=h;exact Ju h (ZG (Z4 r))
 ·refine Ju (T':=fun _=>False) (fun K=>⟨fun hk=>h ?_,False.elim⟩) Jf;unfold Xd at hk
  split at hk<;>first
   | exact hk.elim
   | exact⟨_,_,fun K=>by simp only[Xd];exact UbB⟩
   | exact⟨_,True,fun K=>by simp only[Xd,true_and];exact UbB⟩
theorem Zjm:∀{qs:List Nat} {x y:List IV},Rel (YN qs x y)
 | [],[],[]=>Ju (fun _=>by simp only[YN]) (Z4 true)
 | q::qs,x::r,y::s=>Ju (fun _=>by simp only[YN]) (Jd (ZrZ (q:=q) (x:=x) (y:=y)) fun a=>Jd (Zjm (qs:=qs) (x:=r) (y:=s)) fun b=>Z4 (a&&b))
 | [],[],_::_=>Ju (fun _=>by simp only[YN]) Jf
 | [],_::_,_=>Ju (fun _=>by simp only[YN]) Jf
 | _::_,[],_=>Ju (fun _=>by simp only[YN]) Jf
 | _::_,_::_,[]=>Ju (fun _=>by simp only[YN]) Jf
theorem bndI_rel{ρ:X->IV}{x:Option X}{n:Nat}:Rel (ZT ρ x n):=by
 cases x with
 | none=>exact Ju (fun _=>by simp only[ZT]) (Z4 n)
 | some x =>
  by_cases h:∃ k m,ρ x = .tr (.v (.int k m))
  ·obtain⟨k,m,h⟩:=h;exact Ju (fun _=>by simp only[ZT,h]) (ZG (p:=0<=m) (Z4 m.toNat))
  ·refine Ju (T':=fun _=>False) (fun K=>⟨fun hk=>h ?_,False.elim⟩) Jf;simp only[ZT] at hk;split at hk
   ·exact⟨_,_,‹_›⟩
   ·exact hk.elim
abbrev MO:=(Nat->Nat->IV)×(Nat->Nat->List Ob)
section
variable {C:ZJ} {ρ:X->IV} {L:Zb}
theorem Ze7{k:Nat}:∀(ps:List (Nat×X)) (es:Row) (u:Bool),Rel (fun K:Row×Bool->Prop=>Y0 ρ k ps es u (fun a b=>K (a,b)))
 | [],es,u=>by simp only[Y0];exact Z4 (es,u)
 | (i,x)::r,es,u=>by
  simp only[Y0];split
  ·split
   ·exact ZG (ZG (Ze7 r _ _))
   ·exact Jf
  ·exact Jf
theorem Ze8{id:Zd}{p:Zn}{st:Nat}:Rel (fun K:Row×Bool×Nat->Prop=>JU L id p st fun a b c=>K (a,b,c)):=by
 simp only[JU];split
 ·exact Wg fun _=>ZG (ZG (Z4 _))
 ·exact Jf
theorem Zr0{L:Zb}:∀(x:IV),Rel (VT L x):=by
 intro x;cases x with
 | tr t=>exact Ju (fun _=>by simp only[VT];exact UbB) (Z4 _)
 | cs es=>exact Ju (fun _=>by simp only[VT];exact UbB) (Z4 _)
 | hd id p off len c st=>exact Ju (fun _=>by simp only[VT]) (Jd (Ze8 (L:=L) (id:=id) (p:=p) (st:=st)) (U:=fun y K=>off+len<=y.1.length/\K (.sl (cut y.1 off len))) fun _=>ZG (Z4 _))
 | _=>exact Ju (fun _=>by simp only[VT]) Jf
theorem Zjn{L:Zb}:∀(l:List IV),Rel (YM L l)
 | []=>Ju (fun _=>by simp only[YM];exact UbB) (Z4 _)
 | x::r=>Ju (fun _=>by simp only[YM]) (Jd (Zr0 (L:=L) x) (U:=fun t K=>YM L r fun ts=>K (t::ts)) fun t=>Jd (Zjn (L:=L) r) (U:=fun ts K=>K (t::ts)) fun _=>Z4 _)
theorem Zr1{L:Zb}{o:Option Ob}{off:Nat}:Rel (Xc o L off):=by
 cases o with
 | none=>exact Ju (fun _=>by simp only[Xc]) Jf
 | some ob =>
  cases ob with
  | bx cells=>exact Ju (fun _=>by simp only[Xc]) (Jd (Zjn (L:=L) (cells.drop off)) (U:=fun ts K=>K (.ta ts)) fun _=>Z4 _)
  | ar=>exact Ju (fun _=>by simp only[Xc]) Jf
  | mp=>exact Ju (fun _=>by simp only[Xc]) Jf
mutual
theorem Zr2:∀(x:IV),Rel (Jc L x)
 | .un=>Ju (fun _=>by simp only[Jc];exact UbB) (Z4 _)
 | .tr t=>Ju (fun _=>by simp only[Jc];exact UbB) (Z4 _)
 | .cs es=>Ju (fun _=>by simp only[Jc];exact UbB) (Z4 _)
 | .hd id p off len c st=>Ju (fun _=>by simp only[Jc]) (Jd (Ze8 (L:=L) (id:=id) (p:=p) (st:=st)) (U:=fun y K=>off+len<=y.1.length/\K (.tr (.sl (cut y.1 off len)))) fun _=>ZG (Z4 _))
 | .ag l=>Ju (fun _=>by simp only[Jc]) (Jd (Zca l) (U:=fun l' K=>K (.ag l')) fun _=>Z4 _)
 | .fn f c=>Ju (fun _=>by simp only[Jc]) (Jd (Zca c) (U:=fun l' K=>K (.fn f l')) fun _=>Z4 _)
 | .er=>Ju (fun _=>by simp only[Jc];exact UbB) (Z4 _)
 | .ab id off=>Ju (fun _=>by simp only[Jc]) (Zr1 (L:=L) (o:=L id) (off:=off))
 | .sv _=>Ju (fun _=>by simp only[Jc]) Jf
 | .ae .. => Ju (fun _=>by simp only[Jc]) Jf
 | .ta c=>Ju (fun _=>by simp only[Jc];exact UbB) (Z4 _)
 | .tu .. => Ju (fun _=>by simp only[Jc]) Jf
 | .ow .. => Ju (fun _=>by simp only[Jc]) Jf
theorem Zca:∀(l:List IV),Rel (Z5 L l)
 | []=>Ju (fun _=>by simp only[Z5];exact UbB) (Z4 _)
 | x::r=>Ju (fun _=>by simp only[Z5]) (Jd (Zr2 x) (U:=fun x' K=>Z5 L r fun r' => K (x'::r')) fun x' => Jd (Zca r) (U:=fun r' K=>K (x'::r')) fun _=>Z4 _)
end
theorem Wh{S:Zb}{x:IV}:Rel (Vj S x):=by
 unfold Vj;split
 ·exact Z4 _
 ·exact Z4 _
 ·rename_i id p off len c s;exact Ju (fun _=>UbB) (Jd (Ze8 (L:=S) (id:=id) (p:=p) (st:=s)) (U:=fun y K=>off+len<=y.1.length/\K (cut y.1 off len)) fun _=>ZG (Z4 _))
 ·exact Jf
theorem Ze9:∀(o:O),Rel (fun K:MO->Prop=>ev C ρ L (fun m b=>K (m,b)) o):=by
 intro o;have key:∀{α:Type} {T:(α->Prop)->Prop} {U:α->(MO->Prop)->Prop},Rel T->(∀ y,Rel (U y))->Rel (fun K=>T fun y=>U y K):=fun h1 h2=>Jd h1 h2;cases o
 case bs k n z ps =>
  simp only[ev];exact Jd (Ze7 (ρ:=ρ) (k:=k) ps (List.replicate n (z.map trv)) true) (U:=fun y (K:MO->Prop)=>K (fun l b=>.hd (l,b) [] 0 n none n,fun _ _=>[.ar k y.1 y.2 n 0])) fun _=>Z4 _
 case bc k n z ps =>
  simp only[ev,ZH];exact Jd (Ze7 (ρ:=ρ) (k:=k) ps (List.replicate n (z.map trv)) true) (U:=fun y (K:MO->Prop)=>K (fun _ _=>.tr (.sl y.1),fun _ _=>[])) fun _=>Z4 _
 case bi op w x y =>
  simp only[ev,ZH];split
  ·rename_i a b _ _;exact Jd (ZrY (op:=op) (w:=w) (a:=a) (b:=b)) (U:=fun r (K:MO->Prop)=>K (fun _ _=>.tr (.v r),fun _ _=>[])) fun _=>Z4 _
  ·split<;>first | exact Z4 _ | exact Jf
  ·exact Jf
 case qa neg ks x y =>
  simp only[ev,ZH];split
  ·rename_i l m _ _;exact Jd (Zjm (qs:=ks) (x:=l) (y:=m)) (U:=fun r (K:MO->Prop)=>K (fun _ _=>iB (if neg then !r else r),fun _ _=>[])) fun _=>Z4 _
  ·exact Jf
 case sx k x lo hi mx =>
  simp only[ev,ZH];split
  ·rename_i es _;refine ZG (Jd (bndI_rel (ρ:=ρ) (x:=lo) (n:=0)) (U:=fun a (K:MO->Prop)=>ZT ρ hi es.length fun b=>a<=b/\b<=es.length/\ZT ρ mx b fun m=>m=b/\K (fun _ _=>if mx.isSome then .cs (cut es a (b-a)) else .tr (.sl (cut es a (b-a))),fun _ _=>[])) fun a=>?_);refine Jd (bndI_rel (ρ:=ρ) (x:=hi) (n:=es.length)) (U:=fun b (K:MO->Prop)=>a<=b/\b<=es.length/\ZT ρ mx b fun m=>m=b/\K (fun _ _=>if mx.isSome then .cs (cut es a (b-a)) else .tr (.sl (cut es a (b-a))),fun _ _=>[])) fun b=>?_;exact ZG (ZG (Jd (bndI_rel (ρ:=ρ) (x:=mx) (n:=b)) (U:=fun m (K:MO->Prop)=>m=b/\K (fun _ _=>if mx.isSome then .cs (cut es a (b-a)) else .tr (.sl (cut es a (b-a))),fun _ _=>[])) fun m=>ZG (Z4 _)))
  ·rename_i es _;refine ZG (Jd (bndI_rel (ρ:=ρ) (x:=lo) (n:=0)) (U:=fun a (K:MO->Prop)=>ZT ρ hi es.length fun b=>a<=b/\b<=es.length/\ZT ρ mx b fun m=>m=b/\K (fun _ _=>if mx.isSome || hi.isNone then .cs (cut es a (b-a)) else .tr (.sl (cut es a (b-a))),fun _ _=>[])) fun a=>?_);refine Jd (bndI_rel (ρ:=ρ) (x:=hi) (n:=es.length)) (U:=fun b (K:MO->Prop)=>a<=b/\b<=es.length/\ZT ρ mx b fun m=>m=b/\K (fun _ _=>if mx.isSome || hi.isNone then .cs (cut es a (b-a)) else .tr (.sl (cut es a (b-a))),fun _ _=>[])) fun b=>?_;exact ZG (ZG (Jd (bndI_rel (ρ:=ρ) (x:=mx) (n:=b)) (U:=fun m (K:MO->Prop)=>m=b/\K (fun _ _=>if mx.isSome || hi.isNone then .cs (cut es a (b-a)) else .tr (.sl (cut es a (b-a))),fun _ _=>[])) fun m=>ZG (Z4 _)))
  ·rename_i id p off len cap st _;refine Jd (bndI_rel (ρ:=ρ) (x:=lo) (n:=0)) (U:=fun a (K:MO->Prop)=>ZT ρ hi len fun b=>a<=b/\b<=len/\ZT ρ mx b fun m=>b<=m/\m<=len/\JV L id p k/\K (fun _ _=>.hd id p (off+a) (b-a) (if mx.isSome then some (m-a) else cap.map (· - a)) st,fun _ _=>[])) fun a=>?_;refine Jd (bndI_rel (ρ:=ρ) (x:=hi) (n:=len)) (U:=fun b (K:MO->Prop)=>a<=b/\b<=len/\ZT ρ mx b fun m=>b<=m/\m<=len/\JV L id p k/\K (fun _ _=>.hd id p (off+a) (b-a) (if mx.isSome then some (m-a) else cap.map (· - a)) st,fun _ _=>[])) fun b=>?_;exact ZG (ZG (Jd (bndI_rel (ρ:=ρ) (x:=mx) (n:=b)) (U:=fun m (K:MO->Prop)=>b<=m/\m<=len/\JV L id p k/\K (fun _ _=>.hd id p (off+a) (b-a) (if mx.isSome then some (m-a) else cap.map (· - a)) st,fun _ _=>[])) fun m=>ZG (ZG (ZG (Z4 _)))))
  ·exact Jf
 case sw k x lo hi mx =>
  simp only[ev,ZH];split
  ·rename_i es _;refine ZG (Jd (bndI_rel (ρ:=ρ) (x:=lo) (n:=0)) (U:=fun a (K:MO->Prop)=>ZT ρ hi es.length fun b=>a<=b/\b<=es.length/\ZT ρ mx b fun m=>m=b/\K (fun _ _=>if mx.isSome then .cs (cut es a (b-a)) else .tr (.sl (cut es a (b-a))),fun _ _=>[])) fun a=>?_);refine Jd (bndI_rel (ρ:=ρ) (x:=hi) (n:=es.length)) (U:=fun b (K:MO->Prop)=>a<=b/\b<=es.length/\ZT ρ mx b fun m=>m=b/\K (fun _ _=>if mx.isSome then .cs (cut es a (b-a)) else .tr (.sl (cut es a (b-a))),fun _ _=>[])) fun b=>?_;exact ZG (ZG (Jd (bndI_rel (ρ:=ρ) (x:=mx) (n:=b)) (U:=fun m (K:MO->Prop)=>m=b/\K (fun _ _=>if mx.isSome then .cs (cut es a (b-a)) else .tr (.sl (cut es a (b-a))),fun _ _=>[])) fun m=>ZG (Z4 _)))
  ·rename_i es _;refine ZG (Jd (bndI_rel (ρ:=ρ) (x:=lo) (n:=0)) (U:=fun a (K:MO->Prop)=>ZT ρ hi es.length fun b=>a<=b/\b<=es.length/\ZT ρ mx b fun m=>m=b/\K (fun _ _=>if mx.isSome || hi.isNone then .cs (cut es a (b-a)) else .tr (.sl (cut es a (b-a))),fun _ _=>[])) fun a=>?_);refine Jd (bndI_rel (ρ:=ρ) (x:=hi) (n:=es.length)) (U:=fun b (K:MO->Prop)=>a<=b/\b<=es.length/\ZT ρ mx b fun m=>m=b/\K (fun _ _=>if mx.isSome || hi.isNone then .cs (cut es a (b-a)) else .tr (.sl (cut es a (b-a))),fun _ _=>[])) fun b=>?_;exact ZG (ZG (Jd (bndI_rel (ρ:=ρ) (x:=mx) (n:=b)) (U:=fun m (K:MO->Prop)=>m=b/\K (fun _ _=>if mx.isSome || hi.isNone then .cs (cut es a (b-a)) else .tr (.sl (cut es a (b-a))),fun _ _=>[])) fun m=>ZG (Z4 _)))
  ·rename_i id off len cap st _;refine ZG (Jd (bndI_rel (ρ:=ρ) (x:=lo) (n:=0)) (U:=fun a (K:MO->Prop)=>ZT ρ hi len fun b=>a<=b/\b<=len/\ZT ρ mx b fun m=>b<=m/\m<=len/\K (fun _ _=>.hd id [] (off+a) (b-a) (if mx.isSome then some (m-a) else cap.map (· - a)) st,fun _ _=>[])) fun a=>?_);refine Jd (bndI_rel (ρ:=ρ) (x:=hi) (n:=len)) (U:=fun b (K:MO->Prop)=>a<=b/\b<=len/\ZT ρ mx b fun m=>b<=m/\m<=len/\K (fun _ _=>.hd id [] (off+a) (b-a) (if mx.isSome then some (m-a) else cap.map (· - a)) st,fun _ _=>[])) fun b=>?_;exact ZG (ZG (Jd (bndI_rel (ρ:=ρ) (x:=mx) (n:=b)) (U:=fun m (K:MO->Prop)=>b<=m/\m<=len/\K (fun _ _=>.hd id [] (off+a) (b-a) (if mx.isSome then some (m-a) else cap.map (· - a)) st,fun _ _=>[])) fun m=>ZG (ZG (Z4 _))))
  ·exact Jf
 case sy k x lo hi mx =>
  simp only[ev,ZH];split
  ·rename_i es _;refine ZG (Jd (bndI_rel (ρ:=ρ) (x:=lo) (n:=0)) (U:=fun a (K:MO->Prop)=>ZT ρ hi es.length fun b=>a<=b/\b<=es.length/\ZT ρ mx b fun m=>m=b/\K (fun _ _=>if mx.isSome then .cs (cut es a (b-a)) else .tr (.sl (cut es a (b-a))),fun _ _=>[])) fun a=>?_);refine Jd (bndI_rel (ρ:=ρ) (x:=hi) (n:=es.length)) (U:=fun b (K:MO->Prop)=>a<=b/\b<=es.length/\ZT ρ mx b fun m=>m=b/\K (fun _ _=>if mx.isSome then .cs (cut es a (b-a)) else .tr (.sl (cut es a (b-a))),fun _ _=>[])) fun b=>?_;exact ZG (ZG (Jd (bndI_rel (ρ:=ρ) (x:=mx) (n:=b)) (U:=fun m (K:MO->Prop)=>m=b/\K (fun _ _=>if mx.isSome then .cs (cut es a (b-a)) else .tr (.sl (cut es a (b-a))),fun _ _=>[])) fun m=>ZG (Z4 _)))
  ·rename_i es _;refine ZG (Jd (bndI_rel (ρ:=ρ) (x:=lo) (n:=0)) (U:=fun a (K:MO->Prop)=>ZT ρ hi es.length fun b=>a<=b/\b<=es.length/\ZT ρ mx b fun m=>m=b/\K (fun _ _=>if mx.isSome || hi.isNone then .cs (cut es a (b-a)) else .tr (.sl (cut es a (b-a))),fun _ _=>[])) fun a=>?_);refine Jd (bndI_rel (ρ:=ρ) (x:=hi) (n:=es.length)) (U:=fun b (K:MO->Prop)=>a<=b/\b<=es.length/\ZT ρ mx b fun m=>m=b/\K (fun _ _=>if mx.isSome || hi.isNone then .cs (cut es a (b-a)) else .tr (.sl (cut es a (b-a))),fun _ _=>[])) fun b=>?_;exact ZG (ZG (Jd (bndI_rel (ρ:=ρ) (x:=mx) (n:=b)) (U:=fun m (K:MO->Prop)=>m=b/\K (fun _ _=>if mx.isSome || hi.isNone then .cs (cut es a (b-a)) else .tr (.sl (cut es a (b-a))),fun _ _=>[])) fun m=>ZG (Z4 _)))
  ·exact Jf
 case a3 k x y =>
  simp only[ev,ZH];split
  ·rename_i zs _;exact Jd (Wh (S:=L) (x:=ρ y)) (U:=fun items (K:MO->Prop)=>items≠[]/\ScR items/\ZC k zs/\ZC k items/\zs.length+items.length<=bigN/\K (fun _ _=>.tr (.sl (zs++items)),fun _ _=>[])) fun items=>ZG (ZG (ZG (ZG (ZG (Z4 _)))))
  ·exact Jf
 case ss x lo hi =>
  simp only[ev,ZH];split
  ·rename_i s _;refine Jd (bndI_rel (ρ:=ρ) (x:=lo) (n:=0)) (U:=fun a (K:MO->Prop)=>ZT ρ hi s.size fun b=>a<=b/\b<=s.size/\K (fun _ _=>iS (s.extract a b),fun _ _=>[])) fun a=>?_;exact Jd (bndI_rel (ρ:=ρ) (x:=hi) (n:=s.size)) (U:=fun b (K:MO->Prop)=>a<=b/\b<=s.size/\K (fun _ _=>iS (s.extract a b),fun _ _=>[])) fun b=>ZG (ZG (Z4 _))
  ·exact Jf
 case ca m imp f xs =>
  cases m<;>simp only[ev]<;>try exact Jf
  rotate_left
  ·split
   ·exact Wg fun r=>ZG (Z4 _)
   ·exact Jf
  split
  ·rename_i caps _;refine Jd (Zca (L:=L) (xs.map ρ++caps)) (U:=fun args (K:MO->Prop)=>∃ r,_/\_/\K (fun l b=>(impv imp l b 0 r).1,fun l b=>(impv imp l b 0 r).2)) fun args=>Wg fun r=>ZG (ZG (Z4 _))
  ·exact Jf
 case lb m p q =>
  cases m<;>(
   simp only[ev,ZH];refine ZG ?_
   repeat' first | exact Jf | exact Z4 _ | refine ZG ?_ | (refine Wg fun _=>?_) | split)
 all_goals
  (try cases ‹Option Nat›)
  all_goals
   simp only[ev,ZH,JU]
   repeat' first | exact Jf | exact Z4 _ | refine ZG ?_ | (refine Wg fun _=>?_) | split
abbrev Zcb(L L':Zb)(id:Zd):Prop:=∀ ob,L id=some ob->L' id=some ob
abbrev Zjo(L L':Zb)(id:Zd):Prop:=Zcb L L' id/\∀ cells,L id=some (.bx cells)->Zc (Zcb L L') cells
abbrev Xp(L L':Zb)(x:IV):Prop:=men (Zjo L L') x
abbrev WU(L L':Zb)(x:List IV):Prop:=Zc (Zjo L L') x
mutual
theorem Zr3{P Q R:Zd->Prop}(h:∀ i,P i->Q i->R i):∀(x:IV),men P x->men Q x->men R x
 | .hd ..,a,b=>h _ a b
 | .ab ..,a,b=>h _ a b
 | .ae ..,a,b=>h _ a b
 | .sv ..,a,b=>h _ a b
 | .ag l,a,b=>by simp only[men] at *;exact Dk h l a b
 | .tu l,a,b=>by simp only[men] at *;exact Dk h l a b
 | .fn _ l,a,b=>by simp only[men] at *;exact Dk h l a b
 | .un,_,_=>trivial
 | .tr _,_,_=>trivial
 | .cs _,_,_=>trivial
 | .ta _,_,_=>trivial
 | .ow ..,_,_=>trivial
 | .er,_,_=>trivial
theorem Dk{P Q R:Zd->Prop}(h:∀ i,P i->Q i->R i):∀(x:List IV),Zc P x->Zc Q x->Zc R x
 | [],_,_=>trivial
 | x::r,a,b=>⟨Zr3 h x a.1 b.1,Dk h r a.2 b.2⟩
end
variable {ρ':X->IV} {L':Zb}
theorem Zr4{S:Zb}{l:Nat}(xs:List IV)(h:WU L L' xs)(hS:Zc (XY L' S l) xs):Zc (XY L S l) xs :=
 Dk (fun _ a b=>⟨⟨b.1.1,fun ob ho=>b.1.2 ob (a.1 ob ho)⟩,fun cells hc=>Dk (fun _ c d=>⟨d.1,fun ob ho=>d.2 ob (c ob ho)⟩) cells (a.2 cells hc) (b.2 cells (a.1 _ hc))⟩) xs h hS
theorem WV{id:Zd}{p:Zn}{st:Nat}{K K':Row->Bool->Nat->Prop}(hs:∀ ob,L id=some ob->L' id=some ob)(hk:∀ a b c,K a b c->K' a b c)(h:JU L id p st K):JU L' id p st K':=by
 unfold JU at *;split at h
 ·rename_i k es u hw ver hl;rw[hs _ hl];obtain⟨es',h1,h2,h3⟩:=h;exact⟨es',h1,h2,hk _ _ _ h3⟩
 ·exact h.elim
theorem Zjp{Q:Zd->Prop}:∀(n:Nat) {l:List IV},Zc Q l->Zc Q (l.drop n)
 | 0,_,h=>h
 | n+1,[],h=>h
 | n+1,x::r,h=>Zjp n h.2
theorem Zjq:∀(l:List IV) {K K':List Tr->Prop},Zc (Zcb L L') l->(∀ y,K y->K' y)->YM L l K->YM L' l K'
 | [],_,_,_,hk,h=>hk _ h
 | x::r,K,K',hs,hk,h=>by
  simp only[YM] at *;have go:∀ t,(YM L r fun ts=>K (t::ts))->YM L' r fun ts=>K' (t::ts):=fun t h=>Zjq r hs.2 (fun _ h=>hk _ h) h;cases x with
  | tr t=>exact go t h
  | cs es=>exact go _ h
  | hd id p off len c st=>simp only[VT] at *;exact WV hs.1 (fun _ _ _ h=>⟨h.1,go _ h.2⟩) h
  | _=>simp only[VT] at h
mutual
theorem Zr5:∀(x:IV) {K K':IV->Prop},Xp L L' x->(∀ y,K y->K' y)->Jc L x K->Jc L' x K'
 | .un,_,_,_,hk,h=>by simp only[Jc] at *;exact hk _ h
 | .tr t,_,_,_,hk,h=>by simp only[Jc] at *;exact hk _ h
 | .cs es,_,_,_,hk,h=>by simp only[Jc] at *;exact hk _ h
 | .hd id p off len c st,_,_,hs,hk,h=>by simp only[Jc] at *;exact WV hs.1 (fun _ _ _ h=>⟨h.1,hk _ h.2⟩) h
 | .ag l,_,_,hs,hk,h=>by simp only[Jc,Xp,men] at *;exact Zcc l hs (fun _ h=>hk _ h) h
 | .fn f c,_,_,hs,hk,h=>by simp only[Jc,Xp,men] at *;exact Zcc c hs (fun _ h=>hk _ h) h
 | .er,_,_,_,hk,h=>by simp only[Jc] at *;exact hk _ h
 | .ab id off,_,_,hs,hk,h=>by
  simp only[Jc,Xc] at *;split at h<;>try contradiction
  rename_i cells hq;rw[hs.1 _ hq];exact Zjq _ (Zjp off (hs.2 _ hq)) (fun _ h=>hk _ h) h
 | .sv _,_,_,_,_,h=>by simp only[Jc] at h
 | .ae ..,_,_,_,_,h=>by simp only[Jc] at h
 | .ta c,_,_,_,hk,h=>by simp only[Jc] at *;exact hk _ h
 | .tu ..,_,_,_,_,h=>by simp only[Jc] at h
 | .ow ..,_,_,_,_,h=>by simp only[Jc] at h
theorem Zcc:∀(l:List IV) {K K':List IV->Prop},WU L L' l->(∀ y,K y->K' y)->Z5 L l K->Z5 L' l K'
 | [],_,_,_,hk,h=>by simp only[Z5] at *;exact hk _ h
 | x::r,_,_,hs,hk,h=>by simp only[Z5,WU,Zc] at *;exact Zr5 x hs.1 (fun _ h=>Zcc r hs.2 (fun _ h=>hk _ h) h) h
end
theorem Zjr{n:Nat}:∀{ps:List (Nat×Nat×X)},(∀ x∈ps.map (·.2.2),ρ' x=ρ x)->okp ρ n ps->okp ρ' n ps
 | [],_,_=>trivial
 | (off,m,x)::r,hp,h=>by simp only[okp] at *;rw[hp x (by simp)];exact⟨h.1,h.2.1,Zjr (fun y hy=>hp y (by simp at hy ⊢;exact .inr hy)) h.2.2⟩
theorem Zjs:∀{ps:List (Nat×Nat×X)} {cs:List IV},(∀ x∈ps.map (·.2.2),ρ' x=ρ x)->fpart ρ' ps cs=fpart ρ ps cs
 | [],_,_=>rfl
 | (off,m,x)::r,cs,hp=>by simp only[fpart];rw[hp x (by simp)];exact Zjs (fun y hy=>hp y (by simp at hy ⊢;exact .inr hy))
theorem Zfa{k:Nat}{K:Row->Bool->Prop}:∀{ps:List (Nat×X)} {es:Row} {u:Bool},(∀ x∈ps.map (·.2),ρ' x=ρ x)->Y0 ρ k ps es u K->Y0 ρ' k ps es u K
 | [],_,_,_,h=>h
 | (i,x)::r,es,u,hp,h=>by
  simp only[Y0] at *;rw[hp x (by simp)];split at h<;>try contradiction
  split at h<;>try contradiction
  exact⟨h.1,h.2.1,Zfa (fun y hy=>hp y (by simp at hy ⊢;exact .inr hy)) h.2.2⟩
theorem VX{x:Option X}{n:Nat}(hp:∀ y∈x.toList,ρ' y=ρ y):ZT ρ' x n=ZT ρ x n:=by
 cases x with
 | none=>rfl
 | some x=>funext K;simp only[ZT];rw[hp x (by simp)]
theorem Zjt{id:Zd}{p:Zn}{k:Nat}(hs:∀ ob,L id=some ob->L' id=some ob)(h:JV L id p k):JV L' id p k:=by
 unfold JV at *;split at h
 ·rename_i hl;rw[hs _ hl];exact h
 ·exact h.elim
theorem Zfb{S S':Zb}{x:IV}{F F':Row->Prop}(hS:men (fun id=>∀ ob,S id=some ob->S' id=some ob) x)(hF:∀ r,F r->F' r)(h:Vj S x F):Vj S' x F':=by
 unfold Vj at h ⊢;split at h<;>try contradiction
 ·exact hF _ h
 ·exact hF _ h
 ·exact WV hS (fun _ _ _ h=>⟨h.1,hF _ h.2⟩) h
theorem Zr6{K:Yc}:∀(o:O),(∀ x∈rd o,ρ' x=ρ x)->(∀ x∈rd o,Xp L L' (ρ x))->ev C ρ L K o->ev C ρ' L' K o:=by
 intro o hp hs h;cases o
 case ld m p =>
  have h1:=hp p (by simp [rd]);have h2:=hs p (by simp [rd]);cases m<;>simp only[ev] at h ⊢<;>rw[h1]<;>split at h<;>try contradiction
  ·exact h
  ·rename_i hq;rw[hq] at h2;split at h<;>try contradiction
   rename_i hl;rw[h2.1 _ hl];exact h
  ·rename_i hq;rw[hq] at h2;exact WV h2.1 (fun _ _ _ h=>h) h
  ·exact h
  ·rename_i hq;rw[hq] at h2;split at h<;>try contradiction
   rename_i hl;rw[h2.1 _ hl];exact h
  ·rename_i hq;rw[hq] at h2;exact WV h2.1 (fun _ _ _ h=>h) h
 case sx k x lo hi mx =>
  have h1:=hp x (by simp [rd]);have h2:=hs x (by simp [rd]);have hlo:=fun n=>VX (ρ:=ρ) (ρ':=ρ') (x:=lo) (n:=n) (fun y hy=>hp y (by simp [rd] at hy ⊢;exact .inr (.inl hy)));have hhi:=fun n=>VX (ρ:=ρ) (ρ':=ρ') (x:=hi) (n:=n) (fun y hy=>hp y (by simp [rd] at hy ⊢;exact .inr (.inr (.inl hy))));have hmx:=fun n=>VX (ρ:=ρ) (ρ':=ρ') (x:=mx) (n:=n) (fun y hy=>hp y (by simp [rd] at hy ⊢;exact .inr (.inr (.inr hy))));simp only[ev] at h ⊢;simp only[hlo,hhi,hmx];rw[h1];split at h<;>try contradiction
  ·exact h
  ·exact h
  ·rename_i hq;rw[hq] at h2;exact bndI_rel.mono (fun a h=>bndI_rel.mono (fun b h=>⟨h.1,h.2.1,bndI_rel.mono (fun m h=>⟨h.1,h.2.1,Zjt h2.1 h.2.2.1,h.2.2.2⟩) h.2.2⟩) h) h
 case sw k x lo hi mx =>
  have h1:=hp x (by simp [rd]);have h2:=hs x (by simp [rd]);have hlo:=fun n=>VX (ρ:=ρ) (ρ':=ρ') (x:=lo) (n:=n) (fun y hy=>hp y (by simp [rd] at hy ⊢;exact .inr (.inl hy)));have hhi:=fun n=>VX (ρ:=ρ) (ρ':=ρ') (x:=hi) (n:=n) (fun y hy=>hp y (by simp [rd] at hy ⊢;exact .inr (.inr (.inl hy))));have hmx:=fun n=>VX (ρ:=ρ) (ρ':=ρ') (x:=mx) (n:=n) (fun y hy=>hp y (by simp [rd] at hy ⊢;exact .inr (.inr (.inr hy))));simp only[ev] at h ⊢;simp only[hlo,hhi,hmx];rw[h1];split at h<;>try contradiction
  ·exact h
  ·exact h
  ·rename_i hq;rw[hq] at h2;exact⟨Zjt h2.1 h.1,h.2⟩
 case sy k x lo hi mx =>
  have h1:=hp x (by simp [rd]);have hlo:=fun n=>VX (ρ:=ρ) (ρ':=ρ') (x:=lo) (n:=n) (fun y hy=>hp y (by simp [rd] at hy ⊢;exact .inr (.inl hy)));have hhi:=fun n=>VX (ρ:=ρ) (ρ':=ρ') (x:=hi) (n:=n) (fun y hy=>hp y (by simp [rd] at hy ⊢;exact .inr (.inr (.inl hy))));have hmx:=fun n=>VX (ρ:=ρ) (ρ':=ρ') (x:=mx) (n:=n) (fun y hy=>hp y (by simp [rd] at hy ⊢;exact .inr (.inr (.inr hy))));simp only[ev] at h ⊢;simp only[hlo,hhi,hmx];rw[h1];split at h<;>try contradiction
  ·exact h
  ·exact h
 case a3 k x y =>
  have h1:=hp x (by simp [rd]);have h2:=hp y (by simp [rd]);have h3:=hs y (by simp [rd]);simp only[ev] at h ⊢;rw[h1,h2];split at h<;>try contradiction
  exact Zfb (JZ (fun _ g=>g.1) _ h3) (fun _ g=>g) h
 case sb x =>
  have h1:=hp x (by simp [rd]);have h2:=hs x (by simp [rd]);simp only[ev] at h ⊢;rw[h1];split at h<;>try contradiction
  ·exact h
  ·exact h
  ·rename_i hq;rw[hq] at h2;exact WV h2.1 (fun _ _ _ h=>h) h
 case ss x lo hi =>
  have h1:=hp x (by simp [rd]);have hlo:=fun n=>VX (ρ:=ρ) (ρ':=ρ') (x:=lo) (n:=n) (fun y hy=>hp y (by simp [rd] at hy ⊢;exact .inr (.inl hy)));have hhi:=fun n=>VX (ρ:=ρ) (ρ':=ρ') (x:=hi) (n:=n) (fun y hy=>hp y (by simp [rd] at hy ⊢;exact .inr (.inr hy)));simp only[ev] at h ⊢;simp only[hlo,hhi];rw[h1];exact h
 case ia k x i =>
  have h1:=hp x (by simp [rd]);have h2:=hs x (by simp [rd]);have h3:=hp i (by simp [rd]);simp only[ev] at h ⊢;rw[h1,h3];split at h<;>try contradiction
  refine⟨h.1,?_⟩;have h:=h.2;split at h<;>try contradiction
  ·exact h
  ·exact h
  ·rename_i hq;rw[hq] at h2;exact WV h2.1 (fun _ _ _ h=>h) h
 case ca m imp f xs =>
  have h1:=hp f (by simp [rd]);have h3:xs.map ρ'=xs.map ρ:=UaC fun x hx=>hp x (by simp [rd,hx]);have h2:WU L L' (xs.map ρ):=by
   have:∀ x∈xs,Xp L L' (ρ x):=fun x hx=>hs x (by simp [rd,hx]);clear h3 h1 hp hs h
   induction xs with
   | nil=>trivial
   | cons y r ih=>exact⟨this y (by simp),ih fun x hx=>this x (by simp [hx])⟩
  cases m<;>simp only[ev] at h ⊢;rotate_left
  ·have h4:=hs f (by simp [rd]);rw[h1,h3];split at h<;>try contradiction
   rename_i fid caps hq;rw[hq] at h4;have h4:WU L L' caps:=by simpa only[Xp,men] using h4
   have h5:WU L L' (xs.map ρ++caps):=by
    clear h h3 h1 hp hs
    induction xs with
    | nil=>exact h4
    | cons y r ih=>exact⟨h2.1,ih h2.2⟩
   obtain⟨r,hr,hk⟩:=h;exact⟨r,fun l S hS=>hr l S (Zr4 _ h5 hS),hk⟩
  have h4:=hs f (by simp [rd]);rw[h1,h3];split at h<;>try contradiction
  rename_i fid caps hq;rw[hq] at h4;have h4:WU L L' caps:=by simpa only[Xp,men] using h4
  have h5:WU L L' (xs.map ρ++caps):=by
   clear h h3 h1 hp hs
   induction xs with
   | nil=>exact h4
   | cons y r ih=>exact⟨h2.1,ih h2.2⟩
  exact Zcc _ h5 (fun _ h=>h) h
 case lb m p q =>
  have h1:=hp p (by simp [rd]);have h2:=hs p (by simp [rd]);have h3:VV ρ' p q↔VV ρ p q:=Ze6 fun x hx=>hp x (by simpa [rd] using hx)
  cases m<;>(
   simp only[ev] at h ⊢;rw[h1,h3];refine⟨h.1,?_⟩;replace h:=h.2;split at h<;>try contradiction
   rename_i hq;rw[hq] at h2;split at h<;>try contradiction
   rename_i hb;rw[h2.1 _ hb];exact h)
 case bd z ps nz =>
  simp only[ev] at h ⊢;have hh:∀ x∈ps.map (·.2.2),ρ' x=ρ x:=hp;refine⟨Zjr hh h.1,?_⟩;simp only[Zjs hh];exact h.2
 case bs k n z ps =>
  simp only[ev] at h ⊢;exact Zfa (fun x hx=>hp x hx) h
 case bc k n z ps =>
  simp only[ev] at h ⊢;exact Zfa (fun x hx=>hp x hx) h
 case mf g cs =>
  have h3:cs.map ρ'=cs.map ρ:=UaC fun x hx=>hp x (by simp [rd,hx]);simp only[ev] at h ⊢;rw[h3];exact h
 case bv k n z ps =>
  simp only[ev] at h ⊢;split at h<;>try contradiction
  rename_i x;have h1:=hp x (by simp [rd]);rw[h1];exact h
 all_goals
  (try cases ‹Option Nat›)
  all_goals
   first
    | (simp only[ev] at h;done)
    | (
      simp only[ev] at h ⊢;simp only[rd,UaF,Ubp,or_false,forall_eq_or_imp,forall_eq,false_implies,implies_true] at hp
      first | exact h | (rw[hp];exact h) | (rw[hp.1,hp.2];exact h) | (rw[hp.1,hp.2.1,hp.2.2];exact h))
theorem Zcd{x:IV}:Rel (U6 x):=by
 unfold U6;split
 ·exact Z4 _
 ·exact Z4 _
 ·exact Jf
theorem Zce{S:Zb}{x:IV}:Rel (Uq S x):=by
 unfold Uq;split
 ·split
  ·exact ZG (ZG (Z4 _))
  ·exact Jf
 ·exact Jf
theorem Zcf{p:Zn}{i:Nat}:∀(l:List IV) (f:Nat) (es:Row),Rel (QQ p i f l es)
 | [],f,es=>Ju (fun _=>by simp only[QQ]) (Z4 es)
 | x::r,f,es=>by
  refine Ju (fun K=>by simp only[QQ];exact UbB) ?_;refine Wg fun es' => ZG (Wg fun e=>ZG (Wg fun t0=>ZG (ZG ?_)));split
  ·exact Zcf r (f+1) _
  ·exact Jf
theorem Zcg{ρ:X->IV}{S:Zb}:∀(o:O),Rel (fun K:IV×Zd×Ob->Prop=>JG ρ S (fun v id ob=>K (v,id,ob)) o):=by
 intro o;cases o<;>simp only[JG]<;>try exact Jf
 ·rename_i m p x;split
  ·rename_i l _;refine ZG ?_;split
   ·rename_i id off _;split
    ·exact ZG (ZG (Z4 _))
    ·exact Jf
   ·rename_i id p i f s _;split
    ·rename_i k es u hw ver _;exact ZG (ZG (Jd (Zcf (p:=p) (i:=i) l f es) (U:=fun es' (K:IV×Zd×Ob->Prop)=>K (.tu [],id,.ar k es' u hw ver)) fun _=>Z4 _))
    ·exact Jf
   ·exact Jf
  ·exact Jf
 ·rename_i k x y;split
  ·rename_i id len s _;split
   ·rename_i k' es u hw ver _;exact ZG (ZG (ZG (Jd (Wh (S:=S) (x:=ρ y)) (U:=fun items (K:IV×Zd×Ob->Prop)=>ScR items/\ZC k items/\len+items.length<=bigN/\K (.hd id [] 0 (len+items.length) none (max hw (len+items.length)),id,.ar k (es++items) u (max hw (len+items.length)) ver)) fun _=>ZG (ZG (ZG (Z4 _))))))
   ·exact Jf
  ·exact Jf
 ·rename_i k x y;split
  ·rename_i id len s _;split
   ·rename_i k' es u hw ver _;exact ZG (ZG (ZG (Jd (Zcd (x:=ρ y)) (U:=fun items (K:IV×Zd×Ob->Prop)=>ZC k items/\len+items.length<=bigN/\K (.hd id [] 0 (len+items.length) none (max hw (len+items.length)),id,.ar k (es++items) false (max hw (len+items.length)) ver)) fun _=>ZG (ZG (Z4 _)))))
   ·exact Jf
  ·exact Jf
 ·rename_i k x y;split
  ·rename_i id off len cap s _;split
   ·rename_i k2 es u hw ver _;exact ZG (ZG (ZG (ZG (Jd (Wh (S:=S) (x:=ρ y)) (U:=fun zs (K:IV×Zd×Ob->Prop)=>ScR zs/\ZC k zs/\K (iI (min zs.length len:Nat),id,.ar k (es.take off++zs.take len++es.drop (off+min zs.length len)) u hw (ver+1))) fun _=>ZG (ZG (Z4 _))))))
   ·exact Jf
  ·exact Jf
 ·rename_i k x y;split
  ·rename_i id len s _;split
   ·rename_i k' es u hw ver _;exact ZG (ZG (ZG (Jd (Zce (S:=S) (x:=ρ y)) (U:=fun items (K:IV×Zd×Ob->Prop)=>ZC k items/\len+items.length<=bigN/\K (.hd id [] 0 (len+items.length) none (max hw (len+items.length)),id,.ar k (es++items) false (max hw (len+items.length)) ver)) fun _=>ZG (ZG (Z4 _)))))
   ·exact Jf
  ·exact Jf
theorem Zju{S S':Zb}{x:IV}{F F':Row->Prop}(hS:∀ id ob,S id=some ob->S' id=some ob)(hF:∀ r,F r->F' r)(h:Vj S x F):Vj S' x F':=by
 unfold Vj at h ⊢;split at h<;>try contradiction
 ·exact hF _ h
 ·exact hF _ h
 ·exact WV (hS _) (fun _ _ _ h=>⟨h.1,hF _ h.2⟩) h
theorem Zjv{S S':Zb}{x:IV}{F F':Row->Prop}(hS:men (fun id=>∀ ob,S id=some ob->S' id=some ob) x)(hF:∀ r,F r->F' r)(h:Uq S x F):Uq S' x F':=by
 unfold Uq at h ⊢;split at h<;>try contradiction
 split at h<;>try contradiction
 rename_i hs;simp only[hS _ hs];exact⟨h.1,h.2.1,hF _ h.2.2⟩
theorem Zfc{ρ ρ':X->IV}{S S':Zb}{K:IV->Zd->Ob->Prop}:∀(o:O),(∀ x∈rd o,ρ' x=ρ x)->(∀ id ob,S id=some ob->S' id=some ob)->JG ρ S K o->JG ρ' S' K o:=by
 intro o hp hS h;cases o<;>simp only[JG] at h ⊢<;>try exact h
 ·rename_i m p x;rw[hp p (by simp [rd]),hp x (by simp [rd])];split at h<;>try contradiction
  refine⟨h.1,?_⟩;have h:=h.2;split at h<;>try contradiction
  ·split at h<;>try contradiction
   rename_i hs;rw[hS _ _ hs];exact h
  ·split at h<;>try contradiction
   rename_i hs;rw[hS _ _ hs];exact h
 ·rename_i k x y;rw[hp x (by simp [rd]),hp y (by simp [rd])];split at h<;>try contradiction
  split at h<;>try contradiction
  rename_i hs;rw[hS _ _ hs];exact⟨h.1,h.2.1,h.2.2.1,Zju hS (fun _ h=>h) h.2.2.2⟩
 ·rename_i k x y;rw[hp x (by simp [rd]),hp y (by simp [rd])];split at h<;>try contradiction
  split at h<;>try contradiction
  rename_i hs;rw[hS _ _ hs];exact h
 ·rename_i k x y;rw[hp x (by simp [rd]),hp y (by simp [rd])];split at h<;>try contradiction
  split at h<;>try contradiction
  rename_i hs;rw[hS _ _ hs];exact⟨h.1,h.2.1,h.2.2.1,h.2.2.2.1,Zju hS (fun _ h=>h) h.2.2.2.2⟩
 ·rename_i k x y;rw[hp x (by simp [rd]),hp y (by simp [rd])];split at h<;>try contradiction
  split at h<;>try contradiction
  rename_i hs;rw[hS _ _ hs];exact⟨h.1,h.2.1,h.2.2.1,Zjv (JZ (fun i _=>hS i) _ (UA _)) (fun _ h=>h) h.2.2.2⟩
theorem Zch{ρ:X->IV}{S:Zb}{v:IV}{id:Zd}{ob:Ob}:∀(o:O),JG ρ S (fun v' id' ob' => v'=v/\id'=id/\ob'=ob) o->(S id).isSome=true:=by
 intro o h;obtain⟨⟨v',id',ob'⟩,⟨rfl,rfl,rfl⟩,h2⟩:=(Zcg (ρ:=ρ) (S:=S) o).ex (K:=fun r=>r.1=v/\r.2.1=id/\r.2.2=ob) h;clear h;cases o<;>simp only[JG] at h2<;>try contradiction
 ·split at h2<;>try contradiction
  have h:=h2.2;split at h<;>try contradiction
  ·split at h<;>try contradiction
   rename_i hs;have:=congrArg (fun r:IV×Zd×Ob=>r.2.1) h.2.2;simp only at this;rw[<-this,hs];rfl
  ·rename_i id0 p i f s _;split at h<;>try contradiction
   rename_i k es u hw ver hs;obtain⟨es',h3,_⟩:=(Zcf (p:=p) (i:=i) _ f es).ex h.2.2;have:=congrArg (fun r:IV×Zd×Ob=>r.2.1) h3;simp only at this;rw[<-this,hs];rfl
 ·split at h2<;>try contradiction
  split at h2<;>try contradiction
  rename_i hs;obtain⟨items,h3,_⟩:=(Wh).ex h2.2.2.2;have:=congrArg (fun r:IV×Zd×Ob=>r.2.1) h3.2.2.2;simp only at this;rw[<-this,hs];rfl
 ·split at h2<;>try contradiction
  split at h2<;>try contradiction
  rename_i hs;obtain⟨items,h3,_⟩:=(Zcd).ex h2.2.2.2;have:=congrArg (fun r:IV×Zd×Ob=>r.2.1) h3.2.2;simp only at this;rw[<-this,hs];rfl
 ·split at h2<;>try contradiction
  split at h2<;>try contradiction
  rename_i hs;obtain⟨items,h3,_⟩:=(Wh).ex h2.2.2.2.2;have:=congrArg (fun r:IV×Zd×Ob=>r.2.1) h3.2.2;simp only at this;rw[<-this,hs];rfl
 ·split at h2<;>try contradiction
  split at h2<;>try contradiction
  rename_i hs;obtain⟨items,h3,_⟩:=(Zce).ex h2.2.2.2;have:=congrArg (fun r:IV×Zd×Ob=>r.2.1) h3.2.2;simp only at this;rw[<-this,hs];rfl
def lfree:O->Bool
 | .mv _ none | .bi .. | .nt _ | .ng _ | .cv .. | .ex .. | .pk .. | .mm .. | .lg _ | .la _ | .ss .. | .ix .. | .bs .. | .bc .. | .fd .. | .jx .. | .qa .. | .fa .. | .ja .. | .ln _ | .nc _ | .sy .. | .lt .. | .it .. | .mf .. | .al .. | .ms .. | .bd .. | .bv .. => true
 | _=>false
theorem ZaD{o:O}(h:lfree o=true):JA o=false:=by cases o<;>first | rfl | cases h | (simp [lfree] at h)
theorem Zr7{ρ:X->IV}{L L':Zb}{K:Yc}:∀(o:O),lfree o=true->ev C ρ L K o->ev C ρ L' K o:=by
 intro o hl h;cases o
 case mv x n=>cases n<;>first | (simp only[ev] at h ⊢;exact h) | cases hl
 case fd off m x=>cases m<;>(simp only[ev] at h ⊢;exact h)
 case lt m x=>cases m<;>(simp only[ev] at h ⊢;exact h)
 case jx k n m x i=>cases m<;>(simp only[ev] at h ⊢;exact h)
 all_goals first | (cases hl;done) | (simp only[ev] at h ⊢;exact h)
def wfr:O->Bool
 | .sw .. => true
 | _=>false
theorem Zjw{o:O}(h:wfr o=true):JA o=false:=by cases o<;>first | rfl | cases h
theorem Zr8{ρ ρ':X->IV}{L L':Zb}{K:Yc}:∀(o:O),wfr o=true->(∀ x∈rd o,ρ' x=ρ x)->(∀ x∈rd o,men (fun i=>∀ k,JV L i [] k->JV L' i [] k) (ρ x))->ev C ρ L K o->ev C ρ' L' K o:=by
 intro o ho hp hs h;cases o
 case sw k x lo hi mx =>
  have h1:=hp x (by simp [rd]);have h2:=hs x (by simp [rd]);have hlo:=fun n=>VX (ρ:=ρ) (ρ':=ρ') (x:=lo) (n:=n) (fun y hy=>hp y (by simp [rd] at hy ⊢;exact .inr (.inl hy)));have hhi:=fun n=>VX (ρ:=ρ) (ρ':=ρ') (x:=hi) (n:=n) (fun y hy=>hp y (by simp [rd] at hy ⊢;exact .inr (.inr (.inl hy))));have hmx:=fun n=>VX (ρ:=ρ) (ρ':=ρ') (x:=mx) (n:=n) (fun y hy=>hp y (by simp [rd] at hy ⊢;exact .inr (.inr (.inr hy))));simp only[ev] at h ⊢;simp only[hlo,hhi,hmx];rw[h1];split at h<;>try contradiction
  ·exact h
  ·exact h
  ·rename_i hq;rw[hq] at h2;exact⟨h2 _ h.1,h.2⟩
 all_goals cases ho
theorem Zr9{ρ ρ':X->IV}{S S':Zb}{K:IV->Zd->Ob->Prop}:∀(o:O),(∀ x∈rd o,ρ' x=ρ x)->(∀ x∈rd o,men (fun id=>∀ ob,S id=some ob->S' id=some ob) (ρ x))->JG ρ S K o->JG ρ' S' K o:=by
 intro o hp hS h;cases o<;>simp only[JG] at h ⊢<;>try exact h
 ·rename_i m p x;have m1:=hS p (by simp [rd]);rw[hp p (by simp [rd]),hp x (by simp [rd])];split at h<;>try contradiction
  refine⟨h.1,?_⟩;have h:=h.2;split at h<;>try contradiction
  ·rename_i hq;rw[hq] at m1;split at h<;>try contradiction
   rename_i hs;rw[m1 _ hs];exact h
  ·rename_i hq;rw[hq] at m1;split at h<;>try contradiction
   rename_i hs;rw[m1 _ hs];exact h
 ·rename_i k x y;have m1:=hS x (by simp [rd]);have m2:=hS y (by simp [rd]);rw[hp x (by simp [rd]),hp y (by simp [rd])];split at h<;>try contradiction
  rename_i hq;rw[hq] at m1;split at h<;>try contradiction
  rename_i hs;rw[m1 _ hs];exact⟨h.1,h.2.1,h.2.2.1,Zfb m2 (fun _ h=>h) h.2.2.2⟩
 ·rename_i k x y;have m1:=hS x (by simp [rd]);rw[hp x (by simp [rd]),hp y (by simp [rd])];split at h<;>try contradiction
  rename_i hq;rw[hq] at m1;split at h<;>try contradiction
  rename_i hs;rw[m1 _ hs];exact h
 ·rename_i k x y;have m1:=hS x (by simp [rd]);have m2:=hS y (by simp [rd]);rw[hp x (by simp [rd]),hp y (by simp [rd])];split at h<;>try contradiction
  rename_i hq;rw[hq] at m1;split at h<;>try contradiction
  rename_i hs;rw[m1 _ hs];exact⟨h.1,h.2.1,h.2.2.1,h.2.2.2.1,Zfb m2 (fun _ h=>h) h.2.2.2.2⟩
 ·rename_i k x y;have m1:=hS x (by simp [rd]);have m2:=hS y (by simp [rd]);rw[hp x (by simp [rd]),hp y (by simp [rd])];split at h<;>try contradiction
  rename_i hq;rw[hq] at m1;split at h<;>try contradiction
  rename_i hs;rw[m1 _ hs];exact⟨h.1,h.2.1,h.2.2.1,Zjv m2 (fun _ h=>h) h.2.2.2⟩
theorem Zsa{ρ:X->IV}{S:Zb}{v:IV}{id:Zd}{ob:Ob}:∀(o:O),JG ρ S (fun v' id' ob' => v'=v/\id'=id/\ob'=ob) o->∀ i k,JV (Zo S id ob) i [] k->JV S i [] k:=by
 intro o h i k hw;unfold JV Zo at hw;unfold JV;by_cases e:i=id
 ·rw[if_pos e] at hw;subst e;cases o<;>simp only[JG] at h<;>try contradiction
  ·split at h<;>try contradiction
   have h:=h.2;split at h<;>try contradiction
   ·split at h<;>try contradiction
    obtain⟨_,_,_,h1,h2⟩:=h;subst h2;cases hw
   ·split at h<;>try contradiction
    rename_i hs;obtain⟨_,_,h⟩:=h;obtain⟨es',h,_⟩:=(Zcf ..).ex h;obtain⟨_,h1,h2⟩:=h;subst h1 h2;rw[hs];exact hw
  ·split at h<;>try contradiction
   split at h<;>try contradiction
   rename_i hs;obtain⟨hk,_,_,h⟩:=h;obtain⟨items,h,_⟩:=(Wh ..).ex h;obtain⟨_,_,_,_,h1,h2⟩:=h;subst h1 h2;rw[hs];exact hk.trans hw
  ·split at h<;>try contradiction
   split at h<;>try contradiction
   rename_i hs;obtain⟨hk,_,_,h⟩:=h;obtain⟨items,h,_⟩:=(Zcd ..).ex h;obtain⟨_,_,_,h1,h2⟩:=h;subst h1 h2;rw[hs];exact hk.trans hw
  ·split at h<;>try contradiction
   split at h<;>try contradiction
   rename_i hs;obtain⟨hk,_,_,_,h⟩:=h;obtain⟨items,h,_⟩:=(Wh ..).ex h;obtain⟨_,_,_,h1,h2⟩:=h;subst h1 h2;rw[hs];exact hk.trans hw
  ·split at h<;>try contradiction
   split at h<;>try contradiction
   rename_i hs;obtain⟨hk,_,_,h⟩:=h;obtain⟨items,h,_⟩:=(Zce ..).ex h;obtain⟨_,_,_,h1,h2⟩:=h;subst h1 h2;rw[hs];exact hk.trans hw
 ·rw[if_neg e] at hw;exact hw
def lbx:O->Bool
 | .lb .. => true
 | _=>false
def WW:O->Bool
 | .a0 .. | .a1 .. | .a2 .. | .c0 .. => true
 | _=>false
theorem UB{o:O}(h:lbx o=true):JA o=false:=by cases o<;>first | rfl | cases h
theorem Zsb{ρ ρ':X->IV}{L L':Zb}{K:Yc}:∀(o:O),lbx o=true->(∀ x∈rd o,ρ' x=ρ x)->(∀ x∈rd o,men (fun i=>∀ cells,L i=some (.bx cells)->L' i=some (.bx cells)) (ρ x))->ev C ρ L K o->ev C ρ' L' K o:=by
 intro o ho hp hs h;cases o
 case lb m p q =>
  have h1:=hp p (by simp [rd]);have h2:=hs p (by simp [rd]);have h3:VV ρ' p q↔VV ρ p q:=Ze6 fun x hx=>hp x (by simpa [rd] using hx)
  cases m<;>(
   simp only[ev] at h ⊢;rw[h1,h3];refine⟨h.1,?_⟩;replace h:=h.2;split at h<;>try contradiction
   rename_i hq;rw[hq] at h2;split at h<;>try contradiction
   rename_i hb;rw[h2 _ hb];exact h)
 all_goals cases ho
theorem Zsc{ρ ρ':X->IV}{L L':Zb}{K:Yc}{m:Option Nat}{p:X}{q:Nat}(hp:∀ x∈rd (.lb m p (some q)),ρ' x=ρ x)(hs:∀ i off,ρ p = .ab i off->VU (ρ p) (ρ (.t q))->L' i=L i)(h:ev C ρ L K (.lb m p (some q))):ev C ρ' L' K (.lb m p (some q)):=by
 have h1:=hp p (by simp [rd]);have h3:VV ρ' p (some q)↔VV ρ p (some q):=Ze6 fun x hx=>hp x (by simpa [rd] using hx)
 cases m<;>(
  simp only[ev] at h ⊢;rw[h1,h3];refine⟨h.1,?_⟩;have ha:VU (ρ p) (ρ (.t q)):=h.1;replace h:=h.2;split at h<;>try contradiction
  rename_i hq;split at h<;>try contradiction
  rename_i hb;rw[hs _ _ hq ha,hb];exact h)
def WX:O->O->Bool
 | .lb _ _ (some q),.s0 _ (.t q') _=>q == q'
 | _,_=>false
theorem Zjx{a b:O}(h:WX a b=true):∃ m p q m' x,a = .lb m p (some q)/\b = .s0 m' (.t q) x:=by
 unfold WX at h;split at h
 ·rw[beq_iff_eq] at h;subst h;exact⟨_,_,_,_,_,rfl,rfl⟩
 ·cases h
theorem Zfd{ρ:X->IV}{S:Zb}{v:IV}{id:Zd}{ob:Ob}:∀(o:O),WW o=true->JG ρ S (fun v' id' ob' => v'=v/\id'=id/\ob'=ob) o->∀ i cells,(Zo S id ob) i=some (.bx cells)↔S i=some (.bx cells):=by
 intro o ha h i cells;have key:(∃ k es u hw ver,S id=some (.ar k es u hw ver))/\∃ k es u hw ver,ob = .ar k es u hw ver:=by
  cases o<;>simp only[JG] at h<;>try (first | contradiction | cases ha)
  ·split at h<;>try contradiction
   split at h<;>try contradiction
   rename_i hs;obtain⟨items,h,_⟩:=(Wh ..).ex h.2.2.2;obtain⟨_,_,_,_,h1,h2⟩:=h;subst h1 h2;exact⟨⟨_,_,_,_,_,hs⟩,_,_,_,_,_,rfl⟩
  ·split at h<;>try contradiction
   split at h<;>try contradiction
   rename_i hs;obtain⟨items,h,_⟩:=(Zcd ..).ex h.2.2.2;obtain⟨_,_,_,h1,h2⟩:=h;subst h1 h2;exact⟨⟨_,_,_,_,_,hs⟩,_,_,_,_,_,rfl⟩
  ·split at h<;>try contradiction
   split at h<;>try contradiction
   rename_i hs;obtain⟨items,h,_⟩:=(Wh ..).ex h.2.2.2.2;obtain⟨_,_,_,h1,h2⟩:=h;subst h1 h2;exact⟨⟨_,_,_,_,_,hs⟩,_,_,_,_,_,rfl⟩
  ·split at h<;>try contradiction
   split at h<;>try contradiction
   rename_i hs;obtain⟨items,h,_⟩:=(Zce ..).ex h.2.2.2;obtain⟨_,_,_,h1,h2⟩:=h;subst h1 h2;exact⟨⟨_,_,_,_,_,hs⟩,_,_,_,_,_,rfl⟩
 obtain⟨⟨k,es,u,hw,ver,h1⟩,k2,es2,u2,hw2,ver2,h2⟩:=key;unfold Zo;by_cases e:i=id
 ·subst e;rw[if_pos rfl,h1,h2];constructor<;>(intro h;cases h)
 ·rw[if_neg e]
end
end Go.Fd
