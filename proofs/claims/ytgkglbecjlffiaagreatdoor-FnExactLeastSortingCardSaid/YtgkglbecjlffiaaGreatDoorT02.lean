/-
  FOUNDATION 30: append: the operation. Own work.
-/
import Derived.Test.YtgkglbecjlffiaaGreatDoorT01
import Derived.Lib.ConvBytes
import Derived.Laws.BytesArg
import Derived.Lib.SliceRun
set_option linter.all false
namespace Go.Fd
variable [Tabs]
section
variable {P:Program} {F:Fr} {G G':Gh} {S S':Zc} {st st1 st2:St} {a:Act} {w w':World} {C:ZD} {oper:Oper} {D D2:Zd->Prop}
theorem ScR.flat{es:Row}(h:ScR es):Xk es:=fun e he t ht=>by
 have:=h e he t ht
 cases t with
 | v x=>trivial
 | sl z=>simp [isSc] at this
theorem Zk8(h:Sim F G st a w){items:Row}{N:Zf->Option (Nat×Nat)}{ui:Bool}{k key:Nat}{yv xv:Value}{news:List Value}{t ty e:TypeId}{i:TypeInfo}{z:Value}{d:Option Nat}(it:IT G st st1 w D items N ui k yv news)
  (ht:P.underlying t=some (.slice e)) (hi:P.info? e=some i) (hz:i.zero=some z) (hik:i.size=k) (hzk:z.cells.size=k) (hby:i.bytes<=1024) (hk0:0<k) (hd:∀ y,d=some y->y<F.nt)
  {zs:Row} (hx:VR G st.sto w (.cs zs) xv) (hor:zs=[]\/items≠[]) (hb:zs.length+items.length<=bigN) (hkz:Zw k zs) (hkey:st.sto (st.lvl,key)=none) (hfl:zs=[]\/ui=false\/ScR zs) :
  ∃ v w' G',UM P t ty xv yv w v w'/\Sim F G' { Zg st1 (st.lvl,key) (.ar k (zs++items) ui (zs.length+items.length) 0) with env:=ptd d (.hd (st.lvl,key) [] 0 (zs.length+items.length) none (zs.length+items.length)) st1.env } (a.put d v) w':=by
 subst hik
 obtain⟨⟨ad,rfl⟩,hrd⟩:=hx
 by_cases YN:items=[]
 ·subst YN
  have hzs:zs=[]:=hor.resolve_right (fun h=>h rfl)
  subst hzs
  have hnews:news=[]:=Uau (by simpa using it.fc.1)
  subst hnews
  let id:Zd:=(st.lvl,key)
  let G':Gh:=fun j=>if j=id then fun _=>none else G j
  have hG:∀ p,G' id p=none:=fun p=>by simp [G']
  have hnd:¬ D id:=fun hD=>by
   have:=it.kl.was id hD
   rw[hkey] at this
   cases this
  have hno:∀ b,¬ ZK G' id (.ar i.size [] ui 0 0) b:=fun b ⟨p,c,_,_,hg⟩=>by rw[hG] at hg;cases hg
  refine⟨_,w,G',Zfn ht hi it.fc (Uag _),?_⟩
  exact(h.turn it.kl (id:=id) (ob':=.ar i.size [] ui 0 0) (d:=d) (x:=.hd id [] 0 0 none 0) (G':=G') (w':=w) hnd (.inl rfl) (fun j hj=>by simp [G',hj]) (Uag _) (fun _ _ _=>rfl) (fun b ho=>absurd ho (hno b)) (fun ob ho=>by rw[hkey] at ho;cases ho)
   rfl rfl rfl (fun t=>⟨Uag _,fun e he=>by simp at he,by rw[hG];simp [YA],fun p es' _ hg=>by
    obtain⟨rfl,rfl⟩:=Vv hg
    unfold Z3
    rw[hG],fun p p' b c c' _ _ _ _ g1 _=>by rw[hG] at g1;cases g1⟩) (fun _ he=>by cases he) hd
   (fun t=>⟨⟨_,_,rfl,Uag _⟩,i.size,[],ui,0,0,by unfold Ze;rw[if_pos rfl],Uag _,fun _=>⟨[],i.size,ad,0,rfl,fun _=>rfl,fun e he=>by simp at he,rfl,Uag _,fun m hm=>by simp at hm,fun _ _=>by rw[hG];simp [YA],.inl rfl⟩⟩)).1
 ·have hm:0<items.length:=UbJ fun h0=>YN (Uau h0)
  obtain⟨olds,hfc,hold⟩:=hrd.fc hk0 hkz
  have hrun:=Zcl (P:=P) (ty:=ty) ht hi hz hfc it.fc (by omega) hb hby
  have hge:=grownCap_ge w (zs.length+items.length) zs.length e
  have holl:olds.length=zs.length*i.size:=hfc.1
  let N':Zf->Option (Nat×Nat):=fun p=>match p with
   | (i,f)::q=>if i<zs.length then none else N ((i-zs.length,f)::q)
   | []=>none
  have hNo:∀{i f:Nat} {q:Zf},i<zs.length->N' ((i,f)::q)=none:=fun hi=>by simp [N',hi]
  have hNn:∀{i f:Nat} {q:Zf},N' ((zs.length+i,f)::q)=N ((i,f)::q):=fun {i f q}=>by
   show (if zs.length+i<zs.length then _ else _)=_
   rw[if_neg (by omega),Ua5]
  have split:∀{p:Zf} {b1 c1:Nat},p≠[]->(getp (zs++items) p).isSome=true->N' p=some (b1,c1) ->
    ∃ i f q,p=(zs.length+i,f)::q/\(getp items ((i,f)::q)).isSome=true/\N ((i,f)::q)=some (b1,c1):=by
   intro p b1 c1 hp hss hg
   cases p with
   | nil=>exact absurd rfl hp
   | cons cd q =>
    obtain⟨i,f⟩:=cd
    obtain⟨es2,he2⟩:=Uai.1 hss
    rw[Zck] at he2
    by_cases hi:i<zs.length
    ·rw[hNo hi] at hg;cases hg
    ·rw[if_neg hi] at he2
     obtain⟨m,rfl⟩:∃ m,i=zs.length+m:=⟨i-zs.length,by omega⟩
     rw[hNn] at hg
     rw[show zs.length+m-zs.length=m from by omega] at he2
     exact⟨m,f,q,rfl,by rw[he2];rfl,hg⟩
  have hflat:ui=true->Xk zs:=fun hu=>by
   rcases hfl with rfl | h | h
   ·intro e he;simp at he
   ·rw[hu] at h;cases h
   ·exact h.flat
  have hcat:∀{j:Nat} {x:Value},olds[j]? = some x->(olds.toArray++news.toArray++Builtin.zeroCells z.cells (grownCap w (zs.length+items.length) zs.length e-(zs.length+items.length)))[j]? = some x:=fun {j x} hj=>by
   have hjl:=(Uac.1 hj).1
   rw[Ubl,UaD (by simpa using hjl)]
   simpa using hj
  have hcat2:∀{j:Nat} {x:Value},news[j]? = some x->(olds.toArray++news.toArray++Builtin.zeroCells z.cells (grownCap w (zs.length+items.length) zs.length e-(zs.length+items.length)))[zs.length*i.size+j]? = some x:=fun {j x} hj=>by
   have hjl:=(Uac.1 hj).1
   rw[Ubl,Array.getElem?_append_right (by simp;omega),UaD (by simp;omega)]
   simp only[Ubk,holl,Ua5]
   simpa using hj
  obtain⟨G',hG'⟩:=Zci h it.kl (d:=d) (key:=key) (k:=i.size) (c:=grownCap w (zs.length+items.length) zs.length e) (es:=zs++items) (u:=ui) (ty:=e) (N:=N') hkey hd
   (w':=w.drew.alloc (.cells (olds.toArray++news.toArray++Builtin.zeroCells z.cells (grownCap w (zs.length+items.length) zs.length e-(zs.length+items.length))) e))
   ⟨by simp,fun b hb=>heap_alloc_old w.drew _ b hb,rfl,rfl,rfl⟩ (heap_alloc_new w.drew _)
   (by simp only[Array.size_append,Ubk,size_zeroCells,hzk,holl,it.fc.1,<-UaJ];congr 1;omega) (by rw[Uam];exact hge) (Zai (by unfold bigN at *;omega))
   (fun e he=>by
    rcases Uax.1 he with he | he
    ·exact hkz e he
    ·exact it.un e he)
   (fun i0 e0 f t0 h1 h2=>by
    by_cases hil:i0<zs.length
    ·rw[Uaq hil] at h1
     obtain⟨x,hx,hr⟩:=hold i0 e0 f t0 h1 h2
     exact⟨x,hcat hx,Rds.cell (Rds.mono it.kl.av (fun _ _=>rfl) hr) fun hu=>hflat hu e0 (Uae h1) t0 (Uae h2)⟩
    ·obtain⟨m,rfl⟩:∃ m,i0=zs.length+m:=⟨i0-zs.length,by omega⟩
     rw[Uao (by omega),show zs.length+m-zs.length=m from by omega] at h1
     cases ui with
     | true =>
      obtain⟨x,hx,hr⟩:=it.cl rfl m e0 f t0 h1 h2
      refine⟨x,by rw[UaJ,Ua6];exact hcat2 hx,?_⟩
      cases t0 with
      | v y=>exact hr
      | sl zz =>
       simp only[Jh,if_true,List.nil_append] at hr ⊢
       rw[hNn]
       exact hr
     | false =>
      obtain⟨x,hx,hr⟩:=it.rd m e0 f t0 h1 h2
      exact⟨x,by rw[UaJ,Ua6];exact hcat2 hx,Rds.cell hr fun hu=>by cases hu⟩)
   (fun hu i0 f e0 zz q es2 h1 h2 h3=>by
    by_cases hil:i0<zs.length
    ·rw[Uaq hil] at h1
     have:=hflat hu e0 (Uae h1) _ (Uae h2)
     simp only[YJ] at this
     subst this
     obtain⟨rfl,rfl⟩:=Vv h3
     unfold Z3
     simp only[hNo hil]
    ·obtain⟨m,rfl⟩:∃ m,i0=zs.length+m:=⟨i0-zs.length,by omega⟩
     rw[Uao (by omega),show zs.length+m-zs.length=m from by omega] at h1
     have:=it.sub hu m f e0 zz q es2 h1 h2 h3
     rw[hu]
     exact QY (G:=fun _=>N) (id:=(0,0)) (p:=(m,f)::q) (A:=fun _=>False) hNn (fun _ r=>hNn) (fun hu2=>by cases hu2) (fun b hb=>hb.elim) (fun h=>by cases h) (fun _ _ _=>rfl) this)
   (fun hu p b1 c1 hp hss hg=>by
    obtain⟨m,f,q,rfl,r1,r2⟩:=split hp hss hg
    exact it.src hu _ b1 c1 (by simp) r1 r2)
   (fun hu p p' b1 c1 c2 hp hp' h1 h2 g1 g2=>by
    obtain⟨m,f,q,rfl,r1,r2⟩:=split hp h1 g1
    obtain⟨m',f',q',rfl,s1,s2⟩:=split hp' h2 g2
    have:=it.inj hu _ _ b1 c1 c2 (by simp) (by simp) r1 s1 r2 s2
    simp only[List.cons.injEq,Ua0] at this
    rw[this.1.1,this.1.2,this.2])
  rw[Uam] at hG'
  exact⟨_,_,G',hrun,hG'⟩
end
variable [Tabs]
section
variable {P:Program} {F:Fr} {G G':Gh} {S S':Zc} {st st1 st2:St} {a:Act} {w w':World} {C:ZD} {oper:Oper} {D D2:Zd->Prop}
theorem Kl.xv(k:Kl D st st1){x:X}{v:Value}(h:VR G S w (xv st.env x) v):VR G S w (xv st1.env x) v:=by
 cases x with
 | t n=>exact k.vr n G S w v h
 | k u=>exact h
 | f i=>exact h
theorem IT.mk0{items:Row}{ui:Bool}{k:Nat}{yv:Value}{news:List Value}(fc:FC w k items.length yv news)(un:Zw k items)
  (rd:∀(i:Nat) (e:List Tr) (f:Nat) (t:Tr),items[i]? = some e->e[f]? = some t->∃ x,news[i*k+f]? = some x/\Rds w (Av G st.sto w) x t) (hu:ui=true->Xk items) :
  IT G st st w (fun _=>False) items (fun _=>none) ui k yv news:=by
 refine⟨Kl.refl st,fc,un,rd,fun hui i e f t hi hf=>?_,fun hui i f e zs q es2 hi hf hq=>?_,fun _ _ _ _ _ _ h=>(by cases h),fun _ _ _ _ _ _ _ _ _ _ h=>(by cases h)⟩
 ·obtain⟨x,hx,hr⟩:=rd i e f t hi hf
  exact⟨x,hx,Rds.cell hr fun _=>hu hui e (Uae hi) t (Uae hf)⟩
 ·have:=hu hui e (Uae hi) _ (Uae hf)
  simp only[YJ] at this
  subst this
  obtain⟨rfl,rfl⟩:=Vv hq
  unfold Z3
  rfl
theorem WR(h:Sim F G st a w){items:Row}{N:Zf->Option (Nat×Nat)}{ui:Bool}{k:Nat}{yv xv0:Value}{news:List Value}{t ty e:TypeId}{i:TypeInfo}{z:Value}{d:Option Nat}{x:X}{loc:List (Nat×Ob)}{K:St->Prop}(it:IT G st st1 w D items N ui k yv news)
  (ht:P.underlying t=some (.slice e)) (hi:P.info? e=some i) (hz:i.zero=some z) (hik:i.size=k) (hzk:z.cells.size=k) (hby:i.bytes<=1024) (hk0:0<k) (hd:∀ y,d=some y->y<F.nt)
  (hxv:VR G st.sto w (xv st1.env x) xv0) (hfr:freshK (keyOf d) loc 1->st.sto (st.lvl,keyOf d)=none) (hgo:Jg d k x loc items ui st1 K) :
  ∃ v w' st' G',UM P t ty xv0 yv w v w'/\K st'/\Sim F G' st' (a.put d v) w':=by
 obtain⟨_,hgo⟩:=hgo
 split at hgo
 ·rename_i zs hq
  rw[hq] at hxv
  obtain⟨g1,g2,g3,g4,g5,hk⟩:=hgo
  obtain⟨v,w',G',h1,h2⟩:=Zk8 (ty:=ty) h it ht hi hz hik hzk hby hk0 hd hxv g1 g2 g3 (hfr g4) g5
  rw[it.kl.lvl] at hk
  exact⟨v,w',_,G',h1,hk,h2⟩
 ·rename_i id len s hq
  rw[hq] at hxv
  split at hgo <;> try contradiction
  rename_i k' es u hw ver hs1
  obtain⟨rfl,rfl,rfl,g1,hk⟩:=hgo
  obtain⟨hnd,ob0,hs0,hwk⟩:=it.kl.only _ _ hs1
  have hob:ob0 = .ar k' es u s ver:=by cases hwk;rfl
  subst hob
  by_cases huu:u=true->ui=true
  ·obtain⟨v,w',G',h1,h2⟩:=Zfo (ty:=ty) h it ht hi hz hik hzk hby hk0 hd hs0 hnd hxv huu g1
   have:(u&&ui)=u:=by cases u <;> cases ui <;> simp_all
   rw[this] at hk
   exact⟨v,w',_,G',h1,hk,h2⟩
  ·have huu2:u=true/\ui=false:=by cases u <;> cases ui <;> simp_all
   obtain⟨rfl,rfl⟩:=huu2
   have hkl:=h.kl it.kl
   have hfz:=hkl.1.freeze hs1
   have hx1:=hkl.2.vr (.hd id [] 0 es.length none s) xv0 hnd hxv
   have hx2:=hfz.2.vr (.hd id [] 0 es.length none s) xv0 (fun h=>h) hx1
   have hs2:(Zg st1 id (.ar k' es false s ver)).sto id=some (.ar k' es false s ver):=by rw[Ya];unfold Ze;rw[if_pos rfl]
   have it2:IT G (Zg st1 id (.ar k' es false s ver)) (Zg st1 id (.ar k' es false s ver)) w (fun _=>False) items (fun _=>none) false k' yv news :=
    IT.mk0 it.fc it.un (fun i0 e0 f t0 h1 h2=>by
     obtain⟨x,hx,hr⟩:=it.rd i0 e0 f t0 h1 h2
     exact⟨x,hx,Rds.mono hfz.2.av hfz.2.same hr⟩) (fun h=>by cases h)
   obtain⟨v,w',G',h1,h2⟩:=Zfo (ty:=ty) hfz.1 it2 ht hi hz hik hzk hby hk0 hd hs2 (fun h=>h) hx2 (fun h=>by cases h) g1
   rw[Zah,Xp] at h2
   exact⟨v,w',_,G',h1,hk,h2⟩
 ·contradiction
theorem Zak(h:SOk G S w){id:Zd}{k:Nat}{es es':Row}{u:Bool}{hw ver off len s:Nat}{p:Zf}{cap:Option Nat}{v:Value}(hs:S id=some (.ar k es u hw ver))(hg:getp es p=some es')(hst:JF p s hw ver u)(hv:YH G S id p off len cap s v)(hl:off+len<=es'.length){k0:Nat}(hk0:Zw k0 (cut es' off len)) :
  ∃ cs,FC w k0 len v cs/\∀(i:Nat) (e:List Tr) (f:Nat) (t:Tr),(cut es' off len)[i]? = some e->e[f]? = some t->∃ x,cs[i*k0+f]? = some x/\Jh G w (Av G S w) id p u (off+i) f x t:=by
 obtain⟨_,k2,es2,u2,hw2,ver2,hs2,_,hrel⟩:=hv
 rw[hs] at hs2;cases hs2
 obtain⟨es3,k',ad,c,hg3,_,hun,rfl,hlc,_,_,hor⟩:=hrel hst
 rw[hg] at hg3;cases hg3
 by_cases h0:len=0
 ·subst h0
  refine⟨[],⟨by simp,ad,c,rfl,?_⟩,fun i e f t h=>by simp [cut] at h⟩
  cases ad with
  | none=>exact .inr ⟨rfl,rfl⟩
  | some ad=>exact .inl ⟨ad,rfl,fun j u hj=>by simp at hj⟩
 ·have hr:=DX h hs hst hg
  unfold Z3 at hr
  rcases hor with hz | ⟨_,hz⟩ | ⟨b,cc,hG,rfl,hoc⟩
  ·omega
  ·exact absurd hz h0
  ·rw[hG] at hr
   obtain⟨k2,vs,ty,h1,h2,h3,h4,h5,h6⟩:=hr
   have hlt:off<es'.length:=by omega
   have hm:=Uae (Uaf hlt)
   have hkk:k2=k':=by rw[<-h2 _ hm,hun _ hm]
   subst hkk
   have hcl:(cut es' off len).length=len:=Qx hl
   have hk2:k2=k0:=by
    have:(cut es' off len)[0]? = some es'[off]:=by
     rw[WN,if_pos (by omega)]
     simp [hlt]
    rw[<-hk0 _ (Uae this),<-h2 _ hm]
   subst hk2
   have hll:(off+len)*k2<=vs.size:=by rw[h4];exact UaC _ (by omega)
   rw[UaJ] at hll
   refine⟨(vs.toList.drop (off*k2)).take (len*k2),⟨by simp;omega,_,c,rfl,.inl ⟨_,rfl,fun j u hj=>?_⟩⟩,fun i e f t hi hf=>?_⟩
   ·rw[Uat] at hj
    split at hj <;> try contradiction
    rw[UaH] at hj
    rw[Yk,cell_of_row w b _ vs ty (0,0) h3]
    simpa using hj
   ·rw[WN] at hi
    split at hi <;> try contradiction
    rename_i hil
    obtain⟨x,hx,hc⟩:=h6 (off+i) e f t hi hf
    have hfl:=(Uac.1 hf).1
    rw[h2 e (Uae hi)] at hfl
    refine⟨x,?_,hc⟩
    rw[Uat,if_pos (Q0 hil hfl),UaH]
    rw[UaJ] at hx
    rw[<-Ua6]
    simpa using hx
end
variable [Tabs]
section
variable {P:Program} {F:Fr} {G G':Gh} {S S':Zc} {st st1 st2:St} {a:Act} {w w':World} {C:ZD} {oper:Oper} {D D2:Zd->Prop}
theorem IT.sv(h:Sim F G st a w){id:Zd}{l:List IV}{k b c:Nat}{K1:List Tr->Bool->St->Prop}(hs:st.sto id=some (.bx l))(hl2:id.1=st.lvl)(hg:G id []=some (b,c))(hlen:l.length=k)(hm:Yy l st K1) :
  ∃ ts u st2 D N news,K1 ts u st2/\IT G st (Zp id st2) w D [ts] N u k (.slice (some ⟨b,0,none⟩) 1 1) news:=by
 obtain⟨b',c',vs,ty,hb1,hb2,hvs⟩:=h.ok.obs _ _ hs
 rw[hg] at hb1;cases hb1
 have hvl:vs.size=k:=by rw[<-hlen];simpa using Yq hvs
 obtain⟨ts,u,st2,D2,src,h1,h2,_,h4,h5,h6,_,h8⟩:=Zaj h l _ st _ _ (Kl.refl st) hvs hm
 have htl:ts.length=k:=by rw[h4,hlen]
 have hk2:=h2.step (fun j cells hj=>h.ok.low j cells hj) h.outl hl2 (by rw[hs];rfl)
 have hs2:=(h.kl h2).1
 have hav:∀ blk,Av G st2.sto w blk->Av G (Zp id st2).sto w blk:=fun blk hb=>⟨hb.1,fun i ob hi ho=>by
  by_cases hil:i.1=st2.lvl
  ·rw[QX hil (by rw[h2.lvl];exact hl2)] at hi
   split at hi
   ·cases hi
   ·obtain⟨ob0,g1,g2⟩:=UaF.1 hi
    refine hb.2 i ob0 g1 ?_
    subst g2
    cases ob0 <;> exact ho
  ·have:(Zp id st2).sto i=st2.sto i:=by rw[Yt (st:=Zp id st2) hil,Yt hil];rfl
   rw[this] at hi
   exact hb.2 i ob hi ho⟩
 let N:Zf->Option (Nat×Nat):=fun p=>match p with
  | (_,f)::q=>match src f with
   | some j=>G j q
   | none=>none
  | []=>none
 have es1:∀{i:Nat} {e:List Tr},[ts][i]? = some e->i=0/\e=ts:=fun {i e} hi=>by
  cases i with
  | zero=>simp at hi;exact⟨rfl,hi.symm⟩
  | succ i=>simp at hi
 have vat:∀{f:Nat} {t:Tr},ts[f]? = some t->∃ v,vs.toList[f]? = some v:=fun {f t} hf=>by
  have hlt:f<k:=by rw[<-htl];exact(Uac.1 hf).1
  exact⟨vs.toList[f]'(by simpa [hvl] using hlt),by simp [hvl,hlt]⟩
 have hsrc1:u=true->∀ p b1 c1,p≠[]->(getp [ts] p).isSome=true->N p=some (b1,c1)->∃ f q j k2 zs hw2 ver2,p=(0,f)::q/\src f=some j/\G j q=some (b1,c1)/\D2 j/\st.sto j=some (.ar k2 zs true hw2 ver2)/\(getp zs q).isSome=true:=by
  intro hu p b1 c1 hp hss hN
  cases p with
  | nil=>exact absurd rfl hp
  | cons cd q =>
   obtain⟨i,f⟩:=cd
   obtain⟨es2,he2⟩:=Uai.1 hss
   obtain⟨e0,zs,g1,g2,g3⟩:=Y2 he2
   obtain⟨rfl,rfl⟩:=es1 g1
   simp only[N] at hN
   split at hN
   ·rename_i j hj
    obtain⟨v,hv⟩:=vat g2
    have:=h6 hu f _ v g2 hv
    rw[hj] at this
    obtain⟨r1,r2,k2,zs2,hw2,ver2,r3,r4,r5⟩:=this
    cases r4
    exact⟨f,q,j,k2,zs,hw2,ver2,rfl,hj,hN,r1,r3,by rw[g3];rfl⟩
   ·cases hN
 refine⟨ts,u,st2,_,N,vs.toList,h1,hk2,⟨by simp [hvl],_,_,rfl,.inl ⟨_,rfl,fun j x hj=>?_⟩⟩,fun e he=>by simp at he;subst he;exact htl,fun i e f t hi hf=>?_,fun hu i e f t hi hf=>?_,fun hu i f e zs q es2 hi hf hq=>?_,fun hu p b1 c1 hp hss hN=>?_,fun hu p p' b1 c1 c2 hp hp' hss hss' hN hN' => ?_⟩
 ·have:(⟨b,0,none⟩:Addr).add j=⟨b,j,none⟩:=by
   simp [Addr.add]
   try exact fun h=>h.symm
  rw[this]
  have:=cell_of_row w b j vs ty (0,0) hb2
  rw[this]
  simpa using hj
 ·obtain⟨rfl,rfl⟩:=es1 hi
  obtain⟨v,hv⟩:=vat hf
  exact⟨v,by simpa using hv,Rds.mono hav (fun _ _=>rfl) (h5 f t v hf hv)⟩
 ·obtain⟨rfl,rfl⟩:=es1 hi
  obtain⟨v,hv⟩:=vat hf
  refine⟨v,by simpa using hv,?_⟩
  subst hu
  have:=h6 rfl f t v hf hv
  split at this
  ·exact Rds.cell (Rds.mono hav (fun _ _=>rfl) (h5 f t v hf hv)) (fun _=>this)
  ·rename_i j hj
   exact Src.cell this (by simp [N,hj])
 ·obtain⟨rfl,rfl⟩:=es1 hi
  obtain⟨v,hv⟩:=vat hf
  have:=h6 hu f _ v hf hv
  split at this
  ·rename_i hj
   simp only[YJ] at this
   subst this
   obtain⟨rfl,rfl⟩:=Vv hq
   unfold Z3
   simp [N,hj]
  ·rename_i j hj
   obtain⟨r1,r2,k2,zs2,hw2,ver2,r3,r4,r5⟩:=this
   cases r4
   have hr:=(h.ok.obs _ _ r3).2.2.2.1 q es2 (.inr rfl) hq
   have hr2:=Zad (G1:=G) (G2:=G) (A':=fun _=>False) (i:=j) rfl hr
   exact QY (G:=G) (id:=j) (p:=q) (A:=fun _=>False) (by simp [N,hj]) (fun _ r=>by simp [N,hj]) (fun hu=>by cases hu) (fun b hb=>hb.elim) (fun h=>by cases h) (fun _ _ _=>rfl) hr2
 ·obtain⟨f,q,j,k2,zs,hw2,ver2,rfl,hj,g1,g2,g3,g4⟩:=hsrc1 hu p b1 c1 hp hss hN
  exact⟨j,_,.inl g2,g3,q,c1,.inr rfl,g4,g1⟩
 ·obtain⟨f,q,j,k2,zs,hw2,ver2,rfl,hj,g1,g2,g3,g4⟩:=hsrc1 hu p b1 c1 hp hss hN
  obtain⟨f',q',j',k2',zs',hw2',ver2',rfl,hj',g1',g2',g3',g4'⟩:=hsrc1 hu p' b1 c2 hp' hss' hN'
  have hjj:=h.ok.dis _ _ _ _ b1 g3 g3' ⟨q,c1,.inr rfl,g4,g1⟩ ⟨q',c2,.inr rfl,g4',g1'⟩
  subst hjj
  rw[g3] at g3';cases g3'
  rw[h8 f f' j hj hj',(h.ok.obs _ _ g3).2.2.2.2 q q' b1 c1 c2 (.inr rfl) (.inr rfl) g4 g4' g1 g1']
theorem UN(h:Sim F G st a w){k md:Nat}{x y:X}{d:Option Nat}{K:St->Prop}(hd:d=oper.dst)(hdn:∀ y,d=some y->y<F.nt)(hc:Zj P (.ap k md x y) oper.op=true)(he:ew C d st K (.ap k md x y)):LOk P F a w oper K:=by
 subst hd
 simp only[Zj] at hc
 split at hc <;> try contradiction
 rename_i args argTypes ho
 split at hc <;> try contradiction
 rename_i xo yo t t2 hargs htys
 simp only[Uad,beq_iff_eq] at hc
 obtain⟨⟨⟨rfl,hcx⟩,hcy⟩,hc⟩:=hc
 split at hc <;> try contradiction
 rename_i e hel
 split at hc <;> try contradiction
 rename_i i hi
 simp only[Uad,beq_iff_eq,decide_eq_true_eq] at hc
 obtain⟨⟨⟨hik,hk0⟩,hby⟩,hz⟩:=hc
 split at hz <;> try contradiction
 rename_i z hz0
 have hzk:z.cells.size=k:=by simpa using hz
 have ht:=Vd hel
 have hargs':args = #[xo,yo]:=by cases args;simpa using hargs
 have htys':argTypes = #[t,t]:=by cases argTypes;simpa using htys
 subst hargs'
 subst htys'
 have hx:=h.x hcx
 have hy:=h.x hcy
 have Jb:(∃ v w' st' G',UM P t oper.type (a.eval xo) (a.eval yo) w v w'/\K st'/\Sim F G' st' (a.put oper.dst v) w')->LOk P F a w oper K:=by
  rintro⟨v,w',st',G',hr,hk,hs⟩
  unfold UM at hr
  refine Res.of_run (v:=v) (w':=w') ?_ ⟨st',G',hk,hs⟩
  unfold execOp
  simp only[ho,resolve,invoke,builtin,Sem.run_bind,Sem.run_pure,Result.andThen_ok,List.map_toArray,UaB,UaX,hr]
 have hfr0:freshK (keyOf oper.dst) st.loc 1->st.sto (st.lvl,keyOf oper.dst)=none:=Zcj
 have trees:∀{es:Row} {ui:Bool},Rds w (Av G st.sto w) (a.eval yo) (.sl es)->(ui=true->ScR es)->Jg oper.dst k x st.loc es ui st K->LOk P F a w oper K:=fun {es ui} hr hu hgo=>by
  obtain⟨news,it⟩:=IT.trees (ui:=ui) hr hk0 hgo.1 (fun h=>(hu h).flat)
  exact Jb (WR h it ht hi hz0 hik hzk hby hk0 hdn hx hfr0 hgo)
 simp only[ew] at he
 split at he <;> try contradiction
 ·rename_i es hq
  rw[hq] at hy
  split at he
  ·exact trees hy (fun _=>he.1) he.2
  ·exact trees hy (fun h=>by cases h) he.2
 ·rename_i es hq
  rw[hq] at hy
  split at he
  ·exact trees hy.2 (fun _=>he.1) he.2
  ·exact trees hy.2 (fun h=>by cases h) he.2
 ·rename_i id2 p2 off2 len2 cap2 s2 hq
  rw[hq] at hy
  split at he
  ·obtain⟨rfl,rfl,rfl,hl2,he⟩:=he
   split at he <;> try contradiction
   rename_i k2 zs u2 hw2 ver2 hs2
   obtain⟨rfl,rfl,hgo⟩:=he
   cases u2 with
   | true =>
    obtain⟨news,it⟩:=IT.moved h hs2 hl2 hy hk0 hgo.1
    exact Jb (WR h it ht hi hz0 hik hzk hby hk0 hdn (it.kl.xv hx) hfr0 hgo)
   | false =>
    obtain⟨stp,hr⟩:=UK h hs2 hl2 hy
    obtain⟨news,it⟩:=IT.trees (ui:=false) hr hk0 hgo.1 (fun h=>by cases h)
    refine Jb (WR stp.sim it ht hi hz0 hik hzk hby hk0 hdn (stp.sim.x hcx) (fun hf=>?_) hgo)
    show (Zp id2 st).sto (st.lvl,keyOf oper.dst)=none
    rw[QX rfl hl2]
    split
    ·rfl
    ·rw[hfr0 hf];rfl
  ·split at he
   ·unfold JG at he
    split at he <;> try contradiction
    rename_i k2 es u2 hw2 ver2 hs2
    obtain⟨es',hg,hst,hl,hsc,hgo⟩:=he
    obtain⟨cs,fc,hcell⟩:=Zak h.ok hs2 hg hst hy hl hgo.1
    have it:IT G st st w (fun _=>False) (cut es' off2 len2) (fun _=>none) true k (a.eval yo) cs:=IT.mk0 (by rw[Qx hl];exact fc) hgo.1 (fun i0 e0 f t0 h1 h2=>by
     obtain⟨x,hx,hr⟩:=hcell i0 e0 f t0 h1 h2
     refine⟨x,hx,?_⟩
     have:=hsc e0 (Uae h1) t0 (Uae h2)
     cases t0 with
     | v y=>obtain⟨rfl,hs⟩:=hr;exact .v _ hs
     | sl z=>simp [isSc] at this) (fun _=>hsc.flat)
    exact Jb (WR h it ht hi hz0 hik hzk hby hk0 hdn hx hfr0 hgo)
   ·obtain⟨_,rfl,he⟩:=he
    split at he <;> try contradiction
    rename_i k2 es u2 hw2 ver2 hs2
    obtain⟨rfl,hl,hgo⟩:=he
    have hfz:=h.freeze hs2
    have hy2:=hfz.2.vr (.hd id2 [] off2 len2 cap2 s2) (a.eval yo) (fun h=>h) hy
    have hs2':(Zg st id2 (.ar k2 es false s2 ver2)).sto id2=some (.ar k2 es false s2 ver2):=by rw[Ya];unfold Ze;rw[if_pos rfl]
    obtain⟨cs,fc,hcell⟩:=Zak hfz.1.ok hs2' (p:=[]) rfl (rfl:JF [] s2 s2 ver2 false) hy2 hl hgo.1
    have it:IT G (Zg st id2 (.ar k2 es false s2 ver2)) (Zg st id2 (.ar k2 es false s2 ver2)) w (fun _=>False) (cut es off2 len2) (fun _=>none) false k (a.eval yo) cs:=IT.mk0 (by rw[Qx hl];exact fc) hgo.1 (fun i0 e0 f t0 h1 h2=>by
     obtain⟨x,hx,hr⟩:=hcell i0 e0 f t0 h1 h2
     refine⟨x,hx,?_⟩
     cases t0 with
     | v y=>obtain⟨rfl,hs⟩:=hr;exact .v _ hs
     | sl z=>simpa [Jh] using hr) (fun h=>by cases h)
    refine Jb (WR hfz.1 it ht hi hz0 hik hzk hby hk0 hdn (hfz.1.x hcx) (fun hf=>?_) hgo)
    rw[VM,Ya]
    unfold Ze
    rw[if_neg (fun hh=>by have h1:=hfr0 hf;rw[hh,hs2] at h1;cases h1)]
    exact hfr0 hf
 ·rename_i id2 hq
  rw[hq] at hy
  obtain⟨rfl,hl2,he⟩:=he
  split at he <;> try contradiction
  rename_i l hs2
  obtain⟨hlen,hm⟩:=he
  have hy0:∃ b c,G id2 []=some (b,c)/\a.eval yo = .slice (some ⟨b,0,none⟩) 1 1:=by
   rcases hy with ⟨_,b,c,hs3,hgb,hyv⟩ | ⟨_,b,c,hs3,_⟩
   ·exact⟨b,c,hgb,hyv⟩
   ·rw[hs2] at hs3;cases hs3
  obtain⟨b,c,hgb,hyv⟩:=hy0
  obtain⟨ts,u,st2,D2,N,news,hgo,it⟩:=IT.sv h hs2 hl2 hgb hlen hm
  rw[<-hyv] at it
  exact Jb (WR h it ht hi hz0 hik hzk hby hk0 hdn (it.kl.xv hx) hfr0 hgo)
theorem Got.tree{l b:Nat}{k c:Nat}{es:Row}{S:Zc}{vs:Array Value}{ty:TypeId}(h:SOk G S w)(e:Ext w w')
  (hh:w'.heap[w.heap.size]? = some (.cells vs ty (0,0))) (hc:es.length<=c) (hk:Zw k es) (hr:UC w (Av G S w) vs k es) :
  Got G S w l b (.tr (.sl es)) [] (.slice (some ⟨w.heap.size,0,none⟩) es.length c) w':=by
 refine Got.mk (G':=G) h (fun j hj=>absurd hj (UaE j)) e (fun _ _ _=>rfl) (fun j ob hj=>by simp at hj) (fun hvr j ob hj=>by simp at hj) (fun j ob j' ob' blk hj=>by simp at hj) (fun j cells hj=>by simp at hj) (fun hvr=>?_)
 have hav:Av G S w' w.heap.size:=by
  refine⟨(Uaw.1 hh).1,fun id ob hs ho=>?_⟩
  have:=J9 (h.obs id ob hs) ho
  omega
 show Rds w' (Av G S w') _ _
 refine Rds.sl w.heap.size 0 c k es (fun i j=>(vs[i*k+j]?).getD undef) hav hk hc (fun i e0 j t h1 h2=>?_) (fun i e0 j t h1 h2=>?_)
 ·obtain⟨x,hx,_⟩:=hr i e0 j t h1 h2
  rw[Uap,hx]
  rw[cell_of_row w' w.heap.size (i*k+j) vs ty (0,0) hh,hx]
  rfl
 ·obtain⟨x,hx,hrd⟩:=hr i e0 j t h1 h2
  rw[hx]
  exact(hvr (.tr t) x hrd)
theorem Got.treeF{l b:Nat}{k c:Nat}{es:Row}{S:Zc}{vs:Array Value}{ty:TypeId}{fr:Nat×Nat}(h:SOk G S w)(e:Ext w w')
  (hh:w'.heap[w.heap.size]? = some (.cells vs ty fr)) (hc:es.length<=c) (hk:Zw k es) (hr:UC w (Av G S w) vs k es) :
  Got G S w l b (.tr (.sl es)) [] (.slice (some ⟨w.heap.size,0,none⟩) es.length c) w':=by
 refine Got.mk (G':=G) h (fun j hj=>absurd hj (UaE j)) e (fun _ _ _=>rfl) (fun j ob hj=>by simp at hj) (fun hvr j ob hj=>by simp at hj) (fun j ob j' ob' blk hj=>by simp at hj) (fun j cells hj=>by simp at hj) (fun hvr=>?_)
 have hav:Av G S w' w.heap.size:=by
  refine⟨(Uaw.1 hh).1,fun id ob hs ho=>?_⟩
  have:=J9 (h.obs id ob hs) ho
  omega
 show Rds w' (Av G S w') _ _
 refine Rds.sl w.heap.size 0 c k es (fun i j=>(vs[i*k+j]?).getD undef) hav hk hc (fun i e0 j t h1 h2=>?_) (fun i e0 j t h1 h2=>?_)
 ·obtain⟨x,hx,_⟩:=hr i e0 j t h1 h2
  rw[Uap,hx]
  rw[cell_of_row w' w.heap.size (i*k+j) vs ty fr hh,hx]
  rfl
 ·obtain⟨x,hx,hrd⟩:=hr i e0 j t h1 h2
  rw[hx]
  exact(hvr (.tr t) x hrd)
theorem Zfp{s:ByteArray}:(Xg s).length=s.size:=by
 unfold Xg
 rw[Uab,Array.length_toList]
 rfl
theorem Zk9{s:ByteArray}{i j:Nat}{e:List Tr}{t:Tr}(h1:(Xg s)[i]? = some e)(h2:e[j]? = some t):j=0/\∃ hi:i<s.data.size,t = .v (.int .u8 (s.data[i]'hi).toNat):=by
 unfold Xg at h1
 rw[Uan] at h1
 cases hb:s.data.toList[i]? with
 | none=>rw[hb] at h1;cases h1
 | some x =>
  rw[hb] at h1
  have h1:=Ubc h1
  subst h1
  have hj:j=0:=by
   have:=(Uac.1 h2).1
   simpa using this
  subst hj
  obtain⟨hi,rfl⟩:=Uac.1 hb
  exact⟨rfl,by simpa using hi,(Ubc h2).symm.trans (by simp)⟩
theorem Zla{K:JU}{l b:Nat}(h:Sim F G st a w){x:X}(hc:Zj P (.cv .bys x) oper.op=true)(he:ev C (xv st.env) st.sto K (.cv .bys x)):EvOk P G st a w K l b oper:=by
 simp only[Zj] at hc
 split at hc <;> try contradiction
 rename_i s d y ho
 simp only[Uad,Uai] at hc
 obtain⟨⟨hx,sd,hs⟩,hd⟩:=hc
 have hx:=h.x hx
 split at hd <;> try contradiction
 rename_i hk _ e hde hk2
 split at hd <;> try contradiction
 rename_i hee
 simp only[ev] at he
 split at he <;> try contradiction
 rename_i sv hk3 hq
 rw[hq] at hx
 obtain⟨hx,_⟩:=hx.val
 have hrun:=Lib.run_convert_string_bytes (P:=P) w s d e sv hs (by assumption) (by assumption)
 refine Res.of_run (v:=.slice (some ⟨w.heap.size,0,none⟩) sv.size (grownCap w sv.size 0 e)) (w':=Lib.bytesWorld w e sv) ?_ ⟨_,_,he,?_⟩
 ·unfold execOp
  simp only[ho,hx,Sem.run_bind,Sem.run_pure,Result.andThen_ok,hrun]
 ·have:=Got.treeF (l:=l) (b:=b) (S:=st.sto) (G:=G) (w:=w) (k:=1) (c:=grownCap w sv.size 0 e) (es:=Xg sv) (ty:=e) (w':=Lib.bytesWorld w e sv) h.ok
   ⟨by rw[Lib.bytesWorld_size];omega,fun b hb=>Lib.bytesWorld_at_old w e sv b hb,rfl,rfl,rfl⟩ (Lib.bytesWorld_at_new w e sv) (by rw[Zfp];exact grownCap_ge w sv.size 0 e)
   (fun e0 he0=>by
    obtain⟨x,_,rfl⟩:=UaP.1 he0
    rfl)
   (fun i0 e0 f t0 h1 h2=>by
    obtain⟨rfl,hi,rfl⟩:=Zk9 h1 h2
    refine⟨.int .u8 (sv.data[i0]'hi).toNat,?_,.v _ rfl⟩
    unfold Lib.bytesCells
    rw[Nat.mul_one,Nat.add_zero,UaD (by simpa using hi),UbI,UaK hi]
    rfl)
  rw[Zfp] at this
  exact this
theorem Zlb{K:JU}{l b:Nat}(h:Sim F G st a w){k:Nat}{x y:X}(hc:Zj P (.a3 k x y) oper.op=true)(he:ev C (xv st.env) st.sto K (.a3 k x y)):EvOk P G st a w K l b oper:=by
 simp only[Zj] at hc
 split at hc <;> try contradiction
 rename_i args argTypes ho
 split at hc <;> try contradiction
 rename_i xo yo t t2 hargs htys
 simp only[Uad,beq_iff_eq] at hc
 obtain⟨⟨⟨rfl,hcx⟩,hcy⟩,hc⟩:=hc
 split at hc <;> try contradiction
 rename_i e hel
 split at hc <;> try contradiction
 rename_i i hi
 simp only[Uad,beq_iff_eq,decide_eq_true_eq] at hc
 obtain⟨⟨⟨hik,hk0⟩,hby⟩,hz⟩:=hc
 split at hz <;> try contradiction
 rename_i z hz0
 have hzk:z.cells.size=k:=by simpa using hz
 have ht:=Vd hel
 have hargs':args = #[xo,yo]:=by cases args;simpa using hargs
 have htys':argTypes = #[t,t]:=by cases argTypes;simpa using htys
 subst hargs'
 subst htys'
 have hx:=h.x hcx
 have hy:=h.x hcy
 simp only[ev] at he
 split at he <;> try contradiction
 rename_i zs hq
 rw[hq] at hx
 subst hik
 obtain⟨⟨ad,hxe⟩,hrd⟩:=hx
 have key:∀{items:Row},(∃ cs,FC w i.size items.length (a.eval yo) cs/\∀(i0:Nat) (e0:List Tr) (f:Nat) (t0:Tr),items[i0]? = some e0->e0[f]? = some t0->∃ x,cs[i0*i.size+f]? = some x/\Rds w (Av G st.sto w) x t0) ->
   (items≠[]/\ScR items/\Zw i.size zs/\Zw i.size items/\zs.length+items.length<=bigN/\ZC K (.tr (.sl (zs++items))))->EvOk P G st a w K l b oper:=by
  rintro items ⟨news,hfn,hnew⟩ ⟨YN,_,hkz,hki,hb,hK⟩
  have hm:0<items.length:=UbJ fun h0=>YN (Uau h0)
  rw[hxe] at hrd
  obtain⟨olds,hfc,hold⟩:=hrd.fc hk0 hkz
  have hrun:=Zcl (P:=P) (ty:=oper.type) ht hi hz0 hfc hfn (by omega) hb hby
  have hge:=grownCap_ge w (zs.length+items.length) zs.length e
  have holl:olds.length=zs.length*i.size:=hfc.1
  refine Res.of_run (v:=.slice (some ⟨w.heap.size,0,none⟩) (zs.length+items.length) (grownCap w (zs.length+items.length) zs.length e)) (w':=w.drew.alloc (.cells (olds.toArray++news.toArray++Builtin.zeroCells z.cells (grownCap w (zs.length+items.length) zs.length e-(zs.length+items.length))) e)) ?_ ⟨_,_,hK,?_⟩
  ·unfold execOp
   simp only[ho,resolve,invoke,builtin,Sem.run_bind,Sem.run_pure,Result.andThen_ok,List.map_toArray,UaB,UaX,hxe,hrun]
  ·have:=Got.tree (l:=l) (b:=b) (S:=st.sto) (G:=G) (w:=w) (k:=i.size) (c:=grownCap w (zs.length+items.length) zs.length e) (es:=zs++items) (ty:=e)
    (vs:=olds.toArray++news.toArray++Builtin.zeroCells z.cells (grownCap w (zs.length+items.length) zs.length e-(zs.length+items.length)))
    (w':=w.drew.alloc (.cells (olds.toArray++news.toArray++Builtin.zeroCells z.cells (grownCap w (zs.length+items.length) zs.length e-(zs.length+items.length))) e))
    h.ok ⟨by simp,fun b hb=>heap_alloc_old w.drew _ b hb,rfl,rfl,rfl⟩ (heap_alloc_new w.drew _) (by rw[Uam];exact hge)
    (fun e he=>by
     rcases Uax.1 he with he | he
     ·exact hkz e he
     ·exact hki e he)
    (fun i0 e0 f t0 h1 h2=>by
     by_cases hil:i0<zs.length
     ·rw[Uaq hil] at h1
      obtain⟨x,hx,hr⟩:=hold i0 e0 f t0 h1 h2
      refine⟨x,?_,hr⟩
      have hjl:=(Uac.1 hx).1
      rw[Ubl,UaD (by simpa using hjl)]
      simpa using hx
     ·obtain⟨m,rfl⟩:∃ m,i0=zs.length+m:=⟨i0-zs.length,by omega⟩
      rw[Uao (by omega),show zs.length+m-zs.length=m from by omega] at h1
      obtain⟨x,hx,hr⟩:=hnew m e0 f t0 h1 h2
      refine⟨x,?_,hr⟩
      have hjl:=(Uac.1 hx).1
      rw[UaJ,Ua6,Ubl,Array.getElem?_append_right (by simp;omega),UaD (by simp;omega)]
      simp only[Ubk,holl,Ua5]
      simpa using hx)
   rw[Uam] at this
   exact this
 unfold YR at he
 split at he
 ·rename_i es hqy
  rw[hqy] at hy
  exact key (Rds.fc hy hk0 he.2.2.2.1) he
 ·rename_i es hqy
  rw[hqy] at hy
  exact key (Rds.fc hy.2 hk0 he.2.2.2.1) he
 ·rename_i id2 p2 off2 len2 c2 s2 hqy
  rw[hqy] at hy
  unfold JG at he
  split at he <;> try contradiction
  rename_i k2 es u2 hw2 ver2 hs2
  obtain⟨es',hg,hst,hl,he⟩:=he
  obtain⟨cs,fc,hcell⟩:=Zak h.ok hs2 hg hst hy hl he.2.2.2.1
  refine key ⟨cs,by rw[Qx hl];exact fc,fun i0 e0 f t0 h1 h2=>?_⟩ he
  obtain⟨x,hx,hr⟩:=hcell i0 e0 f t0 h1 h2
  refine⟨x,hx,?_⟩
  have:=he.2.1 e0 (Uae h1) t0 (Uae h2)
  cases t0 with
  | v y=>obtain⟨rfl,hs⟩:=hr;exact .v _ hs
  | sl z=>simp [isSc] at this
 ·contradiction
theorem Zfq{k:Nat}{x y:X}{d:Option Nat}{K:St->Prop}(he:ew C d st K (.a0 k x y)):ew C d st K (.ap k 0 x y):=by
 simp only[ew,Ju] at he ⊢
 split at he <;> try contradiction
 rename_i id len s hx
 split at he <;> try contradiction
 rename_i k' es u hw ver hs
 obtain⟨h1,h2,h3,h4⟩:=he
 have go:∀ items:Row,ScR items->Zw k items->len+items.length<=bigN->K { Zg st id (.ar k (es++items) u (max hw (len+items.length)) ver) with env:=ptd d (.hd id [] 0 (len+items.length) none (max hw (len+items.length))) st.env }->ScR items/\Jg d k x st.loc items true st K:=fun items g1 g2 g3 g4=>by
  refine⟨g1,?_⟩
  unfold Jg
  refine⟨g2,?_⟩
  simp only[hx,hs,Ubv]
  exact⟨h1,h2,h3,g3,g4⟩
 unfold YR at h4
 split at h4 <;> try contradiction
 ·rename_i zs hy
  simp only[hy,if_true]
  exact go zs h4.1 h4.2.1 h4.2.2.1 h4.2.2.2
 ·rename_i zs hy
  simp only[hy,if_true]
  exact go zs h4.1 h4.2.1 h4.2.2.1 h4.2.2.2
 ·rename_i id2 p2 off2 len2 c2 s2 hy
  simp only[hy,if_true]
  unfold JG at h4 ⊢
  split at h4 <;> try contradiction
  obtain⟨es',q1,q2,q3,q4⟩:=h4
  exact⟨es',q1,q2,q3,go _ q4.1 q4.2.1 q4.2.2.1 q4.2.2.2⟩
theorem Zlc(h:Sim F G st a w){k:Nat}{x y:X}{d:Option Nat}{K:St->Prop}(hd:d=oper.dst)(hdn:∀ y,d=some y->y<F.nt)(hc:Zj P (.a0 k x y) oper.op=true)(he:ew C d st K (.a0 k x y)):LOk P F a w oper K:=by
 have hc':Zj P (.ap k 0 x y) oper.op=true:=by simpa only[Zj] using hc
 refine UN (C:=C) h hd hdn hc' ?_
 exact Zfq he
theorem Zfr{k:Nat}{x y:X}{d:Option Nat}{K:St->Prop}(he:ew C d st K (.a1 k x y)):ew C d st K (.ap k 1 x y):=by
 simp only[ew,Ju] at he ⊢
 split at he <;> try contradiction
 rename_i id len s hx
 split at he <;> try contradiction
 rename_i k' es u hw ver hs
 obtain⟨h1,h2,h3,h4⟩:=he
 have go:∀ items:Row,Zw k items->len+items.length<=bigN->K { Zg st id (.ar k (es++items) false (max hw (len+items.length)) ver) with env:=ptd d (.hd id [] 0 (len+items.length) none (max hw (len+items.length))) st.env }->Jg d k x st.loc items false st K:=fun items g2 g3 g4=>by
  unfold Jg
  refine⟨g2,?_⟩
  simp only[hx,hs,UbK]
  exact⟨h1,h2,h3,g3,g4⟩
 unfold WD at h4
 split at h4 <;> try contradiction
 ·rename_i zs hy
  simp only[hy]
  rw[if_neg (by decide)]
  exact⟨trivial,go zs h4.1 h4.2.1 h4.2.2⟩
 ·rename_i zs hy
  simp only[hy]
  rw[if_neg (by decide)]
  exact⟨trivial,go zs h4.1 h4.2.1 h4.2.2⟩
theorem Zld(h:Sim F G st a w){k:Nat}{x y:X}{d:Option Nat}{K:St->Prop}(hd:d=oper.dst)(hdn:∀ y,d=some y->y<F.nt)(hc:Zj P (.a1 k x y) oper.op=true)(he:ew C d st K (.a1 k x y)):LOk P F a w oper K:=by
 have hc':Zj P (.ap k 1 x y) oper.op=true:=by simpa only[Zj] using hc
 refine UN (C:=C) h hd hdn hc' ?_
 exact Zfr he
structure Sm (s t:St):Prop where
 lvl:s.lvl=t.lvl
 env:s.env=t.env
 sto:s.sto=t.sto
 out:s.out=t.out
theorem Sim.sm{s t:St}{G:Gh}{a:Act}{w:World}(h:Sim F G t a w)(e:Sm s t):Sim F G s a w :=
 ⟨h.dfr,h.sz,fun x=>by rw[e.env,e.sto];exact h.env x,by rw[e.sto];exact h.ok,e.lvl.trans h.lvl,fun id ob ho=>by rw[e.lvl];rw[e.out] at ho;exact h.outl id ob ho,by rw[e.sto];exact h.fr,h.fix⟩
theorem Zle{st:St}{id:Zd}{ob:Ob}(h:st.sto id=some ob):(Zg st id ob).sto=st.sto/\(Zg st id ob).out=st.out:=by
 constructor
 ·rw[Ya]
  funext i
  unfold Ze
  split
  ·rename_i e;rw[e,h]
  ·rfl
 ·unfold Zg
  split
  ·rfl
  ·rename_i hne
   dsimp only
   funext i
   unfold Ze
   split
   ·rename_i e;rw[e,<-h,Yt hne]
   ·rfl
theorem Zlf(h:Sim F G st a w){k:Nat}{x y:X}{d:Option Nat}{K:St->Prop}(hd:d=oper.dst)(hdn:∀ y,d=some y->y<F.nt)(hc:Zj P (.a2 k x y) oper.op=true)(he:ew C d st K (.a2 k x y)):LOk P F a w oper K:=by
 have hc':Zj P (.ap k 1 x y) oper.op=true:=by simpa only[Zj] using hc
 have key:ew C d st (fun t=>∃ s,K s/\Sm s t) (.ap k 1 x y):=by
  simp only[ew,Ju] at he ⊢
  split at he <;> try contradiction
  rename_i id len s hx
  split at he <;> try contradiction
  rename_i k' es u hw ver hs
  obtain⟨h1,h2,h3,h4⟩:=he
  unfold XY at h4
  split at h4 <;> try contradiction
  rename_i id2 off2 len2 c2 s2 hy
  split at h4 <;> try contradiction
  rename_i k2 es2 hw2 ver2 hs2
  obtain⟨q1,q2,q3,q4,q5⟩:=h4
  obtain⟨e1,e2⟩:=Zle hs2
  simp only[hy,hs2]
  rw[if_neg (by decide),if_neg (by decide)]
  refine⟨trivial,trivial,q1,q2,?_⟩
  have hlv:(Zg st id2 (.ar k2 es2 false hw2 ver2)).lvl=st.lvl:=VM _ _ _
  have hev:(Zg st id2 (.ar k2 es2 false hw2 ver2)).env=st.env:=by unfold Zg;split <;> rfl
  unfold Jg
  refine⟨q3,?_⟩
  simp only[hev,hx,e1,hs,UbK]
  refine⟨h1,h2,h3,q4,_,q5,?_,rfl,?_,?_⟩
  ·show (Zg st id _).lvl=(Zg (Zg st id2 _) id _).lvl
   rw[VM,VM,VM]
  ·show (Zg st id _).sto=(Zg (Zg st id2 _) id _).sto
   rw[Ya,Ya,e1]
  ·show (Zg st id _).out=(Zg (Zg st id2 _) id _).out
   unfold Zg at e2 ⊢
   split <;> split at e2 <;> simp_all
 have:=UN (C:=C) h hd hdn hc' key
 refine this.mono ?_
 rintro v w' ⟨st',G',⟨s,hk,hm⟩,hs⟩
 exact⟨s,G',hk,hs.sm hm⟩
theorem Zfs{k:Nat}{x y:X}{d:Option Nat}{K:St->Prop}(he:QN d k x y st K):ew C d st K (.ap k 2 x y):=by
 unfold QN at he
 simp only[ew]
 split at he <;> try contradiction
 rename_i id2 hy
 simp only[hy]
 exact⟨trivial,he⟩
theorem Zlg(h:Sim F G st a w){k:Nat}{x y:X}{d:Option Nat}{K:St->Prop}(hd:d=oper.dst)(hdn:∀ y,d=some y->y<F.nt)(hc:Zj P (.a4 k x y) oper.op=true)(he:ew C d st K (.a4 k x y)):LOk P F a w oper K:=by
 have hc':Zj P (.ap k 2 x y) oper.op=true:=by simpa only[Zj] using hc
 refine UN (C:=C) h hd hdn hc' (Zfs ?_)
 simp only[ew] at he
 exact he.2
end
variable [Tabs]
theorem Zcm:∀(obs:List Ob) (b:Nat) (st:St),({ st with loc:=addO b obs st.loc }:St).sto=ZP st.sto st.lvl b obs
 | [],b,st=>rfl
 | o::r,b,st=>by
  have h1:=Zcm r (b+1) { st with loc:=ptO b o st.loc }
  have h2:=Ya st (st.lvl,b) o
  have h3:Zg st (st.lvl,b) o = { st with loc:=ptO b o st.loc }:=by unfold Zg;simp
  rw[h3] at h2
  simp only[addO,ZP]
  rw[<-h2]
  exact h1
section
variable {P:Program} {F:Fr} {G G':Gh} {st:St} {a:Act} {w w':World} {C:ZD} {oper:Oper}
theorem Sim.got(h:Sim F G st a w){d:Option Nat}{key:Nat}{x:IV}{obs:List Ob}{v:Value}(hg:Got G st.sto w st.lvl key x obs v w')(hd:∀ y,d=some y->y<F.nt) :
  ∃ G',Sim F G' { st with env:=ptd d x st.env,loc:=addO key obs st.loc } (a.put d v) w':=by
 obtain⟨G',h1,h2,h3⟩:=hg
 have hsto:({ st with env:=ptd d x st.env,loc:=addO key obs st.loc }:St).sto=ZP st.sto st.lvl key obs:=by rw[<-Zcm];rfl
 refine⟨G',by cases d <;> exact h.dfr,by cases d <;> simp [Act.put,h.sz],fun s=>?_,by rw[hsto];exact h1,h.lvl,h.outl,by rw[hsto];exact h.fr.trans h3 (by show F.lvl<=st.lvl+1;rw[h.lvl];omega),h.fix⟩
 rw[hsto,Act.put_get a d v s (by rw[h.sz];exact hd)]
 have h0:=h3.stab _ _ (h.men_lt (h.env s)) (h.env s)
 cases d with
 | none=>simpa [ptd] using h0
 | some d =>
  simp only[ptd,Uak]
  rw[X3]
  by_cases hs:s=d
  ·rw[if_pos hs,if_pos hs.symm];exact h2
  ·rw[if_neg hs,if_neg (fun e=>hs e.symm)];exact h0
end
variable [Tabs]
section
variable {P:Program} {F:Fr} {G G':Gh} {st:St} {a:Act} {w w':World} {oper:Oper} {K:JU} {b:Nat}
theorem Zft{l:List IV}{vs:List Value}{ts:List Tr}{q:Bool}(h:Zn G st.sto w l vs)(ht:totrs l=some (ts,q)):∀(j:Nat) (t:Tr),ts[j]? = some t->∃ x,vs[j]? = some x/\Rds w (Av G st.sto w) x t:=fun j t hj=>by
 obtain⟨h1,h2,_⟩:=Zb0 h ht
 have hlt:j<vs.length:=by rw[<-h1];exact(Uac.1 hj).1
 exact⟨vs[j],Uaf hlt,h2 j t _ hj (Uaf hlt)⟩
theorem Zlh(h:Sim F G st a w){C:ZD}{l:Nat}{x:X}(hc:Zj P (.bt x) oper.op=true)(he:ev C (xv st.env) st.sto K (.bt x)):EvOk P G st a w K l b oper:=by
 simp only[Zj] at hc
 split at hc <;> try contradiction
 rename_i t y ho
 have hx:=h.x hc
 simp only[ev] at he
 split at he <;> try contradiction
 rename_i c hcc
 split at he <;> try contradiction
 rename_i ts q hts
 obtain⟨hvs,_⟩:=Xj hx hcc
 have htt:=Zft hvs hts
 have e:=Ext.alloc w (.cells (a.eval y).cells t)
 refine Res.of_run (v:=.pointer (some ⟨w.heap.size,0,none⟩)) (w':=w.alloc (.cells (a.eval y).cells t)) (by simp [execOp,ho,Instr.box,newVar,newRow,newObj,Sem.run]) ⟨_,_,he,G,h.ok.ext e,?_,Frm.of_ext e⟩
 have hnew:=heap_alloc_new w (.cells (a.eval y).cells t)
 refine⟨w.heap.size,0,fun j=>((a.eval y).cells[j]?).getD undef,⟨?_,fun i ob hs ho=>?_⟩,rfl,fun j u hj=>?_⟩
 ·exact(Uaw.1 hnew).1
 ·have:=J9 (h.ok.obs i ob hs) ho;omega
 ·obtain⟨u1,h1,h2⟩:=htt j u hj
  have h1':(a.eval y).cells[j]? = some u1:=by simpa using h1
  rw[Uap,cell_of_row _ _ j (a.eval y).cells t (0,0) hnew,h1']
  have h3:=h2.mono (A':=Av G st.sto (w.alloc (.cells (a.eval y).cells t))) (w':=w.alloc (.cells (a.eval y).cells t)) (fun blk hb=>DP e blk hb) (fun blk hb=>e.heap blk hb.1)
  have hf:((a.eval y).cells[j]?).getD undef=u1:=by rw[h1'];rfl
  refine⟨by dsimp only;rw[hf],?_⟩
  dsimp only
  rw[hf]
  exact h3
theorem Zli(h:Sim F G st a w){C:ZD}{l n:Nat}{x:X}(hc:Zj P (.sa n x) oper.op=true)(he:ev C (xv st.env) st.sto K (.sa n x)):EvOk P G st a w K l b oper:=by
 simp only[Zj] at hc
 split at hc <;> try contradiction
 rename_i t y ho
 simp only[Uad] at hc
 have hx:=h.x hc.1
 obtain⟨_,hc⟩:=hc
 split at hc <;> try contradiction
 rename_i m e hu
 simp only[Uad,beq_iff_eq] at hc
 obtain⟨rfl,hsz⟩:=hc
 simp only[ev] at he
 split at he <;> try contradiction
 rename_i cells hq
 rw[hq] at hx
 obtain⟨b0,o,f,hb,hv,hcell⟩:=hx
 obtain⟨hle,he⟩:=he
 have hlen:((cells.take m).map fun c=>[c]).length=m:=by simp [hle]
 have hget:∀(i:Nat) (ee:List Tr) (j:Nat) (t:Tr),((cells.take m).map fun c=>[c])[i]? = some ee->ee[j]? = some t->j=0/\cells[i]? = some t:=fun i ee j t h1 h2=>by
  rw[Uan,Uat] at h1
  split at h1
  ·cases hci:cells[i]? with
   | none=>rw[hci] at h1;cases h1
   | some c =>
    rw[hci] at h1
    simp only[Option.map_some,Uak] at h1
    subst h1
    cases j with
    | zero=>simp at h2;exact⟨rfl,by rw[h2]⟩
    | succ j=>simp at h2
  ·cases h1
 have hr:=Rds.sl (w:=w) (A:=Av G st.sto w) b0 o m 1 ((cells.take m).map fun c=>[c]) (fun i j=>f i) hb (fun ee hee=>by obtain⟨c,_,rfl⟩:=UaP.1 hee;rfl) (by rw[hlen];exact Uag _)
  (fun i ee j t h1 h2=>by
   obtain⟨rfl,hci⟩:=hget i ee j t h1 h2
   rw[Nat.mul_one,Nat.add_zero]
   exact(hcell i t hci).1)
  (fun i ee j t h1 h2=>(hcell i t (hget i ee j t h1 h2).2).2)
 rw[hlen] at hr
 refine EvOk.pure h (v:=.slice (some ⟨b0,o,none⟩) m m) ?_ (x:=.cs _) ⟨⟨_,by rw[hlen]⟩,hr⟩ he
 have hb:=UD (P:=P) (w:=w) (isS:=false) (lo:=none) (hi:=none) (mx:=none) (len:=m) (cap:=m) (A:=0) (B:=m) (M:=m) (.inl ⟨rfl,rfl⟩) (.inl ⟨rfl,rfl,rfl⟩) (.inl ⟨rfl,rfl⟩) (Ubg _) (Uag _) (Uag _)
 simp only[execOp,ho,Instr.sliceAt,Sem.run_bind,run_underlying hu,Result.andThen_ok,hv,Instr.sureAddr,hb,YT hsz,Sem.run_pure,Option.map_none]
 congr 3
 simp only[Nat.zero_mul,Addr.add]
 simp
theorem Zfu:∀{es:Row} {l:List UInt8},YF es=some l->∃ ns:List Int,es=ns.map (fun n=>[Tr.v (.int .u8 n)])/\l=ns.map fun n=>UInt8.ofNat n.toNat
 | [],l,h=>by cases h;exact⟨[],rfl,rfl⟩
 | e::r,l,h=>by
  unfold YF at h
  split at h
  ·rename_i heq;cases heq
  ·rename_i n r' heq
   cases heq
   cases hr:YF r with
   | none=>rw[hr] at h;cases h
   | some l' =>
    rw[hr] at h
    cases h
    obtain⟨ns,h1,h2⟩:=Zfu hr
    exact⟨n::ns,by rw[h1];rfl,by rw[h2];rfl⟩
  ·cases h
theorem Zlj{A:Nat->Prop}{v:Value}{es:Row}{l:List UInt8}{src dst e:TypeId}(hs:P.underlying src=some (.slice e))(he:P.underlying e=some (.int .u8))(hd:P.underlying dst=some .string)(h:Rds w A v (.sl es))(hl:YF es=some l) :
  (convert src dst v).run P w = .ok (.string ⟨l.toArray⟩) w:=by
 obtain⟨ns,rfl,rfl⟩:=Zfu hl
 generalize ht:Tr.sl (ns.map fun n=>[Tr.v (.int .u8 n)])=t at h
 cases h with
 | v x h=>cases ht
 | nil ad c =>
  have h0:ns=[]:=by simpa using ht
  subst h0
  cases ad with
  | none=>exact run_convert_bytes_nil w src e hs he 0 c dst hd
  | some ad =>
   rw[run_convert_bytes_string w src dst e _ 0 c hs he hd,run_bytesToString w ad 0 c [] (by simpa using run_loadCells_list (P:=P) w ad [] (fun j v h=>by simp at h))]
   rfl
 | sl b0 o c k es f hA hk hlc hcell hr =>
  cases ht
  have hk1:ns=[]\/k=1:=by
   cases ns with
   | nil=>exact .inl rfl
   | cons n r=>right;have:=hk [Tr.v (.int .u8 n)] (by simp);simpa using this.symm
  have:=run_convert_bytes_arg (P:=P) w src e hs he b0 o (ns.map fun n=>[Tr.v (.int .u8 n)]).length c ns (by simp) (fun i hi=>by
   have hi:i<ns.length:=by simpa using hi
   rcases hk1 with h0 | rfl
   ·subst h0;simp at hi
   ·have h1:(ns.map fun n=>[Tr.v (.int .u8 n)])[i]? = some [Tr.v (.int .u8 ns[i])]:=by simp [hi]
    have h2:=hcell i _ 0 _ h1 rfl
    have h3:=hr i _ 0 _ h1 rfl
    rw[Nat.mul_one,Nat.add_zero] at h2
    rw[h2]
    generalize f i 0=fv at h3
    cases h3
    simp [List.getD,hi]) dst hd
  rw[this]
  rfl
theorem Zlk(h:Sim F G st a w){C:ZD}{l:Nat}{x:X}(hc:Zj P (.sb x) oper.op=true)(he:ev C (xv st.env) st.sto K (.sb x)):EvOk P G st a w K l b oper:=by
 simp only[Zj] at hc
 split at hc <;> try contradiction
 rename_i s d y ho
 simp only[Uad] at hc
 obtain⟨⟨hcx,hd⟩,hs⟩:=hc
 split at hd <;> try contradiction
 rename_i hd'
 split at hs <;> try contradiction
 rename_i e hel
 split at hs <;> try contradiction
 rename_i hu8
 have hx:=h.x hcx
 have Jb:∀{A:Nat->Prop} {es:Row} {bs:List UInt8},Rds w A (a.eval y) (.sl es)->YF es=some bs->ZC K (iS ⟨bs.toArray⟩)->EvOk P G st a w K l b oper:=fun hr hb hK=>by
  refine EvOk.pure h (v:=.string _) ?_ (VR.mk rfl) hK
  have:=Zlj (P:=P) (Vd hel) hu8 hd' hr hb
  simp only[execOp,ho,Sem.run_bind,this,Result.andThen_ok,Sem.run_pure]
 simp only[ev] at he
 split at he <;> try contradiction
 ·rename_i es hq
  rw[hq] at hx
  obtain⟨bs,h1,h2⟩:=he
  exact Jb hx h1 h2
 ·rename_i es hq
  rw[hq] at hx
  obtain⟨bs,h1,h2⟩:=he
  exact Jb hx.2 h1 h2
 ·rename_i id p off len cap s0 hq
  rw[hq] at hx
  unfold JG at he
  split at he <;> try contradiction
  rename_i k es u hw ver hs0
  obtain⟨es',hg,hst,hle,bs,h1,h2⟩:=he
  exact Jb (Xn (A:=fun _=>True) h.ok (fun _ _ _=>trivial) hs0 (fun _ _=>trivial) hx hst hg hle).1 h1 h2
theorem Q1{ρ:X->IV}{x:Option X}{n:Nat}{K K':Nat->Prop}(h:∀ a,K a->K' a)(hb:ZO ρ x n K):ZO ρ x n K':=by
 unfold ZO at *
 split at hb <;> try contradiction
 ·exact h _ hb
 ·split at hb <;> try contradiction
  exact⟨hb.1,h _ hb.2⟩
theorem Zll(h:Sim F G st a w):∀(o:O),Jr o=false->(∀ mk obs,K mk obs->Ys st.sto st.lvl b (obs st.lvl b).length)->Zj P o oper.op=true->ev (Sem P) (xv st.env) st.sto K o->EvOk P G st a w K st.lvl b oper
 | .mv x none,_,_,hc,he=>Zj5 h hc he
 | .mv x (some k),_,hf,hc,he=>Zky h hf hc he
 | .bx x,_,hf,hc,he=>Zkz h rfl hf hc he
 | .al z nz,_,hf,hc,he=>ZkC h hf hc he
 | .bd z ps nz,_,hf,hc,he=>ZkF h hf hc he
 | .bs k n z ps,_,hf,hc,he=>ZkE h hf hc he
 | .bw ..,hl,_,_,_=>by cases hl
 | .a3 k x y,_,_,hc,he=>Zlb h hc he
 | .bv k n z ps,_,hf,hc,he=>Zk6 h rfl hf hc he
 | .ld none p,_,_,hc,he=>ZbS h hc he
 | .ld (some m) p,_,_,hc,he=>ZbT h hc he
 | .st ..,hl,_,_,_=>by cases hl
 | .gv ..,hl,_,_,_=>by cases hl
 | .mk,hl,_,_,_=>by cases hl
 | .mu ..,hl,_,_,_=>by cases hl
 | .ml ..,hl,_,_,_=>by cases hl
 | .sk ..,hl,_,_,_=>by cases hl
 | .bi op w x y,_,_,hc,he=>Zkd h hc he
 | .qa neg ks x y,_,_,hc,he=>ZkL h hc he
 | .nt x,_,_,hc,he=>Zj6 h hc he
 | .ng x,_,_,hc,he=>Zj7 h hc he
 | .cv c x,_,_,hc,he=>Zkn h hc he fun e=>by subst e;exact Zla h hc he
 | .mf f cs,_,_,hc,he=>Zkg h hc he
 | .ms k z l,_,hf,hc,he=>ZkG h hf hc he
 | .sx k x lo hi mx,_,_,hc,he=>Zb1 h hc he
 | .ss x lo hi,_,_,hc,he=>ZkH h hc he
 | .fa off p,_,_,hc,he=>Zks h hc he
 | .fd off m x,_,_,hc,he=>Zku h hc he
 | .ia k x i,_,_,hc,he=>ZeR h hc he
 | .ja k n p i,_,_,hc,he=>Zkt h hc he
 | .ix x i,_,_,hc,he=>Zkm h hc he
 | .jx k n m x i,_,_,hc,he=>Zkv h hc he
 | .ln x,_,_,hc,he=>Zkj h hc he
 | .lg x,_,_,hc,he=>Zkk h hc he
 | .la n,_,_,hc,he=>Zkl h hc he
 | .ap ..,hl,_,_,_=>by cases hl
 | .nl ..,hl,_,_,_=>by cases hl
 | .cp ..,hl,_,_,_=>by cases hl
 | .sh ..,hl,_,_,_=>by cases hl
 | .cl ..,hl,_,_,_=>by cases hl
 | .cy ..,hl,_,_,_=>by cases hl
 | .c0 ..,hl,_,_,_=>by cases hl
 | .fz ..,hl,_,_,_=>by cases hl
 | .rk ..,hl,_,_,_=>by cases hl
 | .mz ..,hl,_,_,_=>by cases hl
 | .lz ..,hl,_,_,_=>by cases hl
 | .a1 ..,hl,_,_,_=>by cases hl
 | .a2 ..,hl,_,_,_=>by cases hl
 | .a4 ..,hl,_,_,_=>by cases hl
 | .xx,hl,_,_,_=>by cases hl
 | .s0 ..,hl,_,_,_=>by cases hl
 | .a0 ..,hl,_,_,_=>by cases hl
 | .az ..,hl,_,_,_=>by cases hl
 | .sy k x lo hi mx,_,_,hc,he=>Zb1 (C:=Sem P) h (by simpa only[Zj] using hc) (by
   simp only[ev] at he ⊢
   split at he <;> first | exact he.elim | (rename_i hq;simp only[hq];exact he))
 | .sw k x lo hi mx,_,_,hc,he=>Zb1 (C:=Sem P) h (by simpa only[Zj] using hc) (by
   simp only[ev] at he ⊢
   generalize xv st.env x=qx at he ⊢
   split at he
   ·exact he
   ·exact he
   ·exact Q1 (fun a h=>Q1 (fun b h=>⟨h.1,h.2.1,Q1 (fun m g=>⟨g.1,g.2.1,he.1,g.2.2⟩) h.2.2⟩) h) he.2
   ·exact he.elim)
 | .lt none p,_,_,hc,he=>ZbS (C:=Sem P) h (by simpa only[Zj] using hc) (by
   simp only[ev] at he ⊢
   split at he <;> first | exact he.elim | (rename_i hq;simp only[hq];exact he))
 | .lt (some m) p,_,_,hc,he=>ZbT (C:=Sem P) h (by simpa only[Zj] using hc) (by
   simp only[ev] at he ⊢
   split at he <;> first | exact he.elim | (rename_i hq;simp only[hq];exact he))
 | .lb none p _,_,_,hc,he=>ZbS (C:=Sem P) h (by simpa only[Zj] using hc) (by
   simp only[ev] at he ⊢
   replace he:=he.2
   split at he <;> first | exact he.elim | (rename_i hq;simp only[hq];exact he))
 | .lb (some m) p _,_,_,hc,he=>ZbT (C:=Sem P) h (by simpa only[Zj] using hc) (by
   simp only[ev] at he ⊢
   replace he:=he.2
   split at he <;> first | exact he.elim | (rename_i hq;simp only[hq];exact he))
 | .it k x i,_,_,hc,he=>ZeR (C:=Sem P) h (by simpa only[Zj] using hc) (by
   simp only[ev] at he ⊢
   generalize xv st.env i=qi at he ⊢
   generalize xv st.env x=qx at he ⊢
   split at he <;> first | exact he.elim | skip
   refine⟨he.1,?_⟩
   have he2:=he.2
   split at he2 <;> first | exact he2.elim | exact he2)
 | .mm mx x y,_,_,hc,he=>Zki h hc he
 | .ex i x,_,_,hc,he=>Zkf h hc he
 | .pk c x y,_,_,hc,he=>Zke h hc he
 | .ca .pure imp f xs,_,hf,hc,he=>ZkU h rfl hf hc he
 | .ca .see imp f xs,_,hf,hc,he=>ZkW h rfl hf hc he
 | .ca .same ..,hl,_,_,_=>by cases hl
 | .ca .keep ..,hl,_,_,_=>by cases hl
 | .ca .any ..,hl,_,_,_=>by cases hl
 | .nc x,_,_,hc,he=>Zkh h hc he
 | .bt x,_,_,hc,he=>Zlh h hc he
 | .sa n x,_,_,hc,he=>Zli h hc he
 | .sb x,_,_,hc,he=>Zlk h hc he
theorem UO{st:St}:∀{n b:Nat},freshK b st.loc n->Ys st.sto st.lvl b n
 | 0,_,_,j,hj=>by omega
 | n+1,b,h,j,hj=>by
  cases j with
  | zero=>rw[Nat.add_zero,V7 rfl];exact h.1
  | succ j =>
   have:=UO h.2 j (by omega)
   rwa [show b+1+j=b+(j+1) from by omega] at this
theorem Zlm{S:Zc}{x:IV}{v:Value}(h:VR G S w x v):VR G S w (J2 x) v:=by
 unfold J2
 split
 ·exact h.2
 ·exact h
theorem Zcn{S:Zc}:∀{l:List IV} {vs:List Value},Zn G S w l vs->Zn G S w (l.map J2) vs
 | [],_,h=>h
 | x::r,_,h=>by
  obtain⟨v,vr,rfl,h1,h2⟩:=h
  exact⟨v,vr,rfl,Zlm h1,Zcn h2⟩
theorem Zln(h:Sim F G st a w){imp:Bool}{f:X}{xs:List X}{d:Option Nat}{Kw:St->Prop}(hd:d=oper.dst)(hdn:∀ y,d=some y->y<F.nt)(hc:Zj P (.ca .same imp f xs) oper.op=true)
  (he:ew (Sem P) d st Kw (.ca .same imp f xs)):LOk P F a w oper Kw:=by
 subst hd
 simp only[Zj] at hc
 split at hc <;> try contradiction
 rename_i g args at1 ho
 simp only[Uad] at hc
 have hg:=h.x hc.1
 have hargs:=h.xs hc.2
 simp only[ew] at he
 split at he <;> try contradiction
 rename_i fid caps hq
 obtain⟨r,⟨hr,⟨fn,hf,hb,hn⟩,hcall⟩,hfr,hk⟩:=he
 rw[hq] at hg
 simp only[VR] at hg
 obtain⟨cvs,hg,hcv⟩:=hg
 have hcl:=h.clean
 have hrun:=WO (P:=P) (w:=w) (caps:=cvs) ho hg hf hb hn
 have hc:=hcall hcl G w (args.toList.map a.eval++cvs) h.ok (Uw (Zcn hargs) hcv) (h.fr.fix h.fix)
 refine Res.of_enter hrun ?_
 have harr:(args.map a.eval++cvs.toArray)=(args.toList.map a.eval++cvs).toArray:=by cases args;simp
 rw[harr]
 refine hc.mono ?_
 rintro e w' ⟨v,G1,rfl,h1,h2,_,h3⟩
 have hgot:=UH (l:=st.lvl) (b:=keyOf oper.dst) (imp:=imp) hr hcl h1 h2 h3 (UO hfr)
 obtain⟨G',hG'⟩:=h.got hgot hdn
 exact⟨v,rfl,_,G',hk,hG'⟩
theorem Zlo(h:Sim F G st a w){imp:Bool}{f:X}{xs:List X}{d:Option Nat}{Kw:St->Prop}(hd:d=oper.dst)(hdn:∀ y,d=some y->y<F.nt)(hc:Zj P (.ca .keep imp f xs) oper.op=true)
  (he:ew (Sem P) d st Kw (.ca .keep imp f xs)):LOk P F a w oper Kw:=by
 subst hd
 simp only[Zj] at hc
 split at hc <;> try contradiction
 rename_i g args at1 ho
 simp only[Uad] at hc
 have hg:=h.x hc.1
 have hargs:=h.xs hc.2
 simp only[ew] at he
 split at he <;> try contradiction
 rename_i fid caps hq
 obtain⟨r,⟨hr,⟨fn,hf,hb,hn⟩,hcall⟩,hfr,hk⟩:=he
 rw[hq] at hg
 simp only[VR] at hg
 obtain⟨cvs,hg,hcv⟩:=hg
 have hcl:=h.clean
 have hrun:=WO (P:=P) (w:=w) (caps:=cvs) ho hg hf hb hn
 have hc:=hcall hcl G w (args.toList.map a.eval++cvs) h.ok (Uw hargs hcv) (h.fr.fix h.fix)
 refine Res.of_enter hrun ?_
 have harr:(args.map a.eval++cvs.toArray)=(args.toList.map a.eval++cvs).toArray:=by cases args;simp
 rw[harr]
 refine hc.mono ?_
 rintro e w' ⟨v,G1,rfl,h1,h2,_,h3⟩
 have hgot:=UH (l:=st.lvl) (b:=keyOf oper.dst) (imp:=imp) hr hcl h1 h2 h3 (UO hfr)
 obtain⟨G',hG'⟩:=h.got hgot hdn
 exact⟨v,rfl,_,G',hk,hG'⟩
end
end Go.Fd

namespace Go.Fd
variable [Tabs]
section
variable {P:Program} {F:Fr} {G G':Gh} {st:St} {a:Act} {w w':World} {oper:Oper} {K:JU} {b:Nat}
theorem Zlp(h:Sim F G st a w){neg:Bool}{x:X}{d:Option Nat}{Kw:St->Prop}{C:ZD}(hd:d=oper.dst)(hdn:∀ y,d=some y->y<F.nt)(hc:Zj P (.nl neg x) oper.op=true)
  (he:ew C d st Kw (.nl neg x)):LOk P F a w oper Kw:=by
 subst hd
 simp only[Zj] at hc
 split at hc <;> try contradiction
 rename_i op t x' y' g ho
 simp only[Uad,decide_eq_true_eq] at hc
 obtain⟨⟨⟨hop,hx⟩,ht⟩,hy⟩:=hc
 split at ht <;> try contradiction
 rename_i e ht'
 split at hy <;> try contradiction
 rename_i n c
 have hx:=h.x hx
 have Jb:∀ r:Bool,(execOp a.eval oper).run P w = .ok (.value (.bool r)) w->Kw { st with env:=ptd oper.dst (iB r) st.env }->LOk P F a w oper Kw:=fun r hr hk=>by
  obtain⟨G',hs⟩:=h.got (key:=0) (Got.pure (l:=st.lvl) h.ok (show VR G st.sto w (iB r) (.bool r) from .v _ rfl)) hdn
  exact Res.of_run hr ⟨_,G',hk,hs⟩
 have run:∀(ad:Option Addr) (m k:Nat),a.eval x' = .slice ad m k->(execOp a.eval oper).run P w = .ok (.value (.bool (if neg then !ad.isNone else ad.isNone))) w:=fun ad m k hv=>by
  have hg:(eqGuard op t x' (.const (.slice none n c)) (.slice ad m k) (.slice none n c)).run P w = .ok () w:=by
   unfold eqGuard
   split <;> rfl
  have hce:a.eval (.const (.slice none n c)) = .slice none n c:=rfl
  subst hop
  cases neg <;> simp only[UaZ,if_false,if_true] at hg ho ⊢
  ·have:=Lib.run_equalIn_slice_nil (P:=P) w 9999 t e ad m k n c ht'
   simp only[execOp,ho,hv,hce]
   simp [hg,binOp,Op.equal,Op.maxDepth,this]
  ·have:=Lib.run_equalIn_slice_nil (P:=P) w 9999 t e ad m k n c ht'
   simp only[execOp,ho,hv,hce]
   simp [hg,binOp,Op.equal,Op.maxDepth,this]
 have key:∀{A:Nat->Prop} {es:Row},Rds w A (a.eval x') (.sl es)->Kw { st with env:=ptd oper.dst (iB neg) st.env }->(es=[]->Kw { st with env:=ptd oper.dst (iB !neg) st.env })->LOk P F a w oper Kw:=fun {A es} hr h1 h2=>by
  generalize hv:a.eval x'=v at hr
  generalize htt:Tr.sl es=tt at hr
  cases hr with
  | v _ hh=>cases htt
  | nil ad k =>
   cases htt
   have hr:=run ad 0 k hv
   cases ad with
   | none=>exact Jb _ (by cases neg <;> exact hr) (h2 rfl)
   | some _=>exact Jb _ (by cases neg <;> exact hr) h1
  | sl b0 o k1 k es f hA hk hlc hcell hrr =>
   have hr:=run _ _ _ hv
   exact Jb _ (by cases neg <;> exact hr) h1
 simp only[ew] at he
 split at he <;> try contradiction
 ·rename_i es hq
  rw[hq] at hx
  exact key hx he.1 he.2
 ·rename_i es hq
  rw[hq] at hx
  exact key hx.2 he.1 he.2
theorem Zfv{es es2:Row}{m:Nat}{p:Zf}(hp:p≠[])(h:getp (es.take m) p=some es2):getp es p=some es2:=by
 cases p with
 | nil=>exact absurd rfl hp
 | cons cd q =>
  obtain⟨c,d⟩:=cd
  obtain⟨e,x,g1,g2,g3⟩:=Y2 h
  rw[Uat] at g1
  split at g1
  ·exact V9 g1 g2 g3
  ·cases g1
theorem Zfw(h:Sim F G st a w){id:Zd}{k:Nat}{es es':Row}{u:Bool}{hw ver:Nat}(hs:st.sto id=some (.ar k es u hw ver))(hle:es'.length<=hw)(hun:Zw k es')
  (hsub:∀ p es2,p≠[]->getp es' p=some es2->getp es p=some es2) (size:w.heap.size<=w'.heap.size) (heap:∀ blk,(∀ c,G id []≠some (blk,c))->w'.heap[blk]? = w.heap[blk]?)
  (hos:w'.os=w.os) (htape:w'.tape=w.tape) (hout:w'.output=w.output)
  (hrow:∀ A:Nat->Prop,(∀ blk,Av G st.sto w blk->A blk)->(∀ blk,Av G st.sto w blk->w'.heap[blk]? = w.heap[blk]?)->Z3 G w' A id [] k u es') :
  Stp F a G st (Zg st id (.ar k es' u hw (ver+1))) w w' G:=by
 have hsome:∀ q,(getp es' q).isSome=true->(getp es q).isSome=true:=fun q hq=>by
  cases q with
  | nil=>rfl
  | cons c r =>
   obtain⟨es2,h2⟩:=Uai.1 hq
   rw[hsub _ es2 (by simp) h2];rfl
 obtain⟨o1,o2,o3,o4,o5⟩:=h.ok.obs _ _ hs
 have ht:=h.turn (Kl.refl st) (id:=id) (ob':=.ar k es' u hw (ver+1)) (d:=none) (x:=.un) (v:=undef) (G':=G) (w':=w') (fun h=>h) (.inr (by rw[hs];rfl)) (fun _ _=>rfl) size
  (fun blk hb hn=>heap blk fun c hg=>hn _ hs ⟨[],c,.inl rfl,rfl,hg⟩)
  (fun blk ho=>by
   obtain⟨q,cq,hq,hqs,hgq⟩:=ho
   exact .inl ⟨id,_,.inl rfl,hs,q,cq,hq,hsome q hqs,hgq⟩)
  (fun ob ho=>by
   rw[hs] at ho;cases ho
   refine⟨rfl,Uag _,Nat.le_succ _,fun q s2 hbd hq=>?_⟩
   cases q with
   | nil=>exact⟨hq,fun es1 he=>⟨rfl,es',rfl,fun k' hkk _=>by rw[hkk rfl];exact hun⟩⟩
   | cons c r =>
    have h1:s2<=ver:=hbd
    have h2:u=true/\s2=ver+1:=hq
    omega)
  hos htape hout (fun t=>⟨hle,hun,o3,fun p es2 hp he=>by
   cases p with
   | nil =>
    simp only[getp,Uak] at he
    subst he
    exact hrow _ t.av t.same
   | cons c r =>
    have hg0:=hsub _ es2 (by simp) he
    exact ZbM rfl t.av t.same (fun b1 c1 hg=>heap b1 fun c2 hg2=>by
     have:=o5 _ [] b1 c1 c2 hp (.inl rfl) (by rw[hg0];rfl) rfl hg hg2
     cases this) (o4 _ es2 hp hg0),fun p p' b1 c1 c2 hp hp' g1 g2=>o5 p p' b1 c1 c2 hp hp' (hsome p g1) (hsome p' g2)⟩) (fun _ he=>by cases he) (fun _ he=>by cases he) (fun _=>trivial)
 rw[Qa] at ht
 exact Stp.of ht.1 (by rw[Ya];exact ht.2) fun j hj=>⟨fun h=>h,by rw[show j=id from hj,hs];rfl⟩
theorem Zco(h:Sim F G st a w){id:Zd}{k:Nat}{es:Row}{u:Bool}{hw ver:Nat}(hs:st.sto id=some (.ar k es u hw ver))(m:Nat) :
  Stp F a G st (Zg st id (.ar k (es.take m) u hw (ver+1))) w w G:=by
 obtain⟨o1,o2,o3,o4,o5⟩:=h.ok.obs _ _ hs
 refine Zfw h hs (by rw[Uas];omega) (fun e he=>o2 e (UaQ he)) (fun p es2 hp he=>Zfv hp he) (Uag _) (fun _ _=>rfl) rfl rfl rfl fun A hA hh=>?_
 have hr:=o4 [] es (.inl rfl) rfl
 unfold Z3 at *
 cases hg:G id [] with
 | none =>
  rw[hg] at hr
  simp only at hr ⊢
  rw[hr];exact List.take_nil
 | some bc =>
  obtain⟨b1,c1⟩:=bc
  rw[hg] at hr
  simp only at hr ⊢
  obtain⟨k',vs,ty,h1,h2,h3,h4,h5,h6⟩:=hr
  refine⟨k',vs,ty,h1,fun e he=>h2 e (UaQ he),h3,h4,by rw[Uas];omega,fun i e f t hi hf=>?_⟩
  rw[Uat] at hi
  split at hi
  ·obtain⟨x,hx,hc⟩:=h6 i e f t hi hf
   exact⟨x,hx,WF rfl hA hh hc⟩
  ·cases hi
theorem Zfx(h:Sim F G st a w){id:Zd}{k:Nat}{es es':Row}{u:Bool}{hw ver:Nat}(hs:st.sto id=some (.ar k es u hw ver)){b1 c1:Nat}{vs vs':Array Value}{ty:TypeId}(hG:G id []=some (b1,c1))(hh:w.heap[b1]? = some (.cells vs ty (0,0)))
  (hsz:vs'.size=vs.size) (hle:es'.length<=hw) (hun:Zw k es') (hsub:∀ p es2,p≠[]->getp es' p=some es2->getp es p=some es2)
  (hrow:∀(i:Nat) (e:List Tr) (f:Nat) (t:Tr),es'[i]? = some e->e[f]? = some t->(∃ y,t = .v y/\Jx y=true/\vs'[i*k+f]? = some y)\/(vs'[i*k+f]? = vs[i*k+f]?/\∃ e0,es[i]? = some e0/\e0[f]? = some t)) :
  Stp F a G st (Zg st id (.ar k es' u hw (ver+1))) w (w.setRow b1 vs') G:=by
 obtain⟨o1,o2,o3,o4,o5⟩:=h.ok.obs _ _ hs
 refine Zfw h hs hle hun hsub (by simp) (fun blk hb=>setRow_other w b1 blk _ (fun e=>hb c1 (by rw[e];exact hG))) rfl rfl rfl fun A hA hhA=>?_
 have hr:=o4 [] es (.inl rfl) rfl
 unfold Z3 at *
 rw[hG] at hr ⊢
 rw[hG] at o3
 simp only[YA] at o3
 obtain⟨k',vs0,ty0,h1,h2,h3,h4,h5,h6⟩:=hr
 rw[hh] at h3;cases h3
 have hkk:=h1 rfl
 subst hkk
 refine⟨k',vs',ty,fun _=>rfl,hun,setRow_heap w b1 vs _ ty (0,0) hh,by rw[hsz];exact h4,by omega,fun i e f t hi hf=>?_⟩
 rcases hrow i e f t hi hf with ⟨y,rfl,hy,hv⟩ | ⟨hv,e0,he0,hf0⟩
 ·exact⟨y,hv,rfl,hy⟩
 ·obtain⟨x,hx,hc⟩:=h6 i e0 f t he0 hf0
  exact⟨x,by rw[hv];exact hx,WF rfl hA hhA hc⟩
theorem Stp.put{st':St}(t:Stp F a G st st' w w' G'){d:Option Nat}{x:IV}{v:Value}(hd:∀ y,d=some y->y<F.nt)(hx:VR G' st'.sto w' x v)(he:st'.env=st.env):Sim F G' { st' with env:=ptd d x st.env } (a.put d v) w':=by
 have:=t.sim.put (d:=d) hx hd
 rw[he] at this
 exact this
theorem Zlq(h:Sim F G st a w){x:X}{d:Option Nat}{Kw:St->Prop}{C:ZD}(hd:d=oper.dst)(hdn:∀ y,d=some y->y<F.nt)(hc:Zj P (.cp x) oper.op=true)
  (he:ew C d st Kw (.cp x)):LOk P F a w oper Kw:=by
 subst hd
 simp only[Zj] at hc
 split at hc <;> try contradiction
 rename_i args at1 ho
 split at hc <;> try contradiction
 rename_i y t hy ht
 obtain⟨args⟩:=args
 simp only at hy
 subst hy
 simp only[Uad,Uai] at hc
 obtain⟨hx,e,hel⟩:=hc
 have hu:=Vd hel
 have hx:=h.x hx
 simp only[ew] at he
 split at he <;> try contradiction
 rename_i es hq
 rw[hq] at hx
 obtain⟨⟨v,hv⟩,_⟩:=hx
 have hr:(execOp a.eval oper).run P w = .ok (.value (.int .i64 es.length)) w:=by
  simp [execOp,ho,resolve,invoke,builtin,Builtin.cap_,ht,run_underlying hu,hv,goInt]
 obtain⟨G',hs⟩:=h.got (key:=0) (Got.pure (l:=st.lvl) h.ok (show VR G st.sto w (iI es.length) (.int .i64 es.length) from .v _ rfl)) hdn
 exact Res.of_run hr ⟨_,G',he,hs⟩
theorem Zlr(h:Sim F G st a w){k:Nat}{x hi:X}{d:Option Nat}{Kw:St->Prop}{C:ZD}(hd:d=oper.dst)(hdn:∀ y,d=some y->y<F.nt)(hc:Zj P (.sh k x hi) oper.op=true)
  (he:ew C d st Kw (.sh k x hi)):LOk P F a w oper Kw:=by
 subst hd
 simp only[Zj] at hc
 split at hc <;> try contradiction
 rename_i t y h0 ho
 simp only[Uad] at hc
 obtain⟨⟨hx,c2⟩,hc⟩:=hc
 split at hc <;> try contradiction
 rename_i e0 hel
 have hu:=Vd hel
 have hsz:Js P e0=some k:=by simpa using hc
 have hx:=h.x hx
 have hh:=h.x c2
 simp only[ew] at he
 split at he <;> try contradiction
 ·rename_i es hq
  split at he <;> try contradiction
  rename_i kk m hm
  obtain⟨rfl,hun,hK⟩:=he
  rw[hq] at hx
  rw[hm] at hh
  obtain⟨hh,_⟩:=hh.val
  obtain⟨⟨ad,hv⟩,hx⟩:=hx
  rw[hv] at hx
  have hb:=UD (P:=P) (w:=w) (isS:=true) (lo:=none) (hi:=some (a.eval h0)) (mx:=none) (len:=es.length) (cap:=es.length) (A:=0) (B:=es.length) (M:=es.length) (.inl ⟨rfl,rfl⟩) (.inr ⟨kk,by rw[hh]⟩) (.inl ⟨rfl,rfl⟩) (Ubg _) (Uag _) (Uag _)
  have hr:(execOp a.eval oper).run P w = .ok (.value (.slice (if es.length=0 then ad else ad.map (·.add (0*k))) (es.length-0) (es.length-0))) w:=by
   simp only[execOp,ho,Instr.sliceAt,Sem.run_bind,run_underlying hu,Result.andThen_ok,Instr.slice,hv,Option.map_none,Option.map_some,hb,YT hsz,Sem.run_pure]
  have hcut:=Rds.cut (k:=k) hx (Ubg _) (Uag _) (Uag es.length) (.inl rfl)
  have he0:cut es 0 (es.length-0)=es:=by simp [cut]
  rw[he0] at hcut
  obtain⟨G',hs⟩:=h.got (key:=0) (Got.pure (l:=st.lvl) h.ok (show VR G st.sto w (.cs es) (.slice (if es.length=0 then ad else ad.map (·.add (0*k))) (es.length-0) (es.length-0)) from ⟨⟨_,rfl⟩,hcut⟩)) hdn
  exact Res.of_run hr ⟨_,G',hK,hs⟩
 rename_i id p off len cap s hq
 split at he <;> try contradiction
 rename_i kk m hm
 split at he <;> try contradiction
 rename_i k2 es u hw ver hs
 obtain⟨rfl,rfl,rfl,rfl,rfl,hm0,hml,hle,hK⟩:=he
 rw[hq] at hx
 rw[hm] at hh
 obtain⟨hh,_⟩:=hh.val
 obtain⟨_,k3,es3,u3,hw3,ver3,hs3,_,hrel⟩:=hx
 rw[hs] at hs3;cases hs3
 obtain⟨es4,k',ad,c,hg4,hkk,hun,hv,hlc,_,hcap,hor⟩:=hrel rfl
 simp only[getp,Uak] at hg4
 subst hg4
 have hkk:=hkk rfl
 subst hkk
 obtain⟨B,rfl⟩:=Int.eq_ofNat_of_zero_le hm0
 rw[Int.toNat_natCast] at hml hK
 have hb:=UD (P:=P) (w:=w) (isS:=true) (lo:=none) (hi:=some (a.eval h0)) (mx:=none) (len:=len) (cap:=c) (A:=0) (B:=B) (M:=c) (.inl ⟨rfl,rfl⟩) (.inr ⟨kk,by rw[hh]⟩) (.inl ⟨rfl,rfl⟩) (Ubg _) (by omega) (Uag _)
 have hr:(execOp a.eval oper).run P w = .ok (.value (.slice (if c=0 then ad else ad.map (·.add (0*k'))) (B-0) (c-0))) w:=by
  simp only[execOp,ho,Instr.sliceAt,Sem.run_bind,run_underlying hu,Result.andThen_ok,Instr.slice,hv,Option.map_none,Option.map_some,hb,YT hsz,Sem.run_pure]
 have hst:=Zco h hs B
 refine Res.of_run hr ⟨_,G,hK,hst.put hdn ?_ (Xp _ _ _)⟩
 rw[Ya]
 refine⟨⟨_,_,rfl,by omega⟩,k',es.take B,u,s,ver+1,by unfold Ze;rw[if_pos rfl],Uag _,fun _=>⟨es.take B,k',_,_,rfl,fun _=>rfl,fun e he=>hun e (UaQ he),rfl,by omega,fun m hm=>by simp at hm,fun h1 h2=>by have:=hcap h1 h2;omega,?_⟩⟩
 rcases hor with h0 | ⟨h0,_⟩ | ⟨b1,c0,hG,rfl,hcc⟩
 ·exact .inl (by omega)
 ·exact absurd rfl h0
 ·by_cases hc0:c=0
  ·exact .inl (by omega)
  ·exact .inr (.inr ⟨b1,c0,hG,by simp [hc0,Yk],by omega⟩)
theorem Zls{z:Value}{zl:List Value}(h1:z.cells.toList=zl)(h2:∀ x∈zl,Jx x=true\/x = .slice none 0 0)(n:Nat):∀ v∈(Builtin.zeroCells z.cells n).toList,v.oneCell'=true:=fun v hv=>by
 simp only[Builtin.zeroCells,Ubs,UaP] at hv
 obtain⟨i,hi,rfl⟩:=hv
 have hi2:i<n*z.cells.size:=by simpa using hi
 have hz:0<z.cells.size:=by
  rcases Nat.eq_zero_or_pos z.cells.size with h | h
  ·rw[h] at hi2;simp at hi2
  ·exact h
 have hlt:=Nat.mod_lt i hz
 have:z.cells[i % z.cells.size]! = z.cells[i % z.cells.size]:=by simp [hlt]
 rw[this]
 have hm:z.cells[i % z.cells.size]∈zl:=by rw[<-h1];simp
 rcases h2 _ hm with h | h
 ·generalize z.cells[i % z.cells.size]=y at h
  cases y <;> first | rfl | simp [Jx] at h
 ·rw[h];rfl
theorem Zlt(h:Sim F G st a w){x:X}{d:Option Nat}{Kw:St->Prop}{C:ZD}(hd:d=oper.dst)(hdn:∀ y,d=some y->y<F.nt)(hc:Zj P (.fz x) oper.op=true)
  (he:ew C d st Kw (.fz x)):LOk P F a w oper Kw:=by
 subst hd
 simp only[Zj] at hc
 split at hc <;> try contradiction
 all_goals
  rename_i y ho
  have hx:=h.x hc
  simp only[ew] at he
  split at he <;> try contradiction
  rename_i id len s hq
  obtain⟨hl,he⟩:=he
  split at he <;> try contradiction
  rename_i k2 zs u hw ver hs
  obtain⟨rfl,rfl,hK⟩:=he
  rw[hq] at hx
  obtain⟨h3,h4⟩:=UK h hs hl hx
  have hr:(execOp a.eval oper).run P w = .ok (.value (a.eval y)) w:=by simp [execOp,ho]
  exact Res.of_run hr ⟨_,G,hK,h3.sim.put (show VR G (Zp id st).sto w (.tr (.sl zs)) (a.eval y) from h4) hdn⟩
theorem Zfy(h:Sim F G st a w){id0:Zd}(hl:id0.1=st.lvl):Stp F a G st (Y0 id0 st) w w G/\(Y0 id0 st).sto id0=none/\(Y0 id0 st).lvl=st.lvl /\
  ∀ i,i≠id0->∀(k:Nat) (es:Row) (u:Bool) (hw ver:Nat),st.sto i=some (.ar k es u hw ver)->(Y0 id0 st).sto i=some (.ar k es u hw ver):=by
 unfold Y0
 split
 ·rename_i hs
  exact⟨Stp.refl h,hs,rfl,fun _ _ _ _ _ _ _ h=>h⟩
 ·rename_i ob hs
  have kl:=(Kl.refl st).step (fun j cells hj=>h.ok.low j cells hj) h.outl hl (by rw[hs];rfl)
  obtain⟨h1,h2⟩:=h.kl kl
  refine⟨Stp.of h1 h2 (fun _ hf=>hf.elim),by rw[QX hl hl,if_pos rfl],rfl,fun i hi k es u hw ver hsi=>?_⟩
  by_cases hil:i.1=st.lvl
  ·rw[QX hil hl,if_neg hi,hsi];rfl
  ·rw[UJ hil,hsi]
theorem Sim.ren(h:Sim F G st a w){id id0:Zd}{k:Nat}{zs:Row}{u:Bool}{hw ver:Nat}(hl:id.1=st.lvl)(hl0:id0.1=st.lvl)(hne:id0≠id)(hs:st.sto id=some (.ar k zs u hw ver))(h0:st.sto id0=none)
  {d:Option Nat} {v:Value} (hd:∀ y,d=some y->y<F.nt) (hv:YH G st.sto id [] 0 zs.length none hw v) :
  ∃ G',Sim F G' { Zg (Zp id st) id0 (.ar k zs u hw ver) with env:=ptd d (.hd id0 [] 0 zs.length none hw) (Zp id st).env } (a.put d v) w:=by
 have k1:=(Kl.refl st).step (fun j cells hj=>h.ok.low j cells hj) h.outl hl (by rw[hs];rfl)
 obtain⟨G',hG⟩:∃ G':Gh,G'=fun i=>if i=id0 then G id else G i:=⟨_,rfl⟩
 have g0:G' id0=G id:=by rw[hG];exact if_pos rfl
 have g1:∀ i,i≠id0->G' i=G i:=fun i hi=>by rw[hG];exact if_neg hi
 have hob:=h.ok.obs _ _ hs
 refine⟨G',(h.turn k1 (id:=id0) (ob':=.ar k zs u hw ver) (G':=G') (w':=w) (d:=d) (x:=.hd id0 [] 0 zs.length none hw) (v:=v) (fun hf=>hf.elim (fun q=>q) hne) (.inl hl0) g1 (Uag _) (fun _ _ _=>rfl)
  (fun b hb=>.inl ⟨id,_,.inr (.inr rfl),hs,?_⟩) (fun ob hob=>by rw[h0] at hob;cases hob) rfl rfl rfl (fun t=>?_) (fun _ hc=>by cases hc) hd (fun t=>?_)).1⟩
 ·obtain⟨p,c,q1,q2,q3⟩:=hb
  exact⟨p,c,q1,q2,by rw[g0] at q3;exact q3⟩
 ·obtain⟨o1,o2,o3,o4,o5⟩:=hob
  refine⟨o1,o2,by rw[g0];exact o3,fun p es' hp hg=>D8 g0 (fun b hb=>t.av b hb) (o4 p es' hp hg),fun p p' b c c' => ?_⟩
  rw[g0]
  exact o5 p p' b c c'
 ·obtain⟨⟨a0,c0,hv0,hle⟩,k3,es3,u3,hw3,ver3,hs3,hb,hrel⟩:=hv
  rw[hs] at hs3;cases hs3
  refine⟨⟨a0,c0,hv0,hle⟩,k,zs,u,hw,ver,by unfold Ze;rw[if_pos rfl],hb,fun hst=>?_⟩
  obtain⟨es',k',a',c',q1,q2,q3,q4,q5,q6,q7,q8⟩:=hrel hst
  exact⟨es',k',a',c',q1,q2,q3,q4,q5,q6,by rw[g0];exact q7,by rw[g0];exact q8⟩
theorem Zlu(h:Sim F G st a w){x:X}{d:Option Nat}{Kw:St->Prop}{C:ZD}(hd:d=oper.dst)(hdn:∀ y,d=some y->y<F.nt)(hc:Zj P (.rk x) oper.op=true)
  (he:ew C d st Kw (.rk x)):LOk P F a w oper Kw:=by
 subst hd
 simp only[Zj] at hc
 split at hc <;> try contradiction
 all_goals
  rename_i y ho
  have hx:=h.x hc
  simp only[ew] at he
  split at he <;> try contradiction
  rename_i id len s hq
  obtain⟨hl,hne,he⟩:=he
  split at he <;> try contradiction
  rename_i k2 zs u hw ver hs
  obtain⟨rfl,rfl,hK⟩:=he
  rw[hq] at hx
  obtain⟨s1,s2,s3,s4⟩:=Zfy h (id0:=(st.lvl,keyOf oper.dst)) rfl
  have hs':=s4 id (Ne.symm hne) _ _ _ _ _ hs
  have hx':=s1.vr (.hd id [] 0 zs.length none s) (a.eval y) (show ((Y0 (st.lvl,keyOf oper.dst) st).sto id).isSome=true by rw[hs'];rfl) hx
  have hr:(execOp a.eval oper).run P w = .ok (.value (a.eval y)) w:=by simp [execOp,ho]
  obtain⟨G',hG'⟩:=s1.sim.ren (id0:=(st.lvl,keyOf oper.dst)) (hl.trans s3.symm) s3.symm hne hs' s2 hdn hx'
  exact Res.of_run hr ⟨_,G',hK,hG'⟩
theorem Zlv(h:Sim F G st a w){id:Zd}{cells:List IV}{ts:List Tr}{q:Bool}{v:Value}(hs:st.sto id=some (.bx cells))(hl:id.1=st.lvl)(ht:totrs cells=some (ts,q))(hv:Uu G st.sto id 0 v) :
  Stp F a G st (Zp id st) w w G/\Xi w (Av G (Zp id st).sto w) ts v:=by
 have kl:=(Kl.refl st).step (fun j cells hj=>h.ok.low j cells hj) h.outl hl (by rw[hs];rfl)
 obtain⟨h1,h2⟩:=h.kl kl
 refine⟨Stp.of h1 h2 (fun _ hf=>hf.elim),?_⟩
 obtain⟨cells',b,c,hs',hG,rfl⟩:=hv
 obtain⟨b',c',vs,ty,hG',hh,hvs⟩:=h.ok.obs _ _ hs
 rw[hG] at hG';cases hG'
 have htt:=Zft hvs ht
 refine⟨b,0,fun j=>(vs[j]?).getD undef,kl.av_dead h.ok (.inr rfl) hs ⟨c,hG⟩,rfl,fun j t hj=>?_⟩
 obtain⟨x,hx,hr⟩:=htt j t hj
 have hx':vs[j]? = some x:=by simpa using hx
 have hf:(vs[j]?).getD undef=x:=by rw[hx'];rfl
 rw[Uap,cell_of_row _ _ j vs ty (0,0) hh,hx']
 refine⟨by dsimp only;rw[hf],?_⟩
 dsimp only
 rw[hf]
 exact hr.mono (fun b hb=>kl.av b hb) (fun _ _=>rfl)
theorem Zcp{st0:St}:∀(cells:List IV) (vs:List Value) (st:St),Stp F a G st0 st w w G->Zn G st0.sto w cells vs->∀{K:List Tr->St->Prop},Yx cells st K->∃ ts st',Stp F a G st st' w w G/\Zn G st'.sto w (ts.map .tr) vs/\K ts st'
 | [],vs,st,s,hv,K,he=>⟨[],st,Stp.refl s.sim,hv,he⟩
 | x::r,vs,st,s,hv,K,he=>by
  simp only[Zn] at hv
  obtain⟨v,vr,rfl,hx,hr⟩:=hv
  simp only[Yx] at he
  have go:∀(t:Tr) (st1:St),Stp F a G st st1 w w G->VR G st1.sto w (.tr t) v->Yx r st1 (fun ts st2=>K (t::ts) st2)->∃ ts st',Stp F a G st st' w w G/\Zn G st'.sto w (ts.map .tr) (v::vr)/\K ts st':=fun t st1 s1 ht he1=>by
   obtain⟨ts,st',s2,hvs,hK⟩:=Zcp r vr st1 (s.trans s1) hr he1
   exact⟨t::ts,st',s1.trans s2,⟨_,_,rfl,s2.vr (.tr t) _ trivial ht,hvs⟩,hK⟩
  unfold Xh at he
  split at he <;> try contradiction
  ·rename_i t
   exact go t st (Stp.refl s.sim) (s.vr (.tr t) v trivial hx) he
  ·rename_i es
   have hx2:VR G st0.sto w (.tr (.sl es)) v:=hx.2
   exact go (.sl es) st (Stp.refl s.sim) (s.vr (.tr (.sl es)) v trivial hx2) he
  ·rename_i id len q
   obtain⟨hl,he⟩:=he
   split at he <;> try contradiction
   rename_i k2 zs u hw ver hs
   obtain⟨rfl,rfl,he⟩:=he
   have hx2:=s.vr (.hd id [] 0 zs.length none q) v (show (st.sto id).isSome=true by rw[hs];rfl) hx
   obtain⟨s1,s2⟩:=UK s.sim hs hl hx2
   exact go (.sl zs) _ s1 s2 he
theorem Zfz{id:Zd}(hl:id.1=st.lvl):∀(cells:List IV) (st1:St),st1.lvl=st.lvl->(∃ c,st1.sto id=some (.bx c))->∀{K:List Tr->St->Prop},Yx cells st1 K->Yx cells st1 (fun ts st' => K ts st'/\st'.lvl=st.lvl/\∃ c,st'.sto id=some (.bx c))
 | [],st1,hv,hb,K,he=>⟨he,hv,hb⟩
 | x::r,st1,hv,hb,K,he=>by
  simp only[Yx] at he ⊢
  have go:∀(t:Tr) (st2:St),st2.lvl=st.lvl->(∃ c,st2.sto id=some (.bx c))->Yx r st2 (fun ts st3=>K (t::ts) st3)->Yx r st2 (fun ts st3=>K (t::ts) st3/\st3.lvl=st.lvl/\∃ c,st3.sto id=some (.bx c)):=fun t st2 h1 h2 h3=>Zfz hl r st2 h1 h2 h3
  unfold Xh at he ⊢
  split at he <;> try contradiction
  ·exact go _ st1 hv hb he
  ·exact go _ st1 hv hb he
  ·rename_i id2 len q
   obtain⟨hl2,he⟩:=he
   refine⟨hl2,?_⟩
   split at he <;> try contradiction
   rename_i k2 zs u hw ver hs
   obtain⟨h1,h2,he⟩:=he
   simp only[hs]
   refine⟨h1,h2,go _ (Zp id2 st1) hv ?_ he⟩
   obtain⟨c,hc⟩:=hb
   have hne:id≠id2:=fun e=>by rw[e] at hc;rw[hs] at hc;cases hc
   refine⟨scrs id2 c,?_⟩
   rw[QX (hl.trans hv.symm) hl2,if_neg hne,hc]
   rfl
theorem Zlw(h:Sim F G st a w){id:Zd}{cells:List IV}{v:Value}(hs:st.sto id=some (.bx cells))(hl:id.1=st.lvl)(hv:Uu G st.sto id 0 v){K:List Tr->St->Prop}(he:Yx cells st K) :
  ∃ ts st',Stp F a G st (Zp id st') w w G/\Xi w (Av G (Zp id st').sto w) ts v/\K ts st':=by
 obtain⟨cells',b,c,hs',hG,rfl⟩:=hv
 obtain⟨b',c',vs,ty,hG',hh,hvs⟩:=h.ok.obs _ _ hs
 rw[hG] at hG';cases hG'
 obtain⟨ts,st',s1,hts,hK,hlv,cl,hcl⟩:=Zcp (st0:=st) cells vs.toList st (Stp.refl h) hvs (Zfz (st:=st) hl cells st rfl ⟨_,hs⟩ he)
 have kl:=(Kl.refl st').step (fun j cells hj=>s1.sim.ok.low j cells hj) s1.sim.outl (hl.trans hlv.symm) (by rw[hcl];rfl)
 obtain⟨h1,h2⟩:=s1.sim.kl kl
 refine⟨ts,st',s1.trans (Stp.of h1 h2 (fun _ hf=>hf.elim)),?_,hK⟩
 refine⟨b,0,fun j=>(vs[j]?).getD undef,kl.av_dead s1.sim.ok (.inr rfl) hcl ⟨c,hG⟩,rfl,fun j t hj=>?_⟩
 obtain⟨x,hx,hr⟩:=YB hts j (.tr t) (by rw[Uan,hj];rfl)
 have hx':vs[j]? = some x:=by simpa using hx
 have hf:(vs[j]?).getD undef=x:=by rw[hx'];rfl
 rw[Uap,cell_of_row _ _ j vs ty (0,0) hh,hx']
 refine⟨by dsimp only;rw[hf],?_⟩
 dsimp only
 rw[hf]
 exact Rds.mono (fun b hb=>kl.av b hb) (fun _ _=>rfl) hr
theorem ZfA:∀(cs:List X) (ys:List Operand) (st:St),Sim F G st a w->VK cs ys=true->∀{K:List IV->St->Prop},QL cs st K->∃ l st',Stp F a G st st' w w G/\Zn G st'.sto w l (ys.map a.eval)/\K l st'
 | [],ys,st,h,hc,K,he=>by
  cases ys with
  | nil=>exact⟨[],st,Stp.refl h,rfl,he⟩
  | cons y r=>simp [VK] at hc
 | x::r,ys,st,h,hc,K,he=>by
  cases ys with
  | nil=>simp [VK] at hc
  | cons y yr =>
   simp only[VK,Uad] at hc
   have hx:=h.x hc.1
   simp only[QL] at he
   have go:∀(t:List Tr) (st1:St),Stp F a G st st1 w w G->Xi w (Av G st1.sto w) t (a.eval y)->QL r st1 (fun ts st2=>K (.ta t::ts) st2)->∃ l st',Stp F a G st st' w w G/\Zn G st'.sto w l ((y::yr).map a.eval)/\K l st':=fun t st1 s1 ht he1=>by
    obtain⟨l,st',s2,hvs,hK⟩:=ZfA r yr st1 s1.sim hc.2 he1
    exact⟨.ta t::l,st',s1.trans s2,⟨_,_,rfl,s2.vr (.ta t) _ trivial ht,hvs⟩,hK⟩
   unfold WB at he
   split at he <;> try contradiction
   ·rename_i ts hq
    rw[hq] at hx
    exact go ts st (Stp.refl h) hx he
   ·rename_i id hq
    rw[hq] at hx
    obtain⟨hl,he⟩:=he
    split at he <;> try contradiction
    rename_i cells hs
    split at he
    ·rename_i ts q ht
     obtain⟨s1,s2⟩:=Zlv h hs hl ht hx
     exact go ts _ s1 s2 he
    ·obtain⟨ts,st',s1,s2,he⟩:=Zlw h hs hl hx he
     exact go ts _ s1 s2 he
theorem Zlx(h:Sim F G st a w){f:Nat}{cs:List X}{d:Option Nat}{Kw:St->Prop}{C:ZD}(hd:d=oper.dst)(hdn:∀ y,d=some y->y<F.nt)(hc:Zj P (.mz f cs) oper.op=true)
  (he:ew C d st Kw (.mz f cs)):LOk P F a w oper Kw:=by
 subst hd
 simp only[Zj] at hc
 split at hc <;> try contradiction
 rename_i g first caps ho
 simp only[Uad,beq_iff_eq] at hc
 obtain⟨⟨rfl,hf⟩,hc⟩:=hc
 simp only[ew] at he
 obtain⟨l,st',s1,hvs,hK⟩:=ZfA cs caps.toList st h hc he
 have h0:first = #[]:=by simpa using hf
 subst h0
 have hm:Array.map a.eval caps=(List.map a.eval caps.toList).toArray:=by rw[<-Ubs]
 have hr:(execOp a.eval oper).run P w = .ok (.value (.func (.func f) #[] (List.map a.eval caps.toList).toArray)) w:=by simp [execOp,ho,Instr.makeFunc,hm]
 exact Res.of_run hr ⟨_,G,hK,s1.sim.put (show VR G st'.sto w (.fn f l) _ from ⟨_,rfl,hvs⟩) hdn⟩
theorem Zly(h:Sim F G st a w){m:Nat}{p:X}{d:Option Nat}{Kw:St->Prop}{C:ZD}(hd:d=oper.dst)(hdn:∀ y,d=some y->y<F.nt)(hc:Zj P (.lz m p) oper.op=true)
  (he:ew C d st Kw (.lz m p)):LOk P F a w oper Kw:=by
 subst hd
 simp only[Zj] at hc
 split at hc <;> try contradiction
 rename_i t y ho
 simp only[Uad,YS,beq_iff_eq] at hc
 obtain⟨⟨ht,hm⟩,hx⟩:=hc
 have hx:=h.x hx
 have key:∀{ad:Addr} {cs:List Value},a.eval y = .pointer (some ad)->cs.length=m->(∀(j:Nat) (v:Value),cs[j]? = some v->w.cell? (ad.add j)=some v)->(execOp a.eval oper).run P w = .ok (.value (.agg cs.toArray)) w:=fun {ad cs} hv hl hcl=>by
  subst hl
  simp [execOp,ho,Instr.loadAt,Instr.sureAddr,hv,ZbR ht hm hcl]
 simp only[ew] at he
 split at he <;> try contradiction
 rename_i id off hq
 rw[hq] at hx
 split at he <;> try contradiction
 rename_i cells hs
 obtain⟨hlen,he⟩:=he
 obtain⟨cells',b1,c,hs',hG,hv⟩:=hx
 rw[hs] at hs';cases hs'
 obtain⟨b2,c2,vs,ty,hG2,hh,hvs⟩:=h.ok.obs id _ hs
 rw[hG] at hG2;cases hG2
 have hl:=Yq hvs
 obtain⟨ts,st',s1,hts,hK⟩:=Zcp _ _ st (Stp.refl h) (Uy (Ux hvs off) m) he
 refine Res.of_run (key (cs:=(vs.toList.drop off).take m) hv (by simp [hl] at hl ⊢;omega) fun j v hj=>?_) ⟨_,G,hK,s1.sim.put (show VR G st'.sto w (.ag (ts.map .tr)) _ from ⟨_,rfl,hts⟩) hdn⟩
 rw[Uat] at hj
 split at hj <;> try contradiction
 rw[UaH] at hj
 rw[Yk,cell_of_row w b1 _ vs ty _ hh]
 simpa using hj
theorem Zlz(h:Sim F G st a w){k:Nat}{z:List Value}{x:X}{d:Option Nat}{Kw:St->Prop}{C:ZD}(hd:d=oper.dst)(hdn:∀ y,d=some y->y<F.nt)(hc:Zj P (.cl k z x) oper.op=true)
  (he:ew C d st Kw (.cl k z x)):LOk P F a w oper Kw:=by
 subst hd
 simp only[Zj] at hc
 split at hc <;> try contradiction
 rename_i args at1 ho
 split at hc <;> try contradiction
 rename_i y t hy ht
 obtain⟨args⟩:=args
 simp only at hy
 subst hy
 simp only[Uad] at hc
 obtain⟨hx,hc⟩:=hc
 split at hc <;> try contradiction
 rename_i e hel
 simp only[Uad,beq_iff_eq,decide_eq_true_eq] at hc
 obtain⟨⟨⟨hsz,hz⟩,hzl⟩,hk0⟩:=hc
 have hu:=Vd hel
 obtain⟨i,zv,hi,hzv,hzc,hz3⟩:=Xm hz
 have hzs:zv.cells.size=k:=by rw[<-hzl,<-hzc];simp
 have hx:=h.x hx
 simp only[ew] at he
 split at he <;> try contradiction
 rename_i id p off len cap s hq
 split at he <;> try contradiction
 rename_i k2 es u hw ver hs
 obtain⟨rfl,rfl,rfl,hle,hK⟩:=he
 rw[hq] at hx
 obtain⟨_,k3,es3,u3,hw3,ver3,hs3,_,hrel⟩:=hx
 rw[hs] at hs3;cases hs3
 obtain⟨es4,k',ad,c,hg4,hkk,hun,hv,hlc,_,hcap,hor⟩:=hrel rfl
 simp only[getp,Uak] at hg4
 subst hg4
 have hkk:=hkk rfl
 subst hkk
 have Jb:∀{w':World},(Builtin.clear_ at1 oper.type #[a.eval y]).run P w = .ok (.tuple #[]) w'->Stp F a G st (Zg st id (.ar k' (es.take off) u s (ver+1))) w w' G->LOk P F a w oper Kw:=fun {w'} hr hst=>by
  have hr2:(execOp a.eval oper).run P w = .ok (.value (.tuple #[])) w':=by
   simp [execOp,ho,resolve,invoke,builtin,hr]
  exact Res.of_run hr2 ⟨_,G,hK,hst.put hdn (show VR G _ w' (.tu []) (.tuple #[]) from ⟨[],rfl,rfl⟩) (Xp _ _ _)⟩
 by_cases h0:len=0
 ·subst h0
  refine Jb ?_ (Zco h hs off)
  rw[hv]
  cases ad <;> simp [Builtin.clear_,ht,run_underlying hu]
 ·rcases hor with h1 | ⟨h1,_⟩ | ⟨b1,c0,hG,rfl,hcc⟩
  ·omega
  ·exact absurd rfl h1
  ·have hr0:=(h.ok.obs _ _ hs).2.2.2.1 [] es (.inl rfl) rfl
   unfold Z3 at hr0
   rw[hG] at hr0
   obtain⟨k2,vs,ty,g1,g2,g3,g4,g5,g6⟩:=hr0
   have hkk:=g1 rfl
   subst hkk
   have hroom:off*k2+len*k2<=vs.size:=by
    rw[g4,<-UaJ];exact UaC _ (by omega)
   have hzz:(Builtin.zeroCells zv.cells len).toList.length=len*k2:=by
    rw[Array.length_toList,size_zeroCells,hzs]
   have hst:=run_storeCells_at P b1 (off*k2) ty (Builtin.zeroCells zv.cells len).toList 0 vs w g3 (by rw[hzz,Nat.add_zero];exact hroom) (Zls hzc hz3 len)
   simp only[Nat.add_zero,hzz] at hst
   refine Jb (w':=w.setRow b1 (vs.toList.take (off*k2)++(Builtin.zeroCells zv.cells len).toList++vs.toList.drop (off*k2+len*k2)).toArray) ?_ (Zfx h hs hG g3 ?_ ?_ ?_ ?_ ?_)
   ·rw[hv]
    obtain⟨len,rfl⟩:∃ n,len=n+1:=⟨len-1,by omega⟩
    simp [Builtin.clear_,ht,run_underlying hu,zeroValue,typeInfo,hi,hzv,hst]
   ·simp only[Ubk,Uam,Uas,Ubq,hzz,Array.length_toList]
    omega
   ·rw[Uas]
    have:=(h.ok.obs _ _ hs).1
    omega
   ·exact fun e he=>hun e (UaQ he)
   ·exact fun p es2 hp he=>Zfv hp he
   ·intro i e f t hi hf
    rw[Uat] at hi
    split at hi
    ·rename_i hio
     have hfl:=(Uac.1 hf).1
     rw[g2 e (Uae hi)] at hfl
     refine .inr ⟨?_,e,hi,hf⟩
     have hlt:i*k2+f<off*k2:=Q0 hio hfl
     rw[Ubf,UaR,Uaq (by rw[Uas,Array.length_toList];omega),Uat,if_pos hlt]
     simp
    ·cases hi
theorem ZlA{k n m:Nat}{v:Value}{cs:List Value}(h:FC w k n v cs)(hm:m<=n):(Builtin.firstCells k m v).run P w = .ok (cs.take (m*k)).toArray w:=by
 obtain⟨hl,a0,c,rfl,⟨ad,rfl,hc⟩ | ⟨rfl,rfl⟩⟩:=h
 ·have hmk:m*k<=n*k:=UaC _ hm
  exact run_firstCells_some (P:=P) w k m ad n c (cs.take (m*k)) (by rw[Uas];omega) fun j u hj=>by
   rw[Uat] at hj
   split at hj
   ·exact hc j u hj
   ·cases hj
 ·have:=run_firstCells_none (P:=P) w k m n c
  simpa using this
theorem ScR.getp{es es2:Row}{p:Zf}(h:ScR es)(hp:p≠[])(hg:getp es p=some es2):False:=by
 cases p with
 | nil=>exact hp rfl
 | cons cd q =>
  obtain⟨c,d⟩:=cd
  obtain⟨e,x,g1,g2,g3⟩:=Y2 hg
  have:=h e (Uae g1) _ (Uae g2)
  simp [isSc] at this
theorem ZfB{t:Tr}(h:isSc t=true):∃ y,t = .v y:=by
 cases t with
 | v y=>exact⟨y,rfl⟩
 | sl es=>simp [isSc] at h
theorem ZlB{st:St}{x:IV}{F':Row->Prop}(h:YR st.sto x F'):V0 st x F':=by
 cases x <;> exact h
theorem ZlC{st:St}{x:IV}{F':Row->Prop}(h:V0 st x F'):YR st.sto x F':=by
 cases x <;> exact h
theorem ZfC{C:ZD}{d:Option Nat}{st:St}{Kw:St->Prop}{k:Nat}{x y:X}(he:ew C d st Kw (.c0 k x y)):ew C d st Kw (.cy k x y):=by
 simp only[ew,Ju] at he ⊢
 generalize xv st.env x=q at he ⊢
 split at he <;> try contradiction
 dsimp only
 split at he <;> try contradiction
 rename_i hs
 simp only[hs]
 obtain⟨rfl,h2,h3,h4,h5⟩:=he
 exact⟨trivial,rfl,h2,h3,h4,ZlB h5⟩
theorem ZlD{C:ZD}{d:Option Nat}{st:St}{Kw:St->Prop}{k:Nat}{x y:X}(he:ew C d st Kw (.cy k x y)):ew C d st Kw (.c0 k x y):=by
 simp only[ew,Ju] at he ⊢
 generalize xv st.env x=q at he ⊢
 split at he <;> try contradiction
 split at he <;> try contradiction
 rename_i hs
 obtain⟨rfl,rfl,h2,h3,h4,h5⟩:=he
 simp only[hs]
 exact⟨trivial,h2,h3,h4,ZlC h5⟩
theorem ZfD(h:Sim F G st a w){k:Nat}{x y:X}{d:Option Nat}{Kw:St->Prop}{C:ZD}(hd:d=oper.dst)(hdn:∀ y,d=some y->y<F.nt)(hc:Zj P (.cy k x y) oper.op=true)
  (he:ew C d st Kw (.cy k x y)):LOk P F a w oper Kw:=by
 subst hd
 simp only[Zj] at hc
 split at hc <;> try contradiction
 rename_i args at1 ho
 split at hc <;> try contradiction
 rename_i x' y' t hxy ht
 obtain⟨args⟩:=args
 simp only at hxy
 subst hxy
 simp only[Uad] at hc
 obtain⟨⟨hx,hy⟩,hc⟩:=hc
 split at hc <;> try contradiction
 rename_i e hel
 simp only[Uad,beq_iff_eq,decide_eq_true_eq] at hc
 obtain⟨hsz,hk0⟩:=hc
 have hu:=Vd hel
 have hx:=h.x hx
 have hy:=h.x hy
 simp only[ew] at he
 split at he <;> try contradiction
 rename_i id p off len cap s hq
 split at he <;> try contradiction
 rename_i k2 es u hw ver hs
 obtain⟨rfl,rfl,rfl,hle,hsc,he⟩:=he
 have src:∃(zs:Row) (news:List Value),FC w k2 zs.length (a.eval y') news/\(∀(i:Nat) (e:List Tr) (f:Nat) (t:Tr),zs[i]? = some e->e[f]? = some t->∃ v,t = .v v/\Jx v=true/\news[i*k2+f]? = some v)/\ScR zs/\Zw k2 zs /\
   Kw { Zg st id (.ar k2 (es.take off++zs.take len++es.drop (off+min zs.length len)) u s (ver+1)) with env:=ptd oper.dst (iI (min zs.length len:Nat)) st.env }:=by
  have trees:∀{A:Nat->Prop} {zs:Row},Rds w A (a.eval y') (.sl zs)->ScR zs->Zw k2 zs->∃ news,FC w k2 zs.length (a.eval y') news/\(∀(i:Nat) (e:List Tr) (f:Nat) (t:Tr),zs[i]? = some e->e[f]? = some t->∃ v,t = .v v/\Jx v=true/\news[i*k2+f]? = some v):=fun {A zs} hr h1 h2=>by
   obtain⟨cs,g1,g2⟩:=hr.fc hk0 h2
   refine⟨cs,g1,fun i e f t hi hf=>?_⟩
   obtain⟨v,hv,hr2⟩:=g2 i e f t hi hf
   obtain⟨q,rfl⟩:=ZfB (h1 e (Uae hi) t (Uae hf))
   obtain⟨rfl,hs2⟩:=hr2.val
   exact⟨_,rfl,hs2,hv⟩
  unfold V0 at he
  split at he <;> try contradiction
  ·rename_i zs hq2
   rw[hq2] at hy
   obtain⟨h1,h2,h3⟩:=he
   obtain⟨news,g1,g2⟩:=trees hy h1 h2
   exact⟨zs,news,g1,g2,h1,h2,h3⟩
  ·rename_i zs hq2
   rw[hq2] at hy
   obtain⟨h1,h2,h3⟩:=he
   obtain⟨news,g1,g2⟩:=trees hy.2 h1 h2
   exact⟨zs,news,g1,g2,h1,h2,h3⟩
  ·rename_i id2 p2 off2 len2 cap2 s2 hq2
   rw[hq2] at hy
   unfold JG at he
   split at he <;> try contradiction
   rename_i k4 es4 u4 hw4 ver4 hs4
   obtain⟨es5,hg5,hst5,hl5,h1,h2,h3⟩:=he
   obtain⟨news,g1,g2⟩:=Zak h.ok hs4 hg5 hst5 hy hl5 h2
   refine⟨_,news,by rw[Qx hl5];exact g1,fun i e f t hi hf=>?_,h1,h2,h3⟩
   obtain⟨v,hv,hc2⟩:=g2 i e f t hi hf
   obtain⟨q,rfl⟩:=ZfB (h1 e (Uae hi) t (Uae hf))
   obtain⟨rfl,hs3⟩:=hc2
   exact⟨_,rfl,hs3,hv⟩
 obtain⟨zs,news,fc,hnew,hscz,hunz,hK⟩:=src
 rw[hq] at hx
 obtain⟨_,k3,es3,u3,hw3,ver3,hs3,_,hrel⟩:=hx
 rw[hs] at hs3;cases hs3
 obtain⟨es4,k',ad,c,hg4,hkk,hun,hv,hlc,_,hcap,hor⟩:=hrel rfl
 simp only[getp,Uak] at hg4
 subst hg4
 have hkk:=hkk rfl
 subst hkk
 have hlen:Builtin.lenOf (a.eval y')=pure zs.length:=by
  obtain⟨_,a0,c0,h1,_⟩:=fc
  rw[h1];rfl
 generalize hn:min zs.length len=n at *
 have hfc:=ZlA (P:=P) fc (m:=n) (by omega)
 have Jb:∀{w':World},(Builtin.copy_ at1 oper.type #[a.eval x',a.eval y']).run P w = .ok (.int .i64 n) w'->Stp F a G st (Zg st id (.ar k' (es.take off++zs.take len++es.drop (off+n)) u s (ver+1))) w w' G->LOk P F a w oper Kw:=fun {w'} hr hst=>by
  have hr2:(execOp a.eval oper).run P w = .ok (.value (.int .i64 n)) w':=by
   simp [execOp,ho,resolve,invoke,builtin,hr]
  exact Res.of_run hr2 ⟨_,G,hK,hst.put hdn (show VR G _ w' (iI n) (.int .i64 n) from .v _ rfl) (Xp _ _ _)⟩
 have hzt:zs.take len=zs.take n:=by
  by_cases h1:zs.length<=len
  ·rw[UaL h1,UaL (by omega)]
  ·rw[show n=len from by omega]
 by_cases h0:n=0
 ·subst h0
  have e0:es.take off++zs.take len++es.drop (off+0)=es:=by rw[hzt,List.take_zero,Ua9,Nat.add_zero,List.take_append_drop]
  rw[e0] at Jb
  have hc0:=Zco h hs es.length
  rw[Uaz] at hc0
  refine Jb ?_ hc0
  rw[hv]
  cases ad with
  | none=>simp [Builtin.copy_,ht,run_underlying hu,hlen,YT hsz,hn,hfc,goInt]
  | some ad=>simp [Builtin.copy_,ht,run_underlying hu,hlen,YT hsz,hn,hfc,goInt,storeCells]
 ·rcases hor with h1 | ⟨h1,_⟩ | ⟨b1,c0,hG,rfl,hcc⟩
  ·omega
  ·exact absurd rfl h1
  ·have hr0:=(h.ok.obs _ _ hs).2.2.2.1 [] es (.inl rfl) rfl
   unfold Z3 at hr0
   rw[hG] at hr0
   obtain⟨k2,vs,ty,g1,g2,g3,g4,g5,g6⟩:=hr0
   have hkk:=g1 rfl
   subst hkk
   have hroom:off*k2+n*k2<=vs.size:=by
    rw[g4,<-UaJ];exact UaC _ (by omega)
   have hnl:n*k2<=zs.length*k2:=UaC _ (by omega)
   have hcl:(news.take (n*k2)).length=n*k2:=by
    rw[Uas,fc.1];omega
   have hone:∀ v∈news.take (n*k2),v.oneCell'=true:=fun v hv2=>by
    have hv3:=UaQ hv2
    obtain⟨q,hq1,rfl⟩:=UaU hv3
    rw[fc.1] at hq1
    have hd:q / k2<zs.length:=Nat.div_lt_of_lt_mul (by rwa [UbB])
    have hm:q % k2<k2:=Nat.mod_lt _ hk0
    have he1:=Uaf hd
    have hel2:=hunz _ (Uae he1)
    obtain⟨v2,_,hs5,hv5⟩:=hnew (q / k2) _ (q % k2) _ he1 (Uaf (by rw[hel2];exact hm))
    have:q / k2*k2+q % k2=q:=by have:=Nat.div_add_mod q k2;rw[UbB] at this;omega
    rw[this,Uaf (by rw[fc.1];exact hq1)] at hv5
    cases hv5
    generalize news[q]=z at hs5
    cases z <;> first | rfl | simp [Jx] at hs5
   have hst:=run_storeCells_at P b1 (off*k2) ty (news.take (n*k2)) 0 vs w g3 (by rw[hcl,Nat.add_zero];exact hroom) hone
   simp only[Nat.add_zero,hcl] at hst
   refine Jb (w':=w.setRow b1 (vs.toList.take (off*k2)++news.take (n*k2)++vs.toList.drop (off*k2+n*k2)).toArray) ?_ (Zfx h hs hG g3 ?_ ?_ ?_ ?_ ?_)
   ·rw[hv]
    simp [Builtin.copy_,ht,run_underlying hu,hlen,YT hsz,hn,hfc,goInt,hst]
   ·simp only[Ubk,Uam,Ubq,hcl,Uas,Array.length_toList]
    omega
   ·have:=(h.ok.obs _ _ hs).1
    simp only[Uam,Uas,Ubq]
    omega
   ·intro e he
    rcases Uax.1 he with he | he
    ·rcases Uax.1 he with he | he
     ·exact hun e (UaQ he)
     ·exact hunz e (UaQ he)
    ·exact hun e (UbP he)
   ·intro p es2 hp hg
    exfalso
    refine ScR.getp (es:=es.take off++zs.take len++es.drop (off+n)) (fun e he t ht=>?_) hp hg
    rcases Uax.1 he with he | he
    ·rcases Uax.1 he with he | he
     ·exact hsc e (UaQ he) t ht
     ·exact hscz e (UaQ he) t ht
    ·exact hsc e (UbP he) t ht
   ·intro i e f t hi hf
    have hlt:∀{l:Row},Zw k2 l->e∈l->f<k2:=fun hU hm=>by
     have:=(Uac.1 hf).1
     rwa [hU e hm] at this
    have hoff:(es.take off).length=off:=by rw[Uas];omega
    have hzl:(zs.take len).length=n:=by rw[Uas];omega
    have hoff2:(vs.toList.take (off*k2)).length=off*k2:=by
     rw[Uas,Array.length_toList];omega
    rw[Ubf]
    by_cases hi1:i<off
    ·rw[UaR,Uaq (by omega),Uat,if_pos hi1] at hi
     have hfl:=hlt hun (Uae hi)
     have hx1:i*k2+f<off*k2:=Q0 hi1 hfl
     refine .inr ⟨?_,e,hi,hf⟩
     rw[UaR,Uaq (by omega),Uat,if_pos hx1]
     simp
    ·obtain⟨j,rfl⟩:∃ j,i=off+j:=⟨i-off,by omega⟩
     by_cases hi2:j<n
     ·rw[Uaq (by rw[Uam];omega),Uao (by omega),hoff,Ua5,hzt,Uat,if_pos hi2] at hi
      have hfl:=hlt hunz (Uae hi)
      have hx1:j*k2+f<n*k2:=Q0 hi2 hfl
      obtain⟨v,rfl,hs6,hv6⟩:=hnew j e f t hi hf
      refine .inl ⟨v,rfl,hs6,?_⟩
      rw[Uaq (by rw[Uam,hoff2,hcl,UaJ];omega),Uao (by rw[hoff2,UaJ];omega),hoff2,show (off+j)*k2+f-off*k2=j*k2+f from by rw[UaJ];omega,Uat,if_pos hx1]
      exact hv6
     ·rw[Uao (by rw[Uam];omega),Uam,hoff,hzl,UaH,show off+n+(off+j-(off+n))=off+j from by omega] at hi
      have hfl:=hlt hun (Uae hi)
      refine .inr ⟨?_,e,hi,hf⟩
      have hx1:n*k2<=j*k2:=UaC _ (by omega)
      rw[Uao (by rw[Uam,hoff2,hcl,UaJ];omega),Uam,hoff2,hcl,UaH,show off*k2+n*k2+((off+j)*k2+f-(off*k2+n*k2))=(off+j)*k2+f from by rw[UaJ];omega]
      simp
theorem ZlE{t u ty e:TypeId}{ik:IntKind}{i:TypeInfo}{z:Value}(ht:P.underlying t=some (.slice e))(hu:P.underlying u=some (.int ik))(hi:P.info? e=some i)(hz:i.zero=some z){ad:Option Addr}{n:Nat}(hn0:0<n)(hb:n<=bigN)(hby:i.bytes<=1024)(hk0:0<i.size) :
  (Builtin.append_ #[t,u] ty #[.slice ad 0 0,.int .i64 n]).run P w =
   .ok (.slice (some ⟨w.heap.size,0,none⟩) n (grownCap w n 0 e)) (w.drew.alloc (.cells (Builtin.zeroCells z.cells n++Builtin.zeroCells z.cells (grownCap w n 0 e-n)) e)):=by
 have hbb:n<=4294967296:=hb
 have hw:IntKind.i64.wrap (n:Int)=n:=QV (by show (-9223372036854775808:Int)<=(n:Int)/\(n:Int)<=9223372036854775807;omega)
 have hneg:¬ ((n:Int)<0):=by omega
 have hnb:(n:Int)*(i.bytes:Int)<=281474976710656:=by
  calc (n:Int)*(i.bytes:Int)<=4294967296*1024:=Int.mul_le_mul (by omega) (by omega) (by omega) (by omega)
   _<=281474976710656:=by decide
 have hnb':¬ (281474976710656<(n:Int)*(i.bytes:Int)):=by omega
 have h63':¬ (9223372036854775807<(n:Int)):=by omega
 have h48:Builtin.nextslicecap n 0*i.bytes<=281474976710656:=growslice_fits hn0 (by
  calc n*i.bytes<=4294967296*1024:=Nat.mul_le_mul hbb hby
   _<=140737488355328:=by decide)
 have h48':¬ (281474976710656<Builtin.nextslicecap n 0*i.bytes):=by omega
 have hn0':¬ (n*i.size=0):=by
  have:=Nat.mul_pos hn0 hk0
  omega
 have hfo:=UL (P:=P) (w:=w) (k:=i.size) (n:=0) (v:=.slice ad 0 0) (cs:=[]) ⟨by simp,ad,0,rfl,(by cases ad with | none=>exact .inr ⟨rfl,rfl⟩ | some ad=>exact .inl ⟨ad,rfl,fun j u hj=>by simp at hj⟩)⟩ (w':=w.drew) rfl
 simp [Builtin.append_,run_underlying ht,run_underlying hu,Go.sizeOf,typeInfo,zeroValue,hi,hz,asInt,asIntOf,hw,hneg,hnb',h63',h48',hn0',Nat.ne_of_gt hn0,Question.forced,hfo,newRow,grownCap]
theorem ZlF{z:Value}{k n:Nat}(hk:z.cells.size=k){i f:Nat}(hi:i<n){x:Value}(hf:z.cells[f]? = some x):(Builtin.zeroCells z.cells n)[i*k+f]? = some x:=by
 have hfk:f<k:=by rw[<-hk];exact(Uaw.1 hf).1
 have hlt:i*k+f<n*k:=Q0 hi hfk
 have hmod:(i*k+f) % k=f:=by rw[Ubn,Ubo,UbO hfk]
 have hlt2:f<z.cells.size:=by omega
 unfold Builtin.zeroCells
 rw[UbI]
 simp [hlt,hk,hmod]
 rw[getElem!_pos z.cells f hlt2]
 rw[UaK hlt2] at hf
 exact Ubc hf
theorem ZlG{C:ZD}(h:Sim F G st a w){k:Nat}{z:List Value}{x n:X}{d:Option Nat}{K:St->Prop}(hd:d=oper.dst)(hdn:∀ y,d=some y->y<F.nt)(hc:Zj P (.az k z x n) oper.op=true)(he:ew C d st K (.az k z x n)):LOk P F a w oper K:=by
 subst hd
 simp only[Zj] at hc
 split at hc <;> try contradiction
 rename_i args argTypes ho
 split at hc <;> try contradiction
 rename_i xo no t u hargs htys
 simp only[Uad] at hc
 obtain⟨⟨⟨hcx,hcn⟩,hcu⟩,hc⟩:=hc
 split at hcu <;> try contradiction
 rename_i ik hu
 split at hc <;> try contradiction
 rename_i e hel
 simp only[Uad,beq_iff_eq,decide_eq_true_eq] at hc
 obtain⟨⟨⟨⟨hsz,hz⟩,hzl⟩,hk0⟩,hby⟩:=hc
 have ht:=Vd hel
 obtain⟨i,zv,hi,hzv,hzc,hz3⟩:=Xm hz
 obtain⟨i2,hi2,hks⟩:=Xl hsz
 rw[hi] at hi2;cases hi2
 have hbytes:i.bytes<=1024:=by simpa [Program.bytesOf,hi] using hby
 have hzs:zv.cells.size=k:=by rw[<-hzl,<-hzc];simp
 have hargs':args = #[xo,no]:=by cases args;simpa using hargs
 have htys':argTypes = #[t,u]:=by cases argTypes;simpa using htys
 subst hargs'
 subst htys'
 have hx:=h.x hcx
 have hn:=h.x hcn
 simp only[ew] at he
 split at he <;> try contradiction
 rename_i hqx
 split at he <;> try contradiction
 rename_i m hqn
 obtain⟨hm0,hmb,hfr,hK⟩:=he
 rw[hqx] at hx
 rw[hqn] at hn
 obtain⟨hn,_⟩:=hn.val
 obtain⟨⟨ad,hx⟩,_⟩:=hx
 obtain⟨N,rfl⟩:=Int.eq_ofNat_of_zero_le (Int.le_of_lt hm0)
 simp only[Int.toNat_natCast] at hK
 have hN0:0<N:=by omega
 have hNb:N<=bigN:=by omega
 have hrun:=ZlE (P:=P) (w:=w) (ty:=oper.type) ht hu hi hzv (ad:=ad) hN0 hNb hbytes (by rw[hks];exact hk0)
 have hge:N<=grownCap w N 0 e:=by simpa using grownCap_ge w N 0 e
 have htrv:∀ x∈z,Rds w (Av G st.sto w) x (trv x)/\YJ (trv x):=fun x hx=>by
  rcases hz3 x hx with hx | rfl
  ·have:trv x = .v x:=by cases x <;> first | rfl | simp [Jx] at hx
   rw[this];exact⟨.v x hx,trivial⟩
  ·exact⟨.nil none 0,rfl⟩
 have hin:∀{i':Nat} {e':List Tr},(List.replicate N (z.map trv))[i']? = some e'->i' < N/\e'=z.map trv:=fun {i' e'} h1=>by
  rw[Ubu] at h1
  split at h1 <;> simp_all
 obtain⟨G',hG'⟩:=Zci h (Kl.refl st) (d:=oper.dst) (key:=keyOf oper.dst) (k:=k) (c:=grownCap w N 0 e) (es:=List.replicate N (z.map trv)) (u:=true) (ty:=e) (N:=fun _=>none) (Zcj hfr) hdn
  (w':=w.drew.alloc (.cells (Builtin.zeroCells zv.cells N++Builtin.zeroCells zv.cells (grownCap w N 0 e-N)) e))
  ⟨by simp,fun b hb=>heap_alloc_old w.drew _ b hb,rfl,rfl,rfl⟩ (heap_alloc_new w.drew _)
  (by simp only[Array.size_append,size_zeroCells,hzs,<-UaJ];congr 1;omega) (by rw[Ua2];exact hge) (Zai (by unfold bigN at *;omega))
  (fun e' he' => by obtain⟨_,rfl⟩:=Ubw.1 he';simpa using hzl)
  (fun i' e' f t' h1 h2=>by
   obtain⟨hi',rfl⟩:=hin h1
   rw[Uan,UaF] at h2
   obtain⟨y,hy,rfl⟩:=h2
   have hyf:zv.cells[f]? = some y:=by rw[<-hzc] at hy;simpa using hy
   have hfk:f<k:=by have:=(Uaw.1 hyf).1;omega
   refine⟨y,?_,Rds.cell (htrv y (Uae hy)).1 fun _=>(htrv y (Uae hy)).2⟩
   rw[UaD (by rw[size_zeroCells,hzs];exact Q0 hi' hfk)]
   exact ZlF hzs hi' hyf)
  (fun _ i' f e' zs q es2 h1 h2 h3=>by
   obtain⟨_,rfl⟩:=hin h1
   rw[Uan,UaF] at h2
   obtain⟨y,hy,h2⟩:=h2
   have:=(htrv y (Uae hy)).2
   rw[h2] at this
   simp only[YJ] at this
   subst this
   obtain⟨rfl,rfl⟩:=Vv h3
   unfold Z3
   rfl)
  (fun _ _ _ _ _ _ hg=>by cases hg) (fun _ _ _ _ _ _ _ _ _ _ hg=>by cases hg)
 rw[Ua2] at hG'
 refine Res.of_run (v:=_) (w':=_) ?_ ⟨_,G',hK,hG'⟩
 unfold execOp
 simp only[ho,resolve,invoke,builtin,Sem.run_bind,Sem.run_pure,Result.andThen_ok,List.map_toArray,UaB,UaX,hx,hn,List.length_nil,hrun]
end
section give
variable {P:Program} {F:Fr} {G G':Gh} {st st1:St} {a:Act} {w w':World} {oper:Oper} {D:Zd->Prop}
theorem Sim.turnL(h:Sim F G st a w)(k:Kl D st st1){id:Zd}{ob':Ob}{d:Option Nat}{x:IV}{v:Value}(hid:¬ D id)(hidl:id.1<st.lvl)
  (gh:∀ i,i≠id->G' i=G i) (size:w.heap.size<=w'.heap.size)
  (heap:∀ b,b<w.heap.size->(∀ ob,st.sto id=some ob -> ¬ ZK G id ob b)->w'.heap[b]? = w.heap[b]?)
  (own:∀ b,ZK G' id ob' b->(∃ j ob0,(j=id\/D j)/\st.sto j=some ob0/\ZK G j ob0 b)\/w.heap.size<=b)
  (rel:∀ ob,st.sto id=some ob->idR G G' id ob ob')
  (hos:w'.os=w.os) (htape:w'.tape=w.tape) (houtp:w'.output=w.output)
  (hob:Trn G G' st.sto (Ze st1.sto id ob') w w' (· = id) D->YI G' (Ze st1.sto id ob') w' id ob')
  (hlow:∀ cells,ob' = .bx cells->Je (id.1+1) cells)
  (hd:∀ y,d=some y->y<F.nt)
  (hx:Trn G G' st.sto (Ze st1.sto id ob') w w' (· = id) D->VR G' (Ze st1.sto id ob') w' x v) :
  Sim F G' { Zg st1 id ob' with env:=ptd d x st1.env } (a.put d v) w'/\Trn G G' st.sto (Ze st1.sto id ob') w w' (· = id) D:=by
 have hsto:({ Zg st1 id ob' with env:=ptd d x st1.env }:St).sto=Ze st1.sto id ob':=by rw[<-Ya];rfl
 have ht:Trn G G' st.sto (Ze st1.sto id ob') w w' (· = id) D:=by
  refine⟨gh,fun i ob hi hdi hs=>?_,fun i ob hi hs=>?_,size,fun b hb hn=>heap b hb fun ob hs=>hn id ob rfl hs,fun i ob b hi hs ho=>?_,fun i ob hi _ hs=>?_⟩
  ·obtain⟨o2,h1,h2⟩:=k.live i ob hdi hs
   exact⟨o2,by unfold Ze;rw[if_neg hi];exact h1,h2⟩
  ·unfold Ze at hs;rw[if_neg hi] at hs
   exact k.only i ob hs
  ·subst hi
   unfold Ze at hs;rw[if_pos rfl] at hs;cases hs
   exact own b ho
  ·subst hi
   exact⟨ob',by unfold Ze;rw[if_pos rfl],rel ob hs⟩
 refine⟨h.go (T:=(· = id)) (env0:=st1.env) (D:=D) (by simp only;rw[VM,k.lvl]) (fun i ob hs=>?_) (by rw[hsto];exact ht) k.dead hos htape houtp ?_ k.vr k.men rfl hd (by rw[hsto];exact hx ht),ht⟩
 ·have hs:(Zg st1 id ob').out i=some ob:=hs
  unfold Zg at hs
  split at hs
  ·rw[k.out] at hs;exact h.outl i ob hs
  ·rename_i hne
   simp only[Ze] at hs
   split at hs
   ·rename_i hi
    subst hi
    exact hidl
   ·rw[k.out] at hs;exact h.outl i ob hs
 ·rw[hsto]
  refine ht.ok h.ok (fun i ob hi hs=>?_) (fun i ob j ob' b hi hj _ _ _ _=>hi.trans hj.symm) (fun i cells hi hs=>?_)
  ·subst hi
   unfold Ze at hs;rw[if_pos rfl] at hs;cases hs
   exact hob ht
  ·subst hi
   unfold Ze at hs;rw[if_pos rfl] at hs;cases hs
   exact hlow _ rfl
theorem Sim.renL(h:Sim F G st a w){id id0:Zd}{k:Nat}{zs:Row}{u:Bool}{hw ver:Nat}{v:Value}(hl:id.1=st.lvl)(hl0:id0.1<st.lvl)(hs:st.sto id=some (.ar k zs u hw ver))(h0:st.sto id0=none)
  (hv:YH G st.sto id [] 0 zs.length none hw v) :
  ∃ G',Sim F G' (Zg (Zp id st) id0 (.ar k zs u hw ver)) a w/\Trn G G' st.sto (Ze (Zp id st).sto id0 (.ar k zs u hw ver)) w w (· = id0) (fun i=>False\/i=id) /\
   YH G' (Ze (Zp id st).sto id0 (.ar k zs u hw ver)) id0 [] 0 zs.length none hw v:=by
 have hne:id0≠id:=fun e=>by rw[e] at hl0;omega
 have k1:=(Kl.refl st).step (fun j cells hj=>h.ok.low j cells hj) h.outl hl (by rw[hs];rfl)
 obtain⟨G',hG⟩:∃ G':Gh,G'=fun i=>if i=id0 then G id else G i:=⟨_,rfl⟩
 have g0:G' id0=G id:=by rw[hG];exact if_pos rfl
 have g1:∀ i,i≠id0->G' i=G i:=fun i hi=>by rw[hG];exact if_neg hi
 have hob:=h.ok.obs _ _ hs
 have ht:=h.turnL k1 (id:=id0) (ob':=.ar k zs u hw ver) (G':=G') (w':=w) (d:=none) (x:=.un) (v:=undef) (fun hf=>hf.elim (fun q=>q) hne) hl0 g1 (Uag _) (fun _ _ _=>rfl)
  (fun b hb=>.inl ⟨id,_,.inr (.inr rfl),hs,by
   obtain⟨p,c,q1,q2,q3⟩:=hb
   exact⟨p,c,q1,q2,by rw[g0] at q3;exact q3⟩⟩) (fun ob hob=>by rw[h0] at hob;cases hob) rfl rfl rfl (fun t=>by
  obtain⟨o1,o2,o3,o4,o5⟩:=hob
  refine⟨o1,o2,by rw[g0];exact o3,fun p es' hp hg=>D8 g0 (fun b hb=>t.av b hb) (o4 p es' hp hg),fun p p' b c c' => ?_⟩
  rw[g0]
  exact o5 p p' b c c') (fun _ hc=>by cases hc) (fun _ he=>by cases he) (fun _=>trivial)
 rw[Qa] at ht
 refine⟨G',ht.1,ht.2,?_⟩
 obtain⟨⟨a0,c0,hv0,hle⟩,k3,es3,u3,hw3,ver3,hs3,hb,hrel⟩:=hv
 rw[hs] at hs3;cases hs3
 refine⟨⟨a0,c0,hv0,hle⟩,k,zs,u,hw,ver,by unfold Ze;rw[if_pos rfl],hb,fun hst=>?_⟩
 obtain⟨es',k',a',c',q1,q2,q3,q4,q5,q6,q7,q8⟩:=hrel hst
 exact⟨es',k',a',c',q1,q2,q3,q4,q5,q6,by rw[g0];exact q7,by rw[g0];exact q8⟩
theorem ZlH{C:ZD}(h0:Sim F G st a w){key:Nat}{p x:X}{d:Option Nat}{K:St->Prop}(hd:d=oper.dst)(hc:Zj P (.gv key p x) oper.op=true)(he:ew C d st K (.gv key p x)):LOk P F a w oper K:=by
 simp only[Zj] at hc
 split at hc <;> try contradiction
 rename_i t y v ho
 simp only[Uad,beq_iff_eq] at hc
 obtain⟨⟨hsz,hp⟩,hx⟩:=hc
 have hp0:=h0.x hp
 have hx0:=h0.x hx
 simp only[ew] at he
 obtain⟨hdn,he⟩:=he
 subst hd
 unfold Us at he
 split at he <;> try contradiction
 rename_i id off hqp
 split at he <;> try contradiction
 rename_i id2 len s hqx
 obtain⟨hl2,hl1,hno,he⟩:=he
 unfold DM at he
 split at he <;> try contradiction
 rename_i cells hs0
 split at he <;> try contradiction
 rename_i k zs u hw ver hs2
 obtain⟨hle0,rfl,rfl,hk⟩:=he
 rw[hqp] at hp0
 rw[hqx] at hx0
 obtain⟨G1,h,tr,hx⟩:=h0.renL (id0:=(id.1,key)) hl2 hl1 hs2 hno hx0
 have hsto1:(Zg (Zp id2 st) (id.1,key) (.ar k zs u s ver)).sto=Ze (Zp id2 st).sto (id.1,key) (.ar k zs u s ver):=Ya _ _ _
 have hnid:id≠(id.1,key):=fun e=>by rw[e] at hs0;rw[hno] at hs0;cases hs0
 have hne2:¬ (False\/id=id2):=fun e=>by
  rcases e with e | e
  ·exact e
  ·rw[e] at hl1;omega
 have hp:=tr.vr (.ab id off) (a.eval y) hne2 hp0
 have hx:VR G1 (Ze (Zp id2 st).sto (id.1,key) (.ar k zs u s ver)) w (.hd (id.1,key) [] 0 zs.length none s) (a.eval v):=hx
 rw[<-hsto1] at hp hx
 have hs:(Zg (Zp id2 st) (id.1,key) (.ar k zs u s ver)).sto id=some (.bx cells):=by
  rw[hsto1]
  unfold Ze
  rw[if_neg hnid,UJ (by omega)]
  exact hs0
 obtain⟨st1,hst1⟩:∃ s1,s1=Zg (Zp id2 st) (id.1,key) (.ar k zs u s ver):=⟨_,rfl⟩
 rw[<-hst1] at h hp hx hs hk
 clear hx0 hp0 tr hst1 hsto1
 obtain⟨l,hcl0⟩:∃ l,l=[IV.hd (id.1,key) [] 0 zs.length none s]:=⟨_,rfl⟩
 have hcl:cellsOf (.hd (id.1,key) [] 0 zs.length none s)=some l:=by rw[hcl0];rfl
 obtain⟨hvs,hcell⟩:=Xj hx hcl
 have hl:l.length=1:=by rw[hcl0];rfl
 have hlo:Je (id.1+1) l:=by rw[hcl0];exact⟨Uav _,trivial⟩
 have hle:off+l.length<=cells.length:=by omega
 rw[<-hcl0] at hk
 have hlen:(a.eval v).cells.toList.length=l.length:=Yq hvs
 have hrun:∀{ad:Addr} {w'},a.eval y = .pointer (some ad)->(storeCells ad (a.eval v).cells.toList).run P w = .ok () w'->(execOp a.eval oper).run P w = .ok .skip w':=fun {ad w'} hy hr=>by
  have hs1:(Go.sizeOf t).run P w = .ok 1 w:=YT hsz
  have hne:¬ (a.eval v).cells.size≠1:=by rw[<-hl,<-hlen];simp
  have hne2:(a.eval v).cells.size=1:=by simpa using hne
  simp [execOp,ho,Instr.storeAt,Instr.sureAddr,hy,storeVar,hs1,hne2,hr]
 have hput:∀ u,a.put oper.dst u=a:=fun u=>by rw[hdn];rfl
 obtain⟨cells',b,c,hs',hG,hv⟩:=hp
 rw[hs] at hs';cases hs'
 obtain⟨b2,c2,vs,ty,hG2,hh,hcs⟩:=h.ok.obs _ _ hs
 rw[hG] at hG2;cases hG2
 have hcl2:=Yq hcs
 have hvl:vs.size=cells.length:=by simpa using hcl2
 have hone:∀ u∈(a.eval v).cells.toList,u.oneCell'=true:=fun u hu=>by
  obtain⟨n,hn⟩:=Ubi hu
  have hnl:n<l.length:=by rw[<-hlen];exact(Uac.1 hn).1
  obtain⟨u',hu',hr⟩:=YB hvs n l[n] (by simp [hnl])
  rw[hn] at hu';cases hu'
  exact QZ hr (hcell _ (by simp))
 have hst:=run_storeCells_at P b off ty (a.eval v).cells.toList 0 vs w hh (by rw[hlen,hvl];simpa using hle) hone
 refine Res.of_skip (hrun hv hst) ?_
 rw[hput]
 generalize hnew:(vs.toList.take (off+0)++(a.eval v).cells.toList++vs.toList.drop (off+0+(a.eval v).cells.toList.length)).toArray=vs2
 have hb0:ZK G1 id (.bx cells) b:=⟨c,hG⟩
 have ht:=h.turn (Kl.refl st1) (id:=id) (ob':=.bx (JS cells off l)) (d:=none) (x:=.un) (v:=undef) (G':=G1) (w':=w.setRow b vs2) (fun h=>h) (.inr (by rw[hs];rfl)) (fun _ _=>rfl) (by simp)
  (fun blk _ hn=>setRow_other w b blk _ (fun hbb=>by subst hbb;exact hn _ hs hb0))
  (fun blk ho=>.inl ⟨id,_,.inl rfl,hs,ho⟩)
  (fun ob ho=>by rw[hs] at ho;cases ho;exact rfl)
  rfl rfl rfl (fun t=>⟨b,c,vs2,ty,hG,setRow_heap w b vs _ ty (0,0) hh,?_⟩) (fun cs hcs=>?_) (fun _ he=>by cases he) (fun _=>trivial)
 ·rw[Qa] at ht
  exact⟨_,_,hk,ht.1⟩
 ·have hsv:=ZbY l (a.eval v).cells.toList cells vs off hvs hcs hle
  have heq:(((a.eval v).cells.toList.zipIdx.foldl (fun(cs:Array Value) (cj:Value×Nat)=>cs.setIfInBounds (off+cj.2) cj.1) vs))=vs2:=by
   rw[<-hnew]
   apply Array.ext'
   have gen:∀(us:List Value) (k:Nat) (cs:Array Value),off+k+us.length<=cs.size->((us.zipIdx k).foldl (fun(cs:Array Value) (cj:Value×Nat)=>cs.setIfInBounds (off+cj.2) cj.1) cs).toList=cs.toList.take (off+k)++us++cs.toList.drop (off+k+us.length):=by
    intro us
    induction us with
    | nil=>intro k cs _;simp
    | cons u us ih =>
     intro k cs hle
     simp only[List.zipIdx_cons,List.foldl_cons,List.length_cons] at hle ⊢
     rw[ih (k+1) _ (by simp;omega)]
     simp only[Array.toList_setIfInBounds]
     have hlt:off+k<cs.toList.length:=by simp;omega
     have e1:(cs.toList.set (off+k) u).take (off+(k+1))=cs.toList.take (off+k)++[u]:=by
      apply Ubj
      intro n
      simp only[Uat,UbD,Ua8,Uas]
      have:min (off+k) cs.toList.length=off+k:=by omega
      rw[this]
      by_cases h1:n<off+k
      ·have h2:n<off+(k+1):=by omega
       have h3:¬ off+k=n:=by omega
       simp [h1,h2,h3]
      ·by_cases h2:n=off+k
       ·subst h2
        have h3:off+k<cs.size:=by simpa using hlt
        have h4:off+k<off+(k+1):=by omega
        simp [h3,h4]
       ·have h3:¬ n<off+(k+1):=by omega
        have h4:n-(off+k)≠0:=by omega
        simp [h1,h3]
        omega
     have e2:(cs.toList.set (off+k) u).drop (off+(k+1)+us.length)=cs.toList.drop (off+k+(us.length+1)):=by
      rw[List.drop_set_of_lt (by omega)]
      congr 1
      omega
     rw[e1,e2]
     simp
   have:=gen (a.eval v).cells.toList 0 vs (by rw[hlen,hvl];simpa using hle)
   simpa using this
  rw[heq] at hsv
  exact t.vrs _ _ (JD (fun _ _ h=>h) _ (V8 _)) hsv
 ·cases hcs
  have:∀(l cells:List IV) (off:Nat),Je (id.1+1) l->Je (id.1+1) cells->Je (id.1+1) (JS cells off l):=by
   intro l
   induction l with
   | nil=>intro cells off _ h;exact h
   | cons x r ih =>
    intro cells off h1 h2
    refine ih _ _ h1.2 ?_
    have:∀(cells:List IV) (off:Nat),Je (id.1+1) cells->Je (id.1+1) (cells.set off x):=by
     intro cells
     induction cells with
     | nil=>intro off h;exact h
     | cons y r ih =>
      intro off h
      cases off with
      | zero=>exact⟨h1.1,h.2⟩
      | succ n=>exact⟨h.1,ih n h.2⟩
    exact this cells off h2
  exact this l cells off hlo (h.ok.low _ _ hs)
end give
end Go.Fd

namespace Go.Fd
variable [Tabs]
section
variable {P:Program} {F:Fr} {G G':Gh} {S S':Zc} {st:St} {a:Act} {w w':World} {oper:Oper}
theorem ZlI{C:ZD}(h:Sim F G st a w){d:Option Nat}{K:St->Prop}(hd:d=oper.dst)(hdn:∀ y,d=some y->y<F.nt)(hc:Zj P .mk oper.op=true)(he:ew C d st K .mk):LOk P F a w oper K:=by
 subst hd
 simp only[Zj] at hc
 split at hc <;> try contradiction
 rename_i t ho
 simp only[ew] at he
 obtain⟨hfr,hK⟩:=he
 have h0:st.sto (st.lvl,keyOf oper.dst)=none:=by rw[V7 rfl];exact hfr.1
 obtain⟨G',hG⟩:∃ G':Gh,G'=fun i=>if i=(st.lvl,keyOf oper.dst) then fun _=>some (w.heap.size,0) else G i:=⟨_,rfl⟩
 have g0:G' (st.lvl,keyOf oper.dst) []=some (w.heap.size,0):=by rw[hG];simp
 have g1:∀ i,i≠(st.lvl,keyOf oper.dst)->G' i=G i:=fun i hi=>by rw[hG];exact if_neg hi
 have ht:=h.turn (Kl.refl st) (id:=(st.lvl,keyOf oper.dst)) (ob':=.mp []) (d:=oper.dst) (x:=.sv (st.lvl,keyOf oper.dst)) (v:=.map (some w.heap.size)) (G':=G') (w':=w.alloc (.map #[] 0)) (fun h=>h) (.inl rfl) g1 (by simp)
  (fun b hb _=>heap_alloc_old w _ b hb)
  (fun b hb=>by
   obtain⟨c,hc⟩:=hb
   rw[g0] at hc;cases hc
   exact .inr (Uag _))
  (fun ob hs=>by rw[h0] at hs;cases hs) rfl rfl rfl (fun t=>⟨_,_,_,_,g0,heap_alloc_new w _,rfl⟩) (fun _ he=>by cases he) hdn
  (fun t=>.inr ⟨[],_,_,by unfold Ze;rw[if_pos rfl],g0,rfl⟩)
 refine Res.of_run (v:=.map (some w.heap.size)) (w':=w.alloc (.map #[] 0)) ?_ ⟨_,G',hK,ht.1⟩
 simp [execOp,ho,Instr.makeMap,newObj,Sem.run]
theorem ZfE{t:TypeId}(h:WK P t=true):∃ a b,P.underlying t=some (.map a b)/\P.underlying a=some (.int .i64)/\DR P b=true:=by
 unfold WK at h
 split at h <;> try contradiction
 rename_i a b ht
 simp only[Uad] at h
 obtain⟨h1,h2⟩:=h
 split at h1 <;> try contradiction
 rename_i hk
 exact⟨a,b,ht,hk,h2⟩
theorem ZlJ{t:TypeId}(h:DR P t=true):∃ i,P.info? t=some i/\i.zero=some (.int .i64 0):=by
 unfold DR at h
 split at h <;> try contradiction
 rename_i i hi
 split at h <;> try contradiction
 rename_i n hz
 have:n=0:=by simpa using h
 subst this
 exact⟨i,hi,hz⟩
theorem ZlK{t:TypeId}{i:TypeInfo}{z:Value}(hi:P.info? t=some i)(hz:i.zero=some z):(zeroValue t).run P w = .ok z w:=by
 simp [zeroValue,typeInfo,hi,hz]
def Vw(a:Int):List (Int×Int)->Nat->Option (Nat×Int)
 | [],_=>none
 | (x,y)::r,i=>if a=x then some (i,y) else Vw a r (i+1)
theorem ZfF(a:Int):∀(l:List (Int×Int)) (i:Nat),(Vw a l i).map (·.2)=Vr a l
 | [],_=>rfl
 | (x,y)::r,i=>by
  simp only[Vw,Vr]
  split
  ·rfl
  ·exact ZfF a r (i+1)
theorem ZfG{kk:IntKind}{k:Int}:∀(es:List MapEntry) (l:List (Int×Int)) (i:Nat),es.map (fun e=>(e.key,e.val))=l.map (fun q=>(Value.int .i64 q.1,Value.int .i64 q.2)) ->
  Instr.findNow (.int kk) (.int .i64 k) es i=some ((Vw k l i).map fun q=>(q.1,Value.int .i64 q.2))
 | [],[],i,_=>rfl
 | [],_::_,_,h=>by simp at h
 | _::_,[],_,h=>by simp at h
 | e::es,(x,y)::l,i,h=>by
  simp only[UaB,List.cons.injEq,Ua0] at h
  obtain⟨⟨h1,h2⟩,h3⟩:=h
  simp only[Instr.findNow,h1,Instr.sameNow,if_true,Vw]
  by_cases hk:k=x
  ·subst hk;simp [h2]
  ·have hb:(k == x)=false:=by simpa using hk
   rw[hb,if_neg hk]
   exact ZfG es l (i+1) h3
theorem ZfH{a b:Int}:∀(l:List (Int×Int)) (i:Nat),Vw a l i=none->VZ a b l=l++[(a,b)]
 | [],_,_=>rfl
 | (x,y)::r,i,h=>by
  simp only[Vw] at h
  split at h <;> try contradiction
  rename_i hn
  simp only[VZ,if_neg hn,List.cons_append]
  rw[ZfH r (i+1) h]
theorem ZfI{a b y:Int}:∀(l:List (Int×Int)) (i n:Nat),Vw a l i=some (n,y)->i<=n/\l[n-i]? = some (a,y)/\VZ a b l=l.set (n-i) (a,b)
 | [],_,_,h=>by simp [Vw] at h
 | (x,z)::r,i,n,h=>by
  simp only[Vw] at h
  split at h
  ·rename_i hx
   cases h
   subst hx
   simp [VZ]
  ·rename_i hx
   obtain⟨h1,h2,h3⟩:=ZfI (b:=b) r (i+1) n h
   obtain⟨m,rfl⟩:∃ m,n=i+1+m:=⟨n-(i+1),by omega⟩
   have e1:i+1+m-(i+1)=m:=by omega
   have e2:i+1+m-i=m+1:=by omega
   rw[e1] at h2 h3
   refine⟨by omega,by rw[e2];simpa using h2,?_⟩
   rw[e2]
   simp only[VZ,if_neg hx,List.set_cons_succ,h3]
theorem ZfJ{t:TypeId}{k:Int}{es:List MapEntry}{l:List (Int×Int)}(h:P.underlying t=some (.int .i64))(hl:es.map (fun e=>(e.key,e.val))=l.map (fun q=>(Value.int .i64 q.1,Value.int .i64 q.2))) :
  (Instr.findKey t (.int .i64 k) es).run P w = .ok ((Vw k l 0).map fun q=>(q.1,Value.int .i64 q.2)) w:=MapKept.run_findKey h (ZfG es l 0 hl)
theorem ZfK{id:Zd}{l:List (Int×Int)}{v:Value}(hs:S id=some (.mp l))(h:DO G S id v):∃ b c,G id []=some (b,c)/\v = .map (some b):=by
 rcases h with ⟨_,b,c,h1,_⟩ | ⟨_,b,c,h1,h2,h3⟩
 ·rw[hs] at h1;cases h1
 ·exact⟨b,c,h2,h3⟩
theorem ZlL{C:ZD}(h:Sim F G st a w){m k:X}{d:Option Nat}{K:St->Prop}(hd:d=oper.dst)(hdn:∀ y,d=some y->y<F.nt)(hc:Zj P (.ml m k) oper.op=true)(he:ew C d st K (.ml m k)):LOk P F a w oper K:=by
 subst hd
 simp only[Zj] at hc
 split at hc <;> try contradiction
 rename_i t ym yk ho
 simp only[Uad] at hc
 obtain⟨⟨ht,hm⟩,hk⟩:=hc
 obtain⟨ta,tb,h1,h2,h3⟩:=ZfE ht
 obtain⟨ti,hti,hz⟩:=ZlJ h3
 have hm:=h.x hm
 have hk:=h.x hk
 simp only[ew,mlf] at he
 split at he <;> try contradiction
 rename_i id hq
 split at he <;> try contradiction
 rename_i l hs
 split at he <;> try contradiction
 rename_i n hkq
 rw[hq] at hm
 rw[hkq] at hk
 have hkv:a.eval yk = .int .i64 n:=(hk.val).1
 obtain⟨b,c,hg,hv⟩:=ZfK hs hm
 obtain⟨b',c',es,ck,hg',hh,hes⟩:=h.ok.obs _ _ hs
 rw[hg] at hg';cases hg'
 have hzv:=ZlK (P:=P) (w:=w) hti hz
 refine Res.of_run (v:=.tuple #[.int .i64 ((Vr n l).getD 0),.bool (Vr n l).isSome]) (w':=w) ?_ ⟨_,G,he,h.put (x:=.tu [iI ((Vr n l).getD 0),iB (Vr n l).isSome]) ?_ hdn⟩
 ·have hf:=ZfJ (P:=P) (w:=w) (k:=n) h2 hes
  have hck:=MapKept.run_checkKey (P:=P) (w:=w) (k:=.int .i64 n) h2 rfl es.isEmpty 9999
  have hget:=ZfF n l 0
  simp only[execOp,ho,Instr.lookup,Sem.run_bind,run_underlying h1,Result.andThen_ok,hv,hkv,MapKept.run_getObj_map hh,Sem.run_pure,hck,hf]
  rw[<-hget]
  cases hmf:Vw n l 0 with
  | none=>simp [hzv]
  | some q=>simp
 ·exact⟨[_,_],rfl,_,_,rfl,VR.mk rfl,_,_,rfl,VR.mk rfl,rfl⟩
theorem ZlM{C:ZD}(h:Sim F G st a w){m k x:X}{d:Option Nat}{K:St->Prop}(hd:d=oper.dst)(hc:Zj P (.mu m k x) oper.op=true)(he:ew C d st K (.mu m k x)):LOk P F a w oper K:=by
 simp only[ew] at he
 obtain⟨hdn,he⟩:=he
 subst hd
 have hput:∀ u,a.put oper.dst u=a:=fun u=>by rw[hdn];rfl
 have key:∀{t:TypeId} {ym yk yx:Operand},WK P t=true->Zt m ym=true->Zt k yk=true->Zt x yx=true ->
   (∀ w',(Instr.mapUpdate t (a.eval ym) (a.eval yk) (a.eval yx)).run P w = .ok () w'->(execOp a.eval oper).run P w = .ok .skip w')->LOk P F a w oper K:=fun {t ym yk yx} ht hm hk hx hrun=>by
  obtain⟨ta,tb,h1,h2,h3⟩:=ZfE ht
  have hm:=h.x hm
  have hk:=h.x hk
  have hx:=h.x hx
  simp only[muf] at he
  split at he <;> try contradiction
  rename_i id hq
  split at he <;> try contradiction
  rename_i l hs
  split at he <;> try contradiction
  rename_i n hkq
  split at he <;> try contradiction
  rename_i y hxq
  rw[hq] at hm
  rw[hkq] at hk
  rw[hxq] at hx
  have hkv:a.eval yk = .int .i64 n:=(hk.val).1
  have hxv:a.eval yx = .int .i64 y:=(hx.val).1
  obtain⟨b,c,hg,hv⟩:=ZfK hs hm
  obtain⟨b',c',es,ck,hg',hh,hes⟩:=h.ok.obs _ _ hs
  rw[hg] at hg';cases hg'
  have hf:=ZfJ (P:=P) (w:=w) (k:=n) h2 hes
  have hck:=MapKept.run_checkKey (P:=P) (w:=w) (k:=.int .i64 n) h2 rfl false 9999
  have hb0:ZK G id (.mp l) b:=⟨c,hg⟩
  have Jb:∀(es2:Array MapEntry) (ck2:Nat),(Instr.mapUpdate t (a.eval ym) (a.eval yk) (a.eval yx)).run P w = .ok () { w with heap:=w.heap.setIfInBounds b (.map es2 ck2) }->es2.toList.map (fun e=>(e.key,e.val))=(VZ n y l).map (fun q=>(Value.int .i64 q.1,Value.int .i64 q.2))->LOk P F a w oper K:=fun es2 ck2 hr hm2=>by
   obtain⟨k1,k2⟩:=MapKept.heap_set (o':=.map es2 ck2) hh
   have ht:=h.turn (Kl.refl st) (id:=id) (ob':=.mp (VZ n y l)) (d:=none) (x:=.un) (v:=undef) (G':=G) (w':={ w with heap:=w.heap.setIfInBounds b (.map es2 ck2) }) (fun h=>h) (.inr (by rw[hs];rfl)) (fun _ _=>rfl) (by simp)
    (fun blk _ hn=>k2 blk (fun hbb=>by subst hbb;exact hn _ hs hb0))
    (fun blk ho=>.inl ⟨id,_,.inl rfl,hs,ho⟩)
    (fun ob ho=>by rw[hs] at ho;cases ho;exact rfl)
    rfl rfl rfl (fun t=>⟨b,c,es2,ck2,hg,k1,hm2⟩) (fun _ hcs=>by cases hcs) (fun _ he=>by cases he) (fun _=>trivial)
   rw[Qa] at ht
   refine Res.of_skip (hrun _ hr) ?_
   rw[hput]
   exact⟨_,_,he,ht.1⟩
  cases hmf:Vw n l 0 with
  | none =>
   refine Jb (es.push ⟨.int .i64 n,.int .i64 y,ck⟩) (ck+1) ?_ ?_
   ·simp [Instr.mapUpdate,run_underlying h1,hv,hkv,hxv,MapKept.run_getObj_map hh,hck,hf,hmf,MapKept.run_setObj_map _ hh,Result.andThen]
   ·rw[ZfH l 0 hmf,Array.toList_push,UaS,UaS,hes]
    rfl
  | some q =>
   obtain⟨j,z⟩:=q
   obtain⟨_,g2,g3⟩:=ZfI (b:=y) l 0 j hmf
   simp only[Nat.sub_zero] at g2 g3
   have hlen:es.toList.length=l.length:=by have:=congrArg List.length hes;simpa using this
   have hjl:j<l.length:=(Uac.1 g2).1
   obtain⟨e0,he0⟩:∃ e0,es.toList[j]? = some e0:=⟨_,Uaf (by omega)⟩
   have hj:es[j]? = some e0:=by simpa using he0
   have hkv2:(e0.key,e0.val)=(Value.int .i64 n,Value.int .i64 z):=by
    have h5:(es.toList.map fun e=>(e.key,e.val))[j]? = some (e0.key,e0.val):=by rw[Uan,he0];rfl
    rw[hes,Uan,g2] at h5
    simpa using h5.symm
   have hkk:e0.key=Value.int .i64 n:=congrArg Prod.fst hkv2
   have hstay:=MapKept.run_keyThatStays (P:=P) (w:=w) (d:=.int .i64) (k:=.int .i64 n) rfl
   refine Jb (es.modify j (fun e=>{ e with key:=.int .i64 n,val:=.int .i64 y })) ck ?_ ?_
   ·simp [Instr.mapUpdate,run_underlying h1,hv,hkv,hxv,MapKept.run_getObj_map hh,hck,hf,hmf,hj,hkk,hstay,MapKept.run_setObj_map _ hh,Result.andThen]
   ·rw[g3,Ube,<-hes]
    apply Ubj
    intro i
    rw[Uan,Ua8,Uan,Uab]
    have:(es.modify j (fun e=>{ e with key:=.int .i64 n,val:=.int .i64 y })).toList[i]? = if j=i then es.toList[i]?.map (fun e=>{ e with key:=.int .i64 n,val:=.int .i64 y }) else es.toList[i]?:=by
     simp only[Array.getElem?_toList,Array.getElem?_modify]
    rw[this]
    by_cases hij:j=i
    ·subst hij
     rw[if_pos rfl,if_pos rfl,if_pos (by omega),he0]
     rfl
    ·rw[if_neg hij,if_neg hij]
 simp only[Zj] at hc
 split at hc <;> try contradiction
 all_goals
  rename_i t ym yk yx ho
  simp only[Uad] at hc
  obtain⟨⟨⟨ht,hm⟩,hk⟩,hx⟩:=hc
  exact key ht hm hk hx fun w' hr=>by simp [execOp,ho,hr]
theorem ZlN{C:ZD}(h0:Sim F G st a w){key n:Nat}{p:X}{d:Option Nat}{K:St->Prop}(hd:d=oper.dst)(hc:Zj P (.sk key p n) oper.op=true)(he:ew C d st K (.sk key p n)):LOk P F a w oper K:=by
 have hc':Zj P (.st 1 p (.t n)) oper.op=true:=by simpa only[Zj] using hc
 have Jb:∀{G2:Gh} {st2:St},d=none->Sim F G2 st2 a w->DN p (.t n) K st2->LOk P F a w oper K:=fun {G2 st2} hdn h2 he2=>by
  refine Zcg (C:=C) h2 hd hc' ?_
  simp only[ew,DN] at he2 ⊢
  refine⟨hdn,?_⟩
  split at he2 <;> try contradiction
  rename_i l hcl
  obtain⟨hl,he2⟩:=he2
  refine⟨hl,?_⟩
  split at he2 <;> try contradiction
  rename_i hq
  simp only[hq]
  exact he2
 simp only[ew] at he
 obtain⟨hdn,he⟩:=he
 unfold rkk at he
 split at he <;> try contradiction
 rename_i id len s hq
 obtain⟨hl,he⟩:=he
 split at he
 ·exact Jb hdn h0 he
 ·rename_i hne
  split at he <;> try contradiction
  rename_i k zs u hw ver hs
  obtain⟨rfl,rfl,he⟩:=he
  have hx:=h0.env n
  rw[hq] at hx
  obtain⟨s1,s2,s3,s4⟩:=Zfy h0 (id0:=(st.lvl,key)) rfl
  have hne':(st.lvl,key)≠id:=fun e=>hne (by rw[<-e])
  have hs':=s4 id (Ne.symm hne') _ _ _ _ _ hs
  have hx':=s1.vr (.hd id [] 0 zs.length none s) (a.tmps.getD n undef) (show ((Y0 (st.lvl,key) st).sto id).isSome=true by rw[hs'];rfl) hx
  have hnt:n<F.nt:=by
   by_cases hlt:n<F.nt
   ·exact hlt
   ·exfalso
    obtain⟨⟨a0,c0,hv0,_⟩,_⟩:=hx
    rw[Uay,Array.getElem?_eq_none (by rw[h0.sz];omega)] at hv0
    simp [undef] at hv0
  obtain⟨G',hG'⟩:=s1.sim.ren (d:=some n) (v:=a.tmps.getD n undef) (id0:=(st.lvl,key)) (hl.trans s3.symm) s3.symm hne' hs' s2 (fun y hy=>by cases hy;exact hnt) hx'
  have hput:a.put (some n) (a.tmps.getD n undef)=a:=by
   have he:a.tmps.setIfInBounds n (a.tmps.getD n undef)=a.tmps:=by
    apply Array.ext'
    apply Ubj
    intro i
    rw[Array.toList_setIfInBounds,Ua8]
    split
    ·rename_i hi
     subst hi
     split
     ·rename_i hlt
      rw[Uaf hlt]
      simp at hlt
      simp [Array.getD,hlt]
     ·rename_i hlt
      rw[Ua1 (by omega)]
    ·rfl
   simp only[Act.put,he]
  rw[hput] at hG'
  exact Jb hdn hG' he
end
variable [Tabs]
section
variable {P:Program} {F:Fr} {G G':Gh} {st:St} {a:Act} {w w':World} {oper:Oper} {K:JU} {b:Nat}
theorem Sim.gotA(h:Sim F G st a w){loc':List (Nat×Ob)}{out':Zc}{d:Option Nat}{key:Nat}{x:IV}{obs:List Ob}{v:Value}(hg:UA G st.sto (Zy st.lvl loc' out') w st.lvl key x obs v w')
  (hcl:∀ id ob,Zy st.lvl loc' out' id=some ob->id.1<st.lvl+1) (ho:∀ i,i.1=st.lvl->out' i=st.out i) (hd:∀ y,d=some y->y<F.nt) :
  ∃ G',Sim F G' { st with env:=ptd d x st.env,loc:=addO key obs loc',out:=out' } (a.put d v) w':=by
 obtain⟨G',h1,h2,h3⟩:=hg
 have hsto:({ st with env:=ptd d x st.env,loc:=addO key obs loc',out:=out' }:St).sto=ZP (Zy st.lvl loc' out') st.lvl key obs:=by
  have:=Zcm obs key { st with loc:=loc',out:=out' }
  exact this
 refine⟨G',by cases d <;> exact h.dfr,by cases d <;> simp [Act.put,h.sz],fun s=>?_,by rw[hsto];exact h1,h.lvl,?_,by rw[hsto];exact h.fr.trans h3 (by show F.lvl<=st.lvl+1;rw[h.lvl];omega),h.fix⟩
 ·rw[hsto,Act.put_get a d v s (by rw[h.sz];exact hd)]
  have h0:=h3.stab _ _ (h.men_lt (h.env s)) (h.env s)
  cases d with
  | none=>simpa [ptd] using h0
  | some d =>
   simp only[ptd,Uak]
   rw[X3]
   by_cases hs:s=d
   ·rw[if_pos hs,if_pos hs.symm];exact h2
   ·rw[if_neg hs,if_neg (fun e=>hs e.symm)];exact h0
 ·intro id ob hs
  have hs:out' id=some ob:=hs
  have hn:id.1≠st.lvl:=fun hn=>by
   rw[ho id hn] at hs
   have:=h.outl id ob hs
   omega
  have:=hcl id ob (by unfold Zy;rw[if_neg hn];exact hs)
  show id.1<st.lvl
  omega
theorem ZlO{lvl:Nat}{loc:List (Nat×Ob)}{out:Zc}:∀{n b:Nat},freshK b loc n->Ys (Zy lvl loc out) lvl b n:=fun {n b} h =>
 UO (st:=⟨lvl,[],loc,out⟩) h
theorem ZlP(h:Sim F G st a w){imp:Bool}{f:X}{xs:List X}{d:Option Nat}{Kw:St->Prop}(hd:d=oper.dst)(hdn:∀ y,d=some y->y<F.nt)(hc:Zj P (.ca .any imp f xs) oper.op=true)
  (he:ew (Sem P) d st Kw (.ca .any imp f xs)):LOk P F a w oper Kw:=by
 subst hd
 simp only[Zj] at hc
 split at hc <;> try contradiction
 rename_i g args at1 ho
 simp only[Uad] at hc
 have hg:=h.x hc.1
 have hargs:=h.xs hc.2
 simp only[ew] at he
 split at he <;> try contradiction
 rename_i fid caps hq
 obtain⟨r,loc',out',hou,⟨hr,⟨fn,hf,hb,hn⟩,hcall⟩,hfr,hk⟩:=he
 rw[hq] at hg
 simp only[VR] at hg
 obtain⟨cvs,hg,hcv⟩:=hg
 have hcl:=h.clean
 have hrun:=WO (P:=P) (w:=w) (caps:=cvs) ho hg hf hb hn
 have hc:=hcall hcl G w (args.toList.map a.eval++cvs) h.ok (Uw (Zcn hargs) hcv) (h.fr.fix h.fix)
 refine Res.of_enter hrun ?_
 have harr:(args.map a.eval++cvs.toArray)=(args.toList.map a.eval++cvs).toArray:=by cases args;simp
 rw[harr]
 refine hc.mono ?_
 rintro e w' ⟨v,G1,rfl,h1,h2,hcl',h3⟩
 have hgot:=UH (l:=st.lvl) (b:=keyOf oper.dst) (imp:=imp) hr hcl' h1 h2 h3 (ZlO hfr)
 obtain⟨G',hG'⟩:=h.gotA hgot hcl' hou hdn
 exact⟨v,rfl,_,G',hk,hG'⟩
theorem ZlQ(h:Sim F G st a w){d:Option Nat}{Kw:St->Prop}(hd:d=oper.dst)(hdn:∀ y,d=some y->y<F.nt):∀(o:O),Jr o=true->Zj P o oper.op=true->ew (Sem P) d st Kw o->LOk P F a w oper Kw
 | .st m p x,_,hc,he=>Zcg h hd hc he
 | .gv key p x,_,hc,he=>ZlH h hd hc he
 | .mk,_,hc,he=>ZlI h hd hdn hc he
 | .mu m k x,_,hc,he=>ZlM h hd hc he
 | .ml m k,_,hc,he=>ZlL h hd hdn hc he
 | .sk key p n,_,hc,he=>ZlN h hd hc he
 | .bw k n z ps,_,hc,he=>Zk5 h hd hdn hc he
 | .ap k md x y,_,hc,he=>UN h hd hdn hc he
 | .nl neg x,_,hc,he=>Zlp h hd hdn hc he
 | .cp x,_,hc,he=>Zlq h hd hdn hc he
 | .sh k x hi,_,hc,he=>Zlr h hd hdn hc he
 | .cl k z x,_,hc,he=>Zlz h hd hdn hc he
 | .cy k x y,_,hc,he=>ZfD h hd hdn hc he
 | .c0 k x y,_,hc,he=>ZfD h hd hdn (by simpa only[Zj] using hc) (ZfC he)
 | .fz x,_,hc,he=>Zlt h hd hdn hc he
 | .rk x,_,hc,he=>Zlu h hd hdn hc he
 | .mz f cs,_,hc,he=>Zlx h hd hdn hc he
 | .lz m p,_,hc,he=>Zly h hd hdn hc he
 | .a1 k x y,_,hc,he=>Zld h hd hdn hc he
 | .a2 k x y,_,hc,he=>Zlf h hd hdn hc he
 | .a4 k x y,_,hc,he=>Zlg h hd hdn hc he
 | .xx,_,_,he=>False.elim he
 | .s0 m p x,_,hc,he=>Zk4 h hd hc he
 | .a0 k x y,_,hc,he=>Zlc h hd hdn hc he
 | .az k z x n,_,hc,he=>ZlG h hd hdn hc he
 | .ca .same imp f xs,_,hc,he=>Zln h hd hdn hc he
 | .ca .keep imp f xs,_,hc,he=>Zlo h hd hdn hc he
 | .ca .any imp f xs,_,hc,he=>ZlP h hd hdn hc he
theorem ZfL(h:Sim F G st a w){d:Option Nat}{o:O}{Kw:St->Prop}(hd:d=oper.dst)(hdn:∀ y,d=some y->y<F.nt)(hc:Zj P o oper.op=true)(he:Zu (Sem P) d o st Kw):LOk P F a w oper Kw:=by
 unfold Zu at he
 split at he
 ·rename_i hl;exact ZlQ h hd hdn o hl hc he
 ·rename_i hl
  have:=Zll (b:=keyOf d) h o (by simpa using hl) (fun mk obs hk=>UO hk.1) hc he
  refine this.mono ?_
  rintro v w' ⟨mk,obs,⟨_,hk⟩,hg⟩
  obtain⟨G',hs⟩:=h.got hg hdn
  subst hd
  exact⟨_,G',hk,hs⟩
theorem LOk.wp{o:Oper}{Kw:St->Prop}{next:Act->World->Prop}{Q:Exit->Act->World->Prop}(h:LOk P F a w o Kw)(hn:∀ st' G' a' w',Kw st'->Sim F G' st' a' w'->next a' w'):o.wp P a w next Q :=
 h next Q fun _ _ ⟨st',G',hk,hs⟩=>hn st' G' _ _ hk hs
theorem Sim.known(h:Sim F G st a w){j:Nat}{c:Bool}(hj:lk j st.env = .tr (.v (.bool c)))(x:IV)(hx:x=iB c):Sim F G { st with env:=pt j x st.env } a w:=by
 refine⟨h.dfr,h.sz,fun t=>?_,h.ok,h.lvl,h.outl,h.fr,h.fix⟩
 show VR G st.sto w (lk t (pt j x st.env)) _
 rw[X3]
 split
 ·rename_i ht;subst ht hx;have:=h.env t;rw[hj] at this;exact this
 ·exact h.env t
theorem Zcq(h:Sim F G st a w){ops:Array Oper}{o:OP}{Kw:St->Prop}{next:Act->World->Prop}{Q:Exit->Act->World->Prop}(hc:DS P F.nt ops o oper=true)(he:JV (Sem P) o st Kw)
  (hn:∀ st' G' a' w',Kw st'->Sim F G' st' a' w'->next a' w'):if Region.wanted oper (yielded ops a.tmps)=true then oper.wp P a w next Q else next (a.put oper.dst undef) w:=by
 unfold DS at hc
 simp only[Uad,decide_eq_true_eq] at hc
 obtain⟨⟨⟨hd,hdn⟩,hg⟩,hc⟩:=hc
 have hdn':∀ y,o.d=some y->y<F.nt:=fun y hy=>by rw[hy] at hdn;simpa using hdn
 unfold JV at he
 unfold Region.wanted
 split at hg
 ·rename_i hg1 hg2
  rw[hg1] at he
  rw[hg2,if_pos rfl]
  exact(ZfL h hd hdn' hc he).wp hn
 ·rename_i j w1 g w2 hg1 hg2
  rw[hg1] at he
  simp only[hg2]
  simp only[Uad,beq_iff_eq,decide_eq_true_eq] at hg
  obtain⟨rfl,hg⟩:=hg
  have hskip:VR G st.sto w (.tu []) undef:=⟨[],rfl,rfl⟩
  simp only at he
  split at he <;> try contradiction
  ·rename_i c hl
   have hv:=h.env j
   rw[hl] at hv
   have hv:=hv.val.1
   have hy:yielded ops a.tmps g=some c:=by
    unfold yielded
    rw[hg]
    simp only[Option.bind_some]
    have hb:a.tmps[j]? = some (.bool c):=by
     rw[Uay] at hv
     cases hq:a.tmps[j]? with
     | none=>rw[hq] at hv;simp [undef] at hv
     | some u=>rw[hq] at hv;simp at hv;rw[hv]
    rw[hb]
   rw[hy]
   by_cases hcw:c=w1
   ·rw[if_pos (by simp [hcw])]
    have h':=h.known hl (iB w1) (by rw[hcw])
    exact(ZfL h' hd hdn' hc (he.1 hcw)).wp hn
   ·rw[if_neg (by simp [hcw])]
    have hcw':c = !w1:=by cases c <;> cases w1 <;> simp_all
    have h':=h.known hl (iB !w1) (by rw[hcw'])
    have:=h'.put (d:=o.d) (x:=.tu []) (v:=undef) hskip hdn'
    refine hn _ G _ _ (he.2 hcw') ?_
    rw[<-hd]
    exact this
  ·rename_i hl
   have hv:=h.env j
   rw[hl] at hv
   obtain⟨vs,hv,hvs⟩:=hv
   simp only[Zn] at hvs
   subst hvs
   have hy:yielded ops a.tmps g=none:=by
    unfold yielded
    rw[hg]
    simp only[Option.bind_some]
    rw[Uay] at hv
    cases hq:a.tmps[j]? with
    | none=>rfl
    | some u=>rw[hq] at hv;simp at hv;rw[hv]
   rw[hy,if_neg (by simp)]
   refine hn _ G _ _ he ?_
   rw[<-hd]
   exact h.put (d:=o.d) (x:=.tu []) (v:=undef) hskip hdn'
 ·cases hg
end
variable [Tabs]
theorem Zcr(ks:List Nat)(t:Nat):∀ env,lk t (Qr ks env)=if t∈ks then lk t env else .un
 | []=>by simp [Qr,lk]
 | (s,x)::r=>by
  simp only[Qr]
  by_cases hs:s∈ks
  ·rw[if_pos hs]
   simp only[lk]
   by_cases ht:t=s
   ·subst ht;simp [hs]
   ·rw[if_neg ht,if_neg ht];exact Zcr ks t r
  ·rw[if_neg hs,Zcr ks t r]
   simp only[lk]
   by_cases ht:t=s
   ·subst ht;simp [hs]
   ·rw[if_neg ht]
theorem Zal(js:List Nat)(t:Nat):∀ loc,lkO t (QO js loc)=if t∈js then lkO t loc else none
 | []=>by simp [QO,lkO]
 | (s,x)::r=>by
  simp only[QO]
  by_cases hs:s∈js
  ·rw[if_pos hs]
   simp only[lkO]
   by_cases ht:t=s
   ·subst ht;simp [hs]
   ·rw[if_neg ht,if_neg ht];exact Zal js t r
  ·rw[if_neg hs,Zal js t r]
   simp only[lkO]
   by_cases ht:t=s
   ·subst ht;simp [hs]
   ·rw[if_neg ht]
theorem ZfM{l:Nat}{js:List Nat}{t:Nat}:∀{env:List (Nat×IV)},XZ l js env->JW l js (lk t env)
 | [],_=>trivial
 | (s,x)::r,h=>by
  simp only[lk]
  split
  ·exact h.1
  ·exact ZfM h.2
theorem Zam{l:Nat}{js:List Nat}{t:Nat}{cells:List IV}:∀{loc:List (Nat×Ob)},VJ l js loc->lkO t loc=some (.bx cells)->Vs l js cells
 | [],_,h=>by cases h
 | (s,.bx c)::r,h,hl=>by
  simp only[lkO] at hl
  split at hl
  ·cases hl;exact h.1
  ·exact Zam h.2 hl
 | (s,.ar ..)::r,h,hl=>by
  simp only[lkO] at hl
  split at hl
  ·cases hl
  ·exact Zam (loc:=r) h hl
 | (s,.mp _)::r,h,hl=>by
  simp only[lkO] at hl
  split at hl
  ·cases hl
  ·exact Zam (loc:=r) h hl
section
variable {P:Program} {F:Fr} {G G':Gh} {st:St} {a:Act} {w w':World} {oper:Oper} {ks js:List Nat}
theorem Zcs(st:St)(i:Zd):(fgt ks js st).sto i=if i.1=st.lvl then (if i.2∈js then lkO i.2 st.loc else none) else st.out i:=by
 unfold St.sto Zy fgt
 simp only[Zal]
theorem Sim.fgt(h:Sim F G st a w)(hc:Fd.clean ks js st):Sim F G (Fd.fgt ks js st) a w:=by
 have del:Del st.sto (Fd.fgt ks js st).sto (fun i=>i.1=st.lvl->i.2∈js):=by
  refine⟨fun i ob hs hp=>?_,fun i ob hs=>?_,fun i cells hs=>?_⟩
  ·rw[Zcs]
   split
   ·rename_i hi;rw[if_pos (hp hi),<-V7 hi];exact hs
   ·rename_i hi;rw[<-Yt hi];exact hs
  ·rw[Zcs] at hs
   split at hs
   ·rename_i hi
    split at hs
    ·rename_i hj;exact⟨by rw[V7 hi];exact hs,fun _=>hj⟩
    ·cases hs
   ·rename_i hi;exact⟨by rw[Yt hi];exact hs,fun h=>absurd h hi⟩
  ·rw[Zcs] at hs
   split at hs
   ·rename_i hi
    split at hs
    ·rename_i hj
     exact Zam (t:=i.2) hc.2 (by rw[Zal,if_pos hj];exact hs)
    ·cases hs
   ·rename_i hi
    have h1:=h.outl i _ hs
    have h2:=h.ok.low i cells (by rw[Yt hi];exact hs)
    refine JD (fun j hj=>fun hl=>?_) cells h2
    have hj:j.1<i.1+1:=hj
    omega
 refine⟨h.dfr,h.sz,fun t=>?_,del.ok h.ok,h.lvl,h.outl,⟨h.fr.size,h.fr.old,fun i ob b hs=>h.fr.own i ob b (del.only i ob hs).1,h.fr.os,h.fr.tape,h.fr.output,fun x v hx hv=>?_⟩,h.fix⟩
 ·show VR G _ w (lk t (Qr ks st.env)) _
  have hm:=ZfM (t:=t) hc.1
  refine del.vr _ _ hm ?_
  rw[Zcr]
  split
  ·exact h.env t
  ·trivial
 ·refine del.vr x v (JL (fun j hj=>fun hl=>?_) x hx) (h.fr.stab x v hx hv)
  have hj:j.1<F.lvl:=hj
  rw[<-h.lvl] at hj
  omega
theorem ZfN{ops:Array Oper}{Q:Exit->Act->World->Prop}{K:St->Prop}:∀(l:List OP) (r:List Oper) (i:Nat) (st:St) (G:Gh) (a:Act) (w:World),Sim F G st a w->QU P F.nt ops l r=true ->
  ops.toList.drop i=r->YG (Sem P) l st K->(∀ st' G' a' w',K st'->Sim F G' st' a' w'->Q .normal a' w')->wpOps P ops Q (List.range' i r.length) a w
 | [],r,i,st,G,a,w,h,hc,hr,he,hq=>by
  cases r with
  | nil=>exact hq st G a w he h
  | cons=>cases hc
 | o::l,r,i,st,G,a,w,h,hc,hr,he,hq=>by
  cases r with
  | nil=>cases hc
  | cons oper s =>
   simp only[QU,Uad] at hc
   have hi:ops[i]? = some oper:=by
    have:=congrArg (fun l=>l[0]?) hr
    simpa using this
   have hs:ops.toList.drop (i+1)=s:=by
    rw[<-Ubz,hr];rfl
   have key:=Zcq (ops:=ops) (Q:=Q) (next:=wpOps P ops Q (List.range' (i+1) s.length)) h hc.1 he (fun st' G' a' w' hk h' => ZfN l s (i+1) st' G' a' w' h' hc.2 hs hk hq)
   rw[List.length_cons,List.range'_succ]
   simp only[wpOps,hi]
   by_cases hw:Region.wanted oper (yielded ops a.tmps)=true
   ·rw[if_pos hw] at key ⊢;exact .inl key
   ·rw[if_neg hw] at key ⊢;exact key
def ZlR:Ex->Exit
 | .nrm=>.normal
 | .ext i=>.exit i
 | .ret=>.ret
end
end Go.Fd

namespace Go.Fd
variable [Tabs]
def rd:O->List X
 | .mv x _ | .bx x | .nt x | .ng x | .cv _ x | .ms _ _ x | .fa _ x | .fd _ _ x | .ln x | .lg x | .ex _ x | .nc x | .ld _ x | .lt _ x | .lz _ x | .bt x | .sa _ x | .sb x | .nl _ x | .cp x | .cl _ _ x | .fz x | .rk x=>[x]
 | .al .. | .la _ | .xx | .mk=>[]
 | .mu m k x=>[m,k,x]
 | .ml m k=>[m,k]
 | .sk _ p n=>[p,.t n]
 | .bd _ ps _=>ps.map (·.2.2)
 | .bs _ _ _ ps | .bw _ _ _ ps | .bv _ _ _ ps=>ps.map (·.2)
 | .st _ p x | .s0 _ p x | .gv _ p x=>[p,x]
 | .bi _ _ x y | .qa _ _ x y | .mm _ x y | .ap _ _ x y | .ia _ x y | .it _ x y | .ja _ _ x y | .ix x y | .jx _ _ _ x y | .sh _ x y | .cy _ x y | .c0 _ x y | .a2 _ x y | .a4 _ x y | .a3 _ x y | .a0 _ x y | .a1 _ x y | .az _ _ x y=>[x,y]
 | .mf _ cs | .mz _ cs=>cs
 | .lb _ x q=>x::(q.map X.t).toList
 | .sx _ x lo hi mx | .sy _ x lo hi mx | .sw _ x lo hi mx=>x::(lo.toList++(hi.toList++mx.toList))
 | .ss x lo hi=>x::(lo.toList++hi.toList)
 | .pk c a b=>[c,a,b]
 | .ca _ _ f xs=>f::xs
theorem Zct{ρ ρ':X->IV}{p:X}{q:Option Nat}(h:∀ x∈p::(q.map X.t).toList,ρ' x=ρ x):Vb ρ' p q↔Vb ρ p q:=by
 cases q with
 | none=>exact Ubt
 | some q =>
  show Va (ρ' p) (ρ' (.t q))↔Va (ρ p) (ρ (.t q))
  rw[h p (by simp),h (.t q) (by simp)]
def Rel{α:Type}(T:(α->Prop)->Prop):Prop:=∃ R:α->Prop,∀ K,T K↔∃ r,R r/\K r
section
variable {α β:Type} {T:(α->Prop)->Prop}
theorem Z4:Rel (fun(_:α->Prop)=>False):=⟨fun _=>False,fun K=>by simp⟩
theorem ZW(r:α):Rel (fun(K:α->Prop)=>K r):=⟨fun s=>s=r,fun K=>by simp⟩
theorem Zz{p:Prop}(h:Rel T):Rel (fun K=>p/\T K):=by
 obtain⟨R,hR⟩:=h
 exact⟨fun r=>p/\R r,fun K=>by
   simp only[hR];constructor
   ·rintro⟨hp,r,h1,h2⟩;exact⟨r,⟨hp,h1⟩,h2⟩
   ·rintro⟨r,⟨hp,h1⟩,h2⟩;exact⟨hp,r,h1,h2⟩⟩
theorem Q3{U:β->(α->Prop)->Prop}(h:∀ y,Rel (U y)):Rel (fun K=>∃ y,U y K):=by
 refine⟨fun r=>∃ y,(h y).choose r,fun K=>?_⟩
 constructor
 ·rintro⟨y,hy⟩
  obtain⟨r,h1,h2⟩:=((h y).choose_spec K).1 hy
  exact⟨r,⟨y,h1⟩,h2⟩
 ·rintro⟨r,⟨y,h1⟩,h2⟩
  exact⟨y,((h y).choose_spec K).2 ⟨r,h1,h2⟩⟩
theorem Z5{U:α->(β->Prop)->Prop}(ht:Rel T)(h:∀ y,Rel (U y)):Rel (fun K=>T fun y=>U y K):=by
 obtain⟨R,hR⟩:=ht
 have h1:(fun K=>T fun y=>U y K)=fun K=>∃ y,R y/\U y K:=by funext K;exact propext (hR _)
 rw[h1]
 exact Q3 fun y=>Zz (h y)
theorem Jk{T':(α->Prop)->Prop}(h:∀ K,T K↔T' K)(ht:Rel T'):Rel T:=by
 have:T=T':=funext fun K=>propext (h K)
 rw[this];exact ht
theorem Rel.ex(h:Rel T){K:α->Prop}(ht:T K):∃ r,K r/\T (fun s=>s=r):=by
 obtain⟨R,hR⟩:=h
 obtain⟨r,h1,h2⟩:=(hR K).1 ht
 exact⟨r,h2,(hR _).2 ⟨r,h1,rfl⟩⟩
theorem Rel.mono(h:Rel T){K K':α->Prop}(hk:∀ r,K r->K' r)(ht:T K):T K':=by
 obtain⟨R,hR⟩:=h
 obtain⟨r,h1,h2⟩:=(hR K).1 ht
 exact(hR _).2 ⟨r,h1,hk r h2⟩
end
theorem ZlS{op:BinOp}{w:Nat}{a b:Value}:Rel (Jj op w a b):=by
 by_cases h:∃ r p,∀ K,Jj op w a b K↔p/\K r
 ·obtain⟨r,p,h⟩:=h
  exact Jk h (Zz (ZW r))
 ·refine Jk (T':=fun _=>False) (fun K=>⟨fun hk=>h ?_,False.elim⟩) Z4
  unfold Jj at hk
  split at hk <;> first
   | exact hk.elim
   | exact⟨_,_,fun K=>by simp only[Jj];rw[and_assoc]⟩
   | exact⟨_,_,fun K=>by simp only[Jj];rw[<-and_assoc]⟩
   | exact⟨_,_,fun K=>by simp only[Jj];rw[<-and_assoc,<-and_assoc]⟩
   | exact⟨_,_,fun K=>by simp only[Jj];rw[<-and_assoc,<-and_assoc,<-and_assoc]⟩
   | exact⟨_,_,fun K=>by simp only[Jj];exact Ubt⟩
   | exact⟨_,True,fun K=>by simp only[Jj,true_and];exact Ubt⟩
theorem ZlT{q:Nat}{x y:IV}:Rel (Qo q x y):=by
 by_cases h:∃ r p,∀ K,Qo q x y K↔p/\K r
 ·obtain⟨r,p,h⟩:=h
  exact Jk h (Zz (ZW r))
 ·refine Jk (T':=fun _=>False) (fun K=>⟨fun hk=>h ?_,False.elim⟩) Z4
  unfold Qo at hk
  split at hk <;> first
   | exact hk.elim
   | exact⟨_,_,fun K=>by simp only[Qo];exact Ubt⟩
   | exact⟨_,True,fun K=>by simp only[Qo,true_and];exact Ubt⟩
theorem ZfO:∀{qs:List Nat} {x y:List IV},Rel (Yo qs x y)
 | [],[],[]=>Jk (fun _=>by simp only[Yo]) (ZW true)
 | q::qs,x::r,y::s=>Jk (fun _=>by simp only[Yo]) (Z5 (ZlT (q:=q) (x:=x) (y:=y)) fun a=>Z5 (ZfO (qs:=qs) (x:=r) (y:=s)) fun b=>ZW (a&&b))
 | [],[],_::_=>Jk (fun _=>by simp only[Yo]) Z4
 | [],_::_,_=>Jk (fun _=>by simp only[Yo]) Z4
 | _::_,[],_=>Jk (fun _=>by simp only[Yo]) Z4
 | _::_,_::_,[]=>Jk (fun _=>by simp only[Yo]) Z4
theorem bndI_rel{ρ:X->IV}{x:Option X}{n:Nat}:Rel (ZO ρ x n):=by
 cases x with
 | none=>exact Jk (fun _=>by simp only[ZO]) (ZW n)
 | some x =>
  by_cases h:∃ k m,ρ x = .tr (.v (.int k m))
  ·obtain⟨k,m,h⟩:=h
   exact Jk (fun _=>by simp only[ZO,h]) (Zz (p:=0<=m) (ZW m.toNat))
  ·refine Jk (T':=fun _=>False) (fun K=>⟨fun hk=>h ?_,False.elim⟩) Z4
   simp only[ZO] at hk
   split at hk
   ·exact⟨_,_,‹_›⟩
   ·exact hk.elim
abbrev MO:=(Nat->Nat->IV)×(Nat->Nat->List Ob)
section
variable {C:ZD} {ρ:X->IV} {L:Zc}
theorem ZfP{k:Nat}:∀(ps:List (Nat×X)) (es:Row) (u:Bool),Rel (fun K:Row×Bool->Prop=>YQ ρ k ps es u (fun a b=>K (a,b)))
 | [],es,u=>by simp only[YQ];exact ZW (es,u)
 | (i,x)::r,es,u=>by
  simp only[YQ]
  split
  ·split
   ·exact Zz (Zz (ZfP r _ _))
   ·exact Z4
  ·exact Z4
theorem Zcu{id:Zd}{p:Zf}{st:Nat}:Rel (fun K:Row×Bool×Nat->Prop=>JG L id p st fun a b c=>K (a,b,c)):=by
 simp only[JG]
 split
 ·exact Q3 fun _=>Zz (Zz (ZW _))
 ·exact Z4
theorem ZlU{L:Zc}:∀(x:IV),Rel (Y9 L x):=by
 intro x
 cases x with
 | tr t=>exact Jk (fun _=>by simp only[Y9];exact Ubt) (ZW _)
 | cs es=>exact Jk (fun _=>by simp only[Y9];exact Ubt) (ZW _)
 | hd id p off len c st=>exact Jk (fun _=>by simp only[Y9]) (Z5 (Zcu (L:=L) (id:=id) (p:=p) (st:=st)) (U:=fun y K=>off+len<=y.1.length/\K (.sl (cut y.1 off len))) fun _=>Zz (ZW _))
 | _=>exact Jk (fun _=>by simp only[Y9]) Z4
theorem ZfQ{L:Zc}:∀(l:List IV),Rel (Yn L l)
 | []=>Jk (fun _=>by simp only[Yn];exact Ubt) (ZW _)
 | x::r=>Jk (fun _=>by simp only[Yn]) (Z5 (ZlU (L:=L) x) (U:=fun t K=>Yn L r fun ts=>K (t::ts)) fun t=>Z5 (ZfQ (L:=L) r) (U:=fun ts K=>K (t::ts)) fun _=>ZW _)
theorem ZlV{L:Zc}{o:Option Ob}{off:Nat}:Rel (Qn o L off):=by
 cases o with
 | none=>exact Jk (fun _=>by simp only[Qn]) Z4
 | some ob =>
  cases ob with
  | bx cells=>exact Jk (fun _=>by simp only[Qn]) (Z5 (ZfQ (L:=L) (cells.drop off)) (U:=fun ts K=>K (.ta ts)) fun _=>ZW _)
  | ar=>exact Jk (fun _=>by simp only[Qn]) Z4
  | mp=>exact Jk (fun _=>by simp only[Qn]) Z4
mutual
theorem ZlW:∀(x:IV),Rel (Z2 L x)
 | .un=>Jk (fun _=>by simp only[Z2];exact Ubt) (ZW _)
 | .tr t=>Jk (fun _=>by simp only[Z2];exact Ubt) (ZW _)
 | .cs es=>Jk (fun _=>by simp only[Z2];exact Ubt) (ZW _)
 | .hd id p off len c st=>Jk (fun _=>by simp only[Z2]) (Z5 (Zcu (L:=L) (id:=id) (p:=p) (st:=st)) (U:=fun y K=>off+len<=y.1.length/\K (.tr (.sl (cut y.1 off len)))) fun _=>Zz (ZW _))
 | .ag l=>Jk (fun _=>by simp only[Z2]) (Z5 (Zan l) (U:=fun l' K=>K (.ag l')) fun _=>ZW _)
 | .fn f c=>Jk (fun _=>by simp only[Z2]) (Z5 (Zan c) (U:=fun l' K=>K (.fn f l')) fun _=>ZW _)
 | .er=>Jk (fun _=>by simp only[Z2];exact Ubt) (ZW _)
 | .ab id off=>Jk (fun _=>by simp only[Z2]) (ZlV (L:=L) (o:=L id) (off:=off))
 | .sv _=>Jk (fun _=>by simp only[Z2]) Z4
 | .ae .. => Jk (fun _=>by simp only[Z2]) Z4
 | .ta c=>Jk (fun _=>by simp only[Z2];exact Ubt) (ZW _)
 | .tu .. => Jk (fun _=>by simp only[Z2]) Z4
 | .ow .. => Jk (fun _=>by simp only[Z2]) Z4
theorem Zan:∀(l:List IV),Rel (ZV L l)
 | []=>Jk (fun _=>by simp only[ZV];exact Ubt) (ZW _)
 | x::r=>Jk (fun _=>by simp only[ZV]) (Z5 (ZlW x) (U:=fun x' K=>ZV L r fun r' => K (x'::r')) fun x' => Z5 (Zan r) (U:=fun r' K=>K (x'::r')) fun _=>ZW _)
end
theorem Q4{S:Zc}{x:IV}:Rel (YR S x):=by
 unfold YR
 split
 ·exact ZW _
 ·exact ZW _
 ·rename_i id p off len c s
  exact Jk (fun _=>Ubt) (Z5 (Zcu (L:=S) (id:=id) (p:=p) (st:=s)) (U:=fun y K=>off+len<=y.1.length/\K (cut y.1 off len)) fun _=>Zz (ZW _))
 ·exact Z4
theorem Zcv:∀(o:O),Rel (fun K:MO->Prop=>ev C ρ L (fun m b=>K (m,b)) o):=by
 intro o
 have key:∀{α:Type} {T:(α->Prop)->Prop} {U:α->(MO->Prop)->Prop},Rel T->(∀ y,Rel (U y))->Rel (fun K=>T fun y=>U y K):=fun h1 h2=>Z5 h1 h2
 cases o
 case bs k n z ps =>
  simp only[ev]
  exact Z5 (ZfP (ρ:=ρ) (k:=k) ps (List.replicate n (z.map trv)) true) (U:=fun y (K:MO->Prop)=>K (fun l b=>.hd (l,b) [] 0 n none n,fun _ _=>[.ar k y.1 y.2 n 0])) fun _=>ZW _
 case bi op w x y =>
  simp only[ev,ZC]
  split
  ·rename_i a b _ _
   exact Z5 (ZlS (op:=op) (w:=w) (a:=a) (b:=b)) (U:=fun r (K:MO->Prop)=>K (fun _ _=>.tr (.v r),fun _ _=>[])) fun _=>ZW _
  ·split <;> first | exact ZW _ | exact Z4
  ·exact Z4
 case qa neg ks x y =>
  simp only[ev,ZC]
  split
  ·rename_i l m _ _
   exact Z5 (ZfO (qs:=ks) (x:=l) (y:=m)) (U:=fun r (K:MO->Prop)=>K (fun _ _=>iB (if neg then !r else r),fun _ _=>[])) fun _=>ZW _
  ·exact Z4
 case sx k x lo hi mx =>
  simp only[ev,ZC]
  split
  ·rename_i es _
   refine Zz (Z5 (bndI_rel (ρ:=ρ) (x:=lo) (n:=0)) (U:=fun a (K:MO->Prop)=>ZO ρ hi es.length fun b=>a<=b/\b<=es.length/\ZO ρ mx b fun m=>m=b/\K (fun _ _=>if mx.isSome then .cs (cut es a (b-a)) else .tr (.sl (cut es a (b-a))),fun _ _=>[])) fun a=>?_)
   refine Z5 (bndI_rel (ρ:=ρ) (x:=hi) (n:=es.length)) (U:=fun b (K:MO->Prop)=>a<=b/\b<=es.length/\ZO ρ mx b fun m=>m=b/\K (fun _ _=>if mx.isSome then .cs (cut es a (b-a)) else .tr (.sl (cut es a (b-a))),fun _ _=>[])) fun b=>?_
   exact Zz (Zz (Z5 (bndI_rel (ρ:=ρ) (x:=mx) (n:=b)) (U:=fun m (K:MO->Prop)=>m=b/\K (fun _ _=>if mx.isSome then .cs (cut es a (b-a)) else .tr (.sl (cut es a (b-a))),fun _ _=>[])) fun m=>Zz (ZW _)))
  ·rename_i es _
   refine Zz (Z5 (bndI_rel (ρ:=ρ) (x:=lo) (n:=0)) (U:=fun a (K:MO->Prop)=>ZO ρ hi es.length fun b=>a<=b/\b<=es.length/\ZO ρ mx b fun m=>m=b/\K (fun _ _=>if mx.isSome || hi.isNone then .cs (cut es a (b-a)) else .tr (.sl (cut es a (b-a))),fun _ _=>[])) fun a=>?_)
   refine Z5 (bndI_rel (ρ:=ρ) (x:=hi) (n:=es.length)) (U:=fun b (K:MO->Prop)=>a<=b/\b<=es.length/\ZO ρ mx b fun m=>m=b/\K (fun _ _=>if mx.isSome || hi.isNone then .cs (cut es a (b-a)) else .tr (.sl (cut es a (b-a))),fun _ _=>[])) fun b=>?_
   exact Zz (Zz (Z5 (bndI_rel (ρ:=ρ) (x:=mx) (n:=b)) (U:=fun m (K:MO->Prop)=>m=b/\K (fun _ _=>if mx.isSome || hi.isNone then .cs (cut es a (b-a)) else .tr (.sl (cut es a (b-a))),fun _ _=>[])) fun m=>Zz (ZW _)))
  ·rename_i id p off len cap st _
   refine Z5 (bndI_rel (ρ:=ρ) (x:=lo) (n:=0)) (U:=fun a (K:MO->Prop)=>ZO ρ hi len fun b=>a<=b/\b<=len/\ZO ρ mx b fun m=>b<=m/\m<=len/\Jy L id p k/\K (fun _ _=>.hd id p (off+a) (b-a) (if mx.isSome then some (m-a) else cap.map (· - a)) st,fun _ _=>[])) fun a=>?_
   refine Z5 (bndI_rel (ρ:=ρ) (x:=hi) (n:=len)) (U:=fun b (K:MO->Prop)=>a<=b/\b<=len/\ZO ρ mx b fun m=>b<=m/\m<=len/\Jy L id p k/\K (fun _ _=>.hd id p (off+a) (b-a) (if mx.isSome then some (m-a) else cap.map (· - a)) st,fun _ _=>[])) fun b=>?_
   exact Zz (Zz (Z5 (bndI_rel (ρ:=ρ) (x:=mx) (n:=b)) (U:=fun m (K:MO->Prop)=>b<=m/\m<=len/\Jy L id p k/\K (fun _ _=>.hd id p (off+a) (b-a) (if mx.isSome then some (m-a) else cap.map (· - a)) st,fun _ _=>[])) fun m=>Zz (Zz (Zz (ZW _)))))
  ·exact Z4
 case sw k x lo hi mx =>
  simp only[ev,ZC]
  split
  ·rename_i es _
   refine Zz (Z5 (bndI_rel (ρ:=ρ) (x:=lo) (n:=0)) (U:=fun a (K:MO->Prop)=>ZO ρ hi es.length fun b=>a<=b/\b<=es.length/\ZO ρ mx b fun m=>m=b/\K (fun _ _=>if mx.isSome then .cs (cut es a (b-a)) else .tr (.sl (cut es a (b-a))),fun _ _=>[])) fun a=>?_)
   refine Z5 (bndI_rel (ρ:=ρ) (x:=hi) (n:=es.length)) (U:=fun b (K:MO->Prop)=>a<=b/\b<=es.length/\ZO ρ mx b fun m=>m=b/\K (fun _ _=>if mx.isSome then .cs (cut es a (b-a)) else .tr (.sl (cut es a (b-a))),fun _ _=>[])) fun b=>?_
   exact Zz (Zz (Z5 (bndI_rel (ρ:=ρ) (x:=mx) (n:=b)) (U:=fun m (K:MO->Prop)=>m=b/\K (fun _ _=>if mx.isSome then .cs (cut es a (b-a)) else .tr (.sl (cut es a (b-a))),fun _ _=>[])) fun m=>Zz (ZW _)))
  ·rename_i es _
   refine Zz (Z5 (bndI_rel (ρ:=ρ) (x:=lo) (n:=0)) (U:=fun a (K:MO->Prop)=>ZO ρ hi es.length fun b=>a<=b/\b<=es.length/\ZO ρ mx b fun m=>m=b/\K (fun _ _=>if mx.isSome || hi.isNone then .cs (cut es a (b-a)) else .tr (.sl (cut es a (b-a))),fun _ _=>[])) fun a=>?_)
   refine Z5 (bndI_rel (ρ:=ρ) (x:=hi) (n:=es.length)) (U:=fun b (K:MO->Prop)=>a<=b/\b<=es.length/\ZO ρ mx b fun m=>m=b/\K (fun _ _=>if mx.isSome || hi.isNone then .cs (cut es a (b-a)) else .tr (.sl (cut es a (b-a))),fun _ _=>[])) fun b=>?_
   exact Zz (Zz (Z5 (bndI_rel (ρ:=ρ) (x:=mx) (n:=b)) (U:=fun m (K:MO->Prop)=>m=b/\K (fun _ _=>if mx.isSome || hi.isNone then .cs (cut es a (b-a)) else .tr (.sl (cut es a (b-a))),fun _ _=>[])) fun m=>Zz (ZW _)))
  ·rename_i id off len cap st _
   refine Zz (Z5 (bndI_rel (ρ:=ρ) (x:=lo) (n:=0)) (U:=fun a (K:MO->Prop)=>ZO ρ hi len fun b=>a<=b/\b<=len/\ZO ρ mx b fun m=>b<=m/\m<=len/\K (fun _ _=>.hd id [] (off+a) (b-a) (if mx.isSome then some (m-a) else cap.map (· - a)) st,fun _ _=>[])) fun a=>?_)
   refine Z5 (bndI_rel (ρ:=ρ) (x:=hi) (n:=len)) (U:=fun b (K:MO->Prop)=>a<=b/\b<=len/\ZO ρ mx b fun m=>b<=m/\m<=len/\K (fun _ _=>.hd id [] (off+a) (b-a) (if mx.isSome then some (m-a) else cap.map (· - a)) st,fun _ _=>[])) fun b=>?_
   exact Zz (Zz (Z5 (bndI_rel (ρ:=ρ) (x:=mx) (n:=b)) (U:=fun m (K:MO->Prop)=>b<=m/\m<=len/\K (fun _ _=>.hd id [] (off+a) (b-a) (if mx.isSome then some (m-a) else cap.map (· - a)) st,fun _ _=>[])) fun m=>Zz (Zz (ZW _))))
  ·exact Z4
 case sy k x lo hi mx =>
  simp only[ev,ZC]
  split
  ·rename_i es _
   refine Zz (Z5 (bndI_rel (ρ:=ρ) (x:=lo) (n:=0)) (U:=fun a (K:MO->Prop)=>ZO ρ hi es.length fun b=>a<=b/\b<=es.length/\ZO ρ mx b fun m=>m=b/\K (fun _ _=>if mx.isSome then .cs (cut es a (b-a)) else .tr (.sl (cut es a (b-a))),fun _ _=>[])) fun a=>?_)
   refine Z5 (bndI_rel (ρ:=ρ) (x:=hi) (n:=es.length)) (U:=fun b (K:MO->Prop)=>a<=b/\b<=es.length/\ZO ρ mx b fun m=>m=b/\K (fun _ _=>if mx.isSome then .cs (cut es a (b-a)) else .tr (.sl (cut es a (b-a))),fun _ _=>[])) fun b=>?_
   exact Zz (Zz (Z5 (bndI_rel (ρ:=ρ) (x:=mx) (n:=b)) (U:=fun m (K:MO->Prop)=>m=b/\K (fun _ _=>if mx.isSome then .cs (cut es a (b-a)) else .tr (.sl (cut es a (b-a))),fun _ _=>[])) fun m=>Zz (ZW _)))
  ·rename_i es _
   refine Zz (Z5 (bndI_rel (ρ:=ρ) (x:=lo) (n:=0)) (U:=fun a (K:MO->Prop)=>ZO ρ hi es.length fun b=>a<=b/\b<=es.length/\ZO ρ mx b fun m=>m=b/\K (fun _ _=>if mx.isSome || hi.isNone then .cs (cut es a (b-a)) else .tr (.sl (cut es a (b-a))),fun _ _=>[])) fun a=>?_)
   refine Z5 (bndI_rel (ρ:=ρ) (x:=hi) (n:=es.length)) (U:=fun b (K:MO->Prop)=>a<=b/\b<=es.length/\ZO ρ mx b fun m=>m=b/\K (fun _ _=>if mx.isSome || hi.isNone then .cs (cut es a (b-a)) else .tr (.sl (cut es a (b-a))),fun _ _=>[])) fun b=>?_
   exact Zz (Zz (Z5 (bndI_rel (ρ:=ρ) (x:=mx) (n:=b)) (U:=fun m (K:MO->Prop)=>m=b/\K (fun _ _=>if mx.isSome || hi.isNone then .cs (cut es a (b-a)) else .tr (.sl (cut es a (b-a))),fun _ _=>[])) fun m=>Zz (ZW _)))
  ·exact Z4
 case a3 k x y =>
  simp only[ev,ZC]
  split
  ·rename_i zs _
   exact Z5 (Q4 (S:=L) (x:=ρ y)) (U:=fun items (K:MO->Prop)=>items≠[]/\ScR items/\Zw k zs/\Zw k items/\zs.length+items.length<=bigN/\K (fun _ _=>.tr (.sl (zs++items)),fun _ _=>[])) fun items=>Zz (Zz (Zz (Zz (Zz (ZW _)))))
  ·exact Z4
 case ss x lo hi =>
  simp only[ev,ZC]
  split
  ·rename_i s _
   refine Z5 (bndI_rel (ρ:=ρ) (x:=lo) (n:=0)) (U:=fun a (K:MO->Prop)=>ZO ρ hi s.size fun b=>a<=b/\b<=s.size/\K (fun _ _=>iS (s.extract a b),fun _ _=>[])) fun a=>?_
   exact Z5 (bndI_rel (ρ:=ρ) (x:=hi) (n:=s.size)) (U:=fun b (K:MO->Prop)=>a<=b/\b<=s.size/\K (fun _ _=>iS (s.extract a b),fun _ _=>[])) fun b=>Zz (Zz (ZW _))
  ·exact Z4
 case ca m imp f xs =>
  cases m <;> simp only[ev] <;> try exact Z4
  rotate_left
  ·split
   ·exact Q3 fun r=>Zz (ZW _)
   ·exact Z4
  split
  ·rename_i caps _
   refine Z5 (Zan (L:=L) (xs.map ρ++caps)) (U:=fun args (K:MO->Prop)=>∃ r,_/\_/\K (fun l b=>(impv imp l b 0 r).1,fun l b=>(impv imp l b 0 r).2)) fun args=>Q3 fun r=>Zz (Zz (ZW _))
  ·exact Z4
 case lb m p q =>
  cases m <;> (
   simp only[ev,ZC]
   refine Zz ?_
   repeat' first | exact Z4 | exact ZW _ | refine Zz ?_ | (refine Q3 fun _=>?_) | split)
 all_goals
  (try cases ‹Option Nat›)
  all_goals
   simp only[ev,ZC,JG]
   repeat' first | exact Z4 | exact ZW _ | refine Zz ?_ | (refine Q3 fun _=>?_) | split
abbrev Zao(L L':Zc)(id:Zd):Prop:=∀ ob,L id=some ob->L' id=some ob
abbrev ZfR(L L':Zc)(id:Zd):Prop:=Zao L L' id/\∀ cells,L id=some (.bx cells)->Za (Zao L L') cells
abbrev Qz(L L':Zc)(x:IV):Prop:=men (ZfR L L') x
abbrev Xr(L L':Zc)(x:List IV):Prop:=Za (ZfR L L') x
mutual
theorem ZlX{P Q R:Zd->Prop}(h:∀ i,P i->Q i->R i):∀(x:IV),men P x->men Q x->men R x
 | .hd ..,a,b=>h _ a b
 | .ab ..,a,b=>h _ a b
 | .ae ..,a,b=>h _ a b
 | .sv ..,a,b=>h _ a b
 | .ag l,a,b=>by simp only[men] at *;exact WS h l a b
 | .tu l,a,b=>by simp only[men] at *;exact WS h l a b
 | .fn _ l,a,b=>by simp only[men] at *;exact WS h l a b
 | .un,_,_=>trivial
 | .tr _,_,_=>trivial
 | .cs _,_,_=>trivial
 | .ta _,_,_=>trivial
 | .ow ..,_,_=>trivial
 | .er,_,_=>trivial
theorem WS{P Q R:Zd->Prop}(h:∀ i,P i->Q i->R i):∀(x:List IV),Za P x->Za Q x->Za R x
 | [],_,_=>trivial
 | x::r,a,b=>⟨ZlX h x a.1 b.1,WS h r a.2 b.2⟩
end
variable {ρ':X->IV} {L':Zc}
theorem ZlY{S:Zc}{l:Nat}(xs:List IV)(h:Xr L L' xs)(hS:Za (WA L' S l) xs):Za (WA L S l) xs :=
 WS (fun _ a b=>⟨⟨b.1.1,fun ob ho=>b.1.2 ob (a.1 ob ho)⟩,fun cells hc=>WS (fun _ c d=>⟨d.1,fun ob ho=>d.2 ob (c ob ho)⟩) cells (a.2 cells hc) (b.2 cells (a.1 _ hc))⟩) xs h hS
theorem Xs{id:Zd}{p:Zf}{st:Nat}{K K':Row->Bool->Nat->Prop}(hs:∀ ob,L id=some ob->L' id=some ob)(hk:∀ a b c,K a b c->K' a b c)(h:JG L id p st K):JG L' id p st K':=by
 unfold JG at *
 split at h
 ·rename_i k es u hw ver hl
  rw[hs _ hl]
  obtain⟨es',h1,h2,h3⟩:=h
  exact⟨es',h1,h2,hk _ _ _ h3⟩
 ·exact h.elim
theorem ZfS{Q:Zd->Prop}:∀(n:Nat) {l:List IV},Za Q l->Za Q (l.drop n)
 | 0,_,h=>h
 | n+1,[],h=>h
 | n+1,x::r,h=>ZfS n h.2
theorem ZfT:∀(l:List IV) {K K':List Tr->Prop},Za (Zao L L') l->(∀ y,K y->K' y)->Yn L l K->Yn L' l K'
 | [],_,_,_,hk,h=>hk _ h
 | x::r,K,K',hs,hk,h=>by
  simp only[Yn] at *
  have go:∀ t,(Yn L r fun ts=>K (t::ts))->Yn L' r fun ts=>K' (t::ts):=fun t h=>ZfT r hs.2 (fun _ h=>hk _ h) h
  cases x with
  | tr t=>exact go t h
  | cs es=>exact go _ h
  | hd id p off len c st=>simp only[Y9] at *;exact Xs hs.1 (fun _ _ _ h=>⟨h.1,go _ h.2⟩) h
  | _=>simp only[Y9] at h
mutual
theorem ZlZ:∀(x:IV) {K K':IV->Prop},Qz L L' x->(∀ y,K y->K' y)->Z2 L x K->Z2 L' x K'
 | .un,_,_,_,hk,h=>by simp only[Z2] at *;exact hk _ h
 | .tr t,_,_,_,hk,h=>by simp only[Z2] at *;exact hk _ h
 | .cs es,_,_,_,hk,h=>by simp only[Z2] at *;exact hk _ h
 | .hd id p off len c st,_,_,hs,hk,h=>by simp only[Z2] at *;exact Xs hs.1 (fun _ _ _ h=>⟨h.1,hk _ h.2⟩) h
 | .ag l,_,_,hs,hk,h=>by simp only[Z2,Qz,men] at *;exact Zap l hs (fun _ h=>hk _ h) h
 | .fn f c,_,_,hs,hk,h=>by simp only[Z2,Qz,men] at *;exact Zap c hs (fun _ h=>hk _ h) h
 | .er,_,_,_,hk,h=>by simp only[Z2] at *;exact hk _ h
 | .ab id off,_,_,hs,hk,h=>by
  simp only[Z2,Qn] at *
  split at h <;> try contradiction
  rename_i cells hq
  rw[hs.1 _ hq]
  exact ZfT _ (ZfS off (hs.2 _ hq)) (fun _ h=>hk _ h) h
 | .sv _,_,_,_,_,h=>by simp only[Z2] at h
 | .ae ..,_,_,_,_,h=>by simp only[Z2] at h
 | .ta c,_,_,_,hk,h=>by simp only[Z2] at *;exact hk _ h
 | .tu ..,_,_,_,_,h=>by simp only[Z2] at h
 | .ow ..,_,_,_,_,h=>by simp only[Z2] at h
theorem Zap:∀(l:List IV) {K K':List IV->Prop},Xr L L' l->(∀ y,K y->K' y)->ZV L l K->ZV L' l K'
 | [],_,_,_,hk,h=>by simp only[ZV] at *;exact hk _ h
 | x::r,_,_,hs,hk,h=>by simp only[ZV,Xr,Za] at *;exact ZlZ x hs.1 (fun _ h=>Zap r hs.2 (fun _ h=>hk _ h) h) h
end
theorem ZfU{n:Nat}:∀{ps:List (Nat×Nat×X)},(∀ x∈ps.map (·.2.2),ρ' x=ρ x)->okp ρ n ps->okp ρ' n ps
 | [],_,_=>trivial
 | (off,m,x)::r,hp,h=>by
  simp only[okp] at *
  rw[hp x (by simp)]
  exact⟨h.1,h.2.1,ZfU (fun y hy=>hp y (by simp at hy ⊢;exact .inr hy)) h.2.2⟩
theorem ZfV:∀{ps:List (Nat×Nat×X)} {cs:List IV},(∀ x∈ps.map (·.2.2),ρ' x=ρ x)->fpart ρ' ps cs=fpart ρ ps cs
 | [],_,_=>rfl
 | (off,m,x)::r,cs,hp=>by
  simp only[fpart]
  rw[hp x (by simp)]
  exact ZfV (fun y hy=>hp y (by simp at hy ⊢;exact .inr hy))
theorem ZfW{k:Nat}{K:Row->Bool->Prop}:∀{ps:List (Nat×X)} {es:Row} {u:Bool},(∀ x∈ps.map (·.2),ρ' x=ρ x)->YQ ρ k ps es u K->YQ ρ' k ps es u K
 | [],_,_,_,h=>h
 | (i,x)::r,es,u,hp,h=>by
  simp only[YQ] at *
  rw[hp x (by simp)]
  split at h <;> try contradiction
  split at h <;> try contradiction
  exact⟨h.1,h.2.1,ZfW (fun y hy=>hp y (by simp at hy ⊢;exact .inr hy)) h.2.2⟩
theorem Ve{x:Option X}{n:Nat}(hp:∀ y∈x.toList,ρ' y=ρ y):ZO ρ' x n=ZO ρ x n:=by
 cases x with
 | none=>rfl
 | some x=>funext K;simp only[ZO];rw[hp x (by simp)]
theorem ZfX{id:Zd}{p:Zf}{k:Nat}(hs:∀ ob,L id=some ob->L' id=some ob)(h:Jy L id p k):Jy L' id p k:=by
 unfold Jy at *
 split at h
 ·rename_i hl;rw[hs _ hl];exact h
 ·exact h.elim
theorem Zcw{S S':Zc}{x:IV}{F F':Row->Prop}(hS:men (fun id=>∀ ob,S id=some ob->S' id=some ob) x)(hF:∀ r,F r->F' r)(h:YR S x F):YR S' x F':=by
 unfold YR at h ⊢
 split at h <;> try contradiction
 ·exact hF _ h
 ·exact hF _ h
 ·exact Xs hS (fun _ _ _ h=>⟨h.1,hF _ h.2⟩) h
theorem Zl0{K:JU}:∀(o:O),(∀ x∈rd o,ρ' x=ρ x)->(∀ x∈rd o,Qz L L' (ρ x))->ev C ρ L K o->ev C ρ' L' K o:=by
 intro o hp hs h
 cases o
 case ld m p =>
  have h1:=hp p (by simp [rd])
  have h2:=hs p (by simp [rd])
  cases m <;> simp only[ev] at h ⊢ <;> rw[h1] <;> split at h <;> try contradiction
  ·exact h
  ·rename_i hq
   rw[hq] at h2
   split at h <;> try contradiction
   rename_i hl
   rw[h2.1 _ hl];exact h
  ·rename_i hq
   rw[hq] at h2
   exact Xs h2.1 (fun _ _ _ h=>h) h
  ·exact h
  ·rename_i hq
   rw[hq] at h2
   split at h <;> try contradiction
   rename_i hl
   rw[h2.1 _ hl];exact h
  ·rename_i hq
   rw[hq] at h2
   exact Xs h2.1 (fun _ _ _ h=>h) h
 case sx k x lo hi mx =>
  have h1:=hp x (by simp [rd])
  have h2:=hs x (by simp [rd])
  have hlo:=fun n=>Ve (ρ:=ρ) (ρ':=ρ') (x:=lo) (n:=n) (fun y hy=>hp y (by simp [rd] at hy ⊢;exact .inr (.inl hy)))
  have hhi:=fun n=>Ve (ρ:=ρ) (ρ':=ρ') (x:=hi) (n:=n) (fun y hy=>hp y (by simp [rd] at hy ⊢;exact .inr (.inr (.inl hy))))
  have hmx:=fun n=>Ve (ρ:=ρ) (ρ':=ρ') (x:=mx) (n:=n) (fun y hy=>hp y (by simp [rd] at hy ⊢;exact .inr (.inr (.inr hy))))
  simp only[ev] at h ⊢
  simp only[hlo,hhi,hmx]
  rw[h1]
  split at h <;> try contradiction
  ·exact h
  ·exact h
  ·rename_i hq
   rw[hq] at h2
   exact bndI_rel.mono (fun a h=>bndI_rel.mono (fun b h=>⟨h.1,h.2.1,bndI_rel.mono (fun m h=>⟨h.1,h.2.1,ZfX h2.1 h.2.2.1,h.2.2.2⟩) h.2.2⟩) h) h
 case sw k x lo hi mx =>
  have h1:=hp x (by simp [rd])
  have h2:=hs x (by simp [rd])
  have hlo:=fun n=>Ve (ρ:=ρ) (ρ':=ρ') (x:=lo) (n:=n) (fun y hy=>hp y (by simp [rd] at hy ⊢;exact .inr (.inl hy)))
  have hhi:=fun n=>Ve (ρ:=ρ) (ρ':=ρ') (x:=hi) (n:=n) (fun y hy=>hp y (by simp [rd] at hy ⊢;exact .inr (.inr (.inl hy))))
  have hmx:=fun n=>Ve (ρ:=ρ) (ρ':=ρ') (x:=mx) (n:=n) (fun y hy=>hp y (by simp [rd] at hy ⊢;exact .inr (.inr (.inr hy))))
  simp only[ev] at h ⊢
  simp only[hlo,hhi,hmx]
  rw[h1]
  split at h <;> try contradiction
  ·exact h
  ·exact h
  ·rename_i hq
   rw[hq] at h2
   exact⟨ZfX h2.1 h.1,h.2⟩
 case sy k x lo hi mx =>
  have h1:=hp x (by simp [rd])
  have hlo:=fun n=>Ve (ρ:=ρ) (ρ':=ρ') (x:=lo) (n:=n) (fun y hy=>hp y (by simp [rd] at hy ⊢;exact .inr (.inl hy)))
  have hhi:=fun n=>Ve (ρ:=ρ) (ρ':=ρ') (x:=hi) (n:=n) (fun y hy=>hp y (by simp [rd] at hy ⊢;exact .inr (.inr (.inl hy))))
  have hmx:=fun n=>Ve (ρ:=ρ) (ρ':=ρ') (x:=mx) (n:=n) (fun y hy=>hp y (by simp [rd] at hy ⊢;exact .inr (.inr (.inr hy))))
  simp only[ev] at h ⊢
  simp only[hlo,hhi,hmx]
  rw[h1]
  split at h <;> try contradiction
  ·exact h
  ·exact h
 case a3 k x y =>
  have h1:=hp x (by simp [rd])
  have h2:=hp y (by simp [rd])
  have h3:=hs y (by simp [rd])
  simp only[ev] at h ⊢
  rw[h1,h2]
  split at h <;> try contradiction
  exact Zcw (JL (fun _ g=>g.1) _ h3) (fun _ g=>g) h
 case sb x =>
  have h1:=hp x (by simp [rd])
  have h2:=hs x (by simp [rd])
  simp only[ev] at h ⊢
  rw[h1]
  split at h <;> try contradiction
  ·exact h
  ·exact h
  ·rename_i hq
   rw[hq] at h2
   exact Xs h2.1 (fun _ _ _ h=>h) h
 case ss x lo hi =>
  have h1:=hp x (by simp [rd])
  have hlo:=fun n=>Ve (ρ:=ρ) (ρ':=ρ') (x:=lo) (n:=n) (fun y hy=>hp y (by simp [rd] at hy ⊢;exact .inr (.inl hy)))
  have hhi:=fun n=>Ve (ρ:=ρ) (ρ':=ρ') (x:=hi) (n:=n) (fun y hy=>hp y (by simp [rd] at hy ⊢;exact .inr (.inr hy)))
  simp only[ev] at h ⊢
  simp only[hlo,hhi]
  rw[h1];exact h
 case ia k x i =>
  have h1:=hp x (by simp [rd])
  have h2:=hs x (by simp [rd])
  have h3:=hp i (by simp [rd])
  simp only[ev] at h ⊢
  rw[h1,h3]
  split at h <;> try contradiction
  refine⟨h.1,?_⟩
  have h:=h.2
  split at h <;> try contradiction
  ·exact h
  ·exact h
  ·rename_i hq
   rw[hq] at h2
   exact Xs h2.1 (fun _ _ _ h=>h) h
 case ca m imp f xs =>
  have h1:=hp f (by simp [rd])
  have h3:xs.map ρ'=xs.map ρ:=List.map_congr_left fun x hx=>hp x (by simp [rd,hx])
  have h2:Xr L L' (xs.map ρ):=by
   have:∀ x∈xs,Qz L L' (ρ x):=fun x hx=>hs x (by simp [rd,hx])
   clear h3 h1 hp hs h
   induction xs with
   | nil=>trivial
   | cons y r ih=>exact⟨this y (by simp),ih fun x hx=>this x (by simp [hx])⟩
  cases m <;> simp only[ev] at h ⊢
  rotate_left
  ·have h4:=hs f (by simp [rd])
   rw[h1,h3]
   split at h <;> try contradiction
   rename_i fid caps hq
   rw[hq] at h4
   have h4:Xr L L' caps:=by simpa only[Qz,men] using h4
   have h5:Xr L L' (xs.map ρ++caps):=by
    clear h h3 h1 hp hs
    induction xs with
    | nil=>exact h4
    | cons y r ih=>exact⟨h2.1,ih h2.2⟩
   obtain⟨r,hr,hk⟩:=h
   exact⟨r,fun l S hS=>hr l S (ZlY _ h5 hS),hk⟩
  have h4:=hs f (by simp [rd])
  rw[h1,h3]
  split at h <;> try contradiction
  rename_i fid caps hq
  rw[hq] at h4
  have h4:Xr L L' caps:=by simpa only[Qz,men] using h4
  have h5:Xr L L' (xs.map ρ++caps):=by
   clear h h3 h1 hp hs
   induction xs with
   | nil=>exact h4
   | cons y r ih=>exact⟨h2.1,ih h2.2⟩
  exact Zap _ h5 (fun _ h=>h) h
 case lb m p q =>
  have h1:=hp p (by simp [rd])
  have h2:=hs p (by simp [rd])
  have h3:Vb ρ' p q↔Vb ρ p q:=Zct fun x hx=>hp x (by simpa [rd] using hx)
  cases m <;> (
   simp only[ev] at h ⊢
   rw[h1,h3]
   refine⟨h.1,?_⟩
   replace h:=h.2
   split at h <;> try contradiction
   rename_i hq
   rw[hq] at h2
   split at h <;> try contradiction
   rename_i hb
   rw[h2.1 _ hb]
   exact h)
 case bd z ps nz =>
  simp only[ev] at h ⊢
  have hh:∀ x∈ps.map (·.2.2),ρ' x=ρ x:=hp
  refine⟨ZfU hh h.1,?_⟩
  simp only[ZfV hh]
  exact h.2
 case bs k n z ps =>
  simp only[ev] at h ⊢
  exact ZfW (fun x hx=>hp x hx) h
 case mf g cs =>
  have h3:cs.map ρ'=cs.map ρ:=List.map_congr_left fun x hx=>hp x (by simp [rd,hx])
  simp only[ev] at h ⊢
  rw[h3];exact h
 case bv k n z ps =>
  simp only[ev] at h ⊢
  split at h <;> try contradiction
  rename_i x
  have h1:=hp x (by simp [rd])
  rw[h1];exact h
 all_goals
  (try cases ‹Option Nat›)
  all_goals
   first
    | (simp only[ev] at h;done)
    | (
      simp only[ev] at h ⊢
      simp only[rd,UaV,List.not_mem_nil,or_false,forall_eq_or_imp,forall_eq,false_implies,implies_true] at hp
      first | exact h | (rw[hp];exact h) | (rw[hp.1,hp.2];exact h) | (rw[hp.1,hp.2.1,hp.2.2];exact h))
theorem Zaq{x:IV}:Rel (WD x):=by
 unfold WD
 split
 ·exact ZW _
 ·exact ZW _
 ·exact Z4
theorem Zar{S:Zc}{x:IV}:Rel (XY S x):=by
 unfold XY
 split
 ·split
  ·exact Zz (Zz (ZW _))
  ·exact Z4
 ·exact Z4
theorem Zas{p:Zf}{i:Nat}:∀(l:List IV) (f:Nat) (es:Row),Rel (V1 p i f l es)
 | [],f,es=>Jk (fun _=>by simp only[V1]) (ZW es)
 | x::r,f,es=>by
  refine Jk (fun K=>by simp only[V1];exact Ubt) ?_
  refine Q3 fun es' => Zz (Q3 fun e=>Zz (Q3 fun t0=>Zz (Zz ?_)))
  split
  ·exact Zas r (f+1) _
  ·exact Z4
theorem Zat{ρ:X->IV}{S:Zc}:∀(o:O),Rel (fun K:IV×Zd×Ob->Prop=>Ju ρ S (fun v id ob=>K (v,id,ob)) o):=by
 intro o
 cases o <;> simp only[Ju] <;> try exact Z4
 ·rename_i m p x
  split
  ·rename_i l _
   refine Zz ?_
   split
   ·rename_i id off _
    split
    ·exact Zz (Zz (ZW _))
    ·exact Z4
   ·rename_i id p i f s _
    split
    ·rename_i k es u hw ver _
     exact Zz (Zz (Z5 (Zas (p:=p) (i:=i) l f es) (U:=fun es' (K:IV×Zd×Ob->Prop)=>K (.tu [],id,.ar k es' u hw ver)) fun _=>ZW _))
    ·exact Z4
   ·exact Z4
  ·exact Z4
 ·rename_i k x y
  split
  ·rename_i id len s _
   split
   ·rename_i k' es u hw ver _
    exact Zz (Zz (Zz (Z5 (Q4 (S:=S) (x:=ρ y)) (U:=fun items (K:IV×Zd×Ob->Prop)=>ScR items/\Zw k items/\len+items.length<=bigN/\K (.hd id [] 0 (len+items.length) none (max hw (len+items.length)),id,.ar k (es++items) u (max hw (len+items.length)) ver)) fun _=>Zz (Zz (Zz (ZW _))))))
   ·exact Z4
  ·exact Z4
 ·rename_i k x y
  split
  ·rename_i id len s _
   split
   ·rename_i k' es u hw ver _
    exact Zz (Zz (Zz (Z5 (Zaq (x:=ρ y)) (U:=fun items (K:IV×Zd×Ob->Prop)=>Zw k items/\len+items.length<=bigN/\K (.hd id [] 0 (len+items.length) none (max hw (len+items.length)),id,.ar k (es++items) false (max hw (len+items.length)) ver)) fun _=>Zz (Zz (ZW _)))))
   ·exact Z4
  ·exact Z4
 ·rename_i k x y
  split
  ·rename_i id off len cap s _
   split
   ·rename_i k2 es u hw ver _
    exact Zz (Zz (Zz (Zz (Z5 (Q4 (S:=S) (x:=ρ y)) (U:=fun zs (K:IV×Zd×Ob->Prop)=>ScR zs/\Zw k zs/\K (iI (min zs.length len:Nat),id,.ar k (es.take off++zs.take len++es.drop (off+min zs.length len)) u hw (ver+1))) fun _=>Zz (Zz (ZW _))))))
   ·exact Z4
  ·exact Z4
 ·rename_i k x y
  split
  ·rename_i id len s _
   split
   ·rename_i k' es u hw ver _
    exact Zz (Zz (Zz (Z5 (Zar (S:=S) (x:=ρ y)) (U:=fun items (K:IV×Zd×Ob->Prop)=>Zw k items/\len+items.length<=bigN/\K (.hd id [] 0 (len+items.length) none (max hw (len+items.length)),id,.ar k (es++items) false (max hw (len+items.length)) ver)) fun _=>Zz (Zz (ZW _)))))
   ·exact Z4
  ·exact Z4
theorem ZfY{S S':Zc}{x:IV}{F F':Row->Prop}(hS:∀ id ob,S id=some ob->S' id=some ob)(hF:∀ r,F r->F' r)(h:YR S x F):YR S' x F':=by
 unfold YR at h ⊢
 split at h <;> try contradiction
 ·exact hF _ h
 ·exact hF _ h
 ·exact Xs (hS _) (fun _ _ _ h=>⟨h.1,hF _ h.2⟩) h
theorem ZfZ{S S':Zc}{x:IV}{F F':Row->Prop}(hS:men (fun id=>∀ ob,S id=some ob->S' id=some ob) x)(hF:∀ r,F r->F' r)(h:XY S x F):XY S' x F':=by
 unfold XY at h ⊢
 split at h <;> try contradiction
 split at h <;> try contradiction
 rename_i hs
 simp only[hS _ hs]
 exact⟨h.1,h.2.1,hF _ h.2.2⟩
theorem Zcx{ρ ρ':X->IV}{S S':Zc}{K:IV->Zd->Ob->Prop}:∀(o:O),(∀ x∈rd o,ρ' x=ρ x)->(∀ id ob,S id=some ob->S' id=some ob)->Ju ρ S K o->Ju ρ' S' K o:=by
 intro o hp hS h
 cases o <;> simp only[Ju] at h ⊢ <;> try exact h
 ·rename_i m p x
  rw[hp p (by simp [rd]),hp x (by simp [rd])]
  split at h <;> try contradiction
  refine⟨h.1,?_⟩
  have h:=h.2
  split at h <;> try contradiction
  ·split at h <;> try contradiction
   rename_i hs
   rw[hS _ _ hs];exact h
  ·split at h <;> try contradiction
   rename_i hs
   rw[hS _ _ hs];exact h
 ·rename_i k x y
  rw[hp x (by simp [rd]),hp y (by simp [rd])]
  split at h <;> try contradiction
  split at h <;> try contradiction
  rename_i hs
  rw[hS _ _ hs]
  exact⟨h.1,h.2.1,h.2.2.1,ZfY hS (fun _ h=>h) h.2.2.2⟩
 ·rename_i k x y
  rw[hp x (by simp [rd]),hp y (by simp [rd])]
  split at h <;> try contradiction
  split at h <;> try contradiction
  rename_i hs
  rw[hS _ _ hs]
  exact h
 ·rename_i k x y
  rw[hp x (by simp [rd]),hp y (by simp [rd])]
  split at h <;> try contradiction
  split at h <;> try contradiction
  rename_i hs
  rw[hS _ _ hs]
  exact⟨h.1,h.2.1,h.2.2.1,h.2.2.2.1,ZfY hS (fun _ h=>h) h.2.2.2.2⟩
 ·rename_i k x y
  rw[hp x (by simp [rd]),hp y (by simp [rd])]
  split at h <;> try contradiction
  split at h <;> try contradiction
  rename_i hs
  rw[hS _ _ hs]
  exact⟨h.1,h.2.1,h.2.2.1,ZfZ (JL (fun i _=>hS i) _ (X6 _)) (fun _ h=>h) h.2.2.2⟩
theorem Zau{ρ:X->IV}{S:Zc}{v:IV}{id:Zd}{ob:Ob}:∀(o:O),Ju ρ S (fun v' id' ob' => v'=v/\id'=id/\ob'=ob) o->(S id).isSome=true:=by
 intro o h
 obtain⟨⟨v',id',ob'⟩,⟨rfl,rfl,rfl⟩,h2⟩:=(Zat (ρ:=ρ) (S:=S) o).ex (K:=fun r=>r.1=v/\r.2.1=id/\r.2.2=ob) h
 clear h
 cases o <;> simp only[Ju] at h2 <;> try contradiction
 ·split at h2 <;> try contradiction
  have h:=h2.2
  split at h <;> try contradiction
  ·split at h <;> try contradiction
   rename_i hs
   have:=congrArg (fun r:IV×Zd×Ob=>r.2.1) h.2.2
   simp only at this
   rw[<-this,hs];rfl
  ·rename_i id0 p i f s _
   split at h <;> try contradiction
   rename_i k es u hw ver hs
   obtain⟨es',h3,_⟩:=(Zas (p:=p) (i:=i) _ f es).ex h.2.2
   have:=congrArg (fun r:IV×Zd×Ob=>r.2.1) h3
   simp only at this
   rw[<-this,hs];rfl
 ·split at h2 <;> try contradiction
  split at h2 <;> try contradiction
  rename_i hs
  obtain⟨items,h3,_⟩:=(Q4).ex h2.2.2.2
  have:=congrArg (fun r:IV×Zd×Ob=>r.2.1) h3.2.2.2
  simp only at this
  rw[<-this,hs];rfl
 ·split at h2 <;> try contradiction
  split at h2 <;> try contradiction
  rename_i hs
  obtain⟨items,h3,_⟩:=(Zaq).ex h2.2.2.2
  have:=congrArg (fun r:IV×Zd×Ob=>r.2.1) h3.2.2
  simp only at this
  rw[<-this,hs];rfl
 ·split at h2 <;> try contradiction
  split at h2 <;> try contradiction
  rename_i hs
  obtain⟨items,h3,_⟩:=(Q4).ex h2.2.2.2.2
  have:=congrArg (fun r:IV×Zd×Ob=>r.2.1) h3.2.2
  simp only at this
  rw[<-this,hs];rfl
 ·split at h2 <;> try contradiction
  split at h2 <;> try contradiction
  rename_i hs
  obtain⟨items,h3,_⟩:=(Zar).ex h2.2.2.2
  have:=congrArg (fun r:IV×Zd×Ob=>r.2.1) h3.2.2
  simp only at this
  rw[<-this,hs];rfl
def lfree:O->Bool
 | .mv _ none | .bi .. | .nt _ | .ng _ | .cv .. | .ex .. | .pk .. | .mm .. | .lg _ | .la _ | .ss .. | .ix .. | .bs .. | .fd .. | .jx .. | .qa .. | .fa .. | .ja .. | .ln _ | .nc _ | .sy .. | .lt .. | .it .. | .mf .. | .al .. | .ms .. | .bd .. | .bv .. => true
 | _=>false
theorem UP{o:O}(h:lfree o=true):Jr o=false:=by
 cases o <;> first | rfl | cases h | (simp [lfree] at h)
theorem Zl1{ρ:X->IV}{L L':Zc}{K:JU}:∀(o:O),lfree o=true->ev C ρ L K o->ev C ρ L' K o:=by
 intro o hl h
 cases o
 case mv x n=>cases n <;> first | (simp only[ev] at h ⊢;exact h) | cases hl
 case fd off m x=>cases m <;> (simp only[ev] at h ⊢;exact h)
 case lt m x=>cases m <;> (simp only[ev] at h ⊢;exact h)
 case jx k n m x i=>cases m <;> (simp only[ev] at h ⊢;exact h)
 all_goals first | (cases hl;done) | (simp only[ev] at h ⊢;exact h)
def wfr:O->Bool
 | .sw .. => true
 | _=>false
theorem Zf0{o:O}(h:wfr o=true):Jr o=false:=by
 cases o <;> first | rfl | cases h
theorem Zl2{ρ ρ':X->IV}{L L':Zc}{K:JU}:∀(o:O),wfr o=true->(∀ x∈rd o,ρ' x=ρ x)->(∀ x∈rd o,men (fun i=>∀ k,Jy L i [] k->Jy L' i [] k) (ρ x))->ev C ρ L K o->ev C ρ' L' K o:=by
 intro o ho hp hs h
 cases o
 case sw k x lo hi mx =>
  have h1:=hp x (by simp [rd])
  have h2:=hs x (by simp [rd])
  have hlo:=fun n=>Ve (ρ:=ρ) (ρ':=ρ') (x:=lo) (n:=n) (fun y hy=>hp y (by simp [rd] at hy ⊢;exact .inr (.inl hy)))
  have hhi:=fun n=>Ve (ρ:=ρ) (ρ':=ρ') (x:=hi) (n:=n) (fun y hy=>hp y (by simp [rd] at hy ⊢;exact .inr (.inr (.inl hy))))
  have hmx:=fun n=>Ve (ρ:=ρ) (ρ':=ρ') (x:=mx) (n:=n) (fun y hy=>hp y (by simp [rd] at hy ⊢;exact .inr (.inr (.inr hy))))
  simp only[ev] at h ⊢
  simp only[hlo,hhi,hmx]
  rw[h1]
  split at h <;> try contradiction
  ·exact h
  ·exact h
  ·rename_i hq
   rw[hq] at h2
   exact⟨h2 _ h.1,h.2⟩
 all_goals cases ho
theorem Zl3{ρ ρ':X->IV}{S S':Zc}{K:IV->Zd->Ob->Prop}:∀(o:O),(∀ x∈rd o,ρ' x=ρ x)->(∀ x∈rd o,men (fun id=>∀ ob,S id=some ob->S' id=some ob) (ρ x))->Ju ρ S K o->Ju ρ' S' K o:=by
 intro o hp hS h
 cases o <;> simp only[Ju] at h ⊢ <;> try exact h
 ·rename_i m p x
  have m1:=hS p (by simp [rd])
  rw[hp p (by simp [rd]),hp x (by simp [rd])]
  split at h <;> try contradiction
  refine⟨h.1,?_⟩
  have h:=h.2
  split at h <;> try contradiction
  ·rename_i hq
   rw[hq] at m1
   split at h <;> try contradiction
   rename_i hs
   rw[m1 _ hs];exact h
  ·rename_i hq
   rw[hq] at m1
   split at h <;> try contradiction
   rename_i hs
   rw[m1 _ hs];exact h
 ·rename_i k x y
  have m1:=hS x (by simp [rd])
  have m2:=hS y (by simp [rd])
  rw[hp x (by simp [rd]),hp y (by simp [rd])]
  split at h <;> try contradiction
  rename_i hq
  rw[hq] at m1
  split at h <;> try contradiction
  rename_i hs
  rw[m1 _ hs]
  exact⟨h.1,h.2.1,h.2.2.1,Zcw m2 (fun _ h=>h) h.2.2.2⟩
 ·rename_i k x y
  have m1:=hS x (by simp [rd])
  rw[hp x (by simp [rd]),hp y (by simp [rd])]
  split at h <;> try contradiction
  rename_i hq
  rw[hq] at m1
  split at h <;> try contradiction
  rename_i hs
  rw[m1 _ hs]
  exact h
 ·rename_i k x y
  have m1:=hS x (by simp [rd])
  have m2:=hS y (by simp [rd])
  rw[hp x (by simp [rd]),hp y (by simp [rd])]
  split at h <;> try contradiction
  rename_i hq
  rw[hq] at m1
  split at h <;> try contradiction
  rename_i hs
  rw[m1 _ hs]
  exact⟨h.1,h.2.1,h.2.2.1,h.2.2.2.1,Zcw m2 (fun _ h=>h) h.2.2.2.2⟩
 ·rename_i k x y
  have m1:=hS x (by simp [rd])
  have m2:=hS y (by simp [rd])
  rw[hp x (by simp [rd]),hp y (by simp [rd])]
  split at h <;> try contradiction
  rename_i hq
  rw[hq] at m1
  split at h <;> try contradiction
  rename_i hs
  rw[m1 _ hs]
  exact⟨h.1,h.2.1,h.2.2.1,ZfZ m2 (fun _ h=>h) h.2.2.2⟩
theorem Zl4{ρ:X->IV}{S:Zc}{v:IV}{id:Zd}{ob:Ob}:∀(o:O),Ju ρ S (fun v' id' ob' => v'=v/\id'=id/\ob'=ob) o->∀ i k,Jy (Ze S id ob) i [] k->Jy S i [] k:=by
 intro o h i k hw
 unfold Jy Ze at hw
 unfold Jy
 by_cases e:i=id
 ·rw[if_pos e] at hw
  subst e
  cases o <;> simp only[Ju] at h <;> try contradiction
  ·split at h <;> try contradiction
   have h:=h.2
   split at h <;> try contradiction
   ·split at h <;> try contradiction
    obtain⟨_,_,_,h1,h2⟩:=h
    subst h2
    cases hw
   ·split at h <;> try contradiction
    rename_i hs
    obtain⟨_,_,h⟩:=h
    obtain⟨es',h,_⟩:=(Zas ..).ex h
    obtain⟨_,h1,h2⟩:=h
    subst h1 h2
    rw[hs];exact hw
  ·split at h <;> try contradiction
   split at h <;> try contradiction
   rename_i hs
   obtain⟨hk,_,_,h⟩:=h
   obtain⟨items,h,_⟩:=(Q4 ..).ex h
   obtain⟨_,_,_,_,h1,h2⟩:=h
   subst h1 h2
   rw[hs]
   exact hk.trans hw
  ·split at h <;> try contradiction
   split at h <;> try contradiction
   rename_i hs
   obtain⟨hk,_,_,h⟩:=h
   obtain⟨items,h,_⟩:=(Zaq ..).ex h
   obtain⟨_,_,_,h1,h2⟩:=h
   subst h1 h2
   rw[hs]
   exact hk.trans hw
  ·split at h <;> try contradiction
   split at h <;> try contradiction
   rename_i hs
   obtain⟨hk,_,_,_,h⟩:=h
   obtain⟨items,h,_⟩:=(Q4 ..).ex h
   obtain⟨_,_,_,h1,h2⟩:=h
   subst h1 h2
   rw[hs]
   exact hk.trans hw
  ·split at h <;> try contradiction
   split at h <;> try contradiction
   rename_i hs
   obtain⟨hk,_,_,h⟩:=h
   obtain⟨items,h,_⟩:=(Zar ..).ex h
   obtain⟨_,_,_,h1,h2⟩:=h
   subst h1 h2
   rw[hs]
   exact hk.trans hw
 ·rw[if_neg e] at hw
  exact hw
def lbx:O->Bool
 | .lb .. => true
 | _=>false
def Xt:O->Bool
 | .a0 .. | .a1 .. | .a2 .. | .c0 .. => true
 | _=>false
theorem X7{o:O}(h:lbx o=true):Jr o=false:=by
 cases o <;> first | rfl | cases h
theorem Zl5{ρ ρ':X->IV}{L L':Zc}{K:JU}:∀(o:O),lbx o=true->(∀ x∈rd o,ρ' x=ρ x)->(∀ x∈rd o,men (fun i=>∀ cells,L i=some (.bx cells)->L' i=some (.bx cells)) (ρ x))->ev C ρ L K o->ev C ρ' L' K o:=by
 intro o ho hp hs h
 cases o
 case lb m p q =>
  have h1:=hp p (by simp [rd])
  have h2:=hs p (by simp [rd])
  have h3:Vb ρ' p q↔Vb ρ p q:=Zct fun x hx=>hp x (by simpa [rd] using hx)
  cases m <;> (
   simp only[ev] at h ⊢
   rw[h1,h3]
   refine⟨h.1,?_⟩
   replace h:=h.2
   split at h <;> try contradiction
   rename_i hq
   rw[hq] at h2
   split at h <;> try contradiction
   rename_i hb
   rw[h2 _ hb]
   exact h)
 all_goals cases ho
theorem Zl6{ρ ρ':X->IV}{L L':Zc}{K:JU}{m:Option Nat}{p:X}{q:Nat}(hp:∀ x∈rd (.lb m p (some q)),ρ' x=ρ x)(hs:∀ i off,ρ p = .ab i off->Va (ρ p) (ρ (.t q))->L' i=L i)(h:ev C ρ L K (.lb m p (some q))):ev C ρ' L' K (.lb m p (some q)):=by
 have h1:=hp p (by simp [rd])
 have h3:Vb ρ' p (some q)↔Vb ρ p (some q):=Zct fun x hx=>hp x (by simpa [rd] using hx)
 cases m <;> (
  simp only[ev] at h ⊢
  rw[h1,h3]
  refine⟨h.1,?_⟩
  have ha:Va (ρ p) (ρ (.t q)):=h.1
  replace h:=h.2
  split at h <;> try contradiction
  rename_i hq
  split at h <;> try contradiction
  rename_i hb
  rw[hs _ _ hq ha,hb]
  exact h)
def apart:O->O->Bool
 | .lb _ _ (some q),.s0 _ (.t q') _=>q == q'
 | _,_=>false
theorem Zf1{a b:O}(h:apart a b=true):∃ m p q m' x,a = .lb m p (some q)/\b = .s0 m' (.t q) x:=by
 unfold apart at h
 split at h
 ·rw[beq_iff_eq] at h;subst h;exact⟨_,_,_,_,_,rfl,rfl⟩
 ·cases h
theorem Zcy{ρ:X->IV}{S:Zc}{v:IV}{id:Zd}{ob:Ob}:∀(o:O),Xt o=true->Ju ρ S (fun v' id' ob' => v'=v/\id'=id/\ob'=ob) o->∀ i cells,(Ze S id ob) i=some (.bx cells)↔S i=some (.bx cells):=by
 intro o ha h i cells
 have key:(∃ k es u hw ver,S id=some (.ar k es u hw ver))/\∃ k es u hw ver,ob = .ar k es u hw ver:=by
  cases o <;> simp only[Ju] at h <;> try (first | contradiction | cases ha)
  ·split at h <;> try contradiction
   split at h <;> try contradiction
   rename_i hs
   obtain⟨items,h,_⟩:=(Q4 ..).ex h.2.2.2
   obtain⟨_,_,_,_,h1,h2⟩:=h
   subst h1 h2
   exact⟨⟨_,_,_,_,_,hs⟩,_,_,_,_,_,rfl⟩
  ·split at h <;> try contradiction
   split at h <;> try contradiction
   rename_i hs
   obtain⟨items,h,_⟩:=(Zaq ..).ex h.2.2.2
   obtain⟨_,_,_,h1,h2⟩:=h
   subst h1 h2
   exact⟨⟨_,_,_,_,_,hs⟩,_,_,_,_,_,rfl⟩
  ·split at h <;> try contradiction
   split at h <;> try contradiction
   rename_i hs
   obtain⟨items,h,_⟩:=(Q4 ..).ex h.2.2.2.2
   obtain⟨_,_,_,h1,h2⟩:=h
   subst h1 h2
   exact⟨⟨_,_,_,_,_,hs⟩,_,_,_,_,_,rfl⟩
  ·split at h <;> try contradiction
   split at h <;> try contradiction
   rename_i hs
   obtain⟨items,h,_⟩:=(Zar ..).ex h.2.2.2
   obtain⟨_,_,_,h1,h2⟩:=h
   subst h1 h2
   exact⟨⟨_,_,_,_,_,hs⟩,_,_,_,_,_,rfl⟩
 obtain⟨⟨k,es,u,hw,ver,h1⟩,k2,es2,u2,hw2,ver2,h2⟩:=key
 unfold Ze
 by_cases e:i=id
 ·subst e
  rw[if_pos rfl,h1,h2]
  constructor <;> (intro h;cases h)
 ·rw[if_neg e]
end
end Go.Fd
