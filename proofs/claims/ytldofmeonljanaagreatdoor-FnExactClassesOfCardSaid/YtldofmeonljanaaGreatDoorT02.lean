/-
  FOUNDATION 31: append: all of it. Own work.
-/
import Derived.Test.YtldofmeonljanaaGreatDoorT01
import Derived.Lib.ConvBytes
import Derived.Laws.BytesArg
import Derived.Lib.SliceRun
set_option linter.all false
namespace Go.Fd
variable [Tabs]
section
variable {P:Program} {F:Fr} {G G':Gh} {S S':Zc} {st st1 st2:St} {a:Act} {w w':World} {C:Zz} {oper:Oper} {D D2:Zd->Prop}
theorem Kl.xv(k:Kl D st st1){x:X}{v:Value}(h:VR G S w (xv st.env x) v):VR G S w (xv st1.env x) v:=by
 cases x with
 | t n=>exact k.vr n G S w v h
 | k u=>exact h
 | f i=>exact h
theorem IT.mk0{items:Row}{ui:Bool}{k:Nat}{yv:Value}{news:List Value}(fc:FC w k items.length yv news)(un:Zu k items)
  (rd:∀(i:Nat) (e:List Tr) (f:Nat) (t:Tr),items[i]? = some e->e[f]? = some t->∃ x,news[i*k+f]? = some x/\Rds w (Av G st.sto w) x t) (hu:ui=true->Xk items) :
  IT G st st w (fun _=>False) items (fun _=>none) ui k yv news:=by
 refine⟨Kl.refl st,fc,un,rd,fun hui i e f t hi hf=>?_,fun hui i f e zs q es2 hi hf hq=>?_,fun _ _ _ _ _ _ h=>(by cases h),fun _ _ _ _ _ _ _ _ _ _ h=>(by cases h)⟩
 ·obtain⟨x,hx,hr⟩:=rd i e f t hi hf
  exact⟨x,hx,Rds.cell hr fun _=>hu hui e (Uae hi) t (Uae hf)⟩
 ·have:=hu hui e (Uae hi) _ (Uae hf)
  simp only[YB] at this
  subst this
  obtain⟨rfl,rfl⟩:=Vo hq
  unfold ZS
  rfl
theorem WL(h:Sim F G st a w){items:Row}{N:Ze->Option (Nat×Nat)}{ui:Bool}{k:Nat}{yv xv0:Value}{news:List Value}{t ty e:TypeId}{i:TypeInfo}{z:Value}{d:Option Nat}{x:X}{loc:List (Nat×Ob)}{K:St->Prop}(it:IT G st st1 w D items N ui k yv news)
  (ht:P.underlying t=some (.slice e)) (hi:P.info? e=some i) (hz:i.zero=some z) (hik:i.size=k) (hzk:z.cells.size=k) (hby:i.bytes<=1024) (hk0:0<k) (hd:∀ y,d=some y->y<F.nt)
  (hxv:VR G st.sto w (xv st1.env x) xv0) (hfr:freshK (keyOf d) loc 1->st.sto (st.lvl,keyOf d)=none) (hgo:Z7 d k x loc items ui st1 K) :
  ∃ v w' st' G',UG P t ty xv0 yv w v w'/\K st'/\Sim F G' st' (a.put d v) w':=by
 obtain⟨_,hgo⟩:=hgo
 split at hgo
 ·rename_i zs hq
  rw[hq] at hxv
  obtain⟨g1,g2,g3,g4,g5,hk⟩:=hgo
  obtain⟨v,w',G',h1,h2⟩:=Zk1 (ty:=ty) h it ht hi hz hik hzk hby hk0 hd hxv g1 g2 g3 (hfr g4) g5
  rw[it.kl.lvl] at hk
  exact⟨v,w',_,G',h1,hk,h2⟩
 ·rename_i id len s hq
  rw[hq] at hxv
  split at hgo <;> try contradiction
  rename_i k' es u hw ver hs1
  obtain⟨rfl,rfl,rfl,g1,hk⟩:=hgo
  obtain⟨hnd,ob0,hs0,hwk⟩:=it.kl.only _ _ hs1
  have hob:ob0 = .ar k' es u s ver:=by cases hwk;rfl
  subst hob
  by_cases huu:u=true->ui=true
  ·obtain⟨v,w',G',h1,h2⟩:=Zfi (ty:=ty) h it ht hi hz hik hzk hby hk0 hd hs0 hnd hxv huu g1
   have:(u&&ui)=u:=by cases u <;> cases ui <;> simp_all
   rw[this] at hk
   exact⟨v,w',_,G',h1,hk,h2⟩
  ·have huu2:u=true/\ui=false:=by cases u <;> cases ui <;> simp_all
   obtain⟨rfl,rfl⟩:=huu2
   have hkl:=h.kl it.kl
   have hfz:=hkl.1.freeze hs1
   have hx1:=hkl.2.vr (.hd id [] 0 es.length none s) xv0 hnd hxv
   have hx2:=hfz.2.vr (.hd id [] 0 es.length none s) xv0 (fun h=>h) hx1
   have hs2:(Zg st1 id (.ar k' es false s ver)).sto id=some (.ar k' es false s ver):=by rw[JY];unfold Zf;rw[if_pos rfl]
   have it2:IT G (Zg st1 id (.ar k' es false s ver)) (Zg st1 id (.ar k' es false s ver)) w (fun _=>False) items (fun _=>none) false k' yv news :=
    IT.mk0 it.fc it.un (fun i0 e0 f t0 h1 h2=>by
     obtain⟨x,hx,hr⟩:=it.rd i0 e0 f t0 h1 h2
     exact⟨x,hx,Rds.mono hfz.2.av hfz.2.same hr⟩) (fun h=>by cases h)
   obtain⟨v,w',G',h1,h2⟩:=Zfi (ty:=ty) hfz.1 it2 ht hi hz hik hzk hby hk0 hd hs2 (fun h=>h) hx2 (fun h=>by cases h) g1
   rw[Zad,Xp] at h2
   exact⟨v,w',_,G',h1,hk,h2⟩
 ·contradiction
theorem Zaf(h:SOk G S w){id:Zd}{k:Nat}{es es':Row}{u:Bool}{hw ver off len s:Nat}{p:Ze}{cap:Option Nat}{v:Value}(hs:S id=some (.ar k es u hw ver))(hg:getp es p=some es')(hst:JA p s hw ver u)(hv:YP G S id p off len cap s v)(hl:off+len<=es'.length){k0:Nat}(hk0:Zu k0 (cut es' off len)) :
  ∃ cs,FC w k0 len v cs/\∀(i:Nat) (e:List Tr) (f:Nat) (t:Tr),(cut es' off len)[i]? = some e->e[f]? = some t->∃ x,cs[i*k0+f]? = some x/\Z8 G w (Av G S w) id p u (off+i) f x t:=by
 obtain⟨_,k2,es2,u2,hw2,ver2,hs2,_,hrel⟩:=hv
 rw[hs] at hs2;cases hs2
 obtain⟨es3,k',ad,c,hg3,_,hun,rfl,hlc,_,_,hor⟩:=hrel hst
 rw[hg] at hg3;cases hg3
 by_cases h0:len=0
 ·subst h0
  refine⟨[],⟨by simp,ad,c,rfl,?_⟩,fun i e f t h=>by simp [cut] at h⟩
  cases ad with
  | none=>exact .inr ⟨rfl,rfl⟩
  | some ad=>exact .inl ⟨ad,rfl,fun j u hj=>by simp at hj⟩
 ·have hr:=DT h hs hst hg
  unfold ZS at hr
  rcases hor with hz | ⟨_,hz⟩ | ⟨b,cc,hG,rfl,hoc⟩
  ·omega
  ·exact absurd hz h0
  ·rw[hG] at hr
   obtain⟨k2,vs,ty,h1,h2,h3,h4,h5,h6⟩:=hr
   have hlt:off<es'.length:=by omega
   have hm:=Uae (Uag hlt)
   have hkk:k2=k':=by rw[<-h2 _ hm,hun _ hm]
   subst hkk
   have hcl:(cut es' off len).length=len:=Qm hl
   have hk2:k2=k0:=by
    have:(cut es' off len)[0]? = some es'[off]:=by
     rw[WG,if_pos (by omega)]
     simp [hlt]
    rw[<-hk0 _ (Uae this),<-h2 _ hm]
   subst hk2
   have hll:(off+len)*k2<=vs.size:=by rw[h4];exact UaC _ (by omega)
   rw[UaK] at hll
   refine⟨(vs.toList.drop (off*k2)).take (len*k2),⟨by simp;omega,_,c,rfl,.inl ⟨_,rfl,fun j u hj=>?_⟩⟩,fun i e f t hi hf=>?_⟩
   ·rw[Uat] at hj
    split at hj <;> try contradiction
    rw[UaM] at hj
    rw[J5,cell_of_row w b _ vs ty (0,0) h3]
    simpa using hj
   ·rw[WG] at hi
    split at hi <;> try contradiction
    rename_i hil
    obtain⟨x,hx,hc⟩:=h6 (off+i) e f t hi hf
    have hfl:=(Uac.1 hf).1
    rw[h2 e (Uae hi)] at hfl
    refine⟨x,?_,hc⟩
    rw[Uat,if_pos (QW hil hfl),UaM]
    rw[UaK] at hx
    rw[<-Ua1]
    simpa using hx
end
variable [Tabs]
section
variable {P:Program} {F:Fr} {G G':Gh} {S S':Zc} {st st1 st2:St} {a:Act} {w w':World} {C:Zz} {oper:Oper} {D D2:Zd->Prop}
theorem IT.sv(h:Sim F G st a w){id:Zd}{l:List IV}{k b c:Nat}{K1:List Tr->Bool->St->Prop}(hs:st.sto id=some (.bx l))(hl2:id.1=st.lvl)(hg:G id []=some (b,c))(hlen:l.length=k)(hm:Yp l st K1) :
  ∃ ts u st2 D N news,K1 ts u st2/\IT G st (Zn id st2) w D [ts] N u k (.slice (some ⟨b,0,none⟩) 1 1) news:=by
 obtain⟨b',c',vs,ty,hb1,hb2,hvs⟩:=h.ok.obs _ _ hs
 rw[hg] at hb1;cases hb1
 have hvl:vs.size=k:=by rw[<-hlen];simpa using Ye hvs
 obtain⟨ts,u,st2,D2,src,h1,h2,_,h4,h5,h6,_,h8⟩:=Zae h l _ st _ _ (Kl.refl st) hvs hm
 have htl:ts.length=k:=by rw[h4,hlen]
 have hk2:=h2.step (fun j cells hj=>h.ok.low j cells hj) h.outl hl2 (by rw[hs];rfl)
 have hs2:=(h.kl h2).1
 have hav:∀ blk,Av G st2.sto w blk->Av G (Zn id st2).sto w blk:=fun blk hb=>⟨hb.1,fun i ob hi ho=>by
  by_cases hil:i.1=st2.lvl
  ·rw[QT hil (by rw[h2.lvl];exact hl2)] at hi
   split at hi
   ·cases hi
   ·obtain⟨ob0,g1,g2⟩:=UaF.1 hi
    refine hb.2 i ob0 g1 ?_
    subst g2
    cases ob0 <;> exact ho
  ·have:(Zn id st2).sto i=st2.sto i:=by rw[Yh (st:=Zn id st2) hil,Yh hil];rfl
   rw[this] at hi
   exact hb.2 i ob hi ho⟩
 let N:Ze->Option (Nat×Nat):=fun p=>match p with
  | (_,f)::q=>match src f with
   | some j=>G j q
   | none=>none
  | []=>none
 have es1:∀{i:Nat} {e:List Tr},[ts][i]? = some e->i=0/\e=ts:=fun {i e} hi=>by
  cases i with
  | zero=>simp at hi;exact⟨rfl,hi.symm⟩
  | succ i=>simp at hi
 have vat:∀{f:Nat} {t:Tr},ts[f]? = some t->∃ v,vs.toList[f]? = some v:=fun {f t} hf=>by
  have hlt:f<k:=by rw[<-htl];exact(Uac.1 hf).1
  exact⟨vs.toList[f]'(by simpa [hvl] using hlt),by simp [hvl,hlt]⟩
 have hsrc1:u=true->∀ p b1 c1,p≠[]->(getp [ts] p).isSome=true->N p=some (b1,c1)->∃ f q j k2 zs hw2 ver2,p=(0,f)::q/\src f=some j/\G j q=some (b1,c1)/\D2 j/\st.sto j=some (.ar k2 zs true hw2 ver2)/\(getp zs q).isSome=true:=by
  intro hu p b1 c1 hp hss hN
  cases p with
  | nil=>exact absurd rfl hp
  | cons cd q =>
   obtain⟨i,f⟩:=cd
   obtain⟨es2,he2⟩:=Uaj.1 hss
   obtain⟨e0,zs,g1,g2,g3⟩:=YR he2
   obtain⟨rfl,rfl⟩:=es1 g1
   simp only[N] at hN
   split at hN
   ·rename_i j hj
    obtain⟨v,hv⟩:=vat g2
    have:=h6 hu f _ v g2 hv
    rw[hj] at this
    obtain⟨r1,r2,k2,zs2,hw2,ver2,r3,r4,r5⟩:=this
    cases r4
    exact⟨f,q,j,k2,zs,hw2,ver2,rfl,hj,hN,r1,r3,by rw[g3];rfl⟩
   ·cases hN
 refine⟨ts,u,st2,_,N,vs.toList,h1,hk2,⟨by simp [hvl],_,_,rfl,.inl ⟨_,rfl,fun j x hj=>?_⟩⟩,fun e he=>by simp at he;subst he;exact htl,fun i e f t hi hf=>?_,fun hu i e f t hi hf=>?_,fun hu i f e zs q es2 hi hf hq=>?_,fun hu p b1 c1 hp hss hN=>?_,fun hu p p' b1 c1 c2 hp hp' hss hss' hN hN' => ?_⟩
 ·have:(⟨b,0,none⟩:Addr).add j=⟨b,j,none⟩:=by
   simp [Addr.add]
   try exact fun h=>h.symm
  rw[this]
  have:=cell_of_row w b j vs ty (0,0) hb2
  rw[this]
  simpa using hj
 ·obtain⟨rfl,rfl⟩:=es1 hi
  obtain⟨v,hv⟩:=vat hf
  exact⟨v,by simpa using hv,Rds.mono hav (fun _ _=>rfl) (h5 f t v hf hv)⟩
 ·obtain⟨rfl,rfl⟩:=es1 hi
  obtain⟨v,hv⟩:=vat hf
  refine⟨v,by simpa using hv,?_⟩
  subst hu
  have:=h6 rfl f t v hf hv
  split at this
  ·exact Rds.cell (Rds.mono hav (fun _ _=>rfl) (h5 f t v hf hv)) (fun _=>this)
  ·rename_i j hj
   exact Src.cell this (by simp [N,hj])
 ·obtain⟨rfl,rfl⟩:=es1 hi
  obtain⟨v,hv⟩:=vat hf
  have:=h6 hu f _ v hf hv
  split at this
  ·rename_i hj
   simp only[YB] at this
   subst this
   obtain⟨rfl,rfl⟩:=Vo hq
   unfold ZS
   simp [N,hj]
  ·rename_i j hj
   obtain⟨r1,r2,k2,zs2,hw2,ver2,r3,r4,r5⟩:=this
   cases r4
   have hr:=(h.ok.obs _ _ r3).2.2.2.1 q es2 (.inr rfl) hq
   have hr2:=D9 (G1:=G) (G2:=G) (A':=fun _=>False) (i:=j) rfl hr
   exact QU (G:=G) (id:=j) (p:=q) (A:=fun _=>False) (by simp [N,hj]) (fun _ r=>by simp [N,hj]) (fun hu=>by cases hu) (fun b hb=>hb.elim) (fun h=>by cases h) (fun _ _ _=>rfl) hr2
 ·obtain⟨f,q,j,k2,zs,hw2,ver2,rfl,hj,g1,g2,g3,g4⟩:=hsrc1 hu p b1 c1 hp hss hN
  exact⟨j,_,.inl g2,g3,q,c1,.inr rfl,g4,g1⟩
 ·obtain⟨f,q,j,k2,zs,hw2,ver2,rfl,hj,g1,g2,g3,g4⟩:=hsrc1 hu p b1 c1 hp hss hN
  obtain⟨f',q',j',k2',zs',hw2',ver2',rfl,hj',g1',g2',g3',g4'⟩:=hsrc1 hu p' b1 c2 hp' hss' hN'
  have hjj:=h.ok.dis _ _ _ _ b1 g3 g3' ⟨q,c1,.inr rfl,g4,g1⟩ ⟨q',c2,.inr rfl,g4',g1'⟩
  subst hjj
  rw[g3] at g3';cases g3'
  rw[h8 f f' j hj hj',(h.ok.obs _ _ g3).2.2.2.2 q q' b1 c1 c2 (.inr rfl) (.inr rfl) g4 g4' g1 g1']
theorem UH(h:Sim F G st a w){k md:Nat}{x y:X}{d:Option Nat}{K:St->Prop}(hd:d=oper.dst)(hdn:∀ y,d=some y->y<F.nt)(hc:Zj P (.ap k md x y) oper.op=true)(he:ew C d st K (.ap k md x y)):LOk P F a w oper K:=by
 subst hd
 simp only[Zj] at hc
 split at hc <;> try contradiction
 rename_i args argTypes ho
 split at hc <;> try contradiction
 rename_i xo yo t t2 hargs htys
 simp only[Uad,beq_iff_eq] at hc
 obtain⟨⟨⟨rfl,hcx⟩,hcy⟩,hc⟩:=hc
 split at hc <;> try contradiction
 rename_i e hel
 split at hc <;> try contradiction
 rename_i i hi
 simp only[Uad,beq_iff_eq,decide_eq_true_eq] at hc
 obtain⟨⟨⟨hik,hk0⟩,hby⟩,hz⟩:=hc
 split at hz <;> try contradiction
 rename_i z hz0
 have hzk:z.cells.size=k:=by simpa using hz
 have ht:=Y5 hel
 have hargs':args = #[xo,yo]:=by cases args;simpa using hargs
 have htys':argTypes = #[t,t]:=by cases argTypes;simpa using htys
 subst hargs'
 subst htys'
 have hx:=h.x hcx
 have hy:=h.x hcy
 have Jj:(∃ v w' st' G',UG P t oper.type (a.eval xo) (a.eval yo) w v w'/\K st'/\Sim F G' st' (a.put oper.dst v) w')->LOk P F a w oper K:=by
  rintro⟨v,w',st',G',hr,hk,hs⟩
  unfold UG at hr
  refine Res.of_run (v:=v) (w':=w') ?_ ⟨st',G',hk,hs⟩
  unfold execOp
  simp only[ho,resolve,invoke,builtin,Sem.run_bind,Sem.run_pure,Result.andThen_ok,List.map_toArray,Uay,UaR,hr]
 have hfr0:freshK (keyOf oper.dst) st.loc 1->st.sto (st.lvl,keyOf oper.dst)=none:=Zb9
 have trees:∀{es:Row} {ui:Bool},Rds w (Av G st.sto w) (a.eval yo) (.sl es)->(ui=true->ScR es)->Z7 oper.dst k x st.loc es ui st K->LOk P F a w oper K:=fun {es ui} hr hu hgo=>by
  obtain⟨news,it⟩:=IT.trees (ui:=ui) hr hk0 hgo.1 (fun h=>(hu h).flat)
  exact Jj (WL h it ht hi hz0 hik hzk hby hk0 hdn hx hfr0 hgo)
 simp only[ew] at he
 split at he <;> try contradiction
 ·rename_i es hq
  rw[hq] at hy
  split at he
  ·exact trees hy (fun _=>he.1) he.2
  ·exact trees hy (fun h=>by cases h) he.2
 ·rename_i es hq
  rw[hq] at hy
  split at he
  ·exact trees hy.2 (fun _=>he.1) he.2
  ·exact trees hy.2 (fun h=>by cases h) he.2
 ·rename_i id2 p2 off2 len2 cap2 s2 hq
  rw[hq] at hy
  split at he
  ·obtain⟨rfl,rfl,rfl,hl2,he⟩:=he
   split at he <;> try contradiction
   rename_i k2 zs u2 hw2 ver2 hs2
   obtain⟨rfl,rfl,hgo⟩:=he
   cases u2 with
   | true =>
    obtain⟨news,it⟩:=IT.moved h hs2 hl2 hy hk0 hgo.1
    exact Jj (WL h it ht hi hz0 hik hzk hby hk0 hdn (it.kl.xv hx) hfr0 hgo)
   | false =>
    obtain⟨stp,hr⟩:=UE h hs2 hl2 hy
    obtain⟨news,it⟩:=IT.trees (ui:=false) hr hk0 hgo.1 (fun h=>by cases h)
    refine Jj (WL stp.sim it ht hi hz0 hik hzk hby hk0 hdn (stp.sim.x hcx) (fun hf=>?_) hgo)
    show (Zn id2 st).sto (st.lvl,keyOf oper.dst)=none
    rw[QT rfl hl2]
    split
    ·rfl
    ·rw[hfr0 hf];rfl
  ·split at he
   ·unfold Jr at he
    split at he <;> try contradiction
    rename_i k2 es u2 hw2 ver2 hs2
    obtain⟨es',hg,hst,hl,hsc,hgo⟩:=he
    obtain⟨cs,fc,hcell⟩:=Zaf h.ok hs2 hg hst hy hl hgo.1
    have it:IT G st st w (fun _=>False) (cut es' off2 len2) (fun _=>none) true k (a.eval yo) cs:=IT.mk0 (by rw[Qm hl];exact fc) hgo.1 (fun i0 e0 f t0 h1 h2=>by
     obtain⟨x,hx,hr⟩:=hcell i0 e0 f t0 h1 h2
     refine⟨x,hx,?_⟩
     have:=hsc e0 (Uae h1) t0 (Uae h2)
     cases t0 with
     | v y=>obtain⟨rfl,hs⟩:=hr;exact .v _ hs
     | sl z=>simp [isSc] at this) (fun _=>hsc.flat)
    exact Jj (WL h it ht hi hz0 hik hzk hby hk0 hdn hx hfr0 hgo)
   ·obtain⟨_,rfl,he⟩:=he
    split at he <;> try contradiction
    rename_i k2 es u2 hw2 ver2 hs2
    obtain⟨rfl,hl,hgo⟩:=he
    have hfz:=h.freeze hs2
    have hy2:=hfz.2.vr (.hd id2 [] off2 len2 cap2 s2) (a.eval yo) (fun h=>h) hy
    have hs2':(Zg st id2 (.ar k2 es false s2 ver2)).sto id2=some (.ar k2 es false s2 ver2):=by rw[JY];unfold Zf;rw[if_pos rfl]
    obtain⟨cs,fc,hcell⟩:=Zaf hfz.1.ok hs2' (p:=[]) rfl (rfl:JA [] s2 s2 ver2 false) hy2 hl hgo.1
    have it:IT G (Zg st id2 (.ar k2 es false s2 ver2)) (Zg st id2 (.ar k2 es false s2 ver2)) w (fun _=>False) (cut es off2 len2) (fun _=>none) false k (a.eval yo) cs:=IT.mk0 (by rw[Qm hl];exact fc) hgo.1 (fun i0 e0 f t0 h1 h2=>by
     obtain⟨x,hx,hr⟩:=hcell i0 e0 f t0 h1 h2
     refine⟨x,hx,?_⟩
     cases t0 with
     | v y=>obtain⟨rfl,hs⟩:=hr;exact .v _ hs
     | sl z=>simpa [Z8] using hr) (fun h=>by cases h)
    refine Jj (WL hfz.1 it ht hi hz0 hik hzk hby hk0 hdn (hfz.1.x hcx) (fun hf=>?_) hgo)
    rw[VE,JY]
    unfold Zf
    rw[if_neg (fun hh=>by have h1:=hfr0 hf;rw[hh,hs2] at h1;cases h1)]
    exact hfr0 hf
 ·rename_i id2 hq
  rw[hq] at hy
  obtain⟨rfl,hl2,he⟩:=he
  split at he <;> try contradiction
  rename_i l hs2
  obtain⟨hlen,hm⟩:=he
  obtain⟨_,b,c,hs3,hgb,hyv⟩:=hy
  rw[hs2] at hs3;cases hs3
  obtain⟨ts,u,st2,D2,N,news,hgo,it⟩:=IT.sv h hs2 hl2 hgb hlen hm
  rw[<-hyv] at it
  exact Jj (WL h it ht hi hz0 hik hzk hby hk0 hdn (it.kl.xv hx) hfr0 hgo)
theorem Got.tree{l b:Nat}{k c:Nat}{es:Row}{S:Zc}{vs:Array Value}{ty:TypeId}(h:SOk G S w)(e:Ext w w')
  (hh:w'.heap[w.heap.size]? = some (.cells vs ty (0,0))) (hc:es.length<=c) (hk:Zu k es) (hr:Ux w (Av G S w) vs k es) :
  Got G S w l b (.tr (.sl es)) [] (.slice (some ⟨w.heap.size,0,none⟩) es.length c) w':=by
 refine Got.mk (G':=G) h (fun j hj=>absurd hj (UaZ j)) e (fun _ _ _=>rfl) (fun j ob hj=>by simp at hj) (fun hvr j ob hj=>by simp at hj) (fun j ob j' ob' blk hj=>by simp at hj) (fun j cells hj=>by simp at hj) (fun hvr=>?_)
 have hav:Av G S w' w.heap.size:=by
  refine⟨(UaA.1 hh).1,fun id ob hs ho=>?_⟩
  have:=JV (h.obs id ob hs) ho
  omega
 show Rds w' (Av G S w') _ _
 refine Rds.sl w.heap.size 0 c k es (fun i j=>(vs[i*k+j]?).getD undef) hav hk hc (fun i e0 j t h1 h2=>?_) (fun i e0 j t h1 h2=>?_)
 ·obtain⟨x,hx,_⟩:=hr i e0 j t h1 h2
  rw[Uax,hx]
  rw[cell_of_row w' w.heap.size (i*k+j) vs ty (0,0) hh,hx]
  rfl
 ·obtain⟨x,hx,hrd⟩:=hr i e0 j t h1 h2
  rw[hx]
  exact(hvr (.tr t) x hrd)
theorem Got.treeF{l b:Nat}{k c:Nat}{es:Row}{S:Zc}{vs:Array Value}{ty:TypeId}{fr:Nat×Nat}(h:SOk G S w)(e:Ext w w')
  (hh:w'.heap[w.heap.size]? = some (.cells vs ty fr)) (hc:es.length<=c) (hk:Zu k es) (hr:Ux w (Av G S w) vs k es) :
  Got G S w l b (.tr (.sl es)) [] (.slice (some ⟨w.heap.size,0,none⟩) es.length c) w':=by
 refine Got.mk (G':=G) h (fun j hj=>absurd hj (UaZ j)) e (fun _ _ _=>rfl) (fun j ob hj=>by simp at hj) (fun hvr j ob hj=>by simp at hj) (fun j ob j' ob' blk hj=>by simp at hj) (fun j cells hj=>by simp at hj) (fun hvr=>?_)
 have hav:Av G S w' w.heap.size:=by
  refine⟨(UaA.1 hh).1,fun id ob hs ho=>?_⟩
  have:=JV (h.obs id ob hs) ho
  omega
 show Rds w' (Av G S w') _ _
 refine Rds.sl w.heap.size 0 c k es (fun i j=>(vs[i*k+j]?).getD undef) hav hk hc (fun i e0 j t h1 h2=>?_) (fun i e0 j t h1 h2=>?_)
 ·obtain⟨x,hx,_⟩:=hr i e0 j t h1 h2
  rw[Uax,hx]
  rw[cell_of_row w' w.heap.size (i*k+j) vs ty fr hh,hx]
  rfl
 ·obtain⟨x,hx,hrd⟩:=hr i e0 j t h1 h2
  rw[hx]
  exact(hvr (.tr t) x hrd)
theorem Zfj{s:ByteArray}:(Xg s).length=s.size:=by
 unfold Xg
 rw[Uab,Array.length_toList]
 rfl
theorem Zk2{s:ByteArray}{i j:Nat}{e:List Tr}{t:Tr}(h1:(Xg s)[i]? = some e)(h2:e[j]? = some t):j=0/\∃ hi:i<s.data.size,t = .v (.int .u8 (s.data[i]'hi).toNat):=by
 unfold Xg at h1
 rw[Uaz] at h1
 cases hb:s.data.toList[i]? with
 | none=>rw[hb] at h1;cases h1
 | some x =>
  rw[hb] at h1
  have h1:=Ua6 h1
  subst h1
  have hj:j=0:=by
   have:=(Uac.1 h2).1
   simpa using this
  subst hj
  obtain⟨hi,rfl⟩:=Uac.1 hb
  exact⟨rfl,by simpa using hi,(Ua6 h2).symm.trans (by simp)⟩
theorem Zk3{K:JI}{l b:Nat}(h:Sim F G st a w){x:X}(hc:Zj P (.cv .bys x) oper.op=true)(he:ev C (xv st.env) st.sto K (.cv .bys x)):EvOk P G st a w K l b oper:=by
 simp only[Zj] at hc
 split at hc <;> try contradiction
 rename_i s d y ho
 simp only[Uad,Uaj] at hc
 obtain⟨⟨hx,sd,hs⟩,hd⟩:=hc
 have hx:=h.x hx
 split at hd <;> try contradiction
 rename_i hk _ e hde hk2
 split at hd <;> try contradiction
 rename_i hee
 simp only[ev] at he
 split at he <;> try contradiction
 rename_i sv hk3 hq
 rw[hq] at hx
 obtain⟨hx,_⟩:=hx.val
 have hrun:=Lib.run_convert_string_bytes (P:=P) w s d e sv hs (by assumption) (by assumption)
 refine Res.of_run (v:=.slice (some ⟨w.heap.size,0,none⟩) sv.size (grownCap w sv.size 0 e)) (w':=Lib.bytesWorld w e sv) ?_ ⟨_,_,he,?_⟩
 ·unfold execOp
  simp only[ho,hx,Sem.run_bind,Sem.run_pure,Result.andThen_ok,hrun]
 ·have:=Got.treeF (l:=l) (b:=b) (S:=st.sto) (G:=G) (w:=w) (k:=1) (c:=grownCap w sv.size 0 e) (es:=Xg sv) (ty:=e) (w':=Lib.bytesWorld w e sv) h.ok
   ⟨by rw[Lib.bytesWorld_size];omega,fun b hb=>Lib.bytesWorld_at_old w e sv b hb,rfl,rfl,rfl⟩ (Lib.bytesWorld_at_new w e sv) (by rw[Zfj];exact grownCap_ge w sv.size 0 e)
   (fun e0 he0=>by
    obtain⟨x,_,rfl⟩:=UaG.1 he0
    rfl)
   (fun i0 e0 f t0 h1 h2=>by
    obtain⟨rfl,hi,rfl⟩:=Zk2 h1 h2
    refine⟨.int .u8 (sv.data[i0]'hi).toNat,?_,.v _ rfl⟩
    unfold Lib.bytesCells
    rw[Nat.mul_one,Nat.add_zero,UaE (by simpa using hi),UbP,UaQ hi]
    rfl)
  rw[Zfj] at this
  exact this
theorem Zk4{K:JI}{l b:Nat}(h:Sim F G st a w){k:Nat}{x y:X}(hc:Zj P (.a3 k x y) oper.op=true)(he:ev C (xv st.env) st.sto K (.a3 k x y)):EvOk P G st a w K l b oper:=by
 simp only[Zj] at hc
 split at hc <;> try contradiction
 rename_i args argTypes ho
 split at hc <;> try contradiction
 rename_i xo yo t t2 hargs htys
 simp only[Uad,beq_iff_eq] at hc
 obtain⟨⟨⟨rfl,hcx⟩,hcy⟩,hc⟩:=hc
 split at hc <;> try contradiction
 rename_i e hel
 split at hc <;> try contradiction
 rename_i i hi
 simp only[Uad,beq_iff_eq,decide_eq_true_eq] at hc
 obtain⟨⟨⟨hik,hk0⟩,hby⟩,hz⟩:=hc
 split at hz <;> try contradiction
 rename_i z hz0
 have hzk:z.cells.size=k:=by simpa using hz
 have ht:=Y5 hel
 have hargs':args = #[xo,yo]:=by cases args;simpa using hargs
 have htys':argTypes = #[t,t]:=by cases argTypes;simpa using htys
 subst hargs'
 subst htys'
 have hx:=h.x hcx
 have hy:=h.x hcy
 simp only[ev] at he
 split at he <;> try contradiction
 rename_i zs hq
 rw[hq] at hx
 subst hik
 obtain⟨⟨ad,hxe⟩,hrd⟩:=hx
 have key:∀{items:Row},(∃ cs,FC w i.size items.length (a.eval yo) cs/\∀(i0:Nat) (e0:List Tr) (f:Nat) (t0:Tr),items[i0]? = some e0->e0[f]? = some t0->∃ x,cs[i0*i.size+f]? = some x/\Rds w (Av G st.sto w) x t0) ->
   (items≠[]/\ScR items/\Zu i.size zs/\Zu i.size items/\zs.length+items.length<=bigN/\Zx K (.tr (.sl (zs++items))))->EvOk P G st a w K l b oper:=by
  rintro items ⟨news,hfn,hnew⟩ ⟨hit,_,hkz,hki,hb,hK⟩
  have hm:0<items.length:=UbQ fun h0=>hit (Uaw h0)
  rw[hxe] at hrd
  obtain⟨olds,hfc,hold⟩:=hrd.fc hk0 hkz
  have hrun:=Zcb (P:=P) (ty:=oper.type) ht hi hz0 hfc hfn (by omega) hb hby
  have hge:=grownCap_ge w (zs.length+items.length) zs.length e
  have holl:olds.length=zs.length*i.size:=hfc.1
  refine Res.of_run (v:=.slice (some ⟨w.heap.size,0,none⟩) (zs.length+items.length) (grownCap w (zs.length+items.length) zs.length e)) (w':=w.drew.alloc (.cells (olds.toArray++news.toArray++Builtin.zeroCells z.cells (grownCap w (zs.length+items.length) zs.length e-(zs.length+items.length))) e)) ?_ ⟨_,_,hK,?_⟩
  ·unfold execOp
   simp only[ho,resolve,invoke,builtin,Sem.run_bind,Sem.run_pure,Result.andThen_ok,List.map_toArray,Uay,UaR,hxe,hrun]
  ·have:=Got.tree (l:=l) (b:=b) (S:=st.sto) (G:=G) (w:=w) (k:=i.size) (c:=grownCap w (zs.length+items.length) zs.length e) (es:=zs++items) (ty:=e)
    (vs:=olds.toArray++news.toArray++Builtin.zeroCells z.cells (grownCap w (zs.length+items.length) zs.length e-(zs.length+items.length)))
    (w':=w.drew.alloc (.cells (olds.toArray++news.toArray++Builtin.zeroCells z.cells (grownCap w (zs.length+items.length) zs.length e-(zs.length+items.length))) e))
    h.ok ⟨by simp,fun b hb=>heap_alloc_old w.drew _ b hb,rfl,rfl,rfl⟩ (heap_alloc_new w.drew _) (by rw[Uai];exact hge)
    (fun e he=>by
     rcases Uas.1 he with he | he
     ·exact hkz e he
     ·exact hki e he)
    (fun i0 e0 f t0 h1 h2=>by
     by_cases hil:i0<zs.length
     ·rw[Uap hil] at h1
      obtain⟨x,hx,hr⟩:=hold i0 e0 f t0 h1 h2
      refine⟨x,?_,hr⟩
      have hjl:=(Uac.1 hx).1
      rw[Ubh,UaE (by simpa using hjl)]
      simpa using hx
     ·obtain⟨m,rfl⟩:∃ m,i0=zs.length+m:=⟨i0-zs.length,by omega⟩
      rw[Uaq (by omega),show zs.length+m-zs.length=m from by omega] at h1
      obtain⟨x,hx,hr⟩:=hnew m e0 f t0 h1 h2
      refine⟨x,?_,hr⟩
      have hjl:=(Uac.1 hx).1
      rw[UaK,Ua1,Ubh,Array.getElem?_append_right (by simp;omega),UaE (by simp;omega)]
      simp only[Ubf,holl,UaW]
      simpa using hx)
   rw[Uai] at this
   exact this
 unfold YH at he
 split at he
 ·rename_i es hqy
  rw[hqy] at hy
  exact key (Rds.fc hy hk0 he.2.2.2.1) he
 ·rename_i es hqy
  rw[hqy] at hy
  exact key (Rds.fc hy.2 hk0 he.2.2.2.1) he
 ·rename_i id2 p2 off2 len2 c2 s2 hqy
  rw[hqy] at hy
  unfold Jr at he
  split at he <;> try contradiction
  rename_i k2 es u2 hw2 ver2 hs2
  obtain⟨es',hg,hst,hl,he⟩:=he
  obtain⟨cs,fc,hcell⟩:=Zaf h.ok hs2 hg hst hy hl he.2.2.2.1
  refine key ⟨cs,by rw[Qm hl];exact fc,fun i0 e0 f t0 h1 h2=>?_⟩ he
  obtain⟨x,hx,hr⟩:=hcell i0 e0 f t0 h1 h2
  refine⟨x,hx,?_⟩
  have:=he.2.1 e0 (Uae h1) t0 (Uae h2)
  cases t0 with
  | v y=>obtain⟨rfl,hs⟩:=hr;exact .v _ hs
  | sl z=>simp [isSc] at this
 ·contradiction
theorem Zfk{k:Nat}{x y:X}{d:Option Nat}{K:St->Prop}(he:ew C d st K (.a0 k x y)):ew C d st K (.ap k 0 x y):=by
 simp only[ew,Ji] at he ⊢
 split at he <;> try contradiction
 rename_i id len s hx
 split at he <;> try contradiction
 rename_i k' es u hw ver hs
 obtain⟨h1,h2,h3,h4⟩:=he
 have go:∀ items:Row,ScR items->Zu k items->len+items.length<=bigN->K { Zg st id (.ar k (es++items) u (max hw (len+items.length)) ver) with env:=ptd d (.hd id [] 0 (len+items.length) none (max hw (len+items.length))) st.env }->ScR items/\Z7 d k x st.loc items true st K:=fun items g1 g2 g3 g4=>by
  refine⟨g1,?_⟩
  unfold Z7
  refine⟨g2,?_⟩
  simp only[hx,hs,Ubt]
  exact⟨h1,h2,h3,g3,g4⟩
 unfold YH at h4
 split at h4 <;> try contradiction
 ·rename_i zs hy
  simp only[hy,if_true]
  exact go zs h4.1 h4.2.1 h4.2.2.1 h4.2.2.2
 ·rename_i zs hy
  simp only[hy,if_true]
  exact go zs h4.1 h4.2.1 h4.2.2.1 h4.2.2.2
 ·rename_i id2 p2 off2 len2 c2 s2 hy
  simp only[hy,if_true]
  unfold Jr at h4 ⊢
  split at h4 <;> try contradiction
  obtain⟨es',q1,q2,q3,q4⟩:=h4
  exact⟨es',q1,q2,q3,go _ q4.1 q4.2.1 q4.2.2.1 q4.2.2.2⟩
theorem Zk5(h:Sim F G st a w){k:Nat}{x y:X}{d:Option Nat}{K:St->Prop}(hd:d=oper.dst)(hdn:∀ y,d=some y->y<F.nt)(hc:Zj P (.a0 k x y) oper.op=true)(he:ew C d st K (.a0 k x y)):LOk P F a w oper K:=by
 have hc':Zj P (.ap k 0 x y) oper.op=true:=by simpa only[Zj] using hc
 refine UH (C:=C) h hd hdn hc' ?_
 exact Zfk he
theorem Zfl{k:Nat}{x y:X}{d:Option Nat}{K:St->Prop}(he:ew C d st K (.a1 k x y)):ew C d st K (.ap k 1 x y):=by
 simp only[ew,Ji] at he ⊢
 split at he <;> try contradiction
 rename_i id len s hx
 split at he <;> try contradiction
 rename_i k' es u hw ver hs
 obtain⟨h1,h2,h3,h4⟩:=he
 have go:∀ items:Row,Zu k items->len+items.length<=bigN->K { Zg st id (.ar k (es++items) false (max hw (len+items.length)) ver) with env:=ptd d (.hd id [] 0 (len+items.length) none (max hw (len+items.length))) st.env }->Z7 d k x st.loc items false st K:=fun items g2 g3 g4=>by
  unfold Z7
  refine⟨g2,?_⟩
  simp only[hx,hs,Bool.and_false]
  exact⟨h1,h2,h3,g3,g4⟩
 unfold Wx at h4
 split at h4 <;> try contradiction
 ·rename_i zs hy
  simp only[hy]
  rw[if_neg (by decide)]
  exact⟨trivial,go zs h4.1 h4.2.1 h4.2.2⟩
 ·rename_i zs hy
  simp only[hy]
  rw[if_neg (by decide)]
  exact⟨trivial,go zs h4.1 h4.2.1 h4.2.2⟩
theorem Zk6(h:Sim F G st a w){k:Nat}{x y:X}{d:Option Nat}{K:St->Prop}(hd:d=oper.dst)(hdn:∀ y,d=some y->y<F.nt)(hc:Zj P (.a1 k x y) oper.op=true)(he:ew C d st K (.a1 k x y)):LOk P F a w oper K:=by
 have hc':Zj P (.ap k 1 x y) oper.op=true:=by simpa only[Zj] using hc
 refine UH (C:=C) h hd hdn hc' ?_
 exact Zfl he
structure Sm (s t:St):Prop where
 lvl:s.lvl=t.lvl
 env:s.env=t.env
 sto:s.sto=t.sto
 out:s.out=t.out
theorem Sim.sm{s t:St}{G:Gh}{a:Act}{w:World}(h:Sim F G t a w)(e:Sm s t):Sim F G s a w :=
 ⟨h.dfr,h.sz,fun x=>by rw[e.env,e.sto];exact h.env x,by rw[e.sto];exact h.ok,e.lvl.trans h.lvl,fun id ob ho=>by rw[e.lvl];rw[e.out] at ho;exact h.outl id ob ho,by rw[e.sto];exact h.fr,h.fix⟩
theorem Zk7{st:St}{id:Zd}{ob:Ob}(h:st.sto id=some ob):(Zg st id ob).sto=st.sto/\(Zg st id ob).out=st.out:=by
 constructor
 ·rw[JY]
  funext i
  unfold Zf
  split
  ·rename_i e;rw[e,h]
  ·rfl
 ·unfold Zg
  split
  ·rfl
  ·rename_i hne
   dsimp only
   funext i
   unfold Zf
   split
   ·rename_i e;rw[e,<-h,Yh hne]
   ·rfl
theorem Zk8(h:Sim F G st a w){k:Nat}{x y:X}{d:Option Nat}{K:St->Prop}(hd:d=oper.dst)(hdn:∀ y,d=some y->y<F.nt)(hc:Zj P (.a2 k x y) oper.op=true)(he:ew C d st K (.a2 k x y)):LOk P F a w oper K:=by
 have hc':Zj P (.ap k 1 x y) oper.op=true:=by simpa only[Zj] using hc
 have key:ew C d st (fun t=>∃ s,K s/\Sm s t) (.ap k 1 x y):=by
  simp only[ew,Ji] at he ⊢
  split at he <;> try contradiction
  rename_i id len s hx
  split at he <;> try contradiction
  rename_i k' es u hw ver hs
  obtain⟨h1,h2,h3,h4⟩:=he
  unfold XR at h4
  split at h4 <;> try contradiction
  rename_i id2 off2 len2 c2 s2 hy
  split at h4 <;> try contradiction
  rename_i k2 es2 hw2 ver2 hs2
  obtain⟨q1,q2,q3,q4,q5⟩:=h4
  obtain⟨e1,e2⟩:=Zk7 hs2
  simp only[hy,hs2]
  rw[if_neg (by decide),if_neg (by decide)]
  refine⟨trivial,trivial,q1,q2,?_⟩
  have hlv:(Zg st id2 (.ar k2 es2 false hw2 ver2)).lvl=st.lvl:=VE _ _ _
  have hev:(Zg st id2 (.ar k2 es2 false hw2 ver2)).env=st.env:=by unfold Zg;split <;> rfl
  unfold Z7
  refine⟨q3,?_⟩
  simp only[hev,hx,e1,hs,Bool.and_false]
  refine⟨h1,h2,h3,q4,_,q5,?_,rfl,?_,?_⟩
  ·show (Zg st id _).lvl=(Zg (Zg st id2 _) id _).lvl
   rw[VE,VE,VE]
  ·show (Zg st id _).sto=(Zg (Zg st id2 _) id _).sto
   rw[JY,JY,e1]
  ·show (Zg st id _).out=(Zg (Zg st id2 _) id _).out
   unfold Zg at e2 ⊢
   split <;> split at e2 <;> simp_all
 have:=UH (C:=C) h hd hdn hc' key
 refine this.mono ?_
 rintro v w' ⟨st',G',⟨s,hk,hm⟩,hs⟩
 exact⟨s,G',hk,hs.sm hm⟩
theorem Zfm{k:Nat}{x y:X}{d:Option Nat}{K:St->Prop}(he:QK d k x y st K):ew C d st K (.ap k 2 x y):=by
 unfold QK at he
 simp only[ew]
 split at he <;> try contradiction
 rename_i id2 hy
 simp only[hy]
 exact⟨trivial,he⟩
theorem Zk9(h:Sim F G st a w){k:Nat}{x y:X}{d:Option Nat}{K:St->Prop}(hd:d=oper.dst)(hdn:∀ y,d=some y->y<F.nt)(hc:Zj P (.a4 k x y) oper.op=true)(he:ew C d st K (.a4 k x y)):LOk P F a w oper K:=by
 have hc':Zj P (.ap k 2 x y) oper.op=true:=by simpa only[Zj] using hc
 refine UH (C:=C) h hd hdn hc' (Zfm ?_)
 simp only[ew] at he
 exact he.2
end
variable [Tabs]
theorem Zcc:∀(obs:List Ob) (b:Nat) (st:St),({ st with loc:=addO b obs st.loc }:St).sto=ZJ st.sto st.lvl b obs
 | [],b,st=>rfl
 | o::r,b,st=>by
  have h1:=Zcc r (b+1) { st with loc:=ptO b o st.loc }
  have h2:=JY st (st.lvl,b) o
  have h3:Zg st (st.lvl,b) o = { st with loc:=ptO b o st.loc }:=by unfold Zg;simp
  rw[h3] at h2
  simp only[addO,ZJ]
  rw[<-h2]
  exact h1
section
variable {P:Program} {F:Fr} {G G':Gh} {st:St} {a:Act} {w w':World} {C:Zz} {oper:Oper}
theorem Sim.got(h:Sim F G st a w){d:Option Nat}{key:Nat}{x:IV}{obs:List Ob}{v:Value}(hg:Got G st.sto w st.lvl key x obs v w')(hd:∀ y,d=some y->y<F.nt) :
  ∃ G',Sim F G' { st with env:=ptd d x st.env,loc:=addO key obs st.loc } (a.put d v) w':=by
 obtain⟨G',h1,h2,h3⟩:=hg
 have hsto:({ st with env:=ptd d x st.env,loc:=addO key obs st.loc }:St).sto=ZJ st.sto st.lvl key obs:=by rw[<-Zcc];rfl
 refine⟨G',by cases d <;> exact h.dfr,by cases d <;> simp [Act.put,h.sz],fun s=>?_,by rw[hsto];exact h1,h.lvl,h.outl,by rw[hsto];exact h.fr.trans h3 (by show F.lvl<=st.lvl+1;rw[h.lvl];omega),h.fix⟩
 rw[hsto,Act.put_get a d v s (by rw[h.sz];exact hd)]
 have h0:=h3.stab _ _ (h.men_lt (h.env s)) (h.env s)
 cases d with
 | none=>simpa [ptd] using h0
 | some d =>
  simp only[ptd,Uam]
  rw[XW]
  by_cases hs:s=d
  ·rw[if_pos hs,if_pos hs.symm];exact h2
  ·rw[if_neg hs,if_neg (fun e=>hs e.symm)];exact h0
end
variable [Tabs]
section
variable {P:Program} {F:Fr} {G G':Gh} {st:St} {a:Act} {w w':World} {oper:Oper} {K:JI} {b:Nat}
theorem Zfn{l:List IV}{vs:List Value}{ts:List Tr}{q:Bool}(h:Zi G st.sto w l vs)(ht:totrs l=some (ts,q)):∀(j:Nat) (t:Tr),ts[j]? = some t->∃ x,vs[j]? = some x/\Rds w (Av G st.sto w) x t:=fun j t hj=>by
 obtain⟨h1,h2,_⟩:=ZbS h ht
 have hlt:j<vs.length:=by rw[<-h1];exact(Uac.1 hj).1
 exact⟨vs[j],Uag hlt,h2 j t _ hj (Uag hlt)⟩
theorem Zla(h:Sim F G st a w){C:Zz}{l:Nat}{x:X}(hc:Zj P (.bt x) oper.op=true)(he:ev C (xv st.env) st.sto K (.bt x)):EvOk P G st a w K l b oper:=by
 simp only[Zj] at hc
 split at hc <;> try contradiction
 rename_i t y ho
 have hx:=h.x hc
 simp only[ev] at he
 split at he <;> try contradiction
 rename_i c hcc
 split at he <;> try contradiction
 rename_i ts q hts
 obtain⟨hvs,_⟩:=Xj hx hcc
 have htt:=Zfn hvs hts
 have e:=Ext.alloc w (.cells (a.eval y).cells t)
 refine Res.of_run (v:=.pointer (some ⟨w.heap.size,0,none⟩)) (w':=w.alloc (.cells (a.eval y).cells t)) (by simp [execOp,ho,Instr.box,newVar,newRow,newObj,Sem.run]) ⟨_,_,he,G,h.ok.ext e,?_,Frm.of_ext e⟩
 have hnew:=heap_alloc_new w (.cells (a.eval y).cells t)
 refine⟨w.heap.size,0,fun j=>((a.eval y).cells[j]?).getD undef,⟨?_,fun i ob hs ho=>?_⟩,rfl,fun j u hj=>?_⟩
 ·exact(UaA.1 hnew).1
 ·have:=JV (h.ok.obs i ob hs) ho;omega
 ·obtain⟨u1,h1,h2⟩:=htt j u hj
  have h1':(a.eval y).cells[j]? = some u1:=by simpa using h1
  rw[Uax,cell_of_row _ _ j (a.eval y).cells t (0,0) hnew,h1']
  have h3:=h2.mono (A':=Av G st.sto (w.alloc (.cells (a.eval y).cells t))) (w':=w.alloc (.cells (a.eval y).cells t)) (fun blk hb=>DL e blk hb) (fun blk hb=>e.heap blk hb.1)
  have hf:((a.eval y).cells[j]?).getD undef=u1:=by rw[h1'];rfl
  refine⟨by dsimp only;rw[hf],?_⟩
  dsimp only
  rw[hf]
  exact h3
theorem Zlb(h:Sim F G st a w){C:Zz}{l n:Nat}{x:X}(hc:Zj P (.sa n x) oper.op=true)(he:ev C (xv st.env) st.sto K (.sa n x)):EvOk P G st a w K l b oper:=by
 simp only[Zj] at hc
 split at hc <;> try contradiction
 rename_i t y ho
 simp only[Uad] at hc
 have hx:=h.x hc.1
 obtain⟨_,hc⟩:=hc
 split at hc <;> try contradiction
 rename_i m e hu
 simp only[Uad,beq_iff_eq] at hc
 obtain⟨rfl,hsz⟩:=hc
 simp only[ev] at he
 split at he <;> try contradiction
 rename_i cells hq
 rw[hq] at hx
 obtain⟨b0,o,f,hb,hv,hcell⟩:=hx
 obtain⟨hle,he⟩:=he
 have hlen:((cells.take m).map fun c=>[c]).length=m:=by simp [hle]
 have hget:∀(i:Nat) (ee:List Tr) (j:Nat) (t:Tr),((cells.take m).map fun c=>[c])[i]? = some ee->ee[j]? = some t->j=0/\cells[i]? = some t:=fun i ee j t h1 h2=>by
  rw[Uaz,Uat] at h1
  split at h1
  ·cases hci:cells[i]? with
   | none=>rw[hci] at h1;cases h1
   | some c =>
    rw[hci] at h1
    simp only[Option.map_some,Uam] at h1
    subst h1
    cases j with
    | zero=>simp at h2;exact⟨rfl,by rw[h2]⟩
    | succ j=>simp at h2
  ·cases h1
 have hr:=Rds.sl (w:=w) (A:=Av G st.sto w) b0 o m 1 ((cells.take m).map fun c=>[c]) (fun i j=>f i) hb (fun ee hee=>by obtain⟨c,_,rfl⟩:=UaG.1 hee;rfl) (by rw[hlen];exact Uaf _)
  (fun i ee j t h1 h2=>by
   obtain⟨rfl,hci⟩:=hget i ee j t h1 h2
   rw[Nat.mul_one,Nat.add_zero]
   exact(hcell i t hci).1)
  (fun i ee j t h1 h2=>(hcell i t (hget i ee j t h1 h2).2).2)
 rw[hlen] at hr
 refine EvOk.pure h (v:=.slice (some ⟨b0,o,none⟩) m m) ?_ (x:=.cs _) ⟨⟨_,by rw[hlen]⟩,hr⟩ he
 have hb:=Uy (P:=P) (w:=w) (isS:=false) (lo:=none) (hi:=none) (mx:=none) (len:=m) (cap:=m) (A:=0) (B:=m) (M:=m) (.inl ⟨rfl,rfl⟩) (.inl ⟨rfl,rfl,rfl⟩) (.inl ⟨rfl,rfl⟩) (Ua9 _) (Uaf _) (Uaf _)
 simp only[execOp,ho,Instr.sliceAt,Sem.run_bind,run_underlying hu,Result.andThen_ok,hv,Instr.sureAddr,hb,YJ hsz,Sem.run_pure,Option.map_none]
 congr 3
 simp only[Nat.zero_mul,Addr.add]
 simp
theorem Zfo:∀{es:Row} {l:List UInt8},Yy es=some l->∃ ns:List Int,es=ns.map (fun n=>[Tr.v (.int .u8 n)])/\l=ns.map fun n=>UInt8.ofNat n.toNat
 | [],l,h=>by cases h;exact⟨[],rfl,rfl⟩
 | e::r,l,h=>by
  unfold Yy at h
  split at h
  ·rename_i heq;cases heq
  ·rename_i n r' heq
   cases heq
   cases hr:Yy r with
   | none=>rw[hr] at h;cases h
   | some l' =>
    rw[hr] at h
    cases h
    obtain⟨ns,h1,h2⟩:=Zfo hr
    exact⟨n::ns,by rw[h1];rfl,by rw[h2];rfl⟩
  ·cases h
theorem Zlc{A:Nat->Prop}{v:Value}{es:Row}{l:List UInt8}{src dst e:TypeId}(hs:P.underlying src=some (.slice e))(he:P.underlying e=some (.int .u8))(hd:P.underlying dst=some .string)(h:Rds w A v (.sl es))(hl:Yy es=some l) :
  (convert src dst v).run P w = .ok (.string ⟨l.toArray⟩) w:=by
 obtain⟨ns,rfl,rfl⟩:=Zfo hl
 generalize ht:Tr.sl (ns.map fun n=>[Tr.v (.int .u8 n)])=t at h
 cases h with
 | v x h=>cases ht
 | nil ad c =>
  have h0:ns=[]:=by simpa using ht
  subst h0
  cases ad with
  | none=>exact run_convert_bytes_nil w src e hs he 0 c dst hd
  | some ad =>
   rw[run_convert_bytes_string w src dst e _ 0 c hs he hd,run_bytesToString w ad 0 c [] (by simpa using run_loadCells_list (P:=P) w ad [] (fun j v h=>by simp at h))]
   rfl
 | sl b0 o c k es f hA hk hlc hcell hr =>
  cases ht
  have hk1:ns=[]\/k=1:=by
   cases ns with
   | nil=>exact .inl rfl
   | cons n r=>right;have:=hk [Tr.v (.int .u8 n)] (by simp);simpa using this.symm
  have:=run_convert_bytes_arg (P:=P) w src e hs he b0 o (ns.map fun n=>[Tr.v (.int .u8 n)]).length c ns (by simp) (fun i hi=>by
   have hi:i<ns.length:=by simpa using hi
   rcases hk1 with h0 | rfl
   ·subst h0;simp at hi
   ·have h1:(ns.map fun n=>[Tr.v (.int .u8 n)])[i]? = some [Tr.v (.int .u8 ns[i])]:=by simp [hi]
    have h2:=hcell i _ 0 _ h1 rfl
    have h3:=hr i _ 0 _ h1 rfl
    rw[Nat.mul_one,Nat.add_zero] at h2
    rw[h2]
    generalize f i 0=fv at h3
    cases h3
    simp [List.getD,hi]) dst hd
  rw[this]
  rfl
theorem Zld(h:Sim F G st a w){C:Zz}{l:Nat}{x:X}(hc:Zj P (.sb x) oper.op=true)(he:ev C (xv st.env) st.sto K (.sb x)):EvOk P G st a w K l b oper:=by
 simp only[Zj] at hc
 split at hc <;> try contradiction
 rename_i s d y ho
 simp only[Uad] at hc
 obtain⟨⟨hcx,hd⟩,hs⟩:=hc
 split at hd <;> try contradiction
 rename_i hd'
 split at hs <;> try contradiction
 rename_i e hel
 split at hs <;> try contradiction
 rename_i hu8
 have hx:=h.x hcx
 have Jj:∀{A:Nat->Prop} {es:Row} {bs:List UInt8},Rds w A (a.eval y) (.sl es)->Yy es=some bs->Zx K (iS ⟨bs.toArray⟩)->EvOk P G st a w K l b oper:=fun hr hb hK=>by
  refine EvOk.pure h (v:=.string _) ?_ (VR.mk rfl) hK
  have:=Zlc (P:=P) (Y5 hel) hu8 hd' hr hb
  simp only[execOp,ho,Sem.run_bind,this,Result.andThen_ok,Sem.run_pure]
 simp only[ev] at he
 split at he <;> try contradiction
 ·rename_i es hq
  rw[hq] at hx
  obtain⟨bs,h1,h2⟩:=he
  exact Jj hx h1 h2
 ·rename_i es hq
  rw[hq] at hx
  obtain⟨bs,h1,h2⟩:=he
  exact Jj hx.2 h1 h2
 ·rename_i id p off len cap s0 hq
  rw[hq] at hx
  unfold Jr at he
  split at he <;> try contradiction
  rename_i k es u hw ver hs0
  obtain⟨es',hg,hst,hle,bs,h1,h2⟩:=he
  exact Jj (Xn (A:=fun _=>True) h.ok (fun _ _ _=>trivial) hs0 (fun _ _=>trivial) hx hst hg hle).1 h1 h2
theorem QX{ρ:X->IV}{x:Option X}{n:Nat}{K K':Nat->Prop}(h:∀ a,K a->K' a)(hb:ZI ρ x n K):ZI ρ x n K':=by
 unfold ZI at *
 split at hb <;> try contradiction
 ·exact h _ hb
 ·split at hb <;> try contradiction
  exact⟨hb.1,h _ hb.2⟩
theorem Zle(h:Sim F G st a w):∀(o:O),Jh o=false->(∀ mk obs,K mk obs->Yg st.sto st.lvl b (obs st.lvl b).length)->Zj P o oper.op=true->ev (Sem P) (xv st.env) st.sto K o->EvOk P G st a w K st.lvl b oper
 | .mv x none,_,_,hc,he=>ZjZ h hc he
 | .mv x (some k),_,hf,hc,he=>Zks h hf hc he
 | .bx x,_,hf,hc,he=>Zkt h rfl hf hc he
 | .al z nz,_,hf,hc,he=>Zkw h hf hc he
 | .bd z ps nz,_,hf,hc,he=>Zkz h hf hc he
 | .bs k n z ps,_,hf,hc,he=>Zky h hf hc he
 | .bw ..,hl,_,_,_=>by cases hl
 | .a3 k x y,_,_,hc,he=>Zk4 h hc he
 | .bv k n z ps,_,hf,hc,he=>ZkZ h rfl hf hc he
 | .ld none p,_,_,hc,he=>ZbK h hc he
 | .ld (some m) p,_,_,hc,he=>ZbL h hc he
 | .st ..,hl,_,_,_=>by cases hl
 | .gv ..,hl,_,_,_=>by cases hl
 | .bi op w x y,_,_,hc,he=>Zj7 h hc he
 | .qa neg ks x y,_,_,hc,he=>ZkF h hc he
 | .nt x,_,_,hc,he=>Zj0 h hc he
 | .ng x,_,_,hc,he=>Zj1 h hc he
 | .cv c x,_,_,hc,he=>Zkh h hc he fun e=>by subst e;exact Zk3 h hc he
 | .mf f cs,_,_,hc,he=>Zka h hc he
 | .ms k z l,_,hf,hc,he=>ZkA h hf hc he
 | .sx k x lo hi mx,_,_,hc,he=>ZbT h hc he
 | .ss x lo hi,_,_,hc,he=>ZkB h hc he
 | .fa off p,_,_,hc,he=>Zkm h hc he
 | .fd off m x,_,_,hc,he=>Zko h hc he
 | .ia k x i,_,_,hc,he=>ZeJ h hc he
 | .ja k n p i,_,_,hc,he=>Zkn h hc he
 | .ix x i,_,_,hc,he=>Zkg h hc he
 | .jx k n m x i,_,_,hc,he=>Zkp h hc he
 | .ln x,_,_,hc,he=>Zkd h hc he
 | .lg x,_,_,hc,he=>Zke h hc he
 | .la n,_,_,hc,he=>Zkf h hc he
 | .ap ..,hl,_,_,_=>by cases hl
 | .nl ..,hl,_,_,_=>by cases hl
 | .cp ..,hl,_,_,_=>by cases hl
 | .sh ..,hl,_,_,_=>by cases hl
 | .cl ..,hl,_,_,_=>by cases hl
 | .cy ..,hl,_,_,_=>by cases hl
 | .c0 ..,hl,_,_,_=>by cases hl
 | .fz ..,hl,_,_,_=>by cases hl
 | .rk ..,hl,_,_,_=>by cases hl
 | .mz ..,hl,_,_,_=>by cases hl
 | .lz ..,hl,_,_,_=>by cases hl
 | .a1 ..,hl,_,_,_=>by cases hl
 | .a2 ..,hl,_,_,_=>by cases hl
 | .a4 ..,hl,_,_,_=>by cases hl
 | .xx,hl,_,_,_=>by cases hl
 | .s0 ..,hl,_,_,_=>by cases hl
 | .a0 ..,hl,_,_,_=>by cases hl
 | .az ..,hl,_,_,_=>by cases hl
 | .sy k x lo hi mx,_,_,hc,he=>ZbT (C:=Sem P) h (by simpa only[Zj] using hc) (by
   simp only[ev] at he ⊢
   split at he <;> first | exact he.elim | (rename_i hq;simp only[hq];exact he))
 | .sw k x lo hi mx,_,_,hc,he=>ZbT (C:=Sem P) h (by simpa only[Zj] using hc) (by
   simp only[ev] at he ⊢
   generalize xv st.env x=qx at he ⊢
   split at he
   ·exact he
   ·exact he
   ·exact QX (fun a h=>QX (fun b h=>⟨h.1,h.2.1,QX (fun m g=>⟨g.1,g.2.1,he.1,g.2.2⟩) h.2.2⟩) h) he.2
   ·exact he.elim)
 | .lt none p,_,_,hc,he=>ZbK (C:=Sem P) h (by simpa only[Zj] using hc) (by
   simp only[ev] at he ⊢
   split at he <;> first | exact he.elim | (rename_i hq;simp only[hq];exact he))
 | .lt (some m) p,_,_,hc,he=>ZbL (C:=Sem P) h (by simpa only[Zj] using hc) (by
   simp only[ev] at he ⊢
   split at he <;> first | exact he.elim | (rename_i hq;simp only[hq];exact he))
 | .lb none p _,_,_,hc,he=>ZbK (C:=Sem P) h (by simpa only[Zj] using hc) (by
   simp only[ev] at he ⊢
   replace he:=he.2
   split at he <;> first | exact he.elim | (rename_i hq;simp only[hq];exact he))
 | .lb (some m) p _,_,_,hc,he=>ZbL (C:=Sem P) h (by simpa only[Zj] using hc) (by
   simp only[ev] at he ⊢
   replace he:=he.2
   split at he <;> first | exact he.elim | (rename_i hq;simp only[hq];exact he))
 | .it k x i,_,_,hc,he=>ZeJ (C:=Sem P) h (by simpa only[Zj] using hc) (by
   simp only[ev] at he ⊢
   generalize xv st.env i=qi at he ⊢
   generalize xv st.env x=qx at he ⊢
   split at he <;> first | exact he.elim | skip
   refine⟨he.1,?_⟩
   have he2:=he.2
   split at he2 <;> first | exact he2.elim | exact he2)
 | .mm mx x y,_,_,hc,he=>Zkc h hc he
 | .ex i x,_,_,hc,he=>Zj9 h hc he
 | .pk c x y,_,_,hc,he=>Zj8 h hc he
 | .ca .pure imp f xs,_,hf,hc,he=>ZkO h rfl hf hc he
 | .ca .see imp f xs,_,hf,hc,he=>ZkQ h rfl hf hc he
 | .ca .same ..,hl,_,_,_=>by cases hl
 | .ca .keep ..,hl,_,_,_=>by cases hl
 | .ca .any ..,hl,_,_,_=>by cases hl
 | .nc x,_,_,hc,he=>Zkb h hc he
 | .bt x,_,_,hc,he=>Zla h hc he
 | .sa n x,_,_,hc,he=>Zlb h hc he
 | .sb x,_,_,hc,he=>Zld h hc he
theorem UI{st:St}:∀{n b:Nat},freshK b st.loc n->Yg st.sto st.lvl b n
 | 0,_,_,j,hj=>by omega
 | n+1,b,h,j,hj=>by
  cases j with
  | zero=>rw[Nat.add_zero,Qn rfl];exact h.1
  | succ j =>
   have:=UI h.2 j (by omega)
   rwa [show b+1+j=b+(j+1) from by omega] at this
theorem Zlf{S:Zc}{x:IV}{v:Value}(h:VR G S w x v):VR G S w (Yb x) v:=by
 unfold Yb
 split
 ·exact h.2
 ·exact h
theorem Zcd{S:Zc}:∀{l:List IV} {vs:List Value},Zi G S w l vs->Zi G S w (l.map Yb) vs
 | [],_,h=>h
 | x::r,_,h=>by
  obtain⟨v,vr,rfl,h1,h2⟩:=h
  exact⟨v,vr,rfl,Zlf h1,Zcd h2⟩
theorem Zlg(h:Sim F G st a w){imp:Bool}{f:X}{xs:List X}{d:Option Nat}{Kw:St->Prop}(hd:d=oper.dst)(hdn:∀ y,d=some y->y<F.nt)(hc:Zj P (.ca .same imp f xs) oper.op=true)
  (he:ew (Sem P) d st Kw (.ca .same imp f xs)):LOk P F a w oper Kw:=by
 subst hd
 simp only[Zj] at hc
 split at hc <;> try contradiction
 rename_i g args at1 ho
 simp only[Uad] at hc
 have hg:=h.x hc.1
 have hargs:=h.xs hc.2
 simp only[ew] at he
 split at he <;> try contradiction
 rename_i fid caps hq
 obtain⟨r,⟨hr,⟨fn,hf,hb,hn⟩,hcall⟩,hfr,hk⟩:=he
 rw[hq] at hg
 simp only[VR] at hg
 obtain⟨cvs,hg,hcv⟩:=hg
 have hcl:=h.clean
 have hrun:=WI (P:=P) (w:=w) (caps:=cvs) ho hg hf hb hn
 have hc:=hcall hcl G w (args.toList.map a.eval++cvs) h.ok (Uq (Zcd hargs) hcv) (h.fr.fix h.fix)
 refine Res.of_enter hrun ?_
 have harr:(args.map a.eval++cvs.toArray)=(args.toList.map a.eval++cvs).toArray:=by cases args;simp
 rw[harr]
 refine hc.mono ?_
 rintro e w' ⟨v,G1,rfl,h1,h2,_,h3⟩
 have hgot:=UB (l:=st.lvl) (b:=keyOf oper.dst) (imp:=imp) hr hcl h1 h2 h3 (UI hfr)
 obtain⟨G',hG'⟩:=h.got hgot hdn
 exact⟨v,rfl,_,G',hk,hG'⟩
theorem Zlh(h:Sim F G st a w){imp:Bool}{f:X}{xs:List X}{d:Option Nat}{Kw:St->Prop}(hd:d=oper.dst)(hdn:∀ y,d=some y->y<F.nt)(hc:Zj P (.ca .keep imp f xs) oper.op=true)
  (he:ew (Sem P) d st Kw (.ca .keep imp f xs)):LOk P F a w oper Kw:=by
 subst hd
 simp only[Zj] at hc
 split at hc <;> try contradiction
 rename_i g args at1 ho
 simp only[Uad] at hc
 have hg:=h.x hc.1
 have hargs:=h.xs hc.2
 simp only[ew] at he
 split at he <;> try contradiction
 rename_i fid caps hq
 obtain⟨r,⟨hr,⟨fn,hf,hb,hn⟩,hcall⟩,hfr,hk⟩:=he
 rw[hq] at hg
 simp only[VR] at hg
 obtain⟨cvs,hg,hcv⟩:=hg
 have hcl:=h.clean
 have hrun:=WI (P:=P) (w:=w) (caps:=cvs) ho hg hf hb hn
 have hc:=hcall hcl G w (args.toList.map a.eval++cvs) h.ok (Uq hargs hcv) (h.fr.fix h.fix)
 refine Res.of_enter hrun ?_
 have harr:(args.map a.eval++cvs.toArray)=(args.toList.map a.eval++cvs).toArray:=by cases args;simp
 rw[harr]
 refine hc.mono ?_
 rintro e w' ⟨v,G1,rfl,h1,h2,_,h3⟩
 have hgot:=UB (l:=st.lvl) (b:=keyOf oper.dst) (imp:=imp) hr hcl h1 h2 h3 (UI hfr)
 obtain⟨G',hG'⟩:=h.got hgot hdn
 exact⟨v,rfl,_,G',hk,hG'⟩
end
end Go.Fd

namespace Go.Fd
variable [Tabs]
section
variable {P:Program} {F:Fr} {G G':Gh} {st:St} {a:Act} {w w':World} {oper:Oper} {K:JI} {b:Nat}
theorem Zli(h:Sim F G st a w){neg:Bool}{x:X}{d:Option Nat}{Kw:St->Prop}{C:Zz}(hd:d=oper.dst)(hdn:∀ y,d=some y->y<F.nt)(hc:Zj P (.nl neg x) oper.op=true)
  (he:ew C d st Kw (.nl neg x)):LOk P F a w oper Kw:=by
 subst hd
 simp only[Zj] at hc
 split at hc <;> try contradiction
 rename_i op t x' y' g ho
 simp only[Uad,decide_eq_true_eq] at hc
 obtain⟨⟨⟨hop,hx⟩,ht⟩,hy⟩:=hc
 split at ht <;> try contradiction
 rename_i e ht'
 split at hy <;> try contradiction
 rename_i n c
 have hx:=h.x hx
 have Jj:∀ r:Bool,(execOp a.eval oper).run P w = .ok (.value (.bool r)) w->Kw { st with env:=ptd oper.dst (iB r) st.env }->LOk P F a w oper Kw:=fun r hr hk=>by
  obtain⟨G',hs⟩:=h.got (key:=0) (Got.pure (l:=st.lvl) h.ok (show VR G st.sto w (iB r) (.bool r) from .v _ rfl)) hdn
  exact Res.of_run hr ⟨_,G',hk,hs⟩
 have run:∀(ad:Option Addr) (m k:Nat),a.eval x' = .slice ad m k->(execOp a.eval oper).run P w = .ok (.value (.bool (if neg then !ad.isNone else ad.isNone))) w:=fun ad m k hv=>by
  have hg:(eqGuard op t x' (.const (.slice none n c)) (.slice ad m k) (.slice none n c)).run P w = .ok () w:=by
   unfold eqGuard
   split <;> rfl
  have hce:a.eval (.const (.slice none n c)) = .slice none n c:=rfl
  subst hop
  cases neg <;> simp only[UaU,if_false,if_true] at hg ho ⊢
  ·have:=Lib.run_equalIn_slice_nil (P:=P) w 9999 t e ad m k n c ht'
   simp only[execOp,ho,hv,hce]
   simp [hg,binOp,Op.equal,Op.maxDepth,this]
  ·have:=Lib.run_equalIn_slice_nil (P:=P) w 9999 t e ad m k n c ht'
   simp only[execOp,ho,hv,hce]
   simp [hg,binOp,Op.equal,Op.maxDepth,this]
 have key:∀{A:Nat->Prop} {es:Row},Rds w A (a.eval x') (.sl es)->Kw { st with env:=ptd oper.dst (iB neg) st.env }->(es=[]->Kw { st with env:=ptd oper.dst (iB !neg) st.env })->LOk P F a w oper Kw:=fun {A es} hr h1 h2=>by
  generalize hv:a.eval x'=v at hr
  generalize htt:Tr.sl es=tt at hr
  cases hr with
  | v _ hh=>cases htt
  | nil ad k =>
   cases htt
   have hr:=run ad 0 k hv
   cases ad with
   | none=>exact Jj _ (by cases neg <;> exact hr) (h2 rfl)
   | some _=>exact Jj _ (by cases neg <;> exact hr) h1
  | sl b0 o k1 k es f hA hk hlc hcell hrr =>
   have hr:=run _ _ _ hv
   exact Jj _ (by cases neg <;> exact hr) h1
 simp only[ew] at he
 split at he <;> try contradiction
 ·rename_i es hq
  rw[hq] at hx
  exact key hx he.1 he.2
 ·rename_i es hq
  rw[hq] at hx
  exact key hx.2 he.1 he.2
theorem Zfp{es es2:Row}{m:Nat}{p:Ze}(hp:p≠[])(h:getp (es.take m) p=some es2):getp es p=some es2:=by
 cases p with
 | nil=>exact absurd rfl hp
 | cons cd q =>
  obtain⟨c,d⟩:=cd
  obtain⟨e,x,g1,g2,g3⟩:=YR h
  rw[Uat] at g1
  split at g1
  ·exact V4 g1 g2 g3
  ·cases g1
theorem Zfq(h:Sim F G st a w){id:Zd}{k:Nat}{es es':Row}{u:Bool}{hw ver:Nat}(hs:st.sto id=some (.ar k es u hw ver))(hle:es'.length<=hw)(hun:Zu k es')
  (hsub:∀ p es2,p≠[]->getp es' p=some es2->getp es p=some es2) (size:w.heap.size<=w'.heap.size) (heap:∀ blk,(∀ c,G id []≠some (blk,c))->w'.heap[blk]? = w.heap[blk]?)
  (hos:w'.os=w.os) (htape:w'.tape=w.tape) (hout:w'.output=w.output)
  (hrow:∀ A:Nat->Prop,(∀ blk,Av G st.sto w blk->A blk)->(∀ blk,Av G st.sto w blk->w'.heap[blk]? = w.heap[blk]?)->ZS G w' A id [] k u es') :
  Stp F a G st (Zg st id (.ar k es' u hw (ver+1))) w w' G:=by
 have hsome:∀ q,(getp es' q).isSome=true->(getp es q).isSome=true:=fun q hq=>by
  cases q with
  | nil=>rfl
  | cons c r =>
   obtain⟨es2,h2⟩:=Uaj.1 hq
   rw[hsub _ es2 (by simp) h2];rfl
 obtain⟨o1,o2,o3,o4,o5⟩:=h.ok.obs _ _ hs
 have ht:=h.turn (Kl.refl st) (id:=id) (ob':=.ar k es' u hw (ver+1)) (d:=none) (x:=.un) (v:=undef) (G':=G) (w':=w') (fun h=>h) (.inr (by rw[hs];rfl)) (fun _ _=>rfl) size
  (fun blk hb hn=>heap blk fun c hg=>hn _ hs ⟨[],c,.inl rfl,rfl,hg⟩)
  (fun blk ho=>by
   obtain⟨q,cq,hq,hqs,hgq⟩:=ho
   exact .inl ⟨id,_,.inl rfl,hs,q,cq,hq,hsome q hqs,hgq⟩)
  (fun ob ho=>by
   rw[hs] at ho;cases ho
   refine⟨rfl,Uaf _,Nat.le_succ _,fun q s2 hbd hq=>?_⟩
   cases q with
   | nil=>exact⟨hq,fun es1 he=>⟨rfl,es',rfl,fun k' hkk _=>by rw[hkk rfl];exact hun⟩⟩
   | cons c r =>
    have h1:s2<=ver:=hbd
    have h2:u=true/\s2=ver+1:=hq
    omega)
  hos htape hout (fun t=>⟨hle,hun,o3,fun p es2 hp he=>by
   cases p with
   | nil =>
    simp only[getp,Uam] at he
    subst he
    exact hrow _ t.av t.same
   | cons c r =>
    have hg0:=hsub _ es2 (by simp) he
    exact Zex rfl t.av t.same (fun b1 c1 hg=>heap b1 fun c2 hg2=>by
     have:=o5 _ [] b1 c1 c2 hp (.inl rfl) (by rw[hg0];rfl) rfl hg hg2
     cases this) (o4 _ es2 hp hg0),fun p p' b1 c1 c2 hp hp' g1 g2=>o5 p p' b1 c1 c2 hp hp' (hsome p g1) (hsome p' g2)⟩) (fun _ he=>by cases he) (fun _ he=>by cases he) (fun _=>trivial)
 rw[QV] at ht
 exact Stp.of ht.1 (by rw[JY];exact ht.2) fun j hj=>⟨fun h=>h,by rw[show j=id from hj,hs];rfl⟩
theorem Zce(h:Sim F G st a w){id:Zd}{k:Nat}{es:Row}{u:Bool}{hw ver:Nat}(hs:st.sto id=some (.ar k es u hw ver))(m:Nat) :
  Stp F a G st (Zg st id (.ar k (es.take m) u hw (ver+1))) w w G:=by
 obtain⟨o1,o2,o3,o4,o5⟩:=h.ok.obs _ _ hs
 refine Zfq h hs (by rw[Uao];omega) (fun e he=>o2 e (UaS he)) (fun p es2 hp he=>Zfp hp he) (Uaf _) (fun _ _=>rfl) rfl rfl rfl fun A hA hh=>?_
 have hr:=o4 [] es (.inl rfl) rfl
 unfold ZS at *
 cases hg:G id [] with
 | none =>
  rw[hg] at hr
  simp only at hr ⊢
  rw[hr];exact List.take_nil
 | some bc =>
  obtain⟨b1,c1⟩:=bc
  rw[hg] at hr
  simp only at hr ⊢
  obtain⟨k',vs,ty,h1,h2,h3,h4,h5,h6⟩:=hr
  refine⟨k',vs,ty,h1,fun e he=>h2 e (UaS he),h3,h4,by rw[Uao];omega,fun i e f t hi hf=>?_⟩
  rw[Uat] at hi
  split at hi
  ·obtain⟨x,hx,hc⟩:=h6 i e f t hi hf
   exact⟨x,hx,Ut rfl hA hh hc⟩
  ·cases hi
theorem Zfr(h:Sim F G st a w){id:Zd}{k:Nat}{es es':Row}{u:Bool}{hw ver:Nat}(hs:st.sto id=some (.ar k es u hw ver)){b1 c1:Nat}{vs vs':Array Value}{ty:TypeId}(hG:G id []=some (b1,c1))(hh:w.heap[b1]? = some (.cells vs ty (0,0)))
  (hsz:vs'.size=vs.size) (hle:es'.length<=hw) (hun:Zu k es') (hsub:∀ p es2,p≠[]->getp es' p=some es2->getp es p=some es2)
  (hrow:∀(i:Nat) (e:List Tr) (f:Nat) (t:Tr),es'[i]? = some e->e[f]? = some t->(∃ y,t = .v y/\Jk y=true/\vs'[i*k+f]? = some y)\/(vs'[i*k+f]? = vs[i*k+f]?/\∃ e0,es[i]? = some e0/\e0[f]? = some t)) :
  Stp F a G st (Zg st id (.ar k es' u hw (ver+1))) w (w.setRow b1 vs') G:=by
 obtain⟨o1,o2,o3,o4,o5⟩:=h.ok.obs _ _ hs
 refine Zfq h hs hle hun hsub (by simp) (fun blk hb=>setRow_other w b1 blk _ (fun e=>hb c1 (by rw[e];exact hG))) rfl rfl rfl fun A hA hhA=>?_
 have hr:=o4 [] es (.inl rfl) rfl
 unfold ZS at *
 rw[hG] at hr ⊢
 rw[hG] at o3
 simp only[VB] at o3
 obtain⟨k',vs0,ty0,h1,h2,h3,h4,h5,h6⟩:=hr
 rw[hh] at h3;cases h3
 have hkk:=h1 rfl
 subst hkk
 refine⟨k',vs',ty,fun _=>rfl,hun,setRow_heap w b1 vs _ ty (0,0) hh,by rw[hsz];exact h4,by omega,fun i e f t hi hf=>?_⟩
 rcases hrow i e f t hi hf with ⟨y,rfl,hy,hv⟩ | ⟨hv,e0,he0,hf0⟩
 ·exact⟨y,hv,rfl,hy⟩
 ·obtain⟨x,hx,hc⟩:=h6 i e0 f t he0 hf0
  exact⟨x,by rw[hv];exact hx,Ut rfl hA hhA hc⟩
theorem Stp.put{st':St}(t:Stp F a G st st' w w' G'){d:Option Nat}{x:IV}{v:Value}(hd:∀ y,d=some y->y<F.nt)(hx:VR G' st'.sto w' x v)(he:st'.env=st.env):Sim F G' { st' with env:=ptd d x st.env } (a.put d v) w':=by
 have:=t.sim.put (d:=d) hx hd
 rw[he] at this
 exact this
theorem Zlj(h:Sim F G st a w){x:X}{d:Option Nat}{Kw:St->Prop}{C:Zz}(hd:d=oper.dst)(hdn:∀ y,d=some y->y<F.nt)(hc:Zj P (.cp x) oper.op=true)
  (he:ew C d st Kw (.cp x)):LOk P F a w oper Kw:=by
 subst hd
 simp only[Zj] at hc
 split at hc <;> try contradiction
 rename_i args at1 ho
 split at hc <;> try contradiction
 rename_i y t hy ht
 obtain⟨args⟩:=args
 simp only at hy
 subst hy
 simp only[Uad,Uaj] at hc
 obtain⟨hx,e,hel⟩:=hc
 have hu:=Y5 hel
 have hx:=h.x hx
 simp only[ew] at he
 split at he <;> try contradiction
 rename_i es hq
 rw[hq] at hx
 obtain⟨⟨v,hv⟩,_⟩:=hx
 have hr:(execOp a.eval oper).run P w = .ok (.value (.int .i64 es.length)) w:=by
  simp [execOp,ho,resolve,invoke,builtin,Builtin.cap_,ht,run_underlying hu,hv,goInt]
 obtain⟨G',hs⟩:=h.got (key:=0) (Got.pure (l:=st.lvl) h.ok (show VR G st.sto w (iI es.length) (.int .i64 es.length) from .v _ rfl)) hdn
 exact Res.of_run hr ⟨_,G',he,hs⟩
theorem Zlk(h:Sim F G st a w){k:Nat}{x hi:X}{d:Option Nat}{Kw:St->Prop}{C:Zz}(hd:d=oper.dst)(hdn:∀ y,d=some y->y<F.nt)(hc:Zj P (.sh k x hi) oper.op=true)
  (he:ew C d st Kw (.sh k x hi)):LOk P F a w oper Kw:=by
 subst hd
 simp only[Zj] at hc
 split at hc <;> try contradiction
 rename_i t y h0 ho
 simp only[Uad] at hc
 obtain⟨⟨hx,c2⟩,hc⟩:=hc
 split at hc <;> try contradiction
 rename_i e0 hel
 have hu:=Y5 hel
 have hsz:Jl P e0=some k:=by simpa using hc
 have hx:=h.x hx
 have hh:=h.x c2
 simp only[ew] at he
 split at he <;> try contradiction
 ·rename_i es hq
  split at he <;> try contradiction
  rename_i kk m hm
  obtain⟨rfl,hun,hK⟩:=he
  rw[hq] at hx
  rw[hm] at hh
  obtain⟨hh,_⟩:=hh.val
  obtain⟨⟨ad,hv⟩,hx⟩:=hx
  rw[hv] at hx
  have hb:=Uy (P:=P) (w:=w) (isS:=true) (lo:=none) (hi:=some (a.eval h0)) (mx:=none) (len:=es.length) (cap:=es.length) (A:=0) (B:=es.length) (M:=es.length) (.inl ⟨rfl,rfl⟩) (.inr ⟨kk,by rw[hh]⟩) (.inl ⟨rfl,rfl⟩) (Ua9 _) (Uaf _) (Uaf _)
  have hr:(execOp a.eval oper).run P w = .ok (.value (.slice (if es.length=0 then ad else ad.map (·.add (0*k))) (es.length-0) (es.length-0))) w:=by
   simp only[execOp,ho,Instr.sliceAt,Sem.run_bind,run_underlying hu,Result.andThen_ok,Instr.slice,hv,Option.map_none,Option.map_some,hb,YJ hsz,Sem.run_pure]
  have hcut:=Rds.cut (k:=k) hx (Ua9 _) (Uaf _) (Uaf es.length) (.inl rfl)
  have he0:cut es 0 (es.length-0)=es:=by simp [cut]
  rw[he0] at hcut
  obtain⟨G',hs⟩:=h.got (key:=0) (Got.pure (l:=st.lvl) h.ok (show VR G st.sto w (.cs es) (.slice (if es.length=0 then ad else ad.map (·.add (0*k))) (es.length-0) (es.length-0)) from ⟨⟨_,rfl⟩,hcut⟩)) hdn
  exact Res.of_run hr ⟨_,G',hK,hs⟩
 rename_i id p off len cap s hq
 split at he <;> try contradiction
 rename_i kk m hm
 split at he <;> try contradiction
 rename_i k2 es u hw ver hs
 obtain⟨rfl,rfl,rfl,rfl,rfl,hm0,hml,hle,hK⟩:=he
 rw[hq] at hx
 rw[hm] at hh
 obtain⟨hh,_⟩:=hh.val
 obtain⟨_,k3,es3,u3,hw3,ver3,hs3,_,hrel⟩:=hx
 rw[hs] at hs3;cases hs3
 obtain⟨es4,k',ad,c,hg4,hkk,hun,hv,hlc,_,hcap,hor⟩:=hrel rfl
 simp only[getp,Uam] at hg4
 subst hg4
 have hkk:=hkk rfl
 subst hkk
 obtain⟨B,rfl⟩:=Ua2 hm0
 rw[Int.toNat_natCast] at hml hK
 have hb:=Uy (P:=P) (w:=w) (isS:=true) (lo:=none) (hi:=some (a.eval h0)) (mx:=none) (len:=len) (cap:=c) (A:=0) (B:=B) (M:=c) (.inl ⟨rfl,rfl⟩) (.inr ⟨kk,by rw[hh]⟩) (.inl ⟨rfl,rfl⟩) (Ua9 _) (by omega) (Uaf _)
 have hr:(execOp a.eval oper).run P w = .ok (.value (.slice (if c=0 then ad else ad.map (·.add (0*k'))) (B-0) (c-0))) w:=by
  simp only[execOp,ho,Instr.sliceAt,Sem.run_bind,run_underlying hu,Result.andThen_ok,Instr.slice,hv,Option.map_none,Option.map_some,hb,YJ hsz,Sem.run_pure]
 have hst:=Zce h hs B
 refine Res.of_run hr ⟨_,G,hK,hst.put hdn ?_ (Xp _ _ _)⟩
 rw[JY]
 refine⟨⟨_,_,rfl,by omega⟩,k',es.take B,u,s,ver+1,by unfold Zf;rw[if_pos rfl],Uaf _,fun _=>⟨es.take B,k',_,_,rfl,fun _=>rfl,fun e he=>hun e (UaS he),rfl,by omega,fun m hm=>by simp at hm,fun h1 h2=>by have:=hcap h1 h2;omega,?_⟩⟩
 rcases hor with h0 | ⟨h0,_⟩ | ⟨b1,c0,hG,rfl,hcc⟩
 ·exact .inl (by omega)
 ·exact absurd rfl h0
 ·by_cases hc0:c=0
  ·exact .inl (by omega)
  ·exact .inr (.inr ⟨b1,c0,hG,by simp [hc0,J5],by omega⟩)
theorem Zll{z:Value}{zl:List Value}(h1:z.cells.toList=zl)(h2:∀ x∈zl,Jk x=true\/x = .slice none 0 0)(n:Nat):∀ v∈(Builtin.zeroCells z.cells n).toList,v.oneCell'=true:=fun v hv=>by
 simp only[Builtin.zeroCells,Ubo,UaG] at hv
 obtain⟨i,hi,rfl⟩:=hv
 have hi2:i<n*z.cells.size:=by simpa using hi
 have hz:0<z.cells.size:=by
  rcases Nat.eq_zero_or_pos z.cells.size with h | h
  ·rw[h] at hi2;simp at hi2
  ·exact h
 have hlt:=Nat.mod_lt i hz
 have:z.cells[i % z.cells.size]! = z.cells[i % z.cells.size]:=by simp [hlt]
 rw[this]
 have hm:z.cells[i % z.cells.size]∈zl:=by rw[<-h1];simp
 rcases h2 _ hm with h | h
 ·generalize z.cells[i % z.cells.size]=y at h
  cases y <;> first | rfl | simp [Jk] at h
 ·rw[h];rfl
theorem Zlm(h:Sim F G st a w){x:X}{d:Option Nat}{Kw:St->Prop}{C:Zz}(hd:d=oper.dst)(hdn:∀ y,d=some y->y<F.nt)(hc:Zj P (.fz x) oper.op=true)
  (he:ew C d st Kw (.fz x)):LOk P F a w oper Kw:=by
 subst hd
 simp only[Zj] at hc
 split at hc <;> try contradiction
 all_goals
  rename_i y ho
  have hx:=h.x hc
  simp only[ew] at he
  split at he <;> try contradiction
  rename_i id len s hq
  obtain⟨hl,he⟩:=he
  split at he <;> try contradiction
  rename_i k2 zs u hw ver hs
  obtain⟨rfl,rfl,hK⟩:=he
  rw[hq] at hx
  obtain⟨h3,h4⟩:=UE h hs hl hx
  have hr:(execOp a.eval oper).run P w = .ok (.value (a.eval y)) w:=by simp [execOp,ho]
  exact Res.of_run hr ⟨_,G,hK,h3.sim.put (show VR G (Zn id st).sto w (.tr (.sl zs)) (a.eval y) from h4) hdn⟩
theorem Zln(h:Sim F G st a w){id0:Zd}(hl:id0.1=st.lvl):Stp F a G st (Qc id0 st) w w G/\(Qc id0 st).sto id0=none/\(Qc id0 st).lvl=st.lvl /\
  ∀ i,i≠id0->∀(k:Nat) (es:Row) (u:Bool) (hw ver:Nat),st.sto i=some (.ar k es u hw ver)->(Qc id0 st).sto i=some (.ar k es u hw ver):=by
 unfold Qc
 split
 ·rename_i hs
  exact⟨Stp.refl h,hs,rfl,fun _ _ _ _ _ _ _ h=>h⟩
 ·rename_i ob hs
  have kl:=(Kl.refl st).step (fun j cells hj=>h.ok.low j cells hj) h.outl hl (by rw[hs];rfl)
  obtain⟨h1,h2⟩:=h.kl kl
  refine⟨Stp.of h1 h2 (fun _ hf=>hf.elim),by rw[QT hl hl,if_pos rfl],rfl,fun i hi k es u hw ver hsi=>?_⟩
  by_cases hil:i.1=st.lvl
  ·rw[QT hil hl,if_neg hi,hsi];rfl
  ·rw[UD hil,hsi]
theorem Sim.ren(h:Sim F G st a w){id id0:Zd}{k:Nat}{zs:Row}{u:Bool}{hw ver:Nat}(hl:id.1=st.lvl)(hl0:id0.1=st.lvl)(hne:id0≠id)(hs:st.sto id=some (.ar k zs u hw ver))(h0:st.sto id0=none)
  {d:Option Nat} {v:Value} (hd:∀ y,d=some y->y<F.nt) (hv:YP G st.sto id [] 0 zs.length none hw v) :
  ∃ G',Sim F G' { Zg (Zn id st) id0 (.ar k zs u hw ver) with env:=ptd d (.hd id0 [] 0 zs.length none hw) (Zn id st).env } (a.put d v) w:=by
 have k1:=(Kl.refl st).step (fun j cells hj=>h.ok.low j cells hj) h.outl hl (by rw[hs];rfl)
 obtain⟨G',hG⟩:∃ G':Gh,G'=fun i=>if i=id0 then G id else G i:=⟨_,rfl⟩
 have g0:G' id0=G id:=by rw[hG];exact if_pos rfl
 have g1:∀ i,i≠id0->G' i=G i:=fun i hi=>by rw[hG];exact if_neg hi
 have hob:=h.ok.obs _ _ hs
 refine⟨G',(h.turn k1 (id:=id0) (ob':=.ar k zs u hw ver) (G':=G') (w':=w) (d:=d) (x:=.hd id0 [] 0 zs.length none hw) (v:=v) (fun hf=>hf.elim (fun q=>q) hne) (.inl hl0) g1 (Uaf _) (fun _ _ _=>rfl)
  (fun b hb=>.inl ⟨id,_,.inr (.inr rfl),hs,?_⟩) (fun ob hob=>by rw[h0] at hob;cases hob) rfl rfl rfl (fun t=>?_) (fun _ hc=>by cases hc) hd (fun t=>?_)).1⟩
 ·obtain⟨p,c,q1,q2,q3⟩:=hb
  exact⟨p,c,q1,q2,by rw[g0] at q3;exact q3⟩
 ·obtain⟨o1,o2,o3,o4,o5⟩:=hob
  refine⟨o1,o2,by rw[g0];exact o3,fun p es' hp hg=>DY g0 (fun b hb=>t.av b hb) (o4 p es' hp hg),fun p p' b c c' => ?_⟩
  rw[g0]
  exact o5 p p' b c c'
 ·obtain⟨⟨a0,c0,hv0,hle⟩,k3,es3,u3,hw3,ver3,hs3,hb,hrel⟩:=hv
  rw[hs] at hs3;cases hs3
  refine⟨⟨a0,c0,hv0,hle⟩,k,zs,u,hw,ver,by unfold Zf;rw[if_pos rfl],hb,fun hst=>?_⟩
  obtain⟨es',k',a',c',q1,q2,q3,q4,q5,q6,q7,q8⟩:=hrel hst
  exact⟨es',k',a',c',q1,q2,q3,q4,q5,q6,by rw[g0];exact q7,by rw[g0];exact q8⟩
theorem Zlo(h:Sim F G st a w){x:X}{d:Option Nat}{Kw:St->Prop}{C:Zz}(hd:d=oper.dst)(hdn:∀ y,d=some y->y<F.nt)(hc:Zj P (.rk x) oper.op=true)
  (he:ew C d st Kw (.rk x)):LOk P F a w oper Kw:=by
 subst hd
 simp only[Zj] at hc
 split at hc <;> try contradiction
 all_goals
  rename_i y ho
  have hx:=h.x hc
  simp only[ew] at he
  split at he <;> try contradiction
  rename_i id len s hq
  obtain⟨hl,hne,he⟩:=he
  split at he <;> try contradiction
  rename_i k2 zs u hw ver hs
  obtain⟨rfl,rfl,hK⟩:=he
  rw[hq] at hx
  obtain⟨s1,s2,s3,s4⟩:=Zln h (id0:=(st.lvl,keyOf oper.dst)) rfl
  have hs':=s4 id (Ne.symm hne) _ _ _ _ _ hs
  have hx':=s1.vr (.hd id [] 0 zs.length none s) (a.eval y) (show ((Qc (st.lvl,keyOf oper.dst) st).sto id).isSome=true by rw[hs'];rfl) hx
  have hr:(execOp a.eval oper).run P w = .ok (.value (a.eval y)) w:=by simp [execOp,ho]
  obtain⟨G',hG'⟩:=s1.sim.ren (id0:=(st.lvl,keyOf oper.dst)) (hl.trans s3.symm) s3.symm hne hs' s2 hdn hx'
  exact Res.of_run hr ⟨_,G',hK,hG'⟩
theorem Zlp(h:Sim F G st a w){id:Zd}{cells:List IV}{ts:List Tr}{q:Bool}{v:Value}(hs:st.sto id=some (.bx cells))(hl:id.1=st.lvl)(ht:totrs cells=some (ts,q))(hv:Uo G st.sto id 0 v) :
  Stp F a G st (Zn id st) w w G/\Xi w (Av G (Zn id st).sto w) ts v:=by
 have kl:=(Kl.refl st).step (fun j cells hj=>h.ok.low j cells hj) h.outl hl (by rw[hs];rfl)
 obtain⟨h1,h2⟩:=h.kl kl
 refine⟨Stp.of h1 h2 (fun _ hf=>hf.elim),?_⟩
 obtain⟨cells',b,c,hs',hG,rfl⟩:=hv
 obtain⟨b',c',vs,ty,hG',hh,hvs⟩:=h.ok.obs _ _ hs
 rw[hG] at hG';cases hG'
 have htt:=Zfn hvs ht
 refine⟨b,0,fun j=>(vs[j]?).getD undef,kl.av_dead h.ok (.inr rfl) hs ⟨c,hG⟩,rfl,fun j t hj=>?_⟩
 obtain⟨x,hx,hr⟩:=htt j t hj
 have hx':vs[j]? = some x:=by simpa using hx
 have hf:(vs[j]?).getD undef=x:=by rw[hx'];rfl
 rw[Uax,cell_of_row _ _ j vs ty (0,0) hh,hx']
 refine⟨by dsimp only;rw[hf],?_⟩
 dsimp only
 rw[hf]
 exact hr.mono (fun b hb=>kl.av b hb) (fun _ _=>rfl)
theorem Zcf{st0:St}:∀(cells:List IV) (vs:List Value) (st:St),Stp F a G st0 st w w G->Zi G st0.sto w cells vs->∀{K:List Tr->St->Prop},Yo cells st K->∃ ts st',Stp F a G st st' w w G/\Zi G st'.sto w (ts.map .tr) vs/\K ts st'
 | [],vs,st,s,hv,K,he=>⟨[],st,Stp.refl s.sim,hv,he⟩
 | x::r,vs,st,s,hv,K,he=>by
  simp only[Zi] at hv
  obtain⟨v,vr,rfl,hx,hr⟩:=hv
  simp only[Yo] at he
  have go:∀(t:Tr) (st1:St),Stp F a G st st1 w w G->VR G st1.sto w (.tr t) v->Yo r st1 (fun ts st2=>K (t::ts) st2)->∃ ts st',Stp F a G st st' w w G/\Zi G st'.sto w (ts.map .tr) (v::vr)/\K ts st':=fun t st1 s1 ht he1=>by
   obtain⟨ts,st',s2,hvs,hK⟩:=Zcf r vr st1 (s.trans s1) hr he1
   exact⟨t::ts,st',s1.trans s2,⟨_,_,rfl,s2.vr (.tr t) _ trivial ht,hvs⟩,hK⟩
  unfold Xh at he
  split at he <;> try contradiction
  ·rename_i t
   exact go t st (Stp.refl s.sim) (s.vr (.tr t) v trivial hx) he
  ·rename_i es
   have hx2:VR G st0.sto w (.tr (.sl es)) v:=hx.2
   exact go (.sl es) st (Stp.refl s.sim) (s.vr (.tr (.sl es)) v trivial hx2) he
  ·rename_i id len q
   obtain⟨hl,he⟩:=he
   split at he <;> try contradiction
   rename_i k2 zs u hw ver hs
   obtain⟨rfl,rfl,he⟩:=he
   have hx2:=s.vr (.hd id [] 0 zs.length none q) v (show (st.sto id).isSome=true by rw[hs];rfl) hx
   obtain⟨s1,s2⟩:=UE s.sim hs hl hx2
   exact go (.sl zs) _ s1 s2 he
theorem Zfs{id:Zd}(hl:id.1=st.lvl):∀(cells:List IV) (st1:St),st1.lvl=st.lvl->(∃ c,st1.sto id=some (.bx c))->∀{K:List Tr->St->Prop},Yo cells st1 K->Yo cells st1 (fun ts st' => K ts st'/\st'.lvl=st.lvl/\∃ c,st'.sto id=some (.bx c))
 | [],st1,hv,hb,K,he=>⟨he,hv,hb⟩
 | x::r,st1,hv,hb,K,he=>by
  simp only[Yo] at he ⊢
  have go:∀(t:Tr) (st2:St),st2.lvl=st.lvl->(∃ c,st2.sto id=some (.bx c))->Yo r st2 (fun ts st3=>K (t::ts) st3)->Yo r st2 (fun ts st3=>K (t::ts) st3/\st3.lvl=st.lvl/\∃ c,st3.sto id=some (.bx c)):=fun t st2 h1 h2 h3=>Zfs hl r st2 h1 h2 h3
  unfold Xh at he ⊢
  split at he <;> try contradiction
  ·exact go _ st1 hv hb he
  ·exact go _ st1 hv hb he
  ·rename_i id2 len q
   obtain⟨hl2,he⟩:=he
   refine⟨hl2,?_⟩
   split at he <;> try contradiction
   rename_i k2 zs u hw ver hs
   obtain⟨h1,h2,he⟩:=he
   simp only[hs]
   refine⟨h1,h2,go _ (Zn id2 st1) hv ?_ he⟩
   obtain⟨c,hc⟩:=hb
   have hne:id≠id2:=fun e=>by rw[e] at hc;rw[hs] at hc;cases hc
   refine⟨scrs id2 c,?_⟩
   rw[QT (hl.trans hv.symm) hl2,if_neg hne,hc]
   rfl
theorem Zlq(h:Sim F G st a w){id:Zd}{cells:List IV}{v:Value}(hs:st.sto id=some (.bx cells))(hl:id.1=st.lvl)(hv:Uo G st.sto id 0 v){K:List Tr->St->Prop}(he:Yo cells st K) :
  ∃ ts st',Stp F a G st (Zn id st') w w G/\Xi w (Av G (Zn id st').sto w) ts v/\K ts st':=by
 obtain⟨cells',b,c,hs',hG,rfl⟩:=hv
 obtain⟨b',c',vs,ty,hG',hh,hvs⟩:=h.ok.obs _ _ hs
 rw[hG] at hG';cases hG'
 obtain⟨ts,st',s1,hts,hK,hlv,cl,hcl⟩:=Zcf (st0:=st) cells vs.toList st (Stp.refl h) hvs (Zfs (st:=st) hl cells st rfl ⟨_,hs⟩ he)
 have kl:=(Kl.refl st').step (fun j cells hj=>s1.sim.ok.low j cells hj) s1.sim.outl (hl.trans hlv.symm) (by rw[hcl];rfl)
 obtain⟨h1,h2⟩:=s1.sim.kl kl
 refine⟨ts,st',s1.trans (Stp.of h1 h2 (fun _ hf=>hf.elim)),?_,hK⟩
 refine⟨b,0,fun j=>(vs[j]?).getD undef,kl.av_dead s1.sim.ok (.inr rfl) hcl ⟨c,hG⟩,rfl,fun j t hj=>?_⟩
 obtain⟨x,hx,hr⟩:=Yr hts j (.tr t) (by rw[Uaz,hj];rfl)
 have hx':vs[j]? = some x:=by simpa using hx
 have hf:(vs[j]?).getD undef=x:=by rw[hx'];rfl
 rw[Uax,cell_of_row _ _ j vs ty (0,0) hh,hx']
 refine⟨by dsimp only;rw[hf],?_⟩
 dsimp only
 rw[hf]
 exact Rds.mono (fun b hb=>kl.av b hb) (fun _ _=>rfl) hr
theorem Zft:∀(cs:List X) (ys:List Operand) (st:St),Sim F G st a w->VC cs ys=true->∀{K:List IV->St->Prop},QI cs st K->∃ l st',Stp F a G st st' w w G/\Zi G st'.sto w l (ys.map a.eval)/\K l st'
 | [],ys,st,h,hc,K,he=>by
  cases ys with
  | nil=>exact⟨[],st,Stp.refl h,rfl,he⟩
  | cons y r=>simp [VC] at hc
 | x::r,ys,st,h,hc,K,he=>by
  cases ys with
  | nil=>simp [VC] at hc
  | cons y yr =>
   simp only[VC,Uad] at hc
   have hx:=h.x hc.1
   simp only[QI] at he
   have go:∀(t:List Tr) (st1:St),Stp F a G st st1 w w G->Xi w (Av G st1.sto w) t (a.eval y)->QI r st1 (fun ts st2=>K (.ta t::ts) st2)->∃ l st',Stp F a G st st' w w G/\Zi G st'.sto w l ((y::yr).map a.eval)/\K l st':=fun t st1 s1 ht he1=>by
    obtain⟨l,st',s2,hvs,hK⟩:=Zft r yr st1 s1.sim hc.2 he1
    exact⟨.ta t::l,st',s1.trans s2,⟨_,_,rfl,s2.vr (.ta t) _ trivial ht,hvs⟩,hK⟩
   unfold Ww at he
   split at he <;> try contradiction
   ·rename_i ts hq
    rw[hq] at hx
    exact go ts st (Stp.refl h) hx he
   ·rename_i id hq
    rw[hq] at hx
    obtain⟨hl,he⟩:=he
    split at he <;> try contradiction
    rename_i cells hs
    split at he
    ·rename_i ts q ht
     obtain⟨s1,s2⟩:=Zlp h hs hl ht hx
     exact go ts _ s1 s2 he
    ·obtain⟨ts,st',s1,s2,he⟩:=Zlq h hs hl hx he
     exact go ts _ s1 s2 he
theorem Zlr(h:Sim F G st a w){f:Nat}{cs:List X}{d:Option Nat}{Kw:St->Prop}{C:Zz}(hd:d=oper.dst)(hdn:∀ y,d=some y->y<F.nt)(hc:Zj P (.mz f cs) oper.op=true)
  (he:ew C d st Kw (.mz f cs)):LOk P F a w oper Kw:=by
 subst hd
 simp only[Zj] at hc
 split at hc <;> try contradiction
 rename_i g first caps ho
 simp only[Uad,beq_iff_eq] at hc
 obtain⟨⟨rfl,hf⟩,hc⟩:=hc
 simp only[ew] at he
 obtain⟨l,st',s1,hvs,hK⟩:=Zft cs caps.toList st h hc he
 have h0:first = #[]:=by simpa using hf
 subst h0
 have hm:Array.map a.eval caps=(List.map a.eval caps.toList).toArray:=by rw[<-Ubo]
 have hr:(execOp a.eval oper).run P w = .ok (.value (.func (.func f) #[] (List.map a.eval caps.toList).toArray)) w:=by simp [execOp,ho,Instr.makeFunc,hm]
 exact Res.of_run hr ⟨_,G,hK,s1.sim.put (show VR G st'.sto w (.fn f l) _ from ⟨_,rfl,hvs⟩) hdn⟩
theorem Zls(h:Sim F G st a w){m:Nat}{p:X}{d:Option Nat}{Kw:St->Prop}{C:Zz}(hd:d=oper.dst)(hdn:∀ y,d=some y->y<F.nt)(hc:Zj P (.lz m p) oper.op=true)
  (he:ew C d st Kw (.lz m p)):LOk P F a w oper Kw:=by
 subst hd
 simp only[Zj] at hc
 split at hc <;> try contradiction
 rename_i t y ho
 simp only[Uad,YI,beq_iff_eq] at hc
 obtain⟨⟨ht,hm⟩,hx⟩:=hc
 have hx:=h.x hx
 have key:∀{ad:Addr} {cs:List Value},a.eval y = .pointer (some ad)->cs.length=m->(∀(j:Nat) (v:Value),cs[j]? = some v->w.cell? (ad.add j)=some v)->(execOp a.eval oper).run P w = .ok (.value (.agg cs.toArray)) w:=fun {ad cs} hv hl hcl=>by
  subst hl
  simp [execOp,ho,Instr.loadAt,Instr.sureAddr,hv,ZbJ ht hm hcl]
 simp only[ew] at he
 split at he <;> try contradiction
 rename_i id off hq
 rw[hq] at hx
 split at he <;> try contradiction
 rename_i cells hs
 obtain⟨hlen,he⟩:=he
 obtain⟨cells',b1,c,hs',hG,hv⟩:=hx
 rw[hs] at hs';cases hs'
 obtain⟨b2,c2,vs,ty,hG2,hh,hvs⟩:=h.ok.obs id _ hs
 rw[hG] at hG2;cases hG2
 have hl:=Ye hvs
 obtain⟨ts,st',s1,hts,hK⟩:=Zcf _ _ st (Stp.refl h) (Us (Ur hvs off) m) he
 refine Res.of_run (key (cs:=(vs.toList.drop off).take m) hv (by simp [hl] at hl ⊢;omega) fun j v hj=>?_) ⟨_,G,hK,s1.sim.put (show VR G st'.sto w (.ag (ts.map .tr)) _ from ⟨_,rfl,hts⟩) hdn⟩
 rw[Uat] at hj
 split at hj <;> try contradiction
 rw[UaM] at hj
 rw[J5,cell_of_row w b1 _ vs ty _ hh]
 simpa using hj
theorem Zlt(h:Sim F G st a w){k:Nat}{z:List Value}{x:X}{d:Option Nat}{Kw:St->Prop}{C:Zz}(hd:d=oper.dst)(hdn:∀ y,d=some y->y<F.nt)(hc:Zj P (.cl k z x) oper.op=true)
  (he:ew C d st Kw (.cl k z x)):LOk P F a w oper Kw:=by
 subst hd
 simp only[Zj] at hc
 split at hc <;> try contradiction
 rename_i args at1 ho
 split at hc <;> try contradiction
 rename_i y t hy ht
 obtain⟨args⟩:=args
 simp only at hy
 subst hy
 simp only[Uad] at hc
 obtain⟨hx,hc⟩:=hc
 split at hc <;> try contradiction
 rename_i e hel
 simp only[Uad,beq_iff_eq,decide_eq_true_eq] at hc
 obtain⟨⟨⟨hsz,hz⟩,hzl⟩,hk0⟩:=hc
 have hu:=Y5 hel
 obtain⟨i,zv,hi,hzv,hzc,hz3⟩:=Xm hz
 have hzs:zv.cells.size=k:=by rw[<-hzl,<-hzc];simp
 have hx:=h.x hx
 simp only[ew] at he
 split at he <;> try contradiction
 rename_i id p off len cap s hq
 split at he <;> try contradiction
 rename_i k2 es u hw ver hs
 obtain⟨rfl,rfl,rfl,hle,hK⟩:=he
 rw[hq] at hx
 obtain⟨_,k3,es3,u3,hw3,ver3,hs3,_,hrel⟩:=hx
 rw[hs] at hs3;cases hs3
 obtain⟨es4,k',ad,c,hg4,hkk,hun,hv,hlc,_,hcap,hor⟩:=hrel rfl
 simp only[getp,Uam] at hg4
 subst hg4
 have hkk:=hkk rfl
 subst hkk
 have Jj:∀{w':World},(Builtin.clear_ at1 oper.type #[a.eval y]).run P w = .ok (.tuple #[]) w'->Stp F a G st (Zg st id (.ar k' (es.take off) u s (ver+1))) w w' G->LOk P F a w oper Kw:=fun {w'} hr hst=>by
  have hr2:(execOp a.eval oper).run P w = .ok (.value (.tuple #[])) w':=by
   simp [execOp,ho,resolve,invoke,builtin,hr]
  exact Res.of_run hr2 ⟨_,G,hK,hst.put hdn (show VR G _ w' (.tu []) (.tuple #[]) from ⟨[],rfl,rfl⟩) (Xp _ _ _)⟩
 by_cases h0:len=0
 ·subst h0
  refine Jj ?_ (Zce h hs off)
  rw[hv]
  cases ad <;> simp [Builtin.clear_,ht,run_underlying hu]
 ·rcases hor with h1 | ⟨h1,_⟩ | ⟨b1,c0,hG,rfl,hcc⟩
  ·omega
  ·exact absurd rfl h1
  ·have hr0:=(h.ok.obs _ _ hs).2.2.2.1 [] es (.inl rfl) rfl
   unfold ZS at hr0
   rw[hG] at hr0
   obtain⟨k2,vs,ty,g1,g2,g3,g4,g5,g6⟩:=hr0
   have hkk:=g1 rfl
   subst hkk
   have hroom:off*k2+len*k2<=vs.size:=by
    rw[g4,<-UaK];exact UaC _ (by omega)
   have hzz:(Builtin.zeroCells zv.cells len).toList.length=len*k2:=by
    rw[Array.length_toList,size_zeroCells,hzs]
   have hst:=run_storeCells_at P b1 (off*k2) ty (Builtin.zeroCells zv.cells len).toList 0 vs w g3 (by rw[hzz,Nat.add_zero];exact hroom) (Zll hzc hz3 len)
   simp only[Nat.add_zero,hzz] at hst
   refine Jj (w':=w.setRow b1 (vs.toList.take (off*k2)++(Builtin.zeroCells zv.cells len).toList++vs.toList.drop (off*k2+len*k2)).toArray) ?_ (Zfr h hs hG g3 ?_ ?_ ?_ ?_ ?_)
   ·rw[hv]
    obtain⟨len,rfl⟩:∃ n,len=n+1:=⟨len-1,by omega⟩
    simp [Builtin.clear_,ht,run_underlying hu,zeroValue,typeInfo,hi,hzv,hst]
   ·simp only[Ubf,Uai,Uao,UbF,hzz,Array.length_toList]
    omega
   ·rw[Uao]
    have:=(h.ok.obs _ _ hs).1
    omega
   ·exact fun e he=>hun e (UaS he)
   ·exact fun p es2 hp he=>Zfp hp he
   ·intro i e f t hi hf
    rw[Uat] at hi
    split at hi
    ·rename_i hio
     have hfl:=(Uac.1 hf).1
     rw[g2 e (Uae hi)] at hfl
     refine .inr ⟨?_,e,hi,hf⟩
     have hlt:i*k2+f<off*k2:=QW hio hfl
     rw[UbD,Uav,Uap (by rw[Uao,Array.length_toList];omega),Uat,if_pos hlt]
     simp
    ·cases hi
theorem Zlu{k n m:Nat}{v:Value}{cs:List Value}(h:FC w k n v cs)(hm:m<=n):(Builtin.firstCells k m v).run P w = .ok (cs.take (m*k)).toArray w:=by
 obtain⟨hl,a0,c,rfl,⟨ad,rfl,hc⟩ | ⟨rfl,rfl⟩⟩:=h
 ·have hmk:m*k<=n*k:=UaC _ hm
  exact run_firstCells_some (P:=P) w k m ad n c (cs.take (m*k)) (by rw[Uao];omega) fun j u hj=>by
   rw[Uat] at hj
   split at hj
   ·exact hc j u hj
   ·cases hj
 ·have:=run_firstCells_none (P:=P) w k m n c
  simpa using this
theorem ScR.getp{es es2:Row}{p:Ze}(h:ScR es)(hp:p≠[])(hg:getp es p=some es2):False:=by
 cases p with
 | nil=>exact hp rfl
 | cons cd q =>
  obtain⟨c,d⟩:=cd
  obtain⟨e,x,g1,g2,g3⟩:=YR hg
  have:=h e (Uae g1) _ (Uae g2)
  simp [isSc] at this
theorem Zfu{t:Tr}(h:isSc t=true):∃ y,t = .v y:=by
 cases t with
 | v y=>exact⟨y,rfl⟩
 | sl es=>simp [isSc] at h
theorem Zlv{st:St}{x:IV}{F':Row->Prop}(h:YH st.sto x F'):VV st x F':=by
 cases x <;> exact h
theorem Zlw{st:St}{x:IV}{F':Row->Prop}(h:VV st x F'):YH st.sto x F':=by
 cases x <;> exact h
theorem Zfv{C:Zz}{d:Option Nat}{st:St}{Kw:St->Prop}{k:Nat}{x y:X}(he:ew C d st Kw (.c0 k x y)):ew C d st Kw (.cy k x y):=by
 simp only[ew,Ji] at he ⊢
 generalize xv st.env x=q at he ⊢
 split at he <;> try contradiction
 dsimp only
 split at he <;> try contradiction
 rename_i hs
 simp only[hs]
 obtain⟨rfl,h2,h3,h4,h5⟩:=he
 exact⟨trivial,rfl,h2,h3,h4,Zlv h5⟩
theorem Zlx{C:Zz}{d:Option Nat}{st:St}{Kw:St->Prop}{k:Nat}{x y:X}(he:ew C d st Kw (.cy k x y)):ew C d st Kw (.c0 k x y):=by
 simp only[ew,Ji] at he ⊢
 generalize xv st.env x=q at he ⊢
 split at he <;> try contradiction
 split at he <;> try contradiction
 rename_i hs
 obtain⟨rfl,rfl,h2,h3,h4,h5⟩:=he
 simp only[hs]
 exact⟨trivial,h2,h3,h4,Zlw h5⟩
theorem Zfw(h:Sim F G st a w){k:Nat}{x y:X}{d:Option Nat}{Kw:St->Prop}{C:Zz}(hd:d=oper.dst)(hdn:∀ y,d=some y->y<F.nt)(hc:Zj P (.cy k x y) oper.op=true)
  (he:ew C d st Kw (.cy k x y)):LOk P F a w oper Kw:=by
 subst hd
 simp only[Zj] at hc
 split at hc <;> try contradiction
 rename_i args at1 ho
 split at hc <;> try contradiction
 rename_i x' y' t hxy ht
 obtain⟨args⟩:=args
 simp only at hxy
 subst hxy
 simp only[Uad] at hc
 obtain⟨⟨hx,hy⟩,hc⟩:=hc
 split at hc <;> try contradiction
 rename_i e hel
 simp only[Uad,beq_iff_eq,decide_eq_true_eq] at hc
 obtain⟨hsz,hk0⟩:=hc
 have hu:=Y5 hel
 have hx:=h.x hx
 have hy:=h.x hy
 simp only[ew] at he
 split at he <;> try contradiction
 rename_i id p off len cap s hq
 split at he <;> try contradiction
 rename_i k2 es u hw ver hs
 obtain⟨rfl,rfl,rfl,hle,hsc,he⟩:=he
 have src:∃(zs:Row) (news:List Value),FC w k2 zs.length (a.eval y') news/\(∀(i:Nat) (e:List Tr) (f:Nat) (t:Tr),zs[i]? = some e->e[f]? = some t->∃ v,t = .v v/\Jk v=true/\news[i*k2+f]? = some v)/\ScR zs/\Zu k2 zs /\
   Kw { Zg st id (.ar k2 (es.take off++zs.take len++es.drop (off+min zs.length len)) u s (ver+1)) with env:=ptd oper.dst (iI (min zs.length len:Nat)) st.env }:=by
  have trees:∀{A:Nat->Prop} {zs:Row},Rds w A (a.eval y') (.sl zs)->ScR zs->Zu k2 zs->∃ news,FC w k2 zs.length (a.eval y') news/\(∀(i:Nat) (e:List Tr) (f:Nat) (t:Tr),zs[i]? = some e->e[f]? = some t->∃ v,t = .v v/\Jk v=true/\news[i*k2+f]? = some v):=fun {A zs} hr h1 h2=>by
   obtain⟨cs,g1,g2⟩:=hr.fc hk0 h2
   refine⟨cs,g1,fun i e f t hi hf=>?_⟩
   obtain⟨v,hv,hr2⟩:=g2 i e f t hi hf
   obtain⟨q,rfl⟩:=Zfu (h1 e (Uae hi) t (Uae hf))
   obtain⟨rfl,hs2⟩:=hr2.val
   exact⟨_,rfl,hs2,hv⟩
  unfold VV at he
  split at he <;> try contradiction
  ·rename_i zs hq2
   rw[hq2] at hy
   obtain⟨h1,h2,h3⟩:=he
   obtain⟨news,g1,g2⟩:=trees hy h1 h2
   exact⟨zs,news,g1,g2,h1,h2,h3⟩
  ·rename_i zs hq2
   rw[hq2] at hy
   obtain⟨h1,h2,h3⟩:=he
   obtain⟨news,g1,g2⟩:=trees hy.2 h1 h2
   exact⟨zs,news,g1,g2,h1,h2,h3⟩
  ·rename_i id2 p2 off2 len2 cap2 s2 hq2
   rw[hq2] at hy
   unfold Jr at he
   split at he <;> try contradiction
   rename_i k4 es4 u4 hw4 ver4 hs4
   obtain⟨es5,hg5,hst5,hl5,h1,h2,h3⟩:=he
   obtain⟨news,g1,g2⟩:=Zaf h.ok hs4 hg5 hst5 hy hl5 h2
   refine⟨_,news,by rw[Qm hl5];exact g1,fun i e f t hi hf=>?_,h1,h2,h3⟩
   obtain⟨v,hv,hc2⟩:=g2 i e f t hi hf
   obtain⟨q,rfl⟩:=Zfu (h1 e (Uae hi) t (Uae hf))
   obtain⟨rfl,hs3⟩:=hc2
   exact⟨_,rfl,hs3,hv⟩
 obtain⟨zs,news,fc,hnew,hscz,hunz,hK⟩:=src
 rw[hq] at hx
 obtain⟨_,k3,es3,u3,hw3,ver3,hs3,_,hrel⟩:=hx
 rw[hs] at hs3;cases hs3
 obtain⟨es4,k',ad,c,hg4,hkk,hun,hv,hlc,_,hcap,hor⟩:=hrel rfl
 simp only[getp,Uam] at hg4
 subst hg4
 have hkk:=hkk rfl
 subst hkk
 have hlen:Builtin.lenOf (a.eval y')=pure zs.length:=by
  obtain⟨_,a0,c0,h1,_⟩:=fc
  rw[h1];rfl
 generalize hn:min zs.length len=n at *
 have hfc:=Zlu (P:=P) fc (m:=n) (by omega)
 have Jj:∀{w':World},(Builtin.copy_ at1 oper.type #[a.eval x',a.eval y']).run P w = .ok (.int .i64 n) w'->Stp F a G st (Zg st id (.ar k' (es.take off++zs.take len++es.drop (off+n)) u s (ver+1))) w w' G->LOk P F a w oper Kw:=fun {w'} hr hst=>by
  have hr2:(execOp a.eval oper).run P w = .ok (.value (.int .i64 n)) w':=by
   simp [execOp,ho,resolve,invoke,builtin,hr]
  exact Res.of_run hr2 ⟨_,G,hK,hst.put hdn (show VR G _ w' (iI n) (.int .i64 n) from .v _ rfl) (Xp _ _ _)⟩
 have hzt:zs.take len=zs.take n:=by
  by_cases h1:zs.length<=len
  ·rw[Uar h1,Uar (by omega)]
  ·rw[show n=len from by omega]
 by_cases h0:n=0
 ·subst h0
  have e0:es.take off++zs.take len++es.drop (off+0)=es:=by rw[hzt,List.take_zero,Ua5,Nat.add_zero,List.take_append_drop]
  rw[e0] at Jj
  have hc0:=Zce h hs es.length
  rw[UaT] at hc0
  refine Jj ?_ hc0
  rw[hv]
  cases ad with
  | none=>simp [Builtin.copy_,ht,run_underlying hu,hlen,YJ hsz,hn,hfc,goInt]
  | some ad=>simp [Builtin.copy_,ht,run_underlying hu,hlen,YJ hsz,hn,hfc,goInt,storeCells]
 ·rcases hor with h1 | ⟨h1,_⟩ | ⟨b1,c0,hG,rfl,hcc⟩
  ·omega
  ·exact absurd rfl h1
  ·have hr0:=(h.ok.obs _ _ hs).2.2.2.1 [] es (.inl rfl) rfl
   unfold ZS at hr0
   rw[hG] at hr0
   obtain⟨k2,vs,ty,g1,g2,g3,g4,g5,g6⟩:=hr0
   have hkk:=g1 rfl
   subst hkk
   have hroom:off*k2+n*k2<=vs.size:=by
    rw[g4,<-UaK];exact UaC _ (by omega)
   have hnl:n*k2<=zs.length*k2:=UaC _ (by omega)
   have hcl:(news.take (n*k2)).length=n*k2:=by
    rw[Uao,fc.1];omega
   have hone:∀ v∈news.take (n*k2),v.oneCell'=true:=fun v hv2=>by
    have hv3:=UaS hv2
    obtain⟨q,hq1,rfl⟩:=UaX hv3
    rw[fc.1] at hq1
    have hd:q / k2<zs.length:=Nat.div_lt_of_lt_mul (by rwa [UbE])
    have hm:q % k2<k2:=Nat.mod_lt _ hk0
    have he1:=Uag hd
    have hel2:=hunz _ (Uae he1)
    obtain⟨v2,_,hs5,hv5⟩:=hnew (q / k2) _ (q % k2) _ he1 (Uag (by rw[hel2];exact hm))
    have:q / k2*k2+q % k2=q:=by have:=Nat.div_add_mod q k2;rw[UbE] at this;omega
    rw[this,Uag (by rw[fc.1];exact hq1)] at hv5
    cases hv5
    generalize news[q]=z at hs5
    cases z <;> first | rfl | simp [Jk] at hs5
   have hst:=run_storeCells_at P b1 (off*k2) ty (news.take (n*k2)) 0 vs w g3 (by rw[hcl,Nat.add_zero];exact hroom) hone
   simp only[Nat.add_zero,hcl] at hst
   refine Jj (w':=w.setRow b1 (vs.toList.take (off*k2)++news.take (n*k2)++vs.toList.drop (off*k2+n*k2)).toArray) ?_ (Zfr h hs hG g3 ?_ ?_ ?_ ?_ ?_)
   ·rw[hv]
    simp [Builtin.copy_,ht,run_underlying hu,hlen,YJ hsz,hn,hfc,goInt,hst]
   ·simp only[Ubf,Uai,UbF,hcl,Uao,Array.length_toList]
    omega
   ·have:=(h.ok.obs _ _ hs).1
    simp only[Uai,Uao,UbF]
    omega
   ·intro e he
    rcases Uas.1 he with he | he
    ·rcases Uas.1 he with he | he
     ·exact hun e (UaS he)
     ·exact hunz e (UaS he)
    ·exact hun e (UbU he)
   ·intro p es2 hp hg
    exfalso
    refine ScR.getp (es:=es.take off++zs.take len++es.drop (off+n)) (fun e he t ht=>?_) hp hg
    rcases Uas.1 he with he | he
    ·rcases Uas.1 he with he | he
     ·exact hsc e (UaS he) t ht
     ·exact hscz e (UaS he) t ht
    ·exact hsc e (UbU he) t ht
   ·intro i e f t hi hf
    have hlt:∀{l:Row},Zu k2 l->e∈l->f<k2:=fun hU hm=>by
     have:=(Uac.1 hf).1
     rwa [hU e hm] at this
    have hoff:(es.take off).length=off:=by rw[Uao];omega
    have hzl:(zs.take len).length=n:=by rw[Uao];omega
    have hoff2:(vs.toList.take (off*k2)).length=off*k2:=by
     rw[Uao,Array.length_toList];omega
    rw[UbD]
    by_cases hi1:i<off
    ·rw[Uav,Uap (by omega),Uat,if_pos hi1] at hi
     have hfl:=hlt hun (Uae hi)
     have hx1:i*k2+f<off*k2:=QW hi1 hfl
     refine .inr ⟨?_,e,hi,hf⟩
     rw[Uav,Uap (by omega),Uat,if_pos hx1]
     simp
    ·obtain⟨j,rfl⟩:∃ j,i=off+j:=⟨i-off,by omega⟩
     by_cases hi2:j<n
     ·rw[Uap (by rw[Uai];omega),Uaq (by omega),hoff,UaW,hzt,Uat,if_pos hi2] at hi
      have hfl:=hlt hunz (Uae hi)
      have hx1:j*k2+f<n*k2:=QW hi2 hfl
      obtain⟨v,rfl,hs6,hv6⟩:=hnew j e f t hi hf
      refine .inl ⟨v,rfl,hs6,?_⟩
      rw[Uap (by rw[Uai,hoff2,hcl,UaK];omega),Uaq (by rw[hoff2,UaK];omega),hoff2,show (off+j)*k2+f-off*k2=j*k2+f from by rw[UaK];omega,Uat,if_pos hx1]
      exact hv6
     ·rw[Uaq (by rw[Uai];omega),Uai,hoff,hzl,UaM,show off+n+(off+j-(off+n))=off+j from by omega] at hi
      have hfl:=hlt hun (Uae hi)
      refine .inr ⟨?_,e,hi,hf⟩
      have hx1:n*k2<=j*k2:=UaC _ (by omega)
      rw[Uaq (by rw[Uai,hoff2,hcl,UaK];omega),Uai,hoff2,hcl,UaM,show off*k2+n*k2+((off+j)*k2+f-(off*k2+n*k2))=(off+j)*k2+f from by rw[UaK];omega]
      simp
theorem Zly{t u ty e:TypeId}{ik:IntKind}{i:TypeInfo}{z:Value}(ht:P.underlying t=some (.slice e))(hu:P.underlying u=some (.int ik))(hi:P.info? e=some i)(hz:i.zero=some z){ad:Option Addr}{n:Nat}(hn0:0<n)(hb:n<=bigN)(hby:i.bytes<=1024)(hk0:0<i.size) :
  (Builtin.append_ #[t,u] ty #[.slice ad 0 0,.int .i64 n]).run P w =
   .ok (.slice (some ⟨w.heap.size,0,none⟩) n (grownCap w n 0 e)) (w.drew.alloc (.cells (Builtin.zeroCells z.cells n++Builtin.zeroCells z.cells (grownCap w n 0 e-n)) e)):=by
 have hbb:n<=4294967296:=hb
 have hw:IntKind.i64.wrap (n:Int)=n:=XX (by show (-9223372036854775808:Int)<=(n:Int)/\(n:Int)<=9223372036854775807;omega)
 have hneg:¬ ((n:Int)<0):=by omega
 have hnb:(n:Int)*(i.bytes:Int)<=281474976710656:=by
  calc (n:Int)*(i.bytes:Int)<=4294967296*1024:=Int.mul_le_mul (by omega) (by omega) (by omega) (by omega)
   _<=281474976710656:=by decide
 have hnb':¬ (281474976710656<(n:Int)*(i.bytes:Int)):=by omega
 have h63':¬ (9223372036854775807<(n:Int)):=by omega
 have h48:Builtin.nextslicecap n 0*i.bytes<=281474976710656:=growslice_fits hn0 (by
  calc n*i.bytes<=4294967296*1024:=Nat.mul_le_mul hbb hby
   _<=140737488355328:=by decide)
 have h48':¬ (281474976710656<Builtin.nextslicecap n 0*i.bytes):=by omega
 have hn0':¬ (n*i.size=0):=by
  have:=Nat.mul_pos hn0 hk0
  omega
 have hfo:=UF (P:=P) (w:=w) (k:=i.size) (n:=0) (v:=.slice ad 0 0) (cs:=[]) ⟨by simp,ad,0,rfl,(by cases ad with | none=>exact .inr ⟨rfl,rfl⟩ | some ad=>exact .inl ⟨ad,rfl,fun j u hj=>by simp at hj⟩)⟩ (w':=w.drew) rfl
 simp [Builtin.append_,run_underlying ht,run_underlying hu,Go.sizeOf,typeInfo,zeroValue,hi,hz,asInt,asIntOf,hw,hneg,hnb',h63',h48',hn0',Nat.ne_of_gt hn0,Question.forced,hfo,newRow,grownCap]
theorem Zlz{z:Value}{k n:Nat}(hk:z.cells.size=k){i f:Nat}(hi:i<n){x:Value}(hf:z.cells[f]? = some x):(Builtin.zeroCells z.cells n)[i*k+f]? = some x:=by
 have hfk:f<k:=by rw[<-hk];exact(UaA.1 hf).1
 have hlt:i*k+f<n*k:=QW hi hfk
 have hmod:(i*k+f) % k=f:=by rw[Ua7,Ubk,UbR hfk]
 have hlt2:f<z.cells.size:=by omega
 unfold Builtin.zeroCells
 rw[UbP]
 simp [hlt,hk,hmod]
 rw[getElem!_pos z.cells f hlt2]
 rw[UaQ hlt2] at hf
 exact Ua6 hf
theorem ZlA{C:Zz}(h:Sim F G st a w){k:Nat}{z:List Value}{x n:X}{d:Option Nat}{K:St->Prop}(hd:d=oper.dst)(hdn:∀ y,d=some y->y<F.nt)(hc:Zj P (.az k z x n) oper.op=true)(he:ew C d st K (.az k z x n)):LOk P F a w oper K:=by
 subst hd
 simp only[Zj] at hc
 split at hc <;> try contradiction
 rename_i args argTypes ho
 split at hc <;> try contradiction
 rename_i xo no t u hargs htys
 simp only[Uad] at hc
 obtain⟨⟨⟨hcx,hcn⟩,hcu⟩,hc⟩:=hc
 split at hcu <;> try contradiction
 rename_i ik hu
 split at hc <;> try contradiction
 rename_i e hel
 simp only[Uad,beq_iff_eq,decide_eq_true_eq] at hc
 obtain⟨⟨⟨⟨hsz,hz⟩,hzl⟩,hk0⟩,hby⟩:=hc
 have ht:=Y5 hel
 obtain⟨i,zv,hi,hzv,hzc,hz3⟩:=Xm hz
 obtain⟨i2,hi2,hks⟩:=Xl hsz
 rw[hi] at hi2;cases hi2
 have hbytes:i.bytes<=1024:=by simpa [Program.bytesOf,hi] using hby
 have hzs:zv.cells.size=k:=by rw[<-hzl,<-hzc];simp
 have hargs':args = #[xo,no]:=by cases args;simpa using hargs
 have htys':argTypes = #[t,u]:=by cases argTypes;simpa using htys
 subst hargs'
 subst htys'
 have hx:=h.x hcx
 have hn:=h.x hcn
 simp only[ew] at he
 split at he <;> try contradiction
 rename_i hqx
 split at he <;> try contradiction
 rename_i m hqn
 obtain⟨hm0,hmb,hfr,hK⟩:=he
 rw[hqx] at hx
 rw[hqn] at hn
 obtain⟨hn,_⟩:=hn.val
 obtain⟨⟨ad,hx⟩,_⟩:=hx
 obtain⟨N,rfl⟩:=Ua2 (Int.le_of_lt hm0)
 simp only[Int.toNat_natCast] at hK
 have hN0:0<N:=by omega
 have hNb:N<=bigN:=by omega
 have hrun:=Zly (P:=P) (w:=w) (ty:=oper.type) ht hu hi hzv (ad:=ad) hN0 hNb hbytes (by rw[hks];exact hk0)
 have hge:N<=grownCap w N 0 e:=by simpa using grownCap_ge w N 0 e
 have htrv:∀ x∈z,Rds w (Av G st.sto w) x (trv x)/\YB (trv x):=fun x hx=>by
  rcases hz3 x hx with hx | rfl
  ·have:trv x = .v x:=by cases x <;> first | rfl | simp [Jk] at hx
   rw[this];exact⟨.v x hx,trivial⟩
  ·exact⟨.nil none 0,rfl⟩
 have hin:∀{i':Nat} {e':List Tr},(List.replicate N (z.map trv))[i']? = some e'->i' < N/\e'=z.map trv:=fun {i' e'} h1=>by
  rw[Ubs] at h1
  split at h1 <;> simp_all
 obtain⟨G',hG'⟩:=Zb8 h (Kl.refl st) (d:=oper.dst) (key:=keyOf oper.dst) (k:=k) (c:=grownCap w N 0 e) (es:=List.replicate N (z.map trv)) (u:=true) (ty:=e) (N:=fun _=>none) (Zb9 hfr) hdn
  (w':=w.drew.alloc (.cells (Builtin.zeroCells zv.cells N++Builtin.zeroCells zv.cells (grownCap w N 0 e-N)) e))
  ⟨by simp,fun b hb=>heap_alloc_old w.drew _ b hb,rfl,rfl,rfl⟩ (heap_alloc_new w.drew _)
  (by simp only[Array.size_append,size_zeroCells,hzs,<-UaK];congr 1;omega) (by rw[Ubj];exact hge)
  (fun e' he' => by obtain⟨_,rfl⟩:=Ubu.1 he';simpa using hzl)
  (fun i' e' f t' h1 h2=>by
   obtain⟨hi',rfl⟩:=hin h1
   rw[Uaz,UaF] at h2
   obtain⟨y,hy,rfl⟩:=h2
   have hyf:zv.cells[f]? = some y:=by rw[<-hzc] at hy;simpa using hy
   have hfk:f<k:=by have:=(UaA.1 hyf).1;omega
   refine⟨y,?_,Rds.cell (htrv y (Uae hy)).1 fun _=>(htrv y (Uae hy)).2⟩
   rw[UaE (by rw[size_zeroCells,hzs];exact QW hi' hfk)]
   exact Zlz hzs hi' hyf)
  (fun _ i' f e' zs q es2 h1 h2 h3=>by
   obtain⟨_,rfl⟩:=hin h1
   rw[Uaz,UaF] at h2
   obtain⟨y,hy,h2⟩:=h2
   have:=(htrv y (Uae hy)).2
   rw[h2] at this
   simp only[YB] at this
   subst this
   obtain⟨rfl,rfl⟩:=Vo h3
   unfold ZS
   rfl)
  (fun _ _ _ _ _ _ hg=>by cases hg) (fun _ _ _ _ _ _ _ _ _ _ hg=>by cases hg)
 rw[Ubj] at hG'
 refine Res.of_run (v:=_) (w':=_) ?_ ⟨_,G',hK,hG'⟩
 unfold execOp
 simp only[ho,resolve,invoke,builtin,Sem.run_bind,Sem.run_pure,Result.andThen_ok,List.map_toArray,Uay,UaR,hx,hn,List.length_nil,hrun]
end
section give
variable {P:Program} {F:Fr} {G G':Gh} {st st1:St} {a:Act} {w w':World} {oper:Oper} {D:Zd->Prop}
theorem Sim.turnL(h:Sim F G st a w)(k:Kl D st st1){id:Zd}{ob':Ob}{d:Option Nat}{x:IV}{v:Value}(hid:¬ D id)(hidl:id.1<st.lvl)
  (gh:∀ i,i≠id->G' i=G i) (size:w.heap.size<=w'.heap.size)
  (heap:∀ b,b<w.heap.size->(∀ ob,st.sto id=some ob -> ¬ ZC G id ob b)->w'.heap[b]? = w.heap[b]?)
  (own:∀ b,ZC G' id ob' b->(∃ j ob0,(j=id\/D j)/\st.sto j=some ob0/\ZC G j ob0 b)\/w.heap.size<=b)
  (rel:∀ ob,st.sto id=some ob->idR G G' id ob ob')
  (hos:w'.os=w.os) (htape:w'.tape=w.tape) (houtp:w'.output=w.output)
  (hob:Trn G G' st.sto (Zf st1.sto id ob') w w' (· = id) D->YA G' (Zf st1.sto id ob') w' id ob')
  (hlow:∀ cells,ob' = .bx cells->Ja (id.1+1) cells)
  (hd:∀ y,d=some y->y<F.nt)
  (hx:Trn G G' st.sto (Zf st1.sto id ob') w w' (· = id) D->VR G' (Zf st1.sto id ob') w' x v) :
  Sim F G' { Zg st1 id ob' with env:=ptd d x st1.env } (a.put d v) w'/\Trn G G' st.sto (Zf st1.sto id ob') w w' (· = id) D:=by
 have hsto:({ Zg st1 id ob' with env:=ptd d x st1.env }:St).sto=Zf st1.sto id ob':=by rw[<-JY];rfl
 have ht:Trn G G' st.sto (Zf st1.sto id ob') w w' (· = id) D:=by
  refine⟨gh,fun i ob hi hdi hs=>?_,fun i ob hi hs=>?_,size,fun b hb hn=>heap b hb fun ob hs=>hn id ob rfl hs,fun i ob b hi hs ho=>?_,fun i ob hi _ hs=>?_⟩
  ·obtain⟨o2,h1,h2⟩:=k.live i ob hdi hs
   exact⟨o2,by unfold Zf;rw[if_neg hi];exact h1,h2⟩
  ·unfold Zf at hs;rw[if_neg hi] at hs
   exact k.only i ob hs
  ·subst hi
   unfold Zf at hs;rw[if_pos rfl] at hs;cases hs
   exact own b ho
  ·subst hi
   exact⟨ob',by unfold Zf;rw[if_pos rfl],rel ob hs⟩
 refine⟨h.go (T:=(· = id)) (env0:=st1.env) (D:=D) (by simp only;rw[VE,k.lvl]) (fun i ob hs=>?_) (by rw[hsto];exact ht) k.dead hos htape houtp ?_ k.vr k.men rfl hd (by rw[hsto];exact hx ht),ht⟩
 ·have hs:(Zg st1 id ob').out i=some ob:=hs
  unfold Zg at hs
  split at hs
  ·rw[k.out] at hs;exact h.outl i ob hs
  ·rename_i hne
   simp only[Zf] at hs
   split at hs
   ·rename_i hi
    subst hi
    exact hidl
   ·rw[k.out] at hs;exact h.outl i ob hs
 ·rw[hsto]
  refine ht.ok h.ok (fun i ob hi hs=>?_) (fun i ob j ob' b hi hj _ _ _ _=>hi.trans hj.symm) (fun i cells hi hs=>?_)
  ·subst hi
   unfold Zf at hs;rw[if_pos rfl] at hs;cases hs
   exact hob ht
  ·subst hi
   unfold Zf at hs;rw[if_pos rfl] at hs;cases hs
   exact hlow _ rfl
theorem Sim.renL(h:Sim F G st a w){id id0:Zd}{k:Nat}{zs:Row}{u:Bool}{hw ver:Nat}{v:Value}(hl:id.1=st.lvl)(hl0:id0.1<st.lvl)(hs:st.sto id=some (.ar k zs u hw ver))(h0:st.sto id0=none)
  (hv:YP G st.sto id [] 0 zs.length none hw v) :
  ∃ G',Sim F G' (Zg (Zn id st) id0 (.ar k zs u hw ver)) a w/\Trn G G' st.sto (Zf (Zn id st).sto id0 (.ar k zs u hw ver)) w w (· = id0) (fun i=>False\/i=id) /\
   YP G' (Zf (Zn id st).sto id0 (.ar k zs u hw ver)) id0 [] 0 zs.length none hw v:=by
 have hne:id0≠id:=fun e=>by rw[e] at hl0;omega
 have k1:=(Kl.refl st).step (fun j cells hj=>h.ok.low j cells hj) h.outl hl (by rw[hs];rfl)
 obtain⟨G',hG⟩:∃ G':Gh,G'=fun i=>if i=id0 then G id else G i:=⟨_,rfl⟩
 have g0:G' id0=G id:=by rw[hG];exact if_pos rfl
 have g1:∀ i,i≠id0->G' i=G i:=fun i hi=>by rw[hG];exact if_neg hi
 have hob:=h.ok.obs _ _ hs
 have ht:=h.turnL k1 (id:=id0) (ob':=.ar k zs u hw ver) (G':=G') (w':=w) (d:=none) (x:=.un) (v:=undef) (fun hf=>hf.elim (fun q=>q) hne) hl0 g1 (Uaf _) (fun _ _ _=>rfl)
  (fun b hb=>.inl ⟨id,_,.inr (.inr rfl),hs,by
   obtain⟨p,c,q1,q2,q3⟩:=hb
   exact⟨p,c,q1,q2,by rw[g0] at q3;exact q3⟩⟩) (fun ob hob=>by rw[h0] at hob;cases hob) rfl rfl rfl (fun t=>by
  obtain⟨o1,o2,o3,o4,o5⟩:=hob
  refine⟨o1,o2,by rw[g0];exact o3,fun p es' hp hg=>DY g0 (fun b hb=>t.av b hb) (o4 p es' hp hg),fun p p' b c c' => ?_⟩
  rw[g0]
  exact o5 p p' b c c') (fun _ hc=>by cases hc) (fun _ he=>by cases he) (fun _=>trivial)
 rw[QV] at ht
 refine⟨G',ht.1,ht.2,?_⟩
 obtain⟨⟨a0,c0,hv0,hle⟩,k3,es3,u3,hw3,ver3,hs3,hb,hrel⟩:=hv
 rw[hs] at hs3;cases hs3
 refine⟨⟨a0,c0,hv0,hle⟩,k,zs,u,hw,ver,by unfold Zf;rw[if_pos rfl],hb,fun hst=>?_⟩
 obtain⟨es',k',a',c',q1,q2,q3,q4,q5,q6,q7,q8⟩:=hrel hst
 exact⟨es',k',a',c',q1,q2,q3,q4,q5,q6,by rw[g0];exact q7,by rw[g0];exact q8⟩
theorem ZlB{C:Zz}(h0:Sim F G st a w){key:Nat}{p x:X}{d:Option Nat}{K:St->Prop}(hd:d=oper.dst)(hc:Zj P (.gv key p x) oper.op=true)(he:ew C d st K (.gv key p x)):LOk P F a w oper K:=by
 simp only[Zj] at hc
 split at hc <;> try contradiction
 rename_i t y v ho
 simp only[Uad,beq_iff_eq] at hc
 obtain⟨⟨hsz,hp⟩,hx⟩:=hc
 have hp0:=h0.x hp
 have hx0:=h0.x hx
 simp only[ew] at he
 obtain⟨hdn,he⟩:=he
 subst hd
 unfold Um at he
 split at he <;> try contradiction
 rename_i id off hqp
 split at he <;> try contradiction
 rename_i id2 len s hqx
 obtain⟨hl2,hl1,hno,he⟩:=he
 unfold DK at he
 split at he <;> try contradiction
 rename_i cells hs0
 split at he <;> try contradiction
 rename_i k zs u hw ver hs2
 obtain⟨hle0,rfl,rfl,hk⟩:=he
 rw[hqp] at hp0
 rw[hqx] at hx0
 obtain⟨G1,h,tr,hx⟩:=h0.renL (id0:=(id.1,key)) hl2 hl1 hs2 hno hx0
 have hsto1:(Zg (Zn id2 st) (id.1,key) (.ar k zs u s ver)).sto=Zf (Zn id2 st).sto (id.1,key) (.ar k zs u s ver):=JY _ _ _
 have hnid:id≠(id.1,key):=fun e=>by rw[e] at hs0;rw[hno] at hs0;cases hs0
 have hne2:¬ (False\/id=id2):=fun e=>by
  rcases e with e | e
  ·exact e
  ·rw[e] at hl1;omega
 have hp:=tr.vr (.ab id off) (a.eval y) hne2 hp0
 have hx:VR G1 (Zf (Zn id2 st).sto (id.1,key) (.ar k zs u s ver)) w (.hd (id.1,key) [] 0 zs.length none s) (a.eval v):=hx
 rw[<-hsto1] at hp hx
 have hs:(Zg (Zn id2 st) (id.1,key) (.ar k zs u s ver)).sto id=some (.bx cells):=by
  rw[hsto1]
  unfold Zf
  rw[if_neg hnid,UD (by omega)]
  exact hs0
 obtain⟨st1,hst1⟩:∃ s1,s1=Zg (Zn id2 st) (id.1,key) (.ar k zs u s ver):=⟨_,rfl⟩
 rw[<-hst1] at h hp hx hs hk
 clear hx0 hp0 tr hst1 hsto1
 obtain⟨l,hcl0⟩:∃ l,l=[IV.hd (id.1,key) [] 0 zs.length none s]:=⟨_,rfl⟩
 have hcl:cellsOf (.hd (id.1,key) [] 0 zs.length none s)=some l:=by rw[hcl0];rfl
 obtain⟨hvs,hcell⟩:=Xj hx hcl
 have hl:l.length=1:=by rw[hcl0];rfl
 have hlo:Ja (id.1+1) l:=by rw[hcl0];exact⟨UaD _,trivial⟩
 have hle:off+l.length<=cells.length:=by omega
 rw[<-hcl0] at hk
 have hlen:(a.eval v).cells.toList.length=l.length:=Ye hvs
 have hrun:∀{ad:Addr} {w'},a.eval y = .pointer (some ad)->(storeCells ad (a.eval v).cells.toList).run P w = .ok () w'->(execOp a.eval oper).run P w = .ok .skip w':=fun {ad w'} hy hr=>by
  have hs1:(Go.sizeOf t).run P w = .ok 1 w:=YJ hsz
  have hne:¬ (a.eval v).cells.size≠1:=by rw[<-hl,<-hlen];simp
  have hne2:(a.eval v).cells.size=1:=by simpa using hne
  simp [execOp,ho,Instr.storeAt,Instr.sureAddr,hy,storeVar,hs1,hne2,hr]
 have hput:∀ u,a.put oper.dst u=a:=fun u=>by rw[hdn];rfl
 obtain⟨cells',b,c,hs',hG,hv⟩:=hp
 rw[hs] at hs';cases hs'
 obtain⟨b2,c2,vs,ty,hG2,hh,hcs⟩:=h.ok.obs _ _ hs
 rw[hG] at hG2;cases hG2
 have hcl2:=Ye hcs
 have hvl:vs.size=cells.length:=by simpa using hcl2
 have hone:∀ u∈(a.eval v).cells.toList,u.oneCell'=true:=fun u hu=>by
  obtain⟨n,hn⟩:=Ubd hu
  have hnl:n<l.length:=by rw[<-hlen];exact(Uac.1 hn).1
  obtain⟨u',hu',hr⟩:=Yr hvs n l[n] (by simp [hnl])
  rw[hn] at hu';cases hu'
  exact Xr hr (hcell _ (by simp))
 have hst:=run_storeCells_at P b off ty (a.eval v).cells.toList 0 vs w hh (by rw[hlen,hvl];simpa using hle) hone
 refine Res.of_skip (hrun hv hst) ?_
 rw[hput]
 generalize hnew:(vs.toList.take (off+0)++(a.eval v).cells.toList++vs.toList.drop (off+0+(a.eval v).cells.toList.length)).toArray=vs2
 have hb0:ZC G1 id (.bx cells) b:=⟨c,hG⟩
 have ht:=h.turn (Kl.refl st1) (id:=id) (ob':=.bx (JT cells off l)) (d:=none) (x:=.un) (v:=undef) (G':=G1) (w':=w.setRow b vs2) (fun h=>h) (.inr (by rw[hs];rfl)) (fun _ _=>rfl) (by simp)
  (fun blk _ hn=>setRow_other w b blk _ (fun hbb=>by subst hbb;exact hn _ hs hb0))
  (fun blk ho=>.inl ⟨id,_,.inl rfl,hs,ho⟩)
  (fun ob ho=>by rw[hs] at ho;cases ho;exact rfl)
  rfl rfl rfl (fun t=>⟨b,c,vs2,ty,hG,setRow_heap w b vs _ ty (0,0) hh,?_⟩) (fun cs hcs=>?_) (fun _ he=>by cases he) (fun _=>trivial)
 ·rw[QV] at ht
  exact⟨_,_,hk,ht.1⟩
 ·have hsv:=ZbQ l (a.eval v).cells.toList cells vs off hvs hcs hle
  have heq:(((a.eval v).cells.toList.zipIdx.foldl (fun(cs:Array Value) (cj:Value×Nat)=>cs.setIfInBounds (off+cj.2) cj.1) vs))=vs2:=by
   rw[<-hnew]
   apply Array.ext'
   have gen:∀(us:List Value) (k:Nat) (cs:Array Value),off+k+us.length<=cs.size->((us.zipIdx k).foldl (fun(cs:Array Value) (cj:Value×Nat)=>cs.setIfInBounds (off+cj.2) cj.1) cs).toList=cs.toList.take (off+k)++us++cs.toList.drop (off+k+us.length):=by
    intro us
    induction us with
    | nil=>intro k cs _;simp
    | cons u us ih =>
     intro k cs hle
     simp only[List.zipIdx_cons,List.foldl_cons,List.length_cons] at hle ⊢
     rw[ih (k+1) _ (by simp;omega)]
     simp only[Array.toList_setIfInBounds]
     have hlt:off+k<cs.toList.length:=by simp;omega
     have e1:(cs.toList.set (off+k) u).take (off+(k+1))=cs.toList.take (off+k)++[u]:=by
      apply Ubw
      intro n
      simp only[Uat,UbI,Ube,Uao]
      have:min (off+k) cs.toList.length=off+k:=by omega
      rw[this]
      by_cases h1:n<off+k
      ·have h2:n<off+(k+1):=by omega
       have h3:¬ off+k=n:=by omega
       simp [h1,h2,h3]
      ·by_cases h2:n=off+k
       ·subst h2
        have h3:off+k<cs.size:=by simpa using hlt
        have h4:off+k<off+(k+1):=by omega
        simp [h3,h4]
       ·have h3:¬ n<off+(k+1):=by omega
        have h4:n-(off+k)≠0:=by omega
        simp [h1,h3]
        omega
     have e2:(cs.toList.set (off+k) u).drop (off+(k+1)+us.length)=cs.toList.drop (off+k+(us.length+1)):=by
      rw[List.drop_set_of_lt (by omega)]
      congr 1
      omega
     rw[e1,e2]
     simp
   have:=gen (a.eval v).cells.toList 0 vs (by rw[hlen,hvl];simpa using hle)
   simpa using this
  rw[heq] at hsv
  exact t.vrs _ _ (Jn (fun _ _ h=>h) _ (V3 _)) hsv
 ·cases hcs
  have:∀(l cells:List IV) (off:Nat),Ja (id.1+1) l->Ja (id.1+1) cells->Ja (id.1+1) (JT cells off l):=by
   intro l
   induction l with
   | nil=>intro cells off _ h;exact h
   | cons x r ih =>
    intro cells off h1 h2
    refine ih _ _ h1.2 ?_
    have:∀(cells:List IV) (off:Nat),Ja (id.1+1) cells->Ja (id.1+1) (cells.set off x):=by
     intro cells
     induction cells with
     | nil=>intro off h;exact h
     | cons y r ih =>
      intro off h
      cases off with
      | zero=>exact⟨h1.1,h.2⟩
      | succ n=>exact⟨h.1,ih n h.2⟩
    exact this cells off h2
  exact this l cells off hlo (h.ok.low _ _ hs)
end give
end Go.Fd

namespace Go.Fd
variable [Tabs]
section
variable {P:Program} {F:Fr} {G G':Gh} {st:St} {a:Act} {w w':World} {oper:Oper} {K:JI} {b:Nat}
theorem Sim.gotA(h:Sim F G st a w){loc':List (Nat×Ob)}{out':Zc}{d:Option Nat}{key:Nat}{x:IV}{obs:List Ob}{v:Value}(hg:Uv G st.sto (Zw st.lvl loc' out') w st.lvl key x obs v w')
  (hcl:∀ id ob,Zw st.lvl loc' out' id=some ob->id.1<st.lvl+1) (ho:∀ i,i.1=st.lvl->out' i=st.out i) (hd:∀ y,d=some y->y<F.nt) :
  ∃ G',Sim F G' { st with env:=ptd d x st.env,loc:=addO key obs loc',out:=out' } (a.put d v) w':=by
 obtain⟨G',h1,h2,h3⟩:=hg
 have hsto:({ st with env:=ptd d x st.env,loc:=addO key obs loc',out:=out' }:St).sto=ZJ (Zw st.lvl loc' out') st.lvl key obs:=by
  have:=Zcc obs key { st with loc:=loc',out:=out' }
  exact this
 refine⟨G',by cases d <;> exact h.dfr,by cases d <;> simp [Act.put,h.sz],fun s=>?_,by rw[hsto];exact h1,h.lvl,?_,by rw[hsto];exact h.fr.trans h3 (by show F.lvl<=st.lvl+1;rw[h.lvl];omega),h.fix⟩
 ·rw[hsto,Act.put_get a d v s (by rw[h.sz];exact hd)]
  have h0:=h3.stab _ _ (h.men_lt (h.env s)) (h.env s)
  cases d with
  | none=>simpa [ptd] using h0
  | some d =>
   simp only[ptd,Uam]
   rw[XW]
   by_cases hs:s=d
   ·rw[if_pos hs,if_pos hs.symm];exact h2
   ·rw[if_neg hs,if_neg (fun e=>hs e.symm)];exact h0
 ·intro id ob hs
  have hs:out' id=some ob:=hs
  have hn:id.1≠st.lvl:=fun hn=>by
   rw[ho id hn] at hs
   have:=h.outl id ob hs
   omega
  have:=hcl id ob (by unfold Zw;rw[if_neg hn];exact hs)
  show id.1<st.lvl
  omega
theorem ZlC{lvl:Nat}{loc:List (Nat×Ob)}{out:Zc}:∀{n b:Nat},freshK b loc n->Yg (Zw lvl loc out) lvl b n:=fun {n b} h =>
 UI (st:=⟨lvl,[],loc,out⟩) h
theorem ZlD(h:Sim F G st a w){imp:Bool}{f:X}{xs:List X}{d:Option Nat}{Kw:St->Prop}(hd:d=oper.dst)(hdn:∀ y,d=some y->y<F.nt)(hc:Zj P (.ca .any imp f xs) oper.op=true)
  (he:ew (Sem P) d st Kw (.ca .any imp f xs)):LOk P F a w oper Kw:=by
 subst hd
 simp only[Zj] at hc
 split at hc <;> try contradiction
 rename_i g args at1 ho
 simp only[Uad] at hc
 have hg:=h.x hc.1
 have hargs:=h.xs hc.2
 simp only[ew] at he
 split at he <;> try contradiction
 rename_i fid caps hq
 obtain⟨r,loc',out',hou,⟨hr,⟨fn,hf,hb,hn⟩,hcall⟩,hfr,hk⟩:=he
 rw[hq] at hg
 simp only[VR] at hg
 obtain⟨cvs,hg,hcv⟩:=hg
 have hcl:=h.clean
 have hrun:=WI (P:=P) (w:=w) (caps:=cvs) ho hg hf hb hn
 have hc:=hcall hcl G w (args.toList.map a.eval++cvs) h.ok (Uq (Zcd hargs) hcv) (h.fr.fix h.fix)
 refine Res.of_enter hrun ?_
 have harr:(args.map a.eval++cvs.toArray)=(args.toList.map a.eval++cvs).toArray:=by cases args;simp
 rw[harr]
 refine hc.mono ?_
 rintro e w' ⟨v,G1,rfl,h1,h2,hcl',h3⟩
 have hgot:=UB (l:=st.lvl) (b:=keyOf oper.dst) (imp:=imp) hr hcl' h1 h2 h3 (ZlC hfr)
 obtain⟨G',hG'⟩:=h.gotA hgot hcl' hou hdn
 exact⟨v,rfl,_,G',hk,hG'⟩
theorem ZlE(h:Sim F G st a w){d:Option Nat}{Kw:St->Prop}(hd:d=oper.dst)(hdn:∀ y,d=some y->y<F.nt):∀(o:O),Jh o=true->Zj P o oper.op=true->ew (Sem P) d st Kw o->LOk P F a w oper Kw
 | .st m p x,_,hc,he=>Zfd h hd hc he
 | .gv key p x,_,hc,he=>ZlB h hd hc he
 | .bw k n z ps,_,hc,he=>ZkY h hd hdn hc he
 | .ap k md x y,_,hc,he=>UH h hd hdn hc he
 | .nl neg x,_,hc,he=>Zli h hd hdn hc he
 | .cp x,_,hc,he=>Zlj h hd hdn hc he
 | .sh k x hi,_,hc,he=>Zlk h hd hdn hc he
 | .cl k z x,_,hc,he=>Zlt h hd hdn hc he
 | .cy k x y,_,hc,he=>Zfw h hd hdn hc he
 | .c0 k x y,_,hc,he=>Zfw h hd hdn (by simpa only[Zj] using hc) (Zfv he)
 | .fz x,_,hc,he=>Zlm h hd hdn hc he
 | .rk x,_,hc,he=>Zlo h hd hdn hc he
 | .mz f cs,_,hc,he=>Zlr h hd hdn hc he
 | .lz m p,_,hc,he=>Zls h hd hdn hc he
 | .a1 k x y,_,hc,he=>Zk6 h hd hdn hc he
 | .a2 k x y,_,hc,he=>Zk8 h hd hdn hc he
 | .a4 k x y,_,hc,he=>Zk9 h hd hdn hc he
 | .xx,_,_,he=>False.elim he
 | .s0 m p x,_,hc,he=>ZkX h hd hc he
 | .a0 k x y,_,hc,he=>Zk5 h hd hdn hc he
 | .az k z x n,_,hc,he=>ZlA h hd hdn hc he
 | .ca .same imp f xs,_,hc,he=>Zlg h hd hdn hc he
 | .ca .keep imp f xs,_,hc,he=>Zlh h hd hdn hc he
 | .ca .any imp f xs,_,hc,he=>ZlD h hd hdn hc he
theorem Zfx(h:Sim F G st a w){d:Option Nat}{o:O}{Kw:St->Prop}(hd:d=oper.dst)(hdn:∀ y,d=some y->y<F.nt)(hc:Zj P o oper.op=true)(he:Zp (Sem P) d o st Kw):LOk P F a w oper Kw:=by
 unfold Zp at he
 split at he
 ·rename_i hl;exact ZlE h hd hdn o hl hc he
 ·rename_i hl
  have:=Zle (b:=keyOf d) h o (by simpa using hl) (fun mk obs hk=>UI hk.1) hc he
  refine this.mono ?_
  rintro v w' ⟨mk,obs,⟨_,hk⟩,hg⟩
  obtain⟨G',hs⟩:=h.got hg hdn
  subst hd
  exact⟨_,G',hk,hs⟩
theorem LOk.wp{o:Oper}{Kw:St->Prop}{next:Act->World->Prop}{Q:Exit->Act->World->Prop}(h:LOk P F a w o Kw)(hn:∀ st' G' a' w',Kw st'->Sim F G' st' a' w'->next a' w'):o.wp P a w next Q :=
 h next Q fun _ _ ⟨st',G',hk,hs⟩=>hn st' G' _ _ hk hs
theorem Sim.known(h:Sim F G st a w){j:Nat}{c:Bool}(hj:lk j st.env = .tr (.v (.bool c)))(x:IV)(hx:x=iB c):Sim F G { st with env:=pt j x st.env } a w:=by
 refine⟨h.dfr,h.sz,fun t=>?_,h.ok,h.lvl,h.outl,h.fr,h.fix⟩
 show VR G st.sto w (lk t (pt j x st.env)) _
 rw[XW]
 split
 ·rename_i ht;subst ht hx;have:=h.env t;rw[hj] at this;exact this
 ·exact h.env t
theorem Zcg(h:Sim F G st a w){ops:Array Oper}{o:OP}{Kw:St->Prop}{next:Act->World->Prop}{Q:Exit->Act->World->Prop}(hc:DN P F.nt ops o oper=true)(he:JJ (Sem P) o st Kw)
  (hn:∀ st' G' a' w',Kw st'->Sim F G' st' a' w'->next a' w'):if Region.wanted oper (yielded ops a.tmps)=true then oper.wp P a w next Q else next (a.put oper.dst undef) w:=by
 unfold DN at hc
 simp only[Uad,decide_eq_true_eq] at hc
 obtain⟨⟨⟨hd,hdn⟩,hg⟩,hc⟩:=hc
 have hdn':∀ y,o.d=some y->y<F.nt:=fun y hy=>by rw[hy] at hdn;simpa using hdn
 unfold JJ at he
 unfold Region.wanted
 split at hg
 ·rename_i hg1 hg2
  rw[hg1] at he
  rw[hg2,if_pos rfl]
  exact(Zfx h hd hdn' hc he).wp hn
 ·rename_i j w1 g w2 hg1 hg2
  rw[hg1] at he
  simp only[hg2]
  simp only[Uad,beq_iff_eq,decide_eq_true_eq] at hg
  obtain⟨rfl,hg⟩:=hg
  have hskip:VR G st.sto w (.tu []) undef:=⟨[],rfl,rfl⟩
  simp only at he
  split at he <;> try contradiction
  ·rename_i c hl
   have hv:=h.env j
   rw[hl] at hv
   have hv:=hv.val.1
   have hy:yielded ops a.tmps g=some c:=by
    unfold yielded
    rw[hg]
    simp only[Option.bind_some]
    have hb:a.tmps[j]? = some (.bool c):=by
     rw[UaB] at hv
     cases hq:a.tmps[j]? with
     | none=>rw[hq] at hv;simp [undef] at hv
     | some u=>rw[hq] at hv;simp at hv;rw[hv]
    rw[hb]
   rw[hy]
   by_cases hcw:c=w1
   ·rw[if_pos (by simp [hcw])]
    have h':=h.known hl (iB w1) (by rw[hcw])
    exact(Zfx h' hd hdn' hc (he.1 hcw)).wp hn
   ·rw[if_neg (by simp [hcw])]
    have hcw':c = !w1:=by cases c <;> cases w1 <;> simp_all
    have h':=h.known hl (iB !w1) (by rw[hcw'])
    have:=h'.put (d:=o.d) (x:=.tu []) (v:=undef) hskip hdn'
    refine hn _ G _ _ (he.2 hcw') ?_
    rw[<-hd]
    exact this
  ·rename_i hl
   have hv:=h.env j
   rw[hl] at hv
   obtain⟨vs,hv,hvs⟩:=hv
   simp only[Zi] at hvs
   subst hvs
   have hy:yielded ops a.tmps g=none:=by
    unfold yielded
    rw[hg]
    simp only[Option.bind_some]
    rw[UaB] at hv
    cases hq:a.tmps[j]? with
    | none=>rfl
    | some u=>rw[hq] at hv;simp at hv;rw[hv]
   rw[hy,if_neg (by simp)]
   refine hn _ G _ _ he ?_
   rw[<-hd]
   exact h.put (d:=o.d) (x:=.tu []) (v:=undef) hskip hdn'
 ·cases hg
end
variable [Tabs]
theorem Zch(ks:List Nat)(t:Nat):∀ env,lk t (Qf ks env)=if t∈ks then lk t env else .un
 | []=>by simp [Qf,lk]
 | (s,x)::r=>by
  simp only[Qf]
  by_cases hs:s∈ks
  ·rw[if_pos hs]
   simp only[lk]
   by_cases ht:t=s
   ·subst ht;simp [hs]
   ·rw[if_neg ht,if_neg ht];exact Zch ks t r
  ·rw[if_neg hs,Zch ks t r]
   simp only[lk]
   by_cases ht:t=s
   ·subst ht;simp [hs]
   ·rw[if_neg ht]
theorem Zag(js:List Nat)(t:Nat):∀ loc,lkO t (QL js loc)=if t∈js then lkO t loc else none
 | []=>by simp [QL,lkO]
 | (s,x)::r=>by
  simp only[QL]
  by_cases hs:s∈js
  ·rw[if_pos hs]
   simp only[lkO]
   by_cases ht:t=s
   ·subst ht;simp [hs]
   ·rw[if_neg ht,if_neg ht];exact Zag js t r
  ·rw[if_neg hs,Zag js t r]
   simp only[lkO]
   by_cases ht:t=s
   ·subst ht;simp [hs]
   ·rw[if_neg ht]
theorem Zfy{l:Nat}{js:List Nat}{t:Nat}:∀{env:List (Nat×IV)},XT l js env->JK l js (lk t env)
 | [],_=>trivial
 | (s,x)::r,h=>by
  simp only[lk]
  split
  ·exact h.1
  ·exact Zfy h.2
theorem Zci{l:Nat}{js:List Nat}{t:Nat}{cells:List IV}:∀{loc:List (Nat×Ob)},Qg l js loc->lkO t loc=some (.bx cells)->Vm l js cells
 | [],_,h=>by cases h
 | (s,.bx c)::r,h,hl=>by
  simp only[lkO] at hl
  split at hl
  ·cases hl;exact h.1
  ·exact Zci h.2 hl
 | (s,.ar ..)::r,h,hl=>by
  simp only[lkO] at hl
  split at hl
  ·cases hl
  ·exact Zci (loc:=r) h hl
section
variable {P:Program} {F:Fr} {G G':Gh} {st:St} {a:Act} {w w':World} {oper:Oper} {ks js:List Nat}
theorem Zcj(st:St)(i:Zd):(fgt ks js st).sto i=if i.1=st.lvl then (if i.2∈js then lkO i.2 st.loc else none) else st.out i:=by
 unfold St.sto Zw fgt
 simp only[Zag]
theorem Sim.fgt(h:Sim F G st a w)(hc:Fd.clean ks js st):Sim F G (Fd.fgt ks js st) a w:=by
 have del:Del st.sto (Fd.fgt ks js st).sto (fun i=>i.1=st.lvl->i.2∈js):=by
  refine⟨fun i ob hs hp=>?_,fun i ob hs=>?_,fun i cells hs=>?_⟩
  ·rw[Zcj]
   split
   ·rename_i hi;rw[if_pos (hp hi),<-Qn hi];exact hs
   ·rename_i hi;rw[<-Yh hi];exact hs
  ·rw[Zcj] at hs
   split at hs
   ·rename_i hi
    split at hs
    ·rename_i hj;exact⟨by rw[Qn hi];exact hs,fun _=>hj⟩
    ·cases hs
   ·rename_i hi;exact⟨by rw[Yh hi];exact hs,fun h=>absurd h hi⟩
  ·rw[Zcj] at hs
   split at hs
   ·rename_i hi
    split at hs
    ·rename_i hj
     exact Zci (t:=i.2) hc.2 (by rw[Zag,if_pos hj];exact hs)
    ·cases hs
   ·rename_i hi
    have h1:=h.outl i _ hs
    have h2:=h.ok.low i cells (by rw[Yh hi];exact hs)
    refine Jn (fun j hj=>fun hl=>?_) cells h2
    have hj:j.1<i.1+1:=hj
    omega
 refine⟨h.dfr,h.sz,fun t=>?_,del.ok h.ok,h.lvl,h.outl,⟨h.fr.size,h.fr.old,fun i ob b hs=>h.fr.own i ob b (del.only i ob hs).1,h.fr.os,h.fr.tape,h.fr.output,fun x v hx hv=>?_⟩,h.fix⟩
 ·show VR G _ w (lk t (Qf ks st.env)) _
  have hm:=Zfy (t:=t) hc.1
  refine del.vr _ _ hm ?_
  rw[Zch]
  split
  ·exact h.env t
  ·trivial
 ·refine del.vr x v (Jw (fun j hj=>fun hl=>?_) x hx) (h.fr.stab x v hx hv)
  have hj:j.1<F.lvl:=hj
  rw[<-h.lvl] at hj
  omega
theorem Zfz{ops:Array Oper}{Q:Exit->Act->World->Prop}{K:St->Prop}:∀(l:List OP) (r:List Oper) (i:Nat) (st:St) (G:Gh) (a:Act) (w:World),Sim F G st a w->QQ P F.nt ops l r=true ->
  ops.toList.drop i=r->Yz (Sem P) l st K->(∀ st' G' a' w',K st'->Sim F G' st' a' w'->Q .normal a' w')->wpOps P ops Q (List.range' i r.length) a w
 | [],r,i,st,G,a,w,h,hc,hr,he,hq=>by
  cases r with
  | nil=>exact hq st G a w he h
  | cons=>cases hc
 | o::l,r,i,st,G,a,w,h,hc,hr,he,hq=>by
  cases r with
  | nil=>cases hc
  | cons oper s =>
   simp only[QQ,Uad] at hc
   have hi:ops[i]? = some oper:=by
    have:=congrArg (fun l=>l[0]?) hr
    simpa using this
   have hs:ops.toList.drop (i+1)=s:=by
    rw[<-UbA,hr];rfl
   have key:=Zcg (ops:=ops) (Q:=Q) (next:=wpOps P ops Q (List.range' (i+1) s.length)) h hc.1 he (fun st' G' a' w' hk h' => Zfz l s (i+1) st' G' a' w' h' hc.2 hs hk hq)
   rw[List.length_cons,List.range'_succ]
   simp only[wpOps,hi]
   by_cases hw:Region.wanted oper (yielded ops a.tmps)=true
   ·rw[if_pos hw] at key ⊢;exact .inl key
   ·rw[if_neg hw] at key ⊢;exact key
def ZlF:Ex->Exit
 | .nrm=>.normal
 | .ext i=>.exit i
 | .ret=>.ret
end
end Go.Fd

namespace Go.Fd
variable [Tabs]
def rd:O->List X
 | .mv x _ | .bx x | .nt x | .ng x | .cv _ x | .ms _ _ x | .fa _ x | .fd _ _ x | .ln x | .lg x | .ex _ x | .nc x | .ld _ x | .lt _ x | .lz _ x | .bt x | .sa _ x | .sb x | .nl _ x | .cp x | .cl _ _ x | .fz x | .rk x=>[x]
 | .al .. | .la _ | .xx=>[]
 | .bd _ ps _=>ps.map (·.2.2)
 | .bs _ _ _ ps | .bw _ _ _ ps | .bv _ _ _ ps=>ps.map (·.2)
 | .st _ p x | .s0 _ p x | .gv _ p x=>[p,x]
 | .bi _ _ x y | .qa _ _ x y | .mm _ x y | .ap _ _ x y | .ia _ x y | .it _ x y | .ja _ _ x y | .ix x y | .jx _ _ _ x y | .sh _ x y | .cy _ x y | .c0 _ x y | .a2 _ x y | .a4 _ x y | .a3 _ x y | .a0 _ x y | .a1 _ x y | .az _ _ x y=>[x,y]
 | .mf _ cs | .mz _ cs=>cs
 | .lb _ x q=>x::(q.map X.t).toList
 | .sx _ x lo hi mx | .sy _ x lo hi mx | .sw _ x lo hi mx=>x::(lo.toList++(hi.toList++mx.toList))
 | .ss x lo hi=>x::(lo.toList++hi.toList)
 | .pk c a b=>[c,a,b]
 | .ca _ _ f xs=>f::xs
theorem Zck{ρ ρ':X->IV}{p:X}{q:Option Nat}(h:∀ x∈p::(q.map X.t).toList,ρ' x=ρ x):Y3 ρ' p q↔Y3 ρ p q:=by
 cases q with
 | none=>exact Ubp
 | some q =>
  show Y2 (ρ' p) (ρ' (.t q))↔Y2 (ρ p) (ρ (.t q))
  rw[h p (by simp),h (.t q) (by simp)]
def Rel{α:Type}(T:(α->Prop)->Prop):Prop:=∃ R:α->Prop,∀ K,T K↔∃ r,R r/\K r
section
variable {α β:Type} {T:(α->Prop)->Prop}
theorem ZX:Rel (fun(_:α->Prop)=>False):=⟨fun _=>False,fun K=>by simp⟩
theorem ZN(r:α):Rel (fun(K:α->Prop)=>K r):=⟨fun s=>s=r,fun K=>by simp⟩
theorem Zv{p:Prop}(h:Rel T):Rel (fun K=>p/\T K):=by
 obtain⟨R,hR⟩:=h
 exact⟨fun r=>p/\R r,fun K=>by
   simp only[hR];constructor
   ·rintro⟨hp,r,h1,h2⟩;exact⟨r,⟨hp,h1⟩,h2⟩
   ·rintro⟨r,⟨hp,h1⟩,h2⟩;exact⟨hp,r,h1,h2⟩⟩
theorem QY{U:β->(α->Prop)->Prop}(h:∀ y,Rel (U y)):Rel (fun K=>∃ y,U y K):=by
 refine⟨fun r=>∃ y,(h y).choose r,fun K=>?_⟩
 constructor
 ·rintro⟨y,hy⟩
  obtain⟨r,h1,h2⟩:=((h y).choose_spec K).1 hy
  exact⟨r,⟨y,h1⟩,h2⟩
 ·rintro⟨r,⟨y,h1⟩,h2⟩
  exact⟨y,((h y).choose_spec K).2 ⟨r,h1,h2⟩⟩
theorem ZV{U:α->(β->Prop)->Prop}(ht:Rel T)(h:∀ y,Rel (U y)):Rel (fun K=>T fun y=>U y K):=by
 obtain⟨R,hR⟩:=ht
 have h1:(fun K=>T fun y=>U y K)=fun K=>∃ y,R y/\U y K:=by funext K;exact propext (hR _)
 rw[h1]
 exact QY fun y=>Zv (h y)
theorem Jb{T':(α->Prop)->Prop}(h:∀ K,T K↔T' K)(ht:Rel T'):Rel T:=by
 have:T=T':=funext fun K=>propext (h K)
 rw[this];exact ht
theorem Rel.ex(h:Rel T){K:α->Prop}(ht:T K):∃ r,K r/\T (fun s=>s=r):=by
 obtain⟨R,hR⟩:=h
 obtain⟨r,h1,h2⟩:=(hR K).1 ht
 exact⟨r,h2,(hR _).2 ⟨r,h1,rfl⟩⟩
theorem Rel.mono(h:Rel T){K K':α->Prop}(hk:∀ r,K r->K' r)(ht:T K):T K':=by
 obtain⟨R,hR⟩:=h
 obtain⟨r,h1,h2⟩:=(hR K).1 ht
 exact(hR _).2 ⟨r,h1,hk r h2⟩
end
theorem ZlG{op:BinOp}{w:Nat}{a b:Value}:Rel (Z6 op w a b):=by
 by_cases h:∃ r p,∀ K,Z6 op w a b K↔p/\K r
 ·obtain⟨r,p,h⟩:=h
  exact Jb h (Zv (ZN r))
 ·refine Jb (T':=fun _=>False) (fun K=>⟨fun hk=>h ?_,False.elim⟩) ZX
  unfold Z6 at hk
  split at hk <;> first
   | exact hk.elim
   | exact⟨_,_,fun K=>by simp only[Z6];rw[and_assoc]⟩
   | exact⟨_,_,fun K=>by simp only[Z6];rw[<-and_assoc]⟩
   | exact⟨_,_,fun K=>by simp only[Z6];rw[<-and_assoc,<-and_assoc]⟩
   | exact⟨_,_,fun K=>by simp only[Z6];rw[<-and_assoc,<-and_assoc,<-and_assoc]⟩
   | exact⟨_,_,fun K=>by simp only[Z6];exact Ubp⟩
   | exact⟨_,True,fun K=>by simp only[Z6,true_and];exact Ubp⟩
theorem ZlH{q:Nat}{x y:IV}:Rel (Qb q x y):=by
 by_cases h:∃ r p,∀ K,Qb q x y K↔p/\K r
 ·obtain⟨r,p,h⟩:=h
  exact Jb h (Zv (ZN r))
 ·refine Jb (T':=fun _=>False) (fun K=>⟨fun hk=>h ?_,False.elim⟩) ZX
  unfold Qb at hk
  split at hk <;> first
   | exact hk.elim
   | exact⟨_,_,fun K=>by simp only[Qb];exact Ubp⟩
   | exact⟨_,True,fun K=>by simp only[Qb,true_and];exact Ubp⟩
theorem ZfA:∀{qs:List Nat} {x y:List IV},Rel (Yc qs x y)
 | [],[],[]=>Jb (fun _=>by simp only[Yc]) (ZN true)
 | q::qs,x::r,y::s=>Jb (fun _=>by simp only[Yc]) (ZV (ZlH (q:=q) (x:=x) (y:=y)) fun a=>ZV (ZfA (qs:=qs) (x:=r) (y:=s)) fun b=>ZN (a&&b))
 | [],[],_::_=>Jb (fun _=>by simp only[Yc]) ZX
 | [],_::_,_=>Jb (fun _=>by simp only[Yc]) ZX
 | _::_,[],_=>Jb (fun _=>by simp only[Yc]) ZX
 | _::_,_::_,[]=>Jb (fun _=>by simp only[Yc]) ZX
theorem bndI_rel{ρ:X->IV}{x:Option X}{n:Nat}:Rel (ZI ρ x n):=by
 cases x with
 | none=>exact Jb (fun _=>by simp only[ZI]) (ZN n)
 | some x =>
  by_cases h:∃ k m,ρ x = .tr (.v (.int k m))
  ·obtain⟨k,m,h⟩:=h
   exact Jb (fun _=>by simp only[ZI,h]) (Zv (p:=0<=m) (ZN m.toNat))
  ·refine Jb (T':=fun _=>False) (fun K=>⟨fun hk=>h ?_,False.elim⟩) ZX
   simp only[ZI] at hk
   split at hk
   ·exact⟨_,_,‹_›⟩
   ·exact hk.elim
abbrev MO:=(Nat->Nat->IV)×(Nat->Nat->List Ob)
section
variable {C:Zz} {ρ:X->IV} {L:Zc}
theorem ZfB{k:Nat}:∀(ps:List (Nat×X)) (es:Row) (u:Bool),Rel (fun K:Row×Bool->Prop=>YG ρ k ps es u (fun a b=>K (a,b)))
 | [],es,u=>by simp only[YG];exact ZN (es,u)
 | (i,x)::r,es,u=>by
  simp only[YG]
  split
  ·split
   ·exact Zv (Zv (ZfB r _ _))
   ·exact ZX
  ·exact ZX
theorem Zcl{id:Zd}{p:Ze}{st:Nat}:Rel (fun K:Row×Bool×Nat->Prop=>Jr L id p st fun a b c=>K (a,b,c)):=by
 simp only[Jr]
 split
 ·exact QY fun _=>Zv (Zv (ZN _))
 ·exact ZX
theorem ZlI{L:Zc}:∀(x:IV),Rel (Y1 L x):=by
 intro x
 cases x with
 | tr t=>exact Jb (fun _=>by simp only[Y1];exact Ubp) (ZN _)
 | cs es=>exact Jb (fun _=>by simp only[Y1];exact Ubp) (ZN _)
 | hd id p off len c st=>exact Jb (fun _=>by simp only[Y1]) (ZV (Zcl (L:=L) (id:=id) (p:=p) (st:=st)) (U:=fun y K=>off+len<=y.1.length/\K (.sl (cut y.1 off len))) fun _=>Zv (ZN _))
 | _=>exact Jb (fun _=>by simp only[Y1]) ZX
theorem ZfC{L:Zc}:∀(l:List IV),Rel (Ya L l)
 | []=>Jb (fun _=>by simp only[Ya];exact Ubp) (ZN _)
 | x::r=>Jb (fun _=>by simp only[Ya]) (ZV (ZlI (L:=L) x) (U:=fun t K=>Ya L r fun ts=>K (t::ts)) fun t=>ZV (ZfC (L:=L) r) (U:=fun ts K=>K (t::ts)) fun _=>ZN _)
theorem ZlJ{L:Zc}{o:Option Ob}{off:Nat}:Rel (QH o L off):=by
 cases o with
 | none=>exact Jb (fun _=>by simp only[QH]) ZX
 | some ob =>
  cases ob with
  | bx cells=>exact Jb (fun _=>by simp only[QH]) (ZV (ZfC (L:=L) (cells.drop off)) (U:=fun ts K=>K (.ta ts)) fun _=>ZN _)
  | ar=>exact Jb (fun _=>by simp only[QH]) ZX
mutual
theorem ZlK:∀(x:IV),Rel (ZQ L x)
 | .un=>Jb (fun _=>by simp only[ZQ];exact Ubp) (ZN _)
 | .tr t=>Jb (fun _=>by simp only[ZQ];exact Ubp) (ZN _)
 | .cs es=>Jb (fun _=>by simp only[ZQ];exact Ubp) (ZN _)
 | .hd id p off len c st=>Jb (fun _=>by simp only[ZQ]) (ZV (Zcl (L:=L) (id:=id) (p:=p) (st:=st)) (U:=fun y K=>off+len<=y.1.length/\K (.tr (.sl (cut y.1 off len)))) fun _=>Zv (ZN _))
 | .ag l=>Jb (fun _=>by simp only[ZQ]) (ZV (Zah l) (U:=fun l' K=>K (.ag l')) fun _=>ZN _)
 | .fn f c=>Jb (fun _=>by simp only[ZQ]) (ZV (Zah c) (U:=fun l' K=>K (.fn f l')) fun _=>ZN _)
 | .er=>Jb (fun _=>by simp only[ZQ];exact Ubp) (ZN _)
 | .ab id off=>Jb (fun _=>by simp only[ZQ]) (ZlJ (L:=L) (o:=L id) (off:=off))
 | .sv _=>Jb (fun _=>by simp only[ZQ]) ZX
 | .ae .. => Jb (fun _=>by simp only[ZQ]) ZX
 | .ta c=>Jb (fun _=>by simp only[ZQ];exact Ubp) (ZN _)
 | .tu .. => Jb (fun _=>by simp only[ZQ]) ZX
 | .ow .. => Jb (fun _=>by simp only[ZQ]) ZX
theorem Zah:∀(l:List IV),Rel (ZM L l)
 | []=>Jb (fun _=>by simp only[ZM];exact Ubp) (ZN _)
 | x::r=>Jb (fun _=>by simp only[ZM]) (ZV (ZlK x) (U:=fun x' K=>ZM L r fun r' => K (x'::r')) fun x' => ZV (Zah r) (U:=fun r' K=>K (x'::r')) fun _=>ZN _)
end
theorem QZ{S:Zc}{x:IV}:Rel (YH S x):=by
 unfold YH
 split
 ·exact ZN _
 ·exact ZN _
 ·rename_i id p off len c s
  exact Jb (fun _=>Ubp) (ZV (Zcl (L:=S) (id:=id) (p:=p) (st:=s)) (U:=fun y K=>off+len<=y.1.length/\K (cut y.1 off len)) fun _=>Zv (ZN _))
 ·exact ZX
theorem Zcm:∀(o:O),Rel (fun K:MO->Prop=>ev C ρ L (fun m b=>K (m,b)) o):=by
 intro o
 have key:∀{α:Type} {T:(α->Prop)->Prop} {U:α->(MO->Prop)->Prop},Rel T->(∀ y,Rel (U y))->Rel (fun K=>T fun y=>U y K):=fun h1 h2=>ZV h1 h2
 cases o
 case bs k n z ps =>
  simp only[ev]
  exact ZV (ZfB (ρ:=ρ) (k:=k) ps (List.replicate n (z.map trv)) true) (U:=fun y (K:MO->Prop)=>K (fun l b=>.hd (l,b) [] 0 n none n,fun _ _=>[.ar k y.1 y.2 n 0])) fun _=>ZN _
 case bi op w x y =>
  simp only[ev,Zx]
  split
  ·rename_i a b _ _
   exact ZV (ZlG (op:=op) (w:=w) (a:=a) (b:=b)) (U:=fun r (K:MO->Prop)=>K (fun _ _=>.tr (.v r),fun _ _=>[])) fun _=>ZN _
  ·split <;> first | exact ZN _ | exact ZX
  ·exact ZX
 case qa neg ks x y =>
  simp only[ev,Zx]
  split
  ·rename_i l m _ _
   exact ZV (ZfA (qs:=ks) (x:=l) (y:=m)) (U:=fun r (K:MO->Prop)=>K (fun _ _=>iB (if neg then !r else r),fun _ _=>[])) fun _=>ZN _
  ·exact ZX
 case sx k x lo hi mx =>
  simp only[ev,Zx]
  split
  ·rename_i es _
   refine Zv (ZV (bndI_rel (ρ:=ρ) (x:=lo) (n:=0)) (U:=fun a (K:MO->Prop)=>ZI ρ hi es.length fun b=>a<=b/\b<=es.length/\ZI ρ mx b fun m=>m=b/\K (fun _ _=>if mx.isSome then .cs (cut es a (b-a)) else .tr (.sl (cut es a (b-a))),fun _ _=>[])) fun a=>?_)
   refine ZV (bndI_rel (ρ:=ρ) (x:=hi) (n:=es.length)) (U:=fun b (K:MO->Prop)=>a<=b/\b<=es.length/\ZI ρ mx b fun m=>m=b/\K (fun _ _=>if mx.isSome then .cs (cut es a (b-a)) else .tr (.sl (cut es a (b-a))),fun _ _=>[])) fun b=>?_
   exact Zv (Zv (ZV (bndI_rel (ρ:=ρ) (x:=mx) (n:=b)) (U:=fun m (K:MO->Prop)=>m=b/\K (fun _ _=>if mx.isSome then .cs (cut es a (b-a)) else .tr (.sl (cut es a (b-a))),fun _ _=>[])) fun m=>Zv (ZN _)))
  ·rename_i es _
   refine Zv (ZV (bndI_rel (ρ:=ρ) (x:=lo) (n:=0)) (U:=fun a (K:MO->Prop)=>ZI ρ hi es.length fun b=>a<=b/\b<=es.length/\ZI ρ mx b fun m=>m=b/\K (fun _ _=>if mx.isSome || hi.isNone then .cs (cut es a (b-a)) else .tr (.sl (cut es a (b-a))),fun _ _=>[])) fun a=>?_)
   refine ZV (bndI_rel (ρ:=ρ) (x:=hi) (n:=es.length)) (U:=fun b (K:MO->Prop)=>a<=b/\b<=es.length/\ZI ρ mx b fun m=>m=b/\K (fun _ _=>if mx.isSome || hi.isNone then .cs (cut es a (b-a)) else .tr (.sl (cut es a (b-a))),fun _ _=>[])) fun b=>?_
   exact Zv (Zv (ZV (bndI_rel (ρ:=ρ) (x:=mx) (n:=b)) (U:=fun m (K:MO->Prop)=>m=b/\K (fun _ _=>if mx.isSome || hi.isNone then .cs (cut es a (b-a)) else .tr (.sl (cut es a (b-a))),fun _ _=>[])) fun m=>Zv (ZN _)))
  ·rename_i id p off len cap st _
   refine ZV (bndI_rel (ρ:=ρ) (x:=lo) (n:=0)) (U:=fun a (K:MO->Prop)=>ZI ρ hi len fun b=>a<=b/\b<=len/\ZI ρ mx b fun m=>b<=m/\m<=len/\Js L id p k/\K (fun _ _=>.hd id p (off+a) (b-a) (if mx.isSome then some (m-a) else cap.map (· - a)) st,fun _ _=>[])) fun a=>?_
   refine ZV (bndI_rel (ρ:=ρ) (x:=hi) (n:=len)) (U:=fun b (K:MO->Prop)=>a<=b/\b<=len/\ZI ρ mx b fun m=>b<=m/\m<=len/\Js L id p k/\K (fun _ _=>.hd id p (off+a) (b-a) (if mx.isSome then some (m-a) else cap.map (· - a)) st,fun _ _=>[])) fun b=>?_
   exact Zv (Zv (ZV (bndI_rel (ρ:=ρ) (x:=mx) (n:=b)) (U:=fun m (K:MO->Prop)=>b<=m/\m<=len/\Js L id p k/\K (fun _ _=>.hd id p (off+a) (b-a) (if mx.isSome then some (m-a) else cap.map (· - a)) st,fun _ _=>[])) fun m=>Zv (Zv (Zv (ZN _)))))
  ·exact ZX
 case sw k x lo hi mx =>
  simp only[ev,Zx]
  split
  ·rename_i es _
   refine Zv (ZV (bndI_rel (ρ:=ρ) (x:=lo) (n:=0)) (U:=fun a (K:MO->Prop)=>ZI ρ hi es.length fun b=>a<=b/\b<=es.length/\ZI ρ mx b fun m=>m=b/\K (fun _ _=>if mx.isSome then .cs (cut es a (b-a)) else .tr (.sl (cut es a (b-a))),fun _ _=>[])) fun a=>?_)
   refine ZV (bndI_rel (ρ:=ρ) (x:=hi) (n:=es.length)) (U:=fun b (K:MO->Prop)=>a<=b/\b<=es.length/\ZI ρ mx b fun m=>m=b/\K (fun _ _=>if mx.isSome then .cs (cut es a (b-a)) else .tr (.sl (cut es a (b-a))),fun _ _=>[])) fun b=>?_
   exact Zv (Zv (ZV (bndI_rel (ρ:=ρ) (x:=mx) (n:=b)) (U:=fun m (K:MO->Prop)=>m=b/\K (fun _ _=>if mx.isSome then .cs (cut es a (b-a)) else .tr (.sl (cut es a (b-a))),fun _ _=>[])) fun m=>Zv (ZN _)))
  ·rename_i es _
   refine Zv (ZV (bndI_rel (ρ:=ρ) (x:=lo) (n:=0)) (U:=fun a (K:MO->Prop)=>ZI ρ hi es.length fun b=>a<=b/\b<=es.length/\ZI ρ mx b fun m=>m=b/\K (fun _ _=>if mx.isSome || hi.isNone then .cs (cut es a (b-a)) else .tr (.sl (cut es a (b-a))),fun _ _=>[])) fun a=>?_)
   refine ZV (bndI_rel (ρ:=ρ) (x:=hi) (n:=es.length)) (U:=fun b (K:MO->Prop)=>a<=b/\b<=es.length/\ZI ρ mx b fun m=>m=b/\K (fun _ _=>if mx.isSome || hi.isNone then .cs (cut es a (b-a)) else .tr (.sl (cut es a (b-a))),fun _ _=>[])) fun b=>?_
   exact Zv (Zv (ZV (bndI_rel (ρ:=ρ) (x:=mx) (n:=b)) (U:=fun m (K:MO->Prop)=>m=b/\K (fun _ _=>if mx.isSome || hi.isNone then .cs (cut es a (b-a)) else .tr (.sl (cut es a (b-a))),fun _ _=>[])) fun m=>Zv (ZN _)))
  ·rename_i id off len cap st _
   refine Zv (ZV (bndI_rel (ρ:=ρ) (x:=lo) (n:=0)) (U:=fun a (K:MO->Prop)=>ZI ρ hi len fun b=>a<=b/\b<=len/\ZI ρ mx b fun m=>b<=m/\m<=len/\K (fun _ _=>.hd id [] (off+a) (b-a) (if mx.isSome then some (m-a) else cap.map (· - a)) st,fun _ _=>[])) fun a=>?_)
   refine ZV (bndI_rel (ρ:=ρ) (x:=hi) (n:=len)) (U:=fun b (K:MO->Prop)=>a<=b/\b<=len/\ZI ρ mx b fun m=>b<=m/\m<=len/\K (fun _ _=>.hd id [] (off+a) (b-a) (if mx.isSome then some (m-a) else cap.map (· - a)) st,fun _ _=>[])) fun b=>?_
   exact Zv (Zv (ZV (bndI_rel (ρ:=ρ) (x:=mx) (n:=b)) (U:=fun m (K:MO->Prop)=>b<=m/\m<=len/\K (fun _ _=>.hd id [] (off+a) (b-a) (if mx.isSome then some (m-a) else cap.map (· - a)) st,fun _ _=>[])) fun m=>Zv (Zv (ZN _))))
  ·exact ZX
 case sy k x lo hi mx =>
  simp only[ev,Zx]
  split
  ·rename_i es _
   refine Zv (ZV (bndI_rel (ρ:=ρ) (x:=lo) (n:=0)) (U:=fun a (K:MO->Prop)=>ZI ρ hi es.length fun b=>a<=b/\b<=es.length/\ZI ρ mx b fun m=>m=b/\K (fun _ _=>if mx.isSome then .cs (cut es a (b-a)) else .tr (.sl (cut es a (b-a))),fun _ _=>[])) fun a=>?_)
   refine ZV (bndI_rel (ρ:=ρ) (x:=hi) (n:=es.length)) (U:=fun b (K:MO->Prop)=>a<=b/\b<=es.length/\ZI ρ mx b fun m=>m=b/\K (fun _ _=>if mx.isSome then .cs (cut es a (b-a)) else .tr (.sl (cut es a (b-a))),fun _ _=>[])) fun b=>?_
   exact Zv (Zv (ZV (bndI_rel (ρ:=ρ) (x:=mx) (n:=b)) (U:=fun m (K:MO->Prop)=>m=b/\K (fun _ _=>if mx.isSome then .cs (cut es a (b-a)) else .tr (.sl (cut es a (b-a))),fun _ _=>[])) fun m=>Zv (ZN _)))
  ·rename_i es _
   refine Zv (ZV (bndI_rel (ρ:=ρ) (x:=lo) (n:=0)) (U:=fun a (K:MO->Prop)=>ZI ρ hi es.length fun b=>a<=b/\b<=es.length/\ZI ρ mx b fun m=>m=b/\K (fun _ _=>if mx.isSome || hi.isNone then .cs (cut es a (b-a)) else .tr (.sl (cut es a (b-a))),fun _ _=>[])) fun a=>?_)
   refine ZV (bndI_rel (ρ:=ρ) (x:=hi) (n:=es.length)) (U:=fun b (K:MO->Prop)=>a<=b/\b<=es.length/\ZI ρ mx b fun m=>m=b/\K (fun _ _=>if mx.isSome || hi.isNone then .cs (cut es a (b-a)) else .tr (.sl (cut es a (b-a))),fun _ _=>[])) fun b=>?_
   exact Zv (Zv (ZV (bndI_rel (ρ:=ρ) (x:=mx) (n:=b)) (U:=fun m (K:MO->Prop)=>m=b/\K (fun _ _=>if mx.isSome || hi.isNone then .cs (cut es a (b-a)) else .tr (.sl (cut es a (b-a))),fun _ _=>[])) fun m=>Zv (ZN _)))
  ·exact ZX
 case a3 k x y =>
  simp only[ev,Zx]
  split
  ·rename_i zs _
   exact ZV (QZ (S:=L) (x:=ρ y)) (U:=fun items (K:MO->Prop)=>items≠[]/\ScR items/\Zu k zs/\Zu k items/\zs.length+items.length<=bigN/\K (fun _ _=>.tr (.sl (zs++items)),fun _ _=>[])) fun items=>Zv (Zv (Zv (Zv (Zv (ZN _)))))
  ·exact ZX
 case ss x lo hi =>
  simp only[ev,Zx]
  split
  ·rename_i s _
   refine ZV (bndI_rel (ρ:=ρ) (x:=lo) (n:=0)) (U:=fun a (K:MO->Prop)=>ZI ρ hi s.size fun b=>a<=b/\b<=s.size/\K (fun _ _=>iS (s.extract a b),fun _ _=>[])) fun a=>?_
   exact ZV (bndI_rel (ρ:=ρ) (x:=hi) (n:=s.size)) (U:=fun b (K:MO->Prop)=>a<=b/\b<=s.size/\K (fun _ _=>iS (s.extract a b),fun _ _=>[])) fun b=>Zv (Zv (ZN _))
  ·exact ZX
 case ca m imp f xs =>
  cases m <;> simp only[ev] <;> try exact ZX
  rotate_left
  ·split
   ·exact QY fun r=>Zv (ZN _)
   ·exact ZX
  split
  ·rename_i caps _
   refine ZV (Zah (L:=L) (xs.map ρ++caps)) (U:=fun args (K:MO->Prop)=>∃ r,_/\_/\K (fun l b=>(impv imp l b 0 r).1,fun l b=>(impv imp l b 0 r).2)) fun args=>QY fun r=>Zv (Zv (ZN _))
  ·exact ZX
 case lb m p q =>
  cases m <;> (
   simp only[ev,Zx]
   refine Zv ?_
   repeat' first | exact ZX | exact ZN _ | refine Zv ?_ | (refine QY fun _=>?_) | split)
 all_goals
  (try cases ‹Option Nat›)
  all_goals
   simp only[ev,Zx,Jr]
   repeat' first | exact ZX | exact ZN _ | refine Zv ?_ | (refine QY fun _=>?_) | split
abbrev Zai(L L':Zc)(id:Zd):Prop:=∀ ob,L id=some ob->L' id=some ob
abbrev ZfD(L L':Zc)(id:Zd):Prop:=Zai L L' id/\∀ cells,L id=some (.bx cells)->Za (Zai L L') cells
abbrev Qq(L L':Zc)(x:IV):Prop:=men (ZfD L L') x
abbrev Xs(L L':Zc)(x:List IV):Prop:=Za (ZfD L L') x
mutual
theorem ZlL{P Q R:Zd->Prop}(h:∀ i,P i->Q i->R i):∀(x:IV),men P x->men Q x->men R x
 | .hd ..,a,b=>h _ a b
 | .ab ..,a,b=>h _ a b
 | .ae ..,a,b=>h _ a b
 | .sv ..,a,b=>h _ a b
 | .ag l,a,b=>by simp only[men] at *;exact WM h l a b
 | .tu l,a,b=>by simp only[men] at *;exact WM h l a b
 | .fn _ l,a,b=>by simp only[men] at *;exact WM h l a b
 | .un,_,_=>trivial
 | .tr _,_,_=>trivial
 | .cs _,_,_=>trivial
 | .ta _,_,_=>trivial
 | .ow ..,_,_=>trivial
 | .er,_,_=>trivial
theorem WM{P Q R:Zd->Prop}(h:∀ i,P i->Q i->R i):∀(x:List IV),Za P x->Za Q x->Za R x
 | [],_,_=>trivial
 | x::r,a,b=>⟨ZlL h x a.1 b.1,WM h r a.2 b.2⟩
end
variable {ρ':X->IV} {L':Zc}
theorem ZlM{S:Zc}{l:Nat}(xs:List IV)(h:Xs L L' xs)(hS:Za (Ul L' S l) xs):Za (Ul L S l) xs :=
 WM (fun _ a b=>⟨⟨b.1.1,fun ob ho=>b.1.2 ob (a.1 ob ho)⟩,fun cells hc=>WM (fun _ c d=>⟨d.1,fun ob ho=>d.2 ob (c ob ho)⟩) cells (a.2 cells hc) (b.2 cells (a.1 _ hc))⟩) xs h hS
theorem Xt{id:Zd}{p:Ze}{st:Nat}{K K':Row->Bool->Nat->Prop}(hs:∀ ob,L id=some ob->L' id=some ob)(hk:∀ a b c,K a b c->K' a b c)(h:Jr L id p st K):Jr L' id p st K':=by
 unfold Jr at *
 split at h
 ·rename_i k es u hw ver hl
  rw[hs _ hl]
  obtain⟨es',h1,h2,h3⟩:=h
  exact⟨es',h1,h2,hk _ _ _ h3⟩
 ·exact h.elim
theorem ZfE{Q:Zd->Prop}:∀(n:Nat) {l:List IV},Za Q l->Za Q (l.drop n)
 | 0,_,h=>h
 | n+1,[],h=>h
 | n+1,x::r,h=>ZfE n h.2
theorem ZfF:∀(l:List IV) {K K':List Tr->Prop},Za (Zai L L') l->(∀ y,K y->K' y)->Ya L l K->Ya L' l K'
 | [],_,_,_,hk,h=>hk _ h
 | x::r,K,K',hs,hk,h=>by
  simp only[Ya] at *
  have go:∀ t,(Ya L r fun ts=>K (t::ts))->Ya L' r fun ts=>K' (t::ts):=fun t h=>ZfF r hs.2 (fun _ h=>hk _ h) h
  cases x with
  | tr t=>exact go t h
  | cs es=>exact go _ h
  | hd id p off len c st=>simp only[Y1] at *;exact Xt hs.1 (fun _ _ _ h=>⟨h.1,go _ h.2⟩) h
  | _=>simp only[Y1] at h
mutual
theorem ZlN:∀(x:IV) {K K':IV->Prop},Qq L L' x->(∀ y,K y->K' y)->ZQ L x K->ZQ L' x K'
 | .un,_,_,_,hk,h=>by simp only[ZQ] at *;exact hk _ h
 | .tr t,_,_,_,hk,h=>by simp only[ZQ] at *;exact hk _ h
 | .cs es,_,_,_,hk,h=>by simp only[ZQ] at *;exact hk _ h
 | .hd id p off len c st,_,_,hs,hk,h=>by simp only[ZQ] at *;exact Xt hs.1 (fun _ _ _ h=>⟨h.1,hk _ h.2⟩) h
 | .ag l,_,_,hs,hk,h=>by simp only[ZQ,Qq,men] at *;exact Zaj l hs (fun _ h=>hk _ h) h
 | .fn f c,_,_,hs,hk,h=>by simp only[ZQ,Qq,men] at *;exact Zaj c hs (fun _ h=>hk _ h) h
 | .er,_,_,_,hk,h=>by simp only[ZQ] at *;exact hk _ h
 | .ab id off,_,_,hs,hk,h=>by
  simp only[ZQ,QH] at *
  split at h <;> try contradiction
  rename_i cells hq
  rw[hs.1 _ hq]
  exact ZfF _ (ZfE off (hs.2 _ hq)) (fun _ h=>hk _ h) h
 | .sv _,_,_,_,_,h=>by simp only[ZQ] at h
 | .ae ..,_,_,_,_,h=>by simp only[ZQ] at h
 | .ta c,_,_,_,hk,h=>by simp only[ZQ] at *;exact hk _ h
 | .tu ..,_,_,_,_,h=>by simp only[ZQ] at h
 | .ow ..,_,_,_,_,h=>by simp only[ZQ] at h
theorem Zaj:∀(l:List IV) {K K':List IV->Prop},Xs L L' l->(∀ y,K y->K' y)->ZM L l K->ZM L' l K'
 | [],_,_,_,hk,h=>by simp only[ZM] at *;exact hk _ h
 | x::r,_,_,hs,hk,h=>by simp only[ZM,Xs,Za] at *;exact ZlN x hs.1 (fun _ h=>Zaj r hs.2 (fun _ h=>hk _ h) h) h
end
theorem ZfG{n:Nat}:∀{ps:List (Nat×Nat×X)},(∀ x∈ps.map (·.2.2),ρ' x=ρ x)->okp ρ n ps->okp ρ' n ps
 | [],_,_=>trivial
 | (off,m,x)::r,hp,h=>by
  simp only[okp] at *
  rw[hp x (by simp)]
  exact⟨h.1,h.2.1,ZfG (fun y hy=>hp y (by simp at hy ⊢;exact .inr hy)) h.2.2⟩
theorem ZfH:∀{ps:List (Nat×Nat×X)} {cs:List IV},(∀ x∈ps.map (·.2.2),ρ' x=ρ x)->fpart ρ' ps cs=fpart ρ ps cs
 | [],_,_=>rfl
 | (off,m,x)::r,cs,hp=>by
  simp only[fpart]
  rw[hp x (by simp)]
  exact ZfH (fun y hy=>hp y (by simp at hy ⊢;exact .inr hy))
theorem ZfI{k:Nat}{K:Row->Bool->Prop}:∀{ps:List (Nat×X)} {es:Row} {u:Bool},(∀ x∈ps.map (·.2),ρ' x=ρ x)->YG ρ k ps es u K->YG ρ' k ps es u K
 | [],_,_,_,h=>h
 | (i,x)::r,es,u,hp,h=>by
  simp only[YG] at *
  rw[hp x (by simp)]
  split at h <;> try contradiction
  split at h <;> try contradiction
  exact⟨h.1,h.2.1,ZfI (fun y hy=>hp y (by simp at hy ⊢;exact .inr hy)) h.2.2⟩
theorem Y6{x:Option X}{n:Nat}(hp:∀ y∈x.toList,ρ' y=ρ y):ZI ρ' x n=ZI ρ x n:=by
 cases x with
 | none=>rfl
 | some x=>funext K;simp only[ZI];rw[hp x (by simp)]
theorem ZfJ{id:Zd}{p:Ze}{k:Nat}(hs:∀ ob,L id=some ob->L' id=some ob)(h:Js L id p k):Js L' id p k:=by
 unfold Js at *
 split at h
 ·rename_i hl;rw[hs _ hl];exact h
 ·exact h.elim
theorem Zcn{S S':Zc}{x:IV}{F F':Row->Prop}(hS:men (fun id=>∀ ob,S id=some ob->S' id=some ob) x)(hF:∀ r,F r->F' r)(h:YH S x F):YH S' x F':=by
 unfold YH at h ⊢
 split at h <;> try contradiction
 ·exact hF _ h
 ·exact hF _ h
 ·exact Xt hS (fun _ _ _ h=>⟨h.1,hF _ h.2⟩) h
theorem ZlO{K:JI}:∀(o:O),(∀ x∈rd o,ρ' x=ρ x)->(∀ x∈rd o,Qq L L' (ρ x))->ev C ρ L K o->ev C ρ' L' K o:=by
 intro o hp hs h
 cases o
 case ld m p =>
  have h1:=hp p (by simp [rd])
  have h2:=hs p (by simp [rd])
  cases m <;> simp only[ev] at h ⊢ <;> rw[h1] <;> split at h <;> try contradiction
  ·exact h
  ·rename_i hq
   rw[hq] at h2
   split at h <;> try contradiction
   rename_i hl
   rw[h2.1 _ hl];exact h
  ·rename_i hq
   rw[hq] at h2
   exact Xt h2.1 (fun _ _ _ h=>h) h
  ·exact h
  ·rename_i hq
   rw[hq] at h2
   split at h <;> try contradiction
   rename_i hl
   rw[h2.1 _ hl];exact h
  ·rename_i hq
   rw[hq] at h2
   exact Xt h2.1 (fun _ _ _ h=>h) h
 case sx k x lo hi mx =>
  have h1:=hp x (by simp [rd])
  have h2:=hs x (by simp [rd])
  have hlo:=fun n=>Y6 (ρ:=ρ) (ρ':=ρ') (x:=lo) (n:=n) (fun y hy=>hp y (by simp [rd] at hy ⊢;exact .inr (.inl hy)))
  have hhi:=fun n=>Y6 (ρ:=ρ) (ρ':=ρ') (x:=hi) (n:=n) (fun y hy=>hp y (by simp [rd] at hy ⊢;exact .inr (.inr (.inl hy))))
  have hmx:=fun n=>Y6 (ρ:=ρ) (ρ':=ρ') (x:=mx) (n:=n) (fun y hy=>hp y (by simp [rd] at hy ⊢;exact .inr (.inr (.inr hy))))
  simp only[ev] at h ⊢
  simp only[hlo,hhi,hmx]
  rw[h1]
  split at h <;> try contradiction
  ·exact h
  ·exact h
  ·rename_i hq
   rw[hq] at h2
   exact bndI_rel.mono (fun a h=>bndI_rel.mono (fun b h=>⟨h.1,h.2.1,bndI_rel.mono (fun m h=>⟨h.1,h.2.1,ZfJ h2.1 h.2.2.1,h.2.2.2⟩) h.2.2⟩) h) h
 case sw k x lo hi mx =>
  have h1:=hp x (by simp [rd])
  have h2:=hs x (by simp [rd])
  have hlo:=fun n=>Y6 (ρ:=ρ) (ρ':=ρ') (x:=lo) (n:=n) (fun y hy=>hp y (by simp [rd] at hy ⊢;exact .inr (.inl hy)))
  have hhi:=fun n=>Y6 (ρ:=ρ) (ρ':=ρ') (x:=hi) (n:=n) (fun y hy=>hp y (by simp [rd] at hy ⊢;exact .inr (.inr (.inl hy))))
  have hmx:=fun n=>Y6 (ρ:=ρ) (ρ':=ρ') (x:=mx) (n:=n) (fun y hy=>hp y (by simp [rd] at hy ⊢;exact .inr (.inr (.inr hy))))
  simp only[ev] at h ⊢
  simp only[hlo,hhi,hmx]
  rw[h1]
  split at h <;> try contradiction
  ·exact h
  ·exact h
  ·rename_i hq
   rw[hq] at h2
   exact⟨ZfJ h2.1 h.1,h.2⟩
 case sy k x lo hi mx =>
  have h1:=hp x (by simp [rd])
  have hlo:=fun n=>Y6 (ρ:=ρ) (ρ':=ρ') (x:=lo) (n:=n) (fun y hy=>hp y (by simp [rd] at hy ⊢;exact .inr (.inl hy)))
  have hhi:=fun n=>Y6 (ρ:=ρ) (ρ':=ρ') (x:=hi) (n:=n) (fun y hy=>hp y (by simp [rd] at hy ⊢;exact .inr (.inr (.inl hy))))
  have hmx:=fun n=>Y6 (ρ:=ρ) (ρ':=ρ') (x:=mx) (n:=n) (fun y hy=>hp y (by simp [rd] at hy ⊢;exact .inr (.inr (.inr hy))))
  simp only[ev] at h ⊢
  simp only[hlo,hhi,hmx]
  rw[h1]
  split at h <;> try contradiction
  ·exact h
  ·exact h
 case a3 k x y =>
  have h1:=hp x (by simp [rd])
  have h2:=hp y (by simp [rd])
  have h3:=hs y (by simp [rd])
  simp only[ev] at h ⊢
  rw[h1,h2]
  split at h <;> try contradiction
  exact Zcn (Jw (fun _ g=>g.1) _ h3) (fun _ g=>g) h
 case sb x =>
  have h1:=hp x (by simp [rd])
  have h2:=hs x (by simp [rd])
  simp only[ev] at h ⊢
  rw[h1]
  split at h <;> try contradiction
  ·exact h
  ·exact h
  ·rename_i hq
   rw[hq] at h2
   exact Xt h2.1 (fun _ _ _ h=>h) h
 case ss x lo hi =>
  have h1:=hp x (by simp [rd])
  have hlo:=fun n=>Y6 (ρ:=ρ) (ρ':=ρ') (x:=lo) (n:=n) (fun y hy=>hp y (by simp [rd] at hy ⊢;exact .inr (.inl hy)))
  have hhi:=fun n=>Y6 (ρ:=ρ) (ρ':=ρ') (x:=hi) (n:=n) (fun y hy=>hp y (by simp [rd] at hy ⊢;exact .inr (.inr hy)))
  simp only[ev] at h ⊢
  simp only[hlo,hhi]
  rw[h1];exact h
 case ia k x i =>
  have h1:=hp x (by simp [rd])
  have h2:=hs x (by simp [rd])
  have h3:=hp i (by simp [rd])
  simp only[ev] at h ⊢
  rw[h1,h3]
  split at h <;> try contradiction
  refine⟨h.1,?_⟩
  have h:=h.2
  split at h <;> try contradiction
  ·exact h
  ·exact h
  ·rename_i hq
   rw[hq] at h2
   exact Xt h2.1 (fun _ _ _ h=>h) h
 case ca m imp f xs =>
  have h1:=hp f (by simp [rd])
  have h3:xs.map ρ'=xs.map ρ:=Ubg fun x hx=>hp x (by simp [rd,hx])
  have h2:Xs L L' (xs.map ρ):=by
   have:∀ x∈xs,Qq L L' (ρ x):=fun x hx=>hs x (by simp [rd,hx])
   clear h3 h1 hp hs h
   induction xs with
   | nil=>trivial
   | cons y r ih=>exact⟨this y (by simp),ih fun x hx=>this x (by simp [hx])⟩
  cases m <;> simp only[ev] at h ⊢
  rotate_left
  ·have h4:=hs f (by simp [rd])
   rw[h1,h3]
   split at h <;> try contradiction
   rename_i fid caps hq
   rw[hq] at h4
   have h4:Xs L L' caps:=by simpa only[Qq,men] using h4
   have h5:Xs L L' (xs.map ρ++caps):=by
    clear h h3 h1 hp hs
    induction xs with
    | nil=>exact h4
    | cons y r ih=>exact⟨h2.1,ih h2.2⟩
   obtain⟨r,hr,hk⟩:=h
   exact⟨r,fun l S hS=>hr l S (ZlM _ h5 hS),hk⟩
  have h4:=hs f (by simp [rd])
  rw[h1,h3]
  split at h <;> try contradiction
  rename_i fid caps hq
  rw[hq] at h4
  have h4:Xs L L' caps:=by simpa only[Qq,men] using h4
  have h5:Xs L L' (xs.map ρ++caps):=by
   clear h h3 h1 hp hs
   induction xs with
   | nil=>exact h4
   | cons y r ih=>exact⟨h2.1,ih h2.2⟩
  exact Zaj _ h5 (fun _ h=>h) h
 case lb m p q =>
  have h1:=hp p (by simp [rd])
  have h2:=hs p (by simp [rd])
  have h3:Y3 ρ' p q↔Y3 ρ p q:=Zck fun x hx=>hp x (by simpa [rd] using hx)
  cases m <;> (
   simp only[ev] at h ⊢
   rw[h1,h3]
   refine⟨h.1,?_⟩
   replace h:=h.2
   split at h <;> try contradiction
   rename_i hq
   rw[hq] at h2
   split at h <;> try contradiction
   rename_i hb
   rw[h2.1 _ hb]
   exact h)
 case bd z ps nz =>
  simp only[ev] at h ⊢
  have hh:∀ x∈ps.map (·.2.2),ρ' x=ρ x:=hp
  refine⟨ZfG hh h.1,?_⟩
  simp only[ZfH hh]
  exact h.2
 case bs k n z ps =>
  simp only[ev] at h ⊢
  exact ZfI (fun x hx=>hp x hx) h
 case mf g cs =>
  have h3:cs.map ρ'=cs.map ρ:=Ubg fun x hx=>hp x (by simp [rd,hx])
  simp only[ev] at h ⊢
  rw[h3];exact h
 case bv k n z ps =>
  simp only[ev] at h ⊢
  split at h <;> try contradiction
  rename_i x
  have h1:=hp x (by simp [rd])
  rw[h1];exact h
 all_goals
  (try cases ‹Option Nat›)
  all_goals
   first
    | (simp only[ev] at h;done)
    | (
      simp only[ev] at h ⊢
      simp only[rd,UaP,List.not_mem_nil,or_false,forall_eq_or_imp,forall_eq,false_implies,implies_true] at hp
      first | exact h | (rw[hp];exact h) | (rw[hp.1,hp.2];exact h) | (rw[hp.1,hp.2.1,hp.2.2];exact h))
theorem Zak{x:IV}:Rel (Wx x):=by
 unfold Wx
 split
 ·exact ZN _
 ·exact ZN _
 ·exact ZX
theorem Zal{S:Zc}{x:IV}:Rel (XR S x):=by
 unfold XR
 split
 ·split
  ·exact Zv (Zv (ZN _))
  ·exact ZX
 ·exact ZX
theorem Zam{p:Ze}{i:Nat}:∀(l:List IV) (f:Nat) (es:Row),Rel (VW p i f l es)
 | [],f,es=>Jb (fun _=>by simp only[VW]) (ZN es)
 | x::r,f,es=>by
  refine Jb (fun K=>by simp only[VW];exact Ubp) ?_
  refine QY fun es' => Zv (QY fun e=>Zv (QY fun t0=>Zv (Zv ?_)))
  split
  ·exact Zam r (f+1) _
  ·exact ZX
theorem Zan{ρ:X->IV}{S:Zc}:∀(o:O),Rel (fun K:IV×Zd×Ob->Prop=>Ji ρ S (fun v id ob=>K (v,id,ob)) o):=by
 intro o
 cases o <;> simp only[Ji] <;> try exact ZX
 ·rename_i m p x
  split
  ·rename_i l _
   refine Zv ?_
   split
   ·rename_i id off _
    split
    ·exact Zv (Zv (ZN _))
    ·exact ZX
   ·rename_i id p i f s _
    split
    ·rename_i k es u hw ver _
     exact Zv (Zv (ZV (Zam (p:=p) (i:=i) l f es) (U:=fun es' (K:IV×Zd×Ob->Prop)=>K (.tu [],id,.ar k es' u hw ver)) fun _=>ZN _))
    ·exact ZX
   ·exact ZX
  ·exact ZX
 ·rename_i k x y
  split
  ·rename_i id len s _
   split
   ·rename_i k' es u hw ver _
    exact Zv (Zv (Zv (ZV (QZ (S:=S) (x:=ρ y)) (U:=fun items (K:IV×Zd×Ob->Prop)=>ScR items/\Zu k items/\len+items.length<=bigN/\K (.hd id [] 0 (len+items.length) none (max hw (len+items.length)),id,.ar k (es++items) u (max hw (len+items.length)) ver)) fun _=>Zv (Zv (Zv (ZN _))))))
   ·exact ZX
  ·exact ZX
 ·rename_i k x y
  split
  ·rename_i id len s _
   split
   ·rename_i k' es u hw ver _
    exact Zv (Zv (Zv (ZV (Zak (x:=ρ y)) (U:=fun items (K:IV×Zd×Ob->Prop)=>Zu k items/\len+items.length<=bigN/\K (.hd id [] 0 (len+items.length) none (max hw (len+items.length)),id,.ar k (es++items) false (max hw (len+items.length)) ver)) fun _=>Zv (Zv (ZN _)))))
   ·exact ZX
  ·exact ZX
 ·rename_i k x y
  split
  ·rename_i id off len cap s _
   split
   ·rename_i k2 es u hw ver _
    exact Zv (Zv (Zv (Zv (ZV (QZ (S:=S) (x:=ρ y)) (U:=fun zs (K:IV×Zd×Ob->Prop)=>ScR zs/\Zu k zs/\K (iI (min zs.length len:Nat),id,.ar k (es.take off++zs.take len++es.drop (off+min zs.length len)) u hw (ver+1))) fun _=>Zv (Zv (ZN _))))))
   ·exact ZX
  ·exact ZX
 ·rename_i k x y
  split
  ·rename_i id len s _
   split
   ·rename_i k' es u hw ver _
    exact Zv (Zv (Zv (ZV (Zal (S:=S) (x:=ρ y)) (U:=fun items (K:IV×Zd×Ob->Prop)=>Zu k items/\len+items.length<=bigN/\K (.hd id [] 0 (len+items.length) none (max hw (len+items.length)),id,.ar k (es++items) false (max hw (len+items.length)) ver)) fun _=>Zv (Zv (ZN _)))))
   ·exact ZX
  ·exact ZX
theorem ZfK{S S':Zc}{x:IV}{F F':Row->Prop}(hS:∀ id ob,S id=some ob->S' id=some ob)(hF:∀ r,F r->F' r)(h:YH S x F):YH S' x F':=by
 unfold YH at h ⊢
 split at h <;> try contradiction
 ·exact hF _ h
 ·exact hF _ h
 ·exact Xt (hS _) (fun _ _ _ h=>⟨h.1,hF _ h.2⟩) h
theorem ZfL{S S':Zc}{x:IV}{F F':Row->Prop}(hS:men (fun id=>∀ ob,S id=some ob->S' id=some ob) x)(hF:∀ r,F r->F' r)(h:XR S x F):XR S' x F':=by
 unfold XR at h ⊢
 split at h <;> try contradiction
 split at h <;> try contradiction
 rename_i hs
 simp only[hS _ hs]
 exact⟨h.1,h.2.1,hF _ h.2.2⟩
theorem Zco{ρ ρ':X->IV}{S S':Zc}{K:IV->Zd->Ob->Prop}:∀(o:O),(∀ x∈rd o,ρ' x=ρ x)->(∀ id ob,S id=some ob->S' id=some ob)->Ji ρ S K o->Ji ρ' S' K o:=by
 intro o hp hS h
 cases o <;> simp only[Ji] at h ⊢ <;> try exact h
 ·rename_i m p x
  rw[hp p (by simp [rd]),hp x (by simp [rd])]
  split at h <;> try contradiction
  refine⟨h.1,?_⟩
  have h:=h.2
  split at h <;> try contradiction
  ·split at h <;> try contradiction
   rename_i hs
   rw[hS _ _ hs];exact h
  ·split at h <;> try contradiction
   rename_i hs
   rw[hS _ _ hs];exact h
 ·rename_i k x y
  rw[hp x (by simp [rd]),hp y (by simp [rd])]
  split at h <;> try contradiction
  split at h <;> try contradiction
  rename_i hs
  rw[hS _ _ hs]
  exact⟨h.1,h.2.1,h.2.2.1,ZfK hS (fun _ h=>h) h.2.2.2⟩
 ·rename_i k x y
  rw[hp x (by simp [rd]),hp y (by simp [rd])]
  split at h <;> try contradiction
  split at h <;> try contradiction
  rename_i hs
  rw[hS _ _ hs]
  exact h
 ·rename_i k x y
  rw[hp x (by simp [rd]),hp y (by simp [rd])]
  split at h <;> try contradiction
  split at h <;> try contradiction
  rename_i hs
  rw[hS _ _ hs]
  exact⟨h.1,h.2.1,h.2.2.1,h.2.2.2.1,ZfK hS (fun _ h=>h) h.2.2.2.2⟩
 ·rename_i k x y
  rw[hp x (by simp [rd]),hp y (by simp [rd])]
  split at h <;> try contradiction
  split at h <;> try contradiction
  rename_i hs
  rw[hS _ _ hs]
  exact⟨h.1,h.2.1,h.2.2.1,ZfL (Jw (fun i _=>hS i) _ (X0 _)) (fun _ h=>h) h.2.2.2⟩
theorem Zao{ρ:X->IV}{S:Zc}{v:IV}{id:Zd}{ob:Ob}:∀(o:O),Ji ρ S (fun v' id' ob' => v'=v/\id'=id/\ob'=ob) o->(S id).isSome=true:=by
 intro o h
 obtain⟨⟨v',id',ob'⟩,⟨rfl,rfl,rfl⟩,h2⟩:=(Zan (ρ:=ρ) (S:=S) o).ex (K:=fun r=>r.1=v/\r.2.1=id/\r.2.2=ob) h
 clear h
 cases o <;> simp only[Ji] at h2 <;> try contradiction
 ·split at h2 <;> try contradiction
  have h:=h2.2
  split at h <;> try contradiction
  ·split at h <;> try contradiction
   rename_i hs
   have:=congrArg (fun r:IV×Zd×Ob=>r.2.1) h.2.2
   simp only at this
   rw[<-this,hs];rfl
  ·rename_i id0 p i f s _
   split at h <;> try contradiction
   rename_i k es u hw ver hs
   obtain⟨es',h3,_⟩:=(Zam (p:=p) (i:=i) _ f es).ex h.2.2
   have:=congrArg (fun r:IV×Zd×Ob=>r.2.1) h3
   simp only at this
   rw[<-this,hs];rfl
 ·split at h2 <;> try contradiction
  split at h2 <;> try contradiction
  rename_i hs
  obtain⟨items,h3,_⟩:=(QZ).ex h2.2.2.2
  have:=congrArg (fun r:IV×Zd×Ob=>r.2.1) h3.2.2.2
  simp only at this
  rw[<-this,hs];rfl
 ·split at h2 <;> try contradiction
  split at h2 <;> try contradiction
  rename_i hs
  obtain⟨items,h3,_⟩:=(Zak).ex h2.2.2.2
  have:=congrArg (fun r:IV×Zd×Ob=>r.2.1) h3.2.2
  simp only at this
  rw[<-this,hs];rfl
 ·split at h2 <;> try contradiction
  split at h2 <;> try contradiction
  rename_i hs
  obtain⟨items,h3,_⟩:=(QZ).ex h2.2.2.2.2
  have:=congrArg (fun r:IV×Zd×Ob=>r.2.1) h3.2.2
  simp only at this
  rw[<-this,hs];rfl
 ·split at h2 <;> try contradiction
  split at h2 <;> try contradiction
  rename_i hs
  obtain⟨items,h3,_⟩:=(Zal).ex h2.2.2.2
  have:=congrArg (fun r:IV×Zd×Ob=>r.2.1) h3.2.2
  simp only at this
  rw[<-this,hs];rfl
def lfree:O->Bool
 | .mv _ none | .bi .. | .nt _ | .ng _ | .cv .. | .ex .. | .pk .. | .mm .. | .lg _ | .la _ | .ss .. | .ix .. | .bs .. | .fd .. | .jx .. | .qa .. | .fa .. | .ja .. | .ln _ | .nc _ | .sy .. | .lt .. | .it .. | .mf .. | .al .. | .ms .. | .bd .. | .bv .. => true
 | _=>false
theorem UJ{o:O}(h:lfree o=true):Jh o=false:=by
 cases o <;> first | rfl | cases h | (simp [lfree] at h)
theorem ZlP{ρ:X->IV}{L L':Zc}{K:JI}:∀(o:O),lfree o=true->ev C ρ L K o->ev C ρ L' K o:=by
 intro o hl h
 cases o
 case mv x n=>cases n <;> first | (simp only[ev] at h ⊢;exact h) | cases hl
 case fd off m x=>cases m <;> (simp only[ev] at h ⊢;exact h)
 case lt m x=>cases m <;> (simp only[ev] at h ⊢;exact h)
 case jx k n m x i=>cases m <;> (simp only[ev] at h ⊢;exact h)
 all_goals first | (cases hl;done) | (simp only[ev] at h ⊢;exact h)
def wfr:O->Bool
 | .sw .. => true
 | _=>false
theorem ZfM{o:O}(h:wfr o=true):Jh o=false:=by
 cases o <;> first | rfl | cases h
theorem ZlQ{ρ ρ':X->IV}{L L':Zc}{K:JI}:∀(o:O),wfr o=true->(∀ x∈rd o,ρ' x=ρ x)->(∀ x∈rd o,men (fun i=>∀ k,Js L i [] k->Js L' i [] k) (ρ x))->ev C ρ L K o->ev C ρ' L' K o:=by
 intro o ho hp hs h
 cases o
 case sw k x lo hi mx =>
  have h1:=hp x (by simp [rd])
  have h2:=hs x (by simp [rd])
  have hlo:=fun n=>Y6 (ρ:=ρ) (ρ':=ρ') (x:=lo) (n:=n) (fun y hy=>hp y (by simp [rd] at hy ⊢;exact .inr (.inl hy)))
  have hhi:=fun n=>Y6 (ρ:=ρ) (ρ':=ρ') (x:=hi) (n:=n) (fun y hy=>hp y (by simp [rd] at hy ⊢;exact .inr (.inr (.inl hy))))
  have hmx:=fun n=>Y6 (ρ:=ρ) (ρ':=ρ') (x:=mx) (n:=n) (fun y hy=>hp y (by simp [rd] at hy ⊢;exact .inr (.inr (.inr hy))))
  simp only[ev] at h ⊢
  simp only[hlo,hhi,hmx]
  rw[h1]
  split at h <;> try contradiction
  ·exact h
  ·exact h
  ·rename_i hq
   rw[hq] at h2
   exact⟨h2 _ h.1,h.2⟩
 all_goals cases ho
theorem ZlR{ρ ρ':X->IV}{S S':Zc}{K:IV->Zd->Ob->Prop}:∀(o:O),(∀ x∈rd o,ρ' x=ρ x)->(∀ x∈rd o,men (fun id=>∀ ob,S id=some ob->S' id=some ob) (ρ x))->Ji ρ S K o->Ji ρ' S' K o:=by
 intro o hp hS h
 cases o <;> simp only[Ji] at h ⊢ <;> try exact h
 ·rename_i m p x
  have m1:=hS p (by simp [rd])
  rw[hp p (by simp [rd]),hp x (by simp [rd])]
  split at h <;> try contradiction
  refine⟨h.1,?_⟩
  have h:=h.2
  split at h <;> try contradiction
  ·rename_i hq
   rw[hq] at m1
   split at h <;> try contradiction
   rename_i hs
   rw[m1 _ hs];exact h
  ·rename_i hq
   rw[hq] at m1
   split at h <;> try contradiction
   rename_i hs
   rw[m1 _ hs];exact h
 ·rename_i k x y
  have m1:=hS x (by simp [rd])
  have m2:=hS y (by simp [rd])
  rw[hp x (by simp [rd]),hp y (by simp [rd])]
  split at h <;> try contradiction
  rename_i hq
  rw[hq] at m1
  split at h <;> try contradiction
  rename_i hs
  rw[m1 _ hs]
  exact⟨h.1,h.2.1,h.2.2.1,Zcn m2 (fun _ h=>h) h.2.2.2⟩
 ·rename_i k x y
  have m1:=hS x (by simp [rd])
  rw[hp x (by simp [rd]),hp y (by simp [rd])]
  split at h <;> try contradiction
  rename_i hq
  rw[hq] at m1
  split at h <;> try contradiction
  rename_i hs
  rw[m1 _ hs]
  exact h
 ·rename_i k x y
  have m1:=hS x (by simp [rd])
  have m2:=hS y (by simp [rd])
  rw[hp x (by simp [rd]),hp y (by simp [rd])]
  split at h <;> try contradiction
  rename_i hq
  rw[hq] at m1
  split at h <;> try contradiction
  rename_i hs
  rw[m1 _ hs]
  exact⟨h.1,h.2.1,h.2.2.1,h.2.2.2.1,Zcn m2 (fun _ h=>h) h.2.2.2.2⟩
 ·rename_i k x y
  have m1:=hS x (by simp [rd])
  have m2:=hS y (by simp [rd])
  rw[hp x (by simp [rd]),hp y (by simp [rd])]
  split at h <;> try contradiction
  rename_i hq
  rw[hq] at m1
  split at h <;> try contradiction
  rename_i hs
  rw[m1 _ hs]
  exact⟨h.1,h.2.1,h.2.2.1,ZfL m2 (fun _ h=>h) h.2.2.2⟩
theorem ZlS{ρ:X->IV}{S:Zc}{v:IV}{id:Zd}{ob:Ob}:∀(o:O),Ji ρ S (fun v' id' ob' => v'=v/\id'=id/\ob'=ob) o->∀ i k,Js (Zf S id ob) i [] k->Js S i [] k:=by
 intro o h i k hw
 unfold Js Zf at hw
 unfold Js
 by_cases e:i=id
 ·rw[if_pos e] at hw
  subst e
  cases o <;> simp only[Ji] at h <;> try contradiction
  ·split at h <;> try contradiction
   have h:=h.2
   split at h <;> try contradiction
   ·split at h <;> try contradiction
    obtain⟨_,_,_,h1,h2⟩:=h
    subst h2
    cases hw
   ·split at h <;> try contradiction
    rename_i hs
    obtain⟨_,_,h⟩:=h
    obtain⟨es',h,_⟩:=(Zam ..).ex h
    obtain⟨_,h1,h2⟩:=h
    subst h1 h2
    rw[hs];exact hw
  ·split at h <;> try contradiction
   split at h <;> try contradiction
   rename_i hs
   obtain⟨hk,_,_,h⟩:=h
   obtain⟨items,h,_⟩:=(QZ ..).ex h
   obtain⟨_,_,_,_,h1,h2⟩:=h
   subst h1 h2
   rw[hs]
   exact hk.trans hw
  ·split at h <;> try contradiction
   split at h <;> try contradiction
   rename_i hs
   obtain⟨hk,_,_,h⟩:=h
   obtain⟨items,h,_⟩:=(Zak ..).ex h
   obtain⟨_,_,_,h1,h2⟩:=h
   subst h1 h2
   rw[hs]
   exact hk.trans hw
  ·split at h <;> try contradiction
   split at h <;> try contradiction
   rename_i hs
   obtain⟨hk,_,_,_,h⟩:=h
   obtain⟨items,h,_⟩:=(QZ ..).ex h
   obtain⟨_,_,_,h1,h2⟩:=h
   subst h1 h2
   rw[hs]
   exact hk.trans hw
  ·split at h <;> try contradiction
   split at h <;> try contradiction
   rename_i hs
   obtain⟨hk,_,_,h⟩:=h
   obtain⟨items,h,_⟩:=(Zal ..).ex h
   obtain⟨_,_,_,h1,h2⟩:=h
   subst h1 h2
   rw[hs]
   exact hk.trans hw
 ·rw[if_neg e] at hw
  exact hw
def lbx:O->Bool
 | .lb .. => true
 | _=>false
def Xu:O->Bool
 | .a0 .. | .a1 .. | .a2 .. | .c0 .. => true
 | _=>false
theorem X1{o:O}(h:lbx o=true):Jh o=false:=by
 cases o <;> first | rfl | cases h
theorem ZlT{ρ ρ':X->IV}{L L':Zc}{K:JI}:∀(o:O),lbx o=true->(∀ x∈rd o,ρ' x=ρ x)->(∀ x∈rd o,men (fun i=>∀ cells,L i=some (.bx cells)->L' i=some (.bx cells)) (ρ x))->ev C ρ L K o->ev C ρ' L' K o:=by
 intro o ho hp hs h
 cases o
 case lb m p q =>
  have h1:=hp p (by simp [rd])
  have h2:=hs p (by simp [rd])
  have h3:Y3 ρ' p q↔Y3 ρ p q:=Zck fun x hx=>hp x (by simpa [rd] using hx)
  cases m <;> (
   simp only[ev] at h ⊢
   rw[h1,h3]
   refine⟨h.1,?_⟩
   replace h:=h.2
   split at h <;> try contradiction
   rename_i hq
   rw[hq] at h2
   split at h <;> try contradiction
   rename_i hb
   rw[h2 _ hb]
   exact h)
 all_goals cases ho
theorem ZlU{ρ ρ':X->IV}{L L':Zc}{K:JI}{m:Option Nat}{p:X}{q:Nat}(hp:∀ x∈rd (.lb m p (some q)),ρ' x=ρ x)(hs:∀ i off,ρ p = .ab i off->Y2 (ρ p) (ρ (.t q))->L' i=L i)(h:ev C ρ L K (.lb m p (some q))):ev C ρ' L' K (.lb m p (some q)):=by
 have h1:=hp p (by simp [rd])
 have h3:Y3 ρ' p (some q)↔Y3 ρ p (some q):=Zck fun x hx=>hp x (by simpa [rd] using hx)
 cases m <;> (
  simp only[ev] at h ⊢
  rw[h1,h3]
  refine⟨h.1,?_⟩
  have ha:Y2 (ρ p) (ρ (.t q)):=h.1
  replace h:=h.2
  split at h <;> try contradiction
  rename_i hq
  split at h <;> try contradiction
  rename_i hb
  rw[hs _ _ hq ha,hb]
  exact h)
def YK:O->O->Bool
 | .lb _ _ (some q),.s0 _ (.t q') _=>q == q'
 | _,_=>false
theorem ZfN{a b:O}(h:YK a b=true):∃ m p q m' x,a = .lb m p (some q)/\b = .s0 m' (.t q) x:=by
 unfold YK at h
 split at h
 ·rw[beq_iff_eq] at h;subst h;exact⟨_,_,_,_,_,rfl,rfl⟩
 ·cases h
theorem Zcp{ρ:X->IV}{S:Zc}{v:IV}{id:Zd}{ob:Ob}:∀(o:O),Xu o=true->Ji ρ S (fun v' id' ob' => v'=v/\id'=id/\ob'=ob) o->∀ i cells,(Zf S id ob) i=some (.bx cells)↔S i=some (.bx cells):=by
 intro o ha h i cells
 have key:(∃ k es u hw ver,S id=some (.ar k es u hw ver))/\∃ k es u hw ver,ob = .ar k es u hw ver:=by
  cases o <;> simp only[Ji] at h <;> try (first | contradiction | cases ha)
  ·split at h <;> try contradiction
   split at h <;> try contradiction
   rename_i hs
   obtain⟨items,h,_⟩:=(QZ ..).ex h.2.2.2
   obtain⟨_,_,_,_,h1,h2⟩:=h
   subst h1 h2
   exact⟨⟨_,_,_,_,_,hs⟩,_,_,_,_,_,rfl⟩
  ·split at h <;> try contradiction
   split at h <;> try contradiction
   rename_i hs
   obtain⟨items,h,_⟩:=(Zak ..).ex h.2.2.2
   obtain⟨_,_,_,h1,h2⟩:=h
   subst h1 h2
   exact⟨⟨_,_,_,_,_,hs⟩,_,_,_,_,_,rfl⟩
  ·split at h <;> try contradiction
   split at h <;> try contradiction
   rename_i hs
   obtain⟨items,h,_⟩:=(QZ ..).ex h.2.2.2.2
   obtain⟨_,_,_,h1,h2⟩:=h
   subst h1 h2
   exact⟨⟨_,_,_,_,_,hs⟩,_,_,_,_,_,rfl⟩
  ·split at h <;> try contradiction
   split at h <;> try contradiction
   rename_i hs
   obtain⟨items,h,_⟩:=(Zal ..).ex h.2.2.2
   obtain⟨_,_,_,h1,h2⟩:=h
   subst h1 h2
   exact⟨⟨_,_,_,_,_,hs⟩,_,_,_,_,_,rfl⟩
 obtain⟨⟨k,es,u,hw,ver,h1⟩,k2,es2,u2,hw2,ver2,h2⟩:=key
 unfold Zf
 by_cases e:i=id
 ·subst e
  rw[if_pos rfl,h1,h2]
  constructor <;> (intro h;cases h)
 ·rw[if_neg e]
end
end Go.Fd
