/-
  A VALID BIGRAPH: THE WHOLE, BOTH SIDES. Own work.
-/
import Derived.Test.YtfgceefkblbbjaaGreatDoorT05
import Derived.Shelf.Sort.Plain
set_option linter.all false
namespace Go.Fd
set_option maxRecDepth 20000
theorem Dc(b:TBigraph)(hn:b.inner.length<=4294967296)(lvl:Nat)(S:Sto):Sem Go.Proofs.Tryz.prog Z8 lvl [.ag ((Zc b).map .tr)] S (.ow 1 (rS (inn b)) true) S:=by
 refine Zb U8 trivial ?_
 simp only[Qw,List.length_map,Zc,EVA,seval]
 refine ZH (α:=Unit) b.inner.length (fun j _=>[(3,.hd (lvl,192) [] 0 j none j),(10,iI j)]) (fun j _=>[(192,.ar 1 (rS ((inn b).take j)) true j 0)]) (fun _ _=>True) () (by simp only[EVA,seval]) (by (simp only[EVA,seval]) <;> rfl) trivial ?_
 intro j _ hj _
 have hil:(inn b).length=b.inner.length:=by simp [inn]
 simp only[List.length_map,EVA,seval]
 refine Zk (fun hlt=>?_) (fun hge=>?_)
 ·have hja:j<b.inner.length:=by omega
  have ga:=Db (c:=ZP) hja
  have hlN:(rS ((inn b).take j)).length=j:=by rw[List.length_map,List.length_take];omega
  simp only[ga,ZP,hlN,EVA,seval]
  have hstep:rS ((inn b).take j)++[[ts b.inner[j].name]]=rS ((inn b).take (j+1)):=by
   rw[List.take_succ_eq_append_getElem (by omega),ZhO]
   simp [inn]
  refine⟨by omega,by rw[Zd];omega,Ze () hja ?_ trivial⟩
  rw[<-hstep]
  rfl
 ·have:j=b.inner.length:=by omega
  subst this
  rw[List.take_of_length_le (by omega)]
  exact⟨hil.symm,rfl⟩
def Zmu(sig:List TControl)(b:TBigraph)(i:Nat):Prop:=∀ h:i<b.nodes.length,nodeOK sig b b.nodes[i] i
structure bigOK (sig:List TControl) (b:TBigraph):Prop where
 sg:YI sig
 roots:0<=b.roots/\b.roots<=4
 nodesL:b.nodes.length<=8
 sitesL:b.sites.length<=4
 edges:0<=b.edges/\b.edges<=8
 outer:VM b.outer
 inn:VM (inn b)
 nodes:∀ i,Zmu sig b i
 sites:∀ p∈b.sites,UB sig b p b.nodes.length
 inner:∀ w∈b.inner,ZX b w.link
theorem Zi2{sig:List TControl}{b:TBigraph}{j:Nat}(h:∀ k,k<j->Zmu sig b k):Zkh sig b j:=fun i hi hl=>(h i hi hl).ctl
theorem Zeo{b:TBigraph}:(inn b).length=b.inner.length:=by simp [inn]
theorem ZoV{b:TBigraph}{n:Nat}(h:∀ y∈b.inner,UJ n y):∀ y∈inn b,y.size<=n:=fun y hy=>by
 obtain⟨w,hw,rfl⟩:=List.mem_map.1 hy
 exact h w hw
theorem X2(sig:List TControl)(b:TBigraph)(hn:sig.length<=4294967296)(hbs:∀ y∈sig,Zo 4294967296 y)(hb:Zp 4294967296 b)(hf:ZB b)(lvl:Nat)(S:Sto):Sem Go.Proofs.Tryz.prog Yh lvl [.tr (.sl (sig.map Zh)),.ag ((Zc b).map .tr)] S (iB (dc (bigOK sig b))) S:=by
 obtain⟨b1,b2,b3,b4,b5,b6,b7⟩:=hb
 obtain⟨f1,f2,f3,f4,f5⟩:=hf
 refine Zb ZiL trivial ?_
 simp only[Zc4,Zc,EVA,seval,Zj,men]
 refine Za (Zgm sig (by omega) (fun y hy=>X1 (hbs y hy))) ?_
 cases h1:dc (YI sig)
 ·simp only[EVA,seval]
  rw[Zi fun h:bigOK sig b=>dc_not.1 h1 h.sg]
 simp only[EVA,seval,Zj,men]
 refine Za (QL b.roots 0 4) ?_
 cases h2:inB b.roots 0 4
 ·simp only[EVA,seval]
  rw[Zi fun h:bigOK sig b=>inB_not.1 h2 h.roots]
 by_cases h3:(8:Int)<b.nodes.length
 ·simp only[h3,List.length_map,EVA,seval]
  rw[Zi fun h:bigOK sig b=>by have:=h.nodesL;omega]
 by_cases h4:(4:Int)<b.sites.length
 ·simp only[h3,h4,List.length_map,EVA,seval]
  rw[Zi fun h:bigOK sig b=>by have:=h.sitesL;omega]
 simp only[h3,h4,List.length_map,EVA,seval,Zj,men]
 refine Za (QL b.edges 0 8) ?_
 cases h5:inB b.edges 0 8
 ·simp only[EVA,seval]
  rw[Zi fun h:bigOK sig b=>inB_not.1 h5 h.edges]
 have r2:=inB_iff.1 h2
 have r5:=inB_iff.1 h5
 simp only[EVA,seval,Zj,men]
 refine Za (Zgo b.outer (by assumption) (by assumption)) ?_
 cases h6:dc (VM b.outer)
 ·simp only[EVA,seval]
  rw[Zi fun h:bigOK sig b=>dc_not.1 h6 h.outer]
 by_cases h7:(16:Int)<b.inner.length
 ·simp only[h7,List.length_map,EVA,seval]
  rw[Zi fun h:bigOK sig b=>by have:=h.inn.2;rw[Zeo] at this;omega]
 simp only[h7,List.length_map,EVA,seval,Zj,men]
 refine Za (Zlm b (by omega)) ?_
 simp only[EVA,seval,Zj,men]
 refine Za (Zgo (inn b) (by rw[Zeo];omega) (ZoV (by assumption))) ?_
 cases h8:dc (VM (inn b))
 ·simp only[EVA,seval]
  rw[Zi fun h:bigOK sig b=>dc_not.1 h8 h.inn]
 simp only[EVA,seval]
 have ho:=(dc_iff.1 h6).2
 refine ZH (α:=Unit) b.nodes.length (fun j _=>[(5,iI j)]) (fun j _=>[]) (fun j _=>∀ k,k<j->Zmu sig b k) () (by simp only[EVA,seval]) (by (simp only[EVA,seval]) <;> rfl) (fun k hk=>absurd hk (Nat.not_lt_zero k)) ?_
 intro j _ hj hA
 simp only[List.length_map,EVA,seval,Zj,men]
 refine Zk (fun hlt=>?_) (fun hge=>?_)
 ·have hja:j<b.nodes.length:=by omega
  have hm:=List.getElem_mem hja
  refine Za (Znc sig b j hja hn (by first | exact(b2 _ hm) | exact(b3 _ hm)) (by first | exact(f1 _ hm).2.1 | exact(f2 _ hm).2.1) r2 r5 (by omega) (Zi2 hA)) ?_
  cases hc:dc (nodeOK sig b b.nodes[j] j)
  ·simp only[EVA,seval]
   rw[Zi fun h:bigOK sig b=>dc_not.1 hc (h.nodes j hja)]
  ·simp only[EVA,seval]
   exact⟨by rw[Zd];omega,Ze () hja rfl (Zra hA fun _=>dc_iff.1 hc)⟩
 have hj1:j=b.nodes.length:=by omega
 subst hj1
 refine ZH (α:=Unit) b.sites.length (fun j _=>[(6,iI j)]) (fun j _=>[]) (fun j _=>∀ k,k<j->UB sig b (g0 b.sites k) b.nodes.length) () (by simp only[EVA,seval]) (by (simp only[EVA,seval]) <;> rfl) (fun k hk=>absurd hk (Nat.not_lt_zero k)) ?_
 intro j _ hj hB
 simp only[List.length_map,EVA,seval]
 refine Zk (fun hlt=>?_) (fun hge=>?_)
 ·have hja:j<b.sites.length:=by omega
  have ga:=V7 hja
  have hg:g0 b.sites j∈b.sites:=by simp [hja]
  simp only[ga,List.length_map,EVA,seval,Zj,men]
  refine Za (Zgp sig b (g0 b.sites j) b.nodes.length (by first | exact f3 _ hg | exact f2 _ hg | exact f4 _ hg) r2 (Nat.le_refl _) (Zi2 hA)) ?_
  cases hc:dc (UB sig b (g0 b.sites j) b.nodes.length)
  ·simp only[EVA,seval]
   rw[Zi fun h:bigOK sig b=>dc_not.1 hc (h.sites _ hg)]
  ·simp only[EVA,seval]
   exact⟨by rw[Zd];omega,Ze () hja rfl (Zra hB (dc_iff.1 hc))⟩
 have hj1:j=b.sites.length:=by omega
 subst hj1
 refine ZH (α:=Unit) b.inner.length (fun j _=>[(7,iI j)]) (fun j _=>[]) (fun j _=>∀ k,k<j->∀ h:k<b.inner.length,ZX b b.inner[k].link) () (by simp only[EVA,seval]) (by (simp only[EVA,seval]) <;> rfl) (fun k hk=>absurd hk (Nat.not_lt_zero k)) ?_
 intro j _ hj hC
 simp only[List.length_map,EVA,seval]
 refine Zk (fun hlt=>?_) (fun hge=>?_)
 ·have hja:j<b.inner.length:=by omega
  have ga:=Db (c:=ZP) hja
  simp only[ga,ZP,EVA,seval,Zj,men]
  refine Za (ZhM b b.inner[j].link r5 (by omega)) ?_
  cases hc:dc (ZX b b.inner[j].link)
  ·simp only[EVA,seval]
   rw[Zi fun h:bigOK sig b=>dc_not.1 hc (h.inner _ (List.getElem_mem hja))]
  ·simp only[EVA,seval]
   exact⟨by rw[Zd];omega,Ze () hja rfl (Zra hC fun _=>dc_iff.1 hc)⟩
 have hj1:j=b.inner.length:=by omega
 subst hj1
 have:bigOK sig b:=⟨dc_iff.1 h1,r2,by omega,by omega,r5,dc_iff.1 h6,dc_iff.1 h8,fun i h=>hA i h h,fun p hp=>by
  obtain⟨k,hk,rfl⟩:=List.getElem_of_mem hp
  have:=hB k hk
  simpa [hk] using this,fun w hw=>by
  obtain⟨k,hk,rfl⟩:=List.getElem_of_mem hw
  exact hC k hk hk⟩
 rw[ZN this]
theorem Zgq(l:Int)(b:TBigraph)(he:0<=b.edges/\b.edges<=8)(ho:b.outer.length<=4294967296)(lvl:Nat)(S:Sto):Sem Go.Proofs.Tryz.prog Qa lvl [iI l,.ta (Zc b)] S (iB (!dc (ZX b l))) S:=by
 refine Zb Zdb trivial ?_
 simp only[UL,Zc,EVA,seval,Zj,men]
 refine Za (ZhN b l he ho) ?_
 simp only[EVA,seval]
theorem Zgr(p:Int)(sig:List TControl)(b:TBigraph)(hr:0<=b.roots/\b.roots<=4)(hc:Zkh sig b b.nodes.length)(lvl:Nat)(S:Sto):Sem Go.Proofs.Tryz.prog Qb lvl [iI p,.ta (Zc b),.ta [Tr.sl (sig.map Zh)]] S (iB (!dc (UB sig b p b.nodes.length))) S:=by
 refine Zb Zdc trivial ?_
 simp only[UM,Zc,List.length_map,EVA,seval,Zj,men]
 refine Za (ZeV sig b p b.nodes.length hr (Nat.le_refl _) hc) ?_
 simp only[EVA,seval]
theorem Zgs(w:TWire)(b:TBigraph)(he:0<=b.edges/\b.edges<=8)(ho:b.outer.length<=4294967296)(lvl:Nat)(S:Sto):Sem Go.Proofs.Tryz.prog Qc lvl [.ag ((ZP w).map .tr),.ta (Zc b)] S (iB (!dc (ZX b w.link))) S:=by
 refine Zb Zdd trivial ?_
 simp only[UN,Zc,ZP,EVA,seval,Zj,men]
 refine Za (ZhN b w.link he ho) ?_
 simp only[EVA,seval]
theorem Zxe:ZF Go.Proofs.Tryz.prog JH (ZoL 2 (some 2))=true:=by kernel_rfl
theorem Zxf:ZF Go.Proofs.Tryz.prog Jv (Zr7 JH)=true:=by kernel_rfl
theorem any_no{α:Type}{l:List α}{p:α->Prop}:(l.any fun n=>!dc (p n))=false↔∀ n∈l,p n:=by
 simp only[List.any_eq_false,Bool.not_eq_true',Bool.not_eq_false,dc_iff]
theorem Jy(sig:List TControl)(b:TBigraph)(hn:sig.length<=4294967296)(hbs:∀ y∈sig,Zo 4294967296 y)(hb:Zp 4294967296 b)(lvl:Nat)(S:Sto):Sem Go.Proofs.Tryz.prog Z6 lvl [.tr (.sl (sig.map Zh)),.ag ((Zc b).map .tr)] S (iB (dc (bigOK sig b))) S:=by
 obtain⟨b1,b2,b3,b4,b5,b6,b7⟩:=hb
 refine Zb Zfc trivial ?_
 simp only[Zax,Zc,EVA,seval,Zj,men]
 refine Za (YR sig (by omega) (fun y hy=>X1 (hbs y hy))) ?_
 cases h1:dc (YI sig)
 ·simp only[EVA,seval]
  rw[Zi fun h:bigOK sig b=>dc_not.1 h1 h.sg]
 simp only[EVA,seval,Zj,men]
 refine Za (YX b.roots 0 4) ?_
 cases h2:inB b.roots 0 4
 ·simp only[EVA,seval]
  rw[Zi fun h:bigOK sig b=>inB_not.1 h2 h.roots]
 by_cases h3:(8:Int)<b.nodes.length
 ·simp only[h3,List.length_map,EVA,seval]
  rw[Zi fun h:bigOK sig b=>by have:=h.nodesL;omega]
 by_cases h4:(4:Int)<b.sites.length
 ·simp only[h3,h4,List.length_map,EVA,seval]
  rw[Zi fun h:bigOK sig b=>by have:=h.sitesL;omega]
 simp only[h3,h4,List.length_map,EVA,seval,Zj,men]
 refine Za (YX b.edges 0 8) ?_
 cases h5:inB b.edges 0 8
 ·simp only[EVA,seval]
  rw[Zi fun h:bigOK sig b=>inB_not.1 h5 h.edges]
 have r2:=inB_iff.1 h2
 have r5:=inB_iff.1 h5
 simp only[EVA,seval,Zj,men]
 refine Za (ZeU b.outer (by assumption) (by assumption)) ?_
 cases h6:dc (VM b.outer)
 ·simp only[EVA,seval]
  rw[Zi fun h:bigOK sig b=>dc_not.1 h6 h.outer]
 simp only[EVA,seval,Zj,men]
 refine Za (Dc b (by omega)) ?_
 simp only[EVA,seval,Zj,men]
 refine Za (ZeU (inn b) (by rw[Zeo];omega) (ZoV (by assumption))) ?_
 cases h8:dc (VM (inn b))
 ·simp only[EVA,seval]
  rw[Zi fun h:bigOK sig b=>dc_not.1 h8 h.inn]
 simp only[List.length_map,EVA,seval]
 have ho:=(dc_iff.1 h6).2
 refine ZH (α:=Unit) b.nodes.length (fun j _=>[(49,iI j)]) (fun j _=>[]) (fun j _=>∀ k,k<j->Zmu sig b k) () (by simp only[EVA,seval]) (by (simp only[EVA,seval]) <;> rfl) (fun k hk=>absurd hk (Nat.not_lt_zero k)) ?_
 intro j _ hj hA
 simp only[EVA,seval,Zj,men]
 refine Zk (fun hlt=>?_) (fun hge=>?_)
 ·have hja:j<b.nodes.length:=by omega
  have hm:=List.getElem_mem hja
  have ga:=Db (c:=ZO) hja
  have hll:b.nodes[j].links.length<=4294967296:=by first | exact(b2 _ hm) | exact(b3 _ hm)
  have hno:¬ nodeOK sig b b.nodes[j] j->dc (bigOK sig b)=false:=fun h=>Zi fun g=>h (g.nodes j hja)
  simp only[ga,ZO,List.length_map,EVA,seval,Zj,men]
  refine⟨by rw[Zd];omega,?_⟩
  refine Za (YX b.nodes[j].control 0 ((sig.length:Int)-1)) ?_
  cases p1:inB b.nodes[j].control 0 ((sig.length:Int)-1)
  ·simp only[EVA,seval]
   rw[hno fun h=>inB_not.1 p1 h.ctl]
  have q1:=inB_iff.1 p1
  simp only[EVA,seval,Zj,men]
  refine Za (ZeV sig b b.nodes[j].parent j r2 (by omega) (Zi2 hA)) ?_
  cases p2:dc (UB sig b b.nodes[j].parent j)
  ·simp only[EVA,seval]
   rw[hno fun h=>dc_not.1 p2 h.par]
  obtain⟨m,hmm⟩:∃ m:Nat,b.nodes[j].control=m:=⟨b.nodes[j].control.toNat,by omega⟩
  have hms:m<sig.length:=by omega
  have gs:=Db (c:=Zh) hms
  have e:Y8 sig b.nodes[j].control=sig[m].ports:=by simp [Y8,hmm,hms]
  by_cases p3:(b.nodes[j].links.length:Int)=sig[m].ports
  case neg =>
   simp only[p3,hmm,gs,Int.toNat_natCast,Zh,List.length_map,EVA,seval]
   rw[hno fun h=>p3 (by rw[<-e];exact h.ports)]
  simp only[p3,hmm,gs,Int.toNat_natCast,Zh,List.length_map,EVA,seval,Zj,men]
  refine Za (ZfD (t:=tv) (cs:=[Zc b]) Zsb Zsa b.nodes[j].links (by omega) (fun x _ lvl S=>Zgq x b r5 (by omega) lvl S)) ?_
  cases p4:b.nodes[j].links.any fun l=>!dc (ZX b l)
  ·simp only[EVA,seval]
   exact⟨by rw[Zd];omega,Ze () hja rfl (Zra hA fun _=>⟨q1,dc_iff.1 p2,by rw[e];exact p3,any_no.1 p4⟩)⟩
  ·simp only[EVA,seval]
   rw[hno fun h=>by rw[any_no.2 h.links] at p4;cases p4]
 have hj1:j=b.nodes.length:=by omega
 subst hj1
 refine Za (ZfD (t:=tv) (cs:=[Zc b,[Tr.sl (sig.map Zh)]]) Zsb Zsa b.sites (by omega) (fun x _ lvl S=>Zgr x sig b r2 (Zi2 hA) lvl S)) ?_
 cases h9:b.sites.any fun p=>!dc (UB sig b p b.nodes.length)
 case true =>
  simp only[EVA,seval]
  rw[Zi fun h:bigOK sig b=>by rw[any_no.2 h.sites] at h9;cases h9]
 simp only[EVA,seval,Zj,men]
 refine Za (Zmt (cs:=[Zc b]) Zxf Zxe (fun x=>rfl) b.inner (by omega) (fun x _ lvl S=>Zgs x b r5 (by omega) lvl S)) ?_
 cases h10:b.inner.any fun w=>!dc (ZX b w.link)
 case true =>
  simp only[EVA,seval]
  rw[Zi fun h:bigOK sig b=>by rw[(any_no (p:=fun w:TWire=>ZX b w.link)).2 h.inner] at h10;cases h10]
 simp only[EVA,seval]
 have:bigOK sig b:=⟨dc_iff.1 h1,r2,by omega,by omega,r5,dc_iff.1 h6,dc_iff.1 h8,fun i h=>hA i h h,any_no.1 h9,any_no.1 h10⟩
 rw[ZN this]
end Go.Fd

/-
  LISTS IN ORDER, OF ANY KIND: SORTED, EACH ONCE; CALLS THAT CHANGE ONE OBJECT. Own work.
-/
namespace Go.Fd
set_option maxRecDepth 20000
def cz{α:Type}[DecidableEq α](g:Nat->α):Nat->List α
 | 0=>[]
 | m+1=>cz g m++if m≠0/\g m=g (m-1) then [] else [g m]
theorem Zxg{α:Type}[DecidableEq α](g:Nat->α):∀ m,(cz g m).length<=m
 | 0=>Nat.le_refl _
 | m+1=>by
  have:=Zxg g m
  simp only[cz,List.length_append]
  split <;> simp <;> omega
theorem ZtS{α:Type}[DecidableEq α]{g:Nat->α}{m:Nat}(h0:m≠0)(h:g m=g (m-1)):cz g (m+1)=cz g m:=by
 rw[cz,if_pos ⟨h0,h⟩,List.append_nil]
theorem ZBJ{α:Type}[DecidableEq α]{g:Nat->α}{m:Nat}(h:g m≠g (m-1)):cz g (m+1)=cz g m++[g m]:=by
 rw[cz,if_neg (fun e=>h e.2)]
theorem Zdq{α:Type}{y:List α}{i:Nat}{v:α}(h:i<y.length):(y.set i v).take (i+1)=y.take i++[v]:=by
 rw[List.take_succ_eq_append_getElem (by rw[List.length_set];exact h),List.getElem_set_self,List.take_set_of_le (Nat.le_refl i)]
theorem Zxh{lvl:Nat}{S:Sto}{id:Oid}{k hw ver:Nat}{es:Row}{u:Bool}(hne:id.1≠lvl)(hS:S id=some (.ar k es u hw ver)):wid (ZE lvl [] S) id [] k:=by
 unfold wid
 rw[Jd hne,hS]
theorem Zi3{C:Zl}{env:List (Nat×IV)}{loc:List (Nat×Ob)}{out:Sto}{d:Option Nat}{K:St->Prop}{fid:FuncId}{imp:Bool}{lvl:Nat}{args:List IV}{r:IV}(key:Nat)(o:Ob)(h:C fid (lvl+1) args (ZE lvl loc out) r (ZT (ZE lvl loc out) (lvl,key) o))
  (hk:freshK (keyOf d) (ptO key o loc) (impv imp lvl (keyOf d) 0 r).2.length/\K ⟨lvl,ptd d (impv imp lvl (keyOf d) 0 r).1 env,addO (keyOf d) (impv imp lvl (keyOf d) 0 r).2 (ptO key o loc),out⟩):kcy C fid imp lvl env loc out d K args :=
 Vy (ptO key o loc) out (fun _ _=>rfl) (by rw[Ds];exact h) hk
theorem Zmv{C:Zl}{env:List (Nat×IV)}{loc:List (Nat×Ob)}{out:Sto}{d:Option Nat}{K:St->Prop}{fid:FuncId}{imp:Bool}{lvl:Nat}{args:List IV}{r:IV}(key:Nat)(o:Nat->Ob)(h:∃ v,C fid (lvl+1) args (ZE lvl loc out) r (ZT (ZE lvl loc out) (lvl,key) (o v)))
  (hk:∀ v,freshK (keyOf d) (ptO key (o v) loc) (impv imp lvl (keyOf d) 0 r).2.length/\K ⟨lvl,ptd d (impv imp lvl (keyOf d) 0 r).1 env,addO (keyOf d) (impv imp lvl (keyOf d) 0 r).2 (ptO key (o v) loc),out⟩):kcy C fid imp lvl env loc out d K args:=by
 obtain⟨v,h⟩:=h
 exact Zi3 key (o v) h (hk v)
section
variable {α:Type} {e0:α} {lt:α->α->Prop}
def gx(e0:α)(l:List α)(i:Nat):α:=l.getD i e0
theorem UC{l:List α}{i:Nat}(h:i<l.length):gx e0 l i=l[i]:=by
 unfold gx
 rw[List.getD_eq_getElem?_getD,List.getElem?_eq_getElem h]
 rfl
def Zi4(e0:α)(lt:α->α->Prop)(x:List α)(i:Nat):Prop:=∀ p q,p<q->q<i -> ¬ lt (gx e0 x q) (gx e0 x p)
def Zki(e0:α)(lt:α->α->Prop)(x:List α)(i j:Nat):Prop:=(∀ p q,p<q->q<=i->p≠j->q≠j -> ¬ lt (gx e0 x q) (gx e0 x p))/\∀ q,j<q->q<=i -> ¬ lt (gx e0 x q) (gx e0 x j)
def Zus(e0:α)(x:List α)(j:Nat):List α:=(x.set j (gx e0 x (j-1))).set (j-1) (gx e0 x j)
theorem Zmw{y:List α}{a b:Nat}{v:α}(h:a<y.length):gx e0 (y.set a v) b=if a=b then v else gx e0 y b:=by
 show (y.set a v).getD b e0=if a=b then v else y.getD b e0
 rw[List.getD_eq_getElem?_getD,List.getElem?_set,List.getD_eq_getElem?_getD]
 by_cases e:a=b
 ·rw[if_pos e,if_pos e,if_pos (by omega)];rfl
 ·rw[if_neg e,if_neg e]
theorem Zln{y:List α}{i:Nat}(h:Zki e0 lt y i 0):Zi4 e0 lt y (i+1):=fun p q h1 h2=>by
 by_cases e:p=0
 ·subst e;exact h.2 q h1 (by omega)
 ·exact h.1 p q h1 (by omega) e (by omega)
theorem Zlo(tr:∀ a b c,¬ lt b a -> ¬ lt c b -> ¬ lt c a){y:List α}{i j:Nat}(h:Zki e0 lt y i j)(hj:0<j)(hji:j<=i)(hle:¬ lt (gx e0 y j) (gx e0 y (j-1))):Zi4 e0 lt y (i+1):=fun p q h1 h2=>by
 by_cases e:p=j
 ·subst e;exact h.2 q h1 (by omega)
 ·by_cases e2:q=j
  ·subst e2
   by_cases e3:p=q-1
   ·subst e3;exact hle
   ·exact tr _ _ _ (h.1 p (q-1) (by omega) (by omega) e (by omega)) hle
  ·exact h.1 p q h1 (by omega) e e2
theorem Znd(asym:∀ a b,lt a b -> ¬ lt b a){y:List α}{i j:Nat}(h:Zki e0 lt y i j)(hj:0<j)(hji:j<=i)(hi:i<y.length)(hlt:lt (gx e0 y j) (gx e0 y (j-1))):Zki e0 lt (Zus e0 y j) i (j-1):=by
 have e:∀ b,gx e0 (Zus e0 y j) b=if j-1=b then gx e0 y j else if j=b then gx e0 y (j-1) else gx e0 y b:=fun b=>by
  unfold Zus
  rw[Zmw (by rw[List.length_set];omega),Zmw (by omega)]
 refine⟨fun p q h1 h2 h3 h4=>?_,fun q h1 h2=>?_⟩
 ·rw[e p,e q,if_neg (show ¬ j-1=p from fun g=>h3 g.symm),if_neg (show ¬ j-1=q from fun g=>h4 g.symm)]
  by_cases ep:j=p
  ·rw[if_pos ep,if_neg (show ¬ j=q by omega)]
   exact h.1 (j-1) q (by omega) h2 (by omega) (by omega)
  ·rw[if_neg ep]
   by_cases eq:j=q
   ·rw[if_pos eq]
    exact h.1 p (j-1) (by omega) (by omega) (by omega) (by omega)
   ·rw[if_neg eq]
    exact h.1 p q h1 h2 (fun g=>ep g.symm) (fun g=>eq g.symm)
 ·rw[e (j-1),e q,if_pos rfl,if_neg (show ¬ j-1=q by omega)]
  by_cases eq:j=q
  ·rw[if_pos eq];exact asym _ _ hlt
  ·rw[if_neg eq]
   exact h.2 q (by omega) h2
theorem ZoW{y:List α}{j:Nat}(hj:0<j)(hi:j<y.length):(Zus e0 y j).Perm y:=by
 have h:=@List.set_set_perm _ y j (j-1) hi (by omega)
 unfold Zus
 rw[UC hi,UC (by omega)]
 exact h
theorem ZfE{γ:Type}{c:α->γ}{l:List α}{i:Nat}(h:i<l.length):(l.map c)[i]? = some (c (gx e0 l i)):=by
 rw[UC h];simp [h]
end
theorem Zi5{α:Type}[DecidableEq α]{e0:α}{l:List α}:∀{n:Nat},n<=l.length->(∀ m,0<m->m<n->gx e0 l m≠gx e0 l (m-1))->cz (gx e0 l) n=l.take n
 | 0,_,_=>by simp [cz]
 | n+1,hn,h=>by
  have ih:=Zi5 (n:=n) (by omega) fun m h0 h1=>h m h0 (by omega)
  have hx:cz (gx e0 l) (n+1)=cz (gx e0 l) n++[gx e0 l n]:=by
   rw[cz,if_neg (fun e=>h n (by omega) (by omega) e.2)]
  rw[hx,ih,List.take_succ_eq_append_getElem (by omega)]
  rw[UC (by omega)]
structure Ords {α:Type} (lt:α->α->Prop):Prop where
 irr:∀ a,¬ lt a a
 tr:∀ a b c,lt a b->lt b c->lt a c
 tri:∀ a b,lt a b\/a=b\/lt b a
theorem Ords.asym{α:Type}{lt:α->α->Prop}(O:Ords lt)(a b:α)(h:lt a b):¬ lt b a:=fun g=>O.irr a (O.tr _ _ _ h g)
section
variable {α:Type} {e0:α} {lt:α->α->Prop}
theorem Zkj(O:Ords lt):∀{x y:List α},x.Pairwise lt->y.Pairwise lt->(∀ c,c∈x↔c∈y)->x=y
 | [],[],_,_,_=>rfl
 | [],b::s,_,_,h=>by have:=(h b).2 (by simp);simp at this
 | a::r,[],_,_,h=>by have:=(h a).1 (by simp);simp at this
 | a::r,b::s,hx,hy,h=>by
  rw[List.pairwise_cons] at hx hy
  have e:a=b:=by
   rcases List.mem_cons.1 ((h a).1 (by simp)) with e | h1
   ·exact e
   ·rcases List.mem_cons.1 ((h b).2 (by simp)) with e | h2
    ·exact e.symm
    ·exact absurd (hy.1 a h1) (O.asym _ _ (hx.1 b h2))
  subst e
  congr 1
  refine Zkj O hx.2 hy.2 fun c=>⟨fun hc=>?_,fun hc=>?_⟩
  ·rcases List.mem_cons.1 ((h c).1 (by simp [hc])) with e | h1
   ·subst e;exact absurd (hx.1 c hc) (O.irr c)
   ·exact h1
  ·rcases List.mem_cons.1 ((h c).2 (by simp [hc])) with e | h1
   ·subst e;exact absurd (hy.1 c hc) (O.irr c)
   ·exact h1
theorem Zgt(O:Ords lt):∀{x y:List α},x.Pairwise (fun a b=>¬ lt b a)->y.Pairwise (fun a b=>¬ lt b a)->x.Perm y->x=y
 | [],y,_,_,h=>by rw[List.nil_perm.1 h]
 | a::r,[],_,_,h=>by have:=h.length_eq;simp at this
 | a::r,b::s,hx,hy,h=>by
  rw[List.pairwise_cons] at hx hy
  have e:a=b:=by
   rcases List.mem_cons.1 (h.mem_iff.1 (List.mem_cons_self (a:=a) (l:=r))) with e | h1
   ·exact e
   ·rcases List.mem_cons.1 (h.mem_iff.2 (List.mem_cons_self (a:=b) (l:=s))) with e | h2
    ·exact e.symm
    ·rcases O.tri a b with g | g | g
     ·exact absurd g (hy.1 a h1)
     ·exact g
     ·exact absurd g (hx.1 b h2)
  subst e
  congr 1
  exact Zgt O hx.2 hy.2 h.cons_inv
theorem Zrb{x:List α}(h:Zi4 e0 lt x x.length):x.Pairwise (fun a b=>¬ lt b a):=List.pairwise_iff_getElem.2 fun i j hi hj hij=>by
 have:=h i j hij hj
 rwa [UC hi,UC hj] at this
noncomputable def Zlp(lt:α->α->Prop)(l:List α):List α:=l.mergeSort fun a b=>@decide (¬ lt b a) (Classical.propDecidable _)
theorem srtG_perm{l:List α}:(Zlp lt l).Perm l:=List.mergeSort_perm ..
theorem Zgu(O:Ords lt){l:List α}:(Zlp lt l).Pairwise (fun a b=>¬ lt b a):=by
 classical
 have h:=List.pairwise_mergeSort (le:=fun a b=>@decide (¬ lt b a) (Classical.propDecidable _)) (fun a b c h1 h2=>by
  simp only[decide_eq_true_eq] at *
  intro g
  rcases O.tri a b with k | k | k
  ·exact h2 (O.tr _ _ _ g k)
  ·subst k;exact h2 g
  ·exact h1 k) (fun a b=>by
  simp only[Bool.or_eq_true,decide_eq_true_eq]
  by_cases g:lt b a
  ·exact .inr (O.asym _ _ g)
  ·exact .inl g) l
 exact h.imp (fun h=>by simpa using h)
theorem Zrc(O:Ords lt){l x:List α}(hp:x.Perm l)(hu:Zi4 e0 lt x l.length):x=Zlp lt l:=by
 rw[<-hp.length_eq] at hu
 exact Zgt O (Zrb hu) (Zgu O) (hp.trans srtG_perm.symm)
theorem cz_mem[DecidableEq α]{g:Nat->α}{c:α}:∀{n:Nat},c∈cz g n↔∃ i,i<n/\g i=c
 | 0=>by simp [cz]
 | n+1=>by
  rw[cz,List.mem_append,cz_mem (n:=n)]
  constructor
  ·rintro(⟨i,h1,h2⟩ | h)
   ·exact⟨i,by omega,h2⟩
   ·split at h
    ·cases h
    ·exact⟨n,by omega,(List.mem_singleton.1 h).symm⟩
  ·rintro⟨i,h1,h2⟩
   by_cases e:i=n
   ·subst e
    by_cases k:i≠0/\g i=g (i-1)
    ·exact .inl ⟨i-1,by omega,k.2.symm.trans h2⟩
    ·rw[if_neg k];exact .inr (by simp [h2])
   ·exact .inl ⟨i,by omega,h2⟩
theorem Zxi(O:Ords lt)[DecidableEq α]{g:Nat->α}:∀{n:Nat},(∀ i j,i<j->j<n -> ¬ lt (g j) (g i))->(cz g n).Pairwise lt
 | 0,_=>by simp [cz]
 | n+1,h=>by
  have ih:=Zxi O (n:=n) fun i j h1 h2=>h i j h1 (by omega)
  by_cases k:n≠0/\g n=g (n-1)
  ·rw[ZtS k.1 k.2];exact ih
  ·have hx:cz g (n+1)=cz g n++[g n]:=by rw[cz,if_neg k]
   rw[hx,List.pairwise_append]
   refine⟨ih,by simp,fun c hc d hd=>?_⟩
   rw[List.mem_singleton] at hd
   subst hd
   obtain⟨i,h1,rfl⟩:=cz_mem.1 hc
   have hn0:n≠0:=by omega
   rcases O.tri (g i) (g n) with e | e | e
   ·exact e
   ·exfalso
    have e1:¬ lt (g n) (g (n-1)):=h (n-1) n (by omega) (by omega)
    have e2:¬ lt (g (n-1)) (g i):=by
     by_cases q:i=n-1
     ·subst q;exact O.irr _
     ·exact h i (n-1) (by omega) (by omega)
    rw[e] at e2
    rcases O.tri (g n) (g (n-1)) with q | q | q
    ·exact e1 q
    ·exact k ⟨hn0,q⟩
    ·exact e2 q
   ·exact absurd e (h i n h1 (by omega))
noncomputable def Zut[DecidableEq α](e0:α)(lt:α->α->Prop)(l:List α):List α:=cz (gx e0 (Zlp lt l)) (Zlp lt l).length
theorem ZoX(O:Ords lt)[DecidableEq α]{l:List α}:(Zut e0 lt l).Pairwise lt:=Zxi O fun i j h1 h2=>by
 rw[UC h2,UC (Nat.lt_trans h1 h2)]
 exact List.pairwise_iff_getElem.1 (Zgu O) i j _ _ h1
theorem setG_mem[DecidableEq α]{l:List α}{c:α}:c∈Zut e0 lt l↔c∈l:=by
 unfold Zut
 rw[cz_mem,<-(srtG_perm (lt:=lt) (l:=l)).mem_iff]
 constructor
 ·rintro⟨i,h1,h2⟩
  rw[UC h1] at h2
  rw[<-h2];exact List.getElem_mem h1
 ·intro h
  obtain⟨i,h1,h2⟩:=List.getElem_of_mem h
  exact⟨i,h1,by rw[UC h1];exact h2⟩
theorem Zi6(O:Ords lt)[DecidableEq α]{l y:List α}(hy:y.Pairwise lt)(h:∀ c,c∈l↔c∈y):Zut e0 lt l=y:=Zkj O (ZoX O) hy fun c=>setG_mem.trans (h c)
theorem ZoY[DecidableEq α]{l:List α}:(Zut e0 lt l).length<=l.length:=Nat.le_trans (Zxg _ _) (Nat.le_of_eq srtG_perm.length_eq)
end
end Go.Fd

/-
  SORTING A FEW STRINGS: slices.Sort, slices.Compact ON ANOTHER'S ROW. Own work.
-/
namespace Go.Fd
set_option maxRecDepth 20000
abbrev e0S:ByteArray:=⟨#[]⟩
abbrev gS(l:List ByteArray)(i:Nat):ByteArray:=gx e0S l i
theorem bl_irr:∀(x:List UInt8),Op.bytesLess x x=false
 | []=>rfl
 | a::x=>by
  have e:¬ a<a:=UInt8.lt_irrefl a
  simp [Op.bytesLess,e,bl_irr x]
theorem Zmx:∀(x y z:List UInt8),Op.bytesLess x y=true->Op.bytesLess y z=true->Op.bytesLess x z=true
 | [],[],_,h,_=>by simp [Op.bytesLess] at h
 | [],_::_,[],_,h=>by simp [Op.bytesLess] at h
 | [],_::_,_::_,_,_=>by simp [Op.bytesLess]
 | _::_,[],_,h,_=>by simp [Op.bytesLess] at h
 | _::_,_::_,[],_,h=>by simp [Op.bytesLess] at h
 | a::x,b::y,c::z,h1,h2=>by
  have ih:=Zmx x y z
  have irr:∀ a:UInt8,¬ a<a:=UInt8.lt_irrefl
  simp only[Op.bytesLess] at h1 h2 ⊢
  by_cases e1:a=b
  ·subst e1
   simp only[irr,decide_false,Bool.false_or,beq_self_eq_true,Bool.true_and] at h1
   by_cases e2:a=c
   ·subst e2
    simp [irr] at h1 h2 ⊢
    exact ih h1 h2
   ·by_cases l2:a<c
    ·simp [l2]
    ·simp [l2,e2] at h2
  ·by_cases l1:a<b
   ·by_cases e2:b=c
    ·subst e2;simp [l1]
    ·by_cases l2:b<c
     ·simp [UInt8.lt_trans l1 l2]
     ·simp [l2,e2] at h2
   ·simp [l1,e1] at h1
theorem ordsS:Ords ltS:=by
 refine⟨fun a h=>?_,fun a b c=>Zmx _ _ _,fun a b=>?_⟩
 ·unfold ltS at h
  rw[bl_irr] at h
  cases h
 ·have h:=ZoU a.data.toList b.data.toList
  unfold ltS
  cases h1:Op.bytesLess a.data.toList b.data.toList with
  | true=>exact .inl rfl
  | false =>
   rw[h1] at h
   cases h2:Op.bytesLess b.data.toList a.data.toList with
   | true=>exact .inr (.inr rfl)
   | false =>
    rw[h2] at h
    refine .inr (.inl ?_)
    have:a.data.toList=b.data.toList:=by simpa using h
    cases a with | mk a=>cases b with | mk b=>exact congrArg ByteArray.mk (Array.toList_inj.1 this)
theorem Zrd(a b:ByteArray)(h:ltS a b):¬ ltS b a:=ordsS.asym a b h
theorem ltS_tr(a b c:ByteArray)(h1:¬ ltS b a)(h2:¬ ltS c b):¬ ltS c a:=fun h=>by
 rcases ordsS.tri b c with g | g | g
 ·exact h1 (ordsS.tr _ _ _ g h)
 ·subst g;exact h1 h
 ·exact h2 g
theorem Zre{y:List ByteArray}{j:Nat}{v:ByteArray}(h:j<y.length):YZ (rS y) [] j 0 (.v (.string v))=rS (y.set j v):=by
 simp only[YZ]
 rw[ZfE (e0:=e0S) (c:=fun n:ByteArray=>[ts n]) h]
 exact(List.map_set (f:=fun n:ByteArray=>[ts n]) (l:=y) (i:=j) (a:=v)).symm
theorem Zne(a:ByteArray)(lvl:Nat)(S:Sto):Sem Go.Proofs.Tryz.prog YQ lvl [iS a] S (iB false) S:=by
 refine Zb Zdo trivial ?_
 simp only[UQ,EVA,seval]
theorem ZoZ(a b:ByteArray)(lvl:Nat)(S:Sto):Sem Go.Proofs.Tryz.prog Y7 lvl [iS a,iS b] S (iB (dc (ltS a b))) S:=by
 refine Zb Zek trivial ?_
 simp only[Dy,EVA,seval,Zj,men]
 refine Za (Zne a) ?_
 simp only[EVA,seval]
 have:Op.bytesLess a.data.toList b.data.toList=dc (ltS a b):=by
  unfold ltS
  rw[XJ,Bool.decide_eq_true]
 rw[this]
theorem Zrf(l:List ByteArray)(hl:l.length<=12)(lvl:Nat)(S:Sto)(id:Oid)(u:Bool)(hw ver:Nat)(hid:id.1<lvl)(hS:S id=some (.ar 1 (rS l) u hw ver))(srt:List ByteArray)(hsrt:∀ x:List ByteArray,x.Perm l->Zi4 e0S ltS x l.length->x=srt) :
  Sem Go.Proofs.Tryz.prog Jb lvl [.hd id [] 0 l.length none hw,iI 0,iI l.length] S (.tu []) (ZT S id (.ar 1 (rS srt) u hw ver)):=by
 have hne:id.1≠lvl:=by omega
 refine Zb QA trivial ?_
 simp only[J5,EVA,seval]
 refine⟨by rw[Zd];omega,?_⟩
 refine ZU (α:=List ByteArray) l.length (fun k x=>⟨lvl,[(0,.hd id [] 0 l.length none hw),(1,iI 0),(2,iI l.length),(6,iI ((k+1:Nat):Int))],[],ZT S id (.ar 1 (rS x) u hw ver)⟩) (fun k x=>x.Perm l/\Zi4 e0S ltS x (k+1)) l ⟨by simp only[JW hne,EVA,seval],by (simp only[Qp hS,EVA,seval]) <;> rfl⟩ ⟨List.Perm.refl _,fun p q h1 h2=>by omega⟩ ?_
 intro k x hk ⟨hA1,hA2⟩
 have hxl:x.length=l.length:=hA1.length_eq
 simp only[EVA,seval]
 refine Zk (fun hlt=>?_) (fun hge=>?_)
 ·have hk1:k+1<l.length:=by omega
  refine ZU (α:=List ByteArray) (k+1) (fun m y=>⟨lvl,[(0,.hd id [] 0 l.length none hw),(1,iI 0),(2,iI l.length),(6,iI ((k+1:Nat):Int)),(7,iI ((k+1-m:Nat):Int))],[],ZT S id (.ar 1 (rS y) u hw ver)⟩) (fun m y=>y.Perm l/\Zki e0S ltS y (k+1) (k+1-m)) x ⟨by simp only[JW hne,EVA,seval],by (simp only[EVA,seval]) <;> rfl⟩ ⟨hA1,fun p q h1 h2 h3 h4=>hA2 p q h1 (by omega),fun q h1 h2=>by omega⟩ ?_
  intro m y hm ⟨hB1,hB2⟩
  have hyl:y.length=l.length:=hB1.length_eq
  generalize hj:k+1-m=j at hB2 ⊢
  by_cases hj0:j=0
  ·subst hj0
   simp only[EVA,seval,men]
   exact⟨by rw[Zd];omega,fun h=>absurd h hne,Ze y (by omega) rfl ⟨hB1,Zln hB2⟩⟩
  ·have g1:(0:Int)<j:=by omega
   have e1:((j:Int)-1)=((j-1:Nat):Int):=by omega
   have gj:=ZfE (e0:=e0S) (c:=fun n:ByteArray=>[ts n]) (l:=y) (i:=j) (by omega)
   have gj1:=ZfE (e0:=e0S) (c:=fun n:ByteArray=>[ts n]) (l:=y) (i:=j-1) (by omega)
   have l1:j<l.length:=by omega
   have l2:j-1<l.length:=by omega
   simp only[g1,Jd hne,V5,e1,gj,gj1,l1,l2,Nat.zero_add,EVA,seval,Zj,men]
   refine⟨by rw[Zd];omega,Za (ZoZ (gS y j) (gS y (j-1))) ?_⟩
   by_cases hlt2:ltS (gS y j) (gS y (j-1))
   ·rw[ZN hlt2]
    have s1:=Zre (y:=y) (j:=j) (v:=gS y (j-1)) (by omega)
    have s2:=Zre (y:=y.set j (gS y (j-1))) (j:=j-1) (v:=gS y j) (by rw[List.length_set];omega)
    have gj2:=ZfE (e0:=e0S) (c:=fun n:ByteArray=>[ts n]) (l:=y.set j (gS y (j-1))) (i:=j-1) (by rw[List.length_set];omega)
    simp only[Jd hne,VU hne,J8,V5,JW hne,e1,gj,gj1,gj2,s1,s2,l1,l2,Nat.zero_add,EVA,seval]
    subst hj
    refine⟨by rw[Zd];omega,by rw[Zd];omega,by rw[Zd];omega,Ze (Zus e0S y (k+1-m)) (by omega) (by rw[show k+1-(m+1)=k+1-m-1 from by omega];rfl) ⟨(ZoW (by omega) (by omega)).trans hB1,?_⟩⟩
    rw[show k+1-(m+1)=k+1-m-1 from by omega]
    exact Znd Zrd hB2 (by omega) (by omega) (by omega) hlt2
   ·rw[Zi hlt2]
    simp only[EVA,seval,men]
    exact⟨by rw[Zd];omega,fun h=>absurd h hne,Ze y (by omega) rfl ⟨hB1,Zlo ltS_tr hB2 (by omega) (by omega) hlt2⟩⟩
 ·have:k+1=l.length\/k=l.length:=by omega
  have hup:Zi4 e0S ltS x l.length:=fun p q h1 h2=>hA2 p q h1 (by omega)
  have hx:=hsrt x hA1 hup
  rw[hx]
theorem Zrg(l:List ByteArray)(hl:l.length<=12)(r:Int)(lvl:Nat)(S:Sto)(id:Oid)(u:Bool)(hw ver:Nat)(hid:id.1<lvl)(hS:S id=some (.ar 1 (rS l) u hw ver))(srt:List ByteArray)(hsrt:∀ x:List ByteArray,x.Perm l->Zi4 e0S ltS x l.length->x=srt) :
  Sem Go.Proofs.Tryz.prog ZR lvl [.hd id [] 0 l.length none hw,iI 0,iI l.length,iI r] S (.tu []) (ZT S id (.ar 1 (rS srt) u hw ver)):=by
 have hne:id.1≠lvl:=by omega
 refine Zb Wl trivial ?_
 simp only[Y1,EVA,seval]
 refine ZU (α:=Unit) 0 (fun _ _=>⟨lvl,[(0,.hd id [] 0 l.length none hw),(1,iI 0),(2,iI l.length),(3,iI r),(8,iB true),(9,iB true)],[],S⟩) (fun _ _=>True) () ⟨by simp only[JW hne,EVA,seval],by (simp only[EVA,seval]) <;> rfl⟩ trivial ?_
 intro _ _ _ _
 have h12:(l.length:Int)-0<=12:=by omega
 simp only[h12,EVA,seval]
 refine⟨by rw[Zd];omega,?_⟩
 simp only[ZgU]
 refine Vy [] (ZT S id (.ar 1 (rS srt) u hw ver)) (fun i hi=>by unfold ZT;rw[if_neg (fun e=>hne (by rw[<-e];exact hi))]) (by
  rw[XX hne]
  exact Zrf l hl (lvl+1) (ZE lvl [] S) id u hw ver (by omega) (by rw[Jd hne];exact hS) srt hsrt) ?_
 simp only[EVA,seval]
theorem Zo0{v:Int}(h0:0<=v)(h:v<=12):∃ r:Int,∀(lvl:Nat) (S:Sto),Sem Go.Proofs.Tryz.prog QX lvl [.tr (.v (.int .u64 v))] S (iI r) S:=by
 have:v=0\/v=1\/v=2\/v=3\/v=4\/v=5\/v=6\/v=7\/v=8\/v=9\/v=10\/v=11\/v=12:=by omega
 rcases this with rfl | rfl | rfl | rfl | rfl | rfl | rfl | rfl | rfl | rfl | rfl | rfl | rfl
 ·refine⟨0,fun lvl S=>Zb ZG trivial ?_⟩
  simp only[Zz,EVA,seval]
  simp [XP,IntKind.min,IntKind.max,IntKind.signed,IntKind.bits]
 ·refine⟨1,fun lvl S=>Zb ZG trivial ?_⟩
  simp only[Zz,EVA,seval]
  simp [XP,IntKind.min,IntKind.max,IntKind.signed,IntKind.bits]
 ·refine⟨2,fun lvl S=>Zb ZG trivial ?_⟩
  simp only[Zz,EVA,seval]
  simp [XP,IntKind.min,IntKind.max,IntKind.signed,IntKind.bits]
 ·refine⟨2,fun lvl S=>Zb ZG trivial ?_⟩
  simp only[Zz,EVA,seval]
  simp [XP,IntKind.min,IntKind.max,IntKind.signed,IntKind.bits]
 ·refine⟨3,fun lvl S=>Zb ZG trivial ?_⟩
  simp only[Zz,EVA,seval]
  simp [XP,IntKind.min,IntKind.max,IntKind.signed,IntKind.bits]
 ·refine⟨3,fun lvl S=>Zb ZG trivial ?_⟩
  simp only[Zz,EVA,seval]
  simp [XP,IntKind.min,IntKind.max,IntKind.signed,IntKind.bits]
 ·refine⟨3,fun lvl S=>Zb ZG trivial ?_⟩
  simp only[Zz,EVA,seval]
  simp [XP,IntKind.min,IntKind.max,IntKind.signed,IntKind.bits]
 ·refine⟨3,fun lvl S=>Zb ZG trivial ?_⟩
  simp only[Zz,EVA,seval]
  simp [XP,IntKind.min,IntKind.max,IntKind.signed,IntKind.bits]
 ·refine⟨4,fun lvl S=>Zb ZG trivial ?_⟩
  simp only[Zz,EVA,seval]
  simp [XP,IntKind.min,IntKind.max,IntKind.signed,IntKind.bits]
 ·refine⟨4,fun lvl S=>Zb ZG trivial ?_⟩
  simp only[Zz,EVA,seval]
  simp [XP,IntKind.min,IntKind.max,IntKind.signed,IntKind.bits]
 ·refine⟨4,fun lvl S=>Zb ZG trivial ?_⟩
  simp only[Zz,EVA,seval]
  simp [XP,IntKind.min,IntKind.max,IntKind.signed,IntKind.bits]
 ·refine⟨4,fun lvl S=>Zb ZG trivial ?_⟩
  simp only[Zz,EVA,seval]
  simp [XP,IntKind.min,IntKind.max,IntKind.signed,IntKind.bits]
 ·refine⟨4,fun lvl S=>Zb ZG trivial ?_⟩
  simp only[Zz,EVA,seval]
  simp [XP,IntKind.min,IntKind.max,IntKind.signed,IntKind.bits]
theorem Zlq{v:Int}(h0:0<=v)(h:v<=12):∃ r:Int,∀(lvl:Nat) (S:Sto),Sem Go.Proofs.Tryz.prog YT lvl [.tr (.v (.int .u64 v))] S (iI r) S:=by
 obtain⟨r,hr⟩:=Zo0 h0 h
 refine⟨r,fun lvl S=>Zb Zgc trivial ?_⟩
 simp only[Za6,EVA,seval,Zj,men]
 refine Za hr ?_
 simp only[EVA,seval]
theorem Zo1(l:List ByteArray)(hl:l.length<=12)(lvl:Nat)(S:Sto)(id:Oid)(u:Bool)(hw ver:Nat)(hid:id.1<lvl)(hS:S id=some (.ar 1 (rS l) u hw ver))(srt:List ByteArray)(hsrt:∀ x:List ByteArray,x.Perm l->Zi4 e0S ltS x l.length->x=srt) :
  Sem Go.Proofs.Tryz.prog Z2 lvl [.hd id [] 0 l.length none hw] S (.tu []) (ZT S id (.ar 1 (rS srt) u hw ver)):=by
 have hne:id.1≠lvl:=by omega
 obtain⟨r,hr⟩:=Zlq (v:=(l.length:Int)) (by omega) (by omega)
 refine Zb Uo trivial ?_
 simp only[VK,EVA,seval,Zj,men]
 refine⟨⟨by show (0:Int)<=l.length;omega,by show (l.length:Int)<=18446744073709551615;omega⟩,Za hr ?_⟩
 simp only[EVA,seval]
 refine Vy [] (ZT S id (.ar 1 (rS srt) u hw ver)) (fun i hi=>by unfold ZT;rw[if_neg (fun e=>hne (by rw[<-e];exact hi))]) (by
  rw[XX hne]
  exact Zrg l hl r (lvl+1) (ZE lvl [] S) id u hw ver (by omega) (by rw[Jd hne];exact hS) srt hsrt) ?_
 simp only[EVA,seval]
theorem Zkk(l:List ByteArray)(hl:l.length<=4294967290)(lvl:Nat)(S:Sto)(id:Oid)(u:Bool)(hw ver:Nat)(hid:id.1<lvl)(hS:S id=some (.ar 1 (rS l) u hw ver)) :
  ∃ v2,Sem Go.Proofs.Tryz.prog JC lvl [.hd id [] 0 l.length none hw] S (.hd id [] 0 (cz (gS l) l.length).length none hw) (ZT S id (.ar 1 (rS (cz (gS l) l.length)) u hw v2)):=by
 have hne:id.1≠lvl:=by omega
 by_cases hd:∀ m,0<m->m<l.length->gS l m≠gS l (m-1)
 ·refine⟨ver,?_⟩
  rw[Zi5 (Nat.le_refl _) hd,List.take_length,Qp hS]
  refine Zb Y0 hid ?_
  simp only[JL,EVA,seval]
  by_cases h2:(l.length:Int)<2
  ·rw[if_pos h2]
   simp only[Zf4 hne,EVA,seval]
  rw[if_neg h2]
  refine ZU (α:=Unit) l.length (fun k _=>⟨lvl,[(0,.hd id [] 0 l.length none hw),(3,iI ((k+1:Nat):Int))],[],S⟩) (fun k _=>k+1<=l.length) () ⟨by simp only[JW hne,EVA,seval],by (simp only[EVA,seval]) <;> rfl⟩ (by omega) ?_
  intro k _ hk hA
  simp only[EVA,seval]
  refine Zk (fun hlt=>?_) (fun hge=>?_)
  ·have gj:=ZfE (e0:=e0S) (c:=fun n:ByteArray=>[ts n]) (l:=l) (i:=k+1) (by omega)
   have gj1:=ZfE (e0:=e0S) (c:=fun n:ByteArray=>[ts n]) (l:=l) (i:=k) (by omega)
   have l1:k+1<l.length:=by omega
   have l2:k<l.length:=by omega
   have hx:=hd (k+1) (by omega) l1
   rw[Nat.add_sub_cancel] at hx
   have e1:(((k+1:Nat):Int)-1)=(k:Int):=by omega
   simp only[Jd hne,hS,e1,gj,gj1,l1,l2,hx,Nat.zero_add,JW hne,EVA,seval]
   exact⟨by rw[Zd];omega,by rw[Zd];omega,Ze () (by omega) rfl (by omega)⟩
  ·simp only[Zf4 hne,EVA,seval]
 ·refine⟨ver+1,?_⟩
  refine Zb Y0 hid ?_
  simp only[JL,EVA,seval]
  by_cases h2:(l.length:Int)<2
  ·exact absurd (fun m h0 h1=>by omega) hd
  rw[if_neg h2]
  refine ZU (α:=Unit) l.length (fun k _=>⟨lvl,[(0,.hd id [] 0 l.length none hw),(3,iI ((k+1:Nat):Int))],[],S⟩) (fun k _=>k+1<=l.length/\∀ m,0<m->m<k+1->gS l m≠gS l (m-1)) () ⟨by simp only[JW hne,EVA,seval],by (simp only[EVA,seval]) <;> rfl⟩ ⟨by omega,fun m h0 h1=>by omega⟩ ?_
  intro k _ hk ⟨hA,hB⟩
  simp only[EVA,seval]
  refine Zk (fun hlt=>?_) (fun hge=>?_)
  ·have gj:=ZfE (e0:=e0S) (c:=fun n:ByteArray=>[ts n]) (l:=l) (i:=k+1) (by omega)
   have gj1:=ZfE (e0:=e0S) (c:=fun n:ByteArray=>[ts n]) (l:=l) (i:=k) (by omega)
   have l1:k+1<l.length:=by omega
   have l2:k<l.length:=by omega
   have e1:(((k+1:Nat):Int)-1)=(k:Int):=by omega
   by_cases hx:gS l (k+1)=gS l k
   ·have hc1:=Zi5 (l:=l) (n:=k+1) (by omega) hB
    have hc2:cz (gS l) (k+1+1)=cz (gS l) (k+1):=ZtS (by omega) (by rw[Nat.add_sub_cancel];exact hx)
    simp only[Jd hne,hS,e1,gj,gj1,l1,l2,hx,Nat.zero_add,EVA,seval]
    refine⟨by rw[Zd];omega,by omega,Zxh hne hS,?_⟩
    refine ZU (α:=Nat×List ByteArray) l.length (fun m x=>⟨lvl,[(0,.hd id [] 0 l.length none hw),(3,iI (x.1:Int)),(4,.hd id [] (k+1) (l.length-(k+1)) none hw),(5,iI ((m+1:Nat):Int))],[],ZT S id (.ar 1 (rS x.2) u hw ver)⟩) (fun m x=>k+1+m+1<=l.length/\x.2.length=l.length/\x.1=(cz (gS l) (k+1+m+1)).length/\x.2.take x.1=cz (gS l) (k+1+m+1)/\x.1<=k+1+m/\∀ q,k+1+m<=q->gS x.2 q=gS l q) (k+1,l) ⟨by simp only[JW hne,EVA,seval],by (simp only[Qp hS,EVA,seval]) <;> rfl⟩ ⟨by omega,rfl,by rw[Nat.add_zero,hc2,hc1,List.length_take];omega,by rw[Nat.add_zero,hc2,hc1],by omega,fun _ _=>rfl⟩ ?_
    intro m ⟨i,y⟩ hm ⟨hm1,hy,hi,ht,hle,hq⟩
    dsimp only at hy hi ht hle hq
    simp only[EVA,seval]
    refine Zk (fun hlt2=>?_) (fun hge2=>?_)
    ·have b1:k+1+(m+1)<l.length:=by omega
     have b2:m+1<l.length-(k+1):=by omega
     have b3:m<l.length-(k+1):=by omega
     have gy:=ZfE (e0:=e0S) (c:=fun n:ByteArray=>[ts n]) (l:=y) (i:=k+1+(m+1)) (by omega)
     have gy1:=ZfE (e0:=e0S) (c:=fun n:ByteArray=>[ts n]) (l:=y) (i:=k+1+m) (by omega)
     have q1:=hq (k+1+(m+1)) (by omega)
     have q2:=hq (k+1+m) (by omega)
     have e2:(((m+1:Nat):Int)-1)=(m:Int):=by omega
     have b4:i<l.length:=by omega
     by_cases hx2:gS l (k+1+(m+1))=gS l (k+1+m)
     ·have hc3:cz (gS l) (k+1+(m+1)+1)=cz (gS l) (k+1+m+1):=ZtS (by omega) hx2
      simp only[Jd hne,V5,e2,gy,gy1,q1,q2,b2,b3,hx2,JW hne,EVA,seval]
      exact⟨by rw[Zd];omega,by rw[Zd];omega,Ze (i,y) (by omega) rfl ⟨by omega,hy,by rw[show k+1+(m+1)+1=k+1+(m+1)+1 from rfl,hc3];exact hi,by rw[hc3];exact ht,by show i<=k+1+(m+1);omega,fun q hqq=>hq q (by omega)⟩⟩
     ·have hc3:cz (gS l) (k+1+(m+1)+1)=cz (gS l) (k+1+m+1)++[gS l (k+1+(m+1))]:=ZBJ hx2
      have s1:=Zre (y:=y) (j:=i) (v:=gS l (k+1+(m+1))) (by omega)
      have gy0:=ZfE (e0:=e0S) (c:=fun n:ByteArray=>[ts n]) (l:=y) (i:=i) (by omega)
      simp only[Jd hne,VU hne,J8,V5,e2,gy,gy0,gy1,q1,q2,b2,b3,b4,hx2,s1,Nat.zero_add,JW hne,EVA,seval]
      exact⟨by rw[Zd];omega,by rw[Zd];omega,by rw[Zd];omega,Ze (i+1,y.set i (gS l (k+1+(m+1)))) (by omega) rfl ⟨by omega,by rw[List.length_set];exact hy,by rw[hc3,List.length_append,<-hi];rfl,by rw[Zdq (by omega),ht,hc3],by show i+1<=k+1+(m+1);omega,fun q hqq=>by
       show gx e0S (y.set i (gS l (k+1+(m+1)))) q=_
       rw[Zmw (by omega),if_neg (by omega)]
       exact hq q (by omega)⟩⟩
    ·have en:k+1+m+1=l.length:=by omega
     rw[en] at hi ht
     refine⟨by omega,Zxh hne (V5 ..),?_⟩
     have tk:(rS y).take i=rS (cz (gS l) l.length):=by rw[<-ht];exact(List.map_take ..).symm
     simp only[Jd hne,VU hne,J8,V5,tk,List.length_map,hy,EVA,seval]
     refine⟨by omega,by omega,by omega,by omega,Zxh hne (V5 ..),?_⟩
     simp only[Zf4 hne,Nat.sub_zero,hi,EVA,seval]
   ·simp only[Jd hne,hS,e1,gj,gj1,l1,l2,hx,Nat.zero_add,JW hne,EVA,seval]
    exact⟨by rw[Zd];omega,by rw[Zd];omega,Ze () (by omega) rfl ⟨by omega,fun m h0 h1=>by
     by_cases e:m=k+1
     ·subst e;exact hx
     ·exact hB m h0 (by omega)⟩⟩
  ·exact absurd (fun m h0 h1=>hB m h0 (by omega)) hd
end Go.Fd

/-
  SORTING STRINGS, ANY NUMBER OF THEM, BY THE GUIDE'S CONTRACT. Own work.
-/
namespace Go.Fd
set_option maxRecDepth 20000
theorem Zxj:∀(x y:List UInt8),x<y↔Op.bytesLess x y=true
 | [],[]=>by simp [Op.bytesLess]
 | [],_::_=>by simp [Op.bytesLess]
 | _::_,[]=>by simp [Op.bytesLess]
 | a::x,b::y=>by
  rw[List.cons_lt_cons_iff,Zxj x y]
  simp [Op.bytesLess]
abbrev bsL(s:ByteArray):List UInt8:=s.data.toList
abbrev lbS(l:List UInt8):ByteArray:=⟨l.toArray⟩
theorem Zxk{s:ByteArray}:lbS (bsL s)=s:=by simp [lbS,bsL]
theorem Zse{l:List ByteArray}:Zqg Go.Proofs.encStr (l.map bsL)=rS l:=by
 simp only[Zqg,List.map_map]
 refine List.map_congr_left fun s _=>?_
 show [Tr.v (Value.string (lbS (bsL s)))]=_
 rw[Zxk]
theorem Zxl(l:List ByteArray):(l.map bsL).mergeSort (fun x y=>decide (x<=y))=(Zlp ltS l).map bsL:=by
 have e1:((l.map bsL).mergeSort (fun x y=>decide (x<=y))).map lbS=Zlp ltS l:=by
  refine Zgt ordsS ?_ (Zgu ordsS) (List.Perm.trans ?_ srtG_perm.symm)
  ·rw[List.pairwise_map]
   have h:=List.pairwise_mergeSort (le:=fun x y:List UInt8=>decide (x<=y)) (fun a b c h1 h2=>by simp only[decide_eq_true_eq] at *;exact List.le_trans h1 h2) (fun a b=>by simp only[Bool.or_eq_true,decide_eq_true_eq];exact List.le_total a b) (l.map bsL)
   refine h.imp fun {x y} h=>?_
   simp only[decide_eq_true_eq] at h
   intro hlt
   exact h ((Zxj y x).2 hlt)
  ·have h:=(List.mergeSort_perm (l.map bsL) (fun x y=>decide (x<=y))).map lbS
   rw[List.map_map] at h
   have:l.map (lbS ∘ bsL)=l:=by
    rw[show (lbS ∘ bsL)=id from funext fun s=>Zxk]
    exact List.map_id l
   rwa [this] at h
 rw[<-e1,List.map_map]
 rw[show (bsL ∘ lbS)=id from funext fun s=>by simp [bsL]]
 exact(List.map_id _).symm
theorem Zi7(l:List ByteArray)(hl:l.length<=4294967296)(lvl:Nat)(S:Sto)(id:Oid)(u:Bool)(hw ver:Nat)(hid:id.1<lvl)(hS:S id=some (.ar 1 (rS l) u hw ver)) :
  Sem Go.Proofs.Tryz.prog Z2 lvl [.hd id [] 0 l.length none hw] S (.tu []) (ZT S id (.ar 1 (rS (Zlp ltS l)) u hw ver)):=by
 by_cases hs:l.length<=12
 ·exact Zo1 l hs lvl S id u hw ver hid hS _ fun x hp hu=>Zrc ordsS hp hu
 ·have h:=Zj1 (P:=Go.Proofs.Tryz.prog) (f:=Z2) (lvl:=lvl) (S:=S) (id:=id) (xs:=l.map bsL) (ys:=(Zlp ltS l).map bsL) (enc:=Go.Proofs.encStr) (u:=u) (hw:=hw) (ver:=ver) (Zi1 (by kernel_rfl)) hid (by rw[Zse];exact hS) (fun _=>rfl) (by rw[List.length_map,List.length_map,srtG_perm.length_eq])
   (fun h=>absurd (congrArg List.length h) (by rw[List.length_map];show ¬ l.length=0;omega))
   (fun _ b cap w hH hb=>by
    have:=Go.Proofs.Any.slices_Sort_string Go.Proofs.Tryz.lays190 b 0 cap (l.map bsL) w hH hb (by rw[List.length_map];omega)
    rw[Zxl] at this
    exact this)
  rw[Zse,List.length_map] at h
  exact h
end Go.Fd

/-
  CHILDREN, POINTS, REDEXES, BOTH SIDES. Own work.
-/
namespace Go.Fd
set_option maxRecDepth 20000
def ZBK(l:Int)(i:Nat)(ls:List Int):Nat->List (Int×Int)
 | 0=>[]
 | k+1=>if g0 ls k=l then ZBK l i ls k++[((i:Int),(k:Int))] else ZBK l i ls k
def Zo2(b:TBigraph)(j:Nat):List Int:=((b.nodes[j]?).map TNode.links).getD []
def Zsf(b:TBigraph)(l:Int):Nat->List (Int×Int)
 | 0=>[]
 | i+1=>Zsf b l i++ZBK l i (Zo2 b i) (Zo2 b i).length
def ports(b:TBigraph)(l:Int):List (Int×Int):=Zsf b l b.nodes.length
def ZDC(b:TBigraph)(j:Nat):Int:=((b.inner[j]?).map TWire.link).getD 0
def ZDD(b:TBigraph)(j:Nat):ByteArray:=((b.inner[j]?).map TWire.name).getD ⟨#[]⟩
def ZtT(b:TBigraph)(l:Int):Nat->List ByteArray
 | 0=>[]
 | j+1=>if ZDC b j=l then ZtT b l j++[ZDD b j] else ZtT b l j
def ZDE(b:TBigraph)(l:Int):List ByteArray:=ZtT b l b.inner.length
end Go.Fd

/-
  REDEXES, BOTH SIDES. Own work.
-/
namespace Go.Fd
set_option maxRecDepth 20000
def idle(b:TBigraph)(l:Int):Prop:=(ports b l).length=0/\(ZDE b l).length=0
structure small (b:TBigraph):Prop where
 nodes:b.nodes.length<=8
 links:∀ x∈b.nodes,x.links.length<=1000
 sites:b.sites.length<=4
 outer:b.outer.length<=16
 inner:b.inner.length<=16
 roots:0<=b.roots/\b.roots<=4
 edges:0<=b.edges/\b.edges<=8
theorem Znf{sig:List TControl}(h:YI sig)(c:Int):Y8 sig c<=3:=by
 unfold Y8
 cases e:sig[c.toNat]? with
 | none=>decide
 | some x =>
  obtain⟨hl,rfl⟩:=List.getElem?_eq_some_iff.1 e
  exact((h.1 _ hl).1).2.1.2
theorem bigOK.small{sig:List TControl}{b:TBigraph}(h:bigOK sig b):small b :=
 ⟨h.nodesL,fun x hx=>by
  obtain⟨k,hk,rfl⟩:=List.getElem_of_mem hx
  have h1:=(h.nodes k hk).ports
  have h2:=Znf h.sg b.nodes[k].control
  omega,h.sitesL,h.outer.2,by have:=h.inn.2;rw[Zeo] at this;exact this,h.roots,h.edges⟩
end Go.Fd

/-
  SORTINGS, BOTH SIDES: VALID, FREE, FINER. Own work.
-/
namespace Go.Fd
set_option maxRecDepth 20000
def WI(n:Nat):List Int:=(List.range n).map fun i:Nat=>(i:Int)
theorem Y9{n:Nat}:(WI n).length=n:=by simp [WI]
theorem Yn{es:Row}{n:Nat}(h:es.length=n):cut es 0 n=es:=by
 simp only[cut,List.drop_zero]
 exact List.take_of_length_le (by omega)
end Go.Fd

/-
  LINKS THAT ARE TURNED: WHAT COMPOSITION COMPUTES, IN PLAIN TERMS. Own work.
-/
namespace Go.Fd
set_option maxRecDepth 20000
def ZfF(b:TBigraph)(l:Int):Int×ByteArray:=if l<b.edges then (l,e0S) else (0,gS b.outer (l-b.edges).toNat)
def ixS(l:List ByteArray)(s:ByteArray):Int:=ixF (fun x=>decide (s=x)) l 0
def Zdr(b:TBigraph)(e:Int)(o:List ByteArray)(T:Int×ByteArray->Int×ByteArray)(l:Int):Int:=if (T (ZfF b l)).2=e0S then (T (ZfF b l)).1 else e+ixS o (T (ZfF b l)).2
def Dk(b:TBigraph)(F:Int->Int)(e:Int)(o:List ByteArray):TBigraph:=⟨b.roots,b.nodes.map fun x=>⟨x.control,x.parent,x.links.map F⟩,b.sites,e,o,b.inner.map fun w=>⟨w.name,F w.link⟩⟩
theorem Zi8{α:Type}{f:α->Bool}:∀{l:List α} {j:Int},(ixF f l j = -1/\∀ x∈l,f x=false)\/∃ i,∃ h:i<l.length,ixF f l j=j+i/\(∀ x∈l.take i,f x=false)/\f l[i]=true
 | [],j=>.inl ⟨rfl,fun _ h=>by cases h⟩
 | x::r,j=>by
  rw[WR]
  cases hx:f x with
  | true=>exact .inr ⟨0,by simp,by simp,by simp,hx⟩
  | false =>
   rcases Zi8 (f:=f) (l:=r) (j:=j+1) with ⟨h1,h2⟩ | ⟨i,h,h1,h2,h3⟩
   ·exact .inl ⟨by simp [h1],fun y hy=>by
     rcases List.mem_cons.1 hy with rfl | hy
     ·exact hx
     ·exact h2 y hy⟩
   ·refine .inr ⟨i+1,by simpa using h,by simp only[Bool.false_eq_true,if_false,h1];omega,fun y hy=>?_,by simpa using h3⟩
    rw[List.take_succ_cons] at hy
    rcases List.mem_cons.1 hy with rfl | hy
    ·exact hx
    ·exact h2 y hy
theorem ZhP{α:Type}{f:α->Bool}{l:List α}(h:∀ x∈l,f x=false):(l.filter fun n=>!f n)=l:=List.filter_eq_self.2 fun x hx=>by simp [h x hx]
theorem Zgv{α:Type}{f:α->Bool}{l:List α}{j:Nat}(h:j<l.length):((l.take (j+1)).filter fun n=>!f n)=((l.take j).filter fun n=>!f n)++if f l[j]=true then [] else [l[j]]:=by
 rw[List.take_succ_eq_append_getElem h,List.filter_append]
 cases hx:f l[j] <;> simp [hx]
theorem Zsg{α:Type}{f:α->Bool}:∀{l:List α} {i:Nat} {j:Int} (h:i<l.length),f l[i]=true->(∀ k (hk:k<i),f (l[k]'(by omega))=false)->ixF f l j=j+i
 | [],_,_,h,_,_=>by simp at h
 | x::r,0,j,_,h1,_=>by
  have:f x=true:=h1
  rw[WR,if_pos this];omega
 | x::r,i+1,j,h,h1,h2=>by
  have:f x=false:=h2 0 (by omega)
  rw[WR,this,if_neg (by decide)]
  rw[Zsg (i:=i) (by simpa using h) (by simpa using h1) fun k hk=>by
   have:=h2 (k+1) (by omega)
   simpa using this]
  omega
theorem Zmy{α:Type}{f:α->Bool}:∀{l:List α} {j:Int},(∀ x∈l,f x=false)->ixF f l j = -1
 | [],_,_=>rfl
 | x::r,j,h=>by
  rw[WR,h x (by simp),if_neg (by decide)]
  exact Zmy fun y hy=>h y (by simp [hy])
theorem Zxm{l:List ByteArray}(h:l.Pairwise ltS){i j:Nat}(hi:i<l.length)(hj:j<l.length)(e:l[i]=l[j]):i=j:=by
 rcases Nat.lt_trichotomy i j with g | g | g
 ·have:=List.pairwise_iff_getElem.1 h i j hi hj g
  rw[e] at this
  exact absurd this (ordsS.irr _)
 ·exact g
 ·have:=List.pairwise_iff_getElem.1 h j i hj hi g
  rw[e] at this
  exact absurd this (ordsS.irr _)
theorem Zxn{l:List ByteArray}(h:l.Pairwise ltS){i:Nat}(hi:i<l.length):ixS l l[i]=i:=by
 unfold ixS
 rw[Zsg hi (by simp) fun k hk=>by
  simp only[decide_eq_false_iff_not]
  intro e
  have:=Zxm h hi (by omega) e
  omega]
 omega
theorem Zmz{l:List ByteArray}{s:ByteArray}(h:s ∉ l):ixS l s = -1:=Zmy fun x hx=>by
 simp only[decide_eq_false_iff_not]
 intro e
 exact h (e ▸ hx)
theorem ixS_nn{l:List ByteArray}{s:ByteArray}:0<=ixS l s↔s∈l:=by
 unfold ixS
 rw[Zi0 (Int.le_refl 0)]
 simp
theorem ZmA{l:List ByteArray}{s:ByteArray}(h:s∈l):ixS l s<l.length:=by
 rcases Zi8 (f:=fun x=>decide (s=x)) (l:=l) (j:=0) with ⟨_,h2⟩ | ⟨i,hi,h1,_⟩
 ·have:=h2 s h
  simp at this
 ·unfold ixS
  rw[h1];omega
theorem Zi9{l:List ByteArray}(h:VM l):l.Pairwise ltS:=by
 have key:∀ d i (hi:i+d+1<l.length),ltS (l[i]'(by omega)) (l[i+d+1]'hi):=fun d=>by
  induction d with
  | zero =>
   intro i hi
   exact(h.1 (i+0+1) hi).2 (by omega)
  | succ d ih =>
   intro i hi
   have h1:=ih i (by omega)
   have h2:=(h.1 (i+(d+1)+1) hi).2 (by omega)
   exact ordsS.tr _ _ _ h1 h2
 refine List.pairwise_iff_getElem.2 fun i j hi hj hij=>?_
 have:=key (j-i-1) i (by omega)
 simp only[show i+(j-i-1)+1=j from by omega] at this
 exact this
theorem ZbE{l:List ByteArray}(h:VM l){s:ByteArray}(hs:s∈l):s≠e0S:=by
 obtain⟨i,hi,rfl⟩:=List.getElem_of_mem hs
 intro e
 have:=(h.1 i hi).1.2.1
 rw[e] at this
 exact absurd this (by decide)
theorem ZhQ{b:TBigraph}{l:Int}(h:l<b.edges):ZfF b l=(l,e0S):=if_pos h
theorem ZhR{b:TBigraph}{i:Nat}(h:i<b.outer.length):ZfF b (b.edges+i)=(0,b.outer[i]):=by
 unfold ZfF
 rw[if_neg (by omega),show (b.edges+(i:Int)-b.edges).toNat=i from by omega]
 rw[show gS b.outer i=b.outer[i] from UC h]
theorem Yb{b:TBigraph}{l:Int}(h:ZX b l):(0<=l/\l<b.edges)\/∃ i:Nat,∃ _:i<b.outer.length,l=b.edges+i:=by
 unfold ZX at h
 by_cases hl:l<b.edges
 ·exact .inl ⟨h.1,hl⟩
 ·exact .inr ⟨(l-b.edges).toNat,by omega,by omega⟩
theorem ZhS{sig:List TControl}{b:TBigraph}(h:bigOK sig b){F F':Int->Int}{e:Int}{o:List ByteArray}(hF:∀ l,ZX b l->F l=F' l):Dk b F e o=Dk b F' e o:=by
 unfold Dk
 congr 1
 ·refine List.map_congr_left fun x hx=>?_
  obtain⟨i,hi,rfl⟩:=List.getElem_of_mem hx
  have hn:=h.nodes i hi
  congr 1
  exact List.map_congr_left fun l hl=>hF l (hn.links l hl)
 ·refine List.map_congr_left fun w hw=>?_
  rw[hF _ (h.inner w hw)]
def ZmB(b:TBigraph)(f:Int->Int)(g:ByteArray->Int):List Int:=(WI b.edges.toNat).map f++b.outer.map g
theorem Zcj{b:TBigraph}{f:Int->Int}{g:ByteArray->Int}{l:Int}(h0:0<=l)(h:l<b.edges):g0 (ZmB b f g) l.toNat=f l:=by
 have hl:l.toNat<(WI b.edges.toNat).length:=by rw[Y9];omega
 have hx:l.toNat<((WI b.edges.toNat).map f).length:=by rw[List.length_map];exact hl
 show (ZmB b f g).getD l.toNat 0=_
 unfold ZmB
 rw[List.getD_eq_getElem?_getD,List.getElem?_append_left hx,List.getElem?_map]
 simp [WI,List.getElem?_map,List.getElem?_range (show l.toNat<b.edges.toNat by omega)]
 congr 1
 omega
theorem Zck{b:TBigraph}{f:Int->Int}{g:ByteArray->Int}(hb:0<=b.edges){i:Nat}(h:i<b.outer.length):g0 (ZmB b f g) (b.edges+i).toNat=g b.outer[i]:=by
 have hl:((WI b.edges.toNat).map f).length=b.edges.toNat:=by rw[List.length_map,Y9]
 show (ZmB b f g).getD _ 0=_
 unfold ZmB
 rw[List.getD_eq_getElem?_getD,List.getElem?_append_right (by rw[hl];omega),hl,List.getElem?_map,show (b.edges+(i:Int)).toNat-b.edges.toNat=i from by omega,List.getElem?_eq_getElem h]
 rfl
def QZ(o:List ByteArray)(s:ByteArray):List ByteArray:=o.filter fun x=>!decide (x=s)
theorem lessN_mem{o:List ByteArray}{s c:ByteArray}:c∈QZ o s↔c∈o/\c≠s:=by simp [QZ]
theorem Zrh{o:List ByteArray}{s:ByteArray}(h:o.Pairwise ltS):(QZ o s).Pairwise ltS:=h.filter _
noncomputable def Vu(l:List ByteArray):List ByteArray:=Zut e0S ltS l
def ZhT(b:TBigraph)(s:ByteArray)(e:Int×ByteArray):Int×ByteArray:=if e.2=s then (b.edges,e0S) else e
def DA(b:TBigraph)(s:ByteArray):List Int:=ZmB b (fun l=>l) fun x=>if x=s then b.edges else b.edges+1+ixS (QZ b.outer s) x
def XK(b:TBigraph)(s:ByteArray):TBigraph:=Dk b (fun l=>g0 (DA b s) l.toNat) (b.edges+1) (QZ b.outer s)
theorem Zri{sig:List TControl}{b:TBigraph}{s:ByteArray}(h:bigOK sig b)(hs:s∈b.outer):Dk b (Zdr b (b.edges+1) (Vu (QZ b.outer s)) (ZhT b s)) (b.edges+1) (Vu (QZ b.outer s))=XK b s:=by
 have hp:=Zi9 h.outer
 have e1:Vu (QZ b.outer s)=QZ b.outer s:=Zi6 ordsS (Zrh hp) fun _=>Iff.rfl
 rw[e1]
 refine ZhS h fun l hl=>?_
 unfold DA
 have hse:=ZbE h.outer hs
 rcases Yb hl with ⟨h0,h1⟩ | ⟨i,hi,rfl⟩
 ·rw[Zcj h0 h1]
  unfold Zdr ZhT
  rw[ZhQ h1]
  simp [Ne.symm hse]
 ·rw[Zck h.edges.1 hi]
  unfold Zdr ZhT
  rw[ZhR hi]
  have hne:=ZbE h.outer (List.getElem_mem hi)
  by_cases he:b.outer[i]=s
  ·simp [he]
  ·simp [he,hne]
end Go.Fd

/-
  LINKS THAT ARE TURNED, THE PROGRAM'S SIDE. Own work.
-/
namespace Go.Fd
set_option maxRecDepth 20000
theorem Zo3{l:List ByteArray}:ScR (rS l)=True:=eq_true fun e he t ht=>by
 obtain⟨n,_,rfl⟩:=List.mem_map.1 he
 simp only[List.mem_cons,List.not_mem_nil,or_false] at ht
 subst ht
 rfl
theorem Zo4{l:List ByteArray}:UnR 1 (rS l)=True:=eq_true (Zcn (fun n:ByteArray=>[ts n]) (fun _=>rfl) l)
theorem Zds{l:List Int}:ScR (rI l)=True:=eq_true fun e he t ht=>by
 obtain⟨n,_,rfl⟩:=List.mem_map.1 he
 simp only[List.mem_cons,List.not_mem_nil,or_false] at ht
 subst ht
 rfl
theorem Zdt{l:List Int}:UnR 1 (rI l)=True:=eq_true (Zcn (fun n:Int=>[tv n]) (fun _=>rfl) l)
theorem Zxo{l:List TWire}:ScR (l.map ZP)=True:=eq_true fun e he t ht=>by
 obtain⟨n,_,rfl⟩:=List.mem_map.1 he
 simp only[ZP,List.mem_cons,List.not_mem_nil,or_false] at ht
 rcases ht with rfl | rfl <;> rfl
theorem Zxp{l:List TWire}:UnR 2 (l.map ZP)=True:=eq_true (Zcn ZP (fun _=>rfl) l)
theorem Zad(l:List Int)(hl:l.length<=4294967296)(lvl:Nat)(S:Sto):Sem Go.Proofs.Tryz.prog Z7 lvl [tI l] S (.ow 1 (rI l) true) S:=by
 refine Zb ZaJ trivial ?_
 simp only[XR,List.length_map,Zds,Zdt,EVA,seval]
 exact⟨hl,fun h=>by rw[h]⟩
theorem ZbF(l:List ByteArray)(hl:l.length<=4294967296)(lvl:Nat)(S:Sto):Sem Go.Proofs.Tryz.prog ZJ lvl [.tr (.sl (rS l))] S (.ow 1 (rS l) true) S:=by
 refine Zb WP trivial ?_
 simp only[Vr,List.length_map,Zo3,Zo4,EVA,seval]
 exact⟨hl,fun h=>by rw[h]⟩
theorem Zng(l:List TWire)(hl:l.length<=4294967296)(lvl:Nat)(S:Sto):Sem Go.Proofs.Tryz.prog Jg lvl [.tr (.sl (l.map ZP))] S (.ow 2 (l.map ZP) true) S:=by
 refine Zb Q8 trivial ?_
 simp only[Ym,List.length_map,Zxo,Zxp,EVA,seval]
 exact⟨hl,fun h=>by rw[h]⟩
theorem Zbi(l:List ByteArray)(hl:l.length<=4294967290)(lvl:Nat)(S:Sto):Sem Go.Proofs.Tryz.prog YP lvl [.tr (.sl (rS l))] S (.ow 1 (rS (Vu l)) true) S:=by
 refine Zb Zdn trivial ?_
 simp only[UP,EVA,seval,Zj,men]
 refine Za (ZbF l (by omega)) ?_
 simp only[EVA,seval]
 have hp:(Zlp ltS l).length=l.length:=srtG_perm.length_eq
 have s1:=fun S' hS=>Zi7 l (by omega) (lvl+1) S' (lvl,160) true l.length 0 (Nat.lt_succ_self _) hS
 refine Zi3 160 _ (s1 _ ?_) ?_
 ·rw[Yt];rfl
 simp only[EVA,seval]
 have s2:=fun S' hS=>Zkk (Zlp ltS l) (by omega) (lvl+1) S' (lvl,160) true l.length 0 (Nat.lt_succ_self _) hS
 rw[show ZgU (IV.hd (lvl,160) [] 0 l.length none l.length)=IV.hd (lvl,160) [] 0 (Zlp ltS l).length none l.length from by rw[hp];rfl]
 refine Zmv 160 _ (s2 _ ?_) fun v=>?_
 ·rw[Yt];rfl
 simp only[List.length_map,EVA,seval]
 rfl
abbrev oE(e:Int×ByteArray):IV:=.ag [iI e.1,iS e.2]
theorem Zo5(b:TBigraph)(l:Int)(he:0<=b.edges)(hl:ZX b l)(ho:b.outer.length<=4294967296)(hb:b.edges<=4294967296)(lvl:Nat)(S:Sto):Sem Go.Proofs.Tryz.prog Vl lvl [.ag ((Zc b).map .tr),iI l] S (oE (ZfF b l)) S:=by
 refine Zb ZbN (by simp [low,men,Zj]) ?_
 simp only[WG,Zc,EVA,seval]
 rcases Yb hl with ⟨h0,h1⟩ | ⟨i,hi,rfl⟩
 ·rw[ZhQ h1]
  simp only[h1,seval]
  try rfl
 ·rw[ZhR hi]
  have h1:¬ b.edges+(i:Int)<b.edges:=by omega
  have ga:=ZfE (e0:=e0S) (c:=fun n:ByteArray=>[ts n]) hi
  have e1:b.edges+(i:Int)-b.edges=i:=by omega
  rw[UC hi] at ga
  simp only[h1,e1,ga,EVA,seval]
  rw[Zd];omega
theorem Wb(b:TBigraph)(hb:Zp 4294967290 b)(lvl:Nat)(S:Sto):Sem Go.Proofs.Tryz.prog JF lvl [.ag ((Zc b).map .tr)] S (Zg b) S:=by
 obtain⟨b1,b2,b3,b4,b5,b6,b7⟩:=hb
 refine Zb Zef (by simp [Zg,low,men,Zj]) ?_
 simp only[Dt,Zc,EVA,seval,Zj,men]
 refine Za (Zad b.sites (by omega)) ?_
 simp only[List.length_map,EVA,seval,Zj,men]
 refine Za (ZbF b.outer (by omega)) ?_
 simp only[List.length_map,EVA,seval,Zj,men]
 refine Za (Zng b.inner (by omega)) ?_
 simp only[List.length_map,EVA,seval]
 refine ZH (α:=Unit) b.nodes.length (fun j _=>[(23,iI j)]) (fun j _=>[(96,.bx [iI b.roots,.hd (lvl,608) [] 0 j none j,.hd (lvl,320) [] 0 b.sites.length none b.sites.length,iI b.edges,.hd (lvl,480) [] 0 b.outer.length none b.outer.length,.hd (lvl,576) [] 0 b.inner.length none b.inner.length]),(608,.ar 3 ((b.nodes.take j).map ZO) true j 0)]) (fun _ _=>True) () (by simp only[EVA,seval]) (by (simp only[EVA,seval]) <;> rfl) trivial ?_
 intro j _ hj _
 simp only[List.length_map,EVA,seval]
 refine Zk (fun hlt=>?_) (fun hge=>?_)
 ·have hja:j<b.nodes.length:=by omega
  have ga:=Db (c:=ZO) hja
  have k2:b.nodes[j].links.length<=4294967290:=b2 _ (List.getElem_mem hja)
  have hl1:((b.nodes.take j).map ZO).length=j:=by rw[List.length_map,List.length_take];omega
  have st1:(b.nodes.take j).map ZO++[[Tr.v (Value.int .i64 b.nodes[j].control),Tr.v (Value.int .i64 b.nodes[j].parent),Tr.sl (rI b.nodes[j].links)]]=(b.nodes.take (j+1)).map ZO:=by
   rw[List.take_succ_eq_append_getElem hja,List.map_append]
   rfl
  simp only[ga,ZO,EVA,seval,Zj,men]
  refine Za (Zad b.nodes[j].links (by omega)) ?_
  have hl2:(List.map (fun x=>[Tr.v (Value.int .i64 x.control),Tr.v (Value.int .i64 x.parent),Tr.sl (rI x.links)]) (b.nodes.take j)).length=j:=by rw[List.length_map,List.length_take];omega
  simp only[hl1,st1,EVA,seval]
  exact⟨by omega,by rw[Zd];omega,Ze () hja rfl trivial⟩
 ·have:j=b.nodes.length:=by omega
  subst this
  rw[List.take_length]
  exact⟨rfl,rfl⟩
end Go.Fd

/-
  LINKS THAT ARE TURNED, THE REFERENCE'S SIDE. Own work.
-/
namespace Go.Fd
set_option maxRecDepth 20000
theorem Zae(l:List ByteArray)(s:ByteArray)(hl:l.length<=4294967296)(lvl:Nat)(S:Sto):Sem Go.Proofs.Tryz.prog Yw lvl [.tr (.sl (rS l)),iS s] S (iI (ixS l s)) S:=by
 refine Zb Zlj trivial ?_
 simp only[Zf9,EVA,seval]
 refine ZH (α:=Unit) l.length (fun j _=>[(5,iI j)]) (fun _ _=>[]) (fun j _=>ixF (fun x=>decide (s=x)) (l.drop j) j=ixS l s) () (by simp only[EVA,seval]) (by (simp only[EVA,seval]) <;> rfl) rfl ?_
 intro j _ hj hA
 simp only[List.length_map,EVA,seval]
 refine Zk (fun hlt=>?_) (fun hge=>?_)
 ·have hja:j<l.length:=by omega
  have ga:=ZfE (e0:=e0S) (c:=fun n:ByteArray=>[ts n]) hja
  rw[UC hja] at ga
  rw[Zdp hja,WR] at hA
  by_cases h:l[j]=s
  ·rw[if_pos (by simp [h])] at hA
   simp only[ga,h,EVA,seval]
   rw[<-hA]
  ·rw[if_neg (by simp;exact fun e=>h e.symm)] at hA
   simp only[ga,h,EVA,seval]
   exact⟨by rw[Zd];omega,Ze () hja rfl hA⟩
 ·have:j=l.length:=by omega
  subst this
  rw[List.drop_length] at hA
  rw[<-hA]
  rfl
theorem Znh{o:List ByteArray}{s:ByteArray}{j:Nat}(h:j<o.length):QZ (o.take (j+1)) s=QZ (o.take j) s++if o[j]=s then [] else [o[j]]:=by
 unfold QZ
 rw[List.take_succ_eq_append_getElem h,List.filter_append]
 by_cases e:o[j]=s <;> simp [e]
theorem Zni(o:List ByteArray)(s:ByteArray)(ho:o.length<=4294967290)(lvl:Nat)(S:Sto):Sem Go.Proofs.Tryz.prog Uh lvl [.tr (.sl (rS o)),iS s] S (.ow 1 (rS (QZ o s)) true) S:=by
 refine Zb ZiW trivial ?_
 simp only[Zdh,EVA,seval]
 refine ZH (α:=Unit) o.length (fun j _=>[(5,.hd (lvl,224) [] 0 (QZ (o.take j) s).length none (QZ (o.take j) s).length),(6,iI j)]) (fun j _=>[(224,.ar 1 (rS (QZ (o.take j) s)) true (QZ (o.take j) s).length 0)]) (fun _ _=>True) () (by simp only[EVA,seval]) (by (simp only[EVA,seval]) <;> rfl) trivial ?_
 intro j _ hj _
 simp only[List.length_map,EVA,seval]
 refine Zk (fun hlt=>?_) (fun hge=>?_)
 ·have hja:j<o.length:=by omega
  have ga:=ZfE (e0:=e0S) (c:=fun n:ByteArray=>[ts n]) hja
  rw[UC hja] at ga
  have hs:=Znh (s:=s) hja
  have hle:(QZ (o.take j) s).length<=j:=Nat.le_trans (List.length_filter_le ..) (by rw[List.length_take];omega)
  by_cases h:o[j]=s
  ·rw[if_pos h,List.append_nil] at hs
   simp only[ga,h,EVA,seval]
   exact⟨by rw[Zd];omega,Ze () hja (by rw[hs];rfl) trivial⟩
  ·rw[if_neg h] at hs
   simp only[ga,h,List.length_map,EVA,seval]
   exact⟨by omega,by rw[Zd];omega,Ze () hja (by rw[hs,List.length_append,ZhO];rfl) trivial⟩
 ·have:j=o.length:=by omega
  subst this
  rw[List.take_length]
def UD(a:Int)(n:Nat):List Int:=(List.range n).map fun i:Nat=>a+i
theorem Znj{a:Int}{n:Nat}:UD a (n+1)=UD a n++[a+n]:=by simp [UD,List.range_succ]
theorem fromN_len{a:Int}{n:Nat}:(UD a n).length=n:=by simp [UD]
theorem Up(a:Int)(n:Nat)(ha:-4294967296<=a/\a<=4294967296)(hn:n<=4294967290)(lvl:Nat)(S:Sto):Sem Go.Proofs.Tryz.prog JS lvl [iI a,iI n] S (.ow 1 (rI (UD a n)) true) S:=by
 refine Zb Zhe trivial ?_
 simp only[Zcc,EVA,seval]
 refine ZH (α:=Unit) n (fun j _=>[(5,.hd (lvl,224) [] 0 j none j),(6,iI j)]) (fun j _=>[(224,.ar 1 (rI (UD a j)) true j 0)]) (fun _ _=>True) () (by simp only[EVA,seval]) (by (simp only[EVA,seval]) <;> rfl) trivial ?_
 intro j _ hj _
 simp only[List.length_map,EVA,seval]
 refine Zk (fun hlt=>?_) (fun hge=>?_)
 ·have hl:=fromN_len (a:=a) (n:=j)
  have hs:rI (UD a j)++[[Tr.v (.int .i64 (a+j))]]=rI (UD a (j+1)):=by rw[Znj,Vt];rfl
  simp only[hl,hs,EVA,seval]
  exact⟨by rw[Zd];omega,by omega,by rw[Zd];omega,Ze () (by omega) rfl trivial⟩
 ·have:j=n:=by omega
  subst this
  exact⟨fromN_len.symm,rfl⟩
def JI(a:Int)(n:Nat):List Int:=(List.range n).map fun i:Nat=>-1-a-i
theorem Zlr{a:Int}{n:Nat}:JI a (n+1)=JI a n++[-1-a-n]:=by simp [JI,List.range_succ]
theorem rootsN_len{a:Int}{n:Nat}:(JI a n).length=n:=by simp [JI]
theorem Zaf(a:Int)(n:Nat)(ha:-4294967296<=a/\a<=4294967296)(hn:n<=4294967290)(lvl:Nat)(S:Sto):Sem Go.Proofs.Tryz.prog Yo lvl [iI a,iI n] S (.ow 1 (rI (JI a n)) true) S:=by
 refine Zb Zhg trivial ?_
 simp only[Zce,EVA,seval]
 refine ZH (α:=Unit) n (fun j _=>[(5,.hd (lvl,224) [] 0 j none j),(6,iI j)]) (fun j _=>[(224,.ar 1 (rI (JI a j)) true j 0)]) (fun _ _=>True) () (by simp only[EVA,seval]) (by (simp only[EVA,seval]) <;> rfl) trivial ?_
 intro j _ hj _
 simp only[List.length_map,EVA,seval]
 refine Zk (fun hlt=>?_) (fun hge=>?_)
 ·have hl:=rootsN_len (a:=a) (n:=j)
  have hs:rI (JI a j)++[[Tr.v (.int .i64 (-1-a-j))]]=rI (JI a (j+1)):=by rw[Zlr,Vt];rfl
  simp only[hl,hs,EVA,seval]
  exact⟨by rw[Zd];omega,by rw[Zd];omega,by omega,by rw[Zd];omega,Ze () (by omega) rfl trivial⟩
 ·have:j=n:=by omega
  subst this
  exact⟨rootsN_len.symm,rfl⟩
def Zep(by_:Int)(ps:List Int)(p:Int):Int:=if p<0 then g0 ps (-1-p).toNat else p+by_
theorem Zbj(p by_:Int)(ps:List Int)(h0:-4294967296<=p/\p<=4294967296)(h1:-4294967296<=by_/\by_<=4294967296)(h2:p<0->(-1-p).toNat<ps.length)(lvl:Nat)(S:Sto):Sem Go.Proofs.Tryz.prog YU lvl [iI p,iI by_,tI ps] S (iI (Zep by_ ps p)) S:=by
 refine Zb Zgh trivial ?_
 simp only[Zba,EVA,seval]
 unfold Zep
 refine Zk (fun hlt=>?_) (fun hge=>?_)
 ·rw[if_pos hlt]
  have hk:=h2 hlt
  obtain⟨k,hkk⟩:∃ k:Nat,-1-p=k:=⟨(-1-p).toNat,by omega⟩
  rw[hkk] at hk ⊢
  rw[Int.toNat_natCast] at hk ⊢
  have ga:=V7 hk
  simp only[ga,EVA,seval]
  rw[Zd];omega
 ·rw[if_neg hge]
  exact⟨by rw[Zd];omega,rfl⟩
theorem X3(b:TBigraph)(by_:Int)(ps:List Int)(hl:b.sites.length<=4294967290)(h1:-4294967296<=by_/\by_<=4294967296)(hp:∀ p∈b.sites,(-4294967296<=p/\p<=4294967296)/\(p<0->(-1-p).toNat<ps.length))(lvl:Nat)(S:Sto):Sem Go.Proofs.Tryz.prog JB lvl [.ag ((Zc b).map .tr),iI by_,tI ps] S (.ow 1 (rI (b.sites.map (Zep by_ ps))) true) S:=by
 refine Zb Zhi trivial ?_
 simp only[Zcg,Zc,EVA,seval]
 refine ZH (α:=Unit) b.sites.length (fun j _=>[(7,.hd (lvl,288) [] 0 j none j),(8,iI j)]) (fun j _=>[(288,.ar 1 (rI ((b.sites.take j).map (Zep by_ ps))) true j 0)]) (fun _ _=>True) () (by simp only[EVA,seval]) (by (simp only[EVA,seval]) <;> rfl) trivial ?_
 intro j _ hj _
 simp only[List.length_map,EVA,seval]
 refine Zk (fun hlt=>?_) (fun hge=>?_)
 ·have hja:j<b.sites.length:=by omega
  have ga:=V7 hja
  have e0:g0 b.sites j=b.sites[j]:=by simp [hja]
  have hq:=hp _ (List.getElem_mem hja)
  rw[<-e0] at hq
  have hl1:(List.map (Zep by_ ps) (b.sites.take j)).length=j:=by rw[List.length_map,List.length_take];omega
  have hl2:(b.sites.take j).length=j:=by rw[List.length_take];omega
  simp only[ga,EVA,seval,Zj,men]
  refine Za (Zbj (g0 b.sites j) by_ ps hq.1 h1 hq.2) ?_
  have hs:rI ((b.sites.take j).map (Zep by_ ps))++[[Tr.v (.int .i64 (Zep by_ ps (g0 b.sites j)))]]=rI ((b.sites.take (j+1)).map (Zep by_ ps)):=by
   rw[List.take_succ_eq_append_getElem hja,List.map_append,Vt,e0];rfl
  simp only[hl1,hs,List.length_map,EVA,seval]
  exact⟨by omega,by rw[Zd];omega,Ze () hja rfl trivial⟩
 ·have:j=b.sites.length:=by omega
  subst this
  rw[List.take_length]
  exact⟨by simp,rfl⟩
def Zkl(ls:List Int)(w:TWire):TWire:=⟨w.name,g0 ls w.link.toNat⟩
theorem Zag(b:TBigraph)(ls:List Int)(hl:b.inner.length<=4294967290)(hp:∀ w∈b.inner,0<=w.link/\w.link<ls.length)(lvl:Nat)(S:Sto):Sem Go.Proofs.Tryz.prog Yp lvl [.ag ((Zc b).map .tr),tI ls] S (.ow 2 ((b.inner.map (Zkl ls)).map ZP) true) S:=by
 refine Zb Zhk trivial ?_
 simp only[Zci,Zc,EVA,seval]
 refine ZH (α:=Unit) b.inner.length (fun j _=>[(5,.hd (lvl,224) [] 0 j none j),(6,iI j)]) (fun j _=>[(224,.ar 2 (((b.inner.take j).map (Zkl ls)).map ZP) true j 0)]) (fun _ _=>True) () (by simp only[EVA,seval]) (by (simp only[EVA,seval]) <;> rfl) trivial ?_
 intro j _ hj _
 simp only[List.length_map,EVA,seval]
 refine Zk (fun hlt=>?_) (fun hge=>?_)
 ·have hja:j<b.inner.length:=by omega
  have ga:=Db (c:=ZP) hja
  have hq:=hp _ (List.getElem_mem hja)
  obtain⟨k,hk⟩:∃ k:Nat,b.inner[j].link=k:=⟨b.inner[j].link.toNat,by omega⟩
  have hkl:k<ls.length:=by omega
  have gl:=V7 hkl
  have hl2:(b.inner.take j).length=j:=by rw[List.length_take];omega
  have hs:((b.inner.take j).map (Zkl ls)).map ZP++[[ts b.inner[j].name,tv (g0 ls k)]]=((b.inner.take (j+1)).map (Zkl ls)).map ZP:=by
   rw[List.take_succ_eq_append_getElem hja,List.map_append,List.map_append]
   simp [Zkl,ZP,hk]
  simp only[ga,ZP,hk,gl,hl2,List.length_map,EVA,seval]
  exact⟨by omega,by rw[Zd];omega,Ze () hja (by rw[<-hs];rfl) trivial⟩
 ·have:j=b.inner.length:=by omega
  subst this
  rw[List.take_length]
  exact⟨by simp,rfl⟩
def Zgw(by_:Int)(ps ls:List Int)(x:TNode):TNode:=⟨x.control,Zep by_ ps x.parent,x.links.map fun l=>g0 ls l.toNat⟩
theorem Uq(b:TBigraph)(by_:Int)(ps ls:List Int)(hl:b.nodes.length<=4294967290)(h1:-4294967296<=by_/\by_<=4294967296)(hp:∀ x∈b.nodes,x.links.length<=4294967290/\((-4294967296<=x.parent/\x.parent<=4294967296)/\(x.parent<0->(-1-x.parent).toNat<ps.length))/\∀ l∈x.links,0<=l/\l<ls.length)(lvl:Nat)(S:Sto):Sem Go.Proofs.Tryz.prog JT lvl [.ag ((Zc b).map .tr),iI by_,tI ps,tI ls] S (.ow 3 ((b.nodes.map (Zgw by_ ps ls)).map ZO) true) S:=by
 refine Zb Zhh trivial ?_
 simp only[Zcf,Zc,EVA,seval]
 refine ZH (α:=Unit) b.nodes.length (fun j _=>[(9,.hd (lvl,416) [] 0 j none j),(10,iI j)]) (fun j _=>[(416,.ar 3 (((b.nodes.take j).map (Zgw by_ ps ls)).map ZO) true j 0)]) (fun _ _=>True) () (by simp only[EVA,seval]) (by (simp only[EVA,seval]) <;> rfl) trivial ?_
 intro j _ hj _
 simp only[List.length_map,EVA,seval]
 refine Zk (fun hlt=>?_) (fun hge=>?_)
 ·have hja:j<b.nodes.length:=by omega
  have ga:=Db (c:=ZO) hja
  obtain⟨q1,q2,q3⟩:=hp _ (List.getElem_mem hja)
  have hl2:(b.nodes.take j).length=j:=by rw[List.length_take];omega
  refine ZH (α:=Unit) b.nodes[j].links.length (fun k _=>[(11,.hd (lvl,672) [] 0 k none k),(12,iI k)]) (fun k _=>[(672,.ar 1 (rI ((b.nodes[j].links.take k).map fun l=>g0 ls l.toNat)) true k 0)]) (fun _ _=>True) () (by simp only[EVA,seval]) (by (simp only[EVA,seval]) <;> rfl) trivial ?_
  intro k _ hk _
  simp only[ga,ZO,List.length_map,EVA,seval,Zj,men]
  refine Zk (fun hlt2=>?_) (fun hge2=>?_)
  ·have hka:k<b.nodes[j].links.length:=by omega
   have gl:=V7 hka
   have e0:g0 b.nodes[j].links k=b.nodes[j].links[k]:=by simp [hka]
   have hq:=q3 _ (List.getElem_mem hka)
   rw[<-e0] at hq
   obtain⟨m,hm⟩:∃ m:Nat,g0 b.nodes[j].links k=m:=⟨(g0 b.nodes[j].links k).toNat,by omega⟩
   have hml:m<ls.length:=by omega
   have gm:=V7 hml
   have hl3:(b.nodes[j].links.take k).length=k:=by rw[List.length_take];omega
   have hs:rI ((b.nodes[j].links.take k).map fun l=>g0 ls l.toNat)++[[tv (g0 ls m)]]=rI ((b.nodes[j].links.take (k+1)).map fun l=>g0 ls l.toNat):=by
    rw[List.take_succ_eq_append_getElem hka,List.map_append,Vt,<-e0]
    simp only[List.map_cons,List.map_nil,hm,Int.toNat_natCast]
   simp only[gl,hm,gm,hl3,hs,List.length_map,EVA,seval]
   exact⟨by omega,by rw[Zd];omega,Ze () hka rfl trivial⟩
  ·have:k=b.nodes[j].links.length:=by omega
   subst this
   rw[List.take_length]
   refine Za (Zbj b.nodes[j].parent by_ ps q2.1 h1 q2.2) ?_
   have hs:((b.nodes.take j).map (Zgw by_ ps ls)).map ZO++[[tv b.nodes[j].control,tv (Zep by_ ps b.nodes[j].parent),Tr.sl (rI (b.nodes[j].links.map fun l=>g0 ls l.toNat))]]=((b.nodes.take (j+1)).map (Zgw by_ ps ls)).map ZO:=by
    rw[List.take_succ_eq_append_getElem hja,List.map_append,List.map_append]
    simp [Zgw,ZO]
   simp only[hl2,List.length_map,EVA,seval]
   exact⟨by omega,by rw[Zd];omega,Ze () hja (by rw[<-hs];rfl) trivial⟩
 ·have:j=b.nodes.length:=by omega
  subst this
  rw[List.take_length]
  exact⟨by simp,rfl⟩
end Go.Fd

/-
  A LINK IS TURNED: relinked AND ITS CLOSURE. Own work.
-/
namespace Go.Fd
set_option maxRecDepth 20000
theorem Zxq:ZF Go.Proofs.Tryz.prog ZY ZxW=true:=by kernel_rfl
theorem ZBL:ZF Go.Proofs.Tryz.prog ZL (ZBI ZY)=true:=by kernel_rfl
theorem ZhU(l:List ByteArray)(s:ByteArray)(hl:l.length<=4294967296)(lvl:Nat)(S:Sto):Sem Go.Proofs.Tryz.prog ZY lvl [.tr (.sl (rS l)),iS s] S (iI (ixS l s)) S:=ZoO Zxq Zw9 l s (by omega) lvl S
theorem Zah(l:List ByteArray)(s:ByteArray)(hl:l.length<=4294967296)(lvl:Nat)(S:Sto):Sem Go.Proofs.Tryz.prog ZL lvl [.tr (.sl (rS l)),iS s] S (iB (dc (s∈l))) S:=by
 have h:=ZtO ZBL Zxq Zw9 l s (by omega) lvl S
 have e:∀ i:Decidable (s∈l),@decide (s∈l) i=dc (s∈l):=fun i=>(@XJ _ i).symm
 rw[e] at h
 exact h
theorem Zgx{l:List ByteArray}{s:ByteArray}:-1<=ixS l s:=by
 by_cases h:s∈l
 ·have:=ixS_nn.2 h;omega
 ·rw[Zmz h];omega
theorem ZeW{l:List ByteArray}{s:ByteArray}:ixS l s<=l.length:=by
 by_cases h:s∈l
 ·have:=ZmA h;omega
 ·rw[Zmz h];omega
mutual
theorem ZtU{P Q:Oid->Prop}:∀ x,men P x->men Q x->men (fun i=>P i/\Q i) x
 | .hd ..,h,g=>⟨h,g⟩
 | .ab ..,h,g=>⟨h,g⟩
 | .sv _,h,g=>⟨h,g⟩
 | .ae ..,h,g=>⟨h,g⟩
 | .ag l,h,g=>by simp only[men] at *;exact Zdu l h g
 | .tu l,h,g=>by simp only[men] at *;exact Zdu l h g
 | .fn f l,h,g=>by simp only[men] at *;exact Zdu l h g
 | .un,_,_=>trivial
 | .tr _,_,_=>trivial
 | .cs _,_,_=>trivial
 | .ta _,_,_=>trivial
 | .ow ..,_,_=>trivial
 | .er,_,_=>trivial
theorem Zdu{P Q:Oid->Prop}:∀ l,Zj P l->Zj Q l->Zj (fun i=>P i/\Q i) l
 | [],_,_=>trivial
 | x::r,h,g=>⟨ZtU x h.1 g.1,Zdu r h.2 g.2⟩
end
theorem Zkm{B S S':Sto}{loc:List (Nat×Ob)}{lvl l':Nat}{cps:List IV}(h:Zj (Zm3 B S lvl) cps)(h2:Zj (Zm3 (ZE lvl loc S) S' l') cps):Zj (Zm3 B S' l') cps :=
 ZK (fun i hi=>⟨hi.2.1,fun ob hb=>hi.2.2 ob (by rw[show ZE lvl loc S i=S i from if_neg (by have:=hi.1.1;omega)];exact hi.1.2 ob hb)⟩) _ (Zdu _ h h2)
theorem Zkn{L S:Sto}{l:Nat}{cps:List IV}(h:Zj (Zh4 L S l) cps):Zj (Zm3 L S l) cps:=ZK (fun _ hi=>hi.1) _ h
theorem Zrj{B S:Sto}{lvl:Nat}{cps:List IV}(h:Zj (Zm3 B S lvl) cps)(js:List Nat):ZlR lvl js cps=True:=eq_true (ZK (fun i hi e=>absurd e (by have:=hi.1;omega)) _ h)
theorem ZtV{B S:Sto}{lvl:Nat}{cs:List (List Tr)}:Zj (Zm3 B S lvl) (cs.map IV.ta):=by rw[YD];trivial
theorem Zhm(b:TBigraph)(l:Int)(e:Int)(o:List ByteArray)(tf:FuncId)(cps:List IV)(B:Sto)(T:Int×ByteArray->Int×ByteArray)(he0:0<=b.edges)(hl:ZX b l)(ho:b.outer.length<=4294967296)(hb:b.edges<=4294967296)(he:0<=e/\e<=4294967296)(hol:o.length<=4294967296)
  (hT:∀ l' S',Zj (Zm3 B S' l') cps->Sem Go.Proofs.Tryz.prog tf l' (oE (ZfF b l)::cps) S' (oE (T (ZfF b l))) S')
  (lvl:Nat) (S:Sto) (hcp:Zj (Zm3 B S lvl) cps) (iT iO io:Oid) (c0 c1 c2 c3 c5:IV) (hwo ver:Nat) (u:Bool) (hT1:iT.1<lvl) (hO1:iO.1<lvl) (ho1:io.1<lvl) (sT:S iT=some (.bx [.fn tf cps])) (sO:S iO=some (.bx [c0,c1,c2,c3,.hd io [] 0 o.length none hwo,c5])) (so:S io=some (.ar 1 (rS o) u hwo ver)) :
  Sem Go.Proofs.Tryz.prog Jw lvl [iI l,.ab iT 0,.ta (Zc b),.ta [tv e],.ab iO 0] S (iI (Zdr b e o T l)) S:=by
 have hneT:iT.1≠lvl:=by omega
 have hneO:iO.1≠lvl:=by omega
 have hneo:io.1≠lvl:=by omega
 refine Zb Da trivial ?_
 simp only[Qz,Zc,Jd hneT,sT,EVA,seval,Zj,men]
 refine Za (Zo5 b l he0 hl ho hb) ?_
 simp only[EVA,seval]
 refine ZcQ (fun l' S' hs=>hT l' S' (Zkm hcp (Zkn hs.2))) ?_
 simp only[EVA,seval]
 unfold Zdr
 by_cases h2:(T (ZfF b l)).2=e0S
 ·rw[if_pos h2]
  simp only[h2,seval]
 ·rw[if_neg h2]
  simp only[h2,Jd hneO,Jd hneo,sO,so,EVA,seval,Zj,men]
  rw[show cut (rS o) 0 o.length=rS o from Yn (by rw[List.length_map])]
  refine Za (ZhU o (T (ZfF b l)).2 (by omega)) ?_
  have:=Zgx (l:=o) (s:=(T (ZfF b l)).2)
  have:=ZeW (l:=o) (s:=(T (ZfF b l)).2)
  simp only[EVA,seval]
  rw[Zd];omega
theorem Zo6{y:List Int}{j:Nat}{v:Int}(h:j<y.length):YZ (rI y) [] j 0 (.v (.int .i64 v))=rI (y.set j v):=by
 simp only[YZ]
 rw[V7 h]
 exact(List.map_set (f:=fun n:Int=>[tv n]) (l:=y) (i:=j) (a:=v)).symm
def Zls(F:Int->Int)(x:TNode):TNode:=⟨x.control,x.parent,x.links.map F⟩
def Va(F:Int->Int)(l:List TNode)(j:Nat):List TNode:=(l.take j).map (Zls F)++l.drop j
def YL(F:Int->Int)(l:List Int)(k:Nat):List Int:=(l.take k).map F++l.drop k
theorem Zbk{F:Int->Int}{l:List Int}{k:Nat}:(YL F l k).length=l.length:=by simp [YL];omega
theorem Zgy{F:Int->Int}{l:List Int}{k:Nat}(h:k<l.length):g0 (YL F l k) k=g0 l k:=by
 show (YL F l k).getD k 0=l.getD k 0
 have:((l.take k).map F).length=k:=by rw[List.length_map,List.length_take];omega
 rw[List.getD_eq_getElem?_getD,List.getD_eq_getElem?_getD,YL,List.getElem?_append_right (by omega),this,List.getElem?_drop]
 simp
theorem Zgz{F:Int->Int}{l:List Int}{k:Nat}(h:k<l.length):(YL F l k).set k (F (g0 l k))=YL F l (k+1):=by
 have hl:((l.take k).map F).length=k:=by rw[List.length_map,List.length_take];omega
 have e:g0 l k=l[k]:=by simp [h]
 unfold YL
 rw[List.set_append_right _ _ (by omega),hl,Nat.sub_self,List.drop_eq_getElem_cons h,List.set_cons_zero,List.take_succ_eq_append_getElem h,List.map_append,e,List.append_assoc]
 rfl
theorem Zdv{F:Int->Int}{l:List TNode}{j:Nat}:(Va F l j).length=l.length:=by simp [Va];omega
theorem ZgA{F:Int->Int}{l:List TNode}{j:Nat}(h:j<l.length):(Va F l j)[j]? = some l[j]:=by
 have:((l.take j).map (Zls F)).length=j:=by rw[List.length_map,List.length_take];omega
 rw[Va,List.getElem?_append_right (by omega),this,List.getElem?_drop]
 simp [h]
theorem Zko{F:Int->Int}{l:List TNode}{j:Nat}(h:j<l.length):(Va F l j).set j (Zls F l[j])=Va F l (j+1):=by
 have hl:((l.take j).map (Zls F)).length=j:=by rw[List.length_map,List.length_take];omega
 unfold Va
 rw[List.set_append_right _ _ (by omega),hl,Nat.sub_self,List.drop_eq_getElem_cons h,List.set_cons_zero,List.take_succ_eq_append_getElem h,List.map_append,List.append_assoc]
 rfl
def ZbG(F:Int->Int)(w:TWire):TWire:=⟨w.name,F w.link⟩
def Ur(F:Int->Int)(l:List TWire)(j:Nat):List TWire:=(l.take j).map (ZbG F)++l.drop j
theorem Zo7{F:Int->Int}{l:List TWire}{j:Nat}:(Ur F l j).length=l.length:=by simp [Ur];omega
theorem ZgB{F:Int->Int}{l:List TWire}{j:Nat}(h:j<l.length):(Ur F l j)[j]? = some l[j]:=by
 have:((l.take j).map (ZbG F)).length=j:=by rw[List.length_map,List.length_take];omega
 rw[Ur,List.getElem?_append_right (by omega),this,List.getElem?_drop]
 simp [h]
theorem ZgC{F:Int->Int}{l:List TWire}{j:Nat}(h:j<l.length):(Ur F l j).set j (ZbG F l[j])=Ur F l (j+1):=by
 have hl:((l.take j).map (ZbG F)).length=j:=by rw[List.length_map,List.length_take];omega
 unfold Ur
 rw[List.set_append_right _ _ (by omega),hl,Nat.sub_self,List.drop_eq_getElem_cons h,List.set_cons_zero,List.take_succ_eq_append_getElem h,List.map_append,List.append_assoc]
 rfl
theorem Zsh{X:List TNode}{j k:Nat}{x:TNode}{v:Int}(h:X[j]? = some x)(hk:k<x.links.length):YZ (X.map ZO) [(j,2)] k 0 (.v (.int .i64 v))=(X.set j ⟨x.control,x.parent,x.links.set k v⟩).map ZO:=by
 have h1:=Zo6 (y:=x.links) (j:=k) (v:=v) hk
 have e1:YZ (X.map ZO) [(j,2)] k 0 (.v (.int .i64 v))=(X.map ZO).set j [tv x.control,tv x.parent,Tr.sl (YZ (rI x.links) [] k 0 (.v (.int .i64 v)))]:=by
  simp only[YZ,List.getElem?_map,h,Option.map_some,ZO,List.getElem?_cons_succ,List.getElem?_cons_zero,List.set_cons_succ,List.set_cons_zero]
 rw[e1,h1,List.map_set]
 rfl
theorem Zdw(b:TBigraph)(e:Int)(o:List ByteArray)(tf:FuncId)(cps:List IV)(B:Sto)(T:Int×ByteArray->Int×ByteArray)(he0:0<=b.edges)(hbd:Zp 4294967290 b)(hb:b.edges<=4294967296)(he:0<=e/\e<=4294967296)(ho:o.length<=4294967290)
  (hln:∀ x∈b.nodes,∀ l∈x.links,ZX b l) (hlw:∀ w∈b.inner,ZX b w.link) (hT:∀ l,ZX b l->∀ l' S',Zj (Zm3 B S' l') cps->Sem Go.Proofs.Tryz.prog tf l' (oE (ZfF b l)::cps) S' (oE (T (ZfF b l))) S')
  (lvl:Nat) (S:Sto) (hcp:Zj (Zm3 B S lvl) cps):Sem Go.Proofs.Tryz.prog Zy lvl [.ag ((Zc b).map .tr),iI e,.tr (.sl (rS o)),.fn tf cps] S (Zg (Dk b (Zdr b e (Vu o) T) e (Vu o))) S:=by
 have hok:=Zrj hcp
 refine Zb Zaa (by simp [Zg,low,men,Zj]) ?_
 simp only[XG,Zc,EVA,seval,Zj,men]
 refine Za (Wb b hbd) ?_
 simp only[Zg,List.length_map,EVA,seval,Zj,men]
 refine Za (Zbi o ho) ?_
 obtain⟨b1,b2,b3,b4,b5,b6,b7⟩:=hbd
 simp only[List.length_map,EVA,seval]
 have hFdef:∃ F,F=Zdr b e (Vu o) T:=⟨_,rfl⟩
 obtain⟨F,hF⟩:=hFdef
 rw[<-hF]
 have hsl:(Vu o).length<=4294967296:=Nat.le_trans ZoY (by omega)
 have hc:∀(loc:List (Nat×Ob)) (l:Int),ZX b l->lkO 224 loc=some (.bx [.fn tf cps])->lkO 288 loc=some (.bx [iI b.roots,.hd (lvl,576) [] 0 b.nodes.length none b.nodes.length,.hd (lvl,577) [] 0 b.sites.length none b.sites.length,iI e,.hd (lvl,672) [] 0 (Vu o).length none (Vu o).length,.hd (lvl,579) [] 0 b.inner.length none b.inner.length])->lkO 672 loc=some (.ar 1 (rS (Vu o)) true (Vu o).length 0) ->
   ∀ l' S',Zj (Zh4 (ZE lvl loc S) S' l') [iI l,.ab (lvl,224) 0,.ta (Zc b),.ta [tv e],.ab (lvl,288) 0]->Sem Go.Proofs.Tryz.prog Jw l' [iI l,.ab (lvl,224) 0,.ta (Zc b),.ta [tv e],.ab (lvl,288) 0] S' (iI (F l)) S':=fun loc l hl h1 h2 h3 l' S' hs=>by
  simp only[Zj,men] at hs
  obtain⟨_,h224,_,_,h288,_⟩:=hs
  have sT:=h224.1.2 _ (by rw[Yt];exact h1)
  have hc2:=h224.2 _ (by rw[Yt];exact h1)
  simp only[Zj,men,and_true] at hc2
  have sO:=h288.1.2 _ (by rw[Yt];exact h2)
  have hm:=h288.2 _ (by rw[Yt];exact h2)
  simp only[Zj,men] at hm
  obtain⟨_,_,_,_,h672,_,_⟩:=hm
  have so:=h672.2 _ (by rw[Yt];exact h3)
  rw[hF]
  exact Zhm b l e (Vu o) tf cps B T he0 hl (by omega) hb he hsl (hT l hl) l' S' (Zkm hcp hc2) (lvl,224) (lvl,288) (lvl,672) _ _ _ _ _ _ _ _ h224.1.1 h288.1.1 h672.1 sT sO so
 refine ZH (α:=Unit) b.nodes.length (fun j _=>[(28,iI j)]) (fun j _=>[(576,.ar 3 ((Va F b.nodes j).map ZO) true b.nodes.length 0)]) (fun _ _=>True) () (by simp only[hok,EVA,seval]) (by (simp only[EVA,seval]) <;> rfl) trivial ?_
 intro j _ hj _
 simp only[EVA,seval]
 refine Zk (fun hlt=>?_) (fun hge=>?_)
 ·have hja:j<b.nodes.length:=by omega
  have gp:=ZgA (F:=F) hja
  have ga:((Va F b.nodes j).map ZO)[j]? = some [Tr.v (.int .i64 b.nodes[j].control),Tr.v (.int .i64 b.nodes[j].parent),Tr.sl (rI b.nodes[j].links)]:=by rw[List.getElem?_map,gp];rfl
  have hkl:b.nodes[j].links.length<=4294967290:=b2 _ (List.getElem_mem hja)
  simp only[ga,hja,List.length_map,EVA,seval]
  have e0:(Va F b.nodes j).set j ⟨b.nodes[j].control,b.nodes[j].parent,YL F b.nodes[j].links 0⟩=Va F b.nodes j:=by
   have:(⟨b.nodes[j].control,b.nodes[j].parent,YL F b.nodes[j].links 0⟩:TNode)=b.nodes[j]:=by simp [YL]
   rw[this]
   have hl:j<(Va F b.nodes j).length:=by rw[Zdv];exact hja
   have e:b.nodes[j]=(Va F b.nodes j)[j]:=by
    have:=gp
    rw[List.getElem?_eq_getElem hl] at this
    exact(Option.some.inj this).symm
   rw[e]
   exact List.set_getElem_self hl
  refine ZH (α:=Unit) b.nodes[j].links.length (fun k _=>[(35,iI k)]) (fun k _=>[(576,.ar 3 (((Va F b.nodes j).set j ⟨b.nodes[j].control,b.nodes[j].parent,YL F b.nodes[j].links k⟩).map ZO) true b.nodes.length 0)]) (fun _ _=>True) () (by simp only[hok,EVA,seval]) (by (simp only[e0,EVA,seval]) <;> rfl) trivial ?_
  intro k _ hk _
  have gq:((Va F b.nodes j).set j ⟨b.nodes[j].control,b.nodes[j].parent,YL F b.nodes[j].links k⟩)[j]? = some ⟨b.nodes[j].control,b.nodes[j].parent,YL F b.nodes[j].links k⟩:=by
   rw[List.getElem?_set_self (by rw[Zdv];exact hja)]
  have hgp:(((Va F b.nodes j).set j ⟨b.nodes[j].control,b.nodes[j].parent,YL F b.nodes[j].links k⟩).map ZO)[j]? = some [Tr.v (.int .i64 b.nodes[j].control),Tr.v (.int .i64 b.nodes[j].parent),Tr.sl (rI (YL F b.nodes[j].links k))]:=by rw[List.getElem?_map,gq];rfl
  simp only[hgp,EVA,seval]
  refine Zk (fun hlt2=>?_) (fun hge2=>?_)
  ·have hka:k<b.nodes[j].links.length:=by omega
   have hpl:=Zbk (F:=F) (l:=b.nodes[j].links) (k:=k)
   have gk:(rI (YL F b.nodes[j].links k))[k]? = some [tv (g0 b.nodes[j].links k)]:=by rw[V7 (by omega),Zgy hka]
   have hlk:ZX b (g0 b.nodes[j].links k):=hln _ (List.getElem_mem hja) _ (by simp [hka])
   have hsp:=Zsh (v:=F (g0 b.nodes[j].links k)) gq (k:=k) (by show k<(YL F b.nodes[j].links k).length;omega)
   simp only[hgp,gk,hka,Nat.zero_add,EVA,seval]
   refine ZcQ (hc _ (g0 b.nodes[j].links k) hlk rfl rfl rfl) ?_
   have hst:((Va F b.nodes j).set j ⟨b.nodes[j].control,b.nodes[j].parent,YL F b.nodes[j].links k⟩).set j ⟨b.nodes[j].control,b.nodes[j].parent,(YL F b.nodes[j].links k).set k (F (g0 b.nodes[j].links k))⟩=(Va F b.nodes j).set j ⟨b.nodes[j].control,b.nodes[j].parent,YL F b.nodes[j].links (k+1)⟩:=by
    rw[List.set_set,Zgz hka]
   rw[hst] at hsp
   simp only[hgp,gk,hka,hsp,hok,Nat.zero_add,EVA,seval]
   exact⟨by rw[Zd];omega,Ze () hka rfl trivial⟩
  ·have:k=b.nodes[j].links.length:=by omega
   subst this
   have hst:(Va F b.nodes j).set j ⟨b.nodes[j].control,b.nodes[j].parent,YL F b.nodes[j].links b.nodes[j].links.length⟩=Va F b.nodes (j+1):=by
    rw[<-Zko hja]
    congr 1
    simp [Zls,YL]
   rw[hst]
   simp only[hok,EVA,seval]
   exact⟨by rw[Zd];omega,Ze () hja rfl trivial⟩
 ·have:j=b.nodes.length:=by omega
  subst this
  have hpn:Va F b.nodes b.nodes.length=(Dk b F e (Vu o)).nodes:=by simp [Va,Dk,Zls]
  rw[hpn]
  refine ZH (α:=Unit) b.inner.length (fun j _=>[(52,iI j)]) (fun j _=>[(579,.ar 2 ((Ur F b.inner j).map ZP) true b.inner.length 0)]) (fun _ _=>True) () (by simp only[hok,EVA,seval]) (by (simp only[EVA,seval]) <;> rfl) trivial ?_
  intro j _ hj _
  simp only[List.length_map,EVA,seval]
  refine Zk (fun hlt=>?_) (fun hge=>?_)
  ·have hja:j<b.inner.length:=by omega
   have gp:=ZgB (F:=F) hja
   have ga:((Ur F b.inner j).map ZP)[j]? = some [ts b.inner[j].name,tv b.inner[j].link]:=by rw[List.getElem?_map,gp];rfl
   have hsp:YZ ((Ur F b.inner j).map ZP) [] j 1 (.v (.int .i64 (F b.inner[j].link)))=(Ur F b.inner (j+1)).map ZP:=by
    simp only[YZ]
    rw[ga,<-ZgC hja,List.map_set]
    rfl
   have hlk:ZX b b.inner[j].link:=hlw _ (List.getElem_mem hja)
   simp only[ga,hja,Nat.zero_add,EVA,seval]
   refine ZcQ (hc _ b.inner[j].link hlk rfl rfl rfl) ?_
   simp only[ga,hja,hsp,hok,Nat.zero_add,EVA,seval]
   exact⟨by rw[Zd];omega,Ze () hja rfl trivial⟩
  ·have:j=b.inner.length:=by omega
   subst this
   have hpw:Ur F b.inner b.inner.length=(Dk b F e (Vu o)).inner:=by simp [Ur,Dk,ZbG]
   rw[hpw]
   exact⟨by simp [Dk],by simp [Dk],rfl⟩
theorem UR(b:TBigraph)(e:Int)(o:List ByteArray)(tf:FuncId)(cs:List (List Tr))(T:Int×ByteArray->Int×ByteArray)(he0:0<=b.edges)(hbd:Zp 4294967290 b)(hb:b.edges<=4294967296)(he:0<=e/\e<=4294967296)(ho:o.length<=4294967290)
  (hln:∀ x∈b.nodes,∀ l∈x.links,ZX b l) (hlw:∀ w∈b.inner,ZX b w.link) (hT:∀ l,ZX b l->∀ lvl S,Sem Go.Proofs.Tryz.prog tf lvl (oE (ZfF b l)::cs.map IV.ta) S (oE (T (ZfF b l))) S)
  (lvl:Nat) (S:Sto):Sem Go.Proofs.Tryz.prog Zy lvl [.ag ((Zc b).map .tr),iI e,.tr (.sl (rS o)),.fn tf (cs.map IV.ta)] S (Zg (Dk b (Zdr b e (Vu o) T) e (Vu o))) S :=
 Zdw b e o tf (cs.map IV.ta) (fun _=>none) T he0 hbd hb he ho hln hlw (fun l hl l' S' _=>hT l hl l' S') lvl S ZtV
end Go.Fd

/-
  A NAME BECOMES AN EDGE, AN EDGE A NAME: THE PROGRAM'S SIDE. Own work.
-/
namespace Go.Fd
set_option maxRecDepth 20000
theorem Zxr:ZF Go.Proofs.Tryz.prog Z3 (ZoL 1 none)=true:=by kernel_rfl
theorem ZgD(l:List ByteArray)(hl:l.length<=4294967290)(f:ByteArray->Bool){fe:FuncId}{cs:List (List Tr)}(hf:∀ x lvl S,Sem Go.Proofs.Tryz.prog fe lvl (iS x::cs.map IV.ta) S (iB (f x)) S)(lvl:Nat)(S:Sto)(id:Oid)(u:Bool)(hw ver:Nat)(hid:id.1<lvl)(hS:S id=some (.ar 1 (rS l) u hw ver)) :
  ∃ v2,Sem Go.Proofs.Tryz.prog Jp lvl [.hd id [] 0 l.length none hw,.fn fe (cs.map IV.ta)] S (.hd id [] 0 (l.filter fun n=>!f n).length none hw) (ZT S id (.ar 1 (rS (l.filter fun n=>!f n)) u hw v2)):=by
 have hne:id.1≠lvl:=by omega
 have hix:=Zms (P:=Go.Proofs.Tryz.prog) Zxr (t:=fun n:ByteArray=>ts n) (f:=f) (fe:=fe) (cs:=cs) l (by omega) (fun x _ lvl S=>hf x lvl S)
 rcases Zi8 (f:=f) (l:=l) (j:=0) with ⟨h1,h2⟩ | ⟨i0,h,h1,h2,h3⟩
 ·refine⟨ver,?_⟩
  rw[ZhP h2,Qp hS]
  refine Zb YC hid ?_
  simp only[Jx,Zbg,YD,Jd hne,hS,EVA,seval,Zj,men]
  rw[show cut (rS l) 0 l.length=rS l from Yn (by rw[List.length_map])]
  refine Za hix ?_
  simp only[h1,Zf4 hne,EVA,seval]
 ·refine⟨ver+1,?_⟩
  rw[Int.zero_add] at h1
  refine Zb YC hid ?_
  simp only[Jx,Zbg,YD,Jd hne,hS,EVA,seval,Zj,men]
  rw[show cut (rS l) 0 l.length=rS l from Yn (by rw[List.length_map])]
  refine Za hix ?_
  have hm1:¬ (i0:Int) = -1:=by omega
  simp only[h1,hm1,EVA,seval]
  refine⟨by rw[Zd];omega,?_⟩
  have f0:(l.take i0).filter (fun n=>!f n)=l.take i0:=ZhP h2
  have f1:(l.take (i0+1)).filter (fun n=>!f n)=l.take i0:=by rw[Zgv h,f0,if_pos h3,List.append_nil]
  refine ZU (α:=Nat×List ByteArray) l.length (fun m x=>⟨lvl,[(0,.hd id [] 0 l.length none hw),(1,.fn fe (cs.map IV.ta)),(5,iI (x.1:Int)),(6,iI ((i0+1+m:Nat):Int))],[],ZT S id (.ar 1 (rS x.2) u hw ver)⟩) (fun m x=>i0+1+m<=l.length/\x.2.length=l.length/\x.1=((l.take (i0+1+m)).filter fun n=>!f n).length/\x.2.take x.1=(l.take (i0+1+m)).filter (fun n=>!f n)/\x.1<=i0+m/\∀ q,i0+1+m<=q->gS x.2 q=gS l q) (i0,l) ⟨by simp only[JW hne,Zac,EVA,seval],by (simp only[Qp hS,EVA,seval]) <;> rfl⟩ ⟨by omega,rfl,by rw[Nat.add_zero,f1,List.length_take];omega,by rw[Nat.add_zero,f1],by omega,fun _ _=>rfl⟩ ?_
  intro m ⟨i,y⟩ hm ⟨hm1,hy,hi,ht,hle,hq⟩
  dsimp only at hy hi ht hle hq
  simp only[EVA,seval]
  refine Zk (fun hlt2=>?_) (fun hge2=>?_)
  ·have b1:i0+1+m<l.length:=by omega
   have gy:=ZfE (e0:=e0S) (c:=fun n:ByteArray=>[ts n]) (l:=y) (i:=i0+1+m) (by omega)
   have q1:=hq (i0+1+m) (by omega)
   have b4:i<l.length:=by omega
   have e0:gS l (i0+1+m)=l[i0+1+m]:=UC b1
   have fs:=Zgv (f:=f) b1
   simp only[Jd hne,V5,gy,q1,b1,Zbg,YD,Nat.zero_add,EVA,seval,Zj,men]
   refine Za (hf (gS l (i0+1+m))) ?_
   rw[<-e0] at fs
   cases hx:f (gS l (i0+1+m)) with
   | true =>
    rw[if_pos hx,List.append_nil] at fs
    simp only[JW hne,Zac,EVA,seval]
    exact⟨by rw[Zd];omega,Ze (i,y) (by omega) rfl ⟨by omega,hy,by rw[show i0+1+(m+1)=i0+1+m+1 from rfl,fs];exact hi,by rw[show i0+1+(m+1)=i0+1+m+1 from rfl,fs];exact ht,by show i<=i0+(m+1);omega,fun q hqq=>hq q (by omega)⟩⟩
   | false =>
    rw[if_neg (by rw[hx];decide)] at fs
    have s1:=Zre (y:=y) (j:=i) (v:=gS l (i0+1+m)) (by omega)
    have gy0:=ZfE (e0:=e0S) (c:=fun n:ByteArray=>[ts n]) (l:=y) (i:=i) (by omega)
    simp only[Jd hne,VU hne,J8,V5,gy0,b4,s1,Nat.zero_add,JW hne,Zac,EVA,seval]
    exact⟨by rw[Zd];omega,by rw[Zd];omega,Ze (i+1,y.set i (gS l (i0+1+m))) (by omega) rfl ⟨by omega,by rw[List.length_set];exact hy,by rw[show i0+1+(m+1)=i0+1+m+1 from rfl,fs,List.length_append,<-hi];rfl,by rw[Zdq (by omega),ht,show i0+1+(m+1)=i0+1+m+1 from rfl,fs],by show i+1<=i0+(m+1);omega,fun q hqq=>by
     show gx e0S (y.set i (gS l (i0+1+m))) q=_
     rw[Zmw (by omega),if_neg (by omega)]
     exact hq q (by omega)⟩⟩
  ·have en:i0+1+m=l.length:=by omega
   rw[en,List.take_length] at hi ht
   refine⟨by omega,Zxh hne (V5 ..),?_⟩
   have tk:(rS y).take i=rS (l.filter fun n=>!f n):=by rw[<-ht];exact(List.map_take ..).symm
   simp only[Jd hne,VU hne,J8,V5,tk,List.length_map,hy,EVA,seval]
   refine⟨by omega,by omega,by omega,by omega,Zxh hne (V5 ..),?_⟩
   simp only[Zf4 hne,Nat.sub_zero,hi,EVA,seval]
theorem Zeq(x s:ByteArray)(lvl:Nat)(S:Sto):Sem Go.Proofs.Tryz.prog Yk lvl [iS x,.ta [ts s]] S (iB (decide (x=s))) S:=by
 refine Zb ZbO trivial ?_
 simp only[WH,EVA,seval]
theorem ZgE(o:List ByteArray)(s:ByteArray)(ho:o.length<=4294967290)(lvl:Nat)(S:Sto):Sem Go.Proofs.Tryz.prog Qd lvl [.tr (.sl (rS o)),iS s] S (.ow 1 (rS (QZ o s)) true) S:=by
 refine Zb Zdm trivial ?_
 simp only[UO,EVA,seval,Zj,men]
 refine Za (ZbF o (by omega)) ?_
 simp only[EVA,seval]
 have h1:=fun S' hS=>ZgD o ho (fun n=>decide (n=s)) (fe:=Yk) (cs:=[[ts s]]) (fun n lvl S=>Zeq n s lvl S) (lvl+1) S' (lvl,192) true o.length 0 (Nat.lt_succ_self _) hS
 refine Zmv 192 _ (h1 _ ?_) fun v=>?_
 ·rw[Yt];rfl
 simp only[List.length_map,EVA,seval]
 rfl
theorem Zfe(b:TBigraph)(s:ByteArray)(e:Int×ByteArray)(lvl:Nat)(S:Sto):Sem Go.Proofs.Tryz.prog Jl lvl [oE e,.ta [ts s],.ta (Zc b)] S (oE (ZhT b s e)) S:=by
 refine Zb Um (by simp [low,men,Zj]) ?_
 simp only[VI,Zc,EVA,seval]
 unfold ZhT
 by_cases h:e.2=s
 ·rw[if_pos h]
  simp only[h,seval]
  try rfl
 ·rw[if_neg h]
  simp only[h,seval]
  try rfl
theorem Zdx(sig:List TControl)(b:TBigraph)(hn:sig.length<=4294967296)(hbs:∀ y∈sig,Zo 4294967296 y)(hb:Zp 4294967290 b)(hf:ZB b)(lvl:Nat)(S:Sto):Sem Go.Proofs.Tryz.prog Vj lvl [.tr (.sl (sig.map Zh)),.ag ((Zc b).map .tr)] S (.tu [Zg (@ite TBigraph (bigOK sig b) (Classical.propDecidable _) b ⟨0,[],[],0,[],[]⟩),iB (dc (bigOK sig b))]) S:=by
 have hb2:Zp 4294967296 b:=by
  obtain⟨b1,b2,b3,b4,b5,b6,b7⟩:=hb
  exact⟨by omega,fun y hy=>Nat.le_trans (b2 y hy) (by omega),by omega,by omega,fun y hy=>Nat.le_trans (b5 y hy) (by omega),by omega,fun y hy=>Nat.le_trans (b7 y hy) (by omega)⟩
 refine Zb Zkc (by simp [Zg,low,men,Zj]) ?_
 simp only[ZeS,Zc,EVA,seval,Zj,men]
 refine Za (Jy sig b hn hbs hb2) ?_
 cases h:dc (bigOK sig b)
 ·rw[if_neg (dc_not.1 h)]
  simp only[EVA,seval]
  try rfl
 ·rw[if_pos (dc_iff.1 h)]
  simp only[EVA,seval,Zj,men]
  refine Za (Wb b hb) ?_
  simp only[Zg,List.length_map,EVA,seval]
  try rfl
end Go.Fd

/-
  A NAME BECOMES AN EDGE: BOTH SIDES. Own work.
-/
namespace Go.Fd
set_option maxRecDepth 20000
theorem Znk{n:Nat}{k:Nat}(h:k<n):g0 (JI 0 n) k = -1-(k:Int):=by
 show (JI 0 n).getD k 0=_
 rw[List.getD_eq_getElem?_getD,JI,List.getElem?_map,List.getElem?_range h]
 simp
theorem Zja{b:TBigraph}{n:Nat}(hn:b.roots=n){p:Int}(h:-b.roots<=p):Zep 0 (JI 0 n) p=p:=by
 unfold Zep
 split
 ·rw[Znk (by omega)];omega
 ·omega
theorem Js{sig:List TControl}{b:TBigraph}{p below:Int}(hr:0<=b.roots)(h:UB sig b p below):-b.roots<=p:=by
 rcases h with h | h <;> omega
theorem Zkp(sig:List TControl)(b:TBigraph)(h:bigOK sig b)(ls:List Int)(e:Int)(o:List ByteArray)(hb:Zp 4294967296 b)(hls:∀ l,ZX b l->l<ls.length)(ho:o.length<=4294967290)(lvl:Nat)(S:Sto):Sem Go.Proofs.Tryz.prog X0 lvl [.ag ((Zc b).map .tr),tI ls,iI e,.tr (.sl (rS o))] S (Zg (Dk b (fun l=>g0 ls l.toNat) e o)) S:=by
 obtain⟨n,hn⟩:∃ n:Nat,b.roots=n:=⟨b.roots.toNat,by have:=h.roots;omega⟩
 have hr:=h.roots
 have hsm:=h.small
 have hpar:∀ p,-b.roots<=p->p<=100->(-4294967296<=p/\p<=4294967296)/\(p<0->(-1-p).toNat<(JI 0 n).length):=fun p h1 h2=>⟨by omega,fun h3=>by rw[rootsN_len];omega⟩
 have hN:∀ x∈b.nodes,x.links.length<=4294967290/\((-4294967296<=x.parent/\x.parent<=4294967296)/\(x.parent<0->(-1-x.parent).toNat<(JI 0 n).length))/\∀ l∈x.links,0<=l/\l<ls.length:=fun x hx=>by
  obtain⟨k,hk,rfl⟩:=List.getElem_of_mem hx
  have hnode:=h.nodes k hk
  have hl:=hsm.links _ hx
  have hnl:=h.nodesL
  refine⟨by omega,hpar _ (Js hr.1 hnode.par) ?_,fun l hl=>⟨(hnode.links l hl).1,hls l (hnode.links l hl)⟩⟩
  have:=hnode.par
  unfold UB at this
  omega
 have hP:∀ p∈b.sites,(-4294967296<=p/\p<=4294967296)/\(p<0->(-1-p).toNat<(JI 0 n).length):=fun p hp=>by
  have hu:=h.sites p hp
  have hnl:=h.nodesL
  refine hpar _ (Js hr.1 hu) ?_
  unfold UB at hu
  omega
 have hW:∀ w∈b.inner,0<=w.link/\w.link<ls.length:=fun w hw=>⟨(h.inner w hw).1,hls _ (h.inner w hw)⟩
 have e1:b.nodes.map (Zgw 0 (JI 0 n) ls)=(Dk b (fun l=>g0 ls l.toNat) e o).nodes:=by
  unfold Dk
  refine List.map_congr_left fun x hx=>?_
  obtain⟨k,hk,rfl⟩:=List.getElem_of_mem hx
  unfold Zgw
  rw[Zja hn (Js hr.1 (h.nodes k hk).par)]
 have e2:b.sites.map (Zep 0 (JI 0 n))=b.sites:=by
  have:b.sites.map (Zep 0 (JI 0 n))=b.sites.map id:=List.map_congr_left fun p hp=>Zja hn (Js hr.1 (h.sites p hp))
  rw[this,List.map_id]
 have s1:=hsm.nodes;have s2:=hsm.sites;have s3:=hsm.inner
 refine Zb Zgg (by simp [Zg,low,men,Zj]) ?_
 simp only[Za9,Zc,hn,EVA,seval,Zj,men]
 refine Za (Zaf 0 n (by omega) (by omega)) ?_
 simp only[EVA,seval,Zj,men]
 have q1:=Uq b 0 (JI 0 n) ls (by omega) (by omega) hN
 rw[e1] at q1
 simp only[Zc,hn,List.map_cons,List.map_nil] at q1
 refine Za q1 ?_
 simp only[List.length_map,EVA,seval,Zj,men]
 have q2:=X3 b 0 (JI 0 n) (by omega) (by omega) hP
 rw[e2] at q2
 simp only[Zc,hn,List.map_cons,List.map_nil] at q2
 refine Za q2 ?_
 simp only[Zo3,Zo4,List.length_map,EVA,seval,Zj,men]
 refine⟨by omega,?_⟩
 have q3:=Zag b ls (by omega) hW
 rw[show b.inner.map (Zkl ls)=(Dk b (fun l=>g0 ls l.toNat) e o).inner from rfl] at q3
 simp only[Zc,hn,List.map_cons,List.map_nil] at q3
 refine Za q3 ?_
 simp only[List.length_map,EVA,seval]
 rw[<-hn]
 rfl
def Jh:TBigraph:=⟨0,[],[],0,[],[]⟩
theorem ZeX(sig:List TControl)(b:TBigraph)(hn:sig.length<=4294967296)(hbs:∀ y∈sig,Zo 4294967296 y)(hb:Zp 4294967296 b)(hf:ZB b)(hG:bigOK sig b)(lvl:Nat)(S:Sto):Sem Go.Proofs.Tryz.prog VD lvl [.tr (.sl (sig.map Zh)),.ag ((Zc b).map .tr)] S (.tu [.ag ((Zc b).map .tr),iB true]) S:=by
 refine Zb Zdi (by simp [Zc,low,men,Zj]) ?_
 simp only[Zab,Zc,EVA,seval,Zj,men]
 refine Za (X2 sig b hn hbs hb hf) ?_
 rw[ZN hG]
 simp only[EVA,seval]
theorem ZeY(sig:List TControl)(b:TBigraph)(hn:sig.length<=4294967296)(hbs:∀ y∈sig,Zo 4294967296 y)(hb:Zp 4294967296 b)(hf:ZB b)(hG:¬ bigOK sig b)(lvl:Nat)(S:Sto):Sem Go.Proofs.Tryz.prog VD lvl [.tr (.sl (sig.map Zh)),.ag ((Zc b).map .tr)] S (.tu [Zg Jh,iB false]) S:=by
 refine Zb Zdi (by simp [Zg,low,men,Zj]) ?_
 simp only[Zab,Zc,EVA,seval,Zj,men]
 refine Za (X2 sig b hn hbs hb hf) ?_
 rw[Zi hG]
 simp only[EVA,seval]
 rfl
def Q0(sig:List TControl)(b:TBigraph)(s:ByteArray):Prop:=bigOK sig b/\s∈b.outer/\bigOK sig (XK b s)
theorem Znl{b:TBigraph}{s:ByteArray}(h:0<=b.edges):((DA b s).length:Int)=b.edges+b.outer.length:=by
 unfold DA ZmB
 rw[List.length_append,List.length_map,List.length_map,Y9]
 omega
theorem Znm{sig:List TControl}{b:TBigraph}{s:ByteArray}(h:bigOK sig b){l:Int}(hl:ZX b l):0<=g0 (DA b s) l.toNat/\g0 (DA b s) l.toNat<=100:=by
 have he:=h.edges
 have ho:=h.outer.2
 unfold DA
 rcases Yb hl with ⟨h0,h1⟩ | ⟨i,hi,rfl⟩
 ·rw[Zcj h0 h1];omega
 ·rw[Zck h.edges.1 hi]
  split
  ·omega
  ·rename_i hne
   have h1:b.outer[i]∈QZ b.outer s:=lessN_mem.2 ⟨List.getElem_mem hi,hne⟩
   have:=ixS_nn.2 h1
   have:=ZmA h1
   have:(QZ b.outer s).length<=b.outer.length:=List.length_filter_le ..
   omega
theorem Zlt{sig:List TControl}{b:TBigraph}(h:bigOK sig b){F:Int->Int}{e:Int}{o:List ByteArray}(hb:Zp 4294967296 b)(ho:o.length<=100)(hos:∀ y∈o,y.size<=4294967290):Zp 4294967290 (Dk b F e o):=by
 obtain⟨b1,b2,b3,b4,b5,b6,b7⟩:=hb
 have hs:=h.small
 have s1:=hs.nodes;have s2:=hs.sites;have s3:=hs.inner
 refine⟨by simp only[Dk,List.length_map];omega,fun y hy=>?_,by simp only[Dk];omega,by simp only[Dk];omega,hos,by simp only[Dk,List.length_map];omega,fun y hy=>?_⟩
 ·obtain⟨x,hx,rfl⟩:=List.mem_map.1 hy
  have:=hs.links x hx
  simp only[Za0,List.length_map]
  omega
 ·obtain⟨w,hw,rfl⟩:=List.mem_map.1 hy
  have hn:w.name∈inn b:=List.mem_map.2 ⟨w,hw,rfl⟩
  obtain⟨i,hi,hie⟩:=List.getElem_of_mem hn
  have:=(h.inn.1 i hi).1.2.2
  rw[hie] at this
  simp only[UJ]
  omega
theorem Zo8{sig:List TControl}{b:TBigraph}(h:bigOK sig b){F:Int->Int}{e:Int}{o:List ByteArray}(hf:ZB b)(hF:∀ l,ZX b l->0<=F l/\F l<=100)(he:XP .i64 e):ZB (Dk b F e o):=by
 obtain⟨f1,f2,f3,f4,f5⟩:=hf
 refine⟨f1,fun y hy=>?_,f3,he,fun y hy=>?_⟩
 ·obtain⟨x,hx,rfl⟩:=List.mem_map.1 hy
  have hq:=f2 x hx
  obtain⟨i,hi,hie⟩:=List.getElem_of_mem hx
  refine⟨hq.1,hq.2.1,fun l hl=>?_⟩
  obtain⟨l0,hl0,rfl⟩:=List.mem_map.1 hl
  have:=hF l0 ((h.nodes i hi).links l0 (by rw[hie];exact hl0))
  rw[Zd];omega
 ·obtain⟨w,hw,rfl⟩:=List.mem_map.1 hy
  have:=hF _ (h.inner w hw)
  show XP .i64 (F w.link)
  rw[Zd];omega
theorem Yq{l:List ByteArray}(h:VM l){s:ByteArray}(hs:s∈l):s.size<=4:=by
 obtain⟨i,hi,rfl⟩:=List.getElem_of_mem hs
 exact(h.1 i hi).1.2.2
theorem Zjb{sig:List TControl}{b:TBigraph}{s:ByteArray}(h:bigOK sig b)(hb:Zp 4294967296 b):Zp 4294967290 (XK b s) :=
 Zlt h hb (Nat.le_trans (List.length_filter_le ..) (by have:=h.outer.2;omega)) fun y hy=>by
  have:=Yq h.outer (lessN_mem.1 hy).1
  omega
theorem Zjc{sig:List TControl}{b:TBigraph}{s:ByteArray}(h:bigOK sig b)(hf:ZB b):ZB (XK b s) :=
 Zo8 h hf (fun l hl=>Znm h hl) (by have:=h.edges;rw[Zd];omega)
end Go.Fd

/-
  A NAME BECOMES AN EDGE: BOTH ANSWERS. Own work.
-/
namespace Go.Fd
set_option maxRecDepth 20000
open Classical in
noncomputable def J6(sig:List TControl)(b:TBigraph)(s:ByteArray):TBigraph:=if Q0 sig b s then XK b s else Jh
noncomputable def J7(sig:List TControl)(b:TBigraph)(s:ByteArray):Bool:=dc (Q0 sig b s)
theorem Qh{a c:Nat}{b:TBigraph}(h:a<=c)(hb:Zp a b):Zp c b:=by
 obtain⟨b1,b2,b3,b4,b5,b6,b7⟩:=hb
 exact⟨by omega,fun y hy=>Nat.le_trans (b2 y hy) h,by omega,by omega,fun y hy=>Nat.le_trans (b5 y hy) h,by omega,fun y hy=>Nat.le_trans (b7 y hy) h⟩
theorem QM{sig:List TControl}{b:TBigraph}(h:bigOK sig b):Zp 1000 b:=by
 have hs:=h.small
 have s1:=hs.nodes;have s2:=hs.sites;have s3:=hs.inner;have s4:=hs.outer
 refine⟨by omega,fun y hy=>hs.links y hy,by omega,by omega,fun y hy=>?_,by omega,fun w hw=>?_⟩
 ·have:=Yq h.outer hy;omega
 ·have hn:w.name∈inn b:=List.mem_map.2 ⟨w,hw,rfl⟩
  have:=Yq h.inn hn
  simp only[UJ]
  omega
theorem Zhn(sig:List TControl)(b:TBigraph)(s:ByteArray)(h:bigOK sig b)(hs:s∈b.outer)(lvl:Nat)(S:Sto):Sem Go.Proofs.Tryz.prog Yi lvl [.ag ((Zc b).map .tr),iS s] S (Zg (XK b s)) S:=by
 have hsm:=h.small
 have s4:=hsm.outer
 have he:=h.edges
 have hle:(QZ b.outer s).length<=16:=Nat.le_trans (List.length_filter_le ..) s4
 refine Zb U9 (by simp [Zg,low,men,Zj]) ?_
 simp only[Qy,Zc,EVA,seval,Zj,men]
 refine⟨by rw[Zd];omega,?_⟩
 refine Za (ZgE b.outer s (by omega)) ?_
 simp only[EVA,seval,Zj,men]
 have q:=UR b (b.edges+1) (QZ b.outer s) Jl [[ts s],Zc b] (ZhT b s) he.1 (Qh (by omega) (QM h)) (by omega) (by omega) (by omega) (fun x hx l hl=>by
  obtain⟨k,hk,rfl⟩:=List.getElem_of_mem hx
  exact(h.nodes k hk).links l hl) h.inner (fun l hl lvl S=>Zfe b s (ZfF b l) lvl S)
 rw[Zri h hs] at q
 simp only[Zc,List.map_cons,List.map_nil] at q
 refine Za q ?_
 simp only[Zg,List.length_map,EVA,seval]
theorem Zdy(sig:List TControl)(b:TBigraph)(s:ByteArray)(hn:sig.length<=4294967296)(hbs:∀ y∈sig,Zo 4294967296 y)(hb:Zp 4294967296 b)(_hs:s.size<=4294967296)(hf:ZB b)(lvl:Nat)(S:Sto):Sem Go.Proofs.Tryz.prog Xx lvl [.tr (.sl (sig.map Zh)),.ag ((Zc b).map .tr),iS s] S (.tu [Zg (J6 sig b s),iB (J7 sig b s)]) S:=by
 refine Zb Zfd (by simp [Zg,low,men,Zj]) ?_
 simp only[Zay,Zc,EVA,seval,Zj,men]
 refine Za (Jy sig b hn hbs hb) ?_
 unfold J6 J7
 cases h1:dc (bigOK sig b)
 ·have hno:¬ Q0 sig b s:=fun g=>dc_not.1 h1 g.1
  rw[if_neg hno,Zi hno]
  simp only[EVA,seval]
  rfl
 have hG:=dc_iff.1 h1
 simp only[EVA,seval,Zj,men]
 refine Za (Zah b.outer s (by have:=hb.2.2.2.1;omega)) ?_
 cases h2:dc (s∈b.outer)
 ·have hno:¬ Q0 sig b s:=fun g=>dc_not.1 h2 g.2.1
  rw[if_neg hno,Zi hno]
  simp only[EVA,seval]
  rfl
 have hM:=dc_iff.1 h2
 simp only[EVA,seval,Zj,men]
 have q:=Zhn sig b s hG hM
 simp only[Zc,List.map_cons,List.map_nil] at q
 refine Za q ?_
 simp only[Zg,EVA,seval,Zj,men]
 have qv:=Zdx sig (XK b s) hn hbs (Zjb hG hb) (Zjc hG hf)
 simp only[Zc,List.map_cons,List.map_nil] at qv
 refine Za qv ?_
 cases h3:dc (bigOK sig (XK b s))
 ·have hno:¬ Q0 sig b s:=fun g=>dc_not.1 h3 g.2.2
  rw[if_neg hno,Zi hno,if_neg (dc_not.1 h3)]
  simp only[Zg,EVA,seval]
  rfl
 ·have hyes:Q0 sig b s:=⟨hG,hM,dc_iff.1 h3⟩
  rw[if_pos hyes,ZN hyes,if_pos (dc_iff.1 h3)]
  simp only[Zg,List.length_map,EVA,seval]
theorem ZhV{n:Nat}:UD 0 n=(WI n).map fun l=>l:=by simp [UD,WI]
theorem ZtW{o:List ByteArray}{s:ByteArray}(hp:o.Pairwise ltS)(hs:s∈o){j:Nat}(h:j<o.length):(j:Int)=ixS o s↔o[j]=s:=by
 obtain⟨k,hk,rfl⟩:=List.getElem_of_mem hs
 rw[Zxn hp hk]
 constructor
 ·intro e
  have:j=k:=by omega
  subst this;rfl
 ·intro e
  have:=Zxm hp h hk e
  omega
def Znn(b:TBigraph)(g:ByteArray->Int)(j:Nat):List Int:=(WI b.edges.toNat).map (fun l=>l)++(b.outer.take j).map g
theorem Zrk{b:TBigraph}{g:ByteArray->Int}{j:Nat}(h:j<=b.outer.length):(Znn b g j).length=b.edges.toNat+j:=by
 unfold Znn
 rw[List.length_append,List.length_map,List.length_map,Y9,List.length_take]
 omega
theorem Zo9{b:TBigraph}{g:ByteArray->Int}{j:Nat}(h:j<b.outer.length):Znn b g (j+1)=Znn b g j++[g b.outer[j]]:=by
 unfold Znn
 rw[List.take_succ_eq_append_getElem h,List.map_append,List.append_assoc]
 rfl
theorem Zho(sig:List TControl)(b:TBigraph)(s:ByteArray)(hn:sig.length<=4294967296)(hbs:∀ y∈sig,Zo 4294967296 y)(hb:Zp 4294967296 b)(hf:ZB b)(hno:¬ (bigOK sig b/\s∈b.outer))(lvl:Nat)(S:Sto):Sem Go.Proofs.Tryz.prog JQ lvl [.tr (.sl (sig.map Zh)),.ag ((Zc b).map .tr),iS s] S (.tu [Zg Jh,iB false]) S:=by
 refine Zb Zaz (by simp [Zg,low,men,Zj]) ?_
 simp only[WC,Zc,EVA,seval,Zj,men]
 refine Za (Zae b.outer s (by have:=hb.2.2.2.1;omega)) ?_
 simp only[EVA,seval,Zj,men]
 refine Za (X2 sig b hn hbs hb hf) ?_
 cases h1:dc (bigOK sig b)
 ·simp only[EVA,seval]
  rfl
 have hG:=dc_iff.1 h1
 have hm:s ∉ b.outer:=fun g=>hno ⟨hG,g⟩
 have e:=Zmz hm
 simp only[e,EVA,seval]
 rfl
theorem DB(sig:List TControl)(b:TBigraph)(s:ByteArray)(hn:sig.length<=4294967296)(hbs:∀ y∈sig,Zo 4294967296 y)(hb:Zp 4294967296 b)(hf:ZB b)(hG:bigOK sig b)(hM:s∈b.outer)
  (lvl:Nat) (S:Sto):Sem Go.Proofs.Tryz.prog JQ lvl [.tr (.sl (sig.map Zh)),.ag ((Zc b).map .tr),iS s] S (.tu [@ite IV (bigOK sig (XK b s)) (Classical.propDecidable _) (.ag ((Zc (XK b s)).map .tr)) (Zg Jh),iB (dc (bigOK sig (XK b s)))]) S:=by
 have hsm:=hG.small
 have s4:=hsm.outer
 have he:=hG.edges
 have hp:=Zi9 hG.outer
 have hix:=ixS_nn.2 hM
 have hle:(QZ b.outer s).length<=16:=Nat.le_trans (List.length_filter_le ..) s4
 refine Zb Zaz (by split <;> simp [Zg,Zc,low,men,Zj]) ?_
 simp only[WC,Zc,EVA,seval,Zj,men]
 refine Za (Zae b.outer s (by omega)) ?_
 simp only[EVA,seval,Zj,men]
 refine Za (X2 sig b hn hbs hb hf) ?_
 rw[ZN hG]
 have hnl:¬ ixS b.outer s<0:=by omega
 simp only[hnl,EVA,seval,Zj,men]
 refine Za (Zni b.outer s (by omega)) ?_
 simp only[EVA,seval,Zj,men]
 obtain⟨n,hn2⟩:∃ n:Nat,b.edges=n:=⟨b.edges.toNat,by omega⟩
 have qE:=Up 0 n (by omega) (by omega)
 obtain⟨g,hg⟩:∃ g:ByteArray->Int,g=fun x=>if x=s then b.edges else b.edges+1+ixS (QZ b.outer s) x:=⟨_,rfl⟩
 have e0:UD 0 n=Znn b g 0:=by
  unfold Znn
  rw[ZhV,show b.edges.toNat=n from by omega]
  simp
 rw[<-hn2,e0] at qE
 refine Za qE ?_
 simp only[List.length_map,EVA,seval]
 refine ZH (α:=Unit) b.outer.length (fun j _=>[(10,.hd (lvl,992) [] 0 (Znn b g j).length none (Znn b g j).length),(11,iI j)]) (fun j _=>[(992,.ar 1 (rI (Znn b g j)) true (Znn b g j).length 0)]) (fun _ _=>True) () (by simp only[EVA,seval]) (by (simp only[EVA,seval]) <;> rfl) trivial ?_
 intro j _ hj _
 simp only[List.length_map,EVA,seval,Zj,men]
 refine Zk (fun hlt=>?_) (fun hge=>?_)
 ·have hja:j<b.outer.length:=by omega
  have ga:=ZfE (e0:=e0S) (c:=fun n:ByteArray=>[ts n]) hja
  rw[UC hja] at ga
  have htl:=Zrk (b:=b) (g:=g) hj
  have hs:=Zo9 (b:=b) (g:=g) hja
  have hiff:=ZtW hp hM hja
  by_cases hx:b.outer[j]=s
  ·have hx2:=hiff.2 hx
   have hgx:g b.outer[j]=b.edges:=by rw[hg];simp [hx]
   rw[hgx] at hs
   have hx3:ixS b.outer s=(j:Int):=hx2.symm
   simp only[hx3,seval]
   exact⟨by omega,by rw[Zd];omega,Ze () hja (by rw[hs,List.length_append,Vt];rfl) trivial⟩
  ·have hx3:¬ (j:Int)=ixS b.outer s:=fun e=>hx (hiff.1 e)
   have hgx:g b.outer[j]=b.edges+1+ixS (QZ b.outer s) b.outer[j]:=by rw[hg];simp [hx]
   rw[hgx] at hs
   have hm:b.outer[j]∈QZ b.outer s:=lessN_mem.2 ⟨List.getElem_mem hja,hx⟩
   have:=ixS_nn.2 hm
   have:=ZmA hm
   simp only[hx3,ga,EVA,seval,Zj,men]
   refine⟨by rw[Zd];omega,?_⟩
   refine Za (Zae (QZ b.outer s) b.outer[j] (by omega)) ?_
   simp only[List.length_map,EVA,seval]
   have:(QZ b.outer s).length<=16:=hle
   exact⟨by rw[Zd];omega,by omega,by rw[Zd];omega,Ze () hja (by rw[hs,List.length_append,Vt];rfl) trivial⟩
 ·have:j=b.outer.length:=by omega
  subst this
  have hfin:Znn b g b.outer.length=DA b s:=by rw[hg,Znn,List.take_length];rfl
  rw[hfin]
  refine⟨by rw[Zd];omega,?_⟩
  rw[show cut (rI (DA b s)) 0 (DA b s).length=rI (DA b s) from Yn (by rw[List.length_map])]
  have qR:=Zkp sig b hG (DA b s) (b.edges+1) (QZ b.outer s) hb (fun l hl=>by rw[Znl he.1];have:=hl.2;omega) (by omega)
  rw[show Dk b (fun l=>g0 (DA b s) l.toNat) (b.edges+1) (QZ b.outer s)=XK b s from rfl] at qR
  simp only[Zc,List.map_cons,List.map_nil] at qR
  refine Za qR ?_
  simp only[Zg,EVA,seval,Zj,men]
  by_cases hq:bigOK sig (XK b s)
  ·have qG:=ZeX sig (XK b s) hn hbs (Qh (by omega) (Zjb hG hb)) (Zjc hG hf) hq
   simp only[Zc,List.map_cons,List.map_nil] at qG
   rw[if_pos hq,ZN hq]
   refine Za qG ?_
   simp only[EVA,seval]
  ·have qG:=ZeY sig (XK b s) hn hbs (Qh (by omega) (Zjb hG hb)) (Zjc hG hf) hq
   simp only[Zc,List.map_cons,List.map_nil] at qG
   rw[if_neg hq,Zi hq]
   refine Za qG ?_
   simp only[Zg,List.length_map,EVA,seval]
   try rfl
theorem ZbP(sig:List TControl)(b:TBigraph)(s:ByteArray)(hn:sig.length<=4294967296)(hbs:∀ y∈sig,Zo 4294967296 y)(hb:Zp 4294967296 b)(_hs:s.size<=4294967296)(hf:ZB b)(hB:Q0 sig b s)(lvl:Nat)(S:Sto):Sem Go.Proofs.Tryz.prog JQ lvl [.tr (.sl (sig.map Zh)),.ag ((Zc b).map .tr),iS s] S (.tu [.ag ((Zc (J6 sig b s)).map .tr),iB (J7 sig b s)]) S:=by
 have h:=DB sig b s hn hbs hb hf hB.1 hB.2.1 lvl S
 unfold J6 J7
 rw[if_pos hB,ZN hB]
 rw[if_pos hB.2.2,ZN hB.2.2] at h
 exact h
theorem ZbQ(sig:List TControl)(b:TBigraph)(s:ByteArray)(hn:sig.length<=4294967296)(hbs:∀ y∈sig,Zo 4294967296 y)(hb:Zp 4294967296 b)(_hs:s.size<=4294967296)(hf:ZB b)(hB:¬ Q0 sig b s)(lvl:Nat)(S:Sto):Sem Go.Proofs.Tryz.prog JQ lvl [.tr (.sl (sig.map Zh)),.ag ((Zc b).map .tr),iS s] S (.tu [Zg (J6 sig b s),iB (J7 sig b s)]) S:=by
 unfold J6 J7
 rw[if_neg hB,Zi hB]
 by_cases hl:bigOK sig b/\s∈b.outer
 ·have h:=DB sig b s hn hbs hb hf hl.1 hl.2 lvl S
  have hq:¬ bigOK sig (XK b s):=fun g=>hB ⟨hl.1,hl.2,g⟩
  rw[if_neg hq,Zi hq] at h
  exact h
 ·exact Zho sig b s hn hbs hb hf hl lvl S
end Go.Fd

/-
  TWO NAMES BECOME ONE: THE PROGRAM'S SIDE; A COPY BY NUMBERING ANEW. Own work.
-/
namespace Go.Fd
set_option maxRecDepth 20000
theorem Zjd{n k:Nat}(h:k<n):g0 (WI n) k=k:=by
 show (WI n).getD k 0=_
 rw[List.getD_eq_getElem?_getD,WI,List.getElem?_map,List.getElem?_range h]
 simp
theorem Zdz(p:Int)(n:Nat)(h:p<n)(lvl:Nat)(S:Sto):Sem Go.Proofs.Tryz.prog Xz lvl [iI p,tI (WI n)] S (iI p) S:=by
 refine Zb ZiS trivial ?_
 simp only[Zda,EVA,seval]
 refine Zk (fun hlt=>?_) (fun hge=>?_)
 ·trivial
 ·obtain⟨k,rfl⟩:∃ k:Nat,p=k:=⟨p.toNat,by omega⟩
  have hk:k<(WI n).length:=by rw[Y9];omega
  have ga:=V7 hk
  rw[Zjd (by omega)] at ga
  simp only[ga,EVA,seval]
  try rfl
theorem ZeZ(b:TBigraph)(l:Int)(n:Nat)(hn:b.edges=n)(h:0<=l)(lvl:Nat)(S:Sto):Sem Go.Proofs.Tryz.prog X8 lvl [.ag ((Zc b).map .tr),iI l,tI (WI n)] S (iI l) S:=by
 refine Zb Zj9 trivial ?_
 simp only[ZeP,Zc,hn,EVA,seval]
 refine Zk (fun hlt=>?_) (fun hge=>?_)
 ·trivial
 ·obtain⟨k,rfl⟩:∃ k:Nat,l=k:=⟨l.toNat,by omega⟩
  have hk:k<(WI n).length:=by rw[Y9];omega
  have ga:=V7 hk
  rw[Zjd (by omega)] at ga
  simp only[ga,EVA,seval]
  try rfl
def Zcx(l:List TNode)(j:Nat):Row:=(l.take j).map ZO++List.replicate (l.length-j) [tv 0,tv 0,Tr.sl []]
theorem ZtX{l:List TNode}:List.replicate l.length [tv 0,tv 0,Tr.sl []]=Zcx l 0:=by simp [Zcx]
theorem ZtY{l:List TNode}:Zcx l l.length=l.map ZO:=by simp [Zcx]
theorem Zpa{l:List TNode}{j:Nat}(h:j<=l.length):(Zcx l j).length=l.length:=by simp [Zcx];omega
theorem Zpb{l:List TNode}{j:Nat}(h:j<l.length):(Zcx l j)[j]? = some [tv 0,tv 0,Tr.sl []]:=by
 have:(((l.take j).map ZO)).length=j:=by rw[List.length_map,List.length_take];omega
 rw[Zcx,List.getElem?_append_right (by omega),this,List.getElem?_replicate]
 rw[if_pos (by omega)]
theorem Zpc{l:List TNode}{j:Nat}(h:j<l.length):(Zcx l j).set j (ZO l[j])=Zcx l (j+1):=by
 have e:(((l.take j).map ZO)).length=j:=by rw[List.length_map,List.length_take];omega
 rw[Zcx,List.set_append_right _ _ (by omega),e,Nat.sub_self]
 rw[show l.length-j=(l.length-(j+1))+1 by omega,List.replicate_succ,List.set_cons_zero,Zcx,List.take_succ_eq_append_getElem h,List.map_append,List.append_assoc]
 rfl
theorem Zje{R:Row}{j k:Nat}{e:List Tr}{t:Tr}(h:R[j]? = some e):YZ R [] j k t=R.set j (e.set k t):=by
 simp only[YZ,h]
theorem Zjf{R:Row}{j:Nat}{e:List Tr}(h:j<R.length):(R.set j e)[j]? = some e:=List.getElem?_set_self h
theorem Zer(b:TBigraph)(n E:Nat)(hn:b.nodes.length=n)(hE:b.edges=E)(hbd:Zp 4294967290 b)(hE2:E<=4294967290)(hp:∀ x∈b.nodes,x.parent<n/\∀ l∈x.links,0<=l)(hs:∀ p∈b.sites,p<n)(hw:∀ w∈b.inner,0<=w.link)(lvl:Nat)(S:Sto):Sem Go.Proofs.Tryz.prog QU lvl [.ag ((Zc b).map .tr),tI (WI n),tI (WI E)] S (Zg b) S:=by
 refine Zb Zeg (by simp [Zg,low,men,Zj]) ?_
 simp only[Du,Zc,Zo3,Zo4,Nat.zero_max,List.length_map,EVA,seval]
 obtain⟨b1,b2,b3,b4,b5,b6,b7⟩:=hbd
 refine⟨by omega,by omega,?_⟩
 refine ZH (α:=Unit) b.nodes.length (fun j _=>[(8,iI j)]) (fun j _=>[(576,.ar 3 (Zcx b.nodes j) true b.nodes.length j)]) (fun _ _=>True) () (by simp only[EVA,seval]) (by (simp only[ZtX,EVA,seval]) <;> rfl) trivial ?_
 intro j _ hj _
 simp only[List.length_map,EVA,seval]
 refine Zk (fun hlt=>?_) (fun hge=>?_)
 ·have hja:j<b.nodes.length:=by omega
  have ga:=Db (c:=ZO) hja
  have hkl:b.nodes[j].links.length<=4294967290:=b2 _ (List.getElem_mem hja)
  obtain⟨p1,p2⟩:=hp _ (List.getElem_mem hja)
  refine ZH (α:=Unit) b.nodes[j].links.length (fun k _=>[(9,.hd (lvl,1056) [] 0 k none k),(10,iI k)]) (fun k _=>[(1056,.ar 1 (rI (b.nodes[j].links.take k)) true k 0)]) (fun _ _=>True) () (by simp only[EVA,seval]) (by (simp only[EVA,seval]) <;> rfl) trivial ?_
  intro k _ hk _
  simp only[ga,ZO,List.length_map,EVA,seval]
  refine Zk (fun hlt2=>?_) (fun hge2=>?_)
  ·have hka:k<b.nodes[j].links.length:=by omega
   have gl:=V7 hka
   have e0:g0 b.nodes[j].links k=b.nodes[j].links[k]:=by simp [hka]
   have hq:=p2 _ (List.getElem_mem hka)
   rw[<-e0] at hq
   have hl3:(b.nodes[j].links.take k).length=k:=by rw[List.length_take];omega
   have hs:rI (b.nodes[j].links.take k)++[[tv (g0 b.nodes[j].links k)]]=rI (b.nodes[j].links.take (k+1)):=by
    rw[List.take_succ_eq_append_getElem hka,Vt,<-e0]
    rfl
   simp only[gl,EVA,seval,Zj,men]
   have q:=ZeZ b (g0 b.nodes[j].links k) E hE hq
   simp only[Zc,List.map_cons,List.map_nil] at q
   refine Za q ?_
   simp only[hl3,hs,List.length_map,EVA,seval]
   exact⟨by omega,by rw[Zd];omega,Ze () hka rfl trivial⟩
  ·have:k=b.nodes[j].links.length:=by omega
   subst this
   rw[List.take_length]
   rw[<-hn] at p1
   have hj2:(WI n).length=n:=Y9
   have gu:=V7 (l:=WI n) (i:=j) (by omega)
   rw[Zjd (by omega)] at gu
   have q:=Zdz b.nodes[j].parent n (by omega)
   have g1:=Zpb hja
   have hfl:=Zpa (Nat.le_of_lt hja)
   have hst:=Zpc hja
   simp only[ga,ZO,gu,EVA,seval,Zj,men]
   refine Za q ?_
   have t1:=Zje (k:=0) (t:=Tr.v (.int .i64 b.nodes[j].control)) g1
   simp only[List.set_cons_zero] at t1
   have t2:=Zje (k:=1) (t:=Tr.v (.int .i64 b.nodes[j].parent)) (Zjf (e:=[Tr.v (.int .i64 b.nodes[j].control),tv 0,Tr.sl []]) (by rw[hfl];exact hja))
   simp only[List.set_cons_zero,List.set_cons_succ,List.set_set] at t2
   have t3:=Zje (k:=2) (t:=Tr.sl (rI b.nodes[j].links)) (Zjf (e:=[Tr.v (.int .i64 b.nodes[j].control),Tr.v (.int .i64 b.nodes[j].parent),Tr.sl []]) (by rw[hfl];exact hja))
   simp only[List.set_cons_zero,List.set_cons_succ,List.set_set] at t3
   have hst':(Zcx b.nodes j).set j [Tr.v (.int .i64 b.nodes[j].control),Tr.v (.int .i64 b.nodes[j].parent),Tr.sl (rI b.nodes[j].links)]=Zcx b.nodes (j+1):=hst
   rw[hst'] at t3
   have g2:=Zjf (e:=[Tr.v (.int .i64 b.nodes[j].control),tv 0,Tr.sl []]) (by rw[hfl];exact hja)
   have g3:=Zjf (e:=[Tr.v (.int .i64 b.nodes[j].control),Tr.v (.int .i64 b.nodes[j].parent),Tr.sl []]) (by rw[hfl];exact hja)
   simp only[g1,g2,g3,t1,t2,t3,hja,List.length_map,EVA,seval]
   exact⟨by rw[Zd];omega,Ze () hja rfl trivial⟩
 ·have:j=b.nodes.length:=by omega
  subst this
  rw[ZtY]
  refine ZH (α:=Unit) b.sites.length (fun j _=>[(11,iI j)]) (fun j _=>[(224,.bx [iI b.roots,.hd (lvl,576) [] 0 b.nodes.length none b.nodes.length,.hd (lvl,800) [] 0 j none j,iI b.edges,.hd (lvl,672) [] 0 b.outer.length none b.outer.length,.hd (lvl,801) [] 0 0 none 0]),(800,.ar 1 (rI (b.sites.take j)) true j 0)]) (fun _ _=>True) () (by simp only[EVA,seval]) (by (simp only[EVA,seval]) <;> rfl) trivial ?_
  intro j _ hj _
  simp only[List.length_map,EVA,seval]
  refine Zk (fun hlt=>?_) (fun hge=>?_)
  ·have hja:j<b.sites.length:=by omega
   have ga:=V7 hja
   have e0:g0 b.sites j=b.sites[j]:=by simp [hja]
   have hq:=hs _ (List.getElem_mem hja)
   rw[<-e0] at hq
   have hl3:(b.sites.take j).length=j:=by rw[List.length_take];omega
   have hs:rI (b.sites.take j)++[[tv (g0 b.sites j)]]=rI (b.sites.take (j+1)):=by
    rw[List.take_succ_eq_append_getElem hja,Vt,<-e0]
    rfl
   simp only[ga,EVA,seval,Zj,men]
   refine Za (Zdz (g0 b.sites j) n hq) ?_
   simp only[hl3,hs,List.length_map,EVA,seval]
   exact⟨by omega,by rw[Zd];omega,Ze () hja rfl trivial⟩
  ·have:j=b.sites.length:=by omega
   subst this
   rw[List.take_length]
   refine ZH (α:=Unit) b.inner.length (fun j _=>[(12,iI j)]) (fun j _=>[(224,.bx [iI b.roots,.hd (lvl,576) [] 0 b.nodes.length none b.nodes.length,.hd (lvl,800) [] 0 b.sites.length none b.sites.length,iI b.edges,.hd (lvl,672) [] 0 b.outer.length none b.outer.length,.hd (lvl,801) [] 0 j none j]),(801,.ar 2 ((b.inner.take j).map ZP) true j 0)]) (fun _ _=>True) () (by simp only[EVA,seval]) (by (simp only[EVA,seval]) <;> rfl) trivial ?_
   intro j _ hj _
   simp only[List.length_map,EVA,seval]
   refine Zk (fun hlt=>?_) (fun hge=>?_)
   ·have hja:j<b.inner.length:=by omega
    have ga:=Db (c:=ZP) hja
    have hq:=hw _ (List.getElem_mem hja)
    have hl3:(b.inner.take j).length=j:=by rw[List.length_take];omega
    have hs:(b.inner.take j).map ZP++[[ts b.inner[j].name,tv b.inner[j].link]]=(b.inner.take (j+1)).map ZP:=by
     rw[List.take_succ_eq_append_getElem hja,List.map_append]
     rfl
    simp only[ga,ZP,EVA,seval,Zj,men]
    have q:=ZeZ b b.inner[j].link E hE hq
    simp only[Zc,List.map_cons,List.map_nil] at q
    refine Za q ?_
    simp only[hl3,hs,List.length_map,EVA,seval]
    exact⟨by omega,by rw[Zd];omega,Ze () hja rfl trivial⟩
   ·have:j=b.inner.length:=by omega
    subst this
    rw[List.take_length]
    exact⟨rfl,rfl⟩
theorem ZgF(b:TBigraph)(E:Nat)(hE:b.edges=E)(hbd:Zp 4294967290 b)(hE2:E<=4294967290)(hp:∀ x∈b.nodes,x.parent<b.nodes.length/\∀ l∈x.links,0<=l)(hs:∀ p∈b.sites,p<b.nodes.length)(hw:∀ w∈b.inner,0<=w.link)(lvl:Nat)(S:Sto):Sem Go.Proofs.Tryz.prog Vi lvl [.ag ((Zc b).map .tr)] S (Zg b) S:=by
 refine Zb Zj6 (by simp [Zg,low,men,Zj]) ?_
 simp only[ZeM,Zc,EVA,seval]
 have b1:=hbd.1
 refine ZH (α:=Unit) b.nodes.length (fun j _=>[(3,.hd (lvl,224) [] 0 j none j),(5,iI j)]) (fun j _=>[(224,.ar 1 (rI (WI j)) true j 0)]) (fun _ _=>True) () (by simp only[EVA,seval]) (by (simp only[EVA,seval]) <;> rfl) trivial ?_
 intro j _ hj _
 simp only[List.length_map,EVA,seval]
 refine Zk (fun hlt=>?_) (fun hge=>?_)
 ·have hja:j<b.nodes.length:=by omega
  have hl:(WI j).length=j:=Y9
  have hs:rI (WI j)++[[tv (j:Int)]]=rI (WI (j+1)):=by simp [WI,rI,List.range_succ]
  simp only[hl,hs,EVA,seval]
  exact⟨by omega,by rw[Zd];omega,Ze () hja rfl trivial⟩
 ·have:j=b.nodes.length:=by omega
  subst this
  refine ZH (α:=Unit) E (fun j _=>[(4,.hd (lvl,256) [] 0 j none j),(6,iI j)]) (fun j _=>[(256,.ar 1 (rI (WI j)) true j 0)]) (fun _ _=>True) () (by simp only[EVA,seval]) (by (simp only[EVA,seval]) <;> rfl) trivial ?_
  intro j _ hj _
  simp only[hE,List.length_map,EVA,seval,Zj,men]
  refine Zk (fun hlt=>?_) (fun hge=>?_)
  ·have hja:j<E:=by omega
   have hl:(WI j).length=j:=Y9
   have hs:rI (WI j)++[[tv (j:Int)]]=rI (WI (j+1)):=by simp [WI,rI,List.range_succ]
   simp only[hl,hs,EVA,seval]
   exact⟨by omega,by rw[Zd];omega,Ze () hja rfl trivial⟩
  ·have:j=E:=by omega
   subst this
   have l1:(WI b.nodes.length).length=b.nodes.length:=Y9
   have l2:(WI j).length=j:=Y9
   have q:=Zer b b.nodes.length j rfl hE hbd hE2 hp hs hw
   simp only[Zc,List.map_cons,List.map_nil,hE] at q
   rw[show cut (rI (WI b.nodes.length)) 0 b.nodes.length=rI (WI b.nodes.length) from Yn (by rw[List.length_map,l1]),show cut (rI (WI j)) 0 j=rI (WI j) from Yn (by rw[List.length_map,l2])]
   refine⟨by omega,by omega,Za q ?_⟩
   simp only[Zg,hE,List.length_map,EVA,seval]
   try rfl
theorem Zno{F:Int->Int}{l:List TNode}{j:Nat}(h:j<l.length):(Va F l j).set j ⟨l[j].control,l[j].parent,YL F l[j].links 0⟩=Va F l j:=by
 have:(⟨l[j].control,l[j].parent,YL F l[j].links 0⟩:TNode)=l[j]:=by simp [YL]
 rw[this]
 have hl:j<(Va F l j).length:=by rw[Zdv];exact h
 have e:l[j]=(Va F l j)[j]:=by
  have:=ZgA (F:=F) h
  rw[List.getElem?_eq_getElem hl] at this
  exact(Option.some.inj this).symm
 rw[e]
 exact List.set_getElem_self hl
theorem Znp{F:Int->Int}{l:List Int}{k:Nat}(h:k<l.length)(hf:F (g0 l k)=g0 l k):YL F l (k+1)=YL F l k:=by
 rw[<-Zgz h,hf]
 have e:g0 l k=(YL F l k)[k]'(by rw[Zbk];exact h):=by
  have:=Zgy (F:=F) h
  rw[<-this]
  simp [Zbk,h]
 rw[e]
 exact List.set_getElem_self _
theorem Znq{F:Int->Int}{l:List TWire}{j:Nat}(h:j<l.length)(hf:F l[j].link=l[j].link):Ur F l (j+1)=Ur F l j:=by
 rw[<-ZgC h]
 have hl:j<(Ur F l j).length:=by rw[Zo7];exact h
 have e:ZbG F l[j]=(Ur F l j)[j]:=by
  have:=ZgB (F:=F) h
  rw[List.getElem?_eq_getElem hl] at this
  rw[Option.some.inj this,ZbG,hf]
 rw[e]
 exact List.set_getElem_self hl
def Zqh(b:TBigraph)(names o:List ByteArray)(l:Int):Int:=if b.edges<=l then b.edges+ixS o (gS names (l-b.edges).toNat) else l
theorem Zlu(b:TBigraph)(names o:List ByteArray)(E:Nat)(hE:b.edges=E)(hbd:Zp 4294967290 b)(hE2:E<=4294967290)(hp:∀ x∈b.nodes,x.parent<b.nodes.length/\∀ l∈x.links,0<=l/\l<E+names.length)(hs:∀ p∈b.sites,p<b.nodes.length)(hw:∀ w∈b.inner,0<=w.link/\w.link<E+names.length)(hn:names.length<=4294967290)(ho:o.length<=4294967290)(lvl:Nat)(S:Sto):Sem Go.Proofs.Tryz.prog QK lvl [.ag ((Zc b).map .tr),.tr (.sl (rS names)),.tr (.sl (rS o))] S (Zg (Dk b (Zqh b names o) b.edges o)) S:=by
 refine Zb Zhf (by simp [Zg,low,men,Zj]) ?_
 simp only[Zcd,Zc,EVA,seval,Zj,men]
 have q:=ZgF b E hE hbd hE2 (fun x hx=>⟨(hp x hx).1,fun l hl=>((hp x hx).2 l hl).1⟩) hs (fun w hh=>(hw w hh).1)
 simp only[Zc,List.map_cons,List.map_nil] at q
 refine Za q ?_
 simp only[Zg,Zo3,Zo4,Nat.zero_max,List.length_map,EVA,seval]
 obtain⟨b1,b2,b3,b4,b5,b6,b7⟩:=hbd
 refine⟨by omega,?_⟩
 have hFdef:∃ F,F=Zqh b names o:=⟨_,rfl⟩
 obtain⟨F,hF⟩:=hFdef
 rw[<-hF]
 refine ZH (α:=Unit) b.nodes.length (fun j _=>[(8,iI j)]) (fun j _=>[(448,.ar 3 ((Va F b.nodes j).map ZO) true b.nodes.length 0)]) (fun _ _=>True) () (by simp only[EVA,seval]) (by (simp only[EVA,seval]) <;> rfl) trivial ?_
 intro j _ hj _
 simp only[EVA,seval]
 refine Zk (fun hlt=>?_) (fun hge=>?_)
 ·have hja:j<b.nodes.length:=by omega
  have gp:=ZgA (F:=F) hja
  have ga:((Va F b.nodes j).map ZO)[j]? = some [Tr.v (.int .i64 b.nodes[j].control),Tr.v (.int .i64 b.nodes[j].parent),Tr.sl (rI b.nodes[j].links)]:=by rw[List.getElem?_map,gp];rfl
  have hkl:b.nodes[j].links.length<=4294967290:=b2 _ (List.getElem_mem hja)
  have e0:(Va F b.nodes j).set j ⟨b.nodes[j].control,b.nodes[j].parent,YL F b.nodes[j].links 0⟩=Va F b.nodes j:=Zno hja
  refine ZH (α:=Unit) b.nodes[j].links.length (fun k _=>[(9,iI k)]) (fun k _=>[(448,.ar 3 (((Va F b.nodes j).set j ⟨b.nodes[j].control,b.nodes[j].parent,YL F b.nodes[j].links k⟩).map ZO) true b.nodes.length 0)]) (fun _ _=>True) () (by simp only[EVA,seval]) (by (simp only[e0,EVA,seval]) <;> rfl) trivial ?_
  intro k _ hk _
  have gq:((Va F b.nodes j).set j ⟨b.nodes[j].control,b.nodes[j].parent,YL F b.nodes[j].links k⟩)[j]? = some ⟨b.nodes[j].control,b.nodes[j].parent,YL F b.nodes[j].links k⟩:=by
   rw[List.getElem?_set_self (by rw[Zdv];exact hja)]
  have hgp:(((Va F b.nodes j).set j ⟨b.nodes[j].control,b.nodes[j].parent,YL F b.nodes[j].links k⟩).map ZO)[j]? = some [Tr.v (.int .i64 b.nodes[j].control),Tr.v (.int .i64 b.nodes[j].parent),Tr.sl (rI (YL F b.nodes[j].links k))]:=by rw[List.getElem?_map,gq];rfl
  simp only[hgp,hja,List.length_map,EVA,seval]
  refine Zk (fun hlt2=>?_) (fun hge2=>?_)
  ·have hpl:=Zbk (F:=F) (l:=b.nodes[j].links) (k:=k)
   have hka:k<b.nodes[j].links.length:=by omega
   have gk:(rI (YL F b.nodes[j].links k))[k]? = some [tv (g0 b.nodes[j].links k)]:=by rw[V7 (by omega),Zgy hka]
   have hlk:=(hp _ (List.getElem_mem hja)).2 _ (show g0 b.nodes[j].links k∈b.nodes[j].links by simp [hka])
   have hsp:=Zsh (v:=F (g0 b.nodes[j].links k)) gq (k:=k) (by show k<(YL F b.nodes[j].links k).length;omega)
   have hst:((Va F b.nodes j).set j ⟨b.nodes[j].control,b.nodes[j].parent,YL F b.nodes[j].links k⟩).set j ⟨b.nodes[j].control,b.nodes[j].parent,(YL F b.nodes[j].links k).set k (F (g0 b.nodes[j].links k))⟩=(Va F b.nodes j).set j ⟨b.nodes[j].control,b.nodes[j].parent,YL F b.nodes[j].links (k+1)⟩:=by
    rw[List.set_set,Zgz hka]
   rw[hst] at hsp
   simp only[hgp,gk,hja,hka,hpl,Nat.zero_add,List.length_map,EVA,seval]
   refine Zk (fun hl1=>?_) (fun hl1=>?_)
   ·obtain⟨i,hi⟩:∃ i:Nat,g0 b.nodes[j].links k-b.edges=i:=⟨(g0 b.nodes[j].links k-b.edges).toNat,by omega⟩
    have hin:i<names.length:=by omega
    have gn:=ZfE (e0:=e0S) (c:=fun n:ByteArray=>[ts n]) hin
    have hFe:F (g0 b.nodes[j].links k)=b.edges+ixS o (gS names i):=by rw[hF,Zqh,if_pos hl1,hi,Int.toNat_natCast]
    have x1:=Zgx (l:=o) (s:=gS names i)
    have x2:=ZeW (l:=o) (s:=gS names i)
    rw[hFe] at hsp
    simp only[hi,gn,Nat.zero_add,EVA,seval,Zj,men]
    refine⟨by rw[Zd];omega,?_⟩
    refine Za (Zae o (gS names i) (by omega)) ?_
    simp only[hgp,gk,hka,hsp,Nat.zero_add,EVA,seval]
    exact⟨by rw[Zd];omega,by rw[Zd];omega,Ze () hka rfl trivial⟩
   ·have hFe:F (g0 b.nodes[j].links k)=g0 b.nodes[j].links k:=by rw[hF,Zqh,if_neg hl1]
    exact⟨by rw[Zd];omega,Ze () hka (by rw[Znp hka hFe];rfl) trivial⟩
  ·have:k=b.nodes[j].links.length:=by
    have hpl:=Zbk (F:=F) (l:=b.nodes[j].links) (k:=k)
    omega
   subst this
   have hst:(Va F b.nodes j).set j ⟨b.nodes[j].control,b.nodes[j].parent,YL F b.nodes[j].links b.nodes[j].links.length⟩=Va F b.nodes (j+1):=by
    rw[<-Zko hja]
    congr 1
    simp [Zls,YL]
   rw[hst]
   exact⟨by rw[Zd];omega,Ze () hja rfl trivial⟩
 ·have:j=b.nodes.length:=by omega
  subst this
  have hpn:Va F b.nodes b.nodes.length=(Dk b F b.edges o).nodes:=by simp [Va,Dk,Zls]
  rw[hpn]
  refine ZH (α:=Unit) b.inner.length (fun j _=>[(11,iI j)]) (fun j _=>[(451,.ar 2 ((Ur F b.inner j).map ZP) true b.inner.length 0)]) (fun _ _=>True) () (by simp only[EVA,seval]) (by (simp only[EVA,seval]) <;> rfl) trivial ?_
  intro j _ hj _
  simp only[List.length_map,EVA,seval]
  refine Zk (fun hlt=>?_) (fun hge=>?_)
  ·have hja:j<b.inner.length:=by omega
   have gp:=ZgB (F:=F) hja
   have ga:((Ur F b.inner j).map ZP)[j]? = some [ts b.inner[j].name,tv b.inner[j].link]:=by rw[List.getElem?_map,gp];rfl
   have hsp:YZ ((Ur F b.inner j).map ZP) [] j 1 (.v (.int .i64 (F b.inner[j].link)))=(Ur F b.inner (j+1)).map ZP:=by
    simp only[YZ]
    rw[ga,<-ZgC hja,List.map_set]
    rfl
   have hlk:=hw _ (List.getElem_mem hja)
   simp only[ga,hja,Nat.zero_add,EVA,seval]
   refine Zk (fun hl1=>?_) (fun hl1=>?_)
   ·obtain⟨i,hi⟩:∃ i:Nat,b.inner[j].link-b.edges=i:=⟨(b.inner[j].link-b.edges).toNat,by omega⟩
    have hin:i<names.length:=by omega
    have gn:=ZfE (e0:=e0S) (c:=fun n:ByteArray=>[ts n]) hin
    have hFe:F b.inner[j].link=b.edges+ixS o (gS names i):=by rw[hF,Zqh,if_pos hl1,hi,Int.toNat_natCast]
    have x1:=Zgx (l:=o) (s:=gS names i)
    have x2:=ZeW (l:=o) (s:=gS names i)
    rw[hFe] at hsp
    simp only[hi,gn,Nat.zero_add,EVA,seval,Zj,men]
    refine⟨by rw[Zd];omega,?_⟩
    refine Za (Zae o (gS names i) (by omega)) ?_
    simp only[ga,hja,hsp,Nat.zero_add,EVA,seval]
    exact⟨by rw[Zd];omega,by rw[Zd];omega,Ze () hja rfl trivial⟩
   ·have hFe:F b.inner[j].link=b.inner[j].link:=by rw[hF,Zqh,if_neg hl1]
    exact⟨by rw[Zd];omega,Ze () hja (by rw[Znq hja hFe];rfl) trivial⟩
  ·have:j=b.inner.length:=by omega
   subst this
   have hpw:Ur F b.inner b.inner.length=(Dk b F b.edges o).inner:=by simp [Ur,Dk,ZbG]
   rw[hpw]
   exact⟨by simp [Dk],by simp [Dk],rfl⟩
theorem Dd{sig:List TControl}{b:TBigraph}(h:bigOK sig b){x:TNode}(hx:x∈b.nodes):x.parent<b.nodes.length/\∀ l∈x.links,0<=l/\l<b.edges+b.outer.length:=by
 obtain⟨k,hk,rfl⟩:=List.getElem_of_mem hx
 have q:=h.nodes k hk
 refine⟨?_,fun l hl=>?_⟩
 ·rcases q.par with p | p <;> omega
 ·have:=q.links l hl
  unfold ZX at this
  omega
theorem Wc{sig:List TControl}{b:TBigraph}(h:bigOK sig b){p:Int}(hp:p∈b.sites):p<b.nodes.length:=by
 rcases h.sites p hp with q | q <;> omega
theorem Znr(sig:List TControl)(b:TBigraph)(h:bigOK sig b)(lvl:Nat)(S:Sto):Sem Go.Proofs.Tryz.prog Vi lvl [.ag ((Zc b).map .tr)] S (Zg b) S:=by
 have he:=h.edges
 exact ZgF b b.edges.toNat (by omega) (Qh (by omega) (QM h)) (by omega) (fun x hx=>⟨(Dd h hx).1,fun l hl=>((Dd h hx).2 l hl).1⟩) (fun p hp=>Wc h hp) (fun w hw=>(h.inner w hw).1) lvl S
theorem Zkq(sig:List TControl)(b:TBigraph)(h:bigOK sig b)(names o:List ByteArray)(hn:names.length=b.outer.length)(ho:o.length<=4294967290)(lvl:Nat)(S:Sto):Sem Go.Proofs.Tryz.prog QK lvl [.ag ((Zc b).map .tr),.tr (.sl (rS names)),.tr (.sl (rS o))] S (Zg (Dk b (Zqh b names o) b.edges o)) S:=by
 have he:=h.edges
 have h4:=h.small.outer
 refine Zlu b names o b.edges.toNat (by omega) (Qh (by omega) (QM h)) (by omega) (fun x hx=>⟨(Dd h hx).1,fun l hl=>?_⟩) (fun p hp=>Wc h hp) (fun w hw=>?_) (by omega) ho lvl S
 ·have:=(Dd h hx).2 l hl
  omega
 ·have:=h.inner w hw
  unfold ZX at this
  omega
end Go.Fd

/-
  NAMES IN ORDER, AND THEIR LINKS, AS THE REFERENCE HAS THEM. Own work.
-/
namespace Go.Fd
set_option maxRecDepth 20000
theorem Zxs{O:List ByteArray}{x:ByteArray}{k:Nat}(hp:O.Pairwise ltS)(h1:∀ y∈O.take k,ltS y x)(h2:∀ y∈O.drop k,ltS x y):(O.take k++([x]++O.drop k)).Pairwise ltS:=by
 refine List.pairwise_append.2 ⟨hp.sublist (List.take_sublist ..),List.pairwise_append.2 ⟨List.pairwise_singleton ..,hp.sublist (List.drop_sublist ..),fun a ha b hb=>?_⟩,fun a ha b hb=>?_⟩
 ·rw[List.mem_singleton.1 ha];exact h2 b hb
 ·rcases List.mem_append.1 hb with hb | hb
  ·rw[List.mem_singleton.1 hb];exact h1 a ha
  ·have q:=hp
   rw[<-List.take_append_drop k O] at q
   exact(List.pairwise_append.1 q).2.2 a ha b hb
theorem Zjg{l:List ByteArray}:(Vu l).Pairwise ltS:=ZoX ordsS
theorem setS_mem{l:List ByteArray}{c:ByteArray}:c∈Vu l↔c∈l:=setG_mem
theorem ZbH{l:List ByteArray}:(Vu l).length<=l.length:=ZoY
theorem ZmC{l:List ByteArray}{i k:Nat}(hi:i<l.length)(h1:∀ y∈(Vu (l.take i)).take k,ltS y l[i])(h2:∀ y∈(Vu (l.take i)).drop k,ltS l[i] y):Vu (l.take (i+1))=(Vu (l.take i)).take k++([l[i]]++(Vu (l.take i)).drop k):=by
 refine Zi6 ordsS (Zxs Zjg h1 h2) fun c=>?_
 rw[List.take_succ_eq_append_getElem hi]
 have e:c∈Vu (l.take i)↔c∈l.take i:=setS_mem
 rw[<-List.take_append_drop k (Vu (l.take i)),List.mem_append] at e
 simp only[List.mem_append,<-e]
 constructor
 ·rintro((h | h) | h)
  ·exact .inl h
  ·exact .inr (.inr h)
  ·exact .inr (.inl h)
 ·rintro(h | h | h)
  ·exact .inl (.inl h)
  ·exact .inr h
  ·exact .inl (.inr h)
theorem Zpd{l:List ByteArray}{i:Nat}(hi:i<l.length)(h:l[i]∈Vu (l.take i)):Vu (l.take (i+1))=Vu (l.take i):=by
 refine Zi6 ordsS Zjg fun c=>?_
 rw[List.take_succ_eq_append_getElem hi,List.mem_append,setS_mem]
 constructor
 ·rintro(h2 | h2)
  ·exact h2
  ·rw[List.mem_singleton.1 h2];exact setS_mem.1 h
 ·exact .inl
theorem ZBM{l:List ByteArray}{j:Nat}:cut (rS l) 0 (j-0)=rS (l.take j):=by simp [cut,rS,List.map_take]
theorem Zxt{l:List ByteArray}{j:Nat}:cut (rS l) j (l.length-j)=rS (l.drop j):=by
 simp only[cut,rS,<-List.map_drop]
 rw[<-List.map_take,List.take_of_length_le (by rw[List.length_drop];omega)]
theorem Zsi{a b:List ByteArray}{x:ByteArray}:rS a++[[Tr.v (Value.string x)]]++rS b=rS (a++([x]++b)):=by simp [rS]
theorem Zpe:Vu []=[]:=Zi6 ordsS List.Pairwise.nil fun c=>Iff.rfl
theorem US(l:List ByteArray)(hl:l.length<=4294967290)(lvl:Nat)(S:Sto):Sem Go.Proofs.Tryz.prog J9 lvl [.tr (.sl (rS l))] S (.ow 1 (rS (Vu l)) true) S:=by
 refine Zb Zgd (by simp [low,men]) ?_
 simp only[Za7,EVA,seval]
 refine ZH (α:=Unit) l.length (fun j _=>[(3,.hd (lvl,96) [] 0 (Vu (l.take j)).length none (Vu (l.take j)).length),(4,iI j)]) (fun j _=>[(96,.ar 1 (rS (Vu (l.take j))) true (Vu (l.take j)).length 0)]) (fun _ _=>True) () (by simp only[EVA,seval]) (by rw[List.take_zero,Zpe]; (simp only[EVA,seval]) <;> rfl) trivial ?_
 intro j _ hj _
 simp only[List.length_map,EVA,seval]
 refine Zk (fun hlt=>?_) (fun hge=>?_)
 ·have hja:j<l.length:=by omega
  have ga:=ZfE (e0:=e0S) (c:=fun n:ByteArray=>[ts n]) hja
  rw[UC hja] at ga
  obtain⟨O,hO⟩:∃ O,O=Vu (l.take j):=⟨_,rfl⟩
  have hOl:O.length<=j:=by rw[hO];exact Nat.le_trans ZbH (by rw[List.length_take];omega)
  have hOp:O.Pairwise ltS:=by rw[hO];exact Zjg
  rw[<-hO]
  refine ZH (α:=Unit) O.length (fun k _=>[(5,iI k)]) (fun _ _=>[]) (fun k _=>∀ y∈O.take k,ltS y l[j]) () (by simp only[EVA,seval]) (by (simp only[EVA,seval]) <;> rfl) (by simp) ?_
  intro k _ hk hK
  simp only[List.length_map,EVA,seval]
  refine Zk (fun hlt2=>?_) (fun hge2=>?_)
  ·have hka:k<O.length:=by omega
   have gk:=ZfE (e0:=e0S) (c:=fun n:ByteArray=>[ts n]) hka
   rw[UC hka] at gk
   have hm:min k O.length=k:=by omega
   have hq1:k+1+(O.length-k)=O.length+1:=by omega
   have hq2:max (max (max 0 k) (k+1)) (O.length+1)=O.length+1:=by omega
   have hq3:k+(O.length-k)=O.length:=by omega
   simp only[ga,gk,hka,hm,hq1,hq2,hq3,ZBM,Zxt,Zo3,Zo4,Zsi,List.length_append,List.length_take,List.length_drop,List.length_map,EVA,seval]
   refine Zk (fun h1=>?_) (fun h1=>?_)
   ·exact⟨by rw[Zd];omega,Ze () hka rfl fun y hy=>by
     rw[List.take_succ_eq_append_getElem hka] at hy
     rcases List.mem_append.1 hy with hy | hy
     ·exact hK y hy
     ·rw[List.mem_singleton.1 hy];exact h1⟩
   ·have hkn:decide ((k:Int)=(O.length:Int))=false:=by simp;omega
    rw[if_pos hkn]
    refine Zk (fun h2=>?_) (fun h2=>?_)
    ·have h3:ltS l[j] O[k]:=by
      rcases ordsS.tri l[j] O[k] with q | q | q
      ·exact q
      ·exact absurd q.symm h2
      ·exact absurd q h1
     have hput:=ZmC (k:=k) hja (by rw[<-hO];exact hK) (by
      rw[<-hO]
      intro y hy
      rw[List.drop_eq_getElem_cons hka] at hy
      rcases List.mem_cons.1 hy with rfl | hy
      ·exact h3
      ·have q:=hOp
       rw[<-List.take_append_drop k O,List.drop_eq_getElem_cons hka] at q
       exact ordsS.tr _ _ _ h3 ((List.pairwise_cons.1 (List.pairwise_append.1 q).2.1).1 y hy))
     rw[<-hO] at hput
     have hpl:(O.take k++([l[j]]++O.drop k)).length=O.length+1:=by
      simp only[List.length_append,List.length_take,List.length_drop,List.length_cons,List.length_nil]
      omega
     have hfit:XP .i64 ((j:Int)+1):=by rw[Zd];omega
     and_intros
     all_goals try first | omega | exact fun _=>trivial
     ·exact hfit.1
     ·exact hfit.2
     ·exact Ze () hja (by rw[hput,hpl];rfl) trivial
    ·have hkeep:=Zpd hja (by rw[<-hO,<-(Classical.not_not.1 h2)];exact List.getElem_mem hka)
     rw[<-hO] at hkeep
     exact⟨by rw[Zd];omega,Ze () hja (by rw[hkeep];rfl) trivial⟩
  ·have:k=O.length:=by omega
   subst this
   have hq1:O.length+1+(O.length-O.length)=O.length+1:=by omega
   have hq2:max (max (max 0 O.length) (O.length+1)) (O.length+1)=O.length+1:=by omega
   simp only[ga,hq1,hq2,Zxt,Zo3,Zo4,Zsi,List.length_append,List.length_drop,List.length_map,EVA,seval]
   have hput:=ZmC (k:=O.length) hja (by rw[<-hO];exact hK) (by
    rw[<-hO,List.drop_length]
    intro y hy
    cases hy)
   rw[<-hO] at hput
   rw[List.take_length] at hput
   have hpl:(O++([l[j]]++O.drop O.length)).length=O.length+1:=by
    simp only[List.length_append,List.length_drop,List.length_cons,List.length_nil]
    omega
   have hfit:XP .i64 ((j:Int)+1):=by rw[Zd];omega
   and_intros
   all_goals try first | omega | exact fun _=>trivial
   ·exact hfit.1
   ·exact hfit.2
   ·exact Ze () hja (by rw[hput,hpl];rfl) trivial
 ·have:j=l.length:=by omega
  subst this
  rw[List.take_length]
theorem Us(names:List ByteArray)(e:Int)(o:List ByteArray)(hn:names.length<=4294967290)(he:-4294967296<=e/\e<=4294967296)(ho:o.length<=4294967290)(lvl:Nat)(S:Sto):Sem Go.Proofs.Tryz.prog JR lvl [.tr (.sl (rS names)),iI e,.tr (.sl (rS o))] S (.ow 1 (rI (names.map fun x=>e+ixS o x)) true) S:=by
 refine Zb Zha trivial ?_
 simp only[Zb8,EVA,seval]
 refine ZH (α:=Unit) names.length (fun j _=>[(7,.hd (lvl,288) [] 0 j none j),(8,iI j)]) (fun j _=>[(288,.ar 1 (rI ((names.take j).map fun x=>e+ixS o x)) true j 0)]) (fun _ _=>True) () (by simp only[EVA,seval]) (by (simp only[EVA,seval]) <;> rfl) trivial ?_
 intro j _ hj _
 simp only[List.length_map,EVA,seval]
 refine Zk (fun hlt=>?_) (fun hge=>?_)
 ·have hja:j<names.length:=by omega
  have ga:=ZfE (e0:=e0S) (c:=fun n:ByteArray=>[ts n]) hja
  rw[UC hja] at ga
  have hl2:(names.take j).length=j:=by rw[List.length_take];omega
  have x1:=Zgx (l:=o) (s:=names[j])
  have x2:=ZeW (l:=o) (s:=names[j])
  have hs:rI ((names.take j).map fun x=>e+ixS o x)++[[tv (e+ixS o names[j])]]=rI ((names.take (j+1)).map fun x=>e+ixS o x):=by
   rw[List.take_succ_eq_append_getElem hja,List.map_append,Vt]
   rfl
  simp only[ga,EVA,seval,Zj,men]
  refine Za (Zae o names[j] (by omega)) ?_
  simp only[hl2,hs,List.length_map,EVA,seval]
  exact⟨by rw[Zd];omega,by omega,by rw[Zd];omega,Ze () hja rfl trivial⟩
 ·have:j=names.length:=by omega
  subst this
  rw[List.take_length]
  exact⟨by simp,rfl⟩
theorem Zrl{b:TBigraph}{l:Int}(he:0<=b.edges/\b.edges<=8)(hl:ZX b l):-4294967296<=(ZfF b l).1/\(ZfF b l).1<=4294967296:=by
 rcases Yb hl with ⟨h0,h1⟩ | ⟨i,hi,rfl⟩
 ·rw[ZhQ h1];dsimp only;omega
 ·rw[ZhR hi];dsimp only;omega
theorem Zrm{sig:List TControl}{b:TBigraph}(h:bigOK sig b){F:Int->Int}{e:Int}{o:List ByteArray}(ho:o.length<=100)(hos:∀ y∈o,y.size<=4294967296):Zp 4294967296 (Dk b F e o):=by
 obtain⟨b1,b2,b3,b4,b5,b6,b7⟩:=Zlt (F:=F) (e:=e) (o:=[]) h (Qh (by omega) (QM h)) (by simp) (by simp)
 refine⟨Nat.le_trans (show (Dk b F e o).nodes.length<=4294967290 from b1) (by omega),fun y hy=>?_,Nat.le_trans (show (Dk b F e o).sites.length<=4294967290 from b3) (by omega),by show o.length<=_;omega,hos,Nat.le_trans (show (Dk b F e o).inner.length<=4294967290 from b6) (by omega),fun y hy=>?_⟩
 ·have:=b2 y hy
  simp only[Za0] at this ⊢
  omega
 ·have:=b7 y hy
  simp only[UJ] at this ⊢
  omega
end Go.Fd

/-
  OpenName: BOTH ANSWERS OF THE REFERENCE. Own work.
-/
namespace Go.Fd
end Go.Fd

/-
  ONE BIGRAPH UNDER ANOTHER: WHAT COMPOSITION COMPUTES, IN PLAIN TERMS. Own work.
-/
namespace Go.Fd
set_option maxRecDepth 20000
def Zbl(a b:TBigraph)(roots:Int)(ss:List Int)(o:List ByteArray)(FL FR mv:Int->Int):TBigraph :=
 ⟨roots,a.nodes.map (Zls FL)++b.nodes.map (fun x=>⟨x.control,mv x.parent,x.links.map FR⟩),ss++b.sites.map mv,a.edges+b.edges,o,b.inner.map (ZbG FR)⟩
theorem ZgG{sig:List TControl}{a b:TBigraph}(ha:bigOK sig a)(hb:bigOK sig b){roots:Int}{ss:List Int}{o:List ByteArray}{FL FR mv FL' FR' mv':Int->Int}(hL:∀ l,ZX a l->FL l=FL' l)(hR:∀ l,ZX b l->FR l=FR' l)(hm:∀ p,-b.roots<=p->mv p=mv' p) :
  Zbl a b roots ss o FL FR mv=Zbl a b roots ss o FL' FR' mv':=by
 have hr:=hb.roots.1
 unfold Zbl
 have e1:a.nodes.map (Zls FL)=a.nodes.map (Zls FL'):=List.map_congr_left fun x hx=>by
  obtain⟨i,hi,rfl⟩:=List.getElem_of_mem hx
  unfold Zls
  congr 1
  exact List.map_congr_left fun l hl=>hL l ((ha.nodes i hi).links l hl)
 have e2:b.nodes.map (fun x=>(⟨x.control,mv x.parent,x.links.map FR⟩:TNode))=b.nodes.map (fun x=>⟨x.control,mv' x.parent,x.links.map FR'⟩):=List.map_congr_left fun x hx=>by
  obtain⟨i,hi,rfl⟩:=List.getElem_of_mem hx
  have hn:=hb.nodes i hi
  rw[hm _ (Js hr hn.par)]
  congr 1
  exact List.map_congr_left fun l hl=>hR l (hn.links l hl)
 have e3:b.sites.map mv=b.sites.map mv':=List.map_congr_left fun p hp=>hm p (Js hr (hb.sites p hp))
 have e4:b.inner.map (ZbG FR)=b.inner.map (ZbG FR'):=List.map_congr_left fun w hw=>by
  unfold ZbG
  rw[hR _ (hb.inner w hw)]
 rw[e1,e2,e3,e4]
def ZmD(a:TBigraph)(e:Int)(o:List ByteArray):List Int:=ZmB a (fun l=>l) fun x=>e+ixS o x
def Zpf(a b:TBigraph)(g:ByteArray->Int):List Int:=ZmB b (fun l=>a.edges+l) g
theorem Zpg{c:Int}{n:Nat}:UD c n=(WI n).map fun l=>c+l:=by simp [UD,WI]
theorem Zph{a:TBigraph}{e:Int}{o:List ByteArray}{n:Nat}(hn:a.edges=n):UD 0 n++a.outer.map (fun x=>e+ixS o x)=ZmD a e o:=by
 rw[ZmD,ZmB,ZhV,hn,Int.toNat_natCast]
theorem Zpi{a b:TBigraph}{g:ByteArray->Int}{n:Nat}(hn:b.edges=n):UD a.edges n++b.outer.map g=Zpf a b g:=by
 rw[Zpf,ZmB,Zpg,hn,Int.toNat_natCast]
theorem ZmE{b:TBigraph}{f:Int->Int}{g:ByteArray->Int}(h:0<=b.edges):((ZmB b f g).length:Int)=b.edges+b.outer.length:=by
 rw[ZmB,List.length_append,List.length_map,List.length_map,Y9]
 omega
theorem Zxu{sig:List TControl}{a:TBigraph}(ha:bigOK sig a){e:Int}{o:List ByteArray}{l:Int}(hl:ZX a l):Zdr a e o (fun x=>x) l=g0 (ZmD a e o) l.toNat:=by
 have he:=ha.edges
 unfold Zdr ZmD
 rcases Yb hl with ⟨h0,h1⟩ | ⟨i,hi,rfl⟩
 ·rw[Zcj h0 h1,ZhQ h1,if_pos rfl]
 ·rw[Zck he.1 hi,ZhR hi,if_neg (ZbE ha.outer (List.getElem_mem hi))]
def Zff(a:TBigraph)(nm:ByteArray->Int×ByteArray)(x:Int×ByteArray):Int×ByteArray:=if x.2=e0S then (x.1+a.edges,e0S) else nm x.2
theorem ZCm{sig:List TControl}{a b:TBigraph}(hb:bigOK sig b){e:Int}{o:List ByteArray}{nm:ByteArray->Int×ByteArray}{g:ByteArray->Int}(hg:∀ i (h:i<b.outer.length),(if (nm b.outer[i]).2=e0S then (nm b.outer[i]).1 else e+ixS o (nm b.outer[i]).2)=g b.outer[i]){l:Int}(hl:ZX b l):Zdr b e o (Zff a nm) l=g0 (Zpf a b g) l.toNat:=by
 have he:=hb.edges
 unfold Zdr Zpf
 rcases Yb hl with ⟨h0,h1⟩ | ⟨i,hi,rfl⟩
 ·rw[Zcj h0 h1,ZhQ h1]
  unfold Zff
  rw[if_pos rfl,if_pos rfl]
  omega
 ·rw[Zck he.1 hi,ZhR hi]
  unfold Zff
  rw[if_neg (ZbE hb.outer (List.getElem_mem hi)),hg i hi]
def ZmF(a b:TBigraph)(o:List ByteArray)(L R:List Int):TBigraph:=Zbl a b a.roots [] o (fun l=>g0 L l.toNat) (fun l=>g0 R l.toNat) (Zep a.nodes.length a.sites)
def ZxX(a:TBigraph)(p:Int):Int:=if 0<=p then p+a.nodes.length else g0 a.sites (-1-p).toNat
theorem ZtZ{a:TBigraph}{p:Int}:ZxX a p=Zep a.nodes.length a.sites p:=by
 unfold ZxX Zep
 by_cases h:0<=p
 ·rw[if_pos h,if_neg (by omega)]
 ·rw[if_neg h,if_pos (by omega)]
noncomputable def YJ(a b:TBigraph):List ByteArray:=Vu (a.outer++b.outer)
noncomputable def DC(a b:TBigraph):TBigraph:=ZmF a b (YJ a b) (ZmD a (a.edges+b.edges) (YJ a b)) (Zpf a b fun x=>a.edges+b.edges+ixS (YJ a b) x)
theorem Zt0{sig:List TControl}{a b:TBigraph}(ha:bigOK sig a)(hb:bigOK sig b) :
  Zbl a b a.roots [] (YJ a b) (Zdr a (a.edges+b.edges) (YJ a b) fun x=>x) (Zdr b (a.edges+b.edges) (YJ a b) (Zff a fun s=>(0,s))) (ZxX a)=DC a b :=
 ZgG ha hb (fun l hl=>Zxu ha hl) (fun l hl=>ZCm hb (fun i hi=>if_neg (ZbE hb.outer (List.getElem_mem hi))) hl) fun p _=>ZtZ
end Go.Fd

/-
  ONE BIGRAPH UNDER ANOTHER, THE REFERENCE'S SIDE. Own work.
-/
namespace Go.Fd
set_option maxRecDepth 20000
theorem Zsj{sig:List TControl}{b:TBigraph}(h:bigOK sig b){ps:List Int}(hp:(ps.length:Int)=b.roots){p:Int}(h1:-b.roots<=p)(h2:p<b.nodes.length):(-4294967296<=p/\p<=4294967296)/\(p<0->(-1-p).toNat<ps.length):=by
 have hr:=h.roots
 have hn:=h.small.nodes
 exact⟨by omega,fun h3=>by omega⟩
theorem ZmG{sig:List TControl}{b:TBigraph}(h:bigOK sig b){ps ls:List Int}(hp:(ps.length:Int)=b.roots)(hl:(ls.length:Int)=b.edges+b.outer.length):∀ x∈b.nodes,x.links.length<=4294967290/\((-4294967296<=x.parent/\x.parent<=4294967296)/\(x.parent<0->(-1-x.parent).toNat<ps.length))/\∀ l∈x.links,0<=l/\l<ls.length:=fun x hx=>by
 have hl2:=h.small.links _ hx
 have hb:=Dd h hx
 obtain⟨k,hk,rfl⟩:=List.getElem_of_mem hx
 refine⟨by omega,Zsj h hp (Js h.roots.1 (h.nodes k hk).par) hb.1,fun l hl3=>?_⟩
 have:=hb.2 l hl3
 omega
theorem ZmH{sig:List TControl}{b:TBigraph}(h:bigOK sig b){ps:List Int}(hp:(ps.length:Int)=b.roots):∀ p∈b.sites,(-4294967296<=p/\p<=4294967296)/\(p<0->(-1-p).toNat<ps.length):=fun p hq=>Zsj h hp (Js h.roots.1 (h.sites p hq)) (Wc h hq)
theorem Zpj{sig:List TControl}{b:TBigraph}(h:bigOK sig b){ls:List Int}(hl:(ls.length:Int)=b.edges+b.outer.length):∀ w∈b.inner,0<=w.link/\w.link<ls.length:=fun w hw=>by
 have:=h.inner w hw
 unfold ZX at this
 omega
theorem ZmI{sig:List TControl}{b:TBigraph}(h:bigOK sig b){n:Nat}(hn:b.roots=n){ls:List Int}:b.nodes.map (Zgw 0 (JI 0 n) ls)=b.nodes.map (Zls fun l=>g0 ls l.toNat):=List.map_congr_left fun x hx=>by
 obtain⟨k,hk,rfl⟩:=List.getElem_of_mem hx
 unfold Zgw Zls
 rw[Zja hn (Js h.roots.1 (h.nodes k hk).par)]
theorem ZmJ{sig:List TControl}{b:TBigraph}(h:bigOK sig b){n:Nat}(hn:b.roots=n):b.sites.map (Zep 0 (JI 0 n))=b.sites:=by
 have:b.sites.map (Zep 0 (JI 0 n))=b.sites.map id:=List.map_congr_left fun p hp=>Zja hn (Js h.roots.1 (h.sites p hp))
 rw[this,List.map_id]
theorem ZCn{l:List TNode}:UnR 3 (l.map ZO)=True:=eq_true (Zcn ZO (fun _=>rfl) l)
abbrev Zrn(b:TBigraph)(u:Bool):IV:=.ag [iI b.roots,.ow 3 (b.nodes.map ZO) u,.ow 1 (rI b.sites) true,iI b.edges,.ow 1 (rS b.outer) true,.ow 2 (b.inner.map ZP) true]
theorem Zlv(sig:List TControl)(a b:TBigraph)(o:List ByteArray)(above below:List Int)(ha:bigOK sig a)(hb:bigOK sig b)(hf:(a.sites.length:Int)=b.roots)(hA:above.length=a.outer.length)(hB:below.length=b.outer.length)(ho:o.length<=4294967290)(L R:List Int)(hL:∀ n:Nat,a.edges=n->UD 0 n++above=L)(hR:∀ n:Nat,b.edges=n->UD a.edges n++below=R)
  (lvl:Nat) (S:Sto):Sem Go.Proofs.Tryz.prog WA lvl [.ag ((Zc a).map .tr),.ag ((Zc b).map .tr),.tr (.sl (rS o)),tI above,tI below] S (Zrn (ZmF a b o L R) false) S:=by
 have ra:=ha.roots;have rb:=hb.roots
 have ea:=ha.edges;have eb:=hb.edges
 have sa:=ha.small;have sb:=hb.small
 have a1:=sa.nodes;have a2:=sa.sites;have a3:=sa.inner;have a4:=sa.outer
 have b1:=sb.nodes;have b2:=sb.sites;have b3:=sb.inner;have b4:=sb.outer
 obtain⟨n,hn⟩:∃ n:Nat,a.roots=n:=⟨a.roots.toNat,by omega⟩
 obtain⟨m,hm⟩:∃ m:Nat,a.edges=m:=⟨a.edges.toNat,by omega⟩
 obtain⟨k,hk⟩:∃ k:Nat,b.edges=k:=⟨b.edges.toNat,by omega⟩
 have hLL:=hL m hm
 have hRR:=hR k hk
 have lenL:(L.length:Int)=a.edges+a.outer.length:=by rw[<-hLL,List.length_append,fromN_len,hA];omega
 have lenR:(R.length:Int)=b.edges+b.outer.length:=by rw[<-hRR,List.length_append,fromN_len,hB];omega
 have w1:rI (UD 0 m)++rI above=rI L:=by rw[<-Vt,hLL]
 have w2:m+above.length=L.length:=by rw[<-hLL,List.length_append,fromN_len]
 have w3:rI (UD (m:Int) k)++rI below=rI R:=by rw[<-Vt,<-hm,hRR]
 have w4:k+below.length=R.length:=by rw[<-hRR,List.length_append,fromN_len]
 have w5:max m L.length=L.length:=by omega
 have w6:max k R.length=R.length:=by omega
 have c1:cut (rI L) 0 L.length=rI L:=Yn (by rw[List.length_map])
 have c2:cut (rI R) 0 R.length=rI R:=Yn (by rw[List.length_map])
 refine Zb Zhd (by simp [low,men,Zj]) ?_
 simp only[Zcb,Zc,hn,EVA,seval,Zj,men]
 refine Za (Zaf 0 n (by omega) (by omega)) ?_
 simp only[hm,EVA,seval,Zj,men]
 refine Za (Up 0 m (by omega) (by omega)) ?_
 simp only[Zds,Zdt,hk,w1,w2,w5,fromN_len,List.length_map,EVA,seval,Zj,men]
 refine⟨by omega,Za (Up m k (by omega) (by omega)) ?_⟩
 simp only[Zds,Zdt,w3,w4,w6,fromN_len,List.length_map,EVA,seval,Zj,men]
 refine⟨by omega,?_⟩
 have q1:=X3 a 0 (JI 0 n) (by omega) (by omega) (ZmH ha (by rw[rootsN_len];omega))
 rw[ZmJ ha hn] at q1
 simp only[Zc,hn,hm,List.map_cons,List.map_nil] at q1
 refine Za q1 ?_
 simp only[c1,List.length_map,EVA,seval,Zj,men]
 have q2:=Uq a 0 (JI 0 n) L (by omega) (by omega) (ZmG ha (by rw[rootsN_len];omega) lenL)
 rw[ZmI ha hn] at q2
 simp only[Zc,hn,hm,List.map_cons,List.map_nil] at q2
 refine Za q2 ?_
 simp only[c2,List.length_map,EVA,seval,Zj,men]
 have q3:=Uq b a.nodes.length a.sites R (by omega) (by omega) (ZmG hb hf lenR)
 simp only[Zc,hk,List.map_cons,List.map_nil] at q3
 refine Za q3 ?_
 simp only[ZCn,List.length_map,EVA,seval,Zj,men]
 refine⟨by omega,?_⟩
 have q4:=X3 b a.nodes.length a.sites (by omega) (by omega) (ZmH hb hf)
 simp only[Zc,hk,List.map_cons,List.map_nil] at q4
 refine Za q4 ?_
 simp only[Zo3,Zo4,c2,List.length_map,EVA,seval,Zj,men]
 refine⟨by rw[Zd];omega,by omega,?_⟩
 have q5:=Zag b R (by omega) (Zpj hb lenR)
 simp only[Zc,hk,List.map_cons,List.map_nil] at q5
 refine Za q5 ?_
 simp only[List.length_append,List.length_map,EVA,seval]
 simp only[Zrn,ZmF,Zbl,List.map_append,List.nil_append,hn,hm,hk]
 rfl
theorem Zpk{sig:List TControl}{a b:TBigraph}(ha:bigOK sig a)(hb:bigOK sig b){roots:Int}{ss:List Int}{o:List ByteArray}{FL FR mv:Int->Int}(hs:ss.length<=4)(ho:o.length<=100)(hos:∀ y∈o,y.size<=4294967290):Zp 4294967290 (Zbl a b roots ss o FL FR mv):=by
 have sa:=ha.small;have sb:=hb.small
 have a1:=sa.nodes;have a2:=sa.sites;have a3:=sa.inner
 have b1:=sb.nodes;have b2:=sb.sites;have b3:=sb.inner
 refine⟨by simp only[Zbl,List.length_map,List.length_append];omega,fun y hy=>?_,by simp only[Zbl,List.length_map,List.length_append];omega,by show o.length<=_;omega,hos,by simp only[Zbl,List.length_map];omega,fun y hy=>?_⟩
 ·rcases List.mem_append.1 hy with hy | hy
  ·obtain⟨x,hx,rfl⟩:=List.mem_map.1 hy
   have:=sa.links x hx
   simp only[Za0,Zls,List.length_map]
   omega
  ·obtain⟨x,hx,rfl⟩:=List.mem_map.1 hy
   have:=sb.links x hx
   simp only[Za0,List.length_map]
   omega
 ·obtain⟨w,hw,rfl⟩:=List.mem_map.1 hy
  have hn:w.name∈inn b:=List.mem_map.2 ⟨w,hw,rfl⟩
  have:=Yq hb.inn hn
  simp only[UJ,ZbG]
  omega
def sm(n:Int):Prop:=-1000<=n/\n<=1000
theorem ZdA{n:Int}(h:sm n):XP .i64 n:=by
 unfold sm at h
 rw[Zd];omega
theorem Zpl{sig:List TControl}{a b:TBigraph}(ha:bigOK sig a)(hb:bigOK sig b)(fa:ZB a)(fb:ZB b){roots:Int}{ss:List Int}{o:List ByteArray}{FL FR mv:Int->Int}(hr:sm roots)(hs:∀ p∈ss,sm p)(hL:∀ l,ZX a l->sm (FL l))(hR:∀ l,ZX b l->sm (FR l))(hm:∀ p,-b.roots<=p->p<b.nodes.length->sm (mv p)):ZB (Zbl a b roots ss o FL FR mv):=by
 have ea:=ha.edges;have eb:=hb.edges
 refine⟨ZdA hr,fun y hy=>?_,fun p hp=>?_,by show XP .i64 (a.edges+b.edges);rw[Zd];omega,fun y hy=>?_⟩
 ·rcases List.mem_append.1 hy with hy | hy
  ·obtain⟨x,hx,rfl⟩:=List.mem_map.1 hy
   have hq:=fa.2.1 x hx
   obtain⟨i,hi,hie⟩:=List.getElem_of_mem hx
   refine⟨hq.1,hq.2.1,fun l hl=>?_⟩
   obtain⟨l0,hl0,rfl⟩:=List.mem_map.1 hl
   exact ZdA (hL l0 ((ha.nodes i hi).links l0 (by rw[hie];exact hl0)))
  ·obtain⟨x,hx,rfl⟩:=List.mem_map.1 hy
   have hq:=fb.2.1 x hx
   have hbp:=Dd hb hx
   obtain⟨i,hi,hie⟩:=List.getElem_of_mem hx
   refine⟨hq.1,ZdA (hm _ (Js hb.roots.1 (by rw[<-hie];exact(hb.nodes i hi).par)) hbp.1),fun l hl=>?_⟩
   obtain⟨l0,hl0,rfl⟩:=List.mem_map.1 hl
   exact ZdA (hR l0 ((hb.nodes i hi).links l0 (by rw[hie];exact hl0)))
 ·rcases List.mem_append.1 hp with hp | hp
  ·exact ZdA (hs p hp)
  ·obtain⟨x,hx,rfl⟩:=List.mem_map.1 hp
   exact ZdA (hm _ (Js hb.roots.1 (hb.sites x hx)) (Wc hb hx))
 ·obtain⟨w,hw,rfl⟩:=List.mem_map.1 hy
  exact ZdA (hR _ (hb.inner w hw))
theorem Zxv{sig:List TControl}{a b:TBigraph}(ha:bigOK sig a)(hb:bigOK sig b)(hf:(a.sites.length:Int)=b.roots){p:Int}(h1:-b.roots<=p)(h2:p<b.nodes.length):sm (Zep a.nodes.length a.sites p):=by
 have a1:=ha.small.nodes;have b1:=hb.small.nodes
 have ra:=ha.roots
 unfold Zep sm
 split
 ·rename_i h
  have hl:(-1-p).toNat<a.sites.length:=by omega
  have hg:g0 a.sites (-1-p).toNat=a.sites[(-1-p).toNat]:=by simp [hl]
  have hm:=List.getElem_mem hl
  have:=Js ra.1 (ha.sites _ hm)
  have:=Wc ha hm
  rw[hg];omega
 ·omega
theorem Zt1{sig:List TControl}{a:TBigraph}(ha:bigOK sig a){e:Int}(he:0<=e/\e<=100){o:List ByteArray}(ho:o.length<=100){l:Int}(hl:ZX a l):sm (g0 (ZmD a e o) l.toNat):=by
 have ea:=ha.edges
 unfold ZmD sm
 rcases Yb hl with ⟨h0,h1⟩ | ⟨i,hi,rfl⟩
 ·rw[Zcj h0 h1];omega
 ·rw[Zck ea.1 hi]
  have:=Zgx (l:=o) (s:=a.outer[i])
  have:=ZeW (l:=o) (s:=a.outer[i])
  omega
theorem Zpm{sig:List TControl}{a b:TBigraph}(ha:bigOK sig a)(hb:bigOK sig b){g:ByteArray->Int}(hg:∀ x∈b.outer,sm (g x)){l:Int}(hl:ZX b l):sm (g0 (Zpf a b g) l.toNat):=by
 have ea:=ha.edges;have eb:=hb.edges
 unfold Zpf
 rcases Yb hl with ⟨h0,h1⟩ | ⟨i,hi,rfl⟩
 ·rw[Zcj h0 h1]
  unfold sm
  omega
 ·rw[Zck eb.1 hi]
  exact hg _ (List.getElem_mem hi)
end Go.Fd

/-
  ONE BIGRAPH UNDER ANOTHER, THE PROGRAM'S SIDE: joined. Own work.
-/
namespace Go.Fd
set_option maxRecDepth 20000
theorem Zkr(e:Int×ByteArray)(lvl:Nat)(S:Sto):Sem Go.Proofs.Tryz.prog V1 lvl [oE e] S (oE e) S:=by
 refine Zb Zgk (by simp [low,men,Zj]) ?_
 simp only[Zbe,EVA,seval]
theorem Zks(a:TBigraph)(e:Int×ByteArray)(nf:FuncId)(cs:List (List Tr))(nm:ByteArray->Int×ByteArray)(h1:-4294967296<=e.1/\e.1<=4294967296)(h2:0<=a.edges/\a.edges<=4294967296)(hN:e.2≠e0S->∀ lvl S,Sem Go.Proofs.Tryz.prog nf lvl (iS e.2::cs.map IV.ta) S (oE (nm e.2)) S)
  (lvl:Nat) (S:Sto) (id:Oid) (hid:id.1<lvl) (sN:S id=some (.bx [.fn nf (cs.map IV.ta)])):Sem Go.Proofs.Tryz.prog Ya lvl [oE e,.ta (Zc a),.ab id 0] S (oE (Zff a nm e)) S:=by
 have hne:id.1≠lvl:=by omega
 refine Zb Zgl (by simp [low,men,Zj]) ?_
 simp only[Zbf,Zc,Jd hne,sN,EVA,seval,Zj,men]
 unfold Zff
 by_cases h:e.2=e0S
 ·rw[if_pos h]
  have h':e.2 = { data:=#[] }:=h
  simp only[h',EVA,seval]
  rw[Zd];omega
 ·rw[if_neg h]
  have h':¬ e.2 = { data:=#[] }:=h
  simp only[h',Zbg,YD,EVA,seval]
  refine Za (hN h) ?_
  simp only[EVA,seval]
def Zsk(n:Int)(pl:Int->Int)(p:Int):Int:=if 0<=p then p+n else pl p
theorem Zkt(a:TBigraph)(p:Int)(pf:FuncId)(cs:List (List Tr))(pl:Int->Int)(hn:a.nodes.length<=4294967296)(hp:-4294967296<=p/\p<=4294967296)(hP:p<0->∀ lvl S,Sem Go.Proofs.Tryz.prog pf lvl (iI p::cs.map IV.ta) S (iI (pl p)) S)(lvl:Nat)(S:Sto):Sem Go.Proofs.Tryz.prog X9 lvl [.ag ((Zc a).map .tr),iI p,.fn pf (cs.map IV.ta)] S (iI (Zsk a.nodes.length pl p)) S:=by
 refine Zb Zkd trivial ?_
 simp only[ZeT,Zc,List.length_map,EVA,seval,Zj,men]
 unfold Zsk
 by_cases h:0<=p
 ·rw[if_pos h]
  simp only[h,EVA,seval]
  rw[Zd];omega
 ·rw[if_neg h]
  simp only[h,Zbg,YD,EVA,seval]
  refine Za (hP (by omega)) ?_
  simp only[EVA,seval]
theorem Zpn{id:Oid}:∀{l:List (List Tr)},scrs id (l.map IV.ta)=l.map IV.ta
 | []=>rfl
 | x::r=>by
  simp only[List.map_cons,scrs,scr]
  rw[Zpn]
theorem Zns(sig:List TControl)(a b:TBigraph)(ha:bigOK sig a)(hb:bigOK sig b)(roots:Int)(ss:List Int)(hss:ss.length<=1000)(o:List ByteArray)(ho:o.length<=1000)(pf:FuncId)(ps:List (List Tr))(pl:Int->Int)(nf:FuncId)(ns:List (List Tr))(nm:ByteArray->Int×ByteArray)
  (hP:∀ p,-b.roots<=p->p<0->∀ lvl S,Sem Go.Proofs.Tryz.prog pf lvl (iI p::ps.map IV.ta) S (iI (pl p)) S) (hN:∀ x∈b.outer,∀ lvl S,Sem Go.Proofs.Tryz.prog nf lvl (iS x::ns.map IV.ta) S (oE (nm x)) S)
  (lvl:Nat) (S:Sto):Sem Go.Proofs.Tryz.prog VE lvl [.ag ((Zc a).map .tr),.ag ((Zc b).map .tr),iI roots,tI ss,.tr (.sl (rS o)),.fn pf (ps.map IV.ta),.fn nf (ns.map IV.ta)] S
   (.ag [iI roots,.ow 3 ((Zbl a b roots ss (Vu o) (Zdr a (a.edges+b.edges) (Vu o) fun x=>x) (Zdr b (a.edges+b.edges) (Vu o) (Zff a nm)) (Zsk a.nodes.length pl)).nodes.map ZO) (decide (b.nodes.length=0)),.ow 1 (rI (ss++b.sites.map (Zsk a.nodes.length pl))) true,iI (a.edges+b.edges),.ow 1 (rS (Vu o)) true,.tr (.sl ((b.inner.map (ZbG (Zdr b (a.edges+b.edges) (Vu o) (Zff a nm)))).map ZP))]) S:=by
 have ra:=ha.roots;have rb:=hb.roots
 have ea:=ha.edges;have eb:=hb.edges
 have sa:=ha.small;have sb:=hb.small
 have a1:=sa.nodes;have a2:=sa.sites;have a3:=sa.inner;have a4:=sa.outer
 have b1:=sb.nodes;have b2:=sb.sites;have b3:=sb.inner;have b4:=sb.outer
 have lnA:∀ x∈a.nodes,∀ l∈x.links,ZX a l:=fun x hx l hl=>by
  obtain⟨k,hk,rfl⟩:=List.getElem_of_mem hx
  exact(ha.nodes k hk).links l hl
 have lnB:∀ x∈b.nodes,∀ l∈x.links,ZX b l:=fun x hx l hl=>by
  obtain⟨k,hk,rfl⟩:=List.getElem_of_mem hx
  exact(hb.nodes k hk).links l hl
 obtain⟨FL,hFL⟩:∃ F,F=Zdr a (a.edges+b.edges) (Vu o) fun x=>x:=⟨_,rfl⟩
 obtain⟨FR,hFR⟩:∃ F,F=Zdr b (a.edges+b.edges) (Vu o) (Zff a nm):=⟨_,rfl⟩
 obtain⟨mv,hmv⟩:∃ F,F=Zsk a.nodes.length pl:=⟨_,rfl⟩
 have q1:=UR a (a.edges+b.edges) o V1 [] (fun x=>x) ea.1 (Qh (by omega) (QM ha)) (by omega) (by omega) (by omega) lnA ha.inner (fun l _ lvl S=>Zkr (ZfF a l) lvl S)
 have hR:∀ loc:List (Nat×Ob),lkO 416 loc=some (.bx [.fn nf (ns.map IV.ta)])->∀ l' S',Zj (Zh4 (ZE lvl loc S) S' l') [.ag ((Zc b).map .tr),iI (a.edges+b.edges),.tr (.sl (rS o)),.fn Ya [.ta (Zc a),.ab (lvl,416) 0]]->Sem Go.Proofs.Tryz.prog Zy l' [.ag ((Zc b).map .tr),iI (a.edges+b.edges),.tr (.sl (rS o)),.fn Ya [.ta (Zc a),.ab (lvl,416) 0]] S' (Zg (Dk b FR (a.edges+b.edges) (Vu o))) S':=fun loc h1 l' S' hs=>by
  have hc:Zj (Zm3 (ZE lvl loc S) S' l') [.ta (Zc a),.ab (lvl,416) 0]:=by
   have h2:=(Zkn hs).2.2.2.1
   simp only[men] at h2
   exact h2
  rw[hFR]
  exact Zdw b (a.edges+b.edges) o Ya _ (ZE lvl loc S) (Zff a nm) eb.1 (Qh (by omega) (QM hb)) (by omega) (by omega) (by omega) lnB hb.inner (fun l hl l'' S'' hs2=>by
   have hz:=hs2.2.1
   simp only[men] at hz
   refine Zks a (ZfF b l) nf ns nm (Zrl eb hl) (by omega) (fun hne=>hN _ ?_) l'' S'' (lvl,416) hz.1 (hz.2 _ (by rw[Yt];exact h1))
   rcases Yb hl with ⟨g0,g1⟩ | ⟨i,hi,rfl⟩
   ·rw[ZhQ g1] at hne
    exact absurd rfl hne
   ·rw[ZhR hi]
    exact List.getElem_mem hi) l' S' hc
 rw[<-hFL] at q1
 rw[<-hFL,<-hFR,<-hmv]
 simp only[Zc,Zg,Dk,List.map_cons,List.map_nil] at q1 hR
 obtain⟨N1,hN1⟩:∃ l,l=a.nodes.map (fun x=>({ control:=x.control,parent:=x.parent,links:=List.map FL x.links }:TNode)):=⟨_,rfl⟩
 obtain⟨B1,hB1⟩:∃ l,l=b.nodes.map (fun x=>({ control:=x.control,parent:=x.parent,links:=List.map FR x.links }:TNode)):=⟨_,rfl⟩
 obtain⟨B2,hB2⟩:∃ l,l=b.nodes.map (fun x=>({ control:=x.control,parent:=mv x.parent,links:=List.map FR x.links }:TNode)):=⟨_,rfl⟩
 have lN1:N1.length=a.nodes.length:=by rw[hN1,List.length_map]
 have lB1:B1.length=b.nodes.length:=by rw[hB1,List.length_map]
 have lB2:B2.length=b.nodes.length:=by rw[hB2,List.length_map]
 simp only[<-hN1] at q1
 have hW1:b.inner.map (fun w=>({ name:=w.name,link:=FR w.link }:TWire))=b.inner.map (ZbG FR):=rfl
 simp only[<-hB1,hW1] at hR
 refine Zb ZiY (by simp [low,men,Zj]) ?_
 simp only[Zdk,Zc,EVA,seval,Zj,men]
 refine⟨by rw[Zd];omega,?_⟩
 refine Za q1 ?_
 simp only[lN1,List.length_map,EVA,seval]
 refine ZcQ (hR _ rfl) ?_
 simp only[EVA,seval,Zj,men]
 refine Za (Zad ss (by omega)) ?_
 simp only[lB1,List.length_map,EVA,seval]
 refine ZH (α:=Unit) b.nodes.length (fun j _=>[(51,iI j)]) (fun j _=>[(576,.bx [iI roots,.hd (lvl,992) [] 0 (a.nodes.length+j) none (a.nodes.length+j),.hd (lvl,1312) [] 0 ss.length none ss.length,iI (a.edges+b.edges),.hd (lvl,994) [] 0 (Vu o).length none (Vu o).length,.tr (.sl ((b.inner.map (ZbG FR)).map ZP))]),(992,.ar 3 ((N1++B2.take j).map ZO) (decide (j=0)) (a.nodes.length+j) 0)]) (fun _ _=>True) () (by simp only[Zac,EVA,seval]) (by simp only[hN1,EVA,seval];simp) trivial ?_
 intro j _ hj _
 simp only[List.length_map,EVA,seval]
 refine Zk (fun hlt=>?_) (fun hge=>?_)
 ·have hja:j<b.nodes.length:=by omega
  have ga:(B1.map ZO)[j]? = some [tv b.nodes[j].control,tv b.nodes[j].parent,Tr.sl (rI (b.nodes[j].links.map FR))]:=by
   rw[hB1,List.getElem?_map,List.getElem?_map,List.getElem?_eq_getElem hja]
   rfl
  have hx:=List.getElem_mem hja
  have hbp:=Dd hb hx
  have hge:=Js rb.1 (hb.nodes j hja).par
  simp only[ga,Zbg,YD,EVA,seval,Zj,men]
  have q3:=Zkt a b.nodes[j].parent pf ps pl (by omega) (by omega) (fun h=>hP _ hge h)
  rw[<-hmv] at q3
  simp only[Zc,List.map_cons,List.map_nil] at q3
  refine Za q3 ?_
  have hs:(N1++B2.take j).map ZO++[[tv b.nodes[j].control,tv (mv b.nodes[j].parent),Tr.sl (rI (b.nodes[j].links.map FR))]]=(N1++B2.take (j+1)).map ZO:=by
   have hj2:j<B2.length:=by omega
   rw[List.take_succ_eq_append_getElem hj2,<-List.append_assoc,List.map_append (l₂:=[B2[j]])]
   simp [hB2,ZO]
  have hl:(N1++B2.take j).length=a.nodes.length+j:=by rw[List.length_append,List.length_take];omega
  simp only[hs,hl,Bool.and_false,Zpn,YD,List.length_map,EVA,seval]
  exact⟨by omega,by rw[Zd];omega,Ze () hja rfl trivial⟩
 ·have:j=b.nodes.length:=by omega
  subst this
  rw[show B2.take b.nodes.length=B2 from by rw[<-lB2,List.take_length]]
  refine ZH (α:=Unit) b.sites.length (fun j _=>[(71,iI j)]) (fun j _=>[(576,.bx [iI roots,.hd (lvl,992) [] 0 (a.nodes.length+b.nodes.length) none (a.nodes.length+b.nodes.length),.hd (lvl,1312) [] 0 (ss.length+j) none (ss.length+j),iI (a.edges+b.edges),.hd (lvl,994) [] 0 (Vu o).length none (Vu o).length,.tr (.sl ((b.inner.map (ZbG FR)).map ZP))]),(1312,.ar 1 (rI (ss++(b.sites.take j).map mv)) true (ss.length+j) 0)]) (fun _ _=>True) () (by simp only[Zac,EVA,seval]) (by simp only[EVA,seval];simp) trivial ?_
  intro j _ hj _
  simp only[List.length_map,EVA,seval]
  refine Zk (fun hlt=>?_) (fun hge=>?_)
  ·have hja:j<b.sites.length:=by omega
   have ga:=V7 hja
   have e0:g0 b.sites j=b.sites[j]:=by simp [hja]
   have hx:=List.getElem_mem hja
   have hbp:=Wc hb hx
   have hge:=Js rb.1 (hb.sites _ hx)
   rw[<-e0] at hbp hge
   simp only[ga,Zbg,YD,EVA,seval,Zj,men]
   have q3:=Zkt a (g0 b.sites j) pf ps pl (by omega) (by omega) (fun h=>hP _ hge h)
   rw[<-hmv] at q3
   simp only[Zc,List.map_cons,List.map_nil] at q3
   refine Za q3 ?_
   have hs:rI (ss++(b.sites.take j).map mv)++[[tv (mv (g0 b.sites j))]]=rI (ss++(b.sites.take (j+1)).map mv):=by
    rw[List.take_succ_eq_append_getElem hja,List.map_append,<-List.append_assoc,Vt (ss++_),e0]
    rfl
   have hl:(ss++(b.sites.take j).map mv).length=ss.length+j:=by rw[List.length_append,List.length_map,List.length_take];omega
   simp only[hs,hl,YD,List.length_map,EVA,seval]
   exact⟨by omega,by rw[Zd];omega,Ze () hja rfl trivial⟩
  ·have:j=b.sites.length:=by omega
   subst this
   rw[List.take_length]
   exact⟨by rw[List.length_append];omega,by rw[List.length_append,List.length_map],by rw[hN1,hB2];rfl⟩
abbrev ZBN(b:TBigraph)(u:Bool):IV:=.ag [iI b.roots,.ow 3 (b.nodes.map ZO) u,.ow 1 (rI b.sites) true,iI b.edges,.ow 1 (rS b.outer) true,.tr (.sl (b.inner.map ZP))]
theorem ZgH(sig:List TControl)(a b X:TBigraph)(ha:bigOK sig a)(hb:bigOK sig b)(roots:Int)(ss:List Int)(hss:ss.length<=1000)(o:List ByteArray)(ho:o.length<=1000)(pf:FuncId)(ps:List (List Tr))(pl:Int->Int)(nf:FuncId)(ns:List (List Tr))(nm:ByteArray->Int×ByteArray)
  (hP:∀ p,-b.roots<=p->p<0->∀ lvl S,Sem Go.Proofs.Tryz.prog pf lvl (iI p::ps.map IV.ta) S (iI (pl p)) S) (hN:∀ x∈b.outer,∀ lvl S,Sem Go.Proofs.Tryz.prog nf lvl (iS x::ns.map IV.ta) S (oE (nm x)) S)
  (hX:Zbl a b roots ss (Vu o) (Zdr a (a.edges+b.edges) (Vu o) fun x=>x) (Zdr b (a.edges+b.edges) (Vu o) (Zff a nm)) (Zsk a.nodes.length pl)=X)
  (lvl:Nat) (S:Sto):Sem Go.Proofs.Tryz.prog VE lvl [.ag ((Zc a).map .tr),.ag ((Zc b).map .tr),iI roots,tI ss,.tr (.sl (rS o)),.fn pf (ps.map IV.ta),.fn nf (ns.map IV.ta)] S (ZBN X (decide (b.nodes.length=0))) S:=by
 subst hX
 exact Zns sig a b ha hb roots ss hss o ho pf ps pl nf ns nm hP hN lvl S
end Go.Fd

/-
  A BIGRAPH AFTER ANOTHER: BOTH SIDES. Own work.
-/
namespace Go.Fd
set_option maxRecDepth 20000
theorem Zt2{a:TBigraph}:Zsk a.nodes.length (fun p=>g0 a.sites (-1-p).toNat)=ZxX a:=rfl
theorem Zpo{sig:List TControl}{a b:TBigraph}(ha:bigOK sig a)(hb:bigOK sig b){o:List ByteArray}(ho:o.length<=100):(∀ l,ZX a l->sm (g0 (ZmD a (a.edges+b.edges) o) l.toNat)):=fun l hl=>by
 have ea:=ha.edges;have eb:=hb.edges
 exact Zt1 ha (by omega) ho hl
end Go.Fd

/-
  A BIGRAPH NESTED IN ANOTHER: BOTH SIDES. Own work.
-/
namespace Go.Fd
set_option maxRecDepth 20000
theorem ZdB(a:TBigraph)(p:Int)(hp:-4294967296<=p/\p<0)(hl:(-1-p).toNat<a.sites.length)(lvl:Nat)(S:Sto):Sem Go.Proofs.Tryz.prog J3 lvl [iI p,.ta (Zc a)] S (iI (g0 a.sites (-1-p).toNat)) S:=by
 obtain⟨k,hk⟩:∃ k:Nat,-1-p=k:=⟨(-1-p).toNat,by omega⟩
 rw[hk] at hl ⊢
 rw[Int.toNat_natCast] at hl ⊢
 have ga:=V7 hl
 refine Zb Zbb trivial ?_
 simp only[Wj,Zc,hk,ga,EVA,↓reduceIte,Nat.reduceEqDiff,reduceCtorEq,Nat.reduceAdd,Nat.reduceLeDiff,Nat.reduceLT]
 rw[Zd];omega
theorem ZhW(s:ByteArray)(lvl:Nat)(S:Sto):Sem Go.Proofs.Tryz.prog YV lvl [iS s] S (oE (0,s)) S:=by
 refine Zb ZiZ (by simp [low,men,Zj]) ?_
 simp only[Zdl,EVA,↓reduceIte,Nat.reduceEqDiff,Nat.reduceMul,reduceCtorEq,Nat.reduceAdd,Nat.reduceLeDiff,Nat.reduceLT]
theorem Zpp(n:Nat)(hn:n<=4294967296)(lvl:Nat)(S:Sto):Sem Go.Proofs.Tryz.prog JU lvl [.cs [],iI n] S (.ow 1 [] true) S:=by
 refine Zb Un trivial ?_
 simp only[VJ,EVA,↓reduceIte,Nat.reduceEqDiff,Nat.reduceMul,reduceCtorEq,Nat.reduceAdd,Nat.reduceLeDiff,Nat.reduceLT,Int.reduceLE]
 rw[if_neg (by omega)]
 refine⟨by rw[Zd];omega,by rw[Zd];omega,?_⟩
 split
 ·exact⟨fun e he=>by (cases he),by omega,by omega,by omega⟩
 ·trivial
theorem Zku{α:Type}{ls:List (List α)}{j:Nat}(h:j<ls.length):(ls.take (j+1)).flatten=(ls.take j).flatten++ls[j]:=by
 rw[List.take_succ_eq_append_getElem h,List.flatten_append]
 simp
theorem Ze0{α:Type}{ls:List (List α)}{j:Nat}:((ls.take j).flatten).length<=ls.flatten.length:=by
 have h:=congrArg (fun l=>l.flatten.length) (List.take_append_drop j ls)
 simp only[List.flatten_append,List.length_append] at h
 omega
abbrev eSS(l:List ByteArray):List Tr:=[Tr.sl (rS l)]
theorem ZgI(ls:List (List ByteArray))(hl:ls.length<=4294967296)(ht:ls.flatten.length<=4294967296)(lvl:Nat)(S:Sto):Sem Go.Proofs.Tryz.prog Ja lvl [.tr (.sl (ls.map eSS))] S (.ow 1 (rS ls.flatten) true) S:=by
 refine Zb WD trivial ?_
 simp only[Vg,List.length_map,EVA,↓reduceIte,Nat.reduceEqDiff,reduceCtorEq,Nat.reduceLeDiff,Nat.reduceLT]
 refine ZH (α:=Unit) ls.length (fun j _=>[(3,iI ((ls.take j).flatten).length),(11,iI j)]) (fun _ _=>[]) (fun _ _=>True) () (by simp only[EVA,↓reduceIte,Nat.reduceEqDiff,reduceCtorEq]) (by (simp only[EVA,↓reduceIte,Nat.reduceEqDiff,reduceCtorEq,Nat.reduceLT]) <;> rfl) trivial ?_
 intro j _ hj _
 simp only[EVA,↓reduceIte,Nat.reduceEqDiff,reduceCtorEq,Nat.reduceLT]
 refine Zk (fun hlt=>?_) (fun hge=>?_)
 ·have hja:j<ls.length:=by omega
  have ga:=Db (c:=eSS) hja
  have h1:=Zku (ls:=ls) hja
  have h2:=Ze0 (ls:=ls) (j:=j+1)
  rw[h1,List.length_append] at h2
  simp only[ga,List.length_map,EVA,↓reduceIte,Nat.reduceEqDiff,reduceCtorEq,Nat.reduceLT]
  refine⟨by rw[Zd];omega,?_⟩
  rw[if_neg (by omega)]
  exact⟨by rw[Zd];omega,Ze () hja (by rw[h1,List.length_append];rfl) trivial⟩
 ·have:j=ls.length:=by omega
  subst this
  rw[List.take_length]
  refine ZoG (Zpp _ ht _ _) ?_
  simp only[List.length_map,EVA,↓reduceIte,Nat.reduceEqDiff,Nat.reduceMul,reduceCtorEq,Nat.reduceAdd,Nat.reduceLT]
  refine ZH (α:=Unit) ls.length (fun j _=>[(6,.hd (lvl,768) [] 0 ((ls.take j).flatten).length none ((ls.take j).flatten).length),(27,iI j)]) (fun j _=>[(768,.ar 1 (rS (ls.take j).flatten) true ((ls.take j).flatten).length 0)]) (fun _ _=>True) () (by simp only[EVA,↓reduceIte,Nat.reduceEqDiff,reduceCtorEq]) (by (simp only[EVA,↓reduceIte,Nat.reduceEqDiff,reduceCtorEq,Nat.reduceLT]) <;> rfl) trivial ?_
  intro j _ hj _
  simp only[List.length_map,EVA,↓reduceIte,Nat.reduceEqDiff,reduceCtorEq,Nat.reduceLT]
  refine Zk (fun hlt2=>?_) (fun hge2=>?_)
  ·have hja:j<ls.length:=by omega
   have ga:=Db (c:=eSS) hja
   have h1:=Zku (ls:=ls) hja
   have h2:=Ze0 (ls:=ls) (j:=j+1)
   rw[h1,List.length_append] at h2
   simp only[ga,Zo3,Zo4,List.length_map,EVA,↓reduceIte,Nat.reduceEqDiff,Nat.reduceLT]
   exact⟨by omega,by rw[Zd];omega,Ze () hja (by rw[h1,List.length_append,ZhO,Nat.max_eq_right (Nat.le_add_right _ _)];rfl) trivial⟩
  ·have:j=ls.length:=by omega
   subst this
   rw[List.take_length]
theorem Wm{a b:TBigraph}:(YJ a b).length<=a.outer.length+b.outer.length:=Nat.le_trans ZbH (by rw[List.length_append];omega)
def ZBO(sig:List TControl)(a b:TBigraph):Prop:=bigOK sig a/\bigOK sig b/\a.inner.length=0/\(a.sites.length:Int)=b.roots
def ZdC(sig:List TControl)(a b:TBigraph):Prop:=ZBO sig a b/\bigOK sig (DC a b)
theorem Zpq{sig:List TControl}{a b:TBigraph}(ha:bigOK sig a)(hb:bigOK sig b):Zp 4294967290 (DC a b):=by
 have a4:=ha.small.outer;have b4:=hb.small.outer
 have hl:=Wm (a:=a) (b:=b)
 refine Zpk ha hb (by simp) (by omega) fun y hy=>?_
 rcases List.mem_append.1 (setS_mem.1 hy) with hy | hy
 ·have:=Yq ha.outer hy;omega
 ·have:=Yq hb.outer hy;omega
theorem Zpr{sig:List TControl}{a b:TBigraph}(ha:bigOK sig a)(hb:bigOK sig b)(hf:(a.sites.length:Int)=b.roots)(fa:ZB a)(fb:ZB b):ZB (DC a b):=by
 have a4:=ha.small.outer;have b4:=hb.small.outer
 have ea:=ha.edges;have eb:=hb.edges
 have ra:=ha.roots
 have hl:=Wm (a:=a) (b:=b)
 refine Zpl ha hb fa fb (by unfold sm;omega) (by simp) (fun l hl2=>Zpo ha hb (by omega) l hl2) (fun l hl2=>Zpm ha hb (fun x hx=>?_) hl2) fun p h1 h2=>Zxv ha hb hf h1 h2
 have:=Zgx (l:=YJ a b) (s:=x)
 have:=ZeW (l:=YJ a b) (s:=x)
 unfold sm
 omega
open Classical in
noncomputable def Ut(sig:List TControl)(a b:TBigraph):TBigraph:=if ZdC sig a b then DC a b else Jh
noncomputable def Uu(sig:List TControl)(a b:TBigraph):Bool:=dc (ZdC sig a b)
theorem Znt(sig:List TControl)(a b:TBigraph)(ha:bigOK sig a)(hb:bigOK sig b)(hf:(a.sites.length:Int)=b.roots)(lvl:Nat)(S:Sto):Sem Go.Proofs.Tryz.prog Ue lvl [.ag ((Zc a).map .tr),.ag ((Zc b).map .tr)] S (Zrn (DC a b) false) S:=by
 have ea:=ha.edges;have eb:=hb.edges
 have sa:=ha.small;have sb:=hb.small
 have a4:=sa.outer;have b4:=sb.outer
 have hol:=Wm (a:=a) (b:=b)
 refine Zb ZiT (by simp [low,men,Zj]) ?_
 simp only[Zde,Zc,Zo3,Zo4,Nat.zero_max,List.length_map,EVA,↓reduceIte,Nat.reduceEqDiff,Nat.reduceMul,reduceCtorEq,Nat.reduceAdd,Nat.reduceLeDiff,Nat.reduceLT,Zj,men]
 rw[show cut (rS a.outer++rS b.outer) 0 (a.outer.length+b.outer.length)=rS (a.outer++b.outer) from by
  rw[<-ZhO]
  exact Yn (by simp [rS])]
 refine⟨by omega,by omega,by simp [rS],Za (US (a.outer++b.outer) (by rw[List.length_append];omega)) ?_⟩
 rw[show Vu (a.outer++b.outer)=YJ a b from rfl]
 simp only[EVA,↓reduceIte,Nat.reduceEqDiff,Nat.reduceMul,reduceCtorEq,Nat.reduceAdd,Nat.reduceLT,Zj,men]
 refine⟨by rw[Zd];omega,?_⟩
 refine Za (Us a.outer (a.edges+b.edges) (YJ a b) (by omega) (by omega) (by omega)) ?_
 simp only[EVA,↓reduceIte,Nat.reduceEqDiff,Nat.reduceMul,reduceCtorEq,Nat.reduceLT,Zj,men]
 refine Za (Us b.outer (a.edges+b.edges) (YJ a b) (by omega) (by omega) (by omega)) ?_
 simp only[EVA,↓reduceIte,Nat.reduceEqDiff,Nat.reduceMul,reduceCtorEq,Nat.reduceLT,Zj,men]
 have q:=Zlv sig a b (YJ a b) (a.outer.map fun x=>a.edges+b.edges+ixS (YJ a b) x) (b.outer.map fun x=>a.edges+b.edges+ixS (YJ a b) x) ha hb hf (by simp) (by simp) (by omega) (ZmD a (a.edges+b.edges) (YJ a b)) (Zpf a b fun x=>a.edges+b.edges+ixS (YJ a b) x) (fun n hn=>Zph hn) (fun n hn=>Zpi hn)
 rw[show ZmF a b (YJ a b) (ZmD a (a.edges+b.edges) (YJ a b)) (Zpf a b fun x=>a.edges+b.edges+ixS (YJ a b) x)=DC a b from rfl] at q
 simp only[Zc,Zrn,List.map_cons,List.map_nil] at q
 refine Za q ?_
 simp only[List.length_map,EVA,↓reduceIte,Nat.reduceEqDiff,Nat.reduceMul,reduceCtorEq,Nat.reduceAdd,Nat.reduceLT]
theorem Zbm(sig:List TControl)(a b:TBigraph)(hn:sig.length<=4294967296)(hbs:∀ y∈sig,Zo 4294967296 y)(hba:Zp 4294967296 a)(hbb:Zp 4294967296 b)(fa:ZB a)(fb:ZB b)(lvl:Nat)(S:Sto):Sem Go.Proofs.Tryz.prog VC lvl [.tr (.sl (sig.map Zh)),.ag ((Zc a).map .tr),.ag ((Zc b).map .tr)] S (.tu [Zg (Ut sig a b),iB (Uu sig a b)]) S:=by
 refine Zb Zct (by simp [Zg,low,men,Zj]) ?_
 simp only[Uk,Zc,EVA,↓reduceIte,Nat.reduceEqDiff,Nat.reduceMul,reduceCtorEq,Nat.reduceAdd,Nat.reduceLeDiff,Nat.reduceLT,Zj,men]
 have i1:=Jy sig a hn hbs hba
 have i2:=Jy sig b hn hbs hbb
 simp only[Zc,List.map_cons,List.map_nil] at i1 i2
 refine Za i1 ?_
 unfold Ut Uu
 cases h1:dc (bigOK sig a)
 ·have hno:¬ ZdC sig a b:=fun g=>dc_not.1 h1 g.1.1
  rw[if_neg hno,Zi hno]
  simp only[EVA,↓reduceIte,Nat.reduceEqDiff,Nat.reduceMul,reduceCtorEq,Nat.reduceAdd,Nat.reduceLT]
  rfl
 have hA:=dc_iff.1 h1
 simp only[EVA,↓reduceIte,Nat.reduceEqDiff,Nat.reduceMul,reduceCtorEq,Nat.reduceAdd,Nat.reduceLT,Zj,men]
 refine Za i2 ?_
 cases h2:dc (bigOK sig b)
 ·have hno:¬ ZdC sig a b:=fun g=>dc_not.1 h2 g.1.2.1
  rw[if_neg hno,Zi hno]
  simp only[EVA,↓reduceIte,Nat.reduceEqDiff,Nat.reduceMul,reduceCtorEq,Nat.reduceAdd,Nat.reduceLT]
  rfl
 have hB:=dc_iff.1 h2
 have sa:=hA.small;have sb:=hB.small
 have a2:=sa.sites;have a3:=sa.inner;have a4:=sa.outer;have b4:=sb.outer
 have ra:=hA.roots;have rb:=hB.roots
 simp only[List.length_map,EVA,↓reduceIte,Nat.reduceEqDiff,Nat.reduceMul,reduceCtorEq,Nat.reduceAdd,Nat.reduceLT,Zj,men]
 by_cases h3:(0:Int)<a.inner.length
 ·have hno:¬ ZdC sig a b:=fun g=>by have:=g.1.2.2.1;omega
  rw[if_neg hno,Zi hno]
  simp only[h3,EVA,↓reduceIte]
  rfl
 by_cases h4:(a.sites.length:Int)=b.roots
 ·simp only[h3,h4,EVA,↓reduceIte]
  have hfl:[a.outer,b.outer].flatten=a.outer++b.outer:=by simp
  have hc:=ZgI [a.outer,b.outer] (by simp) (by rw[hfl,List.length_append];omega)
  rw[hfl] at hc
  refine⟨by simp,by simp,Za hc ?_⟩
  simp only[EVA,↓reduceIte,Nat.reduceEqDiff,Nat.reduceMul,reduceCtorEq,Nat.reduceLT,Zj,men]
  have qj:=ZgH sig a b (DC a b) hA hB a.roots [] (by simp) (a.outer++b.outer) (by rw[List.length_append];omega) J3 [Zc a] (fun p=>g0 a.sites (-1-p).toNat) YV [] (fun s=>(0,s)) (fun p h1 h2 lvl S=>ZdB a p (by omega) (by omega) lvl S) (fun x _ lvl S=>ZhW x lvl S) (by rw[Zt2];exact Zt0 hA hB)
  simp only[Zc,ZBN,List.map_cons,List.map_nil] at qj
  refine Za qj ?_
  simp only[EVA,↓reduceIte,Nat.reduceEqDiff,Nat.reduceMul,reduceCtorEq,Nat.reduceLT,Zj,men]
  have qv:=Zdx sig (DC a b) hn hbs (Zpq hA hB) (Zpr hA hB h4 fa fb)
  simp only[Zc,List.map_cons,List.map_nil] at qv
  refine Za qv ?_
  cases h6:dc (bigOK sig (DC a b))
  ·have hno:¬ ZdC sig a b:=fun g=>dc_not.1 h6 g.2
   rw[if_neg hno,Zi hno,if_neg (dc_not.1 h6)]
   simp only[Zg,EVA,↓reduceIte,Nat.reduceEqDiff,Nat.reduceMul,reduceCtorEq,Nat.reduceAdd,Nat.reduceLT]
   rfl
  ·have hyes:ZdC sig a b:=⟨⟨hA,hB,by omega,h4⟩,dc_iff.1 h6⟩
   rw[if_pos hyes,ZN hyes,if_pos (dc_iff.1 h6)]
   simp only[Zg,List.length_map,EVA,↓reduceIte,Nat.reduceEqDiff,Nat.reduceMul,reduceCtorEq,Nat.reduceAdd,Nat.reduceLT]
 ·have hno:¬ ZdC sig a b:=fun g=>h4 g.1.2.2.2
  rw[if_neg hno,Zi hno]
  simp only[h3,h4,EVA,↓reduceIte]
  rfl
end Go.Fd
