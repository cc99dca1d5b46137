/-
  A VALID BIGRAPH: THE WHOLE, BOTH SIDES. Own work.
-/
import Derived.Test.YtfgceefkblbbjaaGreatDoorT05
import Derived.Shelf.Sort.Plain
set_option linter.all false
namespace Go.Fd
set_option maxRecDepth 20000
theorem UD(b:TBigraph)(hn:b.inner.length<=4294967296)(lvl:Nat)(S:Sto):Sem Go.Proofs.Tryz.prog Z4 lvl [.ag ((Zc b).map .tr)] S (.ow 1 (rS (inn b)) true) S:=by
 refine Zb UA trivial ?_
 simp only[Qa,List.length_map,Zc,EVA,seval]
 refine ZB (α:=Unit) b.inner.length (fun j _=>[(3,.hd (lvl,192) [] 0 j none j),(10,iI j)]) (fun j _=>[(192,.ar 1 (rS ((inn b).take j)) true j 0)]) (fun _ _=>True) () (by simp only[EVA,seval]) (by (simp only[EVA,seval]) <;> rfl) trivial ?_
 intro j _ hj _
 have hil:(inn b).length=b.inner.length:=by simp [inn]
 simp only[List.length_map,EVA,seval]
 refine Zn (fun hlt=>?_) (fun hge=>?_)
 ·have hja:j<b.inner.length:=by omega
  have ga:=W9 (c:=Jc) hja
  have hlN:(rS ((inn b).take j)).length=j:=by rw[List.length_map,List.length_take];omega
  simp only[ga,Jc,hlN,EVA,seval]
  have hstep:rS ((inn b).take j)++[[ts b.inner[j].name]]=rS ((inn b).take (j+1)):=by
   rw[List.take_succ_eq_append_getElem (by omega),Zgx]
   simp [inn]
  refine⟨by omega,by rw[Zd];omega,Ze () hja ?_ trivial⟩
  rw[<-hstep]
  rfl
 ·have:j=b.inner.length:=by omega
  subst this
  rw[List.take_of_length_le (by omega)]
  exact⟨hil.symm,rfl⟩
def Zlh(sig:List TControl)(b:TBigraph)(i:Nat):Prop:=∀ h:i<b.nodes.length,nodeOK sig b b.nodes[i] i
structure bigOK (sig:List TControl) (b:TBigraph):Prop where
 sg:YJ sig
 roots:0<=b.roots/\b.roots<=4
 nodesL:b.nodes.length<=8
 sitesL:b.sites.length<=4
 edges:0<=b.edges/\b.edges<=8
 outer:Vt b.outer
 inn:Vt (inn b)
 nodes:∀ i,Zlh sig b i
 sites:∀ p∈b.sites,Ua sig b p b.nodes.length
 inner:∀ w∈b.inner,ZR b w.link
theorem ZhJ{sig:List TControl}{b:TBigraph}{j:Nat}(h:∀ k,k<j->Zlh sig b k):Zi5 sig b j:=fun i hi hl=>(h i hi hl).ctl
theorem Zdi{b:TBigraph}:(inn b).length=b.inner.length:=by simp [inn]
theorem ZnE{b:TBigraph}{n:Nat}(h:∀ y∈b.inner,ZdB n y):∀ y∈inn b,y.size<=n:=fun y hy=>by
 obtain⟨w,hw,rfl⟩:=List.mem_map.1 hy
 exact h w hw
theorem XE(sig:List TControl)(b:TBigraph)(hn:sig.length<=4294967296)(hbs:∀ y∈sig,Zr 4294967296 y)(hb:Zs 4294967296 b)(hf:Zy b)(lvl:Nat)(S:Sto):Sem Go.Proofs.Tryz.prog J6 lvl [.tr (.sl (sig.map Zh)),.ag ((Zc b).map .tr)] S (iB (dc (bigOK sig b))) S:=by
 obtain⟨b1,b2,b3,b4,b5,b6,b7⟩:=hb
 obtain⟨f1,f2,f3,f4,f5⟩:=hf
 refine Zb Zhs trivial ?_
 simp only[Zcb,Zc,EVA,seval,Zj,men]
 refine Za (Zi4 sig (by omega) (fun y hy=>Ds (hbs y hy))) ?_
 cases h1:dc (YJ sig)
 ·simp only[EVA,seval]
  rw[Zg fun h:bigOK sig b=>dc_not.1 h1 h.sg]
 simp only[EVA,seval,Zj,men]
 refine Za (Qn b.roots 0 4) ?_
 cases h2:inB b.roots 0 4
 ·simp only[EVA,seval]
  rw[Zg fun h:bigOK sig b=>inB_not.1 h2 h.roots]
 by_cases h3:(8:Int)<b.nodes.length
 ·simp only[h3,List.length_map,EVA,seval]
  rw[Zg fun h:bigOK sig b=>by have:=h.nodesL;omega]
 by_cases h4:(4:Int)<b.sites.length
 ·simp only[h3,h4,List.length_map,EVA,seval]
  rw[Zg fun h:bigOK sig b=>by have:=h.sitesL;omega]
 simp only[h3,h4,List.length_map,EVA,seval,Zj,men]
 refine Za (Qn b.edges 0 8) ?_
 cases h5:inB b.edges 0 8
 ·simp only[EVA,seval]
  rw[Zg fun h:bigOK sig b=>inB_not.1 h5 h.edges]
 have r2:=inB_iff.1 h2
 have r5:=inB_iff.1 h5
 simp only[EVA,seval,Zj,men]
 refine Za (Zfb b.outer (by assumption) (by assumption)) ?_
 cases h6:dc (Vt b.outer)
 ·simp only[EVA,seval]
  rw[Zg fun h:bigOK sig b=>dc_not.1 h6 h.outer]
 by_cases h7:(16:Int)<b.inner.length
 ·simp only[h7,List.length_map,EVA,seval]
  rw[Zg fun h:bigOK sig b=>by have:=h.inn.2;rw[Zdi] at this;omega]
 simp only[h7,List.length_map,EVA,seval,Zj,men]
 refine Za (Zj9 b (by omega)) ?_
 simp only[EVA,seval,Zj,men]
 refine Za (Zfb (inn b) (by rw[Zdi];omega) (ZnE (by assumption))) ?_
 cases h8:dc (Vt (inn b))
 ·simp only[EVA,seval]
  rw[Zg fun h:bigOK sig b=>dc_not.1 h8 h.inn]
 simp only[EVA,seval]
 have ho:=(dc_iff.1 h6).2
 refine ZB (α:=Unit) b.nodes.length (fun j _=>[(5,iI j)]) (fun j _=>[]) (fun j _=>∀ k,k<j->Zlh sig b k) () (by simp only[EVA,seval]) (by (simp only[EVA,seval]) <;> rfl) (fun k hk=>absurd hk (Nat.not_lt_zero k)) ?_
 intro j _ hj hA
 simp only[List.length_map,EVA,seval,Zj,men]
 refine Zn (fun hlt=>?_) (fun hge=>?_)
 ·have hja:j<b.nodes.length:=by omega
  have hm:=List.getElem_mem hja
  refine Za (Zl0 sig b j hja hn (by first | exact(b2 _ hm) | exact(b3 _ hm)) (by first | exact(f1 _ hm).2.1 | exact(f2 _ hm).2.1) r2 r5 (by omega) (ZhJ hA)) ?_
  cases hc:dc (nodeOK sig b b.nodes[j] j)
  ·simp only[EVA,seval]
   rw[Zg fun h:bigOK sig b=>dc_not.1 hc (h.nodes j hja)]
  ·simp only[EVA,seval]
   exact⟨by rw[Zd];omega,Ze () hja rfl (ZpO hA fun _=>dc_iff.1 hc)⟩
 have hj1:j=b.nodes.length:=by omega
 subst hj1
 refine ZB (α:=Unit) b.sites.length (fun j _=>[(6,iI j)]) (fun j _=>[]) (fun j _=>∀ k,k<j->Ua sig b (g0 b.sites k) b.nodes.length) () (by simp only[EVA,seval]) (by (simp only[EVA,seval]) <;> rfl) (fun k hk=>absurd hk (Nat.not_lt_zero k)) ?_
 intro j _ hj hB
 simp only[List.length_map,EVA,seval]
 refine Zn (fun hlt=>?_) (fun hge=>?_)
 ·have hja:j<b.sites.length:=by omega
  have ga:=VL hja
  have hg:g0 b.sites j∈b.sites:=by simp [hja]
  simp only[ga,List.length_map,EVA,seval,Zj,men]
  refine Za (Zfc sig b (g0 b.sites j) b.nodes.length (by first | exact f3 _ hg | exact f2 _ hg | exact f4 _ hg) r2 (Nat.le_refl _) (ZhJ hA)) ?_
  cases hc:dc (Ua sig b (g0 b.sites j) b.nodes.length)
  ·simp only[EVA,seval]
   rw[Zg fun h:bigOK sig b=>dc_not.1 hc (h.sites _ hg)]
  ·simp only[EVA,seval]
   exact⟨by rw[Zd];omega,Ze () hja rfl (ZpO hB (dc_iff.1 hc))⟩
 have hj1:j=b.sites.length:=by omega
 subst hj1
 refine ZB (α:=Unit) b.inner.length (fun j _=>[(7,iI j)]) (fun j _=>[]) (fun j _=>∀ k,k<j->∀ h:k<b.inner.length,ZR b b.inner[k].link) () (by simp only[EVA,seval]) (by (simp only[EVA,seval]) <;> rfl) (fun k hk=>absurd hk (Nat.not_lt_zero k)) ?_
 intro j _ hj hC
 simp only[List.length_map,EVA,seval]
 refine Zn (fun hlt=>?_) (fun hge=>?_)
 ·have hja:j<b.inner.length:=by omega
  have ga:=W9 (c:=Jc) hja
  simp only[ga,Jc,EVA,seval,Zj,men]
  refine Za (Zgv b b.inner[j].link r5 (by omega)) ?_
  cases hc:dc (ZR b b.inner[j].link)
  ·simp only[EVA,seval]
   rw[Zg fun h:bigOK sig b=>dc_not.1 hc (h.inner _ (List.getElem_mem hja))]
  ·simp only[EVA,seval]
   exact⟨by rw[Zd];omega,Ze () hja rfl (ZpO hC fun _=>dc_iff.1 hc)⟩
 have hj1:j=b.inner.length:=by omega
 subst hj1
 have:bigOK sig b:=⟨dc_iff.1 h1,r2,by omega,by omega,r5,dc_iff.1 h6,dc_iff.1 h8,fun i h=>hA i h h,fun p hp=>by
  obtain⟨k,hk,rfl⟩:=List.getElem_of_mem hp
  have:=hB k hk
  simpa [hk] using this,fun w hw=>by
  obtain⟨k,hk,rfl⟩:=List.getElem_of_mem hw
  exact hC k hk hk⟩
 rw[ZL this]
theorem Zfd(l:Int)(b:TBigraph)(he:0<=b.edges/\b.edges<=8)(ho:b.outer.length<=4294967296)(lvl:Nat)(S:Sto):Sem Go.Proofs.Tryz.prog VQ lvl [iI l,.ta (Zc b)] S (iB (!dc (ZR b l))) S:=by
 refine Zb Zci trivial ?_
 simp only[Ui,Zc,EVA,seval,Zj,men]
 refine Za (Zgw b l he ho) ?_
 simp only[EVA,seval]
theorem Zfe(p:Int)(sig:List TControl)(b:TBigraph)(hr:0<=b.roots/\b.roots<=4)(hc:Zi5 sig b b.nodes.length)(lvl:Nat)(S:Sto):Sem Go.Proofs.Tryz.prog VS lvl [iI p,.ta (Zc b),.ta [Tr.sl (sig.map Zh)]] S (iB (!dc (Ua sig b p b.nodes.length))) S:=by
 refine Zb Zcj trivial ?_
 simp only[Uj,Zc,List.length_map,EVA,seval,Zj,men]
 refine Za (ZdO sig b p b.nodes.length hr (Nat.le_refl _) hc) ?_
 simp only[EVA,seval]
theorem Zff(w:TWire)(b:TBigraph)(he:0<=b.edges/\b.edges<=8)(ho:b.outer.length<=4294967296)(lvl:Nat)(S:Sto):Sem Go.Proofs.Tryz.prog VT lvl [.ag ((Jc w).map .tr),.ta (Zc b)] S (iB (!dc (ZR b w.link))) S:=by
 refine Zb Zck trivial ?_
 simp only[Uk,Zc,Jc,EVA,seval,Zj,men]
 refine Za (Zgw b w.link he ho) ?_
 simp only[EVA,seval]
theorem ZvQ:ZI Go.Proofs.Tryz.prog JB (Znt 2 (some 2))=true:=by kernel_rfl
theorem ZvR:ZI Go.Proofs.Tryz.prog Jq (ZqK JB)=true:=by kernel_rfl
theorem any_no{α:Type}{l:List α}{p:α->Prop}:(l.any fun n=>!dc (p n))=false↔∀ n∈l,p n:=by
 simp only[List.any_eq_false,Bool.not_eq_true',Bool.not_eq_false,dc_iff]
theorem Jt(sig:List TControl)(b:TBigraph)(hn:sig.length<=4294967296)(hbs:∀ y∈sig,Zr 4294967296 y)(hb:Zs 4294967296 b)(lvl:Nat)(S:Sto):Sem Go.Proofs.Tryz.prog ZZ lvl [.tr (.sl (sig.map Zh)),.ag ((Zc b).map .tr)] S (iB (dc (bigOK sig b))) S:=by
 obtain⟨b1,b2,b3,b4,b5,b6,b7⟩:=hb
 refine Zb Zd2 trivial ?_
 simp only[DJ,Zc,EVA,seval,Zj,men]
 refine Za (VY sig (by omega) (fun y hy=>Ds (hbs y hy))) ?_
 cases h1:dc (YJ sig)
 ·simp only[EVA,seval]
  rw[Zg fun h:bigOK sig b=>dc_not.1 h1 h.sg]
 simp only[EVA,seval,Zj,men]
 refine Za (YH b.roots 0 4) ?_
 cases h2:inB b.roots 0 4
 ·simp only[EVA,seval]
  rw[Zg fun h:bigOK sig b=>inB_not.1 h2 h.roots]
 by_cases h3:(8:Int)<b.nodes.length
 ·simp only[h3,List.length_map,EVA,seval]
  rw[Zg fun h:bigOK sig b=>by have:=h.nodesL;omega]
 by_cases h4:(4:Int)<b.sites.length
 ·simp only[h3,h4,List.length_map,EVA,seval]
  rw[Zg fun h:bigOK sig b=>by have:=h.sitesL;omega]
 simp only[h3,h4,List.length_map,EVA,seval,Zj,men]
 refine Za (YH b.edges 0 8) ?_
 cases h5:inB b.edges 0 8
 ·simp only[EVA,seval]
  rw[Zg fun h:bigOK sig b=>inB_not.1 h5 h.edges]
 have r2:=inB_iff.1 h2
 have r5:=inB_iff.1 h5
 simp only[EVA,seval,Zj,men]
 refine Za (ZdN b.outer (by assumption) (by assumption)) ?_
 cases h6:dc (Vt b.outer)
 ·simp only[EVA,seval]
  rw[Zg fun h:bigOK sig b=>dc_not.1 h6 h.outer]
 simp only[EVA,seval,Zj,men]
 refine Za (UD b (by omega)) ?_
 simp only[EVA,seval,Zj,men]
 refine Za (ZdN (inn b) (by rw[Zdi];omega) (ZnE (by assumption))) ?_
 cases h8:dc (Vt (inn b))
 ·simp only[EVA,seval]
  rw[Zg fun h:bigOK sig b=>dc_not.1 h8 h.inn]
 simp only[List.length_map,EVA,seval]
 have ho:=(dc_iff.1 h6).2
 refine ZB (α:=Unit) b.nodes.length (fun j _=>[(49,iI j)]) (fun j _=>[]) (fun j _=>∀ k,k<j->Zlh sig b k) () (by simp only[EVA,seval]) (by (simp only[EVA,seval]) <;> rfl) (fun k hk=>absurd hk (Nat.not_lt_zero k)) ?_
 intro j _ hj hA
 simp only[EVA,seval,Zj,men]
 refine Zn (fun hlt=>?_) (fun hge=>?_)
 ·have hja:j<b.nodes.length:=by omega
  have hm:=List.getElem_mem hja
  have ga:=W9 (c:=Z9) hja
  have hll:b.nodes[j].links.length<=4294967296:=by first | exact(b2 _ hm) | exact(b3 _ hm)
  have hno:¬ nodeOK sig b b.nodes[j] j->dc (bigOK sig b)=false:=fun h=>Zg fun g=>h (g.nodes j hja)
  simp only[ga,Z9,List.length_map,EVA,seval,Zj,men]
  refine⟨by rw[Zd];omega,?_⟩
  refine Za (YH b.nodes[j].control 0 ((sig.length:Int)-1)) ?_
  cases p1:inB b.nodes[j].control 0 ((sig.length:Int)-1)
  ·simp only[EVA,seval]
   rw[hno fun h=>inB_not.1 p1 h.ctl]
  have q1:=inB_iff.1 p1
  simp only[EVA,seval,Zj,men]
  refine Za (ZdO sig b b.nodes[j].parent j r2 (by omega) (ZhJ hA)) ?_
  cases p2:dc (Ua sig b b.nodes[j].parent j)
  ·simp only[EVA,seval]
   rw[hno fun h=>dc_not.1 p2 h.par]
  obtain⟨m,hmm⟩:∃ m:Nat,b.nodes[j].control=m:=⟨b.nodes[j].control.toNat,by omega⟩
  have hms:m<sig.length:=by omega
  have gs:=W9 (c:=Zh) hms
  have e:YT sig b.nodes[j].control=sig[m].ports:=by simp [YT,hmm,hms]
  by_cases p3:(b.nodes[j].links.length:Int)=sig[m].ports
  case neg =>
   simp only[p3,hmm,gs,Int.toNat_natCast,Zh,List.length_map,EVA,seval]
   rw[hno fun h=>p3 (by rw[<-e];exact h.ports)]
  simp only[p3,hmm,gs,Int.toNat_natCast,Zh,List.length_map,EVA,seval,Zj,men]
  refine Za (Zem (t:=tv) (cs:=[Zc b]) ZqO ZqN b.nodes[j].links (by omega) (fun x _ lvl S=>Zfd x b r5 (by omega) lvl S)) ?_
  cases p4:b.nodes[j].links.any fun l=>!dc (ZR b l)
  ·simp only[EVA,seval]
   exact⟨by rw[Zd];omega,Ze () hja rfl (ZpO hA fun _=>⟨q1,dc_iff.1 p2,by rw[e];exact p3,any_no.1 p4⟩)⟩
  ·simp only[EVA,seval]
   rw[hno fun h=>by rw[any_no.2 h.links] at p4;cases p4]
 have hj1:j=b.nodes.length:=by omega
 subst hj1
 refine Za (Zem (t:=tv) (cs:=[Zc b,[Tr.sl (sig.map Zh)]]) ZqO ZqN b.sites (by omega) (fun x _ lvl S=>Zfe x sig b r2 (ZhJ hA) lvl S)) ?_
 cases h9:b.sites.any fun p=>!dc (Ua sig b p b.nodes.length)
 case true =>
  simp only[EVA,seval]
  rw[Zg fun h:bigOK sig b=>by rw[any_no.2 h.sites] at h9;cases h9]
 simp only[EVA,seval,Zj,men]
 refine Za (Zlg (cs:=[Zc b]) ZvR ZvQ (fun x=>rfl) b.inner (by omega) (fun x _ lvl S=>Zff x b r5 (by omega) lvl S)) ?_
 cases h10:b.inner.any fun w=>!dc (ZR b w.link)
 case true =>
  simp only[EVA,seval]
  rw[Zg fun h:bigOK sig b=>by rw[(any_no (p:=fun w:TWire=>ZR b w.link)).2 h.inner] at h10;cases h10]
 simp only[EVA,seval]
 have:bigOK sig b:=⟨dc_iff.1 h1,r2,by omega,by omega,r5,dc_iff.1 h6,dc_iff.1 h8,fun i h=>hA i h h,any_no.1 h9,any_no.1 h10⟩
 rw[ZL this]
end Go.Fd

namespace Go.Fd
set_option maxRecDepth 20000
def cz{α:Type} [DecidableEq α](g:Nat->α):Nat->List α
 | 0=>[]
 | m+1=>cz g m++if m≠0/\g m=g (m-1) then [] else [g m]
theorem ZvS{α:Type} [DecidableEq α](g:Nat->α):∀ m,(cz g m).length<=m
 | 0=>Nat.le_refl _
 | m+1=>by
  have:=ZvS g m
  simp only[cz,List.length_append]
  split <;> simp <;> omega
theorem Zsy{α:Type} [DecidableEq α]{g:Nat->α}{m:Nat}(h0:m≠0)(h:g m=g (m-1)):cz g (m+1)=cz g m:=by
 rw[cz,if_pos ⟨h0,h⟩,List.append_nil]
theorem ZAo{α:Type} [DecidableEq α]{g:Nat->α}{m:Nat}(h:g m≠g (m-1)):cz g (m+1)=cz g m++[g m]:=by
 rw[cz,if_neg (fun e=>h e.2)]
theorem Zcx{α:Type}{y:List α}{i:Nat}{v:α}(h:i<y.length):(y.set i v).take (i+1)=y.take i++[v]:=by
 rw[List.take_succ_eq_append_getElem (by rw[List.length_set];exact h),List.getElem_set_self,List.take_set_of_le (Nat.le_refl i)]
theorem ZvT{lvl:Nat}{S:Sto}{id:Oid}{k hw ver:Nat}{es:Row}{u:Bool}(hne:id.1≠lvl)(hS:S id=some (.ar k es u hw ver)):wid (ZF lvl [] S) id [] k:=by
 unfold wid
 rw[Jp hne,hS]
theorem ZhK{C:Zk}{env:List (Nat×IV)}{loc:List (Nat×Ob)}{out:Sto}{d:Option Nat}{K:St->Prop}{fid:FuncId}{imp:Bool}{lvl:Nat}{args:List IV}{r:IV}(key:Nat)(o:Ob)(h:C fid (lvl+1) args (ZF lvl loc out) r (ZT (ZF lvl loc out) (lvl,key) o))
  (hk:freshK (keyOf d) (ptO key o loc) (impv imp lvl (keyOf d) 0 r).2.length/\K ⟨lvl,ptd d (impv imp lvl (keyOf d) 0 r).1 env,addO (keyOf d) (impv imp lvl (keyOf d) 0 r).2 (ptO key o loc),out⟩):kcy C fid imp lvl env loc out d K args :=
 QX (ptO key o loc) out (fun _ _=>rfl) (by rw[ZiL];exact h) hk
theorem Zli{C:Zk}{env:List (Nat×IV)}{loc:List (Nat×Ob)}{out:Sto}{d:Option Nat}{K:St->Prop}{fid:FuncId}{imp:Bool}{lvl:Nat}{args:List IV}{r:IV}(key:Nat)(o:Nat->Ob)(h:∃ v,C fid (lvl+1) args (ZF lvl loc out) r (ZT (ZF lvl loc out) (lvl,key) (o v)))
  (hk:∀ v,freshK (keyOf d) (ptO key (o v) loc) (impv imp lvl (keyOf d) 0 r).2.length/\K ⟨lvl,ptd d (impv imp lvl (keyOf d) 0 r).1 env,addO (keyOf d) (impv imp lvl (keyOf d) 0 r).2 (ptO key (o v) loc),out⟩):kcy C fid imp lvl env loc out d K args:=by
 obtain⟨v,h⟩:=h
 exact ZhK key (o v) h (hk v)
section
variable {α:Type} {e0:α} {lt:α->α->Prop}
def gx(e0:α)(l:List α)(i:Nat):α:=l.getD i e0
theorem Ub{l:List α}{i:Nat}(h:i<l.length):gx e0 l i=l[i]:=by
 unfold gx
 rw[List.getD_eq_getElem?_getD,List.getElem?_eq_getElem h]
 rfl
def ZhL(e0:α)(lt:α->α->Prop)(x:List α)(i:Nat):Prop:=∀ p q,p<q->q<i -> ¬ lt (gx e0 x q) (gx e0 x p)
def Zi6(e0:α)(lt:α->α->Prop)(x:List α)(i j:Nat):Prop:=(∀ p q,p<q->q<=i->p≠j->q≠j -> ¬ lt (gx e0 x q) (gx e0 x p))/\∀ q,j<q->q<=i -> ¬ lt (gx e0 x q) (gx e0 x j)
def Zs3(e0:α)(x:List α)(j:Nat):List α:=(x.set j (gx e0 x (j-1))).set (j-1) (gx e0 x j)
theorem Zlj{y:List α}{a b:Nat}{v:α}(h:a<y.length):gx e0 (y.set a v) b=if a=b then v else gx e0 y b:=by
 show (y.set a v).getD b e0=if a=b then v else y.getD b e0
 rw[List.getD_eq_getElem?_getD,List.getElem?_set,List.getD_eq_getElem?_getD]
 by_cases e:a=b
 ·rw[if_pos e,if_pos e,if_pos (by omega)];rfl
 ·rw[if_neg e,if_neg e]
theorem Zka{y:List α}{i:Nat}(h:Zi6 e0 lt y i 0):ZhL e0 lt y (i+1):=fun p q h1 h2=>by
 by_cases e:p=0
 ·subst e;exact h.2 q h1 (by omega)
 ·exact h.1 p q h1 (by omega) e (by omega)
theorem Zkb(tr:∀ a b c,¬ lt b a -> ¬ lt c b -> ¬ lt c a){y:List α}{i j:Nat}(h:Zi6 e0 lt y i j)(hj:0<j)(hji:j<=i)(hle:¬ lt (gx e0 y j) (gx e0 y (j-1))):ZhL e0 lt y (i+1):=fun p q h1 h2=>by
 by_cases e:p=j
 ·subst e;exact h.2 q h1 (by omega)
 ·by_cases e2:q=j
  ·subst e2
   by_cases e3:p=q-1
   ·subst e3;exact hle
   ·exact tr _ _ _ (h.1 p (q-1) (by omega) (by omega) e (by omega)) hle
  ·exact h.1 p q h1 (by omega) e e2
theorem Zl1(asym:∀ a b,lt a b -> ¬ lt b a){y:List α}{i j:Nat}(h:Zi6 e0 lt y i j)(hj:0<j)(hji:j<=i)(hi:i<y.length)(hlt:lt (gx e0 y j) (gx e0 y (j-1))):Zi6 e0 lt (Zs3 e0 y j) i (j-1):=by
 have e:∀ b,gx e0 (Zs3 e0 y j) b=if j-1=b then gx e0 y j else if j=b then gx e0 y (j-1) else gx e0 y b:=fun b=>by
  unfold Zs3
  rw[Zlj (by rw[List.length_set];omega),Zlj (by omega)]
 refine⟨fun p q h1 h2 h3 h4=>?_,fun q h1 h2=>?_⟩
 ·rw[e p,e q,if_neg (show ¬ j-1=p from fun g=>h3 g.symm),if_neg (show ¬ j-1=q from fun g=>h4 g.symm)]
  by_cases ep:j=p
  ·rw[if_pos ep,if_neg (show ¬ j=q by omega)]
   exact h.1 (j-1) q (by omega) h2 (by omega) (by omega)
  ·rw[if_neg ep]
   by_cases eq:j=q
   ·rw[if_pos eq]
    exact h.1 p (j-1) (by omega) (by omega) (by omega) (by omega)
   ·rw[if_neg eq]
    exact h.1 p q h1 h2 (fun g=>ep g.symm) (fun g=>eq g.symm)
 ·rw[e (j-1),e q,if_pos rfl,if_neg (show ¬ j-1=q by omega)]
  by_cases eq:j=q
  ·rw[if_pos eq];exact asym _ _ hlt
  ·rw[if_neg eq]
   exact h.2 q (by omega) h2
theorem ZnF{y:List α}{j:Nat}(hj:0<j)(hi:j<y.length):(Zs3 e0 y j).Perm y:=by
 have h:=@List.set_set_perm _ y j (j-1) hi (by omega)
 unfold Zs3
 rw[Ub hi,Ub (by omega)]
 exact h
theorem Zen{γ:Type}{c:α->γ}{l:List α}{i:Nat}(h:i<l.length):(l.map c)[i]? = some (c (gx e0 l i)):=by
 rw[Ub h];simp [h]
end
theorem ZhM{α:Type} [DecidableEq α]{e0:α}{l:List α}:∀{n:Nat},n<=l.length->(∀ m,0<m->m<n->gx e0 l m≠gx e0 l (m-1))->cz (gx e0 l) n=l.take n
 | 0,_,_=>by simp [cz]
 | n+1,hn,h=>by
  have ih:=ZhM (n:=n) (by omega) fun m h0 h1=>h m h0 (by omega)
  have hx:cz (gx e0 l) (n+1)=cz (gx e0 l) n++[gx e0 l n]:=by
   rw[cz,if_neg (fun e=>h n (by omega) (by omega) e.2)]
  rw[hx,ih,List.take_succ_eq_append_getElem (by omega)]
  rw[Ub (by omega)]
structure Ords {α:Type} (lt:α->α->Prop):Prop where
 irr:∀ a,¬ lt a a
 tr:∀ a b c,lt a b->lt b c->lt a c
 tri:∀ a b,lt a b\/a=b\/lt b a
theorem Ords.asym{α:Type}{lt:α->α->Prop}(O:Ords lt)(a b:α)(h:lt a b):¬ lt b a:=fun g=>O.irr a (O.tr _ _ _ h g)
section
variable {α:Type} {e0:α} {lt:α->α->Prop}
theorem Zi7(O:Ords lt):∀{x y:List α},x.Pairwise lt->y.Pairwise lt->(∀ c,c∈x↔c∈y)->x=y
 | [],[],_,_,_=>rfl
 | [],b::s,_,_,h=>by have:=(h b).2 (by simp);simp at this
 | a::r,[],_,_,h=>by have:=(h a).1 (by simp);simp at this
 | a::r,b::s,hx,hy,h=>by
  rw[List.pairwise_cons] at hx hy
  have e:a=b:=by
   rcases List.mem_cons.1 ((h a).1 (by simp)) with e | h1
   ·exact e
   ·rcases List.mem_cons.1 ((h b).2 (by simp)) with e | h2
    ·exact e.symm
    ·exact absurd (hy.1 a h1) (O.asym _ _ (hx.1 b h2))
  subst e
  congr 1
  refine Zi7 O hx.2 hy.2 fun c=>⟨fun hc=>?_,fun hc=>?_⟩
  ·rcases List.mem_cons.1 ((h c).1 (by simp [hc])) with e | h1
   ·subst e;exact absurd (hx.1 c hc) (O.irr c)
   ·exact h1
  ·rcases List.mem_cons.1 ((h c).2 (by simp [hc])) with e | h1
   ·subst e;exact absurd (hy.1 c hc) (O.irr c)
   ·exact h1
theorem Zfg(O:Ords lt):∀{x y:List α},x.Pairwise (fun a b=>¬ lt b a)->y.Pairwise (fun a b=>¬ lt b a)->x.Perm y->x=y
 | [],y,_,_,h=>by rw[List.nil_perm.1 h]
 | a::r,[],_,_,h=>by have:=h.length_eq;simp at this
 | a::r,b::s,hx,hy,h=>by
  rw[List.pairwise_cons] at hx hy
  have e:a=b:=by
   rcases List.mem_cons.1 (h.mem_iff.1 (List.mem_cons_self (a:=a) (l:=r))) with e | h1
   ·exact e
   ·rcases List.mem_cons.1 (h.mem_iff.2 (List.mem_cons_self (a:=b) (l:=s))) with e | h2
    ·exact e.symm
    ·rcases O.tri a b with g | g | g
     ·exact absurd g (hy.1 a h1)
     ·exact g
     ·exact absurd g (hx.1 b h2)
  subst e
  congr 1
  exact Zfg O hx.2 hy.2 h.cons_inv
theorem ZpP{x:List α}(h:ZhL e0 lt x x.length):x.Pairwise (fun a b=>¬ lt b a):=List.pairwise_iff_getElem.2 fun i j hi hj hij=>by
 have:=h i j hij hj
 rwa [Ub hi,Ub hj] at this
noncomputable def Zkc(lt:α->α->Prop)(l:List α):List α:=l.mergeSort fun a b=>@decide (¬ lt b a) (Classical.propDecidable _)
theorem srtG_perm{l:List α}:(Zkc lt l).Perm l:=List.mergeSort_perm ..
theorem Zfh(O:Ords lt){l:List α}:(Zkc lt l).Pairwise (fun a b=>¬ lt b a):=by
 classical
 have h:=List.pairwise_mergeSort (le:=fun a b=>@decide (¬ lt b a) (Classical.propDecidable _)) (fun a b c h1 h2=>by
  simp only[decide_eq_true_eq] at *
  intro g
  rcases O.tri a b with k | k | k
  ·exact h2 (O.tr _ _ _ g k)
  ·subst k;exact h2 g
  ·exact h1 k) (fun a b=>by
  simp only[Bool.or_eq_true,decide_eq_true_eq]
  by_cases g:lt b a
  ·exact .inr (O.asym _ _ g)
  ·exact .inl g) l
 exact h.imp (fun h=>by simpa using h)
theorem ZpQ(O:Ords lt){l x:List α}(hp:x.Perm l)(hu:ZhL e0 lt x l.length):x=Zkc lt l:=by
 rw[<-hp.length_eq] at hu
 exact Zfg O (ZpP hu) (Zfh O) (hp.trans srtG_perm.symm)
theorem cz_mem[DecidableEq α]{g:Nat->α}{c:α}:∀{n:Nat},c∈cz g n↔∃ i,i<n/\g i=c
 | 0=>by simp [cz]
 | n+1=>by
  rw[cz,List.mem_append,cz_mem (n:=n)]
  constructor
  ·rintro(⟨i,h1,h2⟩ | h)
   ·exact⟨i,by omega,h2⟩
   ·split at h
    ·cases h
    ·exact⟨n,by omega,(List.mem_singleton.1 h).symm⟩
  ·rintro⟨i,h1,h2⟩
   by_cases e:i=n
   ·subst e
    by_cases k:i≠0/\g i=g (i-1)
    ·exact .inl ⟨i-1,by omega,k.2.symm.trans h2⟩
    ·rw[if_neg k];exact .inr (by simp [h2])
   ·exact .inl ⟨i,by omega,h2⟩
theorem ZvU(O:Ords lt) [DecidableEq α]{g:Nat->α}:∀{n:Nat},(∀ i j,i<j->j<n -> ¬ lt (g j) (g i))->(cz g n).Pairwise lt
 | 0,_=>by simp [cz]
 | n+1,h=>by
  have ih:=ZvU O (n:=n) fun i j h1 h2=>h i j h1 (by omega)
  by_cases k:n≠0/\g n=g (n-1)
  ·rw[Zsy k.1 k.2];exact ih
  ·have hx:cz g (n+1)=cz g n++[g n]:=by rw[cz,if_neg k]
   rw[hx,List.pairwise_append]
   refine⟨ih,by simp,fun c hc d hd=>?_⟩
   rw[List.mem_singleton] at hd
   subst hd
   obtain⟨i,h1,rfl⟩:=cz_mem.1 hc
   have hn0:n≠0:=by omega
   rcases O.tri (g i) (g n) with e | e | e
   ·exact e
   ·exfalso
    have e1:¬ lt (g n) (g (n-1)):=h (n-1) n (by omega) (by omega)
    have e2:¬ lt (g (n-1)) (g i):=by
     by_cases q:i=n-1
     ·subst q;exact O.irr _
     ·exact h i (n-1) (by omega) (by omega)
    rw[e] at e2
    rcases O.tri (g n) (g (n-1)) with q | q | q
    ·exact e1 q
    ·exact k ⟨hn0,q⟩
    ·exact e2 q
   ·exact absurd e (h i n h1 (by omega))
noncomputable def Zs4[DecidableEq α](e0:α)(lt:α->α->Prop)(l:List α):List α:=cz (gx e0 (Zkc lt l)) (Zkc lt l).length
theorem ZnG(O:Ords lt) [DecidableEq α]{l:List α}:(Zs4 e0 lt l).Pairwise lt:=ZvU O fun i j h1 h2=>by
 rw[Ub h2,Ub (Nat.lt_trans h1 h2)]
 exact List.pairwise_iff_getElem.1 (Zfh O) i j _ _ h1
theorem setG_mem[DecidableEq α]{l:List α}{c:α}:c∈Zs4 e0 lt l↔c∈l:=by
 unfold Zs4
 rw[cz_mem,<-(srtG_perm (lt:=lt) (l:=l)).mem_iff]
 constructor
 ·rintro⟨i,h1,h2⟩
  rw[Ub h1] at h2
  rw[<-h2];exact List.getElem_mem h1
 ·intro h
  obtain⟨i,h1,h2⟩:=List.getElem_of_mem h
  exact⟨i,h1,by rw[Ub h1];exact h2⟩
theorem ZhN(O:Ords lt) [DecidableEq α]{l y:List α}(hy:y.Pairwise lt)(h:∀ c,c∈l↔c∈y):Zs4 e0 lt l=y:=Zi7 O (ZnG O) hy fun c=>setG_mem.trans (h c)
theorem ZnH[DecidableEq α]{l:List α}:(Zs4 e0 lt l).length<=l.length:=Nat.le_trans (ZvS _ _) (Nat.le_of_eq srtG_perm.length_eq)
end
end Go.Fd

namespace Go.Fd
set_option maxRecDepth 20000
abbrev e0S:ByteArray:=⟨#[]⟩
abbrev gS(l:List ByteArray)(i:Nat):ByteArray:=gx e0S l i
theorem bl_irr:∀(x:List UInt8),Op.bytesLess x x=false
 | []=>rfl
 | a::x=>by
  have e:¬ a<a:=UInt8.lt_irrefl a
  simp [Op.bytesLess,e,bl_irr x]
theorem Zlk:∀(x y z:List UInt8),Op.bytesLess x y=true->Op.bytesLess y z=true->Op.bytesLess x z=true
 | [],[],_,h,_=>by simp [Op.bytesLess] at h
 | [],_::_,[],_,h=>by simp [Op.bytesLess] at h
 | [],_::_,_::_,_,_=>by simp [Op.bytesLess]
 | _::_,[],_,h,_=>by simp [Op.bytesLess] at h
 | _::_,_::_,[],_,h=>by simp [Op.bytesLess] at h
 | a::x,b::y,c::z,h1,h2=>by
  have ih:=Zlk x y z
  have irr:∀ a:UInt8,¬ a<a:=UInt8.lt_irrefl
  simp only[Op.bytesLess] at h1 h2 ⊢
  by_cases e1:a=b
  ·subst e1
   simp only[irr,decide_false,Bool.false_or,beq_self_eq_true,Bool.true_and] at h1
   by_cases e2:a=c
   ·subst e2
    simp [irr] at h1 h2 ⊢
    exact ih h1 h2
   ·by_cases l2:a<c
    ·simp [l2]
    ·simp [l2,e2] at h2
  ·by_cases l1:a<b
   ·by_cases e2:b=c
    ·subst e2;simp [l1]
    ·by_cases l2:b<c
     ·simp [UInt8.lt_trans l1 l2]
     ·simp [l2,e2] at h2
   ·simp [l1,e1] at h1
theorem ordsS:Ords ltS:=by
 refine⟨fun a h=>?_,fun a b c=>Zlk _ _ _,fun a b=>?_⟩
 ·unfold ltS at h
  rw[bl_irr] at h
  cases h
 ·have h:=ZnD a.data.toList b.data.toList
  unfold ltS
  cases h1:Op.bytesLess a.data.toList b.data.toList with
  | true=>exact .inl rfl
  | false =>
   rw[h1] at h
   cases h2:Op.bytesLess b.data.toList a.data.toList with
   | true=>exact .inr (.inr rfl)
   | false =>
    rw[h2] at h
    refine .inr (.inl ?_)
    have:a.data.toList=b.data.toList:=by simpa using h
    cases a with | mk a=>cases b with | mk b=>exact congrArg ByteArray.mk (Array.toList_inj.1 this)
theorem ZpR(a b:ByteArray)(h:ltS a b):¬ ltS b a:=ordsS.asym a b h
theorem ltS_tr(a b c:ByteArray)(h1:¬ ltS b a)(h2:¬ ltS c b):¬ ltS c a:=fun h=>by
 rcases ordsS.tri b c with g | g | g
 ·exact h1 (ordsS.tr _ _ _ g h)
 ·subst g;exact h1 h
 ·exact h2 g
theorem ZpS{y:List ByteArray}{j:Nat}{v:ByteArray}(h:j<y.length):YK (rS y) [] j 0 (.v (.string v))=rS (y.set j v):=by
 simp only[YK]
 rw[Zen (e0:=e0S) (c:=fun n:ByteArray=>[ts n]) h]
 exact(List.map_set (f:=fun n:ByteArray=>[ts n]) (l:=y) (i:=j) (a:=v)).symm
theorem Zl2(a:ByteArray)(lvl:Nat)(S:Sto):Sem Go.Proofs.Tryz.prog YB lvl [iS a] S (iB false) S:=by
 refine Zb Zcv trivial ?_
 simp only[Un,EVA,seval]
theorem ZnI(a b:ByteArray)(lvl:Nat)(S:Sto):Sem Go.Proofs.Tryz.prog YS lvl [iS a,iS b] S (iB (dc (ltS a b))) S:=by
 refine Zb Zdf trivial ?_
 simp only[UW,EVA,seval,Zj,men]
 refine Za (Zl2 a) ?_
 simp only[EVA,seval]
 have:Op.bytesLess a.data.toList b.data.toList=dc (ltS a b):=by
  unfold ltS
  rw[Xn,Bool.decide_eq_true]
 rw[this]
theorem ZpT(l:List ByteArray)(hl:l.length<=12)(lvl:Nat)(S:Sto)(id:Oid)(u:Bool)(hw ver:Nat)(hid:id.1<lvl)(hS:S id=some (.ar 1 (rS l) u hw ver))(srt:List ByteArray)(hsrt:∀ x:List ByteArray,x.Perm l->ZhL e0S ltS x l.length->x=srt) :
  Sem Go.Proofs.Tryz.prog Z8 lvl [.hd id [] 0 l.length none hw,iI 0,iI l.length] S (.tu []) (ZT S id (.ar 1 (rS srt) u hw ver)):=by
 have hne:id.1≠lvl:=by omega
 refine Zb Qe trivial ?_
 simp only[JV,EVA,seval]
 refine⟨by rw[Zd];omega,?_⟩
 refine Z3 (α:=List ByteArray) l.length (fun k x=>⟨lvl,[(0,.hd id [] 0 l.length none hw),(1,iI 0),(2,iI l.length),(6,iI ((k+1:Nat):Int))],[],ZT S id (.ar 1 (rS x) u hw ver)⟩) (fun k x=>x.Perm l/\ZhL e0S ltS x (k+1)) l ⟨by simp only[Yj hne,EVA,seval],by (simp only[QY hS,EVA,seval]) <;> rfl⟩ ⟨List.Perm.refl _,fun p q h1 h2=>by omega⟩ ?_
 intro k x hk ⟨hA1,hA2⟩
 have hxl:x.length=l.length:=hA1.length_eq
 simp only[EVA,seval]
 refine Zn (fun hlt=>?_) (fun hge=>?_)
 ·have hk1:k+1<l.length:=by omega
  refine Z3 (α:=List ByteArray) (k+1) (fun m y=>⟨lvl,[(0,.hd id [] 0 l.length none hw),(1,iI 0),(2,iI l.length),(6,iI ((k+1:Nat):Int)),(7,iI ((k+1-m:Nat):Int))],[],ZT S id (.ar 1 (rS y) u hw ver)⟩) (fun m y=>y.Perm l/\Zi6 e0S ltS y (k+1) (k+1-m)) x ⟨by simp only[Yj hne,EVA,seval],by (simp only[EVA,seval]) <;> rfl⟩ ⟨hA1,fun p q h1 h2 h3 h4=>hA2 p q h1 (by omega),fun q h1 h2=>by omega⟩ ?_
  intro m y hm ⟨hB1,hB2⟩
  have hyl:y.length=l.length:=hB1.length_eq
  generalize hj:k+1-m=j at hB2 ⊢
  by_cases hj0:j=0
  ·subst hj0
   simp only[EVA,seval,men]
   exact⟨by rw[Zd];omega,fun h=>absurd h hne,Ze y (by omega) rfl ⟨hB1,Zka hB2⟩⟩
  ·have g1:(0:Int)<j:=by omega
   have e1:((j:Int)-1)=((j-1:Nat):Int):=by omega
   have gj:=Zen (e0:=e0S) (c:=fun n:ByteArray=>[ts n]) (l:=y) (i:=j) (by omega)
   have gj1:=Zen (e0:=e0S) (c:=fun n:ByteArray=>[ts n]) (l:=y) (i:=j-1) (by omega)
   have l1:j<l.length:=by omega
   have l2:j-1<l.length:=by omega
   simp only[g1,Jp hne,QH,e1,gj,gj1,l1,l2,Nat.zero_add,EVA,seval,Zj,men]
   refine⟨by rw[Zd];omega,Za (ZnI (gS y j) (gS y (j-1))) ?_⟩
   by_cases hlt2:ltS (gS y j) (gS y (j-1))
   ·rw[ZL hlt2]
    have s1:=ZpS (y:=y) (j:=j) (v:=gS y (j-1)) (by omega)
    have s2:=ZpS (y:=y.set j (gS y (j-1))) (j:=j-1) (v:=gS y j) (by rw[List.length_set];omega)
    have gj2:=Zen (e0:=e0S) (c:=fun n:ByteArray=>[ts n]) (l:=y.set j (gS y (j-1))) (i:=j-1) (by rw[List.length_set];omega)
    simp only[Jp hne,QW hne,YC,QH,Yj hne,e1,gj,gj1,gj2,s1,s2,l1,l2,Nat.zero_add,EVA,seval]
    subst hj
    refine⟨by rw[Zd];omega,by rw[Zd];omega,by rw[Zd];omega,Ze (Zs3 e0S y (k+1-m)) (by omega) (by rw[show k+1-(m+1)=k+1-m-1 from by omega];rfl) ⟨(ZnF (by omega) (by omega)).trans hB1,?_⟩⟩
    rw[show k+1-(m+1)=k+1-m-1 from by omega]
    exact Zl1 ZpR hB2 (by omega) (by omega) (by omega) hlt2
   ·rw[Zg hlt2]
    simp only[EVA,seval,men]
    exact⟨by rw[Zd];omega,fun h=>absurd h hne,Ze y (by omega) rfl ⟨hB1,Zkb ltS_tr hB2 (by omega) (by omega) hlt2⟩⟩
 ·have:k+1=l.length\/k=l.length:=by omega
  have hup:ZhL e0S ltS x l.length:=fun p q h1 h2=>hA2 p q h1 (by omega)
  have hx:=hsrt x hA1 hup
  rw[hx]
theorem ZpU(l:List ByteArray)(hl:l.length<=12)(r:Int)(lvl:Nat)(S:Sto)(id:Oid)(u:Bool)(hw ver:Nat)(hid:id.1<lvl)(hS:S id=some (.ar 1 (rS l) u hw ver))(srt:List ByteArray)(hsrt:∀ x:List ByteArray,x.Perm l->ZhL e0S ltS x l.length->x=srt) :
  Sem Go.Proofs.Tryz.prog ZO lvl [.hd id [] 0 l.length none hw,iI 0,iI l.length,iI r] S (.tu []) (ZT S id (.ar 1 (rS srt) u hw ver)):=by
 have hne:id.1≠lvl:=by omega
 refine Zb X0 trivial ?_
 simp only[YM,EVA,seval]
 refine Z3 (α:=Unit) 0 (fun _ _=>⟨lvl,[(0,.hd id [] 0 l.length none hw),(1,iI 0),(2,iI l.length),(3,iI r),(8,iB true),(9,iB true)],[],S⟩) (fun _ _=>True) () ⟨by simp only[Yj hne,EVA,seval],by (simp only[EVA,seval]) <;> rfl⟩ trivial ?_
 intro _ _ _ _
 have h12:(l.length:Int)-0<=12:=by omega
 simp only[h12,EVA,seval]
 refine⟨by rw[Zd];omega,?_⟩
 simp only[Zig]
 refine QX [] (ZT S id (.ar 1 (rS srt) u hw ver)) (fun i hi=>by unfold ZT;rw[if_neg (fun e=>hne (by rw[<-e];exact hi))]) (by
  rw[Wz hne]
  exact ZpT l hl (lvl+1) (ZF lvl [] S) id u hw ver (by omega) (by rw[Jp hne];exact hS) srt hsrt) ?_
 simp only[EVA,seval]
theorem ZnJ{v:Int}(h0:0<=v)(h:v<=12):∃ r:Int,∀(lvl:Nat)(S:Sto),Sem Go.Proofs.Tryz.prog Qz lvl [.tr (.v (.int .u64 v))] S (iI r) S:=by
 have:v=0\/v=1\/v=2\/v=3\/v=4\/v=5\/v=6\/v=7\/v=8\/v=9\/v=10\/v=11\/v=12:=by omega
 rcases this with rfl | rfl | rfl | rfl | rfl | rfl | rfl | rfl | rfl | rfl | rfl | rfl | rfl
 ·refine⟨0,fun lvl S=>Zb ZD trivial ?_⟩
  simp only[Zx,EVA,seval]
  simp [Xt,IntKind.min,IntKind.max,IntKind.signed,IntKind.bits]
 ·refine⟨1,fun lvl S=>Zb ZD trivial ?_⟩
  simp only[Zx,EVA,seval]
  simp [Xt,IntKind.min,IntKind.max,IntKind.signed,IntKind.bits]
 ·refine⟨2,fun lvl S=>Zb ZD trivial ?_⟩
  simp only[Zx,EVA,seval]
  simp [Xt,IntKind.min,IntKind.max,IntKind.signed,IntKind.bits]
 ·refine⟨2,fun lvl S=>Zb ZD trivial ?_⟩
  simp only[Zx,EVA,seval]
  simp [Xt,IntKind.min,IntKind.max,IntKind.signed,IntKind.bits]
 ·refine⟨3,fun lvl S=>Zb ZD trivial ?_⟩
  simp only[Zx,EVA,seval]
  simp [Xt,IntKind.min,IntKind.max,IntKind.signed,IntKind.bits]
 ·refine⟨3,fun lvl S=>Zb ZD trivial ?_⟩
  simp only[Zx,EVA,seval]
  simp [Xt,IntKind.min,IntKind.max,IntKind.signed,IntKind.bits]
 ·refine⟨3,fun lvl S=>Zb ZD trivial ?_⟩
  simp only[Zx,EVA,seval]
  simp [Xt,IntKind.min,IntKind.max,IntKind.signed,IntKind.bits]
 ·refine⟨3,fun lvl S=>Zb ZD trivial ?_⟩
  simp only[Zx,EVA,seval]
  simp [Xt,IntKind.min,IntKind.max,IntKind.signed,IntKind.bits]
 ·refine⟨4,fun lvl S=>Zb ZD trivial ?_⟩
  simp only[Zx,EVA,seval]
  simp [Xt,IntKind.min,IntKind.max,IntKind.signed,IntKind.bits]
 ·refine⟨4,fun lvl S=>Zb ZD trivial ?_⟩
  simp only[Zx,EVA,seval]
  simp [Xt,IntKind.min,IntKind.max,IntKind.signed,IntKind.bits]
 ·refine⟨4,fun lvl S=>Zb ZD trivial ?_⟩
  simp only[Zx,EVA,seval]
  simp [Xt,IntKind.min,IntKind.max,IntKind.signed,IntKind.bits]
 ·refine⟨4,fun lvl S=>Zb ZD trivial ?_⟩
  simp only[Zx,EVA,seval]
  simp [Xt,IntKind.min,IntKind.max,IntKind.signed,IntKind.bits]
 ·refine⟨4,fun lvl S=>Zb ZD trivial ?_⟩
  simp only[Zx,EVA,seval]
  simp [Xt,IntKind.min,IntKind.max,IntKind.signed,IntKind.bits]
theorem Zkd{v:Int}(h0:0<=v)(h:v<=12):∃ r:Int,∀(lvl:Nat)(S:Sto),Sem Go.Proofs.Tryz.prog YD lvl [.tr (.v (.int .u64 v))] S (iI r) S:=by
 obtain⟨r,hr⟩:=ZnJ h0 h
 refine⟨r,fun lvl S=>Zb Ze1 trivial ?_⟩
 simp only[Zaj,EVA,seval,Zj,men]
 refine Za hr ?_
 simp only[EVA,seval]
theorem ZnK(l:List ByteArray)(hl:l.length<=12)(lvl:Nat)(S:Sto)(id:Oid)(u:Bool)(hw ver:Nat)(hid:id.1<lvl)(hS:S id=some (.ar 1 (rS l) u hw ver))(srt:List ByteArray)(hsrt:∀ x:List ByteArray,x.Perm l->ZhL e0S ltS x l.length->x=srt) :
  Sem Go.Proofs.Tryz.prog ZV lvl [.hd id [] 0 l.length none hw] S (.tu []) (ZT S id (.ar 1 (rS srt) u hw ver)):=by
 have hne:id.1≠lvl:=by omega
 obtain⟨r,hr⟩:=Zkd (v:=(l.length:Int)) (by omega) (by omega)
 refine Zb WZ trivial ?_
 simp only[Vr,EVA,seval,Zj,men]
 refine⟨⟨by show (0:Int)<=l.length;omega,by show (l.length:Int)<=18446744073709551615;omega⟩,Za hr ?_⟩
 simp only[EVA,seval]
 refine QX [] (ZT S id (.ar 1 (rS srt) u hw ver)) (fun i hi=>by unfold ZT;rw[if_neg (fun e=>hne (by rw[<-e];exact hi))]) (by
  rw[Wz hne]
  exact ZpU l hl r (lvl+1) (ZF lvl [] S) id u hw ver (by omega) (by rw[Jp hne];exact hS) srt hsrt) ?_
 simp only[EVA,seval]
theorem Zi8(l:List ByteArray)(hl:l.length<=4294967290)(lvl:Nat)(S:Sto)(id:Oid)(u:Bool)(hw ver:Nat)(hid:id.1<lvl)(hS:S id=some (.ar 1 (rS l) u hw ver)) :
  ∃ v2,Sem Go.Proofs.Tryz.prog Jw lvl [.hd id [] 0 l.length none hw] S (.hd id [] 0 (cz (gS l) l.length).length none hw) (ZT S id (.ar 1 (rS (cz (gS l) l.length)) u hw v2)):=by
 have hne:id.1≠lvl:=by omega
 by_cases hd:∀ m,0<m->m<l.length->gS l m≠gS l (m-1)
 ·refine⟨ver,?_⟩
  rw[ZhM (Nat.le_refl _) hd,List.take_length,QY hS]
  refine Zb YL hid ?_
  simp only[JF,EVA,seval]
  by_cases h2:(l.length:Int)<2
  ·rw[if_pos h2]
   simp only[ZeQ hne,EVA,seval]
  rw[if_neg h2]
  refine Z3 (α:=Unit) l.length (fun k _=>⟨lvl,[(0,.hd id [] 0 l.length none hw),(3,iI ((k+1:Nat):Int))],[],S⟩) (fun k _=>k+1<=l.length) () ⟨by simp only[Yj hne,EVA,seval],by (simp only[EVA,seval]) <;> rfl⟩ (by omega) ?_
  intro k _ hk hA
  simp only[EVA,seval]
  refine Zn (fun hlt=>?_) (fun hge=>?_)
  ·have gj:=Zen (e0:=e0S) (c:=fun n:ByteArray=>[ts n]) (l:=l) (i:=k+1) (by omega)
   have gj1:=Zen (e0:=e0S) (c:=fun n:ByteArray=>[ts n]) (l:=l) (i:=k) (by omega)
   have l1:k+1<l.length:=by omega
   have l2:k<l.length:=by omega
   have hx:=hd (k+1) (by omega) l1
   rw[Nat.add_sub_cancel] at hx
   have e1:(((k+1:Nat):Int)-1)=(k:Int):=by omega
   simp only[Jp hne,hS,e1,gj,gj1,l1,l2,hx,Nat.zero_add,Yj hne,EVA,seval]
   exact⟨by rw[Zd];omega,by rw[Zd];omega,Ze () (by omega) rfl (by omega)⟩
  ·simp only[ZeQ hne,EVA,seval]
 ·refine⟨ver+1,?_⟩
  refine Zb YL hid ?_
  simp only[JF,EVA,seval]
  by_cases h2:(l.length:Int)<2
  ·exact absurd (fun m h0 h1=>by omega) hd
  rw[if_neg h2]
  refine Z3 (α:=Unit) l.length (fun k _=>⟨lvl,[(0,.hd id [] 0 l.length none hw),(3,iI ((k+1:Nat):Int))],[],S⟩) (fun k _=>k+1<=l.length/\∀ m,0<m->m<k+1->gS l m≠gS l (m-1)) () ⟨by simp only[Yj hne,EVA,seval],by (simp only[EVA,seval]) <;> rfl⟩ ⟨by omega,fun m h0 h1=>by omega⟩ ?_
  intro k _ hk ⟨hA,hB⟩
  simp only[EVA,seval]
  refine Zn (fun hlt=>?_) (fun hge=>?_)
  ·have gj:=Zen (e0:=e0S) (c:=fun n:ByteArray=>[ts n]) (l:=l) (i:=k+1) (by omega)
   have gj1:=Zen (e0:=e0S) (c:=fun n:ByteArray=>[ts n]) (l:=l) (i:=k) (by omega)
   have l1:k+1<l.length:=by omega
   have l2:k<l.length:=by omega
   have e1:(((k+1:Nat):Int)-1)=(k:Int):=by omega
   by_cases hx:gS l (k+1)=gS l k
   ·have hc1:=ZhM (l:=l) (n:=k+1) (by omega) hB
    have hc2:cz (gS l) (k+1+1)=cz (gS l) (k+1):=Zsy (by omega) (by rw[Nat.add_sub_cancel];exact hx)
    simp only[Jp hne,hS,e1,gj,gj1,l1,l2,hx,Nat.zero_add,EVA,seval]
    refine⟨by rw[Zd];omega,by omega,ZvT hne hS,?_⟩
    refine Z3 (α:=Nat×List ByteArray) l.length (fun m x=>⟨lvl,[(0,.hd id [] 0 l.length none hw),(3,iI (x.1:Int)),(4,.hd id [] (k+1) (l.length-(k+1)) none hw),(5,iI ((m+1:Nat):Int))],[],ZT S id (.ar 1 (rS x.2) u hw ver)⟩) (fun m x=>k+1+m+1<=l.length/\x.2.length=l.length/\x.1=(cz (gS l) (k+1+m+1)).length/\x.2.take x.1=cz (gS l) (k+1+m+1)/\x.1<=k+1+m/\∀ q,k+1+m<=q->gS x.2 q=gS l q) (k+1,l) ⟨by simp only[Yj hne,EVA,seval],by (simp only[QY hS,EVA,seval]) <;> rfl⟩ ⟨by omega,rfl,by rw[Nat.add_zero,hc2,hc1,List.length_take];omega,by rw[Nat.add_zero,hc2,hc1],by omega,fun _ _=>rfl⟩ ?_
    intro m ⟨i,y⟩ hm ⟨hm1,hy,hi,ht,hle,hq⟩
    dsimp only at hy hi ht hle hq
    simp only[EVA,seval]
    refine Zn (fun hlt2=>?_) (fun hge2=>?_)
    ·have b1:k+1+(m+1)<l.length:=by omega
     have b2:m+1<l.length-(k+1):=by omega
     have b3:m<l.length-(k+1):=by omega
     have gy:=Zen (e0:=e0S) (c:=fun n:ByteArray=>[ts n]) (l:=y) (i:=k+1+(m+1)) (by omega)
     have gy1:=Zen (e0:=e0S) (c:=fun n:ByteArray=>[ts n]) (l:=y) (i:=k+1+m) (by omega)
     have q1:=hq (k+1+(m+1)) (by omega)
     have q2:=hq (k+1+m) (by omega)
     have e2:(((m+1:Nat):Int)-1)=(m:Int):=by omega
     have b4:i<l.length:=by omega
     by_cases hx2:gS l (k+1+(m+1))=gS l (k+1+m)
     ·have hc3:cz (gS l) (k+1+(m+1)+1)=cz (gS l) (k+1+m+1):=Zsy (by omega) hx2
      simp only[Jp hne,QH,e2,gy,gy1,q1,q2,b2,b3,hx2,Yj hne,EVA,seval]
      exact⟨by rw[Zd];omega,by rw[Zd];omega,Ze (i,y) (by omega) rfl ⟨by omega,hy,by rw[show k+1+(m+1)+1=k+1+(m+1)+1 from rfl,hc3];exact hi,by rw[hc3];exact ht,by show i<=k+1+(m+1);omega,fun q hqq=>hq q (by omega)⟩⟩
     ·have hc3:cz (gS l) (k+1+(m+1)+1)=cz (gS l) (k+1+m+1)++[gS l (k+1+(m+1))]:=ZAo hx2
      have s1:=ZpS (y:=y) (j:=i) (v:=gS l (k+1+(m+1))) (by omega)
      have gy0:=Zen (e0:=e0S) (c:=fun n:ByteArray=>[ts n]) (l:=y) (i:=i) (by omega)
      simp only[Jp hne,QW hne,YC,QH,e2,gy,gy0,gy1,q1,q2,b2,b3,b4,hx2,s1,Nat.zero_add,Yj hne,EVA,seval]
      exact⟨by rw[Zd];omega,by rw[Zd];omega,by rw[Zd];omega,Ze (i+1,y.set i (gS l (k+1+(m+1)))) (by omega) rfl ⟨by omega,by rw[List.length_set];exact hy,by rw[hc3,List.length_append,<-hi];rfl,by rw[Zcx (by omega),ht,hc3],by show i+1<=k+1+(m+1);omega,fun q hqq=>by
       show gx e0S (y.set i (gS l (k+1+(m+1)))) q=_
       rw[Zlj (by omega),if_neg (by omega)]
       exact hq q (by omega)⟩⟩
    ·have en:k+1+m+1=l.length:=by omega
     rw[en] at hi ht
     refine⟨by omega,ZvT hne (QH ..),?_⟩
     have tk:(rS y).take i=rS (cz (gS l) l.length):=by rw[<-ht];exact(List.map_take ..).symm
     simp only[Jp hne,QW hne,YC,QH,tk,List.length_map,hy,EVA,seval]
     refine⟨by omega,by omega,by omega,by omega,ZvT hne (QH ..),?_⟩
     simp only[ZeQ hne,Nat.sub_zero,hi,EVA,seval]
   ·simp only[Jp hne,hS,e1,gj,gj1,l1,l2,hx,Nat.zero_add,Yj hne,EVA,seval]
    exact⟨by rw[Zd];omega,by rw[Zd];omega,Ze () (by omega) rfl ⟨by omega,fun m h0 h1=>by
     by_cases e:m=k+1
     ·subst e;exact hx
     ·exact hB m h0 (by omega)⟩⟩
  ·exact absurd (fun m h0 h1=>hB m h0 (by omega)) hd
end Go.Fd

namespace Go.Fd
set_option maxRecDepth 20000
theorem ZvV:∀(x y:List UInt8),x<y↔Op.bytesLess x y=true
 | [],[]=>by simp [Op.bytesLess]
 | [],_::_=>by simp [Op.bytesLess]
 | _::_,[]=>by simp [Op.bytesLess]
 | a::x,b::y=>by
  rw[List.cons_lt_cons_iff,ZvV x y]
  simp [Op.bytesLess]
abbrev bsL(s:ByteArray):List UInt8:=s.data.toList
abbrev lbS(l:List UInt8):ByteArray:=⟨l.toArray⟩
theorem ZvW{s:ByteArray}:lbS (bsL s)=s:=by simp [lbS,bsL]
theorem ZqR{l:List ByteArray}:ZoU Go.Proofs.encStr (l.map bsL)=rS l:=by
 simp only[ZoU,List.map_map]
 refine List.map_congr_left fun s _=>?_
 show [Tr.v (Value.string (lbS (bsL s)))]=_
 rw[ZvW]
theorem ZvX(l:List ByteArray):(l.map bsL).mergeSort (fun x y=>decide (x<=y))=(Zkc ltS l).map bsL:=by
 have e1:((l.map bsL).mergeSort (fun x y=>decide (x<=y))).map lbS=Zkc ltS l:=by
  refine Zfg ordsS ?_ (Zfh ordsS) (List.Perm.trans ?_ srtG_perm.symm)
  ·rw[List.pairwise_map]
   have h:=List.pairwise_mergeSort (le:=fun x y:List UInt8=>decide (x<=y)) (fun a b c h1 h2=>by simp only[decide_eq_true_eq] at *;exact List.le_trans h1 h2) (fun a b=>by simp only[Bool.or_eq_true,decide_eq_true_eq];exact List.le_total a b) (l.map bsL)
   refine h.imp fun {x y} h=>?_
   simp only[decide_eq_true_eq] at h
   intro hlt
   exact h ((ZvV y x).2 hlt)
  ·have h:=(List.mergeSort_perm (l.map bsL) (fun x y=>decide (x<=y))).map lbS
   rw[List.map_map] at h
   have:l.map (lbS ∘ bsL)=l:=by
    rw[show (lbS ∘ bsL)=id from funext fun s=>ZvW]
    exact List.map_id l
   rwa [this] at h
 rw[<-e1,List.map_map]
 rw[show (bsL ∘ lbS)=id from funext fun s=>by simp [bsL]]
 exact(List.map_id _).symm
theorem ZhO(l:List ByteArray)(hl:l.length<=4294967296)(lvl:Nat)(S:Sto)(id:Oid)(u:Bool)(hw ver:Nat)(hid:id.1<lvl)(hS:S id=some (.ar 1 (rS l) u hw ver)) :
  Sem Go.Proofs.Tryz.prog ZV lvl [.hd id [] 0 l.length none hw] S (.tu []) (ZT S id (.ar 1 (rS (Zkc ltS l)) u hw ver)):=by
 by_cases hs:l.length<=12
 ·exact ZnK l hs lvl S id u hw ver hid hS _ fun x hp hu=>ZpQ ordsS hp hu
 ·have h:=ZiN (P:=Go.Proofs.Tryz.prog) (f:=ZV) (lvl:=lvl) (S:=S) (id:=id) (xs:=l.map bsL) (ys:=(Zkc ltS l).map bsL) (enc:=Go.Proofs.encStr) (u:=u) (hw:=hw) (ver:=ver) (ZhI (by kernel_rfl)) hid (by rw[ZqR];exact hS) (fun _=>rfl) (by rw[List.length_map,List.length_map,srtG_perm.length_eq])
   (fun h=>absurd (congrArg List.length h) (by rw[List.length_map];show ¬ l.length=0;omega))
   (fun _ b cap w hH hb=>by
    have:=Go.Proofs.Any.slices_Sort_string Go.Proofs.Tryz.lays190 b 0 cap (l.map bsL) w hH hb (by rw[List.length_map];omega)
    rw[ZvX] at this
    exact this)
  rw[ZqR,List.length_map] at h
  exact h
end Go.Fd

namespace Go.Fd
set_option maxRecDepth 20000
def ZAp(l:Int)(i:Nat)(ls:List Int):Nat->List (Int×Int)
 | 0=>[]
 | k+1=>if g0 ls k=l then ZAp l i ls k++[((i:Int),(k:Int))] else ZAp l i ls k
def ZnL(b:TBigraph)(j:Nat):List Int:=((b.nodes[j]?).map TNode.links).getD []
def ZqS(b:TBigraph)(l:Int):Nat->List (Int×Int)
 | 0=>[]
 | i+1=>ZqS b l i++ZAp l i (ZnL b i) (ZnL b i).length
def ports(b:TBigraph)(l:Int):List (Int×Int):=ZqS b l b.nodes.length
def ZCi(b:TBigraph)(j:Nat):Int:=((b.inner[j]?).map TWire.link).getD 0
def ZCj(b:TBigraph)(j:Nat):ByteArray:=((b.inner[j]?).map TWire.name).getD ⟨#[]⟩
def Zsz(b:TBigraph)(l:Int):Nat->List ByteArray
 | 0=>[]
 | j+1=>if ZCi b j=l then Zsz b l j++[ZCj b j] else Zsz b l j
def ZCk(b:TBigraph)(l:Int):List ByteArray:=Zsz b l b.inner.length
end Go.Fd

namespace Go.Fd
set_option maxRecDepth 20000
def idle(b:TBigraph)(l:Int):Prop:=(ports b l).length=0/\(ZCk b l).length=0
structure small (b:TBigraph):Prop where
 nodes:b.nodes.length<=8
 links:∀ x∈b.nodes,x.links.length<=1000
 sites:b.sites.length<=4
 outer:b.outer.length<=16
 inner:b.inner.length<=16
 roots:0<=b.roots/\b.roots<=4
 edges:0<=b.edges/\b.edges<=8
theorem Zl3{sig:List TControl}(h:YJ sig)(c:Int):YT sig c<=3:=by
 unfold YT
 cases e:sig[c.toNat]? with
 | none=>decide
 | some x =>
  obtain⟨hl,rfl⟩:=List.getElem?_eq_some_iff.1 e
  exact((h.1 _ hl).1).2.1.2
theorem bigOK.small{sig:List TControl}{b:TBigraph}(h:bigOK sig b):small b :=
 ⟨h.nodesL,fun x hx=>by
  obtain⟨k,hk,rfl⟩:=List.getElem_of_mem hx
  have h1:=(h.nodes k hk).ports
  have h2:=Zl3 h.sg b.nodes[k].control
  omega,h.sitesL,h.outer.2,by have:=h.inn.2;rw[Zdi] at this;exact this,h.roots,h.edges⟩
end Go.Fd

namespace Go.Fd
set_option maxRecDepth 20000
def Wn(n:Nat):List Int:=(List.range n).map fun i:Nat=>(i:Int)
theorem YU{n:Nat}:(Wn n).length=n:=by simp [Wn]
theorem Yb{es:Row}{n:Nat}(h:es.length=n):cut es 0 n=es:=by
 simp only[cut,List.drop_zero]
 exact List.take_of_length_le (by omega)
end Go.Fd

namespace Go.Fd
set_option maxRecDepth 20000
def Zeo(b:TBigraph)(l:Int):Int×ByteArray:=if l<b.edges then (l,e0S) else (0,gS b.outer (l-b.edges).toNat)
def ixS(l:List ByteArray)(s:ByteArray):Int:=ixF (fun x=>decide (s=x)) l 0
def Zcy(b:TBigraph)(e:Int)(o:List ByteArray)(T:Int×ByteArray->Int×ByteArray)(l:Int):Int:=if (T (Zeo b l)).2=e0S then (T (Zeo b l)).1 else e+ixS o (T (Zeo b l)).2
def UI(b:TBigraph)(F:Int->Int)(e:Int)(o:List ByteArray):TBigraph:=⟨b.roots,b.nodes.map fun x=>⟨x.control,x.parent,x.links.map F⟩,b.sites,e,o,b.inner.map fun w=>⟨w.name,F w.link⟩⟩
theorem ZhP{α:Type}{f:α->Bool}:∀{l:List α}{j:Int},(ixF f l j = -1/\∀ x∈l,f x=false)\/∃ i,∃ h:i<l.length,ixF f l j=j+i/\(∀ x∈l.take i,f x=false)/\f l[i]=true
 | [],j=>.inl ⟨rfl,fun _ h=>by cases h⟩
 | x::r,j=>by
  rw[Wv]
  cases hx:f x with
  | true=>exact .inr ⟨0,by simp,by simp,by simp,hx⟩
  | false =>
   rcases ZhP (f:=f) (l:=r) (j:=j+1) with ⟨h1,h2⟩ | ⟨i,h,h1,h2,h3⟩
   ·exact .inl ⟨by simp [h1],fun y hy=>by
     rcases List.mem_cons.1 hy with rfl | hy
     ·exact hx
     ·exact h2 y hy⟩
   ·refine .inr ⟨i+1,by simpa using h,by simp only[Bool.false_eq_true,if_false,h1];omega,fun y hy=>?_,by simpa using h3⟩
    rw[List.take_succ_cons] at hy
    rcases List.mem_cons.1 hy with rfl | hy
    ·exact hx
    ·exact h2 y hy
theorem Zgy{α:Type}{f:α->Bool}{l:List α}(h:∀ x∈l,f x=false):(l.filter fun n=>!f n)=l:=List.filter_eq_self.2 fun x hx=>by simp [h x hx]
theorem Zfi{α:Type}{f:α->Bool}{l:List α}{j:Nat}(h:j<l.length):((l.take (j+1)).filter fun n=>!f n)=((l.take j).filter fun n=>!f n)++if f l[j]=true then [] else [l[j]]:=by
 rw[List.take_succ_eq_append_getElem h,List.filter_append]
 cases hx:f l[j] <;> simp [hx]
theorem ZqT{α:Type}{f:α->Bool}:∀{l:List α}{i:Nat}{j:Int}(h:i<l.length),f l[i]=true->(∀ k (hk:k<i),f (l[k]'(by omega))=false)->ixF f l j=j+i
 | [],_,_,h,_,_=>by simp at h
 | x::r,0,j,_,h1,_=>by
  have:f x=true:=h1
  rw[Wv,if_pos this];omega
 | x::r,i+1,j,h,h1,h2=>by
  have:f x=false:=h2 0 (by omega)
  rw[Wv,this,if_neg (by decide)]
  rw[ZqT (i:=i) (by simpa using h) (by simpa using h1) fun k hk=>by
   have:=h2 (k+1) (by omega)
   simpa using this]
  omega
theorem Zll{α:Type}{f:α->Bool}:∀{l:List α}{j:Int},(∀ x∈l,f x=false)->ixF f l j = -1
 | [],_,_=>rfl
 | x::r,j,h=>by
  rw[Wv,h x (by simp),if_neg (by decide)]
  exact Zll fun y hy=>h y (by simp [hy])
theorem ZvY{l:List ByteArray}(h:l.Pairwise ltS){i j:Nat}(hi:i<l.length)(hj:j<l.length)(e:l[i]=l[j]):i=j:=by
 rcases Nat.lt_trichotomy i j with g | g | g
 ·have:=List.pairwise_iff_getElem.1 h i j hi hj g
  rw[e] at this
  exact absurd this (ordsS.irr _)
 ·exact g
 ·have:=List.pairwise_iff_getElem.1 h j i hj hi g
  rw[e] at this
  exact absurd this (ordsS.irr _)
theorem ZvZ{l:List ByteArray}(h:l.Pairwise ltS){i:Nat}(hi:i<l.length):ixS l l[i]=i:=by
 unfold ixS
 rw[ZqT hi (by simp) fun k hk=>by
  simp only[decide_eq_false_iff_not]
  intro e
  have:=ZvY h hi (by omega) e
  omega]
 omega
theorem Zlm{l:List ByteArray}{s:ByteArray}(h:s ∉ l):ixS l s = -1:=Zll fun x hx=>by
 simp only[decide_eq_false_iff_not]
 intro e
 exact h (e ▸ hx)
theorem ixS_nn{l:List ByteArray}{s:ByteArray}:0<=ixS l s↔s∈l:=by
 unfold ixS
 rw[ZhH (Int.le_refl 0)]
 simp
theorem Zln{l:List ByteArray}{s:ByteArray}(h:s∈l):ixS l s<l.length:=by
 rcases ZhP (f:=fun x=>decide (s=x)) (l:=l) (j:=0) with ⟨_,h2⟩ | ⟨i,hi,h1,_⟩
 ·have:=h2 s h
  simp at this
 ·unfold ixS
  rw[h1];omega
theorem ZhQ{l:List ByteArray}(h:Vt l):l.Pairwise ltS:=by
 have key:∀ d i (hi:i+d+1<l.length),ltS (l[i]'(by omega)) (l[i+d+1]'hi):=fun d=>by
  induction d with
  | zero =>
   intro i hi
   exact(h.1 (i+0+1) hi).2 (by omega)
  | succ d ih =>
   intro i hi
   have h1:=ih i (by omega)
   have h2:=(h.1 (i+(d+1)+1) hi).2 (by omega)
   exact ordsS.tr _ _ _ h1 h2
 refine List.pairwise_iff_getElem.2 fun i j hi hj hij=>?_
 have:=key (j-i-1) i (by omega)
 simp only[show i+(j-i-1)+1=j from by omega] at this
 exact this
theorem ZaR{l:List ByteArray}(h:Vt l){s:ByteArray}(hs:s∈l):s≠e0S:=by
 obtain⟨i,hi,rfl⟩:=List.getElem_of_mem hs
 intro e
 have:=(h.1 i hi).1.2.1
 rw[e] at this
 exact absurd this (by decide)
theorem Zgz{b:TBigraph}{l:Int}(h:l<b.edges):Zeo b l=(l,e0S):=if_pos h
theorem ZgA{b:TBigraph}{i:Nat}(h:i<b.outer.length):Zeo b (b.edges+i)=(0,b.outer[i]):=by
 unfold Zeo
 rw[if_neg (by omega),show (b.edges+(i:Int)-b.edges).toNat=i from by omega]
 rw[show gS b.outer i=b.outer[i] from Ub h]
theorem J1{b:TBigraph}{l:Int}(h:ZR b l):(0<=l/\l<b.edges)\/∃ i:Nat,∃ _:i<b.outer.length,l=b.edges+i:=by
 unfold ZR at h
 by_cases hl:l<b.edges
 ·exact .inl ⟨h.1,hl⟩
 ·exact .inr ⟨(l-b.edges).toNat,by omega,by omega⟩
theorem ZgB{sig:List TControl}{b:TBigraph}(h:bigOK sig b){F F':Int->Int}{e:Int}{o:List ByteArray}(hF:∀ l,ZR b l->F l=F' l):UI b F e o=UI b F' e o:=by
 unfold UI
 congr 1
 ·refine List.map_congr_left fun x hx=>?_
  obtain⟨i,hi,rfl⟩:=List.getElem_of_mem hx
  have hn:=h.nodes i hi
  congr 1
  exact List.map_congr_left fun l hl=>hF l (hn.links l hl)
 ·refine List.map_congr_left fun w hw=>?_
  rw[hF _ (h.inner w hw)]
def Zlo(b:TBigraph)(f:Int->Int)(g:ByteArray->Int):List Int:=(Wn b.edges.toNat).map f++b.outer.map g
theorem Zbu{b:TBigraph}{f:Int->Int}{g:ByteArray->Int}{l:Int}(h0:0<=l)(h:l<b.edges):g0 (Zlo b f g) l.toNat=f l:=by
 have hl:l.toNat<(Wn b.edges.toNat).length:=by rw[YU];omega
 have hx:l.toNat<((Wn b.edges.toNat).map f).length:=by rw[List.length_map];exact hl
 show (Zlo b f g).getD l.toNat 0=_
 unfold Zlo
 rw[List.getD_eq_getElem?_getD,List.getElem?_append_left hx,List.getElem?_map]
 simp [Wn,List.getElem?_map,List.getElem?_range (show l.toNat<b.edges.toNat by omega)]
 congr 1
 omega
theorem Zbv{b:TBigraph}{f:Int->Int}{g:ByteArray->Int}(hb:0<=b.edges){i:Nat}(h:i<b.outer.length):g0 (Zlo b f g) (b.edges+i).toNat=g b.outer[i]:=by
 have hl:((Wn b.edges.toNat).map f).length=b.edges.toNat:=by rw[List.length_map,YU]
 show (Zlo b f g).getD _ 0=_
 unfold Zlo
 rw[List.getD_eq_getElem?_getD,List.getElem?_append_right (by rw[hl];omega),hl,List.getElem?_map,show (b.edges+(i:Int)).toNat-b.edges.toNat=i from by omega,List.getElem?_eq_getElem h]
 rfl
def QB(o:List ByteArray)(s:ByteArray):List ByteArray:=o.filter fun x=>!decide (x=s)
theorem lessN_mem{o:List ByteArray}{s c:ByteArray}:c∈QB o s↔c∈o/\c≠s:=by simp [QB]
theorem ZpV{o:List ByteArray}{s:ByteArray}(h:o.Pairwise ltS):(QB o s).Pairwise ltS:=h.filter _
noncomputable def Vc(l:List ByteArray):List ByteArray:=Zs4 e0S ltS l
def ZgC(b:TBigraph)(s:ByteArray)(e:Int×ByteArray):Int×ByteArray:=if e.2=s then (b.edges,e0S) else e
def UY(b:TBigraph)(s:ByteArray):List Int:=Zlo b (fun l=>l) fun x=>if x=s then b.edges else b.edges+1+ixS (QB b.outer s) x
def Xo(b:TBigraph)(s:ByteArray):TBigraph:=UI b (fun l=>g0 (UY b s) l.toNat) (b.edges+1) (QB b.outer s)
theorem ZpW{sig:List TControl}{b:TBigraph}{s:ByteArray}(h:bigOK sig b)(hs:s∈b.outer):UI b (Zcy b (b.edges+1) (Vc (QB b.outer s)) (ZgC b s)) (b.edges+1) (Vc (QB b.outer s))=Xo b s:=by
 have hp:=ZhQ h.outer
 have e1:Vc (QB b.outer s)=QB b.outer s:=ZhN ordsS (ZpV hp) fun _=>Iff.rfl
 rw[e1]
 refine ZgB h fun l hl=>?_
 unfold UY
 have hse:=ZaR h.outer hs
 rcases J1 hl with ⟨h0,h1⟩ | ⟨i,hi,rfl⟩
 ·rw[Zbu h0 h1]
  unfold Zcy ZgC
  rw[Zgz h1]
  simp [Ne.symm hse]
 ·rw[Zbv h.edges.1 hi]
  unfold Zcy ZgC
  rw[ZgA hi]
  have hne:=ZaR h.outer (List.getElem_mem hi)
  by_cases he:b.outer[i]=s
  ·simp [he]
  ·simp [he,hne]
end Go.Fd

namespace Go.Fd
set_option maxRecDepth 20000
theorem ZnM{l:List ByteArray}:ScR (rS l)=True:=eq_true fun e he t ht=>by
 obtain⟨n,_,rfl⟩:=List.mem_map.1 he
 simp only[List.mem_cons,List.not_mem_nil,or_false] at ht
 subst ht
 rfl
theorem ZnN{l:List ByteArray}:UnR 1 (rS l)=True:=eq_true (Zby (fun n:ByteArray=>[ts n]) (fun _=>rfl) l)
theorem Zcz{l:List Int}:ScR (rI l)=True:=eq_true fun e he t ht=>by
 obtain⟨n,_,rfl⟩:=List.mem_map.1 he
 simp only[List.mem_cons,List.not_mem_nil,or_false] at ht
 subst ht
 rfl
theorem ZcA{l:List Int}:UnR 1 (rI l)=True:=eq_true (Zby (fun n:Int=>[tv n]) (fun _=>rfl) l)
theorem Zv0{l:List TWire}:ScR (l.map Jc)=True:=eq_true fun e he t ht=>by
 obtain⟨n,_,rfl⟩:=List.mem_map.1 he
 simp only[Jc,List.mem_cons,List.not_mem_nil,or_false] at ht
 rcases ht with rfl | rfl <;> rfl
theorem Zv1{l:List TWire}:UnR 2 (l.map Jc)=True:=eq_true (Zby Jc (fun _=>rfl) l)
theorem Dt(l:List Int)(hl:l.length<=4294967296)(lvl:Nat)(S:Sto):Sem Go.Proofs.Tryz.prog Z2 lvl [tI l] S (.ow 1 (rI l) true) S:=by
 refine Zb DR trivial ?_
 simp only[Xu,List.length_map,Zcz,ZcA,EVA,seval]
 exact⟨hl,fun h=>by rw[h]⟩
theorem ZaS(l:List ByteArray)(hl:l.length<=4294967296)(lvl:Nat)(S:Sto):Sem Go.Proofs.Tryz.prog ZG lvl [.tr (.sl (rS l))] S (.ow 1 (rS l) true) S:=by
 refine Zb Wt trivial ?_
 simp only[Va,List.length_map,ZnM,ZnN,EVA,seval]
 exact⟨hl,fun h=>by rw[h]⟩
theorem Zl4(l:List TWire)(hl:l.length<=4294967296)(lvl:Nat)(S:Sto):Sem Go.Proofs.Tryz.prog Jd lvl [.tr (.sl (l.map Jc))] S (.ow 2 (l.map Jc) true) S:=by
 refine Zb QL trivial ?_
 simp only[Ya,List.length_map,Zv0,Zv1,EVA,seval]
 exact⟨hl,fun h=>by rw[h]⟩
theorem Zau(l:List ByteArray)(hl:l.length<=4294967290)(lvl:Nat)(S:Sto):Sem Go.Proofs.Tryz.prog YA lvl [.tr (.sl (rS l))] S (.ow 1 (rS (Vc l)) true) S:=by
 refine Zb Zcu trivial ?_
 simp only[Um,EVA,seval,Zj,men]
 refine Za (ZaS l (by omega)) ?_
 simp only[EVA,seval]
 have hp:(Zkc ltS l).length=l.length:=srtG_perm.length_eq
 have s1:=fun S' hS=>ZhO l (by omega) (lvl+1) S' (lvl,160) true l.length 0 (Nat.lt_succ_self _) hS
 refine ZhK 160 _ (s1 _ ?_) ?_
 ·rw[YX];rfl
 simp only[EVA,seval]
 have s2:=fun S' hS=>Zi8 (Zkc ltS l) (by omega) (lvl+1) S' (lvl,160) true l.length 0 (Nat.lt_succ_self _) hS
 rw[show Zig (IV.hd (lvl,160) [] 0 l.length none l.length)=IV.hd (lvl,160) [] 0 (Zkc ltS l).length none l.length from by rw[hp];rfl]
 refine Zli 160 _ (s2 _ ?_) fun v=>?_
 ·rw[YX];rfl
 simp only[List.length_map,EVA,seval]
 rfl
abbrev oE(e:Int×ByteArray):IV:=.ag [iI e.1,iS e.2]
theorem ZnO(b:TBigraph)(l:Int)(he:0<=b.edges)(hl:ZR b l)(ho:b.outer.length<=4294967296)(hb:b.edges<=4294967296)(lvl:Nat)(S:Sto):Sem Go.Proofs.Tryz.prog Y5 lvl [.ag ((Zc b).map .tr),iI l] S (oE (Zeo b l)) S:=by
 refine Zb Za0 (by simp [low,men,Zj]) ?_
 simp only[Wl,Zc,EVA,seval]
 rcases J1 hl with ⟨h0,h1⟩ | ⟨i,hi,rfl⟩
 ·rw[Zgz h1]
  simp only[h1,seval]
  try rfl
 ·rw[ZgA hi]
  have h1:¬ b.edges+(i:Int)<b.edges:=by omega
  have ga:=Zen (e0:=e0S) (c:=fun n:ByteArray=>[ts n]) hi
  have e1:b.edges+(i:Int)-b.edges=i:=by omega
  rw[Ub hi] at ga
  simp only[h1,e1,ga,EVA,seval]
  rw[Zd];omega
theorem XO(b:TBigraph)(hb:Zs 4294967290 b)(lvl:Nat)(S:Sto):Sem Go.Proofs.Tryz.prog Jz lvl [.ag ((Zc b).map .tr)] S (Zi b) S:=by
 obtain⟨b1,b2,b3,b4,b5,b6,b7⟩:=hb
 refine Zb Zda (by simp [Zi,low,men,Zj]) ?_
 simp only[UR,Zc,EVA,seval,Zj,men]
 refine Za (Dt b.sites (by omega)) ?_
 simp only[List.length_map,EVA,seval,Zj,men]
 refine Za (ZaS b.outer (by omega)) ?_
 simp only[List.length_map,EVA,seval,Zj,men]
 refine Za (Zl4 b.inner (by omega)) ?_
 simp only[List.length_map,EVA,seval]
 refine ZB (α:=Unit) b.nodes.length (fun j _=>[(23,iI j)]) (fun j _=>[(96,.bx [iI b.roots,.hd (lvl,608) [] 0 j none j,.hd (lvl,320) [] 0 b.sites.length none b.sites.length,iI b.edges,.hd (lvl,480) [] 0 b.outer.length none b.outer.length,.hd (lvl,576) [] 0 b.inner.length none b.inner.length]),(608,.ar 3 ((b.nodes.take j).map Z9) true j 0)]) (fun _ _=>True) () (by simp only[EVA,seval]) (by (simp only[EVA,seval]) <;> rfl) trivial ?_
 intro j _ hj _
 simp only[List.length_map,EVA,seval]
 refine Zn (fun hlt=>?_) (fun hge=>?_)
 ·have hja:j<b.nodes.length:=by omega
  have ga:=W9 (c:=Z9) hja
  have k2:b.nodes[j].links.length<=4294967290:=b2 _ (List.getElem_mem hja)
  have hl1:((b.nodes.take j).map Z9).length=j:=by rw[List.length_map,List.length_take];omega
  have st1:(b.nodes.take j).map Z9++[[Tr.v (Value.int .i64 b.nodes[j].control),Tr.v (Value.int .i64 b.nodes[j].parent),Tr.sl (rI b.nodes[j].links)]]=(b.nodes.take (j+1)).map Z9:=by
   rw[List.take_succ_eq_append_getElem hja,List.map_append]
   rfl
  simp only[ga,Z9,EVA,seval,Zj,men]
  refine Za (Dt b.nodes[j].links (by omega)) ?_
  have hl2:(List.map (fun x=>[Tr.v (Value.int .i64 x.control),Tr.v (Value.int .i64 x.parent),Tr.sl (rI x.links)]) (b.nodes.take j)).length=j:=by rw[List.length_map,List.length_take];omega
  simp only[hl1,st1,EVA,seval]
  exact⟨by omega,by rw[Zd];omega,Ze () hja rfl trivial⟩
 ·have:j=b.nodes.length:=by omega
  subst this
  rw[List.take_length]
  exact⟨rfl,rfl⟩
end Go.Fd

namespace Go.Fd
set_option maxRecDepth 20000
theorem Du(l:List ByteArray)(s:ByteArray)(hl:l.length<=4294967296)(lvl:Nat)(S:Sto):Sem Go.Proofs.Tryz.prog Yk lvl [.tr (.sl (rS l)),iS s] S (iI (ixS l s)) S:=by
 refine Zb Zj6 trivial ?_
 simp only[ZeY,EVA,seval]
 refine ZB (α:=Unit) l.length (fun j _=>[(5,iI j)]) (fun _ _=>[]) (fun j _=>ixF (fun x=>decide (s=x)) (l.drop j) j=ixS l s) () (by simp only[EVA,seval]) (by (simp only[EVA,seval]) <;> rfl) rfl ?_
 intro j _ hj hA
 simp only[List.length_map,EVA,seval]
 refine Zn (fun hlt=>?_) (fun hge=>?_)
 ·have hja:j<l.length:=by omega
  have ga:=Zen (e0:=e0S) (c:=fun n:ByteArray=>[ts n]) hja
  rw[Ub hja] at ga
  rw[Zcw hja,Wv] at hA
  by_cases h:l[j]=s
  ·rw[if_pos (by simp [h])] at hA
   simp only[ga,h,EVA,seval]
   rw[<-hA]
  ·rw[if_neg (by simp;exact fun e=>h e.symm)] at hA
   simp only[ga,h,EVA,seval]
   exact⟨by rw[Zd];omega,Ze () hja rfl hA⟩
 ·have:j=l.length:=by omega
  subst this
  rw[List.drop_length] at hA
  rw[<-hA]
  rfl
theorem Zl5{o:List ByteArray}{s:ByteArray}{j:Nat}(h:j<o.length):QB (o.take (j+1)) s=QB (o.take j) s++if o[j]=s then [] else [o[j]]:=by
 unfold QB
 rw[List.take_succ_eq_append_getElem h,List.filter_append]
 by_cases e:o[j]=s <;> simp [e]
theorem Zl6(o:List ByteArray)(s:ByteArray)(ho:o.length<=4294967290)(lvl:Nat)(S:Sto):Sem Go.Proofs.Tryz.prog WS lvl [.tr (.sl (rS o)),iS s] S (.ow 1 (rS (QB o s)) true) S:=by
 refine Zb ZhD trivial ?_
 simp only[Zco,EVA,seval]
 refine ZB (α:=Unit) o.length (fun j _=>[(5,.hd (lvl,224) [] 0 (QB (o.take j) s).length none (QB (o.take j) s).length),(6,iI j)]) (fun j _=>[(224,.ar 1 (rS (QB (o.take j) s)) true (QB (o.take j) s).length 0)]) (fun _ _=>True) () (by simp only[EVA,seval]) (by (simp only[EVA,seval]) <;> rfl) trivial ?_
 intro j _ hj _
 simp only[List.length_map,EVA,seval]
 refine Zn (fun hlt=>?_) (fun hge=>?_)
 ·have hja:j<o.length:=by omega
  have ga:=Zen (e0:=e0S) (c:=fun n:ByteArray=>[ts n]) hja
  rw[Ub hja] at ga
  have hs:=Zl5 (s:=s) hja
  have hle:(QB (o.take j) s).length<=j:=Nat.le_trans (List.length_filter_le ..) (by rw[List.length_take];omega)
  by_cases h:o[j]=s
  ·rw[if_pos h,List.append_nil] at hs
   simp only[ga,h,EVA,seval]
   exact⟨by rw[Zd];omega,Ze () hja (by rw[hs];rfl) trivial⟩
  ·rw[if_neg h] at hs
   simp only[ga,h,List.length_map,EVA,seval]
   exact⟨by omega,by rw[Zd];omega,Ze () hja (by rw[hs,List.length_append,Zgx];rfl) trivial⟩
 ·have:j=o.length:=by omega
  subst this
  rw[List.take_length]
def Uc(a:Int)(n:Nat):List Int:=(List.range n).map fun i:Nat=>a+i
theorem Zl7{a:Int}{n:Nat}:Uc a (n+1)=Uc a n++[a+n]:=by simp [Uc,List.range_succ]
theorem fromN_len{a:Int}{n:Nat}:(Uc a n).length=n:=by simp [Uc]
theorem W0(a:Int)(n:Nat)(ha:-4294967296<=a/\a<=4294967296)(hn:n<=4294967290)(lvl:Nat)(S:Sto):Sem Go.Proofs.Tryz.prog JL lvl [iI a,iI n] S (.ow 1 (rI (Uc a n)) true) S:=by
 refine Zb ZfY trivial ?_
 simp only[Zbn,EVA,seval]
 refine ZB (α:=Unit) n (fun j _=>[(5,.hd (lvl,224) [] 0 j none j),(6,iI j)]) (fun j _=>[(224,.ar 1 (rI (Uc a j)) true j 0)]) (fun _ _=>True) () (by simp only[EVA,seval]) (by (simp only[EVA,seval]) <;> rfl) trivial ?_
 intro j _ hj _
 simp only[List.length_map,EVA,seval]
 refine Zn (fun hlt=>?_) (fun hge=>?_)
 ·have hl:=fromN_len (a:=a) (n:=j)
  have hs:rI (Uc a j)++[[Tr.v (.int .i64 (a+j))]]=rI (Uc a (j+1)):=by rw[Zl7,Yx];rfl
  simp only[hl,hs,EVA,seval]
  exact⟨by rw[Zd];omega,by omega,by rw[Zd];omega,Ze () (by omega) rfl trivial⟩
 ·have:j=n:=by omega
  subst this
  exact⟨fromN_len.symm,rfl⟩
def JC(a:Int)(n:Nat):List Int:=(List.range n).map fun i:Nat=>-1-a-i
theorem Zke{a:Int}{n:Nat}:JC a (n+1)=JC a n++[-1-a-n]:=by simp [JC,List.range_succ]
theorem rootsN_len{a:Int}{n:Nat}:(JC a n).length=n:=by simp [JC]
theorem Dv(a:Int)(n:Nat)(ha:-4294967296<=a/\a<=4294967296)(hn:n<=4294967290)(lvl:Nat)(S:Sto):Sem Go.Proofs.Tryz.prog Ye lvl [iI a,iI n] S (.ow 1 (rI (JC a n)) true) S:=by
 refine Zb Zf0 trivial ?_
 simp only[Zbp,EVA,seval]
 refine ZB (α:=Unit) n (fun j _=>[(5,.hd (lvl,224) [] 0 j none j),(6,iI j)]) (fun j _=>[(224,.ar 1 (rI (JC a j)) true j 0)]) (fun _ _=>True) () (by simp only[EVA,seval]) (by (simp only[EVA,seval]) <;> rfl) trivial ?_
 intro j _ hj _
 simp only[List.length_map,EVA,seval]
 refine Zn (fun hlt=>?_) (fun hge=>?_)
 ·have hl:=rootsN_len (a:=a) (n:=j)
  have hs:rI (JC a j)++[[Tr.v (.int .i64 (-1-a-j))]]=rI (JC a (j+1)):=by rw[Zke,Yx];rfl
  simp only[hl,hs,EVA,seval]
  exact⟨by rw[Zd];omega,by rw[Zd];omega,by omega,by rw[Zd];omega,Ze () (by omega) rfl trivial⟩
 ·have:j=n:=by omega
  subst this
  exact⟨rootsN_len.symm,rfl⟩
def Zdj(by_:Int)(ps:List Int)(p:Int):Int:=if p<0 then g0 ps (-1-p).toNat else p+by_
theorem Zav(p by_:Int)(ps:List Int)(h0:-4294967296<=p/\p<=4294967296)(h1:-4294967296<=by_/\by_<=4294967296)(h2:p<0->(-1-p).toNat<ps.length)(lvl:Nat)(S:Sto):Sem Go.Proofs.Tryz.prog YE lvl [iI p,iI by_,tI ps] S (iI (Zdj by_ ps p)) S:=by
 refine Zb Ze6 trivial ?_
 simp only[Zan,EVA,seval]
 unfold Zdj
 refine Zn (fun hlt=>?_) (fun hge=>?_)
 ·rw[if_pos hlt]
  have hk:=h2 hlt
  obtain⟨k,hkk⟩:∃ k:Nat,-1-p=k:=⟨(-1-p).toNat,by omega⟩
  rw[hkk] at hk ⊢
  rw[Int.toNat_natCast] at hk ⊢
  have ga:=VL hk
  simp only[ga,EVA,seval]
  rw[Zd];omega
 ·rw[if_neg hge]
  exact⟨by rw[Zd];omega,rfl⟩
theorem XF(b:TBigraph)(by_:Int)(ps:List Int)(hl:b.sites.length<=4294967290)(h1:-4294967296<=by_/\by_<=4294967296)(hp:∀ p∈b.sites,(-4294967296<=p/\p<=4294967296)/\(p<0->(-1-p).toNat<ps.length))(lvl:Nat)(S:Sto):Sem Go.Proofs.Tryz.prog Jv lvl [.ag ((Zc b).map .tr),iI by_,tI ps] S (.ow 1 (rI (b.sites.map (Zdj by_ ps))) true) S:=by
 refine Zb Zf2 trivial ?_
 simp only[Zbr,Zc,EVA,seval]
 refine ZB (α:=Unit) b.sites.length (fun j _=>[(7,.hd (lvl,288) [] 0 j none j),(8,iI j)]) (fun j _=>[(288,.ar 1 (rI ((b.sites.take j).map (Zdj by_ ps))) true j 0)]) (fun _ _=>True) () (by simp only[EVA,seval]) (by (simp only[EVA,seval]) <;> rfl) trivial ?_
 intro j _ hj _
 simp only[List.length_map,EVA,seval]
 refine Zn (fun hlt=>?_) (fun hge=>?_)
 ·have hja:j<b.sites.length:=by omega
  have ga:=VL hja
  have e0:g0 b.sites j=b.sites[j]:=by simp [hja]
  have hq:=hp _ (List.getElem_mem hja)
  rw[<-e0] at hq
  have hl1:(List.map (Zdj by_ ps) (b.sites.take j)).length=j:=by rw[List.length_map,List.length_take];omega
  have hl2:(b.sites.take j).length=j:=by rw[List.length_take];omega
  simp only[ga,EVA,seval,Zj,men]
  refine Za (Zav (g0 b.sites j) by_ ps hq.1 h1 hq.2) ?_
  have hs:rI ((b.sites.take j).map (Zdj by_ ps))++[[Tr.v (.int .i64 (Zdj by_ ps (g0 b.sites j)))]]=rI ((b.sites.take (j+1)).map (Zdj by_ ps)):=by
   rw[List.take_succ_eq_append_getElem hja,List.map_append,Yx,e0];rfl
  simp only[hl1,hs,List.length_map,EVA,seval]
  exact⟨by omega,by rw[Zd];omega,Ze () hja rfl trivial⟩
 ·have:j=b.sites.length:=by omega
  subst this
  rw[List.take_length]
  exact⟨by simp,rfl⟩
def Zi9(ls:List Int)(w:TWire):TWire:=⟨w.name,g0 ls w.link.toNat⟩
theorem Dw(b:TBigraph)(ls:List Int)(hl:b.inner.length<=4294967290)(hp:∀ w∈b.inner,0<=w.link/\w.link<ls.length)(lvl:Nat)(S:Sto):Sem Go.Proofs.Tryz.prog Yf lvl [.ag ((Zc b).map .tr),tI ls] S (.ow 2 ((b.inner.map (Zi9 ls)).map Jc) true) S:=by
 refine Zb Zf4 trivial ?_
 simp only[Zbt,Zc,EVA,seval]
 refine ZB (α:=Unit) b.inner.length (fun j _=>[(5,.hd (lvl,224) [] 0 j none j),(6,iI j)]) (fun j _=>[(224,.ar 2 (((b.inner.take j).map (Zi9 ls)).map Jc) true j 0)]) (fun _ _=>True) () (by simp only[EVA,seval]) (by (simp only[EVA,seval]) <;> rfl) trivial ?_
 intro j _ hj _
 simp only[List.length_map,EVA,seval]
 refine Zn (fun hlt=>?_) (fun hge=>?_)
 ·have hja:j<b.inner.length:=by omega
  have ga:=W9 (c:=Jc) hja
  have hq:=hp _ (List.getElem_mem hja)
  obtain⟨k,hk⟩:∃ k:Nat,b.inner[j].link=k:=⟨b.inner[j].link.toNat,by omega⟩
  have hkl:k<ls.length:=by omega
  have gl:=VL hkl
  have hl2:(b.inner.take j).length=j:=by rw[List.length_take];omega
  have hs:((b.inner.take j).map (Zi9 ls)).map Jc++[[ts b.inner[j].name,tv (g0 ls k)]]=((b.inner.take (j+1)).map (Zi9 ls)).map Jc:=by
   rw[List.take_succ_eq_append_getElem hja,List.map_append,List.map_append]
   simp [Zi9,Jc,hk]
  simp only[ga,Jc,hk,gl,hl2,List.length_map,EVA,seval]
  exact⟨by omega,by rw[Zd];omega,Ze () hja (by rw[<-hs];rfl) trivial⟩
 ·have:j=b.inner.length:=by omega
  subst this
  rw[List.take_length]
  exact⟨by simp,rfl⟩
def Zfj(by_:Int)(ps ls:List Int)(x:TNode):TNode:=⟨x.control,Zdj by_ ps x.parent,x.links.map fun l=>g0 ls l.toNat⟩
theorem W1(b:TBigraph)(by_:Int)(ps ls:List Int)(hl:b.nodes.length<=4294967290)(h1:-4294967296<=by_/\by_<=4294967296)(hp:∀ x∈b.nodes,x.links.length<=4294967290/\((-4294967296<=x.parent/\x.parent<=4294967296)/\(x.parent<0->(-1-x.parent).toNat<ps.length))/\∀ l∈x.links,0<=l/\l<ls.length)(lvl:Nat)(S:Sto):Sem Go.Proofs.Tryz.prog JM lvl [.ag ((Zc b).map .tr),iI by_,tI ps,tI ls] S (.ow 3 ((b.nodes.map (Zfj by_ ps ls)).map Z9) true) S:=by
 refine Zb Zf1 trivial ?_
 simp only[Zbq,Zc,EVA,seval]
 refine ZB (α:=Unit) b.nodes.length (fun j _=>[(9,.hd (lvl,416) [] 0 j none j),(10,iI j)]) (fun j _=>[(416,.ar 3 (((b.nodes.take j).map (Zfj by_ ps ls)).map Z9) true j 0)]) (fun _ _=>True) () (by simp only[EVA,seval]) (by (simp only[EVA,seval]) <;> rfl) trivial ?_
 intro j _ hj _
 simp only[List.length_map,EVA,seval]
 refine Zn (fun hlt=>?_) (fun hge=>?_)
 ·have hja:j<b.nodes.length:=by omega
  have ga:=W9 (c:=Z9) hja
  obtain⟨q1,q2,q3⟩:=hp _ (List.getElem_mem hja)
  have hl2:(b.nodes.take j).length=j:=by rw[List.length_take];omega
  refine ZB (α:=Unit) b.nodes[j].links.length (fun k _=>[(11,.hd (lvl,672) [] 0 k none k),(12,iI k)]) (fun k _=>[(672,.ar 1 (rI ((b.nodes[j].links.take k).map fun l=>g0 ls l.toNat)) true k 0)]) (fun _ _=>True) () (by simp only[EVA,seval]) (by (simp only[EVA,seval]) <;> rfl) trivial ?_
  intro k _ hk _
  simp only[ga,Z9,List.length_map,EVA,seval,Zj,men]
  refine Zn (fun hlt2=>?_) (fun hge2=>?_)
  ·have hka:k<b.nodes[j].links.length:=by omega
   have gl:=VL hka
   have e0:g0 b.nodes[j].links k=b.nodes[j].links[k]:=by simp [hka]
   have hq:=q3 _ (List.getElem_mem hka)
   rw[<-e0] at hq
   obtain⟨m,hm⟩:∃ m:Nat,g0 b.nodes[j].links k=m:=⟨(g0 b.nodes[j].links k).toNat,by omega⟩
   have hml:m<ls.length:=by omega
   have gm:=VL hml
   have hl3:(b.nodes[j].links.take k).length=k:=by rw[List.length_take];omega
   have hs:rI ((b.nodes[j].links.take k).map fun l=>g0 ls l.toNat)++[[tv (g0 ls m)]]=rI ((b.nodes[j].links.take (k+1)).map fun l=>g0 ls l.toNat):=by
    rw[List.take_succ_eq_append_getElem hka,List.map_append,Yx,<-e0]
    simp only[List.map_cons,List.map_nil,hm,Int.toNat_natCast]
   simp only[gl,hm,gm,hl3,hs,List.length_map,EVA,seval]
   exact⟨by omega,by rw[Zd];omega,Ze () hka rfl trivial⟩
  ·have:k=b.nodes[j].links.length:=by omega
   subst this
   rw[List.take_length]
   refine Za (Zav b.nodes[j].parent by_ ps q2.1 h1 q2.2) ?_
   have hs:((b.nodes.take j).map (Zfj by_ ps ls)).map Z9++[[tv b.nodes[j].control,tv (Zdj by_ ps b.nodes[j].parent),Tr.sl (rI (b.nodes[j].links.map fun l=>g0 ls l.toNat))]]=((b.nodes.take (j+1)).map (Zfj by_ ps ls)).map Z9:=by
    rw[List.take_succ_eq_append_getElem hja,List.map_append,List.map_append]
    simp [Zfj,Z9]
   simp only[hl2,List.length_map,EVA,seval]
   exact⟨by omega,by rw[Zd];omega,Ze () hja (by rw[<-hs];rfl) trivial⟩
 ·have:j=b.nodes.length:=by omega
  subst this
  rw[List.take_length]
  exact⟨by simp,rfl⟩
end Go.Fd

namespace Go.Fd
set_option maxRecDepth 20000
theorem Zv2:ZI Go.Proofs.Tryz.prog ZS ZwA=true:=by kernel_rfl
theorem ZAq:ZI Go.Proofs.Tryz.prog ZJ (ZAm ZS)=true:=by kernel_rfl
theorem ZgD(l:List ByteArray)(s:ByteArray)(hl:l.length<=4294967296)(lvl:Nat)(S:Sto):Sem Go.Proofs.Tryz.prog ZS lvl [.tr (.sl (rS l)),iS s] S (iI (ixS l s)) S:=Znw Zv2 ZvL l s (by omega) lvl S
theorem Dx(l:List ByteArray)(s:ByteArray)(hl:l.length<=4294967296)(lvl:Nat)(S:Sto):Sem Go.Proofs.Tryz.prog ZJ lvl [.tr (.sl (rS l)),iS s] S (iB (dc (s∈l))) S:=by
 have h:=Zsu ZAq Zv2 ZvL l s (by omega) lvl S
 have e:∀ i:Decidable (s∈l),@decide (s∈l) i=dc (s∈l):=fun i=>(@Xn _ i).symm
 rw[e] at h
 exact h
theorem Zfk{l:List ByteArray}{s:ByteArray}:-1<=ixS l s:=by
 by_cases h:s∈l
 ·have:=ixS_nn.2 h;omega
 ·rw[Zlm h];omega
theorem ZdP{l:List ByteArray}{s:ByteArray}:ixS l s<=l.length:=by
 by_cases h:s∈l
 ·have:=Zln h;omega
 ·rw[Zlm h];omega
mutual
theorem ZsA{P Q:Oid->Prop}:∀ x,men P x->men Q x->men (fun i=>P i/\Q i) x
 | .hd ..,h,g=>⟨h,g⟩
 | .ab ..,h,g=>⟨h,g⟩
 | .sv _,h,g=>⟨h,g⟩
 | .ae ..,h,g=>⟨h,g⟩
 | .ag l,h,g=>by simp only[men] at *;exact ZcB l h g
 | .tu l,h,g=>by simp only[men] at *;exact ZcB l h g
 | .fn f l,h,g=>by simp only[men] at *;exact ZcB l h g
 | .un,_,_=>trivial
 | .tr _,_,_=>trivial
 | .cs _,_,_=>trivial
 | .ta _,_,_=>trivial
 | .ow ..,_,_=>trivial
 | .er,_,_=>trivial
theorem ZcB{P Q:Oid->Prop}:∀ l,Zj P l->Zj Q l->Zj (fun i=>P i/\Q i) l
 | [],_,_=>trivial
 | x::r,h,g=>⟨ZsA x h.1 g.1,ZcB r h.2 g.2⟩
end
theorem Zja{B S S':Sto}{loc:List (Nat×Ob)}{lvl l':Nat}{cps:List IV}(h:Zj (ZlQ B S lvl) cps)(h2:Zj (ZlQ (ZF lvl loc S) S' l') cps):Zj (ZlQ B S' l') cps :=
 ZH (fun i hi=>⟨hi.2.1,fun ob hb=>hi.2.2 ob (by rw[show ZF lvl loc S i=S i from if_neg (by have:=hi.1.1;omega)];exact hi.1.2 ob hb)⟩) _ (ZcB _ h h2)
theorem Zjb{L S:Sto}{l:Nat}{cps:List IV}(h:Zj (ZgL L S l) cps):Zj (ZlQ L S l) cps:=ZH (fun _ hi=>hi.1) _ h
theorem ZpX{B S:Sto}{lvl:Nat}{cps:List IV}(h:Zj (ZlQ B S lvl) cps)(js:List Nat):ZkB lvl js cps=True:=eq_true (ZH (fun i hi e=>absurd e (by have:=hi.1;omega)) _ h)
theorem ZsB{B S:Sto}{lvl:Nat}{cs:List (List Tr)}:Zj (ZlQ B S lvl) (cs.map IV.ta):=by rw[Yr];trivial
theorem Zf6(b:TBigraph)(l:Int)(e:Int)(o:List ByteArray)(tf:FuncId)(cps:List IV)(B:Sto)(T:Int×ByteArray->Int×ByteArray)(he0:0<=b.edges)(hl:ZR b l)(ho:b.outer.length<=4294967296)(hb:b.edges<=4294967296)(he:0<=e/\e<=4294967296)(hol:o.length<=4294967296)
  (hT:∀ l' S',Zj (ZlQ B S' l') cps->Sem Go.Proofs.Tryz.prog tf l' (oE (Zeo b l)::cps) S' (oE (T (Zeo b l))) S')
  (lvl:Nat) (S:Sto) (hcp:Zj (ZlQ B S lvl) cps) (iT iO io:Oid) (c0 c1 c2 c3 c5:IV) (hwo ver:Nat) (u:Bool) (hT1:iT.1<lvl) (hO1:iO.1<lvl) (ho1:io.1<lvl) (sT:S iT=some (.bx [.fn tf cps])) (sO:S iO=some (.bx [c0,c1,c2,c3,.hd io [] 0 o.length none hwo,c5])) (so:S io=some (.ar 1 (rS o) u hwo ver)) :
  Sem Go.Proofs.Tryz.prog Jr lvl [iI l,.ab iT 0,.ta (Zc b),.ta [tv e],.ab iO 0] S (iI (Zcy b e o T l)) S:=by
 have hneT:iT.1≠lvl:=by omega
 have hneO:iO.1≠lvl:=by omega
 have hneo:io.1≠lvl:=by omega
 refine Zb UC trivial ?_
 simp only[Qd,Zc,Jp hneT,sT,EVA,seval,Zj,men]
 refine Za (ZnO b l he0 hl ho hb) ?_
 simp only[EVA,seval]
 refine ZbZ (fun l' S' hs=>hT l' S' (Zja hcp (Zjb hs.2))) ?_
 simp only[EVA,seval]
 unfold Zcy
 by_cases h2:(T (Zeo b l)).2=e0S
 ·rw[if_pos h2]
  simp only[h2,seval]
 ·rw[if_neg h2]
  simp only[h2,Jp hneO,Jp hneo,sO,so,EVA,seval,Zj,men]
  rw[show cut (rS o) 0 o.length=rS o from Yb (by rw[List.length_map])]
  refine Za (ZgD o (T (Zeo b l)).2 (by omega)) ?_
  have:=Zfk (l:=o) (s:=(T (Zeo b l)).2)
  have:=ZdP (l:=o) (s:=(T (Zeo b l)).2)
  simp only[EVA,seval]
  rw[Zd];omega
theorem ZnP{y:List Int}{j:Nat}{v:Int}(h:j<y.length):YK (rI y) [] j 0 (.v (.int .i64 v))=rI (y.set j v):=by
 simp only[YK]
 rw[VL h]
 exact(List.map_set (f:=fun n:Int=>[tv n]) (l:=y) (i:=j) (a:=v)).symm
def Zkf(F:Int->Int)(x:TNode):TNode:=⟨x.control,x.parent,x.links.map F⟩
def YV(F:Int->Int)(l:List TNode)(j:Nat):List TNode:=(l.take j).map (Zkf F)++l.drop j
def Yz(F:Int->Int)(l:List Int)(k:Nat):List Int:=(l.take k).map F++l.drop k
theorem Zaw{F:Int->Int}{l:List Int}{k:Nat}:(Yz F l k).length=l.length:=by simp [Yz];omega
theorem Zfl{F:Int->Int}{l:List Int}{k:Nat}(h:k<l.length):g0 (Yz F l k) k=g0 l k:=by
 show (Yz F l k).getD k 0=l.getD k 0
 have:((l.take k).map F).length=k:=by rw[List.length_map,List.length_take];omega
 rw[List.getD_eq_getElem?_getD,List.getD_eq_getElem?_getD,Yz,List.getElem?_append_right (by omega),this,List.getElem?_drop]
 simp
theorem Zfm{F:Int->Int}{l:List Int}{k:Nat}(h:k<l.length):(Yz F l k).set k (F (g0 l k))=Yz F l (k+1):=by
 have hl:((l.take k).map F).length=k:=by rw[List.length_map,List.length_take];omega
 have e:g0 l k=l[k]:=by simp [h]
 unfold Yz
 rw[List.set_append_right _ _ (by omega),hl,Nat.sub_self,List.drop_eq_getElem_cons h,List.set_cons_zero,List.take_succ_eq_append_getElem h,List.map_append,e,List.append_assoc]
 rfl
theorem ZcC{F:Int->Int}{l:List TNode}{j:Nat}:(YV F l j).length=l.length:=by simp [YV];omega
theorem Zfn{F:Int->Int}{l:List TNode}{j:Nat}(h:j<l.length):(YV F l j)[j]? = some l[j]:=by
 have:((l.take j).map (Zkf F)).length=j:=by rw[List.length_map,List.length_take];omega
 rw[YV,List.getElem?_append_right (by omega),this,List.getElem?_drop]
 simp [h]
theorem Zjc{F:Int->Int}{l:List TNode}{j:Nat}(h:j<l.length):(YV F l j).set j (Zkf F l[j])=YV F l (j+1):=by
 have hl:((l.take j).map (Zkf F)).length=j:=by rw[List.length_map,List.length_take];omega
 unfold YV
 rw[List.set_append_right _ _ (by omega),hl,Nat.sub_self,List.drop_eq_getElem_cons h,List.set_cons_zero,List.take_succ_eq_append_getElem h,List.map_append,List.append_assoc]
 rfl
def ZaT(F:Int->Int)(w:TWire):TWire:=⟨w.name,F w.link⟩
def W2(F:Int->Int)(l:List TWire)(j:Nat):List TWire:=(l.take j).map (ZaT F)++l.drop j
theorem ZnQ{F:Int->Int}{l:List TWire}{j:Nat}:(W2 F l j).length=l.length:=by simp [W2];omega
theorem Zfo{F:Int->Int}{l:List TWire}{j:Nat}(h:j<l.length):(W2 F l j)[j]? = some l[j]:=by
 have:((l.take j).map (ZaT F)).length=j:=by rw[List.length_map,List.length_take];omega
 rw[W2,List.getElem?_append_right (by omega),this,List.getElem?_drop]
 simp [h]
theorem Zfp{F:Int->Int}{l:List TWire}{j:Nat}(h:j<l.length):(W2 F l j).set j (ZaT F l[j])=W2 F l (j+1):=by
 have hl:((l.take j).map (ZaT F)).length=j:=by rw[List.length_map,List.length_take];omega
 unfold W2
 rw[List.set_append_right _ _ (by omega),hl,Nat.sub_self,List.drop_eq_getElem_cons h,List.set_cons_zero,List.take_succ_eq_append_getElem h,List.map_append,List.append_assoc]
 rfl
theorem ZqU{X:List TNode}{j k:Nat}{x:TNode}{v:Int}(h:X[j]? = some x)(hk:k<x.links.length):YK (X.map Z9) [(j,2)] k 0 (.v (.int .i64 v))=(X.set j ⟨x.control,x.parent,x.links.set k v⟩).map Z9:=by
 have h1:=ZnP (y:=x.links) (j:=k) (v:=v) hk
 have e1:YK (X.map Z9) [(j,2)] k 0 (.v (.int .i64 v))=(X.map Z9).set j [tv x.control,tv x.parent,Tr.sl (YK (rI x.links) [] k 0 (.v (.int .i64 v)))]:=by
  simp only[YK,List.getElem?_map,h,Option.map_some,Z9,List.getElem?_cons_succ,List.getElem?_cons_zero,List.set_cons_succ,List.set_cons_zero]
 rw[e1,h1,List.map_set]
 rfl
theorem ZcD(b:TBigraph)(e:Int)(o:List ByteArray)(tf:FuncId)(cps:List IV)(B:Sto)(T:Int×ByteArray->Int×ByteArray)(he0:0<=b.edges)(hbd:Zs 4294967290 b)(hb:b.edges<=4294967296)(he:0<=e/\e<=4294967296)(ho:o.length<=4294967290)
  (hln:∀ x∈b.nodes,∀ l∈x.links,ZR b l) (hlw:∀ w∈b.inner,ZR b w.link) (hT:∀ l,ZR b l->∀ l' S',Zj (ZlQ B S' l') cps->Sem Go.Proofs.Tryz.prog tf l' (oE (Zeo b l)::cps) S' (oE (T (Zeo b l))) S')
  (lvl:Nat) (S:Sto) (hcp:Zj (ZlQ B S lvl) cps):Sem Go.Proofs.Tryz.prog Zw lvl [.ag ((Zc b).map .tr),iI e,.tr (.sl (rS o)),.fn tf cps] S (Zi (UI b (Zcy b e (Vc o) T) e (Vc o))) S:=by
 have hok:=ZpX hcp
 refine Zb Dp (by simp [Zi,low,men,Zj]) ?_
 simp only[Xk,Zc,EVA,seval,Zj,men]
 refine Za (XO b hbd) ?_
 simp only[Zi,List.length_map,EVA,seval,Zj,men]
 refine Za (Zau o ho) ?_
 obtain⟨b1,b2,b3,b4,b5,b6,b7⟩:=hbd
 simp only[List.length_map,EVA,seval]
 have hFdef:∃ F,F=Zcy b e (Vc o) T:=⟨_,rfl⟩
 obtain⟨F,hF⟩:=hFdef
 rw[<-hF]
 have hsl:(Vc o).length<=4294967296:=Nat.le_trans ZnH (by omega)
 have hc:∀(loc:List (Nat×Ob)) (l:Int),ZR b l->lkO 224 loc=some (.bx [.fn tf cps])->lkO 288 loc=some (.bx [iI b.roots,.hd (lvl,576) [] 0 b.nodes.length none b.nodes.length,.hd (lvl,577) [] 0 b.sites.length none b.sites.length,iI e,.hd (lvl,672) [] 0 (Vc o).length none (Vc o).length,.hd (lvl,579) [] 0 b.inner.length none b.inner.length])->lkO 672 loc=some (.ar 1 (rS (Vc o)) true (Vc o).length 0) ->
   ∀ l' S',Zj (ZgL (ZF lvl loc S) S' l') [iI l,.ab (lvl,224) 0,.ta (Zc b),.ta [tv e],.ab (lvl,288) 0]->Sem Go.Proofs.Tryz.prog Jr l' [iI l,.ab (lvl,224) 0,.ta (Zc b),.ta [tv e],.ab (lvl,288) 0] S' (iI (F l)) S':=fun loc l hl h1 h2 h3 l' S' hs=>by
  simp only[Zj,men] at hs
  obtain⟨_,h224,_,_,h288,_⟩:=hs
  have sT:=h224.1.2 _ (by rw[YX];exact h1)
  have hc2:=h224.2 _ (by rw[YX];exact h1)
  simp only[Zj,men,and_true] at hc2
  have sO:=h288.1.2 _ (by rw[YX];exact h2)
  have hm:=h288.2 _ (by rw[YX];exact h2)
  simp only[Zj,men] at hm
  obtain⟨_,_,_,_,h672,_,_⟩:=hm
  have so:=h672.2 _ (by rw[YX];exact h3)
  rw[hF]
  exact Zf6 b l e (Vc o) tf cps B T he0 hl (by omega) hb he hsl (hT l hl) l' S' (Zja hcp hc2) (lvl,224) (lvl,288) (lvl,672) _ _ _ _ _ _ _ _ h224.1.1 h288.1.1 h672.1 sT sO so
 refine ZB (α:=Unit) b.nodes.length (fun j _=>[(28,iI j)]) (fun j _=>[(576,.ar 3 ((YV F b.nodes j).map Z9) true b.nodes.length 0)]) (fun _ _=>True) () (by simp only[hok,EVA,seval]) (by (simp only[EVA,seval]) <;> rfl) trivial ?_
 intro j _ hj _
 simp only[EVA,seval]
 refine Zn (fun hlt=>?_) (fun hge=>?_)
 ·have hja:j<b.nodes.length:=by omega
  have gp:=Zfn (F:=F) hja
  have ga:((YV F b.nodes j).map Z9)[j]? = some [Tr.v (.int .i64 b.nodes[j].control),Tr.v (.int .i64 b.nodes[j].parent),Tr.sl (rI b.nodes[j].links)]:=by rw[List.getElem?_map,gp];rfl
  have hkl:b.nodes[j].links.length<=4294967290:=b2 _ (List.getElem_mem hja)
  simp only[ga,hja,List.length_map,EVA,seval]
  have e0:(YV F b.nodes j).set j ⟨b.nodes[j].control,b.nodes[j].parent,Yz F b.nodes[j].links 0⟩=YV F b.nodes j:=by
   have:(⟨b.nodes[j].control,b.nodes[j].parent,Yz F b.nodes[j].links 0⟩:TNode)=b.nodes[j]:=by simp [Yz]
   rw[this]
   have hl:j<(YV F b.nodes j).length:=by rw[ZcC];exact hja
   have e:b.nodes[j]=(YV F b.nodes j)[j]:=by
    have:=gp
    rw[List.getElem?_eq_getElem hl] at this
    exact(Option.some.inj this).symm
   rw[e]
   exact List.set_getElem_self hl
  refine ZB (α:=Unit) b.nodes[j].links.length (fun k _=>[(35,iI k)]) (fun k _=>[(576,.ar 3 (((YV F b.nodes j).set j ⟨b.nodes[j].control,b.nodes[j].parent,Yz F b.nodes[j].links k⟩).map Z9) true b.nodes.length 0)]) (fun _ _=>True) () (by simp only[hok,EVA,seval]) (by (simp only[e0,EVA,seval]) <;> rfl) trivial ?_
  intro k _ hk _
  have gq:((YV F b.nodes j).set j ⟨b.nodes[j].control,b.nodes[j].parent,Yz F b.nodes[j].links k⟩)[j]? = some ⟨b.nodes[j].control,b.nodes[j].parent,Yz F b.nodes[j].links k⟩:=by
   rw[List.getElem?_set_self (by rw[ZcC];exact hja)]
  have hgp:(((YV F b.nodes j).set j ⟨b.nodes[j].control,b.nodes[j].parent,Yz F b.nodes[j].links k⟩).map Z9)[j]? = some [Tr.v (.int .i64 b.nodes[j].control),Tr.v (.int .i64 b.nodes[j].parent),Tr.sl (rI (Yz F b.nodes[j].links k))]:=by rw[List.getElem?_map,gq];rfl
  simp only[hgp,EVA,seval]
  refine Zn (fun hlt2=>?_) (fun hge2=>?_)
  ·have hka:k<b.nodes[j].links.length:=by omega
   have hpl:=Zaw (F:=F) (l:=b.nodes[j].links) (k:=k)
   have gk:(rI (Yz F b.nodes[j].links k))[k]? = some [tv (g0 b.nodes[j].links k)]:=by rw[VL (by omega),Zfl hka]
   have hlk:ZR b (g0 b.nodes[j].links k):=hln _ (List.getElem_mem hja) _ (by simp [hka])
   have hsp:=ZqU (v:=F (g0 b.nodes[j].links k)) gq (k:=k) (by show k<(Yz F b.nodes[j].links k).length;omega)
   simp only[hgp,gk,hka,Nat.zero_add,EVA,seval]
   refine ZbZ (hc _ (g0 b.nodes[j].links k) hlk rfl rfl rfl) ?_
   have hst:((YV F b.nodes j).set j ⟨b.nodes[j].control,b.nodes[j].parent,Yz F b.nodes[j].links k⟩).set j ⟨b.nodes[j].control,b.nodes[j].parent,(Yz F b.nodes[j].links k).set k (F (g0 b.nodes[j].links k))⟩=(YV F b.nodes j).set j ⟨b.nodes[j].control,b.nodes[j].parent,Yz F b.nodes[j].links (k+1)⟩:=by
    rw[List.set_set,Zfm hka]
   rw[hst] at hsp
   simp only[hgp,gk,hka,hsp,hok,Nat.zero_add,EVA,seval]
   exact⟨by rw[Zd];omega,Ze () hka rfl trivial⟩
  ·have:k=b.nodes[j].links.length:=by omega
   subst this
   have hst:(YV F b.nodes j).set j ⟨b.nodes[j].control,b.nodes[j].parent,Yz F b.nodes[j].links b.nodes[j].links.length⟩=YV F b.nodes (j+1):=by
    rw[<-Zjc hja]
    congr 1
    simp [Zkf,Yz]
   rw[hst]
   simp only[hok,EVA,seval]
   exact⟨by rw[Zd];omega,Ze () hja rfl trivial⟩
 ·have:j=b.nodes.length:=by omega
  subst this
  have hpn:YV F b.nodes b.nodes.length=(UI b F e (Vc o)).nodes:=by simp [YV,UI,Zkf]
  rw[hpn]
  refine ZB (α:=Unit) b.inner.length (fun j _=>[(52,iI j)]) (fun j _=>[(579,.ar 2 ((W2 F b.inner j).map Jc) true b.inner.length 0)]) (fun _ _=>True) () (by simp only[hok,EVA,seval]) (by (simp only[EVA,seval]) <;> rfl) trivial ?_
  intro j _ hj _
  simp only[List.length_map,EVA,seval]
  refine Zn (fun hlt=>?_) (fun hge=>?_)
  ·have hja:j<b.inner.length:=by omega
   have gp:=Zfo (F:=F) hja
   have ga:((W2 F b.inner j).map Jc)[j]? = some [ts b.inner[j].name,tv b.inner[j].link]:=by rw[List.getElem?_map,gp];rfl
   have hsp:YK ((W2 F b.inner j).map Jc) [] j 1 (.v (.int .i64 (F b.inner[j].link)))=(W2 F b.inner (j+1)).map Jc:=by
    simp only[YK]
    rw[ga,<-Zfp hja,List.map_set]
    rfl
   have hlk:ZR b b.inner[j].link:=hlw _ (List.getElem_mem hja)
   simp only[ga,hja,Nat.zero_add,EVA,seval]
   refine ZbZ (hc _ b.inner[j].link hlk rfl rfl rfl) ?_
   simp only[ga,hja,hsp,hok,Nat.zero_add,EVA,seval]
   exact⟨by rw[Zd];omega,Ze () hja rfl trivial⟩
  ·have:j=b.inner.length:=by omega
   subst this
   have hpw:W2 F b.inner b.inner.length=(UI b F e (Vc o)).inner:=by simp [W2,UI,ZaT]
   rw[hpw]
   exact⟨by simp [UI],by simp [UI],rfl⟩
theorem Uo(b:TBigraph)(e:Int)(o:List ByteArray)(tf:FuncId)(cs:List (List Tr))(T:Int×ByteArray->Int×ByteArray)(he0:0<=b.edges)(hbd:Zs 4294967290 b)(hb:b.edges<=4294967296)(he:0<=e/\e<=4294967296)(ho:o.length<=4294967290)
  (hln:∀ x∈b.nodes,∀ l∈x.links,ZR b l) (hlw:∀ w∈b.inner,ZR b w.link) (hT:∀ l,ZR b l->∀ lvl S,Sem Go.Proofs.Tryz.prog tf lvl (oE (Zeo b l)::cs.map IV.ta) S (oE (T (Zeo b l))) S)
  (lvl:Nat) (S:Sto):Sem Go.Proofs.Tryz.prog Zw lvl [.ag ((Zc b).map .tr),iI e,.tr (.sl (rS o)),.fn tf (cs.map IV.ta)] S (Zi (UI b (Zcy b e (Vc o) T) e (Vc o))) S :=
 ZcD b e o tf (cs.map IV.ta) (fun _=>none) T he0 hbd hb he ho hln hlw (fun l hl l' S' _=>hT l hl l' S') lvl S ZsB
end Go.Fd

namespace Go.Fd
set_option maxRecDepth 20000
theorem Zv3:ZI Go.Proofs.Tryz.prog ZW (Znt 1 none)=true:=by kernel_rfl
theorem Zfq(l:List ByteArray)(hl:l.length<=4294967290)(f:ByteArray->Bool){fe:FuncId}{cs:List (List Tr)}(hf:∀ x lvl S,Sem Go.Proofs.Tryz.prog fe lvl (iS x::cs.map IV.ta) S (iB (f x)) S)(lvl:Nat)(S:Sto)(id:Oid)(u:Bool)(hw ver:Nat)(hid:id.1<lvl)(hS:S id=some (.ar 1 (rS l) u hw ver)) :
  ∃ v2,Sem Go.Proofs.Tryz.prog Jl lvl [.hd id [] 0 l.length none hw,.fn fe (cs.map IV.ta)] S (.hd id [] 0 (l.filter fun n=>!f n).length none hw) (ZT S id (.ar 1 (rS (l.filter fun n=>!f n)) u hw v2)):=by
 have hne:id.1≠lvl:=by omega
 have hix:=Zlf (P:=Go.Proofs.Tryz.prog) Zv3 (t:=fun n:ByteArray=>ts n) (f:=f) (fe:=fe) (cs:=cs) l (by omega) (fun x _ lvl S=>hf x lvl S)
 rcases ZhP (f:=f) (l:=l) (j:=0) with ⟨h1,h2⟩ | ⟨i0,h,h1,h2,h3⟩
 ·refine⟨ver,?_⟩
  rw[Zgy h2,QY hS]
  refine Zb Yq hid ?_
  simp only[Js,Zat,Yr,Jp hne,hS,EVA,seval,Zj,men]
  rw[show cut (rS l) 0 l.length=rS l from Yb (by rw[List.length_map])]
  refine Za hix ?_
  simp only[h1,ZeQ hne,EVA,seval]
 ·refine⟨ver+1,?_⟩
  rw[Int.zero_add] at h1
  refine Zb Yq hid ?_
  simp only[Js,Zat,Yr,Jp hne,hS,EVA,seval,Zj,men]
  rw[show cut (rS l) 0 l.length=rS l from Yb (by rw[List.length_map])]
  refine Za hix ?_
  have hm1:¬ (i0:Int) = -1:=by omega
  simp only[h1,hm1,EVA,seval]
  refine⟨by rw[Zd];omega,?_⟩
  have f0:(l.take i0).filter (fun n=>!f n)=l.take i0:=Zgy h2
  have f1:(l.take (i0+1)).filter (fun n=>!f n)=l.take i0:=by rw[Zfi h,f0,if_pos h3,List.append_nil]
  refine Z3 (α:=Nat×List ByteArray) l.length (fun m x=>⟨lvl,[(0,.hd id [] 0 l.length none hw),(1,.fn fe (cs.map IV.ta)),(5,iI (x.1:Int)),(6,iI ((i0+1+m:Nat):Int))],[],ZT S id (.ar 1 (rS x.2) u hw ver)⟩) (fun m x=>i0+1+m<=l.length/\x.2.length=l.length/\x.1=((l.take (i0+1+m)).filter fun n=>!f n).length/\x.2.take x.1=(l.take (i0+1+m)).filter (fun n=>!f n)/\x.1<=i0+m/\∀ q,i0+1+m<=q->gS x.2 q=gS l q) (i0,l) ⟨by simp only[Yj hne,Dr,EVA,seval],by (simp only[QY hS,EVA,seval]) <;> rfl⟩ ⟨by omega,rfl,by rw[Nat.add_zero,f1,List.length_take];omega,by rw[Nat.add_zero,f1],by omega,fun _ _=>rfl⟩ ?_
  intro m ⟨i,y⟩ hm ⟨hm1,hy,hi,ht,hle,hq⟩
  dsimp only at hy hi ht hle hq
  simp only[EVA,seval]
  refine Zn (fun hlt2=>?_) (fun hge2=>?_)
  ·have b1:i0+1+m<l.length:=by omega
   have gy:=Zen (e0:=e0S) (c:=fun n:ByteArray=>[ts n]) (l:=y) (i:=i0+1+m) (by omega)
   have q1:=hq (i0+1+m) (by omega)
   have b4:i<l.length:=by omega
   have e0:gS l (i0+1+m)=l[i0+1+m]:=Ub b1
   have fs:=Zfi (f:=f) b1
   simp only[Jp hne,QH,gy,q1,b1,Zat,Yr,Nat.zero_add,EVA,seval,Zj,men]
   refine Za (hf (gS l (i0+1+m))) ?_
   rw[<-e0] at fs
   cases hx:f (gS l (i0+1+m)) with
   | true =>
    rw[if_pos hx,List.append_nil] at fs
    simp only[Yj hne,Dr,EVA,seval]
    exact⟨by rw[Zd];omega,Ze (i,y) (by omega) rfl ⟨by omega,hy,by rw[show i0+1+(m+1)=i0+1+m+1 from rfl,fs];exact hi,by rw[show i0+1+(m+1)=i0+1+m+1 from rfl,fs];exact ht,by show i<=i0+(m+1);omega,fun q hqq=>hq q (by omega)⟩⟩
   | false =>
    rw[if_neg (by rw[hx];decide)] at fs
    have s1:=ZpS (y:=y) (j:=i) (v:=gS l (i0+1+m)) (by omega)
    have gy0:=Zen (e0:=e0S) (c:=fun n:ByteArray=>[ts n]) (l:=y) (i:=i) (by omega)
    simp only[Jp hne,QW hne,YC,QH,gy0,b4,s1,Nat.zero_add,Yj hne,Dr,EVA,seval]
    exact⟨by rw[Zd];omega,by rw[Zd];omega,Ze (i+1,y.set i (gS l (i0+1+m))) (by omega) rfl ⟨by omega,by rw[List.length_set];exact hy,by rw[show i0+1+(m+1)=i0+1+m+1 from rfl,fs,List.length_append,<-hi];rfl,by rw[Zcx (by omega),ht,show i0+1+(m+1)=i0+1+m+1 from rfl,fs],by show i+1<=i0+(m+1);omega,fun q hqq=>by
     show gx e0S (y.set i (gS l (i0+1+m))) q=_
     rw[Zlj (by omega),if_neg (by omega)]
     exact hq q (by omega)⟩⟩
  ·have en:i0+1+m=l.length:=by omega
   rw[en,List.take_length] at hi ht
   refine⟨by omega,ZvT hne (QH ..),?_⟩
   have tk:(rS y).take i=rS (l.filter fun n=>!f n):=by rw[<-ht];exact(List.map_take ..).symm
   simp only[Jp hne,QW hne,YC,QH,tk,List.length_map,hy,EVA,seval]
   refine⟨by omega,by omega,by omega,by omega,ZvT hne (QH ..),?_⟩
   simp only[ZeQ hne,Nat.sub_zero,hi,EVA,seval]
theorem Zdk(x s:ByteArray)(lvl:Nat)(S:Sto):Sem Go.Proofs.Tryz.prog J9 lvl [iS x,.ta [ts s]] S (iB (decide (x=s))) S:=by
 refine Zb Za1 trivial ?_
 simp only[Wm,EVA,seval]
theorem Zfr(o:List ByteArray)(s:ByteArray)(ho:o.length<=4294967290)(lvl:Nat)(S:Sto):Sem Go.Proofs.Tryz.prog VU lvl [.tr (.sl (rS o)),iS s] S (.ow 1 (rS (QB o s)) true) S:=by
 refine Zb Zct trivial ?_
 simp only[Ul,EVA,seval,Zj,men]
 refine Za (ZaS o (by omega)) ?_
 simp only[EVA,seval]
 have h1:=fun S' hS=>Zfq o ho (fun n=>decide (n=s)) (fe:=J9) (cs:=[[ts s]]) (fun n lvl S=>Zdk n s lvl S) (lvl+1) S' (lvl,192) true o.length 0 (Nat.lt_succ_self _) hS
 refine Zli 192 _ (h1 _ ?_) fun v=>?_
 ·rw[YX];rfl
 simp only[List.length_map,EVA,seval]
 rfl
theorem Zd4(b:TBigraph)(s:ByteArray)(e:Int×ByteArray)(lvl:Nat)(S:Sto):Sem Go.Proofs.Tryz.prog Jh lvl [oE e,.ta [ts s],.ta (Zc b)] S (oE (ZgC b s e)) S:=by
 refine Zb WX (by simp [low,men,Zj]) ?_
 simp only[Vp,Zc,EVA,seval]
 unfold ZgC
 by_cases h:e.2=s
 ·rw[if_pos h]
  simp only[h,seval]
  try rfl
 ·rw[if_neg h]
  simp only[h,seval]
  try rfl
theorem ZcE(sig:List TControl)(b:TBigraph)(hn:sig.length<=4294967296)(hbs:∀ y∈sig,Zr 4294967296 y)(hb:Zs 4294967290 b)(hf:Zy b)(lvl:Nat)(S:Sto):Sem Go.Proofs.Tryz.prog Y3 lvl [.tr (.sl (sig.map Zh)),.ag ((Zc b).map .tr)] S (.tu [Zi (@ite TBigraph (bigOK sig b) (Classical.propDecidable _) b ⟨0,[],[],0,[],[]⟩),iB (dc (bigOK sig b))]) S:=by
 have hb2:Zs 4294967296 b:=by
  obtain⟨b1,b2,b3,b4,b5,b6,b7⟩:=hb
  exact⟨by omega,fun y hy=>Nat.le_trans (b2 y hy) (by omega),by omega,by omega,fun y hy=>Nat.le_trans (b5 y hy) (by omega),by omega,fun y hy=>Nat.le_trans (b7 y hy) (by omega)⟩
 refine Zb ZiZ (by simp [Zi,low,men,Zj]) ?_
 simp only[ZdL,Zc,EVA,seval,Zj,men]
 refine Za (Jt sig b hn hbs hb2) ?_
 cases h:dc (bigOK sig b)
 ·rw[if_neg (dc_not.1 h)]
  simp only[EVA,seval]
  try rfl
 ·rw[if_pos (dc_iff.1 h)]
  simp only[EVA,seval,Zj,men]
  refine Za (XO b hb) ?_
  simp only[Zi,List.length_map,EVA,seval]
  try rfl
end Go.Fd

namespace Go.Fd
set_option maxRecDepth 20000
theorem Zl8{n:Nat}{k:Nat}(h:k<n):g0 (JC 0 n) k = -1-(k:Int):=by
 show (JC 0 n).getD k 0=_
 rw[List.getD_eq_getElem?_getD,JC,List.getElem?_map,List.getElem?_range h]
 simp
theorem ZhR{b:TBigraph}{n:Nat}(hn:b.roots=n){p:Int}(h:-b.roots<=p):Zdj 0 (JC 0 n) p=p:=by
 unfold Zdj
 split
 ·rw[Zl8 (by omega)];omega
 ·omega
theorem Jo{sig:List TControl}{b:TBigraph}{p below:Int}(hr:0<=b.roots)(h:Ua sig b p below):-b.roots<=p:=by
 rcases h with h | h <;> omega
theorem Zjd(sig:List TControl)(b:TBigraph)(h:bigOK sig b)(ls:List Int)(e:Int)(o:List ByteArray)(hb:Zs 4294967296 b)(hls:∀ l,ZR b l->l<ls.length)(ho:o.length<=4294967290)(lvl:Nat)(S:Sto):Sem Go.Proofs.Tryz.prog XD lvl [.ag ((Zc b).map .tr),tI ls,iI e,.tr (.sl (rS o))] S (Zi (UI b (fun l=>g0 ls l.toNat) e o)) S:=by
 obtain⟨n,hn⟩:∃ n:Nat,b.roots=n:=⟨b.roots.toNat,by have:=h.roots;omega⟩
 have hr:=h.roots
 have hsm:=h.small
 have hpar:∀ p,-b.roots<=p->p<=100->(-4294967296<=p/\p<=4294967296)/\(p<0->(-1-p).toNat<(JC 0 n).length):=fun p h1 h2=>⟨by omega,fun h3=>by rw[rootsN_len];omega⟩
 have hN:∀ x∈b.nodes,x.links.length<=4294967290/\((-4294967296<=x.parent/\x.parent<=4294967296)/\(x.parent<0->(-1-x.parent).toNat<(JC 0 n).length))/\∀ l∈x.links,0<=l/\l<ls.length:=fun x hx=>by
  obtain⟨k,hk,rfl⟩:=List.getElem_of_mem hx
  have hnode:=h.nodes k hk
  have hl:=hsm.links _ hx
  have hnl:=h.nodesL
  refine⟨by omega,hpar _ (Jo hr.1 hnode.par) ?_,fun l hl=>⟨(hnode.links l hl).1,hls l (hnode.links l hl)⟩⟩
  have:=hnode.par
  unfold Ua at this
  omega
 have hP:∀ p∈b.sites,(-4294967296<=p/\p<=4294967296)/\(p<0->(-1-p).toNat<(JC 0 n).length):=fun p hp=>by
  have hu:=h.sites p hp
  have hnl:=h.nodesL
  refine hpar _ (Jo hr.1 hu) ?_
  unfold Ua at hu
  omega
 have hW:∀ w∈b.inner,0<=w.link/\w.link<ls.length:=fun w hw=>⟨(h.inner w hw).1,hls _ (h.inner w hw)⟩
 have e1:b.nodes.map (Zfj 0 (JC 0 n) ls)=(UI b (fun l=>g0 ls l.toNat) e o).nodes:=by
  unfold UI
  refine List.map_congr_left fun x hx=>?_
  obtain⟨k,hk,rfl⟩:=List.getElem_of_mem hx
  unfold Zfj
  rw[ZhR hn (Jo hr.1 (h.nodes k hk).par)]
 have e2:b.sites.map (Zdj 0 (JC 0 n))=b.sites:=by
  have:b.sites.map (Zdj 0 (JC 0 n))=b.sites.map id:=List.map_congr_left fun p hp=>ZhR hn (Jo hr.1 (h.sites p hp))
  rw[this,List.map_id]
 have s1:=hsm.nodes;have s2:=hsm.sites;have s3:=hsm.inner
 refine Zb Ze5 (by simp [Zi,low,men,Zj]) ?_
 simp only[Zam,Zc,hn,EVA,seval,Zj,men]
 refine Za (Dv 0 n (by omega) (by omega)) ?_
 simp only[EVA,seval,Zj,men]
 have q1:=W1 b 0 (JC 0 n) ls (by omega) (by omega) hN
 rw[e1] at q1
 simp only[Zc,hn,List.map_cons,List.map_nil] at q1
 refine Za q1 ?_
 simp only[List.length_map,EVA,seval,Zj,men]
 have q2:=XF b 0 (JC 0 n) (by omega) (by omega) hP
 rw[e2] at q2
 simp only[Zc,hn,List.map_cons,List.map_nil] at q2
 refine Za q2 ?_
 simp only[ZnM,ZnN,List.length_map,EVA,seval,Zj,men]
 refine⟨by omega,?_⟩
 have q3:=Dw b ls (by omega) hW
 rw[show b.inner.map (Zi9 ls)=(UI b (fun l=>g0 ls l.toNat) e o).inner from rfl] at q3
 simp only[Zc,hn,List.map_cons,List.map_nil] at q3
 refine Za q3 ?_
 simp only[List.length_map,EVA,seval]
 rw[<-hn]
 rfl
def JW:TBigraph:=⟨0,[],[],0,[],[]⟩
theorem ZdQ(sig:List TControl)(b:TBigraph)(hn:sig.length<=4294967296)(hbs:∀ y∈sig,Zr 4294967296 y)(hb:Zs 4294967296 b)(hf:Zy b)(hG:bigOK sig b)(lvl:Nat)(S:Sto):Sem Go.Proofs.Tryz.prog Vk lvl [.tr (.sl (sig.map Zh)),.ag ((Zc b).map .tr)] S (.tu [.ag ((Zc b).map .tr),iB true]) S:=by
 refine Zb Zcp (by simp [Zc,low,men,Zj]) ?_
 simp only[Dq,Zc,EVA,seval,Zj,men]
 refine Za (XE sig b hn hbs hb hf) ?_
 rw[ZL hG]
 simp only[EVA,seval]
theorem ZdR(sig:List TControl)(b:TBigraph)(hn:sig.length<=4294967296)(hbs:∀ y∈sig,Zr 4294967296 y)(hb:Zs 4294967296 b)(hf:Zy b)(hG:¬ bigOK sig b)(lvl:Nat)(S:Sto):Sem Go.Proofs.Tryz.prog Vk lvl [.tr (.sl (sig.map Zh)),.ag ((Zc b).map .tr)] S (.tu [Zi JW,iB false]) S:=by
 refine Zb Zcp (by simp [Zi,low,men,Zj]) ?_
 simp only[Dq,Zc,EVA,seval,Zj,men]
 refine Za (XE sig b hn hbs hb hf) ?_
 rw[Zg hG]
 simp only[EVA,seval]
 rfl
def QC(sig:List TControl)(b:TBigraph)(s:ByteArray):Prop:=bigOK sig b/\s∈b.outer/\bigOK sig (Xo b s)
theorem Zl9{b:TBigraph}{s:ByteArray}(h:0<=b.edges):((UY b s).length:Int)=b.edges+b.outer.length:=by
 unfold UY Zlo
 rw[List.length_append,List.length_map,List.length_map,YU]
 omega
theorem Zma{sig:List TControl}{b:TBigraph}{s:ByteArray}(h:bigOK sig b){l:Int}(hl:ZR b l):0<=g0 (UY b s) l.toNat/\g0 (UY b s) l.toNat<=100:=by
 have he:=h.edges
 have ho:=h.outer.2
 unfold UY
 rcases J1 hl with ⟨h0,h1⟩ | ⟨i,hi,rfl⟩
 ·rw[Zbu h0 h1];omega
 ·rw[Zbv h.edges.1 hi]
  split
  ·omega
  ·rename_i hne
   have h1:b.outer[i]∈QB b.outer s:=lessN_mem.2 ⟨List.getElem_mem hi,hne⟩
   have:=ixS_nn.2 h1
   have:=Zln h1
   have:(QB b.outer s).length<=b.outer.length:=List.length_filter_le ..
   omega
theorem Zkg{sig:List TControl}{b:TBigraph}(h:bigOK sig b){F:Int->Int}{e:Int}{o:List ByteArray}(hb:Zs 4294967296 b)(ho:o.length<=100)(hos:∀ y∈o,y.size<=4294967290):Zs 4294967290 (UI b F e o):=by
 obtain⟨b1,b2,b3,b4,b5,b6,b7⟩:=hb
 have hs:=h.small
 have s1:=hs.nodes;have s2:=hs.sites;have s3:=hs.inner
 refine⟨by simp only[UI,List.length_map];omega,fun y hy=>?_,by simp only[UI];omega,by simp only[UI];omega,hos,by simp only[UI,List.length_map];omega,fun y hy=>?_⟩
 ·obtain⟨x,hx,rfl⟩:=List.mem_map.1 hy
  have:=hs.links x hx
  simp only[ZiP,List.length_map]
  omega
 ·obtain⟨w,hw,rfl⟩:=List.mem_map.1 hy
  have hn:w.name∈inn b:=List.mem_map.2 ⟨w,hw,rfl⟩
  obtain⟨i,hi,hie⟩:=List.getElem_of_mem hn
  have:=(h.inn.1 i hi).1.2.2
  rw[hie] at this
  simp only[ZdB]
  omega
theorem ZnR{sig:List TControl}{b:TBigraph}(h:bigOK sig b){F:Int->Int}{e:Int}{o:List ByteArray}(hf:Zy b)(hF:∀ l,ZR b l->0<=F l/\F l<=100)(he:Xt .i64 e):Zy (UI b F e o):=by
 obtain⟨f1,f2,f3,f4,f5⟩:=hf
 refine⟨f1,fun y hy=>?_,f3,he,fun y hy=>?_⟩
 ·obtain⟨x,hx,rfl⟩:=List.mem_map.1 hy
  have hq:=f2 x hx
  obtain⟨i,hi,hie⟩:=List.getElem_of_mem hx
  refine⟨hq.1,hq.2.1,fun l hl=>?_⟩
  obtain⟨l0,hl0,rfl⟩:=List.mem_map.1 hl
  have:=hF l0 ((h.nodes i hi).links l0 (by rw[hie];exact hl0))
  rw[Zd];omega
 ·obtain⟨w,hw,rfl⟩:=List.mem_map.1 hy
  have:=hF _ (h.inner w hw)
  show Xt .i64 (F w.link)
  rw[Zd];omega
theorem Yg{l:List ByteArray}(h:Vt l){s:ByteArray}(hs:s∈l):s.size<=4:=by
 obtain⟨i,hi,rfl⟩:=List.getElem_of_mem hs
 exact(h.1 i hi).1.2.2
theorem ZhS{sig:List TControl}{b:TBigraph}{s:ByteArray}(h:bigOK sig b)(hb:Zs 4294967296 b):Zs 4294967290 (Xo b s) :=
 Zkg h hb (Nat.le_trans (List.length_filter_le ..) (by have:=h.outer.2;omega)) fun y hy=>by
  have:=Yg h.outer (lessN_mem.1 hy).1
  omega
theorem ZhT{sig:List TControl}{b:TBigraph}{s:ByteArray}(h:bigOK sig b)(hf:Zy b):Zy (Xo b s) :=
 ZnR h hf (fun l hl=>Zma h hl) (by have:=h.edges;rw[Zd];omega)
end Go.Fd

namespace Go.Fd
set_option maxRecDepth 20000
open Classical in
noncomputable def JX(sig:List TControl)(b:TBigraph)(s:ByteArray):TBigraph:=if QC sig b s then Xo b s else JW
noncomputable def JY(sig:List TControl)(b:TBigraph)(s:ByteArray):Bool:=dc (QC sig b s)
theorem QD{a c:Nat}{b:TBigraph}(h:a<=c)(hb:Zs a b):Zs c b:=by
 obtain⟨b1,b2,b3,b4,b5,b6,b7⟩:=hb
 exact⟨by omega,fun y hy=>Nat.le_trans (b2 y hy) h,by omega,by omega,fun y hy=>Nat.le_trans (b5 y hy) h,by omega,fun y hy=>Nat.le_trans (b7 y hy) h⟩
theorem Xp{sig:List TControl}{b:TBigraph}(h:bigOK sig b):Zs 1000 b:=by
 have hs:=h.small
 have s1:=hs.nodes;have s2:=hs.sites;have s3:=hs.inner;have s4:=hs.outer
 refine⟨by omega,fun y hy=>hs.links y hy,by omega,by omega,fun y hy=>?_,by omega,fun w hw=>?_⟩
 ·have:=Yg h.outer hy;omega
 ·have hn:w.name∈inn b:=List.mem_map.2 ⟨w,hw,rfl⟩
  have:=Yg h.inn hn
  simp only[ZdB]
  omega
theorem Zf7(sig:List TControl)(b:TBigraph)(s:ByteArray)(h:bigOK sig b)(hs:s∈b.outer)(lvl:Nat)(S:Sto):Sem Go.Proofs.Tryz.prog J7 lvl [.ag ((Zc b).map .tr),iS s] S (Zi (Xo b s)) S:=by
 have hsm:=h.small
 have s4:=hsm.outer
 have he:=h.edges
 have hle:(QB b.outer s).length<=16:=Nat.le_trans (List.length_filter_le ..) s4
 refine Zb UB (by simp [Zi,low,men,Zj]) ?_
 simp only[Qc,Zc,EVA,seval,Zj,men]
 refine⟨by rw[Zd];omega,?_⟩
 refine Za (Zfr b.outer s (by omega)) ?_
 simp only[EVA,seval,Zj,men]
 have q:=Uo b (b.edges+1) (QB b.outer s) Jh [[ts s],Zc b] (ZgC b s) he.1 (QD (by omega) (Xp h)) (by omega) (by omega) (by omega) (fun x hx l hl=>by
  obtain⟨k,hk,rfl⟩:=List.getElem_of_mem hx
  exact(h.nodes k hk).links l hl) h.inner (fun l hl lvl S=>Zd4 b s (Zeo b l) lvl S)
 rw[ZpW h hs] at q
 simp only[Zc,List.map_cons,List.map_nil] at q
 refine Za q ?_
 simp only[Zi,List.length_map,EVA,seval]
theorem ZcF(sig:List TControl)(b:TBigraph)(s:ByteArray)(hn:sig.length<=4294967296)(hbs:∀ y∈sig,Zr 4294967296 y)(hb:Zs 4294967296 b)(_hs:s.size<=4294967296)(hf:Zy b)(lvl:Nat)(S:Sto):Sem Go.Proofs.Tryz.prog Xb lvl [.tr (.sl (sig.map Zh)),.ag ((Zc b).map .tr),iS s] S (.tu [Zi (JX sig b s),iB (JY sig b s)]) S:=by
 refine Zb Zd3 (by simp [Zi,low,men,Zj]) ?_
 simp only[DK,Zc,EVA,seval,Zj,men]
 refine Za (Jt sig b hn hbs hb) ?_
 unfold JX JY
 cases h1:dc (bigOK sig b)
 ·have hno:¬ QC sig b s:=fun g=>dc_not.1 h1 g.1
  rw[if_neg hno,Zg hno]
  simp only[EVA,seval]
  rfl
 have hG:=dc_iff.1 h1
 simp only[EVA,seval,Zj,men]
 refine Za (Dx b.outer s (by have:=hb.2.2.2.1;omega)) ?_
 cases h2:dc (s∈b.outer)
 ·have hno:¬ QC sig b s:=fun g=>dc_not.1 h2 g.2.1
  rw[if_neg hno,Zg hno]
  simp only[EVA,seval]
  rfl
 have hM:=dc_iff.1 h2
 simp only[EVA,seval,Zj,men]
 have q:=Zf7 sig b s hG hM
 simp only[Zc,List.map_cons,List.map_nil] at q
 refine Za q ?_
 simp only[Zi,EVA,seval,Zj,men]
 have qv:=ZcE sig (Xo b s) hn hbs (ZhS hG hb) (ZhT hG hf)
 simp only[Zc,List.map_cons,List.map_nil] at qv
 refine Za qv ?_
 cases h3:dc (bigOK sig (Xo b s))
 ·have hno:¬ QC sig b s:=fun g=>dc_not.1 h3 g.2.2
  rw[if_neg hno,Zg hno,if_neg (dc_not.1 h3)]
  simp only[Zi,EVA,seval]
  rfl
 ·have hyes:QC sig b s:=⟨hG,hM,dc_iff.1 h3⟩
  rw[if_pos hyes,ZL hyes,if_pos (dc_iff.1 h3)]
  simp only[Zi,List.length_map,EVA,seval]
theorem ZgE{n:Nat}:Uc 0 n=(Wn n).map fun l=>l:=by simp [Uc,Wn]
theorem ZsC{o:List ByteArray}{s:ByteArray}(hp:o.Pairwise ltS)(hs:s∈o){j:Nat}(h:j<o.length):(j:Int)=ixS o s↔o[j]=s:=by
 obtain⟨k,hk,rfl⟩:=List.getElem_of_mem hs
 rw[ZvZ hp hk]
 constructor
 ·intro e
  have:j=k:=by omega
  subst this;rfl
 ·intro e
  have:=ZvY hp h hk e
  omega
def Zmb(b:TBigraph)(g:ByteArray->Int)(j:Nat):List Int:=(Wn b.edges.toNat).map (fun l=>l)++(b.outer.take j).map g
theorem ZpY{b:TBigraph}{g:ByteArray->Int}{j:Nat}(h:j<=b.outer.length):(Zmb b g j).length=b.edges.toNat+j:=by
 unfold Zmb
 rw[List.length_append,List.length_map,List.length_map,YU,List.length_take]
 omega
theorem ZnS{b:TBigraph}{g:ByteArray->Int}{j:Nat}(h:j<b.outer.length):Zmb b g (j+1)=Zmb b g j++[g b.outer[j]]:=by
 unfold Zmb
 rw[List.take_succ_eq_append_getElem h,List.map_append,List.append_assoc]
 rfl
theorem Zf8(sig:List TControl)(b:TBigraph)(s:ByteArray)(hn:sig.length<=4294967296)(hbs:∀ y∈sig,Zr 4294967296 y)(hb:Zs 4294967296 b)(hf:Zy b)(hno:¬ (bigOK sig b/\s∈b.outer))(lvl:Nat)(S:Sto):Sem Go.Proofs.Tryz.prog JJ lvl [.tr (.sl (sig.map Zh)),.ag ((Zc b).map .tr),iS s] S (.tu [Zi JW,iB false]) S:=by
 refine Zb DL (by simp [Zi,low,men,Zj]) ?_
 simp only[Wg,Zc,EVA,seval,Zj,men]
 refine Za (Du b.outer s (by have:=hb.2.2.2.1;omega)) ?_
 simp only[EVA,seval,Zj,men]
 refine Za (XE sig b hn hbs hb hf) ?_
 cases h1:dc (bigOK sig b)
 ·simp only[EVA,seval]
  rfl
 have hG:=dc_iff.1 h1
 have hm:s ∉ b.outer:=fun g=>hno ⟨hG,g⟩
 have e:=Zlm hm
 simp only[e,EVA,seval]
 rfl
theorem UZ(sig:List TControl)(b:TBigraph)(s:ByteArray)(hn:sig.length<=4294967296)(hbs:∀ y∈sig,Zr 4294967296 y)(hb:Zs 4294967296 b)(hf:Zy b)(hG:bigOK sig b)(hM:s∈b.outer)
  (lvl:Nat) (S:Sto):Sem Go.Proofs.Tryz.prog JJ lvl [.tr (.sl (sig.map Zh)),.ag ((Zc b).map .tr),iS s] S (.tu [@ite IV (bigOK sig (Xo b s)) (Classical.propDecidable _) (.ag ((Zc (Xo b s)).map .tr)) (Zi JW),iB (dc (bigOK sig (Xo b s)))]) S:=by
 have hsm:=hG.small
 have s4:=hsm.outer
 have he:=hG.edges
 have hp:=ZhQ hG.outer
 have hix:=ixS_nn.2 hM
 have hle:(QB b.outer s).length<=16:=Nat.le_trans (List.length_filter_le ..) s4
 refine Zb DL (by split <;> simp [Zi,Zc,low,men,Zj]) ?_
 simp only[Wg,Zc,EVA,seval,Zj,men]
 refine Za (Du b.outer s (by omega)) ?_
 simp only[EVA,seval,Zj,men]
 refine Za (XE sig b hn hbs hb hf) ?_
 rw[ZL hG]
 have hnl:¬ ixS b.outer s<0:=by omega
 simp only[hnl,EVA,seval,Zj,men]
 refine Za (Zl6 b.outer s (by omega)) ?_
 simp only[EVA,seval,Zj,men]
 obtain⟨n,hn2⟩:∃ n:Nat,b.edges=n:=⟨b.edges.toNat,by omega⟩
 have qE:=W0 0 n (by omega) (by omega)
 obtain⟨g,hg⟩:∃ g:ByteArray->Int,g=fun x=>if x=s then b.edges else b.edges+1+ixS (QB b.outer s) x:=⟨_,rfl⟩
 have e0:Uc 0 n=Zmb b g 0:=by
  unfold Zmb
  rw[ZgE,show b.edges.toNat=n from by omega]
  simp
 rw[<-hn2,e0] at qE
 refine Za qE ?_
 simp only[List.length_map,EVA,seval]
 refine ZB (α:=Unit) b.outer.length (fun j _=>[(10,.hd (lvl,992) [] 0 (Zmb b g j).length none (Zmb b g j).length),(11,iI j)]) (fun j _=>[(992,.ar 1 (rI (Zmb b g j)) true (Zmb b g j).length 0)]) (fun _ _=>True) () (by simp only[EVA,seval]) (by (simp only[EVA,seval]) <;> rfl) trivial ?_
 intro j _ hj _
 simp only[List.length_map,EVA,seval,Zj,men]
 refine Zn (fun hlt=>?_) (fun hge=>?_)
 ·have hja:j<b.outer.length:=by omega
  have ga:=Zen (e0:=e0S) (c:=fun n:ByteArray=>[ts n]) hja
  rw[Ub hja] at ga
  have htl:=ZpY (b:=b) (g:=g) hj
  have hs:=ZnS (b:=b) (g:=g) hja
  have hiff:=ZsC hp hM hja
  by_cases hx:b.outer[j]=s
  ·have hx2:=hiff.2 hx
   have hgx:g b.outer[j]=b.edges:=by rw[hg];simp [hx]
   rw[hgx] at hs
   have hx3:ixS b.outer s=(j:Int):=hx2.symm
   simp only[hx3,seval]
   exact⟨by omega,by rw[Zd];omega,Ze () hja (by rw[hs,List.length_append,Yx];rfl) trivial⟩
  ·have hx3:¬ (j:Int)=ixS b.outer s:=fun e=>hx (hiff.1 e)
   have hgx:g b.outer[j]=b.edges+1+ixS (QB b.outer s) b.outer[j]:=by rw[hg];simp [hx]
   rw[hgx] at hs
   have hm:b.outer[j]∈QB b.outer s:=lessN_mem.2 ⟨List.getElem_mem hja,hx⟩
   have:=ixS_nn.2 hm
   have:=Zln hm
   simp only[hx3,ga,EVA,seval,Zj,men]
   refine⟨by rw[Zd];omega,?_⟩
   refine Za (Du (QB b.outer s) b.outer[j] (by omega)) ?_
   simp only[List.length_map,EVA,seval]
   have:(QB b.outer s).length<=16:=hle
   exact⟨by rw[Zd];omega,by omega,by rw[Zd];omega,Ze () hja (by rw[hs,List.length_append,Yx];rfl) trivial⟩
 ·have:j=b.outer.length:=by omega
  subst this
  have hfin:Zmb b g b.outer.length=UY b s:=by rw[hg,Zmb,List.take_length];rfl
  rw[hfin]
  refine⟨by rw[Zd];omega,?_⟩
  rw[show cut (rI (UY b s)) 0 (UY b s).length=rI (UY b s) from Yb (by rw[List.length_map])]
  have qR:=Zjd sig b hG (UY b s) (b.edges+1) (QB b.outer s) hb (fun l hl=>by rw[Zl9 he.1];have:=hl.2;omega) (by omega)
  rw[show UI b (fun l=>g0 (UY b s) l.toNat) (b.edges+1) (QB b.outer s)=Xo b s from rfl] at qR
  simp only[Zc,List.map_cons,List.map_nil] at qR
  refine Za qR ?_
  simp only[Zi,EVA,seval,Zj,men]
  by_cases hq:bigOK sig (Xo b s)
  ·have qG:=ZdQ sig (Xo b s) hn hbs (QD (by omega) (ZhS hG hb)) (ZhT hG hf) hq
   simp only[Zc,List.map_cons,List.map_nil] at qG
   rw[if_pos hq,ZL hq]
   refine Za qG ?_
   simp only[EVA,seval]
  ·have qG:=ZdR sig (Xo b s) hn hbs (QD (by omega) (ZhS hG hb)) (ZhT hG hf) hq
   simp only[Zc,List.map_cons,List.map_nil] at qG
   rw[if_neg hq,Zg hq]
   refine Za qG ?_
   simp only[Zi,List.length_map,EVA,seval]
   try rfl
theorem Za2(sig:List TControl)(b:TBigraph)(s:ByteArray)(hn:sig.length<=4294967296)(hbs:∀ y∈sig,Zr 4294967296 y)(hb:Zs 4294967296 b)(_hs:s.size<=4294967296)(hf:Zy b)(hB:QC sig b s)(lvl:Nat)(S:Sto):Sem Go.Proofs.Tryz.prog JJ lvl [.tr (.sl (sig.map Zh)),.ag ((Zc b).map .tr),iS s] S (.tu [.ag ((Zc (JX sig b s)).map .tr),iB (JY sig b s)]) S:=by
 have h:=UZ sig b s hn hbs hb hf hB.1 hB.2.1 lvl S
 unfold JX JY
 rw[if_pos hB,ZL hB]
 rw[if_pos hB.2.2,ZL hB.2.2] at h
 exact h
theorem Za3(sig:List TControl)(b:TBigraph)(s:ByteArray)(hn:sig.length<=4294967296)(hbs:∀ y∈sig,Zr 4294967296 y)(hb:Zs 4294967296 b)(_hs:s.size<=4294967296)(hf:Zy b)(hB:¬ QC sig b s)(lvl:Nat)(S:Sto):Sem Go.Proofs.Tryz.prog JJ lvl [.tr (.sl (sig.map Zh)),.ag ((Zc b).map .tr),iS s] S (.tu [Zi (JX sig b s),iB (JY sig b s)]) S:=by
 unfold JX JY
 rw[if_neg hB,Zg hB]
 by_cases hl:bigOK sig b/\s∈b.outer
 ·have h:=UZ sig b s hn hbs hb hf hl.1 hl.2 lvl S
  have hq:¬ bigOK sig (Xo b s):=fun g=>hB ⟨hl.1,hl.2,g⟩
  rw[if_neg hq,Zg hq] at h
  exact h
 ·exact Zf8 sig b s hn hbs hb hf hl lvl S
end Go.Fd

namespace Go.Fd
set_option maxRecDepth 20000
theorem ZhU{n k:Nat}(h:k<n):g0 (Wn n) k=k:=by
 show (Wn n).getD k 0=_
 rw[List.getD_eq_getElem?_getD,Wn,List.getElem?_map,List.getElem?_range h]
 simp
theorem ZcG(p:Int)(n:Nat)(h:p<n)(lvl:Nat)(S:Sto):Sem Go.Proofs.Tryz.prog Xd lvl [iI p,tI (Wn n)] S (iI p) S:=by
 refine Zb Zhz trivial ?_
 simp only[Zch,EVA,seval]
 refine Zn (fun hlt=>?_) (fun hge=>?_)
 ·trivial
 ·obtain⟨k,rfl⟩:∃ k:Nat,p=k:=⟨p.toNat,by omega⟩
  have hk:k<(Wn n).length:=by rw[YU];omega
  have ga:=VL hk
  rw[ZhU (by omega)] at ga
  simp only[ga,EVA,seval]
  try rfl
theorem ZdS(b:TBigraph)(l:Int)(n:Nat)(hn:b.edges=n)(h:0<=l)(lvl:Nat)(S:Sto):Sem Go.Proofs.Tryz.prog XL lvl [.ag ((Zc b).map .tr),iI l,tI (Wn n)] S (iI l) S:=by
 refine Zb ZiW trivial ?_
 simp only[ZdI,Zc,hn,EVA,seval]
 refine Zn (fun hlt=>?_) (fun hge=>?_)
 ·trivial
 ·obtain⟨k,rfl⟩:∃ k:Nat,l=k:=⟨l.toNat,by omega⟩
  have hk:k<(Wn n).length:=by rw[YU];omega
  have ga:=VL hk
  rw[ZhU (by omega)] at ga
  simp only[ga,EVA,seval]
  try rfl
def ZbH(l:List TNode)(j:Nat):Row:=(l.take j).map Z9++List.replicate (l.length-j) [tv 0,tv 0,Tr.sl []]
theorem ZsD{l:List TNode}:List.replicate l.length [tv 0,tv 0,Tr.sl []]=ZbH l 0:=by simp [ZbH]
theorem ZsE{l:List TNode}:ZbH l l.length=l.map Z9:=by simp [ZbH]
theorem ZnT{l:List TNode}{j:Nat}(h:j<=l.length):(ZbH l j).length=l.length:=by simp [ZbH];omega
theorem ZnU{l:List TNode}{j:Nat}(h:j<l.length):(ZbH l j)[j]? = some [tv 0,tv 0,Tr.sl []]:=by
 have:(((l.take j).map Z9)).length=j:=by rw[List.length_map,List.length_take];omega
 rw[ZbH,List.getElem?_append_right (by omega),this,List.getElem?_replicate]
 rw[if_pos (by omega)]
theorem ZnV{l:List TNode}{j:Nat}(h:j<l.length):(ZbH l j).set j (Z9 l[j])=ZbH l (j+1):=by
 have e:(((l.take j).map Z9)).length=j:=by rw[List.length_map,List.length_take];omega
 rw[ZbH,List.set_append_right _ _ (by omega),e,Nat.sub_self]
 rw[show l.length-j=(l.length-(j+1))+1 by omega,List.replicate_succ,List.set_cons_zero,ZbH,List.take_succ_eq_append_getElem h,List.map_append,List.append_assoc]
 rfl
theorem ZhV{R:Row}{j k:Nat}{e:List Tr}{t:Tr}(h:R[j]? = some e):YK R [] j k t=R.set j (e.set k t):=by
 simp only[YK,h]
theorem ZhW{R:Row}{j:Nat}{e:List Tr}(h:j<R.length):(R.set j e)[j]? = some e:=List.getElem?_set_self h
theorem Zdl(b:TBigraph)(n E:Nat)(hn:b.nodes.length=n)(hE:b.edges=E)(hbd:Zs 4294967290 b)(hE2:E<=4294967290)(hp:∀ x∈b.nodes,x.parent<n/\∀ l∈x.links,0<=l)(hs:∀ p∈b.sites,p<n)(hw:∀ w∈b.inner,0<=w.link)(lvl:Nat)(S:Sto):Sem Go.Proofs.Tryz.prog Qw lvl [.ag ((Zc b).map .tr),tI (Wn n),tI (Wn E)] S (Zi b) S:=by
 refine Zb Zdb (by simp [Zi,low,men,Zj]) ?_
 simp only[US,Zc,ZnM,ZnN,Nat.zero_max,List.length_map,EVA,seval]
 obtain⟨b1,b2,b3,b4,b5,b6,b7⟩:=hbd
 refine⟨by omega,by omega,?_⟩
 refine ZB (α:=Unit) b.nodes.length (fun j _=>[(8,iI j)]) (fun j _=>[(576,.ar 3 (ZbH b.nodes j) true b.nodes.length j)]) (fun _ _=>True) () (by simp only[EVA,seval]) (by (simp only[ZsD,EVA,seval]) <;> rfl) trivial ?_
 intro j _ hj _
 simp only[List.length_map,EVA,seval]
 refine Zn (fun hlt=>?_) (fun hge=>?_)
 ·have hja:j<b.nodes.length:=by omega
  have ga:=W9 (c:=Z9) hja
  have hkl:b.nodes[j].links.length<=4294967290:=b2 _ (List.getElem_mem hja)
  obtain⟨p1,p2⟩:=hp _ (List.getElem_mem hja)
  refine ZB (α:=Unit) b.nodes[j].links.length (fun k _=>[(9,.hd (lvl,1056) [] 0 k none k),(10,iI k)]) (fun k _=>[(1056,.ar 1 (rI (b.nodes[j].links.take k)) true k 0)]) (fun _ _=>True) () (by simp only[EVA,seval]) (by (simp only[EVA,seval]) <;> rfl) trivial ?_
  intro k _ hk _
  simp only[ga,Z9,List.length_map,EVA,seval]
  refine Zn (fun hlt2=>?_) (fun hge2=>?_)
  ·have hka:k<b.nodes[j].links.length:=by omega
   have gl:=VL hka
   have e0:g0 b.nodes[j].links k=b.nodes[j].links[k]:=by simp [hka]
   have hq:=p2 _ (List.getElem_mem hka)
   rw[<-e0] at hq
   have hl3:(b.nodes[j].links.take k).length=k:=by rw[List.length_take];omega
   have hs:rI (b.nodes[j].links.take k)++[[tv (g0 b.nodes[j].links k)]]=rI (b.nodes[j].links.take (k+1)):=by
    rw[List.take_succ_eq_append_getElem hka,Yx,<-e0]
    rfl
   simp only[gl,EVA,seval,Zj,men]
   have q:=ZdS b (g0 b.nodes[j].links k) E hE hq
   simp only[Zc,List.map_cons,List.map_nil] at q
   refine Za q ?_
   simp only[hl3,hs,List.length_map,EVA,seval]
   exact⟨by omega,by rw[Zd];omega,Ze () hka rfl trivial⟩
  ·have:k=b.nodes[j].links.length:=by omega
   subst this
   rw[List.take_length]
   rw[<-hn] at p1
   have hj2:(Wn n).length=n:=YU
   have gu:=VL (l:=Wn n) (i:=j) (by omega)
   rw[ZhU (by omega)] at gu
   have q:=ZcG b.nodes[j].parent n (by omega)
   have g1:=ZnU hja
   have hfl:=ZnT (Nat.le_of_lt hja)
   have hst:=ZnV hja
   simp only[ga,Z9,gu,EVA,seval,Zj,men]
   refine Za q ?_
   have t1:=ZhV (k:=0) (t:=Tr.v (.int .i64 b.nodes[j].control)) g1
   simp only[List.set_cons_zero] at t1
   have t2:=ZhV (k:=1) (t:=Tr.v (.int .i64 b.nodes[j].parent)) (ZhW (e:=[Tr.v (.int .i64 b.nodes[j].control),tv 0,Tr.sl []]) (by rw[hfl];exact hja))
   simp only[List.set_cons_zero,List.set_cons_succ,List.set_set] at t2
   have t3:=ZhV (k:=2) (t:=Tr.sl (rI b.nodes[j].links)) (ZhW (e:=[Tr.v (.int .i64 b.nodes[j].control),Tr.v (.int .i64 b.nodes[j].parent),Tr.sl []]) (by rw[hfl];exact hja))
   simp only[List.set_cons_zero,List.set_cons_succ,List.set_set] at t3
   have hst':(ZbH b.nodes j).set j [Tr.v (.int .i64 b.nodes[j].control),Tr.v (.int .i64 b.nodes[j].parent),Tr.sl (rI b.nodes[j].links)]=ZbH b.nodes (j+1):=hst
   rw[hst'] at t3
   have g2:=ZhW (e:=[Tr.v (.int .i64 b.nodes[j].control),tv 0,Tr.sl []]) (by rw[hfl];exact hja)
   have g3:=ZhW (e:=[Tr.v (.int .i64 b.nodes[j].control),Tr.v (.int .i64 b.nodes[j].parent),Tr.sl []]) (by rw[hfl];exact hja)
   simp only[g1,g2,g3,t1,t2,t3,hja,List.length_map,EVA,seval]
   exact⟨by rw[Zd];omega,Ze () hja rfl trivial⟩
 ·have:j=b.nodes.length:=by omega
  subst this
  rw[ZsE]
  refine ZB (α:=Unit) b.sites.length (fun j _=>[(11,iI j)]) (fun j _=>[(224,.bx [iI b.roots,.hd (lvl,576) [] 0 b.nodes.length none b.nodes.length,.hd (lvl,800) [] 0 j none j,iI b.edges,.hd (lvl,672) [] 0 b.outer.length none b.outer.length,.hd (lvl,801) [] 0 0 none 0]),(800,.ar 1 (rI (b.sites.take j)) true j 0)]) (fun _ _=>True) () (by simp only[EVA,seval]) (by (simp only[EVA,seval]) <;> rfl) trivial ?_
  intro j _ hj _
  simp only[List.length_map,EVA,seval]
  refine Zn (fun hlt=>?_) (fun hge=>?_)
  ·have hja:j<b.sites.length:=by omega
   have ga:=VL hja
   have e0:g0 b.sites j=b.sites[j]:=by simp [hja]
   have hq:=hs _ (List.getElem_mem hja)
   rw[<-e0] at hq
   have hl3:(b.sites.take j).length=j:=by rw[List.length_take];omega
   have hs:rI (b.sites.take j)++[[tv (g0 b.sites j)]]=rI (b.sites.take (j+1)):=by
    rw[List.take_succ_eq_append_getElem hja,Yx,<-e0]
    rfl
   simp only[ga,EVA,seval,Zj,men]
   refine Za (ZcG (g0 b.sites j) n hq) ?_
   simp only[hl3,hs,List.length_map,EVA,seval]
   exact⟨by omega,by rw[Zd];omega,Ze () hja rfl trivial⟩
  ·have:j=b.sites.length:=by omega
   subst this
   rw[List.take_length]
   refine ZB (α:=Unit) b.inner.length (fun j _=>[(12,iI j)]) (fun j _=>[(224,.bx [iI b.roots,.hd (lvl,576) [] 0 b.nodes.length none b.nodes.length,.hd (lvl,800) [] 0 b.sites.length none b.sites.length,iI b.edges,.hd (lvl,672) [] 0 b.outer.length none b.outer.length,.hd (lvl,801) [] 0 j none j]),(801,.ar 2 ((b.inner.take j).map Jc) true j 0)]) (fun _ _=>True) () (by simp only[EVA,seval]) (by (simp only[EVA,seval]) <;> rfl) trivial ?_
   intro j _ hj _
   simp only[List.length_map,EVA,seval]
   refine Zn (fun hlt=>?_) (fun hge=>?_)
   ·have hja:j<b.inner.length:=by omega
    have ga:=W9 (c:=Jc) hja
    have hq:=hw _ (List.getElem_mem hja)
    have hl3:(b.inner.take j).length=j:=by rw[List.length_take];omega
    have hs:(b.inner.take j).map Jc++[[ts b.inner[j].name,tv b.inner[j].link]]=(b.inner.take (j+1)).map Jc:=by
     rw[List.take_succ_eq_append_getElem hja,List.map_append]
     rfl
    simp only[ga,Jc,EVA,seval,Zj,men]
    have q:=ZdS b b.inner[j].link E hE hq
    simp only[Zc,List.map_cons,List.map_nil] at q
    refine Za q ?_
    simp only[hl3,hs,List.length_map,EVA,seval]
    exact⟨by omega,by rw[Zd];omega,Ze () hja rfl trivial⟩
   ·have:j=b.inner.length:=by omega
    subst this
    rw[List.take_length]
    exact⟨rfl,rfl⟩
theorem Zfs(b:TBigraph)(E:Nat)(hE:b.edges=E)(hbd:Zs 4294967290 b)(hE2:E<=4294967290)(hp:∀ x∈b.nodes,x.parent<b.nodes.length/\∀ l∈x.links,0<=l)(hs:∀ p∈b.sites,p<b.nodes.length)(hw:∀ w∈b.inner,0<=w.link)(lvl:Nat)(S:Sto):Sem Go.Proofs.Tryz.prog Y2 lvl [.ag ((Zc b).map .tr)] S (Zi b) S:=by
 refine Zb ZiT (by simp [Zi,low,men,Zj]) ?_
 simp only[ZdF,Zc,EVA,seval]
 have b1:=hbd.1
 refine ZB (α:=Unit) b.nodes.length (fun j _=>[(3,.hd (lvl,224) [] 0 j none j),(5,iI j)]) (fun j _=>[(224,.ar 1 (rI (Wn j)) true j 0)]) (fun _ _=>True) () (by simp only[EVA,seval]) (by (simp only[EVA,seval]) <;> rfl) trivial ?_
 intro j _ hj _
 simp only[List.length_map,EVA,seval]
 refine Zn (fun hlt=>?_) (fun hge=>?_)
 ·have hja:j<b.nodes.length:=by omega
  have hl:(Wn j).length=j:=YU
  have hs:rI (Wn j)++[[tv (j:Int)]]=rI (Wn (j+1)):=by simp [Wn,rI,List.range_succ]
  simp only[hl,hs,EVA,seval]
  exact⟨by omega,by rw[Zd];omega,Ze () hja rfl trivial⟩
 ·have:j=b.nodes.length:=by omega
  subst this
  refine ZB (α:=Unit) E (fun j _=>[(4,.hd (lvl,256) [] 0 j none j),(6,iI j)]) (fun j _=>[(256,.ar 1 (rI (Wn j)) true j 0)]) (fun _ _=>True) () (by simp only[EVA,seval]) (by (simp only[EVA,seval]) <;> rfl) trivial ?_
  intro j _ hj _
  simp only[hE,List.length_map,EVA,seval,Zj,men]
  refine Zn (fun hlt=>?_) (fun hge=>?_)
  ·have hja:j<E:=by omega
   have hl:(Wn j).length=j:=YU
   have hs:rI (Wn j)++[[tv (j:Int)]]=rI (Wn (j+1)):=by simp [Wn,rI,List.range_succ]
   simp only[hl,hs,EVA,seval]
   exact⟨by omega,by rw[Zd];omega,Ze () hja rfl trivial⟩
  ·have:j=E:=by omega
   subst this
   have l1:(Wn b.nodes.length).length=b.nodes.length:=YU
   have l2:(Wn j).length=j:=YU
   have q:=Zdl b b.nodes.length j rfl hE hbd hE2 hp hs hw
   simp only[Zc,List.map_cons,List.map_nil,hE] at q
   rw[show cut (rI (Wn b.nodes.length)) 0 b.nodes.length=rI (Wn b.nodes.length) from Yb (by rw[List.length_map,l1]),show cut (rI (Wn j)) 0 j=rI (Wn j) from Yb (by rw[List.length_map,l2])]
   refine⟨by omega,by omega,Za q ?_⟩
   simp only[Zi,hE,List.length_map,EVA,seval]
   try rfl
theorem Zmc{F:Int->Int}{l:List TNode}{j:Nat}(h:j<l.length):(YV F l j).set j ⟨l[j].control,l[j].parent,Yz F l[j].links 0⟩=YV F l j:=by
 have:(⟨l[j].control,l[j].parent,Yz F l[j].links 0⟩:TNode)=l[j]:=by simp [Yz]
 rw[this]
 have hl:j<(YV F l j).length:=by rw[ZcC];exact h
 have e:l[j]=(YV F l j)[j]:=by
  have:=Zfn (F:=F) h
  rw[List.getElem?_eq_getElem hl] at this
  exact(Option.some.inj this).symm
 rw[e]
 exact List.set_getElem_self hl
theorem Zmd{F:Int->Int}{l:List Int}{k:Nat}(h:k<l.length)(hf:F (g0 l k)=g0 l k):Yz F l (k+1)=Yz F l k:=by
 rw[<-Zfm h,hf]
 have e:g0 l k=(Yz F l k)[k]'(by rw[Zaw];exact h):=by
  have:=Zfl (F:=F) h
  rw[<-this]
  simp [Zaw,h]
 rw[e]
 exact List.set_getElem_self _
theorem Zme{F:Int->Int}{l:List TWire}{j:Nat}(h:j<l.length)(hf:F l[j].link=l[j].link):W2 F l (j+1)=W2 F l j:=by
 rw[<-Zfp h]
 have hl:j<(W2 F l j).length:=by rw[ZnQ];exact h
 have e:ZaT F l[j]=(W2 F l j)[j]:=by
  have:=Zfo (F:=F) h
  rw[List.getElem?_eq_getElem hl] at this
  rw[Option.some.inj this,ZaT,hf]
 rw[e]
 exact List.set_getElem_self hl
def ZoV(b:TBigraph)(names o:List ByteArray)(l:Int):Int:=if b.edges<=l then b.edges+ixS o (gS names (l-b.edges).toNat) else l
theorem Zkh(b:TBigraph)(names o:List ByteArray)(E:Nat)(hE:b.edges=E)(hbd:Zs 4294967290 b)(hE2:E<=4294967290)(hp:∀ x∈b.nodes,x.parent<b.nodes.length/\∀ l∈x.links,0<=l/\l<E+names.length)(hs:∀ p∈b.sites,p<b.nodes.length)(hw:∀ w∈b.inner,0<=w.link/\w.link<E+names.length)(hn:names.length<=4294967290)(ho:o.length<=4294967290)(lvl:Nat)(S:Sto):Sem Go.Proofs.Tryz.prog Qm lvl [.ag ((Zc b).map .tr),.tr (.sl (rS names)),.tr (.sl (rS o))] S (Zi (UI b (ZoV b names o) b.edges o)) S:=by
 refine Zb ZfZ (by simp [Zi,low,men,Zj]) ?_
 simp only[Zbo,Zc,EVA,seval,Zj,men]
 have q:=Zfs b E hE hbd hE2 (fun x hx=>⟨(hp x hx).1,fun l hl=>((hp x hx).2 l hl).1⟩) hs (fun w hh=>(hw w hh).1)
 simp only[Zc,List.map_cons,List.map_nil] at q
 refine Za q ?_
 simp only[Zi,ZnM,ZnN,Nat.zero_max,List.length_map,EVA,seval]
 obtain⟨b1,b2,b3,b4,b5,b6,b7⟩:=hbd
 refine⟨by omega,?_⟩
 have hFdef:∃ F,F=ZoV b names o:=⟨_,rfl⟩
 obtain⟨F,hF⟩:=hFdef
 rw[<-hF]
 refine ZB (α:=Unit) b.nodes.length (fun j _=>[(8,iI j)]) (fun j _=>[(448,.ar 3 ((YV F b.nodes j).map Z9) true b.nodes.length 0)]) (fun _ _=>True) () (by simp only[EVA,seval]) (by (simp only[EVA,seval]) <;> rfl) trivial ?_
 intro j _ hj _
 simp only[EVA,seval]
 refine Zn (fun hlt=>?_) (fun hge=>?_)
 ·have hja:j<b.nodes.length:=by omega
  have gp:=Zfn (F:=F) hja
  have ga:((YV F b.nodes j).map Z9)[j]? = some [Tr.v (.int .i64 b.nodes[j].control),Tr.v (.int .i64 b.nodes[j].parent),Tr.sl (rI b.nodes[j].links)]:=by rw[List.getElem?_map,gp];rfl
  have hkl:b.nodes[j].links.length<=4294967290:=b2 _ (List.getElem_mem hja)
  have e0:(YV F b.nodes j).set j ⟨b.nodes[j].control,b.nodes[j].parent,Yz F b.nodes[j].links 0⟩=YV F b.nodes j:=Zmc hja
  refine ZB (α:=Unit) b.nodes[j].links.length (fun k _=>[(9,iI k)]) (fun k _=>[(448,.ar 3 (((YV F b.nodes j).set j ⟨b.nodes[j].control,b.nodes[j].parent,Yz F b.nodes[j].links k⟩).map Z9) true b.nodes.length 0)]) (fun _ _=>True) () (by simp only[EVA,seval]) (by (simp only[e0,EVA,seval]) <;> rfl) trivial ?_
  intro k _ hk _
  have gq:((YV F b.nodes j).set j ⟨b.nodes[j].control,b.nodes[j].parent,Yz F b.nodes[j].links k⟩)[j]? = some ⟨b.nodes[j].control,b.nodes[j].parent,Yz F b.nodes[j].links k⟩:=by
   rw[List.getElem?_set_self (by rw[ZcC];exact hja)]
  have hgp:(((YV F b.nodes j).set j ⟨b.nodes[j].control,b.nodes[j].parent,Yz F b.nodes[j].links k⟩).map Z9)[j]? = some [Tr.v (.int .i64 b.nodes[j].control),Tr.v (.int .i64 b.nodes[j].parent),Tr.sl (rI (Yz F b.nodes[j].links k))]:=by rw[List.getElem?_map,gq];rfl
  simp only[hgp,hja,List.length_map,EVA,seval]
  refine Zn (fun hlt2=>?_) (fun hge2=>?_)
  ·have hpl:=Zaw (F:=F) (l:=b.nodes[j].links) (k:=k)
   have hka:k<b.nodes[j].links.length:=by omega
   have gk:(rI (Yz F b.nodes[j].links k))[k]? = some [tv (g0 b.nodes[j].links k)]:=by rw[VL (by omega),Zfl hka]
   have hlk:=(hp _ (List.getElem_mem hja)).2 _ (show g0 b.nodes[j].links k∈b.nodes[j].links by simp [hka])
   have hsp:=ZqU (v:=F (g0 b.nodes[j].links k)) gq (k:=k) (by show k<(Yz F b.nodes[j].links k).length;omega)
   have hst:((YV F b.nodes j).set j ⟨b.nodes[j].control,b.nodes[j].parent,Yz F b.nodes[j].links k⟩).set j ⟨b.nodes[j].control,b.nodes[j].parent,(Yz F b.nodes[j].links k).set k (F (g0 b.nodes[j].links k))⟩=(YV F b.nodes j).set j ⟨b.nodes[j].control,b.nodes[j].parent,Yz F b.nodes[j].links (k+1)⟩:=by
    rw[List.set_set,Zfm hka]
   rw[hst] at hsp
   simp only[hgp,gk,hja,hka,hpl,Nat.zero_add,List.length_map,EVA,seval]
   refine Zn (fun hl1=>?_) (fun hl1=>?_)
   ·obtain⟨i,hi⟩:∃ i:Nat,g0 b.nodes[j].links k-b.edges=i:=⟨(g0 b.nodes[j].links k-b.edges).toNat,by omega⟩
    have hin:i<names.length:=by omega
    have gn:=Zen (e0:=e0S) (c:=fun n:ByteArray=>[ts n]) hin
    have hFe:F (g0 b.nodes[j].links k)=b.edges+ixS o (gS names i):=by rw[hF,ZoV,if_pos hl1,hi,Int.toNat_natCast]
    have x1:=Zfk (l:=o) (s:=gS names i)
    have x2:=ZdP (l:=o) (s:=gS names i)
    rw[hFe] at hsp
    simp only[hi,gn,Nat.zero_add,EVA,seval,Zj,men]
    refine⟨by rw[Zd];omega,?_⟩
    refine Za (Du o (gS names i) (by omega)) ?_
    simp only[hgp,gk,hka,hsp,Nat.zero_add,EVA,seval]
    exact⟨by rw[Zd];omega,by rw[Zd];omega,Ze () hka rfl trivial⟩
   ·have hFe:F (g0 b.nodes[j].links k)=g0 b.nodes[j].links k:=by rw[hF,ZoV,if_neg hl1]
    exact⟨by rw[Zd];omega,Ze () hka (by rw[Zmd hka hFe];rfl) trivial⟩
  ·have:k=b.nodes[j].links.length:=by
    have hpl:=Zaw (F:=F) (l:=b.nodes[j].links) (k:=k)
    omega
   subst this
   have hst:(YV F b.nodes j).set j ⟨b.nodes[j].control,b.nodes[j].parent,Yz F b.nodes[j].links b.nodes[j].links.length⟩=YV F b.nodes (j+1):=by
    rw[<-Zjc hja]
    congr 1
    simp [Zkf,Yz]
   rw[hst]
   exact⟨by rw[Zd];omega,Ze () hja rfl trivial⟩
 ·have:j=b.nodes.length:=by omega
  subst this
  have hpn:YV F b.nodes b.nodes.length=(UI b F b.edges o).nodes:=by simp [YV,UI,Zkf]
  rw[hpn]
  refine ZB (α:=Unit) b.inner.length (fun j _=>[(11,iI j)]) (fun j _=>[(451,.ar 2 ((W2 F b.inner j).map Jc) true b.inner.length 0)]) (fun _ _=>True) () (by simp only[EVA,seval]) (by (simp only[EVA,seval]) <;> rfl) trivial ?_
  intro j _ hj _
  simp only[List.length_map,EVA,seval]
  refine Zn (fun hlt=>?_) (fun hge=>?_)
  ·have hja:j<b.inner.length:=by omega
   have gp:=Zfo (F:=F) hja
   have ga:((W2 F b.inner j).map Jc)[j]? = some [ts b.inner[j].name,tv b.inner[j].link]:=by rw[List.getElem?_map,gp];rfl
   have hsp:YK ((W2 F b.inner j).map Jc) [] j 1 (.v (.int .i64 (F b.inner[j].link)))=(W2 F b.inner (j+1)).map Jc:=by
    simp only[YK]
    rw[ga,<-Zfp hja,List.map_set]
    rfl
   have hlk:=hw _ (List.getElem_mem hja)
   simp only[ga,hja,Nat.zero_add,EVA,seval]
   refine Zn (fun hl1=>?_) (fun hl1=>?_)
   ·obtain⟨i,hi⟩:∃ i:Nat,b.inner[j].link-b.edges=i:=⟨(b.inner[j].link-b.edges).toNat,by omega⟩
    have hin:i<names.length:=by omega
    have gn:=Zen (e0:=e0S) (c:=fun n:ByteArray=>[ts n]) hin
    have hFe:F b.inner[j].link=b.edges+ixS o (gS names i):=by rw[hF,ZoV,if_pos hl1,hi,Int.toNat_natCast]
    have x1:=Zfk (l:=o) (s:=gS names i)
    have x2:=ZdP (l:=o) (s:=gS names i)
    rw[hFe] at hsp
    simp only[hi,gn,Nat.zero_add,EVA,seval,Zj,men]
    refine⟨by rw[Zd];omega,?_⟩
    refine Za (Du o (gS names i) (by omega)) ?_
    simp only[ga,hja,hsp,Nat.zero_add,EVA,seval]
    exact⟨by rw[Zd];omega,by rw[Zd];omega,Ze () hja rfl trivial⟩
   ·have hFe:F b.inner[j].link=b.inner[j].link:=by rw[hF,ZoV,if_neg hl1]
    exact⟨by rw[Zd];omega,Ze () hja (by rw[Zme hja hFe];rfl) trivial⟩
  ·have:j=b.inner.length:=by omega
   subst this
   have hpw:W2 F b.inner b.inner.length=(UI b F b.edges o).inner:=by simp [W2,UI,ZaT]
   rw[hpw]
   exact⟨by simp [UI],by simp [UI],rfl⟩
theorem UE{sig:List TControl}{b:TBigraph}(h:bigOK sig b){x:TNode}(hx:x∈b.nodes):x.parent<b.nodes.length/\∀ l∈x.links,0<=l/\l<b.edges+b.outer.length:=by
 obtain⟨k,hk,rfl⟩:=List.getElem_of_mem hx
 have q:=h.nodes k hk
 refine⟨?_,fun l hl=>?_⟩
 ·rcases q.par with p | p <;> omega
 ·have:=q.links l hl
  unfold ZR at this
  omega
theorem XP{sig:List TControl}{b:TBigraph}(h:bigOK sig b){p:Int}(hp:p∈b.sites):p<b.nodes.length:=by
 rcases h.sites p hp with q | q <;> omega
theorem Zmf(sig:List TControl)(b:TBigraph)(h:bigOK sig b)(lvl:Nat)(S:Sto):Sem Go.Proofs.Tryz.prog Y2 lvl [.ag ((Zc b).map .tr)] S (Zi b) S:=by
 have he:=h.edges
 exact Zfs b b.edges.toNat (by omega) (QD (by omega) (Xp h)) (by omega) (fun x hx=>⟨(UE h hx).1,fun l hl=>((UE h hx).2 l hl).1⟩) (fun p hp=>XP h hp) (fun w hw=>(h.inner w hw).1) lvl S
theorem Zje(sig:List TControl)(b:TBigraph)(h:bigOK sig b)(names o:List ByteArray)(hn:names.length=b.outer.length)(ho:o.length<=4294967290)(lvl:Nat)(S:Sto):Sem Go.Proofs.Tryz.prog Qm lvl [.ag ((Zc b).map .tr),.tr (.sl (rS names)),.tr (.sl (rS o))] S (Zi (UI b (ZoV b names o) b.edges o)) S:=by
 have he:=h.edges
 have h4:=h.small.outer
 refine Zkh b names o b.edges.toNat (by omega) (QD (by omega) (Xp h)) (by omega) (fun x hx=>⟨(UE h hx).1,fun l hl=>?_⟩) (fun p hp=>XP h hp) (fun w hw=>?_) (by omega) ho lvl S
 ·have:=(UE h hx).2 l hl
  omega
 ·have:=h.inner w hw
  unfold ZR at this
  omega
end Go.Fd

namespace Go.Fd
set_option maxRecDepth 20000
theorem Zv4{O:List ByteArray}{x:ByteArray}{k:Nat}(hp:O.Pairwise ltS)(h1:∀ y∈O.take k,ltS y x)(h2:∀ y∈O.drop k,ltS x y):(O.take k++([x]++O.drop k)).Pairwise ltS:=by
 refine List.pairwise_append.2 ⟨hp.sublist (List.take_sublist ..),List.pairwise_append.2 ⟨List.pairwise_singleton ..,hp.sublist (List.drop_sublist ..),fun a ha b hb=>?_⟩,fun a ha b hb=>?_⟩
 ·rw[List.mem_singleton.1 ha];exact h2 b hb
 ·rcases List.mem_append.1 hb with hb | hb
  ·rw[List.mem_singleton.1 hb];exact h1 a ha
  ·have q:=hp
   rw[<-List.take_append_drop k O] at q
   exact(List.pairwise_append.1 q).2.2 a ha b hb
theorem ZhX{l:List ByteArray}:(Vc l).Pairwise ltS:=ZnG ordsS
theorem setS_mem{l:List ByteArray}{c:ByteArray}:c∈Vc l↔c∈l:=setG_mem
theorem ZaU{l:List ByteArray}:(Vc l).length<=l.length:=ZnH
theorem Zlp{l:List ByteArray}{i k:Nat}(hi:i<l.length)(h1:∀ y∈(Vc (l.take i)).take k,ltS y l[i])(h2:∀ y∈(Vc (l.take i)).drop k,ltS l[i] y):Vc (l.take (i+1))=(Vc (l.take i)).take k++([l[i]]++(Vc (l.take i)).drop k):=by
 refine ZhN ordsS (Zv4 ZhX h1 h2) fun c=>?_
 rw[List.take_succ_eq_append_getElem hi]
 have e:c∈Vc (l.take i)↔c∈l.take i:=setS_mem
 rw[<-List.take_append_drop k (Vc (l.take i)),List.mem_append] at e
 simp only[List.mem_append,<-e]
 constructor
 ·rintro((h | h) | h)
  ·exact .inl h
  ·exact .inr (.inr h)
  ·exact .inr (.inl h)
 ·rintro(h | h | h)
  ·exact .inl (.inl h)
  ·exact .inr h
  ·exact .inl (.inr h)
theorem ZnW{l:List ByteArray}{i:Nat}(hi:i<l.length)(h:l[i]∈Vc (l.take i)):Vc (l.take (i+1))=Vc (l.take i):=by
 refine ZhN ordsS ZhX fun c=>?_
 rw[List.take_succ_eq_append_getElem hi,List.mem_append,setS_mem]
 constructor
 ·rintro(h2 | h2)
  ·exact h2
  ·rw[List.mem_singleton.1 h2];exact setS_mem.1 h
 ·exact .inl
theorem ZAr{l:List ByteArray}{j:Nat}:cut (rS l) 0 (j-0)=rS (l.take j):=by simp [cut,rS,List.map_take]
theorem Zv5{l:List ByteArray}{j:Nat}:cut (rS l) j (l.length-j)=rS (l.drop j):=by
 simp only[cut,rS,<-List.map_drop]
 rw[<-List.map_take,List.take_of_length_le (by rw[List.length_drop];omega)]
theorem ZqV{a b:List ByteArray}{x:ByteArray}:rS a++[[Tr.v (Value.string x)]]++rS b=rS (a++([x]++b)):=by simp [rS]
theorem ZnX:Vc []=[]:=ZhN ordsS List.Pairwise.nil fun c=>Iff.rfl
theorem Up(l:List ByteArray)(hl:l.length<=4294967290)(lvl:Nat)(S:Sto):Sem Go.Proofs.Tryz.prog JZ lvl [.tr (.sl (rS l))] S (.ow 1 (rS (Vc l)) true) S:=by
 refine Zb Ze2 (by simp [low,men]) ?_
 simp only[Zak,EVA,seval]
 refine ZB (α:=Unit) l.length (fun j _=>[(3,.hd (lvl,96) [] 0 (Vc (l.take j)).length none (Vc (l.take j)).length),(4,iI j)]) (fun j _=>[(96,.ar 1 (rS (Vc (l.take j))) true (Vc (l.take j)).length 0)]) (fun _ _=>True) () (by simp only[EVA,seval]) (by rw[List.take_zero,ZnX]; (simp only[EVA,seval]) <;> rfl) trivial ?_
 intro j _ hj _
 simp only[List.length_map,EVA,seval]
 refine Zn (fun hlt=>?_) (fun hge=>?_)
 ·have hja:j<l.length:=by omega
  have ga:=Zen (e0:=e0S) (c:=fun n:ByteArray=>[ts n]) hja
  rw[Ub hja] at ga
  obtain⟨O,hO⟩:∃ O,O=Vc (l.take j):=⟨_,rfl⟩
  have hOl:O.length<=j:=by rw[hO];exact Nat.le_trans ZaU (by rw[List.length_take];omega)
  have hOp:O.Pairwise ltS:=by rw[hO];exact ZhX
  rw[<-hO]
  refine ZB (α:=Unit) O.length (fun k _=>[(5,iI k)]) (fun _ _=>[]) (fun k _=>∀ y∈O.take k,ltS y l[j]) () (by simp only[EVA,seval]) (by (simp only[EVA,seval]) <;> rfl) (by simp) ?_
  intro k _ hk hK
  simp only[List.length_map,EVA,seval]
  refine Zn (fun hlt2=>?_) (fun hge2=>?_)
  ·have hka:k<O.length:=by omega
   have gk:=Zen (e0:=e0S) (c:=fun n:ByteArray=>[ts n]) hka
   rw[Ub hka] at gk
   have hm:min k O.length=k:=by omega
   have hq1:k+1+(O.length-k)=O.length+1:=by omega
   have hq2:max (max (max 0 k) (k+1)) (O.length+1)=O.length+1:=by omega
   have hq3:k+(O.length-k)=O.length:=by omega
   simp only[ga,gk,hka,hm,hq1,hq2,hq3,ZAr,Zv5,ZnM,ZnN,ZqV,List.length_append,List.length_take,List.length_drop,List.length_map,EVA,seval]
   refine Zn (fun h1=>?_) (fun h1=>?_)
   ·exact⟨by rw[Zd];omega,Ze () hka rfl fun y hy=>by
     rw[List.take_succ_eq_append_getElem hka] at hy
     rcases List.mem_append.1 hy with hy | hy
     ·exact hK y hy
     ·rw[List.mem_singleton.1 hy];exact h1⟩
   ·have hkn:decide ((k:Int)=(O.length:Int))=false:=by simp;omega
    rw[if_pos hkn]
    refine Zn (fun h2=>?_) (fun h2=>?_)
    ·have h3:ltS l[j] O[k]:=by
      rcases ordsS.tri l[j] O[k] with q | q | q
      ·exact q
      ·exact absurd q.symm h2
      ·exact absurd q h1
     have hput:=Zlp (k:=k) hja (by rw[<-hO];exact hK) (by
      rw[<-hO]
      intro y hy
      rw[List.drop_eq_getElem_cons hka] at hy
      rcases List.mem_cons.1 hy with rfl | hy
      ·exact h3
      ·have q:=hOp
       rw[<-List.take_append_drop k O,List.drop_eq_getElem_cons hka] at q
       exact ordsS.tr _ _ _ h3 ((List.pairwise_cons.1 (List.pairwise_append.1 q).2.1).1 y hy))
     rw[<-hO] at hput
     have hpl:(O.take k++([l[j]]++O.drop k)).length=O.length+1:=by
      simp only[List.length_append,List.length_take,List.length_drop,List.length_cons,List.length_nil]
      omega
     have hfit:Xt .i64 ((j:Int)+1):=by rw[Zd];omega
     and_intros
     all_goals try first | omega | exact fun _=>trivial
     ·exact hfit.1
     ·exact hfit.2
     ·exact Ze () hja (by rw[hput,hpl];rfl) trivial
    ·have hkeep:=ZnW hja (by rw[<-hO,<-(Classical.not_not.1 h2)];exact List.getElem_mem hka)
     rw[<-hO] at hkeep
     exact⟨by rw[Zd];omega,Ze () hja (by rw[hkeep];rfl) trivial⟩
  ·have:k=O.length:=by omega
   subst this
   have hq1:O.length+1+(O.length-O.length)=O.length+1:=by omega
   have hq2:max (max (max 0 O.length) (O.length+1)) (O.length+1)=O.length+1:=by omega
   simp only[ga,hq1,hq2,Zv5,ZnM,ZnN,ZqV,List.length_append,List.length_drop,List.length_map,EVA,seval]
   have hput:=Zlp (k:=O.length) hja (by rw[<-hO];exact hK) (by
    rw[<-hO,List.drop_length]
    intro y hy
    cases hy)
   rw[<-hO] at hput
   rw[List.take_length] at hput
   have hpl:(O++([l[j]]++O.drop O.length)).length=O.length+1:=by
    simp only[List.length_append,List.length_drop,List.length_cons,List.length_nil]
    omega
   have hfit:Xt .i64 ((j:Int)+1):=by rw[Zd];omega
   and_intros
   all_goals try first | omega | exact fun _=>trivial
   ·exact hfit.1
   ·exact hfit.2
   ·exact Ze () hja (by rw[hput,hpl];rfl) trivial
 ·have:j=l.length:=by omega
  subst this
  rw[List.take_length]
theorem W3(names:List ByteArray)(e:Int)(o:List ByteArray)(hn:names.length<=4294967290)(he:-4294967296<=e/\e<=4294967296)(ho:o.length<=4294967290)(lvl:Nat)(S:Sto):Sem Go.Proofs.Tryz.prog JK lvl [.tr (.sl (rS names)),iI e,.tr (.sl (rS o))] S (.ow 1 (rI (names.map fun x=>e+ixS o x)) true) S:=by
 refine Zb ZfU trivial ?_
 simp only[Zbj,EVA,seval]
 refine ZB (α:=Unit) names.length (fun j _=>[(7,.hd (lvl,288) [] 0 j none j),(8,iI j)]) (fun j _=>[(288,.ar 1 (rI ((names.take j).map fun x=>e+ixS o x)) true j 0)]) (fun _ _=>True) () (by simp only[EVA,seval]) (by (simp only[EVA,seval]) <;> rfl) trivial ?_
 intro j _ hj _
 simp only[List.length_map,EVA,seval]
 refine Zn (fun hlt=>?_) (fun hge=>?_)
 ·have hja:j<names.length:=by omega
  have ga:=Zen (e0:=e0S) (c:=fun n:ByteArray=>[ts n]) hja
  rw[Ub hja] at ga
  have hl2:(names.take j).length=j:=by rw[List.length_take];omega
  have x1:=Zfk (l:=o) (s:=names[j])
  have x2:=ZdP (l:=o) (s:=names[j])
  have hs:rI ((names.take j).map fun x=>e+ixS o x)++[[tv (e+ixS o names[j])]]=rI ((names.take (j+1)).map fun x=>e+ixS o x):=by
   rw[List.take_succ_eq_append_getElem hja,List.map_append,Yx]
   rfl
  simp only[ga,EVA,seval,Zj,men]
  refine Za (Du o names[j] (by omega)) ?_
  simp only[hl2,hs,List.length_map,EVA,seval]
  exact⟨by rw[Zd];omega,by omega,by rw[Zd];omega,Ze () hja rfl trivial⟩
 ·have:j=names.length:=by omega
  subst this
  rw[List.take_length]
  exact⟨by simp,rfl⟩
theorem ZpZ{b:TBigraph}{l:Int}(he:0<=b.edges/\b.edges<=8)(hl:ZR b l):-4294967296<=(Zeo b l).1/\(Zeo b l).1<=4294967296:=by
 rcases J1 hl with ⟨h0,h1⟩ | ⟨i,hi,rfl⟩
 ·rw[Zgz h1];dsimp only;omega
 ·rw[ZgA hi];dsimp only;omega
theorem Zp0{sig:List TControl}{b:TBigraph}(h:bigOK sig b){F:Int->Int}{e:Int}{o:List ByteArray}(ho:o.length<=100)(hos:∀ y∈o,y.size<=4294967296):Zs 4294967296 (UI b F e o):=by
 obtain⟨b1,b2,b3,b4,b5,b6,b7⟩:=Zkg (F:=F) (e:=e) (o:=[]) h (QD (by omega) (Xp h)) (by simp) (by simp)
 refine⟨Nat.le_trans (show (UI b F e o).nodes.length<=4294967290 from b1) (by omega),fun y hy=>?_,Nat.le_trans (show (UI b F e o).sites.length<=4294967290 from b3) (by omega),by show o.length<=_;omega,hos,Nat.le_trans (show (UI b F e o).inner.length<=4294967290 from b6) (by omega),fun y hy=>?_⟩
 ·have:=b2 y hy
  simp only[ZiP] at this ⊢
  omega
 ·have:=b7 y hy
  simp only[ZdB] at this ⊢
  omega
end Go.Fd

namespace Go.Fd
end Go.Fd

namespace Go.Fd
set_option maxRecDepth 20000
def Zax(a b:TBigraph)(roots:Int)(ss:List Int)(o:List ByteArray)(FL FR mv:Int->Int):TBigraph :=
 ⟨roots,a.nodes.map (Zkf FL)++b.nodes.map (fun x=>⟨x.control,mv x.parent,x.links.map FR⟩),ss++b.sites.map mv,a.edges+b.edges,o,b.inner.map (ZaT FR)⟩
theorem Zft{sig:List TControl}{a b:TBigraph}(ha:bigOK sig a)(hb:bigOK sig b){roots:Int}{ss:List Int}{o:List ByteArray}{FL FR mv FL' FR' mv':Int->Int}(hL:∀ l,ZR a l->FL l=FL' l)(hR:∀ l,ZR b l->FR l=FR' l)(hm:∀ p,-b.roots<=p->mv p=mv' p) :
  Zax a b roots ss o FL FR mv=Zax a b roots ss o FL' FR' mv':=by
 have hr:=hb.roots.1
 unfold Zax
 have e1:a.nodes.map (Zkf FL)=a.nodes.map (Zkf FL'):=List.map_congr_left fun x hx=>by
  obtain⟨i,hi,rfl⟩:=List.getElem_of_mem hx
  unfold Zkf
  congr 1
  exact List.map_congr_left fun l hl=>hL l ((ha.nodes i hi).links l hl)
 have e2:b.nodes.map (fun x=>(⟨x.control,mv x.parent,x.links.map FR⟩:TNode))=b.nodes.map (fun x=>⟨x.control,mv' x.parent,x.links.map FR'⟩):=List.map_congr_left fun x hx=>by
  obtain⟨i,hi,rfl⟩:=List.getElem_of_mem hx
  have hn:=hb.nodes i hi
  rw[hm _ (Jo hr hn.par)]
  congr 1
  exact List.map_congr_left fun l hl=>hR l (hn.links l hl)
 have e3:b.sites.map mv=b.sites.map mv':=List.map_congr_left fun p hp=>hm p (Jo hr (hb.sites p hp))
 have e4:b.inner.map (ZaT FR)=b.inner.map (ZaT FR'):=List.map_congr_left fun w hw=>by
  unfold ZaT
  rw[hR _ (hb.inner w hw)]
 rw[e1,e2,e3,e4]
def Zlq(a:TBigraph)(e:Int)(o:List ByteArray):List Int:=Zlo a (fun l=>l) fun x=>e+ixS o x
def ZnY(a b:TBigraph)(g:ByteArray->Int):List Int:=Zlo b (fun l=>a.edges+l) g
theorem ZnZ{c:Int}{n:Nat}:Uc c n=(Wn n).map fun l=>c+l:=by simp [Uc,Wn]
theorem Zn0{a:TBigraph}{e:Int}{o:List ByteArray}{n:Nat}(hn:a.edges=n):Uc 0 n++a.outer.map (fun x=>e+ixS o x)=Zlq a e o:=by
 rw[Zlq,Zlo,ZgE,hn,Int.toNat_natCast]
theorem Zn1{a b:TBigraph}{g:ByteArray->Int}{n:Nat}(hn:b.edges=n):Uc a.edges n++b.outer.map g=ZnY a b g:=by
 rw[ZnY,Zlo,ZnZ,hn,Int.toNat_natCast]
theorem Zlr{b:TBigraph}{f:Int->Int}{g:ByteArray->Int}(h:0<=b.edges):((Zlo b f g).length:Int)=b.edges+b.outer.length:=by
 rw[Zlo,List.length_append,List.length_map,List.length_map,YU]
 omega
theorem Zv6{sig:List TControl}{a:TBigraph}(ha:bigOK sig a){e:Int}{o:List ByteArray}{l:Int}(hl:ZR a l):Zcy a e o (fun x=>x) l=g0 (Zlq a e o) l.toNat:=by
 have he:=ha.edges
 unfold Zcy Zlq
 rcases J1 hl with ⟨h0,h1⟩ | ⟨i,hi,rfl⟩
 ·rw[Zbu h0 h1,Zgz h1,if_pos rfl]
 ·rw[Zbv he.1 hi,ZgA hi,if_neg (ZaR ha.outer (List.getElem_mem hi))]
def Zd5(a:TBigraph)(nm:ByteArray->Int×ByteArray)(x:Int×ByteArray):Int×ByteArray:=if x.2=e0S then (x.1+a.edges,e0S) else nm x.2
theorem ZA2{sig:List TControl}{a b:TBigraph}(hb:bigOK sig b){e:Int}{o:List ByteArray}{nm:ByteArray->Int×ByteArray}{g:ByteArray->Int}(hg:∀ i (h:i<b.outer.length),(if (nm b.outer[i]).2=e0S then (nm b.outer[i]).1 else e+ixS o (nm b.outer[i]).2)=g b.outer[i]){l:Int}(hl:ZR b l):Zcy b e o (Zd5 a nm) l=g0 (ZnY a b g) l.toNat:=by
 have he:=hb.edges
 unfold Zcy ZnY
 rcases J1 hl with ⟨h0,h1⟩ | ⟨i,hi,rfl⟩
 ·rw[Zbu h0 h1,Zgz h1]
  unfold Zd5
  rw[if_pos rfl,if_pos rfl]
  omega
 ·rw[Zbv he.1 hi,ZgA hi]
  unfold Zd5
  rw[if_neg (ZaR hb.outer (List.getElem_mem hi)),hg i hi]
def Zls(a b:TBigraph)(o:List ByteArray)(L R:List Int):TBigraph:=Zax a b a.roots [] o (fun l=>g0 L l.toNat) (fun l=>g0 R l.toNat) (Zdj a.nodes.length a.sites)
def ZwB(a:TBigraph)(p:Int):Int:=if 0<=p then p+a.nodes.length else g0 a.sites (-1-p).toNat
theorem ZsF{a:TBigraph}{p:Int}:ZwB a p=Zdj a.nodes.length a.sites p:=by
 unfold ZwB Zdj
 by_cases h:0<=p
 ·rw[if_pos h,if_neg (by omega)]
 ·rw[if_neg h,if_pos (by omega)]
noncomputable def Yw(a b:TBigraph):List ByteArray:=Vc (a.outer++b.outer)
noncomputable def U0(a b:TBigraph):TBigraph:=Zls a b (Yw a b) (Zlq a (a.edges+b.edges) (Yw a b)) (ZnY a b fun x=>a.edges+b.edges+ixS (Yw a b) x)
theorem ZsG{sig:List TControl}{a b:TBigraph}(ha:bigOK sig a)(hb:bigOK sig b) :
  Zax a b a.roots [] (Yw a b) (Zcy a (a.edges+b.edges) (Yw a b) fun x=>x) (Zcy b (a.edges+b.edges) (Yw a b) (Zd5 a fun s=>(0,s))) (ZwB a)=U0 a b :=
 Zft ha hb (fun l hl=>Zv6 ha hl) (fun l hl=>ZA2 hb (fun i hi=>if_neg (ZaR hb.outer (List.getElem_mem hi))) hl) fun p _=>ZsF
end Go.Fd

namespace Go.Fd
set_option maxRecDepth 20000
theorem ZqW{sig:List TControl}{b:TBigraph}(h:bigOK sig b){ps:List Int}(hp:(ps.length:Int)=b.roots){p:Int}(h1:-b.roots<=p)(h2:p<b.nodes.length):(-4294967296<=p/\p<=4294967296)/\(p<0->(-1-p).toNat<ps.length):=by
 have hr:=h.roots
 have hn:=h.small.nodes
 exact⟨by omega,fun h3=>by omega⟩
theorem Zlt{sig:List TControl}{b:TBigraph}(h:bigOK sig b){ps ls:List Int}(hp:(ps.length:Int)=b.roots)(hl:(ls.length:Int)=b.edges+b.outer.length):∀ x∈b.nodes,x.links.length<=4294967290/\((-4294967296<=x.parent/\x.parent<=4294967296)/\(x.parent<0->(-1-x.parent).toNat<ps.length))/\∀ l∈x.links,0<=l/\l<ls.length:=fun x hx=>by
 have hl2:=h.small.links _ hx
 have hb:=UE h hx
 obtain⟨k,hk,rfl⟩:=List.getElem_of_mem hx
 refine⟨by omega,ZqW h hp (Jo h.roots.1 (h.nodes k hk).par) hb.1,fun l hl3=>?_⟩
 have:=hb.2 l hl3
 omega
theorem Zlu{sig:List TControl}{b:TBigraph}(h:bigOK sig b){ps:List Int}(hp:(ps.length:Int)=b.roots):∀ p∈b.sites,(-4294967296<=p/\p<=4294967296)/\(p<0->(-1-p).toNat<ps.length):=fun p hq=>ZqW h hp (Jo h.roots.1 (h.sites p hq)) (XP h hq)
theorem Zn2{sig:List TControl}{b:TBigraph}(h:bigOK sig b){ls:List Int}(hl:(ls.length:Int)=b.edges+b.outer.length):∀ w∈b.inner,0<=w.link/\w.link<ls.length:=fun w hw=>by
 have:=h.inner w hw
 unfold ZR at this
 omega
theorem Zlv{sig:List TControl}{b:TBigraph}(h:bigOK sig b){n:Nat}(hn:b.roots=n){ls:List Int}:b.nodes.map (Zfj 0 (JC 0 n) ls)=b.nodes.map (Zkf fun l=>g0 ls l.toNat):=List.map_congr_left fun x hx=>by
 obtain⟨k,hk,rfl⟩:=List.getElem_of_mem hx
 unfold Zfj Zkf
 rw[ZhR hn (Jo h.roots.1 (h.nodes k hk).par)]
theorem Zlw{sig:List TControl}{b:TBigraph}(h:bigOK sig b){n:Nat}(hn:b.roots=n):b.sites.map (Zdj 0 (JC 0 n))=b.sites:=by
 have:b.sites.map (Zdj 0 (JC 0 n))=b.sites.map id:=List.map_congr_left fun p hp=>ZhR hn (Jo h.roots.1 (h.sites p hp))
 rw[this,List.map_id]
theorem ZA3{l:List TNode}:UnR 3 (l.map Z9)=True:=eq_true (Zby Z9 (fun _=>rfl) l)
abbrev Zp1(b:TBigraph)(u:Bool):IV:=.ag [iI b.roots,.ow 3 (b.nodes.map Z9) u,.ow 1 (rI b.sites) true,iI b.edges,.ow 1 (rS b.outer) true,.ow 2 (b.inner.map Jc) true]
theorem Zki(sig:List TControl)(a b:TBigraph)(o:List ByteArray)(above below:List Int)(ha:bigOK sig a)(hb:bigOK sig b)(hf:(a.sites.length:Int)=b.roots)(hA:above.length=a.outer.length)(hB:below.length=b.outer.length)(ho:o.length<=4294967290)(L R:List Int)(hL:∀ n:Nat,a.edges=n->Uc 0 n++above=L)(hR:∀ n:Nat,b.edges=n->Uc a.edges n++below=R)
  (lvl:Nat) (S:Sto):Sem Go.Proofs.Tryz.prog We lvl [.ag ((Zc a).map .tr),.ag ((Zc b).map .tr),.tr (.sl (rS o)),tI above,tI below] S (Zp1 (Zls a b o L R) false) S:=by
 have ra:=ha.roots;have rb:=hb.roots
 have ea:=ha.edges;have eb:=hb.edges
 have sa:=ha.small;have sb:=hb.small
 have a1:=sa.nodes;have a2:=sa.sites;have a3:=sa.inner;have a4:=sa.outer
 have b1:=sb.nodes;have b2:=sb.sites;have b3:=sb.inner;have b4:=sb.outer
 obtain⟨n,hn⟩:∃ n:Nat,a.roots=n:=⟨a.roots.toNat,by omega⟩
 obtain⟨m,hm⟩:∃ m:Nat,a.edges=m:=⟨a.edges.toNat,by omega⟩
 obtain⟨k,hk⟩:∃ k:Nat,b.edges=k:=⟨b.edges.toNat,by omega⟩
 have hLL:=hL m hm
 have hRR:=hR k hk
 have lenL:(L.length:Int)=a.edges+a.outer.length:=by rw[<-hLL,List.length_append,fromN_len,hA];omega
 have lenR:(R.length:Int)=b.edges+b.outer.length:=by rw[<-hRR,List.length_append,fromN_len,hB];omega
 have w1:rI (Uc 0 m)++rI above=rI L:=by rw[<-Yx,hLL]
 have w2:m+above.length=L.length:=by rw[<-hLL,List.length_append,fromN_len]
 have w3:rI (Uc (m:Int) k)++rI below=rI R:=by rw[<-Yx,<-hm,hRR]
 have w4:k+below.length=R.length:=by rw[<-hRR,List.length_append,fromN_len]
 have w5:max m L.length=L.length:=by omega
 have w6:max k R.length=R.length:=by omega
 have c1:cut (rI L) 0 L.length=rI L:=Yb (by rw[List.length_map])
 have c2:cut (rI R) 0 R.length=rI R:=Yb (by rw[List.length_map])
 refine Zb ZfX (by simp [low,men,Zj]) ?_
 simp only[Zbm,Zc,hn,EVA,seval,Zj,men]
 refine Za (Dv 0 n (by omega) (by omega)) ?_
 simp only[hm,EVA,seval,Zj,men]
 refine Za (W0 0 m (by omega) (by omega)) ?_
 simp only[Zcz,ZcA,hk,w1,w2,w5,fromN_len,List.length_map,EVA,seval,Zj,men]
 refine⟨by omega,Za (W0 m k (by omega) (by omega)) ?_⟩
 simp only[Zcz,ZcA,w3,w4,w6,fromN_len,List.length_map,EVA,seval,Zj,men]
 refine⟨by omega,?_⟩
 have q1:=XF a 0 (JC 0 n) (by omega) (by omega) (Zlu ha (by rw[rootsN_len];omega))
 rw[Zlw ha hn] at q1
 simp only[Zc,hn,hm,List.map_cons,List.map_nil] at q1
 refine Za q1 ?_
 simp only[c1,List.length_map,EVA,seval,Zj,men]
 have q2:=W1 a 0 (JC 0 n) L (by omega) (by omega) (Zlt ha (by rw[rootsN_len];omega) lenL)
 rw[Zlv ha hn] at q2
 simp only[Zc,hn,hm,List.map_cons,List.map_nil] at q2
 refine Za q2 ?_
 simp only[c2,List.length_map,EVA,seval,Zj,men]
 have q3:=W1 b a.nodes.length a.sites R (by omega) (by omega) (Zlt hb hf lenR)
 simp only[Zc,hk,List.map_cons,List.map_nil] at q3
 refine Za q3 ?_
 simp only[ZA3,List.length_map,EVA,seval,Zj,men]
 refine⟨by omega,?_⟩
 have q4:=XF b a.nodes.length a.sites (by omega) (by omega) (Zlu hb hf)
 simp only[Zc,hk,List.map_cons,List.map_nil] at q4
 refine Za q4 ?_
 simp only[ZnM,ZnN,c2,List.length_map,EVA,seval,Zj,men]
 refine⟨by rw[Zd];omega,by omega,?_⟩
 have q5:=Dw b R (by omega) (Zn2 hb lenR)
 simp only[Zc,hk,List.map_cons,List.map_nil] at q5
 refine Za q5 ?_
 simp only[List.length_append,List.length_map,EVA,seval]
 simp only[Zp1,Zls,Zax,List.map_append,List.nil_append,hn,hm,hk]
 rfl
theorem Zn3{sig:List TControl}{a b:TBigraph}(ha:bigOK sig a)(hb:bigOK sig b){roots:Int}{ss:List Int}{o:List ByteArray}{FL FR mv:Int->Int}(hs:ss.length<=4)(ho:o.length<=100)(hos:∀ y∈o,y.size<=4294967290):Zs 4294967290 (Zax a b roots ss o FL FR mv):=by
 have sa:=ha.small;have sb:=hb.small
 have a1:=sa.nodes;have a2:=sa.sites;have a3:=sa.inner
 have b1:=sb.nodes;have b2:=sb.sites;have b3:=sb.inner
 refine⟨by simp only[Zax,List.length_map,List.length_append];omega,fun y hy=>?_,by simp only[Zax,List.length_map,List.length_append];omega,by show o.length<=_;omega,hos,by simp only[Zax,List.length_map];omega,fun y hy=>?_⟩
 ·rcases List.mem_append.1 hy with hy | hy
  ·obtain⟨x,hx,rfl⟩:=List.mem_map.1 hy
   have:=sa.links x hx
   simp only[ZiP,Zkf,List.length_map]
   omega
  ·obtain⟨x,hx,rfl⟩:=List.mem_map.1 hy
   have:=sb.links x hx
   simp only[ZiP,List.length_map]
   omega
 ·obtain⟨w,hw,rfl⟩:=List.mem_map.1 hy
  have hn:w.name∈inn b:=List.mem_map.2 ⟨w,hw,rfl⟩
  have:=Yg hb.inn hn
  simp only[ZdB,ZaT]
  omega
def sm(n:Int):Prop:=-1000<=n/\n<=1000
theorem ZcH{n:Int}(h:sm n):Xt .i64 n:=by
 unfold sm at h
 rw[Zd];omega
theorem Zn4{sig:List TControl}{a b:TBigraph}(ha:bigOK sig a)(hb:bigOK sig b)(fa:Zy a)(fb:Zy b){roots:Int}{ss:List Int}{o:List ByteArray}{FL FR mv:Int->Int}(hr:sm roots)(hs:∀ p∈ss,sm p)(hL:∀ l,ZR a l->sm (FL l))(hR:∀ l,ZR b l->sm (FR l))(hm:∀ p,-b.roots<=p->p<b.nodes.length->sm (mv p)):Zy (Zax a b roots ss o FL FR mv):=by
 have ea:=ha.edges;have eb:=hb.edges
 refine⟨ZcH hr,fun y hy=>?_,fun p hp=>?_,by show Xt .i64 (a.edges+b.edges);rw[Zd];omega,fun y hy=>?_⟩
 ·rcases List.mem_append.1 hy with hy | hy
  ·obtain⟨x,hx,rfl⟩:=List.mem_map.1 hy
   have hq:=fa.2.1 x hx
   obtain⟨i,hi,hie⟩:=List.getElem_of_mem hx
   refine⟨hq.1,hq.2.1,fun l hl=>?_⟩
   obtain⟨l0,hl0,rfl⟩:=List.mem_map.1 hl
   exact ZcH (hL l0 ((ha.nodes i hi).links l0 (by rw[hie];exact hl0)))
  ·obtain⟨x,hx,rfl⟩:=List.mem_map.1 hy
   have hq:=fb.2.1 x hx
   have hbp:=UE hb hx
   obtain⟨i,hi,hie⟩:=List.getElem_of_mem hx
   refine⟨hq.1,ZcH (hm _ (Jo hb.roots.1 (by rw[<-hie];exact(hb.nodes i hi).par)) hbp.1),fun l hl=>?_⟩
   obtain⟨l0,hl0,rfl⟩:=List.mem_map.1 hl
   exact ZcH (hR l0 ((hb.nodes i hi).links l0 (by rw[hie];exact hl0)))
 ·rcases List.mem_append.1 hp with hp | hp
  ·exact ZcH (hs p hp)
  ·obtain⟨x,hx,rfl⟩:=List.mem_map.1 hp
   exact ZcH (hm _ (Jo hb.roots.1 (hb.sites x hx)) (XP hb hx))
 ·obtain⟨w,hw,rfl⟩:=List.mem_map.1 hy
  exact ZcH (hR _ (hb.inner w hw))
theorem Zv7{sig:List TControl}{a b:TBigraph}(ha:bigOK sig a)(hb:bigOK sig b)(hf:(a.sites.length:Int)=b.roots){p:Int}(h1:-b.roots<=p)(h2:p<b.nodes.length):sm (Zdj a.nodes.length a.sites p):=by
 have a1:=ha.small.nodes;have b1:=hb.small.nodes
 have ra:=ha.roots
 unfold Zdj sm
 split
 ·rename_i h
  have hl:(-1-p).toNat<a.sites.length:=by omega
  have hg:g0 a.sites (-1-p).toNat=a.sites[(-1-p).toNat]:=by simp [hl]
  have hm:=List.getElem_mem hl
  have:=Jo ra.1 (ha.sites _ hm)
  have:=XP ha hm
  rw[hg];omega
 ·omega
theorem ZsH{sig:List TControl}{a:TBigraph}(ha:bigOK sig a){e:Int}(he:0<=e/\e<=100){o:List ByteArray}(ho:o.length<=100){l:Int}(hl:ZR a l):sm (g0 (Zlq a e o) l.toNat):=by
 have ea:=ha.edges
 unfold Zlq sm
 rcases J1 hl with ⟨h0,h1⟩ | ⟨i,hi,rfl⟩
 ·rw[Zbu h0 h1];omega
 ·rw[Zbv ea.1 hi]
  have:=Zfk (l:=o) (s:=a.outer[i])
  have:=ZdP (l:=o) (s:=a.outer[i])
  omega
theorem Zn5{sig:List TControl}{a b:TBigraph}(ha:bigOK sig a)(hb:bigOK sig b){g:ByteArray->Int}(hg:∀ x∈b.outer,sm (g x)){l:Int}(hl:ZR b l):sm (g0 (ZnY a b g) l.toNat):=by
 have ea:=ha.edges;have eb:=hb.edges
 unfold ZnY
 rcases J1 hl with ⟨h0,h1⟩ | ⟨i,hi,rfl⟩
 ·rw[Zbu h0 h1]
  unfold sm
  omega
 ·rw[Zbv eb.1 hi]
  exact hg _ (List.getElem_mem hi)
end Go.Fd

namespace Go.Fd
set_option maxRecDepth 20000
theorem Zjf(e:Int×ByteArray)(lvl:Nat)(S:Sto):Sem Go.Proofs.Tryz.prog VG lvl [oE e] S (oE e) S:=by
 refine Zb Ze9 (by simp [low,men,Zj]) ?_
 simp only[Zar,EVA,seval]
theorem Zjg(a:TBigraph)(e:Int×ByteArray)(nf:FuncId)(cs:List (List Tr))(nm:ByteArray->Int×ByteArray)(h1:-4294967296<=e.1/\e.1<=4294967296)(h2:0<=a.edges/\a.edges<=4294967296)(hN:e.2≠e0S->∀ lvl S,Sem Go.Proofs.Tryz.prog nf lvl (iS e.2::cs.map IV.ta) S (oE (nm e.2)) S)
  (lvl:Nat) (S:Sto) (id:Oid) (hid:id.1<lvl) (sN:S id=some (.bx [.fn nf (cs.map IV.ta)])):Sem Go.Proofs.Tryz.prog J0 lvl [oE e,.ta (Zc a),.ab id 0] S (oE (Zd5 a nm e)) S:=by
 have hne:id.1≠lvl:=by omega
 refine Zb Zfa (by simp [low,men,Zj]) ?_
 simp only[Zas,Zc,Jp hne,sN,EVA,seval,Zj,men]
 unfold Zd5
 by_cases h:e.2=e0S
 ·rw[if_pos h]
  have h':e.2 = { data:=#[] }:=h
  simp only[h',EVA,seval]
  rw[Zd];omega
 ·rw[if_neg h]
  have h':¬ e.2 = { data:=#[] }:=h
  simp only[h',Zat,Yr,EVA,seval]
  refine Za (hN h) ?_
  simp only[EVA,seval]
def ZqX(n:Int)(pl:Int->Int)(p:Int):Int:=if 0<=p then p+n else pl p
theorem Zjh(a:TBigraph)(p:Int)(pf:FuncId)(cs:List (List Tr))(pl:Int->Int)(hn:a.nodes.length<=4294967296)(hp:-4294967296<=p/\p<=4294967296)(hP:p<0->∀ lvl S,Sem Go.Proofs.Tryz.prog pf lvl (iI p::cs.map IV.ta) S (iI (pl p)) S)(lvl:Nat)(S:Sto):Sem Go.Proofs.Tryz.prog XM lvl [.ag ((Zc a).map .tr),iI p,.fn pf (cs.map IV.ta)] S (iI (ZqX a.nodes.length pl p)) S:=by
 refine Zb Zi0 trivial ?_
 simp only[ZdM,Zc,List.length_map,EVA,seval,Zj,men]
 unfold ZqX
 by_cases h:0<=p
 ·rw[if_pos h]
  simp only[h,EVA,seval]
  rw[Zd];omega
 ·rw[if_neg h]
  simp only[h,Zat,Yr,EVA,seval]
  refine Za (hP (by omega)) ?_
  simp only[EVA,seval]
theorem Zn6{id:Oid}:∀{l:List (List Tr)},scrs id (l.map IV.ta)=l.map IV.ta
 | []=>rfl
 | x::r=>by
  simp only[List.map_cons,scrs,scr]
  rw[Zn6]
theorem Zmg(sig:List TControl)(a b:TBigraph)(ha:bigOK sig a)(hb:bigOK sig b)(roots:Int)(ss:List Int)(hss:ss.length<=1000)(o:List ByteArray)(ho:o.length<=1000)(pf:FuncId)(ps:List (List Tr))(pl:Int->Int)(nf:FuncId)(ns:List (List Tr))(nm:ByteArray->Int×ByteArray)
  (hP:∀ p,-b.roots<=p->p<0->∀ lvl S,Sem Go.Proofs.Tryz.prog pf lvl (iI p::ps.map IV.ta) S (iI (pl p)) S) (hN:∀ x∈b.outer,∀ lvl S,Sem Go.Proofs.Tryz.prog nf lvl (iS x::ns.map IV.ta) S (oE (nm x)) S)
  (lvl:Nat) (S:Sto):Sem Go.Proofs.Tryz.prog Vl lvl [.ag ((Zc a).map .tr),.ag ((Zc b).map .tr),iI roots,tI ss,.tr (.sl (rS o)),.fn pf (ps.map IV.ta),.fn nf (ns.map IV.ta)] S
   (.ag [iI roots,.ow 3 ((Zax a b roots ss (Vc o) (Zcy a (a.edges+b.edges) (Vc o) fun x=>x) (Zcy b (a.edges+b.edges) (Vc o) (Zd5 a nm)) (ZqX a.nodes.length pl)).nodes.map Z9) (decide (b.nodes.length=0)),.ow 1 (rI (ss++b.sites.map (ZqX a.nodes.length pl))) true,iI (a.edges+b.edges),.ow 1 (rS (Vc o)) true,.tr (.sl ((b.inner.map (ZaT (Zcy b (a.edges+b.edges) (Vc o) (Zd5 a nm)))).map Jc))]) S:=by
 have ra:=ha.roots;have rb:=hb.roots
 have ea:=ha.edges;have eb:=hb.edges
 have sa:=ha.small;have sb:=hb.small
 have a1:=sa.nodes;have a2:=sa.sites;have a3:=sa.inner;have a4:=sa.outer
 have b1:=sb.nodes;have b2:=sb.sites;have b3:=sb.inner;have b4:=sb.outer
 have lnA:∀ x∈a.nodes,∀ l∈x.links,ZR a l:=fun x hx l hl=>by
  obtain⟨k,hk,rfl⟩:=List.getElem_of_mem hx
  exact(ha.nodes k hk).links l hl
 have lnB:∀ x∈b.nodes,∀ l∈x.links,ZR b l:=fun x hx l hl=>by
  obtain⟨k,hk,rfl⟩:=List.getElem_of_mem hx
  exact(hb.nodes k hk).links l hl
 obtain⟨FL,hFL⟩:∃ F,F=Zcy a (a.edges+b.edges) (Vc o) fun x=>x:=⟨_,rfl⟩
 obtain⟨FR,hFR⟩:∃ F,F=Zcy b (a.edges+b.edges) (Vc o) (Zd5 a nm):=⟨_,rfl⟩
 obtain⟨mv,hmv⟩:∃ F,F=ZqX a.nodes.length pl:=⟨_,rfl⟩
 have q1:=Uo a (a.edges+b.edges) o VG [] (fun x=>x) ea.1 (QD (by omega) (Xp ha)) (by omega) (by omega) (by omega) lnA ha.inner (fun l _ lvl S=>Zjf (Zeo a l) lvl S)
 have hR:∀ loc:List (Nat×Ob),lkO 416 loc=some (.bx [.fn nf (ns.map IV.ta)])->∀ l' S',Zj (ZgL (ZF lvl loc S) S' l') [.ag ((Zc b).map .tr),iI (a.edges+b.edges),.tr (.sl (rS o)),.fn J0 [.ta (Zc a),.ab (lvl,416) 0]]->Sem Go.Proofs.Tryz.prog Zw l' [.ag ((Zc b).map .tr),iI (a.edges+b.edges),.tr (.sl (rS o)),.fn J0 [.ta (Zc a),.ab (lvl,416) 0]] S' (Zi (UI b FR (a.edges+b.edges) (Vc o))) S':=fun loc h1 l' S' hs=>by
  have hc:Zj (ZlQ (ZF lvl loc S) S' l') [.ta (Zc a),.ab (lvl,416) 0]:=by
   have h2:=(Zjb hs).2.2.2.1
   simp only[men] at h2
   exact h2
  rw[hFR]
  exact ZcD b (a.edges+b.edges) o J0 _ (ZF lvl loc S) (Zd5 a nm) eb.1 (QD (by omega) (Xp hb)) (by omega) (by omega) (by omega) lnB hb.inner (fun l hl l'' S'' hs2=>by
   have hz:=hs2.2.1
   simp only[men] at hz
   refine Zjg a (Zeo b l) nf ns nm (ZpZ eb hl) (by omega) (fun hne=>hN _ ?_) l'' S'' (lvl,416) hz.1 (hz.2 _ (by rw[YX];exact h1))
   rcases J1 hl with ⟨g0,g1⟩ | ⟨i,hi,rfl⟩
   ·rw[Zgz g1] at hne
    exact absurd rfl hne
   ·rw[ZgA hi]
    exact List.getElem_mem hi) l' S' hc
 rw[<-hFL] at q1
 rw[<-hFL,<-hFR,<-hmv]
 simp only[Zc,Zi,UI,List.map_cons,List.map_nil] at q1 hR
 obtain⟨N1,hN1⟩:∃ l,l=a.nodes.map (fun x=>({ control:=x.control,parent:=x.parent,links:=List.map FL x.links }:TNode)):=⟨_,rfl⟩
 obtain⟨B1,hB1⟩:∃ l,l=b.nodes.map (fun x=>({ control:=x.control,parent:=x.parent,links:=List.map FR x.links }:TNode)):=⟨_,rfl⟩
 obtain⟨B2,hB2⟩:∃ l,l=b.nodes.map (fun x=>({ control:=x.control,parent:=mv x.parent,links:=List.map FR x.links }:TNode)):=⟨_,rfl⟩
 have lN1:N1.length=a.nodes.length:=by rw[hN1,List.length_map]
 have lB1:B1.length=b.nodes.length:=by rw[hB1,List.length_map]
 have lB2:B2.length=b.nodes.length:=by rw[hB2,List.length_map]
 simp only[<-hN1] at q1
 have hW1:b.inner.map (fun w=>({ name:=w.name,link:=FR w.link }:TWire))=b.inner.map (ZaT FR):=rfl
 simp only[<-hB1,hW1] at hR
 refine Zb ZhF (by simp [low,men,Zj]) ?_
 simp only[Zcr,Zc,EVA,seval,Zj,men]
 refine⟨by rw[Zd];omega,?_⟩
 refine Za q1 ?_
 simp only[lN1,List.length_map,EVA,seval]
 refine ZbZ (hR _ rfl) ?_
 simp only[EVA,seval,Zj,men]
 refine Za (Dt ss (by omega)) ?_
 simp only[lB1,List.length_map,EVA,seval]
 refine ZB (α:=Unit) b.nodes.length (fun j _=>[(51,iI j)]) (fun j _=>[(576,.bx [iI roots,.hd (lvl,992) [] 0 (a.nodes.length+j) none (a.nodes.length+j),.hd (lvl,1312) [] 0 ss.length none ss.length,iI (a.edges+b.edges),.hd (lvl,994) [] 0 (Vc o).length none (Vc o).length,.tr (.sl ((b.inner.map (ZaT FR)).map Jc))]),(992,.ar 3 ((N1++B2.take j).map Z9) (decide (j=0)) (a.nodes.length+j) 0)]) (fun _ _=>True) () (by simp only[Dr,EVA,seval]) (by simp only[hN1,EVA,seval];simp) trivial ?_
 intro j _ hj _
 simp only[List.length_map,EVA,seval]
 refine Zn (fun hlt=>?_) (fun hge=>?_)
 ·have hja:j<b.nodes.length:=by omega
  have ga:(B1.map Z9)[j]? = some [tv b.nodes[j].control,tv b.nodes[j].parent,Tr.sl (rI (b.nodes[j].links.map FR))]:=by
   rw[hB1,List.getElem?_map,List.getElem?_map,List.getElem?_eq_getElem hja]
   rfl
  have hx:=List.getElem_mem hja
  have hbp:=UE hb hx
  have hge:=Jo rb.1 (hb.nodes j hja).par
  simp only[ga,Zat,Yr,EVA,seval,Zj,men]
  have q3:=Zjh a b.nodes[j].parent pf ps pl (by omega) (by omega) (fun h=>hP _ hge h)
  rw[<-hmv] at q3
  simp only[Zc,List.map_cons,List.map_nil] at q3
  refine Za q3 ?_
  have hs:(N1++B2.take j).map Z9++[[tv b.nodes[j].control,tv (mv b.nodes[j].parent),Tr.sl (rI (b.nodes[j].links.map FR))]]=(N1++B2.take (j+1)).map Z9:=by
   have hj2:j<B2.length:=by omega
   rw[List.take_succ_eq_append_getElem hj2,<-List.append_assoc,List.map_append (l₂:=[B2[j]])]
   simp [hB2,Z9]
  have hl:(N1++B2.take j).length=a.nodes.length+j:=by rw[List.length_append,List.length_take];omega
  simp only[hs,hl,Bool.and_false,Zn6,Yr,List.length_map,EVA,seval]
  exact⟨by omega,by rw[Zd];omega,Ze () hja rfl trivial⟩
 ·have:j=b.nodes.length:=by omega
  subst this
  rw[show B2.take b.nodes.length=B2 from by rw[<-lB2,List.take_length]]
  refine ZB (α:=Unit) b.sites.length (fun j _=>[(71,iI j)]) (fun j _=>[(576,.bx [iI roots,.hd (lvl,992) [] 0 (a.nodes.length+b.nodes.length) none (a.nodes.length+b.nodes.length),.hd (lvl,1312) [] 0 (ss.length+j) none (ss.length+j),iI (a.edges+b.edges),.hd (lvl,994) [] 0 (Vc o).length none (Vc o).length,.tr (.sl ((b.inner.map (ZaT FR)).map Jc))]),(1312,.ar 1 (rI (ss++(b.sites.take j).map mv)) true (ss.length+j) 0)]) (fun _ _=>True) () (by simp only[Dr,EVA,seval]) (by simp only[EVA,seval];simp) trivial ?_
  intro j _ hj _
  simp only[List.length_map,EVA,seval]
  refine Zn (fun hlt=>?_) (fun hge=>?_)
  ·have hja:j<b.sites.length:=by omega
   have ga:=VL hja
   have e0:g0 b.sites j=b.sites[j]:=by simp [hja]
   have hx:=List.getElem_mem hja
   have hbp:=XP hb hx
   have hge:=Jo rb.1 (hb.sites _ hx)
   rw[<-e0] at hbp hge
   simp only[ga,Zat,Yr,EVA,seval,Zj,men]
   have q3:=Zjh a (g0 b.sites j) pf ps pl (by omega) (by omega) (fun h=>hP _ hge h)
   rw[<-hmv] at q3
   simp only[Zc,List.map_cons,List.map_nil] at q3
   refine Za q3 ?_
   have hs:rI (ss++(b.sites.take j).map mv)++[[tv (mv (g0 b.sites j))]]=rI (ss++(b.sites.take (j+1)).map mv):=by
    rw[List.take_succ_eq_append_getElem hja,List.map_append,<-List.append_assoc,Yx (ss++_),e0]
    rfl
   have hl:(ss++(b.sites.take j).map mv).length=ss.length+j:=by rw[List.length_append,List.length_map,List.length_take];omega
   simp only[hs,hl,Yr,List.length_map,EVA,seval]
   exact⟨by omega,by rw[Zd];omega,Ze () hja rfl trivial⟩
  ·have:j=b.sites.length:=by omega
   subst this
   rw[List.take_length]
   exact⟨by rw[List.length_append];omega,by rw[List.length_append,List.length_map],by rw[hN1,hB2];rfl⟩
abbrev ZAs(b:TBigraph)(u:Bool):IV:=.ag [iI b.roots,.ow 3 (b.nodes.map Z9) u,.ow 1 (rI b.sites) true,iI b.edges,.ow 1 (rS b.outer) true,.tr (.sl (b.inner.map Jc))]
theorem Zfu(sig:List TControl)(a b X:TBigraph)(ha:bigOK sig a)(hb:bigOK sig b)(roots:Int)(ss:List Int)(hss:ss.length<=1000)(o:List ByteArray)(ho:o.length<=1000)(pf:FuncId)(ps:List (List Tr))(pl:Int->Int)(nf:FuncId)(ns:List (List Tr))(nm:ByteArray->Int×ByteArray)
  (hP:∀ p,-b.roots<=p->p<0->∀ lvl S,Sem Go.Proofs.Tryz.prog pf lvl (iI p::ps.map IV.ta) S (iI (pl p)) S) (hN:∀ x∈b.outer,∀ lvl S,Sem Go.Proofs.Tryz.prog nf lvl (iS x::ns.map IV.ta) S (oE (nm x)) S)
  (hX:Zax a b roots ss (Vc o) (Zcy a (a.edges+b.edges) (Vc o) fun x=>x) (Zcy b (a.edges+b.edges) (Vc o) (Zd5 a nm)) (ZqX a.nodes.length pl)=X)
  (lvl:Nat) (S:Sto):Sem Go.Proofs.Tryz.prog Vl lvl [.ag ((Zc a).map .tr),.ag ((Zc b).map .tr),iI roots,tI ss,.tr (.sl (rS o)),.fn pf (ps.map IV.ta),.fn nf (ns.map IV.ta)] S (ZAs X (decide (b.nodes.length=0))) S:=by
 subst hX
 exact Zmg sig a b ha hb roots ss hss o ho pf ps pl nf ns nm hP hN lvl S
end Go.Fd

namespace Go.Fd
set_option maxRecDepth 20000
theorem ZsI{a:TBigraph}:ZqX a.nodes.length (fun p=>g0 a.sites (-1-p).toNat)=ZwB a:=rfl
theorem Zn7{sig:List TControl}{a b:TBigraph}(ha:bigOK sig a)(hb:bigOK sig b){o:List ByteArray}(ho:o.length<=100):(∀ l,ZR a l->sm (g0 (Zlq a (a.edges+b.edges) o) l.toNat)):=fun l hl=>by
 have ea:=ha.edges;have eb:=hb.edges
 exact ZsH ha (by omega) ho hl
end Go.Fd

namespace Go.Fd
set_option maxRecDepth 20000
theorem ZcI(a:TBigraph)(p:Int)(hp:-4294967296<=p/\p<0)(hl:(-1-p).toNat<a.sites.length)(lvl:Nat)(S:Sto):Sem Go.Proofs.Tryz.prog JT lvl [iI p,.ta (Zc a)] S (iI (g0 a.sites (-1-p).toNat)) S:=by
 obtain⟨k,hk⟩:∃ k:Nat,-1-p=k:=⟨(-1-p).toNat,by omega⟩
 rw[hk] at hl ⊢
 rw[Int.toNat_natCast] at hl ⊢
 have ga:=VL hl
 refine Zb Zao trivial ?_
 simp only[XZ,Zc,hk,ga,EVA,↓reduceIte,Nat.reduceEqDiff,reduceCtorEq,Nat.reduceAdd,Nat.reduceLeDiff,Nat.reduceLT]
 rw[Zd];omega
theorem ZgF(s:ByteArray)(lvl:Nat)(S:Sto):Sem Go.Proofs.Tryz.prog YF lvl [iS s] S (oE (0,s)) S:=by
 refine Zb ZhG (by simp [low,men,Zj]) ?_
 simp only[Zcs,EVA,↓reduceIte,Nat.reduceEqDiff,Nat.reduceMul,reduceCtorEq,Nat.reduceAdd,Nat.reduceLeDiff,Nat.reduceLT]
theorem Zn8(n:Nat)(hn:n<=4294967296)(lvl:Nat)(S:Sto):Sem Go.Proofs.Tryz.prog JN lvl [.cs [],iI n] S (.ow 1 [] true) S:=by
 refine Zb WY trivial ?_
 simp only[Vq,EVA,↓reduceIte,Nat.reduceEqDiff,Nat.reduceMul,reduceCtorEq,Nat.reduceAdd,Nat.reduceLeDiff,Nat.reduceLT,Int.reduceLE]
 rw[if_neg (by omega)]
 refine⟨by rw[Zd];omega,by rw[Zd];omega,?_⟩
 split
 ·exact⟨fun e he=>by (cases he),by omega,by omega,by omega⟩
 ·trivial
theorem Zji{α:Type}{ls:List (List α)}{j:Nat}(h:j<ls.length):(ls.take (j+1)).flatten=(ls.take j).flatten++ls[j]:=by
 rw[List.take_succ_eq_append_getElem h,List.flatten_append]
 simp
theorem ZdT{α:Type}{ls:List (List α)}{j:Nat}:((ls.take j).flatten).length<=ls.flatten.length:=by
 have h:=congrArg (fun l=>l.flatten.length) (List.take_append_drop j ls)
 simp only[List.flatten_append,List.length_append] at h
 omega
abbrev eSS(l:List ByteArray):List Tr:=[Tr.sl (rS l)]
theorem Zfv(ls:List (List ByteArray))(hl:ls.length<=4294967296)(ht:ls.flatten.length<=4294967296)(lvl:Nat)(S:Sto):Sem Go.Proofs.Tryz.prog Z7 lvl [.tr (.sl (ls.map eSS))] S (.ow 1 (rS ls.flatten) true) S:=by
 refine Zb Wh trivial ?_
 simp only[Y0,List.length_map,EVA,↓reduceIte,Nat.reduceEqDiff,reduceCtorEq,Nat.reduceLeDiff,Nat.reduceLT]
 refine ZB (α:=Unit) ls.length (fun j _=>[(3,iI ((ls.take j).flatten).length),(11,iI j)]) (fun _ _=>[]) (fun _ _=>True) () (by simp only[EVA,↓reduceIte,Nat.reduceEqDiff,reduceCtorEq]) (by (simp only[EVA,↓reduceIte,Nat.reduceEqDiff,reduceCtorEq,Nat.reduceLT]) <;> rfl) trivial ?_
 intro j _ hj _
 simp only[EVA,↓reduceIte,Nat.reduceEqDiff,reduceCtorEq,Nat.reduceLT]
 refine Zn (fun hlt=>?_) (fun hge=>?_)
 ·have hja:j<ls.length:=by omega
  have ga:=W9 (c:=eSS) hja
  have h1:=Zji (ls:=ls) hja
  have h2:=ZdT (ls:=ls) (j:=j+1)
  rw[h1,List.length_append] at h2
  simp only[ga,List.length_map,EVA,↓reduceIte,Nat.reduceEqDiff,reduceCtorEq,Nat.reduceLT]
  refine⟨by rw[Zd];omega,?_⟩
  rw[if_neg (by omega)]
  exact⟨by rw[Zd];omega,Ze () hja (by rw[h1,List.length_append];rfl) trivial⟩
 ·have:j=ls.length:=by omega
  subst this
  rw[List.take_length]
  refine Znm (Zn8 _ ht _ _) ?_
  simp only[List.length_map,EVA,↓reduceIte,Nat.reduceEqDiff,Nat.reduceMul,reduceCtorEq,Nat.reduceAdd,Nat.reduceLT]
  refine ZB (α:=Unit) ls.length (fun j _=>[(6,.hd (lvl,768) [] 0 ((ls.take j).flatten).length none ((ls.take j).flatten).length),(27,iI j)]) (fun j _=>[(768,.ar 1 (rS (ls.take j).flatten) true ((ls.take j).flatten).length 0)]) (fun _ _=>True) () (by simp only[EVA,↓reduceIte,Nat.reduceEqDiff,reduceCtorEq]) (by (simp only[EVA,↓reduceIte,Nat.reduceEqDiff,reduceCtorEq,Nat.reduceLT]) <;> rfl) trivial ?_
  intro j _ hj _
  simp only[List.length_map,EVA,↓reduceIte,Nat.reduceEqDiff,reduceCtorEq,Nat.reduceLT]
  refine Zn (fun hlt2=>?_) (fun hge2=>?_)
  ·have hja:j<ls.length:=by omega
   have ga:=W9 (c:=eSS) hja
   have h1:=Zji (ls:=ls) hja
   have h2:=ZdT (ls:=ls) (j:=j+1)
   rw[h1,List.length_append] at h2
   simp only[ga,ZnM,ZnN,List.length_map,EVA,↓reduceIte,Nat.reduceEqDiff,Nat.reduceLT]
   exact⟨by omega,by rw[Zd];omega,Ze () hja (by rw[h1,List.length_append,Zgx,Nat.max_eq_right (Nat.le_add_right _ _)];rfl) trivial⟩
  ·have:j=ls.length:=by omega
   subst this
   rw[List.take_length]
theorem X1{a b:TBigraph}:(Yw a b).length<=a.outer.length+b.outer.length:=Nat.le_trans ZaU (by rw[List.length_append];omega)
def ZAt(sig:List TControl)(a b:TBigraph):Prop:=bigOK sig a/\bigOK sig b/\a.inner.length=0/\(a.sites.length:Int)=b.roots
def ZcJ(sig:List TControl)(a b:TBigraph):Prop:=ZAt sig a b/\bigOK sig (U0 a b)
theorem Zn9{sig:List TControl}{a b:TBigraph}(ha:bigOK sig a)(hb:bigOK sig b):Zs 4294967290 (U0 a b):=by
 have a4:=ha.small.outer;have b4:=hb.small.outer
 have hl:=X1 (a:=a) (b:=b)
 refine Zn3 ha hb (by simp) (by omega) fun y hy=>?_
 rcases List.mem_append.1 (setS_mem.1 hy) with hy | hy
 ·have:=Yg ha.outer hy;omega
 ·have:=Yg hb.outer hy;omega
theorem Zoa{sig:List TControl}{a b:TBigraph}(ha:bigOK sig a)(hb:bigOK sig b)(hf:(a.sites.length:Int)=b.roots)(fa:Zy a)(fb:Zy b):Zy (U0 a b):=by
 have a4:=ha.small.outer;have b4:=hb.small.outer
 have ea:=ha.edges;have eb:=hb.edges
 have ra:=ha.roots
 have hl:=X1 (a:=a) (b:=b)
 refine Zn4 ha hb fa fb (by unfold sm;omega) (by simp) (fun l hl2=>Zn7 ha hb (by omega) l hl2) (fun l hl2=>Zn5 ha hb (fun x hx=>?_) hl2) fun p h1 h2=>Zv7 ha hb hf h1 h2
 have:=Zfk (l:=Yw a b) (s:=x)
 have:=ZdP (l:=Yw a b) (s:=x)
 unfold sm
 omega
open Classical in
noncomputable def W4(sig:List TControl)(a b:TBigraph):TBigraph:=if ZcJ sig a b then U0 a b else JW
noncomputable def W5(sig:List TControl)(a b:TBigraph):Bool:=dc (ZcJ sig a b)
theorem Zmh(sig:List TControl)(a b:TBigraph)(ha:bigOK sig a)(hb:bigOK sig b)(hf:(a.sites.length:Int)=b.roots)(lvl:Nat)(S:Sto):Sem Go.Proofs.Tryz.prog WP lvl [.ag ((Zc a).map .tr),.ag ((Zc b).map .tr)] S (Zp1 (U0 a b) false) S:=by
 have ea:=ha.edges;have eb:=hb.edges
 have sa:=ha.small;have sb:=hb.small
 have a4:=sa.outer;have b4:=sb.outer
 have hol:=X1 (a:=a) (b:=b)
 refine Zb ZhA (by simp [low,men,Zj]) ?_
 simp only[Zcl,Zc,ZnM,ZnN,Nat.zero_max,List.length_map,EVA,↓reduceIte,Nat.reduceEqDiff,Nat.reduceMul,reduceCtorEq,Nat.reduceAdd,Nat.reduceLeDiff,Nat.reduceLT,Zj,men]
 rw[show cut (rS a.outer++rS b.outer) 0 (a.outer.length+b.outer.length)=rS (a.outer++b.outer) from by
  rw[<-Zgx]
  exact Yb (by simp [rS])]
 refine⟨by omega,by omega,by simp [rS],Za (Up (a.outer++b.outer) (by rw[List.length_append];omega)) ?_⟩
 rw[show Vc (a.outer++b.outer)=Yw a b from rfl]
 simp only[EVA,↓reduceIte,Nat.reduceEqDiff,Nat.reduceMul,reduceCtorEq,Nat.reduceAdd,Nat.reduceLT,Zj,men]
 refine⟨by rw[Zd];omega,?_⟩
 refine Za (W3 a.outer (a.edges+b.edges) (Yw a b) (by omega) (by omega) (by omega)) ?_
 simp only[EVA,↓reduceIte,Nat.reduceEqDiff,Nat.reduceMul,reduceCtorEq,Nat.reduceLT,Zj,men]
 refine Za (W3 b.outer (a.edges+b.edges) (Yw a b) (by omega) (by omega) (by omega)) ?_
 simp only[EVA,↓reduceIte,Nat.reduceEqDiff,Nat.reduceMul,reduceCtorEq,Nat.reduceLT,Zj,men]
 have q:=Zki sig a b (Yw a b) (a.outer.map fun x=>a.edges+b.edges+ixS (Yw a b) x) (b.outer.map fun x=>a.edges+b.edges+ixS (Yw a b) x) ha hb hf (by simp) (by simp) (by omega) (Zlq a (a.edges+b.edges) (Yw a b)) (ZnY a b fun x=>a.edges+b.edges+ixS (Yw a b) x) (fun n hn=>Zn0 hn) (fun n hn=>Zn1 hn)
 rw[show Zls a b (Yw a b) (Zlq a (a.edges+b.edges) (Yw a b)) (ZnY a b fun x=>a.edges+b.edges+ixS (Yw a b) x)=U0 a b from rfl] at q
 simp only[Zc,Zp1,List.map_cons,List.map_nil] at q
 refine Za q ?_
 simp only[List.length_map,EVA,↓reduceIte,Nat.reduceEqDiff,Nat.reduceMul,reduceCtorEq,Nat.reduceAdd,Nat.reduceLT]
theorem Zay(sig:List TControl)(a b:TBigraph)(hn:sig.length<=4294967296)(hbs:∀ y∈sig,Zr 4294967296 y)(hba:Zs 4294967296 a)(hbb:Zs 4294967296 b)(fa:Zy a)(fb:Zy b)(lvl:Nat)(S:Sto):Sem Go.Proofs.Tryz.prog Vj lvl [.tr (.sl (sig.map Zh)),.ag ((Zc a).map .tr),.ag ((Zc b).map .tr)] S (.tu [Zi (W4 sig a b),iB (W5 sig a b)]) S:=by
 refine Zb ZbE (by simp [Zi,low,men,Zj]) ?_
 simp only[WV,Zc,EVA,↓reduceIte,Nat.reduceEqDiff,Nat.reduceMul,reduceCtorEq,Nat.reduceAdd,Nat.reduceLeDiff,Nat.reduceLT,Zj,men]
 have i1:=Jt sig a hn hbs hba
 have i2:=Jt sig b hn hbs hbb
 simp only[Zc,List.map_cons,List.map_nil] at i1 i2
 refine Za i1 ?_
 unfold W4 W5
 cases h1:dc (bigOK sig a)
 ·have hno:¬ ZcJ sig a b:=fun g=>dc_not.1 h1 g.1.1
  rw[if_neg hno,Zg hno]
  simp only[EVA,↓reduceIte,Nat.reduceEqDiff,Nat.reduceMul,reduceCtorEq,Nat.reduceAdd,Nat.reduceLT]
  rfl
 have hA:=dc_iff.1 h1
 simp only[EVA,↓reduceIte,Nat.reduceEqDiff,Nat.reduceMul,reduceCtorEq,Nat.reduceAdd,Nat.reduceLT,Zj,men]
 refine Za i2 ?_
 cases h2:dc (bigOK sig b)
 ·have hno:¬ ZcJ sig a b:=fun g=>dc_not.1 h2 g.1.2.1
  rw[if_neg hno,Zg hno]
  simp only[EVA,↓reduceIte,Nat.reduceEqDiff,Nat.reduceMul,reduceCtorEq,Nat.reduceAdd,Nat.reduceLT]
  rfl
 have hB:=dc_iff.1 h2
 have sa:=hA.small;have sb:=hB.small
 have a2:=sa.sites;have a3:=sa.inner;have a4:=sa.outer;have b4:=sb.outer
 have ra:=hA.roots;have rb:=hB.roots
 simp only[List.length_map,EVA,↓reduceIte,Nat.reduceEqDiff,Nat.reduceMul,reduceCtorEq,Nat.reduceAdd,Nat.reduceLT,Zj,men]
 by_cases h3:(0:Int)<a.inner.length
 ·have hno:¬ ZcJ sig a b:=fun g=>by have:=g.1.2.2.1;omega
  rw[if_neg hno,Zg hno]
  simp only[h3,EVA,↓reduceIte]
  rfl
 by_cases h4:(a.sites.length:Int)=b.roots
 ·simp only[h3,h4,EVA,↓reduceIte]
  have hfl:[a.outer,b.outer].flatten=a.outer++b.outer:=by simp
  have hc:=Zfv [a.outer,b.outer] (by simp) (by rw[hfl,List.length_append];omega)
  rw[hfl] at hc
  refine⟨by simp,by simp,Za hc ?_⟩
  simp only[EVA,↓reduceIte,Nat.reduceEqDiff,Nat.reduceMul,reduceCtorEq,Nat.reduceLT,Zj,men]
  have qj:=Zfu sig a b (U0 a b) hA hB a.roots [] (by simp) (a.outer++b.outer) (by rw[List.length_append];omega) JT [Zc a] (fun p=>g0 a.sites (-1-p).toNat) YF [] (fun s=>(0,s)) (fun p h1 h2 lvl S=>ZcI a p (by omega) (by omega) lvl S) (fun x _ lvl S=>ZgF x lvl S) (by rw[ZsI];exact ZsG hA hB)
  simp only[Zc,ZAs,List.map_cons,List.map_nil] at qj
  refine Za qj ?_
  simp only[EVA,↓reduceIte,Nat.reduceEqDiff,Nat.reduceMul,reduceCtorEq,Nat.reduceLT,Zj,men]
  have qv:=ZcE sig (U0 a b) hn hbs (Zn9 hA hB) (Zoa hA hB h4 fa fb)
  simp only[Zc,List.map_cons,List.map_nil] at qv
  refine Za qv ?_
  cases h6:dc (bigOK sig (U0 a b))
  ·have hno:¬ ZcJ sig a b:=fun g=>dc_not.1 h6 g.2
   rw[if_neg hno,Zg hno,if_neg (dc_not.1 h6)]
   simp only[Zi,EVA,↓reduceIte,Nat.reduceEqDiff,Nat.reduceMul,reduceCtorEq,Nat.reduceAdd,Nat.reduceLT]
   rfl
  ·have hyes:ZcJ sig a b:=⟨⟨hA,hB,by omega,h4⟩,dc_iff.1 h6⟩
   rw[if_pos hyes,ZL hyes,if_pos (dc_iff.1 h6)]
   simp only[Zi,List.length_map,EVA,↓reduceIte,Nat.reduceEqDiff,Nat.reduceMul,reduceCtorEq,Nat.reduceAdd,Nat.reduceLT]
 ·have hno:¬ ZcJ sig a b:=fun g=>h4 g.1.2.2.2
  rw[if_neg hno,Zg hno]
  simp only[h3,h4,EVA,↓reduceIte]
  rfl
end Go.Fd
