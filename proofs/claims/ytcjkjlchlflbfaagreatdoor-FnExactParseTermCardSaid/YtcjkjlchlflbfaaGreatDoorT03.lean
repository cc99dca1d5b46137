/-
  FOUNDATION 38: regions that draw their order and turn nothing. Own work.
-/
import Derived.Test.YtcjkjlchlflbfaaGreatDoorT02
import Derived.Orders
import Derived.Deep.LoopGhost
import Derived.Laws.Sem
set_option linter.all false
namespace Go.Fd
variable [Tabs]
def Ju(ρ:Nat->IV):X->IV
 | .t n=>ρ n
 | .k v=>kv v
 | .f i=>.fn i []
theorem W9(env:List (Nat×IV)):xv env=Ju (fun t=>lk t env):=by
 funext x;cases x <;> rfl
def VV(C:ZK)(o:O)(ρ:Nat->IV)(L:Zc)(lvl key:Nat)(y:IV)(obs:List Ob):Prop :=
 ∃ mk ob,mk lvl key=y/\ob lvl key=obs/\ev C (Ju ρ) L (fun m b=>m=mk/\b=ob) o
def Eff(C:ZK)(o:OP)(ρ:Nat->IV)(L:Zc)(lvl:Nat)(y:IV)(obs:List Ob):Prop :=
 match o.g with
 | none=>VV C o.o ρ L lvl (keyOf o.d) y obs
 | some (j,w)=>(ρ j=iB w/\VV C o.o ρ L lvl (keyOf o.d) y obs)\/((ρ j=iB (!w)\/ρ j = .tu [])/\y = .tu []/\obs=[])
def JD(d:Option Nat)(y:IV)(ρ:Nat->IV):Nat->IV:=fun t=>if d=some t then y else ρ t
def ZN(b:Nat)(obs:List Ob)(σ:Nat->Option Ob):Nat->Option Ob:=fun k=>if b<=k/\k<b+obs.length then obs[k-b]? else σ k
def Jq(lvl:Nat)(σ:Nat->Option Ob)(out:Zc):Zc:=fun id=>if id.1=lvl then σ id.2 else out id
abbrev QU(b n:Nat)(σ:Nat->Option Ob):Prop:=∀ k,b<=k->k<b+n->σ k=none
theorem ZeN(st:St):st.sto=Jq st.lvl (fun k=>lkO k st.loc) st.out:=rfl
theorem WG(d:Option Nat)(y:IV)(env:List (Nat×IV)):(fun t=>lk t (ptd d y env))=JD d y (fun t=>lk t env):=by
 funext t
 unfold ptd JD
 cases d with
 | none=>rfl
 | some d =>
  simp only[Uat]
  rw[W5]
  by_cases h:t=d
  ·rw[if_pos h,if_pos h.symm]
  ·rw[if_neg h,if_neg (fun e=>h e.symm)]
theorem ZbU:∀(obs:List Ob) (b:Nat) (loc:List (Nat×Ob)),(fun k=>lkO k (addO b obs loc))=ZN b obs (fun k=>lkO k loc)
 | [],b,loc=>by
  funext k
  simp only[addO,ZN,List.length_nil]
  rw[if_neg (by omega)]
 | o::r,b,loc=>by
  rw[addO,ZbU r (b+1) (ptO b o loc)]
  funext k
  simp only[ZN,List.length_cons]
  by_cases h1:b+1<=k/\k<b+1+r.length
  ·rw[if_pos h1,if_pos ⟨by omega,by omega⟩,show k-b=(k-(b+1))+1 from by omega]
   simp
  ·rw[if_neg h1,DU]
   by_cases h2:k=b
   ·rw[if_pos h2,if_pos ⟨by omega,by omega⟩,h2];simp
   ·rw[if_neg h2,if_neg (by omega)]
theorem freshK_F:∀{n b:Nat} {loc:List (Nat×Ob)},freshK b loc n↔QU b n (fun k=>lkO k loc)
 | 0,b,loc=>by simp only[freshK,QU,true_iff];intro k h1 h2;omega
 | n+1,b,loc=>by
  simp only[freshK,freshK_F (n:=n)]
  constructor
  ·rintro⟨h1,h2⟩ k h3 h4
   by_cases h:k=b
   ·subst h;exact h1
   ·exact h2 k (by omega) (by omega)
  ·intro h
   exact⟨h b (by omega) (by omega),fun k h1 h2=>h k (by omega) (by omega)⟩
theorem Zaf{j:Nat}{x:IV}{env:List (Nat×IV)}(h:lk j env=x):(fun t=>lk t (pt j x env))=fun t=>lk t env:=by
 funext t;rw[W5];split
 ·rename_i ht;rw[ht,h]
 ·rfl
section
variable {C:ZK} {st:St} {o:OP} {K:St->Prop}
structure Step1 (o:OP) (st st':St) (y:IV) (obs:List Ob):Prop where
 lvl:st'.lvl=st.lvl
 out:st'.out=st.out
 env:(fun t=>lk t st'.env)=JD o.d y (fun t=>lk t st.env)
 loc:(fun k=>lkO k st'.loc)=ZN (keyOf o.d) obs (fun k=>lkO k st.loc)
theorem Zjc{d:Option Nat}{oo:O}{env:List (Nat×IV)}{K:St->Prop}(h:ev C (xv env) st.sto (fun mk obs=>freshK (keyOf d) st.loc (obs st.lvl (keyOf d)).length/\K { st with env:=ptd d (mk st.lvl (keyOf d)) env,loc:=addO (keyOf d) (obs st.lvl (keyOf d)) st.loc }) oo) :
  ∃ y obs,VV C oo (fun t=>lk t env) st.sto st.lvl (keyOf d) y obs/\QU (keyOf d) obs.length (fun k=>lkO k st.loc)/\K { st with env:=ptd d y env,loc:=addO (keyOf d) obs st.loc }:=by
 obtain⟨⟨mk,ob⟩,⟨h1,h2⟩,h3⟩:=(ZeK (C:=C) (ρ:=xv env) (L:=st.sto) oo).ex (K:=fun r:MO=>freshK (keyOf d) st.loc (r.2 st.lvl (keyOf d)).length/\K { st with env:=ptd d (r.1 st.lvl (keyOf d)) env,loc:=addO (keyOf d) (r.2 st.lvl (keyOf d)) st.loc }) h
 refine⟨mk st.lvl (keyOf d),ob st.lvl (keyOf d),⟨mk,ob,rfl,rfl,?_⟩,freshK_F.1 h1,h2⟩
 rw[<-W9]
 exact(ZeK (C:=C) (ρ:=xv env) (L:=st.sto) oo).mono (K:=fun s=>s=(mk,ob)) (K':=fun r:MO=>r.1=mk/\r.2=ob) (fun r hr=>by rw[hr];exact⟨rfl,rfl⟩) h3
theorem ZrA(hl:JM o.o=false)(h:YE C o st K):∃ y obs st',K st'/\Eff C o (fun t=>lk t st.env) st.sto st.lvl y obs/\QU (keyOf o.d) obs.length (fun k=>lkO k st.loc)/\Step1 o st st' y obs:=by
 have hnil:∀ σ:Nat->Option Ob,ZN (keyOf o.d) [] σ=σ:=fun σ=>by funext k;simp only[ZN,List.length_nil];rw[if_neg (by omega)]
 unfold YE at h
 unfold Eff
 split at h
 ·rename_i hg
  rw[hg]
  unfold ZA at h
  rw[if_neg (by rw[hl];decide)] at h
  obtain⟨y,obs,h1,h2,h3⟩:=Zjc h
  exact⟨y,obs,_,h3,h1,h2,⟨rfl,rfl,WG _ _ _,ZbU _ _ _⟩⟩
 ·rename_i j w hg
  rw[hg]
  dsimp only
  split at h <;> try contradiction
  ·rename_i c hc
   by_cases hcw:c=w
   ·subst hcw
    have h:=h.1 rfl
    unfold ZA at h
    rw[if_neg (by rw[hl];decide)] at h
    obtain⟨y,obs,h1,h2,h3⟩:=Zjc (st:={ st with env:=pt j (iB c) st.env }) h
    rw[Zaf hc] at h1
    exact⟨y,obs,_,h3,.inl ⟨hc,h1⟩,h2,⟨rfl,rfl,by rw[WG];dsimp only;rw[Zaf hc],ZbU _ _ _⟩⟩
   ·have hcw':c = !w:=by cases c <;> cases w <;> simp_all
    subst hcw'
    exact⟨.tu [],[],_,h.2 rfl,.inr ⟨.inl hc,rfl,rfl⟩,fun k h1 h2=>by simp at h2;omega,⟨rfl,rfl,by rw[WG];rw[Zaf hc],(hnil _).symm⟩⟩
  ·rename_i hc
   exact⟨.tu [],[],_,h,.inr ⟨.inr hc,rfl,rfl⟩,fun k h1 h2=>by simp at h2;omega,⟨rfl,rfl,WG _ _ _,(hnil _).symm⟩⟩
theorem ZrB(hl:JM o.o=false){y:IV}{obs:List Ob}(h:Eff C o (fun t=>lk t st.env) st.sto st.lvl y obs)(hf:QU (keyOf o.d) obs.length (fun k=>lkO k st.loc)):YE C o st (fun st' => Step1 o st st' y obs):=by
 have hnil:∀ σ:Nat->Option Ob,ZN (keyOf o.d) [] σ=σ:=fun σ=>by funext k;simp only[ZN,List.length_nil];rw[if_neg (by omega)]
 have back:∀(env:List (Nat×IV)),(fun t=>lk t env)=(fun t=>lk t st.env)->VV C o.o (fun t=>lk t st.env) st.sto st.lvl (keyOf o.d) y obs->ZA C o.d o.o { st with env:=env } (fun st' => Step1 o st st' y obs):=fun env he ha=>by
  obtain⟨mk,ob,rfl,rfl,ha⟩:=ha
  unfold ZA
  rw[if_neg (by rw[hl];decide)]
  rw[W9]
  dsimp only
  rw[he]
  refine(ZeK (C:=C) (ρ:=Ju fun t=>lk t st.env) (L:=st.sto) o.o).mono (K:=fun r:MO=>r.1=mk/\r.2=ob) (K':=fun r:MO=>freshK (keyOf o.d) st.loc (r.2 st.lvl (keyOf o.d)).length/\Step1 o st { st with env:=ptd o.d (r.1 st.lvl (keyOf o.d)) env,loc:=addO (keyOf o.d) (r.2 st.lvl (keyOf o.d)) st.loc } (mk st.lvl (keyOf o.d)) (ob st.lvl (keyOf o.d))) ?_ ha
  rintro⟨m,b⟩ ⟨rfl,rfl⟩
  exact⟨freshK_F.2 hf,⟨rfl,rfl,by rw[WG,he],ZbU _ _ _⟩⟩
 unfold YE
 unfold Eff at h
 split
 ·rename_i hg
  rw[hg] at h
  exact back st.env rfl h
 ·rename_i j w hg
  rw[hg] at h
  rcases h with ⟨h1,h2⟩ | ⟨h1 | h1,rfl,rfl⟩
  ·dsimp only at h1 ⊢
   rw[h1]
   dsimp only
   exact⟨fun _=>back _ (Zaf h1) h2,fun hc=>by cases w <;> cases hc⟩
  ·dsimp only at h1 ⊢
   rw[h1]
   dsimp only
   refine⟨fun hc=>(by cases w <;> cases hc),fun _=>⟨rfl,rfl,by rw[WG,Zaf h1],(hnil _).symm⟩⟩
  ·dsimp only at h1 ⊢
   rw[h1]
   exact⟨rfl,rfl,WG _ _ _,(hnil _).symm⟩
def WH:List X->List Nat
 | []=>[]
 | .t n::r=>n::WH r
 | _::r=>WH r
def rds(o:OP):List Nat :=
 match o.g with
 | some (j,_)=>j::WH (rd o.o)
 | none=>WH (rd o.o)
def UT(d:Option Nat)(o:OP):Bool :=
 match d with
 | some d=>!(rds o).contains d
 | none=>true
def X1(p o:OP):Bool:=UT p.d o&&UT o.d p&&(match p.d,o.d with | some a,some b=>a != b | _,_=>true)
theorem Zag{n:Nat}:∀{l:List X},X.t n∈l->n∈WH l
 | [],h=>by cases h
 | .t m::r,h=>by
  simp only[WH]
  cases h with
  | head=>exact UbW
  | tail _ h=>exact Uce _ (Zag h)
 | .k v::r,h=>by
  simp only[WH]
  cases h with
  | tail _ h=>exact Zag h
 | .f i::r,h=>by
  simp only[WH]
  cases h with
  | tail _ h=>exact Zag h
theorem ZrC{Q:Zd->Prop}(v:Value):men Q (kv v):=by
 have hkc:∀ u,men Q (kc u):=fun u=>by unfold kc;split <;> trivial
 unfold kv
 split
 ·rename_i c
  simp only[men]
  induction c.toList with
  | nil=>trivial
  | cons x r ih=>exact⟨hkc x,ih⟩
 ·exact hkc _
theorem Qr{d:Option Nat}{y:IV}{ρ:Nat->IV}(h:UT d o=true):(∀ x∈rd o.o,Ju (JD d y ρ) x=Ju ρ x)/\∀ j w,o.g=some (j,w)->JD d y ρ j=ρ j:=by
 have key:∀ n∈rds o,JD d y ρ n=ρ n:=fun n hn=>by
  unfold JD
  rw[if_neg]
  rintro rfl
  simp [UT,hn] at h
 refine⟨fun x hx=>?_,fun j w hg=>key j (by simp [rds,hg])⟩
 cases x with
 | t n =>
  refine key n ?_
  unfold rds
  split
  ·exact Uce _ (Zag hx)
  ·exact Zag hx
 | k v=>rfl
 | f i=>rfl
theorem Eff.congr{ρ ρ':Nat->IV}{L L':Zc}{lvl:Nat}{y:IV}{obs:List Ob}(hr:∀ x∈rd o.o,Ju ρ' x=Ju ρ x)(hg:∀ j w,o.g=some (j,w)->ρ' j=ρ j)(hs:∀ x∈rd o.o,Xj L L' (Ju ρ x))
  (h:Eff C o ρ L lvl y obs):Eff C o ρ' L' lvl y obs:=by
 have key:VV C o.o ρ L lvl (keyOf o.d) y obs->VV C o.o ρ' L' lvl (keyOf o.d) y obs:=fun⟨m0,ob,h1,h2,h3⟩=>⟨m0,ob,h1,h2,Zrt o.o hr hs h3⟩
 unfold Eff at *
 split at h
 ·exact key h
 ·rename_i j w hgg
  rw[hg j w hgg]
  exact h.imp (fun h=>⟨h.1,key h.2⟩) id
theorem X2{lvl b:Nat}{obs:List Ob}{σ:Nat->Option Ob}{out:Zc}(hf:QU b obs.length σ)(id:Zd)(ob:Ob)(h:Jq lvl σ out id=some ob):Jq lvl (ZN b obs σ) out id=some ob:=by
 unfold Jq at *
 split at h
 ·rename_i hi
  rw[if_pos hi]
  unfold ZN
  rw[if_neg]
  ·exact h
  ·rintro⟨h1,h2⟩
   rw[hf _ h1 h2] at h;cases h
 ·rename_i hi;rw[if_neg hi];exact h
def Qs(o:OP):Bool:=(match o.o with | .s0 .. => o.d.isNone | .a0 .. => true | .a1 .. => true | .c0 .. => true | .a2 .. => true | _=>false)&&o.g.isNone
def qt(o:OP):Bool:=!JM o.o || Qs o
def JY(lvl:Nat)(id:Zd)(ob:Ob)(σ:Nat->Option Ob):Nat->Option Ob:=fun k=>if id=(lvl,k) then some ob else σ k
def WI(lvl:Nat)(id:Zd)(ob:Ob)(out:Zc):Zc:=if id.1=lvl then out else Zl out id ob
theorem ZbV{lvl:Nat}{id:Zd}{ob:Ob}{σ:Nat->Option Ob}{out:Zc}:Jq lvl (JY lvl id ob σ) (WI lvl id ob out)=Zl (Jq lvl σ out) id ob:=by
 funext i
 show (if i.1=lvl then (if id=(lvl,i.2) then some ob else σ i.2) else (if id.1=lvl then out else Zl out id ob) i)=if i=id then some ob else if i.1=lvl then σ i.2 else out i
 by_cases h:i.1=lvl
 ·rw[if_pos h,if_pos h]
  by_cases e:i=id
  ·rw[if_pos e,if_pos (by rw[<-e,<-h])]
  ·rw[if_neg e,if_neg (fun g=>e (by rw[g,<-h]))]
 ·rw[if_neg h,if_neg h]
  by_cases hc:id.1=lvl
  ·rw[if_pos hc,if_neg (fun e=>h (by rw[e];exact hc))]
  ·rw[if_neg hc];rfl
def QS(C:ZK)(lvl:Nat)(o:OP)(ρ:Nat->IV)(σ:Nat->Option Ob)(out:Zc)(ρ1:Nat->IV)(σ1:Nat->Option Ob)(out1:Zc):Prop :=
 (JM o.o=false/\∃ y obs,Eff C o ρ (Jq lvl σ out) lvl y obs/\QU (keyOf o.d) obs.length σ/\ρ1=JD o.d y ρ/\σ1=ZN (keyOf o.d) obs σ/\out1=out) \/
 (Qs o=true/\∃ y id ob,Jy (Ju ρ) (Jq lvl σ out) (fun v i b=>v=y/\i=id/\b=ob) o.o/\ρ1=JD o.d y ρ/\σ1=JY lvl id ob σ/\out1=WI lvl id ob out)
structure At (st:St) (lvl:Nat) (ρ:Nat->IV) (σ:Nat->Option Ob) (out:Zc):Prop where
 lvl:st.lvl=lvl
 env:(fun t=>lk t st.env)=ρ
 loc:(fun k=>lkO k st.loc)=σ
 out:st.out=out
theorem At.refl(st:St):At st st.lvl (fun t=>lk t st.env) (fun k=>lkO k st.loc) st.out:=⟨rfl,rfl,rfl,rfl⟩
theorem Zjd{id:Zd}{ob:Ob}{v:IV}{d:Option Nat}:At { Zn st id ob with env:=ptd d v st.env } st.lvl (JD d v fun t=>lk t st.env) (JY st.lvl id ob fun k=>lkO k st.loc) (WI st.lvl id ob st.out):=by
 refine⟨Qq _ _ _,WG _ _ _,?_,?_⟩
 ·funext k
  unfold Zn JY
  by_cases h:id.1=st.lvl
  ·rw[if_pos h]
   dsimp only
   rw[DU]
   by_cases hk:k=id.2
   ·rw[if_pos hk,if_pos (by rw[hk,<-h])]
   ·rw[if_neg hk,if_neg (fun e=>hk (by rw[e]))]
  ·rw[if_neg h,if_neg (fun e=>h (by rw[e]))]
 ·unfold Zn WI
  by_cases h:id.1=st.lvl
  ·rw[if_pos h,if_pos h]
  ·rw[if_neg h,if_neg h]
theorem X3(h:Qs o=true):o.g=none/\((∃ m p x,o.o = .s0 m p x/\o.d=none)\/∃ k x y,o.o = .a0 k x y\/o.o = .a1 k x y\/o.o = .c0 k x y\/o.o = .a2 k x y):=by
 unfold Qs at h
 simp only[Uag,Option.isNone_iff_eq_none] at h
 refine⟨h.2,?_⟩
 have h:=h.1
 split at h
 ·rename_i m p x he;exact .inl ⟨m,p,x,he,by simpa using h⟩
 ·rename_i k x y he;exact .inr ⟨k,x,y,.inl he⟩
 ·rename_i k x y he;exact .inr ⟨k,x,y,.inr (.inl he)⟩
 ·rename_i k x y he;exact .inr ⟨k,x,y,.inr (.inr (.inl he))⟩
 ·rename_i k x y he;exact .inr ⟨k,x,y,.inr (.inr (.inr he))⟩
 ·cases h
theorem Zje(h:Qs o=true):JM o.o=true:=by
 obtain⟨_,h | h⟩:=X3 h
 ·obtain⟨m,q,x,ho,_⟩:=h;rw[ho];rfl
 ·obtain⟨k,x,z,ho | ho | ho | ho⟩:=h <;> (rw[ho];rfl)
theorem Zjf(h:Qs o=true):YE C o st K=Jy (Ju fun t=>lk t st.env) st.sto (fun v id ob=>K { Zn st id ob with env:=ptd o.d v st.env }) o.o:=by
 obtain⟨hg,h | h⟩:=X3 h
 ·obtain⟨m,p,x,ho,hd⟩:=h
  unfold YE
  rw[hg]
  dsimp only
  unfold ZA
  rw[ho,hd,if_pos (show JM (O.s0 m p x)=true from rfl)]
  simp only[ew,true_and]
  rw[W9]
  have:∀(v:IV) (id:Zd) (ob:Ob),({ Zn st id ob with env:=ptd none v st.env }:St)=Zn st id ob:=fun v id ob=>XW st id ob v
  simp only[this]
 ·obtain⟨k,x,y,ho | ho | ho | ho⟩:=h
  ·unfold YE
   rw[hg]
   dsimp only
   unfold ZA
   rw[ho,if_pos (show JM (O.a0 k x y)=true from rfl)]
   simp only[ew]
   rw[W9]
  ·unfold YE
   rw[hg]
   dsimp only
   unfold ZA
   rw[ho,if_pos (show JM (O.a1 k x y)=true from rfl)]
   simp only[ew]
   rw[W9]
  ·unfold YE
   rw[hg]
   dsimp only
   unfold ZA
   rw[ho,if_pos (show JM (O.c0 k x y)=true from rfl)]
   simp only[ew]
   rw[W9]
  ·unfold YE
   rw[hg]
   dsimp only
   unfold ZA
   rw[ho,if_pos (show JM (O.a2 k x y)=true from rfl)]
   simp only[ew]
   rw[W9]
theorem ZrD(hq:qt o=true)(h:YE C o st K):∃ st' ρ1 σ1 out1,K st'/\QS C st.lvl o (fun t=>lk t st.env) (fun k=>lkO k st.loc) st.out ρ1 σ1 out1/\At st' st.lvl ρ1 σ1 out1:=by
 by_cases hl:JM o.o=false
 ·obtain⟨y,obs,st',h1,h2,h3,h4⟩:=ZrA hl h
  exact⟨st',_,_,_,h1,.inl ⟨hl,y,obs,h2,h3,rfl,rfl,rfl⟩,⟨h4.lvl,h4.env,h4.loc,h4.out⟩⟩
 ·have hqq:Qs o=true:=by
   unfold qt at hq
   simp only[UaU,UaR] at hq
   exact hq.resolve_left hl
  rw[Zjf hqq] at h
  obtain⟨⟨v,id,ob⟩,h1,h2⟩:=(ZbS (ρ:=Ju fun t=>lk t st.env) (S:=st.sto) o.o).ex (K:=fun r:IV×Zd×Ob=>K { Zn st r.2.1 r.2.2 with env:=ptd o.d r.1 st.env }) h
  refine⟨_,_,_,_,h1,.inr ⟨hqq,v,id,ob,?_,rfl,rfl,rfl⟩,Zjd⟩
  exact(ZbS (ρ:=Ju fun t=>lk t st.env) (S:=st.sto) o.o).mono (K:=fun s=>s=(v,id,ob)) (K':=fun r:IV×Zd×Ob=>r.1=v/\r.2.1=id/\r.2.2=ob) (fun r hr=>by rw[hr];exact⟨rfl,rfl,rfl⟩) h2
theorem ZrE{ρ1:Nat->IV}{σ1:Nat->Option Ob}{out1:Zc}(h:QS C st.lvl o (fun t=>lk t st.env) (fun k=>lkO k st.loc) st.out ρ1 σ1 out1):YE C o st (fun st' => At st' st.lvl ρ1 σ1 out1):=by
 rcases h with ⟨hl,y,obs,h1,h2,rfl,rfl,rfl⟩ | ⟨hq,y,id,ob,h1,rfl,rfl,rfl⟩
 ·have:=ZrB (st:=st) hl h1 h2
  refine(?_:YE C o st (fun st' => Step1 o st st' y obs)->_) this
  have e:(fun st' => Step1 o st st' y obs)=fun st' => At st' st.lvl (JD o.d y fun t=>lk t st.env) (ZN (keyOf o.d) obs fun k=>lkO k st.loc) st.out:=by
   funext st'
   exact propext ⟨fun h=>⟨h.lvl,h.env,h.loc,h.out⟩,fun h=>⟨h.lvl,h.out,h.env,h.loc⟩⟩
  rw[e];exact id
 ·rw[Zjf hq]
  refine(ZbS (ρ:=Ju fun t=>lk t st.env) (S:=st.sto) o.o).mono (K:=fun r:IV×Zd×Ob=>r.1=y/\r.2.1=id/\r.2.2=ob) (K':=fun r:IV×Zd×Ob=>At { Zn st r.2.1 r.2.2 with env:=ptd o.d r.1 st.env } st.lvl (JD o.d y fun t=>lk t st.env) (JY st.lvl id ob fun k=>lkO k st.loc) (WI st.lvl id ob st.out)) ?_ h1
  rintro⟨v,i,b⟩ ⟨rfl,rfl,rfl⟩
  exact Zjd
def VB(C:ZK)(lvl:Nat):List OP->(Nat->IV)->(Nat->Option Ob)->Zc->(Nat->IV)->(Nat->Option Ob)->Zc->Prop
 | [],ρ,σ,out,ρ',σ',out' => ρ'=ρ/\σ'=σ/\out'=out
 | o::l,ρ,σ,out,ρ',σ',out' => ∃ ρ1 σ1 out1,QS C lvl o ρ σ out ρ1 σ1 out1/\VB C lvl l ρ1 σ1 out1 ρ' σ' out'
theorem ZeO:∀(l:List OP) (st:St),(∀ o∈l,qt o=true)->Vc C l st K->∃ st',K st'/\st'.lvl=st.lvl/\VB C st.lvl l (fun t=>lk t st.env) (fun k=>lkO k st.loc) st.out (fun t=>lk t st'.env) (fun k=>lkO k st'.loc) st'.out
 | [],st,_,h=>⟨st,h,rfl,rfl,rfl,rfl⟩
 | o::l,st,hl,h=>by
  simp only[Vc] at h
  obtain⟨st1,ρ1,σ1,out1,hk,hs,ha⟩:=ZrD (hl o (by simp)) h
  obtain⟨st',hk',h1,h3⟩:=ZeO l st1 (fun p hp=>hl p (by simp [hp])) hk
  refine⟨st',hk',h1.trans ha.lvl,ρ1,σ1,out1,hs,?_⟩
  rw[ha.env,ha.loc,ha.out,ha.lvl] at h3
  exact h3
def QV(p o:OP):Bool:=X1 p o&&((!JM p.o && !JM o.o) || (qt p&&(lfree o.o || wfr o.o)) || ((lfree p.o || (lbx p.o&&qtA o.o) || Vr p.o o.o)&&Qs o) || ((!JM p.o || (qtA p.o&&Qs p))&&lbx o.o))
theorem ZrF{L:Zc}(x:IV):Xj L L x:=J5 (fun _ _=>⟨fun _ h=>h,fun _ _=>JN (fun _ _ _ h=>h) _ (QR _)⟩) _ (W8 _)
theorem ZbW{lvl b:Nat}{obs:List Ob}{σ:Nat->Option Ob}{out:Zc}(hf:QU b obs.length σ)(x:IV):Xj (Jq lvl σ out) (Jq lvl (ZN b obs σ) out) x :=
 J5 (fun id _=>⟨X2 hf id,fun cells _=>JN (fun i _=>X2 hf i) _ (QR _)⟩) _ (W8 _)
theorem Eff.lfree{ρ ρ':Nat->IV}{L L':Zc}{lvl:Nat}{y:IV}{obs:List Ob}(hl:lfree o.o=true)(hr:∀ x∈rd o.o,Ju ρ' x=Ju ρ x)(hg:∀ j w,o.g=some (j,w)->ρ' j=ρ j)(h:Eff C o ρ L lvl y obs):Eff C o ρ' L' lvl y obs:=by
 have h1:Eff C o ρ' L lvl y obs:=h.congr hr hg fun x _=>ZrF _
 have key:VV C o.o ρ' L lvl (keyOf o.d) y obs->VV C o.o ρ' L' lvl (keyOf o.d) y obs:=fun⟨m0,ob,h1,h2,h3⟩=>⟨m0,ob,h1,h2,Zru o.o hl h3⟩
 unfold Eff at *
 split at h1
 ·exact key h1
 ·rename_i j w hgg
  exact h1.imp (fun h=>⟨h.1,key h.2⟩) id
theorem Eff.wfr{ρ ρ':Nat->IV}{L L':Zc}{lvl:Nat}{y:IV}{obs:List Ob}(hl:Fd.wfr o.o=true)(hr:∀ x∈rd o.o,Ju ρ' x=Ju ρ x)(hg:∀ j w,o.g=some (j,w)->ρ' j=ρ j)(hw:∀ x∈rd o.o,men (fun i=>∀ k,JR L i [] k->JR L' i [] k) (Ju ρ x))(h:Eff C o ρ L lvl y obs):Eff C o ρ' L' lvl y obs:=by
 have key:VV C o.o ρ L lvl (keyOf o.d) y obs->VV C o.o ρ' L' lvl (keyOf o.d) y obs:=fun⟨m0,ob,h1,h2,h3⟩=>⟨m0,ob,h1,h2,Zrv o.o hl hr hw h3⟩
 unfold Eff at *
 split at h
 ·exact key h
 ·rename_i j w hgg
  rw[hg j w hgg]
  exact h.imp (fun h=>⟨h.1,key h.2⟩) id
theorem Eff.lbx{ρ ρ':Nat->IV}{L L':Zc}{lvl:Nat}{y:IV}{obs:List Ob}(hl:Fd.lbx o.o=true)(hr:∀ x∈rd o.o,Ju ρ' x=Ju ρ x)(hg:∀ j w,o.g=some (j,w)->ρ' j=ρ j)(hw:∀ x∈rd o.o,men (fun i=>∀ cells,L i=some (.bx cells)->L' i=some (.bx cells)) (Ju ρ x))(h:Eff C o ρ L lvl y obs):Eff C o ρ' L' lvl y obs:=by
 have key:VV C o.o ρ L lvl (keyOf o.d) y obs->VV C o.o ρ' L' lvl (keyOf o.d) y obs:=fun⟨m0,ob,h1,h2,h3⟩=>⟨m0,ob,h1,h2,Zry o.o hl hr hw h3⟩
 unfold Eff at *
 split at h
 ·exact key h
 ·rename_i j w hgg
  rw[hg j w hgg]
  exact h.imp (fun h=>⟨h.1,key h.2⟩) id
theorem Eff.lbA{ρ ρ':Nat->IV}{L L':Zc}{lvl:Nat}{y:IV}{obs:List Ob}{m:Option Nat}{p:X}{q:Nat}(ho:o.o = .lb m p (some q))(hr:∀ x∈rd o.o,Ju ρ' x=Ju ρ x)(hg:∀ j w,o.g=some (j,w)->ρ' j=ρ j)(hw:∀ i off,Ju ρ p = .ab i off->QI (Ju ρ p) (Ju ρ (.t q))->L' i=L i)(h:Eff C o ρ L lvl y obs):Eff C o ρ' L' lvl y obs:=by
 have key:VV C o.o ρ L lvl (keyOf o.d) y obs->VV C o.o ρ' L' lvl (keyOf o.d) y obs:=fun⟨m0,ob,h1,h2,h3⟩=>⟨m0,ob,h1,h2,by rw[ho] at hr h3 ⊢;exact Zrz hr hw h3⟩
 unfold Eff at *
 split at h
 ·exact key h
 ·rename_i j w hgg
  rw[hg j w hgg]
  exact h.imp (fun h=>⟨h.1,key h.2⟩) id
theorem WJ{d d':Option Nat}{y y':IV}{ρ:Nat->IV}(h:(match d,d' with | some a,some b=>a != b | _,_=>true)=true):JD d y (JD d' y' ρ)=JD d' y' (JD d y ρ):=by
 funext t
 unfold JD
 by_cases g1:d=some t <;> by_cases g2:d'=some t <;> simp only[g1,g2,if_true,if_false]
 rw[g1,g2] at h
 simp at h
theorem Zah{p o:OP}(h:X1 p o=true):UT p.d o=true/\UT o.d p=true/\(match p.d,o.d with | some a,some b=>a != b | _,_=>true)=true:=by
 simp only[X1,Uag] at h
 exact⟨h.1.1,h.1.2,h.2⟩
theorem ZrG{lvl:Nat}{id:Zd}{ob:Ob}{σ:Nat->Option Ob}{k:Nat}(h:JY lvl id ob σ k=none):σ k=none:=by
 unfold JY at h
 split at h
 ·cases h
 ·exact h
theorem UU{b:Nat}{obs:List Ob}{σ:Nat->Option Ob}{k:Nat}(h:ZN b obs σ k=none):σ k=none/\¬ (b<=k/\k<b+obs.length):=by
 unfold ZN at h
 split at h
 ·rename_i hk
  rw[Uah (by omega)] at h;cases h
 ·rename_i hk;exact⟨h,hk⟩
theorem ZeP{lvl:Nat}{p:OP}{ρ ρ1:Nat->IV}{σ σ1:Nat->Option Ob}{out out1:Zc}(h:QS C lvl p ρ σ out ρ1 σ1 out1){b n:Nat}(hf:QU b n σ1):QU b n σ:=fun k g1 g2=>by
 have:=hf k g1 g2
 rcases h with ⟨_,y,obs,_,_,_,rfl,_⟩ | ⟨_,y,id,ob,_,_,rfl,_⟩
 ·exact(UU this).1
 ·exact ZrG this
theorem Zai{lvl:Nat}{p:OP}{ρ ρ1:Nat->IV}{σ σ1:Nat->Option Ob}{out out1:Zc}(h:QS C lvl p ρ σ out ρ1 σ1 out1):∃ y,ρ1=JD p.d y ρ:=by
 rcases h with ⟨_,y,obs,_,_,h,_⟩ | ⟨_,y,id,ob,_,h,_⟩ <;> exact⟨y,h⟩
theorem Zjg{lvl:Nat}(hl:lfree o.o=true):∀(l1 l2:List OP) (ρ:Nat->IV) (σ:Nat->Option Ob) (out:Zc) (ρ':Nat->IV) (σ':Nat->Option Ob) (out':Zc),(∀ p∈l1,X1 p o=true) ->
  VB C lvl (l1++o::l2) ρ σ out ρ' σ' out'->∃ ρ1 σ1 out1,QS C lvl o ρ σ out ρ1 σ1 out1/\VB C lvl (l1++l2) ρ1 σ1 out1 ρ' σ' out'
 | [],l2,ρ,σ,out,ρ',σ',out',_,h=>h
 | p::l1,l2,ρ,σ,out,ρ',σ',out',hi,h=>by
  obtain⟨ρp,σp,outp,hp,hr⟩:=h
  obtain⟨i1,i2,i3⟩:=Zah (hi p (by simp))
  obtain⟨ρ1,σ1,out1,h1,h2⟩:=Zjg hl l1 l2 _ _ _ _ _ _ (fun q hq=>hi q (by simp [hq])) hr
  rcases h1 with ⟨hlo,y,obs,g1,g2,rfl,rfl,rfl⟩ | ⟨hq,_⟩
  ·obtain⟨yp,rfl⟩:=Zai hp
   have hpo:=Qr (y:=yp) (ρ:=ρ) i1
   have hfo:=ZeP hp g2
   have hop:=Qr (o:=p) (d:=o.d) (y:=y) (ρ:=ρ) i2
   refine⟨_,_,_,.inl ⟨hlo,y,obs,g1.lfree hl (fun x hx=>(hpo.1 x hx).symm) (fun j w hg=>(hpo.2 j w hg).symm),hfo,rfl,rfl,rfl⟩,?_⟩
   rcases hp with ⟨hlp,yp',obp,e1,e2,e3,rfl,rfl⟩ | ⟨hqp,yp',id,ob,e1,e3,rfl,rfl⟩
   ·have hdis:∀ k,keyOf p.d<=k/\k<keyOf p.d+obp.length -> ¬ (keyOf o.d<=k/\k<keyOf o.d+obs.length):=fun k hk ho=>(UU (g2 k ho.1 ho.2)).2 hk
    refine⟨JD p.d yp' (JD o.d y ρ),ZN (keyOf p.d) obp (ZN (keyOf o.d) obs σ),_,.inl ⟨hlp,yp',obp,e1.congr hop.1 hop.2 (fun x _=>ZbW hfo _),fun k q1 q2=>?_,rfl,rfl,rfl⟩,?_⟩
    ·unfold ZN
     rw[if_neg (hdis k ⟨q1,q2⟩)]
     exact e2 k q1 q2
    ·have e5:ZN (keyOf p.d) obp (ZN (keyOf o.d) obs σ)=ZN (keyOf o.d) obs (ZN (keyOf p.d) obp σ):=by
      funext k
      unfold ZN
      by_cases q1:keyOf p.d<=k/\k<keyOf p.d+obp.length
      ·rw[if_pos q1,if_neg (hdis k q1),if_pos q1]
      ·rw[if_neg q1]
       by_cases q2:keyOf o.d<=k/\k<keyOf o.d+obs.length
       ·rw[if_pos q2,if_pos q2]
       ·rw[if_neg q2,if_neg q2,if_neg q1]
     rw[e5,WJ i3,<-e3]
     exact h2
   ·have hthere:=ZbT p.o e1
    refine⟨JD p.d yp' (JD o.d y ρ),JY lvl id ob (ZN (keyOf o.d) obs σ),WI lvl id ob out,.inr ⟨hqp,yp',id,ob,ZeM p.o hop.1 (fun i b hb=>X2 hfo i b hb) e1,rfl,rfl,rfl⟩,?_⟩
    have e5:JY lvl id ob (ZN (keyOf o.d) obs σ)=ZN (keyOf o.d) obs (JY lvl id ob σ):=by
     funext k
     unfold ZN
     by_cases q2:keyOf o.d<=k/\k<keyOf o.d+obs.length
     ·have hk:=g2 k q2.1 q2.2
      rw[if_pos q2]
      unfold JY at hk ⊢
      split at hk
      ·cases hk
      ·rename_i hne
       rw[if_neg hne]
       exact if_pos q2
     ·rw[if_neg q2]
      unfold JY
      by_cases q3:id=(lvl,k)
      ·rw[if_pos q3,if_pos q3]
      ·rw[if_neg q3,if_neg q3]
       exact if_neg q2
    rw[e5,WJ i3,<-e3]
    exact h2
  ·have:=Zae hl
   obtain⟨_,h | h⟩:=X3 hq
   ·obtain⟨m,q,x,ho,_⟩:=h;rw[ho] at this;cases this
   ·obtain⟨k,x,z,ho | ho | ho | ho⟩:=h <;> (rw[ho] at this;cases this)
theorem Zjh{lvl:Nat}{I:Zd->Prop}(hl:wfr o.o=true):∀(l1 l2:List OP) (ρ:Nat->IV) (σ:Nat->Option Ob) (out:Zc) (ρ':Nat->IV) (σ':Nat->Option Ob) (out':Zc),(∀ p∈l1,X1 p o=true)->(∀ x∈rd o.o,men I (Ju ρ x))->(∀ id,I id->(Jq lvl σ out id).isSome=true) ->
  VB C lvl (l1++o::l2) ρ σ out ρ' σ' out'->∃ ρ1 σ1 out1,QS C lvl o ρ σ out ρ1 σ1 out1/\VB C lvl (l1++l2) ρ1 σ1 out1 ρ' σ' out'
 | [],l2,ρ,σ,out,ρ',σ',out',_,_,_,h=>h
 | p::l1,l2,ρ,σ,out,ρ',σ',out',hi,hm,hI,h=>by
  obtain⟨ρp,σp,outp,hp,hr⟩:=h
  obtain⟨i1,i2,i3⟩:=Zah (hi p (by simp))
  have hpo0:∀ x∈rd o.o,Ju ρp x=Ju ρ x:=fun x hx=>by
   obtain⟨yp,rfl⟩:=Zai hp
   exact(Qr (y:=yp) (ρ:=ρ) i1).1 x hx
  have hstep:(∀ id,I id->(Jq lvl σp outp id).isSome=true)/\∀ id,I id->∀ k,JR (Jq lvl σp outp) id [] k->JR (Jq lvl σ out) id [] k:=by
   rcases hp with ⟨_,yp',obp,e1,e2,e3,rfl,rfl⟩ | ⟨hqp,yp',id,ob,e1,e3,rfl,rfl⟩
   ·have hsame:∀ id,I id->Jq lvl (ZN (keyOf p.d) obp σ) outp id=Jq lvl σ outp id:=fun id hid=>by
     obtain⟨ob,hob⟩:=Uan.1 (hI id hid)
     rw[X2 e2 id ob hob,hob]
    refine⟨fun id hid=>by rw[hsame id hid];exact hI id hid,fun id hid k hw=>?_⟩
    unfold JR at hw ⊢
    rw[hsame id hid] at hw
    exact hw
   ·rw[ZbV]
    refine⟨fun i hi=>?_,fun i _ k hw=>Zrx p.o e1 i k hw⟩
    unfold Zl
    split
    ·rfl
    ·exact hI i hi
  obtain⟨ρ1,σ1,out1,h1,h2⟩:=Zjh hl l1 l2 _ _ _ _ _ _ (fun q hq=>hi q (by simp [hq])) (fun x hx=>by rw[hpo0 x hx];exact hm x hx) hstep.1 hr
  rcases h1 with ⟨hlo,y,obs,g1,g2,rfl,rfl,rfl⟩ | ⟨hq,_⟩
  ·obtain⟨yp,rfl⟩:=Zai hp
   have hpo:=Qr (y:=yp) (ρ:=ρ) i1
   have hfo:=ZeP hp g2
   have hop:=Qr (o:=p) (d:=o.d) (y:=y) (ρ:=ρ) i2
   refine⟨_,_,_,.inl ⟨hlo,y,obs,g1.wfr hl (fun x hx=>(hpo.1 x hx).symm) (fun j w hg=>(hpo.2 j w hg).symm) (fun x hx=>by rw[hpo.1 x hx];exact J5 (fun i hii k hw=>hstep.2 i hii k hw) _ (hm x hx)),hfo,rfl,rfl,rfl⟩,?_⟩
   rcases hp with ⟨hlp,yp',obp,e1,e2,e3,rfl,rfl⟩ | ⟨hqp,yp',id,ob,e1,e3,rfl,rfl⟩
   ·have hdis:∀ k,keyOf p.d<=k/\k<keyOf p.d+obp.length -> ¬ (keyOf o.d<=k/\k<keyOf o.d+obs.length):=fun k hk ho=>(UU (g2 k ho.1 ho.2)).2 hk
    refine⟨JD p.d yp' (JD o.d y ρ),ZN (keyOf p.d) obp (ZN (keyOf o.d) obs σ),_,.inl ⟨hlp,yp',obp,e1.congr hop.1 hop.2 (fun x _=>ZbW hfo _),fun k q1 q2=>?_,rfl,rfl,rfl⟩,?_⟩
    ·unfold ZN
     rw[if_neg (hdis k ⟨q1,q2⟩)]
     exact e2 k q1 q2
    ·have e5:ZN (keyOf p.d) obp (ZN (keyOf o.d) obs σ)=ZN (keyOf o.d) obs (ZN (keyOf p.d) obp σ):=by
      funext k
      unfold ZN
      by_cases q1:keyOf p.d<=k/\k<keyOf p.d+obp.length
      ·rw[if_pos q1,if_neg (hdis k q1),if_pos q1]
      ·rw[if_neg q1]
       by_cases q2:keyOf o.d<=k/\k<keyOf o.d+obs.length
       ·rw[if_pos q2,if_pos q2]
       ·rw[if_neg q2,if_neg q2,if_neg q1]
     rw[e5,WJ i3,<-e3]
     exact h2
   ·have hthere:=ZbT p.o e1
    refine⟨JD p.d yp' (JD o.d y ρ),JY lvl id ob (ZN (keyOf o.d) obs σ),WI lvl id ob out,.inr ⟨hqp,yp',id,ob,ZeM p.o hop.1 (fun i b hb=>X2 hfo i b hb) e1,rfl,rfl,rfl⟩,?_⟩
    have e5:JY lvl id ob (ZN (keyOf o.d) obs σ)=ZN (keyOf o.d) obs (JY lvl id ob σ):=by
     funext k
     unfold ZN
     by_cases q2:keyOf o.d<=k/\k<keyOf o.d+obs.length
     ·have hk:=g2 k q2.1 q2.2
      rw[if_pos q2]
      unfold JY at hk ⊢
      split at hk
      ·cases hk
      ·rename_i hne
       rw[if_neg hne]
       exact if_pos q2
     ·rw[if_neg q2]
      unfold JY
      by_cases q3:id=(lvl,k)
      ·rw[if_pos q3,if_pos q3]
      ·rw[if_neg q3,if_neg q3]
       exact if_neg q2
    rw[e5,WJ i3,<-e3]
    exact h2
  ·have:=Zi9 hl
   obtain⟨_,h | h⟩:=X3 hq
   ·obtain⟨m,q,x,ho,_⟩:=h;rw[ho] at this;cases this
   ·obtain⟨k,x,z,ho | ho | ho | ho⟩:=h <;> (rw[ho] at this;cases this)
theorem Zji{lvl:Nat}{I:Zd->Prop}(hl:lbx o.o=true):∀(l1 l2:List OP) (ρ:Nat->IV) (σ:Nat->Option Ob) (out:Zc) (ρ':Nat->IV) (σ':Nat->Option Ob) (out':Zc),(∀ p∈l1,X1 p o=true/\(JM p.o=false\/(qtA p.o=true/\Qs p=true)))->(∀ x∈rd o.o,men I (Ju ρ x))->(∀ id,I id->(Jq lvl σ out id).isSome=true) ->
  VB C lvl (l1++o::l2) ρ σ out ρ' σ' out'->∃ ρ1 σ1 out1,QS C lvl o ρ σ out ρ1 σ1 out1/\VB C lvl (l1++l2) ρ1 σ1 out1 ρ' σ' out'
 | [],l2,ρ,σ,out,ρ',σ',out',_,_,_,h=>h
 | p::l1,l2,ρ,σ,out,ρ',σ',out',hi,hm,hI,h=>by
  obtain⟨ρp,σp,outp,hp,hr⟩:=h
  obtain⟨hi0,hpq⟩:=hi p (by simp)
  obtain⟨i1,i2,i3⟩:=Zah hi0
  have hpo0:∀ x∈rd o.o,Ju ρp x=Ju ρ x:=fun x hx=>by
   obtain⟨yp,rfl⟩:=Zai hp
   exact(Qr (y:=yp) (ρ:=ρ) i1).1 x hx
  have hstep:(∀ id,I id->(Jq lvl σp outp id).isSome=true)/\∀ id,I id->∀ cells,Jq lvl σp outp id=some (.bx cells)->Jq lvl σ out id=some (.bx cells):=by
   rcases hp with ⟨_,yp',obp,e1,e2,e3,rfl,rfl⟩ | ⟨hqp,yp',id,ob,e1,e3,rfl,rfl⟩
   ·have hsame:∀ id,I id->Jq lvl (ZN (keyOf p.d) obp σ) outp id=Jq lvl σ outp id:=fun id hid=>by
     obtain⟨ob,hob⟩:=Uan.1 (hI id hid)
     rw[X2 e2 id ob hob,hob]
    refine⟨fun id hid=>by rw[hsame id hid];exact hI id hid,fun id hid k hw=>?_⟩
    rw[hsame id hid] at hw
    exact hw
   ·rw[ZbV]
    refine⟨fun i hi=>?_,fun i _ k hw=>(Zjb p.o (hpq.elim (fun g=>by rw[Zje hqp] at g;cases g) (fun g=>g.1)) e1 i k).1 hw⟩
    unfold Zl
    split
    ·rfl
    ·exact hI i hi
  obtain⟨ρ1,σ1,out1,h1,h2⟩:=Zji hl l1 l2 _ _ _ _ _ _ (fun q hq=>hi q (by simp [hq])) (fun x hx=>by rw[hpo0 x hx];exact hm x hx) hstep.1 hr
  rcases h1 with ⟨hlo,y,obs,g1,g2,rfl,rfl,rfl⟩ | ⟨hq,_⟩
  ·obtain⟨yp,rfl⟩:=Zai hp
   have hpo:=Qr (y:=yp) (ρ:=ρ) i1
   have hfo:=ZeP hp g2
   have hop:=Qr (o:=p) (d:=o.d) (y:=y) (ρ:=ρ) i2
   refine⟨_,_,_,.inl ⟨hlo,y,obs,g1.lbx hl (fun x hx=>(hpo.1 x hx).symm) (fun j w hg=>(hpo.2 j w hg).symm) (fun x hx=>by rw[hpo.1 x hx];exact J5 (fun i hii k hw=>hstep.2 i hii k hw) _ (hm x hx)),hfo,rfl,rfl,rfl⟩,?_⟩
   rcases hp with ⟨hlp,yp',obp,e1,e2,e3,rfl,rfl⟩ | ⟨hqp,yp',id,ob,e1,e3,rfl,rfl⟩
   ·have hdis:∀ k,keyOf p.d<=k/\k<keyOf p.d+obp.length -> ¬ (keyOf o.d<=k/\k<keyOf o.d+obs.length):=fun k hk ho=>(UU (g2 k ho.1 ho.2)).2 hk
    refine⟨JD p.d yp' (JD o.d y ρ),ZN (keyOf p.d) obp (ZN (keyOf o.d) obs σ),_,.inl ⟨hlp,yp',obp,e1.congr hop.1 hop.2 (fun x _=>ZbW hfo _),fun k q1 q2=>?_,rfl,rfl,rfl⟩,?_⟩
    ·unfold ZN
     rw[if_neg (hdis k ⟨q1,q2⟩)]
     exact e2 k q1 q2
    ·have e5:ZN (keyOf p.d) obp (ZN (keyOf o.d) obs σ)=ZN (keyOf o.d) obs (ZN (keyOf p.d) obp σ):=by
      funext k
      unfold ZN
      by_cases q1:keyOf p.d<=k/\k<keyOf p.d+obp.length
      ·rw[if_pos q1,if_neg (hdis k q1),if_pos q1]
      ·rw[if_neg q1]
       by_cases q2:keyOf o.d<=k/\k<keyOf o.d+obs.length
       ·rw[if_pos q2,if_pos q2]
       ·rw[if_neg q2,if_neg q2,if_neg q1]
     rw[e5,WJ i3,<-e3]
     exact h2
   ·have hthere:=ZbT p.o e1
    refine⟨JD p.d yp' (JD o.d y ρ),JY lvl id ob (ZN (keyOf o.d) obs σ),WI lvl id ob out,.inr ⟨hqp,yp',id,ob,ZeM p.o hop.1 (fun i b hb=>X2 hfo i b hb) e1,rfl,rfl,rfl⟩,?_⟩
    have e5:JY lvl id ob (ZN (keyOf o.d) obs σ)=ZN (keyOf o.d) obs (JY lvl id ob σ):=by
     funext k
     unfold ZN
     by_cases q2:keyOf o.d<=k/\k<keyOf o.d+obs.length
     ·have hk:=g2 k q2.1 q2.2
      rw[if_pos q2]
      unfold JY at hk ⊢
      split at hk
      ·cases hk
      ·rename_i hne
       rw[if_neg hne]
       exact if_pos q2
     ·rw[if_neg q2]
      unfold JY
      by_cases q3:id=(lvl,k)
      ·rw[if_pos q3,if_pos q3]
      ·rw[if_neg q3,if_neg q3]
       exact if_neg q2
    rw[e5,WJ i3,<-e3]
    exact h2
  ·have:=US hl
   obtain⟨_,h | h⟩:=X3 hq
   ·obtain⟨m,q,x,ho,_⟩:=h;rw[ho] at this;cases this
   ·obtain⟨k,x,z,ho | ho | ho | ho⟩:=h <;> (rw[ho] at this;cases this)
theorem ZeQ{a b:O}(h:Vr a b=true):JM a=false:=by
 obtain⟨_,_,_,_,_,rfl,_⟩:=Zja h
 rfl
theorem ZrH{ρ:X->IV}{S:Zc}{v:IV}{id i:Zd}{ob:Ob}{m q off:Nat}{x p:X}(h:Jy ρ S (fun v' id' ob' => v'=v/\id'=id/\ob'=ob) (.s0 m (.t q) x))(hi:ρ p = .ab i off)(ha:QI (ρ p) (ρ (.t q))):Zl S id ob i=S i:=by
 rw[hi] at ha
 simp only[Jy] at h
 split at h <;> try contradiction
 generalize ρ (.t q)=y at h ha
 cases y <;> try exact ha.elim
 rename_i j off2
 have hne:i≠j:=ha
 replace h:=h.2
 simp only at h
 split at h <;> try contradiction
 have:j=id:=h.2.2.2.1
 unfold Zl
 rw[if_neg (by rw[<-this];exact hne)]
theorem Zjj{lvl:Nat}{I:Zd->Prop}(hq:Qs o=true):∀(l1 l2:List OP) (ρ:Nat->IV) (σ:Nat->Option Ob) (out:Zc) (ρ':Nat->IV) (σ':Nat->Option Ob) (out':Zc),(∀ p∈l1,X1 p o=true/\(lfree p.o=true\/(lbx p.o=true/\qtA o.o=true)\/Vr p.o o.o=true))->(∀ x∈rd o.o,men I (Ju ρ x))->(∀ id,I id->(Jq lvl σ out id).isSome=true) ->
  VB C lvl (l1++o::l2) ρ σ out ρ' σ' out'->∃ ρ1 σ1 out1,QS C lvl o ρ σ out ρ1 σ1 out1/\VB C lvl (l1++l2) ρ1 σ1 out1 ρ' σ' out'
 | [],l2,ρ,σ,out,ρ',σ',out',_,_,_,h=>h
 | p::l1,l2,ρ,σ,out,ρ',σ',out',hi,hm,hI,h=>by
  obtain⟨ρp,σp,outp,hp,hr⟩:=h
  obtain⟨hi0,hn⟩:=hi p (by simp)
  obtain⟨i1,i2,i3⟩:=Zah hi0
  have hlp:JM p.o=false:=hn.elim Zae fun g=>g.elim (fun g=>US g.1) ZeQ
  have hlq:JM o.o=true:=by
   obtain⟨_,h | h⟩:=X3 hq
   ·obtain⟨m,q,x,ho,_⟩:=h;rw[ho];rfl
   ·obtain⟨k,x,z,ho | ho | ho | ho⟩:=h <;> (rw[ho];rfl)
  rcases hp with ⟨_,yp,obp,e1,e2,rfl,rfl,rfl⟩ | ⟨hqp,_⟩
  ·have hpo:=Qr (y:=yp) (ρ:=ρ) i1
   have hsame:∀ id,I id->Jq lvl (ZN (keyOf p.d) obp σ) outp id=Jq lvl σ outp id:=fun id hid=>by
    obtain⟨ob,hob⟩:=Uan.1 (hI id hid)
    rw[X2 e2 id ob hob,hob]
   obtain⟨ρ1,σ1,out1,h1,h2⟩:=Zjj hq l1 l2 _ _ _ _ _ _ (fun q hq=>hi q (by simp [hq])) (fun x hx=>by rw[hpo.1 x hx];exact hm x hx) (fun id hid=>by rw[hsame id hid];exact hI id hid) hr
   rcases h1 with ⟨hlo,_⟩ | ⟨_,y,id,ob,g1,rfl,rfl,rfl⟩
   ·rw[hlq] at hlo;cases hlo
   ·have hop:=Qr (o:=p) (d:=o.d) (y:=y) (ρ:=ρ) i2
    have gB:=Zrw (S':=Jq lvl σ outp) o.o (fun x hx=>(hpo.1 x hx).symm) (fun x hx=>by rw[hpo.1 x hx];exact J5 (fun i hid ob hob=>by rw[<-hsame i hid];exact hob) _ (hm x hx)) g1
    have hthere:=ZbT o.o gB
    have hout:∀ k,keyOf p.d<=k->k<keyOf p.d+obp.length->id≠(lvl,k):=fun k q1 q2 e=>by
     have hk:=e2 k q1 q2
     rw[e] at hthere
     have:Jq lvl σ outp (lvl,k)=σ k:=if_pos rfl
     rw[this,hk] at hthere
     cases hthere
    refine⟨_,_,_,.inr ⟨hq,y,id,ob,gB,rfl,rfl,rfl⟩,JD p.d yp (JD o.d y ρ),ZN (keyOf p.d) obp (JY lvl id ob σ),_,.inl ⟨hlp,yp,obp,(hn.elim (fun g=>e1.lfree g hop.1 hop.2) fun g=>g.elim (fun g=>e1.lbx g.1 hop.1 hop.2 fun x _=>J5 (fun i _ cells hc=>by rw[ZbV];exact(Zjb o.o g.2 gB i cells).2 hc) _ (W8 _)) fun g=>by obtain⟨_,_,q,_,_,g1,g2⟩:=Zja g;exact e1.lbA g1 hop.1 hop.2 fun i off hi ha=>by rw[ZbV];exact ZrH (by rw[<-g2];exact gB) hi ha),fun k q1 q2=>?_,rfl,rfl,rfl⟩,?_⟩
    ·unfold JY
     rw[if_neg (hout k q1 q2)]
     exact e2 k q1 q2
    ·have e5:ZN (keyOf p.d) obp (JY lvl id ob σ)=JY lvl id ob (ZN (keyOf p.d) obp σ):=by
      funext k
      unfold ZN
      by_cases q2:keyOf p.d<=k/\k<keyOf p.d+obp.length
      ·rw[if_pos q2]
       unfold JY
       rw[if_neg (hout k q2.1 q2.2)]
       exact(if_pos q2).symm
      ·rw[if_neg q2]
       unfold JY
       by_cases q3:id=(lvl,k)
       ·rw[if_pos q3,if_pos q3]
       ·rw[if_neg q3,if_neg q3]
        exact(if_neg q2).symm
     rw[e5,WJ i3]
     exact h2
  ·obtain⟨_,h | h⟩:=X3 hqp
   ·obtain⟨m,q,x,ho,_⟩:=h;rw[ho] at hlp;cases hlp
   ·obtain⟨k,x,z,ho | ho | ho | ho⟩:=h <;> (rw[ho] at hlp;cases hlp)
theorem Zjk{lvl:Nat}{I:Zd->Prop}(hlo:JM o.o=false):∀(l1 l2:List OP) (ρ:Nat->IV) (σ:Nat->Option Ob) (out:Zc) (ρ':Nat->IV) (σ':Nat->Option Ob) (out':Zc),(∀ p∈l1,X1 p o=true/\JM p.o=false)->(∀ x∈rd o.o,men I (Ju ρ x))->(∀ id,I id->(Jq lvl σ out id).isSome=true)->(∀ id cells,I id->Jq lvl σ out id=some (.bx cells)->Za I cells) ->
  VB C lvl (l1++o::l2) ρ σ out ρ' σ' out'->∃ ρ1 σ1 out1,QS C lvl o ρ σ out ρ1 σ1 out1/\VB C lvl (l1++l2) ρ1 σ1 out1 ρ' σ' out'
 | [],l2,ρ,σ,out,ρ',σ',out',_,_,_,_,h=>h
 | p::l1,l2,ρ,σ,out,ρ',σ',out',hi,hm,hI,hcl,h=>by
  obtain⟨ρp,σp,outp,hp,hr⟩:=h
  obtain⟨hi0,hlp⟩:=hi p (by simp)
  obtain⟨i1,i2,i3⟩:=Zah hi0
  rcases hp with ⟨_,yp,obp,e1,e2,rfl,rfl,rfl⟩ | ⟨hqp,_⟩
  ·have hpo:=Qr (y:=yp) (ρ:=ρ) i1
   have hsame:∀ id,I id->Jq lvl (ZN (keyOf p.d) obp σ) out' id=Jq lvl (ZN (keyOf p.d) obp σ) out' id:=fun _ _=>rfl
   clear hsame
   have hsame:∀ id,I id->Jq lvl (ZN (keyOf p.d) obp σ) outp id=Jq lvl σ outp id:=fun id hid=>by
    obtain⟨ob,hob⟩:=Uan.1 (hI id hid)
    rw[X2 e2 id ob hob,hob]
   obtain⟨ρ1,σ1,out1,h1,h2⟩:=Zjk hlo l1 l2 _ _ _ _ _ _ (fun q hq=>hi q (by simp [hq])) (fun x hx=>by
    rw[hpo.1 x hx]
    exact hm x hx) (fun id hid=>by rw[hsame id hid];exact hI id hid) (fun id cells hid hc=>hcl id cells hid (by rw[<-hsame id hid];exact hc)) hr
   rcases h1 with ⟨_,y,obs,g1,g2,rfl,rfl,rfl⟩ | ⟨hq,_⟩
   ·have hfo:QU (keyOf o.d) obs.length σ:=fun k q1 q2=>(UU (g2 k q1 q2)).1
    have hdis:∀ k,keyOf p.d<=k/\k<keyOf p.d+obp.length -> ¬ (keyOf o.d<=k/\k<keyOf o.d+obs.length):=fun k hk ho=>(UU (g2 k ho.1 ho.2)).2 hk
    have hop:=Qr (o:=p) (d:=o.d) (y:=y) (ρ:=ρ) i2
    refine⟨_,_,_,.inl ⟨hlo,y,obs,g1.congr (fun x hx=>(hpo.1 x hx).symm) (fun j w hg=>(hpo.2 j w hg).symm) (fun x hx=>?_),hfo,rfl,rfl,rfl⟩,JD p.d yp (JD o.d y ρ),ZN (keyOf p.d) obp (ZN (keyOf o.d) obs σ),_,.inl ⟨hlp,yp,obp,e1.congr hop.1 hop.2 (fun x _=>ZbW hfo _),fun k q1 q2=>?_,rfl,rfl,rfl⟩,?_⟩
    ·rw[hpo.1 x hx]
     have hone:∀ id,I id->ZbN (Jq lvl (ZN (keyOf p.d) obp σ) out1) (Jq lvl σ out1) id:=fun id hid ob hob=>by rw[<-hsame id hid];exact hob
     exact J5 (fun id hid=>⟨hone id hid,fun cells hc=>JN hone _ (hcl id cells hid (by rw[<-hsame id hid];exact hc))⟩) _ (hm x hx)
    ·unfold ZN
     rw[if_neg (hdis k ⟨q1,q2⟩)]
     exact e2 k q1 q2
    ·have e5:ZN (keyOf p.d) obp (ZN (keyOf o.d) obs σ)=ZN (keyOf o.d) obs (ZN (keyOf p.d) obp σ):=by
      funext k
      unfold ZN
      by_cases q1:keyOf p.d<=k/\k<keyOf p.d+obp.length
      ·rw[if_pos q1,if_neg (hdis k q1),if_pos q1]
      ·rw[if_neg q1]
       by_cases q2:keyOf o.d<=k/\k<keyOf o.d+obs.length
       ·rw[if_pos q2,if_pos q2]
       ·rw[if_neg q2,if_neg q2,if_neg q1]
     rw[e5,WJ i3]
     exact h2
   ·obtain⟨_,h | h⟩:=X3 hq
    ·obtain⟨m,q,x,ho,_⟩:=h;rw[ho] at hlo;cases hlo
    ·obtain⟨k,x,z,ho | ho | ho | ho⟩:=h <;> (rw[ho] at hlo;cases hlo)
  ·obtain⟨_,h | h⟩:=X3 hqp
   ·obtain⟨m,q,x,ho,_⟩:=h;rw[ho] at hlp;cases hlp
   ·obtain⟨k,x,z,ho | ho | ho | ho⟩:=h <;> (rw[ho] at hlp;cases hlp)
theorem ZrI{lvl:Nat}{I:Zd->Prop}{l1 l2:List OP}{ρ:Nat->IV}{σ:Nat->Option Ob}{out:Zc}{ρ':Nat->IV}{σ':Nat->Option Ob}{out':Zc}(hq:qt o=true)(hi:∀ p∈l1,QV p o=true)(hm:∀ x,men I (Ju ρ x))(hI:∀ id,I id->(Jq lvl σ out id).isSome=true)(hcl:∀ id cells,I id->Jq lvl σ out id=some (.bx cells)->Za I cells)
  (h:VB C lvl (l1++o::l2) ρ σ out ρ' σ' out'):∃ ρ1 σ1 out1,QS C lvl o ρ σ out ρ1 σ1 out1/\VB C lvl (l1++l2) ρ1 σ1 out1 ρ' σ' out':=by
 have hind:∀ p∈l1,X1 p o=true:=fun p hp=>by
  have:=hi p hp
  simp only[QV,Uag] at this
  exact this.1
 by_cases hl:lfree o.o=true
 ·exact Zjg hl l1 l2 _ _ _ _ _ _ hind h
 ·by_cases hw:wfr o.o=true
  ·exact Zjh hw l1 l2 _ _ _ _ _ _ hind (fun x _=>hm x) hI h
  by_cases hb:lbx o.o=true
  ·refine Zji hb l1 l2 _ _ _ _ _ _ (fun p hp=>⟨hind p hp,?_⟩) (fun x _=>hm x) hI h
   have:=hi p hp
   have hlb:=US hb
   simp only[QV,Uag,UaU,UaR] at this
   rcases this.2 with ((h | h) | h) | h
   ·exact .inl h.1
   ·exact absurd h.2 (by simp [hl,hw])
   ·have:=Zje h.2
    rw[hlb] at this;cases this
   ·exact h.1
  by_cases hlo:JM o.o=false
  ·refine Zjk hlo l1 l2 _ _ _ _ _ _ (fun p hp=>⟨hind p hp,?_⟩) (fun x _=>hm x) hI hcl h
   have:=hi p hp
   simp only[QV,Uag,UaU,UaR] at this
   rcases this.2 with ((h | h) | h) | h
   ·exact h.1
   ·exact absurd h.2 (by simp [hl,hw])
   ·exact h.1.elim (fun g=>g.elim Zae fun g=>US g.1) ZeQ
   ·exact absurd h.2 hb
  ·have hqq:Qs o=true:=by
    unfold qt at hq
    simp only[UaU,UaR] at hq
    exact hq.resolve_left hlo
   refine Zjj hqq l1 l2 _ _ _ _ _ _ (fun p hp=>⟨hind p hp,?_⟩) (fun x _=>hm x) hI h
   have:=hi p hp
   simp only[QV,Uag,UaU,UaR] at this
   rcases this.2 with ((h | h) | h) | h
   ·exact absurd h.2 hlo
   ·exact absurd h.2 (by simp [hl,hw])
   ·exact or_assoc.1 h.1
   ·exact absurd h.2 hb
end
variable [Tabs]
def ZeR(l s:List Nat):List Nat:=l.foldl (fun s x=>if s.contains x then s else x::s) s
theorem Zjl{j:Nat}:∀{l s:List Nat},j∈ZeR l s->j∈l\/j∈s
 | [],_,h=>.inr h
 | x::r,s,h=>by
  have h':j∈ZeR r (if s.contains x then s else x::s):=h
  rcases Zjl h' with h1 | h1
  ·exact .inl (Uce _ h1)
  ·split at h1
   ·exact .inr h1
   ·rcases UaE.1 h1 with rfl | h1
    ·exact .inl UbW
    ·exact .inr h1
def ZbX:List Oper->List (List Nat)->List (List Nat)
 | [],acc=>acc
 | o::r,acc=>ZbX r (acc++[ZeR ((o.after.toList.filter fun e=>Region.binds .any e).flatMap fun e=>e.on::acc.getD e.on []) []])
def Cl(ops:List Oper)(listed:Array Bool):Prop:=∀(i:Nat) (oper:Oper),ops[i]? = some oper->listed.getD i false=true->∀ e∈oper.after,Region.binds .any e=true->listed.getD e.on false=true
def Gd(ops:List Oper)(listed:Array Bool)(acc:List (List Nat)):Prop:=∀(i:Nat) (B:List Nat) (oper:Oper),acc[i]? = some B->ops[i]? = some oper->(∀ e∈oper.after,Region.binds .any e=true->listed.getD e.on false=true)->∀ j∈B,listed.getD j false=true
theorem Zjm{ops:List Oper}{listed:Array Bool}(hc:Cl ops listed):∀(r:List Oper) (acc:List (List Nat)),ops.drop acc.length=r->acc.length<=ops.length->Gd ops listed acc->Gd ops listed (ZbX r acc)
 | [],acc,_,_,hg=>hg
 | o::r,acc,hr,hl,hg=>by
  have ho:ops[acc.length]? = some o:=by
   have:=congrArg (fun l=>l[0]?) hr
   simpa using this
  have hlt:acc.length<ops.length:=(Uac.1 ho).1
  refine Zjm hc r _ ?_ (by simp;omega) ?_
  ·rw[Uad,List.length_singleton,<-UbN,hr];rfl
  ·intro i B oper hB hi he j hj
   rcases Nat.lt_trichotomy i acc.length with h | h | h
   ·rw[Uav h] at hB
    exact hg i B oper hB hi he j hj
   ·subst h
    rw[Uar (Ual _)] at hB
    simp only[Ubn,List.getElem?_cons_zero,Uat] at hB
    subst hB
    rw[ho] at hi;cases hi
    rcases Zjl hj with h1 | h1
    ·obtain⟨e,h2,h3⟩:=List.mem_flatMap.1 h1
     obtain⟨h4,h5⟩:=List.mem_filter.1 h2
     have h4':e∈o.after:=by simpa using h4
     rcases UaE.1 h3 with rfl | h6
     ·exact he e h4' h5
     ·cases hq:acc[e.on]? with
      | none=>simp [List.getD,hq] at h6
      | some B2 =>
       have h7:j∈B2:=by simpa [List.getD,hq] using h6
       have h8:e.on<acc.length:=(Uac.1 hq).1
       have h9:ops[e.on]? = some (ops[e.on]'(by omega)):=Uah (by omega)
       exact hg e.on B2 _ hq h9 (hc e.on _ h9 (he e h4' h5)) j h7
    ·cases h1
   ·rw[Uar (by omega)] at hB
    have:1<=i-acc.length:=by omega
    rw[UaY (by simpa using this)] at hB
    cases hB
theorem Cl.take{ops:List Oper}{listed:Array Bool}{i:Nat}(hc:Cl ops listed)(hi:∀ oper,ops[i]? = some oper->∀ e∈oper.after,Region.binds .any e=true->listed.getD e.on false=true):Cl ops (listed.setIfInBounds i true):=by
 have mono:∀ k,listed.getD k false=true->(listed.setIfInBounds i true).getD k false=true:=fun k hk=>by
  rw[UaP] at hk ⊢
  rw[Ua7]
  split
  ·split
   ·rfl
   ·rename_i h1 h2
    subst h1
    rw[UbM (by omega)] at hk
    cases hk
  ·exact hk
 intro k oper hk hl e he hb
 by_cases hik:i=k
 ·subst hik
  exact mono _ (hi oper hk e he hb)
 ·refine mono _ (hc k oper hk ?_ e he hb)
  rw[UaP] at hl ⊢
  rw[Ua7,if_neg hik] at hl
  exact hl
def Zaj(ops:Array Oper)(l:List OP):Bool :=
 let B:=ZbX ops.toList []
 (List.range ops.size).all fun i =>
  match ops[i]?,l[i]? with
  | some oper,some o=>(oper.after.all fun e=>!Region.binds .any e || decide (e.on<i)) &&
    (List.range i).all fun j=>(B.getD i []).contains j || (match l[j]? with | some p=>QV p o | none=>false)
  | _,_=>false
section
variable {P:Program} {F:Fr} {G:Gh} {s:St} {a:Act} {w:World}
theorem Sim.congr(h:Sim F G s a w){s':St}(h1:s'.lvl=s.lvl)(h2:s'.out=s.out)(h3:(fun t=>lk t s'.env)=fun t=>lk t s.env)(h4:(fun k=>lkO k s'.loc)=fun k=>lkO k s.loc):Sim F G s' a w:=by
 have hs:s'.sto=s.sto:=by rw[ZeN,ZeN,h1,h2,h4]
 refine⟨h.dfr,h.sz,fun t=>?_,by rw[hs];exact h.ok,by rw[h1];exact h.lvl,by rw[h1,h2];exact h.outl,by rw[hs];exact h.fr,h.fix⟩
 have:=congrFun h3 t
 rw[hs,this]
 exact h.env t
theorem Sim.men_x(h:Sim F G s a w)(x:X):men (fun id=>(Jq s.lvl (fun k=>lkO k s.loc) s.out id).isSome=true) (Ju (fun t=>lk t s.env) x):=by
 cases x with
 | t n=>exact W3 _ _ (h.env n)
 | k v=>exact ZrC v
 | f i=>simp [Ju,men,Za]
theorem Sim.cells_live(h:Sim F G s a w){id:Zd}{cells:List IV}(hc:Jq s.lvl (fun k=>lkO k s.loc) s.out id=some (.bx cells)):Za (fun id=>(Jq s.lvl (fun k=>lkO k s.loc) s.out id).isSome=true) cells:=by
 have hs:s.sto id=some (.bx cells):=by rw[ZeN];exact hc
 obtain⟨b,c,vs,ty,_,_,hv⟩:=h.ok.obs _ _ hs
 exact Xb _ _ hv
theorem ZeS{nt:Nat}{ops:Array Oper}:∀{l:List OP} {r:List Oper},XQ P nt ops l r=true->l.length=r.length/\∀(i:Nat) (o:OP) (oper:Oper),l[i]? = some o->r[i]? = some oper->Zbq P nt ops o oper=true
 | [],[],_=>⟨rfl,fun i o oper h=>by simp at h⟩
 | [],_::_,h=>by cases h
 | _::_,[],h=>by cases h
 | o::l,oper::r,h=>by
  simp only[XQ,Uag] at h
  obtain⟨h1,h2⟩:=ZeS h.2
  refine⟨by simp [h1],fun i o' oper' ho hr=>?_⟩
  cases i with
  | zero=>simp at ho hr;subst ho hr;exact h.1
  | succ i=>exact h2 i o' oper' (by simpa using ho) (by simpa using hr)
structure Todo (l:List OP) (listed:Array Bool) (R:List (Nat×OP)):Prop where
 mem:∀ i o,(i,o)∈R↔l[i]? = some o/\listed[i]? = some false
 sort:R.Pairwise (fun x y=>x.1<y.1)
theorem Todo.take{l:List OP}{listed:Array Bool}{R1 R2:List (Nat×OP)}{i:Nat}{o:OP}(h:Todo l listed (R1++(i,o)::R2)):Todo l (listed.setIfInBounds i true) (R1++R2):=by
 have hp:=Ua9.1 h.sort
 have hp2:=Ua5.1 hp.2.1
 refine⟨fun j p=>?_,?_⟩
 ·have hm:=h.mem j p
  rw[Ua7]
  by_cases hj:i=j
  ·subst hj
   rw[if_pos rfl]
   constructor
   ·intro hin
    exfalso
    rcases Uap.1 hin with g | g
    ·exact Ub6 _ (hp.2.2 _ g (i,o) (by simp))
    ·exact Ub6 i (hp2.1 (i,p) g)
   ·rintro⟨_,h2⟩
    split at h2 <;> cases h2
  ·rw[if_neg hj,<-hm]
   simp only[Uap,UaE,UbS]
   constructor
   ·rintro(g | g)
    ·exact .inl g
    ·exact .inr (.inr g)
   ·rintro(g | ⟨g,_⟩ | g)
    ·exact .inl g
    ·exact absurd g.symm hj
    ·exact .inr g
 ·exact Ua9.2 ⟨hp.1,hp2.2,fun x hx y hy=>hp.2.2 x hx y (by simp [hy])⟩
theorem ZeT{C:ZK}:∀{l1 l2:List OP} {s:St} {K:St->Prop},Vc C (l1++l2) s K=Vc C l1 s fun s' => Vc C l2 s' K
 | [],_,_,_=>rfl
 | o::r,l2,s,K=>by
  simp only[List.cons_append,Vc]
  congr 1
  funext s'
  exact ZeT
theorem ZeU:∀(R:List (Nat×OP)),∃ R1 R2,R=R1++R2/\(∀ x∈R1,qt x.2=true)/\∀ x r,R2=x::r->qt x.2=false
 | []=>⟨[],[],rfl,fun _ h=>(by cases h),fun _ _ h=>(by cases h)⟩
 | x::r=>by
  by_cases h:qt x.2=true
  ·obtain⟨R1,R2,h1,h2,h3⟩:=ZeU r
   refine⟨x::R1,R2,by rw[h1];rfl,fun y hy=>?_,h3⟩
   rcases UaE.1 hy with rfl | hy
   ·exact h
   ·exact h2 y hy
  ·exact⟨[],x::r,rfl,fun _ h=>(by cases h),fun y s hs=>by cases hs;simpa using h⟩
theorem Zjn{p o:OP}(h:QV p o=true):qt p=true/\qt o=true:=by
 simp only[QV,Uag,UaU,UaR] at h
 unfold qt
 simp only[UaU,UaR]
 rcases h.2 with ((h | h) | h) | h
 ·exact⟨.inl h.1,.inl h.2⟩
 ·have:=h.1
  unfold qt at this
  simp only[UaU,UaR] at this
  rcases h.2 with h2 | h2
  ·exact⟨this,.inl (Zae h2)⟩
  ·exact⟨this,.inl (Zi9 h2)⟩
 ·exact⟨.inl (h.1.elim (fun g=>g.elim Zae fun g=>US g.1) ZeQ),.inr h.2⟩
 ·exact⟨h.1.elim .inl fun g=>.inr g.2,.inl (US h.2)⟩
theorem ZrJ{ops:Array Oper}{l:List OP}{Q:Exit->Act->World->Prop}{K:St->Prop}(hc:XQ P F.nt ops l ops.toList=true)(hd:Zaj ops l=true)
  (hq:∀ st' G' a' w',K st'->Sim F G' st' a' w'->Q .normal a' w'):∀(fuel:Nat) (listed:Array Bool) (Rs Rl:List (Nat×OP)) (s st0:St) (G:Gh) (a:Act) (w:World),
  listed.size=ops.size->Cl ops.toList listed->Todo l listed (Rs++Rl)->(Rs++Rl).length=fuel->(∀ x∈Rs,qt x.2=true)->(∀ x r,Rl=x::r->qt x.2=false)->Sim F G s a w ->
  VB (Sem P) s.lvl (Rs.map (·.2)) (fun t=>lk t s.env) (fun k=>lkO k s.loc) s.out (fun t=>lk t st0.env) (fun k=>lkO k st0.loc) st0.out->st0.lvl=s.lvl->Vc (Sem P) (Rl.map (·.2)) st0 K->wpAny P .any ops Q fuel listed a w:=by
 obtain⟨hlen,hat⟩:=ZeS hc
 simp only[Zaj,Ubm,Ucf] at hd
 have hed:=hd
 have hlen':l.length=ops.size:=by rw[hlen];simp
 have edges:∀(i:Nat) (oper:Oper) (o:OP),ops[i]? = some oper->l[i]? = some o->(∀ e∈oper.after,Region.binds .any e=true->e.on<i) /\
   ∀ j p (listed:Array Bool),Cl ops.toList listed->(∀ e∈oper.after,Region.binds .any e=true->listed.getD e.on false=true)->j<i->l[j]? = some p->listed.getD j false=true\/QV p o=true:=fun i oper o ho hl=>by
  have hi:i<ops.size:=(UaL.1 ho).1
  have h1:=hed i hi
  rw[ho,hl] at h1
  simp only[Uag,Ubm,Ucf,Array.all_eq_true_iff_forall_mem,UaU,UaR,decide_eq_true_eq] at h1
  refine⟨fun e he hb=>(h1.1 e he).resolve_left (by simp [hb]),fun j p listed hcl he hj hp=>?_⟩
  have:=h1.2 j hj
  rw[hp] at this
  rcases this with h2 | h2
  ·refine .inl ?_
   have hg:=Zjm hcl ops.toList [] (by simp) (by simp) (fun i B oper hB=>by simp at hB)
   cases hq2:(ZbX ops.toList [])[i]? with
   | none=>simp [List.getD,hq2] at h2
   | some B=>exact hg i B oper hq2 (by simpa using ho) he j (by simpa [List.getD,hq2] using h2)
  ·exact .inr h2
 have left:∀(listed:Array Bool) (R:List (Nat×OP)),listed.size=ops.size->Todo l listed R->R≠[]->Region.ready .any ops listed≠[]:=fun listed R hs ht hne=>by
  cases R with
  | nil=>exact absurd rfl hne
  | cons x R =>
   obtain⟨i,o⟩:=x
   obtain⟨hl,hli⟩:=(ht.mem i o).1 (by simp)
   have hi:i<ops.size:=by rw[<-hlen'];exact(Uac.1 hl).1
   obtain⟨oper,ho⟩:∃ oper,ops[i]? = some oper:=⟨_,Ua1 hi⟩
   have:i∈Region.ready .any ops listed:=by
    rw[mem_ready]
    refine⟨by simp [UaP,hli],oper,ho,fun e he hb=>?_⟩
    have hlt:=(edges i oper o ho hl).1 e he hb
    have hes:e.on<listed.size:=by omega
    cases hq:listed[e.on]? with
    | none=>rw[Array.getElem?_eq_none_iff] at hq;omega
    | some b =>
     cases b with
     | true=>simp [UaP,hq]
     | false =>
      exfalso
      have hel:e.on<l.length:=by omega
      have:=(ht.mem e.on l[e.on]).2 ⟨Uah hel,hq⟩
      rcases UaE.1 this with h | h
      ·have:=congrArg Prod.fst h;simp at this;omega
      ·have:=(Ua5.1 ht.sort).1 _ h
       have:i<e.on:=this
       omega
   intro h
   rw[h] at this
   cases this
 intro fuel
 induction fuel with
 | zero =>
  intro listed Rs Rl s st0 G a w hs hcl ht hR _ _ h hrun e1 hw
  have hR:Rs++Rl=[]:=UaG hR
  obtain⟨rfl,rfl⟩:=List.append_eq_nil_iff.1 hR
  refine⟨?_,hq st0 G a w hw (h.congr e1 hrun.2.2 hrun.1 hrun.2.1)⟩
  cases hrd:Region.ready .any ops listed with
  | nil=>rfl
  | cons i r =>
   exfalso
   have hi:i∈Region.ready .any ops listed:=by rw[hrd];simp
   obtain⟨h1,oper,ho,_⟩:=mem_ready.1 hi
   have hi':i<ops.size:=(UaL.1 ho).1
   have hl:i<l.length:=by omega
   have hli:i<listed.size:=by omega
   have:=(ht.mem i l[i]).2 ⟨Uah hl,by rw[Ua1 hli];simp [UaP,Ua1 hli] at h1;rw[h1]⟩
   cases this
 | succ fuel ih =>
  intro listed Rs Rl s st0 G a w hs hcl ht hR hsil hhd h hrun e1 hw
  have hne:Rs++Rl≠[]:=by intro h;rw[h] at hR;cases hR
  refine⟨fun h0=>absurd h0 (left listed _ hs ht hne),fun i hi=>?_⟩
  obtain⟨h1,oper,ho,hall⟩:=mem_ready.1 hi
  have hi':i<ops.size:=(UaL.1 ho).1
  have hl:i<l.length:=by omega
  have hli:i<listed.size:=by omega
  have hlo:l[i]? = some l[i]:=Uah hl
  have hmem:=(ht.mem i l[i]).2 ⟨hlo,by rw[Ua1 hli];simp [UaP,Ua1 hli] at h1;rw[h1]⟩
  generalize l[i]=o at hlo hmem
  have hready:∀ e∈oper.after,Region.binds .any e=true->listed.getD e.on false=true:=hall
  have hcl':Cl ops.toList (listed.setIfInBounds i true):=hcl.take fun oper' ho' => by
   have:ops[i]? = some oper':=by simpa using ho'
   rw[ho] at this;cases this
   exact hready
  have hbef:∀ j p,(j,p)∈Rs++Rl->j<i->QV p o=true:=fun j p hj hlt=>by
   obtain⟨hjl,hjf⟩:=(ht.mem j p).1 hj
   rcases (edges i oper o ho hlo).2 j p listed hcl hready hlt hjl with h2 | h2
   ·simp [UaP,hjf] at h2
   ·exact h2
  rcases Uap.1 hmem with hm | hm
  ·obtain⟨R1,R2,rfl⟩:=List.append_of_mem hm
   have ht':Todo l listed (R1++(i,o)::(R2++Rl)):=by simpa using ht
   have hp:=Ua9.1 ht'.sort
   have hind:∀ p∈R1.map (·.2),QV p o=true:=fun p hp1=>by
    obtain⟨⟨j,p'⟩,hj,rfl⟩:=Uaq.1 hp1
    exact hbef j p' (by simp [hj]) (hp.2.2 _ hj (i,o) (by simp))
   rw[Uay,Uai] at hrun
   obtain⟨ρ1,σ1,out1,g1,g3⟩:=ZrI (o:=o) (hsil (i,o) (by simp)) hind (fun x=>h.men_x x) (fun id h=>h) (fun id cells _ hc=>h.cells_live hc) hrun
   have hop:=ZrE (st:=s) g1
   have key:=ZeE (ops:=ops) (Q:=Q) (next:=wpAny P .any ops Q fuel (listed.setIfInBounds i true)) h (hat i o oper hlo (by simpa using ho)) hop (fun st' G' a' w' hk h' => by
    refine ih (listed.setIfInBounds i true) (R1++R2) Rl st' st0 G' a' w' (by simp [hs]) hcl' (by simpa using ht'.take) (by simp at hR ⊢;omega) (fun x hx=>hsil x (by
     rcases Uap.1 hx with h | h
     ·simp [h]
     ·simp [h])) hhd h' ?_ (e1.trans hk.lvl.symm) hw
    rw[Uay,hk.lvl,hk.out,hk.env,hk.loc]
    exact g3)
   unfold wpOp
   simp only[ho]
   by_cases hw2:Region.wanted oper (yielded ops a.tmps)=true
   ·rw[if_pos hw2] at key ⊢;exact .inl key
   ·rw[if_neg hw2] at key ⊢;exact key
  ·cases Rl with
   | nil=>cases hm
   | cons x r =>
    obtain⟨i0,o0⟩:=x
    have hl0:=hhd (i0,o0) r rfl
    have hp:=Ua9.1 ht.sort
    have hio:i0=i/\o0=o:=by
     rcases UaE.1 hm with h2 | h2
     ·cases h2;exact⟨rfl,rfl⟩
     ·have hlt:=(Ua5.1 hp.2.1).1 _ h2
      have:=(Zjn (hbef i0 o0 (by simp) hlt)).1
      rw[show qt o0=false from hl0] at this;cases this
    obtain⟨rfl,rfl⟩:=hio
    have hRs:Rs=[]:=by
     cases Rs with
     | nil=>rfl
     | cons y q =>
      have hlt:=hp.2.2 y (by simp) (i0,o0) (by simp)
      have:=(Zjn (hbef y.1 y.2 (by simp) hlt)).2
      rw[show qt o0=false from hl0] at this;cases this
    subst hRs
    have h0:Sim F G st0 a w:=h.congr e1 hrun.2.2 hrun.1 hrun.2.1
    obtain⟨R1,R2,rfl,q1,q2⟩:=ZeU r
    have hw':YE (Sem P) o0 st0 fun st' => Vc (Sem P) ((R1++R2).map (·.2)) st' K:=hw
    have key:=ZeE (ops:=ops) (Q:=Q) (next:=wpAny P .any ops Q fuel (listed.setIfInBounds i0 true)) h0 (hat i0 o0 oper hlo (by simpa using ho)) hw' (fun st' G' a' w' hk h' => by
     rw[Uay,ZeT] at hk
     obtain⟨st1,k1,k2,k4⟩:=ZeO (R1.map (·.2)) st' (fun p hp=>by
      obtain⟨x,hx,rfl⟩:=Uaq.1 hp
      exact q1 x hx) hk
     have ht':Todo l listed ([]++(i0,o0)::(R1++R2)):=ht
     exact ih (listed.setIfInBounds i0 true) R1 R2 st' st1 G' a' w' (by simp [hs]) hcl' (by simpa using ht'.take) (by simp at hR ⊢;omega) q1 q2 h' k4 k2 k1)
    unfold wpOp
    simp only[ho]
    by_cases hw2:Region.wanted oper (yielded ops a.tmps)=true
    ·rw[if_pos hw2] at key ⊢;exact .inl key
    ·rw[if_neg hw2] at key ⊢;exact key
theorem Frm.drew{F:Fr}{G:Gh}{S:Zc}{w w':World}(h:Frm F G S w)(e:Ext w w'):Frm F G S w':=h.ext e
theorem ZrK{ops:Array Oper}{l:List OP}{Q:Exit->Act->World->Prop}{K:St->Prop}{id:Nat}(hm:P.follows .mixedOrders=true)(hc:XQ P F.nt ops l ops.toList=true)(hd:Zaj ops l=true)(h:Sim F G s a w)(he:Vc (Sem P) l s K)
  (hq:∀ st' G' a' w',K st'->Sim F G' st' a' w'->Q .normal a' w'):(Code.region id ops true).wp P Q a w:=by
 obtain⟨hlen,hat⟩:=ZeS hc
 have hlen':l.length=ops.size:=by rw[hlen];simp
 have hw:Sim F G s a { w with drawn:=w.drawn+1 }:=h.ext ⟨Ual _,fun _ _=>rfl,rfl,rfl,rfl⟩
 have hmap:(l.zipIdx.map fun x=>(x.2,x.1)).map (·.2)=l:=by
  rw[UbU]
  have:=List.zipIdx_map_fst 0 l
  exact this
 obtain⟨R1,R2,hR,q1,q2⟩:=ZeU (l.zipIdx.map fun x=>(x.2,x.1))
 have he':=he
 rw[<-hmap,hR,Uay,ZeT] at he'
 obtain⟨st1,k1,k2,k4⟩:=ZeO (R1.map (·.2)) s (fun p hp=>by
  obtain⟨x,hx,rfl⟩:=Uaq.1 hp
  exact q1 x hx) he'
 have hTodo:Todo l (Array.replicate ops.size false) (R1++R2):=by
  rw[<-hR]
  refine⟨fun i o=>?_,?_⟩
  ·constructor
   ·intro hi
    obtain⟨⟨p,j⟩,hj,he⟩:=Uaq.1 hi
    cases he
    have hg:=List.mem_zipIdx_iff_getElem?.1 hj
    refine⟨hg,?_⟩
    have:j<ops.size:=by rw[<-hlen'];exact(Uac.1 hg).1
    simp [this]
   ·rintro⟨hg,_⟩
    exact Uaq.2 ⟨(o,i),List.mem_zipIdx_iff_getElem?.2 hg,rfl⟩
  ·rw[Ub2]
   have:∀(l:List OP) (n:Nat),(l.zipIdx n).Pairwise (fun a b=>a.2<b.2):=by
    intro l
    induction l with
    | nil=>intro n;exact List.Pairwise.nil
    | cons x r ih =>
     intro n
     rw[List.zipIdx_cons]
     refine Ua5.2 ⟨fun y hy=>?_,ih _⟩
     have:=List.le_snd_of_mem_zipIdx hy
     show n<y.2
     omega
   exact this l 0
 exact wp_region_any hm (ZrJ hc hd hq ops.size _ R1 R2 s st1 G a _ (by simp) (fun i oper _ hl=>by simp [UaP,Array.getElem?_replicate] at hl;split at hl <;> cases hl) hTodo (by rw[<-hR];simp [hlen']) q1 q2 hw k4 k2 k1)
end
variable [Tabs]
def J2(P:Program)(nt:Nat):C2->Code->Bool
 | .fg _ _ c,d=>J2 P nt c d
 | .no,_=>true
 | .sk,.skip=>true
 | .sk,.label _=>true
 | .rg _ l,.region _ ops dr=>XQ P nt ops l ops.toList&&(!dr || (Zaj ops l&&P.follows .mixedOrders))
 | .sq a b,.seq c d=>J2 P nt a c&&J2 P nt b d
 | .cd x a b,.cond y c d=>ZB x y&&J2 P nt a c&&J2 P nt b d
 | .bl i c,.block j d=>i == j&&J2 P nt c d
 | .lp _ _ c,.loop d=>J2 P nt c d
 | .ex i,.exit j=>i == j
 | .rt,.ret=>true
 | _,_=>false
theorem X4{P:Program}{nt:Nat}{c2:C2}{c:Code}(hno:c2 ≠ .no)(h:J2 P nt c2 c=true) :
  (∃ ks js c3,c2 = .fg ks js c3/\J2 P nt c3 c=true)\/(c2 = .sk/\c = .skip)\/(∃ l,c2 = .sk/\c = .label l) \/
  (∃ n l id ops dr,c2 = .rg n l/\c = .region id ops dr/\XQ P nt ops l ops.toList=true/\(dr=true->Zaj ops l=true/\P.follows .mixedOrders=true)) \/
  (∃ a b x y,c2 = .sq a b/\c = .seq x y/\J2 P nt a x=true/\J2 P nt b y=true) \/
  (∃ u a b v x y,c2 = .cd u a b/\c = .cond v x y/\ZB u v=true/\J2 P nt a x=true/\J2 P nt b y=true) \/
  (∃ i a x,c2 = .bl i a/\c = .block i x/\J2 P nt a x=true)\/(∃ ks js a x,c2 = .lp ks js a/\c = .loop x/\J2 P nt a x=true) \/
  (∃ i,c2 = .ex i/\c = .exit i)\/(c2 = .rt/\c = .ret):=by
 cases c2 with
 | no=>exact absurd rfl hno
 | fg ks js c3=>exact .inl ⟨ks,js,c3,rfl,by simpa only[J2] using h⟩
 | sk =>
  cases c <;> simp only[J2] at h <;> try contradiction
  ·exact .inr (.inl ⟨rfl,rfl⟩)
  ·exact .inr (.inr (.inl ⟨_,rfl,rfl⟩))
 | rg n l =>
  cases c <;> simp only[J2] at h <;> try contradiction
  rename_i id ops dr
  simp only[Uag,UaU,UaR] at h
  exact .inr (.inr (.inr (.inl ⟨n,l,id,ops,dr,rfl,rfl,h.1,fun hd=>h.2.resolve_left (by simp [hd])⟩)))
 | sq a b =>
  cases c <;> simp only[J2] at h <;> try contradiction
  simp only[Uag] at h
  exact .inr (.inr (.inr (.inr (.inl ⟨a,b,_,_,rfl,rfl,h.1,h.2⟩))))
 | cd u a b =>
  cases c <;> simp only[J2] at h <;> try contradiction
  simp only[Uag] at h
  exact .inr (.inr (.inr (.inr (.inr (.inl ⟨u,a,b,_,_,_,rfl,rfl,h.1.1,h.1.2,h.2⟩)))))
 | bl i a =>
  cases c <;> simp only[J2] at h <;> try contradiction
  simp only[Uag,beq_iff_eq] at h
  obtain⟨rfl,h⟩:=h
  exact .inr (.inr (.inr (.inr (.inr (.inr (.inl ⟨i,a,_,rfl,rfl,h⟩))))))
 | lp ks js a =>
  cases c <;> simp only[J2] at h <;> try contradiction
  exact .inr (.inr (.inr (.inr (.inr (.inr (.inr (.inl ⟨ks,js,a,_,rfl,rfl,h⟩)))))))
 | ex i =>
  cases c <;> simp only[J2] at h <;> try contradiction
  simp only[beq_iff_eq] at h
  subst h
  exact .inr (.inr (.inr (.inr (.inr (.inr (.inr (.inr (.inl ⟨i,rfl,rfl⟩))))))))
 | rt =>
  cases c <;> simp only[J2] at h <;> try contradiction
  exact .inr (.inr (.inr (.inr (.inr (.inr (.inr (.inr (.inr ⟨rfl,rfl⟩))))))))
section
variable {P:Program} {F:Fr}
theorem ZrL:∀(c2:C2) (c:Code) (Q2:Ex->St->Prop) (Q:Exit->Act->World->Prop) (st:St) (G:Gh) (a:Act) (w:World),J2 P F.nt c2 c=true->wp (Sem P) c2 st Q2->Sim F G st a w ->
  (∀ ex st' G' a' w',Q2 ex st'->Sim F G' st' a' w'->Q (Zrk ex) a' w')->c.wp P Q a w:=by
 intro c2
 induction c2 with
 | no =>
  intro c Q2 Q st G a w hc he h hq
  exact False.elim he
 | sk =>
  intro c Q2 Q st G a w hc he h hq
  rcases X4 (fun e=>by cases e) hc with ⟨_,_,_,g,_⟩ | ⟨_,rfl⟩ | ⟨l,_,rfl⟩ | ⟨_,_,_,_,_,g,_⟩ | ⟨_,_,_,_,g,_⟩ | ⟨_,_,_,_,_,_,g,_⟩ | ⟨_,_,_,g,_⟩ | ⟨_,_,_,_,g,_⟩ | ⟨_,g,_⟩ | ⟨g,_⟩ <;> try (cases g)
  ·exact wp_skip (hq .nrm st G a w he h)
  ·exact wp_label (hq .nrm st G a w he h)
 | rg n l =>
  intro c Q2 Q st G a w hc he h hq
  rcases X4 (fun e=>by cases e) hc with ⟨_,_,_,g,_⟩ | ⟨g,_⟩ | ⟨_,g,_⟩ | ⟨_,_,id,ops,dr,g,rfl,h1,h2⟩ | ⟨_,_,_,_,g,_⟩ | ⟨_,_,_,_,_,_,g,_⟩ | ⟨_,_,_,g,_⟩ | ⟨_,_,_,_,g,_⟩ | ⟨_,g,_⟩ | ⟨g,_⟩ <;> try (cases g)
  cases dr with
  | false =>
   refine wp_region ?_
   have:=ZiW (Q:=Q) l ops.toList 0 st G a w h h1 rfl he (fun st' G' a' w' hk hs=>hq .nrm st' G' a' w' hk hs)
   rw[List.range_eq_range']
   simpa using this
  | true=>exact ZrK (h2 rfl).2 h1 (h2 rfl).1 h he (fun st' G' a' w' hk hs=>hq .nrm st' G' a' w' hk hs)
 | sq a2 b2 iha ihb =>
  intro c Q2 Q st G a w hc he h hq
  rcases X4 (fun e=>by cases e) hc with ⟨_,_,_,g,_⟩ | ⟨g,_⟩ | ⟨_,g,_⟩ | ⟨_,_,_,_,_,g,_⟩ | ⟨_,_,x,y,g,rfl,h1,h2⟩ | ⟨_,_,_,_,_,_,g,_⟩ | ⟨_,_,_,g,_⟩ | ⟨_,_,_,_,g,_⟩ | ⟨_,g,_⟩ | ⟨g,_⟩ <;> try (cases g)
  refine wp_seq (iha x _ _ st G a w h1 he h (fun ex st' G' a' w' hk hs=>?_))
  cases ex with
  | nrm=>exact ihb y Q2 Q st' G' a' w' h2 hk hs hq
  | ext i=>exact hq _ st' G' a' w' hk hs
  | ret=>exact hq _ st' G' a' w' hk hs
 | cd u a2 b2 iha ihb =>
  intro c Q2 Q st G a w hc he h hq
  rcases X4 (fun e=>by cases e) hc with ⟨_,_,_,g,_⟩ | ⟨g,_⟩ | ⟨_,g,_⟩ | ⟨_,_,_,_,_,g,_⟩ | ⟨_,_,_,_,g,_⟩ | ⟨_,_,_,v,x,y,g,rfl,h0,h1,h2⟩ | ⟨_,_,_,g,_⟩ | ⟨_,_,_,_,g,_⟩ | ⟨_,g,_⟩ | ⟨g,_⟩ <;> try (cases g)
  simp only[wp] at he
  split at he <;> try contradiction
  rename_i t hu
  have hv:=h.x h0
  rw[hu] at hv
  have hv:=hv.val.1
  exact wp_cond_split hv (fun ht=>iha x Q2 Q st G a w h1 (he.1 ht) h hq) (fun ht=>ihb y Q2 Q st G a w h2 (he.2 ht) h hq)
 | bl i a2 iha =>
  intro c Q2 Q st G a w hc he h hq
  rcases X4 (fun e=>by cases e) hc with ⟨_,_,_,g,_⟩ | ⟨g,_⟩ | ⟨_,g,_⟩ | ⟨_,_,_,_,_,g,_⟩ | ⟨_,_,_,_,g,_⟩ | ⟨_,_,_,_,_,_,g,_⟩ | ⟨_,_,x,g,rfl,h1⟩ | ⟨_,_,_,_,g,_⟩ | ⟨_,g,_⟩ | ⟨g,_⟩ <;> try (cases g)
  refine wp_block (iha x _ _ st G a w h1 he h (fun ex st' G' a' w' hk hs=>?_))
  cases ex with
  | nrm=>exact hq _ st' G' a' w' hk hs
  | ext j =>
   dsimp only at hk
   show Exit.inBlock i Q (.exit j) a' w'
   simp only[Exit.inBlock]
   by_cases hj:j=i
   ·rw[if_pos hj] at hk ⊢;exact hq _ st' G' a' w' hk hs
   ·rw[if_neg hj] at hk ⊢;exact hq _ st' G' a' w' hk hs
  | ret=>exact hq _ st' G' a' w' hk hs
 | lp ks js a2 iha =>
  intro c Q2 Q st G a w hc he h hq
  rcases X4 (fun e=>by cases e) hc with ⟨_,_,_,g,_⟩ | ⟨g,_⟩ | ⟨_,g,_⟩ | ⟨_,_,_,_,_,g,_⟩ | ⟨_,_,_,_,g,_⟩ | ⟨_,_,_,_,_,_,g,_⟩ | ⟨_,_,_,g,_⟩ | ⟨_,_,_,x,g,rfl,h1⟩ | ⟨_,g,_⟩ | ⟨g,_⟩ <;> try (cases g)
  obtain⟨I,⟨hcl,n0,hn0⟩,hround⟩:=he
  refine wp_loop_ghost (fun n a w=>∃ s G,I n s/\Sim F G s a w) n0 ⟨_,G,hn0,h.fgt hcl⟩ (fun n a w ⟨s,G,hI,hs⟩=>?_)
  refine iha x _ _ s G a w h1 (hround n s hI) hs (fun ex st' G' a' w' hk hs' => ?_)
  cases ex with
  | nrm =>
   obtain⟨hc',m,hm,hI'⟩:=hk
   exact⟨m,hm,_,G',hI',hs'.fgt hc'⟩
  | ext j=>exact hq _ st' G' a' w' hk hs'
  | ret=>exact hq _ st' G' a' w' hk hs'
 | fg ks js a2 iha =>
  intro c Q2 Q st G a w hc he h hq
  rcases X4 (fun e=>by cases e) hc with ⟨_,_,_,g,h1⟩ | ⟨g,_⟩ | ⟨_,g,_⟩ | ⟨_,_,_,_,_,g,_⟩ | ⟨_,_,_,_,g,_⟩ | ⟨_,_,_,_,_,_,g,_⟩ | ⟨_,_,_,g,_⟩ | ⟨_,_,_,_,g,_⟩ | ⟨_,g,_⟩ | ⟨g,_⟩ <;> try (cases g)
  exact iha c Q2 Q _ G a w h1 he.2 (h.fgt he.1) hq
 | ex i =>
  intro c Q2 Q st G a w hc he h hq
  rcases X4 (fun e=>by cases e) hc with ⟨_,_,_,g,_⟩ | ⟨g,_⟩ | ⟨_,g,_⟩ | ⟨_,_,_,_,_,g,_⟩ | ⟨_,_,_,_,g,_⟩ | ⟨_,_,_,_,_,_,g,_⟩ | ⟨_,_,_,g,_⟩ | ⟨_,_,_,_,g,_⟩ | ⟨_,g,rfl⟩ | ⟨g,_⟩ <;> try (cases g)
  exact wp_exit (hq (.ext i) st G a w he h)
 | rt =>
  intro c Q2 Q st G a w hc he h hq
  rcases X4 (fun e=>by cases e) hc with ⟨_,_,_,g,_⟩ | ⟨g,_⟩ | ⟨_,g,_⟩ | ⟨_,_,_,_,_,g,_⟩ | ⟨_,_,_,_,g,_⟩ | ⟨_,_,_,_,_,_,g,_⟩ | ⟨_,_,_,g,_⟩ | ⟨_,_,_,_,g,_⟩ | ⟨_,g,_⟩ | ⟨_,rfl⟩ <;> try (cases g)
  exact wp_ret (hq .ret st G a w he h)
end
variable [Tabs]
def OEm(st0:St):Option Zd->Ob->Prop
 | some id,ob=>∃ k es u hw ver,st0.sto id=some (.ar k es u hw ver)/\ob = .ar k es u es.length 0
 | none,ob=>∃ k,ob = .ar k [] true 0 0
def OE(st0:St):List (Option Zd)->List Ob->Prop
 | [],obs=>obs=[]
 | e::r,obs=>∃ ob s,obs=ob::s/\OEm st0 e ob/\OE st0 r s
theorem ZeV{st0:St}:∀{E:List (Option Zd)} {obs:List Ob},OE st0 E obs->obs.length=E.length
 | [],_,h=>by rw[show _=[] from h];rfl
 | e::r,_,⟨ob,s,h1,_,h3⟩=>by rw[h1];simp [ZeV h3]
theorem Zjo{st0:St}:∀{E E2:List (Option Zd)} {obs obs2:List Ob},OE st0 E obs->OE st0 E2 obs2->OE st0 (E++E2) (obs++obs2)
 | [],_,_,_,h,h2=>by rw[show _=[] from h];exact h2
 | e::r,_,_,_,⟨ob,s,h1,h2,h3⟩,h4=>by rw[h1];exact⟨ob,_,rfl,h2,Zjo h3 h4⟩
theorem ZbY{st0:St}:∀{E:List (Option Zd)} {obs:List Ob},OE st0 E obs->∀(j:Nat) (e:Option Zd),E[j]? = some e->∃ ob,obs[j]? = some ob/\OEm st0 e ob
 | [],_,_,j,e,h=>by simp at h
 | e0::r,_,⟨ob,s,h1,h2,h3⟩,j,e,h=>by
  subst h1
  cases j with
  | zero=>simp at h;subst h;exact⟨ob,rfl,h2⟩
  | succ j=>exact ZbY h3 j e (by simpa using h)
structure XS (st0 st:St) (T:Zd->Prop) (E:List (Option Zd)):Prop where
 kl:Kl (fun i=>T i\/some i∈E) st0 st
 nd:∀(a b:Nat) (id:Zd),E[a]? = some (some id)->E[b]? = some (some id)->a=b
 dj:∀ id,some id∈E -> ¬ T id
structure FinS (G:Gh) (st0:St) (w:World) (T:Zd->Prop) (E:List (Option Zd)) (G':Gh) (S':Zc):Prop where
 old:∀ i ob,i.1≠st0.lvl->st0.sto i=some ob->S' i=some ob/\G' i=G i
 av:∀ b,b<w.heap.size->(∀ id ob,st0.sto id=some ob->ZL G id ob b->T id)->Av G' S' w b
 ex:∀(j:Nat) (id:Zd),E[j]? = some (some id)->G' (st0.lvl,j)=G id/\∃ k es u hw ver,st0.sto id=some (.ar k es u hw ver)/\S' (st0.lvl,j)=some (.ar k es u es.length 0)
 nil:∀ j:Nat,E[j]? = some none->G' (st0.lvl,j)=(fun _=>none)/\∃ k,S' (st0.lvl,j)=some (.ar k [] true 0 0)
def ZrM(G:Gh)(st0:St)(w:World)(T:Zd->Prop)(E:List (Option Zd))(j0:Nat)(y:IV)(v:Value):Prop :=
 ∀(T2:Zd->Prop) (E2:List (Option Zd)) (G':Gh) (S':Zc),(∀ i,T i->T2 i)->(∀(j:Nat) (e:Option Zd),E[j]? = some e->E2[j]? = some e)->FinS G st0 w T2 E2 G' S'->VR G' S' w (impv true st0.lvl 0 j0 y).1 v
def ZrN(G:Gh)(st0:St)(w:World)(T:Zd->Prop)(E:List (Option Zd))(j0:Nat)(y:List IV)(v:List Value):Prop :=
 ∀(T2:Zd->Prop) (E2:List (Option Zd)) (G':Gh) (S':Zc),(∀ i,T i->T2 i)->(∀(j:Nat) (e:Option Zd),E[j]? = some e->E2[j]? = some e)->FinS G st0 w T2 E2 G' S'->Zo G' S' w (impvs true st0.lvl 0 j0 y).1 v
section
variable {P:Program} {F:Fr} {G:Gh} {st0 st:St} {a:Act} {w:World} {T:Zd->Prop} {E:List (Option Zd)}
theorem XS.nil(st0:St):XS st0 st0 (fun _=>False) [] :=
 ⟨by
  have:=Kl.refl st0
  rw[show (fun i=>(fun _=>False) i\/some i∈([]:List (Option Zd)))=fun _=>False from by funext i;simp]
  exact this,fun a b id h=>by simp at h,fun id h=>by cases h⟩
theorem XS.alive(x:XS st0 st T E){id:Zd}{ob:Ob}(h:st.sto id=some ob):¬ T id/\some id ∉ E/\∃ ob0,st0.sto id=some ob0/\Wk (fun i=>T i\/some i∈E) ob0 ob:=by
 obtain⟨h1,h2⟩:=x.kl.only id ob h
 exact⟨fun h=>h1 (.inl h),fun h=>h1 (.inr h),h2⟩
theorem XS.melt(h0:Sim F G st0 a w)(x:XS st0 st T E){id:Zd}{ob:Ob}(hid:id.1=st0.lvl)(hs:st.sto id=some ob):XS st0 (ZF id st) (fun i=>T i\/i=id) E:=by
 obtain⟨a1,a2,ob0,a3,_⟩:=x.alive hs
 have k:=x.kl.step (id:=id) (fun i cells h=>h0.ok.low i cells h) h0.outl hid (by rw[a3];rfl)
 refine⟨?_,x.nd,fun i hi=>?_⟩
 ·rw[show (fun i=>(T i\/i=id)\/some i∈E)=fun i=>(T i\/some i∈E)\/i=id from by funext i;exact propext ⟨fun h=>by rcases h with (h | h) | h <;> simp [h],fun h=>by rcases h with (h | h) | h <;> simp [h]⟩]
  exact k
 ·rintro(h | h)
  ·exact x.dj i hi h
  ·subst h;exact a2 hi
theorem XS.hand(h0:Sim F G st0 a w)(x:XS st0 st T E){id:Zd}{ob:Ob}(hid:id.1=st0.lvl)(hs:st.sto id=some ob):XS st0 (ZF id st) T (E++[some id]):=by
 obtain⟨a1,a2,ob0,a3,_⟩:=x.alive hs
 have k:=x.kl.step (id:=id) (fun i cells h=>h0.ok.low i cells h) h0.outl hid (by rw[a3];rfl)
 have hmem:∀(a:Nat) (i:Zd),(E++[some id])[a]? = some (some i)->E[a]? = some (some i)\/(i=id/\a=E.length):=fun a i h=>by
  rw[UbR] at h
  split at h
  ·exact .inl h
  ·rename_i hl
   have:a-E.length=0:=by
    rcases Nat.eq_zero_or_pos (a-E.length) with h' | h'
    ·exact h'
    ·rw[UaY (by simp;omega)] at h;cases h
   rw[this] at h
   simp at h
   exact .inr ⟨h.symm,by omega⟩
 refine⟨?_,fun a b i ha hb=>?_,fun i hi=>?_⟩
 ·rw[show (fun i=>T i\/some i∈E++[some id])=fun i=>(T i\/some i∈E)\/i=id from by funext i;simp [or_assoc]]
  exact k
 ·rcases hmem a i ha with h1 | ⟨rfl,h1⟩ <;> rcases hmem b i hb with h2 | ⟨h3,h2⟩
  ·exact x.nd a b i h1 h2
  ·subst h3;exact absurd (Uae h1) a2
  ·exact absurd (Uae h2) a2
  ·omega
 ·rcases Uap.1 hi with h | h
  ·exact x.dj i h
  ·simp at h;subst h;exact a1
theorem XS.hnil(x:XS st0 st T E):XS st0 st T (E++[none]):=by
 refine⟨?_,fun a b i ha hb=>?_,fun i hi=>x.dj i (by simpa using hi)⟩
 ·rw[show (fun i=>T i\/some i∈E++[none])=fun i=>T i\/some i∈E from by funext i;simp]
  exact x.kl
 ·have key:∀ c:Nat,(E++[none])[c]? = some (some i)->E[c]? = some (some i):=fun c h=>by
   rw[UbR] at h
   split at h
   ·exact h
   ·have:=Uae h
    simp at this
  exact x.nd a b i (key a ha) (key b hb)
theorem FinS.mono{G':Gh}{S':Zc}(f:FinS G st0 w T E G' S')(b:Nat)(h:Av G st0.sto w b):Av G' S' w b :=
 f.av b h.1 fun id ob hs ho=>absurd ho (h.2 id ob hs)
theorem FinS.ids{G':Gh}{S':Zc}(f:FinS G st0 w T E G' S')(i:Zd)(ob:Ob)(hi:i.1≠st0.lvl)(hs:st0.sto i=some ob):∃ ob',S' i=some ob'/\idR G G' i ob ob':=by
 obtain⟨h1,h2⟩:=f.old i ob hi hs
 exact⟨ob,h1,QM h2 ob⟩
theorem FinS.vr{G':Gh}{S':Zc}(f:FinS G st0 w T E G' S')(x:IV)(v:Value)(hm:men (fun i=>i.1≠st0.lvl) x)(h:VR G st0.sto w x v):VR G' S' w x v :=
 XO (P:=fun i=>i.1≠st0.lvl) f.mono (fun _ _=>rfl) f.ids x v hm h
theorem FinS.vrs{G':Gh}{S':Zc}(f:FinS G st0 w T E G' S')(x:List IV)(v:List Value)(hm:Za (fun i=>i.1≠st0.lvl) x)(h:Zo G st0.sto w x v):Zo G' S' w x v :=
 QN (P:=fun i=>i.1≠st0.lvl) f.mono (fun _ _=>rfl) f.ids x v hm h
def CellOk(F:Fr)(G:Gh)(st0:St)(w:World)(T:Zd->Prop)(E:List (Option Zd))(v:Value)(K:IV->St->Prop):Prop :=
 ∃ y st' T' e obs,K y st'/\XS st0 st' T' (E++e)/\(∀ i,T i->T' i)/\low F.lvl y/\OE st0 e obs/\(impv true st0.lvl 0 E.length y).2=obs/\ZrM G st0 w T' (E++e) E.length y v
theorem CellOk.plain{v:Value}{K:IV->St->Prop}(hl:F.lvl=st0.lvl)(x:XS st0 st T E){y:IV}(hk:K y st)(h1:(impv true st0.lvl 0 E.length y)=(y,[]))(hm:low st0.lvl y)(hv:VR G st0.sto w y v):CellOk F G st0 w T E v K:=by
 refine⟨y,st,T,[],[],hk,by simpa using x,fun _ h=>h,by rw[hl];exact hm,rfl,by rw[h1],fun T2 E2 G' S' _ _ f=>?_⟩
 rw[h1]
 exact f.vr y v (J5 (fun i hi=>by have hi:i.1<st0.lvl:=hi;exact Nat.ne_of_lt hi) y hm) hv
theorem Zjp(h0:Sim F G st0 a w)(xs:XS st0 st T E){k:Nat}{x:IV}{v:Value}{K:IV->St->Prop}(hv:VR G st0.sto w x v)(he:Yt k x st K):CellOk F G st0 w T E v K:=by
 have hll:st.lvl=st0.lvl:=xs.kl.lvl
 have hout:∀ id,(st0.sto id).isSome=true->id.1≠st0.lvl->id.1<st0.lvl:=fun id hs hn=>by
  obtain⟨ob,hob⟩:=Uan.1 hs
  rw[YW hn] at hob
  exact h0.outl id ob hob
 have plain:=fun(y:IV) (hk:K y st) (h1:(impv true st0.lvl 0 E.length y)=(y,[])) (hm:low st0.lvl y) (hv:VR G st0.sto w y v)=>CellOk.plain (F:=F) h0.lvl.symm xs hk h1 hm hv
 unfold Yt at he
 split at he
 ·rename_i id p off len cap s
  split at he
  ·rename_i hid
   rw[hll] at hid
   split at he <;> try contradiction
   rename_i k' es u hw ver hs
   obtain⟨rfl,rfl,he⟩:=he
   obtain⟨_,_,ob0,hs0,hwk⟩:=xs.alive hs
   cases hwk
   split at he
   ·obtain⟨hl,hk⟩:=he
    refine⟨_,_,(fun i=>T i\/i=id),[],[],hk,by simpa using xs.melt h0 hid hs,fun i h=>.inl h,trivial,rfl,rfl,fun T2 E2 G' S' hT hE f=>?_⟩
    have hr:=Wy (A:=Av G' S' w) h0.ok (fun _ b hb=>f.mono b hb) hs0 (fun b ho=>f.av b (Yu (h0.ok.obs _ _ hs0) ho) fun id' ob' hs' ho' => by
     have:=h0.ok.dis _ _ _ _ b hs' hs0 ho' ho
     exact hT _ (.inr this)) hv rfl rfl hl
    exact hr.1
   ·obtain⟨rfl,rfl,rfl,rfl,hk⟩:=he
    refine⟨_,_,T,[some id],_,hk,xs.hand h0 hid hs,fun i h=>h,trivial,⟨_,[],rfl,⟨_,_,_,_,_,hs0,rfl⟩,rfl⟩,rfl,fun T2 E2 G' S' hT hE f=>?_⟩
    obtain⟨hG,k2,es2,u2,hw2,ver2,hs2,hS⟩:=f.ex E.length id (hE _ _ (by simp))
    rw[hs0] at hs2;cases hs2
    obtain⟨h1,k3,es3,u3,hw3,ver3,hs3,_,h3⟩:=hv
    rw[hs0] at hs3;cases hs3
    simp only[impv,impc,if_true,Uax]
    refine⟨h1,_,_,_,_,_,hS,Ual _,fun _=>?_⟩
    rw[hG]
    exact h3 rfl
  ·rename_i hid
   rw[hll] at hid
   have hsome:(st0.sto id).isSome=true:=by
    obtain⟨_,k3,es3,u3,hw3,ver3,hs3,_⟩:=hv
    rw[hs3];rfl
   exact plain _ he rfl (hout id hsome hid) hv
 ·rename_i es
  split at he
  ·rename_i k1
   refine⟨_,_,T,[none],_,he,xs.hnil,fun i h=>h,trivial,⟨_,[],rfl,⟨_,rfl⟩,rfl⟩,rfl,fun T2 E2 G' S' hT hE f=>?_⟩
   obtain⟨hG,k2,hS⟩:=f.nil E.length (hE _ _ (by simp))
   obtain⟨⟨ad,rfl⟩,_⟩:=hv
   simp only[impv,impc,if_true,Uax,List.length_nil]
   refine⟨⟨ad,0,rfl,Ual _⟩,_,_,_,_,_,hS,Ual _,fun _=>?_⟩
   refine⟨[],k2,ad,0,rfl,fun _=>rfl,fun e he=>(by simp at he),rfl,Ual _,fun m hm=>(by cases hm),fun _ _=>?_,.inl rfl⟩
   rw[hG];rfl
  ·exact plain _ he rfl trivial hv.2
 ·rename_i id o
  obtain⟨h1,h2⟩:=he
  rw[hll] at h1
  have hsome:(st0.sto id).isSome=true:=by
   obtain⟨cells,b,c,hs,_⟩:=hv
   rw[hs];rfl
  exact plain _ h2 rfl (hout id hsome h1) hv
 ·exact he.elim
 ·exact he.elim
 ·exact he.elim
 ·exact he.elim
 ·exact he.elim
 ·exact he.elim
 ·rename_i f c
  obtain⟨h1,h2⟩:=he
  rw[hll] at h1
  exact plain _ h2 rfl h1 hv
 ·cases x with
  | un=>exact plain _ he rfl trivial hv
  | tr t=>exact plain _ he rfl trivial hv
  | er=>exact plain _ he rfl trivial hv
  | hd id p off len cap s=>exact(‹∀(id:Zd) (p:Zk) (off len:Nat) (cap:Option Nat) (s:Nat),IV.hd _ _ _ _ _ _=IV.hd id p off len cap s->False› id p off len cap s rfl).elim
  | cs es=>exact(‹∀(es:Row),IV.cs _=IV.cs es->False› es rfl).elim
  | sv id=>exact(‹∀(id:Zd),IV.sv _=IV.sv id->False› id rfl).elim
  | ab id o=>exact(‹∀(id:Zd) (o:Nat),IV.ab _ _=IV.ab id o->False› id o rfl).elim
  | ae id p i f s=>exact(‹∀(id:Zd) (p:Zk) (i f s:Nat),IV.ae _ _ _ _ _=IV.ae id p i f s->False› id p i f s rfl).elim
  | ta c=>exact(‹∀(c:List Tr),IV.ta _=IV.ta c->False› c rfl).elim
  | ag l=>exact(‹∀(l:List IV),IV.ag _=IV.ag l->False› l rfl).elim
  | tu l=>exact(‹∀(l:List IV),IV.tu _=IV.tu l->False› l rfl).elim
  | ow k es u=>exact(‹∀(k:Nat) (es:Row) (u:Bool),IV.ow _ _ _=IV.ow k es u->False› k es u rfl).elim
  | fn f c=>exact(‹∀(f:FuncId) (c:List IV),IV.fn _ _=IV.fn f c->False› f c rfl).elim
end
variable [Tabs]
def CellsOk(F:Fr)(G:Gh)(st0:St)(w:World)(T:Zd->Prop)(E:List (Option Zd))(vs:List Value)(K:List IV->St->Prop):Prop :=
 ∃ ys st' T' e obs,K ys st'/\XS st0 st' T' (E++e)/\(∀ i,T i->T' i)/\Jn F.lvl ys/\OE st0 e obs/\(impvs true st0.lvl 0 E.length ys).2=obs/\ZrN G st0 w T' (E++e) E.length ys vs
section
variable {P:Program} {F:Fr} {G:Gh} {st0 st:St} {a:Act} {w:World} {T:Zd->Prop} {E:List (Option Zd)}
theorem CellsOk.nil{K:List IV->St->Prop}(x:XS st0 st T E)(hk:K [] st):CellsOk F G st0 w T E [] K :=
 ⟨[],st,T,[],[],hk,by simpa using x,fun _ h=>h,trivial,rfl,rfl,fun _ _ _ _ _ _ _=>rfl⟩
theorem CellsOk.cons{v:Value}{vs:List Value}{K:IV->St->Prop}{K2:List IV->St->Prop}(h:CellOk F G st0 w T E v K)(hr:∀ y st' T' E',K y st'->XS st0 st' T' E'->CellsOk F G st0 w T' E' vs (fun ys st'' => K2 (y::ys) st'')) :
  CellsOk F G st0 w T E (v::vs) K2:=by
 obtain⟨y,st1,T1,e1,obs1,hk,hx,ht,hlow,hoe,himp,hg⟩:=h
 obtain⟨ys,st2,T2,e2,obs2,hk2,hx2,ht2,hlow2,hoe2,himp2,hg2⟩:=hr y st1 T1 (E++e1) hk hx
 have hlen:(E++e1).length=E.length+(impv true st0.lvl 0 E.length y).2.length:=by rw[himp,ZeV hoe];simp
 rw[hlen] at himp2 hg2
 refine⟨y::ys,st2,T2,e1++e2,obs1++obs2,hk2,by rw[<-UaA];exact hx2,fun i h=>ht2 i (ht i h),⟨hlow,hlow2⟩,Zjo hoe hoe2,?_,fun T3 E3 G' S' hT hE f=>?_⟩
 ·simp only[impvs]
  rw[himp2,himp]
 ·simp only[impvs]
  rw[<-UaA] at hE
  refine⟨v,vs,rfl,hg T3 E3 G' S' (fun i h=>hT i (ht2 i h)) (fun j e he=>hE j e ?_) f,hg2 T3 E3 G' S' hT hE f⟩
  have:=(Uac.1 he).1
  rw[Uav this];exact he
theorem Zjq(h0:Sim F G st0 a w):∀(l:List IV) (ks:List Nat) (vs:List Value) (st:St) (T:Zd->Prop) (E:List (Option Zd)) (K:List IV->St->Prop),XS st0 st T E->Zo G st0.sto w l vs->Xa ks l st K->CellsOk F G st0 w T E vs K
 | [],ks,vs,st,T,E,K,hx,hv,he=>by
  rw[show vs=[] from hv]
  simp only[Xa] at he
  exact .nil hx he
 | x::r,ks,vs,st,T,E,K,hx,hv,he=>by
  obtain⟨v,vr,rfl,h1,h2⟩:=hv
  simp only[Xa] at he
  exact .cons (Zjp h0 hx h1 he) fun y st' T' E' hk hx' => Zjq h0 r ks.tail vr st' T' E' _ hx' h2 hk
theorem ZeW(h0:Sim F G st0 a w)(xs:XS st0 st T E){ks:List Nat}{x:IV}{v:Value}{K:IV->St->Prop}(hv:VR G st0.sto w x v)(he:Y2 ks x st K):CellOk F G st0 w T E v K:=by
 unfold Y2 at he
 split at he
 ·rename_i l
  obtain⟨vs,rfl,hv⟩:=hv
  obtain⟨ys,st2,T2,e2,obs2,hk2,hx2,ht2,hlow2,hoe2,himp2,hg2⟩:=Zjq h0 l ks vs st T E _ xs hv he
  refine⟨.ag ys,st2,T2,e2,obs2,hk2,hx2,ht2,by simpa only[men] using hlow2,hoe2,by simpa only[impv] using himp2,fun T3 E3 G' S' hT hE f=>?_⟩
  simp only[impv]
  exact⟨vs,rfl,hg2 T3 E3 G' S' hT hE f⟩
 ·exact Zjp h0 xs hv he
def Zak(a:Act):ResultVar->_root_.Go.Sem Value
 | .tmp t=>pure (a.tmps.getD t undef)
 | .cell b t=>do loadVar t (<- asAddr (a.tmps.getD b undef))
theorem ZrO(h0:Sim F G st0 a w)(xs:XS st0 st T E){r:RS}{rv:ResultVar}{K:IV->St->Prop}(hc:YU P [r] [rv]=true)(he:XM r st K):∃ v,(Zak a rv).run P w = .ok v w/\CellOk F G st0 w T E v K:=by
 have henv:∀ n,VR G st0.sto w (lk n st.env) (a.tmps.getD n undef):=fun n=>xs.kl.vr n G st0.sto w _ (h0.env n)
 cases r with
 | k n =>
  cases rv with
  | cell=>simp only[YU] at hc;cases hc
  | tmp m =>
   simp only[YU,Uag,beq_iff_eq] at hc
   obtain⟨rfl,_⟩:=hc
   simp only[XM] at he
   split at he <;> try contradiction
   rename_i es hl
   have hv:=henv n
   rw[hl] at hv
   exact⟨_,rfl,CellOk.plain (F:=F) h0.lvl.symm xs he rfl trivial hv⟩
 | t n ks =>
  cases rv with
  | cell=>simp only[YU] at hc;cases hc
  | tmp m =>
   simp only[YU,Uag,beq_iff_eq] at hc
   obtain⟨rfl,_⟩:=hc
   exact⟨_,rfl,ZeW h0 xs (henv n) he⟩
 | c n m ks =>
  cases rv with
  | tmp=>simp only[YU] at hc;cases hc
  | cell b t =>
   simp only[YU,Uag,beq_iff_eq] at hc
   obtain⟨⟨rfl,hsh⟩,_⟩:=hc
   simp only[XM] at he
   split at he <;> try contradiction
   rename_i id off hl
   have hv:=henv n
   rw[hl] at hv
   split at he <;> try contradiction
   rename_i cells hs
   obtain⟨_,_,ob0,hs0,hwk⟩:=xs.alive hs
   cases hwk with
   | bx cells0 _ _ hwv _ =>
    obtain⟨cells1,b1,c1,hs1,hg1,hv⟩:=hv
    obtain⟨b,c,vs,ty,hg,hh,hvs⟩:=h0.ok.obs id _ hs0
    rw[hg] at hg1;cases hg1
    have hvs:=hwv _ _ _ _ hvs
    have hcell:∀ j u,vs.toList[j]? = some u->w.cell? ⟨b1,j,none⟩=some u:=fun j u hu=>by
     rw[cell_of_row w b1 j vs ty (0,0) hh]
     simpa using hu
    have hrun:∀ u,(loadVar t ⟨b1,off,none⟩).run P w = .ok u w->(Zak a (.cell n t)).run P w = .ok u w:=fun u hu=>by
     simp only[Zak,hv,asAddr,Sem.run_bind,Sem.run_pure,Result.andThen_ok,hu]
    cases m with
    | none =>
     obtain⟨x,hx,_,he⟩:=he
     obtain⟨u,hu,hxu⟩:=Y3 hvs off x hx
     simp only[Vo,beq_iff_eq] at hsh
     exact⟨u,hrun u (Zh5 hsh (hcell off u hu)),ZeW h0 xs hxu he⟩
    | some m =>
     obtain⟨hle,he⟩:=he
     simp only[Vo,Uag,beq_iff_eq] at hsh
     have hlen:=YT hvs
     have hl2:((vs.toList.drop off).take m).length=m:=by rw[Uam,UaW,hlen];omega
     refine⟨.agg ((vs.toList.drop off).take m).toArray,hrun _ (Zd7 hsh.1 (by rw[hl2];exact hsh.2) (fun j u hu=>?_)),ZeW (x:=.ag ((cells.drop off).take m)) h0 xs ⟨_,rfl,DS (DR hvs off) m⟩ he⟩
     rw[YN]
     refine hcell _ _ ?_
     rw[UaB] at hu
     split at hu
     ·simpa using hu
     ·cases hu
theorem ZeX(h0:Sim F G st0 a w):∀(rs:List RS) (rvs:List ResultVar) (st:St) (T:Zd->Prop) (E:List (Option Zd)) (K:List IV->St->Prop),XS st0 st T E->YU P rs rvs=true->XN rs st K ->
  ∃ vs,(rvs.mapM (Zak a)).run P w = .ok vs w/\CellsOk F G st0 w T E vs K
 | [],rvs,st,T,E,K,hx,hc,he=>by
  cases rvs with
  | nil=>exact⟨[],rfl,.nil hx he⟩
  | cons=>simp only[YU] at hc;cases hc
 | r::rs,rvs,st,T,E,K,hx,hc,he=>by
  cases rvs with
  | nil=>simp only[YU] at hc;cases hc
  | cons rv rvs =>
   have hc1:YU P [r] [rv]=true/\YU P rs rvs=true:=by
    cases r <;> cases rv <;> simp_all [YU]
   simp only[XN] at he
   obtain⟨v,hv,hk⟩:=ZrO h0 hx hc1.1 he
   obtain⟨y,st1,T1,e1,obs1,hk1,hx1,ht1,hlow1,hoe1,himp1,hg1⟩:=hk
   obtain⟨vs,hvs,hk2⟩:=ZeX h0 rs rvs st1 T1 (E++e1) _ hx1 hc1.2 hk1
   refine⟨v::vs,?_,?_⟩
   ·rw[List.mapM_cons]
    simp only[Sem.run_bind,hv,Result.andThen_ok,hvs,Sem.run_pure]
   ·refine CellsOk.cons (K:=fun y' st' => y'=y/\st'=st1/\∀ T' E',XS st0 st' T' E'->CellsOk F G st0 w T' E' vs (fun ys st'' => K (y::ys) st'')) ?_ (fun y' st' T' E' hk' hx' => ?_)
    ·refine⟨y,st1,T1,e1,obs1,⟨rfl,rfl,fun T' E' hx' => ?_⟩,hx1,ht1,hlow1,hoe1,himp1,hg1⟩
     obtain⟨vs',hvs',hk3⟩:=ZeX h0 rs rvs st1 T' E' _ hx' hc1.2 hk1
     rw[hvs] at hvs'
     cases hvs'
     exact hk3
    ·obtain⟨rfl,rfl,hh⟩:=hk'
     exact hh T' E' hx'
theorem ZrP(h0:Sim F G st0 a w)(x:XS st0 st T E){obs:List Ob}(oe:OE st0 E obs){G':Gh}{S':Zc}(hG1:∀ i,i.1≠st0.lvl->G' i=G i)(hG2:∀(j:Nat) (id:Zd),E[j]? = some (some id)->G' (st0.lvl,j)=G id)
  (hG3:∀ j:Nat,E[j]? = some none->G' (st0.lvl,j)=fun _=>none) (hS1:∀ i,i.1≠st0.lvl->S' i=st0.sto i) (hS2:∀ j:Nat,S' (st0.lvl,j)=obs[j]?):FinS G st0 w T E G' S'/\SOk G' S' w/\∀(L n:Nat),L<=st0.lvl->Frm ⟨G,st0.sto,w,L,n⟩ G' S' w:=by
 have src:∀ i ob,S' i=some ob->(i.1≠st0.lvl/\st0.sto i=some ob)\/(∃ j id k es u hw ver,i=(st0.lvl,j)/\E[j]? = some (some id)/\st0.sto id=some (.ar k es u hw ver)/\ob = .ar k es u es.length 0) \/
   (∃ j k,i=(st0.lvl,j)/\E[j]? = some none/\ob = .ar k [] true 0 0):=fun i ob hs=>by
  by_cases hi:i.1=st0.lvl
  ·right
   obtain⟨i1,j⟩:=i
   have hi:i1=st0.lvl:=hi
   subst hi
   rw[hS2] at hs
   have hj:j<E.length:=by rw[<-ZeV oe];exact(Uac.1 hs).1
   obtain⟨e,he⟩:∃ e,E[j]? = some e:=⟨_,Uah hj⟩
   obtain⟨ob',h1,h2⟩:=ZbY oe j e he
   rw[hs] at h1;cases h1
   cases e with
   | some id =>
    obtain⟨k,es,u,hw,ver,h3,h4⟩:=h2
    exact .inl ⟨j,id,k,es,u,hw,ver,rfl,he,h3,h4⟩
   | none =>
    obtain⟨k,h4⟩:=h2
    exact .inr ⟨j,k,rfl,he,h4⟩
  ·exact .inl ⟨hi,by rw[<-hS1 i hi];exact hs⟩
 have hdead:∀ i,T i\/some i∈E->i.1=st0.lvl:=x.kl.dead
 have osrc:∀ i ob b,S' i=some ob->ZL G' i ob b->∃ i0 ob0,st0.sto i0=some ob0/\ZL G i0 ob0 b/\¬ T i0/\((i.1≠st0.lvl/\i0=i)\/∃ j,i=(st0.lvl,j)/\E[j]? = some (some i0)):=fun i ob b hs ho=>by
  rcases src i ob hs with ⟨hi,h1⟩ | ⟨j,id,k,es,u,hw,ver,rfl,he,h3,rfl⟩ | ⟨j,k,rfl,he,rfl⟩
  ·exact⟨i,ob,h1,(WA (hG1 i hi)).1 ho,fun ht=>hi (hdead i (.inl ht)),.inl ⟨hi,rfl⟩⟩
  ·refine⟨id,_,h3,?_,x.dj id (Uae he),.inr ⟨j,rfl,he⟩⟩
   obtain⟨p,c,h4,h5,h6⟩:=ho
   rw[hG2 j id he] at h6
   exact⟨p,c,h4,h5,h6⟩
  ·obtain⟨p,c,h4,h5,h6⟩:=ho
   rw[hG3 j he] at h6
   cases h6
 have fs:FinS G st0 w T E G' S':=by
  refine⟨fun i ob hi hs=>⟨by rw[hS1 i hi];exact hs,hG1 i hi⟩,fun b hb hT=>⟨hb,fun i ob hs ho=>?_⟩,fun j id he=>⟨hG2 j id he,?_⟩,fun j he=>⟨hG3 j he,?_⟩⟩
  ·obtain⟨i0,ob0,h1,h2,h3,_⟩:=osrc i ob b hs ho
   exact h3 (hT i0 ob0 h1 h2)
  ·obtain⟨ob,h1,k,es,u,hw,ver,h2,rfl⟩:=ZbY oe j _ he
   exact⟨k,es,u,hw,ver,h2,by rw[hS2];exact h1⟩
  ·obtain⟨ob,h1,k,rfl⟩:=ZbY oe j _ he
   exact⟨k,by rw[hS2];exact h1⟩
 have hlows:∀ i cells,i.1≠st0.lvl->st0.sto i=some (.bx cells)->Za (fun j=>j.1≠st0.lvl) cells:=fun i cells hi hs=>by
  have h1:=h0.ok.low i cells hs
  rw[YW hi] at hs
  have h2:=h0.outl i _ hs
  refine JN (fun j hj=>?_) cells h1
  have hj:j.1<i.1+1:=hj
  omega
 refine⟨fs,⟨fun i ob hs=>?_,fun i ob i' ob' b hs hs' ho ho' => ?_,fun i cells hs=>?_⟩,fun L n hL=>⟨Ual _,fun _ _ _=>rfl,fun i ob b hs ho=>?_,rfl,rfl,rfl,fun y v hy hv=>?_⟩⟩
 ·rcases src i ob hs with ⟨hi,h1⟩ | ⟨j,id,k,es,u,hw,ver,rfl,he,h3,rfl⟩ | ⟨j,k,rfl,he,rfl⟩
  ·exact UG (hG1 i hi) fs.mono (fun _ _=>rfl) (fun _ _=>rfl) (fun cells vs e hv=>fs.vrs cells vs (hlows i cells hi (by rw[h1,e])) hv) (h0.ok.obs i ob h1)
  ·obtain⟨g1,g2,g3,g4,g5⟩:=h0.ok.obs id _ h3
   have hG:=hG2 j id he
   refine⟨Ual _,g2,by rw[hG];omega,fun p es' hp hg=>Zbz hG fs.mono (g4 p es' hp hg),by rw[hG];exact g5⟩
  ·have hG:=hG3 j he
   refine⟨Ual _,fun e he=>(by cases he),Ubi _,fun p es' hp hg=>?_,fun p p' b c c' _ _ _ _ h=>(by rw[hG] at h;cases h)⟩
   unfold Z3
   rw[hG]
   dsimp only
   cases p with
   | nil=>simp only[getp,Uat] at hg;exact hg.symm
   | cons q p=>obtain⟨a,b⟩:=q;simp [getp] at hg
 ·obtain⟨i0,ob0,h1,h2,_,h3⟩:=osrc i ob b hs ho
  obtain⟨j0,ob1,g1,g2,_,g3⟩:=osrc i' ob' b hs' ho'
  have he:=h0.ok.dis _ _ _ _ b h1 g1 h2 g2
  subst he
  rcases h3 with ⟨n1,rfl⟩ | ⟨a1,rfl,e1⟩ <;> rcases g3 with ⟨n2,e2⟩ | ⟨a2,rfl,e2⟩
  ·exact e2
  ·exact absurd (hdead _ (.inr (Uae e2))) n1
  ·subst e2;exact absurd (hdead _ (.inr (Uae e1))) n2
  ·rw[x.nd a1 a2 i0 e1 e2]
 ·rcases src i _ hs with ⟨hi,h1⟩ | ⟨j,id,k,es,u,hw,ver,rfl,he,h3,h4⟩ | ⟨j,k,rfl,he,h4⟩
  ·exact h0.ok.low i cells h1
  ·cases h4
  ·cases h4
 ·obtain⟨i0,ob0,h1,h2,_⟩:=osrc i ob b hs ho
  exact .inr ⟨i0,ob0,h1,h2⟩
 ·refine fs.vr y v (J5 (fun j hj=>?_) y hy) hv
  have hj:j.1<L:=hj
  omega
theorem Zjr(imp:Bool)(l b:Nat):∀(r:List IV) (j:Nat),(impvs imp l b j r).1.length=r.length
 | [],_=>rfl
 | x::r,j=>by simp only[impvs,List.length_cons,Zjr imp l b r]
theorem Zjs(h0:Sim F G st0 a w){fn:Func}{rs:List RS}{K:IV->Zc->Prop}(hc:YU P rs fn.results.toList=true)(he:Ja rs st0 K) :
  ∃ v r S' G',(results fn a.tmps).run P w = .ok v w/\K r S'/\low F.lvl r/\(∀ id ob,S' id=some ob->id.1<F.lvl)/\SOk G' (ZQ S' F.lvl 0 (impv true F.lvl 0 0 r).2) w/\VR G' (ZQ S' F.lvl 0 (impv true F.lvl 0 0 r).2) w (impv true F.lvl 0 0 r).1 v /\
   Frm ⟨F.G,F.S,F.w,F.lvl,0⟩ G' (ZQ S' F.lvl 0 (impv true F.lvl 0 0 r).2) w:=by
 obtain⟨vs,hrun,ys,st',T,e,obs,hk,hx,_,hlow,hoe,himp,hg⟩:=ZeX h0 rs fn.results.toList st0 (fun _=>False) [] _ (XS.nil st0) hc he
 simp only[List.nil_append] at hx hg
 have hlv:F.lvl=st0.lvl:=h0.lvl.symm
 have hout:st'.out=st0.out:=hx.kl.out
 have hfresh:YV st0.out st0.lvl 0 obs.length:=fun j _=>by
  cases h:st0.out (st0.lvl,0+j) with
  | none=>rfl
  | some ob=>have:=h0.outl _ ob h;simp at this
 let G':Gh:=fun i=>if i.1=st0.lvl then (match e[i.2]? with | some (some id)=>G id | _=>fun _=>none) else G i
 have hS1:∀ i,i.1≠st0.lvl->ZQ st0.out st0.lvl 0 obs i=st0.sto i:=fun i hi=>by
  rw[YW hi]
  cases h:st0.out i with
  | some ob=>exact W6 obs _ _ _ hfresh i ob h
  | none =>
   cases h2:ZQ st0.out st0.lvl 0 obs i with
   | none=>rfl
   | some ob =>
    rcases Xe obs _ _ _ i ob h2 with g | ⟨j,_,rfl,_⟩
    ·rw[h] at g;cases g
    ·exact absurd rfl hi
 have hS2:∀ j:Nat,ZQ st0.out st0.lvl 0 obs (st0.lvl,j)=obs[j]?:=fun j=>by
  cases h:obs[j]? with
  | some ob=>have:=Xf obs st0.out st0.lvl 0 j ob h;rwa [Uax] at this
  | none =>
   cases h2:ZQ st0.out st0.lvl 0 obs (st0.lvl,j) with
   | none=>rfl
   | some ob =>
    rcases Xe obs _ _ _ _ ob h2 with g | ⟨j',_,g1,g2⟩
    ·have:=h0.outl _ ob g;simp at this
    ·simp at g1;subst g1;rw[h] at g2;cases g2
 obtain⟨fs,hok,hfr⟩:=ZrP (G':=G') (S':=ZQ st0.out st0.lvl 0 obs) h0 hx hoe (fun i hi=>by simp only[G'];rw[if_neg hi]) (fun j id hj=>by simp only[G',if_true,hj]) (fun j hj=>by simp only[G',if_true,hj]) hS1 hS2
 have hvr:=hg T e G' _ (fun _ h=>h) (fun _ _ h=>h) fs
 have hfrm:Frm ⟨F.G,F.S,F.w,F.lvl,0⟩ G' (ZQ st0.out st0.lvl 0 obs) w:=by
  have h1:Frm ⟨F.G,F.S,F.w,F.lvl,0⟩ G st0.sto w:=⟨h0.fr.size,h0.fr.old,h0.fr.own,h0.fr.os,h0.fr.tape,h0.fr.output,h0.fr.stab⟩
  exact h1.trans (hfr F.lvl 0 (Ucc hlv)) (Ual _)
 have hcl:∀ id ob,st0.out id=some ob->id.1<F.lvl:=fun id ob hs=>by rw[hlv];exact h0.outl id ob hs
 have hres:∀ v,(if h:vs.toArray.size=1 then vs.toArray[0] else Value.tuple vs.toArray)=v->(results fn a.tmps).run P w = .ok v w:=fun v hv=>by
  have:(results fn a.tmps)=(do let vs <- fn.results.mapM (Zak a);pure (if h:vs.size=1 then vs[0] else .tuple vs)):=by
   unfold results
   congr 1
  rw[this,Array.mapM_eq_mapM_toList]
  simp only[Sem.run_bind,Sem.run_map,hrun,Result.andThen_ok,Sem.run_pure]
  rw[<-hv]
 have hlen:=YT hvr
 rw[Zjr] at hlen
 rw[hout] at hk
 rw[hlv] at hlow ⊢
 rw[hlv] at hfrm
 cases ys with
 | nil =>
  have hvs:vs=[]:=UaG (by simpa using hlen)
  subst hvs
  have hobs:obs=[]:=by rw[<-himp];rfl
  subst hobs
  exact⟨.tuple #[],.tu [],st0.out,G',hres _ (by simp),hk,trivial,fun id ob h=>hlv ▸ hcl id ob h,hok,⟨[],rfl,rfl⟩,hfrm⟩
 | cons y r =>
  cases r with
  | nil =>
   obtain⟨v,vr,rfl,h1,h2⟩:=hvr
   rw[show vr=[] from h2] at hres
   have hobs:(impv true st0.lvl 0 0 y).2=obs:=by
    rw[<-himp];simp [impvs]
   refine⟨v,y,st0.out,G',hres v (by simp),hk,hlow.1,fun id ob h=>hlv ▸ hcl id ob h,?_,?_,?_⟩
   ·rw[hobs];exact hok
   ·rw[hobs];exact h1
   ·rw[hobs];exact hfrm
  | cons z r =>
   have hobs:(impv true st0.lvl 0 0 (.tu (y::z::r))).2=obs:=by
    rw[<-himp];simp only[impv];rfl
   refine⟨.tuple vs.toArray,.tu (y::z::r),st0.out,G',hres _ ?_,hk,by simpa only[men] using hlow,fun id ob h=>hlv ▸ hcl id ob h,?_,?_,?_⟩
   ·rw[dif_neg]
    simp at hlen ⊢
    omega
   ·rw[hobs];exact hok
   ·rw[hobs]
    simp only[impv]
    exact⟨vs,rfl,hvr⟩
   ·rw[hobs];exact hfrm
theorem ZrQ{f:FuncId}{fn:Func}{c:Code}{f2:F2}{lvl:Nat}{args:List IV}{S:Zc}{r:IV}{S':Zc}(hf:P.funcs[f]? = some fn)(hb:fn.body=some c) (hname:(fn.name == "runtime.NumGoroutine")=false)
  (hnt:fn.ntmps=f2.nt) (hc:J2 P f2.nt f2.body c=true) (hr:YU P f2.res fn.results.toList=true) (hlow:low lvl r)
  (h:wpF (Sem P) f2 lvl args S (fun r' S2=>r'=r/\S2=S')):Sem P f lvl args S r S':=by
 refine⟨hlow,⟨fn,hf,by rw[hb];rfl,hname⟩,fun hcl G w vs hok hvs hfx=>?_⟩
 obtain⟨hlen,h⟩:=h
 have hvl:=YT hvs
 refine calls_of_wp hf hb ?_
 have hsim:Sim ⟨G,S,w,lvl,f2.nt⟩ G ⟨lvl,params 0 args,[],S⟩ { tmps:=vs.toArray++Array.replicate (fn.ntmps-vs.toArray.size) undef,defers:=[] } w:=by
  have hsto:(⟨lvl,params 0 args,[],S⟩:St).sto=S:=by
   funext id
   unfold St.sto Zy
   split
   ·rename_i hi
    simp only[lkO]
    cases hs:S id with
    | none=>rfl
    | some ob=>have h1:=hcl id ob hs;have hi:id.1=lvl:=hi;omega
   ·rfl
  refine⟨rfl,by simp [hnt,hvl];omega,fun t=>?_,by rw[hsto];exact hok,rfl,hcl,by rw[hsto];exact⟨Ual _,fun _ _ _=>rfl,fun i ob b hs ho=>.inr ⟨i,ob,hs,ho⟩,rfl,rfl,rfl,fun _ _ _ h=>h⟩,hfx⟩
  rw[hsto]
  show VR G S w (lk t (params 0 args)) _
  rw[ZhV t args 0 (Ubi _),Nat.sub_zero]
  cases ha:args[t]? with
  | none=>exact trivial
  | some x =>
   obtain⟨v,hv,hx⟩:=Y3 hvs t x ha
   have ht:t<vs.length:=(Uac.1 hv).1
   simp only[Option.getD_some]
   have:((vs.toArray++Array.replicate (fn.ntmps-vs.toArray.size) undef).getD t undef)=v:=by
    rw[UaP,UaM (by simpa using ht)]
    simp [hv]
   rw[this]
   exact hx
 refine ZrL f2.body c _ _ _ G _ w hc h hsim (fun ex st' G1 a' w' hk hs=>?_)
 cases ex with
 | ext i=>exact hk.elim
 | nrm =>
  obtain⟨v,r',S2,G2,h1,⟨rfl,rfl⟩,h2,h3,h4,h5,h6⟩:=Zjs hs hr hk
  exact⟨hs.dfr,v,h1,v,G2,rfl,h4,h5,h3,h6⟩
 | ret =>
  obtain⟨v,r',S2,G2,h1,⟨rfl,rfl⟩,h2,h3,h4,h5,h6⟩:=Zjs hs hr hk
  exact⟨hs.dfr,v,h1,v,G2,rfl,h4,h5,h3,h6⟩
end
end Go.Fd

namespace Go.Fd
variable [Tabs]
def Zj(P:Program)(f:FuncId)(f2:F2):Bool :=
 match P.funcs[f]? with
 | some fn =>
  match fn.body with
  | some c=>!(fn.name == "runtime.NumGoroutine")&&fn.ntmps == f2.nt&&J2 P f2.nt f2.body c&&YU P f2.res fn.results.toList
  | none=>false
 | none=>false
theorem Zi{P:Program}{f:FuncId}{f2:F2}{lvl:Nat}{args:List IV}{S:Zc}{r:IV}{S':Zc}(hc:Zj P f f2=true)(hlow:low lvl r)
  (h:wpF (Sem P) f2 lvl args S (fun r' S2=>r'=r/\S2=S')):Sem P f lvl args S r S':=by
 unfold Zj at hc
 split at hc <;> try contradiction
 rename_i fn hf
 split at hc <;> try contradiction
 rename_i c hb
 simp only[Uag,UaR,beq_iff_eq] at hc
 exact ZrQ hf hb hc.1.1.1 hc.1.1.2 hc.1.2 hc.2 hlow h
end Go.Fd

namespace Go.Fd
section
variable {C:ZK} {lvl:Nat} {env:List (Nat×IV)} {loc:List (Nat×Ob)} {out:Zc} {d:Option Nat} {K:St->Prop} {st:St} {Q:Ex->St->Prop}
def Zjt(C:ZK)(l:List OP)(K:St->Prop):St->Prop:=fun st=>Vc C l st K
theorem ZrR{o:OP}{l:List OP}:Vc C (o::l) st K=YE C o st (Zjt C l K):=(rfl)
theorem ZrS:Vc C [] st K=K st:=(rfl)
theorem ZrT{l:List OP}:Zjt C l K st=Vc C l st K:=(rfl)
def ZbZ(C:ZK)(b:C2)(Q:Ex->St->Prop):Ex->St->Prop:=fun e st=>match e with | .nrm=>wp C b st Q | e=>Q e st
def Zb0(i:Nat)(Q:Ex->St->Prop):Ex->St->Prop:=fun e st=>match e with | .ext j=>if j=i then Q .nrm st else Q (.ext j) st | e=>Q e st
def kfn(rs:List RS)(K:IV->Zc->Prop):Ex->St->Prop:=fun e st=>match e with | .ext _=>False | _=>Ja rs st K
theorem ZrU{b:C2}:ZbZ C b Q .nrm st=wp C b st Q:=(rfl)
theorem ZrV{b:C2}{i:Nat}:ZbZ C b Q (.ext i) st=Q (.ext i) st:=(rfl)
theorem ZrW{b:C2}:ZbZ C b Q .ret st=Q .ret st:=(rfl)
theorem ZrX{i:Nat}:Zb0 i Q .nrm st=Q .nrm st:=(rfl)
theorem ZrY{i j:Nat}:Zb0 i Q (.ext j) st=if j=i then Q .nrm st else Q (.ext j) st:=(rfl)
theorem ZrZ{i:Nat}:Zb0 i Q .ret st=Q .ret st:=(rfl)
theorem Zr0{rs:List RS}{K:IV->Zc->Prop}:kfn rs K .nrm st=Ja rs st K:=(rfl)
theorem Zr1{rs:List RS}{K:IV->Zc->Prop}:kfn rs K .ret st=Ja rs st K:=(rfl)
theorem Zr2{rs:List RS}{K:IV->Zc->Prop}{i:Nat}:kfn rs K (.ext i) st=False:=(rfl)
theorem Zr3:wp C .sk st Q=Q .nrm st:=(rfl)
theorem Zr4{n:Option Nat}{ops:List OP}:wp C (.rg n ops) st Q=Vc C ops st (Q .nrm):=(rfl)
theorem Zr5{a b:C2}:wp C (.sq a b) st Q=wp C a st (ZbZ C b Q):=(rfl)
theorem Zr6{i:Nat}{c:C2}:wp C (.bl i c) st Q=wp C c st (Zb0 i Q):=(rfl)
theorem Zr7{i:Nat}:wp C (.ex i) st Q=Q (.ext i) st:=(rfl)
theorem Zr8:wp C .rt st Q=Q .ret st:=(rfl)
theorem Zr9{ks js:List Nat}{c:C2}:wp C (.fg ks js c) st Q=(clean ks js st/\wp C c (fgt ks js st) Q):=(rfl)
def cd2(C:ZK)(v:IV)(a b:C2)(st:St)(Q:Ex->St->Prop):Prop :=
 match v with
 | .tr (.v (.bool t))=>if t=true then wp C a st Q else wp C b st Q
 | _=>False
theorem Zsa{c:X}{a b:C2}:wp C (.cd c a b) ⟨lvl,env,loc,out⟩ Q=cd2 C (xv env c) a b ⟨lvl,env,loc,out⟩ Q:=by
 simp only[wp]
 generalize xv env c=v
 cases v <;> try rfl
 rename_i t
 cases t <;> try rfl
 rename_i x
 cases x <;> try rfl
 rename_i t
 cases t <;> simp [cd2]
theorem Zsb{t:Bool}{a b:C2}:cd2 C (.tr (.v (.bool t))) a b st Q=if t=true then wp C a st Q else wp C b st Q:=(rfl)
theorem Zsc{f:F2}{args:List IV}{K:IV->Zc->Prop}:wpF C f lvl args out K=(args.length<=f.nt/\wp C f.body ⟨lvl,params 0 args,[],out⟩ (kfn f.res K)):=(rfl)
def gd(C:ZK)(v:IV)(w:Bool)(j:Nat)(d:Option Nat)(o:O)(lvl:Nat)(env:List (Nat×IV))(loc:List (Nat×Ob))(out:Zc)(K:St->Prop):Prop :=
 match v with
 | .tr (.v (.bool c))=>if c=w then ZA C d o ⟨lvl,pt j (iB w) env,loc,out⟩ K else K ⟨lvl,ptd d (.tu []) (pt j (iB !w) env),loc,out⟩
 | .tu []=>K ⟨lvl,ptd d (.tu []) env,loc,out⟩
 | _=>False
theorem Zsd{o:O}:YE C ⟨d,none,o⟩ st K=ZA C d o st K:=(rfl)
theorem Zse{o:O}{j:Nat}{w:Bool}:YE C ⟨d,some (j,w),o⟩ ⟨lvl,env,loc,out⟩ K=gd C (lk j env) w j d o lvl env loc out K:=by
 simp only[YE]
 generalize lk j env=v
 cases v with
 | tr t =>
  cases t with
  | v x =>
   cases x <;> try rfl
   rename_i c
   cases c <;> cases w <;> simp [gd]
  | sl=>rfl
 | tu l=>cases l <;> rfl
 | _=>rfl
theorem Zsf{c w:Bool}{j:Nat}{o:O}:gd C (.tr (.v (.bool c))) w j d o lvl env loc out K=if c=w then ZA C d o ⟨lvl,pt j (iB w) env,loc,out⟩ K else K ⟨lvl,ptd d (.tu []) (pt j (iB !w) env),loc,out⟩:=(rfl)
theorem Zsg{w:Bool}{j:Nat}{o:O}:gd C (.tu []) w j d o lvl env loc out K=K ⟨lvl,ptd d (.tu []) env,loc,out⟩:=(rfl)
theorem Yc{o:O}(h:JM o=false):ZA C d o ⟨lvl,env,loc,out⟩ K=ev C (xv env) (Zy lvl loc out) (fun mk obs=>freshK (keyOf d) loc (obs lvl (keyOf d)).length/\K ⟨lvl,ptd d (mk lvl (keyOf d)) env,addO (keyOf d) (obs lvl (keyOf d)) loc,out⟩) o:=by
 unfold ZA
 rw[if_neg (by simp [h])]
 rfl
theorem Zju{o:O}(h:JM o=false){y:IV}(he:∀ Kd:Ya,ev C (xv env) (Zy lvl loc out) Kd o=ZE Kd y):ZA C d o ⟨lvl,env,loc,out⟩ K=K ⟨lvl,ptd d y env,loc,out⟩:=by
 exact(Yc h).trans ((he _).trans (by simp [ZE,freshK,addO]))
def J6(lvl:Nat)(env:List (Nat×IV))(loc:List (Nat×Ob))(out:Zc)(d:Option Nat)(K:St->Prop)(y:IV):Prop:=K ⟨lvl,ptd d y env,loc,out⟩
theorem Zsh{y:IV}:J6 lvl env loc out d K y=K ⟨lvl,ptd d y env,loc,out⟩:=(rfl)
theorem Yw{o:O}(h:JM o=false){T:(IV->Prop)->Prop}(he:∀ Kd:Ya,ev C (xv env) (Zy lvl loc out) Kd o=T (fun y=>ZE Kd y)):ZA C d o ⟨lvl,env,loc,out⟩ K=T (J6 lvl env loc out d K):=by
 exact(Yc h).trans ((he _).trans (congrArg T (funext fun y=>by simp [ZE,freshK,addO,J6])))
theorem Zsi{x:X}:ZA C d (.mv x none) ⟨lvl,env,loc,out⟩ K=K ⟨lvl,ptd d (xv env x) env,loc,out⟩:=Zju rfl fun _=>rfl
def mvn(v:IV)(k lvl:Nat)(env:List (Nat×IV))(loc:List (Nat×Ob))(out:Zc)(d:Option Nat)(K:St->Prop):Prop :=
 match v with
 | .cs []=>freshK (keyOf d) loc 1/\K ⟨lvl,ptd d (.hd (lvl,keyOf d) [] 0 0 none 0) env,ptO (keyOf d) (.ar k [] true 0 0) loc,out⟩
 | _=>False
theorem Zsj{x:X}{k:Nat}:ZA C d (.mv x (some k)) ⟨lvl,env,loc,out⟩ K=mvn (xv env x) k lvl env loc out d K:=by
 rw[Yc rfl]
 simp only[ev]
 generalize xv env x=v
 cases v <;> try rfl
theorem Zsk{k:Nat}:mvn (.cs []) k lvl env loc out d K=(freshK (keyOf d) loc 1/\K ⟨lvl,ptd d (.hd (lvl,keyOf d) [] 0 0 none 0) env,ptO (keyOf d) (.ar k [] true 0 0) loc,out⟩):=(rfl)
def bxf(v:Option (List IV))(lvl:Nat)(env:List (Nat×IV))(loc:List (Nat×Ob))(out:Zc)(d:Option Nat)(K:St->Prop):Prop :=
 match v with
 | some c=>freshK (keyOf d) loc 1/\K ⟨lvl,ptd d (.ab (lvl,keyOf d) 0) env,ptO (keyOf d) (.bx c) loc,out⟩
 | none=>False
theorem Zsl{x:X}:ZA C d (.bx x) ⟨lvl,env,loc,out⟩ K=bxf (cellsOf (xv env x)) lvl env loc out d K:=by
 rw[Yc rfl]
 simp only[ev]
 generalize cellsOf (xv env x)=v
 cases v <;> rfl
theorem Zsm{c:List IV}:bxf (some c) lvl env loc out d K=(freshK (keyOf d) loc 1/\K ⟨lvl,ptd d (.ab (lvl,keyOf d) 0) env,ptO (keyOf d) (.bx c) loc,out⟩):=(rfl)
def bvf(v:Option (List IV))(k lvl:Nat)(env:List (Nat×IV))(loc:List (Nat×Ob))(out:Zc)(d:Option Nat)(K:St->Prop):Prop :=
 match v with
 | some c=>c.length=k/\freshK (keyOf d) loc 1/\K ⟨lvl,ptd d (.sv (lvl,keyOf d)) env,ptO (keyOf d) (.bx c) loc,out⟩
 | none=>False
theorem Zsn{k n:Nat}{z:List Value}{x:X}:ZA C d (.bv k n z [(0,x)]) ⟨lvl,env,loc,out⟩ K=(n=1/\bvf (cellsOf (xv env x)) k lvl env loc out d K):=by
 rw[Yc rfl]
 simp only[ev]
 generalize cellsOf (xv env x)=v
 cases v <;> rfl
theorem Zso{c:List IV}{k:Nat}:bvf (some c) k lvl env loc out d K=(c.length=k/\freshK (keyOf d) loc 1/\K ⟨lvl,ptd d (.sv (lvl,keyOf d)) env,ptO (keyOf d) (.bx c) loc,out⟩):=(rfl)
def tocs(v:IV):Option (List Tr×Bool) :=
 match cellsOf v with
 | some c=>totrs c
 | none=>none
def btf(v:Option (List Tr×Bool))(lvl:Nat)(env:List (Nat×IV))(loc:List (Nat×Ob))(out:Zc)(d:Option Nat)(K:St->Prop):Prop :=
 match v with
 | some (ts,_)=>K ⟨lvl,ptd d (.ta ts) env,loc,out⟩
 | none=>False
theorem Zsp{x:X}:ZA C d (.bt x) ⟨lvl,env,loc,out⟩ K=btf (tocs (xv env x)) lvl env loc out d K:=by
 rw[Yc rfl]
 simp only[ev,tocs]
 generalize cellsOf (xv env x)=v
 cases v with
 | none=>rfl
 | some c =>
  dsimp only
  generalize totrs c=u
  cases u with
  | none=>rfl
  | some p=>obtain⟨ts,q⟩:=p;simp [btf,ZE,freshK,addO]
theorem Zsq{ts:List Tr}{q:Bool}:btf (some (ts,q)) lvl env loc out d K=K ⟨lvl,ptd d (.ta ts) env,loc,out⟩:=(rfl)
theorem Zsr{z:List Value}{nz:List (Nat×Nat)}:ZA C d (.al z nz) ⟨lvl,env,loc,out⟩ K=(freshK (keyOf d) loc (1+nz.length)/\K ⟨lvl,ptd d (.ab (lvl,keyOf d) 0) env,ptO (keyOf d) (.bx (zfill lvl (keyOf d+1) nz (z.map kc))) loc |> addO (keyOf d+1) (zobs nz),out⟩):=by
 rw[Yc rfl]
 simp only[ev,List.length_cons,addO,zobs,Uaa]
 rw[UbC]
theorem Zss{z:List Value}{ps:List (Nat×Nat×X)}{nz:List (Nat×Nat)}:ZA C d (.bd z ps nz) ⟨lvl,env,loc,out⟩ K=(okp (xv env) z.length ps/\freshK (keyOf d) loc nz.length/\K ⟨lvl,ptd d (.ag (fpart (xv env) ps (zfill lvl (keyOf d) nz (z.map kc)))) env,addO (keyOf d) (zobs nz) loc,out⟩):=by
 rw[Yc rfl]
 simp only[ev,zobs,Uaa]
def Zjv(k n lvl:Nat)(env:List (Nat×IV))(loc:List (Nat×Ob))(out:Zc)(d:Option Nat)(K:St->Prop):Row->Bool->Prop:=fun es u =>
 freshK (keyOf d) loc 1/\K ⟨lvl,ptd d (.hd (lvl,keyOf d) [] 0 n none n) env,ptO (keyOf d) (.ar k es u n 0) loc,out⟩
def fl2(v:Option (List Tr×Bool))(ρ:X->IV)(i k:Nat)(r:List (Nat×X))(es:Row)(u:Bool)(F:Row->Bool->Prop):Prop :=
 match v with
 | some (ts,a)=>ts.length=k/\i<es.length/\Vm ρ k r (es.set i ts) (u&&a) F
 | none=>False
theorem Zst{k n:Nat}{z:List Value}{ps:List (Nat×X)}:ZA C d (.bs k n z ps) ⟨lvl,env,loc,out⟩ K=Vm (xv env) k ps (List.replicate n (z.map trv)) true (Zjv k n lvl env loc out d K):=by
 rw[Yc rfl]
 rfl
theorem Zsu{ρ:X->IV}{k:Nat}{es:Row}{u:Bool}{F:Row->Bool->Prop}:Vm ρ k [] es u F=F es u:=(rfl)
theorem Zsv{ρ:X->IV}{k i:Nat}{x:X}{r:List (Nat×X)}{es:Row}{u:Bool}{F:Row->Bool->Prop}:Vm ρ k ((i,x)::r) es u F=fl2 (tocs (ρ x)) ρ i k r es u F:=by
 simp only[Vm,tocs]
 generalize cellsOf (ρ x)=v
 cases v with
 | none=>rfl
 | some c =>
  dsimp only
  generalize totrs c=u
  cases u with
  | none=>rfl
  | some p=>rfl
theorem Zsw{ts:List Tr}{a:Bool}{ρ:X->IV}{k i:Nat}{r:List (Nat×X)}{es:Row}{u:Bool}{F:Row->Bool->Prop}:fl2 (some (ts,a)) ρ i k r es u F=(ts.length=k/\i<es.length/\Vm ρ k r (es.set i ts) (u&&a) F):=(rfl)
theorem Zsx{k n:Nat}{es:Row}{u:Bool}:Zjv k n lvl env loc out d K es u=(freshK (keyOf d) loc 1/\K ⟨lvl,ptd d (.hd (lvl,keyOf d) [] 0 n none n) env,ptO (keyOf d) (.ar k es u n 0) loc,out⟩):=(rfl)
def msf(v:IV)(k:Nat)(z:List Value)(lvl:Nat)(env:List (Nat×IV))(loc:List (Nat×Ob))(out:Zc)(d:Option Nat)(K:St->Prop):Prop :=
 match v with
 | .tr (.v (.int .i64 n))=>0<=n/\n<=bigN/\freshK (keyOf d) loc 1/\K ⟨lvl,ptd d (.hd (lvl,keyOf d) [] 0 n.toNat none n.toNat) env,ptO (keyOf d) (.ar k (List.replicate n.toNat (z.map trv)) true n.toNat 0) loc,out⟩
 | _=>False
theorem Zsy{k:Nat}{z:List Value}{x:X}:ZA C d (.ms k z x) ⟨lvl,env,loc,out⟩ K=msf (xv env x) k z lvl env loc out d K:=by
 rw[Yc rfl]
 simp only[ev]
 generalize xv env x=v
 cases v <;> try rfl
theorem Zsz{n:Int}{k:Nat}{z:List Value}:msf (.tr (.v (.int .i64 n))) k z lvl env loc out d K=(0<=n/\n<=bigN/\freshK (keyOf d) loc 1/\K ⟨lvl,ptd d (.hd (lvl,keyOf d) [] 0 n.toNat none n.toNat) env,ptO (keyOf d) (.ar k (List.replicate n.toNat (z.map trv)) true n.toNat 0) loc,out⟩):=(rfl)
def ZR(op:BinOp)(w:Nat)(x y:IV)(F:IV->Prop):Prop :=
 match x,y with
 | .tr (.v a),.tr (.v b)=>Jm op w a b fun r=>F (.tr (.v r))
 | .er,.tr (.v .nilIface) =>
  match op,w with
  | .eql,3=>F (iB false)
  | .neq,3=>F (iB true)
  | _,_=>False
 | _,_=>False
theorem ZsA{op:BinOp}{w:Nat}{x y:X}:ZA C d (.bi op w x y) ⟨lvl,env,loc,out⟩ K=ZR op w (xv env x) (xv env y) (J6 lvl env loc out d K):=by
 exact Yw rfl fun Kd=>rfl
section bi
variable {F:IV->Prop} {k:IntKind} {a b:Int} {s t:ByteArray} {p q:Bool} {w:Nat}
theorem ZsB:ZR .add 0 (.tr (.v (.int k a))) (.tr (.v (.int k b))) F=(ZW k (a+b)/\F (.tr (.v (.int k (a+b))))):=by simp [ZR,Jm]
theorem ZsC:ZR .sub 0 (.tr (.v (.int k a))) (.tr (.v (.int k b))) F=(ZW k (a-b)/\F (.tr (.v (.int k (a-b))))):=by simp [ZR,Jm]
theorem ZsD:ZR .mul 0 (.tr (.v (.int k a))) (.tr (.v (.int k b))) F=(ZW k (a*b)/\F (.tr (.v (.int k (a*b))))):=by simp [ZR,Jm]
theorem ZsE:ZR .add 1 (.tr (.v (.int k a))) (.tr (.v (.int k b))) F=F (.tr (.v (.int k (k.wrap (a+b))))):=by simp [ZR,Jm]
theorem ZsF:ZR .sub 1 (.tr (.v (.int k a))) (.tr (.v (.int k b))) F=F (.tr (.v (.int k (k.wrap (a-b))))):=by simp [ZR,Jm]
theorem ZsG:ZR .mul 1 (.tr (.v (.int k a))) (.tr (.v (.int k b))) F=F (.tr (.v (.int k (k.wrap (a*b))))):=by simp [ZR,Jm]
theorem ZsH:ZR .quo w (.tr (.v (.int k a))) (.tr (.v (.int k b))) F=(0<=a/\0<b/\ZW k a/\F (.tr (.v (.int k (a / b))))):=by simp [ZR,Jm]
theorem ZsI:ZR .rem w (.tr (.v (.int k a))) (.tr (.v (.int k b))) F=(0<=a/\0<b/\F (.tr (.v (.int k (a % b))))):=by simp [ZR,Jm]
theorem ZsJ{j:IntKind}:ZR .shr w (.tr (.v (.int k a))) (.tr (.v (.int j b))) F=(0<=b/\F (.tr (.v (.int k (a.fdiv (2 ^ min b.toNat k.bits)))))):=by simp [ZR,Jm]
theorem ZsK:ZR .and w (.tr (.v (.int k a))) (.tr (.v (.int k b))) F=F (.tr (.v (.int k (k.wrap ((BitVec.ofInt k.bits a &&& BitVec.ofInt k.bits b).toNat:Int))))):=by simp [ZR,Jm]
theorem ZsL:ZR .eql w (.tr (.v (.int k a))) (.tr (.v (.int k b))) F=F (iB (decide (a=b))):=by simp [ZR,Jm]
theorem ZsM:ZR .neq w (.tr (.v (.int k a))) (.tr (.v (.int k b))) F=F (iB (decide (a≠b))):=by simp [ZR,Jm]
theorem ZsN:ZR .lss w (.tr (.v (.int k a))) (.tr (.v (.int k b))) F=F (iB (decide (a<b))):=by simp [ZR,Jm]
theorem ZsO:ZR .leq w (.tr (.v (.int k a))) (.tr (.v (.int k b))) F=F (iB (decide (a<=b))):=by simp [ZR,Jm]
theorem ZsP:ZR .gtr w (.tr (.v (.int k a))) (.tr (.v (.int k b))) F=F (iB (decide (b<a))):=by simp [ZR,Jm]
theorem ZsQ:ZR .geq w (.tr (.v (.int k a))) (.tr (.v (.int k b))) F=F (iB (decide (b<=a))):=by simp [ZR,Jm]
theorem ZsR:ZR .eql 2 (.tr (.v (.bool p))) (.tr (.v (.bool q))) F=F (iB (p == q)):=by simp [ZR,Jm]
theorem ZsS:ZR .neq 2 (.tr (.v (.bool p))) (.tr (.v (.bool q))) F=F (iB (p != q)):=by simp [ZR,Jm]
theorem ZsT:ZR .eql 3 (.tr (.v .nilIface)) (.tr (.v .nilIface)) F=F (iB true):=by simp [ZR,Jm]
theorem ZsU:ZR .neq 3 (.tr (.v .nilIface)) (.tr (.v .nilIface)) F=F (iB false):=by simp [ZR,Jm]
theorem ZsV:ZR .eql 3 .er (.tr (.v .nilIface)) F=F (iB false):=by simp [ZR]
theorem ZsW:ZR .neq 3 .er (.tr (.v .nilIface)) F=F (iB true):=by simp [ZR]
theorem ZsX:ZR .add w (.tr (.v (.string s))) (.tr (.v (.string t))) F=(s.size+t.size<=bigN/\F (.tr (.v (.string (s++t))))):=by simp [ZR,Jm]
theorem Zjw:ZR .eql w (.tr (.v (.string s))) (.tr (.v (.string t))) F=F (iB (decide (s=t))):=by simp [ZR,Jm]
theorem Zjx:ZR .neq w (.tr (.v (.string s))) (.tr (.v (.string t))) F=F (iB (decide (s≠t))):=by simp [ZR,Jm]
theorem ZsY:ZR .lss w (.tr (.v (.string s))) (.tr (.v (.string t))) F=F (iB (Op.bytesLess s.data.toList t.data.toList)):=by simp [ZR,Jm]
theorem ZsZ:ZR .gtr w (.tr (.v (.string s))) (.tr (.v (.string t))) F=F (iB (!(Op.bytesLess s.data.toList t.data.toList || decide (s=t)))):=by simp [ZR,Jm]
theorem Zs0:ZR .leq w (.tr (.v (.string s))) (.tr (.v (.string t))) F=F (iB (Op.bytesLess s.data.toList t.data.toList || decide (s=t))):=by simp [ZR,Jm]
theorem Zs1:ZR .geq w (.tr (.v (.string s))) (.tr (.v (.string t))) F=F (iB (!Op.bytesLess s.data.toList t.data.toList)):=by simp [ZR,Jm]
end bi
def eq2(ks:List Nat)(x y:IV)(neg:Bool)(F:IV->Prop):Prop :=
 match x,y with
 | .ag l,.ag m=>YR ks l m fun b=>F (iB (if neg then !b else b))
 | _,_=>False
theorem Zs2{neg:Bool}{ks:List Nat}{x y:X}:ZA C d (.qa neg ks x y) ⟨lvl,env,loc,out⟩ K=eq2 ks (xv env x) (xv env y) neg (J6 lvl env loc out d K):=by
 exact Yw rfl fun Kd=>rfl
def nt2(x:IV)(F:IV->Prop):Prop :=
 match x with
 | .tr (.v (.bool b))=>F (iB (!b))
 | _=>False
theorem Zs3{x:X}:ZA C d (.nt x) ⟨lvl,env,loc,out⟩ K=nt2 (xv env x) (J6 lvl env loc out d K):=Yw rfl fun _=>rfl
theorem Zs4{b:Bool}{F:IV->Prop}:nt2 (.tr (.v (.bool b))) F=F (iB (!b)):=(rfl)
def ng2(x:IV)(F:IV->Prop):Prop :=
 match x with
 | .tr (.v (.int k n))=>ZW k (-n)/\F (.tr (.v (.int k (-n))))
 | _=>False
theorem Zs5{x:X}:ZA C d (.ng x) ⟨lvl,env,loc,out⟩ K=ng2 (xv env x) (J6 lvl env loc out d K):=Yw rfl fun _=>rfl
theorem Zs6{k:IntKind}{n:Int}{F:IV->Prop}:ng2 (.tr (.v (.int k n))) F=(ZW k (-n)/\F (.tr (.v (.int k (-n))))):=(rfl)
def UV(c:Cv)(x:IV)(F:IV->Prop):Prop :=
 match c,x with
 | .int k,.tr (.v (.int _ n))=>ZW k n/\F (.tr (.v (.int k n)))
 | .wrap k,.tr (.v (.int _ n))=>F (.tr (.v (.int k (k.wrap n))))
 | .str,.tr (.v (.string s))=>F (iS s)
 | .rune,.tr (.v (.int _ n))=>0<=n/\n<128/\F (iS ⟨#[n.toNat.toUInt8]⟩)
 | .bys,.tr (.v (.string s))=>F (.tr (.sl (Wq s)))
 | _,_=>False
theorem Zs7{c:Cv}{x:X}:ZA C d (.cv c x) ⟨lvl,env,loc,out⟩ K=UV c (xv env x) (J6 lvl env loc out d K):=Yw rfl fun _=>rfl
theorem Zs8{k j:IntKind}{n:Int}{F:IV->Prop}:UV (.int k) (.tr (.v (.int j n))) F=(ZW k n/\F (.tr (.v (.int k n)))):=(rfl)
theorem Zs9{k j:IntKind}{n:Int}{F:IV->Prop}:UV (.wrap k) (.tr (.v (.int j n))) F=F (.tr (.v (.int k (k.wrap n)))):=(rfl)
theorem Zta{s:ByteArray}{F:IV->Prop}:UV .str (.tr (.v (.string s))) F=F (iS s):=(rfl)
theorem Ztb{j:IntKind}{n:Int}{F:IV->Prop}:UV .rune (.tr (.v (.int j n))) F=(0<=n/\n<128/\F (iS ⟨#[n.toNat.toUInt8]⟩)):=(rfl)
theorem Ztc{s:ByteArray}{F:IV->Prop}:UV .bys (.tr (.v (.string s))) F=F (.tr (.sl (Wq s))):=(rfl)
def mf2(f:Nat)(cs:List IV)(F:IV->Prop):Prop:=(cs.all isCell)=true/\F (.fn f cs)
theorem Ztd{f:Nat}{cs:List X}:ZA C d (.mf f cs) ⟨lvl,env,loc,out⟩ K=mf2 f (cs.map (xv env)) (J6 lvl env loc out d K):=Yw rfl fun _=>rfl
theorem Zte{f:Nat}{cs:List IV}{F:IV->Prop}:mf2 f cs F=((cs.all isCell)=true/\F (.fn f cs)):=(rfl)
def ln2(x:IV)(F:IV->Prop):Prop :=
 match x with
 | .tr (.sl es)=>F (iI es.length)
 | .cs es=>F (iI es.length)
 | .hd _ _ _ len _ _=>F (iI len)
 | _=>False
theorem Ztf{x:X}:ZA C d (.ln x) ⟨lvl,env,loc,out⟩ K=ln2 (xv env x) (J6 lvl env loc out d K):=Yw rfl fun _=>rfl
theorem Ztg{es:Row}{F:IV->Prop}:ln2 (.tr (.sl es)) F=F (iI es.length):=(rfl)
theorem Zth{es:Row}{F:IV->Prop}:ln2 (.cs es) F=F (iI es.length):=(rfl)
theorem Zti{id:Zd}{p:Zk}{off len s:Nat}{cap:Option Nat}{F:IV->Prop}:ln2 (.hd id p off len cap s) F=F (iI len):=(rfl)
def lg2(x:IV)(F:IV->Prop):Prop :=
 match x with
 | .tr (.v (.string s))=>F (iI s.size)
 | _=>False
theorem Ztj{x:X}:ZA C d (.lg x) ⟨lvl,env,loc,out⟩ K=lg2 (xv env x) (J6 lvl env loc out d K):=Yw rfl fun _=>rfl
theorem Ztk{s:ByteArray}{F:IV->Prop}:lg2 (.tr (.v (.string s))) F=F (iI s.size):=(rfl)
theorem Ztl{n:Nat}:ZA C d (.la n) ⟨lvl,env,loc,out⟩ K=K ⟨lvl,ptd d (iI n) env,loc,out⟩:=Zju rfl fun _=>rfl
def mm2(mx:Bool)(x y:IV)(F:IV->Prop):Prop :=
 match x,y with
 | .tr (.v (.int k a)),.tr (.v (.int j b))=>k=j/\F (.tr (.v (.int k (if mx then max a b else min a b))))
 | _,_=>False
theorem Ztm{mx:Bool}{x y:X}:ZA C d (.mm mx x y) ⟨lvl,env,loc,out⟩ K=mm2 mx (xv env x) (xv env y) (J6 lvl env loc out d K):=Yw rfl fun _=>rfl
theorem Ztn{k:IntKind}{a b:Int}{F:IV->Prop}:mm2 true (.tr (.v (.int k a))) (.tr (.v (.int k b))) F=F (.tr (.v (.int k (max a b)))):=by simp [mm2]
theorem Zto{k:IntKind}{a b:Int}{F:IV->Prop}:mm2 false (.tr (.v (.int k a))) (.tr (.v (.int k b))) F=F (.tr (.v (.int k (min a b)))):=by simp [mm2]
def pk2(c a b:IV)(F:IV->Prop):Prop :=
 match c with
 | .tr (.v (.bool t))=>F (if t then a else b)
 | _=>False
theorem Ztp{c a b:X}:ZA C d (.pk c a b) ⟨lvl,env,loc,out⟩ K=pk2 (xv env c) (xv env a) (xv env b) (J6 lvl env loc out d K):=Yw rfl fun _=>rfl
theorem Ztq{a b:IV}{F:IV->Prop}:pk2 (.tr (.v (.bool true))) a b F=F a:=(rfl)
theorem Ztr{a b:IV}{F:IV->Prop}:pk2 (.tr (.v (.bool false))) a b F=F b:=(rfl)
def Z9{α:Type}(x:Option α)(F:α->Prop):Prop :=
 match x with
 | some a=>F a
 | none=>False
theorem Zts{α:Type}{a:α}{F:α->Prop}:Z9 (some a) F=F a:=(rfl)
theorem YX{α:Type}{x:Option α}{F:α->Prop}:(∃ a,x=some a/\F a)=Z9 x F:=by cases x <;> simp [Z9]
def ex2(x:IV)(i:Nat)(F:IV->Prop):Prop :=
 match x with
 | .tu l=>Z9 l[i]? F
 | _=>False
theorem Ztt{i:Nat}{x:X}:ZA C d (.ex i x) ⟨lvl,env,loc,out⟩ K=ex2 (xv env x) i (J6 lvl env loc out d K):=by
 refine Yw (o:=.ex i x) (T:=fun F=>ex2 (xv env x) i F) rfl (fun Kd=>?_)
 simp only[ev,ex2]
 generalize xv env x=v
 cases v <;> try rfl
 exact YX
theorem Ztu{i:Nat}{l:List IV}{F:IV->Prop}:ex2 (.tu l) i F=Z9 l[i]? F:=(rfl)
def nc2(x:IV)(F:IV->Prop):Prop :=
 match x with
 | .ta cells=>F (.ta cells)
 | .ab id o=>F (.ab id o)
 | .ae id p i f st=>F (.ae id p i f st)
 | _=>False
theorem Ztv{x:X}:ZA C d (.nc x) ⟨lvl,env,loc,out⟩ K=nc2 (xv env x) (J6 lvl env loc out d K):=Yw rfl fun _=>rfl
theorem Ztw{cells:List Tr}{F:IV->Prop}:nc2 (.ta cells) F=F (.ta cells):=(rfl)
theorem Ztx{id:Zd}{o:Nat}{F:IV->Prop}:nc2 (.ab id o) F=F (.ab id o):=(rfl)
theorem Zty{id:Zd}{p:Zk}{i f s:Nat}{F:IV->Prop}:nc2 (.ae id p i f s) F=F (.ae id p i f s):=(rfl)
def fa2(off:Nat)(x:IV)(F:IV->Prop):Prop :=
 match x with
 | .ta cells=>F (.ta (cells.drop off))
 | .ab id o=>F (.ab id (o+off))
 | .ae id p i f st=>F (.ae id p i (f+off) st)
 | _=>False
theorem Ztz{off:Nat}{x:X}:ZA C d (.fa off x) ⟨lvl,env,loc,out⟩ K=fa2 off (xv env x) (J6 lvl env loc out d K):=Yw rfl fun _=>rfl
theorem ZtA{off:Nat}{cells:List Tr}{F:IV->Prop}:fa2 off (.ta cells) F=F (.ta (cells.drop off)):=(rfl)
theorem ZtB{off:Nat}{id:Zd}{o:Nat}{F:IV->Prop}:fa2 off (.ab id o) F=F (.ab id (o+off)):=(rfl)
theorem ZtC{off:Nat}{id:Zd}{p:Zk}{i f s:Nat}{F:IV->Prop}:fa2 off (.ae id p i f s) F=F (.ae id p i (f+off) s):=(rfl)
def fd2(off:Nat)(m:Option Nat)(x:IV)(F:IV->Prop):Prop :=
 match m,x with
 | none,.ag l=>Z9 l[off]? F
 | some m,.ag l=>off+m<=l.length/\F (.ag ((l.drop off).take m))
 | _,_=>False
theorem ZtD{off:Nat}{m:Option Nat}{x:X}:ZA C d (.fd off m x) ⟨lvl,env,loc,out⟩ K=fd2 off m (xv env x) (J6 lvl env loc out d K):=by
 refine Yw (o:=.fd off m x) (T:=fun F=>fd2 off m (xv env x) F) rfl (fun Kd=>?_)
 cases m <;> simp only[ev,fd2] <;> generalize xv env x=v <;> cases v <;> try rfl
 exact YX
theorem ZtE{off:Nat}{l:List IV}{F:IV->Prop}:fd2 off none (.ag l) F=Z9 l[off]? F:=(rfl)
theorem ZtF{off m:Nat}{l:List IV}{F:IV->Prop}:fd2 off (some m) (.ag l) F=(off+m<=l.length/\F (.ag ((l.drop off).take m))):=(rfl)
def VC(i:IV)(F:Nat->Prop):Prop :=
 match i with
 | .tr (.v (.int _ n))=>0<=n/\F n.toNat
 | _=>False
theorem ZtG{k:IntKind}{n:Int}{F:Nat->Prop}:VC (.tr (.v (.int k n))) F=(0<=n/\F n.toNat):=(rfl)
def UW(L:Zc)(k:Nat)(x:IV)(F:IV->Prop)(n:Nat):Prop :=
 match x with
 | .tr (.sl es)=>Z9 es[n]? fun e=>e.length=k/\F (.ta e)
 | .cs es=>Z9 es[n]? fun e=>e.length=k/\F (.ta e)
 | .hd id p off len _ st=>JQ L id p st fun es _ _=>n<len/\Z9 es[off+n]? fun e=>e.length=k/\F (.ae id p (off+n) 0 st)
 | _=>False
theorem ZtH{k:Nat}{x i:X}:ZA C d (.ia k x i) ⟨lvl,env,loc,out⟩ K=VC (xv env i) (UW (Zy lvl loc out) k (xv env x) (J6 lvl env loc out d K)):=by
 refine Yw (o:=.ia k x i) (T:=fun F=>VC (xv env i) (UW (Zy lvl loc out) k (xv env x) F)) rfl (fun Kd=>?_)
 simp only[ev]
 generalize xv env i=vi
 cases vi <;> try rfl
 rename_i t
 cases t <;> try rfl
 rename_i y
 cases y <;> try rfl
 rename_i kk n
 simp only[VC,UW]
 generalize xv env x=v
 cases v <;> try rfl
 ·rename_i t
  cases t <;> try rfl
  dsimp only
  rw[YX]
 ·dsimp only
  rw[YX]
 ·dsimp only
  simp only[YX]
def iae(k:Nat)(F:IV->Prop)(e:List Tr):Prop:=e.length=k/\F (.ta e)
theorem ZtI{k:Nat}{F:IV->Prop}{e:List Tr}:iae k F e=(e.length=k/\F (.ta e)):=(rfl)
theorem ZtJ{L:Zc}{k n:Nat}{es:Row}{F:IV->Prop}:UW L k (.tr (.sl es)) F n=Z9 es[n]? (iae k F):=(rfl)
theorem ZtK{L:Zc}{k n:Nat}{es:Row}{F:IV->Prop}:UW L k (.cs es) F n=Z9 es[n]? (iae k F):=(rfl)
def VW(o:Option Ob)(p:Zk)(st:Nat)(F:Row->Bool->Nat->Prop):Prop :=
 match o with
 | some (.ar _ es u hw ver)=>JX p st hw ver u/\Z9 (getp es p) fun es' => F es' u ver
 | _=>False
theorem WK{L:Zc}{id:Zd}{p:Zk}{st:Nat}{F:Row->Bool->Nat->Prop}:JQ L id p st F=VW (L id) p st F:=by
 unfold JQ VW
 generalize L id=o
 cases o with
 | none=>rfl
 | some ob =>
  cases ob with
  | bx=>rfl
  | ar k es u hw ver =>
   dsimp only
   rw[<-YX]
   apply propext
   constructor
   ·rintro⟨es',h1,h2,h3⟩;exact⟨h2,es',h1,h3⟩
   ·rintro⟨h2,es',h1,h3⟩;exact⟨es',h1,h2,h3⟩
def rde(u:Bool)(ver:Nat)(F:Row->Bool->Nat->Prop)(es:Row):Prop:=F es u ver
theorem ZtL{u:Bool}{ver:Nat}{F:Row->Bool->Nat->Prop}{es:Row}:rde u ver F es=F es u ver:=(rfl)
theorem ZtM{k:Nat}{es:Row}{u:Bool}{hw ver:Nat}{p:Zk}{st:Nat}{F:Row->Bool->Nat->Prop}:VW (some (.ar k es u hw ver)) p st F=(JX p st hw ver u/\Z9 (getp es p) (rde u ver F)):=(rfl)
theorem ZtN{st hw ver:Nat}{u:Bool}:JX [] st hw ver u=(st=hw):=(rfl)
theorem ZtO{a:Nat×Nat}{p:Zk}{st hw ver:Nat}{u:Bool}:JX (a::p) st hw ver u=(u=true/\st=ver):=(rfl)
def iah(id:Zd)(p:Zk)(off len st k n:Nat)(F:IV->Prop)(es:Row)(_u:Bool)(_v:Nat):Prop:=n<len/\Z9 es[off+n]? fun e=>e.length=k/\F (.ae id p (off+n) 0 st)
def Zjy(id:Zd)(p:Zk)(off st k n:Nat)(F:IV->Prop)(e:List Tr):Prop:=e.length=k/\F (.ae id p (off+n) 0 st)
theorem ZtP{id:Zd}{p:Zk}{off len st k n:Nat}{F:IV->Prop}{es:Row}{u:Bool}{v:Nat}:iah id p off len st k n F es u v=(n<len/\Z9 es[off+n]? (Zjy id p off st k n F)):=(rfl)
theorem ZtQ{id:Zd}{p:Zk}{off st k n:Nat}{F:IV->Prop}{e:List Tr}:Zjy id p off st k n F e=(e.length=k/\F (.ae id p (off+n) 0 st)):=(rfl)
theorem ZtR{L:Zc}{k n:Nat}{id:Zd}{p:Zk}{off len st:Nat}{cap:Option Nat}{F:IV->Prop}:UW L k (.hd id p off len cap st) F n=VW (L id) p st (iah id p off len st k n F):=WK
def ja2(k m:Nat)(x:IV)(F:IV->Prop)(n:Nat):Prop :=
 n<m /\
 match x with
 | .ta cells=>F (.ta (cells.drop (n*k)))
 | .ab id o=>F (.ab id (o+n*k))
 | .ae id p i f st=>F (.ae id p i (f+n*k) st)
 | _=>False
theorem ZtS{k m:Nat}{x i:X}:ZA C d (.ja k m x i) ⟨lvl,env,loc,out⟩ K=VC (xv env i) (ja2 k m (xv env x) (J6 lvl env loc out d K)):=by
 refine Yw (o:=.ja k m x i) (T:=fun F=>VC (xv env i) (ja2 k m (xv env x) F)) rfl (fun Kd=>?_)
 simp only[ev]
 generalize xv env i=vi
 cases vi <;> rfl
theorem ZtT{k m n:Nat}{cells:List Tr}{F:IV->Prop}:ja2 k m (.ta cells) F n=(n<m/\F (.ta (cells.drop (n*k)))):=(rfl)
theorem ZtU{k m n:Nat}{id:Zd}{o:Nat}{F:IV->Prop}:ja2 k m (.ab id o) F n=(n<m/\F (.ab id (o+n*k))):=(rfl)
theorem ZtV{k m n:Nat}{id:Zd}{p:Zk}{i f s:Nat}{F:IV->Prop}:ja2 k m (.ae id p i f s) F n=(n<m/\F (.ae id p i (f+n*k) s)):=(rfl)
def UX(x:IV)(F:IV->Prop)(n:Nat):Prop :=
 match x with
 | .tr (.v (.string s))=>Z9 s.data.toList[n]? fun b=>F (.tr (.v (.int .u8 b.toNat)))
 | _=>False
def ixb(F:IV->Prop)(b:UInt8):Prop:=F (.tr (.v (.int .u8 b.toNat)))
theorem ZtW{F:IV->Prop}{b:UInt8}:ixb F b=F (.tr (.v (.int .u8 b.toNat))):=(rfl)
theorem ZtX{x i:X}:ZA C d (.ix x i) ⟨lvl,env,loc,out⟩ K=VC (xv env i) (UX (xv env x) (J6 lvl env loc out d K)):=by
 refine Yw (o:=.ix x i) (T:=fun F=>VC (xv env i) (UX (xv env x) F)) rfl (fun Kd=>?_)
 simp only[ev]
 generalize xv env i=vi
 generalize xv env x=v
 cases vi with
 | tr t =>
  cases t with
  | v y =>
   cases y with
   | int kk n =>
    cases v with
    | tr t =>
     cases t with
     | v z=>cases z <;> simp only[VC,UX,and_false] <;> rw[YX]
     | sl=>simp only[VC,UX,and_false]
    | _=>simp only[VC,UX,and_false]
   | _ =>
     cases v <;> try rfl
     rename_i t
     cases t <;> try rfl
     rename_i z
     cases z <;> rfl
  | sl es =>
    cases v <;> try rfl
    rename_i t
    cases t <;> try rfl
    rename_i z
    cases z <;> rfl
 | _ =>
   cases v <;> try rfl
   rename_i t
   cases t <;> try rfl
   rename_i z
   cases z <;> rfl
theorem ZtY{s:ByteArray}{F:IV->Prop}{n:Nat}:UX (.tr (.v (.string s))) F n=Z9 s.data.toList[n]? (ixb F):=(rfl)
def UY(k m:Nat)(q:Option Nat)(x:IV)(F:IV->Prop)(n:Nat):Prop :=
 match q,x with
 | none,.ag l=>n<m/\Z9 l[n*k]? F
 | some q,.ag l=>n<m/\n*k+q<=l.length/\F (.ag ((l.drop (n*k)).take q))
 | _,_=>False
theorem ZtZ{k m:Nat}{q:Option Nat}{x i:X}:ZA C d (.jx k m q x i) ⟨lvl,env,loc,out⟩ K=VC (xv env i) (UY k m q (xv env x) (J6 lvl env loc out d K)):=by
 refine Yw (o:=.jx k m q x i) (T:=fun F=>VC (xv env i) (UY k m q (xv env x) F)) rfl (fun Kd=>?_)
 cases q <;> simp only[ev] <;> generalize xv env i=vi <;> generalize xv env x=v
 ·cases vi with
  | tr t =>
   cases t with
   | v y =>
    cases y with
    | int kk n=>cases v <;> simp only[VC,UY,and_false] <;> rw[YX]
    | _=>cases v <;> rfl
   | sl es=>cases v <;> rfl
  | _=>cases v <;> rfl
 ·cases vi with
  | tr t =>
   cases t with
   | v y =>
    cases y with
    | int kk n=>cases v <;> simp only[VC,UY,and_false]
    | _=>cases v <;> rfl
   | sl es=>cases v <;> rfl
  | _=>cases v <;> rfl
theorem Zt0{k m n:Nat}{l:List IV}{F:IV->Prop}:UY k m none (.ag l) F n=(n<m/\Z9 l[n*k]? F):=(rfl)
theorem Zt1{k m n q:Nat}{l:List IV}{F:IV->Prop}:UY k m (some q) (.ag l) F n=(n<m/\n*k+q<=l.length/\F (.ag ((l.drop (n*k)).take q))):=(rfl)
end
end Go.Fd

namespace Go.Fd
section
variable {C:ZK} {lvl:Nat} {env:List (Nat×IV)} {loc:List (Nat×Ob)} {out:Zc} {d:Option Nat} {K:St->Prop} {st:St} {Q:Ex->St->Prop} {F:IV->Prop}
theorem J7{k:Nat}:Zy lvl loc out (lvl,k)=lkO k loc:=by unfold Zy;rw[if_pos rfl]
theorem JE{id:Zd}(h:id.1≠lvl):Zy lvl loc out id=out id:=by unfold Zy;rw[if_neg h]
theorem UZ{k:Nat}{ob:Ob}:Zn ⟨lvl,env,loc,out⟩ (lvl,k) ob=⟨lvl,env,ptO k ob loc,out⟩:=by unfold Zn;rw[if_pos rfl]
theorem Qt{id:Zd}{ob:Ob}(h:id.1≠lvl):Zn ⟨lvl,env,loc,out⟩ id ob=⟨lvl,env,loc,Zl out id ob⟩:=by unfold Zn;rw[if_neg h]
theorem Zt2{id:Zd}:ZF id ⟨lvl,env,loc,out⟩=⟨lvl,scrE id env,scrL id (rmO id.2 loc),out⟩:=(rfl)
theorem Zt3:(⟨lvl,env,loc,out⟩:St).sto=Zy lvl loc out:=(rfl)
theorem YF{id:Zd}{ob:Ob}{S:Zc}:Zl S id ob id=some ob:=by unfold Zl;rw[if_pos rfl]
def ltr(F:IV->Prop)(t:Tr):Prop:=F (.tr t)
theorem Zt4{t:Tr}:ltr F t=F (.tr t):=(rfl)
def lab(o:Option Ob)(off:Nat)(F:IV->Prop):Prop :=
 match o with
 | some (.bx cells)=>Z9 cells[off]? F
 | _=>False
theorem Zt5{cells:List IV}{off:Nat}:lab (some (.bx cells)) off F=Z9 cells[off]? F:=(rfl)
def lae(id:Zd)(p:Zk)(i f:Nat)(F:IV->Prop)(es:Row)(u:Bool)(ver:Nat):Prop:=Z9 es[i]? fun e=>Z9 e[f]? fun t=>F (cvt id p i f u ver t)
def Zjz(id:Zd)(p:Zk)(i f:Nat)(F:IV->Prop)(u:Bool)(ver:Nat)(e:List Tr):Prop:=Z9 e[f]? fun t=>F (cvt id p i f u ver t)
def ZjA(id:Zd)(p:Zk)(i f:Nat)(F:IV->Prop)(u:Bool)(ver:Nat)(t:Tr):Prop:=F (cvt id p i f u ver t)
theorem Zt6{id:Zd}{p:Zk}{i f:Nat}{es:Row}{u:Bool}{ver:Nat}:lae id p i f F es u ver=Z9 es[i]? (Zjz id p i f F u ver):=(rfl)
theorem Zt7{id:Zd}{p:Zk}{i f:Nat}{e:List Tr}{u:Bool}{ver:Nat}:Zjz id p i f F u ver e=Z9 e[f]? (ZjA id p i f F u ver):=(rfl)
theorem Zt8{id:Zd}{p:Zk}{i f:Nat}{t:Tr}{u:Bool}{ver:Nat}:ZjA id p i f F u ver t=F (cvt id p i f u ver t):=(rfl)
def Zb1(id:Zd)(p:Zk)(i f m:Nat)(F:IV->Prop)(es:Row)(u:Bool)(ver:Nat):Prop:=Z9 es[i]? fun e=>f+m<=e.length/\F (.ag (cvts id p i u ver f ((e.drop f).take m)))
def ZjB(id:Zd)(p:Zk)(i f m:Nat)(F:IV->Prop)(u:Bool)(ver:Nat)(e:List Tr):Prop:=f+m<=e.length/\F (.ag (cvts id p i u ver f ((e.drop f).take m)))
theorem Zt9{id:Zd}{p:Zk}{i f m:Nat}{es:Row}{u:Bool}{ver:Nat}:Zb1 id p i f m F es u ver=Z9 es[i]? (ZjB id p i f m F u ver):=(rfl)
theorem Zua{id:Zd}{p:Zk}{i f m:Nat}{e:List Tr}{u:Bool}{ver:Nat}:ZjB id p i f m F u ver e=(f+m<=e.length/\F (.ag (cvts id p i u ver f ((e.drop f).take m)))):=(rfl)
def QW(L:Zc)(m:Option Nat)(x:IV)(F:IV->Prop):Prop :=
 match m,x with
 | none,.ta cells=>Z9 cells[0]? (ltr F)
 | none,.ab id off=>lab (L id) off F
 | none,.ae id p i f st=>VW (L id) p st (lae id p i f F)
 | some m,.ta cells=>m<=cells.length/\F (.ag ((cells.take m).map .tr))
 | some m,.ab id off =>
  match L id with
  | some (.bx cells)=>off+m<=cells.length/\F (.ag ((cells.drop off).take m))
  | _=>False
 | some m,.ae id p i f st=>VW (L id) p st (Zb1 id p i f m F)
 | _,_=>False
theorem Zub{m:Option Nat}{p:X}:ZA C d (.ld m p) ⟨lvl,env,loc,out⟩ K=QW (Zy lvl loc out) m (xv env p) (J6 lvl env loc out d K):=by
 refine Yw (o:=.ld m p) (T:=fun F=>QW (Zy lvl loc out) m (xv env p) F) (by cases m <;> rfl) (fun Kd=>?_)
 cases m with
 | none =>
  simp only[ev]
  generalize xv env p=v
  cases v <;> try rfl
  ·dsimp only[QW,lab]
   rename_i id off
   generalize Zy lvl loc out id=o
   cases o with
   | none=>rfl
   | some ob =>
    cases ob with
    | bx=>exact YX
    | ar=>rfl
  ·dsimp only[QW]
   rw[<-WK]
   congr 1
   funext es u ver
   simp only[lae,<-YX]
  ·exact YX
 | some m =>
  simp only[ev]
  generalize xv env p=v
  cases v <;> try rfl
  dsimp only[QW]
  rw[<-WK]
  congr 1
  funext es u ver
  simp only[Zb1,<-YX]
theorem Zuc{L:Zc}{cells:List Tr}:QW L none (.ta cells) F=Z9 cells[0]? (ltr F):=(rfl)
theorem Zud{L:Zc}{id:Zd}{off:Nat}:QW L none (.ab id off) F=lab (L id) off F:=(rfl)
theorem Zue{L:Zc}{id:Zd}{p:Zk}{i f s:Nat}:QW L none (.ae id p i f s) F=VW (L id) p s (lae id p i f F):=(rfl)
theorem Zuf{L:Zc}{m:Nat}{cells:List Tr}:QW L (some m) (.ta cells) F=(m<=cells.length/\F (.ag ((cells.take m).map .tr))):=(rfl)
def ZjC(o:Option Ob)(off m:Nat)(F:IV->Prop):Prop :=
 match o with
 | some (.bx cells)=>off+m<=cells.length/\F (.ag ((cells.drop off).take m))
 | _=>False
theorem Zug{cells:List IV}{off m:Nat}:ZjC (some (.bx cells)) off m F=(off+m<=cells.length/\F (.ag ((cells.drop off).take m))):=(rfl)
theorem Zuh{L:Zc}{m:Nat}{id:Zd}{off:Nat}:QW L (some m) (.ab id off) F=ZjC (L id) off m F:=(rfl)
theorem Zui{L:Zc}{m:Nat}{id:Zd}{p:Zk}{i f s:Nat}:QW L (some m) (.ae id p i f s) F=VW (L id) p s (Zb1 id p i f m F):=(rfl)
def bn(x:Option IV)(n:Nat)(F:Nat->Prop):Prop :=
 match x with
 | none=>F n
 | some (.tr (.v (.int _ m)))=>0<=m/\F m.toNat
 | _=>False
theorem Zuj{n:Nat}{F:Nat->Prop}:bn none n F=F n:=(rfl)
theorem Zuk{n:Nat}{k:IntKind}{m:Int}{F:Nat->Prop}:bn (some (.tr (.v (.int k m)))) n F=(0<=m/\F m.toNat):=(rfl)
theorem ZjD{ρ:X->IV}{x:Option X}{n:Nat}{F:Nat->Prop}:ZP ρ x n F=bn (x.map ρ) n F:=by
 cases x with
 | none=>rfl
 | some x =>
  simp only[ZP,bn,Option.map_some]
  generalize ρ x=v
  cases v <;> try rfl
  rename_i t
  cases t <;> try rfl
  rename_i y
  cases y <;> rfl
def Ua(k:Nat)(es:Row)(los:Bool)(hi mx:Option IV)(q:Bool)(F:IV->Prop)(a:Nat):Prop:=(los=true->Zz k es)/\bn hi es.length fun b=>a<=b/\b<=es.length/\bn mx b fun m=>m=b/\F (if q then .cs (cut es a (b-a)) else .tr (.sl (cut es a (b-a))))
def ZjE(es:Row)(mx:Option IV)(q:Bool)(F:IV->Prop)(a b:Nat):Prop:=a<=b/\b<=es.length/\bn mx b fun m=>m=b/\F (if q then .cs (cut es a (b-a)) else .tr (.sl (cut es a (b-a))))
def ZjF(es:Row)(q:Bool)(F:IV->Prop)(a b m:Nat):Prop:=m=b/\F (if q then .cs (cut es a (b-a)) else .tr (.sl (cut es a (b-a))))
theorem Zul{k:Nat}{es:Row}{los q:Bool}{hi mx:Option IV}{a:Nat}:Ua k es los hi mx q F a=((los=true->Zz k es)/\bn hi es.length (ZjE es mx q F a)):=(rfl)
theorem Zum{es:Row}{q:Bool}{mx:Option IV}{a b:Nat}:ZjE es mx q F a b=(a<=b/\b<=es.length/\bn mx b (ZjF es q F a b)):=(rfl)
theorem Zun{es:Row}{q:Bool}{a b m:Nat}:ZjF es q F a b m=(m=b/\F (if q=true then .cs (cut es a (b-a)) else .tr (.sl (cut es a (b-a))))):=(rfl)
def sxh(L:Zc)(k:Nat)(id:Zd)(p:Zk)(off len:Nat)(cap:Option Nat)(s:Nat)(hi mx:Option IV)(F:IV->Prop)(a:Nat):Prop :=
 bn hi len fun b=>a<=b/\b<=len/\bn mx b fun m=>b<=m/\m<=len/\JR L id p k/\F (.hd id p (off+a) (b-a) (if mx.isSome then some (m-a) else cap.map (· - a)) s)
def ZjG(L:Zc)(k:Nat)(id:Zd)(p:Zk)(off len:Nat)(cap:Option Nat)(s:Nat)(mx:Option IV)(F:IV->Prop)(a b:Nat):Prop :=
 a<=b/\b<=len/\bn mx b fun m=>b<=m/\m<=len/\JR L id p k/\F (.hd id p (off+a) (b-a) (if mx.isSome then some (m-a) else cap.map (· - a)) s)
def ZjH(L:Zc)(k:Nat)(id:Zd)(p:Zk)(off len:Nat)(cap:Option Nat)(s:Nat)(mx:Option IV)(F:IV->Prop)(a b m:Nat):Prop :=
 b<=m/\m<=len/\JR L id p k/\F (.hd id p (off+a) (b-a) (if mx.isSome then some (m-a) else cap.map (· - a)) s)
theorem Zuo{L:Zc}{k:Nat}{id:Zd}{p:Zk}{off len:Nat}{cap:Option Nat}{s:Nat}{hi mx:Option IV}{a:Nat}:sxh L k id p off len cap s hi mx F a=bn hi len (ZjG L k id p off len cap s mx F a):=(rfl)
theorem Zup{L:Zc}{k:Nat}{id:Zd}{p:Zk}{off len:Nat}{cap:Option Nat}{s:Nat}{mx:Option IV}{a b:Nat}:ZjG L k id p off len cap s mx F a b=(a<=b/\b<=len/\bn mx b (ZjH L k id p off len cap s mx F a b)):=(rfl)
theorem Zuq{L:Zc}{k:Nat}{id:Zd}{p:Zk}{off len:Nat}{cap:Option Nat}{s:Nat}{mx:Option IV}{a b m:Nat}:ZjH L k id p off len cap s mx F a b m=(b<=m/\m<=len/\JR L id p k/\F (.hd id p (off+a) (b-a) (if mx.isSome then some (m-a) else cap.map (· - a)) s)):=(rfl)
def WL(L:Zc)(k:Nat)(x:IV)(lo hi mx:Option IV)(F:IV->Prop):Prop :=
 match x with
 | .tr (.sl es)=>bn lo 0 (Ua k es lo.isSome hi mx mx.isSome F)
 | .cs es=>bn lo 0 (Ua k es lo.isSome hi mx (mx.isSome || hi.isNone) F)
 | .hd id p off len cap s=>bn lo 0 (sxh L k id p off len cap s hi mx F)
 | _=>False
theorem ZjI{x:Option IV}{n:Nat}{p:Prop}{F:Nat->Prop}:(p/\bn x n F)=bn x n fun a=>p/\F a:=by
 apply propext
 cases x with
 | none=>rfl
 | some v =>
  cases v <;> try exact⟨fun h=>h.2,fun h=>h.elim⟩
  rename_i t
  cases t <;> try exact⟨fun h=>h.2,fun h=>h.elim⟩
  rename_i y
  cases y <;> first | exact⟨fun h=>h.2,fun h=>h.elim⟩ | exact⟨fun⟨h1,h2,h3⟩=>⟨h2,h1,h3⟩,fun⟨h1,h2,h3⟩=>⟨h2,h1,h3⟩⟩
theorem Zur{k:Nat}{x:X}{lo hi mx:Option X}:ZA C d (.sx k x lo hi mx) ⟨lvl,env,loc,out⟩ K=WL (Zy lvl loc out) k (xv env x) (lo.map (xv env)) (hi.map (xv env)) (mx.map (xv env)) (J6 lvl env loc out d K):=by
 refine Yw (o:=.sx k x lo hi mx) (T:=fun F=>WL (Zy lvl loc out) k (xv env x) (lo.map (xv env)) (hi.map (xv env)) (mx.map (xv env)) F) rfl (fun Kd=>?_)
 simp only[ev,ZjD]
 generalize xv env x=v
 cases v <;> try rfl
 ·rename_i t
  cases t <;> try rfl
  dsimp only[WL,Ua]
  rw[ZjI]
  simp only[Option.isSome_map]
  rfl
 ·dsimp only[WL,Ua]
  rw[ZjI]
  simp only[Option.isSome_map,Option.isNone_map]
  rfl
 ·dsimp only[WL]
  congr 1
  funext a
  unfold sxh
  congr 1
  funext b
  simp only[Option.isSome_map]
theorem Zus{L:Zc}{k:Nat}{es:Row}{lo hi mx:Option IV}:WL L k (.tr (.sl es)) lo hi mx F=bn lo 0 (Ua k es lo.isSome hi mx mx.isSome F):=(rfl)
theorem Zut{L:Zc}{k:Nat}{es:Row}{lo hi mx:Option IV}:WL L k (.cs es) lo hi mx F=bn lo 0 (Ua k es lo.isSome hi mx (mx.isSome || hi.isNone) F):=(rfl)
theorem Zuu{L:Zc}{k:Nat}{id:Zd}{p:Zk}{off len:Nat}{cap:Option Nat}{s:Nat}{lo hi mx:Option IV}:WL L k (.hd id p off len cap s) lo hi mx F=bn lo 0 (sxh L k id p off len cap s hi mx F):=(rfl)
def sst(s:ByteArray)(hi:Option IV)(F:IV->Prop)(a:Nat):Prop:=bn hi s.size fun b=>a<=b/\b<=s.size/\F (iS (s.extract a b))
def ZjJ(s:ByteArray)(F:IV->Prop)(a b:Nat):Prop:=a<=b/\b<=s.size/\F (iS (s.extract a b))
theorem Zuv{s:ByteArray}{hi:Option IV}{a:Nat}:sst s hi F a=bn hi s.size (ZjJ s F a):=(rfl)
theorem Zuw{s:ByteArray}{a b:Nat}:ZjJ s F a b=(a<=b/\b<=s.size/\F (iS (s.extract a b))):=(rfl)
def ss2(x:IV)(lo hi:Option IV)(F:IV->Prop):Prop :=
 match x with
 | .tr (.v (.string s))=>bn lo 0 (sst s hi F)
 | _=>False
theorem Zux{x:X}{lo hi:Option X}:ZA C d (.ss x lo hi) ⟨lvl,env,loc,out⟩ K=ss2 (xv env x) (lo.map (xv env)) (hi.map (xv env)) (J6 lvl env loc out d K):=by
 refine Yw (o:=.ss x lo hi) (T:=fun F=>ss2 (xv env x) (lo.map (xv env)) (hi.map (xv env)) F) rfl (fun Kd=>?_)
 simp only[ev,ZjD]
 rfl
theorem Zuy{s:ByteArray}{lo hi:Option IV}:ss2 (.tr (.v (.string s))) lo hi F=bn lo 0 (sst s hi F):=(rfl)
def sa2(n:Nat)(x:IV)(F:IV->Prop):Prop :=
 match x with
 | .ta cells=>n<=cells.length/\F (.cs ((cells.take n).map fun c=>[c]))
 | _=>False
theorem Zuz{n:Nat}{x:X}:ZA C d (.sa n x) ⟨lvl,env,loc,out⟩ K=sa2 n (xv env x) (J6 lvl env loc out d K):=Yw rfl fun _=>rfl
theorem ZuA{n:Nat}{cells:List Tr}:sa2 n (.ta cells) F=(n<=cells.length/\F (.cs ((cells.take n).map fun c=>[c]))):=(rfl)
def Ub(F:IV->Prop)(l:List UInt8):Prop:=F (iS ⟨l.toArray⟩)
theorem ZuB{l:List UInt8}:Ub F l=F (iS ⟨l.toArray⟩):=(rfl)
def sbh(off len:Nat)(F:IV->Prop)(es:Row)(_u:Bool)(_v:Nat):Prop:=off+len<=es.length/\Z9 (Vb (cut es off len)) (Ub F)
theorem ZuC{off len:Nat}{es:Row}{u:Bool}{v:Nat}:sbh off len F es u v=(off+len<=es.length/\Z9 (Vb (cut es off len)) (Ub F)):=(rfl)
def U0(L:Zc)(x:IV)(F:IV->Prop):Prop :=
 match x with
 | .tr (.sl es)=>Z9 (Vb es) (Ub F)
 | .cs es=>Z9 (Vb es) (Ub F)
 | .hd id p off len _ st=>VW (L id) p st (sbh off len F)
 | _=>False
theorem ZuD{x:X}:ZA C d (.sb x) ⟨lvl,env,loc,out⟩ K=U0 (Zy lvl loc out) (xv env x) (J6 lvl env loc out d K):=by
 refine Yw (o:=.sb x) (T:=fun F=>U0 (Zy lvl loc out) (xv env x) F) rfl (fun Kd=>?_)
 simp only[ev]
 generalize xv env x=v
 cases v <;> try rfl
 ·rename_i t
  cases t <;> try rfl
  exact YX
 ·exact YX
 ·dsimp only[U0]
  rw[<-WK]
  congr 1
  funext es u ver
  simp only[sbh,<-YX]
  rfl
theorem ZuE{L:Zc}{es:Row}:U0 L (.tr (.sl es)) F=Z9 (Vb es) (Ub F):=(rfl)
theorem ZuF{L:Zc}{es:Row}:U0 L (.cs es) F=Z9 (Vb es) (Ub F):=(rfl)
theorem ZuG{L:Zc}{id:Zd}{p:Zk}{off len s:Nat}{cap:Option Nat}:U0 L (.hd id p off len cap s) F=VW (L id) p s (sbh off len F):=(rfl)
theorem J8{o:O}(h:JM o=true):ZA C d o st K=ew C d st K o:=by unfold ZA;rw[if_pos h]
def VX(x:IV)(F:List IV->Prop)(l:List IV):Prop:=F (x::l)
theorem ZjK{x:IV}{F:List IV->Prop}{l:List IV}:VX x F l=F (x::l):=(rfl)
def ZjL(L:Zc)(r:List IV)(F:List IV->Prop)(l:List IV):Prop:=ZV L r (VX (.ag l) F)
theorem ZuH{L:Zc}{r:List IV}{F:List IV->Prop}{l:List IV}:ZjL L r F l=ZV L r (VX (.ag l) F):=(rfl)
def ZjM(L:Zc)(f:FuncId)(r:List IV)(F:List IV->Prop)(l:List IV):Prop:=ZV L r (VX (.fn f l) F)
theorem ZuI{L:Zc}{f:FuncId}{r:List IV}{F:List IV->Prop}{l:List IV}:ZjM L f r F l=ZV L r (VX (.fn f l) F):=(rfl)
def ZjN(L:Zc)(off len:Nat)(r:List IV)(F:List IV->Prop)(es:Row)(_u:Bool)(_v:Nat):Prop:=off+len<=es.length/\ZV L r (VX (.tr (.sl (cut es off len))) F)
theorem ZuJ{L:Zc}{off len:Nat}{r:List IV}{F:List IV->Prop}{es:Row}{u:Bool}{v:Nat}:ZjN L off len r F es u v=(off+len<=es.length/\ZV L r (VX (.tr (.sl (cut es off len))) F)):=(rfl)
section sn
variable {L:Zc} {r:List IV} {F:List IV->Prop}
theorem ZeY:ZV L [] F=F []:=by simp only[ZV]
theorem ZjO{t:Tr}:ZV L (.tr t::r) F=ZV L r (VX (.tr t) F):=by simp only[ZV,Z4];rfl
theorem ZuK{es:Row}:ZV L (.cs es::r) F=ZV L r (VX (.tr (.sl es)) F):=by simp only[ZV,Z4];rfl
theorem ZuL{l:List IV}:ZV L (.ag l::r) F=ZV L l (ZjL L r F):=by simp only[ZV,Z4];rfl
theorem ZuM{f:FuncId}{l:List IV}:ZV L (.fn f l::r) F=ZV L l (ZjM L f r F):=by simp only[ZV,Z4];rfl
theorem ZjP{l:List Tr}:ZV L (.ta l::r) F=ZV L r (VX (.ta l) F):=by simp only[ZV,Z4];rfl
theorem ZuN:ZV L (.er::r) F=ZV L r (VX .er F):=by simp only[ZV,Z4];rfl
theorem ZuO:ZV L (.un::r) F=ZV L r (VX .un F):=by simp only[ZV,Z4];rfl
theorem ZuP{id:Zd}{p:Zk}{off len s:Nat}{cap:Option Nat}:ZV L (.hd id p off len cap s::r) F=VW (L id) p s (ZjN L off len r F):=by simp only[ZV,Z4];rw[<-WK];rfl
end sn
def kca(C:ZK)(fid:FuncId)(nm:Prop)(imp:Bool)(lvl:Nat)(env:List (Nat×IV))(loc:List (Nat×Ob))(out:Zc)(d:Option Nat)(K:St->Prop)(args:List IV):Prop :=
 ∃ r,(∀ l S,C fid l args S r S)/\(nm\/noSh r)/\freshK (keyOf d) loc (impv imp lvl (keyOf d) 0 r).2.length/\K ⟨lvl,ptd d (impv imp lvl (keyOf d) 0 r).1 env,addO (keyOf d) (impv imp lvl (keyOf d) 0 r).2 loc,out⟩
theorem Zf{fid:FuncId}{nm:Prop}{imp:Bool}{args:List IV}{r:IV}(h:∀ l S,C fid l args S r S)
  (hk:(nm\/noSh r)/\freshK (keyOf d) loc (impv imp lvl (keyOf d) 0 r).2.length/\K ⟨lvl,ptd d (impv imp lvl (keyOf d) 0 r).1 env,addO (keyOf d) (impv imp lvl (keyOf d) 0 r).2 loc,out⟩):kca C fid nm imp lvl env loc out d K args:=⟨r,h,hk⟩
def ca2(C:ZK)(f:IV)(xs:List IV)(imp:Bool)(lvl:Nat)(env:List (Nat×IV))(loc:List (Nat×Ob))(out:Zc)(d:Option Nat)(K:St->Prop):Prop :=
 match f with
 | .fn fid caps=>ZV (Zy lvl loc out) (xs++caps) (kca C fid (Za (fun _=>False) (xs++caps)) imp lvl env loc out d K)
 | _=>False
theorem ZuQ{imp:Bool}{f:X}{xs:List X}:ZA C d (.ca .pure imp f xs) ⟨lvl,env,loc,out⟩ K=ca2 C (xv env f) (xs.map (xv env)) imp lvl env loc out d K:=by
 rw[Yc rfl]
 simp only[ev]
 generalize xv env f=v
 cases v <;> rfl
theorem ZuR{fid:FuncId}{caps xs:List IV}{imp:Bool}:ca2 C (.fn fid caps) xs imp lvl env loc out d K=ZV (Zy lvl loc out) (xs++caps) (kca C fid (Za (fun _=>False) (xs++caps)) imp lvl env loc out d K):=(rfl)
def kce(C:ZK)(fid:FuncId)(imp:Bool)(lvl:Nat)(env:List (Nat×IV))(loc:List (Nat×Ob))(out:Zc)(d:Option Nat)(K:St->Prop)(args:List IV):Prop :=
 ∃ r,(∀ l S,Za (XI (Zy lvl loc out) S l) args->C fid l args S r S)/\freshK (keyOf d) loc (impv imp lvl (keyOf d) 0 r).2.length/\K ⟨lvl,ptd d (impv imp lvl (keyOf d) 0 r).1 env,addO (keyOf d) (impv imp lvl (keyOf d) 0 r).2 loc,out⟩
theorem Zb2{fid:FuncId}{imp:Bool}{args:List IV}{r:IV}(h:∀ l S,Za (XI (Zy lvl loc out) S l) args->C fid l args S r S)
  (hk:freshK (keyOf d) loc (impv imp lvl (keyOf d) 0 r).2.length/\K ⟨lvl,ptd d (impv imp lvl (keyOf d) 0 r).1 env,addO (keyOf d) (impv imp lvl (keyOf d) 0 r).2 loc,out⟩):kce C fid imp lvl env loc out d K args:=⟨r,h,hk⟩
def ZjQ(C:ZK)(f:IV)(xs:List IV)(imp:Bool)(lvl:Nat)(env:List (Nat×IV))(loc:List (Nat×Ob))(out:Zc)(d:Option Nat)(K:St->Prop):Prop :=
 match f with
 | .fn fid caps=>kce C fid imp lvl env loc out d K (xs++caps)
 | _=>False
theorem ZuS{imp:Bool}{f:X}{xs:List X}:ZA C d (.ca .see imp f xs) ⟨lvl,env,loc,out⟩ K=ZjQ C (xv env f) (xs.map (xv env)) imp lvl env loc out d K:=by
 rw[Yc rfl]
 simp only[ev]
 generalize xv env f=v
 cases v <;> rfl
theorem ZuT{fid:FuncId}{caps xs:List IV}{imp:Bool}:ZjQ C (.fn fid caps) xs imp lvl env loc out d K=kce C fid imp lvl env loc out d K (xs++caps):=(rfl)
def kcs(C:ZK)(fid:FuncId)(imp:Bool)(lvl:Nat)(env:List (Nat×IV))(loc:List (Nat×Ob))(out:Zc)(d:Option Nat)(K:St->Prop)(args:List IV):Prop :=
 ∃ r,C fid (lvl+1) args (Zy lvl loc out) r (Zy lvl loc out)/\freshK (keyOf d) loc (impv imp lvl (keyOf d) 0 r).2.length/\K ⟨lvl,ptd d (impv imp lvl (keyOf d) 0 r).1 env,addO (keyOf d) (impv imp lvl (keyOf d) 0 r).2 loc,out⟩
theorem ZuU{fid:FuncId}{imp:Bool}{args:List IV}{r:IV}(h:C fid (lvl+1) args (Zy lvl loc out) r (Zy lvl loc out))
  (hk:freshK (keyOf d) loc (impv imp lvl (keyOf d) 0 r).2.length/\K ⟨lvl,ptd d (impv imp lvl (keyOf d) 0 r).1 env,addO (keyOf d) (impv imp lvl (keyOf d) 0 r).2 loc,out⟩):kcs C fid imp lvl env loc out d K args:=⟨r,h,hk⟩
def ZjR(C:ZK)(f:IV)(xs:List IV)(imp:Bool)(lvl:Nat)(env:List (Nat×IV))(loc:List (Nat×Ob))(out:Zc)(d:Option Nat)(K:St->Prop):Prop :=
 match f with
 | .fn fid caps=>kcs C fid imp lvl env loc out d K (xs.map Vl++caps)
 | _=>False
theorem ZuV{imp:Bool}{f:X}{xs:List X}:ZA C d (.ca .same imp f xs) ⟨lvl,env,loc,out⟩ K=ZjR C (xv env f) (xs.map (xv env)) imp lvl env loc out d K:=by
 rw[J8 rfl]
 simp only[ew]
 generalize xv env f=v
 cases v <;> rfl
theorem ZuW{fid:FuncId}{caps xs:List IV}{imp:Bool}:ZjR C (.fn fid caps) xs imp lvl env loc out d K=kcs C fid imp lvl env loc out d K (xs.map Vl++caps):=(rfl)
def ZjS(C:ZK)(f:IV)(xs:List IV)(imp:Bool)(lvl:Nat)(env:List (Nat×IV))(loc:List (Nat×Ob))(out:Zc)(d:Option Nat)(K:St->Prop):Prop :=
 match f with
 | .fn fid caps=>kcs C fid imp lvl env loc out d K (xs++caps)
 | _=>False
theorem ZuX{imp:Bool}{f:X}{xs:List X}:ZA C d (.ca .keep imp f xs) ⟨lvl,env,loc,out⟩ K=ZjS C (xv env f) (xs.map (xv env)) imp lvl env loc out d K:=by
 rw[J8 rfl]
 simp only[ew]
 generalize xv env f=v
 cases v <;> rfl
theorem ZuY{fid:FuncId}{caps xs:List IV}{imp:Bool}:ZjS C (.fn fid caps) xs imp lvl env loc out d K=kcs C fid imp lvl env loc out d K (xs++caps):=(rfl)
def Uc(C:ZK)(fid:FuncId)(imp:Bool)(lvl:Nat)(env:List (Nat×IV))(loc:List (Nat×Ob))(out:Zc)(d:Option Nat)(K:St->Prop)(args:List IV):Prop :=
 ∃ r loc' out',(∀ i,i.1=lvl->out' i=out i)/\C fid (lvl+1) args (Zy lvl loc out) r (Zy lvl loc' out')/\freshK (keyOf d) loc' (impv imp lvl (keyOf d) 0 r).2.length/\K ⟨lvl,ptd d (impv imp lvl (keyOf d) 0 r).1 env,addO (keyOf d) (impv imp lvl (keyOf d) 0 r).2 loc',out'⟩
theorem X5{fid:FuncId}{imp:Bool}{args:List IV}{r:IV}(loc':List (Nat×Ob))(out':Zc)(ho:∀ i,i.1=lvl->out' i=out i)(h:C fid (lvl+1) args (Zy lvl loc out) r (Zy lvl loc' out'))
  (hk:freshK (keyOf d) loc' (impv imp lvl (keyOf d) 0 r).2.length/\K ⟨lvl,ptd d (impv imp lvl (keyOf d) 0 r).1 env,addO (keyOf d) (impv imp lvl (keyOf d) 0 r).2 loc',out'⟩):Uc C fid imp lvl env loc out d K args:=⟨r,loc',out',ho,h,hk⟩
def ZjT(C:ZK)(f:IV)(xs:List IV)(imp:Bool)(lvl:Nat)(env:List (Nat×IV))(loc:List (Nat×Ob))(out:Zc)(d:Option Nat)(K:St->Prop):Prop :=
 match f with
 | .fn fid caps=>Uc C fid imp lvl env loc out d K (xs.map Vl++caps)
 | _=>False
theorem ZuZ{imp:Bool}{f:X}{xs:List X}:ZA C d (.ca .any imp f xs) ⟨lvl,env,loc,out⟩ K=ZjT C (xv env f) (xs.map (xv env)) imp lvl env loc out d K:=by
 rw[J8 rfl]
 simp only[ew]
 generalize xv env f=v
 cases v <;> rfl
theorem Zu0{fid:FuncId}{caps xs:List IV}{imp:Bool}:ZjT C (.fn fid caps) xs imp lvl env loc out d K=Uc C fid imp lvl env loc out d K (xs.map Vl++caps):=(rfl)
def kfe(K:IV->Zc->Prop)(l:List IV)(st:St):Prop:=match l with | [x]=>K x st.out | xs=>K (.tu xs) st.out
theorem Zu1{rs:List RS}{K:IV->Zc->Prop}:Ja rs st K=XN rs st (kfe K):=(rfl)
theorem Zu2{K:IV->Zc->Prop}:kfe K [] ⟨lvl,env,loc,out⟩=K (.tu []) out:=(rfl)
theorem Zu3{K:IV->Zc->Prop}{x:IV}:kfe K [x] ⟨lvl,env,loc,out⟩=K x out:=(rfl)
theorem Zu4{K:IV->Zc->Prop}{x y:IV}{r:List IV}:kfe K (x::y::r) ⟨lvl,env,loc,out⟩=K (.tu (x::y::r)) out:=(rfl)
def kex(rs:List RS)(F:List IV->St->Prop)(x:IV)(st:St):Prop:=XN rs st fun xs st'' => F (x::xs) st''
def kcx(x:IV)(F:List IV->St->Prop)(l:List IV)(st:St):Prop:=F (x::l) st
theorem Zu5{x:IV}{F:List IV->St->Prop}{l:List IV}:kcx x F l st=F (x::l) st:=(rfl)
theorem Zu6{F:List IV->St->Prop}:XN [] st F=F [] st:=(rfl)
theorem Zu7{r:RS}{rs:List RS}{F:List IV->St->Prop}:XN (r::rs) st F=XM r st (kex rs F):=(rfl)
theorem Zu8{rs:List RS}{F:List IV->St->Prop}{x:IV}:kex rs F x st=XN rs st (kcx x F):=(rfl)
theorem Zu9{n:Nat}{ks:List Nat}{F:IV->St->Prop}:XM (.t n ks) ⟨lvl,env,loc,out⟩ F=Y2 ks (lk n env) ⟨lvl,env,loc,out⟩ F:=(rfl)
def exb(o:Option Ob)(off:Nat)(m:Option Nat)(ks:List Nat)(st:St)(F:IV->St->Prop):Prop :=
 match o,m with
 | some (.bx cells),some m=>off+m<=cells.length/\Y2 ks (.ag ((cells.drop off).take m)) st F
 | some (.bx cells),none=>Z9 cells[off]? fun x=>isCell x=true/\Y2 ks x st F
 | _,_=>False
def ZjU(ks:List Nat)(st:St)(F:IV->St->Prop)(x:IV):Prop:=isCell x=true/\Y2 ks x st F
theorem Zva{ks:List Nat}{F:IV->St->Prop}{x:IV}:ZjU ks st F x=(isCell x=true/\Y2 ks x st F):=(rfl)
theorem Zvb{cells:List IV}{off m:Nat}{ks:List Nat}{F:IV->St->Prop}:exb (some (.bx cells)) off (some m) ks st F=(off+m<=cells.length/\Y2 ks (.ag ((cells.drop off).take m)) st F):=(rfl)
theorem Zvc{cells:List IV}{off:Nat}{ks:List Nat}{F:IV->St->Prop}:exb (some (.bx cells)) off none ks st F=Z9 cells[off]? (ZjU ks st F):=(rfl)
def exk(x:IV)(st:St)(F:IV->St->Prop):Prop :=
 match x with
 | .cs es=>F (.cs es) st
 | _=>False
theorem Zvd{n:Nat}{F:IV->St->Prop}:XM (.k n) ⟨lvl,env,loc,out⟩ F=exk (lk n env) ⟨lvl,env,loc,out⟩ F:=(rfl)
theorem Zve{es:Row}{F:IV->St->Prop}:exk (.cs es) st F=F (.cs es) st:=(rfl)
def exc(v:IV)(m:Option Nat)(ks:List Nat)(st:St)(F:IV->St->Prop):Prop :=
 match v with
 | .ab id off=>exb (st.sto id) off m ks st F
 | _=>False
theorem Zvf{n:Nat}{m:Option Nat}{ks:List Nat}{F:IV->St->Prop}:XM (.c n m ks) ⟨lvl,env,loc,out⟩ F=exc (lk n env) m ks ⟨lvl,env,loc,out⟩ F:=by
 simp only[XM]
 generalize lk n env=v
 cases v <;> try rfl
 rename_i id off
 dsimp only[exc]
 generalize (⟨lvl,env,loc,out⟩:St).sto id=o
 cases o with
 | none=>rfl
 | some ob =>
  cases ob with
  | ar=>cases m <;> rfl
  | bx cells =>
   cases m with
   | some m=>rfl
   | none=>exact YX
theorem Zvg{id:Zd}{off:Nat}{m:Option Nat}{ks:List Nat}{F:IV->St->Prop}:exc (.ab id off) m ks ⟨lvl,env,loc,out⟩ F=exb (Zy lvl loc out id) off m ks ⟨lvl,env,loc,out⟩ F:=(rfl)
def ZjV(F:IV->St->Prop)(l:List IV)(st:St):Prop:=F (.ag l) st
theorem Zvh{F:IV->St->Prop}{l:List IV}:ZjV F l st=F (.ag l) st:=(rfl)
theorem Zvi{ks:List Nat}{l:List IV}{F:IV->St->Prop}:Y2 ks (.ag l) st F=Xa ks l st (ZjV F):=(rfl)
theorem Zvj{ks:List Nat}{t:Tr}{F:IV->St->Prop}:Y2 ks (.tr t) st F=F (.tr t) st:=(rfl)
theorem Zvk{ks:List Nat}{es:Row}{F:IV->St->Prop}:Y2 ks (.cs es) st F=Yt (ks.headD 0) (.cs es) st F:=(rfl)
theorem Zvl{ks:List Nat}{id:Zd}{p:Zk}{off len s:Nat}{cap:Option Nat}{F:IV->St->Prop}:Y2 ks (.hd id p off len cap s) st F=Yt (ks.headD 0) (.hd id p off len cap s) st F:=(rfl)
theorem Zvm{ks:List Nat}{F:IV->St->Prop}:Y2 ks .er st F=F .er st:=(rfl)
theorem Zvn{ks:List Nat}{f:FuncId}{c:List IV}{F:IV->St->Prop}:Y2 ks (.fn f c) st F=(Jn st.lvl c/\F (.fn f c) st):=(rfl)
theorem Zvo{ks:List Nat}{F:IV->St->Prop}:Y2 ks .un st F=F .un st:=(rfl)
def kxc(ks:List Nat)(r:List IV)(F:List IV->St->Prop)(y:IV)(st:St):Prop:=Xa ks r st (kcx y F)
theorem Zvp{ks:List Nat}{r:List IV}{F:List IV->St->Prop}{y:IV}:kxc ks r F y st=Xa ks r st (kcx y F):=(rfl)
theorem Zvq{ks:List Nat}{F:List IV->St->Prop}:Xa ks [] st F=F [] st:=by cases ks <;> rfl
theorem Zvr{ks:List Nat}{x:IV}{r:List IV}{F:List IV->St->Prop}:Xa ks (x::r) st F=Yt (ks.headD 0) x st (kxc ks.tail r F):=(rfl)
theorem Zvs{k:Nat}{t:Tr}{F:IV->St->Prop}:Yt k (.tr t) st F=F (.tr t) st:=(rfl)
theorem Zvt{k:Nat}{F:IV->St->Prop}:Yt (k+1) (.cs []) st F=F (.ow k [] true) st:=(rfl)
theorem Zvu{es:Row}{F:IV->St->Prop}:Yt 0 (.cs es) st F=F (.tr (.sl es)) st:=(rfl)
theorem Zvv{F:IV->St->Prop}:Yt 1 (.cs []) st F=F (.ow 0 [] true) st:=(rfl)
theorem Zvw{F:IV->St->Prop}:Yt 2 (.cs []) st F=F (.ow 1 [] true) st:=(rfl)
theorem Zvx{F:IV->St->Prop}:Yt 3 (.cs []) st F=F (.ow 2 [] true) st:=(rfl)
theorem Zvy{F:IV->St->Prop}:Yt 4 (.cs []) st F=F (.ow 3 [] true) st:=(rfl)
theorem Zvz{F:IV->St->Prop}:Yt 5 (.cs []) st F=F (.ow 4 [] true) st:=(rfl)
theorem ZvA{F:IV->St->Prop}:Yt 6 (.cs []) st F=F (.ow 5 [] true) st:=(rfl)
theorem ZvB{F:IV->St->Prop}:Yt 7 (.cs []) st F=F (.ow 6 [] true) st:=(rfl)
theorem ZvC{k:Nat}{F:IV->St->Prop}:Yt k .er st F=F .er st:=(rfl)
theorem ZvD{k:Nat}{F:IV->St->Prop}:Yt k .un st F=F .un st:=(rfl)
def exh(o:Option Ob)(k:Nat)(p:Zk)(off len:Nat)(cap:Option Nat)(s:Nat)(st1:St)(F:IV->St->Prop):Prop :=
 match o with
 | some (.ar k' es u hw _)=>p=[]/\s=hw/\(match k with
  | 0=>off+len<=es.length/\F (.tr (.sl (cut es off len))) st1
  | k1+1=>k1=k'/\off=0/\len=es.length/\cap=none/\F (.ow k' es u) st1)
 | _=>False
theorem ZvE{k key:Nat}{p:Zk}{off len s:Nat}{cap:Option Nat}{F:IV->St->Prop}:Yt k (.hd (lvl,key) p off len cap s) ⟨lvl,env,loc,out⟩ F=exh (lkO key loc) k p off len cap s (ZF (lvl,key) ⟨lvl,env,loc,out⟩) F:=by
 unfold Yt
 dsimp only
 rw[if_pos rfl]
 have:(⟨lvl,env,loc,out⟩:St).sto (lvl,key)=lkO key loc:=J7
 rw[this]
 generalize lkO key loc=o
 cases o with
 | none=>rfl
 | some ob=>cases ob <;> cases k <;> rfl
theorem ZvF{k':Nat}{es:Row}{u:Bool}{hw ver:Nat}{p:Zk}{off len s:Nat}{cap:Option Nat}{st1:St}{F:IV->St->Prop}:exh (some (.ar k' es u hw ver)) 0 p off len cap s st1 F=(p=[]/\s=hw/\off+len<=es.length/\F (.tr (.sl (cut es off len))) st1):=(rfl)
theorem ZvG{k k':Nat}{es:Row}{u:Bool}{hw ver:Nat}{p:Zk}{off len s:Nat}{cap:Option Nat}{st1:St}{F:IV->St->Prop}:exh (some (.ar k' es u hw ver)) (k+1) p off len cap s st1 F=(p=[]/\s=hw/\k=k'/\off=0/\len=es.length/\cap=none/\F (.ow k' es u) st1):=(rfl)
theorem Zal{k:Nat}{id:Zd}{p:Zk}{off len s:Nat}{cap:Option Nat}{F:IV->St->Prop}(h:id.1≠lvl):Yt k (.hd id p off len cap s) ⟨lvl,env,loc,out⟩ F=F (.hd id p off len cap s) ⟨lvl,env,loc,out⟩:=by
 unfold Yt
 dsimp only
 rw[if_neg h]
def memB(t:Nat):List Nat->Bool
 | []=>false
 | a::r=>if t=a then true else memB t r
theorem Ud{t:Nat}:∀{l:List Nat},memB t l=true↔t∈l
 | []=>by simp [memB]
 | a::r=>by
  simp only[memB,UaE]
  by_cases h:t=a
  ·simp [h]
  ·rw[if_neg h,Ud];simp [h]
def keepB(ks:List Nat):List (Nat×IV)->List (Nat×IV)
 | []=>[]
 | (t,x)::r=>if memB t ks=true then (t,x)::keepB ks r else keepB ks r
def keepOB(ks:List Nat):List (Nat×Ob)->List (Nat×Ob)
 | []=>[]
 | (t,x)::r=>if memB t ks=true then (t,x)::keepOB ks r else keepOB ks r
theorem ZeZ{ks:List Nat}:∀{e:List (Nat×IV)},Q8 ks e=keepB ks e
 | []=>rfl
 | (t,x)::r=>by
  simp only[Q8,keepB,ZeZ (e:=r),Ud]
theorem Ze0{ks:List Nat}:∀{e:List (Nat×Ob)},XL ks e=keepOB ks e
 | []=>rfl
 | (t,x)::r=>by
  simp only[XL,keepOB,Ze0 (e:=r),Ud]
theorem ZvH{ks js:List Nat}:fgt ks js ⟨lvl,env,loc,out⟩=⟨lvl,keepB ks env,keepOB js loc,out⟩:=by
 simp only[fgt,ZeZ,Ze0]
theorem ZvI{ks js:List Nat}:clean ks js ⟨lvl,env,loc,out⟩=(W2 lvl js (keepB ks env)/\Q9 lvl js (keepOB js loc)):=by
 simp only[clean,ZeZ,Ze0]
theorem ZvJ{js:List Nat}{k:Nat}{p:Zk}{off len s:Nat}{cap:Option Nat}:Yb lvl js (.hd (lvl,k) p off len cap s)=(memB k js=true):=by
 apply propext
 simp only[Yb,men,forall_const,Ud]
theorem ZvK{js:List Nat}{k off:Nat}:Yb lvl js (.ab (lvl,k) off)=(memB k js=true):=by
 apply propext
 simp only[Yb,men,forall_const,Ud]
theorem ZvL{js:List Nat}{k:Nat}:Yb lvl js (.sv (lvl,k))=(memB k js=true):=by
 apply propext
 simp only[Yb,men,forall_const,Ud]
theorem ZvM{js:List Nat}{k:Nat}{p:Zk}{i f s:Nat}:Yb lvl js (.ae (lvl,k) p i f s)=(memB k js=true):=by
 apply propext
 simp only[Yb,men,forall_const,Ud]
theorem Jv{js:List Nat}{id:Zd}{p:Zk}{off len s:Nat}{cap:Option Nat}(h:id.1≠lvl):Yb lvl js (.hd id p off len cap s)=True:=by
 apply propext
 simp only[Yb,men,iff_true]
 exact fun hh=>absurd hh h
theorem ZvN{js:List Nat}{t:Tr}:Yb lvl js (.tr t)=True:=(rfl)
theorem ZvO{js:List Nat}{es:Row}:Yb lvl js (.cs es)=True:=(rfl)
theorem ZvP{js:List Nat}{l:List IV}:Yb lvl js (.ag l)=VQ lvl js l:=by simp only[Yb,VQ,men]
theorem ZvQ{js:List Nat}{l:List IV}:Yb lvl js (.tu l)=VQ lvl js l:=by simp only[Yb,VQ,men]
theorem ZvR{js:List Nat}{f:FuncId}{l:List IV}:Yb lvl js (.fn f l)=VQ lvl js l:=by simp only[Yb,VQ,men]
theorem ZvS{js:List Nat}:Yb lvl js .un=True:=(rfl)
theorem ZvT{js:List Nat}:Yb lvl js .er=True:=(rfl)
theorem ZvU{js:List Nat}{l:List Tr}:Yb lvl js (.ta l)=True:=(rfl)
theorem ZvV{js:List Nat}:VQ lvl js []=True:=(rfl)
theorem ZvW{js:List Nat}{x:IV}{r:List IV}:VQ lvl js (x::r)=(Yb lvl js x/\VQ lvl js r):=(rfl)
theorem ZvX{js:List Nat}:W2 lvl js []=True:=(rfl)
theorem ZvY{js:List Nat}{t:Nat}{x:IV}{r:List (Nat×IV)}:W2 lvl js ((t,x)::r)=(Yb lvl js x/\W2 lvl js r):=(rfl)
theorem ZvZ{js:List Nat}:Q9 lvl js []=True:=(rfl)
theorem Zv0{js:List Nat}{t:Nat}{x:List IV}{r:List (Nat×Ob)}:Q9 lvl js ((t,.bx x)::r)=(VQ lvl js x/\Q9 lvl js r):=(rfl)
theorem Zv1{js:List Nat}{t k:Nat}{es:Row}{u:Bool}{hw ver:Nat}{r:List (Nat×Ob)}:Q9 lvl js ((t,.ar k es u hw ver)::r)=Q9 lvl js r:=(rfl)
def Ue(ks js:List Nat)(J:St->Prop)(Q:Ex->St->Prop):Ex->St->Prop:=fun e s' => match e with | .nrm=>clean ks js s'/\J (fgt ks js s') | e=>Q e s'
theorem Zv2{ks js:List Nat}{J:St->Prop}:Ue ks js J Q .nrm st=(clean ks js st/\J (fgt ks js st)):=(rfl)
theorem Zv3{ks js:List Nat}{J:St->Prop}{i:Nat}:Ue ks js J Q (.ext i) st=Q (.ext i) st:=(rfl)
theorem Zv4{ks js:List Nat}{J:St->Prop}:Ue ks js J Q .ret st=Q .ret st:=(rfl)
theorem Zv5{ks js:List Nat}{c:C2}(I:Nat->St->Prop)(n0:Nat)(h0:clean ks js st/\I n0 (fgt ks js st))(hs:∀ n s,I n s->wp C c s (Ue ks js (fun s' => ∃ m,m<n/\I m s') Q)):wp C (.lp ks js c) st Q:=by
 refine⟨I,⟨h0.1,n0,h0.2⟩,fun n s hI=>?_⟩
 have h:=hs n s hI
 have e:(Ue ks js (fun s' => ∃ m,m<n/\I m s') Q)=fun e s' => match e with | .nrm=>clean ks js s'/\∃ m,m<n/\I m (fgt ks js s') | e=>Q e s':=by
  funext e s';cases e <;> rfl
 rw[e] at h
 exact h
def Zb3{α:Type}(N:Nat)(mk:Nat->α->St)(A:Nat->α->Prop)(n:Nat)(s':St):Prop:=∃ m,m<n/\∃ k x,k+m=N/\s'=mk k x/\A k x
theorem Zu{α:Type}{N:Nat}{mk:Nat->α->St}{A:Nat->α->Prop}{k:Nat}{s':St}(y:α)(hk:k<N)(h:s'=mk (k+1) y)(ha:A (k+1) y):Zb3 N mk A (N-k) s':=⟨N-(k+1),by omega,k+1,y,by omega,h,ha⟩
theorem Yn{α:Type}{ks js:List Nat}{c:C2}(N:Nat)(mk:Nat->α->St)(A:Nat->α->Prop)(x0:α)(h0:clean ks js st/\fgt ks js st=mk 0 x0)(hA:A 0 x0)
  (hs:∀ k x,k<=N->A k x->wp C c (mk k x) (Ue ks js (Zb3 N mk A (N-k)) Q)):wp C (.lp ks js c) st Q:=by
 refine Zv5 (fun n s=>∃ k x,k+n=N/\s=mk k x/\A k x) N ⟨h0.1,0,x0,by omega,h0.2,hA⟩ (fun n s ⟨k,x,hk,he,ha⟩=>?_)
 subst he
 have h:=hs k x (by omega) ha
 have hn:N-k=n:=by omega
 rw[hn] at h
 exact h
end
end Go.Fd
