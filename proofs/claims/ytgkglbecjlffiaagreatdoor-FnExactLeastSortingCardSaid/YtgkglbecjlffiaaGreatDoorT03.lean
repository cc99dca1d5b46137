/-
  FOUNDATION 38: regions that draw their order and turn nothing. Own work.
-/
import Derived.Test.YtgkglbecjlffiaaGreatDoorT02
import Derived.Orders
import Derived.Deep.LoopGhost
import Derived.Laws.Sem
set_option linter.all false
namespace Go.Fd
variable [Tabs]
def ZS(ρ:Nat->IV):X->IV
 | .t n=>ρ n
 | .k v=>kv v
 | .f i=>.fn i []
theorem Vx(env:List (Nat×IV)):xv env=ZS (fun t=>lk t env):=by
 funext x;cases x <;> rfl
def Vf(C:ZD)(o:O)(ρ:Nat->IV)(L:Zc)(lvl key:Nat)(y:IV)(obs:List Ob):Prop :=
 ∃ mk ob,mk lvl key=y/\ob lvl key=obs/\ev C (ZS ρ) L (fun m b=>m=mk/\b=ob) o
def Eff(C:ZD)(o:OP)(ρ:Nat->IV)(L:Zc)(lvl:Nat)(y:IV)(obs:List Ob):Prop :=
 match o.g with
 | none=>Vf C o.o ρ L lvl (keyOf o.d) y obs
 | some (j,w)=>(ρ j=iB w/\Vf C o.o ρ L lvl (keyOf o.d) y obs)\/((ρ j=iB (!w)\/ρ j = .tu [])/\y = .tu []/\obs=[])
def Jo(d:Option Nat)(y:IV)(ρ:Nat->IV):Nat->IV:=fun t=>if d=some t then y else ρ t
def ZL(b:Nat)(obs:List Ob)(σ:Nat->Option Ob):Nat->Option Ob:=fun k=>if b<=k/\k<b+obs.length then obs[k-b]? else σ k
def ZX(lvl:Nat)(σ:Nat->Option Ob)(out:Zc):Zc:=fun id=>if id.1=lvl then σ id.2 else out id
abbrev Vy(b n:Nat)(σ:Nat->Option Ob):Prop:=∀ k,b<=k->k<b+n->σ k=none
theorem Xu(st:St):st.sto=ZX st.lvl (fun k=>lkO k st.loc) st.out:=rfl
theorem Xv(d:Option Nat)(y:IV)(env:List (Nat×IV)):(fun t=>lk t (ptd d y env))=Jo d y (fun t=>lk t env):=by
 funext t
 unfold ptd Jo
 cases d with
 | none=>rfl
 | some d =>
  simp only[Uak]
  rw[X3]
  by_cases h:t=d
  ·rw[if_pos h,if_pos h.symm]
  ·rw[if_neg h,if_neg (fun e=>h e.symm)]
theorem Zav:∀(obs:List Ob) (b:Nat) (loc:List (Nat×Ob)),(fun k=>lkO k (addO b obs loc))=ZL b obs (fun k=>lkO k loc)
 | [],b,loc=>by
  funext k
  simp only[addO,ZL,List.length_nil]
  rw[if_neg (by omega)]
 | o::r,b,loc=>by
  rw[addO,Zav r (b+1) (ptO b o loc)]
  funext k
  simp only[ZL,List.length_cons]
  by_cases h1:b+1<=k/\k<b+1+r.length
  ·rw[if_pos h1,if_pos ⟨by omega,by omega⟩,show k-b=(k-(b+1))+1 from by omega]
   simp
  ·rw[if_neg h1,Uz]
   by_cases h2:k=b
   ·rw[if_pos h2,if_pos ⟨by omega,by omega⟩,h2];simp
   ·rw[if_neg h2,if_neg (by omega)]
theorem freshK_F:∀{n b:Nat} {loc:List (Nat×Ob)},freshK b loc n↔Vy b n (fun k=>lkO k loc)
 | 0,b,loc=>by simp only[freshK,Vy,true_iff];intro k h1 h2;omega
 | n+1,b,loc=>by
  simp only[freshK,freshK_F (n:=n)]
  constructor
  ·rintro⟨h1,h2⟩ k h3 h4
   by_cases h:k=b
   ·subst h;exact h1
   ·exact h2 k (by omega) (by omega)
  ·intro h
   exact⟨h b (by omega) (by omega),fun k h1 h2=>h k (by omega) (by omega)⟩
theorem UQ{j:Nat}{x:IV}{env:List (Nat×IV)}(h:lk j env=x):(fun t=>lk t (pt j x env))=fun t=>lk t env:=by
 funext t;rw[X3];split
 ·rename_i ht;rw[ht,h]
 ·rfl
section
variable {C:ZD} {st:St} {o:OP} {K:St->Prop}
structure Step1 (o:OP) (st st':St) (y:IV) (obs:List Ob):Prop where
 lvl:st'.lvl=st.lvl
 out:st'.out=st.out
 env:(fun t=>lk t st'.env)=Jo o.d y (fun t=>lk t st.env)
 loc:(fun k=>lkO k st'.loc)=ZL (keyOf o.d) obs (fun k=>lkO k st.loc)
theorem Zf2{d:Option Nat}{oo:O}{env:List (Nat×IV)}{K:St->Prop}(h:ev C (xv env) st.sto (fun mk obs=>freshK (keyOf d) st.loc (obs st.lvl (keyOf d)).length/\K { st with env:=ptd d (mk st.lvl (keyOf d)) env,loc:=addO (keyOf d) (obs st.lvl (keyOf d)) st.loc }) oo) :
  ∃ y obs,Vf C oo (fun t=>lk t env) st.sto st.lvl (keyOf d) y obs/\Vy (keyOf d) obs.length (fun k=>lkO k st.loc)/\K { st with env:=ptd d y env,loc:=addO (keyOf d) obs st.loc }:=by
 obtain⟨⟨mk,ob⟩,⟨h1,h2⟩,h3⟩:=(Zcv (C:=C) (ρ:=xv env) (L:=st.sto) oo).ex (K:=fun r:MO=>freshK (keyOf d) st.loc (r.2 st.lvl (keyOf d)).length/\K { st with env:=ptd d (r.1 st.lvl (keyOf d)) env,loc:=addO (keyOf d) (r.2 st.lvl (keyOf d)) st.loc }) h
 refine⟨mk st.lvl (keyOf d),ob st.lvl (keyOf d),⟨mk,ob,rfl,rfl,?_⟩,freshK_F.1 h1,h2⟩
 rw[<-Vx]
 exact(Zcv (C:=C) (ρ:=xv env) (L:=st.sto) oo).mono (K:=fun s=>s=(mk,ob)) (K':=fun r:MO=>r.1=mk/\r.2=ob) (fun r hr=>by rw[hr];exact⟨rfl,rfl⟩) h3
theorem Zl7(hl:Jr o.o=false)(h:JV C o st K):∃ y obs st',K st'/\Eff C o (fun t=>lk t st.env) st.sto st.lvl y obs/\Vy (keyOf o.d) obs.length (fun k=>lkO k st.loc)/\Step1 o st st' y obs:=by
 have hnil:∀ σ:Nat->Option Ob,ZL (keyOf o.d) [] σ=σ:=fun σ=>by funext k;simp only[ZL,List.length_nil];rw[if_neg (by omega)]
 unfold JV at h
 unfold Eff
 split at h
 ·rename_i hg
  rw[hg]
  unfold Zu at h
  rw[if_neg (by rw[hl];decide)] at h
  obtain⟨y,obs,h1,h2,h3⟩:=Zf2 h
  exact⟨y,obs,_,h3,h1,h2,⟨rfl,rfl,Xv _ _ _,Zav _ _ _⟩⟩
 ·rename_i j w hg
  rw[hg]
  dsimp only
  split at h <;> try contradiction
  ·rename_i c hc
   by_cases hcw:c=w
   ·subst hcw
    have h:=h.1 rfl
    unfold Zu at h
    rw[if_neg (by rw[hl];decide)] at h
    obtain⟨y,obs,h1,h2,h3⟩:=Zf2 (st:={ st with env:=pt j (iB c) st.env }) h
    rw[UQ hc] at h1
    exact⟨y,obs,_,h3,.inl ⟨hc,h1⟩,h2,⟨rfl,rfl,by rw[Xv];dsimp only;rw[UQ hc],Zav _ _ _⟩⟩
   ·have hcw':c = !w:=by cases c <;> cases w <;> simp_all
    subst hcw'
    exact⟨.tu [],[],_,h.2 rfl,.inr ⟨.inl hc,rfl,rfl⟩,fun k h1 h2=>by simp at h2;omega,⟨rfl,rfl,by rw[Xv];rw[UQ hc],(hnil _).symm⟩⟩
  ·rename_i hc
   exact⟨.tu [],[],_,h,.inr ⟨.inr hc,rfl,rfl⟩,fun k h1 h2=>by simp at h2;omega,⟨rfl,rfl,Xv _ _ _,(hnil _).symm⟩⟩
theorem Zl8(hl:Jr o.o=false){y:IV}{obs:List Ob}(h:Eff C o (fun t=>lk t st.env) st.sto st.lvl y obs)(hf:Vy (keyOf o.d) obs.length (fun k=>lkO k st.loc)):JV C o st (fun st' => Step1 o st st' y obs):=by
 have hnil:∀ σ:Nat->Option Ob,ZL (keyOf o.d) [] σ=σ:=fun σ=>by funext k;simp only[ZL,List.length_nil];rw[if_neg (by omega)]
 have back:∀(env:List (Nat×IV)),(fun t=>lk t env)=(fun t=>lk t st.env)->Vf C o.o (fun t=>lk t st.env) st.sto st.lvl (keyOf o.d) y obs->Zu C o.d o.o { st with env:=env } (fun st' => Step1 o st st' y obs):=fun env he ha=>by
  obtain⟨mk,ob,rfl,rfl,ha⟩:=ha
  unfold Zu
  rw[if_neg (by rw[hl];decide)]
  rw[Vx]
  dsimp only
  rw[he]
  refine(Zcv (C:=C) (ρ:=ZS fun t=>lk t st.env) (L:=st.sto) o.o).mono (K:=fun r:MO=>r.1=mk/\r.2=ob) (K':=fun r:MO=>freshK (keyOf o.d) st.loc (r.2 st.lvl (keyOf o.d)).length/\Step1 o st { st with env:=ptd o.d (r.1 st.lvl (keyOf o.d)) env,loc:=addO (keyOf o.d) (r.2 st.lvl (keyOf o.d)) st.loc } (mk st.lvl (keyOf o.d)) (ob st.lvl (keyOf o.d))) ?_ ha
  rintro⟨m,b⟩ ⟨rfl,rfl⟩
  exact⟨freshK_F.2 hf,⟨rfl,rfl,by rw[Xv,he],Zav _ _ _⟩⟩
 unfold JV
 unfold Eff at h
 split
 ·rename_i hg
  rw[hg] at h
  exact back st.env rfl h
 ·rename_i j w hg
  rw[hg] at h
  rcases h with ⟨h1,h2⟩ | ⟨h1 | h1,rfl,rfl⟩
  ·dsimp only at h1 ⊢
   rw[h1]
   dsimp only
   exact⟨fun _=>back _ (UQ h1) h2,fun hc=>by cases w <;> cases hc⟩
  ·dsimp only at h1 ⊢
   rw[h1]
   dsimp only
   refine⟨fun hc=>(by cases w <;> cases hc),fun _=>⟨rfl,rfl,by rw[Xv,UQ h1],(hnil _).symm⟩⟩
  ·dsimp only at h1 ⊢
   rw[h1]
   exact⟨rfl,rfl,Xv _ _ _,(hnil _).symm⟩
def Xw:List X->List Nat
 | []=>[]
 | .t n::r=>n::Xw r
 | _::r=>Xw r
def rds(o:OP):List Nat :=
 match o.g with
 | some (j,_)=>j::Xw (rd o.o)
 | none=>Xw (rd o.o)
def X8(d:Option Nat)(o:OP):Bool :=
 match d with
 | some d=>!(rds o).contains d
 | none=>true
def YU(p o:OP):Bool:=X8 p.d o&&X8 o.d p&&(match p.d,o.d with | some a,some b=>a != b | _,_=>true)
theorem UR{n:Nat}:∀{l:List X},X.t n∈l->n∈Xw l
 | [],h=>by cases h
 | .t m::r,h=>by
  simp only[Xw]
  cases h with
  | head=>exact List.mem_cons_self
  | tail _ h=>exact UbQ _ (UR h)
 | .k v::r,h=>by
  simp only[Xw]
  cases h with
  | tail _ h=>exact UR h
 | .f i::r,h=>by
  simp only[Xw]
  cases h with
  | tail _ h=>exact UR h
theorem Zl9{Q:Zd->Prop}(v:Value):men Q (kv v):=by
 have hkc:∀ u,men Q (kc u):=fun u=>by unfold kc;split <;> trivial
 unfold kv
 split
 ·rename_i c
  simp only[men]
  induction c.toList with
  | nil=>trivial
  | cons x r ih=>exact⟨hkc x,ih⟩
 ·exact hkc _
theorem Y3{d:Option Nat}{y:IV}{ρ:Nat->IV}(h:X8 d o=true):(∀ x∈rd o.o,ZS (Jo d y ρ) x=ZS ρ x)/\∀ j w,o.g=some (j,w)->Jo d y ρ j=ρ j:=by
 have key:∀ n∈rds o,Jo d y ρ n=ρ n:=fun n hn=>by
  unfold Jo
  rw[if_neg]
  rintro rfl
  simp [X8,hn] at h
 refine⟨fun x hx=>?_,fun j w hg=>key j (by simp [rds,hg])⟩
 cases x with
 | t n =>
  refine key n ?_
  unfold rds
  split
  ·exact UbQ _ (UR hx)
  ·exact UR hx
 | k v=>rfl
 | f i=>rfl
theorem Eff.congr{ρ ρ':Nat->IV}{L L':Zc}{lvl:Nat}{y:IV}{obs:List Ob}(hr:∀ x∈rd o.o,ZS ρ' x=ZS ρ x)(hg:∀ j w,o.g=some (j,w)->ρ' j=ρ j)(hs:∀ x∈rd o.o,Qz L L' (ZS ρ x))
  (h:Eff C o ρ L lvl y obs):Eff C o ρ' L' lvl y obs:=by
 have key:Vf C o.o ρ L lvl (keyOf o.d) y obs->Vf C o.o ρ' L' lvl (keyOf o.d) y obs:=fun⟨m0,ob,h1,h2,h3⟩=>⟨m0,ob,h1,h2,Zl0 o.o hr hs h3⟩
 unfold Eff at *
 split at h
 ·exact key h
 ·rename_i j w hgg
  rw[hg j w hgg]
  exact h.imp (fun h=>⟨h.1,key h.2⟩) id
theorem Vz{lvl b:Nat}{obs:List Ob}{σ:Nat->Option Ob}{out:Zc}(hf:Vy b obs.length σ)(id:Zd)(ob:Ob)(h:ZX lvl σ out id=some ob):ZX lvl (ZL b obs σ) out id=some ob:=by
 unfold ZX at *
 split at h
 ·rename_i hi
  rw[if_pos hi]
  unfold ZL
  rw[if_neg]
  ·exact h
  ·rintro⟨h1,h2⟩
   rw[hf _ h1 h2] at h;cases h
 ·rename_i hi;rw[if_neg hi];exact h
def Vg(o:OP):Bool:=(match o.o with | .s0 .. => o.d.isNone | .a0 .. => true | .a1 .. => true | .c0 .. => true | .a2 .. => true | _=>false)&&o.g.isNone
def YV(o:OP):Bool:=!Jr o.o || Vg o
def Jz(lvl:Nat)(id:Zd)(ob:Ob)(σ:Nat->Option Ob):Nat->Option Ob:=fun k=>if id=(lvl,k) then some ob else σ k
def Qb(lvl:Nat)(id:Zd)(ob:Ob)(out:Zc):Zc:=if id.1=lvl then out else Ze out id ob
theorem Xx{lvl:Nat}{id:Zd}{ob:Ob}{σ:Nat->Option Ob}{out:Zc}:ZX lvl (Jz lvl id ob σ) (Qb lvl id ob out)=Ze (ZX lvl σ out) id ob:=by
 funext i
 show (if i.1=lvl then (if id=(lvl,i.2) then some ob else σ i.2) else (if id.1=lvl then out else Ze out id ob) i)=if i=id then some ob else if i.1=lvl then σ i.2 else out i
 by_cases h:i.1=lvl
 ·rw[if_pos h,if_pos h]
  by_cases e:i=id
  ·rw[if_pos e,if_pos (by rw[<-e,<-h])]
  ·rw[if_neg e,if_neg (fun g=>e (by rw[g,<-h]))]
 ·rw[if_neg h,if_neg h]
  by_cases hc:id.1=lvl
  ·rw[if_pos hc,if_neg (fun e=>h (by rw[e];exact hc))]
  ·rw[if_neg hc];rfl
def QS(C:ZD)(lvl:Nat)(o:OP)(ρ:Nat->IV)(σ:Nat->Option Ob)(out:Zc)(ρ1:Nat->IV)(σ1:Nat->Option Ob)(out1:Zc):Prop :=
 (Jr o.o=false/\∃ y obs,Eff C o ρ (ZX lvl σ out) lvl y obs/\Vy (keyOf o.d) obs.length σ/\ρ1=Jo o.d y ρ/\σ1=ZL (keyOf o.d) obs σ/\out1=out) \/
 (Vg o=true/\∃ y id ob,Ju (ZS ρ) (ZX lvl σ out) (fun v i b=>v=y/\i=id/\b=ob) o.o/\ρ1=Jo o.d y ρ/\σ1=Jz lvl id ob σ/\out1=Qb lvl id ob out)
structure At (st:St) (lvl:Nat) (ρ:Nat->IV) (σ:Nat->Option Ob) (out:Zc):Prop where
 lvl:st.lvl=lvl
 env:(fun t=>lk t st.env)=ρ
 loc:(fun k=>lkO k st.loc)=σ
 out:st.out=out
theorem At.refl(st:St):At st st.lvl (fun t=>lk t st.env) (fun k=>lkO k st.loc) st.out:=⟨rfl,rfl,rfl,rfl⟩
theorem Zaw{id:Zd}{ob:Ob}{v:IV}{d:Option Nat}:At { Zg st id ob with env:=ptd d v st.env } st.lvl (Jo d v fun t=>lk t st.env) (Jz st.lvl id ob fun k=>lkO k st.loc) (Qb st.lvl id ob st.out):=by
 refine⟨VM _ _ _,Xv _ _ _,?_,?_⟩
 ·funext k
  unfold Zg Jz
  by_cases h:id.1=st.lvl
  ·rw[if_pos h]
   dsimp only
   rw[Uz]
   by_cases hk:k=id.2
   ·rw[if_pos hk,if_pos (by rw[hk,<-h])]
   ·rw[if_neg hk,if_neg (fun e=>hk (by rw[e]))]
  ·rw[if_neg h,if_neg (fun e=>h (by rw[e]))]
 ·unfold Zg Qb
  by_cases h:id.1=st.lvl
  ·rw[if_pos h,if_pos h]
  ·rw[if_neg h,if_neg h]
theorem Qc(h:Vg o=true):o.g=none/\((∃ m p x,o.o = .s0 m p x/\o.d=none)\/∃ k x y,o.o = .a0 k x y\/o.o = .a1 k x y\/o.o = .c0 k x y\/o.o = .a2 k x y):=by
 unfold Vg at h
 simp only[Uad,Option.isNone_iff_eq_none] at h
 refine⟨h.2,?_⟩
 have h:=h.1
 split at h
 ·rename_i m p x he;exact .inl ⟨m,p,x,he,by simpa using h⟩
 ·rename_i k x y he;exact .inr ⟨k,x,y,.inl he⟩
 ·rename_i k x y he;exact .inr ⟨k,x,y,.inr (.inl he)⟩
 ·rename_i k x y he;exact .inr ⟨k,x,y,.inr (.inr (.inl he))⟩
 ·rename_i k x y he;exact .inr ⟨k,x,y,.inr (.inr (.inr he))⟩
 ·cases h
theorem US(h:Vg o=true):Jr o.o=true:=by
 obtain⟨_,h | h⟩:=Qc h
 ·obtain⟨m,q,x,ho,_⟩:=h;rw[ho];rfl
 ·obtain⟨k,x,z,ho | ho | ho | ho⟩:=h <;> (rw[ho];rfl)
theorem Zf3(h:Vg o=true):JV C o st K=Ju (ZS fun t=>lk t st.env) st.sto (fun v id ob=>K { Zg st id ob with env:=ptd o.d v st.env }) o.o:=by
 obtain⟨hg,h | h⟩:=Qc h
 ·obtain⟨m,p,x,ho,hd⟩:=h
  unfold JV
  rw[hg]
  dsimp only
  unfold Zu
  rw[ho,hd,if_pos (show Jr (O.s0 m p x)=true from rfl)]
  simp only[ew,true_and]
  rw[Vx]
  have:∀(v:IV) (id:Zd) (ob:Ob),({ Zg st id ob with env:=ptd none v st.env }:St)=Zg st id ob:=fun v id ob=>Qa st id ob v
  simp only[this]
 ·obtain⟨k,x,y,ho | ho | ho | ho⟩:=h
  ·unfold JV
   rw[hg]
   dsimp only
   unfold Zu
   rw[ho,if_pos (show Jr (O.a0 k x y)=true from rfl)]
   simp only[ew]
   rw[Vx]
  ·unfold JV
   rw[hg]
   dsimp only
   unfold Zu
   rw[ho,if_pos (show Jr (O.a1 k x y)=true from rfl)]
   simp only[ew]
   rw[Vx]
  ·unfold JV
   rw[hg]
   dsimp only
   unfold Zu
   rw[ho,if_pos (show Jr (O.c0 k x y)=true from rfl)]
   simp only[ew]
   rw[Vx]
  ·unfold JV
   rw[hg]
   dsimp only
   unfold Zu
   rw[ho,if_pos (show Jr (O.a2 k x y)=true from rfl)]
   simp only[ew]
   rw[Vx]
theorem Zma(hq:YV o=true)(h:JV C o st K):∃ st' ρ1 σ1 out1,K st'/\QS C st.lvl o (fun t=>lk t st.env) (fun k=>lkO k st.loc) st.out ρ1 σ1 out1/\At st' st.lvl ρ1 σ1 out1:=by
 by_cases hl:Jr o.o=false
 ·obtain⟨y,obs,st',h1,h2,h3,h4⟩:=Zl7 hl h
  exact⟨st',_,_,_,h1,.inl ⟨hl,y,obs,h2,h3,rfl,rfl,rfl⟩,⟨h4.lvl,h4.env,h4.loc,h4.out⟩⟩
 ·have hqq:Vg o=true:=by
   unfold YV at hq
   simp only[UaO,Uar] at hq
   exact hq.resolve_left hl
  rw[Zf3 hqq] at h
  obtain⟨⟨v,id,ob⟩,h1,h2⟩:=(Zat (ρ:=ZS fun t=>lk t st.env) (S:=st.sto) o.o).ex (K:=fun r:IV×Zd×Ob=>K { Zg st r.2.1 r.2.2 with env:=ptd o.d r.1 st.env }) h
  refine⟨_,_,_,_,h1,.inr ⟨hqq,v,id,ob,?_,rfl,rfl,rfl⟩,Zaw⟩
  exact(Zat (ρ:=ZS fun t=>lk t st.env) (S:=st.sto) o.o).mono (K:=fun s=>s=(v,id,ob)) (K':=fun r:IV×Zd×Ob=>r.1=v/\r.2.1=id/\r.2.2=ob) (fun r hr=>by rw[hr];exact⟨rfl,rfl,rfl⟩) h2
theorem Zmb{ρ1:Nat->IV}{σ1:Nat->Option Ob}{out1:Zc}(h:QS C st.lvl o (fun t=>lk t st.env) (fun k=>lkO k st.loc) st.out ρ1 σ1 out1):JV C o st (fun st' => At st' st.lvl ρ1 σ1 out1):=by
 rcases h with ⟨hl,y,obs,h1,h2,rfl,rfl,rfl⟩ | ⟨hq,y,id,ob,h1,rfl,rfl,rfl⟩
 ·have:=Zl8 (st:=st) hl h1 h2
  refine(?_:JV C o st (fun st' => Step1 o st st' y obs)->_) this
  have e:(fun st' => Step1 o st st' y obs)=fun st' => At st' st.lvl (Jo o.d y fun t=>lk t st.env) (ZL (keyOf o.d) obs fun k=>lkO k st.loc) st.out:=by
   funext st'
   exact propext ⟨fun h=>⟨h.lvl,h.env,h.loc,h.out⟩,fun h=>⟨h.lvl,h.out,h.env,h.loc⟩⟩
  rw[e];exact id
 ·rw[Zf3 hq]
  refine(Zat (ρ:=ZS fun t=>lk t st.env) (S:=st.sto) o.o).mono (K:=fun r:IV×Zd×Ob=>r.1=y/\r.2.1=id/\r.2.2=ob) (K':=fun r:IV×Zd×Ob=>At { Zg st r.2.1 r.2.2 with env:=ptd o.d r.1 st.env } st.lvl (Jo o.d y fun t=>lk t st.env) (Jz st.lvl id ob fun k=>lkO k st.loc) (Qb st.lvl id ob st.out)) ?_ h1
  rintro⟨v,i,b⟩ ⟨rfl,rfl,rfl⟩
  exact Zaw
def YL(C:ZD)(lvl:Nat):List OP->(Nat->IV)->(Nat->Option Ob)->Zc->(Nat->IV)->(Nat->Option Ob)->Zc->Prop
 | [],ρ,σ,out,ρ',σ',out' => ρ'=ρ/\σ'=σ/\out'=out
 | o::l,ρ,σ,out,ρ',σ',out' => ∃ ρ1 σ1 out1,QS C lvl o ρ σ out ρ1 σ1 out1/\YL C lvl l ρ1 σ1 out1 ρ' σ' out'
def VN(p o:OP):Bool:=YU p o&&((!Jr p.o && !Jr o.o) || (YV p&&(lfree o.o || wfr o.o)) || ((lfree p.o || (lbx p.o&&Xt o.o) || apart p.o o.o)&&Vg o) || ((!Jr p.o || (Xt p.o&&Vg p))&&lbx o.o))
theorem Zmc{L:Zc}(x:IV):Qz L L x:=JL (fun _ _=>⟨fun _ h=>h,fun _ _=>JD (fun _ _ _ h=>h) _ (V8 _)⟩) _ (X6 _)
theorem Zax{lvl b:Nat}{obs:List Ob}{σ:Nat->Option Ob}{out:Zc}(hf:Vy b obs.length σ)(x:IV):Qz (ZX lvl σ out) (ZX lvl (ZL b obs σ) out) x :=
 JL (fun id _=>⟨Vz hf id,fun cells _=>JD (fun i _=>Vz hf i) _ (V8 _)⟩) _ (X6 _)
theorem Eff.lfree{ρ ρ':Nat->IV}{L L':Zc}{lvl:Nat}{y:IV}{obs:List Ob}(hl:lfree o.o=true)(hr:∀ x∈rd o.o,ZS ρ' x=ZS ρ x)(hg:∀ j w,o.g=some (j,w)->ρ' j=ρ j)(h:Eff C o ρ L lvl y obs):Eff C o ρ' L' lvl y obs:=by
 have h1:Eff C o ρ' L lvl y obs:=h.congr hr hg fun x _=>Zmc _
 have key:Vf C o.o ρ' L lvl (keyOf o.d) y obs->Vf C o.o ρ' L' lvl (keyOf o.d) y obs:=fun⟨m0,ob,h1,h2,h3⟩=>⟨m0,ob,h1,h2,Zl1 o.o hl h3⟩
 unfold Eff at *
 split at h1
 ·exact key h1
 ·rename_i j w hgg
  exact h1.imp (fun h=>⟨h.1,key h.2⟩) id
theorem Eff.wfr{ρ ρ':Nat->IV}{L L':Zc}{lvl:Nat}{y:IV}{obs:List Ob}(hl:Fd.wfr o.o=true)(hr:∀ x∈rd o.o,ZS ρ' x=ZS ρ x)(hg:∀ j w,o.g=some (j,w)->ρ' j=ρ j)(hw:∀ x∈rd o.o,men (fun i=>∀ k,Jy L i [] k->Jy L' i [] k) (ZS ρ x))(h:Eff C o ρ L lvl y obs):Eff C o ρ' L' lvl y obs:=by
 have key:Vf C o.o ρ L lvl (keyOf o.d) y obs->Vf C o.o ρ' L' lvl (keyOf o.d) y obs:=fun⟨m0,ob,h1,h2,h3⟩=>⟨m0,ob,h1,h2,Zl2 o.o hl hr hw h3⟩
 unfold Eff at *
 split at h
 ·exact key h
 ·rename_i j w hgg
  rw[hg j w hgg]
  exact h.imp (fun h=>⟨h.1,key h.2⟩) id
theorem Eff.lbx{ρ ρ':Nat->IV}{L L':Zc}{lvl:Nat}{y:IV}{obs:List Ob}(hl:Fd.lbx o.o=true)(hr:∀ x∈rd o.o,ZS ρ' x=ZS ρ x)(hg:∀ j w,o.g=some (j,w)->ρ' j=ρ j)(hw:∀ x∈rd o.o,men (fun i=>∀ cells,L i=some (.bx cells)->L' i=some (.bx cells)) (ZS ρ x))(h:Eff C o ρ L lvl y obs):Eff C o ρ' L' lvl y obs:=by
 have key:Vf C o.o ρ L lvl (keyOf o.d) y obs->Vf C o.o ρ' L' lvl (keyOf o.d) y obs:=fun⟨m0,ob,h1,h2,h3⟩=>⟨m0,ob,h1,h2,Zl5 o.o hl hr hw h3⟩
 unfold Eff at *
 split at h
 ·exact key h
 ·rename_i j w hgg
  rw[hg j w hgg]
  exact h.imp (fun h=>⟨h.1,key h.2⟩) id
theorem Eff.lbA{ρ ρ':Nat->IV}{L L':Zc}{lvl:Nat}{y:IV}{obs:List Ob}{m:Option Nat}{p:X}{q:Nat}(ho:o.o = .lb m p (some q))(hr:∀ x∈rd o.o,ZS ρ' x=ZS ρ x)(hg:∀ j w,o.g=some (j,w)->ρ' j=ρ j)(hw:∀ i off,ZS ρ p = .ab i off->Va (ZS ρ p) (ZS ρ (.t q))->L' i=L i)(h:Eff C o ρ L lvl y obs):Eff C o ρ' L' lvl y obs:=by
 have key:Vf C o.o ρ L lvl (keyOf o.d) y obs->Vf C o.o ρ' L' lvl (keyOf o.d) y obs:=fun⟨m0,ob,h1,h2,h3⟩=>⟨m0,ob,h1,h2,by rw[ho] at hr h3 ⊢;exact Zl6 hr hw h3⟩
 unfold Eff at *
 split at h
 ·exact key h
 ·rename_i j w hgg
  rw[hg j w hgg]
  exact h.imp (fun h=>⟨h.1,key h.2⟩) id
theorem Q5{d d':Option Nat}{y y':IV}{ρ:Nat->IV}(h:(match d,d' with | some a,some b=>a != b | _,_=>true)=true):Jo d y (Jo d' y' ρ)=Jo d' y' (Jo d y ρ):=by
 funext t
 unfold Jo
 by_cases g1:d=some t <;> by_cases g2:d'=some t <;> simp only[g1,g2,if_true,if_false]
 rw[g1,g2] at h
 simp at h
theorem Xy{p o:OP}(h:YU p o=true):X8 p.d o=true/\X8 o.d p=true/\(match p.d,o.d with | some a,some b=>a != b | _,_=>true)=true:=by
 simp only[YU,Uad] at h
 exact⟨h.1.1,h.1.2,h.2⟩
theorem Zf4{lvl:Nat}{id:Zd}{ob:Ob}{σ:Nat->Option Ob}{k:Nat}(h:Jz lvl id ob σ k=none):σ k=none:=by
 unfold Jz at h
 split at h
 ·cases h
 ·exact h
theorem WT{b:Nat}{obs:List Ob}{σ:Nat->Option Ob}{k:Nat}(h:ZL b obs σ k=none):σ k=none/\¬ (b<=k/\k<b+obs.length):=by
 unfold ZL at h
 split at h
 ·rename_i hk
  rw[Uaf (by omega)] at h;cases h
 ·rename_i hk;exact⟨h,hk⟩
theorem Zcz{lvl:Nat}{p:OP}{ρ ρ1:Nat->IV}{σ σ1:Nat->Option Ob}{out out1:Zc}(h:QS C lvl p ρ σ out ρ1 σ1 out1){b n:Nat}(hf:Vy b n σ1):Vy b n σ:=fun k g1 g2=>by
 have:=hf k g1 g2
 rcases h with ⟨_,y,obs,_,_,_,rfl,_⟩ | ⟨_,y,id,ob,_,_,rfl,_⟩
 ·exact(WT this).1
 ·exact Zf4 this
theorem WU{lvl:Nat}{p:OP}{ρ ρ1:Nat->IV}{σ σ1:Nat->Option Ob}{out out1:Zc}(h:QS C lvl p ρ σ out ρ1 σ1 out1):∃ y,ρ1=Jo p.d y ρ:=by
 rcases h with ⟨_,y,obs,_,_,h,_⟩ | ⟨_,y,id,ob,_,h,_⟩ <;> exact⟨y,h⟩
theorem ZcA{lvl:Nat}(hl:lfree o.o=true):∀(l1 l2:List OP) (ρ:Nat->IV) (σ:Nat->Option Ob) (out:Zc) (ρ':Nat->IV) (σ':Nat->Option Ob) (out':Zc),(∀ p∈l1,YU p o=true) ->
  YL C lvl (l1++o::l2) ρ σ out ρ' σ' out'->∃ ρ1 σ1 out1,QS C lvl o ρ σ out ρ1 σ1 out1/\YL C lvl (l1++l2) ρ1 σ1 out1 ρ' σ' out'
 | [],l2,ρ,σ,out,ρ',σ',out',_,h=>h
 | p::l1,l2,ρ,σ,out,ρ',σ',out',hi,h=>by
  obtain⟨ρp,σp,outp,hp,hr⟩:=h
  obtain⟨i1,i2,i3⟩:=Xy (hi p (by simp))
  obtain⟨ρ1,σ1,out1,h1,h2⟩:=ZcA hl l1 l2 _ _ _ _ _ _ (fun q hq=>hi q (by simp [hq])) hr
  rcases h1 with ⟨hlo,y,obs,g1,g2,rfl,rfl,rfl⟩ | ⟨hq,_⟩
  ·obtain⟨yp,rfl⟩:=WU hp
   have hpo:=Y3 (y:=yp) (ρ:=ρ) i1
   have hfo:=Zcz hp g2
   have hop:=Y3 (o:=p) (d:=o.d) (y:=y) (ρ:=ρ) i2
   refine⟨_,_,_,.inl ⟨hlo,y,obs,g1.lfree hl (fun x hx=>(hpo.1 x hx).symm) (fun j w hg=>(hpo.2 j w hg).symm),hfo,rfl,rfl,rfl⟩,?_⟩
   rcases hp with ⟨hlp,yp',obp,e1,e2,e3,rfl,rfl⟩ | ⟨hqp,yp',id,ob,e1,e3,rfl,rfl⟩
   ·have hdis:∀ k,keyOf p.d<=k/\k<keyOf p.d+obp.length -> ¬ (keyOf o.d<=k/\k<keyOf o.d+obs.length):=fun k hk ho=>(WT (g2 k ho.1 ho.2)).2 hk
    refine⟨Jo p.d yp' (Jo o.d y ρ),ZL (keyOf p.d) obp (ZL (keyOf o.d) obs σ),_,.inl ⟨hlp,yp',obp,e1.congr hop.1 hop.2 (fun x _=>Zax hfo _),fun k q1 q2=>?_,rfl,rfl,rfl⟩,?_⟩
    ·unfold ZL
     rw[if_neg (hdis k ⟨q1,q2⟩)]
     exact e2 k q1 q2
    ·have e5:ZL (keyOf p.d) obp (ZL (keyOf o.d) obs σ)=ZL (keyOf o.d) obs (ZL (keyOf p.d) obp σ):=by
      funext k
      unfold ZL
      by_cases q1:keyOf p.d<=k/\k<keyOf p.d+obp.length
      ·rw[if_pos q1,if_neg (hdis k q1),if_pos q1]
      ·rw[if_neg q1]
       by_cases q2:keyOf o.d<=k/\k<keyOf o.d+obs.length
       ·rw[if_pos q2,if_pos q2]
       ·rw[if_neg q2,if_neg q2,if_neg q1]
     rw[e5,Q5 i3,<-e3]
     exact h2
   ·have hthere:=Zau p.o e1
    refine⟨Jo p.d yp' (Jo o.d y ρ),Jz lvl id ob (ZL (keyOf o.d) obs σ),Qb lvl id ob out,.inr ⟨hqp,yp',id,ob,Zcx p.o hop.1 (fun i b hb=>Vz hfo i b hb) e1,rfl,rfl,rfl⟩,?_⟩
    have e5:Jz lvl id ob (ZL (keyOf o.d) obs σ)=ZL (keyOf o.d) obs (Jz lvl id ob σ):=by
     funext k
     unfold ZL
     by_cases q2:keyOf o.d<=k/\k<keyOf o.d+obs.length
     ·have hk:=g2 k q2.1 q2.2
      rw[if_pos q2]
      unfold Jz at hk ⊢
      split at hk
      ·cases hk
      ·rename_i hne
       rw[if_neg hne]
       exact if_pos q2
     ·rw[if_neg q2]
      unfold Jz
      by_cases q3:id=(lvl,k)
      ·rw[if_pos q3,if_pos q3]
      ·rw[if_neg q3,if_neg q3]
       exact if_neg q2
    rw[e5,Q5 i3,<-e3]
    exact h2
  ·have:=UP hl
   obtain⟨_,h | h⟩:=Qc hq
   ·obtain⟨m,q,x,ho,_⟩:=h;rw[ho] at this;cases this
   ·obtain⟨k,x,z,ho | ho | ho | ho⟩:=h <;> (rw[ho] at this;cases this)
theorem Zf5{lvl:Nat}{I:Zd->Prop}(hl:wfr o.o=true):∀(l1 l2:List OP) (ρ:Nat->IV) (σ:Nat->Option Ob) (out:Zc) (ρ':Nat->IV) (σ':Nat->Option Ob) (out':Zc),(∀ p∈l1,YU p o=true)->(∀ x∈rd o.o,men I (ZS ρ x))->(∀ id,I id->(ZX lvl σ out id).isSome=true) ->
  YL C lvl (l1++o::l2) ρ σ out ρ' σ' out'->∃ ρ1 σ1 out1,QS C lvl o ρ σ out ρ1 σ1 out1/\YL C lvl (l1++l2) ρ1 σ1 out1 ρ' σ' out'
 | [],l2,ρ,σ,out,ρ',σ',out',_,_,_,h=>h
 | p::l1,l2,ρ,σ,out,ρ',σ',out',hi,hm,hI,h=>by
  obtain⟨ρp,σp,outp,hp,hr⟩:=h
  obtain⟨i1,i2,i3⟩:=Xy (hi p (by simp))
  have hpo0:∀ x∈rd o.o,ZS ρp x=ZS ρ x:=fun x hx=>by
   obtain⟨yp,rfl⟩:=WU hp
   exact(Y3 (y:=yp) (ρ:=ρ) i1).1 x hx
  have hstep:(∀ id,I id->(ZX lvl σp outp id).isSome=true)/\∀ id,I id->∀ k,Jy (ZX lvl σp outp) id [] k->Jy (ZX lvl σ out) id [] k:=by
   rcases hp with ⟨_,yp',obp,e1,e2,e3,rfl,rfl⟩ | ⟨hqp,yp',id,ob,e1,e3,rfl,rfl⟩
   ·have hsame:∀ id,I id->ZX lvl (ZL (keyOf p.d) obp σ) outp id=ZX lvl σ outp id:=fun id hid=>by
     obtain⟨ob,hob⟩:=Uai.1 (hI id hid)
     rw[Vz e2 id ob hob,hob]
    refine⟨fun id hid=>by rw[hsame id hid];exact hI id hid,fun id hid k hw=>?_⟩
    unfold Jy at hw ⊢
    rw[hsame id hid] at hw
    exact hw
   ·rw[Xx]
    refine⟨fun i hi=>?_,fun i _ k hw=>Zl4 p.o e1 i k hw⟩
    unfold Ze
    split
    ·rfl
    ·exact hI i hi
  obtain⟨ρ1,σ1,out1,h1,h2⟩:=Zf5 hl l1 l2 _ _ _ _ _ _ (fun q hq=>hi q (by simp [hq])) (fun x hx=>by rw[hpo0 x hx];exact hm x hx) hstep.1 hr
  rcases h1 with ⟨hlo,y,obs,g1,g2,rfl,rfl,rfl⟩ | ⟨hq,_⟩
  ·obtain⟨yp,rfl⟩:=WU hp
   have hpo:=Y3 (y:=yp) (ρ:=ρ) i1
   have hfo:=Zcz hp g2
   have hop:=Y3 (o:=p) (d:=o.d) (y:=y) (ρ:=ρ) i2
   refine⟨_,_,_,.inl ⟨hlo,y,obs,g1.wfr hl (fun x hx=>(hpo.1 x hx).symm) (fun j w hg=>(hpo.2 j w hg).symm) (fun x hx=>by rw[hpo.1 x hx];exact JL (fun i hii k hw=>hstep.2 i hii k hw) _ (hm x hx)),hfo,rfl,rfl,rfl⟩,?_⟩
   rcases hp with ⟨hlp,yp',obp,e1,e2,e3,rfl,rfl⟩ | ⟨hqp,yp',id,ob,e1,e3,rfl,rfl⟩
   ·have hdis:∀ k,keyOf p.d<=k/\k<keyOf p.d+obp.length -> ¬ (keyOf o.d<=k/\k<keyOf o.d+obs.length):=fun k hk ho=>(WT (g2 k ho.1 ho.2)).2 hk
    refine⟨Jo p.d yp' (Jo o.d y ρ),ZL (keyOf p.d) obp (ZL (keyOf o.d) obs σ),_,.inl ⟨hlp,yp',obp,e1.congr hop.1 hop.2 (fun x _=>Zax hfo _),fun k q1 q2=>?_,rfl,rfl,rfl⟩,?_⟩
    ·unfold ZL
     rw[if_neg (hdis k ⟨q1,q2⟩)]
     exact e2 k q1 q2
    ·have e5:ZL (keyOf p.d) obp (ZL (keyOf o.d) obs σ)=ZL (keyOf o.d) obs (ZL (keyOf p.d) obp σ):=by
      funext k
      unfold ZL
      by_cases q1:keyOf p.d<=k/\k<keyOf p.d+obp.length
      ·rw[if_pos q1,if_neg (hdis k q1),if_pos q1]
      ·rw[if_neg q1]
       by_cases q2:keyOf o.d<=k/\k<keyOf o.d+obs.length
       ·rw[if_pos q2,if_pos q2]
       ·rw[if_neg q2,if_neg q2,if_neg q1]
     rw[e5,Q5 i3,<-e3]
     exact h2
   ·have hthere:=Zau p.o e1
    refine⟨Jo p.d yp' (Jo o.d y ρ),Jz lvl id ob (ZL (keyOf o.d) obs σ),Qb lvl id ob out,.inr ⟨hqp,yp',id,ob,Zcx p.o hop.1 (fun i b hb=>Vz hfo i b hb) e1,rfl,rfl,rfl⟩,?_⟩
    have e5:Jz lvl id ob (ZL (keyOf o.d) obs σ)=ZL (keyOf o.d) obs (Jz lvl id ob σ):=by
     funext k
     unfold ZL
     by_cases q2:keyOf o.d<=k/\k<keyOf o.d+obs.length
     ·have hk:=g2 k q2.1 q2.2
      rw[if_pos q2]
      unfold Jz at hk ⊢
      split at hk
      ·cases hk
      ·rename_i hne
       rw[if_neg hne]
       exact if_pos q2
     ·rw[if_neg q2]
      unfold Jz
      by_cases q3:id=(lvl,k)
      ·rw[if_pos q3,if_pos q3]
      ·rw[if_neg q3,if_neg q3]
       exact if_neg q2
    rw[e5,Q5 i3,<-e3]
    exact h2
  ·have:=Zf0 hl
   obtain⟨_,h | h⟩:=Qc hq
   ·obtain⟨m,q,x,ho,_⟩:=h;rw[ho] at this;cases this
   ·obtain⟨k,x,z,ho | ho | ho | ho⟩:=h <;> (rw[ho] at this;cases this)
theorem ZcB{lvl:Nat}{I:Zd->Prop}(hl:lbx o.o=true):∀(l1 l2:List OP) (ρ:Nat->IV) (σ:Nat->Option Ob) (out:Zc) (ρ':Nat->IV) (σ':Nat->Option Ob) (out':Zc),(∀ p∈l1,YU p o=true/\(Jr p.o=false\/(Xt p.o=true/\Vg p=true)))->(∀ x∈rd o.o,men I (ZS ρ x))->(∀ id,I id->(ZX lvl σ out id).isSome=true) ->
  YL C lvl (l1++o::l2) ρ σ out ρ' σ' out'->∃ ρ1 σ1 out1,QS C lvl o ρ σ out ρ1 σ1 out1/\YL C lvl (l1++l2) ρ1 σ1 out1 ρ' σ' out'
 | [],l2,ρ,σ,out,ρ',σ',out',_,_,_,h=>h
 | p::l1,l2,ρ,σ,out,ρ',σ',out',hi,hm,hI,h=>by
  obtain⟨ρp,σp,outp,hp,hr⟩:=h
  obtain⟨hi0,hpq⟩:=hi p (by simp)
  obtain⟨i1,i2,i3⟩:=Xy hi0
  have hpo0:∀ x∈rd o.o,ZS ρp x=ZS ρ x:=fun x hx=>by
   obtain⟨yp,rfl⟩:=WU hp
   exact(Y3 (y:=yp) (ρ:=ρ) i1).1 x hx
  have hstep:(∀ id,I id->(ZX lvl σp outp id).isSome=true)/\∀ id,I id->∀ cells,ZX lvl σp outp id=some (.bx cells)->ZX lvl σ out id=some (.bx cells):=by
   rcases hp with ⟨_,yp',obp,e1,e2,e3,rfl,rfl⟩ | ⟨hqp,yp',id,ob,e1,e3,rfl,rfl⟩
   ·have hsame:∀ id,I id->ZX lvl (ZL (keyOf p.d) obp σ) outp id=ZX lvl σ outp id:=fun id hid=>by
     obtain⟨ob,hob⟩:=Uai.1 (hI id hid)
     rw[Vz e2 id ob hob,hob]
    refine⟨fun id hid=>by rw[hsame id hid];exact hI id hid,fun id hid k hw=>?_⟩
    rw[hsame id hid] at hw
    exact hw
   ·rw[Xx]
    refine⟨fun i hi=>?_,fun i _ k hw=>(Zcy p.o (hpq.elim (fun g=>by rw[US hqp] at g;cases g) (fun g=>g.1)) e1 i k).1 hw⟩
    unfold Ze
    split
    ·rfl
    ·exact hI i hi
  obtain⟨ρ1,σ1,out1,h1,h2⟩:=ZcB hl l1 l2 _ _ _ _ _ _ (fun q hq=>hi q (by simp [hq])) (fun x hx=>by rw[hpo0 x hx];exact hm x hx) hstep.1 hr
  rcases h1 with ⟨hlo,y,obs,g1,g2,rfl,rfl,rfl⟩ | ⟨hq,_⟩
  ·obtain⟨yp,rfl⟩:=WU hp
   have hpo:=Y3 (y:=yp) (ρ:=ρ) i1
   have hfo:=Zcz hp g2
   have hop:=Y3 (o:=p) (d:=o.d) (y:=y) (ρ:=ρ) i2
   refine⟨_,_,_,.inl ⟨hlo,y,obs,g1.lbx hl (fun x hx=>(hpo.1 x hx).symm) (fun j w hg=>(hpo.2 j w hg).symm) (fun x hx=>by rw[hpo.1 x hx];exact JL (fun i hii k hw=>hstep.2 i hii k hw) _ (hm x hx)),hfo,rfl,rfl,rfl⟩,?_⟩
   rcases hp with ⟨hlp,yp',obp,e1,e2,e3,rfl,rfl⟩ | ⟨hqp,yp',id,ob,e1,e3,rfl,rfl⟩
   ·have hdis:∀ k,keyOf p.d<=k/\k<keyOf p.d+obp.length -> ¬ (keyOf o.d<=k/\k<keyOf o.d+obs.length):=fun k hk ho=>(WT (g2 k ho.1 ho.2)).2 hk
    refine⟨Jo p.d yp' (Jo o.d y ρ),ZL (keyOf p.d) obp (ZL (keyOf o.d) obs σ),_,.inl ⟨hlp,yp',obp,e1.congr hop.1 hop.2 (fun x _=>Zax hfo _),fun k q1 q2=>?_,rfl,rfl,rfl⟩,?_⟩
    ·unfold ZL
     rw[if_neg (hdis k ⟨q1,q2⟩)]
     exact e2 k q1 q2
    ·have e5:ZL (keyOf p.d) obp (ZL (keyOf o.d) obs σ)=ZL (keyOf o.d) obs (ZL (keyOf p.d) obp σ):=by
      funext k
      unfold ZL
      by_cases q1:keyOf p.d<=k/\k<keyOf p.d+obp.length
      ·rw[if_pos q1,if_neg (hdis k q1),if_pos q1]
      ·rw[if_neg q1]
       by_cases q2:keyOf o.d<=k/\k<keyOf o.d+obs.length
       ·rw[if_pos q2,if_pos q2]
       ·rw[if_neg q2,if_neg q2,if_neg q1]
     rw[e5,Q5 i3,<-e3]
     exact h2
   ·have hthere:=Zau p.o e1
    refine⟨Jo p.d yp' (Jo o.d y ρ),Jz lvl id ob (ZL (keyOf o.d) obs σ),Qb lvl id ob out,.inr ⟨hqp,yp',id,ob,Zcx p.o hop.1 (fun i b hb=>Vz hfo i b hb) e1,rfl,rfl,rfl⟩,?_⟩
    have e5:Jz lvl id ob (ZL (keyOf o.d) obs σ)=ZL (keyOf o.d) obs (Jz lvl id ob σ):=by
     funext k
     unfold ZL
     by_cases q2:keyOf o.d<=k/\k<keyOf o.d+obs.length
     ·have hk:=g2 k q2.1 q2.2
      rw[if_pos q2]
      unfold Jz at hk ⊢
      split at hk
      ·cases hk
      ·rename_i hne
       rw[if_neg hne]
       exact if_pos q2
     ·rw[if_neg q2]
      unfold Jz
      by_cases q3:id=(lvl,k)
      ·rw[if_pos q3,if_pos q3]
      ·rw[if_neg q3,if_neg q3]
       exact if_neg q2
    rw[e5,Q5 i3,<-e3]
    exact h2
  ·have:=X7 hl
   obtain⟨_,h | h⟩:=Qc hq
   ·obtain⟨m,q,x,ho,_⟩:=h;rw[ho] at this;cases this
   ·obtain⟨k,x,z,ho | ho | ho | ho⟩:=h <;> (rw[ho] at this;cases this)
theorem ZcC{a b:O}(h:apart a b=true):Jr a=false:=by
 obtain⟨_,_,_,_,_,rfl,_⟩:=Zf1 h
 rfl
theorem Zmd{ρ:X->IV}{S:Zc}{v:IV}{id i:Zd}{ob:Ob}{m q off:Nat}{x p:X}(h:Ju ρ S (fun v' id' ob' => v'=v/\id'=id/\ob'=ob) (.s0 m (.t q) x))(hi:ρ p = .ab i off)(ha:Va (ρ p) (ρ (.t q))):Ze S id ob i=S i:=by
 rw[hi] at ha
 simp only[Ju] at h
 split at h <;> try contradiction
 generalize ρ (.t q)=y at h ha
 cases y <;> try exact ha.elim
 rename_i j off2
 have hne:i≠j:=ha
 replace h:=h.2
 simp only at h
 split at h <;> try contradiction
 have:j=id:=h.2.2.2.1
 unfold Ze
 rw[if_neg (by rw[<-this];exact hne)]
theorem Zf6{lvl:Nat}{I:Zd->Prop}(hq:Vg o=true):∀(l1 l2:List OP) (ρ:Nat->IV) (σ:Nat->Option Ob) (out:Zc) (ρ':Nat->IV) (σ':Nat->Option Ob) (out':Zc),(∀ p∈l1,YU p o=true/\(lfree p.o=true\/(lbx p.o=true/\Xt o.o=true)\/apart p.o o.o=true))->(∀ x∈rd o.o,men I (ZS ρ x))->(∀ id,I id->(ZX lvl σ out id).isSome=true) ->
  YL C lvl (l1++o::l2) ρ σ out ρ' σ' out'->∃ ρ1 σ1 out1,QS C lvl o ρ σ out ρ1 σ1 out1/\YL C lvl (l1++l2) ρ1 σ1 out1 ρ' σ' out'
 | [],l2,ρ,σ,out,ρ',σ',out',_,_,_,h=>h
 | p::l1,l2,ρ,σ,out,ρ',σ',out',hi,hm,hI,h=>by
  obtain⟨ρp,σp,outp,hp,hr⟩:=h
  obtain⟨hi0,hn⟩:=hi p (by simp)
  obtain⟨i1,i2,i3⟩:=Xy hi0
  have hlp:Jr p.o=false:=hn.elim UP fun g=>g.elim (fun g=>X7 g.1) ZcC
  have hlq:Jr o.o=true:=by
   obtain⟨_,h | h⟩:=Qc hq
   ·obtain⟨m,q,x,ho,_⟩:=h;rw[ho];rfl
   ·obtain⟨k,x,z,ho | ho | ho | ho⟩:=h <;> (rw[ho];rfl)
  rcases hp with ⟨_,yp,obp,e1,e2,rfl,rfl,rfl⟩ | ⟨hqp,_⟩
  ·have hpo:=Y3 (y:=yp) (ρ:=ρ) i1
   have hsame:∀ id,I id->ZX lvl (ZL (keyOf p.d) obp σ) outp id=ZX lvl σ outp id:=fun id hid=>by
    obtain⟨ob,hob⟩:=Uai.1 (hI id hid)
    rw[Vz e2 id ob hob,hob]
   obtain⟨ρ1,σ1,out1,h1,h2⟩:=Zf6 hq l1 l2 _ _ _ _ _ _ (fun q hq=>hi q (by simp [hq])) (fun x hx=>by rw[hpo.1 x hx];exact hm x hx) (fun id hid=>by rw[hsame id hid];exact hI id hid) hr
   rcases h1 with ⟨hlo,_⟩ | ⟨_,y,id,ob,g1,rfl,rfl,rfl⟩
   ·rw[hlq] at hlo;cases hlo
   ·have hop:=Y3 (o:=p) (d:=o.d) (y:=y) (ρ:=ρ) i2
    have gB:=Zl3 (S':=ZX lvl σ outp) o.o (fun x hx=>(hpo.1 x hx).symm) (fun x hx=>by rw[hpo.1 x hx];exact JL (fun i hid ob hob=>by rw[<-hsame i hid];exact hob) _ (hm x hx)) g1
    have hthere:=Zau o.o gB
    have hout:∀ k,keyOf p.d<=k->k<keyOf p.d+obp.length->id≠(lvl,k):=fun k q1 q2 e=>by
     have hk:=e2 k q1 q2
     rw[e] at hthere
     have:ZX lvl σ outp (lvl,k)=σ k:=if_pos rfl
     rw[this,hk] at hthere
     cases hthere
    refine⟨_,_,_,.inr ⟨hq,y,id,ob,gB,rfl,rfl,rfl⟩,Jo p.d yp (Jo o.d y ρ),ZL (keyOf p.d) obp (Jz lvl id ob σ),_,.inl ⟨hlp,yp,obp,(hn.elim (fun g=>e1.lfree g hop.1 hop.2) fun g=>g.elim (fun g=>e1.lbx g.1 hop.1 hop.2 fun x _=>JL (fun i _ cells hc=>by rw[Xx];exact(Zcy o.o g.2 gB i cells).2 hc) _ (X6 _)) fun g=>by obtain⟨_,_,q,_,_,g1,g2⟩:=Zf1 g;exact e1.lbA g1 hop.1 hop.2 fun i off hi ha=>by rw[Xx];exact Zmd (by rw[<-g2];exact gB) hi ha),fun k q1 q2=>?_,rfl,rfl,rfl⟩,?_⟩
    ·unfold Jz
     rw[if_neg (hout k q1 q2)]
     exact e2 k q1 q2
    ·have e5:ZL (keyOf p.d) obp (Jz lvl id ob σ)=Jz lvl id ob (ZL (keyOf p.d) obp σ):=by
      funext k
      unfold ZL
      by_cases q2:keyOf p.d<=k/\k<keyOf p.d+obp.length
      ·rw[if_pos q2]
       unfold Jz
       rw[if_neg (hout k q2.1 q2.2)]
       exact(if_pos q2).symm
      ·rw[if_neg q2]
       unfold Jz
       by_cases q3:id=(lvl,k)
       ·rw[if_pos q3,if_pos q3]
       ·rw[if_neg q3,if_neg q3]
        exact(if_neg q2).symm
     rw[e5,Q5 i3]
     exact h2
  ·obtain⟨_,h | h⟩:=Qc hqp
   ·obtain⟨m,q,x,ho,_⟩:=h;rw[ho] at hlp;cases hlp
   ·obtain⟨k,x,z,ho | ho | ho | ho⟩:=h <;> (rw[ho] at hlp;cases hlp)
theorem Zf7{lvl:Nat}{I:Zd->Prop}(hlo:Jr o.o=false):∀(l1 l2:List OP) (ρ:Nat->IV) (σ:Nat->Option Ob) (out:Zc) (ρ':Nat->IV) (σ':Nat->Option Ob) (out':Zc),(∀ p∈l1,YU p o=true/\Jr p.o=false)->(∀ x∈rd o.o,men I (ZS ρ x))->(∀ id,I id->(ZX lvl σ out id).isSome=true)->(∀ id cells,I id->ZX lvl σ out id=some (.bx cells)->Za I cells) ->
  YL C lvl (l1++o::l2) ρ σ out ρ' σ' out'->∃ ρ1 σ1 out1,QS C lvl o ρ σ out ρ1 σ1 out1/\YL C lvl (l1++l2) ρ1 σ1 out1 ρ' σ' out'
 | [],l2,ρ,σ,out,ρ',σ',out',_,_,_,_,h=>h
 | p::l1,l2,ρ,σ,out,ρ',σ',out',hi,hm,hI,hcl,h=>by
  obtain⟨ρp,σp,outp,hp,hr⟩:=h
  obtain⟨hi0,hlp⟩:=hi p (by simp)
  obtain⟨i1,i2,i3⟩:=Xy hi0
  rcases hp with ⟨_,yp,obp,e1,e2,rfl,rfl,rfl⟩ | ⟨hqp,_⟩
  ·have hpo:=Y3 (y:=yp) (ρ:=ρ) i1
   have hsame:∀ id,I id->ZX lvl (ZL (keyOf p.d) obp σ) out' id=ZX lvl (ZL (keyOf p.d) obp σ) out' id:=fun _ _=>rfl
   clear hsame
   have hsame:∀ id,I id->ZX lvl (ZL (keyOf p.d) obp σ) outp id=ZX lvl σ outp id:=fun id hid=>by
    obtain⟨ob,hob⟩:=Uai.1 (hI id hid)
    rw[Vz e2 id ob hob,hob]
   obtain⟨ρ1,σ1,out1,h1,h2⟩:=Zf7 hlo l1 l2 _ _ _ _ _ _ (fun q hq=>hi q (by simp [hq])) (fun x hx=>by
    rw[hpo.1 x hx]
    exact hm x hx) (fun id hid=>by rw[hsame id hid];exact hI id hid) (fun id cells hid hc=>hcl id cells hid (by rw[<-hsame id hid];exact hc)) hr
   rcases h1 with ⟨_,y,obs,g1,g2,rfl,rfl,rfl⟩ | ⟨hq,_⟩
   ·have hfo:Vy (keyOf o.d) obs.length σ:=fun k q1 q2=>(WT (g2 k q1 q2)).1
    have hdis:∀ k,keyOf p.d<=k/\k<keyOf p.d+obp.length -> ¬ (keyOf o.d<=k/\k<keyOf o.d+obs.length):=fun k hk ho=>(WT (g2 k ho.1 ho.2)).2 hk
    have hop:=Y3 (o:=p) (d:=o.d) (y:=y) (ρ:=ρ) i2
    refine⟨_,_,_,.inl ⟨hlo,y,obs,g1.congr (fun x hx=>(hpo.1 x hx).symm) (fun j w hg=>(hpo.2 j w hg).symm) (fun x hx=>?_),hfo,rfl,rfl,rfl⟩,Jo p.d yp (Jo o.d y ρ),ZL (keyOf p.d) obp (ZL (keyOf o.d) obs σ),_,.inl ⟨hlp,yp,obp,e1.congr hop.1 hop.2 (fun x _=>Zax hfo _),fun k q1 q2=>?_,rfl,rfl,rfl⟩,?_⟩
    ·rw[hpo.1 x hx]
     have hone:∀ id,I id->Zao (ZX lvl (ZL (keyOf p.d) obp σ) out1) (ZX lvl σ out1) id:=fun id hid ob hob=>by rw[<-hsame id hid];exact hob
     exact JL (fun id hid=>⟨hone id hid,fun cells hc=>JD hone _ (hcl id cells hid (by rw[<-hsame id hid];exact hc))⟩) _ (hm x hx)
    ·unfold ZL
     rw[if_neg (hdis k ⟨q1,q2⟩)]
     exact e2 k q1 q2
    ·have e5:ZL (keyOf p.d) obp (ZL (keyOf o.d) obs σ)=ZL (keyOf o.d) obs (ZL (keyOf p.d) obp σ):=by
      funext k
      unfold ZL
      by_cases q1:keyOf p.d<=k/\k<keyOf p.d+obp.length
      ·rw[if_pos q1,if_neg (hdis k q1),if_pos q1]
      ·rw[if_neg q1]
       by_cases q2:keyOf o.d<=k/\k<keyOf o.d+obs.length
       ·rw[if_pos q2,if_pos q2]
       ·rw[if_neg q2,if_neg q2,if_neg q1]
     rw[e5,Q5 i3]
     exact h2
   ·obtain⟨_,h | h⟩:=Qc hq
    ·obtain⟨m,q,x,ho,_⟩:=h;rw[ho] at hlo;cases hlo
    ·obtain⟨k,x,z,ho | ho | ho | ho⟩:=h <;> (rw[ho] at hlo;cases hlo)
  ·obtain⟨_,h | h⟩:=Qc hqp
   ·obtain⟨m,q,x,ho,_⟩:=h;rw[ho] at hlp;cases hlp
   ·obtain⟨k,x,z,ho | ho | ho | ho⟩:=h <;> (rw[ho] at hlp;cases hlp)
theorem Zme{lvl:Nat}{I:Zd->Prop}{l1 l2:List OP}{ρ:Nat->IV}{σ:Nat->Option Ob}{out:Zc}{ρ':Nat->IV}{σ':Nat->Option Ob}{out':Zc}(hq:YV o=true)(hi:∀ p∈l1,VN p o=true)(hm:∀ x,men I (ZS ρ x))(hI:∀ id,I id->(ZX lvl σ out id).isSome=true)(hcl:∀ id cells,I id->ZX lvl σ out id=some (.bx cells)->Za I cells)
  (h:YL C lvl (l1++o::l2) ρ σ out ρ' σ' out'):∃ ρ1 σ1 out1,QS C lvl o ρ σ out ρ1 σ1 out1/\YL C lvl (l1++l2) ρ1 σ1 out1 ρ' σ' out':=by
 have hind:∀ p∈l1,YU p o=true:=fun p hp=>by
  have:=hi p hp
  simp only[VN,Uad] at this
  exact this.1
 by_cases hl:lfree o.o=true
 ·exact ZcA hl l1 l2 _ _ _ _ _ _ hind h
 ·by_cases hw:wfr o.o=true
  ·exact Zf5 hw l1 l2 _ _ _ _ _ _ hind (fun x _=>hm x) hI h
  by_cases hb:lbx o.o=true
  ·refine ZcB hb l1 l2 _ _ _ _ _ _ (fun p hp=>⟨hind p hp,?_⟩) (fun x _=>hm x) hI h
   have:=hi p hp
   have hlb:=X7 hb
   simp only[VN,Uad,UaO,Uar] at this
   rcases this.2 with ((h | h) | h) | h
   ·exact .inl h.1
   ·exact absurd h.2 (by simp [hl,hw])
   ·have:=US h.2
    rw[hlb] at this;cases this
   ·exact h.1
  by_cases hlo:Jr o.o=false
  ·refine Zf7 hlo l1 l2 _ _ _ _ _ _ (fun p hp=>⟨hind p hp,?_⟩) (fun x _=>hm x) hI hcl h
   have:=hi p hp
   simp only[VN,Uad,UaO,Uar] at this
   rcases this.2 with ((h | h) | h) | h
   ·exact h.1
   ·exact absurd h.2 (by simp [hl,hw])
   ·exact h.1.elim (fun g=>g.elim UP fun g=>X7 g.1) ZcC
   ·exact absurd h.2 hb
  ·have hqq:Vg o=true:=by
    unfold YV at hq
    simp only[UaO,Uar] at hq
    exact hq.resolve_left hlo
   refine Zf6 hqq l1 l2 _ _ _ _ _ _ (fun p hp=>⟨hind p hp,?_⟩) (fun x _=>hm x) hI h
   have:=hi p hp
   simp only[VN,Uad,UaO,Uar] at this
   rcases this.2 with ((h | h) | h) | h
   ·exact absurd h.2 hlo
   ·exact absurd h.2 (by simp [hl,hw])
   ·exact or_assoc.1 h.1
   ·exact absurd h.2 hb
end
end Go.Fd

namespace Go.Fd
variable [Tabs]
section
variable {C:ZD} {st:St} {o p:OP} {K:St->Prop}
def JY(o:OP):Bool:=(match o.o with | .a4 .. => true | _=>false)&&o.g.isNone
theorem UT(h:JY o=true):o.g=none/\∃ k x y,o.o = .a4 k x y:=by
 unfold JY at h
 simp only[Uad,Option.isNone_iff_eq_none] at h
 refine⟨h.2,?_⟩
 have h:=h.1
 split at h
 ·rename_i k x y he;exact⟨k,x,y,he⟩
 ·cases h
theorem ZcD(h:JY o=true):Jr o.o=true:=by
 obtain⟨_,k,x,y,ho⟩:=UT h
 rw[ho];rfl
def kl(id:Zd)(σ:Nat->Option Ob):Nat->Option Ob:=fun k=>(if k=id.2 then none else σ k).map (scrOb id)
theorem Q6{id:Zd}{σ:Nat->Option Ob}{k:Nat}(h:k≠id.2):kl id σ k=(σ k).map (scrOb id):=by unfold kl;rw[if_neg h]
theorem WV{id:Zd}:(fun t=>lk t (Zp id st).env)=fun t=>scr id (lk t st.env):=funext fun t=>WL id t _
theorem X9{id:Zd}:(fun k=>lkO k (Zp id st).loc)=kl id (fun k=>lkO k st.loc):=by
 funext k
 unfold Zp kl
 dsimp only
 rw[ZbQ,DT]
theorem Zf8(id:Zd)(v:Value):scr id (kc v)=kc v:=by unfold kc;split <;> rfl
theorem Zmf(id:Zd)(v:Value):scr id (kv v)=kv v:=by
 unfold kv
 split
 ·rename_i c
  simp only[scr]
  congr 1
  induction c.toList with
  | nil=>rfl
  | cons x r ih=>simp only[UaB,scrs,Zf8,ih]
 ·exact Zf8 id _
theorem WW{ρ ρ':Nat->IV}{id:Zd}(h:∀ t,ρ' t=scr id (ρ t))(x:X):ZS ρ' x=scr id (ZS ρ x):=by
 cases x with
 | t n=>exact h n
 | k v=>exact(Zmf id v).symm
 | f i=>rfl
structure M4 (k:Nat) (x y:X) (kd lvl:Nat) (ρ:X->IV) (L:Zc) (v:IV) (id id2 idr:Zd) (ob:Ob):Prop where
 ex:∃(len s n s2 hw2 k2 ver2 hw ver:Nat) (zs es:Row) (u2 u:Bool),ρ x = .hd id [] 0 len none s/\ρ y = .sv id2/\L id2=some (.bx [.hd idr [] 0 n none s2])/\L idr=some (.ar k2 zs u2 hw2 ver2)/\L id=some (.ar k es u hw ver) /\
  s2=hw2/\n=zs.length/\s=hw/\len=es.length/\len+1<=bigN/\k=1/\v = .hd id [] 0 (len+1) none (max hw (len+1))/\ob = .ar k (es++[[.sl zs]]) (u&&u2) (max hw (len+1)) ver
 l1:id.1=lvl
 l2:id2.1=lvl
 l3:idr.1=lvl
 k1:id.2<kd
 k2:id2.2<kd
 k3:idr.2<kd
 n1:id≠id2
 n2:id≠idr
theorem M4.n3{k:Nat}{x y:X}{kd lvl:Nat}{ρ:X->IV}{L:Zc}{v:IV}{id id2 idr:Zd}{ob:Ob}(h:M4 k x y kd lvl ρ L v id id2 idr ob):id2≠idr:=fun e=>by
 obtain⟨_,_,_,_,_,_,_,_,_,_,_,_,_,_,_,h3,h4,_⟩:=h.ex
 rw[e,h4] at h3
 cases h3
theorem UU{a b:Zd}{l:Nat}(h1:a.1=l)(h2:b.1=l)(h:a≠b):a.2≠b.2:=fun e=>h (Prod.ext (h1.trans h2.symm) e)
theorem Zf9{id i:Zd}{k hw ver:Nat}{es:Row}{u:Bool}(h1:i.1=st.lvl)(h2:id.1=st.lvl)(hne:i≠id)(h:st.sto i=some (.ar k es u hw ver)):(Zp id st).sto i=some (.ar k es u hw ver):=by
 rw[Xu] at h ⊢
 unfold ZX at h ⊢
 rw[if_pos (show i.1=(Zp id st).lvl from h1),X9,Q6 (UU h1 h2 hne)]
 rw[if_pos h1] at h
 have h':lkO i.2 st.loc=_:=h
 rw[h']
 rfl
theorem Zmg{k:Nat}{x y:X}{d:Option Nat}(h1:Qq st.lvl (keyOf d) st.sto (xv st.env x) (xv st.env y))(h2:QN d k x y st K) :
  ∃ v id id2 idr ob,M4 k x y (keyOf d) st.lvl (xv st.env) st.sto v id id2 idr ob/\K { Zg (Zp id2 (Zp idr st)) id ob with env:=ptd d v (Zp id2 (Zp idr st)).env }:=by
 unfold Qq at h1
 split at h1 <;> try contradiction
 rename_i id p0 off0 len cap0 s hx
 split at h1 <;> try contradiction
 rename_i id2 hy
 obtain⟨l1,k1,l2,k2,n1,h1⟩:=h1
 unfold WE at h1
 split at h1 <;> try contradiction
 rename_i idr p2 off2 n cap2 s2 hid2
 obtain⟨l3,k3,n2⟩:=h1
 unfold QN at h2
 simp only[hy,hid2] at h2
 obtain⟨_,hk,h2⟩:=h2
 have hk1:k=1:=hk.symm
 simp only[Yy] at h2
 unfold Qp at h2
 split at h2
 rotate_left
 ·simp [totr] at h2
 rename_i idr' n' s2' he
 simp only[IV.hd.injEq] at he
 obtain⟨rfl,rfl,rfl,rfl,rfl,rfl⟩:=he
 obtain⟨_,h2⟩:=h2
 split at h2 <;> try contradiction
 rename_i kk zs u2 hw2 ver2 hidr
 obtain⟨e1,e2,h2⟩:=h2
 unfold Jg at h2
 obtain⟨_,h2⟩:=h2
 have hxe:xv (Zp id2 (Zp idr st)).env x=scr id2 (scr idr (xv st.env x)):=by
  rw[Vx,Vx,WV]
  rw[WW (ρ':=fun t=>scr id2 (lk t (Zp idr st).env)) (ρ:=fun t=>lk t (Zp idr st).env) (fun _=>rfl),WV,WW (ρ':=fun t=>scr idr (lk t st.env)) (ρ:=fun t=>lk t st.env) (fun _=>rfl)]
 have hxe2:xv (Zp id2 (Zp idr st)).env x = .hd id p0 off0 len cap0 s:=by
  rw[hxe,hx]
  simp only[scr]
  rw[if_neg n2]
  simp only[scr]
  rw[if_neg n1]
 rw[hxe2] at h2
 split at h2 <;> try contradiction
 rename_i id' len' s' he
 simp only[IV.hd.injEq] at he
 obtain⟨rfl,rfl,rfl,rfl,rfl,rfl⟩:=he
 split at h2 <;> try contradiction
 rename_i k' es u hw ver hs
 obtain⟨q1,q2,q3,q4,h2⟩:=h2
 have hsid:st.sto id=some (.ar k' es u hw ver):=by
  have g1:id.1=(Zp idr st).lvl:=l1
  rw[Xu] at hs ⊢
  unfold ZX at hs ⊢
  rw[if_pos (show id.1=(Zp id2 (Zp idr st)).lvl from l1),X9,X9,Q6 (UU l1 l2 n1),Q6 (UU l1 l3 n2)] at hs
  rw[if_pos l1]
  cases e:lkO id.2 st.loc with
  | none=>rw[e] at hs;cases hs
  | some b =>
   rw[e] at hs
   cases b with
   | bx c=>cases hs
   | mp l=>cases hs
   | ar a1 a2 a3 a4 a5 =>
    simp [scrOb] at hs
    obtain⟨rfl,rfl,rfl,rfl,rfl⟩:=hs
    exact e
 refine⟨_,id,id2,idr,_,⟨⟨len,s,n,s2,hw2,kk,ver2,hw,ver,zs,es,u2,u,hx,hy,hid2,hidr,by rw[hsid,q1],e1,e2,q2,q3,q4,hk1,rfl,rfl⟩,l1,l2,l3,k1,k2,k3,n1,n2⟩,?_⟩
 rw[Ubv] at h2
 exact h2
theorem Zmh{k:Nat}{x y:X}{d:Option Nat}{v:IV}{id id2 idr:Zd}{ob:Ob}(m:M4 k x y (keyOf d) st.lvl (xv st.env) st.sto v id id2 idr ob)(hk:K { Zg (Zp id2 (Zp idr st)) id ob with env:=ptd d v (Zp id2 (Zp idr st)).env }) :
  Qq st.lvl (keyOf d) st.sto (xv st.env x) (xv st.env y)/\QN d k x y st K:=by
 have hn3:=m.n3
 obtain⟨len,s,n,s2,hw2,k2,ver2,hw,ver,zs,es,u2,u,hx,hy,hid2,hidr,hid,e1,e2,e3,e4,e5,e6,rfl,rfl⟩:=m.ex
 constructor
 ·unfold Qq
  simp only[hx,hy,hid2,WE]
  exact⟨m.l1,m.k1,m.l2,m.k2,m.n1,m.l3,m.k3,m.n2⟩
 ·unfold QN
  simp only[hy,hid2,Yy,Qp,hidr]
  refine⟨m.l2,by rw[e6];rfl,m.l3,e1,e2,?_⟩
  unfold Jg
  have hxe2:xv (Zp id2 (Zp idr st)).env x = .hd id [] 0 len none s:=by
   rw[Vx,WV]
   rw[WW (ρ':=fun t=>scr id2 (lk t (Zp idr st).env)) (ρ:=fun t=>lk t (Zp idr st).env) (fun _=>rfl),WV,WW (ρ':=fun t=>scr idr (lk t st.env)) (ρ:=fun t=>lk t st.env) (fun _=>rfl),<-Vx,hx]
   simp only[scr]
   rw[if_neg m.n2]
   simp only[scr]
   rw[if_neg m.n1]
  refine⟨fun e he=>by rw[UaT] at he;rw[he,e6];rfl,?_⟩
  rw[hxe2]
  have h3:(Zp id2 (Zp idr st)).sto id=some (.ar k es u hw ver):=Zf9 (st:=Zp idr st) m.l1 m.l2 m.n1 (Zf9 m.l1 m.l3 m.n2 hid)
  simp only[h3]
  refine⟨trivial,e3,e4,e5,?_⟩
  rw[Ubv]
  exact hk
def MS(lvl:Nat)(o:OP)(ρ:Nat->IV)(σ:Nat->Option Ob)(out:Zc)(ρ1:Nat->IV)(σ1:Nat->Option Ob)(out1:Zc):Prop :=
 JY o=true/\∃ k x y v id id2 idr ob,o.o = .a4 k x y/\M4 k x y (keyOf o.d) lvl (ZS ρ) (ZX lvl σ out) v id id2 idr ob/\ρ1=Jo o.d v (fun t=>scr id2 (scr idr (ρ t)))/\σ1=Jz lvl id ob (kl id2 (kl idr σ))/\out1=Qb lvl id ob out
def UV(C:ZD)(lvl:Nat)(o:OP)(ρ:Nat->IV)(σ:Nat->Option Ob)(out:Zc)(ρ1:Nat->IV)(σ1:Nat->Option Ob)(out1:Zc):Prop :=
 QS C lvl o ρ σ out ρ1 σ1 out1\/MS lvl o ρ σ out ρ1 σ1 out1
def qt(o:OP):Bool:=YV o || JY o
theorem Zga(h:JY o=true){k:Nat}{x y:X}(ho:o.o = .a4 k x y):JV C o st K=(Qq st.lvl (keyOf o.d) st.sto (xv st.env x) (xv st.env y)/\QN o.d k x y st K):=by
 unfold JV
 rw[(UT h).1]
 dsimp only
 unfold Zu
 rw[ho,if_pos (show Jr (O.a4 k x y)=true from rfl)]
 simp only[ew]
theorem Zmi(hq:qt o=true)(h:JV C o st K):∃ st' ρ1 σ1 out1,K st'/\UV C st.lvl o (fun t=>lk t st.env) (fun k=>lkO k st.loc) st.out ρ1 σ1 out1/\At st' st.lvl ρ1 σ1 out1:=by
 by_cases hm:JY o=true
 ·obtain⟨_,k,x,y,ho⟩:=UT hm
  rw[Zga hm ho] at h
  obtain⟨v,id,id2,idr,ob,m,hk⟩:=Zmg h.1 h.2
  rw[Vx,Xu] at m
  refine⟨_,_,_,_,hk,.inr ⟨hm,k,x,y,v,id,id2,idr,ob,ho,m,rfl,rfl,rfl⟩,?_⟩
  have:=Zaw (st:=Zp id2 (Zp idr st)) (id:=id) (ob:=ob) (d:=o.d) (v:=v)
  rw[X9,X9,WV,show (fun t=>scr id2 (lk t (Zp idr st).env))=fun t=>scr id2 (scr idr (lk t st.env)) from funext fun t=>congrArg (scr id2) (WL idr t _)] at this
  exact this
 ·have h0:YV o=true:=by
   unfold qt at hq
   simp only[UaO] at hq
   exact hq.resolve_right hm
  obtain⟨st',ρ1,σ1,out1,h1,h2,h3⟩:=Zma h0 h
  exact⟨st',ρ1,σ1,out1,h1,.inl h2,h3⟩
theorem Zmj{ρ1:Nat->IV}{σ1:Nat->Option Ob}{out1:Zc}(h:UV C st.lvl o (fun t=>lk t st.env) (fun k=>lkO k st.loc) st.out ρ1 σ1 out1):JV C o st (fun st' => At st' st.lvl ρ1 σ1 out1):=by
 rcases h with h | ⟨hm,k,x,y,v,id,id2,idr,ob,ho,m,rfl,rfl,rfl⟩
 ·exact Zmb h
 ·rw[Zga hm ho]
  rw[<-Vx,<-Xu] at m
  refine Zmh m ?_
  have:=Zaw (st:=Zp id2 (Zp idr st)) (id:=id) (ob:=ob) (d:=o.d) (v:=v)
  rw[X9,X9,WV,show (fun t=>scr id2 (lk t (Zp idr st).env))=fun t=>scr id2 (scr idr (lk t st.env)) from funext fun t=>congrArg (scr id2) (WL idr t _)] at this
  exact this
def VA(C:ZD)(lvl:Nat):List OP->(Nat->IV)->(Nat->Option Ob)->Zc->(Nat->IV)->(Nat->Option Ob)->Zc->Prop
 | [],ρ,σ,out,ρ',σ',out' => ρ'=ρ/\σ'=σ/\out'=out
 | o::l,ρ,σ,out,ρ',σ',out' => ∃ ρ1 σ1 out1,UV C lvl o ρ σ out ρ1 σ1 out1/\VA C lvl l ρ1 σ1 out1 ρ' σ' out'
theorem ZcE:∀(l:List OP) (st:St),(∀ o∈l,qt o=true)->YG C l st K->∃ st',K st'/\st'.lvl=st.lvl/\VA C st.lvl l (fun t=>lk t st.env) (fun k=>lkO k st.loc) st.out (fun t=>lk t st'.env) (fun k=>lkO k st'.loc) st'.out
 | [],st,_,h=>⟨st,h,rfl,rfl,rfl,rfl⟩
 | o::l,st,hl,h=>by
  simp only[YG] at h
  obtain⟨st1,ρ1,σ1,out1,hk,hs,ha⟩:=Zmi (hl o (by simp)) h
  obtain⟨st',hk',h1,h3⟩:=ZcE l st1 (fun p hp=>hl p (by simp [hp])) hk
  refine⟨st',hk',h1.trans ha.lvl,ρ1,σ1,out1,hs,?_⟩
  rw[ha.env,ha.loc,ha.out,ha.lvl] at h3
  exact h3
def VO(o:OP):Bool:=(match o.o with | .fa .. => true | .mv _ none=>true | .bv .. => true | .lb .. => true | _=>false)&&o.g.isNone
def Qd(p o:OP):Bool:=(JY p&&(YU p o&&VO o&&decide (keyOf p.d<=keyOf o.d))) || (!JY p&&VN p o)
theorem Zay(h:VO o=true):Jr o.o=false:=by
 unfold VO at h
 simp only[Uad] at h
 have h:=h.1
 split at h
 ·rename_i he;rw[he];rfl
 ·rename_i he;rw[he];rfl
 ·rename_i he;rw[he];rfl
 ·rename_i he;rw[he];rfl
 ·cases h
theorem Zmk{lvl:Nat}{ρ ρ1:Nat->IV}{σ σ1:Nat->Option Ob}{out out1:Zc}(h:QS C lvl o ρ σ out ρ1 σ1 out1):JY o=false:=by
 cases e:JY o with
 | false=>rfl
 | true =>
  obtain⟨_,k,x,y,ho⟩:=UT e
  rcases h with ⟨hl,_⟩ | ⟨hq,_⟩
  ·rw[ZcD e] at hl;cases hl
  ·obtain⟨_,h | h⟩:=Qc hq
   ·obtain⟨m,q,x,h,_⟩:=h;rw[ho] at h;cases h
   ·obtain⟨k,x,z,h | h | h | h⟩:=h <;> (rw[ho] at h;cases h)
theorem QA{id:Zd}:∀(l:List IV),scrs id l=l.map (scr id)
 | []=>rfl
 | x::r=>by simp [scrs,QA r]
structure ScrF (f:IV->IV):Prop where
 ta:∀{z:IV} {c:List Tr},f z = .ta c->z = .ta c
 ta2:∀{c:List Tr},f (.ta c) = .ta c
 ab:∀{z:IV} {i:Zd} {n:Nat},f z = .ab i n->z = .ab i n/\∀ m,f (.ab i m) = .ab i m
 ae:∀{z:IV} {i:Zd} {p:Zf} {a b s:Nat},f z = .ae i p a b s->z = .ae i p a b s/\∀ m,f (.ae i p a m s) = .ae i p a m s
 ag:∀{l:List IV},f (.ag l) = .ag (l.map f)
 cells:∀{z:IV} {c1:List IV},cellsOf (f z)=some c1->∃ c,cellsOf z=some c/\c1=c.map f
theorem Zml{id:Zd}{x:IV}(h:isCell (scr id x)=true):isCell x=true:=by
 cases x <;> simp only[scr] at h <;> first | exact h | (split at h <;> first | rfl | exact h | cases h)
theorem Zgb(id:Zd):ScrF (scr id):=by
 refine⟨?_,rfl,?_,?_,?_,?_⟩
 ·intro z c h
  cases z <;> simp only[scr] at h <;> first | exact h | cases h | (split at h <;> cases h)
 ·intro z i n h
  cases z <;> simp only[scr] at h <;> first | (split at h <;> first | cases h | skip) | cases h
  rename_i hne
  exact⟨rfl,fun m=>by simp only[scr];rw[if_neg hne]⟩
 ·intro z i p a b s h
  cases z <;> simp only[scr] at h <;> first | (split at h <;> first | cases h | skip) | cases h
  rename_i hne
  exact⟨rfl,fun m=>by simp only[scr];rw[if_neg hne]⟩
 ·intro l
  simp only[scr]
  rw[QA]
 ·intro z c1 h
  cases z
  case ag l =>
   simp only[scr,cellsOf] at h ⊢
   split at h
   ·rename_i hl
    cases h
    refine⟨l,?_,QA l⟩
    rw[if_pos]
    rw[QA,List.all_map,Ua7] at hl
    exact Ua7.2 fun x hx=>Zml (hl x hx)
   ·cases h
  all_goals
   simp only[scr] at h
   first
    | (
      split at h
      ·simp [cellsOf,isCell] at h
      ·rename_i hne
       simp only[cellsOf] at h ⊢
       split at h
       ·rename_i hc
        cases h
        exact⟨_,if_pos hc,by simp [scr,hne]⟩
       ·cases h)
    | (
      simp only[cellsOf] at h ⊢
      split at h
      ·rename_i hc
       cases h
       exact⟨_,if_pos (by first | rfl | cases hc),by simp [scr]⟩
      ·cases h)
theorem ScrF.comp{f g:IV->IV}(hf:ScrF f)(hg:ScrF g):ScrF (fun x=>f (g x)):=by
 refine⟨fun h=>hg.ta (hf.ta h),by intro c;rw[hg.ta2,hf.ta2],fun h=>?_,fun h=>?_,?_,fun h=>?_⟩
 ·obtain⟨h1,h2⟩:=hf.ab h
  obtain⟨h3,h4⟩:=hg.ab h1
  exact⟨h3,fun m=>by rw[h4,h2]⟩
 ·obtain⟨h1,h2⟩:=hf.ae h
  obtain⟨h3,h4⟩:=hg.ae h1
  exact⟨h3,fun m=>by rw[h4,h2]⟩
 ·intro l
  rw[hg.ag,hf.ag,UbG]
  rfl
 ·obtain⟨c,h1,h2⟩:=hf.cells h
  obtain⟨c',h3,h4⟩:=hg.cells h1
  exact⟨c',h3,by rw[h2,h4,UbG];rfl⟩
theorem Zgc{d:Option Nat}{o:OP}{y:IV}{ρ ρ1:Nat->IV}{f:IV->IV}(h:X8 d o=true)(hf:∀ x,ZS ρ1 x=f (ZS ρ x)):∀ x∈rd o.o,ZS (Jo d y ρ1) x=f (ZS ρ x):=fun x hx=>by rw[(Y3 h).1 x hx,hf]
theorem Zmm{f:IV->IV}{fo:Ob->Ob}(hf:ScrF f)(hfo:∀ c,fo (.bx c) = .bx (c.map f))(h4:VO o=true){ρ ρ1:Nat->IV}{L L1:Zc}{lvl:Nat}{y':IV}{obs':List Ob}(hr:∀ x∈rd o.o,ZS ρ1 x=f (ZS ρ x))
  (hL:lbx o.o=true->∀ i cells1,L1 i=some (.bx cells1)->∃ cells,L i=some (.bx cells)/\cells1=cells.map f) (hkey:f (.sv (lvl,keyOf o.d)) = .sv (lvl,keyOf o.d)) (h:Eff C o ρ1 L1 lvl y' obs'):∃ y obs,Eff C o ρ L lvl y obs/\f y=y'/\obs.map fo=obs':=by
 unfold VO at h4
 simp only[Uad,Option.isNone_iff_eq_none] at h4
 obtain⟨h4,hg⟩:=h4
 unfold Eff at h ⊢
 rw[hg] at h ⊢
 dsimp only at h ⊢
 obtain⟨mk,ob,rfl,rfl,h⟩:=h
 generalize hoo:o.o=oo at *
 split at h4
 ·rename_i off p
  have hp:=hr p (by simp [rd])
  simp only[ev] at h
  split at h <;> try contradiction
  ·rename_i cells hc
   obtain⟨rfl,rfl⟩:=h
   rw[hp] at hc
   have hz:=hf.ta hc
   exact⟨_,_,⟨_,_,rfl,rfl,by simp only[ev,hz];exact⟨rfl,rfl⟩⟩,hf.ta2,rfl⟩
  ·rename_i id n hc
   obtain⟨rfl,rfl⟩:=h
   rw[hp] at hc
   obtain⟨hz,hz2⟩:=hf.ab hc
   exact⟨_,_,⟨_,_,rfl,rfl,by simp only[ev,hz];exact⟨rfl,rfl⟩⟩,hz2 _,rfl⟩
  ·rename_i id p2 i n s hc
   obtain⟨rfl,rfl⟩:=h
   rw[hp] at hc
   obtain⟨hz,hz2⟩:=hf.ae hc
   exact⟨_,_,⟨_,_,rfl,rfl,by simp only[ev,hz];exact⟨rfl,rfl⟩⟩,hz2 _,rfl⟩
 ·rename_i x
  have hp:=hr x (by simp [rd])
  simp only[ev] at h
  obtain⟨rfl,rfl⟩:=h
  exact⟨_,_,⟨_,_,rfl,rfl,by simp only[ev];exact⟨rfl,rfl⟩⟩,hp.symm,rfl⟩
 ·rename_i k n z ps
  simp only[ev] at h
  split at h <;> try contradiction
  rename_i x
  have hp:=hr x (by simp [rd])
  obtain⟨hn,h⟩:=h
  split at h <;> try contradiction
  rename_i c1 hc1
  obtain⟨hlen,rfl,rfl⟩:=h
  rw[hp] at hc1
  obtain⟨c,g1,g2⟩:=hf.cells hc1
  refine⟨_,[.bx c],⟨_,fun _ _=>[.bx c],rfl,rfl,by simp only[ev,g1];exact⟨hn,by rw[<-hlen,g2,Uab],by trivial,by trivial⟩⟩,hkey,?_⟩
  rw[UaB,UaX,hfo,g2]
 ·rename_i m p q
  have hp:=hr p (by simp [rd])
  have hap:Vb (ZS ρ1) p q->Vb (ZS ρ) p q:=by
   cases q with
   | none=>exact id
   | some q =>
    have hq:=hr (.t q) (by simp [rd])
    intro g
    have g:Va (ZS ρ1 p) (ZS ρ1 (.t q)):=g
    show Va (ZS ρ p) (ZS ρ (.t q))
    rw[hp,hq] at g
    unfold Va at g
    split at g <;> try contradiction
    rename_i i a j b e1 e2
    rw[(hf.ab e1).1,(hf.ab e2).1]
    exact g
  cases m with
  | none =>
   simp only[ev] at h
   obtain⟨ha,h⟩:=h
   split at h <;> try contradiction
   rename_i id off hc
   split at h <;> try contradiction
   rename_i cells1 hs
   obtain⟨x,hx,rfl,rfl⟩:=h
   rw[hp] at hc
   have hz:=(hf.ab hc).1
   obtain⟨cells,e1,e2⟩:=hL rfl _ _ hs
   rw[e2,Uan] at hx
   cases e3:cells[off]? with
   | none=>rw[e3] at hx;cases hx
   | some x0 =>
    rw[e3] at hx
    have hx:=Ubc hx
    exact⟨x0,[],⟨fun _ _=>x0,fun _ _=>[],rfl,rfl,by simp only[ev,hz,e1];exact⟨hap ha,x0,e3,rfl,rfl⟩⟩,hx,rfl⟩
  | some m =>
   simp only[ev] at h
   obtain⟨ha,h⟩:=h
   split at h <;> try contradiction
   rename_i id off hc
   split at h <;> try contradiction
   rename_i cells1 hs
   obtain⟨hle,rfl,rfl⟩:=h
   rw[hp] at hc
   have hz:=(hf.ab hc).1
   obtain⟨cells,e1,e2⟩:=hL rfl _ _ hs
   refine⟨.ag ((cells.drop off).take m),[],⟨fun _ _=>.ag ((cells.drop off).take m),fun _ _=>[],rfl,rfl,by simp only[ev,hz,e1];exact⟨hap ha,by rw[e2,Uab] at hle;exact hle,rfl,rfl⟩⟩,?_,rfl⟩
   rw[hf.ag,e2,List.map_take,List.map_drop]
 ·cases h4
def Lw(lvl:Nat)(out:Zc):Prop:=∀ i cells,i.1≠lvl->out i=some (.bx cells)->Za (fun j=>j.1≠lvl) cells
mutual
theorem Zmn(id:Zd):∀(x:IV),men (fun j=>j≠id) x->scr id x=x
 | .un,_=>rfl
 | .tr _,_=>rfl
 | .cs _,_=>rfl
 | .hd i p off len cap st,h=>by simp only[scr];exact if_neg h
 | .ab i off,h=>by simp only[scr];exact if_neg h
 | .sv i,h=>by simp only[scr];exact if_neg h
 | .ae i p a b st,h=>by simp only[scr];exact if_neg h
 | .ta _,_=>rfl
 | .ag l,h=>by simp only[scr,men] at *;rw[WX id l h]
 | .tu l,h=>by simp only[scr,men] at *;rw[WX id l h]
 | .fn f l,h=>by simp only[scr,men] at *;rw[WX id l h]
 | .ow ..,_=>rfl
 | .er,_=>rfl
theorem WX(id:Zd):∀(l:List IV),Za (fun j=>j≠id) l->scrs id l=l
 | [],_=>rfl
 | x::r,h=>by simp only[scrs];rw[Zmn id x h.1,WX id r h.2]
end
theorem Zgd{lvl:Nat}{σ:Nat->Option Ob}{out:Zc}{i:Zd}(h:i.1=lvl):ZX lvl σ out i=σ i.2:=if_pos h
theorem UW{lvl:Nat}{σ:Nat->Option Ob}{out:Zc}{i:Zd}(h:i.1≠lvl):ZX lvl σ out i=out i:=if_neg h
theorem Zge{ρ:Nat->IV}{id2 idr:Zd}(x:X):ZS (fun t=>scr id2 (scr idr (ρ t))) x=scr id2 (scr idr (ZS ρ x)):=by
 rw[WW (ρ':=fun t=>scr id2 (scr idr (ρ t))) (ρ:=fun t=>scr idr (ρ t)) (fun _=>rfl),WW (ρ':=fun t=>scr idr (ρ t)) (ρ:=ρ) (fun _=>rfl)]
theorem Zmo{lvl:Nat}{ρ ρ1:Nat->IV}{σ σ1:Nat->Option Ob}{out out1:Zc}(h4:VO o=true)(h:QS C lvl o ρ σ out ρ1 σ1 out1):∃ y obs,Eff C o ρ (ZX lvl σ out) lvl y obs/\Vy (keyOf o.d) obs.length σ/\ρ1=Jo o.d y ρ/\σ1=ZL (keyOf o.d) obs σ/\out1=out:=by
 rcases h with ⟨_,h⟩ | ⟨hq,_⟩
 ·exact h
 ·have:=Zay h4
  rw[US hq] at this
  cases this
theorem Zmp{lvl:Nat}{ρ ρp ρ2:Nat->IV}{σ σp σ2:Nat->Option Ob}{out outp out2:Zc}(h4:VO o=true)(hi:YU p o=true)(hk:keyOf p.d<=keyOf o.d)(hlw:lbx o.o=true->Lw lvl out)
  (h1:MS lvl p ρ σ out ρp σp outp) (h2:QS C lvl o ρp σp outp ρ2 σ2 out2):∃ ρ1 σ1 out1,QS C lvl o ρ σ out ρ1 σ1 out1/\MS lvl p ρ1 σ1 out1 ρ2 σ2 out2:=by
 obtain⟨hm,k,x,y,v,id,id2,idr,ob,ho,m,rfl,rfl,rfl⟩:=h1
 obtain⟨i1,i2,i3⟩:=Xy hi
 obtain⟨y',obs',e1,e2,rfl,rfl,rfl⟩:=Zmo h4 h2
 have hf:ScrF (fun z=>scr id2 (scr idr z)):=(Zgb id2).comp (Zgb idr)
 have hob:∀ cells,ob ≠ .bx cells:=fun cells e=>by
  obtain⟨_,_,_,_,_,_,_,_,_,_,_,_,_,_,_,_,_,_,_,_,_,_,_,_,_,h⟩:=m.ex
  rw[h] at e
  cases e
 have hL:lbx o.o=true->∀ i cells1,ZX lvl (Jz lvl id ob (kl id2 (kl idr σ))) (Qb lvl id ob out) i=some (.bx cells1)->∃ cells,ZX lvl σ out i=some (.bx cells)/\cells1=cells.map fun z=>scr id2 (scr idr z):=fun hlb i cells1 hs=>by
  rw[Xx] at hs
  unfold Ze at hs
  split at hs
  ·exact absurd (Ubc hs) (hob _)
  ·by_cases hl:i.1=lvl
   ·rw[Zgd hl] at hs ⊢
    unfold kl at hs
    split at hs
    ·cases hs
    ·split at hs
     ·cases hs
     ·cases e:σ i.2 with
      | none=>rw[e] at hs;cases hs
      | some b =>
       rw[e] at hs
       cases b with
       | bx c =>
        refine⟨c,rfl,?_⟩
        have hs:=Ubc hs
        simp only[scrOb,Ob.bx.injEq] at hs
        rw[<-hs,QA,QA,UbG]
        rfl
       | ar a1 a2 a3 a4 a5=>cases hs
       | mp l=>cases hs
   ·rw[UW hl] at hs ⊢
    refine⟨cells1,hs,?_⟩
    have hw:=hlw hlb i cells1 hl hs
    have w1:Za (fun j=>j≠id2) cells1:=JD (fun j hj e=>hj (by rw[e];exact m.l2)) _ hw
    have w2:Za (fun j=>j≠idr) cells1:=JD (fun j hj e=>hj (by rw[e];exact m.l3)) _ hw
    have c1:cells1.map (scr idr)=cells1:=by rw[<-QA,WX idr _ w2]
    rw[show (fun z=>scr id2 (scr idr z))=scr id2 ∘ scr idr from rfl,<-UbG,c1,<-QA,WX id2 _ w1]
 have hkey:scr id2 (scr idr (.sv (lvl,keyOf o.d))) = .sv (lvl,keyOf o.d):=by
  have g3:=m.k3
  have g2:=m.k2
  simp only[scr]
  rw[if_neg (fun e=>by rw[<-e] at g3;exact Ua4 _ (UaM g3 hk))]
  simp only[scr]
  rw[if_neg (fun e=>by rw[<-e] at g2;exact Ua4 _ (UaM g2 hk))]
 obtain⟨y0,obs0,g1,g2,g3⟩:=Zmm (o:=o) (f:=fun z=>scr id2 (scr idr z)) (fo:=fun b=>scrOb id2 (scrOb idr b)) hf (fun c=>by simp only[scrOb];rw[QA,QA,UbG];rfl) h4 (ρ:=ρ) (L:=ZX lvl σ out) (Zgc (f:=fun z=>scr id2 (scr idr z)) i1 (fun x=>Zge x)) hL hkey e1
 have hlen:obs0.length=obs'.length:=by rw[<-g3,Uab]
 have hlt:∀{j:Zd} {q:Nat},j.2<keyOf p.d->keyOf o.d<=q->q≠j.2:=fun h1 h2 e=>by omega
 have hfr:Vy (keyOf o.d) obs0.length σ:=fun q q1 q2=>by
  have hn:=Zf4 (e2 q q1 (by omega))
  rw[Q6 (hlt m.k2 q1),Q6 (hlt m.k3 q1)] at hn
  simpa using hn
 have hop:=Y3 (o:=p) (d:=o.d) (y:=y0) (ρ:=ρ) i2
 have hx:=hop.1 x (by rw[ho];simp [rd])
 have hy:=hop.1 y (by rw[ho];simp [rd])
 refine⟨_,_,_,.inl ⟨Zay h4,y0,obs0,g1,hfr,rfl,rfl,rfl⟩,hm,k,x,y,v,id,id2,idr,ob,ho,?_,?_,?_,rfl⟩
 ·obtain⟨len,s,n,s2,hw2,k2,ver2,hw,ver,zs,es,u2,u,a1,a2,a3,a4,a5,a6⟩:=m.ex
  exact⟨⟨len,s,n,s2,hw2,k2,ver2,hw,ver,zs,es,u2,u,by rw[hx];exact a1,by rw[hy];exact a2,Vz hfr _ _ a3,Vz hfr _ _ a4,Vz hfr _ _ a5,a6⟩,m.l1,m.l2,m.l3,m.k1,m.k2,m.k3,m.n1,m.n2⟩
 ·rw[<-g2]
  rw[Q5 (by rw[<-i3];cases p.d <;> cases o.d <;> simp [bne_comm])]
  congr 1
  funext t
  unfold Jo
  split <;> rfl
 ·rw[<-g3]
  funext q
  unfold ZL
  rw[Uab]
  by_cases hq:keyOf o.d<=q/\q<keyOf o.d+obs0.length
  ·rw[if_pos hq]
   unfold Jz
   rw[if_neg (fun e=>by have:=m.k1;rw[e] at this;have:q<keyOf p.d:=this;omega),Q6 (hlt m.k2 hq.1),Q6 (hlt m.k3 hq.1),if_pos hq,Uan]
   cases obs0[q-keyOf o.d]? <;> rfl
  ·rw[if_neg hq]
   unfold Jz
   split
   ·rfl
   ·unfold kl
    split
    ·rfl
    ·split
     ·rfl
     ·show _=Option.map (scrOb id2) (Option.map (scrOb idr) (if keyOf o.d<=q/\q<keyOf o.d+obs0.length then obs0[q-keyOf o.d]? else σ q))
      rw[if_neg hq]
theorem Zmq{lvl:Nat}{ρ ρ1:Nat->IV}{σ σ1:Nat->Option Ob}{out out1:Zc}(h:MS lvl p ρ σ out ρ1 σ1 out1):out1=out:=by
 obtain⟨_,k,x,y,v,id,id2,idr,ob,_,m,_,_,rfl⟩:=h
 unfold Qb
 rw[if_pos m.l1]
theorem Zgf{lvl:Nat}{ρ ρ1:Nat->IV}{σ σ1:Nat->Option Ob}{out out1:Zc}(h:UV C lvl p ρ σ out ρ1 σ1 out1):(JY p=false/\QS C lvl p ρ σ out ρ1 σ1 out1)\/(JY p=true/\MS lvl p ρ σ out ρ1 σ1 out1):=by
 rcases h with h | h
 ·exact .inl ⟨Zmk h,h⟩
 ·exact .inr ⟨h.1,h⟩
theorem Zgg(h4:VO o=true):JY o=false:=by
 cases e:JY o with
 | false=>rfl
 | true=>have:=Zay h4;rw[ZcD e] at this;cases this
theorem Zmr(h4:VO o=true):lfree o.o=true\/lbx o.o=true:=by
 unfold VO at h4
 simp only[Uad] at h4
 have h4:=h4.1
 split at h4
 ·rename_i he;rw[he];exact .inl rfl
 ·rename_i he;rw[he];exact .inl rfl
 ·rename_i he;rw[he];exact .inl rfl
 ·rename_i he;rw[he];exact .inr rfl
 ·cases h4
theorem Zgh(hb:lbx o.o=true)(h:VN p o=true):YU p o=true/\(Jr p.o=false\/(Xt p.o=true/\Vg p=true)):=by
 have hlb:=X7 hb
 have hl:lfree o.o=false:=by cases e:o.o <;> rw[e] at hb <;> first | rfl | cases hb
 have hw:wfr o.o=false:=by cases e:o.o <;> rw[e] at hb <;> first | rfl | cases hb
 simp only[VN,Uad,UaO,Uar] at h
 refine⟨h.1,?_⟩
 rcases h.2 with ((h | h) | h) | h
 ·exact .inl h.1
 ·exact absurd h.2 (by simp [hl,hw])
 ·have:=US h.2
  rw[hlb] at this;cases this
 ·exact h.1
theorem Zaz(hm:JY p=true)(h:Qd p o=true):YU p o=true/\VO o=true/\keyOf p.d<=keyOf o.d:=by
 unfold Qd at h
 rw[hm] at h
 simpa [Uad,and_assoc] using h
theorem ZaA(hm:JY p=false)(h:Qd p o=true):VN p o=true:=by
 unfold Qd at h
 rw[hm] at h
 simpa using h
abbrev Jv(lvl:Nat)(o:OP)(ρ:Nat->IV)(σ:Nat->Option Ob)(out:Zc):Prop:=∀ x∈rd o.o,men (fun i=>(ZX lvl σ out i).isSome=true) (ZS ρ x)
theorem Zms{lvl:Nat}{ρ ρ1:Nat->IV}{σ σ1:Nat->Option Ob}{out out1:Zc}(hi:YU p o=true)(h:QS C lvl p ρ σ out ρ1 σ1 out1)(hj:Jv lvl o ρ σ out):Jv lvl o ρ1 σ1 out1:=fun x hx=>by
 obtain⟨i1,_,_⟩:=Xy hi
 have e:ZS ρ1 x=ZS ρ x:=by
  obtain⟨yp,rfl⟩:=WU h
  exact(Y3 (y:=yp) (ρ:=ρ) i1).1 x hx
 rw[e]
 refine JL (fun i hi=>?_) _ (hj x hx)
 rcases h with ⟨_,yp',obp,e1,e2,e3,rfl,rfl⟩ | ⟨hqp,yp',id,ob,e1,e3,rfl,rfl⟩
 ·obtain⟨ob,hob⟩:=Uai.1 hi
  rw[Vz e2 i ob hob]
  rfl
 ·rw[Xx]
  unfold Ze
  split
  ·rfl
  ·exact hi
theorem Zmt{lvl:Nat}{ρ ρ1:Nat->IV}{σ σ1:Nat->Option Ob}{out out1:Zc}(hi:YU p o=true)(h:MS lvl p ρ σ out ρ1 σ1 out1)(hj:Jv lvl o ρ σ out):Jv lvl o ρ1 σ1 out1:=fun x hx=>by
 obtain⟨i1,_,_⟩:=Xy hi
 obtain⟨_,k,xx,yy,v,id,id2,idr,ob,_,m,rfl,rfl,rfl⟩:=h
 rw[Zgc (f:=fun z=>scr id2 (scr idr z)) i1 (fun x=>Zge x) x hx]
 refine JL (fun i hi=>?_) _ (Zae id2 _ (Zae idr _ (hj x hx)))
 obtain⟨⟨ha,hr⟩,h2⟩:=hi
 rw[Xx]
 unfold Ze
 split
 ·rfl
 ·by_cases hl:i.1=lvl
  ·rw[Zgd hl] at ha ⊢
   rw[Q6 (UU hl m.l2 h2),Q6 (UU hl m.l3 hr)]
   cases e:σ i.2 with
   | none=>rw[e] at ha;cases ha
   | some b=>rfl
  ·rw[UW hl] at ha ⊢
   exact ha
theorem Zmu{lvl:Nat}{ρ ρ1:Nat->IV}{σ σ1:Nat->Option Ob}{out out1:Zc}(hp:Jr p.o=false\/(Xt p.o=true/\Vg p=true))(h:QS C lvl p ρ σ out ρ1 σ1 out1)(hw:Lw lvl out):Lw lvl out1:=by
 rcases h with ⟨_,yp',obp,e1,e2,e3,rfl,rfl⟩ | ⟨hqp,yp',id,ob,e1,e3,rfl,rfl⟩
 ·exact hw
 ·intro i cells hl hc
  have hq:Xt p.o=true:=hp.elim (fun g=>by rw[US hqp] at g;cases g) (fun g=>g.1)
  refine hw i cells hl ?_
  have:=(Zcy p.o hq e1 i cells).1 (by rw[<-Xx,UW hl];exact hc)
  rw[UW hl] at this
  exact this
theorem ZcF{lvl:Nat}(h4:VO o=true):∀(l1:List OP) (ρ:Nat->IV) (σ:Nat->Option Ob) (out:Zc) (ρ':Nat->IV) (σ':Nat->Option Ob) (out':Zc),(∀ p∈l1,Qd p o=true)->(lbx o.o=true->Lw lvl out)->Jv lvl o ρ σ out ->
  VA C lvl (l1++[o]) ρ σ out ρ' σ' out'->∃ ρ1 σ1 out1,QS C lvl o ρ σ out ρ1 σ1 out1/\VA C lvl l1 ρ1 σ1 out1 ρ' σ' out'
 | [],ρ,σ,out,ρ',σ',out',_,_,_,h=>by
  obtain⟨ρ1,σ1,out1,h1,h2⟩:=h
  rcases Zgf h1 with ⟨_,h1⟩ | ⟨hm,_⟩
  ·exact⟨ρ1,σ1,out1,h1,h2⟩
  ·rw[Zgg h4] at hm;cases hm
 | p::l1,ρ,σ,out,ρ',σ',out',hi,hlw,hj,h=>by
  obtain⟨ρp,σp,outp,hp,hr⟩:=h
  have hip:=hi p (by simp)
  rcases Zgf hp with ⟨hm,hp⟩ | ⟨hm,hp⟩
  ·have h0:=ZaA hm hip
   have hind:YU p o=true:=by
    simp only[VN,Uad] at h0
    exact h0.1
   obtain⟨ρ1,σ1,out1,h1,h2⟩:=ZcF h4 l1 _ _ _ _ _ _ (fun q hq=>hi q (by simp [hq])) (fun hb=>Zmu (Zgh hb h0).2 hp (hlw hb)) (Zms hind hp hj) hr
   have hrun:YL C lvl ([p]++o::[]) ρ σ out ρ1 σ1 out1:=⟨ρp,σp,outp,hp,ρ1,σ1,out1,h1,rfl,rfl,rfl⟩
   have one:∃ ρ2 σ2 out2,QS C lvl o ρ σ out ρ2 σ2 out2/\YL C lvl ([p]++[]) ρ2 σ2 out2 ρ1 σ1 out1:=by
    rcases Zmr h4 with hl | hb
    ·exact ZcA hl [p] [] _ _ _ _ _ _ (fun q hq=>by rw[UaT] at hq;rw[hq];exact hind) hrun
    ·exact ZcB (I:=fun i=>(ZX lvl σ out i).isSome=true) hb [p] [] _ _ _ _ _ _ (fun q hq=>by rw[UaT] at hq;rw[hq];exact Zgh hb h0) hj (fun _ h=>h) hrun
   obtain⟨ρ2,σ2,out2,g1,ρ3,σ3,out3,g2,rfl,rfl,rfl⟩:=one
   exact⟨ρ2,σ2,out2,g1,_,_,_,.inl g2,h2⟩
  ·obtain⟨hind,_,hk⟩:=Zaz hm hip
   obtain⟨ρ1,σ1,out1,h1,h2⟩:=ZcF h4 l1 _ _ _ _ _ _ (fun q hq=>hi q (by simp [hq])) (fun hb=>by rw[Zmq hp];exact hlw hb) (Zmt hind hp hj) hr
   obtain⟨ρ2,σ2,out2,g1,g2⟩:=Zmp h4 hind hk hlw hp h1
   exact⟨ρ2,σ2,out2,g1,_,_,_,.inr g2,h2⟩
theorem qrunM_append{lvl:Nat}:∀{l1 l2:List OP} {ρ:Nat->IV} {σ:Nat->Option Ob} {out:Zc} {ρ':Nat->IV} {σ':Nat->Option Ob} {out':Zc},VA C lvl (l1++l2) ρ σ out ρ' σ' out'↔∃ ρ1 σ1 out1,VA C lvl l1 ρ σ out ρ1 σ1 out1/\VA C lvl l2 ρ1 σ1 out1 ρ' σ' out'
 | [],l2,ρ,σ,out,ρ',σ',out' => by
  constructor
  ·intro h;exact⟨ρ,σ,out,⟨rfl,rfl,rfl⟩,h⟩
  ·rintro⟨ρ1,σ1,out1,⟨rfl,rfl,rfl⟩,h⟩;exact h
 | o::l1,l2,ρ,σ,out,ρ',σ',out' => by
  constructor
  ·rintro⟨ρ1,σ1,out1,h1,h2⟩
   obtain⟨ρ2,σ2,out2,h3,h4⟩:=qrunM_append.1 h2
   exact⟨ρ2,σ2,out2,⟨ρ1,σ1,out1,h1,h3⟩,h4⟩
  ·rintro⟨ρ2,σ2,out2,⟨ρ1,σ1,out1,h1,h3⟩,h4⟩
   exact⟨ρ1,σ1,out1,h1,qrunM_append.2 ⟨ρ2,σ2,out2,h3,h4⟩⟩
theorem Zgi{lvl:Nat}:∀{l:List OP} {ρ:Nat->IV} {σ:Nat->Option Ob} {out:Zc} {ρ':Nat->IV} {σ':Nat->Option Ob} {out':Zc},YL C lvl l ρ σ out ρ' σ' out'->VA C lvl l ρ σ out ρ' σ' out'
 | [],_,_,_,_,_,_,h=>h
 | _::_,_,_,_,_,_,_,⟨ρ1,σ1,out1,h1,h2⟩=>⟨ρ1,σ1,out1,.inl h1,Zgi h2⟩
theorem Zgj{lvl:Nat}:∀{l:List OP} {ρ:Nat->IV} {σ:Nat->Option Ob} {out:Zc} {ρ':Nat->IV} {σ':Nat->Option Ob} {out':Zc},(∀ p∈l,JY p=false)->VA C lvl l ρ σ out ρ' σ' out'->YL C lvl l ρ σ out ρ' σ' out'
 | [],_,_,_,_,_,_,_,h=>h
 | p::_,_,_,_,_,_,_,hn,⟨ρ1,σ1,out1,h1,h2⟩=>by
  refine⟨ρ1,σ1,out1,?_,Zgj (fun q hq=>hn q (by simp [hq])) h2⟩
  rcases h1 with h1 | h1
  ·exact h1
  ·have:=h1.1;rw[hn p (by simp)] at this;cases this
theorem Zgk{p o:OP}(h:VN p o=true):YV p=true/\YV o=true:=by
 simp only[VN,Uad,UaO,Uar] at h
 unfold YV
 simp only[UaO,Uar]
 rcases h.2 with ((h | h) | h) | h
 ·exact⟨.inl h.1,.inl h.2⟩
 ·have:=h.1
  unfold YV at this
  simp only[UaO,Uar] at this
  rcases h.2 with h2 | h2
  ·exact⟨this,.inl (UP h2)⟩
  ·exact⟨this,.inl (Zf0 h2)⟩
 ·exact⟨.inl (h.1.elim (fun g=>g.elim UP fun g=>X7 g.1) ZcC),.inr h.2⟩
 ·exact⟨h.1.elim .inl fun g=>.inr g.2,.inl (X7 h.2)⟩
theorem Zmv(hm:JY o=true):YV o=false:=by
 cases e:YV o with
 | false=>rfl
 | true =>
  unfold YV at e
  simp only[UaO,Uar] at e
  obtain⟨_,k,x,y,ho⟩:=UT hm
  rcases e with e | e
  ·rw[ZcD hm] at e;cases e
  ·obtain⟨_,h | h⟩:=Qc e
   ·obtain⟨m,q,x,h,_⟩:=h;rw[ho] at h;cases h
   ·obtain⟨k,x,z,h | h | h | h⟩:=h <;> (rw[ho] at h;cases h)
theorem Zgl{p o:OP}(h:Qd p o=true):qt p=true/\qt o=true:=by
 unfold qt
 cases hm:JY p with
 | true =>
  have h4:=(Zaz hm h).2.1
  refine⟨by simp,?_⟩
  unfold YV
  rw[Zay h4]
  rfl
 | false =>
  obtain⟨h1,h2⟩:=Zgk (ZaA hm h)
  rw[h1,h2]
  exact⟨rfl,rfl⟩
theorem Zmw{lvl:Nat}{I:Zd->Prop}{l1 l2:List OP}{ρ:Nat->IV}{σ:Nat->Option Ob}{out:Zc}{ρ':Nat->IV}{σ':Nat->Option Ob}{out':Zc}(hq:qt o=true)(hi:∀ p∈l1,Qd p o=true)(hm:∀ x,men I (ZS ρ x))(hI:∀ id,I id->(ZX lvl σ out id).isSome=true)(hcl:∀ id cells,I id->ZX lvl σ out id=some (.bx cells)->Za I cells)
  (hlw:Lw lvl out) (h:VA C lvl (l1++o::l2) ρ σ out ρ' σ' out'):∃ ρ1 σ1 out1,UV C lvl o ρ σ out ρ1 σ1 out1/\VA C lvl (l1++l2) ρ1 σ1 out1 ρ' σ' out':=by
 cases hmo:JY o with
 | true =>
  cases l1 with
  | nil=>exact h
  | cons p r =>
   exfalso
   have hp:=hi p (by simp)
   cases hmp:JY p with
   | true=>have:=Zgg (Zaz hmp hp).2.1;rw[hmo] at this;cases this
   | false=>have:=(Zgk (ZaA hmp hp)).2;rw[Zmv hmo] at this;cases this
 | false =>
  have hsp:l1++o::l2=(l1++[o])++l2:=by simp
  rw[hsp] at h
  obtain⟨ρm,σm,outm,h1,h2⟩:=qrunM_append.1 h
  have key:∃ ρ1 σ1 out1,QS C lvl o ρ σ out ρ1 σ1 out1/\VA C lvl l1 ρ1 σ1 out1 ρm σm outm:=by
   by_cases hh:∃ p∈l1,JY p=true
   ·obtain⟨p,hp,hmp⟩:=hh
    exact ZcF (Zaz hmp (hi p hp)).2.1 l1 _ _ _ _ _ _ hi (fun _=>hlw) (fun x _=>JL (fun i hi=>hI i hi) _ (hm x)) h1
   ·have hno:∀ p∈l1,JY p=false:=fun p hp=>by
     cases e:JY p with
     | false=>rfl
     | true=>exact absurd ⟨p,hp,e⟩ hh
    have hq0:YV o=true:=by
     unfold qt at hq
     rw[hmo,Bool.or_false] at hq
     exact hq
    have hrun:=Zgj (fun p hp=>by
     rcases Uax.1 hp with hp | hp
     ·exact hno p hp
     ·rw[UaT] at hp;rw[hp];exact hmo) h1
    obtain⟨ρ1,σ1,out1,g1,g2⟩:=Zme hq0 (fun p hp=>ZaA (hno p hp) (hi p hp)) hm hI hcl hrun
    rw[Ua9] at g2
    exact⟨ρ1,σ1,out1,g1,Zgi g2⟩
  obtain⟨ρ1,σ1,out1,g1,g2⟩:=key
  exact⟨ρ1,σ1,out1,.inl g1,qrunM_append.2 ⟨_,_,_,g2,h2⟩⟩
end
end Go.Fd

namespace Go.Fd
variable [Tabs]
def ZcG(l s:List Nat):List Nat:=l.foldl (fun s x=>if s.contains x then s else x::s) s
theorem Zgm{j:Nat}:∀{l s:List Nat},j∈ZcG l s->j∈l\/j∈s
 | [],_,h=>.inr h
 | x::r,s,h=>by
  have h':j∈ZcG r (if s.contains x then s else x::s):=h
  rcases Zgm h' with h1 | h1
  ·exact .inl (UbQ _ h1)
  ·split at h1
   ·exact .inr h1
   ·rcases UaV.1 h1 with rfl | h1
    ·exact .inl List.mem_cons_self
    ·exact .inr h1
def ZaB:List Oper->List (List Nat)->List (List Nat)
 | [],acc=>acc
 | o::r,acc=>ZaB r (acc++[ZcG ((o.after.toList.filter fun e=>Region.binds .any e).flatMap fun e=>e.on::acc.getD e.on []) []])
def Cl(ops:List Oper)(listed:Array Bool):Prop:=∀(i:Nat) (oper:Oper),ops[i]? = some oper->listed.getD i false=true->∀ e∈oper.after,Region.binds .any e=true->listed.getD e.on false=true
def Gd(ops:List Oper)(listed:Array Bool)(acc:List (List Nat)):Prop:=∀(i:Nat) (B:List Nat) (oper:Oper),acc[i]? = some B->ops[i]? = some oper->(∀ e∈oper.after,Region.binds .any e=true->listed.getD e.on false=true)->∀ j∈B,listed.getD j false=true
theorem Zgn{ops:List Oper}{listed:Array Bool}(hc:Cl ops listed):∀(r:List Oper) (acc:List (List Nat)),ops.drop acc.length=r->acc.length<=ops.length->Gd ops listed acc->Gd ops listed (ZaB r acc)
 | [],acc,_,_,hg=>hg
 | o::r,acc,hr,hl,hg=>by
  have ho:ops[acc.length]? = some o:=by
   have:=congrArg (fun l=>l[0]?) hr
   simpa using this
  have hlt:acc.length<ops.length:=(Uac.1 ho).1
  refine Zgn hc r _ ?_ (by simp;omega) ?_
  ·rw[Uam,List.length_singleton,<-Ubz,hr];rfl
  ·intro i B oper hB hi he j hj
   rcases Nat.lt_trichotomy i acc.length with h | h | h
   ·rw[Uaq h] at hB
    exact hg i B oper hB hi he j hj
   ·subst h
    rw[Uao (Uag _)] at hB
    simp only[Ubm,List.getElem?_cons_zero,Uak] at hB
    subst hB
    rw[ho] at hi;cases hi
    rcases Zgm hj with h1 | h1
    ·obtain⟨e,h2,h3⟩:=List.mem_flatMap.1 h1
     obtain⟨h4,h5⟩:=List.mem_filter.1 h2
     have h4':e∈o.after:=by simpa using h4
     rcases UaV.1 h3 with rfl | h6
     ·exact he e h4' h5
     ·cases hq:acc[e.on]? with
      | none=>simp [List.getD,hq] at h6
      | some B2 =>
       have h7:j∈B2:=by simpa [List.getD,hq] using h6
       have h8:e.on<acc.length:=(Uac.1 hq).1
       have h9:ops[e.on]? = some (ops[e.on]'(by omega)):=Uaf (by omega)
       exact hg e.on B2 _ hq h9 (hc e.on _ h9 (he e h4' h5)) j h7
    ·cases h1
   ·rw[Uao (by omega)] at hB
    have:1<=i-acc.length:=by omega
    rw[Ua1 (by simpa using this)] at hB
    cases hB
theorem Cl.take{ops:List Oper}{listed:Array Bool}{i:Nat}(hc:Cl ops listed)(hi:∀ oper,ops[i]? = some oper->∀ e∈oper.after,Region.binds .any e=true->listed.getD e.on false=true):Cl ops (listed.setIfInBounds i true):=by
 have mono:∀ k,listed.getD k false=true->(listed.setIfInBounds i true).getD k false=true:=fun k hk=>by
  rw[Uay] at hk ⊢
  rw[UaI]
  split
  ·split
   ·rfl
   ·rename_i h1 h2
    subst h1
    rw[Array.getElem?_eq_none (by omega)] at hk
    cases hk
  ·exact hk
 intro k oper hk hl e he hb
 by_cases hik:i=k
 ·subst hik
  exact mono _ (hi oper hk e he hb)
 ·refine mono _ (hc k oper hk ?_ e he hb)
  rw[Uay] at hl ⊢
  rw[UaI,if_neg hik] at hl
  exact hl
def UX(ops:Array Oper)(l:List OP):Bool :=
 let B:=ZaB ops.toList []
 (List.range ops.size).all fun i =>
  match ops[i]?,l[i]? with
  | some oper,some o=>(oper.after.all fun e=>!Region.binds .any e || decide (e.on<i)) &&
    (List.range i).all fun j=>(B.getD i []).contains j || (match l[j]? with | some p=>Qd p o | none=>false)
  | _,_=>false
section
variable {P:Program} {F:Fr} {G:Gh} {s:St} {a:Act} {w:World}
theorem Sim.congr(h:Sim F G s a w){s':St}(h1:s'.lvl=s.lvl)(h2:s'.out=s.out)(h3:(fun t=>lk t s'.env)=fun t=>lk t s.env)(h4:(fun k=>lkO k s'.loc)=fun k=>lkO k s.loc):Sim F G s' a w:=by
 have hs:s'.sto=s.sto:=by rw[Xu,Xu,h1,h2,h4]
 refine⟨h.dfr,h.sz,fun t=>?_,by rw[hs];exact h.ok,by rw[h1];exact h.lvl,by rw[h1,h2];exact h.outl,by rw[hs];exact h.fr,h.fix⟩
 have:=congrFun h3 t
 rw[hs,this]
 exact h.env t
theorem Sim.men_x(h:Sim F G s a w)(x:X):men (fun id=>(ZX s.lvl (fun k=>lkO k s.loc) s.out id).isSome=true) (ZS (fun t=>lk t s.env) x):=by
 cases x with
 | t n=>exact X0 _ _ (h.env n)
 | k v=>exact Zl9 v
 | f i=>simp [ZS,men,Za]
theorem Sim.cells_live(h:Sim F G s a w){id:Zd}{cells:List IV}(hc:ZX s.lvl (fun k=>lkO k s.loc) s.out id=some (.bx cells)):Za (fun id=>(ZX s.lvl (fun k=>lkO k s.loc) s.out id).isSome=true) cells:=by
 have hs:s.sto id=some (.bx cells):=by rw[Xu];exact hc
 obtain⟨b,c,vs,ty,_,_,hv⟩:=h.ok.obs _ _ hs
 exact Qt _ _ hv
theorem ZcH{nt:Nat}{ops:Array Oper}:∀{l:List OP} {r:List Oper},QU P nt ops l r=true->l.length=r.length/\∀(i:Nat) (o:OP) (oper:Oper),l[i]? = some o->r[i]? = some oper->DS P nt ops o oper=true
 | [],[],_=>⟨rfl,fun i o oper h=>by simp at h⟩
 | [],_::_,h=>by cases h
 | _::_,[],h=>by cases h
 | o::l,oper::r,h=>by
  simp only[QU,Uad] at h
  obtain⟨h1,h2⟩:=ZcH h.2
  refine⟨by simp [h1],fun i o' oper' ho hr=>?_⟩
  cases i with
  | zero=>simp at ho hr;subst ho hr;exact h.1
  | succ i=>exact h2 i o' oper' (by simpa using ho) (by simpa using hr)
structure Todo (l:List OP) (listed:Array Bool) (R:List (Nat×OP)):Prop where
 mem:∀ i o,(i,o)∈R↔l[i]? = some o/\listed[i]? = some false
 sort:R.Pairwise (fun x y=>x.1<y.1)
theorem Todo.take{l:List OP}{listed:Array Bool}{R1 R2:List (Nat×OP)}{i:Nat}{o:OP}(h:Todo l listed (R1++(i,o)::R2)):Todo l (listed.setIfInBounds i true) (R1++R2):=by
 have hp:=UbC.1 h.sort
 have hp2:=Ua3.1 hp.2.1
 refine⟨fun j p=>?_,?_⟩
 ·have hm:=h.mem j p
  rw[UaI]
  by_cases hj:i=j
  ·subst hj
   rw[if_pos rfl]
   constructor
   ·intro hin
    exfalso
    rcases Uax.1 hin with g | g
    ·exact Ua4 _ (hp.2.2 _ g (i,o) (by simp))
    ·exact Ua4 i (hp2.1 (i,p) g)
   ·rintro⟨_,h2⟩
    split at h2 <;> cases h2
  ·rw[if_neg hj,<-hm]
   simp only[Uax,UaV,Ua0]
   constructor
   ·rintro(g | g)
    ·exact .inl g
    ·exact .inr (.inr g)
   ·rintro(g | ⟨g,_⟩ | g)
    ·exact .inl g
    ·exact absurd g.symm hj
    ·exact .inr g
 ·exact UbC.2 ⟨hp.1,hp2.2,fun x hx y hy=>hp.2.2 x hx y (by simp [hy])⟩
theorem ZcI{C:ZD}:∀{l1 l2:List OP} {s:St} {K:St->Prop},YG C (l1++l2) s K=YG C l1 s fun s' => YG C l2 s' K
 | [],_,_,_=>rfl
 | o::r,l2,s,K=>by
  simp only[List.cons_append,YG]
  congr 1
  funext s'
  exact ZcI
theorem ZcJ:∀(R:List (Nat×OP)),∃ R1 R2,R=R1++R2/\(∀ x∈R1,qt x.2=true)/\∀ x r,R2=x::r->qt x.2=false
 | []=>⟨[],[],rfl,fun _ h=>(by cases h),fun _ _ h=>(by cases h)⟩
 | x::r=>by
  by_cases h:qt x.2=true
  ·obtain⟨R1,R2,h1,h2,h3⟩:=ZcJ r
   refine⟨x::R1,R2,by rw[h1];rfl,fun y hy=>?_,h3⟩
   rcases UaV.1 hy with rfl | hy
   ·exact h
   ·exact h2 y hy
  ·exact⟨[],x::r,rfl,fun _ h=>(by cases h),fun y s hs=>by cases hs;simpa using h⟩
theorem Sim.lw(h:Sim F G s a w):Lw s.lvl s.out:=fun i cells hl hc=>by
 have hlt:=h.outl i _ hc
 have hs:s.sto i=some (.bx cells):=by rw[Xu,UW hl];exact hc
 exact JD (fun j (hj:j.1<i.1+1) e=>by omega) _ (h.ok.low i cells hs)
theorem Zmx{ops:Array Oper}{l:List OP}{Q:Exit->Act->World->Prop}{K:St->Prop}(hc:QU P F.nt ops l ops.toList=true)(hd:UX ops l=true)
  (hq:∀ st' G' a' w',K st'->Sim F G' st' a' w'->Q .normal a' w'):∀(fuel:Nat) (listed:Array Bool) (Rs Rl:List (Nat×OP)) (s st0:St) (G:Gh) (a:Act) (w:World),
  listed.size=ops.size->Cl ops.toList listed->Todo l listed (Rs++Rl)->(Rs++Rl).length=fuel->(∀ x∈Rs,qt x.2=true)->(∀ x r,Rl=x::r->qt x.2=false)->Sim F G s a w ->
  VA (Sem P) s.lvl (Rs.map (·.2)) (fun t=>lk t s.env) (fun k=>lkO k s.loc) s.out (fun t=>lk t st0.env) (fun k=>lkO k st0.loc) st0.out->st0.lvl=s.lvl->YG (Sem P) (Rl.map (·.2)) st0 K->wpAny P .any ops Q fuel listed a w:=by
 obtain⟨hlen,hat⟩:=ZcH hc
 simp only[UX,Ua7,List.mem_range] at hd
 have hed:=hd
 have hlen':l.length=ops.size:=by rw[hlen];simp
 have edges:∀(i:Nat) (oper:Oper) (o:OP),ops[i]? = some oper->l[i]? = some o->(∀ e∈oper.after,Region.binds .any e=true->e.on<i) /\
   ∀ j p (listed:Array Bool),Cl ops.toList listed->(∀ e∈oper.after,Region.binds .any e=true->listed.getD e.on false=true)->j<i->l[j]? = some p->listed.getD j false=true\/Qd p o=true:=fun i oper o ho hl=>by
  have hi:i<ops.size:=(Uaw.1 ho).1
  have h1:=hed i hi
  rw[ho,hl] at h1
  simp only[Uad,Ua7,List.mem_range,Array.all_eq_true_iff_forall_mem,UaO,Uar,decide_eq_true_eq] at h1
  refine⟨fun e he hb=>(h1.1 e he).resolve_left (by simp [hb]),fun j p listed hcl he hj hp=>?_⟩
  have:=h1.2 j hj
  rw[hp] at this
  rcases this with h2 | h2
  ·refine .inl ?_
   have hg:=Zgn hcl ops.toList [] (by simp) (by simp) (fun i B oper hB=>by simp at hB)
   cases hq2:(ZaB ops.toList [])[i]? with
   | none=>simp [List.getD,hq2] at h2
   | some B=>exact hg i B oper hq2 (by simpa using ho) he j (by simpa [List.getD,hq2] using h2)
  ·exact .inr h2
 have left:∀(listed:Array Bool) (R:List (Nat×OP)),listed.size=ops.size->Todo l listed R->R≠[]->Region.ready .any ops listed≠[]:=fun listed R hs ht hne=>by
  cases R with
  | nil=>exact absurd rfl hne
  | cons x R =>
   obtain⟨i,o⟩:=x
   obtain⟨hl,hli⟩:=(ht.mem i o).1 (by simp)
   have hi:i<ops.size:=by rw[<-hlen'];exact(Uac.1 hl).1
   obtain⟨oper,ho⟩:∃ oper,ops[i]? = some oper:=⟨_,UaK hi⟩
   have:i∈Region.ready .any ops listed:=by
    rw[mem_ready]
    refine⟨by simp [Uay,hli],oper,ho,fun e he hb=>?_⟩
    have hlt:=(edges i oper o ho hl).1 e he hb
    have hes:e.on<listed.size:=by omega
    cases hq:listed[e.on]? with
    | none=>rw[Array.getElem?_eq_none_iff] at hq;omega
    | some b =>
     cases b with
     | true=>simp [Uay,hq]
     | false =>
      exfalso
      have hel:e.on<l.length:=by omega
      have:=(ht.mem e.on l[e.on]).2 ⟨Uaf hel,hq⟩
      rcases UaV.1 this with h | h
      ·have:=congrArg Prod.fst h;simp at this;omega
      ·have:=(Ua3.1 ht.sort).1 _ h
       have:i<e.on:=this
       omega
   intro h
   rw[h] at this
   cases this
 intro fuel
 induction fuel with
 | zero =>
  intro listed Rs Rl s st0 G a w hs hcl ht hR _ _ h hrun e1 hw
  have hR:Rs++Rl=[]:=Uau hR
  obtain⟨rfl,rfl⟩:=List.append_eq_nil_iff.1 hR
  refine⟨?_,hq st0 G a w hw (h.congr e1 hrun.2.2 hrun.1 hrun.2.1)⟩
  cases hrd:Region.ready .any ops listed with
  | nil=>rfl
  | cons i r =>
   exfalso
   have hi:i∈Region.ready .any ops listed:=by rw[hrd];simp
   obtain⟨h1,oper,ho,_⟩:=mem_ready.1 hi
   have hi':i<ops.size:=(Uaw.1 ho).1
   have hl:i<l.length:=by omega
   have hli:i<listed.size:=by omega
   have:=(ht.mem i l[i]).2 ⟨Uaf hl,by rw[UaK hli];simp [Uay,UaK hli] at h1;rw[h1]⟩
   cases this
 | succ fuel ih =>
  intro listed Rs Rl s st0 G a w hs hcl ht hR hsil hhd h hrun e1 hw
  have hne:Rs++Rl≠[]:=by intro h;rw[h] at hR;cases hR
  refine⟨fun h0=>absurd h0 (left listed _ hs ht hne),fun i hi=>?_⟩
  obtain⟨h1,oper,ho,hall⟩:=mem_ready.1 hi
  have hi':i<ops.size:=(Uaw.1 ho).1
  have hl:i<l.length:=by omega
  have hli:i<listed.size:=by omega
  have hlo:l[i]? = some l[i]:=Uaf hl
  have hmem:=(ht.mem i l[i]).2 ⟨hlo,by rw[UaK hli];simp [Uay,UaK hli] at h1;rw[h1]⟩
  generalize l[i]=o at hlo hmem
  have hready:∀ e∈oper.after,Region.binds .any e=true->listed.getD e.on false=true:=hall
  have hcl':Cl ops.toList (listed.setIfInBounds i true):=hcl.take fun oper' ho' => by
   have:ops[i]? = some oper':=by simpa using ho'
   rw[ho] at this;cases this
   exact hready
  have hbef:∀ j p,(j,p)∈Rs++Rl->j<i->Qd p o=true:=fun j p hj hlt=>by
   obtain⟨hjl,hjf⟩:=(ht.mem j p).1 hj
   rcases (edges i oper o ho hlo).2 j p listed hcl hready hlt hjl with h2 | h2
   ·simp [Uay,hjf] at h2
   ·exact h2
  rcases Uax.1 hmem with hm | hm
  ·obtain⟨R1,R2,rfl⟩:=List.append_of_mem hm
   have ht':Todo l listed (R1++(i,o)::(R2++Rl)):=by simpa using ht
   have hp:=UbC.1 ht'.sort
   have hind:∀ p∈R1.map (·.2),Qd p o=true:=fun p hp1=>by
    obtain⟨⟨j,p'⟩,hj,rfl⟩:=UaP.1 hp1
    exact hbef j p' (by simp [hj]) (hp.2.2 _ hj (i,o) (by simp))
   rw[UaS,UaB] at hrun
   obtain⟨ρ1,σ1,out1,g1,g3⟩:=Zmw (o:=o) (hsil (i,o) (by simp)) hind (fun x=>h.men_x x) (fun id h=>h) (fun id cells _ hc=>h.cells_live hc) h.lw hrun
   have hop:=Zmj (st:=s) g1
   have key:=Zcq (ops:=ops) (Q:=Q) (next:=wpAny P .any ops Q fuel (listed.setIfInBounds i true)) h (hat i o oper hlo (by simpa using ho)) hop (fun st' G' a' w' hk h' => by
    refine ih (listed.setIfInBounds i true) (R1++R2) Rl st' st0 G' a' w' (by simp [hs]) hcl' (by simpa using ht'.take) (by simp at hR ⊢;omega) (fun x hx=>hsil x (by
     rcases Uax.1 hx with h | h
     ·simp [h]
     ·simp [h])) hhd h' ?_ (e1.trans hk.lvl.symm) hw
    rw[UaS,hk.lvl,hk.out,hk.env,hk.loc]
    exact g3)
   unfold wpOp
   simp only[ho]
   by_cases hw2:Region.wanted oper (yielded ops a.tmps)=true
   ·rw[if_pos hw2] at key ⊢;exact .inl key
   ·rw[if_neg hw2] at key ⊢;exact key
  ·cases Rl with
   | nil=>cases hm
   | cons x r =>
    obtain⟨i0,o0⟩:=x
    have hl0:=hhd (i0,o0) r rfl
    have hp:=UbC.1 ht.sort
    have hio:i0=i/\o0=o:=by
     rcases UaV.1 hm with h2 | h2
     ·cases h2;exact⟨rfl,rfl⟩
     ·have hlt:=(Ua3.1 hp.2.1).1 _ h2
      have:=(Zgl (hbef i0 o0 (by simp) hlt)).1
      rw[show qt o0=false from hl0] at this;cases this
    obtain⟨rfl,rfl⟩:=hio
    have hRs:Rs=[]:=by
     cases Rs with
     | nil=>rfl
     | cons y q =>
      have hlt:=hp.2.2 y (by simp) (i0,o0) (by simp)
      have:=(Zgl (hbef y.1 y.2 (by simp) hlt)).2
      rw[show qt o0=false from hl0] at this;cases this
    subst hRs
    have h0:Sim F G st0 a w:=h.congr e1 hrun.2.2 hrun.1 hrun.2.1
    obtain⟨R1,R2,rfl,q1,q2⟩:=ZcJ r
    have hw':JV (Sem P) o0 st0 fun st' => YG (Sem P) ((R1++R2).map (·.2)) st' K:=hw
    have key:=Zcq (ops:=ops) (Q:=Q) (next:=wpAny P .any ops Q fuel (listed.setIfInBounds i0 true)) h0 (hat i0 o0 oper hlo (by simpa using ho)) hw' (fun st' G' a' w' hk h' => by
     rw[UaS,ZcI] at hk
     obtain⟨st1,k1,k2,k4⟩:=ZcE (R1.map (·.2)) st' (fun p hp=>by
      obtain⟨x,hx,rfl⟩:=UaP.1 hp
      exact q1 x hx) hk
     have ht':Todo l listed ([]++(i0,o0)::(R1++R2)):=ht
     exact ih (listed.setIfInBounds i0 true) R1 R2 st' st1 G' a' w' (by simp [hs]) hcl' (by simpa using ht'.take) (by simp at hR ⊢;omega) q1 q2 h' k4 k2 k1)
    unfold wpOp
    simp only[ho]
    by_cases hw2:Region.wanted oper (yielded ops a.tmps)=true
    ·rw[if_pos hw2] at key ⊢;exact .inl key
    ·rw[if_neg hw2] at key ⊢;exact key
theorem Frm.drew{F:Fr}{G:Gh}{S:Zc}{w w':World}(h:Frm F G S w)(e:Ext w w'):Frm F G S w':=h.ext e
theorem Zmy{ops:Array Oper}{l:List OP}{Q:Exit->Act->World->Prop}{K:St->Prop}{id:Nat}(hm:P.follows .mixedOrders=true)(hc:QU P F.nt ops l ops.toList=true)(hd:UX ops l=true)(h:Sim F G s a w)(he:YG (Sem P) l s K)
  (hq:∀ st' G' a' w',K st'->Sim F G' st' a' w'->Q .normal a' w'):(Code.region id ops true).wp P Q a w:=by
 obtain⟨hlen,hat⟩:=ZcH hc
 have hlen':l.length=ops.size:=by rw[hlen];simp
 have hw:Sim F G s a { w with drawn:=w.drawn+1 }:=h.ext ⟨Uag _,fun _ _=>rfl,rfl,rfl,rfl⟩
 have hmap:(l.zipIdx.map fun x=>(x.2,x.1)).map (·.2)=l:=by
  rw[UbG]
  have:=List.zipIdx_map_fst 0 l
  exact this
 obtain⟨R1,R2,hR,q1,q2⟩:=ZcJ (l.zipIdx.map fun x=>(x.2,x.1))
 have he':=he
 rw[<-hmap,hR,UaS,ZcI] at he'
 obtain⟨st1,k1,k2,k4⟩:=ZcE (R1.map (·.2)) s (fun p hp=>by
  obtain⟨x,hx,rfl⟩:=UaP.1 hp
  exact q1 x hx) he'
 have hTodo:Todo l (Array.replicate ops.size false) (R1++R2):=by
  rw[<-hR]
  refine⟨fun i o=>?_,?_⟩
  ·constructor
   ·intro hi
    obtain⟨⟨p,j⟩,hj,he⟩:=UaP.1 hi
    cases he
    have hg:=List.mem_zipIdx_iff_getElem?.1 hj
    refine⟨hg,?_⟩
    have:j<ops.size:=by rw[<-hlen'];exact(Uac.1 hg).1
    simp [this]
   ·rintro⟨hg,_⟩
    exact UaP.2 ⟨(o,i),List.mem_zipIdx_iff_getElem?.2 hg,rfl⟩
  ·rw[List.pairwise_map]
   have:∀(l:List OP) (n:Nat),(l.zipIdx n).Pairwise (fun a b=>a.2<b.2):=by
    intro l
    induction l with
    | nil=>intro n;exact List.Pairwise.nil
    | cons x r ih =>
     intro n
     rw[List.zipIdx_cons]
     refine Ua3.2 ⟨fun y hy=>?_,ih _⟩
     have:=List.le_snd_of_mem_zipIdx hy
     show n<y.2
     omega
   exact this l 0
 exact wp_region_any hm (Zmx hc hd hq ops.size _ R1 R2 s st1 G a _ (by simp) (fun i oper _ hl=>by simp [Uay,Array.getElem?_replicate] at hl;split at hl <;> cases hl) hTodo (by rw[<-hR];simp [hlen']) q1 q2 hw k4 k2 k1)
end
variable [Tabs]
def JQ(P:Program)(nt:Nat):C2->Code->Bool
 | .fg _ _ c,d=>JQ P nt c d
 | .no,_=>true
 | .sk,.skip=>true
 | .sk,.label _=>true
 | .rg _ l,.region _ ops dr=>QU P nt ops l ops.toList&&(!dr || (UX ops l&&P.follows .mixedOrders))
 | .sq a b,.seq c d=>JQ P nt a c&&JQ P nt b d
 | .cd x a b,.cond y c d=>Zt x y&&JQ P nt a c&&JQ P nt b d
 | .bl i c,.block j d=>i == j&&JQ P nt c d
 | .lp _ _ c,.loop d=>JQ P nt c d
 | .ex i,.exit j=>i == j
 | .rt,.ret=>true
 | _,_=>false
theorem Q7{P:Program}{nt:Nat}{c2:C2}{c:Code}(hno:c2 ≠ .no)(h:JQ P nt c2 c=true) :
  (∃ ks js c3,c2 = .fg ks js c3/\JQ P nt c3 c=true)\/(c2 = .sk/\c = .skip)\/(∃ l,c2 = .sk/\c = .label l) \/
  (∃ n l id ops dr,c2 = .rg n l/\c = .region id ops dr/\QU P nt ops l ops.toList=true/\(dr=true->UX ops l=true/\P.follows .mixedOrders=true)) \/
  (∃ a b x y,c2 = .sq a b/\c = .seq x y/\JQ P nt a x=true/\JQ P nt b y=true) \/
  (∃ u a b v x y,c2 = .cd u a b/\c = .cond v x y/\Zt u v=true/\JQ P nt a x=true/\JQ P nt b y=true) \/
  (∃ i a x,c2 = .bl i a/\c = .block i x/\JQ P nt a x=true)\/(∃ ks js a x,c2 = .lp ks js a/\c = .loop x/\JQ P nt a x=true) \/
  (∃ i,c2 = .ex i/\c = .exit i)\/(c2 = .rt/\c = .ret):=by
 cases c2 with
 | no=>exact absurd rfl hno
 | fg ks js c3=>exact .inl ⟨ks,js,c3,rfl,by simpa only[JQ] using h⟩
 | sk =>
  cases c <;> simp only[JQ] at h <;> try contradiction
  ·exact .inr (.inl ⟨rfl,rfl⟩)
  ·exact .inr (.inr (.inl ⟨_,rfl,rfl⟩))
 | rg n l =>
  cases c <;> simp only[JQ] at h <;> try contradiction
  rename_i id ops dr
  simp only[Uad,UaO,Uar] at h
  exact .inr (.inr (.inr (.inl ⟨n,l,id,ops,dr,rfl,rfl,h.1,fun hd=>h.2.resolve_left (by simp [hd])⟩)))
 | sq a b =>
  cases c <;> simp only[JQ] at h <;> try contradiction
  simp only[Uad] at h
  exact .inr (.inr (.inr (.inr (.inl ⟨a,b,_,_,rfl,rfl,h.1,h.2⟩))))
 | cd u a b =>
  cases c <;> simp only[JQ] at h <;> try contradiction
  simp only[Uad] at h
  exact .inr (.inr (.inr (.inr (.inr (.inl ⟨u,a,b,_,_,_,rfl,rfl,h.1.1,h.1.2,h.2⟩)))))
 | bl i a =>
  cases c <;> simp only[JQ] at h <;> try contradiction
  simp only[Uad,beq_iff_eq] at h
  obtain⟨rfl,h⟩:=h
  exact .inr (.inr (.inr (.inr (.inr (.inr (.inl ⟨i,a,_,rfl,rfl,h⟩))))))
 | lp ks js a =>
  cases c <;> simp only[JQ] at h <;> try contradiction
  exact .inr (.inr (.inr (.inr (.inr (.inr (.inr (.inl ⟨ks,js,a,_,rfl,rfl,h⟩)))))))
 | ex i =>
  cases c <;> simp only[JQ] at h <;> try contradiction
  simp only[beq_iff_eq] at h
  subst h
  exact .inr (.inr (.inr (.inr (.inr (.inr (.inr (.inr (.inl ⟨i,rfl,rfl⟩))))))))
 | rt =>
  cases c <;> simp only[JQ] at h <;> try contradiction
  exact .inr (.inr (.inr (.inr (.inr (.inr (.inr (.inr (.inr ⟨rfl,rfl⟩))))))))
section
variable {P:Program} {F:Fr}
theorem Zmz:∀(c2:C2) (c:Code) (Q2:Ex->St->Prop) (Q:Exit->Act->World->Prop) (st:St) (G:Gh) (a:Act) (w:World),JQ P F.nt c2 c=true->wp (Sem P) c2 st Q2->Sim F G st a w ->
  (∀ ex st' G' a' w',Q2 ex st'->Sim F G' st' a' w'->Q (ZlR ex) a' w')->c.wp P Q a w:=by
 intro c2
 induction c2 with
 | no =>
  intro c Q2 Q st G a w hc he h hq
  exact False.elim he
 | sk =>
  intro c Q2 Q st G a w hc he h hq
  rcases Q7 (fun e=>by cases e) hc with ⟨_,_,_,g,_⟩ | ⟨_,rfl⟩ | ⟨l,_,rfl⟩ | ⟨_,_,_,_,_,g,_⟩ | ⟨_,_,_,_,g,_⟩ | ⟨_,_,_,_,_,_,g,_⟩ | ⟨_,_,_,g,_⟩ | ⟨_,_,_,_,g,_⟩ | ⟨_,g,_⟩ | ⟨g,_⟩ <;> try (cases g)
  ·exact wp_skip (hq .nrm st G a w he h)
  ·exact wp_label (hq .nrm st G a w he h)
 | rg n l =>
  intro c Q2 Q st G a w hc he h hq
  rcases Q7 (fun e=>by cases e) hc with ⟨_,_,_,g,_⟩ | ⟨g,_⟩ | ⟨_,g,_⟩ | ⟨_,_,id,ops,dr,g,rfl,h1,h2⟩ | ⟨_,_,_,_,g,_⟩ | ⟨_,_,_,_,_,_,g,_⟩ | ⟨_,_,_,g,_⟩ | ⟨_,_,_,_,g,_⟩ | ⟨_,g,_⟩ | ⟨g,_⟩ <;> try (cases g)
  cases dr with
  | false =>
   refine wp_region ?_
   have:=ZfN (Q:=Q) l ops.toList 0 st G a w h h1 rfl he (fun st' G' a' w' hk hs=>hq .nrm st' G' a' w' hk hs)
   rw[List.range_eq_range']
   simpa using this
  | true=>exact Zmy (h2 rfl).2 h1 (h2 rfl).1 h he (fun st' G' a' w' hk hs=>hq .nrm st' G' a' w' hk hs)
 | sq a2 b2 iha ihb =>
  intro c Q2 Q st G a w hc he h hq
  rcases Q7 (fun e=>by cases e) hc with ⟨_,_,_,g,_⟩ | ⟨g,_⟩ | ⟨_,g,_⟩ | ⟨_,_,_,_,_,g,_⟩ | ⟨_,_,x,y,g,rfl,h1,h2⟩ | ⟨_,_,_,_,_,_,g,_⟩ | ⟨_,_,_,g,_⟩ | ⟨_,_,_,_,g,_⟩ | ⟨_,g,_⟩ | ⟨g,_⟩ <;> try (cases g)
  refine wp_seq (iha x _ _ st G a w h1 he h (fun ex st' G' a' w' hk hs=>?_))
  cases ex with
  | nrm=>exact ihb y Q2 Q st' G' a' w' h2 hk hs hq
  | ext i=>exact hq _ st' G' a' w' hk hs
  | ret=>exact hq _ st' G' a' w' hk hs
 | cd u a2 b2 iha ihb =>
  intro c Q2 Q st G a w hc he h hq
  rcases Q7 (fun e=>by cases e) hc with ⟨_,_,_,g,_⟩ | ⟨g,_⟩ | ⟨_,g,_⟩ | ⟨_,_,_,_,_,g,_⟩ | ⟨_,_,_,_,g,_⟩ | ⟨_,_,_,v,x,y,g,rfl,h0,h1,h2⟩ | ⟨_,_,_,g,_⟩ | ⟨_,_,_,_,g,_⟩ | ⟨_,g,_⟩ | ⟨g,_⟩ <;> try (cases g)
  simp only[wp] at he
  split at he <;> try contradiction
  rename_i t hu
  have hv:=h.x h0
  rw[hu] at hv
  have hv:=hv.val.1
  exact wp_cond_split hv (fun ht=>iha x Q2 Q st G a w h1 (he.1 ht) h hq) (fun ht=>ihb y Q2 Q st G a w h2 (he.2 ht) h hq)
 | bl i a2 iha =>
  intro c Q2 Q st G a w hc he h hq
  rcases Q7 (fun e=>by cases e) hc with ⟨_,_,_,g,_⟩ | ⟨g,_⟩ | ⟨_,g,_⟩ | ⟨_,_,_,_,_,g,_⟩ | ⟨_,_,_,_,g,_⟩ | ⟨_,_,_,_,_,_,g,_⟩ | ⟨_,_,x,g,rfl,h1⟩ | ⟨_,_,_,_,g,_⟩ | ⟨_,g,_⟩ | ⟨g,_⟩ <;> try (cases g)
  refine wp_block (iha x _ _ st G a w h1 he h (fun ex st' G' a' w' hk hs=>?_))
  cases ex with
  | nrm=>exact hq _ st' G' a' w' hk hs
  | ext j =>
   dsimp only at hk
   show Exit.inBlock i Q (.exit j) a' w'
   simp only[Exit.inBlock]
   by_cases hj:j=i
   ·rw[if_pos hj] at hk ⊢;exact hq _ st' G' a' w' hk hs
   ·rw[if_neg hj] at hk ⊢;exact hq _ st' G' a' w' hk hs
  | ret=>exact hq _ st' G' a' w' hk hs
 | lp ks js a2 iha =>
  intro c Q2 Q st G a w hc he h hq
  rcases Q7 (fun e=>by cases e) hc with ⟨_,_,_,g,_⟩ | ⟨g,_⟩ | ⟨_,g,_⟩ | ⟨_,_,_,_,_,g,_⟩ | ⟨_,_,_,_,g,_⟩ | ⟨_,_,_,_,_,_,g,_⟩ | ⟨_,_,_,g,_⟩ | ⟨_,_,_,x,g,rfl,h1⟩ | ⟨_,g,_⟩ | ⟨g,_⟩ <;> try (cases g)
  obtain⟨I,⟨hcl,n0,hn0⟩,hround⟩:=he
  refine wp_loop_ghost (fun n a w=>∃ s G,I n s/\Sim F G s a w) n0 ⟨_,G,hn0,h.fgt hcl⟩ (fun n a w ⟨s,G,hI,hs⟩=>?_)
  refine iha x _ _ s G a w h1 (hround n s hI) hs (fun ex st' G' a' w' hk hs' => ?_)
  cases ex with
  | nrm =>
   obtain⟨hc',m,hm,hI'⟩:=hk
   exact⟨m,hm,_,G',hI',hs'.fgt hc'⟩
  | ext j=>exact hq _ st' G' a' w' hk hs'
  | ret=>exact hq _ st' G' a' w' hk hs'
 | fg ks js a2 iha =>
  intro c Q2 Q st G a w hc he h hq
  rcases Q7 (fun e=>by cases e) hc with ⟨_,_,_,g,h1⟩ | ⟨g,_⟩ | ⟨_,g,_⟩ | ⟨_,_,_,_,_,g,_⟩ | ⟨_,_,_,_,g,_⟩ | ⟨_,_,_,_,_,_,g,_⟩ | ⟨_,_,_,g,_⟩ | ⟨_,_,_,_,g,_⟩ | ⟨_,g,_⟩ | ⟨g,_⟩ <;> try (cases g)
  exact iha c Q2 Q _ G a w h1 he.2 (h.fgt he.1) hq
 | ex i =>
  intro c Q2 Q st G a w hc he h hq
  rcases Q7 (fun e=>by cases e) hc with ⟨_,_,_,g,_⟩ | ⟨g,_⟩ | ⟨_,g,_⟩ | ⟨_,_,_,_,_,g,_⟩ | ⟨_,_,_,_,g,_⟩ | ⟨_,_,_,_,_,_,g,_⟩ | ⟨_,_,_,g,_⟩ | ⟨_,_,_,_,g,_⟩ | ⟨_,g,rfl⟩ | ⟨g,_⟩ <;> try (cases g)
  exact wp_exit (hq (.ext i) st G a w he h)
 | rt =>
  intro c Q2 Q st G a w hc he h hq
  rcases Q7 (fun e=>by cases e) hc with ⟨_,_,_,g,_⟩ | ⟨g,_⟩ | ⟨_,g,_⟩ | ⟨_,_,_,_,_,g,_⟩ | ⟨_,_,_,_,g,_⟩ | ⟨_,_,_,_,_,_,g,_⟩ | ⟨_,_,_,g,_⟩ | ⟨_,_,_,_,g,_⟩ | ⟨_,g,_⟩ | ⟨_,rfl⟩ <;> try (cases g)
  exact wp_ret (hq .ret st G a w he h)
end
variable [Tabs]
def OEm(st0:St):Option Zd->Ob->Prop
 | some id,ob=>∃ k es u hw ver,st0.sto id=some (.ar k es u hw ver)/\ob = .ar k es u es.length 0
 | none,ob=>∃ k,ob = .ar k [] true 0 0
def OE(st0:St):List (Option Zd)->List Ob->Prop
 | [],obs=>obs=[]
 | e::r,obs=>∃ ob s,obs=ob::s/\OEm st0 e ob/\OE st0 r s
theorem ZcK{st0:St}:∀{E:List (Option Zd)} {obs:List Ob},OE st0 E obs->obs.length=E.length
 | [],_,h=>by rw[show _=[] from h];rfl
 | e::r,_,⟨ob,s,h1,_,h3⟩=>by rw[h1];simp [ZcK h3]
theorem Zgo{st0:St}:∀{E E2:List (Option Zd)} {obs obs2:List Ob},OE st0 E obs->OE st0 E2 obs2->OE st0 (E++E2) (obs++obs2)
 | [],_,_,_,h,h2=>by rw[show _=[] from h];exact h2
 | e::r,_,_,_,⟨ob,s,h1,h2,h3⟩,h4=>by rw[h1];exact⟨ob,_,rfl,h2,Zgo h3 h4⟩
theorem ZaC{st0:St}:∀{E:List (Option Zd)} {obs:List Ob},OE st0 E obs->∀(j:Nat) (e:Option Zd),E[j]? = some e->∃ ob,obs[j]? = some ob/\OEm st0 e ob
 | [],_,_,j,e,h=>by simp at h
 | e0::r,_,⟨ob,s,h1,h2,h3⟩,j,e,h=>by
  subst h1
  cases j with
  | zero=>simp at h;subst h;exact⟨ob,rfl,h2⟩
  | succ j=>exact ZaC h3 j e (by simpa using h)
structure XS (st0 st:St) (T:Zd->Prop) (E:List (Option Zd)):Prop where
 kl:Kl (fun i=>T i\/some i∈E) st0 st
 nd:∀(a b:Nat) (id:Zd),E[a]? = some (some id)->E[b]? = some (some id)->a=b
 dj:∀ id,some id∈E -> ¬ T id
structure FinS (G:Gh) (st0:St) (w:World) (T:Zd->Prop) (E:List (Option Zd)) (G':Gh) (S':Zc):Prop where
 old:∀ i ob,i.1≠st0.lvl->st0.sto i=some ob->S' i=some ob/\G' i=G i
 av:∀ b,b<w.heap.size->(∀ id ob,st0.sto id=some ob->ZK G id ob b->T id)->Av G' S' w b
 ex:∀(j:Nat) (id:Zd),E[j]? = some (some id)->G' (st0.lvl,j)=G id/\∃ k es u hw ver,st0.sto id=some (.ar k es u hw ver)/\S' (st0.lvl,j)=some (.ar k es u es.length 0)
 nil:∀ j:Nat,E[j]? = some none->G' (st0.lvl,j)=(fun _=>none)/\∃ k,S' (st0.lvl,j)=some (.ar k [] true 0 0)
def ZmA(G:Gh)(st0:St)(w:World)(T:Zd->Prop)(E:List (Option Zd))(j0:Nat)(y:IV)(v:Value):Prop :=
 ∀(T2:Zd->Prop) (E2:List (Option Zd)) (G':Gh) (S':Zc),(∀ i,T i->T2 i)->(∀(j:Nat) (e:Option Zd),E[j]? = some e->E2[j]? = some e)->FinS G st0 w T2 E2 G' S'->VR G' S' w (impv true st0.lvl 0 j0 y).1 v
def ZmB(G:Gh)(st0:St)(w:World)(T:Zd->Prop)(E:List (Option Zd))(j0:Nat)(y:List IV)(v:List Value):Prop :=
 ∀(T2:Zd->Prop) (E2:List (Option Zd)) (G':Gh) (S':Zc),(∀ i,T i->T2 i)->(∀(j:Nat) (e:Option Zd),E[j]? = some e->E2[j]? = some e)->FinS G st0 w T2 E2 G' S'->Zn G' S' w (impvs true st0.lvl 0 j0 y).1 v
section
variable {P:Program} {F:Fr} {G:Gh} {st0 st:St} {a:Act} {w:World} {T:Zd->Prop} {E:List (Option Zd)}
theorem XS.nil(st0:St):XS st0 st0 (fun _=>False) [] :=
 ⟨by
  have:=Kl.refl st0
  rw[show (fun i=>(fun _=>False) i\/some i∈([]:List (Option Zd)))=fun _=>False from by funext i;simp]
  exact this,fun a b id h=>by simp at h,fun id h=>by cases h⟩
theorem XS.alive(x:XS st0 st T E){id:Zd}{ob:Ob}(h:st.sto id=some ob):¬ T id/\some id ∉ E/\∃ ob0,st0.sto id=some ob0/\Wk (fun i=>T i\/some i∈E) ob0 ob:=by
 obtain⟨h1,h2⟩:=x.kl.only id ob h
 exact⟨fun h=>h1 (.inl h),fun h=>h1 (.inr h),h2⟩
theorem XS.melt(h0:Sim F G st0 a w)(x:XS st0 st T E){id:Zd}{ob:Ob}(hid:id.1=st0.lvl)(hs:st.sto id=some ob):XS st0 (Zp id st) (fun i=>T i\/i=id) E:=by
 obtain⟨a1,a2,ob0,a3,_⟩:=x.alive hs
 have k:=x.kl.step (id:=id) (fun i cells h=>h0.ok.low i cells h) h0.outl hid (by rw[a3];rfl)
 refine⟨?_,x.nd,fun i hi=>?_⟩
 ·rw[show (fun i=>(T i\/i=id)\/some i∈E)=fun i=>(T i\/some i∈E)\/i=id from by funext i;exact propext ⟨fun h=>by rcases h with (h | h) | h <;> simp [h],fun h=>by rcases h with (h | h) | h <;> simp [h]⟩]
  exact k
 ·rintro(h | h)
  ·exact x.dj i hi h
  ·subst h;exact a2 hi
theorem XS.hand(h0:Sim F G st0 a w)(x:XS st0 st T E){id:Zd}{ob:Ob}(hid:id.1=st0.lvl)(hs:st.sto id=some ob):XS st0 (Zp id st) T (E++[some id]):=by
 obtain⟨a1,a2,ob0,a3,_⟩:=x.alive hs
 have k:=x.kl.step (id:=id) (fun i cells h=>h0.ok.low i cells h) h0.outl hid (by rw[a3];rfl)
 have hmem:∀(a:Nat) (i:Zd),(E++[some id])[a]? = some (some i)->E[a]? = some (some i)\/(i=id/\a=E.length):=fun a i h=>by
  rw[UbD] at h
  split at h
  ·exact .inl h
  ·rename_i hl
   have:a-E.length=0:=by
    rcases Nat.eq_zero_or_pos (a-E.length) with h' | h'
    ·exact h'
    ·rw[Ua1 (by simp;omega)] at h;cases h
   rw[this] at h
   simp at h
   exact .inr ⟨h.symm,by omega⟩
 refine⟨?_,fun a b i ha hb=>?_,fun i hi=>?_⟩
 ·rw[show (fun i=>T i\/some i∈E++[some id])=fun i=>(T i\/some i∈E)\/i=id from by funext i;simp [or_assoc]]
  exact k
 ·rcases hmem a i ha with h1 | ⟨rfl,h1⟩ <;> rcases hmem b i hb with h2 | ⟨h3,h2⟩
  ·exact x.nd a b i h1 h2
  ·subst h3;exact absurd (Uae h1) a2
  ·exact absurd (Uae h2) a2
  ·omega
 ·rcases Uax.1 hi with h | h
  ·exact x.dj i h
  ·simp at h;subst h;exact a1
theorem XS.hnil(x:XS st0 st T E):XS st0 st T (E++[none]):=by
 refine⟨?_,fun a b i ha hb=>?_,fun i hi=>x.dj i (by simpa using hi)⟩
 ·rw[show (fun i=>T i\/some i∈E++[none])=fun i=>T i\/some i∈E from by funext i;simp]
  exact x.kl
 ·have key:∀ c:Nat,(E++[none])[c]? = some (some i)->E[c]? = some (some i):=fun c h=>by
   rw[UbD] at h
   split at h
   ·exact h
   ·have:=Uae h
    simp at this
  exact x.nd a b i (key a ha) (key b hb)
theorem FinS.mono{G':Gh}{S':Zc}(f:FinS G st0 w T E G' S')(b:Nat)(h:Av G st0.sto w b):Av G' S' w b :=
 f.av b h.1 fun id ob hs ho=>absurd ho (h.2 id ob hs)
theorem FinS.ids{G':Gh}{S':Zc}(f:FinS G st0 w T E G' S')(i:Zd)(ob:Ob)(hi:i.1≠st0.lvl)(hs:st0.sto i=some ob):∃ ob',S' i=some ob'/\idR G G' i ob ob':=by
 obtain⟨h1,h2⟩:=f.old i ob hi hs
 exact⟨ob,h1,Vt h2 ob⟩
theorem FinS.vr{G':Gh}{S':Zc}(f:FinS G st0 w T E G' S')(x:IV)(v:Value)(hm:men (fun i=>i.1≠st0.lvl) x)(h:VR G st0.sto w x v):VR G' S' w x v :=
 QR (P:=fun i=>i.1≠st0.lvl) f.mono (fun _ _=>rfl) f.ids x v hm h
theorem FinS.vrs{G':Gh}{S':Zc}(f:FinS G st0 w T E G' S')(x:List IV)(v:List Value)(hm:Za (fun i=>i.1≠st0.lvl) x)(h:Zn G st0.sto w x v):Zn G' S' w x v :=
 V3 (P:=fun i=>i.1≠st0.lvl) f.mono (fun _ _=>rfl) f.ids x v hm h
def CellOk(F:Fr)(G:Gh)(st0:St)(w:World)(T:Zd->Prop)(E:List (Option Zd))(v:Value)(K:IV->St->Prop):Prop :=
 ∃ y st' T' e obs,K y st'/\XS st0 st' T' (E++e)/\(∀ i,T i->T' i)/\low F.lvl y/\OE st0 e obs/\(impv true st0.lvl 0 E.length y).2=obs/\ZmA G st0 w T' (E++e) E.length y v
theorem CellOk.plain{v:Value}{K:IV->St->Prop}(hl:F.lvl=st0.lvl)(x:XS st0 st T E){y:IV}(hk:K y st)(h1:(impv true st0.lvl 0 E.length y)=(y,[]))(hm:low st0.lvl y)(hv:VR G st0.sto w y v):CellOk F G st0 w T E v K:=by
 refine⟨y,st,T,[],[],hk,by simpa using x,fun _ h=>h,by rw[hl];exact hm,rfl,by rw[h1],fun T2 E2 G' S' _ _ f=>?_⟩
 rw[h1]
 exact f.vr y v (JL (fun i hi=>by have hi:i.1<st0.lvl:=hi;exact Nat.ne_of_lt hi) y hm) hv
theorem Zgp(h0:Sim F G st0 a w)(xs:XS st0 st T E){k:Nat}{x:IV}{v:Value}{K:IV->St->Prop}(hv:VR G st0.sto w x v)(he:J8 k x st K):CellOk F G st0 w T E v K:=by
 have hll:st.lvl=st0.lvl:=xs.kl.lvl
 have hout:∀ id,(st0.sto id).isSome=true->id.1≠st0.lvl->id.1<st0.lvl:=fun id hs hn=>by
  obtain⟨ob,hob⟩:=Uai.1 hs
  rw[Yt hn] at hob
  exact h0.outl id ob hob
 have plain:=fun(y:IV) (hk:K y st) (h1:(impv true st0.lvl 0 E.length y)=(y,[])) (hm:low st0.lvl y) (hv:VR G st0.sto w y v)=>CellOk.plain (F:=F) h0.lvl.symm xs hk h1 hm hv
 unfold J8 at he
 split at he
 ·rename_i id p off len cap s
  split at he
  ·rename_i hid
   rw[hll] at hid
   split at he <;> try contradiction
   rename_i k' es u hw ver hs
   obtain⟨rfl,rfl,he⟩:=he
   obtain⟨_,_,ob0,hs0,hwk⟩:=xs.alive hs
   cases hwk
   split at he
   ·obtain⟨hl,hk⟩:=he
    refine⟨_,_,(fun i=>T i\/i=id),[],[],hk,by simpa using xs.melt h0 hid hs,fun i h=>.inl h,trivial,rfl,rfl,fun T2 E2 G' S' hT hE f=>?_⟩
    have hr:=Xn (A:=Av G' S' w) h0.ok (fun _ b hb=>f.mono b hb) hs0 (fun b ho=>f.av b (J9 (h0.ok.obs _ _ hs0) ho) fun id' ob' hs' ho' => by
     have:=h0.ok.dis _ _ _ _ b hs' hs0 ho' ho
     exact hT _ (.inr this)) hv rfl rfl hl
    exact hr.1
   ·obtain⟨rfl,rfl,rfl,rfl,hk⟩:=he
    refine⟨_,_,T,[some id],_,hk,xs.hand h0 hid hs,fun i h=>h,trivial,⟨_,[],rfl,⟨_,_,_,_,_,hs0,rfl⟩,rfl⟩,rfl,fun T2 E2 G' S' hT hE f=>?_⟩
    obtain⟨hG,k2,es2,u2,hw2,ver2,hs2,hS⟩:=f.ex E.length id (hE _ _ (by simp))
    rw[hs0] at hs2;cases hs2
    obtain⟨h1,k3,es3,u3,hw3,ver3,hs3,_,h3⟩:=hv
    rw[hs0] at hs3;cases hs3
    simp only[impv,impc,if_true,Uap]
    refine⟨h1,_,_,_,_,_,hS,Uag _,fun _=>?_⟩
    rw[hG]
    exact h3 rfl
  ·rename_i hid
   rw[hll] at hid
   have hsome:(st0.sto id).isSome=true:=by
    obtain⟨_,k3,es3,u3,hw3,ver3,hs3,_⟩:=hv
    rw[hs3];rfl
   exact plain _ he rfl (hout id hsome hid) hv
 ·rename_i es
  split at he
  ·rename_i k1
   refine⟨_,_,T,[none],_,he,xs.hnil,fun i h=>h,trivial,⟨_,[],rfl,⟨_,rfl⟩,rfl⟩,rfl,fun T2 E2 G' S' hT hE f=>?_⟩
   obtain⟨hG,k2,hS⟩:=f.nil E.length (hE _ _ (by simp))
   obtain⟨⟨ad,rfl⟩,_⟩:=hv
   simp only[impv,impc,if_true,Uap,List.length_nil]
   refine⟨⟨ad,0,rfl,Uag _⟩,_,_,_,_,_,hS,Uag _,fun _=>?_⟩
   refine⟨[],k2,ad,0,rfl,fun _=>rfl,fun e he=>(by simp at he),rfl,Uag _,fun m hm=>(by cases hm),fun _ _=>?_,.inl rfl⟩
   rw[hG];rfl
  ·exact plain _ he rfl trivial hv.2
 ·rename_i id o
  obtain⟨h1,h2⟩:=he
  rw[hll] at h1
  have hsome:(st0.sto id).isSome=true:=by
   obtain⟨cells,b,c,hs,_⟩:=hv
   rw[hs];rfl
  exact plain _ h2 rfl (hout id hsome h1) hv
 ·exact he.elim
 ·exact he.elim
 ·exact he.elim
 ·exact he.elim
 ·exact he.elim
 ·exact he.elim
 ·rename_i f c
  obtain⟨h1,h2⟩:=he
  rw[hll] at h1
  exact plain _ h2 rfl h1 hv
 ·cases x with
  | un=>exact plain _ he rfl trivial hv
  | tr t=>exact plain _ he rfl trivial hv
  | er=>exact plain _ he rfl trivial hv
  | hd id p off len cap s=>exact(‹∀(id:Zd) (p:Zf) (off len:Nat) (cap:Option Nat) (s:Nat),IV.hd _ _ _ _ _ _=IV.hd id p off len cap s->False› id p off len cap s rfl).elim
  | cs es=>exact(‹∀(es:Row),IV.cs _=IV.cs es->False› es rfl).elim
  | sv id=>exact(‹∀(id:Zd),IV.sv _=IV.sv id->False› id rfl).elim
  | ab id o=>exact(‹∀(id:Zd) (o:Nat),IV.ab _ _=IV.ab id o->False› id o rfl).elim
  | ae id p i f s=>exact(‹∀(id:Zd) (p:Zf) (i f s:Nat),IV.ae _ _ _ _ _=IV.ae id p i f s->False› id p i f s rfl).elim
  | ta c=>exact(‹∀(c:List Tr),IV.ta _=IV.ta c->False› c rfl).elim
  | ag l=>exact(‹∀(l:List IV),IV.ag _=IV.ag l->False› l rfl).elim
  | tu l=>exact(‹∀(l:List IV),IV.tu _=IV.tu l->False› l rfl).elim
  | ow k es u=>exact(‹∀(k:Nat) (es:Row) (u:Bool),IV.ow _ _ _=IV.ow k es u->False› k es u rfl).elim
  | fn f c=>exact(‹∀(f:FuncId) (c:List IV),IV.fn _ _=IV.fn f c->False› f c rfl).elim
end
variable [Tabs]
def CellsOk(F:Fr)(G:Gh)(st0:St)(w:World)(T:Zd->Prop)(E:List (Option Zd))(vs:List Value)(K:List IV->St->Prop):Prop :=
 ∃ ys st' T' e obs,K ys st'/\XS st0 st' T' (E++e)/\(∀ i,T i->T' i)/\Je F.lvl ys/\OE st0 e obs/\(impvs true st0.lvl 0 E.length ys).2=obs/\ZmB G st0 w T' (E++e) E.length ys vs
section
variable {P:Program} {F:Fr} {G:Gh} {st0 st:St} {a:Act} {w:World} {T:Zd->Prop} {E:List (Option Zd)}
theorem CellsOk.nil{K:List IV->St->Prop}(x:XS st0 st T E)(hk:K [] st):CellsOk F G st0 w T E [] K :=
 ⟨[],st,T,[],[],hk,by simpa using x,fun _ h=>h,trivial,rfl,rfl,fun _ _ _ _ _ _ _=>rfl⟩
theorem CellsOk.cons{v:Value}{vs:List Value}{K:IV->St->Prop}{K2:List IV->St->Prop}(h:CellOk F G st0 w T E v K)(hr:∀ y st' T' E',K y st'->XS st0 st' T' E'->CellsOk F G st0 w T' E' vs (fun ys st'' => K2 (y::ys) st'')) :
  CellsOk F G st0 w T E (v::vs) K2:=by
 obtain⟨y,st1,T1,e1,obs1,hk,hx,ht,hlow,hoe,himp,hg⟩:=h
 obtain⟨ys,st2,T2,e2,obs2,hk2,hx2,ht2,hlow2,hoe2,himp2,hg2⟩:=hr y st1 T1 (E++e1) hk hx
 have hlen:(E++e1).length=E.length+(impv true st0.lvl 0 E.length y).2.length:=by rw[himp,ZcK hoe];simp
 rw[hlen] at himp2 hg2
 refine⟨y::ys,st2,T2,e1++e2,obs1++obs2,hk2,by rw[<-UaR];exact hx2,fun i h=>ht2 i (ht i h),⟨hlow,hlow2⟩,Zgo hoe hoe2,?_,fun T3 E3 G' S' hT hE f=>?_⟩
 ·simp only[impvs]
  rw[himp2,himp]
 ·simp only[impvs]
  rw[<-UaR] at hE
  refine⟨v,vs,rfl,hg T3 E3 G' S' (fun i h=>hT i (ht2 i h)) (fun j e he=>hE j e ?_) f,hg2 T3 E3 G' S' hT hE f⟩
  have:=(Uac.1 he).1
  rw[Uaq this];exact he
theorem Zgq(h0:Sim F G st0 a w):∀(l:List IV) (ks:List Nat) (vs:List Value) (st:St) (T:Zd->Prop) (E:List (Option Zd)) (K:List IV->St->Prop),XS st0 st T E->Zn G st0.sto w l vs->Qs ks l st K->CellsOk F G st0 w T E vs K
 | [],ks,vs,st,T,E,K,hx,hv,he=>by
  rw[show vs=[] from hv]
  simp only[Qs] at he
  exact .nil hx he
 | x::r,ks,vs,st,T,E,K,hx,hv,he=>by
  obtain⟨v,vr,rfl,h1,h2⟩:=hv
  simp only[Qs] at he
  exact .cons (Zgp h0 hx h1 he) fun y st' T' E' hk hx' => Zgq h0 r ks.tail vr st' T' E' _ hx' h2 hk
theorem ZcL(h0:Sim F G st0 a w)(xs:XS st0 st T E){ks:List Nat}{x:IV}{v:Value}{K:IV->St->Prop}(hv:VR G st0.sto w x v)(he:Yz ks x st K):CellOk F G st0 w T E v K:=by
 unfold Yz at he
 split at he
 ·rename_i l
  obtain⟨vs,rfl,hv⟩:=hv
  obtain⟨ys,st2,T2,e2,obs2,hk2,hx2,ht2,hlow2,hoe2,himp2,hg2⟩:=Zgq h0 l ks vs st T E _ xs hv he
  refine⟨.ag ys,st2,T2,e2,obs2,hk2,hx2,ht2,by simpa only[men] using hlow2,hoe2,by simpa only[impv] using himp2,fun T3 E3 G' S' hT hE f=>?_⟩
  simp only[impv]
  exact⟨vs,rfl,hg2 T3 E3 G' S' hT hE f⟩
 ·exact Zgp h0 xs hv he
def UY(a:Act):ResultVar->_root_.Go.Sem Value
 | .tmp t=>pure (a.tmps.getD t undef)
 | .cell b t=>do loadVar t (<- asAddr (a.tmps.getD b undef))
theorem ZmC(h0:Sim F G st0 a w)(xs:XS st0 st T E){r:RS}{rv:ResultVar}{K:IV->St->Prop}(hc:Yr P [r] [rv]=true)(he:QP r st K):∃ v,(UY a rv).run P w = .ok v w/\CellOk F G st0 w T E v K:=by
 have henv:∀ n,VR G st0.sto w (lk n st.env) (a.tmps.getD n undef):=fun n=>xs.kl.vr n G st0.sto w _ (h0.env n)
 cases r with
 | k n =>
  cases rv with
  | cell=>simp only[Yr] at hc;cases hc
  | tmp m =>
   simp only[Yr,Uad,beq_iff_eq] at hc
   obtain⟨rfl,_⟩:=hc
   simp only[QP] at he
   split at he <;> try contradiction
   rename_i es hl
   have hv:=henv n
   rw[hl] at hv
   exact⟨_,rfl,CellOk.plain (F:=F) h0.lvl.symm xs he rfl trivial hv⟩
 | t n ks =>
  cases rv with
  | cell=>simp only[Yr] at hc;cases hc
  | tmp m =>
   simp only[Yr,Uad,beq_iff_eq] at hc
   obtain⟨rfl,_⟩:=hc
   exact⟨_,rfl,ZcL h0 xs (henv n) he⟩
 | c n m ks =>
  cases rv with
  | tmp=>simp only[Yr] at hc;cases hc
  | cell b t =>
   simp only[Yr,Uad,beq_iff_eq] at hc
   obtain⟨⟨rfl,hsh⟩,_⟩:=hc
   simp only[QP] at he
   split at he <;> try contradiction
   rename_i id off hl
   have hv:=henv n
   rw[hl] at hv
   split at he <;> try contradiction
   rename_i cells hs
   obtain⟨_,_,ob0,hs0,hwk⟩:=xs.alive hs
   cases hwk with
   | bx cells0 _ _ hwv _ =>
    obtain⟨cells1,b1,c1,hs1,hg1,hv⟩:=hv
    obtain⟨b,c,vs,ty,hg,hh,hvs⟩:=h0.ok.obs id _ hs0
    rw[hg] at hg1;cases hg1
    have hvs:=hwv _ _ _ _ hvs
    have hcell:∀ j u,vs.toList[j]? = some u->w.cell? ⟨b1,j,none⟩=some u:=fun j u hu=>by
     rw[cell_of_row w b1 j vs ty (0,0) hh]
     simpa using hu
    have hrun:∀ u,(loadVar t ⟨b1,off,none⟩).run P w = .ok u w->(UY a (.cell n t)).run P w = .ok u w:=fun u hu=>by
     simp only[UY,hv,asAddr,Sem.run_bind,Sem.run_pure,Result.andThen_ok,hu]
    cases m with
    | none =>
     obtain⟨x,hx,_,he⟩:=he
     obtain⟨u,hu,hxu⟩:=YB hvs off x hx
     simp only[YS,beq_iff_eq] at hsh
     exact⟨u,hrun u (ZeQ hsh (hcell off u hu)),ZcL h0 xs hxu he⟩
    | some m =>
     obtain⟨hle,he⟩:=he
     simp only[YS,Uad,beq_iff_eq] at hsh
     have hlen:=Yq hvs
     have hl2:((vs.toList.drop off).take m).length=m:=by rw[Uas,Ubq,hlen];omega
     refine⟨.agg ((vs.toList.drop off).take m).toArray,hrun _ (ZbR hsh.1 (by rw[hl2];exact hsh.2) (fun j u hu=>?_)),ZcL (x:=.ag ((cells.drop off).take m)) h0 xs ⟨_,rfl,Uy (Ux hvs off) m⟩ he⟩
     rw[Yk]
     refine hcell _ _ ?_
     rw[Uat] at hu
     split at hu
     ·simpa using hu
     ·cases hu
theorem ZcM(h0:Sim F G st0 a w):∀(rs:List RS) (rvs:List ResultVar) (st:St) (T:Zd->Prop) (E:List (Option Zd)) (K:List IV->St->Prop),XS st0 st T E->Yr P rs rvs=true->QQ rs st K ->
  ∃ vs,(rvs.mapM (UY a)).run P w = .ok vs w/\CellsOk F G st0 w T E vs K
 | [],rvs,st,T,E,K,hx,hc,he=>by
  cases rvs with
  | nil=>exact⟨[],rfl,.nil hx he⟩
  | cons=>simp only[Yr] at hc;cases hc
 | r::rs,rvs,st,T,E,K,hx,hc,he=>by
  cases rvs with
  | nil=>simp only[Yr] at hc;cases hc
  | cons rv rvs =>
   have hc1:Yr P [r] [rv]=true/\Yr P rs rvs=true:=by
    cases r <;> cases rv <;> simp_all [Yr]
   simp only[QQ] at he
   obtain⟨v,hv,hk⟩:=ZmC h0 hx hc1.1 he
   obtain⟨y,st1,T1,e1,obs1,hk1,hx1,ht1,hlow1,hoe1,himp1,hg1⟩:=hk
   obtain⟨vs,hvs,hk2⟩:=ZcM h0 rs rvs st1 T1 (E++e1) _ hx1 hc1.2 hk1
   refine⟨v::vs,?_,?_⟩
   ·rw[List.mapM_cons]
    simp only[Sem.run_bind,hv,Result.andThen_ok,hvs,Sem.run_pure]
   ·refine CellsOk.cons (K:=fun y' st' => y'=y/\st'=st1/\∀ T' E',XS st0 st' T' E'->CellsOk F G st0 w T' E' vs (fun ys st'' => K (y::ys) st'')) ?_ (fun y' st' T' E' hk' hx' => ?_)
    ·refine⟨y,st1,T1,e1,obs1,⟨rfl,rfl,fun T' E' hx' => ?_⟩,hx1,ht1,hlow1,hoe1,himp1,hg1⟩
     obtain⟨vs',hvs',hk3⟩:=ZcM h0 rs rvs st1 T' E' _ hx' hc1.2 hk1
     rw[hvs] at hvs'
     cases hvs'
     exact hk3
    ·obtain⟨rfl,rfl,hh⟩:=hk'
     exact hh T' E' hx'
theorem ZmD(h0:Sim F G st0 a w)(x:XS st0 st T E){obs:List Ob}(oe:OE st0 E obs){G':Gh}{S':Zc}(hG1:∀ i,i.1≠st0.lvl->G' i=G i)(hG2:∀(j:Nat) (id:Zd),E[j]? = some (some id)->G' (st0.lvl,j)=G id)
  (hG3:∀ j:Nat,E[j]? = some none->G' (st0.lvl,j)=fun _=>none) (hS1:∀ i,i.1≠st0.lvl->S' i=st0.sto i) (hS2:∀ j:Nat,S' (st0.lvl,j)=obs[j]?):FinS G st0 w T E G' S'/\SOk G' S' w/\∀(L n:Nat),L<=st0.lvl->Frm ⟨G,st0.sto,w,L,n⟩ G' S' w:=by
 have src:∀ i ob,S' i=some ob->(i.1≠st0.lvl/\st0.sto i=some ob)\/(∃ j id k es u hw ver,i=(st0.lvl,j)/\E[j]? = some (some id)/\st0.sto id=some (.ar k es u hw ver)/\ob = .ar k es u es.length 0) \/
   (∃ j k,i=(st0.lvl,j)/\E[j]? = some none/\ob = .ar k [] true 0 0):=fun i ob hs=>by
  by_cases hi:i.1=st0.lvl
  ·right
   obtain⟨i1,j⟩:=i
   have hi:i1=st0.lvl:=hi
   subst hi
   rw[hS2] at hs
   have hj:j<E.length:=by rw[<-ZcK oe];exact(Uac.1 hs).1
   obtain⟨e,he⟩:∃ e,E[j]? = some e:=⟨_,Uaf hj⟩
   obtain⟨ob',h1,h2⟩:=ZaC oe j e he
   rw[hs] at h1;cases h1
   cases e with
   | some id =>
    obtain⟨k,es,u,hw,ver,h3,h4⟩:=h2
    exact .inl ⟨j,id,k,es,u,hw,ver,rfl,he,h3,h4⟩
   | none =>
    obtain⟨k,h4⟩:=h2
    exact .inr ⟨j,k,rfl,he,h4⟩
  ·exact .inl ⟨hi,by rw[<-hS1 i hi];exact hs⟩
 have hdead:∀ i,T i\/some i∈E->i.1=st0.lvl:=x.kl.dead
 have osrc:∀ i ob b,S' i=some ob->ZK G' i ob b->∃ i0 ob0,st0.sto i0=some ob0/\ZK G i0 ob0 b/\¬ T i0/\((i.1≠st0.lvl/\i0=i)\/∃ j,i=(st0.lvl,j)/\E[j]? = some (some i0)):=fun i ob b hs ho=>by
  rcases src i ob hs with ⟨hi,h1⟩ | ⟨j,id,k,es,u,hw,ver,rfl,he,h3,rfl⟩ | ⟨j,k,rfl,he,rfl⟩
  ·exact⟨i,ob,h1,(Xo (hG1 i hi)).1 ho,fun ht=>hi (hdead i (.inl ht)),.inl ⟨hi,rfl⟩⟩
  ·refine⟨id,_,h3,?_,x.dj id (Uae he),.inr ⟨j,rfl,he⟩⟩
   obtain⟨p,c,h4,h5,h6⟩:=ho
   rw[hG2 j id he] at h6
   exact⟨p,c,h4,h5,h6⟩
  ·obtain⟨p,c,h4,h5,h6⟩:=ho
   rw[hG3 j he] at h6
   cases h6
 have fs:FinS G st0 w T E G' S':=by
  refine⟨fun i ob hi hs=>⟨by rw[hS1 i hi];exact hs,hG1 i hi⟩,fun b hb hT=>⟨hb,fun i ob hs ho=>?_⟩,fun j id he=>⟨hG2 j id he,?_⟩,fun j he=>⟨hG3 j he,?_⟩⟩
  ·obtain⟨i0,ob0,h1,h2,h3,_⟩:=osrc i ob b hs ho
   exact h3 (hT i0 ob0 h1 h2)
  ·obtain⟨ob,h1,k,es,u,hw,ver,h2,rfl⟩:=ZaC oe j _ he
   exact⟨k,es,u,hw,ver,h2,by rw[hS2];exact h1⟩
  ·obtain⟨ob,h1,k,rfl⟩:=ZaC oe j _ he
   exact⟨k,by rw[hS2];exact h1⟩
 have hlows:∀ i cells,i.1≠st0.lvl->st0.sto i=some (.bx cells)->Za (fun j=>j.1≠st0.lvl) cells:=fun i cells hi hs=>by
  have h1:=h0.ok.low i cells hs
  rw[Yt hi] at hs
  have h2:=h0.outl i _ hs
  refine JD (fun j hj=>?_) cells h1
  have hj:j.1<i.1+1:=hj
  omega
 refine⟨fs,⟨fun i ob hs=>?_,fun i ob i' ob' b hs hs' ho ho' => ?_,fun i cells hs=>?_⟩,fun L n hL=>⟨Uag _,fun _ _ _=>rfl,fun i ob b hs ho=>?_,rfl,rfl,rfl,fun y v hy hv=>?_⟩⟩
 ·rcases src i ob hs with ⟨hi,h1⟩ | ⟨j,id,k,es,u,hw,ver,rfl,he,h3,rfl⟩ | ⟨j,k,rfl,he,rfl⟩
  ·exact X1 (hG1 i hi) fs.mono (fun _ _=>rfl) (fun _ _=>rfl) (fun cells vs e hv=>fs.vrs cells vs (hlows i cells hi (by rw[h1,e])) hv) (h0.ok.obs i ob h1)
  ·obtain⟨g1,g2,g3,g4,g5⟩:=h0.ok.obs id _ h3
   have hG:=hG2 j id he
   refine⟨Uag _,g2,by rw[hG];omega,fun p es' hp hg=>D8 hG fs.mono (g4 p es' hp hg),by rw[hG];exact g5⟩
  ·have hG:=hG3 j he
   refine⟨Uag _,fun e he=>(by cases he),(by rw[hG];simp [YA]),fun p es' hp hg=>?_,fun p p' b c c' _ _ _ _ h=>(by rw[hG] at h;cases h)⟩
   unfold Z3
   rw[hG]
   dsimp only
   cases p with
   | nil=>simp only[getp,Uak] at hg;exact hg.symm
   | cons q p=>obtain⟨a,b⟩:=q;simp [getp] at hg
 ·obtain⟨i0,ob0,h1,h2,_,h3⟩:=osrc i ob b hs ho
  obtain⟨j0,ob1,g1,g2,_,g3⟩:=osrc i' ob' b hs' ho'
  have he:=h0.ok.dis _ _ _ _ b h1 g1 h2 g2
  subst he
  rcases h3 with ⟨n1,rfl⟩ | ⟨a1,rfl,e1⟩ <;> rcases g3 with ⟨n2,e2⟩ | ⟨a2,rfl,e2⟩
  ·exact e2
  ·exact absurd (hdead _ (.inr (Uae e2))) n1
  ·subst e2;exact absurd (hdead _ (.inr (Uae e1))) n2
  ·rw[x.nd a1 a2 i0 e1 e2]
 ·rcases src i _ hs with ⟨hi,h1⟩ | ⟨j,id,k,es,u,hw,ver,rfl,he,h3,h4⟩ | ⟨j,k,rfl,he,h4⟩
  ·exact h0.ok.low i cells h1
  ·cases h4
  ·cases h4
 ·obtain⟨i0,ob0,h1,h2,_⟩:=osrc i ob b hs ho
  exact .inr ⟨i0,ob0,h1,h2⟩
 ·refine fs.vr y v (JL (fun j hj=>?_) y hy) hv
  have hj:j.1<L:=hj
  omega
theorem Zgr(imp:Bool)(l b:Nat):∀(r:List IV) (j:Nat),(impvs imp l b j r).1.length=r.length
 | [],_=>rfl
 | x::r,j=>by simp only[impvs,List.length_cons,Zgr imp l b r]
theorem Zgs(h0:Sim F G st0 a w){fn:Func}{rs:List RS}{K:IV->Zc->Prop}(hc:Yr P rs fn.results.toList=true)(he:Jb rs st0 K) :
  ∃ v r S' G',(results fn a.tmps).run P w = .ok v w/\K r S'/\low F.lvl r/\(∀ id ob,S' id=some ob->id.1<F.lvl)/\SOk G' (ZP S' F.lvl 0 (impv true F.lvl 0 0 r).2) w/\VR G' (ZP S' F.lvl 0 (impv true F.lvl 0 0 r).2) w (impv true F.lvl 0 0 r).1 v /\
   Frm ⟨F.G,F.S,F.w,F.lvl,0⟩ G' (ZP S' F.lvl 0 (impv true F.lvl 0 0 r).2) w:=by
 obtain⟨vs,hrun,ys,st',T,e,obs,hk,hx,_,hlow,hoe,himp,hg⟩:=ZcM h0 rs fn.results.toList st0 (fun _=>False) [] _ (XS.nil st0) hc he
 simp only[List.nil_append] at hx hg
 have hlv:F.lvl=st0.lvl:=h0.lvl.symm
 have hout:st'.out=st0.out:=hx.kl.out
 have hfresh:Ys st0.out st0.lvl 0 obs.length:=fun j _=>by
  cases h:st0.out (st0.lvl,0+j) with
  | none=>rfl
  | some ob=>have:=h0.outl _ ob h;simp at this
 let G':Gh:=fun i=>if i.1=st0.lvl then (match e[i.2]? with | some (some id)=>G id | _=>fun _=>none) else G i
 have hS1:∀ i,i.1≠st0.lvl->ZP st0.out st0.lvl 0 obs i=st0.sto i:=fun i hi=>by
  rw[Yt hi]
  cases h:st0.out i with
  | some ob=>exact X4 obs _ _ _ hfresh i ob h
  | none =>
   cases h2:ZP st0.out st0.lvl 0 obs i with
   | none=>rfl
   | some ob =>
    rcases Qv obs _ _ _ i ob h2 with g | ⟨j,_,rfl,_⟩
    ·rw[h] at g;cases g
    ·exact absurd rfl hi
 have hS2:∀ j:Nat,ZP st0.out st0.lvl 0 obs (st0.lvl,j)=obs[j]?:=fun j=>by
  cases h:obs[j]? with
  | some ob=>have:=Qw obs st0.out st0.lvl 0 j ob h;rwa [Uap] at this
  | none =>
   cases h2:ZP st0.out st0.lvl 0 obs (st0.lvl,j) with
   | none=>rfl
   | some ob =>
    rcases Qv obs _ _ _ _ ob h2 with g | ⟨j',_,g1,g2⟩
    ·have:=h0.outl _ ob g;simp at this
    ·simp at g1;subst g1;rw[h] at g2;cases g2
 obtain⟨fs,hok,hfr⟩:=ZmD (G':=G') (S':=ZP st0.out st0.lvl 0 obs) h0 hx hoe (fun i hi=>by simp only[G'];rw[if_neg hi]) (fun j id hj=>by simp only[G',if_true,hj]) (fun j hj=>by simp only[G',if_true,hj]) hS1 hS2
 have hvr:=hg T e G' _ (fun _ h=>h) (fun _ _ h=>h) fs
 have hfrm:Frm ⟨F.G,F.S,F.w,F.lvl,0⟩ G' (ZP st0.out st0.lvl 0 obs) w:=by
  have h1:Frm ⟨F.G,F.S,F.w,F.lvl,0⟩ G st0.sto w:=⟨h0.fr.size,h0.fr.old,h0.fr.own,h0.fr.os,h0.fr.tape,h0.fr.output,h0.fr.stab⟩
  exact h1.trans (hfr F.lvl 0 (Nat.le_of_eq hlv)) (Uag _)
 have hcl:∀ id ob,st0.out id=some ob->id.1<F.lvl:=fun id ob hs=>by rw[hlv];exact h0.outl id ob hs
 have hres:∀ v,(if h:vs.toArray.size=1 then vs.toArray[0] else Value.tuple vs.toArray)=v->(results fn a.tmps).run P w = .ok v w:=fun v hv=>by
  have:(results fn a.tmps)=(do let vs <- fn.results.mapM (UY a);pure (if h:vs.size=1 then vs[0] else .tuple vs)):=by
   unfold results
   congr 1
  rw[this,Array.mapM_eq_mapM_toList]
  simp only[Sem.run_bind,Sem.run_map,hrun,Result.andThen_ok,Sem.run_pure]
  rw[<-hv]
 have hlen:=Yq hvr
 rw[Zgr] at hlen
 rw[hout] at hk
 rw[hlv] at hlow ⊢
 rw[hlv] at hfrm
 cases ys with
 | nil =>
  have hvs:vs=[]:=Uau (by simpa using hlen)
  subst hvs
  have hobs:obs=[]:=by rw[<-himp];rfl
  subst hobs
  exact⟨.tuple #[],.tu [],st0.out,G',hres _ (by simp),hk,trivial,fun id ob h=>hlv ▸ hcl id ob h,hok,⟨[],rfl,rfl⟩,hfrm⟩
 | cons y r =>
  cases r with
  | nil =>
   obtain⟨v,vr,rfl,h1,h2⟩:=hvr
   rw[show vr=[] from h2] at hres
   have hobs:(impv true st0.lvl 0 0 y).2=obs:=by
    rw[<-himp];simp [impvs]
   refine⟨v,y,st0.out,G',hres v (by simp),hk,hlow.1,fun id ob h=>hlv ▸ hcl id ob h,?_,?_,?_⟩
   ·rw[hobs];exact hok
   ·rw[hobs];exact h1
   ·rw[hobs];exact hfrm
  | cons z r =>
   have hobs:(impv true st0.lvl 0 0 (.tu (y::z::r))).2=obs:=by
    rw[<-himp];simp only[impv];rfl
   refine⟨.tuple vs.toArray,.tu (y::z::r),st0.out,G',hres _ ?_,hk,by simpa only[men] using hlow,fun id ob h=>hlv ▸ hcl id ob h,?_,?_,?_⟩
   ·rw[dif_neg]
    simp at hlen ⊢
    omega
   ·rw[hobs];exact hok
   ·rw[hobs]
    simp only[impv]
    exact⟨vs,rfl,hvr⟩
   ·rw[hobs];exact hfrm
theorem ZmE{f:FuncId}{fn:Func}{c:Code}{f2:F2}{lvl:Nat}{args:List IV}{S:Zc}{r:IV}{S':Zc}(hf:P.funcs[f]? = some fn)(hb:fn.body=some c) (hname:(fn.name == "runtime.NumGoroutine")=false)
  (hnt:fn.ntmps=f2.nt) (hc:JQ P f2.nt f2.body c=true) (hr:Yr P f2.res fn.results.toList=true) (hlow:low lvl r)
  (h:wpF (Sem P) f2 lvl args S (fun r' S2=>r'=r/\S2=S')):Sem P f lvl args S r S':=by
 refine⟨hlow,⟨fn,hf,by rw[hb];rfl,hname⟩,fun hcl G w vs hok hvs hfx=>?_⟩
 obtain⟨hlen,h⟩:=h
 have hvl:=Yq hvs
 refine calls_of_wp hf hb ?_
 have hsim:Sim ⟨G,S,w,lvl,f2.nt⟩ G ⟨lvl,params 0 args,[],S⟩ { tmps:=vs.toArray++Array.replicate (fn.ntmps-vs.toArray.size) undef,defers:=[] } w:=by
  have hsto:(⟨lvl,params 0 args,[],S⟩:St).sto=S:=by
   funext id
   unfold St.sto Zy
   split
   ·rename_i hi
    simp only[lkO]
    cases hs:S id with
    | none=>rfl
    | some ob=>have h1:=hcl id ob hs;have hi:id.1=lvl:=hi;omega
   ·rfl
  refine⟨rfl,by simp [hnt,hvl];omega,fun t=>?_,by rw[hsto];exact hok,rfl,hcl,by rw[hsto];exact⟨Uag _,fun _ _ _=>rfl,fun i ob b hs ho=>.inr ⟨i,ob,hs,ho⟩,rfl,rfl,rfl,fun _ _ _ h=>h⟩,hfx⟩
  rw[hsto]
  show VR G S w (lk t (params 0 args)) _
  rw[ZeG t args 0 (Ubg _),Nat.sub_zero]
  cases ha:args[t]? with
  | none=>exact trivial
  | some x =>
   obtain⟨v,hv,hx⟩:=YB hvs t x ha
   have ht:t<vs.length:=(Uac.1 hv).1
   simp only[Option.getD_some]
   have:((vs.toArray++Array.replicate (fn.ntmps-vs.toArray.size) undef).getD t undef)=v:=by
    rw[Uay,UaD (by simpa using ht)]
    simp [hv]
   rw[this]
   exact hx
 refine Zmz f2.body c _ _ _ G _ w hc h hsim (fun ex st' G1 a' w' hk hs=>?_)
 cases ex with
 | ext i=>exact hk.elim
 | nrm =>
  obtain⟨v,r',S2,G2,h1,⟨rfl,rfl⟩,h2,h3,h4,h5,h6⟩:=Zgs hs hr hk
  exact⟨hs.dfr,v,h1,v,G2,rfl,h4,h5,h3,h6⟩
 | ret =>
  obtain⟨v,r',S2,G2,h1,⟨rfl,rfl⟩,h2,h3,h4,h5,h6⟩:=Zgs hs hr hk
  exact⟨hs.dfr,v,h1,v,G2,rfl,h4,h5,h3,h6⟩
end
end Go.Fd

namespace Go.Fd
variable [Tabs]
def Zo(P:Program)(f:FuncId)(f2:F2):Bool :=
 match P.funcs[f]? with
 | some fn =>
  match fn.body with
  | some c=>!(fn.name == "runtime.NumGoroutine")&&fn.ntmps == f2.nt&&JQ P f2.nt f2.body c&&Yr P f2.res fn.results.toList
  | none=>false
 | none=>false
theorem Zv{P:Program}{f:FuncId}{f2:F2}{lvl:Nat}{args:List IV}{S:Zc}{r:IV}{S':Zc}(hc:Zo P f f2=true)(hlow:low lvl r)
  (h:wpF (Sem P) f2 lvl args S (fun r' S2=>r'=r/\S2=S')):Sem P f lvl args S r S':=by
 unfold Zo at hc
 split at hc <;> try contradiction
 rename_i fn hf
 split at hc <;> try contradiction
 rename_i c hb
 simp only[Uad,Uar,beq_iff_eq] at hc
 exact ZmE hf hb hc.1.1.1 hc.1.1.2 hc.1.2 hc.2 hlow h
end Go.Fd

namespace Go.Fd
section
variable {C:ZD} {lvl:Nat} {env:List (Nat×IV)} {loc:List (Nat×Ob)} {out:Zc} {d:Option Nat} {K:St->Prop} {st:St} {Q:Ex->St->Prop}
def Zgt(C:ZD)(l:List OP)(K:St->Prop):St->Prop:=fun st=>YG C l st K
theorem ZmF{o:OP}{l:List OP}:YG C (o::l) st K=JV C o st (Zgt C l K):=(rfl)
theorem ZmG:YG C [] st K=K st:=(rfl)
theorem ZmH{l:List OP}:Zgt C l K st=YG C l st K:=(rfl)
def ZaD(C:ZD)(b:C2)(Q:Ex->St->Prop):Ex->St->Prop:=fun e st=>match e with | .nrm=>wp C b st Q | e=>Q e st
def ZaE(i:Nat)(Q:Ex->St->Prop):Ex->St->Prop:=fun e st=>match e with | .ext j=>if j=i then Q .nrm st else Q (.ext j) st | e=>Q e st
def kfn(rs:List RS)(K:IV->Zc->Prop):Ex->St->Prop:=fun e st=>match e with | .ext _=>False | _=>Jb rs st K
theorem ZmI{b:C2}:ZaD C b Q .nrm st=wp C b st Q:=(rfl)
theorem ZmJ{b:C2}{i:Nat}:ZaD C b Q (.ext i) st=Q (.ext i) st:=(rfl)
theorem ZmK{b:C2}:ZaD C b Q .ret st=Q .ret st:=(rfl)
theorem ZmL{i:Nat}:ZaE i Q .nrm st=Q .nrm st:=(rfl)
theorem ZmM{i j:Nat}:ZaE i Q (.ext j) st=if j=i then Q .nrm st else Q (.ext j) st:=(rfl)
theorem ZmN{i:Nat}:ZaE i Q .ret st=Q .ret st:=(rfl)
theorem ZmO{rs:List RS}{K:IV->Zc->Prop}:kfn rs K .nrm st=Jb rs st K:=(rfl)
theorem ZmP{rs:List RS}{K:IV->Zc->Prop}:kfn rs K .ret st=Jb rs st K:=(rfl)
theorem ZmQ{rs:List RS}{K:IV->Zc->Prop}{i:Nat}:kfn rs K (.ext i) st=False:=(rfl)
theorem ZmR:wp C .sk st Q=Q .nrm st:=(rfl)
theorem ZmS{n:Option Nat}{ops:List OP}:wp C (.rg n ops) st Q=YG C ops st (Q .nrm):=(rfl)
theorem ZmT{a b:C2}:wp C (.sq a b) st Q=wp C a st (ZaD C b Q):=(rfl)
theorem ZmU{i:Nat}{c:C2}:wp C (.bl i c) st Q=wp C c st (ZaE i Q):=(rfl)
theorem ZmV{i:Nat}:wp C (.ex i) st Q=Q (.ext i) st:=(rfl)
theorem ZmW:wp C .rt st Q=Q .ret st:=(rfl)
theorem ZmX{ks js:List Nat}{c:C2}:wp C (.fg ks js c) st Q=(clean ks js st/\wp C c (fgt ks js st) Q):=(rfl)
def cd2(C:ZD)(v:IV)(a b:C2)(st:St)(Q:Ex->St->Prop):Prop :=
 match v with
 | .tr (.v (.bool t))=>if t=true then wp C a st Q else wp C b st Q
 | _=>False
theorem ZmY{c:X}{a b:C2}:wp C (.cd c a b) ⟨lvl,env,loc,out⟩ Q=cd2 C (xv env c) a b ⟨lvl,env,loc,out⟩ Q:=by
 simp only[wp]
 generalize xv env c=v
 cases v <;> try rfl
 rename_i t
 cases t <;> try rfl
 rename_i x
 cases x <;> try rfl
 rename_i t
 cases t <;> simp [cd2]
theorem ZmZ{t:Bool}{a b:C2}:cd2 C (.tr (.v (.bool t))) a b st Q=if t=true then wp C a st Q else wp C b st Q:=(rfl)
theorem Zm0{f:F2}{args:List IV}{K:IV->Zc->Prop}:wpF C f lvl args out K=(args.length<=f.nt/\wp C f.body ⟨lvl,params 0 args,[],out⟩ (kfn f.res K)):=(rfl)
def gd(C:ZD)(v:IV)(w:Bool)(j:Nat)(d:Option Nat)(o:O)(lvl:Nat)(env:List (Nat×IV))(loc:List (Nat×Ob))(out:Zc)(K:St->Prop):Prop :=
 match v with
 | .tr (.v (.bool c))=>if c=w then Zu C d o ⟨lvl,pt j (iB w) env,loc,out⟩ K else K ⟨lvl,ptd d (.tu []) (pt j (iB !w) env),loc,out⟩
 | .tu []=>K ⟨lvl,ptd d (.tu []) env,loc,out⟩
 | _=>False
theorem Zm1{o:O}:JV C ⟨d,none,o⟩ st K=Zu C d o st K:=(rfl)
theorem Zm2{o:O}{j:Nat}{w:Bool}:JV C ⟨d,some (j,w),o⟩ ⟨lvl,env,loc,out⟩ K=gd C (lk j env) w j d o lvl env loc out K:=by
 simp only[JV]
 generalize lk j env=v
 cases v with
 | tr t =>
  cases t with
  | v x =>
   cases x <;> try rfl
   rename_i c
   cases c <;> cases w <;> simp [gd]
  | sl=>rfl
 | tu l=>cases l <;> rfl
 | _=>rfl
theorem Zm3{c w:Bool}{j:Nat}{o:O}:gd C (.tr (.v (.bool c))) w j d o lvl env loc out K=if c=w then Zu C d o ⟨lvl,pt j (iB w) env,loc,out⟩ K else K ⟨lvl,ptd d (.tu []) (pt j (iB !w) env),loc,out⟩:=(rfl)
theorem Zm4{w:Bool}{j:Nat}{o:O}:gd C (.tu []) w j d o lvl env loc out K=K ⟨lvl,ptd d (.tu []) env,loc,out⟩:=(rfl)
theorem JZ{o:O}(h:Jr o=false):Zu C d o ⟨lvl,env,loc,out⟩ K=ev C (xv env) (Zy lvl loc out) (fun mk obs=>freshK (keyOf d) loc (obs lvl (keyOf d)).length/\K ⟨lvl,ptd d (mk lvl (keyOf d)) env,addO (keyOf d) (obs lvl (keyOf d)) loc,out⟩) o:=by
 unfold Zu
 rw[if_neg (by simp [h])]
 rfl
theorem Zgu{o:O}(h:Jr o=false){y:IV}(he:∀ Kd:JU,ev C (xv env) (Zy lvl loc out) Kd o=ZC Kd y):Zu C d o ⟨lvl,env,loc,out⟩ K=K ⟨lvl,ptd d y env,loc,out⟩:=by
 exact(JZ h).trans ((he _).trans (by simp [ZC,freshK,addO]))
def JT(lvl:Nat)(env:List (Nat×IV))(loc:List (Nat×Ob))(out:Zc)(d:Option Nat)(K:St->Prop)(y:IV):Prop:=K ⟨lvl,ptd d y env,loc,out⟩
theorem Zm5{y:IV}:JT lvl env loc out d K y=K ⟨lvl,ptd d y env,loc,out⟩:=(rfl)
theorem Yb{o:O}(h:Jr o=false){T:(IV->Prop)->Prop}(he:∀ Kd:JU,ev C (xv env) (Zy lvl loc out) Kd o=T (fun y=>ZC Kd y)):Zu C d o ⟨lvl,env,loc,out⟩ K=T (JT lvl env loc out d K):=by
 exact(JZ h).trans ((he _).trans (congrArg T (funext fun y=>by simp [ZC,freshK,addO,JT])))
theorem Zm6{x:X}:Zu C d (.mv x none) ⟨lvl,env,loc,out⟩ K=K ⟨lvl,ptd d (xv env x) env,loc,out⟩:=Zgu rfl fun _=>rfl
def mvn(v:IV)(k lvl:Nat)(env:List (Nat×IV))(loc:List (Nat×Ob))(out:Zc)(d:Option Nat)(K:St->Prop):Prop :=
 match v with
 | .cs []=>freshK (keyOf d) loc 1/\K ⟨lvl,ptd d (.hd (lvl,keyOf d) [] 0 0 none 0) env,ptO (keyOf d) (.ar k [] true 0 0) loc,out⟩
 | _=>False
theorem Zm7{x:X}{k:Nat}:Zu C d (.mv x (some k)) ⟨lvl,env,loc,out⟩ K=mvn (xv env x) k lvl env loc out d K:=by
 rw[JZ rfl]
 simp only[ev]
 generalize xv env x=v
 cases v <;> try rfl
theorem Zm8{k:Nat}:mvn (.cs []) k lvl env loc out d K=(freshK (keyOf d) loc 1/\K ⟨lvl,ptd d (.hd (lvl,keyOf d) [] 0 0 none 0) env,ptO (keyOf d) (.ar k [] true 0 0) loc,out⟩):=(rfl)
def bxf(v:Option (List IV))(lvl:Nat)(env:List (Nat×IV))(loc:List (Nat×Ob))(out:Zc)(d:Option Nat)(K:St->Prop):Prop :=
 match v with
 | some c=>freshK (keyOf d) loc 1/\K ⟨lvl,ptd d (.ab (lvl,keyOf d) 0) env,ptO (keyOf d) (.bx c) loc,out⟩
 | none=>False
theorem Zm9{x:X}:Zu C d (.bx x) ⟨lvl,env,loc,out⟩ K=bxf (cellsOf (xv env x)) lvl env loc out d K:=by
 rw[JZ rfl]
 simp only[ev]
 generalize cellsOf (xv env x)=v
 cases v <;> rfl
theorem Zna{c:List IV}:bxf (some c) lvl env loc out d K=(freshK (keyOf d) loc 1/\K ⟨lvl,ptd d (.ab (lvl,keyOf d) 0) env,ptO (keyOf d) (.bx c) loc,out⟩):=(rfl)
def bvf(v:Option (List IV))(k lvl:Nat)(env:List (Nat×IV))(loc:List (Nat×Ob))(out:Zc)(d:Option Nat)(K:St->Prop):Prop :=
 match v with
 | some c=>c.length=k/\freshK (keyOf d) loc 1/\K ⟨lvl,ptd d (.sv (lvl,keyOf d)) env,ptO (keyOf d) (.bx c) loc,out⟩
 | none=>False
theorem Znb{k n:Nat}{z:List Value}{x:X}:Zu C d (.bv k n z [(0,x)]) ⟨lvl,env,loc,out⟩ K=(n=1/\bvf (cellsOf (xv env x)) k lvl env loc out d K):=by
 rw[JZ rfl]
 simp only[ev]
 generalize cellsOf (xv env x)=v
 cases v <;> rfl
theorem Znc{c:List IV}{k:Nat}:bvf (some c) k lvl env loc out d K=(c.length=k/\freshK (keyOf d) loc 1/\K ⟨lvl,ptd d (.sv (lvl,keyOf d)) env,ptO (keyOf d) (.bx c) loc,out⟩):=(rfl)
def tocs(v:IV):Option (List Tr×Bool) :=
 match cellsOf v with
 | some c=>totrs c
 | none=>none
def btf(v:Option (List Tr×Bool))(lvl:Nat)(env:List (Nat×IV))(loc:List (Nat×Ob))(out:Zc)(d:Option Nat)(K:St->Prop):Prop :=
 match v with
 | some (ts,_)=>K ⟨lvl,ptd d (.ta ts) env,loc,out⟩
 | none=>False
theorem Znd{x:X}:Zu C d (.bt x) ⟨lvl,env,loc,out⟩ K=btf (tocs (xv env x)) lvl env loc out d K:=by
 rw[JZ rfl]
 simp only[ev,tocs]
 generalize cellsOf (xv env x)=v
 cases v with
 | none=>rfl
 | some c =>
  dsimp only
  generalize totrs c=u
  cases u with
  | none=>rfl
  | some p=>obtain⟨ts,q⟩:=p;simp [btf,ZC,freshK,addO]
theorem Zne{ts:List Tr}{q:Bool}:btf (some (ts,q)) lvl env loc out d K=K ⟨lvl,ptd d (.ta ts) env,loc,out⟩:=(rfl)
theorem Znf{z:List Value}{nz:List (Nat×Nat)}:Zu C d (.al z nz) ⟨lvl,env,loc,out⟩ K=(freshK (keyOf d) loc (1+nz.length)/\K ⟨lvl,ptd d (.ab (lvl,keyOf d) 0) env,ptO (keyOf d) (.bx (zfill lvl (keyOf d+1) nz (z.map kc))) loc |> addO (keyOf d+1) (zobs nz),out⟩):=by
 rw[JZ rfl]
 simp only[ev,List.length_cons,addO,zobs,Uab]
 rw[Ubn]
theorem Zng{z:List Value}{ps:List (Nat×Nat×X)}{nz:List (Nat×Nat)}:Zu C d (.bd z ps nz) ⟨lvl,env,loc,out⟩ K=(okp (xv env) z.length ps/\freshK (keyOf d) loc nz.length/\K ⟨lvl,ptd d (.ag (fpart (xv env) ps (zfill lvl (keyOf d) nz (z.map kc)))) env,addO (keyOf d) (zobs nz) loc,out⟩):=by
 rw[JZ rfl]
 simp only[ev,zobs,Uab]
def Zgv(k n lvl:Nat)(env:List (Nat×IV))(loc:List (Nat×Ob))(out:Zc)(d:Option Nat)(K:St->Prop):Row->Bool->Prop:=fun es u =>
 freshK (keyOf d) loc 1/\K ⟨lvl,ptd d (.hd (lvl,keyOf d) [] 0 n none n) env,ptO (keyOf d) (.ar k es u n 0) loc,out⟩
def fl2(v:Option (List Tr×Bool))(ρ:X->IV)(i k:Nat)(r:List (Nat×X))(es:Row)(u:Bool)(F:Row->Bool->Prop):Prop :=
 match v with
 | some (ts,a)=>ts.length=k/\i<es.length/\YQ ρ k r (es.set i ts) (u&&a) F
 | none=>False
theorem Znh{k n:Nat}{z:List Value}{ps:List (Nat×X)}:Zu C d (.bs k n z ps) ⟨lvl,env,loc,out⟩ K=YQ (xv env) k ps (List.replicate n (z.map trv)) true (Zgv k n lvl env loc out d K):=by
 rw[JZ rfl]
 rfl
theorem Zni{ρ:X->IV}{k:Nat}{es:Row}{u:Bool}{F:Row->Bool->Prop}:YQ ρ k [] es u F=F es u:=(rfl)
theorem Znj{ρ:X->IV}{k i:Nat}{x:X}{r:List (Nat×X)}{es:Row}{u:Bool}{F:Row->Bool->Prop}:YQ ρ k ((i,x)::r) es u F=fl2 (tocs (ρ x)) ρ i k r es u F:=by
 simp only[YQ,tocs]
 generalize cellsOf (ρ x)=v
 cases v with
 | none=>rfl
 | some c =>
  dsimp only
  generalize totrs c=u
  cases u with
  | none=>rfl
  | some p=>rfl
theorem Znk{ts:List Tr}{a:Bool}{ρ:X->IV}{k i:Nat}{r:List (Nat×X)}{es:Row}{u:Bool}{F:Row->Bool->Prop}:fl2 (some (ts,a)) ρ i k r es u F=(ts.length=k/\i<es.length/\YQ ρ k r (es.set i ts) (u&&a) F):=(rfl)
theorem Znl{k n:Nat}{es:Row}{u:Bool}:Zgv k n lvl env loc out d K es u=(freshK (keyOf d) loc 1/\K ⟨lvl,ptd d (.hd (lvl,keyOf d) [] 0 n none n) env,ptO (keyOf d) (.ar k es u n 0) loc,out⟩):=(rfl)
def msf(v:IV)(k:Nat)(z:List Value)(lvl:Nat)(env:List (Nat×IV))(loc:List (Nat×Ob))(out:Zc)(d:Option Nat)(K:St->Prop):Prop :=
 match v with
 | .tr (.v (.int .i64 n))=>0<=n/\n<=bigN/\freshK (keyOf d) loc 1/\K ⟨lvl,ptd d (.hd (lvl,keyOf d) [] 0 n.toNat none n.toNat) env,ptO (keyOf d) (.ar k (List.replicate n.toNat (z.map trv)) true n.toNat 0) loc,out⟩
 | _=>False
theorem Znm{k:Nat}{z:List Value}{x:X}:Zu C d (.ms k z x) ⟨lvl,env,loc,out⟩ K=msf (xv env x) k z lvl env loc out d K:=by
 rw[JZ rfl]
 simp only[ev]
 generalize xv env x=v
 cases v <;> try rfl
theorem Znn{n:Int}{k:Nat}{z:List Value}:msf (.tr (.v (.int .i64 n))) k z lvl env loc out d K=(0<=n/\n<=bigN/\freshK (keyOf d) loc 1/\K ⟨lvl,ptd d (.hd (lvl,keyOf d) [] 0 n.toNat none n.toNat) env,ptO (keyOf d) (.ar k (List.replicate n.toNat (z.map trv)) true n.toNat 0) loc,out⟩):=(rfl)
def ZR(op:BinOp)(w:Nat)(x y:IV)(F:IV->Prop):Prop :=
 match x,y with
 | .tr (.v a),.tr (.v b)=>Jj op w a b fun r=>F (.tr (.v r))
 | .er,.tr (.v .nilIface) =>
  match op,w with
  | .eql,3=>F (iB false)
  | .neq,3=>F (iB true)
  | _,_=>False
 | _,_=>False
theorem Zno{op:BinOp}{w:Nat}{x y:X}:Zu C d (.bi op w x y) ⟨lvl,env,loc,out⟩ K=ZR op w (xv env x) (xv env y) (JT lvl env loc out d K):=by
 exact Yb rfl fun Kd=>rfl
section bi
variable {F:IV->Prop} {k:IntKind} {a b:Int} {s t:ByteArray} {p q:Bool} {w:Nat}
theorem Znp:ZR .add 0 (.tr (.v (.int k a))) (.tr (.v (.int k b))) F=(Jq k (a+b)/\F (.tr (.v (.int k (a+b))))):=by simp [ZR,Jj]
theorem Znq:ZR .sub 0 (.tr (.v (.int k a))) (.tr (.v (.int k b))) F=(Jq k (a-b)/\F (.tr (.v (.int k (a-b))))):=by simp [ZR,Jj]
theorem Znr:ZR .mul 0 (.tr (.v (.int k a))) (.tr (.v (.int k b))) F=(Jq k (a*b)/\F (.tr (.v (.int k (a*b))))):=by simp [ZR,Jj]
theorem Zns:ZR .add 1 (.tr (.v (.int k a))) (.tr (.v (.int k b))) F=F (.tr (.v (.int k (k.wrap (a+b))))):=by simp [ZR,Jj]
theorem Znt:ZR .sub 1 (.tr (.v (.int k a))) (.tr (.v (.int k b))) F=F (.tr (.v (.int k (k.wrap (a-b))))):=by simp [ZR,Jj]
theorem Znu:ZR .mul 1 (.tr (.v (.int k a))) (.tr (.v (.int k b))) F=F (.tr (.v (.int k (k.wrap (a*b))))):=by simp [ZR,Jj]
theorem Znv:ZR .quo w (.tr (.v (.int k a))) (.tr (.v (.int k b))) F=(0<=a/\0<b/\Jq k a/\F (.tr (.v (.int k (a / b))))):=by simp [ZR,Jj]
theorem Znw:ZR .rem w (.tr (.v (.int k a))) (.tr (.v (.int k b))) F=(0<=a/\0<b/\F (.tr (.v (.int k (a % b))))):=by simp [ZR,Jj]
theorem Znx{j:IntKind}:ZR .shr w (.tr (.v (.int k a))) (.tr (.v (.int j b))) F=(0<=b/\F (.tr (.v (.int k (a.fdiv (2 ^ min b.toNat k.bits)))))):=by simp [ZR,Jj]
theorem Zny:ZR .and w (.tr (.v (.int k a))) (.tr (.v (.int k b))) F=F (.tr (.v (.int k (k.wrap ((BitVec.ofInt k.bits a &&& BitVec.ofInt k.bits b).toNat:Int))))):=by simp [ZR,Jj]
theorem Znz:ZR .eql w (.tr (.v (.int k a))) (.tr (.v (.int k b))) F=F (iB (decide (a=b))):=by simp [ZR,Jj]
theorem ZnA:ZR .neq w (.tr (.v (.int k a))) (.tr (.v (.int k b))) F=F (iB (decide (a≠b))):=by simp [ZR,Jj]
theorem ZnB:ZR .lss w (.tr (.v (.int k a))) (.tr (.v (.int k b))) F=F (iB (decide (a<b))):=by simp [ZR,Jj]
theorem ZnC:ZR .leq w (.tr (.v (.int k a))) (.tr (.v (.int k b))) F=F (iB (decide (a<=b))):=by simp [ZR,Jj]
theorem ZnD:ZR .gtr w (.tr (.v (.int k a))) (.tr (.v (.int k b))) F=F (iB (decide (b<a))):=by simp [ZR,Jj]
theorem ZnE:ZR .geq w (.tr (.v (.int k a))) (.tr (.v (.int k b))) F=F (iB (decide (b<=a))):=by simp [ZR,Jj]
theorem ZnF:ZR .eql 2 (.tr (.v (.bool p))) (.tr (.v (.bool q))) F=F (iB (p == q)):=by simp [ZR,Jj]
theorem ZnG:ZR .neq 2 (.tr (.v (.bool p))) (.tr (.v (.bool q))) F=F (iB (p != q)):=by simp [ZR,Jj]
theorem ZnH:ZR .eql 3 (.tr (.v .nilIface)) (.tr (.v .nilIface)) F=F (iB true):=by simp [ZR,Jj]
theorem ZnI:ZR .neq 3 (.tr (.v .nilIface)) (.tr (.v .nilIface)) F=F (iB false):=by simp [ZR,Jj]
theorem ZnJ:ZR .eql 3 .er (.tr (.v .nilIface)) F=F (iB false):=by simp [ZR]
theorem ZnK:ZR .neq 3 .er (.tr (.v .nilIface)) F=F (iB true):=by simp [ZR]
theorem ZnL:ZR .add w (.tr (.v (.string s))) (.tr (.v (.string t))) F=(s.size+t.size<=bigN/\F (.tr (.v (.string (s++t))))):=by simp [ZR,Jj]
theorem ZnM:ZR .eql w (.tr (.v (.string s))) (.tr (.v (.string t))) F=F (iB (decide (s=t))):=by simp [ZR,Jj]
theorem ZnN:ZR .neq w (.tr (.v (.string s))) (.tr (.v (.string t))) F=F (iB (decide (s≠t))):=by simp [ZR,Jj]
theorem ZnO:ZR .lss w (.tr (.v (.string s))) (.tr (.v (.string t))) F=F (iB (Op.bytesLess s.data.toList t.data.toList)):=by simp [ZR,Jj]
theorem ZnP:ZR .gtr w (.tr (.v (.string s))) (.tr (.v (.string t))) F=F (iB (!(Op.bytesLess s.data.toList t.data.toList || decide (s=t)))):=by simp [ZR,Jj]
theorem ZnQ:ZR .leq w (.tr (.v (.string s))) (.tr (.v (.string t))) F=F (iB (Op.bytesLess s.data.toList t.data.toList || decide (s=t))):=by simp [ZR,Jj]
theorem ZnR:ZR .geq w (.tr (.v (.string s))) (.tr (.v (.string t))) F=F (iB (!Op.bytesLess s.data.toList t.data.toList)):=by simp [ZR,Jj]
end bi
def eq2(ks:List Nat)(x y:IV)(neg:Bool)(F:IV->Prop):Prop :=
 match x,y with
 | .ag l,.ag m=>Yo ks l m fun b=>F (iB (if neg then !b else b))
 | _,_=>False
theorem ZnS{neg:Bool}{ks:List Nat}{x y:X}:Zu C d (.qa neg ks x y) ⟨lvl,env,loc,out⟩ K=eq2 ks (xv env x) (xv env y) neg (JT lvl env loc out d K):=by
 exact Yb rfl fun Kd=>rfl
def nt2(x:IV)(F:IV->Prop):Prop :=
 match x with
 | .tr (.v (.bool b))=>F (iB (!b))
 | _=>False
theorem ZnT{x:X}:Zu C d (.nt x) ⟨lvl,env,loc,out⟩ K=nt2 (xv env x) (JT lvl env loc out d K):=Yb rfl fun _=>rfl
theorem ZnU{b:Bool}{F:IV->Prop}:nt2 (.tr (.v (.bool b))) F=F (iB (!b)):=(rfl)
def ng2(x:IV)(F:IV->Prop):Prop :=
 match x with
 | .tr (.v (.int k n))=>Jq k (-n)/\F (.tr (.v (.int k (-n))))
 | _=>False
theorem ZnV{x:X}:Zu C d (.ng x) ⟨lvl,env,loc,out⟩ K=ng2 (xv env x) (JT lvl env loc out d K):=Yb rfl fun _=>rfl
theorem ZnW{k:IntKind}{n:Int}{F:IV->Prop}:ng2 (.tr (.v (.int k n))) F=(Jq k (-n)/\F (.tr (.v (.int k (-n))))):=(rfl)
def WY(c:Cv)(x:IV)(F:IV->Prop):Prop :=
 match c,x with
 | .int k,.tr (.v (.int _ n))=>Jq k n/\F (.tr (.v (.int k n)))
 | .wrap k,.tr (.v (.int _ n))=>F (.tr (.v (.int k (k.wrap n))))
 | .str,.tr (.v (.string s))=>F (iS s)
 | .rune,.tr (.v (.int _ n))=>0<=n/\n<128/\F (iS ⟨#[n.toNat.toUInt8]⟩)
 | .bys,.tr (.v (.string s))=>F (.tr (.sl (Xg s)))
 | _,_=>False
theorem ZnX{c:Cv}{x:X}:Zu C d (.cv c x) ⟨lvl,env,loc,out⟩ K=WY c (xv env x) (JT lvl env loc out d K):=Yb rfl fun _=>rfl
theorem ZnY{k j:IntKind}{n:Int}{F:IV->Prop}:WY (.int k) (.tr (.v (.int j n))) F=(Jq k n/\F (.tr (.v (.int k n)))):=(rfl)
theorem ZnZ{k j:IntKind}{n:Int}{F:IV->Prop}:WY (.wrap k) (.tr (.v (.int j n))) F=F (.tr (.v (.int k (k.wrap n)))):=(rfl)
theorem Zn0{s:ByteArray}{F:IV->Prop}:WY .str (.tr (.v (.string s))) F=F (iS s):=(rfl)
theorem Zn1{j:IntKind}{n:Int}{F:IV->Prop}:WY .rune (.tr (.v (.int j n))) F=(0<=n/\n<128/\F (iS ⟨#[n.toNat.toUInt8]⟩)):=(rfl)
theorem Zn2{s:ByteArray}{F:IV->Prop}:WY .bys (.tr (.v (.string s))) F=F (.tr (.sl (Xg s))):=(rfl)
def mf2(f:Nat)(cs:List IV)(F:IV->Prop):Prop:=(cs.all isCell)=true/\F (.fn f cs)
theorem Zn3{f:Nat}{cs:List X}:Zu C d (.mf f cs) ⟨lvl,env,loc,out⟩ K=mf2 f (cs.map (xv env)) (JT lvl env loc out d K):=Yb rfl fun _=>rfl
theorem Zn4{f:Nat}{cs:List IV}{F:IV->Prop}:mf2 f cs F=((cs.all isCell)=true/\F (.fn f cs)):=(rfl)
def ln2(x:IV)(F:IV->Prop):Prop :=
 match x with
 | .tr (.sl es)=>F (iI es.length)
 | .cs es=>F (iI es.length)
 | .hd _ _ _ len _ _=>F (iI len)
 | _=>False
theorem Zn5{x:X}:Zu C d (.ln x) ⟨lvl,env,loc,out⟩ K=ln2 (xv env x) (JT lvl env loc out d K):=Yb rfl fun _=>rfl
theorem Zn6{es:Row}{F:IV->Prop}:ln2 (.tr (.sl es)) F=F (iI es.length):=(rfl)
theorem Zn7{es:Row}{F:IV->Prop}:ln2 (.cs es) F=F (iI es.length):=(rfl)
theorem Zn8{id:Zd}{p:Zf}{off len s:Nat}{cap:Option Nat}{F:IV->Prop}:ln2 (.hd id p off len cap s) F=F (iI len):=(rfl)
def lg2(x:IV)(F:IV->Prop):Prop :=
 match x with
 | .tr (.v (.string s))=>F (iI s.size)
 | _=>False
theorem Zn9{x:X}:Zu C d (.lg x) ⟨lvl,env,loc,out⟩ K=lg2 (xv env x) (JT lvl env loc out d K):=Yb rfl fun _=>rfl
theorem Zoa{s:ByteArray}{F:IV->Prop}:lg2 (.tr (.v (.string s))) F=F (iI s.size):=(rfl)
theorem Zob{n:Nat}:Zu C d (.la n) ⟨lvl,env,loc,out⟩ K=K ⟨lvl,ptd d (iI n) env,loc,out⟩:=Zgu rfl fun _=>rfl
def UZ(mx:Bool)(x y:IV)(F:IV->Prop):Prop :=
 match x,y with
 | .tr (.v (.int k a)),.tr (.v (.int j b))=>k=j/\F (.tr (.v (.int k (if mx then max a b else min a b))))
 | _,_=>False
theorem Zoc{mx:Bool}{x y:X}:Zu C d (.mm mx x y) ⟨lvl,env,loc,out⟩ K=UZ mx (xv env x) (xv env y) (JT lvl env loc out d K):=Yb rfl fun _=>rfl
theorem Zod{k:IntKind}{a b:Int}{F:IV->Prop}:UZ true (.tr (.v (.int k a))) (.tr (.v (.int k b))) F=F (.tr (.v (.int k (max a b)))):=by simp [UZ]
theorem Zoe{k:IntKind}{a b:Int}{F:IV->Prop}:UZ false (.tr (.v (.int k a))) (.tr (.v (.int k b))) F=F (.tr (.v (.int k (min a b)))):=by simp [UZ]
def pk2(c a b:IV)(F:IV->Prop):Prop :=
 match c with
 | .tr (.v (.bool t))=>F (if t then a else b)
 | _=>False
theorem Zof{c a b:X}:Zu C d (.pk c a b) ⟨lvl,env,loc,out⟩ K=pk2 (xv env c) (xv env a) (xv env b) (JT lvl env loc out d K):=Yb rfl fun _=>rfl
theorem Zog{a b:IV}{F:IV->Prop}:pk2 (.tr (.v (.bool true))) a b F=F a:=(rfl)
theorem Zoh{a b:IV}{F:IV->Prop}:pk2 (.tr (.v (.bool false))) a b F=F b:=(rfl)
def Z6{α:Type}(x:Option α)(F:α->Prop):Prop :=
 match x with
 | some a=>F a
 | none=>False
theorem Zoi{α:Type}{a:α}{F:α->Prop}:Z6 (some a) F=F a:=(rfl)
theorem Yu{α:Type}{x:Option α}{F:α->Prop}:(∃ a,x=some a/\F a)=Z6 x F:=by cases x <;> simp [Z6]
def ex2(x:IV)(i:Nat)(F:IV->Prop):Prop :=
 match x with
 | .tu l=>Z6 l[i]? F
 | _=>False
theorem Zoj{i:Nat}{x:X}:Zu C d (.ex i x) ⟨lvl,env,loc,out⟩ K=ex2 (xv env x) i (JT lvl env loc out d K):=by
 refine Yb (o:=.ex i x) (T:=fun F=>ex2 (xv env x) i F) rfl (fun Kd=>?_)
 simp only[ev,ex2]
 generalize xv env x=v
 cases v <;> try rfl
 exact Yu
theorem Zok{i:Nat}{l:List IV}{F:IV->Prop}:ex2 (.tu l) i F=Z6 l[i]? F:=(rfl)
def nc2(x:IV)(F:IV->Prop):Prop :=
 match x with
 | .ta cells=>F (.ta cells)
 | .ab id o=>F (.ab id o)
 | .ae id p i f st=>F (.ae id p i f st)
 | _=>False
theorem Zol{x:X}:Zu C d (.nc x) ⟨lvl,env,loc,out⟩ K=nc2 (xv env x) (JT lvl env loc out d K):=Yb rfl fun _=>rfl
theorem Zom{cells:List Tr}{F:IV->Prop}:nc2 (.ta cells) F=F (.ta cells):=(rfl)
theorem Zon{id:Zd}{o:Nat}{F:IV->Prop}:nc2 (.ab id o) F=F (.ab id o):=(rfl)
theorem Zoo{id:Zd}{p:Zf}{i f s:Nat}{F:IV->Prop}:nc2 (.ae id p i f s) F=F (.ae id p i f s):=(rfl)
def fa2(off:Nat)(x:IV)(F:IV->Prop):Prop :=
 match x with
 | .ta cells=>F (.ta (cells.drop off))
 | .ab id o=>F (.ab id (o+off))
 | .ae id p i f st=>F (.ae id p i (f+off) st)
 | _=>False
theorem Zop{off:Nat}{x:X}:Zu C d (.fa off x) ⟨lvl,env,loc,out⟩ K=fa2 off (xv env x) (JT lvl env loc out d K):=Yb rfl fun _=>rfl
theorem Zoq{off:Nat}{cells:List Tr}{F:IV->Prop}:fa2 off (.ta cells) F=F (.ta (cells.drop off)):=(rfl)
theorem Zor{off:Nat}{id:Zd}{o:Nat}{F:IV->Prop}:fa2 off (.ab id o) F=F (.ab id (o+off)):=(rfl)
theorem Zos{off:Nat}{id:Zd}{p:Zf}{i f s:Nat}{F:IV->Prop}:fa2 off (.ae id p i f s) F=F (.ae id p i (f+off) s):=(rfl)
def U0(off:Nat)(m:Option Nat)(x:IV)(F:IV->Prop):Prop :=
 match m,x with
 | none,.ag l=>Z6 l[off]? F
 | some m,.ag l=>off+m<=l.length/\F (.ag ((l.drop off).take m))
 | _,_=>False
theorem Zot{off:Nat}{m:Option Nat}{x:X}:Zu C d (.fd off m x) ⟨lvl,env,loc,out⟩ K=U0 off m (xv env x) (JT lvl env loc out d K):=by
 refine Yb (o:=.fd off m x) (T:=fun F=>U0 off m (xv env x) F) rfl (fun Kd=>?_)
 cases m <;> simp only[ev,U0] <;> generalize xv env x=v <;> cases v <;> try rfl
 exact Yu
theorem Zou{off:Nat}{l:List IV}{F:IV->Prop}:U0 off none (.ag l) F=Z6 l[off]? F:=(rfl)
theorem Zov{off m:Nat}{l:List IV}{F:IV->Prop}:U0 off (some m) (.ag l) F=(off+m<=l.length/\F (.ag ((l.drop off).take m))):=(rfl)
def Y4(i:IV)(F:Nat->Prop):Prop :=
 match i with
 | .tr (.v (.int _ n))=>0<=n/\F n.toNat
 | _=>False
theorem Zow{k:IntKind}{n:Int}{F:Nat->Prop}:Y4 (.tr (.v (.int k n))) F=(0<=n/\F n.toNat):=(rfl)
def WZ(L:Zc)(k:Nat)(x:IV)(F:IV->Prop)(n:Nat):Prop :=
 match x with
 | .tr (.sl es)=>Z6 es[n]? fun e=>e.length=k/\F (.ta e)
 | .cs es=>Z6 es[n]? fun e=>e.length=k/\F (.ta e)
 | .hd id p off len _ st=>JG L id p st fun es _ _=>n<len/\Z6 es[off+n]? fun e=>e.length=k/\F (.ae id p (off+n) 0 st)
 | _=>False
theorem Zox{k:Nat}{x i:X}:Zu C d (.ia k x i) ⟨lvl,env,loc,out⟩ K=Y4 (xv env i) (WZ (Zy lvl loc out) k (xv env x) (JT lvl env loc out d K)):=by
 refine Yb (o:=.ia k x i) (T:=fun F=>Y4 (xv env i) (WZ (Zy lvl loc out) k (xv env x) F)) rfl (fun Kd=>?_)
 simp only[ev]
 generalize xv env i=vi
 cases vi <;> try rfl
 rename_i t
 cases t <;> try rfl
 rename_i y
 cases y <;> try rfl
 rename_i kk n
 simp only[Y4,WZ]
 generalize xv env x=v
 cases v <;> try rfl
 ·rename_i t
  cases t <;> try rfl
  dsimp only
  rw[Yu]
 ·dsimp only
  rw[Yu]
 ·dsimp only
  simp only[Yu]
def iae(k:Nat)(F:IV->Prop)(e:List Tr):Prop:=e.length=k/\F (.ta e)
theorem Zoy{k:Nat}{F:IV->Prop}{e:List Tr}:iae k F e=(e.length=k/\F (.ta e)):=(rfl)
theorem Zoz{L:Zc}{k n:Nat}{es:Row}{F:IV->Prop}:WZ L k (.tr (.sl es)) F n=Z6 es[n]? (iae k F):=(rfl)
theorem ZoA{L:Zc}{k n:Nat}{es:Row}{F:IV->Prop}:WZ L k (.cs es) F n=Z6 es[n]? (iae k F):=(rfl)
def Vh(o:Option Ob)(p:Zf)(st:Nat)(F:Row->Bool->Nat->Prop):Prop :=
 match o with
 | some (.ar _ es u hw ver)=>JF p st hw ver u/\Z6 (getp es p) fun es' => F es' u ver
 | _=>False
theorem Xz{L:Zc}{id:Zd}{p:Zf}{st:Nat}{F:Row->Bool->Nat->Prop}:JG L id p st F=Vh (L id) p st F:=by
 unfold JG Vh
 generalize L id=o
 cases o with
 | none=>rfl
 | some ob =>
  cases ob with
  | bx=>rfl
  | mp=>rfl
  | ar k es u hw ver =>
   dsimp only
   rw[<-Yu]
   apply propext
   constructor
   ·rintro⟨es',h1,h2,h3⟩;exact⟨h2,es',h1,h3⟩
   ·rintro⟨h2,es',h1,h3⟩;exact⟨es',h1,h2,h3⟩
def rde(u:Bool)(ver:Nat)(F:Row->Bool->Nat->Prop)(es:Row):Prop:=F es u ver
theorem ZoB{u:Bool}{ver:Nat}{F:Row->Bool->Nat->Prop}{es:Row}:rde u ver F es=F es u ver:=(rfl)
theorem ZoC{k:Nat}{es:Row}{u:Bool}{hw ver:Nat}{p:Zf}{st:Nat}{F:Row->Bool->Nat->Prop}:Vh (some (.ar k es u hw ver)) p st F=(JF p st hw ver u/\Z6 (getp es p) (rde u ver F)):=(rfl)
theorem ZoD{st hw ver:Nat}{u:Bool}:JF [] st hw ver u=(st=hw):=(rfl)
theorem ZoE{a:Nat×Nat}{p:Zf}{st hw ver:Nat}{u:Bool}:JF (a::p) st hw ver u=(u=true/\st=ver):=(rfl)
def iah(id:Zd)(p:Zf)(off len st k n:Nat)(F:IV->Prop)(es:Row)(_u:Bool)(_v:Nat):Prop:=n<len/\Z6 es[off+n]? fun e=>e.length=k/\F (.ae id p (off+n) 0 st)
def Zgw(id:Zd)(p:Zf)(off st k n:Nat)(F:IV->Prop)(e:List Tr):Prop:=e.length=k/\F (.ae id p (off+n) 0 st)
theorem ZoF{id:Zd}{p:Zf}{off len st k n:Nat}{F:IV->Prop}{es:Row}{u:Bool}{v:Nat}:iah id p off len st k n F es u v=(n<len/\Z6 es[off+n]? (Zgw id p off st k n F)):=(rfl)
theorem ZoG{id:Zd}{p:Zf}{off st k n:Nat}{F:IV->Prop}{e:List Tr}:Zgw id p off st k n F e=(e.length=k/\F (.ae id p (off+n) 0 st)):=(rfl)
theorem ZoH{L:Zc}{k n:Nat}{id:Zd}{p:Zf}{off len st:Nat}{cap:Option Nat}{F:IV->Prop}:WZ L k (.hd id p off len cap st) F n=Vh (L id) p st (iah id p off len st k n F):=Xz
def U1(k m:Nat)(x:IV)(F:IV->Prop)(n:Nat):Prop :=
 n<m /\
 match x with
 | .ta cells=>F (.ta (cells.drop (n*k)))
 | .ab id o=>F (.ab id (o+n*k))
 | .ae id p i f st=>F (.ae id p i (f+n*k) st)
 | _=>False
theorem ZoI{k m:Nat}{x i:X}:Zu C d (.ja k m x i) ⟨lvl,env,loc,out⟩ K=Y4 (xv env i) (U1 k m (xv env x) (JT lvl env loc out d K)):=by
 refine Yb (o:=.ja k m x i) (T:=fun F=>Y4 (xv env i) (U1 k m (xv env x) F)) rfl (fun Kd=>?_)
 simp only[ev]
 generalize xv env i=vi
 cases vi <;> rfl
theorem ZoJ{k m n:Nat}{cells:List Tr}{F:IV->Prop}:U1 k m (.ta cells) F n=(n<m/\F (.ta (cells.drop (n*k)))):=(rfl)
theorem ZoK{k m n:Nat}{id:Zd}{o:Nat}{F:IV->Prop}:U1 k m (.ab id o) F n=(n<m/\F (.ab id (o+n*k))):=(rfl)
theorem ZoL{k m n:Nat}{id:Zd}{p:Zf}{i f s:Nat}{F:IV->Prop}:U1 k m (.ae id p i f s) F n=(n<m/\F (.ae id p i (f+n*k) s)):=(rfl)
def W0(x:IV)(F:IV->Prop)(n:Nat):Prop :=
 match x with
 | .tr (.v (.string s))=>Z6 s.data.toList[n]? fun b=>F (.tr (.v (.int .u8 b.toNat)))
 | _=>False
def ixb(F:IV->Prop)(b:UInt8):Prop:=F (.tr (.v (.int .u8 b.toNat)))
theorem ZoM{F:IV->Prop}{b:UInt8}:ixb F b=F (.tr (.v (.int .u8 b.toNat))):=(rfl)
theorem ZoN{x i:X}:Zu C d (.ix x i) ⟨lvl,env,loc,out⟩ K=Y4 (xv env i) (W0 (xv env x) (JT lvl env loc out d K)):=by
 refine Yb (o:=.ix x i) (T:=fun F=>Y4 (xv env i) (W0 (xv env x) F)) rfl (fun Kd=>?_)
 simp only[ev]
 generalize xv env i=vi
 generalize xv env x=v
 cases vi with
 | tr t =>
  cases t with
  | v y =>
   cases y with
   | int kk n =>
    cases v with
    | tr t =>
     cases t with
     | v z=>cases z <;> simp only[Y4,W0,and_false] <;> rw[Yu]
     | sl=>simp only[Y4,W0,and_false]
    | _=>simp only[Y4,W0,and_false]
   | _ =>
     cases v <;> try rfl
     rename_i t
     cases t <;> try rfl
     rename_i z
     cases z <;> rfl
  | sl es =>
    cases v <;> try rfl
    rename_i t
    cases t <;> try rfl
    rename_i z
    cases z <;> rfl
 | _ =>
   cases v <;> try rfl
   rename_i t
   cases t <;> try rfl
   rename_i z
   cases z <;> rfl
theorem ZoO{s:ByteArray}{F:IV->Prop}{n:Nat}:W0 (.tr (.v (.string s))) F n=Z6 s.data.toList[n]? (ixb F):=(rfl)
def W1(k m:Nat)(q:Option Nat)(x:IV)(F:IV->Prop)(n:Nat):Prop :=
 match q,x with
 | none,.ag l=>n<m/\Z6 l[n*k]? F
 | some q,.ag l=>n<m/\n*k+q<=l.length/\F (.ag ((l.drop (n*k)).take q))
 | _,_=>False
theorem ZoP{k m:Nat}{q:Option Nat}{x i:X}:Zu C d (.jx k m q x i) ⟨lvl,env,loc,out⟩ K=Y4 (xv env i) (W1 k m q (xv env x) (JT lvl env loc out d K)):=by
 refine Yb (o:=.jx k m q x i) (T:=fun F=>Y4 (xv env i) (W1 k m q (xv env x) F)) rfl (fun Kd=>?_)
 cases q <;> simp only[ev] <;> generalize xv env i=vi <;> generalize xv env x=v
 ·cases vi with
  | tr t =>
   cases t with
   | v y =>
    cases y with
    | int kk n=>cases v <;> simp only[Y4,W1,and_false] <;> rw[Yu]
    | _=>cases v <;> rfl
   | sl es=>cases v <;> rfl
  | _=>cases v <;> rfl
 ·cases vi with
  | tr t =>
   cases t with
   | v y =>
    cases y with
    | int kk n=>cases v <;> simp only[Y4,W1,and_false]
    | _=>cases v <;> rfl
   | sl es=>cases v <;> rfl
  | _=>cases v <;> rfl
theorem ZoQ{k m n:Nat}{l:List IV}{F:IV->Prop}:W1 k m none (.ag l) F n=(n<m/\Z6 l[n*k]? F):=(rfl)
theorem ZoR{k m n q:Nat}{l:List IV}{F:IV->Prop}:W1 k m (some q) (.ag l) F n=(n<m/\n*k+q<=l.length/\F (.ag ((l.drop (n*k)).take q))):=(rfl)
end
end Go.Fd
