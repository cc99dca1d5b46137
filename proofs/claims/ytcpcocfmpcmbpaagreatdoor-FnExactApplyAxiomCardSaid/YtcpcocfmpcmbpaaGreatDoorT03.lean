/-
  FOUNDATION 38: regions that draw their order and turn nothing. Own work.
-/
import Derived.Test.YtcpcocfmpcmbpaaGreatDoorT02
import Derived.Orders
import Derived.Deep.LoopGhost
import Derived.Laws.Sem
set_option linter.all false
namespace Go.Fd
variable [Tabs]
def Z2(ρ:Nat->IV):X->IV
 | .t n=>ρ n
 | .k v=>kv v
 | .f i=>.fn i []
theorem Qk(env:List (Nat×IV)):xv env=Z2 (fun t=>lk t env):=by funext x;cases x<;>rfl
def VY(C:ZJ)(o:O)(ρ:Nat->IV)(L:Zb)(lvl key:Nat)(y:IV)(obs:List Ob):Prop :=
 ∃ mk ob,mk lvl key=y/\ob lvl key=obs/\ev C (Z2 ρ) L (fun m b=>m=mk/\b=ob) o
def Eff(C:ZJ)(o:OP)(ρ:Nat->IV)(L:Zb)(lvl:Nat)(y:IV)(obs:List Ob):Prop :=
 match o.g with
 | none=>VY C o.o ρ L lvl (keyOf o.d) y obs
 | some (j,w)=>(ρ j=iB w/\VY C o.o ρ L lvl (keyOf o.d) y obs)\/((ρ j=iB (!w)\/ρ j = .tu [])/\y = .tu []/\obs=[])
def Jy(d:Option Nat)(y:IV)(ρ:Nat->IV):Nat->IV:=fun t=>if d=some t then y else ρ t
def ZO(b:Nat)(obs:List Ob)(σ:Nat->Option Ob):Nat->Option Ob:=fun k=>if b<=k/\k<b+obs.length then obs[k-b]? else σ k
def Z8(lvl:Nat)(σ:Nat->Option Ob)(out:Zb):Zb:=fun id=>if id.1=lvl then σ id.2 else out id
abbrev Ql(b n:Nat)(σ:Nat->Option Ob):Prop:=∀ k,b<=k->k<b+n->σ k=none
theorem WY(st:St):st.sto=Z8 st.lvl (fun k=>lkO k st.loc) st.out:=rfl
theorem WZ(d:Option Nat)(y:IV)(env:List (Nat×IV)):(fun t=>lk t (ptd d y env))=Jy d y (fun t=>lk t env):=by
 funext t;unfold ptd Jy;cases d with
 | none=>rfl
 | some d =>
  simp only[Uat];rw[Uv];by_cases h:t=d
  ·rw[if_pos h,if_pos h.symm]
  ·rw[if_neg h,if_neg (fun e=>h e.symm)]
theorem Zci:∀(obs:List Ob) (b:Nat) (loc:List (Nat×Ob)),(fun k=>lkO k (addO b obs loc))=ZO b obs (fun k=>lkO k loc)
 | [],b,loc=>by funext k;simp only[addO,ZO,List.length_nil];rw[if_neg (by omega)]
 | o::r,b,loc=>by
  rw[addO,Zci r (b+1) (ptO b o loc)];funext k;simp only[ZO,List.length_cons];by_cases h1:b+1<=k/\k<b+1+r.length
  ·rw[if_pos h1,if_pos ⟨by omega,by omega⟩,show k-b=(k-(b+1))+1 from by omega];simp
  ·rw[if_neg h1,Zao];by_cases h2:k=b
   ·rw[if_pos h2,if_pos ⟨by omega,by omega⟩,h2];simp
   ·rw[if_neg h2,if_neg (by omega)]
theorem freshK_F:∀{n b:Nat} {loc:List (Nat×Ob)},freshK b loc n↔Ql b n (fun k=>lkO k loc)
 | 0,b,loc=>by simp only[freshK,Ql,true_iff];intro k h1 h2;omega
 | n+1,b,loc=>by
  simp only[freshK,freshK_F (n:=n)];constructor
  ·rintro⟨h1,h2⟩ k h3 h4
   by_cases h:k=b
   ·subst h;exact h1
   ·exact h2 k (by omega) (by omega)
  ·intro h;exact⟨h b (by omega) (by omega),fun k h1 h2=>h k (by omega) (by omega)⟩
theorem ZaE{j:Nat}{x:IV}{env:List (Nat×IV)}(h:lk j env=x):(fun t=>lk t (pt j x env))=fun t=>lk t env:=by
 funext t;rw[Uv];split
 ·rename_i ht;rw[ht,h]
 ·rfl
section
variable {C:ZJ} {st:St} {o:OP} {K:St->Prop}
structure Step1 (o:OP) (st st':St) (y:IV) (obs:List Ob):Prop where
 lvl:st'.lvl=st.lvl
 out:st'.out=st.out
 env:(fun t=>lk t st'.env)=Jy o.d y (fun t=>lk t st.env)
 loc:(fun k=>lkO k st'.loc)=ZO (keyOf o.d) obs (fun k=>lkO k st.loc)
theorem Zjy{d:Option Nat}{oo:O}{env:List (Nat×IV)}{K:St->Prop}(h:ev C (xv env) st.sto (fun mk obs=>freshK (keyOf d) st.loc (obs st.lvl (keyOf d)).length/\K { st with env:=ptd d (mk st.lvl (keyOf d)) env,loc:=addO (keyOf d) (obs st.lvl (keyOf d)) st.loc }) oo) :
  ∃ y obs,VY C oo (fun t=>lk t env) st.sto st.lvl (keyOf d) y obs/\Ql (keyOf d) obs.length (fun k=>lkO k st.loc)/\K { st with env:=ptd d y env,loc:=addO (keyOf d) obs st.loc }:=by
 obtain⟨⟨mk,ob⟩,⟨h1,h2⟩,h3⟩:=(Ze9 (C:=C) (ρ:=xv env) (L:=st.sto) oo).ex (K:=fun r:MO=>freshK (keyOf d) st.loc (r.2 st.lvl (keyOf d)).length/\K { st with env:=ptd d (r.1 st.lvl (keyOf d)) env,loc:=addO (keyOf d) (r.2 st.lvl (keyOf d)) st.loc }) h;refine⟨mk st.lvl (keyOf d),ob st.lvl (keyOf d),⟨mk,ob,rfl,rfl,?_⟩,freshK_F.1 h1,h2⟩;rw[<-Qk];exact(Ze9 (C:=C) (ρ:=xv env) (L:=st.sto) oo).mono (K:=fun s=>s=(mk,ob)) (K':=fun r:MO=>r.1=mk/\r.2=ob) (fun r hr=>by rw[hr];exact⟨rfl,rfl⟩) h3
theorem Zsd(hl:JA o.o=false)(h:Yg C o st K):∃ y obs st',K st'/\Eff C o (fun t=>lk t st.env) st.sto st.lvl y obs/\Ql (keyOf o.d) obs.length (fun k=>lkO k st.loc)/\Step1 o st st' y obs:=by
 have hnil:∀ σ:Nat->Option Ob,ZO (keyOf o.d) [] σ=σ:=fun σ=>by funext k;simp only[ZO,List.length_nil];rw[if_neg (by omega)]
 unfold Yg at h;unfold Eff;split at h
 ·rename_i hg;rw[hg];unfold ZD at h;rw[if_neg (by rw[hl];decide)] at h;obtain⟨y,obs,h1,h2,h3⟩:=Zjy h;exact⟨y,obs,_,h3,h1,h2,⟨rfl,rfl,WZ _ _ _,Zci _ _ _⟩⟩
 ·rename_i j w hg;rw[hg];dsimp only;split at h<;>try contradiction
  ·rename_i c hc;by_cases hcw:c=w
   ·subst hcw;have h:=h.1 rfl;unfold ZD at h;rw[if_neg (by rw[hl];decide)] at h;obtain⟨y,obs,h1,h2,h3⟩:=Zjy (st:={ st with env:=pt j (iB c) st.env }) h;rw[ZaE hc] at h1;exact⟨y,obs,_,h3,.inl ⟨hc,h1⟩,h2,⟨rfl,rfl,by rw[WZ];dsimp only;rw[ZaE hc],Zci _ _ _⟩⟩
   ·have hcw':c = !w:=(by cases c<;>cases w<;>simp_all);subst hcw';exact⟨.tu [],[],_,h.2 rfl,.inr ⟨.inl hc,rfl,rfl⟩,fun k h1 h2=>by simp at h2;omega,⟨rfl,rfl,by rw[WZ];rw[ZaE hc],(hnil _).symm⟩⟩
  ·rename_i hc;exact⟨.tu [],[],_,h,.inr ⟨.inr hc,rfl,rfl⟩,fun k h1 h2=>by simp at h2;omega,⟨rfl,rfl,WZ _ _ _,(hnil _).symm⟩⟩
theorem Zse(hl:JA o.o=false){y:IV}{obs:List Ob}(h:Eff C o (fun t=>lk t st.env) st.sto st.lvl y obs)(hf:Ql (keyOf o.d) obs.length (fun k=>lkO k st.loc)):Yg C o st (fun st' => Step1 o st st' y obs):=by
 have hnil:∀ σ:Nat->Option Ob,ZO (keyOf o.d) [] σ=σ:=fun σ=>by funext k;simp only[ZO,List.length_nil];rw[if_neg (by omega)]
 have back:∀(env:List (Nat×IV)),(fun t=>lk t env)=(fun t=>lk t st.env)->VY C o.o (fun t=>lk t st.env) st.sto st.lvl (keyOf o.d) y obs->ZD C o.d o.o { st with env:=env } (fun st' => Step1 o st st' y obs):=fun env he ha=>by
  obtain⟨mk,ob,rfl,rfl,ha⟩:=ha;unfold ZD;rw[if_neg (by rw[hl];decide)];rw[Qk];dsimp only;rw[he];refine(Ze9 (C:=C) (ρ:=Z2 fun t=>lk t st.env) (L:=st.sto) o.o).mono (K:=fun r:MO=>r.1=mk/\r.2=ob) (K':=fun r:MO=>freshK (keyOf o.d) st.loc (r.2 st.lvl (keyOf o.d)).length/\Step1 o st { st with env:=ptd o.d (r.1 st.lvl (keyOf o.d)) env,loc:=addO (keyOf o.d) (r.2 st.lvl (keyOf o.d)) st.loc } (mk st.lvl (keyOf o.d)) (ob st.lvl (keyOf o.d))) ?_ ha
  rintro⟨m,b⟩ ⟨rfl,rfl⟩
  exact⟨freshK_F.2 hf,⟨rfl,rfl,by rw[WZ,he],Zci _ _ _⟩⟩
 unfold Yg;unfold Eff at h;split
 ·rename_i hg;rw[hg] at h;exact back st.env rfl h
 ·rename_i j w hg;rw[hg] at h;rcases h with ⟨h1,h2⟩ | ⟨h1 | h1,rfl,rfl⟩
  ·dsimp only at h1 ⊢;rw[h1];dsimp only;exact⟨fun _=>back _ (ZaE h1) h2,fun hc=>by cases w<;>cases hc⟩
  ·dsimp only at h1 ⊢;rw[h1];dsimp only;refine⟨fun hc=>(by cases w<;>cases hc),fun _=>⟨rfl,rfl,by rw[WZ,ZaE h1],(hnil _).symm⟩⟩
  ·dsimp only at h1 ⊢;rw[h1];exact⟨rfl,rfl,WZ _ _ _,(hnil _).symm⟩
def W0:List X->List Nat
 | []=>[]
 | .t n::r=>n::W0 r
 | _::r=>W0 r
def rds(o:OP):List Nat :=
 match o.g with
 | some (j,_)=>j::W0 (rd o.o)
 | none=>W0 (rd o.o)
def UC(d:Option Nat)(o:OP):Bool :=
 match d with
 | some d=>!(rds o).contains d
 | none=>true
def Vo(p o:OP):Bool:=UC p.d o&&UC o.d p&&(match p.d,o.d with | some a,some b=>a != b | _,_=>true)
theorem ZaF{n:Nat}:∀{l:List X},X.t n∈l->n∈W0 l
 | [],h=>by cases h
 | .t m::r,h=>by
  simp only[W0];cases h with
  | head=>exact UbY
  | tail _ h=>exact Ub8 _ (ZaF h)
 | .k v::r,h=>by
  simp only[W0];cases h with
  | tail _ h=>exact ZaF h
 | .f i::r,h=>by
  simp only[W0];cases h with
  | tail _ h=>exact ZaF h
theorem Zsf{Q:Zd->Prop}(v:Value):men Q (kv v):=by
 have hkc:∀ u,men Q (kc u):=fun u=>by unfold kc;split<;>trivial
 unfold kv;split
 ·rename_i c;simp only[men]
  induction c.toList with
  | nil=>trivial
  | cons x r ih=>exact⟨hkc x,ih⟩
 ·exact hkc _
theorem VB{d:Option Nat}{y:IV}{ρ:Nat->IV}(h:UC d o=true):(∀ x∈rd o.o,Z2 (Jy d y ρ) x=Z2 ρ x)/\∀ j w,o.g=some (j,w)->Jy d y ρ j=ρ j:=by
 have key:∀ n∈rds o,Jy d y ρ n=ρ n:=fun n hn=>by
  unfold Jy;rw[if_neg]
  rintro rfl
  simp [UC,hn] at h
 refine⟨fun x hx=>?_,fun j w hg=>key j (by simp [rds,hg])⟩;cases x with
 | t n =>
  refine key n ?_;unfold rds;split
  ·exact Ub8 _ (ZaF hx)
  ·exact ZaF hx
 | k v=>rfl
 | f i=>rfl
theorem Eff.congr{ρ ρ':Nat->IV}{L L':Zb}{lvl:Nat}{y:IV}{obs:List Ob}(hr:∀ x∈rd o.o,Z2 ρ' x=Z2 ρ x)(hg:∀ j w,o.g=some (j,w)->ρ' j=ρ j)(hs:∀ x∈rd o.o,Xp L L' (Z2 ρ x))
  (h:Eff C o ρ L lvl y obs):Eff C o ρ' L' lvl y obs:=by
 have key:VY C o.o ρ L lvl (keyOf o.d) y obs->VY C o.o ρ' L' lvl (keyOf o.d) y obs:=fun⟨m0,ob,h1,h2,h3⟩=>⟨m0,ob,h1,h2,Zr6 o.o hr hs h3⟩;unfold Eff at *;split at h
 ·exact key h
 ·rename_i j w hgg;rw[hg j w hgg];exact h.imp (fun h=>⟨h.1,key h.2⟩) id
theorem Qm{lvl b:Nat}{obs:List Ob}{σ:Nat->Option Ob}{out:Zb}(hf:Ql b obs.length σ)(id:Zd)(ob:Ob)(h:Z8 lvl σ out id=some ob):Z8 lvl (ZO b obs σ) out id=some ob:=by
 unfold Z8 at *;split at h
 ·rename_i hi;rw[if_pos hi];unfold ZO;rw[if_neg]
  ·exact h
  ·rintro⟨h1,h2⟩
   rw[hf _ h1 h2] at h;cases h
 ·rename_i hi;rw[if_neg hi];exact h
def VZ(o:OP):Bool:=(match o.o with | .s0 .. => o.d.isNone | .a0 .. => true | .a1 .. => true | .c0 .. => true | .a2 .. => true | _=>false)&&o.g.isNone
def Vp(o:OP):Bool:=!JA o.o || VZ o
def JP(lvl:Nat)(id:Zd)(ob:Ob)(σ:Nat->Option Ob):Nat->Option Ob:=fun k=>if id=(lvl,k) then some ob else σ k
def Q0(lvl:Nat)(id:Zd)(ob:Ob)(out:Zb):Zb:=if id.1=lvl then out else Zo out id ob
theorem W1{lvl:Nat}{id:Zd}{ob:Ob}{σ:Nat->Option Ob}{out:Zb}:Z8 lvl (JP lvl id ob σ) (Q0 lvl id ob out)=Zo (Z8 lvl σ out) id ob:=by
 funext i;show (if i.1=lvl then (if id=(lvl,i.2) then some ob else σ i.2) else (if id.1=lvl then out else Zo out id ob) i)=if i=id then some ob else if i.1=lvl then σ i.2 else out i
 by_cases h:i.1=lvl
 ·rw[if_pos h,if_pos h];by_cases e:i=id
  ·rw[if_pos e,if_pos (by rw[<-e,<-h])]
  ·rw[if_neg e,if_neg (fun g=>e (by rw[g,<-h]))]
 ·rw[if_neg h,if_neg h];by_cases hc:id.1=lvl
  ·rw[if_pos hc,if_neg (fun e=>h (by rw[e];exact hc))]
  ·rw[if_neg hc];rfl
def QS(C:ZJ)(lvl:Nat)(o:OP)(ρ:Nat->IV)(σ:Nat->Option Ob)(out:Zb)(ρ1:Nat->IV)(σ1:Nat->Option Ob)(out1:Zb):Prop :=
 (JA o.o=false/\∃ y obs,Eff C o ρ (Z8 lvl σ out) lvl y obs/\Ql (keyOf o.d) obs.length σ/\ρ1=Jy o.d y ρ/\σ1=ZO (keyOf o.d) obs σ/\out1=out) \/
 (VZ o=true/\∃ y id ob,JG (Z2 ρ) (Z8 lvl σ out) (fun v i b=>v=y/\i=id/\b=ob) o.o/\ρ1=Jy o.d y ρ/\σ1=JP lvl id ob σ/\out1=Q0 lvl id ob out)
structure At (st:St) (lvl:Nat) (ρ:Nat->IV) (σ:Nat->Option Ob) (out:Zb):Prop where
 lvl:st.lvl=lvl
 env:(fun t=>lk t st.env)=ρ
 loc:(fun k=>lkO k st.loc)=σ
 out:st.out=out
theorem At.refl(st:St):At st st.lvl (fun t=>lk t st.env) (fun k=>lkO k st.loc) st.out:=⟨rfl,rfl,rfl,rfl⟩
theorem Zcj{id:Zd}{ob:Ob}{v:IV}{d:Option Nat}:At { Zp st id ob with env:=ptd d v st.env } st.lvl (Jy d v fun t=>lk t st.env) (JP st.lvl id ob fun k=>lkO k st.loc) (Q0 st.lvl id ob st.out):=by
 refine⟨QC _ _ _,WZ _ _ _,?_,?_⟩
 ·funext k;unfold Zp JP;by_cases h:id.1=st.lvl
  ·rw[if_pos h];dsimp only;rw[Zao];by_cases hk:k=id.2
   ·rw[if_pos hk,if_pos (by rw[hk,<-h])]
   ·rw[if_neg hk,if_neg (fun e=>hk (by rw[e]))]
  ·rw[if_neg h,if_neg (fun e=>h (by rw[e]))]
 ·unfold Zp Q0;by_cases h:id.1=st.lvl
  ·rw[if_pos h,if_pos h]
  ·rw[if_neg h,if_neg h]
theorem Q1(h:VZ o=true):o.g=none/\((∃ m p x,o.o = .s0 m p x/\o.d=none)\/∃ k x y,o.o = .a0 k x y\/o.o = .a1 k x y\/o.o = .c0 k x y\/o.o = .a2 k x y):=by
 unfold VZ at h;simp only[Uae,Option.isNone_iff_eq_none] at h;refine⟨h.2,?_⟩;have h:=h.1;split at h
 ·rename_i m p x he;exact .inl ⟨m,p,x,he,by simpa using h⟩
 ·rename_i k x y he;exact .inr ⟨k,x,y,.inl he⟩
 ·rename_i k x y he;exact .inr ⟨k,x,y,.inr (.inl he)⟩
 ·rename_i k x y he;exact .inr ⟨k,x,y,.inr (.inr (.inl he))⟩
 ·rename_i k x y he;exact .inr ⟨k,x,y,.inr (.inr (.inr he))⟩
 ·cases h
theorem ZaG(h:VZ o=true):JA o.o=true:=by
 obtain⟨_,h | h⟩:=Q1 h
 ·obtain⟨m,q,x,ho,_⟩:=h;rw[ho];rfl
 ·obtain⟨k,x,z,ho | ho | ho | ho⟩:=h<;>(rw[ho];rfl)
theorem Zjz(h:VZ o=true):Yg C o st K=JG (Z2 fun t=>lk t st.env) st.sto (fun v id ob=>K { Zp st id ob with env:=ptd o.d v st.env }) o.o:=by
 obtain⟨hg,h | h⟩:=Q1 h
 ·obtain⟨m,p,x,ho,hd⟩:=h;unfold Yg;rw[hg];dsimp only;unfold ZD;rw[ho,hd,if_pos (show JA (O.s0 m p x)=true from rfl)];simp only[ew,true_and];rw[Qk];have:∀(v:IV) (id:Zd) (ob:Ob),({ Zp st id ob with env:=ptd none v st.env }:St)=Zp st id ob:=fun v id ob=>QZ st id ob v;simp only[this]
 ·obtain⟨k,x,y,ho | ho | ho | ho⟩:=h
  ·unfold Yg;rw[hg];dsimp only;unfold ZD;rw[ho,if_pos (show JA (O.a0 k x y)=true from rfl)];simp only[ew];rw[Qk]
  ·unfold Yg;rw[hg];dsimp only;unfold ZD;rw[ho,if_pos (show JA (O.a1 k x y)=true from rfl)];simp only[ew];rw[Qk]
  ·unfold Yg;rw[hg];dsimp only;unfold ZD;rw[ho,if_pos (show JA (O.c0 k x y)=true from rfl)];simp only[ew];rw[Qk]
  ·unfold Yg;rw[hg];dsimp only;unfold ZD;rw[ho,if_pos (show JA (O.a2 k x y)=true from rfl)];simp only[ew];rw[Qk]
theorem Zsg(hq:Vp o=true)(h:Yg C o st K):∃ st' ρ1 σ1 out1,K st'/\QS C st.lvl o (fun t=>lk t st.env) (fun k=>lkO k st.loc) st.out ρ1 σ1 out1/\At st' st.lvl ρ1 σ1 out1:=by
 by_cases hl:JA o.o=false
 ·obtain⟨y,obs,st',h1,h2,h3,h4⟩:=Zsd hl h;exact⟨st',_,_,_,h1,.inl ⟨hl,y,obs,h2,h3,rfl,rfl,rfl⟩,⟨h4.lvl,h4.env,h4.loc,h4.out⟩⟩
 ·have hqq:VZ o=true:=by unfold Vp at hq;simp only[UaO,UaN] at hq;exact hq.resolve_left hl
  rw[Zjz hqq] at h;obtain⟨⟨v,id,ob⟩,h1,h2⟩:=(Zcg (ρ:=Z2 fun t=>lk t st.env) (S:=st.sto) o.o).ex (K:=fun r:IV×Zd×Ob=>K { Zp st r.2.1 r.2.2 with env:=ptd o.d r.1 st.env }) h;refine⟨_,_,_,_,h1,.inr ⟨hqq,v,id,ob,?_,rfl,rfl,rfl⟩,Zcj⟩;exact(Zcg (ρ:=Z2 fun t=>lk t st.env) (S:=st.sto) o.o).mono (K:=fun s=>s=(v,id,ob)) (K':=fun r:IV×Zd×Ob=>r.1=v/\r.2.1=id/\r.2.2=ob) (fun r hr=>by rw[hr];exact⟨rfl,rfl,rfl⟩) h2
theorem Zsh{ρ1:Nat->IV}{σ1:Nat->Option Ob}{out1:Zb}(h:QS C st.lvl o (fun t=>lk t st.env) (fun k=>lkO k st.loc) st.out ρ1 σ1 out1):Yg C o st (fun st' => At st' st.lvl ρ1 σ1 out1):=by
 rcases h with ⟨hl,y,obs,h1,h2,rfl,rfl,rfl⟩ | ⟨hq,y,id,ob,h1,rfl,rfl,rfl⟩
 ·have:=Zse (st:=st) hl h1 h2;refine(?_:Yg C o st (fun st' => Step1 o st st' y obs)->_) this;have e:(fun st' => Step1 o st st' y obs)=fun st' => At st' st.lvl (Jy o.d y fun t=>lk t st.env) (ZO (keyOf o.d) obs fun k=>lkO k st.loc) st.out:=by funext st';exact propext ⟨fun h=>⟨h.lvl,h.env,h.loc,h.out⟩,fun h=>⟨h.lvl,h.out,h.env,h.loc⟩⟩
  rw[e];exact id
 ·rw[Zjz hq];refine(Zcg (ρ:=Z2 fun t=>lk t st.env) (S:=st.sto) o.o).mono (K:=fun r:IV×Zd×Ob=>r.1=y/\r.2.1=id/\r.2.2=ob) (K':=fun r:IV×Zd×Ob=>At { Zp st r.2.1 r.2.2 with env:=ptd o.d r.1 st.env } st.lvl (Jy o.d y fun t=>lk t st.env) (JP st.lvl id ob fun k=>lkO k st.loc) (Q0 st.lvl id ob st.out)) ?_ h1
  rintro⟨v,i,b⟩ ⟨rfl,rfl,rfl⟩
  exact Zcj
def Ve(C:ZJ)(lvl:Nat):List OP->(Nat->IV)->(Nat->Option Ob)->Zb->(Nat->IV)->(Nat->Option Ob)->Zb->Prop
 | [],ρ,σ,out,ρ',σ',out' => ρ'=ρ/\σ'=σ/\out'=out
 | o::l,ρ,σ,out,ρ',σ',out' => ∃ ρ1 σ1 out1,QS C lvl o ρ σ out ρ1 σ1 out1/\Ve C lvl l ρ1 σ1 out1 ρ' σ' out'
def QD(p o:OP):Bool:=Vo p o&&((!JA p.o && !JA o.o) || (Vp p&&(lfree o.o || wfr o.o)) || ((lfree p.o || (lbx p.o&&WW o.o) || WX p.o o.o)&&VZ o) || ((!JA p.o || (WW p.o&&VZ p))&&lbx o.o))
theorem Zsi{L:Zb}(x:IV):Xp L L x:=JZ (fun _ _=>⟨fun _ h=>h,fun _ _=>JK (fun _ _ _ h=>h) _ (QX _)⟩) _ (UA _)
theorem Zck{lvl b:Nat}{obs:List Ob}{σ:Nat->Option Ob}{out:Zb}(hf:Ql b obs.length σ)(x:IV):Xp (Z8 lvl σ out) (Z8 lvl (ZO b obs σ) out) x :=
 JZ (fun id _=>⟨Qm hf id,fun cells _=>JK (fun i _=>Qm hf i) _ (QX _)⟩) _ (UA _)
theorem Eff.lfree{ρ ρ':Nat->IV}{L L':Zb}{lvl:Nat}{y:IV}{obs:List Ob}(hl:lfree o.o=true)(hr:∀ x∈rd o.o,Z2 ρ' x=Z2 ρ x)(hg:∀ j w,o.g=some (j,w)->ρ' j=ρ j)(h:Eff C o ρ L lvl y obs):Eff C o ρ' L' lvl y obs:=by
 have h1:Eff C o ρ' L lvl y obs:=h.congr hr hg fun x _=>Zsi _;have key:VY C o.o ρ' L lvl (keyOf o.d) y obs->VY C o.o ρ' L' lvl (keyOf o.d) y obs:=fun⟨m0,ob,h1,h2,h3⟩=>⟨m0,ob,h1,h2,Zr7 o.o hl h3⟩;unfold Eff at *;split at h1
 ·exact key h1
 ·rename_i j w hgg;exact h1.imp (fun h=>⟨h.1,key h.2⟩) id
theorem Eff.wfr{ρ ρ':Nat->IV}{L L':Zb}{lvl:Nat}{y:IV}{obs:List Ob}(hl:Fd.wfr o.o=true)(hr:∀ x∈rd o.o,Z2 ρ' x=Z2 ρ x)(hg:∀ j w,o.g=some (j,w)->ρ' j=ρ j)(hw:∀ x∈rd o.o,men (fun i=>∀ k,JV L i [] k->JV L' i [] k) (Z2 ρ x))(h:Eff C o ρ L lvl y obs):Eff C o ρ' L' lvl y obs:=by
 have key:VY C o.o ρ L lvl (keyOf o.d) y obs->VY C o.o ρ' L' lvl (keyOf o.d) y obs:=fun⟨m0,ob,h1,h2,h3⟩=>⟨m0,ob,h1,h2,Zr8 o.o hl hr hw h3⟩;unfold Eff at *;split at h
 ·exact key h
 ·rename_i j w hgg;rw[hg j w hgg];exact h.imp (fun h=>⟨h.1,key h.2⟩) id
theorem Eff.lbx{ρ ρ':Nat->IV}{L L':Zb}{lvl:Nat}{y:IV}{obs:List Ob}(hl:Fd.lbx o.o=true)(hr:∀ x∈rd o.o,Z2 ρ' x=Z2 ρ x)(hg:∀ j w,o.g=some (j,w)->ρ' j=ρ j)(hw:∀ x∈rd o.o,men (fun i=>∀ cells,L i=some (.bx cells)->L' i=some (.bx cells)) (Z2 ρ x))(h:Eff C o ρ L lvl y obs):Eff C o ρ' L' lvl y obs:=by
 have key:VY C o.o ρ L lvl (keyOf o.d) y obs->VY C o.o ρ' L' lvl (keyOf o.d) y obs:=fun⟨m0,ob,h1,h2,h3⟩=>⟨m0,ob,h1,h2,Zsb o.o hl hr hw h3⟩;unfold Eff at *;split at h
 ·exact key h
 ·rename_i j w hgg;rw[hg j w hgg];exact h.imp (fun h=>⟨h.1,key h.2⟩) id
theorem Eff.lbA{ρ ρ':Nat->IV}{L L':Zb}{lvl:Nat}{y:IV}{obs:List Ob}{m:Option Nat}{p:X}{q:Nat}(ho:o.o = .lb m p (some q))(hr:∀ x∈rd o.o,Z2 ρ' x=Z2 ρ x)(hg:∀ j w,o.g=some (j,w)->ρ' j=ρ j)(hw:∀ i off,Z2 ρ p = .ab i off->VU (Z2 ρ p) (Z2 ρ (.t q))->L' i=L i)(h:Eff C o ρ L lvl y obs):Eff C o ρ' L' lvl y obs:=by
 have key:VY C o.o ρ L lvl (keyOf o.d) y obs->VY C o.o ρ' L' lvl (keyOf o.d) y obs:=fun⟨m0,ob,h1,h2,h3⟩=>⟨m0,ob,h1,h2,by rw[ho] at hr h3 ⊢;exact Zsc hr hw h3⟩;unfold Eff at *;split at h
 ·exact key h
 ·rename_i j w hgg;rw[hg j w hgg];exact h.imp (fun h=>⟨h.1,key h.2⟩) id
theorem Wi{d d':Option Nat}{y y':IV}{ρ:Nat->IV}(h:(match d,d' with | some a,some b=>a != b | _,_=>true)=true):Jy d y (Jy d' y' ρ)=Jy d' y' (Jy d y ρ):=by funext t;unfold Jy;by_cases g1:d=some t<;>by_cases g2:d'=some t<;>simp only[g1,g2,if_true,if_false];rw[g1,g2] at h;simp at h
theorem W2{p o:OP}(h:Vo p o=true):UC p.d o=true/\UC o.d p=true/\(match p.d,o.d with | some a,some b=>a != b | _,_=>true)=true:=by simp only[Vo,Uae] at h;exact⟨h.1.1,h.1.2,h.2⟩
theorem ZjA{lvl:Nat}{id:Zd}{ob:Ob}{σ:Nat->Option Ob}{k:Nat}(h:JP lvl id ob σ k=none):σ k=none:=by
 unfold JP at h;split at h
 ·cases h
 ·exact h
theorem Dl{b:Nat}{obs:List Ob}{σ:Nat->Option Ob}{k:Nat}(h:ZO b obs σ k=none):σ k=none/\¬ (b<=k/\k<b+obs.length):=by
 unfold ZO at h;split at h
 ·rename_i hk;rw[Uak (by omega)] at h;cases h
 ·rename_i hk;exact⟨h,hk⟩
theorem Zfe{lvl:Nat}{p:OP}{ρ ρ1:Nat->IV}{σ σ1:Nat->Option Ob}{out out1:Zb}(h:QS C lvl p ρ σ out ρ1 σ1 out1){b n:Nat}(hf:Ql b n σ1):Ql b n σ:=fun k g1 g2=>by
 have:=hf k g1 g2;rcases h with ⟨_,y,obs,_,_,_,rfl,_⟩ | ⟨_,y,id,ob,_,_,rfl,_⟩
 ·exact(Dl this).1
 ·exact ZjA this
theorem Dm{lvl:Nat}{p:OP}{ρ ρ1:Nat->IV}{σ σ1:Nat->Option Ob}{out out1:Zb}(h:QS C lvl p ρ σ out ρ1 σ1 out1):∃ y,ρ1=Jy p.d y ρ:=by rcases h with ⟨_,y,obs,_,_,h,_⟩ | ⟨_,y,id,ob,_,h,_⟩<;>exact⟨y,h⟩
theorem Zff{lvl:Nat}(hl:lfree o.o=true):∀(l1 l2:List OP) (ρ:Nat->IV) (σ:Nat->Option Ob) (out:Zb) (ρ':Nat->IV) (σ':Nat->Option Ob) (out':Zb),(∀ p∈l1,Vo p o=true) ->
  Ve C lvl (l1++o::l2) ρ σ out ρ' σ' out'->∃ ρ1 σ1 out1,QS C lvl o ρ σ out ρ1 σ1 out1/\Ve C lvl (l1++l2) ρ1 σ1 out1 ρ' σ' out'
 | [],l2,ρ,σ,out,ρ',σ',out',_,h=>h
 | p::l1,l2,ρ,σ,out,ρ',σ',out',hi,h=>by
  obtain⟨ρp,σp,outp,hp,hr⟩:=h;obtain⟨i1,i2,i3⟩:=W2 (hi p (by simp));obtain⟨ρ1,σ1,out1,h1,h2⟩:=Zff hl l1 l2 _ _ _ _ _ _ (fun q hq=>hi q (by simp [hq])) hr;rcases h1 with ⟨hlo,y,obs,g1,g2,rfl,rfl,rfl⟩ | ⟨hq,_⟩
  ·obtain⟨yp,rfl⟩:=Dm hp;have hpo:=VB (y:=yp) (ρ:=ρ) i1;have hfo:=Zfe hp g2;have hop:=VB (o:=p) (d:=o.d) (y:=y) (ρ:=ρ) i2;refine⟨_,_,_,.inl ⟨hlo,y,obs,g1.lfree hl (fun x hx=>(hpo.1 x hx).symm) (fun j w hg=>(hpo.2 j w hg).symm),hfo,rfl,rfl,rfl⟩,?_⟩;rcases hp with ⟨hlp,yp',obp,e1,e2,e3,rfl,rfl⟩ | ⟨hqp,yp',id,ob,e1,e3,rfl,rfl⟩
   ·have hdis:∀ k,keyOf p.d<=k/\k<keyOf p.d+obp.length -> ¬ (keyOf o.d<=k/\k<keyOf o.d+obs.length):=fun k hk ho=>(Dl (g2 k ho.1 ho.2)).2 hk;refine⟨Jy p.d yp' (Jy o.d y ρ),ZO (keyOf p.d) obp (ZO (keyOf o.d) obs σ),_,.inl ⟨hlp,yp',obp,e1.congr hop.1 hop.2 (fun x _=>Zck hfo _),fun k q1 q2=>?_,rfl,rfl,rfl⟩,?_⟩
    ·unfold ZO;rw[if_neg (hdis k ⟨q1,q2⟩)];exact e2 k q1 q2
    ·have e5:ZO (keyOf p.d) obp (ZO (keyOf o.d) obs σ)=ZO (keyOf o.d) obs (ZO (keyOf p.d) obp σ):=by
      funext k;unfold ZO;by_cases q1:keyOf p.d<=k/\k<keyOf p.d+obp.length
      ·rw[if_pos q1,if_neg (hdis k q1),if_pos q1]
      ·rw[if_neg q1];by_cases q2:keyOf o.d<=k/\k<keyOf o.d+obs.length
       ·rw[if_pos q2,if_pos q2]
       ·rw[if_neg q2,if_neg q2,if_neg q1]
     rw[e5,Wi i3,<-e3];exact h2
   ·have hthere:=Zch p.o e1;refine⟨Jy p.d yp' (Jy o.d y ρ),JP lvl id ob (ZO (keyOf o.d) obs σ),Q0 lvl id ob out,.inr ⟨hqp,yp',id,ob,Zfc p.o hop.1 (fun i b hb=>Qm hfo i b hb) e1,rfl,rfl,rfl⟩,?_⟩;have e5:JP lvl id ob (ZO (keyOf o.d) obs σ)=ZO (keyOf o.d) obs (JP lvl id ob σ):=by
     funext k;unfold ZO;by_cases q2:keyOf o.d<=k/\k<keyOf o.d+obs.length
     ·have hk:=g2 k q2.1 q2.2;rw[if_pos q2];unfold JP at hk ⊢;split at hk
      ·cases hk
      ·rename_i hne;rw[if_neg hne];exact if_pos q2
     ·rw[if_neg q2];unfold JP;by_cases q3:id=(lvl,k)
      ·rw[if_pos q3,if_pos q3]
      ·rw[if_neg q3,if_neg q3];exact if_neg q2
    rw[e5,Wi i3,<-e3];exact h2
  ·have:=ZaD hl;obtain⟨_,h | h⟩:=Q1 hq
   ·obtain⟨m,q,x,ho,_⟩:=h;rw[ho] at this;cases this
   ·obtain⟨k,x,z,ho | ho | ho | ho⟩:=h<;>(rw[ho] at this;cases this)
theorem ZjB{lvl:Nat}{I:Zd->Prop}(hl:wfr o.o=true):∀(l1 l2:List OP) (ρ:Nat->IV) (σ:Nat->Option Ob) (out:Zb) (ρ':Nat->IV) (σ':Nat->Option Ob) (out':Zb),(∀ p∈l1,Vo p o=true)->(∀ x∈rd o.o,men I (Z2 ρ x))->(∀ id,I id->(Z8 lvl σ out id).isSome=true) ->
  Ve C lvl (l1++o::l2) ρ σ out ρ' σ' out'->∃ ρ1 σ1 out1,QS C lvl o ρ σ out ρ1 σ1 out1/\Ve C lvl (l1++l2) ρ1 σ1 out1 ρ' σ' out'
 | [],l2,ρ,σ,out,ρ',σ',out',_,_,_,h=>h
 | p::l1,l2,ρ,σ,out,ρ',σ',out',hi,hm,hI,h=>by
  obtain⟨ρp,σp,outp,hp,hr⟩:=h;obtain⟨i1,i2,i3⟩:=W2 (hi p (by simp));have hpo0:∀ x∈rd o.o,Z2 ρp x=Z2 ρ x:=fun x hx=>by obtain⟨yp,rfl⟩:=Dm hp;exact(VB (y:=yp) (ρ:=ρ) i1).1 x hx
  have hstep:(∀ id,I id->(Z8 lvl σp outp id).isSome=true)/\∀ id,I id->∀ k,JV (Z8 lvl σp outp) id [] k->JV (Z8 lvl σ out) id [] k:=by
   rcases hp with ⟨_,yp',obp,e1,e2,e3,rfl,rfl⟩ | ⟨hqp,yp',id,ob,e1,e3,rfl,rfl⟩
   ·have hsame:∀ id,I id->Z8 lvl (ZO (keyOf p.d) obp σ) outp id=Z8 lvl σ outp id:=fun id hid=>by obtain⟨ob,hob⟩:=Uan.1 (hI id hid);rw[Qm e2 id ob hob,hob]
    refine⟨fun id hid=>by rw[hsame id hid];exact hI id hid,fun id hid k hw=>?_⟩;unfold JV at hw ⊢;rw[hsame id hid] at hw;exact hw
   ·rw[W1];refine⟨fun i hi=>?_,fun i _ k hw=>Zsa p.o e1 i k hw⟩;unfold Zo;split
    ·rfl
    ·exact hI i hi
  obtain⟨ρ1,σ1,out1,h1,h2⟩:=ZjB hl l1 l2 _ _ _ _ _ _ (fun q hq=>hi q (by simp [hq])) (fun x hx=>by rw[hpo0 x hx];exact hm x hx) hstep.1 hr;rcases h1 with ⟨hlo,y,obs,g1,g2,rfl,rfl,rfl⟩ | ⟨hq,_⟩
  ·obtain⟨yp,rfl⟩:=Dm hp;have hpo:=VB (y:=yp) (ρ:=ρ) i1;have hfo:=Zfe hp g2;have hop:=VB (o:=p) (d:=o.d) (y:=y) (ρ:=ρ) i2;refine⟨_,_,_,.inl ⟨hlo,y,obs,g1.wfr hl (fun x hx=>(hpo.1 x hx).symm) (fun j w hg=>(hpo.2 j w hg).symm) (fun x hx=>by rw[hpo.1 x hx];exact JZ (fun i hii k hw=>hstep.2 i hii k hw) _ (hm x hx)),hfo,rfl,rfl,rfl⟩,?_⟩;rcases hp with ⟨hlp,yp',obp,e1,e2,e3,rfl,rfl⟩ | ⟨hqp,yp',id,ob,e1,e3,rfl,rfl⟩
   ·have hdis:∀ k,keyOf p.d<=k/\k<keyOf p.d+obp.length -> ¬ (keyOf o.d<=k/\k<keyOf o.d+obs.length):=fun k hk ho=>(Dl (g2 k ho.1 ho.2)).2 hk;refine⟨Jy p.d yp' (Jy o.d y ρ),ZO (keyOf p.d) obp (ZO (keyOf o.d) obs σ),_,.inl ⟨hlp,yp',obp,e1.congr hop.1 hop.2 (fun x _=>Zck hfo _),fun k q1 q2=>?_,rfl,rfl,rfl⟩,?_⟩
    ·unfold ZO;rw[if_neg (hdis k ⟨q1,q2⟩)];exact e2 k q1 q2
    ·have e5:ZO (keyOf p.d) obp (ZO (keyOf o.d) obs σ)=ZO (keyOf o.d) obs (ZO (keyOf p.d) obp σ):=by
      funext k;unfold ZO;by_cases q1:keyOf p.d<=k/\k<keyOf p.d+obp.length
      ·rw[if_pos q1,if_neg (hdis k q1),if_pos q1]
      ·rw[if_neg q1];by_cases q2:keyOf o.d<=k/\k<keyOf o.d+obs.length
       ·rw[if_pos q2,if_pos q2]
       ·rw[if_neg q2,if_neg q2,if_neg q1]
     rw[e5,Wi i3,<-e3];exact h2
   ·have hthere:=Zch p.o e1;refine⟨Jy p.d yp' (Jy o.d y ρ),JP lvl id ob (ZO (keyOf o.d) obs σ),Q0 lvl id ob out,.inr ⟨hqp,yp',id,ob,Zfc p.o hop.1 (fun i b hb=>Qm hfo i b hb) e1,rfl,rfl,rfl⟩,?_⟩;have e5:JP lvl id ob (ZO (keyOf o.d) obs σ)=ZO (keyOf o.d) obs (JP lvl id ob σ):=by
     funext k;unfold ZO;by_cases q2:keyOf o.d<=k/\k<keyOf o.d+obs.length
     ·have hk:=g2 k q2.1 q2.2;rw[if_pos q2];unfold JP at hk ⊢;split at hk
      ·cases hk
      ·rename_i hne;rw[if_neg hne];exact if_pos q2
     ·rw[if_neg q2];unfold JP;by_cases q3:id=(lvl,k)
      ·rw[if_pos q3,if_pos q3]
      ·rw[if_neg q3,if_neg q3];exact if_neg q2
    rw[e5,Wi i3,<-e3];exact h2
  ·have:=Zjw hl;obtain⟨_,h | h⟩:=Q1 hq
   ·obtain⟨m,q,x,ho,_⟩:=h;rw[ho] at this;cases this
   ·obtain⟨k,x,z,ho | ho | ho | ho⟩:=h<;>(rw[ho] at this;cases this)
theorem Zfg{lvl:Nat}{I:Zd->Prop}(hl:lbx o.o=true):∀(l1 l2:List OP) (ρ:Nat->IV) (σ:Nat->Option Ob) (out:Zb) (ρ':Nat->IV) (σ':Nat->Option Ob) (out':Zb),(∀ p∈l1,Vo p o=true/\(JA p.o=false\/(WW p.o=true/\VZ p=true)))->(∀ x∈rd o.o,men I (Z2 ρ x))->(∀ id,I id->(Z8 lvl σ out id).isSome=true) ->
  Ve C lvl (l1++o::l2) ρ σ out ρ' σ' out'->∃ ρ1 σ1 out1,QS C lvl o ρ σ out ρ1 σ1 out1/\Ve C lvl (l1++l2) ρ1 σ1 out1 ρ' σ' out'
 | [],l2,ρ,σ,out,ρ',σ',out',_,_,_,h=>h
 | p::l1,l2,ρ,σ,out,ρ',σ',out',hi,hm,hI,h=>by
  obtain⟨ρp,σp,outp,hp,hr⟩:=h;obtain⟨hi0,hpq⟩:=hi p (by simp);obtain⟨i1,i2,i3⟩:=W2 hi0;have hpo0:∀ x∈rd o.o,Z2 ρp x=Z2 ρ x:=fun x hx=>by obtain⟨yp,rfl⟩:=Dm hp;exact(VB (y:=yp) (ρ:=ρ) i1).1 x hx
  have hstep:(∀ id,I id->(Z8 lvl σp outp id).isSome=true)/\∀ id,I id->∀ cells,Z8 lvl σp outp id=some (.bx cells)->Z8 lvl σ out id=some (.bx cells):=by
   rcases hp with ⟨_,yp',obp,e1,e2,e3,rfl,rfl⟩ | ⟨hqp,yp',id,ob,e1,e3,rfl,rfl⟩
   ·have hsame:∀ id,I id->Z8 lvl (ZO (keyOf p.d) obp σ) outp id=Z8 lvl σ outp id:=fun id hid=>by obtain⟨ob,hob⟩:=Uan.1 (hI id hid);rw[Qm e2 id ob hob,hob]
    refine⟨fun id hid=>by rw[hsame id hid];exact hI id hid,fun id hid k hw=>?_⟩;rw[hsame id hid] at hw;exact hw
   ·rw[W1];refine⟨fun i hi=>?_,fun i _ k hw=>(Zfd p.o (hpq.elim (fun g=>by rw[ZaG hqp] at g;cases g) (fun g=>g.1)) e1 i k).1 hw⟩;unfold Zo;split
    ·rfl
    ·exact hI i hi
  obtain⟨ρ1,σ1,out1,h1,h2⟩:=Zfg hl l1 l2 _ _ _ _ _ _ (fun q hq=>hi q (by simp [hq])) (fun x hx=>by rw[hpo0 x hx];exact hm x hx) hstep.1 hr;rcases h1 with ⟨hlo,y,obs,g1,g2,rfl,rfl,rfl⟩ | ⟨hq,_⟩
  ·obtain⟨yp,rfl⟩:=Dm hp;have hpo:=VB (y:=yp) (ρ:=ρ) i1;have hfo:=Zfe hp g2;have hop:=VB (o:=p) (d:=o.d) (y:=y) (ρ:=ρ) i2;refine⟨_,_,_,.inl ⟨hlo,y,obs,g1.lbx hl (fun x hx=>(hpo.1 x hx).symm) (fun j w hg=>(hpo.2 j w hg).symm) (fun x hx=>by rw[hpo.1 x hx];exact JZ (fun i hii k hw=>hstep.2 i hii k hw) _ (hm x hx)),hfo,rfl,rfl,rfl⟩,?_⟩;rcases hp with ⟨hlp,yp',obp,e1,e2,e3,rfl,rfl⟩ | ⟨hqp,yp',id,ob,e1,e3,rfl,rfl⟩
   ·have hdis:∀ k,keyOf p.d<=k/\k<keyOf p.d+obp.length -> ¬ (keyOf o.d<=k/\k<keyOf o.d+obs.length):=fun k hk ho=>(Dl (g2 k ho.1 ho.2)).2 hk;refine⟨Jy p.d yp' (Jy o.d y ρ),ZO (keyOf p.d) obp (ZO (keyOf o.d) obs σ),_,.inl ⟨hlp,yp',obp,e1.congr hop.1 hop.2 (fun x _=>Zck hfo _),fun k q1 q2=>?_,rfl,rfl,rfl⟩,?_⟩
    ·unfold ZO;rw[if_neg (hdis k ⟨q1,q2⟩)];exact e2 k q1 q2
    ·have e5:ZO (keyOf p.d) obp (ZO (keyOf o.d) obs σ)=ZO (keyOf o.d) obs (ZO (keyOf p.d) obp σ):=by
      funext k;unfold ZO;by_cases q1:keyOf p.d<=k/\k<keyOf p.d+obp.length
      ·rw[if_pos q1,if_neg (hdis k q1),if_pos q1]
      ·rw[if_neg q1];by_cases q2:keyOf o.d<=k/\k<keyOf o.d+obs.length
       ·rw[if_pos q2,if_pos q2]
       ·rw[if_neg q2,if_neg q2,if_neg q1]
     rw[e5,Wi i3,<-e3];exact h2
   ·have hthere:=Zch p.o e1;refine⟨Jy p.d yp' (Jy o.d y ρ),JP lvl id ob (ZO (keyOf o.d) obs σ),Q0 lvl id ob out,.inr ⟨hqp,yp',id,ob,Zfc p.o hop.1 (fun i b hb=>Qm hfo i b hb) e1,rfl,rfl,rfl⟩,?_⟩;have e5:JP lvl id ob (ZO (keyOf o.d) obs σ)=ZO (keyOf o.d) obs (JP lvl id ob σ):=by
     funext k;unfold ZO;by_cases q2:keyOf o.d<=k/\k<keyOf o.d+obs.length
     ·have hk:=g2 k q2.1 q2.2;rw[if_pos q2];unfold JP at hk ⊢;split at hk
      ·cases hk
      ·rename_i hne;rw[if_neg hne];exact if_pos q2
     ·rw[if_neg q2];unfold JP;by_cases q3:id=(lvl,k)
      ·rw[if_pos q3,if_pos q3]
      ·rw[if_neg q3,if_neg q3];exact if_neg q2
    rw[e5,Wi i3,<-e3];exact h2
  ·have:=UB hl;obtain⟨_,h | h⟩:=Q1 hq
   ·obtain⟨m,q,x,ho,_⟩:=h;rw[ho] at this;cases this
   ·obtain⟨k,x,z,ho | ho | ho | ho⟩:=h<;>(rw[ho] at this;cases this)
theorem Zfh{a b:O}(h:WX a b=true):JA a=false:=by obtain⟨_,_,_,_,_,rfl,_⟩:=Zjx h;rfl
theorem Zsj{ρ:X->IV}{S:Zb}{v:IV}{id i:Zd}{ob:Ob}{m q off:Nat}{x p:X}(h:JG ρ S (fun v' id' ob' => v'=v/\id'=id/\ob'=ob) (.s0 m (.t q) x))(hi:ρ p = .ab i off)(ha:VU (ρ p) (ρ (.t q))):Zo S id ob i=S i:=by
 rw[hi] at ha;simp only[JG] at h;split at h<;>try contradiction
 generalize ρ (.t q)=y at h ha;cases y<;>try exact ha.elim
 rename_i j off2;have hne:i≠j:=ha;replace h:=h.2;simp only at h;split at h<;>try contradiction
 have:j=id:=h.2.2.2.1;unfold Zo;rw[if_neg (by rw[<-this];exact hne)]
theorem ZjC{lvl:Nat}{I:Zd->Prop}(hq:VZ o=true):∀(l1 l2:List OP) (ρ:Nat->IV) (σ:Nat->Option Ob) (out:Zb) (ρ':Nat->IV) (σ':Nat->Option Ob) (out':Zb),(∀ p∈l1,Vo p o=true/\(lfree p.o=true\/(lbx p.o=true/\WW o.o=true)\/WX p.o o.o=true))->(∀ x∈rd o.o,men I (Z2 ρ x))->(∀ id,I id->(Z8 lvl σ out id).isSome=true) ->
  Ve C lvl (l1++o::l2) ρ σ out ρ' σ' out'->∃ ρ1 σ1 out1,QS C lvl o ρ σ out ρ1 σ1 out1/\Ve C lvl (l1++l2) ρ1 σ1 out1 ρ' σ' out'
 | [],l2,ρ,σ,out,ρ',σ',out',_,_,_,h=>h
 | p::l1,l2,ρ,σ,out,ρ',σ',out',hi,hm,hI,h=>by
  obtain⟨ρp,σp,outp,hp,hr⟩:=h;obtain⟨hi0,hn⟩:=hi p (by simp);obtain⟨i1,i2,i3⟩:=W2 hi0;have hlp:JA p.o=false:=hn.elim ZaD fun g=>g.elim (fun g=>UB g.1) Zfh;have hlq:JA o.o=true:=by
   obtain⟨_,h | h⟩:=Q1 hq
   ·obtain⟨m,q,x,ho,_⟩:=h;rw[ho];rfl
   ·obtain⟨k,x,z,ho | ho | ho | ho⟩:=h<;>(rw[ho];rfl)
  rcases hp with ⟨_,yp,obp,e1,e2,rfl,rfl,rfl⟩ | ⟨hqp,_⟩
  ·have hpo:=VB (y:=yp) (ρ:=ρ) i1;have hsame:∀ id,I id->Z8 lvl (ZO (keyOf p.d) obp σ) outp id=Z8 lvl σ outp id:=fun id hid=>by obtain⟨ob,hob⟩:=Uan.1 (hI id hid);rw[Qm e2 id ob hob,hob]
   obtain⟨ρ1,σ1,out1,h1,h2⟩:=ZjC hq l1 l2 _ _ _ _ _ _ (fun q hq=>hi q (by simp [hq])) (fun x hx=>by rw[hpo.1 x hx];exact hm x hx) (fun id hid=>by rw[hsame id hid];exact hI id hid) hr;rcases h1 with ⟨hlo,_⟩ | ⟨_,y,id,ob,g1,rfl,rfl,rfl⟩
   ·rw[hlq] at hlo;cases hlo
   ·have hop:=VB (o:=p) (d:=o.d) (y:=y) (ρ:=ρ) i2;have gB:=Zr9 (S':=Z8 lvl σ outp) o.o (fun x hx=>(hpo.1 x hx).symm) (fun x hx=>by rw[hpo.1 x hx];exact JZ (fun i hid ob hob=>by rw[<-hsame i hid];exact hob) _ (hm x hx)) g1;have hthere:=Zch o.o gB;have hout:∀ k,keyOf p.d<=k->k<keyOf p.d+obp.length->id≠(lvl,k):=fun k q1 q2 e=>by have hk:=e2 k q1 q2;rw[e] at hthere;have:Z8 lvl σ outp (lvl,k)=σ k:=if_pos rfl;rw[this,hk] at hthere;cases hthere
    refine⟨_,_,_,.inr ⟨hq,y,id,ob,gB,rfl,rfl,rfl⟩,Jy p.d yp (Jy o.d y ρ),ZO (keyOf p.d) obp (JP lvl id ob σ),_,.inl ⟨hlp,yp,obp,(hn.elim (fun g=>e1.lfree g hop.1 hop.2) fun g=>g.elim (fun g=>e1.lbx g.1 hop.1 hop.2 fun x _=>JZ (fun i _ cells hc=>by rw[W1];exact(Zfd o.o g.2 gB i cells).2 hc) _ (UA _)) fun g=>by obtain⟨_,_,q,_,_,g1,g2⟩:=Zjx g;exact e1.lbA g1 hop.1 hop.2 fun i off hi ha=>by rw[W1];exact Zsj (by rw[<-g2];exact gB) hi ha),fun k q1 q2=>?_,rfl,rfl,rfl⟩,?_⟩
    ·unfold JP;rw[if_neg (hout k q1 q2)];exact e2 k q1 q2
    ·have e5:ZO (keyOf p.d) obp (JP lvl id ob σ)=JP lvl id ob (ZO (keyOf p.d) obp σ):=by
      funext k;unfold ZO;by_cases q2:keyOf p.d<=k/\k<keyOf p.d+obp.length
      ·rw[if_pos q2];unfold JP;rw[if_neg (hout k q2.1 q2.2)];exact(if_pos q2).symm
      ·rw[if_neg q2];unfold JP;by_cases q3:id=(lvl,k)
       ·rw[if_pos q3,if_pos q3]
       ·rw[if_neg q3,if_neg q3];exact(if_neg q2).symm
     rw[e5,Wi i3];exact h2
  ·obtain⟨_,h | h⟩:=Q1 hqp
   ·obtain⟨m,q,x,ho,_⟩:=h;rw[ho] at hlp;cases hlp
   ·obtain⟨k,x,z,ho | ho | ho | ho⟩:=h<;>(rw[ho] at hlp;cases hlp)
theorem ZjD{lvl:Nat}{I:Zd->Prop}(hlo:JA o.o=false):∀(l1 l2:List OP) (ρ:Nat->IV) (σ:Nat->Option Ob) (out:Zb) (ρ':Nat->IV) (σ':Nat->Option Ob) (out':Zb),(∀ p∈l1,Vo p o=true/\JA p.o=false)->(∀ x∈rd o.o,men I (Z2 ρ x))->(∀ id,I id->(Z8 lvl σ out id).isSome=true)->(∀ id cells,I id->Z8 lvl σ out id=some (.bx cells)->Zc I cells) ->
  Ve C lvl (l1++o::l2) ρ σ out ρ' σ' out'->∃ ρ1 σ1 out1,QS C lvl o ρ σ out ρ1 σ1 out1/\Ve C lvl (l1++l2) ρ1 σ1 out1 ρ' σ' out'
 | [],l2,ρ,σ,out,ρ',σ',out',_,_,_,_,h=>h
 | p::l1,l2,ρ,σ,out,ρ',σ',out',hi,hm,hI,hcl,h=>by
  obtain⟨ρp,σp,outp,hp,hr⟩:=h;obtain⟨hi0,hlp⟩:=hi p (by simp);obtain⟨i1,i2,i3⟩:=W2 hi0;rcases hp with ⟨_,yp,obp,e1,e2,rfl,rfl,rfl⟩ | ⟨hqp,_⟩
  ·have hpo:=VB (y:=yp) (ρ:=ρ) i1;have hsame:∀ id,I id->Z8 lvl (ZO (keyOf p.d) obp σ) out' id=Z8 lvl (ZO (keyOf p.d) obp σ) out' id:=fun _ _=>rfl;clear hsame;have hsame:∀ id,I id->Z8 lvl (ZO (keyOf p.d) obp σ) outp id=Z8 lvl σ outp id:=fun id hid=>by obtain⟨ob,hob⟩:=Uan.1 (hI id hid);rw[Qm e2 id ob hob,hob]
   obtain⟨ρ1,σ1,out1,h1,h2⟩:=ZjD hlo l1 l2 _ _ _ _ _ _ (fun q hq=>hi q (by simp [hq])) (fun x hx=>by
    rw[hpo.1 x hx];exact hm x hx) (fun id hid=>by rw[hsame id hid];exact hI id hid) (fun id cells hid hc=>hcl id cells hid (by rw[<-hsame id hid];exact hc)) hr
   rcases h1 with ⟨_,y,obs,g1,g2,rfl,rfl,rfl⟩ | ⟨hq,_⟩
   ·have hfo:Ql (keyOf o.d) obs.length σ:=fun k q1 q2=>(Dl (g2 k q1 q2)).1;have hdis:∀ k,keyOf p.d<=k/\k<keyOf p.d+obp.length -> ¬ (keyOf o.d<=k/\k<keyOf o.d+obs.length):=fun k hk ho=>(Dl (g2 k ho.1 ho.2)).2 hk;have hop:=VB (o:=p) (d:=o.d) (y:=y) (ρ:=ρ) i2;refine⟨_,_,_,.inl ⟨hlo,y,obs,g1.congr (fun x hx=>(hpo.1 x hx).symm) (fun j w hg=>(hpo.2 j w hg).symm) (fun x hx=>?_),hfo,rfl,rfl,rfl⟩,Jy p.d yp (Jy o.d y ρ),ZO (keyOf p.d) obp (ZO (keyOf o.d) obs σ),_,.inl ⟨hlp,yp,obp,e1.congr hop.1 hop.2 (fun x _=>Zck hfo _),fun k q1 q2=>?_,rfl,rfl,rfl⟩,?_⟩
    ·rw[hpo.1 x hx];have hone:∀ id,I id->Zcb (Z8 lvl (ZO (keyOf p.d) obp σ) out1) (Z8 lvl σ out1) id:=fun id hid ob hob=>by rw[<-hsame id hid];exact hob
     exact JZ (fun id hid=>⟨hone id hid,fun cells hc=>JK hone _ (hcl id cells hid (by rw[<-hsame id hid];exact hc))⟩) _ (hm x hx)
    ·unfold ZO;rw[if_neg (hdis k ⟨q1,q2⟩)];exact e2 k q1 q2
    ·have e5:ZO (keyOf p.d) obp (ZO (keyOf o.d) obs σ)=ZO (keyOf o.d) obs (ZO (keyOf p.d) obp σ):=by
      funext k;unfold ZO;by_cases q1:keyOf p.d<=k/\k<keyOf p.d+obp.length
      ·rw[if_pos q1,if_neg (hdis k q1),if_pos q1]
      ·rw[if_neg q1];by_cases q2:keyOf o.d<=k/\k<keyOf o.d+obs.length
       ·rw[if_pos q2,if_pos q2]
       ·rw[if_neg q2,if_neg q2,if_neg q1]
     rw[e5,Wi i3];exact h2
   ·obtain⟨_,h | h⟩:=Q1 hq
    ·obtain⟨m,q,x,ho,_⟩:=h;rw[ho] at hlo;cases hlo
    ·obtain⟨k,x,z,ho | ho | ho | ho⟩:=h<;>(rw[ho] at hlo;cases hlo)
  ·obtain⟨_,h | h⟩:=Q1 hqp
   ·obtain⟨m,q,x,ho,_⟩:=h;rw[ho] at hlp;cases hlp
   ·obtain⟨k,x,z,ho | ho | ho | ho⟩:=h<;>(rw[ho] at hlp;cases hlp)
theorem Zsk{lvl:Nat}{I:Zd->Prop}{l1 l2:List OP}{ρ:Nat->IV}{σ:Nat->Option Ob}{out:Zb}{ρ':Nat->IV}{σ':Nat->Option Ob}{out':Zb}(hq:Vp o=true)(hi:∀ p∈l1,QD p o=true)(hm:∀ x,men I (Z2 ρ x))(hI:∀ id,I id->(Z8 lvl σ out id).isSome=true)(hcl:∀ id cells,I id->Z8 lvl σ out id=some (.bx cells)->Zc I cells)
  (h:Ve C lvl (l1++o::l2) ρ σ out ρ' σ' out'):∃ ρ1 σ1 out1,QS C lvl o ρ σ out ρ1 σ1 out1/\Ve C lvl (l1++l2) ρ1 σ1 out1 ρ' σ' out':=by
 have hind:∀ p∈l1,Vo p o=true:=fun p hp=>by have:=hi p hp;simp only[QD,Uae] at this;exact this.1
 by_cases hl:lfree o.o=true
 ·exact Zff hl l1 l2 _ _ _ _ _ _ hind h
 ·by_cases hw:wfr o.o=true
  ·exact ZjB hw l1 l2 _ _ _ _ _ _ hind (fun x _=>hm x) hI h
  by_cases hb:lbx o.o=true
  ·refine Zfg hb l1 l2 _ _ _ _ _ _ (fun p hp=>⟨hind p hp,?_⟩) (fun x _=>hm x) hI h;have:=hi p hp;have hlb:=UB hb;simp only[QD,Uae,UaO,UaN] at this;rcases this.2 with ((h | h) | h) | h
   ·exact .inl h.1
   ·exact absurd h.2 (by simp [hl,hw])
   ·have:=ZaG h.2;rw[hlb] at this;cases this
   ·exact h.1
  by_cases hlo:JA o.o=false
  ·refine ZjD hlo l1 l2 _ _ _ _ _ _ (fun p hp=>⟨hind p hp,?_⟩) (fun x _=>hm x) hI hcl h;have:=hi p hp;simp only[QD,Uae,UaO,UaN] at this;rcases this.2 with ((h | h) | h) | h
   ·exact h.1
   ·exact absurd h.2 (by simp [hl,hw])
   ·exact h.1.elim (fun g=>g.elim ZaD fun g=>UB g.1) Zfh
   ·exact absurd h.2 hb
  ·have hqq:VZ o=true:=(by unfold Vp at hq;simp only[UaO,UaN] at hq;exact hq.resolve_left hlo);refine ZjC hqq l1 l2 _ _ _ _ _ _ (fun p hp=>⟨hind p hp,?_⟩) (fun x _=>hm x) hI h;have:=hi p hp;simp only[QD,Uae,UaO,UaN] at this;rcases this.2 with ((h | h) | h) | h
   ·exact absurd h.2 hlo
   ·exact absurd h.2 (by simp [hl,hw])
   ·exact or_assoc.1 h.1
   ·exact absurd h.2 hb
end
end Go.Fd
namespace Go.Fd
variable [Tabs]
section
variable {C:ZJ} {st:St} {o p:OP} {K:St->Prop}
def Yi(o:OP):Bool:=(match o.o with | .a4 .. => true | _=>false)&&o.g.isNone
theorem ZaH(h:Yi o=true):o.g=none/\∃ k x y,o.o = .a4 k x y:=by
 unfold Yi at h;simp only[Uae,Option.isNone_iff_eq_none] at h;refine⟨h.2,?_⟩;have h:=h.1;split at h
 ·rename_i k x y he;exact⟨k,x,y,he⟩
 ·cases h
theorem Zfi(h:Yi o=true):JA o.o=true:=by obtain⟨_,k,x,y,ho⟩:=ZaH h;rw[ho];rfl
def kl(id:Zd)(σ:Nat->Option Ob):Nat->Option Ob:=fun k=>(if k=id.2 then none else σ k).map (scrOb id)
theorem Wj{id:Zd}{σ:Nat->Option Ob}{k:Nat}(h:k≠id.2):kl id σ k=(σ k).map (scrOb id):=by unfold kl;rw[if_neg h]
theorem Dn{id:Zd}:(fun t=>lk t (Zw id st).env)=fun t=>scr id (lk t st.env):=funext fun t=>Dd id t _
theorem UD{id:Zd}:(fun k=>lkO k (Zw id st).loc)=kl id (fun k=>lkO k st.loc):=by funext k;unfold Zw kl;dsimp only;rw[Zer,ZbN]
theorem ZjE(id:Zd)(v:Value):scr id (kc v)=kc v:=by unfold kc;split<;>rfl
theorem Zsl(id:Zd)(v:Value):scr id (kv v)=kv v:=by
 unfold kv;split
 ·rename_i c;simp only[scr];congr 1
  induction c.toList with
  | nil=>rfl
  | cons x r ih=>simp only[Uah,scrs,ZjE,ih]
 ·exact ZjE id _
theorem Do{ρ ρ':Nat->IV}{id:Zd}(h:∀ t,ρ' t=scr id (ρ t))(x:X):Z2 ρ' x=scr id (Z2 ρ x):=by
 cases x with
 | t n=>exact h n
 | k v=>exact(Zsl id v).symm
 | f i=>rfl
structure M4 (k:Nat) (x y:X) (kd lvl:Nat) (ρ:X->IV) (L:Zb) (v:IV) (id id2 idr:Zd) (ob:Ob):Prop where
 ex:∃(len s n s2 hw2 k2 ver2 hw ver:Nat) (zs es:Row) (u2 u:Bool),ρ x = .hd id [] 0 len none s/\ρ y = .sv id2/\L id2=some (.bx [.hd idr [] 0 n none s2])/\L idr=some (.ar k2 zs u2 hw2 ver2)/\L id=some (.ar k es u hw ver) /\
  s2=hw2/\n=zs.length/\s=hw/\len=es.length/\len+1<=bigN/\k=1/\v = .hd id [] 0 (len+1) none (max hw (len+1))/\ob = .ar k (es++[[.sl zs]]) (u&&u2) (max hw (len+1)) ver
 l1:id.1=lvl
 l2:id2.1=lvl
 l3:idr.1=lvl
 k1:id.2<kd
 k2:id2.2<kd
 k3:idr.2<kd
 n1:id≠id2
 n2:id≠idr
theorem M4.n3{k:Nat}{x y:X}{kd lvl:Nat}{ρ:X->IV}{L:Zb}{v:IV}{id id2 idr:Zd}{ob:Ob}(h:M4 k x y kd lvl ρ L v id id2 idr ob):id2≠idr:=fun e=>by obtain⟨_,_,_,_,_,_,_,_,_,_,_,_,_,_,_,h3,h4,_⟩:=h.ex;rw[e,h4] at h3;cases h3
theorem ZaI{a b:Zd}{l:Nat}(h1:a.1=l)(h2:b.1=l)(h:a≠b):a.2≠b.2:=fun e=>h (Prod.ext (h1.trans h2.symm) e)
theorem ZjF{id i:Zd}{k hw ver:Nat}{es:Row}{u:Bool}(h1:i.1=st.lvl)(h2:id.1=st.lvl)(hne:i≠id)(h:st.sto i=some (.ar k es u hw ver)):(Zw id st).sto i=some (.ar k es u hw ver):=by rw[WY] at h ⊢;unfold Z8 at h ⊢;rw[if_pos (show i.1=(Zw id st).lvl from h1),UD,Wj (ZaI h1 h2 hne)];rw[if_pos h1] at h;have h':lkO i.2 st.loc=_:=h;rw[h'];rfl
theorem Zsm{k:Nat}{x y:X}{d:Option Nat}(h1:Xf st.lvl (keyOf d) st.sto (xv st.env x) (xv st.env y))(h2:X1 d k x y st K) :
  ∃ v id id2 idr ob,M4 k x y (keyOf d) st.lvl (xv st.env) st.sto v id id2 idr ob/\K { Zp (Zw id2 (Zw idr st)) id ob with env:=ptd d v (Zw id2 (Zw idr st)).env }:=by
 unfold Xf at h1;split at h1<;>try contradiction
 rename_i id p0 off0 len cap0 s hx;split at h1<;>try contradiction
 rename_i id2 hy;obtain⟨l1,k1,l2,k2,n1,h1⟩:=h1;unfold U7 at h1;split at h1<;>try contradiction
 rename_i idr p2 off2 n cap2 s2 hid2;obtain⟨l3,k3,n2⟩:=h1;unfold X1 at h2;simp only[hy,hid2] at h2;obtain⟨_,hk,h2⟩:=h2;have hk1:k=1:=hk.symm;simp only[Y3] at h2;unfold Xe at h2;split at h2;rotate_left
 ·simp [totr] at h2
 rename_i idr' n' s2' he;simp only[IV.hd.injEq] at he;obtain⟨rfl,rfl,rfl,rfl,rfl,rfl⟩:=he;obtain⟨_,h2⟩:=h2;split at h2<;>try contradiction
 rename_i kk zs u2 hw2 ver2 hidr;obtain⟨e1,e2,h2⟩:=h2;unfold Js at h2;obtain⟨_,h2⟩:=h2;have hxe:xv (Zw id2 (Zw idr st)).env x=scr id2 (scr idr (xv st.env x)):=by rw[Qk,Qk,Dn];rw[Do (ρ':=fun t=>scr id2 (lk t (Zw idr st).env)) (ρ:=fun t=>lk t (Zw idr st).env) (fun _=>rfl),Dn,Do (ρ':=fun t=>scr idr (lk t st.env)) (ρ:=fun t=>lk t st.env) (fun _=>rfl)]
 have hxe2:xv (Zw id2 (Zw idr st)).env x = .hd id p0 off0 len cap0 s:=by rw[hxe,hx];simp only[scr];rw[if_neg n2];simp only[scr];rw[if_neg n1]
 rw[hxe2] at h2;split at h2<;>try contradiction
 rename_i id' len' s' he;simp only[IV.hd.injEq] at he;obtain⟨rfl,rfl,rfl,rfl,rfl,rfl⟩:=he;split at h2<;>try contradiction
 rename_i k' es u hw ver hs;obtain⟨q1,q2,q3,q4,h2⟩:=h2;have hsid:st.sto id=some (.ar k' es u hw ver):=by
  have g1:id.1=(Zw idr st).lvl:=l1;rw[WY] at hs ⊢;unfold Z8 at hs ⊢;rw[if_pos (show id.1=(Zw id2 (Zw idr st)).lvl from l1),UD,UD,Wj (ZaI l1 l2 n1),Wj (ZaI l1 l3 n2)] at hs;rw[if_pos l1];cases e:lkO id.2 st.loc with
  | none=>rw[e] at hs;cases hs
  | some b =>
   rw[e] at hs;cases b with
   | bx c=>cases hs
   | mp l=>cases hs
   | ar a1 a2 a3 a4 a5 =>
    simp [scrOb] at hs;obtain⟨rfl,rfl,rfl,rfl,rfl⟩:=hs;exact e
 refine⟨_,id,id2,idr,_,⟨⟨len,s,n,s2,hw2,kk,ver2,hw,ver,zs,es,u2,u,hx,hy,hid2,hidr,by rw[hsid,q1],e1,e2,q2,q3,q4,hk1,rfl,rfl⟩,l1,l2,l3,k1,k2,k3,n1,n2⟩,?_⟩;rw[UbN] at h2;exact h2
theorem Zsn{k:Nat}{x y:X}{d:Option Nat}{v:IV}{id id2 idr:Zd}{ob:Ob}(m:M4 k x y (keyOf d) st.lvl (xv st.env) st.sto v id id2 idr ob)(hk:K { Zp (Zw id2 (Zw idr st)) id ob with env:=ptd d v (Zw id2 (Zw idr st)).env }) :
  Xf st.lvl (keyOf d) st.sto (xv st.env x) (xv st.env y)/\X1 d k x y st K:=by
 have hn3:=m.n3;obtain⟨len,s,n,s2,hw2,k2,ver2,hw,ver,zs,es,u2,u,hx,hy,hid2,hidr,hid,e1,e2,e3,e4,e5,e6,rfl,rfl⟩:=m.ex;constructor
 ·unfold Xf;simp only[hx,hy,hid2,U7];exact⟨m.l1,m.k1,m.l2,m.k2,m.n1,m.l3,m.k3,m.n2⟩
 ·unfold X1;simp only[hy,hid2,Y3,Xe,hidr];refine⟨m.l2,by rw[e6];rfl,m.l3,e1,e2,?_⟩;unfold Js;have hxe2:xv (Zw id2 (Zw idr st)).env x = .hd id [] 0 len none s:=by rw[Qk,Dn];rw[Do (ρ':=fun t=>scr id2 (lk t (Zw idr st).env)) (ρ:=fun t=>lk t (Zw idr st).env) (fun _=>rfl),Dn,Do (ρ':=fun t=>scr idr (lk t st.env)) (ρ:=fun t=>lk t st.env) (fun _=>rfl),<-Qk,hx];simp only[scr];rw[if_neg m.n2];simp only[scr];rw[if_neg m.n1]
  refine⟨fun e he=>by rw[UaI] at he;rw[he,e6];rfl,?_⟩;rw[hxe2];have h3:(Zw id2 (Zw idr st)).sto id=some (.ar k es u hw ver):=ZjF (st:=Zw idr st) m.l1 m.l2 m.n1 (ZjF m.l1 m.l3 m.n2 hid);simp only[h3];refine⟨trivial,e3,e4,e5,?_⟩;rw[UbN];exact hk
def MS(lvl:Nat)(o:OP)(ρ:Nat->IV)(σ:Nat->Option Ob)(out:Zb)(ρ1:Nat->IV)(σ1:Nat->Option Ob)(out1:Zb):Prop :=
 Yi o=true/\∃ k x y v id id2 idr ob,o.o = .a4 k x y/\M4 k x y (keyOf o.d) lvl (Z2 ρ) (Z8 lvl σ out) v id id2 idr ob/\ρ1=Jy o.d v (fun t=>scr id2 (scr idr (ρ t)))/\σ1=JP lvl id ob (kl id2 (kl idr σ))/\out1=Q0 lvl id ob out
def QSm(C:ZJ)(lvl:Nat)(o:OP)(ρ:Nat->IV)(σ:Nat->Option Ob)(out:Zb)(ρ1:Nat->IV)(σ1:Nat->Option Ob)(out1:Zb):Prop :=
 QS C lvl o ρ σ out ρ1 σ1 out1\/MS lvl o ρ σ out ρ1 σ1 out1
def qt(o:OP):Bool:=Vp o || Yi o
theorem ZjG(h:Yi o=true){k:Nat}{x y:X}(ho:o.o = .a4 k x y):Yg C o st K=(Xf st.lvl (keyOf o.d) st.sto (xv st.env x) (xv st.env y)/\X1 o.d k x y st K):=by unfold Yg;rw[(ZaH h).1];dsimp only;unfold ZD;rw[ho,if_pos (show JA (O.a4 k x y)=true from rfl)];simp only[ew]
theorem Zso(hq:qt o=true)(h:Yg C o st K):∃ st' ρ1 σ1 out1,K st'/\QSm C st.lvl o (fun t=>lk t st.env) (fun k=>lkO k st.loc) st.out ρ1 σ1 out1/\At st' st.lvl ρ1 σ1 out1:=by
 by_cases hm:Yi o=true
 ·obtain⟨_,k,x,y,ho⟩:=ZaH hm;rw[ZjG hm ho] at h;obtain⟨v,id,id2,idr,ob,m,hk⟩:=Zsm h.1 h.2;rw[Qk,WY] at m;refine⟨_,_,_,_,hk,.inr ⟨hm,k,x,y,v,id,id2,idr,ob,ho,m,rfl,rfl,rfl⟩,?_⟩;have:=Zcj (st:=Zw id2 (Zw idr st)) (id:=id) (ob:=ob) (d:=o.d) (v:=v);rw[UD,UD,Dn,show (fun t=>scr id2 (lk t (Zw idr st).env))=fun t=>scr id2 (scr idr (lk t st.env)) from funext fun t=>congrArg (scr id2) (Dd idr t _)] at this;exact this
 ·have h0:Vp o=true:=by unfold qt at hq;simp only[UaO] at hq;exact hq.resolve_right hm
  obtain⟨st',ρ1,σ1,out1,h1,h2,h3⟩:=Zsg h0 h;exact⟨st',ρ1,σ1,out1,h1,.inl h2,h3⟩
theorem Zsp{ρ1:Nat->IV}{σ1:Nat->Option Ob}{out1:Zb}(h:QSm C st.lvl o (fun t=>lk t st.env) (fun k=>lkO k st.loc) st.out ρ1 σ1 out1):Yg C o st (fun st' => At st' st.lvl ρ1 σ1 out1):=by
 rcases h with h | ⟨hm,k,x,y,v,id,id2,idr,ob,ho,m,rfl,rfl,rfl⟩
 ·exact Zsh h
 ·rw[ZjG hm ho];rw[<-Qk,<-WY] at m;refine Zsn m ?_;have:=Zcj (st:=Zw id2 (Zw idr st)) (id:=id) (ob:=ob) (d:=o.d) (v:=v);rw[UD,UD,Dn,show (fun t=>scr id2 (lk t (Zw idr st).env))=fun t=>scr id2 (scr idr (lk t st.env)) from funext fun t=>congrArg (scr id2) (Dd idr t _)] at this;exact this
def Qn(C:ZJ)(lvl:Nat):List OP->(Nat->IV)->(Nat->Option Ob)->Zb->(Nat->IV)->(Nat->Option Ob)->Zb->Prop
 | [],ρ,σ,out,ρ',σ',out' => ρ'=ρ/\σ'=σ/\out'=out
 | o::l,ρ,σ,out,ρ',σ',out' => ∃ ρ1 σ1 out1,QSm C lvl o ρ σ out ρ1 σ1 out1/\Qn C lvl l ρ1 σ1 out1 ρ' σ' out'
theorem Zfj:∀(l:List OP) (st:St),(∀ o∈l,qt o=true)->Vc C l st K->∃ st',K st'/\st'.lvl=st.lvl/\Qn C st.lvl l (fun t=>lk t st.env) (fun k=>lkO k st.loc) st.out (fun t=>lk t st'.env) (fun k=>lkO k st'.loc) st'.out
 | [],st,_,h=>⟨st,h,rfl,rfl,rfl,rfl⟩
 | o::l,st,hl,h=>by simp only[Vc] at h;obtain⟨st1,ρ1,σ1,out1,hk,hs,ha⟩:=Zso (hl o (by simp)) h;obtain⟨st',hk',h1,h3⟩:=Zfj l st1 (fun p hp=>hl p (by simp [hp])) hk;refine⟨st',hk',h1.trans ha.lvl,ρ1,σ1,out1,hs,?_⟩;rw[ha.env,ha.loc,ha.out,ha.lvl] at h3;exact h3
def QE(o:OP):Bool:=(match o.o with | .fa .. => true | .mv _ none=>true | .bv .. => true | .lb .. => true | _=>false)&&o.g.isNone
def Q3(p o:OP):Bool:=(Yi p&&(Vo p o&&QE o&&decide (keyOf p.d<=keyOf o.d))) || (!Yi p&&QD p o)
theorem Zcl(h:QE o=true):JA o.o=false:=by
 unfold QE at h;simp only[Uae] at h;have h:=h.1;split at h
 ·rename_i he;rw[he];rfl
 ·rename_i he;rw[he];rfl
 ·rename_i he;rw[he];rfl
 ·rename_i he;rw[he];rfl
 ·cases h
theorem Zsq{lvl:Nat}{ρ ρ1:Nat->IV}{σ σ1:Nat->Option Ob}{out out1:Zb}(h:QS C lvl o ρ σ out ρ1 σ1 out1):Yi o=false:=by
 cases e:Yi o with
 | false=>rfl
 | true =>
  obtain⟨_,k,x,y,ho⟩:=ZaH e;rcases h with ⟨hl,_⟩ | ⟨hq,_⟩
  ·rw[Zfi e] at hl;cases hl
  ·obtain⟨_,h | h⟩:=Q1 hq
   ·obtain⟨m,q,x,h,_⟩:=h;rw[ho] at h;cases h
   ·obtain⟨k,x,z,h | h | h | h⟩:=h<;>(rw[ho] at h;cases h)
theorem Xq{id:Zd}:∀(l:List IV),scrs id l=l.map (scr id)
 | []=>rfl
 | x::r=>by simp [scrs,Xq r]
structure ScrF (f:IV->IV):Prop where
 ta:∀{z:IV} {c:List Tr},f z = .ta c->z = .ta c
 ta2:∀{c:List Tr},f (.ta c) = .ta c
 ab:∀{z:IV} {i:Zd} {n:Nat},f z = .ab i n->z = .ab i n/\∀ m,f (.ab i m) = .ab i m
 ae:∀{z:IV} {i:Zd} {p:Zn} {a b s:Nat},f z = .ae i p a b s->z = .ae i p a b s/\∀ m,f (.ae i p a m s) = .ae i p a m s
 ag:∀{l:List IV},f (.ag l) = .ag (l.map f)
 cells:∀{z:IV} {c1:List IV},cellsOf (f z)=some c1->∃ c,cellsOf z=some c/\c1=c.map f
theorem Zsr{id:Zd}{x:IV}(h:isCell (scr id x)=true):isCell x=true:=by cases x<;>simp only[scr] at h<;>first | exact h | (split at h<;>first | rfl | exact h | cases h)
theorem ZjH(id:Zd):ScrF (scr id):=by
 refine⟨?_,rfl,?_,?_,?_,?_⟩
 ·intro z c h;cases z<;>simp only[scr] at h<;>first | exact h | cases h | (split at h<;>cases h)
 ·intro z i n h;cases z<;>simp only[scr] at h<;>first | (split at h<;>first | cases h | skip) | cases h
  rename_i hne;exact⟨rfl,fun m=>by simp only[scr];rw[if_neg hne]⟩
 ·intro z i p a b s h;cases z<;>simp only[scr] at h<;>first | (split at h<;>first | cases h | skip) | cases h
  rename_i hne;exact⟨rfl,fun m=>by simp only[scr];rw[if_neg hne]⟩
 ·intro l;simp only[scr];rw[Xq]
 ·intro z c1 h;cases z
  case ag l =>
   simp only[scr,cellsOf] at h ⊢;split at h
   ·rename_i hl;cases h;refine⟨l,?_,Xq l⟩;rw[if_pos];rw[Xq,List.all_map,Ube] at hl;exact Ube.2 fun x hx=>Zsr (hl x hx)
   ·cases h
  all_goals
   simp only[scr] at h
   first
    | (
      split at h
      ·simp [cellsOf,isCell] at h
      ·rename_i hne;simp only[cellsOf] at h ⊢;split at h
       ·rename_i hc;cases h;exact⟨_,if_pos hc,by simp [scr,hne]⟩
       ·cases h)
    | (
      simp only[cellsOf] at h ⊢;split at h
      ·rename_i hc;cases h;exact⟨_,if_pos (by first | rfl | cases hc),by simp [scr]⟩
      ·cases h)
theorem ScrF.comp{f g:IV->IV}(hf:ScrF f)(hg:ScrF g):ScrF (fun x=>f (g x)):=by
 refine⟨fun h=>hg.ta (hf.ta h),by intro c;rw[hg.ta2,hf.ta2],fun h=>?_,fun h=>?_,?_,fun h=>?_⟩
 ·obtain⟨h1,h2⟩:=hf.ab h;obtain⟨h3,h4⟩:=hg.ab h1;exact⟨h3,fun m=>by rw[h4,h2]⟩
 ·obtain⟨h1,h2⟩:=hf.ae h;obtain⟨h3,h4⟩:=hg.ae h1;exact⟨h3,fun m=>by rw[h4,h2]⟩
 ·intro l;rw[hg.ag,hf.ag,UbD];rfl
 ·obtain⟨c,h1,h2⟩:=hf.cells h;obtain⟨c',h3,h4⟩:=hg.cells h1;exact⟨c',h3,by rw[h2,h4,UbD];rfl⟩
theorem ZjI{d:Option Nat}{o:OP}{y:IV}{ρ ρ1:Nat->IV}{f:IV->IV}(h:UC d o=true)(hf:∀ x,Z2 ρ1 x=f (Z2 ρ x)):∀ x∈rd o.o,Z2 (Jy d y ρ1) x=f (Z2 ρ x):=fun x hx=>by rw[(VB h).1 x hx,hf]
theorem Zss{f:IV->IV}{fo:Ob->Ob}(hf:ScrF f)(hfo:∀ c,fo (.bx c) = .bx (c.map f))(h4:QE o=true){ρ ρ1:Nat->IV}{L L1:Zb}{lvl:Nat}{y':IV}{obs':List Ob}(hr:∀ x∈rd o.o,Z2 ρ1 x=f (Z2 ρ x))
  (hL:lbx o.o=true->∀ i cells1,L1 i=some (.bx cells1)->∃ cells,L i=some (.bx cells)/\cells1=cells.map f) (hkey:f (.sv (lvl,keyOf o.d)) = .sv (lvl,keyOf o.d)) (h:Eff C o ρ1 L1 lvl y' obs'):∃ y obs,Eff C o ρ L lvl y obs/\f y=y'/\obs.map fo=obs':=by
 unfold QE at h4;simp only[Uae,Option.isNone_iff_eq_none] at h4;obtain⟨h4,hg⟩:=h4;unfold Eff at h ⊢;rw[hg] at h ⊢;dsimp only at h ⊢;obtain⟨mk,ob,rfl,rfl,h⟩:=h;generalize hoo:o.o=oo at *;split at h4
 ·rename_i off p;have hp:=hr p (by simp [rd]);simp only[ev] at h;split at h<;>try contradiction
  ·rename_i cells hc;obtain⟨rfl,rfl⟩:=h;rw[hp] at hc;have hz:=hf.ta hc;exact⟨_,_,⟨_,_,rfl,rfl,by simp only[ev,hz];exact⟨rfl,rfl⟩⟩,hf.ta2,rfl⟩
  ·rename_i id n hc;obtain⟨rfl,rfl⟩:=h;rw[hp] at hc;obtain⟨hz,hz2⟩:=hf.ab hc;exact⟨_,_,⟨_,_,rfl,rfl,by simp only[ev,hz];exact⟨rfl,rfl⟩⟩,hz2 _,rfl⟩
  ·rename_i id p2 i n s hc;obtain⟨rfl,rfl⟩:=h;rw[hp] at hc;obtain⟨hz,hz2⟩:=hf.ae hc;exact⟨_,_,⟨_,_,rfl,rfl,by simp only[ev,hz];exact⟨rfl,rfl⟩⟩,hz2 _,rfl⟩
 ·rename_i x;have hp:=hr x (by simp [rd]);simp only[ev] at h;obtain⟨rfl,rfl⟩:=h;exact⟨_,_,⟨_,_,rfl,rfl,by simp only[ev];exact⟨rfl,rfl⟩⟩,hp.symm,rfl⟩
 ·rename_i k n z ps;simp only[ev] at h;split at h<;>try contradiction
  rename_i x;have hp:=hr x (by simp [rd]);obtain⟨hn,h⟩:=h;split at h<;>try contradiction
  rename_i c1 hc1;obtain⟨hlen,rfl,rfl⟩:=h;rw[hp] at hc1;obtain⟨c,g1,g2⟩:=hf.cells hc1;refine⟨_,[.bx c],⟨_,fun _ _=>[.bx c],rfl,rfl,by simp only[ev,g1];exact⟨hn,by rw[<-hlen,g2,Uaa],by trivial,by trivial⟩⟩,hkey,?_⟩;rw[Uah,Uam,hfo,g2]
 ·rename_i m p q;have hp:=hr p (by simp [rd]);have hap:VV (Z2 ρ1) p q->VV (Z2 ρ) p q:=by
   cases q with
   | none=>exact id
   | some q =>
    have hq:=hr (.t q) (by simp [rd]);intro g;have g:VU (Z2 ρ1 p) (Z2 ρ1 (.t q)):=g;show VU (Z2 ρ p) (Z2 ρ (.t q));rw[hp,hq] at g;unfold VU at g;split at g<;>try contradiction
    rename_i i a j b e1 e2;rw[(hf.ab e1).1,(hf.ab e2).1];exact g
  cases m with
  | none =>
   simp only[ev] at h;obtain⟨ha,h⟩:=h;split at h<;>try contradiction
   rename_i id off hc;split at h<;>try contradiction
   rename_i cells1 hs;obtain⟨x,hx,rfl,rfl⟩:=h;rw[hp] at hc;have hz:=(hf.ab hc).1;obtain⟨cells,e1,e2⟩:=hL rfl _ _ hs;rw[e2,Uao] at hx;cases e3:cells[off]? with
   | none=>rw[e3] at hx;cases hx
   | some x0 =>
    rw[e3] at hx;have hx:=UaT hx;exact⟨x0,[],⟨fun _ _=>x0,fun _ _=>[],rfl,rfl,by simp only[ev,hz,e1];exact⟨hap ha,x0,e3,rfl,rfl⟩⟩,hx,rfl⟩
  | some m =>
   simp only[ev] at h;obtain⟨ha,h⟩:=h;split at h<;>try contradiction
   rename_i id off hc;split at h<;>try contradiction
   rename_i cells1 hs;obtain⟨hle,rfl,rfl⟩:=h;rw[hp] at hc;have hz:=(hf.ab hc).1;obtain⟨cells,e1,e2⟩:=hL rfl _ _ hs;refine⟨.ag ((cells.drop off).take m),[],⟨fun _ _=>.ag ((cells.drop off).take m),fun _ _=>[],rfl,rfl,by simp only[ev,hz,e1];exact⟨hap ha,by rw[e2,Uaa] at hle;exact hle,rfl,rfl⟩⟩,?_,rfl⟩;rw[hf.ag,e2,Ubj,List.map_drop]
 ·cases h4
def Lw(lvl:Nat)(out:Zb):Prop:=∀ i cells,i.1≠lvl->out i=some (.bx cells)->Zc (fun j=>j.1≠lvl) cells
mutual
theorem Zst(id:Zd):∀(x:IV),men (fun j=>j≠id) x->scr id x=x
 | .un,_=>rfl
 | .tr _,_=>rfl
 | .cs _,_=>rfl
 | .hd i p off len cap st,h=>by simp only[scr];exact if_neg h
 | .ab i off,h=>by simp only[scr];exact if_neg h
 | .sv i,h=>by simp only[scr];exact if_neg h
 | .ae i p a b st,h=>by simp only[scr];exact if_neg h
 | .ta _,_=>rfl
 | .ag l,h=>by simp only[scr,men] at *;rw[Dp id l h]
 | .tu l,h=>by simp only[scr,men] at *;rw[Dp id l h]
 | .fn f l,h=>by simp only[scr,men] at *;rw[Dp id l h]
 | .ow ..,_=>rfl
 | .er,_=>rfl
theorem Dp(id:Zd):∀(l:List IV),Zc (fun j=>j≠id) l->scrs id l=l
 | [],_=>rfl
 | x::r,h=>by simp only[scrs];rw[Zst id x h.1,Dp id r h.2]
end
theorem ZjJ{lvl:Nat}{σ:Nat->Option Ob}{out:Zb}{i:Zd}(h:i.1=lvl):Z8 lvl σ out i=σ i.2:=if_pos h
theorem ZaJ{lvl:Nat}{σ:Nat->Option Ob}{out:Zb}{i:Zd}(h:i.1≠lvl):Z8 lvl σ out i=out i:=if_neg h
theorem ZjK{ρ:Nat->IV}{id2 idr:Zd}(x:X):Z2 (fun t=>scr id2 (scr idr (ρ t))) x=scr id2 (scr idr (Z2 ρ x)):=by rw[Do (ρ':=fun t=>scr id2 (scr idr (ρ t))) (ρ:=fun t=>scr idr (ρ t)) (fun _=>rfl),Do (ρ':=fun t=>scr idr (ρ t)) (ρ:=ρ) (fun _=>rfl)]
theorem Zsu{lvl:Nat}{ρ ρ1:Nat->IV}{σ σ1:Nat->Option Ob}{out out1:Zb}(h4:QE o=true)(h:QS C lvl o ρ σ out ρ1 σ1 out1):∃ y obs,Eff C o ρ (Z8 lvl σ out) lvl y obs/\Ql (keyOf o.d) obs.length σ/\ρ1=Jy o.d y ρ/\σ1=ZO (keyOf o.d) obs σ/\out1=out:=by
 rcases h with ⟨_,h⟩ | ⟨hq,_⟩
 ·exact h
 ·have:=Zcl h4;rw[ZaG hq] at this;cases this
theorem Zsv{lvl:Nat}{ρ ρp ρ2:Nat->IV}{σ σp σ2:Nat->Option Ob}{out outp out2:Zb}(h4:QE o=true)(hi:Vo p o=true)(hk:keyOf p.d<=keyOf o.d)(hlw:lbx o.o=true->Lw lvl out)
  (h1:MS lvl p ρ σ out ρp σp outp) (h2:QS C lvl o ρp σp outp ρ2 σ2 out2):∃ ρ1 σ1 out1,QS C lvl o ρ σ out ρ1 σ1 out1/\MS lvl p ρ1 σ1 out1 ρ2 σ2 out2:=by
 obtain⟨hm,k,x,y,v,id,id2,idr,ob,ho,m,rfl,rfl,rfl⟩:=h1;obtain⟨i1,i2,i3⟩:=W2 hi;obtain⟨y',obs',e1,e2,rfl,rfl,rfl⟩:=Zsu h4 h2;have hf:ScrF (fun z=>scr id2 (scr idr z)):=(ZjH id2).comp (ZjH idr);have hob:∀ cells,ob ≠ .bx cells:=fun cells e=>by obtain⟨_,_,_,_,_,_,_,_,_,_,_,_,_,_,_,_,_,_,_,_,_,_,_,_,_,h⟩:=m.ex;rw[h] at e;cases e
 have hL:lbx o.o=true->∀ i cells1,Z8 lvl (JP lvl id ob (kl id2 (kl idr σ))) (Q0 lvl id ob out) i=some (.bx cells1)->∃ cells,Z8 lvl σ out i=some (.bx cells)/\cells1=cells.map fun z=>scr id2 (scr idr z):=fun hlb i cells1 hs=>by
  rw[W1] at hs;unfold Zo at hs;split at hs
  ·exact absurd (UaT hs) (hob _)
  ·by_cases hl:i.1=lvl
   ·rw[ZjJ hl] at hs ⊢;unfold kl at hs;split at hs
    ·cases hs
    ·split at hs
     ·cases hs
     ·cases e:σ i.2 with
      | none=>rw[e] at hs;cases hs
      | some b =>
       rw[e] at hs;cases b with
       | bx c =>
        refine⟨c,rfl,?_⟩;have hs:=UaT hs;simp only[scrOb,Ob.bx.injEq] at hs;rw[<-hs,Xq,Xq,UbD];rfl
       | ar a1 a2 a3 a4 a5=>cases hs
       | mp l=>cases hs
   ·rw[ZaJ hl] at hs ⊢;refine⟨cells1,hs,?_⟩;have hw:=hlw hlb i cells1 hl hs;have w1:Zc (fun j=>j≠id2) cells1:=JK (fun j hj e=>hj (by rw[e];exact m.l2)) _ hw;have w2:Zc (fun j=>j≠idr) cells1:=JK (fun j hj e=>hj (by rw[e];exact m.l3)) _ hw;have c1:cells1.map (scr idr)=cells1:=by rw[<-Xq,Dp idr _ w2]
    rw[show (fun z=>scr id2 (scr idr z))=scr id2 ∘ scr idr from rfl,<-UbD,c1,<-Xq,Dp id2 _ w1]
 have hkey:scr id2 (scr idr (.sv (lvl,keyOf o.d))) = .sv (lvl,keyOf o.d):=by have g3:=m.k3;have g2:=m.k2;simp only[scr];rw[if_neg (fun e=>by rw[<-e] at g3;exact UbU _ (UaZ g3 hk))];simp only[scr];rw[if_neg (fun e=>by rw[<-e] at g2;exact UbU _ (UaZ g2 hk))]
 obtain⟨y0,obs0,g1,g2,g3⟩:=Zss (o:=o) (f:=fun z=>scr id2 (scr idr z)) (fo:=fun b=>scrOb id2 (scrOb idr b)) hf (fun c=>by simp only[scrOb];rw[Xq,Xq,UbD];rfl) h4 (ρ:=ρ) (L:=Z8 lvl σ out) (ZjI (f:=fun z=>scr id2 (scr idr z)) i1 (fun x=>ZjK x)) hL hkey e1;have hlen:obs0.length=obs'.length:=by rw[<-g3,Uaa]
 have hlt:∀{j:Zd} {q:Nat},j.2<keyOf p.d->keyOf o.d<=q->q≠j.2:=fun h1 h2 e=>by omega
 have hfr:Ql (keyOf o.d) obs0.length σ:=fun q q1 q2=>by have hn:=ZjA (e2 q q1 (by omega));rw[Wj (hlt m.k2 q1),Wj (hlt m.k3 q1)] at hn;simpa using hn
 have hop:=VB (o:=p) (d:=o.d) (y:=y0) (ρ:=ρ) i2;have hx:=hop.1 x (by rw[ho];simp [rd]);have hy:=hop.1 y (by rw[ho];simp [rd]);refine⟨_,_,_,.inl ⟨Zcl h4,y0,obs0,g1,hfr,rfl,rfl,rfl⟩,hm,k,x,y,v,id,id2,idr,ob,ho,?_,?_,?_,rfl⟩
 ·obtain⟨len,s,n,s2,hw2,k2,ver2,hw,ver,zs,es,u2,u,a1,a2,a3,a4,a5,a6⟩:=m.ex;exact⟨⟨len,s,n,s2,hw2,k2,ver2,hw,ver,zs,es,u2,u,by rw[hx];exact a1,by rw[hy];exact a2,Qm hfr _ _ a3,Qm hfr _ _ a4,Qm hfr _ _ a5,a6⟩,m.l1,m.l2,m.l3,m.k1,m.k2,m.k3,m.n1,m.n2⟩
 ·rw[<-g2];rw[Wi (by rw[<-i3];cases p.d<;>cases o.d<;>simp [bne_comm])];congr 1;funext t;unfold Jy;split<;>rfl
 ·rw[<-g3];funext q;unfold ZO;rw[Uaa];by_cases hq:keyOf o.d<=q/\q<keyOf o.d+obs0.length
  ·rw[if_pos hq];unfold JP;rw[if_neg (fun e=>by have:=m.k1;rw[e] at this;have:q<keyOf p.d:=this;omega),Wj (hlt m.k2 hq.1),Wj (hlt m.k3 hq.1),if_pos hq,Uao];cases obs0[q-keyOf o.d]?<;>rfl
  ·rw[if_neg hq];unfold JP;split
   ·rfl
   ·unfold kl;split
    ·rfl
    ·split
     ·rfl
     ·show _=Option.map (scrOb id2) (Option.map (scrOb idr) (if keyOf o.d<=q/\q<keyOf o.d+obs0.length then obs0[q-keyOf o.d]? else σ q));rw[if_neg hq]
theorem Zsw{lvl:Nat}{ρ ρ1:Nat->IV}{σ σ1:Nat->Option Ob}{out out1:Zb}(h:MS lvl p ρ σ out ρ1 σ1 out1):out1=out:=by obtain⟨_,k,x,y,v,id,id2,idr,ob,_,m,_,_,rfl⟩:=h;unfold Q0;rw[if_pos m.l1]
theorem ZjL{lvl:Nat}{ρ ρ1:Nat->IV}{σ σ1:Nat->Option Ob}{out out1:Zb}(h:QSm C lvl p ρ σ out ρ1 σ1 out1):(Yi p=false/\QS C lvl p ρ σ out ρ1 σ1 out1)\/(Yi p=true/\MS lvl p ρ σ out ρ1 σ1 out1):=by
 rcases h with h | h
 ·exact .inl ⟨Zsq h,h⟩
 ·exact .inr ⟨h.1,h⟩
theorem ZjM(h4:QE o=true):Yi o=false:=by
 cases e:Yi o with
 | false=>rfl
 | true=>have:=Zcl h4;rw[Zfi e] at this;cases this
theorem Zsx(h4:QE o=true):lfree o.o=true\/lbx o.o=true:=by
 unfold QE at h4;simp only[Uae] at h4;have h4:=h4.1;split at h4
 ·rename_i he;rw[he];exact .inl rfl
 ·rename_i he;rw[he];exact .inl rfl
 ·rename_i he;rw[he];exact .inl rfl
 ·rename_i he;rw[he];exact .inr rfl
 ·cases h4
theorem ZjN(hb:lbx o.o=true)(h:QD p o=true):Vo p o=true/\(JA p.o=false\/(WW p.o=true/\VZ p=true)):=by
 have hlb:=UB hb;have hl:lfree o.o=false:=by cases e:o.o<;>rw[e] at hb<;>first | rfl | cases hb
 have hw:wfr o.o=false:=by cases e:o.o<;>rw[e] at hb<;>first | rfl | cases hb
 simp only[QD,Uae,UaO,UaN] at h;refine⟨h.1,?_⟩;rcases h.2 with ((h | h) | h) | h
 ·exact .inl h.1
 ·exact absurd h.2 (by simp [hl,hw])
 ·have:=ZaG h.2;rw[hlb] at this;cases this
 ·exact h.1
theorem Zcm(hm:Yi p=true)(h:Q3 p o=true):Vo p o=true/\QE o=true/\keyOf p.d<=keyOf o.d:=by unfold Q3 at h;rw[hm] at h;simpa [Uae,and_assoc] using h
theorem Zcn(hm:Yi p=false)(h:Q3 p o=true):QD p o=true:=by unfold Q3 at h;rw[hm] at h;simpa using h
abbrev Jv(lvl:Nat)(o:OP)(ρ:Nat->IV)(σ:Nat->Option Ob)(out:Zb):Prop:=∀ x∈rd o.o,men (fun i=>(Z8 lvl σ out i).isSome=true) (Z2 ρ x)
theorem Zsy{lvl:Nat}{ρ ρ1:Nat->IV}{σ σ1:Nat->Option Ob}{out out1:Zb}(hi:Vo p o=true)(h:QS C lvl p ρ σ out ρ1 σ1 out1)(hj:Jv lvl o ρ σ out):Jv lvl o ρ1 σ1 out1:=fun x hx=>by
 obtain⟨i1,_,_⟩:=W2 hi;have e:Z2 ρ1 x=Z2 ρ x:=by obtain⟨yp,rfl⟩:=Dm h;exact(VB (y:=yp) (ρ:=ρ) i1).1 x hx
 rw[e];refine JZ (fun i hi=>?_) _ (hj x hx);rcases h with ⟨_,yp',obp,e1,e2,e3,rfl,rfl⟩ | ⟨hqp,yp',id,ob,e1,e3,rfl,rfl⟩
 ·obtain⟨ob,hob⟩:=Uan.1 hi;rw[Qm e2 i ob hob];rfl
 ·rw[W1];unfold Zo;split
  ·rfl
  ·exact hi
theorem Zsz{lvl:Nat}{ρ ρ1:Nat->IV}{σ σ1:Nat->Option Ob}{out out1:Zb}(hi:Vo p o=true)(h:MS lvl p ρ σ out ρ1 σ1 out1)(hj:Jv lvl o ρ σ out):Jv lvl o ρ1 σ1 out1:=fun x hx=>by
 obtain⟨i1,_,_⟩:=W2 hi;obtain⟨_,k,xx,yy,v,id,id2,idr,ob,_,m,rfl,rfl,rfl⟩:=h;rw[ZjI (f:=fun z=>scr id2 (scr idr z)) i1 (fun x=>ZjK x) x hx];refine JZ (fun i hi=>?_) _ (Zb2 id2 _ (Zb2 idr _ (hj x hx)));obtain⟨⟨ha,hr⟩,h2⟩:=hi;rw[W1];unfold Zo;split
 ·rfl
 ·by_cases hl:i.1=lvl
  ·rw[ZjJ hl] at ha ⊢;rw[Wj (ZaI hl m.l2 h2),Wj (ZaI hl m.l3 hr)];cases e:σ i.2 with
   | none=>rw[e] at ha;cases ha
   | some b=>rfl
  ·rw[ZaJ hl] at ha ⊢;exact ha
theorem ZsA{lvl:Nat}{ρ ρ1:Nat->IV}{σ σ1:Nat->Option Ob}{out out1:Zb}(hp:JA p.o=false\/(WW p.o=true/\VZ p=true))(h:QS C lvl p ρ σ out ρ1 σ1 out1)(hw:Lw lvl out):Lw lvl out1:=by
 rcases h with ⟨_,yp',obp,e1,e2,e3,rfl,rfl⟩ | ⟨hqp,yp',id,ob,e1,e3,rfl,rfl⟩
 ·exact hw
 ·intro i cells hl hc;have hq:WW p.o=true:=hp.elim (fun g=>by rw[ZaG hqp] at g;cases g) (fun g=>g.1);refine hw i cells hl ?_;have:=(Zfd p.o hq e1 i cells).1 (by rw[<-W1,ZaJ hl];exact hc);rw[ZaJ hl] at this;exact this
theorem Zfk{lvl:Nat}(h4:QE o=true):∀(l1:List OP) (ρ:Nat->IV) (σ:Nat->Option Ob) (out:Zb) (ρ':Nat->IV) (σ':Nat->Option Ob) (out':Zb),(∀ p∈l1,Q3 p o=true)->(lbx o.o=true->Lw lvl out)->Jv lvl o ρ σ out ->
  Qn C lvl (l1++[o]) ρ σ out ρ' σ' out'->∃ ρ1 σ1 out1,QS C lvl o ρ σ out ρ1 σ1 out1/\Qn C lvl l1 ρ1 σ1 out1 ρ' σ' out'
 | [],ρ,σ,out,ρ',σ',out',_,_,_,h=>by
  obtain⟨ρ1,σ1,out1,h1,h2⟩:=h;rcases ZjL h1 with ⟨_,h1⟩ | ⟨hm,_⟩
  ·exact⟨ρ1,σ1,out1,h1,h2⟩
  ·rw[ZjM h4] at hm;cases hm
 | p::l1,ρ,σ,out,ρ',σ',out',hi,hlw,hj,h=>by
  obtain⟨ρp,σp,outp,hp,hr⟩:=h;have hip:=hi p (by simp);rcases ZjL hp with ⟨hm,hp⟩ | ⟨hm,hp⟩
  ·have h0:=Zcn hm hip;have hind:Vo p o=true:=(by simp only[QD,Uae] at h0;exact h0.1);obtain⟨ρ1,σ1,out1,h1,h2⟩:=Zfk h4 l1 _ _ _ _ _ _ (fun q hq=>hi q (by simp [hq])) (fun hb=>ZsA (ZjN hb h0).2 hp (hlw hb)) (Zsy hind hp hj) hr;have hrun:Ve C lvl ([p]++o::[]) ρ σ out ρ1 σ1 out1:=⟨ρp,σp,outp,hp,ρ1,σ1,out1,h1,rfl,rfl,rfl⟩;have one:∃ ρ2 σ2 out2,QS C lvl o ρ σ out ρ2 σ2 out2/\Ve C lvl ([p]++[]) ρ2 σ2 out2 ρ1 σ1 out1:=by
    rcases Zsx h4 with hl | hb
    ·exact Zff hl [p] [] _ _ _ _ _ _ (fun q hq=>by rw[UaI] at hq;rw[hq];exact hind) hrun
    ·exact Zfg (I:=fun i=>(Z8 lvl σ out i).isSome=true) hb [p] [] _ _ _ _ _ _ (fun q hq=>by rw[UaI] at hq;rw[hq];exact ZjN hb h0) hj (fun _ h=>h) hrun
   obtain⟨ρ2,σ2,out2,g1,ρ3,σ3,out3,g2,rfl,rfl,rfl⟩:=one;exact⟨ρ2,σ2,out2,g1,_,_,_,.inl g2,h2⟩
  ·obtain⟨hind,_,hk⟩:=Zcm hm hip;obtain⟨ρ1,σ1,out1,h1,h2⟩:=Zfk h4 l1 _ _ _ _ _ _ (fun q hq=>hi q (by simp [hq])) (fun hb=>by rw[Zsw hp];exact hlw hb) (Zsz hind hp hj) hr;obtain⟨ρ2,σ2,out2,g1,g2⟩:=Zsv h4 hind hk hlw hp h1;exact⟨ρ2,σ2,out2,g1,_,_,_,.inr g2,h2⟩
theorem qrunM_append{lvl:Nat}:∀{l1 l2:List OP} {ρ:Nat->IV} {σ:Nat->Option Ob} {out:Zb} {ρ':Nat->IV} {σ':Nat->Option Ob} {out':Zb},Qn C lvl (l1++l2) ρ σ out ρ' σ' out'↔∃ ρ1 σ1 out1,Qn C lvl l1 ρ σ out ρ1 σ1 out1/\Qn C lvl l2 ρ1 σ1 out1 ρ' σ' out'
 | [],l2,ρ,σ,out,ρ',σ',out' => by
  constructor
  ·intro h;exact⟨ρ,σ,out,⟨rfl,rfl,rfl⟩,h⟩
  ·rintro⟨ρ1,σ1,out1,⟨rfl,rfl,rfl⟩,h⟩;exact h
 | o::l1,l2,ρ,σ,out,ρ',σ',out' => by
  constructor
  ·rintro⟨ρ1,σ1,out1,h1,h2⟩
   obtain⟨ρ2,σ2,out2,h3,h4⟩:=qrunM_append.1 h2;exact⟨ρ2,σ2,out2,⟨ρ1,σ1,out1,h1,h3⟩,h4⟩
  ·rintro⟨ρ2,σ2,out2,⟨ρ1,σ1,out1,h1,h3⟩,h4⟩
   exact⟨ρ1,σ1,out1,h1,qrunM_append.2 ⟨ρ2,σ2,out2,h3,h4⟩⟩
theorem ZjO{lvl:Nat}:∀{l:List OP} {ρ:Nat->IV} {σ:Nat->Option Ob} {out:Zb} {ρ':Nat->IV} {σ':Nat->Option Ob} {out':Zb},Ve C lvl l ρ σ out ρ' σ' out'->Qn C lvl l ρ σ out ρ' σ' out'
 | [],_,_,_,_,_,_,h=>h
 | _::_,_,_,_,_,_,_,⟨ρ1,σ1,out1,h1,h2⟩=>⟨ρ1,σ1,out1,.inl h1,ZjO h2⟩
theorem ZjP{lvl:Nat}:∀{l:List OP} {ρ:Nat->IV} {σ:Nat->Option Ob} {out:Zb} {ρ':Nat->IV} {σ':Nat->Option Ob} {out':Zb},(∀ p∈l,Yi p=false)->Qn C lvl l ρ σ out ρ' σ' out'->Ve C lvl l ρ σ out ρ' σ' out'
 | [],_,_,_,_,_,_,_,h=>h
 | p::_,_,_,_,_,_,_,hn,⟨ρ1,σ1,out1,h1,h2⟩=>by
  refine⟨ρ1,σ1,out1,?_,ZjP (fun q hq=>hn q (by simp [hq])) h2⟩;rcases h1 with h1 | h1
  ·exact h1
  ·have:=h1.1;rw[hn p (by simp)] at this;cases this
theorem ZjQ{p o:OP}(h:QD p o=true):Vp p=true/\Vp o=true:=by
 simp only[QD,Uae,UaO,UaN] at h;unfold Vp;simp only[UaO,UaN];rcases h.2 with ((h | h) | h) | h
 ·exact⟨.inl h.1,.inl h.2⟩
 ·have:=h.1;unfold Vp at this;simp only[UaO,UaN] at this;rcases h.2 with h2 | h2
  ·exact⟨this,.inl (ZaD h2)⟩
  ·exact⟨this,.inl (Zjw h2)⟩
 ·exact⟨.inl (h.1.elim (fun g=>g.elim ZaD fun g=>UB g.1) Zfh),.inr h.2⟩
 ·exact⟨h.1.elim .inl fun g=>.inr g.2,.inl (UB h.2)⟩
theorem ZsB(hm:Yi o=true):Vp o=false:=by
 cases e:Vp o with
 | false=>rfl
 | true =>
  unfold Vp at e;simp only[UaO,UaN] at e;obtain⟨_,k,x,y,ho⟩:=ZaH hm;rcases e with e | e
  ·rw[Zfi hm] at e;cases e
  ·obtain⟨_,h | h⟩:=Q1 e
   ·obtain⟨m,q,x,h,_⟩:=h;rw[ho] at h;cases h
   ·obtain⟨k,x,z,h | h | h | h⟩:=h<;>(rw[ho] at h;cases h)
theorem ZjR{p o:OP}(h:Q3 p o=true):qt p=true/\qt o=true:=by
 unfold qt;cases hm:Yi p with
 | true =>
  have h4:=(Zcm hm h).2.1;refine⟨by simp,?_⟩;unfold Vp;rw[Zcl h4];rfl
 | false =>
  obtain⟨h1,h2⟩:=ZjQ (Zcn hm h);rw[h1,h2];exact⟨rfl,rfl⟩
theorem ZsC{lvl:Nat}{I:Zd->Prop}{l1 l2:List OP}{ρ:Nat->IV}{σ:Nat->Option Ob}{out:Zb}{ρ':Nat->IV}{σ':Nat->Option Ob}{out':Zb}(hq:qt o=true)(hi:∀ p∈l1,Q3 p o=true)(hm:∀ x,men I (Z2 ρ x))(hI:∀ id,I id->(Z8 lvl σ out id).isSome=true)(hcl:∀ id cells,I id->Z8 lvl σ out id=some (.bx cells)->Zc I cells)
  (hlw:Lw lvl out) (h:Qn C lvl (l1++o::l2) ρ σ out ρ' σ' out'):∃ ρ1 σ1 out1,QSm C lvl o ρ σ out ρ1 σ1 out1/\Qn C lvl (l1++l2) ρ1 σ1 out1 ρ' σ' out':=by
 cases hmo:Yi o with
 | true =>
  cases l1 with
  | nil=>exact h
  | cons p r =>
   exfalso;have hp:=hi p (by simp);cases hmp:Yi p with
   | true=>have:=ZjM (Zcm hmp hp).2.1;rw[hmo] at this;cases this
   | false=>have:=(ZjQ (Zcn hmp hp)).2;rw[ZsB hmo] at this;cases this
 | false =>
  have hsp:l1++o::l2=(l1++[o])++l2:=by simp
  rw[hsp] at h;obtain⟨ρm,σm,outm,h1,h2⟩:=qrunM_append.1 h;have key:∃ ρ1 σ1 out1,QS C lvl o ρ σ out ρ1 σ1 out1/\Qn C lvl l1 ρ1 σ1 out1 ρm σm outm:=by
   by_cases hh:∃ p∈l1,Yi p=true
   ·obtain⟨p,hp,hmp⟩:=hh;exact Zfk (Zcm hmp (hi p hp)).2.1 l1 _ _ _ _ _ _ hi (fun _=>hlw) (fun x _=>JZ (fun i hi=>hI i hi) _ (hm x)) h1
   ·have hno:∀ p∈l1,Yi p=false:=fun p hp=>by
     cases e:Yi p with
     | false=>rfl
     | true=>exact absurd ⟨p,hp,e⟩ hh
    have hq0:Vp o=true:=(by unfold qt at hq;rw[hmo,Bool.or_false] at hq;exact hq);have hrun:=ZjP (fun p hp=>by
     rcases Uaq.1 hp with hp | hp
     ·exact hno p hp
     ·rw[UaI] at hp;rw[hp];exact hmo) h1
    obtain⟨ρ1,σ1,out1,g1,g2⟩:=Zsk hq0 (fun p hp=>Zcn (hno p hp) (hi p hp)) hm hI hcl hrun;rw[Ubm] at g2;exact⟨ρ1,σ1,out1,g1,ZjO g2⟩
  obtain⟨ρ1,σ1,out1,g1,g2⟩:=key;exact⟨ρ1,σ1,out1,.inl g1,qrunM_append.2 ⟨_,_,_,g2,h2⟩⟩
end
end Go.Fd
namespace Go.Fd
variable [Tabs]
def Zfl(l s:List Nat):List Nat:=l.foldl (fun s x=>if s.contains x then s else x::s) s
theorem ZjS{j:Nat}:∀{l s:List Nat},j∈Zfl l s->j∈l\/j∈s
 | [],_,h=>.inr h
 | x::r,s,h=>by
  have h':j∈Zfl r (if s.contains x then s else x::s):=h;rcases ZjS h' with h1 | h1
  ·exact .inl (Ub8 _ h1)
  ·split at h1
   ·exact .inr h1
   ·rcases UaF.1 h1 with rfl | h1
    ·exact .inl UbY
    ·exact .inr h1
def Zco:List Oper->List (List Nat)->List (List Nat)
 | [],acc=>acc
 | o::r,acc=>Zco r (acc++[Zfl ((o.after.toList.filter fun e=>Region.binds .any e).flatMap fun e=>e.on::acc.getD e.on []) []])
def Cl(ops:List Oper)(listed:Array Bool):Prop:=∀(i:Nat) (oper:Oper),ops[i]? = some oper->listed.getD i false=true->∀ e∈oper.after,Region.binds .any e=true->listed.getD e.on false=true
def Gd(ops:List Oper)(listed:Array Bool)(acc:List (List Nat)):Prop:=∀(i:Nat) (B:List Nat) (oper:Oper),acc[i]? = some B->ops[i]? = some oper->(∀ e∈oper.after,Region.binds .any e=true->listed.getD e.on false=true)->∀ j∈B,listed.getD j false=true
theorem ZjT{ops:List Oper}{listed:Array Bool}(hc:Cl ops listed):∀(r:List Oper) (acc:List (List Nat)),ops.drop acc.length=r->acc.length<=ops.length->Gd ops listed acc->Gd ops listed (Zco r acc)
 | [],acc,_,_,hg=>hg
 | o::r,acc,hr,hl,hg=>by
  have ho:ops[acc.length]? = some o:=by have:=congrArg (fun l=>l[0]?) hr;simpa using this
  have hlt:acc.length<ops.length:=(Uad.1 ho).1;refine ZjT hc r _ ?_ (by simp;omega) ?_
  ·rw[Uac,List.length_singleton,<-UbK,hr];rfl
  ·intro i B oper hB hi he j hj;rcases Nat.lt_trichotomy i acc.length with h | h | h
   ·rw[Uav h] at hB;exact hg i B oper hB hi he j hj
   ·subst h;rw[Uas (Ual _)] at hB;simp only[Ubi,List.getElem?_cons_zero,Uat] at hB;subst hB;rw[ho] at hi;cases hi;rcases ZjS hj with h1 | h1
    ·obtain⟨e,h2,h3⟩:=List.mem_flatMap.1 h1;obtain⟨h4,h5⟩:=List.mem_filter.1 h2;have h4':e∈o.after:=by simpa using h4
     rcases UaF.1 h3 with rfl | h6
     ·exact he e h4' h5
     ·cases hq:acc[e.on]? with
      | none=>simp [List.getD,hq] at h6
      | some B2 =>
       have h7:j∈B2:=(by simpa [List.getD,hq] using h6);have h8:e.on<acc.length:=(Uad.1 hq).1;have h9:ops[e.on]? = some (ops[e.on]'(by omega)):=Uak (by omega);exact hg e.on B2 _ hq h9 (hc e.on _ h9 (he e h4' h5)) j h7
    ·cases h1
   ·rw[Uas (by omega)] at hB;have:1<=i-acc.length:=by omega
    rw[UaX (by simpa using this)] at hB;cases hB
theorem Cl.take{ops:List Oper}{listed:Array Bool}{i:Nat}(hc:Cl ops listed)(hi:∀ oper,ops[i]? = some oper->∀ e∈oper.after,Region.binds .any e=true->listed.getD e.on false=true):Cl ops (listed.setIfInBounds i true):=by
 have mono:∀ k,listed.getD k false=true->(listed.setIfInBounds i true).getD k false=true:=fun k hk=>by
  rw[UaH] at hk ⊢;rw[UaV];split
  ·split
   ·rfl
   ·rename_i h1 h2;subst h1;rw[UbQ (by omega)] at hk;cases hk
  ·exact hk
 intro k oper hk hl e he hb;by_cases hik:i=k
 ·subst hik;exact mono _ (hi oper hk e he hb)
 ·refine mono _ (hc k oper hk ?_ e he hb);rw[UaH] at hl ⊢;rw[UaV,if_neg hik] at hl;exact hl
def ZaK(ops:Array Oper)(l:List OP):Bool :=
 let B:=Zco ops.toList []
 (List.range ops.size).all fun i =>
  match ops[i]?,l[i]? with
  | some oper,some o=>(oper.after.all fun e=>!Region.binds .any e || decide (e.on<i)) &&
    (List.range i).all fun j=>(B.getD i []).contains j || (match l[j]? with | some p=>Q3 p o | none=>false)
  | _,_=>false
section
variable {P:Program} {F:Fr} {G:Gh} {s:St} {a:Act} {w:World}
theorem Sim.congr(h:Sim F G s a w){s':St}(h1:s'.lvl=s.lvl)(h2:s'.out=s.out)(h3:(fun t=>lk t s'.env)=fun t=>lk t s.env)(h4:(fun k=>lkO k s'.loc)=fun k=>lkO k s.loc):Sim F G s' a w:=by
 have hs:s'.sto=s.sto:=by rw[WY,WY,h1,h2,h4]
 refine⟨h.dfr,h.sz,fun t=>?_,by rw[hs];exact h.ok,by rw[h1];exact h.lvl,by rw[h1,h2];exact h.outl,by rw[hs];exact h.fr,h.fix⟩;have:=congrFun h3 t;rw[hs,this];exact h.env t
theorem Sim.men_x(h:Sim F G s a w)(x:X):men (fun id=>(Z8 s.lvl (fun k=>lkO k s.loc) s.out id).isSome=true) (Z2 (fun t=>lk t s.env) x):=by
 cases x with
 | t n=>exact Us _ _ (h.env n)
 | k v=>exact Zsf v
 | f i=>simp [Z2,men,Zc]
theorem Sim.cells_live(h:Sim F G s a w){id:Zd}{cells:List IV}(hc:Z8 s.lvl (fun k=>lkO k s.loc) s.out id=some (.bx cells)):Zc (fun id=>(Z8 s.lvl (fun k=>lkO k s.loc) s.out id).isSome=true) cells:=by
 have hs:s.sto id=some (.bx cells):=by rw[WY];exact hc
 obtain⟨b,c,vs,ty,_,_,hv⟩:=h.ok.obs _ _ hs;exact Xi _ _ hv
theorem Zfm{nt:Nat}{ops:Array Oper}:∀{l:List OP} {r:List Oper},X7 P nt ops l r=true->l.length=r.length/\∀(i:Nat) (o:OP) (oper:Oper),l[i]? = some o->r[i]? = some oper->ZbM P nt ops o oper=true
 | [],[],_=>⟨rfl,fun i o oper h=>by simp at h⟩
 | [],_::_,h=>by cases h
 | _::_,[],h=>by cases h
 | o::l,oper::r,h=>by
  simp only[X7,Uae] at h;obtain⟨h1,h2⟩:=Zfm h.2;refine⟨by simp [h1],fun i o' oper' ho hr=>?_⟩;cases i with
  | zero=>simp at ho hr;subst ho hr;exact h.1
  | succ i=>exact h2 i o' oper' (by simpa using ho) (by simpa using hr)
structure Todo (l:List OP) (listed:Array Bool) (R:List (Nat×OP)):Prop where
 mem:∀ i o,(i,o)∈R↔l[i]? = some o/\listed[i]? = some false
 sort:R.Pairwise (fun x y=>x.1<y.1)
theorem Todo.take{l:List OP}{listed:Array Bool}{R1 R2:List (Nat×OP)}{i:Nat}{o:OP}(h:Todo l listed (R1++(i,o)::R2)):Todo l (listed.setIfInBounds i true) (R1++R2):=by
 have hp:=Ua6.1 h.sort;have hp2:=Ua4.1 hp.2.1;refine⟨fun j p=>?_,?_⟩
 ·have hm:=h.mem j p;rw[UaV];by_cases hj:i=j
  ·subst hj;rw[if_pos rfl];constructor
   ·intro hin;exfalso;rcases Uaq.1 hin with g | g
    ·exact UbU _ (hp.2.2 _ g (i,o) (by simp))
    ·exact UbU i (hp2.1 (i,p) g)
   ·rintro⟨_,h2⟩
    split at h2<;>cases h2
  ·rw[if_neg hj,<-hm];simp only[Uaq,UaF,UbJ];constructor
   ·rintro(g | g)
    ·exact .inl g
    ·exact .inr (.inr g)
   ·rintro(g | ⟨g,_⟩ | g)
    ·exact .inl g
    ·exact absurd g.symm hj
    ·exact .inr g
 ·exact Ua6.2 ⟨hp.1,hp2.2,fun x hx y hy=>hp.2.2 x hx y (by simp [hy])⟩
theorem Zfn{C:ZJ}:∀{l1 l2:List OP} {s:St} {K:St->Prop},Vc C (l1++l2) s K=Vc C l1 s fun s' => Vc C l2 s' K
 | [],_,_,_=>rfl
 | o::r,l2,s,K=>by simp only[List.cons_append,Vc];congr 1;funext s';exact Zfn
theorem Zfo:∀(R:List (Nat×OP)),∃ R1 R2,R=R1++R2/\(∀ x∈R1,qt x.2=true)/\∀ x r,R2=x::r->qt x.2=false
 | []=>⟨[],[],rfl,fun _ h=>(by cases h),fun _ _ h=>(by cases h)⟩
 | x::r=>by
  by_cases h:qt x.2=true
  ·obtain⟨R1,R2,h1,h2,h3⟩:=Zfo r;refine⟨x::R1,R2,by rw[h1];rfl,fun y hy=>?_,h3⟩;rcases UaF.1 hy with rfl | hy
   ·exact h
   ·exact h2 y hy
  ·exact⟨[],x::r,rfl,fun _ h=>(by cases h),fun y s hs=>by cases hs;simpa using h⟩
theorem Sim.lw(h:Sim F G s a w):Lw s.lvl s.out:=fun i cells hl hc=>by
 have hlt:=h.outl i _ hc;have hs:s.sto i=some (.bx cells):=by rw[WY,ZaJ hl];exact hc
 exact JK (fun j (hj:j.1<i.1+1) e=>by omega) _ (h.ok.low i cells hs)
theorem ZsD{ops:Array Oper}{l:List OP}{Q:Exit->Act->World->Prop}{K:St->Prop}(hc:X7 P F.nt ops l ops.toList=true)(hd:ZaK ops l=true)
  (hq:∀ st' G' a' w',K st'->Sim F G' st' a' w'->Q .normal a' w'):∀(fuel:Nat) (listed:Array Bool) (Rs Rl:List (Nat×OP)) (s st0:St) (G:Gh) (a:Act) (w:World),
  listed.size=ops.size->Cl ops.toList listed->Todo l listed (Rs++Rl)->(Rs++Rl).length=fuel->(∀ x∈Rs,qt x.2=true)->(∀ x r,Rl=x::r->qt x.2=false)->Sim F G s a w ->
  Qn (Sem P) s.lvl (Rs.map (·.2)) (fun t=>lk t s.env) (fun k=>lkO k s.loc) s.out (fun t=>lk t st0.env) (fun k=>lkO k st0.loc) st0.out->st0.lvl=s.lvl->Vc (Sem P) (Rl.map (·.2)) st0 K->wpAny P .any ops Q fuel listed a w:=by
 obtain⟨hlen,hat⟩:=Zfm hc;simp only[ZaK,Ube,Ub9] at hd;have hed:=hd;have hlen':l.length=ops.size:=by rw[hlen];simp
 have edges:∀(i:Nat) (oper:Oper) (o:OP),ops[i]? = some oper->l[i]? = some o->(∀ e∈oper.after,Region.binds .any e=true->e.on<i) /\
   ∀ j p (listed:Array Bool),Cl ops.toList listed->(∀ e∈oper.after,Region.binds .any e=true->listed.getD e.on false=true)->j<i->l[j]? = some p->listed.getD j false=true\/Q3 p o=true:=fun i oper o ho hl=>by
  have hi:i<ops.size:=(UaE.1 ho).1;have h1:=hed i hi;rw[ho,hl] at h1;simp only[Uae,Ube,Ub9,Array.all_eq_true_iff_forall_mem,UaO,UaN,decide_eq_true_eq] at h1;refine⟨fun e he hb=>(h1.1 e he).resolve_left (by simp [hb]),fun j p listed hcl he hj hp=>?_⟩;have:=h1.2 j hj;rw[hp] at this;rcases this with h2 | h2
  ·refine .inl ?_;have hg:=ZjT hcl ops.toList [] (by simp) (by simp) (fun i B oper hB=>by simp at hB);cases hq2:(Zco ops.toList [])[i]? with
   | none=>simp [List.getD,hq2] at h2
   | some B=>exact hg i B oper hq2 (by simpa using ho) he j (by simpa [List.getD,hq2] using h2)
  ·exact .inr h2
 have left:∀(listed:Array Bool) (R:List (Nat×OP)),listed.size=ops.size->Todo l listed R->R≠[]->Region.ready .any ops listed≠[]:=fun listed R hs ht hne=>by
  cases R with
  | nil=>exact absurd rfl hne
  | cons x R =>
   obtain⟨i,o⟩:=x;obtain⟨hl,hli⟩:=(ht.mem i o).1 (by simp);have hi:i<ops.size:=by rw[<-hlen'];exact(Uad.1 hl).1
   obtain⟨oper,ho⟩:∃ oper,ops[i]? = some oper:=⟨_,UaY hi⟩;have:i∈Region.ready .any ops listed:=by
    rw[mem_ready];refine⟨by simp [UaH,hli],oper,ho,fun e he hb=>?_⟩;have hlt:=(edges i oper o ho hl).1 e he hb;have hes:e.on<listed.size:=by omega
    cases hq:listed[e.on]? with
    | none=>rw[Array.getElem?_eq_none_iff] at hq;omega
    | some b =>
     cases b with
     | true=>simp [UaH,hq]
     | false =>
      exfalso;have hel:e.on<l.length:=by omega
      have:=(ht.mem e.on l[e.on]).2 ⟨Uak hel,hq⟩;rcases UaF.1 this with h | h
      ·have:=congrArg Prod.fst h;simp at this;omega
      ·have:=(Ua4.1 ht.sort).1 _ h;have:i<e.on:=this;omega
   intro h;rw[h] at this;cases this
 intro fuel
 induction fuel with
 | zero =>
  intro listed Rs Rl s st0 G a w hs hcl ht hR _ _ h hrun e1 hw;have hR:Rs++Rl=[]:=Uay hR;obtain⟨rfl,rfl⟩:=List.append_eq_nil_iff.1 hR;refine⟨?_,hq st0 G a w hw (h.congr e1 hrun.2.2 hrun.1 hrun.2.1)⟩;cases hrd:Region.ready .any ops listed with
  | nil=>rfl
  | cons i r =>
   exfalso;have hi:i∈Region.ready .any ops listed:=by rw[hrd];simp
   obtain⟨h1,oper,ho,_⟩:=mem_ready.1 hi;have hi':i<ops.size:=(UaE.1 ho).1;have hl:i<l.length:=by omega
   have hli:i<listed.size:=(by omega);have:=(ht.mem i l[i]).2 ⟨Uak hl,by rw[UaY hli];simp [UaH,UaY hli] at h1;rw[h1]⟩;cases this
 | succ fuel ih =>
  intro listed Rs Rl s st0 G a w hs hcl ht hR hsil hhd h hrun e1 hw;have hne:Rs++Rl≠[]:=by intro h;rw[h] at hR;cases hR
  refine⟨fun h0=>absurd h0 (left listed _ hs ht hne),fun i hi=>?_⟩;obtain⟨h1,oper,ho,hall⟩:=mem_ready.1 hi;have hi':i<ops.size:=(UaE.1 ho).1;have hl:i<l.length:=by omega
  have hli:i<listed.size:=by omega
  have hlo:l[i]? = some l[i]:=Uak hl;have hmem:=(ht.mem i l[i]).2 ⟨hlo,by rw[UaY hli];simp [UaH,UaY hli] at h1;rw[h1]⟩;generalize l[i]=o at hlo hmem;have hready:∀ e∈oper.after,Region.binds .any e=true->listed.getD e.on false=true:=hall;have hcl':Cl ops.toList (listed.setIfInBounds i true):=hcl.take fun oper' ho' => by have:ops[i]? = some oper':=(by simpa using ho');rw[ho] at this;cases this;exact hready
  have hbef:∀ j p,(j,p)∈Rs++Rl->j<i->Q3 p o=true:=fun j p hj hlt=>by
   obtain⟨hjl,hjf⟩:=(ht.mem j p).1 hj;rcases (edges i oper o ho hlo).2 j p listed hcl hready hlt hjl with h2 | h2
   ·simp [UaH,hjf] at h2
   ·exact h2
  rcases Uaq.1 hmem with hm | hm
  ·obtain⟨R1,R2,rfl⟩:=List.append_of_mem hm;have ht':Todo l listed (R1++(i,o)::(R2++Rl)):=by simpa using ht
   have hp:=Ua6.1 ht'.sort;have hind:∀ p∈R1.map (·.2),Q3 p o=true:=fun p hp1=>by obtain⟨⟨j,p'⟩,hj,rfl⟩:=Uau.1 hp1;exact hbef j p' (by simp [hj]) (hp.2.2 _ hj (i,o) (by simp))
   rw[Uaw,Uah] at hrun;obtain⟨ρ1,σ1,out1,g1,g3⟩:=ZsC (o:=o) (hsil (i,o) (by simp)) hind (fun x=>h.men_x x) (fun id h=>h) (fun id cells _ hc=>h.cells_live hc) h.lw hrun;have hop:=Zsp (st:=s) g1;have key:=Ze3 (ops:=ops) (Q:=Q) (next:=wpAny P .any ops Q fuel (listed.setIfInBounds i true)) h (hat i o oper hlo (by simpa using ho)) hop (fun st' G' a' w' hk h' => by
    refine ih (listed.setIfInBounds i true) (R1++R2) Rl st' st0 G' a' w' (by simp [hs]) hcl' (by simpa using ht'.take) (by simp at hR ⊢;omega) (fun x hx=>hsil x (by
     rcases Uaq.1 hx with h | h
     ·simp [h]
     ·simp [h])) hhd h' ?_ (e1.trans hk.lvl.symm) hw
    rw[Uaw,hk.lvl,hk.out,hk.env,hk.loc];exact g3)
   unfold wpOp;simp only[ho];by_cases hw2:Region.wanted oper (yielded ops a.tmps)=true
   ·rw[if_pos hw2] at key ⊢;exact .inl key
   ·rw[if_neg hw2] at key ⊢;exact key
  ·cases Rl with
   | nil=>cases hm
   | cons x r =>
    obtain⟨i0,o0⟩:=x;have hl0:=hhd (i0,o0) r rfl;have hp:=Ua6.1 ht.sort;have hio:i0=i/\o0=o:=by
     rcases UaF.1 hm with h2 | h2
     ·cases h2;exact⟨rfl,rfl⟩
     ·have hlt:=(Ua4.1 hp.2.1).1 _ h2;have:=(ZjR (hbef i0 o0 (by simp) hlt)).1;rw[show qt o0=false from hl0] at this;cases this
    obtain⟨rfl,rfl⟩:=hio;have hRs:Rs=[]:=by
     cases Rs with
     | nil=>rfl
     | cons y q =>
      have hlt:=hp.2.2 y (by simp) (i0,o0) (by simp);have:=(ZjR (hbef y.1 y.2 (by simp) hlt)).2;rw[show qt o0=false from hl0] at this;cases this
    subst hRs;have h0:Sim F G st0 a w:=h.congr e1 hrun.2.2 hrun.1 hrun.2.1;obtain⟨R1,R2,rfl,q1,q2⟩:=Zfo r;have hw':Yg (Sem P) o0 st0 fun st' => Vc (Sem P) ((R1++R2).map (·.2)) st' K:=hw;have key:=Ze3 (ops:=ops) (Q:=Q) (next:=wpAny P .any ops Q fuel (listed.setIfInBounds i0 true)) h0 (hat i0 o0 oper hlo (by simpa using ho)) hw' (fun st' G' a' w' hk h' => by
     rw[Uaw,Zfn] at hk;obtain⟨st1,k1,k2,k4⟩:=Zfj (R1.map (·.2)) st' (fun p hp=>by
      obtain⟨x,hx,rfl⟩:=Uau.1 hp;exact q1 x hx) hk
     have ht':Todo l listed ([]++(i0,o0)::(R1++R2)):=ht;exact ih (listed.setIfInBounds i0 true) R1 R2 st' st1 G' a' w' (by simp [hs]) hcl' (by simpa using ht'.take) (by simp at hR ⊢;omega) q1 q2 h' k4 k2 k1)
    unfold wpOp;simp only[ho];by_cases hw2:Region.wanted oper (yielded ops a.tmps)=true
    ·rw[if_pos hw2] at key ⊢;exact .inl key
    ·rw[if_neg hw2] at key ⊢;exact key
theorem Frm.drew{F:Fr}{G:Gh}{S:Zb}{w w':World}(h:Frm F G S w)(e:Ext w w'):Frm F G S w':=h.ext e
theorem ZsE{ops:Array Oper}{l:List OP}{Q:Exit->Act->World->Prop}{K:St->Prop}{id:Nat}(hm:P.follows .mixedOrders=true)(hc:X7 P F.nt ops l ops.toList=true)(hd:ZaK ops l=true)(h:Sim F G s a w)(he:Vc (Sem P) l s K)
  (hq:∀ st' G' a' w',K st'->Sim F G' st' a' w'->Q .normal a' w'):(Code.region id ops true).wp P Q a w:=by
 obtain⟨hlen,hat⟩:=Zfm hc;have hlen':l.length=ops.size:=by rw[hlen];simp
 have hw:Sim F G s a { w with drawn:=w.drawn+1 }:=h.ext ⟨Ual _,fun _ _=>rfl,rfl,rfl,rfl⟩;have hmap:(l.zipIdx.map fun x=>(x.2,x.1)).map (·.2)=l:=by rw[UbD];have:=List.zipIdx_map_fst 0 l;exact this
 obtain⟨R1,R2,hR,q1,q2⟩:=Zfo (l.zipIdx.map fun x=>(x.2,x.1));have he':=he;rw[<-hmap,hR,Uaw,Zfn] at he';obtain⟨st1,k1,k2,k4⟩:=Zfj (R1.map (·.2)) s (fun p hp=>by
  obtain⟨x,hx,rfl⟩:=Uau.1 hp;exact q1 x hx) he'
 have hTodo:Todo l (Array.replicate ops.size false) (R1++R2):=by
  rw[<-hR];refine⟨fun i o=>?_,?_⟩
  ·constructor
   ·intro hi;obtain⟨⟨p,j⟩,hj,he⟩:=Uau.1 hi;cases he;have hg:=List.mem_zipIdx_iff_getElem?.1 hj;refine⟨hg,?_⟩;have:j<ops.size:=by rw[<-hlen'];exact(Uad.1 hg).1
    simp [this]
   ·rintro⟨hg,_⟩
    exact Uau.2 ⟨(o,i),List.mem_zipIdx_iff_getElem?.2 hg,rfl⟩
  ·rw[Ub1];have:∀(l:List OP) (n:Nat),(l.zipIdx n).Pairwise (fun a b=>a.2<b.2):=by
    intro l
    induction l with
    | nil=>intro n;exact List.Pairwise.nil
    | cons x r ih =>
     intro n;rw[List.zipIdx_cons];refine Ua4.2 ⟨fun y hy=>?_,ih _⟩;have:=List.le_snd_of_mem_zipIdx hy;show n<y.2;omega
   exact this l 0
 exact wp_region_any hm (ZsD hc hd hq ops.size _ R1 R2 s st1 G a _ (by simp) (fun i oper _ hl=>by simp [UaH,Array.getElem?_replicate] at hl;split at hl<;>cases hl) hTodo (by rw[<-hR];simp [hlen']) q1 q2 hw k4 k2 k1)
end
variable [Tabs]
def J7(P:Program)(nt:Nat):C2->Code->Bool
 | .fg _ _ c,d=>J7 P nt c d
 | .no,_=>true
 | .sk,.skip=>true
 | .sk,.label _=>true
 | .rg _ l,.region _ ops dr=>X7 P nt ops l ops.toList&&(!dr || (ZaK ops l&&P.follows .mixedOrders))
 | .sq a b,.seq c d=>J7 P nt a c&&J7 P nt b d
 | .cd x a b,.cond y c d=>ZB x y&&J7 P nt a c&&J7 P nt b d
 | .bl i c,.block j d=>i == j&&J7 P nt c d
 | .lp _ _ c,.loop d=>J7 P nt c d
 | .ex i,.exit j=>i == j
 | .rt,.ret=>true
 | _,_=>false
theorem Wl{P:Program}{nt:Nat}{c2:C2}{c:Code}(hno:c2 ≠ .no)(h:J7 P nt c2 c=true) :
  (∃ ks js c3,c2 = .fg ks js c3/\J7 P nt c3 c=true)\/(c2 = .sk/\c = .skip)\/(∃ l,c2 = .sk/\c = .label l) \/
  (∃ n l id ops dr,c2 = .rg n l/\c = .region id ops dr/\X7 P nt ops l ops.toList=true/\(dr=true->ZaK ops l=true/\P.follows .mixedOrders=true)) \/
  (∃ a b x y,c2 = .sq a b/\c = .seq x y/\J7 P nt a x=true/\J7 P nt b y=true) \/
  (∃ u a b v x y,c2 = .cd u a b/\c = .cond v x y/\ZB u v=true/\J7 P nt a x=true/\J7 P nt b y=true) \/
  (∃ i a x,c2 = .bl i a/\c = .block i x/\J7 P nt a x=true)\/(∃ ks js a x,c2 = .lp ks js a/\c = .loop x/\J7 P nt a x=true) \/
  (∃ i,c2 = .ex i/\c = .exit i)\/(c2 = .rt/\c = .ret):=by
 cases c2 with
 | no=>exact absurd rfl hno
 | fg ks js c3=>exact .inl ⟨ks,js,c3,rfl,by simpa only[J7] using h⟩
 | sk =>
  cases c<;>simp only[J7] at h<;>try contradiction
  ·exact .inr (.inl ⟨rfl,rfl⟩)
  ·exact .inr (.inr (.inl ⟨_,rfl,rfl⟩))
 | rg n l =>
  cases c<;>simp only[J7] at h<;>try contradiction
  rename_i id ops dr;simp only[Uae,UaO,UaN] at h;exact .inr (.inr (.inr (.inl ⟨n,l,id,ops,dr,rfl,rfl,h.1,fun hd=>h.2.resolve_left (by simp [hd])⟩)))
 | sq a b =>
  cases c<;>simp only[J7] at h<;>try contradiction
  simp only[Uae] at h;exact .inr (.inr (.inr (.inr (.inl ⟨a,b,_,_,rfl,rfl,h.1,h.2⟩))))
 | cd u a b =>
  cases c<;>simp only[J7] at h<;>try contradiction
  simp only[Uae] at h;exact .inr (.inr (.inr (.inr (.inr (.inl ⟨u,a,b,_,_,_,rfl,rfl,h.1.1,h.1.2,h.2⟩)))))
 | bl i a =>
  cases c<;>simp only[J7] at h<;>try contradiction
  simp only[Uae,beq_iff_eq] at h;obtain⟨rfl,h⟩:=h;exact .inr (.inr (.inr (.inr (.inr (.inr (.inl ⟨i,a,_,rfl,rfl,h⟩))))))
 | lp ks js a =>
  cases c<;>simp only[J7] at h<;>try contradiction
  exact .inr (.inr (.inr (.inr (.inr (.inr (.inr (.inl ⟨ks,js,a,_,rfl,rfl,h⟩)))))))
 | ex i =>
  cases c<;>simp only[J7] at h<;>try contradiction
  simp only[beq_iff_eq] at h;subst h;exact .inr (.inr (.inr (.inr (.inr (.inr (.inr (.inr (.inl ⟨i,rfl,rfl⟩))))))))
 | rt =>
  cases c<;>simp only[J7] at h<;>try contradiction
  exact .inr (.inr (.inr (.inr (.inr (.inr (.inr (.inr (.inr ⟨rfl,rfl⟩))))))))
section
variable {P:Program} {F:Fr}
theorem ZsF:∀(c2:C2) (c:Code) (Q2:Ex->St->Prop) (Q:Exit->Act->World->Prop) (st:St) (G:Gh) (a:Act) (w:World),J7 P F.nt c2 c=true->wp (Sem P) c2 st Q2->Sim F G st a w ->
  (∀ ex st' G' a' w',Q2 ex st'->Sim F G' st' a' w'->Q (ZrX ex) a' w')->c.wp P Q a w:=by
 intro c2
 induction c2 with
 | no =>
  intro c Q2 Q st G a w hc he h hq;exact False.elim he
 | sk =>
  intro c Q2 Q st G a w hc he h hq;rcases Wl (fun e=>by cases e) hc with ⟨_,_,_,g,_⟩ | ⟨_,rfl⟩ | ⟨l,_,rfl⟩ | ⟨_,_,_,_,_,g,_⟩ | ⟨_,_,_,_,g,_⟩ | ⟨_,_,_,_,_,_,g,_⟩ | ⟨_,_,_,g,_⟩ | ⟨_,_,_,_,g,_⟩ | ⟨_,g,_⟩ | ⟨g,_⟩<;>try (cases g)
  ·exact wp_skip (hq .nrm st G a w he h)
  ·exact wp_label (hq .nrm st G a w he h)
 | rg n l =>
  intro c Q2 Q st G a w hc he h hq;rcases Wl (fun e=>by cases e) hc with ⟨_,_,_,g,_⟩ | ⟨g,_⟩ | ⟨_,g,_⟩ | ⟨_,_,id,ops,dr,g,rfl,h1,h2⟩ | ⟨_,_,_,_,g,_⟩ | ⟨_,_,_,_,_,_,g,_⟩ | ⟨_,_,_,g,_⟩ | ⟨_,_,_,_,g,_⟩ | ⟨_,g,_⟩ | ⟨g,_⟩<;>try (cases g)
  cases dr with
  | false =>
   refine wp_region ?_;have:=Zjl (Q:=Q) l ops.toList 0 st G a w h h1 rfl he (fun st' G' a' w' hk hs=>hq .nrm st' G' a' w' hk hs);rw[List.range_eq_range'];simpa using this
  | true=>exact ZsE (h2 rfl).2 h1 (h2 rfl).1 h he (fun st' G' a' w' hk hs=>hq .nrm st' G' a' w' hk hs)
 | sq a2 b2 iha ihb =>
  intro c Q2 Q st G a w hc he h hq;rcases Wl (fun e=>by cases e) hc with ⟨_,_,_,g,_⟩ | ⟨g,_⟩ | ⟨_,g,_⟩ | ⟨_,_,_,_,_,g,_⟩ | ⟨_,_,x,y,g,rfl,h1,h2⟩ | ⟨_,_,_,_,_,_,g,_⟩ | ⟨_,_,_,g,_⟩ | ⟨_,_,_,_,g,_⟩ | ⟨_,g,_⟩ | ⟨g,_⟩<;>try (cases g)
  refine wp_seq (iha x _ _ st G a w h1 he h (fun ex st' G' a' w' hk hs=>?_));cases ex with
  | nrm=>exact ihb y Q2 Q st' G' a' w' h2 hk hs hq
  | ext i=>exact hq _ st' G' a' w' hk hs
  | ret=>exact hq _ st' G' a' w' hk hs
 | cd u a2 b2 iha ihb =>
  intro c Q2 Q st G a w hc he h hq;rcases Wl (fun e=>by cases e) hc with ⟨_,_,_,g,_⟩ | ⟨g,_⟩ | ⟨_,g,_⟩ | ⟨_,_,_,_,_,g,_⟩ | ⟨_,_,_,_,g,_⟩ | ⟨_,_,_,v,x,y,g,rfl,h0,h1,h2⟩ | ⟨_,_,_,g,_⟩ | ⟨_,_,_,_,g,_⟩ | ⟨_,g,_⟩ | ⟨g,_⟩<;>try (cases g)
  simp only[wp] at he;split at he<;>try contradiction
  rename_i t hu;have hv:=h.x h0;rw[hu] at hv;have hv:=hv.val.1;exact wp_cond_split hv (fun ht=>iha x Q2 Q st G a w h1 (he.1 ht) h hq) (fun ht=>ihb y Q2 Q st G a w h2 (he.2 ht) h hq)
 | bl i a2 iha =>
  intro c Q2 Q st G a w hc he h hq;rcases Wl (fun e=>by cases e) hc with ⟨_,_,_,g,_⟩ | ⟨g,_⟩ | ⟨_,g,_⟩ | ⟨_,_,_,_,_,g,_⟩ | ⟨_,_,_,_,g,_⟩ | ⟨_,_,_,_,_,_,g,_⟩ | ⟨_,_,x,g,rfl,h1⟩ | ⟨_,_,_,_,g,_⟩ | ⟨_,g,_⟩ | ⟨g,_⟩<;>try (cases g)
  refine wp_block (iha x _ _ st G a w h1 he h (fun ex st' G' a' w' hk hs=>?_));cases ex with
  | nrm=>exact hq _ st' G' a' w' hk hs
  | ext j =>
   dsimp only at hk;show Exit.inBlock i Q (.exit j) a' w';simp only[Exit.inBlock];by_cases hj:j=i
   ·rw[if_pos hj] at hk ⊢;exact hq _ st' G' a' w' hk hs
   ·rw[if_neg hj] at hk ⊢;exact hq _ st' G' a' w' hk hs
  | ret=>exact hq _ st' G' a' w' hk hs
 | lp ks js a2 iha =>
  intro c Q2 Q st G a w hc he h hq;rcases Wl (fun e=>by cases e) hc with ⟨_,_,_,g,_⟩ | ⟨g,_⟩ | ⟨_,g,_⟩ | ⟨_,_,_,_,_,g,_⟩ | ⟨_,_,_,_,g,_⟩ | ⟨_,_,_,_,_,_,g,_⟩ | ⟨_,_,_,g,_⟩ | ⟨_,_,_,x,g,rfl,h1⟩ | ⟨_,g,_⟩ | ⟨g,_⟩<;>try (cases g)
  obtain⟨I,⟨hcl,n0,hn0⟩,hround⟩:=he;refine wp_loop_ghost (fun n a w=>∃ s G,I n s/\Sim F G s a w) n0 ⟨_,G,hn0,h.fgt hcl⟩ (fun n a w ⟨s,G,hI,hs⟩=>?_);refine iha x _ _ s G a w h1 (hround n s hI) hs (fun ex st' G' a' w' hk hs' => ?_);cases ex with
  | nrm =>
   obtain⟨hc',m,hm,hI'⟩:=hk;exact⟨m,hm,_,G',hI',hs'.fgt hc'⟩
  | ext j=>exact hq _ st' G' a' w' hk hs'
  | ret=>exact hq _ st' G' a' w' hk hs'
 | fg ks js a2 iha =>
  intro c Q2 Q st G a w hc he h hq;rcases Wl (fun e=>by cases e) hc with ⟨_,_,_,g,h1⟩ | ⟨g,_⟩ | ⟨_,g,_⟩ | ⟨_,_,_,_,_,g,_⟩ | ⟨_,_,_,_,g,_⟩ | ⟨_,_,_,_,_,_,g,_⟩ | ⟨_,_,_,g,_⟩ | ⟨_,_,_,_,g,_⟩ | ⟨_,g,_⟩ | ⟨g,_⟩<;>try (cases g)
  exact iha c Q2 Q _ G a w h1 he.2 (h.fgt he.1) hq
 | ex i =>
  intro c Q2 Q st G a w hc he h hq;rcases Wl (fun e=>by cases e) hc with ⟨_,_,_,g,_⟩ | ⟨g,_⟩ | ⟨_,g,_⟩ | ⟨_,_,_,_,_,g,_⟩ | ⟨_,_,_,_,g,_⟩ | ⟨_,_,_,_,_,_,g,_⟩ | ⟨_,_,_,g,_⟩ | ⟨_,_,_,_,g,_⟩ | ⟨_,g,rfl⟩ | ⟨g,_⟩<;>try (cases g)
  exact wp_exit (hq (.ext i) st G a w he h)
 | rt =>
  intro c Q2 Q st G a w hc he h hq;rcases Wl (fun e=>by cases e) hc with ⟨_,_,_,g,_⟩ | ⟨g,_⟩ | ⟨_,g,_⟩ | ⟨_,_,_,_,_,g,_⟩ | ⟨_,_,_,_,g,_⟩ | ⟨_,_,_,_,_,_,g,_⟩ | ⟨_,_,_,g,_⟩ | ⟨_,_,_,_,g,_⟩ | ⟨_,g,_⟩ | ⟨_,rfl⟩<;>try (cases g)
  exact wp_ret (hq .ret st G a w he h)
end
variable [Tabs]
def OEm(st0:St):Option Zd->Ob->Prop
 | some id,ob=>∃ k es u hw ver,st0.sto id=some (.ar k es u hw ver)/\ob = .ar k es u es.length 0
 | none,ob=>∃ k,ob = .ar k [] true 0 0
def OE(st0:St):List (Option Zd)->List Ob->Prop
 | [],obs=>obs=[]
 | e::r,obs=>∃ ob s,obs=ob::s/\OEm st0 e ob/\OE st0 r s
theorem Zfp{st0:St}:∀{E:List (Option Zd)} {obs:List Ob},OE st0 E obs->obs.length=E.length
 | [],_,h=>by rw[show _=[] from h];rfl
 | e::r,_,⟨ob,s,h1,_,h3⟩=>by rw[h1];simp [Zfp h3]
theorem ZjU{st0:St}:∀{E E2:List (Option Zd)} {obs obs2:List Ob},OE st0 E obs->OE st0 E2 obs2->OE st0 (E++E2) (obs++obs2)
 | [],_,_,_,h,h2=>by rw[show _=[] from h];exact h2
 | e::r,_,_,_,⟨ob,s,h1,h2,h3⟩,h4=>by rw[h1];exact⟨ob,_,rfl,h2,ZjU h3 h4⟩
theorem Zcp{st0:St}:∀{E:List (Option Zd)} {obs:List Ob},OE st0 E obs->∀(j:Nat) (e:Option Zd),E[j]? = some e->∃ ob,obs[j]? = some ob/\OEm st0 e ob
 | [],_,_,j,e,h=>by simp at h
 | e0::r,_,⟨ob,s,h1,h2,h3⟩,j,e,h=>by
  subst h1;cases j with
  | zero=>simp at h;subst h;exact⟨ob,rfl,h2⟩
  | succ j=>exact Zcp h3 j e (by simpa using h)
structure XS (st0 st:St) (T:Zd->Prop) (E:List (Option Zd)):Prop where
 kl:Kl (fun i=>T i\/some i∈E) st0 st
 nd:∀(a b:Nat) (id:Zd),E[a]? = some (some id)->E[b]? = some (some id)->a=b
 dj:∀ id,some id∈E -> ¬ T id
structure FinS (G:Gh) (st0:St) (w:World) (T:Zd->Prop) (E:List (Option Zd)) (G':Gh) (S':Zb):Prop where
 old:∀ i ob,i.1≠st0.lvl->st0.sto i=some ob->S' i=some ob/\G' i=G i
 av:∀ b,b<w.heap.size->(∀ id ob,st0.sto id=some ob->ZM G id ob b->T id)->Av G' S' w b
 ex:∀(j:Nat) (id:Zd),E[j]? = some (some id)->G' (st0.lvl,j)=G id/\∃ k es u hw ver,st0.sto id=some (.ar k es u hw ver)/\S' (st0.lvl,j)=some (.ar k es u es.length 0)
 nil:∀ j:Nat,E[j]? = some none->G' (st0.lvl,j)=(fun _=>none)/\∃ k,S' (st0.lvl,j)=some (.ar k [] true 0 0)
def ZsG(G:Gh)(st0:St)(w:World)(T:Zd->Prop)(E:List (Option Zd))(j0:Nat)(y:IV)(v:Value):Prop :=
 ∀(T2:Zd->Prop) (E2:List (Option Zd)) (G':Gh) (S':Zb),(∀ i,T i->T2 i)->(∀(j:Nat) (e:Option Zd),E[j]? = some e->E2[j]? = some e)->FinS G st0 w T2 E2 G' S'->VR G' S' w (impv true st0.lvl 0 j0 y).1 v
def ZsH(G:Gh)(st0:St)(w:World)(T:Zd->Prop)(E:List (Option Zd))(j0:Nat)(y:List IV)(v:List Value):Prop :=
 ∀(T2:Zd->Prop) (E2:List (Option Zd)) (G':Gh) (S':Zb),(∀ i,T i->T2 i)->(∀(j:Nat) (e:Option Zd),E[j]? = some e->E2[j]? = some e)->FinS G st0 w T2 E2 G' S'->Zu G' S' w (impvs true st0.lvl 0 j0 y).1 v
section
variable {P:Program} {F:Fr} {G:Gh} {st0 st:St} {a:Act} {w:World} {T:Zd->Prop} {E:List (Option Zd)}
theorem XS.nil(st0:St):XS st0 st0 (fun _=>False) [] :=
 ⟨by
  have:=Kl.refl st0;rw[show (fun i=>(fun _=>False) i\/some i∈([]:List (Option Zd)))=fun _=>False from by funext i;simp];exact this,fun a b id h=>by simp at h,fun id h=>by cases h⟩
theorem XS.alive(x:XS st0 st T E){id:Zd}{ob:Ob}(h:st.sto id=some ob):¬ T id/\some id ∉ E/\∃ ob0,st0.sto id=some ob0/\Wk (fun i=>T i\/some i∈E) ob0 ob:=by obtain⟨h1,h2⟩:=x.kl.only id ob h;exact⟨fun h=>h1 (.inl h),fun h=>h1 (.inr h),h2⟩
theorem XS.melt(h0:Sim F G st0 a w)(x:XS st0 st T E){id:Zd}{ob:Ob}(hid:id.1=st0.lvl)(hs:st.sto id=some ob):XS st0 (Zw id st) (fun i=>T i\/i=id) E:=by
 obtain⟨a1,a2,ob0,a3,_⟩:=x.alive hs;have k:=x.kl.step (id:=id) (fun i cells h=>h0.ok.low i cells h) h0.outl hid (by rw[a3];rfl);refine⟨?_,x.nd,fun i hi=>?_⟩
 ·rw[show (fun i=>(T i\/i=id)\/some i∈E)=fun i=>(T i\/some i∈E)\/i=id from by funext i;exact propext ⟨fun h=>by rcases h with (h | h) | h<;>simp [h],fun h=>by rcases h with (h | h) | h<;>simp [h]⟩];exact k
 ·rintro(h | h)
  ·exact x.dj i hi h
  ·subst h;exact a2 hi
theorem XS.hand(h0:Sim F G st0 a w)(x:XS st0 st T E){id:Zd}{ob:Ob}(hid:id.1=st0.lvl)(hs:st.sto id=some ob):XS st0 (Zw id st) T (E++[some id]):=by
 obtain⟨a1,a2,ob0,a3,_⟩:=x.alive hs;have k:=x.kl.step (id:=id) (fun i cells h=>h0.ok.low i cells h) h0.outl hid (by rw[a3];rfl);have hmem:∀(a:Nat) (i:Zd),(E++[some id])[a]? = some (some i)->E[a]? = some (some i)\/(i=id/\a=E.length):=fun a i h=>by
  rw[UbT] at h;split at h
  ·exact .inl h
  ·rename_i hl;have:a-E.length=0:=by
    rcases Nat.eq_zero_or_pos (a-E.length) with h' | h'
    ·exact h'
    ·rw[UaX (by simp;omega)] at h;cases h
   rw[this] at h;simp at h;exact .inr ⟨h.symm,by omega⟩
 refine⟨?_,fun a b i ha hb=>?_,fun i hi=>?_⟩
 ·rw[show (fun i=>T i\/some i∈E++[some id])=fun i=>(T i\/some i∈E)\/i=id from by funext i;simp [or_assoc]];exact k
 ·rcases hmem a i ha with h1 | ⟨rfl,h1⟩<;>rcases hmem b i hb with h2 | ⟨h3,h2⟩
  ·exact x.nd a b i h1 h2
  ·subst h3;exact absurd (Uaf h1) a2
  ·exact absurd (Uaf h2) a2
  ·omega
 ·rcases Uaq.1 hi with h | h
  ·exact x.dj i h
  ·simp at h;subst h;exact a1
theorem XS.hnil(x:XS st0 st T E):XS st0 st T (E++[none]):=by
 refine⟨?_,fun a b i ha hb=>?_,fun i hi=>x.dj i (by simpa using hi)⟩
 ·rw[show (fun i=>T i\/some i∈E++[none])=fun i=>T i\/some i∈E from by funext i;simp];exact x.kl
 ·have key:∀ c:Nat,(E++[none])[c]? = some (some i)->E[c]? = some (some i):=fun c h=>by
   rw[UbT] at h;split at h
   ·exact h
   ·have:=Uaf h;simp at this
  exact x.nd a b i (key a ha) (key b hb)
theorem FinS.mono{G':Gh}{S':Zb}(f:FinS G st0 w T E G' S')(b:Nat)(h:Av G st0.sto w b):Av G' S' w b :=
 f.av b h.1 fun id ob hs ho=>absurd ho (h.2 id ob hs)
theorem FinS.ids{G':Gh}{S':Zb}(f:FinS G st0 w T E G' S')(i:Zd)(ob:Ob)(hi:i.1≠st0.lvl)(hs:st0.sto i=some ob):∃ ob',S' i=some ob'/\idR G G' i ob ob':=by obtain⟨h1,h2⟩:=f.old i ob hi hs;exact⟨ob,h1,Qg h2 ob⟩
theorem FinS.vr{G':Gh}{S':Zb}(f:FinS G st0 w T E G' S')(x:IV)(v:Value)(hm:men (fun i=>i.1≠st0.lvl) x)(h:VR G st0.sto w x v):VR G' S' w x v :=
 X5 (P:=fun i=>i.1≠st0.lvl) f.mono (fun _ _=>rfl) f.ids x v hm h
theorem FinS.vrs{G':Gh}{S':Zb}(f:FinS G st0 w T E G' S')(x:List IV)(v:List Value)(hm:Zc (fun i=>i.1≠st0.lvl) x)(h:Zu G st0.sto w x v):Zu G' S' w x v :=
 QT (P:=fun i=>i.1≠st0.lvl) f.mono (fun _ _=>rfl) f.ids x v hm h
def CellOk(F:Fr)(G:Gh)(st0:St)(w:World)(T:Zd->Prop)(E:List (Option Zd))(v:Value)(K:IV->St->Prop):Prop :=
 ∃ y st' T' e obs,K y st'/\XS st0 st' T' (E++e)/\(∀ i,T i->T' i)/\low F.lvl y/\OE st0 e obs/\(impv true st0.lvl 0 E.length y).2=obs/\ZsG G st0 w T' (E++e) E.length y v
theorem CellOk.plain{v:Value}{K:IV->St->Prop}(hl:F.lvl=st0.lvl)(x:XS st0 st T E){y:IV}(hk:K y st)(h1:(impv true st0.lvl 0 E.length y)=(y,[]))(hm:low st0.lvl y)(hv:VR G st0.sto w y v):CellOk F G st0 w T E v K:=by refine⟨y,st,T,[],[],hk,by simpa using x,fun _ h=>h,by rw[hl];exact hm,rfl,by rw[h1],fun T2 E2 G' S' _ _ f=>?_⟩;rw[h1];exact f.vr y v (JZ (fun i hi=>by have hi:i.1<st0.lvl:=hi;exact Nat.ne_of_lt hi) y hm) hv
theorem ZjV(h0:Sim F G st0 a w)(xs:XS st0 st T E){k:Nat}{x:IV}{v:Value}{K:IV->St->Prop}(hv:VR G st0.sto w x v)(he:Yr k x st K):CellOk F G st0 w T E v K:=by
 have hll:st.lvl=st0.lvl:=xs.kl.lvl;have hout:∀ id,(st0.sto id).isSome=true->id.1≠st0.lvl->id.1<st0.lvl:=fun id hs hn=>by obtain⟨ob,hob⟩:=Uan.1 hs;rw[YS hn] at hob;exact h0.outl id ob hob
 have plain:=fun(y:IV) (hk:K y st) (h1:(impv true st0.lvl 0 E.length y)=(y,[])) (hm:low st0.lvl y) (hv:VR G st0.sto w y v)=>CellOk.plain (F:=F) h0.lvl.symm xs hk h1 hm hv;unfold Yr at he;split at he
 ·rename_i id p off len cap s;split at he
  ·rename_i hid;rw[hll] at hid;split at he<;>try contradiction
   rename_i k' es u hw ver hs;obtain⟨rfl,rfl,he⟩:=he;obtain⟨_,_,ob0,hs0,hwk⟩:=xs.alive hs;cases hwk;split at he
   ·obtain⟨hl,hk⟩:=he;refine⟨_,_,(fun i=>T i\/i=id),[],[],hk,by simpa using xs.melt h0 hid hs,fun i h=>.inl h,trivial,rfl,rfl,fun T2 E2 G' S' hT hE f=>?_⟩;have hr:=WQ (A:=Av G' S' w) h0.ok (fun _ b hb=>f.mono b hb) hs0 (fun b ho=>f.av b (Ys (h0.ok.obs _ _ hs0) ho) fun id' ob' hs' ho' => by
     have:=h0.ok.dis _ _ _ _ b hs' hs0 ho' ho;exact hT _ (.inr this)) hv rfl rfl hl
    exact hr.1
   ·obtain⟨rfl,rfl,rfl,rfl,hk⟩:=he;refine⟨_,_,T,[some id],_,hk,xs.hand h0 hid hs,fun i h=>h,trivial,⟨_,[],rfl,⟨_,_,_,_,_,hs0,rfl⟩,rfl⟩,rfl,fun T2 E2 G' S' hT hE f=>?_⟩;obtain⟨hG,k2,es2,u2,hw2,ver2,hs2,hS⟩:=f.ex E.length id (hE _ _ (by simp));rw[hs0] at hs2;cases hs2;obtain⟨h1,k3,es3,u3,hw3,ver3,hs3,_,h3⟩:=hv;rw[hs0] at hs3;cases hs3;simp only[impv,impc,if_true,Uax];refine⟨h1,_,_,_,_,_,hS,Ual _,fun _=>?_⟩;rw[hG];exact h3 rfl
  ·rename_i hid;rw[hll] at hid;have hsome:(st0.sto id).isSome=true:=by obtain⟨_,k3,es3,u3,hw3,ver3,hs3,_⟩:=hv;rw[hs3];rfl
   exact plain _ he rfl (hout id hsome hid) hv
 ·rename_i es;split at he
  ·rename_i k1;refine⟨_,_,T,[none],_,he,xs.hnil,fun i h=>h,trivial,⟨_,[],rfl,⟨_,rfl⟩,rfl⟩,rfl,fun T2 E2 G' S' hT hE f=>?_⟩;obtain⟨hG,k2,hS⟩:=f.nil E.length (hE _ _ (by simp));obtain⟨⟨ad,rfl⟩,_⟩:=hv;simp only[impv,impc,if_true,Uax,List.length_nil];refine⟨⟨ad,0,rfl,Ual _⟩,_,_,_,_,_,hS,Ual _,fun _=>?_⟩;refine⟨[],k2,ad,0,rfl,fun _=>rfl,fun e he=>(by simp at he),rfl,Ual _,fun m hm=>(by cases hm),fun _ _=>?_,.inl rfl⟩;rw[hG];rfl
  ·exact plain _ he rfl trivial hv.2
 ·rename_i id o;obtain⟨h1,h2⟩:=he;rw[hll] at h1;have hsome:(st0.sto id).isSome=true:=by obtain⟨cells,b,c,hs,_⟩:=hv;rw[hs];rfl
  exact plain _ h2 rfl (hout id hsome h1) hv
 ·exact he.elim
 ·exact he.elim
 ·exact he.elim
 ·exact he.elim
 ·exact he.elim
 ·exact he.elim
 ·rename_i f c;obtain⟨h1,h2⟩:=he;rw[hll] at h1;exact plain _ h2 rfl h1 hv
 ·cases x with
  | un=>exact plain _ he rfl trivial hv
  | tr t=>exact plain _ he rfl trivial hv
  | er=>exact plain _ he rfl trivial hv
  | hd id p off len cap s=>exact(‹∀(id:Zd) (p:Zn) (off len:Nat) (cap:Option Nat) (s:Nat),IV.hd _ _ _ _ _ _=IV.hd id p off len cap s->False› id p off len cap s rfl).elim
  | cs es=>exact(‹∀(es:Row),IV.cs _=IV.cs es->False› es rfl).elim
  | sv id=>exact(‹∀(id:Zd),IV.sv _=IV.sv id->False› id rfl).elim
  | ab id o=>exact(‹∀(id:Zd) (o:Nat),IV.ab _ _=IV.ab id o->False› id o rfl).elim
  | ae id p i f s=>exact(‹∀(id:Zd) (p:Zn) (i f s:Nat),IV.ae _ _ _ _ _=IV.ae id p i f s->False› id p i f s rfl).elim
  | ta c=>exact(‹∀(c:List Tr),IV.ta _=IV.ta c->False› c rfl).elim
  | ag l=>exact(‹∀(l:List IV),IV.ag _=IV.ag l->False› l rfl).elim
  | tu l=>exact(‹∀(l:List IV),IV.tu _=IV.tu l->False› l rfl).elim
  | ow k es u=>exact(‹∀(k:Nat) (es:Row) (u:Bool),IV.ow _ _ _=IV.ow k es u->False› k es u rfl).elim
  | fn f c=>exact(‹∀(f:FuncId) (c:List IV),IV.fn _ _=IV.fn f c->False› f c rfl).elim
end
variable [Tabs]
def CellsOk(F:Fr)(G:Gh)(st0:St)(w:World)(T:Zd->Prop)(E:List (Option Zd))(vs:List Value)(K:List IV->St->Prop):Prop :=
 ∃ ys st' T' e obs,K ys st'/\XS st0 st' T' (E++e)/\(∀ i,T i->T' i)/\Jk F.lvl ys/\OE st0 e obs/\(impvs true st0.lvl 0 E.length ys).2=obs/\ZsH G st0 w T' (E++e) E.length ys vs
section
variable {P:Program} {F:Fr} {G:Gh} {st0 st:St} {a:Act} {w:World} {T:Zd->Prop} {E:List (Option Zd)}
theorem CellsOk.nil{K:List IV->St->Prop}(x:XS st0 st T E)(hk:K [] st):CellsOk F G st0 w T E [] K :=
 ⟨[],st,T,[],[],hk,by simpa using x,fun _ h=>h,trivial,rfl,rfl,fun _ _ _ _ _ _ _=>rfl⟩
theorem CellsOk.cons{v:Value}{vs:List Value}{K:IV->St->Prop}{K2:List IV->St->Prop}(h:CellOk F G st0 w T E v K)(hr:∀ y st' T' E',K y st'->XS st0 st' T' E'->CellsOk F G st0 w T' E' vs (fun ys st'' => K2 (y::ys) st'')) :
  CellsOk F G st0 w T E (v::vs) K2:=by
 obtain⟨y,st1,T1,e1,obs1,hk,hx,ht,hlow,hoe,himp,hg⟩:=h;obtain⟨ys,st2,T2,e2,obs2,hk2,hx2,ht2,hlow2,hoe2,himp2,hg2⟩:=hr y st1 T1 (E++e1) hk hx;have hlen:(E++e1).length=E.length+(impv true st0.lvl 0 E.length y).2.length:=by rw[himp,Zfp hoe];simp
 rw[hlen] at himp2 hg2;refine⟨y::ys,st2,T2,e1++e2,obs1++obs2,hk2,by rw[<-UaR];exact hx2,fun i h=>ht2 i (ht i h),⟨hlow,hlow2⟩,ZjU hoe hoe2,?_,fun T3 E3 G' S' hT hE f=>?_⟩
 ·simp only[impvs];rw[himp2,himp]
 ·simp only[impvs];rw[<-UaR] at hE;refine⟨v,vs,rfl,hg T3 E3 G' S' (fun i h=>hT i (ht2 i h)) (fun j e he=>hE j e ?_) f,hg2 T3 E3 G' S' hT hE f⟩;have:=(Uad.1 he).1;rw[Uav this];exact he
theorem ZjW(h0:Sim F G st0 a w):∀(l:List IV) (ks:List Nat) (vs:List Value) (st:St) (T:Zd->Prop) (E:List (Option Zd)) (K:List IV->St->Prop),XS st0 st T E->Zu G st0.sto w l vs->Xh ks l st K->CellsOk F G st0 w T E vs K
 | [],ks,vs,st,T,E,K,hx,hv,he=>by rw[show vs=[] from hv];simp only[Xh] at he;exact .nil hx he
 | x::r,ks,vs,st,T,E,K,hx,hv,he=>by obtain⟨v,vr,rfl,h1,h2⟩:=hv;simp only[Xh] at he;exact .cons (ZjV h0 hx h1 he) fun y st' T' E' hk hx' => ZjW h0 r ks.tail vr st' T' E' _ hx' h2 hk
theorem Zfq(h0:Sim F G st0 a w)(xs:XS st0 st T E){ks:List Nat}{x:IV}{v:Value}{K:IV->St->Prop}(hv:VR G st0.sto w x v)(he:Y4 ks x st K):CellOk F G st0 w T E v K:=by
 unfold Y4 at he;split at he
 ·rename_i l;obtain⟨vs,rfl,hv⟩:=hv;obtain⟨ys,st2,T2,e2,obs2,hk2,hx2,ht2,hlow2,hoe2,himp2,hg2⟩:=ZjW h0 l ks vs st T E _ xs hv he;refine⟨.ag ys,st2,T2,e2,obs2,hk2,hx2,ht2,by simpa only[men] using hlow2,hoe2,by simpa only[impv] using himp2,fun T3 E3 G' S' hT hE f=>?_⟩;simp only[impv];exact⟨vs,rfl,hg2 T3 E3 G' S' hT hE f⟩
 ·exact ZjV h0 xs hv he
def ZaL(a:Act):ResultVar->_root_.Go.Sem Value
 | .tmp t=>pure (a.tmps.getD t undef)
 | .cell b t=>do loadVar t (<- asAddr (a.tmps.getD b undef))
theorem ZsI(h0:Sim F G st0 a w)(xs:XS st0 st T E){r:RS}{rv:ResultVar}{K:IV->St->Prop}(hc:YQ P [r] [rv]=true)(he:X3 r st K):∃ v,(ZaL a rv).run P w = .ok v w/\CellOk F G st0 w T E v K:=by
 have henv:∀ n,VR G st0.sto w (lk n st.env) (a.tmps.getD n undef):=fun n=>xs.kl.vr n G st0.sto w _ (h0.env n);cases r with
 | k n =>
  cases rv with
  | cell=>simp only[YQ] at hc;cases hc
  | tmp m =>
   simp only[YQ,Uae,beq_iff_eq] at hc;obtain⟨rfl,_⟩:=hc;simp only[X3] at he;split at he<;>try contradiction
   rename_i es hl;have hv:=henv n;rw[hl] at hv;exact⟨_,rfl,CellOk.plain (F:=F) h0.lvl.symm xs he rfl trivial hv⟩
 | t n ks =>
  cases rv with
  | cell=>simp only[YQ] at hc;cases hc
  | tmp m =>
   simp only[YQ,Uae,beq_iff_eq] at hc;obtain⟨rfl,_⟩:=hc;exact⟨_,rfl,Zfq h0 xs (henv n) he⟩
 | c n m ks =>
  cases rv with
  | tmp=>simp only[YQ] at hc;cases hc
  | cell b t =>
   simp only[YQ,Uae,beq_iff_eq] at hc;obtain⟨⟨rfl,hsh⟩,_⟩:=hc;simp only[X3] at he;split at he<;>try contradiction
   rename_i id off hl;have hv:=henv n;rw[hl] at hv;split at he<;>try contradiction
   rename_i cells hs;obtain⟨_,_,ob0,hs0,hwk⟩:=xs.alive hs;cases hwk with
   | bx cells0 _ _ hwv _ =>
    obtain⟨cells1,b1,c1,hs1,hg1,hv⟩:=hv;obtain⟨b,c,vs,ty,hg,hh,hvs⟩:=h0.ok.obs id _ hs0;rw[hg] at hg1;cases hg1;have hvs:=hwv _ _ _ _ hvs;have hcell:∀ j u,vs.toList[j]? = some u->w.cell? ⟨b1,j,none⟩=some u:=fun j u hu=>by rw[cell_of_row w b1 j vs ty (0,0) hh];simpa using hu
    have hrun:∀ u,(loadVar t ⟨b1,off,none⟩).run P w = .ok u w->(ZaL a (.cell n t)).run P w = .ok u w:=fun u hu=>by simp only[ZaL,hv,asAddr,Sem.run_bind,Sem.run_pure,Result.andThen_ok,hu]
    cases m with
    | none =>
     obtain⟨x,hx,_,he⟩:=he;obtain⟨u,hu,hxu⟩:=Y5 hvs off x hx;simp only[Vl,beq_iff_eq] at hsh;exact⟨u,hrun u (Zip hsh (hcell off u hu)),Zfq h0 xs hxu he⟩
    | some m =>
     obtain⟨hle,he⟩:=he;simp only[Vl,Uae,beq_iff_eq] at hsh;have hlen:=YP hvs;have hl2:((vs.toList.drop off).take m).length=m:=by rw[Uai,UaL,hlen];omega
     refine⟨.agg ((vs.toList.drop off).take m).toArray,hrun _ (Zes hsh.1 (by rw[hl2];exact hsh.2) (fun j u hu=>?_)),Zfq (x:=.ag ((cells.drop off).take m)) h0 xs ⟨_,rfl,Zan (Zam hvs off) m⟩ he⟩;rw[YJ];refine hcell _ _ ?_;rw[UaB] at hu;split at hu
     ·simpa using hu
     ·cases hu
theorem Zfr(h0:Sim F G st0 a w):∀(rs:List RS) (rvs:List ResultVar) (st:St) (T:Zd->Prop) (E:List (Option Zd)) (K:List IV->St->Prop),XS st0 st T E->YQ P rs rvs=true->X4 rs st K ->
  ∃ vs,(rvs.mapM (ZaL a)).run P w = .ok vs w/\CellsOk F G st0 w T E vs K
 | [],rvs,st,T,E,K,hx,hc,he=>by
  cases rvs with
  | nil=>exact⟨[],rfl,.nil hx he⟩
  | cons=>simp only[YQ] at hc;cases hc
 | r::rs,rvs,st,T,E,K,hx,hc,he=>by
  cases rvs with
  | nil=>simp only[YQ] at hc;cases hc
  | cons rv rvs =>
   have hc1:YQ P [r] [rv]=true/\YQ P rs rvs=true:=(by cases r<;>cases rv<;>simp_all [YQ]);simp only[X4] at he;obtain⟨v,hv,hk⟩:=ZsI h0 hx hc1.1 he;obtain⟨y,st1,T1,e1,obs1,hk1,hx1,ht1,hlow1,hoe1,himp1,hg1⟩:=hk;obtain⟨vs,hvs,hk2⟩:=Zfr h0 rs rvs st1 T1 (E++e1) _ hx1 hc1.2 hk1;refine⟨v::vs,?_,?_⟩
   ·rw[List.mapM_cons];simp only[Sem.run_bind,hv,Result.andThen_ok,hvs,Sem.run_pure]
   ·refine CellsOk.cons (K:=fun y' st' => y'=y/\st'=st1/\∀ T' E',XS st0 st' T' E'->CellsOk F G st0 w T' E' vs (fun ys st'' => K (y::ys) st'')) ?_ (fun y' st' T' E' hk' hx' => ?_)
    ·refine⟨y,st1,T1,e1,obs1,⟨rfl,rfl,fun T' E' hx' => ?_⟩,hx1,ht1,hlow1,hoe1,himp1,hg1⟩;obtain⟨vs',hvs',hk3⟩:=Zfr h0 rs rvs st1 T' E' _ hx' hc1.2 hk1;rw[hvs] at hvs';cases hvs';exact hk3
    ·obtain⟨rfl,rfl,hh⟩:=hk';exact hh T' E' hx'
theorem ZsJ(h0:Sim F G st0 a w)(x:XS st0 st T E){obs:List Ob}(oe:OE st0 E obs){G':Gh}{S':Zb}(hG1:∀ i,i.1≠st0.lvl->G' i=G i)(hG2:∀(j:Nat) (id:Zd),E[j]? = some (some id)->G' (st0.lvl,j)=G id)
  (hG3:∀ j:Nat,E[j]? = some none->G' (st0.lvl,j)=fun _=>none) (hS1:∀ i,i.1≠st0.lvl->S' i=st0.sto i) (hS2:∀ j:Nat,S' (st0.lvl,j)=obs[j]?):FinS G st0 w T E G' S'/\SOk G' S' w/\∀(L n:Nat),L<=st0.lvl->Frm ⟨G,st0.sto,w,L,n⟩ G' S' w:=by
 have src:∀ i ob,S' i=some ob->(i.1≠st0.lvl/\st0.sto i=some ob)\/(∃ j id k es u hw ver,i=(st0.lvl,j)/\E[j]? = some (some id)/\st0.sto id=some (.ar k es u hw ver)/\ob = .ar k es u es.length 0) \/
   (∃ j k,i=(st0.lvl,j)/\E[j]? = some none/\ob = .ar k [] true 0 0):=fun i ob hs=>by
  by_cases hi:i.1=st0.lvl
  ·right;obtain⟨i1,j⟩:=i;have hi:i1=st0.lvl:=hi;subst hi;rw[hS2] at hs;have hj:j<E.length:=by rw[<-Zfp oe];exact(Uad.1 hs).1
   obtain⟨e,he⟩:∃ e,E[j]? = some e:=⟨_,Uak hj⟩;obtain⟨ob',h1,h2⟩:=Zcp oe j e he;rw[hs] at h1;cases h1;cases e with
   | some id =>
    obtain⟨k,es,u,hw,ver,h3,h4⟩:=h2;exact .inl ⟨j,id,k,es,u,hw,ver,rfl,he,h3,h4⟩
   | none =>
    obtain⟨k,h4⟩:=h2;exact .inr ⟨j,k,rfl,he,h4⟩
  ·exact .inl ⟨hi,by rw[<-hS1 i hi];exact hs⟩
 have hdead:∀ i,T i\/some i∈E->i.1=st0.lvl:=x.kl.dead;have osrc:∀ i ob b,S' i=some ob->ZM G' i ob b->∃ i0 ob0,st0.sto i0=some ob0/\ZM G i0 ob0 b/\¬ T i0/\((i.1≠st0.lvl/\i0=i)\/∃ j,i=(st0.lvl,j)/\E[j]? = some (some i0)):=fun i ob b hs ho=>by
  rcases src i ob hs with ⟨hi,h1⟩ | ⟨j,id,k,es,u,hw,ver,rfl,he,h3,rfl⟩ | ⟨j,k,rfl,he,rfl⟩
  ·exact⟨i,ob,h1,(WR (hG1 i hi)).1 ho,fun ht=>hi (hdead i (.inl ht)),.inl ⟨hi,rfl⟩⟩
  ·refine⟨id,_,h3,?_,x.dj id (Uaf he),.inr ⟨j,rfl,he⟩⟩;obtain⟨p,c,h4,h5,h6⟩:=ho;rw[hG2 j id he] at h6;exact⟨p,c,h4,h5,h6⟩
  ·obtain⟨p,c,h4,h5,h6⟩:=ho;rw[hG3 j he] at h6;cases h6
 have fs:FinS G st0 w T E G' S':=by
  refine⟨fun i ob hi hs=>⟨by rw[hS1 i hi];exact hs,hG1 i hi⟩,fun b hb hT=>⟨hb,fun i ob hs ho=>?_⟩,fun j id he=>⟨hG2 j id he,?_⟩,fun j he=>⟨hG3 j he,?_⟩⟩
  ·obtain⟨i0,ob0,h1,h2,h3,_⟩:=osrc i ob b hs ho;exact h3 (hT i0 ob0 h1 h2)
  ·obtain⟨ob,h1,k,es,u,hw,ver,h2,rfl⟩:=Zcp oe j _ he;exact⟨k,es,u,hw,ver,h2,by rw[hS2];exact h1⟩
  ·obtain⟨ob,h1,k,rfl⟩:=Zcp oe j _ he;exact⟨k,by rw[hS2];exact h1⟩
 have hlows:∀ i cells,i.1≠st0.lvl->st0.sto i=some (.bx cells)->Zc (fun j=>j.1≠st0.lvl) cells:=fun i cells hi hs=>by have h1:=h0.ok.low i cells hs;rw[YS hi] at hs;have h2:=h0.outl i _ hs;refine JK (fun j hj=>?_) cells h1;have hj:j.1<i.1+1:=hj;omega
 refine⟨fs,⟨fun i ob hs=>?_,fun i ob i' ob' b hs hs' ho ho' => ?_,fun i cells hs=>?_⟩,fun L n hL=>⟨Ual _,fun _ _ _=>rfl,fun i ob b hs ho=>?_,rfl,rfl,rfl,fun y v hy hv=>?_⟩⟩
 ·rcases src i ob hs with ⟨hi,h1⟩ | ⟨j,id,k,es,u,hw,ver,rfl,he,h3,rfl⟩ | ⟨j,k,rfl,he,rfl⟩
  ·exact Ut (hG1 i hi) fs.mono (fun _ _=>rfl) (fun _ _=>rfl) (fun cells vs e hv=>fs.vrs cells vs (hlows i cells hi (by rw[h1,e])) hv) (h0.ok.obs i ob h1)
  ·obtain⟨g1,g2,g3,g4,g5⟩:=h0.ok.obs id _ h3;have hG:=hG2 j id he;refine⟨Ual _,g2,by rw[hG];omega,fun p es' hp hg=>ZbW hG fs.mono (g4 p es' hp hg),by rw[hG];exact g5⟩
  ·have hG:=hG3 j he;refine⟨Ual _,fun e he=>(by cases he),(by rw[hG];simp [Vx]),fun p es' hp hg=>?_,fun p p' b c c' _ _ _ _ h=>(by rw[hG] at h;cases h)⟩;unfold Z7;rw[hG];dsimp only;cases p with
   | nil=>simp only[getp,Uat] at hg;exact hg.symm
   | cons q p=>obtain⟨a,b⟩:=q;simp [getp] at hg
 ·obtain⟨i0,ob0,h1,h2,_,h3⟩:=osrc i ob b hs ho;obtain⟨j0,ob1,g1,g2,_,g3⟩:=osrc i' ob' b hs' ho';have he:=h0.ok.dis _ _ _ _ b h1 g1 h2 g2;subst he;rcases h3 with ⟨n1,rfl⟩ | ⟨a1,rfl,e1⟩<;>rcases g3 with ⟨n2,e2⟩ | ⟨a2,rfl,e2⟩
  ·exact e2
  ·exact absurd (hdead _ (.inr (Uaf e2))) n1
  ·subst e2;exact absurd (hdead _ (.inr (Uaf e1))) n2
  ·rw[x.nd a1 a2 i0 e1 e2]
 ·rcases src i _ hs with ⟨hi,h1⟩ | ⟨j,id,k,es,u,hw,ver,rfl,he,h3,h4⟩ | ⟨j,k,rfl,he,h4⟩
  ·exact h0.ok.low i cells h1
  ·cases h4
  ·cases h4
 ·obtain⟨i0,ob0,h1,h2,_⟩:=osrc i ob b hs ho;exact .inr ⟨i0,ob0,h1,h2⟩
 ·refine fs.vr y v (JZ (fun j hj=>?_) y hy) hv;have hj:j.1<L:=hj;omega
theorem ZjX(imp:Bool)(l b:Nat):∀(r:List IV) (j:Nat),(impvs imp l b j r).1.length=r.length
 | [],_=>rfl
 | x::r,j=>by simp only[impvs,List.length_cons,ZjX imp l b r]
theorem ZjY(h0:Sim F G st0 a w){fn:Func}{rs:List RS}{K:IV->Zb->Prop}(hc:YQ P rs fn.results.toList=true)(he:Jt rs st0 K) :
  ∃ v r S' G',(results fn a.tmps).run P w = .ok v w/\K r S'/\low F.lvl r/\(∀ id ob,S' id=some ob->id.1<F.lvl)/\SOk G' (ZW S' F.lvl 0 (impv true F.lvl 0 0 r).2) w/\VR G' (ZW S' F.lvl 0 (impv true F.lvl 0 0 r).2) w (impv true F.lvl 0 0 r).1 v /\
   Frm ⟨F.G,F.S,F.w,F.lvl,0⟩ G' (ZW S' F.lvl 0 (impv true F.lvl 0 0 r).2) w:=by
 obtain⟨vs,hrun,ys,st',T,e,obs,hk,hx,_,hlow,hoe,himp,hg⟩:=Zfr h0 rs fn.results.toList st0 (fun _=>False) [] _ (XS.nil st0) hc he;simp only[List.nil_append] at hx hg;have hlv:F.lvl=st0.lvl:=h0.lvl.symm;have hout:st'.out=st0.out:=hx.kl.out;have hfresh:YR st0.out st0.lvl 0 obs.length:=fun j _=>by
  cases h:st0.out (st0.lvl,0+j) with
  | none=>rfl
  | some ob=>have:=h0.outl _ ob h;simp at this
 let G':Gh:=fun i=>if i.1=st0.lvl then (match e[i.2]? with | some (some id)=>G id | _=>fun _=>none) else G i
 have hS1:∀ i,i.1≠st0.lvl->ZW st0.out st0.lvl 0 obs i=st0.sto i:=fun i hi=>by
  rw[YS hi];cases h:st0.out i with
  | some ob=>exact Ux obs _ _ _ hfresh i ob h
  | none =>
   cases h2:ZW st0.out st0.lvl 0 obs i with
   | none=>rfl
   | some ob =>
    rcases Xk obs _ _ _ i ob h2 with g | ⟨j,_,rfl,_⟩
    ·rw[h] at g;cases g
    ·exact absurd rfl hi
 have hS2:∀ j:Nat,ZW st0.out st0.lvl 0 obs (st0.lvl,j)=obs[j]?:=fun j=>by
  cases h:obs[j]? with
  | some ob=>have:=Xl obs st0.out st0.lvl 0 j ob h;rwa [Uax] at this
  | none =>
   cases h2:ZW st0.out st0.lvl 0 obs (st0.lvl,j) with
   | none=>rfl
   | some ob =>
    rcases Xk obs _ _ _ _ ob h2 with g | ⟨j',_,g1,g2⟩
    ·have:=h0.outl _ ob g;simp at this
    ·simp at g1;subst g1;rw[h] at g2;cases g2
 obtain⟨fs,hok,hfr⟩:=ZsJ (G':=G') (S':=ZW st0.out st0.lvl 0 obs) h0 hx hoe (fun i hi=>by simp only[G'];rw[if_neg hi]) (fun j id hj=>by simp only[G',if_true,hj]) (fun j hj=>by simp only[G',if_true,hj]) hS1 hS2;have hvr:=hg T e G' _ (fun _ h=>h) (fun _ _ h=>h) fs;have hfrm:Frm ⟨F.G,F.S,F.w,F.lvl,0⟩ G' (ZW st0.out st0.lvl 0 obs) w:=by have h1:Frm ⟨F.G,F.S,F.w,F.lvl,0⟩ G st0.sto w:=⟨h0.fr.size,h0.fr.old,h0.fr.own,h0.fr.os,h0.fr.tape,h0.fr.output,h0.fr.stab⟩;exact h1.trans (hfr F.lvl 0 (Ub6 hlv)) (Ual _)
 have hcl:∀ id ob,st0.out id=some ob->id.1<F.lvl:=fun id ob hs=>by rw[hlv];exact h0.outl id ob hs
 have hres:∀ v,(if h:vs.toArray.size=1 then vs.toArray[0] else Value.tuple vs.toArray)=v->(results fn a.tmps).run P w = .ok v w:=fun v hv=>by
  have:(results fn a.tmps)=(do let vs <- fn.results.mapM (ZaL a);pure (if h:vs.size=1 then vs[0] else .tuple vs)):=by unfold results;congr 1
  rw[this,Array.mapM_eq_mapM_toList];simp only[Sem.run_bind,Sem.run_map,hrun,Result.andThen_ok,Sem.run_pure];rw[<-hv]
 have hlen:=YP hvr;rw[ZjX] at hlen;rw[hout] at hk;rw[hlv] at hlow ⊢;rw[hlv] at hfrm;cases ys with
 | nil =>
  have hvs:vs=[]:=Uay (by simpa using hlen);subst hvs;have hobs:obs=[]:=by rw[<-himp];rfl
  subst hobs;exact⟨.tuple #[],.tu [],st0.out,G',hres _ (by simp),hk,trivial,fun id ob h=>hlv ▸ hcl id ob h,hok,⟨[],rfl,rfl⟩,hfrm⟩
 | cons y r =>
  cases r with
  | nil =>
   obtain⟨v,vr,rfl,h1,h2⟩:=hvr;rw[show vr=[] from h2] at hres;have hobs:(impv true st0.lvl 0 0 y).2=obs:=by rw[<-himp];simp [impvs]
   refine⟨v,y,st0.out,G',hres v (by simp),hk,hlow.1,fun id ob h=>hlv ▸ hcl id ob h,?_,?_,?_⟩
   ·rw[hobs];exact hok
   ·rw[hobs];exact h1
   ·rw[hobs];exact hfrm
  | cons z r =>
   have hobs:(impv true st0.lvl 0 0 (.tu (y::z::r))).2=obs:=(by rw[<-himp];simp only[impv];rfl);refine⟨.tuple vs.toArray,.tu (y::z::r),st0.out,G',hres _ ?_,hk,by simpa only[men] using hlow,fun id ob h=>hlv ▸ hcl id ob h,?_,?_,?_⟩
   ·rw[dif_neg];simp at hlen ⊢;omega
   ·rw[hobs];exact hok
   ·rw[hobs];simp only[impv];exact⟨vs,rfl,hvr⟩
   ·rw[hobs];exact hfrm
theorem ZsK{f:FuncId}{fn:Func}{c:Code}{f2:F2}{lvl:Nat}{args:List IV}{S:Zb}{r:IV}{S':Zb}(hf:P.funcs[f]? = some fn)(hb:fn.body=some c) (hname:(fn.name == "runtime.NumGoroutine")=false)
  (hnt:fn.ntmps=f2.nt) (hc:J7 P f2.nt f2.body c=true) (hr:YQ P f2.res fn.results.toList=true) (hlow:low lvl r)
  (h:wpF (Sem P) f2 lvl args S (fun r' S2=>r'=r/\S2=S')):Sem P f lvl args S r S':=by
 refine⟨hlow,⟨fn,hf,by rw[hb];rfl,hname⟩,fun hcl G w vs hok hvs hfx=>?_⟩;obtain⟨hlen,h⟩:=h;have hvl:=YP hvs;refine calls_of_wp hf hb ?_;have hsim:Sim ⟨G,S,w,lvl,f2.nt⟩ G ⟨lvl,params 0 args,[],S⟩ { tmps:=vs.toArray++Array.replicate (fn.ntmps-vs.toArray.size) undef,defers:=[] } w:=by
  have hsto:(⟨lvl,params 0 args,[],S⟩:St).sto=S:=by
   funext id;unfold St.sto ZF;split
   ·rename_i hi;simp only[lkO];cases hs:S id with
    | none=>rfl
    | some ob=>have h1:=hcl id ob hs;have hi:id.1=lvl:=hi;omega
   ·rfl
  refine⟨rfl,by simp [hnt,hvl];omega,fun t=>?_,by rw[hsto];exact hok,rfl,hcl,by rw[hsto];exact⟨Ual _,fun _ _ _=>rfl,fun i ob b hs ho=>.inr ⟨i,ob,hs,ho⟩,rfl,rfl,rfl,fun _ _ _ h=>h⟩,hfx⟩;rw[hsto];show VR G S w (lk t (params 0 args)) _;rw[Zif t args 0 (UbC _),Nat.sub_zero];cases ha:args[t]? with
  | none=>exact trivial
  | some x =>
   obtain⟨v,hv,hx⟩:=Y5 hvs t x ha;have ht:t<vs.length:=(Uad.1 hv).1;simp only[Option.getD_some];have:((vs.toArray++Array.replicate (fn.ntmps-vs.toArray.size) undef).getD t undef)=v:=by rw[UaH,UaK (by simpa using ht)];simp [hv]
   rw[this];exact hx
 refine ZsF f2.body c _ _ _ G _ w hc h hsim (fun ex st' G1 a' w' hk hs=>?_);cases ex with
 | ext i=>exact hk.elim
 | nrm =>
  obtain⟨v,r',S2,G2,h1,⟨rfl,rfl⟩,h2,h3,h4,h5,h6⟩:=ZjY hs hr hk;exact⟨hs.dfr,v,h1,v,G2,rfl,h4,h5,h3,h6⟩
 | ret =>
  obtain⟨v,r',S2,G2,h1,⟨rfl,rfl⟩,h2,h3,h4,h5,h6⟩:=ZjY hs hr hk;exact⟨hs.dfr,v,h1,v,G2,rfl,h4,h5,h3,h6⟩
end
end Go.Fd
namespace Go.Fd
variable [Tabs]
def Zk(P:Program)(f:FuncId)(f2:F2):Bool :=
 match P.funcs[f]? with
 | some fn =>
  match fn.body with
  | some c=>!(fn.name == "runtime.NumGoroutine")&&fn.ntmps == f2.nt&&J7 P f2.nt f2.body c&&YQ P f2.res fn.results.toList
  | none=>false
 | none=>false
theorem Zl{P:Program}{f:FuncId}{f2:F2}{lvl:Nat}{args:List IV}{S:Zb}{r:IV}{S':Zb}(hc:Zk P f f2=true)(hlow:low lvl r)
  (h:wpF (Sem P) f2 lvl args S (fun r' S2=>r'=r/\S2=S')):Sem P f lvl args S r S':=by
 unfold Zk at hc;split at hc<;>try contradiction
 rename_i fn hf;split at hc<;>try contradiction
 rename_i c hb;simp only[Uae,UaN,beq_iff_eq] at hc;exact ZsK hf hb hc.1.1.1 hc.1.1.2 hc.1.2 hc.2 hlow h
end Go.Fd
namespace Go.Fd
section
variable {C:ZJ} {lvl:Nat} {env:List (Nat×IV)} {loc:List (Nat×Ob)} {out:Zb} {d:Option Nat} {K:St->Prop} {st:St} {Q:Ex->St->Prop}
def ZjZ(C:ZJ)(l:List OP)(K:St->Prop):St->Prop:=fun st=>Vc C l st K
theorem ZsL{o:OP}{l:List OP}:Vc C (o::l) st K=Yg C o st (ZjZ C l K):=(rfl)
theorem ZsM:Vc C [] st K=K st:=(rfl)
theorem ZsN{l:List OP}:ZjZ C l K st=Vc C l st K:=(rfl)
def Zcq(C:ZJ)(b:C2)(Q:Ex->St->Prop):Ex->St->Prop:=fun e st=>match e with | .nrm=>wp C b st Q | e=>Q e st
def Zcr(i:Nat)(Q:Ex->St->Prop):Ex->St->Prop:=fun e st=>match e with | .ext j=>if j=i then Q .nrm st else Q (.ext j) st | e=>Q e st
def kfn(rs:List RS)(K:IV->Zb->Prop):Ex->St->Prop:=fun e st=>match e with | .ext _=>False | _=>Jt rs st K
theorem ZsO{b:C2}:Zcq C b Q .nrm st=wp C b st Q:=(rfl)
theorem ZsP{b:C2}{i:Nat}:Zcq C b Q (.ext i) st=Q (.ext i) st:=(rfl)
theorem ZsQ{b:C2}:Zcq C b Q .ret st=Q .ret st:=(rfl)
theorem ZsR{i:Nat}:Zcr i Q .nrm st=Q .nrm st:=(rfl)
theorem ZsS{i j:Nat}:Zcr i Q (.ext j) st=if j=i then Q .nrm st else Q (.ext j) st:=(rfl)
theorem ZsT{i:Nat}:Zcr i Q .ret st=Q .ret st:=(rfl)
theorem ZsU{rs:List RS}{K:IV->Zb->Prop}:kfn rs K .nrm st=Jt rs st K:=(rfl)
theorem ZsV{rs:List RS}{K:IV->Zb->Prop}:kfn rs K .ret st=Jt rs st K:=(rfl)
theorem ZsW{rs:List RS}{K:IV->Zb->Prop}{i:Nat}:kfn rs K (.ext i) st=False:=(rfl)
theorem ZsX:wp C .sk st Q=Q .nrm st:=(rfl)
theorem ZsY{n:Option Nat}{ops:List OP}:wp C (.rg n ops) st Q=Vc C ops st (Q .nrm):=(rfl)
theorem ZsZ{a b:C2}:wp C (.sq a b) st Q=wp C a st (Zcq C b Q):=(rfl)
theorem Zs0{i:Nat}{c:C2}:wp C (.bl i c) st Q=wp C c st (Zcr i Q):=(rfl)
theorem Zs1{i:Nat}:wp C (.ex i) st Q=Q (.ext i) st:=(rfl)
theorem Zs2:wp C .rt st Q=Q .ret st:=(rfl)
theorem Zs3{ks js:List Nat}{c:C2}:wp C (.fg ks js c) st Q=(clean ks js st/\wp C c (fgt ks js st) Q):=(rfl)
def cd2(C:ZJ)(v:IV)(a b:C2)(st:St)(Q:Ex->St->Prop):Prop :=
 match v with
 | .tr (.v (.bool t))=>if t=true then wp C a st Q else wp C b st Q
 | _=>False
theorem Zs4{c:X}{a b:C2}:wp C (.cd c a b) ⟨lvl,env,loc,out⟩ Q=cd2 C (xv env c) a b ⟨lvl,env,loc,out⟩ Q:=by
 simp only[wp];generalize xv env c=v;cases v<;>try rfl
 rename_i t;cases t<;>try rfl
 rename_i x;cases x<;>try rfl
 rename_i t;cases t<;>simp [cd2]
theorem Zs5{t:Bool}{a b:C2}:cd2 C (.tr (.v (.bool t))) a b st Q=if t=true then wp C a st Q else wp C b st Q:=(rfl)
theorem Zs6{f:F2}{args:List IV}{K:IV->Zb->Prop}:wpF C f lvl args out K=(args.length<=f.nt/\wp C f.body ⟨lvl,params 0 args,[],out⟩ (kfn f.res K)):=(rfl)
def gd(C:ZJ)(v:IV)(w:Bool)(j:Nat)(d:Option Nat)(o:O)(lvl:Nat)(env:List (Nat×IV))(loc:List (Nat×Ob))(out:Zb)(K:St->Prop):Prop :=
 match v with
 | .tr (.v (.bool c))=>if c=w then ZD C d o ⟨lvl,pt j (iB w) env,loc,out⟩ K else K ⟨lvl,ptd d (.tu []) (pt j (iB !w) env),loc,out⟩
 | .tu []=>K ⟨lvl,ptd d (.tu []) env,loc,out⟩
 | _=>False
theorem Zs7{o:O}:Yg C ⟨d,none,o⟩ st K=ZD C d o st K:=(rfl)
theorem Zs8{o:O}{j:Nat}{w:Bool}:Yg C ⟨d,some (j,w),o⟩ ⟨lvl,env,loc,out⟩ K=gd C (lk j env) w j d o lvl env loc out K:=by
 simp only[Yg];generalize lk j env=v;cases v with
 | tr t =>
  cases t with
  | v x =>
   cases x<;>try rfl
   rename_i c;cases c<;>cases w<;>simp [gd]
  | sl=>rfl
 | tu l=>cases l<;>rfl
 | _=>rfl
theorem Zs9{c w:Bool}{j:Nat}{o:O}:gd C (.tr (.v (.bool c))) w j d o lvl env loc out K=if c=w then ZD C d o ⟨lvl,pt j (iB w) env,loc,out⟩ K else K ⟨lvl,ptd d (.tu []) (pt j (iB !w) env),loc,out⟩:=(rfl)
theorem Zta{w:Bool}{j:Nat}{o:O}:gd C (.tu []) w j d o lvl env loc out K=K ⟨lvl,ptd d (.tu []) env,loc,out⟩:=(rfl)
theorem Yd{o:O}(h:JA o=false):ZD C d o ⟨lvl,env,loc,out⟩ K=ev C (xv env) (ZF lvl loc out) (fun mk obs=>freshK (keyOf d) loc (obs lvl (keyOf d)).length/\K ⟨lvl,ptd d (mk lvl (keyOf d)) env,addO (keyOf d) (obs lvl (keyOf d)) loc,out⟩) o:=by unfold ZD;rw[if_neg (by simp [h])];rfl
theorem Zj0{o:O}(h:JA o=false){y:IV}(he:∀ Kd:Yc,ev C (xv env) (ZF lvl loc out) Kd o=ZH Kd y):ZD C d o ⟨lvl,env,loc,out⟩ K=K ⟨lvl,ptd d y env,loc,out⟩:=by exact(Yd h).trans ((he _).trans (by simp [ZH,freshK,addO]))
def Ye(lvl:Nat)(env:List (Nat×IV))(loc:List (Nat×Ob))(out:Zb)(d:Option Nat)(K:St->Prop)(y:IV):Prop:=K ⟨lvl,ptd d y env,loc,out⟩
theorem Ztb{y:IV}:Ye lvl env loc out d K y=K ⟨lvl,ptd d y env,loc,out⟩:=(rfl)
theorem Yu{o:O}(h:JA o=false){T:(IV->Prop)->Prop}(he:∀ Kd:Yc,ev C (xv env) (ZF lvl loc out) Kd o=T (fun y=>ZH Kd y)):ZD C d o ⟨lvl,env,loc,out⟩ K=T (Ye lvl env loc out d K):=by exact(Yd h).trans ((he _).trans (congrArg T (funext fun y=>by simp [ZH,freshK,addO,Ye])))
theorem Ztc{x:X}:ZD C d (.mv x none) ⟨lvl,env,loc,out⟩ K=K ⟨lvl,ptd d (xv env x) env,loc,out⟩:=Zj0 rfl fun _=>rfl
def mvn(v:IV)(k lvl:Nat)(env:List (Nat×IV))(loc:List (Nat×Ob))(out:Zb)(d:Option Nat)(K:St->Prop):Prop :=
 match v with
 | .cs []=>freshK (keyOf d) loc 1/\K ⟨lvl,ptd d (.hd (lvl,keyOf d) [] 0 0 none 0) env,ptO (keyOf d) (.ar k [] true 0 0) loc,out⟩
 | _=>False
theorem Ztd{x:X}{k:Nat}:ZD C d (.mv x (some k)) ⟨lvl,env,loc,out⟩ K=mvn (xv env x) k lvl env loc out d K:=by rw[Yd rfl];simp only[ev];generalize xv env x=v;cases v<;>try rfl
theorem Zte{k:Nat}:mvn (.cs []) k lvl env loc out d K=(freshK (keyOf d) loc 1/\K ⟨lvl,ptd d (.hd (lvl,keyOf d) [] 0 0 none 0) env,ptO (keyOf d) (.ar k [] true 0 0) loc,out⟩):=(rfl)
def bxf(v:Option (List IV))(lvl:Nat)(env:List (Nat×IV))(loc:List (Nat×Ob))(out:Zb)(d:Option Nat)(K:St->Prop):Prop :=
 match v with
 | some c=>freshK (keyOf d) loc 1/\K ⟨lvl,ptd d (.ab (lvl,keyOf d) 0) env,ptO (keyOf d) (.bx c) loc,out⟩
 | none=>False
theorem Ztf{x:X}:ZD C d (.bx x) ⟨lvl,env,loc,out⟩ K=bxf (cellsOf (xv env x)) lvl env loc out d K:=by rw[Yd rfl];simp only[ev];generalize cellsOf (xv env x)=v;cases v<;>rfl
theorem Ztg{c:List IV}:bxf (some c) lvl env loc out d K=(freshK (keyOf d) loc 1/\K ⟨lvl,ptd d (.ab (lvl,keyOf d) 0) env,ptO (keyOf d) (.bx c) loc,out⟩):=(rfl)
def bvf(v:Option (List IV))(k lvl:Nat)(env:List (Nat×IV))(loc:List (Nat×Ob))(out:Zb)(d:Option Nat)(K:St->Prop):Prop :=
 match v with
 | some c=>c.length=k/\freshK (keyOf d) loc 1/\K ⟨lvl,ptd d (.sv (lvl,keyOf d)) env,ptO (keyOf d) (.bx c) loc,out⟩
 | none=>False
theorem Zth{k n:Nat}{z:List Value}{x:X}:ZD C d (.bv k n z [(0,x)]) ⟨lvl,env,loc,out⟩ K=(n=1/\bvf (cellsOf (xv env x)) k lvl env loc out d K):=by rw[Yd rfl];simp only[ev];generalize cellsOf (xv env x)=v;cases v<;>rfl
theorem Zti{c:List IV}{k:Nat}:bvf (some c) k lvl env loc out d K=(c.length=k/\freshK (keyOf d) loc 1/\K ⟨lvl,ptd d (.sv (lvl,keyOf d)) env,ptO (keyOf d) (.bx c) loc,out⟩):=(rfl)
def tocs(v:IV):Option (List Tr×Bool) :=
 match cellsOf v with
 | some c=>totrs c
 | none=>none
def btf(v:Option (List Tr×Bool))(lvl:Nat)(env:List (Nat×IV))(loc:List (Nat×Ob))(out:Zb)(d:Option Nat)(K:St->Prop):Prop :=
 match v with
 | some (ts,_)=>K ⟨lvl,ptd d (.ta ts) env,loc,out⟩
 | none=>False
theorem Ztj{x:X}:ZD C d (.bt x) ⟨lvl,env,loc,out⟩ K=btf (tocs (xv env x)) lvl env loc out d K:=by
 rw[Yd rfl];simp only[ev,tocs];generalize cellsOf (xv env x)=v;cases v with
 | none=>rfl
 | some c =>
  dsimp only;generalize totrs c=u;cases u with
  | none=>rfl
  | some p=>obtain⟨ts,q⟩:=p;simp [btf,ZH,freshK,addO]
theorem Ztk{ts:List Tr}{q:Bool}:btf (some (ts,q)) lvl env loc out d K=K ⟨lvl,ptd d (.ta ts) env,loc,out⟩:=(rfl)
theorem Ztl{z:List Value}{nz:List (Nat×Nat)}:ZD C d (.al z nz) ⟨lvl,env,loc,out⟩ K=(freshK (keyOf d) loc (1+nz.length)/\K ⟨lvl,ptd d (.ab (lvl,keyOf d) 0) env,ptO (keyOf d) (.bx (zfill lvl (keyOf d+1) nz (z.map kc))) loc |> addO (keyOf d+1) (zobs nz),out⟩):=by rw[Yd rfl];simp only[ev,List.length_cons,addO,zobs,Uaa];rw[Ubw]
theorem Ztm{z:List Value}{ps:List (Nat×Nat×X)}{nz:List (Nat×Nat)}:ZD C d (.bd z ps nz) ⟨lvl,env,loc,out⟩ K=(okp (xv env) z.length ps/\freshK (keyOf d) loc nz.length/\K ⟨lvl,ptd d (.ag (fpart (xv env) ps (zfill lvl (keyOf d) nz (z.map kc)))) env,addO (keyOf d) (zobs nz) loc,out⟩):=by rw[Yd rfl];simp only[ev,zobs,Uaa]
def Zj1(k n lvl:Nat)(env:List (Nat×IV))(loc:List (Nat×Ob))(out:Zb)(d:Option Nat)(K:St->Prop):Row->Bool->Prop:=fun es u =>
 freshK (keyOf d) loc 1/\K ⟨lvl,ptd d (.hd (lvl,keyOf d) [] 0 n none n) env,ptO (keyOf d) (.ar k es u n 0) loc,out⟩
def fl2(v:Option (List Tr×Bool))(ρ:X->IV)(i k:Nat)(r:List (Nat×X))(es:Row)(u:Bool)(F:Row->Bool->Prop):Prop :=
 match v with
 | some (ts,a)=>ts.length=k/\i<es.length/\Y0 ρ k r (es.set i ts) (u&&a) F
 | none=>False
theorem Ztn{k n:Nat}{z:List Value}{ps:List (Nat×X)}:ZD C d (.bs k n z ps) ⟨lvl,env,loc,out⟩ K=Y0 (xv env) k ps (List.replicate n (z.map trv)) true (Zj1 k n lvl env loc out d K):=by rw[Yd rfl];rfl
theorem Zto{ρ:X->IV}{k:Nat}{es:Row}{u:Bool}{F:Row->Bool->Prop}:Y0 ρ k [] es u F=F es u:=(rfl)
theorem Ztp{ρ:X->IV}{k i:Nat}{x:X}{r:List (Nat×X)}{es:Row}{u:Bool}{F:Row->Bool->Prop}:Y0 ρ k ((i,x)::r) es u F=fl2 (tocs (ρ x)) ρ i k r es u F:=by
 simp only[Y0,tocs];generalize cellsOf (ρ x)=v;cases v with
 | none=>rfl
 | some c =>
  dsimp only;generalize totrs c=u;cases u with
  | none=>rfl
  | some p=>rfl
theorem Ztq{ts:List Tr}{a:Bool}{ρ:X->IV}{k i:Nat}{r:List (Nat×X)}{es:Row}{u:Bool}{F:Row->Bool->Prop}:fl2 (some (ts,a)) ρ i k r es u F=(ts.length=k/\i<es.length/\Y0 ρ k r (es.set i ts) (u&&a) F):=(rfl)
theorem Ztr{k n:Nat}{es:Row}{u:Bool}:Zj1 k n lvl env loc out d K es u=(freshK (keyOf d) loc 1/\K ⟨lvl,ptd d (.hd (lvl,keyOf d) [] 0 n none n) env,ptO (keyOf d) (.ar k es u n 0) loc,out⟩):=(rfl)
def msf(v:IV)(k:Nat)(z:List Value)(lvl:Nat)(env:List (Nat×IV))(loc:List (Nat×Ob))(out:Zb)(d:Option Nat)(K:St->Prop):Prop :=
 match v with
 | .tr (.v (.int .i64 n))=>0<=n/\n<=bigN/\freshK (keyOf d) loc 1/\K ⟨lvl,ptd d (.hd (lvl,keyOf d) [] 0 n.toNat none n.toNat) env,ptO (keyOf d) (.ar k (List.replicate n.toNat (z.map trv)) true n.toNat 0) loc,out⟩
 | _=>False
theorem Zts{k:Nat}{z:List Value}{x:X}:ZD C d (.ms k z x) ⟨lvl,env,loc,out⟩ K=msf (xv env x) k z lvl env loc out d K:=by rw[Yd rfl];simp only[ev];generalize xv env x=v;cases v<;>try rfl
theorem Ztt{n:Int}{k:Nat}{z:List Value}:msf (.tr (.v (.int .i64 n))) k z lvl env loc out d K=(0<=n/\n<=bigN/\freshK (keyOf d) loc 1/\K ⟨lvl,ptd d (.hd (lvl,keyOf d) [] 0 n.toNat none n.toNat) env,ptO (keyOf d) (.ar k (List.replicate n.toNat (z.map trv)) true n.toNat 0) loc,out⟩):=(rfl)
def ZX(op:BinOp)(w:Nat)(x y:IV)(F:IV->Prop):Prop :=
 match x,y with
 | .tr (.v a),.tr (.v b)=>Jr op w a b fun r=>F (.tr (.v r))
 | .er,.tr (.v .nilIface) =>
  match op,w with
  | .eql,3=>F (iB false)
  | .neq,3=>F (iB true)
  | _,_=>False
 | _,_=>False
theorem Ztu{op:BinOp}{w:Nat}{x y:X}:ZD C d (.bi op w x y) ⟨lvl,env,loc,out⟩ K=ZX op w (xv env x) (xv env y) (Ye lvl env loc out d K):=by exact Yu rfl fun Kd=>rfl
section bi
variable {F:IV->Prop} {k:IntKind} {a b:Int} {s t:ByteArray} {p q:Bool} {w:Nat}
theorem Ztv:ZX .add 0 (.tr (.v (.int k a))) (.tr (.v (.int k b))) F=(ZZ k (a+b)/\F (.tr (.v (.int k (a+b))))):=by simp [ZX,Jr]
theorem Ztw:ZX .sub 0 (.tr (.v (.int k a))) (.tr (.v (.int k b))) F=(ZZ k (a-b)/\F (.tr (.v (.int k (a-b))))):=by simp [ZX,Jr]
theorem Ztx:ZX .mul 0 (.tr (.v (.int k a))) (.tr (.v (.int k b))) F=(ZZ k (a*b)/\F (.tr (.v (.int k (a*b))))):=by simp [ZX,Jr]
theorem Zty:ZX .add 1 (.tr (.v (.int k a))) (.tr (.v (.int k b))) F=F (.tr (.v (.int k (k.wrap (a+b))))):=by simp [ZX,Jr]
theorem Ztz:ZX .sub 1 (.tr (.v (.int k a))) (.tr (.v (.int k b))) F=F (.tr (.v (.int k (k.wrap (a-b))))):=by simp [ZX,Jr]
theorem ZtA:ZX .mul 1 (.tr (.v (.int k a))) (.tr (.v (.int k b))) F=F (.tr (.v (.int k (k.wrap (a*b))))):=by simp [ZX,Jr]
theorem ZtB:ZX .quo w (.tr (.v (.int k a))) (.tr (.v (.int k b))) F=(0<=a/\0<b/\ZZ k a/\F (.tr (.v (.int k (a / b))))):=by simp [ZX,Jr]
theorem ZtC:ZX .rem w (.tr (.v (.int k a))) (.tr (.v (.int k b))) F=(0<=a/\0<b/\F (.tr (.v (.int k (a % b))))):=by simp [ZX,Jr]
theorem ZtD{j:IntKind}:ZX .shr w (.tr (.v (.int k a))) (.tr (.v (.int j b))) F=(0<=b/\F (.tr (.v (.int k (a.fdiv (2 ^ min b.toNat k.bits)))))):=by simp [ZX,Jr]
theorem ZtE:ZX .and w (.tr (.v (.int k a))) (.tr (.v (.int k b))) F=F (.tr (.v (.int k (k.wrap ((BitVec.ofInt k.bits a &&& BitVec.ofInt k.bits b).toNat:Int))))):=by simp [ZX,Jr]
theorem ZtF:ZX .eql w (.tr (.v (.int k a))) (.tr (.v (.int k b))) F=F (iB (decide (a=b))):=by simp [ZX,Jr]
theorem ZtG:ZX .neq w (.tr (.v (.int k a))) (.tr (.v (.int k b))) F=F (iB (decide (a≠b))):=by simp [ZX,Jr]
theorem ZtH:ZX .lss w (.tr (.v (.int k a))) (.tr (.v (.int k b))) F=F (iB (decide (a<b))):=by simp [ZX,Jr]
theorem ZtI:ZX .leq w (.tr (.v (.int k a))) (.tr (.v (.int k b))) F=F (iB (decide (a<=b))):=by simp [ZX,Jr]
theorem ZtJ:ZX .gtr w (.tr (.v (.int k a))) (.tr (.v (.int k b))) F=F (iB (decide (b<a))):=by simp [ZX,Jr]
theorem ZtK:ZX .geq w (.tr (.v (.int k a))) (.tr (.v (.int k b))) F=F (iB (decide (b<=a))):=by simp [ZX,Jr]
theorem ZtL:ZX .eql 2 (.tr (.v (.bool p))) (.tr (.v (.bool q))) F=F (iB (p == q)):=by simp [ZX,Jr]
theorem ZtM:ZX .neq 2 (.tr (.v (.bool p))) (.tr (.v (.bool q))) F=F (iB (p != q)):=by simp [ZX,Jr]
theorem ZtN:ZX .eql 3 (.tr (.v .nilIface)) (.tr (.v .nilIface)) F=F (iB true):=by simp [ZX,Jr]
theorem ZtO:ZX .neq 3 (.tr (.v .nilIface)) (.tr (.v .nilIface)) F=F (iB false):=by simp [ZX,Jr]
theorem ZtP:ZX .eql 3 .er (.tr (.v .nilIface)) F=F (iB false):=by simp [ZX]
theorem ZtQ:ZX .neq 3 .er (.tr (.v .nilIface)) F=F (iB true):=by simp [ZX]
theorem ZtR:ZX .add w (.tr (.v (.string s))) (.tr (.v (.string t))) F=(s.size+t.size<=bigN/\F (.tr (.v (.string (s++t))))):=by simp [ZX,Jr]
theorem Zj2:ZX .eql w (.tr (.v (.string s))) (.tr (.v (.string t))) F=F (iB (decide (s=t))):=by simp [ZX,Jr]
theorem Zj3:ZX .neq w (.tr (.v (.string s))) (.tr (.v (.string t))) F=F (iB (decide (s≠t))):=by simp [ZX,Jr]
theorem ZtS:ZX .lss w (.tr (.v (.string s))) (.tr (.v (.string t))) F=F (iB (Op.bytesLess s.data.toList t.data.toList)):=by simp [ZX,Jr]
theorem ZtT:ZX .gtr w (.tr (.v (.string s))) (.tr (.v (.string t))) F=F (iB (!(Op.bytesLess s.data.toList t.data.toList || decide (s=t)))):=by simp [ZX,Jr]
theorem ZtU:ZX .leq w (.tr (.v (.string s))) (.tr (.v (.string t))) F=F (iB (Op.bytesLess s.data.toList t.data.toList || decide (s=t))):=by simp [ZX,Jr]
theorem ZtV:ZX .geq w (.tr (.v (.string s))) (.tr (.v (.string t))) F=F (iB (!Op.bytesLess s.data.toList t.data.toList)):=by simp [ZX,Jr]
end bi
def eq2(ks:List Nat)(x y:IV)(neg:Bool)(F:IV->Prop):Prop :=
 match x,y with
 | .ag l,.ag m=>YN ks l m fun b=>F (iB (if neg then !b else b))
 | _,_=>False
theorem ZtW{neg:Bool}{ks:List Nat}{x y:X}:ZD C d (.qa neg ks x y) ⟨lvl,env,loc,out⟩ K=eq2 ks (xv env x) (xv env y) neg (Ye lvl env loc out d K):=by exact Yu rfl fun Kd=>rfl
def nt2(x:IV)(F:IV->Prop):Prop :=
 match x with
 | .tr (.v (.bool b))=>F (iB (!b))
 | _=>False
theorem ZtX{x:X}:ZD C d (.nt x) ⟨lvl,env,loc,out⟩ K=nt2 (xv env x) (Ye lvl env loc out d K):=Yu rfl fun _=>rfl
theorem ZtY{b:Bool}{F:IV->Prop}:nt2 (.tr (.v (.bool b))) F=F (iB (!b)):=(rfl)
def ng2(x:IV)(F:IV->Prop):Prop :=
 match x with
 | .tr (.v (.int k n))=>ZZ k (-n)/\F (.tr (.v (.int k (-n))))
 | _=>False
theorem ZtZ{x:X}:ZD C d (.ng x) ⟨lvl,env,loc,out⟩ K=ng2 (xv env x) (Ye lvl env loc out d K):=Yu rfl fun _=>rfl
theorem Zt0{k:IntKind}{n:Int}{F:IV->Prop}:ng2 (.tr (.v (.int k n))) F=(ZZ k (-n)/\F (.tr (.v (.int k (-n))))):=(rfl)
def Dq(c:Cv)(x:IV)(F:IV->Prop):Prop :=
 match c,x with
 | .int k,.tr (.v (.int _ n))=>ZZ k n/\F (.tr (.v (.int k n)))
 | .wrap k,.tr (.v (.int _ n))=>F (.tr (.v (.int k (k.wrap n))))
 | .str,.tr (.v (.string s))=>F (iS s)
 | .rune,.tr (.v (.int _ n))=>0<=n/\n<128/\F (iS ⟨#[n.toNat.toUInt8]⟩)
 | .bys,.tr (.v (.string s))=>F (.tr (.sl (WK s)))
 | _,_=>False
theorem Zt1{c:Cv}{x:X}:ZD C d (.cv c x) ⟨lvl,env,loc,out⟩ K=Dq c (xv env x) (Ye lvl env loc out d K):=Yu rfl fun _=>rfl
theorem Zt2{k j:IntKind}{n:Int}{F:IV->Prop}:Dq (.int k) (.tr (.v (.int j n))) F=(ZZ k n/\F (.tr (.v (.int k n)))):=(rfl)
theorem Zt3{k j:IntKind}{n:Int}{F:IV->Prop}:Dq (.wrap k) (.tr (.v (.int j n))) F=F (.tr (.v (.int k (k.wrap n)))):=(rfl)
theorem Zt4{s:ByteArray}{F:IV->Prop}:Dq .str (.tr (.v (.string s))) F=F (iS s):=(rfl)
theorem Zt5{j:IntKind}{n:Int}{F:IV->Prop}:Dq .rune (.tr (.v (.int j n))) F=(0<=n/\n<128/\F (iS ⟨#[n.toNat.toUInt8]⟩)):=(rfl)
theorem Zt6{s:ByteArray}{F:IV->Prop}:Dq .bys (.tr (.v (.string s))) F=F (.tr (.sl (WK s))):=(rfl)
def mf2(f:Nat)(cs:List IV)(F:IV->Prop):Prop:=(cs.all isCell)=true/\F (.fn f cs)
theorem Zt7{f:Nat}{cs:List X}:ZD C d (.mf f cs) ⟨lvl,env,loc,out⟩ K=mf2 f (cs.map (xv env)) (Ye lvl env loc out d K):=Yu rfl fun _=>rfl
theorem Zt8{f:Nat}{cs:List IV}{F:IV->Prop}:mf2 f cs F=((cs.all isCell)=true/\F (.fn f cs)):=(rfl)
def ln2(x:IV)(F:IV->Prop):Prop :=
 match x with
 | .tr (.sl es)=>F (iI es.length)
 | .cs es=>F (iI es.length)
 | .hd _ _ _ len _ _=>F (iI len)
 | _=>False
theorem Zt9{x:X}:ZD C d (.ln x) ⟨lvl,env,loc,out⟩ K=ln2 (xv env x) (Ye lvl env loc out d K):=Yu rfl fun _=>rfl
theorem Zua{es:Row}{F:IV->Prop}:ln2 (.tr (.sl es)) F=F (iI es.length):=(rfl)
theorem Zub{es:Row}{F:IV->Prop}:ln2 (.cs es) F=F (iI es.length):=(rfl)
theorem Zuc{id:Zd}{p:Zn}{off len s:Nat}{cap:Option Nat}{F:IV->Prop}:ln2 (.hd id p off len cap s) F=F (iI len):=(rfl)
def lg2(x:IV)(F:IV->Prop):Prop :=
 match x with
 | .tr (.v (.string s))=>F (iI s.size)
 | _=>False
theorem Zud{x:X}:ZD C d (.lg x) ⟨lvl,env,loc,out⟩ K=lg2 (xv env x) (Ye lvl env loc out d K):=Yu rfl fun _=>rfl
theorem Zue{s:ByteArray}{F:IV->Prop}:lg2 (.tr (.v (.string s))) F=F (iI s.size):=(rfl)
theorem Zuf{n:Nat}:ZD C d (.la n) ⟨lvl,env,loc,out⟩ K=K ⟨lvl,ptd d (iI n) env,loc,out⟩:=Zj0 rfl fun _=>rfl
def mm2(mx:Bool)(x y:IV)(F:IV->Prop):Prop :=
 match x,y with
 | .tr (.v (.int k a)),.tr (.v (.int j b))=>k=j/\F (.tr (.v (.int k (if mx then max a b else min a b))))
 | _,_=>False
theorem Zug{mx:Bool}{x y:X}:ZD C d (.mm mx x y) ⟨lvl,env,loc,out⟩ K=mm2 mx (xv env x) (xv env y) (Ye lvl env loc out d K):=Yu rfl fun _=>rfl
theorem Zuh{k:IntKind}{a b:Int}{F:IV->Prop}:mm2 true (.tr (.v (.int k a))) (.tr (.v (.int k b))) F=F (.tr (.v (.int k (max a b)))):=by simp [mm2]
theorem Zui{k:IntKind}{a b:Int}{F:IV->Prop}:mm2 false (.tr (.v (.int k a))) (.tr (.v (.int k b))) F=F (.tr (.v (.int k (min a b)))):=by simp [mm2]
def pk2(c a b:IV)(F:IV->Prop):Prop :=
 match c with
 | .tr (.v (.bool t))=>F (if t then a else b)
 | _=>False
theorem Zuj{c a b:X}:ZD C d (.pk c a b) ⟨lvl,env,loc,out⟩ K=pk2 (xv env c) (xv env a) (xv env b) (Ye lvl env loc out d K):=Yu rfl fun _=>rfl
theorem Zuk{a b:IV}{F:IV->Prop}:pk2 (.tr (.v (.bool true))) a b F=F a:=(rfl)
theorem Zul{a b:IV}{F:IV->Prop}:pk2 (.tr (.v (.bool false))) a b F=F b:=(rfl)
def Jg{α:Type}(x:Option α)(F:α->Prop):Prop :=
 match x with
 | some a=>F a
 | none=>False
theorem Zum{α:Type}{a:α}{F:α->Prop}:Jg (some a) F=F a:=(rfl)
theorem YT{α:Type}{x:Option α}{F:α->Prop}:(∃ a,x=some a/\F a)=Jg x F:=by cases x<;>simp [Jg]
def ex2(x:IV)(i:Nat)(F:IV->Prop):Prop :=
 match x with
 | .tu l=>Jg l[i]? F
 | _=>False
theorem Zun{i:Nat}{x:X}:ZD C d (.ex i x) ⟨lvl,env,loc,out⟩ K=ex2 (xv env x) i (Ye lvl env loc out d K):=by
 refine Yu (o:=.ex i x) (T:=fun F=>ex2 (xv env x) i F) rfl (fun Kd=>?_);simp only[ev,ex2];generalize xv env x=v;cases v<;>try rfl
 exact YT
theorem Zuo{i:Nat}{l:List IV}{F:IV->Prop}:ex2 (.tu l) i F=Jg l[i]? F:=(rfl)
def nc2(x:IV)(F:IV->Prop):Prop :=
 match x with
 | .ta cells=>F (.ta cells)
 | .ab id o=>F (.ab id o)
 | .ae id p i f st=>F (.ae id p i f st)
 | _=>False
theorem Zup{x:X}:ZD C d (.nc x) ⟨lvl,env,loc,out⟩ K=nc2 (xv env x) (Ye lvl env loc out d K):=Yu rfl fun _=>rfl
theorem Zuq{cells:List Tr}{F:IV->Prop}:nc2 (.ta cells) F=F (.ta cells):=(rfl)
theorem Zur{id:Zd}{o:Nat}{F:IV->Prop}:nc2 (.ab id o) F=F (.ab id o):=(rfl)
theorem Zus{id:Zd}{p:Zn}{i f s:Nat}{F:IV->Prop}:nc2 (.ae id p i f s) F=F (.ae id p i f s):=(rfl)
def fa2(off:Nat)(x:IV)(F:IV->Prop):Prop :=
 match x with
 | .ta cells=>F (.ta (cells.drop off))
 | .ab id o=>F (.ab id (o+off))
 | .ae id p i f st=>F (.ae id p i (f+off) st)
 | _=>False
theorem Zut{off:Nat}{x:X}:ZD C d (.fa off x) ⟨lvl,env,loc,out⟩ K=fa2 off (xv env x) (Ye lvl env loc out d K):=Yu rfl fun _=>rfl
theorem Zuu{off:Nat}{cells:List Tr}{F:IV->Prop}:fa2 off (.ta cells) F=F (.ta (cells.drop off)):=(rfl)
theorem Zuv{off:Nat}{id:Zd}{o:Nat}{F:IV->Prop}:fa2 off (.ab id o) F=F (.ab id (o+off)):=(rfl)
theorem Zuw{off:Nat}{id:Zd}{p:Zn}{i f s:Nat}{F:IV->Prop}:fa2 off (.ae id p i f s) F=F (.ae id p i (f+off) s):=(rfl)
def fd2(off:Nat)(m:Option Nat)(x:IV)(F:IV->Prop):Prop :=
 match m,x with
 | none,.ag l=>Jg l[off]? F
 | some m,.ag l=>off+m<=l.length/\F (.ag ((l.drop off).take m))
 | _,_=>False
theorem Zux{off:Nat}{m:Option Nat}{x:X}:ZD C d (.fd off m x) ⟨lvl,env,loc,out⟩ K=fd2 off m (xv env x) (Ye lvl env loc out d K):=by
 refine Yu (o:=.fd off m x) (T:=fun F=>fd2 off m (xv env x) F) rfl (fun Kd=>?_);cases m<;>simp only[ev,fd2]<;>generalize xv env x=v<;>cases v<;>try rfl
 exact YT
theorem Zuy{off:Nat}{l:List IV}{F:IV->Prop}:fd2 off none (.ag l) F=Jg l[off]? F:=(rfl)
theorem Zuz{off m:Nat}{l:List IV}{F:IV->Prop}:fd2 off (some m) (.ag l) F=(off+m<=l.length/\F (.ag ((l.drop off).take m))):=(rfl)
def VC(i:IV)(F:Nat->Prop):Prop :=
 match i with
 | .tr (.v (.int _ n))=>0<=n/\F n.toNat
 | _=>False
theorem ZuA{k:IntKind}{n:Int}{F:Nat->Prop}:VC (.tr (.v (.int k n))) F=(0<=n/\F n.toNat):=(rfl)
def Dr(L:Zb)(k:Nat)(x:IV)(F:IV->Prop)(n:Nat):Prop :=
 match x with
 | .tr (.sl es)=>Jg es[n]? fun e=>e.length=k/\F (.ta e)
 | .cs es=>Jg es[n]? fun e=>e.length=k/\F (.ta e)
 | .hd id p off len _ st=>JU L id p st fun es _ _=>n<len/\Jg es[off+n]? fun e=>e.length=k/\F (.ae id p (off+n) 0 st)
 | _=>False
theorem ZuB{k:Nat}{x i:X}:ZD C d (.ia k x i) ⟨lvl,env,loc,out⟩ K=VC (xv env i) (Dr (ZF lvl loc out) k (xv env x) (Ye lvl env loc out d K)):=by
 refine Yu (o:=.ia k x i) (T:=fun F=>VC (xv env i) (Dr (ZF lvl loc out) k (xv env x) F)) rfl (fun Kd=>?_);simp only[ev];generalize xv env i=vi;cases vi<;>try rfl
 rename_i t;cases t<;>try rfl
 rename_i y;cases y<;>try rfl
 rename_i kk n;simp only[VC,Dr];generalize xv env x=v;cases v<;>try rfl
 ·rename_i t;cases t<;>try rfl
  dsimp only;rw[YT]
 ·dsimp only;rw[YT]
 ·dsimp only;simp only[YT]
def iae(k:Nat)(F:IV->Prop)(e:List Tr):Prop:=e.length=k/\F (.ta e)
theorem ZuC{k:Nat}{F:IV->Prop}{e:List Tr}:iae k F e=(e.length=k/\F (.ta e)):=(rfl)
theorem ZuD{L:Zb}{k n:Nat}{es:Row}{F:IV->Prop}:Dr L k (.tr (.sl es)) F n=Jg es[n]? (iae k F):=(rfl)
theorem ZuE{L:Zb}{k n:Nat}{es:Row}{F:IV->Prop}:Dr L k (.cs es) F n=Jg es[n]? (iae k F):=(rfl)
def V0(o:Option Ob)(p:Zn)(st:Nat)(F:Row->Bool->Nat->Prop):Prop :=
 match o with
 | some (.ar _ es u hw ver)=>J2 p st hw ver u/\Jg (getp es p) fun es' => F es' u ver
 | _=>False
theorem W3{L:Zb}{id:Zd}{p:Zn}{st:Nat}{F:Row->Bool->Nat->Prop}:JU L id p st F=V0 (L id) p st F:=by
 unfold JU V0;generalize L id=o;cases o with
 | none=>rfl
 | some ob =>
  cases ob with
  | bx=>rfl
  | mp=>rfl
  | ar k es u hw ver =>
   dsimp only;rw[<-YT];apply propext;constructor
   ·rintro⟨es',h1,h2,h3⟩;exact⟨h2,es',h1,h3⟩
   ·rintro⟨h2,es',h1,h3⟩;exact⟨es',h1,h2,h3⟩
def rde(u:Bool)(ver:Nat)(F:Row->Bool->Nat->Prop)(es:Row):Prop:=F es u ver
theorem ZuF{u:Bool}{ver:Nat}{F:Row->Bool->Nat->Prop}{es:Row}:rde u ver F es=F es u ver:=(rfl)
theorem ZuG{k:Nat}{es:Row}{u:Bool}{hw ver:Nat}{p:Zn}{st:Nat}{F:Row->Bool->Nat->Prop}:V0 (some (.ar k es u hw ver)) p st F=(J2 p st hw ver u/\Jg (getp es p) (rde u ver F)):=(rfl)
theorem ZuH{st hw ver:Nat}{u:Bool}:J2 [] st hw ver u=(st=hw):=(rfl)
theorem ZuI{a:Nat×Nat}{p:Zn}{st hw ver:Nat}{u:Bool}:J2 (a::p) st hw ver u=(u=true/\st=ver):=(rfl)
def iah(id:Zd)(p:Zn)(off len st k n:Nat)(F:IV->Prop)(es:Row)(_u:Bool)(_v:Nat):Prop:=n<len/\Jg es[off+n]? fun e=>e.length=k/\F (.ae id p (off+n) 0 st)
def Zj4(id:Zd)(p:Zn)(off st k n:Nat)(F:IV->Prop)(e:List Tr):Prop:=e.length=k/\F (.ae id p (off+n) 0 st)
theorem ZuJ{id:Zd}{p:Zn}{off len st k n:Nat}{F:IV->Prop}{es:Row}{u:Bool}{v:Nat}:iah id p off len st k n F es u v=(n<len/\Jg es[off+n]? (Zj4 id p off st k n F)):=(rfl)
theorem ZuK{id:Zd}{p:Zn}{off st k n:Nat}{F:IV->Prop}{e:List Tr}:Zj4 id p off st k n F e=(e.length=k/\F (.ae id p (off+n) 0 st)):=(rfl)
theorem ZuL{L:Zb}{k n:Nat}{id:Zd}{p:Zn}{off len st:Nat}{cap:Option Nat}{F:IV->Prop}:Dr L k (.hd id p off len cap st) F n=V0 (L id) p st (iah id p off len st k n F):=W3
def ja2(k m:Nat)(x:IV)(F:IV->Prop)(n:Nat):Prop :=
 n<m /\
 match x with
 | .ta cells=>F (.ta (cells.drop (n*k)))
 | .ab id o=>F (.ab id (o+n*k))
 | .ae id p i f st=>F (.ae id p i (f+n*k) st)
 | _=>False
theorem ZuM{k m:Nat}{x i:X}:ZD C d (.ja k m x i) ⟨lvl,env,loc,out⟩ K=VC (xv env i) (ja2 k m (xv env x) (Ye lvl env loc out d K)):=by refine Yu (o:=.ja k m x i) (T:=fun F=>VC (xv env i) (ja2 k m (xv env x) F)) rfl (fun Kd=>?_);simp only[ev];generalize xv env i=vi;cases vi<;>rfl
theorem ZuN{k m n:Nat}{cells:List Tr}{F:IV->Prop}:ja2 k m (.ta cells) F n=(n<m/\F (.ta (cells.drop (n*k)))):=(rfl)
theorem ZuO{k m n:Nat}{id:Zd}{o:Nat}{F:IV->Prop}:ja2 k m (.ab id o) F n=(n<m/\F (.ab id (o+n*k))):=(rfl)
theorem ZuP{k m n:Nat}{id:Zd}{p:Zn}{i f s:Nat}{F:IV->Prop}:ja2 k m (.ae id p i f s) F n=(n<m/\F (.ae id p i (f+n*k) s)):=(rfl)
def Ds(x:IV)(F:IV->Prop)(n:Nat):Prop :=
 match x with
 | .tr (.v (.string s))=>Jg s.data.toList[n]? fun b=>F (.tr (.v (.int .u8 b.toNat)))
 | _=>False
def ixb(F:IV->Prop)(b:UInt8):Prop:=F (.tr (.v (.int .u8 b.toNat)))
theorem ZuQ{F:IV->Prop}{b:UInt8}:ixb F b=F (.tr (.v (.int .u8 b.toNat))):=(rfl)
theorem ZuR{x i:X}:ZD C d (.ix x i) ⟨lvl,env,loc,out⟩ K=VC (xv env i) (Ds (xv env x) (Ye lvl env loc out d K)):=by
 refine Yu (o:=.ix x i) (T:=fun F=>VC (xv env i) (Ds (xv env x) F)) rfl (fun Kd=>?_);simp only[ev];generalize xv env i=vi;generalize xv env x=v;cases vi with
 | tr t =>
  cases t with
  | v y =>
   cases y with
   | int kk n =>
    cases v with
    | tr t =>
     cases t with
     | v z=>cases z<;>simp only[VC,Ds,and_false]<;>rw[YT]
     | sl=>simp only[VC,Ds,and_false]
    | _=>simp only[VC,Ds,and_false]
   | _ =>
     cases v<;>try rfl
     rename_i t;cases t<;>try rfl
     rename_i z;cases z<;>rfl
  | sl es =>
    cases v<;>try rfl
    rename_i t;cases t<;>try rfl
    rename_i z;cases z<;>rfl
 | _ =>
   cases v<;>try rfl
   rename_i t;cases t<;>try rfl
   rename_i z;cases z<;>rfl
theorem ZuS{s:ByteArray}{F:IV->Prop}{n:Nat}:Ds (.tr (.v (.string s))) F n=Jg s.data.toList[n]? (ixb F):=(rfl)
def Dt(k m:Nat)(q:Option Nat)(x:IV)(F:IV->Prop)(n:Nat):Prop :=
 match q,x with
 | none,.ag l=>n<m/\Jg l[n*k]? F
 | some q,.ag l=>n<m/\n*k+q<=l.length/\F (.ag ((l.drop (n*k)).take q))
 | _,_=>False
theorem ZuT{k m:Nat}{q:Option Nat}{x i:X}:ZD C d (.jx k m q x i) ⟨lvl,env,loc,out⟩ K=VC (xv env i) (Dt k m q (xv env x) (Ye lvl env loc out d K)):=by
 refine Yu (o:=.jx k m q x i) (T:=fun F=>VC (xv env i) (Dt k m q (xv env x) F)) rfl (fun Kd=>?_);cases q<;>simp only[ev]<;>generalize xv env i=vi<;>generalize xv env x=v
 ·cases vi with
  | tr t =>
   cases t with
   | v y =>
    cases y with
    | int kk n=>cases v<;>simp only[VC,Dt,and_false]<;>rw[YT]
    | _=>cases v<;>rfl
   | sl es=>cases v<;>rfl
  | _=>cases v<;>rfl
 ·cases vi with
  | tr t =>
   cases t with
   | v y =>
    cases y with
    | int kk n=>cases v<;>simp only[VC,Dt,and_false]
    | _=>cases v<;>rfl
   | sl es=>cases v<;>rfl
  | _=>cases v<;>rfl
theorem ZuU{k m n:Nat}{l:List IV}{F:IV->Prop}:Dt k m none (.ag l) F n=(n<m/\Jg l[n*k]? F):=(rfl)
theorem ZuV{k m n q:Nat}{l:List IV}{F:IV->Prop}:Dt k m (some q) (.ag l) F n=(n<m/\n*k+q<=l.length/\F (.ag ((l.drop (n*k)).take q))):=(rfl)
end
end Go.Fd
