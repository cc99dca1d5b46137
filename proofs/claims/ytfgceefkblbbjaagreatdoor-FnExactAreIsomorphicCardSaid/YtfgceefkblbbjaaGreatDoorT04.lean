/-
  FOUNDATION 46: more rules: stores, append. Own work.
-/
import Derived.Test.YtfgceefkblbbjaaGreatDoorT03
import Derived.ChangeArms
import Derived.OpenShut
import Derived.Carry
import Derived.ChangeMaps5
import Derived.ChangeShapes
import Derived.Test.YtfgceefkblbbjaaGreatDoorProg
import Derived.KernelRfl
set_option linter.all false
namespace Go.Fd
section
variable {C:Zg} {lvl:Nat} {env:List (Nat×IV)} {loc:List (Nat×Ob)} {out:Sto} {d:Option Nat} {K:St->Prop} {st:St}
def st2(v:Option (List IV))(m:Nat)(p:IV)(d:Option Nat)(st:St)(K:St->Prop):Prop :=
 match v with
 | some l=>d=none/\l.length=m /\
  match p with
  | .ab id off =>
   match st.sto id with
   | some (.bx cells)=>off+l.length<=cells.length/\UE (id.1+1) l/\K (Zn st id (.bx (We cells off l)))
   | _=>False
  | .ae id p i f s=>Zdg id p i s f l st K
  | _=>False
 | none=>False
theorem Zu8{m:Nat}{p x:X}:op2 C d (.st m p x) ⟨lvl,env,loc,out⟩ K=st2 (cellsOf (xv env x)) m (xv env p) d ⟨lvl,env,loc,out⟩ K:=by
 rw[ZV rfl]
 simp only[ew]
 generalize cellsOf (xv env x)=v
 cases v with
 | none=>simp [st2]
 | some l=>rfl
def stb(o:Option Ob)(id:Oid)(off:Nat)(l:List IV)(st:St)(K:St->Prop):Prop :=
 match o with
 | some (.bx cells)=>off+l.length<=cells.length/\UE (id.1+1) l/\K (Zn st id (.bx (We cells off l)))
 | _=>False
theorem ZsP{m:Nat}{l:List IV}{id:Oid}{off:Nat}:st2 (some l) m (.ab id off) d ⟨lvl,env,loc,out⟩ K=(d=none/\l.length=m/\stb (Zu lvl loc out id) id off l ⟨lvl,env,loc,out⟩ K):=(rfl)
theorem ZsQ{m:Nat}{l:List IV}{id:Oid}{p:Pth}{i f s:Nat}:st2 (some l) m (.ae id p i f s) d st K=(d=none/\l.length=m/\Zdg id p i s f l st K):=(rfl)
theorem ZsR{cells l:List IV}{id:Oid}{off:Nat}:stb (some (.bx cells)) id off l st K=(off+l.length<=cells.length/\UE (id.1+1) l/\K (Zn st id (.bx (We cells off l)))):=(rfl)
theorem Qa{cs:List IV}{off:Nat}:We cs off []=cs:=(rfl)
theorem Qb{cs:List IV}{off:Nat}{x:IV}{r:List IV}:We cs off (x::r)=We (cs.set off x) (off+1) r:=(rfl)
theorem ZlT{l:Nat}:UE l []=True:=(rfl)
theorem ZlU{l:Nat}{x:IV}{r:List IV}:UE l (x::r)=(low l x/\UE l r):=(rfl)
theorem Zou{l:Nat}{t:Tr}:low l (.tr t)=True:=(rfl)
theorem Zov{l:Nat}{es:Row}:low l (.cs es)=True:=(rfl)
theorem Zow{l k:Nat}{p:Pth}{off len s:Nat}{cap:Option Nat}:low (l+1) (.hd (l,k) p off len cap s)=True:=by
 apply propext;simp [low,men]
theorem Zox{l k off:Nat}:low (l+1) (.ab (l,k) off)=True:=by
 apply propext;simp [low,men]
theorem Zoy{l:Nat}{c:List IV}:low l (.ag c)=UE l c:=by simp only[low,UE,men]
theorem Zoz{l:Nat}{c:List IV}:low l (.tu c)=UE l c:=by simp only[low,UE,men]
theorem ZoA{l k:Nat}{es:Row}{u:Bool}:low l (.ow k es u)=True:=(rfl)
theorem ZoB{l:Nat}:low l .un=True:=(rfl)
theorem ZoC{l:Nat}:low l .er=True:=(rfl)
theorem ZlV{l:Nat}{c:List Tr}:low l (.ta c)=True:=(rfl)
def kst(id:Oid)(p:Pth)(i s f:Nat)(r:List IV)(K:St->Prop)(st':St):Prop:=Zdg id p i s f r st' K
theorem ZsS{id:Oid}{p:Pth}{i s f:Nat}{r:List IV}:kst id p i s f r K st=Zdg id p i s f r st K:=(rfl)
theorem ZlW{id:Oid}{p:Pth}{i s f:Nat}:Zdg id p i s f [] st K=K st:=(rfl)
def sc1(o:Option Ob)(id:Oid)(p:Pth)(i f s:Nat)(x:IV)(st:St)(K:St->Prop):Prop :=
 match o with
 | some (.ar k es u hw ver)=>VY p s hw ver u/\op3 (getp es p) fun es' => op3 es'[i]? fun e=>op3 e[f]? fun t0 =>
  match x with
  | .tr (.v y)=>isSc t0=true/\K (Zn st id (.ar k (YG es p i f (.v y)) u hw ver))
  | .cs []=>p=[]/\K (Zn st id (.ar k (YG es [] i f (.sl [])) u hw (ver+1)))
  | .cs zs=>p=[]/\K (Zn st id (.ar k (YG es [] i f (.sl zs)) false hw (ver+1)))
  | .tr (.sl zs)=>p=[]/\K (Zn st id (.ar k (YG es [] i f (.sl zs)) false hw (ver+1)))
  | .hd id2 [] 0 len none s2=>p=[]/\id2≠id/\id2.1=st.lvl /\
   match st.sto id2 with
   | some (.ar _ zs u2 hw2 _)=>s2=hw2/\len=zs.length/\K (Zn (Y0 id2 st) id (.ar k (YG es [] i f (.sl zs)) (u&&u2) hw (ver+1)))
   | _=>False
  | _=>False
 | _=>False
theorem ZlX{id:Oid}{p:Pth}{i s f:Nat}{x:IV}{r:List IV}:Zdg id p i s f (x::r) ⟨lvl,env,loc,out⟩ K=sc1 (Zu lvl loc out id) id p i f s x ⟨lvl,env,loc,out⟩ (kst id p i s (f+1) r K):=by
 simp only[Zdg,stc,sc1]
 rw[show (⟨lvl,env,loc,out⟩:St).sto id=Zu lvl loc out id from rfl]
 generalize Zu lvl loc out id=o
 cases o with
 | none=>rfl
 | some ob =>
  cases ob with
  | bx=>rfl
  | ar k es u hw ver =>
   dsimp only
   rw[<-Vu]
   apply propext
   constructor
   ·rintro⟨es',h1,h2,e,h3,t0,h4,h5⟩
    refine⟨h2,es',h1,?_⟩
    rw[h3]
    simp only[op3]
    rw[h4]
    exact h5
   ·rintro⟨h2,es',h1,h3⟩
    rw[<-Vu] at h3
    obtain⟨e,h3,h4⟩:=h3
    rw[<-Vu] at h4
    obtain⟨t0,h4,h5⟩:=h4
    exact⟨es',h1,h2,e,h3,t0,h4,h5⟩
def sc2(k:Nat)(es:Row)(u:Bool)(hw ver:Nat)(id:Oid)(p:Pth)(i f:Nat)(x:IV)(st:St)(K:St->Prop)(t0:Tr):Prop :=
  match x with
  | .tr (.v y)=>isSc t0=true/\K (Zn st id (.ar k (YG es p i f (.v y)) u hw ver))
  | .cs []=>p=[]/\K (Zn st id (.ar k (YG es [] i f (.sl [])) u hw (ver+1)))
  | .cs zs=>p=[]/\K (Zn st id (.ar k (YG es [] i f (.sl zs)) false hw (ver+1)))
  | .tr (.sl zs)=>p=[]/\K (Zn st id (.ar k (YG es [] i f (.sl zs)) false hw (ver+1)))
  | .hd id2 [] 0 len none s2=>p=[]/\id2≠id/\id2.1=st.lvl /\
   match st.sto id2 with
   | some (.ar _ zs u2 hw2 _)=>s2=hw2/\len=zs.length/\K (Zn (Y0 id2 st) id (.ar k (YG es [] i f (.sl zs)) (u&&u2) hw (ver+1)))
   | _=>False
  | _=>False
def sc3(k:Nat)(es:Row)(u:Bool)(hw ver:Nat)(id:Oid)(p:Pth)(i f:Nat)(x:IV)(st:St)(K:St->Prop)(e:List Tr):Prop:=op3 e[f]? (sc2 k es u hw ver id p i f x st K)
def sc4(k:Nat)(es:Row)(u:Bool)(hw ver:Nat)(id:Oid)(p:Pth)(i f:Nat)(x:IV)(st:St)(K:St->Prop)(es':Row):Prop:=op3 es'[i]? (sc3 k es u hw ver id p i f x st K)
section sc
variable {k:Nat} {es:Row} {u:Bool} {hw ver:Nat} {id:Oid} {p:Pth} {i f s:Nat} {x:IV}
theorem ZsT:sc1 (some (.ar k es u hw ver)) id p i f s x st K=(VY p s hw ver u/\op3 (getp es p) (sc4 k es u hw ver id p i f x st K)):=(rfl)
theorem ZsU{e:List Tr}:sc3 k es u hw ver id p i f x st K e=op3 e[f]? (sc2 k es u hw ver id p i f x st K):=(rfl)
theorem ZsV{es':Row}:sc4 k es u hw ver id p i f x st K es'=op3 es'[i]? (sc3 k es u hw ver id p i f x st K):=(rfl)
theorem ZsW{y:Value}{t0:Tr}:sc2 k es u hw ver id p i f (.tr (.v y)) st K t0=(isSc t0=true/\K (Zn st id (.ar k (YG es p i f (.v y)) u hw ver))):=(rfl)
theorem ZoD{t0:Tr}:sc2 k es u hw ver id p i f (.cs []) st K t0=(p=[]/\K (Zn st id (.ar k (YG es [] i f (.sl [])) u hw (ver+1)))):=(rfl)
theorem ZoE{zs:Row}{t0:Tr}:sc2 k es u hw ver id p i f (.tr (.sl zs)) st K t0=(p=[]/\K (Zn st id (.ar k (YG es [] i f (.sl zs)) false hw (ver+1)))):=(rfl)
def sc5(o:Option Ob)(k:Nat)(es:Row)(u:Bool)(hw ver:Nat)(id:Oid)(i f len s2:Nat)(st2 st:St)(K:St->Prop):Prop :=
 match o with
 | some (.ar _ zs u2 hw2 _)=>s2=hw2/\len=zs.length/\K (Zn st2 id (.ar k (YG es [] i f (.sl zs)) (u&&u2) hw (ver+1)))
 | _=>False
theorem ZoF{key len s2:Nat}{t0:Tr}:sc2 k es u hw ver id p i f (.hd (lvl,key) [] 0 len none s2) ⟨lvl,env,loc,out⟩ K t0=(p=[]/\(lvl,key)≠id/\sc5 (lkO key loc) k es u hw ver id i f len s2 (Y0 (lvl,key) ⟨lvl,env,loc,out⟩) ⟨lvl,env,loc,out⟩ K):=by
 simp only[sc2]
 rw[show (⟨lvl,env,loc,out⟩:St).sto (lvl,key)=lkO key loc from Yg]
 generalize lkO key loc=o
 apply propext
 constructor
 ·rintro⟨h1,h2,_,h3⟩
  refine⟨h1,h2,?_⟩
  cases o with
  | none=>exact h3
  | some ob=>cases ob <;> exact h3
 ·rintro⟨h1,h2,h3⟩
  refine⟨h1,h2,trivial,?_⟩
  cases o with
  | none=>exact h3
  | some ob=>cases ob <;> exact h3
theorem ZsX{k2:Nat}{zs:Row}{u2:Bool}{hw2 ver2 len s2:Nat}{st2:St}:sc5 (some (.ar k2 zs u2 hw2 ver2)) k es u hw ver id i f len s2 st2 st K=(s2=hw2/\len=zs.length/\K (Zn st2 id (.ar k (YG es [] i f (.sl zs)) (u&&u2) hw (ver+1)))):=(rfl)
end sc
theorem Zu9{k n:Nat}{z:List Value}{ps:List (Nat×X)}:op2 C d (.bw k n z ps) ⟨lvl,env,loc,out⟩ K=ew C d ⟨lvl,env,loc,out⟩ K (.bw k n z ps):=ZV rfl
def kbw(k lvl:Nat)(d:Option Nat)(K:St->Prop)(ts:List Tr)(u:Bool)(st':St):Prop :=
 K { Zn st' (lvl,keyOf d) (.ar k [ts] u 1 0) with env:=ptd d (.hd (lvl,keyOf d) [] 0 1 none 1) st'.env }
theorem ZsY{k:Nat}{ts:List Tr}{u:Bool}:kbw k lvl d K ts u ⟨lvl,env,loc,out⟩=K ⟨lvl,ptd d (.hd (lvl,keyOf d) [] 0 1 none 1) env,ptO (keyOf d) (.ar k [ts] u 1 0) loc,out⟩:=by
 simp only[kbw,Uj]
def bw2(v:Option (List IV))(k n:Nat)(d:Option Nat)(loc:List (Nat×Ob))(lvl:Nat)(st:St)(K:St->Prop):Prop :=
 match v with
 | some l=>n=1/\l.length=k/\freshK (keyOf d) loc 1/\Zfw l st (kbw k lvl d K)
 | none=>False
theorem ZsZ{k n:Nat}{z:List Value}{x:X}:ew C d ⟨lvl,env,loc,out⟩ K (.bw k n z [(0,x)])=bw2 (cellsOf (xv env x)) k n d loc lvl ⟨lvl,env,loc,out⟩ K:=by
 simp only[ew]
 generalize cellsOf (xv env x)=v
 cases v with
 | none=>simp [bw2]
 | some l=>rfl
theorem Zs0{k n:Nat}{l:List IV}:bw2 (some l) k n d loc lvl st K=(n=1/\l.length=k/\freshK (keyOf d) loc 1/\Zfw l st (kbw k lvl d K)):=(rfl)
def kmv(r:List IV)(F:List Tr->Bool->St->Prop)(t:Tr)(a:Bool)(st':St):Prop:=Zfw r st' fun ts b st'' => F (t::ts) (a&&b) st''
def kmc(t:Tr)(a:Bool)(F:List Tr->Bool->St->Prop)(ts:List Tr)(b:Bool)(st'':St):Prop:=F (t::ts) (a&&b) st''
section mv
variable {r:List IV} {F:List Tr->Bool->St->Prop} {F1:Tr->Bool->St->Prop}
theorem Zs1{t:Tr}{a:Bool}:kmv r F t a st=Zfw r st (kmc t a F):=(rfl)
theorem Zs2{t:Tr}{a:Bool}{ts:List Tr}{b:Bool}:kmc t a F ts b st=F (t::ts) (a&&b) st:=(rfl)
theorem ZlY:Zfw [] st F=F [] true st:=(rfl)
theorem ZlZ{x:IV}:Zfw (x::r) st F=mvc st x (kmv r F):=(rfl)
theorem ZoG{y:Value}:mvc st (.tr (.v y)) F1=F1 (.v y) true st:=(rfl)
theorem ZoH{es:Row}:mvc st (.tr (.sl es)) F1=F1 (.sl es) false st:=(rfl)
theorem ZoI:mvc st (.cs []) F1=F1 (.sl []) true st:=(rfl)
def mv5(o:Option Ob)(len s2:Nat)(st1:St)(F1:Tr->Bool->St->Prop):Prop :=
 match o with
 | some (.ar _ zs u2 hw2 _)=>s2=hw2/\len=zs.length/\F1 (.sl zs) u2 st1
 | _=>False
theorem ZoJ{key len s2:Nat}:mvc ⟨lvl,env,loc,out⟩ (.hd (lvl,key) [] 0 len none s2) F1=mv5 (lkO key loc) len s2 (Y0 (lvl,key) ⟨lvl,env,loc,out⟩) F1:=by
 simp only[mvc]
 rw[show (⟨lvl,env,loc,out⟩:St).sto (lvl,key)=lkO key loc from Yg]
 generalize lkO key loc=o
 apply propext
 constructor
 ·rintro⟨_,h3⟩
  cases o with
  | none=>exact h3
  | some ob=>cases ob <;> exact h3
 ·intro h3
  refine⟨trivial,?_⟩
  cases o with
  | none=>exact h3
  | some ob=>cases ob <;> exact h3
theorem Zs3{k2:Nat}{zs:Row}{u2:Bool}{hw2 ver2 len s2:Nat}:mv5 (some (.ar k2 zs u2 hw2 ver2)) len s2 st F1=(s2=hw2/\len=zs.length/\F1 (.sl zs) u2 st):=(rfl)
end mv
def ZoK:IV->Prop
 | .hd _ [] 0 _ none _=>True
 | _=>False
theorem ZoL{id:Oid}{len s:Nat}:ZoK (.hd id [] 0 len none s)=True:=(rfl)
def ZkJ:List IV->Prop
 | []=>True
 | .tr (.v _)::r=>ZkJ r
 | _=>False
theorem Zl0:ZkJ []=True:=(rfl)
theorem Zl1{y:Value}{r:List IV}:ZkJ (.tr (.v y)::r)=ZkJ r:=(rfl)
def smp(p:IV)(l:Option (List IV)):Prop :=
 match p with
 | .ab .. => True
 | .ae .. => l≠some []/\ZkJ (l.getD [])
 | _=>False
theorem ZoM{id:Oid}{off:Nat}{l:Option (List IV)}:smp (.ab id off) l=True:=(rfl)
theorem ZoN{id:Oid}{p:Pth}{i f s:Nat}{x:IV}{r:List IV}:smp (.ae id p i f s) (some (x::r))=ZkJ (x::r):=by simp [smp]
theorem ZgL{id:Oid}{p:Pth}{i s k:Nat}{u:Bool}{hw ver:Nat}:∀(l:List IV) (f:Nat) (es:Row) (st0:St) (K:St->Prop),ZkJ l->st0.sto id=some (.ar k es u hw ver)->Zdg id p i s f l st0 K->stq p i f l es (fun es' => K (Zn st0 id (.ar k es' u hw ver)))\/l=[]
 | [],f,es,st0,K,_,_,h=>.inr rfl
 | x::r,f,es,st0,K,ha,hs,h=>by
  refine .inl ?_
  simp only[Zdg,stc] at h
  rw[hs] at h
  obtain⟨es',hg,hst,e,hi,t0,hf,h⟩:=h
  cases x with
  | tr t =>
   cases t with
   | v y =>
    obtain⟨hsc,h⟩:=h
    simp only[stq]
    refine⟨es',hg,e,hi,t0,hf,hsc,?_⟩
    have hs1:(Zn st0 id (.ar k (YG es p i f (.v y)) u hw ver)).sto id=some (.ar k (YG es p i f (.v y)) u hw ver):=by rw[Z2];unfold ZF;rw[if_pos rfl]
    rcases ZgL r (f+1) _ _ K ha hs1 h with g | g
    ·simp only[Wp] at g
     exact g
    ·subst g
     exact h
   | sl=>cases ha
  | _=>cases ha
theorem Zva{m:Nat}{p x:X}:op2 C d (.s0 m p x) ⟨lvl,env,loc,out⟩ K=(smp (xv env p) (cellsOf (xv env x))/\op2 C d (.st m p x) ⟨lvl,env,loc,out⟩ K):=by
 rw[ZV rfl,ZV rfl]
 simp only[ew,U0]
 generalize cellsOf (xv env x)=v
 generalize xv env p=q
 apply propext
 constructor
 ·rintro⟨h0,h⟩
  split at h <;> try contradiction
  rename_i l
  obtain⟨h1,h⟩:=h
  split at h <;> try contradiction
  ·exact⟨trivial,h0,h1,h⟩
  ·rename_i id p i f s
   split at h <;> try contradiction
   rename_i k es u hw ver hs
   obtain⟨g1,g2,g3⟩:=h
   refine⟨⟨by simpa using g1,?_⟩,h0,h1,Zdt g2 l f es _ K hs g3 (fun e=>absurd e g1)⟩
   have:∀(l:List IV) (f:Nat) (es:Row) (K:Row->Prop),stq p i f l es K->ZkJ l:=by
    intro l
    induction l with
    | nil=>intros;trivial
    | cons x r ih =>
     intro f es K h
     simp only[stq] at h
     obtain⟨_,_,_,_,_,_,_,h⟩:=h
     split at h <;> try contradiction
     exact ih _ _ _ h
   exact this _ _ _ _ g3
 ·rintro⟨h3,h0,h⟩
  refine⟨h0,?_⟩
  split at h <;> try contradiction
  rename_i l
  obtain⟨h1,h⟩:=h
  refine⟨h1,?_⟩
  split at h <;> try contradiction
  ·exact h
  ·rename_i id p i f s
   obtain⟨g1,g2⟩:=h3
   cases l with
   | nil=>exact absurd rfl g1
   | cons y r =>
    have h':=h
    simp only[Zdg,stc] at h'
    split at h' <;> try contradiction
    rename_i k es u hw ver hs
    refine⟨by simp,h'.choose_spec.2.1,?_⟩
    rcases ZgL _ _ _ _ K g2 hs h with g | g
    ·exact g
    ·cases g
theorem Zvb{k:Nat}{x y:X}:op2 C d (.a0 k x y) ⟨lvl,env,loc,out⟩ K=(ZoK (xv env x)/\op2 C d (.ap k 0 x y) ⟨lvl,env,loc,out⟩ K):=by
 rw[ZV rfl,ZV rfl]
 apply propext
 constructor
 ·intro he
  refine⟨?_,Zgx he⟩
  simp only[ew,U0] at he
  split at he <;> try contradiction
  rename_i hx
  rw[hx];trivial
 ·rintro⟨h1,h⟩
  generalize hq:xv env x=q at h1
  unfold ZoK at h1
  split at h1 <;> try contradiction
  rename_i id len s
  have go:∀ items:Row,ScR items->WD d k x loc items true ⟨lvl,env,loc,out⟩ K->match Zu lvl loc out id with
   | some (.ar k' es u hw ver)=>k'=k/\s=hw/\len=es.length/\ScR items/\UnR k items/\len+items.length<=bigN /\
     K { Zn ⟨lvl,env,loc,out⟩ id (.ar k (es++items) u (max hw (len+items.length)) ver) with env:=ptd d (.hd id [] 0 (len+items.length) none (max hw (len+items.length))) env }
   | _=>False:=fun items hsc h=>by
   unfold WD at h
   obtain⟨g1,h⟩:=h
   simp only[hq] at h
   rw[show (⟨lvl,env,loc,out⟩:St).sto id=Zu lvl loc out id from rfl] at h
   generalize Zu lvl loc out id=o at h ⊢
   cases o with
   | none=>exact h
   | some ob =>
    cases ob with
    | bx=>exact h
    | ar k' es u hw ver =>
     simp only[Bool.and_true] at h
     exact⟨h.1,h.2.1,h.2.2.1,hsc,g1,h.2.2.2.1,h.2.2.2.2⟩
  simp only[ew,U0,Zfu] at h ⊢
  rw[hq]
  rw[show (⟨lvl,env,loc,out⟩:St).sto=Zu lvl loc out from rfl] at *
  split at h <;> try contradiction
  ·rename_i zs hy
   simp only[if_true] at h
   have:=go zs h.1 h.2
   rw[hy]
   exact this
  ·rename_i zs hy
   simp only[if_true] at h
   have:=go zs h.1 h.2
   rw[hy]
   exact this
  ·rename_i id2 p2 off2 len2 c2 s2 hy
   simp only[if_true] at h
   rw[hy]
   dsimp only
   unfold rdh at h ⊢
   generalize Zu lvl loc out id2=o3 at h ⊢
   cases o3 with
   | none=>exact h.elim
   | some ob3 =>
    cases ob3 with
    | bx=>exact h.elim
    | ar k3 es3 u3 hw3 ver3 =>
     obtain⟨es',q1,q2,q3,q4,q5⟩:=h
     have:=go _ q4 q5
     split at this <;> try contradiction
     rename_i hs
     show (match Zu lvl loc out id with
      | some (.ar k' es u hw ver)=>k'=k/\s=hw/\len=es.length/\∃ es',getp es3 p2=some es'/\VY p2 s2 hw3 ver3 u3/\off2+len2<=es'.length/\ScR (cut es' off2 len2)/\UnR k (cut es' off2 len2)/\len+(cut es' off2 len2).length<=bigN /\
        K { Zn ⟨lvl,env,loc,out⟩ id (.ar k (es++cut es' off2 len2) u (max hw (len+(cut es' off2 len2).length)) ver) with env:=ptd d (.hd id [] 0 (len+(cut es' off2 len2).length) none (max hw (len+(cut es' off2 len2).length))) env }
      | _=>False)
     rw[hs]
     exact⟨this.1,this.2.1,this.2.2.1,es',q1,q2,q3,this.2.2.2⟩
  ·exact absurd h.1 (by decide)
def Zp6:IV->Prop
 | .tr (.sl _)=>True
 | .cs _=>True
 | _=>False
theorem Zl2{es:Row}:Zp6 (.tr (.sl es))=True:=(rfl)
theorem Zl3{es:Row}:Zp6 (.cs es)=True:=(rfl)
theorem Zvc{k:Nat}{x y:X}:op2 C d (.a1 k x y) ⟨lvl,env,loc,out⟩ K=(ZoK (xv env x)/\Zp6 (xv env y)/\op2 C d (.ap k 1 x y) ⟨lvl,env,loc,out⟩ K):=by
 rw[ZV rfl,ZV rfl]
 apply propext
 constructor
 ·intro he
  refine⟨?_,?_,Zgy he⟩
  ·simp only[ew,U0] at he
   split at he <;> try contradiction
   rename_i hx
   rw[hx];trivial
  ·simp only[ew,U0] at he
   split at he <;> try contradiction
   split at he <;> try contradiction
   have h4:=he.2.2.2
   unfold ZmQ at h4
   split at h4 <;> try contradiction
   ·rename_i hy;rw[hy];trivial
   ·rename_i hy;rw[hy];trivial
 ·rintro⟨h1,h2,h⟩
  generalize hq:xv env x=q at h1
  unfold ZoK at h1
  split at h1 <;> try contradiction
  rename_i id len s
  have go:∀ items:Row,WD d k x loc items false ⟨lvl,env,loc,out⟩ K->match Zu lvl loc out id with
   | some (.ar k' es u hw ver)=>k'=k/\s=hw/\len=es.length/\UnR k items/\len+items.length<=bigN /\
     K { Zn ⟨lvl,env,loc,out⟩ id (.ar k (es++items) false (max hw (len+items.length)) ver) with env:=ptd d (.hd id [] 0 (len+items.length) none (max hw (len+items.length))) env }
   | _=>False:=fun items h=>by
   unfold WD at h
   obtain⟨g1,h⟩:=h
   simp only[hq] at h
   rw[show (⟨lvl,env,loc,out⟩:St).sto id=Zu lvl loc out id from rfl] at h
   generalize Zu lvl loc out id=o at h ⊢
   cases o with
   | none=>exact h
   | some ob =>
    cases ob with
    | bx=>exact h
    | ar k' es u hw ver =>
     simp only[Bool.and_false] at h
     exact⟨h.1,h.2.1,h.2.2.1,g1,h.2.2.2.1,h.2.2.2.2⟩
  simp only[ew,U0,ZmQ] at h ⊢
  rw[hq]
  rw[show (⟨lvl,env,loc,out⟩:St).sto=Zu lvl loc out from rfl] at *
  generalize hy:xv env y=yv at h h2 ⊢
  unfold Zp6 at h2
  split at h2 <;> try contradiction
  ·simp only[Nat.reduceEqDiff,if_false,true_and] at h
   exact go _ h
  ·simp only[Nat.reduceEqDiff,if_false,true_and] at h
   exact go _ h
def az1(x n:IV)(d:Option Nat)(k:Nat)(z:List Value)(st:St)(K:St->Prop):Prop :=
 match x with
 | .cs [] =>
  match n with
  | .tr (.v (.int .i64 m))=>0<m/\m<=bigN/\freshK (keyOf d) st.loc 1 /\
    K { Zn st (st.lvl,keyOf d) (.ar k (List.replicate m.toNat (z.map trv)) true m.toNat 0) with env:=ptd d (.hd (st.lvl,keyOf d) [] 0 m.toNat none m.toNat) st.env }
  | _=>False
 | _=>False
theorem Zvd{k:Nat}{z:List Value}{x n:X}:op2 C d (.az k z x n) ⟨lvl,env,loc,out⟩ K=az1 (xv env x) (xv env n) d k z ⟨lvl,env,loc,out⟩ K:=by
 rw[ZV rfl]
 rfl
theorem Zs4{k:Nat}{z:List Value}{m:Int}:az1 (.cs []) (.tr (.v (.int .i64 m))) d k z ⟨lvl,env,loc,out⟩ K=(0<m/\m<=bigN/\freshK (keyOf d) loc 1/\K ⟨lvl,ptd d (.hd (lvl,keyOf d) [] 0 m.toNat none m.toNat) env,ptO (keyOf d) (.ar k (List.replicate m.toNat (z.map trv)) true m.toNat 0) loc,out⟩):=by
 simp only[az1,Uj]
def tbx:IV->Prop
 | .ta _=>True
 | _=>False
theorem Zs5{cells:List Tr}:tbx (.ta cells)=True:=(rfl)
theorem Zve{m:Option Nat}{p:X}:op2 C d (.lt m p) ⟨lvl,env,loc,out⟩ K=(tbx (xv env p)/\op2 C d (.ld m p) ⟨lvl,env,loc,out⟩ K):=by
 cases m <;> (
  rw[Ju rfl,Ju rfl]
  simp only[ev]
  generalize hx:xv env p=q
  cases q <;> simp [tbx])
def av4(o:Option Ob)(id:Oid)(es:Row)(hw ver len off2 len2 s2 k:Nat)(d:Option Nat)(st:St)(K:St->Prop):Prop :=
 match o with
 | some (.ar _ es2 false hw2 _)=>s2=hw2/\off2+len2<=es2.length/\UnR k (cut es2 off2 len2)/\len+(cut es2 off2 len2).length<=bigN /\
   K { Zn st id (.ar k (es++cut es2 off2 len2) false (max hw (len+(cut es2 off2 len2).length)) ver) with env:=ptd d (.hd id [] 0 (len+(cut es2 off2 len2).length) none (max hw (len+(cut es2 off2 len2).length))) st.env }
 | _=>False
def av3(y:IV)(id:Oid)(es:Row)(hw ver len k:Nat)(d:Option Nat)(st:St)(K:St->Prop):Prop :=
 match y with
 | .hd id2 [] off2 len2 _ s2=>av4 (st.sto id2) id es hw ver len off2 len2 s2 k d st K
 | _=>False
def av2(o:Option Ob)(y:IV)(id:Oid)(len s k:Nat)(d:Option Nat)(st:St)(K:St->Prop):Prop :=
 match o with
 | some (.ar k' es _ hw ver)=>k'=k/\s=hw/\len=es.length/\av3 y id es hw ver len k d st K
 | _=>False
def av1(x y:IV)(k:Nat)(d:Option Nat)(st:St)(K:St->Prop):Prop :=
 match x with
 | .hd id [] 0 len none s=>av2 (st.sto id) y id len s k d st K
 | _=>False
theorem Zvf{k:Nat}{x y:X}:op2 C d (.a2 k x y) ⟨lvl,env,loc,out⟩ K=av1 (xv env x) (xv env y) k d ⟨lvl,env,loc,out⟩ K:=by
 rw[ZV rfl]
 rfl
theorem Zs6{id:Oid}{len s k:Nat}{y:IV}:av1 (.hd id [] 0 len none s) y k d ⟨lvl,env,loc,out⟩ K=av2 (Zu lvl loc out id) y id len s k d ⟨lvl,env,loc,out⟩ K:=(rfl)
theorem Zs7{k' hw ver len s k:Nat}{es:Row}{u:Bool}{y:IV}{id:Oid}:av2 (some (.ar k' es u hw ver)) y id len s k d st K=(k'=k/\s=hw/\len=es.length/\av3 y id es hw ver len k d st K):=(rfl)
theorem Zs8{id id2:Oid}{es:Row}{hw ver len k off2 len2 s2:Nat}{c2:Option Nat}:av3 (.hd id2 [] off2 len2 c2 s2) id es hw ver len k d ⟨lvl,env,loc,out⟩ K=av4 (Zu lvl loc out id2) id es hw ver len off2 len2 s2 k d ⟨lvl,env,loc,out⟩ K:=(rfl)
theorem Zs9{key:Nat}{es es2:Row}{k2 hw ver len off2 len2 s2 k hw2 ver2:Nat}:av4 (some (.ar k2 es2 false hw2 ver2)) (lvl,key) es hw ver len off2 len2 s2 k d ⟨lvl,env,loc,out⟩ K=(s2=hw2/\off2+len2<=es2.length/\UnR k (cut es2 off2 len2)/\len+(cut es2 off2 len2).length<=bigN /\
   K ⟨lvl,ptd d (.hd (lvl,key) [] 0 (len+(cut es2 off2 len2).length) none (max hw (len+(cut es2 off2 len2).length))) env,ptO key (.ar k (es++cut es2 off2 len2) false (max hw (len+(cut es2 off2 len2).length)) ver) loc,out⟩):=by
 simp only[av4,Uj]
def abx:IV->Prop
 | .ab .. => True
 | _=>False
theorem Zta{id:Oid}{off:Nat}:abx (.ab id off)=True:=(rfl)
theorem Zvg{m:Option Nat}{p:X}:op2 C d (.lb m p) ⟨lvl,env,loc,out⟩ K=(abx (xv env p)/\op2 C d (.ld m p) ⟨lvl,env,loc,out⟩ K):=by
 cases m <;> (
  rw[Ju rfl,Ju rfl]
  simp only[ev]
  generalize hx:xv env p=q
  cases q <;> simp [abx])
def tcs:IV->Prop
 | .tr (.sl _)=>True
 | .cs _=>True
 | _=>False
theorem ZoO{es:Row}:tcs (.tr (.sl es))=True:=(rfl)
theorem ZoP{es:Row}:tcs (.cs es)=True:=(rfl)
theorem Zvh{k:Nat}{x:X}{lo hi mx:Option X}:op2 C d (.sy k x lo hi mx) ⟨lvl,env,loc,out⟩ K=(tcs (xv env x)/\op2 C d (.sx k x lo hi mx) ⟨lvl,env,loc,out⟩ K):=by
 rw[Ju rfl,Ju rfl]
 simp only[ev]
 generalize hx:xv env x=q
 cases q with
 | tr t =>
  cases t with
  | v=>simp [tcs]
  | sl es=>simp only[tcs,true_and]
 | cs es=>simp only[tcs,true_and]
 | _=>simp only[tcs,false_and]
def swx(L:Sto)(k:Nat):IV->Prop
 | .tr (.sl _)=>True
 | .cs _=>True
 | .hd id [] _ _ _ _=>wid L id [] k
 | _=>False
theorem ZoQ{L:Sto}{k:Nat}{es:Row}:swx L k (.tr (.sl es))=True:=(rfl)
theorem ZoR{L:Sto}{k:Nat}{es:Row}:swx L k (.cs es)=True:=(rfl)
theorem ZoS{L:Sto}{k:Nat}{id:Oid}{off len s:Nat}{cap:Option Nat}:swx L k (.hd id [] off len cap s)=wid L id [] k:=(rfl)
def Zuh(m:Nat):Option Ob->Prop
 | some (.ar k _ _ _ _)=>k=m
 | _=>False
theorem ZoT{m k hw ver:Nat}{es:Row}{u:Bool}:Zuh m (some (.ar k es u hw ver))=(k=m):=(rfl)
theorem ZoU{key m:Nat}:wid (Zu lvl loc out) (lvl,key) [] m=Zuh m (lkO key loc):=by
 unfold wid
 rw[Yg]
 cases lkO key loc with
 | none=>rfl
 | some ob=>cases ob <;> rfl
theorem Zvi{k:Nat}{x:X}{lo hi mx:Option X}:op2 C d (.sw k x lo hi mx) ⟨lvl,env,loc,out⟩ K=(swx (Zu lvl loc out) k (xv env x)/\op2 C d (.sx k x lo hi mx) ⟨lvl,env,loc,out⟩ K):=by
 rw[Ju rfl,Ju rfl]
 simp only[ev]
 generalize xv env x=q
 cases q with
 | tr t =>
  cases t with
  | v=>simp [swx]
  | sl es=>simp only[swx,true_and]
 | cs es=>simp only[swx,true_and]
 | hd id p off len cap s =>
  cases p with
  | nil =>
   simp only[swx]
   exact propext ⟨fun⟨hw,h⟩=>⟨hw,Vr (fun a h=>Vr (fun b h=>⟨h.1,h.2.1,Vr (fun m g=>⟨g.1,g.2.1,hw,g.2.2⟩) h.2.2⟩) h) h⟩,fun⟨hw,h⟩=>⟨hw,Vr (fun a h=>Vr (fun b h=>⟨h.1,h.2.1,Vr (fun m g=>⟨g.1,g.2.1,g.2.2.2⟩) h.2.2⟩) h) h⟩⟩
  | cons c r=>simp [swx]
 | _=>simp [swx]
theorem Zvj{k:Nat}{x i:X}:op2 C d (.it k x i) ⟨lvl,env,loc,out⟩ K=(tcs (xv env x)/\op2 C d (.ia k x i) ⟨lvl,env,loc,out⟩ K):=by
 rw[Ju rfl,Ju rfl]
 simp only[ev]
 generalize xv env x=q
 generalize xv env i=qi
 cases q with
 | tr t =>
  cases t with
  | v=>simp only[tcs,false_and];split <;> simp
  | sl es=>simp only[tcs,true_and]
 | cs es=>simp only[tcs,true_and]
 | _=>simp only[tcs,false_and];split <;> simp
def apx(v:IV)(d:Option Nat)(k:Nat)(loc0:List (Nat×Ob))(items:Row)(ui:Bool)(st1:St)(K:St->Prop):Prop :=
 UnR k items /\
 match v with
 | .cs zs=>(zs=[]\/items≠[])/\zs.length+items.length<=bigN/\UnR k zs/\freshK (keyOf d) loc0 1/\(zs=[]\/ui=false\/ScR zs) /\
  K { Zn st1 (st1.lvl,keyOf d) (.ar k (zs++items) ui (zs.length+items.length) 0) with env:=ptd d (.hd (st1.lvl,keyOf d) [] 0 (zs.length+items.length) none (zs.length+items.length)) st1.env }
 | .hd id [] 0 len none s =>
  match st1.sto id with
  | some (.ar k' es u hw ver)=>k'=k/\s=hw/\len=es.length/\len+items.length<=bigN /\
   K { Zn st1 id (.ar k (es++items) (u&&ui) (max hw (len+items.length)) ver) with env:=ptd d (.hd id [] 0 (len+items.length) none (max hw (len+items.length))) st1.env }
  | _=>False
 | _=>False
theorem ZoV{k:Nat}{x:X}{loc0:List (Nat×Ob)}{items:Row}{ui:Bool}:WD d k x loc0 items ui ⟨lvl,env,loc,out⟩ K=apx (xv env x) d k loc0 items ui ⟨lvl,env,loc,out⟩ K:=(rfl)
theorem ZoW{k:Nat}{loc0:List (Nat×Ob)}{items zs:Row}{ui:Bool}:apx (.cs zs) d k loc0 items ui ⟨lvl,env,loc,out⟩ K=(UnR k items/\(zs=[]\/items≠[])/\zs.length+items.length<=bigN/\UnR k zs/\freshK (keyOf d) loc0 1/\(zs=[]\/ui=false\/ScR zs) /\
  K ⟨lvl,ptd d (.hd (lvl,keyOf d) [] 0 (zs.length+items.length) none (zs.length+items.length)) env,ptO (keyOf d) (.ar k (zs++items) ui (zs.length+items.length) 0) loc,out⟩):=by
 simp only[apx,Uj]
def aph(o:Option Ob)(d:Option Nat)(k:Nat)(id:Oid)(len s:Nat)(items:Row)(ui:Bool)(st1:St)(K:St->Prop):Prop :=
 match o with
 | some (.ar k' es u hw ver)=>k'=k/\s=hw/\len=es.length/\len+items.length<=bigN /\
   K { Zn st1 id (.ar k (es++items) (u&&ui) (max hw (len+items.length)) ver) with env:=ptd d (.hd id [] 0 (len+items.length) none (max hw (len+items.length))) st1.env }
 | _=>False
theorem ZoX{k key len s:Nat}{loc0:List (Nat×Ob)}{items:Row}{ui:Bool}:apx (.hd (lvl,key) [] 0 len none s) d k loc0 items ui ⟨lvl,env,loc,out⟩ K=(UnR k items/\aph (lkO key loc) d k (lvl,key) len s items ui ⟨lvl,env,loc,out⟩ K):=by
 simp only[apx]
 rw[show (⟨lvl,env,loc,out⟩:St).sto (lvl,key)=lkO key loc from Yg]
 rfl
theorem Ztb{k k' key len s:Nat}{items es:Row}{u ui:Bool}{hw ver:Nat}:aph (some (.ar k' es u hw ver)) d k (lvl,key) len s items ui ⟨lvl,env,loc,out⟩ K=(k'=k/\s=hw/\len=es.length/\len+items.length<=bigN /\
   K ⟨lvl,ptd d (.hd (lvl,key) [] 0 (len+items.length) none (max hw (len+items.length))) env,ptO key (.ar k (es++items) (u&&ui) (max hw (len+items.length)) ver) loc,out⟩):=by
 simp only[aph,Uj]
def ap2(C:Zg)(d:Option Nat)(k md:Nat)(x:X)(y:IV)(st:St)(K:St->Prop):Prop :=
 match y with
 | .tr (.sl es)=>if md=0 then ScR es/\WD d k x st.loc es true st K else md=1/\WD d k x st.loc es false st K
 | .cs es=>if md=0 then ScR es/\WD d k x st.loc es true st K else md=1/\WD d k x st.loc es false st K
 | .hd id2 p2 off2 len2 c2 s2 =>
   if md=2 then
    p2=[]/\off2=0/\c2=none/\id2.1=st.lvl /\
    match st.sto id2 with
    | some (.ar _ zs u2 hw2 _)=>s2=hw2/\len2=zs.length/\WD d k x st.loc zs u2 (Y0 id2 st) K
    | _=>False
   else if md=0 then
    rdh st.sto id2 p2 s2 fun es _ _=>off2+len2<=es.length/\ScR (cut es off2 len2)/\WD d k x st.loc (cut es off2 len2) true st K
   else md=1/\p2=[] /\
    match st.sto id2 with
    | some (.ar k2 es _ hw2 ver2)=>s2=hw2/\off2+len2<=es.length/\WD d k x st.loc (cut es off2 len2) false (Zn st id2 (.ar k2 es false hw2 ver2)) K
    | _=>False
 | .sv id2=>md=2/\id2.1=st.lvl /\
   match st.sto id2 with
   | some (.bx l)=>l.length=k/\Zfw l st fun ts u st' => WD d k x st.loc [ts] u (Y0 id2 st') K
   | _=>False
 | _=>False
theorem Zvk{k md:Nat}{x y:X}:op2 C d (.ap k md x y) ⟨lvl,env,loc,out⟩ K=ap2 C d k md x (xv env y) ⟨lvl,env,loc,out⟩ K:=by
 rw[ZV rfl]
 rfl
section ap
variable {k:Nat} {x:X}
theorem Ztc{es:Row}:ap2 C d k 0 x (.tr (.sl es)) ⟨lvl,env,loc,out⟩ K=(ScR es/\WD d k x loc es true ⟨lvl,env,loc,out⟩ K):=(rfl)
theorem Ztd{es:Row}:ap2 C d k 1 x (.tr (.sl es)) ⟨lvl,env,loc,out⟩ K=WD d k x loc es false ⟨lvl,env,loc,out⟩ K:=by simp [ap2]
theorem ZoY{es:Row}:ap2 C d k 0 x (.cs es) ⟨lvl,env,loc,out⟩ K=(ScR es/\WD d k x loc es true ⟨lvl,env,loc,out⟩ K):=(rfl)
theorem ZoZ{es:Row}:ap2 C d k 1 x (.cs es) ⟨lvl,env,loc,out⟩ K=WD d k x loc es false ⟨lvl,env,loc,out⟩ K:=by simp [ap2]
def kap(d:Option Nat)(k:Nat)(x:X)(off2 len2:Nat)(st:St)(K:St->Prop)(es:Row)(_u:Bool)(_v:Nat):Prop:=off2+len2<=es.length/\ScR (cut es off2 len2)/\WD d k x st.loc (cut es off2 len2) true st K
theorem Zte{off2 len2:Nat}{es:Row}{u:Bool}{v:Nat}:kap d k x off2 len2 ⟨lvl,env,loc,out⟩ K es u v=(off2+len2<=es.length/\ScR (cut es off2 len2)/\WD d k x loc (cut es off2 len2) true ⟨lvl,env,loc,out⟩ K):=(rfl)
theorem Zo0{id2:Oid}{p2:Pth}{off2 len2 s2:Nat}{c2:Option Nat}:ap2 C d k 0 x (.hd id2 p2 off2 len2 c2 s2) ⟨lvl,env,loc,out⟩ K=rd3 (Zu lvl loc out id2) p2 s2 (kap d k x off2 len2 ⟨lvl,env,loc,out⟩ K):=by
 rw[<-Ui]
 rfl
def ap5(o:Option Ob)(d:Option Nat)(k:Nat)(x:X)(len2 s2:Nat)(loc0:List (Nat×Ob))(st1:St)(K:St->Prop):Prop :=
 match o with
 | some (.ar _ zs u2 hw2 _)=>s2=hw2/\len2=zs.length/\WD d k x loc0 zs u2 st1 K
 | _=>False
theorem Zo1{key:Nat}{p2:Pth}{off2 len2 s2:Nat}{c2:Option Nat}:ap2 C d k 2 x (.hd (lvl,key) p2 off2 len2 c2 s2) ⟨lvl,env,loc,out⟩ K=(p2=[]/\off2=0/\c2=none/\ap5 (lkO key loc) d k x len2 s2 loc (Y0 (lvl,key) ⟨lvl,env,loc,out⟩) K):=by
 simp only[ap2,if_true]
 rw[show (⟨lvl,env,loc,out⟩:St).sto (lvl,key)=lkO key loc from Yg]
 generalize lkO key loc=o
 apply propext
 constructor
 ·rintro⟨h1,h2,h3,_,h5⟩
  refine⟨h1,h2,h3,?_⟩
  cases o with
  | none=>exact h5
  | some ob=>cases ob <;> exact h5
 ·rintro⟨h1,h2,h3,h5⟩
  refine⟨h1,h2,h3,trivial,?_⟩
  cases o with
  | none=>exact h5
  | some ob=>cases ob <;> exact h5
theorem Ztf{k2:Nat}{zs:Row}{u2:Bool}{hw2 ver2 len2 s2:Nat}{loc0:List (Nat×Ob)}{st1:St}:ap5 (some (.ar k2 zs u2 hw2 ver2)) d k x len2 s2 loc0 st1 K=(s2=hw2/\len2=zs.length/\WD d k x loc0 zs u2 st1 K):=(rfl)
def Ztg(d:Option Nat)(k:Nat)(x:X)(loc0:List (Nat×Ob))(id2:Oid)(K:St->Prop)(ts:List Tr)(u:Bool)(st':St):Prop:=WD d k x loc0 [ts] u (Y0 id2 st') K
theorem Zo2{loc0:List (Nat×Ob)}{id2:Oid}{ts:List Tr}{u:Bool}:Ztg d k x loc0 id2 K ts u st=WD d k x loc0 [ts] u (Y0 id2 st) K:=(rfl)
def aps(o:Option Ob)(d:Option Nat)(k:Nat)(x:X)(loc0:List (Nat×Ob))(id2:Oid)(st1:St)(K:St->Prop):Prop :=
 match o with
 | some (.bx l)=>l.length=k/\Zfw l st1 (Ztg d k x loc0 id2 K)
 | _=>False
theorem Zth{l:List IV}{loc0:List (Nat×Ob)}{id2:Oid}{st1:St}:aps (some (.bx l)) d k x loc0 id2 st1 K=(l.length=k/\Zfw l st1 (Ztg d k x loc0 id2 K)):=(rfl)
theorem Zo3{key:Nat}:ap2 C d k 2 x (.sv (lvl,key)) ⟨lvl,env,loc,out⟩ K=aps (lkO key loc) d k x loc (lvl,key) ⟨lvl,env,loc,out⟩ K:=by
 simp only[ap2]
 rw[show (⟨lvl,env,loc,out⟩:St).sto (lvl,key)=lkO key loc from Yg]
 generalize lkO key loc=o
 apply propext
 constructor
 ·rintro⟨_,_,h⟩
  cases o with
  | none=>exact h
  | some ob=>cases ob <;> exact h
 ·intro h
  refine⟨trivial,trivial,?_⟩
  cases o with
  | none=>exact h
  | some ob=>cases ob <;> exact h
end ap
theorem Zl4{L:Sto}{F:List IV->Prop}:∀{l:List Tr},Jc L (l.map .tr) F=F (l.map .tr)
 | []=>Zlw
 | t::r=>by rw[List.map_cons,ZnX,Zl4,ZnT]
theorem ZfR{Pd:Oid->Prop}:∀{l:List Tr},Zl Pd (l.map .tr)=True
 | []=>rfl
 | t::r=>by simp only[List.map_cons,Zl,men,ZfR,and_self]
def nlf(v:IV)(neg:Bool)(lvl:Nat)(env:List (Nat×IV))(loc:List (Nat×Ob))(out:Sto)(d:Option Nat)(K:St->Prop):Prop :=
 match v with
 | .tr (.sl es)=>K ⟨lvl,ptd d (iB neg) env,loc,out⟩/\(es=[]->K ⟨lvl,ptd d (iB !neg) env,loc,out⟩)
 | .cs es=>K ⟨lvl,ptd d (iB neg) env,loc,out⟩/\(es=[]->K ⟨lvl,ptd d (iB !neg) env,loc,out⟩)
 | _=>False
theorem Zvl{C:Zg}{d:Option Nat}{neg:Bool}{x:X}{lvl:Nat}{env:List (Nat×IV)}{loc:List (Nat×Ob)}{out:Sto}{K:St->Prop}:op2 C d (.nl neg x) ⟨lvl,env,loc,out⟩ K=nlf (xv env x) neg lvl env loc out d K:=by
 rw[ZV rfl]
 rfl
theorem Zti{neg:Bool}{es:Row}{d:Option Nat}{lvl:Nat}{env:List (Nat×IV)}{loc:List (Nat×Ob)}{out:Sto}{K:St->Prop}:nlf (.tr (.sl es)) neg lvl env loc out d K=(K ⟨lvl,ptd d (iB neg) env,loc,out⟩/\(es=[]->K ⟨lvl,ptd d (iB !neg) env,loc,out⟩)):=(rfl)
theorem Ztj{neg:Bool}{es:Row}{d:Option Nat}{lvl:Nat}{env:List (Nat×IV)}{loc:List (Nat×Ob)}{out:Sto}{K:St->Prop}:nlf (.cs es) neg lvl env loc out d K=(K ⟨lvl,ptd d (iB neg) env,loc,out⟩/\(es=[]->K ⟨lvl,ptd d (iB !neg) env,loc,out⟩)):=(rfl)
section row
variable {C:Zg} {d:Option Nat} {x y hi:X} {lvl:Nat} {env:List (Nat×IV)} {loc:List (Nat×Ob)} {out:Sto} {K:St->Prop} {st:St}
def Zev(d:Option Nat)(x:IV)(st:St)(K:St->Prop):Prop:=K { st with env:=ptd d x st.env }
theorem Zo4{v:IV}:Zev d v ⟨lvl,env,loc,out⟩ K=K ⟨lvl,ptd d v env,loc,out⟩:=(rfl)
theorem Zbw{v:IV}{id:Oid}{ob:Ob}:Zev d v (Zn st id ob) K=K { Zn st id ob with env:=ptd d v st.env }:=by
 unfold Zev
 rw[Qc]
def cpf(v:IV)(lvl:Nat)(env:List (Nat×IV))(loc:List (Nat×Ob))(out:Sto)(d:Option Nat)(K:St->Prop):Prop :=
 match v with
 | .cs es=>K ⟨lvl,ptd d (iI es.length) env,loc,out⟩
 | _=>False
theorem Zvm:op2 C d (.cp x) ⟨lvl,env,loc,out⟩ K=cpf (xv env x) lvl env loc out d K:=by
 rw[ZV rfl]
 rfl
theorem Ztk{es:Row}:cpf (.cs es) lvl env loc out d K=K ⟨lvl,ptd d (iI es.length) env,loc,out⟩:=(rfl)
def shg(o:Option Ob)(id:Oid)(m:Int)(len s k:Nat)(d:Option Nat)(st:St)(K:St->Prop):Prop :=
 match o with
 | some (.ar k2 es u hw ver)=>k2=k/\s=hw/\0<=m/\m.toNat<=len/\len<=es.length/\Zev d (.hd id [] 0 m.toNat none hw) (Zn st id (.ar k2 (es.take m.toNat) u hw (ver+1))) K
 | _=>False
def shf(v hv:IV)(k:Nat)(d:Option Nat)(st:St)(K:St->Prop):Prop :=
 match v with
 | .cs es =>
  match hv with
  | .tr (.v (.int _ m))=>m=es.length/\UnR k es/\Zev d (.cs es) st K
  | _=>False
 | .hd id p off len cap s =>
  match hv with
  | .tr (.v (.int _ m))=>p=[]/\off=0/\cap=none/\shg (st.sto id) id m len s k d st K
  | _=>False
 | _=>False
theorem Zvn{k:Nat}:op2 C d (.sh k x hi) ⟨lvl,env,loc,out⟩ K=shf (xv env x) (xv env hi) k d ⟨lvl,env,loc,out⟩ K:=by
 rw[ZV rfl]
 simp only[ew]
 generalize xv env x=v
 cases v <;> try rfl
 rename_i id p off len cap s
 generalize xv env hi=hv
 cases hv <;> try rfl
 rename_i t
 cases t <;> try rfl
 rename_i q
 cases q <;> try rfl
 simp only[shf,shg]
 generalize (⟨lvl,env,loc,out⟩:St).sto id=o
 cases o with
 | none=>simp
 | some ob =>
  cases ob with
  | bx=>simp
  | ar k2 es u hw ver=>simp only[Zbw]
theorem Ztl{id:Oid}{len s k:Nat}{kk:IntKind}{m:Int}:shf (.hd id [] 0 len none s) (.tr (.v (.int kk m))) k d ⟨lvl,env,loc,out⟩ K=shg (Zu lvl loc out id) id m len s k d ⟨lvl,env,loc,out⟩ K:=by
 simp only[shf,true_and]
 rfl
theorem Ztm{es:Row}{k:Nat}{kk:IntKind}{m:Int}:shf (.cs es) (.tr (.v (.int kk m))) k d ⟨lvl,env,loc,out⟩ K=(m=es.length/\UnR k es/\Zev d (.cs es) ⟨lvl,env,loc,out⟩ K):=(rfl)
theorem Ztn{id:Oid}{len s k k2 hw ver:Nat}{es:Row}{u:Bool}{m:Int}:shg (some (.ar k2 es u hw ver)) id m len s k d st K=(k2=k/\s=hw/\0<=m/\m.toNat<=len/\len<=es.length/\Zev d (.hd id [] 0 m.toNat none hw) (Zn st id (.ar k2 (es.take m.toNat) u hw (ver+1))) K):=(rfl)
def fzg(o:Option Ob)(len s:Nat)(d:Option Nat)(st1:St)(K:St->Prop):Prop :=
 match o with
 | some (.ar _ zs _ hw _)=>s=hw/\len=zs.length/\Zev d (.tr (.sl zs)) st1 K
 | _=>False
def fzf(v:IV)(d:Option Nat)(st:St)(K:St->Prop):Prop :=
 match v with
 | .hd id [] 0 len none s=>id.1=st.lvl/\fzg (st.sto id) len s d (Y0 id st) K
 | _=>False
theorem Zvo:op2 C d (.fz x) ⟨lvl,env,loc,out⟩ K=fzf (xv env x) d ⟨lvl,env,loc,out⟩ K:=by
 rw[ZV rfl]
 simp only[ew]
 generalize xv env x=v
 unfold fzf
 split
 ·rename_i id len s
  simp only[fzg]
  generalize (⟨lvl,env,loc,out⟩:St).sto id=o
  cases o with
  | none=>rfl
  | some ob=>cases ob <;> rfl
 ·rename_i hv
  split
  ·exact(hv _ _ _ rfl).elim
  ·rfl
theorem Zto{key len s:Nat}:fzf (.hd (lvl,key) [] 0 len none s) d ⟨lvl,env,loc,out⟩ K=fzg (lkO key loc) len s d (Y0 (lvl,key) ⟨lvl,env,loc,out⟩) K:=by
 simp only[fzf,true_and]
 rw[show (⟨lvl,env,loc,out⟩:St).sto (lvl,key)=lkO key loc from Yg]
theorem Ztp{len s k hw ver:Nat}{zs:Row}{u:Bool}:fzg (some (.ar k zs u hw ver)) len s d st K=(s=hw/\len=zs.length/\Zev d (.tr (.sl zs)) st K):=(rfl)
def drp(o:Option Ob)(id:Oid)(st:St):St :=
 match o with
 | none=>st
 | some _=>Y0 id st
theorem Zo5{id:Oid}:drp none id st=st:=(rfl)
theorem Zo6{ob:Ob}{id:Oid}:drp (some ob) id st=Y0 id st:=(rfl)
def rkg(o:Option Ob)(len s:Nat)(id0:Oid)(d:Option Nat)(st1:St)(K:St->Prop):Prop :=
 match o with
 | some (.ar k zs u hw ver)=>s=hw/\len=zs.length/\Zev d (.hd id0 [] 0 len none s) (Zn st1 id0 (.ar k zs u hw ver)) K
 | _=>False
def rkf(v:IV)(d:Option Nat)(st:St)(K:St->Prop):Prop :=
 match v with
 | .hd id [] 0 len none s=>id.1=st.lvl/\(st.lvl,keyOf d)≠id/\rkg (st.sto id) len s (st.lvl,keyOf d) d (Y0 id (Zct (st.lvl,keyOf d) st)) K
 | _=>False
theorem Zvp:op2 C d (.rk x) ⟨lvl,env,loc,out⟩ K=rkf (xv env x) d ⟨lvl,env,loc,out⟩ K:=by
 rw[ZV rfl]
 simp only[ew]
 generalize xv env x=v
 unfold rkf
 split
 ·rename_i id len s
  simp only[rkg]
  generalize (⟨lvl,env,loc,out⟩:St).sto id=o
  cases o with
  | none=>rfl
  | some ob =>
   cases ob with
   | bx=>rfl
   | ar k2 es u hw ver=>simp only[Zbw]
 ·rename_i hv
  split
  ·exact(hv _ _ _ rfl).elim
  ·rfl
theorem Ztq{key len s:Nat}{t:Nat}:rkf (.hd (lvl,key) [] 0 len none s) (some t) ⟨lvl,env,loc,out⟩ K=(t*32≠key/\rkg (lkO key loc) len s (lvl,t*32) (some t) (Y0 (lvl,key) (drp (lkO (t*32) loc) (lvl,t*32) ⟨lvl,env,loc,out⟩)) K):=by
 simp only[rkf,true_and,Zct,keyOf]
 rw[show (⟨lvl,env,loc,out⟩:St).sto (lvl,key)=lkO key loc from Yg,show (⟨lvl,env,loc,out⟩:St).sto (lvl,t*32)=lkO (t*32) loc from Yg]
 congr 1
 simp
theorem Ztr{len s k hw ver:Nat}{zs:Row}{u:Bool}{id0:Oid}:rkg (some (.ar k zs u hw ver)) len s id0 d st K=(s=hw/\len=zs.length/\Zev d (.hd id0 [] 0 len none s) (Zn st id0 (.ar k zs u hw ver)) K):=(rfl)
theorem Zl5{K:List IV->St->Prop}:Zi7 [] st K=K [] st:=(rfl)
theorem Zl6{x:X}{r:List X}{K:List IV->St->Prop}:Zi7 (x::r) st K=ZmP (xv st.env x) st fun t st1=>Zi7 r st1 fun ts st2=>K (.ta t::ts) st2:=(rfl)
def Zts(o:Option (List Tr×Bool))(F:List Tr->Prop):Prop :=
 match o with
 | some (ts,_)=>F ts
 | none=>False
def Ztt(o:Option Ob)(F:List Tr->Prop):Prop :=
 match o with
 | some (.bx cells)=>Zts (totrs cells) F
 | _=>False
theorem Zo7{ts:List Tr}{K:List Tr->St->Prop}:ZmP (.ta ts) st K=K ts st:=(rfl)
theorem Zo8{key:Nat}{K:List Tr->St->Prop}:ZmP (.ab (lvl,key) 0) ⟨lvl,env,loc,out⟩ K=Ztt (lkO key loc) fun ts=>K ts (Y0 (lvl,key) ⟨lvl,env,loc,out⟩):=by
 simp only[ZmP,true_and]
 rw[show (⟨lvl,env,loc,out⟩:St).sto (lvl,key)=lkO key loc from Yg]
 generalize lkO key loc=o
 cases o with
 | none=>rfl
 | some ob =>
  cases ob with
  | ar=>rfl
  | bx cells =>
   simp only[Ztt]
   generalize totrs cells=q
   cases q <;> rfl
theorem Zo9{cells:List IV}{F:List Tr->Prop}:Ztt (some (.bx cells)) F=Zts (totrs cells) F:=(rfl)
theorem Zpa{ts:List Tr}{q:Bool}{F:List Tr->Prop}:Zts (some (ts,q)) F=F ts:=(rfl)
theorem Zvq{f:Nat}{cs:List X}:op2 C d (.mz f cs) ⟨lvl,env,loc,out⟩ K=Zi7 cs ⟨lvl,env,loc,out⟩ fun l st1=>Zev d (.fn f l) st1 K:=by
 rw[ZV rfl]
 rfl
theorem Zl7{K:List Tr->St->Prop}:Zi5 [] st K=K [] st:=(rfl)
theorem Zl8{x:IV}{r:List IV}{K:List Tr->St->Prop}:Zi5 (x::r) st K=Zk3 x st fun t st1=>Zi5 r st1 fun ts st2=>K (t::ts) st2:=(rfl)
def Zui(o:Option Ob)(len s:Nat)(F:Row->Prop):Prop :=
 match o with
 | some (.ar _ zs _ hw _)=>s=hw/\len=zs.length/\F zs
 | _=>False
theorem Zl9{t:Tr}{K:Tr->St->Prop}:Zk3 (.tr t) st K=K t st:=(rfl)
theorem Zma{es:Row}{K:Tr->St->Prop}:Zk3 (.cs es) st K=K (.sl es) st:=(rfl)
theorem Zmb{key len s:Nat}{K:Tr->St->Prop}:Zk3 (.hd (lvl,key) [] 0 len none s) ⟨lvl,env,loc,out⟩ K=Zui (lkO key loc) len s fun zs=>K (.sl zs) (Y0 (lvl,key) ⟨lvl,env,loc,out⟩):=by
 simp only[Zk3,true_and]
 rw[show (⟨lvl,env,loc,out⟩:St).sto (lvl,key)=lkO key loc from Yg]
 generalize lkO key loc=o
 cases o with
 | none=>rfl
 | some ob=>cases ob <;> rfl
theorem Zpb{k len s hw ver:Nat}{zs:Row}{u:Bool}{F:Row->Prop}:Zui (some (.ar k zs u hw ver)) len s F=(s=hw/\len=zs.length/\F zs):=(rfl)
def lzg(o:Option Ob)(off m:Nat)(d:Option Nat)(st:St)(K:St->Prop):Prop :=
 match o with
 | some (.bx cells)=>off+m<=cells.length/\Zi5 ((cells.drop off).take m) st fun ts st1=>Zev d (.ag (ts.map .tr)) st1 K
 | _=>False
def lzf(v:IV)(m:Nat)(d:Option Nat)(st:St)(K:St->Prop):Prop :=
 match v with
 | .ab id off=>lzg (st.sto id) off m d st K
 | _=>False
theorem Zvr{m:Nat}:op2 C d (.lz m x) ⟨lvl,env,loc,out⟩ K=lzf (xv env x) m d ⟨lvl,env,loc,out⟩ K:=by
 rw[ZV rfl]
 simp only[ew]
 generalize xv env x=v
 cases v <;> rfl
theorem Ztu{key off m:Nat}:lzf (.ab (lvl,key) off) m d ⟨lvl,env,loc,out⟩ K=lzg (lkO key loc) off m d ⟨lvl,env,loc,out⟩ K:=by
 simp only[lzf]
 rw[show (⟨lvl,env,loc,out⟩:St).sto (lvl,key)=lkO key loc from Yg]
theorem Ztv{cells:List IV}{off m:Nat}:lzg (some (.bx cells)) off m d st K=(off+m<=cells.length/\Zi5 ((cells.drop off).take m) st fun ts st1=>Zev d (.ag (ts.map .tr)) st1 K):=(rfl)
def clg(o:Option Ob)(id:Oid)(off len s k:Nat)(d:Option Nat)(st:St)(K:St->Prop):Prop :=
 match o with
 | some (.ar k2 es u hw ver)=>k2=k/\s=hw/\off+len=es.length/\Zev d (.tu []) (Zn st id (.ar k2 (es.take off) u hw (ver+1))) K
 | _=>False
def clf(v:IV)(k:Nat)(d:Option Nat)(st:St)(K:St->Prop):Prop :=
 match v with
 | .hd id p off len _ s=>p=[]/\clg (st.sto id) id off len s k d st K
 | _=>False
theorem Zvs{k:Nat}{z:List Value}:op2 C d (.cl k z x) ⟨lvl,env,loc,out⟩ K=clf (xv env x) k d ⟨lvl,env,loc,out⟩ K:=by
 rw[ZV rfl]
 simp only[ew]
 generalize xv env x=v
 cases v <;> try rfl
 rename_i id p off len cap s
 simp only[clf,clg]
 generalize (⟨lvl,env,loc,out⟩:St).sto id=o
 cases o with
 | none=>simp
 | some ob =>
  cases ob with
  | bx=>simp
  | ar k2 es u hw ver=>simp only[Zbw]
theorem Ztw{id:Oid}{off len s k:Nat}{cap:Option Nat}:clf (.hd id [] off len cap s) k d ⟨lvl,env,loc,out⟩ K=clg (Zu lvl loc out id) id off len s k d ⟨lvl,env,loc,out⟩ K:=by
 simp only[clf,true_and]
 rfl
theorem Ztx{id:Oid}{off len s k k2 hw ver:Nat}{es:Row}{u:Bool}:clg (some (.ar k2 es u hw ver)) id off len s k d st K=(k2=k/\s=hw/\off+len=es.length/\Zev d (.tu []) (Zn st id (.ar k2 (es.take off) u hw (ver+1))) K):=(rfl)
def srk(off len:Nat)(F:Row->Prop)(es:Row)(_u:Bool)(_v:Nat):Prop:=off+len<=es.length/\F (cut es off len)
theorem Zty{off len:Nat}{F:Row->Prop}{es:Row}{u:Bool}{v:Nat}:srk off len F es u v=(off+len<=es.length/\F (cut es off len)):=(rfl)
theorem Zpc{zs:Row}{F:Row->Prop}:ZhA st (.tr (.sl zs)) F=F zs:=(rfl)
theorem Zpd{zs:Row}{F:Row->Prop}:ZhA st (.cs zs) F=F zs:=(rfl)
theorem Zpe{id:Oid}{p:Pth}{off len s:Nat}{cap:Option Nat}{F:Row->Prop}:ZhA ⟨lvl,env,loc,out⟩ (.hd id p off len cap s) F=rd3 (Zu lvl loc out id) p s (srk off len F):=by
 rw[<-Ui]
 rfl
def a3k(zs:Row)(k:Nat)(d:Option Nat)(st:St)(K:St->Prop)(items:Row):Prop :=
 items≠[]/\ScR items/\UnR k zs/\UnR k items/\zs.length+items.length<=bigN/\K ⟨st.lvl,ptd d (.tr (.sl (zs++items))) st.env,st.loc,st.out⟩
theorem Ztz{zs items:Row}{k:Nat}:a3k zs k d ⟨lvl,env,loc,out⟩ K items=(items≠[]/\ScR items/\UnR k zs/\UnR k items/\zs.length+items.length<=bigN/\K ⟨lvl,ptd d (.tr (.sl (zs++items))) env,loc,out⟩):=(rfl)
def a3f(vx vy:IV)(k:Nat)(d:Option Nat)(st:St)(K:St->Prop):Prop :=
 match vx with
 | .cs zs=>ZhA st vy (a3k zs k d st K)
 | _=>False
theorem ZtA{zs:Row}{vy:IV}{k:Nat}:a3f (.cs zs) vy k d st K=ZhA st vy (a3k zs k d st K):=(rfl)
theorem Zvt{k:Nat}{x y:X}:op2 C d (.a3 k x y) ⟨lvl,env,loc,out⟩ K=a3f (xv env x) (xv env y) k d ⟨lvl,env,loc,out⟩ K:=by
 rw[Ju rfl]
 simp only[ev]
 generalize xv env x=vx
 cases vx <;> try rfl
 rename_i zs
 have e:∀ items:Row,(items≠[]/\ScR items/\UnR k zs/\UnR k items/\zs.length+items.length<=bigN/\ZC (fun mk obs=>freshK (keyOf d) loc (obs lvl (keyOf d)).length/\K ⟨lvl,ptd d (mk lvl (keyOf d)) env,addO (keyOf d) (obs lvl (keyOf d)) loc,out⟩) (.tr (.sl (zs++items))))=a3k zs k d ⟨lvl,env,loc,out⟩ K items:=fun items=>by
  simp [a3k,ZC,freshK,addO]
 simp only[e]
 rfl
theorem Zvu{k:Nat}{x y:X}:op2 C d (.c0 k x y) ⟨lvl,env,loc,out⟩ K=op2 C d (.cy k x y) ⟨lvl,env,loc,out⟩ K:=by
 rw[ZV rfl,ZV rfl]
 exact propext ⟨ZgC,Zjr⟩
def cyk(es:Row)(u:Bool)(hw ver:Nat)(id:Oid)(off len k:Nat)(d:Option Nat)(st:St)(K:St->Prop)(zs:Row):Prop :=
 ScR zs/\UnR k zs/\Zev d (iI (min zs.length len:Nat)) (Zn st id (.ar k (es.take off++zs.take len++es.drop (off+min zs.length len)) u hw (ver+1))) K
theorem ZtB{es:Row}{u:Bool}{hw ver:Nat}{id:Oid}{off len k:Nat}{zs:Row}:cyk es u hw ver id off len k d st K zs=(ScR zs/\UnR k zs/\Zev d (iI (min zs.length len:Nat)) (Zn st id (.ar k (es.take off++zs.take len++es.drop (off+min zs.length len)) u hw (ver+1))) K):=(rfl)
def cyg(o:Option Ob)(id:Oid)(off len s k:Nat)(v:IV)(d:Option Nat)(st:St)(K:St->Prop):Prop :=
 match o with
 | some (.ar k2 es u hw ver)=>k2=k/\s=hw/\off+len<=es.length/\ScR es/\ZhA st v (cyk es u hw ver id off len k d st K)
 | _=>False
def cyf(x v:IV)(k:Nat)(d:Option Nat)(st:St)(K:St->Prop):Prop :=
 match x with
 | .hd id p off len _ s=>p=[]/\cyg (st.sto id) id off len s k v d st K
 | _=>False
theorem Zvv{k:Nat}:op2 C d (.cy k x y) ⟨lvl,env,loc,out⟩ K=cyf (xv env x) (xv env y) k d ⟨lvl,env,loc,out⟩ K:=by
 rw[ZV rfl]
 simp only[ew]
 generalize xv env x=v
 cases v <;> try rfl
 rename_i id p off len cap s
 simp only[cyf,cyg]
 generalize (⟨lvl,env,loc,out⟩:St).sto id=o
 cases o with
 | none=>simp
 | some ob =>
  cases ob with
  | bx=>simp
  | ar k2 es u hw ver =>
   dsimp only
   by_cases hk:k2=k
   ·subst hk
    have:(fun zs=>ScR zs/\UnR k2 zs/\K { Zn ⟨lvl,env,loc,out⟩ id (.ar k2 (es.take off++zs.take len++es.drop (off+min zs.length len)) u hw (ver+1)) with env:=ptd d (iI (min zs.length len:Nat)) env })=cyk es u hw ver id off len k2 d ⟨lvl,env,loc,out⟩ K:=by
     funext zs
     simp only[cyk,Zbw]
    rw[this]
   ·simp [hk]
theorem ZtC{id:Oid}{off len s k:Nat}{cap:Option Nat}{v:IV}:cyf (.hd id [] off len cap s) v k d ⟨lvl,env,loc,out⟩ K=cyg (Zu lvl loc out id) id off len s k v d ⟨lvl,env,loc,out⟩ K:=by
 simp only[cyf,true_and]
 rfl
theorem ZtD{id:Oid}{off len s k k2 hw ver:Nat}{es:Row}{u:Bool}{v:IV}:cyg (some (.ar k2 es u hw ver)) id off len s k v d st K=(k2=k/\s=hw/\off+len<=es.length/\ScR es/\ZhA st v (cyk es u hw ver id off len k d st K)):=(rfl)
end row
theorem Zpf{α:Type}{F:α->Prop}:op3 none F=False:=(rfl)
end
abbrev tv(n:Int):Tr:=.v (.int .i64 n)
abbrev ts(s:ByteArray):Tr:=.v (.string s)
abbrev rI(l:List Int):Row:=l.map fun n=>[tv n]
abbrev tI(l:List Int):IV:=.tr (.sl (rI l))
abbrev rS(l:List ByteArray):Row:=l.map fun n=>[ts n]
abbrev tS(l:List ByteArray):IV:=.tr (.sl (rS l))
theorem Zd(n:Int):QO .i64 n=(-9223372036854775808<=n/\n<=9223372036854775807):=by
 simp [QO,IntKind.min,IntKind.max,IntKind.signed,IntKind.bits]
theorem ZfS{α:Type}{k:Nat}(f:α->List Tr)(h:∀ x,(f x).length=k)(l:List α):UnR k (l.map f):=by
 intro e he
 obtain⟨x,_,rfl⟩:=List.mem_map.1 he
 exact h x
end Go.Fd

/-
  FROM THE READER'S FACTS TO TREES: what an input reads as, by its type. Own work.
-/
namespace Go.Fd
def In(w:World)(b:Nat):Prop:=b<w.heap.size
def ZjP(w:World)(cs:List Value)(ts:List Tr):Prop:=∀(j:Nat) (v:Value) (t:Tr),cs[j]? = some v->ts[j]? = some t->Rds w (In w) v t
def QZ(P:Program)(t:TypeId){α:Type}(c:α->List Tr)(Q:α->Prop):Prop :=
 ∀(H:Type) (enc:TypeId×Value->H) (w:World) (sp:Nat->Bool) (hd:Bool) (fuel:Nat) (cs:List Value) (x:DataW H×List MemPlace),
  DataW.trod enc P w 0 sp hd fuel t cs=some x->∃ y,Q y/\ZjP w cs (c y)
theorem DK{w:World}{v:Value}{t:Tr}(h:Rds w (In w) v t):ZjP w [v] [t]:=fun j v' t' h1 h2=>by
 match j with
 | 0=>simp at h1 h2;subst h1;subst h2;exact h
 | j+1=>simp at h1
theorem Zie{P:Program}{t:TypeId}(ht:P.underlying t=some (.int .i64)):QZ P t (fun n:Int=>[tv n]) (QO .i64):=by
 intro H enc w sp hd fuel cs x h
 obtain⟨n,rfl,_,hw⟩:=DataW.trod_int ht h
 exact⟨n,by simpa [Lit.wf,QO] using hw,DK (.v _ rfl)⟩
theorem ZeS{P:Program}{t:TypeId}(ht:P.underlying t=some .string):QZ P t (fun n:ByteArray=>[ts n]) (fun n=>n.size<=9223372036854775807):=by
 intro H enc w sp hd fuel cs x h
 obtain⟨n,rfl,_,hw⟩:=DataW.trod_string ht h
 exact⟨n,hw,DK (.v _ rfl)⟩
theorem Zmc{w:World}{a:Addr}{v:Value}(h:w.cell? a=some v):a.block<w.heap.size:=by
 unfold World.cell? at h
 cases hh:w.heap[a.block]? with
 | none=>rw[hh] at h;cases h
 | some o=>exact(Array.getElem?_eq_some_iff.1 hh).1
theorem ZfT{α:Type}(n:Nat)(R:Nat->α->Prop)(h:∀ i,i<n->∃ y,R i y):∃ l:List α,l.length=n/\∀ i y,l[i]? = some y->R i y:=by
 induction n with
 | zero=>exact⟨[],rfl,fun i y h=>by simp at h⟩
 | succ n ih =>
  obtain⟨l,hl,hr⟩:=ih (fun i hi=>h i (by omega))
  obtain⟨y,hy⟩:=h n (by omega)
  refine⟨l++[y],by simp [hl],fun i z hz=>?_⟩
  by_cases hi:i<n
  ·rw[List.getElem?_append_left (by omega)] at hz;exact hr i z hz
  ·have hlt:=(List.getElem?_eq_some_iff.1 hz).1
   simp only[List.length_append,List.length_singleton] at hlt
   have:i=n:=by omega
   subst this
   rw[List.getElem?_append_right (by omega),hl,Nat.sub_self] at hz
   simp at hz
   exact hz ▸ hy
theorem Q0{P:Program}{t e:TypeId}{k:Nat}{α:Type}{c:α->List Tr}{Q:α->Prop}(ht:P.underlying t=some (.slice e))(hk:P.cellsOf e=k+1)(hc:∀ x,(c x).length=k+1)
  (he:QZ P e c Q):QZ P t (fun l:List α=>[.sl (l.map c)]) (fun l=>l.length<=9223372036854775807/\∀ x∈l,Q x):=by
 intro H enc w sp hd fuel cs x h
 rcases DataW.trod_slice ht h with ⟨rfl,_⟩ | ⟨a,len,cap,elems,rest,n,_,rfl,_,_,hl,hm,hlen,hel,_,_⟩
 ·exact⟨[],⟨by simp,by simp⟩,DK (.nil none 0)⟩
 ·have each:∀ i,i<len->∃ y,Q y/\∀ j t,(c y)[j]? = some t->∃ v,w.cell? (a.add (i*(k+1)+j))=some v/\Rds w (In w) v t:=fun i hi=>by
   have h1:=hel i hi
   rw[hk] at h1
   obtain⟨z,hz⟩:∃ z,elems[i]? = some z:=⟨elems[i]'(by omega),List.getElem?_eq_getElem _⟩
   rw[hz,Option.bind_eq_some_iff] at h1
   obtain⟨row,hrow,hx⟩:=h1
   obtain⟨y,hy,hr⟩:=he H enc w sp hd n row z hx
   obtain⟨_,hrl,hg⟩:=World.cells?_some hrow
   refine⟨y,hy,fun j t hj=>?_⟩
   have hjk:j<k+1:=by rw[<-hc y];exact(List.getElem?_eq_some_iff.1 hj).1
   have hv:row[j]? = some (row[j]'(by omega)):=List.getElem?_eq_getElem _
   have:=hg j hjk
   rw[hv] at this
   have e2:(a.add (i*(k+1))).add j=a.add (i*(k+1)+j):=by
    unfold Addr.add
    by_cases h0:i*(k+1)=0
    ·simp [h0]
    ·by_cases h1:j=0
     ·simp [h1,h0]
     ·have h2:¬ (i*(k+1)+j=0):=by omega
      simp only[if_neg h0,if_neg h1,if_neg h2,Addr.mk.injEq,and_true,true_and]
      omega
   rw[e2] at this
   exact⟨_,this,hr j _ t hv hj⟩
  obtain⟨l,hll,hlr⟩:=ZfT len _ each
  refine⟨l,⟨?_,fun y hy=>?_⟩,DK ?_⟩
  ·rw[hll];exact Nat.le_trans hl hm
  ·obtain⟨i,hi⟩:=List.getElem?_of_mem hy
   exact(hlr i y hi).1
  ·by_cases h0:len=0
   ·have:l=[]:=List.eq_nil_of_length_eq_zero (by omega)
    subst this;subst h0
    exact .nil _ _
   ·obtain⟨y0,hy0⟩:∃ y0,l[0]? = some y0:=⟨l[0]'(by omega),List.getElem?_eq_getElem _⟩
    obtain⟨t0,ht0⟩:∃ t0,(c y0)[0]? = some t0:=⟨(c y0)[0]'(by rw[hc];omega),List.getElem?_eq_getElem _⟩
    obtain⟨v0,hv0,_⟩:=(hlr 0 y0 hy0).2 0 t0 ht0
    obtain⟨b,o,s⟩:=a
    have hs:s=none:=by simpa [Addr.add] using World.cell?_spot hv0
    subst hs
    have hb:b<w.heap.size:=by simpa [Addr.add] using Zmc hv0
    have hel2:∀ i e j t,(l.map c)[i]? = some e->e[j]? = some t->∃ v,w.cell? ⟨b,o+i*(k+1)+j,none⟩=some v/\Rds w (In w) v t:=fun i e j t h1 h2=>by
     rw[List.getElem?_map,Option.map_eq_some_iff] at h1
     obtain⟨y,hy,rfl⟩:=h1
     obtain⟨v,hv,hr⟩:=(hlr i y hy).2 j t h2
     refine⟨v,?_,hr⟩
     rw[<-hv]
     congr 1
     unfold Addr.add
     by_cases h0:i*(k+1)+j=0
     ·have:o+i*(k+1)+j=o:=by omega
      rw[if_pos h0,this]
     ·rw[if_neg h0]
      have:o+i*(k+1)+j=o+(i*(k+1)+j):=by omega
      simp only[this]
    have hlm:(l.map c).length=len:=by simpa using hll
    have:=Rds.sl (w:=w) (A:=In w) b o cap (k+1) (l.map c) (fun i j=>(w.cell? ⟨b,o+i*(k+1)+j,none⟩).getD .nilFunc) hb
     (fun e he=>by simp only[List.mem_map] at he;obtain⟨y,_,rfl⟩:=he;exact hc y) (by omega)
     (fun i e j t h1 h2=>by obtain⟨v,hv,_⟩:=hel2 i e j t h1 h2;rw[hv];rfl)
     (fun i e j t h1 h2=>by obtain⟨v,hv,hr⟩:=hel2 i e j t h1 h2;rw[hv];exact hr)
    rw[hlm] at this
    exact this
def ZaY(P:Program)(o:Nat)(l:List (Nat×TypeId)){α:Type}(c:α->List Tr)(Q:α->Prop):Prop :=
 ∀(H:Type) (enc:TypeId×Value->H) (w:World) (sp:Nat->Bool) (hd:Bool) (fuel:Nat) (cs:List Value),
  (∀ p∈l,∃ x,DataW.trod enc P w 0 sp hd fuel p.2 ((cs.drop p.1).take (P.cellsOf p.2))=some x)->∃ y,Q y/\ZjP w (cs.drop o) (c y)
theorem UQ{P:Program}{o:Nat}:ZaY P o [] (fun _:Unit=>[]) (fun _=>True):=fun H enc w sp hd fuel cs _=>⟨(),trivial,fun j v t _ h=>by simp at h⟩
theorem Z4{P:Program}{o k:Nat}{t:TypeId}{l:List (Nat×TypeId)}{α β:Type}{c:α->List Tr}{Q:α->Prop}{c2:β->List Tr}{Q2:β->Prop}
  (hk:P.cellsOf t=k) (hc:∀ x,(c x).length=k) (h1:QZ P t c Q) (h2:ZaY P (o+k) l c2 Q2) :
  ZaY P o ((o,t)::l) (fun p:α×β=>c p.1++c2 p.2) (fun p=>Q p.1/\Q2 p.2):=fun H enc w sp hd fuel cs h=>by
 obtain⟨x,hx⟩:=h (o,t) (by simp)
 obtain⟨y,hy,hr⟩:=h1 _ _ _ _ _ _ _ _ hx
 obtain⟨y2,hy2,hr2⟩:=h2 H enc w sp hd fuel cs (fun p hp=>h p (by simp [hp]))
 refine⟨(y,y2),⟨hy,hy2⟩,fun j v t' hv ht=>?_⟩
 by_cases hj:j<k
 ·rw[List.getElem?_append_left (by rw[hc];exact hj)] at ht
  refine hr j v t' ?_ ht
  rw[hk,List.getElem?_take_of_lt hj]
  exact hv
 ·rw[List.getElem?_append_right (by rw[hc];omega),hc] at ht
  refine hr2 (j-k) v t' ?_ ht
  rw[List.getElem?_drop] at hv ⊢
  rw[<-hv]
  congr 1
  omega
theorem Xr{P:Program}{t:TypeId}{fs:Array Field}{α:Type}{c:α->List Tr}{Q:α->Prop}(ht:P.underlying t=some (.struct fs))(h:ZaY P 0 (fs.toList.map fun f=>(f.offset,f.type)) c Q):QZ P t c Q:=by
 intro H enc w sp hd fuel cs x hx
 obtain⟨xs,n,_,_,_,hl,hf⟩:=DataW.trod_struct ht hx
 have:=h H enc w sp hd n cs (fun p hp=>by
  simp only[List.mem_map] at hp
  obtain⟨f,hf1,rfl⟩:=hp
  obtain⟨i,hi⟩:=List.getElem?_of_mem hf1
  have hi':fs[i]? = some f:=by simpa using hi
  have hlt:i<xs.length:=by rw[hl];exact(Array.getElem?_eq_some_iff.1 hi').1
  exact⟨_,(hf i f hi').trans (List.getElem?_eq_getElem hlt)⟩)
 simpa using this
theorem Zif{P:Program}{t:TypeId}{α β:Type}{c:α->List Tr}{Q:α->Prop}{c2:β->List Tr}{Q2:β->Prop}(g:α->β)(hg:∀ x,c2 (g x)=c x)(hq:∀ x,Q x->Q2 (g x))(h:QZ P t c Q):QZ P t c2 Q2:=by
 intro H enc w sp hd fuel cs x hx
 obtain⟨y,hy,hr⟩:=h H enc w sp hd fuel cs x hx
 exact⟨g y,hq y hy,by rw[hg];exact hr⟩
theorem Zbx{P:Program}{t:TypeId}{α β:Type}{c:α->List Tr}{Q:α->Prop}{c2:β->List Tr}{Q2:β->Prop}(h:QZ P t c Q)(g:α->β)(hg:∀ x,c2 (g x)=c x)(hq:∀ x,Q x->Q2 (g x)):QZ P t c2 Q2:=Zif g hg hq h
end Go.Fd

/-
  FROM A CONTRACT OF A LAW TO WHAT ITS ROW ASKS. Own work.
-/
namespace Go.Fd
open Go.RowKit
def G0:Gh:=fun _ _=>none
def S0:Sto:=fun _=>none
theorem Av0{w:World}{b:Nat}(h:In w b):Av G0 S0 w b:=⟨h,fun id ob hs=>by cases hs⟩
theorem ZcT{w:World}:∀{cs:List Value} {ts:List Tr},cs.length=ts.length->ZjP w cs ts->VRs G0 S0 w (ts.map .tr) cs
 | [],[],_,_=>by simp [VRs]
 | v::cs,t::ts,hl,h=>by
  simp only[List.map_cons,VRs]
  refine⟨v,cs,rfl,?_,ZcT (by simpa using hl) (fun j v' t' h1 h2=>h (j+1) v' t' (by simpa using h1) (by simpa using h2))⟩
  simp only[VR]
  exact Rds.mono (fun b=>Av0) (fun b _=>rfl) (h 0 v t rfl rfl)
 | [],_::_,hl,_=>by simp at hl
 | _::_,[],hl,_=>by simp at hl
theorem Uk{P:Program}{f:FuncId}{args:List IV}{b:Bool}{w:World}{vs:List Value}(h:Sem P f 0 args S0 (iB b) S0)(hv:VRs G0 S0 w args vs) :
  Calls P f vs.toArray w fun e w' => e = .returned (.bool b)/\Below w.heap.size w w':=by
 obtain⟨_,_,h⟩:=h
 refine(h (fun id ob hs=>by cases hs) G0 w vs ⟨fun id ob hs=>(nomatch hs),fun id ob id2 ob2 b2 hs=>(nomatch hs),fun id cells hs=>(nomatch hs)⟩ hv).mono ?_
 rintro e w' ⟨v,G',rfl,_,hr,_,hf⟩
 have hr':Rds w' (Av G' (Vb S0 0 0 (impv true 0 0 0 (iB b)).2) w') v (.v (.bool b)):=hr
 cases hr' with
 | v x hx =>
  exact⟨rfl,hf.os,hf.tape,hf.output,hf.size,fun k hk=>hf.old k hk (fun id ob hs=>by cases hs)⟩
theorem Zig{P:Program}{w:World}{r:Reach}{base:Nat}{t e:TypeId}{v:Value}(ht:P.underlying t=some (.slice e))(h:Value.okWide P w r base t v):v.cells.toList=[v]:=by
 unfold Value.okWide at h
 rw[ht] at h
 simp only[Cell.okWide,ht,Cell.ok] at h
 cases v <;> first | rfl | exact absurd h (by simp)
theorem Zhb{P:Program}{w:World}{r:Reach}{base:Nat}{t:TypeId}{fs:Array Field}{v:Value}(ht:P.underlying t=some (.struct fs))(h:Value.okWide P w r base t v):∃ cs,v = .agg cs/\cs.size=P.cellsOf t:=by
 unfold Value.okWide at h
 rw[ht] at h
 obtain⟨cs,h1,h2,_⟩:=h
 exact⟨cs,h1,h2⟩
section
variable {H:Type} {enc:TypeId×Value->H} {P:Program} {w:World} {t:TypeId} {v:Value} {d:DataW H} {p:List MemPlace} {α:Type} {c:α->List Tr} {Q:α->Prop} {sp:Nat->Bool} {hd:Bool} {base:Nat}
theorem XY{fs:Array Field}{k:Nat}(hr:QZ P t c Q)(ht:P.underlying t=some (.struct fs))(hk:P.cellsOf t=k)(hc:∀ x,(c x).length=k)(hok:Value.okWide P w .any base t v)(h:DataW.Trod enc P w 0 sp hd t v d p) :
  ∃ y,Q y/\VR G0 S0 w (.ag ((c y).map .tr)) v:=by
 obtain⟨cs,rfl,hs⟩:=Zhb ht hok
 obtain⟨n,hn⟩:=h
 obtain⟨y,hy,hrow⟩:=hr H enc w sp hd n _ _ hn
 refine⟨y,hy,?_⟩
 simp only[VR]
 refine⟨cs.toList,by simp,ZcT ?_ hrow⟩
 rw[hc,<-hk,<-hs]
 simp
theorem DL{e:TypeId}{g:α->Tr}(hr:QZ P t (fun x=>[g x]) Q)(ht:P.underlying t=some (.slice e))(hok:Value.okWide P w .any base t v)(h:DataW.Trod enc P w 0 sp hd t v d p) :
  ∃ y,Q y/\VR G0 S0 w (.tr (g y)) v:=by
 obtain⟨n,hn⟩:=h
 rw[Zig ht hok] at hn
 obtain⟨y,hy,hrow⟩:=hr H enc w sp hd n _ _ hn
 refine⟨y,hy,?_⟩
 simp only[VR]
 exact Rds.mono (fun b=>Av0) (fun b _=>rfl) (hrow 0 v _ rfl rfl)
end
theorem Wr{H:Type}{enc:TypeId×Value->H}{P:Program}{f:Func}{s:ChangeSpec}{apart:Bool}{W W':World}{args:Array Value}{v:Value}{ds gs:List (DataW H)}{before pa pv:List MemPlace}
  (hW:DataW.Whole enc P f.params.toList s.vars apart W args.toList ds gs before) (hb:Below W.heap.size W W')
  (hres:DataW.TrodAll enc P W' W.heap.size (fun _=>false) false f.resultTypes.toList (v.resultList f.resultTypes.size) (s.fn H (ds++gs)).results [])
  (hargs:DataW.TrodAll enc P W' 0 (fun b=>decide (b<W.heap.size)) true f.params.toList args.toList (s.fn H (ds++gs)).args pa)
  (hvars:DataW.TrodVars enc P W' (fun b=>decide (b<W.heap.size)) s.vars (s.fn H (ds++gs)).vars pv) :
  s.post enc P f apart true false false W args v W' :=
 ⟨ds,gs,before,[],pa,pv,hW,hres,hargs,hvars,hb.frame _,fun h=>by cases h⟩
end Go.Fd

/-
  FOUNDATION 50: contracts of the library, taken over: calls that read scalars alone and answer scalars. Own work.
-/
namespace Go.Fd
open Go.RowKit
theorem ZeT{w w':World}(h:Below w.heap.size w w'):Ext w w':=⟨h.size,h.block,h.os,h.tape,h.output⟩
theorem ZdI{G:Gh}{S:Sto}{w:World}:∀{xs vs:List Value},VRs G S w (xs.map fun v=>.tr (.v v)) vs->vs=xs
 | [],vs,h=>by simpa [VRs] using h
 | x::r,vs,h=>by
  simp only[List.map_cons,VRs] at h
  obtain⟨v,vr,rfl,h1,h2⟩:=h
  rw[ZdI h2]
  have h1':Rds w (Av G S w) v (.v x):=h1
  cases h1'
  rfl
theorem ZkK{G:Gh}{S:Sto}{w:World}:∀{xs:List Value},(∀ x∈xs,WX x=true)->VRs G S w (xs.map fun v=>.tr (.v v)) xs
 | [],_=>by simp [VRs]
 | x::r,h=>by
  simp only[List.map_cons,VRs]
  exact⟨x,r,rfl,.v x (h x (by simp)),ZkK fun y hy=>h y (by simp [hy])⟩
theorem ZcU{P:Program}{f:FuncId}{lvl:Nat}{S:Sto}{args:List IV}{r:IV}(hc:UK P f)(hi:impv true lvl 0 0 r=(r,[]))(hlow:low lvl r)
  (h:(∀ id ob,S id=some ob->id.1<lvl)->∀ G w vs,SOk G S w->VRs G S w args vs->Calls P f vs.toArray w fun e w' => ∃ v,e = .returned v/\VR G S w' r v/\Below w.heap.size w w'):Sem P f lvl args S r S:=by
 refine⟨hlow,hc,fun hS G w vs hok hv=>?_⟩
 refine(h hS G w vs hok hv).mono ?_
 rintro e w' ⟨v,rfl,hr,hb⟩
 rw[hi]
 have e:Ext w w':=ZeT hb
 exact⟨v,G,rfl,hok.ext e,hr,hS,Frm.of_ext e⟩
theorem ZfU{P:Program}{f:FuncId}{lvl:Nat}{S:Sto}{xs:List Value}{y:Value}(hc:UK P f)(hy:WX y=true)
  (h:∀ w,Calls P f xs.toArray w fun e w' => e = .returned y/\Below w.heap.size w w'):Sem P f lvl (xs.map fun v=>.tr (.v v)) S (.tr (.v y)) S:=by
 refine ZcU hc rfl trivial fun _ G w vs _ hv=>?_
 rw[ZdI hv]
 exact(h w).mono fun e w' ⟨h1,h2⟩=>⟨y,h1,.v y hy,h2⟩
theorem ZeU{P:Program}{f:FuncId}{lvl:Nat}{S:Sto}{xs ys:List Value}(hc:UK P f)(hy:∀ y∈ys,WX y=true)
  (h:∀ w,Calls P f xs.toArray w fun e w' => e = .returned (.tuple ys.toArray)/\Below w.heap.size w w'):Sem P f lvl (xs.map fun v=>.tr (.v v)) S (.tu (ys.map fun v=>.tr (.v v))) S:=by
 have hi:∀(l b j:Nat) (ys:List Value),impvs true l b j (ys.map fun v=>IV.tr (.v v))=(ys.map fun v=>.tr (.v v),[]):=fun l b j ys=>by
  induction ys generalizing j with
  | nil=>rfl
  | cons y r ih=>simp only[List.map_cons,impvs,impv,List.length_nil,Nat.add_zero,ih,List.nil_append]
 have hl:∀(l:Nat) (ys:List Value),UE l (ys.map fun v=>IV.tr (.v v)):=fun l ys=>by
  induction ys with
  | nil=>trivial
  | cons y r ih=>exact⟨trivial,ih⟩
 refine ZcU hc (by simp only[impv,hi]) (by simp only[low,men];exact hl _ _) fun _ G w vs _ hv=>?_
 rw[ZdI hv]
 exact(h w).mono fun e w' ⟨h1,h2⟩=>⟨_,h1,by simp only[VR];exact⟨ys,rfl,ZkK hy⟩,h2⟩
end Go.Fd

/-
  FOUNDATION 51: a loop that counts, told by what changes. Own work.
-/
namespace Go.Fd
def pts:List (Nat×IV)->List (Nat×IV)->List (Nat×IV)
 | [],env=>env
 | (t,x)::r,env=>pts r (pt t x env)
def ZkL:List (Nat×Ob)->List (Nat×Ob)->List (Nat×Ob)
 | [],loc=>loc
 | (t,x)::r,loc=>ZkL r (ptO t x loc)
def chg(ce:List (Nat×IV))(co:List (Nat×Ob))(s:St):St:=⟨s.lvl,pts ce s.env,ZkL co s.loc,s.out⟩
section
variable {C:Zg} {lvl:Nat} {env:List (Nat×IV)} {loc:List (Nat×Ob)} {out:Sto} {st:St} {Q:Ex->St->Prop}
theorem ZtE{ce:List (Nat×IV)}{co:List (Nat×Ob)}:chg ce co ⟨lvl,env,loc,out⟩=⟨lvl,pts ce env,ZkL co loc,out⟩:=(rfl)
theorem Zpg:pts [] env=env:=(rfl)
theorem Zph{t:Nat}{x:IV}{r:List (Nat×IV)}:pts ((t,x)::r) env=pts r (pt t x env):=(rfl)
theorem Zmd:ZkL [] loc=loc:=(rfl)
theorem Zme{t:Nat}{x:Ob}{r:List (Nat×Ob)}:ZkL ((t,x)::r) loc=ZkL r (ptO t x loc):=(rfl)
theorem Ji{α:Type}{ks js:List Nat}{c:C2}(N:Nat)(ce:Nat->α->List (Nat×IV))(co:Nat->α->List (Nat×Ob))(A:Nat->α->Prop)(x0:α)
  (h1:clean ks js st) (h0:fgt ks js st=chg (ce 0 x0) (co 0 x0) (fgt ks js st)) (hA:A 0 x0)
  (hs:∀ k x,k<=N->A k x->wp C c (chg (ce k x) (co k x) (fgt ks js st)) (DJ ks js (Zp5 N (fun k x=>chg (ce k x) (co k x) (fgt ks js st)) A (N-k)) Q)):wp C (.lp ks js c) st Q :=
 ZW N (fun k x=>chg (ce k x) (co k x) (fgt ks js st)) A x0 ⟨h1,h0⟩ hA hs
theorem Zpi{α:Type}{ks js:List Nat}{c:C2}(M:α->Nat)(ce:α->List (Nat×IV))(co:α->List (Nat×Ob))(A:α->Prop)(x0:α)
  (h1:clean ks js st) (h0:fgt ks js st=chg (ce x0) (co x0) (fgt ks js st)) (hA:A x0)
  (hs:∀ x,A x->wp C c (chg (ce x) (co x) (fgt ks js st)) (DJ ks js (fun s' => ∃ y,M y<M x/\s'=chg (ce y) (co y) (fgt ks js st)/\A y) Q)):wp C (.lp ks js c) st Q:=by
 refine Zot (fun n s=>∃ x,M x=n/\s=chg (ce x) (co x) (fgt ks js st)/\A x) (M x0) ⟨h1,x0,rfl,h0,hA⟩ (fun n s ⟨x,hn,he,ha⟩=>?_)
 subst he
 have h:=hs x ha
 refine(?_:_->_) h
 intro h
 have e:(fun s' => ∃ y,M y<M x/\s'=chg (ce y) (co y) (fgt ks js st)/\A y)=fun s' => ∃ m,m<n/\∃ x,M x=m/\s'=chg (ce x) (co x) (fgt ks js st)/\A x:=by
  funext s'
  apply propext
  constructor
  ·rintro⟨y,h1,h2,h3⟩;exact⟨M y,by omega,y,rfl,h2,h3⟩
  ·rintro⟨m,h1,y,h2,h3,h4⟩;exact⟨y,by omega,h3,h4⟩
 rw[e] at h
 exact h
end
section
variable {L:Sto} {F:List IV->Prop} {r:List IV}
def Zuj(L:Sto)(r:List IV)(F:List IV->Prop)(y:IV):Prop:=Jc L r (kcn y F)
theorem Zpj{y:IV}:Zuj L r F y=Jc L r (kcn y F):=(rfl)
theorem ZtF{id:Oid}{off:Nat}:Jc L (.ab id off::r) F=Zde (L id) L off (Zuj L r F):=by simp only[Jc,Qm];rfl
def kta(F:IV->Prop)(ts:List Tr):Prop:=F (.ta ts)
theorem ZtG{F:IV->Prop}{ts:List Tr}:kta F ts=F (.ta ts):=(rfl)
theorem ZtH{cells:List IV}{off:Nat}{F:IV->Prop}:Zde (some (.bx cells)) L off F=Vn L (cells.drop off) (kta F):=(rfl)
def kct(t:Tr)(F:List Tr->Prop)(ts:List Tr):Prop:=F (t::ts)
theorem ZtI{t:Tr}{F:List Tr->Prop}{ts:List Tr}:kct t F ts=F (t::ts):=(rfl)
def Zuk(L:Sto)(r:List IV)(F:List Tr->Prop)(t:Tr):Prop:=Vn L r (kct t F)
theorem Zpk{F:List Tr->Prop}{t:Tr}:Zuk L r F t=Vn L r (kct t F):=(rfl)
theorem Zpl{F:List Tr->Prop}:Vn L [] F=F []:=(rfl)
theorem Zpm{x:IV}{F:List Tr->Prop}:Vn L (x::r) F=Dv L x (Zuk L r F):=(rfl)
theorem Zpn{t:Tr}{F:Tr->Prop}:Dv L (.tr t) F=F t:=(rfl)
theorem Zpo{es:Row}{F:Tr->Prop}:Dv L (.cs es) F=F (.sl es):=(rfl)
def Zul(off len:Nat)(F:Tr->Prop)(es:Row)(_u:Bool)(_v:Nat):Prop:=off+len<=es.length/\F (.sl (cut es off len))
theorem Zpp{off len:Nat}{F:Tr->Prop}{es:Row}{u:Bool}{v:Nat}:Zul off len F es u v=(off+len<=es.length/\F (.sl (cut es off len))):=(rfl)
theorem Zpq{id:Oid}{p:Pth}{off len s:Nat}{cap:Option Nat}{F:Tr->Prop}:Dv L (.hd id p off len cap s) F=rd3 (L id) p s (Zul off len F):=by rw[<-Ui];rfl
end
theorem Zpr{α:Type}{x:α}:List.replicate 1 x=[x]:=(rfl)
theorem Zps{e:List Tr}:cut [e] 0 1=[e]:=(rfl)
theorem Zpt{l:List Tr}:ScR [l]=(l.all isSc=true):=by
 apply propext
 constructor
 ·intro h
  exact List.all_eq_true.2 fun t ht=>h l (by simp) t ht
 ·intro h e he t ht
  simp only[List.mem_singleton] at he
  subst he
  exact List.all_eq_true.1 h t ht
theorem Zpu{k:Nat}{l:List Tr}:UnR k [l]=(l.length=k):=by
 apply propext
 constructor
 ·intro h;exact h l (by simp)
 ·intro h e he
  simp only[List.mem_singleton] at he
  rw[he,h]
theorem ZtJ{j:Nat}:max j (j+1)=j+1:=by omega
theorem ZtK{j:Nat}:(j<j+1)=True:=by simp
end Go.Fd

/-
  FOUNDATION 52: numbers and strings as parameters of a law. Own work.
-/
namespace Go.Fd
open Go.RowKit Go.ChangeShapes Go.ChangeMaps Go.WideMaps
section
variable {H:Type} {enc:TypeId×Value->H} {P:Program} {w:World} {t:TypeId} {v:Value} {d:DataW H} {p:List MemPlace} {sp:Nat->Bool} {hd:Bool} {base:Nat}
end
end Go.Fd

/-
  FOUNDATION 54: all rules in one word (printed by evr.py). Own work.
-/
namespace Go.Fd
set_option linter.defProp false in
def EV0:=(And.intro (And.intro (And.intro (And.intro (And.intro @Znn @ZqX) (And.intro @Zno (And.intro @Znp @Znq))) (And.intro (And.intro @Znr @Zns) (And.intro @Znt (And.intro @Znu @ZqY)))) (And.intro (And.intro (And.intro @ZqZ @Zq0) (And.intro @Zus (And.intro @Zut @Zuu))) (And.intro (And.intro @Zuv @Zuw) (And.intro @Zux (And.intro @Zuy @Zuz))))) (And.intro (And.intro (And.intro (And.intro @Zq1 @Zq2) (And.intro @Zq3 (And.intro @Znv @ZuA))) (And.intro (And.intro @Zq4 @Zq5) (And.intro @ZuB (And.intro @Zq6 @Znw)))) (And.intro (And.intro (And.intro @ZuC @Zq7) (And.intro @ZuD (And.intro @Zq8 @ZuE))) (And.intro (And.intro @Zq9 @ZuF) (And.intro @ZuG (And.intro @ZuH @ZjA))))))
set_option linter.defProp false in
def EV1:=(And.intro (And.intro (And.intro (And.intro (And.intro @ZjB @Zra) (And.intro @Zlu (And.intro @ZuI @Zrb))) (And.intro (And.intro @ZuJ @Zny) (And.intro @Znz (And.intro @ZnA @ZnB)))) (And.intro (And.intro (And.intro @ZnC @ZnD) (And.intro @Zrc (And.intro @Zrd @Zre))) (And.intro (And.intro @Zrf @Zrg) (And.intro @Zrh (And.intro @Zri @Zrj))))) (And.intro (And.intro (And.intro (And.intro @Zrk @Zrl) (And.intro @Zrm (And.intro @Zrn @Zro))) (And.intro (And.intro @Zrp @ZnE) (And.intro @ZnF (And.intro @ZnG @Zrq)))) (And.intro (And.intro (And.intro @Zrr @Zrs) (And.intro @Zrt (And.intro @ZuK @ZuL))) (And.intro (And.intro @Zru @ZuM) (And.intro @Zrv (And.intro @ZuN @Zrw))))))
set_option linter.defProp false in
def EV2:=(And.intro (And.intro (And.intro (And.intro (And.intro @Zrx @Zry) (And.intro @Zrz (And.intro @ZuO @ZrA))) (And.intro (And.intro @ZuP @ZrB) (And.intro @ZrC (And.intro @ZrD @ZuQ)))) (And.intro (And.intro (And.intro @ZrE @ZuR) (And.intro @ZuS (And.intro @ZrF @ZrG))) (And.intro (And.intro @ZuT @ZrH) (And.intro @ZrI (And.intro @ZrJ @ZuU))))) (And.intro (And.intro (And.intro (And.intro @ZrK @ZuV) (And.intro @ZrL (And.intro @ZrM @ZrN))) (And.intro (And.intro @ZuW @ZrO) (And.intro @ZrP (And.intro @ZrQ @ZuX)))) (And.intro (And.intro (And.intro @ZrR @ZrS) (And.intro @ZrT (And.intro @ZuY @ZrU))) (And.intro (And.intro @ZrV @ZrW) (And.intro @ZrX (And.intro @ZrY @ZjC))))))
set_option linter.defProp false in
def EV3:=(And.intro (And.intro (And.intro (And.intro (And.intro @ZjD @ZrZ) (And.intro @ZnH (And.intro @Zr0 @ZuZ))) (And.intro (And.intro @Zr1 @Zr2) (And.intro @Zr3 (And.intro @Zr4 @Zu0)))) (And.intro (And.intro (And.intro @Zr5 @Zu1) (And.intro @Zr6 (And.intro @Zr7 @Yg))) (And.intro (And.intro @Uj @ZnI) (And.intro @Zr8 (And.intro @Xq @Zr9))))) (And.intro (And.intro (And.intro (And.intro @Zsa @Zsb) (And.intro @ZnJ (And.intro @ZnK @ZnM))) (And.intro (And.intro @Zlv @Zu2) (And.intro @Zsc (And.intro @Zsd @Zse)))) (And.intro (And.intro (And.intro @Zsf @ZnN) (And.intro @Zsg (And.intro @Zsh @Zsi))) (And.intro (And.intro @Zsj @Zsk) (And.intro @ZnO (And.intro @ZnP @Zsl))))))
set_option linter.defProp false in
def EV4:=(And.intro (And.intro (And.intro (And.intro (And.intro @ZnQ @ZnR) (And.intro @Zu3 (And.intro @Zsm @Zsn))) (And.intro (And.intro @Zso @Zsp) (And.intro @ZnS (And.intro @Zu4 @Zsq)))) (And.intro (And.intro (And.intro @Zu5 @Zsr) (And.intro @Zss (And.intro @Zst @Zu6))) (And.intro (And.intro @Zsu @Zsv) (And.intro @Zsw (And.intro @ZnT @ZnU))))) (And.intro (And.intro (And.intro (And.intro @ZnV @ZnW) (And.intro @Zlw (And.intro @ZnX @Zsx))) (And.intro (And.intro @Zsy @Zsz) (And.intro @ZnY (And.intro @ZsA @ZsB)))) (And.intro (And.intro (And.intro @ZsC @Zu7) (And.intro @ZsD (And.intro @ZsE @ZnZ))) (And.intro (And.intro @ZsF @Zn0) (And.intro @ZsG (And.intro @Zn1 @ZsH))))))
set_option linter.defProp false in
def EV5:=(And.intro (And.intro (And.intro (And.intro (And.intro @Zn2 @ZsI) (And.intro @Zn3 (And.intro @Zn4 @Zn5))) (And.intro (And.intro @ZsJ @Zlx) (And.intro @Zly (And.intro @ZsK @Zn6)))) (And.intro (And.intro (And.intro @Zn7 @Zn8) (And.intro @Zn9 (And.intro @Zoa @ZsL))) (And.intro (And.intro @Zob @ZsM) (And.intro @Zoc (And.intro @Zlz @ZlA))))) (And.intro (And.intro (And.intro (And.intro @ZlB @ZlC) (And.intro @ZlD (And.intro @ZlE @ZlF))) (And.intro (And.intro @ZsN @ZjE) (And.intro @ZjF (And.intro @ZlG @ZlH)))) (And.intro (And.intro (And.intro @ZlI @ZlJ) (And.intro @ZjG (And.intro @ZjH @ZjI))) (And.intro (And.intro @ZjJ @ZjK) (And.intro @ZjL (And.intro @ZlK @ZlL))))))
set_option linter.defProp false in
def EV6:=(And.intro (And.intro (And.intro (And.intro (And.intro @ZlM @Zod) (And.intro @Zoe (And.intro @ZsO @ZlN))) (And.intro (And.intro @Zof @Zog) (And.intro @ZlO (And.intro @Zoh @Zoi)))) (And.intro (And.intro (And.intro @Zoj @Zok) (And.intro @Zol (And.intro @Zom @Zon))) (And.intro (And.intro @ZlP @ZlQ) (And.intro @ZlR (And.intro @ZlS @Zoo))))) (And.intro (And.intro (And.intro (And.intro @Zop @Zoq) (And.intro @Zor (And.intro @Zos @ZjM))) (And.intro (And.intro @ZjN @ZjO) (And.intro @Zu8 (And.intro @ZsP @ZsQ)))) (And.intro (And.intro (And.intro @ZsR @Qa) (And.intro @Qb (And.intro @ZlT @ZlU))) (And.intro (And.intro @Zou @Zov) (And.intro @Zow (And.intro @Zox @Zoy))))))
set_option linter.defProp false in
def EV7:=(And.intro (And.intro (And.intro (And.intro (And.intro @Zoz @ZoA) (And.intro @ZoB (And.intro @ZoC @ZlV))) (And.intro (And.intro @ZsS @ZlW) (And.intro @ZlX (And.intro @ZsT @ZsU)))) (And.intro (And.intro (And.intro @ZsV @ZsW) (And.intro @ZoD (And.intro @ZoE @ZoF))) (And.intro (And.intro @ZsX @Zu9) (And.intro @ZsY (And.intro @ZsZ @Zs0))))) (And.intro (And.intro (And.intro (And.intro @Zs1 @Zs2) (And.intro @ZlY (And.intro @ZlZ @ZoG))) (And.intro (And.intro @ZoH @ZoI) (And.intro @ZoJ (And.intro @Zs3 @ZoL)))) (And.intro (And.intro (And.intro @Zl0 @Zl1) (And.intro @ZoM (And.intro @ZoN @Zva))) (And.intro (And.intro @Zvb @Zl2) (And.intro @Zl3 (And.intro @Zvc @Zvd))))))
set_option linter.defProp false in
def EV8:=(And.intro (And.intro (And.intro (And.intro (And.intro @Zs4 @Zs5) (And.intro @Zve (And.intro @Zvf @Zs6))) (And.intro (And.intro @Zs7 @Zs8) (And.intro @Zs9 (And.intro @Zta @Zvg)))) (And.intro (And.intro (And.intro @ZoO @ZoP) (And.intro @Zvh (And.intro @ZoQ @ZoR))) (And.intro (And.intro @ZoS @ZoT) (And.intro @ZoU (And.intro @Zvi @Zvj))))) (And.intro (And.intro (And.intro (And.intro @ZoV @ZoW) (And.intro @ZoX (And.intro @Ztb @Zvk))) (And.intro (And.intro @Ztc @Ztd) (And.intro @ZoY (And.intro @ZoZ @Zte)))) (And.intro (And.intro (And.intro @Zo0 @Zo1) (And.intro @Ztf (And.intro @Zo2 @Zth))) (And.intro (And.intro @Zo3 @Zl4) (And.intro @ZfR (And.intro @Zvl @Zti))))))
set_option linter.defProp false in
def EV9:=(And.intro (And.intro (And.intro (And.intro (And.intro @Ztj @Zo4) (And.intro @Zvm (And.intro @Ztk @Zvn))) (And.intro (And.intro @Ztl @Ztm) (And.intro @Ztn (And.intro @Zvo @Zto)))) (And.intro (And.intro (And.intro @Ztp @Zo5) (And.intro @Zo6 (And.intro @Zvp @Ztq))) (And.intro (And.intro @Ztr @Zl5) (And.intro @Zl6 (And.intro @Zo7 @Zo8))))) (And.intro (And.intro (And.intro (And.intro @Zo9 @Zpa) (And.intro @Zvq (And.intro @Zl7 @Zl8))) (And.intro (And.intro @Zl9 @Zma) (And.intro @Zmb (And.intro @Zpb @Zvr)))) (And.intro (And.intro (And.intro @Ztu @Ztv) (And.intro @Zvs (And.intro @Ztw @Ztx))) (And.intro (And.intro @Zty @Zpc) (And.intro @Zpd (And.intro @Zpe @Ztz))))))
set_option linter.defProp false in
def Zvw:=(And.intro (And.intro (And.intro (And.intro (And.intro @ZtA @Zvt) (And.intro @Zvu (And.intro @ZtB @Zvv))) (And.intro (And.intro @ZtC @ZtD) (And.intro @Zpf (And.intro @ZtE @Zpg)))) (And.intro (And.intro (And.intro @Zph @Zmd) (And.intro @Zme (And.intro @Zpj @ZtF))) (And.intro (And.intro @ZtG @ZtH) (And.intro @ZtI (And.intro @Zpk @Zpl))))) (And.intro (And.intro (And.intro (And.intro @Zpm @Zpn) (And.intro @Zpo (And.intro @Zpp @Zpq))) (And.intro (And.intro @Zpr @Zps) (And.intro @Zpt (And.intro @Zpu @ZtJ)))) (And.intro (And.intro (And.intro @ZtK @bigN.eq_1) (And.intro @fpart.eq_1 (And.intro @fpart.eq_2 @okp.eq_1))) (And.intro (And.intro @okp.eq_2 @zfill.eq_1) (And.intro @zfill.eq_2 (And.intro @zobs.eq_1 @ptd.eq_1))))))
set_option linter.defProp false in
def Zvx:=(And.intro (And.intro (And.intro (And.intro (And.intro @ptd.eq_2 @keyOf.eq_1) (And.intro @keyOf.eq_2 (And.intro @freshK.eq_1 @freshK.eq_2))) (And.intro (And.intro @lk.eq_1 @lk.eq_2) (And.intro @pt.eq_1 (And.intro @pt.eq_2 @lkO.eq_1)))) (And.intro (And.intro (And.intro @lkO.eq_2 @ptO.eq_1) (And.intro @ptO.eq_2 (And.intro @addO.eq_1 @addO.eq_2))) (And.intro (And.intro @xv.eq_1 @xv.eq_2) (And.intro @xv.eq_3 (And.intro @kv.eq_1 @kv.eq_2))))) (And.intro (And.intro (And.intro (And.intro @kc.eq_1 @kc.eq_2) (And.intro @params.eq_1 (And.intro @params.eq_2 @trv.eq_1))) (And.intro (And.intro @trv.eq_2 @List.length_cons.{0}) (And.intro @List.length_nil.{0} (And.intro @Option.getD_some.{0} @Option.getD_none.{0})))) (And.intro (And.intro (And.intro @true_and @and_true) (And.intro @decide_eq_true_eq (And.intro @decide_true @decide_false))) (And.intro (And.intro @Option.map_some.{0,0} @Option.map_none.{0,0}) (And.intro @Option.isSome_some.{0} (And.intro @Option.isSome_none.{0} @Option.isNone_some.{0}))))))
set_option linter.defProp false in
def Zvy:=(And.intro (And.intro (And.intro (And.intro (And.intro @Option.isNone_none.{0} @List.map_cons.{0,0}) (And.intro @List.map_nil.{0,0} (And.intro @List.cons_append.{0} @List.nil_append.{0}))) (And.intro (And.intro @List.getElem?_cons_zero.{0} @List.getElem?_cons_succ.{0}) (And.intro @List.drop_succ_cons.{0} (And.intro @List.drop_zero.{0} @List.take_succ_cons.{0})))) (And.intro (And.intro (And.intro @List.take_zero.{0} @List.headD_cons.{0}) (And.intro @List.headD_nil.{0} (And.intro @List.tail_cons.{0} @List.tail_nil.{0}))) (And.intro (And.intro @noSh.eq_1 @noSh.eq_2) (And.intro @noSh.eq_3 (And.intro @noSh.eq_4 @noSh.eq_5))))) (And.intro (And.intro (And.intro (And.intro @noSh.eq_6 @noSh.eq_7) (And.intro @noSh.eq_8 (And.intro @noShs.eq_1 @noShs.eq_2))) (And.intro (And.intro @isSc.eq_1 @isSc.eq_2) (And.intro @impv.eq_1 (And.intro @impv.eq_2 @impv.eq_3)))) (And.intro (And.intro (And.intro @impv.eq_4 @impvs.eq_1) (And.intro @impvs.eq_2 (And.intro @impc.eq_1 @impc.eq_2))) (And.intro (And.intro @memB.eq_1 @memB.eq_2) (And.intro @keepB.eq_1 (And.intro @keepB.eq_2 @keepOB.eq_1))))))
set_option linter.defProp false in
def Zvz:=(And.intro (And.intro (And.intro (And.intro (And.intro @keepOB.eq_2 @or_true) (And.intro @true_or (And.intro @or_false @false_or))) (And.intro (And.intro @Bool.false_eq_true @Bool.true_eq_false) (And.intro @if_true.{1} (And.intro @if_false.{1} @Bool.not_true)))) (And.intro (And.intro (And.intro @Bool.not_false @scrE.eq_1) (And.intro @scrE.eq_2 (And.intro @scrL.eq_1 @scrL.eq_2))) (And.intro (And.intro @scr.eq_1 @scr.eq_2) (And.intro @scr.eq_3 (And.intro @scr.eq_4 @scr.eq_5))))) (And.intro (And.intro (And.intro (And.intro @scr.eq_6 @scr.eq_7) (And.intro @scr.eq_8 (And.intro @scrs.eq_1 @scrs.eq_2))) (And.intro (And.intro @scrOb.eq_1 @scrOb.eq_2) (And.intro @rmO.eq_1 (And.intro @rmO.eq_2 @Int.toNat_natCast)))) (And.intro (And.intro (And.intro @Int.toNat_zero @Int.toNat_one) (And.intro @List.all_cons.{0} (And.intro @List.all_nil.{0} @isCell.eq_1))) (And.intro (And.intro @isCell.eq_2 @isCell.eq_3) (And.intro @isCell.eq_4 (And.intro @isCell.eq_5 @isCell.eq_6))))))
set_option linter.defProp false in
def ZvA:=(And.intro (And.intro (And.intro (And.intro (And.intro @Bool.and_true @Bool.true_and) (And.intro @Bool.and_self @cellsOf.eq_1)) (And.intro (And.intro @cellsOf.eq_2 @totr.eq_1) (And.intro @totr.eq_2 (And.intro @totr.eq_3 @totr.eq_4)))) (And.intro (And.intro (And.intro @totr.eq_5 @totrs.eq_1) (And.intro @totrs.eq_2 (And.intro @tocs.eq_1 @getp.eq_1))) (And.intro (And.intro @getp.eq_2 @cvt.eq_1) (And.intro @cvt.eq_2 (And.intro @cvts.eq_1 @cvts.eq_2))))) (And.intro (And.intro (And.intro (And.intro @Nat.zero_add @Nat.add_zero) (And.intro @List.set_cons_zero.{0} @List.set_cons_succ.{0})) (And.intro (And.intro @Bool.not_eq_true' @Bool.not_eq_false') (And.intro @Int.natCast_nonneg (And.intro @Nat.le_refl @Prod.mk.injEq.{0,0})))) (And.intro (And.intro (And.intro @ne_eq.{1} @not_false_eq_true) (And.intro @not_true_eq_false (And.intro @List.length_map.{0,0} @List.length_replicate.{0}))) (And.intro (And.intro @List.replicate_zero.{0} @and_false) (And.intro @false_and (And.intro @and_self @Int.cast_ofNat_Int))))))
set_option linter.defProp false in
def EVA:=(And.intro (And.intro (And.intro EV0 (And.intro EV1 EV2)) (And.intro (And.intro EV3 EV4) (And.intro EV5 EV6))) (And.intro (And.intro (And.intro EV7 EV8) (And.intro EV9 Zvw)) (And.intro (And.intro Zvx Zvy) (And.intro Zvz ZvA))))
abbrev oo(d:Nat)(x:O):OP:=⟨some d,none,x⟩
abbrev on1(x:O):OP:=⟨none,none,x⟩
abbrev og(d j:Nat)(w:Bool)(x:O):OP:=⟨some d,some (j,w),x⟩
abbrev om(d:Nat)(x:X):OP:=⟨some d,none,.mv x none⟩
abbrev rg(l:List OP):C2:=.rg none l
abbrev i6(n:Int):X:=.k (.int .i64 n)
end Go.Fd

/-
  PLAIN WORDS FOR THE DATA, AND WHAT HOLDS OF THE HELPERS OF THE LAWS THAT ARE ALIKE FOR ALL KINDS OF SLICES. Own work.
-/
namespace Go.Fd
set_option maxRecDepth 10000
theorem Zp{c:Prop}[Decidable c]{p q:Prop}(h1:c->p)(h2:¬ c->q):if c then p else q:=by
 split
 ·exact h1 ‹_›
 ·exact h2 ‹_›
def szN(n:Nat)(left:Int):Int:=if left-n<0 then -1 else left-n
def szF{α:Type}(f:α->Int->Int):List α->Int->Int
 | [],l=>l
 | x::r,l=>if f x l<0 then -1 else szF f r (f x l)
def szL{α:Type}(f:α->Int->Int)(a:List α)(left:Int):Int:=if left-a.length<0 then -1 else szF f a (left-a.length)
def sz0:F2 :=
 { nt:=12,res:=[.t 4 [0]],body :=
  (.sq (.rg none [⟨some 4,none,.mv (.k (.int .i64 0)) none⟩])
  (.sq (.rg none [⟨some 5,none,.mv (.t 1) none⟩,
   ⟨some 6,none,.mv (.t 0) none⟩,
   ⟨some 7,none,.ln (.t 6)⟩,
   ⟨some 8,none,.bi .sub 0 (.t 5) (.t 7)⟩,
   ⟨some 1,none,.mv (.t 8) none⟩])
  (.sq (.sq (.rg none [⟨some 9,none,.mv (.t 1) none⟩,
    ⟨some 10,none,.bi .lss 0 (.t 9) (.k (.int .i64 0))⟩])
  (.cd (.t 10) (.sq (.rg none [⟨some 4,none,.mv (.k (.int .i64 (-1))) none⟩])
   (.rt))
  (.sk)))
  (.sq (.rg none [⟨some 11,none,.mv (.t 1) none⟩,
   ⟨some 4,none,.mv (.t 11) none⟩])
  (.rt))))) }
theorem Zmf{P:Program}{fid:FuncId}(hc:ZS P fid sz0=true)(es:Row)(left:Int)(h:es.length<=9223372036854775807)(h0:0<=left)(h1:left<=1048576)(lvl:Nat)(S:Sto) :
  Sem P fid lvl [.tr (.sl es),iI left] S (iI (szN es.length left)) S:=by
 refine Zb hc trivial ?_
 simp only[sz0,EVA,seval]
 refine⟨by rw[Zd];omega,?_⟩
 unfold szN
 split <;> rfl
def Zpv(k:Nat)(m:Option Nat)(fid:FuncId):F2 :=
 { nt:=27,res:=[.t 4 [0]],body :=
  (.sq (.rg none [⟨some 4,none,.mv (.k (.int .i64 0)) none⟩])
  (.sq (.rg none [⟨some 6,none,.mv (.t 1) none⟩,
   ⟨some 7,none,.mv (.t 0) none⟩,
   ⟨some 8,none,.ln (.t 7)⟩,
   ⟨some 9,none,.bi .sub 0 (.t 6) (.t 8)⟩,
   ⟨some 1,none,.mv (.t 9) none⟩])
  (.sq (.sq (.rg none [⟨some 10,none,.mv (.t 1) none⟩,
    ⟨some 11,none,.bi .lss 0 (.t 10) (.k (.int .i64 0))⟩])
  (.cd (.t 11) (.sq (.rg none [⟨some 4,none,.mv (.k (.int .i64 (-1))) none⟩])
   (.rt))
  (.sk)))
  (.sq (.sq (.rg none [⟨some 5,none,.mv (.k (.int .i64 0)) none⟩])
  (.bl 0 (.lp [0,1,5] [] (.sq (.sq (.rg none [⟨some 12,none,.mv (.t 5) none⟩,
     ⟨some 13,none,.mv (.t 0) none⟩,
     ⟨some 14,none,.ln (.t 13)⟩,
     ⟨some 15,none,.bi .lss 0 (.t 12) (.t 14)⟩])
    (.cd (.t 15) (.sk)
    (.ex 0)))
   (.sq (.bl 1 (.sq (.rg none [⟨some 18,none,.mv (.t 0) none⟩,
      ⟨some 19,none,.mv (.t 5) none⟩,
      ⟨some 20,none,.ia k (.t 18) (.t 19)⟩,
      ⟨some 21,none,.ld m (.t 20)⟩,
      ⟨some 22,none,.mv (.t 1) none⟩,
      ⟨some 23,none,.ca .pure false (.f fid) [.t 21,.t 22]⟩,
      ⟨some 1,none,.mv (.t 23) none⟩])
    (.sq (.rg none [⟨some 24,none,.mv (.t 1) none⟩,
      ⟨some 25,none,.bi .lss 0 (.t 24) (.k (.int .i64 0))⟩])
    (.cd (.t 25) (.sq (.rg none [⟨some 4,none,.mv (.k (.int .i64 (-1))) none⟩])
     (.rt))
    (.sk)))))
   (.rg none [⟨some 16,none,.mv (.t 5) none⟩,
    ⟨some 17,none,.bi .add 0 (.t 16) (.k (.int .i64 1))⟩,
    ⟨some 5,none,.mv (.t 17) none⟩]))))))
  (.sq (.rg none [⟨some 26,none,.mv (.t 1) none⟩,
   ⟨some 4,none,.mv (.t 26) none⟩])
  (.rt)))))) }
theorem ZdJ{P:Program}{fid fe:FuncId}{k:Nat}(hc:ZS P fid (Zpv k (some k) fe)=true){α:Type}(c:α->List Tr)(f:α->Int->Int)(hk:∀ x,(c x).length=k)(a:List α)(left:Int)(h:a.length<=9223372036854775807)(h0:0<=left)(h1:left<=1048576)
  (hf:∀ x∈a,∀ l:Int,0<=l->l<=1048576->f x l<=l/\∀ lvl S,Sem P fe lvl [.ag ((c x).map .tr),iI l] S (iI (f x l)) S) (lvl:Nat) (S:Sto) :
  Sem P fid lvl [.tr (.sl (a.map c)),iI left] S (iI (szL f a left)) S:=by
 refine Zb hc trivial ?_
 simp only[Zpv,List.length_map,EVA,seval]
 refine⟨by rw[Zd];omega,?_⟩
 unfold szL
 split
 ·rfl
 ·rename_i hlt
  generalize hr:szF f a (left-a.length)=total
  refine ZW (α:=Int) a.length (fun j l=>⟨lvl,[(0,.tr (.sl (a.map c))),(1,iI l),(5,iI j)],[],S⟩) (fun j l=>0<=l/\l<=1048576/\szF f (a.drop j) l=total) (left-a.length) ⟨by simp only[EVA,seval],by (simp only[EVA,seval]) <;> rfl⟩ ⟨by omega,by omega,hr⟩ ?_
  intro j l hj ⟨hl0,hl1,hl⟩
  simp only[List.length_map,EVA,seval]
  split
  ·rename_i hlt
   have hja:j<a.length:=by omega
   have ga:(a.map c)[j]? = some (c a[j]):=by simp [hja]
   have hkk:=hk a[j]
   have htk:(c a[j]).take k=c a[j]:=List.take_of_length_le (by omega)
   rw[List.drop_eq_getElem_cons hja] at hl
   obtain⟨hle,hsem⟩:=hf a[j] (List.getElem_mem hja) l hl0 hl1
   simp only[ga,hkk,htk,EVA,seval,Zl,men]
   refine Za hsem ?_
   simp only[EVA,seval]
   split
   ·rename_i hneg
    simp only[szF,if_pos hneg] at hl
    rw[hl]
   ·rename_i hneg
    simp only[szF,if_neg hneg] at hl
    refine⟨by rw[Zd];omega,Ze (f a[j] l) hja rfl ⟨by omega,by omega,hl⟩⟩
  ·rename_i hge
   have:j=a.length:=by omega
   subst this
   simp only[List.drop_length,szF] at hl
   rw[hl]
def ZtL:F2 :=
 { nt:=28,res:=[.t 4 [0]],body :=
  (.sq (.rg none [⟨some 4,none,.mv (.k (.int .i64 0)) none⟩])
  (.sq (.rg none [⟨some 6,none,.mv (.t 1) none⟩,
   ⟨some 7,none,.mv (.t 0) none⟩,
   ⟨some 8,none,.ln (.t 7)⟩,
   ⟨some 9,none,.bi .sub 0 (.t 6) (.t 8)⟩,
   ⟨some 1,none,.mv (.t 9) none⟩])
  (.sq (.sq (.rg none [⟨some 10,none,.mv (.t 1) none⟩,
    ⟨some 11,none,.bi .lss 0 (.t 10) (.k (.int .i64 0))⟩])
  (.cd (.t 11) (.sq (.rg none [⟨some 4,none,.mv (.k (.int .i64 (-1))) none⟩])
   (.rt))
  (.sk)))
  (.sq (.sq (.rg none [⟨some 5,none,.mv (.k (.int .i64 0)) none⟩])
  (.bl 0 (.lp [0,1,5] [] (.sq (.sq (.rg none [⟨some 12,none,.mv (.t 5) none⟩,
     ⟨some 13,none,.mv (.t 0) none⟩,
     ⟨some 14,none,.ln (.t 13)⟩,
     ⟨some 15,none,.bi .lss 0 (.t 12) (.t 14)⟩])
    (.cd (.t 15) (.sk)
    (.ex 0)))
   (.sq (.bl 1 (.sq (.rg none [⟨some 18,none,.mv (.t 1) none⟩,
      ⟨some 19,none,.mv (.t 0) none⟩,
      ⟨some 20,none,.mv (.t 5) none⟩,
      ⟨some 21,none,.ia 1 (.t 19) (.t 20)⟩,
      ⟨some 22,none,.ld none (.t 21)⟩,
      ⟨some 23,none,.lg (.t 22)⟩,
      ⟨some 24,none,.bi .sub 0 (.t 18) (.t 23)⟩,
      ⟨some 1,none,.mv (.t 24) none⟩])
    (.sq (.rg none [⟨some 25,none,.mv (.t 1) none⟩,
      ⟨some 26,none,.bi .lss 0 (.t 25) (.k (.int .i64 0))⟩])
    (.cd (.t 26) (.sq (.rg none [⟨some 4,none,.mv (.k (.int .i64 (-1))) none⟩])
     (.rt))
    (.sk)))))
   (.rg none [⟨some 16,none,.mv (.t 5) none⟩,
    ⟨some 17,none,.bi .add 0 (.t 16) (.k (.int .i64 1))⟩,
    ⟨some 5,none,.mv (.t 17) none⟩]))))))
  (.sq (.rg none [⟨some 27,none,.mv (.t 1) none⟩,
   ⟨some 4,none,.mv (.t 27) none⟩])
  (.rt)))))) }
theorem ZjQ{P:Program}{fid:FuncId}(hc:ZS P fid ZtL=true)(a:List ByteArray)(left:Int)(h:a.length<=9223372036854775807)(h0:0<=left)(h1:left<=1048576)
  (hf:∀ x∈a,x.size<=9223372036854775807) (lvl:Nat) (S:Sto) :
  Sem P fid lvl [tS a,iI left] S (iI (szL (fun x l=>l-x.size) a left)) S:=by
 refine Zb hc trivial ?_
 simp only[ZtL,List.length_map,EVA,seval]
 refine⟨by rw[Zd];omega,?_⟩
 unfold szL
 split
 ·rfl
 ·rename_i hlt
  generalize hr:szF (fun(x:ByteArray) l=>l-x.size) a (left-a.length)=total
  refine ZW (α:=Int) a.length (fun j l=>⟨lvl,[(0,tS a),(1,iI l),(5,iI j)],[],S⟩) (fun j l=>0<=l/\l<=1048576/\szF (fun(x:ByteArray) l=>l-x.size) (a.drop j) l=total) (left-a.length) ⟨by simp only[EVA,seval],by (simp only[EVA,seval]) <;> rfl⟩ ⟨by omega,by omega,hr⟩ ?_
  intro j l hj ⟨hl0,hl1,hl⟩
  simp only[List.length_map,EVA,seval]
  split
  ·rename_i hlt
   have hja:j<a.length:=by omega
   have ga:(rS a)[j]? = some [ts a[j]]:=by simp [hja]
   rw[List.drop_eq_getElem_cons hja] at hl
   have hs:=hf a[j] (List.getElem_mem hja)
   simp only[ga,EVA,seval]
   refine⟨by rw[Zd];omega,?_⟩
   split
   ·rename_i hneg
    simp only[szF,if_pos hneg] at hl
    rw[hl]
   ·rename_i hneg
    simp only[szF,if_neg hneg] at hl
    refine⟨by rw[Zd];omega,Ze (l-a[j].size) hja rfl ⟨by omega,by omega,hl⟩⟩
  ·rename_i hge
   have:j=a.length:=by omega
   subst this
   simp only[List.drop_length,szF] at hl
   rw[hl]
def Zpw(k:Nat)(m:Option Nat)(fid:FuncId):F2 :=
 { nt:=27,res:=[.t 4 [0]],body :=
  (.sq (.rg none [⟨some 4,none,.mv (.k (.bool false)) none⟩])
  (.sq (.sq (.rg none [⟨some 6,none,.mv (.t 0) none⟩,
    ⟨some 7,none,.ln (.t 6)⟩,
    ⟨some 8,none,.mv (.t 1) none⟩,
    ⟨some 9,none,.ln (.t 8)⟩,
    ⟨some 10,none,.bi .neq 0 (.t 7) (.t 9)⟩])
  (.cd (.t 10) (.sq (.rg none [⟨some 4,none,.mv (.k (.bool false)) none⟩])
   (.rt))
  (.sk)))
  (.sq (.sq (.rg none [⟨some 5,none,.mv (.k (.int .i64 0)) none⟩])
  (.bl 0 (.lp [0,1,5] [] (.sq (.sq (.rg none [⟨some 11,none,.mv (.t 5) none⟩,
     ⟨some 12,none,.mv (.t 0) none⟩,
     ⟨some 13,none,.ln (.t 12)⟩,
     ⟨some 14,none,.bi .lss 0 (.t 11) (.t 13)⟩])
    (.cd (.t 14) (.sk)
    (.ex 0)))
   (.sq (.bl 1 (.sq (.rg (some 0) [⟨some 17,none,.mv (.t 0) none⟩,
      ⟨some 18,none,.mv (.t 5) none⟩,
      ⟨some 19,none,.ia k (.t 17) (.t 18)⟩,
      ⟨some 20,none,.ld m (.t 19)⟩,
      ⟨some 21,none,.mv (.t 1) none⟩,
      ⟨some 22,none,.mv (.t 5) none⟩,
      ⟨some 23,none,.ia k (.t 21) (.t 22)⟩,
      ⟨some 24,none,.ld m (.t 23)⟩,
      ⟨some 25,none,.ca .pure false (.f fid) [.t 20,.t 24]⟩,
      ⟨some 26,none,.nt (.t 25)⟩])
    (.cd (.t 26) (.sq (.rg none [⟨some 4,none,.mv (.k (.bool false)) none⟩])
     (.rt))
    (.sk))))
   (.rg none [⟨some 15,none,.mv (.t 5) none⟩,
    ⟨some 16,none,.bi .add 0 (.t 15) (.k (.int .i64 1))⟩,
    ⟨some 5,none,.mv (.t 16) none⟩]))))))
  (.sq (.rg none [⟨some 4,none,.mv (.k (.bool true)) none⟩])
  (.rt))))) }
theorem UR{α:Type}{a b:List α}{j:Nat}(ha:j<a.length)(hb:j<b.length)(h:a[j]≠b[j]):a≠b:=by
 intro e;subst e;exact h rfl
theorem Ws{α:Type}{a b:List α}(hl:a.length=b.length)(h:a.take a.length=b.take a.length):a=b:=by
 rw[List.take_length,hl,List.take_length] at h;exact h
theorem Xs{α:Type}{a b:List α}{j:Nat}(ha:j<a.length)(hb:j<b.length)(h:a.take j=b.take j)(e:a[j]=b[j]):a.take (j+1)=b.take (j+1):=by
 rw[List.take_succ_eq_append_getElem ha,List.take_succ_eq_append_getElem hb,h,e]
theorem ZdK{P:Program}{fid fe:FuncId}{k:Nat}(hc:ZS P fid (Zpw k (some k) fe)=true){α:Type}[DecidableEq α](c:α->List Tr)(hk:∀ x,(c x).length=k)(a b:List α)(ha:a.length<=9223372036854775807)
  (hf:∀ x∈a,∀ y∈b,∀ lvl S,Sem P fe lvl [.ag ((c x).map .tr),.ag ((c y).map .tr)] S (iB (decide (x=y))) S) (lvl:Nat) (S:Sto) :
  Sem P fid lvl [.tr (.sl (a.map c)),.tr (.sl (b.map c))] S (iB (decide (a=b))) S:=by
 refine Zb hc trivial ?_
 simp only[Zpw,List.length_map,EVA,seval]
 split
 ·rename_i h
  have:¬ a=b:=fun e=>h (by rw[e])
  simp [this]
 ·rename_i h
  have hlen:a.length=b.length:=by omega
  refine ZW (α:=Unit) a.length (fun j _=>⟨lvl,[(0,.tr (.sl (a.map c))),(1,.tr (.sl (b.map c))),(5,iI j)],[],S⟩) (fun j _=>a.take j=b.take j) () ⟨by simp only[EVA,seval],by (simp only[EVA,seval]) <;> rfl⟩ rfl ?_
  intro j _ hj hA
  simp only[List.length_map,EVA,seval]
  split
  ·rename_i hlt
   have hja:j<a.length:=by omega
   have hjb:j<b.length:=by omega
   have ga:(a.map c)[j]? = some (c a[j]):=by simp [hja]
   have gb:(b.map c)[j]? = some (c b[j]):=by simp [hjb]
   have hka:=hk a[j]
   have hkb:=hk b[j]
   have hta:(c a[j]).take k=c a[j]:=List.take_of_length_le (by omega)
   have htb:(c b[j]).take k=c b[j]:=List.take_of_length_le (by omega)
   have hsem:=hf a[j] (List.getElem_mem hja) b[j] (List.getElem_mem hjb)
   simp only[ga,gb,hka,hkb,hta,htb,EVA,seval,Zl,men]
   refine Za hsem ?_
   simp only[Bool.not_eq_true',EVA,seval]
   split
   ·rename_i hne
    have:¬ a=b:=UR hja hjb (by simpa using hne)
    simp [this]
   ·rename_i he
    refine⟨by rw[Zd];omega,Ze () hja rfl (Xs hja hjb hA (by simpa using he))⟩
  ·rename_i hge
   have:j=a.length:=by omega
   subst this
   have:a=b:=Ws hlen hA
   simp [this]
def ZmS:F2 :=
 { nt:=26,res:=[.t 4 [0]],body :=
  (.sq (.rg none [⟨some 4,none,.mv (.k (.bool false)) none⟩])
  (.sq (.sq (.rg none [⟨some 6,none,.mv (.t 0) none⟩,
    ⟨some 7,none,.ln (.t 6)⟩,
    ⟨some 8,none,.mv (.t 1) none⟩,
    ⟨some 9,none,.ln (.t 8)⟩,
    ⟨some 10,none,.bi .neq 0 (.t 7) (.t 9)⟩])
  (.cd (.t 10) (.sq (.rg none [⟨some 4,none,.mv (.k (.bool false)) none⟩])
   (.rt))
  (.sk)))
  (.sq (.sq (.rg none [⟨some 5,none,.mv (.k (.int .i64 0)) none⟩])
  (.bl 0 (.lp [0,1,5] [] (.sq (.sq (.rg none [⟨some 11,none,.mv (.t 5) none⟩,
     ⟨some 12,none,.mv (.t 0) none⟩,
     ⟨some 13,none,.ln (.t 12)⟩,
     ⟨some 14,none,.bi .lss 0 (.t 11) (.t 13)⟩])
    (.cd (.t 14) (.sk)
    (.ex 0)))
   (.sq (.bl 1 (.sq (.rg (some 0) [⟨some 17,none,.mv (.t 0) none⟩,
      ⟨some 18,none,.mv (.t 5) none⟩,
      ⟨some 19,none,.ia 1 (.t 17) (.t 18)⟩,
      ⟨some 20,none,.ld none (.t 19)⟩,
      ⟨some 21,none,.mv (.t 1) none⟩,
      ⟨some 22,none,.mv (.t 5) none⟩,
      ⟨some 23,none,.ia 1 (.t 21) (.t 22)⟩,
      ⟨some 24,none,.ld none (.t 23)⟩,
      ⟨some 25,none,.bi .neq 0 (.t 20) (.t 24)⟩])
    (.cd (.t 25) (.sq (.rg none [⟨some 4,none,.mv (.k (.bool false)) none⟩])
     (.rt))
    (.sk))))
   (.rg none [⟨some 15,none,.mv (.t 5) none⟩,
    ⟨some 16,none,.bi .add 0 (.t 15) (.k (.int .i64 1))⟩,
    ⟨some 5,none,.mv (.t 16) none⟩]))))))
  (.sq (.rg none [⟨some 4,none,.mv (.k (.bool true)) none⟩])
  (.rt))))) }
theorem Zmg{P:Program}{fid:FuncId}(hc:ZS P fid ZmS=true)(a b:List Int)(ha:a.length<=9223372036854775807)(lvl:Nat)(S:Sto):Sem P fid lvl [tI a,tI b] S (iB (decide (a=b))) S:=by
 refine Zb hc trivial ?_
 simp only[ZmS,List.length_map,EVA,seval]
 split
 ·rename_i h
  have:¬ a=b:=fun e=>h (by rw[e])
  simp [this]
 ·rename_i h
  have hlen:a.length=b.length:=by omega
  refine ZW (α:=Unit) a.length (fun j _=>⟨lvl,[(0,tI a),(1,tI b),(5,iI j)],[],S⟩) (fun j _=>a.take j=b.take j) () ⟨by simp only[EVA,seval],by (simp only[EVA,seval]) <;> rfl⟩ rfl ?_
  intro j _ hj hA
  simp only[List.length_map,EVA,seval]
  split
  ·rename_i hlt
   have hja:j<a.length:=by omega
   have hjb:j<b.length:=by omega
   have ga:(rI a)[j]? = some [tv a[j]]:=by simp [hja]
   have gb:(rI b)[j]? = some [tv b[j]]:=by simp [hjb]
   simp only[ga,gb,EVA,seval]
   split
   ·rename_i hne
    have:¬ a=b:=UR hja hjb (by simpa using hne)
    simp [this]
   ·rename_i he
    refine⟨by rw[Zd];omega,Ze () hja rfl (Xs hja hjb hA (by simpa using he))⟩
  ·rename_i hge
   have:j=a.length:=by omega
   subst this
   have:a=b:=Ws hlen hA
   simp [this]
theorem Zmh{P:Program}{fid:FuncId}(hc:ZS P fid ZmS=true)(a b:List ByteArray)(ha:a.length<=9223372036854775807)(lvl:Nat)(S:Sto):Sem P fid lvl [tS a,tS b] S (iB (decide (a=b))) S:=by
 refine Zb hc trivial ?_
 simp only[ZmS,List.length_map,EVA,seval]
 split
 ·rename_i h
  have:¬ a=b:=fun e=>h (by rw[e])
  simp [this]
 ·rename_i h
  have hlen:a.length=b.length:=by omega
  refine ZW (α:=Unit) a.length (fun j _=>⟨lvl,[(0,tS a),(1,tS b),(5,iI j)],[],S⟩) (fun j _=>a.take j=b.take j) () ⟨by simp only[EVA,seval],by (simp only[EVA,seval]) <;> rfl⟩ rfl ?_
  intro j _ hj hA
  simp only[List.length_map,EVA,seval]
  split
  ·rename_i hlt
   have hja:j<a.length:=by omega
   have hjb:j<b.length:=by omega
   have ga:(rS a)[j]? = some [ts a[j]]:=by simp [hja]
   have gb:(rS b)[j]? = some [ts b[j]]:=by simp [hjb]
   simp only[ga,gb,EVA,seval]
   split
   ·rename_i hne
    have:¬ a=b:=UR hja hjb (by simpa using hne)
    simp [this]
   ·rename_i he
    refine⟨by rw[Zd];omega,Ze () hja rfl (Xs hja hjb hA (by simpa using he))⟩
  ·rename_i hge
   have:j=a.length:=by omega
   subst this
   have:a=b:=Ws hlen hA
   simp [this]
def Yh{α:Type}(c:α->List Tr)(z:List Tr)(a:List α)(j:Nat):Row:=(a.take j).map c++List.replicate (a.length-j) z
theorem Q1{α:Type}(c:α->List Tr)(z:List Tr)(a:List α):Yh c z a 0=List.replicate a.length z:=by simp [Yh]
theorem XZ{α:Type}(c:α->List Tr)(z:List Tr)(a:List α):Yh c z a a.length=a.map c:=by simp [Yh]
theorem Wt{α:Type}{c:α->List Tr}{z:List Tr}{a:List α}{j:Nat}(h:j<=a.length):(Yh c z a j).length=a.length:=by
 simp [Yh];omega
theorem X0{α:Type}{c:α->List Tr}{z:List Tr}{a:List α}{j:Nat}(h:j<a.length):(Yh c z a j)[j]? = some z:=by
 unfold Yh
 have h1:((a.take j).map c).length=j:=by rw[List.length_map,List.length_take];omega
 rw[List.getElem?_append_right (by omega),h1,Nat.sub_self,List.getElem?_replicate]
 rw[if_pos (by omega)]
theorem X1{α:Type}{c:α->List Tr}{z e:List Tr}{a:List α}{j:Nat}(h:j<a.length)(he:e=c a[j]):(Yh c z a j).set j e=Yh c z a (j+1):=by
 subst he
 unfold Yh
 have h1:((a.take j).map c).length=j:=by simp;omega
 rw[List.set_append_right _ _ (by omega),h1,Nat.sub_self,show a.length-j=(a.length-(j+1))+1 from by omega,List.replicate_succ,List.set_cons_zero,List.take_succ_eq_append_getElem h,List.map_append]
 simp
def ZmT(z:Value):F2 :=
 { nt:=22,res:=[.t 2 [2]],body :=
  (.sq (.rg none [⟨some 2,none,.mv (.k (.slice none 0 0)) none⟩])
  (.sq (.rg none [⟨some 5,none,.mv (.t 0) none⟩,
   ⟨some 6,none,.ln (.t 5)⟩,
   ⟨some 7,none,.ms 1 [z] (.t 6)⟩,
   ⟨some 3,none,.mv (.t 7) none⟩])
  (.sq (.sq (.rg none [⟨some 4,none,.mv (.k (.int .i64 0)) none⟩])
  (.bl 0 (.lp [0,3,4] [224] (.sq (.sq (.rg none [⟨some 8,none,.mv (.t 4) none⟩,
     ⟨some 9,none,.mv (.t 0) none⟩,
     ⟨some 10,none,.ln (.t 9)⟩,
     ⟨some 11,none,.bi .lss 0 (.t 8) (.t 10)⟩])
    (.cd (.t 11) (.sk)
    (.ex 0)))
   (.sq (.bl 1 (.rg none [⟨some 14,none,.mv (.t 3) none⟩,
     ⟨some 15,none,.mv (.t 4) none⟩,
     ⟨some 16,none,.mv (.t 0) none⟩,
     ⟨some 17,none,.mv (.t 4) none⟩,
     ⟨some 18,none,.ia 1 (.t 16) (.t 17)⟩,
     ⟨some 19,none,.ld none (.t 18)⟩,
     ⟨some 20,none,.ia 1 (.t 14) (.t 15)⟩,
     ⟨none,none,.st 1 (.t 20) (.t 19)⟩]))
   (.rg none [⟨some 12,none,.mv (.t 4) none⟩,
    ⟨some 13,none,.bi .add 0 (.t 12) (.k (.int .i64 1))⟩,
    ⟨some 4,none,.mv (.t 13) none⟩]))))))
  (.sq (.rg none [⟨some 21,none,.mv (.t 3) none⟩,
   ⟨some 2,none,.mv (.t 21) none⟩])
  (.rt))))) }
theorem Zmi{P:Program}{fid:FuncId}(hc:ZS P fid (ZmT (.int .i64 0))=true)(a:List Int)(ha:a.length<=4294967296)(lvl:Nat)(S:Sto):Sem P fid lvl [tI a] S (.ow 1 (rI a) true) S:=by
 refine Zb hc trivial ?_
 simp only[ZmT,List.length_map,bigN,EVA,seval]
 refine⟨by omega,?_⟩
 refine ZW (α:=Unit) a.length (fun j _=>⟨lvl,[(0,tI a),(3,.hd (lvl,224) [] 0 a.length none a.length),(4,iI j)],[(224,.ar 1 (Yh (fun n=>[tv n]) [tv 0] a j) true a.length 0)],S⟩) (fun _ _=>True) () ⟨by simp only[EVA,seval],by (simp only[Q1,EVA,seval]) <;> rfl⟩ trivial ?_
 intro j _ hj _
 simp only[List.length_map,EVA,seval]
 split
 ·rename_i hlt
  have hja:j<a.length:=by omega
  have ga:(rI a)[j]? = some [tv a[j]]:=by simp [hja]
  have gz:(Yh (fun n=>[tv n]) [tv 0] a j)[j]? = some [tv 0]:=X0 hja
  simp only[ga,gz,hja,YG,List.set_cons_zero,Uj,EVA,seval]
  refine⟨by rw[Zd];omega,Ze () hja ?_ trivial⟩
  rw[X1 hja rfl]
  rfl
 ·rename_i hge
  have:j=a.length:=by omega
  subst this
  rw[XZ]
  simp
theorem Zmj{P:Program}{fid:FuncId}(hc:ZS P fid (ZmT (.string ⟨#[]⟩))=true)(a:List ByteArray)(ha:a.length<=4294967296)(lvl:Nat)(S:Sto):Sem P fid lvl [tS a] S (.ow 1 (rS a) true) S:=by
 refine Zb hc trivial ?_
 simp only[ZmT,List.length_map,bigN,EVA,seval]
 refine⟨by omega,?_⟩
 refine ZW (α:=Unit) a.length (fun j _=>⟨lvl,[(0,tS a),(3,.hd (lvl,224) [] 0 a.length none a.length),(4,iI j)],[(224,.ar 1 (Yh (fun n=>[ts n]) [ts ⟨#[]⟩] a j) true a.length 0)],S⟩) (fun _ _=>True) () ⟨by simp only[EVA,seval],by (simp only[Q1,EVA,seval]) <;> rfl⟩ trivial ?_
 intro j _ hj _
 simp only[List.length_map,EVA,seval]
 split
 ·rename_i hlt
  have hja:j<a.length:=by omega
  have ga:(rS a)[j]? = some [ts a[j]]:=by simp [hja]
  have gz:(Yh (fun n=>[ts n]) [ts ⟨#[]⟩] a j)[j]? = some [ts ⟨#[]⟩]:=X0 hja
  simp only[ga,gz,hja,YG,List.set_cons_zero,Uj,EVA,seval]
  refine⟨by rw[Zd];omega,Ze () hja ?_ trivial⟩
  rw[X1 hja rfl]
  rfl
 ·rename_i hge
  have:j=a.length:=by omega
  subst this
  rw[XZ]
  simp
end Go.Fd

/-
  THE LAWS' HELPERS AT SLICES WHOSE ELEMENTS ARE ONE CELL. Own work.
-/
namespace Go.Fd
set_option maxRecDepth 10000
end Go.Fd

/-
  FOUNDATION 49: rows at a path; functions that mark what they are handed. Own work.
-/
namespace Go.Fd
def Wc:Row->Pth->Row->Row
 | _,[],r=>r
 | es,(a,b)::p,r =>
  match es[a]? with
  | some e =>
   match e[b]? with
   | some (.sl es')=>es.set a (e.set b (.sl (Wc es' p r)))
   | _=>es
  | none=>es
theorem ZaG{es es':Row}{a b:Nat}{p:Pth}{e:List Tr}(h1:es[a]? = some e)(h2:e[b]? = some (.sl es')):getp es ((a,b)::p)=getp es' p:=by
 simp only[getp,h1,h2]
theorem YS{es es':Row}{a b:Nat}{p:Pth}{e:List Tr}{r:Row}(h1:es[a]? = some e)(h2:e[b]? = some (.sl es')):Wc es ((a,b)::p) r=es.set a (e.set b (.sl (Wc es' p r))):=by
 simp only[Wc,h1,h2]
theorem Zhc{es es':Row}{a b i f:Nat}{p:Pth}{e:List Tr}{t:Tr}(h1:es[a]? = some e)(h2:e[b]? = some (.sl es')):YG es ((a,b)::p) i f t=es.set a (e.set b (.sl (YG es' p i f t))):=by
 simp only[YG,h1,h2]
theorem US{es r0:Row}{a b:Nat}{p:Pth}(h:getp es ((a,b)::p)=some r0):∃ e es',es[a]? = some e/\e[b]? = some (.sl es')/\getp es' p=some r0:=by
 simp only[getp] at h
 cases h1:es[a]? with
 | none=>rw[h1] at h;cases h
 | some e =>
  rw[h1] at h
  cases h2:e[b]? with
  | none=>simp only[h2] at h;cases h
  | some t =>
   simp only[h2] at h
   cases t with
   | v x=>cases h
   | sl es' => exact⟨e,es',rfl,h2,h⟩
theorem UT{α:Type}{l:List α}{a:Nat}{x y:α}(h:l[a]? = some x):(l.set a y)[a]? = some y:=by
 rw[List.getElem?_set_self];exact(List.getElem?_eq_some_iff.1 h).1
theorem Q3{r:Row}:∀{p:Pth} {es r0:Row},getp es p=some r0->getp (Wc es p r) p=some r
 | [],_,_,_=>rfl
 | (a,b)::p,es,r0,h=>by
  obtain⟨e,es',h1,h2,h3⟩:=US h
  rw[YS h1 h2,ZaG (UT h1) (UT h2)]
  exact Q3 h3
theorem ZeV{r s:Row}:∀{p:Pth} {es r0:Row},getp es p=some r0->Wc (Wc es p r) p s=Wc es p s
 | [],_,_,_=>rfl
 | (a,b)::p,es,r0,h=>by
  obtain⟨e,es',h1,h2,h3⟩:=US h
  rw[YS h1 h2,YS h1 h2,YS (UT h1) (UT h2),ZeV h3,List.set_set,List.set_set]
theorem ZeW{r:Row}{i f:Nat}{t:Tr}{e0:List Tr}(hi:r[i]? = some e0):∀{p:Pth} {es r0:Row},getp es p=some r0->YG (Wc es p r) p i f t=Wc es p (r.set i (e0.set f t))
 | [],es,_,_=>by simp only[Wc,YG,hi]
 | (a,b)::p,es,r0,h=>by
  obtain⟨e,es',h1,h2,h3⟩:=US h
  rw[YS h1 h2,YS h1 h2,Zhc (UT h1) (UT h2),ZeW hi h3,List.set_set,List.set_set]
theorem ZeX{q:Pth}:∀{p:Pth} {es r0:Row},getp es p=some r0->getp es (p++q)=getp r0 q
 | [],es,r0,h=>by simp only[getp,Option.some.injEq] at h;subst h;rfl
 | (a,b)::p,es,r0,h=>by
  obtain⟨e,es',h1,h2,h3⟩:=US h
  rw[List.cons_append,ZaG h1 h2]
  exact ZeX h3
theorem ZgM{q:Pth}{z:Row}:∀{p:Pth} {es r0:Row},getp es p=some r0->Wc es (p++q) z=Wc es p (Wc r0 q z)
 | [],es,r0,h=>by simp only[getp,Option.some.injEq] at h;subst h;rfl
 | (a,b)::p,es,r0,h=>by
  obtain⟨e,es',h1,h2,h3⟩:=US h
  rw[List.cons_append,YS h1 h2,YS h1 h2,ZgM h3]
theorem ZdL{α:Type}{l:List α}{a:Nat}{x:α}(h:l[a]? = some x):l.set a x=l:=by
 obtain⟨h1,h2⟩:=List.getElem?_eq_some_iff.1 h
 rw[<-h2,List.set_getElem_self]
theorem ZeY:∀{p:Pth} {es r:Row},getp es p=some r->Wc es p r=es
 | [],es,r,h=>by simp only[getp,Option.some.injEq] at h;subst h;rfl
 | (a,b)::p,es,r,h=>by
  obtain⟨e,es',h1,h2,h3⟩:=US h
  rw[YS h1 h2,ZeY h3,ZdL h2,ZdL h1]
theorem Vj{S:Sto}{id:Oid}{a b:Ob}:ZF (ZF S id a) id b=ZF S id b:=by
 funext i
 unfold ZF
 split <;> rfl
theorem X2{S:Sto}{id:Oid}{a:Ob}(h:S id=some a):ZF S id a=S:=by
 funext i
 unfold ZF
 split
 ·rename_i e;rw[e,h]
 ·rfl
theorem X3{lvl:Nat}{loc:List (Nat×Ob)}{S:Sto}{id:Oid}{o:Ob}(h:id.1≠lvl):Zu lvl loc (ZF S id o)=ZF (Zu lvl loc S) id o:=by
 funext i
 by_cases e:i=id
 ·subst e
  rw[Jd h]
  unfold ZF
  rw[if_pos rfl,if_pos rfl]
 ·unfold ZF Zu
  simp only[if_neg e]
section mark
variable {α:Type} (m:α->Int->α) (n:α->Nat)
def mL:List α->Int->List α
 | [],_=>[]
 | x::r,k=>m x k::mL r (k+n x)
def nL:List α->Nat
 | []=>0
 | x::r=>n x+nL r
theorem Qe:∀(a:List α) (k:Int),(mL m n a k).length=a.length
 | [],_=>rfl
 | x::r,k=>by simp only[mL,List.length_cons,Qe r]
theorem ZbW:∀(a b:List α),nL n (a++b)=nL n a+nL n b
 | [],b=>by simp [nL]
 | x::r,b=>by simp only[List.cons_append,nL,ZbW r b];omega
theorem ZeZ:∀(a b:List α) (k:Int),mL m n (a++b) k=mL m n a k++mL m n b (k+nL n a)
 | [],b,k=>by simp [mL,nL]
 | x::r,b,k=>by
  simp only[List.cons_append,mL,nL,ZeZ r b]
  rw[show k+(n x:Int)+(nL n r:Int)=k+((n x+nL n r:Nat):Int) from by omega]
def kJ(a:List α)(k:Int)(j:Nat):Int:=k+nL n (a.take j)
def lJ(a:List α)(k:Int)(j:Nat):List α:=mL m n (a.take j) k++a.drop j
theorem ZaH{a:List α}{k:Int}:kJ n a k 0=k:=by simp [kJ,nL]
theorem ZbX{a:List α}{k:Int}:lJ m n a k 0=a:=by simp [lJ,mL]
theorem ZcV{a:List α}{k:Int}:kJ n a k a.length=k+nL n a:=by simp [kJ]
theorem Ze0{a:List α}{k:Int}:lJ m n a k a.length=mL m n a k:=by simp [lJ]
theorem Qo{a:List α}{k:Int}{j:Nat}(h:j<a.length):kJ n a k (j+1)=kJ n a k j+n a[j]:=by
 unfold kJ
 rw[List.take_succ_eq_append_getElem h,ZbW]
 simp only[nL]
 omega
theorem Zhd{a:List α}{k:Int}{j:Nat}:kJ n a k j<=k+nL n a:=by
 have:nL n a=nL n (a.take j)+nL n (a.drop j):=by rw[<-ZbW,List.take_append_drop]
 unfold kJ
 omega
theorem Zhe{a:List α}{k:Int}{j:Nat}:k<=kJ n a k j:=by unfold kJ;omega
theorem Zpx{a:List α}{k:Int}{j:Nat}:(lJ m n a k j).length=a.length:=by
 unfold lJ
 rw[List.length_append,Qe,List.length_take,List.length_drop]
 omega
theorem Zpy{a:List α}{k:Int}{j:Nat}(h:j<a.length):(lJ m n a k j)[j]? = some a[j]:=by
 unfold lJ
 have h1:(mL m n (a.take j) k).length=j:=by rw[Qe,List.length_take];omega
 rw[List.getElem?_append_right (by omega),h1,Nat.sub_self,List.getElem?_drop,Nat.add_zero,List.getElem?_eq_getElem h]
theorem Zpz{a:List α}{k:Int}{j:Nat}(h:j<a.length):(lJ m n a k j).set j (m a[j] (kJ n a k j))=lJ m n a k (j+1):=by
 unfold lJ
 have h1:(mL m n (a.take j) k).length=j:=by rw[Qe,List.length_take];omega
 rw[List.set_append_right _ _ (by omega),h1,Nat.sub_self,List.drop_eq_getElem_cons h,List.set_cons_zero,List.take_succ_eq_append_getElem h,ZeZ]
 simp only[mL,kJ,List.append_assoc,List.cons_append,List.nil_append]
theorem Ze1(c:α->List Tr){a:List α}{k:Int}{j:Nat}(h:j<a.length):∃ R:Row,j<R.length/\(lJ m n a k j).map c=R.set j (c a[j])/\(lJ m n a k (j+1)).map c=R.set j (c (m a[j] (kJ n a k j))):=by
 refine⟨(lJ m n a k j).map c,by rw[List.length_map,Zpx];exact h,?_,?_⟩
 ·refine(ZdL ?_).symm
  rw[List.getElem?_map,Zpy m n h];rfl
 ·rw[<-Zpz m n h,List.map_set]
end mark
theorem Wu{R:Row}{j:Nat}(h:j<R.length)(e:List Tr):(R.set j e)[j]? = some e:=List.getElem?_set_self h
theorem UU{es r0:Row}{p:Pth}{R:Row}{j:Nat}(hv:getp es p=some r0)(h:j<R.length)(e:List Tr)(f:Nat)(t:Tr):YG (Wc es p (R.set j e)) p j f t=Wc es p (R.set j (e.set f t)):=by
 rw[ZeW (Wu h e) hv,List.set_set]
def MarkS(P:Program)(fid:FuncId){α:Type}(c:α->List Tr)(m:α->Int->α)(n:α->Nat)(B:α->Prop):Prop :=
 ∀(a:List α) (k:Int) (lvl:Nat) (S:Sto) (id:Oid) (p:Pth) (es r0:Row) (kk hw ver st:Nat) (cap:Option Nat),id.1<lvl->getp es p=some r0->VY p st hw ver true->0<=k->k+nL n a<=4611686018427387904 ->
  a.length<=4294967296->(∀ x∈a,B x)->Sem P fid lvl [.hd id p 0 a.length cap st,iI k] (ZF S id (.ar kk (Wc es p (a.map c)) true hw ver)) (iI (k+nL n a)) (ZF S id (.ar kk (Wc es p ((mL m n a k).map c)) true hw ver))
theorem MarkS.nested{P:Program}{fid:FuncId}{α:Type}{c:α->List Tr}{m:α->Int->α}{n:α->Nat}{B:α->Prop}(hm:MarkS P fid c m n B){a:List α}{k:Int}{lvl:Nat}{S:Sto}{id:Oid}{p:Pth}{es r0:Row}{kk hw ver j f:Nat}{R:Row}{e:List Tr}
  (hid:id.1<lvl) (hv:getp es p=some r0) (h0:0<=k) (h1:k+nL n a<=4611686018427387904) (hl:a.length<=4294967296) (hB:∀ x∈a,B x) (hj:j<R.length) (he:e[f]? = some (.sl (a.map c))) :
  Sem P fid lvl [.hd id (p++[(j,f)]) 0 a.length none ver,iI k] (ZF S id (.ar kk (Wc es p (R.set j e)) true hw ver)) (iI (k+nL n a)) (ZF S id (.ar kk (Wc es p (R.set j (e.set f (.sl ((mL m n a k).map c))))) true hw ver)):=by
 have hR:(R.set j e)[j]? = some e:=by rw[List.getElem?_set_self hj]
 have g1:getp (Wc es p (R.set j e)) p=some (R.set j e):=Q3 hv
 have g2:getp (Wc es p (R.set j e)) (p++[(j,f)])=some (a.map c):=by
  rw[ZeX g1,ZaG hR he];rfl
 have:=hm a k lvl S id (p++[(j,f)]) (Wc es p (R.set j e)) _ kk hw ver ver none hid g2 (by cases p <;> exact⟨rfl,rfl⟩) h0 h1 hl hB
 rw[ZeY g2,ZgM g1,ZeV hv,YS hR he] at this
 simp only[Wc,List.set_set] at this
 exact this
theorem ZjR{P:Program}{fid:FuncId}{α:Type}{c:α->List Tr}{m:α->Int->α}{n:α->Nat}{B:α->Prop}(hm:MarkS P fid c m n B){a:List α}{k:Int}{lvl len:Nat}{S:Sto}{id:Oid}{p:Pth}{es r0:Row}{kk hw ver j f:Nat}{R:Row}{e:List Tr}{env:List (Nat×IV)}{loc:List (Nat×Ob)}{d:Option Nat}{K:St->Prop}
  (hid:id.1<lvl) (hv:getp es p=some r0) (h0:0<=k) (h1:k+nL n a<=4611686018427387904) (hl:a.length<=4294967296) (hB:∀ x∈a,B x) (hj:j<R.length) (he:e[f]? = some (.sl (a.map c))) (hlen:len=a.length)
  (hk:K ⟨lvl,ptd d (iI (k+nL n a)) env,loc,ZF S id (.ar kk (Wc es p (R.set j (e.set f (.sl ((mL m n a k).map c))))) true hw ver)⟩) :
  kcy (Sem P) fid true lvl env loc (ZF S id (.ar kk (Wc es p (R.set j e)) true hw ver)) d K [.hd id (p++[(j,f)]) 0 len none ver,iI k]:=by
 subst hlen
 have hne:id.1≠lvl:=by omega
 refine Vv (r:=iI (k+nL n a)) loc (ZF S id (.ar kk (Wc es p (R.set j (e.set f (.sl ((mL m n a k).map c))))) true hw ver)) ?_ ?_ ⟨?_,hk⟩
 ·intro i hi
  have:i≠id:=fun e=>hne (by rw[<-e];exact hi)
  unfold ZF
  rw[if_neg this,if_neg this]
 ·rw[X3 hne,X3 hne]
  exact hm.nested (Nat.lt_succ_of_lt hid) hv h0 h1 hl hB hj he
 ·trivial
theorem Q4{lvl key:Nat}{loc:List (Nat×Ob)}{out:Sto}{o:Ob}:Zu lvl (ptO key o loc) out=ZF (Zu lvl loc out) (lvl,key) o:=by
 funext i
 unfold Zu ZF
 by_cases h:i.1=lvl
 ·rw[if_pos h,ZbC]
  by_cases h2:i.2=key
  ·have:i=(lvl,key):=by obtain⟨a,b⟩:=i;simp only at h h2;rw[h,h2]
   rw[if_pos h2,if_pos this]
  ·have:¬ i=(lvl,key):=fun e=>h2 (by rw[e])
   rw[if_neg h2,if_neg this]
   exact(if_pos h).symm
 ·have:¬ i=(lvl,key):=fun e=>h (by rw[e])
  rw[if_neg h,if_neg this]
  exact(if_neg h).symm
theorem DM{P:Program}{fid:FuncId}{α:Type}{c:α->List Tr}{m:α->Int->α}{n:α->Nat}{B:α->Prop}(hm:MarkS P fid c m n B){a:List α}{k:Int}{lvl:Nat}{out:Sto}{id:Oid}{kk hw ver:Nat}{cap:Option Nat}{env:List (Nat×IV)}{loc:List (Nat×Ob)}{d:Option Nat}{K:St->Prop}
  (hid:id.1<lvl) (hS:out id=some (.ar kk (a.map c) true hw ver)) (h0:0<=k) (h1:k+nL n a<=4611686018427387904) (hl:a.length<=4294967296) (hB:∀ x∈a,B x)
  (hk:K ⟨lvl,ptd d (iI (k+nL n a)) env,loc,ZF out id (.ar kk ((mL m n a k).map c) true hw ver)⟩) :
  kcy (Sem P) fid true lvl env loc out d K [.hd id [] 0 a.length cap hw,iI k]:=by
 have hne:id.1≠lvl:=by omega
 refine Vv (r:=iI (k+nL n a)) loc (ZF out id (.ar kk ((mL m n a k).map c) true hw ver)) ?_ ?_ ⟨?_,hk⟩
 ·intro i hi
  have:i≠id:=fun e=>hne (by rw[<-e];exact hi)
  unfold ZF
  rw[if_neg this]
 ·rw[X3 hne]
  have e:Zu lvl loc out=ZF (Zu lvl loc out) id (.ar kk (Wc (a.map c) [] (a.map c)) true hw ver):=(X2 (by rw[Jd hne];exact hS)).symm
  have:=hm a k (lvl+1) (Zu lvl loc out) id [] (a.map c) (a.map c) kk hw ver hw cap (Nat.lt_succ_of_lt hid) rfl rfl h0 h1 hl hB
  rw[<-e] at this
  exact this
 ·trivial
theorem ZbY{P:Program}{fid:FuncId}{α:Type}{c:α->List Tr}{m:α->Int->α}{n:α->Nat}{B:α->Prop}(hm:MarkS P fid c m n B){a:List α}{k:Int}{lvl key:Nat}{out:Sto}{kk hw ver:Nat}{cap:Option Nat}{env:List (Nat×IV)}{loc:List (Nat×Ob)}{d:Option Nat}{K:St->Prop}
  (hS:lkO key loc=some (.ar kk (a.map c) true hw ver)) (h0:0<=k) (h1:k+nL n a<=4611686018427387904) (hl:a.length<=4294967296) (hB:∀ x∈a,B x)
  (hk:K ⟨lvl,ptd d (iI (k+nL n a)) env,ptO key (.ar kk ((mL m n a k).map c) true hw ver) loc,out⟩) :
  kcy (Sem P) fid true lvl env loc out d K [.hd (lvl,key) [] 0 a.length cap hw,iI k]:=by
 refine Vv (r:=iI (k+nL n a)) (ptO key (.ar kk ((mL m n a k).map c) true hw ver) loc) out (fun _ _=>rfl) ?_ ⟨?_,hk⟩
 ·rw[Q4]
  have e:Zu lvl loc out=ZF (Zu lvl loc out) (lvl,key) (.ar kk (Wc (a.map c) [] (a.map c)) true hw ver):=(X2 (by unfold Zu;rw[if_pos rfl];exact hS)).symm
  have:=hm a k (lvl+1) (Zu lvl loc out) (lvl,key) [] (a.map c) (a.map c) kk hw ver hw cap (Nat.lt_succ_self _) rfl rfl h0 h1 hl hB
  rw[<-e] at this
  exact this
 ·trivial
end Go.Fd

/-
  HOW MANY MARKS A THING TAKES, AGAINST ITS SIZE. Own work.
-/
namespace Go.Fd
def DN(l:Int)(g:Int->Int):Int:=if l<0 then -1 else g l
def Zq(c:Int)(s:Int->Int)(q:Nat):Prop:=∀ l:Int,0<=l->l<=1048576->s l<=l/\(0<=s l->(q:Int)<=c+256*(l-s l))
theorem ZjS:Zq 0 (fun l=>l) 0:=fun l _ _=>⟨Int.le_refl _,fun _=>by simp only;omega⟩
theorem ZfV{c e:Int}{s g:Int->Int}{q r:Nat}(hc:0<=c)(he:0<=e)(hs:Zq c s q)(hg:Zq e g r):Zq (c+e) (fun l=>DN (s l) g) (q+r):=fun l h0 h1=>by
 have a:=hs l h0 h1
 by_cases h:s l<0
 ·simp only[DN,if_pos h]
  exact⟨by omega,fun h=>by omega⟩
 ·simp only[DN,if_neg h]
  have b:=hg (s l) (by omega) (by omega)
  refine⟨by omega,fun h2=>?_⟩
  have:=a.2 (by omega)
  have:=b.2 h2
  omega
theorem Zum{α:Type}(n:α->Nat)(hn:∀ x,n x<=256)(a:List α):Zq 0 (fun l=>szN a.length l) (nL n a):=fun l h0 h1=>by
 have hh:∀ b:List α,nL n b<=256*b.length:=fun b=>by
  induction b with
  | nil=>exact Nat.le_refl 0
  | cons x r ih=>simp only[nL,List.length_cons];have:=hn x;omega
 have:=hh a
 simp only[szN]
 split
 ·exact⟨by omega,fun h=>by omega⟩
 ·exact⟨by omega,fun h=>by omega⟩
theorem ZkM(n:Nat):Zq 0 (fun l=>l-n) 0:=fun l h0 h1=>⟨by simp only;omega,fun h=>by simp only at h ⊢;omega⟩
theorem Zmk(n:Nat):Zq 256 (fun l=>l-n) 1:=fun l h0 h1=>⟨by simp only;omega,fun h=>by simp only at h ⊢;omega⟩
theorem Zun{α:Type}{f:α->Int->Int}{n:α->Nat}(hf:∀ x,Zq 256 (f x) (n x)):∀(a:List α),Zq (256*a.length) (fun l=>szF f a l) (nL n a)
 | []=>fun l _ _=>⟨Int.le_refl l,fun _=>by simp only[szF,nL,List.length_nil];omega⟩
 | x::r=>fun l h0 h1=>by
  simp only[szF,nL,List.length_cons]
  have a:=hf x l h0 h1
  split
  ·exact⟨by omega,fun h=>by omega⟩
  ·have b:=Zun hf r (f x l) (by omega) (by omega)
   simp only at b
   refine⟨by omega,fun h=>?_⟩
   have:=a.2 (by omega)
   have:=b.2 h
   omega
theorem Zp7{α:Type}{f:α->Int->Int}{n:α->Nat}(hf:∀ x,Zq 256 (f x) (n x))(a:List α):Zq 0 (fun l=>szL f a l) (nL n a):=fun l h0 h1=>by
 simp only[szL]
 split
 ·exact⟨by omega,fun h=>by omega⟩
 ·have b:=Zun hf a (l-a.length) (by omega) (by omega)
  simp only at b
  refine⟨by omega,fun h=>?_⟩
  have:=b.2 h
  omega
theorem ZbZ{c e:Int}{s:Int->Int}{q r:Nat}(h:Zq c s q)(hq:(r:Int)+c<=q+e):Zq e s r:=fun l h0 h1=>by
 have a:=h l h0 h1
 refine⟨a.1,fun h2=>?_⟩
 have:=a.2 h2
 omega
end Go.Fd

/-
  THE DATA OF THE LAWS: plain types, how they lie in memory (printed by lawgen.py). Own work.
-/
namespace Go.Fd
set_option maxRecDepth 10000
structure TNode where
 control:Int
 parent:Int
 links:(List Int)
 deriving DecidableEq
def ZR(x:TNode):List Tr:=[tv x.control,tv x.parent,.sl (rI x.links)]
theorem Zih(x:TNode):(ZR x).length=3:=rfl
def Zml(x:TNode):IV:=.ag [iI x.control,iI x.parent,.ow 1 (rI x.links) true]
def WH(n:Nat)(x:TNode):Prop:=x.links.length<=n
def Zii(x:TNode):Prop:=QO .i64 x.control/\QO .i64 x.parent/\(∀ y∈x.links,QO .i64 y)
def WI(x:TNode)(l:Int):Int:=DN (szN x.links.length l) fun l=>l
structure TWire where
 name:ByteArray
 link:Int
 deriving DecidableEq
def Jj(x:TWire):List Tr:=[ts x.name,tv x.link]
theorem Zij(x:TWire):(Jj x).length=2:=rfl
def Zmm(x:TWire):IV:=.ag [iS x.name,iI x.link]
def X4(n:Nat)(x:TWire):Prop:=x.name.size<=n
def Zik(x:TWire):Prop:=QO .i64 x.link
def WJ(x:TWire)(l:Int):Int:=DN (l-x.name.size) fun l=>l
structure TBigraph where
 roots:Int
 nodes:(List TNode)
 sites:(List Int)
 edges:Int
 outer:(List ByteArray)
 inner:(List TWire)
 deriving DecidableEq
def Zc(x:TBigraph):List Tr:=[tv x.roots,.sl (x.nodes.map ZR),.sl (rI x.sites),tv x.edges,.sl (rS x.outer),.sl (x.inner.map Jj)]
def Jb(x:TBigraph):IV:=.ag [iI x.roots,.ow 3 (x.nodes.map ZR) true,.ow 1 (rI x.sites) true,iI x.edges,.ow 1 (rS x.outer) true,.ow 2 (x.inner.map Jj) true]
def Zv(n:Nat)(x:TBigraph):Prop:=x.nodes.length<=n/\(∀ y∈x.nodes,WH n y)/\x.sites.length<=n/\x.outer.length<=n/\(∀ y∈x.outer,y.size<=n)/\x.inner.length<=n/\(∀ y∈x.inner,X4 n y)
def ZG(x:TBigraph):Prop:=QO .i64 x.roots/\(∀ y∈x.nodes,Zii y)/\(∀ y∈x.sites,QO .i64 y)/\QO .i64 x.edges/\(∀ y∈x.inner,Zik y)
def JD(x:TBigraph)(l:Int):Int:=DN (szL WI x.nodes l) fun l=>DN (szN x.sites.length l) fun l=>DN (szL (fun x m=>m-x.size) x.outer l) fun l=>DN (szL WJ x.inner l) fun l=>l
structure TControl where
 name:ByteArray
 ports:Int
 kind_:Int
 deriving DecidableEq
def Zi(x:TControl):List Tr:=[ts x.name,tv x.ports,tv x.kind_]
theorem ZaZ(x:TControl):(Zi x).length=3:=rfl
def ZdM(x:TControl):IV:=.ag [iS x.name,iI x.ports,iI x.kind_]
def ZA(n:Nat)(x:TControl):Prop:=x.name.size<=n
def Ze2(x:TControl):Prop:=QO .i64 x.ports/\QO .i64 x.kind_
def ZB(x:TControl)(l:Int):Int:=DN (l-x.name.size) fun l=>l
end Go.Fd

/-
  The numbers of the functions of this program, by name (printed by ids.py).
-/
namespace Go.Fd
abbrev JA:FuncId:=11
abbrev J0:FuncId:=12
abbrev J1:FuncId:=14
abbrev Jw:FuncId:=15
abbrev Zy:FuncId:=18
abbrev Jx:FuncId:=21
abbrev Z5:FuncId:=27
abbrev Ym:FuncId:=28
abbrev Js:FuncId:=30
abbrev Yy:FuncId:=31
abbrev ZN:FuncId:=34
abbrev Jp:FuncId:=35
abbrev ZO:FuncId:=46
abbrev Jy:FuncId:=47
abbrev Zk:FuncId:=48
abbrev ZH:FuncId:=49
abbrev Z6:FuncId:=50
abbrev Ya:FuncId:=51
abbrev Yb:FuncId:=52
abbrev Yc:FuncId:=55
abbrev Yd:FuncId:=56
abbrev Vw:FuncId:=57
abbrev XD:FuncId:=60
abbrev Vx:FuncId:=61
abbrev YI:FuncId:=63
abbrev Vy:FuncId:=65
abbrev JP:FuncId:=71
abbrev YJ:FuncId:=72
abbrev Qp:FuncId:=73
abbrev Vz:FuncId:=74
abbrev Qq:FuncId:=75
abbrev VA:FuncId:=76
abbrev VB:FuncId:=77
abbrev XE:FuncId:=87
abbrev Ye:FuncId:=88
abbrev Z7:FuncId:=89
abbrev ZT:FuncId:=93
abbrev Qr:FuncId:=97
abbrev VC:FuncId:=98
abbrev VD:FuncId:=99
abbrev Qs:FuncId:=100
abbrev YT:FuncId:=101
abbrev Y1:FuncId:=102
abbrev Qt:FuncId:=103
abbrev VE:FuncId:=104
abbrev Qu:FuncId:=105
abbrev Yn:FuncId:=106
abbrev J2:FuncId:=107
abbrev Qv:FuncId:=108
abbrev JI:FuncId:=109
abbrev Q5:FuncId:=110
abbrev VF:FuncId:=112
abbrev VG:FuncId:=113
abbrev ZL:FuncId:=114
abbrev Jz:FuncId:=115
abbrev Qw:FuncId:=116
abbrev J7:FuncId:=125
abbrev Q6:FuncId:=126
abbrev Q7:FuncId:=127
abbrev Q8:FuncId:=145
abbrev Q9:FuncId:=146
abbrev VH:FuncId:=147
abbrev Y2:FuncId:=148
abbrev VI:FuncId:=149
abbrev VJ:FuncId:=150
abbrev Yo:FuncId:=151
abbrev VK:FuncId:=152
abbrev Xa:FuncId:=153
abbrev Xb:FuncId:=154
abbrev Xc:FuncId:=155
abbrev Yi:FuncId:=156
abbrev ZP:FuncId:=157
abbrev ZI:FuncId:=158
abbrev JJ:FuncId:=159
abbrev VL:FuncId:=160
abbrev ZJ:FuncId:=161
abbrev VM:FuncId:=162
abbrev VN:FuncId:=163
abbrev VO:FuncId:=164
abbrev JE:FuncId:=165
abbrev Z8:FuncId:=166
abbrev Jn:FuncId:=167
abbrev J8:FuncId:=168
abbrev WK:FuncId:=170
abbrev ZX:FuncId:=171
abbrev Z9:FuncId:=172
abbrev Y3:FuncId:=198
abbrev J3:FuncId:=199
abbrev Xd:FuncId:=200
abbrev Y4:FuncId:=201
abbrev VP:FuncId:=202
abbrev JN:FuncId:=203
abbrev VQ:FuncId:=204
abbrev XF:FuncId:=205
abbrev Yz:FuncId:=206
abbrev Jh:FuncId:=207
abbrev Je:FuncId:=208
abbrev YK:FuncId:=209
abbrev Jq:FuncId:=210
abbrev YL:FuncId:=211
abbrev Ja:FuncId:=212
abbrev YM:FuncId:=213
abbrev X5:FuncId:=214
abbrev JQ:FuncId:=215
abbrev JV:FuncId:=216
abbrev JW:FuncId:=217
abbrev ZE:FuncId:=226
abbrev V4:FuncId:=227
abbrev Yj:FuncId:=253
abbrev Jf:FuncId:=254
abbrev JK:FuncId:=257
abbrev ZY:FuncId:=262
abbrev Qf:FuncId:=263
abbrev Vd:FuncId:=264
abbrev VS:FuncId:=265
abbrev Vm:FuncId:=266
abbrev J4:FuncId:=267
abbrev Y5:FuncId:=268
abbrev YU:FuncId:=269
abbrev V5:FuncId:=270
abbrev Dm:FuncId:=271
abbrev Ve:FuncId:=272
abbrev YA:FuncId:=320
end Go.Fd

/-
  The annotated codes of the functions, printed by a program of mine (gen.py), and the check that they belong to the program.
-/
namespace Go.Fd
def YV:F2 :=
 { nt:=22,res:=[.t 8 [2],.t 9 [0]],body :=
  (.sq (rg [oo 5 (.bt (.t 1)),
 oo 6 (.bt (.t 2)),
 om 8 (.k (.slice none 0 0)),
 om 9 (.k (.bool false))])
 (.sq (.sq (rg [om 10 (.t 0),
 oo 11 (.ld (some 6) (.t 5)),
 oo 12 (.ld (some 6) (.t 6)),
 oo 13 (.ca .pure false (.f YT) [.t 10,.t 11,.t 12]),
 oo 14 (.nt (.t 13))])
 (.cd (.t 14) (.sq (rg [oo 15 (.bs 1 0 [] []),
 om 8 (.t 15),
 om 9 (.k (.bool false))])
 (.rt))
 (.sk)))
 (.sq (rg [oo 16 (.ld (some 6) (.t 5)),
 oo 17 (.ld (some 6) (.t 6)),
 om 18 (.t 3),
 oo 19 (.ca .pure true (.f Y1) [.t 16,.t 17,.t 18]),
 oo 20 (.ex 0 (.t 19)),
 oo 21 (.ex 1 (.t 19)),
 om 8 (.t 20),
 om 9 (.t 21)])
 (.rt)))) }
theorem XG:ZS Go.Proofs.Tryz.prog Jy YV=true:=by kernel_rfl
def YW:F2 :=
 { nt:=21,res:=[.t 8 [2],.t 9 [0]],body :=
  (.sq (rg [oo 5 (.bt (.t 1)),
 oo 6 (.bt (.t 2)),
 om 8 (.k (.slice none 0 0)),
 om 9 (.k (.bool false))])
 (.sq (.sq (rg [om 10 (.t 0),
 oo 11 (.ld (some 6) (.t 5)),
 oo 12 (.ld (some 6) (.t 6)),
 oo 13 (.ca .pure false (.f Yn) [.t 10,.t 11,.t 12]),
 oo 14 (.nt (.t 13))])
 (.cd (.t 14) (.sq (rg [om 8 (.k (.slice none 0 0)),
 om 9 (.k (.bool false))])
 (.rt))
 (.sk)))
 (.sq (rg [oo 15 (.ld (some 6) (.t 5)),
 oo 16 (.ld (some 6) (.t 6)),
 om 17 (.t 3),
 oo 18 (.ca .pure true (.f J2) [.t 15,.t 16,.t 17]),
 oo 19 (.ex 0 (.t 18)),
 oo 20 (.ex 1 (.t 18)),
 om 8 (.t 19),
 om 9 (.t 20)])
 (.rt)))) }
theorem XH:ZS Go.Proofs.Tryz.prog Z6 YW=true:=by kernel_rfl
def QC:F2 :=
 { nt:=25,res:=[.t 8 [0],.t 9 [0]],body :=
  (.sq (rg [oo 5 (.bt (.t 1)),
 oo 6 (.bt (.t 2)),
 om 8 (.k (.bool false)),
 om 9 (.k (.bool false))])
 (.sq (.sq (rg [om 12 (.t 0),
 oo 13 (.ld (some 6) (.t 5)),
 oo 14 (.ld (some 6) (.t 6)),
 oo 15 (.ca .pure false (.f YT) [.t 12,.t 13,.t 14]),
 oo 16 (.nt (.t 15))])
 (.cd (.t 16) (.sq (rg [om 8 (.k (.bool false)),
 om 9 (.k (.bool false))])
 (.rt))
 (.sk)))
 (.sq (rg [oo 18 (.ld (some 6) (.t 5)),
 oo 19 (.ld (some 6) (.t 6)),
 om 20 (.t 3),
 oo 21 (.ca .pure true (.f Y1) [.t 18,.t 19,.t 20]),
 om 17 (.t 21),
 oo 22 (.ex 0 (.t 17)),
 oo 23 (.ex 1 (.t 17)),
 om 10 (.t 22),
 om 11 (.t 23)])
 (.sq (rg [om 24 (.t 11),
 om 8 (.t 24),
 om 9 (.k (.bool true))])
 (.rt))))) }
theorem U1:ZS Go.Proofs.Tryz.prog Ya QC=true:=by kernel_rfl
def QD:F2 :=
 { nt:=25,res:=[.t 8 [0],.t 9 [0]],body :=
  (.sq (rg [oo 5 (.bt (.t 1)),
 oo 6 (.bt (.t 2)),
 om 8 (.k (.bool false)),
 om 9 (.k (.bool false))])
 (.sq (.sq (rg [om 12 (.t 0),
 oo 13 (.ld (some 6) (.t 5)),
 oo 14 (.ld (some 6) (.t 6)),
 oo 15 (.ca .pure false (.f Yn) [.t 12,.t 13,.t 14]),
 oo 16 (.nt (.t 15))])
 (.cd (.t 16) (.sq (rg [om 8 (.k (.bool false)),
 om 9 (.k (.bool false))])
 (.rt))
 (.sk)))
 (.sq (rg [oo 18 (.ld (some 6) (.t 5)),
 oo 19 (.ld (some 6) (.t 6)),
 om 20 (.t 3),
 oo 21 (.ca .pure true (.f J2) [.t 18,.t 19,.t 20]),
 om 17 (.t 21),
 oo 22 (.ex 0 (.t 17)),
 oo 23 (.ex 1 (.t 17)),
 om 10 (.t 22),
 om 11 (.t 23)])
 (.sq (rg [om 24 (.t 11),
 om 8 (.t 24),
 om 9 (.k (.bool true))])
 (.rt))))) }
theorem U2:ZS Go.Proofs.Tryz.prog Yb QD=true:=by kernel_rfl
def QE:F2 :=
 { nt:=16,res:=[.t 6 [0],.t 7 [0]],body :=
  (.sq (rg [oo 4 (.bt (.t 1)),
 oo 5 (.bt (.t 2)),
 om 6 (.k (.bool false)),
 om 7 (.k (.bool false))])
 (.sq (.sq (rg [om 8 (.t 0),
 oo 9 (.ld (some 6) (.t 4)),
 oo 10 (.ld (some 6) (.t 5)),
 oo 11 (.ca .pure false (.f YT) [.t 8,.t 9,.t 10]),
 oo 12 (.nt (.t 11))])
 (.cd (.t 12) (.sq (rg [om 6 (.k (.bool false)),
 om 7 (.k (.bool false))])
 (.rt))
 (.sk)))
 (.sq (rg [oo 13 (.ld (some 6) (.t 4)),
 oo 14 (.ld (some 6) (.t 5)),
 oo 15 (.ca .pure false (.f XE) [.t 13,.t 14]),
 om 6 (.t 15),
 om 7 (.k (.bool true))])
 (.rt)))) }
theorem U3:ZS Go.Proofs.Tryz.prog Yc QE=true:=by kernel_rfl
def QF:F2 :=
 { nt:=16,res:=[.t 6 [0],.t 7 [0]],body :=
  (.sq (rg [oo 4 (.bt (.t 1)),
 oo 5 (.bt (.t 2)),
 om 6 (.k (.bool false)),
 om 7 (.k (.bool false))])
 (.sq (.sq (rg [om 8 (.t 0),
 oo 9 (.ld (some 6) (.t 4)),
 oo 10 (.ld (some 6) (.t 5)),
 oo 11 (.ca .pure false (.f Yn) [.t 8,.t 9,.t 10]),
 oo 12 (.nt (.t 11))])
 (.cd (.t 12) (.sq (rg [om 6 (.k (.bool false)),
 om 7 (.k (.bool false))])
 (.rt))
 (.sk)))
 (.sq (rg [oo 13 (.ld (some 6) (.t 4)),
 oo 14 (.ld (some 6) (.t 5)),
 oo 15 (.ca .pure false (.f Ye) [.t 13,.t 14]),
 om 6 (.t 15),
 om 7 (.k (.bool true))])
 (.rt)))) }
theorem U4:ZS Go.Proofs.Tryz.prog Yd QF=true:=by kernel_rfl
def Za0:F2 :=
 { nt:=55,res:=[.t 2 [0]],body :=
  (.sq (rg [om 2 (.k (.bool false))])
 (.sq (.sq (rg [om 3 (i6 0)])
 (.bl 0 (.lp [0,3] [] (.sq (.sq (rg [om 5 (.t 3),
 om 6 (.t 0),
 oo 7 (.ln (.t 6)),
 oo 8 (.bi .lss 0 (.t 5) (.t 7))])
 (.cd (.t 8) (.sk)
 (.ex 0)))
 (.sq (.bl 1 (.sq (.sq (rg [om 11 (.t 0),
 om 12 (.t 3),
 oo 13 (.ia 3 (.t 11) (.t 12)),
 oo 14 (.fa 0 (.t 13)),
 oo 15 (.ld none (.t 14)),
 oo 16 (.ca .pure false (.f VF) [.t 15]),
 oo 17 (.nt (.t 16)),
 om 18 (.t 17),
 og 19 18 false (.mv (.t 0) none),
 og 20 18 false (.mv (.t 3) none),
 og 21 18 false (.ia 3 (.t 19) (.t 20)),
 og 22 18 false (.fa 1 (.t 21)),
 og 23 18 false (.ld none (.t 22)),
 og 24 18 false (.ca .pure false (.f Z7) [.t 23,i6 0,i6 3]),
 og 25 18 false (.nt (.t 24)),
 oo 26 (.pk (.t 18) (.k (.bool true)) (.t 25)),
 om 27 (.t 26),
 og 28 27 false (.mv (.t 0) none),
 og 29 27 false (.mv (.t 3) none),
 og 30 27 false (.ia 3 (.t 28) (.t 29)),
 og 31 27 false (.fa 2 (.t 30)),
 og 32 27 false (.ld none (.t 31)),
 og 33 27 false (.ca .pure false (.f Z7) [.t 32,i6 0,i6 2]),
 og 34 27 false (.nt (.t 33)),
 oo 35 (.pk (.t 27) (.k (.bool true)) (.t 34))])
 (.cd (.t 35) (.sq (rg [om 2 (.k (.bool false))])
 (.rt))
 (.sk)))
 (.sq (rg [om 4 (i6 0)])
 (.bl 2 (.lp [0,3,4] [] (.sq (.sq (rg [om 36 (.t 4),
 om 37 (.t 3),
 oo 38 (.bi .lss 0 (.t 36) (.t 37))])
 (.cd (.t 38) (.sk)
 (.ex 2)))
 (.sq (.bl 3 (.sq (.rg (some 0) [om 41 (.t 0),
 om 42 (.t 4),
 oo 43 (.ia 3 (.t 41) (.t 42)),
 oo 44 (.fa 0 (.t 43)),
 oo 45 (.ld none (.t 44)),
 om 46 (.t 0),
 om 47 (.t 3),
 oo 48 (.ia 3 (.t 46) (.t 47)),
 oo 49 (.fa 0 (.t 48)),
 oo 50 (.ld none (.t 49)),
 oo 51 (.bi .eql 0 (.t 45) (.t 50))])
 (.cd (.t 51) (.sq (rg [om 2 (.k (.bool false))])
 (.rt))
 (.sk))))
 (rg [om 39 (.t 4),
 oo 40 (.bi .add 0 (.t 39) (i6 1)),
 om 4 (.t 40)]))))))))
 (rg [om 9 (.t 3),
 oo 10 (.bi .add 0 (.t 9) (i6 1)),
 om 3 (.t 10)]))))))
 (.sq (rg [om 52 (.t 0),
 oo 53 (.ln (.t 52)),
 oo 54 (.ca .pure false (.f Z7) [.t 53,i6 1,i6 6]),
 om 2 (.t 54)])
 (.rt)))) }
theorem Ze3:ZS Go.Proofs.Tryz.prog XD Za0=true:=by kernel_rfl
def Xt:F2 :=
 { nt:=40,res:=[.t 2 [0]],body :=
  (.sq (rg [om 2 (.k (.bool false))])
 (.sq (.sq (rg [om 5 (.t 0),
 oo 6 (.ln (.t 5)),
 oo 7 (.ca .pure false (.f ZT) [.t 6,i6 1,i6 6]),
 oo 8 (.nt (.t 7))])
 (.cd (.t 8) (.sq (rg [om 2 (.k (.bool false))])
 (.rt))
 (.sk)))
 (.sq (.sq (rg [om 9 (.t 0),
 oo 10 (.ln (.t 9)),
 om 11 (i6 0)])
 (.bl 0 (.lp [0,9,10,11] [] (.sq (rg [oo 12 (.bi .lss 0 (.t 11) (.t 10))])
 (.sq (.cd (.t 12) (.sk)
 (.ex 0))
 (.sq (.bl 1 (.sq (rg [om 13 (.t 11),
 oo 14 (.ia 3 (.t 9) (.t 11)),
 oo 15 (.ld (some 3) (.t 14)),
 oo 4 (.al [.string ⟨#[]⟩,.int .i64 0,.int .i64 0] []),
 om 3 (.t 13),
 on1 (.st 3 (.t 4) (.t 15))])
 (.sq (rg [oo 16 (.fa 0 (.t 4)),
 oo 17 (.ld none (.t 16)),
 oo 18 (.ca .pure false (.f VG) [.t 17]),
 oo 19 (.nt (.t 18)),
 om 20 (.t 19),
 og 21 20 false (.fa 1 (.t 4)),
 og 22 20 false (.ld none (.t 21)),
 og 23 20 false (.ca .pure false (.f ZT) [.t 22,i6 0,i6 3]),
 og 24 20 false (.nt (.t 23)),
 oo 25 (.pk (.t 20) (.k (.bool true)) (.t 24)),
 om 26 (.t 25),
 og 27 26 false (.fa 2 (.t 4)),
 og 28 26 false (.ld none (.t 27)),
 og 29 26 false (.ca .pure false (.f ZT) [.t 28,i6 0,i6 2]),
 og 30 26 false (.nt (.t 29)),
 oo 31 (.pk (.t 26) (.k (.bool true)) (.t 30)),
 om 32 (.t 31),
 og 33 32 false (.mv (.t 0) none),
 og 34 32 false (.mv (.t 3) none),
 og 35 32 false (.sx 3 (.t 33) none (some (.t 34)) none),
 og 36 32 false (.mf Jz [.t 4]),
 og 37 32 false (.ca .pure false (.f ZL) [.t 35,.t 36]),
 oo 38 (.pk (.t 32) (.k (.bool true)) (.t 37))])
 (.cd (.t 38) (.sq (rg [om 2 (.k (.bool false))])
 (.rt))
 (.sk)))))
 (rg [oo 39 (.bi .add 0 (.t 11) (i6 1)),
 om 11 (.t 39)])))))))
 (.sq (rg [om 2 (.k (.bool true))])
 (.rt))))) }
theorem DO:ZS Go.Proofs.Tryz.prog YI Xt=true:=by kernel_rfl
def Za1:F2 :=
 { nt:=10,res:=[.t 4 [0]],body :=
  (.sq (rg [oo 2 (.bt (.t 0)),
 oo 3 (.bt (.t 1)),
 om 4 (.k (.bool false))])
 (.sq (rg [oo 5 (.ld (some 6) (.t 2)),
 oo 6 (.ld (some 6) (.t 3)),
 oo 7 (.ca .pure false (.f Qv) [.t 5,.t 6]),
 oo 8 (.ln (.t 7)),
 oo 9 (.bi .gtr 0 (.t 8) (i6 0)),
 om 4 (.t 9)])
 (.rt))) }
theorem Ze4:ZS Go.Proofs.Tryz.prog XE Za1=true:=by kernel_rfl
def QG:F2 :=
 { nt:=14,res:=[.t 4 [0]],body :=
  (.sq (rg [oo 2 (.bt (.t 0)),
 oo 3 (.bt (.t 1)),
 om 4 (.k (.bool false))])
 (.sq (rg [oo 8 (.ld (some 6) (.t 2)),
 oo 9 (.ld (some 6) (.t 3)),
 oo 10 (.ca .pure true (.f JI) [.t 8,.t 9]),
 om 7 (.t 10),
 oo 11 (.ex 0 (.t 7)),
 oo 12 (.ex 1 (.t 7)),
 om 5 (.t 11),
 om 6 (.t 12)])
 (.sq (rg [om 13 (.t 6),
 om 4 (.t 13)])
 (.rt)))) }
theorem U5:ZS Go.Proofs.Tryz.prog Ye QG=true:=by kernel_rfl
def Zb0:F2 :=
 { nt:=15,res:=[.t 6 [0]],body :=
  (.sq (rg [om 6 (.k (.bool false))])
 (.sq (rg [om 7 (.t 0),
 om 8 (.t 1),
 oo 9 (.bi .geq 0 (.t 7) (.t 8)),
 om 10 (.t 9),
 og 11 10 true (.mv (.t 0) none),
 og 12 10 true (.mv (.t 2) none),
 og 13 10 true (.bi .leq 0 (.t 11) (.t 12)),
 oo 14 (.pk (.t 10) (.t 13) (.k (.bool false))),
 om 6 (.t 14)])
 (.rt))) }
theorem ZfW:ZS Go.Proofs.Tryz.prog Z7 Zb0=true:=by kernel_rfl
def DP:F2 :=
 { nt:=15,res:=[.t 6 [0]],body :=
  (.sq (rg [om 6 (.k (.bool false))])
 (.sq (rg [om 7 (.t 0),
 om 8 (.t 1),
 oo 9 (.bi .geq 0 (.t 7) (.t 8)),
 om 10 (.t 9),
 og 11 10 true (.mv (.t 0) none),
 og 12 10 true (.mv (.t 2) none),
 og 13 10 true (.bi .leq 0 (.t 11) (.t 12)),
 oo 14 (.pk (.t 10) (.t 13) (.k (.bool false))),
 om 6 (.t 14)])
 (.rt))) }
theorem ZdN:ZS Go.Proofs.Tryz.prog ZT DP=true:=by kernel_rfl
def Za2:F2 :=
 { nt:=15,res:=[.t 6 [0]],body :=
  (.sq (rg [oo 4 (.bt (.t 1)),
 oo 5 (.bt (.t 2)),
 om 6 (.k (.bool false))])
 (.sq (rg [om 7 (.t 0),
 oo 8 (.ld (some 6) (.t 4)),
 oo 9 (.ca .pure false (.f VH) [.t 7,.t 8]),
 om 10 (.t 9),
 og 11 10 true (.mv (.t 0) none),
 og 12 10 true (.ld (some 6) (.t 5)),
 og 13 10 true (.ca .pure false (.f VH) [.t 11,.t 12]),
 oo 14 (.pk (.t 10) (.t 13) (.k (.bool false))),
 om 6 (.t 14)])
 (.rt))) }
theorem Ze5:ZS Go.Proofs.Tryz.prog YT Za2=true:=by kernel_rfl
def Dc:F2 :=
 { nt:=86,res:=[.t 6 [2],.t 7 [0]],body :=
  (.sq (rg [oo 3 (.bt (.t 0)),
 oo 4 (.bt (.t 1)),
 om 6 (.k (.slice none 0 0)),
 om 7 (.k (.bool false))])
 (.sq (.sq (rg [oo 13 (.ld (some 6) (.t 3)),
 oo 14 (.ld (some 6) (.t 4)),
 oo 15 (.ca .pure false (.f Y2) [.t 13,.t 14]),
 oo 16 (.nt (.t 15)),
 om 17 (.t 16),
 og 18 17 false (.mv (.t 2) none),
 og 19 17 false (.fa 1 (.t 3)),
 og 20 17 false (.ld none (.t 19)),
 og 21 17 false (.ln (.t 20)),
 og 22 17 false (.ca .pure false (.f Q5) [.t 18,.t 21]),
 og 23 17 false (.nt (.t 22)),
 oo 24 (.pk (.t 17) (.k (.bool true)) (.t 23))])
 (.cd (.t 24) (.sq (rg [oo 25 (.bs 1 0 [] []),
 om 6 (.t 25),
 om 7 (.k (.bool false))])
 (.rt))
 (.sk)))
 (.sq (rg [oo 26 (.fa 3 (.t 3)),
 oo 27 (.ld none (.t 26)),
 oo 28 (.ca .pure false (.f VI) [.t 27]),
 om 8 (.t 28)])
 (.sq (.sq (rg [om 9 (i6 0)])
 (.bl 0 (.lp [2,3,4,8,9] [] (.sq (.sq (rg [om 29 (.t 9),
 om 30 (.t 2),
 oo 31 (.ln (.t 30)),
 oo 32 (.bi .lss 0 (.t 29) (.t 31))])
 (.cd (.t 32) (.sk)
 (.ex 0)))
 (.sq (.bl 1 (.sq (.sq (.rg (some 0) [oo 35 (.ld (some 6) (.t 3)),
 oo 36 (.ld (some 6) (.t 4)),
 om 37 (.t 2),
 om 38 (.t 9),
 oo 39 (.sx 1 (.t 37) none (some (.t 38)) none),
 om 40 (.t 2),
 om 41 (.t 9),
 oo 42 (.ia 1 (.t 40) (.t 41)),
 oo 43 (.ld none (.t 42)),
 oo 44 (.ca .pure false (.f VJ) [.t 35,.t 36,.t 39,.t 43]),
 oo 45 (.nt (.t 44))])
 (.cd (.t 45) (.sq (rg [oo 46 (.bs 1 0 [] []),
 om 6 (.t 46),
 om 7 (.k (.bool false))])
 (.rt))
 (.sk)))
 (.sq (.rg (some 0) [oo 48 (.ld (some 6) (.t 3)),
 oo 49 (.ld (some 6) (.t 4)),
 om 50 (.t 8),
 oo 51 (.fa 1 (.t 3)),
 oo 52 (.ld none (.t 51)),
 om 53 (.t 9),
 oo 54 (.ia 3 (.t 52) (.t 53)),
 oo 55 (.fa 2 (.t 54)),
 oo 56 (.ld none (.t 55)),
 oo 57 (.fa 1 (.t 4)),
 oo 58 (.ld none (.t 57)),
 om 59 (.t 2),
 om 60 (.t 9),
 oo 61 (.ia 1 (.t 59) (.t 60)),
 oo 62 (.ld none (.t 61)),
 oo 63 (.ia 3 (.t 58) (.t 62)),
 oo 64 (.fa 2 (.t 63)),
 oo 65 (.ld none (.t 64)),
 oo 66 (.ca .pure false (.f Yo) [.t 48,.t 49,.t 50,.t 56,.t 65]),
 om 47 (.t 66),
 oo 67 (.ex 0 (.t 47)),
 oo 68 (.ex 1 (.t 47)),
 om 10 (.t 67),
 om 11 (.t 68)])
 (.sq (.sq (rg [om 69 (.t 11),
 oo 70 (.nt (.t 69))])
 (.cd (.t 70) (.sq (rg [oo 71 (.bs 1 0 [] []),
 om 6 (.t 71),
 om 7 (.k (.bool false))])
 (.rt))
 (.sk)))
 (rg [om 72 (.t 10),
 om 8 (.t 72)])))))
 (rg [om 33 (.t 9),
 oo 34 (.bi .add 0 (.t 33) (i6 1)),
 om 9 (.t 34)]))))))
 (.sq (rg [oo 74 (.ld (some 6) (.t 3)),
 oo 75 (.ld (some 6) (.t 4)),
 om 76 (.t 2),
 om 77 (.t 8),
 oo 78 (.ca .pure false (.f VK) [.t 74,.t 75,.t 76,.t 77]),
 om 73 (.t 78),
 oo 79 (.ex 0 (.t 73)),
 oo 80 (.ex 1 (.t 73)),
 om 8 (.t 79),
 om 12 (.t 80)])
 (.sq (.sq (rg [om 81 (.t 12),
 oo 82 (.nt (.t 81))])
 (.cd (.t 82) (.sq (rg [oo 83 (.bs 1 0 [] []),
 om 6 (.t 83),
 om 7 (.k (.bool false))])
 (.rt))
 (.sk)))
 (.sq (rg [om 84 (.t 8),
 oo 85 (.ca .pure true (.f Xa) [.t 84]),
 om 6 (.t 85),
 om 7 (.k (.bool true))])
 (.rt)))))))) }
theorem Zcx:ZS Go.Proofs.Tryz.prog Y1 Dc=true:=by kernel_rfl
def DQ:F2 :=
 { nt:=15,res:=[.t 6 [0]],body :=
  (.sq (rg [oo 4 (.bt (.t 1)),
 oo 5 (.bt (.t 2)),
 om 6 (.k (.bool false))])
 (.sq (rg [om 7 (.t 0),
 oo 8 (.ld (some 6) (.t 4)),
 oo 9 (.ca .pure false (.f Yi) [.t 7,.t 8]),
 om 10 (.t 9),
 og 11 10 true (.mv (.t 0) none),
 og 12 10 true (.ld (some 6) (.t 5)),
 og 13 10 true (.ca .pure false (.f Yi) [.t 11,.t 12]),
 oo 14 (.pk (.t 10) (.t 13) (.k (.bool false))),
 om 6 (.t 14)])
 (.rt))) }
theorem ZdO:ZS Go.Proofs.Tryz.prog Yn DQ=true:=by kernel_rfl
def XI:F2 :=
 { nt:=173,res:=[.t 6 [2],.t 7 [0]],body :=
  (.sq (rg [oo 3 (.bt (.t 0)),
 oo 4 (.bt (.t 1)),
 oo 5 (.bt (.t 2)),
 om 6 (.k (.slice none 0 0)),
 om 7 (.k (.bool false))])
 (.sq (.sq (.rg (some 0) [oo 20 (.fa 0 (.t 3)),
 oo 21 (.ld none (.t 20)),
 oo 22 (.fa 0 (.t 4)),
 oo 23 (.ld none (.t 22)),
 oo 24 (.bi .neq 0 (.t 21) (.t 23)),
 om 25 (.t 24),
 og 26 25 false (.fa 4 (.t 3)),
 og 27 25 false (.ld none (.t 26)),
 og 28 25 false (.fa 4 (.t 4)),
 og 29 25 false (.ld none (.t 28)),
 og 30 25 false (.ca .pure false (.f ZP) [.t 27,.t 29]),
 og 31 25 false (.nt (.t 30)),
 oo 32 (.pk (.t 25) (.k (.bool true)) (.t 31)),
 om 33 (.t 32),
 og 34 33 false (.ld (some 6) (.t 3)),
 og 35 33 false (.ca .pure false (.f ZI) [.t 34]),
 og 36 33 false (.ld (some 6) (.t 4)),
 og 37 33 false (.ca .pure false (.f ZI) [.t 36]),
 og 38 33 false (.ca .pure false (.f ZP) [.t 35,.t 37]),
 og 39 33 false (.nt (.t 38)),
 oo 40 (.pk (.t 33) (.k (.bool true)) (.t 39)),
 om 41 (.t 40),
 og 42 41 false (.fa 3 (.t 3)),
 og 43 41 false (.ld none (.t 42)),
 og 44 41 false (.fa 3 (.t 4)),
 og 45 41 false (.ld none (.t 44)),
 og 46 41 false (.bi .neq 0 (.t 43) (.t 45)),
 oo 47 (.pk (.t 41) (.k (.bool true)) (.t 46)),
 om 48 (.t 47),
 og 49 48 false (.fa 2 (.t 3)),
 og 50 48 false (.ld none (.t 49)),
 og 51 48 false (.ln (.t 50)),
 og 52 48 false (.fa 2 (.t 4)),
 og 53 48 false (.ld none (.t 52)),
 og 54 48 false (.ln (.t 53)),
 og 55 48 false (.bi .neq 0 (.t 51) (.t 54)),
 oo 56 (.pk (.t 48) (.k (.bool true)) (.t 55)),
 om 57 (.t 56),
 og 58 57 false (.fa 1 (.t 3)),
 og 59 57 false (.ld none (.t 58)),
 og 60 57 false (.ln (.t 59)),
 og 61 57 false (.fa 1 (.t 4)),
 og 62 57 false (.ld none (.t 61)),
 og 63 57 false (.ln (.t 62)),
 og 64 57 false (.bi .neq 0 (.t 60) (.t 63)),
 oo 65 (.pk (.t 57) (.k (.bool true)) (.t 64)),
 om 66 (.t 65),
 og 67 66 false (.fa 1 (.t 3)),
 og 68 66 false (.ld none (.t 67)),
 og 69 66 false (.ln (.t 68)),
 og 70 66 false (.ld none (.t 5)),
 og 71 66 false (.ca .pure false (.f Qw) [.t 69,.t 70]),
 og 72 66 false (.nt (.t 71)),
 oo 73 (.pk (.t 66) (.k (.bool true)) (.t 72))])
 (.cd (.t 73) (.sq (rg [om 6 (.k (.slice none 0 0)),
 om 7 (.k (.bool false))])
 (.rt))
 (.sk)))
 (.sq (rg [oo 74 (.bs 1 1 [.int .i64 0] [(0,i6 (-1))]),
 oo 75 (.fa 3 (.t 3)),
 oo 76 (.ld none (.t 75)),
 oo 77 (.ca .pure true (.f JJ) [.t 74,.t 76]),
 oo 8 (.al [.slice none 0 0] []),
 on1 (.st 1 (.t 8) (.t 77))])
 (.sq (rg [oo 78 (.mf VL [.t 3,.t 4,.t 8]),
 om 9 (.t 78)])
 (.sq (rg [oo 79 (.mf VM [.t 5]),
 om 10 (.t 79)])
 (.sq (.sq (rg [oo 80 (.fa 1 (.t 3)),
 oo 81 (.ld none (.t 80)),
 oo 82 (.ln (.t 81)),
 om 83 (i6 0)])
 (.bl 0 (.lp [3,4,5,8,9,10,81,82,83] [256,2464] (.sq (rg [oo 84 (.bi .lss 0 (.t 83) (.t 82))])
 (.sq (.cd (.t 84) (.sk)
 (.ex 0))
 (.sq (.bl 1 (.sq (rg [om 85 (.t 83),
 oo 86 (.ia 3 (.t 81) (.t 83)),
 oo 87 (.ld (some 3) (.t 86)),
 oo 12 (.al [.int .i64 0,.int .i64 0,.slice none 0 0] []),
 om 11 (.t 85),
 on1 (.st 3 (.t 12) (.t 87))])
 (.sq (.rg (some 0) [oo 88 (.fa 1 (.t 4)),
 oo 89 (.ld none (.t 88)),
 oo 90 (.ld none (.t 5)),
 om 91 (.t 11),
 oo 92 (.ia 1 (.t 90) (.t 91)),
 oo 93 (.ld none (.t 92)),
 oo 94 (.ia 3 (.t 89) (.t 93)),
 oo 95 (.ld (some 3) (.t 94)),
 oo 13 (.al [.int .i64 0,.int .i64 0,.slice none 0 0] []),
 on1 (.st 3 (.t 13) (.t 95))])
 (.sq (.sq (.rg (some 0) [oo 96 (.fa 0 (.t 12)),
 oo 97 (.ld none (.t 96)),
 oo 98 (.fa 0 (.t 13)),
 oo 99 (.ld none (.t 98)),
 oo 100 (.bi .neq 0 (.t 97) (.t 99)),
 om 101 (.t 100),
 og 102 101 false (.mv (.t 10) none),
 og 103 101 false (.fa 1 (.t 12)),
 og 104 101 false (.ld none (.t 103)),
 og 105 101 false (.ca .pure false (.t 102) [.t 104]),
 og 106 101 false (.fa 1 (.t 13)),
 og 107 101 false (.ld none (.t 106)),
 og 108 101 false (.bi .neq 0 (.t 105) (.t 107)),
 oo 109 (.pk (.t 101) (.k (.bool true)) (.t 108))])
 (.cd (.t 109) (.sq (rg [om 6 (.k (.slice none 0 0)),
 om 7 (.k (.bool false))])
 (.rt))
 (.sk)))
 (.sq (rg [oo 110 (.fa 2 (.t 12)),
 oo 111 (.ld none (.t 110)),
 oo 112 (.ln (.t 111)),
 om 113 (i6 0)])
 (.bl 2 (.lp [3,4,5,8,9,10,13,81,82,83,111,112,113] [256,384,416,2464] (.sq (rg [oo 114 (.bi .lss 0 (.t 113) (.t 112))])
 (.sq (.cd (.t 114) (.sk)
 (.ex 2))
 (.sq (.bl 3 (.sq (rg [om 115 (.t 113),
 oo 116 (.ia 1 (.t 111) (.t 113)),
 oo 117 (.ld none (.t 116)),
 om 14 (.t 115),
 om 15 (.t 117)])
 (.sq (rg [om 118 (.t 9),
 om 119 (.t 15),
 oo 120 (.fa 2 (.t 13)),
 oo 121 (.ld none (.t 120)),
 om 122 (.t 14),
 oo 123 (.ia 1 (.t 121) (.t 122)),
 oo 124 (.ld none (.t 123)),
 oo 125 (.ca .any false (.t 118) [.t 119,.t 124]),
 oo 126 (.nt (.t 125))])
 (.cd (.t 126) (.sq (rg [om 6 (.k (.slice none 0 0)),
 om 7 (.k (.bool false))])
 (.rt))
 (.sk)))))
 (rg [oo 127 (.bi .add 0 (.t 113) (i6 1)),
 om 113 (.t 127)])))))))))))
 (rg [oo 128 (.bi .add 0 (.t 83) (i6 1)),
 om 83 (.t 128)])))))))
 (.sq (.sq (rg [oo 129 (.fa 2 (.t 3)),
 oo 130 (.ld none (.t 129)),
 oo 131 (.ln (.t 130)),
 om 132 (i6 0)])
 (.bl 4 (.lp [3,4,8,9,10,130,131,132] [256,2464] (.sq (rg [oo 133 (.bi .lss 0 (.t 132) (.t 131))])
 (.sq (.cd (.t 133) (.sk)
 (.ex 4))
 (.sq (.bl 5 (.sq (rg [om 134 (.t 132),
 oo 135 (.ia 1 (.t 130) (.t 132)),
 oo 136 (.ld none (.t 135)),
 om 16 (.t 134),
 om 17 (.t 136)])
 (.sq (.rg (some 0) [om 137 (.t 10),
 om 138 (.t 17),
 oo 139 (.ca .pure false (.t 137) [.t 138]),
 oo 140 (.fa 2 (.t 4)),
 oo 141 (.ld none (.t 140)),
 om 142 (.t 16),
 oo 143 (.ia 1 (.t 141) (.t 142)),
 oo 144 (.ld none (.t 143)),
 oo 145 (.bi .neq 0 (.t 139) (.t 144))])
 (.cd (.t 145) (.sq (rg [om 6 (.k (.slice none 0 0)),
 om 7 (.k (.bool false))])
 (.rt))
 (.sk)))))
 (rg [oo 146 (.bi .add 0 (.t 132) (i6 1)),
 om 132 (.t 146)])))))))
 (.sq (.sq (rg [oo 147 (.fa 5 (.t 3)),
 oo 148 (.ld none (.t 147)),
 oo 149 (.ln (.t 148)),
 om 150 (i6 0)])
 (.bl 6 (.lp [3,4,8,9,148,149,150] [256,2464] (.sq (rg [oo 151 (.bi .lss 0 (.t 150) (.t 149))])
 (.sq (.cd (.t 151) (.sk)
 (.ex 6))
 (.sq (.bl 7 (.sq (rg [om 152 (.t 150),
 oo 153 (.ia 2 (.t 148) (.t 150)),
 oo 154 (.ld (some 2) (.t 153)),
 oo 19 (.al [.string ⟨#[]⟩,.int .i64 0] []),
 om 18 (.t 152),
 on1 (.st 2 (.t 19) (.t 154))])
 (.sq (.rg (some 0) [om 155 (.t 9),
 oo 156 (.fa 1 (.t 19)),
 oo 157 (.ld none (.t 156)),
 oo 158 (.fa 5 (.t 4)),
 oo 159 (.ld none (.t 158)),
 om 160 (.t 18),
 oo 161 (.ia 2 (.t 159) (.t 160)),
 oo 162 (.fa 1 (.t 161)),
 oo 163 (.ld none (.t 162)),
 oo 164 (.ca .any false (.t 155) [.t 157,.t 163]),
 oo 165 (.nt (.t 164))])
 (.cd (.t 165) (.sq (rg [om 6 (.k (.slice none 0 0)),
 om 7 (.k (.bool false))])
 (.rt))
 (.sk)))))
 (rg [oo 166 (.bi .add 0 (.t 150) (i6 1)),
 om 150 (.t 166)])))))))
 (.sq (rg [oo 167 (.ld (some 6) (.t 3)),
 oo 168 (.ld (some 6) (.t 4)),
 oo 169 (.ld none (.t 8)),
 oo 170 (.ca .any false (.f VN) [.t 167,.t 168,.t 169]),
 oo 171 (.ex 0 (.t 170)),
 oo 172 (.ex 1 (.t 170)),
 om 6 (.t 171),
 om 7 (.t 172)])
 (.rt)))))))))) }
theorem Zcy:ZS Go.Proofs.Tryz.prog J2 XI=true:=by kernel_rfl
def Dd:F2 :=
 { nt:=17,res:=[.t 4 [2]],body :=
  (.sq (rg [oo 2 (.bt (.t 0)),
 oo 3 (.bt (.t 1)),
 om 4 (.k (.slice none 0 0))])
 (.sq (.sq (rg [oo 5 (.ld (some 6) (.t 2)),
 oo 6 (.ld (some 6) (.t 3)),
 oo 7 (.ca .pure false (.f Y2) [.t 5,.t 6]),
 oo 8 (.nt (.t 7))])
 (.cd (.t 8) (.sq (rg [oo 9 (.bs 1 0 [] []),
 om 4 (.t 9)])
 (.rt))
 (.sk)))
 (.sq (.rg (some 0) [oo 10 (.ld (some 6) (.t 2)),
 oo 11 (.ld (some 6) (.t 3)),
 oo 12 (.bs 1 0 [] []),
 oo 13 (.fa 3 (.t 2)),
 oo 14 (.ld none (.t 13)),
 oo 15 (.ca .pure false (.f VI) [.t 14]),
 oo 16 (.ca .pure true (.f VO) [.t 10,.t 11,.t 12,.t 15,i6 1]),
 om 4 (.t 16)])
 (.rt)))) }
theorem Zcz:ZS Go.Proofs.Tryz.prog Qv Dd=true:=by kernel_rfl
def JX:F2 :=
 { nt:=22,res:=[.t 4 [0],.t 5 [0]],body :=
  (.sq (rg [oo 2 (.bt (.t 0)),
 oo 3 (.bt (.t 1)),
 om 4 (.k (.slice none 0 0)),
 om 5 (.k (.bool false))])
 (.sq (.sq (rg [oo 8 (.fa 1 (.t 2)),
 oo 9 (.ld none (.t 8)),
 oo 10 (.ln (.t 9)),
 oo 11 (.fa 1 (.t 3)),
 oo 12 (.ld none (.t 11)),
 oo 13 (.ln (.t 12)),
 oo 14 (.bi .neq 0 (.t 10) (.t 13))])
 (.cd (.t 14) (.sq (rg [om 4 (.k (.slice none 0 0)),
 om 5 (.k (.bool false))])
 (.rt))
 (.sk)))
 (.sq (rg [oo 6 (.al [.slice none 0 0] [])])
 (.sq (rg [oo 15 (.ld (some 6) (.t 2)),
 oo 16 (.ld (some 6) (.t 3)),
 oo 17 (.mf Z8 [.t 6]),
 oo 18 (.ca .any false (.f JE) [.t 15,.t 16,.k (.slice none 0 0),.t 17]),
 oo 19 (.nt (.t 18)),
 om 7 (.t 19)])
 (.sq (rg [oo 20 (.ld none (.t 6)),
 om 21 (.t 7),
 om 4 (.t 20),
 om 5 (.t 21)])
 (.rt)))))) }
theorem Wv:ZS Go.Proofs.Tryz.prog JI JX=true:=by kernel_rfl
def DR:F2 :=
 { nt:=19,res:=[.t 4 [0]],body :=
  (.sq (rg [om 4 (.k (.bool false))])
 (.sq (.sq (rg [om 5 (i6 0)])
 (.bl 0 (.lp [0,1,5] [] (.sq (.sq (rg [om 6 (.t 5),
 om 7 (.t 1),
 oo 8 (.bi .lss 0 (.t 6) (.t 7))])
 (.cd (.t 8) (.sk)
 (.ex 0)))
 (.sq (.bl 1 (.sq (rg [om 11 (.t 0),
 om 12 (.t 5),
 oo 13 (.ca .pure false (.f J8) [.t 11,.t 12]),
 oo 14 (.nt (.t 13))])
 (.cd (.t 14) (.sq (rg [om 4 (.k (.bool false))])
 (.rt))
 (.sk))))
 (rg [om 9 (.t 5),
 oo 10 (.bi .add 0 (.t 9) (i6 1)),
 om 5 (.t 10)]))))))
 (.sq (rg [om 15 (.t 0),
 oo 16 (.ln (.t 15)),
 om 17 (.t 1),
 oo 18 (.bi .eql 0 (.t 16) (.t 17)),
 om 4 (.t 18)])
 (.rt)))) }
theorem ZdP:ZS Go.Proofs.Tryz.prog Q5 DR=true:=by kernel_rfl
def DS:F2 :=
 { nt:=23,res:=[.t 2 [0]],body :=
  (.sq (rg [om 2 (.k (.bool false))])
 (.sq (.sq (rg [om 3 (i6 0)])
 (.bl 0 (.lp [0,3] [] (.sq (.sq (rg [om 4 (.t 3),
 om 5 (.t 0),
 oo 6 (.lg (.t 5)),
 oo 7 (.bi .lss 0 (.t 4) (.t 6))])
 (.cd (.t 7) (.sk)
 (.ex 0)))
 (.sq (.bl 1 (.sq (rg [om 10 (.t 0),
 om 11 (.t 3),
 oo 12 (.ix (.t 10) (.t 11)),
 oo 13 (.bi .lss 0 (.t 12) (.k (.int .u8 97))),
 om 14 (.t 13),
 og 15 14 false (.mv (.t 0) none),
 og 16 14 false (.mv (.t 3) none),
 og 17 14 false (.ix (.t 15) (.t 16)),
 og 18 14 false (.bi .gtr 0 (.t 17) (.k (.int .u8 122))),
 oo 19 (.pk (.t 14) (.k (.bool true)) (.t 18))])
 (.cd (.t 19) (.sq (rg [om 2 (.k (.bool false))])
 (.rt))
 (.sk))))
 (rg [om 8 (.t 3),
 oo 9 (.bi .add 0 (.t 8) (i6 1)),
 om 3 (.t 9)]))))))
 (.sq (rg [om 20 (.t 0),
 oo 21 (.lg (.t 20)),
 oo 22 (.ca .pure false (.f Z7) [.t 21,i6 1,i6 4]),
 om 2 (.t 22)])
 (.rt)))) }
theorem ZdQ:ZS Go.Proofs.Tryz.prog VF DS=true:=by kernel_rfl
def DT:F2 :=
 { nt:=11,res:=[.t 2 [0]],body :=
  (.sq (rg [om 2 (.k (.bool false))])
 (.sq (rg [om 3 (.t 0),
 oo 4 (.lg (.t 3)),
 oo 5 (.ca .pure false (.f ZT) [.t 4,i6 1,i6 4]),
 om 6 (.t 5),
 og 7 6 true (.mv (.t 0) none),
 og 8 6 true (.ca .pure false (.f WK) [.t 7,.k (.string ⟨#[97,98,99,100,101,102,103,104,105,106,107,108,109,110,111,112,113,114,115,116,117,118,119,120,121,122]⟩)]),
 og 9 6 true (.bi .eql 0 (.t 8) (.k (.string ⟨#[]⟩))),
 oo 10 (.pk (.t 6) (.t 9) (.k (.bool false))),
 om 2 (.t 10)])
 (.rt))) }
theorem ZdR:ZS Go.Proofs.Tryz.prog VG DT=true:=by kernel_rfl
def QH:F2 :=
 { nt:=9,res:=[.t 3 [0]],body :=
  (.sq (rg [oo 2 (.bt (.t 0)),
 om 3 (.k (.bool false))])
 (.sq (rg [oo 4 (.fa 0 (.t 2)),
 oo 5 (.ld none (.t 4)),
 oo 6 (.fa 0 (.t 1)),
 oo 7 (.ld none (.t 6)),
 oo 8 (.bi .eql 0 (.t 5) (.t 7)),
 om 3 (.t 8)])
 (.rt))) }
theorem U6:ZS Go.Proofs.Tryz.prog Jz QH=true:=by kernel_rfl
def De:F2 :=
 { nt:=27,res:=[.t 4 [0]],body :=
  (.sq (rg [om 4 (.k (.bool false))])
 (.sq (rg [om 8 (.t 1),
 oo 9 (.ca .pure true (.f Jn) [.t 8]),
 om 5 (.t 9)])
 (.sq (rg [om 10 (.t 5),
 oo 11 (.ca .any false (.f Z9) [.t 10])])
 (.sq (.sq (rg [om 12 (.t 5),
 oo 13 (.ln (.t 12)),
 om 14 (i6 0)])
 (.bl 0 (.lp [0,1,12,13,14] [288] (.sq (rg [oo 15 (.bi .lss 0 (.t 14) (.t 13))])
 (.sq (.cd (.t 15) (.sk)
 (.ex 0))
 (.sq (.bl 1 (.sq (rg [om 16 (.t 14),
 oo 17 (.ia 1 (.t 12) (.t 14)),
 oo 18 (.ld none (.t 17)),
 om 6 (.t 16),
 om 7 (.t 18)])
 (.sq (rg [om 19 (.t 7),
 om 20 (.t 6),
 oo 21 (.bi .neq 0 (.t 19) (.t 20))])
 (.cd (.t 21) (.sq (rg [om 4 (.k (.bool false))])
 (.rt))
 (.sk)))))
 (rg [oo 22 (.bi .add 0 (.t 14) (i6 1)),
 om 14 (.t 22)])))))))
 (.sq (rg [om 23 (.t 1),
 oo 24 (.ln (.t 23)),
 om 25 (.t 0),
 oo 26 (.bi .eql 0 (.t 24) (.t 25)),
 om 4 (.t 26)])
 (.rt)))))) }
theorem ZcA:ZS Go.Proofs.Tryz.prog Qw De=true:=by kernel_rfl
def Za3:F2 :=
 { nt:=6,res:=[.t 2 [2]],body :=
  (.sq (rg [om 2 (.k (.slice none 0 0))])
 (.sq (rg [oo 3 (.bs 1 0 [] []),
 om 4 (.t 0),
 oo 5 (.ap 1 0 (.t 3) (.t 4)),
 om 2 (.t 5)])
 (.rt))) }
theorem Ze6:ZS Go.Proofs.Tryz.prog J7 Za3=true:=by kernel_rfl
end Go.Fd
