/-
  FOUNDATION 46: more rules: stores, append. Own work.
-/
import Derived.Test.YtidhoicihlnlaaaGreatDoorT03
import Derived.ChangeArms
import Derived.OpenShut
import Derived.Carry
import Derived.ChangeMaps5
import Derived.ChangeShapes
import Derived.Test.YtidhoicihlnlaaaGreatDoorProg
import Derived.KernelRfl
set_option linter.all false
namespace Go.Fd
section
variable {C:Zl} {lvl:Nat} {env:List (Nat×IV)} {loc:List (Nat×Ob)} {out:Sto} {d:Option Nat} {K:St->Prop} {st:St}
def st2(v:Option (List IV))(m:Nat)(p:IV)(d:Option Nat)(st:St)(K:St->Prop):Prop :=
 match v with
 | some l=>d=none/\l.length=m /\
  match p with
  | .ab id off =>
   match st.sto id with
   | some (.bx cells)=>off+l.length<=cells.length/\Dx (id.1+1) l/\K (Zo st id (.bx (Ue cells off l)))
   | _=>False
  | .ae id p i f s=>Zh8 id p i s f l st K
  | _=>False
 | none=>False
theorem ZEx{m:Nat}{p x:X}:op2 C d (.st m p x) ⟨lvl,env,loc,out⟩ K=st2 (cellsOf (xv env x)) m (xv env p) d ⟨lvl,env,loc,out⟩ K:=by
 rw[Je rfl]
 simp only[ew]
 generalize cellsOf (xv env x)=v
 cases v with
 | none=>simp [st2]
 | some l=>rfl
def stb(o:Option Ob)(id:Oid)(off:Nat)(l:List IV)(st:St)(K:St->Prop):Prop :=
 match o with
 | some (.bx cells)=>off+l.length<=cells.length/\Dx (id.1+1) l/\K (Zo st id (.bx (Ue cells off l)))
 | _=>False
theorem ZB4{m:Nat}{l:List IV}{id:Oid}{off:Nat}:st2 (some l) m (.ab id off) d ⟨lvl,env,loc,out⟩ K=(d=none/\l.length=m/\stb (Zu lvl loc out id) id off l ⟨lvl,env,loc,out⟩ K):=(rfl)
theorem ZB5{m:Nat}{l:List IV}{id:Oid}{p:Pth}{i f s:Nat}:st2 (some l) m (.ae id p i f s) d st K=(d=none/\l.length=m/\Zh8 id p i s f l st K):=(rfl)
theorem ZB6{cells l:List IV}{id:Oid}{off:Nat}:stb (some (.bx cells)) id off l st K=(off+l.length<=cells.length/\Dx (id.1+1) l/\K (Zo st id (.bx (Ue cells off l)))):=(rfl)
theorem ZfD{cs:List IV}{off:Nat}:Ue cs off []=cs:=(rfl)
theorem ZfE{cs:List IV}{off:Nat}{x:IV}{r:List IV}:Ue cs off (x::r)=Ue (cs.set off x) (off+1) r:=(rfl)
theorem Zum{l:Nat}:Dx l []=True:=(rfl)
theorem Zun{l:Nat}{x:IV}{r:List IV}:Dx l (x::r)=(low l x/\Dx l r):=(rfl)
theorem Zxg{l:Nat}{t:Tr}:low l (.tr t)=True:=(rfl)
theorem Zxh{l:Nat}{es:Row}:low l (.cs es)=True:=(rfl)
theorem Zxi{l k:Nat}{p:Pth}{off len s:Nat}{cap:Option Nat}:low (l+1) (.hd (l,k) p off len cap s)=True:=by
 apply propext;simp [low,men]
theorem Zxj{l k off:Nat}:low (l+1) (.ab (l,k) off)=True:=by
 apply propext;simp [low,men]
theorem Zxk{l:Nat}{c:List IV}:low l (.ag c)=Dx l c:=by simp only[low,Dx,men]
theorem Zxl{l:Nat}{c:List IV}:low l (.tu c)=Dx l c:=by simp only[low,Dx,men]
theorem Zxm{l k:Nat}{es:Row}{u:Bool}:low l (.ow k es u)=True:=(rfl)
theorem Zxn{l:Nat}:low l .un=True:=(rfl)
theorem Zxo{l:Nat}:low l .er=True:=(rfl)
theorem Zuo{l:Nat}{c:List Tr}:low l (.ta c)=True:=(rfl)
def kst(id:Oid)(p:Pth)(i s f:Nat)(r:List IV)(K:St->Prop)(st':St):Prop:=Zh8 id p i s f r st' K
theorem ZB7{id:Oid}{p:Pth}{i s f:Nat}{r:List IV}:kst id p i s f r K st=Zh8 id p i s f r st K:=(rfl)
theorem Zup{id:Oid}{p:Pth}{i s f:Nat}:Zh8 id p i s f [] st K=K st:=(rfl)
def sc1(o:Option Ob)(id:Oid)(p:Pth)(i f s:Nat)(x:IV)(st:St)(K:St->Prop):Prop :=
 match o with
 | some (.ar k es u hw ver)=>X9 p s hw ver u/\op3 (getp es p) fun es' => op3 es'[i]? fun e=>op3 e[f]? fun t0 =>
  match x with
  | .tr (.v y)=>isSc t0=true/\K (Zo st id (.ar k (Vs es p i f (.v y)) u hw ver))
  | .cs []=>p=[]/\K (Zo st id (.ar k (Vs es [] i f (.sl [])) u hw (ver+1)))
  | .cs zs=>p=[]/\K (Zo st id (.ar k (Vs es [] i f (.sl zs)) false hw (ver+1)))
  | .tr (.sl zs)=>p=[]/\K (Zo st id (.ar k (Vs es [] i f (.sl zs)) false hw (ver+1)))
  | .hd id2 [] 0 len none s2=>p=[]/\id2≠id/\id2.1=st.lvl /\
   match st.sto id2 with
   | some (.ar _ zs u2 hw2 _)=>s2=hw2/\len=zs.length/\K (Zo (Y8 id2 st) id (.ar k (Vs es [] i f (.sl zs)) (u&&u2) hw (ver+1)))
   | _=>False
  | _=>False
 | _=>False
theorem Zuq{id:Oid}{p:Pth}{i s f:Nat}{x:IV}{r:List IV}:Zh8 id p i s f (x::r) ⟨lvl,env,loc,out⟩ K=sc1 (Zu lvl loc out id) id p i f s x ⟨lvl,env,loc,out⟩ (kst id p i s (f+1) r K):=by
 simp only[Zh8,stc,sc1]
 rw[show (⟨lvl,env,loc,out⟩:St).sto id=Zu lvl loc out id from rfl]
 generalize Zu lvl loc out id=o
 cases o with
 | none=>rfl
 | some ob =>
  cases ob with
  | bx=>rfl
  | ar k es u hw ver =>
   dsimp only
   rw[<-Xr]
   apply propext
   constructor
   ·rintro⟨es',h1,h2,e,h3,t0,h4,h5⟩
    refine⟨h2,es',h1,?_⟩
    rw[h3]
    simp only[op3]
    rw[h4]
    exact h5
   ·rintro⟨h2,es',h1,h3⟩
    rw[<-Xr] at h3
    obtain⟨e,h3,h4⟩:=h3
    rw[<-Xr] at h4
    obtain⟨t0,h4,h5⟩:=h4
    exact⟨es',h1,h2,e,h3,t0,h4,h5⟩
def sc2(k:Nat)(es:Row)(u:Bool)(hw ver:Nat)(id:Oid)(p:Pth)(i f:Nat)(x:IV)(st:St)(K:St->Prop)(t0:Tr):Prop :=
  match x with
  | .tr (.v y)=>isSc t0=true/\K (Zo st id (.ar k (Vs es p i f (.v y)) u hw ver))
  | .cs []=>p=[]/\K (Zo st id (.ar k (Vs es [] i f (.sl [])) u hw (ver+1)))
  | .cs zs=>p=[]/\K (Zo st id (.ar k (Vs es [] i f (.sl zs)) false hw (ver+1)))
  | .tr (.sl zs)=>p=[]/\K (Zo st id (.ar k (Vs es [] i f (.sl zs)) false hw (ver+1)))
  | .hd id2 [] 0 len none s2=>p=[]/\id2≠id/\id2.1=st.lvl /\
   match st.sto id2 with
   | some (.ar _ zs u2 hw2 _)=>s2=hw2/\len=zs.length/\K (Zo (Y8 id2 st) id (.ar k (Vs es [] i f (.sl zs)) (u&&u2) hw (ver+1)))
   | _=>False
  | _=>False
def sc3(k:Nat)(es:Row)(u:Bool)(hw ver:Nat)(id:Oid)(p:Pth)(i f:Nat)(x:IV)(st:St)(K:St->Prop)(e:List Tr):Prop:=op3 e[f]? (sc2 k es u hw ver id p i f x st K)
def sc4(k:Nat)(es:Row)(u:Bool)(hw ver:Nat)(id:Oid)(p:Pth)(i f:Nat)(x:IV)(st:St)(K:St->Prop)(es':Row):Prop:=op3 es'[i]? (sc3 k es u hw ver id p i f x st K)
section sc
variable {k:Nat} {es:Row} {u:Bool} {hw ver:Nat} {id:Oid} {p:Pth} {i f s:Nat} {x:IV}
theorem ZB8:sc1 (some (.ar k es u hw ver)) id p i f s x st K=(X9 p s hw ver u/\op3 (getp es p) (sc4 k es u hw ver id p i f x st K)):=(rfl)
theorem ZB9{e:List Tr}:sc3 k es u hw ver id p i f x st K e=op3 e[f]? (sc2 k es u hw ver id p i f x st K):=(rfl)
theorem ZCa{es':Row}:sc4 k es u hw ver id p i f x st K es'=op3 es'[i]? (sc3 k es u hw ver id p i f x st K):=(rfl)
theorem ZCb{y:Value}{t0:Tr}:sc2 k es u hw ver id p i f (.tr (.v y)) st K t0=(isSc t0=true/\K (Zo st id (.ar k (Vs es p i f (.v y)) u hw ver))):=(rfl)
theorem Zxp{t0:Tr}:sc2 k es u hw ver id p i f (.cs []) st K t0=(p=[]/\K (Zo st id (.ar k (Vs es [] i f (.sl [])) u hw (ver+1)))):=(rfl)
theorem Zxq{zs:Row}{t0:Tr}:sc2 k es u hw ver id p i f (.tr (.sl zs)) st K t0=(p=[]/\K (Zo st id (.ar k (Vs es [] i f (.sl zs)) false hw (ver+1)))):=(rfl)
def sc5(o:Option Ob)(k:Nat)(es:Row)(u:Bool)(hw ver:Nat)(id:Oid)(i f len s2:Nat)(st2 st:St)(K:St->Prop):Prop :=
 match o with
 | some (.ar _ zs u2 hw2 _)=>s2=hw2/\len=zs.length/\K (Zo st2 id (.ar k (Vs es [] i f (.sl zs)) (u&&u2) hw (ver+1)))
 | _=>False
theorem Zxr{key len s2:Nat}{t0:Tr}:sc2 k es u hw ver id p i f (.hd (lvl,key) [] 0 len none s2) ⟨lvl,env,loc,out⟩ K t0=(p=[]/\(lvl,key)≠id/\sc5 (lkO key loc) k es u hw ver id i f len s2 (Y8 (lvl,key) ⟨lvl,env,loc,out⟩) ⟨lvl,env,loc,out⟩ K):=by
 simp only[sc2]
 rw[show (⟨lvl,env,loc,out⟩:St).sto (lvl,key)=lkO key loc from J5]
 generalize lkO key loc=o
 apply propext
 constructor
 ·rintro⟨h1,h2,_,h3⟩
  refine⟨h1,h2,?_⟩
  cases o with
  | none=>exact h3
  | some ob=>cases ob <;> exact h3
 ·rintro⟨h1,h2,h3⟩
  refine⟨h1,h2,trivial,?_⟩
  cases o with
  | none=>exact h3
  | some ob=>cases ob <;> exact h3
theorem ZCc{k2:Nat}{zs:Row}{u2:Bool}{hw2 ver2 len s2:Nat}{st2:St}:sc5 (some (.ar k2 zs u2 hw2 ver2)) k es u hw ver id i f len s2 st2 st K=(s2=hw2/\len=zs.length/\K (Zo st2 id (.ar k (Vs es [] i f (.sl zs)) (u&&u2) hw (ver+1)))):=(rfl)
end sc
theorem ZEy{k n:Nat}{z:List Value}{ps:List (Nat×X)}:op2 C d (.bw k n z ps) ⟨lvl,env,loc,out⟩ K=ew C d ⟨lvl,env,loc,out⟩ K (.bw k n z ps):=Je rfl
def kbw(k lvl:Nat)(d:Option Nat)(K:St->Prop)(ts:List Tr)(u:Bool)(st':St):Prop :=
 K { Zo st' (lvl,keyOf d) (.ar k [ts] u 1 0) with env:=ptd d (.hd (lvl,keyOf d) [] 0 1 none 1) st'.env }
theorem ZCd{k:Nat}{ts:List Tr}{u:Bool}:kbw k lvl d K ts u ⟨lvl,env,loc,out⟩=K ⟨lvl,ptd d (.hd (lvl,keyOf d) [] 0 1 none 1) env,ptO (keyOf d) (.ar k [ts] u 1 0) loc,out⟩:=by
 simp only[kbw,Zcu]
def bw2(v:Option (List IV))(k n:Nat)(d:Option Nat)(loc:List (Nat×Ob))(lvl:Nat)(st:St)(K:St->Prop):Prop :=
 match v with
 | some l=>n=1/\l.length=k/\freshK (keyOf d) loc 1/\Zk8 l st (kbw k lvl d K)
 | none=>False
theorem ZCe{k n:Nat}{z:List Value}{x:X}:ew C d ⟨lvl,env,loc,out⟩ K (.bw k n z [(0,x)])=bw2 (cellsOf (xv env x)) k n d loc lvl ⟨lvl,env,loc,out⟩ K:=by
 simp only[ew]
 generalize cellsOf (xv env x)=v
 cases v with
 | none=>simp [bw2]
 | some l=>rfl
theorem ZCf{k n:Nat}{l:List IV}:bw2 (some l) k n d loc lvl st K=(n=1/\l.length=k/\freshK (keyOf d) loc 1/\Zk8 l st (kbw k lvl d K)):=(rfl)
def kmv(r:List IV)(F:List Tr->Bool->St->Prop)(t:Tr)(a:Bool)(st':St):Prop:=Zk8 r st' fun ts b st'' => F (t::ts) (a&&b) st''
def kmc(t:Tr)(a:Bool)(F:List Tr->Bool->St->Prop)(ts:List Tr)(b:Bool)(st'':St):Prop:=F (t::ts) (a&&b) st''
section mv
variable {r:List IV} {F:List Tr->Bool->St->Prop} {F1:Tr->Bool->St->Prop}
theorem ZCg{t:Tr}{a:Bool}:kmv r F t a st=Zk8 r st (kmc t a F):=(rfl)
theorem ZCh{t:Tr}{a:Bool}{ts:List Tr}{b:Bool}:kmc t a F ts b st=F (t::ts) (a&&b) st:=(rfl)
theorem Zur:Zk8 [] st F=F [] true st:=(rfl)
theorem Zus{x:IV}:Zk8 (x::r) st F=mvc st x (kmv r F):=(rfl)
theorem Zxs{y:Value}:mvc st (.tr (.v y)) F1=F1 (.v y) true st:=(rfl)
theorem Zxt{es:Row}:mvc st (.tr (.sl es)) F1=F1 (.sl es) false st:=(rfl)
theorem Zxu:mvc st (.cs []) F1=F1 (.sl []) true st:=(rfl)
def mv5(o:Option Ob)(len s2:Nat)(st1:St)(F1:Tr->Bool->St->Prop):Prop :=
 match o with
 | some (.ar _ zs u2 hw2 _)=>s2=hw2/\len=zs.length/\F1 (.sl zs) u2 st1
 | _=>False
theorem Zxv{key len s2:Nat}:mvc ⟨lvl,env,loc,out⟩ (.hd (lvl,key) [] 0 len none s2) F1=mv5 (lkO key loc) len s2 (Y8 (lvl,key) ⟨lvl,env,loc,out⟩) F1:=by
 simp only[mvc]
 rw[show (⟨lvl,env,loc,out⟩:St).sto (lvl,key)=lkO key loc from J5]
 generalize lkO key loc=o
 apply propext
 constructor
 ·rintro⟨_,h3⟩
  cases o with
  | none=>exact h3
  | some ob=>cases ob <;> exact h3
 ·intro h3
  refine⟨trivial,?_⟩
  cases o with
  | none=>exact h3
  | some ob=>cases ob <;> exact h3
theorem ZCi{k2:Nat}{zs:Row}{u2:Bool}{hw2 ver2 len s2:Nat}:mv5 (some (.ar k2 zs u2 hw2 ver2)) len s2 st F1=(s2=hw2/\len=zs.length/\F1 (.sl zs) u2 st):=(rfl)
end mv
def Zxw:IV->Prop
 | .hd _ [] 0 _ none _=>True
 | _=>False
theorem Zxx{id:Oid}{len s:Nat}:Zxw (.hd id [] 0 len none s)=True:=(rfl)
def Zs3:List IV->Prop
 | []=>True
 | .tr (.v _)::r=>Zs3 r
 | _=>False
theorem Zut:Zs3 []=True:=(rfl)
theorem Zuu{y:Value}{r:List IV}:Zs3 (.tr (.v y)::r)=Zs3 r:=(rfl)
def smp(p:IV)(l:Option (List IV)):Prop :=
 match p with
 | .ab .. => True
 | .ae .. => l≠some []/\Zs3 (l.getD [])
 | _=>False
theorem Zxy{id:Oid}{off:Nat}{l:Option (List IV)}:smp (.ab id off) l=True:=(rfl)
theorem Zxz{id:Oid}{p:Pth}{i f s:Nat}{x:IV}{r:List IV}:smp (.ae id p i f s) (some (x::r))=Zs3 (x::r):=by simp [smp]
theorem ZmF{id:Oid}{p:Pth}{i s k:Nat}{u:Bool}{hw ver:Nat}:∀(l:List IV) (f:Nat) (es:Row) (st0:St) (K:St->Prop),Zs3 l->st0.sto id=some (.ar k es u hw ver)->Zh8 id p i s f l st0 K->stq p i f l es (fun es' => K (Zo st0 id (.ar k es' u hw ver)))\/l=[]
 | [],f,es,st0,K,_,_,h=>.inr rfl
 | x::r,f,es,st0,K,ha,hs,h=>by
  refine .inl ?_
  simp only[Zh8,stc] at h
  rw[hs] at h
  obtain⟨es',hg,hst,e,hi,t0,hf,h⟩:=h
  cases x with
  | tr t =>
   cases t with
   | v y =>
    obtain⟨hsc,h⟩:=h
    simp only[stq]
    refine⟨es',hg,e,hi,t0,hf,hsc,?_⟩
    have hs1:(Zo st0 id (.ar k (Vs es p i f (.v y)) u hw ver)).sto id=some (.ar k (Vs es p i f (.v y)) u hw ver):=by rw[Jb];unfold ZN;rw[if_pos rfl]
    rcases ZmF r (f+1) _ _ K ha hs1 h with g | g
    ·simp only[Zac] at g
     exact g
    ·subst g
     exact h
   | sl=>cases ha
  | _=>cases ha
theorem ZEz{m:Nat}{p x:X}:op2 C d (.s0 m p x) ⟨lvl,env,loc,out⟩ K=(smp (xv env p) (cellsOf (xv env x))/\op2 C d (.st m p x) ⟨lvl,env,loc,out⟩ K):=by
 rw[Je rfl,Je rfl]
 simp only[ew,ZbU]
 generalize cellsOf (xv env x)=v
 generalize xv env p=q
 apply propext
 constructor
 ·rintro⟨h0,h⟩
  split at h <;> try contradiction
  rename_i l
  obtain⟨h1,h⟩:=h
  split at h <;> try contradiction
  ·exact⟨trivial,h0,h1,h⟩
  ·rename_i id p i f s
   split at h <;> try contradiction
   rename_i k es u hw ver hs
   obtain⟨g1,g2,g3⟩:=h
   refine⟨⟨by simpa using g1,?_⟩,h0,h1,Zil g2 l f es _ K hs g3 (fun e=>absurd e g1)⟩
   have:∀(l:List IV) (f:Nat) (es:Row) (K:Row->Prop),stq p i f l es K->Zs3 l:=by
    intro l
    induction l with
    | nil=>intros;trivial
    | cons x r ih =>
     intro f es K h
     simp only[stq] at h
     obtain⟨_,_,_,_,_,_,_,h⟩:=h
     split at h <;> try contradiction
     exact ih _ _ _ h
   exact this _ _ _ _ g3
 ·rintro⟨h3,h0,h⟩
  refine⟨h0,?_⟩
  split at h <;> try contradiction
  rename_i l
  obtain⟨h1,h⟩:=h
  refine⟨h1,?_⟩
  split at h <;> try contradiction
  ·exact h
  ·rename_i id p i f s
   obtain⟨g1,g2⟩:=h3
   cases l with
   | nil=>exact absurd rfl g1
   | cons y r =>
    have h':=h
    simp only[Zh8,stc] at h'
    split at h' <;> try contradiction
    rename_i k es u hw ver hs
    refine⟨by simp,h'.choose_spec.2.1,?_⟩
    rcases ZmF _ _ _ _ K g2 hs h with g | g
    ·exact g
    ·cases g
theorem ZEA{k:Nat}{x y:X}:op2 C d (.a0 k x y) ⟨lvl,env,loc,out⟩ K=(Zxw (xv env x)/\op2 C d (.ap k 0 x y) ⟨lvl,env,loc,out⟩ K):=by
 rw[Je rfl,Je rfl]
 apply propext
 constructor
 ·intro he
  refine⟨?_,Zmr he⟩
  simp only[ew,ZbU] at he
  split at he <;> try contradiction
  rename_i hx
  rw[hx];trivial
 ·rintro⟨h1,h⟩
  generalize hq:xv env x=q at h1
  unfold Zxw at h1
  split at h1 <;> try contradiction
  rename_i id len s
  have go:∀ items:Row,ScR items->Zay d k x loc items true ⟨lvl,env,loc,out⟩ K->match Zu lvl loc out id with
   | some (.ar k' es u hw ver)=>k'=k/\s=hw/\len=es.length/\ScR items/\UnR k items/\len+items.length<=bigN /\
     K { Zo ⟨lvl,env,loc,out⟩ id (.ar k (es++items) u (max hw (len+items.length)) ver) with env:=ptd d (.hd id [] 0 (len+items.length) none (max hw (len+items.length))) env }
   | _=>False:=fun items hsc h=>by
   unfold Zay at h
   obtain⟨g1,h⟩:=h
   simp only[hq] at h
   rw[show (⟨lvl,env,loc,out⟩:St).sto id=Zu lvl loc out id from rfl] at h
   generalize Zu lvl loc out id=o at h ⊢
   cases o with
   | none=>exact h
   | some ob =>
    cases ob with
    | bx=>exact h
    | ar k' es u hw ver =>
     simp only[Bool.and_true] at h
     exact⟨h.1,h.2.1,h.2.2.1,hsc,g1,h.2.2.2.1,h.2.2.2.2⟩
  simp only[ew,ZbU,Zk6] at h ⊢
  rw[hq]
  rw[show (⟨lvl,env,loc,out⟩:St).sto=Zu lvl loc out from rfl] at *
  split at h <;> try contradiction
  ·rename_i zs hy
   simp only[if_true] at h
   have:=go zs h.1 h.2
   rw[hy]
   exact this
  ·rename_i zs hy
   simp only[if_true] at h
   have:=go zs h.1 h.2
   rw[hy]
   exact this
  ·rename_i id2 p2 off2 len2 c2 s2 hy
   simp only[if_true] at h
   rw[hy]
   dsimp only
   unfold rdh at h ⊢
   generalize Zu lvl loc out id2=o3 at h ⊢
   cases o3 with
   | none=>exact h.elim
   | some ob3 =>
    cases ob3 with
    | bx=>exact h.elim
    | ar k3 es3 u3 hw3 ver3 =>
     obtain⟨es',q1,q2,q3,q4,q5⟩:=h
     have:=go _ q4 q5
     split at this <;> try contradiction
     rename_i hs
     show (match Zu lvl loc out id with
      | some (.ar k' es u hw ver)=>k'=k/\s=hw/\len=es.length/\∃ es',getp es3 p2=some es'/\X9 p2 s2 hw3 ver3 u3/\off2+len2<=es'.length/\ScR (cut es' off2 len2)/\UnR k (cut es' off2 len2)/\len+(cut es' off2 len2).length<=bigN /\
        K { Zo ⟨lvl,env,loc,out⟩ id (.ar k (es++cut es' off2 len2) u (max hw (len+(cut es' off2 len2).length)) ver) with env:=ptd d (.hd id [] 0 (len+(cut es' off2 len2).length) none (max hw (len+(cut es' off2 len2).length))) env }
      | _=>False)
     rw[hs]
     exact⟨this.1,this.2.1,this.2.2.1,es',q1,q2,q3,this.2.2.2⟩
  ·exact absurd h.1 (by decide)
def Zza:IV->Prop
 | .tr (.sl _)=>True
 | .cs _=>True
 | _=>False
theorem Zuv{es:Row}:Zza (.tr (.sl es))=True:=(rfl)
theorem Zuw{es:Row}:Zza (.cs es)=True:=(rfl)
theorem ZEB{k:Nat}{x y:X}:op2 C d (.a1 k x y) ⟨lvl,env,loc,out⟩ K=(Zxw (xv env x)/\Zza (xv env y)/\op2 C d (.ap k 1 x y) ⟨lvl,env,loc,out⟩ K):=by
 rw[Je rfl,Je rfl]
 apply propext
 constructor
 ·intro he
  refine⟨?_,?_,Zms he⟩
  ·simp only[ew,ZbU] at he
   split at he <;> try contradiction
   rename_i hx
   rw[hx];trivial
  ·simp only[ew,ZbU] at he
   split at he <;> try contradiction
   split at he <;> try contradiction
   have h4:=he.2.2.2
   unfold ZvB at h4
   split at h4 <;> try contradiction
   ·rename_i hy;rw[hy];trivial
   ·rename_i hy;rw[hy];trivial
 ·rintro⟨h1,h2,h⟩
  generalize hq:xv env x=q at h1
  unfold Zxw at h1
  split at h1 <;> try contradiction
  rename_i id len s
  have go:∀ items:Row,Zay d k x loc items false ⟨lvl,env,loc,out⟩ K->match Zu lvl loc out id with
   | some (.ar k' es u hw ver)=>k'=k/\s=hw/\len=es.length/\UnR k items/\len+items.length<=bigN /\
     K { Zo ⟨lvl,env,loc,out⟩ id (.ar k (es++items) false (max hw (len+items.length)) ver) with env:=ptd d (.hd id [] 0 (len+items.length) none (max hw (len+items.length))) env }
   | _=>False:=fun items h=>by
   unfold Zay at h
   obtain⟨g1,h⟩:=h
   simp only[hq] at h
   rw[show (⟨lvl,env,loc,out⟩:St).sto id=Zu lvl loc out id from rfl] at h
   generalize Zu lvl loc out id=o at h ⊢
   cases o with
   | none=>exact h
   | some ob =>
    cases ob with
    | bx=>exact h
    | ar k' es u hw ver =>
     simp only[Bool.and_false] at h
     exact⟨h.1,h.2.1,h.2.2.1,g1,h.2.2.2.1,h.2.2.2.2⟩
  simp only[ew,ZbU,ZvB] at h ⊢
  rw[hq]
  rw[show (⟨lvl,env,loc,out⟩:St).sto=Zu lvl loc out from rfl] at *
  generalize hy:xv env y=yv at h h2 ⊢
  unfold Zza at h2
  split at h2 <;> try contradiction
  ·simp only[Nat.reduceEqDiff,if_false,true_and] at h
   exact go _ h
  ·simp only[Nat.reduceEqDiff,if_false,true_and] at h
   exact go _ h
def az1(x n:IV)(d:Option Nat)(k:Nat)(z:List Value)(st:St)(K:St->Prop):Prop :=
 match x with
 | .cs [] =>
  match n with
  | .tr (.v (.int .i64 m))=>0<m/\m<=bigN/\freshK (keyOf d) st.loc 1 /\
    K { Zo st (st.lvl,keyOf d) (.ar k (List.replicate m.toNat (z.map trv)) true m.toNat 0) with env:=ptd d (.hd (st.lvl,keyOf d) [] 0 m.toNat none m.toNat) st.env }
  | _=>False
 | _=>False
theorem ZEC{k:Nat}{z:List Value}{x n:X}:op2 C d (.az k z x n) ⟨lvl,env,loc,out⟩ K=az1 (xv env x) (xv env n) d k z ⟨lvl,env,loc,out⟩ K:=by
 rw[Je rfl]
 rfl
theorem ZCj{k:Nat}{z:List Value}{m:Int}:az1 (.cs []) (.tr (.v (.int .i64 m))) d k z ⟨lvl,env,loc,out⟩ K=(0<m/\m<=bigN/\freshK (keyOf d) loc 1/\K ⟨lvl,ptd d (.hd (lvl,keyOf d) [] 0 m.toNat none m.toNat) env,ptO (keyOf d) (.ar k (List.replicate m.toNat (z.map trv)) true m.toNat 0) loc,out⟩):=by
 simp only[az1,Zcu]
def tbx:IV->Prop
 | .ta _=>True
 | _=>False
theorem ZCk{cells:List Tr}:tbx (.ta cells)=True:=(rfl)
theorem ZED{m:Option Nat}{p:X}:op2 C d (.lt m p) ⟨lvl,env,loc,out⟩ K=(tbx (xv env p)/\op2 C d (.ld m p) ⟨lvl,env,loc,out⟩ K):=by
 cases m <;> (
  rw[Ye rfl,Ye rfl]
  simp only[ev]
  generalize hx:xv env p=q
  cases q <;> simp [tbx])
def av4(o:Option Ob)(id:Oid)(es:Row)(hw ver len off2 len2 s2 k:Nat)(d:Option Nat)(st:St)(K:St->Prop):Prop :=
 match o with
 | some (.ar _ es2 false hw2 _)=>s2=hw2/\off2+len2<=es2.length/\UnR k (cut es2 off2 len2)/\len+(cut es2 off2 len2).length<=bigN /\
   K { Zo st id (.ar k (es++cut es2 off2 len2) false (max hw (len+(cut es2 off2 len2).length)) ver) with env:=ptd d (.hd id [] 0 (len+(cut es2 off2 len2).length) none (max hw (len+(cut es2 off2 len2).length))) st.env }
 | _=>False
def av3(y:IV)(id:Oid)(es:Row)(hw ver len k:Nat)(d:Option Nat)(st:St)(K:St->Prop):Prop :=
 match y with
 | .hd id2 [] off2 len2 _ s2=>av4 (st.sto id2) id es hw ver len off2 len2 s2 k d st K
 | _=>False
def av2(o:Option Ob)(y:IV)(id:Oid)(len s k:Nat)(d:Option Nat)(st:St)(K:St->Prop):Prop :=
 match o with
 | some (.ar k' es _ hw ver)=>k'=k/\s=hw/\len=es.length/\av3 y id es hw ver len k d st K
 | _=>False
def av1(x y:IV)(k:Nat)(d:Option Nat)(st:St)(K:St->Prop):Prop :=
 match x with
 | .hd id [] 0 len none s=>av2 (st.sto id) y id len s k d st K
 | _=>False
theorem ZEE{k:Nat}{x y:X}:op2 C d (.a2 k x y) ⟨lvl,env,loc,out⟩ K=av1 (xv env x) (xv env y) k d ⟨lvl,env,loc,out⟩ K:=by
 rw[Je rfl]
 rfl
theorem ZCl{id:Oid}{len s k:Nat}{y:IV}:av1 (.hd id [] 0 len none s) y k d ⟨lvl,env,loc,out⟩ K=av2 (Zu lvl loc out id) y id len s k d ⟨lvl,env,loc,out⟩ K:=(rfl)
theorem ZCm{k' hw ver len s k:Nat}{es:Row}{u:Bool}{y:IV}{id:Oid}:av2 (some (.ar k' es u hw ver)) y id len s k d st K=(k'=k/\s=hw/\len=es.length/\av3 y id es hw ver len k d st K):=(rfl)
theorem ZCn{id id2:Oid}{es:Row}{hw ver len k off2 len2 s2:Nat}{c2:Option Nat}:av3 (.hd id2 [] off2 len2 c2 s2) id es hw ver len k d ⟨lvl,env,loc,out⟩ K=av4 (Zu lvl loc out id2) id es hw ver len off2 len2 s2 k d ⟨lvl,env,loc,out⟩ K:=(rfl)
theorem ZCo{key:Nat}{es es2:Row}{k2 hw ver len off2 len2 s2 k hw2 ver2:Nat}:av4 (some (.ar k2 es2 false hw2 ver2)) (lvl,key) es hw ver len off2 len2 s2 k d ⟨lvl,env,loc,out⟩ K=(s2=hw2/\off2+len2<=es2.length/\UnR k (cut es2 off2 len2)/\len+(cut es2 off2 len2).length<=bigN /\
   K ⟨lvl,ptd d (.hd (lvl,key) [] 0 (len+(cut es2 off2 len2).length) none (max hw (len+(cut es2 off2 len2).length))) env,ptO key (.ar k (es++cut es2 off2 len2) false (max hw (len+(cut es2 off2 len2).length)) ver) loc,out⟩):=by
 simp only[av4,Zcu]
def abx:IV->Prop
 | .ab .. => True
 | _=>False
theorem ZCp{id:Oid}{off:Nat}:abx (.ab id off)=True:=(rfl)
theorem ZEF{m:Option Nat}{p:X}:op2 C d (.lb m p) ⟨lvl,env,loc,out⟩ K=(abx (xv env p)/\op2 C d (.ld m p) ⟨lvl,env,loc,out⟩ K):=by
 cases m <;> (
  rw[Ye rfl,Ye rfl]
  simp only[ev]
  generalize hx:xv env p=q
  cases q <;> simp [abx])
def tcs:IV->Prop
 | .tr (.sl _)=>True
 | .cs _=>True
 | _=>False
theorem ZxA{es:Row}:tcs (.tr (.sl es))=True:=(rfl)
theorem ZxB{es:Row}:tcs (.cs es)=True:=(rfl)
theorem ZEG{k:Nat}{x:X}{lo hi mx:Option X}:op2 C d (.sy k x lo hi mx) ⟨lvl,env,loc,out⟩ K=(tcs (xv env x)/\op2 C d (.sx k x lo hi mx) ⟨lvl,env,loc,out⟩ K):=by
 rw[Ye rfl,Ye rfl]
 simp only[ev]
 generalize hx:xv env x=q
 cases q with
 | tr t =>
  cases t with
  | v=>simp [tcs]
  | sl es=>simp only[tcs,true_and]
 | cs es=>simp only[tcs,true_and]
 | _=>simp only[tcs,false_and]
def swx(L:Sto)(k:Nat):IV->Prop
 | .tr (.sl _)=>True
 | .cs _=>True
 | .hd id [] _ _ _ _=>wid L id [] k
 | _=>False
theorem ZxC{L:Sto}{k:Nat}{es:Row}:swx L k (.tr (.sl es))=True:=(rfl)
theorem ZxD{L:Sto}{k:Nat}{es:Row}:swx L k (.cs es)=True:=(rfl)
theorem ZxE{L:Sto}{k:Nat}{id:Oid}{off len s:Nat}{cap:Option Nat}:swx L k (.hd id [] off len cap s)=wid L id [] k:=(rfl)
def ZDE(m:Nat):Option Ob->Prop
 | some (.ar k _ _ _ _)=>k=m
 | _=>False
theorem ZxF{m k hw ver:Nat}{es:Row}{u:Bool}:ZDE m (some (.ar k es u hw ver))=(k=m):=(rfl)
theorem ZxG{key m:Nat}:wid (Zu lvl loc out) (lvl,key) [] m=ZDE m (lkO key loc):=by
 unfold wid
 rw[J5]
 cases lkO key loc with
 | none=>rfl
 | some ob=>cases ob <;> rfl
theorem ZEH{k:Nat}{x:X}{lo hi mx:Option X}:op2 C d (.sw k x lo hi mx) ⟨lvl,env,loc,out⟩ K=(swx (Zu lvl loc out) k (xv env x)/\op2 C d (.sx k x lo hi mx) ⟨lvl,env,loc,out⟩ K):=by
 rw[Ye rfl,Ye rfl]
 simp only[ev]
 generalize xv env x=q
 cases q with
 | tr t =>
  cases t with
  | v=>simp [swx]
  | sl es=>simp only[swx,true_and]
 | cs es=>simp only[swx,true_and]
 | hd id p off len cap s =>
  cases p with
  | nil =>
   simp only[swx]
   exact propext ⟨fun⟨hw,h⟩=>⟨hw,Xo (fun a h=>Xo (fun b h=>⟨h.1,h.2.1,Xo (fun m g=>⟨g.1,g.2.1,hw,g.2.2⟩) h.2.2⟩) h) h⟩,fun⟨hw,h⟩=>⟨hw,Xo (fun a h=>Xo (fun b h=>⟨h.1,h.2.1,Xo (fun m g=>⟨g.1,g.2.1,g.2.2.2⟩) h.2.2⟩) h) h⟩⟩
  | cons c r=>simp [swx]
 | _=>simp [swx]
theorem ZEI{k:Nat}{x i:X}:op2 C d (.it k x i) ⟨lvl,env,loc,out⟩ K=(tcs (xv env x)/\op2 C d (.ia k x i) ⟨lvl,env,loc,out⟩ K):=by
 rw[Ye rfl,Ye rfl]
 simp only[ev]
 generalize xv env x=q
 generalize xv env i=qi
 cases q with
 | tr t =>
  cases t with
  | v=>simp only[tcs,false_and];split <;> simp
  | sl es=>simp only[tcs,true_and]
 | cs es=>simp only[tcs,true_and]
 | _=>simp only[tcs,false_and];split <;> simp
def apx(v:IV)(d:Option Nat)(k:Nat)(loc0:List (Nat×Ob))(items:Row)(ui:Bool)(st1:St)(K:St->Prop):Prop :=
 UnR k items /\
 match v with
 | .cs zs=>(zs=[]\/items≠[])/\zs.length+items.length<=bigN/\UnR k zs/\freshK (keyOf d) loc0 1/\(zs=[]\/ui=false\/ScR zs) /\
  K { Zo st1 (st1.lvl,keyOf d) (.ar k (zs++items) ui (zs.length+items.length) 0) with env:=ptd d (.hd (st1.lvl,keyOf d) [] 0 (zs.length+items.length) none (zs.length+items.length)) st1.env }
 | .hd id [] 0 len none s =>
  match st1.sto id with
  | some (.ar k' es u hw ver)=>k'=k/\s=hw/\len=es.length/\len+items.length<=bigN /\
   K { Zo st1 id (.ar k (es++items) (u&&ui) (max hw (len+items.length)) ver) with env:=ptd d (.hd id [] 0 (len+items.length) none (max hw (len+items.length))) st1.env }
  | _=>False
 | _=>False
theorem ZxH{k:Nat}{x:X}{loc0:List (Nat×Ob)}{items:Row}{ui:Bool}:Zay d k x loc0 items ui ⟨lvl,env,loc,out⟩ K=apx (xv env x) d k loc0 items ui ⟨lvl,env,loc,out⟩ K:=(rfl)
theorem ZxI{k:Nat}{loc0:List (Nat×Ob)}{items zs:Row}{ui:Bool}:apx (.cs zs) d k loc0 items ui ⟨lvl,env,loc,out⟩ K=(UnR k items/\(zs=[]\/items≠[])/\zs.length+items.length<=bigN/\UnR k zs/\freshK (keyOf d) loc0 1/\(zs=[]\/ui=false\/ScR zs) /\
  K ⟨lvl,ptd d (.hd (lvl,keyOf d) [] 0 (zs.length+items.length) none (zs.length+items.length)) env,ptO (keyOf d) (.ar k (zs++items) ui (zs.length+items.length) 0) loc,out⟩):=by
 simp only[apx,Zcu]
def aph(o:Option Ob)(d:Option Nat)(k:Nat)(id:Oid)(len s:Nat)(items:Row)(ui:Bool)(st1:St)(K:St->Prop):Prop :=
 match o with
 | some (.ar k' es u hw ver)=>k'=k/\s=hw/\len=es.length/\len+items.length<=bigN /\
   K { Zo st1 id (.ar k (es++items) (u&&ui) (max hw (len+items.length)) ver) with env:=ptd d (.hd id [] 0 (len+items.length) none (max hw (len+items.length))) st1.env }
 | _=>False
theorem ZxJ{k key len s:Nat}{loc0:List (Nat×Ob)}{items:Row}{ui:Bool}:apx (.hd (lvl,key) [] 0 len none s) d k loc0 items ui ⟨lvl,env,loc,out⟩ K=(UnR k items/\aph (lkO key loc) d k (lvl,key) len s items ui ⟨lvl,env,loc,out⟩ K):=by
 simp only[apx]
 rw[show (⟨lvl,env,loc,out⟩:St).sto (lvl,key)=lkO key loc from J5]
 rfl
theorem ZCq{k k' key len s:Nat}{items es:Row}{u ui:Bool}{hw ver:Nat}:aph (some (.ar k' es u hw ver)) d k (lvl,key) len s items ui ⟨lvl,env,loc,out⟩ K=(k'=k/\s=hw/\len=es.length/\len+items.length<=bigN /\
   K ⟨lvl,ptd d (.hd (lvl,key) [] 0 (len+items.length) none (max hw (len+items.length))) env,ptO key (.ar k (es++items) (u&&ui) (max hw (len+items.length)) ver) loc,out⟩):=by
 simp only[aph,Zcu]
def ap2(C:Zl)(d:Option Nat)(k md:Nat)(x:X)(y:IV)(st:St)(K:St->Prop):Prop :=
 match y with
 | .tr (.sl es)=>if md=0 then ScR es/\Zay d k x st.loc es true st K else md=1/\Zay d k x st.loc es false st K
 | .cs es=>if md=0 then ScR es/\Zay d k x st.loc es true st K else md=1/\Zay d k x st.loc es false st K
 | .hd id2 p2 off2 len2 c2 s2 =>
   if md=2 then
    p2=[]/\off2=0/\c2=none/\id2.1=st.lvl /\
    match st.sto id2 with
    | some (.ar _ zs u2 hw2 _)=>s2=hw2/\len2=zs.length/\Zay d k x st.loc zs u2 (Y8 id2 st) K
    | _=>False
   else if md=0 then
    rdh st.sto id2 p2 s2 fun es _ _=>off2+len2<=es.length/\ScR (cut es off2 len2)/\Zay d k x st.loc (cut es off2 len2) true st K
   else md=1/\p2=[] /\
    match st.sto id2 with
    | some (.ar k2 es _ hw2 ver2)=>s2=hw2/\off2+len2<=es.length/\Zay d k x st.loc (cut es off2 len2) false (Zo st id2 (.ar k2 es false hw2 ver2)) K
    | _=>False
 | .sv id2=>md=2/\id2.1=st.lvl /\
   match st.sto id2 with
   | some (.bx l)=>l.length=k/\Zk8 l st fun ts u st' => Zay d k x st.loc [ts] u (Y8 id2 st') K
   | _=>False
 | _=>False
theorem ZEJ{k md:Nat}{x y:X}:op2 C d (.ap k md x y) ⟨lvl,env,loc,out⟩ K=ap2 C d k md x (xv env y) ⟨lvl,env,loc,out⟩ K:=by
 rw[Je rfl]
 rfl
section ap
variable {k:Nat} {x:X}
theorem ZCr{es:Row}:ap2 C d k 0 x (.tr (.sl es)) ⟨lvl,env,loc,out⟩ K=(ScR es/\Zay d k x loc es true ⟨lvl,env,loc,out⟩ K):=(rfl)
theorem ZCs{es:Row}:ap2 C d k 1 x (.tr (.sl es)) ⟨lvl,env,loc,out⟩ K=Zay d k x loc es false ⟨lvl,env,loc,out⟩ K:=by simp [ap2]
theorem ZxK{es:Row}:ap2 C d k 0 x (.cs es) ⟨lvl,env,loc,out⟩ K=(ScR es/\Zay d k x loc es true ⟨lvl,env,loc,out⟩ K):=(rfl)
theorem ZxL{es:Row}:ap2 C d k 1 x (.cs es) ⟨lvl,env,loc,out⟩ K=Zay d k x loc es false ⟨lvl,env,loc,out⟩ K:=by simp [ap2]
def kap(d:Option Nat)(k:Nat)(x:X)(off2 len2:Nat)(st:St)(K:St->Prop)(es:Row)(_u:Bool)(_v:Nat):Prop:=off2+len2<=es.length/\ScR (cut es off2 len2)/\Zay d k x st.loc (cut es off2 len2) true st K
theorem ZCt{off2 len2:Nat}{es:Row}{u:Bool}{v:Nat}:kap d k x off2 len2 ⟨lvl,env,loc,out⟩ K es u v=(off2+len2<=es.length/\ScR (cut es off2 len2)/\Zay d k x loc (cut es off2 len2) true ⟨lvl,env,loc,out⟩ K):=(rfl)
theorem ZxM{id2:Oid}{p2:Pth}{off2 len2 s2:Nat}{c2:Option Nat}:ap2 C d k 0 x (.hd id2 p2 off2 len2 c2 s2) ⟨lvl,env,loc,out⟩ K=rd3 (Zu lvl loc out id2) p2 s2 (kap d k x off2 len2 ⟨lvl,env,loc,out⟩ K):=by
 rw[<-Za4]
 rfl
def ap5(o:Option Ob)(d:Option Nat)(k:Nat)(x:X)(len2 s2:Nat)(loc0:List (Nat×Ob))(st1:St)(K:St->Prop):Prop :=
 match o with
 | some (.ar _ zs u2 hw2 _)=>s2=hw2/\len2=zs.length/\Zay d k x loc0 zs u2 st1 K
 | _=>False
theorem ZxN{key:Nat}{p2:Pth}{off2 len2 s2:Nat}{c2:Option Nat}:ap2 C d k 2 x (.hd (lvl,key) p2 off2 len2 c2 s2) ⟨lvl,env,loc,out⟩ K=(p2=[]/\off2=0/\c2=none/\ap5 (lkO key loc) d k x len2 s2 loc (Y8 (lvl,key) ⟨lvl,env,loc,out⟩) K):=by
 simp only[ap2,if_true]
 rw[show (⟨lvl,env,loc,out⟩:St).sto (lvl,key)=lkO key loc from J5]
 generalize lkO key loc=o
 apply propext
 constructor
 ·rintro⟨h1,h2,h3,_,h5⟩
  refine⟨h1,h2,h3,?_⟩
  cases o with
  | none=>exact h5
  | some ob=>cases ob <;> exact h5
 ·rintro⟨h1,h2,h3,h5⟩
  refine⟨h1,h2,h3,trivial,?_⟩
  cases o with
  | none=>exact h5
  | some ob=>cases ob <;> exact h5
theorem ZCu{k2:Nat}{zs:Row}{u2:Bool}{hw2 ver2 len2 s2:Nat}{loc0:List (Nat×Ob)}{st1:St}:ap5 (some (.ar k2 zs u2 hw2 ver2)) d k x len2 s2 loc0 st1 K=(s2=hw2/\len2=zs.length/\Zay d k x loc0 zs u2 st1 K):=(rfl)
def ZCv(d:Option Nat)(k:Nat)(x:X)(loc0:List (Nat×Ob))(id2:Oid)(K:St->Prop)(ts:List Tr)(u:Bool)(st':St):Prop:=Zay d k x loc0 [ts] u (Y8 id2 st') K
theorem ZxO{loc0:List (Nat×Ob)}{id2:Oid}{ts:List Tr}{u:Bool}:ZCv d k x loc0 id2 K ts u st=Zay d k x loc0 [ts] u (Y8 id2 st) K:=(rfl)
def aps(o:Option Ob)(d:Option Nat)(k:Nat)(x:X)(loc0:List (Nat×Ob))(id2:Oid)(st1:St)(K:St->Prop):Prop :=
 match o with
 | some (.bx l)=>l.length=k/\Zk8 l st1 (ZCv d k x loc0 id2 K)
 | _=>False
theorem ZCw{l:List IV}{loc0:List (Nat×Ob)}{id2:Oid}{st1:St}:aps (some (.bx l)) d k x loc0 id2 st1 K=(l.length=k/\Zk8 l st1 (ZCv d k x loc0 id2 K)):=(rfl)
theorem ZxP{key:Nat}:ap2 C d k 2 x (.sv (lvl,key)) ⟨lvl,env,loc,out⟩ K=aps (lkO key loc) d k x loc (lvl,key) ⟨lvl,env,loc,out⟩ K:=by
 simp only[ap2]
 rw[show (⟨lvl,env,loc,out⟩:St).sto (lvl,key)=lkO key loc from J5]
 generalize lkO key loc=o
 apply propext
 constructor
 ·rintro⟨_,_,h⟩
  cases o with
  | none=>exact h
  | some ob=>cases ob <;> exact h
 ·intro h
  refine⟨trivial,trivial,?_⟩
  cases o with
  | none=>exact h
  | some ob=>cases ob <;> exact h
end ap
theorem Zux{L:Sto}{F:List IV->Prop}:∀{l:List Tr},JE L (l.map .tr) F=F (l.map .tr)
 | []=>ZtZ
 | t::r=>by rw[List.map_cons,ZwJ,Zux,ZwF]
theorem ZiA{Pd:Oid->Prop}:∀{l:List Tr},Zf Pd (l.map .tr)=True
 | []=>rfl
 | t::r=>by simp only[List.map_cons,Zf,men,ZiA,and_self]
def nlf(v:IV)(neg:Bool)(lvl:Nat)(env:List (Nat×IV))(loc:List (Nat×Ob))(out:Sto)(d:Option Nat)(K:St->Prop):Prop :=
 match v with
 | .tr (.sl es)=>K ⟨lvl,ptd d (iB neg) env,loc,out⟩/\(es=[]->K ⟨lvl,ptd d (iB !neg) env,loc,out⟩)
 | .cs es=>K ⟨lvl,ptd d (iB neg) env,loc,out⟩/\(es=[]->K ⟨lvl,ptd d (iB !neg) env,loc,out⟩)
 | _=>False
theorem ZEK{C:Zl}{d:Option Nat}{neg:Bool}{x:X}{lvl:Nat}{env:List (Nat×IV)}{loc:List (Nat×Ob)}{out:Sto}{K:St->Prop}:op2 C d (.nl neg x) ⟨lvl,env,loc,out⟩ K=nlf (xv env x) neg lvl env loc out d K:=by
 rw[Je rfl]
 rfl
theorem ZCx{neg:Bool}{es:Row}{d:Option Nat}{lvl:Nat}{env:List (Nat×IV)}{loc:List (Nat×Ob)}{out:Sto}{K:St->Prop}:nlf (.tr (.sl es)) neg lvl env loc out d K=(K ⟨lvl,ptd d (iB neg) env,loc,out⟩/\(es=[]->K ⟨lvl,ptd d (iB !neg) env,loc,out⟩)):=(rfl)
theorem ZCy{neg:Bool}{es:Row}{d:Option Nat}{lvl:Nat}{env:List (Nat×IV)}{loc:List (Nat×Ob)}{out:Sto}{K:St->Prop}:nlf (.cs es) neg lvl env loc out d K=(K ⟨lvl,ptd d (iB neg) env,loc,out⟩/\(es=[]->K ⟨lvl,ptd d (iB !neg) env,loc,out⟩)):=(rfl)
section row
variable {C:Zl} {d:Option Nat} {x y hi:X} {lvl:Nat} {env:List (Nat×IV)} {loc:List (Nat×Ob)} {out:Sto} {K:St->Prop} {st:St}
def ZjI(d:Option Nat)(x:IV)(st:St)(K:St->Prop):Prop:=K { st with env:=ptd d x st.env }
theorem ZxQ{v:IV}:ZjI d v ⟨lvl,env,loc,out⟩ K=K ⟨lvl,ptd d v env,loc,out⟩:=(rfl)
theorem ZfF{v:IV}{id:Oid}{ob:Ob}:ZjI d v (Zo st id ob) K=K { Zo st id ob with env:=ptd d v st.env }:=by
 unfold ZjI
 rw[Ws]
def cpf(v:IV)(lvl:Nat)(env:List (Nat×IV))(loc:List (Nat×Ob))(out:Sto)(d:Option Nat)(K:St->Prop):Prop :=
 match v with
 | .cs es=>K ⟨lvl,ptd d (iI es.length) env,loc,out⟩
 | _=>False
theorem ZEL:op2 C d (.cp x) ⟨lvl,env,loc,out⟩ K=cpf (xv env x) lvl env loc out d K:=by
 rw[Je rfl]
 rfl
theorem ZCz{es:Row}:cpf (.cs es) lvl env loc out d K=K ⟨lvl,ptd d (iI es.length) env,loc,out⟩:=(rfl)
def shg(o:Option Ob)(id:Oid)(m:Int)(len s k:Nat)(d:Option Nat)(st:St)(K:St->Prop):Prop :=
 match o with
 | some (.ar k2 es u hw ver)=>k2=k/\s=hw/\0<=m/\m.toNat<=len/\len<=es.length/\ZjI d (.hd id [] 0 m.toNat none hw) (Zo st id (.ar k2 (es.take m.toNat) u hw (ver+1))) K
 | _=>False
def shf(v hv:IV)(k:Nat)(d:Option Nat)(st:St)(K:St->Prop):Prop :=
 match v with
 | .cs es =>
  match hv with
  | .tr (.v (.int _ m))=>m=es.length/\UnR k es/\ZjI d (.cs es) st K
  | _=>False
 | .hd id p off len cap s =>
  match hv with
  | .tr (.v (.int _ m))=>p=[]/\off=0/\cap=none/\shg (st.sto id) id m len s k d st K
  | _=>False
 | _=>False
theorem ZEM{k:Nat}:op2 C d (.sh k x hi) ⟨lvl,env,loc,out⟩ K=shf (xv env x) (xv env hi) k d ⟨lvl,env,loc,out⟩ K:=by
 rw[Je rfl]
 simp only[ew]
 generalize xv env x=v
 cases v <;> try rfl
 rename_i id p off len cap s
 generalize xv env hi=hv
 cases hv <;> try rfl
 rename_i t
 cases t <;> try rfl
 rename_i q
 cases q <;> try rfl
 simp only[shf,shg]
 generalize (⟨lvl,env,loc,out⟩:St).sto id=o
 cases o with
 | none=>simp
 | some ob =>
  cases ob with
  | bx=>simp
  | ar k2 es u hw ver=>simp only[ZfF]
theorem ZCA{id:Oid}{len s k:Nat}{kk:IntKind}{m:Int}:shf (.hd id [] 0 len none s) (.tr (.v (.int kk m))) k d ⟨lvl,env,loc,out⟩ K=shg (Zu lvl loc out id) id m len s k d ⟨lvl,env,loc,out⟩ K:=by
 simp only[shf,true_and]
 rfl
theorem ZCB{es:Row}{k:Nat}{kk:IntKind}{m:Int}:shf (.cs es) (.tr (.v (.int kk m))) k d ⟨lvl,env,loc,out⟩ K=(m=es.length/\UnR k es/\ZjI d (.cs es) ⟨lvl,env,loc,out⟩ K):=(rfl)
theorem ZCC{id:Oid}{len s k k2 hw ver:Nat}{es:Row}{u:Bool}{m:Int}:shg (some (.ar k2 es u hw ver)) id m len s k d st K=(k2=k/\s=hw/\0<=m/\m.toNat<=len/\len<=es.length/\ZjI d (.hd id [] 0 m.toNat none hw) (Zo st id (.ar k2 (es.take m.toNat) u hw (ver+1))) K):=(rfl)
def fzg(o:Option Ob)(len s:Nat)(d:Option Nat)(st1:St)(K:St->Prop):Prop :=
 match o with
 | some (.ar _ zs _ hw _)=>s=hw/\len=zs.length/\ZjI d (.tr (.sl zs)) st1 K
 | _=>False
def fzf(v:IV)(d:Option Nat)(st:St)(K:St->Prop):Prop :=
 match v with
 | .hd id [] 0 len none s=>id.1=st.lvl/\fzg (st.sto id) len s d (Y8 id st) K
 | _=>False
theorem ZEN:op2 C d (.fz x) ⟨lvl,env,loc,out⟩ K=fzf (xv env x) d ⟨lvl,env,loc,out⟩ K:=by
 rw[Je rfl]
 simp only[ew]
 generalize xv env x=v
 unfold fzf
 split
 ·rename_i id len s
  simp only[fzg]
  generalize (⟨lvl,env,loc,out⟩:St).sto id=o
  cases o with
  | none=>rfl
  | some ob=>cases ob <;> rfl
 ·rename_i hv
  split
  ·exact(hv _ _ _ rfl).elim
  ·rfl
theorem ZCD{key len s:Nat}:fzf (.hd (lvl,key) [] 0 len none s) d ⟨lvl,env,loc,out⟩ K=fzg (lkO key loc) len s d (Y8 (lvl,key) ⟨lvl,env,loc,out⟩) K:=by
 simp only[fzf,true_and]
 rw[show (⟨lvl,env,loc,out⟩:St).sto (lvl,key)=lkO key loc from J5]
theorem ZCE{len s k hw ver:Nat}{zs:Row}{u:Bool}:fzg (some (.ar k zs u hw ver)) len s d st K=(s=hw/\len=zs.length/\ZjI d (.tr (.sl zs)) st K):=(rfl)
def drp(o:Option Ob)(id:Oid)(st:St):St :=
 match o with
 | none=>st
 | some _=>Y8 id st
theorem ZxR{id:Oid}:drp none id st=st:=(rfl)
theorem ZxS{ob:Ob}{id:Oid}:drp (some ob) id st=Y8 id st:=(rfl)
def rkg(o:Option Ob)(len s:Nat)(id0:Oid)(d:Option Nat)(st1:St)(K:St->Prop):Prop :=
 match o with
 | some (.ar k zs u hw ver)=>s=hw/\len=zs.length/\ZjI d (.hd id0 [] 0 len none s) (Zo st1 id0 (.ar k zs u hw ver)) K
 | _=>False
def rkf(v:IV)(d:Option Nat)(st:St)(K:St->Prop):Prop :=
 match v with
 | .hd id [] 0 len none s=>id.1=st.lvl/\(st.lvl,keyOf d)≠id/\rkg (st.sto id) len s (st.lvl,keyOf d) d (Y8 id (ZgS (st.lvl,keyOf d) st)) K
 | _=>False
theorem ZEO:op2 C d (.rk x) ⟨lvl,env,loc,out⟩ K=rkf (xv env x) d ⟨lvl,env,loc,out⟩ K:=by
 rw[Je rfl]
 simp only[ew]
 generalize xv env x=v
 unfold rkf
 split
 ·rename_i id len s
  simp only[rkg]
  generalize (⟨lvl,env,loc,out⟩:St).sto id=o
  cases o with
  | none=>rfl
  | some ob =>
   cases ob with
   | bx=>rfl
   | ar k2 es u hw ver=>simp only[ZfF]
 ·rename_i hv
  split
  ·exact(hv _ _ _ rfl).elim
  ·rfl
theorem ZCF{key len s:Nat}{t:Nat}:rkf (.hd (lvl,key) [] 0 len none s) (some t) ⟨lvl,env,loc,out⟩ K=(t*32≠key/\rkg (lkO key loc) len s (lvl,t*32) (some t) (Y8 (lvl,key) (drp (lkO (t*32) loc) (lvl,t*32) ⟨lvl,env,loc,out⟩)) K):=by
 simp only[rkf,true_and,ZgS,keyOf]
 rw[show (⟨lvl,env,loc,out⟩:St).sto (lvl,key)=lkO key loc from J5,show (⟨lvl,env,loc,out⟩:St).sto (lvl,t*32)=lkO (t*32) loc from J5]
 congr 1
 simp
theorem ZEP{key:Nat}{p x:X}:op2 C d (.gv key p x) ⟨lvl,env,loc,out⟩ K=(d=none/\gvf (xv env p) (xv env x) key ⟨lvl,env,loc,out⟩ K):=by
 rw[Je rfl]
 simp only[ew]
theorem ZCG{id:Oid}{off key key2 len s:Nat}:gvf (.ab id off) (.hd (lvl,key2) [] 0 len none s) key ⟨lvl,env,loc,out⟩ K=(id.1<lvl/\Zu lvl loc out (id.1,key)=none/\gvo (Zu lvl loc out id) (lkO key2 loc) id off key len s (lvl,key2) ⟨lvl,env,loc,out⟩ K):=by
 simp only[gvf,true_and]
 rw[show (⟨lvl,env,loc,out⟩:St).sto (lvl,key2)=lkO key2 loc from J5]
 rfl
theorem ZCH{cells:List IV}{k:Nat}{zs:Row}{u:Bool}{hw ver:Nat}{id id2:Oid}{off key len s:Nat}:gvo (some (.bx cells)) (some (.ar k zs u hw ver)) id off key len s id2 st K=(off+1<=cells.length/\s=hw/\len=zs.length/\K (Zo (Zo (Y8 id2 st) (id.1,key) (.ar k zs u hw ver)) id (.bx (Ue cells off [.hd (id.1,key) [] 0 len none s])))):=(rfl)
theorem ZCI{len s k hw ver:Nat}{zs:Row}{u:Bool}{id0:Oid}:rkg (some (.ar k zs u hw ver)) len s id0 d st K=(s=hw/\len=zs.length/\ZjI d (.hd id0 [] 0 len none s) (Zo st id0 (.ar k zs u hw ver)) K):=(rfl)
theorem Zuy{K:List IV->St->Prop}:Zq6 [] st K=K [] st:=(rfl)
theorem Zuz{x:X}{r:List X}{K:List IV->St->Prop}:Zq6 (x::r) st K=ZvA (xv st.env x) st fun t st1=>Zq6 r st1 fun ts st2=>K (.ta t::ts) st2:=(rfl)
def Zzb(o:Option (List Tr×Bool))(F:List Tr->Prop)(H:Prop):Prop :=
 match o with
 | some (ts,_)=>F ts
 | none=>H
def ZCJ(o:Option Ob)(F:List Tr->Prop)(H:List IV->Prop):Prop :=
 match o with
 | some (.bx cells)=>Zzb (totrs cells) F (H cells)
 | _=>False
theorem ZxT{ts:List Tr}{K:List Tr->St->Prop}:ZvA (.ta ts) st K=K ts st:=(rfl)
theorem ZxU{key:Nat}{K:List Tr->St->Prop}:ZvA (.ab (lvl,key) 0) ⟨lvl,env,loc,out⟩ K=ZCJ (lkO key loc) (fun ts=>K ts (Y8 (lvl,key) ⟨lvl,env,loc,out⟩)) (fun cells=>ZjG cells ⟨lvl,env,loc,out⟩ fun ts st1=>K ts (Y8 (lvl,key) st1)):=by
 simp only[ZvA,true_and]
 rw[show (⟨lvl,env,loc,out⟩:St).sto (lvl,key)=lkO key loc from J5]
 generalize lkO key loc=o
 cases o with
 | none=>rfl
 | some ob =>
  cases ob with
  | ar=>rfl
  | bx cells =>
   simp only[ZCJ]
   generalize totrs cells=q
   cases q <;> rfl
theorem ZxV{cells:List IV}{F:List Tr->Prop}{H:List IV->Prop}:ZCJ (some (.bx cells)) F H=Zzb (totrs cells) F (H cells):=(rfl)
theorem ZxW{ts:List Tr}{q:Bool}{F:List Tr->Prop}{H:Prop}:Zzb (some (ts,q)) F H=F ts:=(rfl)
theorem ZuA{F:List Tr->Prop}{H:Prop}:Zzb none F H=H:=(rfl)
theorem Zpb{id:Oid}{p:Pth}{off len s:Nat}{cap:Option Nat}{r:List IV}:totrs (.hd id p off len cap s::r)=none:=(rfl)
theorem ZEQ{f:Nat}{cs:List X}:op2 C d (.mz f cs) ⟨lvl,env,loc,out⟩ K=Zq6 cs ⟨lvl,env,loc,out⟩ fun l st1=>ZjI d (.fn f l) st1 K:=by
 rw[Je rfl]
 rfl
theorem ZuB{K:List Tr->St->Prop}:ZjG [] st K=K [] st:=(rfl)
theorem ZuC{x:IV}{r:List IV}{K:List Tr->St->Prop}:ZjG (x::r) st K=ZsM x st fun t st1=>ZjG r st1 fun ts st2=>K (t::ts) st2:=(rfl)
def ZDF(o:Option Ob)(len s:Nat)(F:Row->Prop):Prop :=
 match o with
 | some (.ar _ zs _ hw _)=>s=hw/\len=zs.length/\F zs
 | _=>False
theorem ZuD{t:Tr}{K:Tr->St->Prop}:ZsM (.tr t) st K=K t st:=(rfl)
theorem ZuE{es:Row}{K:Tr->St->Prop}:ZsM (.cs es) st K=K (.sl es) st:=(rfl)
theorem ZuF{key len s:Nat}{K:Tr->St->Prop}:ZsM (.hd (lvl,key) [] 0 len none s) ⟨lvl,env,loc,out⟩ K=ZDF (lkO key loc) len s fun zs=>K (.sl zs) (Y8 (lvl,key) ⟨lvl,env,loc,out⟩):=by
 simp only[ZsM,true_and]
 rw[show (⟨lvl,env,loc,out⟩:St).sto (lvl,key)=lkO key loc from J5]
 generalize lkO key loc=o
 cases o with
 | none=>rfl
 | some ob=>cases ob <;> rfl
theorem ZxX{k len s hw ver:Nat}{zs:Row}{u:Bool}{F:Row->Prop}:ZDF (some (.ar k zs u hw ver)) len s F=(s=hw/\len=zs.length/\F zs):=(rfl)
def lzg(o:Option Ob)(off m:Nat)(d:Option Nat)(st:St)(K:St->Prop):Prop :=
 match o with
 | some (.bx cells)=>off+m<=cells.length/\ZjG ((cells.drop off).take m) st fun ts st1=>ZjI d (.ag (ts.map .tr)) st1 K
 | _=>False
def lzf(v:IV)(m:Nat)(d:Option Nat)(st:St)(K:St->Prop):Prop :=
 match v with
 | .ab id off=>lzg (st.sto id) off m d st K
 | _=>False
theorem ZER{m:Nat}:op2 C d (.lz m x) ⟨lvl,env,loc,out⟩ K=lzf (xv env x) m d ⟨lvl,env,loc,out⟩ K:=by
 rw[Je rfl]
 simp only[ew]
 generalize xv env x=v
 cases v <;> rfl
theorem ZCK{key off m:Nat}:lzf (.ab (lvl,key) off) m d ⟨lvl,env,loc,out⟩ K=lzg (lkO key loc) off m d ⟨lvl,env,loc,out⟩ K:=by
 simp only[lzf]
 rw[show (⟨lvl,env,loc,out⟩:St).sto (lvl,key)=lkO key loc from J5]
theorem ZCL{cells:List IV}{off m:Nat}:lzg (some (.bx cells)) off m d st K=(off+m<=cells.length/\ZjG ((cells.drop off).take m) st fun ts st1=>ZjI d (.ag (ts.map .tr)) st1 K):=(rfl)
def clg(o:Option Ob)(id:Oid)(off len s k:Nat)(d:Option Nat)(st:St)(K:St->Prop):Prop :=
 match o with
 | some (.ar k2 es u hw ver)=>k2=k/\s=hw/\off+len=es.length/\ZjI d (.tu []) (Zo st id (.ar k2 (es.take off) u hw (ver+1))) K
 | _=>False
def clf(v:IV)(k:Nat)(d:Option Nat)(st:St)(K:St->Prop):Prop :=
 match v with
 | .hd id p off len _ s=>p=[]/\clg (st.sto id) id off len s k d st K
 | _=>False
theorem ZES{k:Nat}{z:List Value}:op2 C d (.cl k z x) ⟨lvl,env,loc,out⟩ K=clf (xv env x) k d ⟨lvl,env,loc,out⟩ K:=by
 rw[Je rfl]
 simp only[ew]
 generalize xv env x=v
 cases v <;> try rfl
 rename_i id p off len cap s
 simp only[clf,clg]
 generalize (⟨lvl,env,loc,out⟩:St).sto id=o
 cases o with
 | none=>simp
 | some ob =>
  cases ob with
  | bx=>simp
  | ar k2 es u hw ver=>simp only[ZfF]
theorem ZCM{id:Oid}{off len s k:Nat}{cap:Option Nat}:clf (.hd id [] off len cap s) k d ⟨lvl,env,loc,out⟩ K=clg (Zu lvl loc out id) id off len s k d ⟨lvl,env,loc,out⟩ K:=by
 simp only[clf,true_and]
 rfl
theorem ZCN{id:Oid}{off len s k k2 hw ver:Nat}{es:Row}{u:Bool}:clg (some (.ar k2 es u hw ver)) id off len s k d st K=(k2=k/\s=hw/\off+len=es.length/\ZjI d (.tu []) (Zo st id (.ar k2 (es.take off) u hw (ver+1))) K):=(rfl)
def srk(off len:Nat)(F:Row->Prop)(es:Row)(_u:Bool)(_v:Nat):Prop:=off+len<=es.length/\F (cut es off len)
theorem ZCO{off len:Nat}{F:Row->Prop}{es:Row}{u:Bool}{v:Nat}:srk off len F es u v=(off+len<=es.length/\F (cut es off len)):=(rfl)
theorem ZxY{zs:Row}{F:Row->Prop}:Zov st (.tr (.sl zs)) F=F zs:=(rfl)
theorem ZxZ{zs:Row}{F:Row->Prop}:Zov st (.cs zs) F=F zs:=(rfl)
theorem Zx0{id:Oid}{p:Pth}{off len s:Nat}{cap:Option Nat}{F:Row->Prop}:Zov ⟨lvl,env,loc,out⟩ (.hd id p off len cap s) F=rd3 (Zu lvl loc out id) p s (srk off len F):=by
 rw[<-Za4]
 rfl
def a3k(zs:Row)(k:Nat)(d:Option Nat)(st:St)(K:St->Prop)(items:Row):Prop :=
 items≠[]/\ScR items/\UnR k zs/\UnR k items/\zs.length+items.length<=bigN/\K ⟨st.lvl,ptd d (.tr (.sl (zs++items))) st.env,st.loc,st.out⟩
theorem ZCP{zs items:Row}{k:Nat}:a3k zs k d ⟨lvl,env,loc,out⟩ K items=(items≠[]/\ScR items/\UnR k zs/\UnR k items/\zs.length+items.length<=bigN/\K ⟨lvl,ptd d (.tr (.sl (zs++items))) env,loc,out⟩):=(rfl)
def a3f(vx vy:IV)(k:Nat)(d:Option Nat)(st:St)(K:St->Prop):Prop :=
 match vx with
 | .cs zs=>Zov st vy (a3k zs k d st K)
 | _=>False
theorem ZCQ{zs:Row}{vy:IV}{k:Nat}:a3f (.cs zs) vy k d st K=Zov st vy (a3k zs k d st K):=(rfl)
theorem ZET{k:Nat}{x y:X}:op2 C d (.a3 k x y) ⟨lvl,env,loc,out⟩ K=a3f (xv env x) (xv env y) k d ⟨lvl,env,loc,out⟩ K:=by
 rw[Ye rfl]
 simp only[ev]
 generalize xv env x=vx
 cases vx <;> try rfl
 rename_i zs
 have e:∀ items:Row,(items≠[]/\ScR items/\UnR k zs/\UnR k items/\zs.length+items.length<=bigN/\ZR (fun mk obs=>freshK (keyOf d) loc (obs lvl (keyOf d)).length/\K ⟨lvl,ptd d (mk lvl (keyOf d)) env,addO (keyOf d) (obs lvl (keyOf d)) loc,out⟩) (.tr (.sl (zs++items))))=a3k zs k d ⟨lvl,env,loc,out⟩ K items:=fun items=>by
  simp [a3k,ZR,freshK,addO]
 simp only[e]
 rfl
theorem ZEU{k:Nat}{x y:X}:op2 C d (.c0 k x y) ⟨lvl,env,loc,out⟩ K=op2 C d (.cy k x y) ⟨lvl,env,loc,out⟩ K:=by
 rw[Je rfl,Je rfl]
 exact propext ⟨Zmw,Zrq⟩
def cyk(es:Row)(u:Bool)(hw ver:Nat)(id:Oid)(off len k:Nat)(d:Option Nat)(st:St)(K:St->Prop)(zs:Row):Prop :=
 ScR zs/\UnR k zs/\ZjI d (iI (min zs.length len:Nat)) (Zo st id (.ar k (es.take off++zs.take len++es.drop (off+min zs.length len)) u hw (ver+1))) K
theorem ZCR{es:Row}{u:Bool}{hw ver:Nat}{id:Oid}{off len k:Nat}{zs:Row}:cyk es u hw ver id off len k d st K zs=(ScR zs/\UnR k zs/\ZjI d (iI (min zs.length len:Nat)) (Zo st id (.ar k (es.take off++zs.take len++es.drop (off+min zs.length len)) u hw (ver+1))) K):=(rfl)
def cyg(o:Option Ob)(id:Oid)(off len s k:Nat)(v:IV)(d:Option Nat)(st:St)(K:St->Prop):Prop :=
 match o with
 | some (.ar k2 es u hw ver)=>k2=k/\s=hw/\off+len<=es.length/\ScR es/\Zov st v (cyk es u hw ver id off len k d st K)
 | _=>False
def cyf(x v:IV)(k:Nat)(d:Option Nat)(st:St)(K:St->Prop):Prop :=
 match x with
 | .hd id p off len _ s=>p=[]/\cyg (st.sto id) id off len s k v d st K
 | _=>False
theorem ZEV{k:Nat}:op2 C d (.cy k x y) ⟨lvl,env,loc,out⟩ K=cyf (xv env x) (xv env y) k d ⟨lvl,env,loc,out⟩ K:=by
 rw[Je rfl]
 simp only[ew]
 generalize xv env x=v
 cases v <;> try rfl
 rename_i id p off len cap s
 simp only[cyf,cyg]
 generalize (⟨lvl,env,loc,out⟩:St).sto id=o
 cases o with
 | none=>simp
 | some ob =>
  cases ob with
  | bx=>simp
  | ar k2 es u hw ver =>
   dsimp only
   by_cases hk:k2=k
   ·subst hk
    have:(fun zs=>ScR zs/\UnR k2 zs/\K { Zo ⟨lvl,env,loc,out⟩ id (.ar k2 (es.take off++zs.take len++es.drop (off+min zs.length len)) u hw (ver+1)) with env:=ptd d (iI (min zs.length len:Nat)) env })=cyk es u hw ver id off len k2 d ⟨lvl,env,loc,out⟩ K:=by
     funext zs
     simp only[cyk,ZfF]
    rw[this]
   ·simp [hk]
theorem ZCS{id:Oid}{off len s k:Nat}{cap:Option Nat}{v:IV}:cyf (.hd id [] off len cap s) v k d ⟨lvl,env,loc,out⟩ K=cyg (Zu lvl loc out id) id off len s k v d ⟨lvl,env,loc,out⟩ K:=by
 simp only[cyf,true_and]
 rfl
theorem ZCT{id:Oid}{off len s k k2 hw ver:Nat}{es:Row}{u:Bool}{v:IV}:cyg (some (.ar k2 es u hw ver)) id off len s k v d st K=(k2=k/\s=hw/\off+len<=es.length/\ScR es/\Zov st v (cyk es u hw ver id off len k d st K)):=(rfl)
end row
theorem Zx1{α:Type}{F:α->Prop}:op3 none F=False:=(rfl)
end
abbrev tv(n:Int):Tr:=.v (.int .i64 n)
abbrev ts(s:ByteArray):Tr:=.v (.string s)
abbrev rI(l:List Int):Row:=l.map fun n=>[tv n]
abbrev tI(l:List Int):IV:=.tr (.sl (rI l))
abbrev rS(l:List ByteArray):Row:=l.map fun n=>[ts n]
abbrev tS(l:List ByteArray):IV:=.tr (.sl (rS l))
theorem Zd(n:Int):X3 .i64 n=(-9223372036854775808<=n/\n<=9223372036854775807):=by
 simp [X3,IntKind.min,IntKind.max,IntKind.signed,IntKind.bits]
theorem Za5{α:Type}{k:Nat}(f:α->List Tr)(h:∀ x,(f x).length=k)(l:List α):UnR k (l.map f):=by
 intro e he
 obtain⟨x,_,rfl⟩:=List.mem_map.1 he
 exact h x
end Go.Fd

/-
  FROM THE READER'S FACTS TO TREES: what an input reads as, by its type. Own work.
-/
namespace Go.Fd
def In(w:World)(b:Nat):Prop:=b<w.heap.size
def ZuG(w:World)(cs:List Value)(ts:List Tr):Prop:=∀(j:Nat) (v:Value) (t:Tr),cs[j]? = some v->ts[j]? = some t->Rds w (In w) v t
def ZaP(P:Program)(t:TypeId){α:Type}(c:α->List Tr)(Q:α->Prop):Prop :=
 ∀(H:Type) (enc:TypeId×Value->H) (w:World) (sp:Nat->Bool) (hd:Bool) (fuel:Nat) (cs:List Value) (x:DataW H×List MemPlace),
  DataW.trod enc P w 0 sp hd fuel t cs=some x->∃ y,Q y/\ZuG w cs (c y)
theorem ZcX{w:World}{v:Value}{t:Tr}(h:Rds w (In w) v t):ZuG w [v] [t]:=fun j v' t' h1 h2=>by
 match j with
 | 0=>simp at h1 h2;subst h1;subst h2;exact h
 | j+1=>simp at h1
theorem Zpc{P:Program}{t:TypeId}(ht:P.underlying t=some (.int .i64)):ZaP P t (fun n:Int=>[tv n]) (X3 .i64):=by
 intro H enc w sp hd fuel cs x h
 obtain⟨n,rfl,_,hw⟩:=DataW.trod_int ht h
 exact⟨n,by simpa [Lit.wf,X3] using hw,ZcX (.v _ rfl)⟩
theorem Zj5{P:Program}{t:TypeId}(ht:P.underlying t=some .string):ZaP P t (fun n:ByteArray=>[ts n]) (fun n=>n.size<=9223372036854775807):=by
 intro H enc w sp hd fuel cs x h
 obtain⟨n,rfl,_,hw⟩:=DataW.trod_string ht h
 exact⟨n,hw,ZcX (.v _ rfl)⟩
theorem ZuH{w:World}{a:Addr}{v:Value}(h:w.cell? a=some v):a.block<w.heap.size:=by
 unfold World.cell? at h
 cases hh:w.heap[a.block]? with
 | none=>rw[hh] at h;cases h
 | some o=>exact(Array.getElem?_eq_some_iff.1 hh).1
theorem Zlu{α:Type}(n:Nat)(R:Nat->α->Prop)(h:∀ i,i<n->∃ y,R i y):∃ l:List α,l.length=n/\∀ i y,l[i]? = some y->R i y:=by
 induction n with
 | zero=>exact⟨[],rfl,fun i y h=>by simp at h⟩
 | succ n ih =>
  obtain⟨l,hl,hr⟩:=ih (fun i hi=>h i (by omega))
  obtain⟨y,hy⟩:=h n (by omega)
  refine⟨l++[y],by simp [hl],fun i z hz=>?_⟩
  by_cases hi:i<n
  ·rw[List.getElem?_append_left (by omega)] at hz;exact hr i z hz
  ·have hlt:=(List.getElem?_eq_some_iff.1 hz).1
   simp only[List.length_append,List.length_singleton] at hlt
   have:i=n:=by omega
   subst this
   rw[List.getElem?_append_right (by omega),hl,Nat.sub_self] at hz
   simp at hz
   exact hz ▸ hy
theorem Zcv{P:Program}{t e:TypeId}{k:Nat}{α:Type}{c:α->List Tr}{Q:α->Prop}(ht:P.underlying t=some (.slice e))(hk:P.cellsOf e=k+1)(hc:∀ x,(c x).length=k+1)
  (he:ZaP P e c Q):ZaP P t (fun l:List α=>[.sl (l.map c)]) (fun l=>l.length<=9223372036854775807/\∀ x∈l,Q x):=by
 intro H enc w sp hd fuel cs x h
 rcases DataW.trod_slice ht h with ⟨rfl,_⟩ | ⟨a,len,cap,elems,rest,n,_,rfl,_,_,hl,hm,hlen,hel,_,_⟩
 ·exact⟨[],⟨by simp,by simp⟩,ZcX (.nil none 0)⟩
 ·have each:∀ i,i<len->∃ y,Q y/\∀ j t,(c y)[j]? = some t->∃ v,w.cell? (a.add (i*(k+1)+j))=some v/\Rds w (In w) v t:=fun i hi=>by
   have h1:=hel i hi
   rw[hk] at h1
   obtain⟨z,hz⟩:∃ z,elems[i]? = some z:=⟨elems[i]'(by omega),List.getElem?_eq_getElem _⟩
   rw[hz,Option.bind_eq_some_iff] at h1
   obtain⟨row,hrow,hx⟩:=h1
   obtain⟨y,hy,hr⟩:=he H enc w sp hd n row z hx
   obtain⟨_,hrl,hg⟩:=World.cells?_some hrow
   refine⟨y,hy,fun j t hj=>?_⟩
   have hjk:j<k+1:=by rw[<-hc y];exact(List.getElem?_eq_some_iff.1 hj).1
   have hv:row[j]? = some (row[j]'(by omega)):=List.getElem?_eq_getElem _
   have:=hg j hjk
   rw[hv] at this
   have e2:(a.add (i*(k+1))).add j=a.add (i*(k+1)+j):=by
    unfold Addr.add
    by_cases h0:i*(k+1)=0
    ·simp [h0]
    ·by_cases h1:j=0
     ·simp [h1,h0]
     ·have h2:¬ (i*(k+1)+j=0):=by omega
      simp only[if_neg h0,if_neg h1,if_neg h2,Addr.mk.injEq,and_true,true_and]
      omega
   rw[e2] at this
   exact⟨_,this,hr j _ t hv hj⟩
  obtain⟨l,hll,hlr⟩:=Zlu len _ each
  refine⟨l,⟨?_,fun y hy=>?_⟩,ZcX ?_⟩
  ·rw[hll];exact Nat.le_trans hl hm
  ·obtain⟨i,hi⟩:=List.getElem?_of_mem hy
   exact(hlr i y hi).1
  ·by_cases h0:len=0
   ·have:l=[]:=List.eq_nil_of_length_eq_zero (by omega)
    subst this;subst h0
    exact .nil _ _
   ·obtain⟨y0,hy0⟩:∃ y0,l[0]? = some y0:=⟨l[0]'(by omega),List.getElem?_eq_getElem _⟩
    obtain⟨t0,ht0⟩:∃ t0,(c y0)[0]? = some t0:=⟨(c y0)[0]'(by rw[hc];omega),List.getElem?_eq_getElem _⟩
    obtain⟨v0,hv0,_⟩:=(hlr 0 y0 hy0).2 0 t0 ht0
    obtain⟨b,o,s⟩:=a
    have hs:s=none:=by simpa [Addr.add] using World.cell?_spot hv0
    subst hs
    have hb:b<w.heap.size:=by simpa [Addr.add] using ZuH hv0
    have hel2:∀ i e j t,(l.map c)[i]? = some e->e[j]? = some t->∃ v,w.cell? ⟨b,o+i*(k+1)+j,none⟩=some v/\Rds w (In w) v t:=fun i e j t h1 h2=>by
     rw[List.getElem?_map,Option.map_eq_some_iff] at h1
     obtain⟨y,hy,rfl⟩:=h1
     obtain⟨v,hv,hr⟩:=(hlr i y hy).2 j t h2
     refine⟨v,?_,hr⟩
     rw[<-hv]
     congr 1
     unfold Addr.add
     by_cases h0:i*(k+1)+j=0
     ·have:o+i*(k+1)+j=o:=by omega
      rw[if_pos h0,this]
     ·rw[if_neg h0]
      have:o+i*(k+1)+j=o+(i*(k+1)+j):=by omega
      simp only[this]
    have hlm:(l.map c).length=len:=by simpa using hll
    have:=Rds.sl (w:=w) (A:=In w) b o cap (k+1) (l.map c) (fun i j=>(w.cell? ⟨b,o+i*(k+1)+j,none⟩).getD .nilFunc) hb
     (fun e he=>by simp only[List.mem_map] at he;obtain⟨y,_,rfl⟩:=he;exact hc y) (by omega)
     (fun i e j t h1 h2=>by obtain⟨v,hv,_⟩:=hel2 i e j t h1 h2;rw[hv];rfl)
     (fun i e j t h1 h2=>by obtain⟨v,hv,hr⟩:=hel2 i e j t h1 h2;rw[hv];exact hr)
    rw[hlm] at this
    exact this
def ZhF(P:Program)(o:Nat)(l:List (Nat×TypeId)){α:Type}(c:α->List Tr)(Q:α->Prop):Prop :=
 ∀(H:Type) (enc:TypeId×Value->H) (w:World) (sp:Nat->Bool) (hd:Bool) (fuel:Nat) (cs:List Value),
  (∀ p∈l,∃ x,DataW.trod enc P w 0 sp hd fuel p.2 ((cs.drop p.1).take (P.cellsOf p.2))=some x)->∃ y,Q y/\ZuG w (cs.drop o) (c y)
theorem ZhG{P:Program}{o:Nat}:ZhF P o [] (fun _:Unit=>[]) (fun _=>True):=fun H enc w sp hd fuel cs _=>⟨(),trivial,fun j v t _ h=>by simp at h⟩
theorem QR{P:Program}{o k:Nat}{t:TypeId}{l:List (Nat×TypeId)}{α β:Type}{c:α->List Tr}{Q:α->Prop}{c2:β->List Tr}{Q2:β->Prop}
  (hk:P.cellsOf t=k) (hc:∀ x,(c x).length=k) (h1:ZaP P t c Q) (h2:ZhF P (o+k) l c2 Q2) :
  ZhF P o ((o,t)::l) (fun p:α×β=>c p.1++c2 p.2) (fun p=>Q p.1/\Q2 p.2):=fun H enc w sp hd fuel cs h=>by
 obtain⟨x,hx⟩:=h (o,t) (by simp)
 obtain⟨y,hy,hr⟩:=h1 _ _ _ _ _ _ _ _ hx
 obtain⟨y2,hy2,hr2⟩:=h2 H enc w sp hd fuel cs (fun p hp=>h p (by simp [hp]))
 refine⟨(y,y2),⟨hy,hy2⟩,fun j v t' hv ht=>?_⟩
 by_cases hj:j<k
 ·rw[List.getElem?_append_left (by rw[hc];exact hj)] at ht
  refine hr j v t' ?_ ht
  rw[hk,List.getElem?_take_of_lt hj]
  exact hv
 ·rw[List.getElem?_append_right (by rw[hc];omega),hc] at ht
  refine hr2 (j-k) v t' ?_ ht
  rw[List.getElem?_drop] at hv ⊢
  rw[<-hv]
  congr 1
  omega
theorem ZeQ{P:Program}{t:TypeId}{fs:Array Field}{α:Type}{c:α->List Tr}{Q:α->Prop}(ht:P.underlying t=some (.struct fs))(h:ZhF P 0 (fs.toList.map fun f=>(f.offset,f.type)) c Q):ZaP P t c Q:=by
 intro H enc w sp hd fuel cs x hx
 obtain⟨xs,n,_,_,_,hl,hf⟩:=DataW.trod_struct ht hx
 have:=h H enc w sp hd n cs (fun p hp=>by
  simp only[List.mem_map] at hp
  obtain⟨f,hf1,rfl⟩:=hp
  obtain⟨i,hi⟩:=List.getElem?_of_mem hf1
  have hi':fs[i]? = some f:=by simpa using hi
  have hlt:i<xs.length:=by rw[hl];exact(Array.getElem?_eq_some_iff.1 hi').1
  exact⟨_,(hf i f hi').trans (List.getElem?_eq_getElem hlt)⟩)
 simpa using this
theorem Zpd{P:Program}{t:TypeId}{α β:Type}{c:α->List Tr}{Q:α->Prop}{c2:β->List Tr}{Q2:β->Prop}(g:α->β)(hg:∀ x,c2 (g x)=c x)(hq:∀ x,Q x->Q2 (g x))(h:ZaP P t c Q):ZaP P t c2 Q2:=by
 intro H enc w sp hd fuel cs x hx
 obtain⟨y,hy,hr⟩:=h H enc w sp hd fuel cs x hx
 exact⟨g y,hq y hy,by rw[hg];exact hr⟩
theorem ZmG{P:Program}{t:TypeId}{α β:Type}{c:α->List Tr}{Q:α->Prop}{c2:β->List Tr}{Q2:β->Prop}(h:ZaP P t c Q)(g:α->β)(hg:∀ x,c2 (g x)=c x)(hq:∀ x,Q x->Q2 (g x)):ZaP P t c2 Q2:=Zpd g hg hq h
end Go.Fd

/-
  FROM A CONTRACT OF A LAW TO WHAT ITS ROW ASKS. Own work.
-/
namespace Go.Fd
variable [Tabs]
open Go.RowKit
def G0:Gh:=fun _ _=>none
def S0:Sto:=fun _=>none
theorem Av0{w:World}{b:Nat}(h:In w b):Av G0 S0 w b:=⟨h,fun id ob hs=>by cases hs⟩
theorem Zj6{P:Program}{f:FuncId}{args:List IV}{b:Bool}{w:World}{vs:List Value}(h:Sem P f 0 args S0 (iB b) S0)(hv:VRs G0 S0 w args vs)(hg:Tabs.good w) :
  Calls P f vs.toArray w fun e w' => e = .returned (.bool b)/\Below w.heap.size w w':=by
 obtain⟨_,_,h⟩:=h
 refine(h (fun id ob hs=>by cases hs) G0 w vs ⟨fun id ob hs=>(nomatch hs),fun id ob id2 ob2 b2 hs=>(nomatch hs),fun id cells hs=>(nomatch hs)⟩ hv ⟨w,hg,Nat.le_refl _,fun b hb=>⟨⟨hb,fun id ob hs=>by cases hs⟩,rfl⟩⟩).mono ?_
 rintro e w' ⟨v,G',rfl,_,hr,_,hf⟩
 have hr':Rds w' (Av G' (Qp S0 0 0 (impv true 0 0 0 (iB b)).2) w') v (.v (.bool b)):=hr
 cases hr' with
 | v x hx =>
  exact⟨rfl,hf.os,hf.tape,hf.output,hf.size,fun k hk=>hf.old k hk (fun id ob hs=>by cases hs)⟩
theorem Zpe{P:Program}{w:World}{r:Reach}{base:Nat}{t e:TypeId}{v:Value}(ht:P.underlying t=some (.slice e))(h:Value.okWide P w r base t v):v.cells.toList=[v]:=by
 unfold Value.okWide at h
 rw[ht] at h
 simp only[Cell.okWide,ht,Cell.ok] at h
 cases v <;> first | rfl | exact absurd h (by simp)
section
variable {H:Type} {enc:TypeId×Value->H} {P:Program} {w:World} {t:TypeId} {v:Value} {d:DataW H} {p:List MemPlace} {α:Type} {c:α->List Tr} {Q:α->Prop} {sp:Nat->Bool} {hd:Bool} {base:Nat}
theorem ZiB{e:TypeId}{g:α->Tr}(hr:ZaP P t (fun x=>[g x]) Q)(ht:P.underlying t=some (.slice e))(hok:Value.okWide P w .any base t v)(h:DataW.Trod enc P w 0 sp hd t v d p) :
  ∃ y,Q y/\VR G0 S0 w (.tr (g y)) v:=by
 obtain⟨n,hn⟩:=h
 rw[Zpe ht hok] at hn
 obtain⟨y,hy,hrow⟩:=hr H enc w sp hd n _ _ hn
 refine⟨y,hy,?_⟩
 simp only[VR]
 exact Rds.mono (fun b=>Av0) (fun b _=>rfl) (hrow 0 v _ rfl rfl)
end
theorem ZiC{H:Type}{enc:TypeId×Value->H}{P:Program}{f:Func}{s:ChangeSpec}{apart:Bool}{W W':World}{args:Array Value}{v:Value}{ds gs:List (DataW H)}{before pa pv:List MemPlace}
  (hW:DataW.Whole enc P f.params.toList s.vars apart W args.toList ds gs before) (hb:Below W.heap.size W W')
  (hres:DataW.TrodAll enc P W' W.heap.size (fun _=>false) false f.resultTypes.toList (v.resultList f.resultTypes.size) (s.fn H (ds++gs)).results [])
  (hargs:DataW.TrodAll enc P W' 0 (fun b=>decide (b<W.heap.size)) true f.params.toList args.toList (s.fn H (ds++gs)).args pa)
  (hvars:DataW.TrodVars enc P W' (fun b=>decide (b<W.heap.size)) s.vars (s.fn H (ds++gs)).vars pv) :
  s.post enc P f apart true false false W args v W' :=
 ⟨ds,gs,before,[],pa,pv,hW,hres,hargs,hvars,hb.frame _,fun h=>by cases h⟩
end Go.Fd

/-
  FOUNDATION 50: contracts of the library, taken over: calls that read scalars alone and answer scalars. Own work.
-/
namespace Go.Fd
variable [Tabs]
open Go.RowKit
theorem Zj7{w w':World}(h:Below w.heap.size w w'):Ext w w':=⟨h.size,h.block,h.os,h.tape,h.output⟩
theorem ZiD{G:Gh}{S:Sto}{w:World}:∀{xs vs:List Value},VRs G S w (xs.map fun v=>.tr (.v v)) vs->vs=xs
 | [],vs,h=>by simpa [VRs] using h
 | x::r,vs,h=>by
  simp only[List.map_cons,VRs] at h
  obtain⟨v,vr,rfl,h1,h2⟩:=h
  rw[ZiD h2]
  have h1':Rds w (Av G S w) v (.v x):=h1
  cases h1'
  rfl
theorem Zs4{G:Gh}{S:Sto}{w:World}:∀{xs:List Value},(∀ x∈xs,Zaz x=true)->VRs G S w (xs.map fun v=>.tr (.v v)) xs
 | [],_=>by simp [VRs]
 | x::r,h=>by
  simp only[List.map_cons,VRs]
  exact⟨x,r,rfl,.v x (h x (by simp)),Zs4 fun y hy=>h y (by simp [hy])⟩
theorem Zlv{P:Program}{f:FuncId}{lvl:Nat}{S:Sto}{args:List IV}{r:IV}(hc:UW P f)(hi:impv true lvl 0 0 r=(r,[]))(hlow:low lvl r)
  (h:(∀ id ob,S id=some ob->id.1<lvl)->∀ G w vs,SOk G S w->VRs G S w args vs->Fix G S w->Calls P f vs.toArray w fun e w' => ∃ v,e = .returned v/\VR G S w' r v/\Below w.heap.size w w'):Sem P f lvl args S r S:=by
 refine⟨hlow,hc,fun hS G w vs hok hv hfx=>?_⟩
 refine(h hS G w vs hok hv hfx).mono ?_
 rintro e w' ⟨v,rfl,hr,hb⟩
 rw[hi]
 have e:Ext w w':=Zj7 hb
 exact⟨v,G,rfl,hok.ext e,hr,hS,Frm.of_ext e⟩
theorem ZhH{P:Program}{f:FuncId}{lvl:Nat}{S:Sto}{args:List IV}{r:IV}(hc:UW P f)(hi:impv true lvl 0 0 r=(r,[]))(hlow:low lvl r)
  (h:(∀ id ob,S id=some ob->id.1<lvl)->∀ G w vs,SOk G S w->VRs G S w args vs->Calls P f vs.toArray w fun e w' => ∃ v,e = .returned v/\VR G S w' r v/\Below w.heap.size w w'):Sem P f lvl args S r S :=
 Zlv hc hi hlow fun hS G w vs hok hv _=>h hS G w vs hok hv
theorem Zlw{P:Program}{f:FuncId}{lvl:Nat}{S:Sto}{xs:List Value}{y:Value}(hc:UW P f)(hy:Zaz y=true)
  (h:∀ w,Calls P f xs.toArray w fun e w' => e = .returned y/\Below w.heap.size w w'):Sem P f lvl (xs.map fun v=>.tr (.v v)) S (.tr (.v y)) S:=by
 refine ZhH hc rfl trivial fun _ G w vs _ hv=>?_
 rw[ZiD hv]
 exact(h w).mono fun e w' ⟨h1,h2⟩=>⟨y,h1,.v y hy,h2⟩
theorem Zj8{P:Program}{f:FuncId}{lvl:Nat}{S:Sto}{xs ys:List Value}(hc:UW P f)(hy:∀ y∈ys,Zaz y=true)
  (h:∀ w,Calls P f xs.toArray w fun e w' => e = .returned (.tuple ys.toArray)/\Below w.heap.size w w'):Sem P f lvl (xs.map fun v=>.tr (.v v)) S (.tu (ys.map fun v=>.tr (.v v))) S:=by
 have hi:∀(l b j:Nat) (ys:List Value),impvs true l b j (ys.map fun v=>IV.tr (.v v))=(ys.map fun v=>.tr (.v v),[]):=fun l b j ys=>by
  induction ys generalizing j with
  | nil=>rfl
  | cons y r ih=>simp only[List.map_cons,impvs,impv,List.length_nil,Nat.add_zero,ih,List.nil_append]
 have hl:∀(l:Nat) (ys:List Value),Dx l (ys.map fun v=>IV.tr (.v v)):=fun l ys=>by
  induction ys with
  | nil=>trivial
  | cons y r ih=>exact⟨trivial,ih⟩
 refine ZhH hc (by simp only[impv,hi]) (by simp only[low,men];exact hl _ _) fun _ G w vs _ hv=>?_
 rw[ZiD hv]
 exact(h w).mono fun e w' ⟨h1,h2⟩=>⟨_,h1,by simp only[VR];exact⟨ys,rfl,Zs4 hy⟩,h2⟩
end Go.Fd

/-
  FOUNDATION 51: a loop that counts, told by what changes. Own work.
-/
namespace Go.Fd
def pts:List (Nat×IV)->List (Nat×IV)->List (Nat×IV)
 | [],env=>env
 | (t,x)::r,env=>pts r (pt t x env)
def Zs5:List (Nat×Ob)->List (Nat×Ob)->List (Nat×Ob)
 | [],loc=>loc
 | (t,x)::r,loc=>Zs5 r (ptO t x loc)
def chg(ce:List (Nat×IV))(co:List (Nat×Ob))(s:St):St:=⟨s.lvl,pts ce s.env,Zs5 co s.loc,s.out⟩
section
variable {C:Zl} {lvl:Nat} {env:List (Nat×IV)} {loc:List (Nat×Ob)} {out:Sto} {st:St} {Q:Ex->St->Prop}
theorem ZCU{ce:List (Nat×IV)}{co:List (Nat×Ob)}:chg ce co ⟨lvl,env,loc,out⟩=⟨lvl,pts ce env,Zs5 co loc,out⟩:=(rfl)
theorem Zx2:pts [] env=env:=(rfl)
theorem Zx3{t:Nat}{x:IV}{r:List (Nat×IV)}:pts ((t,x)::r) env=pts r (pt t x env):=(rfl)
theorem ZuI:Zs5 [] loc=loc:=(rfl)
theorem ZuJ{t:Nat}{x:Ob}{r:List (Nat×Ob)}:Zs5 ((t,x)::r) loc=Zs5 r (ptO t x loc):=(rfl)
theorem Zv{α:Type}{ks js:List Nat}{c:C2}(N:Nat)(ce:Nat->α->List (Nat×IV))(co:Nat->α->List (Nat×Ob))(A:Nat->α->Prop)(x0:α)
  (h1:clean ks js st) (h0:fgt ks js st=chg (ce 0 x0) (co 0 x0) (fgt ks js st)) (hA:A 0 x0)
  (hs:∀ k x,k<=N->A k x->wp C c (chg (ce k x) (co k x) (fgt ks js st)) (ZcW ks js (Zy9 N (fun k x=>chg (ce k x) (co k x) (fgt ks js st)) A (N-k)) Q)):wp C (.lp ks js c) st Q :=
 Jp N (fun k x=>chg (ce k x) (co k x) (fgt ks js st)) A x0 ⟨h1,h0⟩ hA hs
theorem Zx4{α:Type}{ks js:List Nat}{c:C2}(M:α->Nat)(ce:α->List (Nat×IV))(co:α->List (Nat×Ob))(A:α->Prop)(x0:α)
  (h1:clean ks js st) (h0:fgt ks js st=chg (ce x0) (co x0) (fgt ks js st)) (hA:A x0)
  (hs:∀ x,A x->wp C c (chg (ce x) (co x) (fgt ks js st)) (ZcW ks js (fun s' => ∃ y,M y<M x/\s'=chg (ce y) (co y) (fgt ks js st)/\A y) Q)):wp C (.lp ks js c) st Q:=by
 refine Zxf (fun n s=>∃ x,M x=n/\s=chg (ce x) (co x) (fgt ks js st)/\A x) (M x0) ⟨h1,x0,rfl,h0,hA⟩ (fun n s ⟨x,hn,he,ha⟩=>?_)
 subst he
 have h:=hs x ha
 refine(?_:_->_) h
 intro h
 have e:(fun s' => ∃ y,M y<M x/\s'=chg (ce y) (co y) (fgt ks js st)/\A y)=fun s' => ∃ m,m<n/\∃ x,M x=m/\s'=chg (ce x) (co x) (fgt ks js st)/\A x:=by
  funext s'
  apply propext
  constructor
  ·rintro⟨y,h1,h2,h3⟩;exact⟨M y,by omega,y,rfl,h2,h3⟩
  ·rintro⟨m,h1,y,h2,h3,h4⟩;exact⟨y,by omega,h3,h4⟩
 rw[e] at h
 exact h
end
section
variable {L:Sto} {F:List IV->Prop} {r:List IV}
def ZDG(L:Sto)(r:List IV)(F:List IV->Prop)(y:IV):Prop:=JE L r (kcn y F)
theorem Zx5{y:IV}:ZDG L r F y=JE L r (kcn y F):=(rfl)
theorem ZCV{id:Oid}{off:Nat}:JE L (.ab id off::r) F=Zh5 (L id) L off (ZDG L r F):=by simp only[JE,WG];rfl
def kta(F:IV->Prop)(ts:List Tr):Prop:=F (.ta ts)
theorem ZCW{F:IV->Prop}{ts:List Tr}:kta F ts=F (.ta ts):=(rfl)
theorem ZCX{cells:List IV}{off:Nat}{F:IV->Prop}:Zh5 (some (.bx cells)) L off F=Xk L (cells.drop off) (kta F):=(rfl)
def kct(t:Tr)(F:List Tr->Prop)(ts:List Tr):Prop:=F (t::ts)
theorem ZCY{t:Tr}{F:List Tr->Prop}{ts:List Tr}:kct t F ts=F (t::ts):=(rfl)
def ZDH(L:Sto)(r:List IV)(F:List Tr->Prop)(t:Tr):Prop:=Xk L r (kct t F)
theorem Zx6{F:List Tr->Prop}{t:Tr}:ZDH L r F t=Xk L r (kct t F):=(rfl)
theorem Zx7{F:List Tr->Prop}:Xk L [] F=F []:=(rfl)
theorem Zx8{x:IV}{F:List Tr->Prop}:Xk L (x::r) F=ZcG L x (ZDH L r F):=(rfl)
theorem Zx9{t:Tr}{F:Tr->Prop}:ZcG L (.tr t) F=F t:=(rfl)
theorem Zya{es:Row}{F:Tr->Prop}:ZcG L (.cs es) F=F (.sl es):=(rfl)
def ZDI(off len:Nat)(F:Tr->Prop)(es:Row)(_u:Bool)(_v:Nat):Prop:=off+len<=es.length/\F (.sl (cut es off len))
theorem Zyb{off len:Nat}{F:Tr->Prop}{es:Row}{u:Bool}{v:Nat}:ZDI off len F es u v=(off+len<=es.length/\F (.sl (cut es off len))):=(rfl)
theorem Zyc{id:Oid}{p:Pth}{off len s:Nat}{cap:Option Nat}{F:Tr->Prop}:ZcG L (.hd id p off len cap s) F=rd3 (L id) p s (ZDI off len F):=by rw[<-Za4];rfl
end
theorem Zyd{α:Type}{x:α}:List.replicate 1 x=[x]:=(rfl)
theorem Zye{e:List Tr}:cut [e] 0 1=[e]:=(rfl)
theorem Zyf{l:List Tr}:ScR [l]=(l.all isSc=true):=by
 apply propext
 constructor
 ·intro h
  exact List.all_eq_true.2 fun t ht=>h l (by simp) t ht
 ·intro h e he t ht
  simp only[List.mem_singleton] at he
  subst he
  exact List.all_eq_true.1 h t ht
theorem Zyg{k:Nat}{l:List Tr}:UnR k [l]=(l.length=k):=by
 apply propext
 constructor
 ·intro h;exact h l (by simp)
 ·intro h e he
  simp only[List.mem_singleton] at he
  rw[he,h]
theorem ZCZ{j:Nat}:max j (j+1)=j+1:=by omega
theorem ZC0{j:Nat}:(j<j+1)=True:=by simp
end Go.Fd

/-
  FOUNDATION 52: numbers and strings as parameters of a law. Own work.
-/
namespace Go.Fd
open Go.RowKit Go.ChangeShapes Go.ChangeMaps Go.WideMaps
section
variable {H:Type} {enc:TypeId×Value->H} {P:Program} {w:World} {t:TypeId} {v:Value} {d:DataW H} {p:List MemPlace} {sp:Nat->Bool} {hd:Bool} {base:Nat}
end
end Go.Fd

/-
  FOUNDATION 54: all rules in one word (printed by evr.py). Own work.
-/
namespace Go.Fd
set_option linter.defProp false in
def EV0:=(And.intro (And.intro (And.intro (And.intro (And.intro @Zv9 @ZAa) (And.intro @Zwa (And.intro @Zwb @Zwc))) (And.intro (And.intro @Zwd @Zwe) (And.intro @Zwf (And.intro @Zwg @ZAb)))) (And.intro (And.intro (And.intro @ZAc @ZAd) (And.intro @ZDR (And.intro @ZDS @ZDT))) (And.intro (And.intro @ZDU @ZDV) (And.intro @ZDW (And.intro @ZDX @ZDY))))) (And.intro (And.intro (And.intro (And.intro @ZAe @ZAf) (And.intro @ZAg (And.intro @Zwh @ZDZ))) (And.intro (And.intro @ZAh @ZAi) (And.intro @ZD0 (And.intro @ZAj @Zwi)))) (And.intro (And.intro (And.intro @ZD1 @ZAk) (And.intro @ZD2 (And.intro @ZAl @ZD3))) (And.intro (And.intro @ZAm @ZD4) (And.intro @ZD5 (And.intro @ZD6 @Zrz))))))
set_option linter.defProp false in
def EV1:=(And.intro (And.intro (And.intro (And.intro (And.intro @ZrA @ZAn) (And.intro @ZtX (And.intro @ZD7 @ZAo))) (And.intro (And.intro @ZD8 @Zwk) (And.intro @Zwl (And.intro @Zwm @Zwn)))) (And.intro (And.intro (And.intro @Zwo @Zwp) (And.intro @ZAp (And.intro @ZAq @ZAr))) (And.intro (And.intro @ZAs @ZAt) (And.intro @ZAu (And.intro @ZAv @ZAw))))) (And.intro (And.intro (And.intro (And.intro @ZAx @ZAy) (And.intro @ZAz (And.intro @ZAA @ZAB))) (And.intro (And.intro @ZAC @ZAD) (And.intro @ZAE (And.intro @Zwq @Zwr)))) (And.intro (And.intro (And.intro @Zws @ZAF) (And.intro @ZAG (And.intro @ZAH @ZAI))) (And.intro (And.intro @ZD9 @ZEa) (And.intro @ZAJ (And.intro @ZEb @ZAK))))))
set_option linter.defProp false in
def EV2:=(And.intro (And.intro (And.intro (And.intro (And.intro @ZEc @ZAL) (And.intro @ZAM (And.intro @ZAN @ZAO))) (And.intro (And.intro @ZEd @ZAP) (And.intro @ZEe (And.intro @ZAQ @ZAR)))) (And.intro (And.intro (And.intro @ZAS @ZEf) (And.intro @ZAT (And.intro @ZEg @ZEh))) (And.intro (And.intro @ZAU @ZAV) (And.intro @ZEi (And.intro @ZAW @ZAX))))) (And.intro (And.intro (And.intro (And.intro @ZAY @ZEj) (And.intro @ZAZ (And.intro @ZEk @ZA0))) (And.intro (And.intro @ZA1 @ZA2) (And.intro @ZEl (And.intro @ZA3 @ZA4)))) (And.intro (And.intro (And.intro @ZA5 @ZEm) (And.intro @ZA6 (And.intro @ZA7 @ZA8))) (And.intro (And.intro @ZEn @ZA9) (And.intro @ZBa (And.intro @ZBb @ZBc))))))
set_option linter.defProp false in
def EV3:=(And.intro (And.intro (And.intro (And.intro (And.intro @ZBd @ZrB) (And.intro @ZrC (And.intro @ZBe @Zwt))) (And.intro (And.intro @ZBf @ZEo) (And.intro @ZBg (And.intro @ZBh @ZBi)))) (And.intro (And.intro (And.intro @ZBj @ZEp) (And.intro @ZBk (And.intro @ZEq @ZBl))) (And.intro (And.intro @ZBm @J5) (And.intro @Zcu (And.intro @Zwu @ZBn))))) (And.intro (And.intro (And.intro (And.intro @Xc @ZBo) (And.intro @ZBp (And.intro @ZBq @Zwv))) (And.intro (And.intro @Zww @Zwy) (And.intro @ZtY (And.intro @ZEr @ZBr)))) (And.intro (And.intro (And.intro @ZBs @ZBt) (And.intro @ZBu (And.intro @Zwz @ZBv))) (And.intro (And.intro @ZBw @ZBx) (And.intro @ZBy (And.intro @ZBz @ZwA))))))
set_option linter.defProp false in
def EV4:=(And.intro (And.intro (And.intro (And.intro (And.intro @ZwB @ZBA) (And.intro @ZwC (And.intro @ZwD @ZEs))) (And.intro (And.intro @ZBB @ZBC) (And.intro @ZBD (And.intro @ZBE @ZwE)))) (And.intro (And.intro (And.intro @ZEt @ZBF) (And.intro @ZEu (And.intro @ZBG @ZBH))) (And.intro (And.intro @ZBI @ZEv) (And.intro @ZBJ (And.intro @ZBK @ZBL))))) (And.intro (And.intro (And.intro (And.intro @ZwF @ZwG) (And.intro @ZwH (And.intro @ZwI @ZtZ))) (And.intro (And.intro @ZwJ @ZBM) (And.intro @ZBN (And.intro @ZBO @ZwK)))) (And.intro (And.intro (And.intro @ZBP @ZBQ) (And.intro @ZBR (And.intro @ZEw @ZBS))) (And.intro (And.intro @ZBT @ZwL) (And.intro @ZBU (And.intro @ZwM @ZBV))))))
set_option linter.defProp false in
def EV5:=(And.intro (And.intro (And.intro (And.intro (And.intro @ZwN @ZBW) (And.intro @ZwO (And.intro @ZBX @ZwP))) (And.intro (And.intro @ZwQ @ZwR) (And.intro @ZBY (And.intro @Zt0 @Zt1)))) (And.intro (And.intro (And.intro @ZBZ @ZwS) (And.intro @ZwT (And.intro @ZwU @ZwV))) (And.intro (And.intro @ZwW @ZB0) (And.intro @ZwX (And.intro @ZB1 @ZwY))))) (And.intro (And.intro (And.intro (And.intro @Zt2 @Zt3) (And.intro @Zt4 (And.intro @Zt5 @Zt6))) (And.intro (And.intro @Zt7 @Zt8) (And.intro @ZB2 (And.intro @ZrD @ZrE)))) (And.intro (And.intro (And.intro @Zt9 @Zua) (And.intro @Zub (And.intro @Zuc @ZrF))) (And.intro (And.intro @ZrG @ZrH) (And.intro @ZrI (And.intro @ZrJ @ZrK))))))
set_option linter.defProp false in
def EV6:=(And.intro (And.intro (And.intro (And.intro (And.intro @Zud @Zue) (And.intro @Zuf (And.intro @ZwZ @Zw0))) (And.intro (And.intro @ZB3 @Zug) (And.intro @Zw1 (And.intro @Zw2 @Zuh)))) (And.intro (And.intro (And.intro @Zw3 @Zw4) (And.intro @Zw5 (And.intro @Zw6 @Zw7))) (And.intro (And.intro @Zw8 @Zw9) (And.intro @Zui (And.intro @Zuj @Zuk))))) (And.intro (And.intro (And.intro (And.intro @Zul @Zxa) (And.intro @Zxb (And.intro @Zxc @Zxd))) (And.intro (And.intro @Zxe @ZrL) (And.intro @ZrM (And.intro @ZrN @ZEx)))) (And.intro (And.intro (And.intro @ZB4 @ZB5) (And.intro @ZB6 (And.intro @ZfD @ZfE))) (And.intro (And.intro @Zum @Zun) (And.intro @Zxg (And.intro @Zxh @Zxi))))))
set_option linter.defProp false in
def EV7:=(And.intro (And.intro (And.intro (And.intro (And.intro @Zxj @Zxk) (And.intro @Zxl (And.intro @Zxm @Zxn))) (And.intro (And.intro @Zxo @Zuo) (And.intro @ZB7 (And.intro @Zup @Zuq)))) (And.intro (And.intro (And.intro @ZB8 @ZB9) (And.intro @ZCa (And.intro @ZCb @Zxp))) (And.intro (And.intro @Zxq @Zxr) (And.intro @ZCc (And.intro @ZEy @ZCd))))) (And.intro (And.intro (And.intro (And.intro @ZCe @ZCf) (And.intro @ZCg (And.intro @ZCh @Zur))) (And.intro (And.intro @Zus @Zxs) (And.intro @Zxt (And.intro @Zxu @Zxv)))) (And.intro (And.intro (And.intro @ZCi @Zxx) (And.intro @Zut (And.intro @Zuu @Zxy))) (And.intro (And.intro @Zxz @ZEz) (And.intro @ZEA (And.intro @Zuv @Zuw))))))
set_option linter.defProp false in
def EV8:=(And.intro (And.intro (And.intro (And.intro (And.intro @ZEB @ZEC) (And.intro @ZCj (And.intro @ZCk @ZED))) (And.intro (And.intro @ZEE @ZCl) (And.intro @ZCm (And.intro @ZCn @ZCo)))) (And.intro (And.intro (And.intro @ZCp @ZEF) (And.intro @ZxA (And.intro @ZxB @ZEG))) (And.intro (And.intro @ZxC @ZxD) (And.intro @ZxE (And.intro @ZxF @ZxG))))) (And.intro (And.intro (And.intro (And.intro @ZEH @ZEI) (And.intro @ZxH (And.intro @ZxI @ZxJ))) (And.intro (And.intro @ZCq @ZEJ) (And.intro @ZCr (And.intro @ZCs @ZxK)))) (And.intro (And.intro (And.intro @ZxL @ZCt) (And.intro @ZxM (And.intro @ZxN @ZCu))) (And.intro (And.intro @ZxO @ZCw) (And.intro @ZxP (And.intro @Zux @ZiA))))))
set_option linter.defProp false in
def EV9:=(And.intro (And.intro (And.intro (And.intro (And.intro @ZEK @ZCx) (And.intro @ZCy (And.intro @ZxQ @ZEL))) (And.intro (And.intro @ZCz @ZEM) (And.intro @ZCA (And.intro @ZCB @ZCC)))) (And.intro (And.intro (And.intro @ZEN @ZCD) (And.intro @ZCE (And.intro @ZxR @ZxS))) (And.intro (And.intro @ZEO @ZCF) (And.intro @ZEP (And.intro @ZCG @ZCH))))) (And.intro (And.intro (And.intro (And.intro @ZCI @Zuy) (And.intro @Zuz (And.intro @ZxT @ZxU))) (And.intro (And.intro @ZxV @ZxW) (And.intro @ZuA (And.intro @Zpb @ZEQ)))) (And.intro (And.intro (And.intro @ZuB @ZuC) (And.intro @ZuD (And.intro @ZuE @ZuF))) (And.intro (And.intro @ZxX @ZER) (And.intro @ZCK (And.intro @ZCL @ZES))))))
set_option linter.defProp false in
def ZEW:=(And.intro (And.intro (And.intro (And.intro (And.intro @ZCM @ZCN) (And.intro @ZCO (And.intro @ZxY @ZxZ))) (And.intro (And.intro @Zx0 @ZCP) (And.intro @ZCQ (And.intro @ZET @ZEU)))) (And.intro (And.intro (And.intro @ZCR @ZEV) (And.intro @ZCS (And.intro @ZCT @Zx1))) (And.intro (And.intro @ZCU @Zx2) (And.intro @Zx3 (And.intro @ZuI @ZuJ))))) (And.intro (And.intro (And.intro (And.intro @Zx5 @ZCV) (And.intro @ZCW (And.intro @ZCX @ZCY))) (And.intro (And.intro @Zx6 @Zx7) (And.intro @Zx8 (And.intro @Zx9 @Zya)))) (And.intro (And.intro (And.intro @Zyb @Zyc) (And.intro @Zyd (And.intro @Zye @Zyf))) (And.intro (And.intro @Zyg @ZCZ) (And.intro @ZC0 (And.intro @bigN.eq_1 @fpart.eq_1))))))
set_option linter.defProp false in
def ZEX:=(And.intro (And.intro (And.intro (And.intro (And.intro @fpart.eq_2 @okp.eq_1) (And.intro @okp.eq_2 (And.intro @zfill.eq_1 @zfill.eq_2))) (And.intro (And.intro @zobs.eq_1 @ptd.eq_1) (And.intro @ptd.eq_2 (And.intro @keyOf.eq_1 @keyOf.eq_2)))) (And.intro (And.intro (And.intro @freshK.eq_1 @freshK.eq_2) (And.intro @lk.eq_1 (And.intro @lk.eq_2 @pt.eq_1))) (And.intro (And.intro @pt.eq_2 @lkO.eq_1) (And.intro @lkO.eq_2 (And.intro @ptO.eq_1 @ptO.eq_2))))) (And.intro (And.intro (And.intro (And.intro @addO.eq_1 @addO.eq_2) (And.intro @xv.eq_1 (And.intro @xv.eq_2 @xv.eq_3))) (And.intro (And.intro @kv.eq_1 @kv.eq_2) (And.intro @kc.eq_1 (And.intro @kc.eq_2 @params.eq_1)))) (And.intro (And.intro (And.intro @params.eq_2 @trv.eq_1) (And.intro @trv.eq_2 (And.intro @List.length_cons.{0} @List.length_nil.{0}))) (And.intro (And.intro @Option.getD_some.{0} @Option.getD_none.{0}) (And.intro @true_and (And.intro @and_true @decide_eq_true_eq))))))
set_option linter.defProp false in
def ZEY:=(And.intro (And.intro (And.intro (And.intro (And.intro @decide_true @decide_false) (And.intro @Option.map_some.{0,0} (And.intro @Option.map_none.{0,0} @Option.isSome_some.{0}))) (And.intro (And.intro @Option.isSome_none.{0} @Option.isNone_some.{0}) (And.intro @Option.isNone_none.{0} (And.intro @List.map_cons.{0,0} @List.map_nil.{0,0})))) (And.intro (And.intro (And.intro @List.cons_append.{0} @List.nil_append.{0}) (And.intro @List.getElem?_cons_zero.{0} (And.intro @List.getElem?_cons_succ.{0} @List.drop_succ_cons.{0}))) (And.intro (And.intro @List.drop_zero.{0} @List.take_succ_cons.{0}) (And.intro @List.take_zero.{0} (And.intro @List.headD_cons.{0} @List.headD_nil.{0}))))) (And.intro (And.intro (And.intro (And.intro @List.tail_cons.{0} @List.tail_nil.{0}) (And.intro @noSh.eq_1 (And.intro @noSh.eq_2 @noSh.eq_3))) (And.intro (And.intro @noSh.eq_4 @noSh.eq_5) (And.intro @noSh.eq_6 (And.intro @noSh.eq_7 @noSh.eq_8)))) (And.intro (And.intro (And.intro @noShs.eq_1 @noShs.eq_2) (And.intro @isSc.eq_1 (And.intro @isSc.eq_2 @impv.eq_1))) (And.intro (And.intro @impv.eq_2 @impv.eq_3) (And.intro @impv.eq_4 (And.intro @impvs.eq_1 @impvs.eq_2))))))
set_option linter.defProp false in
def ZEZ:=(And.intro (And.intro (And.intro (And.intro (And.intro @impc.eq_1 @impc.eq_2) (And.intro @memB.eq_1 (And.intro @memB.eq_2 @keepB.eq_1))) (And.intro (And.intro @keepB.eq_2 @keepOB.eq_1) (And.intro @keepOB.eq_2 (And.intro @or_true @true_or)))) (And.intro (And.intro (And.intro @or_false @false_or) (And.intro @Bool.false_eq_true (And.intro @Bool.true_eq_false @if_true.{1}))) (And.intro (And.intro @if_false.{1} @Bool.not_true) (And.intro @Bool.not_false (And.intro @scrE.eq_1 @scrE.eq_2))))) (And.intro (And.intro (And.intro (And.intro @scrL.eq_1 @scrL.eq_2) (And.intro @scr.eq_1 (And.intro @scr.eq_2 @scr.eq_3))) (And.intro (And.intro @scr.eq_4 @scr.eq_5) (And.intro @scr.eq_6 (And.intro @scr.eq_7 @scr.eq_8)))) (And.intro (And.intro (And.intro @scrs.eq_1 @scrs.eq_2) (And.intro @scrOb.eq_1 (And.intro @scrOb.eq_2 @rmO.eq_1))) (And.intro (And.intro @rmO.eq_2 @Int.toNat_natCast) (And.intro @Int.toNat_zero (And.intro @Int.toNat_one @List.all_cons.{0}))))))
set_option linter.defProp false in
def ZE0:=(And.intro (And.intro (And.intro (And.intro (And.intro @List.all_nil.{0} @isCell.eq_1) (And.intro @isCell.eq_2 (And.intro @isCell.eq_3 @isCell.eq_4))) (And.intro (And.intro @isCell.eq_5 @isCell.eq_6) (And.intro @Bool.and_true (And.intro @Bool.true_and @Bool.and_self)))) (And.intro (And.intro (And.intro @cellsOf.eq_1 @cellsOf.eq_2) (And.intro @totr.eq_1 (And.intro @totr.eq_2 @totr.eq_3))) (And.intro (And.intro @totr.eq_4 @totr.eq_5) (And.intro @totrs.eq_1 (And.intro @totrs.eq_2 @tocs.eq_1))))) (And.intro (And.intro (And.intro (And.intro @getp.eq_1 @getp.eq_2) (And.intro @cvt.eq_1 (And.intro @cvt.eq_2 @cvts.eq_1))) (And.intro (And.intro @cvts.eq_2 @Nat.zero_add) (And.intro @Nat.add_zero (And.intro @List.set_cons_zero.{0} @List.set_cons_succ.{0})))) (And.intro (And.intro (And.intro @Bool.not_eq_true' @Bool.not_eq_false') (And.intro @Int.natCast_nonneg (And.intro @Nat.le_refl @Prod.mk.injEq.{0,0}))) (And.intro (And.intro @ne_eq.{1} @not_false_eq_true) (And.intro @not_true_eq_false (And.intro @List.length_map.{0,0} @List.length_replicate.{0}))))))
set_option linter.defProp false in
def ZE1:=(And.intro (And.intro @List.replicate_zero.{0} @and_false) (And.intro @false_and (And.intro @and_self @Int.cast_ofNat_Int)))
set_option linter.defProp false in
def EVA:=(And.intro (And.intro (And.intro (And.intro EV0 EV1) (And.intro EV2 EV3)) (And.intro (And.intro EV4 EV5) (And.intro EV6 EV7))) (And.intro (And.intro (And.intro EV8 EV9) (And.intro ZEW ZEX)) (And.intro (And.intro ZEY ZEZ) (And.intro ZE0 ZE1))))
abbrev oo(d:Nat)(x:O):OP:=⟨some d,none,x⟩
abbrev on1(x:O):OP:=⟨none,none,x⟩
abbrev og(d j:Nat)(w:Bool)(x:O):OP:=⟨some d,some (j,w),x⟩
abbrev om(d:Nat)(x:X):OP:=⟨some d,none,.mv x none⟩
abbrev rg(l:List OP):C2:=.rg none l
abbrev i6(n:Int):X:=.k (.int .i64 n)
end Go.Fd

/-
  PLAIN WORDS FOR THE DATA, AND WHAT HOLDS OF THE HELPERS OF THE LAWS THAT ARE ALIKE FOR ALL KINDS OF SLICES. Own work.
-/
namespace Go.Fd
set_option maxRecDepth 10000
theorem Zk{c:Prop}[Decidable c]{p q:Prop}(h1:c->p)(h2:¬ c->q):if c then p else q:=by
 split
 ·exact h1 ‹_›
 ·exact h2 ‹_›
def szF{α:Type}(f:α->Int->Int):List α->Int->Int
 | [],l=>l
 | x::r,l=>if f x l<0 then -1 else szF f r (f x l)
def szL{α:Type}(f:α->Int->Int)(a:List α)(left:Int):Int:=if left-a.length<0 then -1 else szF f a (left-a.length)
def Zzc(k:Nat)(m:Option Nat)(fid:FuncId):F2 :=
 { nt:=27,res:=[.t 4 [0]],body:=(.sq (.rg none [⟨some 4,none,.mv (.k (.int .i64 0)) none⟩]) (.sq (.rg none [⟨some 6,none,.mv (.t 1) none⟩,
   ⟨some 7,none,.mv (.t 0) none⟩,
   ⟨some 8,none,.ln (.t 7)⟩,
   ⟨some 9,none,.bi .sub 0 (.t 6) (.t 8)⟩,
   ⟨some 1,none,.mv (.t 9) none⟩]) (.sq (.sq (.rg none [⟨some 10,none,.mv (.t 1) none⟩,
    ⟨some 11,none,.bi .lss 0 (.t 10) (.k (.int .i64 0))⟩]) (.cd (.t 11) (.sq (.rg none [⟨some 4,none,.mv (.k (.int .i64 (-1))) none⟩]) (.rt)) (.sk))) (.sq (.sq (.rg none [⟨some 5,none,.mv (.k (.int .i64 0)) none⟩]) (.bl 0 (.lp [0,1,5] [] (.sq (.sq (.rg none [⟨some 12,none,.mv (.t 5) none⟩,
     ⟨some 13,none,.mv (.t 0) none⟩,
     ⟨some 14,none,.ln (.t 13)⟩,
     ⟨some 15,none,.bi .lss 0 (.t 12) (.t 14)⟩]) (.cd (.t 15) (.sk) (.ex 0))) (.sq (.bl 1 (.sq (.rg none [⟨some 18,none,.mv (.t 0) none⟩,
      ⟨some 19,none,.mv (.t 5) none⟩,
      ⟨some 20,none,.ia k (.t 18) (.t 19)⟩,
      ⟨some 21,none,.ld m (.t 20)⟩,
      ⟨some 22,none,.mv (.t 1) none⟩,
      ⟨some 23,none,.ca .pure false (.f fid) [.t 21,.t 22]⟩,
      ⟨some 1,none,.mv (.t 23) none⟩]) (.sq (.rg none [⟨some 24,none,.mv (.t 1) none⟩,
      ⟨some 25,none,.bi .lss 0 (.t 24) (.k (.int .i64 0))⟩]) (.cd (.t 25) (.sq (.rg none [⟨some 4,none,.mv (.k (.int .i64 (-1))) none⟩]) (.rt)) (.sk))))) (.rg none [⟨some 16,none,.mv (.t 5) none⟩,
    ⟨some 17,none,.bi .add 0 (.t 16) (.k (.int .i64 1))⟩,
    ⟨some 5,none,.mv (.t 17) none⟩])))))) (.sq (.rg none [⟨some 26,none,.mv (.t 1) none⟩,
   ⟨some 4,none,.mv (.t 26) none⟩]) (.rt)))))) }
theorem ZmH{P:Program}{fid fe:FuncId}{k:Nat}(hc:ZE P fid (Zzc k (some k) fe)=true){α:Type}(c:α->List Tr)(f:α->Int->Int)(hk:∀ x,(c x).length=k)(a:List α)(left:Int)(h:a.length<=9223372036854775807)(h0:0<=left)(h1:left<=1048576)
  (hf:∀ x∈a,∀ l:Int,0<=l->l<=1048576->f x l<=l/\∀ lvl S,Sem P fe lvl [.ag ((c x).map .tr),iI l] S (iI (f x l)) S) (lvl:Nat) (S:Sto) :
  Sem P fid lvl [.tr (.sl (a.map c)),iI left] S (iI (szL f a left)) S:=by
 refine Zc hc trivial ?_
 simp only[Zzc,List.length_map,EVA,seval,Zf,men]
 refine⟨by rw[Zd];omega,?_⟩
 unfold szL
 split
 ·rfl
 ·rename_i hlt
  generalize hr:szF f a (left-a.length)=total
  refine Jp (α:=Int) a.length (fun j l=>⟨lvl,[(0,.tr (.sl (a.map c))),(1,iI l),(5,iI j)],[],S⟩) (fun j l=>0<=l/\l<=1048576/\szF f (a.drop j) l=total) (left-a.length) ⟨by simp only[EVA,seval,Zf,men],by (simp only[EVA,seval,Zf,men]) <;> rfl⟩ ⟨by omega,by omega,hr⟩ ?_
  intro j l hj ⟨hl0,hl1,hl⟩
  simp only[List.length_map,EVA,seval,Zf,men]
  split
  ·rename_i hlt
   have hja:j<a.length:=by omega
   have ga:(a.map c)[j]? = some (c a[j]):=by simp [hja]
   have hkk:=hk a[j]
   have htk:(c a[j]).take k=c a[j]:=List.take_of_length_le (by omega)
   rw[List.drop_eq_getElem_cons hja] at hl
   obtain⟨hle,hsem⟩:=hf a[j] (List.getElem_mem hja) l hl0 hl1
   simp only[ga,hkk,htk,Int.natCast_nonneg,Nat.le_refl,EVA,seval,Zf,men]
   refine Za hsem ?_
   simp only[EVA,seval,Zf,men]
   split
   ·rename_i hneg
    simp only[szF,if_pos hneg] at hl
    rw[hl]
   ·rename_i hneg
    simp only[szF,if_neg hneg] at hl
    refine⟨by rw[Zd];omega,Ze (f a[j] l) hja rfl ⟨by omega,by omega,hl⟩⟩
  ·rename_i hge
   have:j=a.length:=by omega
   subst this
   simp only[List.drop_length,szF] at hl
   rw[hl]
def ZC1:F2 :=
 { nt:=28,res:=[.t 4 [0]],body:=(.sq (.rg none [⟨some 4,none,.mv (.k (.int .i64 0)) none⟩]) (.sq (.rg none [⟨some 6,none,.mv (.t 1) none⟩,
   ⟨some 7,none,.mv (.t 0) none⟩,
   ⟨some 8,none,.ln (.t 7)⟩,
   ⟨some 9,none,.bi .sub 0 (.t 6) (.t 8)⟩,
   ⟨some 1,none,.mv (.t 9) none⟩]) (.sq (.sq (.rg none [⟨some 10,none,.mv (.t 1) none⟩,
    ⟨some 11,none,.bi .lss 0 (.t 10) (.k (.int .i64 0))⟩]) (.cd (.t 11) (.sq (.rg none [⟨some 4,none,.mv (.k (.int .i64 (-1))) none⟩]) (.rt)) (.sk))) (.sq (.sq (.rg none [⟨some 5,none,.mv (.k (.int .i64 0)) none⟩]) (.bl 0 (.lp [0,1,5] [] (.sq (.sq (.rg none [⟨some 12,none,.mv (.t 5) none⟩,
     ⟨some 13,none,.mv (.t 0) none⟩,
     ⟨some 14,none,.ln (.t 13)⟩,
     ⟨some 15,none,.bi .lss 0 (.t 12) (.t 14)⟩]) (.cd (.t 15) (.sk) (.ex 0))) (.sq (.bl 1 (.sq (.rg none [⟨some 18,none,.mv (.t 1) none⟩,
      ⟨some 19,none,.mv (.t 0) none⟩,
      ⟨some 20,none,.mv (.t 5) none⟩,
      ⟨some 21,none,.ia 1 (.t 19) (.t 20)⟩,
      ⟨some 22,none,.ld none (.t 21)⟩,
      ⟨some 23,none,.lg (.t 22)⟩,
      ⟨some 24,none,.bi .sub 0 (.t 18) (.t 23)⟩,
      ⟨some 1,none,.mv (.t 24) none⟩]) (.sq (.rg none [⟨some 25,none,.mv (.t 1) none⟩,
      ⟨some 26,none,.bi .lss 0 (.t 25) (.k (.int .i64 0))⟩]) (.cd (.t 26) (.sq (.rg none [⟨some 4,none,.mv (.k (.int .i64 (-1))) none⟩]) (.rt)) (.sk))))) (.rg none [⟨some 16,none,.mv (.t 5) none⟩,
    ⟨some 17,none,.bi .add 0 (.t 16) (.k (.int .i64 1))⟩,
    ⟨some 5,none,.mv (.t 17) none⟩])))))) (.sq (.rg none [⟨some 27,none,.mv (.t 1) none⟩,
   ⟨some 4,none,.mv (.t 27) none⟩]) (.rt)))))) }
theorem ZrO{P:Program}{fid:FuncId}(hc:ZE P fid ZC1=true)(a:List ByteArray)(left:Int)(h:a.length<=9223372036854775807)(h0:0<=left)(h1:left<=1048576)
  (hf:∀ x∈a,x.size<=9223372036854775807) (lvl:Nat) (S:Sto) :
  Sem P fid lvl [tS a,iI left] S (iI (szL (fun x l=>l-x.size) a left)) S:=by
 refine Zc hc trivial ?_
 simp only[ZC1,List.length_map,EVA,seval,Zf,men]
 refine⟨by rw[Zd];omega,?_⟩
 unfold szL
 split
 ·rfl
 ·rename_i hlt
  generalize hr:szF (fun(x:ByteArray) l=>l-x.size) a (left-a.length)=total
  refine Jp (α:=Int) a.length (fun j l=>⟨lvl,[(0,tS a),(1,iI l),(5,iI j)],[],S⟩) (fun j l=>0<=l/\l<=1048576/\szF (fun(x:ByteArray) l=>l-x.size) (a.drop j) l=total) (left-a.length) ⟨by simp only[EVA,seval,Zf,men],by (simp only[EVA,seval,Zf,men]) <;> rfl⟩ ⟨by omega,by omega,hr⟩ ?_
  intro j l hj ⟨hl0,hl1,hl⟩
  simp only[List.length_map,EVA,seval,Zf,men]
  split
  ·rename_i hlt
   have hja:j<a.length:=by omega
   have ga:(rS a)[j]? = some [ts a[j]]:=by simp [hja]
   rw[List.drop_eq_getElem_cons hja] at hl
   have hs:=hf a[j] (List.getElem_mem hja)
   simp only[ga,Int.natCast_nonneg,Nat.le_refl,EVA,seval,Zf,men]
   refine⟨by rw[Zd];omega,?_⟩
   split
   ·rename_i hneg
    simp only[szF,if_pos hneg] at hl
    rw[hl]
   ·rename_i hneg
    simp only[szF,if_neg hneg] at hl
    refine⟨by rw[Zd];omega,Ze (l-a[j].size) hja rfl ⟨by omega,by omega,hl⟩⟩
  ·rename_i hge
   have:j=a.length:=by omega
   subst this
   simp only[List.drop_length,szF] at hl
   rw[hl]
def Zzd(k:Nat)(m:Option Nat)(fid:FuncId):F2 :=
 { nt:=27,res:=[.t 4 [0]],body:=(.sq (.rg none [⟨some 4,none,.mv (.k (.bool false)) none⟩]) (.sq (.sq (.rg none [⟨some 6,none,.mv (.t 0) none⟩,
    ⟨some 7,none,.ln (.t 6)⟩,
    ⟨some 8,none,.mv (.t 1) none⟩,
    ⟨some 9,none,.ln (.t 8)⟩,
    ⟨some 10,none,.bi .neq 0 (.t 7) (.t 9)⟩]) (.cd (.t 10) (.sq (.rg none [⟨some 4,none,.mv (.k (.bool false)) none⟩]) (.rt)) (.sk))) (.sq (.sq (.rg none [⟨some 5,none,.mv (.k (.int .i64 0)) none⟩]) (.bl 0 (.lp [0,1,5] [] (.sq (.sq (.rg none [⟨some 11,none,.mv (.t 5) none⟩,
     ⟨some 12,none,.mv (.t 0) none⟩,
     ⟨some 13,none,.ln (.t 12)⟩,
     ⟨some 14,none,.bi .lss 0 (.t 11) (.t 13)⟩]) (.cd (.t 14) (.sk) (.ex 0))) (.sq (.bl 1 (.sq (.rg (some 0) [⟨some 17,none,.mv (.t 0) none⟩,
      ⟨some 18,none,.mv (.t 5) none⟩,
      ⟨some 19,none,.ia k (.t 17) (.t 18)⟩,
      ⟨some 20,none,.ld m (.t 19)⟩,
      ⟨some 21,none,.mv (.t 1) none⟩,
      ⟨some 22,none,.mv (.t 5) none⟩,
      ⟨some 23,none,.ia k (.t 21) (.t 22)⟩,
      ⟨some 24,none,.ld m (.t 23)⟩,
      ⟨some 25,none,.ca .pure false (.f fid) [.t 20,.t 24]⟩,
      ⟨some 26,none,.nt (.t 25)⟩]) (.cd (.t 26) (.sq (.rg none [⟨some 4,none,.mv (.k (.bool false)) none⟩]) (.rt)) (.sk)))) (.rg none [⟨some 15,none,.mv (.t 5) none⟩,
    ⟨some 16,none,.bi .add 0 (.t 15) (.k (.int .i64 1))⟩,
    ⟨some 5,none,.mv (.t 16) none⟩])))))) (.sq (.rg none [⟨some 4,none,.mv (.k (.bool true)) none⟩]) (.rt))))) }
theorem Zec{α:Type}{a b:List α}{j:Nat}(ha:j<a.length)(hb:j<b.length)(h:a[j]≠b[j]):a≠b:=by
 intro e;subst e;exact h rfl
theorem Zcw{α:Type}{a b:List α}(hl:a.length=b.length)(h:a.take a.length=b.take a.length):a=b:=by
 rw[List.take_length,hl,List.take_length] at h;exact h
theorem Za6{α:Type}{a b:List α}{j:Nat}(ha:j<a.length)(hb:j<b.length)(h:a.take j=b.take j)(e:a[j]=b[j]):a.take (j+1)=b.take (j+1):=by
 rw[List.take_succ_eq_append_getElem ha,List.take_succ_eq_append_getElem hb,h,e]
theorem ZmI{P:Program}{fid fe:FuncId}{k:Nat}(hc:ZE P fid (Zzd k (some k) fe)=true){α:Type}[DecidableEq α](c:α->List Tr)(hk:∀ x,(c x).length=k)(a b:List α)(ha:a.length<=9223372036854775807)
  (hf:∀ x∈a,∀ y∈b,∀ lvl S,Sem P fe lvl [.ag ((c x).map .tr),.ag ((c y).map .tr)] S (iB (decide (x=y))) S) (lvl:Nat) (S:Sto) :
  Sem P fid lvl [.tr (.sl (a.map c)),.tr (.sl (b.map c))] S (iB (decide (a=b))) S:=by
 refine Zc hc trivial ?_
 simp only[Zzd,List.length_map,EVA,seval,Zf,men]
 split
 ·rename_i h
  have:¬ a=b:=fun e=>h (by rw[e])
  simp [this]
 ·rename_i h
  have hlen:a.length=b.length:=by omega
  refine Jp (α:=Unit) a.length (fun j _=>⟨lvl,[(0,.tr (.sl (a.map c))),(1,.tr (.sl (b.map c))),(5,iI j)],[],S⟩) (fun j _=>a.take j=b.take j) () ⟨by simp only[EVA,seval,Zf,men],by (simp only[EVA,seval,Zf,men]) <;> rfl⟩ rfl ?_
  intro j _ hj hA
  simp only[List.length_map,EVA,seval,Zf,men]
  split
  ·rename_i hlt
   have hja:j<a.length:=by omega
   have hjb:j<b.length:=by omega
   have ga:(a.map c)[j]? = some (c a[j]):=by simp [hja]
   have gb:(b.map c)[j]? = some (c b[j]):=by simp [hjb]
   have hka:=hk a[j]
   have hkb:=hk b[j]
   have hta:(c a[j]).take k=c a[j]:=List.take_of_length_le (by omega)
   have htb:(c b[j]).take k=c b[j]:=List.take_of_length_le (by omega)
   have hsem:=hf a[j] (List.getElem_mem hja) b[j] (List.getElem_mem hjb)
   simp only[ga,gb,hka,hkb,hta,htb,Int.natCast_nonneg,Nat.le_refl,EVA,seval,Zf,men]
   refine Za hsem ?_
   simp only[Bool.not_eq_true',EVA,seval,Zf,men]
   split
   ·rename_i hne
    have:¬ a=b:=Zec hja hjb (by simpa using hne)
    simp [this]
   ·rename_i he
    refine⟨by rw[Zd];omega,Ze () hja rfl (Za6 hja hjb hA (by simpa using he))⟩
  ·rename_i hge
   have:j=a.length:=by omega
   subst this
   have:a=b:=Zcw hlen hA
   simp [this]
def ZC2:F2 :=
 { nt:=26,res:=[.t 4 [0]],body:=(.sq (.rg none [⟨some 4,none,.mv (.k (.bool false)) none⟩]) (.sq (.sq (.rg none [⟨some 6,none,.mv (.t 0) none⟩,
    ⟨some 7,none,.ln (.t 6)⟩,
    ⟨some 8,none,.mv (.t 1) none⟩,
    ⟨some 9,none,.ln (.t 8)⟩,
    ⟨some 10,none,.bi .neq 0 (.t 7) (.t 9)⟩]) (.cd (.t 10) (.sq (.rg none [⟨some 4,none,.mv (.k (.bool false)) none⟩]) (.rt)) (.sk))) (.sq (.sq (.rg none [⟨some 5,none,.mv (.k (.int .i64 0)) none⟩]) (.bl 0 (.lp [0,1,5] [] (.sq (.sq (.rg none [⟨some 11,none,.mv (.t 5) none⟩,
     ⟨some 12,none,.mv (.t 0) none⟩,
     ⟨some 13,none,.ln (.t 12)⟩,
     ⟨some 14,none,.bi .lss 0 (.t 11) (.t 13)⟩]) (.cd (.t 14) (.sk) (.ex 0))) (.sq (.bl 1 (.sq (.rg (some 0) [⟨some 17,none,.mv (.t 0) none⟩,
      ⟨some 18,none,.mv (.t 5) none⟩,
      ⟨some 19,none,.ia 1 (.t 17) (.t 18)⟩,
      ⟨some 20,none,.ld none (.t 19)⟩,
      ⟨some 21,none,.mv (.t 1) none⟩,
      ⟨some 22,none,.mv (.t 5) none⟩,
      ⟨some 23,none,.ia 1 (.t 21) (.t 22)⟩,
      ⟨some 24,none,.ld none (.t 23)⟩,
      ⟨some 25,none,.bi .neq 0 (.t 20) (.t 24)⟩]) (.cd (.t 25) (.sq (.rg none [⟨some 4,none,.mv (.k (.bool false)) none⟩]) (.rt)) (.sk)))) (.rg none [⟨some 15,none,.mv (.t 5) none⟩,
    ⟨some 16,none,.bi .add 0 (.t 15) (.k (.int .i64 1))⟩,
    ⟨some 5,none,.mv (.t 16) none⟩])))))) (.sq (.rg none [⟨some 4,none,.mv (.k (.bool true)) none⟩]) (.rt))))) }
theorem ZuK{P:Program}{fid:FuncId}(hc:ZE P fid ZC2=true)(a b:List ByteArray)(ha:a.length<=9223372036854775807)(lvl:Nat)(S:Sto):Sem P fid lvl [tS a,tS b] S (iB (decide (a=b))) S:=by
 refine Zc hc trivial ?_
 simp only[ZC2,List.length_map,EVA,seval,Zf,men]
 split
 ·rename_i h
  have:¬ a=b:=fun e=>h (by rw[e])
  simp [this]
 ·rename_i h
  have hlen:a.length=b.length:=by omega
  refine Jp (α:=Unit) a.length (fun j _=>⟨lvl,[(0,tS a),(1,tS b),(5,iI j)],[],S⟩) (fun j _=>a.take j=b.take j) () ⟨by simp only[EVA,seval,Zf,men],by (simp only[EVA,seval,Zf,men]) <;> rfl⟩ rfl ?_
  intro j _ hj hA
  simp only[List.length_map,EVA,seval,Zf,men]
  split
  ·rename_i hlt
   have hja:j<a.length:=by omega
   have hjb:j<b.length:=by omega
   have ga:(rS a)[j]? = some [ts a[j]]:=by simp [hja]
   have gb:(rS b)[j]? = some [ts b[j]]:=by simp [hjb]
   simp only[ga,gb,Int.natCast_nonneg,Nat.le_refl,EVA,seval,Zf,men]
   split
   ·rename_i hne
    have:¬ a=b:=Zec hja hjb (by simpa using hne)
    simp [this]
   ·rename_i he
    refine⟨by rw[Zd];omega,Ze () hja rfl (Za6 hja hjb hA (by simpa using he))⟩
  ·rename_i hge
   have:j=a.length:=by omega
   subst this
   have:a=b:=Zcw hlen hA
   simp [this]
def Xt{α:Type}(c:α->List Tr)(z:List Tr)(a:List α)(j:Nat):Row:=(a.take j).map c++List.replicate (a.length-j) z
theorem Zcx{α:Type}(c:α->List Tr)(z:List Tr)(a:List α):Xt c z a 0=List.replicate a.length z:=by simp [Xt]
theorem Zed{α:Type}(c:α->List Tr)(z:List Tr)(a:List α):Xt c z a a.length=a.map c:=by simp [Xt]
theorem ZcY{α:Type}{c:α->List Tr}{z:List Tr}{a:List α}{j:Nat}(h:j<=a.length):(Xt c z a j).length=a.length:=by
 simp [Xt];omega
theorem Zee{α:Type}{c:α->List Tr}{z:List Tr}{a:List α}{j:Nat}(h:j<a.length):(Xt c z a j)[j]? = some z:=by
 unfold Xt
 have h1:((a.take j).map c).length=j:=by rw[List.length_map,List.length_take];omega
 rw[List.getElem?_append_right (by omega),h1,Nat.sub_self,List.getElem?_replicate]
 rw[if_pos (by omega)]
theorem Zef{α:Type}{c:α->List Tr}{z e:List Tr}{a:List α}{j:Nat}(h:j<a.length)(he:e=c a[j]):(Xt c z a j).set j e=Xt c z a (j+1):=by
 subst he
 unfold Xt
 have h1:((a.take j).map c).length=j:=by simp;omega
 rw[List.set_append_right _ _ (by omega),h1,Nat.sub_self,show a.length-j=(a.length-(j+1))+1 from by omega,List.replicate_succ,List.set_cons_zero,List.take_succ_eq_append_getElem h,List.map_append]
 simp
def ZC3(z:Value):F2 :=
 { nt:=22,res:=[.t 2 [2]],body:=(.sq (.rg none [⟨some 2,none,.mv (.k (.slice none 0 0)) none⟩]) (.sq (.rg none [⟨some 5,none,.mv (.t 0) none⟩,
   ⟨some 6,none,.ln (.t 5)⟩,
   ⟨some 7,none,.ms 1 [z] (.t 6)⟩,
   ⟨some 3,none,.mv (.t 7) none⟩]) (.sq (.sq (.rg none [⟨some 4,none,.mv (.k (.int .i64 0)) none⟩]) (.bl 0 (.lp [0,3,4] [224] (.sq (.sq (.rg none [⟨some 8,none,.mv (.t 4) none⟩,
     ⟨some 9,none,.mv (.t 0) none⟩,
     ⟨some 10,none,.ln (.t 9)⟩,
     ⟨some 11,none,.bi .lss 0 (.t 8) (.t 10)⟩]) (.cd (.t 11) (.sk) (.ex 0))) (.sq (.bl 1 (.rg none [⟨some 14,none,.mv (.t 3) none⟩,
     ⟨some 15,none,.mv (.t 4) none⟩,
     ⟨some 16,none,.mv (.t 0) none⟩,
     ⟨some 17,none,.mv (.t 4) none⟩,
     ⟨some 18,none,.ia 1 (.t 16) (.t 17)⟩,
     ⟨some 19,none,.ld none (.t 18)⟩,
     ⟨some 20,none,.ia 1 (.t 14) (.t 15)⟩,
     ⟨none,none,.st 1 (.t 20) (.t 19)⟩])) (.rg none [⟨some 12,none,.mv (.t 4) none⟩,
    ⟨some 13,none,.bi .add 0 (.t 12) (.k (.int .i64 1))⟩,
    ⟨some 4,none,.mv (.t 13) none⟩])))))) (.sq (.rg none [⟨some 21,none,.mv (.t 3) none⟩,
   ⟨some 2,none,.mv (.t 21) none⟩]) (.rt))))) }
theorem ZuL{P:Program}{fid:FuncId}(hc:ZE P fid (ZC3 (.string ⟨#[]⟩))=true)(a:List ByteArray)(ha:a.length<=4294967296)(lvl:Nat)(S:Sto):Sem P fid lvl [tS a] S (.ow 1 (rS a) true) S:=by
 refine Zc hc trivial ?_
 simp only[ZC3,List.length_map,bigN,Int.natCast_nonneg,EVA,seval,Zf,men]
 refine⟨by omega,?_⟩
 refine Jp (α:=Unit) a.length (fun j _=>⟨lvl,[(0,tS a),(3,.hd (lvl,224) [] 0 a.length none a.length),(4,iI j)],[(224,.ar 1 (Xt (fun n=>[ts n]) [ts ⟨#[]⟩] a j) true a.length 0)],S⟩) (fun _ _=>True) () ⟨by simp only[EVA,seval,Zf,men],by (simp only[Zcx,EVA,seval,Zf,men]) <;> rfl⟩ trivial ?_
 intro j _ hj _
 simp only[List.length_map,EVA,seval,Zf,men]
 split
 ·rename_i hlt
  have hja:j<a.length:=by omega
  have ga:(rS a)[j]? = some [ts a[j]]:=by simp [hja]
  have gz:(Xt (fun n=>[ts n]) [ts ⟨#[]⟩] a j)[j]? = some [ts ⟨#[]⟩]:=Zee hja
  simp only[ga,gz,Int.natCast_nonneg,Nat.le_refl,hja,Vs,List.set_cons_zero,Zcu,EVA,seval,Zf,men]
  refine⟨by rw[Zd];omega,Ze () hja ?_ trivial⟩
  rw[Zef hja rfl]
  rfl
 ·rename_i hge
  have:j=a.length:=by omega
  subst this
  rw[Zed]
  simp
end Go.Fd

/-
  THE LAWS' HELPERS AT SLICES WHOSE ELEMENTS ARE ONE CELL. Own work.
-/
namespace Go.Fd
set_option maxRecDepth 10000
end Go.Fd

/-
  FOUNDATION 49: rows at a path; functions that mark what they are handed. Own work.
-/
namespace Go.Fd
variable [Tabs]
theorem Wa{S:Sto}{id:Oid}{a b:Ob}:ZN (ZN S id a) id b=ZN S id b:=by
 funext i
 unfold ZN
 split <;> rfl
theorem Qs{S:Sto}{id:Oid}{a:Ob}(h:S id=some a):ZN S id a=S:=by
 funext i
 unfold ZN
 split
 ·rename_i e;rw[e,h]
 ·rfl
theorem ZbM{lvl:Nat}{loc:List (Nat×Ob)}{S:Sto}{id:Oid}{o:Ob}(h:id.1≠lvl):Zu lvl loc (ZN S id o)=ZN (Zu lvl loc S) id o:=by
 funext i
 by_cases e:i=id
 ·subst e
  rw[ZS h]
  unfold ZN
  rw[if_pos rfl,if_pos rfl]
 ·unfold ZN Zu
  simp only[if_neg e]
section mark
variable {α:Type} (m:α->Int->α) (n:α->Nat)
def mL:List α->Int->List α
 | [],_=>[]
 | x::r,k=>m x k::mL r (k+n x)
theorem Jn:∀(a:List α) (k:Int),(mL m n a k).length=a.length
 | [],_=>rfl
 | x::r,k=>by simp only[mL,List.length_cons,Jn r]
end mark
theorem Zga{lvl key:Nat}{loc:List (Nat×Ob)}{out:Sto}{o:Ob}:Zu lvl (ptO key o loc) out=ZN (Zu lvl loc out) (lvl,key) o:=by
 funext i
 unfold Zu ZN
 by_cases h:i.1=lvl
 ·rw[if_pos h,ZfP]
  by_cases h2:i.2=key
  ·have:i=(lvl,key):=by obtain⟨a,b⟩:=i;simp only at h h2;rw[h,h2]
   rw[if_pos h2,if_pos this]
  ·have:¬ i=(lvl,key):=fun e=>h2 (by rw[e])
   rw[if_neg h2,if_neg this]
   exact(if_pos h).symm
 ·have:¬ i=(lvl,key):=fun e=>h (by rw[e])
  rw[if_neg h,if_neg this]
  exact(if_neg h).symm
end Go.Fd

/-
  HOW MANY MARKS A THING TAKES, AGAINST ITS SIZE. Own work.
-/
namespace Go.Fd
def Zpf(l:Int)(g:Int->Int):Int:=if l<0 then -1 else g l
end Go.Fd

/-
  THE DATA OF THE LAWS: plain types, how they lie in memory (printed by lawgen.py). Own work.
-/
namespace Go.Fd
set_option maxRecDepth 10000
structure TNode where
 control:Int
 parent:Int
 links:(List Int)
 deriving DecidableEq
def ZK(x:TNode):List Tr:=[tv x.control,tv x.parent,.sl (rI x.links)]
def Zj9(n:Nat)(x:TNode):Prop:=x.links.length<=n
def Zyh(x:TNode):Prop:=X3 .i64 x.control/\X3 .i64 x.parent/\(∀ y∈x.links,X3 .i64 y)
structure TWire where
 name:ByteArray
 link:Int
 deriving DecidableEq
def Z3(x:TWire):List Tr:=[ts x.name,tv x.link]
def ZeR(n:Nat)(x:TWire):Prop:=x.name.size<=n
def Zyi(x:TWire):Prop:=X3 .i64 x.link
structure TBigraph where
 roots:Int
 nodes:(List TNode)
 sites:(List Int)
 edges:Int
 outer:(List ByteArray)
 inner:(List TWire)
 deriving DecidableEq
def Zb(x:TBigraph):List Tr:=[tv x.roots,.sl (x.nodes.map ZK),.sl (rI x.sites),tv x.edges,.sl (rS x.outer),.sl (x.inner.map Z3)]
def Zh(x:TBigraph):IV:=.ag [iI x.roots,.ow 3 (x.nodes.map ZK) true,.ow 1 (rI x.sites) true,iI x.edges,.ow 1 (rS x.outer) true,.ow 2 (x.inner.map Z3) true]
def Zr(n:Nat)(x:TBigraph):Prop:=x.nodes.length<=n/\(∀ y∈x.nodes,Zj9 n y)/\x.sites.length<=n/\x.outer.length<=n/\(∀ y∈x.outer,y.size<=n)/\x.inner.length<=n/\(∀ y∈x.inner,ZeR n y)
def ZB(x:TBigraph):Prop:=X3 .i64 x.roots/\(∀ y∈x.nodes,Zyh y)/\(∀ y∈x.sites,X3 .i64 y)/\X3 .i64 x.edges/\(∀ y∈x.inner,Zyi y)
structure TControl where
 name:ByteArray
 ports:Int
 kind_:Int
 deriving DecidableEq
def Zj(x:TControl):List Tr:=[ts x.name,tv x.ports,tv x.kind_]
theorem ZeS(x:TControl):(Zj x).length=3:=rfl
def ZfG(x:TControl):IV:=.ag [iS x.name,iI x.ports,iI x.kind_]
def Zq(n:Nat)(x:TControl):Prop:=x.name.size<=n
def Zka(x:TControl):Prop:=X3 .i64 x.ports/\X3 .i64 x.kind_
def Yu(x:TControl)(l:Int):Int:=Zpf (l-x.name.size) fun l=>l
structure TTermStep where
 kind_:Int
 control:Int
 site:Int
 names:(List ByteArray)
 deriving DecidableEq
def Zi(x:TTermStep):List Tr:=[tv x.kind_,tv x.control,tv x.site,.sl (rS x.names)]
theorem ZiE(x:TTermStep):(Zi x).length=4:=rfl
def ZcZ(x:TTermStep):IV:=.ag [iI x.kind_,iI x.control,iI x.site,.ow 1 (rS x.names) true]
def Zz(n:Nat)(x:TTermStep):Prop:=x.names.length<=n/\(∀ y∈x.names,y.size<=n)
def ZhI(x:TTermStep):Prop:=X3 .i64 x.kind_/\X3 .i64 x.control/\X3 .i64 x.site
def Ya(x:TTermStep)(l:Int):Int:=Zpf (szL (fun x m=>m-x.size) x.names l) fun l=>l
end Go.Fd

/-
  The numbers of the functions of this program, by name (printed by ids.py).
-/
namespace Go.Fd
abbrev Qt:FuncId:=5
abbrev QT:FuncId:=7
abbrev YQ:FuncId:=8
abbrev Yg:FuncId:=10
abbrev ZZ:FuncId:=11
abbrev QU:FuncId:=13
abbrev YR:FuncId:=14
abbrev Xu:FuncId:=22
abbrev Xv:FuncId:=23
abbrev Xw:FuncId:=31
abbrev QV:FuncId:=32
abbrev QH:FuncId:=33
abbrev Xx:FuncId:=35
abbrev QW:FuncId:=36
abbrev VD:FuncId:=37
abbrev Xy:FuncId:=39
abbrev QX:FuncId:=40
abbrev Df:FuncId:=45
abbrev Vy:FuncId:=46
abbrev Ul:FuncId:=51
abbrev Vu:FuncId:=52
abbrev Vl:FuncId:=57
abbrev JF:FuncId:=58
abbrev YW:FuncId:=59
abbrev Xz:FuncId:=63
abbrev Wm:FuncId:=64
abbrev Dg:FuncId:=65
abbrev XA:FuncId:=67
abbrev JX:FuncId:=68
abbrev WI:FuncId:=69
abbrev XB:FuncId:=72
abbrev Vm:FuncId:=73
abbrev YH:FuncId:=74
abbrev Jt:FuncId:=75
abbrev WJ:FuncId:=76
abbrev YI:FuncId:=77
abbrev Yh:FuncId:=81
abbrev YS:FuncId:=82
abbrev Qu:FuncId:=87
abbrev QY:FuncId:=88
abbrev Jf:FuncId:=92
abbrev JG:FuncId:=93
abbrev ZT:FuncId:=95
abbrev Vb:FuncId:=97
abbrev ZU:FuncId:=98
abbrev Ju:FuncId:=99
abbrev ZJ:FuncId:=100
abbrev Jh:FuncId:=101
abbrev VK:FuncId:=109
abbrev Z4:FuncId:=110
abbrev Um:FuncId:=111
abbrev XC:FuncId:=112
abbrev Un:FuncId:=113
abbrev Yi:FuncId:=115
abbrev Jc:FuncId:=116
abbrev Yl:FuncId:=117
abbrev Uo:FuncId:=118
abbrev Zae:FuncId:=119
abbrev WK:FuncId:=124
abbrev XD:FuncId:=125
abbrev Up:FuncId:=126
abbrev Yv:FuncId:=127
abbrev Jv:FuncId:=128
abbrev QI:FuncId:=131
abbrev Vn:FuncId:=132
abbrev Uq:FuncId:=133
abbrev QJ:FuncId:=134
abbrev XE:FuncId:=135
abbrev Wn:FuncId:=138
abbrev Yj:FuncId:=139
abbrev Z5:FuncId:=142
abbrev VE:FuncId:=143
abbrev YJ:FuncId:=144
abbrev ZW:FuncId:=145
abbrev YX:FuncId:=146
abbrev QK:FuncId:=149
abbrev Ur:FuncId:=150
abbrev Us:FuncId:=151
abbrev WL:FuncId:=152
abbrev Ut:FuncId:=153
abbrev ZaD:FuncId:=154
abbrev Jj:FuncId:=155
abbrev ZC:FuncId:=156
abbrev V4:FuncId:=157
abbrev ZO:FuncId:=158
abbrev Uu:FuncId:=159
abbrev Yw:FuncId:=160
abbrev JO:FuncId:=161
abbrev XF:FuncId:=162
abbrev WM:FuncId:=163
abbrev Zaf:FuncId:=164
abbrev Uv:FuncId:=168
abbrev Uw:FuncId:=169
abbrev XG:FuncId:=170
abbrev WN:FuncId:=171
abbrev Z6:FuncId:=172
abbrev Vc:FuncId:=173
abbrev V5:FuncId:=174
abbrev ZH:FuncId:=175
abbrev JK:FuncId:=176
abbrev Qf:FuncId:=177
abbrev JZ:FuncId:=178
abbrev Qg:FuncId:=179
abbrev Jw:FuncId:=180
abbrev Qh:FuncId:=181
abbrev Jk:FuncId:=182
abbrev Wu:FuncId:=183
abbrev QZ:FuncId:=184
abbrev XH:FuncId:=185
abbrev Xe:FuncId:=186
abbrev Vo:FuncId:=187
abbrev QL:FuncId:=188
abbrev Qv:FuncId:=189
abbrev Wb:FuncId:=190
abbrev Zcy:FuncId:=191
abbrev Q0:FuncId:=192
abbrev Yb:FuncId:=193
abbrev JQ:FuncId:=194
abbrev Ux:FuncId:=195
abbrev JP:FuncId:=196
abbrev WO:FuncId:=197
abbrev Uy:FuncId:=198
abbrev Dh:FuncId:=199
abbrev ZY:FuncId:=207
abbrev Di:FuncId:=208
abbrev VL:FuncId:=209
abbrev Uz:FuncId:=210
abbrev J0:FuncId:=211
abbrev Q1:FuncId:=212
abbrev Vv:FuncId:=213
abbrev Wc:FuncId:=214
abbrev ZL:FuncId:=215
abbrev Yk:FuncId:=216
abbrev Zx:FuncId:=217
abbrev W5:FuncId:=218
abbrev Dj:FuncId:=222
abbrev YK:FuncId:=223
abbrev XI:FuncId:=224
abbrev XJ:FuncId:=225
abbrev XK:FuncId:=226
abbrev JH:FuncId:=227
abbrev V6:FuncId:=233
abbrev Yx:FuncId:=234
abbrev WP:FuncId:=235
abbrev UA:FuncId:=236
abbrev JR:FuncId:=237
abbrev VM:FuncId:=238
abbrev Wd:FuncId:=239
abbrev QM:FuncId:=240
abbrev Yq:FuncId:=241
abbrev JS:FuncId:=242
abbrev JC:FuncId:=243
abbrev WQ:FuncId:=244
abbrev Yr:FuncId:=245
abbrev YY:FuncId:=246
abbrev XL:FuncId:=251
abbrev VN:FuncId:=252
abbrev Z9:FuncId:=253
abbrev J1:FuncId:=254
abbrev YZ:FuncId:=255
abbrev Yy:FuncId:=256
abbrev Vd:FuncId:=257
abbrev Ve:FuncId:=258
abbrev ZM:FuncId:=259
abbrev Jl:FuncId:=260
abbrev ZV:FuncId:=261
abbrev Qi:FuncId:=262
abbrev Ji:FuncId:=263
abbrev YT:FuncId:=264
abbrev Jx:FuncId:=265
abbrev Vz:FuncId:=266
abbrev DF:FuncId:=271
abbrev V7:FuncId:=276
abbrev V8:FuncId:=277
abbrev Yc:FuncId:=278
abbrev Wo:FuncId:=279
abbrev JT:FuncId:=280
abbrev ZI:FuncId:=281
abbrev Jm:FuncId:=282
abbrev Ym:FuncId:=283
abbrev ZX:FuncId:=284
abbrev JD:FuncId:=285
abbrev Z2:FuncId:=296
abbrev Qw:FuncId:=297
abbrev VA:FuncId:=298
abbrev VO:FuncId:=299
abbrev VH:FuncId:=300
abbrev Yz:FuncId:=301
abbrev Vp:FuncId:=302
abbrev Qj:FuncId:=303
abbrev ZP:FuncId:=304
abbrev Ja:FuncId:=311
abbrev XM:FuncId:=312
abbrev V9:FuncId:=313
abbrev Qx:FuncId:=314
abbrev Qk:FuncId:=315
abbrev Y0:FuncId:=316
abbrev Vf:FuncId:=317
abbrev VP:FuncId:=318
abbrev Xf:FuncId:=319
abbrev YU:FuncId:=325
abbrev qM(d a:Nat):OP:=om d (.t a)
abbrev qL(d a:Nat):OP:=oo d (.ld none (.t a))
abbrev qF(d o a:Nat):OP:=oo d (.fa o (.t a))
abbrev qN(d a:Nat):OP:=oo d (.ln (.t a))
abbrev qS(d k a:Nat):OP:=oo d (.ld (some k) (.t a))
abbrev qE(d i a:Nat):OP:=oo d (.ex i (.t a))
abbrev qI(d k a b:Nat):OP:=oo d (.ia k (.t a) (.t b))
abbrev qB(d:Nat)(o:BinOp)(a b:Nat):OP:=oo d (.bi o 0 (.t a) (.t b))
end Go.Fd

/-
  The annotated codes of the functions, printed by a program of mine (gen.py), and the check that they belong to the program.
-/
namespace Go.Fd
def QN:F2 :=
 { nt:=33,res:=[.t 6 [0],.t 7 [0]],body:=(.sq (rg [om 6 (.k (.bool false)),om 7 (.k (.bool false))]) (.sq (rg [qM 13 0,qM 14 1,oo 15 (.ca .pure true (.f QH) [.t 13,.t 14]),qM 12 15,qE 16 0 12,qE 17 1 12,oo 8 (.al [.int .i64 0,.slice none 0 0,.slice none 0 0,.int .i64 0,.slice none 0 0,.slice none 0 0] []),on1 (.st 6 (.t 8) (.t 16)),qM 9 17]) (.sq (rg [qM 19 0,qM 20 2,oo 21 (.ca .pure true (.f QH) [.t 19,.t 20]),qM 18 21,qE 22 0 18,qE 23 1 18,oo 10 (.al [.int .i64 0,.slice none 0 0,.slice none 0 0,.int .i64 0,.slice none 0 0,.slice none 0 0] []),on1 (.st 6 (.t 10) (.t 22)),qM 11 23]) (.sq (.sq (rg [qM 24 9,oo 25 (.nt (.t 24)),qM 26 25,og 27 26 false (.mv (.t 11) none),og 28 26 false (.nt (.t 27)),oo 29 (.pk (.t 26) (.k (.bool true)) (.t 28))]) (.cd (.t 29) (.sq (rg [om 6 (.k (.bool false)),om 7 (.k (.bool false))]) (.rt)) (.sk))) (.sq (rg [qS 30 6 8,qS 31 6 10,oo 32 (.ca .pure false (.f Df) [.t 30,.t 31]),qM 6 32,om 7 (.k (.bool true))]) (.rt)))))) }
theorem WR:ZE Proofs.Tryz.prog Xu QN=true:=by kernel_rfl
def QO:F2 :=
 { nt:=33,res:=[.t 6 [0],.t 7 [0]],body:=(.sq (rg [om 6 (.k (.bool false)),om 7 (.k (.bool false))]) (.sq (rg [qM 13 0,qM 14 1,oo 15 (.ca .pure true (.f VD) [.t 13,.t 14]),qM 12 15,qE 16 0 12,qE 17 1 12,oo 8 (.al [.int .i64 0,.slice none 0 0,.slice none 0 0,.int .i64 0,.slice none 0 0,.slice none 0 0] []),on1 (.st 6 (.t 8) (.t 16)),qM 9 17]) (.sq (rg [qM 19 0,qM 20 2,oo 21 (.ca .pure true (.f VD) [.t 19,.t 20]),qM 18 21,qE 22 0 18,qE 23 1 18,oo 10 (.al [.int .i64 0,.slice none 0 0,.slice none 0 0,.int .i64 0,.slice none 0 0,.slice none 0 0] []),on1 (.st 6 (.t 10) (.t 22)),qM 11 23]) (.sq (.sq (rg [qM 24 9,oo 25 (.nt (.t 24)),qM 26 25,og 27 26 false (.mv (.t 11) none),og 28 26 false (.nt (.t 27)),oo 29 (.pk (.t 26) (.k (.bool true)) (.t 28))]) (.cd (.t 29) (.sq (rg [om 6 (.k (.bool false)),om 7 (.k (.bool false))]) (.rt)) (.sk))) (.sq (rg [qS 30 6 8,qS 31 6 10,oo 32 (.ca .pure false (.f Vy) [.t 30,.t 31]),qM 6 32,om 7 (.k (.bool true))]) (.rt)))))) }
theorem WS:ZE Proofs.Tryz.prog Xv QO=true:=by kernel_rfl
def Zb7:F2 :=
 { nt:=83,res:=[.c 4 (some 6) [0,4,2,0,2,3],.t 5 [0]],body:=(.sq (rg [oo 4 (.al [.int .i64 0,.slice none 0 0,.slice none 0 0,.int .i64 0,.slice none 0 0,.slice none 0 0] []),om 5 (.k (.bool false))]) (.sq (.sq (rg [qM 12 0,oo 13 (.ca .pure false (.f Wm) [.t 12]),oo 14 (.nt (.t 13)),qM 15 14,og 16 15 false (.mv (.t 1) none),og 17 15 false (.ln (.t 16)),og 18 15 false (.bi .gtr 0 (.t 17) (i6 60)),oo 19 (.pk (.t 15) (.k (.bool true)) (.t 18))]) (.cd (.t 19) (.sq (rg [oo 20 (.bd [.int .i64 0,.slice none 0 0,.slice none 0 0,.int .i64 0,.slice none 0 0,.slice none 0 0] [] []),on1 (.st 6 (.t 4) (.t 20)),om 5 (.k (.bool false))]) (.rt)) (.sk))) (.sq (rg [qM 22 0,qM 23 1,oo 24 (.ca .pure false (.f Dg) [.t 22,.t 23]),qM 21 24,qE 25 0 21,qE 26 1 21,qE 27 2 21,qM 6 25,qM 7 26,qM 8 27]) (.sq (.sq (.rg (some 0) [qM 28 8,oo 29 (.nt (.t 28)),qM 30 29,og 31 30 false (.mv (.t 6) none),og 32 30 false (.ln (.t 31)),og 33 30 false (.bi .neq 0 (.t 32) (i6 1)),oo 34 (.pk (.t 30) (.k (.bool true)) (.t 33)),qM 35 34,og 36 35 false (.mv (.t 6) none),og 37 35 false (.ia 7 (.t 36) (i6 0)),og 38 35 false (.fa 6 (.t 37)),og 39 35 false (.ld none (.t 38)),og 40 35 false (.mv (.t 6) none),og 41 35 false (.ia 7 (.t 40) (i6 0)),og 42 35 false (.fa 6 (.t 41)),og 43 35 false (.ld none (.t 42)),og 44 35 false (.ln (.t 43)),og 45 35 false (.ca .pure false (.f Ul) [.t 39,.t 44]),og 46 35 false (.nt (.t 45)),oo 47 (.pk (.t 35) (.k (.bool true)) (.t 46))]) (.cd (.t 47) (.sq (rg [oo 48 (.bd [.int .i64 0,.slice none 0 0,.slice none 0 0,.int .i64 0,.slice none 0 0,.slice none 0 0] [] []),on1 (.st 6 (.t 4) (.t 48)),om 5 (.k (.bool false))]) (.rt)) (.sk))) (.sq (.rg (some 0) [qM 49 6,oo 50 (.ia 7 (.t 49) (i6 0)),qF 51 0 50,qS 52 6 51,oo 53 (.ca .pure true (.f Vu) [.t 52]),qM 54 6,oo 55 (.it 7 (.t 54) (i6 0)),qF 56 6 55,oo 57 (.lt none (.t 56)),qN 58 57,oo 59 (.ms 1 [.int .i64 0] (.t 58)),oo 9 (.al [.int .i64 0,.slice none 0 0,.slice none 0 0,.int .i64 0,.slice none 0 0,.slice none 0 0] []),on1 (.s0 6 (.t 9) (.t 53)),qM 10 59]) (.sq (.sq (rg [om 11 (i6 0)]) (.bl 0 (.lp [4,6,9,10,11] [128,288,1696,1697,1698,1699,1888] (.sq (.sq (rg [qM 60 11,qM 61 10,qN 62 61,qB 63 .lss 60 62]) (.cd (.t 63) (.sk) (.ex 0))) (.sq (.bl 1 (.rg (some 0) [qM 66 10,qM 67 6,oo 68 (.ia 7 (.t 67) (i6 0)),qF 69 6 68,qL 70 69,qM 71 11,qI 72 1 70 71,qL 73 72,qF 74 2 9,qL 75 74,qM 76 11,qI 77 1 75 76,qL 78 77,qI 79 1 66 73,on1 (.st 1 (.t 79) (.t 78))]))
 (rg [qM 64 11,oo 65 (.bi .add 0 (.t 64) (i6 1)),qM 11 65])))))) (.sq (rg [qM 80 10,qF 81 2 9,on1 (.st 1 (.t 81) (.t 80))]) (.sq (rg [qS 82 6 9,on1 (.st 6 (.t 4) (.t 82)),om 5 (.k (.bool true))]) (.rt))))))))) }
theorem ZgW:ZE Proofs.Tryz.prog QH Zb7=true:=by kernel_rfl
def ZaE:F2 :=
 { nt:=78,res:=[.c 4 (some 6) [0,4,2,0,2,3],.t 5 [0]],body:=(.sq (rg [oo 4 (.al [.int .i64 0,.slice none 0 0,.slice none 0 0,.int .i64 0,.slice none 0 0,.slice none 0 0] []),om 5 (.k (.bool false))]) (.sq (.sq (rg [qM 12 0,oo 13 (.ca .pure false (.f JX) [.t 12]),oo 14 (.nt (.t 13)),qM 15 14,og 16 15 false (.mv (.t 1) none),og 17 15 false (.ln (.t 16)),og 18 15 false (.bi .gtr 0 (.t 17) (i6 60)),oo 19 (.pk (.t 15) (.k (.bool true)) (.t 18))]) (.cd (.t 19) (.sq (rg [oo 20 (.bd [.int .i64 0,.slice none 0 0,.slice none 0 0,.int .i64 0,.slice none 0 0,.slice none 0 0] [] []),on1 (.st 6 (.t 4) (.t 20)),om 5 (.k (.bool false))]) (.rt)) (.sk))) (.sq (rg [qM 22 0,qM 23 1,oo 24 (.ca .pure false (.f WI) [.t 22,.t 23]),qM 21 24,qE 25 0 21,qE 26 1 21,qE 27 2 21,qM 6 25,qM 7 26,qM 8 27]) (.sq (.sq (.rg (some 0) [qM 28 8,oo 29 (.nt (.t 28)),qM 30 29,og 31 30 false (.mv (.t 6) none),og 32 30 false (.ln (.t 31)),og 33 30 false (.bi .neq 0 (.t 32) (i6 1)),oo 34 (.pk (.t 30) (.k (.bool true)) (.t 33)),qM 35 34,og 36 35 false (.mv (.t 6) none),og 37 35 false (.ia 7 (.t 36) (i6 0)),og 38 35 false (.fa 6 (.t 37)),og 39 35 false (.ld none (.t 38)),og 40 35 false (.ln (.t 39)),og 41 35 false (.mv (.t 6) none),og 42 35 false (.ia 7 (.t 41) (i6 0)),og 43 35 false (.fa 6 (.t 42)),og 44 35 false (.ld none (.t 43)),og 45 35 false (.ca .pure false (.f Vl) [.t 40,.t 44]),og 46 35 false (.nt (.t 45)),oo 47 (.pk (.t 35) (.k (.bool true)) (.t 46))]) (.cd (.t 47) (.sq (rg [oo 48 (.bd [.int .i64 0,.slice none 0 0,.slice none 0 0,.int .i64 0,.slice none 0 0,.slice none 0 0] [] []),on1 (.st 6 (.t 4) (.t 48)),om 5 (.k (.bool false))]) (.rt)) (.sk))) (.sq (rg [qM 49 6,oo 50 (.ia 7 (.t 49) (i6 0)),qF 51 0 50,qS 52 6 51,oo 53 (.ca .pure true (.f JF) [.t 52]),oo 9 (.al [.int .i64 0,.slice none 0 0,.slice none 0 0,.int .i64 0,.slice none 0 0,.slice none 0 0] []),on1 (.st 6 (.t 9) (.t 53))]) (.sq (.sq (rg [qM 54 6,oo 55 (.ia 7 (.t 54) (i6 0)),qF 56 6 55,qL 57 56,qN 58 57,om 59 (i6 0)]) (.bl 0 (.lp [4,6,9,57,58,59] [128,288,1696,1697,1698,1699] (.sq (rg [qB 60 .lss 59 58]) (.sq (.cd (.t 60) (.sk) (.ex 0)) (.sq (.bl 1 (.sq (rg [qM 61 59,qI 62 1 57 59,qL 63 62,qM 10 61,qM 11 63]) (.rg (some 0) [qF 64 2 9,qL 65 64,qM 66 11,qM 67 6,oo 68 (.ia 7 (.t 67) (i6 0)),qF 69 0 68,qF 70 2 69,qL 71 70,qM 72 10,qI 73 1 71 72,qL 74 73,qI 75 1 65 66,on1 (.st 1 (.t 75) (.t 74))])))
 (rg [oo 76 (.bi .add 0 (.t 59) (i6 1)),qM 59 76]))))))) (.sq (rg [qS 77 6 9,on1 (.st 6 (.t 4) (.t 77)),om 5 (.k (.bool true))]) (.rt)))))))) }
theorem Zfg:ZE Proofs.Tryz.prog VD ZaE=true:=by kernel_rfl
def ZeT:F2 :=
 { nt:=10,res:=[.t 4 [0]],body:=(.sq (rg [oo 2 (.bt (.t 0)),oo 3 (.bt (.t 1)),om 4 (.k (.bool false))]) (.sq (rg [qS 5 6 2,qS 6 6 3,oo 7 (.ca .pure false (.f WJ) [.t 5,.t 6]),qN 8 7,oo 9 (.bi .gtr 0 (.t 8) (i6 0)),qM 4 9]) (.rt))) }
theorem Zkb:ZE Proofs.Tryz.prog Df ZeT=true:=by kernel_rfl
def WX:F2 :=
 { nt:=14,res:=[.t 4 [0]],body:=(.sq (rg [oo 2 (.bt (.t 0)),oo 3 (.bt (.t 1)),om 4 (.k (.bool false))]) (.sq (rg [qS 8 6 2,qS 9 6 3,oo 10 (.ca .pure true (.f YI) [.t 8,.t 9]),qM 7 10,qE 11 0 7,qE 12 1 7,qM 5 11,qM 6 12]) (.sq (rg [qM 13 6,qM 4 13]) (.rt)))) }
theorem ZbV:ZE Proofs.Tryz.prog Vy WX=true:=by kernel_rfl
def Zc0:F2 :=
 { nt:=19,res:=[.t 4 [0]],body:=(.sq (rg [om 4 (.k (.bool false))]) (.sq (.sq (rg [om 5 (i6 0)]) (.bl 0 (.lp [0,1,5] [] (.sq (.sq (rg [qM 6 5,qM 7 1,qB 8 .lss 6 7]) (.cd (.t 8) (.sk) (.ex 0))) (.sq (.bl 1 (.sq (rg [qM 11 0,qM 12 5,oo 13 (.ca .pure false (.f Qu) [.t 11,.t 12]),oo 14 (.nt (.t 13))]) (.cd (.t 14) (.sq (rg [om 4 (.k (.bool false))]) (.rt)) (.sk))))
 (rg [qM 9 5,oo 10 (.bi .add 0 (.t 9) (i6 1)),qM 5 10])))))) (.sq (rg [qM 15 0,qN 16 15,qM 17 1,qB 18 .eql 16 17,qM 4 18]) (.rt)))) }
theorem ZiF:ZE Proofs.Tryz.prog Ul Zc0=true:=by kernel_rfl
def ZeU:F2 :=
 { nt:=34,res:=[.c 2 (some 6) [0,4,2,0,2,3]],body:=(.sq (rg [oo 1 (.bt (.t 0)),oo 2 (.al [.int .i64 0,.slice none 0 0,.slice none 0 0,.int .i64 0,.slice none 0 0,.slice none 0 0] [])]) (.sq (rg [oo 7 (.bs 1 0 [] []),oo 8 (.bs 1 0 [] []),qM 3 7,qM 4 8]) (.sq (.sq (rg [om 5 (i6 0)]) (.bl 0 (.lp [1,2,3,4,5] [64,224,256,608,928,1056,1057,1058,1059] (.sq (.sq (rg [qM 9 5,qF 10 1 1,qL 11 10,qN 12 11,qB 13 .lss 9 12]) (.cd (.t 13) (.sk) (.ex 0))) (.sq (.bl 1 (rg [qM 16 3,qM 17 5,oo 18 (.bs 1 1 [.int .i64 0] [(0,.t 17)]),oo 19 (.ap 1 0 (.t 16) (.t 18)),qM 3 19]))
 (rg [qM 14 5,oo 15 (.bi .add 0 (.t 14) (i6 1)),qM 5 15])))))) (.sq (.sq (rg [om 6 (i6 0)]) (.bl 2 (.lp [1,2,3,4,6] [64,224,256,608,928,1056,1057,1058,1059] (.sq (.sq (rg [qM 20 6,qF 21 3 1,qL 22 21,qB 23 .lss 20 22]) (.cd (.t 23) (.sk) (.ex 2))) (.sq (.bl 3 (rg [qM 26 4,qM 27 6,oo 28 (.bs 1 1 [.int .i64 0] [(0,.t 27)]),oo 29 (.ap 1 0 (.t 26) (.t 28)),qM 4 29]))
 (rg [qM 24 6,oo 25 (.bi .add 0 (.t 24) (i6 1)),qM 6 25])))))) (.sq (rg [qS 30 6 1,qM 31 3,qM 32 4,oo 33 (.ca .pure true (.f QY) [.t 30,.t 31,.t 32]),on1 (.st 6 (.t 2) (.t 33))]) (.rt)))))) }
theorem Zkc:ZE Proofs.Tryz.prog Vu ZeU=true:=by kernel_rfl
def Dk:F2 :=
 { nt:=27,res:=[.t 4 [0]],body:=(.sq (rg [om 4 (.k (.bool false))]) (.sq (rg [qM 8 1,oo 9 (.ca .pure true (.f ZU) [.t 8]),qM 5 9]) (.sq (rg [qM 10 5,oo 11 (.ca .any false (.f Ju) [.t 10])]) (.sq (.sq (rg [qM 12 5,qN 13 12,om 14 (i6 0)]) (.bl 0 (.lp [0,1,12,13,14] [288] (.sq (rg [qB 15 .lss 14 13]) (.sq (.cd (.t 15) (.sk) (.ex 0)) (.sq (.bl 1 (.sq (rg [qM 16 14,qI 17 1 12 14,qL 18 17,qM 6 16,qM 7 18]) (.sq (rg [qM 19 7,qM 20 6,qB 21 .neq 19 20]) (.cd (.t 21) (.sq (rg [om 4 (.k (.bool false))]) (.rt)) (.sk)))))
 (rg [oo 22 (.bi .add 0 (.t 14) (i6 1)),qM 14 22]))))))) (.sq (rg [qM 23 1,qN 24 23,qM 25 0,qB 26 .eql 24 25,qM 4 26]) (.rt)))))) }
theorem Zb8:ZE Proofs.Tryz.prog Vl Dk=true:=by kernel_rfl
def DG:F2 :=
 { nt:=42,res:=[.c 2 (some 6) [0,4,2,0,2,3]],body:=(.sq (rg [oo 1 (.bt (.t 0)),oo 2 (.al [.int .i64 0,.slice none 0 0,.slice none 0 0,.int .i64 0,.slice none 0 0,.slice none 0 0] [])]) (.sq (.rg (some 0) [qF 6 0 1,qL 7 6,qF 8 2 1,qL 9 8,oo 10 (.ca .pure true (.f ZU) [.t 9]),qF 11 3 1,qL 12 11,qF 13 4 1,qL 14 13,oo 15 (.ca .pure true (.f ZJ) [.t 14]),qF 16 5 1,qL 17 16,oo 18 (.ca .pure true (.f Jh) [.t 17]),oo 19 (.bd [.int .i64 0,.slice none 0 0,.slice none 0 0,.int .i64 0,.slice none 0 0,.slice none 0 0] [(0,1,.t 7),(2,1,.t 10),(3,1,.t 12),(4,1,.t 15),(5,1,.t 18)] [(1,3)]),oo 3 (.al [.int .i64 0,.slice none 0 0,.slice none 0 0,.int .i64 0,.slice none 0 0,.slice none 0 0] []),on1 (.st 6 (.t 3) (.t 19))]) (.sq (.sq (rg [qF 20 1 1,qL 21 20,qN 22 21,om 23 (i6 0)]) (.bl 0 (.lp [2,3,21,22,23] [64,96,320,480,576,608,1216] (.sq (rg [qB 24 .lss 23 22]) (.sq (.cd (.t 24) (.sk) (.ex 0)) (.sq (.bl 1 (.sq (rg [qI 25 3 21 23,qS 26 3 25,oo 5 (.al [.int .i64 0,.int .i64 0,.slice none 0 0] []),on1 (.st 3 (.t 5) (.t 26))]) (.rg (some 0) [qF 27 1 3,qL 28 27,qF 29 0 5,qL 30 29,qF 31 1 5,qL 32 31,qF 33 2 5,qL 34 33,oo 35 (.ca .pure true (.f ZU) [.t 34]),oo 36 (.bd [.int .i64 0,.int .i64 0,.slice none 0 0] [(0,1,.t 30),(1,1,.t 32),(2,1,.t 35)] []),oo 37 (.bv 3 1 [.int .i64 0,.int .i64 0,.slice none 0 0] [(0,.t 36)]),oo 38 (.ap 3 2 (.t 28) (.t 37)),qF 39 1 3,on1 (.st 1 (.t 39) (.t 38))])))
 (rg [oo 40 (.bi .add 0 (.t 23) (i6 1)),qM 23 40]))))))) (.sq (rg [qS 41 6 3,on1 (.st 6 (.t 2) (.t 41))]) (.rt))))) }
theorem Zeg:ZE Proofs.Tryz.prog JF DG=true:=by kernel_rfl
def X4:F2 :=
 { nt:=19,res:=[.t 4 [0]],body:=(.sq (rg [om 4 (i6 0)]) (.sq (.sq (rg [qM 6 0,qN 7 6,om 8 (i6 0)]) (.bl 0 (.lp [0,1,7,8] [] (.sq (rg [qB 9 .lss 8 7]) (.sq (.cd (.t 9) (.sk) (.ex 0)) (.sq (.bl 1 (.sq (rg [qM 10 8,qM 5 10]) (.sq (rg [qM 11 1,qM 12 0,qM 13 5,qI 14 1 12 13,qL 15 14,qB 16 .eql 11 15]) (.cd (.t 16) (.sq (rg [qM 17 5,qM 4 17]) (.rt)) (.sk)))))
 (rg [oo 18 (.bi .add 0 (.t 8) (i6 1)),qM 8 18]))))))) (.sq (rg [om 4 (i6 (-1))]) (.rt)))) }
theorem ZaQ:ZE Proofs.Tryz.prog YW X4=true:=by kernel_rfl
def ZeV:F2 :=
 { nt:=55,res:=[.t 2 [0]],body:=(.sq (rg [om 2 (.k (.bool false))]) (.sq (.sq (rg [om 3 (i6 0)]) (.bl 0 (.lp [0,3] [] (.sq (.sq (rg [qM 5 3,qM 6 0,qN 7 6,qB 8 .lss 5 7]) (.cd (.t 8) (.sk) (.ex 0))) (.sq (.bl 1 (.sq (.sq (rg [qM 11 0,qM 12 3,qI 13 3 11 12,qF 14 0 13,qL 15 14,oo 16 (.ca .pure false (.f VK) [.t 15]),oo 17 (.nt (.t 16)),qM 18 17,og 19 18 false (.mv (.t 0) none),og 20 18 false (.mv (.t 3) none),og 21 18 false (.ia 3 (.t 19) (.t 20)),og 22 18 false (.fa 1 (.t 21)),og 23 18 false (.ld none (.t 22)),og 24 18 false (.ca .pure false (.f Z4) [.t 23,i6 0,i6 3]),og 25 18 false (.nt (.t 24)),oo 26 (.pk (.t 18) (.k (.bool true)) (.t 25)),qM 27 26,og 28 27 false (.mv (.t 0) none),og 29 27 false (.mv (.t 3) none),og 30 27 false (.ia 3 (.t 28) (.t 29)),og 31 27 false (.fa 2 (.t 30)),og 32 27 false (.ld none (.t 31)),og 33 27 false (.ca .pure false (.f Z4) [.t 32,i6 0,i6 2]),og 34 27 false (.nt (.t 33)),oo 35 (.pk (.t 27) (.k (.bool true)) (.t 34))]) (.cd (.t 35) (.sq (rg [om 2 (.k (.bool false))]) (.rt)) (.sk))) (.sq (rg [om 4 (i6 0)]) (.bl 2 (.lp [0,3,4] [] (.sq (.sq (rg [qM 36 4,qM 37 3,qB 38 .lss 36 37]) (.cd (.t 38) (.sk) (.ex 2))) (.sq (.bl 3 (.sq (.rg (some 0) [qM 41 0,qM 42 4,qI 43 3 41 42,qF 44 0 43,qL 45 44,qM 46 0,qM 47 3,qI 48 3 46 47,qF 49 0 48,qL 50 49,qB 51 .eql 45 50]) (.cd (.t 51) (.sq (rg [om 2 (.k (.bool false))]) (.rt)) (.sk))))
 (rg [qM 39 4,oo 40 (.bi .add 0 (.t 39) (i6 1)),qM 4 40]))))))))
 (rg [qM 9 3,oo 10 (.bi .add 0 (.t 9) (i6 1)),qM 3 10])))))) (.sq (rg [qM 52 0,qN 53 52,oo 54 (.ca .pure false (.f Z4) [.t 53,i6 1,i6 6]),qM 2 54]) (.rt)))) }
theorem Zkd:ZE Proofs.Tryz.prog Wm ZeV=true:=by kernel_rfl
def ZeW:F2 :=
 { nt:=49,res:=[.t 4 [0],.t 5 [0],.t 6 [0]],body:=(.sq (rg [om 4 (.k (.slice none 0 0)),om 5 (i6 0),om 6 (.k (.bool false))]) (.sq (rg [oo 12 (.bs 7 0 [] []),oo 7 (.fz (.t 12)),om 8 (i6 0)]) (.sq (.sq (rg [om 9 (i6 0)]) (.bl 0 (.lp [0,1,7,8,9] [] (.sq (.sq (rg [qM 13 9,qM 14 1,qN 15 14,qB 16 .lss 13 15]) (.cd (.t 16) (.sk) (.ex 0))) (.sq (.bl 1 (.sq (.sq (rg [qM 19 0,qM 20 1,qM 21 9,qI 22 4 20 21,qS 23 4 22,oo 24 (.ca .pure false (.f Um) [.t 19,.t 23]),oo 25 (.nt (.t 24))]) (.cd (.t 25) (.sq (rg [qM 26 7,qM 27 8,qM 4 26,qM 5 27,om 6 (.k (.bool false))]) (.rt)) (.sk))) (.sq (rg [qM 29 0,qM 30 7,qM 31 1,qM 32 9,qI 33 4 31 32,qS 34 4 33,oo 35 (.ca .pure false (.f XC) [.t 29,.t 30,.t 34]),qM 28 35,qE 36 0 28,qE 37 1 28,qM 10 36,qM 11 37]) (.sq (.sq (rg [qM 38 11,oo 39 (.nt (.t 38))]) (.cd (.t 39) (.sq (rg [qM 40 7,qM 41 8,qM 4 40,qM 5 41,om 6 (.k (.bool false))]) (.rt)) (.sk))) (.sq (rg [qM 42 10,qM 7 42])
 (rg [qM 43 8,qM 44 7,qN 45 44,oo 46 (.ca .pure false (.f Un) [.t 43,.t 45]),qM 8 46]))))))
 (rg [qM 17 9,oo 18 (.bi .add 0 (.t 17) (i6 1)),qM 9 18])))))) (.sq (rg [qM 47 7,qM 48 8,qM 4 47,qM 5 48,om 6 (.k (.bool true))]) (.rt))))) }
theorem Zke:ZE Proofs.Tryz.prog Dg ZeW=true:=by kernel_rfl
def U0:F2 :=
 { nt:=40,res:=[.t 2 [0]],body:=(.sq (rg [om 2 (.k (.bool false))]) (.sq (.sq (rg [qM 5 0,qN 6 5,oo 7 (.ca .pure false (.f ZT) [.t 6,i6 1,i6 6]),oo 8 (.nt (.t 7))]) (.cd (.t 8) (.sq (rg [om 2 (.k (.bool false))]) (.rt)) (.sk))) (.sq (.sq (rg [qM 9 0,qN 10 9,om 11 (i6 0)]) (.bl 0 (.lp [0,9,10,11] [] (.sq (rg [qB 12 .lss 11 10]) (.sq (.cd (.t 12) (.sk) (.ex 0)) (.sq (.bl 1 (.sq (rg [qM 13 11,qI 14 3 9 11,qS 15 3 14,oo 4 (.al [.string ⟨#[]⟩,.int .i64 0,.int .i64 0] []),qM 3 13,on1 (.st 3 (.t 4) (.t 15))]) (.sq (rg [qF 16 0 4,qL 17 16,oo 18 (.ca .pure false (.f Yi) [.t 17]),oo 19 (.nt (.t 18)),qM 20 19,og 21 20 false (.fa 1 (.t 4)),og 22 20 false (.ld none (.t 21)),og 23 20 false (.ca .pure false (.f ZT) [.t 22,i6 0,i6 3]),og 24 20 false (.nt (.t 23)),oo 25 (.pk (.t 20) (.k (.bool true)) (.t 24)),qM 26 25,og 27 26 false (.fa 2 (.t 4)),og 28 26 false (.ld none (.t 27)),og 29 26 false (.ca .pure false (.f ZT) [.t 28,i6 0,i6 2]),og 30 26 false (.nt (.t 29)),oo 31 (.pk (.t 26) (.k (.bool true)) (.t 30)),qM 32 31,og 33 32 false (.mv (.t 0) none),og 34 32 false (.mv (.t 3) none),og 35 32 false (.sx 3 (.t 33) none (some (.t 34)) none),og 36 32 false (.mf Yl [.t 4]),og 37 32 false (.ca .pure false (.f Jc) [.t 35,.t 36]),oo 38 (.pk (.t 32) (.k (.bool true)) (.t 37))]) (.cd (.t 38) (.sq (rg [om 2 (.k (.bool false))]) (.rt)) (.sk)))))
 (rg [oo 39 (.bi .add 0 (.t 11) (i6 1)),qM 11 39]))))))) (.sq (rg [om 2 (.k (.bool true))]) (.rt))))) }
theorem Zc1:ZE Proofs.Tryz.prog JX U0=true:=by kernel_rfl
def Zb9:F2 :=
 { nt:=62,res:=[.t 4 [0],.t 5 [0],.t 6 [0]],body:=(.sq (rg [om 4 (.k (.slice none 0 0)),om 5 (i6 0),om 6 (.k (.bool false))]) (.sq (rg [oo 14 (.bs 7 0 [] []),oo 7 (.fz (.t 14))]) (.sq (rg [om 8 (i6 0)]) (.sq (.sq (rg [qM 15 1,qN 16 15,om 17 (i6 0)]) (.bl 0 (.lp [0,7,8,15,16,17] [] (.sq (rg [qB 18 .lss 17 16]) (.sq (.cd (.t 18) (.sk) (.ex 0)) (.sq (.bl 1 (.sq (rg [qI 19 4 15 17,qS 20 4 19,oo 10 (.al [.int .i64 0,.int .i64 0,.int .i64 0,.slice none 0 0] []),on1 (.st 4 (.t 10) (.t 20))]) (.sq (.sq (rg [qM 21 0,qS 22 4 10,oo 23 (.ca .pure false (.f Uo) [.t 21,.t 22]),oo 24 (.nt (.t 23)),qM 25 24,og 26 25 false (.ld (some 4) (.t 10)),og 27 25 false (.ca .pure false (.f Jt) [.t 26]),og 28 25 false (.mv (.t 7) none),og 29 25 false (.ln (.t 28)),og 30 25 false (.bi .gtr 0 (.t 27) (.t 29)),oo 31 (.pk (.t 25) (.k (.bool true)) (.t 30))]) (.cd (.t 31) (.sq (rg [om 4 (.k (.slice none 0 0)),om 5 (i6 0),om 6 (.k (.bool false))]) (.rt)) (.sk))) (.sq (rg [qM 32 7,qN 33 32,qS 34 4 10,oo 35 (.ca .pure false (.f Jt) [.t 34]),qB 36 .sub 33 35,qM 11 36]) (.sq (.rg (some 0) [qM 38 0,qS 39 4 10,qM 40 7,qM 41 11,oo 42 (.sx 7 (.t 40) (some (.t 41)) none none),oo 43 (.ca .pure false (.f Zae) [.t 38,.t 39,.t 42]),qM 37 43,qE 44 0 37,qE 45 1 37,oo 12 (.al [.int .i64 0,.slice none 0 0,.slice none 0 0,.int .i64 0,.slice none 0 0,.slice none 0 0,.slice none 0 0] []),on1 (.s0 7 (.t 12) (.t 44)),qM 13 45]) (.sq (.sq (rg [qM 46 13,oo 47 (.nt (.t 46))]) (.cd (.t 47) (.sq (rg [om 4 (.k (.slice none 0 0)),om 5 (i6 0),om 6 (.k (.bool false))]) (.rt)) (.sk))) (.sq (.rg (some 0) [qM 48 7,qM 49 11,qM 50 11,oo 51 (.sx 7 (.t 48) none (some (.t 49)) (some (.t 50))),qS 52 7 12,oo 53 (.bv 7 1 [.int .i64 0,.slice none 0 0,.slice none 0 0,.int .i64 0,.slice none 0 0,.slice none 0 0,.slice none 0 0] [(0,.t 52)]),oo 54 (.ap 7 2 (.t 51) (.t 53)),oo 7 (.fz (.t 54))])
 (rg [qM 55 8,qM 56 7,qN 57 56,oo 58 (.mm true (.t 55) (.t 57)),qM 8 58]))))))))
 (rg [oo 59 (.bi .add 0 (.t 17) (i6 1)),qM 17 59]))))))) (.sq (rg [qM 60 7,qM 61 8,qM 4 60,qM 5 61,om 6 (.k (.bool true))]) (.rt)))))) }
theorem ZgX:ZE Proofs.Tryz.prog WI Zb9=true:=by kernel_rfl
def YL:F2 :=
 { nt:=11,res:=[.t 2 [0]],body:=(.sq (rg [om 2 (i6 0)]) (.sq (.sq (rg [qM 3 0]) (.bl 0 (.sq (.sq (rg [oo 5 (.bi .eql 0 (.t 3) (i6 4)),qM 4 5]) (.cd (.t 4) (.sk)
 (rg [oo 6 (.bi .eql 0 (.t 3) (i6 5)),qM 4 6]))) (.cd (.t 4) (.sq (rg [om 2 (i6 2)]) (.rt)) (.sq (.sq (rg [oo 8 (.bi .eql 0 (.t 3) (i6 3)),qM 7 8]) (.cd (.t 7) (.sk) (.sq (rg [oo 9 (.bi .eql 0 (.t 3) (i6 6)),qM 7 9]) (.cd (.t 7) (.sk)
 (rg [oo 10 (.bi .eql 0 (.t 3) (i6 7)),qM 7 10]))))) (.cd (.t 7) (.sq (rg [om 2 (i6 1)]) (.rt)) (.sk))))))) (.sq (rg [om 2 (i6 0)]) (.rt)))) }
theorem ZgY:ZE Proofs.Tryz.prog Vm YL=true:=by kernel_rfl
def Za7:F2 :=
 { nt:=6,res:=[.t 2 [2]],body:=(.sq (rg [om 2 (.k (.slice none 0 0))]) (.sq (rg [oo 3 (.bs 1 0 [] []),qM 4 0,oo 5 (.ap 1 0 (.t 3) (.t 4)),qM 2 5]) (.rt))) }
theorem ZeX:ZE Proofs.Tryz.prog YH Za7=true:=by kernel_rfl
def ZD:F2 :=
 { nt:=16,res:=[.t 2 [0]],body:=(.sq (rg [oo 1 (.bt (.t 0)),om 2 (i6 0)]) (.sq (.sq (rg [qF 3 0 1,qL 4 3]) (.bl 0 (.sq (.sq (rg [oo 6 (.bi .eql 0 (.t 4) (i6 0)),qM 5 6]) (.cd (.t 5) (.sk) (.sq (rg [oo 7 (.bi .eql 0 (.t 4) (i6 1)),qM 5 7]) (.cd (.t 5) (.sk)
 (rg [oo 8 (.bi .eql 0 (.t 4) (i6 2)),qM 5 8]))))) (.cd (.t 5) (.sq (rg [om 2 (i6 0)]) (.rt)) (.sq (.sq (rg [oo 10 (.bi .eql 0 (.t 4) (i6 3)),qM 9 10]) (.cd (.t 9) (.sk) (.sq (rg [oo 11 (.bi .eql 0 (.t 4) (i6 6)),qM 9 11]) (.cd (.t 9) (.sk)
 (rg [oo 12 (.bi .eql 0 (.t 4) (i6 7)),qM 9 12]))))) (.cd (.t 9) (.sq (rg [om 2 (i6 1)]) (.rt)) (.sq (.sq (rg [oo 14 (.bi .eql 0 (.t 4) (i6 4)),qM 13 14]) (.cd (.t 13) (.sk)
 (rg [oo 15 (.bi .eql 0 (.t 4) (i6 5)),qM 13 15]))) (.cd (.t 13) (.sq (rg [om 2 (i6 2)]) (.rt)) (.sk))))))))) (.sq (rg [om 2 (i6 (-1))]) (.rt)))) }
theorem Za8:ZE Proofs.Tryz.prog Jt ZD=true:=by kernel_rfl
def Zca:F2 :=
 { nt:=17,res:=[.t 4 [2]],body:=(.sq (rg [oo 2 (.bt (.t 0)),oo 3 (.bt (.t 1)),om 4 (.k (.slice none 0 0))]) (.sq (.sq (rg [qS 5 6 2,qS 6 6 3,oo 7 (.ca .pure false (.f WK) [.t 5,.t 6]),oo 8 (.nt (.t 7))]) (.cd (.t 8) (.sq (rg [oo 9 (.bs 1 0 [] []),qM 4 9]) (.rt)) (.sk))) (.sq (.rg (some 0) [qS 10 6 2,qS 11 6 3,oo 12 (.bs 1 0 [] []),qF 13 3 2,qL 14 13,oo 15 (.ca .pure false (.f Up) [.t 14]),oo 16 (.ca .pure true (.f XD) [.t 10,.t 11,.t 12,.t 15,i6 1]),qM 4 16]) (.rt)))) }
theorem ZgZ:ZE Proofs.Tryz.prog WJ Zca=true:=by kernel_rfl
def Vg:F2 :=
 { nt:=22,res:=[.t 4 [2],.t 5 [0]],body:=(.sq (rg [oo 2 (.bt (.t 0)),oo 3 (.bt (.t 1)),om 4 (.k (.slice none 0 0)),om 5 (.k (.bool false))]) (.sq (.sq (rg [qF 8 1 2,qL 9 8,qN 10 9,qF 11 1 3,qL 12 11,qN 13 12,qB 14 .neq 10 13]) (.cd (.t 14) (.sq (rg [om 4 (.k (.slice none 0 0)),om 5 (.k (.bool false))]) (.rt)) (.sk))) (.sq (rg [oo 6 (.al [.slice none 0 0] [])]) (.sq (rg [qS 15 6 2,qS 16 6 3,oo 17 (.mf Jv [.t 6]),oo 18 (.ca .any false (.f Yv) [.t 15,.t 16,.k (.slice none 0 0),.t 17]),oo 19 (.nt (.t 18)),qM 7 19]) (.sq (rg [qL 20 6,qM 21 7,qM 4 20,qM 5 21]) (.rt)))))) }
theorem Zag:ZE Proofs.Tryz.prog YI Vg=true:=by kernel_rfl
def Zc2:F2 :=
 { nt:=98,res:=[.t 4 [0]],body:=(.sq (rg [oo 3 (.bt (.t 1)),om 4 (.k (.bool false))]) (.sq (.sq (rg [qM 8 0,oo 9 (.ca .pure false (.f Wm) [.t 8]),oo 10 (.nt (.t 9)),qM 11 10,og 12 11 false (.fa 0 (.t 3)),og 13 11 false (.ld none (.t 12)),og 14 11 false (.ca .pure false (.f Z4) [.t 13,i6 0,i6 4]),og 15 11 false (.nt (.t 14)),oo 16 (.pk (.t 11) (.k (.bool true)) (.t 15)),qM 17 16,og 18 17 false (.fa 1 (.t 3)),og 19 17 false (.ld none (.t 18)),og 20 17 false (.ln (.t 19)),og 21 17 false (.bi .gtr 0 (.t 20) (i6 8)),oo 22 (.pk (.t 17) (.k (.bool true)) (.t 21)),qM 23 22,og 24 23 false (.fa 2 (.t 3)),og 25 23 false (.ld none (.t 24)),og 26 23 false (.ln (.t 25)),og 27 23 false (.bi .gtr 0 (.t 26) (i6 4)),oo 28 (.pk (.t 23) (.k (.bool true)) (.t 27)),qM 29 28,og 30 29 false (.fa 3 (.t 3)),og 31 29 false (.ld none (.t 30)),og 32 29 false (.ca .pure false (.f Z4) [.t 31,i6 0,i6 8]),og 33 29 false (.nt (.t 32)),oo 34 (.pk (.t 29) (.k (.bool true)) (.t 33))]) (.cd (.t 34) (.sq (rg [om 4 (.k (.bool false))]) (.rt)) (.sk))) (.sq (.sq (rg [qF 35 4 3,qL 36 35,oo 37 (.ca .pure false (.f QI) [.t 36]),oo 38 (.nt (.t 37)),qM 39 38,og 40 39 false (.fa 5 (.t 3)),og 41 39 false (.ld none (.t 40)),og 42 39 false (.ln (.t 41)),og 43 39 false (.bi .gtr 0 (.t 42) (i6 16)),oo 44 (.pk (.t 39) (.k (.bool true)) (.t 43)),qM 45 44,og 46 45 false (.ld (some 6) (.t 3)),og 47 45 false (.ca .pure false (.f Vn) [.t 46]),og 48 45 false (.ca .pure false (.f QI) [.t 47]),og 49 45 false (.nt (.t 48)),oo 50 (.pk (.t 45) (.k (.bool true)) (.t 49))]) (.cd (.t 50) (.sq (rg [om 4 (.k (.bool false))]) (.rt)) (.sk))) (.sq (.sq (rg [om 5 (i6 0)]) (.bl 0 (.lp [0,3,5] [] (.sq (.sq (rg [qM 51 5,qF 52 1 3,qL 53 52,qN 54 53,qB 55 .lss 51 54]) (.cd (.t 55) (.sk) (.ex 0))) (.sq (.bl 1 (.sq (rg [qM 58 0,qS 59 6 3,qM 60 5,oo 61 (.ca .pure false (.f Uq) [.t 58,.t 59,.t 60]),oo 62 (.nt (.t 61))]) (.cd (.t 62) (.sq (rg [om 4 (.k (.bool false))]) (.rt)) (.sk))))
 (rg [qM 56 5,oo 57 (.bi .add 0 (.t 56) (i6 1)),qM 5 57])))))) (.sq (.sq (rg [om 6 (i6 0)]) (.bl 2 (.lp [0,3,6] [] (.sq (.sq (rg [qM 63 6,qF 64 2 3,qL 65 64,qN 66 65,qB 67 .lss 63 66]) (.cd (.t 67) (.sk) (.ex 2))) (.sq (.bl 3 (.sq (.rg (some 0) [qM 70 0,qS 71 6 3,qF 72 2 3,qL 73 72,qM 74 6,qI 75 1 73 74,qL 76 75,qF 77 1 3,qL 78 77,qN 79 78,oo 80 (.ca .pure false (.f QJ) [.t 70,.t 71,.t 76,.t 79]),oo 81 (.nt (.t 80))]) (.cd (.t 81) (.sq (rg [om 4 (.k (.bool false))]) (.rt)) (.sk))))
 (rg [qM 68 6,oo 69 (.bi .add 0 (.t 68) (i6 1)),qM 6 69])))))) (.sq (.sq (rg [om 7 (i6 0)]) (.bl 4 (.lp [3,7] [] (.sq (.sq (rg [qM 82 7,qF 83 5 3,qL 84 83,qN 85 84,qB 86 .lss 82 85]) (.cd (.t 86) (.sk) (.ex 4))) (.sq (.bl 5 (.sq (.rg (some 0) [qS 89 6 3,qF 90 5 3,qL 91 90,qM 92 7,qI 93 2 91 92,qF 94 1 93,qL 95 94,oo 96 (.ca .pure false (.f XE) [.t 89,.t 95]),oo 97 (.nt (.t 96))]) (.cd (.t 97) (.sq (rg [om 4 (.k (.bool false))]) (.rt)) (.sk))))
 (rg [qM 87 7,oo 88 (.bi .add 0 (.t 87) (i6 1)),qM 7 88])))))) (.sq (rg [om 4 (.k (.bool true))]) (.rt)))))))) }
theorem ZiG:ZE Proofs.Tryz.prog Yh Zc2=true:=by kernel_rfl
def U1:F2 :=
 { nt:=32,res:=[.t 4 [0]],body:=(.sq (rg [om 4 (.k (.bool false))]) (.sq (.sq (rg [om 5 (i6 0)]) (.bl 0 (.lp [0,1,5] [] (.sq (.sq (rg [qM 6 5,qM 7 0,qN 8 7,qB 9 .lss 6 8,qM 10 9,og 11 10 true (.mv (.t 5) none),og 12 10 true (.mv (.t 1) none),og 13 10 true (.ln (.t 12)),og 14 10 true (.bi .lss 0 (.t 11) (.t 13)),oo 15 (.pk (.t 10) (.t 14) (.k (.bool false)))]) (.cd (.t 15) (.sk) (.ex 0))) (.sq (.bl 1 (.sq (.rg (some 0) [qM 18 0,qM 19 5,qI 20 1 18 19,qL 21 20,qM 22 1,qM 23 5,qI 24 1 22 23,qL 25 24,qB 26 .neq 21 25]) (.cd (.t 26) (.sq (rg [om 4 (.k (.bool false))]) (.rt)) (.sk))))
 (rg [qM 16 5,oo 17 (.bi .add 0 (.t 16) (i6 1)),qM 5 17])))))) (.sq (rg [qM 27 0,qN 28 27,qM 29 1,qN 30 29,qB 31 .eql 28 30,qM 4 31]) (.rt)))) }
theorem Zc3:ZE Proofs.Tryz.prog YS U1=true:=by kernel_rfl
def ZeY:F2 :=
 { nt:=18,res:=[.t 4 [0]],body:=(.sq (rg [om 4 (.k (.bool false))]) (.sq (.sq (rg [om 5 (i6 0)]) (.bl 0 (.lp [0,1,5] [] (.sq (.sq (rg [qM 6 5,qM 7 0,qN 8 7,qB 9 .lss 6 8]) (.cd (.t 9) (.sk) (.ex 0))) (.sq (.bl 1 (.sq (rg [qM 12 0,qM 13 5,qI 14 1 12 13,qL 15 14,qM 16 1,qB 17 .eql 15 16]) (.cd (.t 17) (.sq (rg [om 4 (.k (.bool true))]) (.rt)) (.sk))))
 (rg [qM 10 5,oo 11 (.bi .add 0 (.t 10) (i6 1)),qM 5 11])))))) (.sq (rg [om 4 (.k (.bool false))]) (.rt)))) }
theorem Zkf:ZE Proofs.Tryz.prog Qu ZeY=true:=by kernel_rfl
def DH:F2 :=
 { nt:=131,res:=[.c 6 (some 6) [0,4,2,0,2,3]],body:=(.sq (rg [oo 3 (.bt (.t 0)),oo 6 (.al [.int .i64 0,.slice none 0 0,.slice none 0 0,.int .i64 0,.slice none 0 0,.slice none 0 0] [])]) (.sq (.rg (some 0) [qF 13 0 3,oo 14 (.lt none (.t 13)),qF 15 1 3,oo 16 (.lt none (.t 15)),qN 17 16,oo 18 (.ms 3 [.int .i64 0,.int .i64 0,.slice none 0 0] (.t 17)),qF 19 3 3,oo 20 (.lt none (.t 19)),oo 21 (.bs 1 0 [] []),qF 22 4 3,qL 23 22,oo 24 (.a0 1 (.t 21) (.t 23)),oo 25 (.bd [.int .i64 0,.slice none 0 0,.slice none 0 0,.int .i64 0,.slice none 0 0,.slice none 0 0] [(0,1,.t 14),(1,1,.t 18),(3,1,.t 20),(4,1,.t 24)] [(2,1),(5,2)]),oo 7 (.al [.int .i64 0,.slice none 0 0,.slice none 0 0,.int .i64 0,.slice none 0 0,.slice none 0 0] []),on1 (.st 6 (.t 7) (.t 25))]) (.sq (.sq (rg [om 8 (i6 0)]) (.bl 0 (.lp [1,2,3,6,7,8] [192,224,576,672,768,800,801,1056,1888,3200,4096] (.sq (.sq (rg [qM 26 8,qF 27 1 3,qL 28 27,qN 29 28,qB 30 .lss 26 29]) (.cd (.t 30) (.sk) (.ex 0))) (.sq (.bl 1 (.sq (rg [oo 33 (.bs 1 0 [] []),qM 9 33]) (.sq (.sq (rg [om 10 (i6 0)]) (.bl 2 (.lp [1,2,3,6,7,8,9,10] [192,224,576,672,768,800,801,1056,1888,3200,4096] (.sq (.sq (rg [qM 34 10,qF 35 1 3,qL 36 35,qM 37 8,qI 38 3 36 37,qF 39 2 38,qL 40 39,qN 41 40,qB 42 .lss 34 41]) (.cd (.t 42) (.sk) (.ex 2))) (.sq (.bl 3 (.rg (some 0) [qM 45 9,qS 46 6 3,qF 47 1 3,qL 48 47,qM 49 8,qI 50 3 48 49,qF 51 2 50,qL 52 51,qM 53 10,qI 54 1 52 53,qL 55 54,qM 56 2,oo 57 (.ca .pure false (.f Wn) [.t 46,.t 55,.t 56]),oo 58 (.bs 1 1 [.int .i64 0] [(0,.t 57)]),oo 59 (.ap 1 0 (.t 45) (.t 58)),qM 9 59]))
 (rg [qM 43 10,oo 44 (.bi .add 0 (.t 43) (i6 1)),qM 10 44])))))) (.rg (some 0) [qF 60 1 7,qL 61 60,qM 62 1,qM 63 8,qI 64 1 62 63,qL 65 64,qF 66 1 3,qL 67 66,qM 68 8,qI 69 3 67 68,qF 70 0 69,qL 71 70,qF 72 1 3,qL 73 72,qM 74 8,qI 75 3 73 74,qF 76 1 75,qL 77 76,qM 78 1,oo 79 (.ca .pure false (.f Yj) [.t 77,.t 78]),qM 80 9,oo 81 (.bd [.int .i64 0,.int .i64 0,.slice none 0 0] [(0,1,.t 71),(1,1,.t 79),(2,1,.t 80)] []),qI 82 3 61 65,on1 (.st 3 (.t 82) (.t 81))]))))
 (rg [qM 31 8,oo 32 (.bi .add 0 (.t 31) (i6 1)),qM 8 32])))))) (.sq (.sq (rg [om 11 (i6 0)]) (.bl 4 (.lp [1,2,3,6,7,11] [192,224,576,672,768,800,801,1056,1888,3200,4096] (.sq (.sq (rg [qM 83 11,qF 84 2 3,qL 85 84,qN 86 85,qB 87 .lss 83 86]) (.cd (.t 87) (.sk) (.ex 4))) (.sq (.bl 5 (.rg (some 0) [qF 90 2 7,qL 91 90,qF 92 2 3,qL 93 92,qM 94 11,qI 95 1 93 94,qL 96 95,qM 97 1,oo 98 (.ca .pure false (.f Yj) [.t 96,.t 97]),oo 99 (.bs 1 1 [.int .i64 0] [(0,.t 98)]),oo 100 (.ap 1 0 (.t 91) (.t 99)),qF 101 2 7,on1 (.st 1 (.t 101) (.t 100))]))
 (rg [qM 88 11,oo 89 (.bi .add 0 (.t 88) (i6 1)),qM 11 89])))))) (.sq (.sq (rg [om 12 (i6 0)]) (.bl 6 (.lp [2,3,6,7,12] [192,224,576,672,768,800,801,1056,1888,3200,4096] (.sq (.sq (rg [qM 102 12,qF 103 5 3,qL 104 103,qN 105 104,qB 106 .lss 102 105]) (.cd (.t 106) (.sk) (.ex 6))) (.sq (.bl 7 (.rg (some 0) [qF 109 5 7,qL 110 109,qF 111 5 3,qL 112 111,qM 113 12,qI 114 2 112 113,qF 115 0 114,qL 116 115,qS 117 6 3,qF 118 5 3,qL 119 118,qM 120 12,qI 121 2 119 120,qF 122 1 121,qL 123 122,qM 124 2,oo 125 (.ca .pure false (.f Wn) [.t 117,.t 123,.t 124]),oo 126 (.bd [.string ⟨#[]⟩,.int .i64 0] [(0,1,.t 116),(1,1,.t 125)] []),oo 127 (.bs 2 1 [.string ⟨#[]⟩,.int .i64 0] [(0,.t 126)]),oo 128 (.ap 2 0 (.t 110) (.t 127)),qF 129 5 7,on1 (.st 1 (.t 129) (.t 128))]))
 (rg [qM 107 12,oo 108 (.bi .add 0 (.t 107) (i6 1)),qM 12 108])))))) (.sq (rg [qS 130 6 7,on1 (.st 6 (.t 6) (.t 130))]) (.rt))))))) }
theorem Zeh:ZE Proofs.Tryz.prog QY DH=true:=by kernel_rfl
def Zc4:F2 :=
 { nt:=15,res:=[.t 6 [0]],body:=(.sq (rg [om 6 (.k (.bool false))]) (.sq (rg [qM 7 0,qM 8 1,qB 9 .geq 7 8,qM 10 9,og 11 10 true (.mv (.t 0) none),og 12 10 true (.mv (.t 2) none),og 13 10 true (.bi .leq 0 (.t 11) (.t 12)),oo 14 (.pk (.t 10) (.t 13) (.k (.bool false))),qM 6 14]) (.rt))) }
theorem ZiH:ZE Proofs.Tryz.prog ZT Zc4=true:=by kernel_rfl
def Wv:F2 :=
 { nt:=19,res:=[.t 4 [0]],body:=(.sq (rg [oo 2 (.bt (.t 0)),om 4 (.k (.bool false))]) (.sq (rg [qS 8 6 2,qM 9 1,oo 10 (.ca .pure false (.f YJ) [.t 8,.t 9]),qM 7 10,qE 11 0 7,qE 12 1 7,qM 5 11,qM 6 12]) (.sq (rg [qM 13 5,qN 14 13,qM 15 6,qN 16 15,qB 17 .add 14 16,oo 18 (.bi .eql 0 (.t 17) (i6 0)),qM 4 18]) (.rt)))) }
theorem Za9:ZE Proofs.Tryz.prog Vb Wv=true:=by kernel_rfl
def X5:F2 :=
 { nt:=8,res:=[.t 2 [2]],body:=(.sq (rg [om 2 (.k (.slice none 0 0))]) (.sq (.sq (rg [qM 3 0,oo 4 (.nl false (.t 3))]) (.cd (.t 4) (.sq (rg [om 2 (.k (.slice none 0 0))]) (.rt)) (.sk))) (.sq (rg [oo 5 (.bs 1 0 [] []),qM 6 0,oo 7 (.ap 1 0 (.t 5) (.t 6)),qM 2 7]) (.rt)))) }
theorem ZaR:ZE Proofs.Tryz.prog ZU X5=true:=by kernel_rfl
def Ww:F2 :=
 { nt:=11,res:=[],body:=(.sq (rg [qM 3 0,qN 4 3,qM 2 4])
 (rg [qM 5 0,qM 6 2,qM 7 2,oo 8 (.cv (.int .u64) (.t 7)),oo 9 (.ca .pure false (.f YX) [.t 8]),oo 10 (.ca .any false (.f ZW) [.t 5,i6 0,.t 6,.t 9])])) }
theorem Zba:ZE Proofs.Tryz.prog Ju Ww=true:=by kernel_rfl
def VF:F2 :=
 { nt:=8,res:=[.t 2 [2]],body:=(.sq (rg [om 2 (.k (.slice none 0 0))]) (.sq (.sq (rg [qM 3 0,oo 4 (.nl false (.t 3))]) (.cd (.t 4) (.sq (rg [om 2 (.k (.slice none 0 0))]) (.rt)) (.sk))) (.sq (rg [oo 5 (.bs 1 0 [] []),qM 6 0,oo 7 (.ap 1 0 (.t 5) (.t 6)),qM 2 7]) (.rt)))) }
theorem W6:ZE Proofs.Tryz.prog ZJ VF=true:=by kernel_rfl
def Yo:F2 :=
 { nt:=8,res:=[.t 2 [3]],body:=(.sq (rg [om 2 (.k (.slice none 0 0))]) (.sq (.sq (rg [qM 3 0,oo 4 (.nl false (.t 3))]) (.cd (.t 4) (.sq (rg [om 2 (.k (.slice none 0 0))]) (.rt)) (.sk))) (.sq (rg [oo 5 (.bs 2 0 [] []),qM 6 0,oo 7 (.ap 2 0 (.t 5) (.t 6)),qM 2 7]) (.rt)))) }
theorem Xg:ZE Proofs.Tryz.prog Jh Yo=true:=by kernel_rfl
def Zc5:F2 :=
 { nt:=23,res:=[.t 2 [0]],body:=(.sq (rg [om 2 (.k (.bool false))]) (.sq (.sq (rg [om 3 (i6 0)]) (.bl 0 (.lp [0,3] [] (.sq (.sq (rg [qM 4 3,qM 5 0,oo 6 (.lg (.t 5)),qB 7 .lss 4 6]) (.cd (.t 7) (.sk) (.ex 0))) (.sq (.bl 1 (.sq (rg [qM 10 0,qM 11 3,oo 12 (.ix (.t 10) (.t 11)),oo 13 (.bi .lss 0 (.t 12) (.k (.int .u8 97))),qM 14 13,og 15 14 false (.mv (.t 0) none),og 16 14 false (.mv (.t 3) none),og 17 14 false (.ix (.t 15) (.t 16)),og 18 14 false (.bi .gtr 0 (.t 17) (.k (.int .u8 122))),oo 19 (.pk (.t 14) (.k (.bool true)) (.t 18))]) (.cd (.t 19) (.sq (rg [om 2 (.k (.bool false))]) (.rt)) (.sk))))
 (rg [qM 8 3,oo 9 (.bi .add 0 (.t 8) (i6 1)),qM 3 9])))))) (.sq (rg [qM 20 0,oo 21 (.lg (.t 20)),oo 22 (.ca .pure false (.f Z4) [.t 21,i6 1,i6 4]),qM 2 22]) (.rt)))) }
theorem ZiI:ZE Proofs.Tryz.prog VK Zc5=true:=by kernel_rfl
def Zgb:F2 :=
 { nt:=15,res:=[.t 6 [0]],body:=(.sq (rg [om 6 (.k (.bool false))]) (.sq (rg [qM 7 0,qM 8 1,qB 9 .geq 7 8,qM 10 9,og 11 10 true (.mv (.t 0) none),og 12 10 true (.mv (.t 2) none),og 13 10 true (.bi .leq 0 (.t 11) (.t 12)),oo 14 (.pk (.t 10) (.t 13) (.k (.bool false))),qM 6 14]) (.rt))) }
theorem Zlx:ZE Proofs.Tryz.prog Z4 Zgb=true:=by kernel_rfl
def J2:F2 :=
 { nt:=82,res:=[.t 4 [0]],body:=(.sq (rg [oo 3 (.bt (.t 1)),om 4 (.k (.bool false))]) (.sq (.sq (rg [qF 5 0 3,qL 6 5,oo 7 (.bi .neq 0 (.t 6) (i6 3)),qM 8 7,og 9 8 true (.fa 1 (.t 3)),og 10 8 true (.ld none (.t 9)),og 11 8 true (.bi .neq 0 (.t 10) (i6 0)),oo 12 (.pk (.t 8) (.t 11) (.k (.bool false))),qM 13 12,og 14 13 false (.fa 0 (.t 3)),og 15 13 false (.ld none (.t 14)),og 16 13 false (.bi .neq 0 (.t 15) (i6 2)),og 17 13 false (.mv (.t 16) none),og 18 17 true (.fa 2 (.t 3)),og 19 17 true (.ld none (.t 18)),og 20 17 true (.bi .neq 0 (.t 19) (i6 0)),og 21 13 false (.pk (.t 17) (.t 20) (.k (.bool false))),oo 22 (.pk (.t 13) (.k (.bool true)) (.t 21))]) (.cd (.t 22) (.sq (rg [om 4 (.k (.bool false))]) (.rt)) (.sk))) (.sq (.sq (rg [qF 23 0 3,qL 24 23]) (.bl 0 (.sq (rg [oo 26 (.bi .eql 0 (.t 24) (i6 2)),qM 25 26]) (.cd (.t 25) (.sq (rg [qF 27 2 3,qL 28 27,oo 29 (.ca .pure false (.f Z4) [.t 28,i6 0,i6 3]),qM 30 29,og 31 30 true (.fa 3 (.t 3)),og 32 30 true (.ld none (.t 31)),og 33 30 true (.ln (.t 32)),og 34 30 true (.bi .eql 0 (.t 33) (i6 0)),oo 35 (.pk (.t 30) (.t 34) (.k (.bool false))),qM 4 35]) (.rt)) (.sq (rg [oo 37 (.bi .eql 0 (.t 24) (i6 3)),qM 36 37]) (.cd (.t 36) (.sq (.rg (some 0) [qF 38 1 3,qL 39 38,qM 40 0,qN 41 40,oo 42 (.bi .sub 0 (.t 41) (i6 1)),oo 43 (.ca .pure false (.f Z4) [.t 39,i6 0,.t 42]),qM 44 43,og 45 44 true (.fa 3 (.t 3)),og 46 44 true (.ld none (.t 45)),og 47 44 true (.ln (.t 46)),og 48 44 true (.mv (.t 0) none),og 49 44 true (.fa 1 (.t 3)),og 50 44 true (.ld none (.t 49)),og 51 44 true (.ia 3 (.t 48) (.t 50)),og 52 44 true (.fa 1 (.t 51)),og 53 44 true (.ld none (.t 52)),og 54 44 true (.bi .eql 0 (.t 47) (.t 53)),oo 55 (.pk (.t 44) (.t 54) (.k (.bool false))),qM 56 55,og 57 56 true (.fa 3 (.t 3)),og 58 56 true (.ld none (.t 57)),og 59 56 true (.ca .pure false (.f QK) [.t 58]),oo 60 (.pk (.t 56) (.t 59) (.k (.bool false))),qM 4 60]) (.rt)) (.sq (.sq (rg [oo 62 (.bi .eql 0 (.t 24) (i6 6)),qM 61 62]) (.cd (.t 61) (.sk)
 (rg [oo 63 (.bi .eql 0 (.t 24) (i6 7)),qM 61 63]))) (.cd (.t 61) (.sq (rg [qF 64 3 3,qL 65 64,qN 66 65,oo 67 (.bi .eql 0 (.t 66) (i6 1)),qM 68 67,og 69 68 true (.fa 3 (.t 3)),og 70 68 true (.ld none (.t 69)),og 71 68 true (.ca .pure false (.f QK) [.t 70]),oo 72 (.pk (.t 68) (.t 71) (.k (.bool false))),qM 4 72]) (.rt)) (.sk))))))))) (.sq (rg [qF 73 0 3,qL 74 73,oo 75 (.ca .pure false (.f Z4) [.t 74,i6 0,i6 5]),qM 76 75,og 77 76 true (.fa 3 (.t 3)),og 78 76 true (.ld none (.t 77)),og 79 76 true (.ln (.t 78)),og 80 76 true (.bi .eql 0 (.t 79) (i6 0)),oo 81 (.pk (.t 76) (.t 80) (.k (.bool false))),qM 4 81]) (.rt))))) }
theorem ZiJ:ZE Proofs.Tryz.prog Um J2=true:=by kernel_rfl
def Qa:F2 :=
 { nt:=80,res:=[.t 6 [0],.t 7 [0]],body:=(.sq (rg [oo 5 (.bt (.t 2)),om 6 (.k (.slice none 0 0)),om 7 (.k (.bool false))]) (.sq (rg [qM 11 1,qN 12 11,qF 13 0 5,qL 14 13,oo 15 (.ca .pure false (.f Vm) [.t 14]),qB 16 .sub 12 15,qM 8 16]) (.sq (.sq (rg [qM 17 8,oo 18 (.bi .lss 0 (.t 17) (i6 0))]) (.cd (.t 18) (.sq (rg [qM 19 1,qM 6 19,om 7 (.k (.bool false))]) (.rt)) (.sk))) (.sq (rg [qS 20 4 5,oo 21 (.ca .pure false (.f Ur) [.t 20]),oo 9 (.al [.int .i64 0,.slice none 0 0,.slice none 0 0,.int .i64 0,.slice none 0 0,.slice none 0 0,.slice none 0 0] []),on1 (.st 7 (.t 9) (.t 21)),om 10 (.k (.bool true))]) (.sq (.bl 0 (.sq (rg [qF 23 0 5,qL 24 23,oo 25 (.bi .eql 0 (.t 24) (i6 3)),qM 22 25]) (.cd (.t 22) (.rg (some 0) [qM 27 0,qS 28 4 5,qM 29 1,qM 30 8,qI 31 7 29 30,qS 32 7 31,oo 33 (.ca .pure false (.f Us) [.t 27,.t 28,.t 32]),qM 26 33,qE 34 0 26,qE 35 1 26,on1 (.s0 7 (.t 9) (.t 34)),qM 10 35]) (.sq (rg [qF 37 0 5,qL 38 37,oo 39 (.ca .pure false (.f Vm) [.t 38]),oo 40 (.bi .eql 0 (.t 39) (i6 1)),qM 36 40]) (.cd (.t 36) (.rg (some 0) [qM 42 0,qS 43 4 5,qM 44 1,qM 45 8,qI 46 7 44 45,qS 47 7 46,oo 48 (.ca .pure false (.f WL) [.t 42,.t 43,.t 47]),qM 41 48,qE 49 0 41,qE 50 1 41,on1 (.s0 7 (.t 9) (.t 49)),qM 10 50]) (.sq (rg [qF 52 0 5,qL 53 52,oo 54 (.ca .pure false (.f Vm) [.t 53]),oo 55 (.bi .eql 0 (.t 54) (i6 2)),qM 51 55]) (.cd (.t 51) (.rg (some 0) [qM 57 0,qS 58 4 5,qM 59 1,qM 60 8,qI 61 7 59 60,qS 62 7 61,qM 63 1,qM 64 8,oo 65 (.bi .add 0 (.t 64) (i6 1)),qI 66 7 63 65,qS 67 7 66,oo 68 (.ca .pure false (.f Ut) [.t 57,.t 58,.t 62,.t 67]),qM 56 68,qE 69 0 56,qE 70 1 56,on1 (.s0 7 (.t 9) (.t 69)),qM 10 70]) (.sk)))))))) (.sq (.rg (some 0) [oo 71 (.bs 7 0 [] []),qM 72 1,qM 73 8,oo 74 (.sx 7 (.t 72) none (some (.t 73)) none),oo 75 (.a1 7 (.t 71) (.t 74)),oo 76 (.lb (some 7) (.t 9)),oo 77 (.bs 7 1 [.int .i64 0,.slice none 0 0,.slice none 0 0,.int .i64 0,.slice none 0 0,.slice none 0 0,.slice none 0 0] [(0,.t 76)]),oo 78 (.a2 7 (.t 75) (.t 77)),qM 79 10,qM 6 78,qM 7 79]) (.rt))))))) }
theorem XN:ZE Proofs.Tryz.prog XC Qa=true:=by kernel_rfl
def Zah:F2 :=
 { nt:=10,res:=[.t 4 [0]],body:=(.sq (rg [om 4 (i6 0)]) (.sq (.sq (rg [qM 5 0,qM 6 1,qB 7 .gtr 5 6]) (.cd (.t 7) (.sq (rg [qM 8 0,qM 4 8]) (.rt)) (.sk))) (.sq (rg [qM 9 1,qM 4 9]) (.rt)))) }
theorem ZiK:ZE Proofs.Tryz.prog Un Zah=true:=by kernel_rfl
def Zc6:F2 :=
 { nt:=11,res:=[.t 2 [0]],body:=(.sq (rg [om 2 (.k (.bool false))]) (.sq (rg [qM 3 0,oo 4 (.lg (.t 3)),oo 5 (.ca .pure false (.f ZT) [.t 4,i6 1,i6 4]),qM 6 5,og 7 6 true (.mv (.t 0) none),og 8 6 true (.ca .pure false (.f ZaD) [.t 7,.k (.string ⟨#[97,98,99,100,101,102,103,104,105,106,107,108,109,110,111,112,113,114,115,116,117,118,119,120,121,122]⟩)]),og 9 6 true (.bi .eql 0 (.t 8) (.k (.string ⟨#[]⟩))),oo 10 (.pk (.t 6) (.t 9) (.k (.bool false))),qM 2 10]) (.rt))) }
theorem ZiL:ZE Proofs.Tryz.prog Yi Zc6=true:=by kernel_rfl
def WY:F2 :=
 { nt:=9,res:=[.t 3 [0]],body:=(.sq (rg [oo 2 (.bt (.t 0)),om 3 (.k (.bool false))]) (.sq (rg [qF 4 0 2,qL 5 4,qF 6 0 1,qL 7 6,qB 8 .eql 5 7,qM 3 8]) (.rt))) }
theorem ZbW:ZE Proofs.Tryz.prog Yl WY=true:=by kernel_rfl
def Zc7:F2 :=
 { nt:=61,res:=[.t 4 [0]],body:=(.sq (rg [oo 3 (.bt (.t 1)),om 4 (.k (.bool false))]) (.sq (.sq (rg [qF 5 3 3,qL 6 5,oo 7 (.ca .pure false (.f ZC) [.t 6,.f V4])]) (.cd (.t 7) (.sq (rg [om 4 (.k (.bool false))]) (.rt)) (.sk))) (.sq (.sq (rg [qF 8 0 3,qL 9 8]) (.bl 0 (.sq (rg [oo 11 (.bi .eql 0 (.t 9) (i6 2)),qM 10 11]) (.cd (.t 10) (.sq (rg [qS 12 4 3,oo 13 (.ca .pure false (.f ZO) [.t 12,.k (.bool false),.k (.bool true),.k (.bool false)]),qM 14 13,og 15 14 true (.fa 2 (.t 3)),og 16 14 true (.ld none (.t 15)),og 17 14 true (.ca .pure false (.f ZT) [.t 16,i6 0,i6 3]),oo 18 (.pk (.t 14) (.t 17) (.k (.bool false))),qM 4 18]) (.rt)) (.sq (rg [oo 20 (.bi .eql 0 (.t 9) (i6 3)),qM 19 20]) (.cd (.t 19) (.sq (.rg (some 0) [qS 21 4 3,oo 22 (.ca .pure false (.f ZO) [.t 21,.k (.bool true),.k (.bool false),.k (.bool true)]),qM 23 22,og 24 23 true (.fa 1 (.t 3)),og 25 23 true (.ld none (.t 24)),og 26 23 true (.mv (.t 0) none),og 27 23 true (.ln (.t 26)),og 28 23 true (.bi .sub 0 (.t 27) (i6 1)),og 29 23 true (.ca .pure false (.f ZT) [.t 25,i6 0,.t 28]),oo 30 (.pk (.t 23) (.t 29) (.k (.bool false))),qM 31 30,og 32 31 true (.fa 3 (.t 3)),og 33 31 true (.ld none (.t 32)),og 34 31 true (.ln (.t 33)),og 35 31 true (.mv (.t 0) none),og 36 31 true (.fa 1 (.t 3)),og 37 31 true (.ld none (.t 36)),og 38 31 true (.ia 3 (.t 35) (.t 37)),og 39 31 true (.fa 1 (.t 38)),og 40 31 true (.ld none (.t 39)),og 41 31 true (.bi .eql 0 (.t 34) (.t 40)),oo 42 (.pk (.t 31) (.t 41) (.k (.bool false))),qM 4 42]) (.rt)) (.sq (.sq (rg [oo 44 (.bi .eql 0 (.t 9) (i6 6)),qM 43 44]) (.cd (.t 43) (.sk)
 (rg [oo 45 (.bi .eql 0 (.t 9) (i6 7)),qM 43 45]))) (.cd (.t 43) (.sq (rg [qS 46 4 3,oo 47 (.ca .pure false (.f ZO) [.t 46,.k (.bool false),.k (.bool false),.k (.bool true)]),qM 48 47,og 49 48 true (.fa 3 (.t 3)),og 50 48 true (.ld none (.t 49)),og 51 48 true (.ln (.t 50)),og 52 48 true (.bi .eql 0 (.t 51) (i6 1)),oo 53 (.pk (.t 48) (.t 52) (.k (.bool false))),qM 4 53]) (.rt)) (.sk))))))))) (.sq (rg [qS 54 4 3,oo 55 (.ca .pure false (.f Jt) [.t 54]),oo 56 (.bi .geq 0 (.t 55) (i6 0)),qM 57 56,og 58 57 true (.ld (some 4) (.t 3)),og 59 57 true (.ca .pure false (.f ZO) [.t 58,.k (.bool false),.k (.bool false),.k (.bool false)]),oo 60 (.pk (.t 57) (.t 59) (.k (.bool false))),qM 4 60]) (.rt))))) }
theorem ZiM:ZE Proofs.Tryz.prog Uo Zc7=true:=by kernel_rfl
def Q3:F2 :=
 { nt:=109,res:=[.c 6 (some 7) [0,0,0,0,0,0,0],.t 7 [0]],body:=(.sq (rg [oo 4 (.bt (.t 1)),oo 6 (.al [.int .i64 0,.slice none 0 0,.slice none 0 0,.int .i64 0,.slice none 0 0,.slice none 0 0,.slice none 0 0] []),om 7 (.k (.bool false))]) (.sq (rg [oo 12 (.bd [.int .i64 0,.slice none 0 0,.slice none 0 0,.int .i64 0,.slice none 0 0,.slice none 0 0,.slice none 0 0] [] [(6,1)]),oo 8 (.al [.int .i64 0,.slice none 0 0,.slice none 0 0,.int .i64 0,.slice none 0 0,.slice none 0 0,.slice none 0 0] []),on1 (.st 7 (.t 8) (.t 12)),om 9 (.k (.bool true))]) (.sq (.sq (rg [qF 13 0 4,qL 14 13]) (.bl 0 (.sq (rg [oo 18 (.bi .eql 0 (.t 14) (i6 3)),qM 17 18]) (.cd (.t 17) (.rg (some 0) [qM 20 0,qS 21 4 4,qM 22 2,oo 23 (.ia 7 (.t 22) (i6 0)),qF 24 0 23,qS 25 6 24,oo 26 (.ca .pure false (.f Uu) [.t 20,.t 21,.t 25]),qM 19 26,qE 27 0 19,qE 28 1 19,qF 29 0 8,on1 (.s0 6 (.t 29) (.t 27)),qM 9 28]) (.sq (rg [oo 31 (.bi .eql 0 (.t 14) (i6 4)),qM 30 31]) (.cd (.t 30) (.rg (some 0) [qM 33 0,qM 34 2,oo 35 (.ia 7 (.t 34) (i6 0)),qF 36 0 35,qS 37 6 36,qM 38 2,oo 39 (.ia 7 (.t 38) (i6 1)),qF 40 0 39,qS 41 6 40,oo 42 (.ca .pure false (.f Yw) [.t 33,.t 37,.t 41]),qM 32 42,qE 43 0 32,qE 44 1 32,qF 45 0 8,on1 (.s0 6 (.t 45) (.t 43)),qM 9 44]) (.sq (rg [oo 47 (.bi .eql 0 (.t 14) (i6 5)),qM 46 47]) (.cd (.t 46) (.rg (some 0) [qM 49 0,qM 50 2,oo 51 (.ia 7 (.t 50) (i6 0)),qF 52 0 51,qS 53 6 52,qM 54 2,oo 55 (.ia 7 (.t 54) (i6 1)),qF 56 0 55,qS 57 6 56,oo 58 (.ca .pure false (.f JO) [.t 49,.t 53,.t 57]),qM 48 58,qE 59 0 48,qE 60 1 48,qF 61 0 8,on1 (.s0 6 (.t 61) (.t 59)),qM 9 60]) (.sq (rg [oo 63 (.bi .eql 0 (.t 14) (i6 6)),qM 62 63]) (.cd (.t 62) (.rg (some 0) [qM 65 0,qM 66 2,oo 67 (.ia 7 (.t 66) (i6 0)),qF 68 0 67,qS 69 6 68,qF 70 3 4,qL 71 70,oo 72 (.ia 1 (.t 71) (i6 0)),qL 73 72,oo 74 (.ca .pure false (.f XF) [.t 65,.t 69,.t 73]),qM 64 74,qE 75 0 64,qE 76 1 64,qF 77 0 8,on1 (.s0 6 (.t 77) (.t 75)),qM 9 76]) (.sq (rg [oo 79 (.bi .eql 0 (.t 14) (i6 7)),qM 78 79]) (.cd (.t 78) (.rg (some 0) [qM 81 0,qM 82 2,oo 83 (.ia 7 (.t 82) (i6 0)),qF 84 0 83,qS 85 6 84,qF 86 3 4,qL 87 86,oo 88 (.ia 1 (.t 87) (i6 0)),qL 89 88,oo 90 (.ca .pure false (.f WM) [.t 81,.t 85,.t 89]),qM 80 90,qE 91 0 80,qE 92 1 80,qF 93 0 8,on1 (.s0 6 (.t 93) (.t 91)),qM 9 92]) (.sq (rg [qS 15 4 4,oo 16 (.ca .pure false (.f Zaf) [.t 15]),on1 (.st 7 (.t 6) (.t 16)),om 7 (.k (.bool true))]) (.rt)))))))))))))) (.sq (.sq (rg [qM 94 2,qN 95 94,om 96 (i6 0)]) (.bl 1 (.lp [6,8,9,94,95,96] [192,256,384,3328] (.sq (rg [qB 97 .lss 96 95]) (.sq (.cd (.t 97) (.sk) (.ex 1)) (.sq (.bl 2 (.sq (rg [qI 98 7 94 96,qS 99 7 98,oo 11 (.al [.int .i64 0,.slice none 0 0,.slice none 0 0,.int .i64 0,.slice none 0 0,.slice none 0 0,.slice none 0 0] []),on1 (.st 7 (.t 11) (.t 99))])
 (rg [qF 100 6 8,qL 101 100,qF 102 6 11,qL 103 102,oo 104 (.ap 1 0 (.t 101) (.t 103)),qF 105 6 8,on1 (.st 1 (.t 105) (.t 104))])))
 (rg [oo 106 (.bi .add 0 (.t 96) (i6 1)),qM 96 106]))))))) (.sq (rg [qS 107 7 8,qM 108 9,on1 (.st 7 (.t 6) (.t 107)),qM 7 108]) (.rt)))))) }
theorem Zly:ZE Proofs.Tryz.prog Zae Q3=true:=by kernel_rfl
def Vw:F2 :=
 { nt:=49,res:=[.t 4 [0]],body:=(.sq (rg [oo 2 (.bt (.t 0)),oo 3 (.bt (.t 1)),om 4 (.k (.bool false))]) (.sq (.rg (some 0) [qF 5 0 2,qL 6 5,qF 7 0 3,qL 8 7,qB 9 .eql 6 8,qM 10 9,og 11 10 true (.fa 3 (.t 2)),og 12 10 true (.ld none (.t 11)),og 13 10 true (.fa 3 (.t 3)),og 14 10 true (.ld none (.t 13)),og 15 10 true (.bi .eql 0 (.t 12) (.t 14)),oo 16 (.pk (.t 10) (.t 15) (.k (.bool false))),qM 17 16,og 18 17 true (.fa 1 (.t 2)),og 19 17 true (.ld none (.t 18)),og 20 17 true (.ln (.t 19)),og 21 17 true (.fa 1 (.t 3)),og 22 17 true (.ld none (.t 21)),og 23 17 true (.ln (.t 22)),og 24 17 true (.bi .eql 0 (.t 20) (.t 23)),oo 25 (.pk (.t 17) (.t 24) (.k (.bool false))),qM 26 25,og 27 26 true (.fa 2 (.t 2)),og 28 26 true (.ld none (.t 27)),og 29 26 true (.ln (.t 28)),og 30 26 true (.fa 2 (.t 3)),og 31 26 true (.ld none (.t 30)),og 32 26 true (.ln (.t 31)),og 33 26 true (.bi .eql 0 (.t 29) (.t 32)),oo 34 (.pk (.t 26) (.t 33) (.k (.bool false))),qM 35 34,og 36 35 true (.fa 4 (.t 2)),og 37 35 true (.ld none (.t 36)),og 38 35 true (.fa 4 (.t 3)),og 39 35 true (.ld none (.t 38)),og 40 35 true (.ca .pure false (.f YS) [.t 37,.t 39]),oo 41 (.pk (.t 35) (.t 40) (.k (.bool false))),qM 42 41,og 43 42 true (.ld (some 6) (.t 2)),og 44 42 true (.ca .pure false (.f Vn) [.t 43]),og 45 42 true (.ld (some 6) (.t 3)),og 46 42 true (.ca .pure false (.f Vn) [.t 45]),og 47 42 true (.ca .pure false (.f YS) [.t 44,.t 46]),oo 48 (.pk (.t 42) (.t 47) (.k (.bool false))),qM 4 48]) (.rt))) }
set_option maxRecDepth 1000000 in
theorem Zg0:ZE Proofs.Tryz.prog WK Vw=true:=by kernel_rfl
def Zai:F2 :=
 { nt:=93,res:=[.t 10 [2]],body:=(.sq (rg [oo 5 (.bt (.t 0)),oo 6 (.bt (.t 1)),om 10 (.k (.slice none 0 0))]) (.sq (.sq (rg [qM 17 2,qN 18 17,qF 19 1 5,qL 20 19,qN 21 20,qB 22 .eql 18 21]) (.cd (.t 22) (.sq (.sq (rg [qS 24 6 5,qS 25 6 6,qM 26 2,qM 27 3,oo 28 (.ca .pure false (.f Uv) [.t 24,.t 25,.t 26,.t 27]),qM 23 28,qE 29 0 23,qE 30 1 23,qM 11 29,qM 12 30]) (.sq (rg [qM 31 12]) (.cd (.t 31) (.sq (rg [qM 32 2,oo 33 (.ca .pure true (.f YH) [.t 32]),oo 34 (.bw 1 1 [.slice none 0 0] [(0,.t 33)]),qM 10 34]) (.rt)) (.sk)))) (.sq (rg [oo 35 (.bs 1 0 [] []),qM 10 35]) (.rt))) (.sk))) (.sq (rg [oo 36 (.bs 1 0 [] []),qM 13 36]) (.sq (.sq (rg [om 14 (i6 0)]) (.bl 0 (.lp [2,3,4,5,6,13,14] [1152,2912] (.sq (.sq (rg [qM 37 14,qF 38 1 6,qL 39 38,qN 40 39,qB 41 .lss 37 40,qM 42 41,og 43 42 true (.mv (.t 13) none),og 44 42 true (.ln (.t 43)),og 45 42 true (.mv (.t 4) none),og 46 42 true (.bi .lss 0 (.t 44) (.t 45)),oo 47 (.pk (.t 42) (.t 46) (.k (.bool false)))]) (.cd (.t 47) (.sk) (.ex 0))) (.sq (.bl 1 (.sq (.sq (rg [qS 50 6 5,qS 51 6 6,qM 52 2,qM 53 14,oo 54 (.ca .pure false (.f Uw) [.t 50,.t 51,.t 52,.t 53]),oo 55 (.nt (.t 54))]) (.cd (.t 55) (.ex 1) (.sk))) (.sq (.rg (some 0) [qS 57 6 5,qS 58 6 6,qM 59 3,qF 60 1 5,qL 61 60,qM 62 2,qN 63 62,qI 64 3 61 63,qF 65 2 64,qL 66 65,qF 67 1 6,qL 68 67,qM 69 14,qI 70 3 68 69,qF 71 2 70,qL 72 71,oo 73 (.ca .pure false (.f XG) [.t 57,.t 58,.t 59,.t 66,.t 72]),qM 56 73,qE 74 0 56,qE 75 1 56,qM 15 74,qM 16 75]) (.sq (rg [qM 76 16]) (.cd (.t 76) (.rg (some 0) [qM 77 13,oo 78 (.lt (some 6) (.t 5)),oo 79 (.lt (some 6) (.t 6)),qM 80 2,oo 81 (.ca .pure true (.f YH) [.t 80]),qM 82 14,oo 83 (.bs 1 1 [.int .i64 0] [(0,.t 82)]),oo 84 (.a0 1 (.t 81) (.t 83)),qM 85 15,qM 86 4,qM 87 13,qN 88 87,qB 89 .sub 86 88,oo 90 (.ca .pure true (.f XD) [.t 78,.t 79,.t 84,.t 85,.t 89]),oo 91 (.ap 1 2 (.t 77) (.t 90)),qM 13 91]) (.sk))))))
 (rg [qM 48 14,oo 49 (.bi .add 0 (.t 48) (i6 1)),qM 14 49])))))) (.sq (rg [qM 92 13,qM 10 92]) (.rt)))))) }
theorem Zc8:ZE Proofs.Tryz.prog XD Zai=true:=by kernel_rfl
def Zc9:F2 :=
 { nt:=15,res:=[.t 2 [2]],body:=(.sq (rg [om 2 (.k (.slice none 0 0))]) (.sq (rg [oo 5 (.bs 1 0 [] []),qM 3 5]) (.sq (.sq (rg [om 4 (i6 0)]) (.bl 0 (.lp [0,3,4] [160,416] (.sq (.sq (rg [qM 6 4,qM 7 0,qB 8 .lss 6 7]) (.cd (.t 8) (.sk) (.ex 0))) (.sq (.bl 1 (rg [qM 11 3,oo 12 (.bs 1 1 [.int .i64 0] [(0,i6 (-1))]),oo 13 (.ap 1 0 (.t 11) (.t 12)),qM 3 13]))
 (rg [qM 9 4,oo 10 (.bi .add 0 (.t 9) (i6 1)),qM 4 10])))))) (.sq (rg [qM 14 3,qM 2 14]) (.rt))))) }
theorem ZiN:ZE Proofs.Tryz.prog Up Zc9=true:=by kernel_rfl
def Q4:F2 :=
 { nt:=84,res:=[.t 8 [0]],body:=(.sq (rg [oo 4 (.bt (.t 0)),oo 5 (.bt (.t 1)),om 8 (.k (.bool false))]) (.sq (rg [qM 15 2,qN 16 15,qM 9 16]) (.sq (.sq (rg [qM 17 9,qF 18 1 4,qL 19 18,qN 20 19,qB 21 .eql 17 20]) (.cd (.t 21) (.sq (.sq (rg [qS 23 6 4,qS 24 6 5,qM 25 2,oo 26 (.ca .pure false (.f WN) [.t 23,.t 24,.t 25]),qM 22 26,qE 27 0 22,qE 28 1 22,qM 10 27,qM 11 28]) (.sq (rg [qM 29 11]) (.cd (.t 29) (.sq (rg [qM 30 3,qM 31 2,oo 32 (.ca .any false (.t 30) [.t 31]),qM 8 32]) (.rt)) (.sk)))) (.sq (rg [om 8 (.k (.bool true))]) (.rt))) (.sk))) (.sq (rg [qF 33 1 4,qL 34 33,qM 35 9,qI 36 3 34 35,qF 37 1 36,qL 38 37,qM 12 38]) (.sq (.sq (rg [qM 39 12,oo 40 (.bi .geq 0 (.t 39) (i6 0))]) (.cd (.t 40) (rg [qM 41 2,qM 42 12,qI 43 1 41 42,qL 44 43,qM 12 44]) (.sk))) (.sq (.sq (rg [qF 45 1 5,qL 46 45,qN 47 46,om 48 (i6 0)]) (.bl 0 (.lp [2,3,4,5,9,12,46,47,48] [] (.sq (rg [qB 49 .lss 48 47]) (.sq (.cd (.t 49) (.sk) (.ex 0)) (.sq (.bl 1 (.sq (rg [qM 50 48,qI 51 3 46 48,qS 52 3 51,oo 14 (.al [.int .i64 0,.int .i64 0,.slice none 0 0] []),qM 13 50,on1 (.st 3 (.t 14) (.t 52))]) (.sq (.sq (.rg (some 0) [qF 53 0 14,qL 54 53,qF 55 1 4,qL 56 55,qM 57 9,qI 58 3 56 57,qF 59 0 58,qL 60 59,qB 61 .neq 54 60,qM 62 61,og 63 62 false (.fa 1 (.t 14)),og 64 62 false (.ld none (.t 63)),og 65 62 false (.mv (.t 12) none),og 66 62 false (.bi .neq 0 (.t 64) (.t 65)),oo 67 (.pk (.t 62) (.k (.bool true)) (.t 66)),qM 68 67,og 69 68 false (.mv (.t 2) none),og 70 68 false (.mv (.t 13) none),og 71 68 false (.ca .pure false (.f Z6) [.t 69,.t 70]),oo 72 (.pk (.t 68) (.k (.bool true)) (.t 71))]) (.cd (.t 72) (.ex 1) (.sk))) (.sq (.rg (some 0) [oo 73 (.lt (some 6) (.t 4)),oo 74 (.lt (some 6) (.t 5)),qM 75 2,oo 76 (.ca .pure true (.f Vc) [.t 75]),qM 77 13,oo 78 (.bs 1 1 [.int .i64 0] [(0,.t 77)]),oo 79 (.a3 1 (.t 76) (.t 78)),qM 80 3,oo 81 (.ca .any false (.f Yv) [.t 73,.t 74,.t 79,.t 80]),oo 82 (.nt (.t 81))]) (.cd (.t 82) (.sq (rg [om 8 (.k (.bool false))]) (.rt)) (.sk))))))
 (rg [oo 83 (.bi .add 0 (.t 48) (i6 1)),qM 48 83]))))))) (.sq (rg [om 8 (.k (.bool true))]) (.rt)))))))) }
theorem UB:ZE Proofs.Tryz.prog Yv Q4=true:=by kernel_rfl
def Qy:F2 :=
 { nt:=6,res:=[.t 3 [0]],body:=(.sq (rg [om 3 (.k (.bool false))]) (.sq (rg [qM 4 0,oo 5 (.ca .pure true (.f ZU) [.t 4]),on1 (.gv 193 (.t 1) (.t 5))]) (.sq (rg [om 3 (.k (.bool false))]) (.rt)))) }
theorem Dl:ZE Proofs.Tryz.prog Jv Qy=true:=by kernel_rfl
def Zcb:F2 :=
 { nt:=35,res:=[.t 2 [0]],body:=(.sq (rg [om 2 (.k (.bool false))]) (.sq (.sq (rg [om 3 (i6 0)]) (.bl 0 (.lp [0,3] [] (.sq (.sq (rg [qM 4 3,qM 5 0,qN 6 5,qB 7 .lss 4 6]) (.cd (.t 7) (.sk) (.ex 0))) (.sq (.bl 1 (.sq (.rg (some 0) [qM 10 0,qM 11 3,qI 12 1 10 11,qL 13 12,oo 14 (.ca .pure false (.f VK) [.t 13]),oo 15 (.nt (.t 14)),qM 16 15,og 17 16 false (.mv (.t 3) none),og 18 16 false (.bi .gtr 0 (.t 17) (i6 0)),og 19 16 false (.mv (.t 18) none),og 20 19 true (.mv (.t 0) none),og 21 19 true (.mv (.t 3) none),og 22 19 true (.bi .sub 0 (.t 21) (i6 1)),og 23 19 true (.ia 1 (.t 20) (.t 22)),og 24 19 true (.ld none (.t 23)),og 25 19 true (.mv (.t 0) none),og 26 19 true (.mv (.t 3) none),og 27 19 true (.ia 1 (.t 25) (.t 26)),og 28 19 true (.ld none (.t 27)),og 29 19 true (.bi .geq 0 (.t 24) (.t 28)),og 30 16 false (.pk (.t 19) (.t 29) (.k (.bool false))),oo 31 (.pk (.t 16) (.k (.bool true)) (.t 30))]) (.cd (.t 31) (.sq (rg [om 2 (.k (.bool false))]) (.rt)) (.sk))))
 (rg [qM 8 3,oo 9 (.bi .add 0 (.t 8) (i6 1)),qM 3 9])))))) (.sq (rg [qM 32 0,qN 33 32,oo 34 (.bi .leq 0 (.t 33) (i6 16)),qM 2 34]) (.rt)))) }
theorem Zg1:ZE Proofs.Tryz.prog QI Zcb=true:=by kernel_rfl
def Zcc:F2 :=
 { nt:=23,res:=[.t 2 [2]],body:=(.sq (rg [oo 1 (.bt (.t 0)),om 2 (.k (.slice none 0 0))]) (.sq (rg [oo 5 (.bs 1 0 [] []),qM 3 5]) (.sq (.sq (rg [om 4 (i6 0)]) (.bl 0 (.lp [1,3,4] [160,672] (.sq (.sq (rg [qM 6 4,qF 7 5 1,qL 8 7,qN 9 8,qB 10 .lss 6 9]) (.cd (.t 10) (.sk) (.ex 0))) (.sq (.bl 1 (rg [qM 13 3,qF 14 5 1,qL 15 14,qM 16 4,qI 17 2 15 16,qF 18 0 17,qL 19 18,oo 20 (.bs 1 1 [.string ⟨#[]⟩] [(0,.t 19)]),oo 21 (.ap 1 0 (.t 13) (.t 20)),qM 3 21]))
 (rg [qM 11 4,oo 12 (.bi .add 0 (.t 11) (i6 1)),qM 4 12])))))) (.sq (rg [qM 22 3,qM 2 22]) (.rt))))) }
theorem Zg2:ZE Proofs.Tryz.prog Vn Zcc=true:=by kernel_rfl
def Zda:F2 :=
 { nt:=57,res:=[.t 6 [0]],body:=(.sq (rg [oo 4 (.bt (.t 1)),om 6 (.k (.bool false))]) (.sq (rg [qF 9 1 4,qL 10 9,qM 11 2,qI 12 3 10 11,qS 13 3 12,oo 7 (.al [.int .i64 0,.int .i64 0,.slice none 0 0] []),on1 (.st 3 (.t 7) (.t 13))]) (.sq (.sq (.rg (some 0) [qF 14 0 7,qL 15 14,qM 16 0,qN 17 16,oo 18 (.bi .sub 0 (.t 17) (i6 1)),oo 19 (.ca .pure false (.f Z4) [.t 15,i6 0,.t 18]),oo 20 (.nt (.t 19)),qM 21 20,og 22 21 false (.mv (.t 0) none),og 23 21 false (.ld (some 6) (.t 4)),og 24 21 false (.fa 1 (.t 7)),og 25 21 false (.ld none (.t 24)),og 26 21 false (.mv (.t 2) none),og 27 21 false (.ca .pure false (.f QJ) [.t 22,.t 23,.t 25,.t 26]),og 28 21 false (.nt (.t 27)),oo 29 (.pk (.t 21) (.k (.bool true)) (.t 28)),qM 30 29,og 31 30 false (.fa 2 (.t 7)),og 32 30 false (.ld none (.t 31)),og 33 30 false (.ln (.t 32)),og 34 30 false (.mv (.t 0) none),og 35 30 false (.fa 0 (.t 7)),og 36 30 false (.ld none (.t 35)),og 37 30 false (.ia 3 (.t 34) (.t 36)),og 38 30 false (.fa 1 (.t 37)),og 39 30 false (.ld none (.t 38)),og 40 30 false (.bi .neq 0 (.t 33) (.t 39)),oo 41 (.pk (.t 30) (.k (.bool true)) (.t 40))]) (.cd (.t 41) (.sq (rg [om 6 (.k (.bool false))]) (.rt)) (.sk))) (.sq (.sq (rg [om 8 (i6 0)]) (.bl 0 (.lp [4,7,8] [224] (.sq (.sq (rg [qM 42 8,qF 43 2 7,qL 44 43,qN 45 44,qB 46 .lss 42 45]) (.cd (.t 46) (.sk) (.ex 0))) (.sq (.bl 1 (.sq (.rg (some 0) [qS 49 6 4,qF 50 2 7,qL 51 50,qM 52 8,qI 53 1 51 52,qL 54 53,oo 55 (.ca .pure false (.f XE) [.t 49,.t 54]),oo 56 (.nt (.t 55))]) (.cd (.t 56) (.sq (rg [om 6 (.k (.bool false))]) (.rt)) (.sk))))
 (rg [qM 47 8,oo 48 (.bi .add 0 (.t 47) (i6 1)),qM 8 48])))))) (.sq (rg [om 6 (.k (.bool true))]) (.rt)))))) }
theorem ZiO:ZE Proofs.Tryz.prog Uq Zda=true:=by kernel_rfl
def Zcd:F2 :=
 { nt:=33,res:=[.t 8 [0]],body:=(.sq (rg [oo 5 (.bt (.t 1)),om 8 (.k (.bool false))]) (.sq (.sq (rg [qM 9 2,oo 10 (.bi .lss 0 (.t 9) (i6 0))]) (.cd (.t 10) (.sq (rg [qM 11 2,oo 12 (.bi .sub 0 (i6 (-1)) (.t 11)),qF 13 0 5,qL 14 13,oo 15 (.bi .sub 0 (.t 14) (i6 1)),oo 16 (.ca .pure false (.f Z4) [.t 12,i6 0,.t 15]),qM 8 16]) (.rt)) (.sk))) (.sq (rg [qM 17 2,qM 18 3,qB 19 .lss 17 18,qM 20 19,og 21 20 true (.mv (.t 0) none),og 22 20 true (.fa 1 (.t 5)),og 23 20 true (.ld none (.t 22)),og 24 20 true (.mv (.t 2) none),og 25 20 true (.ia 3 (.t 23) (.t 24)),og 26 20 true (.fa 0 (.t 25)),og 27 20 true (.ld none (.t 26)),og 28 20 true (.ia 3 (.t 21) (.t 27)),og 29 20 true (.fa 2 (.t 28)),og 30 20 true (.ld none (.t 29)),og 31 20 true (.bi .neq 0 (.t 30) (i6 2)),oo 32 (.pk (.t 20) (.t 31) (.k (.bool false))),qM 8 32]) (.rt)))) }
theorem Zg3:ZE Proofs.Tryz.prog QJ Zcd=true:=by kernel_rfl
def Zdb:F2 :=
 { nt:=14,res:=[.t 4 [0]],body:=(.sq (rg [oo 2 (.bt (.t 0)),om 4 (.k (.bool false))]) (.sq (rg [qM 5 1,qF 6 3 2,qL 7 6,qF 8 4 2,qL 9 8,qN 10 9,qB 11 .add 7 10,oo 12 (.bi .sub 0 (.t 11) (i6 1)),oo 13 (.ca .pure false (.f Z4) [.t 5,i6 0,.t 12]),qM 4 13]) (.rt))) }
theorem ZiP:ZE Proofs.Tryz.prog XE Zdb=true:=by kernel_rfl
end Go.Fd
