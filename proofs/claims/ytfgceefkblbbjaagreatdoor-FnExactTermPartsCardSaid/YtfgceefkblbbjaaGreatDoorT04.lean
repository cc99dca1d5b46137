/-
  FOUNDATION 46: more rules: stores, append. Own work.
-/
import Derived.Test.YtfgceefkblbbjaaGreatDoorT03
import Derived.ChangeArms
import Derived.OpenShut
import Derived.Carry
import Derived.Sort.Row
import Derived.Sort.Grow
import Derived.Shelf.GgSortFunc.InsertionK
import Derived.Shelf.SlSortCmp.WholeK
import Derived.Test.YtfgceefkblbbjaaGreatDoorProg
import Derived.ChangeMaps5
import Derived.ChangeShapes
import Derived.KernelRfl
set_option linter.all false
namespace Go.Fd
section
variable {C:Zk} {lvl:Nat} {env:List (Nat×IV)} {loc:List (Nat×Ob)} {out:Sto} {d:Option Nat} {K:St->Prop} {st:St}
def st2(v:Option (List IV))(m:Nat)(p:IV)(d:Option Nat)(st:St)(K:St->Prop):Prop :=
 match v with
 | some l=>d=none/\l.length=m /\
  match p with
  | .ab id off =>
   match st.sto id with
   | some (.bx cells)=>off+l.length<=cells.length/\ZaX (id.1+1) l/\K (Zo st id (.bx (U7 cells off l)))
   | _=>False
  | .ae id p i f s=>ZgM id p i s f l st K
  | _=>False
 | none=>False
theorem ZBP{m:Nat}{p x:X}:op2 C d (.st m p x) ⟨lvl,env,loc,out⟩ K=st2 (cellsOf (xv env x)) m (xv env p) d ⟨lvl,env,loc,out⟩ K:=by
 rw[Jg rfl]
 simp only[ew]
 generalize cellsOf (xv env x)=v
 cases v with
 | none=>simp [st2]
 | some l=>rfl
def stb(o:Option Ob)(id:Oid)(off:Nat)(l:List IV)(st:St)(K:St->Prop):Prop :=
 match o with
 | some (.bx cells)=>off+l.length<=cells.length/\ZaX (id.1+1) l/\K (Zo st id (.bx (U7 cells off l)))
 | _=>False
theorem Zzn{m:Nat}{l:List IV}{id:Oid}{off:Nat}:st2 (some l) m (.ab id off) d ⟨lvl,env,loc,out⟩ K=(d=none/\l.length=m/\stb (ZF lvl loc out id) id off l ⟨lvl,env,loc,out⟩ K):=(rfl)
theorem Zzo{m:Nat}{l:List IV}{id:Oid}{p:Pth}{i f s:Nat}:st2 (some l) m (.ae id p i f s) d st K=(d=none/\l.length=m/\ZgM id p i s f l st K):=(rfl)
theorem Zzp{cells l:List IV}{id:Oid}{off:Nat}:stb (some (.bx cells)) id off l st K=(off+l.length<=cells.length/\ZaX (id.1+1) l/\K (Zo st id (.bx (U7 cells off l)))):=(rfl)
theorem Zej{cs:List IV}{off:Nat}:U7 cs off []=cs:=(rfl)
theorem Zek{cs:List IV}{off:Nat}{x:IV}{r:List IV}:U7 cs off (x::r)=U7 (cs.set off x) (off+1) r:=(rfl)
theorem Zr2{l:Nat}:ZaX l []=True:=(rfl)
theorem Zr3{l:Nat}{x:IV}{r:List IV}:ZaX l (x::r)=(low l x/\ZaX l r):=(rfl)
theorem ZuD{l:Nat}{t:Tr}:low l (.tr t)=True:=(rfl)
theorem ZuE{l:Nat}{es:Row}:low l (.cs es)=True:=(rfl)
theorem ZuF{l k:Nat}{p:Pth}{off len s:Nat}{cap:Option Nat}:low (l+1) (.hd (l,k) p off len cap s)=True:=by
 apply propext;simp [low,men]
theorem ZuG{l k off:Nat}:low (l+1) (.ab (l,k) off)=True:=by
 apply propext;simp [low,men]
theorem ZuH{l:Nat}{c:List IV}:low l (.ag c)=ZaX l c:=by simp only[low,ZaX,men]
theorem ZuI{l:Nat}{c:List IV}:low l (.tu c)=ZaX l c:=by simp only[low,ZaX,men]
theorem ZuJ{l k:Nat}{es:Row}{u:Bool}:low l (.ow k es u)=True:=(rfl)
theorem ZuK{l:Nat}:low l .un=True:=(rfl)
theorem ZuL{l:Nat}:low l .er=True:=(rfl)
theorem Zr4{l:Nat}{c:List Tr}:low l (.ta c)=True:=(rfl)
def kst(id:Oid)(p:Pth)(i s f:Nat)(r:List IV)(K:St->Prop)(st':St):Prop:=ZgM id p i s f r st' K
theorem Zzq{id:Oid}{p:Pth}{i s f:Nat}{r:List IV}:kst id p i s f r K st=ZgM id p i s f r st K:=(rfl)
theorem Zr5{id:Oid}{p:Pth}{i s f:Nat}:ZgM id p i s f [] st K=K st:=(rfl)
def sc1(o:Option Ob)(id:Oid)(p:Pth)(i f s:Nat)(x:IV)(st:St)(K:St->Prop):Prop :=
 match o with
 | some (.ar k es u hw ver)=>Xs p s hw ver u/\op3 (getp es p) fun es' => op3 es'[i]? fun e=>op3 e[f]? fun t0 =>
  match x with
  | .tr (.v y)=>isSc t0=true/\K (Zo st id (.ar k (YK es p i f (.v y)) u hw ver))
  | .cs []=>p=[]/\K (Zo st id (.ar k (YK es [] i f (.sl [])) u hw (ver+1)))
  | .cs zs=>p=[]/\K (Zo st id (.ar k (YK es [] i f (.sl zs)) false hw (ver+1)))
  | .tr (.sl zs)=>p=[]/\K (Zo st id (.ar k (YK es [] i f (.sl zs)) false hw (ver+1)))
  | .hd id2 [] 0 len none s2=>p=[]/\id2≠id/\id2.1=st.lvl /\
   match st.sto id2 with
   | some (.ar _ zs u2 hw2 _)=>s2=hw2/\len=zs.length/\K (Zo (Qh id2 st) id (.ar k (YK es [] i f (.sl zs)) (u&&u2) hw (ver+1)))
   | _=>False
  | _=>False
 | _=>False
theorem Zr6{id:Oid}{p:Pth}{i s f:Nat}{x:IV}{r:List IV}:ZgM id p i s f (x::r) ⟨lvl,env,loc,out⟩ K=sc1 (ZF lvl loc out id) id p i f s x ⟨lvl,env,loc,out⟩ (kst id p i s (f+1) r K):=by
 simp only[ZgM,stc,sc1]
 rw[show (⟨lvl,env,loc,out⟩:St).sto id=ZF lvl loc out id from rfl]
 generalize ZF lvl loc out id=o
 cases o with
 | none=>rfl
 | some ob =>
  cases ob with
  | bx=>rfl
  | ar k es u hw ver =>
   dsimp only
   rw[<-QV]
   apply propext
   constructor
   ·rintro⟨es',h1,h2,e,h3,t0,h4,h5⟩
    refine⟨h2,es',h1,?_⟩
    rw[h3]
    simp only[op3]
    rw[h4]
    exact h5
   ·rintro⟨h2,es',h1,h3⟩
    rw[<-QV] at h3
    obtain⟨e,h3,h4⟩:=h3
    rw[<-QV] at h4
    obtain⟨t0,h4,h5⟩:=h4
    exact⟨es',h1,h2,e,h3,t0,h4,h5⟩
def sc2(k:Nat)(es:Row)(u:Bool)(hw ver:Nat)(id:Oid)(p:Pth)(i f:Nat)(x:IV)(st:St)(K:St->Prop)(t0:Tr):Prop :=
  match x with
  | .tr (.v y)=>isSc t0=true/\K (Zo st id (.ar k (YK es p i f (.v y)) u hw ver))
  | .cs []=>p=[]/\K (Zo st id (.ar k (YK es [] i f (.sl [])) u hw (ver+1)))
  | .cs zs=>p=[]/\K (Zo st id (.ar k (YK es [] i f (.sl zs)) false hw (ver+1)))
  | .tr (.sl zs)=>p=[]/\K (Zo st id (.ar k (YK es [] i f (.sl zs)) false hw (ver+1)))
  | .hd id2 [] 0 len none s2=>p=[]/\id2≠id/\id2.1=st.lvl /\
   match st.sto id2 with
   | some (.ar _ zs u2 hw2 _)=>s2=hw2/\len=zs.length/\K (Zo (Qh id2 st) id (.ar k (YK es [] i f (.sl zs)) (u&&u2) hw (ver+1)))
   | _=>False
  | _=>False
def sc3(k:Nat)(es:Row)(u:Bool)(hw ver:Nat)(id:Oid)(p:Pth)(i f:Nat)(x:IV)(st:St)(K:St->Prop)(e:List Tr):Prop:=op3 e[f]? (sc2 k es u hw ver id p i f x st K)
def sc4(k:Nat)(es:Row)(u:Bool)(hw ver:Nat)(id:Oid)(p:Pth)(i f:Nat)(x:IV)(st:St)(K:St->Prop)(es':Row):Prop:=op3 es'[i]? (sc3 k es u hw ver id p i f x st K)
section sc
variable {k:Nat} {es:Row} {u:Bool} {hw ver:Nat} {id:Oid} {p:Pth} {i f s:Nat} {x:IV}
theorem Zzr:sc1 (some (.ar k es u hw ver)) id p i f s x st K=(Xs p s hw ver u/\op3 (getp es p) (sc4 k es u hw ver id p i f x st K)):=(rfl)
theorem Zzs{e:List Tr}:sc3 k es u hw ver id p i f x st K e=op3 e[f]? (sc2 k es u hw ver id p i f x st K):=(rfl)
theorem Zzt{es':Row}:sc4 k es u hw ver id p i f x st K es'=op3 es'[i]? (sc3 k es u hw ver id p i f x st K):=(rfl)
theorem Zzu{y:Value}{t0:Tr}:sc2 k es u hw ver id p i f (.tr (.v y)) st K t0=(isSc t0=true/\K (Zo st id (.ar k (YK es p i f (.v y)) u hw ver))):=(rfl)
theorem ZuM{t0:Tr}:sc2 k es u hw ver id p i f (.cs []) st K t0=(p=[]/\K (Zo st id (.ar k (YK es [] i f (.sl [])) u hw (ver+1)))):=(rfl)
theorem ZuN{zs:Row}{t0:Tr}:sc2 k es u hw ver id p i f (.tr (.sl zs)) st K t0=(p=[]/\K (Zo st id (.ar k (YK es [] i f (.sl zs)) false hw (ver+1)))):=(rfl)
def sc5(o:Option Ob)(k:Nat)(es:Row)(u:Bool)(hw ver:Nat)(id:Oid)(i f len s2:Nat)(st2 st:St)(K:St->Prop):Prop :=
 match o with
 | some (.ar _ zs u2 hw2 _)=>s2=hw2/\len=zs.length/\K (Zo st2 id (.ar k (YK es [] i f (.sl zs)) (u&&u2) hw (ver+1)))
 | _=>False
theorem ZuO{key len s2:Nat}{t0:Tr}:sc2 k es u hw ver id p i f (.hd (lvl,key) [] 0 len none s2) ⟨lvl,env,loc,out⟩ K t0=(p=[]/\(lvl,key)≠id/\sc5 (lkO key loc) k es u hw ver id i f len s2 (Qh (lvl,key) ⟨lvl,env,loc,out⟩) ⟨lvl,env,loc,out⟩ K):=by
 simp only[sc2]
 rw[show (⟨lvl,env,loc,out⟩:St).sto (lvl,key)=lkO key loc from YX]
 generalize lkO key loc=o
 apply propext
 constructor
 ·rintro⟨h1,h2,_,h3⟩
  refine⟨h1,h2,?_⟩
  cases o with
  | none=>exact h3
  | some ob=>cases ob <;> exact h3
 ·rintro⟨h1,h2,h3⟩
  refine⟨h1,h2,trivial,?_⟩
  cases o with
  | none=>exact h3
  | some ob=>cases ob <;> exact h3
theorem Zzv{k2:Nat}{zs:Row}{u2:Bool}{hw2 ver2 len s2:Nat}{st2:St}:sc5 (some (.ar k2 zs u2 hw2 ver2)) k es u hw ver id i f len s2 st2 st K=(s2=hw2/\len=zs.length/\K (Zo st2 id (.ar k (YK es [] i f (.sl zs)) (u&&u2) hw (ver+1)))):=(rfl)
end sc
theorem ZBQ{k n:Nat}{z:List Value}{ps:List (Nat×X)}:op2 C d (.bw k n z ps) ⟨lvl,env,loc,out⟩ K=ew C d ⟨lvl,env,loc,out⟩ K (.bw k n z ps):=Jg rfl
def kbw(k lvl:Nat)(d:Option Nat)(K:St->Prop)(ts:List Tr)(u:Bool)(st':St):Prop :=
 K { Zo st' (lvl,keyOf d) (.ar k [ts] u 1 0) with env:=ptd d (.hd (lvl,keyOf d) [] 0 1 none 1) st'.env }
theorem Zzw{k:Nat}{ts:List Tr}{u:Bool}:kbw k lvl d K ts u ⟨lvl,env,loc,out⟩=K ⟨lvl,ptd d (.hd (lvl,keyOf d) [] 0 1 none 1) env,ptO (keyOf d) (.ar k [ts] u 1 0) loc,out⟩:=by
 simp only[kbw,Zbx]
def bw2(v:Option (List IV))(k n:Nat)(d:Option Nat)(loc:List (Nat×Ob))(lvl:Nat)(st:St)(K:St->Prop):Prop :=
 match v with
 | some l=>n=1/\l.length=k/\freshK (keyOf d) loc 1/\ZjE l st (kbw k lvl d K)
 | none=>False
theorem Zzx{k n:Nat}{z:List Value}{x:X}:ew C d ⟨lvl,env,loc,out⟩ K (.bw k n z [(0,x)])=bw2 (cellsOf (xv env x)) k n d loc lvl ⟨lvl,env,loc,out⟩ K:=by
 simp only[ew]
 generalize cellsOf (xv env x)=v
 cases v with
 | none=>simp [bw2]
 | some l=>rfl
theorem Zzy{k n:Nat}{l:List IV}:bw2 (some l) k n d loc lvl st K=(n=1/\l.length=k/\freshK (keyOf d) loc 1/\ZjE l st (kbw k lvl d K)):=(rfl)
def kmv(r:List IV)(F:List Tr->Bool->St->Prop)(t:Tr)(a:Bool)(st':St):Prop:=ZjE r st' fun ts b st'' => F (t::ts) (a&&b) st''
def kmc(t:Tr)(a:Bool)(F:List Tr->Bool->St->Prop)(ts:List Tr)(b:Bool)(st'':St):Prop:=F (t::ts) (a&&b) st''
section mv
variable {r:List IV} {F:List Tr->Bool->St->Prop} {F1:Tr->Bool->St->Prop}
theorem Zzz{t:Tr}{a:Bool}:kmv r F t a st=ZjE r st (kmc t a F):=(rfl)
theorem ZzA{t:Tr}{a:Bool}{ts:List Tr}{b:Bool}:kmc t a F ts b st=F (t::ts) (a&&b) st:=(rfl)
theorem Zr7:ZjE [] st F=F [] true st:=(rfl)
theorem Zr8{x:IV}:ZjE (x::r) st F=mvc st x (kmv r F):=(rfl)
theorem ZuP{y:Value}:mvc st (.tr (.v y)) F1=F1 (.v y) true st:=(rfl)
theorem ZuQ{es:Row}:mvc st (.tr (.sl es)) F1=F1 (.sl es) false st:=(rfl)
theorem ZuR:mvc st (.cs []) F1=F1 (.sl []) true st:=(rfl)
def mv5(o:Option Ob)(len s2:Nat)(st1:St)(F1:Tr->Bool->St->Prop):Prop :=
 match o with
 | some (.ar _ zs u2 hw2 _)=>s2=hw2/\len=zs.length/\F1 (.sl zs) u2 st1
 | _=>False
theorem ZuS{key len s2:Nat}:mvc ⟨lvl,env,loc,out⟩ (.hd (lvl,key) [] 0 len none s2) F1=mv5 (lkO key loc) len s2 (Qh (lvl,key) ⟨lvl,env,loc,out⟩) F1:=by
 simp only[mvc]
 rw[show (⟨lvl,env,loc,out⟩:St).sto (lvl,key)=lkO key loc from YX]
 generalize lkO key loc=o
 apply propext
 constructor
 ·rintro⟨_,h3⟩
  cases o with
  | none=>exact h3
  | some ob=>cases ob <;> exact h3
 ·intro h3
  refine⟨trivial,?_⟩
  cases o with
  | none=>exact h3
  | some ob=>cases ob <;> exact h3
theorem ZzB{k2:Nat}{zs:Row}{u2:Bool}{hw2 ver2 len s2:Nat}:mv5 (some (.ar k2 zs u2 hw2 ver2)) len s2 st F1=(s2=hw2/\len=zs.length/\F1 (.sl zs) u2 st):=(rfl)
end mv
def ZuT:IV->Prop
 | .hd _ [] 0 _ none _=>True
 | _=>False
theorem ZuU{id:Oid}{len s:Nat}:ZuT (.hd id [] 0 len none s)=True:=(rfl)
def ZqI:List IV->Prop
 | []=>True
 | .tr (.v _)::r=>ZqI r
 | _=>False
theorem Zr9:ZqI []=True:=(rfl)
theorem Zsa{y:Value}{r:List IV}:ZqI (.tr (.v y)::r)=ZqI r:=(rfl)
def smp(p:IV)(l:Option (List IV)):Prop :=
 match p with
 | .ab .. => True
 | .ae .. => l≠some []/\ZqI (l.getD [])
 | _=>False
theorem ZuV{id:Oid}{off:Nat}{l:Option (List IV)}:smp (.ab id off) l=True:=(rfl)
theorem ZuW{id:Oid}{p:Pth}{i f s:Nat}{x:IV}{r:List IV}:smp (.ae id p i f s) (some (x::r))=ZqI (x::r):=by simp [smp]
theorem Zk3{id:Oid}{p:Pth}{i s k:Nat}{u:Bool}{hw ver:Nat}:∀(l:List IV)(f:Nat)(es:Row)(st0:St)(K:St->Prop),ZqI l->st0.sto id=some (.ar k es u hw ver)->ZgM id p i s f l st0 K->stq p i f l es (fun es' => K (Zo st0 id (.ar k es' u hw ver)))\/l=[]
 | [],f,es,st0,K,_,_,h=>.inr rfl
 | x::r,f,es,st0,K,ha,hs,h=>by
  refine .inl ?_
  simp only[ZgM,stc] at h
  rw[hs] at h
  obtain⟨es',hg,hst,e,hi,t0,hf,h⟩:=h
  cases x with
  | tr t =>
   cases t with
   | v y =>
    obtain⟨hsc,h⟩:=h
    simp only[stq]
    refine⟨es',hg,e,hi,t0,hf,hsc,?_⟩
    have hs1:(Zo st0 id (.ar k (YK es p i f (.v y)) u hw ver)).sto id=some (.ar k (YK es p i f (.v y)) u hw ver):=by rw[Jn];unfold ZT;rw[if_pos rfl]
    rcases Zk3 r (f+1) _ _ K ha hs1 h with g | g
    ·simp only[Dh] at g
     exact g
    ·subst g
     exact h
   | sl=>cases ha
  | _=>cases ha
theorem ZBR{m:Nat}{p x:X}:op2 C d (.s0 m p x) ⟨lvl,env,loc,out⟩ K=(smp (xv env p) (cellsOf (xv env x))/\op2 C d (.st m p x) ⟨lvl,env,loc,out⟩ K):=by
 rw[Jg rfl,Jg rfl]
 simp only[ew,ZaY]
 generalize cellsOf (xv env x)=v
 generalize xv env p=q
 apply propext
 constructor
 ·rintro⟨h0,h⟩
  split at h <;> try contradiction
  rename_i l
  obtain⟨h1,h⟩:=h
  split at h <;> try contradiction
  ·exact⟨trivial,h0,h1,h⟩
  ·rename_i id p i f s
   split at h <;> try contradiction
   rename_i k es u hw ver hs
   obtain⟨g1,g2,g3⟩:=h
   refine⟨⟨by simpa using g1,?_⟩,h0,h1,ZgZ g2 l f es _ K hs g3 (fun e=>absurd e g1)⟩
   have:∀(l:List IV) (f:Nat) (es:Row) (K:Row->Prop),stq p i f l es K->ZqI l:=by
    intro l
    induction l with
    | nil=>intros;trivial
    | cons x r ih =>
     intro f es K h
     simp only[stq] at h
     obtain⟨_,_,_,_,_,_,_,h⟩:=h
     split at h <;> try contradiction
     exact ih _ _ _ h
   exact this _ _ _ _ g3
 ·rintro⟨h3,h0,h⟩
  refine⟨h0,?_⟩
  split at h <;> try contradiction
  rename_i l
  obtain⟨h1,h⟩:=h
  refine⟨h1,?_⟩
  split at h <;> try contradiction
  ·exact h
  ·rename_i id p i f s
   obtain⟨g1,g2⟩:=h3
   cases l with
   | nil=>exact absurd rfl g1
   | cons y r =>
    have h':=h
    simp only[ZgM,stc] at h'
    split at h' <;> try contradiction
    rename_i k es u hw ver hs
    refine⟨by simp,h'.choose_spec.2.1,?_⟩
    rcases Zk3 _ _ _ _ K g2 hs h with g | g
    ·exact g
    ·cases g
theorem ZBS{k:Nat}{x y:X}:op2 C d (.a0 k x y) ⟨lvl,env,loc,out⟩ K=(ZuT (xv env x)/\op2 C d (.ap k 0 x y) ⟨lvl,env,loc,out⟩ K):=by
 rw[Jg rfl,Jg rfl]
 apply propext
 constructor
 ·intro he
  refine⟨?_,ZkP he⟩
  simp only[ew,ZaY] at he
  split at he <;> try contradiction
  rename_i hx
  rw[hx];trivial
 ·rintro⟨h1,h⟩
  generalize hq:xv env x=q at h1
  unfold ZuT at h1
  split at h1 <;> try contradiction
  rename_i id len s
  have go:∀ items:Row,ScR items->DA d k x loc items true ⟨lvl,env,loc,out⟩ K->match ZF lvl loc out id with
   | some (.ar k' es u hw ver)=>k'=k/\s=hw/\len=es.length/\ScR items/\UnR k items/\len+items.length<=bigN /\
     K { Zo ⟨lvl,env,loc,out⟩ id (.ar k (es++items) u (max hw (len+items.length)) ver) with env:=ptd d (.hd id [] 0 (len+items.length) none (max hw (len+items.length))) env }
   | _=>False:=fun items hsc h=>by
   unfold DA at h
   obtain⟨g1,h⟩:=h
   simp only[hq] at h
   rw[show (⟨lvl,env,loc,out⟩:St).sto id=ZF lvl loc out id from rfl] at h
   generalize ZF lvl loc out id=o at h ⊢
   cases o with
   | none=>exact h
   | some ob =>
    cases ob with
    | bx=>exact h
    | ar k' es u hw ver =>
     simp only[Bool.and_true] at h
     exact⟨h.1,h.2.1,h.2.2.1,hsc,g1,h.2.2.2.1,h.2.2.2.2⟩
  simp only[ew,ZaY,ZjC] at h ⊢
  rw[hq]
  rw[show (⟨lvl,env,loc,out⟩:St).sto=ZF lvl loc out from rfl] at *
  split at h <;> try contradiction
  ·rename_i zs hy
   simp only[if_true] at h
   have:=go zs h.1 h.2
   rw[hy]
   exact this
  ·rename_i zs hy
   simp only[if_true] at h
   have:=go zs h.1 h.2
   rw[hy]
   exact this
  ·rename_i id2 p2 off2 len2 c2 s2 hy
   simp only[if_true] at h
   rw[hy]
   dsimp only
   unfold rdh at h ⊢
   generalize ZF lvl loc out id2=o3 at h ⊢
   cases o3 with
   | none=>exact h.elim
   | some ob3 =>
    cases ob3 with
    | bx=>exact h.elim
    | ar k3 es3 u3 hw3 ver3 =>
     obtain⟨es',q1,q2,q3,q4,q5⟩:=h
     have:=go _ q4 q5
     split at this <;> try contradiction
     rename_i hs
     show (match ZF lvl loc out id with
      | some (.ar k' es u hw ver)=>k'=k/\s=hw/\len=es.length/\∃ es',getp es3 p2=some es'/\Xs p2 s2 hw3 ver3 u3/\off2+len2<=es'.length/\ScR (cut es' off2 len2)/\UnR k (cut es' off2 len2)/\len+(cut es' off2 len2).length<=bigN /\
        K { Zo ⟨lvl,env,loc,out⟩ id (.ar k (es++cut es' off2 len2) u (max hw (len+(cut es' off2 len2).length)) ver) with env:=ptd d (.hd id [] 0 (len+(cut es' off2 len2).length) none (max hw (len+(cut es' off2 len2).length))) env }
      | _=>False)
     rw[hs]
     exact⟨this.1,this.2.1,this.2.2.1,es',q1,q2,q3,this.2.2.2⟩
  ·exact absurd h.1 (by decide)
def Zwx:IV->Prop
 | .tr (.sl _)=>True
 | .cs _=>True
 | _=>False
theorem Zsb{es:Row}:Zwx (.tr (.sl es))=True:=(rfl)
theorem Zsc{es:Row}:Zwx (.cs es)=True:=(rfl)
theorem ZBT{k:Nat}{x y:X}:op2 C d (.a1 k x y) ⟨lvl,env,loc,out⟩ K=(ZuT (xv env x)/\Zwx (xv env y)/\op2 C d (.ap k 1 x y) ⟨lvl,env,loc,out⟩ K):=by
 rw[Jg rfl,Jg rfl]
 apply propext
 constructor
 ·intro he
  refine⟨?_,?_,ZkQ he⟩
  ·simp only[ew,ZaY] at he
   split at he <;> try contradiction
   rename_i hx
   rw[hx];trivial
  ·simp only[ew,ZaY] at he
   split at he <;> try contradiction
   split at he <;> try contradiction
   have h4:=he.2.2.2
   unfold ZsZ at h4
   split at h4 <;> try contradiction
   ·rename_i hy;rw[hy];trivial
   ·rename_i hy;rw[hy];trivial
 ·rintro⟨h1,h2,h⟩
  generalize hq:xv env x=q at h1
  unfold ZuT at h1
  split at h1 <;> try contradiction
  rename_i id len s
  have go:∀ items:Row,DA d k x loc items false ⟨lvl,env,loc,out⟩ K->match ZF lvl loc out id with
   | some (.ar k' es u hw ver)=>k'=k/\s=hw/\len=es.length/\UnR k items/\len+items.length<=bigN /\
     K { Zo ⟨lvl,env,loc,out⟩ id (.ar k (es++items) false (max hw (len+items.length)) ver) with env:=ptd d (.hd id [] 0 (len+items.length) none (max hw (len+items.length))) env }
   | _=>False:=fun items h=>by
   unfold DA at h
   obtain⟨g1,h⟩:=h
   simp only[hq] at h
   rw[show (⟨lvl,env,loc,out⟩:St).sto id=ZF lvl loc out id from rfl] at h
   generalize ZF lvl loc out id=o at h ⊢
   cases o with
   | none=>exact h
   | some ob =>
    cases ob with
    | bx=>exact h
    | ar k' es u hw ver =>
     simp only[Bool.and_false] at h
     exact⟨h.1,h.2.1,h.2.2.1,g1,h.2.2.2.1,h.2.2.2.2⟩
  simp only[ew,ZaY,ZsZ] at h ⊢
  rw[hq]
  rw[show (⟨lvl,env,loc,out⟩:St).sto=ZF lvl loc out from rfl] at *
  generalize hy:xv env y=yv at h h2 ⊢
  unfold Zwx at h2
  split at h2 <;> try contradiction
  ·simp only[Nat.reduceEqDiff,if_false,true_and] at h
   exact go _ h
  ·simp only[Nat.reduceEqDiff,if_false,true_and] at h
   exact go _ h
def az1(x n:IV)(d:Option Nat)(k:Nat)(z:List Value)(st:St)(K:St->Prop):Prop :=
 match x with
 | .cs [] =>
  match n with
  | .tr (.v (.int .i64 m))=>0<m/\m<=bigN/\freshK (keyOf d) st.loc 1 /\
    K { Zo st (st.lvl,keyOf d) (.ar k (List.replicate m.toNat (z.map trv)) true m.toNat 0) with env:=ptd d (.hd (st.lvl,keyOf d) [] 0 m.toNat none m.toNat) st.env }
  | _=>False
 | _=>False
theorem ZBU{k:Nat}{z:List Value}{x n:X}:op2 C d (.az k z x n) ⟨lvl,env,loc,out⟩ K=az1 (xv env x) (xv env n) d k z ⟨lvl,env,loc,out⟩ K:=by
 rw[Jg rfl]
 rfl
theorem ZzC{k:Nat}{z:List Value}{m:Int}:az1 (.cs []) (.tr (.v (.int .i64 m))) d k z ⟨lvl,env,loc,out⟩ K=(0<m/\m<=bigN/\freshK (keyOf d) loc 1/\K ⟨lvl,ptd d (.hd (lvl,keyOf d) [] 0 m.toNat none m.toNat) env,ptO (keyOf d) (.ar k (List.replicate m.toNat (z.map trv)) true m.toNat 0) loc,out⟩):=by
 simp only[az1,Zbx]
def tbx:IV->Prop
 | .ta _=>True
 | _=>False
theorem ZzD{cells:List Tr}:tbx (.ta cells)=True:=(rfl)
theorem ZBV{m:Option Nat}{p:X}:op2 C d (.lt m p) ⟨lvl,env,loc,out⟩ K=(tbx (xv env p)/\op2 C d (.ld m p) ⟨lvl,env,loc,out⟩ K):=by
 cases m <;> (
  rw[J2 rfl,J2 rfl]
  simp only[ev]
  generalize hx:xv env p=q
  cases q <;> simp [tbx])
def av4(o:Option Ob)(id:Oid)(es:Row)(hw ver len off2 len2 s2 k:Nat)(d:Option Nat)(st:St)(K:St->Prop):Prop :=
 match o with
 | some (.ar _ es2 false hw2 _)=>s2=hw2/\off2+len2<=es2.length/\UnR k (cut es2 off2 len2)/\len+(cut es2 off2 len2).length<=bigN /\
   K { Zo st id (.ar k (es++cut es2 off2 len2) false (max hw (len+(cut es2 off2 len2).length)) ver) with env:=ptd d (.hd id [] 0 (len+(cut es2 off2 len2).length) none (max hw (len+(cut es2 off2 len2).length))) st.env }
 | _=>False
def av3(y:IV)(id:Oid)(es:Row)(hw ver len k:Nat)(d:Option Nat)(st:St)(K:St->Prop):Prop :=
 match y with
 | .hd id2 [] off2 len2 _ s2=>av4 (st.sto id2) id es hw ver len off2 len2 s2 k d st K
 | _=>False
def av2(o:Option Ob)(y:IV)(id:Oid)(len s k:Nat)(d:Option Nat)(st:St)(K:St->Prop):Prop :=
 match o with
 | some (.ar k' es _ hw ver)=>k'=k/\s=hw/\len=es.length/\av3 y id es hw ver len k d st K
 | _=>False
def av1(x y:IV)(k:Nat)(d:Option Nat)(st:St)(K:St->Prop):Prop :=
 match x with
 | .hd id [] 0 len none s=>av2 (st.sto id) y id len s k d st K
 | _=>False
theorem ZBW{k:Nat}{x y:X}:op2 C d (.a2 k x y) ⟨lvl,env,loc,out⟩ K=av1 (xv env x) (xv env y) k d ⟨lvl,env,loc,out⟩ K:=by
 rw[Jg rfl]
 rfl
theorem ZzE{id:Oid}{len s k:Nat}{y:IV}:av1 (.hd id [] 0 len none s) y k d ⟨lvl,env,loc,out⟩ K=av2 (ZF lvl loc out id) y id len s k d ⟨lvl,env,loc,out⟩ K:=(rfl)
theorem ZzF{k' hw ver len s k:Nat}{es:Row}{u:Bool}{y:IV}{id:Oid}:av2 (some (.ar k' es u hw ver)) y id len s k d st K=(k'=k/\s=hw/\len=es.length/\av3 y id es hw ver len k d st K):=(rfl)
theorem ZzG{id id2:Oid}{es:Row}{hw ver len k off2 len2 s2:Nat}{c2:Option Nat}:av3 (.hd id2 [] off2 len2 c2 s2) id es hw ver len k d ⟨lvl,env,loc,out⟩ K=av4 (ZF lvl loc out id2) id es hw ver len off2 len2 s2 k d ⟨lvl,env,loc,out⟩ K:=(rfl)
theorem ZzH{key:Nat}{es es2:Row}{k2 hw ver len off2 len2 s2 k hw2 ver2:Nat}:av4 (some (.ar k2 es2 false hw2 ver2)) (lvl,key) es hw ver len off2 len2 s2 k d ⟨lvl,env,loc,out⟩ K=(s2=hw2/\off2+len2<=es2.length/\UnR k (cut es2 off2 len2)/\len+(cut es2 off2 len2).length<=bigN /\
   K ⟨lvl,ptd d (.hd (lvl,key) [] 0 (len+(cut es2 off2 len2).length) none (max hw (len+(cut es2 off2 len2).length))) env,ptO key (.ar k (es++cut es2 off2 len2) false (max hw (len+(cut es2 off2 len2).length)) ver) loc,out⟩):=by
 simp only[av4,Zbx]
def abx:IV->Prop
 | .ab .. => True
 | _=>False
theorem ZzI{id:Oid}{off:Nat}:abx (.ab id off)=True:=(rfl)
theorem ZBX{m:Option Nat}{p:X}:op2 C d (.lb m p) ⟨lvl,env,loc,out⟩ K=(abx (xv env p)/\op2 C d (.ld m p) ⟨lvl,env,loc,out⟩ K):=by
 cases m <;> (
  rw[J2 rfl,J2 rfl]
  simp only[ev]
  generalize hx:xv env p=q
  cases q <;> simp [abx])
def tcs:IV->Prop
 | .tr (.sl _)=>True
 | .cs _=>True
 | _=>False
theorem ZuX{es:Row}:tcs (.tr (.sl es))=True:=(rfl)
theorem ZuY{es:Row}:tcs (.cs es)=True:=(rfl)
theorem ZBY{k:Nat}{x:X}{lo hi mx:Option X}:op2 C d (.sy k x lo hi mx) ⟨lvl,env,loc,out⟩ K=(tcs (xv env x)/\op2 C d (.sx k x lo hi mx) ⟨lvl,env,loc,out⟩ K):=by
 rw[J2 rfl,J2 rfl]
 simp only[ev]
 generalize hx:xv env x=q
 cases q with
 | tr t =>
  cases t with
  | v=>simp [tcs]
  | sl es=>simp only[tcs,true_and]
 | cs es=>simp only[tcs,true_and]
 | _=>simp only[tcs,false_and]
def swx(L:Sto)(k:Nat):IV->Prop
 | .tr (.sl _)=>True
 | .cs _=>True
 | .hd id [] _ _ _ _=>wid L id [] k
 | _=>False
theorem ZuZ{L:Sto}{k:Nat}{es:Row}:swx L k (.tr (.sl es))=True:=(rfl)
theorem Zu0{L:Sto}{k:Nat}{es:Row}:swx L k (.cs es)=True:=(rfl)
theorem Zu1{L:Sto}{k:Nat}{id:Oid}{off len s:Nat}{cap:Option Nat}:swx L k (.hd id [] off len cap s)=wid L id [] k:=(rfl)
def ZAV(m:Nat):Option Ob->Prop
 | some (.ar k _ _ _ _)=>k=m
 | _=>False
theorem Zu2{m k hw ver:Nat}{es:Row}{u:Bool}:ZAV m (some (.ar k es u hw ver))=(k=m):=(rfl)
theorem Zu3{key m:Nat}:wid (ZF lvl loc out) (lvl,key) [] m=ZAV m (lkO key loc):=by
 unfold wid
 rw[YX]
 cases lkO key loc with
 | none=>rfl
 | some ob=>cases ob <;> rfl
theorem ZBZ{k:Nat}{x:X}{lo hi mx:Option X}:op2 C d (.sw k x lo hi mx) ⟨lvl,env,loc,out⟩ K=(swx (ZF lvl loc out) k (xv env x)/\op2 C d (.sx k x lo hi mx) ⟨lvl,env,loc,out⟩ K):=by
 rw[J2 rfl,J2 rfl]
 simp only[ev]
 generalize xv env x=q
 cases q with
 | tr t =>
  cases t with
  | v=>simp [swx]
  | sl es=>simp only[swx,true_and]
 | cs es=>simp only[swx,true_and]
 | hd id p off len cap s =>
  cases p with
  | nil =>
   simp only[swx]
   exact propext ⟨fun⟨hw,h⟩=>⟨hw,QR (fun a h=>QR (fun b h=>⟨h.1,h.2.1,QR (fun m g=>⟨g.1,g.2.1,hw,g.2.2⟩) h.2.2⟩) h) h⟩,fun⟨hw,h⟩=>⟨hw,QR (fun a h=>QR (fun b h=>⟨h.1,h.2.1,QR (fun m g=>⟨g.1,g.2.1,g.2.2.2⟩) h.2.2⟩) h) h⟩⟩
  | cons c r=>simp [swx]
 | _=>simp [swx]
theorem ZB0{k:Nat}{x i:X}:op2 C d (.it k x i) ⟨lvl,env,loc,out⟩ K=(tcs (xv env x)/\op2 C d (.ia k x i) ⟨lvl,env,loc,out⟩ K):=by
 rw[J2 rfl,J2 rfl]
 simp only[ev]
 generalize xv env x=q
 generalize xv env i=qi
 cases q with
 | tr t =>
  cases t with
  | v=>simp only[tcs,false_and];split <;> simp
  | sl es=>simp only[tcs,true_and]
 | cs es=>simp only[tcs,true_and]
 | _=>simp only[tcs,false_and];split <;> simp
def apx(v:IV)(d:Option Nat)(k:Nat)(loc0:List (Nat×Ob))(items:Row)(ui:Bool)(st1:St)(K:St->Prop):Prop :=
 UnR k items /\
 match v with
 | .cs zs=>(zs=[]\/items≠[])/\zs.length+items.length<=bigN/\UnR k zs/\freshK (keyOf d) loc0 1/\(zs=[]\/ui=false\/ScR zs) /\
  K { Zo st1 (st1.lvl,keyOf d) (.ar k (zs++items) ui (zs.length+items.length) 0) with env:=ptd d (.hd (st1.lvl,keyOf d) [] 0 (zs.length+items.length) none (zs.length+items.length)) st1.env }
 | .hd id [] 0 len none s =>
  match st1.sto id with
  | some (.ar k' es u hw ver)=>k'=k/\s=hw/\len=es.length/\len+items.length<=bigN /\
   K { Zo st1 id (.ar k (es++items) (u&&ui) (max hw (len+items.length)) ver) with env:=ptd d (.hd id [] 0 (len+items.length) none (max hw (len+items.length))) st1.env }
  | _=>False
 | _=>False
theorem Zu4{k:Nat}{x:X}{loc0:List (Nat×Ob)}{items:Row}{ui:Bool}:DA d k x loc0 items ui ⟨lvl,env,loc,out⟩ K=apx (xv env x) d k loc0 items ui ⟨lvl,env,loc,out⟩ K:=(rfl)
theorem Zu5{k:Nat}{loc0:List (Nat×Ob)}{items zs:Row}{ui:Bool}:apx (.cs zs) d k loc0 items ui ⟨lvl,env,loc,out⟩ K=(UnR k items/\(zs=[]\/items≠[])/\zs.length+items.length<=bigN/\UnR k zs/\freshK (keyOf d) loc0 1/\(zs=[]\/ui=false\/ScR zs) /\
  K ⟨lvl,ptd d (.hd (lvl,keyOf d) [] 0 (zs.length+items.length) none (zs.length+items.length)) env,ptO (keyOf d) (.ar k (zs++items) ui (zs.length+items.length) 0) loc,out⟩):=by
 simp only[apx,Zbx]
def aph(o:Option Ob)(d:Option Nat)(k:Nat)(id:Oid)(len s:Nat)(items:Row)(ui:Bool)(st1:St)(K:St->Prop):Prop :=
 match o with
 | some (.ar k' es u hw ver)=>k'=k/\s=hw/\len=es.length/\len+items.length<=bigN /\
   K { Zo st1 id (.ar k (es++items) (u&&ui) (max hw (len+items.length)) ver) with env:=ptd d (.hd id [] 0 (len+items.length) none (max hw (len+items.length))) st1.env }
 | _=>False
theorem Zu6{k key len s:Nat}{loc0:List (Nat×Ob)}{items:Row}{ui:Bool}:apx (.hd (lvl,key) [] 0 len none s) d k loc0 items ui ⟨lvl,env,loc,out⟩ K=(UnR k items/\aph (lkO key loc) d k (lvl,key) len s items ui ⟨lvl,env,loc,out⟩ K):=by
 simp only[apx]
 rw[show (⟨lvl,env,loc,out⟩:St).sto (lvl,key)=lkO key loc from YX]
 rfl
theorem ZzJ{k k' key len s:Nat}{items es:Row}{u ui:Bool}{hw ver:Nat}:aph (some (.ar k' es u hw ver)) d k (lvl,key) len s items ui ⟨lvl,env,loc,out⟩ K=(k'=k/\s=hw/\len=es.length/\len+items.length<=bigN /\
   K ⟨lvl,ptd d (.hd (lvl,key) [] 0 (len+items.length) none (max hw (len+items.length))) env,ptO key (.ar k (es++items) (u&&ui) (max hw (len+items.length)) ver) loc,out⟩):=by
 simp only[aph,Zbx]
def ap2(C:Zk)(d:Option Nat)(k md:Nat)(x:X)(y:IV)(st:St)(K:St->Prop):Prop :=
 match y with
 | .tr (.sl es)=>if md=0 then ScR es/\DA d k x st.loc es true st K else md=1/\DA d k x st.loc es false st K
 | .cs es=>if md=0 then ScR es/\DA d k x st.loc es true st K else md=1/\DA d k x st.loc es false st K
 | .hd id2 p2 off2 len2 c2 s2 =>
   if md=2 then
    p2=[]/\off2=0/\c2=none/\id2.1=st.lvl /\
    match st.sto id2 with
    | some (.ar _ zs u2 hw2 _)=>s2=hw2/\len2=zs.length/\DA d k x st.loc zs u2 (Qh id2 st) K
    | _=>False
   else if md=0 then
    rdh st.sto id2 p2 s2 fun es _ _=>off2+len2<=es.length/\ScR (cut es off2 len2)/\DA d k x st.loc (cut es off2 len2) true st K
   else md=1/\p2=[] /\
    match st.sto id2 with
    | some (.ar k2 es _ hw2 ver2)=>s2=hw2/\off2+len2<=es.length/\DA d k x st.loc (cut es off2 len2) false (Zo st id2 (.ar k2 es false hw2 ver2)) K
    | _=>False
 | .sv id2=>md=2/\id2.1=st.lvl /\
   match st.sto id2 with
   | some (.bx l)=>l.length=k/\ZjE l st fun ts u st' => DA d k x st.loc [ts] u (Qh id2 st') K
   | _=>False
 | _=>False
theorem ZB1{k md:Nat}{x y:X}:op2 C d (.ap k md x y) ⟨lvl,env,loc,out⟩ K=ap2 C d k md x (xv env y) ⟨lvl,env,loc,out⟩ K:=by
 rw[Jg rfl]
 rfl
section ap
variable {k:Nat} {x:X}
theorem ZzK{es:Row}:ap2 C d k 0 x (.tr (.sl es)) ⟨lvl,env,loc,out⟩ K=(ScR es/\DA d k x loc es true ⟨lvl,env,loc,out⟩ K):=(rfl)
theorem ZzL{es:Row}:ap2 C d k 1 x (.tr (.sl es)) ⟨lvl,env,loc,out⟩ K=DA d k x loc es false ⟨lvl,env,loc,out⟩ K:=by simp [ap2]
theorem Zu7{es:Row}:ap2 C d k 0 x (.cs es) ⟨lvl,env,loc,out⟩ K=(ScR es/\DA d k x loc es true ⟨lvl,env,loc,out⟩ K):=(rfl)
theorem Zu8{es:Row}:ap2 C d k 1 x (.cs es) ⟨lvl,env,loc,out⟩ K=DA d k x loc es false ⟨lvl,env,loc,out⟩ K:=by simp [ap2]
def kap(d:Option Nat)(k:Nat)(x:X)(off2 len2:Nat)(st:St)(K:St->Prop)(es:Row)(_u:Bool)(_v:Nat):Prop:=off2+len2<=es.length/\ScR (cut es off2 len2)/\DA d k x st.loc (cut es off2 len2) true st K
theorem ZzM{off2 len2:Nat}{es:Row}{u:Bool}{v:Nat}:kap d k x off2 len2 ⟨lvl,env,loc,out⟩ K es u v=(off2+len2<=es.length/\ScR (cut es off2 len2)/\DA d k x loc (cut es off2 len2) true ⟨lvl,env,loc,out⟩ K):=(rfl)
theorem Zu9{id2:Oid}{p2:Pth}{off2 len2 s2:Nat}{c2:Option Nat}:ap2 C d k 0 x (.hd id2 p2 off2 len2 c2 s2) ⟨lvl,env,loc,out⟩ K=rd3 (ZF lvl loc out id2) p2 s2 (kap d k x off2 len2 ⟨lvl,env,loc,out⟩ K):=by
 rw[<-Zab]
 rfl
def ap5(o:Option Ob)(d:Option Nat)(k:Nat)(x:X)(len2 s2:Nat)(loc0:List (Nat×Ob))(st1:St)(K:St->Prop):Prop :=
 match o with
 | some (.ar _ zs u2 hw2 _)=>s2=hw2/\len2=zs.length/\DA d k x loc0 zs u2 st1 K
 | _=>False
theorem Zva{key:Nat}{p2:Pth}{off2 len2 s2:Nat}{c2:Option Nat}:ap2 C d k 2 x (.hd (lvl,key) p2 off2 len2 c2 s2) ⟨lvl,env,loc,out⟩ K=(p2=[]/\off2=0/\c2=none/\ap5 (lkO key loc) d k x len2 s2 loc (Qh (lvl,key) ⟨lvl,env,loc,out⟩) K):=by
 simp only[ap2,if_true]
 rw[show (⟨lvl,env,loc,out⟩:St).sto (lvl,key)=lkO key loc from YX]
 generalize lkO key loc=o
 apply propext
 constructor
 ·rintro⟨h1,h2,h3,_,h5⟩
  refine⟨h1,h2,h3,?_⟩
  cases o with
  | none=>exact h5
  | some ob=>cases ob <;> exact h5
 ·rintro⟨h1,h2,h3,h5⟩
  refine⟨h1,h2,h3,trivial,?_⟩
  cases o with
  | none=>exact h5
  | some ob=>cases ob <;> exact h5
theorem ZzN{k2:Nat}{zs:Row}{u2:Bool}{hw2 ver2 len2 s2:Nat}{loc0:List (Nat×Ob)}{st1:St}:ap5 (some (.ar k2 zs u2 hw2 ver2)) d k x len2 s2 loc0 st1 K=(s2=hw2/\len2=zs.length/\DA d k x loc0 zs u2 st1 K):=(rfl)
def ZzO(d:Option Nat)(k:Nat)(x:X)(loc0:List (Nat×Ob))(id2:Oid)(K:St->Prop)(ts:List Tr)(u:Bool)(st':St):Prop:=DA d k x loc0 [ts] u (Qh id2 st') K
theorem Zvb{loc0:List (Nat×Ob)}{id2:Oid}{ts:List Tr}{u:Bool}:ZzO d k x loc0 id2 K ts u st=DA d k x loc0 [ts] u (Qh id2 st) K:=(rfl)
def aps(o:Option Ob)(d:Option Nat)(k:Nat)(x:X)(loc0:List (Nat×Ob))(id2:Oid)(st1:St)(K:St->Prop):Prop :=
 match o with
 | some (.bx l)=>l.length=k/\ZjE l st1 (ZzO d k x loc0 id2 K)
 | _=>False
theorem ZzP{l:List IV}{loc0:List (Nat×Ob)}{id2:Oid}{st1:St}:aps (some (.bx l)) d k x loc0 id2 st1 K=(l.length=k/\ZjE l st1 (ZzO d k x loc0 id2 K)):=(rfl)
theorem Zvc{key:Nat}:ap2 C d k 2 x (.sv (lvl,key)) ⟨lvl,env,loc,out⟩ K=aps (lkO key loc) d k x loc (lvl,key) ⟨lvl,env,loc,out⟩ K:=by
 simp only[ap2]
 rw[show (⟨lvl,env,loc,out⟩:St).sto (lvl,key)=lkO key loc from YX]
 generalize lkO key loc=o
 apply propext
 constructor
 ·rintro⟨_,_,h⟩
  cases o with
  | none=>exact h
  | some ob=>cases ob <;> exact h
 ·intro h
  refine⟨trivial,trivial,?_⟩
  cases o with
  | none=>exact h
  | some ob=>cases ob <;> exact h
end ap
theorem Zsd{L:Sto}{F:List IV->Prop}:∀{l:List Tr},Jx L (l.map .tr) F=F (l.map .tr)
 | []=>ZrF
 | t::r=>by rw[List.map_cons,Zt7,Zsd,Zt3]
theorem ZjZ{Pd:Oid->Prop}:∀{l:List Tr},Zj Pd (l.map .tr)=True
 | []=>rfl
 | t::r=>by simp only[List.map_cons,Zj,men,ZjZ,and_self]
def nlf(v:IV)(neg:Bool)(lvl:Nat)(env:List (Nat×IV))(loc:List (Nat×Ob))(out:Sto)(d:Option Nat)(K:St->Prop):Prop :=
 match v with
 | .tr (.sl es)=>K ⟨lvl,ptd d (iB neg) env,loc,out⟩/\(es=[]->K ⟨lvl,ptd d (iB !neg) env,loc,out⟩)
 | .cs es=>K ⟨lvl,ptd d (iB neg) env,loc,out⟩/\(es=[]->K ⟨lvl,ptd d (iB !neg) env,loc,out⟩)
 | _=>False
theorem ZB2{C:Zk}{d:Option Nat}{neg:Bool}{x:X}{lvl:Nat}{env:List (Nat×IV)}{loc:List (Nat×Ob)}{out:Sto}{K:St->Prop}:op2 C d (.nl neg x) ⟨lvl,env,loc,out⟩ K=nlf (xv env x) neg lvl env loc out d K:=by
 rw[Jg rfl]
 rfl
theorem ZzQ{neg:Bool}{es:Row}{d:Option Nat}{lvl:Nat}{env:List (Nat×IV)}{loc:List (Nat×Ob)}{out:Sto}{K:St->Prop}:nlf (.tr (.sl es)) neg lvl env loc out d K=(K ⟨lvl,ptd d (iB neg) env,loc,out⟩/\(es=[]->K ⟨lvl,ptd d (iB !neg) env,loc,out⟩)):=(rfl)
theorem ZzR{neg:Bool}{es:Row}{d:Option Nat}{lvl:Nat}{env:List (Nat×IV)}{loc:List (Nat×Ob)}{out:Sto}{K:St->Prop}:nlf (.cs es) neg lvl env loc out d K=(K ⟨lvl,ptd d (iB neg) env,loc,out⟩/\(es=[]->K ⟨lvl,ptd d (iB !neg) env,loc,out⟩)):=(rfl)
section row
variable {C:Zk} {d:Option Nat} {x y hi:X} {lvl:Nat} {env:List (Nat×IV)} {loc:List (Nat×Ob)} {out:Sto} {K:St->Prop} {st:St}
def Zie(d:Option Nat)(x:IV)(st:St)(K:St->Prop):Prop:=K { st with env:=ptd d x st.env }
theorem Zvd{v:IV}:Zie d v ⟨lvl,env,loc,out⟩ K=K ⟨lvl,ptd d v env,loc,out⟩:=(rfl)
theorem Zel{v:IV}{id:Oid}{ob:Ob}:Zie d v (Zo st id ob) K=K { Zo st id ob with env:=ptd d v st.env }:=by
 unfold Zie
 rw[XT]
def cpf(v:IV)(lvl:Nat)(env:List (Nat×IV))(loc:List (Nat×Ob))(out:Sto)(d:Option Nat)(K:St->Prop):Prop :=
 match v with
 | .cs es=>K ⟨lvl,ptd d (iI es.length) env,loc,out⟩
 | _=>False
theorem ZB3:op2 C d (.cp x) ⟨lvl,env,loc,out⟩ K=cpf (xv env x) lvl env loc out d K:=by
 rw[Jg rfl]
 rfl
theorem ZzS{es:Row}:cpf (.cs es) lvl env loc out d K=K ⟨lvl,ptd d (iI es.length) env,loc,out⟩:=(rfl)
def shg(o:Option Ob)(id:Oid)(m:Int)(len s k:Nat)(d:Option Nat)(st:St)(K:St->Prop):Prop :=
 match o with
 | some (.ar k2 es u hw ver)=>k2=k/\s=hw/\0<=m/\m.toNat<=len/\len<=es.length/\Zie d (.hd id [] 0 m.toNat none hw) (Zo st id (.ar k2 (es.take m.toNat) u hw (ver+1))) K
 | _=>False
def shf(v hv:IV)(k:Nat)(d:Option Nat)(st:St)(K:St->Prop):Prop :=
 match v with
 | .cs es =>
  match hv with
  | .tr (.v (.int _ m))=>m=es.length/\UnR k es/\Zie d (.cs es) st K
  | _=>False
 | .hd id p off len cap s =>
  match hv with
  | .tr (.v (.int _ m))=>p=[]/\off=0/\cap=none/\shg (st.sto id) id m len s k d st K
  | _=>False
 | _=>False
theorem ZB4{k:Nat}:op2 C d (.sh k x hi) ⟨lvl,env,loc,out⟩ K=shf (xv env x) (xv env hi) k d ⟨lvl,env,loc,out⟩ K:=by
 rw[Jg rfl]
 simp only[ew]
 generalize xv env x=v
 cases v <;> try rfl
 rename_i id p off len cap s
 generalize xv env hi=hv
 cases hv <;> try rfl
 rename_i t
 cases t <;> try rfl
 rename_i q
 cases q <;> try rfl
 simp only[shf,shg]
 generalize (⟨lvl,env,loc,out⟩:St).sto id=o
 cases o with
 | none=>simp
 | some ob =>
  cases ob with
  | bx=>simp
  | ar k2 es u hw ver=>simp only[Zel]
theorem ZzT{id:Oid}{len s k:Nat}{kk:IntKind}{m:Int}:shf (.hd id [] 0 len none s) (.tr (.v (.int kk m))) k d ⟨lvl,env,loc,out⟩ K=shg (ZF lvl loc out id) id m len s k d ⟨lvl,env,loc,out⟩ K:=by
 simp only[shf,true_and]
 rfl
theorem ZzU{es:Row}{k:Nat}{kk:IntKind}{m:Int}:shf (.cs es) (.tr (.v (.int kk m))) k d ⟨lvl,env,loc,out⟩ K=(m=es.length/\UnR k es/\Zie d (.cs es) ⟨lvl,env,loc,out⟩ K):=(rfl)
theorem ZzV{id:Oid}{len s k k2 hw ver:Nat}{es:Row}{u:Bool}{m:Int}:shg (some (.ar k2 es u hw ver)) id m len s k d st K=(k2=k/\s=hw/\0<=m/\m.toNat<=len/\len<=es.length/\Zie d (.hd id [] 0 m.toNat none hw) (Zo st id (.ar k2 (es.take m.toNat) u hw (ver+1))) K):=(rfl)
def fzg(o:Option Ob)(len s:Nat)(d:Option Nat)(st1:St)(K:St->Prop):Prop :=
 match o with
 | some (.ar _ zs _ hw _)=>s=hw/\len=zs.length/\Zie d (.tr (.sl zs)) st1 K
 | _=>False
def fzf(v:IV)(d:Option Nat)(st:St)(K:St->Prop):Prop :=
 match v with
 | .hd id [] 0 len none s=>id.1=st.lvl/\fzg (st.sto id) len s d (Qh id st) K
 | _=>False
theorem ZB5:op2 C d (.fz x) ⟨lvl,env,loc,out⟩ K=fzf (xv env x) d ⟨lvl,env,loc,out⟩ K:=by
 rw[Jg rfl]
 simp only[ew]
 generalize xv env x=v
 unfold fzf
 split
 ·rename_i id len s
  simp only[fzg]
  generalize (⟨lvl,env,loc,out⟩:St).sto id=o
  cases o with
  | none=>rfl
  | some ob=>cases ob <;> rfl
 ·rename_i hv
  split
  ·exact(hv _ _ _ rfl).elim
  ·rfl
theorem ZzW{key len s:Nat}:fzf (.hd (lvl,key) [] 0 len none s) d ⟨lvl,env,loc,out⟩ K=fzg (lkO key loc) len s d (Qh (lvl,key) ⟨lvl,env,loc,out⟩) K:=by
 simp only[fzf,true_and]
 rw[show (⟨lvl,env,loc,out⟩:St).sto (lvl,key)=lkO key loc from YX]
theorem ZzX{len s k hw ver:Nat}{zs:Row}{u:Bool}:fzg (some (.ar k zs u hw ver)) len s d st K=(s=hw/\len=zs.length/\Zie d (.tr (.sl zs)) st K):=(rfl)
def drp(o:Option Ob)(id:Oid)(st:St):St :=
 match o with
 | none=>st
 | some _=>Qh id st
theorem Zve{id:Oid}:drp none id st=st:=(rfl)
theorem Zvf{ob:Ob}{id:Oid}:drp (some ob) id st=Qh id st:=(rfl)
def rkg(o:Option Ob)(len s:Nat)(id0:Oid)(d:Option Nat)(st1:St)(K:St->Prop):Prop :=
 match o with
 | some (.ar k zs u hw ver)=>s=hw/\len=zs.length/\Zie d (.hd id0 [] 0 len none s) (Zo st1 id0 (.ar k zs u hw ver)) K
 | _=>False
def rkf(v:IV)(d:Option Nat)(st:St)(K:St->Prop):Prop :=
 match v with
 | .hd id [] 0 len none s=>id.1=st.lvl/\(st.lvl,keyOf d)≠id/\rkg (st.sto id) len s (st.lvl,keyOf d) d (Qh id (ZfH (st.lvl,keyOf d) st)) K
 | _=>False
theorem ZB6:op2 C d (.rk x) ⟨lvl,env,loc,out⟩ K=rkf (xv env x) d ⟨lvl,env,loc,out⟩ K:=by
 rw[Jg rfl]
 simp only[ew]
 generalize xv env x=v
 unfold rkf
 split
 ·rename_i id len s
  simp only[rkg]
  generalize (⟨lvl,env,loc,out⟩:St).sto id=o
  cases o with
  | none=>rfl
  | some ob =>
   cases ob with
   | bx=>rfl
   | ar k2 es u hw ver=>simp only[Zel]
 ·rename_i hv
  split
  ·exact(hv _ _ _ rfl).elim
  ·rfl
theorem ZzY{key len s:Nat}{t:Nat}:rkf (.hd (lvl,key) [] 0 len none s) (some t) ⟨lvl,env,loc,out⟩ K=(t*32≠key/\rkg (lkO key loc) len s (lvl,t*32) (some t) (Qh (lvl,key) (drp (lkO (t*32) loc) (lvl,t*32) ⟨lvl,env,loc,out⟩)) K):=by
 simp only[rkf,true_and,ZfH,keyOf]
 rw[show (⟨lvl,env,loc,out⟩:St).sto (lvl,key)=lkO key loc from YX,show (⟨lvl,env,loc,out⟩:St).sto (lvl,t*32)=lkO (t*32) loc from YX]
 congr 1
 simp
theorem ZzZ{len s k hw ver:Nat}{zs:Row}{u:Bool}{id0:Oid}:rkg (some (.ar k zs u hw ver)) len s id0 d st K=(s=hw/\len=zs.length/\Zie d (.hd id0 [] 0 len none s) (Zo st id0 (.ar k zs u hw ver)) K):=(rfl)
theorem Zse{K:List IV->St->Prop}:ZoZ [] st K=K [] st:=(rfl)
theorem Zsf{x:X}{r:List X}{K:List IV->St->Prop}:ZoZ (x::r) st K=ZsY (xv st.env x) st fun t st1=>ZoZ r st1 fun ts st2=>K (.ta t::ts) st2:=(rfl)
def Zz0(o:Option (List Tr×Bool))(F:List Tr->Prop):Prop :=
 match o with
 | some (ts,_)=>F ts
 | none=>False
def Zz1(o:Option Ob)(F:List Tr->Prop):Prop :=
 match o with
 | some (.bx cells)=>Zz0 (totrs cells) F
 | _=>False
theorem Zvg{ts:List Tr}{K:List Tr->St->Prop}:ZsY (.ta ts) st K=K ts st:=(rfl)
theorem Zvh{key:Nat}{K:List Tr->St->Prop}:ZsY (.ab (lvl,key) 0) ⟨lvl,env,loc,out⟩ K=Zz1 (lkO key loc) fun ts=>K ts (Qh (lvl,key) ⟨lvl,env,loc,out⟩):=by
 simp only[ZsY,true_and]
 rw[show (⟨lvl,env,loc,out⟩:St).sto (lvl,key)=lkO key loc from YX]
 generalize lkO key loc=o
 cases o with
 | none=>rfl
 | some ob =>
  cases ob with
  | ar=>rfl
  | bx cells =>
   simp only[Zz1]
   generalize totrs cells=q
   cases q <;> rfl
theorem Zvi{cells:List IV}{F:List Tr->Prop}:Zz1 (some (.bx cells)) F=Zz0 (totrs cells) F:=(rfl)
theorem Zvj{ts:List Tr}{q:Bool}{F:List Tr->Prop}:Zz0 (some (ts,q)) F=F ts:=(rfl)
theorem ZB7{f:Nat}{cs:List X}:op2 C d (.mz f cs) ⟨lvl,env,loc,out⟩ K=ZoZ cs ⟨lvl,env,loc,out⟩ fun l st1=>Zie d (.fn f l) st1 K:=by
 rw[Jg rfl]
 rfl
theorem Zsg{K:List Tr->St->Prop}:ZoT [] st K=K [] st:=(rfl)
theorem Zsh{x:IV}{r:List IV}{K:List Tr->St->Prop}:ZoT (x::r) st K=Zrc x st fun t st1=>ZoT r st1 fun ts st2=>K (t::ts) st2:=(rfl)
def ZAW(o:Option Ob)(len s:Nat)(F:Row->Prop):Prop :=
 match o with
 | some (.ar _ zs _ hw _)=>s=hw/\len=zs.length/\F zs
 | _=>False
theorem Zsi{t:Tr}{K:Tr->St->Prop}:Zrc (.tr t) st K=K t st:=(rfl)
theorem Zsj{es:Row}{K:Tr->St->Prop}:Zrc (.cs es) st K=K (.sl es) st:=(rfl)
theorem Zsk{key len s:Nat}{K:Tr->St->Prop}:Zrc (.hd (lvl,key) [] 0 len none s) ⟨lvl,env,loc,out⟩ K=ZAW (lkO key loc) len s fun zs=>K (.sl zs) (Qh (lvl,key) ⟨lvl,env,loc,out⟩):=by
 simp only[Zrc,true_and]
 rw[show (⟨lvl,env,loc,out⟩:St).sto (lvl,key)=lkO key loc from YX]
 generalize lkO key loc=o
 cases o with
 | none=>rfl
 | some ob=>cases ob <;> rfl
theorem Zvk{k len s hw ver:Nat}{zs:Row}{u:Bool}{F:Row->Prop}:ZAW (some (.ar k zs u hw ver)) len s F=(s=hw/\len=zs.length/\F zs):=(rfl)
def lzg(o:Option Ob)(off m:Nat)(d:Option Nat)(st:St)(K:St->Prop):Prop :=
 match o with
 | some (.bx cells)=>off+m<=cells.length/\ZoT ((cells.drop off).take m) st fun ts st1=>Zie d (.ag (ts.map .tr)) st1 K
 | _=>False
def lzf(v:IV)(m:Nat)(d:Option Nat)(st:St)(K:St->Prop):Prop :=
 match v with
 | .ab id off=>lzg (st.sto id) off m d st K
 | _=>False
theorem ZB8{m:Nat}:op2 C d (.lz m x) ⟨lvl,env,loc,out⟩ K=lzf (xv env x) m d ⟨lvl,env,loc,out⟩ K:=by
 rw[Jg rfl]
 simp only[ew]
 generalize xv env x=v
 cases v <;> rfl
theorem Zz2{key off m:Nat}:lzf (.ab (lvl,key) off) m d ⟨lvl,env,loc,out⟩ K=lzg (lkO key loc) off m d ⟨lvl,env,loc,out⟩ K:=by
 simp only[lzf]
 rw[show (⟨lvl,env,loc,out⟩:St).sto (lvl,key)=lkO key loc from YX]
theorem Zz3{cells:List IV}{off m:Nat}:lzg (some (.bx cells)) off m d st K=(off+m<=cells.length/\ZoT ((cells.drop off).take m) st fun ts st1=>Zie d (.ag (ts.map .tr)) st1 K):=(rfl)
def clg(o:Option Ob)(id:Oid)(off len s k:Nat)(d:Option Nat)(st:St)(K:St->Prop):Prop :=
 match o with
 | some (.ar k2 es u hw ver)=>k2=k/\s=hw/\off+len=es.length/\Zie d (.tu []) (Zo st id (.ar k2 (es.take off) u hw (ver+1))) K
 | _=>False
def clf(v:IV)(k:Nat)(d:Option Nat)(st:St)(K:St->Prop):Prop :=
 match v with
 | .hd id p off len _ s=>p=[]/\clg (st.sto id) id off len s k d st K
 | _=>False
theorem ZB9{k:Nat}{z:List Value}:op2 C d (.cl k z x) ⟨lvl,env,loc,out⟩ K=clf (xv env x) k d ⟨lvl,env,loc,out⟩ K:=by
 rw[Jg rfl]
 simp only[ew]
 generalize xv env x=v
 cases v <;> try rfl
 rename_i id p off len cap s
 simp only[clf,clg]
 generalize (⟨lvl,env,loc,out⟩:St).sto id=o
 cases o with
 | none=>simp
 | some ob =>
  cases ob with
  | bx=>simp
  | ar k2 es u hw ver=>simp only[Zel]
theorem Zz4{id:Oid}{off len s k:Nat}{cap:Option Nat}:clf (.hd id [] off len cap s) k d ⟨lvl,env,loc,out⟩ K=clg (ZF lvl loc out id) id off len s k d ⟨lvl,env,loc,out⟩ K:=by
 simp only[clf,true_and]
 rfl
theorem Zz5{id:Oid}{off len s k k2 hw ver:Nat}{es:Row}{u:Bool}:clg (some (.ar k2 es u hw ver)) id off len s k d st K=(k2=k/\s=hw/\off+len=es.length/\Zie d (.tu []) (Zo st id (.ar k2 (es.take off) u hw (ver+1))) K):=(rfl)
def srk(off len:Nat)(F:Row->Prop)(es:Row)(_u:Bool)(_v:Nat):Prop:=off+len<=es.length/\F (cut es off len)
theorem Zz6{off len:Nat}{F:Row->Prop}{es:Row}{u:Bool}{v:Nat}:srk off len F es u v=(off+len<=es.length/\F (cut es off len)):=(rfl)
theorem Zvl{zs:Row}{F:Row->Prop}:ZmI st (.tr (.sl zs)) F=F zs:=(rfl)
theorem Zvm{zs:Row}{F:Row->Prop}:ZmI st (.cs zs) F=F zs:=(rfl)
theorem Zvn{id:Oid}{p:Pth}{off len s:Nat}{cap:Option Nat}{F:Row->Prop}:ZmI ⟨lvl,env,loc,out⟩ (.hd id p off len cap s) F=rd3 (ZF lvl loc out id) p s (srk off len F):=by
 rw[<-Zab]
 rfl
def a3k(zs:Row)(k:Nat)(d:Option Nat)(st:St)(K:St->Prop)(items:Row):Prop :=
 items≠[]/\ScR items/\UnR k zs/\UnR k items/\zs.length+items.length<=bigN/\K ⟨st.lvl,ptd d (.tr (.sl (zs++items))) st.env,st.loc,st.out⟩
theorem Zz7{zs items:Row}{k:Nat}:a3k zs k d ⟨lvl,env,loc,out⟩ K items=(items≠[]/\ScR items/\UnR k zs/\UnR k items/\zs.length+items.length<=bigN/\K ⟨lvl,ptd d (.tr (.sl (zs++items))) env,loc,out⟩):=(rfl)
def a3f(vx vy:IV)(k:Nat)(d:Option Nat)(st:St)(K:St->Prop):Prop :=
 match vx with
 | .cs zs=>ZmI st vy (a3k zs k d st K)
 | _=>False
theorem Zz8{zs:Row}{vy:IV}{k:Nat}:a3f (.cs zs) vy k d st K=ZmI st vy (a3k zs k d st K):=(rfl)
theorem ZCa{k:Nat}{x y:X}:op2 C d (.a3 k x y) ⟨lvl,env,loc,out⟩ K=a3f (xv env x) (xv env y) k d ⟨lvl,env,loc,out⟩ K:=by
 rw[J2 rfl]
 simp only[ev]
 generalize xv env x=vx
 cases vx <;> try rfl
 rename_i zs
 have e:∀ items:Row,(items≠[]/\ScR items/\UnR k zs/\UnR k items/\zs.length+items.length<=bigN/\ZP (fun mk obs=>freshK (keyOf d) loc (obs lvl (keyOf d)).length/\K ⟨lvl,ptd d (mk lvl (keyOf d)) env,addO (keyOf d) (obs lvl (keyOf d)) loc,out⟩) (.tr (.sl (zs++items))))=a3k zs k d ⟨lvl,env,loc,out⟩ K items:=fun items=>by
  simp [a3k,ZP,freshK,addO]
 simp only[e]
 rfl
theorem ZCb{k:Nat}{x y:X}:op2 C d (.c0 k x y) ⟨lvl,env,loc,out⟩ K=op2 C d (.cy k x y) ⟨lvl,env,loc,out⟩ K:=by
 rw[Jg rfl,Jg rfl]
 exact propext ⟨ZkU,Zpj⟩
def cyk(es:Row)(u:Bool)(hw ver:Nat)(id:Oid)(off len k:Nat)(d:Option Nat)(st:St)(K:St->Prop)(zs:Row):Prop :=
 ScR zs/\UnR k zs/\Zie d (iI (min zs.length len:Nat)) (Zo st id (.ar k (es.take off++zs.take len++es.drop (off+min zs.length len)) u hw (ver+1))) K
theorem Zz9{es:Row}{u:Bool}{hw ver:Nat}{id:Oid}{off len k:Nat}{zs:Row}:cyk es u hw ver id off len k d st K zs=(ScR zs/\UnR k zs/\Zie d (iI (min zs.length len:Nat)) (Zo st id (.ar k (es.take off++zs.take len++es.drop (off+min zs.length len)) u hw (ver+1))) K):=(rfl)
def cyg(o:Option Ob)(id:Oid)(off len s k:Nat)(v:IV)(d:Option Nat)(st:St)(K:St->Prop):Prop :=
 match o with
 | some (.ar k2 es u hw ver)=>k2=k/\s=hw/\off+len<=es.length/\ScR es/\ZmI st v (cyk es u hw ver id off len k d st K)
 | _=>False
def cyf(x v:IV)(k:Nat)(d:Option Nat)(st:St)(K:St->Prop):Prop :=
 match x with
 | .hd id p off len _ s=>p=[]/\cyg (st.sto id) id off len s k v d st K
 | _=>False
theorem ZCc{k:Nat}:op2 C d (.cy k x y) ⟨lvl,env,loc,out⟩ K=cyf (xv env x) (xv env y) k d ⟨lvl,env,loc,out⟩ K:=by
 rw[Jg rfl]
 simp only[ew]
 generalize xv env x=v
 cases v <;> try rfl
 rename_i id p off len cap s
 simp only[cyf,cyg]
 generalize (⟨lvl,env,loc,out⟩:St).sto id=o
 cases o with
 | none=>simp
 | some ob =>
  cases ob with
  | bx=>simp
  | ar k2 es u hw ver =>
   dsimp only
   by_cases hk:k2=k
   ·subst hk
    have:(fun zs=>ScR zs/\UnR k2 zs/\K { Zo ⟨lvl,env,loc,out⟩ id (.ar k2 (es.take off++zs.take len++es.drop (off+min zs.length len)) u hw (ver+1)) with env:=ptd d (iI (min zs.length len:Nat)) env })=cyk es u hw ver id off len k2 d ⟨lvl,env,loc,out⟩ K:=by
     funext zs
     simp only[cyk,Zel]
    rw[this]
   ·simp [hk]
theorem ZAa{id:Oid}{off len s k:Nat}{cap:Option Nat}{v:IV}:cyf (.hd id [] off len cap s) v k d ⟨lvl,env,loc,out⟩ K=cyg (ZF lvl loc out id) id off len s k v d ⟨lvl,env,loc,out⟩ K:=by
 simp only[cyf,true_and]
 rfl
theorem ZAb{id:Oid}{off len s k k2 hw ver:Nat}{es:Row}{u:Bool}{v:IV}:cyg (some (.ar k2 es u hw ver)) id off len s k v d st K=(k2=k/\s=hw/\off+len<=es.length/\ScR es/\ZmI st v (cyk es u hw ver id off len k d st K)):=(rfl)
end row
theorem Zvo{α:Type}{F:α->Prop}:op3 none F=False:=(rfl)
end
abbrev tv(n:Int):Tr:=.v (.int .i64 n)
abbrev ts(s:ByteArray):Tr:=.v (.string s)
abbrev rI(l:List Int):Row:=l.map fun n=>[tv n]
abbrev tI(l:List Int):IV:=.tr (.sl (rI l))
abbrev rS(l:List ByteArray):Row:=l.map fun n=>[ts n]
abbrev tS(l:List ByteArray):IV:=.tr (.sl (rS l))
theorem Zd(n:Int):Xt .i64 n=(-9223372036854775808<=n/\n<=9223372036854775807):=by
 simp [Xt,IntKind.min,IntKind.max,IntKind.signed,IntKind.bits]
theorem Zby{α:Type}{k:Nat}(f:α->List Tr)(h:∀ x,(f x).length=k)(l:List α):UnR k (l.map f):=by
 intro e he
 obtain⟨x,_,rfl⟩:=List.mem_map.1 he
 exact h x
end Go.Fd

namespace Go.Fd
def In(w:World)(b:Nat):Prop:=b<w.heap.size
def Zsl(w:World)(cs:List Value)(ts:List Tr):Prop:=∀(j:Nat)(v:Value)(t:Tr),cs[j]? = some v->ts[j]? = some t->Rds w (In w) v t
def DP(P:Program)(t:TypeId){α:Type}(c:α->List Tr)(Q:α->Prop):Prop :=
 ∀(H:Type) (enc:TypeId×Value->H) (w:World) (sp:Nat->Bool) (hd:Bool) (fuel:Nat) (cs:List Value) (x:DataW H×List MemPlace),
  DataW.trod enc P w 0 sp hd fuel t cs=some x->∃ y,Q y/\Zsl w cs (c y)
theorem Zb0{w:World}{v:Value}{t:Tr}(h:Rds w (In w) v t):Zsl w [v] [t]:=fun j v' t' h1 h2=>by
 match j with
 | 0=>simp at h1 h2;subst h1;subst h2;exact h
 | j+1=>simp at h1
theorem Znn{P:Program}{t:TypeId}(ht:P.underlying t=some (.int .i64)):DP P t (fun n:Int=>[tv n]) (Xt .i64):=by
 intro H enc w sp hd fuel cs x h
 obtain⟨n,rfl,_,hw⟩:=DataW.trod_int ht h
 exact⟨n,by simpa [Lit.wf,Xt] using hw,Zb0 (.v _ rfl)⟩
theorem ZiC{P:Program}{t:TypeId}(ht:P.underlying t=some .string):DP P t (fun n:ByteArray=>[ts n]) (fun n=>n.size<=9223372036854775807):=by
 intro H enc w sp hd fuel cs x h
 obtain⟨n,rfl,_,hw⟩:=DataW.trod_string ht h
 exact⟨n,hw,Zb0 (.v _ rfl)⟩
theorem Zsm{w:World}{a:Addr}{v:Value}(h:w.cell? a=some v):a.block<w.heap.size:=by
 unfold World.cell? at h
 cases hh:w.heap[a.block]? with
 | none=>rw[hh] at h;cases h
 | some o=>exact(Array.getElem?_eq_some_iff.1 hh).1
theorem Zj0{α:Type}(n:Nat)(R:Nat->α->Prop)(h:∀ i,i<n->∃ y,R i y):∃ l:List α,l.length=n/\∀ i y,l[i]? = some y->R i y:=by
 induction n with
 | zero=>exact⟨[],rfl,fun i y h=>by simp at h⟩
 | succ n ih =>
  obtain⟨l,hl,hr⟩:=ih (fun i hi=>h i (by omega))
  obtain⟨y,hy⟩:=h n (by omega)
  refine⟨l++[y],by simp [hl],fun i z hz=>?_⟩
  by_cases hi:i<n
  ·rw[List.getElem?_append_left (by omega)] at hz;exact hr i z hz
  ·have hlt:=(List.getElem?_eq_some_iff.1 hz).1
   simp only[List.length_append,List.length_singleton] at hlt
   have:i=n:=by omega
   subst this
   rw[List.getElem?_append_right (by omega),hl,Nat.sub_self] at hz
   simp at hz
   exact hz ▸ hy
theorem Zbz{P:Program}{t e:TypeId}{k:Nat}{α:Type}{c:α->List Tr}{Q:α->Prop}(ht:P.underlying t=some (.slice e))(hk:P.cellsOf e=k+1)(hc:∀ x,(c x).length=k+1)
  (he:DP P e c Q):DP P t (fun l:List α=>[.sl (l.map c)]) (fun l=>l.length<=9223372036854775807/\∀ x∈l,Q x):=by
 intro H enc w sp hd fuel cs x h
 rcases DataW.trod_slice ht h with ⟨rfl,_⟩ | ⟨a,len,cap,elems,rest,n,_,rfl,_,_,hl,hm,hlen,hel,_,_⟩
 ·exact⟨[],⟨by simp,by simp⟩,Zb0 (.nil none 0)⟩
 ·have each:∀ i,i<len->∃ y,Q y/\∀ j t,(c y)[j]? = some t->∃ v,w.cell? (a.add (i*(k+1)+j))=some v/\Rds w (In w) v t:=fun i hi=>by
   have h1:=hel i hi
   rw[hk] at h1
   obtain⟨z,hz⟩:∃ z,elems[i]? = some z:=⟨elems[i]'(by omega),List.getElem?_eq_getElem _⟩
   rw[hz,Option.bind_eq_some_iff] at h1
   obtain⟨row,hrow,hx⟩:=h1
   obtain⟨y,hy,hr⟩:=he H enc w sp hd n row z hx
   obtain⟨_,hrl,hg⟩:=World.cells?_some hrow
   refine⟨y,hy,fun j t hj=>?_⟩
   have hjk:j<k+1:=by rw[<-hc y];exact(List.getElem?_eq_some_iff.1 hj).1
   have hv:row[j]? = some (row[j]'(by omega)):=List.getElem?_eq_getElem _
   have:=hg j hjk
   rw[hv] at this
   have e2:(a.add (i*(k+1))).add j=a.add (i*(k+1)+j):=by
    unfold Addr.add
    by_cases h0:i*(k+1)=0
    ·simp [h0]
    ·by_cases h1:j=0
     ·simp [h1,h0]
     ·have h2:¬ (i*(k+1)+j=0):=by omega
      simp only[if_neg h0,if_neg h1,if_neg h2,Addr.mk.injEq,and_true,true_and]
      omega
   rw[e2] at this
   exact⟨_,this,hr j _ t hv hj⟩
  obtain⟨l,hll,hlr⟩:=Zj0 len _ each
  refine⟨l,⟨?_,fun y hy=>?_⟩,Zb0 ?_⟩
  ·rw[hll];exact Nat.le_trans hl hm
  ·obtain⟨i,hi⟩:=List.getElem?_of_mem hy
   exact(hlr i y hi).1
  ·by_cases h0:len=0
   ·have:l=[]:=List.eq_nil_of_length_eq_zero (by omega)
    subst this;subst h0
    exact .nil _ _
   ·obtain⟨y0,hy0⟩:∃ y0,l[0]? = some y0:=⟨l[0]'(by omega),List.getElem?_eq_getElem _⟩
    obtain⟨t0,ht0⟩:∃ t0,(c y0)[0]? = some t0:=⟨(c y0)[0]'(by rw[hc];omega),List.getElem?_eq_getElem _⟩
    obtain⟨v0,hv0,_⟩:=(hlr 0 y0 hy0).2 0 t0 ht0
    obtain⟨b,o,s⟩:=a
    have hs:s=none:=by simpa [Addr.add] using World.cell?_spot hv0
    subst hs
    have hb:b<w.heap.size:=by simpa [Addr.add] using Zsm hv0
    have hel2:∀ i e j t,(l.map c)[i]? = some e->e[j]? = some t->∃ v,w.cell? ⟨b,o+i*(k+1)+j,none⟩=some v/\Rds w (In w) v t:=fun i e j t h1 h2=>by
     rw[List.getElem?_map,Option.map_eq_some_iff] at h1
     obtain⟨y,hy,rfl⟩:=h1
     obtain⟨v,hv,hr⟩:=(hlr i y hy).2 j t h2
     refine⟨v,?_,hr⟩
     rw[<-hv]
     congr 1
     unfold Addr.add
     by_cases h0:i*(k+1)+j=0
     ·have:o+i*(k+1)+j=o:=by omega
      rw[if_pos h0,this]
     ·rw[if_neg h0]
      have:o+i*(k+1)+j=o+(i*(k+1)+j):=by omega
      simp only[this]
    have hlm:(l.map c).length=len:=by simpa using hll
    have:=Rds.sl (w:=w) (A:=In w) b o cap (k+1) (l.map c) (fun i j=>(w.cell? ⟨b,o+i*(k+1)+j,none⟩).getD .nilFunc) hb
     (fun e he=>by simp only[List.mem_map] at he;obtain⟨y,_,rfl⟩:=he;exact hc y) (by omega)
     (fun i e j t h1 h2=>by obtain⟨v,hv,_⟩:=hel2 i e j t h1 h2;rw[hv];rfl)
     (fun i e j t h1 h2=>by obtain⟨v,hv,hr⟩:=hel2 i e j t h1 h2;rw[hv];exact hr)
    rw[hlm] at this
    exact this
def Zgs(P:Program)(o:Nat)(l:List (Nat×TypeId)){α:Type}(c:α->List Tr)(Q:α->Prop):Prop :=
 ∀(H:Type) (enc:TypeId×Value->H) (w:World) (sp:Nat->Bool) (hd:Bool) (fuel:Nat) (cs:List Value),
  (∀ p∈l,∃ x,DataW.trod enc P w 0 sp hd fuel p.2 ((cs.drop p.1).take (P.cellsOf p.2))=some x)->∃ y,Q y/\Zsl w (cs.drop o) (c y)
theorem Zgt{P:Program}{o:Nat}:Zgs P o [](fun _:Unit=>[]) (fun _=>True):=fun H enc w sp hd fuel cs _=>⟨(),trivial,fun j v t _ h=>by simp at h⟩
theorem Qq{P:Program}{o k:Nat}{t:TypeId}{l:List (Nat×TypeId)}{α β:Type}{c:α->List Tr}{Q:α->Prop}{c2:β->List Tr}{Q2:β->Prop}
  (hk:P.cellsOf t=k) (hc:∀ x,(c x).length=k) (h1:DP P t c Q) (h2:Zgs P (o+k) l c2 Q2) :
  Zgs P o ((o,t)::l) (fun p:α×β=>c p.1++c2 p.2) (fun p=>Q p.1/\Q2 p.2):=fun H enc w sp hd fuel cs h=>by
 obtain⟨x,hx⟩:=h (o,t) (by simp)
 obtain⟨y,hy,hr⟩:=h1 _ _ _ _ _ _ _ _ hx
 obtain⟨y2,hy2,hr2⟩:=h2 H enc w sp hd fuel cs (fun p hp=>h p (by simp [hp]))
 refine⟨(y,y2),⟨hy,hy2⟩,fun j v t' hv ht=>?_⟩
 by_cases hj:j<k
 ·rw[List.getElem?_append_left (by rw[hc];exact hj)] at ht
  refine hr j v t' ?_ ht
  rw[hk,List.getElem?_take_of_lt hj]
  exact hv
 ·rw[List.getElem?_append_right (by rw[hc];omega),hc] at ht
  refine hr2 (j-k) v t' ?_ ht
  rw[List.getElem?_drop] at hv ⊢
  rw[<-hv]
  congr 1
  omega
theorem ZdA{P:Program}{t:TypeId}{fs:Array Field}{α:Type}{c:α->List Tr}{Q:α->Prop}(ht:P.underlying t=some (.struct fs))(h:Zgs P 0 (fs.toList.map fun f=>(f.offset,f.type)) c Q):DP P t c Q:=by
 intro H enc w sp hd fuel cs x hx
 obtain⟨xs,n,_,_,_,hl,hf⟩:=DataW.trod_struct ht hx
 have:=h H enc w sp hd n cs (fun p hp=>by
  simp only[List.mem_map] at hp
  obtain⟨f,hf1,rfl⟩:=hp
  obtain⟨i,hi⟩:=List.getElem?_of_mem hf1
  have hi':fs[i]? = some f:=by simpa using hi
  have hlt:i<xs.length:=by rw[hl];exact(Array.getElem?_eq_some_iff.1 hi').1
  exact⟨_,(hf i f hi').trans (List.getElem?_eq_getElem hlt)⟩)
 simpa using this
theorem Zno{P:Program}{t:TypeId}{α β:Type}{c:α->List Tr}{Q:α->Prop}{c2:β->List Tr}{Q2:β->Prop}(g:α->β)(hg:∀ x,c2 (g x)=c x)(hq:∀ x,Q x->Q2 (g x))(h:DP P t c Q):DP P t c2 Q2:=by
 intro H enc w sp hd fuel cs x hx
 obtain⟨y,hy,hr⟩:=h H enc w sp hd fuel cs x hx
 exact⟨g y,hq y hy,by rw[hg];exact hr⟩
theorem Zk4{P:Program}{t:TypeId}{α β:Type}{c:α->List Tr}{Q:α->Prop}{c2:β->List Tr}{Q2:β->Prop}(h:DP P t c Q)(g:α->β)(hg:∀ x,c2 (g x)=c x)(hq:∀ x,Q x->Q2 (g x)):DP P t c2 Q2:=Zno g hg hq h
end Go.Fd

namespace Go.Fd
open Go.RowKit
def G0:Gh:=fun _ _=>none
def S0:Sto:=fun _=>none
theorem Av0{w:World}{b:Nat}(h:In w b):Av G0 S0 w b:=⟨h,fun id ob hs=>by cases hs⟩
theorem ZiD{P:Program}{f:FuncId}{args:List IV}{b:Bool}{w:World}{vs:List Value}(h:Sem P f 0 args S0 (iB b) S0)(hv:VRs G0 S0 w args vs) :
  Calls P f vs.toArray w fun e w' => e = .returned (.bool b)/\Below w.heap.size w w':=by
 obtain⟨_,_,h⟩:=h
 refine(h (fun id ob hs=>by cases hs) G0 w vs ⟨fun id ob hs=>(nomatch hs),fun id ob id2 ob2 b2 hs=>(nomatch hs),fun id cells hs=>(nomatch hs)⟩ hv).mono ?_
 rintro e w' ⟨v,G',rfl,_,hr,_,hf⟩
 have hr':Rds w' (Av G' (V1 S0 0 0 (impv true 0 0 0 (iB b)).2) w') v (.v (.bool b)):=hr
 cases hr' with
 | v x hx =>
  exact⟨rfl,hf.os,hf.tape,hf.output,hf.size,fun k hk=>hf.old k hk (fun id ob hs=>by cases hs)⟩
theorem Znp{P:Program}{w:World}{r:Reach}{base:Nat}{t e:TypeId}{v:Value}(ht:P.underlying t=some (.slice e))(h:Value.okWide P w r base t v):v.cells.toList=[v]:=by
 unfold Value.okWide at h
 rw[ht] at h
 simp only[Cell.okWide,ht,Cell.ok] at h
 cases v <;> first | rfl | exact absurd h (by simp)
section
variable {H:Type} {enc:TypeId×Value->H} {P:Program} {w:World} {t:TypeId} {v:Value} {d:DataW H} {p:List MemPlace} {α:Type} {c:α->List Tr} {Q:α->Prop} {sp:Nat->Bool} {hd:Bool} {base:Nat}
theorem Zk5{e:TypeId}{g:α->Tr}(hr:DP P t (fun x=>[g x]) Q)(ht:P.underlying t=some (.slice e))(hok:Value.okWide P w .any base t v)(h:DataW.Trod enc P w 0 sp hd t v d p) :
  ∃ y,Q y/\VR G0 S0 w (.tr (g y)) v:=by
 obtain⟨n,hn⟩:=h
 rw[Znp ht hok] at hn
 obtain⟨y,hy,hrow⟩:=hr H enc w sp hd n _ _ hn
 refine⟨y,hy,?_⟩
 simp only[VR]
 exact Rds.mono (fun b=>Av0) (fun b _=>rfl) (hrow 0 v _ rfl rfl)
end
theorem Zhe{H:Type}{enc:TypeId×Value->H}{P:Program}{f:Func}{s:ChangeSpec}{apart:Bool}{W W':World}{args:Array Value}{v:Value}{ds gs:List (DataW H)}{before pa pv:List MemPlace}
  (hW:DataW.Whole enc P f.params.toList s.vars apart W args.toList ds gs before) (hb:Below W.heap.size W W')
  (hres:DataW.TrodAll enc P W' W.heap.size (fun _=>false) false f.resultTypes.toList (v.resultList f.resultTypes.size) (s.fn H (ds++gs)).results [])
  (hargs:DataW.TrodAll enc P W' 0 (fun b=>decide (b<W.heap.size)) true f.params.toList args.toList (s.fn H (ds++gs)).args pa)
  (hvars:DataW.TrodVars enc P W' (fun b=>decide (b<W.heap.size)) s.vars (s.fn H (ds++gs)).vars pv) :
  s.post enc P f apart true false false W args v W' :=
 ⟨ds,gs,before,[],pa,pv,hW,hres,hargs,hvars,hb.frame _,fun h=>by cases h⟩
end Go.Fd

namespace Go.Fd
open Go.RowKit
theorem ZiE{w w':World}(h:Below w.heap.size w w'):Ext w w':=⟨h.size,h.block,h.os,h.tape,h.output⟩
theorem Zk6{G:Gh}{S:Sto}{w:World}:∀{xs vs:List Value},VRs G S w (xs.map fun v=>.tr (.v v)) vs->vs=xs
 | [],vs,h=>by simpa [VRs] using h
 | x::r,vs,h=>by
  simp only[List.map_cons,VRs] at h
  obtain⟨v,vr,rfl,h1,h2⟩:=h
  rw[Zk6 h2]
  have h1':Rds w (Av G S w) v (.v x):=h1
  cases h1'
  rfl
theorem ZlX{P:Program}{f:FuncId}{lvl:Nat}{S:Sto}{args:List IV}{r:IV}(hc:ZaI P f)(hi:impv true lvl 0 0 r=(r,[]))(hlow:low lvl r)
  (h:(∀ id ob,S id=some ob->id.1<lvl)->∀ G w vs,SOk G S w->VRs G S w args vs->Calls P f vs.toArray w fun e w' => ∃ v,e = .returned v/\VR G S w' r v/\Below w.heap.size w w'):Sem P f lvl args S r S:=by
 refine⟨hlow,hc,fun hS G w vs hok hv=>?_⟩
 refine(h hS G w vs hok hv).mono ?_
 rintro e w' ⟨v,rfl,hr,hb⟩
 rw[hi]
 have e:Ext w w':=ZiE hb
 exact⟨v,G,rfl,hok.ext e,hr,hS,Frm.of_ext e⟩
theorem Zj1{P:Program}{f:FuncId}{lvl:Nat}{S:Sto}{xs:List Value}{y:Value}(hc:ZaI P f)(hy:DT y=true)
  (h:∀ w,Calls P f xs.toArray w fun e w' => e = .returned y/\Below w.heap.size w w'):Sem P f lvl (xs.map fun v=>.tr (.v v)) S (.tr (.v y)) S:=by
 refine ZlX hc rfl trivial fun _ G w vs _ hv=>?_
 rw[Zk6 hv]
 exact(h w).mono fun e w' ⟨h1,h2⟩=>⟨y,h1,.v y hy,h2⟩
end Go.Fd

namespace Go.Fd
def DQ:Row->Pth->Row->Row
 | _,[],r=>r
 | es,(a,b)::p,r =>
  match es[a]? with
  | some e =>
   match e[b]? with
   | some (.sl es')=>es.set a (e.set b (.sl (DQ es' p r)))
   | _=>es
  | none=>es
theorem Zc5{es es':Row}{a b:Nat}{p:Pth}{e:List Tr}(h1:es[a]? = some e)(h2:e[b]? = some (.sl es')):getp es ((a,b)::p)=getp es' p:=by
 simp only[getp,h1,h2]
theorem V5{es es':Row}{a b:Nat}{p:Pth}{e:List Tr}{r:Row}(h1:es[a]? = some e)(h2:e[b]? = some (.sl es')):DQ es ((a,b)::p) r=es.set a (e.set b (.sl (DQ es' p r))):=by
 simp only[DQ,h1,h2]
theorem ZlY{es es':Row}{a b i f:Nat}{p:Pth}{e:List Tr}{t:Tr}(h1:es[a]? = some e)(h2:e[b]? = some (.sl es')):YK es ((a,b)::p) i f t=es.set a (e.set b (.sl (YK es' p i f t))):=by
 simp only[YK,h1,h2]
theorem ZaO{es r0:Row}{a b:Nat}{p:Pth}(h:getp es ((a,b)::p)=some r0):∃ e es',es[a]? = some e/\e[b]? = some (.sl es')/\getp es' p=some r0:=by
 simp only[getp] at h
 cases h1:es[a]? with
 | none=>rw[h1] at h;cases h
 | some e =>
  rw[h1] at h
  cases h2:e[b]? with
  | none=>simp only[h2] at h;cases h
  | some t =>
   simp only[h2] at h
   cases t with
   | v x=>cases h
   | sl es' => exact⟨e,es',rfl,h2,h⟩
theorem ZaP{α:Type}{l:List α}{a:Nat}{x y:α}(h:l[a]? = some x):(l.set a y)[a]? = some y:=by
 rw[List.getElem?_set_self];exact(List.getElem?_eq_some_iff.1 h).1
theorem UQ{r:Row}:∀{p:Pth}{es r0:Row},getp es p=some r0->getp (DQ es p r) p=some r
 | [],_,_,_=>rfl
 | (a,b)::p,es,r0,h=>by
  obtain⟨e,es',h1,h2,h3⟩:=ZaO h
  rw[V5 h1 h2,Zc5 (ZaP h1) (ZaP h2)]
  exact UQ h3
theorem ZiF{r s:Row}:∀{p:Pth}{es r0:Row},getp es p=some r0->DQ (DQ es p r) p s=DQ es p s
 | [],_,_,_=>rfl
 | (a,b)::p,es,r0,h=>by
  obtain⟨e,es',h1,h2,h3⟩:=ZaO h
  rw[V5 h1 h2,V5 h1 h2,V5 (ZaP h1) (ZaP h2),ZiF h3,List.set_set,List.set_set]
theorem ZiG{r:Row}{i f:Nat}{t:Tr}{e0:List Tr}(hi:r[i]? = some e0):∀{p:Pth}{es r0:Row},getp es p=some r0->YK (DQ es p r) p i f t=DQ es p (r.set i (e0.set f t))
 | [],es,_,_=>by simp only[DQ,YK,hi]
 | (a,b)::p,es,r0,h=>by
  obtain⟨e,es',h1,h2,h3⟩:=ZaO h
  rw[V5 h1 h2,V5 h1 h2,ZlY (ZaP h1) (ZaP h2),ZiG hi h3,List.set_set,List.set_set]
theorem ZiH{q:Pth}:∀{p:Pth}{es r0:Row},getp es p=some r0->getp es (p++q)=getp r0 q
 | [],es,r0,h=>by simp only[getp,Option.some.injEq] at h;subst h;rfl
 | (a,b)::p,es,r0,h=>by
  obtain⟨e,es',h1,h2,h3⟩:=ZaO h
  rw[List.cons_append,Zc5 h1 h2]
  exact ZiH h3
theorem Zk7{q:Pth}{z:Row}:∀{p:Pth}{es r0:Row},getp es p=some r0->DQ es (p++q) z=DQ es p (DQ r0 q z)
 | [],es,r0,h=>by simp only[getp,Option.some.injEq] at h;subst h;rfl
 | (a,b)::p,es,r0,h=>by
  obtain⟨e,es',h1,h2,h3⟩:=ZaO h
  rw[List.cons_append,V5 h1 h2,V5 h1 h2,Zk7 h3]
theorem Zhf{α:Type}{l:List α}{a:Nat}{x:α}(h:l[a]? = some x):l.set a x=l:=by
 obtain⟨h1,h2⟩:=List.getElem?_eq_some_iff.1 h
 rw[<-h2,List.set_getElem_self]
theorem ZiI:∀{p:Pth}{es r:Row},getp es p=some r->DQ es p r=es
 | [],es,r,h=>by simp only[getp,Option.some.injEq] at h;subst h;rfl
 | (a,b)::p,es,r,h=>by
  obtain⟨e,es',h1,h2,h3⟩:=ZaO h
  rw[V5 h1 h2,ZiI h3,Zhf h2,Zhf h1]
theorem YC{S:Sto}{id:Oid}{a b:Ob}:ZT (ZT S id a) id b=ZT S id b:=by
 funext i
 unfold ZT
 split <;> rfl
theorem QY{S:Sto}{id:Oid}{a:Ob}(h:S id=some a):ZT S id a=S:=by
 funext i
 unfold ZT
 split
 ·rename_i e;rw[e,h]
 ·rfl
theorem Wz{lvl:Nat}{loc:List (Nat×Ob)}{S:Sto}{id:Oid}{o:Ob}(h:id.1≠lvl):ZF lvl loc (ZT S id o)=ZT (ZF lvl loc S) id o:=by
 funext i
 by_cases e:i=id
 ·subst e
  rw[Jp h]
  unfold ZT
  rw[if_pos rfl,if_pos rfl]
 ·unfold ZT ZF
  simp only[if_neg e]
section mark
variable {α:Type} (m:α->Int->α) (n:α->Nat)
def mL:List α->Int->List α
 | [],_=>[]
 | x::r,k=>m x k::mL r (k+n x)
def nL:List α->Nat
 | []=>0
 | x::r=>n x+nL r
theorem XV:∀(a:List α)(k:Int),(mL m n a k).length=a.length
 | [],_=>rfl
 | x::r,k=>by simp only[mL,List.length_cons,XV r]
theorem ZeS:∀(a b:List α),nL n (a++b)=nL n a+nL n b
 | [],b=>by simp [nL]
 | x::r,b=>by simp only[List.cons_append,nL,ZeS r b];omega
theorem ZiJ:∀(a b:List α)(k:Int),mL m n (a++b) k=mL m n a k++mL m n b (k+nL n a)
 | [],b,k=>by simp [mL,nL]
 | x::r,b,k=>by
  simp only[List.cons_append,mL,nL,ZiJ r b]
  rw[show k+(n x:Int)+(nL n r:Int)=k+((n x+nL n r:Nat):Int) from by omega]
def kJ(a:List α)(k:Int)(j:Nat):Int:=k+nL n (a.take j)
def lJ(a:List α)(k:Int)(j:Nat):List α:=mL m n (a.take j) k++a.drop j
theorem ZeT{a:List α}{k:Int}:kJ n a k 0=k:=by simp [kJ,nL]
theorem Zhg{a:List α}{k:Int}:lJ m n a k 0=a:=by simp [lJ,mL]
theorem ZiK{a:List α}{k:Int}:kJ n a k a.length=k+nL n a:=by simp [kJ]
theorem Zk8{a:List α}{k:Int}:lJ m n a k a.length=mL m n a k:=by simp [lJ]
theorem Uv{a:List α}{k:Int}{j:Nat}(h:j<a.length):kJ n a k (j+1)=kJ n a k j+n a[j]:=by
 unfold kJ
 rw[List.take_succ_eq_append_getElem h,ZeS]
 simp only[nL]
 omega
theorem Znq{a:List α}{k:Int}{j:Nat}:kJ n a k j<=k+nL n a:=by
 have:nL n a=nL n (a.take j)+nL n (a.drop j):=by rw[<-ZeS,List.take_append_drop]
 unfold kJ
 omega
theorem Znr{a:List α}{k:Int}{j:Nat}:k<=kJ n a k j:=by unfold kJ;omega
theorem Zvp{a:List α}{k:Int}{j:Nat}:(lJ m n a k j).length=a.length:=by
 unfold lJ
 rw[List.length_append,XV,List.length_take,List.length_drop]
 omega
theorem Zvq{a:List α}{k:Int}{j:Nat}(h:j<a.length):(lJ m n a k j)[j]? = some a[j]:=by
 unfold lJ
 have h1:(mL m n (a.take j) k).length=j:=by rw[XV,List.length_take];omega
 rw[List.getElem?_append_right (by omega),h1,Nat.sub_self,List.getElem?_drop,Nat.add_zero,List.getElem?_eq_getElem h]
theorem Zvr{a:List α}{k:Int}{j:Nat}(h:j<a.length):(lJ m n a k j).set j (m a[j] (kJ n a k j))=lJ m n a k (j+1):=by
 unfold lJ
 have h1:(mL m n (a.take j) k).length=j:=by rw[XV,List.length_take];omega
 rw[List.set_append_right _ _ (by omega),h1,Nat.sub_self,List.drop_eq_getElem_cons h,List.set_cons_zero,List.take_succ_eq_append_getElem h,ZiJ]
 simp only[mL,kJ,List.append_assoc,List.cons_append,List.nil_append]
theorem Zk9(c:α->List Tr){a:List α}{k:Int}{j:Nat}(h:j<a.length):∃ R:Row,j<R.length/\(lJ m n a k j).map c=R.set j (c a[j])/\(lJ m n a k (j+1)).map c=R.set j (c (m a[j] (kJ n a k j))):=by
 refine⟨(lJ m n a k j).map c,by rw[List.length_map,Zvp];exact h,?_,?_⟩
 ·refine(Zhf ?_).symm
  rw[List.getElem?_map,Zvq m n h];rfl
 ·rw[<-Zvr m n h,List.map_set]
end mark
theorem ZaQ{R:Row}{j:Nat}(h:j<R.length)(e:List Tr):(R.set j e)[j]? = some e:=List.getElem?_set_self h
theorem Zb1{es r0:Row}{p:Pth}{R:Row}{j:Nat}(hv:getp es p=some r0)(h:j<R.length)(e:List Tr)(f:Nat)(t:Tr):YK (DQ es p (R.set j e)) p j f t=DQ es p (R.set j (e.set f t)):=by
 rw[ZiG (ZaQ h e) hv,List.set_set]
def MarkS(P:Program)(fid:FuncId){α:Type}(c:α->List Tr)(m:α->Int->α)(n:α->Nat)(B:α->Prop):Prop :=
 ∀(a:List α) (k:Int) (lvl:Nat) (S:Sto) (id:Oid) (p:Pth) (es r0:Row) (kk hw ver st:Nat) (cap:Option Nat),id.1<lvl->getp es p=some r0->Xs p st hw ver true->0<=k->k+nL n a<=4611686018427387904 ->
  a.length<=4294967296->(∀ x∈a,B x)->Sem P fid lvl [.hd id p 0 a.length cap st,iI k] (ZT S id (.ar kk (DQ es p (a.map c)) true hw ver)) (iI (k+nL n a)) (ZT S id (.ar kk (DQ es p ((mL m n a k).map c)) true hw ver))
theorem MarkS.nested{P:Program}{fid:FuncId}{α:Type}{c:α->List Tr}{m:α->Int->α}{n:α->Nat}{B:α->Prop}(hm:MarkS P fid c m n B){a:List α}{k:Int}{lvl:Nat}{S:Sto}{id:Oid}{p:Pth}{es r0:Row}{kk hw ver j f:Nat}{R:Row}{e:List Tr}
  (hid:id.1<lvl) (hv:getp es p=some r0) (h0:0<=k) (h1:k+nL n a<=4611686018427387904) (hl:a.length<=4294967296) (hB:∀ x∈a,B x) (hj:j<R.length) (he:e[f]? = some (.sl (a.map c))) :
  Sem P fid lvl [.hd id (p++[(j,f)]) 0 a.length none ver,iI k] (ZT S id (.ar kk (DQ es p (R.set j e)) true hw ver)) (iI (k+nL n a)) (ZT S id (.ar kk (DQ es p (R.set j (e.set f (.sl ((mL m n a k).map c))))) true hw ver)):=by
 have hR:(R.set j e)[j]? = some e:=by rw[List.getElem?_set_self hj]
 have g1:getp (DQ es p (R.set j e)) p=some (R.set j e):=UQ hv
 have g2:getp (DQ es p (R.set j e)) (p++[(j,f)])=some (a.map c):=by
  rw[ZiH g1,Zc5 hR he];rfl
 have:=hm a k lvl S id (p++[(j,f)]) (DQ es p (R.set j e)) _ kk hw ver ver none hid g2 (by cases p <;> exact⟨rfl,rfl⟩) h0 h1 hl hB
 rw[ZiI g2,Zk7 g1,ZiF hv,V5 hR he] at this
 simp only[DQ,List.set_set] at this
 exact this
theorem ZpH{P:Program}{fid:FuncId}{α:Type}{c:α->List Tr}{m:α->Int->α}{n:α->Nat}{B:α->Prop}(hm:MarkS P fid c m n B){a:List α}{k:Int}{lvl len:Nat}{S:Sto}{id:Oid}{p:Pth}{es r0:Row}{kk hw ver j f:Nat}{R:Row}{e:List Tr}{env:List (Nat×IV)}{loc:List (Nat×Ob)}{d:Option Nat}{K:St->Prop}
  (hid:id.1<lvl) (hv:getp es p=some r0) (h0:0<=k) (h1:k+nL n a<=4611686018427387904) (hl:a.length<=4294967296) (hB:∀ x∈a,B x) (hj:j<R.length) (he:e[f]? = some (.sl (a.map c))) (hlen:len=a.length)
  (hk:K ⟨lvl,ptd d (iI (k+nL n a)) env,loc,ZT S id (.ar kk (DQ es p (R.set j (e.set f (.sl ((mL m n a k).map c))))) true hw ver)⟩) :
  kcy (Sem P) fid true lvl env loc (ZT S id (.ar kk (DQ es p (R.set j e)) true hw ver)) d K [.hd id (p++[(j,f)]) 0 len none ver,iI k]:=by
 subst hlen
 have hne:id.1≠lvl:=by omega
 refine QX (r:=iI (k+nL n a)) loc (ZT S id (.ar kk (DQ es p (R.set j (e.set f (.sl ((mL m n a k).map c))))) true hw ver)) ?_ ?_ ⟨?_,hk⟩
 ·intro i hi
  have:i≠id:=fun e=>hne (by rw[<-e];exact hi)
  unfold ZT
  rw[if_neg this,if_neg this]
 ·rw[Wz hne,Wz hne]
  exact hm.nested (Nat.lt_succ_of_lt hid) hv h0 h1 hl hB hj he
 ·trivial
theorem ZiL{lvl key:Nat}{loc:List (Nat×Ob)}{out:Sto}{o:Ob}:ZF lvl (ptO key o loc) out=ZT (ZF lvl loc out) (lvl,key) o:=by
 funext i
 unfold ZF ZT
 by_cases h:i.1=lvl
 ·rw[if_pos h,Zew]
  by_cases h2:i.2=key
  ·have:i=(lvl,key):=by obtain⟨a,b⟩:=i;simp only at h h2;rw[h,h2]
   rw[if_pos h2,if_pos this]
  ·have:¬ i=(lvl,key):=fun e=>h2 (by rw[e])
   rw[if_neg h2,if_neg this]
   exact(if_pos h).symm
 ·have:¬ i=(lvl,key):=fun e=>h (by rw[e])
  rw[if_neg h,if_neg this]
  exact(if_neg h).symm
theorem ZeU{P:Program}{fid:FuncId}{α:Type}{c:α->List Tr}{m:α->Int->α}{n:α->Nat}{B:α->Prop}(hm:MarkS P fid c m n B){a:List α}{k:Int}{lvl key:Nat}{out:Sto}{kk hw ver:Nat}{cap:Option Nat}{env:List (Nat×IV)}{loc:List (Nat×Ob)}{d:Option Nat}{K:St->Prop}
  (hS:lkO key loc=some (.ar kk (a.map c) true hw ver)) (h0:0<=k) (h1:k+nL n a<=4611686018427387904) (hl:a.length<=4294967296) (hB:∀ x∈a,B x)
  (hk:K ⟨lvl,ptd d (iI (k+nL n a)) env,ptO key (.ar kk ((mL m n a k).map c) true hw ver) loc,out⟩) :
  kcy (Sem P) fid true lvl env loc out d K [.hd (lvl,key) [] 0 a.length cap hw,iI k]:=by
 refine QX (r:=iI (k+nL n a)) (ptO key (.ar kk ((mL m n a k).map c) true hw ver) loc) out (fun _ _=>rfl) ?_ ⟨?_,hk⟩
 ·rw[ZiL]
  have e:ZF lvl loc out=ZT (ZF lvl loc out) (lvl,key) (.ar kk (DQ (a.map c) [] (a.map c)) true hw ver):=(QY (by unfold ZF;rw[if_pos rfl];exact hS)).symm
  have:=hm a k (lvl+1) (ZF lvl loc out) (lvl,key) [] (a.map c) (a.map c) kk hw ver hw cap (Nat.lt_succ_self _) rfl rfl h0 h1 hl hB
  rw[<-e] at this
  exact this
 ·trivial
end Go.Fd

namespace Go.Fd
open Go.Sort
section
variable {P:Program} {α:Type} [Inhabited α] {enc:α->Value}
abbrev ZoU(enc:α->Value)(l:List α):Row:=l.map fun x=>[.v (enc x)]
theorem Zb2{l:List α}{p:Pth}{es2:Row}(hp:p≠[]):getp (ZoU enc l) p≠some es2:=fun h=>by
 cases p with
 | nil=>exact hp rfl
 | cons cd q =>
  obtain⟨c,d⟩:=cd
  obtain⟨e,x,h1,h2,_⟩:=JO h
  obtain⟨n,_,rfl⟩:=List.mem_map.1 (List.mem_of_getElem? h1)
  have:=List.mem_of_getElem? h2
  simp at this
theorem Zj2{l:List α}:UnR 1 (ZoU enc l):=Zby (fun x=>[.v (enc x)]) (fun _=>rfl) l
theorem Zhh{d:Array α}{off:Nat}{c:Array Value}:(putCells enc off d c).size=c.size:=by simp [putCells]
theorem ZiM{d:List α}{c:Array Value}{i:Nat}(h:i<d.length)(hc:i<c.size):(putCells enc 0 d.toArray c)[i]? = some (enc d[i]):=by
 simp [putCells,hc,h]
theorem ZiN{f:FuncId}{lvl:Nat}{S:Sto}{id:Oid}{xs ys:List α}{u:Bool}{hw ver:Nat}(hc:ZaI P f)(hid:id.1<lvl)(hS:S id=some (.ar 1 (ZoU enc xs) u hw ver))
  (hsc:∀ x:α,DT (enc x)=true) (hl:ys.length=xs.length)
  (h0:xs=[]->∀(a:Option Addr) (cap:Nat) (w:World),Calls P f #[.slice a 0 cap] w fun e w' => e = .returned (.tuple #[])/\∃ n,w'=Sort.ahead w n)
  (h1:xs≠[]->∀(b cap:Nat) (w:World),Holds enc w b 0 xs.toArray->b<w.heap.size->Calls P f #[.slice (some ⟨b,0,none⟩) xs.length cap] w fun e w' => e = .returned (.tuple #[])/\∃ n os,w'=grow (putRow enc (Sort.ahead w n) b 0 ys.toArray) os) :
  Sem P f lvl [.hd id [] 0 xs.length none hw] S (.tu []) (ZT S id (.ar 1 (ZoU enc ys) u hw ver)):=by
 refine⟨trivial,hc,fun hlow G w vs hok hv=>?_⟩
 simp only[VRs] at hv
 obtain⟨v,vr,rfl,hv,rfl⟩:=hv
 simp only[VR] at hv
 obtain⟨⟨a0,c0,hv0,hlc0⟩,k2,es2,u2,hw2,ver2,hs2,_,hrel⟩:=hv
 rw[hS] at hs2;cases hs2
 obtain⟨es3,k',a,c,hg3,hk,hun,rfl,hlc,hcap,hcap2,hor⟩:=hrel rfl
 cases hg3
 have hk1:=hk rfl
 subst hk1
 by_cases hx:xs=[]
 ·subst hx
  have hy:ys=[]:=List.length_eq_zero_iff.1 (by simpa using hl)
  subst hy
  rw[QY hS]
  refine(h0 rfl a c w).mono ?_
  rintro e w' ⟨rfl,n,rfl⟩
  have e:Ext w (Sort.ahead w n):=⟨Nat.le_refl _,fun _ _=>rfl,rfl,rfl,rfl⟩
  exact⟨_,G,rfl,hok.ext e,by simp [impv,impvs,VR,VRs],hlow,Frm.of_ext e⟩
 ·have hpos:0<xs.length:=List.length_pos_iff.2 hx
  rcases hor with hz | ⟨hz,_⟩ | ⟨b,cc,hG,rfl,hoc⟩
  ·omega
  ·exact absurd rfl hz
  ·obtain⟨o1,o2,o3,o4,o5⟩:=hok.obs _ _ hS
   have hr:=o4 [] _ (.inl rfl) rfl
   unfold X4 at hr
   rw[hG] at hr
   obtain⟨k3,cells,ty,g1,g2,g3,g4,g5,g6⟩:=hr
   have hk3:=g1 rfl
   subst hk3
   have hbs:b<w.heap.size:=by
    rcases Nat.lt_or_ge b w.heap.size with h | h
    ·exact h
    ·rw[Array.getElem?_eq_none h] at g3;cases g3
   have hH:Holds enc w b 0 xs.toArray:=fun j hj=>by
    have hj:j<xs.length:=by simpa using hj
    obtain⟨x,hx1,hx2⟩:=g6 j [.v (enc xs[j])] 0 (.v (enc xs[j])) (by simp [hj]) rfl
    simp only[Yy] at hx2
    obtain⟨rfl,_⟩:=hx2
    refine⟨?_,by simp [World.frozen?,g3]⟩
    have:(xs.toArray)[j]! = xs[j]:=by simp [hj]
    rw[this,cell_of_row w b (0+j) cells ty (0,0) g3]
    simpa using hx1
   refine(h1 hx b c w hH hbs).mono ?_
   rintro e w' ⟨rfl,n,os,rfl⟩
   have hsz:w.heap.size<=(grow (putRow enc (Sort.ahead w n) b 0 ys.toArray) os).heap.size:=by simp [grow,putRow,mapBlock,Sort.ahead]
   have hheap:∀ b2,b2<w.heap.size->b2≠b->(grow (putRow enc (Sort.ahead w n) b 0 ys.toArray) os).heap[b2]? = w.heap[b2]?:=fun b2 h2 hne=>by
    simp only[grow,putRow,mapBlock,Sort.ahead]
    rw[Array.getElem?_append_left (by simpa using h2),Array.getElem?_modify,if_neg (fun e=>hne e.symm)]
   have hrow:(grow (putRow enc (Sort.ahead w n) b 0 ys.toArray) os).heap[b]? = some (.cells (putCells enc 0 ys.toArray cells) ty (0,0)):=by
    simp only[grow,putRow,mapBlock,Sort.ahead]
    rw[Array.getElem?_append_left (by simpa using hbs),Array.getElem?_modify,if_pos rfl,g3]
    rfl
   have hown:∀ ob b2,ob=(.ar 1 (ZoU enc ys) u hw ver:Ob)->Vw G id ob b2->b2=b:=fun ob b2 ho h=>by
    subst ho
    obtain⟨p,c2,hp,hq,hg⟩:=h
    by_cases hp0:p=[]
    ·subst hp0
     rw[hG] at hg
     cases hg
     rfl
    ·obtain⟨e2,he2⟩:=Option.isSome_iff_exists.1 hq
     exact absurd he2 (Zb2 hp0)
   have hbown:Vw G id (.ar 1 (ZoU enc xs) u hw ver) b:=⟨[],cc,.inl rfl,rfl,hG⟩
   have t:Trn G G S (ZT S id (.ar 1 (ZoU enc ys) u hw ver)) w (grow (putRow enc (Sort.ahead w n) b 0 ys.toArray) os) (· = id) (fun _=>False):=by
    refine⟨fun _ _=>rfl,fun i ob hi _ hs=>⟨ob,by unfold ZT;rw[if_neg hi];exact hs,Wk.refl ob⟩,fun i ob hi hs=>⟨fun h=>h,ob,by unfold ZT at hs;rw[if_neg hi] at hs;exact hs,Wk.refl ob⟩,hsz,fun b2 h2 hn=>hheap b2 h2 fun e=>hn id _ rfl hS (e ▸ hbown),fun i ob b2 hi hs ho=>?_,fun i ob hi _ hs=>?_⟩
    ·subst hi
     unfold ZT at hs;rw[if_pos rfl] at hs;cases hs
     have:=hown _ b2 rfl ho
     subst this
     exact .inl ⟨i,_,.inl rfl,hS,hbown⟩
    ·subst hi
     rw[hS] at hs;cases hs
     refine⟨.ar 1 (ZoU enc ys) u hw ver,by unfold ZT;rw[if_pos rfl],rfl,Nat.le_refl _,Nat.le_refl _,fun p st _ hst=>⟨hst,fun es' he=>?_⟩⟩
     by_cases hp0:p=[]
     ·subst hp0
      exact⟨rfl,_,rfl,fun k' hkk _=>by rw[hkk rfl];exact Zj2⟩
     ·exact absurd he (Zb2 hp0)
   refine⟨_,G,rfl,t.ok hok (fun i ob hi hs=>?_) (fun i ob j ob' b hi hj _ _ _ _=>hi.trans hj.symm) (fun i cells hi hs=>?_),by simp [impv,impvs,VR,VRs],fun i ob hs=>?_,t.frm (fun _ h=>h.elim) rfl rfl rfl⟩
   ·subst hi
    simp only[impv,impvs,V1,ZT,if_true] at hs;cases hs
    refine⟨by rw[List.length_map] at *;omega,Zj2,o3,fun p es2 hp he=>?_,fun p p' b1 c1 c2 hp hp' g1 g2 g3 g4=>?_⟩
    ·by_cases hp0:p=[]
     ·subst hp0
      cases he
      unfold X4
      rw[hG]
      refine⟨1,_,ty,fun _=>rfl,Zj2,hrow,by rw[Zhh];exact g4,by rw[List.length_map] at *;omega,fun i e f t hi hf=>?_⟩
      rw[List.getElem?_map] at hi
      obtain⟨y,hy,rfl⟩:=Option.map_eq_some_iff.1 hi
      obtain⟨hil,hyy⟩:=List.getElem?_eq_some_iff.1 hy
      have hf0:f=0/\t = .v (enc y):=by
       cases f with
       | zero=>simp at hf;exact⟨rfl,hf.symm⟩
       | succ f=>simp at hf
      obtain⟨rfl,rfl⟩:=hf0
      refine⟨enc y,?_,rfl,hsc y⟩
      rw[List.length_map] at g5
      rw[show i*1+0=i from by omega,ZiM hil (by omega),hyy]
     ·exact absurd he (Zb2 hp0)
    ·by_cases hp0:p=[]
     ·by_cases hp1:p'=[]
      ·rw[hp0,hp1]
      ·obtain⟨e2,he2⟩:=Option.isSome_iff_exists.1 g2
       exact absurd he2 (Zb2 hp1)
     ·obtain⟨e2,he2⟩:=Option.isSome_iff_exists.1 g1
      exact absurd he2 (Zb2 hp0)
   ·subst hi
    simp only[impv,impvs,V1,ZT,if_true] at hs;cases hs
   ·simp only[ZT] at hs
    split at hs
    ·rename_i h;rw[h];exact hid
    ·exact hlow i ob hs
end
end Go.Fd

namespace Go.Fd
open Go.Sort Go.Proofs Go.RowKit
section
variable {P:Program} {α:Type} [Inhabited α] {enc:α->List Value} {k:Nat}
abbrev ZqJ(enc:α->List Value)(l:List α):Row:=l.map fun x=>(enc x).map .v
theorem Zb3{l:List α}{p:Pth}{es2:Row}(hp:p≠[]):getp (ZqJ enc l) p≠some es2:=fun h=>by
 cases p with
 | nil=>exact hp rfl
 | cons cd q =>
  obtain⟨c,d⟩:=cd
  obtain⟨e,x,h1,h2,_⟩:=JO h
  obtain⟨n,_,rfl⟩:=List.mem_map.1 (List.mem_of_getElem? h1)
  obtain⟨v,_,hv⟩:=List.mem_map.1 (List.mem_of_getElem? h2)
  cases hv
theorem Zj3(hk:∀ x,(enc x).length=k){l:List α}:UnR k (ZqJ enc l):=Zby (fun x=>(enc x).map .v) (fun x=>by rw[List.length_map,hk]) l
theorem ZiO{l:List α}:(flatK enc k l.toArray).size=l.length*k:=by simp [flatK]
theorem Zla(hk:∀ x,(enc x).length=k){l:List α}{i f:Nat}(hi:i<l.length)(hf:f<k):(flatK enc k l.toArray)[i*k+f]! = (enc l[i])[f]'(by rw[hk];exact hf):=by
 have h1:(i*k+f) / k=i:=by
  rw[Nat.mul_comm,Nat.mul_add_div (by omega),Nat.div_eq_of_lt hf,Nat.add_zero]
 have h2:(i*k+f) % k=f:=by
  rw[Nat.mul_comm,Nat.mul_add_mod,Nat.mod_eq_of_lt hf]
 have h3:i*k+f<l.length*k:=by
  have:(i+1)*k<=l.length*k:=Nat.mul_le_mul_right k hi
  rw[Nat.add_mul,Nat.one_mul] at this
  omega
 have hfl:f<(enc l[i]).length:=by rw[hk];exact hf
 simp [flatK,h3,h1,h2,hi,hfl]
theorem ZpI{F c:Array Value}{i:Nat}(h:i<F.size)(hc:i<c.size):(putCells id 0 F c)[i]? = some F[i]!:=by
 simp [putCells,hc,h]
theorem Zns{F c:Array Value}:(putCells id 0 F c).size=c.size:=by simp [putCells]
theorem Zhi{f g:FuncId}{lvl:Nat}{S:Sto}{id:Oid}{xs ys:List α}{u:Bool}{hw ver:Nat}(hk:∀ x,(enc x).length=k)(hk0:0<k)(hc:ZaI P f)(hid:id.1<lvl)(hS:S id=some (.ar k (ZqJ enc xs) u hw ver))
  (hsc:∀ x:α,∀ v∈enc x,DT v=true) (hl:ys.length=xs.length) (hpos:0<xs.length)
  (h1:∀(b cap:Nat) (w:World),HoldsK enc k w b 0 xs.toArray->b<w.heap.size->Calls P f #[.slice (some ⟨b,0,none⟩) xs.length cap,.func (.func g) #[] #[]] w fun e w' => e = .returned (.tuple #[])/\∃ n os,w'=sortWorldK enc k w b 0 n ys.toArray os) :
  Sem P f lvl [.hd id [] 0 xs.length none hw,.fn g []] S (.tu []) (ZT S id (.ar k (ZqJ enc ys) u hw ver)):=by
 refine⟨trivial,hc,fun hlow G w vs hok hv=>?_⟩
 simp only[VRs] at hv
 obtain⟨v,vr,rfl,hv,v2,vr2,rfl,hv2,rfl⟩:=hv
 simp only[VR] at hv hv2
 obtain⟨vs2,rfl,hvs2⟩:=hv2
 have hv20:vs2=[]:=hvs2
 subst hv20
 obtain⟨⟨a0,c0,hv0,hlc0⟩,k2,es2,u2,hw2,ver2,hs2,_,hrel⟩:=hv
 rw[hS] at hs2;cases hs2
 obtain⟨es3,k',a,c,hg3,hkk,hun,rfl,hlc,hcap,hcap2,hor⟩:=hrel rfl
 cases hg3
 have hk1:=hkk rfl
 subst hk1
 rcases hor with hz | ⟨hz,_⟩ | ⟨b,cc,hG,rfl,hoc⟩
 ·omega
 ·exact absurd rfl hz
 ·obtain⟨o1,o2,o3,o4,o5⟩:=hok.obs _ _ hS
  have hr:=o4 [] _ (.inl rfl) rfl
  unfold X4 at hr
  rw[hG] at hr
  obtain⟨k3,cells,ty,g1,g2,g3,g4,g5,g6⟩:=hr
  have hk3:=g1 rfl
  subst hk3
  have hbs:b<w.heap.size:=by
   rcases Nat.lt_or_ge b w.heap.size with h | h
   ·exact h
   ·rw[Array.getElem?_eq_none h] at g3;cases g3
  have hH:HoldsK enc k3 w b 0 xs.toArray:=fun j hj=>by
   rw[ZiO] at hj
   obtain⟨i,f,rfl,hf⟩:∃ i f,j=i*k3+f/\f<k3:=⟨j / k3,j % k3,by rw[Nat.mul_comm];exact(Nat.div_add_mod j k3).symm,Nat.mod_lt _ hk0⟩
   have hi:i<xs.length:=by
    rcases Nat.lt_or_ge i xs.length with h | h
    ·exact h
    ·have:=Nat.mul_le_mul_right k3 h
     omega
   have hfl:f<(enc xs[i]).length:=by rw[hk];exact hf
   obtain⟨x,hx1,hx2⟩:=g6 i ((enc xs[i]).map .v) f (.v (enc xs[i])[f]) (by simp [hi]) (by simp [hfl])
   simp only[Yy] at hx2
   obtain⟨rfl,_⟩:=hx2
   refine⟨?_,by simp [World.frozen?,g3]⟩
   rw[Zla hk hi hf,cell_of_row w b (0+(i*k3+f)) cells ty (0,0) g3]
   simpa using hx1
  rw[Nat.zero_mul]
  refine(h1 b c w hH hbs).mono ?_
  rintro e w' ⟨rfl,n,os,rfl⟩
  have hsz:w.heap.size<=(sortWorldK enc k3 w b 0 n ys.toArray os).heap.size:=by simp [sortWorldK,putRowK,grow,putRow,mapBlock,Sort.ahead]
  have hheap:∀ b2,b2<w.heap.size->b2≠b->(sortWorldK enc k3 w b 0 n ys.toArray os).heap[b2]? = w.heap[b2]?:=fun b2 h2 hne=>by
   simp only[sortWorldK,putRowK,grow,putRow,mapBlock,Sort.ahead]
   rw[Array.getElem?_append_left (by simpa using h2),Array.getElem?_modify,if_neg (fun e=>hne e.symm)]
  have hrow:(sortWorldK enc k3 w b 0 n ys.toArray os).heap[b]? = some (.cells (putCells _root_.id 0 (flatK enc k3 ys.toArray) cells) ty (0,0)):=by
   simp only[sortWorldK,putRowK,grow,putRow,mapBlock,Sort.ahead]
   rw[Array.getElem?_append_left (by simpa using hbs),Array.getElem?_modify,if_pos rfl,g3]
   rfl
  have hown:∀ ob b2,ob=(.ar k3 (ZqJ enc ys) u hw ver:Ob)->Vw G id ob b2->b2=b:=fun ob b2 ho h=>by
   subst ho
   obtain⟨p,c2,hp,hq,hg⟩:=h
   by_cases hp0:p=[]
   ·subst hp0
    rw[hG] at hg
    cases hg
    rfl
   ·obtain⟨e2,he2⟩:=Option.isSome_iff_exists.1 hq
    exact absurd he2 (Zb3 hp0)
  have hbown:Vw G id (.ar k3 (ZqJ enc xs) u hw ver) b:=⟨[],cc,.inl rfl,rfl,hG⟩
  have t:Trn G G S (ZT S id (.ar k3 (ZqJ enc ys) u hw ver)) w (sortWorldK enc k3 w b 0 n ys.toArray os) (· = id) (fun _=>False):=by
   refine⟨fun _ _=>rfl,fun i ob hi _ hs=>⟨ob,by unfold ZT;rw[if_neg hi];exact hs,Wk.refl ob⟩,fun i ob hi hs=>⟨fun h=>h,ob,by unfold ZT at hs;rw[if_neg hi] at hs;exact hs,Wk.refl ob⟩,hsz,fun b2 h2 hn=>hheap b2 h2 fun e=>hn id _ rfl hS (e ▸ hbown),fun i ob b2 hi hs ho=>?_,fun i ob hi _ hs=>?_⟩
   ·subst hi
    unfold ZT at hs;rw[if_pos rfl] at hs;cases hs
    have:=hown _ b2 rfl ho
    subst this
    exact .inl ⟨i,_,.inl rfl,hS,hbown⟩
   ·subst hi
    rw[hS] at hs;cases hs
    refine⟨.ar k3 (ZqJ enc ys) u hw ver,by unfold ZT;rw[if_pos rfl],rfl,Nat.le_refl _,Nat.le_refl _,fun p st _ hst=>⟨hst,fun es' he=>?_⟩⟩
    by_cases hp0:p=[]
    ·subst hp0
     exact⟨rfl,_,rfl,fun k' hkk _=>by rw[hkk rfl];exact Zj3 hk⟩
    ·exact absurd he (Zb3 hp0)
  refine⟨_,G,rfl,t.ok hok (fun i ob hi hs=>?_) (fun i ob j ob' b hi hj _ _ _ _=>hi.trans hj.symm) (fun i cells hi hs=>?_),by simp [impv,impvs,VR,VRs],fun i ob hs=>?_,t.frm (fun _ h=>h.elim) rfl rfl rfl⟩
  ·subst hi
   simp only[impv,impvs,V1,ZT,if_true] at hs;cases hs
   refine⟨by rw[List.length_map] at *;omega,Zj3 hk,o3,fun p es2 hp he=>?_,fun p p' b1 c1 c2 hp hp' g1 g2 g3 g4=>?_⟩
   ·by_cases hp0:p=[]
    ·subst hp0
     cases he
     unfold X4
     rw[hG]
     refine⟨k3,_,ty,fun _=>rfl,Zj3 hk,hrow,by rw[Zns];exact g4,by rw[List.length_map] at *;omega,fun i e f t hi hf=>?_⟩
     rw[List.getElem?_map] at hi
     obtain⟨y,hy,rfl⟩:=Option.map_eq_some_iff.1 hi
     obtain⟨hil,hyy⟩:=List.getElem?_eq_some_iff.1 hy
     rw[List.getElem?_map] at hf
     obtain⟨v,hv,rfl⟩:=Option.map_eq_some_iff.1 hf
     obtain⟨hfl,hvv⟩:=List.getElem?_eq_some_iff.1 hv
     have hfk:f<k3:=by rw[<-hk y];exact hfl
     have hlt:i*k3+f<ys.length*k3:=by
      have:(i+1)*k3<=ys.length*k3:=Nat.mul_le_mul_right k3 hil
      rw[Nat.add_mul,Nat.one_mul] at this
      omega
     have hlt2:i*k3+f<cells.size:=by
      rw[List.length_map] at g5
      rw[g4]
      have:ys.length*k3<=cc*k3:=Nat.mul_le_mul_right k3 (by omega)
      omega
     refine⟨v,?_,rfl,hsc y v (List.mem_of_getElem? hv)⟩
     rw[ZpI (by rw[ZiO];exact hlt) hlt2,Zla hk hil hfk]
     subst hyy
     rw[hvv]
    ·exact absurd he (Zb3 hp0)
   ·by_cases hp0:p=[]
    ·by_cases hp1:p'=[]
     ·rw[hp0,hp1]
     ·obtain⟨e2,he2⟩:=Option.isSome_iff_exists.1 g2
      exact absurd he2 (Zb3 hp1)
    ·obtain⟨e2,he2⟩:=Option.isSome_iff_exists.1 g1
     exact absurd he2 (Zb3 hp0)
  ·subst hi
   simp only[impv,impvs,V1,ZT,if_true] at hs;cases hs
  ·simp only[ZT] at hs
   split at hs
   ·rename_i h;rw[h];exact hid
   ·exact hlow i ob hs
end
end Go.Fd

namespace Go.Proofs
open Go.Shelf
def Tryz.sortW_ren:Go.Shelf.Ren:=⟨fun | 6=>293 | 15=>227 | 14=>326 | 28=>271 | 29=>272 | 20=>343 | 21=>344 | 22=>345 | 23=>346 | 24=>347 | 25=>348 | 26=>349 | 27=>350 | 46=>358 | 47=>316 | 48=>317 | 49=>359 | 50=>360 | 57=>372 | n=>n,fun | 22=>46 | 24=>147 | 25=>283 | 3=>3 | 39=>217 | 0=>0 | 53=>245 | 55=>248 | 4=>4 | 46=>260 | 45=>259 | 50=>35 | 5=>5 | 9=>9 | 66=>298 | 70=>302 | 76=>326 | 77=>327 | n=>n,fun | n=>n⟩
theorem Tryz.sortW:Go.Proofs.SlLaysF0.n6 Tryz.prog Tryz.sortW_ren:={
  mixed:=by kernel_rfl,
  f6:=⟨"slices.SortFunc[[]loop.example/g01082/impl.Wire,loop.example/g01082/impl.Wire]",by decide,Tryz.func293.trans (congrArg some (by kernel_rfl))⟩,
  f14:=⟨"slices.pdqsortCmpFunc[loop.example/g01082/impl.Wire]",by decide,Tryz.func326.trans (congrArg some (by kernel_rfl))⟩,
  f15:=Tryz.func227.trans (congrArg some (by kernel_rfl)),
  f20:=⟨"slices.insertionSortCmpFunc[loop.example/g01082/impl.Wire]",by decide,Tryz.func343.trans (congrArg some (by kernel_rfl))⟩,
  f21:=⟨"slices.heapSortCmpFunc[loop.example/g01082/impl.Wire]",by decide,Tryz.func344.trans (congrArg some (by kernel_rfl))⟩,
  f22:=⟨"slices.breakPatternsCmpFunc[loop.example/g01082/impl.Wire]",by decide,Tryz.func345.trans (congrArg some (by kernel_rfl))⟩,
  f23:=⟨"slices.choosePivotCmpFunc[loop.example/g01082/impl.Wire]",by decide,Tryz.func346.trans (congrArg some (by kernel_rfl))⟩,
  f24:=⟨"slices.reverseRangeCmpFunc[loop.example/g01082/impl.Wire]",by decide,Tryz.func347.trans (congrArg some (by kernel_rfl))⟩,
  f25:=⟨"slices.partialInsertionSortCmpFunc[loop.example/g01082/impl.Wire]",by decide,Tryz.func348.trans (congrArg some (by kernel_rfl))⟩,
  f26:=⟨"slices.partitionEqualCmpFunc[loop.example/g01082/impl.Wire]",by decide,Tryz.func349.trans (congrArg some (by kernel_rfl))⟩,
  f27:=⟨"slices.partitionCmpFunc[loop.example/g01082/impl.Wire]",by decide,Tryz.func350.trans (congrArg some (by kernel_rfl))⟩,
  f28:=Tryz.func271.trans (congrArg some (by kernel_rfl)),
  f29:=Tryz.func272.trans (congrArg some (by kernel_rfl)),
  f46:=⟨"slices.siftDownCmpFunc[loop.example/g01082/impl.Wire]",by decide,Tryz.func358.trans (congrArg some (by kernel_rfl))⟩,
  f47:=Tryz.func316.trans (congrArg some (by kernel_rfl)),
  f48:=Tryz.func317.trans (congrArg some (by kernel_rfl)),
  f49:=⟨"slices.medianAdjacentCmpFunc[loop.example/g01082/impl.Wire]",by decide,Tryz.func359.trans (congrArg some (by kernel_rfl))⟩,
  f50:=⟨"slices.medianCmpFunc[loop.example/g01082/impl.Wire]",by decide,Tryz.func360.trans (congrArg some (by kernel_rfl))⟩,
  f57:=⟨"slices.order2CmpFunc[loop.example/g01082/impl.Wire]",by decide,Tryz.func372.trans (congrArg some (by kernel_rfl))⟩,
  t0:=Tryz.underlying0,
  a0:=Tryz.isAgg0,
  z0:=Tryz.sizeOf0,
  v0:=Tryz.zeroValue0,
  t3:=Tryz.underlying3,
  a3:=Tryz.isAgg3,
  z3:=Tryz.sizeOf3,
  v3:=Tryz.zeroValue3,
  t4:=Tryz.underlying4,
  a4:=Tryz.isAgg4,
  z4:=Tryz.sizeOf4,
  v4:=Tryz.zeroValue4,
  t5:=Tryz.underlying5,
  a5:=Tryz.isAgg5,
  z5:=Tryz.sizeOf5,
  v5:=Tryz.zeroValue5,
  t9:=Tryz.underlying9,
  a9:=Tryz.isAgg9,
  z9:=Tryz.sizeOf9,
  v9:=Tryz.zeroValue9,
  t22:=Tryz.underlying46,
  a22:=Tryz.isAgg46,
  z22:=Tryz.sizeOf46,
  v22:=Tryz.zeroValue46,
  t25:=Tryz.underlying283,
  a25:=Tryz.isAgg283,
  z25:=Tryz.sizeOf283,
  v25:=Tryz.zeroValue283,
  t39:=Tryz.underlying217,
  a39:=Tryz.isAgg217,
  z39:=Tryz.sizeOf217,
  v39:=Tryz.zeroValue217,
  t45:=Tryz.underlying259,
  a45:=Tryz.isAgg259,
  z45:=Tryz.sizeOf259,
  v45:=Tryz.zeroValue259,
  t46:=Tryz.underlying260,
  a46:=Tryz.isAgg260,
  z46:=Tryz.sizeOf260,
  v46:=Tryz.zeroValue260,
  t50:=Tryz.underlying35,
  a50:=Tryz.isAgg35,
  z50:=Tryz.sizeOf35,
  v50:=Tryz.zeroValue35,
  t53:=Tryz.underlying245,
  a53:=Tryz.isAgg245,
  z53:=Tryz.sizeOf245,
  v53:=Tryz.zeroValue245,
  t55:=Tryz.underlying248,
  a55:=Tryz.isAgg248,
  z55:=Tryz.sizeOf248,
  v55:=Tryz.zeroValue248,
  t66:=Tryz.underlying298,
  a66:=Tryz.isAgg298,
  z66:=Tryz.sizeOf298,
  v66:=Tryz.zeroValue298,
  t70:=Tryz.underlying302,
  a70:=Tryz.isAgg302,
  z70:=Tryz.sizeOf302,
  v70:=Tryz.zeroValue302,
  t76:=Tryz.underlying326,
  a76:=Tryz.isAgg326,
  z76:=Tryz.sizeOf326,
  v76:=Tryz.zeroValue326,
  t77:=Tryz.underlying327,
  a77:=Tryz.isAgg327,
  z77:=Tryz.sizeOf327,
  v77:=Tryz.zeroValue327 }
end Go.Proofs

namespace Go.Fd
def pts:List (Nat×IV)->List (Nat×IV)->List (Nat×IV)
 | [],env=>env
 | (t,x)::r,env=>pts r (pt t x env)
def Zs1:List (Nat×Ob)->List (Nat×Ob)->List (Nat×Ob)
 | [],loc=>loc
 | (t,x)::r,loc=>Zs1 r (ptO t x loc)
def chg(ce:List (Nat×IV))(co:List (Nat×Ob))(s:St):St:=⟨s.lvl,pts ce s.env,Zs1 co s.loc,s.out⟩
section
variable {C:Zk} {lvl:Nat} {env:List (Nat×IV)} {loc:List (Nat×Ob)} {out:Sto} {st:St} {Q:Ex->St->Prop}
theorem ZAc{ce:List (Nat×IV)}{co:List (Nat×Ob)}:chg ce co ⟨lvl,env,loc,out⟩=⟨lvl,pts ce env,Zs1 co loc,out⟩:=(rfl)
theorem Zvs:pts [] env=env:=(rfl)
theorem Zvt{t:Nat}{x:IV}{r:List (Nat×IV)}:pts ((t,x)::r) env=pts r (pt t x env):=(rfl)
theorem Zsn:Zs1 [] loc=loc:=(rfl)
theorem Zso{t:Nat}{x:Ob}{r:List (Nat×Ob)}:Zs1 ((t,x)::r) loc=Zs1 r (ptO t x loc):=(rfl)
theorem ZB{α:Type}{ks js:List Nat}{c:C2}(N:Nat)(ce:Nat->α->List (Nat×IV))(co:Nat->α->List (Nat×Ob))(A:Nat->α->Prop)(x0:α)
  (h1:clean ks js st) (h0:fgt ks js st=chg (ce 0 x0) (co 0 x0) (fgt ks js st)) (hA:A 0 x0)
  (hs:∀ k x,k<=N->A k x->wp C c (chg (ce k x) (co k x) (fgt ks js st)) (ZeR ks js (Zzm N (fun k x=>chg (ce k x) (co k x) (fgt ks js st)) A (N-k)) Q)):wp C (.lp ks js c) st Q :=
 Z3 N (fun k x=>chg (ce k x) (co k x) (fgt ks js st)) A x0 ⟨h1,h0⟩ hA hs
end
section
variable {L:Sto} {F:List IV->Prop} {r:List IV}
def ZAX(L:Sto)(r:List IV)(F:List IV->Prop)(y:IV):Prop:=Jx L r (kcn y F)
theorem Zvu{y:IV}:ZAX L r F y=Jx L r (kcn y F):=(rfl)
theorem ZAd{id:Oid}{off:Nat}:Jx L (.ab id off::r) F=ZgJ (L id) L off (ZAX L r F):=by simp only[Jx,X5];rfl
def kta(F:IV->Prop)(ts:List Tr):Prop:=F (.ta ts)
theorem ZAe{F:IV->Prop}{ts:List Tr}:kta F ts=F (.ta ts):=(rfl)
theorem ZAf{cells:List IV}{off:Nat}{F:IV->Prop}:ZgJ (some (.bx cells)) L off F=QN L (cells.drop off) (kta F):=(rfl)
def kct(t:Tr)(F:List Tr->Prop)(ts:List Tr):Prop:=F (t::ts)
theorem ZAg{t:Tr}{F:List Tr->Prop}{ts:List Tr}:kct t F ts=F (t::ts):=(rfl)
def ZAY(L:Sto)(r:List IV)(F:List Tr->Prop)(t:Tr):Prop:=QN L r (kct t F)
theorem Zvv{F:List Tr->Prop}{t:Tr}:ZAY L r F t=QN L r (kct t F):=(rfl)
theorem Zvw{F:List Tr->Prop}:QN L [] F=F []:=(rfl)
theorem Zvx{x:IV}{F:List Tr->Prop}:QN L (x::r) F=ZbL L x (ZAY L r F):=(rfl)
theorem Zvy{t:Tr}{F:Tr->Prop}:ZbL L (.tr t) F=F t:=(rfl)
theorem Zvz{es:Row}{F:Tr->Prop}:ZbL L (.cs es) F=F (.sl es):=(rfl)
def ZAZ(off len:Nat)(F:Tr->Prop)(es:Row)(_u:Bool)(_v:Nat):Prop:=off+len<=es.length/\F (.sl (cut es off len))
theorem ZvA{off len:Nat}{F:Tr->Prop}{es:Row}{u:Bool}{v:Nat}:ZAZ off len F es u v=(off+len<=es.length/\F (.sl (cut es off len))):=(rfl)
theorem ZvB{id:Oid}{p:Pth}{off len s:Nat}{cap:Option Nat}{F:Tr->Prop}:ZbL L (.hd id p off len cap s) F=rd3 (L id) p s (ZAZ off len F):=by rw[<-Zab];rfl
end
theorem ZvC{α:Type}{x:α}:List.replicate 1 x=[x]:=(rfl)
theorem ZvD{e:List Tr}:cut [e] 0 1=[e]:=(rfl)
theorem ZvE{l:List Tr}:ScR [l]=(l.all isSc=true):=by
 apply propext
 constructor
 ·intro h
  exact List.all_eq_true.2 fun t ht=>h l (by simp) t ht
 ·intro h e he t ht
  simp only[List.mem_singleton] at he
  subst he
  exact List.all_eq_true.1 h t ht
theorem ZvF{k:Nat}{l:List Tr}:UnR k [l]=(l.length=k):=by
 apply propext
 constructor
 ·intro h;exact h l (by simp)
 ·intro h e he
  simp only[List.mem_singleton] at he
  rw[he,h]
theorem ZAh{j:Nat}:max j (j+1)=j+1:=by omega
theorem ZAi{j:Nat}:(j<j+1)=True:=by simp
end Go.Fd

namespace Go.Fd
open Go.RowKit Go.ChangeShapes Go.ChangeMaps Go.WideMaps
section
variable {H:Type} {enc:TypeId×Value->H} {P:Program} {w:World} {t:TypeId} {v:Value} {d:DataW H} {p:List MemPlace} {sp:Nat->Bool} {hd:Bool} {base:Nat}
end
end Go.Fd

namespace Go.Fd
set_option linter.defProp false in
def EV0:=(And.intro (And.intro (And.intro (And.intro (And.intro @Ztx @Zxt) (And.intro @Zty (And.intro @Ztz @ZtA))) (And.intro (And.intro @ZtB @ZtC) (And.intro @ZtD (And.intro @ZtE @Zxu)))) (And.intro (And.intro (And.intro @Zxv @Zxw) (And.intro @ZA9 (And.intro @ZBa @ZBb))) (And.intro (And.intro @ZBc @ZBd) (And.intro @ZBe (And.intro @ZBf @ZBg))))) (And.intro (And.intro (And.intro (And.intro @Zxx @Zxy) (And.intro @Zxz (And.intro @ZtF @ZBh))) (And.intro (And.intro @ZxA @ZxB) (And.intro @ZBi (And.intro @ZxC @ZtG)))) (And.intro (And.intro (And.intro @ZBj @ZxD) (And.intro @ZBk (And.intro @ZxE @ZBl))) (And.intro (And.intro @ZxF @ZBm) (And.intro @ZBn (And.intro @ZBo @Zps))))))
set_option linter.defProp false in
def EV1:=(And.intro (And.intro (And.intro (And.intro (And.intro @Zpt @ZxG) (And.intro @ZrD (And.intro @ZBp @ZxH))) (And.intro (And.intro @ZBq @ZtI) (And.intro @ZtJ (And.intro @ZtK @ZtL)))) (And.intro (And.intro (And.intro @ZtM @ZtN) (And.intro @ZxI (And.intro @ZxJ @ZxK))) (And.intro (And.intro @ZxL @ZxM) (And.intro @ZxN (And.intro @ZxO @ZxP))))) (And.intro (And.intro (And.intro (And.intro @ZxQ @ZxR) (And.intro @ZxS (And.intro @ZxT @ZxU))) (And.intro (And.intro @ZxV @ZtO) (And.intro @ZtP (And.intro @ZtQ @ZxW)))) (And.intro (And.intro (And.intro @ZxX @ZxY) (And.intro @ZxZ (And.intro @ZBr @ZBs))) (And.intro (And.intro @Zx0 @ZBt) (And.intro @Zx1 (And.intro @ZBu @Zx2))))))
set_option linter.defProp false in
def EV2:=(And.intro (And.intro (And.intro (And.intro (And.intro @Zx3 @Zx4) (And.intro @Zx5 (And.intro @ZBv @Zx6))) (And.intro (And.intro @ZBw @Zx7) (And.intro @Zx8 (And.intro @Zx9 @ZBx)))) (And.intro (And.intro (And.intro @Zya @ZBy) (And.intro @ZBz (And.intro @Zyb @Zyc))) (And.intro (And.intro @ZBA @Zyd) (And.intro @Zye (And.intro @Zyf @ZBB))))) (And.intro (And.intro (And.intro (And.intro @Zyg @ZBC) (And.intro @Zyh (And.intro @Zyi @Zyj))) (And.intro (And.intro @ZBD @Zyk) (And.intro @Zyl (And.intro @Zym @ZBE)))) (And.intro (And.intro (And.intro @Zyn @Zyo) (And.intro @Zyp (And.intro @ZBF @Zyq))) (And.intro (And.intro @Zyr @Zys) (And.intro @Zyt (And.intro @Zyu @Zpu))))))
set_option linter.defProp false in
def EV3:=(And.intro (And.intro (And.intro (And.intro (And.intro @Zpv @Zyv) (And.intro @ZtR (And.intro @Zyw @ZBG))) (And.intro (And.intro @Zyx @Zyy) (And.intro @Zyz (And.intro @ZyA @ZBH)))) (And.intro (And.intro (And.intro @ZyB @ZBI) (And.intro @ZyC (And.intro @ZyD @YX))) (And.intro (And.intro @Zbx @ZtS) (And.intro @ZyE (And.intro @QH @ZyF))))) (And.intro (And.intro (And.intro (And.intro @ZyG @ZyH) (And.intro @ZtT (And.intro @ZtU @ZtW))) (And.intro (And.intro @ZrE @ZBJ) (And.intro @ZyI (And.intro @ZyJ @ZyK)))) (And.intro (And.intro (And.intro @ZyL @ZtX) (And.intro @ZyM (And.intro @ZyN @ZyO))) (And.intro (And.intro @ZyP @ZyQ) (And.intro @ZtY (And.intro @ZtZ @ZyR))))))
set_option linter.defProp false in
def EV4:=(And.intro (And.intro (And.intro (And.intro (And.intro @Zt0 @Zt1) (And.intro @ZBK (And.intro @ZyS @ZyT))) (And.intro (And.intro @ZyU @ZyV) (And.intro @Zt2 (And.intro @ZBL @ZyW)))) (And.intro (And.intro (And.intro @ZBM @ZyX) (And.intro @ZyY (And.intro @ZyZ @ZBN))) (And.intro (And.intro @Zy0 @Zy1) (And.intro @Zy2 (And.intro @Zt3 @Zt4))))) (And.intro (And.intro (And.intro (And.intro @Zt5 @Zt6) (And.intro @ZrF (And.intro @Zt7 @Zy3))) (And.intro (And.intro @Zy4 @Zy5) (And.intro @Zt8 (And.intro @Zy6 @Zy7)))) (And.intro (And.intro (And.intro @Zy8 @ZBO) (And.intro @Zy9 (And.intro @Zza @Zt9))) (And.intro (And.intro @Zzb @Zua) (And.intro @Zzc (And.intro @Zub @Zzd))))))
set_option linter.defProp false in
def EV5:=(And.intro (And.intro (And.intro (And.intro (And.intro @Zuc @Zze) (And.intro @Zud (And.intro @Zue @Zuf))) (And.intro (And.intro @Zzf @ZrG) (And.intro @ZrH (And.intro @Zzg @Zug)))) (And.intro (And.intro (And.intro @Zuh @Zui) (And.intro @Zuj (And.intro @Zuk @Zzh))) (And.intro (And.intro @Zul @Zzi) (And.intro @Zum (And.intro @ZrI @ZrJ))))) (And.intro (And.intro (And.intro (And.intro @ZrK @ZrL) (And.intro @ZrM (And.intro @ZrN @ZrO))) (And.intro (And.intro @Zzj @Zpw) (And.intro @Zpx (And.intro @ZrP @ZrQ)))) (And.intro (And.intro (And.intro @ZrR @ZrS) (And.intro @Zpy (And.intro @Zpz @ZpA))) (And.intro (And.intro @ZpB @ZpC) (And.intro @ZpD (And.intro @ZrT @ZrU))))))
set_option linter.defProp false in
def EV6:=(And.intro (And.intro (And.intro (And.intro (And.intro @ZrV @Zun) (And.intro @Zuo (And.intro @Zzk @ZrW))) (And.intro (And.intro @Zup @Zuq) (And.intro @ZrX (And.intro @Zur @Zus)))) (And.intro (And.intro (And.intro @Zut @Zuu) (And.intro @Zuv (And.intro @Zuw @Zux))) (And.intro (And.intro @ZrY @ZrZ) (And.intro @Zr0 (And.intro @Zr1 @Zuy))))) (And.intro (And.intro (And.intro (And.intro @Zuz @ZuA) (And.intro @ZuB (And.intro @ZuC @ZpE))) (And.intro (And.intro @ZpF @ZpG) (And.intro @ZBP (And.intro @Zzn @Zzo)))) (And.intro (And.intro (And.intro @Zzp @Zej) (And.intro @Zek (And.intro @Zr2 @Zr3))) (And.intro (And.intro @ZuD @ZuE) (And.intro @ZuF (And.intro @ZuG @ZuH))))))
set_option linter.defProp false in
def EV7:=(And.intro (And.intro (And.intro (And.intro (And.intro @ZuI @ZuJ) (And.intro @ZuK (And.intro @ZuL @Zr4))) (And.intro (And.intro @Zzq @Zr5) (And.intro @Zr6 (And.intro @Zzr @Zzs)))) (And.intro (And.intro (And.intro @Zzt @Zzu) (And.intro @ZuM (And.intro @ZuN @ZuO))) (And.intro (And.intro @Zzv @ZBQ) (And.intro @Zzw (And.intro @Zzx @Zzy))))) (And.intro (And.intro (And.intro (And.intro @Zzz @ZzA) (And.intro @Zr7 (And.intro @Zr8 @ZuP))) (And.intro (And.intro @ZuQ @ZuR) (And.intro @ZuS (And.intro @ZzB @ZuU)))) (And.intro (And.intro (And.intro @Zr9 @Zsa) (And.intro @ZuV (And.intro @ZuW @ZBR))) (And.intro (And.intro @ZBS @Zsb) (And.intro @Zsc (And.intro @ZBT @ZBU))))))
set_option linter.defProp false in
def EV8:=(And.intro (And.intro (And.intro (And.intro (And.intro @ZzC @ZzD) (And.intro @ZBV (And.intro @ZBW @ZzE))) (And.intro (And.intro @ZzF @ZzG) (And.intro @ZzH (And.intro @ZzI @ZBX)))) (And.intro (And.intro (And.intro @ZuX @ZuY) (And.intro @ZBY (And.intro @ZuZ @Zu0))) (And.intro (And.intro @Zu1 @Zu2) (And.intro @Zu3 (And.intro @ZBZ @ZB0))))) (And.intro (And.intro (And.intro (And.intro @Zu4 @Zu5) (And.intro @Zu6 (And.intro @ZzJ @ZB1))) (And.intro (And.intro @ZzK @ZzL) (And.intro @Zu7 (And.intro @Zu8 @ZzM)))) (And.intro (And.intro (And.intro @Zu9 @Zva) (And.intro @ZzN (And.intro @Zvb @ZzP))) (And.intro (And.intro @Zvc @Zsd) (And.intro @ZjZ (And.intro @ZB2 @ZzQ))))))
set_option linter.defProp false in
def EV9:=(And.intro (And.intro (And.intro (And.intro (And.intro @ZzR @Zvd) (And.intro @ZB3 (And.intro @ZzS @ZB4))) (And.intro (And.intro @ZzT @ZzU) (And.intro @ZzV (And.intro @ZB5 @ZzW)))) (And.intro (And.intro (And.intro @ZzX @Zve) (And.intro @Zvf (And.intro @ZB6 @ZzY))) (And.intro (And.intro @ZzZ @Zse) (And.intro @Zsf (And.intro @Zvg @Zvh))))) (And.intro (And.intro (And.intro (And.intro @Zvi @Zvj) (And.intro @ZB7 (And.intro @Zsg @Zsh))) (And.intro (And.intro @Zsi @Zsj) (And.intro @Zsk (And.intro @Zvk @ZB8)))) (And.intro (And.intro (And.intro @Zz2 @Zz3) (And.intro @ZB9 (And.intro @Zz4 @Zz5))) (And.intro (And.intro @Zz6 @Zvl) (And.intro @Zvm (And.intro @Zvn @Zz7))))))
set_option linter.defProp false in
def ZCd:=(And.intro (And.intro (And.intro (And.intro (And.intro @Zz8 @ZCa) (And.intro @ZCb (And.intro @Zz9 @ZCc))) (And.intro (And.intro @ZAa @ZAb) (And.intro @Zvo (And.intro @ZAc @Zvs)))) (And.intro (And.intro (And.intro @Zvt @Zsn) (And.intro @Zso (And.intro @Zvu @ZAd))) (And.intro (And.intro @ZAe @ZAf) (And.intro @ZAg (And.intro @Zvv @Zvw))))) (And.intro (And.intro (And.intro (And.intro @Zvx @Zvy) (And.intro @Zvz (And.intro @ZvA @ZvB))) (And.intro (And.intro @ZvC @ZvD) (And.intro @ZvE (And.intro @ZvF @ZAh)))) (And.intro (And.intro (And.intro @ZAi @bigN.eq_1) (And.intro @fpart.eq_1 (And.intro @fpart.eq_2 @okp.eq_1))) (And.intro (And.intro @okp.eq_2 @zfill.eq_1) (And.intro @zfill.eq_2 (And.intro @zobs.eq_1 @ptd.eq_1))))))
set_option linter.defProp false in
def ZCe:=(And.intro (And.intro (And.intro (And.intro (And.intro @ptd.eq_2 @keyOf.eq_1) (And.intro @keyOf.eq_2 (And.intro @freshK.eq_1 @freshK.eq_2))) (And.intro (And.intro @lk.eq_1 @lk.eq_2) (And.intro @pt.eq_1 (And.intro @pt.eq_2 @lkO.eq_1)))) (And.intro (And.intro (And.intro @lkO.eq_2 @ptO.eq_1) (And.intro @ptO.eq_2 (And.intro @addO.eq_1 @addO.eq_2))) (And.intro (And.intro @xv.eq_1 @xv.eq_2) (And.intro @xv.eq_3 (And.intro @kv.eq_1 @kv.eq_2))))) (And.intro (And.intro (And.intro (And.intro @kc.eq_1 @kc.eq_2) (And.intro @params.eq_1 (And.intro @params.eq_2 @trv.eq_1))) (And.intro (And.intro @trv.eq_2 @List.length_cons.{0}) (And.intro @List.length_nil.{0} (And.intro @Option.getD_some.{0} @Option.getD_none.{0})))) (And.intro (And.intro (And.intro @true_and @and_true) (And.intro @decide_eq_true_eq (And.intro @decide_true @decide_false))) (And.intro (And.intro @Option.map_some.{0,0} @Option.map_none.{0,0}) (And.intro @Option.isSome_some.{0} (And.intro @Option.isSome_none.{0} @Option.isNone_some.{0}))))))
set_option linter.defProp false in
def ZCf:=(And.intro (And.intro (And.intro (And.intro (And.intro @Option.isNone_none.{0} @List.map_cons.{0,0}) (And.intro @List.map_nil.{0,0} (And.intro @List.cons_append.{0} @List.nil_append.{0}))) (And.intro (And.intro @List.getElem?_cons_zero.{0} @List.getElem?_cons_succ.{0}) (And.intro @List.drop_succ_cons.{0} (And.intro @List.drop_zero.{0} @List.take_succ_cons.{0})))) (And.intro (And.intro (And.intro @List.take_zero.{0} @List.headD_cons.{0}) (And.intro @List.headD_nil.{0} (And.intro @List.tail_cons.{0} @List.tail_nil.{0}))) (And.intro (And.intro @noSh.eq_1 @noSh.eq_2) (And.intro @noSh.eq_3 (And.intro @noSh.eq_4 @noSh.eq_5))))) (And.intro (And.intro (And.intro (And.intro @noSh.eq_6 @noSh.eq_7) (And.intro @noSh.eq_8 (And.intro @noShs.eq_1 @noShs.eq_2))) (And.intro (And.intro @isSc.eq_1 @isSc.eq_2) (And.intro @impv.eq_1 (And.intro @impv.eq_2 @impv.eq_3)))) (And.intro (And.intro (And.intro @impv.eq_4 @impvs.eq_1) (And.intro @impvs.eq_2 (And.intro @impc.eq_1 @impc.eq_2))) (And.intro (And.intro @memB.eq_1 @memB.eq_2) (And.intro @keepB.eq_1 (And.intro @keepB.eq_2 @keepOB.eq_1))))))
set_option linter.defProp false in
def ZCg:=(And.intro (And.intro (And.intro (And.intro (And.intro @keepOB.eq_2 @or_true) (And.intro @true_or (And.intro @or_false @false_or))) (And.intro (And.intro @Bool.false_eq_true @Bool.true_eq_false) (And.intro @if_true.{1} (And.intro @if_false.{1} @Bool.not_true)))) (And.intro (And.intro (And.intro @Bool.not_false @scrE.eq_1) (And.intro @scrE.eq_2 (And.intro @scrL.eq_1 @scrL.eq_2))) (And.intro (And.intro @scr.eq_1 @scr.eq_2) (And.intro @scr.eq_3 (And.intro @scr.eq_4 @scr.eq_5))))) (And.intro (And.intro (And.intro (And.intro @scr.eq_6 @scr.eq_7) (And.intro @scr.eq_8 (And.intro @scrs.eq_1 @scrs.eq_2))) (And.intro (And.intro @scrOb.eq_1 @scrOb.eq_2) (And.intro @rmO.eq_1 (And.intro @rmO.eq_2 @Int.toNat_natCast)))) (And.intro (And.intro (And.intro @Int.toNat_zero @Int.toNat_one) (And.intro @List.all_cons.{0} (And.intro @List.all_nil.{0} @isCell.eq_1))) (And.intro (And.intro @isCell.eq_2 @isCell.eq_3) (And.intro @isCell.eq_4 (And.intro @isCell.eq_5 @isCell.eq_6))))))
set_option linter.defProp false in
def ZCh:=(And.intro (And.intro (And.intro (And.intro (And.intro @Bool.and_true @Bool.true_and) (And.intro @Bool.and_self @cellsOf.eq_1)) (And.intro (And.intro @cellsOf.eq_2 @totr.eq_1) (And.intro @totr.eq_2 (And.intro @totr.eq_3 @totr.eq_4)))) (And.intro (And.intro (And.intro @totr.eq_5 @totrs.eq_1) (And.intro @totrs.eq_2 (And.intro @tocs.eq_1 @getp.eq_1))) (And.intro (And.intro @getp.eq_2 @cvt.eq_1) (And.intro @cvt.eq_2 (And.intro @cvts.eq_1 @cvts.eq_2))))) (And.intro (And.intro (And.intro (And.intro @Nat.zero_add @Nat.add_zero) (And.intro @List.set_cons_zero.{0} @List.set_cons_succ.{0})) (And.intro (And.intro @Bool.not_eq_true' @Bool.not_eq_false') (And.intro @Int.natCast_nonneg (And.intro @Nat.le_refl @Prod.mk.injEq.{0,0})))) (And.intro (And.intro (And.intro @ne_eq.{1} @not_false_eq_true) (And.intro @not_true_eq_false (And.intro @List.length_map.{0,0} @List.length_replicate.{0}))) (And.intro (And.intro @List.replicate_zero.{0} @and_false) (And.intro @false_and (And.intro @and_self @Int.cast_ofNat_Int))))))
set_option linter.defProp false in
def EVA:=(And.intro (And.intro (And.intro EV0 (And.intro EV1 EV2)) (And.intro (And.intro EV3 EV4) (And.intro EV5 EV6))) (And.intro (And.intro (And.intro EV7 EV8) (And.intro EV9 ZCd)) (And.intro (And.intro ZCe ZCf) (And.intro ZCg ZCh))))
abbrev oo(d:Nat)(x:O):OP:=⟨some d,none,x⟩
abbrev on1(x:O):OP:=⟨none,none,x⟩
abbrev og(d j:Nat)(w:Bool)(x:O):OP:=⟨some d,some (j,w),x⟩
abbrev om(d:Nat)(x:X):OP:=⟨some d,none,.mv x none⟩
abbrev rg(l:List OP):C2:=.rg none l
abbrev i6(n:Int):X:=.k (.int .i64 n)
end Go.Fd

namespace Go.Fd
set_option maxRecDepth 10000
theorem Zn{c:Prop} [Decidable c]{p q:Prop}(h1:c->p)(h2:¬ c->q):if c then p else q:=by
 split
 ·exact h1 ‹_›
 ·exact h2 ‹_›
def szF{α:Type}(f:α->Int->Int):List α->Int->Int
 | [],l=>l
 | x::r,l=>if f x l<0 then -1 else szF f r (f x l)
def szL{α:Type}(f:α->Int->Int)(a:List α)(left:Int):Int:=if left-a.length<0 then -1 else szF f a (left-a.length)
def Zwy(k:Nat)(m:Option Nat)(fid:FuncId):F2 :=
 { nt:=27,res:=[.t 4 [0]],body :=
  (.sq (.rg none [⟨some 4,none,.mv (.k (.int .i64 0)) none⟩])
  (.sq (.rg none [⟨some 6,none,.mv (.t 1) none⟩,
   ⟨some 7,none,.mv (.t 0) none⟩,
   ⟨some 8,none,.ln (.t 7)⟩,
   ⟨some 9,none,.bi .sub 0 (.t 6) (.t 8)⟩,
   ⟨some 1,none,.mv (.t 9) none⟩])
  (.sq (.sq (.rg none [⟨some 10,none,.mv (.t 1) none⟩,
    ⟨some 11,none,.bi .lss 0 (.t 10) (.k (.int .i64 0))⟩])
  (.cd (.t 11) (.sq (.rg none [⟨some 4,none,.mv (.k (.int .i64 (-1))) none⟩])
   (.rt))
  (.sk)))
  (.sq (.sq (.rg none [⟨some 5,none,.mv (.k (.int .i64 0)) none⟩])
  (.bl 0 (.lp [0,1,5] [] (.sq (.sq (.rg none [⟨some 12,none,.mv (.t 5) none⟩,
     ⟨some 13,none,.mv (.t 0) none⟩,
     ⟨some 14,none,.ln (.t 13)⟩,
     ⟨some 15,none,.bi .lss 0 (.t 12) (.t 14)⟩])
    (.cd (.t 15) (.sk)
    (.ex 0)))
   (.sq (.bl 1 (.sq (.rg none [⟨some 18,none,.mv (.t 0) none⟩,
      ⟨some 19,none,.mv (.t 5) none⟩,
      ⟨some 20,none,.ia k (.t 18) (.t 19)⟩,
      ⟨some 21,none,.ld m (.t 20)⟩,
      ⟨some 22,none,.mv (.t 1) none⟩,
      ⟨some 23,none,.ca .pure false (.f fid) [.t 21,.t 22]⟩,
      ⟨some 1,none,.mv (.t 23) none⟩])
    (.sq (.rg none [⟨some 24,none,.mv (.t 1) none⟩,
      ⟨some 25,none,.bi .lss 0 (.t 24) (.k (.int .i64 0))⟩])
    (.cd (.t 25) (.sq (.rg none [⟨some 4,none,.mv (.k (.int .i64 (-1))) none⟩])
     (.rt))
    (.sk)))))
   (.rg none [⟨some 16,none,.mv (.t 5) none⟩,
    ⟨some 17,none,.bi .add 0 (.t 16) (.k (.int .i64 1))⟩,
    ⟨some 5,none,.mv (.t 17) none⟩]))))))
  (.sq (.rg none [⟨some 26,none,.mv (.t 1) none⟩,
   ⟨some 4,none,.mv (.t 26) none⟩])
  (.rt)))))) }
theorem Zlb{P:Program}{fid fe:FuncId}{k:Nat}(hc:ZI P fid (Zwy k (some k) fe)=true){α:Type}(c:α->List Tr)(f:α->Int->Int)(hk:∀ x,(c x).length=k)(a:List α)(left:Int)(h:a.length<=9223372036854775807)(h0:0<=left)(h1:left<=1048576)
  (hf:∀ x∈a,∀ l:Int,0<=l->l<=1048576->f x l<=l/\∀ lvl S,Sem P fe lvl [.ag ((c x).map .tr),iI l] S (iI (f x l)) S) (lvl:Nat) (S:Sto) :
  Sem P fid lvl [.tr (.sl (a.map c)),iI left] S (iI (szL f a left)) S:=by
 refine Zb hc trivial ?_
 simp only[Zwy,List.length_map,EVA,seval]
 refine⟨by rw[Zd];omega,?_⟩
 unfold szL
 split
 ·rfl
 ·rename_i hlt
  generalize hr:szF f a (left-a.length)=total
  refine Z3 (α:=Int) a.length (fun j l=>⟨lvl,[(0,.tr (.sl (a.map c))),(1,iI l),(5,iI j)],[],S⟩) (fun j l=>0<=l/\l<=1048576/\szF f (a.drop j) l=total) (left-a.length) ⟨by simp only[EVA,seval],by (simp only[EVA,seval]) <;> rfl⟩ ⟨by omega,by omega,hr⟩ ?_
  intro j l hj ⟨hl0,hl1,hl⟩
  simp only[List.length_map,EVA,seval]
  split
  ·rename_i hlt
   have hja:j<a.length:=by omega
   have ga:(a.map c)[j]? = some (c a[j]):=by simp [hja]
   have hkk:=hk a[j]
   have htk:(c a[j]).take k=c a[j]:=List.take_of_length_le (by omega)
   rw[List.drop_eq_getElem_cons hja] at hl
   obtain⟨hle,hsem⟩:=hf a[j] (List.getElem_mem hja) l hl0 hl1
   simp only[ga,hkk,htk,EVA,seval,Zj,men]
   refine Za hsem ?_
   simp only[EVA,seval]
   split
   ·rename_i hneg
    simp only[szF,if_pos hneg] at hl
    rw[hl]
   ·rename_i hneg
    simp only[szF,if_neg hneg] at hl
    refine⟨by rw[Zd];omega,Ze (f a[j] l) hja rfl ⟨by omega,by omega,hl⟩⟩
  ·rename_i hge
   have:j=a.length:=by omega
   subst this
   simp only[List.drop_length,szF] at hl
   rw[hl]
def ZAj:F2 :=
 { nt:=28,res:=[.t 4 [0]],body :=
  (.sq (.rg none [⟨some 4,none,.mv (.k (.int .i64 0)) none⟩])
  (.sq (.rg none [⟨some 6,none,.mv (.t 1) none⟩,
   ⟨some 7,none,.mv (.t 0) none⟩,
   ⟨some 8,none,.ln (.t 7)⟩,
   ⟨some 9,none,.bi .sub 0 (.t 6) (.t 8)⟩,
   ⟨some 1,none,.mv (.t 9) none⟩])
  (.sq (.sq (.rg none [⟨some 10,none,.mv (.t 1) none⟩,
    ⟨some 11,none,.bi .lss 0 (.t 10) (.k (.int .i64 0))⟩])
  (.cd (.t 11) (.sq (.rg none [⟨some 4,none,.mv (.k (.int .i64 (-1))) none⟩])
   (.rt))
  (.sk)))
  (.sq (.sq (.rg none [⟨some 5,none,.mv (.k (.int .i64 0)) none⟩])
  (.bl 0 (.lp [0,1,5] [] (.sq (.sq (.rg none [⟨some 12,none,.mv (.t 5) none⟩,
     ⟨some 13,none,.mv (.t 0) none⟩,
     ⟨some 14,none,.ln (.t 13)⟩,
     ⟨some 15,none,.bi .lss 0 (.t 12) (.t 14)⟩])
    (.cd (.t 15) (.sk)
    (.ex 0)))
   (.sq (.bl 1 (.sq (.rg none [⟨some 18,none,.mv (.t 1) none⟩,
      ⟨some 19,none,.mv (.t 0) none⟩,
      ⟨some 20,none,.mv (.t 5) none⟩,
      ⟨some 21,none,.ia 1 (.t 19) (.t 20)⟩,
      ⟨some 22,none,.ld none (.t 21)⟩,
      ⟨some 23,none,.lg (.t 22)⟩,
      ⟨some 24,none,.bi .sub 0 (.t 18) (.t 23)⟩,
      ⟨some 1,none,.mv (.t 24) none⟩])
    (.sq (.rg none [⟨some 25,none,.mv (.t 1) none⟩,
      ⟨some 26,none,.bi .lss 0 (.t 25) (.k (.int .i64 0))⟩])
    (.cd (.t 26) (.sq (.rg none [⟨some 4,none,.mv (.k (.int .i64 (-1))) none⟩])
     (.rt))
    (.sk)))))
   (.rg none [⟨some 16,none,.mv (.t 5) none⟩,
    ⟨some 17,none,.bi .add 0 (.t 16) (.k (.int .i64 1))⟩,
    ⟨some 5,none,.mv (.t 17) none⟩]))))))
  (.sq (.rg none [⟨some 27,none,.mv (.t 1) none⟩,
   ⟨some 4,none,.mv (.t 27) none⟩])
  (.rt)))))) }
theorem ZpJ{P:Program}{fid:FuncId}(hc:ZI P fid ZAj=true)(a:List ByteArray)(left:Int)(h:a.length<=9223372036854775807)(h0:0<=left)(h1:left<=1048576)
  (hf:∀ x∈a,x.size<=9223372036854775807) (lvl:Nat) (S:Sto) :
  Sem P fid lvl [tS a,iI left] S (iI (szL (fun x l=>l-x.size) a left)) S:=by
 refine Zb hc trivial ?_
 simp only[ZAj,List.length_map,EVA,seval]
 refine⟨by rw[Zd];omega,?_⟩
 unfold szL
 split
 ·rfl
 ·rename_i hlt
  generalize hr:szF (fun(x:ByteArray) l=>l-x.size) a (left-a.length)=total
  refine Z3 (α:=Int) a.length (fun j l=>⟨lvl,[(0,tS a),(1,iI l),(5,iI j)],[],S⟩) (fun j l=>0<=l/\l<=1048576/\szF (fun(x:ByteArray) l=>l-x.size) (a.drop j) l=total) (left-a.length) ⟨by simp only[EVA,seval],by (simp only[EVA,seval]) <;> rfl⟩ ⟨by omega,by omega,hr⟩ ?_
  intro j l hj ⟨hl0,hl1,hl⟩
  simp only[List.length_map,EVA,seval]
  split
  ·rename_i hlt
   have hja:j<a.length:=by omega
   have ga:(rS a)[j]? = some [ts a[j]]:=by simp [hja]
   rw[List.drop_eq_getElem_cons hja] at hl
   have hs:=hf a[j] (List.getElem_mem hja)
   simp only[ga,EVA,seval]
   refine⟨by rw[Zd];omega,?_⟩
   split
   ·rename_i hneg
    simp only[szF,if_pos hneg] at hl
    rw[hl]
   ·rename_i hneg
    simp only[szF,if_neg hneg] at hl
    refine⟨by rw[Zd];omega,Ze (l-a[j].size) hja rfl ⟨by omega,by omega,hl⟩⟩
  ·rename_i hge
   have:j=a.length:=by omega
   subst this
   simp only[List.drop_length,szF] at hl
   rw[hl]
def Zwz(k:Nat)(m:Option Nat)(fid:FuncId):F2 :=
 { nt:=27,res:=[.t 4 [0]],body :=
  (.sq (.rg none [⟨some 4,none,.mv (.k (.bool false)) none⟩])
  (.sq (.sq (.rg none [⟨some 6,none,.mv (.t 0) none⟩,
    ⟨some 7,none,.ln (.t 6)⟩,
    ⟨some 8,none,.mv (.t 1) none⟩,
    ⟨some 9,none,.ln (.t 8)⟩,
    ⟨some 10,none,.bi .neq 0 (.t 7) (.t 9)⟩])
  (.cd (.t 10) (.sq (.rg none [⟨some 4,none,.mv (.k (.bool false)) none⟩])
   (.rt))
  (.sk)))
  (.sq (.sq (.rg none [⟨some 5,none,.mv (.k (.int .i64 0)) none⟩])
  (.bl 0 (.lp [0,1,5] [] (.sq (.sq (.rg none [⟨some 11,none,.mv (.t 5) none⟩,
     ⟨some 12,none,.mv (.t 0) none⟩,
     ⟨some 13,none,.ln (.t 12)⟩,
     ⟨some 14,none,.bi .lss 0 (.t 11) (.t 13)⟩])
    (.cd (.t 14) (.sk)
    (.ex 0)))
   (.sq (.bl 1 (.sq (.rg (some 0) [⟨some 17,none,.mv (.t 0) none⟩,
      ⟨some 18,none,.mv (.t 5) none⟩,
      ⟨some 19,none,.ia k (.t 17) (.t 18)⟩,
      ⟨some 20,none,.ld m (.t 19)⟩,
      ⟨some 21,none,.mv (.t 1) none⟩,
      ⟨some 22,none,.mv (.t 5) none⟩,
      ⟨some 23,none,.ia k (.t 21) (.t 22)⟩,
      ⟨some 24,none,.ld m (.t 23)⟩,
      ⟨some 25,none,.ca .pure false (.f fid) [.t 20,.t 24]⟩,
      ⟨some 26,none,.nt (.t 25)⟩])
    (.cd (.t 26) (.sq (.rg none [⟨some 4,none,.mv (.k (.bool false)) none⟩])
     (.rt))
    (.sk))))
   (.rg none [⟨some 15,none,.mv (.t 5) none⟩,
    ⟨some 16,none,.bi .add 0 (.t 15) (.k (.int .i64 1))⟩,
    ⟨some 5,none,.mv (.t 16) none⟩]))))))
  (.sq (.rg none [⟨some 4,none,.mv (.k (.bool true)) none⟩])
  (.rt))))) }
theorem Zc6{α:Type}{a b:List α}{j:Nat}(ha:j<a.length)(hb:j<b.length)(h:a[j]≠b[j]):a≠b:=by
 intro e;subst e;exact h rfl
theorem ZbA{α:Type}{a b:List α}(hl:a.length=b.length)(h:a.take a.length=b.take a.length):a=b:=by
 rw[List.take_length,hl,List.take_length] at h;exact h
theorem Zac{α:Type}{a b:List α}{j:Nat}(ha:j<a.length)(hb:j<b.length)(h:a.take j=b.take j)(e:a[j]=b[j]):a.take (j+1)=b.take (j+1):=by
 rw[List.take_succ_eq_append_getElem ha,List.take_succ_eq_append_getElem hb,h,e]
theorem Zlc{P:Program}{fid fe:FuncId}{k:Nat}(hc:ZI P fid (Zwz k (some k) fe)=true){α:Type} [DecidableEq α](c:α->List Tr)(hk:∀ x,(c x).length=k)(a b:List α)(ha:a.length<=9223372036854775807)
  (hf:∀ x∈a,∀ y∈b,∀ lvl S,Sem P fe lvl [.ag ((c x).map .tr),.ag ((c y).map .tr)] S (iB (decide (x=y))) S) (lvl:Nat) (S:Sto) :
  Sem P fid lvl [.tr (.sl (a.map c)),.tr (.sl (b.map c))] S (iB (decide (a=b))) S:=by
 refine Zb hc trivial ?_
 simp only[Zwz,List.length_map,EVA,seval]
 split
 ·rename_i h
  have:¬ a=b:=fun e=>h (by rw[e])
  simp [this]
 ·rename_i h
  have hlen:a.length=b.length:=by omega
  refine Z3 (α:=Unit) a.length (fun j _=>⟨lvl,[(0,.tr (.sl (a.map c))),(1,.tr (.sl (b.map c))),(5,iI j)],[],S⟩) (fun j _=>a.take j=b.take j) () ⟨by simp only[EVA,seval],by (simp only[EVA,seval]) <;> rfl⟩ rfl ?_
  intro j _ hj hA
  simp only[List.length_map,EVA,seval]
  split
  ·rename_i hlt
   have hja:j<a.length:=by omega
   have hjb:j<b.length:=by omega
   have ga:(a.map c)[j]? = some (c a[j]):=by simp [hja]
   have gb:(b.map c)[j]? = some (c b[j]):=by simp [hjb]
   have hka:=hk a[j]
   have hkb:=hk b[j]
   have hta:(c a[j]).take k=c a[j]:=List.take_of_length_le (by omega)
   have htb:(c b[j]).take k=c b[j]:=List.take_of_length_le (by omega)
   have hsem:=hf a[j] (List.getElem_mem hja) b[j] (List.getElem_mem hjb)
   simp only[ga,gb,hka,hkb,hta,htb,EVA,seval,Zj,men]
   refine Za hsem ?_
   simp only[Bool.not_eq_true',EVA,seval]
   split
   ·rename_i hne
    have:¬ a=b:=Zc6 hja hjb (by simpa using hne)
    simp [this]
   ·rename_i he
    refine⟨by rw[Zd];omega,Ze () hja rfl (Zac hja hjb hA (by simpa using he))⟩
  ·rename_i hge
   have:j=a.length:=by omega
   subst this
   have:a=b:=ZbA hlen hA
   simp [this]
def Zs2:F2 :=
 { nt:=26,res:=[.t 4 [0]],body :=
  (.sq (.rg none [⟨some 4,none,.mv (.k (.bool false)) none⟩])
  (.sq (.sq (.rg none [⟨some 6,none,.mv (.t 0) none⟩,
    ⟨some 7,none,.ln (.t 6)⟩,
    ⟨some 8,none,.mv (.t 1) none⟩,
    ⟨some 9,none,.ln (.t 8)⟩,
    ⟨some 10,none,.bi .neq 0 (.t 7) (.t 9)⟩])
  (.cd (.t 10) (.sq (.rg none [⟨some 4,none,.mv (.k (.bool false)) none⟩])
   (.rt))
  (.sk)))
  (.sq (.sq (.rg none [⟨some 5,none,.mv (.k (.int .i64 0)) none⟩])
  (.bl 0 (.lp [0,1,5] [] (.sq (.sq (.rg none [⟨some 11,none,.mv (.t 5) none⟩,
     ⟨some 12,none,.mv (.t 0) none⟩,
     ⟨some 13,none,.ln (.t 12)⟩,
     ⟨some 14,none,.bi .lss 0 (.t 11) (.t 13)⟩])
    (.cd (.t 14) (.sk)
    (.ex 0)))
   (.sq (.bl 1 (.sq (.rg (some 0) [⟨some 17,none,.mv (.t 0) none⟩,
      ⟨some 18,none,.mv (.t 5) none⟩,
      ⟨some 19,none,.ia 1 (.t 17) (.t 18)⟩,
      ⟨some 20,none,.ld none (.t 19)⟩,
      ⟨some 21,none,.mv (.t 1) none⟩,
      ⟨some 22,none,.mv (.t 5) none⟩,
      ⟨some 23,none,.ia 1 (.t 21) (.t 22)⟩,
      ⟨some 24,none,.ld none (.t 23)⟩,
      ⟨some 25,none,.bi .neq 0 (.t 20) (.t 24)⟩])
    (.cd (.t 25) (.sq (.rg none [⟨some 4,none,.mv (.k (.bool false)) none⟩])
     (.rt))
    (.sk))))
   (.rg none [⟨some 15,none,.mv (.t 5) none⟩,
    ⟨some 16,none,.bi .add 0 (.t 15) (.k (.int .i64 1))⟩,
    ⟨some 5,none,.mv (.t 16) none⟩]))))))
  (.sq (.rg none [⟨some 4,none,.mv (.k (.bool true)) none⟩])
  (.rt))))) }
theorem Zsp{P:Program}{fid:FuncId}(hc:ZI P fid Zs2=true)(a b:List Int)(ha:a.length<=9223372036854775807)(lvl:Nat)(S:Sto):Sem P fid lvl [tI a,tI b] S (iB (decide (a=b))) S:=by
 refine Zb hc trivial ?_
 simp only[Zs2,List.length_map,EVA,seval]
 split
 ·rename_i h
  have:¬ a=b:=fun e=>h (by rw[e])
  simp [this]
 ·rename_i h
  have hlen:a.length=b.length:=by omega
  refine Z3 (α:=Unit) a.length (fun j _=>⟨lvl,[(0,tI a),(1,tI b),(5,iI j)],[],S⟩) (fun j _=>a.take j=b.take j) () ⟨by simp only[EVA,seval],by (simp only[EVA,seval]) <;> rfl⟩ rfl ?_
  intro j _ hj hA
  simp only[List.length_map,EVA,seval]
  split
  ·rename_i hlt
   have hja:j<a.length:=by omega
   have hjb:j<b.length:=by omega
   have ga:(rI a)[j]? = some [tv a[j]]:=by simp [hja]
   have gb:(rI b)[j]? = some [tv b[j]]:=by simp [hjb]
   simp only[ga,gb,EVA,seval]
   split
   ·rename_i hne
    have:¬ a=b:=Zc6 hja hjb (by simpa using hne)
    simp [this]
   ·rename_i he
    refine⟨by rw[Zd];omega,Ze () hja rfl (Zac hja hjb hA (by simpa using he))⟩
  ·rename_i hge
   have:j=a.length:=by omega
   subst this
   have:a=b:=ZbA hlen hA
   simp [this]
theorem Zsq{P:Program}{fid:FuncId}(hc:ZI P fid Zs2=true)(a b:List ByteArray)(ha:a.length<=9223372036854775807)(lvl:Nat)(S:Sto):Sem P fid lvl [tS a,tS b] S (iB (decide (a=b))) S:=by
 refine Zb hc trivial ?_
 simp only[Zs2,List.length_map,EVA,seval]
 split
 ·rename_i h
  have:¬ a=b:=fun e=>h (by rw[e])
  simp [this]
 ·rename_i h
  have hlen:a.length=b.length:=by omega
  refine Z3 (α:=Unit) a.length (fun j _=>⟨lvl,[(0,tS a),(1,tS b),(5,iI j)],[],S⟩) (fun j _=>a.take j=b.take j) () ⟨by simp only[EVA,seval],by (simp only[EVA,seval]) <;> rfl⟩ rfl ?_
  intro j _ hj hA
  simp only[List.length_map,EVA,seval]
  split
  ·rename_i hlt
   have hja:j<a.length:=by omega
   have hjb:j<b.length:=by omega
   have ga:(rS a)[j]? = some [ts a[j]]:=by simp [hja]
   have gb:(rS b)[j]? = some [ts b[j]]:=by simp [hjb]
   simp only[ga,gb,EVA,seval]
   split
   ·rename_i hne
    have:¬ a=b:=Zc6 hja hjb (by simpa using hne)
    simp [this]
   ·rename_i he
    refine⟨by rw[Zd];omega,Ze () hja rfl (Zac hja hjb hA (by simpa using he))⟩
  ·rename_i hge
   have:j=a.length:=by omega
   subst this
   have:a=b:=ZbA hlen hA
   simp [this]
def QZ{α:Type}(c:α->List Tr)(z:List Tr)(a:List α)(j:Nat):Row:=(a.take j).map c++List.replicate (a.length-j) z
theorem ZbB{α:Type}(c:α->List Tr)(z:List Tr)(a:List α):QZ c z a 0=List.replicate a.length z:=by simp [QZ]
theorem Zc7{α:Type}(c:α->List Tr)(z:List Tr)(a:List α):QZ c z a a.length=a.map c:=by simp [QZ]
theorem Zb4{α:Type}{c:α->List Tr}{z:List Tr}{a:List α}{j:Nat}(h:j<=a.length):(QZ c z a j).length=a.length:=by
 simp [QZ];omega
theorem Zc8{α:Type}{c:α->List Tr}{z:List Tr}{a:List α}{j:Nat}(h:j<a.length):(QZ c z a j)[j]? = some z:=by
 unfold QZ
 have h1:((a.take j).map c).length=j:=by rw[List.length_map,List.length_take];omega
 rw[List.getElem?_append_right (by omega),h1,Nat.sub_self,List.getElem?_replicate]
 rw[if_pos (by omega)]
theorem Zc9{α:Type}{c:α->List Tr}{z e:List Tr}{a:List α}{j:Nat}(h:j<a.length)(he:e=c a[j]):(QZ c z a j).set j e=QZ c z a (j+1):=by
 subst he
 unfold QZ
 have h1:((a.take j).map c).length=j:=by simp;omega
 rw[List.set_append_right _ _ (by omega),h1,Nat.sub_self,show a.length-j=(a.length-(j+1))+1 from by omega,List.replicate_succ,List.set_cons_zero,List.take_succ_eq_append_getElem h,List.map_append]
 simp
def ZAk(z:Value):F2 :=
 { nt:=22,res:=[.t 2 [2]],body :=
  (.sq (.rg none [⟨some 2,none,.mv (.k (.slice none 0 0)) none⟩])
  (.sq (.rg none [⟨some 5,none,.mv (.t 0) none⟩,
   ⟨some 6,none,.ln (.t 5)⟩,
   ⟨some 7,none,.ms 1 [z] (.t 6)⟩,
   ⟨some 3,none,.mv (.t 7) none⟩])
  (.sq (.sq (.rg none [⟨some 4,none,.mv (.k (.int .i64 0)) none⟩])
  (.bl 0 (.lp [0,3,4] [224] (.sq (.sq (.rg none [⟨some 8,none,.mv (.t 4) none⟩,
     ⟨some 9,none,.mv (.t 0) none⟩,
     ⟨some 10,none,.ln (.t 9)⟩,
     ⟨some 11,none,.bi .lss 0 (.t 8) (.t 10)⟩])
    (.cd (.t 11) (.sk)
    (.ex 0)))
   (.sq (.bl 1 (.rg none [⟨some 14,none,.mv (.t 3) none⟩,
     ⟨some 15,none,.mv (.t 4) none⟩,
     ⟨some 16,none,.mv (.t 0) none⟩,
     ⟨some 17,none,.mv (.t 4) none⟩,
     ⟨some 18,none,.ia 1 (.t 16) (.t 17)⟩,
     ⟨some 19,none,.ld none (.t 18)⟩,
     ⟨some 20,none,.ia 1 (.t 14) (.t 15)⟩,
     ⟨none,none,.st 1 (.t 20) (.t 19)⟩]))
   (.rg none [⟨some 12,none,.mv (.t 4) none⟩,
    ⟨some 13,none,.bi .add 0 (.t 12) (.k (.int .i64 1))⟩,
    ⟨some 4,none,.mv (.t 13) none⟩]))))))
  (.sq (.rg none [⟨some 21,none,.mv (.t 3) none⟩,
   ⟨some 2,none,.mv (.t 21) none⟩])
  (.rt))))) }
theorem Zsr{P:Program}{fid:FuncId}(hc:ZI P fid (ZAk (.string ⟨#[]⟩))=true)(a:List ByteArray)(ha:a.length<=4294967296)(lvl:Nat)(S:Sto):Sem P fid lvl [tS a] S (.ow 1 (rS a) true) S:=by
 refine Zb hc trivial ?_
 simp only[ZAk,List.length_map,bigN,EVA,seval]
 refine⟨by omega,?_⟩
 refine Z3 (α:=Unit) a.length (fun j _=>⟨lvl,[(0,tS a),(3,.hd (lvl,224) [] 0 a.length none a.length),(4,iI j)],[(224,.ar 1 (QZ (fun n=>[ts n]) [ts ⟨#[]⟩] a j) true a.length 0)],S⟩) (fun _ _=>True) () ⟨by simp only[EVA,seval],by (simp only[ZbB,EVA,seval]) <;> rfl⟩ trivial ?_
 intro j _ hj _
 simp only[List.length_map,EVA,seval]
 split
 ·rename_i hlt
  have hja:j<a.length:=by omega
  have ga:(rS a)[j]? = some [ts a[j]]:=by simp [hja]
  have gz:(QZ (fun n=>[ts n]) [ts ⟨#[]⟩] a j)[j]? = some [ts ⟨#[]⟩]:=Zc8 hja
  simp only[ga,gz,hja,YK,List.set_cons_zero,Zbx,EVA,seval]
  refine⟨by rw[Zd];omega,Ze () hja ?_ trivial⟩
  rw[Zc9 hja rfl]
  rfl
 ·rename_i hge
  have:j=a.length:=by omega
  subst this
  rw[Zc7]
  simp
end Go.Fd

namespace Go.Fd
set_option maxRecDepth 10000
end Go.Fd

namespace Go.Fd
def Zld(l:Int)(g:Int->Int):Int:=if l<0 then -1 else g l
def Zq(c:Int)(s:Int->Int)(q:Nat):Prop:=∀ l:Int,0<=l->l<=1048576->s l<=l/\(0<=s l->(q:Int)<=c+256*(l-s l))
theorem ZvG:Zq 0 (fun l=>l) 0:=fun l _ _=>⟨Int.le_refl _,fun _=>by simp only;omega⟩
theorem ZvH{c e:Int}{s g:Int->Int}{q r:Nat}(hc:0<=c)(he:0<=e)(hs:Zq c s q)(hg:Zq e g r):Zq (c+e) (fun l=>Zld (s l) g) (q+r):=fun l h0 h1=>by
 have a:=hs l h0 h1
 by_cases h:s l<0
 ·simp only[Zld,if_pos h]
  exact⟨by omega,fun h=>by omega⟩
 ·simp only[Zld,if_neg h]
  have b:=hg (s l) (by omega) (by omega)
  refine⟨by omega,fun h2=>?_⟩
  have:=a.2 (by omega)
  have:=b.2 h2
  omega
theorem ZvI(n:Nat):Zq 0 (fun l=>l-n) 0:=fun l h0 h1=>⟨by simp only;omega,fun h=>by simp only at h ⊢;omega⟩
theorem Zss(n:Nat):Zq 256 (fun l=>l-n) 1:=fun l h0 h1=>⟨by simp only;omega,fun h=>by simp only at h ⊢;omega⟩
theorem ZA0{α:Type}{f:α->Int->Int}{n:α->Nat}(hf:∀ x,Zq 256 (f x) (n x)):∀(a:List α),Zq (256*a.length) (fun l=>szF f a l) (nL n a)
 | []=>fun l _ _=>⟨Int.le_refl l,fun _=>by simp only[szF,nL,List.length_nil];omega⟩
 | x::r=>fun l h0 h1=>by
  simp only[szF,nL,List.length_cons]
  have a:=hf x l h0 h1
  split
  ·exact⟨by omega,fun h=>by omega⟩
  ·have b:=ZA0 hf r (f x l) (by omega) (by omega)
   simp only at b
   refine⟨by omega,fun h=>?_⟩
   have:=a.2 (by omega)
   have:=b.2 h
   omega
theorem ZAl{α:Type}{f:α->Int->Int}{n:α->Nat}(hf:∀ x,Zq 256 (f x) (n x))(a:List α):Zq 0 (fun l=>szL f a l) (nL n a):=fun l h0 h1=>by
 simp only[szL]
 split
 ·exact⟨by omega,fun h=>by omega⟩
 ·have b:=ZA0 hf a (l-a.length) (by omega) (by omega)
  simp only at b
  refine⟨by omega,fun h=>?_⟩
  have:=b.2 h
  omega
theorem Zle{c e:Int}{s:Int->Int}{q r:Nat}(h:Zq c s q)(hq:(r:Int)+c<=q+e):Zq e s r:=fun l h0 h1=>by
 have a:=h l h0 h1
 refine⟨a.1,fun h2=>?_⟩
 have:=a.2 h2
 omega
end Go.Fd

namespace Go.Fd
set_option maxRecDepth 10000
structure TNode where
 control:Int
 parent:Int
 links:(List Int)
 deriving DecidableEq
def Z9(x:TNode):List Tr:=[tv x.control,tv x.parent,.sl (rI x.links)]
def ZiP(n:Nat)(x:TNode):Prop:=x.links.length<=n
def ZvJ(x:TNode):Prop:=Xt .i64 x.control/\Xt .i64 x.parent/\(∀ y∈x.links,Xt .i64 y)
structure TWire where
 name:ByteArray
 link:Int
 deriving DecidableEq
def Jc(x:TWire):List Tr:=[ts x.name,tv x.link]
def ZdB(n:Nat)(x:TWire):Prop:=x.name.size<=n
def ZvK(x:TWire):Prop:=Xt .i64 x.link
structure TBigraph where
 roots:Int
 nodes:(List TNode)
 sites:(List Int)
 edges:Int
 outer:(List ByteArray)
 inner:(List TWire)
 deriving DecidableEq
def Zc(x:TBigraph):List Tr:=[tv x.roots,.sl (x.nodes.map Z9),.sl (rI x.sites),tv x.edges,.sl (rS x.outer),.sl (x.inner.map Jc)]
def Zi(x:TBigraph):IV:=.ag [iI x.roots,.ow 3 (x.nodes.map Z9) true,.ow 1 (rI x.sites) true,iI x.edges,.ow 1 (rS x.outer) true,.ow 2 (x.inner.map Jc) true]
def Zs(n:Nat)(x:TBigraph):Prop:=x.nodes.length<=n/\(∀ y∈x.nodes,ZiP n y)/\x.sites.length<=n/\x.outer.length<=n/\(∀ y∈x.outer,y.size<=n)/\x.inner.length<=n/\(∀ y∈x.inner,ZdB n y)
def Zy(x:TBigraph):Prop:=Xt .i64 x.roots/\(∀ y∈x.nodes,ZvJ y)/\(∀ y∈x.sites,Xt .i64 y)/\Xt .i64 x.edges/\(∀ y∈x.inner,ZvK y)
structure TControl where
 name:ByteArray
 ports:Int
 kind_:Int
 deriving DecidableEq
def Zh(x:TControl):List Tr:=[ts x.name,tv x.ports,tv x.kind_]
theorem ZdC(x:TControl):(Zh x).length=3:=rfl
def Zhj(x:TControl):IV:=.ag [iS x.name,iI x.ports,iI x.kind_]
def Zr(n:Nat)(x:TControl):Prop:=x.name.size<=n
def ZiQ(x:TControl):Prop:=Xt .i64 x.ports/\Xt .i64 x.kind_
def J4(x:TControl)(l:Int):Int:=Zld (l-x.name.size) fun l=>l
structure TTermStep where
 kind_:Int
 control:Int
 site:Int
 names:(List ByteArray)
 deriving DecidableEq
def Zf(x:TTermStep):List Tr:=[tv x.kind_,tv x.control,tv x.site,.sl (rS x.names)]
theorem Zhk(x:TTermStep):(Zf x).length=4:=rfl
def ZeV(x:TTermStep):IV:=.ag [iI x.kind_,iI x.control,iI x.site,.ow 1 (rS x.names) true]
def ZA(n:Nat)(x:TTermStep):Prop:=x.names.length<=n/\(∀ y∈x.names,y.size<=n)
def Zgu(x:TTermStep):Prop:=Xt .i64 x.kind_/\Xt .i64 x.control/\Xt .i64 x.site
def Yc(x:TTermStep)(l:Int):Int:=Zld (szL (fun x m=>m-x.size) x.names l) fun l=>l
end Go.Fd

namespace Go.Fd
abbrev V6:FuncId:=5
abbrev Qr:FuncId:=15
abbrev VN:FuncId:=16
abbrev Jy:FuncId:=18
abbrev Ju:FuncId:=19
abbrev Qs:FuncId:=21
abbrev VO:FuncId:=22
abbrev Q0:FuncId:=25
abbrev Y8:FuncId:=26
abbrev Vg:FuncId:=27
abbrev Vh:FuncId:=28
abbrev Y4:FuncId:=29
abbrev Xz:FuncId:=30
abbrev VA:FuncId:=31
abbrev Q1:FuncId:=57
abbrev Qt:FuncId:=58
abbrev X7:FuncId:=59
abbrev XJ:FuncId:=60
abbrev Q3:FuncId:=61
abbrev Qu:FuncId:=62
abbrev JP:FuncId:=63
abbrev Q4:FuncId:=64
abbrev Q5:FuncId:=65
abbrev Qv:FuncId:=66
abbrev Uw:FuncId:=67
abbrev X8:FuncId:=68
abbrev XA:FuncId:=69
abbrev Q6:FuncId:=70
abbrev VB:FuncId:=71
abbrev VP:FuncId:=72
abbrev Q7:FuncId:=74
abbrev ZY:FuncId:=89
abbrev ZQ:FuncId:=93
abbrev Q8:FuncId:=99
abbrev Q9:FuncId:=104
abbrev WG:FuncId:=110
abbrev Y2:FuncId:=111
abbrev Vi:FuncId:=112
abbrev J5:FuncId:=113
abbrev Ja:FuncId:=114
abbrev J8:FuncId:=115
abbrev X9:FuncId:=116
abbrev Jz:FuncId:=117
abbrev WH:FuncId:=118
abbrev Xa:FuncId:=119
abbrev WI:FuncId:=120
abbrev WJ:FuncId:=121
abbrev Z6:FuncId:=122
abbrev Dj:FuncId:=123
abbrev Yd:FuncId:=124
abbrev XK:FuncId:=125
abbrev Yk:FuncId:=139
abbrev ZJ:FuncId:=142
abbrev ZG:FuncId:=144
abbrev J6:FuncId:=147
abbrev ZZ:FuncId:=156
abbrev Z4:FuncId:=158
abbrev Z2:FuncId:=167
abbrev Ux:FuncId:=168
abbrev Qw:FuncId:=169
abbrev DE:FuncId:=170
abbrev Ji:FuncId:=171
abbrev YP:FuncId:=172
abbrev Jd:FuncId:=173
abbrev Qi:FuncId:=174
abbrev WK:FuncId:=175
abbrev WL:FuncId:=176
abbrev Wa:FuncId:=177
abbrev WM:FuncId:=178
abbrev Zz:FuncId:=179
abbrev VC:FuncId:=180
abbrev ZN:FuncId:=181
abbrev WN:FuncId:=182
abbrev Yl:FuncId:=183
abbrev JI:FuncId:=184
abbrev Xb:FuncId:=185
abbrev Wb:FuncId:=186
abbrev Dk:FuncId:=187
abbrev ZS:FuncId:=197
abbrev Qj:FuncId:=198
abbrev Wc:FuncId:=199
abbrev WO:FuncId:=200
abbrev Qk:FuncId:=201
abbrev Xc:FuncId:=202
abbrev Xd:FuncId:=204
abbrev VD:FuncId:=206
abbrev JE:FuncId:=207
abbrev JA:FuncId:=208
abbrev VQ:FuncId:=209
abbrev JR:FuncId:=210
abbrev VS:FuncId:=211
abbrev Jq:FuncId:=212
abbrev VT:FuncId:=213
abbrev XL:FuncId:=218
abbrev ZU:FuncId:=226
abbrev YD:FuncId:=227
abbrev JZ:FuncId:=228
abbrev JK:FuncId:=229
abbrev WP:FuncId:=230
abbrev JJ:FuncId:=231
abbrev Wd:FuncId:=232
abbrev WQ:FuncId:=233
abbrev Uy:FuncId:=234
abbrev ZW:FuncId:=235
abbrev Uz:FuncId:=236
abbrev Vj:FuncId:=237
abbrev WR:FuncId:=238
abbrev JS:FuncId:=239
abbrev Qx:FuncId:=240
abbrev Y3:FuncId:=241
abbrev XB:FuncId:=242
abbrev J7:FuncId:=243
abbrev Zw:FuncId:=244
abbrev Ws:FuncId:=245
abbrev Y9:FuncId:=253
abbrev JB:FuncId:=254
abbrev Jj:FuncId:=262
abbrev XW:FuncId:=263
abbrev Qy:FuncId:=264
abbrev Xe:FuncId:=265
abbrev QJ:FuncId:=266
abbrev YY:FuncId:=267
abbrev Ql:FuncId:=268
abbrev V7:FuncId:=269
abbrev XC:FuncId:=270
abbrev ZbC:FuncId:=271
abbrev Qz:FuncId:=272
abbrev We:FuncId:=273
abbrev WS:FuncId:=274
abbrev JL:FuncId:=275
abbrev Vk:FuncId:=276
abbrev XD:FuncId:=277
abbrev Qm:FuncId:=278
abbrev Ye:FuncId:=279
abbrev JM:FuncId:=280
abbrev Jv:FuncId:=281
abbrev Wf:FuncId:=282
abbrev Yf:FuncId:=283
abbrev YE:FuncId:=284
abbrev Xf:FuncId:=285
abbrev Vl:FuncId:=286
abbrev Z7:FuncId:=287
abbrev JT:FuncId:=288
abbrev YF:FuncId:=289
abbrev Ym:FuncId:=290
abbrev YQ:FuncId:=291
abbrev YR:FuncId:=292
abbrev ZK:FuncId:=293
abbrev Jk:FuncId:=294
abbrev VU:FuncId:=295
abbrev Jh:FuncId:=296
abbrev YA:FuncId:=297
abbrev Jr:FuncId:=298
abbrev Y5:FuncId:=299
abbrev VE:FuncId:=320
abbrev VF:FuncId:=321
abbrev VG:FuncId:=322
abbrev J0:FuncId:=323
abbrev XM:FuncId:=324
abbrev JN:FuncId:=325
abbrev ZE:FuncId:=326
abbrev Jl:FuncId:=327
abbrev J9:FuncId:=328
abbrev ZV:FuncId:=329
abbrev Jw:FuncId:=330
abbrev ZX:FuncId:=343
abbrev V8:FuncId:=344
abbrev Y6:FuncId:=345
abbrev Vm:FuncId:=346
abbrev Vd:FuncId:=347
abbrev Yn:FuncId:=348
abbrev YZ:FuncId:=349
abbrev VV:FuncId:=350
abbrev ZO:FuncId:=351
abbrev Z8:FuncId:=361
abbrev Xg:FuncId:=362
abbrev VH:FuncId:=363
abbrev V9:FuncId:=364
abbrev VW:FuncId:=365
abbrev YG:FuncId:=366
abbrev YS:FuncId:=367
abbrev Vn:FuncId:=368
abbrev QK:FuncId:=369
abbrev YB:FuncId:=376
end Go.Fd

namespace Go.Fd
def DF:F2 :=
 { nt:=19,res:=[.t 4 [2],.t 5 [0]],body :=
  (.sq (rg [om 4 (.k (.slice none 0 0)),
 om 5 (.k (.bool false))])
 (.sq (.sq (rg [om 9 (.t 0),
 om 10 (.t 1),
 oo 11 (.ca .pure true (.f X7) [.t 9,.t 10]),
 om 8 (.t 11),
 oo 12 (.ex 0 (.t 8)),
 oo 13 (.ex 1 (.t 8)),
 oo 6 (.al [.int .i64 0,.slice none 0 0,.slice none 0 0,.int .i64 0,.slice none 0 0,.slice none 0 0] []),
 on1 (.st 6 (.t 6) (.t 12)),
 om 7 (.t 13)])
 (.sq (rg [om 14 (.t 7),
 oo 15 (.nt (.t 14))])
 (.cd (.t 15) (.sq (rg [oo 16 (.bs 1 0 [] []),
 om 4 (.t 16),
 om 5 (.k (.bool false))])
 (.rt))
 (.sk))))
 (.sq (rg [om 17 (.t 1),
 oo 18 (.ca .pure true (.f XA) [.t 17]),
 om 4 (.t 18),
 om 5 (.k (.bool true))])
 (.rt)))) }
theorem ZdY:ZI Go.Proofs.Tryz.prog Q0 DF=true:=by kernel_rfl
def DG:F2 :=
 { nt:=18,res:=[.t 4 [2],.t 5 [0]],body :=
  (.sq (rg [om 4 (.k (.slice none 0 0)),
 om 5 (.k (.bool false))])
 (.sq (.sq (rg [om 9 (.t 0),
 om 10 (.t 1),
 oo 11 (.ca .pure true (.f Q4) [.t 9,.t 10]),
 om 8 (.t 11),
 oo 12 (.ex 0 (.t 8)),
 oo 13 (.ex 1 (.t 8)),
 oo 6 (.al [.int .i64 0,.slice none 0 0,.slice none 0 0,.int .i64 0,.slice none 0 0,.slice none 0 0] []),
 on1 (.st 6 (.t 6) (.t 12)),
 om 7 (.t 13)])
 (.sq (rg [om 14 (.t 7),
 oo 15 (.nt (.t 14))])
 (.cd (.t 15) (.sq (rg [om 4 (.k (.slice none 0 0)),
 om 5 (.k (.bool false))])
 (.rt))
 (.sk))))
 (.sq (rg [om 16 (.t 1),
 oo 17 (.ca .pure true (.f Q6) [.t 16]),
 om 4 (.t 17),
 om 5 (.k (.bool true))])
 (.rt)))) }
theorem ZdZ:ZI Go.Proofs.Tryz.prog Y8 DG=true:=by kernel_rfl
def Zbb:F2 :=
 { nt:=83,res:=[.c 4 (some 6) [0,4,2,0,2,3],.t 5 [0]],body :=
  (.sq (rg [oo 4 (.al [.int .i64 0,.slice none 0 0,.slice none 0 0,.int .i64 0,.slice none 0 0,.slice none 0 0] []),
 om 5 (.k (.bool false))])
 (.sq (.sq (rg [om 12 (.t 0),
 oo 13 (.ca .pure false (.f XJ) [.t 12]),
 oo 14 (.nt (.t 13)),
 om 15 (.t 14),
 og 16 15 false (.mv (.t 1) none),
 og 17 15 false (.ln (.t 16)),
 og 18 15 false (.bi .gtr 0 (.t 17) (i6 60)),
 oo 19 (.pk (.t 15) (.k (.bool true)) (.t 18))])
 (.cd (.t 19) (.sq (rg [oo 20 (.bd [.int .i64 0,.slice none 0 0,.slice none 0 0,.int .i64 0,.slice none 0 0,.slice none 0 0] [] []),
 on1 (.st 6 (.t 4) (.t 20)),
 om 5 (.k (.bool false))])
 (.rt))
 (.sk)))
 (.sq (rg [om 22 (.t 0),
 om 23 (.t 1),
 oo 24 (.ca .pure false (.f Uw) [.t 22,.t 23]),
 om 21 (.t 24),
 oo 25 (.ex 0 (.t 21)),
 oo 26 (.ex 1 (.t 21)),
 oo 27 (.ex 2 (.t 21)),
 om 6 (.t 25),
 om 7 (.t 26),
 om 8 (.t 27)])
 (.sq (.sq (.rg (some 0) [om 28 (.t 8),
 oo 29 (.nt (.t 28)),
 om 30 (.t 29),
 og 31 30 false (.mv (.t 6) none),
 og 32 30 false (.ln (.t 31)),
 og 33 30 false (.bi .neq 0 (.t 32) (i6 1)),
 oo 34 (.pk (.t 30) (.k (.bool true)) (.t 33)),
 om 35 (.t 34),
 og 36 35 false (.mv (.t 6) none),
 og 37 35 false (.ia 7 (.t 36) (i6 0)),
 og 38 35 false (.fa 6 (.t 37)),
 og 39 35 false (.ld none (.t 38)),
 og 40 35 false (.mv (.t 6) none),
 og 41 35 false (.ia 7 (.t 40) (i6 0)),
 og 42 35 false (.fa 6 (.t 41)),
 og 43 35 false (.ld none (.t 42)),
 og 44 35 false (.ln (.t 43)),
 og 45 35 false (.ca .pure false (.f WG) [.t 39,.t 44]),
 og 46 35 false (.nt (.t 45)),
 oo 47 (.pk (.t 35) (.k (.bool true)) (.t 46))])
 (.cd (.t 47) (.sq (rg [oo 48 (.bd [.int .i64 0,.slice none 0 0,.slice none 0 0,.int .i64 0,.slice none 0 0,.slice none 0 0] [] []),
 on1 (.st 6 (.t 4) (.t 48)),
 om 5 (.k (.bool false))])
 (.rt))
 (.sk)))
 (.sq (.rg (some 0) [om 49 (.t 6),
 oo 50 (.ia 7 (.t 49) (i6 0)),
 oo 51 (.fa 0 (.t 50)),
 oo 52 (.ld (some 6) (.t 51)),
 oo 53 (.ca .pure true (.f Y2) [.t 52]),
 om 54 (.t 6),
 oo 55 (.it 7 (.t 54) (i6 0)),
 oo 56 (.fa 6 (.t 55)),
 oo 57 (.lt none (.t 56)),
 oo 58 (.ln (.t 57)),
 oo 59 (.ms 1 [.int .i64 0] (.t 58)),
 oo 9 (.al [.int .i64 0,.slice none 0 0,.slice none 0 0,.int .i64 0,.slice none 0 0,.slice none 0 0] []),
 on1 (.s0 6 (.t 9) (.t 53)),
 om 10 (.t 59)])
 (.sq (.sq (rg [om 11 (i6 0)])
 (.bl 0 (.lp [4,6,9,10,11] [128,288,1696,1697,1698,1699,1888] (.sq (.sq (rg [om 60 (.t 11),
 om 61 (.t 10),
 oo 62 (.ln (.t 61)),
 oo 63 (.bi .lss 0 (.t 60) (.t 62))])
 (.cd (.t 63) (.sk)
 (.ex 0)))
 (.sq (.bl 1 (.rg (some 0) [om 66 (.t 10),
 om 67 (.t 6),
 oo 68 (.ia 7 (.t 67) (i6 0)),
 oo 69 (.fa 6 (.t 68)),
 oo 70 (.ld none (.t 69)),
 om 71 (.t 11),
 oo 72 (.ia 1 (.t 70) (.t 71)),
 oo 73 (.ld none (.t 72)),
 oo 74 (.fa 2 (.t 9)),
 oo 75 (.ld none (.t 74)),
 om 76 (.t 11),
 oo 77 (.ia 1 (.t 75) (.t 76)),
 oo 78 (.ld none (.t 77)),
 oo 79 (.ia 1 (.t 66) (.t 73)),
 on1 (.st 1 (.t 79) (.t 78))]))
 (rg [om 64 (.t 11),
 oo 65 (.bi .add 0 (.t 64) (i6 1)),
 om 11 (.t 65)]))))))
 (.sq (rg [om 80 (.t 10),
 oo 81 (.fa 2 (.t 9)),
 on1 (.st 1 (.t 81) (.t 80))])
 (.sq (rg [oo 82 (.ld (some 6) (.t 9)),
 on1 (.st 6 (.t 4) (.t 82)),
 om 5 (.k (.bool true))])
 (.rt))))))))) }
theorem ZfL:ZI Go.Proofs.Tryz.prog X7 Zbb=true:=by kernel_rfl
def ZdD:F2 :=
 { nt:=55,res:=[.t 2 [0]],body :=
  (.sq (rg [om 2 (.k (.bool false))])
 (.sq (.sq (rg [om 3 (i6 0)])
 (.bl 0 (.lp [0,3] [] (.sq (.sq (rg [om 5 (.t 3),
 om 6 (.t 0),
 oo 7 (.ln (.t 6)),
 oo 8 (.bi .lss 0 (.t 5) (.t 7))])
 (.cd (.t 8) (.sk)
 (.ex 0)))
 (.sq (.bl 1 (.sq (.sq (rg [om 11 (.t 0),
 om 12 (.t 3),
 oo 13 (.ia 3 (.t 11) (.t 12)),
 oo 14 (.fa 0 (.t 13)),
 oo 15 (.ld none (.t 14)),
 oo 16 (.ca .pure false (.f Vi) [.t 15]),
 oo 17 (.nt (.t 16)),
 om 18 (.t 17),
 og 19 18 false (.mv (.t 0) none),
 og 20 18 false (.mv (.t 3) none),
 og 21 18 false (.ia 3 (.t 19) (.t 20)),
 og 22 18 false (.fa 1 (.t 21)),
 og 23 18 false (.ld none (.t 22)),
 og 24 18 false (.ca .pure false (.f ZY) [.t 23,i6 0,i6 3]),
 og 25 18 false (.nt (.t 24)),
 oo 26 (.pk (.t 18) (.k (.bool true)) (.t 25)),
 om 27 (.t 26),
 og 28 27 false (.mv (.t 0) none),
 og 29 27 false (.mv (.t 3) none),
 og 30 27 false (.ia 3 (.t 28) (.t 29)),
 og 31 27 false (.fa 2 (.t 30)),
 og 32 27 false (.ld none (.t 31)),
 og 33 27 false (.ca .pure false (.f ZY) [.t 32,i6 0,i6 2]),
 og 34 27 false (.nt (.t 33)),
 oo 35 (.pk (.t 27) (.k (.bool true)) (.t 34))])
 (.cd (.t 35) (.sq (rg [om 2 (.k (.bool false))])
 (.rt))
 (.sk)))
 (.sq (rg [om 4 (i6 0)])
 (.bl 2 (.lp [0,3,4] [] (.sq (.sq (rg [om 36 (.t 4),
 om 37 (.t 3),
 oo 38 (.bi .lss 0 (.t 36) (.t 37))])
 (.cd (.t 38) (.sk)
 (.ex 2)))
 (.sq (.bl 3 (.sq (.rg (some 0) [om 41 (.t 0),
 om 42 (.t 4),
 oo 43 (.ia 3 (.t 41) (.t 42)),
 oo 44 (.fa 0 (.t 43)),
 oo 45 (.ld none (.t 44)),
 om 46 (.t 0),
 om 47 (.t 3),
 oo 48 (.ia 3 (.t 46) (.t 47)),
 oo 49 (.fa 0 (.t 48)),
 oo 50 (.ld none (.t 49)),
 oo 51 (.bi .eql 0 (.t 45) (.t 50))])
 (.cd (.t 51) (.sq (rg [om 2 (.k (.bool false))])
 (.rt))
 (.sk))))
 (rg [om 39 (.t 4),
 oo 40 (.bi .add 0 (.t 39) (i6 1)),
 om 4 (.t 40)]))))))))
 (rg [om 9 (.t 3),
 oo 10 (.bi .add 0 (.t 9) (i6 1)),
 om 3 (.t 10)]))))))
 (.sq (rg [om 52 (.t 0),
 oo 53 (.ln (.t 52)),
 oo 54 (.ca .pure false (.f ZY) [.t 53,i6 1,i6 6]),
 om 2 (.t 54)])
 (.rt)))) }
theorem ZiR:ZI Go.Proofs.Tryz.prog XJ ZdD=true:=by kernel_rfl
def Uh:F2 :=
 { nt:=40,res:=[.t 2 [0]],body :=
  (.sq (rg [om 2 (.k (.bool false))])
 (.sq (.sq (rg [om 5 (.t 0),
 oo 6 (.ln (.t 5)),
 oo 7 (.ca .pure false (.f ZQ) [.t 6,i6 1,i6 6]),
 oo 8 (.nt (.t 7))])
 (.cd (.t 8) (.sq (rg [om 2 (.k (.bool false))])
 (.rt))
 (.sk)))
 (.sq (.sq (rg [om 9 (.t 0),
 oo 10 (.ln (.t 9)),
 om 11 (i6 0)])
 (.bl 0 (.lp [0,9,10,11] [] (.sq (rg [oo 12 (.bi .lss 0 (.t 11) (.t 10))])
 (.sq (.cd (.t 12) (.sk)
 (.ex 0))
 (.sq (.bl 1 (.sq (rg [om 13 (.t 11),
 oo 14 (.ia 3 (.t 9) (.t 11)),
 oo 15 (.ld (some 3) (.t 14)),
 oo 4 (.al [.string ⟨#[]⟩,.int .i64 0,.int .i64 0] []),
 om 3 (.t 13),
 on1 (.st 3 (.t 4) (.t 15))])
 (.sq (rg [oo 16 (.fa 0 (.t 4)),
 oo 17 (.ld none (.t 16)),
 oo 18 (.ca .pure false (.f J5) [.t 17]),
 oo 19 (.nt (.t 18)),
 om 20 (.t 19),
 og 21 20 false (.fa 1 (.t 4)),
 og 22 20 false (.ld none (.t 21)),
 og 23 20 false (.ca .pure false (.f ZQ) [.t 22,i6 0,i6 3]),
 og 24 20 false (.nt (.t 23)),
 oo 25 (.pk (.t 20) (.k (.bool true)) (.t 24)),
 om 26 (.t 25),
 og 27 26 false (.fa 2 (.t 4)),
 og 28 26 false (.ld none (.t 27)),
 og 29 26 false (.ca .pure false (.f ZQ) [.t 28,i6 0,i6 2]),
 og 30 26 false (.nt (.t 29)),
 oo 31 (.pk (.t 26) (.k (.bool true)) (.t 30)),
 om 32 (.t 31),
 og 33 32 false (.mv (.t 0) none),
 og 34 32 false (.mv (.t 3) none),
 og 35 32 false (.sx 3 (.t 33) none (some (.t 34)) none),
 og 36 32 false (.mf J8 [.t 4]),
 og 37 32 false (.ca .pure false (.f Ja) [.t 35,.t 36]),
 oo 38 (.pk (.t 32) (.k (.bool true)) (.t 37))])
 (.cd (.t 38) (.sq (rg [om 2 (.k (.bool false))])
 (.rt))
 (.sk)))))
 (rg [oo 39 (.bi .add 0 (.t 11) (i6 1)),
 om 11 (.t 39)])))))))
 (.sq (rg [om 2 (.k (.bool true))])
 (.rt))))) }
theorem Zb5:ZI Go.Proofs.Tryz.prog JP Uh=true:=by kernel_rfl
def DH:F2 :=
 { nt:=78,res:=[.c 4 (some 6) [0,4,2,0,2,3],.t 5 [0]],body :=
  (.sq (rg [oo 4 (.al [.int .i64 0,.slice none 0 0,.slice none 0 0,.int .i64 0,.slice none 0 0,.slice none 0 0] []),
 om 5 (.k (.bool false))])
 (.sq (.sq (rg [om 12 (.t 0),
 oo 13 (.ca .pure false (.f JP) [.t 12]),
 oo 14 (.nt (.t 13)),
 om 15 (.t 14),
 og 16 15 false (.mv (.t 1) none),
 og 17 15 false (.ln (.t 16)),
 og 18 15 false (.bi .gtr 0 (.t 17) (i6 60)),
 oo 19 (.pk (.t 15) (.k (.bool true)) (.t 18))])
 (.cd (.t 19) (.sq (rg [oo 20 (.bd [.int .i64 0,.slice none 0 0,.slice none 0 0,.int .i64 0,.slice none 0 0,.slice none 0 0] [] []),
 on1 (.st 6 (.t 4) (.t 20)),
 om 5 (.k (.bool false))])
 (.rt))
 (.sk)))
 (.sq (rg [om 22 (.t 0),
 om 23 (.t 1),
 oo 24 (.ca .pure false (.f X8) [.t 22,.t 23]),
 om 21 (.t 24),
 oo 25 (.ex 0 (.t 21)),
 oo 26 (.ex 1 (.t 21)),
 oo 27 (.ex 2 (.t 21)),
 om 6 (.t 25),
 om 7 (.t 26),
 om 8 (.t 27)])
 (.sq (.sq (.rg (some 0) [om 28 (.t 8),
 oo 29 (.nt (.t 28)),
 om 30 (.t 29),
 og 31 30 false (.mv (.t 6) none),
 og 32 30 false (.ln (.t 31)),
 og 33 30 false (.bi .neq 0 (.t 32) (i6 1)),
 oo 34 (.pk (.t 30) (.k (.bool true)) (.t 33)),
 om 35 (.t 34),
 og 36 35 false (.mv (.t 6) none),
 og 37 35 false (.ia 7 (.t 36) (i6 0)),
 og 38 35 false (.fa 6 (.t 37)),
 og 39 35 false (.ld none (.t 38)),
 og 40 35 false (.ln (.t 39)),
 og 41 35 false (.mv (.t 6) none),
 og 42 35 false (.ia 7 (.t 41) (i6 0)),
 og 43 35 false (.fa 6 (.t 42)),
 og 44 35 false (.ld none (.t 43)),
 og 45 35 false (.ca .pure false (.f X9) [.t 40,.t 44]),
 og 46 35 false (.nt (.t 45)),
 oo 47 (.pk (.t 35) (.k (.bool true)) (.t 46))])
 (.cd (.t 47) (.sq (rg [oo 48 (.bd [.int .i64 0,.slice none 0 0,.slice none 0 0,.int .i64 0,.slice none 0 0,.slice none 0 0] [] []),
 on1 (.st 6 (.t 4) (.t 48)),
 om 5 (.k (.bool false))])
 (.rt))
 (.sk)))
 (.sq (rg [om 49 (.t 6),
 oo 50 (.ia 7 (.t 49) (i6 0)),
 oo 51 (.fa 0 (.t 50)),
 oo 52 (.ld (some 6) (.t 51)),
 oo 53 (.ca .pure true (.f Jz) [.t 52]),
 oo 9 (.al [.int .i64 0,.slice none 0 0,.slice none 0 0,.int .i64 0,.slice none 0 0,.slice none 0 0] []),
 on1 (.st 6 (.t 9) (.t 53))])
 (.sq (.sq (rg [om 54 (.t 6),
 oo 55 (.ia 7 (.t 54) (i6 0)),
 oo 56 (.fa 6 (.t 55)),
 oo 57 (.ld none (.t 56)),
 oo 58 (.ln (.t 57)),
 om 59 (i6 0)])
 (.bl 0 (.lp [4,6,9,57,58,59] [128,288,1696,1697,1698,1699] (.sq (rg [oo 60 (.bi .lss 0 (.t 59) (.t 58))])
 (.sq (.cd (.t 60) (.sk)
 (.ex 0))
 (.sq (.bl 1 (.sq (rg [om 61 (.t 59),
 oo 62 (.ia 1 (.t 57) (.t 59)),
 oo 63 (.ld none (.t 62)),
 om 10 (.t 61),
 om 11 (.t 63)])
 (.rg (some 0) [oo 64 (.fa 2 (.t 9)),
 oo 65 (.ld none (.t 64)),
 om 66 (.t 11),
 om 67 (.t 6),
 oo 68 (.ia 7 (.t 67) (i6 0)),
 oo 69 (.fa 0 (.t 68)),
 oo 70 (.fa 2 (.t 69)),
 oo 71 (.ld none (.t 70)),
 om 72 (.t 10),
 oo 73 (.ia 1 (.t 71) (.t 72)),
 oo 74 (.ld none (.t 73)),
 oo 75 (.ia 1 (.t 65) (.t 66)),
 on1 (.st 1 (.t 75) (.t 74))])))
 (rg [oo 76 (.bi .add 0 (.t 59) (i6 1)),
 om 59 (.t 76)])))))))
 (.sq (rg [oo 77 (.ld (some 6) (.t 9)),
 on1 (.st 6 (.t 4) (.t 77)),
 om 5 (.k (.bool true))])
 (.rt)))))))) }
theorem Zd0:ZI Go.Proofs.Tryz.prog Q4 DH=true:=by kernel_rfl
def ZdE:F2 :=
 { nt:=49,res:=[.t 4 [0],.t 5 [0],.t 6 [0]],body :=
  (.sq (rg [om 4 (.k (.slice none 0 0)),
 om 5 (i6 0),
 om 6 (.k (.bool false))])
 (.sq (rg [oo 12 (.bs 7 0 [] []),
 oo 7 (.fz (.t 12)),
 om 8 (i6 0)])
 (.sq (.sq (rg [om 9 (i6 0)])
 (.bl 0 (.lp [0,1,7,8,9] [] (.sq (.sq (rg [om 13 (.t 9),
 om 14 (.t 1),
 oo 15 (.ln (.t 14)),
 oo 16 (.bi .lss 0 (.t 13) (.t 15))])
 (.cd (.t 16) (.sk)
 (.ex 0)))
 (.sq (.bl 1 (.sq (.sq (rg [om 19 (.t 0),
 om 20 (.t 1),
 om 21 (.t 9),
 oo 22 (.ia 4 (.t 20) (.t 21)),
 oo 23 (.ld (some 4) (.t 22)),
 oo 24 (.ca .pure false (.f WH) [.t 19,.t 23]),
 oo 25 (.nt (.t 24))])
 (.cd (.t 25) (.sq (rg [om 26 (.t 7),
 om 27 (.t 8),
 om 4 (.t 26),
 om 5 (.t 27),
 om 6 (.k (.bool false))])
 (.rt))
 (.sk)))
 (.sq (rg [om 29 (.t 0),
 om 30 (.t 7),
 om 31 (.t 1),
 om 32 (.t 9),
 oo 33 (.ia 4 (.t 31) (.t 32)),
 oo 34 (.ld (some 4) (.t 33)),
 oo 35 (.ca .pure false (.f Xa) [.t 29,.t 30,.t 34]),
 om 28 (.t 35),
 oo 36 (.ex 0 (.t 28)),
 oo 37 (.ex 1 (.t 28)),
 om 10 (.t 36),
 om 11 (.t 37)])
 (.sq (.sq (rg [om 38 (.t 11),
 oo 39 (.nt (.t 38))])
 (.cd (.t 39) (.sq (rg [om 40 (.t 7),
 om 41 (.t 8),
 om 4 (.t 40),
 om 5 (.t 41),
 om 6 (.k (.bool false))])
 (.rt))
 (.sk)))
 (.sq (rg [om 42 (.t 10),
 om 7 (.t 42)])
 (rg [om 43 (.t 8),
 om 44 (.t 7),
 oo 45 (.ln (.t 44)),
 oo 46 (.ca .pure false (.f WI) [.t 43,.t 45]),
 om 8 (.t 46)]))))))
 (rg [om 17 (.t 9),
 oo 18 (.bi .add 0 (.t 17) (i6 1)),
 om 9 (.t 18)]))))))
 (.sq (rg [om 47 (.t 7),
 om 48 (.t 8),
 om 4 (.t 47),
 om 5 (.t 48),
 om 6 (.k (.bool true))])
 (.rt))))) }
theorem ZiS:ZI Go.Proofs.Tryz.prog Uw ZdE=true:=by kernel_rfl
def Zbc:F2 :=
 { nt:=62,res:=[.t 4 [0],.t 5 [0],.t 6 [0]],body :=
  (.sq (rg [om 4 (.k (.slice none 0 0)),
 om 5 (i6 0),
 om 6 (.k (.bool false))])
 (.sq (rg [oo 14 (.bs 7 0 [] []),
 oo 7 (.fz (.t 14))])
 (.sq (rg [om 8 (i6 0)])
 (.sq (.sq (rg [om 15 (.t 1),
 oo 16 (.ln (.t 15)),
 om 17 (i6 0)])
 (.bl 0 (.lp [0,7,8,15,16,17] [] (.sq (rg [oo 18 (.bi .lss 0 (.t 17) (.t 16))])
 (.sq (.cd (.t 18) (.sk)
 (.ex 0))
 (.sq (.bl 1 (.sq (rg [oo 19 (.ia 4 (.t 15) (.t 17)),
 oo 20 (.ld (some 4) (.t 19)),
 oo 10 (.al [.int .i64 0,.int .i64 0,.int .i64 0,.slice none 0 0] []),
 on1 (.st 4 (.t 10) (.t 20))])
 (.sq (.sq (rg [om 21 (.t 0),
 oo 22 (.ld (some 4) (.t 10)),
 oo 23 (.ca .pure false (.f WJ) [.t 21,.t 22]),
 oo 24 (.nt (.t 23)),
 om 25 (.t 24),
 og 26 25 false (.ld (some 4) (.t 10)),
 og 27 25 false (.ca .pure false (.f Z6) [.t 26]),
 og 28 25 false (.mv (.t 7) none),
 og 29 25 false (.ln (.t 28)),
 og 30 25 false (.bi .gtr 0 (.t 27) (.t 29)),
 oo 31 (.pk (.t 25) (.k (.bool true)) (.t 30))])
 (.cd (.t 31) (.sq (rg [om 4 (.k (.slice none 0 0)),
 om 5 (i6 0),
 om 6 (.k (.bool false))])
 (.rt))
 (.sk)))
 (.sq (rg [om 32 (.t 7),
 oo 33 (.ln (.t 32)),
 oo 34 (.ld (some 4) (.t 10)),
 oo 35 (.ca .pure false (.f Z6) [.t 34]),
 oo 36 (.bi .sub 0 (.t 33) (.t 35)),
 om 11 (.t 36)])
 (.sq (.rg (some 0) [om 38 (.t 0),
 oo 39 (.ld (some 4) (.t 10)),
 om 40 (.t 7),
 om 41 (.t 11),
 oo 42 (.sx 7 (.t 40) (some (.t 41)) none none),
 oo 43 (.ca .pure false (.f Dj) [.t 38,.t 39,.t 42]),
 om 37 (.t 43),
 oo 44 (.ex 0 (.t 37)),
 oo 45 (.ex 1 (.t 37)),
 oo 12 (.al [.int .i64 0,.slice none 0 0,.slice none 0 0,.int .i64 0,.slice none 0 0,.slice none 0 0,.slice none 0 0] []),
 on1 (.s0 7 (.t 12) (.t 44)),
 om 13 (.t 45)])
 (.sq (.sq (rg [om 46 (.t 13),
 oo 47 (.nt (.t 46))])
 (.cd (.t 47) (.sq (rg [om 4 (.k (.slice none 0 0)),
 om 5 (i6 0),
 om 6 (.k (.bool false))])
 (.rt))
 (.sk)))
 (.sq (.rg (some 0) [om 48 (.t 7),
 om 49 (.t 11),
 om 50 (.t 11),
 oo 51 (.sx 7 (.t 48) none (some (.t 49)) (some (.t 50))),
 oo 52 (.ld (some 7) (.t 12)),
 oo 53 (.bv 7 1 [.int .i64 0,.slice none 0 0,.slice none 0 0,.int .i64 0,.slice none 0 0,.slice none 0 0,.slice none 0 0] [(0,.t 52)]),
 oo 54 (.ap 7 2 (.t 51) (.t 53)),
 oo 7 (.fz (.t 54))])
 (rg [om 55 (.t 8),
 om 56 (.t 7),
 oo 57 (.ln (.t 56)),
 oo 58 (.mm true (.t 55) (.t 57)),
 om 8 (.t 58)]))))))))
 (rg [oo 59 (.bi .add 0 (.t 17) (i6 1)),
 om 17 (.t 59)])))))))
 (.sq (rg [om 60 (.t 7),
 om 61 (.t 8),
 om 4 (.t 60),
 om 5 (.t 61),
 om 6 (.k (.bool true))])
 (.rt)))))) }
theorem ZfM:ZI Go.Proofs.Tryz.prog X8 Zbc=true:=by kernel_rfl
def Zad:F2 :=
 { nt:=46,res:=[.t 2 [2]],body :=
  (.sq (rg [om 2 (.k (.slice none 0 0))])
 (.sq (rg [oo 8 (.bs 1 0 [] []),
 oo 9 (.bs 1 0 [] []),
 om 3 (.t 8),
 oo 4 (.fz (.t 9))])
 (.sq (.sq (rg [om 5 (i6 0)])
 (.bl 0 (.lp [0,3,4,5] [256,1408] (.sq (.sq (rg [om 10 (.t 5),
 om 11 (.t 0),
 oo 12 (.ln (.t 11)),
 oo 13 (.bi .lss 0 (.t 10) (.t 12))])
 (.cd (.t 13) (.sk)
 (.ex 0)))
 (.sq (.bl 1 (.sq (rg [om 16 (.t 4),
 oo 17 (.ln (.t 16)),
 om 18 (.t 0),
 om 19 (.t 5),
 oo 20 (.ia 4 (.t 18) (.t 19)),
 oo 21 (.fa 0 (.t 20)),
 oo 22 (.ld none (.t 21)),
 oo 23 (.ca .pure false (.f Yd) [.t 22]),
 oo 24 (.bi .sub 0 (.t 17) (.t 23)),
 om 25 (.t 5),
 om 6 (.t 24),
 om 7 (.t 25)])
 (.sq (.sq (rg [om 26 (.t 6),
 om 27 (.t 4),
 oo 28 (.ln (.t 27)),
 oo 29 (.bi .lss 0 (.t 26) (.t 28))])
 (.cd (.t 29) (rg [om 30 (.t 4),
 om 31 (.t 6),
 oo 32 (.ia 1 (.t 30) (.t 31)),
 oo 33 (.ld none (.t 32)),
 om 7 (.t 33)])
 (.sk)))
 (.sq (rg [om 34 (.t 4),
 om 35 (.t 6),
 oo 36 (.sx 1 (.t 34) none (some (.t 35)) none),
 oo 37 (.ca .pure true (.f XK) [.t 36]),
 om 38 (.t 7),
 oo 39 (.bs 1 1 [.int .i64 0] [(0,.t 38)]),
 oo 40 (.ap 1 0 (.t 37) (.t 39)),
 oo 4 (.fz (.t 40))])
 (rg [om 41 (.t 3),
 om 42 (.t 7),
 oo 43 (.bs 1 1 [.int .i64 0] [(0,.t 42)]),
 oo 44 (.ap 1 0 (.t 41) (.t 43)),
 om 3 (.t 44)])))))
 (rg [om 14 (.t 5),
 oo 15 (.bi .add 0 (.t 14) (i6 1)),
 om 5 (.t 15)]))))))
 (.sq (rg [om 45 (.t 3),
 om 2 (.t 45)])
 (.rt))))) }
theorem ZeW:ZI Go.Proofs.Tryz.prog XA Zad=true:=by kernel_rfl
def DI:F2 :=
 { nt:=46,res:=[.t 2 [2]],body :=
  (.sq (rg [om 2 (.k (.slice none 0 0))])
 (.sq (rg [oo 9 (.bs 1 0 [] []),
 oo 10 (.bs 1 0 [] []),
 om 3 (.t 9),
 om 4 (.t 10)])
 (.sq (.sq (rg [om 11 (.t 0),
 oo 12 (.ln (.t 11)),
 om 13 (i6 0)])
 (.bl 0 (.lp [3,4,11,12,13] [288,320,1248,1376] (.sq (rg [oo 14 (.bi .lss 0 (.t 13) (.t 12))])
 (.sq (.cd (.t 14) (.sk)
 (.ex 0))
 (.sq (.bl 1 (.sq (rg [om 15 (.t 13),
 oo 16 (.ia 4 (.t 11) (.t 13)),
 oo 17 (.ld (some 4) (.t 16)),
 oo 6 (.al [.int .i64 0,.int .i64 0,.int .i64 0,.slice none 0 0] []),
 om 5 (.t 15),
 on1 (.st 4 (.t 6) (.t 17))])
 (.sq (rg [om 18 (.t 5),
 om 7 (.t 18)])
 (.sq (.sq (rg [oo 19 (.ld (some 4) (.t 6)),
 oo 20 (.ca .pure false (.f Z6) [.t 19]),
 om 8 (.t 20)])
 (.sq (rg [om 21 (.t 8),
 oo 22 (.bi .gtr 0 (.t 21) (i6 0))])
 (.cd (.t 22) (.sq (rg [om 23 (.t 4),
 om 24 (.t 4),
 oo 25 (.ln (.t 24)),
 om 26 (.t 8),
 oo 27 (.bi .sub 0 (.t 25) (.t 26)),
 oo 28 (.ia 1 (.t 23) (.t 27)),
 oo 29 (.ld none (.t 28)),
 om 7 (.t 29)])
 (rg [om 30 (.t 4),
 om 31 (.t 4),
 oo 32 (.ln (.t 31)),
 om 33 (.t 8),
 oo 34 (.bi .sub 0 (.t 32) (.t 33)),
 oo 35 (.sh 1 (.t 30) (.t 34)),
 om 4 (.t 35)]))
 (.sk))))
 (.sq (rg [om 36 (.t 4),
 om 37 (.t 7),
 oo 38 (.bs 1 1 [.int .i64 0] [(0,.t 37)]),
 oo 39 (.ap 1 0 (.t 36) (.t 38)),
 om 4 (.t 39)])
 (rg [om 40 (.t 3),
 om 41 (.t 7),
 oo 42 (.bs 1 1 [.int .i64 0] [(0,.t 41)]),
 oo 43 (.ap 1 0 (.t 40) (.t 42)),
 om 3 (.t 43)]))))))
 (rg [oo 44 (.bi .add 0 (.t 13) (i6 1)),
 om 13 (.t 44)])))))))
 (.sq (rg [om 45 (.t 3),
 om 2 (.t 45)])
 (.rt))))) }
theorem Zd1:ZI Go.Proofs.Tryz.prog Q6 DI=true:=by kernel_rfl
def ZeX:F2 :=
 { nt:=15,res:=[.t 6 [0]],body :=
  (.sq (rg [om 6 (.k (.bool false))])
 (.sq (rg [om 7 (.t 0),
 om 8 (.t 1),
 oo 9 (.bi .geq 0 (.t 7) (.t 8)),
 om 10 (.t 9),
 og 11 10 true (.mv (.t 0) none),
 og 12 10 true (.mv (.t 2) none),
 og 13 10 true (.bi .leq 0 (.t 11) (.t 12)),
 oo 14 (.pk (.t 10) (.t 13) (.k (.bool false))),
 om 6 (.t 14)])
 (.rt))) }
theorem Zj4:ZI Go.Proofs.Tryz.prog ZY ZeX=true:=by kernel_rfl
def Zb6:F2 :=
 { nt:=15,res:=[.t 6 [0]],body :=
  (.sq (rg [om 6 (.k (.bool false))])
 (.sq (rg [om 7 (.t 0),
 om 8 (.t 1),
 oo 9 (.bi .geq 0 (.t 7) (.t 8)),
 om 10 (.t 9),
 og 11 10 true (.mv (.t 0) none),
 og 12 10 true (.mv (.t 2) none),
 og 13 10 true (.bi .leq 0 (.t 11) (.t 12)),
 oo 14 (.pk (.t 10) (.t 13) (.k (.bool false))),
 om 6 (.t 14)])
 (.rt))) }
theorem Zhl:ZI Go.Proofs.Tryz.prog ZQ Zb6=true:=by kernel_rfl
def Zb7:F2 :=
 { nt:=19,res:=[.t 4 [0]],body :=
  (.sq (rg [om 4 (.k (.bool false))])
 (.sq (.sq (rg [om 5 (i6 0)])
 (.bl 0 (.lp [0,1,5] [] (.sq (.sq (rg [om 6 (.t 5),
 om 7 (.t 1),
 oo 8 (.bi .lss 0 (.t 6) (.t 7))])
 (.cd (.t 8) (.sk)
 (.ex 0)))
 (.sq (.bl 1 (.sq (rg [om 11 (.t 0),
 om 12 (.t 5),
 oo 13 (.ca .pure false (.f Ux) [.t 11,.t 12]),
 oo 14 (.nt (.t 13))])
 (.cd (.t 14) (.sq (rg [om 4 (.k (.bool false))])
 (.rt))
 (.sk))))
 (rg [om 9 (.t 5),
 oo 10 (.bi .add 0 (.t 9) (i6 1)),
 om 5 (.t 10)]))))))
 (.sq (rg [om 15 (.t 0),
 oo 16 (.ln (.t 15)),
 om 17 (.t 1),
 oo 18 (.bi .eql 0 (.t 16) (.t 17)),
 om 4 (.t 18)])
 (.rt)))) }
theorem Zhm:ZI Go.Proofs.Tryz.prog WG Zb7=true:=by kernel_rfl
def ZdF:F2 :=
 { nt:=34,res:=[.c 2 (some 6) [0,4,2,0,2,3]],body :=
  (.sq (rg [oo 1 (.bt (.t 0)),
 oo 2 (.al [.int .i64 0,.slice none 0 0,.slice none 0 0,.int .i64 0,.slice none 0 0,.slice none 0 0] [])])
 (.sq (rg [oo 7 (.bs 1 0 [] []),
 oo 8 (.bs 1 0 [] []),
 om 3 (.t 7),
 om 4 (.t 8)])
 (.sq (.sq (rg [om 5 (i6 0)])
 (.bl 0 (.lp [1,2,3,4,5] [64,224,256,608,928,1056,1057,1058,1059] (.sq (.sq (rg [om 9 (.t 5),
 oo 10 (.fa 1 (.t 1)),
 oo 11 (.ld none (.t 10)),
 oo 12 (.ln (.t 11)),
 oo 13 (.bi .lss 0 (.t 9) (.t 12))])
 (.cd (.t 13) (.sk)
 (.ex 0)))
 (.sq (.bl 1 (rg [om 16 (.t 3),
 om 17 (.t 5),
 oo 18 (.bs 1 1 [.int .i64 0] [(0,.t 17)]),
 oo 19 (.ap 1 0 (.t 16) (.t 18)),
 om 3 (.t 19)]))
 (rg [om 14 (.t 5),
 oo 15 (.bi .add 0 (.t 14) (i6 1)),
 om 5 (.t 15)]))))))
 (.sq (.sq (rg [om 6 (i6 0)])
 (.bl 2 (.lp [1,2,3,4,6] [64,224,256,608,928,1056,1057,1058,1059] (.sq (.sq (rg [om 20 (.t 6),
 oo 21 (.fa 3 (.t 1)),
 oo 22 (.ld none (.t 21)),
 oo 23 (.bi .lss 0 (.t 20) (.t 22))])
 (.cd (.t 23) (.sk)
 (.ex 2)))
 (.sq (.bl 3 (rg [om 26 (.t 4),
 om 27 (.t 6),
 oo 28 (.bs 1 1 [.int .i64 0] [(0,.t 27)]),
 oo 29 (.ap 1 0 (.t 26) (.t 28)),
 om 4 (.t 29)]))
 (rg [om 24 (.t 6),
 oo 25 (.bi .add 0 (.t 24) (i6 1)),
 om 6 (.t 25)]))))))
 (.sq (rg [oo 30 (.ld (some 6) (.t 1)),
 om 31 (.t 3),
 om 32 (.t 4),
 oo 33 (.ca .pure true (.f Qw) [.t 30,.t 31,.t 32]),
 on1 (.st 6 (.t 2) (.t 33))])
 (.rt)))))) }
theorem ZiT:ZI Go.Proofs.Tryz.prog Y2 ZdF=true:=by kernel_rfl
def Zb8:F2 :=
 { nt:=23,res:=[.t 2 [0]],body :=
  (.sq (rg [om 2 (.k (.bool false))])
 (.sq (.sq (rg [om 3 (i6 0)])
 (.bl 0 (.lp [0,3] [] (.sq (.sq (rg [om 4 (.t 3),
 om 5 (.t 0),
 oo 6 (.lg (.t 5)),
 oo 7 (.bi .lss 0 (.t 4) (.t 6))])
 (.cd (.t 7) (.sk)
 (.ex 0)))
 (.sq (.bl 1 (.sq (rg [om 10 (.t 0),
 om 11 (.t 3),
 oo 12 (.ix (.t 10) (.t 11)),
 oo 13 (.bi .lss 0 (.t 12) (.k (.int .u8 97))),
 om 14 (.t 13),
 og 15 14 false (.mv (.t 0) none),
 og 16 14 false (.mv (.t 3) none),
 og 17 14 false (.ix (.t 15) (.t 16)),
 og 18 14 false (.bi .gtr 0 (.t 17) (.k (.int .u8 122))),
 oo 19 (.pk (.t 14) (.k (.bool true)) (.t 18))])
 (.cd (.t 19) (.sq (rg [om 2 (.k (.bool false))])
 (.rt))
 (.sk))))
 (rg [om 8 (.t 3),
 oo 9 (.bi .add 0 (.t 8) (i6 1)),
 om 3 (.t 9)]))))))
 (.sq (rg [om 20 (.t 0),
 oo 21 (.lg (.t 20)),
 oo 22 (.ca .pure false (.f ZY) [.t 21,i6 1,i6 4]),
 om 2 (.t 22)])
 (.rt)))) }
theorem Zhn:ZI Go.Proofs.Tryz.prog Vi Zb8=true:=by kernel_rfl
def Zb9:F2 :=
 { nt:=11,res:=[.t 2 [0]],body :=
  (.sq (rg [om 2 (.k (.bool false))])
 (.sq (rg [om 3 (.t 0),
 oo 4 (.lg (.t 3)),
 oo 5 (.ca .pure false (.f ZQ) [.t 4,i6 1,i6 4]),
 om 6 (.t 5),
 og 7 6 true (.mv (.t 0) none),
 og 8 6 true (.ca .pure false (.f DE) [.t 7,.k (.string ⟨#[97,98,99,100,101,102,103,104,105,106,107,108,109,110,111,112,113,114,115,116,117,118,119,120,121,122]⟩)]),
 og 9 6 true (.bi .eql 0 (.t 8) (.k (.string ⟨#[]⟩))),
 oo 10 (.pk (.t 6) (.t 9) (.k (.bool false))),
 om 2 (.t 10)])
 (.rt))) }
theorem Zho:ZI Go.Proofs.Tryz.prog J5 Zb9=true:=by kernel_rfl
def Wj:F2 :=
 { nt:=9,res:=[.t 3 [0]],body :=
  (.sq (rg [oo 2 (.bt (.t 0)),
 om 3 (.k (.bool false))])
 (.sq (rg [oo 4 (.fa 0 (.t 2)),
 oo 5 (.ld none (.t 4)),
 oo 6 (.fa 0 (.t 1)),
 oo 7 (.ld none (.t 6)),
 oo 8 (.bi .eql 0 (.t 5) (.t 7)),
 om 3 (.t 8)])
 (.rt))) }
theorem ZaZ:ZI Go.Proofs.Tryz.prog J8 Wj=true:=by kernel_rfl
def Zbd:F2 :=
 { nt:=27,res:=[.t 4 [0]],body :=
  (.sq (rg [om 4 (.k (.bool false))])
 (.sq (rg [om 8 (.t 1),
 oo 9 (.ca .pure true (.f Z2) [.t 8]),
 om 5 (.t 9)])
 (.sq (rg [om 10 (.t 5),
 oo 11 (.ca .any false (.f YP) [.t 10])])
 (.sq (.sq (rg [om 12 (.t 5),
 oo 13 (.ln (.t 12)),
 om 14 (i6 0)])
 (.bl 0 (.lp [0,1,12,13,14] [288] (.sq (rg [oo 15 (.bi .lss 0 (.t 14) (.t 13))])
 (.sq (.cd (.t 15) (.sk)
 (.ex 0))
 (.sq (.bl 1 (.sq (rg [om 16 (.t 14),
 oo 17 (.ia 1 (.t 12) (.t 14)),
 oo 18 (.ld none (.t 17)),
 om 6 (.t 16),
 om 7 (.t 18)])
 (.sq (rg [om 19 (.t 7),
 om 20 (.t 6),
 oo 21 (.bi .neq 0 (.t 19) (.t 20))])
 (.cd (.t 21) (.sq (rg [om 4 (.k (.bool false))])
 (.rt))
 (.sk)))))
 (rg [oo 22 (.bi .add 0 (.t 14) (i6 1)),
 om 14 (.t 22)])))))))
 (.sq (rg [om 23 (.t 1),
 oo 24 (.ln (.t 23)),
 om 25 (.t 0),
 oo 26 (.bi .eql 0 (.t 24) (.t 25)),
 om 4 (.t 26)])
 (.rt)))))) }
theorem ZfN:ZI Go.Proofs.Tryz.prog X9 Zbd=true:=by kernel_rfl
def UR:F2 :=
 { nt:=42,res:=[.c 2 (some 6) [0,4,2,0,2,3]],body :=
  (.sq (rg [oo 1 (.bt (.t 0)),
 oo 2 (.al [.int .i64 0,.slice none 0 0,.slice none 0 0,.int .i64 0,.slice none 0 0,.slice none 0 0] [])])
 (.sq (.rg (some 0) [oo 6 (.fa 0 (.t 1)),
 oo 7 (.ld none (.t 6)),
 oo 8 (.fa 2 (.t 1)),
 oo 9 (.ld none (.t 8)),
 oo 10 (.ca .pure true (.f Z2) [.t 9]),
 oo 11 (.fa 3 (.t 1)),
 oo 12 (.ld none (.t 11)),
 oo 13 (.fa 4 (.t 1)),
 oo 14 (.ld none (.t 13)),
 oo 15 (.ca .pure true (.f ZG) [.t 14]),
 oo 16 (.fa 5 (.t 1)),
 oo 17 (.ld none (.t 16)),
 oo 18 (.ca .pure true (.f Jd) [.t 17]),
 oo 19 (.bd [.int .i64 0,.slice none 0 0,.slice none 0 0,.int .i64 0,.slice none 0 0,.slice none 0 0] [(0,1,.t 7),(2,1,.t 10),(3,1,.t 12),(4,1,.t 15),(5,1,.t 18)] [(1,3)]),
 oo 3 (.al [.int .i64 0,.slice none 0 0,.slice none 0 0,.int .i64 0,.slice none 0 0,.slice none 0 0] []),
 on1 (.st 6 (.t 3) (.t 19))])
 (.sq (.sq (rg [oo 20 (.fa 1 (.t 1)),
 oo 21 (.ld none (.t 20)),
 oo 22 (.ln (.t 21)),
 om 23 (i6 0)])
 (.bl 0 (.lp [2,3,21,22,23] [64,96,320,480,576,608,1216] (.sq (rg [oo 24 (.bi .lss 0 (.t 23) (.t 22))])
 (.sq (.cd (.t 24) (.sk)
 (.ex 0))
 (.sq (.bl 1 (.sq (rg [oo 25 (.ia 3 (.t 21) (.t 23)),
 oo 26 (.ld (some 3) (.t 25)),
 oo 5 (.al [.int .i64 0,.int .i64 0,.slice none 0 0] []),
 on1 (.st 3 (.t 5) (.t 26))])
 (.rg (some 0) [oo 27 (.fa 1 (.t 3)),
 oo 28 (.ld none (.t 27)),
 oo 29 (.fa 0 (.t 5)),
 oo 30 (.ld none (.t 29)),
 oo 31 (.fa 1 (.t 5)),
 oo 32 (.ld none (.t 31)),
 oo 33 (.fa 2 (.t 5)),
 oo 34 (.ld none (.t 33)),
 oo 35 (.ca .pure true (.f Z2) [.t 34]),
 oo 36 (.bd [.int .i64 0,.int .i64 0,.slice none 0 0] [(0,1,.t 30),(1,1,.t 32),(2,1,.t 35)] []),
 oo 37 (.bv 3 1 [.int .i64 0,.int .i64 0,.slice none 0 0] [(0,.t 36)]),
 oo 38 (.ap 3 2 (.t 28) (.t 37)),
 oo 39 (.fa 1 (.t 3)),
 on1 (.st 1 (.t 39) (.t 38))])))
 (rg [oo 40 (.bi .add 0 (.t 23) (i6 1)),
 om 23 (.t 40)])))))))
 (.sq (rg [oo 41 (.ld (some 6) (.t 3)),
 on1 (.st 6 (.t 2) (.t 41))])
 (.rt))))) }
theorem Zda:ZI Go.Proofs.Tryz.prog Jz UR=true:=by kernel_rfl
def JU:F2 :=
 { nt:=82,res:=[.t 4 [0]],body :=
  (.sq (rg [oo 3 (.bt (.t 1)),
 om 4 (.k (.bool false))])
 (.sq (.sq (rg [oo 5 (.fa 0 (.t 3)),
 oo 6 (.ld none (.t 5)),
 oo 7 (.bi .neq 0 (.t 6) (i6 3)),
 om 8 (.t 7),
 og 9 8 true (.fa 1 (.t 3)),
 og 10 8 true (.ld none (.t 9)),
 og 11 8 true (.bi .neq 0 (.t 10) (i6 0)),
 oo 12 (.pk (.t 8) (.t 11) (.k (.bool false))),
 om 13 (.t 12),
 og 14 13 false (.fa 0 (.t 3)),
 og 15 13 false (.ld none (.t 14)),
 og 16 13 false (.bi .neq 0 (.t 15) (i6 2)),
 og 17 13 false (.mv (.t 16) none),
 og 18 17 true (.fa 2 (.t 3)),
 og 19 17 true (.ld none (.t 18)),
 og 20 17 true (.bi .neq 0 (.t 19) (i6 0)),
 og 21 13 false (.pk (.t 17) (.t 20) (.k (.bool false))),
 oo 22 (.pk (.t 13) (.k (.bool true)) (.t 21))])
 (.cd (.t 22) (.sq (rg [om 4 (.k (.bool false))])
 (.rt))
 (.sk)))
 (.sq (.sq (rg [oo 23 (.fa 0 (.t 3)),
 oo 24 (.ld none (.t 23))])
 (.bl 0 (.sq (rg [oo 26 (.bi .eql 0 (.t 24) (i6 2)),
 om 25 (.t 26)])
 (.cd (.t 25) (.sq (rg [oo 27 (.fa 2 (.t 3)),
 oo 28 (.ld none (.t 27)),
 oo 29 (.ca .pure false (.f ZY) [.t 28,i6 0,i6 3]),
 om 30 (.t 29),
 og 31 30 true (.fa 3 (.t 3)),
 og 32 30 true (.ld none (.t 31)),
 og 33 30 true (.ln (.t 32)),
 og 34 30 true (.bi .eql 0 (.t 33) (i6 0)),
 oo 35 (.pk (.t 30) (.t 34) (.k (.bool false))),
 om 4 (.t 35)])
 (.rt))
 (.sq (rg [oo 37 (.bi .eql 0 (.t 24) (i6 3)),
 om 36 (.t 37)])
 (.cd (.t 36) (.sq (.rg (some 0) [oo 38 (.fa 1 (.t 3)),
 oo 39 (.ld none (.t 38)),
 om 40 (.t 0),
 oo 41 (.ln (.t 40)),
 oo 42 (.bi .sub 0 (.t 41) (i6 1)),
 oo 43 (.ca .pure false (.f ZY) [.t 39,i6 0,.t 42]),
 om 44 (.t 43),
 og 45 44 true (.fa 3 (.t 3)),
 og 46 44 true (.ld none (.t 45)),
 og 47 44 true (.ln (.t 46)),
 og 48 44 true (.mv (.t 0) none),
 og 49 44 true (.fa 1 (.t 3)),
 og 50 44 true (.ld none (.t 49)),
 og 51 44 true (.ia 3 (.t 48) (.t 50)),
 og 52 44 true (.fa 1 (.t 51)),
 og 53 44 true (.ld none (.t 52)),
 og 54 44 true (.bi .eql 0 (.t 47) (.t 53)),
 oo 55 (.pk (.t 44) (.t 54) (.k (.bool false))),
 om 56 (.t 55),
 og 57 56 true (.fa 3 (.t 3)),
 og 58 56 true (.ld none (.t 57)),
 og 59 56 true (.ca .pure false (.f Qi) [.t 58]),
 oo 60 (.pk (.t 56) (.t 59) (.k (.bool false))),
 om 4 (.t 60)])
 (.rt))
 (.sq (.sq (rg [oo 62 (.bi .eql 0 (.t 24) (i6 6)),
 om 61 (.t 62)])
 (.cd (.t 61) (.sk)
 (rg [oo 63 (.bi .eql 0 (.t 24) (i6 7)),
 om 61 (.t 63)])))
 (.cd (.t 61) (.sq (rg [oo 64 (.fa 3 (.t 3)),
 oo 65 (.ld none (.t 64)),
 oo 66 (.ln (.t 65)),
 oo 67 (.bi .eql 0 (.t 66) (i6 1)),
 om 68 (.t 67),
 og 69 68 true (.fa 3 (.t 3)),
 og 70 68 true (.ld none (.t 69)),
 og 71 68 true (.ca .pure false (.f Qi) [.t 70]),
 oo 72 (.pk (.t 68) (.t 71) (.k (.bool false))),
 om 4 (.t 72)])
 (.rt))
 (.sk)))))))))
 (.sq (rg [oo 73 (.fa 0 (.t 3)),
 oo 74 (.ld none (.t 73)),
 oo 75 (.ca .pure false (.f ZY) [.t 74,i6 0,i6 5]),
 om 76 (.t 75),
 og 77 76 true (.fa 3 (.t 3)),
 og 78 76 true (.ld none (.t 77)),
 og 79 76 true (.ln (.t 78)),
 og 80 76 true (.bi .eql 0 (.t 79) (i6 0)),
 oo 81 (.pk (.t 76) (.t 80) (.k (.bool false))),
 om 4 (.t 81)])
 (.rt))))) }
theorem Zhp:ZI Go.Proofs.Tryz.prog WH JU=true:=by kernel_rfl
def VI:F2 :=
 { nt:=80,res:=[.t 6 [0],.t 7 [0]],body :=
  (.sq (rg [oo 5 (.bt (.t 2)),
 om 6 (.k (.slice none 0 0)),
 om 7 (.k (.bool false))])
 (.sq (rg [om 11 (.t 1),
 oo 12 (.ln (.t 11)),
 oo 13 (.fa 0 (.t 5)),
 oo 14 (.ld none (.t 13)),
 oo 15 (.ca .pure false (.f Yd) [.t 14]),
 oo 16 (.bi .sub 0 (.t 12) (.t 15)),
 om 8 (.t 16)])
 (.sq (.sq (rg [om 17 (.t 8),
 oo 18 (.bi .lss 0 (.t 17) (i6 0))])
 (.cd (.t 18) (.sq (rg [om 19 (.t 1),
 om 6 (.t 19),
 om 7 (.k (.bool false))])
 (.rt))
 (.sk)))
 (.sq (rg [oo 20 (.ld (some 4) (.t 5)),
 oo 21 (.ca .pure false (.f WK) [.t 20]),
 oo 9 (.al [.int .i64 0,.slice none 0 0,.slice none 0 0,.int .i64 0,.slice none 0 0,.slice none 0 0,.slice none 0 0] []),
 on1 (.st 7 (.t 9) (.t 21)),
 om 10 (.k (.bool true))])
 (.sq (.bl 0 (.sq (rg [oo 23 (.fa 0 (.t 5)),
 oo 24 (.ld none (.t 23)),
 oo 25 (.bi .eql 0 (.t 24) (i6 3)),
 om 22 (.t 25)])
 (.cd (.t 22) (.rg (some 0) [om 27 (.t 0),
 oo 28 (.ld (some 4) (.t 5)),
 om 29 (.t 1),
 om 30 (.t 8),
 oo 31 (.ia 7 (.t 29) (.t 30)),
 oo 32 (.ld (some 7) (.t 31)),
 oo 33 (.ca .pure false (.f WL) [.t 27,.t 28,.t 32]),
 om 26 (.t 33),
 oo 34 (.ex 0 (.t 26)),
 oo 35 (.ex 1 (.t 26)),
 on1 (.s0 7 (.t 9) (.t 34)),
 om 10 (.t 35)])
 (.sq (rg [oo 37 (.fa 0 (.t 5)),
 oo 38 (.ld none (.t 37)),
 oo 39 (.ca .pure false (.f Yd) [.t 38]),
 oo 40 (.bi .eql 0 (.t 39) (i6 1)),
 om 36 (.t 40)])
 (.cd (.t 36) (.rg (some 0) [om 42 (.t 0),
 oo 43 (.ld (some 4) (.t 5)),
 om 44 (.t 1),
 om 45 (.t 8),
 oo 46 (.ia 7 (.t 44) (.t 45)),
 oo 47 (.ld (some 7) (.t 46)),
 oo 48 (.ca .pure false (.f Wa) [.t 42,.t 43,.t 47]),
 om 41 (.t 48),
 oo 49 (.ex 0 (.t 41)),
 oo 50 (.ex 1 (.t 41)),
 on1 (.s0 7 (.t 9) (.t 49)),
 om 10 (.t 50)])
 (.sq (rg [oo 52 (.fa 0 (.t 5)),
 oo 53 (.ld none (.t 52)),
 oo 54 (.ca .pure false (.f Yd) [.t 53]),
 oo 55 (.bi .eql 0 (.t 54) (i6 2)),
 om 51 (.t 55)])
 (.cd (.t 51) (.rg (some 0) [om 57 (.t 0),
 oo 58 (.ld (some 4) (.t 5)),
 om 59 (.t 1),
 om 60 (.t 8),
 oo 61 (.ia 7 (.t 59) (.t 60)),
 oo 62 (.ld (some 7) (.t 61)),
 om 63 (.t 1),
 om 64 (.t 8),
 oo 65 (.bi .add 0 (.t 64) (i6 1)),
 oo 66 (.ia 7 (.t 63) (.t 65)),
 oo 67 (.ld (some 7) (.t 66)),
 oo 68 (.ca .pure false (.f WM) [.t 57,.t 58,.t 62,.t 67]),
 om 56 (.t 68),
 oo 69 (.ex 0 (.t 56)),
 oo 70 (.ex 1 (.t 56)),
 on1 (.s0 7 (.t 9) (.t 69)),
 om 10 (.t 70)])
 (.sk))))))))
 (.sq (.rg (some 0) [oo 71 (.bs 7 0 [] []),
 om 72 (.t 1),
 om 73 (.t 8),
 oo 74 (.sx 7 (.t 72) none (some (.t 73)) none),
 oo 75 (.a1 7 (.t 71) (.t 74)),
 oo 76 (.lb (some 7) (.t 9)),
 oo 77 (.bs 7 1 [.int .i64 0,.slice none 0 0,.slice none 0 0,.int .i64 0,.slice none 0 0,.slice none 0 0,.slice none 0 0] [(0,.t 76)]),
 oo 78 (.a2 7 (.t 75) (.t 77)),
 om 79 (.t 10),
 om 6 (.t 78),
 om 7 (.t 79)])
 (.rt))))))) }
theorem Xh:ZI Go.Proofs.Tryz.prog Xa VI=true:=by kernel_rfl
def Dl:F2 :=
 { nt:=10,res:=[.t 4 [0]],body :=
  (.sq (rg [om 4 (i6 0)])
 (.sq (.sq (rg [om 5 (.t 0),
 om 6 (.t 1),
 oo 7 (.bi .gtr 0 (.t 5) (.t 6))])
 (.cd (.t 7) (.sq (rg [om 8 (.t 0),
 om 4 (.t 8)])
 (.rt))
 (.sk)))
 (.sq (rg [om 9 (.t 1),
 om 4 (.t 9)])
 (.rt)))) }
theorem Zhq:ZI Go.Proofs.Tryz.prog WI Dl=true:=by kernel_rfl
def Zca:F2 :=
 { nt:=61,res:=[.t 4 [0]],body :=
  (.sq (rg [oo 3 (.bt (.t 1)),
 om 4 (.k (.bool false))])
 (.sq (.sq (rg [oo 5 (.fa 3 (.t 3)),
 oo 6 (.ld none (.t 5)),
 oo 7 (.ca .pure false (.f Zz) [.t 6,.f VC])])
 (.cd (.t 7) (.sq (rg [om 4 (.k (.bool false))])
 (.rt))
 (.sk)))
 (.sq (.sq (rg [oo 8 (.fa 0 (.t 3)),
 oo 9 (.ld none (.t 8))])
 (.bl 0 (.sq (rg [oo 11 (.bi .eql 0 (.t 9) (i6 2)),
 om 10 (.t 11)])
 (.cd (.t 10) (.sq (rg [oo 12 (.ld (some 4) (.t 3)),
 oo 13 (.ca .pure false (.f ZN) [.t 12,.k (.bool false),.k (.bool true),.k (.bool false)]),
 om 14 (.t 13),
 og 15 14 true (.fa 2 (.t 3)),
 og 16 14 true (.ld none (.t 15)),
 og 17 14 true (.ca .pure false (.f ZQ) [.t 16,i6 0,i6 3]),
 oo 18 (.pk (.t 14) (.t 17) (.k (.bool false))),
 om 4 (.t 18)])
 (.rt))
 (.sq (rg [oo 20 (.bi .eql 0 (.t 9) (i6 3)),
 om 19 (.t 20)])
 (.cd (.t 19) (.sq (.rg (some 0) [oo 21 (.ld (some 4) (.t 3)),
 oo 22 (.ca .pure false (.f ZN) [.t 21,.k (.bool true),.k (.bool false),.k (.bool true)]),
 om 23 (.t 22),
 og 24 23 true (.fa 1 (.t 3)),
 og 25 23 true (.ld none (.t 24)),
 og 26 23 true (.mv (.t 0) none),
 og 27 23 true (.ln (.t 26)),
 og 28 23 true (.bi .sub 0 (.t 27) (i6 1)),
 og 29 23 true (.ca .pure false (.f ZQ) [.t 25,i6 0,.t 28]),
 oo 30 (.pk (.t 23) (.t 29) (.k (.bool false))),
 om 31 (.t 30),
 og 32 31 true (.fa 3 (.t 3)),
 og 33 31 true (.ld none (.t 32)),
 og 34 31 true (.ln (.t 33)),
 og 35 31 true (.mv (.t 0) none),
 og 36 31 true (.fa 1 (.t 3)),
 og 37 31 true (.ld none (.t 36)),
 og 38 31 true (.ia 3 (.t 35) (.t 37)),
 og 39 31 true (.fa 1 (.t 38)),
 og 40 31 true (.ld none (.t 39)),
 og 41 31 true (.bi .eql 0 (.t 34) (.t 40)),
 oo 42 (.pk (.t 31) (.t 41) (.k (.bool false))),
 om 4 (.t 42)])
 (.rt))
 (.sq (.sq (rg [oo 44 (.bi .eql 0 (.t 9) (i6 6)),
 om 43 (.t 44)])
 (.cd (.t 43) (.sk)
 (rg [oo 45 (.bi .eql 0 (.t 9) (i6 7)),
 om 43 (.t 45)])))
 (.cd (.t 43) (.sq (rg [oo 46 (.ld (some 4) (.t 3)),
 oo 47 (.ca .pure false (.f ZN) [.t 46,.k (.bool false),.k (.bool false),.k (.bool true)]),
 om 48 (.t 47),
 og 49 48 true (.fa 3 (.t 3)),
 og 50 48 true (.ld none (.t 49)),
 og 51 48 true (.ln (.t 50)),
 og 52 48 true (.bi .eql 0 (.t 51) (i6 1)),
 oo 53 (.pk (.t 48) (.t 52) (.k (.bool false))),
 om 4 (.t 53)])
 (.rt))
 (.sk)))))))))
 (.sq (rg [oo 54 (.ld (some 4) (.t 3)),
 oo 55 (.ca .pure false (.f Z6) [.t 54]),
 oo 56 (.bi .geq 0 (.t 55) (i6 0)),
 om 57 (.t 56),
 og 58 57 true (.ld (some 4) (.t 3)),
 og 59 57 true (.ca .pure false (.f ZN) [.t 58,.k (.bool false),.k (.bool false),.k (.bool false)]),
 oo 60 (.pk (.t 57) (.t 59) (.k (.bool false))),
 om 4 (.t 60)])
 (.rt))))) }
theorem Zhr:ZI Go.Proofs.Tryz.prog WJ Zca=true:=by kernel_rfl
def ZC:F2 :=
 { nt:=16,res:=[.t 2 [0]],body :=
  (.sq (rg [oo 1 (.bt (.t 0)),
 om 2 (i6 0)])
 (.sq (.sq (rg [oo 3 (.fa 0 (.t 1)),
 oo 4 (.ld none (.t 3))])
 (.bl 0 (.sq (.sq (rg [oo 6 (.bi .eql 0 (.t 4) (i6 0)),
 om 5 (.t 6)])
 (.cd (.t 5) (.sk)
 (.sq (rg [oo 7 (.bi .eql 0 (.t 4) (i6 1)),
 om 5 (.t 7)])
 (.cd (.t 5) (.sk)
 (rg [oo 8 (.bi .eql 0 (.t 4) (i6 2)),
 om 5 (.t 8)])))))
 (.cd (.t 5) (.sq (rg [om 2 (i6 0)])
 (.rt))
 (.sq (.sq (rg [oo 10 (.bi .eql 0 (.t 4) (i6 3)),
 om 9 (.t 10)])
 (.cd (.t 9) (.sk)
 (.sq (rg [oo 11 (.bi .eql 0 (.t 4) (i6 6)),
 om 9 (.t 11)])
 (.cd (.t 9) (.sk)
 (rg [oo 12 (.bi .eql 0 (.t 4) (i6 7)),
 om 9 (.t 12)])))))
 (.cd (.t 9) (.sq (rg [om 2 (i6 1)])
 (.rt))
 (.sq (.sq (rg [oo 14 (.bi .eql 0 (.t 4) (i6 4)),
 om 13 (.t 14)])
 (.cd (.t 13) (.sk)
 (rg [oo 15 (.bi .eql 0 (.t 4) (i6 5)),
 om 13 (.t 15)])))
 (.cd (.t 13) (.sq (rg [om 2 (i6 2)])
 (.rt))
 (.sk)))))))))
 (.sq (rg [om 2 (i6 (-1))])
 (.rt)))) }
theorem Zae:ZI Go.Proofs.Tryz.prog Z6 ZC=true:=by kernel_rfl
def QA:F2 :=
 { nt:=109,res:=[.c 6 (some 7) [0,0,0,0,0,0,0],.t 7 [0]],body :=
  (.sq (rg [oo 4 (.bt (.t 1)),
 oo 6 (.al [.int .i64 0,.slice none 0 0,.slice none 0 0,.int .i64 0,.slice none 0 0,.slice none 0 0,.slice none 0 0] []),
 om 7 (.k (.bool false))])
 (.sq (rg [oo 12 (.bd [.int .i64 0,.slice none 0 0,.slice none 0 0,.int .i64 0,.slice none 0 0,.slice none 0 0,.slice none 0 0] [] [(6,1)]),
 oo 8 (.al [.int .i64 0,.slice none 0 0,.slice none 0 0,.int .i64 0,.slice none 0 0,.slice none 0 0,.slice none 0 0] []),
 on1 (.st 7 (.t 8) (.t 12)),
 om 9 (.k (.bool true))])
 (.sq (.sq (rg [oo 13 (.fa 0 (.t 4)),
 oo 14 (.ld none (.t 13))])
 (.bl 0 (.sq (rg [oo 18 (.bi .eql 0 (.t 14) (i6 3)),
 om 17 (.t 18)])
 (.cd (.t 17) (.rg (some 0) [om 20 (.t 0),
 oo 21 (.ld (some 4) (.t 4)),
 om 22 (.t 2),
 oo 23 (.ia 7 (.t 22) (i6 0)),
 oo 24 (.fa 0 (.t 23)),
 oo 25 (.ld (some 6) (.t 24)),
 oo 26 (.ca .pure false (.f WN) [.t 20,.t 21,.t 25]),
 om 19 (.t 26),
 oo 27 (.ex 0 (.t 19)),
 oo 28 (.ex 1 (.t 19)),
 oo 29 (.fa 0 (.t 8)),
 on1 (.s0 6 (.t 29) (.t 27)),
 om 9 (.t 28)])
 (.sq (rg [oo 31 (.bi .eql 0 (.t 14) (i6 4)),
 om 30 (.t 31)])
 (.cd (.t 30) (.rg (some 0) [om 33 (.t 0),
 om 34 (.t 2),
 oo 35 (.ia 7 (.t 34) (i6 0)),
 oo 36 (.fa 0 (.t 35)),
 oo 37 (.ld (some 6) (.t 36)),
 om 38 (.t 2),
 oo 39 (.ia 7 (.t 38) (i6 1)),
 oo 40 (.fa 0 (.t 39)),
 oo 41 (.ld (some 6) (.t 40)),
 oo 42 (.ca .pure false (.f Yl) [.t 33,.t 37,.t 41]),
 om 32 (.t 42),
 oo 43 (.ex 0 (.t 32)),
 oo 44 (.ex 1 (.t 32)),
 oo 45 (.fa 0 (.t 8)),
 on1 (.s0 6 (.t 45) (.t 43)),
 om 9 (.t 44)])
 (.sq (rg [oo 47 (.bi .eql 0 (.t 14) (i6 5)),
 om 46 (.t 47)])
 (.cd (.t 46) (.rg (some 0) [om 49 (.t 0),
 om 50 (.t 2),
 oo 51 (.ia 7 (.t 50) (i6 0)),
 oo 52 (.fa 0 (.t 51)),
 oo 53 (.ld (some 6) (.t 52)),
 om 54 (.t 2),
 oo 55 (.ia 7 (.t 54) (i6 1)),
 oo 56 (.fa 0 (.t 55)),
 oo 57 (.ld (some 6) (.t 56)),
 oo 58 (.ca .pure false (.f JI) [.t 49,.t 53,.t 57]),
 om 48 (.t 58),
 oo 59 (.ex 0 (.t 48)),
 oo 60 (.ex 1 (.t 48)),
 oo 61 (.fa 0 (.t 8)),
 on1 (.s0 6 (.t 61) (.t 59)),
 om 9 (.t 60)])
 (.sq (rg [oo 63 (.bi .eql 0 (.t 14) (i6 6)),
 om 62 (.t 63)])
 (.cd (.t 62) (.rg (some 0) [om 65 (.t 0),
 om 66 (.t 2),
 oo 67 (.ia 7 (.t 66) (i6 0)),
 oo 68 (.fa 0 (.t 67)),
 oo 69 (.ld (some 6) (.t 68)),
 oo 70 (.fa 3 (.t 4)),
 oo 71 (.ld none (.t 70)),
 oo 72 (.ia 1 (.t 71) (i6 0)),
 oo 73 (.ld none (.t 72)),
 oo 74 (.ca .pure false (.f Xb) [.t 65,.t 69,.t 73]),
 om 64 (.t 74),
 oo 75 (.ex 0 (.t 64)),
 oo 76 (.ex 1 (.t 64)),
 oo 77 (.fa 0 (.t 8)),
 on1 (.s0 6 (.t 77) (.t 75)),
 om 9 (.t 76)])
 (.sq (rg [oo 79 (.bi .eql 0 (.t 14) (i6 7)),
 om 78 (.t 79)])
 (.cd (.t 78) (.rg (some 0) [om 81 (.t 0),
 om 82 (.t 2),
 oo 83 (.ia 7 (.t 82) (i6 0)),
 oo 84 (.fa 0 (.t 83)),
 oo 85 (.ld (some 6) (.t 84)),
 oo 86 (.fa 3 (.t 4)),
 oo 87 (.ld none (.t 86)),
 oo 88 (.ia 1 (.t 87) (i6 0)),
 oo 89 (.ld none (.t 88)),
 oo 90 (.ca .pure false (.f Wb) [.t 81,.t 85,.t 89]),
 om 80 (.t 90),
 oo 91 (.ex 0 (.t 80)),
 oo 92 (.ex 1 (.t 80)),
 oo 93 (.fa 0 (.t 8)),
 on1 (.s0 6 (.t 93) (.t 91)),
 om 9 (.t 92)])
 (.sq (rg [oo 15 (.ld (some 4) (.t 4)),
 oo 16 (.ca .pure false (.f Dk) [.t 15]),
 on1 (.st 7 (.t 6) (.t 16)),
 om 7 (.k (.bool true))])
 (.rt))))))))))))))
 (.sq (.sq (rg [om 94 (.t 2),
 oo 95 (.ln (.t 94)),
 om 96 (i6 0)])
 (.bl 1 (.lp [6,8,9,94,95,96] [192,256,384,3328] (.sq (rg [oo 97 (.bi .lss 0 (.t 96) (.t 95))])
 (.sq (.cd (.t 97) (.sk)
 (.ex 1))
 (.sq (.bl 2 (.sq (rg [oo 98 (.ia 7 (.t 94) (.t 96)),
 oo 99 (.ld (some 7) (.t 98)),
 oo 11 (.al [.int .i64 0,.slice none 0 0,.slice none 0 0,.int .i64 0,.slice none 0 0,.slice none 0 0,.slice none 0 0] []),
 on1 (.st 7 (.t 11) (.t 99))])
 (rg [oo 100 (.fa 6 (.t 8)),
 oo 101 (.ld none (.t 100)),
 oo 102 (.fa 6 (.t 11)),
 oo 103 (.ld none (.t 102)),
 oo 104 (.ap 1 0 (.t 101) (.t 103)),
 oo 105 (.fa 6 (.t 8)),
 on1 (.st 1 (.t 105) (.t 104))])))
 (rg [oo 106 (.bi .add 0 (.t 96) (i6 1)),
 om 96 (.t 106)])))))))
 (.sq (rg [oo 107 (.ld (some 7) (.t 8)),
 om 108 (.t 9),
 on1 (.st 7 (.t 6) (.t 107)),
 om 7 (.t 108)])
 (.rt)))))) }
theorem Zj5:ZI Go.Proofs.Tryz.prog Dj QA=true:=by kernel_rfl
def Yv:F2 :=
 { nt:=11,res:=[.t 2 [0]],body :=
  (.sq (rg [om 2 (i6 0)])
 (.sq (.sq (rg [om 3 (.t 0)])
 (.bl 0 (.sq (.sq (rg [oo 5 (.bi .eql 0 (.t 3) (i6 4)),
 om 4 (.t 5)])
 (.cd (.t 4) (.sk)
 (rg [oo 6 (.bi .eql 0 (.t 3) (i6 5)),
 om 4 (.t 6)])))
 (.cd (.t 4) (.sq (rg [om 2 (i6 2)])
 (.rt))
 (.sq (.sq (rg [oo 8 (.bi .eql 0 (.t 3) (i6 3)),
 om 7 (.t 8)])
 (.cd (.t 7) (.sk)
 (.sq (rg [oo 9 (.bi .eql 0 (.t 3) (i6 6)),
 om 7 (.t 9)])
 (.cd (.t 7) (.sk)
 (rg [oo 10 (.bi .eql 0 (.t 3) (i6 7)),
 om 7 (.t 10)])))))
 (.cd (.t 7) (.sq (rg [om 2 (i6 1)])
 (.rt))
 (.sk)))))))
 (.sq (rg [om 2 (i6 0)])
 (.rt)))) }
theorem ZfO:ZI Go.Proofs.Tryz.prog Yd Yv=true:=by kernel_rfl
def ZdG:F2 :=
 { nt:=6,res:=[.t 2 [2]],body :=
  (.sq (rg [om 2 (.k (.slice none 0 0))])
 (.sq (rg [oo 3 (.bs 1 0 [] []),
 om 4 (.t 0),
 oo 5 (.ap 1 0 (.t 3) (.t 4)),
 om 2 (.t 5)])
 (.rt))) }
theorem ZiU:ZI Go.Proofs.Tryz.prog XK ZdG=true:=by kernel_rfl
def ZeY:F2 :=
 { nt:=19,res:=[.t 4 [0]],body :=
  (.sq (rg [om 4 (i6 0)])
 (.sq (.sq (rg [om 5 (i6 0)])
 (.bl 0 (.lp [0,1,5] [] (.sq (.sq (rg [om 6 (.t 5),
 om 7 (.t 0),
 oo 8 (.ln (.t 7)),
 oo 9 (.bi .lss 0 (.t 6) (.t 8))])
 (.cd (.t 9) (.sk)
 (.ex 0)))
 (.sq (.bl 1 (.sq (rg [om 12 (.t 0),
 om 13 (.t 5),
 oo 14 (.ia 1 (.t 12) (.t 13)),
 oo 15 (.ld none (.t 14)),
 om 16 (.t 1),
 oo 17 (.bi .eql 0 (.t 15) (.t 16))])
 (.cd (.t 17) (.sq (rg [om 18 (.t 5),
 om 4 (.t 18)])
 (.rt))
 (.sk))))
 (rg [om 10 (.t 5),
 oo 11 (.bi .add 0 (.t 10) (i6 1)),
 om 5 (.t 11)]))))))
 (.sq (rg [om 4 (i6 (-1))])
 (.rt)))) }
theorem Zj6:ZI Go.Proofs.Tryz.prog Yk ZeY=true:=by kernel_rfl
end Go.Fd
