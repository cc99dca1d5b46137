/-
  FOUNDATION 46: more rules: stores, append. Own work.
-/
import Derived.Test.YtcjkjlchlflbfaaGreatDoorT03
import Derived.ChangeArms
import Derived.OpenShut
import Derived.Carry
import Derived.Sort.Row
import Derived.Sort.Grow
import Derived.Shelf.GgSortFunc.InsertionK
import Derived.Shelf.SlSortCmp.WholeK
import Derived.Test.YtcjkjlchlflbfaaGreatDoorProg
import Derived.ChangeMaps5
import Derived.ChangeShapes
import Derived.Lib.LaidTab
import Derived.Lib.ItoaNum
set_option linter.all false
namespace Go.Fd
section
variable {C:ZK} {lvl:Nat} {env:List (Nat×IV)} {loc:List (Nat×Ob)} {out:Zc} {d:Option Nat} {K:St->Prop} {st:St}
def st2(v:Option (List IV))(m:Nat)(p:IV)(d:Option Nat)(st:St)(K:St->Prop):Prop :=
 match v with
 | some l=>d=none/\l.length=m /\
  match p with
  | .ab id off =>
   match st.sto id with
   | some (.bx cells)=>off+l.length<=cells.length/\Jn (id.1+1) l/\K (Zn st id (.bx (Ys cells off l)))
   | _=>False
  | .ae id p i f s=>YS id p i s f l st K
  | _=>False
 | none=>False
theorem Zv6{m:Nat}{p x:X}:ZA C d (.st m p x) ⟨lvl,env,loc,out⟩ K=st2 (cellsOf (xv env x)) m (xv env p) d ⟨lvl,env,loc,out⟩ K:=by
 rw[J8 rfl]
 simp only[ew]
 generalize cellsOf (xv env x)=v
 cases v with
 | none=>simp [st2]
 | some l=>rfl
def stb(o:Option Ob)(id:Zd)(off:Nat)(l:List IV)(st:St)(K:St->Prop):Prop :=
 match o with
 | some (.bx cells)=>off+l.length<=cells.length/\Jn (id.1+1) l/\K (Zn st id (.bx (Ys cells off l)))
 | _=>False
theorem Zv7{m:Nat}{l:List IV}{id:Zd}{off:Nat}:st2 (some l) m (.ab id off) d ⟨lvl,env,loc,out⟩ K=(d=none/\l.length=m/\stb (Zy lvl loc out id) id off l ⟨lvl,env,loc,out⟩ K):=(rfl)
theorem Zv8{m:Nat}{l:List IV}{id:Zd}{p:Zk}{i f s:Nat}:st2 (some l) m (.ae id p i f s) d st K=(d=none/\l.length=m/\YS id p i s f l st K):=(rfl)
theorem Zv9{cells l:List IV}{id:Zd}{off:Nat}:stb (some (.bx cells)) id off l st K=(off+l.length<=cells.length/\Jn (id.1+1) l/\K (Zn st id (.bx (Ys cells off l)))):=(rfl)
theorem Yo{cs:List IV}{off:Nat}:Ys cs off []=cs:=(rfl)
theorem Yp{cs:List IV}{off:Nat}{x:IV}{r:List IV}:Ys cs off (x::r)=Ys (cs.set off x) (off+1) r:=(rfl)
theorem Zwa{l:Nat}:Jn l []=True:=(rfl)
theorem Zwb{l:Nat}{x:IV}{r:List IV}:Jn l (x::r)=(low l x/\Jn l r):=(rfl)
theorem Zwc{l:Nat}{t:Tr}:low l (.tr t)=True:=(rfl)
theorem Zwd{l:Nat}{es:Row}:low l (.cs es)=True:=(rfl)
theorem Zwe{l k:Nat}{p:Zk}{off len s:Nat}{cap:Option Nat}:low (l+1) (.hd (l,k) p off len cap s)=True:=by
 apply propext;simp [low,men]
theorem Zwf{l k off:Nat}:low (l+1) (.ab (l,k) off)=True:=by
 apply propext;simp [low,men]
theorem Zwg{l:Nat}{c:List IV}:low l (.ag c)=Jn l c:=by simp only[low,Jn,men]
theorem Zwh{l:Nat}{c:List IV}:low l (.tu c)=Jn l c:=by simp only[low,Jn,men]
theorem Zwi{l k:Nat}{es:Row}{u:Bool}:low l (.ow k es u)=True:=(rfl)
theorem Zwj{l:Nat}:low l .un=True:=(rfl)
theorem Zwk{l:Nat}:low l .er=True:=(rfl)
theorem Zwl{l:Nat}{c:List Tr}:low l (.ta c)=True:=(rfl)
def kst(id:Zd)(p:Zk)(i s f:Nat)(r:List IV)(K:St->Prop)(st':St):Prop:=YS id p i s f r st' K
theorem Zwm{id:Zd}{p:Zk}{i s f:Nat}{r:List IV}:kst id p i s f r K st=YS id p i s f r st K:=(rfl)
theorem Zwn{id:Zd}{p:Zk}{i s f:Nat}:YS id p i s f [] st K=K st:=(rfl)
def sc1(o:Option Ob)(id:Zd)(p:Zk)(i f s:Nat)(x:IV)(st:St)(K:St->Prop):Prop :=
 match o with
 | some (.ar k es u hw ver)=>JX p s hw ver u/\Z9 (getp es p) fun es' => Z9 es'[i]? fun e=>Z9 e[f]? fun t0 =>
  match x with
  | .tr (.v y)=>isSc t0=true/\K (Zn st id (.ar k (ZI es p i f (.v y)) u hw ver))
  | .cs []=>p=[]/\K (Zn st id (.ar k (ZI es [] i f (.sl [])) u hw (ver+1)))
  | .cs zs=>p=[]/\K (Zn st id (.ar k (ZI es [] i f (.sl zs)) false hw (ver+1)))
  | .tr (.sl zs)=>p=[]/\K (Zn st id (.ar k (ZI es [] i f (.sl zs)) false hw (ver+1)))
  | .hd id2 [] 0 len none s2=>p=[]/\id2≠id/\id2.1=st.lvl /\
   match st.sto id2 with
   | some (.ar _ zs u2 hw2 _)=>s2=hw2/\len=zs.length/\K (Zn (ZF id2 st) id (.ar k (ZI es [] i f (.sl zs)) (u&&u2) hw (ver+1)))
   | _=>False
  | _=>False
 | _=>False
theorem Zwo{id:Zd}{p:Zk}{i s f:Nat}{x:IV}{r:List IV}:YS id p i s f (x::r) ⟨lvl,env,loc,out⟩ K=sc1 (Zy lvl loc out id) id p i f s x ⟨lvl,env,loc,out⟩ (kst id p i s (f+1) r K):=by
 simp only[YS,XK,sc1]
 rw[show (⟨lvl,env,loc,out⟩:St).sto id=Zy lvl loc out id from rfl]
 generalize Zy lvl loc out id=o
 cases o with
 | none=>rfl
 | some ob =>
  cases ob with
  | bx=>rfl
  | ar k es u hw ver =>
   dsimp only
   rw[<-YX]
   apply propext
   constructor
   ·rintro⟨es',h1,h2,e,h3,t0,h4,h5⟩
    refine⟨h2,es',h1,?_⟩
    rw[h3]
    simp only[Z9]
    rw[h4]
    exact h5
   ·rintro⟨h2,es',h1,h3⟩
    rw[<-YX] at h3
    obtain⟨e,h3,h4⟩:=h3
    rw[<-YX] at h4
    obtain⟨t0,h4,h5⟩:=h4
    exact⟨es',h1,h2,e,h3,t0,h4,h5⟩
def Uf(k:Nat)(es:Row)(u:Bool)(hw ver:Nat)(id:Zd)(p:Zk)(i f:Nat)(x:IV)(st:St)(K:St->Prop)(t0:Tr):Prop :=
  match x with
  | .tr (.v y)=>isSc t0=true/\K (Zn st id (.ar k (ZI es p i f (.v y)) u hw ver))
  | .cs []=>p=[]/\K (Zn st id (.ar k (ZI es [] i f (.sl [])) u hw (ver+1)))
  | .cs zs=>p=[]/\K (Zn st id (.ar k (ZI es [] i f (.sl zs)) false hw (ver+1)))
  | .tr (.sl zs)=>p=[]/\K (Zn st id (.ar k (ZI es [] i f (.sl zs)) false hw (ver+1)))
  | .hd id2 [] 0 len none s2=>p=[]/\id2≠id/\id2.1=st.lvl /\
   match st.sto id2 with
   | some (.ar _ zs u2 hw2 _)=>s2=hw2/\len=zs.length/\K (Zn (ZF id2 st) id (.ar k (ZI es [] i f (.sl zs)) (u&&u2) hw (ver+1)))
   | _=>False
  | _=>False
def sc3(k:Nat)(es:Row)(u:Bool)(hw ver:Nat)(id:Zd)(p:Zk)(i f:Nat)(x:IV)(st:St)(K:St->Prop)(e:List Tr):Prop:=Z9 e[f]? (Uf k es u hw ver id p i f x st K)
def sc4(k:Nat)(es:Row)(u:Bool)(hw ver:Nat)(id:Zd)(p:Zk)(i f:Nat)(x:IV)(st:St)(K:St->Prop)(es':Row):Prop:=Z9 es'[i]? (sc3 k es u hw ver id p i f x st K)
section sc
variable {k:Nat} {es:Row} {u:Bool} {hw ver:Nat} {id:Zd} {p:Zk} {i f s:Nat} {x:IV}
theorem Zwp:sc1 (some (.ar k es u hw ver)) id p i f s x st K=(JX p s hw ver u/\Z9 (getp es p) (sc4 k es u hw ver id p i f x st K)):=(rfl)
theorem Zwq{e:List Tr}:sc3 k es u hw ver id p i f x st K e=Z9 e[f]? (Uf k es u hw ver id p i f x st K):=(rfl)
theorem Zwr{es':Row}:sc4 k es u hw ver id p i f x st K es'=Z9 es'[i]? (sc3 k es u hw ver id p i f x st K):=(rfl)
theorem Zws{y:Value}{t0:Tr}:Uf k es u hw ver id p i f (.tr (.v y)) st K t0=(isSc t0=true/\K (Zn st id (.ar k (ZI es p i f (.v y)) u hw ver))):=(rfl)
theorem Zwt{t0:Tr}:Uf k es u hw ver id p i f (.cs []) st K t0=(p=[]/\K (Zn st id (.ar k (ZI es [] i f (.sl [])) u hw (ver+1)))):=(rfl)
theorem Zwu{zs:Row}{t0:Tr}:Uf k es u hw ver id p i f (.tr (.sl zs)) st K t0=(p=[]/\K (Zn st id (.ar k (ZI es [] i f (.sl zs)) false hw (ver+1)))):=(rfl)
def sc5(o:Option Ob)(k:Nat)(es:Row)(u:Bool)(hw ver:Nat)(id:Zd)(i f len s2:Nat)(st2 st:St)(K:St->Prop):Prop :=
 match o with
 | some (.ar _ zs u2 hw2 _)=>s2=hw2/\len=zs.length/\K (Zn st2 id (.ar k (ZI es [] i f (.sl zs)) (u&&u2) hw (ver+1)))
 | _=>False
theorem Zwv{key len s2:Nat}{t0:Tr}:Uf k es u hw ver id p i f (.hd (lvl,key) [] 0 len none s2) ⟨lvl,env,loc,out⟩ K t0=(p=[]/\(lvl,key)≠id/\sc5 (lkO key loc) k es u hw ver id i f len s2 (ZF (lvl,key) ⟨lvl,env,loc,out⟩) ⟨lvl,env,loc,out⟩ K):=by
 simp only[Uf]
 rw[show (⟨lvl,env,loc,out⟩:St).sto (lvl,key)=lkO key loc from J7]
 generalize lkO key loc=o
 apply propext
 constructor
 ·rintro⟨h1,h2,_,h3⟩
  refine⟨h1,h2,?_⟩
  cases o with
  | none=>exact h3
  | some ob=>cases ob <;> exact h3
 ·rintro⟨h1,h2,h3⟩
  refine⟨h1,h2,trivial,?_⟩
  cases o with
  | none=>exact h3
  | some ob=>cases ob <;> exact h3
theorem Zww{k2:Nat}{zs:Row}{u2:Bool}{hw2 ver2 len s2:Nat}{st2:St}:sc5 (some (.ar k2 zs u2 hw2 ver2)) k es u hw ver id i f len s2 st2 st K=(s2=hw2/\len=zs.length/\K (Zn st2 id (.ar k (ZI es [] i f (.sl zs)) (u&&u2) hw (ver+1)))):=(rfl)
end sc
theorem Zwx{k n:Nat}{z:List Value}{ps:List (Nat×X)}:ZA C d (.bw k n z ps) ⟨lvl,env,loc,out⟩ K=ew C d ⟨lvl,env,loc,out⟩ K (.bw k n z ps):=J8 rfl
def kbw(k lvl:Nat)(d:Option Nat)(K:St->Prop)(ts:List Tr)(u:Bool)(st':St):Prop :=
 K { Zn st' (lvl,keyOf d) (.ar k [ts] u 1 0) with env:=ptd d (.hd (lvl,keyOf d) [] 0 1 none 1) st'.env }
theorem Zwy{k:Nat}{ts:List Tr}{u:Bool}:kbw k lvl d K ts u ⟨lvl,env,loc,out⟩=K ⟨lvl,ptd d (.hd (lvl,keyOf d) [] 0 1 none 1) env,ptO (keyOf d) (.ar k [ts] u 1 0) loc,out⟩:=by
 simp only[kbw,UZ]
def bw2(v:Option (List IV))(k n:Nat)(d:Option Nat)(loc:List (Nat×Ob))(lvl:Nat)(st:St)(K:St->Prop):Prop :=
 match v with
 | some l=>n=1/\l.length=k/\freshK (keyOf d) loc 1/\Vy l st (kbw k lvl d K)
 | none=>False
theorem Zwz{k n:Nat}{z:List Value}{x:X}:ew C d ⟨lvl,env,loc,out⟩ K (.bw k n z [(0,x)])=bw2 (cellsOf (xv env x)) k n d loc lvl ⟨lvl,env,loc,out⟩ K:=by
 simp only[ew]
 generalize cellsOf (xv env x)=v
 cases v with
 | none=>simp [bw2]
 | some l=>rfl
theorem ZwA{k n:Nat}{l:List IV}:bw2 (some l) k n d loc lvl st K=(n=1/\l.length=k/\freshK (keyOf d) loc 1/\Vy l st (kbw k lvl d K)):=(rfl)
def kmv(r:List IV)(F:List Tr->Bool->St->Prop)(t:Tr)(a:Bool)(st':St):Prop:=Vy r st' fun ts b st'' => F (t::ts) (a&&b) st''
def kmc(t:Tr)(a:Bool)(F:List Tr->Bool->St->Prop)(ts:List Tr)(b:Bool)(st'':St):Prop:=F (t::ts) (a&&b) st''
section mv
variable {r:List IV} {F:List Tr->Bool->St->Prop} {F1:Tr->Bool->St->Prop}
theorem ZwB{t:Tr}{a:Bool}:kmv r F t a st=Vy r st (kmc t a F):=(rfl)
theorem ZwC{t:Tr}{a:Bool}{ts:List Tr}{b:Bool}:kmc t a F ts b st=F (t::ts) (a&&b) st:=(rfl)
theorem ZwD:Vy [] st F=F [] true st:=(rfl)
theorem ZwE{x:IV}:Vy (x::r) st F=Ws st x (kmv r F):=(rfl)
theorem ZwF{y:Value}:Ws st (.tr (.v y)) F1=F1 (.v y) true st:=(rfl)
theorem ZwG{es:Row}:Ws st (.tr (.sl es)) F1=F1 (.sl es) false st:=(rfl)
theorem ZwH:Ws st (.cs []) F1=F1 (.sl []) true st:=(rfl)
def mv5(o:Option Ob)(len s2:Nat)(st1:St)(F1:Tr->Bool->St->Prop):Prop :=
 match o with
 | some (.ar _ zs u2 hw2 _)=>s2=hw2/\len=zs.length/\F1 (.sl zs) u2 st1
 | _=>False
theorem ZwI{key len s2:Nat}:Ws ⟨lvl,env,loc,out⟩ (.hd (lvl,key) [] 0 len none s2) F1=mv5 (lkO key loc) len s2 (ZF (lvl,key) ⟨lvl,env,loc,out⟩) F1:=by
 simp only[Ws]
 rw[show (⟨lvl,env,loc,out⟩:St).sto (lvl,key)=lkO key loc from J7]
 generalize lkO key loc=o
 apply propext
 constructor
 ·rintro⟨_,h3⟩
  cases o with
  | none=>exact h3
  | some ob=>cases ob <;> exact h3
 ·intro h3
  refine⟨trivial,?_⟩
  cases o with
  | none=>exact h3
  | some ob=>cases ob <;> exact h3
theorem ZwJ{k2:Nat}{zs:Row}{u2:Bool}{hw2 ver2 len s2:Nat}:mv5 (some (.ar k2 zs u2 hw2 ver2)) len s2 st F1=(s2=hw2/\len=zs.length/\F1 (.sl zs) u2 st):=(rfl)
end mv
def Zam:IV->Prop
 | .hd _ [] 0 _ none _=>True
 | _=>False
theorem ZwK{id:Zd}{len s:Nat}:Zam (.hd id [] 0 len none s)=True:=(rfl)
def WM:List IV->Prop
 | []=>True
 | .tr (.v _)::r=>WM r
 | _=>False
theorem ZwL:WM []=True:=(rfl)
theorem ZwM{y:Value}{r:List IV}:WM (.tr (.v y)::r)=WM r:=(rfl)
def smp(p:IV)(l:Option (List IV)):Prop :=
 match p with
 | .ab .. => True
 | .ae .. => l≠some []/\WM (l.getD [])
 | _=>False
theorem ZwN{id:Zd}{off:Nat}{l:Option (List IV)}:smp (.ab id off) l=True:=(rfl)
theorem ZwO{id:Zd}{p:Zk}{i f s:Nat}{x:IV}{r:List IV}:smp (.ae id p i f s) (some (x::r))=WM (x::r):=by simp [smp]
theorem ZjW{id:Zd}{p:Zk}{i s k:Nat}{u:Bool}{hw ver:Nat}:∀(l:List IV) (f:Nat) (es:Row) (st0:St) (K:St->Prop),WM l->st0.sto id=some (.ar k es u hw ver)->YS id p i s f l st0 K->QK p i f l es (fun es' => K (Zn st0 id (.ar k es' u hw ver)))\/l=[]
 | [],f,es,st0,K,_,_,h=>.inr rfl
 | x::r,f,es,st0,K,ha,hs,h=>by
  refine .inl ?_
  simp only[YS,XK] at h
  rw[hs] at h
  obtain⟨es',hg,hst,e,hi,t0,hf,h⟩:=h
  cases x with
  | tr t =>
   cases t with
   | v y =>
    obtain⟨hsc,h⟩:=h
    simp only[QK]
    refine⟨es',hg,e,hi,t0,hf,hsc,?_⟩
    have hs1:(Zn st0 id (.ar k (ZI es p i f (.v y)) u hw ver)).sto id=some (.ar k (ZI es p i f (.v y)) u hw ver):=by rw[YA];unfold Zl;rw[if_pos rfl]
    rcases ZjW r (f+1) _ _ K ha hs1 h with g | g
    ·simp only[ZbH] at g
     exact g
    ·subst g
     exact h
   | sl=>cases ha
  | _=>cases ha
theorem ZwP{m:Nat}{p x:X}:ZA C d (.s0 m p x) ⟨lvl,env,loc,out⟩ K=(smp (xv env p) (cellsOf (xv env x))/\ZA C d (.st m p x) ⟨lvl,env,loc,out⟩ K):=by
 rw[J8 rfl,J8 rfl]
 simp only[ew,Jy]
 generalize cellsOf (xv env x)=v
 generalize xv env p=q
 apply propext
 constructor
 ·rintro⟨h0,h⟩
  split at h <;> try contradiction
  rename_i l
  obtain⟨h1,h⟩:=h
  split at h <;> try contradiction
  ·exact⟨trivial,h0,h1,h⟩
  ·rename_i id p i f s
   split at h <;> try contradiction
   rename_i k es u hw ver hs
   obtain⟨g1,g2,g3⟩:=h
   refine⟨⟨by simpa using g1,?_⟩,h0,h1,Zev g2 l f es _ K hs g3 (fun e=>absurd e g1)⟩
   have:∀(l:List IV) (f:Nat) (es:Row) (K:Row->Prop),QK p i f l es K->WM l:=by
    intro l
    induction l with
    | nil=>intros;trivial
    | cons x r ih =>
     intro f es K h
     simp only[QK] at h
     obtain⟨_,_,_,_,_,_,_,h⟩:=h
     split at h <;> try contradiction
     exact ih _ _ _ h
   exact this _ _ _ _ g3
 ·rintro⟨h3,h0,h⟩
  refine⟨h0,?_⟩
  split at h <;> try contradiction
  rename_i l
  obtain⟨h1,h⟩:=h
  refine⟨h1,?_⟩
  split at h <;> try contradiction
  ·exact h
  ·rename_i id p i f s
   obtain⟨g1,g2⟩:=h3
   cases l with
   | nil=>exact absurd rfl g1
   | cons y r =>
    have h':=h
    simp only[YS,XK] at h'
    split at h' <;> try contradiction
    rename_i k es u hw ver hs
    refine⟨by simp,h'.choose_spec.2.1,?_⟩
    rcases ZjW _ _ _ _ K g2 hs h with g | g
    ·exact g
    ·cases g
theorem ZwQ{k:Nat}{x y:X}:ZA C d (.a0 k x y) ⟨lvl,env,loc,out⟩ K=(Zam (xv env x)/\ZA C d (.ap k 0 x y) ⟨lvl,env,loc,out⟩ K):=by
 rw[J8 rfl,J8 rfl]
 apply propext
 constructor
 ·intro he
  refine⟨?_,ZiI he⟩
  simp only[ew,Jy] at he
  split at he <;> try contradiction
  rename_i hx
  rw[hx];trivial
 ·rintro⟨h1,h⟩
  generalize hq:xv env x=q at h1
  unfold Zam at h1
  split at h1 <;> try contradiction
  rename_i id len s
  have go:∀ items:Row,ScR items->Js d k x loc items true ⟨lvl,env,loc,out⟩ K->match Zy lvl loc out id with
   | some (.ar k' es u hw ver)=>k'=k/\s=hw/\len=es.length/\ScR items/\Zz k items/\len+items.length<=bigN /\
     K { Zn ⟨lvl,env,loc,out⟩ id (.ar k (es++items) u (max hw (len+items.length)) ver) with env:=ptd d (.hd id [] 0 (len+items.length) none (max hw (len+items.length))) env }
   | _=>False:=fun items hsc h=>by
   unfold Js at h
   obtain⟨g1,h⟩:=h
   simp only[hq] at h
   rw[show (⟨lvl,env,loc,out⟩:St).sto id=Zy lvl loc out id from rfl] at h
   generalize Zy lvl loc out id=o at h ⊢
   cases o with
   | none=>exact h
   | some ob =>
    cases ob with
    | bx=>exact h
    | ar k' es u hw ver =>
     simp only[Ub5] at h
     exact⟨h.1,h.2.1,h.2.2.1,hsc,g1,h.2.2.2.1,h.2.2.2.2⟩
  simp only[ew,Jy,Vn] at h ⊢
  rw[hq]
  rw[show (⟨lvl,env,loc,out⟩:St).sto=Zy lvl loc out from rfl] at *
  split at h <;> try contradiction
  ·rename_i zs hy
   simp only[if_true] at h
   have:=go zs h.1 h.2
   rw[hy]
   exact this
  ·rename_i zs hy
   simp only[if_true] at h
   have:=go zs h.1 h.2
   rw[hy]
   exact this
  ·rename_i id2 p2 off2 len2 c2 s2 hy
   simp only[if_true] at h
   rw[hy]
   dsimp only
   unfold JQ at h ⊢
   generalize Zy lvl loc out id2=o3 at h ⊢
   cases o3 with
   | none=>exact h.elim
   | some ob3 =>
    cases ob3 with
    | bx=>exact h.elim
    | ar k3 es3 u3 hw3 ver3 =>
     obtain⟨es',q1,q2,q3,q4,q5⟩:=h
     have:=go _ q4 q5
     split at this <;> try contradiction
     rename_i hs
     show (match Zy lvl loc out id with
      | some (.ar k' es u hw ver)=>k'=k/\s=hw/\len=es.length/\∃ es',getp es3 p2=some es'/\JX p2 s2 hw3 ver3 u3/\off2+len2<=es'.length/\ScR (cut es' off2 len2)/\Zz k (cut es' off2 len2)/\len+(cut es' off2 len2).length<=bigN /\
        K { Zn ⟨lvl,env,loc,out⟩ id (.ar k (es++cut es' off2 len2) u (max hw (len+(cut es' off2 len2).length)) ver) with env:=ptd d (.hd id [] 0 (len+(cut es' off2 len2).length) none (max hw (len+(cut es' off2 len2).length))) env }
      | _=>False)
     rw[hs]
     exact⟨this.1,this.2.1,this.2.2.1,es',q1,q2,q3,this.2.2.2⟩
  ·exact absurd h.1 (by decide)
def Zb4:IV->Prop
 | .tr (.sl _)=>True
 | .cs _=>True
 | _=>False
theorem ZwR{es:Row}:Zb4 (.tr (.sl es))=True:=(rfl)
theorem ZwS{es:Row}:Zb4 (.cs es)=True:=(rfl)
theorem ZwT{k:Nat}{x y:X}:ZA C d (.a1 k x y) ⟨lvl,env,loc,out⟩ K=(Zam (xv env x)/\Zb4 (xv env y)/\ZA C d (.ap k 1 x y) ⟨lvl,env,loc,out⟩ K):=by
 rw[J8 rfl,J8 rfl]
 apply propext
 constructor
 ·intro he
  refine⟨?_,?_,ZiJ he⟩
  ·simp only[ew,Jy] at he
   split at he <;> try contradiction
   rename_i hx
   rw[hx];trivial
  ·simp only[ew,Jy] at he
   split at he <;> try contradiction
   split at he <;> try contradiction
   have h4:=he.2.2.2
   unfold UF at h4
   split at h4 <;> try contradiction
   ·rename_i hy;rw[hy];trivial
   ·rename_i hy;rw[hy];trivial
 ·rintro⟨h1,h2,h⟩
  generalize hq:xv env x=q at h1
  unfold Zam at h1
  split at h1 <;> try contradiction
  rename_i id len s
  have go:∀ items:Row,Js d k x loc items false ⟨lvl,env,loc,out⟩ K->match Zy lvl loc out id with
   | some (.ar k' es u hw ver)=>k'=k/\s=hw/\len=es.length/\Zz k items/\len+items.length<=bigN /\
     K { Zn ⟨lvl,env,loc,out⟩ id (.ar k (es++items) false (max hw (len+items.length)) ver) with env:=ptd d (.hd id [] 0 (len+items.length) none (max hw (len+items.length))) env }
   | _=>False:=fun items h=>by
   unfold Js at h
   obtain⟨g1,h⟩:=h
   simp only[hq] at h
   rw[show (⟨lvl,env,loc,out⟩:St).sto id=Zy lvl loc out id from rfl] at h
   generalize Zy lvl loc out id=o at h ⊢
   cases o with
   | none=>exact h
   | some ob =>
    cases ob with
    | bx=>exact h
    | ar k' es u hw ver =>
     simp only[Ub0] at h
     exact⟨h.1,h.2.1,h.2.2.1,g1,h.2.2.2.1,h.2.2.2.2⟩
  simp only[ew,Jy,UF] at h ⊢
  rw[hq]
  rw[show (⟨lvl,env,loc,out⟩:St).sto=Zy lvl loc out from rfl] at *
  generalize hy:xv env y=yv at h h2 ⊢
  unfold Zb4 at h2
  split at h2 <;> try contradiction
  ·simp only[Nat.reduceEqDiff,if_false,true_and] at h
   exact go _ h
  ·simp only[Nat.reduceEqDiff,if_false,true_and] at h
   exact go _ h
def az1(x n:IV)(d:Option Nat)(k:Nat)(z:List Value)(st:St)(K:St->Prop):Prop :=
 match x with
 | .cs [] =>
  match n with
  | .tr (.v (.int .i64 m))=>0<m/\m<=bigN/\freshK (keyOf d) st.loc 1 /\
    K { Zn st (st.lvl,keyOf d) (.ar k (List.replicate m.toNat (z.map trv)) true m.toNat 0) with env:=ptd d (.hd (st.lvl,keyOf d) [] 0 m.toNat none m.toNat) st.env }
  | _=>False
 | _=>False
theorem ZwU{k:Nat}{z:List Value}{x n:X}:ZA C d (.az k z x n) ⟨lvl,env,loc,out⟩ K=az1 (xv env x) (xv env n) d k z ⟨lvl,env,loc,out⟩ K:=by
 rw[J8 rfl]
 rfl
theorem ZwV{k:Nat}{z:List Value}{m:Int}:az1 (.cs []) (.tr (.v (.int .i64 m))) d k z ⟨lvl,env,loc,out⟩ K=(0<m/\m<=bigN/\freshK (keyOf d) loc 1/\K ⟨lvl,ptd d (.hd (lvl,keyOf d) [] 0 m.toNat none m.toNat) env,ptO (keyOf d) (.ar k (List.replicate m.toNat (z.map trv)) true m.toNat 0) loc,out⟩):=by
 simp only[az1,UZ]
def tbx:IV->Prop
 | .ta _=>True
 | _=>False
theorem ZwW{cells:List Tr}:tbx (.ta cells)=True:=(rfl)
theorem ZwX{m:Option Nat}{p:X}:ZA C d (.lt m p) ⟨lvl,env,loc,out⟩ K=(tbx (xv env p)/\ZA C d (.ld m p) ⟨lvl,env,loc,out⟩ K):=by
 cases m <;> (
  rw[Yc rfl,Yc rfl]
  simp only[ev]
  generalize hx:xv env p=q
  cases q <;> simp [tbx])
def av4(o:Option Ob)(id:Zd)(es:Row)(hw ver len off2 len2 s2 k:Nat)(d:Option Nat)(st:St)(K:St->Prop):Prop :=
 match o with
 | some (.ar _ es2 false hw2 _)=>s2=hw2/\off2+len2<=es2.length/\Zz k (cut es2 off2 len2)/\len+(cut es2 off2 len2).length<=bigN /\
   K { Zn st id (.ar k (es++cut es2 off2 len2) false (max hw (len+(cut es2 off2 len2).length)) ver) with env:=ptd d (.hd id [] 0 (len+(cut es2 off2 len2).length) none (max hw (len+(cut es2 off2 len2).length))) st.env }
 | _=>False
def av3(y:IV)(id:Zd)(es:Row)(hw ver len k:Nat)(d:Option Nat)(st:St)(K:St->Prop):Prop :=
 match y with
 | .hd id2 [] off2 len2 _ s2=>av4 (st.sto id2) id es hw ver len off2 len2 s2 k d st K
 | _=>False
def av2(o:Option Ob)(y:IV)(id:Zd)(len s k:Nat)(d:Option Nat)(st:St)(K:St->Prop):Prop :=
 match o with
 | some (.ar k' es _ hw ver)=>k'=k/\s=hw/\len=es.length/\av3 y id es hw ver len k d st K
 | _=>False
def av1(x y:IV)(k:Nat)(d:Option Nat)(st:St)(K:St->Prop):Prop :=
 match x with
 | .hd id [] 0 len none s=>av2 (st.sto id) y id len s k d st K
 | _=>False
theorem ZwY{k:Nat}{x y:X}:ZA C d (.a2 k x y) ⟨lvl,env,loc,out⟩ K=av1 (xv env x) (xv env y) k d ⟨lvl,env,loc,out⟩ K:=by
 rw[J8 rfl]
 rfl
theorem ZwZ{id:Zd}{len s k:Nat}{y:IV}:av1 (.hd id [] 0 len none s) y k d ⟨lvl,env,loc,out⟩ K=av2 (Zy lvl loc out id) y id len s k d ⟨lvl,env,loc,out⟩ K:=(rfl)
theorem Zw0{k' hw ver len s k:Nat}{es:Row}{u:Bool}{y:IV}{id:Zd}:av2 (some (.ar k' es u hw ver)) y id len s k d st K=(k'=k/\s=hw/\len=es.length/\av3 y id es hw ver len k d st K):=(rfl)
theorem Zw1{id id2:Zd}{es:Row}{hw ver len k off2 len2 s2:Nat}{c2:Option Nat}:av3 (.hd id2 [] off2 len2 c2 s2) id es hw ver len k d ⟨lvl,env,loc,out⟩ K=av4 (Zy lvl loc out id2) id es hw ver len off2 len2 s2 k d ⟨lvl,env,loc,out⟩ K:=(rfl)
theorem Zw2{key:Nat}{es es2:Row}{k2 hw ver len off2 len2 s2 k hw2 ver2:Nat}:av4 (some (.ar k2 es2 false hw2 ver2)) (lvl,key) es hw ver len off2 len2 s2 k d ⟨lvl,env,loc,out⟩ K=(s2=hw2/\off2+len2<=es2.length/\Zz k (cut es2 off2 len2)/\len+(cut es2 off2 len2).length<=bigN /\
   K ⟨lvl,ptd d (.hd (lvl,key) [] 0 (len+(cut es2 off2 len2).length) none (max hw (len+(cut es2 off2 len2).length))) env,ptO key (.ar k (es++cut es2 off2 len2) false (max hw (len+(cut es2 off2 len2).length)) ver) loc,out⟩):=by
 simp only[av4,UZ]
def abx:IV->Prop
 | .ab .. => True
 | _=>False
theorem Zw3{id:Zd}{off:Nat}:abx (.ab id off)=True:=(rfl)
theorem Zw4{m:Option Nat}{p:X}:ZA C d (.lb m p none) ⟨lvl,env,loc,out⟩ K=(abx (xv env p)/\ZA C d (.ld m p) ⟨lvl,env,loc,out⟩ K):=by
 cases m <;> (
  rw[Yc rfl,Yc rfl]
  simp only[ev,Qm]
  generalize hx:xv env p=q
  cases q <;> simp [abx])
theorem Zw5{l i j:Nat}{a b:Nat}:QI (.ab (l,i) a) (.ab (l,j) b)=((i=j)=False):=by
 simp [QI]
theorem Zw6{m:Option Nat}{p:X}{q:Nat}:ZA C d (.lb m p (some q)) ⟨lvl,env,loc,out⟩ K=(QI (xv env p) (xv env (.t q))/\ZA C d (.ld m p) ⟨lvl,env,loc,out⟩ K):=by
 cases m <;> (
  rw[Yc rfl,Yc rfl]
  simp only[ev,Qm]
  generalize hx:xv env p=q
  generalize hy:xv env (.t _)=y
  cases q <;> cases y <;> simp [QI])
def Qu:IV->Prop
 | .tr (.sl _)=>True
 | .cs _=>True
 | _=>False
theorem Zw7{es:Row}:Qu (.tr (.sl es))=True:=(rfl)
theorem Zw8{es:Row}:Qu (.cs es)=True:=(rfl)
theorem Zw9{k:Nat}{x:X}{lo hi mx:Option X}:ZA C d (.sy k x lo hi mx) ⟨lvl,env,loc,out⟩ K=(Qu (xv env x)/\ZA C d (.sx k x lo hi mx) ⟨lvl,env,loc,out⟩ K):=by
 rw[Yc rfl,Yc rfl]
 simp only[ev]
 generalize hx:xv env x=q
 cases q with
 | tr t =>
  cases t with
  | v=>simp [Qu]
  | sl es=>simp only[Qu,true_and]
 | cs es=>simp only[Qu,true_and]
 | _=>simp only[Qu,false_and]
def Xk(L:Zc)(k:Nat):IV->Prop
 | .tr (.sl _)=>True
 | .cs _=>True
 | .hd id [] _ _ _ _=>JR L id [] k
 | _=>False
theorem Zxa{L:Zc}{k:Nat}{es:Row}:Xk L k (.tr (.sl es))=True:=(rfl)
theorem Zxb{L:Zc}{k:Nat}{es:Row}:Xk L k (.cs es)=True:=(rfl)
theorem Zxc{L:Zc}{k:Nat}{id:Zd}{off len s:Nat}{cap:Option Nat}:Xk L k (.hd id [] off len cap s)=JR L id [] k:=(rfl)
def ZjX(m:Nat):Option Ob->Prop
 | some (.ar k _ _ _ _)=>k=m
 | _=>False
theorem Zxd{m k hw ver:Nat}{es:Row}{u:Bool}:ZjX m (some (.ar k es u hw ver))=(k=m):=(rfl)
theorem Zxe{key m:Nat}:JR (Zy lvl loc out) (lvl,key) [] m=ZjX m (lkO key loc):=by
 unfold JR
 rw[J7]
 cases lkO key loc with
 | none=>rfl
 | some ob=>cases ob <;> rfl
theorem Zxf{k:Nat}{x:X}{lo hi mx:Option X}:ZA C d (.sw k x lo hi mx) ⟨lvl,env,loc,out⟩ K=(Xk (Zy lvl loc out) k (xv env x)/\ZA C d (.sx k x lo hi mx) ⟨lvl,env,loc,out⟩ K):=by
 rw[Yc rfl,Yc rfl]
 simp only[ev]
 generalize xv env x=q
 cases q with
 | tr t =>
  cases t with
  | v=>simp [Xk]
  | sl es=>simp only[Xk,true_and]
 | cs es=>simp only[Xk,true_and]
 | hd id p off len cap s =>
  cases p with
  | nil =>
   simp only[Xk]
   exact propext ⟨fun⟨hw,h⟩=>⟨hw,XY (fun a h=>XY (fun b h=>⟨h.1,h.2.1,XY (fun m g=>⟨g.1,g.2.1,hw,g.2.2⟩) h.2.2⟩) h) h⟩,fun⟨hw,h⟩=>⟨hw,XY (fun a h=>XY (fun b h=>⟨h.1,h.2.1,XY (fun m g=>⟨g.1,g.2.1,g.2.2.2⟩) h.2.2⟩) h) h⟩⟩
  | cons c r=>simp [Xk]
 | _=>simp [Xk]
theorem Zxg{k:Nat}{x i:X}:ZA C d (.it k x i) ⟨lvl,env,loc,out⟩ K=(Qu (xv env x)/\ZA C d (.ia k x i) ⟨lvl,env,loc,out⟩ K):=by
 rw[Yc rfl,Yc rfl]
 simp only[ev]
 generalize xv env x=q
 generalize xv env i=qi
 cases q with
 | tr t =>
  cases t with
  | v=>simp only[Qu,false_and];split <;> simp
  | sl es=>simp only[Qu,true_and]
 | cs es=>simp only[Qu,true_and]
 | _=>simp only[Qu,false_and];split <;> simp
def apx(v:IV)(d:Option Nat)(k:Nat)(loc0:List (Nat×Ob))(items:Row)(ui:Bool)(st1:St)(K:St->Prop):Prop :=
 Zz k items /\
 match v with
 | .cs zs=>(zs=[]\/items≠[])/\zs.length+items.length<=bigN/\Zz k zs/\freshK (keyOf d) loc0 1/\(zs=[]\/ui=false\/ScR zs) /\
  K { Zn st1 (st1.lvl,keyOf d) (.ar k (zs++items) ui (zs.length+items.length) 0) with env:=ptd d (.hd (st1.lvl,keyOf d) [] 0 (zs.length+items.length) none (zs.length+items.length)) st1.env }
 | .hd id [] 0 len none s =>
  match st1.sto id with
  | some (.ar k' es u hw ver)=>k'=k/\s=hw/\len=es.length/\len+items.length<=bigN /\
   K { Zn st1 id (.ar k (es++items) (u&&ui) (max hw (len+items.length)) ver) with env:=ptd d (.hd id [] 0 (len+items.length) none (max hw (len+items.length))) st1.env }
  | _=>False
 | _=>False
theorem Zxh{k:Nat}{x:X}{loc0:List (Nat×Ob)}{items:Row}{ui:Bool}:Js d k x loc0 items ui ⟨lvl,env,loc,out⟩ K=apx (xv env x) d k loc0 items ui ⟨lvl,env,loc,out⟩ K:=(rfl)
theorem Zxi{k:Nat}{loc0:List (Nat×Ob)}{items zs:Row}{ui:Bool}:apx (.cs zs) d k loc0 items ui ⟨lvl,env,loc,out⟩ K=(Zz k items/\(zs=[]\/items≠[])/\zs.length+items.length<=bigN/\Zz k zs/\freshK (keyOf d) loc0 1/\(zs=[]\/ui=false\/ScR zs) /\
  K ⟨lvl,ptd d (.hd (lvl,keyOf d) [] 0 (zs.length+items.length) none (zs.length+items.length)) env,ptO (keyOf d) (.ar k (zs++items) ui (zs.length+items.length) 0) loc,out⟩):=by
 simp only[apx,UZ]
def aph(o:Option Ob)(d:Option Nat)(k:Nat)(id:Zd)(len s:Nat)(items:Row)(ui:Bool)(st1:St)(K:St->Prop):Prop :=
 match o with
 | some (.ar k' es u hw ver)=>k'=k/\s=hw/\len=es.length/\len+items.length<=bigN /\
   K { Zn st1 id (.ar k (es++items) (u&&ui) (max hw (len+items.length)) ver) with env:=ptd d (.hd id [] 0 (len+items.length) none (max hw (len+items.length))) st1.env }
 | _=>False
theorem Zxj{k key len s:Nat}{loc0:List (Nat×Ob)}{items:Row}{ui:Bool}:apx (.hd (lvl,key) [] 0 len none s) d k loc0 items ui ⟨lvl,env,loc,out⟩ K=(Zz k items/\aph (lkO key loc) d k (lvl,key) len s items ui ⟨lvl,env,loc,out⟩ K):=by
 simp only[apx]
 rw[show (⟨lvl,env,loc,out⟩:St).sto (lvl,key)=lkO key loc from J7]
 rfl
theorem Zxk{k k' key len s:Nat}{items es:Row}{u ui:Bool}{hw ver:Nat}:aph (some (.ar k' es u hw ver)) d k (lvl,key) len s items ui ⟨lvl,env,loc,out⟩ K=(k'=k/\s=hw/\len=es.length/\len+items.length<=bigN /\
   K ⟨lvl,ptd d (.hd (lvl,key) [] 0 (len+items.length) none (max hw (len+items.length))) env,ptO key (.ar k (es++items) (u&&ui) (max hw (len+items.length)) ver) loc,out⟩):=by
 simp only[aph,UZ]
def Qv(C:ZK)(d:Option Nat)(k md:Nat)(x:X)(y:IV)(st:St)(K:St->Prop):Prop :=
 match y with
 | .tr (.sl es)=>if md=0 then ScR es/\Js d k x st.loc es true st K else md=1/\Js d k x st.loc es false st K
 | .cs es=>if md=0 then ScR es/\Js d k x st.loc es true st K else md=1/\Js d k x st.loc es false st K
 | .hd id2 p2 off2 len2 c2 s2 =>
   if md=2 then
    p2=[]/\off2=0/\c2=none/\id2.1=st.lvl /\
    match st.sto id2 with
    | some (.ar _ zs u2 hw2 _)=>s2=hw2/\len2=zs.length/\Js d k x st.loc zs u2 (ZF id2 st) K
    | _=>False
   else if md=0 then
    JQ st.sto id2 p2 s2 fun es _ _=>off2+len2<=es.length/\ScR (cut es off2 len2)/\Js d k x st.loc (cut es off2 len2) true st K
   else md=1/\p2=[] /\
    match st.sto id2 with
    | some (.ar k2 es _ hw2 ver2)=>s2=hw2/\off2+len2<=es.length/\Js d k x st.loc (cut es off2 len2) false (Zn st id2 (.ar k2 es false hw2 ver2)) K
    | _=>False
 | .sv id2=>md=2/\id2.1=st.lvl /\
   match st.sto id2 with
   | some (.bx l)=>l.length=k/\Vy l st fun ts u st' => Js d k x st.loc [ts] u (ZF id2 st') K
   | _=>False
 | _=>False
theorem Zxl{k md:Nat}{x y:X}:ZA C d (.ap k md x y) ⟨lvl,env,loc,out⟩ K=Qv C d k md x (xv env y) ⟨lvl,env,loc,out⟩ K:=by
 rw[J8 rfl]
 rfl
section ap
variable {k:Nat} {x:X}
theorem Zxm{es:Row}:Qv C d k 0 x (.tr (.sl es)) ⟨lvl,env,loc,out⟩ K=(ScR es/\Js d k x loc es true ⟨lvl,env,loc,out⟩ K):=(rfl)
theorem Zxn{es:Row}:Qv C d k 1 x (.tr (.sl es)) ⟨lvl,env,loc,out⟩ K=Js d k x loc es false ⟨lvl,env,loc,out⟩ K:=by simp [Qv]
theorem Zxo{es:Row}:Qv C d k 0 x (.cs es) ⟨lvl,env,loc,out⟩ K=(ScR es/\Js d k x loc es true ⟨lvl,env,loc,out⟩ K):=(rfl)
theorem Zxp{es:Row}:Qv C d k 1 x (.cs es) ⟨lvl,env,loc,out⟩ K=Js d k x loc es false ⟨lvl,env,loc,out⟩ K:=by simp [Qv]
def kap(d:Option Nat)(k:Nat)(x:X)(off2 len2:Nat)(st:St)(K:St->Prop)(es:Row)(_u:Bool)(_v:Nat):Prop:=off2+len2<=es.length/\ScR (cut es off2 len2)/\Js d k x st.loc (cut es off2 len2) true st K
theorem Zxq{off2 len2:Nat}{es:Row}{u:Bool}{v:Nat}:kap d k x off2 len2 ⟨lvl,env,loc,out⟩ K es u v=(off2+len2<=es.length/\ScR (cut es off2 len2)/\Js d k x loc (cut es off2 len2) true ⟨lvl,env,loc,out⟩ K):=(rfl)
theorem Zxr{id2:Zd}{p2:Zk}{off2 len2 s2:Nat}{c2:Option Nat}:Qv C d k 0 x (.hd id2 p2 off2 len2 c2 s2) ⟨lvl,env,loc,out⟩ K=VW (Zy lvl loc out id2) p2 s2 (kap d k x off2 len2 ⟨lvl,env,loc,out⟩ K):=by
 rw[<-WK]
 rfl
def ap5(o:Option Ob)(d:Option Nat)(k:Nat)(x:X)(len2 s2:Nat)(loc0:List (Nat×Ob))(st1:St)(K:St->Prop):Prop :=
 match o with
 | some (.ar _ zs u2 hw2 _)=>s2=hw2/\len2=zs.length/\Js d k x loc0 zs u2 st1 K
 | _=>False
theorem Zxs{key:Nat}{p2:Zk}{off2 len2 s2:Nat}{c2:Option Nat}:Qv C d k 2 x (.hd (lvl,key) p2 off2 len2 c2 s2) ⟨lvl,env,loc,out⟩ K=(p2=[]/\off2=0/\c2=none/\ap5 (lkO key loc) d k x len2 s2 loc (ZF (lvl,key) ⟨lvl,env,loc,out⟩) K):=by
 simp only[Qv,if_true]
 rw[show (⟨lvl,env,loc,out⟩:St).sto (lvl,key)=lkO key loc from J7]
 generalize lkO key loc=o
 apply propext
 constructor
 ·rintro⟨h1,h2,h3,_,h5⟩
  refine⟨h1,h2,h3,?_⟩
  cases o with
  | none=>exact h5
  | some ob=>cases ob <;> exact h5
 ·rintro⟨h1,h2,h3,h5⟩
  refine⟨h1,h2,h3,trivial,?_⟩
  cases o with
  | none=>exact h5
  | some ob=>cases ob <;> exact h5
theorem Zxt{k2:Nat}{zs:Row}{u2:Bool}{hw2 ver2 len2 s2:Nat}{loc0:List (Nat×Ob)}{st1:St}:ap5 (some (.ar k2 zs u2 hw2 ver2)) d k x len2 s2 loc0 st1 K=(s2=hw2/\len2=zs.length/\Js d k x loc0 zs u2 st1 K):=(rfl)
def Ze1(d:Option Nat)(k:Nat)(x:X)(loc0:List (Nat×Ob))(id2:Zd)(K:St->Prop)(ts:List Tr)(u:Bool)(st':St):Prop:=Js d k x loc0 [ts] u (ZF id2 st') K
theorem Zxu{loc0:List (Nat×Ob)}{id2:Zd}{ts:List Tr}{u:Bool}:Ze1 d k x loc0 id2 K ts u st=Js d k x loc0 [ts] u (ZF id2 st) K:=(rfl)
def aps(o:Option Ob)(d:Option Nat)(k:Nat)(x:X)(loc0:List (Nat×Ob))(id2:Zd)(st1:St)(K:St->Prop):Prop :=
 match o with
 | some (.bx l)=>l.length=k/\Vy l st1 (Ze1 d k x loc0 id2 K)
 | _=>False
theorem Zxv{l:List IV}{loc0:List (Nat×Ob)}{id2:Zd}{st1:St}:aps (some (.bx l)) d k x loc0 id2 st1 K=(l.length=k/\Vy l st1 (Ze1 d k x loc0 id2 K)):=(rfl)
theorem Zxw{key:Nat}:Qv C d k 2 x (.sv (lvl,key)) ⟨lvl,env,loc,out⟩ K=aps (lkO key loc) d k x loc (lvl,key) ⟨lvl,env,loc,out⟩ K:=by
 simp only[Qv]
 rw[show (⟨lvl,env,loc,out⟩:St).sto (lvl,key)=lkO key loc from J7]
 generalize lkO key loc=o
 apply propext
 constructor
 ·rintro⟨_,_,h⟩
  cases o with
  | none=>exact h
  | some ob=>cases ob <;> exact h
 ·intro h
  refine⟨trivial,trivial,?_⟩
  cases o with
  | none=>exact h
  | some ob=>cases ob <;> exact h
end ap
theorem Ze2{L:Zc}{F:List IV->Prop}:∀{l:List Tr},ZV L (l.map .tr) F=F (l.map .tr)
 | []=>ZeY
 | t::r=>by rw[Uai,ZjO,Ze2,ZjK]
theorem Zb5{Pd:Zd->Prop}:∀{l:List Tr},Za Pd (l.map .tr)=True
 | []=>rfl
 | t::r=>by simp only[Uai,Za,men,Zb5,and_self]
def nlf(v:IV)(neg:Bool)(lvl:Nat)(env:List (Nat×IV))(loc:List (Nat×Ob))(out:Zc)(d:Option Nat)(K:St->Prop):Prop :=
 match v with
 | .tr (.sl es)=>K ⟨lvl,ptd d (iB neg) env,loc,out⟩/\(es=[]->K ⟨lvl,ptd d (iB !neg) env,loc,out⟩)
 | .cs es=>K ⟨lvl,ptd d (iB neg) env,loc,out⟩/\(es=[]->K ⟨lvl,ptd d (iB !neg) env,loc,out⟩)
 | _=>False
theorem Zxx{C:ZK}{d:Option Nat}{neg:Bool}{x:X}{lvl:Nat}{env:List (Nat×IV)}{loc:List (Nat×Ob)}{out:Zc}{K:St->Prop}:ZA C d (.nl neg x) ⟨lvl,env,loc,out⟩ K=nlf (xv env x) neg lvl env loc out d K:=by
 rw[J8 rfl]
 rfl
theorem Zxy{neg:Bool}{es:Row}{d:Option Nat}{lvl:Nat}{env:List (Nat×IV)}{loc:List (Nat×Ob)}{out:Zc}{K:St->Prop}:nlf (.tr (.sl es)) neg lvl env loc out d K=(K ⟨lvl,ptd d (iB neg) env,loc,out⟩/\(es=[]->K ⟨lvl,ptd d (iB !neg) env,loc,out⟩)):=(rfl)
theorem Zxz{neg:Bool}{es:Row}{d:Option Nat}{lvl:Nat}{env:List (Nat×IV)}{loc:List (Nat×Ob)}{out:Zc}{K:St->Prop}:nlf (.cs es) neg lvl env loc out d K=(K ⟨lvl,ptd d (iB neg) env,loc,out⟩/\(es=[]->K ⟨lvl,ptd d (iB !neg) env,loc,out⟩)):=(rfl)
section row
variable {C:ZK} {d:Option Nat} {x y hi:X} {lvl:Nat} {env:List (Nat×IV)} {loc:List (Nat×Ob)} {out:Zc} {K:St->Prop} {st:St}
def Y4(d:Option Nat)(x:IV)(st:St)(K:St->Prop):Prop:=K { st with env:=ptd d x st.env }
theorem ZxA{v:IV}:Y4 d v ⟨lvl,env,loc,out⟩ K=K ⟨lvl,ptd d v env,loc,out⟩:=(rfl)
theorem Zb6{v:IV}{id:Zd}{ob:Ob}:Y4 d v (Zn st id ob) K=K { Zn st id ob with env:=ptd d v st.env }:=by
 unfold Y4
 rw[WB]
def cpf(v:IV)(lvl:Nat)(env:List (Nat×IV))(loc:List (Nat×Ob))(out:Zc)(d:Option Nat)(K:St->Prop):Prop :=
 match v with
 | .cs es=>K ⟨lvl,ptd d (iI es.length) env,loc,out⟩
 | _=>False
theorem ZxB:ZA C d (.cp x) ⟨lvl,env,loc,out⟩ K=cpf (xv env x) lvl env loc out d K:=by
 rw[J8 rfl]
 rfl
theorem ZxC{es:Row}:cpf (.cs es) lvl env loc out d K=K ⟨lvl,ptd d (iI es.length) env,loc,out⟩:=(rfl)
def shg(o:Option Ob)(id:Zd)(m:Int)(len s k:Nat)(d:Option Nat)(st:St)(K:St->Prop):Prop :=
 match o with
 | some (.ar k2 es u hw ver)=>k2=k/\s=hw/\0<=m/\m.toNat<=len/\len<=es.length/\Y4 d (.hd id [] 0 m.toNat none hw) (Zn st id (.ar k2 (es.take m.toNat) u hw (ver+1))) K
 | _=>False
def shf(v hv:IV)(k:Nat)(d:Option Nat)(st:St)(K:St->Prop):Prop :=
 match v with
 | .cs es =>
  match hv with
  | .tr (.v (.int _ m))=>m=es.length/\Zz k es/\Y4 d (.cs es) st K
  | _=>False
 | .hd id p off len cap s =>
  match hv with
  | .tr (.v (.int _ m))=>p=[]/\off=0/\cap=none/\shg (st.sto id) id m len s k d st K
  | _=>False
 | _=>False
theorem ZxD{k:Nat}:ZA C d (.sh k x hi) ⟨lvl,env,loc,out⟩ K=shf (xv env x) (xv env hi) k d ⟨lvl,env,loc,out⟩ K:=by
 rw[J8 rfl]
 simp only[ew]
 generalize xv env x=v
 cases v <;> try rfl
 rename_i id p off len cap s
 generalize xv env hi=hv
 cases hv <;> try rfl
 rename_i t
 cases t <;> try rfl
 rename_i q
 cases q <;> try rfl
 simp only[shf,shg]
 generalize (⟨lvl,env,loc,out⟩:St).sto id=o
 cases o with
 | none=>simp
 | some ob =>
  cases ob with
  | bx=>simp
  | ar k2 es u hw ver=>simp only[Zb6]
theorem ZxE{id:Zd}{len s k:Nat}{kk:IntKind}{m:Int}:shf (.hd id [] 0 len none s) (.tr (.v (.int kk m))) k d ⟨lvl,env,loc,out⟩ K=shg (Zy lvl loc out id) id m len s k d ⟨lvl,env,loc,out⟩ K:=by
 simp only[shf,true_and]
 rfl
theorem ZxF{es:Row}{k:Nat}{kk:IntKind}{m:Int}:shf (.cs es) (.tr (.v (.int kk m))) k d ⟨lvl,env,loc,out⟩ K=(m=es.length/\Zz k es/\Y4 d (.cs es) ⟨lvl,env,loc,out⟩ K):=(rfl)
theorem ZxG{id:Zd}{len s k k2 hw ver:Nat}{es:Row}{u:Bool}{m:Int}:shg (some (.ar k2 es u hw ver)) id m len s k d st K=(k2=k/\s=hw/\0<=m/\m.toNat<=len/\len<=es.length/\Y4 d (.hd id [] 0 m.toNat none hw) (Zn st id (.ar k2 (es.take m.toNat) u hw (ver+1))) K):=(rfl)
def fzg(o:Option Ob)(len s:Nat)(d:Option Nat)(st1:St)(K:St->Prop):Prop :=
 match o with
 | some (.ar _ zs _ hw _)=>s=hw/\len=zs.length/\Y4 d (.tr (.sl zs)) st1 K
 | _=>False
def fzf(v:IV)(d:Option Nat)(st:St)(K:St->Prop):Prop :=
 match v with
 | .hd id [] 0 len none s=>id.1=st.lvl/\fzg (st.sto id) len s d (ZF id st) K
 | _=>False
theorem ZxH:ZA C d (.fz x) ⟨lvl,env,loc,out⟩ K=fzf (xv env x) d ⟨lvl,env,loc,out⟩ K:=by
 rw[J8 rfl]
 simp only[ew]
 generalize xv env x=v
 unfold fzf
 split
 ·rename_i id len s
  simp only[fzg]
  generalize (⟨lvl,env,loc,out⟩:St).sto id=o
  cases o with
  | none=>rfl
  | some ob=>cases ob <;> rfl
 ·rename_i hv
  split
  ·exact(hv _ _ _ rfl).elim
  ·rfl
theorem ZxI{key len s:Nat}:fzf (.hd (lvl,key) [] 0 len none s) d ⟨lvl,env,loc,out⟩ K=fzg (lkO key loc) len s d (ZF (lvl,key) ⟨lvl,env,loc,out⟩) K:=by
 simp only[fzf,true_and]
 rw[show (⟨lvl,env,loc,out⟩:St).sto (lvl,key)=lkO key loc from J7]
theorem ZxJ{len s k hw ver:Nat}{zs:Row}{u:Bool}:fzg (some (.ar k zs u hw ver)) len s d st K=(s=hw/\len=zs.length/\Y4 d (.tr (.sl zs)) st K):=(rfl)
def drp(o:Option Ob)(id:Zd)(st:St):St :=
 match o with
 | none=>st
 | some _=>ZF id st
theorem ZxK{id:Zd}:drp none id st=st:=(rfl)
theorem ZxL{ob:Ob}{id:Zd}:drp (some ob) id st=ZF id st:=(rfl)
def rkg(o:Option Ob)(len s:Nat)(id0:Zd)(d:Option Nat)(st1:St)(K:St->Prop):Prop :=
 match o with
 | some (.ar k zs u hw ver)=>s=hw/\len=zs.length/\Y4 d (.hd id0 [] 0 len none s) (Zn st1 id0 (.ar k zs u hw ver)) K
 | _=>False
def rkf(v:IV)(d:Option Nat)(st:St)(K:St->Prop):Prop :=
 match v with
 | .hd id [] 0 len none s=>id.1=st.lvl/\(st.lvl,keyOf d)≠id/\rkg (st.sto id) len s (st.lvl,keyOf d) d (ZF id (Q7 (st.lvl,keyOf d) st)) K
 | _=>False
theorem ZxM:ZA C d (.rk x) ⟨lvl,env,loc,out⟩ K=rkf (xv env x) d ⟨lvl,env,loc,out⟩ K:=by
 rw[J8 rfl]
 simp only[ew]
 generalize xv env x=v
 unfold rkf
 split
 ·rename_i id len s
  simp only[rkg]
  generalize (⟨lvl,env,loc,out⟩:St).sto id=o
  cases o with
  | none=>rfl
  | some ob =>
   cases ob with
   | bx=>rfl
   | ar k2 es u hw ver=>simp only[Zb6]
 ·rename_i hv
  split
  ·exact(hv _ _ _ rfl).elim
  ·rfl
theorem ZxN{key len s:Nat}{t:Nat}:rkf (.hd (lvl,key) [] 0 len none s) (some t) ⟨lvl,env,loc,out⟩ K=(t*32≠key/\rkg (lkO key loc) len s (lvl,t*32) (some t) (ZF (lvl,key) (drp (lkO (t*32) loc) (lvl,t*32) ⟨lvl,env,loc,out⟩)) K):=by
 simp only[rkf,true_and,Q7,keyOf]
 rw[show (⟨lvl,env,loc,out⟩:St).sto (lvl,key)=lkO key loc from J7,show (⟨lvl,env,loc,out⟩:St).sto (lvl,t*32)=lkO (t*32) loc from J7]
 congr 1
 simp
theorem ZxO{key:Nat}{p x:X}:ZA C d (.gv key p x) ⟨lvl,env,loc,out⟩ K=(d=none/\DM (xv env p) (xv env x) key ⟨lvl,env,loc,out⟩ K):=by
 rw[J8 rfl]
 simp only[ew]
theorem ZxP{id:Zd}{off key key2 len s:Nat}:DM (.ab id off) (.hd (lvl,key2) [] 0 len none s) key ⟨lvl,env,loc,out⟩ K=(id.1<lvl/\Zy lvl loc out (id.1,key)=none/\gvo (Zy lvl loc out id) (lkO key2 loc) id off key len s (lvl,key2) ⟨lvl,env,loc,out⟩ K):=by
 simp only[DM,true_and]
 rw[show (⟨lvl,env,loc,out⟩:St).sto (lvl,key2)=lkO key2 loc from J7]
 rfl
theorem ZxQ{cells:List IV}{k:Nat}{zs:Row}{u:Bool}{hw ver:Nat}{id id2:Zd}{off key len s:Nat}:gvo (some (.bx cells)) (some (.ar k zs u hw ver)) id off key len s id2 st K=(off+1<=cells.length/\s=hw/\len=zs.length/\K (Zn (Zn (ZF id2 st) (id.1,key) (.ar k zs u hw ver)) id (.bx (Ys cells off [.hd (id.1,key) [] 0 len none s])))):=(rfl)
theorem ZxR{len s k hw ver:Nat}{zs:Row}{u:Bool}{id0:Zd}:rkg (some (.ar k zs u hw ver)) len s id0 d st K=(s=hw/\len=zs.length/\Y4 d (.hd id0 [] 0 len none s) (Zn st id0 (.ar k zs u hw ver)) K):=(rfl)
theorem ZxS{K:List IV->St->Prop}:XJ [] st K=K [] st:=(rfl)
theorem ZxT{x:X}{r:List X}{K:List IV->St->Prop}:XJ (x::r) st K=UE (xv st.env x) st fun t st1=>XJ r st1 fun ts st2=>K (.ta t::ts) st2:=(rfl)
def Zb7(o:Option (List Tr×Bool))(F:List Tr->Prop)(H:Prop):Prop :=
 match o with
 | some (ts,_)=>F ts
 | none=>H
def Ze3(o:Option Ob)(F:List Tr->Prop)(H:List IV->Prop):Prop :=
 match o with
 | some (.bx cells)=>Zb7 (totrs cells) F (H cells)
 | _=>False
theorem ZxU{ts:List Tr}{K:List Tr->St->Prop}:UE (.ta ts) st K=K ts st:=(rfl)
theorem ZxV{key:Nat}{K:List Tr->St->Prop}:UE (.ab (lvl,key) 0) ⟨lvl,env,loc,out⟩ K=Ze3 (lkO key loc) (fun ts=>K ts (ZF (lvl,key) ⟨lvl,env,loc,out⟩)) (fun cells=>Y1 cells ⟨lvl,env,loc,out⟩ fun ts st1=>K ts (ZF (lvl,key) st1)):=by
 simp only[UE,true_and]
 rw[show (⟨lvl,env,loc,out⟩:St).sto (lvl,key)=lkO key loc from J7]
 generalize lkO key loc=o
 cases o with
 | none=>rfl
 | some ob =>
  cases ob with
  | ar=>rfl
  | bx cells =>
   simp only[Ze3]
   generalize totrs cells=q
   cases q <;> rfl
theorem ZxW{cells:List IV}{F:List Tr->Prop}{H:List IV->Prop}:Ze3 (some (.bx cells)) F H=Zb7 (totrs cells) F (H cells):=(rfl)
theorem ZxX{ts:List Tr}{q:Bool}{F:List Tr->Prop}{H:Prop}:Zb7 (some (ts,q)) F H=F ts:=(rfl)
theorem ZxY{F:List Tr->Prop}{H:Prop}:Zb7 none F H=H:=(rfl)
theorem ZxZ{id:Zd}{p:Zk}{off len s:Nat}{cap:Option Nat}{r:List IV}:totrs (.hd id p off len cap s::r)=none:=(rfl)
theorem Zx0{f:Nat}{cs:List X}:ZA C d (.mz f cs) ⟨lvl,env,loc,out⟩ K=XJ cs ⟨lvl,env,loc,out⟩ fun l st1=>Y4 d (.fn f l) st1 K:=by
 rw[J8 rfl]
 rfl
theorem Zx1{K:List Tr->St->Prop}:Y1 [] st K=K [] st:=(rfl)
theorem Zx2{x:IV}{r:List IV}{K:List Tr->St->Prop}:Y1 (x::r) st K=Wr x st fun t st1=>Y1 r st1 fun ts st2=>K (t::ts) st2:=(rfl)
def ZjY(o:Option Ob)(len s:Nat)(F:Row->Prop):Prop :=
 match o with
 | some (.ar _ zs _ hw _)=>s=hw/\len=zs.length/\F zs
 | _=>False
theorem Zx3{t:Tr}{K:Tr->St->Prop}:Wr (.tr t) st K=K t st:=(rfl)
theorem Zx4{es:Row}{K:Tr->St->Prop}:Wr (.cs es) st K=K (.sl es) st:=(rfl)
theorem Zx5{key len s:Nat}{K:Tr->St->Prop}:Wr (.hd (lvl,key) [] 0 len none s) ⟨lvl,env,loc,out⟩ K=ZjY (lkO key loc) len s fun zs=>K (.sl zs) (ZF (lvl,key) ⟨lvl,env,loc,out⟩):=by
 simp only[Wr,true_and]
 rw[show (⟨lvl,env,loc,out⟩:St).sto (lvl,key)=lkO key loc from J7]
 generalize lkO key loc=o
 cases o with
 | none=>rfl
 | some ob=>cases ob <;> rfl
theorem Zx6{k len s hw ver:Nat}{zs:Row}{u:Bool}{F:Row->Prop}:ZjY (some (.ar k zs u hw ver)) len s F=(s=hw/\len=zs.length/\F zs):=(rfl)
def lzg(o:Option Ob)(off m:Nat)(d:Option Nat)(st:St)(K:St->Prop):Prop :=
 match o with
 | some (.bx cells)=>off+m<=cells.length/\Y1 ((cells.drop off).take m) st fun ts st1=>Y4 d (.ag (ts.map .tr)) st1 K
 | _=>False
def lzf(v:IV)(m:Nat)(d:Option Nat)(st:St)(K:St->Prop):Prop :=
 match v with
 | .ab id off=>lzg (st.sto id) off m d st K
 | _=>False
theorem Zx7{m:Nat}:ZA C d (.lz m x) ⟨lvl,env,loc,out⟩ K=lzf (xv env x) m d ⟨lvl,env,loc,out⟩ K:=by
 rw[J8 rfl]
 simp only[ew]
 generalize xv env x=v
 cases v <;> rfl
theorem Zx8{key off m:Nat}:lzf (.ab (lvl,key) off) m d ⟨lvl,env,loc,out⟩ K=lzg (lkO key loc) off m d ⟨lvl,env,loc,out⟩ K:=by
 simp only[lzf]
 rw[show (⟨lvl,env,loc,out⟩:St).sto (lvl,key)=lkO key loc from J7]
theorem Zx9{cells:List IV}{off m:Nat}:lzg (some (.bx cells)) off m d st K=(off+m<=cells.length/\Y1 ((cells.drop off).take m) st fun ts st1=>Y4 d (.ag (ts.map .tr)) st1 K):=(rfl)
def clg(o:Option Ob)(id:Zd)(off len s k:Nat)(d:Option Nat)(st:St)(K:St->Prop):Prop :=
 match o with
 | some (.ar k2 es u hw ver)=>k2=k/\s=hw/\off+len=es.length/\Y4 d (.tu []) (Zn st id (.ar k2 (es.take off) u hw (ver+1))) K
 | _=>False
def clf(v:IV)(k:Nat)(d:Option Nat)(st:St)(K:St->Prop):Prop :=
 match v with
 | .hd id p off len _ s=>p=[]/\clg (st.sto id) id off len s k d st K
 | _=>False
theorem Zya{k:Nat}{z:List Value}:ZA C d (.cl k z x) ⟨lvl,env,loc,out⟩ K=clf (xv env x) k d ⟨lvl,env,loc,out⟩ K:=by
 rw[J8 rfl]
 simp only[ew]
 generalize xv env x=v
 cases v <;> try rfl
 rename_i id p off len cap s
 simp only[clf,clg]
 generalize (⟨lvl,env,loc,out⟩:St).sto id=o
 cases o with
 | none=>simp
 | some ob =>
  cases ob with
  | bx=>simp
  | ar k2 es u hw ver=>simp only[Zb6]
theorem Zyb{id:Zd}{off len s k:Nat}{cap:Option Nat}:clf (.hd id [] off len cap s) k d ⟨lvl,env,loc,out⟩ K=clg (Zy lvl loc out id) id off len s k d ⟨lvl,env,loc,out⟩ K:=by
 simp only[clf,true_and]
 rfl
theorem Zyc{id:Zd}{off len s k k2 hw ver:Nat}{es:Row}{u:Bool}:clg (some (.ar k2 es u hw ver)) id off len s k d st K=(k2=k/\s=hw/\off+len=es.length/\Y4 d (.tu []) (Zn st id (.ar k2 (es.take off) u hw (ver+1))) K):=(rfl)
def srk(off len:Nat)(F:Row->Prop)(es:Row)(_u:Bool)(_v:Nat):Prop:=off+len<=es.length/\F (cut es off len)
theorem Zyd{off len:Nat}{F:Row->Prop}{es:Row}{u:Bool}{v:Nat}:srk off len F es u v=(off+len<=es.length/\F (cut es off len)):=(rfl)
theorem Zye{zs:Row}{F:Row->Prop}:QJ st (.tr (.sl zs)) F=F zs:=(rfl)
theorem Zyf{zs:Row}{F:Row->Prop}:QJ st (.cs zs) F=F zs:=(rfl)
theorem Zyg{id:Zd}{p:Zk}{off len s:Nat}{cap:Option Nat}{F:Row->Prop}:QJ ⟨lvl,env,loc,out⟩ (.hd id p off len cap s) F=VW (Zy lvl loc out id) p s (srk off len F):=by
 rw[<-WK]
 rfl
def a3k(zs:Row)(k:Nat)(d:Option Nat)(st:St)(K:St->Prop)(items:Row):Prop :=
 items≠[]/\ScR items/\Zz k zs/\Zz k items/\zs.length+items.length<=bigN/\K ⟨st.lvl,ptd d (.tr (.sl (zs++items))) st.env,st.loc,st.out⟩
theorem Zyh{zs items:Row}{k:Nat}:a3k zs k d ⟨lvl,env,loc,out⟩ K items=(items≠[]/\ScR items/\Zz k zs/\Zz k items/\zs.length+items.length<=bigN/\K ⟨lvl,ptd d (.tr (.sl (zs++items))) env,loc,out⟩):=(rfl)
def a3f(vx vy:IV)(k:Nat)(d:Option Nat)(st:St)(K:St->Prop):Prop :=
 match vx with
 | .cs zs=>QJ st vy (a3k zs k d st K)
 | _=>False
theorem Zyi{zs:Row}{vy:IV}{k:Nat}:a3f (.cs zs) vy k d st K=QJ st vy (a3k zs k d st K):=(rfl)
theorem Zyj{k:Nat}{x y:X}:ZA C d (.a3 k x y) ⟨lvl,env,loc,out⟩ K=a3f (xv env x) (xv env y) k d ⟨lvl,env,loc,out⟩ K:=by
 rw[Yc rfl]
 simp only[ev]
 generalize xv env x=vx
 cases vx <;> try rfl
 rename_i zs
 have e:∀ items:Row,(items≠[]/\ScR items/\Zz k zs/\Zz k items/\zs.length+items.length<=bigN/\ZE (fun mk obs=>freshK (keyOf d) loc (obs lvl (keyOf d)).length/\K ⟨lvl,ptd d (mk lvl (keyOf d)) env,addO (keyOf d) (obs lvl (keyOf d)) loc,out⟩) (.tr (.sl (zs++items))))=a3k zs k d ⟨lvl,env,loc,out⟩ K items:=fun items=>by
  simp [a3k,ZE,freshK,addO]
 simp only[e]
 rfl
theorem Zyk{k:Nat}{x y:X}:ZA C d (.c0 k x y) ⟨lvl,env,loc,out⟩ K=ZA C d (.cy k x y) ⟨lvl,env,loc,out⟩ K:=by
 rw[J8 rfl,J8 rfl]
 exact propext ⟨ZiS,Zrc⟩
def cyk(es:Row)(u:Bool)(hw ver:Nat)(id:Zd)(off len k:Nat)(d:Option Nat)(st:St)(K:St->Prop)(zs:Row):Prop :=
 ScR zs/\Zz k zs/\Y4 d (iI (min zs.length len:Nat)) (Zn st id (.ar k (es.take off++zs.take len++es.drop (off+min zs.length len)) u hw (ver+1))) K
theorem Zyl{es:Row}{u:Bool}{hw ver:Nat}{id:Zd}{off len k:Nat}{zs:Row}:cyk es u hw ver id off len k d st K zs=(ScR zs/\Zz k zs/\Y4 d (iI (min zs.length len:Nat)) (Zn st id (.ar k (es.take off++zs.take len++es.drop (off+min zs.length len)) u hw (ver+1))) K):=(rfl)
def cyg(o:Option Ob)(id:Zd)(off len s k:Nat)(v:IV)(d:Option Nat)(st:St)(K:St->Prop):Prop :=
 match o with
 | some (.ar k2 es u hw ver)=>k2=k/\s=hw/\off+len<=es.length/\ScR es/\QJ st v (cyk es u hw ver id off len k d st K)
 | _=>False
def cyf(x v:IV)(k:Nat)(d:Option Nat)(st:St)(K:St->Prop):Prop :=
 match x with
 | .hd id p off len _ s=>p=[]/\cyg (st.sto id) id off len s k v d st K
 | _=>False
theorem Zym{k:Nat}:ZA C d (.cy k x y) ⟨lvl,env,loc,out⟩ K=cyf (xv env x) (xv env y) k d ⟨lvl,env,loc,out⟩ K:=by
 rw[J8 rfl]
 simp only[ew]
 generalize xv env x=v
 cases v <;> try rfl
 rename_i id p off len cap s
 simp only[cyf,cyg]
 generalize (⟨lvl,env,loc,out⟩:St).sto id=o
 cases o with
 | none=>simp
 | some ob =>
  cases ob with
  | bx=>simp
  | ar k2 es u hw ver =>
   dsimp only
   by_cases hk:k2=k
   ·subst hk
    have:(fun zs=>ScR zs/\Zz k2 zs/\K { Zn ⟨lvl,env,loc,out⟩ id (.ar k2 (es.take off++zs.take len++es.drop (off+min zs.length len)) u hw (ver+1)) with env:=ptd d (iI (min zs.length len:Nat)) env })=cyk es u hw ver id off len k2 d ⟨lvl,env,loc,out⟩ K:=by
     funext zs
     simp only[cyk,Zb6]
    rw[this]
   ·simp [hk]
theorem Zyn{id:Zd}{off len s k:Nat}{cap:Option Nat}{v:IV}:cyf (.hd id [] off len cap s) v k d ⟨lvl,env,loc,out⟩ K=cyg (Zy lvl loc out id) id off len s k v d ⟨lvl,env,loc,out⟩ K:=by
 simp only[cyf,true_and]
 rfl
theorem Zyo{id:Zd}{off len s k k2 hw ver:Nat}{es:Row}{u:Bool}{v:IV}:cyg (some (.ar k2 es u hw ver)) id off len s k v d st K=(k2=k/\s=hw/\off+len<=es.length/\ScR es/\QJ st v (cyk es u hw ver id off len k d st K)):=(rfl)
end row
theorem Zyp{α:Type}{F:α->Prop}:Z9 none F=False:=(rfl)
end
abbrev tv(n:Int):Tr:=.v (.int .i64 n)
abbrev ts(s:ByteArray):Tr:=.v (.string s)
abbrev rI(l:List Int):Row:=l.map fun n=>[tv n]
abbrev tI(l:List Int):IV:=.tr (.sl (rI l))
abbrev rS(l:List ByteArray):Row:=l.map fun n=>[ts n]
abbrev tS(l:List ByteArray):IV:=.tr (.sl (rS l))
theorem Zg(n:Int):ZW .i64 n=(-9223372036854775808<=n/\n<=9223372036854775807):=by
 simp [ZW,IntKind.min,IntKind.max,IntKind.signed,IntKind.bits]
theorem Ug{α:Type}{k:Nat}(f:α->List Tr)(h:∀ x,(f x).length=k)(l:List α):Zz k (l.map f):=by
 intro e he
 obtain⟨x,_,rfl⟩:=Uaq.1 he
 exact h x
end Go.Fd

namespace Go.Fd
def In(w:World)(b:Nat):Prop:=b<w.heap.size
def Ze4(w:World)(cs:List Value)(ts:List Tr):Prop:=∀(j:Nat) (v:Value) (t:Tr),cs[j]? = some v->ts[j]? = some t->Rds w (In w) v t
def VD(P:Program)(t:TypeId){α:Type}(c:α->List Tr)(Q:α->Prop):Prop :=
 ∀(H:Type) (enc:TypeId×Value->H) (w:World) (sp:Nat->Bool) (hd:Bool) (fuel:Nat) (cs:List Value) (x:DataW H×List MemPlace),
  DataW.trod enc P w 0 sp hd fuel t cs=some x->∃ y,Q y/\Ze4 w cs (c y)
theorem Zb8{w:World}{v:Value}{t:Tr}(h:Rds w (In w) v t):Ze4 w [v] [t]:=fun j v' t' h1 h2=>by
 match j with
 | 0=>simp at h1 h2;subst h1;subst h2;exact h
 | j+1=>simp at h1
theorem Zyq{P:Program}{t:TypeId}(ht:P.underlying t=some (.int .i64)):VD P t (fun n:Int=>[tv n]) (ZW .i64):=by
 intro H enc w sp hd fuel cs x h
 obtain⟨n,rfl,_,hw⟩:=DataW.trod_int ht h
 exact⟨n,by simpa [Lit.wf,ZW] using hw,Zb8 (.v _ rfl)⟩
theorem Zyr{P:Program}{t:TypeId}(ht:P.underlying t=some .string):VD P t (fun n:ByteArray=>[ts n]) (fun n=>n.size<=9223372036854775807):=by
 intro H enc w sp hd fuel cs x h
 obtain⟨n,rfl,_,hw⟩:=DataW.trod_string ht h
 exact⟨n,hw,Zb8 (.v _ rfl)⟩
theorem Zys{w:World}{a:Addr}{v:Value}(h:w.cell? a=some v):a.block<w.heap.size:=by
 unfold World.cell? at h
 cases hh:w.heap[a.block]? with
 | none=>rw[hh] at h;cases h
 | some o=>exact(UaL.1 hh).1
theorem Zyt{α:Type}(n:Nat)(R:Nat->α->Prop)(h:∀ i,i<n->∃ y,R i y):∃ l:List α,l.length=n/\∀ i y,l[i]? = some y->R i y:=by
 induction n with
 | zero=>exact⟨[],rfl,fun i y h=>by simp at h⟩
 | succ n ih =>
  obtain⟨l,hl,hr⟩:=ih (fun i hi=>h i (by omega))
  obtain⟨y,hy⟩:=h n (by omega)
  refine⟨l++[y],by simp [hl],fun i z hz=>?_⟩
  by_cases hi:i<n
  ·rw[Uav (by omega)] at hz;exact hr i z hz
  ·have hlt:=(Uac.1 hz).1
   simp only[Uad,List.length_singleton] at hlt
   have:i=n:=by omega
   subst this
   rw[Uar (by omega),hl,Ubn] at hz
   simp at hz
   exact hz ▸ hy
theorem Zyu{P:Program}{t e:TypeId}{k:Nat}{α:Type}{c:α->List Tr}{Q:α->Prop}(ht:P.underlying t=some (.slice e))(hk:P.cellsOf e=k+1)(hc:∀ x,(c x).length=k+1)
  (he:VD P e c Q):VD P t (fun l:List α=>[.sl (l.map c)]) (fun l=>l.length<=9223372036854775807/\∀ x∈l,Q x):=by
 intro H enc w sp hd fuel cs x h
 rcases DataW.trod_slice ht h with ⟨rfl,_⟩ | ⟨a,len,cap,elems,rest,n,_,rfl,_,_,hl,hm,hlen,hel,_,_⟩
 ·exact⟨[],⟨by simp,by simp⟩,Zb8 (.nil none 0)⟩
 ·have each:∀ i,i<len->∃ y,Q y/\∀ j t,(c y)[j]? = some t->∃ v,w.cell? (a.add (i*(k+1)+j))=some v/\Rds w (In w) v t:=fun i hi=>by
   have h1:=hel i hi
   rw[hk] at h1
   obtain⟨z,hz⟩:∃ z,elems[i]? = some z:=⟨elems[i]'(by omega),Uah _⟩
   rw[hz,Option.bind_eq_some_iff] at h1
   obtain⟨row,hrow,hx⟩:=h1
   obtain⟨y,hy,hr⟩:=he H enc w sp hd n row z hx
   obtain⟨_,hrl,hg⟩:=World.cells?_some hrow
   refine⟨y,hy,fun j t hj=>?_⟩
   have hjk:j<k+1:=by rw[<-hc y];exact(Uac.1 hj).1
   have hv:row[j]? = some (row[j]'(by omega)):=Uah _
   have:=hg j hjk
   rw[hv] at this
   have e2:(a.add (i*(k+1))).add j=a.add (i*(k+1)+j):=by
    unfold Addr.add
    by_cases h0:i*(k+1)=0
    ·simp [h0]
    ·by_cases h1:j=0
     ·simp [h1,h0]
     ·have h2:¬ (i*(k+1)+j=0):=by omega
      simp only[if_neg h0,if_neg h1,if_neg h2,Addr.mk.injEq,and_true,true_and]
      omega
   rw[e2] at this
   exact⟨_,this,hr j _ t hv hj⟩
  obtain⟨l,hll,hlr⟩:=Zyt len _ each
  refine⟨l,⟨?_,fun y hy=>?_⟩,Zb8 ?_⟩
  ·rw[hll];exact UaI hl hm
  ·obtain⟨i,hi⟩:=Ubj hy
   exact(hlr i y hi).1
  ·by_cases h0:len=0
   ·have:l=[]:=UaG (by omega)
    subst this;subst h0
    exact .nil _ _
   ·obtain⟨y0,hy0⟩:∃ y0,l[0]? = some y0:=⟨l[0]'(by omega),Uah _⟩
    obtain⟨t0,ht0⟩:∃ t0,(c y0)[0]? = some t0:=⟨(c y0)[0]'(by rw[hc];omega),Uah _⟩
    obtain⟨v0,hv0,_⟩:=(hlr 0 y0 hy0).2 0 t0 ht0
    obtain⟨b,o,s⟩:=a
    have hs:s=none:=by simpa [Addr.add] using World.cell?_spot hv0
    subst hs
    have hb:b<w.heap.size:=by simpa [Addr.add] using Zys hv0
    have hel2:∀ i e j t,(l.map c)[i]? = some e->e[j]? = some t->∃ v,w.cell? ⟨b,o+i*(k+1)+j,none⟩=some v/\Rds w (In w) v t:=fun i e j t h1 h2=>by
     rw[Uas,UaO] at h1
     obtain⟨y,hy,rfl⟩:=h1
     obtain⟨v,hv,hr⟩:=(hlr i y hy).2 j t h2
     refine⟨v,?_,hr⟩
     rw[<-hv]
     congr 1
     unfold Addr.add
     by_cases h0:i*(k+1)+j=0
     ·have:o+i*(k+1)+j=o:=by omega
      rw[if_pos h0,this]
     ·rw[if_neg h0]
      have:o+i*(k+1)+j=o+(i*(k+1)+j):=by omega
      simp only[this]
    have hlm:(l.map c).length=len:=by simpa using hll
    have:=Rds.sl (w:=w) (A:=In w) b o cap (k+1) (l.map c) (fun i j=>(w.cell? ⟨b,o+i*(k+1)+j,none⟩).getD .nilFunc) hb
     (fun e he=>by simp only[Uaq] at he;obtain⟨y,_,rfl⟩:=he;exact hc y) (by omega)
     (fun i e j t h1 h2=>by obtain⟨v,hv,_⟩:=hel2 i e j t h1 h2;rw[hv];rfl)
     (fun i e j t h1 h2=>by obtain⟨v,hv,hr⟩:=hel2 i e j t h1 h2;rw[hv];exact hr)
    rw[hlm] at this
    exact this
def Zan(P:Program)(o:Nat)(l:List (Nat×TypeId)){α:Type}(c:α->List Tr)(Q:α->Prop):Prop :=
 ∀(H:Type) (enc:TypeId×Value->H) (w:World) (sp:Nat->Bool) (hd:Bool) (fuel:Nat) (cs:List Value),
  (∀ p∈l,∃ x,DataW.trod enc P w 0 sp hd fuel p.2 ((cs.drop p.1).take (P.cellsOf p.2))=some x)->∃ y,Q y/\Ze4 w (cs.drop o) (c y)
theorem Zyv{P:Program}{o:Nat}:Zan P o [] (fun _:Unit=>[]) (fun _=>True):=fun H enc w sp hd fuel cs _=>⟨(),trivial,fun j v t _ h=>by simp at h⟩
theorem Ze5{P:Program}{o k:Nat}{t:TypeId}{l:List (Nat×TypeId)}{α β:Type}{c:α->List Tr}{Q:α->Prop}{c2:β->List Tr}{Q2:β->Prop}
  (hk:P.cellsOf t=k) (hc:∀ x,(c x).length=k) (h1:VD P t c Q) (h2:Zan P (o+k) l c2 Q2) :
  Zan P o ((o,t)::l) (fun p:α×β=>c p.1++c2 p.2) (fun p=>Q p.1/\Q2 p.2):=fun H enc w sp hd fuel cs h=>by
 obtain⟨x,hx⟩:=h (o,t) (by simp)
 obtain⟨y,hy,hr⟩:=h1 _ _ _ _ _ _ _ _ hx
 obtain⟨y2,hy2,hr2⟩:=h2 H enc w sp hd fuel cs (fun p hp=>h p (by simp [hp]))
 refine⟨(y,y2),⟨hy,hy2⟩,fun j v t' hv ht=>?_⟩
 by_cases hj:j<k
 ·rw[Uav (by rw[hc];exact hj)] at ht
  refine hr j v t' ?_ ht
  rw[hk,List.getElem?_take_of_lt hj]
  exact hv
 ·rw[Uar (by rw[hc];omega),hc] at ht
  refine hr2 (j-k) v t' ?_ ht
  rw[UaK] at hv ⊢
  rw[<-hv]
  congr 1
  omega
theorem Zyw{P:Program}{t:TypeId}{fs:Array Field}{α:Type}{c:α->List Tr}{Q:α->Prop}(ht:P.underlying t=some (.struct fs))(h:Zan P 0 (fs.toList.map fun f=>(f.offset,f.type)) c Q):VD P t c Q:=by
 intro H enc w sp hd fuel cs x hx
 obtain⟨xs,n,_,_,_,hl,hf⟩:=DataW.trod_struct ht hx
 have:=h H enc w sp hd n cs (fun p hp=>by
  simp only[Uaq] at hp
  obtain⟨f,hf1,rfl⟩:=hp
  obtain⟨i,hi⟩:=Ubj hf1
  have hi':fs[i]? = some f:=by simpa using hi
  have hlt:i<xs.length:=by rw[hl];exact(UaL.1 hi').1
  exact⟨_,(hf i f hi').trans (Uah hlt)⟩)
 simpa using this
theorem Zyx{P:Program}{t:TypeId}{α β:Type}{c:α->List Tr}{Q:α->Prop}{c2:β->List Tr}{Q2:β->Prop}(g:α->β)(hg:∀ x,c2 (g x)=c x)(hq:∀ x,Q x->Q2 (g x))(h:VD P t c Q):VD P t c2 Q2:=by
 intro H enc w sp hd fuel cs x hx
 obtain⟨y,hy,hr⟩:=h H enc w sp hd fuel cs x hx
 exact⟨g y,hq y hy,by rw[hg];exact hr⟩
theorem Zyy{P:Program}{t:TypeId}{α β:Type}{c:α->List Tr}{Q:α->Prop}{c2:β->List Tr}{Q2:β->Prop}(h:VD P t c Q)(g:α->β)(hg:∀ x,c2 (g x)=c x)(hq:∀ x,Q x->Q2 (g x)):VD P t c2 Q2:=Zyx g hg hq h
end Go.Fd

namespace Go.Fd
variable [Tabs]
open Go.RowKit
def G0:Gh:=fun _ _=>none
def S0:Zc:=fun _=>none
theorem Av0{w:World}{b:Nat}(h:In w b):Av G0 S0 w b:=⟨h,fun id ob hs=>by cases hs⟩
theorem Zyz{P:Program}{f:FuncId}{args:List IV}{b:Bool}{w:World}{vs:List Value}(h:Sem P f 0 args S0 (iB b) S0)(hv:Zo G0 S0 w args vs)(hg:Tabs.good w) :
  Calls P f vs.toArray w fun e w' => e = .returned (.bool b)/\Below w.heap.size w w':=by
 obtain⟨_,_,h⟩:=h
 refine(h (fun id ob hs=>by cases hs) G0 w vs ⟨fun id ob hs=>(nomatch hs),fun id ob id2 ob2 b2 hs=>(nomatch hs),fun id cells hs=>(nomatch hs)⟩ hv ⟨w,hg,Ual _,fun b hb=>⟨⟨hb,fun id ob hs=>by cases hs⟩,rfl⟩⟩).mono ?_
 rintro e w' ⟨v,G',rfl,_,hr,_,hf⟩
 have hr':Rds w' (Av G' (ZQ S0 0 0 (impv true 0 0 0 (iB b)).2) w') v (.v (.bool b)):=hr
 cases hr' with
 | v x hx =>
  exact⟨rfl,hf.os,hf.tape,hf.output,hf.size,fun k hk=>hf.old k hk (fun id ob hs=>by cases hs)⟩
theorem ZyA{P:Program}{w:World}{r:Reach}{base:Nat}{t e:TypeId}{v:Value}(ht:P.underlying t=some (.slice e))(h:Value.okWide P w r base t v):v.cells.toList=[v]:=by
 unfold Value.okWide at h
 rw[ht] at h
 simp only[Cell.okWide,ht,Cell.ok] at h
 cases v <;> first | rfl | exact absurd h (by simp)
section
variable {H:Type} {enc:TypeId×Value->H} {P:Program} {w:World} {t:TypeId} {v:Value} {d:DataW H} {p:List MemPlace} {α:Type} {c:α->List Tr} {Q:α->Prop} {sp:Nat->Bool} {hd:Bool} {base:Nat}
theorem ZyB{e:TypeId}{g:α->Tr}(hr:VD P t (fun x=>[g x]) Q)(ht:P.underlying t=some (.slice e))(hok:Value.okWide P w .any base t v)(h:DataW.Trod enc P w 0 sp hd t v d p) :
  ∃ y,Q y/\VR G0 S0 w (.tr (g y)) v:=by
 obtain⟨n,hn⟩:=h
 rw[ZyA ht hok] at hn
 obtain⟨y,hy,hrow⟩:=hr H enc w sp hd n _ _ hn
 refine⟨y,hy,?_⟩
 simp only[VR]
 exact Rds.mono (fun b=>Av0) (fun b _=>rfl) (hrow 0 v _ rfl rfl)
end
theorem ZyC{H:Type}{enc:TypeId×Value->H}{P:Program}{f:Func}{s:ChangeSpec}{Vr:Bool}{W W':World}{args:Array Value}{v:Value}{ds gs:List (DataW H)}{before pa pv:List MemPlace}
  (hW:DataW.Whole enc P f.params.toList s.vars Vr W args.toList ds gs before) (hb:Below W.heap.size W W')
  (hres:DataW.TrodAll enc P W' W.heap.size (fun _=>false) false f.resultTypes.toList (v.resultList f.resultTypes.size) (s.fn H (ds++gs)).results [])
  (hargs:DataW.TrodAll enc P W' 0 (fun b=>decide (b<W.heap.size)) true f.params.toList args.toList (s.fn H (ds++gs)).args pa)
  (hvars:DataW.TrodVars enc P W' (fun b=>decide (b<W.heap.size)) s.vars (s.fn H (ds++gs)).vars pv) :
  s.post enc P f Vr true false false W args v W' :=
 ⟨ds,gs,before,[],pa,pv,hW,hres,hargs,hvars,hb.frame _,fun h=>by cases h⟩
end Go.Fd

namespace Go.Fd
variable [Tabs]
open Go.RowKit
theorem ZyD{w w':World}(h:Below w.heap.size w w'):Ext w w':=⟨h.size,h.block,h.os,h.tape,h.output⟩
theorem Uh{G:Gh}{S:Zc}{w:World}:∀{xs vs:List Value},Zo G S w (xs.map fun v=>.tr (.v v)) vs->vs=xs
 | [],vs,h=>by simpa [Zo] using h
 | x::r,vs,h=>by
  simp only[Uai,Zo] at h
  obtain⟨v,vr,rfl,h1,h2⟩:=h
  rw[Uh h2]
  have h1':Rds w (Av G S w) v (.v x):=h1
  cases h1'
  rfl
theorem Zb9{G:Gh}{S:Zc}{w:World}:∀{xs:List Value},(∀ x∈xs,Jt x=true)->Zo G S w (xs.map fun v=>.tr (.v v)) xs
 | [],_=>by simp [Zo]
 | x::r,h=>by
  simp only[Uai,Zo]
  exact⟨x,r,rfl,.v x (h x (by simp)),Zb9 fun y hy=>h y (by simp [hy])⟩
theorem Zca{P:Program}{f:FuncId}{lvl:Nat}{S:Zc}{args:List IV}{r:IV}(hc:Wz P f)(hi:impv true lvl 0 0 r=(r,[]))(hlow:low lvl r)
  (h:(∀ id ob,S id=some ob->id.1<lvl)->∀ G w vs,SOk G S w->Zo G S w args vs->Fix G S w->Calls P f vs.toArray w fun e w' => ∃ v,e = .returned v/\VR G S w' r v/\Below w.heap.size w w'):Sem P f lvl args S r S:=by
 refine⟨hlow,hc,fun hS G w vs hok hv hfx=>?_⟩
 refine(h hS G w vs hok hv hfx).mono ?_
 rintro e w' ⟨v,rfl,hr,hb⟩
 rw[hi]
 have e:Ext w w':=ZyD hb
 exact⟨v,G,rfl,hok.ext e,hr,hS,Frm.of_ext e⟩
theorem Zcb{P:Program}{f:FuncId}{lvl:Nat}{S:Zc}{args:List IV}{r:IV}(hc:Wz P f)(hi:impv true lvl 0 0 r=(r,[]))(hlow:low lvl r)
  (h:(∀ id ob,S id=some ob->id.1<lvl)->∀ G w vs,SOk G S w->Zo G S w args vs->Calls P f vs.toArray w fun e w' => ∃ v,e = .returned v/\VR G S w' r v/\Below w.heap.size w w'):Sem P f lvl args S r S :=
 Zca hc hi hlow fun hS G w vs hok hv _=>h hS G w vs hok hv
theorem ZjZ{P:Program}{f:FuncId}{lvl:Nat}{S:Zc}{xs:List Value}{y:Value}(hc:Wz P f)(hy:Jt y=true)
  (h:∀ w,Calls P f xs.toArray w fun e w' => e = .returned y/\Below w.heap.size w w'):Sem P f lvl (xs.map fun v=>.tr (.v v)) S (.tr (.v y)) S:=by
 refine Zcb hc rfl trivial fun _ G w vs _ hv=>?_
 rw[Uh hv]
 exact(h w).mono fun e w' ⟨h1,h2⟩=>⟨y,h1,.v y hy,h2⟩
theorem ZyE{P:Program}{f:FuncId}{lvl:Nat}{S:Zc}{xs ys:List Value}(hc:Wz P f)(hy:∀ y∈ys,Jt y=true)
  (h:∀ w,Calls P f xs.toArray w fun e w' => e = .returned (.tuple ys.toArray)/\Below w.heap.size w w'):Sem P f lvl (xs.map fun v=>.tr (.v v)) S (.tu (ys.map fun v=>.tr (.v v))) S:=by
 have hi:∀(l b j:Nat) (ys:List Value),impvs true l b j (ys.map fun v=>IV.tr (.v v))=(ys.map fun v=>.tr (.v v),[]):=fun l b j ys=>by
  induction ys generalizing j with
  | nil=>rfl
  | cons y r ih=>simp only[Uai,impvs,impv,List.length_nil,Nat.add_zero,ih,List.nil_append]
 have hl:∀(l:Nat) (ys:List Value),Jn l (ys.map fun v=>IV.tr (.v v)):=fun l ys=>by
  induction ys with
  | nil=>trivial
  | cons y r ih=>exact⟨trivial,ih⟩
 refine Zcb hc (by simp only[impv,hi]) (by simp only[low,men];exact hl _ _) fun _ G w vs _ hv=>?_
 rw[Uh hv]
 exact(h w).mono fun e w' ⟨h1,h2⟩=>⟨_,h1,by simp only[VR];exact⟨ys,rfl,Zb9 hy⟩,h2⟩
end Go.Fd

namespace Go.Fd
variable [Tabs]
def JA:Row->Zk->Row->Row
 | _,[],r=>r
 | es,(a,b)::p,r =>
  match es[a]? with
  | some e =>
   match e[b]? with
   | some (.sl es')=>es.set a (e.set b (.sl (JA es' p r)))
   | _=>es
  | none=>es
theorem Ze6{es es':Row}{a b:Nat}{p:Zk}{e:List Tr}(h1:es[a]? = some e)(h2:e[b]? = some (.sl es')):getp es ((a,b)::p)=getp es' p:=by
 simp only[getp,h1,h2]
theorem Xl{es es':Row}{a b:Nat}{p:Zk}{e:List Tr}{r:Row}(h1:es[a]? = some e)(h2:e[b]? = some (.sl es')):JA es ((a,b)::p) r=es.set a (e.set b (.sl (JA es' p r))):=by
 simp only[JA,h1,h2]
theorem ZyF{es es':Row}{a b i f:Nat}{p:Zk}{e:List Tr}{t:Tr}(h1:es[a]? = some e)(h2:e[b]? = some (.sl es')):ZI es ((a,b)::p) i f t=es.set a (e.set b (.sl (ZI es' p i f t))):=by
 simp only[ZI,h1,h2]
theorem U1{es r0:Row}{a b:Nat}{p:Zk}(h:getp es ((a,b)::p)=some r0):∃ e es',es[a]? = some e/\e[b]? = some (.sl es')/\getp es' p=some r0:=by
 simp only[getp] at h
 cases h1:es[a]? with
 | none=>rw[h1] at h;cases h
 | some e =>
  rw[h1] at h
  cases h2:e[b]? with
  | none=>simp only[h2] at h;cases h
  | some t =>
   simp only[h2] at h
   cases t with
   | v x=>cases h
   | sl es' => exact⟨e,es',rfl,h2,h⟩
theorem U2{α:Type}{l:List α}{a:Nat}{x y:α}(h:l[a]? = some x):(l.set a y)[a]? = some y:=by
 rw[Ube];exact(Uac.1 h).1
theorem Zao{r:Row}:∀{p:Zk} {es r0:Row},getp es p=some r0->getp (JA es p r) p=some r
 | [],_,_,_=>rfl
 | (a,b)::p,es,r0,h=>by
  obtain⟨e,es',h1,h2,h3⟩:=U1 h
  rw[Xl h1 h2,Ze6 (U2 h1) (U2 h2)]
  exact Zao h3
theorem Zj0{r s:Row}:∀{p:Zk} {es r0:Row},getp es p=some r0->JA (JA es p r) p s=JA es p s
 | [],_,_,_=>rfl
 | (a,b)::p,es,r0,h=>by
  obtain⟨e,es',h1,h2,h3⟩:=U1 h
  rw[Xl h1 h2,Xl h1 h2,Xl (U2 h1) (U2 h2),Zj0 h3,Ubo,Ubo]
theorem Zj1{r:Row}{i f:Nat}{t:Tr}{e0:List Tr}(hi:r[i]? = some e0):∀{p:Zk} {es r0:Row},getp es p=some r0->ZI (JA es p r) p i f t=JA es p (r.set i (e0.set f t))
 | [],es,_,_=>by simp only[JA,ZI,hi]
 | (a,b)::p,es,r0,h=>by
  obtain⟨e,es',h1,h2,h3⟩:=U1 h
  rw[Xl h1 h2,Xl h1 h2,ZyF (U2 h1) (U2 h2),Zj1 hi h3,Ubo,Ubo]
theorem Zj2{q:Zk}:∀{p:Zk} {es r0:Row},getp es p=some r0->getp es (p++q)=getp r0 q
 | [],es,r0,h=>by simp only[getp,Uat] at h;subst h;rfl
 | (a,b)::p,es,r0,h=>by
  obtain⟨e,es',h1,h2,h3⟩:=U1 h
  rw[List.cons_append,Ze6 h1 h2]
  exact Zj2 h3
theorem Zj3{q:Zk}{z:Row}:∀{p:Zk} {es r0:Row},getp es p=some r0->JA es (p++q) z=JA es p (JA r0 q z)
 | [],es,r0,h=>by simp only[getp,Uat] at h;subst h;rfl
 | (a,b)::p,es,r0,h=>by
  obtain⟨e,es',h1,h2,h3⟩:=U1 h
  rw[List.cons_append,Xl h1 h2,Xl h1 h2,Zj3 h3]
theorem Ze7{α:Type}{l:List α}{a:Nat}{x:α}(h:l[a]? = some x):l.set a x=l:=by
 obtain⟨h1,h2⟩:=Uac.1 h
 rw[<-h2,UbA]
theorem Zj4:∀{p:Zk} {es r:Row},getp es p=some r->JA es p r=es
 | [],es,r,h=>by simp only[getp,Uat] at h;subst h;rfl
 | (a,b)::p,es,r,h=>by
  obtain⟨e,es',h1,h2,h3⟩:=U1 h
  rw[Xl h1 h2,Zj4 h3,Ze7 h2,Ze7 h1]
theorem Qw{S:Zc}{id:Zd}{a b:Ob}:Zl (Zl S id a) id b=Zl S id b:=by
 funext i
 unfold Zl
 split <;> rfl
theorem X6{S:Zc}{id:Zd}{a:Ob}(h:S id=some a):Zl S id a=S:=by
 funext i
 unfold Zl
 split
 ·rename_i e;rw[e,h]
 ·rfl
theorem U3{lvl:Nat}{loc:List (Nat×Ob)}{S:Zc}{id:Zd}{o:Ob}(h:id.1≠lvl):Zy lvl loc (Zl S id o)=Zl (Zy lvl loc S) id o:=by
 funext i
 by_cases e:i=id
 ·subst e
  rw[JE h]
  unfold Zl
  rw[if_pos rfl,if_pos rfl]
 ·unfold Zl Zy
  simp only[if_neg e]
section mark
variable {α:Type} (m:α->Int->α) (n:α->Nat)
def mL:List α->Int->List α
 | [],_=>[]
 | x::r,k=>m x k::mL r (k+n x)
def nL:List α->Nat
 | []=>0
 | x::r=>n x+nL r
theorem Yd:∀(a:List α) (k:Int),(mL m n a k).length=a.length
 | [],_=>rfl
 | x::r,k=>by simp only[mL,List.length_cons,Yd r]
theorem Ze8:∀(a b:List α),nL n (a++b)=nL n a+nL n b
 | [],b=>by simp [nL]
 | x::r,b=>by simp only[List.cons_append,nL,Ze8 r b];omega
theorem Zj5:∀(a b:List α) (k:Int),mL m n (a++b) k=mL m n a k++mL m n b (k+nL n a)
 | [],b,k=>by simp [mL,nL]
 | x::r,b,k=>by
  simp only[List.cons_append,mL,nL,Zj5 r b]
  rw[show k+(n x:Int)+(nL n r:Int)=k+((n x+nL n r:Nat):Int) from by omega]
def kJ(a:List α)(k:Int)(j:Nat):Int:=k+nL n (a.take j)
def lJ(a:List α)(k:Int)(j:Nat):List α:=mL m n (a.take j) k++a.drop j
theorem Zap{a:List α}{k:Int}:kJ n a k 0=k:=by simp [kJ,nL]
theorem Ze9{a:List α}{k:Int}:lJ m n a k 0=a:=by simp [lJ,mL]
theorem Zaq{a:List α}{k:Int}:kJ n a k a.length=k+nL n a:=by simp [kJ]
theorem Zfa{a:List α}{k:Int}:lJ m n a k a.length=mL m n a k:=by simp [lJ]
theorem Xm{a:List α}{k:Int}{j:Nat}(h:j<a.length):kJ n a k (j+1)=kJ n a k j+n a[j]:=by
 unfold kJ
 rw[Uaf h,Ze8]
 simp only[nL]
 omega
theorem Zar{a:List α}{k:Int}{j:Nat}:kJ n a k j<=k+nL n a:=by
 have:nL n a=nL n (a.take j)+nL n (a.drop j):=by rw[<-Ze8,Ua8]
 unfold kJ
 omega
theorem Zas{a:List α}{k:Int}{j:Nat}:k<=kJ n a k j:=by unfold kJ;omega
theorem ZyG{a:List α}{k:Int}{j:Nat}:(lJ m n a k j).length=a.length:=by
 unfold lJ
 rw[Uad,Yd,Uam,UaW]
 omega
theorem ZyH{a:List α}{k:Int}{j:Nat}(h:j<a.length):(lJ m n a k j)[j]? = some a[j]:=by
 unfold lJ
 have h1:(mL m n (a.take j) k).length=j:=by rw[Yd,Uam];omega
 rw[Uar (by omega),h1,Ubn,UaK,Nat.add_zero,Uah h]
theorem ZyI{a:List α}{k:Int}{j:Nat}(h:j<a.length):(lJ m n a k j).set j (m a[j] (kJ n a k j))=lJ m n a k (j+1):=by
 unfold lJ
 have h1:(mL m n (a.take j) k).length=j:=by rw[Yd,Uam];omega
 rw[Ubh _ _ (by omega),h1,Ubn,UaJ h,List.set_cons_zero,Uaf h,Zj5]
 simp only[mL,kJ,UaA,List.cons_append,List.nil_append]
theorem Zfb(c:α->List Tr){a:List α}{k:Int}{j:Nat}(h:j<a.length):∃ R:Row,j<R.length/\(lJ m n a k j).map c=R.set j (c a[j])/\(lJ m n a k (j+1)).map c=R.set j (c (m a[j] (kJ n a k j))):=by
 refine⟨(lJ m n a k j).map c,by rw[Uaa,ZyG];exact h,?_,?_⟩
 ·refine(Ze7 ?_).symm
  rw[Uas,ZyH m n h];rfl
 ·rw[<-ZyI m n h,UbJ]
end mark
theorem Ui{R:Row}{j:Nat}(h:j<R.length)(e:List Tr):(R.set j e)[j]? = some e:=Ube h
theorem U4{es r0:Row}{p:Zk}{R:Row}{j:Nat}(hv:getp es p=some r0)(h:j<R.length)(e:List Tr)(f:Nat)(t:Tr):ZI (JA es p (R.set j e)) p j f t=JA es p (R.set j (e.set f t)):=by
 rw[Zj1 (Ui h e) hv,Ubo]
def MarkS(P:Program)(fid:FuncId){α:Type}(c:α->List Tr)(m:α->Int->α)(n:α->Nat)(B:α->Prop):Prop :=
 ∀(a:List α) (k:Int) (lvl:Nat) (S:Zc) (id:Zd) (p:Zk) (es r0:Row) (kk hw ver st:Nat) (cap:Option Nat),id.1<lvl->getp es p=some r0->JX p st hw ver true->0<=k->k+nL n a<=4611686018427387904 ->
  a.length<=4294967296->(∀ x∈a,B x)->Sem P fid lvl [.hd id p 0 a.length cap st,iI k] (Zl S id (.ar kk (JA es p (a.map c)) true hw ver)) (iI (k+nL n a)) (Zl S id (.ar kk (JA es p ((mL m n a k).map c)) true hw ver))
theorem MarkS.nested{P:Program}{fid:FuncId}{α:Type}{c:α->List Tr}{m:α->Int->α}{n:α->Nat}{B:α->Prop}(hm:MarkS P fid c m n B){a:List α}{k:Int}{lvl:Nat}{S:Zc}{id:Zd}{p:Zk}{es r0:Row}{kk hw ver j f:Nat}{R:Row}{e:List Tr}
  (hid:id.1<lvl) (hv:getp es p=some r0) (h0:0<=k) (h1:k+nL n a<=4611686018427387904) (hl:a.length<=4294967296) (hB:∀ x∈a,B x) (hj:j<R.length) (he:e[f]? = some (.sl (a.map c))) :
  Sem P fid lvl [.hd id (p++[(j,f)]) 0 a.length none ver,iI k] (Zl S id (.ar kk (JA es p (R.set j e)) true hw ver)) (iI (k+nL n a)) (Zl S id (.ar kk (JA es p (R.set j (e.set f (.sl ((mL m n a k).map c))))) true hw ver)):=by
 have hR:(R.set j e)[j]? = some e:=by rw[Ube hj]
 have g1:getp (JA es p (R.set j e)) p=some (R.set j e):=Zao hv
 have g2:getp (JA es p (R.set j e)) (p++[(j,f)])=some (a.map c):=by
  rw[Zj2 g1,Ze6 hR he];rfl
 have:=hm a k lvl S id (p++[(j,f)]) (JA es p (R.set j e)) _ kk hw ver ver none hid g2 (by cases p <;> exact⟨rfl,rfl⟩) h0 h1 hl hB
 rw[Zj4 g2,Zj3 g1,Zj0 hv,Xl hR he] at this
 simp only[JA,Ubo] at this
 exact this
theorem ZyJ{P:Program}{fid:FuncId}{α:Type}{c:α->List Tr}{m:α->Int->α}{n:α->Nat}{B:α->Prop}(hm:MarkS P fid c m n B){a:List α}{k:Int}{lvl len:Nat}{S:Zc}{id:Zd}{p:Zk}{es r0:Row}{kk hw ver j f:Nat}{R:Row}{e:List Tr}{env:List (Nat×IV)}{loc:List (Nat×Ob)}{d:Option Nat}{K:St->Prop}
  (hid:id.1<lvl) (hv:getp es p=some r0) (h0:0<=k) (h1:k+nL n a<=4611686018427387904) (hl:a.length<=4294967296) (hB:∀ x∈a,B x) (hj:j<R.length) (he:e[f]? = some (.sl (a.map c))) (hlen:len=a.length)
  (hk:K ⟨lvl,ptd d (iI (k+nL n a)) env,loc,Zl S id (.ar kk (JA es p (R.set j (e.set f (.sl ((mL m n a k).map c))))) true hw ver)⟩) :
  Uc (Sem P) fid true lvl env loc (Zl S id (.ar kk (JA es p (R.set j e)) true hw ver)) d K [.hd id (p++[(j,f)]) 0 len none ver,iI k]:=by
 subst hlen
 have hne:id.1≠lvl:=by omega
 refine X5 (r:=iI (k+nL n a)) loc (Zl S id (.ar kk (JA es p (R.set j (e.set f (.sl ((mL m n a k).map c))))) true hw ver)) ?_ ?_ ⟨?_,hk⟩
 ·intro i hi
  have:i≠id:=fun e=>hne (by rw[<-e];exact hi)
  unfold Zl
  rw[if_neg this,if_neg this]
 ·rw[U3 hne,U3 hne]
  exact hm.nested (Ub3 hid) hv h0 h1 hl hB hj he
 ·trivial
theorem Zj6{lvl key:Nat}{loc:List (Nat×Ob)}{out:Zc}{o:Ob}:Zy lvl (ptO key o loc) out=Zl (Zy lvl loc out) (lvl,key) o:=by
 funext i
 unfold Zy Zl
 by_cases h:i.1=lvl
 ·rw[if_pos h,DU]
  by_cases h2:i.2=key
  ·have:i=(lvl,key):=by obtain⟨a,b⟩:=i;simp only at h h2;rw[h,h2]
   rw[if_pos h2,if_pos this]
  ·have:¬ i=(lvl,key):=fun e=>h2 (by rw[e])
   rw[if_neg h2,if_neg this]
   exact(if_pos h).symm
 ·have:¬ i=(lvl,key):=fun e=>h (by rw[e])
  rw[if_neg h,if_neg this]
  exact(if_neg h).symm
theorem Zj7{P:Program}{fid:FuncId}{α:Type}{c:α->List Tr}{m:α->Int->α}{n:α->Nat}{B:α->Prop}(hm:MarkS P fid c m n B){a:List α}{k:Int}{lvl key:Nat}{out:Zc}{kk hw ver:Nat}{cap:Option Nat}{env:List (Nat×IV)}{loc:List (Nat×Ob)}{d:Option Nat}{K:St->Prop}
  (hS:lkO key loc=some (.ar kk (a.map c) true hw ver)) (h0:0<=k) (h1:k+nL n a<=4611686018427387904) (hl:a.length<=4294967296) (hB:∀ x∈a,B x)
  (hk:K ⟨lvl,ptd d (iI (k+nL n a)) env,ptO key (.ar kk ((mL m n a k).map c) true hw ver) loc,out⟩) :
  Uc (Sem P) fid true lvl env loc out d K [.hd (lvl,key) [] 0 a.length cap hw,iI k]:=by
 refine X5 (r:=iI (k+nL n a)) (ptO key (.ar kk ((mL m n a k).map c) true hw ver) loc) out (fun _ _=>rfl) ?_ ⟨?_,hk⟩
 ·rw[Zj6]
  have e:Zy lvl loc out=Zl (Zy lvl loc out) (lvl,key) (.ar kk (JA (a.map c) [] (a.map c)) true hw ver):=(X6 (by unfold Zy;rw[if_pos rfl];exact hS)).symm
  have:=hm a k (lvl+1) (Zy lvl loc out) (lvl,key) [] (a.map c) (a.map c) kk hw ver hw cap (Ua4 _) rfl rfl h0 h1 hl hB
  rw[<-e] at this
  exact this
 ·trivial
end Go.Fd

namespace Go.Fd
variable [Tabs]
open Go.Sort
section
variable {P:Program} {α:Type} [Inhabited α] {enc:α->Value}
abbrev Xn(enc:α->Value)(l:List α):Row:=l.map fun x=>[.v (enc x)]
theorem Zat{l:List α}{p:Zk}{es2:Row}(hp:p≠[]):getp (Xn enc l) p≠some es2:=fun h=>by
 cases p with
 | nil=>exact hp rfl
 | cons cd q =>
  obtain⟨c,d⟩:=cd
  obtain⟨e,x,h1,h2,_⟩:=Vq h
  obtain⟨n,_,rfl⟩:=Uaq.1 (Uae h1)
  have:=Uae h2
  simp at this
theorem Zfc{l:List α}:Zz 1 (Xn enc l):=Ug (fun x=>[.v (enc x)]) (fun _=>rfl) l
theorem ZyK{d:Array α}{off:Nat}{c:Array Value}:(putCells enc off d c).size=c.size:=by simp [putCells]
theorem ZyL{d:List α}{c:Array Value}{i:Nat}(h:i<d.length)(hc:i<c.size):(putCells enc 0 d.toArray c)[i]? = some (enc d[i]):=by
 simp [putCells,hc,h]
theorem ZyM{f:FuncId}{lvl:Nat}{S:Zc}{id:Zd}{xs ys:List α}{u:Bool}{hw ver:Nat}(hc:Wz P f)(hid:id.1<lvl)(hS:S id=some (.ar 1 (Xn enc xs) u hw ver))
  (hsc:∀ x:α,Jt (enc x)=true) (hl:ys.length=xs.length)
  (h0:xs=[]->∀(a:Option Addr) (cap:Nat) (w:World),Calls P f #[.slice a 0 cap] w fun e w' => e = .returned (.tuple #[])/\∃ n,w'=Sort.ahead w n)
  (h1:xs≠[]->∀(b cap:Nat) (w:World),Holds enc w b 0 xs.toArray->b<w.heap.size->Calls P f #[.slice (some ⟨b,0,none⟩) xs.length cap] w fun e w' => e = .returned (.tuple #[])/\∃ n os,w'=grow (putRow enc (Sort.ahead w n) b 0 ys.toArray) os) :
  Sem P f lvl [.hd id [] 0 xs.length none hw] S (.tu []) (Zl S id (.ar 1 (Xn enc ys) u hw ver)):=by
 refine⟨trivial,hc,fun hlow G w vs hok hv _=>?_⟩
 simp only[Zo] at hv
 obtain⟨v,vr,rfl,hv,rfl⟩:=hv
 simp only[VR] at hv
 obtain⟨⟨a0,c0,hv0,hlc0⟩,k2,es2,u2,hw2,ver2,hs2,_,hrel⟩:=hv
 rw[hS] at hs2;cases hs2
 obtain⟨es3,k',a,c,hg3,hk,hun,rfl,hlc,hcap,hcap2,hor⟩:=hrel rfl
 cases hg3
 have hk1:=hk rfl
 subst hk1
 by_cases hx:xs=[]
 ·subst hx
  have hy:ys=[]:=UaS.1 (by simpa using hl)
  subst hy
  rw[X6 hS]
  refine(h0 rfl a c w).mono ?_
  rintro e w' ⟨rfl,n,rfl⟩
  have e:Ext w (Sort.ahead w n):=⟨Ual _,fun _ _=>rfl,rfl,rfl,rfl⟩
  exact⟨_,G,rfl,hok.ext e,by simp [impv,impvs,VR,Zo],hlow,Frm.of_ext e⟩
 ·have hpos:0<xs.length:=List.length_pos_iff.2 hx
  rcases hor with hz | ⟨hz,_⟩ | ⟨b,cc,hG,rfl,hoc⟩
  ·omega
  ·exact absurd rfl hz
  ·obtain⟨o1,o2,o3,o4,o5⟩:=hok.obs _ _ hS
   have hr:=o4 [] _ (.inl rfl) rfl
   unfold Z3 at hr
   rw[hG] at hr
   obtain⟨k3,cells,ty,g1,g2,g3,g4,g5,g6⟩:=hr
   have hk3:=g1 rfl
   subst hk3
   have hbs:b<w.heap.size:=by
    rcases Nat.lt_or_ge b w.heap.size with h | h
    ·exact h
    ·rw[UbM h] at g3;cases g3
   have hH:Holds enc w b 0 xs.toArray:=fun j hj=>by
    have hj:j<xs.length:=by simpa using hj
    obtain⟨x,hx1,hx2⟩:=g6 j [.v (enc xs[j])] 0 (.v (enc xs[j])) (by simp [hj]) rfl
    simp only[Ji] at hx2
    obtain⟨rfl,_⟩:=hx2
    refine⟨?_,by simp [World.frozen?,g3]⟩
    have:(xs.toArray)[j]! = xs[j]:=by simp [hj]
    rw[this,cell_of_row w b (0+j) cells ty (0,0) g3]
    simpa using hx1
   refine(h1 hx b c w hH hbs).mono ?_
   rintro e w' ⟨rfl,n,os,rfl⟩
   have hsz:w.heap.size<=(grow (putRow enc (Sort.ahead w n) b 0 ys.toArray) os).heap.size:=by simp [grow,putRow,mapBlock,Sort.ahead]
   have hheap:∀ b2,b2<w.heap.size->b2≠b->(grow (putRow enc (Sort.ahead w n) b 0 ys.toArray) os).heap[b2]? = w.heap[b2]?:=fun b2 h2 hne=>by
    simp only[grow,putRow,mapBlock,Sort.ahead]
    rw[UaM (by simpa using h2),UbP,if_neg (fun e=>hne e.symm)]
   have hrow:(grow (putRow enc (Sort.ahead w n) b 0 ys.toArray) os).heap[b]? = some (.cells (putCells enc 0 ys.toArray cells) ty (0,0)):=by
    simp only[grow,putRow,mapBlock,Sort.ahead]
    rw[UaM (by simpa using hbs),UbP,if_pos rfl,g3]
    rfl
   have hown:∀ ob b2,ob=(.ar 1 (Xn enc ys) u hw ver:Ob)->ZL G id ob b2->b2=b:=fun ob b2 ho h=>by
    subst ho
    obtain⟨p,c2,hp,hq,hg⟩:=h
    by_cases hp0:p=[]
    ·subst hp0
     rw[hG] at hg
     cases hg
     rfl
    ·obtain⟨e2,he2⟩:=Uan.1 hq
     exact absurd he2 (Zat hp0)
   have hbown:ZL G id (.ar 1 (Xn enc xs) u hw ver) b:=⟨[],cc,.inl rfl,rfl,hG⟩
   have t:Trn G G S (Zl S id (.ar 1 (Xn enc ys) u hw ver)) w (grow (putRow enc (Sort.ahead w n) b 0 ys.toArray) os) (· = id) (fun _=>False):=by
    refine⟨fun _ _=>rfl,fun i ob hi _ hs=>⟨ob,by unfold Zl;rw[if_neg hi];exact hs,Wk.refl ob⟩,fun i ob hi hs=>⟨fun h=>h,ob,by unfold Zl at hs;rw[if_neg hi] at hs;exact hs,Wk.refl ob⟩,hsz,fun b2 h2 hn=>hheap b2 h2 fun e=>hn id _ rfl hS (e ▸ hbown),fun i ob b2 hi hs ho=>?_,fun i ob hi _ hs=>?_⟩
    ·subst hi
     unfold Zl at hs;rw[if_pos rfl] at hs;cases hs
     have:=hown _ b2 rfl ho
     subst this
     exact .inl ⟨i,_,.inl rfl,hS,hbown⟩
    ·subst hi
     rw[hS] at hs;cases hs
     refine⟨.ar 1 (Xn enc ys) u hw ver,by unfold Zl;rw[if_pos rfl],rfl,Ual _,Ual _,fun p st _ hst=>⟨hst,fun es' he=>?_⟩⟩
     by_cases hp0:p=[]
     ·subst hp0
      exact⟨rfl,_,rfl,fun k' hkk _=>by rw[hkk rfl];exact Zfc⟩
     ·exact absurd he (Zat hp0)
   refine⟨_,G,rfl,t.ok hok (fun i ob hi hs=>?_) (fun i ob j ob' b hi hj _ _ _ _=>hi.trans hj.symm) (fun i cells hi hs=>?_),by simp [impv,impvs,VR,Zo],fun i ob hs=>?_,t.frm (fun _ h=>h.elim) rfl rfl rfl⟩
   ·subst hi
    simp only[Zl,if_true] at hs;cases hs
    refine⟨by rw[Uaa] at *;omega,Zfc,o3,fun p es2 hp he=>?_,fun p p' b1 c1 c2 hp hp' g1 g2 g3 g4=>?_⟩
    ·by_cases hp0:p=[]
     ·subst hp0
      cases he
      unfold Z3
      rw[hG]
      refine⟨1,_,ty,fun _=>rfl,Zfc,hrow,by rw[ZyK];exact g4,by rw[Uaa] at *;omega,fun i e f t hi hf=>?_⟩
      rw[Uas] at hi
      obtain⟨y,hy,rfl⟩:=UaO.1 hi
      obtain⟨hil,hyy⟩:=Uac.1 hy
      have hf0:f=0/\t = .v (enc y):=by
       cases f with
       | zero=>simp at hf;exact⟨rfl,hf.symm⟩
       | succ f=>simp at hf
      obtain⟨rfl,rfl⟩:=hf0
      refine⟨enc y,?_,rfl,hsc y⟩
      rw[Uaa] at g5
      rw[show i*1+0=i from by omega,ZyL hil (by omega),hyy]
     ·exact absurd he (Zat hp0)
    ·by_cases hp0:p=[]
     ·by_cases hp1:p'=[]
      ·rw[hp0,hp1]
      ·obtain⟨e2,he2⟩:=Uan.1 g2
       exact absurd he2 (Zat hp1)
     ·obtain⟨e2,he2⟩:=Uan.1 g1
      exact absurd he2 (Zat hp0)
   ·subst hi
    simp only[Zl,if_true] at hs;cases hs
   ·simp only[Zl] at hs
    split at hs
    ·rename_i h;rw[h];exact hid
    ·exact hlow i ob hs
end
end Go.Fd

namespace Go.Fd
variable [Tabs]
open Go.Sort Go.Proofs Go.RowKit
section
variable {P:Program} {α:Type} [Inhabited α] {enc:α->List Value} {k:Nat}
abbrev WN(enc:α->List Value)(l:List α):Row:=l.map fun x=>(enc x).map .v
theorem Zau{l:List α}{p:Zk}{es2:Row}(hp:p≠[]):getp (WN enc l) p≠some es2:=fun h=>by
 cases p with
 | nil=>exact hp rfl
 | cons cd q =>
  obtain⟨c,d⟩:=cd
  obtain⟨e,x,h1,h2,_⟩:=Vq h
  obtain⟨n,_,rfl⟩:=Uaq.1 (Uae h1)
  obtain⟨v,_,hv⟩:=Uaq.1 (Uae h2)
  cases hv
theorem Zfd(hk:∀ x,(enc x).length=k){l:List α}:Zz k (WN enc l):=Ug (fun x=>(enc x).map .v) (fun x=>by rw[Uaa,hk]) l
theorem Zj8{l:List α}:(flatK enc k l.toArray).size=l.length*k:=by simp [flatK]
theorem Zj9(hk:∀ x,(enc x).length=k){l:List α}{i f:Nat}(hi:i<l.length)(hf:f<k):(flatK enc k l.toArray)[i*k+f]! = (enc l[i])[f]'(by rw[hk];exact hf):=by
 have h1:(i*k+f) / k=i:=by
  rw[Ubs,Nat.mul_add_div (by omega),Nat.div_eq_of_lt hf,Nat.add_zero]
 have h2:(i*k+f) % k=f:=by
  rw[Ubs,Nat.mul_add_mod,UbQ hf]
 have h3:i*k+f<l.length*k:=by
  have:(i+1)*k<=l.length*k:=Uaz k hi
  rw[UaQ,Ub7] at this
  omega
 have hfl:f<(enc l[i]).length:=by rw[hk];exact hf
 simp [flatK,h3,h1,h2,hi,hfl]
theorem ZyN{F c:Array Value}{i:Nat}(h:i<F.size)(hc:i<c.size):(putCells id 0 F c)[i]? = some F[i]!:=by
 simp [putCells,hc,h]
theorem ZyO{F c:Array Value}:(putCells id 0 F c).size=c.size:=by simp [putCells]
theorem ZyP{f g:FuncId}{lvl:Nat}{S:Zc}{id:Zd}{xs ys:List α}{u:Bool}{hw ver:Nat}(hk:∀ x,(enc x).length=k)(hk0:0<k)(hc:Wz P f)(hid:id.1<lvl)(hS:S id=some (.ar k (WN enc xs) u hw ver))
  (hsc:∀ x:α,∀ v∈enc x,Jt v=true) (hl:ys.length=xs.length) (hpos:0<xs.length)
  (h1:∀(b cap:Nat) (w:World),HoldsK enc k w b 0 xs.toArray->b<w.heap.size->Calls P f #[.slice (some ⟨b,0,none⟩) xs.length cap,.func (.func g) #[] #[]] w fun e w' => e = .returned (.tuple #[])/\∃ n os,w'=sortWorldK enc k w b 0 n ys.toArray os) :
  Sem P f lvl [.hd id [] 0 xs.length none hw,.fn g []] S (.tu []) (Zl S id (.ar k (WN enc ys) u hw ver)):=by
 refine⟨trivial,hc,fun hlow G w vs hok hv _=>?_⟩
 simp only[Zo] at hv
 obtain⟨v,vr,rfl,hv,v2,vr2,rfl,hv2,rfl⟩:=hv
 simp only[VR] at hv hv2
 obtain⟨vs2,rfl,hvs2⟩:=hv2
 have hv20:vs2=[]:=hvs2
 subst hv20
 obtain⟨⟨a0,c0,hv0,hlc0⟩,k2,es2,u2,hw2,ver2,hs2,_,hrel⟩:=hv
 rw[hS] at hs2;cases hs2
 obtain⟨es3,k',a,c,hg3,hkk,hun,rfl,hlc,hcap,hcap2,hor⟩:=hrel rfl
 cases hg3
 have hk1:=hkk rfl
 subst hk1
 rcases hor with hz | ⟨hz,_⟩ | ⟨b,cc,hG,rfl,hoc⟩
 ·omega
 ·exact absurd rfl hz
 ·obtain⟨o1,o2,o3,o4,o5⟩:=hok.obs _ _ hS
  have hr:=o4 [] _ (.inl rfl) rfl
  unfold Z3 at hr
  rw[hG] at hr
  obtain⟨k3,cells,ty,g1,g2,g3,g4,g5,g6⟩:=hr
  have hk3:=g1 rfl
  subst hk3
  have hbs:b<w.heap.size:=by
   rcases Nat.lt_or_ge b w.heap.size with h | h
   ·exact h
   ·rw[UbM h] at g3;cases g3
  have hH:HoldsK enc k3 w b 0 xs.toArray:=fun j hj=>by
   rw[Zj8] at hj
   obtain⟨i,f,rfl,hf⟩:∃ i f,j=i*k3+f/\f<k3:=⟨j / k3,j % k3,by rw[Ubs];exact(Nat.div_add_mod j k3).symm,Nat.mod_lt _ hk0⟩
   have hi:i<xs.length:=by
    rcases Nat.lt_or_ge i xs.length with h | h
    ·exact h
    ·have:=Uaz k3 h
     omega
   have hfl:f<(enc xs[i]).length:=by rw[hk];exact hf
   obtain⟨x,hx1,hx2⟩:=g6 i ((enc xs[i]).map .v) f (.v (enc xs[i])[f]) (by simp [hi]) (by simp [hfl])
   simp only[Ji] at hx2
   obtain⟨rfl,_⟩:=hx2
   refine⟨?_,by simp [World.frozen?,g3]⟩
   rw[Zj9 hk hi hf,cell_of_row w b (0+(i*k3+f)) cells ty (0,0) g3]
   simpa using hx1
  rw[Nat.zero_mul]
  refine(h1 b c w hH hbs).mono ?_
  rintro e w' ⟨rfl,n,os,rfl⟩
  have hsz:w.heap.size<=(sortWorldK enc k3 w b 0 n ys.toArray os).heap.size:=by simp [sortWorldK,putRowK,grow,putRow,mapBlock,Sort.ahead]
  have hheap:∀ b2,b2<w.heap.size->b2≠b->(sortWorldK enc k3 w b 0 n ys.toArray os).heap[b2]? = w.heap[b2]?:=fun b2 h2 hne=>by
   simp only[sortWorldK,putRowK,grow,putRow,mapBlock,Sort.ahead]
   rw[UaM (by simpa using h2),UbP,if_neg (fun e=>hne e.symm)]
  have hrow:(sortWorldK enc k3 w b 0 n ys.toArray os).heap[b]? = some (.cells (putCells _root_.id 0 (flatK enc k3 ys.toArray) cells) ty (0,0)):=by
   simp only[sortWorldK,putRowK,grow,putRow,mapBlock,Sort.ahead]
   rw[UaM (by simpa using hbs),UbP,if_pos rfl,g3]
   rfl
  have hown:∀ ob b2,ob=(.ar k3 (WN enc ys) u hw ver:Ob)->ZL G id ob b2->b2=b:=fun ob b2 ho h=>by
   subst ho
   obtain⟨p,c2,hp,hq,hg⟩:=h
   by_cases hp0:p=[]
   ·subst hp0
    rw[hG] at hg
    cases hg
    rfl
   ·obtain⟨e2,he2⟩:=Uan.1 hq
    exact absurd he2 (Zau hp0)
  have hbown:ZL G id (.ar k3 (WN enc xs) u hw ver) b:=⟨[],cc,.inl rfl,rfl,hG⟩
  have t:Trn G G S (Zl S id (.ar k3 (WN enc ys) u hw ver)) w (sortWorldK enc k3 w b 0 n ys.toArray os) (· = id) (fun _=>False):=by
   refine⟨fun _ _=>rfl,fun i ob hi _ hs=>⟨ob,by unfold Zl;rw[if_neg hi];exact hs,Wk.refl ob⟩,fun i ob hi hs=>⟨fun h=>h,ob,by unfold Zl at hs;rw[if_neg hi] at hs;exact hs,Wk.refl ob⟩,hsz,fun b2 h2 hn=>hheap b2 h2 fun e=>hn id _ rfl hS (e ▸ hbown),fun i ob b2 hi hs ho=>?_,fun i ob hi _ hs=>?_⟩
   ·subst hi
    unfold Zl at hs;rw[if_pos rfl] at hs;cases hs
    have:=hown _ b2 rfl ho
    subst this
    exact .inl ⟨i,_,.inl rfl,hS,hbown⟩
   ·subst hi
    rw[hS] at hs;cases hs
    refine⟨.ar k3 (WN enc ys) u hw ver,by unfold Zl;rw[if_pos rfl],rfl,Ual _,Ual _,fun p st _ hst=>⟨hst,fun es' he=>?_⟩⟩
    by_cases hp0:p=[]
    ·subst hp0
     exact⟨rfl,_,rfl,fun k' hkk _=>by rw[hkk rfl];exact Zfd hk⟩
    ·exact absurd he (Zau hp0)
  refine⟨_,G,rfl,t.ok hok (fun i ob hi hs=>?_) (fun i ob j ob' b hi hj _ _ _ _=>hi.trans hj.symm) (fun i cells hi hs=>?_),by simp [impv,impvs,VR,Zo],fun i ob hs=>?_,t.frm (fun _ h=>h.elim) rfl rfl rfl⟩
  ·subst hi
   simp only[Zl,if_true] at hs;cases hs
   refine⟨by rw[Uaa] at *;omega,Zfd hk,o3,fun p es2 hp he=>?_,fun p p' b1 c1 c2 hp hp' g1 g2 g3 g4=>?_⟩
   ·by_cases hp0:p=[]
    ·subst hp0
     cases he
     unfold Z3
     rw[hG]
     refine⟨k3,_,ty,fun _=>rfl,Zfd hk,hrow,by rw[ZyO];exact g4,by rw[Uaa] at *;omega,fun i e f t hi hf=>?_⟩
     rw[Uas] at hi
     obtain⟨y,hy,rfl⟩:=UaO.1 hi
     obtain⟨hil,hyy⟩:=Uac.1 hy
     rw[Uas] at hf
     obtain⟨v,hv,rfl⟩:=UaO.1 hf
     obtain⟨hfl,hvv⟩:=Uac.1 hv
     have hfk:f<k3:=by rw[<-hk y];exact hfl
     have hlt:i*k3+f<ys.length*k3:=by
      have:(i+1)*k3<=ys.length*k3:=Uaz k3 hil
      rw[UaQ,Ub7] at this
      omega
     have hlt2:i*k3+f<cells.size:=by
      rw[Uaa] at g5
      rw[g4]
      have:ys.length*k3<=cc*k3:=Uaz k3 (by omega)
      omega
     refine⟨v,?_,rfl,hsc y v (Uae hv)⟩
     rw[ZyN (by rw[Zj8];exact hlt) hlt2,Zj9 hk hil hfk]
     subst hyy
     rw[hvv]
    ·exact absurd he (Zau hp0)
   ·by_cases hp0:p=[]
    ·by_cases hp1:p'=[]
     ·rw[hp0,hp1]
     ·obtain⟨e2,he2⟩:=Uan.1 g2
      exact absurd he2 (Zau hp1)
    ·obtain⟨e2,he2⟩:=Uan.1 g1
     exact absurd he2 (Zau hp0)
  ·subst hi
   simp only[Zl,if_true] at hs;cases hs
  ·simp only[Zl] at hs
   split at hs
   ·rename_i h;rw[h];exact hid
   ·exact hlow i ob hs
end
end Go.Fd

namespace Go.Proofs
open Go.Shelf
def Tryz.sortW_ren:Go.Shelf.Ren:=⟨fun | 6=>198 | 15=>98 | 14=>228 | 28=>150 | 29=>151 | 20=>240 | 21=>241 | 22=>242 | 23=>243 | 24=>244 | 25=>245 | 26=>246 | 27=>247 | 46=>251 | 47=>207 | 48=>208 | 49=>252 | 50=>253 | 57=>263 | n=>n,fun | 22=>46 | 24=>107 | 25=>217 | 3=>3 | 39=>135 | 0=>0 | 53=>172 | 55=>174 | 4=>4 | 46=>165 | 45=>164 | 50=>61 | 5=>5 | 9=>9 | 66=>219 | 70=>223 | 76=>242 | 77=>243 | n=>n,fun | n=>n⟩
theorem Tryz.sortW:Go.Proofs.SlLaysF0.n6 Tryz.prog Tryz.sortW_ren:={
  mixed:=by kernel_rfl,
  f6:=⟨"slices.SortFunc[[]loop.example/g01082/impl.Wire,loop.example/g01082/impl.Wire]",by decide,Tryz.func198.trans (congrArg some (by kernel_rfl))⟩,
  f14:=⟨"slices.pdqsortCmpFunc[loop.example/g01082/impl.Wire]",by decide,Tryz.func228.trans (congrArg some (by kernel_rfl))⟩,
  f15:=Tryz.func98.trans (congrArg some (by kernel_rfl)),
  f20:=⟨"slices.insertionSortCmpFunc[loop.example/g01082/impl.Wire]",by decide,Tryz.func240.trans (congrArg some (by kernel_rfl))⟩,
  f21:=⟨"slices.heapSortCmpFunc[loop.example/g01082/impl.Wire]",by decide,Tryz.func241.trans (congrArg some (by kernel_rfl))⟩,
  f22:=⟨"slices.breakPatternsCmpFunc[loop.example/g01082/impl.Wire]",by decide,Tryz.func242.trans (congrArg some (by kernel_rfl))⟩,
  f23:=⟨"slices.choosePivotCmpFunc[loop.example/g01082/impl.Wire]",by decide,Tryz.func243.trans (congrArg some (by kernel_rfl))⟩,
  f24:=⟨"slices.reverseRangeCmpFunc[loop.example/g01082/impl.Wire]",by decide,Tryz.func244.trans (congrArg some (by kernel_rfl))⟩,
  f25:=⟨"slices.partialInsertionSortCmpFunc[loop.example/g01082/impl.Wire]",by decide,Tryz.func245.trans (congrArg some (by kernel_rfl))⟩,
  f26:=⟨"slices.partitionEqualCmpFunc[loop.example/g01082/impl.Wire]",by decide,Tryz.func246.trans (congrArg some (by kernel_rfl))⟩,
  f27:=⟨"slices.partitionCmpFunc[loop.example/g01082/impl.Wire]",by decide,Tryz.func247.trans (congrArg some (by kernel_rfl))⟩,
  f28:=Tryz.func150.trans (congrArg some (by kernel_rfl)),
  f29:=Tryz.func151.trans (congrArg some (by kernel_rfl)),
  f46:=⟨"slices.siftDownCmpFunc[loop.example/g01082/impl.Wire]",by decide,Tryz.func251.trans (congrArg some (by kernel_rfl))⟩,
  f47:=Tryz.func207.trans (congrArg some (by kernel_rfl)),
  f48:=Tryz.func208.trans (congrArg some (by kernel_rfl)),
  f49:=⟨"slices.medianAdjacentCmpFunc[loop.example/g01082/impl.Wire]",by decide,Tryz.func252.trans (congrArg some (by kernel_rfl))⟩,
  f50:=⟨"slices.medianCmpFunc[loop.example/g01082/impl.Wire]",by decide,Tryz.func253.trans (congrArg some (by kernel_rfl))⟩,
  f57:=⟨"slices.order2CmpFunc[loop.example/g01082/impl.Wire]",by decide,Tryz.func263.trans (congrArg some (by kernel_rfl))⟩,
  t0:=Tryz.underlying0,
  a0:=Tryz.isAgg0,
  z0:=Tryz.sizeOf0,
  v0:=Tryz.zeroValue0,
  t3:=Tryz.underlying3,
  a3:=Tryz.isAgg3,
  z3:=Tryz.sizeOf3,
  v3:=Tryz.zeroValue3,
  t4:=Tryz.underlying4,
  a4:=Tryz.isAgg4,
  z4:=Tryz.sizeOf4,
  v4:=Tryz.zeroValue4,
  t5:=Tryz.underlying5,
  a5:=Tryz.isAgg5,
  z5:=Tryz.sizeOf5,
  v5:=Tryz.zeroValue5,
  t9:=Tryz.underlying9,
  a9:=Tryz.isAgg9,
  z9:=Tryz.sizeOf9,
  v9:=Tryz.zeroValue9,
  t22:=Tryz.underlying46,
  a22:=Tryz.isAgg46,
  z22:=Tryz.sizeOf46,
  v22:=Tryz.zeroValue46,
  t25:=Tryz.underlying217,
  a25:=Tryz.isAgg217,
  z25:=Tryz.sizeOf217,
  v25:=Tryz.zeroValue217,
  t39:=Tryz.underlying135,
  a39:=Tryz.isAgg135,
  z39:=Tryz.sizeOf135,
  v39:=Tryz.zeroValue135,
  t45:=Tryz.underlying164,
  a45:=Tryz.isAgg164,
  z45:=Tryz.sizeOf164,
  v45:=Tryz.zeroValue164,
  t46:=Tryz.underlying165,
  a46:=Tryz.isAgg165,
  z46:=Tryz.sizeOf165,
  v46:=Tryz.zeroValue165,
  t50:=Tryz.underlying61,
  a50:=Tryz.isAgg61,
  z50:=Tryz.sizeOf61,
  v50:=Tryz.zeroValue61,
  t53:=Tryz.underlying172,
  a53:=Tryz.isAgg172,
  z53:=Tryz.sizeOf172,
  v53:=Tryz.zeroValue172,
  t55:=Tryz.underlying174,
  a55:=Tryz.isAgg174,
  z55:=Tryz.sizeOf174,
  v55:=Tryz.zeroValue174,
  t66:=Tryz.underlying219,
  a66:=Tryz.isAgg219,
  z66:=Tryz.sizeOf219,
  v66:=Tryz.zeroValue219,
  t70:=Tryz.underlying223,
  a70:=Tryz.isAgg223,
  z70:=Tryz.sizeOf223,
  v70:=Tryz.zeroValue223,
  t76:=Tryz.underlying242,
  a76:=Tryz.isAgg242,
  z76:=Tryz.sizeOf242,
  v76:=Tryz.zeroValue242,
  t77:=Tryz.underlying243,
  a77:=Tryz.isAgg243,
  z77:=Tryz.sizeOf243,
  v77:=Tryz.zeroValue243 }
end Go.Proofs

namespace Go.Fd
def U5:List (Nat×IV)->List (Nat×IV)->List (Nat×IV)
 | [],env=>env
 | (t,x)::r,env=>U5 r (pt t x env)
def U6:List (Nat×Ob)->List (Nat×Ob)->List (Nat×Ob)
 | [],loc=>loc
 | (t,x)::r,loc=>U6 r (ptO t x loc)
def chg(ce:List (Nat×IV))(co:List (Nat×Ob))(s:St):St:=⟨s.lvl,U5 ce s.env,U6 co s.loc,s.out⟩
section
variable {C:ZK} {lvl:Nat} {env:List (Nat×IV)} {loc:List (Nat×Ob)} {out:Zc} {st:St} {Q:Ex->St->Prop}
theorem ZyQ{ce:List (Nat×IV)}{co:List (Nat×Ob)}:chg ce co ⟨lvl,env,loc,out⟩=⟨lvl,U5 ce env,U6 co loc,out⟩:=(rfl)
theorem ZyR:U5 [] env=env:=(rfl)
theorem ZyS{t:Nat}{x:IV}{r:List (Nat×IV)}:U5 ((t,x)::r) env=U5 r (pt t x env):=(rfl)
theorem ZyT:U6 [] loc=loc:=(rfl)
theorem ZyU{t:Nat}{x:Ob}{r:List (Nat×Ob)}:U6 ((t,x)::r) loc=U6 r (ptO t x loc):=(rfl)
theorem ZJ{α:Type}{ks js:List Nat}{c:C2}(N:Nat)(ce:Nat->α->List (Nat×IV))(co:Nat->α->List (Nat×Ob))(A:Nat->α->Prop)(x0:α)
  (h1:clean ks js st) (h0:fgt ks js st=chg (ce 0 x0) (co 0 x0) (fgt ks js st)) (hA:A 0 x0)
  (hs:∀ k x,k<=N->A k x->wp C c (chg (ce k x) (co k x) (fgt ks js st)) (Ue ks js (Zb3 N (fun k x=>chg (ce k x) (co k x) (fgt ks js st)) A (N-k)) Q)):wp C (.lp ks js c) st Q :=
 Yn N (fun k x=>chg (ce k x) (co k x) (fgt ks js st)) A x0 ⟨h1,h0⟩ hA hs
end
section
variable {L:Zc} {F:List IV->Prop} {r:List IV}
def Zka(L:Zc)(r:List IV)(F:List IV->Prop)(y:IV):Prop:=ZV L r (VX y F)
theorem ZyV{y:IV}:Zka L r F y=ZV L r (VX y F):=(rfl)
theorem ZyW{id:Zd}{off:Nat}:ZV L (.ab id off::r) F=XH (L id) L off (Zka L r F):=by simp only[ZV,Z4];rfl
def kta(F:IV->Prop)(ts:List Tr):Prop:=F (.ta ts)
theorem ZyX{F:IV->Prop}{ts:List Tr}:kta F ts=F (.ta ts):=(rfl)
theorem ZyY{cells:List IV}{off:Nat}{F:IV->Prop}:XH (some (.bx cells)) L off F=YQ L (cells.drop off) (kta F):=(rfl)
def kct(t:Tr)(F:List Tr->Prop)(ts:List Tr):Prop:=F (t::ts)
theorem ZyZ{t:Tr}{F:List Tr->Prop}{ts:List Tr}:kct t F ts=F (t::ts):=(rfl)
def Zkb(L:Zc)(r:List IV)(F:List Tr->Prop)(t:Tr):Prop:=YQ L r (kct t F)
theorem Zy0{F:List Tr->Prop}{t:Tr}:Zkb L r F t=YQ L r (kct t F):=(rfl)
theorem Zy1{F:List Tr->Prop}:YQ L [] F=F []:=(rfl)
theorem Zy2{x:IV}{F:List Tr->Prop}:YQ L (x::r) F=VP L x (Zkb L r F):=(rfl)
theorem Zy3{t:Tr}{F:Tr->Prop}:VP L (.tr t) F=F t:=(rfl)
theorem Zy4{es:Row}{F:Tr->Prop}:VP L (.cs es) F=F (.sl es):=(rfl)
def Zkc(off len:Nat)(F:Tr->Prop)(es:Row)(_u:Bool)(_v:Nat):Prop:=off+len<=es.length/\F (.sl (cut es off len))
theorem Zy5{off len:Nat}{F:Tr->Prop}{es:Row}{u:Bool}{v:Nat}:Zkc off len F es u v=(off+len<=es.length/\F (.sl (cut es off len))):=(rfl)
theorem Zy6{id:Zd}{p:Zk}{off len s:Nat}{cap:Option Nat}{F:Tr->Prop}:VP L (.hd id p off len cap s) F=VW (L id) p s (Zkc off len F):=by rw[<-WK];rfl
end
theorem Zy7{α:Type}{x:α}:List.replicate 1 x=[x]:=(rfl)
theorem Zy8{e:List Tr}:cut [e] 0 1=[e]:=(rfl)
theorem Zy9{l:List Tr}:ScR [l]=(l.all isSc=true):=by
 apply propext
 constructor
 ·intro h
  exact Ubm.2 fun t ht=>h l (by simp) t ht
 ·intro h e he t ht
  simp only[UaN] at he
  subst he
  exact Ubm.1 h t ht
theorem Zza{k:Nat}{l:List Tr}:Zz k [l]=(l.length=k):=by
 apply propext
 constructor
 ·intro h;exact h l (by simp)
 ·intro h e he
  simp only[UaN] at he
  rw[he,h]
theorem Zzb{j:Nat}:max j (j+1)=j+1:=by omega
theorem Zzc{j:Nat}:(j<j+1)=True:=by simp
end Go.Fd

namespace Go.Fd
open Go.RowKit Go.ChangeShapes Go.ChangeMaps Go.WideMaps
section
variable {H:Type} {enc:TypeId×Value->H} {P:Program} {w:World} {t:TypeId} {v:Value} {d:DataW H} {p:List MemPlace} {sp:Nat->Bool} {hd:Bool} {base:Nat}
theorem Zzd(ht:P.underlying t=some .string)(hok:Value.okWide P w .any base t v)(h:DataW.Trod enc P w 0 sp hd t v d p):∃ s:ByteArray,s.size<=9223372036854775807/\VR G0 S0 w (iS s) v:=by
 obtain⟨s,rfl,_,_,hs⟩:=open_string ht hok h
 refine⟨s,?_,.v _ rfl⟩
 unfold maxLen at hs
 omega
end
end Go.Fd

namespace Go.Fd
set_option linter.defProp false in
def EV0:=(Uab (Uab (Uab (Uab (Uab @ZrR @ZrS) (Uab @ZrT (Uab @ZrU @ZrV))) (Uab (Uab @ZrW @ZrX) (Uab @ZrY (Uab @ZrZ @Zr0)))) (Uab (Uab (Uab @Zr1 @Zr2) (Uab @Zr3 (Uab @Zr4 @Zr5))) (Uab (Uab @Zr6 @Zr7) (Uab @Zr8 (Uab @Zr9 @Zsa))))) (Uab (Uab (Uab (Uab @Zsb @Zsc) (Uab @Zsd (Uab @Zse @Zsf))) (Uab (Uab @Zsg @Zsh) (Uab @Zsi (Uab @Zsj @Zsk)))) (Uab (Uab (Uab @Zsl @Zsm) (Uab @Zsn (Uab @Zso @Zsp))) (Uab (Uab @Zsq @Zsr) (Uab @Zss (Uab @Zst @Zsu))))))
set_option linter.defProp false in
def EV1:=(Uab (Uab (Uab (Uab (Uab @Zsv @Zsw) (Uab @Zsx (Uab @Zsy @Zsz))) (Uab (Uab @ZsA @ZsB) (Uab @ZsC (Uab @ZsD @ZsE)))) (Uab (Uab (Uab @ZsF @ZsG) (Uab @ZsH (Uab @ZsI @ZsJ))) (Uab (Uab @ZsK @ZsL) (Uab @ZsM (Uab @ZsN @ZsO))))) (Uab (Uab (Uab (Uab @ZsP @ZsQ) (Uab @ZsR (Uab @ZsS @ZsT))) (Uab (Uab @ZsU @ZsV) (Uab @ZsW (Uab @ZsX @Zjw)))) (Uab (Uab (Uab @Zjx @ZsY) (Uab @ZsZ (Uab @Zs0 @Zs1))) (Uab (Uab @Zs2 @Zs3) (Uab @Zs4 (Uab @Zs5 @Zs6))))))
set_option linter.defProp false in
def EV2:=(Uab (Uab (Uab (Uab (Uab @Zs7 @Zs8) (Uab @Zs9 (Uab @Zta @Ztb))) (Uab (Uab @Ztc @Ztd) (Uab @Zte (Uab @Ztf @Ztg)))) (Uab (Uab (Uab @Zth @Zti) (Uab @Ztj (Uab @Ztk @Ztl))) (Uab (Uab @Ztm @Ztn) (Uab @Zto (Uab @Ztp @Ztq))))) (Uab (Uab (Uab (Uab @Ztr @Zts) (Uab @Ztt (Uab @Ztu @Ztv))) (Uab (Uab @Ztw @Ztx) (Uab @Zty (Uab @Ztz @ZtA)))) (Uab (Uab (Uab @ZtB @ZtC) (Uab @ZtD (Uab @ZtE @ZtF))) (Uab (Uab @ZtG @ZtH) (Uab @ZtI (Uab @ZtJ @ZtK))))))
set_option linter.defProp false in
def EV3:=(Uab (Uab (Uab (Uab (Uab @ZtL @ZtM) (Uab @ZtN (Uab @ZtO @ZtP))) (Uab (Uab @ZtQ @ZtR) (Uab @ZtS (Uab @ZtT @ZtU)))) (Uab (Uab (Uab @ZtV @ZtW) (Uab @ZtX (Uab @ZtY @ZtZ))) (Uab (Uab @Zt0 @Zt1) (Uab @J7 (Uab @UZ @Zt2))))) (Uab (Uab (Uab (Uab @Zt3 @YF) (Uab @Zt4 (Uab @Zt5 @Zt6))) (Uab (Uab @Zt7 @Zt8) (Uab @Zt9 (Uab @Zua @Zub)))) (Uab (Uab (Uab @Zuc @Zud) (Uab @Zue (Uab @Zuf @Zug))) (Uab (Uab @Zuh @Zui) (Uab @Zuj (Uab @Zuk @Zul))))))
set_option linter.defProp false in
def EV4:=(Uab (Uab (Uab (Uab (Uab @Zum @Zun) (Uab @Zuo (Uab @Zup @Zuq))) (Uab (Uab @Zur @Zus) (Uab @Zut (Uab @Zuu @Zuv)))) (Uab (Uab (Uab @Zuw @Zux) (Uab @Zuy (Uab @Zuz @ZuA))) (Uab (Uab @ZuB @ZuC) (Uab @ZuD (Uab @ZuE @ZuF))))) (Uab (Uab (Uab (Uab @ZuG @ZjK) (Uab @ZuH (Uab @ZuI @ZuJ))) (Uab (Uab @ZeY @ZjO) (Uab @ZuK (Uab @ZuL @ZuM)))) (Uab (Uab (Uab @ZjP @ZuN) (Uab @ZuO (Uab @ZuP @ZuQ))) (Uab (Uab @ZuR @ZuS) (Uab @ZuT (Uab @ZuV @ZuW))))))
set_option linter.defProp false in
def EV5:=(Uab (Uab (Uab (Uab (Uab @ZuX @ZuY) (Uab @ZuZ (Uab @Zu0 @Zu1))) (Uab (Uab @Zu2 @Zu3) (Uab @Zu4 (Uab @Zu5 @Zu6)))) (Uab (Uab (Uab @Zu7 @Zu8) (Uab @Zu9 (Uab @Zva @Zvb))) (Uab (Uab @Zvc @Zvd) (Uab @Zve (Uab @Zvf @Zvg))))) (Uab (Uab (Uab (Uab @Zvh @Zvi) (Uab @Zvj (Uab @Zvk @Zvl))) (Uab (Uab @Zvm @Zvn) (Uab @Zvo (Uab @Zvp @Zvq)))) (Uab (Uab (Uab @Zvr @Zvs) (Uab @Zvt (Uab @Zvu @Zvv))) (Uab (Uab @Zvw @Zvx) (Uab @Zvy (Uab @Zvz @ZvA))))))
set_option linter.defProp false in
def EV6:=(Uab (Uab (Uab (Uab (Uab @ZvB @ZvC) (Uab @ZvD (Uab @ZvE @ZvF))) (Uab (Uab @ZvG @ZvH) (Uab @ZvI (Uab @ZvJ @ZvK)))) (Uab (Uab (Uab @ZvL @ZvM) (Uab @ZvN (Uab @ZvO @ZvP))) (Uab (Uab @ZvQ @ZvR) (Uab @ZvS (Uab @ZvT @ZvU))))) (Uab (Uab (Uab (Uab @ZvV @ZvW) (Uab @ZvX (Uab @ZvY @ZvZ))) (Uab (Uab @Zv0 @Zv1) (Uab @Zv2 (Uab @Zv3 @Zv4)))) (Uab (Uab (Uab @Zv6 @Zv7) (Uab @Zv8 (Uab @Zv9 @Yo))) (Uab (Uab @Yp @Zwa) (Uab @Zwb (Uab @Zwc @Zwd))))))
set_option linter.defProp false in
def EV7:=(Uab (Uab (Uab (Uab (Uab @Zwe @Zwf) (Uab @Zwg (Uab @Zwh @Zwi))) (Uab (Uab @Zwj @Zwk) (Uab @Zwl (Uab @Zwm @Zwn)))) (Uab (Uab (Uab @Zwo @Zwp) (Uab @Zwq (Uab @Zwr @Zws))) (Uab (Uab @Zwt @Zwu) (Uab @Zwv (Uab @Zww @Zwx))))) (Uab (Uab (Uab (Uab @Zwy @Zwz) (Uab @ZwA (Uab @ZwB @ZwC))) (Uab (Uab @ZwD @ZwE) (Uab @ZwF (Uab @ZwG @ZwH)))) (Uab (Uab (Uab @ZwI @ZwJ) (Uab @ZwK (Uab @ZwL @ZwM))) (Uab (Uab @ZwN @ZwO) (Uab @ZwP (Uab @ZwQ @ZwR))))))
set_option linter.defProp false in
def EV8:=(Uab (Uab (Uab (Uab (Uab @ZwS @ZwT) (Uab @ZwU (Uab @ZwV @ZwW))) (Uab (Uab @ZwX @ZwY) (Uab @ZwZ (Uab @Zw0 @Zw1)))) (Uab (Uab (Uab @Zw2 @Zw3) (Uab @Zw4 (Uab @Zw5 @Zw6))) (Uab (Uab @Zw7 @Zw8) (Uab @Zw9 (Uab @Zxa @Zxb))))) (Uab (Uab (Uab (Uab @Zxc @Zxd) (Uab @Zxe (Uab @Zxf @Zxg))) (Uab (Uab @Zxh @Zxi) (Uab @Zxj (Uab @Zxk @Zxl)))) (Uab (Uab (Uab @Zxm @Zxn) (Uab @Zxo (Uab @Zxp @Zxq))) (Uab (Uab @Zxr @Zxs) (Uab @Zxt (Uab @Zxu @Zxv))))))
set_option linter.defProp false in
def EV9:=(Uab (Uab (Uab (Uab (Uab @Zxw @Ze2) (Uab @Zb5 (Uab @Zxx @Zxy))) (Uab (Uab @Zxz @ZxA) (Uab @ZxB (Uab @ZxC @ZxD)))) (Uab (Uab (Uab @ZxE @ZxF) (Uab @ZxG (Uab @ZxH @ZxI))) (Uab (Uab @ZxJ @ZxK) (Uab @ZxL (Uab @ZxM @ZxN))))) (Uab (Uab (Uab (Uab @ZxO @ZxP) (Uab @ZxQ (Uab @ZxR @ZxS))) (Uab (Uab @ZxT @ZxU) (Uab @ZxV (Uab @ZxW @ZxX)))) (Uab (Uab (Uab @ZxY @ZxZ) (Uab @Zx0 (Uab @Zx1 @Zx2))) (Uab (Uab @Zx3 @Zx4) (Uab @Zx5 (Uab @Zx6 @Zx7))))))
set_option linter.defProp false in
def Zze:=(Uab (Uab (Uab (Uab (Uab @Zx8 @Zx9) (Uab @Zya (Uab @Zyb @Zyc))) (Uab (Uab @Zyd @Zye) (Uab @Zyf (Uab @Zyg @Zyh)))) (Uab (Uab (Uab @Zyi @Zyj) (Uab @Zyk (Uab @Zyl @Zym))) (Uab (Uab @Zyn @Zyo) (Uab @Zyp (Uab @ZyQ @ZyR))))) (Uab (Uab (Uab (Uab @ZyS @ZyT) (Uab @ZyU (Uab @ZyV @ZyW))) (Uab (Uab @ZyX @ZyY) (Uab @ZyZ (Uab @Zy0 @Zy1)))) (Uab (Uab (Uab @Zy2 @Zy3) (Uab @Zy4 (Uab @Zy5 @Zy6))) (Uab (Uab @Zy7 @Zy8) (Uab @Zy9 (Uab @Zza @Zzb))))))
set_option linter.defProp false in
def Zzf:=(Uab (Uab (Uab (Uab (Uab @Zzc @bigN.eq_1) (Uab @fpart.eq_1 (Uab @fpart.eq_2 @okp.eq_1))) (Uab (Uab @okp.eq_2 @zfill.eq_1) (Uab @zfill.eq_2 (Uab @zobs.eq_1 @ptd.eq_1)))) (Uab (Uab (Uab @ptd.eq_2 @keyOf.eq_1) (Uab @keyOf.eq_2 (Uab @freshK.eq_1 @freshK.eq_2))) (Uab (Uab @lk.eq_1 @lk.eq_2) (Uab @pt.eq_1 (Uab @pt.eq_2 @lkO.eq_1))))) (Uab (Uab (Uab (Uab @lkO.eq_2 @ptO.eq_1) (Uab @ptO.eq_2 (Uab @addO.eq_1 @addO.eq_2))) (Uab (Uab @xv.eq_1 @xv.eq_2) (Uab @xv.eq_3 (Uab @kv.eq_1 @kv.eq_2)))) (Uab (Uab (Uab @kc.eq_1 @kc.eq_2) (Uab @params.eq_1 (Uab @params.eq_2 @trv.eq_1))) (Uab (Uab @trv.eq_2 @List.length_cons.{0}) (Uab @List.length_nil.{0} (Uab @Option.getD_some.{0} @Option.getD_none.{0}))))))
set_option linter.defProp false in
def Zzg:=(Uab (Uab (Uab (Uab (Uab @true_and @and_true) (Uab @decide_eq_true_eq (Uab @decide_true @decide_false))) (Uab (Uab @Option.map_some.{0,0} @Option.map_none.{0,0}) (Uab @Option.isSome_some.{0} (Uab @Option.isSome_none.{0} @Option.isNone_some.{0})))) (Uab (Uab (Uab @Option.isNone_none.{0} @Uai.{0,0}) (Uab @Uaj.{0,0} (Uab @List.cons_append.{0} @List.nil_append.{0}))) (Uab (Uab @List.getElem?_cons_zero.{0} @List.getElem?_cons_succ.{0}) (Uab @List.drop_succ_cons.{0} (Uab @Ubw.{0} @List.take_succ_cons.{0}))))) (Uab (Uab (Uab (Uab @List.take_zero.{0} @List.headD_cons.{0}) (Uab @List.headD_nil.{0} (Uab @List.tail_cons.{0} @List.tail_nil.{0}))) (Uab (Uab @noSh.eq_1 @noSh.eq_2) (Uab @noSh.eq_3 (Uab @noSh.eq_4 @noSh.eq_5)))) (Uab (Uab (Uab @noSh.eq_6 @noSh.eq_7) (Uab @noSh.eq_8 (Uab @noShs.eq_1 @noShs.eq_2))) (Uab (Uab @isSc.eq_1 @isSc.eq_2) (Uab @impv.eq_1 (Uab @impv.eq_2 @impv.eq_3))))))
set_option linter.defProp false in
def Zzh:=(Uab (Uab (Uab (Uab (Uab @impv.eq_4 @impvs.eq_1) (Uab @impvs.eq_2 (Uab @impc.eq_1 @impc.eq_2))) (Uab (Uab @memB.eq_1 @memB.eq_2) (Uab @keepB.eq_1 (Uab @keepB.eq_2 @keepOB.eq_1)))) (Uab (Uab (Uab @keepOB.eq_2 @or_true) (Uab @true_or (Uab @or_false @false_or))) (Uab (Uab @UaZ @Bool.true_eq_false) (Uab @if_true.{1} (Uab @if_false.{1} @Ub4))))) (Uab (Uab (Uab (Uab @Bool.not_false @scrE.eq_1) (Uab @scrE.eq_2 (Uab @scrL.eq_1 @scrL.eq_2))) (Uab (Uab @scr.eq_1 @scr.eq_2) (Uab @scr.eq_3 (Uab @scr.eq_4 @scr.eq_5)))) (Uab (Uab (Uab @scr.eq_6 @scr.eq_7) (Uab @scr.eq_8 (Uab @scrs.eq_1 @scrs.eq_2))) (Uab (Uab @scrOb.eq_1 @scrOb.eq_2) (Uab @rmO.eq_1 (Uab @rmO.eq_2 @Int.toNat_natCast))))))
set_option linter.defProp false in
def Zzi:=(Uab (Uab (Uab (Uab (Uab @Int.toNat_zero @Int.toNat_one) (Uab @List.all_cons.{0} (Uab @List.all_nil.{0} @isCell.eq_1))) (Uab (Uab @isCell.eq_2 @isCell.eq_3) (Uab @isCell.eq_4 (Uab @isCell.eq_5 @isCell.eq_6)))) (Uab (Uab (Uab @Ub5 @Bool.true_and) (Uab @Bool.and_self (Uab @cellsOf.eq_1 @cellsOf.eq_2))) (Uab (Uab @totr.eq_1 @totr.eq_2) (Uab @totr.eq_3 (Uab @totr.eq_4 @totr.eq_5))))) (Uab (Uab (Uab (Uab @totrs.eq_1 @totrs.eq_2) (Uab @tocs.eq_1 (Uab @getp.eq_1 @getp.eq_2))) (Uab (Uab @cvt.eq_1 @cvt.eq_2) (Uab @cvts.eq_1 (Uab @cvts.eq_2 @Uax)))) (Uab (Uab (Uab @Nat.add_zero @List.set_cons_zero.{0}) (Uab @List.set_cons_succ.{0} (Uab @UaR @Bool.not_eq_false'))) (Uab (Uab @Ua6 @Ual) (Uab @UbS.{0,0} (Uab @ne_eq.{1} @not_false_eq_true))))))
set_option linter.defProp false in
def Zzj:=(Uab (Uab (Uab @not_true_eq_false @Uaa.{0,0}) (Uab @UbB.{0} @List.replicate_zero.{0})) (Uab (Uab @and_false @false_and) (Uab @and_self @Int.cast_ofNat_Int)))
set_option linter.defProp false in
def Zb:=(Uab (Uab (Uab (Uab EV0 EV1) (Uab EV2 EV3)) (Uab (Uab EV4 EV5) (Uab EV6 EV7))) (Uab (Uab (Uab EV8 EV9) (Uab Zze Zzf)) (Uab (Uab Zzg Zzh) (Uab Zzi Zzj))))
abbrev oo(d:Nat)(x:O):OP:=⟨some d,none,x⟩
abbrev Zh(x:O):OP:=⟨none,none,x⟩
abbrev og(d j:Nat)(w:Bool)(x:O):OP:=⟨some d,some (j,w),x⟩
abbrev om(d:Nat)(x:X):OP:=⟨some d,none,.mv x none⟩
abbrev rg(l:List OP):C2:=.rg none l
abbrev i6(n:Int):X:=.k (.int .i64 n)
open Go.Proofs.Tryz renaming prog->Uch
def Zfe(P:Program)(w:World):Prop:=Go.Lib.TabIs P w "internal/strconv.uint64pow10" .u64 Go.Lib.pow10Tab/\(∃ m,w.cell? ⟨0,0,none⟩=some (.int .i64 m))/\(∃ t p,w.var? P "strconv.ErrSyntax" = some #[.iface t p])/\∃ t p,w.var? P "strconv.ErrRange" = some #[.iface t p]
instance tabsP:Tabs:=⟨Zfe Uch⟩
set_option maxRecDepth 10000
theorem Zs{c:Prop}[Decidable c]{p q:Prop}(h1:c->p)(h2:¬ c->q):if c then p else q:=by
 split
 ·exact h1 ‹_›
 ·exact h2 ‹_›
def VY{α:Type}(f:α->Int->Int):List α->Int->Int
 | [],l=>l
 | x::r,l=>if f x l<0 then -1 else VY f r (f x l)
def Xo{α:Type}(f:α->Int->Int)(a:List α)(left:Int):Int:=if left-a.length<0 then -1 else VY f a (left-a.length)
def Zff(k:Nat)(m:Option Nat)(fid:FuncId):F2 :=
 { nt:=27,res:=[.t 4 [0]],body:=(.sq (.rg none [⟨some 4,none,.mv (.k (.int .i64 0)) none⟩]) (.sq (.rg none [⟨some 6,none,.mv (.t 1) none⟩,
   ⟨some 7,none,.mv (.t 0) none⟩,
   ⟨some 8,none,.ln (.t 7)⟩,
   ⟨some 9,none,.bi .sub 0 (.t 6) (.t 8)⟩,
   ⟨some 1,none,.mv (.t 9) none⟩]) (.sq (.sq (.rg none [⟨some 10,none,.mv (.t 1) none⟩,
    ⟨some 11,none,.bi .lss 0 (.t 10) (.k (.int .i64 0))⟩]) (.cd (.t 11) (.sq (.rg none [⟨some 4,none,.mv (.k (.int .i64 (-1))) none⟩]) (.rt)) (.sk))) (.sq (.sq (.rg none [⟨some 5,none,.mv (.k (.int .i64 0)) none⟩]) (.bl 0 (.lp [0,1,5] [] (.sq (.sq (.rg none [⟨some 12,none,.mv (.t 5) none⟩,
     ⟨some 13,none,.mv (.t 0) none⟩,
     ⟨some 14,none,.ln (.t 13)⟩,
     ⟨some 15,none,.bi .lss 0 (.t 12) (.t 14)⟩]) (.cd (.t 15) (.sk) (.ex 0))) (.sq (.bl 1 (.sq (.rg none [⟨some 18,none,.mv (.t 0) none⟩,
      ⟨some 19,none,.mv (.t 5) none⟩,
      ⟨some 20,none,.ia k (.t 18) (.t 19)⟩,
      ⟨some 21,none,.ld m (.t 20)⟩,
      ⟨some 22,none,.mv (.t 1) none⟩,
      ⟨some 23,none,.ca .pure false (.f fid) [.t 21,.t 22]⟩,
      ⟨some 1,none,.mv (.t 23) none⟩]) (.sq (.rg none [⟨some 24,none,.mv (.t 1) none⟩,
      ⟨some 25,none,.bi .lss 0 (.t 24) (.k (.int .i64 0))⟩]) (.cd (.t 25) (.sq (.rg none [⟨some 4,none,.mv (.k (.int .i64 (-1))) none⟩]) (.rt)) (.sk))))) (.rg none [⟨some 16,none,.mv (.t 5) none⟩,
    ⟨some 17,none,.bi .add 0 (.t 16) (.k (.int .i64 1))⟩,
    ⟨some 5,none,.mv (.t 17) none⟩])))))) (.sq (.rg none [⟨some 26,none,.mv (.t 1) none⟩,
   ⟨some 4,none,.mv (.t 26) none⟩]) (.rt)))))) }
theorem Zzk{P:Program}{fid fe:FuncId}{k:Nat}(hc:Zj P fid (Zff k (some k) fe)=true){α:Type}(c:α->List Tr)(f:α->Int->Int)(hk:∀ x,(c x).length=k)(a:List α)(left:Int)(h:a.length<=9223372036854775807)(h0:0<=left)(h1:left<=1048576)
  (hf:∀ x∈a,∀ l:Int,0<=l->l<=1048576->f x l<=l/\∀ lvl S,Sem P fe lvl [.ag ((c x).map .tr),iI l] S (iI (f x l)) S) (lvl:Nat) (S:Zc) :
  Sem P fid lvl [.tr (.sl (a.map c)),iI left] S (iI (Xo f a left)) S:=by
 refine Zi hc trivial ?_
 simp only[Zff,Uaa,Zb,seval,Za,men]
 refine⟨by rw[Zg];omega,?_⟩
 unfold Xo
 split
 ·rfl
 ·rename_i hlt
  generalize hr:VY f a (left-a.length)=total
  refine Yn (α:=Int) a.length (fun j l=>⟨lvl,[(0,.tr (.sl (a.map c))),(1,iI l),(5,iI j)],[],S⟩) (fun j l=>0<=l/\l<=1048576/\VY f (a.drop j) l=total) (left-a.length) ⟨by simp only[Zb,seval,Za,men],by (simp only[Zb,seval,Za,men]) <;> rfl⟩ ⟨by omega,by omega,hr⟩ ?_
  intro j l hj ⟨hl0,hl1,hl⟩
  simp only[Uaa,Zb,seval,Za,men]
  split
  ·rename_i hlt
   have hja:j<a.length:=by omega
   have ga:(a.map c)[j]? = some (c a[j]):=by simp [hja]
   have hkk:=hk a[j]
   have htk:(c a[j]).take k=c a[j]:=Uau (by omega)
   rw[UaJ hja] at hl
   obtain⟨hle,hsem⟩:=hf a[j] (Uak hja) l hl0 hl1
   simp only[ga,hkk,htk,Ua6,Ual,Zb,seval,Za,men]
   refine Zf hsem ?_
   simp only[Zb,seval,Za,men]
   split
   ·rename_i hneg
    simp only[VY,if_pos hneg] at hl
    rw[hl]
   ·rename_i hneg
    simp only[VY,if_neg hneg] at hl
    refine⟨by rw[Zg];omega,Zu (f a[j] l) hja rfl ⟨by omega,by omega,hl⟩⟩
  ·rename_i hge
   have:j=a.length:=by omega
   subst this
   simp only[Ubv,VY] at hl
   rw[hl]
def Zcc(k:Nat)(m:Option Nat)(fid:FuncId):F2 :=
 { nt:=27,res:=[.t 4 [0]],body:=(.sq (.rg none [⟨some 4,none,.mv (.k (.bool false)) none⟩]) (.sq (.sq (.rg none [⟨some 6,none,.mv (.t 0) none⟩,
    ⟨some 7,none,.ln (.t 6)⟩,
    ⟨some 8,none,.mv (.t 1) none⟩,
    ⟨some 9,none,.ln (.t 8)⟩,
    ⟨some 10,none,.bi .neq 0 (.t 7) (.t 9)⟩]) (.cd (.t 10) (.sq (.rg none [⟨some 4,none,.mv (.k (.bool false)) none⟩]) (.rt)) (.sk))) (.sq (.sq (.rg none [⟨some 5,none,.mv (.k (.int .i64 0)) none⟩]) (.bl 0 (.lp [0,1,5] [] (.sq (.sq (.rg none [⟨some 11,none,.mv (.t 5) none⟩,
     ⟨some 12,none,.mv (.t 0) none⟩,
     ⟨some 13,none,.ln (.t 12)⟩,
     ⟨some 14,none,.bi .lss 0 (.t 11) (.t 13)⟩]) (.cd (.t 14) (.sk) (.ex 0))) (.sq (.bl 1 (.sq (.rg (some 0) [⟨some 17,none,.mv (.t 0) none⟩,
      ⟨some 18,none,.mv (.t 5) none⟩,
      ⟨some 19,none,.ia k (.t 17) (.t 18)⟩,
      ⟨some 20,none,.ld m (.t 19)⟩,
      ⟨some 21,none,.mv (.t 1) none⟩,
      ⟨some 22,none,.mv (.t 5) none⟩,
      ⟨some 23,none,.ia k (.t 21) (.t 22)⟩,
      ⟨some 24,none,.ld m (.t 23)⟩,
      ⟨some 25,none,.ca .pure false (.f fid) [.t 20,.t 24]⟩,
      ⟨some 26,none,.nt (.t 25)⟩]) (.cd (.t 26) (.sq (.rg none [⟨some 4,none,.mv (.k (.bool false)) none⟩]) (.rt)) (.sk)))) (.rg none [⟨some 15,none,.mv (.t 5) none⟩,
    ⟨some 16,none,.bi .add 0 (.t 15) (.k (.int .i64 1))⟩,
    ⟨some 5,none,.mv (.t 16) none⟩])))))) (.sq (.rg none [⟨some 4,none,.mv (.k (.bool true)) none⟩]) (.rt))))) }
theorem Zkd{α:Type}{a b:List α}{j:Nat}(ha:j<a.length)(hb:j<b.length)(h:a[j]≠b[j]):a≠b:=by
 intro e;subst e;exact h rfl
theorem Zke{α:Type}{a b:List α}(hl:a.length=b.length)(h:a.take a.length=b.take a.length):a=b:=by
 rw[Uaw,hl,Uaw] at h;exact h
theorem Zkf{α:Type}{a b:List α}{j:Nat}(ha:j<a.length)(hb:j<b.length)(h:a.take j=b.take j)(e:a[j]=b[j]):a.take (j+1)=b.take (j+1):=by
 rw[Uaf ha,Uaf hb,h,e]
theorem Zkg{P:Program}{fid fe:FuncId}{k:Nat}(hc:Zj P fid (Zcc k (some k) fe)=true){α:Type}[DecidableEq α](c:α->List Tr)(hk:∀ x,(c x).length=k)(a b:List α)(ha:a.length<=9223372036854775807)
  (hf:∀ x∈a,∀ y∈b,∀ lvl S,Sem P fe lvl [.ag ((c x).map .tr),.ag ((c y).map .tr)] S (iB (decide (x=y))) S) (lvl:Nat) (S:Zc) :
  Sem P fid lvl [.tr (.sl (a.map c)),.tr (.sl (b.map c))] S (iB (decide (a=b))) S:=by
 refine Zi hc trivial ?_
 simp only[Zcc,Uaa,Zb,seval,Za,men]
 split
 ·rename_i h
  have:¬ a=b:=fun e=>h (by rw[e])
  simp [this]
 ·rename_i h
  have hlen:a.length=b.length:=by omega
  refine Yn (α:=Unit) a.length (fun j _=>⟨lvl,[(0,.tr (.sl (a.map c))),(1,.tr (.sl (b.map c))),(5,iI j)],[],S⟩) (fun j _=>a.take j=b.take j) () ⟨by simp only[Zb,seval,Za,men],by (simp only[Zb,seval,Za,men]) <;> rfl⟩ rfl ?_
  intro j _ hj hA
  simp only[Uaa,Zb,seval,Za,men]
  split
  ·rename_i hlt
   have hja:j<a.length:=by omega
   have hjb:j<b.length:=by omega
   have ga:(a.map c)[j]? = some (c a[j]):=by simp [hja]
   have gb:(b.map c)[j]? = some (c b[j]):=by simp [hjb]
   have hka:=hk a[j]
   have hkb:=hk b[j]
   have hta:(c a[j]).take k=c a[j]:=Uau (by omega)
   have htb:(c b[j]).take k=c b[j]:=Uau (by omega)
   have hsem:=hf a[j] (Uak hja) b[j] (Uak hjb)
   simp only[ga,gb,hka,hkb,hta,htb,Ua6,Ual,Zb,seval,Za,men]
   refine Zf hsem ?_
   simp only[UaR,Zb,seval,Za,men]
   split
   ·rename_i hne
    have:¬ a=b:=Zkd hja hjb (by simpa using hne)
    simp [this]
   ·rename_i he
    refine⟨by rw[Zg];omega,Zu () hja rfl (Zkf hja hjb hA (by simpa using he))⟩
  ·rename_i hge
   have:j=a.length:=by omega
   subst this
   have:a=b:=Zke hlen hA
   simp [this]
def Zfg:F2 :=
 { nt:=26,res:=[.t 4 [0]],body:=(.sq (.rg none [⟨some 4,none,.mv (.k (.bool false)) none⟩]) (.sq (.sq (.rg none [⟨some 6,none,.mv (.t 0) none⟩,
    ⟨some 7,none,.ln (.t 6)⟩,
    ⟨some 8,none,.mv (.t 1) none⟩,
    ⟨some 9,none,.ln (.t 8)⟩,
    ⟨some 10,none,.bi .neq 0 (.t 7) (.t 9)⟩]) (.cd (.t 10) (.sq (.rg none [⟨some 4,none,.mv (.k (.bool false)) none⟩]) (.rt)) (.sk))) (.sq (.sq (.rg none [⟨some 5,none,.mv (.k (.int .i64 0)) none⟩]) (.bl 0 (.lp [0,1,5] [] (.sq (.sq (.rg none [⟨some 11,none,.mv (.t 5) none⟩,
     ⟨some 12,none,.mv (.t 0) none⟩,
     ⟨some 13,none,.ln (.t 12)⟩,
     ⟨some 14,none,.bi .lss 0 (.t 11) (.t 13)⟩]) (.cd (.t 14) (.sk) (.ex 0))) (.sq (.bl 1 (.sq (.rg (some 0) [⟨some 17,none,.mv (.t 0) none⟩,
      ⟨some 18,none,.mv (.t 5) none⟩,
      ⟨some 19,none,.ia 1 (.t 17) (.t 18)⟩,
      ⟨some 20,none,.ld none (.t 19)⟩,
      ⟨some 21,none,.mv (.t 1) none⟩,
      ⟨some 22,none,.mv (.t 5) none⟩,
      ⟨some 23,none,.ia 1 (.t 21) (.t 22)⟩,
      ⟨some 24,none,.ld none (.t 23)⟩,
      ⟨some 25,none,.bi .neq 0 (.t 20) (.t 24)⟩]) (.cd (.t 25) (.sq (.rg none [⟨some 4,none,.mv (.k (.bool false)) none⟩]) (.rt)) (.sk)))) (.rg none [⟨some 15,none,.mv (.t 5) none⟩,
    ⟨some 16,none,.bi .add 0 (.t 15) (.k (.int .i64 1))⟩,
    ⟨some 5,none,.mv (.t 16) none⟩])))))) (.sq (.rg none [⟨some 4,none,.mv (.k (.bool true)) none⟩]) (.rt))))) }
theorem Zzl{P:Program}{fid:FuncId}(hc:Zj P fid Zfg=true)(a b:List ByteArray)(ha:a.length<=9223372036854775807)(lvl:Nat)(S:Zc):Sem P fid lvl [tS a,tS b] S (iB (decide (a=b))) S:=by
 refine Zi hc trivial ?_
 simp only[Zfg,Uaa,Zb,seval,Za,men]
 split
 ·rename_i h
  have:¬ a=b:=fun e=>h (by rw[e])
  simp [this]
 ·rename_i h
  have hlen:a.length=b.length:=by omega
  refine Yn (α:=Unit) a.length (fun j _=>⟨lvl,[(0,tS a),(1,tS b),(5,iI j)],[],S⟩) (fun j _=>a.take j=b.take j) () ⟨by simp only[Zb,seval,Za,men],by (simp only[Zb,seval,Za,men]) <;> rfl⟩ rfl ?_
  intro j _ hj hA
  simp only[Uaa,Zb,seval,Za,men]
  split
  ·rename_i hlt
   have hja:j<a.length:=by omega
   have hjb:j<b.length:=by omega
   have ga:(rS a)[j]? = some [ts a[j]]:=by simp [hja]
   have gb:(rS b)[j]? = some [ts b[j]]:=by simp [hjb]
   simp only[ga,gb,Ua6,Ual,Zb,seval,Za,men]
   split
   ·rename_i hne
    have:¬ a=b:=Zkd hja hjb (by simpa using hne)
    simp [this]
   ·rename_i he
    refine⟨by rw[Zg];omega,Zu () hja rfl (Zkf hja hjb hA (by simpa using he))⟩
  ·rename_i hge
   have:j=a.length:=by omega
   subst this
   have:a=b:=Zke hlen hA
   simp [this]
def VZ{α:Type}(c:α->List Tr)(z:List Tr)(a:List α)(j:Nat):Row:=(a.take j).map c++List.replicate (a.length-j) z
theorem Zzm{α:Type}(c:α->List Tr)(z:List Tr)(a:List α):VZ c z a 0=List.replicate a.length z:=by simp [VZ]
theorem Zzn{α:Type}(c:α->List Tr)(z:List Tr)(a:List α):VZ c z a a.length=a.map c:=by simp [VZ]
theorem Zzo{α:Type}{c:α->List Tr}{z:List Tr}{a:List α}{j:Nat}(h:j<=a.length):(VZ c z a j).length=a.length:=by
 simp [VZ];omega
theorem Zzp{α:Type}{c:α->List Tr}{z:List Tr}{a:List α}{j:Nat}(h:j<a.length):(VZ c z a j)[j]? = some z:=by
 unfold VZ
 have h1:((a.take j).map c).length=j:=by rw[Uaa,Uam];omega
 rw[Uar (by omega),h1,Ubn,Ubk]
 rw[if_pos (by omega)]
theorem Zzq{α:Type}{c:α->List Tr}{z e:List Tr}{a:List α}{j:Nat}(h:j<a.length)(he:e=c a[j]):(VZ c z a j).set j e=VZ c z a (j+1):=by
 subst he
 unfold VZ
 have h1:((a.take j).map c).length=j:=by simp;omega
 rw[Ubh _ _ (by omega),h1,Ubn,show a.length-j=(a.length-(j+1))+1 from by omega,List.replicate_succ,List.set_cons_zero,Uaf h,Uay]
 simp
def QX(l:Int)(g:Int->Int):Int:=if l<0 then -1 else g l
def Zq(c:Int)(s:Int->Int)(q:Nat):Prop:=∀ l:Int,0<=l->l<=1048576->s l<=l/\(0<=s l->(q:Int)<=c+256*(l-s l))
theorem Zzr:Zq 0 (fun l=>l) 0:=fun l _ _=>⟨Ubu _,fun _=>by simp only;omega⟩
theorem Zzs{c e:Int}{s g:Int->Int}{q r:Nat}(hc:0<=c)(he:0<=e)(hs:Zq c s q)(hg:Zq e g r):Zq (c+e) (fun l=>QX (s l) g) (q+r):=fun l h0 h1=>by
 have a:=hs l h0 h1
 by_cases h:s l<0
 ·simp only[QX,if_pos h]
  exact⟨by omega,fun h=>by omega⟩
 ·simp only[QX,if_neg h]
  have b:=hg (s l) (by omega) (by omega)
  refine⟨by omega,fun h2=>?_⟩
  have:=a.2 (by omega)
  have:=b.2 h2
  omega
theorem Zzt(n:Nat):Zq 0 (fun l=>l-n) 0:=fun l h0 h1=>⟨by simp only;omega,fun h=>by simp only at h ⊢;omega⟩
theorem Zkh{α:Type}{f:α->Int->Int}{n:α->Nat}(hf:∀ x,Zq 256 (f x) (n x)):∀(a:List α),Zq (256*a.length) (fun l=>VY f a l) (nL n a)
 | []=>fun l _ _=>⟨Ubu l,fun _=>by simp only[VY,nL,List.length_nil];omega⟩
 | x::r=>fun l h0 h1=>by
  simp only[VY,nL,List.length_cons]
  have a:=hf x l h0 h1
  split
  ·exact⟨by omega,fun h=>by omega⟩
  ·have b:=Zkh hf r (f x l) (by omega) (by omega)
   simp only at b
   refine⟨by omega,fun h=>?_⟩
   have:=a.2 (by omega)
   have:=b.2 h
   omega
theorem Zzu{α:Type}{f:α->Int->Int}{n:α->Nat}(hf:∀ x,Zq 256 (f x) (n x))(a:List α):Zq 0 (fun l=>Xo f a l) (nL n a):=fun l h0 h1=>by
 simp only[Xo]
 split
 ·exact⟨by omega,fun h=>by omega⟩
 ·have b:=Zkh hf a (l-a.length) (by omega) (by omega)
  simp only at b
  refine⟨by omega,fun h=>?_⟩
  have:=b.2 h
  omega
theorem Zki{c e:Int}{s:Int->Int}{q r:Nat}(h:Zq c s q)(hq:(r:Int)+c<=q+e):Zq e s r:=fun l h0 h1=>by
 have a:=h l h0 h1
 refine⟨a.1,fun h2=>?_⟩
 have:=a.2 h2
 omega
structure TControl where
 name:ByteArray
 ports:Int
 kind_:Int
 deriving DecidableEq
def Zr(x:TControl):List Tr:=[ts x.name,tv x.ports,tv x.kind_]
theorem Zfh(x:TControl):(Zr x).length=3:=rfl
def Zcd(x:TControl):IV:=.ag [iS x.name,iI x.ports,iI x.kind_]
def Jc(n:Nat)(x:TControl):Prop:=x.name.size<=n
def Zkj(x:TControl):Prop:=ZW .i64 x.ports/\ZW .i64 x.kind_
def Qx(x:TControl)(l:Int):Int:=QX (l-x.name.size) fun l=>l
structure TNode where
 control:Int
 parent:Int
 links:(List Int)
 deriving DecidableEq
def ZG(x:TNode):List Tr:=[tv x.control,tv x.parent,.sl (rI x.links)]
def Zav(n:Nat)(x:TNode):Prop:=x.links.length<=n
def Zzv(x:TNode):Prop:=ZW .i64 x.control/\ZW .i64 x.parent/\(∀ y∈x.links,ZW .i64 y)
structure TWire where
 name:ByteArray
 link:Int
 deriving DecidableEq
def ZO(x:TWire):List Tr:=[ts x.name,tv x.link]
def WO(n:Nat)(x:TWire):Prop:=x.name.size<=n
def Zzw(x:TWire):Prop:=ZW .i64 x.link
structure TBigraph where
 roots:Int
 nodes:(List TNode)
 sites:(List Int)
 edges:Int
 outer:(List ByteArray)
 inner:(List TWire)
 deriving DecidableEq
def Ze(x:TBigraph):List Tr:=[tv x.roots,.sl (x.nodes.map ZG),.sl (rI x.sites),tv x.edges,.sl (rS x.outer),.sl (x.inner.map ZO)]
def Zw(x:TBigraph):IV:=.ag [iI x.roots,.ow 3 (x.nodes.map ZG) true,.ow 1 (rI x.sites) true,iI x.edges,.ow 1 (rS x.outer) true,.ow 2 (x.inner.map ZO) true]
def Jj(n:Nat)(x:TBigraph):Prop:=x.nodes.length<=n/\(∀ y∈x.nodes,Zav n y)/\x.sites.length<=n/\x.outer.length<=n/\(∀ y∈x.outer,y.size<=n)/\x.inner.length<=n/\(∀ y∈x.inner,WO n y)
def JJ(x:TBigraph):Prop:=ZW .i64 x.roots/\(∀ y∈x.nodes,Zzv y)/\(∀ y∈x.sites,ZW .i64 y)/\ZW .i64 x.edges/\(∀ y∈x.inner,Zzw y)
structure TTermStep where
 kind_:Int
 control:Int
 site:Int
 names:(List ByteArray)
 deriving DecidableEq
def Zv(x:TTermStep):List Tr:=[tv x.kind_,tv x.control,tv x.site,.sl (rS x.names)]
def JZ(x:TTermStep):IV:=.ag [iI x.kind_,iI x.control,iI x.site,.ow 1 (rS x.names) true]
def Yx(n:Nat)(x:TTermStep):Prop:=x.names.length<=n/\(∀ y∈x.names,y.size<=n)
abbrev Zkk:FuncId:=3
abbrev Zfi:FuncId:=4
abbrev Zfj:FuncId:=5
abbrev U7:FuncId:=6
abbrev Zce:FuncId:=7
abbrev Zaw:FuncId:=8
abbrev Zfk:FuncId:=9
abbrev Zfl:FuncId:=10
abbrev Zfm:FuncId:=11
abbrev Zcf:FuncId:=12
abbrev Zfn:FuncId:=13
abbrev Zax:FuncId:=14
abbrev Zcg:FuncId:=15
abbrev Zfo:FuncId:=16
abbrev Zfp:FuncId:=17
abbrev Zfq:FuncId:=18
abbrev Zfr:FuncId:=19
abbrev Zch:FuncId:=20
abbrev Zfs:FuncId:=21
abbrev Zft:FuncId:=22
abbrev Zfu:FuncId:=23
abbrev Zfv:FuncId:=24
abbrev Zfw:FuncId:=25
abbrev Zay:FuncId:=26
abbrev Zfx:FuncId:=27
abbrev Zfy:FuncId:=28
abbrev Zaz:FuncId:=29
abbrev VE:FuncId:=30
abbrev U8:FuncId:=31
abbrev Zfz:FuncId:=32
abbrev ZfA:FuncId:=33
abbrev ZfB:FuncId:=34
abbrev ZfC:FuncId:=35
abbrev U9:FuncId:=36
abbrev ZfD:FuncId:=37
abbrev Zci:FuncId:=38
abbrev ZfE:FuncId:=39
abbrev Zkl:FuncId:=40
abbrev ZfF:FuncId:=41
abbrev ZaA:FuncId:=42
abbrev ZfG:FuncId:=43
abbrev ZfH:FuncId:=44
abbrev Da:FuncId:=45
abbrev Db:FuncId:=46
abbrev Zcj:FuncId:=47
abbrev ZfI:FuncId:=48
abbrev Xp:FuncId:=49
abbrev ZfJ:FuncId:=50
abbrev Zck:FuncId:=51
abbrev ZfK:FuncId:=52
abbrev ZfL:FuncId:=53
abbrev ZfM:FuncId:=54
abbrev ZfN:FuncId:=56
abbrev ZfO:FuncId:=58
abbrev Zcl:FuncId:=59
abbrev Qc:FuncId:=60
abbrev Uj:FuncId:=61
abbrev Zkm:FuncId:=62
abbrev Zcm:FuncId:=63
abbrev ZfP:FuncId:=64
abbrev ZaB:FuncId:=65
abbrev ZfQ:FuncId:=66
abbrev Dc:FuncId:=67
abbrev ZfR:FuncId:=68
abbrev Dd:FuncId:=69
abbrev ZfS:FuncId:=70
abbrev ZfT:FuncId:=71
abbrev Zcn:FuncId:=75
abbrev ZaC:FuncId:=76
abbrev ZfU:FuncId:=77
abbrev ZfV:FuncId:=78
abbrev ZfW:FuncId:=79
abbrev ZfX:FuncId:=80
abbrev Zco:FuncId:=81
abbrev Zcp:FuncId:=82
abbrev Zkn:FuncId:=87
abbrev ZaD:FuncId:=88
abbrev Zcq:FuncId:=89
abbrev Uk:FuncId:=90
abbrev ZfY:FuncId:=91
abbrev Zcr:FuncId:=92
abbrev Zcs:FuncId:=93
abbrev ZfZ:FuncId:=94
abbrev Zf0:FuncId:=95
abbrev Zf1:FuncId:=96
abbrev ZaE:FuncId:=97
abbrev ZaF:FuncId:=98
abbrev De:FuncId:=102
abbrev Ul:FuncId:=103
abbrev Zf2:FuncId:=104
abbrev Um:FuncId:=105
abbrev Df:FuncId:=106
abbrev Zf3:FuncId:=107
abbrev Zf4:FuncId:=108
abbrev Zf5:FuncId:=109
abbrev Zf6:FuncId:=110
abbrev Zct:FuncId:=127
abbrev Zf7:FuncId:=128
abbrev Zf8:FuncId:=129
abbrev Zf9:FuncId:=130
abbrev Zga:FuncId:=131
abbrev X7:FuncId:=132
abbrev Zgb:FuncId:=133
abbrev ZaG:FuncId:=134
abbrev Dg:FuncId:=135
abbrev Zgc:FuncId:=136
abbrev ZaH:FuncId:=137
abbrev Zgd:FuncId:=138
abbrev X8:FuncId:=139
abbrev Zcu:FuncId:=140
abbrev Zge:FuncId:=141
abbrev Zzx:FuncId:=142
abbrev Zzy:FuncId:=143
abbrev Zzz:FuncId:=144
abbrev ZzA:FuncId:=145
abbrev ZzB:FuncId:=146
abbrev Zcv:FuncId:=147
abbrev ZzC:FuncId:=148
abbrev ZzD:FuncId:=149
abbrev ZzE:FuncId:=150
abbrev Zgf:FuncId:=151
abbrev WP:FuncId:=155
abbrev Zgg:FuncId:=156
abbrev Zcw:FuncId:=157
abbrev Zgh:FuncId:=158
abbrev Zgi:FuncId:=159
abbrev Zcx:FuncId:=160
abbrev Zcy:FuncId:=161
abbrev Zgj:FuncId:=162
abbrev Un:FuncId:=163
abbrev ZaI:FuncId:=164
abbrev Zgk:FuncId:=165
abbrev Zcz:FuncId:=166
abbrev Dh:FuncId:=167
abbrev Uo:FuncId:=168
abbrev WQ:FuncId:=169
abbrev Zgl:FuncId:=170
abbrev Di:FuncId:=171
abbrev ZaJ:FuncId:=172
abbrev ZcA:FuncId:=182
abbrev ZaK:FuncId:=183
abbrev ZcB:FuncId:=184
abbrev ZcC:FuncId:=185
abbrev Dj:FuncId:=186
abbrev ZcD:FuncId:=187
abbrev ZcE:FuncId:=188
abbrev Zgm:FuncId:=189
abbrev Zgn:FuncId:=190
abbrev ZcF:FuncId:=191
abbrev Zgo:FuncId:=192
abbrev Zko:FuncId:=193
abbrev Zgp:FuncId:=194
abbrev ZcG:FuncId:=195
abbrev ZcH:FuncId:=196
abbrev ZcI:FuncId:=197
abbrev ZcJ:FuncId:=198
abbrev Up:FuncId:=199
abbrev ZaL:FuncId:=200
abbrev Zgq:FuncId:=201
abbrev ZcK:FuncId:=202
abbrev ZcL:FuncId:=203
abbrev ZcM:FuncId:=204
abbrev Zgr:FuncId:=205
abbrev ZcN:FuncId:=211
abbrev ZcO:FuncId:=221
abbrev ZcP:FuncId:=222
abbrev Dk:FuncId:=223
abbrev ZcQ:FuncId:=224
abbrev Zgs:FuncId:=225
abbrev Zkp:FuncId:=226
abbrev Zkq:FuncId:=227
abbrev ZaM:FuncId:=228
abbrev Zgt:FuncId:=229
abbrev ZcR:FuncId:=230
abbrev ZaN:FuncId:=231
abbrev Zgu:FuncId:=232
abbrev Zgv:FuncId:=240
abbrev ZzF:FuncId:=241
abbrev ZzG:FuncId:=242
abbrev ZzH:FuncId:=243
abbrev ZzI:FuncId:=244
abbrev ZzJ:FuncId:=245
abbrev ZzK:FuncId:=246
abbrev ZzL:FuncId:=247
abbrev ZaO:FuncId:=248
abbrev Zgw:FuncId:=254
abbrev ZzM:FuncId:=255
abbrev ZzN:FuncId:=256
abbrev ZzO:FuncId:=257
abbrev ZzP:FuncId:=258
abbrev ZzQ:FuncId:=259
abbrev ZcS:FuncId:=260
abbrev ZzR:FuncId:=261
abbrev ZzS:FuncId:=262
abbrev ZcT:FuncId:=267
abbrev qM(d a:Nat):OP:=om d (.t a)
abbrev qL(d a:Nat):OP:=oo d (.ld none (.t a))
abbrev qF(d o a:Nat):OP:=oo d (.fa o (.t a))
abbrev qN(d a:Nat):OP:=oo d (.ln (.t a))
abbrev qS(d k a:Nat):OP:=oo d (.ld (some k) (.t a))
abbrev qE(d i a:Nat):OP:=oo d (.ex i (.t a))
abbrev qI(d k a b:Nat):OP:=oo d (.ia k (.t a) (.t b))
abbrev qB(d:Nat)(o:BinOp)(a b:Nat):OP:=oo d (.bi o 0 (.t a) (.t b))
end Go.Fd
