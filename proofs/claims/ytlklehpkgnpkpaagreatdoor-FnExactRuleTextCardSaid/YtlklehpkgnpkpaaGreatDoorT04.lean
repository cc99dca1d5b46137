/-
  FOUNDATION 46: more rules: stores, append. Own work.
-/
import Derived.Test.YtlklehpkgnpkpaaGreatDoorT03
import Derived.ChangeArms
import Derived.OpenShut
import Derived.Carry
import Derived.ChangeMaps5
import Derived.ChangeShapes
import Derived.Test.YtlklehpkgnpkpaaGreatDoorProg
import Derived.Lib.LaidTab
import Derived.Lib.ItoaNum
import Derived.KernelRfl
import Derived.Shelf.Strings.SlTrimAscii
set_option linter.all false
namespace Go.Fd
section
variable {C:Zh} {lvl:Nat} {env:List (Nat×IV)} {loc:List (Nat×Ob)} {out:Sto} {d:Option Nat} {K:St->Prop} {st:St}
def st2(v:Option (List IV))(m:Nat)(p:IV)(d:Option Nat)(st:St)(K:St->Prop):Prop :=
 match v with
 | some l=>d=none/\l.length=m /\
  match p with
  | .ab id off =>
   match st.sto id with
   | some (.bx cells)=>off+l.length<=cells.length/\Qr (id.1+1) l/\K (Zk st id (.bx (Vn cells off l)))
   | _=>False
  | .ae id p i f s=>ZaW id p i s f l st K
  | _=>False
 | none=>False
theorem Zq4{m:Nat}{p x:X}:op2 C d (.st m p x) ⟨lvl,env,loc,out⟩ K=st2 (cellsOf (xv env x)) m (xv env p) d ⟨lvl,env,loc,out⟩ K:=by
 rw[ZC rfl]
 simp only[ew]
 generalize cellsOf (xv env x)=v
 cases v with
 | none=>simp [st2]
 | some l=>rfl
def stb(o:Option Ob)(id:Oid)(off:Nat)(l:List IV)(st:St)(K:St->Prop):Prop :=
 match o with
 | some (.bx cells)=>off+l.length<=cells.length/\Qr (id.1+1) l/\K (Zk st id (.bx (Vn cells off l)))
 | _=>False
theorem ZoI{m:Nat}{l:List IV}{id:Oid}{off:Nat}:st2 (some l) m (.ab id off) d ⟨lvl,env,loc,out⟩ K=(d=none/\l.length=m/\stb (ZG lvl loc out id) id off l ⟨lvl,env,loc,out⟩ K):=(rfl)
theorem ZoJ{m:Nat}{l:List IV}{id:Oid}{p:Pth}{i f s:Nat}:st2 (some l) m (.ae id p i f s) d st K=(d=none/\l.length=m/\ZaW id p i s f l st K):=(rfl)
theorem ZoK{cells l:List IV}{id:Oid}{off:Nat}:stb (some (.bx cells)) id off l st K=(off+l.length<=cells.length/\Qr (id.1+1) l/\K (Zk st id (.bx (Vn cells off l)))):=(rfl)
theorem Js{cs:List IV}{off:Nat}:Vn cs off []=cs:=(rfl)
theorem Jt{cs:List IV}{off:Nat}{x:IV}{r:List IV}:Vn cs off (x::r)=Vn (cs.set off x) (off+1) r:=(rfl)
theorem Zig{l:Nat}:Qr l []=True:=(rfl)
theorem Zih{l:Nat}{x:IV}{r:List IV}:Qr l (x::r)=(low l x/\Qr l r):=(rfl)
theorem Zkx{l:Nat}{t:Tr}:low l (.tr t)=True:=(rfl)
theorem Zky{l:Nat}{es:Row}:low l (.cs es)=True:=(rfl)
theorem Zkz{l k:Nat}{p:Pth}{off len s:Nat}{cap:Option Nat}:low (l+1) (.hd (l,k) p off len cap s)=True:=by
 apply propext;simp [low,men]
theorem ZkA{l k off:Nat}:low (l+1) (.ab (l,k) off)=True:=by
 apply propext;simp [low,men]
theorem ZkB{l:Nat}{c:List IV}:low l (.ag c)=Qr l c:=by simp only[low,Qr,men]
theorem ZkC{l:Nat}{c:List IV}:low l (.tu c)=Qr l c:=by simp only[low,Qr,men]
theorem ZkD{l k:Nat}{es:Row}{u:Bool}:low l (.ow k es u)=True:=(rfl)
theorem ZkE{l:Nat}:low l .un=True:=(rfl)
theorem ZkF{l:Nat}:low l .er=True:=(rfl)
theorem Zii{l:Nat}{c:List Tr}:low l (.ta c)=True:=(rfl)
def kst(id:Oid)(p:Pth)(i s f:Nat)(r:List IV)(K:St->Prop)(st':St):Prop:=ZaW id p i s f r st' K
theorem ZoL{id:Oid}{p:Pth}{i s f:Nat}{r:List IV}:kst id p i s f r K st=ZaW id p i s f r st K:=(rfl)
theorem Zij{id:Oid}{p:Pth}{i s f:Nat}:ZaW id p i s f [] st K=K st:=(rfl)
def sc1(o:Option Ob)(id:Oid)(p:Pth)(i f s:Nat)(x:IV)(st:St)(K:St->Prop):Prop :=
 match o with
 | some (.ar k es u hw ver)=>YI p s hw ver u/\op3 (getp es p) fun es' => op3 es'[i]? fun e=>op3 e[f]? fun t0 =>
  match x with
  | .tr (.v y)=>isSc t0=true/\K (Zk st id (.ar k (YG es p i f (.v y)) u hw ver))
  | .cs []=>p=[]/\K (Zk st id (.ar k (YG es [] i f (.sl [])) u hw (ver+1)))
  | .cs zs=>p=[]/\K (Zk st id (.ar k (YG es [] i f (.sl zs)) false hw (ver+1)))
  | .tr (.sl zs)=>p=[]/\K (Zk st id (.ar k (YG es [] i f (.sl zs)) false hw (ver+1)))
  | .hd id2 [] 0 len none s2=>p=[]/\id2≠id/\id2.1=st.lvl /\
   match st.sto id2 with
   | some (.ar _ zs u2 hw2 _)=>s2=hw2/\len=zs.length/\K (Zk (Jg id2 st) id (.ar k (YG es [] i f (.sl zs)) (u&&u2) hw (ver+1)))
   | _=>False
  | _=>False
 | _=>False
theorem Zik{id:Oid}{p:Pth}{i s f:Nat}{x:IV}{r:List IV}:ZaW id p i s f (x::r) ⟨lvl,env,loc,out⟩ K=sc1 (ZG lvl loc out id) id p i f s x ⟨lvl,env,loc,out⟩ (kst id p i s (f+1) r K):=by
 simp only[ZaW,stc,sc1]
 rw[show (⟨lvl,env,loc,out⟩:St).sto id=ZG lvl loc out id from rfl]
 generalize ZG lvl loc out id=o
 cases o with
 | none=>rfl
 | some ob =>
  cases ob with
  | bx=>rfl
  | ar k es u hw ver =>
   dsimp only
   rw[<-Yp]
   apply propext
   constructor
   ·rintro⟨es',h1,h2,e,h3,t0,h4,h5⟩
    refine⟨h2,es',h1,?_⟩
    rw[h3]
    simp only[op3]
    rw[h4]
    exact h5
   ·rintro⟨h2,es',h1,h3⟩
    rw[<-Yp] at h3
    obtain⟨e,h3,h4⟩:=h3
    rw[<-Yp] at h4
    obtain⟨t0,h4,h5⟩:=h4
    exact⟨es',h1,h2,e,h3,t0,h4,h5⟩
def sc2(k:Nat)(es:Row)(u:Bool)(hw ver:Nat)(id:Oid)(p:Pth)(i f:Nat)(x:IV)(st:St)(K:St->Prop)(t0:Tr):Prop :=
  match x with
  | .tr (.v y)=>isSc t0=true/\K (Zk st id (.ar k (YG es p i f (.v y)) u hw ver))
  | .cs []=>p=[]/\K (Zk st id (.ar k (YG es [] i f (.sl [])) u hw (ver+1)))
  | .cs zs=>p=[]/\K (Zk st id (.ar k (YG es [] i f (.sl zs)) false hw (ver+1)))
  | .tr (.sl zs)=>p=[]/\K (Zk st id (.ar k (YG es [] i f (.sl zs)) false hw (ver+1)))
  | .hd id2 [] 0 len none s2=>p=[]/\id2≠id/\id2.1=st.lvl /\
   match st.sto id2 with
   | some (.ar _ zs u2 hw2 _)=>s2=hw2/\len=zs.length/\K (Zk (Jg id2 st) id (.ar k (YG es [] i f (.sl zs)) (u&&u2) hw (ver+1)))
   | _=>False
  | _=>False
def sc3(k:Nat)(es:Row)(u:Bool)(hw ver:Nat)(id:Oid)(p:Pth)(i f:Nat)(x:IV)(st:St)(K:St->Prop)(e:List Tr):Prop:=op3 e[f]? (sc2 k es u hw ver id p i f x st K)
def sc4(k:Nat)(es:Row)(u:Bool)(hw ver:Nat)(id:Oid)(p:Pth)(i f:Nat)(x:IV)(st:St)(K:St->Prop)(es':Row):Prop:=op3 es'[i]? (sc3 k es u hw ver id p i f x st K)
section sc
variable {k:Nat} {es:Row} {u:Bool} {hw ver:Nat} {id:Oid} {p:Pth} {i f s:Nat} {x:IV}
theorem ZoM:sc1 (some (.ar k es u hw ver)) id p i f s x st K=(YI p s hw ver u/\op3 (getp es p) (sc4 k es u hw ver id p i f x st K)):=(rfl)
theorem ZoN{e:List Tr}:sc3 k es u hw ver id p i f x st K e=op3 e[f]? (sc2 k es u hw ver id p i f x st K):=(rfl)
theorem ZoO{es':Row}:sc4 k es u hw ver id p i f x st K es'=op3 es'[i]? (sc3 k es u hw ver id p i f x st K):=(rfl)
theorem ZoP{y:Value}{t0:Tr}:sc2 k es u hw ver id p i f (.tr (.v y)) st K t0=(isSc t0=true/\K (Zk st id (.ar k (YG es p i f (.v y)) u hw ver))):=(rfl)
theorem ZkG{t0:Tr}:sc2 k es u hw ver id p i f (.cs []) st K t0=(p=[]/\K (Zk st id (.ar k (YG es [] i f (.sl [])) u hw (ver+1)))):=(rfl)
theorem ZkH{zs:Row}{t0:Tr}:sc2 k es u hw ver id p i f (.tr (.sl zs)) st K t0=(p=[]/\K (Zk st id (.ar k (YG es [] i f (.sl zs)) false hw (ver+1)))):=(rfl)
def sc5(o:Option Ob)(k:Nat)(es:Row)(u:Bool)(hw ver:Nat)(id:Oid)(i f len s2:Nat)(st2 st:St)(K:St->Prop):Prop :=
 match o with
 | some (.ar _ zs u2 hw2 _)=>s2=hw2/\len=zs.length/\K (Zk st2 id (.ar k (YG es [] i f (.sl zs)) (u&&u2) hw (ver+1)))
 | _=>False
theorem ZkI{key len s2:Nat}{t0:Tr}:sc2 k es u hw ver id p i f (.hd (lvl,key) [] 0 len none s2) ⟨lvl,env,loc,out⟩ K t0=(p=[]/\(lvl,key)≠id/\sc5 (lkO key loc) k es u hw ver id i f len s2 (Jg (lvl,key) ⟨lvl,env,loc,out⟩) ⟨lvl,env,loc,out⟩ K):=by
 simp only[sc2]
 rw[show (⟨lvl,env,loc,out⟩:St).sto (lvl,key)=lkO key loc from Vu]
 generalize lkO key loc=o
 apply propext
 constructor
 ·rintro⟨h1,h2,_,h3⟩
  refine⟨h1,h2,?_⟩
  cases o with
  | none=>exact h3
  | some ob=>cases ob <;> exact h3
 ·rintro⟨h1,h2,h3⟩
  refine⟨h1,h2,trivial,?_⟩
  cases o with
  | none=>exact h3
  | some ob=>cases ob <;> exact h3
theorem ZoQ{k2:Nat}{zs:Row}{u2:Bool}{hw2 ver2 len s2:Nat}{st2:St}:sc5 (some (.ar k2 zs u2 hw2 ver2)) k es u hw ver id i f len s2 st2 st K=(s2=hw2/\len=zs.length/\K (Zk st2 id (.ar k (YG es [] i f (.sl zs)) (u&&u2) hw (ver+1)))):=(rfl)
end sc
theorem Zq5{k n:Nat}{z:List Value}{ps:List (Nat×X)}:op2 C d (.bw k n z ps) ⟨lvl,env,loc,out⟩ K=ew C d ⟨lvl,env,loc,out⟩ K (.bw k n z ps):=ZC rfl
def kbw(k lvl:Nat)(d:Option Nat)(K:St->Prop)(ts:List Tr)(u:Bool)(st':St):Prop :=
 K { Zk st' (lvl,keyOf d) (.ar k [ts] u 1 0) with env:=ptd d (.hd (lvl,keyOf d) [] 0 1 none 1) st'.env }
theorem ZoR{k:Nat}{ts:List Tr}{u:Bool}:kbw k lvl d K ts u ⟨lvl,env,loc,out⟩=K ⟨lvl,ptd d (.hd (lvl,keyOf d) [] 0 1 none 1) env,ptO (keyOf d) (.ar k [ts] u 1 0) loc,out⟩:=by
 simp only[kbw,Xf]
def bw2(v:Option (List IV))(k n:Nat)(d:Option Nat)(loc:List (Nat×Ob))(lvl:Nat)(st:St)(K:St->Prop):Prop :=
 match v with
 | some l=>n=1/\l.length=k/\freshK (keyOf d) loc 1/\ZcZ l st (kbw k lvl d K)
 | none=>False
theorem ZoS{k n:Nat}{z:List Value}{x:X}:ew C d ⟨lvl,env,loc,out⟩ K (.bw k n z [(0,x)])=bw2 (cellsOf (xv env x)) k n d loc lvl ⟨lvl,env,loc,out⟩ K:=by
 simp only[ew]
 generalize cellsOf (xv env x)=v
 cases v with
 | none=>simp [bw2]
 | some l=>rfl
theorem ZoT{k n:Nat}{l:List IV}:bw2 (some l) k n d loc lvl st K=(n=1/\l.length=k/\freshK (keyOf d) loc 1/\ZcZ l st (kbw k lvl d K)):=(rfl)
def kmv(r:List IV)(F:List Tr->Bool->St->Prop)(t:Tr)(a:Bool)(st':St):Prop:=ZcZ r st' fun ts b st'' => F (t::ts) (a&&b) st''
def kmc(t:Tr)(a:Bool)(F:List Tr->Bool->St->Prop)(ts:List Tr)(b:Bool)(st'':St):Prop:=F (t::ts) (a&&b) st''
section mv
variable {r:List IV} {F:List Tr->Bool->St->Prop} {F1:Tr->Bool->St->Prop}
theorem ZoU{t:Tr}{a:Bool}:kmv r F t a st=ZcZ r st (kmc t a F):=(rfl)
theorem ZoV{t:Tr}{a:Bool}{ts:List Tr}{b:Bool}:kmc t a F ts b st=F (t::ts) (a&&b) st:=(rfl)
theorem Zil:ZcZ [] st F=F [] true st:=(rfl)
theorem Zim{x:IV}:ZcZ (x::r) st F=mvc st x (kmv r F):=(rfl)
theorem ZkJ{y:Value}:mvc st (.tr (.v y)) F1=F1 (.v y) true st:=(rfl)
theorem ZkK{es:Row}:mvc st (.tr (.sl es)) F1=F1 (.sl es) false st:=(rfl)
theorem ZkL:mvc st (.cs []) F1=F1 (.sl []) true st:=(rfl)
def mv5(o:Option Ob)(len s2:Nat)(st1:St)(F1:Tr->Bool->St->Prop):Prop :=
 match o with
 | some (.ar _ zs u2 hw2 _)=>s2=hw2/\len=zs.length/\F1 (.sl zs) u2 st1
 | _=>False
theorem ZkM{key len s2:Nat}:mvc ⟨lvl,env,loc,out⟩ (.hd (lvl,key) [] 0 len none s2) F1=mv5 (lkO key loc) len s2 (Jg (lvl,key) ⟨lvl,env,loc,out⟩) F1:=by
 simp only[mvc]
 rw[show (⟨lvl,env,loc,out⟩:St).sto (lvl,key)=lkO key loc from Vu]
 generalize lkO key loc=o
 apply propext
 constructor
 ·rintro⟨_,h3⟩
  cases o with
  | none=>exact h3
  | some ob=>cases ob <;> exact h3
 ·intro h3
  refine⟨trivial,?_⟩
  cases o with
  | none=>exact h3
  | some ob=>cases ob <;> exact h3
theorem ZoW{k2:Nat}{zs:Row}{u2:Bool}{hw2 ver2 len s2:Nat}:mv5 (some (.ar k2 zs u2 hw2 ver2)) len s2 st F1=(s2=hw2/\len=zs.length/\F1 (.sl zs) u2 st):=(rfl)
end mv
def ZkN:IV->Prop
 | .hd _ [] 0 _ none _=>True
 | _=>False
theorem ZkO{id:Oid}{len s:Nat}:ZkN (.hd id [] 0 len none s)=True:=(rfl)
def Zhk:List IV->Prop
 | []=>True
 | .tr (.v _)::r=>Zhk r
 | _=>False
theorem Zin:Zhk []=True:=(rfl)
theorem Zio{y:Value}{r:List IV}:Zhk (.tr (.v y)::r)=Zhk r:=(rfl)
def smp(p:IV)(l:Option (List IV)):Prop :=
 match p with
 | .ab .. => True
 | .ae .. => l≠some []/\Zhk (l.getD [])
 | _=>False
theorem ZkP{id:Oid}{off:Nat}{l:Option (List IV)}:smp (.ab id off) l=True:=(rfl)
theorem ZkQ{id:Oid}{p:Pth}{i f s:Nat}{x:IV}{r:List IV}:smp (.ae id p i f s) (some (x::r))=Zhk (x::r):=by simp [smp]
theorem Zd2{id:Oid}{p:Pth}{i s k:Nat}{u:Bool}{hw ver:Nat}:∀(l:List IV) (f:Nat) (es:Row) (st0:St) (K:St->Prop),Zhk l->st0.sto id=some (.ar k es u hw ver)->ZaW id p i s f l st0 K->stq p i f l es (fun es' => K (Zk st0 id (.ar k es' u hw ver)))\/l=[]
 | [],f,es,st0,K,_,_,h=>.inr rfl
 | x::r,f,es,st0,K,ha,hs,h=>by
  refine .inl ?_
  simp only[ZaW,stc] at h
  rw[hs] at h
  obtain⟨es',hg,hst,e,hi,t0,hf,h⟩:=h
  cases x with
  | tr t =>
   cases t with
   | v y =>
    obtain⟨hsc,h⟩:=h
    simp only[stq]
    refine⟨es',hg,e,hi,t0,hf,hsc,?_⟩
    have hs1:(Zk st0 id (.ar k (YG es p i f (.v y)) u hw ver)).sto id=some (.ar k (YG es p i f (.v y)) u hw ver):=by rw[Zz];unfold ZP;rw[if_pos rfl]
    rcases Zd2 r (f+1) _ _ K ha hs1 h with g | g
    ·simp only[QB] at g
     exact g
    ·subst g
     exact h
   | sl=>cases ha
  | _=>cases ha
theorem Zq6{m:Nat}{p x:X}:op2 C d (.s0 m p x) ⟨lvl,env,loc,out⟩ K=(smp (xv env p) (cellsOf (xv env x))/\op2 C d (.st m p x) ⟨lvl,env,loc,out⟩ K):=by
 rw[ZC rfl,ZC rfl]
 simp only[ew,XT]
 generalize cellsOf (xv env x)=v
 generalize xv env p=q
 apply propext
 constructor
 ·rintro⟨h0,h⟩
  split at h <;> try contradiction
  rename_i l
  obtain⟨h1,h⟩:=h
  split at h <;> try contradiction
  ·exact⟨trivial,h0,h1,h⟩
  ·rename_i id p i f s
   split at h <;> try contradiction
   rename_i k es u hw ver hs
   obtain⟨g1,g2,g3⟩:=h
   refine⟨⟨by simpa using g1,?_⟩,h0,h1,Zba g2 l f es _ K hs g3 (fun e=>absurd e g1)⟩
   have:∀(l:List IV) (f:Nat) (es:Row) (K:Row->Prop),stq p i f l es K->Zhk l:=by
    intro l
    induction l with
    | nil=>intros;trivial
    | cons x r ih =>
     intro f es K h
     simp only[stq] at h
     obtain⟨_,_,_,_,_,_,_,h⟩:=h
     split at h <;> try contradiction
     exact ih _ _ _ h
   exact this _ _ _ _ g3
 ·rintro⟨h3,h0,h⟩
  refine⟨h0,?_⟩
  split at h <;> try contradiction
  rename_i l
  obtain⟨h1,h⟩:=h
  refine⟨h1,?_⟩
  split at h <;> try contradiction
  ·exact h
  ·rename_i id p i f s
   obtain⟨g1,g2⟩:=h3
   cases l with
   | nil=>exact absurd rfl g1
   | cons y r =>
    have h':=h
    simp only[ZaW,stc] at h'
    split at h' <;> try contradiction
    rename_i k es u hw ver hs
    refine⟨by simp,h'.choose_spec.2.1,?_⟩
    rcases Zd2 _ _ _ _ K g2 hs h with g | g
    ·exact g
    ·cases g
theorem Zq7{k:Nat}{x y:X}:op2 C d (.a0 k x y) ⟨lvl,env,loc,out⟩ K=(ZkN (xv env x)/\op2 C d (.ap k 0 x y) ⟨lvl,env,loc,out⟩ K):=by
 rw[ZC rfl,ZC rfl]
 apply propext
 constructor
 ·intro he
  refine⟨?_,ZdO he⟩
  simp only[ew,XT] at he
  split at he <;> try contradiction
  rename_i hx
  rw[hx];trivial
 ·rintro⟨h1,h⟩
  generalize hq:xv env x=q at h1
  unfold ZkN at h1
  split at h1 <;> try contradiction
  rename_i id len s
  have go:∀ items:Row,ScR items->QL d k x loc items true ⟨lvl,env,loc,out⟩ K->match ZG lvl loc out id with
   | some (.ar k' es u hw ver)=>k'=k/\s=hw/\len=es.length/\ScR items/\UnR k items/\len+items.length<=bigN /\
     K { Zk ⟨lvl,env,loc,out⟩ id (.ar k (es++items) u (max hw (len+items.length)) ver) with env:=ptd d (.hd id [] 0 (len+items.length) none (max hw (len+items.length))) env }
   | _=>False:=fun items hsc h=>by
   unfold QL at h
   obtain⟨g1,h⟩:=h
   simp only[hq] at h
   rw[show (⟨lvl,env,loc,out⟩:St).sto id=ZG lvl loc out id from rfl] at h
   generalize ZG lvl loc out id=o at h ⊢
   cases o with
   | none=>exact h
   | some ob =>
    cases ob with
    | bx=>exact h
    | ar k' es u hw ver =>
     simp only[Bool.and_true] at h
     exact⟨h.1,h.2.1,h.2.2.1,hsc,g1,h.2.2.2.1,h.2.2.2.2⟩
  simp only[ew,XT,ZcX] at h ⊢
  rw[hq]
  rw[show (⟨lvl,env,loc,out⟩:St).sto=ZG lvl loc out from rfl] at *
  split at h <;> try contradiction
  ·rename_i zs hy
   simp only[if_true] at h
   have:=go zs h.1 h.2
   rw[hy]
   exact this
  ·rename_i zs hy
   simp only[if_true] at h
   have:=go zs h.1 h.2
   rw[hy]
   exact this
  ·rename_i id2 p2 off2 len2 c2 s2 hy
   simp only[if_true] at h
   rw[hy]
   dsimp only
   unfold rdh at h ⊢
   generalize ZG lvl loc out id2=o3 at h ⊢
   cases o3 with
   | none=>exact h.elim
   | some ob3 =>
    cases ob3 with
    | bx=>exact h.elim
    | ar k3 es3 u3 hw3 ver3 =>
     obtain⟨es',q1,q2,q3,q4,q5⟩:=h
     have:=go _ q4 q5
     split at this <;> try contradiction
     rename_i hs
     show (match ZG lvl loc out id with
      | some (.ar k' es u hw ver)=>k'=k/\s=hw/\len=es.length/\∃ es',getp es3 p2=some es'/\YI p2 s2 hw3 ver3 u3/\off2+len2<=es'.length/\ScR (cut es' off2 len2)/\UnR k (cut es' off2 len2)/\len+(cut es' off2 len2).length<=bigN /\
        K { Zk ⟨lvl,env,loc,out⟩ id (.ar k (es++cut es' off2 len2) u (max hw (len+(cut es' off2 len2).length)) ver) with env:=ptd d (.hd id [] 0 (len+(cut es' off2 len2).length) none (max hw (len+(cut es' off2 len2).length))) env }
      | _=>False)
     rw[hs]
     exact⟨this.1,this.2.1,this.2.2.1,es',q1,q2,q3,this.2.2.2⟩
  ·exact absurd h.1 (by decide)
def ZlQ:IV->Prop
 | .tr (.sl _)=>True
 | .cs _=>True
 | _=>False
theorem Zip{es:Row}:ZlQ (.tr (.sl es))=True:=(rfl)
theorem Ziq{es:Row}:ZlQ (.cs es)=True:=(rfl)
theorem Zq8{k:Nat}{x y:X}:op2 C d (.a1 k x y) ⟨lvl,env,loc,out⟩ K=(ZkN (xv env x)/\ZlQ (xv env y)/\op2 C d (.ap k 1 x y) ⟨lvl,env,loc,out⟩ K):=by
 rw[ZC rfl,ZC rfl]
 apply propext
 constructor
 ·intro he
  refine⟨?_,?_,ZdP he⟩
  ·simp only[ew,XT] at he
   split at he <;> try contradiction
   rename_i hx
   rw[hx];trivial
  ·simp only[ew,XT] at he
   split at he <;> try contradiction
   split at he <;> try contradiction
   have h4:=he.2.2.2
   unfold ZiU at h4
   split at h4 <;> try contradiction
   ·rename_i hy;rw[hy];trivial
   ·rename_i hy;rw[hy];trivial
 ·rintro⟨h1,h2,h⟩
  generalize hq:xv env x=q at h1
  unfold ZkN at h1
  split at h1 <;> try contradiction
  rename_i id len s
  have go:∀ items:Row,QL d k x loc items false ⟨lvl,env,loc,out⟩ K->match ZG lvl loc out id with
   | some (.ar k' es u hw ver)=>k'=k/\s=hw/\len=es.length/\UnR k items/\len+items.length<=bigN /\
     K { Zk ⟨lvl,env,loc,out⟩ id (.ar k (es++items) false (max hw (len+items.length)) ver) with env:=ptd d (.hd id [] 0 (len+items.length) none (max hw (len+items.length))) env }
   | _=>False:=fun items h=>by
   unfold QL at h
   obtain⟨g1,h⟩:=h
   simp only[hq] at h
   rw[show (⟨lvl,env,loc,out⟩:St).sto id=ZG lvl loc out id from rfl] at h
   generalize ZG lvl loc out id=o at h ⊢
   cases o with
   | none=>exact h
   | some ob =>
    cases ob with
    | bx=>exact h
    | ar k' es u hw ver =>
     simp only[Bool.and_false] at h
     exact⟨h.1,h.2.1,h.2.2.1,g1,h.2.2.2.1,h.2.2.2.2⟩
  simp only[ew,XT,ZiU] at h ⊢
  rw[hq]
  rw[show (⟨lvl,env,loc,out⟩:St).sto=ZG lvl loc out from rfl] at *
  generalize hy:xv env y=yv at h h2 ⊢
  unfold ZlQ at h2
  split at h2 <;> try contradiction
  ·simp only[Nat.reduceEqDiff,if_false,true_and] at h
   exact go _ h
  ·simp only[Nat.reduceEqDiff,if_false,true_and] at h
   exact go _ h
def az1(x n:IV)(d:Option Nat)(k:Nat)(z:List Value)(st:St)(K:St->Prop):Prop :=
 match x with
 | .cs [] =>
  match n with
  | .tr (.v (.int .i64 m))=>0<m/\m<=bigN/\freshK (keyOf d) st.loc 1 /\
    K { Zk st (st.lvl,keyOf d) (.ar k (List.replicate m.toNat (z.map trv)) true m.toNat 0) with env:=ptd d (.hd (st.lvl,keyOf d) [] 0 m.toNat none m.toNat) st.env }
  | _=>False
 | _=>False
theorem Zq9{k:Nat}{z:List Value}{x n:X}:op2 C d (.az k z x n) ⟨lvl,env,loc,out⟩ K=az1 (xv env x) (xv env n) d k z ⟨lvl,env,loc,out⟩ K:=by
 rw[ZC rfl]
 rfl
theorem ZoX{k:Nat}{z:List Value}{m:Int}:az1 (.cs []) (.tr (.v (.int .i64 m))) d k z ⟨lvl,env,loc,out⟩ K=(0<m/\m<=bigN/\freshK (keyOf d) loc 1/\K ⟨lvl,ptd d (.hd (lvl,keyOf d) [] 0 m.toNat none m.toNat) env,ptO (keyOf d) (.ar k (List.replicate m.toNat (z.map trv)) true m.toNat 0) loc,out⟩):=by
 simp only[az1,Xf]
def tbx:IV->Prop
 | .ta _=>True
 | _=>False
theorem ZoY{cells:List Tr}:tbx (.ta cells)=True:=(rfl)
theorem Zra{m:Option Nat}{p:X}:op2 C d (.lt m p) ⟨lvl,env,loc,out⟩ K=(tbx (xv env p)/\op2 C d (.ld m p) ⟨lvl,env,loc,out⟩ K):=by
 cases m <;> (
  rw[ZU rfl,ZU rfl]
  simp only[ev]
  generalize hx:xv env p=q
  cases q <;> simp [tbx])
def av4(o:Option Ob)(id:Oid)(es:Row)(hw ver len off2 len2 s2 k:Nat)(d:Option Nat)(st:St)(K:St->Prop):Prop :=
 match o with
 | some (.ar _ es2 false hw2 _)=>s2=hw2/\off2+len2<=es2.length/\UnR k (cut es2 off2 len2)/\len+(cut es2 off2 len2).length<=bigN /\
   K { Zk st id (.ar k (es++cut es2 off2 len2) false (max hw (len+(cut es2 off2 len2).length)) ver) with env:=ptd d (.hd id [] 0 (len+(cut es2 off2 len2).length) none (max hw (len+(cut es2 off2 len2).length))) st.env }
 | _=>False
def av3(y:IV)(id:Oid)(es:Row)(hw ver len k:Nat)(d:Option Nat)(st:St)(K:St->Prop):Prop :=
 match y with
 | .hd id2 [] off2 len2 _ s2=>av4 (st.sto id2) id es hw ver len off2 len2 s2 k d st K
 | _=>False
def av2(o:Option Ob)(y:IV)(id:Oid)(len s k:Nat)(d:Option Nat)(st:St)(K:St->Prop):Prop :=
 match o with
 | some (.ar k' es _ hw ver)=>k'=k/\s=hw/\len=es.length/\av3 y id es hw ver len k d st K
 | _=>False
def av1(x y:IV)(k:Nat)(d:Option Nat)(st:St)(K:St->Prop):Prop :=
 match x with
 | .hd id [] 0 len none s=>av2 (st.sto id) y id len s k d st K
 | _=>False
theorem Zrb{k:Nat}{x y:X}:op2 C d (.a2 k x y) ⟨lvl,env,loc,out⟩ K=av1 (xv env x) (xv env y) k d ⟨lvl,env,loc,out⟩ K:=by
 rw[ZC rfl]
 rfl
theorem ZoZ{id:Oid}{len s k:Nat}{y:IV}:av1 (.hd id [] 0 len none s) y k d ⟨lvl,env,loc,out⟩ K=av2 (ZG lvl loc out id) y id len s k d ⟨lvl,env,loc,out⟩ K:=(rfl)
theorem Zo0{k' hw ver len s k:Nat}{es:Row}{u:Bool}{y:IV}{id:Oid}:av2 (some (.ar k' es u hw ver)) y id len s k d st K=(k'=k/\s=hw/\len=es.length/\av3 y id es hw ver len k d st K):=(rfl)
theorem Zo1{id id2:Oid}{es:Row}{hw ver len k off2 len2 s2:Nat}{c2:Option Nat}:av3 (.hd id2 [] off2 len2 c2 s2) id es hw ver len k d ⟨lvl,env,loc,out⟩ K=av4 (ZG lvl loc out id2) id es hw ver len off2 len2 s2 k d ⟨lvl,env,loc,out⟩ K:=(rfl)
theorem Zo2{key:Nat}{es es2:Row}{k2 hw ver len off2 len2 s2 k hw2 ver2:Nat}:av4 (some (.ar k2 es2 false hw2 ver2)) (lvl,key) es hw ver len off2 len2 s2 k d ⟨lvl,env,loc,out⟩ K=(s2=hw2/\off2+len2<=es2.length/\UnR k (cut es2 off2 len2)/\len+(cut es2 off2 len2).length<=bigN /\
   K ⟨lvl,ptd d (.hd (lvl,key) [] 0 (len+(cut es2 off2 len2).length) none (max hw (len+(cut es2 off2 len2).length))) env,ptO key (.ar k (es++cut es2 off2 len2) false (max hw (len+(cut es2 off2 len2).length)) ver) loc,out⟩):=by
 simp only[av4,Xf]
def abx:IV->Prop
 | .ab .. => True
 | _=>False
theorem Zo3{id:Oid}{off:Nat}:abx (.ab id off)=True:=(rfl)
theorem Zrc{m:Option Nat}{p:X}:op2 C d (.lb m p) ⟨lvl,env,loc,out⟩ K=(abx (xv env p)/\op2 C d (.ld m p) ⟨lvl,env,loc,out⟩ K):=by
 cases m <;> (
  rw[ZU rfl,ZU rfl]
  simp only[ev]
  generalize hx:xv env p=q
  cases q <;> simp [abx])
def tcs:IV->Prop
 | .tr (.sl _)=>True
 | .cs _=>True
 | _=>False
theorem ZkR{es:Row}:tcs (.tr (.sl es))=True:=(rfl)
theorem ZkS{es:Row}:tcs (.cs es)=True:=(rfl)
theorem Zrd{k:Nat}{x:X}{lo hi mx:Option X}:op2 C d (.sy k x lo hi mx) ⟨lvl,env,loc,out⟩ K=(tcs (xv env x)/\op2 C d (.sx k x lo hi mx) ⟨lvl,env,loc,out⟩ K):=by
 rw[ZU rfl,ZU rfl]
 simp only[ev]
 generalize hx:xv env x=q
 cases q with
 | tr t =>
  cases t with
  | v=>simp [tcs]
  | sl es=>simp only[tcs,true_and]
 | cs es=>simp only[tcs,true_and]
 | _=>simp only[tcs,false_and]
def swx(L:Sto)(k:Nat):IV->Prop
 | .tr (.sl _)=>True
 | .cs _=>True
 | .hd id [] _ _ _ _=>wid L id [] k
 | _=>False
theorem ZkT{L:Sto}{k:Nat}{es:Row}:swx L k (.tr (.sl es))=True:=(rfl)
theorem ZkU{L:Sto}{k:Nat}{es:Row}:swx L k (.cs es)=True:=(rfl)
theorem ZkV{L:Sto}{k:Nat}{id:Oid}{off len s:Nat}{cap:Option Nat}:swx L k (.hd id [] off len cap s)=wid L id [] k:=(rfl)
def Zqc(m:Nat):Option Ob->Prop
 | some (.ar k _ _ _ _)=>k=m
 | _=>False
theorem ZkW{m k hw ver:Nat}{es:Row}{u:Bool}:Zqc m (some (.ar k es u hw ver))=(k=m):=(rfl)
theorem ZkX{key m:Nat}:wid (ZG lvl loc out) (lvl,key) [] m=Zqc m (lkO key loc):=by
 unfold wid
 rw[Vu]
 cases lkO key loc with
 | none=>rfl
 | some ob=>cases ob <;> rfl
theorem Zre{k:Nat}{x:X}{lo hi mx:Option X}:op2 C d (.sw k x lo hi mx) ⟨lvl,env,loc,out⟩ K=(swx (ZG lvl loc out) k (xv env x)/\op2 C d (.sx k x lo hi mx) ⟨lvl,env,loc,out⟩ K):=by
 rw[ZU rfl,ZU rfl]
 simp only[ev]
 generalize xv env x=q
 cases q with
 | tr t =>
  cases t with
  | v=>simp [swx]
  | sl es=>simp only[swx,true_and]
 | cs es=>simp only[swx,true_and]
 | hd id p off len cap s =>
  cases p with
  | nil =>
   simp only[swx]
   exact propext ⟨fun⟨hw,h⟩=>⟨hw,Ym (fun a h=>Ym (fun b h=>⟨h.1,h.2.1,Ym (fun m g=>⟨g.1,g.2.1,hw,g.2.2⟩) h.2.2⟩) h) h⟩,fun⟨hw,h⟩=>⟨hw,Ym (fun a h=>Ym (fun b h=>⟨h.1,h.2.1,Ym (fun m g=>⟨g.1,g.2.1,g.2.2.2⟩) h.2.2⟩) h) h⟩⟩
  | cons c r=>simp [swx]
 | _=>simp [swx]
theorem Zrf{k:Nat}{x i:X}:op2 C d (.it k x i) ⟨lvl,env,loc,out⟩ K=(tcs (xv env x)/\op2 C d (.ia k x i) ⟨lvl,env,loc,out⟩ K):=by
 rw[ZU rfl,ZU rfl]
 simp only[ev]
 generalize xv env x=q
 generalize xv env i=qi
 cases q with
 | tr t =>
  cases t with
  | v=>simp only[tcs,false_and];split <;> simp
  | sl es=>simp only[tcs,true_and]
 | cs es=>simp only[tcs,true_and]
 | _=>simp only[tcs,false_and];split <;> simp
def apx(v:IV)(d:Option Nat)(k:Nat)(loc0:List (Nat×Ob))(items:Row)(ui:Bool)(st1:St)(K:St->Prop):Prop :=
 UnR k items /\
 match v with
 | .cs zs=>(zs=[]\/items≠[])/\zs.length+items.length<=bigN/\UnR k zs/\freshK (keyOf d) loc0 1/\(zs=[]\/ui=false\/ScR zs) /\
  K { Zk st1 (st1.lvl,keyOf d) (.ar k (zs++items) ui (zs.length+items.length) 0) with env:=ptd d (.hd (st1.lvl,keyOf d) [] 0 (zs.length+items.length) none (zs.length+items.length)) st1.env }
 | .hd id [] 0 len none s =>
  match st1.sto id with
  | some (.ar k' es u hw ver)=>k'=k/\s=hw/\len=es.length/\len+items.length<=bigN /\
   K { Zk st1 id (.ar k (es++items) (u&&ui) (max hw (len+items.length)) ver) with env:=ptd d (.hd id [] 0 (len+items.length) none (max hw (len+items.length))) st1.env }
  | _=>False
 | _=>False
theorem ZkY{k:Nat}{x:X}{loc0:List (Nat×Ob)}{items:Row}{ui:Bool}:QL d k x loc0 items ui ⟨lvl,env,loc,out⟩ K=apx (xv env x) d k loc0 items ui ⟨lvl,env,loc,out⟩ K:=(rfl)
theorem ZkZ{k:Nat}{loc0:List (Nat×Ob)}{items zs:Row}{ui:Bool}:apx (.cs zs) d k loc0 items ui ⟨lvl,env,loc,out⟩ K=(UnR k items/\(zs=[]\/items≠[])/\zs.length+items.length<=bigN/\UnR k zs/\freshK (keyOf d) loc0 1/\(zs=[]\/ui=false\/ScR zs) /\
  K ⟨lvl,ptd d (.hd (lvl,keyOf d) [] 0 (zs.length+items.length) none (zs.length+items.length)) env,ptO (keyOf d) (.ar k (zs++items) ui (zs.length+items.length) 0) loc,out⟩):=by
 simp only[apx,Xf]
def aph(o:Option Ob)(d:Option Nat)(k:Nat)(id:Oid)(len s:Nat)(items:Row)(ui:Bool)(st1:St)(K:St->Prop):Prop :=
 match o with
 | some (.ar k' es u hw ver)=>k'=k/\s=hw/\len=es.length/\len+items.length<=bigN /\
   K { Zk st1 id (.ar k (es++items) (u&&ui) (max hw (len+items.length)) ver) with env:=ptd d (.hd id [] 0 (len+items.length) none (max hw (len+items.length))) st1.env }
 | _=>False
theorem Zk0{k key len s:Nat}{loc0:List (Nat×Ob)}{items:Row}{ui:Bool}:apx (.hd (lvl,key) [] 0 len none s) d k loc0 items ui ⟨lvl,env,loc,out⟩ K=(UnR k items/\aph (lkO key loc) d k (lvl,key) len s items ui ⟨lvl,env,loc,out⟩ K):=by
 simp only[apx]
 rw[show (⟨lvl,env,loc,out⟩:St).sto (lvl,key)=lkO key loc from Vu]
 rfl
theorem Zo4{k k' key len s:Nat}{items es:Row}{u ui:Bool}{hw ver:Nat}:aph (some (.ar k' es u hw ver)) d k (lvl,key) len s items ui ⟨lvl,env,loc,out⟩ K=(k'=k/\s=hw/\len=es.length/\len+items.length<=bigN /\
   K ⟨lvl,ptd d (.hd (lvl,key) [] 0 (len+items.length) none (max hw (len+items.length))) env,ptO key (.ar k (es++items) (u&&ui) (max hw (len+items.length)) ver) loc,out⟩):=by
 simp only[aph,Xf]
def ap2(C:Zh)(d:Option Nat)(k md:Nat)(x:X)(y:IV)(st:St)(K:St->Prop):Prop :=
 match y with
 | .tr (.sl es)=>if md=0 then ScR es/\QL d k x st.loc es true st K else md=1/\QL d k x st.loc es false st K
 | .cs es=>if md=0 then ScR es/\QL d k x st.loc es true st K else md=1/\QL d k x st.loc es false st K
 | .hd id2 p2 off2 len2 c2 s2 =>
   if md=2 then
    p2=[]/\off2=0/\c2=none/\id2.1=st.lvl /\
    match st.sto id2 with
    | some (.ar _ zs u2 hw2 _)=>s2=hw2/\len2=zs.length/\QL d k x st.loc zs u2 (Jg id2 st) K
    | _=>False
   else if md=0 then
    rdh st.sto id2 p2 s2 fun es _ _=>off2+len2<=es.length/\ScR (cut es off2 len2)/\QL d k x st.loc (cut es off2 len2) true st K
   else md=1/\p2=[] /\
    match st.sto id2 with
    | some (.ar k2 es _ hw2 ver2)=>s2=hw2/\off2+len2<=es.length/\QL d k x st.loc (cut es off2 len2) false (Zk st id2 (.ar k2 es false hw2 ver2)) K
    | _=>False
 | .sv id2=>md=2/\id2.1=st.lvl /\
   match st.sto id2 with
   | some (.bx l)=>l.length=k/\ZcZ l st fun ts u st' => QL d k x st.loc [ts] u (Jg id2 st') K
   | _=>False
 | _=>False
theorem Zrg{k md:Nat}{x y:X}:op2 C d (.ap k md x y) ⟨lvl,env,loc,out⟩ K=ap2 C d k md x (xv env y) ⟨lvl,env,loc,out⟩ K:=by
 rw[ZC rfl]
 rfl
section ap
variable {k:Nat} {x:X}
theorem Zo5{es:Row}:ap2 C d k 0 x (.tr (.sl es)) ⟨lvl,env,loc,out⟩ K=(ScR es/\QL d k x loc es true ⟨lvl,env,loc,out⟩ K):=(rfl)
theorem Zo6{es:Row}:ap2 C d k 1 x (.tr (.sl es)) ⟨lvl,env,loc,out⟩ K=QL d k x loc es false ⟨lvl,env,loc,out⟩ K:=by simp [ap2]
theorem Zk1{es:Row}:ap2 C d k 0 x (.cs es) ⟨lvl,env,loc,out⟩ K=(ScR es/\QL d k x loc es true ⟨lvl,env,loc,out⟩ K):=(rfl)
theorem Zk2{es:Row}:ap2 C d k 1 x (.cs es) ⟨lvl,env,loc,out⟩ K=QL d k x loc es false ⟨lvl,env,loc,out⟩ K:=by simp [ap2]
def kap(d:Option Nat)(k:Nat)(x:X)(off2 len2:Nat)(st:St)(K:St->Prop)(es:Row)(_u:Bool)(_v:Nat):Prop:=off2+len2<=es.length/\ScR (cut es off2 len2)/\QL d k x st.loc (cut es off2 len2) true st K
theorem Zo7{off2 len2:Nat}{es:Row}{u:Bool}{v:Nat}:kap d k x off2 len2 ⟨lvl,env,loc,out⟩ K es u v=(off2+len2<=es.length/\ScR (cut es off2 len2)/\QL d k x loc (cut es off2 len2) true ⟨lvl,env,loc,out⟩ K):=(rfl)
theorem Zk3{id2:Oid}{p2:Pth}{off2 len2 s2:Nat}{c2:Option Nat}:ap2 C d k 0 x (.hd id2 p2 off2 len2 c2 s2) ⟨lvl,env,loc,out⟩ K=rd3 (ZG lvl loc out id2) p2 s2 (kap d k x off2 len2 ⟨lvl,env,loc,out⟩ K):=by
 rw[<-Xe]
 rfl
def ap5(o:Option Ob)(d:Option Nat)(k:Nat)(x:X)(len2 s2:Nat)(loc0:List (Nat×Ob))(st1:St)(K:St->Prop):Prop :=
 match o with
 | some (.ar _ zs u2 hw2 _)=>s2=hw2/\len2=zs.length/\QL d k x loc0 zs u2 st1 K
 | _=>False
theorem Zk4{key:Nat}{p2:Pth}{off2 len2 s2:Nat}{c2:Option Nat}:ap2 C d k 2 x (.hd (lvl,key) p2 off2 len2 c2 s2) ⟨lvl,env,loc,out⟩ K=(p2=[]/\off2=0/\c2=none/\ap5 (lkO key loc) d k x len2 s2 loc (Jg (lvl,key) ⟨lvl,env,loc,out⟩) K):=by
 simp only[ap2,if_true]
 rw[show (⟨lvl,env,loc,out⟩:St).sto (lvl,key)=lkO key loc from Vu]
 generalize lkO key loc=o
 apply propext
 constructor
 ·rintro⟨h1,h2,h3,_,h5⟩
  refine⟨h1,h2,h3,?_⟩
  cases o with
  | none=>exact h5
  | some ob=>cases ob <;> exact h5
 ·rintro⟨h1,h2,h3,h5⟩
  refine⟨h1,h2,h3,trivial,?_⟩
  cases o with
  | none=>exact h5
  | some ob=>cases ob <;> exact h5
theorem Zo8{k2:Nat}{zs:Row}{u2:Bool}{hw2 ver2 len2 s2:Nat}{loc0:List (Nat×Ob)}{st1:St}:ap5 (some (.ar k2 zs u2 hw2 ver2)) d k x len2 s2 loc0 st1 K=(s2=hw2/\len2=zs.length/\QL d k x loc0 zs u2 st1 K):=(rfl)
def Zo9(d:Option Nat)(k:Nat)(x:X)(loc0:List (Nat×Ob))(id2:Oid)(K:St->Prop)(ts:List Tr)(u:Bool)(st':St):Prop:=QL d k x loc0 [ts] u (Jg id2 st') K
theorem Zk5{loc0:List (Nat×Ob)}{id2:Oid}{ts:List Tr}{u:Bool}:Zo9 d k x loc0 id2 K ts u st=QL d k x loc0 [ts] u (Jg id2 st) K:=(rfl)
def aps(o:Option Ob)(d:Option Nat)(k:Nat)(x:X)(loc0:List (Nat×Ob))(id2:Oid)(st1:St)(K:St->Prop):Prop :=
 match o with
 | some (.bx l)=>l.length=k/\ZcZ l st1 (Zo9 d k x loc0 id2 K)
 | _=>False
theorem Zpa{l:List IV}{loc0:List (Nat×Ob)}{id2:Oid}{st1:St}:aps (some (.bx l)) d k x loc0 id2 st1 K=(l.length=k/\ZcZ l st1 (Zo9 d k x loc0 id2 K)):=(rfl)
theorem Zk6{key:Nat}:ap2 C d k 2 x (.sv (lvl,key)) ⟨lvl,env,loc,out⟩ K=aps (lkO key loc) d k x loc (lvl,key) ⟨lvl,env,loc,out⟩ K:=by
 simp only[ap2]
 rw[show (⟨lvl,env,loc,out⟩:St).sto (lvl,key)=lkO key loc from Vu]
 generalize lkO key loc=o
 apply propext
 constructor
 ·rintro⟨_,_,h⟩
  cases o with
  | none=>exact h
  | some ob=>cases ob <;> exact h
 ·intro h
  refine⟨trivial,trivial,?_⟩
  cases o with
  | none=>exact h
  | some ob=>cases ob <;> exact h
end ap
theorem Zir{L:Sto}{F:List IV->Prop}:∀{l:List Tr},ZK L (l.map .tr) F=F (l.map .tr)
 | []=>ZhT
 | t::r=>by rw[List.map_cons,Zj1,Zir,ZjX]
theorem Zbp{Pd:Oid->Prop}:∀{l:List Tr},Zf Pd (l.map .tr)=True
 | []=>rfl
 | t::r=>by simp only[List.map_cons,Zf,men,Zbp,and_self]
def nlf(v:IV)(neg:Bool)(lvl:Nat)(env:List (Nat×IV))(loc:List (Nat×Ob))(out:Sto)(d:Option Nat)(K:St->Prop):Prop :=
 match v with
 | .tr (.sl es)=>K ⟨lvl,ptd d (iB neg) env,loc,out⟩/\(es=[]->K ⟨lvl,ptd d (iB !neg) env,loc,out⟩)
 | .cs es=>K ⟨lvl,ptd d (iB neg) env,loc,out⟩/\(es=[]->K ⟨lvl,ptd d (iB !neg) env,loc,out⟩)
 | _=>False
theorem Zrh{C:Zh}{d:Option Nat}{neg:Bool}{x:X}{lvl:Nat}{env:List (Nat×IV)}{loc:List (Nat×Ob)}{out:Sto}{K:St->Prop}:op2 C d (.nl neg x) ⟨lvl,env,loc,out⟩ K=nlf (xv env x) neg lvl env loc out d K:=by
 rw[ZC rfl]
 rfl
theorem Zpb{neg:Bool}{es:Row}{d:Option Nat}{lvl:Nat}{env:List (Nat×IV)}{loc:List (Nat×Ob)}{out:Sto}{K:St->Prop}:nlf (.tr (.sl es)) neg lvl env loc out d K=(K ⟨lvl,ptd d (iB neg) env,loc,out⟩/\(es=[]->K ⟨lvl,ptd d (iB !neg) env,loc,out⟩)):=(rfl)
theorem Zpc{neg:Bool}{es:Row}{d:Option Nat}{lvl:Nat}{env:List (Nat×IV)}{loc:List (Nat×Ob)}{out:Sto}{K:St->Prop}:nlf (.cs es) neg lvl env loc out d K=(K ⟨lvl,ptd d (iB neg) env,loc,out⟩/\(es=[]->K ⟨lvl,ptd d (iB !neg) env,loc,out⟩)):=(rfl)
section row
variable {C:Zh} {d:Option Nat} {x y hi:X} {lvl:Nat} {env:List (Nat×IV)} {loc:List (Nat×Ob)} {out:Sto} {K:St->Prop} {st:St}
def Zb7(d:Option Nat)(x:IV)(st:St)(K:St->Prop):Prop:=K { st with env:=ptd d x st.env }
theorem Zk7{v:IV}:Zb7 d v ⟨lvl,env,loc,out⟩ K=K ⟨lvl,ptd d v env,loc,out⟩:=(rfl)
theorem U2{v:IV}{id:Oid}{ob:Ob}:Zb7 d v (Zk st id ob) K=K { Zk st id ob with env:=ptd d v st.env }:=by
 unfold Zb7
 rw[YS]
def cpf(v:IV)(lvl:Nat)(env:List (Nat×IV))(loc:List (Nat×Ob))(out:Sto)(d:Option Nat)(K:St->Prop):Prop :=
 match v with
 | .cs es=>K ⟨lvl,ptd d (iI es.length) env,loc,out⟩
 | _=>False
theorem Zri:op2 C d (.cp x) ⟨lvl,env,loc,out⟩ K=cpf (xv env x) lvl env loc out d K:=by
 rw[ZC rfl]
 rfl
theorem Zpd{es:Row}:cpf (.cs es) lvl env loc out d K=K ⟨lvl,ptd d (iI es.length) env,loc,out⟩:=(rfl)
def shg(o:Option Ob)(id:Oid)(m:Int)(len s k:Nat)(d:Option Nat)(st:St)(K:St->Prop):Prop :=
 match o with
 | some (.ar k2 es u hw ver)=>k2=k/\s=hw/\0<=m/\m.toNat<=len/\len<=es.length/\Zb7 d (.hd id [] 0 m.toNat none hw) (Zk st id (.ar k2 (es.take m.toNat) u hw (ver+1))) K
 | _=>False
def shf(v hv:IV)(k:Nat)(d:Option Nat)(st:St)(K:St->Prop):Prop :=
 match v with
 | .cs es =>
  match hv with
  | .tr (.v (.int _ m))=>m=es.length/\UnR k es/\Zb7 d (.cs es) st K
  | _=>False
 | .hd id p off len cap s =>
  match hv with
  | .tr (.v (.int _ m))=>p=[]/\off=0/\cap=none/\shg (st.sto id) id m len s k d st K
  | _=>False
 | _=>False
theorem Zrj{k:Nat}:op2 C d (.sh k x hi) ⟨lvl,env,loc,out⟩ K=shf (xv env x) (xv env hi) k d ⟨lvl,env,loc,out⟩ K:=by
 rw[ZC rfl]
 simp only[ew]
 generalize xv env x=v
 cases v <;> try rfl
 rename_i id p off len cap s
 generalize xv env hi=hv
 cases hv <;> try rfl
 rename_i t
 cases t <;> try rfl
 rename_i q
 cases q <;> try rfl
 simp only[shf,shg]
 generalize (⟨lvl,env,loc,out⟩:St).sto id=o
 cases o with
 | none=>simp
 | some ob =>
  cases ob with
  | bx=>simp
  | ar k2 es u hw ver=>simp only[U2]
theorem Zpe{id:Oid}{len s k:Nat}{kk:IntKind}{m:Int}:shf (.hd id [] 0 len none s) (.tr (.v (.int kk m))) k d ⟨lvl,env,loc,out⟩ K=shg (ZG lvl loc out id) id m len s k d ⟨lvl,env,loc,out⟩ K:=by
 simp only[shf,true_and]
 rfl
theorem Zpf{es:Row}{k:Nat}{kk:IntKind}{m:Int}:shf (.cs es) (.tr (.v (.int kk m))) k d ⟨lvl,env,loc,out⟩ K=(m=es.length/\UnR k es/\Zb7 d (.cs es) ⟨lvl,env,loc,out⟩ K):=(rfl)
theorem Zpg{id:Oid}{len s k k2 hw ver:Nat}{es:Row}{u:Bool}{m:Int}:shg (some (.ar k2 es u hw ver)) id m len s k d st K=(k2=k/\s=hw/\0<=m/\m.toNat<=len/\len<=es.length/\Zb7 d (.hd id [] 0 m.toNat none hw) (Zk st id (.ar k2 (es.take m.toNat) u hw (ver+1))) K):=(rfl)
def fzg(o:Option Ob)(len s:Nat)(d:Option Nat)(st1:St)(K:St->Prop):Prop :=
 match o with
 | some (.ar _ zs _ hw _)=>s=hw/\len=zs.length/\Zb7 d (.tr (.sl zs)) st1 K
 | _=>False
def fzf(v:IV)(d:Option Nat)(st:St)(K:St->Prop):Prop :=
 match v with
 | .hd id [] 0 len none s=>id.1=st.lvl/\fzg (st.sto id) len s d (Jg id st) K
 | _=>False
theorem Zrk:op2 C d (.fz x) ⟨lvl,env,loc,out⟩ K=fzf (xv env x) d ⟨lvl,env,loc,out⟩ K:=by
 rw[ZC rfl]
 simp only[ew]
 generalize xv env x=v
 unfold fzf
 split
 ·rename_i id len s
  simp only[fzg]
  generalize (⟨lvl,env,loc,out⟩:St).sto id=o
  cases o with
  | none=>rfl
  | some ob=>cases ob <;> rfl
 ·rename_i hv
  split
  ·exact(hv _ _ _ rfl).elim
  ·rfl
theorem Zph{key len s:Nat}:fzf (.hd (lvl,key) [] 0 len none s) d ⟨lvl,env,loc,out⟩ K=fzg (lkO key loc) len s d (Jg (lvl,key) ⟨lvl,env,loc,out⟩) K:=by
 simp only[fzf,true_and]
 rw[show (⟨lvl,env,loc,out⟩:St).sto (lvl,key)=lkO key loc from Vu]
theorem Zpi{len s k hw ver:Nat}{zs:Row}{u:Bool}:fzg (some (.ar k zs u hw ver)) len s d st K=(s=hw/\len=zs.length/\Zb7 d (.tr (.sl zs)) st K):=(rfl)
def drp(o:Option Ob)(id:Oid)(st:St):St :=
 match o with
 | none=>st
 | some _=>Jg id st
theorem Zk8{id:Oid}:drp none id st=st:=(rfl)
theorem Zk9{ob:Ob}{id:Oid}:drp (some ob) id st=Jg id st:=(rfl)
def rkg(o:Option Ob)(len s:Nat)(id0:Oid)(d:Option Nat)(st1:St)(K:St->Prop):Prop :=
 match o with
 | some (.ar k zs u hw ver)=>s=hw/\len=zs.length/\Zb7 d (.hd id0 [] 0 len none s) (Zk st1 id0 (.ar k zs u hw ver)) K
 | _=>False
def rkf(v:IV)(d:Option Nat)(st:St)(K:St->Prop):Prop :=
 match v with
 | .hd id [] 0 len none s=>id.1=st.lvl/\(st.lvl,keyOf d)≠id/\rkg (st.sto id) len s (st.lvl,keyOf d) d (Jg id (DW (st.lvl,keyOf d) st)) K
 | _=>False
theorem Zrl:op2 C d (.rk x) ⟨lvl,env,loc,out⟩ K=rkf (xv env x) d ⟨lvl,env,loc,out⟩ K:=by
 rw[ZC rfl]
 simp only[ew]
 generalize xv env x=v
 unfold rkf
 split
 ·rename_i id len s
  simp only[rkg]
  generalize (⟨lvl,env,loc,out⟩:St).sto id=o
  cases o with
  | none=>rfl
  | some ob =>
   cases ob with
   | bx=>rfl
   | ar k2 es u hw ver=>simp only[U2]
 ·rename_i hv
  split
  ·exact(hv _ _ _ rfl).elim
  ·rfl
theorem Zpj{key len s:Nat}{t:Nat}:rkf (.hd (lvl,key) [] 0 len none s) (some t) ⟨lvl,env,loc,out⟩ K=(t*32≠key/\rkg (lkO key loc) len s (lvl,t*32) (some t) (Jg (lvl,key) (drp (lkO (t*32) loc) (lvl,t*32) ⟨lvl,env,loc,out⟩)) K):=by
 simp only[rkf,true_and,DW,keyOf]
 rw[show (⟨lvl,env,loc,out⟩:St).sto (lvl,key)=lkO key loc from Vu,show (⟨lvl,env,loc,out⟩:St).sto (lvl,t*32)=lkO (t*32) loc from Vu]
 congr 1
 simp
theorem Zrm{key:Nat}{p x:X}:op2 C d (.gv key p x) ⟨lvl,env,loc,out⟩ K=(d=none/\gvf (xv env p) (xv env x) key ⟨lvl,env,loc,out⟩ K):=by
 rw[ZC rfl]
 simp only[ew]
theorem Zpk{id:Oid}{off key key2 len s:Nat}:gvf (.ab id off) (.hd (lvl,key2) [] 0 len none s) key ⟨lvl,env,loc,out⟩ K=(id.1<lvl/\ZG lvl loc out (id.1,key)=none/\gvo (ZG lvl loc out id) (lkO key2 loc) id off key len s (lvl,key2) ⟨lvl,env,loc,out⟩ K):=by
 simp only[gvf,true_and]
 rw[show (⟨lvl,env,loc,out⟩:St).sto (lvl,key2)=lkO key2 loc from Vu]
 rfl
theorem Zpl{cells:List IV}{k:Nat}{zs:Row}{u:Bool}{hw ver:Nat}{id id2:Oid}{off key len s:Nat}:gvo (some (.bx cells)) (some (.ar k zs u hw ver)) id off key len s id2 st K=(off+1<=cells.length/\s=hw/\len=zs.length/\K (Zk (Zk (Jg id2 st) (id.1,key) (.ar k zs u hw ver)) id (.bx (Vn cells off [.hd (id.1,key) [] 0 len none s])))):=(rfl)
theorem Zpm{len s k hw ver:Nat}{zs:Row}{u:Bool}{id0:Oid}:rkg (some (.ar k zs u hw ver)) len s id0 d st K=(s=hw/\len=zs.length/\Zb7 d (.hd id0 [] 0 len none s) (Zk st id0 (.ar k zs u hw ver)) K):=(rfl)
theorem Zis{K:List IV->St->Prop}:Zf5 [] st K=K [] st:=(rfl)
theorem Zit{x:X}{r:List X}{K:List IV->St->Prop}:Zf5 (x::r) st K=ZiT (xv st.env x) st fun t st1=>Zf5 r st1 fun ts st2=>K (.ta t::ts) st2:=(rfl)
def ZlR(o:Option (List Tr×Bool))(F:List Tr->Prop)(H:Prop):Prop :=
 match o with
 | some (ts,_)=>F ts
 | none=>H
def Zpn(o:Option Ob)(F:List Tr->Prop)(H:List IV->Prop):Prop :=
 match o with
 | some (.bx cells)=>ZlR (totrs cells) F (H cells)
 | _=>False
theorem Zla{ts:List Tr}{K:List Tr->St->Prop}:ZiT (.ta ts) st K=K ts st:=(rfl)
theorem Zlb{key:Nat}{K:List Tr->St->Prop}:ZiT (.ab (lvl,key) 0) ⟨lvl,env,loc,out⟩ K=Zpn (lkO key loc) (fun ts=>K ts (Jg (lvl,key) ⟨lvl,env,loc,out⟩)) (fun cells=>Zb5 cells ⟨lvl,env,loc,out⟩ fun ts st1=>K ts (Jg (lvl,key) st1)):=by
 simp only[ZiT,true_and]
 rw[show (⟨lvl,env,loc,out⟩:St).sto (lvl,key)=lkO key loc from Vu]
 generalize lkO key loc=o
 cases o with
 | none=>rfl
 | some ob =>
  cases ob with
  | ar=>rfl
  | bx cells =>
   simp only[Zpn]
   generalize totrs cells=q
   cases q <;> rfl
theorem Zlc{cells:List IV}{F:List Tr->Prop}{H:List IV->Prop}:Zpn (some (.bx cells)) F H=ZlR (totrs cells) F (H cells):=(rfl)
theorem Zld{ts:List Tr}{q:Bool}{F:List Tr->Prop}{H:Prop}:ZlR (some (ts,q)) F H=F ts:=(rfl)
theorem Ziu{F:List Tr->Prop}{H:Prop}:ZlR none F H=H:=(rfl)
theorem Zfv{id:Oid}{p:Pth}{off len s:Nat}{cap:Option Nat}{r:List IV}:totrs (.hd id p off len cap s::r)=none:=(rfl)
theorem Zrn{f:Nat}{cs:List X}:op2 C d (.mz f cs) ⟨lvl,env,loc,out⟩ K=Zf5 cs ⟨lvl,env,loc,out⟩ fun l st1=>Zb7 d (.fn f l) st1 K:=by
 rw[ZC rfl]
 rfl
theorem Ziv{K:List Tr->St->Prop}:Zb5 [] st K=K [] st:=(rfl)
theorem Ziw{x:IV}{r:List IV}{K:List Tr->St->Prop}:Zb5 (x::r) st K=Zg3 x st fun t st1=>Zb5 r st1 fun ts st2=>K (t::ts) st2:=(rfl)
def Zqd(o:Option Ob)(len s:Nat)(F:Row->Prop):Prop :=
 match o with
 | some (.ar _ zs _ hw _)=>s=hw/\len=zs.length/\F zs
 | _=>False
theorem Zix{t:Tr}{K:Tr->St->Prop}:Zg3 (.tr t) st K=K t st:=(rfl)
theorem Ziy{es:Row}{K:Tr->St->Prop}:Zg3 (.cs es) st K=K (.sl es) st:=(rfl)
theorem Ziz{key len s:Nat}{K:Tr->St->Prop}:Zg3 (.hd (lvl,key) [] 0 len none s) ⟨lvl,env,loc,out⟩ K=Zqd (lkO key loc) len s fun zs=>K (.sl zs) (Jg (lvl,key) ⟨lvl,env,loc,out⟩):=by
 simp only[Zg3,true_and]
 rw[show (⟨lvl,env,loc,out⟩:St).sto (lvl,key)=lkO key loc from Vu]
 generalize lkO key loc=o
 cases o with
 | none=>rfl
 | some ob=>cases ob <;> rfl
theorem Zle{k len s hw ver:Nat}{zs:Row}{u:Bool}{F:Row->Prop}:Zqd (some (.ar k zs u hw ver)) len s F=(s=hw/\len=zs.length/\F zs):=(rfl)
def lzg(o:Option Ob)(off m:Nat)(d:Option Nat)(st:St)(K:St->Prop):Prop :=
 match o with
 | some (.bx cells)=>off+m<=cells.length/\Zb5 ((cells.drop off).take m) st fun ts st1=>Zb7 d (.ag (ts.map .tr)) st1 K
 | _=>False
def lzf(v:IV)(m:Nat)(d:Option Nat)(st:St)(K:St->Prop):Prop :=
 match v with
 | .ab id off=>lzg (st.sto id) off m d st K
 | _=>False
theorem Zro{m:Nat}:op2 C d (.lz m x) ⟨lvl,env,loc,out⟩ K=lzf (xv env x) m d ⟨lvl,env,loc,out⟩ K:=by
 rw[ZC rfl]
 simp only[ew]
 generalize xv env x=v
 cases v <;> rfl
theorem Zpo{key off m:Nat}:lzf (.ab (lvl,key) off) m d ⟨lvl,env,loc,out⟩ K=lzg (lkO key loc) off m d ⟨lvl,env,loc,out⟩ K:=by
 simp only[lzf]
 rw[show (⟨lvl,env,loc,out⟩:St).sto (lvl,key)=lkO key loc from Vu]
theorem Zpp{cells:List IV}{off m:Nat}:lzg (some (.bx cells)) off m d st K=(off+m<=cells.length/\Zb5 ((cells.drop off).take m) st fun ts st1=>Zb7 d (.ag (ts.map .tr)) st1 K):=(rfl)
def clg(o:Option Ob)(id:Oid)(off len s k:Nat)(d:Option Nat)(st:St)(K:St->Prop):Prop :=
 match o with
 | some (.ar k2 es u hw ver)=>k2=k/\s=hw/\off+len=es.length/\Zb7 d (.tu []) (Zk st id (.ar k2 (es.take off) u hw (ver+1))) K
 | _=>False
def clf(v:IV)(k:Nat)(d:Option Nat)(st:St)(K:St->Prop):Prop :=
 match v with
 | .hd id p off len _ s=>p=[]/\clg (st.sto id) id off len s k d st K
 | _=>False
theorem Zrp{k:Nat}{z:List Value}:op2 C d (.cl k z x) ⟨lvl,env,loc,out⟩ K=clf (xv env x) k d ⟨lvl,env,loc,out⟩ K:=by
 rw[ZC rfl]
 simp only[ew]
 generalize xv env x=v
 cases v <;> try rfl
 rename_i id p off len cap s
 simp only[clf,clg]
 generalize (⟨lvl,env,loc,out⟩:St).sto id=o
 cases o with
 | none=>simp
 | some ob =>
  cases ob with
  | bx=>simp
  | ar k2 es u hw ver=>simp only[U2]
theorem Zpq{id:Oid}{off len s k:Nat}{cap:Option Nat}:clf (.hd id [] off len cap s) k d ⟨lvl,env,loc,out⟩ K=clg (ZG lvl loc out id) id off len s k d ⟨lvl,env,loc,out⟩ K:=by
 simp only[clf,true_and]
 rfl
theorem Zpr{id:Oid}{off len s k k2 hw ver:Nat}{es:Row}{u:Bool}:clg (some (.ar k2 es u hw ver)) id off len s k d st K=(k2=k/\s=hw/\off+len=es.length/\Zb7 d (.tu []) (Zk st id (.ar k2 (es.take off) u hw (ver+1))) K):=(rfl)
def srk(off len:Nat)(F:Row->Prop)(es:Row)(_u:Bool)(_v:Nat):Prop:=off+len<=es.length/\F (cut es off len)
theorem Zps{off len:Nat}{F:Row->Prop}{es:Row}{u:Bool}{v:Nat}:srk off len F es u v=(off+len<=es.length/\F (cut es off len)):=(rfl)
theorem Zlf{zs:Row}{F:Row->Prop}:ZeQ st (.tr (.sl zs)) F=F zs:=(rfl)
theorem Zlg{zs:Row}{F:Row->Prop}:ZeQ st (.cs zs) F=F zs:=(rfl)
theorem Zlh{id:Oid}{p:Pth}{off len s:Nat}{cap:Option Nat}{F:Row->Prop}:ZeQ ⟨lvl,env,loc,out⟩ (.hd id p off len cap s) F=rd3 (ZG lvl loc out id) p s (srk off len F):=by
 rw[<-Xe]
 rfl
def a3k(zs:Row)(k:Nat)(d:Option Nat)(st:St)(K:St->Prop)(items:Row):Prop :=
 items≠[]/\ScR items/\UnR k zs/\UnR k items/\zs.length+items.length<=bigN/\K ⟨st.lvl,ptd d (.tr (.sl (zs++items))) st.env,st.loc,st.out⟩
theorem Zpt{zs items:Row}{k:Nat}:a3k zs k d ⟨lvl,env,loc,out⟩ K items=(items≠[]/\ScR items/\UnR k zs/\UnR k items/\zs.length+items.length<=bigN/\K ⟨lvl,ptd d (.tr (.sl (zs++items))) env,loc,out⟩):=(rfl)
def a3f(vx vy:IV)(k:Nat)(d:Option Nat)(st:St)(K:St->Prop):Prop :=
 match vx with
 | .cs zs=>ZeQ st vy (a3k zs k d st K)
 | _=>False
theorem Zpu{zs:Row}{vy:IV}{k:Nat}:a3f (.cs zs) vy k d st K=ZeQ st vy (a3k zs k d st K):=(rfl)
theorem Zrq{k:Nat}{x y:X}:op2 C d (.a3 k x y) ⟨lvl,env,loc,out⟩ K=a3f (xv env x) (xv env y) k d ⟨lvl,env,loc,out⟩ K:=by
 rw[ZU rfl]
 simp only[ev]
 generalize xv env x=vx
 cases vx <;> try rfl
 rename_i zs
 have e:∀ items:Row,(items≠[]/\ScR items/\UnR k zs/\UnR k items/\zs.length+items.length<=bigN/\Zs (fun mk obs=>freshK (keyOf d) loc (obs lvl (keyOf d)).length/\K ⟨lvl,ptd d (mk lvl (keyOf d)) env,addO (keyOf d) (obs lvl (keyOf d)) loc,out⟩) (.tr (.sl (zs++items))))=a3k zs k d ⟨lvl,env,loc,out⟩ K items:=fun items=>by
  simp [a3k,Zs,freshK,addO]
 simp only[e]
 rfl
theorem Zrr{k:Nat}{x y:X}:op2 C d (.c0 k x y) ⟨lvl,env,loc,out⟩ K=op2 C d (.cy k x y) ⟨lvl,env,loc,out⟩ K:=by
 rw[ZC rfl,ZC rfl]
 exact propext ⟨ZdT,Zgp⟩
def cyk(es:Row)(u:Bool)(hw ver:Nat)(id:Oid)(off len k:Nat)(d:Option Nat)(st:St)(K:St->Prop)(zs:Row):Prop :=
 ScR zs/\UnR k zs/\Zb7 d (iI (min zs.length len:Nat)) (Zk st id (.ar k (es.take off++zs.take len++es.drop (off+min zs.length len)) u hw (ver+1))) K
theorem Zpv{es:Row}{u:Bool}{hw ver:Nat}{id:Oid}{off len k:Nat}{zs:Row}:cyk es u hw ver id off len k d st K zs=(ScR zs/\UnR k zs/\Zb7 d (iI (min zs.length len:Nat)) (Zk st id (.ar k (es.take off++zs.take len++es.drop (off+min zs.length len)) u hw (ver+1))) K):=(rfl)
def cyg(o:Option Ob)(id:Oid)(off len s k:Nat)(v:IV)(d:Option Nat)(st:St)(K:St->Prop):Prop :=
 match o with
 | some (.ar k2 es u hw ver)=>k2=k/\s=hw/\off+len<=es.length/\ScR es/\ZeQ st v (cyk es u hw ver id off len k d st K)
 | _=>False
def cyf(x v:IV)(k:Nat)(d:Option Nat)(st:St)(K:St->Prop):Prop :=
 match x with
 | .hd id p off len _ s=>p=[]/\cyg (st.sto id) id off len s k v d st K
 | _=>False
theorem Zrs{k:Nat}:op2 C d (.cy k x y) ⟨lvl,env,loc,out⟩ K=cyf (xv env x) (xv env y) k d ⟨lvl,env,loc,out⟩ K:=by
 rw[ZC rfl]
 simp only[ew]
 generalize xv env x=v
 cases v <;> try rfl
 rename_i id p off len cap s
 simp only[cyf,cyg]
 generalize (⟨lvl,env,loc,out⟩:St).sto id=o
 cases o with
 | none=>simp
 | some ob =>
  cases ob with
  | bx=>simp
  | ar k2 es u hw ver =>
   dsimp only
   by_cases hk:k2=k
   ·subst hk
    have:(fun zs=>ScR zs/\UnR k2 zs/\K { Zk ⟨lvl,env,loc,out⟩ id (.ar k2 (es.take off++zs.take len++es.drop (off+min zs.length len)) u hw (ver+1)) with env:=ptd d (iI (min zs.length len:Nat)) env })=cyk es u hw ver id off len k2 d ⟨lvl,env,loc,out⟩ K:=by
     funext zs
     simp only[cyk,U2]
    rw[this]
   ·simp [hk]
theorem Zpw{id:Oid}{off len s k:Nat}{cap:Option Nat}{v:IV}:cyf (.hd id [] off len cap s) v k d ⟨lvl,env,loc,out⟩ K=cyg (ZG lvl loc out id) id off len s k v d ⟨lvl,env,loc,out⟩ K:=by
 simp only[cyf,true_and]
 rfl
theorem Zpx{id:Oid}{off len s k k2 hw ver:Nat}{es:Row}{u:Bool}{v:IV}:cyg (some (.ar k2 es u hw ver)) id off len s k v d st K=(k2=k/\s=hw/\off+len<=es.length/\ScR es/\ZeQ st v (cyk es u hw ver id off len k d st K)):=(rfl)
end row
theorem Zli{α:Type}{F:α->Prop}:op3 none F=False:=(rfl)
end
abbrev tv(n:Int):Tr:=.v (.int .i64 n)
abbrev ts(s:ByteArray):Tr:=.v (.string s)
abbrev rI(l:List Int):Row:=l.map fun n=>[tv n]
abbrev tI(l:List Int):IV:=.tr (.sl (rI l))
abbrev rS(l:List ByteArray):Row:=l.map fun n=>[ts n]
abbrev tS(l:List ByteArray):IV:=.tr (.sl (rS l))
theorem Zd(n:Int):XR .i64 n=(-9223372036854775808<=n/\n<=9223372036854775807):=by
 simp [XR,IntKind.min,IntKind.max,IntKind.signed,IntKind.bits]
theorem ZiA{α:Type}{k:Nat}(f:α->List Tr)(h:∀ x,(f x).length=k)(l:List α):UnR k (l.map f):=by
 intro e he
 obtain⟨x,_,rfl⟩:=List.mem_map.1 he
 exact h x
end Go.Fd

/-
  FROM THE READER'S FACTS TO TREES: what an input reads as, by its type. Own work.
-/
namespace Go.Fd
def In(w:World)(b:Nat):Prop:=b<w.heap.size
def ZgN(w:World)(cs:List Value)(ts:List Tr):Prop:=∀(j:Nat) (v:Value) (t:Tr),cs[j]? = some v->ts[j]? = some t->Rds w (In w) v t
def Vg(P:Program)(t:TypeId){α:Type}(c:α->List Tr)(Q:α->Prop):Prop :=
 ∀(H:Type) (enc:TypeId×Value->H) (w:World) (sp:Nat->Bool) (hd:Bool) (fuel:Nat) (cs:List Value) (x:DataW H×List MemPlace),
  DataW.trod enc P w 0 sp hd fuel t cs=some x->∃ y,Q y/\ZgN w cs (c y)
theorem Wy{w:World}{v:Value}{t:Tr}(h:Rds w (In w) v t):ZgN w [v] [t]:=fun j v' t' h1 h2=>by
 match j with
 | 0=>simp at h1 h2;subst h1;subst h2;exact h
 | j+1=>simp at h1
theorem Zfw{P:Program}{t:TypeId}(ht:P.underlying t=some (.int .i64)):Vg P t (fun n:Int=>[tv n]) (XR .i64):=by
 intro H enc w sp hd fuel cs x h
 obtain⟨n,rfl,_,hw⟩:=DataW.trod_int ht h
 exact⟨n,by simpa [Lit.wf,XR] using hw,Wy (.v _ rfl)⟩
theorem Zct{P:Program}{t:TypeId}(ht:P.underlying t=some .string):Vg P t (fun n:ByteArray=>[ts n]) (fun n=>n.size<=9223372036854775807):=by
 intro H enc w sp hd fuel cs x h
 obtain⟨n,rfl,_,hw⟩:=DataW.trod_string ht h
 exact⟨n,hw,Wy (.v _ rfl)⟩
theorem ZiB{w:World}{a:Addr}{v:Value}(h:w.cell? a=some v):a.block<w.heap.size:=by
 unfold World.cell? at h
 cases hh:w.heap[a.block]? with
 | none=>rw[hh] at h;cases h
 | some o=>exact(Array.getElem?_eq_some_iff.1 hh).1
theorem Zdl{α:Type}(n:Nat)(R:Nat->α->Prop)(h:∀ i,i<n->∃ y,R i y):∃ l:List α,l.length=n/\∀ i y,l[i]? = some y->R i y:=by
 induction n with
 | zero=>exact⟨[],rfl,fun i y h=>by simp at h⟩
 | succ n ih =>
  obtain⟨l,hl,hr⟩:=ih (fun i hi=>h i (by omega))
  obtain⟨y,hy⟩:=h n (by omega)
  refine⟨l++[y],by simp [hl],fun i z hz=>?_⟩
  by_cases hi:i<n
  ·rw[List.getElem?_append_left (by omega)] at hz;exact hr i z hz
  ·have hlt:=(List.getElem?_eq_some_iff.1 hz).1
   simp only[List.length_append,List.length_singleton] at hlt
   have:i=n:=by omega
   subst this
   rw[List.getElem?_append_right (by omega),hl,Nat.sub_self] at hz
   simp at hz
   exact hz ▸ hy
theorem Vv{P:Program}{t e:TypeId}{k:Nat}{α:Type}{c:α->List Tr}{Q:α->Prop}(ht:P.underlying t=some (.slice e))(hk:P.cellsOf e=k+1)(hc:∀ x,(c x).length=k+1)
  (he:Vg P e c Q):Vg P t (fun l:List α=>[.sl (l.map c)]) (fun l=>l.length<=9223372036854775807/\∀ x∈l,Q x):=by
 intro H enc w sp hd fuel cs x h
 rcases DataW.trod_slice ht h with ⟨rfl,_⟩ | ⟨a,len,cap,elems,rest,n,_,rfl,_,_,hl,hm,hlen,hel,_,_⟩
 ·exact⟨[],⟨by simp,by simp⟩,Wy (.nil none 0)⟩
 ·have each:∀ i,i<len->∃ y,Q y/\∀ j t,(c y)[j]? = some t->∃ v,w.cell? (a.add (i*(k+1)+j))=some v/\Rds w (In w) v t:=fun i hi=>by
   have h1:=hel i hi
   rw[hk] at h1
   obtain⟨z,hz⟩:∃ z,elems[i]? = some z:=⟨elems[i]'(by omega),List.getElem?_eq_getElem _⟩
   rw[hz,Option.bind_eq_some_iff] at h1
   obtain⟨row,hrow,hx⟩:=h1
   obtain⟨y,hy,hr⟩:=he H enc w sp hd n row z hx
   obtain⟨_,hrl,hg⟩:=World.cells?_some hrow
   refine⟨y,hy,fun j t hj=>?_⟩
   have hjk:j<k+1:=by rw[<-hc y];exact(List.getElem?_eq_some_iff.1 hj).1
   have hv:row[j]? = some (row[j]'(by omega)):=List.getElem?_eq_getElem _
   have:=hg j hjk
   rw[hv] at this
   have e2:(a.add (i*(k+1))).add j=a.add (i*(k+1)+j):=by
    unfold Addr.add
    by_cases h0:i*(k+1)=0
    ·simp [h0]
    ·by_cases h1:j=0
     ·simp [h1,h0]
     ·have h2:¬ (i*(k+1)+j=0):=by omega
      simp only[if_neg h0,if_neg h1,if_neg h2,Addr.mk.injEq,and_true,true_and]
      omega
   rw[e2] at this
   exact⟨_,this,hr j _ t hv hj⟩
  obtain⟨l,hll,hlr⟩:=Zdl len _ each
  refine⟨l,⟨?_,fun y hy=>?_⟩,Wy ?_⟩
  ·rw[hll];exact Nat.le_trans hl hm
  ·obtain⟨i,hi⟩:=List.getElem?_of_mem hy
   exact(hlr i y hi).1
  ·by_cases h0:len=0
   ·have:l=[]:=List.eq_nil_of_length_eq_zero (by omega)
    subst this;subst h0
    exact .nil _ _
   ·obtain⟨y0,hy0⟩:∃ y0,l[0]? = some y0:=⟨l[0]'(by omega),List.getElem?_eq_getElem _⟩
    obtain⟨t0,ht0⟩:∃ t0,(c y0)[0]? = some t0:=⟨(c y0)[0]'(by rw[hc];omega),List.getElem?_eq_getElem _⟩
    obtain⟨v0,hv0,_⟩:=(hlr 0 y0 hy0).2 0 t0 ht0
    obtain⟨b,o,s⟩:=a
    have hs:s=none:=by simpa [Addr.add] using World.cell?_spot hv0
    subst hs
    have hb:b<w.heap.size:=by simpa [Addr.add] using ZiB hv0
    have hel2:∀ i e j t,(l.map c)[i]? = some e->e[j]? = some t->∃ v,w.cell? ⟨b,o+i*(k+1)+j,none⟩=some v/\Rds w (In w) v t:=fun i e j t h1 h2=>by
     rw[List.getElem?_map,Option.map_eq_some_iff] at h1
     obtain⟨y,hy,rfl⟩:=h1
     obtain⟨v,hv,hr⟩:=(hlr i y hy).2 j t h2
     refine⟨v,?_,hr⟩
     rw[<-hv]
     congr 1
     unfold Addr.add
     by_cases h0:i*(k+1)+j=0
     ·have:o+i*(k+1)+j=o:=by omega
      rw[if_pos h0,this]
     ·rw[if_neg h0]
      have:o+i*(k+1)+j=o+(i*(k+1)+j):=by omega
      simp only[this]
    have hlm:(l.map c).length=len:=by simpa using hll
    have:=Rds.sl (w:=w) (A:=In w) b o cap (k+1) (l.map c) (fun i j=>(w.cell? ⟨b,o+i*(k+1)+j,none⟩).getD .nilFunc) hb
     (fun e he=>by simp only[List.mem_map] at he;obtain⟨y,_,rfl⟩:=he;exact hc y) (by omega)
     (fun i e j t h1 h2=>by obtain⟨v,hv,_⟩:=hel2 i e j t h1 h2;rw[hv];rfl)
     (fun i e j t h1 h2=>by obtain⟨v,hv,hr⟩:=hel2 i e j t h1 h2;rw[hv];exact hr)
    rw[hlm] at this
    exact this
def Wz(P:Program)(o:Nat)(l:List (Nat×TypeId)){α:Type}(c:α->List Tr)(Q:α->Prop):Prop :=
 ∀(H:Type) (enc:TypeId×Value->H) (w:World) (sp:Nat->Bool) (hd:Bool) (fuel:Nat) (cs:List Value),
  (∀ p∈l,∃ x,DataW.trod enc P w 0 sp hd fuel p.2 ((cs.drop p.1).take (P.cellsOf p.2))=some x)->∃ y,Q y/\ZgN w (cs.drop o) (c y)
theorem Qk{P:Program}{o:Nat}:Wz P o [] (fun _:Unit=>[]) (fun _=>True):=fun H enc w sp hd fuel cs _=>⟨(),trivial,fun j v t _ h=>by simp at h⟩
theorem Zt{P:Program}{o k:Nat}{t:TypeId}{l:List (Nat×TypeId)}{α β:Type}{c:α->List Tr}{Q:α->Prop}{c2:β->List Tr}{Q2:β->Prop}
  (hk:P.cellsOf t=k) (hc:∀ x,(c x).length=k) (h1:Vg P t c Q) (h2:Wz P (o+k) l c2 Q2) :
  Wz P o ((o,t)::l) (fun p:α×β=>c p.1++c2 p.2) (fun p=>Q p.1/\Q2 p.2):=fun H enc w sp hd fuel cs h=>by
 obtain⟨x,hx⟩:=h (o,t) (by simp)
 obtain⟨y,hy,hr⟩:=h1 _ _ _ _ _ _ _ _ hx
 obtain⟨y2,hy2,hr2⟩:=h2 H enc w sp hd fuel cs (fun p hp=>h p (by simp [hp]))
 refine⟨(y,y2),⟨hy,hy2⟩,fun j v t' hv ht=>?_⟩
 by_cases hj:j<k
 ·rw[List.getElem?_append_left (by rw[hc];exact hj)] at ht
  refine hr j v t' ?_ ht
  rw[hk,List.getElem?_take_of_lt hj]
  exact hv
 ·rw[List.getElem?_append_right (by rw[hc];omega),hc] at ht
  refine hr2 (j-k) v t' ?_ ht
  rw[List.getElem?_drop] at hv ⊢
  rw[<-hv]
  congr 1
  omega
theorem YU{P:Program}{t:TypeId}{fs:Array Field}{α:Type}{c:α->List Tr}{Q:α->Prop}(ht:P.underlying t=some (.struct fs))(h:Wz P 0 (fs.toList.map fun f=>(f.offset,f.type)) c Q):Vg P t c Q:=by
 intro H enc w sp hd fuel cs x hx
 obtain⟨xs,n,_,_,_,hl,hf⟩:=DataW.trod_struct ht hx
 have:=h H enc w sp hd n cs (fun p hp=>by
  simp only[List.mem_map] at hp
  obtain⟨f,hf1,rfl⟩:=hp
  obtain⟨i,hi⟩:=List.getElem?_of_mem hf1
  have hi':fs[i]? = some f:=by simpa using hi
  have hlt:i<xs.length:=by rw[hl];exact(Array.getElem?_eq_some_iff.1 hi').1
  exact⟨_,(hf i f hi').trans (List.getElem?_eq_getElem hlt)⟩)
 simpa using this
theorem Zfx{P:Program}{t:TypeId}{α β:Type}{c:α->List Tr}{Q:α->Prop}{c2:β->List Tr}{Q2:β->Prop}(g:α->β)(hg:∀ x,c2 (g x)=c x)(hq:∀ x,Q x->Q2 (g x))(h:Vg P t c Q):Vg P t c2 Q2:=by
 intro H enc w sp hd fuel cs x hx
 obtain⟨y,hy,hr⟩:=h H enc w sp hd fuel cs x hx
 exact⟨g y,hq y hy,by rw[hg];exact hr⟩
theorem WA{P:Program}{t:TypeId}{α β:Type}{c:α->List Tr}{Q:α->Prop}{c2:β->List Tr}{Q2:β->Prop}(h:Vg P t c Q)(g:α->β)(hg:∀ x,c2 (g x)=c x)(hq:∀ x,Q x->Q2 (g x)):Vg P t c2 Q2:=Zfx g hg hq h
end Go.Fd

/-
  FROM A CONTRACT OF A LAW TO WHAT ITS ROW ASKS. Own work.
-/
namespace Go.Fd
variable [Tabs]
open Go.RowKit
def G0:Gh:=fun _ _=>none
def S0:Sto:=fun _=>none
theorem Av0{w:World}{b:Nat}(h:In w b):Av G0 S0 w b:=⟨h,fun id ob hs=>by cases hs⟩
theorem Zaz{w:World}:∀{cs:List Value} {ts:List Tr},cs.length=ts.length->ZgN w cs ts->VRs G0 S0 w (ts.map .tr) cs
 | [],[],_,_=>by simp [VRs]
 | v::cs,t::ts,hl,h=>by
  simp only[List.map_cons,VRs]
  refine⟨v,cs,rfl,?_,Zaz (by simpa using hl) (fun j v' t' h1 h2=>h (j+1) v' t' (by simpa using h1) (by simpa using h2))⟩
  simp only[VR]
  exact Rds.mono (fun b=>Av0) (fun b _=>rfl) (h 0 v t rfl rfl)
 | [],_::_,hl,_=>by simp at hl
 | _::_,[],hl,_=>by simp at hl
theorem Zcu{P:Program}{f:FuncId}{args:List IV}{b:Bool}{w:World}{vs:List Value}(h:Sem P f 0 args S0 (iB b) S0)(hv:VRs G0 S0 w args vs)(hg:Tabs.good w) :
  Calls P f vs.toArray w fun e w' => e = .returned (.bool b)/\Below w.heap.size w w':=by
 obtain⟨_,_,h⟩:=h
 refine(h (fun id ob hs=>by cases hs) G0 w vs ⟨fun id ob hs=>(nomatch hs),fun id ob id2 ob2 b2 hs=>(nomatch hs),fun id cells hs=>(nomatch hs)⟩ hv ⟨w,hg,Nat.le_refl _,fun b hb=>⟨⟨hb,fun id ob hs=>by cases hs⟩,rfl⟩⟩).mono ?_
 rintro e w' ⟨v,G',rfl,_,hr,_,hf⟩
 have hr':Rds w' (Av G' (Yh S0 0 0 (impv true 0 0 0 (iB b)).2) w') v (.v (.bool b)):=hr
 cases hr' with
 | v x hx =>
  exact⟨rfl,hf.os,hf.tape,hf.output,hf.size,fun k hk=>hf.old k hk (fun id ob hs=>by cases hs)⟩
theorem Zfy{P:Program}{w:World}{r:Reach}{base:Nat}{t e:TypeId}{v:Value}(ht:P.underlying t=some (.slice e))(h:Value.okWide P w r base t v):v.cells.toList=[v]:=by
 unfold Value.okWide at h
 rw[ht] at h
 simp only[Cell.okWide,ht,Cell.ok] at h
 cases v <;> first | rfl | exact absurd h (by simp)
theorem Zeq{P:Program}{w:World}{r:Reach}{base:Nat}{t:TypeId}{fs:Array Field}{v:Value}(ht:P.underlying t=some (.struct fs))(h:Value.okWide P w r base t v):∃ cs,v = .agg cs/\cs.size=P.cellsOf t:=by
 unfold Value.okWide at h
 rw[ht] at h
 obtain⟨cs,h1,h2,_⟩:=h
 exact⟨cs,h1,h2⟩
section
variable {H:Type} {enc:TypeId×Value->H} {P:Program} {w:World} {t:TypeId} {v:Value} {d:DataW H} {p:List MemPlace} {α:Type} {c:α->List Tr} {Q:α->Prop} {sp:Nat->Bool} {hd:Bool} {base:Nat}
theorem Zfz{fs:Array Field}{k:Nat}(hr:Vg P t c Q)(ht:P.underlying t=some (.struct fs))(hk:P.cellsOf t=k)(hc:∀ x,(c x).length=k)(hok:Value.okWide P w .any base t v)(h:DataW.Trod enc P w 0 sp hd t v d p) :
  ∃ y,Q y/\VR G0 S0 w (.ag ((c y).map .tr)) v:=by
 obtain⟨cs,rfl,hs⟩:=Zeq ht hok
 obtain⟨n,hn⟩:=h
 obtain⟨y,hy,hrow⟩:=hr H enc w sp hd n _ _ hn
 refine⟨y,hy,?_⟩
 simp only[VR]
 refine⟨cs.toList,by simp,Zaz ?_ hrow⟩
 rw[hc,<-hk,<-hs]
 simp
theorem ZgO{e:TypeId}{g:α->Tr}(hr:Vg P t (fun x=>[g x]) Q)(ht:P.underlying t=some (.slice e))(hok:Value.okWide P w .any base t v)(h:DataW.Trod enc P w 0 sp hd t v d p) :
  ∃ y,Q y/\VR G0 S0 w (.tr (g y)) v:=by
 obtain⟨n,hn⟩:=h
 rw[Zfy ht hok] at hn
 obtain⟨y,hy,hrow⟩:=hr H enc w sp hd n _ _ hn
 refine⟨y,hy,?_⟩
 simp only[VR]
 exact Rds.mono (fun b=>Av0) (fun b _=>rfl) (hrow 0 v _ rfl rfl)
end
theorem Zbq{H:Type}{enc:TypeId×Value->H}{P:Program}{f:Func}{s:ChangeSpec}{apart:Bool}{W W':World}{args:Array Value}{v:Value}{ds gs:List (DataW H)}{before pa pv:List MemPlace}
  (hW:DataW.Whole enc P f.params.toList s.vars apart W args.toList ds gs before) (hb:Below W.heap.size W W')
  (hres:DataW.TrodAll enc P W' W.heap.size (fun _=>false) false f.resultTypes.toList (v.resultList f.resultTypes.size) (s.fn H (ds++gs)).results [])
  (hargs:DataW.TrodAll enc P W' 0 (fun b=>decide (b<W.heap.size)) true f.params.toList args.toList (s.fn H (ds++gs)).args pa)
  (hvars:DataW.TrodVars enc P W' (fun b=>decide (b<W.heap.size)) s.vars (s.fn H (ds++gs)).vars pv) :
  s.post enc P f apart true false false W args v W' :=
 ⟨ds,gs,before,[],pa,pv,hW,hres,hargs,hvars,hb.frame _,fun h=>by cases h⟩
end Go.Fd

/-
  FOUNDATION 50: contracts of the library, taken over: calls that read scalars alone and answer scalars. Own work.
-/
namespace Go.Fd
variable [Tabs]
open Go.RowKit
theorem Zcv{w w':World}(h:Below w.heap.size w w'):Ext w w':=⟨h.size,h.block,h.os,h.tape,h.output⟩
theorem Zbr{G:Gh}{S:Sto}{w:World}:∀{xs vs:List Value},VRs G S w (xs.map fun v=>.tr (.v v)) vs->vs=xs
 | [],vs,h=>by simpa [VRs] using h
 | x::r,vs,h=>by
  simp only[List.map_cons,VRs] at h
  obtain⟨v,vr,rfl,h1,h2⟩:=h
  rw[Zbr h2]
  have h1':Rds w (Av G S w) v (.v x):=h1
  cases h1'
  rfl
theorem Dv{P:Program}{f:FuncId}{lvl:Nat}{S:Sto}{args:List IV}{r:IV}(hc:Wp P f)(hi:impv true lvl 0 0 r=(r,[]))(hlow:low lvl r)
  (h:(∀ id ob,S id=some ob->id.1<lvl)->∀ G w vs,SOk G S w->VRs G S w args vs->Fix G S w->Calls P f vs.toArray w fun e w' => ∃ v,e = .returned v/\VR G S w' r v/\Below w.heap.size w w'):Sem P f lvl args S r S:=by
 refine⟨hlow,hc,fun hS G w vs hok hv hfx=>?_⟩
 refine(h hS G w vs hok hv hfx).mono ?_
 rintro e w' ⟨v,rfl,hr,hb⟩
 rw[hi]
 have e:Ext w w':=Zcv hb
 exact⟨v,G,rfl,hok.ext e,hr,hS,Frm.of_ext e⟩
theorem ZaA{P:Program}{f:FuncId}{lvl:Nat}{S:Sto}{args:List IV}{r:IV}(hc:Wp P f)(hi:impv true lvl 0 0 r=(r,[]))(hlow:low lvl r)
  (h:(∀ id ob,S id=some ob->id.1<lvl)->∀ G w vs,SOk G S w->VRs G S w args vs->Calls P f vs.toArray w fun e w' => ∃ v,e = .returned v/\VR G S w' r v/\Below w.heap.size w w'):Sem P f lvl args S r S :=
 Dv hc hi hlow fun hS G w vs hok hv _=>h hS G w vs hok hv
theorem Zdm{P:Program}{f:FuncId}{lvl:Nat}{S:Sto}{xs:List Value}{y:Value}(hc:Wp P f)(hy:XC y=true)
  (h:∀ w,Calls P f xs.toArray w fun e w' => e = .returned y/\Below w.heap.size w w'):Sem P f lvl (xs.map fun v=>.tr (.v v)) S (.tr (.v y)) S:=by
 refine ZaA hc rfl trivial fun _ G w vs _ hv=>?_
 rw[Zbr hv]
 exact(h w).mono fun e w' ⟨h1,h2⟩=>⟨y,h1,.v y hy,h2⟩
end Go.Fd

/-
  FOUNDATION 51: a loop that counts, told by what changes. Own work.
-/
namespace Go.Fd
def pts:List (Nat×IV)->List (Nat×IV)->List (Nat×IV)
 | [],env=>env
 | (t,x)::r,env=>pts r (pt t x env)
def ZiW:List (Nat×Ob)->List (Nat×Ob)->List (Nat×Ob)
 | [],loc=>loc
 | (t,x)::r,loc=>ZiW r (ptO t x loc)
def chg(ce:List (Nat×IV))(co:List (Nat×Ob))(s:St):St:=⟨s.lvl,pts ce s.env,ZiW co s.loc,s.out⟩
section
variable {C:Zh} {lvl:Nat} {env:List (Nat×IV)} {loc:List (Nat×Ob)} {out:Sto} {st:St} {Q:Ex->St->Prop}
theorem Zpy{ce:List (Nat×IV)}{co:List (Nat×Ob)}:chg ce co ⟨lvl,env,loc,out⟩=⟨lvl,pts ce env,ZiW co loc,out⟩:=(rfl)
theorem Zlj:pts [] env=env:=(rfl)
theorem Zlk{t:Nat}{x:IV}{r:List (Nat×IV)}:pts ((t,x)::r) env=pts r (pt t x env):=(rfl)
theorem ZiC:ZiW [] loc=loc:=(rfl)
theorem ZiD{t:Nat}{x:Ob}{r:List (Nat×Ob)}:ZiW ((t,x)::r) loc=ZiW r (ptO t x loc):=(rfl)
theorem ZI{α:Type}{ks js:List Nat}{c:C2}(N:Nat)(ce:Nat->α->List (Nat×IV))(co:Nat->α->List (Nat×Ob))(A:Nat->α->Prop)(x0:α)
  (h1:clean ks js st) (h0:fgt ks js st=chg (ce 0 x0) (co 0 x0) (fgt ks js st)) (hA:A 0 x0)
  (hs:∀ k x,k<=N->A k x->wp C c (chg (ce k x) (co k x) (fgt ks js st)) (Du ks js (ZoH N (fun k x=>chg (ce k x) (co k x) (fgt ks js st)) A (N-k)) Q)):wp C (.lp ks js c) st Q :=
 Yq N (fun k x=>chg (ce k x) (co k x) (fgt ks js st)) A x0 ⟨h1,h0⟩ hA hs
end
section
variable {L:Sto} {F:List IV->Prop} {r:List IV}
def Zqe(L:Sto)(r:List IV)(F:List IV->Prop)(y:IV):Prop:=ZK L r (kcn y F)
theorem Zll{y:IV}:Zqe L r F y=ZK L r (kcn y F):=(rfl)
theorem Zpz{id:Oid}{off:Nat}:ZK L (.ab id off::r) F=ZaU (L id) L off (Zqe L r F):=by simp only[ZK,YX];rfl
def kta(F:IV->Prop)(ts:List Tr):Prop:=F (.ta ts)
theorem ZpA{F:IV->Prop}{ts:List Tr}:kta F ts=F (.ta ts):=(rfl)
theorem ZpB{cells:List IV}{off:Nat}{F:IV->Prop}:ZaU (some (.bx cells)) L off F=Yi L (cells.drop off) (kta F):=(rfl)
def kct(t:Tr)(F:List Tr->Prop)(ts:List Tr):Prop:=F (t::ts)
theorem ZpC{t:Tr}{F:List Tr->Prop}{ts:List Tr}:kct t F ts=F (t::ts):=(rfl)
def Zqf(L:Sto)(r:List IV)(F:List Tr->Prop)(t:Tr):Prop:=Yi L r (kct t F)
theorem Zlm{F:List Tr->Prop}{t:Tr}:Zqf L r F t=Yi L r (kct t F):=(rfl)
theorem Zln{F:List Tr->Prop}:Yi L [] F=F []:=(rfl)
theorem Zlo{x:IV}{F:List Tr->Prop}:Yi L (x::r) F=Wh L x (Zqf L r F):=(rfl)
theorem Zlp{t:Tr}{F:Tr->Prop}:Wh L (.tr t) F=F t:=(rfl)
theorem Zlq{es:Row}{F:Tr->Prop}:Wh L (.cs es) F=F (.sl es):=(rfl)
def Zqg(off len:Nat)(F:Tr->Prop)(es:Row)(_u:Bool)(_v:Nat):Prop:=off+len<=es.length/\F (.sl (cut es off len))
theorem Zlr{off len:Nat}{F:Tr->Prop}{es:Row}{u:Bool}{v:Nat}:Zqg off len F es u v=(off+len<=es.length/\F (.sl (cut es off len))):=(rfl)
theorem Zls{id:Oid}{p:Pth}{off len s:Nat}{cap:Option Nat}{F:Tr->Prop}:Wh L (.hd id p off len cap s) F=rd3 (L id) p s (Zqg off len F):=by rw[<-Xe];rfl
end
theorem Zlt{α:Type}{x:α}:List.replicate 1 x=[x]:=(rfl)
theorem Zlu{e:List Tr}:cut [e] 0 1=[e]:=(rfl)
theorem Zlv{l:List Tr}:ScR [l]=(l.all isSc=true):=by
 apply propext
 constructor
 ·intro h
  exact List.all_eq_true.2 fun t ht=>h l (by simp) t ht
 ·intro h e he t ht
  simp only[List.mem_singleton] at he
  subst he
  exact List.all_eq_true.1 h t ht
theorem Zlw{k:Nat}{l:List Tr}:UnR k [l]=(l.length=k):=by
 apply propext
 constructor
 ·intro h;exact h l (by simp)
 ·intro h e he
  simp only[List.mem_singleton] at he
  rw[he,h]
theorem ZpD{j:Nat}:max j (j+1)=j+1:=by omega
theorem ZpE{j:Nat}:(j<j+1)=True:=by simp
end Go.Fd

/-
  FOUNDATION 52: numbers and strings as parameters of a law. Own work.
-/
namespace Go.Fd
open Go.RowKit Go.ChangeShapes Go.ChangeMaps Go.WideMaps
section
variable {H:Type} {enc:TypeId×Value->H} {P:Program} {w:World} {t:TypeId} {v:Value} {d:DataW H} {p:List MemPlace} {sp:Nat->Bool} {hd:Bool} {base:Nat}
end
end Go.Fd

/-
  FOUNDATION 54: all rules in one word (printed by evr.py). Own work.
-/
namespace Go.Fd
set_option linter.defProp false in
def EV0:=(And.intro (And.intro (And.intro (And.intro (And.intro @Zjq @ZmM) (And.intro @Zjr (And.intro @Zjs @Zjt))) (And.intro (And.intro @Zju @Zjv) (And.intro @Zjw (And.intro @Zjx @ZmN)))) (And.intro (And.intro (And.intro @ZmO @ZmP) (And.intro @Zqo (And.intro @Zqp @Zqq))) (And.intro (And.intro @Zqr @Zqs) (And.intro @Zqt (And.intro @Zqu @Zqv))))) (And.intro (And.intro (And.intro (And.intro @ZmQ @ZmR) (And.intro @ZmS (And.intro @Zjy @Zqw))) (And.intro (And.intro @ZmT @ZmU) (And.intro @Zqx (And.intro @ZmV @Zjz)))) (And.intro (And.intro (And.intro @Zqy @ZmW) (And.intro @Zqz (And.intro @ZmX @ZqA))) (And.intro (And.intro @ZmY @ZqB) (And.intro @ZqC (And.intro @ZqD @Zgy))))))
set_option linter.defProp false in
def EV1:=(And.intro (And.intro (And.intro (And.intro (And.intro @Zgz @ZmZ) (And.intro @ZhR (And.intro @ZqE @Zm0))) (And.intro (And.intro @ZqF @ZjB) (And.intro @ZjC (And.intro @ZjD @ZjE)))) (And.intro (And.intro (And.intro @ZjF @ZjG) (And.intro @Zm1 (And.intro @Zm2 @Zm3))) (And.intro (And.intro @Zm4 @Zm5) (And.intro @Zm6 (And.intro @Zm7 @Zm8))))) (And.intro (And.intro (And.intro (And.intro @Zm9 @Zna) (And.intro @Znb (And.intro @Znc @Znd))) (And.intro (And.intro @Zne @Znf) (And.intro @Zng (And.intro @ZjH @ZjI)))) (And.intro (And.intro (And.intro @ZjJ @Znh) (And.intro @Zni (And.intro @Znj @Znk))) (And.intro (And.intro @ZqG @ZqH) (And.intro @Znl (And.intro @ZqI @Znm))))))
set_option linter.defProp false in
def EV2:=(And.intro (And.intro (And.intro (And.intro (And.intro @ZqJ @Znn) (And.intro @Zno (And.intro @Znp @Znq))) (And.intro (And.intro @ZqK @Znr) (And.intro @ZqL (And.intro @Zns @Znt)))) (And.intro (And.intro (And.intro @Znu @ZqM) (And.intro @Znv (And.intro @ZqN @ZqO))) (And.intro (And.intro @Znw @Znx) (And.intro @ZqP (And.intro @Zny @Znz))))) (And.intro (And.intro (And.intro (And.intro @ZnA @ZqQ) (And.intro @ZnB (And.intro @ZqR @ZnC))) (And.intro (And.intro @ZnD @ZnE) (And.intro @ZqS (And.intro @ZnF @ZnG)))) (And.intro (And.intro (And.intro @ZnH @ZqT) (And.intro @ZnI (And.intro @ZnJ @ZnK))) (And.intro (And.intro @ZqU @ZnL) (And.intro @ZnM (And.intro @ZnN @ZnO))))))
set_option linter.defProp false in
def EV3:=(And.intro (And.intro (And.intro (And.intro (And.intro @ZnP @ZgA) (And.intro @ZgB (And.intro @ZnQ @ZjK))) (And.intro (And.intro @ZnR @ZqV) (And.intro @ZnS (And.intro @ZnT @ZnU)))) (And.intro (And.intro (And.intro @ZnV @ZqW) (And.intro @ZnW (And.intro @ZqX @ZnX))) (And.intro (And.intro @ZnY @Vu) (And.intro @Xf (And.intro @ZjL @ZnZ))))) (And.intro (And.intro (And.intro (And.intro @ZjM @Zn0) (And.intro @Zn1 (And.intro @Zn2 @ZjN))) (And.intro (And.intro @ZjO @ZjQ) (And.intro @ZhS (And.intro @ZqY @Zn3)))) (And.intro (And.intro (And.intro @Zn4 @Zn5) (And.intro @Zn6 (And.intro @ZjR @Zn7))) (And.intro (And.intro @Zn8 @Zn9) (And.intro @Zoa (And.intro @Zob @ZjS))))))
set_option linter.defProp false in
def EV4:=(And.intro (And.intro (And.intro (And.intro (And.intro @ZjT @Zoc) (And.intro @ZjU (And.intro @ZjV @ZqZ))) (And.intro (And.intro @Zod @Zoe) (And.intro @Zof (And.intro @Zog @ZjW)))) (And.intro (And.intro (And.intro @Zq0 @Zoh) (And.intro @Zq1 (And.intro @Zoi @Zoj))) (And.intro (And.intro @Zok @Zq2) (And.intro @Zol (And.intro @Zom @Zon))))) (And.intro (And.intro (And.intro (And.intro @ZjX @ZjY) (And.intro @ZjZ (And.intro @Zj0 @ZhT))) (And.intro (And.intro @Zj1 @Zoo) (And.intro @Zop (And.intro @Zoq @Zj2)))) (And.intro (And.intro (And.intro @Zor @Zos) (And.intro @Zot (And.intro @Zq3 @Zou))) (And.intro (And.intro @Zov @Zj3) (And.intro @Zow (And.intro @Zj4 @Zox))))))
set_option linter.defProp false in
def EV5:=(And.intro (And.intro (And.intro (And.intro (And.intro @Zj5 @Zoy) (And.intro @Zj6 (And.intro @Zoz @Zj7))) (And.intro (And.intro @Zj8 @Zj9) (And.intro @ZoA (And.intro @ZhU @ZhV)))) (And.intro (And.intro (And.intro @ZoB @Zka) (And.intro @Zkb (And.intro @Zkc @Zkd))) (And.intro (And.intro @Zke @ZoC) (And.intro @Zkf (And.intro @ZoD @Zkg))))) (And.intro (And.intro (And.intro (And.intro @ZhW @ZhX) (And.intro @ZhY (And.intro @ZhZ @Zh0))) (And.intro (And.intro @Zh1 @Zh2) (And.intro @ZoE (And.intro @ZgC @ZgD)))) (And.intro (And.intro (And.intro @Zh3 @Zh4) (And.intro @Zh5 (And.intro @Zh6 @ZgE))) (And.intro (And.intro @ZgF @ZgG) (And.intro @ZgH (And.intro @ZgI @ZgJ))))))
set_option linter.defProp false in
def EV6:=(And.intro (And.intro (And.intro (And.intro (And.intro @Zh7 @Zh8) (And.intro @Zh9 (And.intro @Zkh @Zki))) (And.intro (And.intro @ZoF @Zia) (And.intro @Zkj (And.intro @Zkk @Zib)))) (And.intro (And.intro (And.intro @Zkl @Zkm) (And.intro @Zkn (And.intro @Zko @Zkp))) (And.intro (And.intro @Zkq @Zkr) (And.intro @Zic (And.intro @Zid @Zie))))) (And.intro (And.intro (And.intro (And.intro @Zif @Zks) (And.intro @Zkt (And.intro @Zku @Zkv))) (And.intro (And.intro @Zkw @ZgK) (And.intro @ZgL (And.intro @ZgM @Zq4)))) (And.intro (And.intro (And.intro @ZoI @ZoJ) (And.intro @ZoK (And.intro @Js @Jt))) (And.intro (And.intro @Zig @Zih) (And.intro @Zkx (And.intro @Zky @Zkz))))))
set_option linter.defProp false in
def EV7:=(And.intro (And.intro (And.intro (And.intro (And.intro @ZkA @ZkB) (And.intro @ZkC (And.intro @ZkD @ZkE))) (And.intro (And.intro @ZkF @Zii) (And.intro @ZoL (And.intro @Zij @Zik)))) (And.intro (And.intro (And.intro @ZoM @ZoN) (And.intro @ZoO (And.intro @ZoP @ZkG))) (And.intro (And.intro @ZkH @ZkI) (And.intro @ZoQ (And.intro @Zq5 @ZoR))))) (And.intro (And.intro (And.intro (And.intro @ZoS @ZoT) (And.intro @ZoU (And.intro @ZoV @Zil))) (And.intro (And.intro @Zim @ZkJ) (And.intro @ZkK (And.intro @ZkL @ZkM)))) (And.intro (And.intro (And.intro @ZoW @ZkO) (And.intro @Zin (And.intro @Zio @ZkP))) (And.intro (And.intro @ZkQ @Zq6) (And.intro @Zq7 (And.intro @Zip @Ziq))))))
set_option linter.defProp false in
def EV8:=(And.intro (And.intro (And.intro (And.intro (And.intro @Zq8 @Zq9) (And.intro @ZoX (And.intro @ZoY @Zra))) (And.intro (And.intro @Zrb @ZoZ) (And.intro @Zo0 (And.intro @Zo1 @Zo2)))) (And.intro (And.intro (And.intro @Zo3 @Zrc) (And.intro @ZkR (And.intro @ZkS @Zrd))) (And.intro (And.intro @ZkT @ZkU) (And.intro @ZkV (And.intro @ZkW @ZkX))))) (And.intro (And.intro (And.intro (And.intro @Zre @Zrf) (And.intro @ZkY (And.intro @ZkZ @Zk0))) (And.intro (And.intro @Zo4 @Zrg) (And.intro @Zo5 (And.intro @Zo6 @Zk1)))) (And.intro (And.intro (And.intro @Zk2 @Zo7) (And.intro @Zk3 (And.intro @Zk4 @Zo8))) (And.intro (And.intro @Zk5 @Zpa) (And.intro @Zk6 (And.intro @Zir @Zbp))))))
set_option linter.defProp false in
def EV9:=(And.intro (And.intro (And.intro (And.intro (And.intro @Zrh @Zpb) (And.intro @Zpc (And.intro @Zk7 @Zri))) (And.intro (And.intro @Zpd @Zrj) (And.intro @Zpe (And.intro @Zpf @Zpg)))) (And.intro (And.intro (And.intro @Zrk @Zph) (And.intro @Zpi (And.intro @Zk8 @Zk9))) (And.intro (And.intro @Zrl @Zpj) (And.intro @Zrm (And.intro @Zpk @Zpl))))) (And.intro (And.intro (And.intro (And.intro @Zpm @Zis) (And.intro @Zit (And.intro @Zla @Zlb))) (And.intro (And.intro @Zlc @Zld) (And.intro @Ziu (And.intro @Zfv @Zrn)))) (And.intro (And.intro (And.intro @Ziv @Ziw) (And.intro @Zix (And.intro @Ziy @Ziz))) (And.intro (And.intro @Zle @Zro) (And.intro @Zpo (And.intro @Zpp @Zrp))))))
set_option linter.defProp false in
def Zrt:=(And.intro (And.intro (And.intro (And.intro (And.intro @Zpq @Zpr) (And.intro @Zps (And.intro @Zlf @Zlg))) (And.intro (And.intro @Zlh @Zpt) (And.intro @Zpu (And.intro @Zrq @Zrr)))) (And.intro (And.intro (And.intro @Zpv @Zrs) (And.intro @Zpw (And.intro @Zpx @Zli))) (And.intro (And.intro @Zpy @Zlj) (And.intro @Zlk (And.intro @ZiC @ZiD))))) (And.intro (And.intro (And.intro (And.intro @Zll @Zpz) (And.intro @ZpA (And.intro @ZpB @ZpC))) (And.intro (And.intro @Zlm @Zln) (And.intro @Zlo (And.intro @Zlp @Zlq)))) (And.intro (And.intro (And.intro @Zlr @Zls) (And.intro @Zlt (And.intro @Zlu @Zlv))) (And.intro (And.intro @Zlw @ZpD) (And.intro @ZpE (And.intro @bigN.eq_1 @fpart.eq_1))))))
set_option linter.defProp false in
def Zru:=(And.intro (And.intro (And.intro (And.intro (And.intro @fpart.eq_2 @okp.eq_1) (And.intro @okp.eq_2 (And.intro @zfill.eq_1 @zfill.eq_2))) (And.intro (And.intro @zobs.eq_1 @ptd.eq_1) (And.intro @ptd.eq_2 (And.intro @keyOf.eq_1 @keyOf.eq_2)))) (And.intro (And.intro (And.intro @freshK.eq_1 @freshK.eq_2) (And.intro @lk.eq_1 (And.intro @lk.eq_2 @pt.eq_1))) (And.intro (And.intro @pt.eq_2 @lkO.eq_1) (And.intro @lkO.eq_2 (And.intro @ptO.eq_1 @ptO.eq_2))))) (And.intro (And.intro (And.intro (And.intro @addO.eq_1 @addO.eq_2) (And.intro @xv.eq_1 (And.intro @xv.eq_2 @xv.eq_3))) (And.intro (And.intro @kv.eq_1 @kv.eq_2) (And.intro @kc.eq_1 (And.intro @kc.eq_2 @params.eq_1)))) (And.intro (And.intro (And.intro @params.eq_2 @trv.eq_1) (And.intro @trv.eq_2 (And.intro @List.length_cons.{0} @List.length_nil.{0}))) (And.intro (And.intro @Option.getD_some.{0} @Option.getD_none.{0}) (And.intro @true_and (And.intro @and_true @decide_eq_true_eq))))))
set_option linter.defProp false in
def Zrv:=(And.intro (And.intro (And.intro (And.intro (And.intro @decide_true @decide_false) (And.intro @Option.map_some.{0,0} (And.intro @Option.map_none.{0,0} @Option.isSome_some.{0}))) (And.intro (And.intro @Option.isSome_none.{0} @Option.isNone_some.{0}) (And.intro @Option.isNone_none.{0} (And.intro @List.map_cons.{0,0} @List.map_nil.{0,0})))) (And.intro (And.intro (And.intro @List.cons_append.{0} @List.nil_append.{0}) (And.intro @List.getElem?_cons_zero.{0} (And.intro @List.getElem?_cons_succ.{0} @List.drop_succ_cons.{0}))) (And.intro (And.intro @List.drop_zero.{0} @List.take_succ_cons.{0}) (And.intro @List.take_zero.{0} (And.intro @List.headD_cons.{0} @List.headD_nil.{0}))))) (And.intro (And.intro (And.intro (And.intro @List.tail_cons.{0} @List.tail_nil.{0}) (And.intro @noSh.eq_1 (And.intro @noSh.eq_2 @noSh.eq_3))) (And.intro (And.intro @noSh.eq_4 @noSh.eq_5) (And.intro @noSh.eq_6 (And.intro @noSh.eq_7 @noSh.eq_8)))) (And.intro (And.intro (And.intro @noShs.eq_1 @noShs.eq_2) (And.intro @isSc.eq_1 (And.intro @isSc.eq_2 @impv.eq_1))) (And.intro (And.intro @impv.eq_2 @impv.eq_3) (And.intro @impv.eq_4 (And.intro @impvs.eq_1 @impvs.eq_2))))))
set_option linter.defProp false in
def Zrw:=(And.intro (And.intro (And.intro (And.intro (And.intro @impc.eq_1 @impc.eq_2) (And.intro @memB.eq_1 (And.intro @memB.eq_2 @keepB.eq_1))) (And.intro (And.intro @keepB.eq_2 @keepOB.eq_1) (And.intro @keepOB.eq_2 (And.intro @or_true @true_or)))) (And.intro (And.intro (And.intro @or_false @false_or) (And.intro @Bool.false_eq_true (And.intro @Bool.true_eq_false @if_true.{1}))) (And.intro (And.intro @if_false.{1} @Bool.not_true) (And.intro @Bool.not_false (And.intro @scrE.eq_1 @scrE.eq_2))))) (And.intro (And.intro (And.intro (And.intro @scrL.eq_1 @scrL.eq_2) (And.intro @scr.eq_1 (And.intro @scr.eq_2 @scr.eq_3))) (And.intro (And.intro @scr.eq_4 @scr.eq_5) (And.intro @scr.eq_6 (And.intro @scr.eq_7 @scr.eq_8)))) (And.intro (And.intro (And.intro @scrs.eq_1 @scrs.eq_2) (And.intro @scrOb.eq_1 (And.intro @scrOb.eq_2 @rmO.eq_1))) (And.intro (And.intro @rmO.eq_2 @Int.toNat_natCast) (And.intro @Int.toNat_zero (And.intro @Int.toNat_one @List.all_cons.{0}))))))
set_option linter.defProp false in
def Zrx:=(And.intro (And.intro (And.intro (And.intro (And.intro @List.all_nil.{0} @isCell.eq_1) (And.intro @isCell.eq_2 (And.intro @isCell.eq_3 @isCell.eq_4))) (And.intro (And.intro @isCell.eq_5 @isCell.eq_6) (And.intro @Bool.and_true (And.intro @Bool.true_and @Bool.and_self)))) (And.intro (And.intro (And.intro @cellsOf.eq_1 @cellsOf.eq_2) (And.intro @totr.eq_1 (And.intro @totr.eq_2 @totr.eq_3))) (And.intro (And.intro @totr.eq_4 @totr.eq_5) (And.intro @totrs.eq_1 (And.intro @totrs.eq_2 @tocs.eq_1))))) (And.intro (And.intro (And.intro (And.intro @getp.eq_1 @getp.eq_2) (And.intro @cvt.eq_1 (And.intro @cvt.eq_2 @cvts.eq_1))) (And.intro (And.intro @cvts.eq_2 @Nat.zero_add) (And.intro @Nat.add_zero (And.intro @List.set_cons_zero.{0} @List.set_cons_succ.{0})))) (And.intro (And.intro (And.intro @Bool.not_eq_true' @Bool.not_eq_false') (And.intro @Int.natCast_nonneg (And.intro @Nat.le_refl @Prod.mk.injEq.{0,0}))) (And.intro (And.intro @ne_eq.{1} @not_false_eq_true) (And.intro @not_true_eq_false (And.intro @List.length_map.{0,0} @List.length_replicate.{0}))))))
set_option linter.defProp false in
def Zry:=(And.intro (And.intro @List.replicate_zero.{0} @and_false) (And.intro @false_and (And.intro @and_self @Int.cast_ofNat_Int)))
set_option linter.defProp false in
def EVA:=(And.intro (And.intro (And.intro (And.intro EV0 EV1) (And.intro EV2 EV3)) (And.intro (And.intro EV4 EV5) (And.intro EV6 EV7))) (And.intro (And.intro (And.intro EV8 EV9) (And.intro Zrt Zru)) (And.intro (And.intro Zrv Zrw) (And.intro Zrx Zry))))
abbrev oo(d:Nat)(x:O):OP:=⟨some d,none,x⟩
abbrev on1(x:O):OP:=⟨none,none,x⟩
abbrev og(d j:Nat)(w:Bool)(x:O):OP:=⟨some d,some (j,w),x⟩
abbrev om(d:Nat)(x:X):OP:=⟨some d,none,.mv x none⟩
abbrev rg(l:List OP):C2:=.rg none l
abbrev i6(n:Int):X:=.k (.int .i64 n)
end Go.Fd

/-
  WHAT IS KNOWN OF THE WORLD IN WHICH THE OUTERMOST CALL BEGAN: a table stands. Own work.
-/
namespace Go.Fd
instance tabsP:Tabs:=⟨fun w=>Go.Lib.TabIs Proofs.Tryz.prog w "internal/strconv.uint64pow10" .u64 Go.Lib.pow10Tab⟩
end Go.Fd

/-
  PLAIN WORDS FOR THE DATA, AND WHAT HOLDS OF THE HELPERS OF THE LAWS THAT ARE ALIKE FOR ALL KINDS OF SLICES. Own work.
-/
namespace Go.Fd
set_option maxRecDepth 10000
theorem Zn{c:Prop}[Decidable c]{p q:Prop}(h1:c->p)(h2:¬ c->q):if c then p else q:=by
 split
 ·exact h1 ‹_›
 ·exact h2 ‹_›
def szN(n:Nat)(left:Int):Int:=if left-n<0 then -1 else left-n
def szF{α:Type}(f:α->Int->Int):List α->Int->Int
 | [],l=>l
 | x::r,l=>if f x l<0 then -1 else szF f r (f x l)
def szL{α:Type}(f:α->Int->Int)(a:List α)(left:Int):Int:=if left-a.length<0 then -1 else szF f a (left-a.length)
def sz0:F2 :=
 { nt:=12,res:=[.t 4 [0]],body:=(.sq (.rg none [⟨some 4,none,.mv (.k (.int .i64 0)) none⟩]) (.sq (.rg none [⟨some 5,none,.mv (.t 1) none⟩,
   ⟨some 6,none,.mv (.t 0) none⟩,
   ⟨some 7,none,.ln (.t 6)⟩,
   ⟨some 8,none,.bi .sub 0 (.t 5) (.t 7)⟩,
   ⟨some 1,none,.mv (.t 8) none⟩]) (.sq (.sq (.rg none [⟨some 9,none,.mv (.t 1) none⟩,
    ⟨some 10,none,.bi .lss 0 (.t 9) (.k (.int .i64 0))⟩]) (.cd (.t 10) (.sq (.rg none [⟨some 4,none,.mv (.k (.int .i64 (-1))) none⟩]) (.rt)) (.sk))) (.sq (.rg none [⟨some 11,none,.mv (.t 1) none⟩,
   ⟨some 4,none,.mv (.t 11) none⟩]) (.rt))))) }
theorem ZiE{P:Program}{fid:FuncId}(hc:ZR P fid sz0=true)(es:Row)(left:Int)(h:es.length<=9223372036854775807)(h0:0<=left)(h1:left<=1048576)(lvl:Nat)(S:Sto) :
  Sem P fid lvl [.tr (.sl es),iI left] S (iI (szN es.length left)) S:=by
 refine Zc hc trivial ?_
 simp only[sz0,EVA,seval,Zf,men]
 refine⟨by rw[Zd];omega,?_⟩
 unfold szN
 split <;> rfl
def Zlx(k:Nat)(m:Option Nat)(fid:FuncId):F2 :=
 { nt:=27,res:=[.t 4 [0]],body:=(.sq (.rg none [⟨some 4,none,.mv (.k (.int .i64 0)) none⟩]) (.sq (.rg none [⟨some 6,none,.mv (.t 1) none⟩,
   ⟨some 7,none,.mv (.t 0) none⟩,
   ⟨some 8,none,.ln (.t 7)⟩,
   ⟨some 9,none,.bi .sub 0 (.t 6) (.t 8)⟩,
   ⟨some 1,none,.mv (.t 9) none⟩]) (.sq (.sq (.rg none [⟨some 10,none,.mv (.t 1) none⟩,
    ⟨some 11,none,.bi .lss 0 (.t 10) (.k (.int .i64 0))⟩]) (.cd (.t 11) (.sq (.rg none [⟨some 4,none,.mv (.k (.int .i64 (-1))) none⟩]) (.rt)) (.sk))) (.sq (.sq (.rg none [⟨some 5,none,.mv (.k (.int .i64 0)) none⟩]) (.bl 0 (.lp [0,1,5] [] (.sq (.sq (.rg none [⟨some 12,none,.mv (.t 5) none⟩,
     ⟨some 13,none,.mv (.t 0) none⟩,
     ⟨some 14,none,.ln (.t 13)⟩,
     ⟨some 15,none,.bi .lss 0 (.t 12) (.t 14)⟩]) (.cd (.t 15) (.sk) (.ex 0))) (.sq (.bl 1 (.sq (.rg none [⟨some 18,none,.mv (.t 0) none⟩,
      ⟨some 19,none,.mv (.t 5) none⟩,
      ⟨some 20,none,.ia k (.t 18) (.t 19)⟩,
      ⟨some 21,none,.ld m (.t 20)⟩,
      ⟨some 22,none,.mv (.t 1) none⟩,
      ⟨some 23,none,.ca .pure false (.f fid) [.t 21,.t 22]⟩,
      ⟨some 1,none,.mv (.t 23) none⟩]) (.sq (.rg none [⟨some 24,none,.mv (.t 1) none⟩,
      ⟨some 25,none,.bi .lss 0 (.t 24) (.k (.int .i64 0))⟩]) (.cd (.t 25) (.sq (.rg none [⟨some 4,none,.mv (.k (.int .i64 (-1))) none⟩]) (.rt)) (.sk))))) (.rg none [⟨some 16,none,.mv (.t 5) none⟩,
    ⟨some 17,none,.bi .add 0 (.t 16) (.k (.int .i64 1))⟩,
    ⟨some 5,none,.mv (.t 17) none⟩])))))) (.sq (.rg none [⟨some 26,none,.mv (.t 1) none⟩,
   ⟨some 4,none,.mv (.t 26) none⟩]) (.rt)))))) }
theorem Zbs{P:Program}{fid fe:FuncId}{k:Nat}(hc:ZR P fid (Zlx k (some k) fe)=true){α:Type}(c:α->List Tr)(f:α->Int->Int)(hk:∀ x,(c x).length=k)(a:List α)(left:Int)(h:a.length<=9223372036854775807)(h0:0<=left)(h1:left<=1048576)
  (hf:∀ x∈a,∀ l:Int,0<=l->l<=1048576->f x l<=l/\∀ lvl S,Sem P fe lvl [.ag ((c x).map .tr),iI l] S (iI (f x l)) S) (lvl:Nat) (S:Sto) :
  Sem P fid lvl [.tr (.sl (a.map c)),iI left] S (iI (szL f a left)) S:=by
 refine Zc hc trivial ?_
 simp only[Zlx,List.length_map,EVA,seval,Zf,men]
 refine⟨by rw[Zd];omega,?_⟩
 unfold szL
 split
 ·rfl
 ·rename_i hlt
  generalize hr:szF f a (left-a.length)=total
  refine Yq (α:=Int) a.length (fun j l=>⟨lvl,[(0,.tr (.sl (a.map c))),(1,iI l),(5,iI j)],[],S⟩) (fun j l=>0<=l/\l<=1048576/\szF f (a.drop j) l=total) (left-a.length) ⟨by simp only[EVA,seval,Zf,men],by (simp only[EVA,seval,Zf,men]) <;> rfl⟩ ⟨by omega,by omega,hr⟩ ?_
  intro j l hj ⟨hl0,hl1,hl⟩
  simp only[List.length_map,EVA,seval,Zf,men]
  split
  ·rename_i hlt
   have hja:j<a.length:=by omega
   have ga:(a.map c)[j]? = some (c a[j]):=by simp [hja]
   have hkk:=hk a[j]
   have htk:(c a[j]).take k=c a[j]:=List.take_of_length_le (by omega)
   rw[List.drop_eq_getElem_cons hja] at hl
   obtain⟨hle,hsem⟩:=hf a[j] (List.getElem_mem hja) l hl0 hl1
   simp only[ga,hkk,htk,Int.natCast_nonneg,Nat.le_refl,EVA,seval,Zf,men]
   refine Za hsem ?_
   simp only[EVA,seval,Zf,men]
   split
   ·rename_i hneg
    simp only[szF,if_pos hneg] at hl
    rw[hl]
   ·rename_i hneg
    simp only[szF,if_neg hneg] at hl
    refine⟨by rw[Zd];omega,Ze (f a[j] l) hja rfl ⟨by omega,by omega,hl⟩⟩
  ·rename_i hge
   have:j=a.length:=by omega
   subst this
   simp only[List.drop_length,szF] at hl
   rw[hl]
def ZpF:F2 :=
 { nt:=28,res:=[.t 4 [0]],body:=(.sq (.rg none [⟨some 4,none,.mv (.k (.int .i64 0)) none⟩]) (.sq (.rg none [⟨some 6,none,.mv (.t 1) none⟩,
   ⟨some 7,none,.mv (.t 0) none⟩,
   ⟨some 8,none,.ln (.t 7)⟩,
   ⟨some 9,none,.bi .sub 0 (.t 6) (.t 8)⟩,
   ⟨some 1,none,.mv (.t 9) none⟩]) (.sq (.sq (.rg none [⟨some 10,none,.mv (.t 1) none⟩,
    ⟨some 11,none,.bi .lss 0 (.t 10) (.k (.int .i64 0))⟩]) (.cd (.t 11) (.sq (.rg none [⟨some 4,none,.mv (.k (.int .i64 (-1))) none⟩]) (.rt)) (.sk))) (.sq (.sq (.rg none [⟨some 5,none,.mv (.k (.int .i64 0)) none⟩]) (.bl 0 (.lp [0,1,5] [] (.sq (.sq (.rg none [⟨some 12,none,.mv (.t 5) none⟩,
     ⟨some 13,none,.mv (.t 0) none⟩,
     ⟨some 14,none,.ln (.t 13)⟩,
     ⟨some 15,none,.bi .lss 0 (.t 12) (.t 14)⟩]) (.cd (.t 15) (.sk) (.ex 0))) (.sq (.bl 1 (.sq (.rg none [⟨some 18,none,.mv (.t 1) none⟩,
      ⟨some 19,none,.mv (.t 0) none⟩,
      ⟨some 20,none,.mv (.t 5) none⟩,
      ⟨some 21,none,.ia 1 (.t 19) (.t 20)⟩,
      ⟨some 22,none,.ld none (.t 21)⟩,
      ⟨some 23,none,.lg (.t 22)⟩,
      ⟨some 24,none,.bi .sub 0 (.t 18) (.t 23)⟩,
      ⟨some 1,none,.mv (.t 24) none⟩]) (.sq (.rg none [⟨some 25,none,.mv (.t 1) none⟩,
      ⟨some 26,none,.bi .lss 0 (.t 25) (.k (.int .i64 0))⟩]) (.cd (.t 26) (.sq (.rg none [⟨some 4,none,.mv (.k (.int .i64 (-1))) none⟩]) (.rt)) (.sk))))) (.rg none [⟨some 16,none,.mv (.t 5) none⟩,
    ⟨some 17,none,.bi .add 0 (.t 16) (.k (.int .i64 1))⟩,
    ⟨some 5,none,.mv (.t 17) none⟩])))))) (.sq (.rg none [⟨some 27,none,.mv (.t 1) none⟩,
   ⟨some 4,none,.mv (.t 27) none⟩]) (.rt)))))) }
theorem ZgP{P:Program}{fid:FuncId}(hc:ZR P fid ZpF=true)(a:List ByteArray)(left:Int)(h:a.length<=9223372036854775807)(h0:0<=left)(h1:left<=1048576)
  (hf:∀ x∈a,x.size<=9223372036854775807) (lvl:Nat) (S:Sto) :
  Sem P fid lvl [tS a,iI left] S (iI (szL (fun x l=>l-x.size) a left)) S:=by
 refine Zc hc trivial ?_
 simp only[ZpF,List.length_map,EVA,seval,Zf,men]
 refine⟨by rw[Zd];omega,?_⟩
 unfold szL
 split
 ·rfl
 ·rename_i hlt
  generalize hr:szF (fun(x:ByteArray) l=>l-x.size) a (left-a.length)=total
  refine Yq (α:=Int) a.length (fun j l=>⟨lvl,[(0,tS a),(1,iI l),(5,iI j)],[],S⟩) (fun j l=>0<=l/\l<=1048576/\szF (fun(x:ByteArray) l=>l-x.size) (a.drop j) l=total) (left-a.length) ⟨by simp only[EVA,seval,Zf,men],by (simp only[EVA,seval,Zf,men]) <;> rfl⟩ ⟨by omega,by omega,hr⟩ ?_
  intro j l hj ⟨hl0,hl1,hl⟩
  simp only[List.length_map,EVA,seval,Zf,men]
  split
  ·rename_i hlt
   have hja:j<a.length:=by omega
   have ga:(rS a)[j]? = some [ts a[j]]:=by simp [hja]
   rw[List.drop_eq_getElem_cons hja] at hl
   have hs:=hf a[j] (List.getElem_mem hja)
   simp only[ga,Int.natCast_nonneg,Nat.le_refl,EVA,seval,Zf,men]
   refine⟨by rw[Zd];omega,?_⟩
   split
   ·rename_i hneg
    simp only[szF,if_pos hneg] at hl
    rw[hl]
   ·rename_i hneg
    simp only[szF,if_neg hneg] at hl
    refine⟨by rw[Zd];omega,Ze (l-a[j].size) hja rfl ⟨by omega,by omega,hl⟩⟩
  ·rename_i hge
   have:j=a.length:=by omega
   subst this
   simp only[List.drop_length,szF] at hl
   rw[hl]
def Zly(k:Nat)(m:Option Nat)(fid:FuncId):F2 :=
 { nt:=27,res:=[.t 4 [0]],body:=(.sq (.rg none [⟨some 4,none,.mv (.k (.bool false)) none⟩]) (.sq (.sq (.rg none [⟨some 6,none,.mv (.t 0) none⟩,
    ⟨some 7,none,.ln (.t 6)⟩,
    ⟨some 8,none,.mv (.t 1) none⟩,
    ⟨some 9,none,.ln (.t 8)⟩,
    ⟨some 10,none,.bi .neq 0 (.t 7) (.t 9)⟩]) (.cd (.t 10) (.sq (.rg none [⟨some 4,none,.mv (.k (.bool false)) none⟩]) (.rt)) (.sk))) (.sq (.sq (.rg none [⟨some 5,none,.mv (.k (.int .i64 0)) none⟩]) (.bl 0 (.lp [0,1,5] [] (.sq (.sq (.rg none [⟨some 11,none,.mv (.t 5) none⟩,
     ⟨some 12,none,.mv (.t 0) none⟩,
     ⟨some 13,none,.ln (.t 12)⟩,
     ⟨some 14,none,.bi .lss 0 (.t 11) (.t 13)⟩]) (.cd (.t 14) (.sk) (.ex 0))) (.sq (.bl 1 (.sq (.rg (some 0) [⟨some 17,none,.mv (.t 0) none⟩,
      ⟨some 18,none,.mv (.t 5) none⟩,
      ⟨some 19,none,.ia k (.t 17) (.t 18)⟩,
      ⟨some 20,none,.ld m (.t 19)⟩,
      ⟨some 21,none,.mv (.t 1) none⟩,
      ⟨some 22,none,.mv (.t 5) none⟩,
      ⟨some 23,none,.ia k (.t 21) (.t 22)⟩,
      ⟨some 24,none,.ld m (.t 23)⟩,
      ⟨some 25,none,.ca .pure false (.f fid) [.t 20,.t 24]⟩,
      ⟨some 26,none,.nt (.t 25)⟩]) (.cd (.t 26) (.sq (.rg none [⟨some 4,none,.mv (.k (.bool false)) none⟩]) (.rt)) (.sk)))) (.rg none [⟨some 15,none,.mv (.t 5) none⟩,
    ⟨some 16,none,.bi .add 0 (.t 15) (.k (.int .i64 1))⟩,
    ⟨some 5,none,.mv (.t 16) none⟩])))))) (.sq (.rg none [⟨some 4,none,.mv (.k (.bool true)) none⟩]) (.rt))))) }
theorem XN{α:Type}{a b:List α}{j:Nat}(ha:j<a.length)(hb:j<b.length)(h:a[j]≠b[j]):a≠b:=by
 intro e;subst e;exact h rfl
theorem QD{α:Type}{a b:List α}(hl:a.length=b.length)(h:a.take a.length=b.take a.length):a=b:=by
 rw[List.take_length,hl,List.take_length] at h;exact h
theorem VW{α:Type}{a b:List α}{j:Nat}(ha:j<a.length)(hb:j<b.length)(h:a.take j=b.take j)(e:a[j]=b[j]):a.take (j+1)=b.take (j+1):=by
 rw[List.take_succ_eq_append_getElem ha,List.take_succ_eq_append_getElem hb,h,e]
theorem Zbt{P:Program}{fid fe:FuncId}{k:Nat}(hc:ZR P fid (Zly k (some k) fe)=true){α:Type}[DecidableEq α](c:α->List Tr)(hk:∀ x,(c x).length=k)(a b:List α)(ha:a.length<=9223372036854775807)
  (hf:∀ x∈a,∀ y∈b,∀ lvl S,Sem P fe lvl [.ag ((c x).map .tr),.ag ((c y).map .tr)] S (iB (decide (x=y))) S) (lvl:Nat) (S:Sto) :
  Sem P fid lvl [.tr (.sl (a.map c)),.tr (.sl (b.map c))] S (iB (decide (a=b))) S:=by
 refine Zc hc trivial ?_
 simp only[Zly,List.length_map,EVA,seval,Zf,men]
 split
 ·rename_i h
  have:¬ a=b:=fun e=>h (by rw[e])
  simp [this]
 ·rename_i h
  have hlen:a.length=b.length:=by omega
  refine Yq (α:=Unit) a.length (fun j _=>⟨lvl,[(0,.tr (.sl (a.map c))),(1,.tr (.sl (b.map c))),(5,iI j)],[],S⟩) (fun j _=>a.take j=b.take j) () ⟨by simp only[EVA,seval,Zf,men],by (simp only[EVA,seval,Zf,men]) <;> rfl⟩ rfl ?_
  intro j _ hj hA
  simp only[List.length_map,EVA,seval,Zf,men]
  split
  ·rename_i hlt
   have hja:j<a.length:=by omega
   have hjb:j<b.length:=by omega
   have ga:(a.map c)[j]? = some (c a[j]):=by simp [hja]
   have gb:(b.map c)[j]? = some (c b[j]):=by simp [hjb]
   have hka:=hk a[j]
   have hkb:=hk b[j]
   have hta:(c a[j]).take k=c a[j]:=List.take_of_length_le (by omega)
   have htb:(c b[j]).take k=c b[j]:=List.take_of_length_le (by omega)
   have hsem:=hf a[j] (List.getElem_mem hja) b[j] (List.getElem_mem hjb)
   simp only[ga,gb,hka,hkb,hta,htb,Int.natCast_nonneg,Nat.le_refl,EVA,seval,Zf,men]
   refine Za hsem ?_
   simp only[Bool.not_eq_true',EVA,seval,Zf,men]
   split
   ·rename_i hne
    have:¬ a=b:=XN hja hjb (by simpa using hne)
    simp [this]
   ·rename_i he
    refine⟨by rw[Zd];omega,Ze () hja rfl (VW hja hjb hA (by simpa using he))⟩
  ·rename_i hge
   have:j=a.length:=by omega
   subst this
   have:a=b:=QD hlen hA
   simp [this]
def ZiX:F2 :=
 { nt:=26,res:=[.t 4 [0]],body:=(.sq (.rg none [⟨some 4,none,.mv (.k (.bool false)) none⟩]) (.sq (.sq (.rg none [⟨some 6,none,.mv (.t 0) none⟩,
    ⟨some 7,none,.ln (.t 6)⟩,
    ⟨some 8,none,.mv (.t 1) none⟩,
    ⟨some 9,none,.ln (.t 8)⟩,
    ⟨some 10,none,.bi .neq 0 (.t 7) (.t 9)⟩]) (.cd (.t 10) (.sq (.rg none [⟨some 4,none,.mv (.k (.bool false)) none⟩]) (.rt)) (.sk))) (.sq (.sq (.rg none [⟨some 5,none,.mv (.k (.int .i64 0)) none⟩]) (.bl 0 (.lp [0,1,5] [] (.sq (.sq (.rg none [⟨some 11,none,.mv (.t 5) none⟩,
     ⟨some 12,none,.mv (.t 0) none⟩,
     ⟨some 13,none,.ln (.t 12)⟩,
     ⟨some 14,none,.bi .lss 0 (.t 11) (.t 13)⟩]) (.cd (.t 14) (.sk) (.ex 0))) (.sq (.bl 1 (.sq (.rg (some 0) [⟨some 17,none,.mv (.t 0) none⟩,
      ⟨some 18,none,.mv (.t 5) none⟩,
      ⟨some 19,none,.ia 1 (.t 17) (.t 18)⟩,
      ⟨some 20,none,.ld none (.t 19)⟩,
      ⟨some 21,none,.mv (.t 1) none⟩,
      ⟨some 22,none,.mv (.t 5) none⟩,
      ⟨some 23,none,.ia 1 (.t 21) (.t 22)⟩,
      ⟨some 24,none,.ld none (.t 23)⟩,
      ⟨some 25,none,.bi .neq 0 (.t 20) (.t 24)⟩]) (.cd (.t 25) (.sq (.rg none [⟨some 4,none,.mv (.k (.bool false)) none⟩]) (.rt)) (.sk)))) (.rg none [⟨some 15,none,.mv (.t 5) none⟩,
    ⟨some 16,none,.bi .add 0 (.t 15) (.k (.int .i64 1))⟩,
    ⟨some 5,none,.mv (.t 16) none⟩])))))) (.sq (.rg none [⟨some 4,none,.mv (.k (.bool true)) none⟩]) (.rt))))) }
theorem ZiF{P:Program}{fid:FuncId}(hc:ZR P fid ZiX=true)(a b:List Int)(ha:a.length<=9223372036854775807)(lvl:Nat)(S:Sto):Sem P fid lvl [tI a,tI b] S (iB (decide (a=b))) S:=by
 refine Zc hc trivial ?_
 simp only[ZiX,List.length_map,EVA,seval,Zf,men]
 split
 ·rename_i h
  have:¬ a=b:=fun e=>h (by rw[e])
  simp [this]
 ·rename_i h
  have hlen:a.length=b.length:=by omega
  refine Yq (α:=Unit) a.length (fun j _=>⟨lvl,[(0,tI a),(1,tI b),(5,iI j)],[],S⟩) (fun j _=>a.take j=b.take j) () ⟨by simp only[EVA,seval,Zf,men],by (simp only[EVA,seval,Zf,men]) <;> rfl⟩ rfl ?_
  intro j _ hj hA
  simp only[List.length_map,EVA,seval,Zf,men]
  split
  ·rename_i hlt
   have hja:j<a.length:=by omega
   have hjb:j<b.length:=by omega
   have ga:(rI a)[j]? = some [tv a[j]]:=by simp [hja]
   have gb:(rI b)[j]? = some [tv b[j]]:=by simp [hjb]
   simp only[ga,gb,Int.natCast_nonneg,Nat.le_refl,EVA,seval,Zf,men]
   split
   ·rename_i hne
    have:¬ a=b:=XN hja hjb (by simpa using hne)
    simp [this]
   ·rename_i he
    refine⟨by rw[Zd];omega,Ze () hja rfl (VW hja hjb hA (by simpa using he))⟩
  ·rename_i hge
   have:j=a.length:=by omega
   subst this
   have:a=b:=QD hlen hA
   simp [this]
theorem ZiG{P:Program}{fid:FuncId}(hc:ZR P fid ZiX=true)(a b:List ByteArray)(ha:a.length<=9223372036854775807)(lvl:Nat)(S:Sto):Sem P fid lvl [tS a,tS b] S (iB (decide (a=b))) S:=by
 refine Zc hc trivial ?_
 simp only[ZiX,List.length_map,EVA,seval,Zf,men]
 split
 ·rename_i h
  have:¬ a=b:=fun e=>h (by rw[e])
  simp [this]
 ·rename_i h
  have hlen:a.length=b.length:=by omega
  refine Yq (α:=Unit) a.length (fun j _=>⟨lvl,[(0,tS a),(1,tS b),(5,iI j)],[],S⟩) (fun j _=>a.take j=b.take j) () ⟨by simp only[EVA,seval,Zf,men],by (simp only[EVA,seval,Zf,men]) <;> rfl⟩ rfl ?_
  intro j _ hj hA
  simp only[List.length_map,EVA,seval,Zf,men]
  split
  ·rename_i hlt
   have hja:j<a.length:=by omega
   have hjb:j<b.length:=by omega
   have ga:(rS a)[j]? = some [ts a[j]]:=by simp [hja]
   have gb:(rS b)[j]? = some [ts b[j]]:=by simp [hjb]
   simp only[ga,gb,Int.natCast_nonneg,Nat.le_refl,EVA,seval,Zf,men]
   split
   ·rename_i hne
    have:¬ a=b:=XN hja hjb (by simpa using hne)
    simp [this]
   ·rename_i he
    refine⟨by rw[Zd];omega,Ze () hja rfl (VW hja hjb hA (by simpa using he))⟩
  ·rename_i hge
   have:j=a.length:=by omega
   subst this
   have:a=b:=QD hlen hA
   simp [this]
def Ju{α:Type}(c:α->List Tr)(z:List Tr)(a:List α)(j:Nat):Row:=(a.take j).map c++List.replicate (a.length-j) z
theorem Vw{α:Type}(c:α->List Tr)(z:List Tr)(a:List α):Ju c z a 0=List.replicate a.length z:=by simp [Ju]
theorem Ql{α:Type}(c:α->List Tr)(z:List Tr)(a:List α):Ju c z a a.length=a.map c:=by simp [Ju]
theorem QE{α:Type}{c:α->List Tr}{z:List Tr}{a:List α}{j:Nat}(h:j<=a.length):(Ju c z a j).length=a.length:=by
 simp [Ju];omega
theorem Qm{α:Type}{c:α->List Tr}{z:List Tr}{a:List α}{j:Nat}(h:j<a.length):(Ju c z a j)[j]? = some z:=by
 unfold Ju
 have h1:((a.take j).map c).length=j:=by rw[List.length_map,List.length_take];omega
 rw[List.getElem?_append_right (by omega),h1,Nat.sub_self,List.getElem?_replicate]
 rw[if_pos (by omega)]
theorem Qn{α:Type}{c:α->List Tr}{z e:List Tr}{a:List α}{j:Nat}(h:j<a.length)(he:e=c a[j]):(Ju c z a j).set j e=Ju c z a (j+1):=by
 subst he
 unfold Ju
 have h1:((a.take j).map c).length=j:=by simp;omega
 rw[List.set_append_right _ _ (by omega),h1,Nat.sub_self,show a.length-j=(a.length-(j+1))+1 from by omega,List.replicate_succ,List.set_cons_zero,List.take_succ_eq_append_getElem h,List.map_append]
 simp
def ZiY(z:Value):F2 :=
 { nt:=22,res:=[.t 2 [2]],body:=(.sq (.rg none [⟨some 2,none,.mv (.k (.slice none 0 0)) none⟩]) (.sq (.rg none [⟨some 5,none,.mv (.t 0) none⟩,
   ⟨some 6,none,.ln (.t 5)⟩,
   ⟨some 7,none,.ms 1 [z] (.t 6)⟩,
   ⟨some 3,none,.mv (.t 7) none⟩]) (.sq (.sq (.rg none [⟨some 4,none,.mv (.k (.int .i64 0)) none⟩]) (.bl 0 (.lp [0,3,4] [224] (.sq (.sq (.rg none [⟨some 8,none,.mv (.t 4) none⟩,
     ⟨some 9,none,.mv (.t 0) none⟩,
     ⟨some 10,none,.ln (.t 9)⟩,
     ⟨some 11,none,.bi .lss 0 (.t 8) (.t 10)⟩]) (.cd (.t 11) (.sk) (.ex 0))) (.sq (.bl 1 (.rg none [⟨some 14,none,.mv (.t 3) none⟩,
     ⟨some 15,none,.mv (.t 4) none⟩,
     ⟨some 16,none,.mv (.t 0) none⟩,
     ⟨some 17,none,.mv (.t 4) none⟩,
     ⟨some 18,none,.ia 1 (.t 16) (.t 17)⟩,
     ⟨some 19,none,.ld none (.t 18)⟩,
     ⟨some 20,none,.ia 1 (.t 14) (.t 15)⟩,
     ⟨none,none,.st 1 (.t 20) (.t 19)⟩])) (.rg none [⟨some 12,none,.mv (.t 4) none⟩,
    ⟨some 13,none,.bi .add 0 (.t 12) (.k (.int .i64 1))⟩,
    ⟨some 4,none,.mv (.t 13) none⟩])))))) (.sq (.rg none [⟨some 21,none,.mv (.t 3) none⟩,
   ⟨some 2,none,.mv (.t 21) none⟩]) (.rt))))) }
theorem ZiH{P:Program}{fid:FuncId}(hc:ZR P fid (ZiY (.int .i64 0))=true)(a:List Int)(ha:a.length<=4294967296)(lvl:Nat)(S:Sto):Sem P fid lvl [tI a] S (.ow 1 (rI a) true) S:=by
 refine Zc hc trivial ?_
 simp only[ZiY,List.length_map,bigN,Int.natCast_nonneg,EVA,seval,Zf,men]
 refine⟨by omega,?_⟩
 refine Yq (α:=Unit) a.length (fun j _=>⟨lvl,[(0,tI a),(3,.hd (lvl,224) [] 0 a.length none a.length),(4,iI j)],[(224,.ar 1 (Ju (fun n=>[tv n]) [tv 0] a j) true a.length 0)],S⟩) (fun _ _=>True) () ⟨by simp only[EVA,seval,Zf,men],by (simp only[Vw,EVA,seval,Zf,men]) <;> rfl⟩ trivial ?_
 intro j _ hj _
 simp only[List.length_map,EVA,seval,Zf,men]
 split
 ·rename_i hlt
  have hja:j<a.length:=by omega
  have ga:(rI a)[j]? = some [tv a[j]]:=by simp [hja]
  have gz:(Ju (fun n=>[tv n]) [tv 0] a j)[j]? = some [tv 0]:=Qm hja
  simp only[ga,gz,Int.natCast_nonneg,Nat.le_refl,hja,YG,List.set_cons_zero,Xf,EVA,seval,Zf,men]
  refine⟨by rw[Zd];omega,Ze () hja ?_ trivial⟩
  rw[Qn hja rfl]
  rfl
 ·rename_i hge
  have:j=a.length:=by omega
  subst this
  rw[Ql]
  simp
theorem ZiI{P:Program}{fid:FuncId}(hc:ZR P fid (ZiY (.string ⟨#[]⟩))=true)(a:List ByteArray)(ha:a.length<=4294967296)(lvl:Nat)(S:Sto):Sem P fid lvl [tS a] S (.ow 1 (rS a) true) S:=by
 refine Zc hc trivial ?_
 simp only[ZiY,List.length_map,bigN,Int.natCast_nonneg,EVA,seval,Zf,men]
 refine⟨by omega,?_⟩
 refine Yq (α:=Unit) a.length (fun j _=>⟨lvl,[(0,tS a),(3,.hd (lvl,224) [] 0 a.length none a.length),(4,iI j)],[(224,.ar 1 (Ju (fun n=>[ts n]) [ts ⟨#[]⟩] a j) true a.length 0)],S⟩) (fun _ _=>True) () ⟨by simp only[EVA,seval,Zf,men],by (simp only[Vw,EVA,seval,Zf,men]) <;> rfl⟩ trivial ?_
 intro j _ hj _
 simp only[List.length_map,EVA,seval,Zf,men]
 split
 ·rename_i hlt
  have hja:j<a.length:=by omega
  have ga:(rS a)[j]? = some [ts a[j]]:=by simp [hja]
  have gz:(Ju (fun n=>[ts n]) [ts ⟨#[]⟩] a j)[j]? = some [ts ⟨#[]⟩]:=Qm hja
  simp only[ga,gz,Int.natCast_nonneg,Nat.le_refl,hja,YG,List.set_cons_zero,Xf,EVA,seval,Zf,men]
  refine⟨by rw[Zd];omega,Ze () hja ?_ trivial⟩
  rw[Qn hja rfl]
  rfl
 ·rename_i hge
  have:j=a.length:=by omega
  subst this
  rw[Ql]
  simp
end Go.Fd

/-
  THE LAWS' HELPERS AT SLICES WHOSE ELEMENTS ARE ONE CELL. Own work.
-/
namespace Go.Fd
set_option maxRecDepth 10000
end Go.Fd

/-
  FOUNDATION 49: rows at a path; functions that mark what they are handed. Own work.
-/
namespace Go.Fd
variable [Tabs]
section mark
variable {α:Type} (m:α->Int->α) (n:α->Nat)
def mL:List α->Int->List α
 | [],_=>[]
 | x::r,k=>m x k::mL r (k+n x)
theorem ZW:∀(a:List α) (k:Int),(mL m n a k).length=a.length
 | [],_=>rfl
 | x::r,k=>by simp only[mL,List.length_cons,ZW r]
end mark
end Go.Fd

/-
  HOW MANY MARKS A THING TAKES, AGAINST ITS SIZE. Own work.
-/
namespace Go.Fd
def Xg(l:Int)(g:Int->Int):Int:=if l<0 then -1 else g l
end Go.Fd

/-
  THE DATA OF THE LAWS: plain types, how they lie in memory (printed by lawgen.py). Own work.
-/
namespace Go.Fd
set_option maxRecDepth 10000
structure TNode where
 control:Int
 parent:Int
 links:(List Int)
 deriving DecidableEq
def ZN(x:TNode):List Tr:=[tv x.control,tv x.parent,.sl (rI x.links)]
theorem ZfA(x:TNode):(ZN x).length=3:=rfl
def ZgQ(x:TNode):IV:=.ag [iI x.control,iI x.parent,.ow 1 (rI x.links) true]
def Xh(n:Nat)(x:TNode):Prop:=x.links.length<=n
def ZfB(x:TNode):Prop:=XR .i64 x.control/\XR .i64 x.parent/\(∀ y∈x.links,XR .i64 y)
def Xi(x:TNode)(l:Int):Int:=Xg (szN x.links.length l) fun l=>l
structure TWire where
 name:ByteArray
 link:Int
 deriving DecidableEq
def ZX(x:TWire):List Tr:=[ts x.name,tv x.link]
theorem ZfC(x:TWire):(ZX x).length=2:=rfl
def ZgR(x:TWire):IV:=.ag [iS x.name,iI x.link]
def QP(n:Nat)(x:TWire):Prop:=x.name.size<=n
def ZfD(x:TWire):Prop:=XR .i64 x.link
def Xj(x:TWire)(l:Int):Int:=Xg (l-x.name.size) fun l=>l
structure TBigraph where
 roots:Int
 nodes:(List TNode)
 sites:(List Int)
 edges:Int
 outer:(List ByteArray)
 inner:(List TWire)
 deriving DecidableEq
def Zb(x:TBigraph):List Tr:=[tv x.roots,.sl (x.nodes.map ZN),.sl (rI x.sites),tv x.edges,.sl (rS x.outer),.sl (x.inner.map ZX)]
def Z7(x:TBigraph):IV:=.ag [iI x.roots,.ow 3 (x.nodes.map ZN) true,.ow 1 (rI x.sites) true,iI x.edges,.ow 1 (rS x.outer) true,.ow 2 (x.inner.map ZX) true]
def Jb(n:Nat)(x:TBigraph):Prop:=x.nodes.length<=n/\(∀ y∈x.nodes,Xh n y)/\x.sites.length<=n/\x.outer.length<=n/\(∀ y∈x.outer,y.size<=n)/\x.inner.length<=n/\(∀ y∈x.inner,QP n y)
def Xk(x:TBigraph):Prop:=XR .i64 x.roots/\(∀ y∈x.nodes,ZfB y)/\(∀ y∈x.sites,XR .i64 y)/\XR .i64 x.edges/\(∀ y∈x.inner,ZfD y)
def J2(x:TBigraph)(l:Int):Int:=Xg (szL Xi x.nodes l) fun l=>Xg (szN x.sites.length l) fun l=>Xg (szL (fun x m=>m-x.size) x.outer l) fun l=>Xg (szL Xj x.inner l) fun l=>l
structure TRule where
 redex:TBigraph
 reactum:TBigraph
 copies:(List Int)
 deriving DecidableEq
def ZH(x:TRule):List Tr:=[tv x.redex.roots,.sl (x.redex.nodes.map ZN),.sl (rI x.redex.sites),tv x.redex.edges,.sl (rS x.redex.outer),.sl (x.redex.inner.map ZX),tv x.reactum.roots,.sl (x.reactum.nodes.map ZN),.sl (rI x.reactum.sites),tv x.reactum.edges,.sl (rS x.reactum.outer),.sl (x.reactum.inner.map ZX),.sl (rI x.copies)]
def Wa(x:TRule):IV:=.ag [iI x.redex.roots,.ow 3 (x.redex.nodes.map ZN) true,.ow 1 (rI x.redex.sites) true,iI x.redex.edges,.ow 1 (rS x.redex.outer) true,.ow 2 (x.redex.inner.map ZX) true,iI x.reactum.roots,.ow 3 (x.reactum.nodes.map ZN) true,.ow 1 (rI x.reactum.sites) true,iI x.reactum.edges,.ow 1 (rS x.reactum.outer) true,.ow 2 (x.reactum.inner.map ZX) true,.ow 1 (rI x.copies) true]
def QQ(n:Nat)(x:TRule):Prop:=Jb n x.redex/\Jb n x.reactum/\x.copies.length<=n
def ZaB(x:TRule):Prop:=Xk x.redex/\Xk x.reactum/\(∀ y∈x.copies,XR .i64 y)
def ZaC(x:TRule)(l:Int):Int:=Xg (J2 x.redex l) fun l=>Xg (J2 x.reactum l) fun l=>Xg (szN x.copies.length l) fun l=>l
structure TControl where
 name:ByteArray
 ports:Int
 kind_:Int
 deriving DecidableEq
def Zj(x:TControl):List Tr:=[ts x.name,tv x.ports,tv x.kind_]
theorem UG(x:TControl):(Zj x).length=3:=rfl
def U3(x:TControl):IV:=.ag [iS x.name,iI x.ports,iI x.kind_]
def Zu(n:Nat)(x:TControl):Prop:=x.name.size<=n
def Zcw(x:TControl):Prop:=XR .i64 x.ports/\XR .i64 x.kind_
def Jl(x:TControl)(l:Int):Int:=Xg (l-x.name.size) fun l=>l
end Go.Fd

/-
  The numbers of the functions of this program, by name (printed by ids.py).
-/
namespace Go.Fd
abbrev Yf:FuncId:=3
abbrev Ya:FuncId:=4
abbrev Vx:FuncId:=5
abbrev YJ:FuncId:=6
abbrev ZY:FuncId:=7
abbrev JD:FuncId:=8
abbrev YK:FuncId:=9
abbrev Yb:FuncId:=10
abbrev Vy:FuncId:=11
abbrev Yr:FuncId:=12
abbrev Jv:FuncId:=13
abbrev JE:FuncId:=14
abbrev Vz:FuncId:=15
abbrev VA:FuncId:=16
abbrev Ys:FuncId:=17
abbrev Jw:FuncId:=18
abbrev JF:FuncId:=19
abbrev VB:FuncId:=20
abbrev YL:FuncId:=21
abbrev Yt:FuncId:=22
abbrev Jx:FuncId:=23
abbrev JG:FuncId:=24
abbrev YZ:FuncId:=25
abbrev Yu:FuncId:=26
abbrev Y0:FuncId:=27
abbrev Y1:FuncId:=28
abbrev Yv:FuncId:=29
abbrev JS:FuncId:=30
abbrev YM:FuncId:=31
abbrev Yw:FuncId:=32
abbrev Jm:FuncId:=33
abbrev Y2:FuncId:=34
abbrev Yx:FuncId:=35
abbrev Y3:FuncId:=36
abbrev VC:FuncId:=37
abbrev Y4:FuncId:=38
abbrev Jf:FuncId:=39
abbrev Zy:FuncId:=40
abbrev YN:FuncId:=41
abbrev Zv:FuncId:=42
abbrev Z9:FuncId:=43
abbrev Jc:FuncId:=44
abbrev Y5:FuncId:=45
abbrev Yy:FuncId:=46
abbrev Y6:FuncId:=47
abbrev VD:FuncId:=48
abbrev VE:FuncId:=49
abbrev Y7:FuncId:=50
abbrev V8:FuncId:=51
abbrev ZE:FuncId:=52
abbrev J5:FuncId:=53
abbrev Y8:FuncId:=54
abbrev VF:FuncId:=55
abbrev J6:FuncId:=56
abbrev Yz:FuncId:=57
abbrev Zw:FuncId:=58
abbrev VG:FuncId:=59
abbrev VH:FuncId:=60
abbrev Jy:FuncId:=61
abbrev ZZ:FuncId:=62
abbrev Jj:FuncId:=63
abbrev Jz:FuncId:=64
abbrev JH:FuncId:=65
abbrev J7:FuncId:=66
abbrev VI:FuncId:=67
abbrev VJ:FuncId:=68
abbrev VK:FuncId:=69
abbrev J8:FuncId:=70
abbrev VL:FuncId:=71
abbrev YA:FuncId:=72
abbrev JT:FuncId:=73
abbrev JN:FuncId:=74
abbrev Z2:FuncId:=75
abbrev ZO:FuncId:=76
abbrev JU:FuncId:=77
abbrev ZT:FuncId:=78
abbrev JV:FuncId:=79
abbrev ZJ:FuncId:=80
abbrev JW:FuncId:=81
abbrev Z8:FuncId:=82
abbrev QR:FuncId:=83
abbrev Y9:FuncId:=87
abbrev VM:FuncId:=88
abbrev YB:FuncId:=89
abbrev ZA:FuncId:=90
abbrev Z3:FuncId:=91
abbrev ZL:FuncId:=92
abbrev QT:FuncId:=96
abbrev ZF:FuncId:=97
abbrev qM(d a:Nat):OP:=om d (.t a)
abbrev qL(d a:Nat):OP:=oo d (.ld none (.t a))
abbrev qF(d o a:Nat):OP:=oo d (.fa o (.t a))
abbrev qN(d a:Nat):OP:=oo d (.ln (.t a))
abbrev qS(d k a:Nat):OP:=oo d (.ld (some k) (.t a))
abbrev qE(d i a:Nat):OP:=oo d (.ex i (.t a))
abbrev qI(d k a b:Nat):OP:=oo d (.ia k (.t a) (.t b))
abbrev qB(d:Nat)(o:BinOp)(a b:Nat):OP:=oo d (.bi o 0 (.t a) (.t b))
end Go.Fd

/-
  The annotated codes of the functions, printed by a program of mine (gen.py), and the check that they belong to the program.
-/
namespace Go.Fd
def Xl:F2 :=
 { nt:=13,res:=[.t 4 [0],.t 5 [0]],body:=(.sq (rg [oo 3 (.bt (.t 1)),om 4 (.k (.string ⟨#[]⟩)),om 5 (.k (.bool false))]) (.sq (.sq (rg [qM 6 0,qS 7 13 3,oo 8 (.ca .pure false (.f Vz) [.t 6,.t 7]),oo 9 (.nt (.t 8))]) (.cd (.t 9) (.sq (rg [om 4 (.k (.string ⟨#[]⟩)),om 5 (.k (.bool false))]) (.rt)) (.sk))) (.sq (rg [qM 10 0,qS 11 13 3,oo 12 (.ca .pure false (.f VA) [.t 10,.t 11]),qM 4 12,om 5 (.k (.bool true))]) (.rt)))) }
theorem Dw:ZR Proofs.Tryz.prog YJ Xl=true:=by kernel_rfl
def Xm:F2 :=
 { nt:=13,res:=[.t 4 [0],.t 5 [0]],body:=(.sq (rg [oo 3 (.bt (.t 1)),om 4 (.k (.string ⟨#[]⟩)),om 5 (.k (.bool false))]) (.sq (.sq (rg [qM 6 0,qS 7 13 3,oo 8 (.ca .pure false (.f VB) [.t 6,.t 7]),oo 9 (.nt (.t 8))]) (.cd (.t 9) (.sq (rg [om 4 (.k (.string ⟨#[]⟩)),om 5 (.k (.bool false))]) (.rt)) (.sk))) (.sq (rg [qM 10 0,qS 11 13 3,oo 12 (.ca .pure false (.f YL) [.t 10,.t 11]),qM 4 12,om 5 (.k (.bool true))]) (.rt)))) }
theorem Dx:ZR Proofs.Tryz.prog YK Xm=true:=by kernel_rfl
def WB:F2 :=
 { nt:=44,res:=[.t 4 [0]],body:=(.sq (rg [oo 3 (.bt (.t 1)),om 4 (.k (.bool false))]) (.sq (rg [qM 5 0,qF 6 0 3,qS 7 6 6,oo 8 (.ca .pure false (.f Y1) [.t 5,.t 7]),qM 9 8,og 10 9 true (.mv (.t 0) none),og 11 9 true (.fa 6 (.t 3)),og 12 9 true (.ld (some 6) (.t 11)),og 13 9 true (.ca .pure false (.f Yv) [.t 10,.t 12]),oo 14 (.pk (.t 9) (.t 13) (.k (.bool false))),qM 15 14,og 16 15 true (.fa 6 (.t 3)),og 17 15 true (.fa 5 (.t 16)),og 18 15 true (.ld none (.t 17)),og 19 15 true (.ln (.t 18)),og 20 15 true (.bi .eql 0 (.t 19) (i6 0)),oo 21 (.pk (.t 15) (.t 20) (.k (.bool false))),qM 22 21,og 23 22 true (.fa 0 (.t 3)),og 24 22 true (.fa 0 (.t 23)),og 25 22 true (.ld none (.t 24)),og 26 22 true (.fa 6 (.t 3)),og 27 22 true (.fa 0 (.t 26)),og 28 22 true (.ld none (.t 27)),og 29 22 true (.bi .eql 0 (.t 25) (.t 28)),oo 30 (.pk (.t 22) (.t 29) (.k (.bool false))),qM 31 30,og 32 31 true (.fa 0 (.t 3)),og 33 31 true (.fa 4 (.t 32)),og 34 31 true (.ld none (.t 33)),og 35 31 true (.fa 6 (.t 3)),og 36 31 true (.fa 4 (.t 35)),og 37 31 true (.ld none (.t 36)),og 38 31 true (.ca .pure false (.f JS) [.t 34,.t 37]),oo 39 (.pk (.t 31) (.t 38) (.k (.bool false))),qM 40 39,og 41 40 true (.ld (some 13) (.t 3)),og 42 40 true (.ca .pure false (.f YM) [.t 41]),oo 43 (.pk (.t 40) (.t 42) (.k (.bool false))),qM 4 43]) (.rt))) }
theorem Zbu:ZR Proofs.Tryz.prog Vz WB=true:=by kernel_rfl
def WC:F2 :=
 { nt:=20,res:=[.t 4 [0]],body:=(.sq (rg [oo 3 (.bt (.t 1)),om 4 (.k (.string ⟨#[]⟩))]) (.sq (.rg (some 0) [qM 5 0,qF 6 0 3,qS 7 6 6,oo 8 (.ca .pure false (.f Yw) [.t 5,.t 7]),oo 9 (.bi .add 0 (.t 8) (.k (.string ⟨#[32,45,62,32]⟩))),qM 10 0,qF 11 6 3,qS 12 6 11,oo 13 (.ca .pure false (.f Yw) [.t 10,.t 12]),qB 14 .add 9 13,oo 15 (.bi .add 0 (.t 14) (.k (.string ⟨#[32,124]⟩))),qF 16 12 3,qL 17 16,oo 18 (.ca .pure false (.f Jm) [.t 17]),qB 19 .add 15 18,qM 4 19]) (.rt))) }
theorem Zbv:ZR Proofs.Tryz.prog VA WC=true:=by kernel_rfl
def WD:F2 :=
 { nt:=59,res:=[.t 4 [0]],body:=(.sq (rg [oo 3 (.bt (.t 1)),om 4 (.k (.bool false))]) (.sq (.sq (rg [qM 5 0,qF 6 0 3,qS 7 6 6,qF 8 6 3,qS 9 6 8,oo 10 (.ca .pure false (.f VC) [.t 5,.t 7,.t 9]),oo 11 (.nt (.t 10)),qM 12 11,og 13 12 false (.fa 0 (.t 3)),og 14 12 false (.ld (some 6) (.t 13)),og 15 12 false (.ca .pure false (.f Y4) [.t 14]),og 16 12 false (.nt (.t 15)),oo 17 (.pk (.t 12) (.k (.bool true)) (.t 16)),qM 18 17,og 19 18 false (.fa 6 (.t 3)),og 20 18 false (.fa 5 (.t 19)),og 21 18 false (.ld none (.t 20)),og 22 18 false (.ln (.t 21)),og 23 18 false (.bi .gtr 0 (.t 22) (i6 0)),oo 24 (.pk (.t 18) (.k (.bool true)) (.t 23)),qM 25 24,og 26 25 false (.fa 0 (.t 3)),og 27 25 false (.fa 0 (.t 26)),og 28 25 false (.ld none (.t 27)),og 29 25 false (.fa 6 (.t 3)),og 30 25 false (.fa 0 (.t 29)),og 31 25 false (.ld none (.t 30)),og 32 25 false (.bi .neq 0 (.t 28) (.t 31)),oo 33 (.pk (.t 25) (.k (.bool true)) (.t 32)),qM 34 33,og 35 34 false (.fa 0 (.t 3)),og 36 34 false (.fa 4 (.t 35)),og 37 34 false (.ld none (.t 36)),og 38 34 false (.fa 6 (.t 3)),og 39 34 false (.fa 4 (.t 38)),og 40 34 false (.ld none (.t 39)),og 41 34 false (.ca .pure false (.f Jf) [.t 37,.t 40]),og 42 34 false (.nt (.t 41)),oo 43 (.pk (.t 34) (.k (.bool true)) (.t 42))]) (.cd (.t 43) (.sq (rg [om 4 (.k (.bool false))]) (.rt)) (.sk))) (.sq (rg [qF 44 12 3,qL 45 44,qN 46 45,qF 47 6 3,qF 48 2 47,qL 49 48,qN 50 49,qB 51 .eql 46 50,qM 52 51,og 53 52 true (.fa 12 (.t 3)),og 54 52 true (.ld none (.t 53)),og 55 52 true (.mf YN [.t 3]),og 56 52 true (.ca .pure false (.f Zy) [.t 54,.t 55]),og 57 52 true (.nt (.t 56)),oo 58 (.pk (.t 52) (.t 57) (.k (.bool false))),qM 4 58]) (.rt)))) }
theorem Zbw:ZR Proofs.Tryz.prog VB WD=true:=by kernel_rfl
def Xn:F2 :=
 { nt:=19,res:=[.t 4 [0]],body:=(.sq (rg [oo 3 (.bt (.t 1)),om 4 (.k (.string ⟨#[]⟩))]) (.sq (.rg (some 0) [qM 5 0,qF 6 0 3,qS 7 6 6,oo 8 (.ca .pure false (.f Z9) [.t 5,.t 7]),oo 9 (.bi .add 0 (.t 8) (.k (.string ⟨#[32,45,62,32]⟩))),qM 10 0,qF 11 6 3,qS 12 6 11,oo 13 (.ca .pure false (.f Z9) [.t 10,.t 12]),oo 14 (.bi .add 0 (.t 13) (.k (.string ⟨#[32,124]⟩))),qF 15 12 3,qL 16 15,oo 17 (.ca .pure false (.f Jc) [.t 14,.t 16]),qB 18 .add 9 17,qM 4 18]) (.rt))) }
theorem Dy:ZR Proofs.Tryz.prog YL Xn=true:=by kernel_rfl
def XZ:F2 :=
 { nt:=12,res:=[.t 4 [0]],body:=(.sq (rg [oo 3 (.bt (.t 1)),om 4 (.k (.bool false))]) (.sq (rg [qM 5 0,qS 6 6 3,oo 7 (.ca .pure false (.f Yv) [.t 5,.t 6]),qM 8 7,og 9 8 true (.ld (some 6) (.t 3)),og 10 8 true (.ca .pure false (.f Y7) [.t 9]),oo 11 (.pk (.t 8) (.t 10) (.k (.bool false))),qM 4 11]) (.rt))) }
theorem D7:ZR Proofs.Tryz.prog Y1 XZ=true:=by kernel_rfl
def WE:F2 :=
 { nt:=98,res:=[.t 4 [0]],body:=(.sq (rg [oo 3 (.bt (.t 1)),om 4 (.k (.bool false))]) (.sq (.sq (rg [qM 8 0,oo 9 (.ca .pure false (.f V8) [.t 8]),oo 10 (.nt (.t 9)),qM 11 10,og 12 11 false (.fa 0 (.t 3)),og 13 11 false (.ld none (.t 12)),og 14 11 false (.ca .pure false (.f ZE) [.t 13,i6 0,i6 4]),og 15 11 false (.nt (.t 14)),oo 16 (.pk (.t 11) (.k (.bool true)) (.t 15)),qM 17 16,og 18 17 false (.fa 1 (.t 3)),og 19 17 false (.ld none (.t 18)),og 20 17 false (.ln (.t 19)),og 21 17 false (.bi .gtr 0 (.t 20) (i6 8)),oo 22 (.pk (.t 17) (.k (.bool true)) (.t 21)),qM 23 22,og 24 23 false (.fa 2 (.t 3)),og 25 23 false (.ld none (.t 24)),og 26 23 false (.ln (.t 25)),og 27 23 false (.bi .gtr 0 (.t 26) (i6 4)),oo 28 (.pk (.t 23) (.k (.bool true)) (.t 27)),qM 29 28,og 30 29 false (.fa 3 (.t 3)),og 31 29 false (.ld none (.t 30)),og 32 29 false (.ca .pure false (.f ZE) [.t 31,i6 0,i6 8]),og 33 29 false (.nt (.t 32)),oo 34 (.pk (.t 29) (.k (.bool true)) (.t 33))]) (.cd (.t 34) (.sq (rg [om 4 (.k (.bool false))]) (.rt)) (.sk))) (.sq (.sq (rg [qF 35 4 3,qL 36 35,oo 37 (.ca .pure false (.f J5) [.t 36]),oo 38 (.nt (.t 37)),qM 39 38,og 40 39 false (.fa 5 (.t 3)),og 41 39 false (.ld none (.t 40)),og 42 39 false (.ln (.t 41)),og 43 39 false (.bi .gtr 0 (.t 42) (i6 16)),oo 44 (.pk (.t 39) (.k (.bool true)) (.t 43)),qM 45 44,og 46 45 false (.ld (some 6) (.t 3)),og 47 45 false (.ca .pure false (.f Y8) [.t 46]),og 48 45 false (.ca .pure false (.f J5) [.t 47]),og 49 45 false (.nt (.t 48)),oo 50 (.pk (.t 45) (.k (.bool true)) (.t 49))]) (.cd (.t 50) (.sq (rg [om 4 (.k (.bool false))]) (.rt)) (.sk))) (.sq (.sq (rg [om 5 (i6 0)]) (.bl 0 (.lp [0,3,5] [] (.sq (.sq (rg [qM 51 5,qF 52 1 3,qL 53 52,qN 54 53,qB 55 .lss 51 54]) (.cd (.t 55) (.sk) (.ex 0))) (.sq (.bl 1 (.sq (rg [qM 58 0,qS 59 6 3,qM 60 5,oo 61 (.ca .pure false (.f VF) [.t 58,.t 59,.t 60]),oo 62 (.nt (.t 61))]) (.cd (.t 62) (.sq (rg [om 4 (.k (.bool false))]) (.rt)) (.sk))))
 (rg [qM 56 5,oo 57 (.bi .add 0 (.t 56) (i6 1)),qM 5 57])))))) (.sq (.sq (rg [om 6 (i6 0)]) (.bl 2 (.lp [0,3,6] [] (.sq (.sq (rg [qM 63 6,qF 64 2 3,qL 65 64,qN 66 65,qB 67 .lss 63 66]) (.cd (.t 67) (.sk) (.ex 2))) (.sq (.bl 3 (.sq (.rg (some 0) [qM 70 0,qS 71 6 3,qF 72 2 3,qL 73 72,qM 74 6,qI 75 1 73 74,qL 76 75,qF 77 1 3,qL 78 77,qN 79 78,oo 80 (.ca .pure false (.f J6) [.t 70,.t 71,.t 76,.t 79]),oo 81 (.nt (.t 80))]) (.cd (.t 81) (.sq (rg [om 4 (.k (.bool false))]) (.rt)) (.sk))))
 (rg [qM 68 6,oo 69 (.bi .add 0 (.t 68) (i6 1)),qM 6 69])))))) (.sq (.sq (rg [om 7 (i6 0)]) (.bl 4 (.lp [3,7] [] (.sq (.sq (rg [qM 82 7,qF 83 5 3,qL 84 83,qN 85 84,qB 86 .lss 82 85]) (.cd (.t 86) (.sk) (.ex 4))) (.sq (.bl 5 (.sq (.rg (some 0) [qS 89 6 3,qF 90 5 3,qL 91 90,qM 92 7,qI 93 2 91 92,qF 94 1 93,qL 95 94,oo 96 (.ca .pure false (.f Yz) [.t 89,.t 95]),oo 97 (.nt (.t 96))]) (.cd (.t 97) (.sq (rg [om 4 (.k (.bool false))]) (.rt)) (.sk))))
 (rg [qM 87 7,oo 88 (.bi .add 0 (.t 87) (i6 1)),qM 7 88])))))) (.sq (rg [om 4 (.k (.bool true))]) (.rt)))))))) }
theorem Zbx:ZR Proofs.Tryz.prog Yv WE=true:=by kernel_rfl
def VX:F2 :=
 { nt:=32,res:=[.t 4 [0]],body:=(.sq (rg [om 4 (.k (.bool false))]) (.sq (.sq (rg [om 5 (i6 0)]) (.bl 0 (.lp [0,1,5] [] (.sq (.sq (rg [qM 6 5,qM 7 0,qN 8 7,qB 9 .lss 6 8,qM 10 9,og 11 10 true (.mv (.t 5) none),og 12 10 true (.mv (.t 1) none),og 13 10 true (.ln (.t 12)),og 14 10 true (.bi .lss 0 (.t 11) (.t 13)),oo 15 (.pk (.t 10) (.t 14) (.k (.bool false)))]) (.cd (.t 15) (.sk) (.ex 0))) (.sq (.bl 1 (.sq (.rg (some 0) [qM 18 0,qM 19 5,qI 20 1 18 19,qL 21 20,qM 22 1,qM 23 5,qI 24 1 22 23,qL 25 24,qB 26 .neq 21 25]) (.cd (.t 26) (.sq (rg [om 4 (.k (.bool false))]) (.rt)) (.sk))))
 (rg [qM 16 5,oo 17 (.bi .add 0 (.t 16) (i6 1)),qM 5 17])))))) (.sq (rg [qM 27 0,qN 28 27,qM 29 1,qN 30 29,qB 31 .eql 28 30,qM 4 31]) (.rt)))) }
theorem WF:ZR Proofs.Tryz.prog JS VX=true:=by kernel_rfl
def Xo:F2 :=
 { nt:=31,res:=[.t 2 [0]],body:=(.sq (rg [oo 1 (.bt (.t 0)),om 2 (.k (.bool false))]) (.sq (.sq (rg [om 3 (i6 0)]) (.bl 0 (.lp [1,3] [] (.sq (.sq (rg [qM 4 3,qF 5 12 1,qL 6 5,qN 7 6,qB 8 .lss 4 7]) (.cd (.t 8) (.sk) (.ex 0))) (.sq (.bl 1 (.sq (.rg (some 0) [qF 11 12 1,qL 12 11,qM 13 3,qI 14 1 12 13,qL 15 14,qF 16 0 1,qF 17 2 16,qL 18 17,qN 19 18,oo 20 (.bi .sub 0 (.t 19) (i6 1)),oo 21 (.ca .pure false (.f ZE) [.t 15,i6 0,.t 20]),oo 22 (.nt (.t 21))]) (.cd (.t 22) (.sq (rg [om 2 (.k (.bool false))]) (.rt)) (.sk))))
 (rg [qM 9 3,oo 10 (.bi .add 0 (.t 9) (i6 1)),qM 3 10])))))) (.sq (rg [qF 23 12 1,qL 24 23,qN 25 24,qF 26 6 1,qF 27 2 26,qL 28 27,qN 29 28,qB 30 .eql 25 29,qM 2 30]) (.rt)))) }
theorem Dz:ZR Proofs.Tryz.prog YM Xo=true:=by kernel_rfl
def WG:F2 :=
 { nt:=99,res:=[.t 4 [0]],body:=(.sq (rg [oo 3 (.bt (.t 1)),om 4 (.k (.string ⟨#[]⟩))]) (.sq (rg [qF 10 0 3,qL 11 10,oo 12 (.ca .pure false (.f Zw) [.t 11]),oo 13 (.bi .add 0 (.t 12) (.k (.string ⟨#[59,32]⟩))),qM 5 13]) (.sq (.sq (rg [om 6 (i6 0)]) (.bl 0 (.lp [0,3,5,6] [] (.sq (.sq (rg [qM 14 6,qF 15 1 3,qL 16 15,qN 17 16,qB 18 .lss 14 17]) (.cd (.t 18) (.sk) (.ex 0))) (.sq (.bl 1 (.sq (rg [qF 21 1 3,qL 22 21,qM 23 6,qI 24 3 22 23,qS 25 3 24,oo 7 (.al [.int .i64 0,.int .i64 0,.slice none 0 0] []),on1 (.st 3 (.t 7) (.t 25))]) (.rg (some 0) [qM 26 5,qM 27 0,qF 28 0 7,qL 29 28,qI 30 3 27 29,qF 31 0 30,qL 32 31,qB 33 .add 26 32,oo 34 (.bi .add 0 (.t 33) (.k (.string ⟨#[64]⟩))),qF 35 1 7,qL 36 35,oo 37 (.ca .pure false (.f Zw) [.t 36]),qB 38 .add 34 37,qF 39 2 7,qL 40 39,oo 41 (.ca .pure false (.f Jm) [.t 40]),qB 42 .add 38 41,oo 43 (.bi .add 0 (.t 42) (.k (.string ⟨#[59,32]⟩))),qM 5 43])))
 (rg [qM 19 6,oo 20 (.bi .add 0 (.t 19) (i6 1)),qM 6 20])))))) (.sq (.rg (some 0) [qM 44 5,oo 45 (.bi .add 0 (.t 44) (.k (.string ⟨#[115,105,116,101,115]⟩))),qF 46 2 3,qL 47 46,oo 48 (.ca .pure false (.f Jm) [.t 47]),qB 49 .add 45 48,oo 50 (.bi .add 0 (.t 49) (.k (.string ⟨#[59,32]⟩))),qF 51 3 3,qL 52 51,oo 53 (.ca .pure false (.f Zw) [.t 52]),qB 54 .add 50 53,oo 55 (.bi .add 0 (.t 54) (.k (.string ⟨#[59,32,111,117,116,101,114]⟩))),qM 5 55]) (.sq (.sq (rg [om 8 (i6 0)]) (.bl 2 (.lp [3,5,8] [] (.sq (.sq (rg [qM 56 8,qF 57 4 3,qL 58 57,qN 59 58,qB 60 .lss 56 59]) (.cd (.t 60) (.sk) (.ex 2))) (.sq (.bl 3 (rg [qM 63 5,oo 64 (.bi .add 0 (.t 63) (.k (.string ⟨#[32]⟩))),qF 65 4 3,qL 66 65,qM 67 8,qI 68 1 66 67,qL 69 68,qB 70 .add 64 69,qM 5 70]))
 (rg [qM 61 8,oo 62 (.bi .add 0 (.t 61) (i6 1)),qM 8 62])))))) (.sq (rg [qM 71 5,oo 72 (.bi .add 0 (.t 71) (.k (.string ⟨#[59,32,105,110,110,101,114]⟩))),qM 5 72]) (.sq (.sq (rg [om 9 (i6 0)]) (.bl 4 (.lp [3,5,9] [] (.sq (.sq (rg [qM 73 9,qF 74 5 3,qL 75 74,qN 76 75,qB 77 .lss 73 76]) (.cd (.t 77) (.sk) (.ex 4))) (.sq (.bl 5 (.rg (some 0) [qM 80 5,oo 81 (.bi .add 0 (.t 80) (.k (.string ⟨#[32]⟩))),qF 82 5 3,qL 83 82,qM 84 9,qI 85 2 83 84,qF 86 0 85,qL 87 86,qB 88 .add 81 87,oo 89 (.bi .add 0 (.t 88) (.k (.string ⟨#[61]⟩))),qF 90 5 3,qL 91 90,qM 92 9,qI 93 2 91 92,qF 94 1 93,qL 95 94,oo 96 (.ca .pure false (.f Zw) [.t 95]),qB 97 .add 89 96,qM 5 97]))
 (rg [qM 78 9,oo 79 (.bi .add 0 (.t 78) (i6 1)),qM 9 79])))))) (.sq (rg [qM 98 5,qM 4 98]) (.rt))))))))) }
theorem Zby:ZR Proofs.Tryz.prog Yw WG=true:=by kernel_rfl
def X0:F2 :=
 { nt:=20,res:=[.t 2 [0]],body:=(.sq (rg [om 2 (.k (.string ⟨#[]⟩))]) (.sq (rg [om 3 (.k (.string ⟨#[]⟩))]) (.sq (.sq (rg [om 4 (i6 0)]) (.bl 0 (.lp [0,3,4] [] (.sq (.sq (rg [qM 5 4,qM 6 0,qN 7 6,qB 8 .lss 5 7]) (.cd (.t 8) (.sk) (.ex 0))) (.sq (.bl 1 (rg [qM 11 3,oo 12 (.bi .add 0 (.t 11) (.k (.string ⟨#[32]⟩))),qM 13 0,qM 14 4,qI 15 1 13 14,qL 16 15,oo 17 (.ca .pure false (.f Zw) [.t 16]),qB 18 .add 12 17,qM 3 18]))
 (rg [qM 9 4,oo 10 (.bi .add 0 (.t 9) (i6 1)),qM 4 10])))))) (.sq (rg [qM 19 3,qM 2 19]) (.rt))))) }
theorem D8:ZR Proofs.Tryz.prog Jm X0=true:=by kernel_rfl
def WH:F2 :=
 { nt:=15,res:=[.t 6 [0]],body:=(.sq (rg [oo 4 (.bt (.t 1)),oo 5 (.bt (.t 2)),om 6 (.k (.bool false))]) (.sq (rg [qM 7 0,qS 8 6 4,oo 9 (.ca .pure false (.f Jy) [.t 7,.t 8]),qM 10 9,og 11 10 true (.mv (.t 0) none),og 12 10 true (.ld (some 6) (.t 5)),og 13 10 true (.ca .pure false (.f Jy) [.t 11,.t 12]),oo 14 (.pk (.t 10) (.t 13) (.k (.bool false))),qM 6 14]) (.rt))) }
theorem Zbz:ZR Proofs.Tryz.prog VC WH=true:=by kernel_rfl
def X1:F2 :=
 { nt:=62,res:=[.t 2 [0]],body:=(.sq (rg [oo 1 (.bt (.t 0)),om 2 (.k (.bool false))]) (.sq (.sq (rg [qF 7 5 1,qL 8 7,qN 9 8,oo 10 (.bi .gtr 0 (.t 9) (i6 0)),qM 11 10,og 12 11 false (.fa 0 (.t 1)),og 13 11 false (.ld none (.t 12)),og 14 11 false (.bi .eql 0 (.t 13) (i6 0)),oo 15 (.pk (.t 11) (.k (.bool true)) (.t 14))]) (.cd (.t 15) (.sq (rg [om 2 (.k (.bool false))]) (.rt)) (.sk))) (.sq (.sq (rg [qF 16 0 1,qL 17 16,oo 18 (.ng (.t 17)),qM 3 18]) (.bl 0 (.lp [1,3] [] (.sq (.sq (rg [qM 19 3,qF 20 1 1,qL 21 20,qN 22 21,qB 23 .lss 19 22]) (.cd (.t 23) (.sk) (.ex 0))) (.sq (.bl 1 (.sq (rg [qS 27 6 1,qM 28 3,oo 29 (.ca .pure false (.f ZZ) [.t 27,.t 28]),qM 26 29,qE 30 0 26,qE 31 1 26,qM 4 30,qM 5 31]) (.sq (rg [qM 32 3,oo 33 (.bi .lss 0 (.t 32) (i6 0)),qM 34 33,og 35 34 true (.mv (.t 4) none),og 36 34 true (.ln (.t 35)),og 37 34 true (.bi .eql 0 (.t 36) (i6 0)),og 38 34 true (.mv (.t 37) none),og 39 38 false (.mv (.t 5) none),og 40 38 false (.ln (.t 39)),og 41 38 false (.bi .gtr 0 (.t 40) (i6 0)),og 42 34 true (.pk (.t 38) (.k (.bool true)) (.t 41)),oo 43 (.pk (.t 34) (.t 42) (.k (.bool false))),qM 44 43,og 45 44 false (.mv (.t 5) none),og 46 44 false (.ln (.t 45)),og 47 44 false (.bi .gtr 0 (.t 46) (i6 1)),oo 48 (.pk (.t 44) (.k (.bool true)) (.t 47))]) (.cd (.t 48) (.sq (rg [om 2 (.k (.bool false))]) (.rt)) (.sk)))))
 (rg [qM 24 3,oo 25 (.bi .add 0 (.t 24) (i6 1)),qM 3 25])))))) (.sq (.sq (rg [qF 49 3 1,qL 50 49,qF 51 4 1,qL 52 51,qN 53 52,qB 54 .add 50 53,om 55 (i6 0)]) (.bl 2 (.lp [1,54,55] [] (.sq (rg [qB 56 .lss 55 54]) (.sq (.cd (.t 56) (.sk) (.ex 2)) (.sq (.bl 3 (.sq (rg [qM 57 55,qM 6 57]) (.sq (rg [qS 58 6 1,qM 59 6,oo 60 (.ca .pure false (.f Jj) [.t 58,.t 59])]) (.cd (.t 60) (.sq (rg [om 2 (.k (.bool false))]) (.rt)) (.sk)))))
 (rg [oo 61 (.bi .add 0 (.t 55) (i6 1)),qM 55 61]))))))) (.sq (rg [om 2 (.k (.bool true))]) (.rt)))))) }
theorem D9:ZR Proofs.Tryz.prog Y4 X1=true:=by kernel_rfl
def Xp:F2 :=
 { nt:=12,res:=[.t 3 [0]],body:=(.sq (rg [om 3 (.k (.bool false))]) (.sq (rg [qM 4 0,qF 5 0 1,qF 6 2 5,qL 7 6,qN 8 7,oo 9 (.bi .sub 0 (.t 8) (i6 1)),oo 10 (.ca .pure false (.f Zv) [.t 4,i6 0,.t 9]),oo 11 (.nt (.t 10)),qM 3 11]) (.rt))) }
theorem DA:ZR Proofs.Tryz.prog YN Xp=true:=by kernel_rfl
def WI:F2 :=
 { nt:=15,res:=[.t 6 [0]],body:=(.sq (rg [om 6 (.k (.bool false))]) (.sq (rg [qM 7 0,qM 8 1,qB 9 .geq 7 8,qM 10 9,og 11 10 true (.mv (.t 0) none),og 12 10 true (.mv (.t 2) none),og 13 10 true (.bi .leq 0 (.t 11) (.t 12)),oo 14 (.pk (.t 10) (.t 13) (.k (.bool false))),qM 6 14]) (.rt))) }
theorem ZbA:ZR Proofs.Tryz.prog Zv WI=true:=by kernel_rfl
def VY:F2 :=
 { nt:=77,res:=[.t 4 [0]],body:=(.sq (rg [oo 3 (.bt (.t 1)),om 4 (.k (.string ⟨#[]⟩))]) (.sq (rg [qF 11 0 3,qL 12 11,oo 13 (.ca .pure false (.f JH) [.t 12]),oo 14 (.bs 1 1 [.string ⟨#[]⟩] [(0,.t 13)]),qM 5 14]) (.sq (.sq (rg [qF 15 1 3,qL 16 15,qN 17 16,om 18 (i6 0)]) (.bl 0 (.lp [0,3,5,16,17,18] [448,1216,1696] (.sq (rg [qB 19 .lss 18 17]) (.sq (.cd (.t 19) (.sk) (.ex 0)) (.sq (.bl 1 (.sq (rg [qI 20 3 16 18,qS 21 3 20,oo 7 (.al [.int .i64 0,.int .i64 0,.slice none 0 0] []),on1 (.st 3 (.t 7) (.t 21))]) (.rg (some 0) [qM 22 5,qM 23 0,qF 24 0 7,qL 25 24,qI 26 3 23 25,qF 27 0 26,qL 28 27,oo 29 (.bi .add 0 (.t 28) (.k (.string ⟨#[64]⟩))),qF 30 1 7,qL 31 30,oo 32 (.ca .pure false (.f JH) [.t 31]),qB 33 .add 29 32,qF 34 2 7,qL 35 34,oo 36 (.ca .pure false (.f Jc) [.t 33,.t 35]),oo 37 (.bs 1 1 [.string ⟨#[]⟩] [(0,.t 36)]),oo 38 (.ap 1 0 (.t 22) (.t 37)),qM 5 38])))
 (rg [oo 39 (.bi .add 0 (.t 18) (i6 1)),qM 18 39]))))))) (.sq (.rg (some 0) [qM 40 5,qF 41 2 3,qL 42 41,oo 43 (.ca .pure false (.f Jc) [.k (.string ⟨#[115,105,116,101,115]⟩),.t 42]),qF 44 3 3,qL 45 44,oo 46 (.ca .pure false (.f JH) [.t 45]),oo 47 (.bs 1 1 [.string ⟨#[]⟩] [(0,.k (.string ⟨#[111,117,116,101,114]⟩))]),qF 48 4 3,qL 49 48,oo 50 (.a0 1 (.t 47) (.t 49)),oo 51 (.ca .pure false (.f J7) [.t 50,.k (.string ⟨#[32]⟩)]),oo 52 (.bs 1 3 [.string ⟨#[]⟩] [(0,.t 43),(1,.t 46),(2,.t 51)]),oo 53 (.ap 1 0 (.t 40) (.t 52)),qM 5 53]) (.sq (rg [om 8 (.k (.string ⟨#[105,110,110,101,114]⟩))]) (.sq (.sq (rg [qF 54 5 3,qL 55 54,qN 56 55,om 57 (i6 0)]) (.bl 2 (.lp [5,8,55,56,57] [448,1216,1696] (.sq (rg [qB 58 .lss 57 56]) (.sq (.cd (.t 58) (.sk) (.ex 2)) (.sq (.bl 3 (.sq (rg [qI 59 2 55 57,qS 60 2 59,oo 10 (.al [.string ⟨#[]⟩,.int .i64 0] []),on1 (.st 2 (.t 10) (.t 60))]) (.rg (some 0) [qM 61 8,qF 62 0 10,qL 63 62,oo 64 (.bi .add 0 (.k (.string ⟨#[32]⟩)) (.t 63)),oo 65 (.bi .add 0 (.t 64) (.k (.string ⟨#[61]⟩))),qF 66 1 10,qL 67 66,oo 68 (.ca .pure false (.f JH) [.t 67]),qB 69 .add 65 68,qB 70 .add 61 69,qM 8 70])))
 (rg [oo 71 (.bi .add 0 (.t 57) (i6 1)),qM 57 71]))))))) (.sq (rg [qM 72 5,qM 73 8,oo 74 (.bs 1 1 [.string ⟨#[]⟩] [(0,.t 73)]),oo 75 (.ap 1 0 (.t 72) (.t 74)),oo 76 (.ca .pure false (.f J7) [.t 75,.k (.string ⟨#[59,32]⟩)]),qM 4 76]) (.rt)))))))) }
theorem WJ:ZR Proofs.Tryz.prog Z9 VY=true:=by kernel_rfl
def Xq:F2 :=
 { nt:=20,res:=[.t 4 [0]],body:=(.sq (rg [om 4 (.k (.string ⟨#[]⟩))]) (.sq (.sq (rg [qM 7 1,qN 8 7,om 9 (i6 0)]) (.bl 0 (.lp [0,7,8,9] [] (.sq (rg [qB 10 .lss 9 8]) (.sq (.cd (.t 10) (.sk) (.ex 0)) (.sq (.bl 1 (.sq (rg [qI 11 1 7 9,qL 12 11,qM 6 12])
 (rg [qM 13 0,qM 14 6,oo 15 (.ca .pure false (.f JH) [.t 14]),oo 16 (.bi .add 0 (.k (.string ⟨#[32]⟩)) (.t 15)),qB 17 .add 13 16,qM 0 17])))
 (rg [oo 18 (.bi .add 0 (.t 9) (i6 1)),qM 9 18]))))))) (.sq (rg [qM 19 0,qM 4 19]) (.rt)))) }
theorem DB:ZR Proofs.Tryz.prog Jc Xq=true:=by kernel_rfl
def X2:F2 :=
 { nt:=60,res:=[.t 2 [0]],body:=(.sq (rg [oo 1 (.bt (.t 0)),om 2 (.k (.bool false))]) (.sq (.sq (rg [qF 6 5 1,qL 7 6,qN 8 7,oo 9 (.bi .gtr 0 (.t 8) (i6 0)),qM 10 9,og 11 10 false (.fa 0 (.t 1)),og 12 10 false (.ld none (.t 11)),og 13 10 false (.bi .eql 0 (.t 12) (i6 0)),oo 14 (.pk (.t 10) (.k (.bool true)) (.t 13))]) (.cd (.t 14) (.sq (rg [om 2 (.k (.bool false))]) (.rt)) (.sk))) (.sq (.sq (rg [om 3 (i6 0)]) (.bl 0 (.lp [1,3] [] (.sq (.sq (rg [qM 15 3,qF 16 0 1,qL 17 16,qB 18 .lss 15 17]) (.cd (.t 18) (.sk) (.ex 0))) (.sq (.bl 1 (.sq (rg [qS 21 6 1,qM 22 3,oo 23 (.bi .sub 0 (i6 (-1)) (.t 22)),oo 24 (.ca .pure false (.f VK) [.t 21,.t 23]),qN 25 24,oo 26 (.bi .eql 0 (.t 25) (i6 0)),qM 27 26,og 28 27 false (.ld (some 6) (.t 1)),og 29 27 false (.mv (.t 3) none),og 30 27 false (.bi .sub 0 (i6 (-1)) (.t 29)),og 31 27 false (.ca .pure false (.f J8) [.t 28,.t 30]),og 32 27 false (.ln (.t 31)),og 33 27 false (.bi .gtr 0 (.t 32) (i6 0)),oo 34 (.pk (.t 27) (.k (.bool true)) (.t 33))]) (.cd (.t 34) (.sq (rg [om 2 (.k (.bool false))]) (.rt)) (.sk))))
 (rg [qM 19 3,oo 20 (.bi .add 0 (.t 19) (i6 1)),qM 3 20])))))) (.sq (.sq (rg [om 4 (i6 0)]) (.bl 2 (.lp [1,4] [] (.sq (.sq (rg [qM 35 4,qF 36 1 1,qL 37 36,qN 38 37,qB 39 .lss 35 38]) (.cd (.t 39) (.sk) (.ex 2))) (.sq (.bl 3 (.sq (rg [qS 42 6 1,qM 43 4,oo 44 (.ca .pure false (.f J8) [.t 42,.t 43]),qN 45 44,oo 46 (.bi .gtr 0 (.t 45) (i6 1))]) (.cd (.t 46) (.sq (rg [om 2 (.k (.bool false))]) (.rt)) (.sk))))
 (rg [qM 40 4,oo 41 (.bi .add 0 (.t 40) (i6 1)),qM 4 41])))))) (.sq (.sq (rg [om 5 (i6 0)]) (.bl 4 (.lp [1,5] [] (.sq (.sq (rg [qM 47 5,qF 48 3 1,qL 49 48,qF 50 4 1,qL 51 50,qN 52 51,qB 53 .add 49 52,qB 54 .lss 47 53]) (.cd (.t 54) (.sk) (.ex 4))) (.sq (.bl 5 (.sq (rg [qS 57 6 1,qM 58 5,oo 59 (.ca .pure false (.f VL) [.t 57,.t 58])]) (.cd (.t 59) (.sq (rg [om 2 (.k (.bool false))]) (.rt)) (.sk))))
 (rg [qM 55 5,oo 56 (.bi .add 0 (.t 55) (i6 1)),qM 5 56])))))) (.sq (rg [om 2 (.k (.bool true))]) (.rt))))))) }
theorem Zaa:ZR Proofs.Tryz.prog Y7 X2=true:=by kernel_rfl
def UH:F2 :=
 { nt:=55,res:=[.t 2 [0]],body:=(.sq (rg [om 2 (.k (.bool false))]) (.sq (.sq (rg [om 3 (i6 0)]) (.bl 0 (.lp [0,3] [] (.sq (.sq (rg [qM 5 3,qM 6 0,qN 7 6,qB 8 .lss 5 7]) (.cd (.t 8) (.sk) (.ex 0))) (.sq (.bl 1 (.sq (.sq (rg [qM 11 0,qM 12 3,qI 13 3 11 12,qF 14 0 13,qL 15 14,oo 16 (.ca .pure false (.f YA) [.t 15]),oo 17 (.nt (.t 16)),qM 18 17,og 19 18 false (.mv (.t 0) none),og 20 18 false (.mv (.t 3) none),og 21 18 false (.ia 3 (.t 19) (.t 20)),og 22 18 false (.fa 1 (.t 21)),og 23 18 false (.ld none (.t 22)),og 24 18 false (.ca .pure false (.f ZE) [.t 23,i6 0,i6 3]),og 25 18 false (.nt (.t 24)),oo 26 (.pk (.t 18) (.k (.bool true)) (.t 25)),qM 27 26,og 28 27 false (.mv (.t 0) none),og 29 27 false (.mv (.t 3) none),og 30 27 false (.ia 3 (.t 28) (.t 29)),og 31 27 false (.fa 2 (.t 30)),og 32 27 false (.ld none (.t 31)),og 33 27 false (.ca .pure false (.f ZE) [.t 32,i6 0,i6 2]),og 34 27 false (.nt (.t 33)),oo 35 (.pk (.t 27) (.k (.bool true)) (.t 34))]) (.cd (.t 35) (.sq (rg [om 2 (.k (.bool false))]) (.rt)) (.sk))) (.sq (rg [om 4 (i6 0)]) (.bl 2 (.lp [0,3,4] [] (.sq (.sq (rg [qM 36 4,qM 37 3,qB 38 .lss 36 37]) (.cd (.t 38) (.sk) (.ex 2))) (.sq (.bl 3 (.sq (.rg (some 0) [qM 41 0,qM 42 4,qI 43 3 41 42,qF 44 0 43,qL 45 44,qM 46 0,qM 47 3,qI 48 3 46 47,qF 49 0 48,qL 50 49,qB 51 .eql 45 50]) (.cd (.t 51) (.sq (rg [om 2 (.k (.bool false))]) (.rt)) (.sk))))
 (rg [qM 39 4,oo 40 (.bi .add 0 (.t 39) (i6 1)),qM 4 40]))))))))
 (rg [qM 9 3,oo 10 (.bi .add 0 (.t 9) (i6 1)),qM 3 10])))))) (.sq (rg [qM 52 0,qN 53 52,oo 54 (.ca .pure false (.f ZE) [.t 53,i6 1,i6 6]),qM 2 54]) (.rt)))) }
theorem Zcx:ZR Proofs.Tryz.prog V8 UH=true:=by kernel_rfl
def DC:F2 :=
 { nt:=15,res:=[.t 6 [0]],body:=(.sq (rg [om 6 (.k (.bool false))]) (.sq (rg [qM 7 0,qM 8 1,qB 9 .geq 7 8,qM 10 9,og 11 10 true (.mv (.t 0) none),og 12 10 true (.mv (.t 2) none),og 13 10 true (.bi .leq 0 (.t 11) (.t 12)),oo 14 (.pk (.t 10) (.t 13) (.k (.bool false))),qM 6 14]) (.rt))) }
theorem Zdn:ZR Proofs.Tryz.prog ZE DC=true:=by kernel_rfl
def X3:F2 :=
 { nt:=35,res:=[.t 2 [0]],body:=(.sq (rg [om 2 (.k (.bool false))]) (.sq (.sq (rg [om 3 (i6 0)]) (.bl 0 (.lp [0,3] [] (.sq (.sq (rg [qM 4 3,qM 5 0,qN 6 5,qB 7 .lss 4 6]) (.cd (.t 7) (.sk) (.ex 0))) (.sq (.bl 1 (.sq (.rg (some 0) [qM 10 0,qM 11 3,qI 12 1 10 11,qL 13 12,oo 14 (.ca .pure false (.f YA) [.t 13]),oo 15 (.nt (.t 14)),qM 16 15,og 17 16 false (.mv (.t 3) none),og 18 16 false (.bi .gtr 0 (.t 17) (i6 0)),og 19 16 false (.mv (.t 18) none),og 20 19 true (.mv (.t 0) none),og 21 19 true (.mv (.t 3) none),og 22 19 true (.bi .sub 0 (.t 21) (i6 1)),og 23 19 true (.ia 1 (.t 20) (.t 22)),og 24 19 true (.ld none (.t 23)),og 25 19 true (.mv (.t 0) none),og 26 19 true (.mv (.t 3) none),og 27 19 true (.ia 1 (.t 25) (.t 26)),og 28 19 true (.ld none (.t 27)),og 29 19 true (.bi .geq 0 (.t 24) (.t 28)),og 30 16 false (.pk (.t 19) (.t 29) (.k (.bool false))),oo 31 (.pk (.t 16) (.k (.bool true)) (.t 30))]) (.cd (.t 31) (.sq (rg [om 2 (.k (.bool false))]) (.rt)) (.sk))))
 (rg [qM 8 3,oo 9 (.bi .add 0 (.t 8) (i6 1)),qM 3 9])))))) (.sq (rg [qM 32 0,qN 33 32,oo 34 (.bi .leq 0 (.t 33) (i6 16)),qM 2 34]) (.rt)))) }
theorem Zab:ZR Proofs.Tryz.prog J5 X3=true:=by kernel_rfl
def X4:F2 :=
 { nt:=23,res:=[.t 2 [2]],body:=(.sq (rg [oo 1 (.bt (.t 0)),om 2 (.k (.slice none 0 0))]) (.sq (rg [oo 5 (.bs 1 0 [] []),qM 3 5]) (.sq (.sq (rg [om 4 (i6 0)]) (.bl 0 (.lp [1,3,4] [160,672] (.sq (.sq (rg [qM 6 4,qF 7 5 1,qL 8 7,qN 9 8,qB 10 .lss 6 9]) (.cd (.t 10) (.sk) (.ex 0))) (.sq (.bl 1 (rg [qM 13 3,qF 14 5 1,qL 15 14,qM 16 4,qI 17 2 15 16,qF 18 0 17,qL 19 18,oo 20 (.bs 1 1 [.string ⟨#[]⟩] [(0,.t 19)]),oo 21 (.ap 1 0 (.t 13) (.t 20)),qM 3 21]))
 (rg [qM 11 4,oo 12 (.bi .add 0 (.t 11) (i6 1)),qM 4 12])))))) (.sq (rg [qM 22 3,qM 2 22]) (.rt))))) }
theorem Zac:ZR Proofs.Tryz.prog Y8 X4=true:=by kernel_rfl
def WK:F2 :=
 { nt:=57,res:=[.t 6 [0]],body:=(.sq (rg [oo 4 (.bt (.t 1)),om 6 (.k (.bool false))]) (.sq (rg [qF 9 1 4,qL 10 9,qM 11 2,qI 12 3 10 11,qS 13 3 12,oo 7 (.al [.int .i64 0,.int .i64 0,.slice none 0 0] []),on1 (.st 3 (.t 7) (.t 13))]) (.sq (.sq (.rg (some 0) [qF 14 0 7,qL 15 14,qM 16 0,qN 17 16,oo 18 (.bi .sub 0 (.t 17) (i6 1)),oo 19 (.ca .pure false (.f ZE) [.t 15,i6 0,.t 18]),oo 20 (.nt (.t 19)),qM 21 20,og 22 21 false (.mv (.t 0) none),og 23 21 false (.ld (some 6) (.t 4)),og 24 21 false (.fa 1 (.t 7)),og 25 21 false (.ld none (.t 24)),og 26 21 false (.mv (.t 2) none),og 27 21 false (.ca .pure false (.f J6) [.t 22,.t 23,.t 25,.t 26]),og 28 21 false (.nt (.t 27)),oo 29 (.pk (.t 21) (.k (.bool true)) (.t 28)),qM 30 29,og 31 30 false (.fa 2 (.t 7)),og 32 30 false (.ld none (.t 31)),og 33 30 false (.ln (.t 32)),og 34 30 false (.mv (.t 0) none),og 35 30 false (.fa 0 (.t 7)),og 36 30 false (.ld none (.t 35)),og 37 30 false (.ia 3 (.t 34) (.t 36)),og 38 30 false (.fa 1 (.t 37)),og 39 30 false (.ld none (.t 38)),og 40 30 false (.bi .neq 0 (.t 33) (.t 39)),oo 41 (.pk (.t 30) (.k (.bool true)) (.t 40))]) (.cd (.t 41) (.sq (rg [om 6 (.k (.bool false))]) (.rt)) (.sk))) (.sq (.sq (rg [om 8 (i6 0)]) (.bl 0 (.lp [4,7,8] [224] (.sq (.sq (rg [qM 42 8,qF 43 2 7,qL 44 43,qN 45 44,qB 46 .lss 42 45]) (.cd (.t 46) (.sk) (.ex 0))) (.sq (.bl 1 (.sq (.rg (some 0) [qS 49 6 4,qF 50 2 7,qL 51 50,qM 52 8,qI 53 1 51 52,qL 54 53,oo 55 (.ca .pure false (.f Yz) [.t 49,.t 54]),oo 56 (.nt (.t 55))]) (.cd (.t 56) (.sq (rg [om 6 (.k (.bool false))]) (.rt)) (.sk))))
 (rg [qM 47 8,oo 48 (.bi .add 0 (.t 47) (i6 1)),qM 8 48])))))) (.sq (rg [om 6 (.k (.bool true))]) (.rt)))))) }
theorem ZbB:ZR Proofs.Tryz.prog VF WK=true:=by kernel_rfl
def X5:F2 :=
 { nt:=33,res:=[.t 8 [0]],body:=(.sq (rg [oo 5 (.bt (.t 1)),om 8 (.k (.bool false))]) (.sq (.sq (rg [qM 9 2,oo 10 (.bi .lss 0 (.t 9) (i6 0))]) (.cd (.t 10) (.sq (rg [qM 11 2,oo 12 (.bi .sub 0 (i6 (-1)) (.t 11)),qF 13 0 5,qL 14 13,oo 15 (.bi .sub 0 (.t 14) (i6 1)),oo 16 (.ca .pure false (.f ZE) [.t 12,i6 0,.t 15]),qM 8 16]) (.rt)) (.sk))) (.sq (rg [qM 17 2,qM 18 3,qB 19 .lss 17 18,qM 20 19,og 21 20 true (.mv (.t 0) none),og 22 20 true (.fa 1 (.t 5)),og 23 20 true (.ld none (.t 22)),og 24 20 true (.mv (.t 2) none),og 25 20 true (.ia 3 (.t 23) (.t 24)),og 26 20 true (.fa 0 (.t 25)),og 27 20 true (.ld none (.t 26)),og 28 20 true (.ia 3 (.t 21) (.t 27)),og 29 20 true (.fa 2 (.t 28)),og 30 20 true (.ld none (.t 29)),og 31 20 true (.bi .neq 0 (.t 30) (i6 2)),oo 32 (.pk (.t 20) (.t 31) (.k (.bool false))),qM 8 32]) (.rt)))) }
theorem Zad:ZR Proofs.Tryz.prog J6 X5=true:=by kernel_rfl
def WL:F2 :=
 { nt:=14,res:=[.t 4 [0]],body:=(.sq (rg [oo 2 (.bt (.t 0)),om 4 (.k (.bool false))]) (.sq (rg [qM 5 1,qF 6 3 2,qL 7 6,qF 8 4 2,qL 9 8,qN 10 9,qB 11 .add 7 10,oo 12 (.bi .sub 0 (.t 11) (i6 1)),oo 13 (.ca .pure false (.f ZE) [.t 5,i6 0,.t 12]),qM 4 13]) (.rt))) }
theorem ZbC:ZR Proofs.Tryz.prog Yz WL=true:=by kernel_rfl
def VZ:F2 :=
 { nt:=25,res:=[.t 2 [0]],body:=(.sq (rg [om 2 (.k (.string ⟨#[]⟩))]) (.sq (.sq (rg [qM 3 0,oo 4 (.bi .lss 0 (.t 3) (i6 0))]) (.cd (.t 4) (.sq (rg [qM 5 0,oo 6 (.ng (.t 5)),oo 7 (.ca .pure false (.f Zw) [.t 6]),oo 8 (.bi .add 0 (.k (.string ⟨#[45]⟩)) (.t 7)),qM 2 8]) (.rt)) (.sk))) (.sq (.sq (rg [qM 9 0,oo 10 (.bi .lss 0 (.t 9) (i6 10))]) (.cd (.t 10) (.sq (rg [qM 11 0,qM 12 0,oo 13 (.bi .add 0 (.t 12) (i6 1)),oo 14 (.ss (.k (.string ⟨#[48,49,50,51,52,53,54,55,56,57]⟩)) (some (.t 11)) (some (.t 13))),qM 2 14]) (.rt)) (.sk))) (.sq (.rg (some 0) [qM 15 0,oo 16 (.bi .quo 0 (.t 15) (i6 10)),oo 17 (.ca .pure false (.f Zw) [.t 16]),qM 18 0,oo 19 (.bi .rem 0 (.t 18) (i6 10)),qM 20 0,oo 21 (.bi .rem 0 (.t 20) (i6 10)),oo 22 (.bi .add 0 (.t 21) (i6 1)),oo 23 (.ss (.k (.string ⟨#[48,49,50,51,52,53,54,55,56,57]⟩)) (some (.t 19)) (some (.t 22))),qB 24 .add 17 23,qM 2 24]) (.rt))))) }
theorem Xr:ZR Proofs.Tryz.prog Zw VZ=true:=by kernel_rfl
def QU:F2 :=
 { nt:=101,res:=[.t 4 [0]],body:=(.sq (rg [oo 2 (.bt (.t 0)),oo 3 (.bt (.t 1)),om 4 (.k (.bool false))]) (.sq (.sq (rg [qL 7 2,oo 8 (.ca .pure false (.f JT) [.t 7]),oo 9 (.nt (.t 8)),qM 10 9,og 11 10 false (.fa 0 (.t 3)),og 12 10 false (.ld none (.t 11)),og 13 10 false (.ca .pure false (.f Zv) [.t 12,i6 0,i6 4]),og 14 10 false (.nt (.t 13)),oo 15 (.pk (.t 10) (.k (.bool true)) (.t 14)),qM 16 15,og 17 16 false (.fa 1 (.t 3)),og 18 16 false (.ld none (.t 17)),og 19 16 false (.ln (.t 18)),og 20 16 false (.bi .gtr 0 (.t 19) (i6 8)),oo 21 (.pk (.t 16) (.k (.bool true)) (.t 20)),qM 22 21,og 23 22 false (.fa 2 (.t 3)),og 24 22 false (.ld none (.t 23)),og 25 22 false (.ln (.t 24)),og 26 22 false (.bi .gtr 0 (.t 25) (i6 4)),oo 27 (.pk (.t 22) (.k (.bool true)) (.t 26)),qM 28 27,og 29 28 false (.fa 3 (.t 3)),og 30 28 false (.ld none (.t 29)),og 31 28 false (.ca .pure false (.f Zv) [.t 30,i6 0,i6 8]),og 32 28 false (.nt (.t 31)),oo 33 (.pk (.t 28) (.k (.bool true)) (.t 32)),qM 34 33,og 35 34 false (.fa 4 (.t 3)),og 36 34 false (.ld none (.t 35)),og 37 34 false (.ca .pure false (.f JN) [.t 36]),og 38 34 false (.nt (.t 37)),oo 39 (.pk (.t 34) (.k (.bool true)) (.t 38)),qM 40 39,og 41 40 false (.ld (some 6) (.t 3)),og 42 40 false (.ca .pure false (.f Z2) [.t 41]),og 43 40 false (.ca .pure false (.f JN) [.t 42]),og 44 40 false (.nt (.t 43)),oo 45 (.pk (.t 40) (.k (.bool true)) (.t 44))]) (.cd (.t 45) (.sq (rg [om 4 (.k (.bool false))]) (.rt)) (.sk))) (.sq (.sq (rg [qF 46 1 3,qL 47 46,qN 48 47,om 49 (i6 0)]) (.bl 0 (.lp [2,3,47,48,49] [] (.sq (rg [qB 50 .lss 49 48]) (.sq (.cd (.t 50) (.sk) (.ex 0)) (.sq (.bl 1 (.sq (rg [qM 51 49,qI 52 3 47 49,qS 53 3 52,oo 6 (.al [.int .i64 0,.int .i64 0,.slice none 0 0] []),qM 5 51,on1 (.st 3 (.t 6) (.t 53))]) (.sq (.rg (some 0) [qF 54 0 6,qL 55 54,qL 56 2,qN 57 56,oo 58 (.bi .sub 0 (.t 57) (i6 1)),oo 59 (.ca .pure false (.f Zv) [.t 55,i6 0,.t 58]),oo 60 (.nt (.t 59)),qM 61 60,og 62 61 false (.ld (some 6) (.t 3)),og 63 61 false (.ld none (.t 2)),og 64 61 false (.fa 1 (.t 6)),og 65 61 false (.ld none (.t 64)),og 66 61 false (.mv (.t 5) none),og 67 61 false (.ca .pure false (.f ZO) [.t 62,.t 63,.t 65,.t 66]),og 68 61 false (.nt (.t 67)),oo 69 (.pk (.t 61) (.k (.bool true)) (.t 68)),qM 70 69,og 71 70 false (.fa 2 (.t 6)),og 72 70 false (.ld none (.t 71)),og 73 70 false (.ln (.t 72)),og 74 70 false (.ld none (.t 2)),og 75 70 false (.fa 0 (.t 6)),og 76 70 false (.ld none (.t 75)),og 77 70 false (.ia 3 (.t 74) (.t 76)),og 78 70 false (.fa 1 (.t 77)),og 79 70 false (.ld none (.t 78)),og 80 70 false (.bi .neq 0 (.t 73) (.t 79)),oo 81 (.pk (.t 70) (.k (.bool true)) (.t 80)),qM 82 81,og 83 82 false (.fa 2 (.t 6)),og 84 82 false (.ld none (.t 83)),og 85 82 false (.mf JU [.t 3]),og 86 82 false (.ca .pure false (.f Zy) [.t 84,.t 85]),oo 87 (.pk (.t 82) (.k (.bool true)) (.t 86))]) (.cd (.t 87) (.sq (rg [om 4 (.k (.bool false))]) (.rt)) (.sk)))))
 (rg [oo 88 (.bi .add 0 (.t 49) (i6 1)),qM 49 88]))))))) (.sq (rg [qF 89 2 3,qL 90 89,oo 91 (.mf JV [.t 3,.t 2]),oo 92 (.ca .pure false (.f Zy) [.t 90,.t 91]),oo 93 (.nt (.t 92)),qM 94 93,og 95 94 true (.fa 5 (.t 3)),og 96 94 true (.ld none (.t 95)),og 97 94 true (.mf JW [.t 3]),og 98 94 true (.ca .pure false (.f ZJ) [.t 96,.t 97]),og 99 94 true (.nt (.t 98)),oo 100 (.pk (.t 94) (.t 99) (.k (.bool false))),qM 4 100]) (.rt))))) }
theorem UN:ZR Proofs.Tryz.prog Jy QU=true:=by kernel_rfl
def J3:F2 :=
 { nt:=49,res:=[.t 4 [2],.t 5 [2]],body:=(.sq (rg [oo 2 (.bt (.t 0)),om 4 (.k (.slice none 0 0)),om 5 (.k (.slice none 0 0))]) (.sq (rg [oo 12 (.bs 1 0 [] []),oo 13 (.bs 1 0 [] []),qM 6 12,qM 7 13]) (.sq (.sq (rg [qF 14 1 2,qL 15 14,qN 16 15,om 17 (i6 0)]) (.bl 0 (.lp [1,2,6,7,15,16,17] [384,416,928,1440] (.sq (rg [qB 18 .lss 17 16]) (.sq (.cd (.t 18) (.sk) (.ex 0)) (.sq (.bl 1 (.sq (rg [qM 19 17,qI 20 3 15 17,qS 21 3 20,oo 9 (.al [.int .i64 0,.int .i64 0,.slice none 0 0] []),qM 8 19,on1 (.st 3 (.t 9) (.t 21))]) (.sq (rg [qF 22 1 9,qL 23 22,qM 24 1,qB 25 .eql 23 24]) (.cd (.t 25) (rg [qM 26 6,qM 27 8,oo 28 (.bs 1 1 [.int .i64 0] [(0,.t 27)]),oo 29 (.ap 1 0 (.t 26) (.t 28)),qM 6 29]) (.sk)))))
 (rg [oo 30 (.bi .add 0 (.t 17) (i6 1)),qM 17 30]))))))) (.sq (.sq (rg [qF 31 2 2,qL 32 31,qN 33 32,om 34 (i6 0)]) (.bl 2 (.lp [1,6,7,32,33,34] [384,416,928,1440] (.sq (rg [qB 35 .lss 34 33]) (.sq (.cd (.t 35) (.sk) (.ex 2)) (.sq (.bl 3 (.sq (rg [qM 36 34,qI 37 1 32 34,qL 38 37,qM 10 36,qM 11 38]) (.sq (rg [qM 39 11,qM 40 1,qB 41 .eql 39 40]) (.cd (.t 41) (rg [qM 42 7,qM 43 10,oo 44 (.bs 1 1 [.int .i64 0] [(0,.t 43)]),oo 45 (.ap 1 0 (.t 42) (.t 44)),qM 7 45]) (.sk)))))
 (rg [oo 46 (.bi .add 0 (.t 34) (i6 1)),qM 34 46]))))))) (.sq (rg [qM 47 6,qM 48 7,qM 4 47,qM 5 48]) (.rt)))))) }
theorem V9:ZR Proofs.Tryz.prog ZZ J3=true:=by kernel_rfl
def YV:F2 :=
 { nt:=19,res:=[.t 4 [0]],body:=(.sq (rg [oo 2 (.bt (.t 0)),om 4 (.k (.bool false))]) (.sq (rg [qS 8 6 2,qM 9 1,oo 10 (.ca .pure false (.f Z8) [.t 8,.t 9]),qM 7 10,qE 11 0 7,qE 12 1 7,qM 5 11,qM 6 12]) (.sq (rg [qM 13 5,qN 14 13,qM 15 6,qN 16 15,qB 17 .add 14 16,oo 18 (.bi .eql 0 (.t 17) (i6 0)),qM 4 18]) (.rt)))) }
theorem Xs:ZR Proofs.Tryz.prog Jj YV=true:=by kernel_rfl
def ZaD:F2 :=
 { nt:=5,res:=[.t 2 [0]],body:=(.sq (rg [om 2 (.k (.string ⟨#[]⟩))]) (.sq (rg [qM 3 0,oo 4 (.ca .pure false (.f QR) [.t 3]),qM 2 4]) (.rt))) }
theorem Zer:ZR Proofs.Tryz.prog JH ZaD=true:=by kernel_rfl
def WM:F2 :=
 { nt:=28,res:=[.t 4 [2]],body:=(.sq (rg [oo 2 (.bt (.t 0)),om 4 (.k (.slice none 0 0))]) (.sq (rg [oo 7 (.bs 1 0 [] []),qM 5 7]) (.sq (.sq (rg [om 6 (i6 0)]) (.bl 0 (.lp [1,2,5,6] [224,832] (.sq (.sq (rg [qM 8 6,qF 9 1 2,qL 10 9,qN 11 10,qB 12 .lss 8 11]) (.cd (.t 12) (.sk) (.ex 0))) (.sq (.bl 1 (.sq (rg [qF 15 1 2,qL 16 15,qM 17 6,qI 18 3 16 17,qF 19 1 18,qL 20 19,qM 21 1,qB 22 .eql 20 21]) (.cd (.t 22) (rg [qM 23 5,qM 24 6,oo 25 (.bs 1 1 [.int .i64 0] [(0,.t 24)]),oo 26 (.ap 1 0 (.t 23) (.t 25)),qM 5 26]) (.sk))))
 (rg [qM 13 6,oo 14 (.bi .add 0 (.t 13) (i6 1)),qM 6 14])))))) (.sq (rg [qM 27 5,qM 4 27]) (.rt))))) }
theorem ZbD:ZR Proofs.Tryz.prog VK WM=true:=by kernel_rfl
def X6:F2 :=
 { nt:=27,res:=[.t 4 [2]],body:=(.sq (rg [oo 2 (.bt (.t 0)),om 4 (.k (.slice none 0 0))]) (.sq (rg [oo 7 (.bs 1 0 [] []),qM 5 7]) (.sq (.sq (rg [om 6 (i6 0)]) (.bl 0 (.lp [1,2,5,6] [224,800] (.sq (.sq (rg [qM 8 6,qF 9 2 2,qL 10 9,qN 11 10,qB 12 .lss 8 11]) (.cd (.t 12) (.sk) (.ex 0))) (.sq (.bl 1 (.sq (rg [qF 15 2 2,qL 16 15,qM 17 6,qI 18 1 16 17,qL 19 18,qM 20 1,qB 21 .eql 19 20]) (.cd (.t 21) (rg [qM 22 5,qM 23 6,oo 24 (.bs 1 1 [.int .i64 0] [(0,.t 23)]),oo 25 (.ap 1 0 (.t 22) (.t 24)),qM 5 25]) (.sk))))
 (rg [qM 13 6,oo 14 (.bi .add 0 (.t 13) (i6 1)),qM 6 14])))))) (.sq (rg [qM 26 5,qM 4 26]) (.rt))))) }
theorem Zae:ZR Proofs.Tryz.prog J8 X6=true:=by kernel_rfl
def WN:F2 :=
 { nt:=17,res:=[.t 4 [0]],body:=(.sq (rg [oo 2 (.bt (.t 0)),om 4 (.k (.bool false))]) (.sq (rg [qS 5 6 2,qM 6 1,oo 7 (.ca .pure false (.f Y9) [.t 5,.t 6]),qN 8 7,oo 9 (.bi .eql 0 (.t 8) (i6 0)),qM 10 9,og 11 10 true (.ld (some 6) (.t 2)),og 12 10 true (.mv (.t 1) none),og 13 10 true (.ca .pure false (.f VM) [.t 11,.t 12]),og 14 10 true (.ln (.t 13)),og 15 10 true (.bi .eql 0 (.t 14) (i6 0)),oo 16 (.pk (.t 10) (.t 15) (.k (.bool false))),qM 4 16]) (.rt))) }
theorem ZbE:ZR Proofs.Tryz.prog VL WN=true:=by kernel_rfl
def WO:F2 :=
 { nt:=23,res:=[.t 2 [0]],body:=(.sq (rg [om 2 (.k (.bool false))]) (.sq (.sq (rg [om 3 (i6 0)]) (.bl 0 (.lp [0,3] [] (.sq (.sq (rg [qM 4 3,qM 5 0,oo 6 (.lg (.t 5)),qB 7 .lss 4 6]) (.cd (.t 7) (.sk) (.ex 0))) (.sq (.bl 1 (.sq (rg [qM 10 0,qM 11 3,oo 12 (.ix (.t 10) (.t 11)),oo 13 (.bi .lss 0 (.t 12) (.k (.int .u8 97))),qM 14 13,og 15 14 false (.mv (.t 0) none),og 16 14 false (.mv (.t 3) none),og 17 14 false (.ix (.t 15) (.t 16)),og 18 14 false (.bi .gtr 0 (.t 17) (.k (.int .u8 122))),oo 19 (.pk (.t 14) (.k (.bool true)) (.t 18))]) (.cd (.t 19) (.sq (rg [om 2 (.k (.bool false))]) (.rt)) (.sk))))
 (rg [qM 8 3,oo 9 (.bi .add 0 (.t 8) (i6 1)),qM 3 9])))))) (.sq (rg [qM 20 0,oo 21 (.lg (.t 20)),oo 22 (.ca .pure false (.f ZE) [.t 21,i6 1,i6 4]),qM 2 22]) (.rt)))) }
theorem ZbF:ZR Proofs.Tryz.prog YA WO=true:=by kernel_rfl
def V0:F2 :=
 { nt:=40,res:=[.t 2 [0]],body:=(.sq (rg [om 2 (.k (.bool false))]) (.sq (.sq (rg [qM 5 0,qN 6 5,oo 7 (.ca .pure false (.f Zv) [.t 6,i6 1,i6 6]),oo 8 (.nt (.t 7))]) (.cd (.t 8) (.sq (rg [om 2 (.k (.bool false))]) (.rt)) (.sk))) (.sq (.sq (rg [qM 9 0,qN 10 9,om 11 (i6 0)]) (.bl 0 (.lp [0,9,10,11] [] (.sq (rg [qB 12 .lss 11 10]) (.sq (.cd (.t 12) (.sk) (.ex 0)) (.sq (.bl 1 (.sq (rg [qM 13 11,qI 14 3 9 11,qS 15 3 14,oo 4 (.al [.string ⟨#[]⟩,.int .i64 0,.int .i64 0] []),qM 3 13,on1 (.st 3 (.t 4) (.t 15))]) (.sq (rg [qF 16 0 4,qL 17 16,oo 18 (.ca .pure false (.f YB) [.t 17]),oo 19 (.nt (.t 18)),qM 20 19,og 21 20 false (.fa 1 (.t 4)),og 22 20 false (.ld none (.t 21)),og 23 20 false (.ca .pure false (.f Zv) [.t 22,i6 0,i6 3]),og 24 20 false (.nt (.t 23)),oo 25 (.pk (.t 20) (.k (.bool true)) (.t 24)),qM 26 25,og 27 26 false (.fa 2 (.t 4)),og 28 26 false (.ld none (.t 27)),og 29 26 false (.ca .pure false (.f Zv) [.t 28,i6 0,i6 2]),og 30 26 false (.nt (.t 29)),oo 31 (.pk (.t 26) (.k (.bool true)) (.t 30)),qM 32 31,og 33 32 false (.mv (.t 0) none),og 34 32 false (.mv (.t 3) none),og 35 32 false (.sx 3 (.t 33) none (some (.t 34)) none),og 36 32 false (.mf Z3 [.t 4]),og 37 32 false (.ca .pure false (.f ZA) [.t 35,.t 36]),oo 38 (.pk (.t 32) (.k (.bool true)) (.t 37))]) (.cd (.t 38) (.sq (rg [om 2 (.k (.bool false))]) (.rt)) (.sk)))))
 (rg [oo 39 (.bi .add 0 (.t 11) (i6 1)),qM 11 39]))))))) (.sq (rg [om 2 (.k (.bool true))]) (.rt))))) }
theorem WP:ZR Proofs.Tryz.prog JT V0=true:=by kernel_rfl
def Xt:F2 :=
 { nt:=32,res:=[.t 2 [0]],body:=(.sq (rg [om 2 (.k (.bool false))]) (.sq (.sq (rg [qM 5 0,qN 6 5,om 7 (i6 0)]) (.bl 0 (.lp [0,5,6,7] [] (.sq (rg [qB 8 .lss 7 6]) (.sq (.cd (.t 8) (.sk) (.ex 0)) (.sq (.bl 1 (.sq (rg [qM 9 7,qI 10 1 5 7,qL 11 10,qM 3 9,qM 4 11]) (.sq (rg [qM 12 4,oo 13 (.ca .pure false (.f YB) [.t 12]),oo 14 (.nt (.t 13)),qM 15 14,og 16 15 false (.mv (.t 3) none),og 17 15 false (.bi .gtr 0 (.t 16) (i6 0)),og 18 15 false (.mv (.t 17) none),og 19 18 true (.mv (.t 4) none),og 20 18 true (.mv (.t 0) none),og 21 18 true (.mv (.t 3) none),og 22 18 true (.bi .sub 0 (.t 21) (i6 1)),og 23 18 true (.ia 1 (.t 20) (.t 22)),og 24 18 true (.ld none (.t 23)),og 25 18 true (.bi .leq 0 (.t 19) (.t 24)),og 26 15 false (.pk (.t 18) (.t 25) (.k (.bool false))),oo 27 (.pk (.t 15) (.k (.bool true)) (.t 26))]) (.cd (.t 27) (.sq (rg [om 2 (.k (.bool false))]) (.rt)) (.sk)))))
 (rg [oo 28 (.bi .add 0 (.t 7) (i6 1)),qM 7 28]))))))) (.sq (rg [qM 29 0,qN 30 29,oo 31 (.bi .leq 0 (.t 30) (i6 16)),qM 2 31]) (.rt)))) }
theorem DD:ZR Proofs.Tryz.prog JN Xt=true:=by kernel_rfl
def J4:F2 :=
 { nt:=21,res:=[.t 2 [2]],body:=(.sq (rg [oo 1 (.bt (.t 0)),om 2 (.k (.slice none 0 0))]) (.sq (rg [oo 6 (.bs 1 0 [] []),qM 3 6]) (.sq (.sq (rg [qF 7 5 1,qL 8 7,qN 9 8,om 10 (i6 0)]) (.bl 0 (.lp [3,8,9,10] [192,576] (.sq (rg [qB 11 .lss 10 9]) (.sq (.cd (.t 11) (.sk) (.ex 0)) (.sq (.bl 1 (.sq (rg [qI 12 2 8 10,qS 13 2 12,oo 5 (.al [.string ⟨#[]⟩,.int .i64 0] []),on1 (.st 2 (.t 5) (.t 13))])
 (rg [qM 14 3,qF 15 0 5,qL 16 15,oo 17 (.bs 1 1 [.string ⟨#[]⟩] [(0,.t 16)]),oo 18 (.ap 1 0 (.t 14) (.t 17)),qM 3 18])))
 (rg [oo 19 (.bi .add 0 (.t 10) (i6 1)),qM 10 19]))))))) (.sq (rg [qM 20 3,qM 2 20]) (.rt))))) }
theorem Qa:ZR Proofs.Tryz.prog Z2 J4=true:=by kernel_rfl
def YC:F2 :=
 { nt:=32,res:=[.t 8 [0]],body:=(.sq (rg [oo 4 (.bt (.t 0)),om 8 (.k (.bool false))]) (.sq (.sq (rg [qM 9 2,oo 10 (.bi .lss 0 (.t 9) (i6 0))]) (.cd (.t 10) (.sq (rg [qM 11 2,qF 12 0 4,qL 13 12,oo 14 (.ng (.t 13)),qB 15 .geq 11 14,qM 8 15]) (.rt)) (.sk))) (.sq (rg [qM 16 2,qM 17 3,qB 18 .lss 16 17,qM 19 18,og 20 19 true (.mv (.t 1) none),og 21 19 true (.fa 1 (.t 4)),og 22 19 true (.ld none (.t 21)),og 23 19 true (.mv (.t 2) none),og 24 19 true (.ia 3 (.t 22) (.t 23)),og 25 19 true (.fa 0 (.t 24)),og 26 19 true (.ld none (.t 25)),og 27 19 true (.ia 3 (.t 20) (.t 26)),og 28 19 true (.fa 2 (.t 27)),og 29 19 true (.ld none (.t 28)),og 30 19 true (.bi .neq 0 (.t 29) (i6 2)),oo 31 (.pk (.t 19) (.t 30) (.k (.bool false))),qM 8 31]) (.rt)))) }
theorem QF:ZR Proofs.Tryz.prog ZO YC=true:=by kernel_rfl
def V1:F2 :=
 { nt:=8,res:=[.t 3 [0]],body:=(.sq (rg [om 3 (.k (.bool false))]) (.sq (rg [qS 4 6 1,qM 5 0,oo 6 (.ca .pure false (.f ZT) [.t 4,.t 5]),oo 7 (.nt (.t 6)),qM 3 7]) (.rt))) }
theorem WQ:ZR Proofs.Tryz.prog JU V1=true:=by kernel_rfl
def YW:F2 :=
 { nt:=14,res:=[.t 4 [0]],body:=(.sq (rg [oo 2 (.bt (.t 0)),om 4 (.k (.bool false))]) (.sq (rg [qM 5 1,qF 6 3 2,qL 7 6,qF 8 4 2,qL 9 8,qN 10 9,qB 11 .add 7 10,oo 12 (.bi .sub 0 (.t 11) (i6 1)),oo 13 (.ca .pure false (.f Zv) [.t 5,i6 0,.t 12]),qM 4 13]) (.rt))) }
theorem Xu:ZR Proofs.Tryz.prog ZT YW=true:=by kernel_rfl
def V2:F2 :=
 { nt:=13,res:=[.t 4 [0]],body:=(.sq (rg [om 4 (.k (.bool false))]) (.sq (rg [qS 5 6 1,qL 6 2,qM 7 0,qF 8 1 1,qL 9 8,qN 10 9,oo 11 (.ca .pure false (.f ZO) [.t 5,.t 6,.t 7,.t 10]),oo 12 (.nt (.t 11)),qM 4 12]) (.rt))) }
theorem WR:ZR Proofs.Tryz.prog JV V2=true:=by kernel_rfl
def V3:F2 :=
 { nt:=9,res:=[.t 3 [0]],body:=(.sq (rg [oo 2 (.bt (.t 0)),om 3 (.k (.bool false))]) (.sq (rg [qS 4 6 1,qF 5 1 2,qL 6 5,oo 7 (.ca .pure false (.f ZT) [.t 4,.t 6]),oo 8 (.nt (.t 7)),qM 3 8]) (.rt))) }
theorem WS:ZR Proofs.Tryz.prog JW V3=true:=by kernel_rfl
def YD:F2 :=
 { nt:=62,res:=[.t 4 [3],.t 5 [2]],body:=(.sq (rg [oo 2 (.bt (.t 0)),om 4 (.k (.slice none 0 0)),om 5 (.k (.slice none 0 0))]) (.sq (rg [oo 14 (.bs 2 0 [] []),oo 15 (.bs 1 0 [] []),qM 6 14,qM 7 15]) (.sq (.sq (rg [qF 16 1 2,qL 17 16,qN 18 17,om 19 (i6 0)]) (.bl 0 (.lp [1,2,6,7,17,18,19] [448,480,1280,1856] (.sq (rg [qB 20 .lss 19 18]) (.sq (.cd (.t 20) (.sk) (.ex 0)) (.sq (.bl 1 (.sq (rg [qM 21 19,qI 22 3 17 19,qS 23 3 22,oo 9 (.al [.int .i64 0,.int .i64 0,.slice none 0 0] []),qM 8 21,on1 (.st 3 (.t 9) (.t 23))]) (.sq (rg [qF 24 2 9,qL 25 24,qN 26 25,om 27 (i6 0)]) (.bl 2 (.lp [1,2,6,7,8,17,18,19,25,26,27] [288,448,480,1280,1856] (.sq (rg [qB 28 .lss 27 26]) (.sq (.cd (.t 28) (.sk) (.ex 2)) (.sq (.bl 3 (.sq (rg [qM 29 27,qI 30 1 25 27,qL 31 30,qM 10 29,qM 11 31]) (.sq (rg [qM 32 11,qM 33 1,qB 34 .eql 32 33]) (.cd (.t 34) (rg [qM 35 6,qM 36 8,qM 37 10,oo 38 (.bd [.int .i64 0,.int .i64 0] [(0,1,.t 36),(1,1,.t 37)] []),oo 39 (.bs 2 1 [.int .i64 0,.int .i64 0] [(0,.t 38)]),oo 40 (.ap 2 0 (.t 35) (.t 39)),qM 6 40]) (.sk)))))
 (rg [oo 41 (.bi .add 0 (.t 27) (i6 1)),qM 27 41])))))))))
 (rg [oo 42 (.bi .add 0 (.t 19) (i6 1)),qM 19 42]))))))) (.sq (.sq (rg [qF 43 5 2,qL 44 43,qN 45 44,om 46 (i6 0)]) (.bl 4 (.lp [1,6,7,44,45,46] [448,480,1280,1856] (.sq (rg [qB 47 .lss 46 45]) (.sq (.cd (.t 47) (.sk) (.ex 4)) (.sq (.bl 5 (.sq (rg [qI 48 2 44 46,qS 49 2 48,oo 13 (.al [.string ⟨#[]⟩,.int .i64 0] []),on1 (.st 2 (.t 13) (.t 49))]) (.sq (rg [qF 50 1 13,qL 51 50,qM 52 1,qB 53 .eql 51 52]) (.cd (.t 53) (rg [qM 54 7,qF 55 0 13,qL 56 55,oo 57 (.bs 1 1 [.string ⟨#[]⟩] [(0,.t 56)]),oo 58 (.ap 1 0 (.t 54) (.t 57)),qM 7 58]) (.sk)))))
 (rg [oo 59 (.bi .add 0 (.t 46) (i6 1)),qM 46 59]))))))) (.sq (rg [qM 60 6,qM 61 7,qM 4 60,qM 5 61]) (.rt)))))) }
theorem QG:ZR Proofs.Tryz.prog Z8 YD=true:=by kernel_rfl
def X7:F2 :=
 { nt:=45,res:=[.t 4 [3]],body:=(.sq (rg [oo 2 (.bt (.t 0)),om 4 (.k (.slice none 0 0))]) (.sq (rg [oo 8 (.bs 2 0 [] []),qM 5 8]) (.sq (.sq (rg [om 6 (i6 0)]) (.bl 0 (.lp [1,2,5,6] [256,1376] (.sq (.sq (rg [qM 9 6,qF 10 1 2,qL 11 10,qN 12 11,qB 13 .lss 9 12]) (.cd (.t 13) (.sk) (.ex 0))) (.sq (.bl 1 (.sq (rg [om 7 (i6 0)]) (.bl 2 (.lp [1,2,5,6,7] [256,1376] (.sq (.sq (rg [qM 16 7,qF 17 1 2,qL 18 17,qM 19 6,qI 20 3 18 19,qF 21 2 20,qL 22 21,qN 23 22,qB 24 .lss 16 23]) (.cd (.t 24) (.sk) (.ex 2))) (.sq (.bl 3 (.sq (rg [qF 27 1 2,qL 28 27,qM 29 6,qI 30 3 28 29,qF 31 2 30,qL 32 31,qM 33 7,qI 34 1 32 33,qL 35 34,qM 36 1,qB 37 .eql 35 36]) (.cd (.t 37) (rg [qM 38 5,qM 39 6,qM 40 7,oo 41 (.bd [.int .i64 0,.int .i64 0] [(0,1,.t 39),(1,1,.t 40)] []),oo 42 (.bs 2 1 [.int .i64 0,.int .i64 0] [(0,.t 41)]),oo 43 (.ap 2 0 (.t 38) (.t 42)),qM 5 43]) (.sk))))
 (rg [qM 25 7,oo 26 (.bi .add 0 (.t 25) (i6 1)),qM 7 26])))))))
 (rg [qM 14 6,oo 15 (.bi .add 0 (.t 14) (i6 1)),qM 6 15])))))) (.sq (rg [qM 44 5,qM 4 44]) (.rt))))) }
theorem Zaf:ZR Proofs.Tryz.prog Y9 X7=true:=by kernel_rfl
def WT:F2 :=
 { nt:=33,res:=[.t 4 [2]],body:=(.sq (rg [oo 2 (.bt (.t 0)),om 4 (.k (.slice none 0 0))]) (.sq (rg [oo 7 (.bs 1 0 [] []),qM 5 7]) (.sq (.sq (rg [om 6 (i6 0)]) (.bl 0 (.lp [1,2,5,6] [224,992] (.sq (.sq (rg [qM 8 6,qF 9 5 2,qL 10 9,qN 11 10,qB 12 .lss 8 11]) (.cd (.t 12) (.sk) (.ex 0))) (.sq (.bl 1 (.sq (rg [qF 15 5 2,qL 16 15,qM 17 6,qI 18 2 16 17,qF 19 1 18,qL 20 19,qM 21 1,qB 22 .eql 20 21]) (.cd (.t 22) (rg [qM 23 5,qF 24 5 2,qL 25 24,qM 26 6,qI 27 2 25 26,qF 28 0 27,qL 29 28,oo 30 (.bs 1 1 [.string ⟨#[]⟩] [(0,.t 29)]),oo 31 (.ap 1 0 (.t 23) (.t 30)),qM 5 31]) (.sk))))
 (rg [qM 13 6,oo 14 (.bi .add 0 (.t 13) (i6 1)),qM 6 14])))))) (.sq (rg [qM 32 5,qM 4 32]) (.rt))))) }
theorem ZbG:ZR Proofs.Tryz.prog VM WT=true:=by kernel_rfl
def WU:F2 :=
 { nt:=11,res:=[.t 2 [0]],body:=(.sq (rg [om 2 (.k (.bool false))]) (.sq (rg [qM 3 0,oo 4 (.lg (.t 3)),oo 5 (.ca .pure false (.f Zv) [.t 4,i6 1,i6 4]),qM 6 5,og 7 6 true (.mv (.t 0) none),og 8 6 true (.ca .pure false (.f QT) [.t 7,.k (.string ⟨#[97,98,99,100,101,102,103,104,105,106,107,108,109,110,111,112,113,114,115,116,117,118,119,120,121,122]⟩)]),og 9 6 true (.bi .eql 0 (.t 8) (.k (.string ⟨#[]⟩))),oo 10 (.pk (.t 6) (.t 9) (.k (.bool false))),qM 2 10]) (.rt))) }
theorem ZbH:ZR Proofs.Tryz.prog YB WU=true:=by kernel_rfl
def Vc:F2 :=
 { nt:=9,res:=[.t 3 [0]],body:=(.sq (rg [oo 2 (.bt (.t 0)),om 3 (.k (.bool false))]) (.sq (rg [qF 4 0 2,qL 5 4,qF 6 0 1,qL 7 6,qB 8 .eql 5 7,qM 3 8]) (.rt))) }
theorem XU:ZR Proofs.Tryz.prog Z3 Vc=true:=by kernel_rfl
end Go.Fd

/-
  ANNOTATED CODES OF GO'S GENERIC FUNCTIONS ON SLICES, AT ANY ELEMENT (printed by generic.py out of one instance each). Own work.
-/
namespace Go.Fd
def ZgS(k:Nat)(m:Option Nat):F2 :=
 { nt:=19,res:=[.t 4 [0]],body:=(.sq (.rg none [⟨some 4,none,.mv (.k (.int .i64 0)) none⟩]) (.sq (.sq (.rg none [⟨some 6,none,.mv (.t 0) none⟩,
    ⟨some 7,none,.ln (.t 6)⟩,
    ⟨some 8,none,.mv (.k (.int .i64 0)) none⟩]) (.bl 0 (.lp [0,1,7,8] [] (.sq (.rg none [⟨some 9,none,.bi .lss 0 (.t 8) (.t 7)⟩]) (.sq (.cd (.t 9) (.sk) (.ex 0)) (.sq (.bl 1 (.sq (.rg none [⟨some 10,none,.mv (.t 8) none⟩,
      ⟨some 5,none,.mv (.t 10) none⟩]) (.sq (.rg none [⟨some 11,none,.mv (.t 1) none⟩,
      ⟨some 12,none,.mv (.t 0) none⟩,
      ⟨some 13,none,.mv (.t 5) none⟩,
      ⟨some 14,none,.ia k (.t 12) (.t 13)⟩,
      ⟨some 15,none,.ld m (.t 14)⟩,
      ⟨some 16,none,.ca .pure false (.t 11) [.t 15]⟩]) (.cd (.t 16) (.sq (.rg none [⟨some 17,none,.mv (.t 5) none⟩,
      ⟨some 4,none,.mv (.t 17) none⟩]) (.rt)) (.sk))))) (.rg none [⟨some 18,none,.bi .add 0 (.t 8) (.k (.int .i64 1))⟩,
    ⟨some 8,none,.mv (.t 18) none⟩]))))))) (.sq (.rg none [⟨some 4,none,.mv (.k (.int .i64 (-1))) none⟩]) (.rt)))) }
def ZiJ(fi:FuncId):F2 :=
 { nt:=9,res:=[.t 4 [0]],body:=(.sq (.rg none [⟨some 4,none,.mv (.k (.bool false)) none⟩]) (.sq (.rg none [⟨some 5,none,.mv (.t 0) none⟩,
   ⟨some 6,none,.mv (.t 1) none⟩,
   ⟨some 7,none,.ca .pure false (.f fi) [.t 5,.t 6]⟩,
   ⟨some 8,none,.bi .geq 0 (.t 7) (.k (.int .i64 0))⟩,
   ⟨some 4,none,.mv (.t 8) none⟩]) (.rt))) }
def ZpG  : F2 :=
 { nt:=26,res:=[.t 4 [0]],body:=(.sq (.rg none [⟨some 4,none,.mv (.k (.bool false)) none⟩]) (.sq (.sq (.rg none [⟨some 6,none,.mv (.t 0) none⟩,
    ⟨some 7,none,.ln (.t 6)⟩,
    ⟨some 8,none,.mv (.t 1) none⟩,
    ⟨some 9,none,.ln (.t 8)⟩,
    ⟨some 10,none,.bi .neq 0 (.t 7) (.t 9)⟩]) (.cd (.t 10) (.sq (.rg none [⟨some 4,none,.mv (.k (.bool false)) none⟩]) (.rt)) (.sk))) (.sq (.sq (.rg none [⟨some 11,none,.mv (.t 0) none⟩,
    ⟨some 12,none,.ln (.t 11)⟩,
    ⟨some 13,none,.mv (.k (.int .i64 0)) none⟩]) (.bl 0 (.lp [0,1,12,13] [] (.sq (.rg none [⟨some 14,none,.bi .lss 0 (.t 13) (.t 12)⟩]) (.sq (.cd (.t 14) (.sk) (.ex 0)) (.sq (.bl 1 (.sq (.rg none [⟨some 15,none,.mv (.t 13) none⟩,
      ⟨some 5,none,.mv (.t 15) none⟩]) (.sq (.rg (some 0) [⟨some 16,none,.mv (.t 0) none⟩,
      ⟨some 17,none,.mv (.t 5) none⟩,
      ⟨some 18,none,.ia 1 (.t 16) (.t 17)⟩,
      ⟨some 19,none,.ld none (.t 18)⟩,
      ⟨some 20,none,.mv (.t 1) none⟩,
      ⟨some 21,none,.mv (.t 5) none⟩,
      ⟨some 22,none,.ia 1 (.t 20) (.t 21)⟩,
      ⟨some 23,none,.ld none (.t 22)⟩,
      ⟨some 24,none,.bi .neq 0 (.t 19) (.t 23)⟩]) (.cd (.t 24) (.sq (.rg none [⟨some 4,none,.mv (.k (.bool false)) none⟩]) (.rt)) (.sk))))) (.rg none [⟨some 25,none,.bi .add 0 (.t 13) (.k (.int .i64 1))⟩,
    ⟨some 13,none,.mv (.t 25) none⟩]))))))) (.sq (.rg none [⟨some 4,none,.mv (.k (.bool true)) none⟩]) (.rt))))) }
end Go.Fd

/-
  GO'S GENERIC FUNCTIONS ON SLICES, AT ANY ELEMENT. Own work.
-/
namespace Go.Fd
set_option maxRecDepth 20000
section rules
variable {L:Sto} {F:List IV->Prop} {lvl:Nat}
theorem Zcy:∀{l:List (List Tr)} {F:List IV->Prop},ZK L (l.map IV.ta) F=F (l.map IV.ta)
 | [],F=>ZhT
 | x::r,F=>by
  simp only[List.map_cons]
  rw[Zj2,Zcy]
  rfl
theorem V4{Pd:Oid->Prop}:∀{l:List (List Tr)},Zf Pd (l.map IV.ta)=True
 | []=>rfl
 | x::r=>by
  simp only[List.map_cons,Zf,men,true_and]
  exact V4
theorem YE{js:List Nat}{l:List (List Tr)}:Zej lvl js (l.map IV.ta)=True:=V4
end rules
section
variable {P:Program} {α:Type}
theorem Q1{α β:Type}{c:α->β}{l:List α}{j:Nat}(h:j<l.length):(l.map c)[j]? = some (c l[j]):=by simp [h]
theorem ZfE{α:Type}{c:α->List Tr}{l:List α}{j:Nat}:cut (l.map c) 0 (j-0)=(l.take j).map c:=by
 simp only[cut,List.drop_zero,Nat.sub_zero,List.map_take]
theorem Zcz{α:Type}{l:List α}{j:Nat}(h:j<l.length):l.drop j=l[j]::l.drop (j+1):=List.drop_eq_getElem_cons h
def ixF(f:α->Bool):List α->Int->Int
 | [],_=>-1
 | x::r,j=>if f x=true then j else ixF f r (j+1)
theorem ZbI{f:α->Bool}{x:α}{r:List α}{j:Int}:ixF f (x::r) j=if f x=true then j else ixF f r (j+1):=rfl
theorem ZfF{f:α->Bool}:∀{l:List α} {j:Int},0<=j->(0<=ixF f l j↔l.any f=true)
 | [],j,_=>by simp [ixF]
 | x::r,j,h=>by
  rw[ZbI,List.any_cons]
  cases hx:f x with
  | true=>simp [h]
  | false =>
   simp only[Bool.false_eq_true,if_false,Bool.false_or]
   exact ZfF (by omega)
theorem ZgT{fid:FuncId}(hc:ZR P fid (ZgS 1 none)=true){t:α->Tr}{f:α->Bool}{fe:FuncId}{cs:List (List Tr)}(l:List α)(hl:l.length<=9223372036854775807)
  (hf:∀ x∈l,∀ lvl S,Sem P fe lvl (.tr (t x)::cs.map IV.ta) S (iB (f x)) S) (lvl:Nat) (S:Sto):Sem P fid lvl [.tr (.sl (l.map fun x=>[t x])),.fn fe (cs.map IV.ta)] S (iI (ixF f l 0)) S:=by
 refine Zc hc trivial ?_
 simp only[ZgS,List.length_map,YE,EVA,seval,Zf,men]
 refine ZI (α:=Unit) l.length (fun j _=>[(8,iI j)]) (fun _ _=>[]) (fun j _=>ixF f (l.drop j) j=ixF f l 0) () (by simp only[YE,EVA,seval,Zf,men]) (by (simp only[EVA,seval,Zf,men]) <;> rfl) rfl ?_
 intro j _ hj hA
 simp only[List.length_map,YE,EVA,seval,Zf,men]
 refine Zn (fun hlt=>?_) (fun hge=>?_)
 ·have hja:j<l.length:=by omega
  have ga:=Q1 (c:=fun x=>[t x]) hja
  rw[Zcz hja,ZbI] at hA
  simp only[ga,YE,Zcy,V4,EVA,seval,Zf,men]
  refine Za (hf _ (List.getElem_mem hja)) ?_
  simp only[V4,YE,EVA,seval,Zf,men]
  refine Zn (fun h=>?_) (fun h=>?_)
  ·rw[if_pos h] at hA
   rw[<-hA]
  ·rw[if_neg h] at hA
   exact⟨by rw[Zd];omega,Ze () hja rfl hA⟩
 ·have:j=l.length:=by omega
  subst this
  rw[List.drop_length] at hA
  rw[<-hA]
  rfl
theorem ZgU{k:Nat}{fid:FuncId}(hc:ZR P fid (ZgS k (some k))=true){c:α->List Tr}(hk:∀ x,(c x).length=k){f:α->Bool}{fe:FuncId}{cs:List (List Tr)}(l:List α)(hl:l.length<=9223372036854775807)
  (hf:∀ x∈l,∀ lvl S,Sem P fe lvl (.ag ((c x).map .tr)::cs.map IV.ta) S (iB (f x)) S) (lvl:Nat) (S:Sto):Sem P fid lvl [.tr (.sl (l.map c)),.fn fe (cs.map IV.ta)] S (iI (ixF f l 0)) S:=by
 refine Zc hc trivial ?_
 simp only[ZgS,List.length_map,YE,EVA,seval,Zf,men]
 refine ZI (α:=Unit) l.length (fun j _=>[(8,iI j)]) (fun _ _=>[]) (fun j _=>ixF f (l.drop j) j=ixF f l 0) () (by simp only[YE,EVA,seval,Zf,men]) (by (simp only[EVA,seval,Zf,men]) <;> rfl) rfl ?_
 intro j _ hj hA
 simp only[List.length_map,YE,EVA,seval,Zf,men]
 refine Zn (fun hlt=>?_) (fun hge=>?_)
 ·have hja:j<l.length:=by omega
  have ga:=Q1 (c:=c) hja
  have hkk:=hk l[j]
  have htk:(c l[j]).take k=c l[j]:=List.take_of_length_le (by omega)
  rw[Zcz hja,ZbI] at hA
  simp only[ga,hkk,htk,YE,Zcy,Zir,V4,Zbp,EVA,seval,Zf,men]
  refine Za (hf _ (List.getElem_mem hja)) ?_
  simp only[V4,Zbp,YE,EVA,seval,Zf,men]
  refine Zn (fun h=>?_) (fun h=>?_)
  ·rw[if_pos h] at hA
   rw[<-hA]
  ·rw[if_neg h] at hA
   exact⟨by rw[Zd];omega,Ze () hja rfl hA⟩
 ·have:j=l.length:=by omega
  subst this
  rw[List.drop_length] at hA
  rw[<-hA]
  rfl
theorem ZfG{fid fi:FuncId}(hc:ZR P fid (ZiJ fi)=true){es:Row}{f:α->Bool}{fe:FuncId}{cs:List (List Tr)}{l:List α}
  (hi:∀ lvl S,Sem P fi lvl [.tr (.sl es),.fn fe (cs.map IV.ta)] S (iI (ixF f l 0)) S) (lvl:Nat) (S:Sto):Sem P fid lvl [.tr (.sl es),.fn fe (cs.map IV.ta)] S (iB (l.any f)) S:=by
 refine Zc hc trivial ?_
 simp only[ZiJ,Zcy,V4,YE,EVA,seval,Zf,men]
 refine Za hi ?_
 simp only[Zcy,V4,EVA,seval,Zf,men]
 have:=ZfF (f:=f) (l:=l) (Int.le_refl 0)
 by_cases h:l.any f=true
 ·simp [h,this.2 h]
 ·simp [h,mt this.1 h]
theorem ZbJ{fid fi:FuncId}(hc:ZR P fid (ZiJ fi)=true)(hi:ZR P fi (ZgS 1 none)=true){t:α->Tr}{f:α->Bool}{fe:FuncId}{cs:List (List Tr)}(l:List α)(hl:l.length<=9223372036854775807)
  (hf:∀ x∈l,∀ lvl S,Sem P fe lvl (.tr (t x)::cs.map IV.ta) S (iB (f x)) S) (lvl:Nat) (S:Sto):Sem P fid lvl [.tr (.sl (l.map fun x=>[t x])),.fn fe (cs.map IV.ta)] S (iB (l.any f)) S :=
 ZfG hc (ZgT hi l hl hf) lvl S
theorem Zd3{k:Nat}{fid fi:FuncId}(hc:ZR P fid (ZiJ fi)=true)(hi:ZR P fi (ZgS k (some k))=true){c:α->List Tr}(hk:∀ x,(c x).length=k){f:α->Bool}{fe:FuncId}{cs:List (List Tr)}(l:List α)(hl:l.length<=9223372036854775807)
  (hf:∀ x∈l,∀ lvl S,Sem P fe lvl (.ag ((c x).map .tr)::cs.map IV.ta) S (iB (f x)) S) (lvl:Nat) (S:Sto):Sem P fid lvl [.tr (.sl (l.map c)),.fn fe (cs.map IV.ta)] S (iB (l.any f)) S :=
 ZfG hc (ZgU hi hk l hl hf) lvl S
structure Cmp (t:α->Tr):Prop where
 neq:∀(x y:α) (F:IV->Prop),bi2 .neq 0 (.tr (t x)) (.tr (t y)) F=F (iB (!(@decide (x=y) (Classical.propDecidable _))))
 eql:∀(x y:α) (F:IV->Prop),bi2 .eql 0 (.tr (t x)) (.tr (t y)) F=F (iB (@decide (x=y) (Classical.propDecidable _)))
theorem ZpH:Cmp ts:=⟨fun x y F=>by rw[ZjJ];congr 2;by_cases h:x=y <;> simp [h],fun x y F=>by rw[ZjI];congr 2;by_cases h:x=y <;> simp [h]⟩
theorem ZiK{fid:FuncId}(hc:ZR P fid ZpG=true)[DecidableEq α]{t:α->Tr}(hT:Cmp t)(a b:List α)(ha:a.length<=9223372036854775807)(lvl:Nat)(S:Sto):Sem P fid lvl [.tr (.sl (a.map fun x=>[t x])),.tr (.sl (b.map fun x=>[t x]))] S (iB (decide (a=b))) S:=by
 refine Zc hc trivial ?_
 simp only[ZpG,List.length_map,EVA,seval,Zf,men]
 refine Zn (fun h=>?_) (fun h=>?_)
 ·have:¬ a=b:=fun e=>h (by rw[e])
  simp [this]
 have hlen:a.length=b.length:=by omega
 refine ZI (α:=Unit) a.length (fun j _=>[(13,iI j)]) (fun _ _=>[]) (fun j _=>a.take j=b.take j) () (by simp only[EVA,seval,Zf,men]) (by (simp only[EVA,seval,Zf,men]) <;> rfl) rfl ?_
 intro j _ hj hA
 simp only[List.length_map,EVA,seval,Zf,men]
 refine Zn (fun hlt=>?_) (fun hge=>?_)
 ·have hja:j<a.length:=by omega
  have hjb:j<b.length:=by omega
  have ga:=Q1 (c:=fun x=>[t x]) hja
  have gb:=Q1 (c:=fun x=>[t x]) hjb
  have hq:=hT.neq a[j] b[j]
  simp only[ga,gb,hq,EVA,seval,Zf,men]
  refine Zn (fun hne=>?_) (fun he=>?_)
  ·have:¬ a=b:=XN hja hjb (by simpa using hne)
   simp [this]
  ·exact⟨by rw[Zd];omega,Ze () hja rfl (VW hja hjb hA (by simpa using he))⟩
 ·have:j=a.length:=by omega
  subst this
  have:a=b:=QD hlen hA
  simp [this]
end
end Go.Fd

/-
  WHAT HOLDS OF THE PROGRAM'S AND THE REFERENCE'S SMALL FUNCTIONS ON NUMBERS. Own work.
-/
namespace Go.Fd
set_option maxRecDepth 20000
noncomputable def dc(p:Prop):Bool:=@decide p (Classical.propDecidable p)
theorem dc_iff{p:Prop}:dc p=true↔p:=by unfold dc;simp
theorem Va{p:Prop}(h:p):dc p=true:=dc_iff.2 h
theorem Zg{p:Prop}(h:¬ p):dc p=false:=by
 cases hh:dc p with
 | false=>rfl
 | true=>exact absurd (dc_iff.1 hh) h
theorem dc_not{p:Prop}:dc p=false ↔ ¬ p:=⟨fun h hp=>(by rw[Va hp] at h;cases h),Zg⟩
theorem Ja{p q:Prop}(h:p↔q):dc p=dc q:=by rw[propext h]
theorem Jn{p:Prop}[Decidable p]:dc p=decide p:=by
 by_cases h:p
 ·rw[Va h];simp [h]
 ·rw[Zg h];simp [h]
abbrev g0(l:List Int)(i:Nat):Int:=l.getD i 0
abbrev A3:=Int×Int×Int
abbrev g3(l:List A3)(i:Nat):A3:=l.getD i (0,0,0)
theorem WV{l:List Int}{i:Nat}(h:i<l.length):(rI l)[i]? = some [tv (g0 l i)]:=by simp [h]
def inB(n a b:Int):Bool:=decide (a<=n)&&decide (n<=b)
theorem inB_iff{n a b:Int}:inB n a b=true↔a<=n/\n<=b:=by simp [inB]
theorem inB_not{n a b:Int}:inB n a b=false ↔ ¬ (a<=n/\n<=b):=by
 rw[<-inB_iff];cases inB n a b <;> simp
theorem YR(n a b:Int)(lvl:Nat)(S:Sto):Sem Proofs.Tryz.prog ZE lvl [iI n,iI a,iI b] S (iB (inB n a b)) S:=by
 refine Zc Zdn trivial ?_
 simp only[DC,EVA,seval,Zf,men]
 refine Zn (fun h=>?_) (fun h=>?_) <;> simp [inB,h]
theorem JO(n a b:Int)(lvl:Nat)(S:Sto):Sem Proofs.Tryz.prog Zv lvl [iI n,iI a,iI b] S (iB (inB n a b)) S:=by
 refine Zc ZbA trivial ?_
 simp only[WI,EVA,seval,Zf,men]
 refine Zn (fun h=>?_) (fun h=>?_) <;> simp [inB,h]
end Go.Fd

/-
  NUMBERS OF LIBRARY FUNCTIONS IN THIS PROGRAM, as the guide's shelf lays them (printed by lay.py out of the kit's own command).
-/
namespace Go.Proofs
open Go.Shelf
def Tryz.lays160_ren:Go.Shelf.Ren:=⟨fun | 160=>96 | 232=>102 | 231=>101 | 227=>103 | 234=>105 | 233=>104 | 236=>107 | 235=>106 | 228=>112 | 271=>115 | 151=>114 | 197=>113 | 120=>123 | 152=>122 | 260=>121 | 137=>126 | 119=>127 | 224=>128 | 225=>129 | 217=>130 | 266=>131 | n=>n,fun | 9=>9 | 4=>4 | 3=>3 | 5=>5 | 117=>138 | 116=>137 | 0=>0 | 124=>141 | 21=>21 | 105=>149 | 46=>157 | 119=>161 | 139=>164 | 138=>163 | n=>n,fun | 3=>2 | 4=>3 | n=>n⟩
theorem Tryz.lays160:Go.Proofs.Lays.n160 Tryz.prog Tryz.lays160_ren:={
  mixed:=by kernel_rfl,
  f119:=Tryz.func127.trans (congrArg some (by kernel_rfl)),
  f120:=Tryz.func123.trans (congrArg some (by kernel_rfl)),
  f137:=Tryz.func126.trans (congrArg some (by kernel_rfl)),
  f151:=Tryz.func114.trans (congrArg some (by kernel_rfl)),
  f152:=Tryz.func122.trans (congrArg some (by kernel_rfl)),
  f160:=Tryz.func96.trans (congrArg some (by kernel_rfl)),
  f197:=Tryz.func113.trans (congrArg some (by kernel_rfl)),
  f217:=Tryz.func130.trans (congrArg some (by kernel_rfl)),
  f224:=Tryz.func128.trans (congrArg some (by kernel_rfl)),
  f225:=Tryz.func129.trans (congrArg some (by kernel_rfl)),
  f227:=Tryz.func103.trans (congrArg some (by kernel_rfl)),
  f228:=Tryz.func112.trans (congrArg some (by kernel_rfl)),
  f231:=Tryz.func101.trans (congrArg some (by kernel_rfl)),
  f232:=Tryz.func102.trans (congrArg some (by kernel_rfl)),
  f233:=Tryz.func104.trans (congrArg some (by kernel_rfl)),
  f234:=Tryz.func105.trans (congrArg some (by kernel_rfl)),
  f235:=Tryz.func106.trans (congrArg some (by kernel_rfl)),
  f236:=Tryz.func107.trans (congrArg some (by kernel_rfl)),
  f260:=Tryz.func121.trans (congrArg some (by kernel_rfl)),
  f266:=Tryz.func131.trans (congrArg some (by kernel_rfl)),
  f271:=Tryz.func115.trans (congrArg some (by kernel_rfl)),
  t0:=Tryz.underlying0,
  a0:=Tryz.isAgg0,
  z0:=Tryz.sizeOf0,
  v0:=Tryz.zeroValue0,
  t3:=Tryz.underlying3,
  a3:=Tryz.isAgg3,
  z3:=Tryz.sizeOf3,
  v3:=Tryz.zeroValue3,
  t4:=Tryz.underlying4,
  a4:=Tryz.isAgg4,
  z4:=Tryz.sizeOf4,
  v4:=Tryz.zeroValue4,
  t5:=Tryz.underlying5,
  a5:=Tryz.isAgg5,
  z5:=Tryz.sizeOf5,
  v5:=Tryz.zeroValue5,
  t9:=Tryz.underlying9,
  a9:=Tryz.isAgg9,
  z9:=Tryz.sizeOf9,
  v9:=Tryz.zeroValue9,
  t21:=Tryz.underlying21,
  a21:=Tryz.isAgg21,
  z21:=Tryz.sizeOf21,
  v21:=Tryz.zeroValue21,
  t46:=Tryz.underlying157,
  a46:=Tryz.isAgg157,
  z46:=Tryz.sizeOf157,
  v46:=Tryz.zeroValue157,
  t105:=Tryz.underlying149,
  a105:=Tryz.isAgg149,
  z105:=Tryz.sizeOf149,
  v105:=Tryz.zeroValue149,
  t116:=Tryz.underlying137,
  a116:=Tryz.isAgg137,
  z116:=Tryz.sizeOf137,
  t117:=Tryz.underlying138,
  a117:=Tryz.isAgg138,
  z117:=Tryz.sizeOf138,
  v117:=Tryz.zeroValue138,
  t119:=Tryz.underlying161,
  a119:=Tryz.isAgg161,
  z119:=Tryz.sizeOf161,
  t124:=Tryz.underlying141,
  a124:=Tryz.isAgg141,
  z124:=Tryz.sizeOf141,
  v124:=Tryz.zeroValue141,
  t138:=Tryz.underlying163,
  a138:=Tryz.isAgg163,
  z138:=Tryz.sizeOf163,
  v138:=Tryz.zeroValue163,
  t139:=Tryz.underlying164,
  a139:=Tryz.isAgg164,
  z139:=Tryz.sizeOf164,
  v139:=Tryz.zeroValue164,
  g3:=by kernel_rfl,
  g4:=by kernel_rfl }
end Go.Proofs
