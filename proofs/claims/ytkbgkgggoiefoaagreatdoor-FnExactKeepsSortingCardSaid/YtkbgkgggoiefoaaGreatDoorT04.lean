/-
  FOUNDATION 46: more rules: stores, append. Own work.
-/
import Derived.Test.YtkbgkgggoiefoaaGreatDoorT03
import Derived.ChangeArms
import Derived.OpenShut
import Derived.Carry
import Derived.ChangeMaps5
import Derived.ChangeShapes
import Derived.Test.YtkbgkgggoiefoaaGreatDoorProg
set_option linter.all false
namespace Go.Fd
section
variable {C:Zk} {lvl:Nat} {env:List (Nat×IV)} {loc:List (Nat×Ob)} {out:Sto} {d:Option Nat} {K:St->Prop} {st:St}
def st2(v:Option (List IV))(m:Nat)(p:IV)(d:Option Nat)(st:St)(K:St->Prop):Prop :=
 match v with
 | some l=>d=none/\l.length=m /\
  match p with
  | .ab id off =>
   match st.sto id with
   | some (.bx cells)=>off+l.length<=cells.length/\X9 (id.1+1) l/\K (Zn st id (.bx (QV cells off l)))
   | _=>False
  | .ae id p i f s=>Zdw id p i s f l st K
  | _=>False
 | none=>False
theorem ZuN{m:Nat}{p x:X}:op2 C d (.st m p x) ⟨lvl,env,loc,out⟩ K=st2 (cellsOf (xv env x)) m (xv env p) d ⟨lvl,env,loc,out⟩ K:=by
 rw[ZS rfl]
 simp only[ew]
 generalize cellsOf (xv env x)=v
 cases v with
 | none=>simp [st2]
 | some l=>rfl
def stb(o:Option Ob)(id:Oid)(off:Nat)(l:List IV)(st:St)(K:St->Prop):Prop :=
 match o with
 | some (.bx cells)=>off+l.length<=cells.length/\X9 (id.1+1) l/\K (Zn st id (.bx (QV cells off l)))
 | _=>False
theorem Zsr{m:Nat}{l:List IV}{id:Oid}{off:Nat}:st2 (some l) m (.ab id off) d ⟨lvl,env,loc,out⟩ K=(d=none/\l.length=m/\stb (ZC lvl loc out id) id off l ⟨lvl,env,loc,out⟩ K):=(rfl)
theorem Zss{m:Nat}{l:List IV}{id:Oid}{p:Pth}{i f s:Nat}:st2 (some l) m (.ae id p i f s) d st K=(d=none/\l.length=m/\Zdw id p i s f l st K):=(rfl)
theorem Zst{cells l:List IV}{id:Oid}{off:Nat}:stb (some (.bx cells)) id off l st K=(off+l.length<=cells.length/\X9 (id.1+1) l/\K (Zn st id (.bx (QV cells off l)))):=(rfl)
theorem ZM{cs:List IV}{off:Nat}:QV cs off []=cs:=(rfl)
theorem ZN{cs:List IV}{off:Nat}{x:IV}{r:List IV}:QV cs off (x::r)=QV (cs.set off x) (off+1) r:=(rfl)
theorem ZlN{l:Nat}:X9 l []=True:=(rfl)
theorem ZlO{l:Nat}{x:IV}{r:List IV}:X9 l (x::r)=(low l x/\X9 l r):=(rfl)
theorem Zoc{l:Nat}{t:Tr}:low l (.tr t)=True:=(rfl)
theorem Zod{l:Nat}{es:Row}:low l (.cs es)=True:=(rfl)
theorem Zoe{l k:Nat}{p:Pth}{off len s:Nat}{cap:Option Nat}:low (l+1) (.hd (l,k) p off len cap s)=True:=by
 apply propext;simp [low,men]
theorem Zof{l k off:Nat}:low (l+1) (.ab (l,k) off)=True:=by
 apply propext;simp [low,men]
theorem Zog{l:Nat}{c:List IV}:low l (.ag c)=X9 l c:=by simp only[low,X9,men]
theorem Zoh{l:Nat}{c:List IV}:low l (.tu c)=X9 l c:=by simp only[low,X9,men]
theorem Zoi{l k:Nat}{es:Row}{u:Bool}:low l (.ow k es u)=True:=(rfl)
theorem Zoj{l:Nat}:low l .un=True:=(rfl)
theorem Zok{l:Nat}:low l .er=True:=(rfl)
theorem ZlP{l:Nat}{c:List Tr}:low l (.ta c)=True:=(rfl)
def kst(id:Oid)(p:Pth)(i s f:Nat)(r:List IV)(K:St->Prop)(st':St):Prop:=Zdw id p i s f r st' K
theorem Zsu{id:Oid}{p:Pth}{i s f:Nat}{r:List IV}:kst id p i s f r K st=Zdw id p i s f r st K:=(rfl)
theorem ZlQ{id:Oid}{p:Pth}{i s f:Nat}:Zdw id p i s f [] st K=K st:=(rfl)
def sc1(o:Option Ob)(id:Oid)(p:Pth)(i f s:Nat)(x:IV)(st:St)(K:St->Prop):Prop :=
 match o with
 | some (.ar k es u hw ver)=>VQ p s hw ver u/\op3 (getp es p) fun es' => op3 es'[i]? fun e=>op3 e[f]? fun t0 =>
  match x with
  | .tr (.v y)=>isSc t0=true/\K (Zn st id (.ar k (Y2 es p i f (.v y)) u hw ver))
  | .cs []=>p=[]/\K (Zn st id (.ar k (Y2 es [] i f (.sl [])) u hw (ver+1)))
  | .cs zs=>p=[]/\K (Zn st id (.ar k (Y2 es [] i f (.sl zs)) false hw (ver+1)))
  | .tr (.sl zs)=>p=[]/\K (Zn st id (.ar k (Y2 es [] i f (.sl zs)) false hw (ver+1)))
  | .hd id2 [] 0 len none s2=>p=[]/\id2≠id/\id2.1=st.lvl /\
   match st.sto id2 with
   | some (.ar _ zs u2 hw2 _)=>s2=hw2/\len=zs.length/\K (Zn (JM id2 st) id (.ar k (Y2 es [] i f (.sl zs)) (u&&u2) hw (ver+1)))
   | _=>False
  | _=>False
 | _=>False
theorem ZlR{id:Oid}{p:Pth}{i s f:Nat}{x:IV}{r:List IV}:Zdw id p i s f (x::r) ⟨lvl,env,loc,out⟩ K=sc1 (ZC lvl loc out id) id p i f s x ⟨lvl,env,loc,out⟩ (kst id p i s (f+1) r K):=by
 simp only[Zdw,stc,sc1]
 rw[show (⟨lvl,env,loc,out⟩:St).sto id=ZC lvl loc out id from rfl]
 generalize ZC lvl loc out id=o
 cases o with
 | none=>rfl
 | some ob =>
  cases ob with
  | bx=>rfl
  | ar k es u hw ver =>
   dsimp only
   rw[<-Vk]
   apply propext
   constructor
   ·rintro⟨es',h1,h2,e,h3,t0,h4,h5⟩
    refine⟨h2,es',h1,?_⟩
    rw[h3]
    simp only[op3]
    rw[h4]
    exact h5
   ·rintro⟨h2,es',h1,h3⟩
    rw[<-Vk] at h3
    obtain⟨e,h3,h4⟩:=h3
    rw[<-Vk] at h4
    obtain⟨t0,h4,h5⟩:=h4
    exact⟨es',h1,h2,e,h3,t0,h4,h5⟩
def sc2(k:Nat)(es:Row)(u:Bool)(hw ver:Nat)(id:Oid)(p:Pth)(i f:Nat)(x:IV)(st:St)(K:St->Prop)(t0:Tr):Prop :=
  match x with
  | .tr (.v y)=>isSc t0=true/\K (Zn st id (.ar k (Y2 es p i f (.v y)) u hw ver))
  | .cs []=>p=[]/\K (Zn st id (.ar k (Y2 es [] i f (.sl [])) u hw (ver+1)))
  | .cs zs=>p=[]/\K (Zn st id (.ar k (Y2 es [] i f (.sl zs)) false hw (ver+1)))
  | .tr (.sl zs)=>p=[]/\K (Zn st id (.ar k (Y2 es [] i f (.sl zs)) false hw (ver+1)))
  | .hd id2 [] 0 len none s2=>p=[]/\id2≠id/\id2.1=st.lvl /\
   match st.sto id2 with
   | some (.ar _ zs u2 hw2 _)=>s2=hw2/\len=zs.length/\K (Zn (JM id2 st) id (.ar k (Y2 es [] i f (.sl zs)) (u&&u2) hw (ver+1)))
   | _=>False
  | _=>False
def sc3(k:Nat)(es:Row)(u:Bool)(hw ver:Nat)(id:Oid)(p:Pth)(i f:Nat)(x:IV)(st:St)(K:St->Prop)(e:List Tr):Prop:=op3 e[f]? (sc2 k es u hw ver id p i f x st K)
def sc4(k:Nat)(es:Row)(u:Bool)(hw ver:Nat)(id:Oid)(p:Pth)(i f:Nat)(x:IV)(st:St)(K:St->Prop)(es':Row):Prop:=op3 es'[i]? (sc3 k es u hw ver id p i f x st K)
section sc
variable {k:Nat} {es:Row} {u:Bool} {hw ver:Nat} {id:Oid} {p:Pth} {i f s:Nat} {x:IV}
theorem Zsv:sc1 (some (.ar k es u hw ver)) id p i f s x st K=(VQ p s hw ver u/\op3 (getp es p) (sc4 k es u hw ver id p i f x st K)):=(rfl)
theorem Zsw{e:List Tr}:sc3 k es u hw ver id p i f x st K e=op3 e[f]? (sc2 k es u hw ver id p i f x st K):=(rfl)
theorem Zsx{es':Row}:sc4 k es u hw ver id p i f x st K es'=op3 es'[i]? (sc3 k es u hw ver id p i f x st K):=(rfl)
theorem Zsy{y:Value}{t0:Tr}:sc2 k es u hw ver id p i f (.tr (.v y)) st K t0=(isSc t0=true/\K (Zn st id (.ar k (Y2 es p i f (.v y)) u hw ver))):=(rfl)
theorem Zol{t0:Tr}:sc2 k es u hw ver id p i f (.cs []) st K t0=(p=[]/\K (Zn st id (.ar k (Y2 es [] i f (.sl [])) u hw (ver+1)))):=(rfl)
theorem Zom{zs:Row}{t0:Tr}:sc2 k es u hw ver id p i f (.tr (.sl zs)) st K t0=(p=[]/\K (Zn st id (.ar k (Y2 es [] i f (.sl zs)) false hw (ver+1)))):=(rfl)
def sc5(o:Option Ob)(k:Nat)(es:Row)(u:Bool)(hw ver:Nat)(id:Oid)(i f len s2:Nat)(st2 st:St)(K:St->Prop):Prop :=
 match o with
 | some (.ar _ zs u2 hw2 _)=>s2=hw2/\len=zs.length/\K (Zn st2 id (.ar k (Y2 es [] i f (.sl zs)) (u&&u2) hw (ver+1)))
 | _=>False
theorem Zon{key len s2:Nat}{t0:Tr}:sc2 k es u hw ver id p i f (.hd (lvl,key) [] 0 len none s2) ⟨lvl,env,loc,out⟩ K t0=(p=[]/\(lvl,key)≠id/\sc5 (lkO key loc) k es u hw ver id i f len s2 (JM (lvl,key) ⟨lvl,env,loc,out⟩) ⟨lvl,env,loc,out⟩ K):=by
 simp only[sc2]
 rw[show (⟨lvl,env,loc,out⟩:St).sto (lvl,key)=lkO key loc from Qf]
 generalize lkO key loc=o
 apply propext
 constructor
 ·rintro⟨h1,h2,_,h3⟩
  refine⟨h1,h2,?_⟩
  cases o with
  | none=>exact h3
  | some ob=>cases ob <;> exact h3
 ·rintro⟨h1,h2,h3⟩
  refine⟨h1,h2,trivial,?_⟩
  cases o with
  | none=>exact h3
  | some ob=>cases ob <;> exact h3
theorem Zsz{k2:Nat}{zs:Row}{u2:Bool}{hw2 ver2 len s2:Nat}{st2:St}:sc5 (some (.ar k2 zs u2 hw2 ver2)) k es u hw ver id i f len s2 st2 st K=(s2=hw2/\len=zs.length/\K (Zn st2 id (.ar k (Y2 es [] i f (.sl zs)) (u&&u2) hw (ver+1)))):=(rfl)
end sc
theorem ZuO{k n:Nat}{z:List Value}{ps:List (Nat×X)}:op2 C d (.bw k n z ps) ⟨lvl,env,loc,out⟩ K=ew C d ⟨lvl,env,loc,out⟩ K (.bw k n z ps):=ZS rfl
def kbw(k lvl:Nat)(d:Option Nat)(K:St->Prop)(ts:List Tr)(u:Bool)(st':St):Prop :=
 K { Zn st' (lvl,keyOf d) (.ar k [ts] u 1 0) with env:=ptd d (.hd (lvl,keyOf d) [] 0 1 none 1) st'.env }
theorem ZsA{k:Nat}{ts:List Tr}{u:Bool}:kbw k lvl d K ts u ⟨lvl,env,loc,out⟩=K ⟨lvl,ptd d (.hd (lvl,keyOf d) [] 0 1 none 1) env,ptO (keyOf d) (.ar k [ts] u 1 0) loc,out⟩:=by
 simp only[kbw,W4]
def bw2(v:Option (List IV))(k n:Nat)(d:Option Nat)(loc:List (Nat×Ob))(lvl:Nat)(st:St)(K:St->Prop):Prop :=
 match v with
 | some l=>n=1/\l.length=k/\freshK (keyOf d) loc 1/\ZfR l st (kbw k lvl d K)
 | none=>False
theorem ZsB{k n:Nat}{z:List Value}{x:X}:ew C d ⟨lvl,env,loc,out⟩ K (.bw k n z [(0,x)])=bw2 (cellsOf (xv env x)) k n d loc lvl ⟨lvl,env,loc,out⟩ K:=by
 simp only[ew]
 generalize cellsOf (xv env x)=v
 cases v with
 | none=>simp [bw2]
 | some l=>rfl
theorem ZsC{k n:Nat}{l:List IV}:bw2 (some l) k n d loc lvl st K=(n=1/\l.length=k/\freshK (keyOf d) loc 1/\ZfR l st (kbw k lvl d K)):=(rfl)
def kmv(r:List IV)(F:List Tr->Bool->St->Prop)(t:Tr)(a:Bool)(st':St):Prop:=ZfR r st' fun ts b st'' => F (t::ts) (a&&b) st''
def kmc(t:Tr)(a:Bool)(F:List Tr->Bool->St->Prop)(ts:List Tr)(b:Bool)(st'':St):Prop:=F (t::ts) (a&&b) st''
section mv
variable {r:List IV} {F:List Tr->Bool->St->Prop} {F1:Tr->Bool->St->Prop}
theorem ZsD{t:Tr}{a:Bool}:kmv r F t a st=ZfR r st (kmc t a F):=(rfl)
theorem ZsE{t:Tr}{a:Bool}{ts:List Tr}{b:Bool}:kmc t a F ts b st=F (t::ts) (a&&b) st:=(rfl)
theorem ZlS:ZfR [] st F=F [] true st:=(rfl)
theorem ZlT{x:IV}:ZfR (x::r) st F=mvc st x (kmv r F):=(rfl)
theorem Zoo{y:Value}:mvc st (.tr (.v y)) F1=F1 (.v y) true st:=(rfl)
theorem Zop{es:Row}:mvc st (.tr (.sl es)) F1=F1 (.sl es) false st:=(rfl)
theorem Zoq:mvc st (.cs []) F1=F1 (.sl []) true st:=(rfl)
def mv5(o:Option Ob)(len s2:Nat)(st1:St)(F1:Tr->Bool->St->Prop):Prop :=
 match o with
 | some (.ar _ zs u2 hw2 _)=>s2=hw2/\len=zs.length/\F1 (.sl zs) u2 st1
 | _=>False
theorem Zor{key len s2:Nat}:mvc ⟨lvl,env,loc,out⟩ (.hd (lvl,key) [] 0 len none s2) F1=mv5 (lkO key loc) len s2 (JM (lvl,key) ⟨lvl,env,loc,out⟩) F1:=by
 simp only[mvc]
 rw[show (⟨lvl,env,loc,out⟩:St).sto (lvl,key)=lkO key loc from Qf]
 generalize lkO key loc=o
 apply propext
 constructor
 ·rintro⟨_,h3⟩
  cases o with
  | none=>exact h3
  | some ob=>cases ob <;> exact h3
 ·intro h3
  refine⟨trivial,?_⟩
  cases o with
  | none=>exact h3
  | some ob=>cases ob <;> exact h3
theorem ZsF{k2:Nat}{zs:Row}{u2:Bool}{hw2 ver2 len s2:Nat}:mv5 (some (.ar k2 zs u2 hw2 ver2)) len s2 st F1=(s2=hw2/\len=zs.length/\F1 (.sl zs) u2 st):=(rfl)
end mv
def Zos:IV->Prop
 | .hd _ [] 0 _ none _=>True
 | _=>False
theorem Zot{id:Oid}{len s:Nat}:Zos (.hd id [] 0 len none s)=True:=(rfl)
def ZkN:List IV->Prop
 | []=>True
 | .tr (.v _)::r=>ZkN r
 | _=>False
theorem ZlU:ZkN []=True:=(rfl)
theorem ZlV{y:Value}{r:List IV}:ZkN (.tr (.v y)::r)=ZkN r:=(rfl)
def smp(p:IV)(l:Option (List IV)):Prop :=
 match p with
 | .ab .. => True
 | .ae .. => l≠some []/\ZkN (l.getD [])
 | _=>False
theorem Zou{id:Oid}{off:Nat}{l:Option (List IV)}:smp (.ab id off) l=True:=(rfl)
theorem Zov{id:Oid}{p:Pth}{i f s:Nat}{x:IV}{r:List IV}:smp (.ae id p i f s) (some (x::r))=ZkN (x::r):=by simp [smp]
theorem Zg4{id:Oid}{p:Pth}{i s k:Nat}{u:Bool}{hw ver:Nat}:∀(l:List IV) (f:Nat) (es:Row) (st0:St) (K:St->Prop),ZkN l->st0.sto id=some (.ar k es u hw ver)->Zdw id p i s f l st0 K->stq p i f l es (fun es' => K (Zn st0 id (.ar k es' u hw ver)))\/l=[]
 | [],f,es,st0,K,_,_,h=>.inr rfl
 | x::r,f,es,st0,K,ha,hs,h=>by
  refine .inl ?_
  simp only[Zdw,stc] at h
  rw[hs] at h
  obtain⟨es',hg,hst,e,hi,t0,hf,h⟩:=h
  cases x with
  | tr t =>
   cases t with
   | v y =>
    obtain⟨hsc,h⟩:=h
    simp only[stq]
    refine⟨es',hg,e,hi,t0,hf,hsc,?_⟩
    have hs1:(Zn st0 id (.ar k (Y2 es p i f (.v y)) u hw ver)).sto id=some (.ar k (Y2 es p i f (.v y)) u hw ver):=by rw[ZP];unfold ZT;rw[if_pos rfl]
    rcases Zg4 r (f+1) _ _ K ha hs1 h with g | g
    ·simp only[Wj] at g
     exact g
    ·subst g
     exact h
   | sl=>cases ha
  | _=>cases ha
theorem ZuP{m:Nat}{p x:X}:op2 C d (.s0 m p x) ⟨lvl,env,loc,out⟩ K=(smp (xv env p) (cellsOf (xv env x))/\op2 C d (.st m p x) ⟨lvl,env,loc,out⟩ K):=by
 rw[ZS rfl,ZS rfl]
 simp only[ew,UJ]
 generalize cellsOf (xv env x)=v
 generalize xv env p=q
 apply propext
 constructor
 ·rintro⟨h0,h⟩
  split at h <;> try contradiction
  rename_i l
  obtain⟨h1,h⟩:=h
  split at h <;> try contradiction
  ·exact⟨trivial,h0,h1,h⟩
  ·rename_i id p i f s
   split at h <;> try contradiction
   rename_i k es u hw ver hs
   obtain⟨g1,g2,g3⟩:=h
   refine⟨⟨by simpa using g1,?_⟩,h0,h1,ZdJ g2 l f es _ K hs g3 (fun e=>absurd e g1)⟩
   have:∀(l:List IV) (f:Nat) (es:Row) (K:Row->Prop),stq p i f l es K->ZkN l:=by
    intro l
    induction l with
    | nil=>intros;trivial
    | cons x r ih =>
     intro f es K h
     simp only[stq] at h
     obtain⟨_,_,_,_,_,_,_,h⟩:=h
     split at h <;> try contradiction
     exact ih _ _ _ h
   exact this _ _ _ _ g3
 ·rintro⟨h3,h0,h⟩
  refine⟨h0,?_⟩
  split at h <;> try contradiction
  rename_i l
  obtain⟨h1,h⟩:=h
  refine⟨h1,?_⟩
  split at h <;> try contradiction
  ·exact h
  ·rename_i id p i f s
   obtain⟨g1,g2⟩:=h3
   cases l with
   | nil=>exact absurd rfl g1
   | cons y r =>
    have h':=h
    simp only[Zdw,stc] at h'
    split at h' <;> try contradiction
    rename_i k es u hw ver hs
    refine⟨by simp,h'.choose_spec.2.1,?_⟩
    rcases Zg4 _ _ _ _ K g2 hs h with g | g
    ·exact g
    ·cases g
theorem ZuQ{k:Nat}{x y:X}:op2 C d (.a0 k x y) ⟨lvl,env,loc,out⟩ K=(Zos (xv env x)/\op2 C d (.ap k 0 x y) ⟨lvl,env,loc,out⟩ K):=by
 rw[ZS rfl,ZS rfl]
 apply propext
 constructor
 ·intro he
  refine⟨?_,ZgQ he⟩
  simp only[ew,UJ] at he
  split at he <;> try contradiction
  rename_i hx
  rw[hx];trivial
 ·rintro⟨h1,h⟩
  generalize hq:xv env x=q at h1
  unfold Zos at h1
  split at h1 <;> try contradiction
  rename_i id len s
  have go:∀ items:Row,ScR items->Ww d k x loc items true ⟨lvl,env,loc,out⟩ K->match ZC lvl loc out id with
   | some (.ar k' es u hw ver)=>k'=k/\s=hw/\len=es.length/\ScR items/\UnR k items/\len+items.length<=bigN /\
     K { Zn ⟨lvl,env,loc,out⟩ id (.ar k (es++items) u (max hw (len+items.length)) ver) with env:=ptd d (.hd id [] 0 (len+items.length) none (max hw (len+items.length))) env }
   | _=>False:=fun items hsc h=>by
   unfold Ww at h
   obtain⟨g1,h⟩:=h
   simp only[hq] at h
   rw[show (⟨lvl,env,loc,out⟩:St).sto id=ZC lvl loc out id from rfl] at h
   generalize ZC lvl loc out id=o at h ⊢
   cases o with
   | none=>exact h
   | some ob =>
    cases ob with
    | bx=>exact h
    | ar k' es u hw ver =>
     simp only[Bool.and_true] at h
     exact⟨h.1,h.2.1,h.2.2.1,hsc,g1,h.2.2.2.1,h.2.2.2.2⟩
  simp only[ew,UJ,ZfQ] at h ⊢
  rw[hq]
  rw[show (⟨lvl,env,loc,out⟩:St).sto=ZC lvl loc out from rfl] at *
  split at h <;> try contradiction
  ·rename_i zs hy
   simp only[if_true] at h
   have:=go zs h.1 h.2
   rw[hy]
   exact this
  ·rename_i zs hy
   simp only[if_true] at h
   have:=go zs h.1 h.2
   rw[hy]
   exact this
  ·rename_i id2 p2 off2 len2 c2 s2 hy
   simp only[if_true] at h
   rw[hy]
   dsimp only
   unfold rdh at h ⊢
   generalize ZC lvl loc out id2=o3 at h ⊢
   cases o3 with
   | none=>exact h.elim
   | some ob3 =>
    cases ob3 with
    | bx=>exact h.elim
    | ar k3 es3 u3 hw3 ver3 =>
     obtain⟨es',q1,q2,q3,q4,q5⟩:=h
     have:=go _ q4 q5
     split at this <;> try contradiction
     rename_i hs
     show (match ZC lvl loc out id with
      | some (.ar k' es u hw ver)=>k'=k/\s=hw/\len=es.length/\∃ es',getp es3 p2=some es'/\VQ p2 s2 hw3 ver3 u3/\off2+len2<=es'.length/\ScR (cut es' off2 len2)/\UnR k (cut es' off2 len2)/\len+(cut es' off2 len2).length<=bigN /\
        K { Zn ⟨lvl,env,loc,out⟩ id (.ar k (es++cut es' off2 len2) u (max hw (len+(cut es' off2 len2).length)) ver) with env:=ptd d (.hd id [] 0 (len+(cut es' off2 len2).length) none (max hw (len+(cut es' off2 len2).length))) env }
      | _=>False)
     rw[hs]
     exact⟨this.1,this.2.1,this.2.2.1,es',q1,q2,q3,this.2.2.2⟩
  ·exact absurd h.1 (by decide)
def ZpC:IV->Prop
 | .tr (.sl _)=>True
 | .cs _=>True
 | _=>False
theorem ZlW{es:Row}:ZpC (.tr (.sl es))=True:=(rfl)
theorem ZlX{es:Row}:ZpC (.cs es)=True:=(rfl)
theorem ZuR{k:Nat}{x y:X}:op2 C d (.a1 k x y) ⟨lvl,env,loc,out⟩ K=(Zos (xv env x)/\ZpC (xv env y)/\op2 C d (.ap k 1 x y) ⟨lvl,env,loc,out⟩ K):=by
 rw[ZS rfl,ZS rfl]
 apply propext
 constructor
 ·intro he
  refine⟨?_,?_,ZgR he⟩
  ·simp only[ew,UJ] at he
   split at he <;> try contradiction
   rename_i hx
   rw[hx];trivial
  ·simp only[ew,UJ] at he
   split at he <;> try contradiction
   split at he <;> try contradiction
   have h4:=he.2.2.2
   unfold Zmy at h4
   split at h4 <;> try contradiction
   ·rename_i hy;rw[hy];trivial
   ·rename_i hy;rw[hy];trivial
 ·rintro⟨h1,h2,h⟩
  generalize hq:xv env x=q at h1
  unfold Zos at h1
  split at h1 <;> try contradiction
  rename_i id len s
  have go:∀ items:Row,Ww d k x loc items false ⟨lvl,env,loc,out⟩ K->match ZC lvl loc out id with
   | some (.ar k' es u hw ver)=>k'=k/\s=hw/\len=es.length/\UnR k items/\len+items.length<=bigN /\
     K { Zn ⟨lvl,env,loc,out⟩ id (.ar k (es++items) false (max hw (len+items.length)) ver) with env:=ptd d (.hd id [] 0 (len+items.length) none (max hw (len+items.length))) env }
   | _=>False:=fun items h=>by
   unfold Ww at h
   obtain⟨g1,h⟩:=h
   simp only[hq] at h
   rw[show (⟨lvl,env,loc,out⟩:St).sto id=ZC lvl loc out id from rfl] at h
   generalize ZC lvl loc out id=o at h ⊢
   cases o with
   | none=>exact h
   | some ob =>
    cases ob with
    | bx=>exact h
    | ar k' es u hw ver =>
     simp only[Bool.and_false] at h
     exact⟨h.1,h.2.1,h.2.2.1,g1,h.2.2.2.1,h.2.2.2.2⟩
  simp only[ew,UJ,Zmy] at h ⊢
  rw[hq]
  rw[show (⟨lvl,env,loc,out⟩:St).sto=ZC lvl loc out from rfl] at *
  generalize hy:xv env y=yv at h h2 ⊢
  unfold ZpC at h2
  split at h2 <;> try contradiction
  ·simp only[Nat.reduceEqDiff,if_false,true_and] at h
   exact go _ h
  ·simp only[Nat.reduceEqDiff,if_false,true_and] at h
   exact go _ h
def az1(x n:IV)(d:Option Nat)(k:Nat)(z:List Value)(st:St)(K:St->Prop):Prop :=
 match x with
 | .cs [] =>
  match n with
  | .tr (.v (.int .i64 m))=>0<m/\m<=bigN/\freshK (keyOf d) st.loc 1 /\
    K { Zn st (st.lvl,keyOf d) (.ar k (List.replicate m.toNat (z.map trv)) true m.toNat 0) with env:=ptd d (.hd (st.lvl,keyOf d) [] 0 m.toNat none m.toNat) st.env }
  | _=>False
 | _=>False
theorem ZuS{k:Nat}{z:List Value}{x n:X}:op2 C d (.az k z x n) ⟨lvl,env,loc,out⟩ K=az1 (xv env x) (xv env n) d k z ⟨lvl,env,loc,out⟩ K:=by
 rw[ZS rfl]
 rfl
theorem ZsG{k:Nat}{z:List Value}{m:Int}:az1 (.cs []) (.tr (.v (.int .i64 m))) d k z ⟨lvl,env,loc,out⟩ K=(0<m/\m<=bigN/\freshK (keyOf d) loc 1/\K ⟨lvl,ptd d (.hd (lvl,keyOf d) [] 0 m.toNat none m.toNat) env,ptO (keyOf d) (.ar k (List.replicate m.toNat (z.map trv)) true m.toNat 0) loc,out⟩):=by
 simp only[az1,W4]
def tbx:IV->Prop
 | .ta _=>True
 | _=>False
theorem ZsH{cells:List Tr}:tbx (.ta cells)=True:=(rfl)
theorem ZuT{m:Option Nat}{p:X}:op2 C d (.lt m p) ⟨lvl,env,loc,out⟩ K=(tbx (xv env p)/\op2 C d (.ld m p) ⟨lvl,env,loc,out⟩ K):=by
 cases m <;> (
  rw[Ji rfl,Ji rfl]
  simp only[ev]
  generalize hx:xv env p=q
  cases q <;> simp [tbx])
def av4(o:Option Ob)(id:Oid)(es:Row)(hw ver len off2 len2 s2 k:Nat)(d:Option Nat)(st:St)(K:St->Prop):Prop :=
 match o with
 | some (.ar _ es2 false hw2 _)=>s2=hw2/\off2+len2<=es2.length/\UnR k (cut es2 off2 len2)/\len+(cut es2 off2 len2).length<=bigN /\
   K { Zn st id (.ar k (es++cut es2 off2 len2) false (max hw (len+(cut es2 off2 len2).length)) ver) with env:=ptd d (.hd id [] 0 (len+(cut es2 off2 len2).length) none (max hw (len+(cut es2 off2 len2).length))) st.env }
 | _=>False
def av3(y:IV)(id:Oid)(es:Row)(hw ver len k:Nat)(d:Option Nat)(st:St)(K:St->Prop):Prop :=
 match y with
 | .hd id2 [] off2 len2 _ s2=>av4 (st.sto id2) id es hw ver len off2 len2 s2 k d st K
 | _=>False
def av2(o:Option Ob)(y:IV)(id:Oid)(len s k:Nat)(d:Option Nat)(st:St)(K:St->Prop):Prop :=
 match o with
 | some (.ar k' es _ hw ver)=>k'=k/\s=hw/\len=es.length/\av3 y id es hw ver len k d st K
 | _=>False
def av1(x y:IV)(k:Nat)(d:Option Nat)(st:St)(K:St->Prop):Prop :=
 match x with
 | .hd id [] 0 len none s=>av2 (st.sto id) y id len s k d st K
 | _=>False
theorem ZuU{k:Nat}{x y:X}:op2 C d (.a2 k x y) ⟨lvl,env,loc,out⟩ K=av1 (xv env x) (xv env y) k d ⟨lvl,env,loc,out⟩ K:=by
 rw[ZS rfl]
 rfl
theorem ZsI{id:Oid}{len s k:Nat}{y:IV}:av1 (.hd id [] 0 len none s) y k d ⟨lvl,env,loc,out⟩ K=av2 (ZC lvl loc out id) y id len s k d ⟨lvl,env,loc,out⟩ K:=(rfl)
theorem ZsJ{k' hw ver len s k:Nat}{es:Row}{u:Bool}{y:IV}{id:Oid}:av2 (some (.ar k' es u hw ver)) y id len s k d st K=(k'=k/\s=hw/\len=es.length/\av3 y id es hw ver len k d st K):=(rfl)
theorem ZsK{id id2:Oid}{es:Row}{hw ver len k off2 len2 s2:Nat}{c2:Option Nat}:av3 (.hd id2 [] off2 len2 c2 s2) id es hw ver len k d ⟨lvl,env,loc,out⟩ K=av4 (ZC lvl loc out id2) id es hw ver len off2 len2 s2 k d ⟨lvl,env,loc,out⟩ K:=(rfl)
theorem ZsL{key:Nat}{es es2:Row}{k2 hw ver len off2 len2 s2 k hw2 ver2:Nat}:av4 (some (.ar k2 es2 false hw2 ver2)) (lvl,key) es hw ver len off2 len2 s2 k d ⟨lvl,env,loc,out⟩ K=(s2=hw2/\off2+len2<=es2.length/\UnR k (cut es2 off2 len2)/\len+(cut es2 off2 len2).length<=bigN /\
   K ⟨lvl,ptd d (.hd (lvl,key) [] 0 (len+(cut es2 off2 len2).length) none (max hw (len+(cut es2 off2 len2).length))) env,ptO key (.ar k (es++cut es2 off2 len2) false (max hw (len+(cut es2 off2 len2).length)) ver) loc,out⟩):=by
 simp only[av4,W4]
def abx:IV->Prop
 | .ab .. => True
 | _=>False
theorem ZsM{id:Oid}{off:Nat}:abx (.ab id off)=True:=(rfl)
theorem ZuV{m:Option Nat}{p:X}:op2 C d (.lb m p) ⟨lvl,env,loc,out⟩ K=(abx (xv env p)/\op2 C d (.ld m p) ⟨lvl,env,loc,out⟩ K):=by
 cases m <;> (
  rw[Ji rfl,Ji rfl]
  simp only[ev]
  generalize hx:xv env p=q
  cases q <;> simp [abx])
def tcs:IV->Prop
 | .tr (.sl _)=>True
 | .cs _=>True
 | _=>False
theorem Zow{es:Row}:tcs (.tr (.sl es))=True:=(rfl)
theorem Zox{es:Row}:tcs (.cs es)=True:=(rfl)
theorem ZuW{k:Nat}{x:X}{lo hi mx:Option X}:op2 C d (.sy k x lo hi mx) ⟨lvl,env,loc,out⟩ K=(tcs (xv env x)/\op2 C d (.sx k x lo hi mx) ⟨lvl,env,loc,out⟩ K):=by
 rw[Ji rfl,Ji rfl]
 simp only[ev]
 generalize hx:xv env x=q
 cases q with
 | tr t =>
  cases t with
  | v=>simp [tcs]
  | sl es=>simp only[tcs,true_and]
 | cs es=>simp only[tcs,true_and]
 | _=>simp only[tcs,false_and]
def swx(L:Sto)(k:Nat):IV->Prop
 | .tr (.sl _)=>True
 | .cs _=>True
 | .hd id [] _ _ _ _=>wid L id [] k
 | _=>False
theorem Zoy{L:Sto}{k:Nat}{es:Row}:swx L k (.tr (.sl es))=True:=(rfl)
theorem Zoz{L:Sto}{k:Nat}{es:Row}:swx L k (.cs es)=True:=(rfl)
theorem ZoA{L:Sto}{k:Nat}{id:Oid}{off len s:Nat}{cap:Option Nat}:swx L k (.hd id [] off len cap s)=wid L id [] k:=(rfl)
def ZtZ(m:Nat):Option Ob->Prop
 | some (.ar k _ _ _ _)=>k=m
 | _=>False
theorem ZoB{m k hw ver:Nat}{es:Row}{u:Bool}:ZtZ m (some (.ar k es u hw ver))=(k=m):=(rfl)
theorem ZoC{key m:Nat}:wid (ZC lvl loc out) (lvl,key) [] m=ZtZ m (lkO key loc):=by
 unfold wid
 rw[Qf]
 cases lkO key loc with
 | none=>rfl
 | some ob=>cases ob <;> rfl
theorem ZuX{k:Nat}{x:X}{lo hi mx:Option X}:op2 C d (.sw k x lo hi mx) ⟨lvl,env,loc,out⟩ K=(swx (ZC lvl loc out) k (xv env x)/\op2 C d (.sx k x lo hi mx) ⟨lvl,env,loc,out⟩ K):=by
 rw[Ji rfl,Ji rfl]
 simp only[ev]
 generalize xv env x=q
 cases q with
 | tr t =>
  cases t with
  | v=>simp [swx]
  | sl es=>simp only[swx,true_and]
 | cs es=>simp only[swx,true_and]
 | hd id p off len cap s =>
  cases p with
  | nil =>
   simp only[swx]
   exact propext ⟨fun⟨hw,h⟩=>⟨hw,Vh (fun a h=>Vh (fun b h=>⟨h.1,h.2.1,Vh (fun m g=>⟨g.1,g.2.1,hw,g.2.2⟩) h.2.2⟩) h) h⟩,fun⟨hw,h⟩=>⟨hw,Vh (fun a h=>Vh (fun b h=>⟨h.1,h.2.1,Vh (fun m g=>⟨g.1,g.2.1,g.2.2.2⟩) h.2.2⟩) h) h⟩⟩
  | cons c r=>simp [swx]
 | _=>simp [swx]
theorem ZuY{k:Nat}{x i:X}:op2 C d (.it k x i) ⟨lvl,env,loc,out⟩ K=(tcs (xv env x)/\op2 C d (.ia k x i) ⟨lvl,env,loc,out⟩ K):=by
 rw[Ji rfl,Ji rfl]
 simp only[ev]
 generalize xv env x=q
 generalize xv env i=qi
 cases q with
 | tr t =>
  cases t with
  | v=>simp only[tcs,false_and];split <;> simp
  | sl es=>simp only[tcs,true_and]
 | cs es=>simp only[tcs,true_and]
 | _=>simp only[tcs,false_and];split <;> simp
def apx(v:IV)(d:Option Nat)(k:Nat)(loc0:List (Nat×Ob))(items:Row)(ui:Bool)(st1:St)(K:St->Prop):Prop :=
 UnR k items /\
 match v with
 | .cs zs=>(zs=[]\/items≠[])/\zs.length+items.length<=bigN/\UnR k zs/\freshK (keyOf d) loc0 1/\(zs=[]\/ui=false\/ScR zs) /\
  K { Zn st1 (st1.lvl,keyOf d) (.ar k (zs++items) ui (zs.length+items.length) 0) with env:=ptd d (.hd (st1.lvl,keyOf d) [] 0 (zs.length+items.length) none (zs.length+items.length)) st1.env }
 | .hd id [] 0 len none s =>
  match st1.sto id with
  | some (.ar k' es u hw ver)=>k'=k/\s=hw/\len=es.length/\len+items.length<=bigN /\
   K { Zn st1 id (.ar k (es++items) (u&&ui) (max hw (len+items.length)) ver) with env:=ptd d (.hd id [] 0 (len+items.length) none (max hw (len+items.length))) st1.env }
  | _=>False
 | _=>False
theorem ZoD{k:Nat}{x:X}{loc0:List (Nat×Ob)}{items:Row}{ui:Bool}:Ww d k x loc0 items ui ⟨lvl,env,loc,out⟩ K=apx (xv env x) d k loc0 items ui ⟨lvl,env,loc,out⟩ K:=(rfl)
theorem ZoE{k:Nat}{loc0:List (Nat×Ob)}{items zs:Row}{ui:Bool}:apx (.cs zs) d k loc0 items ui ⟨lvl,env,loc,out⟩ K=(UnR k items/\(zs=[]\/items≠[])/\zs.length+items.length<=bigN/\UnR k zs/\freshK (keyOf d) loc0 1/\(zs=[]\/ui=false\/ScR zs) /\
  K ⟨lvl,ptd d (.hd (lvl,keyOf d) [] 0 (zs.length+items.length) none (zs.length+items.length)) env,ptO (keyOf d) (.ar k (zs++items) ui (zs.length+items.length) 0) loc,out⟩):=by
 simp only[apx,W4]
def aph(o:Option Ob)(d:Option Nat)(k:Nat)(id:Oid)(len s:Nat)(items:Row)(ui:Bool)(st1:St)(K:St->Prop):Prop :=
 match o with
 | some (.ar k' es u hw ver)=>k'=k/\s=hw/\len=es.length/\len+items.length<=bigN /\
   K { Zn st1 id (.ar k (es++items) (u&&ui) (max hw (len+items.length)) ver) with env:=ptd d (.hd id [] 0 (len+items.length) none (max hw (len+items.length))) st1.env }
 | _=>False
theorem ZoF{k key len s:Nat}{loc0:List (Nat×Ob)}{items:Row}{ui:Bool}:apx (.hd (lvl,key) [] 0 len none s) d k loc0 items ui ⟨lvl,env,loc,out⟩ K=(UnR k items/\aph (lkO key loc) d k (lvl,key) len s items ui ⟨lvl,env,loc,out⟩ K):=by
 simp only[apx]
 rw[show (⟨lvl,env,loc,out⟩:St).sto (lvl,key)=lkO key loc from Qf]
 rfl
theorem ZsN{k k' key len s:Nat}{items es:Row}{u ui:Bool}{hw ver:Nat}:aph (some (.ar k' es u hw ver)) d k (lvl,key) len s items ui ⟨lvl,env,loc,out⟩ K=(k'=k/\s=hw/\len=es.length/\len+items.length<=bigN /\
   K ⟨lvl,ptd d (.hd (lvl,key) [] 0 (len+items.length) none (max hw (len+items.length))) env,ptO key (.ar k (es++items) (u&&ui) (max hw (len+items.length)) ver) loc,out⟩):=by
 simp only[aph,W4]
def ap2(C:Zk)(d:Option Nat)(k md:Nat)(x:X)(y:IV)(st:St)(K:St->Prop):Prop :=
 match y with
 | .tr (.sl es)=>if md=0 then ScR es/\Ww d k x st.loc es true st K else md=1/\Ww d k x st.loc es false st K
 | .cs es=>if md=0 then ScR es/\Ww d k x st.loc es true st K else md=1/\Ww d k x st.loc es false st K
 | .hd id2 p2 off2 len2 c2 s2 =>
   if md=2 then
    p2=[]/\off2=0/\c2=none/\id2.1=st.lvl /\
    match st.sto id2 with
    | some (.ar _ zs u2 hw2 _)=>s2=hw2/\len2=zs.length/\Ww d k x st.loc zs u2 (JM id2 st) K
    | _=>False
   else if md=0 then
    rdh st.sto id2 p2 s2 fun es _ _=>off2+len2<=es.length/\ScR (cut es off2 len2)/\Ww d k x st.loc (cut es off2 len2) true st K
   else md=1/\p2=[] /\
    match st.sto id2 with
    | some (.ar k2 es _ hw2 ver2)=>s2=hw2/\off2+len2<=es.length/\Ww d k x st.loc (cut es off2 len2) false (Zn st id2 (.ar k2 es false hw2 ver2)) K
    | _=>False
 | .sv id2=>md=2/\id2.1=st.lvl /\
   match st.sto id2 with
   | some (.bx l)=>l.length=k/\ZfR l st fun ts u st' => Ww d k x st.loc [ts] u (JM id2 st') K
   | _=>False
 | _=>False
theorem ZuZ{k md:Nat}{x y:X}:op2 C d (.ap k md x y) ⟨lvl,env,loc,out⟩ K=ap2 C d k md x (xv env y) ⟨lvl,env,loc,out⟩ K:=by
 rw[ZS rfl]
 rfl
section ap
variable {k:Nat} {x:X}
theorem ZsO{es:Row}:ap2 C d k 0 x (.tr (.sl es)) ⟨lvl,env,loc,out⟩ K=(ScR es/\Ww d k x loc es true ⟨lvl,env,loc,out⟩ K):=(rfl)
theorem ZsP{es:Row}:ap2 C d k 1 x (.tr (.sl es)) ⟨lvl,env,loc,out⟩ K=Ww d k x loc es false ⟨lvl,env,loc,out⟩ K:=by simp [ap2]
theorem ZoG{es:Row}:ap2 C d k 0 x (.cs es) ⟨lvl,env,loc,out⟩ K=(ScR es/\Ww d k x loc es true ⟨lvl,env,loc,out⟩ K):=(rfl)
theorem ZoH{es:Row}:ap2 C d k 1 x (.cs es) ⟨lvl,env,loc,out⟩ K=Ww d k x loc es false ⟨lvl,env,loc,out⟩ K:=by simp [ap2]
def kap(d:Option Nat)(k:Nat)(x:X)(off2 len2:Nat)(st:St)(K:St->Prop)(es:Row)(_u:Bool)(_v:Nat):Prop:=off2+len2<=es.length/\ScR (cut es off2 len2)/\Ww d k x st.loc (cut es off2 len2) true st K
theorem ZsQ{off2 len2:Nat}{es:Row}{u:Bool}{v:Nat}:kap d k x off2 len2 ⟨lvl,env,loc,out⟩ K es u v=(off2+len2<=es.length/\ScR (cut es off2 len2)/\Ww d k x loc (cut es off2 len2) true ⟨lvl,env,loc,out⟩ K):=(rfl)
theorem ZoI{id2:Oid}{p2:Pth}{off2 len2 s2:Nat}{c2:Option Nat}:ap2 C d k 0 x (.hd id2 p2 off2 len2 c2 s2) ⟨lvl,env,loc,out⟩ K=rd3 (ZC lvl loc out id2) p2 s2 (kap d k x off2 len2 ⟨lvl,env,loc,out⟩ K):=by
 rw[<-W3]
 rfl
def ap5(o:Option Ob)(d:Option Nat)(k:Nat)(x:X)(len2 s2:Nat)(loc0:List (Nat×Ob))(st1:St)(K:St->Prop):Prop :=
 match o with
 | some (.ar _ zs u2 hw2 _)=>s2=hw2/\len2=zs.length/\Ww d k x loc0 zs u2 st1 K
 | _=>False
theorem ZoJ{key:Nat}{p2:Pth}{off2 len2 s2:Nat}{c2:Option Nat}:ap2 C d k 2 x (.hd (lvl,key) p2 off2 len2 c2 s2) ⟨lvl,env,loc,out⟩ K=(p2=[]/\off2=0/\c2=none/\ap5 (lkO key loc) d k x len2 s2 loc (JM (lvl,key) ⟨lvl,env,loc,out⟩) K):=by
 simp only[ap2,if_true]
 rw[show (⟨lvl,env,loc,out⟩:St).sto (lvl,key)=lkO key loc from Qf]
 generalize lkO key loc=o
 apply propext
 constructor
 ·rintro⟨h1,h2,h3,_,h5⟩
  refine⟨h1,h2,h3,?_⟩
  cases o with
  | none=>exact h5
  | some ob=>cases ob <;> exact h5
 ·rintro⟨h1,h2,h3,h5⟩
  refine⟨h1,h2,h3,trivial,?_⟩
  cases o with
  | none=>exact h5
  | some ob=>cases ob <;> exact h5
theorem ZsR{k2:Nat}{zs:Row}{u2:Bool}{hw2 ver2 len2 s2:Nat}{loc0:List (Nat×Ob)}{st1:St}:ap5 (some (.ar k2 zs u2 hw2 ver2)) d k x len2 s2 loc0 st1 K=(s2=hw2/\len2=zs.length/\Ww d k x loc0 zs u2 st1 K):=(rfl)
def ZsS(d:Option Nat)(k:Nat)(x:X)(loc0:List (Nat×Ob))(id2:Oid)(K:St->Prop)(ts:List Tr)(u:Bool)(st':St):Prop:=Ww d k x loc0 [ts] u (JM id2 st') K
theorem ZoK{loc0:List (Nat×Ob)}{id2:Oid}{ts:List Tr}{u:Bool}:ZsS d k x loc0 id2 K ts u st=Ww d k x loc0 [ts] u (JM id2 st) K:=(rfl)
def aps(o:Option Ob)(d:Option Nat)(k:Nat)(x:X)(loc0:List (Nat×Ob))(id2:Oid)(st1:St)(K:St->Prop):Prop :=
 match o with
 | some (.bx l)=>l.length=k/\ZfR l st1 (ZsS d k x loc0 id2 K)
 | _=>False
theorem ZsT{l:List IV}{loc0:List (Nat×Ob)}{id2:Oid}{st1:St}:aps (some (.bx l)) d k x loc0 id2 st1 K=(l.length=k/\ZfR l st1 (ZsS d k x loc0 id2 K)):=(rfl)
theorem ZoL{key:Nat}:ap2 C d k 2 x (.sv (lvl,key)) ⟨lvl,env,loc,out⟩ K=aps (lkO key loc) d k x loc (lvl,key) ⟨lvl,env,loc,out⟩ K:=by
 simp only[ap2]
 rw[show (⟨lvl,env,loc,out⟩:St).sto (lvl,key)=lkO key loc from Qf]
 generalize lkO key loc=o
 apply propext
 constructor
 ·rintro⟨_,_,h⟩
  cases o with
  | none=>exact h
  | some ob=>cases ob <;> exact h
 ·intro h
  refine⟨trivial,trivial,?_⟩
  cases o with
  | none=>exact h
  | some ob=>cases ob <;> exact h
end ap
theorem ZlY{L:Sto}{F:List IV->Prop}:∀{l:List Tr},Z4 L (l.map .tr) F=F (l.map .tr)
 | []=>Zlq
 | t::r=>by rw[List.map_cons,ZnG,ZlY,ZnC]
theorem ZdZ{Pd:Oid->Prop}:∀{l:List Tr},Zc Pd (l.map .tr)=True
 | []=>rfl
 | t::r=>by simp only[List.map_cons,Zc,men,ZdZ,and_self]
def nlf(v:IV)(neg:Bool)(lvl:Nat)(env:List (Nat×IV))(loc:List (Nat×Ob))(out:Sto)(d:Option Nat)(K:St->Prop):Prop :=
 match v with
 | .tr (.sl es)=>K ⟨lvl,ptd d (iB neg) env,loc,out⟩/\(es=[]->K ⟨lvl,ptd d (iB !neg) env,loc,out⟩)
 | .cs es=>K ⟨lvl,ptd d (iB neg) env,loc,out⟩/\(es=[]->K ⟨lvl,ptd d (iB !neg) env,loc,out⟩)
 | _=>False
theorem Zu0{C:Zk}{d:Option Nat}{neg:Bool}{x:X}{lvl:Nat}{env:List (Nat×IV)}{loc:List (Nat×Ob)}{out:Sto}{K:St->Prop}:op2 C d (.nl neg x) ⟨lvl,env,loc,out⟩ K=nlf (xv env x) neg lvl env loc out d K:=by
 rw[ZS rfl]
 rfl
theorem ZsU{neg:Bool}{es:Row}{d:Option Nat}{lvl:Nat}{env:List (Nat×IV)}{loc:List (Nat×Ob)}{out:Sto}{K:St->Prop}:nlf (.tr (.sl es)) neg lvl env loc out d K=(K ⟨lvl,ptd d (iB neg) env,loc,out⟩/\(es=[]->K ⟨lvl,ptd d (iB !neg) env,loc,out⟩)):=(rfl)
theorem ZsV{neg:Bool}{es:Row}{d:Option Nat}{lvl:Nat}{env:List (Nat×IV)}{loc:List (Nat×Ob)}{out:Sto}{K:St->Prop}:nlf (.cs es) neg lvl env loc out d K=(K ⟨lvl,ptd d (iB neg) env,loc,out⟩/\(es=[]->K ⟨lvl,ptd d (iB !neg) env,loc,out⟩)):=(rfl)
section row
variable {C:Zk} {d:Option Nat} {x y hi:X} {lvl:Nat} {env:List (Nat×IV)} {loc:List (Nat×Ob)} {out:Sto} {K:St->Prop} {st:St}
def ZeP(d:Option Nat)(x:IV)(st:St)(K:St->Prop):Prop:=K { st with env:=ptd d x st.env }
theorem ZoM{v:IV}:ZeP d v ⟨lvl,env,loc,out⟩ K=K ⟨lvl,ptd d v env,loc,out⟩:=(rfl)
theorem Zbu{v:IV}{id:Oid}{ob:Ob}:ZeP d v (Zn st id ob) K=K { Zn st id ob with env:=ptd d v st.env }:=by
 unfold ZeP
 rw[Qd]
def cpf(v:IV)(lvl:Nat)(env:List (Nat×IV))(loc:List (Nat×Ob))(out:Sto)(d:Option Nat)(K:St->Prop):Prop :=
 match v with
 | .cs es=>K ⟨lvl,ptd d (iI es.length) env,loc,out⟩
 | _=>False
theorem Zu1:op2 C d (.cp x) ⟨lvl,env,loc,out⟩ K=cpf (xv env x) lvl env loc out d K:=by
 rw[ZS rfl]
 rfl
theorem ZsW{es:Row}:cpf (.cs es) lvl env loc out d K=K ⟨lvl,ptd d (iI es.length) env,loc,out⟩:=(rfl)
def shg(o:Option Ob)(id:Oid)(m:Int)(len s k:Nat)(d:Option Nat)(st:St)(K:St->Prop):Prop :=
 match o with
 | some (.ar k2 es u hw ver)=>k2=k/\s=hw/\0<=m/\m.toNat<=len/\len<=es.length/\ZeP d (.hd id [] 0 m.toNat none hw) (Zn st id (.ar k2 (es.take m.toNat) u hw (ver+1))) K
 | _=>False
def shf(v hv:IV)(k:Nat)(d:Option Nat)(st:St)(K:St->Prop):Prop :=
 match v with
 | .cs es =>
  match hv with
  | .tr (.v (.int _ m))=>m=es.length/\UnR k es/\ZeP d (.cs es) st K
  | _=>False
 | .hd id p off len cap s =>
  match hv with
  | .tr (.v (.int _ m))=>p=[]/\off=0/\cap=none/\shg (st.sto id) id m len s k d st K
  | _=>False
 | _=>False
theorem Zu2{k:Nat}:op2 C d (.sh k x hi) ⟨lvl,env,loc,out⟩ K=shf (xv env x) (xv env hi) k d ⟨lvl,env,loc,out⟩ K:=by
 rw[ZS rfl]
 simp only[ew]
 generalize xv env x=v
 cases v <;> try rfl
 rename_i id p off len cap s
 generalize xv env hi=hv
 cases hv <;> try rfl
 rename_i t
 cases t <;> try rfl
 rename_i q
 cases q <;> try rfl
 simp only[shf,shg]
 generalize (⟨lvl,env,loc,out⟩:St).sto id=o
 cases o with
 | none=>simp
 | some ob =>
  cases ob with
  | bx=>simp
  | ar k2 es u hw ver=>simp only[Zbu]
theorem ZsX{id:Oid}{len s k:Nat}{kk:IntKind}{m:Int}:shf (.hd id [] 0 len none s) (.tr (.v (.int kk m))) k d ⟨lvl,env,loc,out⟩ K=shg (ZC lvl loc out id) id m len s k d ⟨lvl,env,loc,out⟩ K:=by
 simp only[shf,true_and]
 rfl
theorem ZsY{es:Row}{k:Nat}{kk:IntKind}{m:Int}:shf (.cs es) (.tr (.v (.int kk m))) k d ⟨lvl,env,loc,out⟩ K=(m=es.length/\UnR k es/\ZeP d (.cs es) ⟨lvl,env,loc,out⟩ K):=(rfl)
theorem ZsZ{id:Oid}{len s k k2 hw ver:Nat}{es:Row}{u:Bool}{m:Int}:shg (some (.ar k2 es u hw ver)) id m len s k d st K=(k2=k/\s=hw/\0<=m/\m.toNat<=len/\len<=es.length/\ZeP d (.hd id [] 0 m.toNat none hw) (Zn st id (.ar k2 (es.take m.toNat) u hw (ver+1))) K):=(rfl)
def fzg(o:Option Ob)(len s:Nat)(d:Option Nat)(st1:St)(K:St->Prop):Prop :=
 match o with
 | some (.ar _ zs _ hw _)=>s=hw/\len=zs.length/\ZeP d (.tr (.sl zs)) st1 K
 | _=>False
def fzf(v:IV)(d:Option Nat)(st:St)(K:St->Prop):Prop :=
 match v with
 | .hd id [] 0 len none s=>id.1=st.lvl/\fzg (st.sto id) len s d (JM id st) K
 | _=>False
theorem Zu3:op2 C d (.fz x) ⟨lvl,env,loc,out⟩ K=fzf (xv env x) d ⟨lvl,env,loc,out⟩ K:=by
 rw[ZS rfl]
 simp only[ew]
 generalize xv env x=v
 unfold fzf
 split
 ·rename_i id len s
  simp only[fzg]
  generalize (⟨lvl,env,loc,out⟩:St).sto id=o
  cases o with
  | none=>rfl
  | some ob=>cases ob <;> rfl
 ·rename_i hv
  split
  ·exact(hv _ _ _ rfl).elim
  ·rfl
theorem Zs0{key len s:Nat}:fzf (.hd (lvl,key) [] 0 len none s) d ⟨lvl,env,loc,out⟩ K=fzg (lkO key loc) len s d (JM (lvl,key) ⟨lvl,env,loc,out⟩) K:=by
 simp only[fzf,true_and]
 rw[show (⟨lvl,env,loc,out⟩:St).sto (lvl,key)=lkO key loc from Qf]
theorem Zs1{len s k hw ver:Nat}{zs:Row}{u:Bool}:fzg (some (.ar k zs u hw ver)) len s d st K=(s=hw/\len=zs.length/\ZeP d (.tr (.sl zs)) st K):=(rfl)
def drp(o:Option Ob)(id:Oid)(st:St):St :=
 match o with
 | none=>st
 | some _=>JM id st
theorem ZoN{id:Oid}:drp none id st=st:=(rfl)
theorem ZoO{ob:Ob}{id:Oid}:drp (some ob) id st=JM id st:=(rfl)
def rkg(o:Option Ob)(len s:Nat)(id0:Oid)(d:Option Nat)(st1:St)(K:St->Prop):Prop :=
 match o with
 | some (.ar k zs u hw ver)=>s=hw/\len=zs.length/\ZeP d (.hd id0 [] 0 len none s) (Zn st1 id0 (.ar k zs u hw ver)) K
 | _=>False
def rkf(v:IV)(d:Option Nat)(st:St)(K:St->Prop):Prop :=
 match v with
 | .hd id [] 0 len none s=>id.1=st.lvl/\(st.lvl,keyOf d)≠id/\rkg (st.sto id) len s (st.lvl,keyOf d) d (JM id (ZcC (st.lvl,keyOf d) st)) K
 | _=>False
theorem Zu4:op2 C d (.rk x) ⟨lvl,env,loc,out⟩ K=rkf (xv env x) d ⟨lvl,env,loc,out⟩ K:=by
 rw[ZS rfl]
 simp only[ew]
 generalize xv env x=v
 unfold rkf
 split
 ·rename_i id len s
  simp only[rkg]
  generalize (⟨lvl,env,loc,out⟩:St).sto id=o
  cases o with
  | none=>rfl
  | some ob =>
   cases ob with
   | bx=>rfl
   | ar k2 es u hw ver=>simp only[Zbu]
 ·rename_i hv
  split
  ·exact(hv _ _ _ rfl).elim
  ·rfl
theorem Zs2{key len s:Nat}{t:Nat}:rkf (.hd (lvl,key) [] 0 len none s) (some t) ⟨lvl,env,loc,out⟩ K=(t*32≠key/\rkg (lkO key loc) len s (lvl,t*32) (some t) (JM (lvl,key) (drp (lkO (t*32) loc) (lvl,t*32) ⟨lvl,env,loc,out⟩)) K):=by
 simp only[rkf,true_and,ZcC,keyOf]
 rw[show (⟨lvl,env,loc,out⟩:St).sto (lvl,key)=lkO key loc from Qf,show (⟨lvl,env,loc,out⟩:St).sto (lvl,t*32)=lkO (t*32) loc from Qf]
 congr 1
 simp
theorem Zu5{key:Nat}{p x:X}:op2 C d (.gv key p x) ⟨lvl,env,loc,out⟩ K=(d=none/\gvf (xv env p) (xv env x) key ⟨lvl,env,loc,out⟩ K):=by
 rw[ZS rfl]
 simp only[ew]
theorem Zs3{id:Oid}{off key key2 len s:Nat}:gvf (.ab id off) (.hd (lvl,key2) [] 0 len none s) key ⟨lvl,env,loc,out⟩ K=(id.1<lvl/\ZC lvl loc out (id.1,key)=none/\gvo (ZC lvl loc out id) (lkO key2 loc) id off key len s (lvl,key2) ⟨lvl,env,loc,out⟩ K):=by
 simp only[gvf,true_and]
 rw[show (⟨lvl,env,loc,out⟩:St).sto (lvl,key2)=lkO key2 loc from Qf]
 rfl
theorem Zs4{cells:List IV}{k:Nat}{zs:Row}{u:Bool}{hw ver:Nat}{id id2:Oid}{off key len s:Nat}:gvo (some (.bx cells)) (some (.ar k zs u hw ver)) id off key len s id2 st K=(off+1<=cells.length/\s=hw/\len=zs.length/\K (Zn (Zn (JM id2 st) (id.1,key) (.ar k zs u hw ver)) id (.bx (QV cells off [.hd (id.1,key) [] 0 len none s])))):=(rfl)
theorem Zs5{len s k hw ver:Nat}{zs:Row}{u:Bool}{id0:Oid}:rkg (some (.ar k zs u hw ver)) len s id0 d st K=(s=hw/\len=zs.length/\ZeP d (.hd id0 [] 0 len none s) (Zn st id0 (.ar k zs u hw ver)) K):=(rfl)
theorem ZlZ{K:List IV->St->Prop}:Zjo [] st K=K [] st:=(rfl)
theorem Zl0{x:X}{r:List X}{K:List IV->St->Prop}:Zjo (x::r) st K=Zmx (xv st.env x) st fun t st1=>Zjo r st1 fun ts st2=>K (.ta t::ts) st2:=(rfl)
def ZpD(o:Option (List Tr×Bool))(F:List Tr->Prop)(H:Prop):Prop :=
 match o with
 | some (ts,_)=>F ts
 | none=>H
def Zs6(o:Option Ob)(F:List Tr->Prop)(H:List IV->Prop):Prop :=
 match o with
 | some (.bx cells)=>ZpD (totrs cells) F (H cells)
 | _=>False
theorem ZoP{ts:List Tr}{K:List Tr->St->Prop}:Zmx (.ta ts) st K=K ts st:=(rfl)
theorem ZoQ{key:Nat}{K:List Tr->St->Prop}:Zmx (.ab (lvl,key) 0) ⟨lvl,env,loc,out⟩ K=Zs6 (lkO key loc) (fun ts=>K ts (JM (lvl,key) ⟨lvl,env,loc,out⟩)) (fun cells=>ZeN cells ⟨lvl,env,loc,out⟩ fun ts st1=>K ts (JM (lvl,key) st1)):=by
 simp only[Zmx,true_and]
 rw[show (⟨lvl,env,loc,out⟩:St).sto (lvl,key)=lkO key loc from Qf]
 generalize lkO key loc=o
 cases o with
 | none=>rfl
 | some ob =>
  cases ob with
  | ar=>rfl
  | bx cells =>
   simp only[Zs6]
   generalize totrs cells=q
   cases q <;> rfl
theorem ZoR{cells:List IV}{F:List Tr->Prop}{H:List IV->Prop}:Zs6 (some (.bx cells)) F H=ZpD (totrs cells) F (H cells):=(rfl)
theorem ZoS{ts:List Tr}{q:Bool}{F:List Tr->Prop}{H:Prop}:ZpD (some (ts,q)) F H=F ts:=(rfl)
theorem Zl1{F:List Tr->Prop}{H:Prop}:ZpD none F H=H:=(rfl)
theorem Ziz{id:Oid}{p:Pth}{off len s:Nat}{cap:Option Nat}{r:List IV}:totrs (.hd id p off len cap s::r)=none:=(rfl)
theorem Zu6{f:Nat}{cs:List X}:op2 C d (.mz f cs) ⟨lvl,env,loc,out⟩ K=Zjo cs ⟨lvl,env,loc,out⟩ fun l st1=>ZeP d (.fn f l) st1 K:=by
 rw[ZS rfl]
 rfl
theorem Zl2{K:List Tr->St->Prop}:ZeN [] st K=K [] st:=(rfl)
theorem Zl3{x:IV}{r:List IV}{K:List Tr->St->Prop}:ZeN (x::r) st K=Zkw x st fun t st1=>ZeN r st1 fun ts st2=>K (t::ts) st2:=(rfl)
def Zt0(o:Option Ob)(len s:Nat)(F:Row->Prop):Prop :=
 match o with
 | some (.ar _ zs _ hw _)=>s=hw/\len=zs.length/\F zs
 | _=>False
theorem Zl4{t:Tr}{K:Tr->St->Prop}:Zkw (.tr t) st K=K t st:=(rfl)
theorem Zl5{es:Row}{K:Tr->St->Prop}:Zkw (.cs es) st K=K (.sl es) st:=(rfl)
theorem Zl6{key len s:Nat}{K:Tr->St->Prop}:Zkw (.hd (lvl,key) [] 0 len none s) ⟨lvl,env,loc,out⟩ K=Zt0 (lkO key loc) len s fun zs=>K (.sl zs) (JM (lvl,key) ⟨lvl,env,loc,out⟩):=by
 simp only[Zkw,true_and]
 rw[show (⟨lvl,env,loc,out⟩:St).sto (lvl,key)=lkO key loc from Qf]
 generalize lkO key loc=o
 cases o with
 | none=>rfl
 | some ob=>cases ob <;> rfl
theorem ZoT{k len s hw ver:Nat}{zs:Row}{u:Bool}{F:Row->Prop}:Zt0 (some (.ar k zs u hw ver)) len s F=(s=hw/\len=zs.length/\F zs):=(rfl)
def lzg(o:Option Ob)(off m:Nat)(d:Option Nat)(st:St)(K:St->Prop):Prop :=
 match o with
 | some (.bx cells)=>off+m<=cells.length/\ZeN ((cells.drop off).take m) st fun ts st1=>ZeP d (.ag (ts.map .tr)) st1 K
 | _=>False
def lzf(v:IV)(m:Nat)(d:Option Nat)(st:St)(K:St->Prop):Prop :=
 match v with
 | .ab id off=>lzg (st.sto id) off m d st K
 | _=>False
theorem Zu7{m:Nat}:op2 C d (.lz m x) ⟨lvl,env,loc,out⟩ K=lzf (xv env x) m d ⟨lvl,env,loc,out⟩ K:=by
 rw[ZS rfl]
 simp only[ew]
 generalize xv env x=v
 cases v <;> rfl
theorem Zs7{key off m:Nat}:lzf (.ab (lvl,key) off) m d ⟨lvl,env,loc,out⟩ K=lzg (lkO key loc) off m d ⟨lvl,env,loc,out⟩ K:=by
 simp only[lzf]
 rw[show (⟨lvl,env,loc,out⟩:St).sto (lvl,key)=lkO key loc from Qf]
theorem Zs8{cells:List IV}{off m:Nat}:lzg (some (.bx cells)) off m d st K=(off+m<=cells.length/\ZeN ((cells.drop off).take m) st fun ts st1=>ZeP d (.ag (ts.map .tr)) st1 K):=(rfl)
def clg(o:Option Ob)(id:Oid)(off len s k:Nat)(d:Option Nat)(st:St)(K:St->Prop):Prop :=
 match o with
 | some (.ar k2 es u hw ver)=>k2=k/\s=hw/\off+len=es.length/\ZeP d (.tu []) (Zn st id (.ar k2 (es.take off) u hw (ver+1))) K
 | _=>False
def clf(v:IV)(k:Nat)(d:Option Nat)(st:St)(K:St->Prop):Prop :=
 match v with
 | .hd id p off len _ s=>p=[]/\clg (st.sto id) id off len s k d st K
 | _=>False
theorem Zu8{k:Nat}{z:List Value}:op2 C d (.cl k z x) ⟨lvl,env,loc,out⟩ K=clf (xv env x) k d ⟨lvl,env,loc,out⟩ K:=by
 rw[ZS rfl]
 simp only[ew]
 generalize xv env x=v
 cases v <;> try rfl
 rename_i id p off len cap s
 simp only[clf,clg]
 generalize (⟨lvl,env,loc,out⟩:St).sto id=o
 cases o with
 | none=>simp
 | some ob =>
  cases ob with
  | bx=>simp
  | ar k2 es u hw ver=>simp only[Zbu]
theorem Zs9{id:Oid}{off len s k:Nat}{cap:Option Nat}:clf (.hd id [] off len cap s) k d ⟨lvl,env,loc,out⟩ K=clg (ZC lvl loc out id) id off len s k d ⟨lvl,env,loc,out⟩ K:=by
 simp only[clf,true_and]
 rfl
theorem Zta{id:Oid}{off len s k k2 hw ver:Nat}{es:Row}{u:Bool}:clg (some (.ar k2 es u hw ver)) id off len s k d st K=(k2=k/\s=hw/\off+len=es.length/\ZeP d (.tu []) (Zn st id (.ar k2 (es.take off) u hw (ver+1))) K):=(rfl)
def srk(off len:Nat)(F:Row->Prop)(es:Row)(_u:Bool)(_v:Nat):Prop:=off+len<=es.length/\F (cut es off len)
theorem Ztb{off len:Nat}{F:Row->Prop}{es:Row}{u:Bool}{v:Nat}:srk off len F es u v=(off+len<=es.length/\F (cut es off len)):=(rfl)
theorem ZoU{zs:Row}{F:Row->Prop}:ZhU st (.tr (.sl zs)) F=F zs:=(rfl)
theorem ZoV{zs:Row}{F:Row->Prop}:ZhU st (.cs zs) F=F zs:=(rfl)
theorem ZoW{id:Oid}{p:Pth}{off len s:Nat}{cap:Option Nat}{F:Row->Prop}:ZhU ⟨lvl,env,loc,out⟩ (.hd id p off len cap s) F=rd3 (ZC lvl loc out id) p s (srk off len F):=by
 rw[<-W3]
 rfl
def a3k(zs:Row)(k:Nat)(d:Option Nat)(st:St)(K:St->Prop)(items:Row):Prop :=
 items≠[]/\ScR items/\UnR k zs/\UnR k items/\zs.length+items.length<=bigN/\K ⟨st.lvl,ptd d (.tr (.sl (zs++items))) st.env,st.loc,st.out⟩
theorem Ztc{zs items:Row}{k:Nat}:a3k zs k d ⟨lvl,env,loc,out⟩ K items=(items≠[]/\ScR items/\UnR k zs/\UnR k items/\zs.length+items.length<=bigN/\K ⟨lvl,ptd d (.tr (.sl (zs++items))) env,loc,out⟩):=(rfl)
def a3f(vx vy:IV)(k:Nat)(d:Option Nat)(st:St)(K:St->Prop):Prop :=
 match vx with
 | .cs zs=>ZhU st vy (a3k zs k d st K)
 | _=>False
theorem Ztd{zs:Row}{vy:IV}{k:Nat}:a3f (.cs zs) vy k d st K=ZhU st vy (a3k zs k d st K):=(rfl)
theorem Zu9{k:Nat}{x y:X}:op2 C d (.a3 k x y) ⟨lvl,env,loc,out⟩ K=a3f (xv env x) (xv env y) k d ⟨lvl,env,loc,out⟩ K:=by
 rw[Ji rfl]
 simp only[ev]
 generalize xv env x=vx
 cases vx <;> try rfl
 rename_i zs
 have e:∀ items:Row,(items≠[]/\ScR items/\UnR k zs/\UnR k items/\zs.length+items.length<=bigN/\ZB (fun mk obs=>freshK (keyOf d) loc (obs lvl (keyOf d)).length/\K ⟨lvl,ptd d (mk lvl (keyOf d)) env,addO (keyOf d) (obs lvl (keyOf d)) loc,out⟩) (.tr (.sl (zs++items))))=a3k zs k d ⟨lvl,env,loc,out⟩ K items:=fun items=>by
  simp [a3k,ZB,freshK,addO]
 simp only[e]
 rfl
theorem Zva{k:Nat}{x y:X}:op2 C d (.c0 k x y) ⟨lvl,env,loc,out⟩ K=op2 C d (.cy k x y) ⟨lvl,env,loc,out⟩ K:=by
 rw[ZS rfl,ZS rfl]
 exact propext ⟨ZgV,ZjI⟩
def cyk(es:Row)(u:Bool)(hw ver:Nat)(id:Oid)(off len k:Nat)(d:Option Nat)(st:St)(K:St->Prop)(zs:Row):Prop :=
 ScR zs/\UnR k zs/\ZeP d (iI (min zs.length len:Nat)) (Zn st id (.ar k (es.take off++zs.take len++es.drop (off+min zs.length len)) u hw (ver+1))) K
theorem Zte{es:Row}{u:Bool}{hw ver:Nat}{id:Oid}{off len k:Nat}{zs:Row}:cyk es u hw ver id off len k d st K zs=(ScR zs/\UnR k zs/\ZeP d (iI (min zs.length len:Nat)) (Zn st id (.ar k (es.take off++zs.take len++es.drop (off+min zs.length len)) u hw (ver+1))) K):=(rfl)
def cyg(o:Option Ob)(id:Oid)(off len s k:Nat)(v:IV)(d:Option Nat)(st:St)(K:St->Prop):Prop :=
 match o with
 | some (.ar k2 es u hw ver)=>k2=k/\s=hw/\off+len<=es.length/\ScR es/\ZhU st v (cyk es u hw ver id off len k d st K)
 | _=>False
def cyf(x v:IV)(k:Nat)(d:Option Nat)(st:St)(K:St->Prop):Prop :=
 match x with
 | .hd id p off len _ s=>p=[]/\cyg (st.sto id) id off len s k v d st K
 | _=>False
theorem Zvb{k:Nat}:op2 C d (.cy k x y) ⟨lvl,env,loc,out⟩ K=cyf (xv env x) (xv env y) k d ⟨lvl,env,loc,out⟩ K:=by
 rw[ZS rfl]
 simp only[ew]
 generalize xv env x=v
 cases v <;> try rfl
 rename_i id p off len cap s
 simp only[cyf,cyg]
 generalize (⟨lvl,env,loc,out⟩:St).sto id=o
 cases o with
 | none=>simp
 | some ob =>
  cases ob with
  | bx=>simp
  | ar k2 es u hw ver =>
   dsimp only
   by_cases hk:k2=k
   ·subst hk
    have:(fun zs=>ScR zs/\UnR k2 zs/\K { Zn ⟨lvl,env,loc,out⟩ id (.ar k2 (es.take off++zs.take len++es.drop (off+min zs.length len)) u hw (ver+1)) with env:=ptd d (iI (min zs.length len:Nat)) env })=cyk es u hw ver id off len k2 d ⟨lvl,env,loc,out⟩ K:=by
     funext zs
     simp only[cyk,Zbu]
    rw[this]
   ·simp [hk]
theorem Ztf{id:Oid}{off len s k:Nat}{cap:Option Nat}{v:IV}:cyf (.hd id [] off len cap s) v k d ⟨lvl,env,loc,out⟩ K=cyg (ZC lvl loc out id) id off len s k v d ⟨lvl,env,loc,out⟩ K:=by
 simp only[cyf,true_and]
 rfl
theorem Ztg{id:Oid}{off len s k k2 hw ver:Nat}{es:Row}{u:Bool}{v:IV}:cyg (some (.ar k2 es u hw ver)) id off len s k v d st K=(k2=k/\s=hw/\off+len<=es.length/\ScR es/\ZhU st v (cyk es u hw ver id off len k d st K)):=(rfl)
end row
theorem ZoX{α:Type}{F:α->Prop}:op3 none F=False:=(rfl)
end
abbrev tv(n:Int):Tr:=.v (.int .i64 n)
abbrev ts(s:ByteArray):Tr:=.v (.string s)
abbrev rI(l:List Int):Row:=l.map fun n=>[tv n]
abbrev tI(l:List Int):IV:=.tr (.sl (rI l))
abbrev rS(l:List ByteArray):Row:=l.map fun n=>[ts n]
abbrev tS(l:List ByteArray):IV:=.tr (.sl (rS l))
theorem Zd(n:Int):VJ .i64 n=(-9223372036854775808<=n/\n<=9223372036854775807):=by
 simp [VJ,IntKind.min,IntKind.max,IntKind.signed,IntKind.bits]
theorem Zl7{α:Type}{k:Nat}(f:α->List Tr)(h:∀ x,(f x).length=k)(l:List α):UnR k (l.map f):=by
 intro e he
 obtain⟨x,_,rfl⟩:=List.mem_map.1 he
 exact h x
end Go.Fd

/-
  FROM THE READER'S FACTS TO TREES: what an input reads as, by its type. Own work.
-/
namespace Go.Fd
def In(w:World)(b:Nat):Prop:=b<w.heap.size
def Zj6(w:World)(cs:List Value)(ts:List Tr):Prop:=∀(j:Nat) (v:Value) (t:Tr),cs[j]? = some v->ts[j]? = some t->Rds w (In w) v t
def Va(P:Program)(t:TypeId){α:Type}(c:α->List Tr)(Q:α->Prop):Prop :=
 ∀(H:Type) (enc:TypeId×Value->H) (w:World) (sp:Nat->Bool) (hd:Bool) (fuel:Nat) (cs:List Value) (x:DataW H×List MemPlace),
  DataW.trod enc P w 0 sp hd fuel t cs=some x->∃ y,Q y/\Zj6 w cs (c y)
theorem DG{w:World}{v:Value}{t:Tr}(h:Rds w (In w) v t):Zj6 w [v] [t]:=fun j v' t' h1 h2=>by
 match j with
 | 0=>simp at h1 h2;subst h1;subst h2;exact h
 | j+1=>simp at h1
theorem ZiA{P:Program}{t:TypeId}(ht:P.underlying t=some (.int .i64)):Va P t (fun n:Int=>[tv n]) (VJ .i64):=by
 intro H enc w sp hd fuel cs x h
 obtain⟨n,rfl,_,hw⟩:=DataW.trod_int ht h
 exact⟨n,by simpa [Lit.wf,VJ] using hw,DG (.v _ rfl)⟩
theorem Zfb{P:Program}{t:TypeId}(ht:P.underlying t=some .string):Va P t (fun n:ByteArray=>[ts n]) (fun n=>n.size<=9223372036854775807):=by
 intro H enc w sp hd fuel cs x h
 obtain⟨n,rfl,_,hw⟩:=DataW.trod_string ht h
 exact⟨n,hw,DG (.v _ rfl)⟩
theorem Zl8{w:World}{a:Addr}{v:Value}(h:w.cell? a=some v):a.block<w.heap.size:=by
 unfold World.cell? at h
 cases hh:w.heap[a.block]? with
 | none=>rw[hh] at h;cases h
 | some o=>exact(Array.getElem?_eq_some_iff.1 hh).1
theorem Zge{α:Type}(n:Nat)(R:Nat->α->Prop)(h:∀ i,i<n->∃ y,R i y):∃ l:List α,l.length=n/\∀ i y,l[i]? = some y->R i y:=by
 induction n with
 | zero=>exact⟨[],rfl,fun i y h=>by simp at h⟩
 | succ n ih =>
  obtain⟨l,hl,hr⟩:=ih (fun i hi=>h i (by omega))
  obtain⟨y,hy⟩:=h n (by omega)
  refine⟨l++[y],by simp [hl],fun i z hz=>?_⟩
  by_cases hi:i<n
  ·rw[List.getElem?_append_left (by omega)] at hz;exact hr i z hz
  ·have hlt:=(List.getElem?_eq_some_iff.1 hz).1
   simp only[List.length_append,List.length_singleton] at hlt
   have:i=n:=by omega
   subst this
   rw[List.getElem?_append_right (by omega),hl,Nat.sub_self] at hz
   simp at hz
   exact hz ▸ hy
theorem YT{P:Program}{t e:TypeId}{k:Nat}{α:Type}{c:α->List Tr}{Q:α->Prop}(ht:P.underlying t=some (.slice e))(hk:P.cellsOf e=k+1)(hc:∀ x,(c x).length=k+1)
  (he:Va P e c Q):Va P t (fun l:List α=>[.sl (l.map c)]) (fun l=>l.length<=9223372036854775807/\∀ x∈l,Q x):=by
 intro H enc w sp hd fuel cs x h
 rcases DataW.trod_slice ht h with ⟨rfl,_⟩ | ⟨a,len,cap,elems,rest,n,_,rfl,_,_,hl,hm,hlen,hel,_,_⟩
 ·exact⟨[],⟨by simp,by simp⟩,DG (.nil none 0)⟩
 ·have each:∀ i,i<len->∃ y,Q y/\∀ j t,(c y)[j]? = some t->∃ v,w.cell? (a.add (i*(k+1)+j))=some v/\Rds w (In w) v t:=fun i hi=>by
   have h1:=hel i hi
   rw[hk] at h1
   obtain⟨z,hz⟩:∃ z,elems[i]? = some z:=⟨elems[i]'(by omega),List.getElem?_eq_getElem _⟩
   rw[hz,Option.bind_eq_some_iff] at h1
   obtain⟨row,hrow,hx⟩:=h1
   obtain⟨y,hy,hr⟩:=he H enc w sp hd n row z hx
   obtain⟨_,hrl,hg⟩:=World.cells?_some hrow
   refine⟨y,hy,fun j t hj=>?_⟩
   have hjk:j<k+1:=by rw[<-hc y];exact(List.getElem?_eq_some_iff.1 hj).1
   have hv:row[j]? = some (row[j]'(by omega)):=List.getElem?_eq_getElem _
   have:=hg j hjk
   rw[hv] at this
   have e2:(a.add (i*(k+1))).add j=a.add (i*(k+1)+j):=by
    unfold Addr.add
    by_cases h0:i*(k+1)=0
    ·simp [h0]
    ·by_cases h1:j=0
     ·simp [h1,h0]
     ·have h2:¬ (i*(k+1)+j=0):=by omega
      simp only[if_neg h0,if_neg h1,if_neg h2,Addr.mk.injEq,and_true,true_and]
      omega
   rw[e2] at this
   exact⟨_,this,hr j _ t hv hj⟩
  obtain⟨l,hll,hlr⟩:=Zge len _ each
  refine⟨l,⟨?_,fun y hy=>?_⟩,DG ?_⟩
  ·rw[hll];exact Nat.le_trans hl hm
  ·obtain⟨i,hi⟩:=List.getElem?_of_mem hy
   exact(hlr i y hi).1
  ·by_cases h0:len=0
   ·have:l=[]:=List.eq_nil_of_length_eq_zero (by omega)
    subst this;subst h0
    exact .nil _ _
   ·obtain⟨y0,hy0⟩:∃ y0,l[0]? = some y0:=⟨l[0]'(by omega),List.getElem?_eq_getElem _⟩
    obtain⟨t0,ht0⟩:∃ t0,(c y0)[0]? = some t0:=⟨(c y0)[0]'(by rw[hc];omega),List.getElem?_eq_getElem _⟩
    obtain⟨v0,hv0,_⟩:=(hlr 0 y0 hy0).2 0 t0 ht0
    obtain⟨b,o,s⟩:=a
    have hs:s=none:=by simpa [Addr.add] using World.cell?_spot hv0
    subst hs
    have hb:b<w.heap.size:=by simpa [Addr.add] using Zl8 hv0
    have hel2:∀ i e j t,(l.map c)[i]? = some e->e[j]? = some t->∃ v,w.cell? ⟨b,o+i*(k+1)+j,none⟩=some v/\Rds w (In w) v t:=fun i e j t h1 h2=>by
     rw[List.getElem?_map,Option.map_eq_some_iff] at h1
     obtain⟨y,hy,rfl⟩:=h1
     obtain⟨v,hv,hr⟩:=(hlr i y hy).2 j t h2
     refine⟨v,?_,hr⟩
     rw[<-hv]
     congr 1
     unfold Addr.add
     by_cases h0:i*(k+1)+j=0
     ·have:o+i*(k+1)+j=o:=by omega
      rw[if_pos h0,this]
     ·rw[if_neg h0]
      have:o+i*(k+1)+j=o+(i*(k+1)+j):=by omega
      simp only[this]
    have hlm:(l.map c).length=len:=by simpa using hll
    have:=Rds.sl (w:=w) (A:=In w) b o cap (k+1) (l.map c) (fun i j=>(w.cell? ⟨b,o+i*(k+1)+j,none⟩).getD .nilFunc) hb
     (fun e he=>by simp only[List.mem_map] at he;obtain⟨y,_,rfl⟩:=he;exact hc y) (by omega)
     (fun i e j t h1 h2=>by obtain⟨v,hv,_⟩:=hel2 i e j t h1 h2;rw[hv];rfl)
     (fun i e j t h1 h2=>by obtain⟨v,hv,hr⟩:=hel2 i e j t h1 h2;rw[hv];exact hr)
    rw[hlm] at this
    exact this
def XZ(P:Program)(o:Nat)(l:List (Nat×TypeId)){α:Type}(c:α->List Tr)(Q:α->Prop):Prop :=
 ∀(H:Type) (enc:TypeId×Value->H) (w:World) (sp:Nat->Bool) (hd:Bool) (fuel:Nat) (cs:List Value),
  (∀ p∈l,∃ x,DataW.trod enc P w 0 sp hd fuel p.2 ((cs.drop p.1).take (P.cellsOf p.2))=some x)->∃ y,Q y/\Zj6 w (cs.drop o) (c y)
theorem VS{P:Program}{o:Nat}:XZ P o [] (fun _:Unit=>[]) (fun _=>True):=fun H enc w sp hd fuel cs _=>⟨(),trivial,fun j v t _ h=>by simp at h⟩
theorem Zv{P:Program}{o k:Nat}{t:TypeId}{l:List (Nat×TypeId)}{α β:Type}{c:α->List Tr}{Q:α->Prop}{c2:β->List Tr}{Q2:β->Prop}
  (hk:P.cellsOf t=k) (hc:∀ x,(c x).length=k) (h1:Va P t c Q) (h2:XZ P (o+k) l c2 Q2) :
  XZ P o ((o,t)::l) (fun p:α×β=>c p.1++c2 p.2) (fun p=>Q p.1/\Q2 p.2):=fun H enc w sp hd fuel cs h=>by
 obtain⟨x,hx⟩:=h (o,t) (by simp)
 obtain⟨y,hy,hr⟩:=h1 _ _ _ _ _ _ _ _ hx
 obtain⟨y2,hy2,hr2⟩:=h2 H enc w sp hd fuel cs (fun p hp=>h p (by simp [hp]))
 refine⟨(y,y2),⟨hy,hy2⟩,fun j v t' hv ht=>?_⟩
 by_cases hj:j<k
 ·rw[List.getElem?_append_left (by rw[hc];exact hj)] at ht
  refine hr j v t' ?_ ht
  rw[hk,List.getElem?_take_of_lt hj]
  exact hv
 ·rw[List.getElem?_append_right (by rw[hc];omega),hc] at ht
  refine hr2 (j-k) v t' ?_ ht
  rw[List.getElem?_drop] at hv ⊢
  rw[<-hv]
  congr 1
  omega
theorem Y6{P:Program}{t:TypeId}{fs:Array Field}{α:Type}{c:α->List Tr}{Q:α->Prop}(ht:P.underlying t=some (.struct fs))(h:XZ P 0 (fs.toList.map fun f=>(f.offset,f.type)) c Q):Va P t c Q:=by
 intro H enc w sp hd fuel cs x hx
 obtain⟨xs,n,_,_,_,hl,hf⟩:=DataW.trod_struct ht hx
 have:=h H enc w sp hd n cs (fun p hp=>by
  simp only[List.mem_map] at hp
  obtain⟨f,hf1,rfl⟩:=hp
  obtain⟨i,hi⟩:=List.getElem?_of_mem hf1
  have hi':fs[i]? = some f:=by simpa using hi
  have hlt:i<xs.length:=by rw[hl];exact(Array.getElem?_eq_some_iff.1 hi').1
  exact⟨_,(hf i f hi').trans (List.getElem?_eq_getElem hlt)⟩)
 simpa using this
theorem Zgf{P:Program}{t e:TypeId}{n:Nat}{α:Type}{c:α->List Tr}{Q:α->Prop}(ht:P.underlying t=some (.array n e))(h:XZ P 0 ((List.range n).map fun i=>(i*P.cellsOf e,e)) c Q):Va P t c Q:=by
 intro H enc w sp hd fuel cs x hx
 obtain⟨xs,m,_,_,_,hl,hf⟩:=DataW.trod_array ht hx
 have:=h H enc w sp hd m cs (fun p hp=>by
  simp only[List.mem_map,List.mem_range] at hp
  obtain⟨i,hi,rfl⟩:=hp
  exact⟨_,(hf i hi).trans (List.getElem?_eq_getElem (by omega))⟩)
 simpa using this
theorem Zfc{P:Program}{t e:TypeId}{n k:Nat}{α:Type}{c:α->List Tr}{Q:α->Prop}(ht:P.underlying t=some (.array n e))(hk:P.cellsOf e=k)(h:XZ P 0 ((List.range n).map fun i=>(i*k,e)) c Q):Va P t c Q :=
 Zgf ht (by rw[hk];exact h)
theorem ZiB{P:Program}{t:TypeId}{α β:Type}{c:α->List Tr}{Q:α->Prop}{c2:β->List Tr}{Q2:β->Prop}(g:α->β)(hg:∀ x,c2 (g x)=c x)(hq:∀ x,Q x->Q2 (g x))(h:Va P t c Q):Va P t c2 Q2:=by
 intro H enc w sp hd fuel cs x hx
 obtain⟨y,hy,hr⟩:=h H enc w sp hd fuel cs x hx
 exact⟨g y,hq y hy,by rw[hg];exact hr⟩
theorem Wm{P:Program}{t:TypeId}{α β:Type}{c:α->List Tr}{Q:α->Prop}{c2:β->List Tr}{Q2:β->Prop}(h:Va P t c Q)(g:α->β)(hg:∀ x,c2 (g x)=c x)(hq:∀ x,Q x->Q2 (g x)):Va P t c2 Q2:=ZiB g hg hq h
end Go.Fd

/-
  FROM A CONTRACT OF A LAW TO WHAT ITS ROW ASKS. Own work.
-/
namespace Go.Fd
variable [Tabs]
open Go.RowKit
def G0:Gh:=fun _ _=>none
def S0:Sto:=fun _=>none
theorem Av0{w:World}{b:Nat}(h:In w b):Av G0 S0 w b:=⟨h,fun id ob hs=>by cases hs⟩
theorem Zdb{w:World}:∀{cs:List Value} {ts:List Tr},cs.length=ts.length->Zj6 w cs ts->VRs G0 S0 w (ts.map .tr) cs
 | [],[],_,_=>by simp [VRs]
 | v::cs,t::ts,hl,h=>by
  simp only[List.map_cons,VRs]
  refine⟨v,cs,rfl,?_,Zdb (by simpa using hl) (fun j v' t' h1 h2=>h (j+1) v' t' (by simpa using h1) (by simpa using h2))⟩
  simp only[VR]
  exact Rds.mono (fun b=>Av0) (fun b _=>rfl) (h 0 v t rfl rfl)
 | [],_::_,hl,_=>by simp at hl
 | _::_,[],hl,_=>by simp at hl
theorem Zfd{P:Program}{f:FuncId}{args:List IV}{b:Bool}{w:World}{vs:List Value}(h:Sem P f 0 args S0 (iB b) S0)(hv:VRs G0 S0 w args vs)(hg:Tabs.good w) :
  Calls P f vs.toArray w fun e w' => e = .returned (.bool b)/\Below w.heap.size w w':=by
 obtain⟨_,_,h⟩:=h
 refine(h (fun id ob hs=>by cases hs) G0 w vs ⟨fun id ob hs=>(nomatch hs),fun id ob id2 ob2 b2 hs=>(nomatch hs),fun id cells hs=>(nomatch hs)⟩ hv ⟨w,hg,Nat.le_refl _,fun b hb=>⟨⟨hb,fun id ob hs=>by cases hs⟩,rfl⟩⟩).mono ?_
 rintro e w' ⟨v,G',rfl,_,hr,_,hf⟩
 have hr':Rds w' (Av G' (Y9 S0 0 0 (impv true 0 0 0 (iB b)).2) w') v (.v (.bool b)):=hr
 cases hr' with
 | v x hx =>
  exact⟨rfl,hf.os,hf.tape,hf.output,hf.size,fun k hk=>hf.old k hk (fun id ob hs=>by cases hs)⟩
theorem ZiC{P:Program}{w:World}{r:Reach}{base:Nat}{t e:TypeId}{v:Value}(ht:P.underlying t=some (.slice e))(h:Value.okWide P w r base t v):v.cells.toList=[v]:=by
 unfold Value.okWide at h
 rw[ht] at h
 simp only[Cell.okWide,ht,Cell.ok] at h
 cases v <;> first | rfl | exact absurd h (by simp)
theorem Zhn{P:Program}{w:World}{r:Reach}{base:Nat}{t:TypeId}{fs:Array Field}{v:Value}(ht:P.underlying t=some (.struct fs))(h:Value.okWide P w r base t v):∃ cs,v = .agg cs/\cs.size=P.cellsOf t:=by
 unfold Value.okWide at h
 rw[ht] at h
 obtain⟨cs,h1,h2,_⟩:=h
 exact⟨cs,h1,h2⟩
section
variable {H:Type} {enc:TypeId×Value->H} {P:Program} {w:World} {t:TypeId} {v:Value} {d:DataW H} {p:List MemPlace} {α:Type} {c:α->List Tr} {Q:α->Prop} {sp:Nat->Bool} {hd:Bool} {base:Nat}
theorem Zfe{fs:Array Field}{k:Nat}(hr:Va P t c Q)(ht:P.underlying t=some (.struct fs))(hk:P.cellsOf t=k)(hc:∀ x,(c x).length=k)(hok:Value.okWide P w .any base t v)(h:DataW.Trod enc P w 0 sp hd t v d p) :
  ∃ y,Q y/\VR G0 S0 w (.ag ((c y).map .tr)) v:=by
 obtain⟨cs,rfl,hs⟩:=Zhn ht hok
 obtain⟨n,hn⟩:=h
 obtain⟨y,hy,hrow⟩:=hr H enc w sp hd n _ _ hn
 refine⟨y,hy,?_⟩
 simp only[VR]
 refine⟨cs.toList,by simp,Zdb ?_ hrow⟩
 rw[hc,<-hk,<-hs]
 simp
theorem Zj7{e:TypeId}{g:α->Tr}(hr:Va P t (fun x=>[g x]) Q)(ht:P.underlying t=some (.slice e))(hok:Value.okWide P w .any base t v)(h:DataW.Trod enc P w 0 sp hd t v d p) :
  ∃ y,Q y/\VR G0 S0 w (.tr (g y)) v:=by
 obtain⟨n,hn⟩:=h
 rw[ZiC ht hok] at hn
 obtain⟨y,hy,hrow⟩:=hr H enc w sp hd n _ _ hn
 refine⟨y,hy,?_⟩
 simp only[VR]
 exact Rds.mono (fun b=>Av0) (fun b _=>rfl) (hrow 0 v _ rfl rfl)
end
theorem Zd0{H:Type}{enc:TypeId×Value->H}{P:Program}{f:Func}{s:ChangeSpec}{apart:Bool}{W W':World}{args:Array Value}{v:Value}{ds gs:List (DataW H)}{before pa pv:List MemPlace}
  (hW:DataW.Whole enc P f.params.toList s.vars apart W args.toList ds gs before) (hb:Below W.heap.size W W')
  (hres:DataW.TrodAll enc P W' W.heap.size (fun _=>false) false f.resultTypes.toList (v.resultList f.resultTypes.size) (s.fn H (ds++gs)).results [])
  (hargs:DataW.TrodAll enc P W' 0 (fun b=>decide (b<W.heap.size)) true f.params.toList args.toList (s.fn H (ds++gs)).args pa)
  (hvars:DataW.TrodVars enc P W' (fun b=>decide (b<W.heap.size)) s.vars (s.fn H (ds++gs)).vars pv) :
  s.post enc P f apart true false false W args v W' :=
 ⟨ds,gs,before,[],pa,pv,hW,hres,hargs,hvars,hb.frame _,fun h=>by cases h⟩
end Go.Fd

/-
  FOUNDATION 50: contracts of the library, taken over: calls that read scalars alone and answer scalars. Own work.
-/
namespace Go.Fd
variable [Tabs]
open Go.RowKit
theorem Zff{w w':World}(h:Below w.heap.size w w'):Ext w w':=⟨h.size,h.block,h.os,h.tape,h.output⟩
theorem Zg5{G:Gh}{S:Sto}{w:World}:∀{xs vs:List Value},VRs G S w (xs.map fun v=>.tr (.v v)) vs->vs=xs
 | [],vs,h=>by simpa [VRs] using h
 | x::r,vs,h=>by
  simp only[List.map_cons,VRs] at h
  obtain⟨v,vr,rfl,h1,h2⟩:=h
  rw[Zg5 h2]
  have h1':Rds w (Av G S w) v (.v x):=h1
  cases h1'
  rfl
theorem Zgg{P:Program}{f:FuncId}{lvl:Nat}{S:Sto}{args:List IV}{r:IV}(hc:Dx P f)(hi:impv true lvl 0 0 r=(r,[]))(hlow:low lvl r)
  (h:(∀ id ob,S id=some ob->id.1<lvl)->∀ G w vs,SOk G S w->VRs G S w args vs->Fix G S w->Calls P f vs.toArray w fun e w' => ∃ v,e = .returned v/\VR G S w' r v/\Below w.heap.size w w'):Sem P f lvl args S r S:=by
 refine⟨hlow,hc,fun hS G w vs hok hv hfx=>?_⟩
 refine(h hS G w vs hok hv hfx).mono ?_
 rintro e w' ⟨v,rfl,hr,hb⟩
 rw[hi]
 have e:Ext w w':=Zff hb
 exact⟨v,G,rfl,hok.ext e,hr,hS,Frm.of_ext e⟩
theorem Zho{P:Program}{f:FuncId}{lvl:Nat}{S:Sto}{args:List IV}{r:IV}(hc:Dx P f)(hi:impv true lvl 0 0 r=(r,[]))(hlow:low lvl r)
  (h:(∀ id ob,S id=some ob->id.1<lvl)->∀ G w vs,SOk G S w->VRs G S w args vs->Calls P f vs.toArray w fun e w' => ∃ v,e = .returned v/\VR G S w' r v/\Below w.heap.size w w'):Sem P f lvl args S r S :=
 Zgg hc hi hlow fun hS G w vs hok hv _=>h hS G w vs hok hv
theorem Zgh{P:Program}{f:FuncId}{lvl:Nat}{S:Sto}{xs:List Value}{y:Value}(hc:Dx P f)(hy:Uu y=true)
  (h:∀ w,Calls P f xs.toArray w fun e w' => e = .returned y/\Below w.heap.size w w'):Sem P f lvl (xs.map fun v=>.tr (.v v)) S (.tr (.v y)) S:=by
 refine Zho hc rfl trivial fun _ G w vs _ hv=>?_
 rw[Zg5 hv]
 exact(h w).mono fun e w' ⟨h1,h2⟩=>⟨y,h1,.v y hy,h2⟩
end Go.Fd

/-
  FOUNDATION 51: a loop that counts, told by what changes. Own work.
-/
namespace Go.Fd
def pts:List (Nat×IV)->List (Nat×IV)->List (Nat×IV)
 | [],env=>env
 | (t,x)::r,env=>pts r (pt t x env)
def ZmA:List (Nat×Ob)->List (Nat×Ob)->List (Nat×Ob)
 | [],loc=>loc
 | (t,x)::r,loc=>ZmA r (ptO t x loc)
def chg(ce:List (Nat×IV))(co:List (Nat×Ob))(s:St):St:=⟨s.lvl,pts ce s.env,ZmA co s.loc,s.out⟩
section
variable {C:Zk} {lvl:Nat} {env:List (Nat×IV)} {loc:List (Nat×Ob)} {out:Sto} {st:St} {Q:Ex->St->Prop}
theorem Zth{ce:List (Nat×IV)}{co:List (Nat×Ob)}:chg ce co ⟨lvl,env,loc,out⟩=⟨lvl,pts ce env,ZmA co loc,out⟩:=(rfl)
theorem ZoY:pts [] env=env:=(rfl)
theorem ZoZ{t:Nat}{x:IV}{r:List (Nat×IV)}:pts ((t,x)::r) env=pts r (pt t x env):=(rfl)
theorem Zl9:ZmA [] loc=loc:=(rfl)
theorem Zma{t:Nat}{x:Ob}{r:List (Nat×Ob)}:ZmA ((t,x)::r) loc=ZmA r (ptO t x loc):=(rfl)
theorem Zx{α:Type}{ks js:List Nat}{c:C2}(N:Nat)(ce:Nat->α->List (Nat×IV))(co:Nat->α->List (Nat×Ob))(A:Nat->α->Prop)(x0:α)
  (h1:clean ks js st) (h0:fgt ks js st=chg (ce 0 x0) (co 0 x0) (fgt ks js st)) (hA:A 0 x0)
  (hs:∀ k x,k<=N->A k x->wp C c (chg (ce k x) (co k x) (fgt ks js st)) (Zb1 ks js (Zsq N (fun k x=>chg (ce k x) (co k x) (fgt ks js st)) A (N-k)) Q)):wp C (.lp ks js c) st Q :=
 ZI N (fun k x=>chg (ce k x) (co k x) (fgt ks js st)) A x0 ⟨h1,h0⟩ hA hs
end
section
variable {L:Sto} {F:List IV->Prop} {r:List IV}
def Zt1(L:Sto)(r:List IV)(F:List IV->Prop)(y:IV):Prop:=Z4 L r (kcn y F)
theorem Zo0{y:IV}:Zt1 L r F y=Z4 L r (kcn y F):=(rfl)
theorem Zti{id:Oid}{off:Nat}:Z4 L (.ab id off::r) F=Zdu (L id) L off (Zt1 L r F):=by simp only[Z4,Qm];rfl
def kta(F:IV->Prop)(ts:List Tr):Prop:=F (.ta ts)
theorem Ztj{F:IV->Prop}{ts:List Tr}:kta F ts=F (.ta ts):=(rfl)
theorem Ztk{cells:List IV}{off:Nat}{F:IV->Prop}:Zdu (some (.bx cells)) L off F=Vc L (cells.drop off) (kta F):=(rfl)
def kct(t:Tr)(F:List Tr->Prop)(ts:List Tr):Prop:=F (t::ts)
theorem Ztl{t:Tr}{F:List Tr->Prop}{ts:List Tr}:kct t F ts=F (t::ts):=(rfl)
def Zt2(L:Sto)(r:List IV)(F:List Tr->Prop)(t:Tr):Prop:=Vc L r (kct t F)
theorem Zo1{F:List Tr->Prop}{t:Tr}:Zt2 L r F t=Vc L r (kct t F):=(rfl)
theorem Zo2{F:List Tr->Prop}:Vc L [] F=F []:=(rfl)
theorem Zo3{x:IV}{F:List Tr->Prop}:Vc L (x::r) F=Dq L x (Zt2 L r F):=(rfl)
theorem Zo4{t:Tr}{F:Tr->Prop}:Dq L (.tr t) F=F t:=(rfl)
theorem Zo5{es:Row}{F:Tr->Prop}:Dq L (.cs es) F=F (.sl es):=(rfl)
def Zt3(off len:Nat)(F:Tr->Prop)(es:Row)(_u:Bool)(_v:Nat):Prop:=off+len<=es.length/\F (.sl (cut es off len))
theorem Zo6{off len:Nat}{F:Tr->Prop}{es:Row}{u:Bool}{v:Nat}:Zt3 off len F es u v=(off+len<=es.length/\F (.sl (cut es off len))):=(rfl)
theorem Zo7{id:Oid}{p:Pth}{off len s:Nat}{cap:Option Nat}{F:Tr->Prop}:Dq L (.hd id p off len cap s) F=rd3 (L id) p s (Zt3 off len F):=by rw[<-W3];rfl
end
theorem Zo8{α:Type}{x:α}:List.replicate 1 x=[x]:=(rfl)
theorem Zo9{e:List Tr}:cut [e] 0 1=[e]:=(rfl)
theorem Zpa{l:List Tr}:ScR [l]=(l.all isSc=true):=by
 apply propext
 constructor
 ·intro h
  exact List.all_eq_true.2 fun t ht=>h l (by simp) t ht
 ·intro h e he t ht
  simp only[List.mem_singleton] at he
  subst he
  exact List.all_eq_true.1 h t ht
theorem Zpb{k:Nat}{l:List Tr}:UnR k [l]=(l.length=k):=by
 apply propext
 constructor
 ·intro h;exact h l (by simp)
 ·intro h e he
  simp only[List.mem_singleton] at he
  rw[he,h]
theorem Ztm{j:Nat}:max j (j+1)=j+1:=by omega
theorem Ztn{j:Nat}:(j<j+1)=True:=by simp
end Go.Fd

/-
  FOUNDATION 52: numbers and strings as parameters of a law. Own work.
-/
namespace Go.Fd
open Go.RowKit Go.ChangeShapes Go.ChangeMaps Go.WideMaps
section
variable {H:Type} {enc:TypeId×Value->H} {P:Program} {w:World} {t:TypeId} {v:Value} {d:DataW H} {p:List MemPlace} {sp:Nat->Bool} {hd:Bool} {base:Nat}
end
end Go.Fd

/-
  FOUNDATION 54: all rules in one word (printed by evr.py). Own work.
-/
namespace Go.Fd
set_option linter.defProp false in
def EV0:=(And.intro (And.intro (And.intro (And.intro (And.intro @Zm6 @Zqv) (And.intro @Zm7 (And.intro @Zm8 @Zm9))) (And.intro (And.intro @Zna @Znb) (And.intro @Znc (And.intro @Znd @Zqw)))) (And.intro (And.intro (And.intro @Zqx @Zqy) (And.intro @Zt7 (And.intro @Zt8 @Zt9))) (And.intro (And.intro @Zua @Zub) (And.intro @Zuc (And.intro @Zud @Zue))))) (And.intro (And.intro (And.intro (And.intro @Zqz @ZqA) (And.intro @ZqB (And.intro @Zne @Zuf))) (And.intro (And.intro @ZqC @ZqD) (And.intro @Zug (And.intro @ZqE @Znf)))) (And.intro (And.intro (And.intro @Zuh @ZqF) (And.intro @Zui (And.intro @ZqG @Zuj))) (And.intro (And.intro @ZqH @Zuk) (And.intro @Zul (And.intro @Zum @ZjR))))))
set_option linter.defProp false in
def EV1:=(And.intro (And.intro (And.intro (And.intro (And.intro @ZjS @ZqI) (And.intro @Zlo (And.intro @Zun @ZqJ))) (And.intro (And.intro @Zuo @Znh) (And.intro @Zni (And.intro @Znj @Znk)))) (And.intro (And.intro (And.intro @Znl @Znm) (And.intro @ZqK (And.intro @ZqL @ZqM))) (And.intro (And.intro @ZqN @ZqO) (And.intro @ZqP (And.intro @ZqQ @ZqR))))) (And.intro (And.intro (And.intro (And.intro @ZqS @ZqT) (And.intro @ZqU (And.intro @ZqV @ZqW))) (And.intro (And.intro @ZqX @ZqY) (And.intro @ZqZ (And.intro @Znn @Zno)))) (And.intro (And.intro (And.intro @Znp @Zq0) (And.intro @Zq1 (And.intro @Zq2 @Zq3))) (And.intro (And.intro @Zup @Zuq) (And.intro @Zq4 (And.intro @Zur @Zq5))))))
set_option linter.defProp false in
def EV2:=(And.intro (And.intro (And.intro (And.intro (And.intro @Zus @Zq6) (And.intro @Zq7 (And.intro @Zq8 @Zq9))) (And.intro (And.intro @Zut @Zra) (And.intro @Zuu (And.intro @Zrb @Zrc)))) (And.intro (And.intro (And.intro @Zrd @Zuv) (And.intro @Zre (And.intro @Zuw @Zux))) (And.intro (And.intro @Zrf @Zrg) (And.intro @Zuy (And.intro @Zrh @Zri))))) (And.intro (And.intro (And.intro (And.intro @Zrj @Zuz) (And.intro @Zrk (And.intro @ZuA @Zrl))) (And.intro (And.intro @Zrm @Zrn) (And.intro @ZuB (And.intro @Zro @Zrp)))) (And.intro (And.intro (And.intro @Zrq @ZuC) (And.intro @Zrr (And.intro @Zrs @Zrt))) (And.intro (And.intro @ZuD @Zru) (And.intro @Zrv (And.intro @Zrw @Zrx))))))
set_option linter.defProp false in
def EV3:=(And.intro (And.intro (And.intro (And.intro (And.intro @Zry @ZjT) (And.intro @ZjU (And.intro @Zrz @Znq))) (And.intro (And.intro @ZrA @ZuE) (And.intro @ZrB (And.intro @ZrC @ZrD)))) (And.intro (And.intro (And.intro @ZrE @ZuF) (And.intro @ZrF (And.intro @ZuG @ZrG))) (And.intro (And.intro @ZrH @Qf) (And.intro @W4 (And.intro @Znr @ZrI))))) (And.intro (And.intro (And.intro (And.intro @ZaV @ZrJ) (And.intro @ZrK (And.intro @ZrL @Zns))) (And.intro (And.intro @Znt @Znv) (And.intro @Zlp (And.intro @ZuH @ZrM)))) (And.intro (And.intro (And.intro @ZrN @ZrO) (And.intro @ZrP (And.intro @Znw @ZrQ))) (And.intro (And.intro @ZrR @ZrS) (And.intro @ZrT (And.intro @ZrU @Znx))))))
set_option linter.defProp false in
def EV4:=(And.intro (And.intro (And.intro (And.intro (And.intro @Zny @ZrV) (And.intro @Znz (And.intro @ZnA @ZuI))) (And.intro (And.intro @ZrW @ZrX) (And.intro @ZrY (And.intro @ZrZ @ZnB)))) (And.intro (And.intro (And.intro @ZuJ @Zr0) (And.intro @ZuK (And.intro @Zr1 @Zr2))) (And.intro (And.intro @Zr3 @ZuL) (And.intro @Zr4 (And.intro @Zr5 @Zr6))))) (And.intro (And.intro (And.intro (And.intro @ZnC @ZnD) (And.intro @ZnE (And.intro @ZnF @Zlq))) (And.intro (And.intro @ZnG @Zr7) (And.intro @Zr8 (And.intro @Zr9 @ZnH)))) (And.intro (And.intro (And.intro @Zsa @Zsb) (And.intro @Zsc (And.intro @ZuM @Zsd))) (And.intro (And.intro @Zse @ZnI) (And.intro @Zsf (And.intro @ZnJ @Zsg))))))
set_option linter.defProp false in
def EV5:=(And.intro (And.intro (And.intro (And.intro (And.intro @ZnK @Zsh) (And.intro @ZnL (And.intro @Zsi @ZnM))) (And.intro (And.intro @ZnN @ZnO) (And.intro @Zsj (And.intro @Zlr @Zls)))) (And.intro (And.intro (And.intro @Zsk @ZnP) (And.intro @ZnQ (And.intro @ZnR @ZnS))) (And.intro (And.intro @ZnT @Zsl) (And.intro @ZnU (And.intro @Zsm @ZnV))))) (And.intro (And.intro (And.intro (And.intro @Zlt @Zlu) (And.intro @Zlv (And.intro @Zlw @Zlx))) (And.intro (And.intro @Zly @Zlz) (And.intro @Zsn (And.intro @ZjV @ZjW)))) (And.intro (And.intro (And.intro @ZlA @ZlB) (And.intro @ZlC (And.intro @ZlD @ZjX))) (And.intro (And.intro @ZjY @ZjZ) (And.intro @Zj0 (And.intro @Zj1 @Zj2))))))
set_option linter.defProp false in
def EV6:=(And.intro (And.intro (And.intro (And.intro (And.intro @ZlE @ZlF) (And.intro @ZlG (And.intro @ZnW @ZnX))) (And.intro (And.intro @Zso @ZlH) (And.intro @ZnY (And.intro @ZnZ @ZlI)))) (And.intro (And.intro (And.intro @Zn0 @Zn1) (And.intro @Zn2 (And.intro @Zn3 @Zn4))) (And.intro (And.intro @Zn5 @Zn6) (And.intro @ZlJ (And.intro @ZlK @ZlL))))) (And.intro (And.intro (And.intro (And.intro @ZlM @Zn7) (And.intro @Zn8 (And.intro @Zn9 @Zoa))) (And.intro (And.intro @Zob @Zj3) (And.intro @Zj4 (And.intro @Zj5 @ZuN)))) (And.intro (And.intro (And.intro @Zsr @Zss) (And.intro @Zst (And.intro @ZM @ZN))) (And.intro (And.intro @ZlN @ZlO) (And.intro @Zoc (And.intro @Zod @Zoe))))))
set_option linter.defProp false in
def EV7:=(And.intro (And.intro (And.intro (And.intro (And.intro @Zof @Zog) (And.intro @Zoh (And.intro @Zoi @Zoj))) (And.intro (And.intro @Zok @ZlP) (And.intro @Zsu (And.intro @ZlQ @ZlR)))) (And.intro (And.intro (And.intro @Zsv @Zsw) (And.intro @Zsx (And.intro @Zsy @Zol))) (And.intro (And.intro @Zom @Zon) (And.intro @Zsz (And.intro @ZuO @ZsA))))) (And.intro (And.intro (And.intro (And.intro @ZsB @ZsC) (And.intro @ZsD (And.intro @ZsE @ZlS))) (And.intro (And.intro @ZlT @Zoo) (And.intro @Zop (And.intro @Zoq @Zor)))) (And.intro (And.intro (And.intro @ZsF @Zot) (And.intro @ZlU (And.intro @ZlV @Zou))) (And.intro (And.intro @Zov @ZuP) (And.intro @ZuQ (And.intro @ZlW @ZlX))))))
set_option linter.defProp false in
def EV8:=(And.intro (And.intro (And.intro (And.intro (And.intro @ZuR @ZuS) (And.intro @ZsG (And.intro @ZsH @ZuT))) (And.intro (And.intro @ZuU @ZsI) (And.intro @ZsJ (And.intro @ZsK @ZsL)))) (And.intro (And.intro (And.intro @ZsM @ZuV) (And.intro @Zow (And.intro @Zox @ZuW))) (And.intro (And.intro @Zoy @Zoz) (And.intro @ZoA (And.intro @ZoB @ZoC))))) (And.intro (And.intro (And.intro (And.intro @ZuX @ZuY) (And.intro @ZoD (And.intro @ZoE @ZoF))) (And.intro (And.intro @ZsN @ZuZ) (And.intro @ZsO (And.intro @ZsP @ZoG)))) (And.intro (And.intro (And.intro @ZoH @ZsQ) (And.intro @ZoI (And.intro @ZoJ @ZsR))) (And.intro (And.intro @ZoK @ZsT) (And.intro @ZoL (And.intro @ZlY @ZdZ))))))
set_option linter.defProp false in
def EV9:=(And.intro (And.intro (And.intro (And.intro (And.intro @Zu0 @ZsU) (And.intro @ZsV (And.intro @ZoM @Zu1))) (And.intro (And.intro @ZsW @Zu2) (And.intro @ZsX (And.intro @ZsY @ZsZ)))) (And.intro (And.intro (And.intro @Zu3 @Zs0) (And.intro @Zs1 (And.intro @ZoN @ZoO))) (And.intro (And.intro @Zu4 @Zs2) (And.intro @Zu5 (And.intro @Zs3 @Zs4))))) (And.intro (And.intro (And.intro (And.intro @Zs5 @ZlZ) (And.intro @Zl0 (And.intro @ZoP @ZoQ))) (And.intro (And.intro @ZoR @ZoS) (And.intro @Zl1 (And.intro @Ziz @Zu6)))) (And.intro (And.intro (And.intro @Zl2 @Zl3) (And.intro @Zl4 (And.intro @Zl5 @Zl6))) (And.intro (And.intro @ZoT @Zu7) (And.intro @Zs7 (And.intro @Zs8 @Zu8))))))
set_option linter.defProp false in
def Zvc:=(And.intro (And.intro (And.intro (And.intro (And.intro @Zs9 @Zta) (And.intro @Ztb (And.intro @ZoU @ZoV))) (And.intro (And.intro @ZoW @Ztc) (And.intro @Ztd (And.intro @Zu9 @Zva)))) (And.intro (And.intro (And.intro @Zte @Zvb) (And.intro @Ztf (And.intro @Ztg @ZoX))) (And.intro (And.intro @Zth @ZoY) (And.intro @ZoZ (And.intro @Zl9 @Zma))))) (And.intro (And.intro (And.intro (And.intro @Zo0 @Zti) (And.intro @Ztj (And.intro @Ztk @Ztl))) (And.intro (And.intro @Zo1 @Zo2) (And.intro @Zo3 (And.intro @Zo4 @Zo5)))) (And.intro (And.intro (And.intro @Zo6 @Zo7) (And.intro @Zo8 (And.intro @Zo9 @Zpa))) (And.intro (And.intro @Zpb @Ztm) (And.intro @Ztn (And.intro @bigN.eq_1 @fpart.eq_1))))))
set_option linter.defProp false in
def Zvd:=(And.intro (And.intro (And.intro (And.intro (And.intro @fpart.eq_2 @okp.eq_1) (And.intro @okp.eq_2 (And.intro @zfill.eq_1 @zfill.eq_2))) (And.intro (And.intro @zobs.eq_1 @ptd.eq_1) (And.intro @ptd.eq_2 (And.intro @keyOf.eq_1 @keyOf.eq_2)))) (And.intro (And.intro (And.intro @freshK.eq_1 @freshK.eq_2) (And.intro @lk.eq_1 (And.intro @lk.eq_2 @pt.eq_1))) (And.intro (And.intro @pt.eq_2 @lkO.eq_1) (And.intro @lkO.eq_2 (And.intro @ptO.eq_1 @ptO.eq_2))))) (And.intro (And.intro (And.intro (And.intro @addO.eq_1 @addO.eq_2) (And.intro @xv.eq_1 (And.intro @xv.eq_2 @xv.eq_3))) (And.intro (And.intro @kv.eq_1 @kv.eq_2) (And.intro @kc.eq_1 (And.intro @kc.eq_2 @params.eq_1)))) (And.intro (And.intro (And.intro @params.eq_2 @trv.eq_1) (And.intro @trv.eq_2 (And.intro @List.length_cons.{0} @List.length_nil.{0}))) (And.intro (And.intro @Option.getD_some.{0} @Option.getD_none.{0}) (And.intro @true_and (And.intro @and_true @decide_eq_true_eq))))))
set_option linter.defProp false in
def Zve:=(And.intro (And.intro (And.intro (And.intro (And.intro @decide_true @decide_false) (And.intro @Option.map_some.{0,0} (And.intro @Option.map_none.{0,0} @Option.isSome_some.{0}))) (And.intro (And.intro @Option.isSome_none.{0} @Option.isNone_some.{0}) (And.intro @Option.isNone_none.{0} (And.intro @List.map_cons.{0,0} @List.map_nil.{0,0})))) (And.intro (And.intro (And.intro @List.cons_append.{0} @List.nil_append.{0}) (And.intro @List.getElem?_cons_zero.{0} (And.intro @List.getElem?_cons_succ.{0} @List.drop_succ_cons.{0}))) (And.intro (And.intro @List.drop_zero.{0} @List.take_succ_cons.{0}) (And.intro @List.take_zero.{0} (And.intro @List.headD_cons.{0} @List.headD_nil.{0}))))) (And.intro (And.intro (And.intro (And.intro @List.tail_cons.{0} @List.tail_nil.{0}) (And.intro @noSh.eq_1 (And.intro @noSh.eq_2 @noSh.eq_3))) (And.intro (And.intro @noSh.eq_4 @noSh.eq_5) (And.intro @noSh.eq_6 (And.intro @noSh.eq_7 @noSh.eq_8)))) (And.intro (And.intro (And.intro @noShs.eq_1 @noShs.eq_2) (And.intro @isSc.eq_1 (And.intro @isSc.eq_2 @impv.eq_1))) (And.intro (And.intro @impv.eq_2 @impv.eq_3) (And.intro @impv.eq_4 (And.intro @impvs.eq_1 @impvs.eq_2))))))
set_option linter.defProp false in
def Zvf:=(And.intro (And.intro (And.intro (And.intro (And.intro @impc.eq_1 @impc.eq_2) (And.intro @memB.eq_1 (And.intro @memB.eq_2 @keepB.eq_1))) (And.intro (And.intro @keepB.eq_2 @keepOB.eq_1) (And.intro @keepOB.eq_2 (And.intro @or_true @true_or)))) (And.intro (And.intro (And.intro @or_false @false_or) (And.intro @Bool.false_eq_true (And.intro @Bool.true_eq_false @if_true.{1}))) (And.intro (And.intro @if_false.{1} @Bool.not_true) (And.intro @Bool.not_false (And.intro @scrE.eq_1 @scrE.eq_2))))) (And.intro (And.intro (And.intro (And.intro @scrL.eq_1 @scrL.eq_2) (And.intro @scr.eq_1 (And.intro @scr.eq_2 @scr.eq_3))) (And.intro (And.intro @scr.eq_4 @scr.eq_5) (And.intro @scr.eq_6 (And.intro @scr.eq_7 @scr.eq_8)))) (And.intro (And.intro (And.intro @scrs.eq_1 @scrs.eq_2) (And.intro @scrOb.eq_1 (And.intro @scrOb.eq_2 @rmO.eq_1))) (And.intro (And.intro @rmO.eq_2 @Int.toNat_natCast) (And.intro @Int.toNat_zero (And.intro @Int.toNat_one @List.all_cons.{0}))))))
set_option linter.defProp false in
def Zvg:=(And.intro (And.intro (And.intro (And.intro (And.intro @List.all_nil.{0} @isCell.eq_1) (And.intro @isCell.eq_2 (And.intro @isCell.eq_3 @isCell.eq_4))) (And.intro (And.intro @isCell.eq_5 @isCell.eq_6) (And.intro @Bool.and_true (And.intro @Bool.true_and @Bool.and_self)))) (And.intro (And.intro (And.intro @cellsOf.eq_1 @cellsOf.eq_2) (And.intro @totr.eq_1 (And.intro @totr.eq_2 @totr.eq_3))) (And.intro (And.intro @totr.eq_4 @totr.eq_5) (And.intro @totrs.eq_1 (And.intro @totrs.eq_2 @tocs.eq_1))))) (And.intro (And.intro (And.intro (And.intro @getp.eq_1 @getp.eq_2) (And.intro @cvt.eq_1 (And.intro @cvt.eq_2 @cvts.eq_1))) (And.intro (And.intro @cvts.eq_2 @Nat.zero_add) (And.intro @Nat.add_zero (And.intro @List.set_cons_zero.{0} @List.set_cons_succ.{0})))) (And.intro (And.intro (And.intro @Bool.not_eq_true' @Bool.not_eq_false') (And.intro @Int.natCast_nonneg (And.intro @Nat.le_refl @Prod.mk.injEq.{0,0}))) (And.intro (And.intro @ne_eq.{1} @not_false_eq_true) (And.intro @not_true_eq_false (And.intro @List.length_map.{0,0} @List.length_replicate.{0}))))))
set_option linter.defProp false in
def Zvh:=(And.intro (And.intro @List.replicate_zero.{0} @and_false) (And.intro @false_and (And.intro @and_self @Int.cast_ofNat_Int)))
set_option linter.defProp false in
def EVA:=(And.intro (And.intro (And.intro (And.intro EV0 EV1) (And.intro EV2 EV3)) (And.intro (And.intro EV4 EV5) (And.intro EV6 EV7))) (And.intro (And.intro (And.intro EV8 EV9) (And.intro Zvc Zvd)) (And.intro (And.intro Zve Zvf) (And.intro Zvg Zvh))))
abbrev oo(d:Nat)(x:O):OP:=⟨some d,none,x⟩
abbrev on1(x:O):OP:=⟨none,none,x⟩
abbrev og(d j:Nat)(w:Bool)(x:O):OP:=⟨some d,some (j,w),x⟩
abbrev om(d:Nat)(x:X):OP:=⟨some d,none,.mv x none⟩
abbrev rg(l:List OP):C2:=.rg none l
abbrev i6(n:Int):X:=.k (.int .i64 n)
end Go.Fd

/-
  PLAIN WORDS FOR THE DATA, AND WHAT HOLDS OF THE HELPERS OF THE LAWS THAT ARE ALIKE FOR ALL KINDS OF SLICES. Own work.
-/
namespace Go.Fd
set_option maxRecDepth 10000
theorem Zj{c:Prop}[Decidable c]{p q:Prop}(h1:c->p)(h2:¬ c->q):if c then p else q:=by
 split
 ·exact h1 ‹_›
 ·exact h2 ‹_›
def szN(n:Nat)(left:Int):Int:=if left-n<0 then -1 else left-n
def szF{α:Type}(f:α->Int->Int):List α->Int->Int
 | [],l=>l
 | x::r,l=>if f x l<0 then -1 else szF f r (f x l)
def szL{α:Type}(f:α->Int->Int)(a:List α)(left:Int):Int:=if left-a.length<0 then -1 else szF f a (left-a.length)
def sz0:F2 :=
 { nt:=12,res:=[.t 4 [0]],body:=(.sq (.rg none [⟨some 4,none,.mv (.k (.int .i64 0)) none⟩]) (.sq (.rg none [⟨some 5,none,.mv (.t 1) none⟩,
   ⟨some 6,none,.mv (.t 0) none⟩,
   ⟨some 7,none,.ln (.t 6)⟩,
   ⟨some 8,none,.bi .sub 0 (.t 5) (.t 7)⟩,
   ⟨some 1,none,.mv (.t 8) none⟩]) (.sq (.sq (.rg none [⟨some 9,none,.mv (.t 1) none⟩,
    ⟨some 10,none,.bi .lss 0 (.t 9) (.k (.int .i64 0))⟩]) (.cd (.t 10) (.sq (.rg none [⟨some 4,none,.mv (.k (.int .i64 (-1))) none⟩]) (.rt)) (.sk))) (.sq (.rg none [⟨some 11,none,.mv (.t 1) none⟩,
   ⟨some 4,none,.mv (.t 11) none⟩]) (.rt))))) }
theorem ZiD{P:Program}{fid:FuncId}(hc:ZH P fid sz0=true)(es:Row)(left:Int)(h:es.length<=9223372036854775807)(h0:0<=left)(h1:left<=1048576)(lvl:Nat)(S:Sto) :
  Sem P fid lvl [.tr (.sl es),iI left] S (iI (szN es.length left)) S:=by
 refine Zb hc trivial ?_
 simp only[sz0,EVA,seval,Zc,men]
 refine⟨by rw[Zd];omega,?_⟩
 unfold szN
 split <;> rfl
def ZkO(k:Nat)(m:Option Nat)(fid:FuncId):F2 :=
 { nt:=27,res:=[.t 4 [0]],body:=(.sq (.rg none [⟨some 4,none,.mv (.k (.int .i64 0)) none⟩]) (.sq (.rg none [⟨some 6,none,.mv (.t 1) none⟩,
   ⟨some 7,none,.mv (.t 0) none⟩,
   ⟨some 8,none,.ln (.t 7)⟩,
   ⟨some 9,none,.bi .sub 0 (.t 6) (.t 8)⟩,
   ⟨some 1,none,.mv (.t 9) none⟩]) (.sq (.sq (.rg none [⟨some 10,none,.mv (.t 1) none⟩,
    ⟨some 11,none,.bi .lss 0 (.t 10) (.k (.int .i64 0))⟩]) (.cd (.t 11) (.sq (.rg none [⟨some 4,none,.mv (.k (.int .i64 (-1))) none⟩]) (.rt)) (.sk))) (.sq (.sq (.rg none [⟨some 5,none,.mv (.k (.int .i64 0)) none⟩]) (.bl 0 (.lp [0,1,5] [] (.sq (.sq (.rg none [⟨some 12,none,.mv (.t 5) none⟩,
     ⟨some 13,none,.mv (.t 0) none⟩,
     ⟨some 14,none,.ln (.t 13)⟩,
     ⟨some 15,none,.bi .lss 0 (.t 12) (.t 14)⟩]) (.cd (.t 15) (.sk) (.ex 0))) (.sq (.bl 1 (.sq (.rg none [⟨some 18,none,.mv (.t 0) none⟩,
      ⟨some 19,none,.mv (.t 5) none⟩,
      ⟨some 20,none,.ia k (.t 18) (.t 19)⟩,
      ⟨some 21,none,.ld m (.t 20)⟩,
      ⟨some 22,none,.mv (.t 1) none⟩,
      ⟨some 23,none,.ca .pure false (.f fid) [.t 21,.t 22]⟩,
      ⟨some 1,none,.mv (.t 23) none⟩]) (.sq (.rg none [⟨some 24,none,.mv (.t 1) none⟩,
      ⟨some 25,none,.bi .lss 0 (.t 24) (.k (.int .i64 0))⟩]) (.cd (.t 25) (.sq (.rg none [⟨some 4,none,.mv (.k (.int .i64 (-1))) none⟩]) (.rt)) (.sk))))) (.rg none [⟨some 16,none,.mv (.t 5) none⟩,
    ⟨some 17,none,.bi .add 0 (.t 16) (.k (.int .i64 1))⟩,
    ⟨some 5,none,.mv (.t 17) none⟩])))))) (.sq (.rg none [⟨some 26,none,.mv (.t 1) none⟩,
   ⟨some 4,none,.mv (.t 26) none⟩]) (.rt)))))) }
theorem Zd1{P:Program}{fid fe:FuncId}{k:Nat}(hc:ZH P fid (ZkO k (some k) fe)=true){α:Type}(c:α->List Tr)(f:α->Int->Int)(hk:∀ x,(c x).length=k)(a:List α)(left:Int)(h:a.length<=9223372036854775807)(h0:0<=left)(h1:left<=1048576)
  (hf:∀ x∈a,∀ l:Int,0<=l->l<=1048576->f x l<=l/\∀ lvl S,Sem P fe lvl [.ag ((c x).map .tr),iI l] S (iI (f x l)) S) (lvl:Nat) (S:Sto) :
  Sem P fid lvl [.tr (.sl (a.map c)),iI left] S (iI (szL f a left)) S:=by
 refine Zb hc trivial ?_
 simp only[ZkO,List.length_map,EVA,seval,Zc,men]
 refine⟨by rw[Zd];omega,?_⟩
 unfold szL
 split
 ·rfl
 ·rename_i hlt
  generalize hr:szF f a (left-a.length)=total
  refine ZI (α:=Int) a.length (fun j l=>⟨lvl,[(0,.tr (.sl (a.map c))),(1,iI l),(5,iI j)],[],S⟩) (fun j l=>0<=l/\l<=1048576/\szF f (a.drop j) l=total) (left-a.length) ⟨by simp only[EVA,seval,Zc,men],by (simp only[EVA,seval,Zc,men]) <;> rfl⟩ ⟨by omega,by omega,hr⟩ ?_
  intro j l hj ⟨hl0,hl1,hl⟩
  simp only[List.length_map,EVA,seval,Zc,men]
  split
  ·rename_i hlt
   have hja:j<a.length:=by omega
   have ga:(a.map c)[j]? = some (c a[j]):=by simp [hja]
   have hkk:=hk a[j]
   have htk:(c a[j]).take k=c a[j]:=List.take_of_length_le (by omega)
   rw[List.drop_eq_getElem_cons hja] at hl
   obtain⟨hle,hsem⟩:=hf a[j] (List.getElem_mem hja) l hl0 hl1
   simp only[ga,hkk,htk,Int.natCast_nonneg,Nat.le_refl,EVA,seval,Zc,men]
   refine Za hsem ?_
   simp only[EVA,seval,Zc,men]
   split
   ·rename_i hneg
    simp only[szF,if_pos hneg] at hl
    rw[hl]
   ·rename_i hneg
    simp only[szF,if_neg hneg] at hl
    refine⟨by rw[Zd];omega,Ze (f a[j] l) hja rfl ⟨by omega,by omega,hl⟩⟩
  ·rename_i hge
   have:j=a.length:=by omega
   subst this
   simp only[List.drop_length,szF] at hl
   rw[hl]
def Zto:F2 :=
 { nt:=28,res:=[.t 4 [0]],body:=(.sq (.rg none [⟨some 4,none,.mv (.k (.int .i64 0)) none⟩]) (.sq (.rg none [⟨some 6,none,.mv (.t 1) none⟩,
   ⟨some 7,none,.mv (.t 0) none⟩,
   ⟨some 8,none,.ln (.t 7)⟩,
   ⟨some 9,none,.bi .sub 0 (.t 6) (.t 8)⟩,
   ⟨some 1,none,.mv (.t 9) none⟩]) (.sq (.sq (.rg none [⟨some 10,none,.mv (.t 1) none⟩,
    ⟨some 11,none,.bi .lss 0 (.t 10) (.k (.int .i64 0))⟩]) (.cd (.t 11) (.sq (.rg none [⟨some 4,none,.mv (.k (.int .i64 (-1))) none⟩]) (.rt)) (.sk))) (.sq (.sq (.rg none [⟨some 5,none,.mv (.k (.int .i64 0)) none⟩]) (.bl 0 (.lp [0,1,5] [] (.sq (.sq (.rg none [⟨some 12,none,.mv (.t 5) none⟩,
     ⟨some 13,none,.mv (.t 0) none⟩,
     ⟨some 14,none,.ln (.t 13)⟩,
     ⟨some 15,none,.bi .lss 0 (.t 12) (.t 14)⟩]) (.cd (.t 15) (.sk) (.ex 0))) (.sq (.bl 1 (.sq (.rg none [⟨some 18,none,.mv (.t 1) none⟩,
      ⟨some 19,none,.mv (.t 0) none⟩,
      ⟨some 20,none,.mv (.t 5) none⟩,
      ⟨some 21,none,.ia 1 (.t 19) (.t 20)⟩,
      ⟨some 22,none,.ld none (.t 21)⟩,
      ⟨some 23,none,.lg (.t 22)⟩,
      ⟨some 24,none,.bi .sub 0 (.t 18) (.t 23)⟩,
      ⟨some 1,none,.mv (.t 24) none⟩]) (.sq (.rg none [⟨some 25,none,.mv (.t 1) none⟩,
      ⟨some 26,none,.bi .lss 0 (.t 25) (.k (.int .i64 0))⟩]) (.cd (.t 26) (.sq (.rg none [⟨some 4,none,.mv (.k (.int .i64 (-1))) none⟩]) (.rt)) (.sk))))) (.rg none [⟨some 16,none,.mv (.t 5) none⟩,
    ⟨some 17,none,.bi .add 0 (.t 16) (.k (.int .i64 1))⟩,
    ⟨some 5,none,.mv (.t 17) none⟩])))))) (.sq (.rg none [⟨some 27,none,.mv (.t 1) none⟩,
   ⟨some 4,none,.mv (.t 27) none⟩]) (.rt)))))) }
theorem Zj8{P:Program}{fid:FuncId}(hc:ZH P fid Zto=true)(a:List ByteArray)(left:Int)(h:a.length<=9223372036854775807)(h0:0<=left)(h1:left<=1048576)
  (hf:∀ x∈a,x.size<=9223372036854775807) (lvl:Nat) (S:Sto) :
  Sem P fid lvl [tS a,iI left] S (iI (szL (fun x l=>l-x.size) a left)) S:=by
 refine Zb hc trivial ?_
 simp only[Zto,List.length_map,EVA,seval,Zc,men]
 refine⟨by rw[Zd];omega,?_⟩
 unfold szL
 split
 ·rfl
 ·rename_i hlt
  generalize hr:szF (fun(x:ByteArray) l=>l-x.size) a (left-a.length)=total
  refine ZI (α:=Int) a.length (fun j l=>⟨lvl,[(0,tS a),(1,iI l),(5,iI j)],[],S⟩) (fun j l=>0<=l/\l<=1048576/\szF (fun(x:ByteArray) l=>l-x.size) (a.drop j) l=total) (left-a.length) ⟨by simp only[EVA,seval,Zc,men],by (simp only[EVA,seval,Zc,men]) <;> rfl⟩ ⟨by omega,by omega,hr⟩ ?_
  intro j l hj ⟨hl0,hl1,hl⟩
  simp only[List.length_map,EVA,seval,Zc,men]
  split
  ·rename_i hlt
   have hja:j<a.length:=by omega
   have ga:(rS a)[j]? = some [ts a[j]]:=by simp [hja]
   rw[List.drop_eq_getElem_cons hja] at hl
   have hs:=hf a[j] (List.getElem_mem hja)
   simp only[ga,Int.natCast_nonneg,Nat.le_refl,EVA,seval,Zc,men]
   refine⟨by rw[Zd];omega,?_⟩
   split
   ·rename_i hneg
    simp only[szF,if_pos hneg] at hl
    rw[hl]
   ·rename_i hneg
    simp only[szF,if_neg hneg] at hl
    refine⟨by rw[Zd];omega,Ze (l-a[j].size) hja rfl ⟨by omega,by omega,hl⟩⟩
  ·rename_i hge
   have:j=a.length:=by omega
   subst this
   simp only[List.drop_length,szF] at hl
   rw[hl]
def Zj9(k:Nat)(m:Option Nat)(fid:FuncId):F2 :=
 { nt:=27,res:=[.t 4 [0]],body:=(.sq (.rg none [⟨some 4,none,.mv (.k (.bool false)) none⟩]) (.sq (.sq (.rg none [⟨some 6,none,.mv (.t 0) none⟩,
    ⟨some 7,none,.ln (.t 6)⟩,
    ⟨some 8,none,.mv (.t 1) none⟩,
    ⟨some 9,none,.ln (.t 8)⟩,
    ⟨some 10,none,.bi .neq 0 (.t 7) (.t 9)⟩]) (.cd (.t 10) (.sq (.rg none [⟨some 4,none,.mv (.k (.bool false)) none⟩]) (.rt)) (.sk))) (.sq (.sq (.rg none [⟨some 5,none,.mv (.k (.int .i64 0)) none⟩]) (.bl 0 (.lp [0,1,5] [] (.sq (.sq (.rg none [⟨some 11,none,.mv (.t 5) none⟩,
     ⟨some 12,none,.mv (.t 0) none⟩,
     ⟨some 13,none,.ln (.t 12)⟩,
     ⟨some 14,none,.bi .lss 0 (.t 11) (.t 13)⟩]) (.cd (.t 14) (.sk) (.ex 0))) (.sq (.bl 1 (.sq (.rg (some 0) [⟨some 17,none,.mv (.t 0) none⟩,
      ⟨some 18,none,.mv (.t 5) none⟩,
      ⟨some 19,none,.ia k (.t 17) (.t 18)⟩,
      ⟨some 20,none,.ld m (.t 19)⟩,
      ⟨some 21,none,.mv (.t 1) none⟩,
      ⟨some 22,none,.mv (.t 5) none⟩,
      ⟨some 23,none,.ia k (.t 21) (.t 22)⟩,
      ⟨some 24,none,.ld m (.t 23)⟩,
      ⟨some 25,none,.ca .pure false (.f fid) [.t 20,.t 24]⟩,
      ⟨some 26,none,.nt (.t 25)⟩]) (.cd (.t 26) (.sq (.rg none [⟨some 4,none,.mv (.k (.bool false)) none⟩]) (.rt)) (.sk)))) (.rg none [⟨some 15,none,.mv (.t 5) none⟩,
    ⟨some 16,none,.bi .add 0 (.t 15) (.k (.int .i64 1))⟩,
    ⟨some 5,none,.mv (.t 16) none⟩])))))) (.sq (.rg none [⟨some 4,none,.mv (.k (.bool true)) none⟩]) (.rt))))) }
theorem X0{α:Type}{a b:List α}{j:Nat}(ha:j<a.length)(hb:j<b.length)(h:a[j]≠b[j]):a≠b:=by
 intro e;subst e;exact h rfl
theorem Q1{α:Type}{a b:List α}(hl:a.length=b.length)(h:a.take a.length=b.take a.length):a=b:=by
 rw[List.take_length,hl,List.take_length] at h;exact h
theorem Qg{α:Type}{a b:List α}{j:Nat}(ha:j<a.length)(hb:j<b.length)(h:a.take j=b.take j)(e:a[j]=b[j]):a.take (j+1)=b.take (j+1):=by
 rw[List.take_succ_eq_append_getElem ha,List.take_succ_eq_append_getElem hb,h,e]
theorem Zbv{P:Program}{fid fe:FuncId}{k:Nat}(hc:ZH P fid (Zj9 k (some k) fe)=true){α:Type}[DecidableEq α](c:α->List Tr)(hk:∀ x,(c x).length=k)(a b:List α)(ha:a.length<=9223372036854775807)
  (hf:∀ x∈a,∀ y∈b,∀ lvl S,Sem P fe lvl [.ag ((c x).map .tr),.ag ((c y).map .tr)] S (iB (decide (x=y))) S) (lvl:Nat) (S:Sto) :
  Sem P fid lvl [.tr (.sl (a.map c)),.tr (.sl (b.map c))] S (iB (decide (a=b))) S:=by
 refine Zb hc trivial ?_
 simp only[Zj9,List.length_map,EVA,seval,Zc,men]
 split
 ·rename_i h
  have:¬ a=b:=fun e=>h (by rw[e])
  simp [this]
 ·rename_i h
  have hlen:a.length=b.length:=by omega
  refine ZI (α:=Unit) a.length (fun j _=>⟨lvl,[(0,.tr (.sl (a.map c))),(1,.tr (.sl (b.map c))),(5,iI j)],[],S⟩) (fun j _=>a.take j=b.take j) () ⟨by simp only[EVA,seval,Zc,men],by (simp only[EVA,seval,Zc,men]) <;> rfl⟩ rfl ?_
  intro j _ hj hA
  simp only[List.length_map,EVA,seval,Zc,men]
  split
  ·rename_i hlt
   have hja:j<a.length:=by omega
   have hjb:j<b.length:=by omega
   have ga:(a.map c)[j]? = some (c a[j]):=by simp [hja]
   have gb:(b.map c)[j]? = some (c b[j]):=by simp [hjb]
   have hka:=hk a[j]
   have hkb:=hk b[j]
   have hta:(c a[j]).take k=c a[j]:=List.take_of_length_le (by omega)
   have htb:(c b[j]).take k=c b[j]:=List.take_of_length_le (by omega)
   have hsem:=hf a[j] (List.getElem_mem hja) b[j] (List.getElem_mem hjb)
   simp only[ga,gb,hka,hkb,hta,htb,Int.natCast_nonneg,Nat.le_refl,EVA,seval,Zc,men]
   refine Za hsem ?_
   simp only[Bool.not_eq_true',EVA,seval,Zc,men]
   split
   ·rename_i hne
    have:¬ a=b:=X0 hja hjb (by simpa using hne)
    simp [this]
   ·rename_i he
    refine⟨by rw[Zd];omega,Ze () hja rfl (Qg hja hjb hA (by simpa using he))⟩
  ·rename_i hge
   have:j=a.length:=by omega
   subst this
   have:a=b:=Q1 hlen hA
   simp [this]
def ZmB:F2 :=
 { nt:=26,res:=[.t 4 [0]],body:=(.sq (.rg none [⟨some 4,none,.mv (.k (.bool false)) none⟩]) (.sq (.sq (.rg none [⟨some 6,none,.mv (.t 0) none⟩,
    ⟨some 7,none,.ln (.t 6)⟩,
    ⟨some 8,none,.mv (.t 1) none⟩,
    ⟨some 9,none,.ln (.t 8)⟩,
    ⟨some 10,none,.bi .neq 0 (.t 7) (.t 9)⟩]) (.cd (.t 10) (.sq (.rg none [⟨some 4,none,.mv (.k (.bool false)) none⟩]) (.rt)) (.sk))) (.sq (.sq (.rg none [⟨some 5,none,.mv (.k (.int .i64 0)) none⟩]) (.bl 0 (.lp [0,1,5] [] (.sq (.sq (.rg none [⟨some 11,none,.mv (.t 5) none⟩,
     ⟨some 12,none,.mv (.t 0) none⟩,
     ⟨some 13,none,.ln (.t 12)⟩,
     ⟨some 14,none,.bi .lss 0 (.t 11) (.t 13)⟩]) (.cd (.t 14) (.sk) (.ex 0))) (.sq (.bl 1 (.sq (.rg (some 0) [⟨some 17,none,.mv (.t 0) none⟩,
      ⟨some 18,none,.mv (.t 5) none⟩,
      ⟨some 19,none,.ia 1 (.t 17) (.t 18)⟩,
      ⟨some 20,none,.ld none (.t 19)⟩,
      ⟨some 21,none,.mv (.t 1) none⟩,
      ⟨some 22,none,.mv (.t 5) none⟩,
      ⟨some 23,none,.ia 1 (.t 21) (.t 22)⟩,
      ⟨some 24,none,.ld none (.t 23)⟩,
      ⟨some 25,none,.bi .neq 0 (.t 20) (.t 24)⟩]) (.cd (.t 25) (.sq (.rg none [⟨some 4,none,.mv (.k (.bool false)) none⟩]) (.rt)) (.sk)))) (.rg none [⟨some 15,none,.mv (.t 5) none⟩,
    ⟨some 16,none,.bi .add 0 (.t 15) (.k (.int .i64 1))⟩,
    ⟨some 5,none,.mv (.t 16) none⟩])))))) (.sq (.rg none [⟨some 4,none,.mv (.k (.bool true)) none⟩]) (.rt))))) }
theorem Zmb{P:Program}{fid:FuncId}(hc:ZH P fid ZmB=true)(a b:List Int)(ha:a.length<=9223372036854775807)(lvl:Nat)(S:Sto):Sem P fid lvl [tI a,tI b] S (iB (decide (a=b))) S:=by
 refine Zb hc trivial ?_
 simp only[ZmB,List.length_map,EVA,seval,Zc,men]
 split
 ·rename_i h
  have:¬ a=b:=fun e=>h (by rw[e])
  simp [this]
 ·rename_i h
  have hlen:a.length=b.length:=by omega
  refine ZI (α:=Unit) a.length (fun j _=>⟨lvl,[(0,tI a),(1,tI b),(5,iI j)],[],S⟩) (fun j _=>a.take j=b.take j) () ⟨by simp only[EVA,seval,Zc,men],by (simp only[EVA,seval,Zc,men]) <;> rfl⟩ rfl ?_
  intro j _ hj hA
  simp only[List.length_map,EVA,seval,Zc,men]
  split
  ·rename_i hlt
   have hja:j<a.length:=by omega
   have hjb:j<b.length:=by omega
   have ga:(rI a)[j]? = some [tv a[j]]:=by simp [hja]
   have gb:(rI b)[j]? = some [tv b[j]]:=by simp [hjb]
   simp only[ga,gb,Int.natCast_nonneg,Nat.le_refl,EVA,seval,Zc,men]
   split
   ·rename_i hne
    have:¬ a=b:=X0 hja hjb (by simpa using hne)
    simp [this]
   ·rename_i he
    refine⟨by rw[Zd];omega,Ze () hja rfl (Qg hja hjb hA (by simpa using he))⟩
  ·rename_i hge
   have:j=a.length:=by omega
   subst this
   have:a=b:=Q1 hlen hA
   simp [this]
theorem Zmc{P:Program}{fid:FuncId}(hc:ZH P fid ZmB=true)(a b:List ByteArray)(ha:a.length<=9223372036854775807)(lvl:Nat)(S:Sto):Sem P fid lvl [tS a,tS b] S (iB (decide (a=b))) S:=by
 refine Zb hc trivial ?_
 simp only[ZmB,List.length_map,EVA,seval,Zc,men]
 split
 ·rename_i h
  have:¬ a=b:=fun e=>h (by rw[e])
  simp [this]
 ·rename_i h
  have hlen:a.length=b.length:=by omega
  refine ZI (α:=Unit) a.length (fun j _=>⟨lvl,[(0,tS a),(1,tS b),(5,iI j)],[],S⟩) (fun j _=>a.take j=b.take j) () ⟨by simp only[EVA,seval,Zc,men],by (simp only[EVA,seval,Zc,men]) <;> rfl⟩ rfl ?_
  intro j _ hj hA
  simp only[List.length_map,EVA,seval,Zc,men]
  split
  ·rename_i hlt
   have hja:j<a.length:=by omega
   have hjb:j<b.length:=by omega
   have ga:(rS a)[j]? = some [ts a[j]]:=by simp [hja]
   have gb:(rS b)[j]? = some [ts b[j]]:=by simp [hjb]
   simp only[ga,gb,Int.natCast_nonneg,Nat.le_refl,EVA,seval,Zc,men]
   split
   ·rename_i hne
    have:¬ a=b:=X0 hja hjb (by simpa using hne)
    simp [this]
   ·rename_i he
    refine⟨by rw[Zd];omega,Ze () hja rfl (Qg hja hjb hA (by simpa using he))⟩
  ·rename_i hge
   have:j=a.length:=by omega
   subst this
   have:a=b:=Q1 hlen hA
   simp [this]
def Jo{α:Type}(c:α->List Tr)(z:List Tr)(a:List α)(j:Nat):Row:=(a.take j).map c++List.replicate (a.length-j) z
theorem YU{α:Type}(c:α->List Tr)(z:List Tr)(a:List α):Jo c z a 0=List.replicate a.length z:=by simp [Jo]
theorem VT{α:Type}(c:α->List Tr)(z:List Tr)(a:List α):Jo c z a a.length=a.map c:=by simp [Jo]
theorem Vl{α:Type}{c:α->List Tr}{z:List Tr}{a:List α}{j:Nat}(h:j<=a.length):(Jo c z a j).length=a.length:=by
 simp [Jo];omega
theorem VU{α:Type}{c:α->List Tr}{z:List Tr}{a:List α}{j:Nat}(h:j<a.length):(Jo c z a j)[j]? = some z:=by
 unfold Jo
 have h1:((a.take j).map c).length=j:=by rw[List.length_map,List.length_take];omega
 rw[List.getElem?_append_right (by omega),h1,Nat.sub_self,List.getElem?_replicate]
 rw[if_pos (by omega)]
theorem VV{α:Type}{c:α->List Tr}{z e:List Tr}{a:List α}{j:Nat}(h:j<a.length)(he:e=c a[j]):(Jo c z a j).set j e=Jo c z a (j+1):=by
 subst he
 unfold Jo
 have h1:((a.take j).map c).length=j:=by simp;omega
 rw[List.set_append_right _ _ (by omega),h1,Nat.sub_self,show a.length-j=(a.length-(j+1))+1 from by omega,List.replicate_succ,List.set_cons_zero,List.take_succ_eq_append_getElem h,List.map_append]
 simp
def ZmC(z:Value):F2 :=
 { nt:=22,res:=[.t 2 [2]],body:=(.sq (.rg none [⟨some 2,none,.mv (.k (.slice none 0 0)) none⟩]) (.sq (.rg none [⟨some 5,none,.mv (.t 0) none⟩,
   ⟨some 6,none,.ln (.t 5)⟩,
   ⟨some 7,none,.ms 1 [z] (.t 6)⟩,
   ⟨some 3,none,.mv (.t 7) none⟩]) (.sq (.sq (.rg none [⟨some 4,none,.mv (.k (.int .i64 0)) none⟩]) (.bl 0 (.lp [0,3,4] [224] (.sq (.sq (.rg none [⟨some 8,none,.mv (.t 4) none⟩,
     ⟨some 9,none,.mv (.t 0) none⟩,
     ⟨some 10,none,.ln (.t 9)⟩,
     ⟨some 11,none,.bi .lss 0 (.t 8) (.t 10)⟩]) (.cd (.t 11) (.sk) (.ex 0))) (.sq (.bl 1 (.rg none [⟨some 14,none,.mv (.t 3) none⟩,
     ⟨some 15,none,.mv (.t 4) none⟩,
     ⟨some 16,none,.mv (.t 0) none⟩,
     ⟨some 17,none,.mv (.t 4) none⟩,
     ⟨some 18,none,.ia 1 (.t 16) (.t 17)⟩,
     ⟨some 19,none,.ld none (.t 18)⟩,
     ⟨some 20,none,.ia 1 (.t 14) (.t 15)⟩,
     ⟨none,none,.st 1 (.t 20) (.t 19)⟩])) (.rg none [⟨some 12,none,.mv (.t 4) none⟩,
    ⟨some 13,none,.bi .add 0 (.t 12) (.k (.int .i64 1))⟩,
    ⟨some 4,none,.mv (.t 13) none⟩])))))) (.sq (.rg none [⟨some 21,none,.mv (.t 3) none⟩,
   ⟨some 2,none,.mv (.t 21) none⟩]) (.rt))))) }
theorem Zmd{P:Program}{fid:FuncId}(hc:ZH P fid (ZmC (.int .i64 0))=true)(a:List Int)(ha:a.length<=4294967296)(lvl:Nat)(S:Sto):Sem P fid lvl [tI a] S (.ow 1 (rI a) true) S:=by
 refine Zb hc trivial ?_
 simp only[ZmC,List.length_map,bigN,Int.natCast_nonneg,EVA,seval,Zc,men]
 refine⟨by omega,?_⟩
 refine ZI (α:=Unit) a.length (fun j _=>⟨lvl,[(0,tI a),(3,.hd (lvl,224) [] 0 a.length none a.length),(4,iI j)],[(224,.ar 1 (Jo (fun n=>[tv n]) [tv 0] a j) true a.length 0)],S⟩) (fun _ _=>True) () ⟨by simp only[EVA,seval,Zc,men],by (simp only[YU,EVA,seval,Zc,men]) <;> rfl⟩ trivial ?_
 intro j _ hj _
 simp only[List.length_map,EVA,seval,Zc,men]
 split
 ·rename_i hlt
  have hja:j<a.length:=by omega
  have ga:(rI a)[j]? = some [tv a[j]]:=by simp [hja]
  have gz:(Jo (fun n=>[tv n]) [tv 0] a j)[j]? = some [tv 0]:=VU hja
  simp only[ga,gz,Int.natCast_nonneg,Nat.le_refl,hja,Y2,List.set_cons_zero,W4,EVA,seval,Zc,men]
  refine⟨by rw[Zd];omega,Ze () hja ?_ trivial⟩
  rw[VV hja rfl]
  rfl
 ·rename_i hge
  have:j=a.length:=by omega
  subst this
  rw[VT]
  simp
theorem Zme{P:Program}{fid:FuncId}(hc:ZH P fid (ZmC (.string ⟨#[]⟩))=true)(a:List ByteArray)(ha:a.length<=4294967296)(lvl:Nat)(S:Sto):Sem P fid lvl [tS a] S (.ow 1 (rS a) true) S:=by
 refine Zb hc trivial ?_
 simp only[ZmC,List.length_map,bigN,Int.natCast_nonneg,EVA,seval,Zc,men]
 refine⟨by omega,?_⟩
 refine ZI (α:=Unit) a.length (fun j _=>⟨lvl,[(0,tS a),(3,.hd (lvl,224) [] 0 a.length none a.length),(4,iI j)],[(224,.ar 1 (Jo (fun n=>[ts n]) [ts ⟨#[]⟩] a j) true a.length 0)],S⟩) (fun _ _=>True) () ⟨by simp only[EVA,seval,Zc,men],by (simp only[YU,EVA,seval,Zc,men]) <;> rfl⟩ trivial ?_
 intro j _ hj _
 simp only[List.length_map,EVA,seval,Zc,men]
 split
 ·rename_i hlt
  have hja:j<a.length:=by omega
  have ga:(rS a)[j]? = some [ts a[j]]:=by simp [hja]
  have gz:(Jo (fun n=>[ts n]) [ts ⟨#[]⟩] a j)[j]? = some [ts ⟨#[]⟩]:=VU hja
  simp only[ga,gz,Int.natCast_nonneg,Nat.le_refl,hja,Y2,List.set_cons_zero,W4,EVA,seval,Zc,men]
  refine⟨by rw[Zd];omega,Ze () hja ?_ trivial⟩
  rw[VV hja rfl]
  rfl
 ·rename_i hge
  have:j=a.length:=by omega
  subst this
  rw[VT]
  simp
end Go.Fd

/-
  THE LAWS' HELPERS AT SLICES WHOSE ELEMENTS ARE ONE CELL. Own work.
-/
namespace Go.Fd
set_option maxRecDepth 10000
theorem Zka{P:Program}{fid fe:FuncId}(hc:ZH P fid (ZkO 1 none fe)=true){α:Type}(t:α->Tr)(f:α->Int->Int)(a:List α)(left:Int)(h:a.length<=9223372036854775807)(h0:0<=left)(h1:left<=1048576)
  (hf:∀ x∈a,∀ l:Int,0<=l->l<=1048576->f x l<=l/\∀ lvl S,Sem P fe lvl [.tr (t x),iI l] S (iI (f x l)) S) (lvl:Nat) (S:Sto) :
  Sem P fid lvl [.tr (.sl (a.map fun x=>[t x])),iI left] S (iI (szL f a left)) S:=by
 refine Zb hc trivial ?_
 simp only[ZkO,List.length_map,EVA,seval,Zc,men]
 refine⟨by rw[Zd];omega,?_⟩
 unfold szL
 split
 ·rfl
 ·rename_i hlt
  generalize hr:szF f a (left-a.length)=total
  refine ZI (α:=Int) a.length (fun j l=>⟨lvl,[(0,.tr (.sl (a.map fun x=>[t x]))),(1,iI l),(5,iI j)],[],S⟩) (fun j l=>0<=l/\l<=1048576/\szF f (a.drop j) l=total) (left-a.length) ⟨by simp only[EVA,seval,Zc,men],by (simp only[EVA,seval,Zc,men]) <;> rfl⟩ ⟨by omega,by omega,hr⟩ ?_
  intro j l hj ⟨hl0,hl1,hl⟩
  simp only[List.length_map,EVA,seval,Zc,men]
  split
  ·rename_i hlt
   have hja:j<a.length:=by omega
   have ga:(a.map fun x=>[t x])[j]? = some [t a[j]]:=by simp [hja]
   rw[List.drop_eq_getElem_cons hja] at hl
   obtain⟨hle,hsem⟩:=hf a[j] (List.getElem_mem hja) l hl0 hl1
   simp only[ga,Int.natCast_nonneg,Nat.le_refl,EVA,seval,Zc,men]
   refine Za hsem ?_
   simp only[EVA,seval,Zc,men]
   split
   ·rename_i hneg
    simp only[szF,if_pos hneg] at hl
    rw[hl]
   ·rename_i hneg
    simp only[szF,if_neg hneg] at hl
    refine⟨by rw[Zd];omega,Ze (f a[j] l) hja rfl ⟨by omega,by omega,hl⟩⟩
  ·rename_i hge
   have:j=a.length:=by omega
   subst this
   simp only[List.drop_length,szF] at hl
   rw[hl]
theorem ZiE{P:Program}{fid fe:FuncId}(hc:ZH P fid (Zj9 1 none fe)=true){α:Type}[DecidableEq α](t:α->Tr)(a b:List α)(ha:a.length<=9223372036854775807)
  (hf:∀ x∈a,∀ y∈b,∀ lvl S,Sem P fe lvl [.tr (t x),.tr (t y)] S (iB (decide (x=y))) S) (lvl:Nat) (S:Sto) :
  Sem P fid lvl [.tr (.sl (a.map fun x=>[t x])),.tr (.sl (b.map fun x=>[t x]))] S (iB (decide (a=b))) S:=by
 refine Zb hc trivial ?_
 simp only[Zj9,List.length_map,EVA,seval,Zc,men]
 split
 ·rename_i h
  have:¬ a=b:=fun e=>h (by rw[e])
  simp [this]
 ·rename_i h
  have hlen:a.length=b.length:=by omega
  refine ZI (α:=Unit) a.length (fun j _=>⟨lvl,[(0,.tr (.sl (a.map fun x=>[t x]))),(1,.tr (.sl (b.map fun x=>[t x]))),(5,iI j)],[],S⟩) (fun j _=>a.take j=b.take j) () ⟨by simp only[EVA,seval,Zc,men],by (simp only[EVA,seval,Zc,men]) <;> rfl⟩ rfl ?_
  intro j _ hj hA
  simp only[List.length_map,EVA,seval,Zc,men]
  split
  ·rename_i hlt
   have hja:j<a.length:=by omega
   have hjb:j<b.length:=by omega
   have ga:(a.map fun x=>[t x])[j]? = some [t a[j]]:=by simp [hja]
   have gb:(b.map fun x=>[t x])[j]? = some [t b[j]]:=by simp [hjb]
   have hsem:=hf a[j] (List.getElem_mem hja) b[j] (List.getElem_mem hjb)
   simp only[ga,gb,Int.natCast_nonneg,Nat.le_refl,EVA,seval,Zc,men]
   refine Za hsem ?_
   simp only[Bool.not_eq_true',EVA,seval,Zc,men]
   split
   ·rename_i hne
    have:¬ a=b:=X0 hja hjb (by simpa using hne)
    simp [this]
   ·rename_i he
    refine⟨by rw[Zd];omega,Ze () hja rfl (Qg hja hjb hA (by simpa using he))⟩
  ·rename_i hge
   have:j=a.length:=by omega
   subst this
   have:a=b:=Q1 hlen hA
   simp [this]
end Go.Fd

/-
  FOUNDATION 49: rows at a path; functions that mark what they are handed. Own work.
-/
namespace Go.Fd
variable [Tabs]
theorem ZaG{S:Sto}{id:Oid}{a b:Ob}:ZT (ZT S id a) id b=ZT S id b:=by
 funext i
 unfold ZT
 split <;> rfl
theorem Zb2{S:Sto}{id:Oid}{a:Ob}(h:S id=some a):ZT S id a=S:=by
 funext i
 unfold ZT
 split
 ·rename_i e;rw[e,h]
 ·rfl
theorem Zdc{lvl:Nat}{loc:List (Nat×Ob)}{S:Sto}{id:Oid}{o:Ob}(h:id.1≠lvl):ZC lvl loc (ZT S id o)=ZT (ZC lvl loc S) id o:=by
 funext i
 by_cases e:i=id
 ·subst e
  rw[Qp h]
  unfold ZT
  rw[if_pos rfl,if_pos rfl]
 ·unfold ZT ZC
  simp only[if_neg e]
section mark
variable {α:Type} (m:α->Int->α) (n:α->Nat)
def mL:List α->Int->List α
 | [],_=>[]
 | x::r,k=>m x k::mL r (k+n x)
theorem ZX:∀(a:List α) (k:Int),(mL m n a k).length=a.length
 | [],_=>rfl
 | x::r,k=>by simp only[mL,List.length_cons,ZX r]
end mark
theorem ZiF{lvl key:Nat}{loc:List (Nat×Ob)}{out:Sto}{o:Ob}:ZC lvl (ptO key o loc) out=ZT (ZC lvl loc out) (lvl,key) o:=by
 funext i
 unfold ZC ZT
 by_cases h:i.1=lvl
 ·rw[if_pos h,ZbG]
  by_cases h2:i.2=key
  ·have:i=(lvl,key):=by obtain⟨a,b⟩:=i;simp only at h h2;rw[h,h2]
   rw[if_pos h2,if_pos this]
  ·have:¬ i=(lvl,key):=fun e=>h2 (by rw[e])
   rw[if_neg h2,if_neg this]
   exact(if_pos h).symm
 ·have:¬ i=(lvl,key):=fun e=>h (by rw[e])
  rw[if_neg h,if_neg this]
  exact(if_neg h).symm
end Go.Fd

/-
  HOW MANY MARKS A THING TAKES, AGAINST ITS SIZE. Own work.
-/
namespace Go.Fd
def QG(l:Int)(g:Int->Int):Int:=if l<0 then -1 else g l
end Go.Fd

/-
  THE DATA OF THE LAWS: plain types, how they lie in memory (printed by lawgen.py). Own work.
-/
namespace Go.Fd
set_option maxRecDepth 10000
def cA2(x:(Int×Int)):List Tr:=[tv x.1,tv x.2]
structure TSorting where
 tops:(List Int)
 nest:(List (List Int))
 sorts:(List (List Int))
 most:(List Int)
 apart:(List (Int×Int))
 deriving DecidableEq
def Zh(x:TSorting):List Tr:=[.sl (rI x.tops),.sl (x.nest.map (fun l=>[Tr.sl (rI l)])),.sl (x.sorts.map (fun l=>[Tr.sl (rI l)])),.sl (rI x.most),.sl (x.apart.map cA2)]
def Je(x:TSorting):IV:=.ag [.ow 1 (rI x.tops) true,.ow 1 (x.nest.map (fun l=>[Tr.sl (rI l)])) true,.ow 1 (x.sorts.map (fun l=>[Tr.sl (rI l)])) true,.ow 1 (rI x.most) true,.ow 2 (x.apart.map cA2) true]
def Jv(n:Nat)(x:TSorting):Prop:=x.tops.length<=n/\x.nest.length<=n/\(∀ y∈x.nest,y.length<=n)/\x.sorts.length<=n/\(∀ y∈x.sorts,y.length<=n)/\x.most.length<=n/\x.apart.length<=n
def ZiG(x:TSorting):Prop:=(∀ y∈x.tops,VJ .i64 y)/\(∀ y∈x.nest,(∀ yy∈y,VJ .i64 yy))/\(∀ y∈x.sorts,(∀ yy∈y,VJ .i64 yy))/\(∀ y∈x.most,VJ .i64 y)/\(∀ y∈x.apart,VJ .i64 y.1/\VJ .i64 y.2)
def Qh(x:TSorting)(l:Int):Int:=QG (szN x.tops.length l) fun l=>QG (szL (fun x m=>(szN x.length m)) x.nest l) fun l=>QG (szL (fun x m=>(szN x.length m)) x.sorts l) fun l=>QG (szN x.most.length l) fun l=>QG (szN x.apart.length l) fun l=>l
structure TNode where
 control:Int
 parent:Int
 links:(List Int)
 deriving DecidableEq
def ZE(x:TNode):List Tr:=[tv x.control,tv x.parent,.sl (rI x.links)]
theorem ZiH(x:TNode):(ZE x).length=3:=rfl
def Zkb(x:TNode):IV:=.ag [iI x.control,iI x.parent,.ow 1 (rI x.links) true]
def W5(n:Nat)(x:TNode):Prop:=x.links.length<=n
def ZiI(x:TNode):Prop:=VJ .i64 x.control/\VJ .i64 x.parent/\(∀ y∈x.links,VJ .i64 y)
def W6(x:TNode)(l:Int):Int:=QG (szN x.links.length l) fun l=>l
structure TWire where
 name:ByteArray
 link:Int
 deriving DecidableEq
def JA(x:TWire):List Tr:=[ts x.name,tv x.link]
theorem ZiJ(x:TWire):(JA x).length=2:=rfl
def Zkc(x:TWire):IV:=.ag [iS x.name,iI x.link]
def WA(n:Nat)(x:TWire):Prop:=x.name.size<=n
def ZiK(x:TWire):Prop:=VJ .i64 x.link
def W7(x:TWire)(l:Int):Int:=QG (l-x.name.size) fun l=>l
structure TBigraph where
 roots:Int
 nodes:(List TNode)
 sites:(List Int)
 edges:Int
 outer:(List ByteArray)
 inner:(List TWire)
 deriving DecidableEq
def Zg(x:TBigraph):List Tr:=[tv x.roots,.sl (x.nodes.map ZE),.sl (rI x.sites),tv x.edges,.sl (rS x.outer),.sl (x.inner.map JA)]
def Z3(x:TBigraph):IV:=.ag [iI x.roots,.ow 3 (x.nodes.map ZE) true,.ow 1 (rI x.sites) true,iI x.edges,.ow 1 (rS x.outer) true,.ow 2 (x.inner.map JA) true]
def JD(n:Nat)(x:TBigraph):Prop:=x.nodes.length<=n/\(∀ y∈x.nodes,W5 n y)/\x.sites.length<=n/\x.outer.length<=n/\(∀ y∈x.outer,y.size<=n)/\x.inner.length<=n/\(∀ y∈x.inner,WA n y)
def W8(x:TBigraph):Prop:=VJ .i64 x.roots/\(∀ y∈x.nodes,ZiI y)/\(∀ y∈x.sites,VJ .i64 y)/\VJ .i64 x.edges/\(∀ y∈x.inner,ZiK y)
def YC(x:TBigraph)(l:Int):Int:=QG (szL W6 x.nodes l) fun l=>QG (szN x.sites.length l) fun l=>QG (szL (fun x m=>m-x.size) x.outer l) fun l=>QG (szL W7 x.inner l) fun l=>l
structure TRule where
 redex:TBigraph
 reactum:TBigraph
 copies:(List Int)
 deriving DecidableEq
def ZO(x:TRule):List Tr:=[tv x.redex.roots,.sl (x.redex.nodes.map ZE),.sl (rI x.redex.sites),tv x.redex.edges,.sl (rS x.redex.outer),.sl (x.redex.inner.map JA),tv x.reactum.roots,.sl (x.reactum.nodes.map ZE),.sl (rI x.reactum.sites),tv x.reactum.edges,.sl (rS x.reactum.outer),.sl (x.reactum.inner.map JA),.sl (rI x.copies)]
def X1(x:TRule):IV:=.ag [iI x.redex.roots,.ow 3 (x.redex.nodes.map ZE) true,.ow 1 (rI x.redex.sites) true,iI x.redex.edges,.ow 1 (rS x.redex.outer) true,.ow 2 (x.redex.inner.map JA) true,iI x.reactum.roots,.ow 3 (x.reactum.nodes.map ZE) true,.ow 1 (rI x.reactum.sites) true,iI x.reactum.edges,.ow 1 (rS x.reactum.outer) true,.ow 2 (x.reactum.inner.map JA) true,.ow 1 (rI x.copies) true]
def WB(n:Nat)(x:TRule):Prop:=JD n x.redex/\JD n x.reactum/\x.copies.length<=n
def Zdd(x:TRule):Prop:=W8 x.redex/\W8 x.reactum/\(∀ y∈x.copies,VJ .i64 y)
def Zde(x:TRule)(l:Int):Int:=QG (YC x.redex l) fun l=>QG (YC x.reactum l) fun l=>QG (szN x.copies.length l) fun l=>l
structure TControl where
 name:ByteArray
 ports:Int
 kind_:Int
 deriving DecidableEq
def Zi(x:TControl):List Tr:=[ts x.name,tv x.ports,tv x.kind_]
theorem ZaW(x:TControl):(Zi x).length=3:=rfl
def Zbw(x:TControl):IV:=.ag [iS x.name,iI x.ports,iI x.kind_]
def ZF(n:Nat)(x:TControl):Prop:=x.name.size<=n
def Zfg(x:TControl):Prop:=VJ .i64 x.ports/\VJ .i64 x.kind_
def Jw(x:TControl)(l:Int):Int:=QG (l-x.name.size) fun l=>l
structure TFault where
 kind_:Int
 at_:Int
 with_:Int
def DH(x:TFault):List Tr:=[tv x.kind_,tv x.at_,tv x.with_]
end Go.Fd

/-
  The numbers of the functions of this program, by name (printed by ids.py).
-/
namespace Go.Fd
abbrev J0:FuncId:=3
abbrev YV:FuncId:=4
abbrev Vm:FuncId:=5
abbrev Q3:FuncId:=6
abbrev J9:FuncId:=7
abbrev Jk:FuncId:=8
abbrev Jx:FuncId:=9
abbrev Ya:FuncId:=10
abbrev Yb:FuncId:=11
abbrev YW:FuncId:=12
abbrev Vn:FuncId:=13
abbrev Q4:FuncId:=14
abbrev Vo:FuncId:=15
abbrev Ja:FuncId:=16
abbrev YK:FuncId:=17
abbrev VW:FuncId:=18
abbrev J1:FuncId:=19
abbrev Q5:FuncId:=20
abbrev Q6:FuncId:=21
abbrev Q7:FuncId:=22
abbrev VX:FuncId:=23
abbrev Qq:FuncId:=24
abbrev Vp:FuncId:=25
abbrev Jb:FuncId:=26
abbrev YL:FuncId:=27
abbrev VY:FuncId:=28
abbrev J2:FuncId:=29
abbrev Vq:FuncId:=30
abbrev Q8:FuncId:=31
abbrev Q9:FuncId:=32
abbrev Yq:FuncId:=33
abbrev YX:FuncId:=34
abbrev Vr:FuncId:=35
abbrev Jc:FuncId:=36
abbrev YM:FuncId:=37
abbrev VZ:FuncId:=38
abbrev J3:FuncId:=39
abbrev Qr:FuncId:=40
abbrev Vs:FuncId:=41
abbrev Qs:FuncId:=42
abbrev Qc:FuncId:=43
abbrev JP:FuncId:=44
abbrev Xa:FuncId:=45
abbrev ZA:FuncId:=46
abbrev Qt:FuncId:=47
abbrev V0:FuncId:=48
abbrev Qu:FuncId:=49
abbrev Vt:FuncId:=50
abbrev Yr:FuncId:=51
abbrev V1:FuncId:=52
abbrev YD:FuncId:=53
abbrev Vu:FuncId:=54
abbrev JQ:FuncId:=55
abbrev Jy:FuncId:=56
abbrev V2:FuncId:=57
abbrev Vv:FuncId:=58
abbrev Qv:FuncId:=59
abbrev Qw:FuncId:=60
abbrev Vw:FuncId:=61
abbrev Qx:FuncId:=62
abbrev JC:FuncId:=63
abbrev Yk:FuncId:=64
abbrev Zt:FuncId:=65
abbrev Zp:FuncId:=66
abbrev Ys:FuncId:=67
abbrev V3:FuncId:=68
abbrev Yt:FuncId:=69
abbrev Xb:FuncId:=70
abbrev Qy:FuncId:=71
abbrev JL:FuncId:=72
abbrev V4:FuncId:=73
abbrev JE:FuncId:=74
abbrev JR:FuncId:=75
abbrev Jq:FuncId:=76
abbrev ZJ:FuncId:=77
abbrev JY:FuncId:=78
abbrev ZK:FuncId:=79
abbrev ZY:FuncId:=80
abbrev Xc:FuncId:=81
abbrev Jl:FuncId:=82
abbrev ZZ:FuncId:=83
abbrev Qz:FuncId:=84
abbrev QA:FuncId:=85
abbrev Vx:FuncId:=86
abbrev QB:FuncId:=87
abbrev Xd:FuncId:=88
abbrev Xe:FuncId:=89
abbrev Vy:FuncId:=90
abbrev V5:FuncId:=91
abbrev QC:FuncId:=92
abbrev YN:FuncId:=93
abbrev QD:FuncId:=94
abbrev Xf:FuncId:=95
abbrev YO:FuncId:=96
abbrev Vz:FuncId:=97
abbrev VA:FuncId:=98
abbrev XK:FuncId:=99
abbrev YP:FuncId:=100
abbrev Xg:FuncId:=101
abbrev Xh:FuncId:=102
abbrev VB:FuncId:=103
abbrev ZQ:FuncId:=104
abbrev Jn:FuncId:=105
abbrev J4:FuncId:=106
abbrev Yc:FuncId:=107
abbrev J5:FuncId:=108
abbrev JS:FuncId:=109
abbrev ZG:FuncId:=110
abbrev V6:FuncId:=111
abbrev JF:FuncId:=112
abbrev V7:FuncId:=113
abbrev Z8:FuncId:=114
abbrev Xi:FuncId:=115
abbrev Xj:FuncId:=116
abbrev YQ:FuncId:=117
abbrev Xk:FuncId:=118
abbrev WC:FuncId:=119
abbrev ZV:FuncId:=120
abbrev Jr:FuncId:=121
abbrev Yl:FuncId:=122
abbrev Jm:FuncId:=123
abbrev Z9:FuncId:=124
abbrev Yu:FuncId:=125
abbrev Jg:FuncId:=126
abbrev Yv:FuncId:=127
abbrev Z2:FuncId:=128
abbrev Yw:FuncId:=129
abbrev ZW:FuncId:=130
abbrev Qi:FuncId:=131
abbrev YY:FuncId:=132
abbrev VC:FuncId:=133
abbrev Vb:FuncId:=134
abbrev JU:FuncId:=135
abbrev YR:FuncId:=136
abbrev YE:FuncId:=137
abbrev V8:FuncId:=138
abbrev Dc:FuncId:=139
abbrev YZ:FuncId:=140
abbrev Xl:FuncId:=141
abbrev Y0:FuncId:=149
abbrev Z6:FuncId:=150
abbrev Jh:FuncId:=156
abbrev qM(d a:Nat):OP:=om d (.t a)
abbrev qL(d a:Nat):OP:=oo d (.ld none (.t a))
abbrev qF(d o a:Nat):OP:=oo d (.fa o (.t a))
abbrev qN(d a:Nat):OP:=oo d (.ln (.t a))
abbrev qS(d k a:Nat):OP:=oo d (.ld (some k) (.t a))
abbrev qE(d i a:Nat):OP:=oo d (.ex i (.t a))
abbrev qI(d k a b:Nat):OP:=oo d (.ia k (.t a) (.t b))
abbrev qB(d:Nat)(o:BinOp)(a b:Nat):OP:=oo d (.bi o 0 (.t a) (.t b))
end Go.Fd
