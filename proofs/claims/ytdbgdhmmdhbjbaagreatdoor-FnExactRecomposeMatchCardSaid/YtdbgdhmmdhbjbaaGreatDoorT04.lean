/-
  FOUNDATION 46: more rules: stores, append. Own work.
-/
import Derived.Test.YtdbgdhmmdhbjbaaGreatDoorT03
import Derived.ChangeArms
import Derived.OpenShut
import Derived.Carry
import Derived.ChangeMaps5
import Derived.ChangeShapes
import Derived.Test.YtdbgdhmmdhbjbaaGreatDoorProg
set_option linter.all false
namespace Go.Fd
section
variable {C:Zn} {lvl:Nat} {env:List (Nat×IV)} {loc:List (Nat×Ob)} {out:Sto} {d:Option Nat} {K:St->Prop} {st:St}
def st2(v:Option (List IV))(m:Nat)(p:IV)(d:Option Nat)(st:St)(K:St->Prop):Prop :=
 match v with
 | some l=>d=none/\l.length=m /\
  match p with
  | .ab id off =>
   match st.sto id with
   | some (.bx cells)=>off+l.length<=cells.length/\Uv (id.1+1) l/\K (Zs st id (.bx (X2 cells off l)))
   | _=>False
  | .ae id p i f s=>ZfF id p i s f l st K
  | _=>False
 | none=>False
theorem Zzx{m:Nat}{p x:X}:op2 C d (.st m p x) ⟨lvl,env,loc,out⟩ K=st2 (cellsOf (xv env x)) m (xv env p) d ⟨lvl,env,loc,out⟩ K:=by
 rw[Jc rfl]
 simp only[ew]
 generalize cellsOf (xv env x)=v
 cases v with
 | none=>simp [st2]
 | some l=>rfl
def stb(o:Option Ob)(id:Oid)(off:Nat)(l:List IV)(st:St)(K:St->Prop):Prop :=
 match o with
 | some (.bx cells)=>off+l.length<=cells.length/\Uv (id.1+1) l/\K (Zs st id (.bx (X2 cells off l)))
 | _=>False
theorem Zw3{m:Nat}{l:List IV}{id:Oid}{off:Nat}:st2 (some l) m (.ab id off) d ⟨lvl,env,loc,out⟩ K=(d=none/\l.length=m/\stb (ZG lvl loc out id) id off l ⟨lvl,env,loc,out⟩ K):=(rfl)
theorem Zw4{m:Nat}{l:List IV}{id:Oid}{p:Pth}{i f s:Nat}:st2 (some l) m (.ae id p i f s) d st K=(d=none/\l.length=m/\ZfF id p i s f l st K):=(rfl)
theorem Zw5{cells l:List IV}{id:Oid}{off:Nat}:stb (some (.bx cells)) id off l st K=(off+l.length<=cells.length/\Uv (id.1+1) l/\K (Zs st id (.bx (X2 cells off l)))):=(rfl)
theorem VX{cs:List IV}{off:Nat}:X2 cs off []=cs:=(rfl)
theorem VY{cs:List IV}{off:Nat}{x:IV}{r:List IV}:X2 cs off (x::r)=X2 (cs.set off x) (off+1) r:=(rfl)
theorem ZpL{l:Nat}:Uv l []=True:=(rfl)
theorem ZpM{l:Nat}{x:IV}{r:List IV}:Uv l (x::r)=(low l x/\Uv l r):=(rfl)
theorem Zsk{l:Nat}{t:Tr}:low l (.tr t)=True:=(rfl)
theorem Zsl{l:Nat}{es:Row}:low l (.cs es)=True:=(rfl)
theorem Zsm{l k:Nat}{p:Pth}{off len s:Nat}{cap:Option Nat}:low (l+1) (.hd (l,k) p off len cap s)=True:=by
 apply propext;simp [low,men]
theorem Zsn{l k off:Nat}:low (l+1) (.ab (l,k) off)=True:=by
 apply propext;simp [low,men]
theorem Zso{l:Nat}{c:List IV}:low l (.ag c)=Uv l c:=by simp only[low,Uv,men]
theorem Zsp{l:Nat}{c:List IV}:low l (.tu c)=Uv l c:=by simp only[low,Uv,men]
theorem Zsq{l k:Nat}{es:Row}{u:Bool}:low l (.ow k es u)=True:=(rfl)
theorem Zsr{l:Nat}:low l .un=True:=(rfl)
theorem Zss{l:Nat}:low l .er=True:=(rfl)
theorem ZpN{l:Nat}{c:List Tr}:low l (.ta c)=True:=(rfl)
def kst(id:Oid)(p:Pth)(i s f:Nat)(r:List IV)(K:St->Prop)(st':St):Prop:=ZfF id p i s f r st' K
theorem Zw6{id:Oid}{p:Pth}{i s f:Nat}{r:List IV}:kst id p i s f r K st=ZfF id p i s f r st K:=(rfl)
theorem ZpO{id:Oid}{p:Pth}{i s f:Nat}:ZfF id p i s f [] st K=K st:=(rfl)
def sc1(o:Option Ob)(id:Oid)(p:Pth)(i f s:Nat)(x:IV)(st:St)(K:St->Prop):Prop :=
 match o with
 | some (.ar k es u hw ver)=>QV p s hw ver u/\op3 (getp es p) fun es' => op3 es'[i]? fun e=>op3 e[f]? fun t0 =>
  match x with
  | .tr (.v y)=>isSc t0=true/\K (Zs st id (.ar k (Y7 es p i f (.v y)) u hw ver))
  | .cs []=>p=[]/\K (Zs st id (.ar k (Y7 es [] i f (.sl [])) u hw (ver+1)))
  | .cs zs=>p=[]/\K (Zs st id (.ar k (Y7 es [] i f (.sl zs)) false hw (ver+1)))
  | .tr (.sl zs)=>p=[]/\K (Zs st id (.ar k (Y7 es [] i f (.sl zs)) false hw (ver+1)))
  | .hd id2 [] 0 len none s2=>p=[]/\id2≠id/\id2.1=st.lvl /\
   match st.sto id2 with
   | some (.ar _ zs u2 hw2 _)=>s2=hw2/\len=zs.length/\K (Zs (Yw id2 st) id (.ar k (Y7 es [] i f (.sl zs)) (u&&u2) hw (ver+1)))
   | _=>False
  | _=>False
 | _=>False
theorem ZpP{id:Oid}{p:Pth}{i s f:Nat}{x:IV}{r:List IV}:ZfF id p i s f (x::r) ⟨lvl,env,loc,out⟩ K=sc1 (ZG lvl loc out id) id p i f s x ⟨lvl,env,loc,out⟩ (kst id p i s (f+1) r K):=by
 simp only[ZfF,stc,sc1]
 rw[show (⟨lvl,env,loc,out⟩:St).sto id=ZG lvl loc out id from rfl]
 generalize ZG lvl loc out id=o
 cases o with
 | none=>rfl
 | some ob =>
  cases ob with
  | bx=>rfl
  | ar k es u hw ver =>
   dsimp only
   rw[<-Qr]
   apply propext
   constructor
   ·rintro⟨es',h1,h2,e,h3,t0,h4,h5⟩
    refine⟨h2,es',h1,?_⟩
    rw[h3]
    simp only[op3]
    rw[h4]
    exact h5
   ·rintro⟨h2,es',h1,h3⟩
    rw[<-Qr] at h3
    obtain⟨e,h3,h4⟩:=h3
    rw[<-Qr] at h4
    obtain⟨t0,h4,h5⟩:=h4
    exact⟨es',h1,h2,e,h3,t0,h4,h5⟩
def sc2(k:Nat)(es:Row)(u:Bool)(hw ver:Nat)(id:Oid)(p:Pth)(i f:Nat)(x:IV)(st:St)(K:St->Prop)(t0:Tr):Prop :=
  match x with
  | .tr (.v y)=>isSc t0=true/\K (Zs st id (.ar k (Y7 es p i f (.v y)) u hw ver))
  | .cs []=>p=[]/\K (Zs st id (.ar k (Y7 es [] i f (.sl [])) u hw (ver+1)))
  | .cs zs=>p=[]/\K (Zs st id (.ar k (Y7 es [] i f (.sl zs)) false hw (ver+1)))
  | .tr (.sl zs)=>p=[]/\K (Zs st id (.ar k (Y7 es [] i f (.sl zs)) false hw (ver+1)))
  | .hd id2 [] 0 len none s2=>p=[]/\id2≠id/\id2.1=st.lvl /\
   match st.sto id2 with
   | some (.ar _ zs u2 hw2 _)=>s2=hw2/\len=zs.length/\K (Zs (Yw id2 st) id (.ar k (Y7 es [] i f (.sl zs)) (u&&u2) hw (ver+1)))
   | _=>False
  | _=>False
def sc3(k:Nat)(es:Row)(u:Bool)(hw ver:Nat)(id:Oid)(p:Pth)(i f:Nat)(x:IV)(st:St)(K:St->Prop)(e:List Tr):Prop:=op3 e[f]? (sc2 k es u hw ver id p i f x st K)
def sc4(k:Nat)(es:Row)(u:Bool)(hw ver:Nat)(id:Oid)(p:Pth)(i f:Nat)(x:IV)(st:St)(K:St->Prop)(es':Row):Prop:=op3 es'[i]? (sc3 k es u hw ver id p i f x st K)
section sc
variable {k:Nat} {es:Row} {u:Bool} {hw ver:Nat} {id:Oid} {p:Pth} {i f s:Nat} {x:IV}
theorem Zw7:sc1 (some (.ar k es u hw ver)) id p i f s x st K=(QV p s hw ver u/\op3 (getp es p) (sc4 k es u hw ver id p i f x st K)):=(rfl)
theorem Zw8{e:List Tr}:sc3 k es u hw ver id p i f x st K e=op3 e[f]? (sc2 k es u hw ver id p i f x st K):=(rfl)
theorem Zw9{es':Row}:sc4 k es u hw ver id p i f x st K es'=op3 es'[i]? (sc3 k es u hw ver id p i f x st K):=(rfl)
theorem Zxa{y:Value}{t0:Tr}:sc2 k es u hw ver id p i f (.tr (.v y)) st K t0=(isSc t0=true/\K (Zs st id (.ar k (Y7 es p i f (.v y)) u hw ver))):=(rfl)
theorem Zst{t0:Tr}:sc2 k es u hw ver id p i f (.cs []) st K t0=(p=[]/\K (Zs st id (.ar k (Y7 es [] i f (.sl [])) u hw (ver+1)))):=(rfl)
theorem Zsu{zs:Row}{t0:Tr}:sc2 k es u hw ver id p i f (.tr (.sl zs)) st K t0=(p=[]/\K (Zs st id (.ar k (Y7 es [] i f (.sl zs)) false hw (ver+1)))):=(rfl)
def sc5(o:Option Ob)(k:Nat)(es:Row)(u:Bool)(hw ver:Nat)(id:Oid)(i f len s2:Nat)(st2 st:St)(K:St->Prop):Prop :=
 match o with
 | some (.ar _ zs u2 hw2 _)=>s2=hw2/\len=zs.length/\K (Zs st2 id (.ar k (Y7 es [] i f (.sl zs)) (u&&u2) hw (ver+1)))
 | _=>False
theorem Zsv{key len s2:Nat}{t0:Tr}:sc2 k es u hw ver id p i f (.hd (lvl,key) [] 0 len none s2) ⟨lvl,env,loc,out⟩ K t0=(p=[]/\(lvl,key)≠id/\sc5 (lkO key loc) k es u hw ver id i f len s2 (Yw (lvl,key) ⟨lvl,env,loc,out⟩) ⟨lvl,env,loc,out⟩ K):=by
 simp only[sc2]
 rw[show (⟨lvl,env,loc,out⟩:St).sto (lvl,key)=lkO key loc from Yc]
 generalize lkO key loc=o
 apply propext
 constructor
 ·rintro⟨h1,h2,_,h3⟩
  refine⟨h1,h2,?_⟩
  cases o with
  | none=>exact h3
  | some ob=>cases ob <;> exact h3
 ·rintro⟨h1,h2,h3⟩
  refine⟨h1,h2,trivial,?_⟩
  cases o with
  | none=>exact h3
  | some ob=>cases ob <;> exact h3
theorem Zxb{k2:Nat}{zs:Row}{u2:Bool}{hw2 ver2 len s2:Nat}{st2:St}:sc5 (some (.ar k2 zs u2 hw2 ver2)) k es u hw ver id i f len s2 st2 st K=(s2=hw2/\len=zs.length/\K (Zs st2 id (.ar k (Y7 es [] i f (.sl zs)) (u&&u2) hw (ver+1)))):=(rfl)
end sc
theorem Zzy{k n:Nat}{z:List Value}{ps:List (Nat×X)}:op2 C d (.bw k n z ps) ⟨lvl,env,loc,out⟩ K=ew C d ⟨lvl,env,loc,out⟩ K (.bw k n z ps):=Jc rfl
def kbw(k lvl:Nat)(d:Option Nat)(K:St->Prop)(ts:List Tr)(u:Bool)(st':St):Prop :=
 K { Zs st' (lvl,keyOf d) (.ar k [ts] u 1 0) with env:=ptd d (.hd (lvl,keyOf d) [] 0 1 none 1) st'.env }
theorem Zxc{k:Nat}{ts:List Tr}{u:Bool}:kbw k lvl d K ts u ⟨lvl,env,loc,out⟩=K ⟨lvl,ptd d (.hd (lvl,keyOf d) [] 0 1 none 1) env,ptO (keyOf d) (.ar k [ts] u 1 0) loc,out⟩:=by
 simp only[kbw,Dx]
def bw2(v:Option (List IV))(k n:Nat)(d:Option Nat)(loc:List (Nat×Ob))(lvl:Nat)(st:St)(K:St->Prop):Prop :=
 match v with
 | some l=>n=1/\l.length=k/\freshK (keyOf d) loc 1/\Zij l st (kbw k lvl d K)
 | none=>False
theorem Zxd{k n:Nat}{z:List Value}{x:X}:ew C d ⟨lvl,env,loc,out⟩ K (.bw k n z [(0,x)])=bw2 (cellsOf (xv env x)) k n d loc lvl ⟨lvl,env,loc,out⟩ K:=by
 simp only[ew]
 generalize cellsOf (xv env x)=v
 cases v with
 | none=>simp [bw2]
 | some l=>rfl
theorem Zxe{k n:Nat}{l:List IV}:bw2 (some l) k n d loc lvl st K=(n=1/\l.length=k/\freshK (keyOf d) loc 1/\Zij l st (kbw k lvl d K)):=(rfl)
def kmv(r:List IV)(F:List Tr->Bool->St->Prop)(t:Tr)(a:Bool)(st':St):Prop:=Zij r st' fun ts b st'' => F (t::ts) (a&&b) st''
def kmc(t:Tr)(a:Bool)(F:List Tr->Bool->St->Prop)(ts:List Tr)(b:Bool)(st'':St):Prop:=F (t::ts) (a&&b) st''
section mv
variable {r:List IV} {F:List Tr->Bool->St->Prop} {F1:Tr->Bool->St->Prop}
theorem Zxf{t:Tr}{a:Bool}:kmv r F t a st=Zij r st (kmc t a F):=(rfl)
theorem Zxg{t:Tr}{a:Bool}{ts:List Tr}{b:Bool}:kmc t a F ts b st=F (t::ts) (a&&b) st:=(rfl)
theorem ZpQ:Zij [] st F=F [] true st:=(rfl)
theorem ZpR{x:IV}:Zij (x::r) st F=mvc st x (kmv r F):=(rfl)
theorem Zsw{y:Value}:mvc st (.tr (.v y)) F1=F1 (.v y) true st:=(rfl)
theorem Zsx{es:Row}:mvc st (.tr (.sl es)) F1=F1 (.sl es) false st:=(rfl)
theorem Zsy:mvc st (.cs []) F1=F1 (.sl []) true st:=(rfl)
def mv5(o:Option Ob)(len s2:Nat)(st1:St)(F1:Tr->Bool->St->Prop):Prop :=
 match o with
 | some (.ar _ zs u2 hw2 _)=>s2=hw2/\len=zs.length/\F1 (.sl zs) u2 st1
 | _=>False
theorem Zsz{key len s2:Nat}:mvc ⟨lvl,env,loc,out⟩ (.hd (lvl,key) [] 0 len none s2) F1=mv5 (lkO key loc) len s2 (Yw (lvl,key) ⟨lvl,env,loc,out⟩) F1:=by
 simp only[mvc]
 rw[show (⟨lvl,env,loc,out⟩:St).sto (lvl,key)=lkO key loc from Yc]
 generalize lkO key loc=o
 apply propext
 constructor
 ·rintro⟨_,h3⟩
  cases o with
  | none=>exact h3
  | some ob=>cases ob <;> exact h3
 ·intro h3
  refine⟨trivial,?_⟩
  cases o with
  | none=>exact h3
  | some ob=>cases ob <;> exact h3
theorem Zxh{k2:Nat}{zs:Row}{u2:Bool}{hw2 ver2 len s2:Nat}:mv5 (some (.ar k2 zs u2 hw2 ver2)) len s2 st F1=(s2=hw2/\len=zs.length/\F1 (.sl zs) u2 st):=(rfl)
end mv
def ZsA:IV->Prop
 | .hd _ [] 0 _ none _=>True
 | _=>False
theorem ZsB{id:Oid}{len s:Nat}:ZsA (.hd id [] 0 len none s)=True:=(rfl)
def Zoz:List IV->Prop
 | []=>True
 | .tr (.v _)::r=>Zoz r
 | _=>False
theorem ZpS:Zoz []=True:=(rfl)
theorem ZpT{y:Value}{r:List IV}:Zoz (.tr (.v y)::r)=Zoz r:=(rfl)
def smp(p:IV)(l:Option (List IV)):Prop :=
 match p with
 | .ab .. => True
 | .ae .. => l≠some []/\Zoz (l.getD [])
 | _=>False
theorem ZsC{id:Oid}{off:Nat}{l:Option (List IV)}:smp (.ab id off) l=True:=(rfl)
theorem ZsD{id:Oid}{p:Pth}{i f s:Nat}{x:IV}{r:List IV}:smp (.ae id p i f s) (some (x::r))=Zoz (x::r):=by simp [smp]
theorem ZjN{id:Oid}{p:Pth}{i s k:Nat}{u:Bool}{hw ver:Nat}:∀(l:List IV) (f:Nat) (es:Row) (st0:St) (K:St->Prop),Zoz l->st0.sto id=some (.ar k es u hw ver)->ZfF id p i s f l st0 K->stq p i f l es (fun es' => K (Zs st0 id (.ar k es' u hw ver)))\/l=[]
 | [],f,es,st0,K,_,_,h=>.inr rfl
 | x::r,f,es,st0,K,ha,hs,h=>by
  refine .inl ?_
  simp only[ZfF,stc] at h
  rw[hs] at h
  obtain⟨es',hg,hst,e,hi,t0,hf,h⟩:=h
  cases x with
  | tr t =>
   cases t with
   | v y =>
    obtain⟨hsc,h⟩:=h
    simp only[stq]
    refine⟨es',hg,e,hi,t0,hf,hsc,?_⟩
    have hs1:(Zs st0 id (.ar k (Y7 es p i f (.v y)) u hw ver)).sto id=some (.ar k (Y7 es p i f (.v y)) u hw ver):=by rw[Z8];unfold ZM;rw[if_pos rfl]
    rcases ZjN r (f+1) _ _ K ha hs1 h with g | g
    ·simp only[UH] at g
     exact g
    ·subst g
     exact h
   | sl=>cases ha
  | _=>cases ha
theorem Zzz{m:Nat}{p x:X}:op2 C d (.s0 m p x) ⟨lvl,env,loc,out⟩ K=(smp (xv env p) (cellsOf (xv env x))/\op2 C d (.st m p x) ⟨lvl,env,loc,out⟩ K):=by
 rw[Jc rfl,Jc rfl]
 simp only[ew,Zaj]
 generalize cellsOf (xv env x)=v
 generalize xv env p=q
 apply propext
 constructor
 ·rintro⟨h0,h⟩
  split at h <;> try contradiction
  rename_i l
  obtain⟨h1,h⟩:=h
  split at h <;> try contradiction
  ·exact⟨trivial,h0,h1,h⟩
  ·rename_i id p i f s
   split at h <;> try contradiction
   rename_i k es u hw ver hs
   obtain⟨g1,g2,g3⟩:=h
   refine⟨⟨by simpa using g1,?_⟩,h0,h1,ZfS g2 l f es _ K hs g3 (fun e=>absurd e g1)⟩
   have:∀(l:List IV) (f:Nat) (es:Row) (K:Row->Prop),stq p i f l es K->Zoz l:=by
    intro l
    induction l with
    | nil=>intros;trivial
    | cons x r ih =>
     intro f es K h
     simp only[stq] at h
     obtain⟨_,_,_,_,_,_,_,h⟩:=h
     split at h <;> try contradiction
     exact ih _ _ _ h
   exact this _ _ _ _ g3
 ·rintro⟨h3,h0,h⟩
  refine⟨h0,?_⟩
  split at h <;> try contradiction
  rename_i l
  obtain⟨h1,h⟩:=h
  refine⟨h1,?_⟩
  split at h <;> try contradiction
  ·exact h
  ·rename_i id p i f s
   obtain⟨g1,g2⟩:=h3
   cases l with
   | nil=>exact absurd rfl g1
   | cons y r =>
    have h':=h
    simp only[ZfF,stc] at h'
    split at h' <;> try contradiction
    rename_i k es u hw ver hs
    refine⟨by simp,h'.choose_spec.2.1,?_⟩
    rcases ZjN _ _ _ _ K g2 hs h with g | g
    ·exact g
    ·cases g
theorem ZzA{k:Nat}{x y:X}:op2 C d (.a0 k x y) ⟨lvl,env,loc,out⟩ K=(ZsA (xv env x)/\op2 C d (.ap k 0 x y) ⟨lvl,env,loc,out⟩ K):=by
 rw[Jc rfl,Jc rfl]
 apply propext
 constructor
 ·intro he
  refine⟨?_,Zjz he⟩
  simp only[ew,Zaj] at he
  split at he <;> try contradiction
  rename_i hx
  rw[hx];trivial
 ·rintro⟨h1,h⟩
  generalize hq:xv env x=q at h1
  unfold ZsA at h1
  split at h1 <;> try contradiction
  rename_i id len s
  have go:∀ items:Row,ScR items->UX d k x loc items true ⟨lvl,env,loc,out⟩ K->match ZG lvl loc out id with
   | some (.ar k' es u hw ver)=>k'=k/\s=hw/\len=es.length/\ScR items/\UnR k items/\len+items.length<=bigN /\
     K { Zs ⟨lvl,env,loc,out⟩ id (.ar k (es++items) u (max hw (len+items.length)) ver) with env:=ptd d (.hd id [] 0 (len+items.length) none (max hw (len+items.length))) env }
   | _=>False:=fun items hsc h=>by
   unfold UX at h
   obtain⟨g1,h⟩:=h
   simp only[hq] at h
   rw[show (⟨lvl,env,loc,out⟩:St).sto id=ZG lvl loc out id from rfl] at h
   generalize ZG lvl loc out id=o at h ⊢
   cases o with
   | none=>exact h
   | some ob =>
    cases ob with
    | bx=>exact h
    | ar k' es u hw ver =>
     simp only[Bool.and_true] at h
     exact⟨h.1,h.2.1,h.2.2.1,hsc,g1,h.2.2.2.1,h.2.2.2.2⟩
  simp only[ew,Zaj,Zih] at h ⊢
  rw[hq]
  rw[show (⟨lvl,env,loc,out⟩:St).sto=ZG lvl loc out from rfl] at *
  split at h <;> try contradiction
  ·rename_i zs hy
   simp only[if_true] at h
   have:=go zs h.1 h.2
   rw[hy]
   exact this
  ·rename_i zs hy
   simp only[if_true] at h
   have:=go zs h.1 h.2
   rw[hy]
   exact this
  ·rename_i id2 p2 off2 len2 c2 s2 hy
   simp only[if_true] at h
   rw[hy]
   dsimp only
   unfold rdh at h ⊢
   generalize ZG lvl loc out id2=o3 at h ⊢
   cases o3 with
   | none=>exact h.elim
   | some ob3 =>
    cases ob3 with
    | bx=>exact h.elim
    | ar k3 es3 u3 hw3 ver3 =>
     obtain⟨es',q1,q2,q3,q4,q5⟩:=h
     have:=go _ q4 q5
     split at this <;> try contradiction
     rename_i hs
     show (match ZG lvl loc out id with
      | some (.ar k' es u hw ver)=>k'=k/\s=hw/\len=es.length/\∃ es',getp es3 p2=some es'/\QV p2 s2 hw3 ver3 u3/\off2+len2<=es'.length/\ScR (cut es' off2 len2)/\UnR k (cut es' off2 len2)/\len+(cut es' off2 len2).length<=bigN /\
        K { Zs ⟨lvl,env,loc,out⟩ id (.ar k (es++cut es' off2 len2) u (max hw (len+(cut es' off2 len2).length)) ver) with env:=ptd d (.hd id [] 0 (len+(cut es' off2 len2).length) none (max hw (len+(cut es' off2 len2).length))) env }
      | _=>False)
     rw[hs]
     exact⟨this.1,this.2.1,this.2.2.1,es',q1,q2,q3,this.2.2.2⟩
  ·exact absurd h.1 (by decide)
def Zua:IV->Prop
 | .tr (.sl _)=>True
 | .cs _=>True
 | _=>False
theorem ZpU{es:Row}:Zua (.tr (.sl es))=True:=(rfl)
theorem ZpV{es:Row}:Zua (.cs es)=True:=(rfl)
theorem ZzB{k:Nat}{x y:X}:op2 C d (.a1 k x y) ⟨lvl,env,loc,out⟩ K=(ZsA (xv env x)/\Zua (xv env y)/\op2 C d (.ap k 1 x y) ⟨lvl,env,loc,out⟩ K):=by
 rw[Jc rfl,Jc rfl]
 apply propext
 constructor
 ·intro he
  refine⟨?_,?_,ZjA he⟩
  ·simp only[ew,Zaj] at he
   split at he <;> try contradiction
   rename_i hx
   rw[hx];trivial
  ·simp only[ew,Zaj] at he
   split at he <;> try contradiction
   split at he <;> try contradiction
   have h4:=he.2.2.2
   unfold ZqF at h4
   split at h4 <;> try contradiction
   ·rename_i hy;rw[hy];trivial
   ·rename_i hy;rw[hy];trivial
 ·rintro⟨h1,h2,h⟩
  generalize hq:xv env x=q at h1
  unfold ZsA at h1
  split at h1 <;> try contradiction
  rename_i id len s
  have go:∀ items:Row,UX d k x loc items false ⟨lvl,env,loc,out⟩ K->match ZG lvl loc out id with
   | some (.ar k' es u hw ver)=>k'=k/\s=hw/\len=es.length/\UnR k items/\len+items.length<=bigN /\
     K { Zs ⟨lvl,env,loc,out⟩ id (.ar k (es++items) false (max hw (len+items.length)) ver) with env:=ptd d (.hd id [] 0 (len+items.length) none (max hw (len+items.length))) env }
   | _=>False:=fun items h=>by
   unfold UX at h
   obtain⟨g1,h⟩:=h
   simp only[hq] at h
   rw[show (⟨lvl,env,loc,out⟩:St).sto id=ZG lvl loc out id from rfl] at h
   generalize ZG lvl loc out id=o at h ⊢
   cases o with
   | none=>exact h
   | some ob =>
    cases ob with
    | bx=>exact h
    | ar k' es u hw ver =>
     simp only[Bool.and_false] at h
     exact⟨h.1,h.2.1,h.2.2.1,g1,h.2.2.2.1,h.2.2.2.2⟩
  simp only[ew,Zaj,ZqF] at h ⊢
  rw[hq]
  rw[show (⟨lvl,env,loc,out⟩:St).sto=ZG lvl loc out from rfl] at *
  generalize hy:xv env y=yv at h h2 ⊢
  unfold Zua at h2
  split at h2 <;> try contradiction
  ·simp only[Nat.reduceEqDiff,if_false,true_and] at h
   exact go _ h
  ·simp only[Nat.reduceEqDiff,if_false,true_and] at h
   exact go _ h
def az1(x n:IV)(d:Option Nat)(k:Nat)(z:List Value)(st:St)(K:St->Prop):Prop :=
 match x with
 | .cs [] =>
  match n with
  | .tr (.v (.int .i64 m))=>0<m/\m<=bigN/\freshK (keyOf d) st.loc 1 /\
    K { Zs st (st.lvl,keyOf d) (.ar k (List.replicate m.toNat (z.map trv)) true m.toNat 0) with env:=ptd d (.hd (st.lvl,keyOf d) [] 0 m.toNat none m.toNat) st.env }
  | _=>False
 | _=>False
theorem ZzC{k:Nat}{z:List Value}{x n:X}:op2 C d (.az k z x n) ⟨lvl,env,loc,out⟩ K=az1 (xv env x) (xv env n) d k z ⟨lvl,env,loc,out⟩ K:=by
 rw[Jc rfl]
 rfl
theorem Zxi{k:Nat}{z:List Value}{m:Int}:az1 (.cs []) (.tr (.v (.int .i64 m))) d k z ⟨lvl,env,loc,out⟩ K=(0<m/\m<=bigN/\freshK (keyOf d) loc 1/\K ⟨lvl,ptd d (.hd (lvl,keyOf d) [] 0 m.toNat none m.toNat) env,ptO (keyOf d) (.ar k (List.replicate m.toNat (z.map trv)) true m.toNat 0) loc,out⟩):=by
 simp only[az1,Dx]
def tbx:IV->Prop
 | .ta _=>True
 | _=>False
theorem Zxj{cells:List Tr}:tbx (.ta cells)=True:=(rfl)
theorem ZzD{m:Option Nat}{p:X}:op2 C d (.lt m p) ⟨lvl,env,loc,out⟩ K=(tbx (xv env p)/\op2 C d (.ld m p) ⟨lvl,env,loc,out⟩ K):=by
 cases m <;> (
  rw[J1 rfl,J1 rfl]
  simp only[ev]
  generalize hx:xv env p=q
  cases q <;> simp [tbx])
def av4(o:Option Ob)(id:Oid)(es:Row)(hw ver len off2 len2 s2 k:Nat)(d:Option Nat)(st:St)(K:St->Prop):Prop :=
 match o with
 | some (.ar _ es2 false hw2 _)=>s2=hw2/\off2+len2<=es2.length/\UnR k (cut es2 off2 len2)/\len+(cut es2 off2 len2).length<=bigN /\
   K { Zs st id (.ar k (es++cut es2 off2 len2) false (max hw (len+(cut es2 off2 len2).length)) ver) with env:=ptd d (.hd id [] 0 (len+(cut es2 off2 len2).length) none (max hw (len+(cut es2 off2 len2).length))) st.env }
 | _=>False
def av3(y:IV)(id:Oid)(es:Row)(hw ver len k:Nat)(d:Option Nat)(st:St)(K:St->Prop):Prop :=
 match y with
 | .hd id2 [] off2 len2 _ s2=>av4 (st.sto id2) id es hw ver len off2 len2 s2 k d st K
 | _=>False
def av2(o:Option Ob)(y:IV)(id:Oid)(len s k:Nat)(d:Option Nat)(st:St)(K:St->Prop):Prop :=
 match o with
 | some (.ar k' es _ hw ver)=>k'=k/\s=hw/\len=es.length/\av3 y id es hw ver len k d st K
 | _=>False
def av1(x y:IV)(k:Nat)(d:Option Nat)(st:St)(K:St->Prop):Prop :=
 match x with
 | .hd id [] 0 len none s=>av2 (st.sto id) y id len s k d st K
 | _=>False
theorem ZzE{k:Nat}{x y:X}:op2 C d (.a2 k x y) ⟨lvl,env,loc,out⟩ K=av1 (xv env x) (xv env y) k d ⟨lvl,env,loc,out⟩ K:=by
 rw[Jc rfl]
 rfl
theorem Zxk{id:Oid}{len s k:Nat}{y:IV}:av1 (.hd id [] 0 len none s) y k d ⟨lvl,env,loc,out⟩ K=av2 (ZG lvl loc out id) y id len s k d ⟨lvl,env,loc,out⟩ K:=(rfl)
theorem Zxl{k' hw ver len s k:Nat}{es:Row}{u:Bool}{y:IV}{id:Oid}:av2 (some (.ar k' es u hw ver)) y id len s k d st K=(k'=k/\s=hw/\len=es.length/\av3 y id es hw ver len k d st K):=(rfl)
theorem Zxm{id id2:Oid}{es:Row}{hw ver len k off2 len2 s2:Nat}{c2:Option Nat}:av3 (.hd id2 [] off2 len2 c2 s2) id es hw ver len k d ⟨lvl,env,loc,out⟩ K=av4 (ZG lvl loc out id2) id es hw ver len off2 len2 s2 k d ⟨lvl,env,loc,out⟩ K:=(rfl)
theorem Zxn{key:Nat}{es es2:Row}{k2 hw ver len off2 len2 s2 k hw2 ver2:Nat}:av4 (some (.ar k2 es2 false hw2 ver2)) (lvl,key) es hw ver len off2 len2 s2 k d ⟨lvl,env,loc,out⟩ K=(s2=hw2/\off2+len2<=es2.length/\UnR k (cut es2 off2 len2)/\len+(cut es2 off2 len2).length<=bigN /\
   K ⟨lvl,ptd d (.hd (lvl,key) [] 0 (len+(cut es2 off2 len2).length) none (max hw (len+(cut es2 off2 len2).length))) env,ptO key (.ar k (es++cut es2 off2 len2) false (max hw (len+(cut es2 off2 len2).length)) ver) loc,out⟩):=by
 simp only[av4,Dx]
def abx:IV->Prop
 | .ab .. => True
 | _=>False
theorem Zxo{id:Oid}{off:Nat}:abx (.ab id off)=True:=(rfl)
theorem ZzF{m:Option Nat}{p:X}:op2 C d (.lb m p) ⟨lvl,env,loc,out⟩ K=(abx (xv env p)/\op2 C d (.ld m p) ⟨lvl,env,loc,out⟩ K):=by
 cases m <;> (
  rw[J1 rfl,J1 rfl]
  simp only[ev]
  generalize hx:xv env p=q
  cases q <;> simp [abx])
def tcs:IV->Prop
 | .tr (.sl _)=>True
 | .cs _=>True
 | _=>False
theorem ZsE{es:Row}:tcs (.tr (.sl es))=True:=(rfl)
theorem ZsF{es:Row}:tcs (.cs es)=True:=(rfl)
theorem ZzG{k:Nat}{x:X}{lo hi mx:Option X}:op2 C d (.sy k x lo hi mx) ⟨lvl,env,loc,out⟩ K=(tcs (xv env x)/\op2 C d (.sx k x lo hi mx) ⟨lvl,env,loc,out⟩ K):=by
 rw[J1 rfl,J1 rfl]
 simp only[ev]
 generalize hx:xv env x=q
 cases q with
 | tr t =>
  cases t with
  | v=>simp [tcs]
  | sl es=>simp only[tcs,true_and]
 | cs es=>simp only[tcs,true_and]
 | _=>simp only[tcs,false_and]
def swx(L:Sto)(k:Nat):IV->Prop
 | .tr (.sl _)=>True
 | .cs _=>True
 | .hd id [] _ _ _ _=>wid L id [] k
 | _=>False
theorem ZsG{L:Sto}{k:Nat}{es:Row}:swx L k (.tr (.sl es))=True:=(rfl)
theorem ZsH{L:Sto}{k:Nat}{es:Row}:swx L k (.cs es)=True:=(rfl)
theorem ZsI{L:Sto}{k:Nat}{id:Oid}{off len s:Nat}{cap:Option Nat}:swx L k (.hd id [] off len cap s)=wid L id [] k:=(rfl)
def ZyC(m:Nat):Option Ob->Prop
 | some (.ar k _ _ _ _)=>k=m
 | _=>False
theorem ZsJ{m k hw ver:Nat}{es:Row}{u:Bool}:ZyC m (some (.ar k es u hw ver))=(k=m):=(rfl)
theorem ZsK{key m:Nat}:wid (ZG lvl loc out) (lvl,key) [] m=ZyC m (lkO key loc):=by
 unfold wid
 rw[Yc]
 cases lkO key loc with
 | none=>rfl
 | some ob=>cases ob <;> rfl
theorem ZzH{k:Nat}{x:X}{lo hi mx:Option X}:op2 C d (.sw k x lo hi mx) ⟨lvl,env,loc,out⟩ K=(swx (ZG lvl loc out) k (xv env x)/\op2 C d (.sx k x lo hi mx) ⟨lvl,env,loc,out⟩ K):=by
 rw[J1 rfl,J1 rfl]
 simp only[ev]
 generalize xv env x=q
 cases q with
 | tr t =>
  cases t with
  | v=>simp [swx]
  | sl es=>simp only[swx,true_and]
 | cs es=>simp only[swx,true_and]
 | hd id p off len cap s =>
  cases p with
  | nil =>
   simp only[swx]
   exact propext ⟨fun⟨hw,h⟩=>⟨hw,Qo (fun a h=>Qo (fun b h=>⟨h.1,h.2.1,Qo (fun m g=>⟨g.1,g.2.1,hw,g.2.2⟩) h.2.2⟩) h) h⟩,fun⟨hw,h⟩=>⟨hw,Qo (fun a h=>Qo (fun b h=>⟨h.1,h.2.1,Qo (fun m g=>⟨g.1,g.2.1,g.2.2.2⟩) h.2.2⟩) h) h⟩⟩
  | cons c r=>simp [swx]
 | _=>simp [swx]
theorem ZzI{k:Nat}{x i:X}:op2 C d (.it k x i) ⟨lvl,env,loc,out⟩ K=(tcs (xv env x)/\op2 C d (.ia k x i) ⟨lvl,env,loc,out⟩ K):=by
 rw[J1 rfl,J1 rfl]
 simp only[ev]
 generalize xv env x=q
 generalize xv env i=qi
 cases q with
 | tr t =>
  cases t with
  | v=>simp only[tcs,false_and];split <;> simp
  | sl es=>simp only[tcs,true_and]
 | cs es=>simp only[tcs,true_and]
 | _=>simp only[tcs,false_and];split <;> simp
def apx(v:IV)(d:Option Nat)(k:Nat)(loc0:List (Nat×Ob))(items:Row)(ui:Bool)(st1:St)(K:St->Prop):Prop :=
 UnR k items /\
 match v with
 | .cs zs=>(zs=[]\/items≠[])/\zs.length+items.length<=bigN/\UnR k zs/\freshK (keyOf d) loc0 1/\(zs=[]\/ui=false\/ScR zs) /\
  K { Zs st1 (st1.lvl,keyOf d) (.ar k (zs++items) ui (zs.length+items.length) 0) with env:=ptd d (.hd (st1.lvl,keyOf d) [] 0 (zs.length+items.length) none (zs.length+items.length)) st1.env }
 | .hd id [] 0 len none s =>
  match st1.sto id with
  | some (.ar k' es u hw ver)=>k'=k/\s=hw/\len=es.length/\len+items.length<=bigN /\
   K { Zs st1 id (.ar k (es++items) (u&&ui) (max hw (len+items.length)) ver) with env:=ptd d (.hd id [] 0 (len+items.length) none (max hw (len+items.length))) st1.env }
  | _=>False
 | _=>False
theorem ZsL{k:Nat}{x:X}{loc0:List (Nat×Ob)}{items:Row}{ui:Bool}:UX d k x loc0 items ui ⟨lvl,env,loc,out⟩ K=apx (xv env x) d k loc0 items ui ⟨lvl,env,loc,out⟩ K:=(rfl)
theorem ZsM{k:Nat}{loc0:List (Nat×Ob)}{items zs:Row}{ui:Bool}:apx (.cs zs) d k loc0 items ui ⟨lvl,env,loc,out⟩ K=(UnR k items/\(zs=[]\/items≠[])/\zs.length+items.length<=bigN/\UnR k zs/\freshK (keyOf d) loc0 1/\(zs=[]\/ui=false\/ScR zs) /\
  K ⟨lvl,ptd d (.hd (lvl,keyOf d) [] 0 (zs.length+items.length) none (zs.length+items.length)) env,ptO (keyOf d) (.ar k (zs++items) ui (zs.length+items.length) 0) loc,out⟩):=by
 simp only[apx,Dx]
def aph(o:Option Ob)(d:Option Nat)(k:Nat)(id:Oid)(len s:Nat)(items:Row)(ui:Bool)(st1:St)(K:St->Prop):Prop :=
 match o with
 | some (.ar k' es u hw ver)=>k'=k/\s=hw/\len=es.length/\len+items.length<=bigN /\
   K { Zs st1 id (.ar k (es++items) (u&&ui) (max hw (len+items.length)) ver) with env:=ptd d (.hd id [] 0 (len+items.length) none (max hw (len+items.length))) st1.env }
 | _=>False
theorem ZsN{k key len s:Nat}{loc0:List (Nat×Ob)}{items:Row}{ui:Bool}:apx (.hd (lvl,key) [] 0 len none s) d k loc0 items ui ⟨lvl,env,loc,out⟩ K=(UnR k items/\aph (lkO key loc) d k (lvl,key) len s items ui ⟨lvl,env,loc,out⟩ K):=by
 simp only[apx]
 rw[show (⟨lvl,env,loc,out⟩:St).sto (lvl,key)=lkO key loc from Yc]
 rfl
theorem Zxp{k k' key len s:Nat}{items es:Row}{u ui:Bool}{hw ver:Nat}:aph (some (.ar k' es u hw ver)) d k (lvl,key) len s items ui ⟨lvl,env,loc,out⟩ K=(k'=k/\s=hw/\len=es.length/\len+items.length<=bigN /\
   K ⟨lvl,ptd d (.hd (lvl,key) [] 0 (len+items.length) none (max hw (len+items.length))) env,ptO key (.ar k (es++items) (u&&ui) (max hw (len+items.length)) ver) loc,out⟩):=by
 simp only[aph,Dx]
def ap2(C:Zn)(d:Option Nat)(k md:Nat)(x:X)(y:IV)(st:St)(K:St->Prop):Prop :=
 match y with
 | .tr (.sl es)=>if md=0 then ScR es/\UX d k x st.loc es true st K else md=1/\UX d k x st.loc es false st K
 | .cs es=>if md=0 then ScR es/\UX d k x st.loc es true st K else md=1/\UX d k x st.loc es false st K
 | .hd id2 p2 off2 len2 c2 s2 =>
   if md=2 then
    p2=[]/\off2=0/\c2=none/\id2.1=st.lvl /\
    match st.sto id2 with
    | some (.ar _ zs u2 hw2 _)=>s2=hw2/\len2=zs.length/\UX d k x st.loc zs u2 (Yw id2 st) K
    | _=>False
   else if md=0 then
    rdh st.sto id2 p2 s2 fun es _ _=>off2+len2<=es.length/\ScR (cut es off2 len2)/\UX d k x st.loc (cut es off2 len2) true st K
   else md=1/\p2=[] /\
    match st.sto id2 with
    | some (.ar k2 es _ hw2 ver2)=>s2=hw2/\off2+len2<=es.length/\UX d k x st.loc (cut es off2 len2) false (Zs st id2 (.ar k2 es false hw2 ver2)) K
    | _=>False
 | .sv id2=>md=2/\id2.1=st.lvl /\
   match st.sto id2 with
   | some (.bx l)=>l.length=k/\Zij l st fun ts u st' => UX d k x st.loc [ts] u (Yw id2 st') K
   | _=>False
 | _=>False
theorem ZzJ{k md:Nat}{x y:X}:op2 C d (.ap k md x y) ⟨lvl,env,loc,out⟩ K=ap2 C d k md x (xv env y) ⟨lvl,env,loc,out⟩ K:=by
 rw[Jc rfl]
 rfl
section ap
variable {k:Nat} {x:X}
theorem Zxq{es:Row}:ap2 C d k 0 x (.tr (.sl es)) ⟨lvl,env,loc,out⟩ K=(ScR es/\UX d k x loc es true ⟨lvl,env,loc,out⟩ K):=(rfl)
theorem Zxr{es:Row}:ap2 C d k 1 x (.tr (.sl es)) ⟨lvl,env,loc,out⟩ K=UX d k x loc es false ⟨lvl,env,loc,out⟩ K:=by simp [ap2]
theorem ZsO{es:Row}:ap2 C d k 0 x (.cs es) ⟨lvl,env,loc,out⟩ K=(ScR es/\UX d k x loc es true ⟨lvl,env,loc,out⟩ K):=(rfl)
theorem ZsP{es:Row}:ap2 C d k 1 x (.cs es) ⟨lvl,env,loc,out⟩ K=UX d k x loc es false ⟨lvl,env,loc,out⟩ K:=by simp [ap2]
def kap(d:Option Nat)(k:Nat)(x:X)(off2 len2:Nat)(st:St)(K:St->Prop)(es:Row)(_u:Bool)(_v:Nat):Prop:=off2+len2<=es.length/\ScR (cut es off2 len2)/\UX d k x st.loc (cut es off2 len2) true st K
theorem Zxs{off2 len2:Nat}{es:Row}{u:Bool}{v:Nat}:kap d k x off2 len2 ⟨lvl,env,loc,out⟩ K es u v=(off2+len2<=es.length/\ScR (cut es off2 len2)/\UX d k x loc (cut es off2 len2) true ⟨lvl,env,loc,out⟩ K):=(rfl)
theorem ZsQ{id2:Oid}{p2:Pth}{off2 len2 s2:Nat}{c2:Option Nat}:ap2 C d k 0 x (.hd id2 p2 off2 len2 c2 s2) ⟨lvl,env,loc,out⟩ K=rd3 (ZG lvl loc out id2) p2 s2 (kap d k x off2 len2 ⟨lvl,env,loc,out⟩ K):=by
 rw[<-Dw]
 rfl
def ap5(o:Option Ob)(d:Option Nat)(k:Nat)(x:X)(len2 s2:Nat)(loc0:List (Nat×Ob))(st1:St)(K:St->Prop):Prop :=
 match o with
 | some (.ar _ zs u2 hw2 _)=>s2=hw2/\len2=zs.length/\UX d k x loc0 zs u2 st1 K
 | _=>False
theorem ZsR{key:Nat}{p2:Pth}{off2 len2 s2:Nat}{c2:Option Nat}:ap2 C d k 2 x (.hd (lvl,key) p2 off2 len2 c2 s2) ⟨lvl,env,loc,out⟩ K=(p2=[]/\off2=0/\c2=none/\ap5 (lkO key loc) d k x len2 s2 loc (Yw (lvl,key) ⟨lvl,env,loc,out⟩) K):=by
 simp only[ap2,if_true]
 rw[show (⟨lvl,env,loc,out⟩:St).sto (lvl,key)=lkO key loc from Yc]
 generalize lkO key loc=o
 apply propext
 constructor
 ·rintro⟨h1,h2,h3,_,h5⟩
  refine⟨h1,h2,h3,?_⟩
  cases o with
  | none=>exact h5
  | some ob=>cases ob <;> exact h5
 ·rintro⟨h1,h2,h3,h5⟩
  refine⟨h1,h2,h3,trivial,?_⟩
  cases o with
  | none=>exact h5
  | some ob=>cases ob <;> exact h5
theorem Zxt{k2:Nat}{zs:Row}{u2:Bool}{hw2 ver2 len2 s2:Nat}{loc0:List (Nat×Ob)}{st1:St}:ap5 (some (.ar k2 zs u2 hw2 ver2)) d k x len2 s2 loc0 st1 K=(s2=hw2/\len2=zs.length/\UX d k x loc0 zs u2 st1 K):=(rfl)
def Zxu(d:Option Nat)(k:Nat)(x:X)(loc0:List (Nat×Ob))(id2:Oid)(K:St->Prop)(ts:List Tr)(u:Bool)(st':St):Prop:=UX d k x loc0 [ts] u (Yw id2 st') K
theorem ZsS{loc0:List (Nat×Ob)}{id2:Oid}{ts:List Tr}{u:Bool}:Zxu d k x loc0 id2 K ts u st=UX d k x loc0 [ts] u (Yw id2 st) K:=(rfl)
def aps(o:Option Ob)(d:Option Nat)(k:Nat)(x:X)(loc0:List (Nat×Ob))(id2:Oid)(st1:St)(K:St->Prop):Prop :=
 match o with
 | some (.bx l)=>l.length=k/\Zij l st1 (Zxu d k x loc0 id2 K)
 | _=>False
theorem Zxv{l:List IV}{loc0:List (Nat×Ob)}{id2:Oid}{st1:St}:aps (some (.bx l)) d k x loc0 id2 st1 K=(l.length=k/\Zij l st1 (Zxu d k x loc0 id2 K)):=(rfl)
theorem ZsT{key:Nat}:ap2 C d k 2 x (.sv (lvl,key)) ⟨lvl,env,loc,out⟩ K=aps (lkO key loc) d k x loc (lvl,key) ⟨lvl,env,loc,out⟩ K:=by
 simp only[ap2]
 rw[show (⟨lvl,env,loc,out⟩:St).sto (lvl,key)=lkO key loc from Yc]
 generalize lkO key loc=o
 apply propext
 constructor
 ·rintro⟨_,_,h⟩
  cases o with
  | none=>exact h
  | some ob=>cases ob <;> exact h
 ·intro h
  refine⟨trivial,trivial,?_⟩
  cases o with
  | none=>exact h
  | some ob=>cases ob <;> exact h
end ap
theorem ZpW{L:Sto}{F:List IV->Prop}:∀{l:List Tr},Jw L (l.map .tr) F=F (l.map .tr)
 | []=>Zpo
 | t::r=>by rw[List.map_cons,ZrO,ZpW,ZrK]
theorem Zf7{Pd:Oid->Prop}:∀{l:List Tr},Zd Pd (l.map .tr)=True
 | []=>rfl
 | t::r=>by simp only[List.map_cons,Zd,men,Zf7,and_self]
def nlf(v:IV)(neg:Bool)(lvl:Nat)(env:List (Nat×IV))(loc:List (Nat×Ob))(out:Sto)(d:Option Nat)(K:St->Prop):Prop :=
 match v with
 | .tr (.sl es)=>K ⟨lvl,ptd d (iB neg) env,loc,out⟩/\(es=[]->K ⟨lvl,ptd d (iB !neg) env,loc,out⟩)
 | .cs es=>K ⟨lvl,ptd d (iB neg) env,loc,out⟩/\(es=[]->K ⟨lvl,ptd d (iB !neg) env,loc,out⟩)
 | _=>False
theorem ZzK{C:Zn}{d:Option Nat}{neg:Bool}{x:X}{lvl:Nat}{env:List (Nat×IV)}{loc:List (Nat×Ob)}{out:Sto}{K:St->Prop}:op2 C d (.nl neg x) ⟨lvl,env,loc,out⟩ K=nlf (xv env x) neg lvl env loc out d K:=by
 rw[Jc rfl]
 rfl
theorem Zxw{neg:Bool}{es:Row}{d:Option Nat}{lvl:Nat}{env:List (Nat×IV)}{loc:List (Nat×Ob)}{out:Sto}{K:St->Prop}:nlf (.tr (.sl es)) neg lvl env loc out d K=(K ⟨lvl,ptd d (iB neg) env,loc,out⟩/\(es=[]->K ⟨lvl,ptd d (iB !neg) env,loc,out⟩)):=(rfl)
theorem Zxx{neg:Bool}{es:Row}{d:Option Nat}{lvl:Nat}{env:List (Nat×IV)}{loc:List (Nat×Ob)}{out:Sto}{K:St->Prop}:nlf (.cs es) neg lvl env loc out d K=(K ⟨lvl,ptd d (iB neg) env,loc,out⟩/\(es=[]->K ⟨lvl,ptd d (iB !neg) env,loc,out⟩)):=(rfl)
section row
variable {C:Zn} {d:Option Nat} {x y hi:X} {lvl:Nat} {env:List (Nat×IV)} {loc:List (Nat×Ob)} {out:Sto} {K:St->Prop} {st:St}
def Zg3(d:Option Nat)(x:IV)(st:St)(K:St->Prop):Prop:=K { st with env:=ptd d x st.env }
theorem ZsU{v:IV}:Zg3 d v ⟨lvl,env,loc,out⟩ K=K ⟨lvl,ptd d v env,loc,out⟩:=(rfl)
theorem Zdq{v:IV}{id:Oid}{ob:Ob}:Zg3 d v (Zs st id ob) K=K { Zs st id ob with env:=ptd d v st.env }:=by
 unfold Zg3
 rw[Xg]
def cpf(v:IV)(lvl:Nat)(env:List (Nat×IV))(loc:List (Nat×Ob))(out:Sto)(d:Option Nat)(K:St->Prop):Prop :=
 match v with
 | .cs es=>K ⟨lvl,ptd d (iI es.length) env,loc,out⟩
 | _=>False
theorem ZzL:op2 C d (.cp x) ⟨lvl,env,loc,out⟩ K=cpf (xv env x) lvl env loc out d K:=by
 rw[Jc rfl]
 rfl
theorem Zxy{es:Row}:cpf (.cs es) lvl env loc out d K=K ⟨lvl,ptd d (iI es.length) env,loc,out⟩:=(rfl)
def shg(o:Option Ob)(id:Oid)(m:Int)(len s k:Nat)(d:Option Nat)(st:St)(K:St->Prop):Prop :=
 match o with
 | some (.ar k2 es u hw ver)=>k2=k/\s=hw/\0<=m/\m.toNat<=len/\len<=es.length/\Zg3 d (.hd id [] 0 m.toNat none hw) (Zs st id (.ar k2 (es.take m.toNat) u hw (ver+1))) K
 | _=>False
def shf(v hv:IV)(k:Nat)(d:Option Nat)(st:St)(K:St->Prop):Prop :=
 match v with
 | .cs es =>
  match hv with
  | .tr (.v (.int _ m))=>m=es.length/\UnR k es/\Zg3 d (.cs es) st K
  | _=>False
 | .hd id p off len cap s =>
  match hv with
  | .tr (.v (.int _ m))=>p=[]/\off=0/\cap=none/\shg (st.sto id) id m len s k d st K
  | _=>False
 | _=>False
theorem ZzM{k:Nat}:op2 C d (.sh k x hi) ⟨lvl,env,loc,out⟩ K=shf (xv env x) (xv env hi) k d ⟨lvl,env,loc,out⟩ K:=by
 rw[Jc rfl]
 simp only[ew]
 generalize xv env x=v
 cases v <;> try rfl
 rename_i id p off len cap s
 generalize xv env hi=hv
 cases hv <;> try rfl
 rename_i t
 cases t <;> try rfl
 rename_i q
 cases q <;> try rfl
 simp only[shf,shg]
 generalize (⟨lvl,env,loc,out⟩:St).sto id=o
 cases o with
 | none=>simp
 | some ob =>
  cases ob with
  | bx=>simp
  | ar k2 es u hw ver=>simp only[Zdq]
theorem Zxz{id:Oid}{len s k:Nat}{kk:IntKind}{m:Int}:shf (.hd id [] 0 len none s) (.tr (.v (.int kk m))) k d ⟨lvl,env,loc,out⟩ K=shg (ZG lvl loc out id) id m len s k d ⟨lvl,env,loc,out⟩ K:=by
 simp only[shf,true_and]
 rfl
theorem ZxA{es:Row}{k:Nat}{kk:IntKind}{m:Int}:shf (.cs es) (.tr (.v (.int kk m))) k d ⟨lvl,env,loc,out⟩ K=(m=es.length/\UnR k es/\Zg3 d (.cs es) ⟨lvl,env,loc,out⟩ K):=(rfl)
theorem ZxB{id:Oid}{len s k k2 hw ver:Nat}{es:Row}{u:Bool}{m:Int}:shg (some (.ar k2 es u hw ver)) id m len s k d st K=(k2=k/\s=hw/\0<=m/\m.toNat<=len/\len<=es.length/\Zg3 d (.hd id [] 0 m.toNat none hw) (Zs st id (.ar k2 (es.take m.toNat) u hw (ver+1))) K):=(rfl)
def fzg(o:Option Ob)(len s:Nat)(d:Option Nat)(st1:St)(K:St->Prop):Prop :=
 match o with
 | some (.ar _ zs _ hw _)=>s=hw/\len=zs.length/\Zg3 d (.tr (.sl zs)) st1 K
 | _=>False
def fzf(v:IV)(d:Option Nat)(st:St)(K:St->Prop):Prop :=
 match v with
 | .hd id [] 0 len none s=>id.1=st.lvl/\fzg (st.sto id) len s d (Yw id st) K
 | _=>False
theorem ZzN:op2 C d (.fz x) ⟨lvl,env,loc,out⟩ K=fzf (xv env x) d ⟨lvl,env,loc,out⟩ K:=by
 rw[Jc rfl]
 simp only[ew]
 generalize xv env x=v
 unfold fzf
 split
 ·rename_i id len s
  simp only[fzg]
  generalize (⟨lvl,env,loc,out⟩:St).sto id=o
  cases o with
  | none=>rfl
  | some ob=>cases ob <;> rfl
 ·rename_i hv
  split
  ·exact(hv _ _ _ rfl).elim
  ·rfl
theorem ZxC{key len s:Nat}:fzf (.hd (lvl,key) [] 0 len none s) d ⟨lvl,env,loc,out⟩ K=fzg (lkO key loc) len s d (Yw (lvl,key) ⟨lvl,env,loc,out⟩) K:=by
 simp only[fzf,true_and]
 rw[show (⟨lvl,env,loc,out⟩:St).sto (lvl,key)=lkO key loc from Yc]
theorem ZxD{len s k hw ver:Nat}{zs:Row}{u:Bool}:fzg (some (.ar k zs u hw ver)) len s d st K=(s=hw/\len=zs.length/\Zg3 d (.tr (.sl zs)) st K):=(rfl)
def drp(o:Option Ob)(id:Oid)(st:St):St :=
 match o with
 | none=>st
 | some _=>Yw id st
theorem ZsV{id:Oid}:drp none id st=st:=(rfl)
theorem ZsW{ob:Ob}{id:Oid}:drp (some ob) id st=Yw id st:=(rfl)
def rkg(o:Option Ob)(len s:Nat)(id0:Oid)(d:Option Nat)(st1:St)(K:St->Prop):Prop :=
 match o with
 | some (.ar k zs u hw ver)=>s=hw/\len=zs.length/\Zg3 d (.hd id0 [] 0 len none s) (Zs st1 id0 (.ar k zs u hw ver)) K
 | _=>False
def rkf(v:IV)(d:Option Nat)(st:St)(K:St->Prop):Prop :=
 match v with
 | .hd id [] 0 len none s=>id.1=st.lvl/\(st.lvl,keyOf d)≠id/\rkg (st.sto id) len s (st.lvl,keyOf d) d (Yw id (ZeJ (st.lvl,keyOf d) st)) K
 | _=>False
theorem ZzO:op2 C d (.rk x) ⟨lvl,env,loc,out⟩ K=rkf (xv env x) d ⟨lvl,env,loc,out⟩ K:=by
 rw[Jc rfl]
 simp only[ew]
 generalize xv env x=v
 unfold rkf
 split
 ·rename_i id len s
  simp only[rkg]
  generalize (⟨lvl,env,loc,out⟩:St).sto id=o
  cases o with
  | none=>rfl
  | some ob =>
   cases ob with
   | bx=>rfl
   | ar k2 es u hw ver=>simp only[Zdq]
 ·rename_i hv
  split
  ·exact(hv _ _ _ rfl).elim
  ·rfl
theorem ZxE{key len s:Nat}{t:Nat}:rkf (.hd (lvl,key) [] 0 len none s) (some t) ⟨lvl,env,loc,out⟩ K=(t*32≠key/\rkg (lkO key loc) len s (lvl,t*32) (some t) (Yw (lvl,key) (drp (lkO (t*32) loc) (lvl,t*32) ⟨lvl,env,loc,out⟩)) K):=by
 simp only[rkf,true_and,ZeJ,keyOf]
 rw[show (⟨lvl,env,loc,out⟩:St).sto (lvl,key)=lkO key loc from Yc,show (⟨lvl,env,loc,out⟩:St).sto (lvl,t*32)=lkO (t*32) loc from Yc]
 congr 1
 simp
theorem ZzP{key:Nat}{p x:X}:op2 C d (.gv key p x) ⟨lvl,env,loc,out⟩ K=(d=none/\gvf (xv env p) (xv env x) key ⟨lvl,env,loc,out⟩ K):=by
 rw[Jc rfl]
 simp only[ew]
theorem ZxF{id:Oid}{off key key2 len s:Nat}:gvf (.ab id off) (.hd (lvl,key2) [] 0 len none s) key ⟨lvl,env,loc,out⟩ K=(id.1<lvl/\ZG lvl loc out (id.1,key)=none/\gvo (ZG lvl loc out id) (lkO key2 loc) id off key len s (lvl,key2) ⟨lvl,env,loc,out⟩ K):=by
 simp only[gvf,true_and]
 rw[show (⟨lvl,env,loc,out⟩:St).sto (lvl,key2)=lkO key2 loc from Yc]
 rfl
theorem ZxG{cells:List IV}{k:Nat}{zs:Row}{u:Bool}{hw ver:Nat}{id id2:Oid}{off key len s:Nat}:gvo (some (.bx cells)) (some (.ar k zs u hw ver)) id off key len s id2 st K=(off+1<=cells.length/\s=hw/\len=zs.length/\K (Zs (Zs (Yw id2 st) (id.1,key) (.ar k zs u hw ver)) id (.bx (X2 cells off [.hd (id.1,key) [] 0 len none s])))):=(rfl)
theorem ZxH{len s k hw ver:Nat}{zs:Row}{u:Bool}{id0:Oid}:rkg (some (.ar k zs u hw ver)) len s id0 d st K=(s=hw/\len=zs.length/\Zg3 d (.hd id0 [] 0 len none s) (Zs st id0 (.ar k zs u hw ver)) K):=(rfl)
theorem ZpX{K:List IV->St->Prop}:Zm4 [] st K=K [] st:=(rfl)
theorem ZpY{x:X}{r:List X}{K:List IV->St->Prop}:Zm4 (x::r) st K=ZqE (xv st.env x) st fun t st1=>Zm4 r st1 fun ts st2=>K (.ta t::ts) st2:=(rfl)
def Zub(o:Option (List Tr×Bool))(F:List Tr->Prop)(H:Prop):Prop :=
 match o with
 | some (ts,_)=>F ts
 | none=>H
def ZxI(o:Option Ob)(F:List Tr->Prop)(H:List IV->Prop):Prop :=
 match o with
 | some (.bx cells)=>Zub (totrs cells) F (H cells)
 | _=>False
theorem ZsX{ts:List Tr}{K:List Tr->St->Prop}:ZqE (.ta ts) st K=K ts st:=(rfl)
theorem ZsY{key:Nat}{K:List Tr->St->Prop}:ZqE (.ab (lvl,key) 0) ⟨lvl,env,loc,out⟩ K=ZxI (lkO key loc) (fun ts=>K ts (Yw (lvl,key) ⟨lvl,env,loc,out⟩)) (fun cells=>Zg1 cells ⟨lvl,env,loc,out⟩ fun ts st1=>K ts (Yw (lvl,key) st1)):=by
 simp only[ZqE,true_and]
 rw[show (⟨lvl,env,loc,out⟩:St).sto (lvl,key)=lkO key loc from Yc]
 generalize lkO key loc=o
 cases o with
 | none=>rfl
 | some ob =>
  cases ob with
  | ar=>rfl
  | bx cells =>
   simp only[ZxI]
   generalize totrs cells=q
   cases q <;> rfl
theorem ZsZ{cells:List IV}{F:List Tr->Prop}{H:List IV->Prop}:ZxI (some (.bx cells)) F H=Zub (totrs cells) F (H cells):=(rfl)
theorem Zs0{ts:List Tr}{q:Bool}{F:List Tr->Prop}{H:Prop}:Zub (some (ts,q)) F H=F ts:=(rfl)
theorem ZpZ{F:List Tr->Prop}{H:Prop}:Zub none F H=H:=(rfl)
theorem ZlO{id:Oid}{p:Pth}{off len s:Nat}{cap:Option Nat}{r:List IV}:totrs (.hd id p off len cap s::r)=none:=(rfl)
theorem ZzQ{f:Nat}{cs:List X}:op2 C d (.mz f cs) ⟨lvl,env,loc,out⟩ K=Zm4 cs ⟨lvl,env,loc,out⟩ fun l st1=>Zg3 d (.fn f l) st1 K:=by
 rw[Jc rfl]
 rfl
theorem Zp0{K:List Tr->St->Prop}:Zg1 [] st K=K [] st:=(rfl)
theorem Zp1{x:IV}{r:List IV}{K:List Tr->St->Prop}:Zg1 (x::r) st K=Zoi x st fun t st1=>Zg1 r st1 fun ts st2=>K (t::ts) st2:=(rfl)
def ZyD(o:Option Ob)(len s:Nat)(F:Row->Prop):Prop :=
 match o with
 | some (.ar _ zs _ hw _)=>s=hw/\len=zs.length/\F zs
 | _=>False
theorem Zp2{t:Tr}{K:Tr->St->Prop}:Zoi (.tr t) st K=K t st:=(rfl)
theorem Zp3{es:Row}{K:Tr->St->Prop}:Zoi (.cs es) st K=K (.sl es) st:=(rfl)
theorem Zp4{key len s:Nat}{K:Tr->St->Prop}:Zoi (.hd (lvl,key) [] 0 len none s) ⟨lvl,env,loc,out⟩ K=ZyD (lkO key loc) len s fun zs=>K (.sl zs) (Yw (lvl,key) ⟨lvl,env,loc,out⟩):=by
 simp only[Zoi,true_and]
 rw[show (⟨lvl,env,loc,out⟩:St).sto (lvl,key)=lkO key loc from Yc]
 generalize lkO key loc=o
 cases o with
 | none=>rfl
 | some ob=>cases ob <;> rfl
theorem Zs1{k len s hw ver:Nat}{zs:Row}{u:Bool}{F:Row->Prop}:ZyD (some (.ar k zs u hw ver)) len s F=(s=hw/\len=zs.length/\F zs):=(rfl)
def lzg(o:Option Ob)(off m:Nat)(d:Option Nat)(st:St)(K:St->Prop):Prop :=
 match o with
 | some (.bx cells)=>off+m<=cells.length/\Zg1 ((cells.drop off).take m) st fun ts st1=>Zg3 d (.ag (ts.map .tr)) st1 K
 | _=>False
def lzf(v:IV)(m:Nat)(d:Option Nat)(st:St)(K:St->Prop):Prop :=
 match v with
 | .ab id off=>lzg (st.sto id) off m d st K
 | _=>False
theorem ZzR{m:Nat}:op2 C d (.lz m x) ⟨lvl,env,loc,out⟩ K=lzf (xv env x) m d ⟨lvl,env,loc,out⟩ K:=by
 rw[Jc rfl]
 simp only[ew]
 generalize xv env x=v
 cases v <;> rfl
theorem ZxJ{key off m:Nat}:lzf (.ab (lvl,key) off) m d ⟨lvl,env,loc,out⟩ K=lzg (lkO key loc) off m d ⟨lvl,env,loc,out⟩ K:=by
 simp only[lzf]
 rw[show (⟨lvl,env,loc,out⟩:St).sto (lvl,key)=lkO key loc from Yc]
theorem ZxK{cells:List IV}{off m:Nat}:lzg (some (.bx cells)) off m d st K=(off+m<=cells.length/\Zg1 ((cells.drop off).take m) st fun ts st1=>Zg3 d (.ag (ts.map .tr)) st1 K):=(rfl)
def clg(o:Option Ob)(id:Oid)(off len s k:Nat)(d:Option Nat)(st:St)(K:St->Prop):Prop :=
 match o with
 | some (.ar k2 es u hw ver)=>k2=k/\s=hw/\off+len=es.length/\Zg3 d (.tu []) (Zs st id (.ar k2 (es.take off) u hw (ver+1))) K
 | _=>False
def clf(v:IV)(k:Nat)(d:Option Nat)(st:St)(K:St->Prop):Prop :=
 match v with
 | .hd id p off len _ s=>p=[]/\clg (st.sto id) id off len s k d st K
 | _=>False
theorem ZzS{k:Nat}{z:List Value}:op2 C d (.cl k z x) ⟨lvl,env,loc,out⟩ K=clf (xv env x) k d ⟨lvl,env,loc,out⟩ K:=by
 rw[Jc rfl]
 simp only[ew]
 generalize xv env x=v
 cases v <;> try rfl
 rename_i id p off len cap s
 simp only[clf,clg]
 generalize (⟨lvl,env,loc,out⟩:St).sto id=o
 cases o with
 | none=>simp
 | some ob =>
  cases ob with
  | bx=>simp
  | ar k2 es u hw ver=>simp only[Zdq]
theorem ZxL{id:Oid}{off len s k:Nat}{cap:Option Nat}:clf (.hd id [] off len cap s) k d ⟨lvl,env,loc,out⟩ K=clg (ZG lvl loc out id) id off len s k d ⟨lvl,env,loc,out⟩ K:=by
 simp only[clf,true_and]
 rfl
theorem ZxM{id:Oid}{off len s k k2 hw ver:Nat}{es:Row}{u:Bool}:clg (some (.ar k2 es u hw ver)) id off len s k d st K=(k2=k/\s=hw/\off+len=es.length/\Zg3 d (.tu []) (Zs st id (.ar k2 (es.take off) u hw (ver+1))) K):=(rfl)
def srk(off len:Nat)(F:Row->Prop)(es:Row)(_u:Bool)(_v:Nat):Prop:=off+len<=es.length/\F (cut es off len)
theorem ZxN{off len:Nat}{F:Row->Prop}{es:Row}{u:Bool}{v:Nat}:srk off len F es u v=(off+len<=es.length/\F (cut es off len)):=(rfl)
theorem Zs2{zs:Row}{F:Row->Prop}:Zk8 st (.tr (.sl zs)) F=F zs:=(rfl)
theorem Zs3{zs:Row}{F:Row->Prop}:Zk8 st (.cs zs) F=F zs:=(rfl)
theorem Zs4{id:Oid}{p:Pth}{off len s:Nat}{cap:Option Nat}{F:Row->Prop}:Zk8 ⟨lvl,env,loc,out⟩ (.hd id p off len cap s) F=rd3 (ZG lvl loc out id) p s (srk off len F):=by
 rw[<-Dw]
 rfl
def a3k(zs:Row)(k:Nat)(d:Option Nat)(st:St)(K:St->Prop)(items:Row):Prop :=
 items≠[]/\ScR items/\UnR k zs/\UnR k items/\zs.length+items.length<=bigN/\K ⟨st.lvl,ptd d (.tr (.sl (zs++items))) st.env,st.loc,st.out⟩
theorem ZxO{zs items:Row}{k:Nat}:a3k zs k d ⟨lvl,env,loc,out⟩ K items=(items≠[]/\ScR items/\UnR k zs/\UnR k items/\zs.length+items.length<=bigN/\K ⟨lvl,ptd d (.tr (.sl (zs++items))) env,loc,out⟩):=(rfl)
def a3f(vx vy:IV)(k:Nat)(d:Option Nat)(st:St)(K:St->Prop):Prop :=
 match vx with
 | .cs zs=>Zk8 st vy (a3k zs k d st K)
 | _=>False
theorem ZxP{zs:Row}{vy:IV}{k:Nat}:a3f (.cs zs) vy k d st K=Zk8 st vy (a3k zs k d st K):=(rfl)
theorem ZzT{k:Nat}{x y:X}:op2 C d (.a3 k x y) ⟨lvl,env,loc,out⟩ K=a3f (xv env x) (xv env y) k d ⟨lvl,env,loc,out⟩ K:=by
 rw[J1 rfl]
 simp only[ev]
 generalize xv env x=vx
 cases vx <;> try rfl
 rename_i zs
 have e:∀ items:Row,(items≠[]/\ScR items/\UnR k zs/\UnR k items/\zs.length+items.length<=bigN/\ZS (fun mk obs=>freshK (keyOf d) loc (obs lvl (keyOf d)).length/\K ⟨lvl,ptd d (mk lvl (keyOf d)) env,addO (keyOf d) (obs lvl (keyOf d)) loc,out⟩) (.tr (.sl (zs++items))))=a3k zs k d ⟨lvl,env,loc,out⟩ K items:=fun items=>by
  simp [a3k,ZS,freshK,addO]
 simp only[e]
 rfl
theorem ZzU{k:Nat}{x y:X}:op2 C d (.c0 k x y) ⟨lvl,env,loc,out⟩ K=op2 C d (.cy k x y) ⟨lvl,env,loc,out⟩ K:=by
 rw[Jc rfl,Jc rfl]
 exact propext ⟨ZjE,Zno⟩
def cyk(es:Row)(u:Bool)(hw ver:Nat)(id:Oid)(off len k:Nat)(d:Option Nat)(st:St)(K:St->Prop)(zs:Row):Prop :=
 ScR zs/\UnR k zs/\Zg3 d (iI (min zs.length len:Nat)) (Zs st id (.ar k (es.take off++zs.take len++es.drop (off+min zs.length len)) u hw (ver+1))) K
theorem ZxQ{es:Row}{u:Bool}{hw ver:Nat}{id:Oid}{off len k:Nat}{zs:Row}:cyk es u hw ver id off len k d st K zs=(ScR zs/\UnR k zs/\Zg3 d (iI (min zs.length len:Nat)) (Zs st id (.ar k (es.take off++zs.take len++es.drop (off+min zs.length len)) u hw (ver+1))) K):=(rfl)
def cyg(o:Option Ob)(id:Oid)(off len s k:Nat)(v:IV)(d:Option Nat)(st:St)(K:St->Prop):Prop :=
 match o with
 | some (.ar k2 es u hw ver)=>k2=k/\s=hw/\off+len<=es.length/\ScR es/\Zk8 st v (cyk es u hw ver id off len k d st K)
 | _=>False
def cyf(x v:IV)(k:Nat)(d:Option Nat)(st:St)(K:St->Prop):Prop :=
 match x with
 | .hd id p off len _ s=>p=[]/\cyg (st.sto id) id off len s k v d st K
 | _=>False
theorem ZzV{k:Nat}:op2 C d (.cy k x y) ⟨lvl,env,loc,out⟩ K=cyf (xv env x) (xv env y) k d ⟨lvl,env,loc,out⟩ K:=by
 rw[Jc rfl]
 simp only[ew]
 generalize xv env x=v
 cases v <;> try rfl
 rename_i id p off len cap s
 simp only[cyf,cyg]
 generalize (⟨lvl,env,loc,out⟩:St).sto id=o
 cases o with
 | none=>simp
 | some ob =>
  cases ob with
  | bx=>simp
  | ar k2 es u hw ver =>
   dsimp only
   by_cases hk:k2=k
   ·subst hk
    have:(fun zs=>ScR zs/\UnR k2 zs/\K { Zs ⟨lvl,env,loc,out⟩ id (.ar k2 (es.take off++zs.take len++es.drop (off+min zs.length len)) u hw (ver+1)) with env:=ptd d (iI (min zs.length len:Nat)) env })=cyk es u hw ver id off len k2 d ⟨lvl,env,loc,out⟩ K:=by
     funext zs
     simp only[cyk,Zdq]
    rw[this]
   ·simp [hk]
theorem ZxR{id:Oid}{off len s k:Nat}{cap:Option Nat}{v:IV}:cyf (.hd id [] off len cap s) v k d ⟨lvl,env,loc,out⟩ K=cyg (ZG lvl loc out id) id off len s k v d ⟨lvl,env,loc,out⟩ K:=by
 simp only[cyf,true_and]
 rfl
theorem ZxS{id:Oid}{off len s k k2 hw ver:Nat}{es:Row}{u:Bool}{v:IV}:cyg (some (.ar k2 es u hw ver)) id off len s k v d st K=(k2=k/\s=hw/\off+len<=es.length/\ScR es/\Zk8 st v (cyk es u hw ver id off len k d st K)):=(rfl)
end row
theorem Zs5{α:Type}{F:α->Prop}:op3 none F=False:=(rfl)
end
abbrev tv(n:Int):Tr:=.v (.int .i64 n)
abbrev ts(s:ByteArray):Tr:=.v (.string s)
abbrev rI(l:List Int):Row:=l.map fun n=>[tv n]
abbrev tI(l:List Int):IV:=.tr (.sl (rI l))
abbrev rS(l:List ByteArray):Row:=l.map fun n=>[ts n]
abbrev tS(l:List ByteArray):IV:=.tr (.sl (rS l))
theorem Ze(n:Int):Xt .i64 n=(-9223372036854775808<=n/\n<=9223372036854775807):=by
 simp [Xt,IntKind.min,IntKind.max,IntKind.signed,IntKind.bits]
theorem Zco{α:Type}{k:Nat}(f:α->List Tr)(h:∀ x,(f x).length=k)(l:List α):UnR k (l.map f):=by
 intro e he
 obtain⟨x,_,rfl⟩:=List.mem_map.1 he
 exact h x
end Go.Fd

/-
  FROM THE READER'S FACTS TO TREES: what an input reads as, by its type. Own work.
-/
namespace Go.Fd
def In(w:World)(b:Nat):Prop:=b<w.heap.size
def ZnM(w:World)(cs:List Value)(ts:List Tr):Prop:=∀(j:Nat) (v:Value) (t:Tr),cs[j]? = some v->ts[j]? = some t->Rds w (In w) v t
def X9(P:Program)(t:TypeId){α:Type}(c:α->List Tr)(Q:α->Prop):Prop :=
 ∀(H:Type) (enc:TypeId×Value->H) (w:World) (sp:Nat->Bool) (hd:Bool) (fuel:Nat) (cs:List Value) (x:DataW H×List MemPlace),
  DataW.trod enc P w 0 sp hd fuel t cs=some x->∃ y,Q y/\ZnM w cs (c y)
theorem Zbj{w:World}{v:Value}{t:Tr}(h:Rds w (In w) v t):ZnM w [v] [t]:=fun j v' t' h1 h2=>by
 match j with
 | 0=>simp at h1 h2;subst h1;subst h2;exact h
 | j+1=>simp at h1
theorem ZlP{P:Program}{t:TypeId}(ht:P.underlying t=some (.int .i64)):X9 P t (fun n:Int=>[tv n]) (Xt .i64):=by
 intro H enc w sp hd fuel cs x h
 obtain⟨n,rfl,_,hw⟩:=DataW.trod_int ht h
 exact⟨n,by simpa [Lit.wf,Xt] using hw,Zbj (.v _ rfl)⟩
theorem Zhr{P:Program}{t:TypeId}(ht:P.underlying t=some .string):X9 P t (fun n:ByteArray=>[ts n]) (fun n=>n.size<=9223372036854775807):=by
 intro H enc w sp hd fuel cs x h
 obtain⟨n,rfl,_,hw⟩:=DataW.trod_string ht h
 exact⟨n,hw,Zbj (.v _ rfl)⟩
theorem Zp5{w:World}{a:Addr}{v:Value}(h:w.cell? a=some v):a.block<w.heap.size:=by
 unfold World.cell? at h
 cases hh:w.heap[a.block]? with
 | none=>rw[hh] at h;cases h
 | some o=>exact(Array.getElem?_eq_some_iff.1 hh).1
theorem ZiF{α:Type}(n:Nat)(R:Nat->α->Prop)(h:∀ i,i<n->∃ y,R i y):∃ l:List α,l.length=n/\∀ i y,l[i]? = some y->R i y:=by
 induction n with
 | zero=>exact⟨[],rfl,fun i y h=>by simp at h⟩
 | succ n ih =>
  obtain⟨l,hl,hr⟩:=ih (fun i hi=>h i (by omega))
  obtain⟨y,hy⟩:=h n (by omega)
  refine⟨l++[y],by simp [hl],fun i z hz=>?_⟩
  by_cases hi:i<n
  ·rw[List.getElem?_append_left (by omega)] at hz;exact hr i z hz
  ·have hlt:=(List.getElem?_eq_some_iff.1 hz).1
   simp only[List.length_append,List.length_singleton] at hlt
   have:i=n:=by omega
   subst this
   rw[List.getElem?_append_right (by omega),hl,Nat.sub_self] at hz
   simp at hz
   exact hz ▸ hy
theorem Wa{P:Program}{t e:TypeId}{k:Nat}{α:Type}{c:α->List Tr}{Q:α->Prop}(ht:P.underlying t=some (.slice e))(hk:P.cellsOf e=k+1)(hc:∀ x,(c x).length=k+1)
  (he:X9 P e c Q):X9 P t (fun l:List α=>[.sl (l.map c)]) (fun l=>l.length<=9223372036854775807/\∀ x∈l,Q x):=by
 intro H enc w sp hd fuel cs x h
 rcases DataW.trod_slice ht h with ⟨rfl,_⟩ | ⟨a,len,cap,elems,rest,n,_,rfl,_,_,hl,hm,hlen,hel,_,_⟩
 ·exact⟨[],⟨by simp,by simp⟩,Zbj (.nil none 0)⟩
 ·have each:∀ i,i<len->∃ y,Q y/\∀ j t,(c y)[j]? = some t->∃ v,w.cell? (a.add (i*(k+1)+j))=some v/\Rds w (In w) v t:=fun i hi=>by
   have h1:=hel i hi
   rw[hk] at h1
   obtain⟨z,hz⟩:∃ z,elems[i]? = some z:=⟨elems[i]'(by omega),List.getElem?_eq_getElem _⟩
   rw[hz,Option.bind_eq_some_iff] at h1
   obtain⟨row,hrow,hx⟩:=h1
   obtain⟨y,hy,hr⟩:=he H enc w sp hd n row z hx
   obtain⟨_,hrl,hg⟩:=World.cells?_some hrow
   refine⟨y,hy,fun j t hj=>?_⟩
   have hjk:j<k+1:=by rw[<-hc y];exact(List.getElem?_eq_some_iff.1 hj).1
   have hv:row[j]? = some (row[j]'(by omega)):=List.getElem?_eq_getElem _
   have:=hg j hjk
   rw[hv] at this
   have e2:(a.add (i*(k+1))).add j=a.add (i*(k+1)+j):=by
    unfold Addr.add
    by_cases h0:i*(k+1)=0
    ·simp [h0]
    ·by_cases h1:j=0
     ·simp [h1,h0]
     ·have h2:¬ (i*(k+1)+j=0):=by omega
      simp only[if_neg h0,if_neg h1,if_neg h2,Addr.mk.injEq,and_true,true_and]
      omega
   rw[e2] at this
   exact⟨_,this,hr j _ t hv hj⟩
  obtain⟨l,hll,hlr⟩:=ZiF len _ each
  refine⟨l,⟨?_,fun y hy=>?_⟩,Zbj ?_⟩
  ·rw[hll];exact Nat.le_trans hl hm
  ·obtain⟨i,hi⟩:=List.getElem?_of_mem hy
   exact(hlr i y hi).1
  ·by_cases h0:len=0
   ·have:l=[]:=List.eq_nil_of_length_eq_zero (by omega)
    subst this;subst h0
    exact .nil _ _
   ·obtain⟨y0,hy0⟩:∃ y0,l[0]? = some y0:=⟨l[0]'(by omega),List.getElem?_eq_getElem _⟩
    obtain⟨t0,ht0⟩:∃ t0,(c y0)[0]? = some t0:=⟨(c y0)[0]'(by rw[hc];omega),List.getElem?_eq_getElem _⟩
    obtain⟨v0,hv0,_⟩:=(hlr 0 y0 hy0).2 0 t0 ht0
    obtain⟨b,o,s⟩:=a
    have hs:s=none:=by simpa [Addr.add] using World.cell?_spot hv0
    subst hs
    have hb:b<w.heap.size:=by simpa [Addr.add] using Zp5 hv0
    have hel2:∀ i e j t,(l.map c)[i]? = some e->e[j]? = some t->∃ v,w.cell? ⟨b,o+i*(k+1)+j,none⟩=some v/\Rds w (In w) v t:=fun i e j t h1 h2=>by
     rw[List.getElem?_map,Option.map_eq_some_iff] at h1
     obtain⟨y,hy,rfl⟩:=h1
     obtain⟨v,hv,hr⟩:=(hlr i y hy).2 j t h2
     refine⟨v,?_,hr⟩
     rw[<-hv]
     congr 1
     unfold Addr.add
     by_cases h0:i*(k+1)+j=0
     ·have:o+i*(k+1)+j=o:=by omega
      rw[if_pos h0,this]
     ·rw[if_neg h0]
      have:o+i*(k+1)+j=o+(i*(k+1)+j):=by omega
      simp only[this]
    have hlm:(l.map c).length=len:=by simpa using hll
    have:=Rds.sl (w:=w) (A:=In w) b o cap (k+1) (l.map c) (fun i j=>(w.cell? ⟨b,o+i*(k+1)+j,none⟩).getD .nilFunc) hb
     (fun e he=>by simp only[List.mem_map] at he;obtain⟨y,_,rfl⟩:=he;exact hc y) (by omega)
     (fun i e j t h1 h2=>by obtain⟨v,hv,_⟩:=hel2 i e j t h1 h2;rw[hv];rfl)
     (fun i e j t h1 h2=>by obtain⟨v,hv,hr⟩:=hel2 i e j t h1 h2;rw[hv];exact hr)
    rw[hlm] at this
    exact this
def ZcM(P:Program)(o:Nat)(l:List (Nat×TypeId)){α:Type}(c:α->List Tr)(Q:α->Prop):Prop :=
 ∀(H:Type) (enc:TypeId×Value->H) (w:World) (sp:Nat->Bool) (hd:Bool) (fuel:Nat) (cs:List Value),
  (∀ p∈l,∃ x,DataW.trod enc P w 0 sp hd fuel p.2 ((cs.drop p.1).take (P.cellsOf p.2))=some x)->∃ y,Q y/\ZnM w (cs.drop o) (c y)
theorem Zac{P:Program}{o:Nat}:ZcM P o [] (fun _:Unit=>[]) (fun _=>True):=fun H enc w sp hd fuel cs _=>⟨(),trivial,fun j v t _ h=>by simp at h⟩
theorem Jp{P:Program}{o k:Nat}{t:TypeId}{l:List (Nat×TypeId)}{α β:Type}{c:α->List Tr}{Q:α->Prop}{c2:β->List Tr}{Q2:β->Prop}
  (hk:P.cellsOf t=k) (hc:∀ x,(c x).length=k) (h1:X9 P t c Q) (h2:ZcM P (o+k) l c2 Q2) :
  ZcM P o ((o,t)::l) (fun p:α×β=>c p.1++c2 p.2) (fun p=>Q p.1/\Q2 p.2):=fun H enc w sp hd fuel cs h=>by
 obtain⟨x,hx⟩:=h (o,t) (by simp)
 obtain⟨y,hy,hr⟩:=h1 _ _ _ _ _ _ _ _ hx
 obtain⟨y2,hy2,hr2⟩:=h2 H enc w sp hd fuel cs (fun p hp=>h p (by simp [hp]))
 refine⟨(y,y2),⟨hy,hy2⟩,fun j v t' hv ht=>?_⟩
 by_cases hj:j<k
 ·rw[List.getElem?_append_left (by rw[hc];exact hj)] at ht
  refine hr j v t' ?_ ht
  rw[hk,List.getElem?_take_of_lt hj]
  exact hv
 ·rw[List.getElem?_append_right (by rw[hc];omega),hc] at ht
  refine hr2 (j-k) v t' ?_ ht
  rw[List.getElem?_drop] at hv ⊢
  rw[<-hv]
  congr 1
  omega
theorem WJ{P:Program}{t:TypeId}{fs:Array Field}{α:Type}{c:α->List Tr}{Q:α->Prop}(ht:P.underlying t=some (.struct fs))(h:ZcM P 0 (fs.toList.map fun f=>(f.offset,f.type)) c Q):X9 P t c Q:=by
 intro H enc w sp hd fuel cs x hx
 obtain⟨xs,n,_,_,_,hl,hf⟩:=DataW.trod_struct ht hx
 have:=h H enc w sp hd n cs (fun p hp=>by
  simp only[List.mem_map] at hp
  obtain⟨f,hf1,rfl⟩:=hp
  obtain⟨i,hi⟩:=List.getElem?_of_mem hf1
  have hi':fs[i]? = some f:=by simpa using hi
  have hlt:i<xs.length:=by rw[hl];exact(Array.getElem?_eq_some_iff.1 hi').1
  exact⟨_,(hf i f hi').trans (List.getElem?_eq_getElem hlt)⟩)
 simpa using this
theorem ZlQ{P:Program}{t:TypeId}{α β:Type}{c:α->List Tr}{Q:α->Prop}{c2:β->List Tr}{Q2:β->Prop}(g:α->β)(hg:∀ x,c2 (g x)=c x)(hq:∀ x,Q x->Q2 (g x))(h:X9 P t c Q):X9 P t c2 Q2:=by
 intro H enc w sp hd fuel cs x hx
 obtain⟨y,hy,hr⟩:=h H enc w sp hd fuel cs x hx
 exact⟨g y,hq y hy,by rw[hg];exact hr⟩
theorem Zdr{P:Program}{t:TypeId}{α β:Type}{c:α->List Tr}{Q:α->Prop}{c2:β->List Tr}{Q2:β->Prop}(h:X9 P t c Q)(g:α->β)(hg:∀ x,c2 (g x)=c x)(hq:∀ x,Q x->Q2 (g x)):X9 P t c2 Q2:=ZlQ g hg hq h
end Go.Fd

/-
  FROM A CONTRACT OF A LAW TO WHAT ITS ROW ASKS. Own work.
-/
namespace Go.Fd
variable [Tabs]
open Go.RowKit
def G0:Gh:=fun _ _=>none
def S0:Sto:=fun _=>none
theorem Av0{w:World}{b:Nat}(h:In w b):Av G0 S0 w b:=⟨h,fun id ob hs=>by cases hs⟩
theorem Zfr{w:World}:∀{cs:List Value} {ts:List Tr},cs.length=ts.length->ZnM w cs ts->VRs G0 S0 w (ts.map .tr) cs
 | [],[],_,_=>by simp [VRs]
 | v::cs,t::ts,hl,h=>by
  simp only[List.map_cons,VRs]
  refine⟨v,cs,rfl,?_,Zfr (by simpa using hl) (fun j v' t' h1 h2=>h (j+1) v' t' (by simpa using h1) (by simpa using h2))⟩
  simp only[VR]
  exact Rds.mono (fun b=>Av0) (fun b _=>rfl) (h 0 v t rfl rfl)
 | [],_::_,hl,_=>by simp at hl
 | _::_,[],hl,_=>by simp at hl
theorem Zhs{P:Program}{f:FuncId}{args:List IV}{b:Bool}{w:World}{vs:List Value}(h:Sem P f 0 args S0 (iB b) S0)(hv:VRs G0 S0 w args vs)(hg:Tabs.good w) :
  Calls P f vs.toArray w fun e w' => e = .returned (.bool b)/\Below w.heap.size w w':=by
 obtain⟨_,_,h⟩:=h
 refine(h (fun id ob hs=>by cases hs) G0 w vs ⟨fun id ob hs=>(nomatch hs),fun id ob id2 ob2 b2 hs=>(nomatch hs),fun id cells hs=>(nomatch hs)⟩ hv ⟨w,hg,Nat.le_refl _,fun b hb=>⟨⟨hb,fun id ob hs=>by cases hs⟩,rfl⟩⟩).mono ?_
 rintro e w' ⟨v,G',rfl,_,hr,_,hf⟩
 have hr':Rds w' (Av G' (VL S0 0 0 (impv true 0 0 0 (iB b)).2) w') v (.v (.bool b)):=hr
 cases hr' with
 | v x hx =>
  exact⟨rfl,hf.os,hf.tape,hf.output,hf.size,fun k hk=>hf.old k hk (fun id ob hs=>by cases hs)⟩
theorem ZlR{P:Program}{w:World}{r:Reach}{base:Nat}{t e:TypeId}{v:Value}(ht:P.underlying t=some (.slice e))(h:Value.okWide P w r base t v):v.cells.toList=[v]:=by
 unfold Value.okWide at h
 rw[ht] at h
 simp only[Cell.okWide,ht,Cell.ok] at h
 cases v <;> first | rfl | exact absurd h (by simp)
theorem Zkv{P:Program}{w:World}{r:Reach}{base:Nat}{t:TypeId}{fs:Array Field}{v:Value}(ht:P.underlying t=some (.struct fs))(h:Value.okWide P w r base t v):∃ cs,v = .agg cs/\cs.size=P.cellsOf t:=by
 unfold Value.okWide at h
 rw[ht] at h
 obtain⟨cs,h1,h2,_⟩:=h
 exact⟨cs,h1,h2⟩
section
variable {H:Type} {enc:TypeId×Value->H} {P:Program} {w:World} {t:TypeId} {v:Value} {d:DataW H} {p:List MemPlace} {α:Type} {c:α->List Tr} {Q:α->Prop} {sp:Nat->Bool} {hd:Bool} {base:Nat}
theorem ZdZ{fs:Array Field}{k:Nat}(hr:X9 P t c Q)(ht:P.underlying t=some (.struct fs))(hk:P.cellsOf t=k)(hc:∀ x,(c x).length=k)(hok:Value.okWide P w .any base t v)(h:DataW.Trod enc P w 0 sp hd t v d p) :
  ∃ y,Q y/\VR G0 S0 w (.ag ((c y).map .tr)) v:=by
 obtain⟨cs,rfl,hs⟩:=Zkv ht hok
 obtain⟨n,hn⟩:=h
 obtain⟨y,hy,hrow⟩:=hr H enc w sp hd n _ _ hn
 refine⟨y,hy,?_⟩
 simp only[VR]
 refine⟨cs.toList,by simp,Zfr ?_ hrow⟩
 rw[hc,<-hk,<-hs]
 simp
theorem ZnN{e:TypeId}{g:α->Tr}(hr:X9 P t (fun x=>[g x]) Q)(ht:P.underlying t=some (.slice e))(hok:Value.okWide P w .any base t v)(h:DataW.Trod enc P w 0 sp hd t v d p) :
  ∃ y,Q y/\VR G0 S0 w (.tr (g y)) v:=by
 obtain⟨n,hn⟩:=h
 rw[ZlR ht hok] at hn
 obtain⟨y,hy,hrow⟩:=hr H enc w sp hd n _ _ hn
 refine⟨y,hy,?_⟩
 simp only[VR]
 exact Rds.mono (fun b=>Av0) (fun b _=>rfl) (hrow 0 v _ rfl rfl)
end
theorem Zf8{H:Type}{enc:TypeId×Value->H}{P:Program}{f:Func}{s:ChangeSpec}{apart:Bool}{W W':World}{args:Array Value}{v:Value}{ds gs:List (DataW H)}{before pa pv:List MemPlace}
  (hW:DataW.Whole enc P f.params.toList s.vars apart W args.toList ds gs before) (hb:Below W.heap.size W W')
  (hres:DataW.TrodAll enc P W' W.heap.size (fun _=>false) false f.resultTypes.toList (v.resultList f.resultTypes.size) (s.fn H (ds++gs)).results [])
  (hargs:DataW.TrodAll enc P W' 0 (fun b=>decide (b<W.heap.size)) true f.params.toList args.toList (s.fn H (ds++gs)).args pa)
  (hvars:DataW.TrodVars enc P W' (fun b=>decide (b<W.heap.size)) s.vars (s.fn H (ds++gs)).vars pv) :
  s.post enc P f apart true false false W args v W' :=
 ⟨ds,gs,before,[],pa,pv,hW,hres,hargs,hvars,hb.frame _,fun h=>by cases h⟩
end Go.Fd

/-
  FOUNDATION 50: contracts of the library, taken over: calls that read scalars alone and answer scalars. Own work.
-/
namespace Go.Fd
variable [Tabs]
open Go.RowKit
theorem Zht{w w':World}(h:Below w.heap.size w w'):Ext w w':=⟨h.size,h.block,h.os,h.tape,h.output⟩
theorem ZjO{G:Gh}{S:Sto}{w:World}:∀{xs vs:List Value},VRs G S w (xs.map fun v=>.tr (.v v)) vs->vs=xs
 | [],vs,h=>by simpa [VRs] using h
 | x::r,vs,h=>by
  simp only[List.map_cons,VRs] at h
  obtain⟨v,vr,rfl,h1,h2⟩:=h
  rw[ZjO h2]
  have h1':Rds w (Av G S w) v (.v x):=h1
  cases h1'
  rfl
theorem ZiG{P:Program}{f:FuncId}{lvl:Nat}{S:Sto}{args:List IV}{r:IV}(hc:UD P f)(hi:impv true lvl 0 0 r=(r,[]))(hlow:low lvl r)
  (h:(∀ id ob,S id=some ob->id.1<lvl)->∀ G w vs,SOk G S w->VRs G S w args vs->Fix G S w->Calls P f vs.toArray w fun e w' => ∃ v,e = .returned v/\VR G S w' r v/\Below w.heap.size w w'):Sem P f lvl args S r S:=by
 refine⟨hlow,hc,fun hS G w vs hok hv hfx=>?_⟩
 refine(h hS G w vs hok hv hfx).mono ?_
 rintro e w' ⟨v,rfl,hr,hb⟩
 rw[hi]
 have e:Ext w w':=Zht hb
 exact⟨v,G,rfl,hok.ext e,hr,hS,Frm.of_ext e⟩
theorem Zkw{P:Program}{f:FuncId}{lvl:Nat}{S:Sto}{args:List IV}{r:IV}(hc:UD P f)(hi:impv true lvl 0 0 r=(r,[]))(hlow:low lvl r)
  (h:(∀ id ob,S id=some ob->id.1<lvl)->∀ G w vs,SOk G S w->VRs G S w args vs->Calls P f vs.toArray w fun e w' => ∃ v,e = .returned v/\VR G S w' r v/\Below w.heap.size w w'):Sem P f lvl args S r S :=
 ZiG hc hi hlow fun hS G w vs hok hv _=>h hS G w vs hok hv
theorem ZiH{P:Program}{f:FuncId}{lvl:Nat}{S:Sto}{xs:List Value}{y:Value}(hc:UD P f)(hy:Dl y=true)
  (h:∀ w,Calls P f xs.toArray w fun e w' => e = .returned y/\Below w.heap.size w w'):Sem P f lvl (xs.map fun v=>.tr (.v v)) S (.tr (.v y)) S:=by
 refine Zkw hc rfl trivial fun _ G w vs _ hv=>?_
 rw[ZjO hv]
 exact(h w).mono fun e w' ⟨h1,h2⟩=>⟨y,h1,.v y hy,h2⟩
end Go.Fd

/-
  FOUNDATION 51: a loop that counts, told by what changes. Own work.
-/
namespace Go.Fd
def pts:List (Nat×IV)->List (Nat×IV)->List (Nat×IV)
 | [],env=>env
 | (t,x)::r,env=>pts r (pt t x env)
def ZqH:List (Nat×Ob)->List (Nat×Ob)->List (Nat×Ob)
 | [],loc=>loc
 | (t,x)::r,loc=>ZqH r (ptO t x loc)
def chg(ce:List (Nat×IV))(co:List (Nat×Ob))(s:St):St:=⟨s.lvl,pts ce s.env,ZqH co s.loc,s.out⟩
section
variable {C:Zn} {lvl:Nat} {env:List (Nat×IV)} {loc:List (Nat×Ob)} {out:Sto} {st:St} {Q:Ex->St->Prop}
theorem ZxT{ce:List (Nat×IV)}{co:List (Nat×Ob)}:chg ce co ⟨lvl,env,loc,out⟩=⟨lvl,pts ce env,ZqH co loc,out⟩:=(rfl)
theorem Zs6:pts [] env=env:=(rfl)
theorem Zs7{t:Nat}{x:IV}{r:List (Nat×IV)}:pts ((t,x)::r) env=pts r (pt t x env):=(rfl)
theorem Zp6:ZqH [] loc=loc:=(rfl)
theorem Zp7{t:Nat}{x:Ob}{r:List (Nat×Ob)}:ZqH ((t,x)::r) loc=ZqH r (ptO t x loc):=(rfl)
theorem ZL{α:Type}{ks js:List Nat}{c:C2}(N:Nat)(ce:Nat->α->List (Nat×IV))(co:Nat->α->List (Nat×Ob))(A:Nat->α->Prop)(x0:α)
  (h1:clean ks js st) (h0:fgt ks js st=chg (ce 0 x0) (co 0 x0) (fgt ks js st)) (hA:A 0 x0)
  (hs:∀ k x,k<=N->A k x->wp C c (chg (ce k x) (co k x) (fgt ks js st)) (ZdY ks js (Zw2 N (fun k x=>chg (ce k x) (co k x) (fgt ks js st)) A (N-k)) Q)):wp C (.lp ks js c) st Q :=
 ZY N (fun k x=>chg (ce k x) (co k x) (fgt ks js st)) A x0 ⟨h1,h0⟩ hA hs
end
section
variable {L:Sto} {F:List IV->Prop} {r:List IV}
def ZyE(L:Sto)(r:List IV)(F:List IV->Prop)(y:IV):Prop:=Jw L r (kcn y F)
theorem Zs8{y:IV}:ZyE L r F y=Jw L r (kcn y F):=(rfl)
theorem ZxU{id:Oid}{off:Nat}:Jw L (.ab id off::r) F=ZfC (L id) L off (ZyE L r F):=by simp only[Jw,Xs];rfl
def kta(F:IV->Prop)(ts:List Tr):Prop:=F (.ta ts)
theorem ZxV{F:IV->Prop}{ts:List Tr}:kta F ts=F (.ta ts):=(rfl)
theorem ZxW{cells:List IV}{off:Nat}{F:IV->Prop}:ZfC (some (.bx cells)) L off F=Qk L (cells.drop off) (kta F):=(rfl)
def kct(t:Tr)(F:List Tr->Prop)(ts:List Tr):Prop:=F (t::ts)
theorem ZxX{t:Tr}{F:List Tr->Prop}{ts:List Tr}:kct t F ts=F (t::ts):=(rfl)
def ZyF(L:Sto)(r:List IV)(F:List Tr->Prop)(t:Tr):Prop:=Qk L r (kct t F)
theorem Zs9{F:List Tr->Prop}{t:Tr}:ZyF L r F t=Qk L r (kct t F):=(rfl)
theorem Zta{F:List Tr->Prop}:Qk L [] F=F []:=(rfl)
theorem Ztb{x:IV}{F:List Tr->Prop}:Qk L (x::r) F=Za3 L x (ZyF L r F):=(rfl)
theorem Ztc{t:Tr}{F:Tr->Prop}:Za3 L (.tr t) F=F t:=(rfl)
theorem Ztd{es:Row}{F:Tr->Prop}:Za3 L (.cs es) F=F (.sl es):=(rfl)
def ZyG(off len:Nat)(F:Tr->Prop)(es:Row)(_u:Bool)(_v:Nat):Prop:=off+len<=es.length/\F (.sl (cut es off len))
theorem Zte{off len:Nat}{F:Tr->Prop}{es:Row}{u:Bool}{v:Nat}:ZyG off len F es u v=(off+len<=es.length/\F (.sl (cut es off len))):=(rfl)
theorem Ztf{id:Oid}{p:Pth}{off len s:Nat}{cap:Option Nat}{F:Tr->Prop}:Za3 L (.hd id p off len cap s) F=rd3 (L id) p s (ZyG off len F):=by rw[<-Dw];rfl
end
theorem Ztg{α:Type}{x:α}:List.replicate 1 x=[x]:=(rfl)
theorem Zth{e:List Tr}:cut [e] 0 1=[e]:=(rfl)
theorem Zti{l:List Tr}:ScR [l]=(l.all isSc=true):=by
 apply propext
 constructor
 ·intro h
  exact List.all_eq_true.2 fun t ht=>h l (by simp) t ht
 ·intro h e he t ht
  simp only[List.mem_singleton] at he
  subst he
  exact List.all_eq_true.1 h t ht
theorem Ztj{k:Nat}{l:List Tr}:UnR k [l]=(l.length=k):=by
 apply propext
 constructor
 ·intro h;exact h l (by simp)
 ·intro h e he
  simp only[List.mem_singleton] at he
  rw[he,h]
theorem ZxY{j:Nat}:max j (j+1)=j+1:=by omega
theorem ZxZ{j:Nat}:(j<j+1)=True:=by simp
end Go.Fd

/-
  FOUNDATION 52: numbers and strings as parameters of a law. Own work.
-/
namespace Go.Fd
open Go.RowKit Go.ChangeShapes Go.ChangeMaps Go.WideMaps
section
variable {H:Type} {enc:TypeId×Value->H} {P:Program} {w:World} {t:TypeId} {v:Value} {d:DataW H} {p:List MemPlace} {sp:Nat->Bool} {hd:Bool} {base:Nat}
end
end Go.Fd

/-
  FOUNDATION 54: all rules in one word (printed by evr.py). Own work.
-/
namespace Go.Fd
set_option linter.defProp false in
def EV0:=(And.intro (And.intro (And.intro (And.intro (And.intro @Zre @Zu7) (And.intro @Zrf (And.intro @Zrg @Zrh))) (And.intro (And.intro @Zri @Zrj) (And.intro @Zrk (And.intro @Zrl @Zu8)))) (And.intro (And.intro (And.intro @Zu9 @Zva) (And.intro @ZyR (And.intro @ZyS @ZyT))) (And.intro (And.intro @ZyU @ZyV) (And.intro @ZyW (And.intro @ZyX @ZyY))))) (And.intro (And.intro (And.intro (And.intro @Zvb @Zvc) (And.intro @Zvd (And.intro @Zrm @ZyZ))) (And.intro (And.intro @Zve @Zvf) (And.intro @Zy0 (And.intro @Zvg @Zrn)))) (And.intro (And.intro (And.intro @Zy1 @Zvh) (And.intro @Zy2 (And.intro @Zvi @Zy3))) (And.intro (And.intro @Zvj @Zy4) (And.intro @Zy5 (And.intro @Zy6 @Znx))))))
set_option linter.defProp false in
def EV1:=(And.intro (And.intro (And.intro (And.intro (And.intro @Zny @Zvk) (And.intro @Zpm (And.intro @Zy7 @Zvl))) (And.intro (And.intro @Zy8 @Zrp) (And.intro @Zrq (And.intro @Zrr @Zrs)))) (And.intro (And.intro (And.intro @Zrt @Zru) (And.intro @Zvm (And.intro @Zvn @Zvo))) (And.intro (And.intro @Zvp @Zvq) (And.intro @Zvr (And.intro @Zvs @Zvt))))) (And.intro (And.intro (And.intro (And.intro @Zvu @Zvv) (And.intro @Zvw (And.intro @Zvx @Zvy))) (And.intro (And.intro @Zvz @ZvA) (And.intro @ZvB (And.intro @Zrv @Zrw)))) (And.intro (And.intro (And.intro @Zrx @ZvC) (And.intro @ZvD (And.intro @ZvE @ZvF))) (And.intro (And.intro @Zy9 @Zza) (And.intro @ZvG (And.intro @Zzb @ZvH))))))
set_option linter.defProp false in
def EV2:=(And.intro (And.intro (And.intro (And.intro (And.intro @Zzc @ZvI) (And.intro @ZvJ (And.intro @ZvK @ZvL))) (And.intro (And.intro @Zzd @ZvM) (And.intro @Zze (And.intro @ZvN @ZvO)))) (And.intro (And.intro (And.intro @ZvP @Zzf) (And.intro @ZvQ (And.intro @Zzg @Zzh))) (And.intro (And.intro @ZvR @ZvS) (And.intro @Zzi (And.intro @ZvT @ZvU))))) (And.intro (And.intro (And.intro (And.intro @ZvV @Zzj) (And.intro @ZvW (And.intro @Zzk @ZvX))) (And.intro (And.intro @ZvY @ZvZ) (And.intro @Zzl (And.intro @Zv0 @Zv1)))) (And.intro (And.intro (And.intro @Zv2 @Zzm) (And.intro @Zv3 (And.intro @Zv4 @Zv5))) (And.intro (And.intro @Zzn @Zv6) (And.intro @Zv7 (And.intro @Zv8 @Zv9))))))
set_option linter.defProp false in
def EV3:=(And.intro (And.intro (And.intro (And.intro (And.intro @Zwa @Znz) (And.intro @ZnA (And.intro @Zwb @Zry))) (And.intro (And.intro @Zwc @Zzo) (And.intro @Zwd (And.intro @Zwe @Zwf)))) (And.intro (And.intro (And.intro @Zwg @Zzp) (And.intro @Zwh (And.intro @Zzq @Zwi))) (And.intro (And.intro @Zwj @Yc) (And.intro @Dx (And.intro @Zrz @Zwk))))) (And.intro (And.intro (And.intro (And.intro @Vx @Zwl) (And.intro @Zwm (And.intro @Zwn @ZrA))) (And.intro (And.intro @ZrB @ZrD) (And.intro @Zpn (And.intro @Zzr @Zwo)))) (And.intro (And.intro (And.intro @Zwp @Zwq) (And.intro @Zwr (And.intro @ZrE @Zws))) (And.intro (And.intro @Zwt @Zwu) (And.intro @Zwv (And.intro @Zww @ZrF))))))
set_option linter.defProp false in
def EV4:=(And.intro (And.intro (And.intro (And.intro (And.intro @ZrG @Zwx) (And.intro @ZrH (And.intro @ZrI @Zzs))) (And.intro (And.intro @Zwy @Zwz) (And.intro @ZwA (And.intro @ZwB @ZrJ)))) (And.intro (And.intro (And.intro @Zzt @ZwC) (And.intro @Zzu (And.intro @ZwD @ZwE))) (And.intro (And.intro @ZwF @Zzv) (And.intro @ZwG (And.intro @ZwH @ZwI))))) (And.intro (And.intro (And.intro (And.intro @ZrK @ZrL) (And.intro @ZrM (And.intro @ZrN @Zpo))) (And.intro (And.intro @ZrO @ZwJ) (And.intro @ZwK (And.intro @ZwL @ZrP)))) (And.intro (And.intro (And.intro @ZwM @ZwN) (And.intro @ZwO (And.intro @Zzw @ZwP))) (And.intro (And.intro @ZwQ @ZrQ) (And.intro @ZwR (And.intro @ZrR @ZwS))))))
set_option linter.defProp false in
def EV5:=(And.intro (And.intro (And.intro (And.intro (And.intro @ZrS @ZwT) (And.intro @ZrT (And.intro @ZwU @ZrU))) (And.intro (And.intro @ZrV @ZrW) (And.intro @ZwV (And.intro @Zpp @Zpq)))) (And.intro (And.intro (And.intro @ZwW @ZrX) (And.intro @ZrY (And.intro @ZrZ @Zr0))) (And.intro (And.intro @Zr1 @ZwX) (And.intro @Zr2 (And.intro @ZwY @Zr3))))) (And.intro (And.intro (And.intro (And.intro @Zpr @Zps) (And.intro @Zpt (And.intro @Zpu @Zpv))) (And.intro (And.intro @Zpw @Zpx) (And.intro @ZwZ (And.intro @ZnB @ZnC)))) (And.intro (And.intro (And.intro @Zpy @Zpz) (And.intro @ZpA (And.intro @ZpB @ZnD))) (And.intro (And.intro @ZnE @ZnF) (And.intro @ZnG (And.intro @ZnH @ZnI))))))
set_option linter.defProp false in
def EV6:=(And.intro (And.intro (And.intro (And.intro (And.intro @ZpC @ZpD) (And.intro @ZpE (And.intro @Zr4 @Zr5))) (And.intro (And.intro @Zw0 @ZpF) (And.intro @Zr6 (And.intro @Zr7 @ZpG)))) (And.intro (And.intro (And.intro @Zr8 @Zr9) (And.intro @Zsa (And.intro @Zsb @Zsc))) (And.intro (And.intro @Zsd @Zse) (And.intro @ZpH (And.intro @ZpI @ZpJ))))) (And.intro (And.intro (And.intro (And.intro @ZpK @Zsf) (And.intro @Zsg (And.intro @Zsh @Zsi))) (And.intro (And.intro @Zsj @ZnJ) (And.intro @ZnK (And.intro @ZnL @Zzx)))) (And.intro (And.intro (And.intro @Zw3 @Zw4) (And.intro @Zw5 (And.intro @VX @VY))) (And.intro (And.intro @ZpL @ZpM) (And.intro @Zsk (And.intro @Zsl @Zsm))))))
set_option linter.defProp false in
def EV7:=(And.intro (And.intro (And.intro (And.intro (And.intro @Zsn @Zso) (And.intro @Zsp (And.intro @Zsq @Zsr))) (And.intro (And.intro @Zss @ZpN) (And.intro @Zw6 (And.intro @ZpO @ZpP)))) (And.intro (And.intro (And.intro @Zw7 @Zw8) (And.intro @Zw9 (And.intro @Zxa @Zst))) (And.intro (And.intro @Zsu @Zsv) (And.intro @Zxb (And.intro @Zzy @Zxc))))) (And.intro (And.intro (And.intro (And.intro @Zxd @Zxe) (And.intro @Zxf (And.intro @Zxg @ZpQ))) (And.intro (And.intro @ZpR @Zsw) (And.intro @Zsx (And.intro @Zsy @Zsz)))) (And.intro (And.intro (And.intro @Zxh @ZsB) (And.intro @ZpS (And.intro @ZpT @ZsC))) (And.intro (And.intro @ZsD @Zzz) (And.intro @ZzA (And.intro @ZpU @ZpV))))))
set_option linter.defProp false in
def EV8:=(And.intro (And.intro (And.intro (And.intro (And.intro @ZzB @ZzC) (And.intro @Zxi (And.intro @Zxj @ZzD))) (And.intro (And.intro @ZzE @Zxk) (And.intro @Zxl (And.intro @Zxm @Zxn)))) (And.intro (And.intro (And.intro @Zxo @ZzF) (And.intro @ZsE (And.intro @ZsF @ZzG))) (And.intro (And.intro @ZsG @ZsH) (And.intro @ZsI (And.intro @ZsJ @ZsK))))) (And.intro (And.intro (And.intro (And.intro @ZzH @ZzI) (And.intro @ZsL (And.intro @ZsM @ZsN))) (And.intro (And.intro @Zxp @ZzJ) (And.intro @Zxq (And.intro @Zxr @ZsO)))) (And.intro (And.intro (And.intro @ZsP @Zxs) (And.intro @ZsQ (And.intro @ZsR @Zxt))) (And.intro (And.intro @ZsS @Zxv) (And.intro @ZsT (And.intro @ZpW @Zf7))))))
set_option linter.defProp false in
def EV9:=(And.intro (And.intro (And.intro (And.intro (And.intro @ZzK @Zxw) (And.intro @Zxx (And.intro @ZsU @ZzL))) (And.intro (And.intro @Zxy @ZzM) (And.intro @Zxz (And.intro @ZxA @ZxB)))) (And.intro (And.intro (And.intro @ZzN @ZxC) (And.intro @ZxD (And.intro @ZsV @ZsW))) (And.intro (And.intro @ZzO @ZxE) (And.intro @ZzP (And.intro @ZxF @ZxG))))) (And.intro (And.intro (And.intro (And.intro @ZxH @ZpX) (And.intro @ZpY (And.intro @ZsX @ZsY))) (And.intro (And.intro @ZsZ @Zs0) (And.intro @ZpZ (And.intro @ZlO @ZzQ)))) (And.intro (And.intro (And.intro @Zp0 @Zp1) (And.intro @Zp2 (And.intro @Zp3 @Zp4))) (And.intro (And.intro @Zs1 @ZzR) (And.intro @ZxJ (And.intro @ZxK @ZzS))))))
set_option linter.defProp false in
def ZzW:=(And.intro (And.intro (And.intro (And.intro (And.intro @ZxL @ZxM) (And.intro @ZxN (And.intro @Zs2 @Zs3))) (And.intro (And.intro @Zs4 @ZxO) (And.intro @ZxP (And.intro @ZzT @ZzU)))) (And.intro (And.intro (And.intro @ZxQ @ZzV) (And.intro @ZxR (And.intro @ZxS @Zs5))) (And.intro (And.intro @ZxT @Zs6) (And.intro @Zs7 (And.intro @Zp6 @Zp7))))) (And.intro (And.intro (And.intro (And.intro @Zs8 @ZxU) (And.intro @ZxV (And.intro @ZxW @ZxX))) (And.intro (And.intro @Zs9 @Zta) (And.intro @Ztb (And.intro @Ztc @Ztd)))) (And.intro (And.intro (And.intro @Zte @Ztf) (And.intro @Ztg (And.intro @Zth @Zti))) (And.intro (And.intro @Ztj @ZxY) (And.intro @ZxZ (And.intro @bigN.eq_1 @fpart.eq_1))))))
set_option linter.defProp false in
def ZzX:=(And.intro (And.intro (And.intro (And.intro (And.intro @fpart.eq_2 @okp.eq_1) (And.intro @okp.eq_2 (And.intro @zfill.eq_1 @zfill.eq_2))) (And.intro (And.intro @zobs.eq_1 @ptd.eq_1) (And.intro @ptd.eq_2 (And.intro @keyOf.eq_1 @keyOf.eq_2)))) (And.intro (And.intro (And.intro @freshK.eq_1 @freshK.eq_2) (And.intro @lk.eq_1 (And.intro @lk.eq_2 @pt.eq_1))) (And.intro (And.intro @pt.eq_2 @lkO.eq_1) (And.intro @lkO.eq_2 (And.intro @ptO.eq_1 @ptO.eq_2))))) (And.intro (And.intro (And.intro (And.intro @addO.eq_1 @addO.eq_2) (And.intro @xv.eq_1 (And.intro @xv.eq_2 @xv.eq_3))) (And.intro (And.intro @kv.eq_1 @kv.eq_2) (And.intro @kc.eq_1 (And.intro @kc.eq_2 @params.eq_1)))) (And.intro (And.intro (And.intro @params.eq_2 @trv.eq_1) (And.intro @trv.eq_2 (And.intro @List.length_cons.{0} @List.length_nil.{0}))) (And.intro (And.intro @Option.getD_some.{0} @Option.getD_none.{0}) (And.intro @true_and (And.intro @and_true @decide_eq_true_eq))))))
set_option linter.defProp false in
def ZzY:=(And.intro (And.intro (And.intro (And.intro (And.intro @decide_true @decide_false) (And.intro @Option.map_some.{0,0} (And.intro @Option.map_none.{0,0} @Option.isSome_some.{0}))) (And.intro (And.intro @Option.isSome_none.{0} @Option.isNone_some.{0}) (And.intro @Option.isNone_none.{0} (And.intro @List.map_cons.{0,0} @List.map_nil.{0,0})))) (And.intro (And.intro (And.intro @List.cons_append.{0} @List.nil_append.{0}) (And.intro @List.getElem?_cons_zero.{0} (And.intro @List.getElem?_cons_succ.{0} @List.drop_succ_cons.{0}))) (And.intro (And.intro @List.drop_zero.{0} @List.take_succ_cons.{0}) (And.intro @List.take_zero.{0} (And.intro @List.headD_cons.{0} @List.headD_nil.{0}))))) (And.intro (And.intro (And.intro (And.intro @List.tail_cons.{0} @List.tail_nil.{0}) (And.intro @noSh.eq_1 (And.intro @noSh.eq_2 @noSh.eq_3))) (And.intro (And.intro @noSh.eq_4 @noSh.eq_5) (And.intro @noSh.eq_6 (And.intro @noSh.eq_7 @noSh.eq_8)))) (And.intro (And.intro (And.intro @noShs.eq_1 @noShs.eq_2) (And.intro @isSc.eq_1 (And.intro @isSc.eq_2 @impv.eq_1))) (And.intro (And.intro @impv.eq_2 @impv.eq_3) (And.intro @impv.eq_4 (And.intro @impvs.eq_1 @impvs.eq_2))))))
set_option linter.defProp false in
def ZzZ:=(And.intro (And.intro (And.intro (And.intro (And.intro @impc.eq_1 @impc.eq_2) (And.intro @memB.eq_1 (And.intro @memB.eq_2 @keepB.eq_1))) (And.intro (And.intro @keepB.eq_2 @keepOB.eq_1) (And.intro @keepOB.eq_2 (And.intro @or_true @true_or)))) (And.intro (And.intro (And.intro @or_false @false_or) (And.intro @Bool.false_eq_true (And.intro @Bool.true_eq_false @if_true.{1}))) (And.intro (And.intro @if_false.{1} @Bool.not_true) (And.intro @Bool.not_false (And.intro @scrE.eq_1 @scrE.eq_2))))) (And.intro (And.intro (And.intro (And.intro @scrL.eq_1 @scrL.eq_2) (And.intro @scr.eq_1 (And.intro @scr.eq_2 @scr.eq_3))) (And.intro (And.intro @scr.eq_4 @scr.eq_5) (And.intro @scr.eq_6 (And.intro @scr.eq_7 @scr.eq_8)))) (And.intro (And.intro (And.intro @scrs.eq_1 @scrs.eq_2) (And.intro @scrOb.eq_1 (And.intro @scrOb.eq_2 @rmO.eq_1))) (And.intro (And.intro @rmO.eq_2 @Int.toNat_natCast) (And.intro @Int.toNat_zero (And.intro @Int.toNat_one @List.all_cons.{0}))))))
set_option linter.defProp false in
def Zz0:=(And.intro (And.intro (And.intro (And.intro (And.intro @List.all_nil.{0} @isCell.eq_1) (And.intro @isCell.eq_2 (And.intro @isCell.eq_3 @isCell.eq_4))) (And.intro (And.intro @isCell.eq_5 @isCell.eq_6) (And.intro @Bool.and_true (And.intro @Bool.true_and @Bool.and_self)))) (And.intro (And.intro (And.intro @cellsOf.eq_1 @cellsOf.eq_2) (And.intro @totr.eq_1 (And.intro @totr.eq_2 @totr.eq_3))) (And.intro (And.intro @totr.eq_4 @totr.eq_5) (And.intro @totrs.eq_1 (And.intro @totrs.eq_2 @tocs.eq_1))))) (And.intro (And.intro (And.intro (And.intro @getp.eq_1 @getp.eq_2) (And.intro @cvt.eq_1 (And.intro @cvt.eq_2 @cvts.eq_1))) (And.intro (And.intro @cvts.eq_2 @Nat.zero_add) (And.intro @Nat.add_zero (And.intro @List.set_cons_zero.{0} @List.set_cons_succ.{0})))) (And.intro (And.intro (And.intro @Bool.not_eq_true' @Bool.not_eq_false') (And.intro @Int.natCast_nonneg (And.intro @Nat.le_refl @Prod.mk.injEq.{0,0}))) (And.intro (And.intro @ne_eq.{1} @not_false_eq_true) (And.intro @not_true_eq_false (And.intro @List.length_map.{0,0} @List.length_replicate.{0}))))))
set_option linter.defProp false in
def Zz1:=(And.intro (And.intro @List.replicate_zero.{0} @and_false) (And.intro @false_and (And.intro @and_self @Int.cast_ofNat_Int)))
set_option linter.defProp false in
def EVA:=(And.intro (And.intro (And.intro (And.intro EV0 EV1) (And.intro EV2 EV3)) (And.intro (And.intro EV4 EV5) (And.intro EV6 EV7))) (And.intro (And.intro (And.intro EV8 EV9) (And.intro ZzW ZzX)) (And.intro (And.intro ZzY ZzZ) (And.intro Zz0 Zz1))))
abbrev oo(d:Nat)(x:O):OP:=⟨some d,none,x⟩
abbrev on1(x:O):OP:=⟨none,none,x⟩
abbrev og(d j:Nat)(w:Bool)(x:O):OP:=⟨some d,some (j,w),x⟩
abbrev om(d:Nat)(x:X):OP:=⟨some d,none,.mv x none⟩
abbrev rg(l:List OP):C2:=.rg none l
abbrev i6(n:Int):X:=.k (.int .i64 n)
end Go.Fd

/-
  PLAIN WORDS FOR THE DATA, AND WHAT HOLDS OF THE HELPERS OF THE LAWS THAT ARE ALIKE FOR ALL KINDS OF SLICES. Own work.
-/
namespace Go.Fd
set_option maxRecDepth 10000
theorem Zo{c:Prop}[Decidable c]{p q:Prop}(h1:c->p)(h2:¬ c->q):if c then p else q:=by
 split
 ·exact h1 ‹_›
 ·exact h2 ‹_›
def szN(n:Nat)(left:Int):Int:=if left-n<0 then -1 else left-n
def szF{α:Type}(f:α->Int->Int):List α->Int->Int
 | [],l=>l
 | x::r,l=>if f x l<0 then -1 else szF f r (f x l)
def szL{α:Type}(f:α->Int->Int)(a:List α)(left:Int):Int:=if left-a.length<0 then -1 else szF f a (left-a.length)
def sz0:F2 :=
 { nt:=12,res:=[.t 4 [0]],body:=(.sq (.rg none [⟨some 4,none,.mv (.k (.int .i64 0)) none⟩]) (.sq (.rg none [⟨some 5,none,.mv (.t 1) none⟩,
   ⟨some 6,none,.mv (.t 0) none⟩,
   ⟨some 7,none,.ln (.t 6)⟩,
   ⟨some 8,none,.bi .sub 0 (.t 5) (.t 7)⟩,
   ⟨some 1,none,.mv (.t 8) none⟩]) (.sq (.sq (.rg none [⟨some 9,none,.mv (.t 1) none⟩,
    ⟨some 10,none,.bi .lss 0 (.t 9) (.k (.int .i64 0))⟩]) (.cd (.t 10) (.sq (.rg none [⟨some 4,none,.mv (.k (.int .i64 (-1))) none⟩]) (.rt)) (.sk))) (.sq (.rg none [⟨some 11,none,.mv (.t 1) none⟩,
   ⟨some 4,none,.mv (.t 11) none⟩]) (.rt))))) }
theorem Zp8{P:Program}{fid:FuncId}(hc:ZP P fid sz0=true)(es:Row)(left:Int)(h:es.length<=9223372036854775807)(h0:0<=left)(h1:left<=1048576)(lvl:Nat)(S:Sto) :
  Sem P fid lvl [.tr (.sl es),iI left] S (iI (szN es.length left)) S:=by
 refine Zc hc trivial ?_
 simp only[sz0,EVA,seval,Zd,men]
 refine⟨by rw[Ze];omega,?_⟩
 unfold szN
 split <;> rfl
def Ztk(k:Nat)(m:Option Nat)(fid:FuncId):F2 :=
 { nt:=27,res:=[.t 4 [0]],body:=(.sq (.rg none [⟨some 4,none,.mv (.k (.int .i64 0)) none⟩]) (.sq (.rg none [⟨some 6,none,.mv (.t 1) none⟩,
   ⟨some 7,none,.mv (.t 0) none⟩,
   ⟨some 8,none,.ln (.t 7)⟩,
   ⟨some 9,none,.bi .sub 0 (.t 6) (.t 8)⟩,
   ⟨some 1,none,.mv (.t 9) none⟩]) (.sq (.sq (.rg none [⟨some 10,none,.mv (.t 1) none⟩,
    ⟨some 11,none,.bi .lss 0 (.t 10) (.k (.int .i64 0))⟩]) (.cd (.t 11) (.sq (.rg none [⟨some 4,none,.mv (.k (.int .i64 (-1))) none⟩]) (.rt)) (.sk))) (.sq (.sq (.rg none [⟨some 5,none,.mv (.k (.int .i64 0)) none⟩]) (.bl 0 (.lp [0,1,5] [] (.sq (.sq (.rg none [⟨some 12,none,.mv (.t 5) none⟩,
     ⟨some 13,none,.mv (.t 0) none⟩,
     ⟨some 14,none,.ln (.t 13)⟩,
     ⟨some 15,none,.bi .lss 0 (.t 12) (.t 14)⟩]) (.cd (.t 15) (.sk) (.ex 0))) (.sq (.bl 1 (.sq (.rg none [⟨some 18,none,.mv (.t 0) none⟩,
      ⟨some 19,none,.mv (.t 5) none⟩,
      ⟨some 20,none,.ia k (.t 18) (.t 19)⟩,
      ⟨some 21,none,.ld m (.t 20)⟩,
      ⟨some 22,none,.mv (.t 1) none⟩,
      ⟨some 23,none,.ca .pure false (.f fid) [.t 21,.t 22]⟩,
      ⟨some 1,none,.mv (.t 23) none⟩]) (.sq (.rg none [⟨some 24,none,.mv (.t 1) none⟩,
      ⟨some 25,none,.bi .lss 0 (.t 24) (.k (.int .i64 0))⟩]) (.cd (.t 25) (.sq (.rg none [⟨some 4,none,.mv (.k (.int .i64 (-1))) none⟩]) (.rt)) (.sk))))) (.rg none [⟨some 16,none,.mv (.t 5) none⟩,
    ⟨some 17,none,.bi .add 0 (.t 16) (.k (.int .i64 1))⟩,
    ⟨some 5,none,.mv (.t 17) none⟩])))))) (.sq (.rg none [⟨some 26,none,.mv (.t 1) none⟩,
   ⟨some 4,none,.mv (.t 26) none⟩]) (.rt)))))) }
theorem Zf9{P:Program}{fid fe:FuncId}{k:Nat}(hc:ZP P fid (Ztk k (some k) fe)=true){α:Type}(c:α->List Tr)(f:α->Int->Int)(hk:∀ x,(c x).length=k)(a:List α)(left:Int)(h:a.length<=9223372036854775807)(h0:0<=left)(h1:left<=1048576)
  (hf:∀ x∈a,∀ l:Int,0<=l->l<=1048576->f x l<=l/\∀ lvl S,Sem P fe lvl [.ag ((c x).map .tr),iI l] S (iI (f x l)) S) (lvl:Nat) (S:Sto) :
  Sem P fid lvl [.tr (.sl (a.map c)),iI left] S (iI (szL f a left)) S:=by
 refine Zc hc trivial ?_
 simp only[Ztk,List.length_map,EVA,seval,Zd,men]
 refine⟨by rw[Ze];omega,?_⟩
 unfold szL
 split
 ·rfl
 ·rename_i hlt
  generalize hr:szF f a (left-a.length)=total
  refine ZY (α:=Int) a.length (fun j l=>⟨lvl,[(0,.tr (.sl (a.map c))),(1,iI l),(5,iI j)],[],S⟩) (fun j l=>0<=l/\l<=1048576/\szF f (a.drop j) l=total) (left-a.length) ⟨by simp only[EVA,seval,Zd,men],by (simp only[EVA,seval,Zd,men]) <;> rfl⟩ ⟨by omega,by omega,hr⟩ ?_
  intro j l hj ⟨hl0,hl1,hl⟩
  simp only[List.length_map,EVA,seval,Zd,men]
  split
  ·rename_i hlt
   have hja:j<a.length:=by omega
   have ga:(a.map c)[j]? = some (c a[j]):=by simp [hja]
   have hkk:=hk a[j]
   have htk:(c a[j]).take k=c a[j]:=List.take_of_length_le (by omega)
   rw[List.drop_eq_getElem_cons hja] at hl
   obtain⟨hle,hsem⟩:=hf a[j] (List.getElem_mem hja) l hl0 hl1
   simp only[ga,hkk,htk,Int.natCast_nonneg,Nat.le_refl,EVA,seval,Zd,men]
   refine Zb hsem ?_
   simp only[EVA,seval,Zd,men]
   split
   ·rename_i hneg
    simp only[szF,if_pos hneg] at hl
    rw[hl]
   ·rename_i hneg
    simp only[szF,if_neg hneg] at hl
    refine⟨by rw[Ze];omega,Zf (f a[j] l) hja rfl ⟨by omega,by omega,hl⟩⟩
  ·rename_i hge
   have:j=a.length:=by omega
   subst this
   simp only[List.drop_length,szF] at hl
   rw[hl]
def Zx0:F2 :=
 { nt:=28,res:=[.t 4 [0]],body:=(.sq (.rg none [⟨some 4,none,.mv (.k (.int .i64 0)) none⟩]) (.sq (.rg none [⟨some 6,none,.mv (.t 1) none⟩,
   ⟨some 7,none,.mv (.t 0) none⟩,
   ⟨some 8,none,.ln (.t 7)⟩,
   ⟨some 9,none,.bi .sub 0 (.t 6) (.t 8)⟩,
   ⟨some 1,none,.mv (.t 9) none⟩]) (.sq (.sq (.rg none [⟨some 10,none,.mv (.t 1) none⟩,
    ⟨some 11,none,.bi .lss 0 (.t 10) (.k (.int .i64 0))⟩]) (.cd (.t 11) (.sq (.rg none [⟨some 4,none,.mv (.k (.int .i64 (-1))) none⟩]) (.rt)) (.sk))) (.sq (.sq (.rg none [⟨some 5,none,.mv (.k (.int .i64 0)) none⟩]) (.bl 0 (.lp [0,1,5] [] (.sq (.sq (.rg none [⟨some 12,none,.mv (.t 5) none⟩,
     ⟨some 13,none,.mv (.t 0) none⟩,
     ⟨some 14,none,.ln (.t 13)⟩,
     ⟨some 15,none,.bi .lss 0 (.t 12) (.t 14)⟩]) (.cd (.t 15) (.sk) (.ex 0))) (.sq (.bl 1 (.sq (.rg none [⟨some 18,none,.mv (.t 1) none⟩,
      ⟨some 19,none,.mv (.t 0) none⟩,
      ⟨some 20,none,.mv (.t 5) none⟩,
      ⟨some 21,none,.ia 1 (.t 19) (.t 20)⟩,
      ⟨some 22,none,.ld none (.t 21)⟩,
      ⟨some 23,none,.lg (.t 22)⟩,
      ⟨some 24,none,.bi .sub 0 (.t 18) (.t 23)⟩,
      ⟨some 1,none,.mv (.t 24) none⟩]) (.sq (.rg none [⟨some 25,none,.mv (.t 1) none⟩,
      ⟨some 26,none,.bi .lss 0 (.t 25) (.k (.int .i64 0))⟩]) (.cd (.t 26) (.sq (.rg none [⟨some 4,none,.mv (.k (.int .i64 (-1))) none⟩]) (.rt)) (.sk))))) (.rg none [⟨some 16,none,.mv (.t 5) none⟩,
    ⟨some 17,none,.bi .add 0 (.t 16) (.k (.int .i64 1))⟩,
    ⟨some 5,none,.mv (.t 17) none⟩])))))) (.sq (.rg none [⟨some 27,none,.mv (.t 1) none⟩,
   ⟨some 4,none,.mv (.t 27) none⟩]) (.rt)))))) }
theorem ZnO{P:Program}{fid:FuncId}(hc:ZP P fid Zx0=true)(a:List ByteArray)(left:Int)(h:a.length<=9223372036854775807)(h0:0<=left)(h1:left<=1048576)
  (hf:∀ x∈a,x.size<=9223372036854775807) (lvl:Nat) (S:Sto) :
  Sem P fid lvl [tS a,iI left] S (iI (szL (fun x l=>l-x.size) a left)) S:=by
 refine Zc hc trivial ?_
 simp only[Zx0,List.length_map,EVA,seval,Zd,men]
 refine⟨by rw[Ze];omega,?_⟩
 unfold szL
 split
 ·rfl
 ·rename_i hlt
  generalize hr:szF (fun(x:ByteArray) l=>l-x.size) a (left-a.length)=total
  refine ZY (α:=Int) a.length (fun j l=>⟨lvl,[(0,tS a),(1,iI l),(5,iI j)],[],S⟩) (fun j l=>0<=l/\l<=1048576/\szF (fun(x:ByteArray) l=>l-x.size) (a.drop j) l=total) (left-a.length) ⟨by simp only[EVA,seval,Zd,men],by (simp only[EVA,seval,Zd,men]) <;> rfl⟩ ⟨by omega,by omega,hr⟩ ?_
  intro j l hj ⟨hl0,hl1,hl⟩
  simp only[List.length_map,EVA,seval,Zd,men]
  split
  ·rename_i hlt
   have hja:j<a.length:=by omega
   have ga:(rS a)[j]? = some [ts a[j]]:=by simp [hja]
   rw[List.drop_eq_getElem_cons hja] at hl
   have hs:=hf a[j] (List.getElem_mem hja)
   simp only[ga,Int.natCast_nonneg,Nat.le_refl,EVA,seval,Zd,men]
   refine⟨by rw[Ze];omega,?_⟩
   split
   ·rename_i hneg
    simp only[szF,if_pos hneg] at hl
    rw[hl]
   ·rename_i hneg
    simp only[szF,if_neg hneg] at hl
    refine⟨by rw[Ze];omega,Zf (l-a[j].size) hja rfl ⟨by omega,by omega,hl⟩⟩
  ·rename_i hge
   have:j=a.length:=by omega
   subst this
   simp only[List.drop_length,szF] at hl
   rw[hl]
def Ztl(k:Nat)(m:Option Nat)(fid:FuncId):F2 :=
 { nt:=27,res:=[.t 4 [0]],body:=(.sq (.rg none [⟨some 4,none,.mv (.k (.bool false)) none⟩]) (.sq (.sq (.rg none [⟨some 6,none,.mv (.t 0) none⟩,
    ⟨some 7,none,.ln (.t 6)⟩,
    ⟨some 8,none,.mv (.t 1) none⟩,
    ⟨some 9,none,.ln (.t 8)⟩,
    ⟨some 10,none,.bi .neq 0 (.t 7) (.t 9)⟩]) (.cd (.t 10) (.sq (.rg none [⟨some 4,none,.mv (.k (.bool false)) none⟩]) (.rt)) (.sk))) (.sq (.sq (.rg none [⟨some 5,none,.mv (.k (.int .i64 0)) none⟩]) (.bl 0 (.lp [0,1,5] [] (.sq (.sq (.rg none [⟨some 11,none,.mv (.t 5) none⟩,
     ⟨some 12,none,.mv (.t 0) none⟩,
     ⟨some 13,none,.ln (.t 12)⟩,
     ⟨some 14,none,.bi .lss 0 (.t 11) (.t 13)⟩]) (.cd (.t 14) (.sk) (.ex 0))) (.sq (.bl 1 (.sq (.rg (some 0) [⟨some 17,none,.mv (.t 0) none⟩,
      ⟨some 18,none,.mv (.t 5) none⟩,
      ⟨some 19,none,.ia k (.t 17) (.t 18)⟩,
      ⟨some 20,none,.ld m (.t 19)⟩,
      ⟨some 21,none,.mv (.t 1) none⟩,
      ⟨some 22,none,.mv (.t 5) none⟩,
      ⟨some 23,none,.ia k (.t 21) (.t 22)⟩,
      ⟨some 24,none,.ld m (.t 23)⟩,
      ⟨some 25,none,.ca .pure false (.f fid) [.t 20,.t 24]⟩,
      ⟨some 26,none,.nt (.t 25)⟩]) (.cd (.t 26) (.sq (.rg none [⟨some 4,none,.mv (.k (.bool false)) none⟩]) (.rt)) (.sk)))) (.rg none [⟨some 15,none,.mv (.t 5) none⟩,
    ⟨some 16,none,.bi .add 0 (.t 15) (.k (.int .i64 1))⟩,
    ⟨some 5,none,.mv (.t 16) none⟩])))))) (.sq (.rg none [⟨some 4,none,.mv (.k (.bool true)) none⟩]) (.rt))))) }
theorem Zad{α:Type}{a b:List α}{j:Nat}(ha:j<a.length)(hb:j<b.length)(h:a[j]≠b[j]):a≠b:=by
 intro e;subst e;exact h rfl
theorem UJ{α:Type}{a b:List α}(hl:a.length=b.length)(h:a.take a.length=b.take a.length):a=b:=by
 rw[List.take_length,hl,List.take_length] at h;exact h
theorem WK{α:Type}{a b:List α}{j:Nat}(ha:j<a.length)(hb:j<b.length)(h:a.take j=b.take j)(e:a[j]=b[j]):a.take (j+1)=b.take (j+1):=by
 rw[List.take_succ_eq_append_getElem ha,List.take_succ_eq_append_getElem hb,h,e]
theorem Zga{P:Program}{fid fe:FuncId}{k:Nat}(hc:ZP P fid (Ztl k (some k) fe)=true){α:Type}[DecidableEq α](c:α->List Tr)(hk:∀ x,(c x).length=k)(a b:List α)(ha:a.length<=9223372036854775807)
  (hf:∀ x∈a,∀ y∈b,∀ lvl S,Sem P fe lvl [.ag ((c x).map .tr),.ag ((c y).map .tr)] S (iB (decide (x=y))) S) (lvl:Nat) (S:Sto) :
  Sem P fid lvl [.tr (.sl (a.map c)),.tr (.sl (b.map c))] S (iB (decide (a=b))) S:=by
 refine Zc hc trivial ?_
 simp only[Ztl,List.length_map,EVA,seval,Zd,men]
 split
 ·rename_i h
  have:¬ a=b:=fun e=>h (by rw[e])
  simp [this]
 ·rename_i h
  have hlen:a.length=b.length:=by omega
  refine ZY (α:=Unit) a.length (fun j _=>⟨lvl,[(0,.tr (.sl (a.map c))),(1,.tr (.sl (b.map c))),(5,iI j)],[],S⟩) (fun j _=>a.take j=b.take j) () ⟨by simp only[EVA,seval,Zd,men],by (simp only[EVA,seval,Zd,men]) <;> rfl⟩ rfl ?_
  intro j _ hj hA
  simp only[List.length_map,EVA,seval,Zd,men]
  split
  ·rename_i hlt
   have hja:j<a.length:=by omega
   have hjb:j<b.length:=by omega
   have ga:(a.map c)[j]? = some (c a[j]):=by simp [hja]
   have gb:(b.map c)[j]? = some (c b[j]):=by simp [hjb]
   have hka:=hk a[j]
   have hkb:=hk b[j]
   have hta:(c a[j]).take k=c a[j]:=List.take_of_length_le (by omega)
   have htb:(c b[j]).take k=c b[j]:=List.take_of_length_le (by omega)
   have hsem:=hf a[j] (List.getElem_mem hja) b[j] (List.getElem_mem hjb)
   simp only[ga,gb,hka,hkb,hta,htb,Int.natCast_nonneg,Nat.le_refl,EVA,seval,Zd,men]
   refine Zb hsem ?_
   simp only[Bool.not_eq_true',EVA,seval,Zd,men]
   split
   ·rename_i hne
    have:¬ a=b:=Zad hja hjb (by simpa using hne)
    simp [this]
   ·rename_i he
    refine⟨by rw[Ze];omega,Zf () hja rfl (WK hja hjb hA (by simpa using he))⟩
  ·rename_i hge
   have:j=a.length:=by omega
   subst this
   have:a=b:=UJ hlen hA
   simp [this]
def ZqI:F2 :=
 { nt:=26,res:=[.t 4 [0]],body:=(.sq (.rg none [⟨some 4,none,.mv (.k (.bool false)) none⟩]) (.sq (.sq (.rg none [⟨some 6,none,.mv (.t 0) none⟩,
    ⟨some 7,none,.ln (.t 6)⟩,
    ⟨some 8,none,.mv (.t 1) none⟩,
    ⟨some 9,none,.ln (.t 8)⟩,
    ⟨some 10,none,.bi .neq 0 (.t 7) (.t 9)⟩]) (.cd (.t 10) (.sq (.rg none [⟨some 4,none,.mv (.k (.bool false)) none⟩]) (.rt)) (.sk))) (.sq (.sq (.rg none [⟨some 5,none,.mv (.k (.int .i64 0)) none⟩]) (.bl 0 (.lp [0,1,5] [] (.sq (.sq (.rg none [⟨some 11,none,.mv (.t 5) none⟩,
     ⟨some 12,none,.mv (.t 0) none⟩,
     ⟨some 13,none,.ln (.t 12)⟩,
     ⟨some 14,none,.bi .lss 0 (.t 11) (.t 13)⟩]) (.cd (.t 14) (.sk) (.ex 0))) (.sq (.bl 1 (.sq (.rg (some 0) [⟨some 17,none,.mv (.t 0) none⟩,
      ⟨some 18,none,.mv (.t 5) none⟩,
      ⟨some 19,none,.ia 1 (.t 17) (.t 18)⟩,
      ⟨some 20,none,.ld none (.t 19)⟩,
      ⟨some 21,none,.mv (.t 1) none⟩,
      ⟨some 22,none,.mv (.t 5) none⟩,
      ⟨some 23,none,.ia 1 (.t 21) (.t 22)⟩,
      ⟨some 24,none,.ld none (.t 23)⟩,
      ⟨some 25,none,.bi .neq 0 (.t 20) (.t 24)⟩]) (.cd (.t 25) (.sq (.rg none [⟨some 4,none,.mv (.k (.bool false)) none⟩]) (.rt)) (.sk)))) (.rg none [⟨some 15,none,.mv (.t 5) none⟩,
    ⟨some 16,none,.bi .add 0 (.t 15) (.k (.int .i64 1))⟩,
    ⟨some 5,none,.mv (.t 16) none⟩])))))) (.sq (.rg none [⟨some 4,none,.mv (.k (.bool true)) none⟩]) (.rt))))) }
theorem Zp9{P:Program}{fid:FuncId}(hc:ZP P fid ZqI=true)(a b:List Int)(ha:a.length<=9223372036854775807)(lvl:Nat)(S:Sto):Sem P fid lvl [tI a,tI b] S (iB (decide (a=b))) S:=by
 refine Zc hc trivial ?_
 simp only[ZqI,List.length_map,EVA,seval,Zd,men]
 split
 ·rename_i h
  have:¬ a=b:=fun e=>h (by rw[e])
  simp [this]
 ·rename_i h
  have hlen:a.length=b.length:=by omega
  refine ZY (α:=Unit) a.length (fun j _=>⟨lvl,[(0,tI a),(1,tI b),(5,iI j)],[],S⟩) (fun j _=>a.take j=b.take j) () ⟨by simp only[EVA,seval,Zd,men],by (simp only[EVA,seval,Zd,men]) <;> rfl⟩ rfl ?_
  intro j _ hj hA
  simp only[List.length_map,EVA,seval,Zd,men]
  split
  ·rename_i hlt
   have hja:j<a.length:=by omega
   have hjb:j<b.length:=by omega
   have ga:(rI a)[j]? = some [tv a[j]]:=by simp [hja]
   have gb:(rI b)[j]? = some [tv b[j]]:=by simp [hjb]
   simp only[ga,gb,Int.natCast_nonneg,Nat.le_refl,EVA,seval,Zd,men]
   split
   ·rename_i hne
    have:¬ a=b:=Zad hja hjb (by simpa using hne)
    simp [this]
   ·rename_i he
    refine⟨by rw[Ze];omega,Zf () hja rfl (WK hja hjb hA (by simpa using he))⟩
  ·rename_i hge
   have:j=a.length:=by omega
   subst this
   have:a=b:=UJ hlen hA
   simp [this]
theorem Zqa{P:Program}{fid:FuncId}(hc:ZP P fid ZqI=true)(a b:List ByteArray)(ha:a.length<=9223372036854775807)(lvl:Nat)(S:Sto):Sem P fid lvl [tS a,tS b] S (iB (decide (a=b))) S:=by
 refine Zc hc trivial ?_
 simp only[ZqI,List.length_map,EVA,seval,Zd,men]
 split
 ·rename_i h
  have:¬ a=b:=fun e=>h (by rw[e])
  simp [this]
 ·rename_i h
  have hlen:a.length=b.length:=by omega
  refine ZY (α:=Unit) a.length (fun j _=>⟨lvl,[(0,tS a),(1,tS b),(5,iI j)],[],S⟩) (fun j _=>a.take j=b.take j) () ⟨by simp only[EVA,seval,Zd,men],by (simp only[EVA,seval,Zd,men]) <;> rfl⟩ rfl ?_
  intro j _ hj hA
  simp only[List.length_map,EVA,seval,Zd,men]
  split
  ·rename_i hlt
   have hja:j<a.length:=by omega
   have hjb:j<b.length:=by omega
   have ga:(rS a)[j]? = some [ts a[j]]:=by simp [hja]
   have gb:(rS b)[j]? = some [ts b[j]]:=by simp [hjb]
   simp only[ga,gb,Int.natCast_nonneg,Nat.le_refl,EVA,seval,Zd,men]
   split
   ·rename_i hne
    have:¬ a=b:=Zad hja hjb (by simpa using hne)
    simp [this]
   ·rename_i he
    refine⟨by rw[Ze];omega,Zf () hja rfl (WK hja hjb hA (by simpa using he))⟩
  ·rename_i hge
   have:j=a.length:=by omega
   subst this
   have:a=b:=UJ hlen hA
   simp [this]
def YX{α:Type}(c:α->List Tr)(z:List Tr)(a:List α)(j:Nat):Row:=(a.take j).map c++List.replicate (a.length-j) z
theorem Wb{α:Type}(c:α->List Tr)(z:List Tr)(a:List α):YX c z a 0=List.replicate a.length z:=by simp [YX]
theorem Uc{α:Type}(c:α->List Tr)(z:List Tr)(a:List α):YX c z a a.length=a.map c:=by simp [YX]
theorem UK{α:Type}{c:α->List Tr}{z:List Tr}{a:List α}{j:Nat}(h:j<=a.length):(YX c z a j).length=a.length:=by
 simp [YX];omega
theorem Ud{α:Type}{c:α->List Tr}{z:List Tr}{a:List α}{j:Nat}(h:j<a.length):(YX c z a j)[j]? = some z:=by
 unfold YX
 have h1:((a.take j).map c).length=j:=by rw[List.length_map,List.length_take];omega
 rw[List.getElem?_append_right (by omega),h1,Nat.sub_self,List.getElem?_replicate]
 rw[if_pos (by omega)]
theorem Ue{α:Type}{c:α->List Tr}{z e:List Tr}{a:List α}{j:Nat}(h:j<a.length)(he:e=c a[j]):(YX c z a j).set j e=YX c z a (j+1):=by
 subst he
 unfold YX
 have h1:((a.take j).map c).length=j:=by simp;omega
 rw[List.set_append_right _ _ (by omega),h1,Nat.sub_self,show a.length-j=(a.length-(j+1))+1 from by omega,List.replicate_succ,List.set_cons_zero,List.take_succ_eq_append_getElem h,List.map_append]
 simp
def ZqJ(z:Value):F2 :=
 { nt:=22,res:=[.t 2 [2]],body:=(.sq (.rg none [⟨some 2,none,.mv (.k (.slice none 0 0)) none⟩]) (.sq (.rg none [⟨some 5,none,.mv (.t 0) none⟩,
   ⟨some 6,none,.ln (.t 5)⟩,
   ⟨some 7,none,.ms 1 [z] (.t 6)⟩,
   ⟨some 3,none,.mv (.t 7) none⟩]) (.sq (.sq (.rg none [⟨some 4,none,.mv (.k (.int .i64 0)) none⟩]) (.bl 0 (.lp [0,3,4] [224] (.sq (.sq (.rg none [⟨some 8,none,.mv (.t 4) none⟩,
     ⟨some 9,none,.mv (.t 0) none⟩,
     ⟨some 10,none,.ln (.t 9)⟩,
     ⟨some 11,none,.bi .lss 0 (.t 8) (.t 10)⟩]) (.cd (.t 11) (.sk) (.ex 0))) (.sq (.bl 1 (.rg none [⟨some 14,none,.mv (.t 3) none⟩,
     ⟨some 15,none,.mv (.t 4) none⟩,
     ⟨some 16,none,.mv (.t 0) none⟩,
     ⟨some 17,none,.mv (.t 4) none⟩,
     ⟨some 18,none,.ia 1 (.t 16) (.t 17)⟩,
     ⟨some 19,none,.ld none (.t 18)⟩,
     ⟨some 20,none,.ia 1 (.t 14) (.t 15)⟩,
     ⟨none,none,.st 1 (.t 20) (.t 19)⟩])) (.rg none [⟨some 12,none,.mv (.t 4) none⟩,
    ⟨some 13,none,.bi .add 0 (.t 12) (.k (.int .i64 1))⟩,
    ⟨some 4,none,.mv (.t 13) none⟩])))))) (.sq (.rg none [⟨some 21,none,.mv (.t 3) none⟩,
   ⟨some 2,none,.mv (.t 21) none⟩]) (.rt))))) }
theorem Zqb{P:Program}{fid:FuncId}(hc:ZP P fid (ZqJ (.int .i64 0))=true)(a:List Int)(ha:a.length<=4294967296)(lvl:Nat)(S:Sto):Sem P fid lvl [tI a] S (.ow 1 (rI a) true) S:=by
 refine Zc hc trivial ?_
 simp only[ZqJ,List.length_map,bigN,Int.natCast_nonneg,EVA,seval,Zd,men]
 refine⟨by omega,?_⟩
 refine ZY (α:=Unit) a.length (fun j _=>⟨lvl,[(0,tI a),(3,.hd (lvl,224) [] 0 a.length none a.length),(4,iI j)],[(224,.ar 1 (YX (fun n=>[tv n]) [tv 0] a j) true a.length 0)],S⟩) (fun _ _=>True) () ⟨by simp only[EVA,seval,Zd,men],by (simp only[Wb,EVA,seval,Zd,men]) <;> rfl⟩ trivial ?_
 intro j _ hj _
 simp only[List.length_map,EVA,seval,Zd,men]
 split
 ·rename_i hlt
  have hja:j<a.length:=by omega
  have ga:(rI a)[j]? = some [tv a[j]]:=by simp [hja]
  have gz:(YX (fun n=>[tv n]) [tv 0] a j)[j]? = some [tv 0]:=Ud hja
  simp only[ga,gz,Int.natCast_nonneg,Nat.le_refl,hja,Y7,List.set_cons_zero,Dx,EVA,seval,Zd,men]
  refine⟨by rw[Ze];omega,Zf () hja ?_ trivial⟩
  rw[Ue hja rfl]
  rfl
 ·rename_i hge
  have:j=a.length:=by omega
  subst this
  rw[Uc]
  simp
theorem Zqc{P:Program}{fid:FuncId}(hc:ZP P fid (ZqJ (.string ⟨#[]⟩))=true)(a:List ByteArray)(ha:a.length<=4294967296)(lvl:Nat)(S:Sto):Sem P fid lvl [tS a] S (.ow 1 (rS a) true) S:=by
 refine Zc hc trivial ?_
 simp only[ZqJ,List.length_map,bigN,Int.natCast_nonneg,EVA,seval,Zd,men]
 refine⟨by omega,?_⟩
 refine ZY (α:=Unit) a.length (fun j _=>⟨lvl,[(0,tS a),(3,.hd (lvl,224) [] 0 a.length none a.length),(4,iI j)],[(224,.ar 1 (YX (fun n=>[ts n]) [ts ⟨#[]⟩] a j) true a.length 0)],S⟩) (fun _ _=>True) () ⟨by simp only[EVA,seval,Zd,men],by (simp only[Wb,EVA,seval,Zd,men]) <;> rfl⟩ trivial ?_
 intro j _ hj _
 simp only[List.length_map,EVA,seval,Zd,men]
 split
 ·rename_i hlt
  have hja:j<a.length:=by omega
  have ga:(rS a)[j]? = some [ts a[j]]:=by simp [hja]
  have gz:(YX (fun n=>[ts n]) [ts ⟨#[]⟩] a j)[j]? = some [ts ⟨#[]⟩]:=Ud hja
  simp only[ga,gz,Int.natCast_nonneg,Nat.le_refl,hja,Y7,List.set_cons_zero,Dx,EVA,seval,Zd,men]
  refine⟨by rw[Ze];omega,Zf () hja ?_ trivial⟩
  rw[Ue hja rfl]
  rfl
 ·rename_i hge
  have:j=a.length:=by omega
  subst this
  rw[Uc]
  simp
end Go.Fd

/-
  THE LAWS' HELPERS AT SLICES WHOSE ELEMENTS ARE ONE CELL. Own work.
-/
namespace Go.Fd
set_option maxRecDepth 10000
end Go.Fd

/-
  FOUNDATION 49: rows at a path; functions that mark what they are handed. Own work.
-/
namespace Go.Fd
variable [Tabs]
def Uw:Row->Pth->Row->Row
 | _,[],r=>r
 | es,(a,b)::p,r =>
  match es[a]? with
  | some e =>
   match e[b]? with
   | some (.sl es')=>es.set a (e.set b (.sl (Uw es' p r)))
   | _=>es
  | none=>es
theorem Zcp{es es':Row}{a b:Nat}{p:Pth}{e:List Tr}(h1:es[a]? = some e)(h2:e[b]? = some (.sl es')):getp es ((a,b)::p)=getp es' p:=by
 simp only[getp,h1,h2]
theorem VO{es es':Row}{a b:Nat}{p:Pth}{e:List Tr}{r:Row}(h1:es[a]? = some e)(h2:e[b]? = some (.sl es')):Uw es ((a,b)::p) r=es.set a (e.set b (.sl (Uw es' p r))):=by
 simp only[Uw,h1,h2]
theorem Zkx{es es':Row}{a b i f:Nat}{p:Pth}{e:List Tr}{t:Tr}(h1:es[a]? = some e)(h2:e[b]? = some (.sl es')):Y7 es ((a,b)::p) i f t=es.set a (e.set b (.sl (Y7 es' p i f t))):=by
 simp only[Y7,h1,h2]
theorem Zae{es r0:Row}{a b:Nat}{p:Pth}(h:getp es ((a,b)::p)=some r0):∃ e es',es[a]? = some e/\e[b]? = some (.sl es')/\getp es' p=some r0:=by
 simp only[getp] at h
 cases h1:es[a]? with
 | none=>rw[h1] at h;cases h
 | some e =>
  rw[h1] at h
  cases h2:e[b]? with
  | none=>simp only[h2] at h;cases h
  | some t =>
   simp only[h2] at h
   cases t with
   | v x=>cases h
   | sl es' => exact⟨e,es',rfl,h2,h⟩
theorem Zaf{α:Type}{l:List α}{a:Nat}{x y:α}(h:l[a]? = some x):(l.set a y)[a]? = some y:=by
 rw[List.getElem?_set_self];exact(List.getElem?_eq_some_iff.1 h).1
theorem Wc{r:Row}:∀{p:Pth} {es r0:Row},getp es p=some r0->getp (Uw es p r) p=some r
 | [],_,_,_=>rfl
 | (a,b)::p,es,r0,h=>by
  obtain⟨e,es',h1,h2,h3⟩:=Zae h
  rw[VO h1 h2,Zcp (Zaf h1) (Zaf h2)]
  exact Wc h3
theorem Zhu{r s:Row}:∀{p:Pth} {es r0:Row},getp es p=some r0->Uw (Uw es p r) p s=Uw es p s
 | [],_,_,_=>rfl
 | (a,b)::p,es,r0,h=>by
  obtain⟨e,es',h1,h2,h3⟩:=Zae h
  rw[VO h1 h2,VO h1 h2,VO (Zaf h1) (Zaf h2),Zhu h3,List.set_set,List.set_set]
theorem Zhv{r:Row}{i f:Nat}{t:Tr}{e0:List Tr}(hi:r[i]? = some e0):∀{p:Pth} {es r0:Row},getp es p=some r0->Y7 (Uw es p r) p i f t=Uw es p (r.set i (e0.set f t))
 | [],es,_,_=>by simp only[Uw,Y7,hi]
 | (a,b)::p,es,r0,h=>by
  obtain⟨e,es',h1,h2,h3⟩:=Zae h
  rw[VO h1 h2,VO h1 h2,Zkx (Zaf h1) (Zaf h2),Zhv hi h3,List.set_set,List.set_set]
theorem Zhw{q:Pth}:∀{p:Pth} {es r0:Row},getp es p=some r0->getp es (p++q)=getp r0 q
 | [],es,r0,h=>by simp only[getp,Option.some.injEq] at h;subst h;rfl
 | (a,b)::p,es,r0,h=>by
  obtain⟨e,es',h1,h2,h3⟩:=Zae h
  rw[List.cons_append,Zcp h1 h2]
  exact Zhw h3
theorem ZjP{q:Pth}{z:Row}:∀{p:Pth} {es r0:Row},getp es p=some r0->Uw es (p++q) z=Uw es p (Uw r0 q z)
 | [],es,r0,h=>by simp only[getp,Option.some.injEq] at h;subst h;rfl
 | (a,b)::p,es,r0,h=>by
  obtain⟨e,es',h1,h2,h3⟩:=Zae h
  rw[List.cons_append,VO h1 h2,VO h1 h2,ZjP h3]
theorem Zgb{α:Type}{l:List α}{a:Nat}{x:α}(h:l[a]? = some x):l.set a x=l:=by
 obtain⟨h1,h2⟩:=List.getElem?_eq_some_iff.1 h
 rw[<-h2,List.set_getElem_self]
theorem Zhx:∀{p:Pth} {es r:Row},getp es p=some r->Uw es p r=es
 | [],es,r,h=>by simp only[getp,Option.some.injEq] at h;subst h;rfl
 | (a,b)::p,es,r,h=>by
  obtain⟨e,es',h1,h2,h3⟩:=Zae h
  rw[VO h1 h2,Zhx h3,Zgb h2,Zgb h1]
theorem JL{S:Sto}{id:Oid}{a b:Ob}:ZM (ZM S id a) id b=ZM S id b:=by
 funext i
 unfold ZM
 split <;> rfl
theorem Qt{S:Sto}{id:Oid}{a:Ob}(h:S id=some a):ZM S id a=S:=by
 funext i
 unfold ZM
 split
 ·rename_i e;rw[e,h]
 ·rfl
theorem Uf{lvl:Nat}{loc:List (Nat×Ob)}{S:Sto}{id:Oid}{o:Ob}(h:id.1≠lvl):ZG lvl loc (ZM S id o)=ZM (ZG lvl loc S) id o:=by
 funext i
 by_cases e:i=id
 ·subst e
  rw[Z6 h]
  unfold ZM
  rw[if_pos rfl,if_pos rfl]
 ·unfold ZM ZG
  simp only[if_neg e]
section mark
variable {α:Type} (m:α->Int->α) (n:α->Nat)
def mL:List α->Int->List α
 | [],_=>[]
 | x::r,k=>m x k::mL r (k+n x)
def nL:List α->Nat
 | []=>0
 | x::r=>n x+nL r
theorem Zi:∀(a:List α) (k:Int),(mL m n a k).length=a.length
 | [],_=>rfl
 | x::r,k=>by simp only[mL,List.length_cons,Zi r]
theorem Zd0:∀(a b:List α),nL n (a++b)=nL n a+nL n b
 | [],b=>by simp [nL]
 | x::r,b=>by simp only[List.cons_append,nL,Zd0 r b];omega
theorem Zhy:∀(a b:List α) (k:Int),mL m n (a++b) k=mL m n a k++mL m n b (k+nL n a)
 | [],b,k=>by simp [mL,nL]
 | x::r,b,k=>by
  simp only[List.cons_append,mL,nL,Zhy r b]
  rw[show k+(n x:Int)+(nL n r:Int)=k+((n x+nL n r:Nat):Int) from by omega]
def kJ(a:List α)(k:Int)(j:Nat):Int:=k+nL n (a.take j)
def lJ(a:List α)(k:Int)(j:Nat):List α:=mL m n (a.take j) k++a.drop j
theorem UL{a:List α}{k:Int}:kJ n a k 0=k:=by simp [kJ,nL]
theorem Zd1{a:List α}{k:Int}:lJ m n a k 0=a:=by simp [lJ,mL]
theorem Zbk{a:List α}{k:Int}:kJ n a k a.length=k+nL n a:=by simp [kJ]
theorem Zhz{a:List α}{k:Int}:lJ m n a k a.length=mL m n a k:=by simp [lJ]
theorem YS{a:List α}{k:Int}{j:Nat}(h:j<a.length):kJ n a k (j+1)=kJ n a k j+n a[j]:=by
 unfold kJ
 rw[List.take_succ_eq_append_getElem h,Zd0]
 simp only[nL]
 omega
theorem Zgc{a:List α}{k:Int}{j:Nat}:kJ n a k j<=k+nL n a:=by
 have:nL n a=nL n (a.take j)+nL n (a.drop j):=by rw[<-Zd0,List.take_append_drop]
 unfold kJ
 omega
theorem Zgd{a:List α}{k:Int}{j:Nat}:k<=kJ n a k j:=by unfold kJ;omega
theorem Ztm{a:List α}{k:Int}{j:Nat}:(lJ m n a k j).length=a.length:=by
 unfold lJ
 rw[List.length_append,Zi,List.length_take,List.length_drop]
 omega
theorem Ztn{a:List α}{k:Int}{j:Nat}(h:j<a.length):(lJ m n a k j)[j]? = some a[j]:=by
 unfold lJ
 have h1:(mL m n (a.take j) k).length=j:=by rw[Zi,List.length_take];omega
 rw[List.getElem?_append_right (by omega),h1,Nat.sub_self,List.getElem?_drop,Nat.add_zero,List.getElem?_eq_getElem h]
theorem Zto{a:List α}{k:Int}{j:Nat}(h:j<a.length):(lJ m n a k j).set j (m a[j] (kJ n a k j))=lJ m n a k (j+1):=by
 unfold lJ
 have h1:(mL m n (a.take j) k).length=j:=by rw[Zi,List.length_take];omega
 rw[List.set_append_right _ _ (by omega),h1,Nat.sub_self,List.drop_eq_getElem_cons h,List.set_cons_zero,List.take_succ_eq_append_getElem h,Zhy]
 simp only[mL,kJ,List.append_assoc,List.cons_append,List.nil_append]
theorem ZhA(c:α->List Tr){a:List α}{k:Int}{j:Nat}(h:j<a.length):∃ R:Row,j<R.length/\(lJ m n a k j).map c=R.set j (c a[j])/\(lJ m n a k (j+1)).map c=R.set j (c (m a[j] (kJ n a k j))):=by
 refine⟨(lJ m n a k j).map c,by rw[List.length_map,Ztm];exact h,?_,?_⟩
 ·refine(Zgb ?_).symm
  rw[List.getElem?_map,Ztn m n h];rfl
 ·rw[<-Zto m n h,List.map_set]
end mark
theorem Xd{R:Row}{j:Nat}(h:j<R.length)(e:List Tr):(R.set j e)[j]? = some e:=List.getElem?_set_self h
theorem XR{es r0:Row}{p:Pth}{R:Row}{j:Nat}(hv:getp es p=some r0)(h:j<R.length)(e:List Tr)(f:Nat)(t:Tr):Y7 (Uw es p (R.set j e)) p j f t=Uw es p (R.set j (e.set f t)):=by
 rw[Zhv (Xd h e) hv,List.set_set]
def MarkS(P:Program)(fid:FuncId){α:Type}(c:α->List Tr)(m:α->Int->α)(n:α->Nat)(B:α->Prop):Prop :=
 ∀(a:List α) (k:Int) (lvl:Nat) (S:Sto) (id:Oid) (p:Pth) (es r0:Row) (kk hw ver st:Nat) (cap:Option Nat),id.1<lvl->getp es p=some r0->QV p st hw ver true->0<=k->k+nL n a<=4611686018427387904 ->
  a.length<=4294967296->(∀ x∈a,B x)->Sem P fid lvl [.hd id p 0 a.length cap st,iI k] (ZM S id (.ar kk (Uw es p (a.map c)) true hw ver)) (iI (k+nL n a)) (ZM S id (.ar kk (Uw es p ((mL m n a k).map c)) true hw ver))
theorem MarkS.nested{P:Program}{fid:FuncId}{α:Type}{c:α->List Tr}{m:α->Int->α}{n:α->Nat}{B:α->Prop}(hm:MarkS P fid c m n B){a:List α}{k:Int}{lvl:Nat}{S:Sto}{id:Oid}{p:Pth}{es r0:Row}{kk hw ver j f:Nat}{R:Row}{e:List Tr}
  (hid:id.1<lvl) (hv:getp es p=some r0) (h0:0<=k) (h1:k+nL n a<=4611686018427387904) (hl:a.length<=4294967296) (hB:∀ x∈a,B x) (hj:j<R.length) (he:e[f]? = some (.sl (a.map c))) :
  Sem P fid lvl [.hd id (p++[(j,f)]) 0 a.length none ver,iI k] (ZM S id (.ar kk (Uw es p (R.set j e)) true hw ver)) (iI (k+nL n a)) (ZM S id (.ar kk (Uw es p (R.set j (e.set f (.sl ((mL m n a k).map c))))) true hw ver)):=by
 have hR:(R.set j e)[j]? = some e:=by rw[List.getElem?_set_self hj]
 have g1:getp (Uw es p (R.set j e)) p=some (R.set j e):=Wc hv
 have g2:getp (Uw es p (R.set j e)) (p++[(j,f)])=some (a.map c):=by
  rw[Zhw g1,Zcp hR he];rfl
 have:=hm a k lvl S id (p++[(j,f)]) (Uw es p (R.set j e)) _ kk hw ver ver none hid g2 (by cases p <;> exact⟨rfl,rfl⟩) h0 h1 hl hB
 rw[Zhx g2,ZjP g1,Zhu hv,VO hR he] at this
 simp only[Uw,List.set_set] at this
 exact this
theorem ZnP{P:Program}{fid:FuncId}{α:Type}{c:α->List Tr}{m:α->Int->α}{n:α->Nat}{B:α->Prop}(hm:MarkS P fid c m n B){a:List α}{k:Int}{lvl len:Nat}{S:Sto}{id:Oid}{p:Pth}{es r0:Row}{kk hw ver j f:Nat}{R:Row}{e:List Tr}{env:List (Nat×IV)}{loc:List (Nat×Ob)}{d:Option Nat}{K:St->Prop}
  (hid:id.1<lvl) (hv:getp es p=some r0) (h0:0<=k) (h1:k+nL n a<=4611686018427387904) (hl:a.length<=4294967296) (hB:∀ x∈a,B x) (hj:j<R.length) (he:e[f]? = some (.sl (a.map c))) (hlen:len=a.length)
  (hk:K ⟨lvl,ptd d (iI (k+nL n a)) env,loc,ZM S id (.ar kk (Uw es p (R.set j (e.set f (.sl ((mL m n a k).map c))))) true hw ver)⟩) :
  kcy (Sem P) fid true lvl env loc (ZM S id (.ar kk (Uw es p (R.set j e)) true hw ver)) d K [.hd id (p++[(j,f)]) 0 len none ver,iI k]:=by
 subst hlen
 have hne:id.1≠lvl:=by omega
 refine Qs (r:=iI (k+nL n a)) loc (ZM S id (.ar kk (Uw es p (R.set j (e.set f (.sl ((mL m n a k).map c))))) true hw ver)) ?_ ?_ ⟨?_,hk⟩
 ·intro i hi
  have:i≠id:=fun e=>hne (by rw[<-e];exact hi)
  unfold ZM
  rw[if_neg this,if_neg this]
 ·rw[Uf hne,Uf hne]
  exact hm.nested (Nat.lt_succ_of_lt hid) hv h0 h1 hl hB hj he
 ·trivial
theorem Ug{lvl key:Nat}{loc:List (Nat×Ob)}{out:Sto}{o:Ob}:ZG lvl (ptO key o loc) out=ZM (ZG lvl loc out) (lvl,key) o:=by
 funext i
 unfold ZG ZM
 by_cases h:i.1=lvl
 ·rw[if_pos h,ZdD]
  by_cases h2:i.2=key
  ·have:i=(lvl,key):=by obtain⟨a,b⟩:=i;simp only at h h2;rw[h,h2]
   rw[if_pos h2,if_pos this]
  ·have:¬ i=(lvl,key):=fun e=>h2 (by rw[e])
   rw[if_neg h2,if_neg this]
   exact(if_pos h).symm
 ·have:¬ i=(lvl,key):=fun e=>h (by rw[e])
  rw[if_neg h,if_neg this]
  exact(if_neg h).symm
theorem Zbl{P:Program}{fid:FuncId}{α:Type}{c:α->List Tr}{m:α->Int->α}{n:α->Nat}{B:α->Prop}(hm:MarkS P fid c m n B){a:List α}{k:Int}{lvl:Nat}{out:Sto}{id:Oid}{kk hw ver:Nat}{cap:Option Nat}{env:List (Nat×IV)}{loc:List (Nat×Ob)}{d:Option Nat}{K:St->Prop}
  (hid:id.1<lvl) (hS:out id=some (.ar kk (a.map c) true hw ver)) (h0:0<=k) (h1:k+nL n a<=4611686018427387904) (hl:a.length<=4294967296) (hB:∀ x∈a,B x)
  (hk:K ⟨lvl,ptd d (iI (k+nL n a)) env,loc,ZM out id (.ar kk ((mL m n a k).map c) true hw ver)⟩) :
  kcy (Sem P) fid true lvl env loc out d K [.hd id [] 0 a.length cap hw,iI k]:=by
 have hne:id.1≠lvl:=by omega
 refine Qs (r:=iI (k+nL n a)) loc (ZM out id (.ar kk ((mL m n a k).map c) true hw ver)) ?_ ?_ ⟨?_,hk⟩
 ·intro i hi
  have:i≠id:=fun e=>hne (by rw[<-e];exact hi)
  unfold ZM
  rw[if_neg this]
 ·rw[Uf hne]
  have e:ZG lvl loc out=ZM (ZG lvl loc out) id (.ar kk (Uw (a.map c) [] (a.map c)) true hw ver):=(Qt (by rw[Z6 hne];exact hS)).symm
  have:=hm a k (lvl+1) (ZG lvl loc out) id [] (a.map c) (a.map c) kk hw ver hw cap (Nat.lt_succ_of_lt hid) rfl rfl h0 h1 hl hB
  rw[<-e] at this
  exact this
 ·trivial
theorem ZhB{P:Program}{fid:FuncId}{α:Type}{c:α->List Tr}{m:α->Int->α}{n:α->Nat}{B:α->Prop}(hm:MarkS P fid c m n B){a:List α}{k:Int}{lvl key:Nat}{out:Sto}{kk hw ver:Nat}{cap:Option Nat}{env:List (Nat×IV)}{loc:List (Nat×Ob)}{d:Option Nat}{K:St->Prop}
  (hS:lkO key loc=some (.ar kk (a.map c) true hw ver)) (h0:0<=k) (h1:k+nL n a<=4611686018427387904) (hl:a.length<=4294967296) (hB:∀ x∈a,B x)
  (hk:K ⟨lvl,ptd d (iI (k+nL n a)) env,ptO key (.ar kk ((mL m n a k).map c) true hw ver) loc,out⟩) :
  kcy (Sem P) fid true lvl env loc out d K [.hd (lvl,key) [] 0 a.length cap hw,iI k]:=by
 refine Qs (r:=iI (k+nL n a)) (ptO key (.ar kk ((mL m n a k).map c) true hw ver) loc) out (fun _ _=>rfl) ?_ ⟨?_,hk⟩
 ·rw[Ug]
  have e:ZG lvl loc out=ZM (ZG lvl loc out) (lvl,key) (.ar kk (Uw (a.map c) [] (a.map c)) true hw ver):=(Qt (by unfold ZG;rw[if_pos rfl];exact hS)).symm
  have:=hm a k (lvl+1) (ZG lvl loc out) (lvl,key) [] (a.map c) (a.map c) kk hw ver hw cap (Nat.lt_succ_self _) rfl rfl h0 h1 hl hB
  rw[<-e] at this
  exact this
 ·trivial
end Go.Fd

/-
  HOW MANY MARKS A THING TAKES, AGAINST ITS SIZE. Own work.
-/
namespace Go.Fd
def Zbm(l:Int)(g:Int->Int):Int:=if l<0 then -1 else g l
def Zq(c:Int)(s:Int->Int)(q:Nat):Prop:=∀ l:Int,0<=l->l<=1048576->s l<=l/\(0<=s l->(q:Int)<=c+256*(l-s l))
theorem ZnQ:Zq 0 (fun l=>l) 0:=fun l _ _=>⟨Int.le_refl _,fun _=>by simp only;omega⟩
theorem ZiI{c e:Int}{s g:Int->Int}{q r:Nat}(hc:0<=c)(he:0<=e)(hs:Zq c s q)(hg:Zq e g r):Zq (c+e) (fun l=>Zbm (s l) g) (q+r):=fun l h0 h1=>by
 have a:=hs l h0 h1
 by_cases h:s l<0
 ·simp only[Zbm,if_pos h]
  exact⟨by omega,fun h=>by omega⟩
 ·simp only[Zbm,if_neg h]
  have b:=hg (s l) (by omega) (by omega)
  refine⟨by omega,fun h2=>?_⟩
  have:=a.2 (by omega)
  have:=b.2 h2
  omega
theorem ZyH{α:Type}(n:α->Nat)(hn:∀ x,n x<=256)(a:List α):Zq 0 (fun l=>szN a.length l) (nL n a):=fun l h0 h1=>by
 have hh:∀ b:List α,nL n b<=256*b.length:=fun b=>by
  induction b with
  | nil=>exact Nat.le_refl 0
  | cons x r ih=>simp only[nL,List.length_cons];have:=hn x;omega
 have:=hh a
 simp only[szN]
 split
 ·exact⟨by omega,fun h=>by omega⟩
 ·exact⟨by omega,fun h=>by omega⟩
theorem ZoA(n:Nat):Zq 0 (fun l=>l-n) 0:=fun l h0 h1=>⟨by simp only;omega,fun h=>by simp only at h ⊢;omega⟩
theorem Zqd(n:Nat):Zq 256 (fun l=>l-n) 1:=fun l h0 h1=>⟨by simp only;omega,fun h=>by simp only at h ⊢;omega⟩
theorem ZyI{α:Type}{f:α->Int->Int}{n:α->Nat}(hf:∀ x,Zq 256 (f x) (n x)):∀(a:List α),Zq (256*a.length) (fun l=>szF f a l) (nL n a)
 | []=>fun l _ _=>⟨Int.le_refl l,fun _=>by simp only[szF,nL,List.length_nil];omega⟩
 | x::r=>fun l h0 h1=>by
  simp only[szF,nL,List.length_cons]
  have a:=hf x l h0 h1
  split
  ·exact⟨by omega,fun h=>by omega⟩
  ·have b:=ZyI hf r (f x l) (by omega) (by omega)
   simp only at b
   refine⟨by omega,fun h=>?_⟩
   have:=a.2 (by omega)
   have:=b.2 h
   omega
theorem Zuc{α:Type}{f:α->Int->Int}{n:α->Nat}(hf:∀ x,Zq 256 (f x) (n x))(a:List α):Zq 0 (fun l=>szL f a l) (nL n a):=fun l h0 h1=>by
 simp only[szL]
 split
 ·exact⟨by omega,fun h=>by omega⟩
 ·have b:=ZyI hf a (l-a.length) (by omega) (by omega)
  simp only at b
  refine⟨by omega,fun h=>?_⟩
  have:=b.2 h
  omega
theorem Zd2{c e:Int}{s:Int->Int}{q r:Nat}(h:Zq c s q)(hq:(r:Int)+c<=q+e):Zq e s r:=fun l h0 h1=>by
 have a:=h l h0 h1
 refine⟨a.1,fun h2=>?_⟩
 have:=a.2 h2
 omega
end Go.Fd

/-
  THE DATA OF THE LAWS: plain types, how they lie in memory (printed by lawgen.py). Own work.
-/
namespace Go.Fd
set_option maxRecDepth 10000
structure TNode where
 control:Int
 parent:Int
 links:(List Int)
 deriving DecidableEq
def ZF(x:TNode):List Tr:=[tv x.control,tv x.parent,.sl (rI x.links)]
theorem ZlS(x:TNode):(ZF x).length=3:=rfl
def ZnR(x:TNode):IV:=.ag [iI x.control,iI x.parent,.ow 1 (rI x.links) true]
def Xi(n:Nat)(x:TNode):Prop:=x.links.length<=n
def ZlT(x:TNode):Prop:=Xt .i64 x.control/\Xt .i64 x.parent/\(∀ y∈x.links,Xt .i64 y)
def U1(x:TNode)(l:Int):Int:=Zbm (szN x.links.length l) fun l=>l
structure TWire where
 name:ByteArray
 link:Int
 deriving DecidableEq
def ZC(x:TWire):List Tr:=[ts x.name,tv x.link]
theorem ZlU(x:TWire):(ZC x).length=2:=rfl
def ZnS(x:TWire):IV:=.ag [iS x.name,iI x.link]
def Qe(n:Nat)(x:TWire):Prop:=x.name.size<=n
def ZjQ(x:TWire):Prop:=Xt .i64 x.link
def U2(x:TWire)(l:Int):Int:=Zbm (l-x.name.size) fun l=>l
structure TBigraph where
 roots:Int
 nodes:(List TNode)
 sites:(List Int)
 edges:Int
 outer:(List ByteArray)
 inner:(List TWire)
 deriving DecidableEq
def Za(x:TBigraph):List Tr:=[tv x.roots,.sl (x.nodes.map ZF),.sl (rI x.sites),tv x.edges,.sl (rS x.outer),.sl (x.inner.map ZC)]
def Zg(x:TBigraph):IV:=.ag [iI x.roots,.ow 3 (x.nodes.map ZF) true,.ow 1 (rI x.sites) true,iI x.edges,.ow 1 (rS x.outer) true,.ow 2 (x.inner.map ZC) true]
def Zl(n:Nat)(x:TBigraph):Prop:=x.nodes.length<=n/\(∀ y∈x.nodes,Xi n y)/\x.sites.length<=n/\x.outer.length<=n/\(∀ y∈x.outer,y.size<=n)/\x.inner.length<=n/\(∀ y∈x.inner,Qe n y)
def Zr(x:TBigraph):Prop:=Xt .i64 x.roots/\(∀ y∈x.nodes,ZlT y)/\(∀ y∈x.sites,Xt .i64 y)/\Xt .i64 x.edges/\(∀ y∈x.inner,ZjQ y)
def JS(x:TBigraph)(l:Int):Int:=Zbm (szL U1 x.nodes l) fun l=>Zbm (szN x.sites.length l) fun l=>Zbm (szL (fun x m=>m-x.size) x.outer l) fun l=>Zbm (szL U2 x.inner l) fun l=>l
structure TControl where
 name:ByteArray
 ports:Int
 kind_:Int
 deriving DecidableEq
def Zk(x:TControl):List Tr:=[ts x.name,tv x.ports,tv x.kind_]
theorem ZcN(x:TControl):(Zk x).length=3:=rfl
def Zds(x:TControl):IV:=.ag [iS x.name,iI x.ports,iI x.kind_]
def Zy(n:Nat)(x:TControl):Prop:=x.name.size<=n
def ZhC(x:TControl):Prop:=Xt .i64 x.ports/\Xt .i64 x.kind_
def Jg(x:TControl)(l:Int):Int:=Zbm (l-x.name.size) fun l=>l
end Go.Fd

/-
  The numbers of the functions of this program, by name (printed by ids.py).
-/
namespace Go.Fd
abbrev Yt:FuncId:=3
abbrev V4:FuncId:=4
abbrev Yd:FuncId:=5
abbrev Jq:FuncId:=6
abbrev Jx:FuncId:=7
abbrev Zx:FuncId:=8
abbrev JV:FuncId:=9
abbrev Jd:FuncId:=10
abbrev V5:FuncId:=11
abbrev Vb:FuncId:=12
abbrev Ja:FuncId:=13
abbrev Ym:FuncId:=14
abbrev Qu:FuncId:=15
abbrev Xv:FuncId:=16
abbrev Qv:FuncId:=17
abbrev Qw:FuncId:=18
abbrev Xw:FuncId:=19
abbrev Xx:FuncId:=20
abbrev Jh:FuncId:=21
abbrev Q1:FuncId:=22
abbrev Qx:FuncId:=23
abbrev Xy:FuncId:=24
abbrev Qy:FuncId:=25
abbrev Qz:FuncId:=26
abbrev Xz:FuncId:=27
abbrev ZT:FuncId:=28
abbrev XA:FuncId:=29
abbrev Wd:FuncId:=30
abbrev V6:FuncId:=31
abbrev XB:FuncId:=32
abbrev QA:FuncId:=33
abbrev QB:FuncId:=34
abbrev XC:FuncId:=35
abbrev QC:FuncId:=36
abbrev Jy:FuncId:=37
abbrev QD:FuncId:=38
abbrev Vo:FuncId:=39
abbrev Vz:FuncId:=40
abbrev QE:FuncId:=41
abbrev QF:FuncId:=42
abbrev Vp:FuncId:=43
abbrev VA:FuncId:=44
abbrev QG:FuncId:=45
abbrev We:FuncId:=46
abbrev Wf:FuncId:=47
abbrev XD:FuncId:=48
abbrev WY:FuncId:=49
abbrev Jr:FuncId:=50
abbrev VZ:FuncId:=51
abbrev JO:FuncId:=52
abbrev Wg:FuncId:=53
abbrev V0:FuncId:=54
abbrev QH:FuncId:=55
abbrev Q3:FuncId:=56
abbrev YY:FuncId:=57
abbrev Wh:FuncId:=58
abbrev Wi:FuncId:=59
abbrev VB:FuncId:=60
abbrev Ji:FuncId:=61
abbrev Vq:FuncId:=62
abbrev ZB:FuncId:=63
abbrev JD:FuncId:=64
abbrev Jz:FuncId:=65
abbrev VC:FuncId:=66
abbrev JW:FuncId:=67
abbrev VD:FuncId:=68
abbrev Js:FuncId:=69
abbrev VE:FuncId:=70
abbrev J3:FuncId:=71
abbrev Yz:FuncId:=72
abbrev ZW:FuncId:=73
abbrev JE:FuncId:=74
abbrev Z3:FuncId:=75
abbrev QI:FuncId:=76
abbrev Q4:FuncId:=77
abbrev JM:FuncId:=78
abbrev Wj:FuncId:=79
abbrev Wl:FuncId:=80
abbrev Wm:FuncId:=81
abbrev V1:FuncId:=82
abbrev Wn:FuncId:=83
abbrev QJ:FuncId:=84
abbrev QK:FuncId:=85
abbrev Q5:FuncId:=86
abbrev V7:FuncId:=87
abbrev Wo:FuncId:=88
abbrev Vc:FuncId:=89
abbrev XE:FuncId:=90
abbrev QL:FuncId:=91
abbrev Z9:FuncId:=92
abbrev J4:FuncId:=93
abbrev YZ:FuncId:=94
abbrev JB:FuncId:=95
abbrev Yi:FuncId:=96
abbrev ZZ:FuncId:=97
abbrev ZU:FuncId:=98
abbrev YA:FuncId:=99
abbrev Yp:FuncId:=100
abbrev ZV:FuncId:=101
abbrev UM:FuncId:=102
abbrev Xe:FuncId:=103
abbrev Q6:FuncId:=104
abbrev XF:FuncId:=105
abbrev Wp:FuncId:=106
abbrev V2:FuncId:=107
abbrev Wq:FuncId:=108
abbrev XG:FuncId:=109
abbrev YI:FuncId:=110
abbrev JP:FuncId:=111
abbrev XH:FuncId:=112
abbrev U3:FuncId:=113
abbrev Jm:FuncId:=114
abbrev JT:FuncId:=115
abbrev Ye:FuncId:=116
abbrev Q7:FuncId:=117
abbrev JF:FuncId:=118
abbrev YB:FuncId:=119
abbrev Vd:FuncId:=120
abbrev YC:FuncId:=121
abbrev YD:FuncId:=122
abbrev J5:FuncId:=123
abbrev Q8:FuncId:=124
abbrev YJ:FuncId:=125
abbrev J9:FuncId:=126
abbrev Ya:FuncId:=127
abbrev XI:FuncId:=128
abbrev YK:FuncId:=129
abbrev JA:FuncId:=137
abbrev YE:FuncId:=138
abbrev QM:FuncId:=139
abbrev ZO:FuncId:=140
abbrev YF:FuncId:=141
abbrev ZN:FuncId:=142
abbrev Jn:FuncId:=143
abbrev Jo:FuncId:=144
abbrev Jj:FuncId:=145
abbrev Vr:FuncId:=146
abbrev JZ:FuncId:=147
abbrev Xf:FuncId:=148
abbrev Vs:FuncId:=149
abbrev JQ:FuncId:=154
abbrev VF:FuncId:=155
abbrev Jt:FuncId:=156
abbrev ZJ:FuncId:=157
abbrev Vt:FuncId:=158
abbrev ZX:FuncId:=162
abbrev Jv:FuncId:=163
abbrev Z2:FuncId:=164
abbrev VP:FuncId:=165
abbrev YT:FuncId:=166
abbrev Ve:FuncId:=167
abbrev Y8:FuncId:=168
abbrev Yf:FuncId:=169
abbrev YL:FuncId:=170
abbrev VG:FuncId:=171
abbrev ZaP:FuncId:=172
abbrev V8:FuncId:=173
abbrev ZQ:FuncId:=178
abbrev Z7:FuncId:=185
abbrev QN:FuncId:=186
abbrev Vu:FuncId:=187
abbrev VQ:FuncId:=188
abbrev VH:FuncId:=189
abbrev Yq:FuncId:=190
abbrev YG:FuncId:=191
abbrev Vf:FuncId:=192
abbrev Qi:FuncId:=193
abbrev Yn:FuncId:=199
abbrev qM(d a:Nat):OP:=om d (.t a)
abbrev qL(d a:Nat):OP:=oo d (.ld none (.t a))
abbrev qF(d o a:Nat):OP:=oo d (.fa o (.t a))
abbrev qN(d a:Nat):OP:=oo d (.ln (.t a))
abbrev qS(d k a:Nat):OP:=oo d (.ld (some k) (.t a))
abbrev qE(d i a:Nat):OP:=oo d (.ex i (.t a))
abbrev qI(d k a b:Nat):OP:=oo d (.ia k (.t a) (.t b))
abbrev qB(d:Nat)(o:BinOp)(a b:Nat):OP:=oo d (.bi o 0 (.t a) (.t b))
end Go.Fd
