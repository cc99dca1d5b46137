/-
  FOUNDATION 46: more rules: stores, append. Own work.
-/
import Derived.Test.YtckkmhcccbnccaaT03
import Derived.ChangeArms
import Derived.OpenShut
import Derived.Carry
import Derived.ChangeMaps5
import Derived.ChangeShapes
import Derived.Test.YtckkmhcccbnccaaProg
import Derived.KernelRfl
import Derived.Shelf.Small.Strs
import Derived.Shelf.Strings.OnBuilder
import Derived.Lib.IndexLaws
set_option linter.all false
namespace Go.Fd
section
variable {C:Za} {lvl:Nat} {env:List (Nat×IV)} {loc:List (Nat×Ob)} {out:Sto} {d:Option Nat} {K:St->Prop} {st:St}
def st2(v:Option (List IV))(m:Nat)(p:IV)(d:Option Nat)(st:St)(K:St->Prop):Prop :=
 match v with
 | some l=>d=none/\l.length=m /\
  match p with
  | .ab id off =>
   match st.sto id with
   | some (.bx cells)=>off+l.length<=cells.length/\Yp (id.1+1) l/\K (Zc st id (.bx (JX cells off l)))
   | _=>False
  | .ae id p i f s=>Xc id p i s f l st K
  | _=>False
 | none=>False
theorem Zj7{m:Nat}{p x:X}:op2 C d (.st m p x) ⟨lvl,env,loc,out⟩ K=st2 (cellsOf (xv env x)) m (xv env p) d ⟨lvl,env,loc,out⟩ K:=by
 rw[Zp rfl]
 simp only[ew]
 generalize cellsOf (xv env x)=v
 cases v with
 | none=>simp [st2]
 | some l=>rfl
def stb(o:Option Ob)(id:Oid)(off:Nat)(l:List IV)(st:St)(K:St->Prop):Prop :=
 match o with
 | some (.bx cells)=>off+l.length<=cells.length/\Yp (id.1+1) l/\K (Zc st id (.bx (JX cells off l)))
 | _=>False
theorem Zh2{m:Nat}{l:List IV}{id:Oid}{off:Nat}:st2 (some l) m (.ab id off) d ⟨lvl,env,loc,out⟩ K=(d=none/\l.length=m/\stb (Zj lvl loc out id) id off l ⟨lvl,env,loc,out⟩ K):=(rfl)
theorem Zh3{m:Nat}{l:List IV}{id:Oid}{p:Pth}{i f s:Nat}:st2 (some l) m (.ae id p i f s) d st K=(d=none/\l.length=m/\Xc id p i s f l st K):=(rfl)
theorem Zh4{cells l:List IV}{id:Oid}{off:Nat}:stb (some (.bx cells)) id off l st K=(off+l.length<=cells.length/\Yp (id.1+1) l/\K (Zc st id (.bx (JX cells off l)))):=(rfl)
theorem ZaC{cs:List IV}{off:Nat}:JX cs off []=cs:=(rfl)
theorem ZaD{cs:List IV}{off:Nat}{x:IV}{r:List IV}:JX cs off (x::r)=JX (cs.set off x) (off+1) r:=(rfl)
theorem ZbX{l:Nat}:Yp l []=True:=(rfl)
theorem ZbY{l:Nat}{x:IV}{r:List IV}:Yp l (x::r)=(low l x/\Yp l r):=(rfl)
theorem ZdW{l:Nat}{t:Tr}:low l (.tr t)=True:=(rfl)
theorem ZdX{l:Nat}{es:Row}:low l (.cs es)=True:=(rfl)
theorem ZdY{l k:Nat}{p:Pth}{off len s:Nat}{cap:Option Nat}:low (l+1) (.hd (l,k) p off len cap s)=True:=by
 apply propext;simp [low,men]
theorem ZdZ{l k off:Nat}:low (l+1) (.ab (l,k) off)=True:=by
 apply propext;simp [low,men]
theorem Zd0{l:Nat}{c:List IV}:low l (.ag c)=Yp l c:=by simp only[low,Yp,men]
theorem Zd1{l:Nat}{c:List IV}:low l (.tu c)=Yp l c:=by simp only[low,Yp,men]
theorem Zd2{l k:Nat}{es:Row}{u:Bool}:low l (.ow k es u)=True:=(rfl)
theorem Zd3{l:Nat}:low l .un=True:=(rfl)
theorem Zd4{l:Nat}:low l .er=True:=(rfl)
theorem ZbZ{l:Nat}{c:List Tr}:low l (.ta c)=True:=(rfl)
def kst(id:Oid)(p:Pth)(i s f:Nat)(r:List IV)(K:St->Prop)(st':St):Prop:=Xc id p i s f r st' K
theorem Zh5{id:Oid}{p:Pth}{i s f:Nat}{r:List IV}:kst id p i s f r K st=Xc id p i s f r st K:=(rfl)
theorem Zb0{id:Oid}{p:Pth}{i s f:Nat}:Xc id p i s f [] st K=K st:=(rfl)
def sc1(o:Option Ob)(id:Oid)(p:Pth)(i f s:Nat)(x:IV)(st:St)(K:St->Prop):Prop :=
 match o with
 | some (.ar k es u hw ver)=>Jw p s hw ver u/\op3 (getp es p) fun es' => op3 es'[i]? fun e=>op3 e[f]? fun t0 =>
  match x with
  | .tr (.v y)=>isSc t0=true/\K (Zc st id (.ar k (JI es p i f (.v y)) u hw ver))
  | .cs []=>p=[]/\K (Zc st id (.ar k (JI es [] i f (.sl [])) u hw (ver+1)))
  | .cs zs=>p=[]/\K (Zc st id (.ar k (JI es [] i f (.sl zs)) false hw (ver+1)))
  | .tr (.sl zs)=>p=[]/\K (Zc st id (.ar k (JI es [] i f (.sl zs)) false hw (ver+1)))
  | .hd id2 [] 0 len none s2=>p=[]/\id2≠id/\id2.1=st.lvl /\
   match st.sto id2 with
   | some (.ar _ zs u2 hw2 _)=>s2=hw2/\len=zs.length/\K (Zc (ZM id2 st) id (.ar k (JI es [] i f (.sl zs)) (u&&u2) hw (ver+1)))
   | _=>False
  | _=>False
 | _=>False
theorem Zb1{id:Oid}{p:Pth}{i s f:Nat}{x:IV}{r:List IV}:Xc id p i s f (x::r) ⟨lvl,env,loc,out⟩ K=sc1 (Zj lvl loc out id) id p i f s x ⟨lvl,env,loc,out⟩ (kst id p i s (f+1) r K):=by
 simp only[Xc,stc,sc1]
 rw[show (⟨lvl,env,loc,out⟩:St).sto id=Zj lvl loc out id from rfl]
 generalize Zj lvl loc out id=o
 cases o with
 | none=>rfl
 | some ob =>
  cases ob with
  | bx=>rfl
  | ar k es u hw ver =>
   dsimp only
   rw[<-Js]
   apply propext
   constructor
   ·rintro⟨es',h1,h2,e,h3,t0,h4,h5⟩
    refine⟨h2,es',h1,?_⟩
    rw[h3]
    simp only[op3]
    rw[h4]
    exact h5
   ·rintro⟨h2,es',h1,h3⟩
    rw[<-Js] at h3
    obtain⟨e,h3,h4⟩:=h3
    rw[<-Js] at h4
    obtain⟨t0,h4,h5⟩:=h4
    exact⟨es',h1,h2,e,h3,t0,h4,h5⟩
def sc2(k:Nat)(es:Row)(u:Bool)(hw ver:Nat)(id:Oid)(p:Pth)(i f:Nat)(x:IV)(st:St)(K:St->Prop)(t0:Tr):Prop :=
  match x with
  | .tr (.v y)=>isSc t0=true/\K (Zc st id (.ar k (JI es p i f (.v y)) u hw ver))
  | .cs []=>p=[]/\K (Zc st id (.ar k (JI es [] i f (.sl [])) u hw (ver+1)))
  | .cs zs=>p=[]/\K (Zc st id (.ar k (JI es [] i f (.sl zs)) false hw (ver+1)))
  | .tr (.sl zs)=>p=[]/\K (Zc st id (.ar k (JI es [] i f (.sl zs)) false hw (ver+1)))
  | .hd id2 [] 0 len none s2=>p=[]/\id2≠id/\id2.1=st.lvl /\
   match st.sto id2 with
   | some (.ar _ zs u2 hw2 _)=>s2=hw2/\len=zs.length/\K (Zc (ZM id2 st) id (.ar k (JI es [] i f (.sl zs)) (u&&u2) hw (ver+1)))
   | _=>False
  | _=>False
def sc3(k:Nat)(es:Row)(u:Bool)(hw ver:Nat)(id:Oid)(p:Pth)(i f:Nat)(x:IV)(st:St)(K:St->Prop)(e:List Tr):Prop:=op3 e[f]? (sc2 k es u hw ver id p i f x st K)
def sc4(k:Nat)(es:Row)(u:Bool)(hw ver:Nat)(id:Oid)(p:Pth)(i f:Nat)(x:IV)(st:St)(K:St->Prop)(es':Row):Prop:=op3 es'[i]? (sc3 k es u hw ver id p i f x st K)
section sc
variable {k:Nat} {es:Row} {u:Bool} {hw ver:Nat} {id:Oid} {p:Pth} {i f s:Nat} {x:IV}
theorem Zh6:sc1 (some (.ar k es u hw ver)) id p i f s x st K=(Jw p s hw ver u/\op3 (getp es p) (sc4 k es u hw ver id p i f x st K)):=(rfl)
theorem Zh7{e:List Tr}:sc3 k es u hw ver id p i f x st K e=op3 e[f]? (sc2 k es u hw ver id p i f x st K):=(rfl)
theorem Zh8{es':Row}:sc4 k es u hw ver id p i f x st K es'=op3 es'[i]? (sc3 k es u hw ver id p i f x st K):=(rfl)
theorem Zh9{y:Value}{t0:Tr}:sc2 k es u hw ver id p i f (.tr (.v y)) st K t0=(isSc t0=true/\K (Zc st id (.ar k (JI es p i f (.v y)) u hw ver))):=(rfl)
theorem Zd5{t0:Tr}:sc2 k es u hw ver id p i f (.cs []) st K t0=(p=[]/\K (Zc st id (.ar k (JI es [] i f (.sl [])) u hw (ver+1)))):=(rfl)
theorem Zd6{zs:Row}{t0:Tr}:sc2 k es u hw ver id p i f (.tr (.sl zs)) st K t0=(p=[]/\K (Zc st id (.ar k (JI es [] i f (.sl zs)) false hw (ver+1)))):=(rfl)
def sc5(o:Option Ob)(k:Nat)(es:Row)(u:Bool)(hw ver:Nat)(id:Oid)(i f len s2:Nat)(st2 st:St)(K:St->Prop):Prop :=
 match o with
 | some (.ar _ zs u2 hw2 _)=>s2=hw2/\len=zs.length/\K (Zc st2 id (.ar k (JI es [] i f (.sl zs)) (u&&u2) hw (ver+1)))
 | _=>False
theorem Zd7{key len s2:Nat}{t0:Tr}:sc2 k es u hw ver id p i f (.hd (lvl,key) [] 0 len none s2) ⟨lvl,env,loc,out⟩ K t0=(p=[]/\(lvl,key)≠id/\sc5 (lkO key loc) k es u hw ver id i f len s2 (ZM (lvl,key) ⟨lvl,env,loc,out⟩) ⟨lvl,env,loc,out⟩ K):=by
 simp only[sc2]
 rw[show (⟨lvl,env,loc,out⟩:St).sto (lvl,key)=lkO key loc from ZE]
 generalize lkO key loc=o
 apply propext
 constructor
 ·rintro⟨h1,h2,_,h3⟩
  refine⟨h1,h2,?_⟩
  cases o with
  | none=>exact h3
  | some ob=>cases ob <;> exact h3
 ·rintro⟨h1,h2,h3⟩
  refine⟨h1,h2,trivial,?_⟩
  cases o with
  | none=>exact h3
  | some ob=>cases ob <;> exact h3
theorem Zia{k2:Nat}{zs:Row}{u2:Bool}{hw2 ver2 len s2:Nat}{st2:St}:sc5 (some (.ar k2 zs u2 hw2 ver2)) k es u hw ver id i f len s2 st2 st K=(s2=hw2/\len=zs.length/\K (Zc st2 id (.ar k (JI es [] i f (.sl zs)) (u&&u2) hw (ver+1)))):=(rfl)
end sc
theorem Zj8{k n:Nat}{z:List Value}{ps:List (Nat×X)}:op2 C d (.bw k n z ps) ⟨lvl,env,loc,out⟩ K=ew C d ⟨lvl,env,loc,out⟩ K (.bw k n z ps):=Zp rfl
def kbw(k lvl:Nat)(d:Option Nat)(K:St->Prop)(ts:List Tr)(u:Bool)(st':St):Prop :=
 K { Zc st' (lvl,keyOf d) (.ar k [ts] u 1 0) with env:=ptd d (.hd (lvl,keyOf d) [] 0 1 none 1) st'.env }
theorem Zib{k:Nat}{ts:List Tr}{u:Bool}:kbw k lvl d K ts u ⟨lvl,env,loc,out⟩=K ⟨lvl,ptd d (.hd (lvl,keyOf d) [] 0 1 none 1) env,ptO (keyOf d) (.ar k [ts] u 1 0) loc,out⟩:=by
 simp only[kbw,VQ]
def bw2(v:Option (List IV))(k n:Nat)(d:Option Nat)(loc:List (Nat×Ob))(lvl:Nat)(st:St)(K:St->Prop):Prop :=
 match v with
 | some l=>n=1/\l.length=k/\freshK (keyOf d) loc 1/\Wu l st (kbw k lvl d K)
 | none=>False
theorem Zic{k n:Nat}{z:List Value}{x:X}:ew C d ⟨lvl,env,loc,out⟩ K (.bw k n z [(0,x)])=bw2 (cellsOf (xv env x)) k n d loc lvl ⟨lvl,env,loc,out⟩ K:=by
 simp only[ew]
 generalize cellsOf (xv env x)=v
 cases v with
 | none=>simp [bw2]
 | some l=>rfl
theorem Zid{k n:Nat}{l:List IV}:bw2 (some l) k n d loc lvl st K=(n=1/\l.length=k/\freshK (keyOf d) loc 1/\Wu l st (kbw k lvl d K)):=(rfl)
def kmv(r:List IV)(F:List Tr->Bool->St->Prop)(t:Tr)(a:Bool)(st':St):Prop:=Wu r st' fun ts b st'' => F (t::ts) (a&&b) st''
def kmc(t:Tr)(a:Bool)(F:List Tr->Bool->St->Prop)(ts:List Tr)(b:Bool)(st'':St):Prop:=F (t::ts) (a&&b) st''
section mv
variable {r:List IV} {F:List Tr->Bool->St->Prop} {F1:Tr->Bool->St->Prop}
theorem Zie{t:Tr}{a:Bool}:kmv r F t a st=Wu r st (kmc t a F):=(rfl)
theorem Zif{t:Tr}{a:Bool}{ts:List Tr}{b:Bool}:kmc t a F ts b st=F (t::ts) (a&&b) st:=(rfl)
theorem Zb2:Wu [] st F=F [] true st:=(rfl)
theorem Zb3{x:IV}:Wu (x::r) st F=mvc st x (kmv r F):=(rfl)
theorem Zd8{y:Value}:mvc st (.tr (.v y)) F1=F1 (.v y) true st:=(rfl)
theorem Zd9{es:Row}:mvc st (.tr (.sl es)) F1=F1 (.sl es) false st:=(rfl)
theorem Zea:mvc st (.cs []) F1=F1 (.sl []) true st:=(rfl)
def mv5(o:Option Ob)(len s2:Nat)(st1:St)(F1:Tr->Bool->St->Prop):Prop :=
 match o with
 | some (.ar _ zs u2 hw2 _)=>s2=hw2/\len=zs.length/\F1 (.sl zs) u2 st1
 | _=>False
theorem Zeb{key len s2:Nat}:mvc ⟨lvl,env,loc,out⟩ (.hd (lvl,key) [] 0 len none s2) F1=mv5 (lkO key loc) len s2 (ZM (lvl,key) ⟨lvl,env,loc,out⟩) F1:=by
 simp only[mvc]
 rw[show (⟨lvl,env,loc,out⟩:St).sto (lvl,key)=lkO key loc from ZE]
 generalize lkO key loc=o
 apply propext
 constructor
 ·rintro⟨_,h3⟩
  cases o with
  | none=>exact h3
  | some ob=>cases ob <;> exact h3
 ·intro h3
  refine⟨trivial,?_⟩
  cases o with
  | none=>exact h3
  | some ob=>cases ob <;> exact h3
theorem Zig{k2:Nat}{zs:Row}{u2:Bool}{hw2 ver2 len s2:Nat}:mv5 (some (.ar k2 zs u2 hw2 ver2)) len s2 st F1=(s2=hw2/\len=zs.length/\F1 (.sl zs) u2 st):=(rfl)
end mv
def Zec:IV->Prop
 | .hd _ [] 0 _ none _=>True
 | _=>False
theorem Zed{id:Oid}{len s:Nat}:Zec (.hd id [] 0 len none s)=True:=(rfl)
def Za6:List IV->Prop
 | []=>True
 | .tr (.v _)::r=>Za6 r
 | _=>False
theorem Zb4:Za6 []=True:=(rfl)
theorem Zb5{y:Value}{r:List IV}:Za6 (.tr (.v y)::r)=Za6 r:=(rfl)
def smp(p:IV)(l:Option (List IV)):Prop :=
 match p with
 | .ab .. => True
 | .ae .. => l≠some []/\Za6 (l.getD [])
 | _=>False
theorem Zee{id:Oid}{off:Nat}{l:Option (List IV)}:smp (.ab id off) l=True:=(rfl)
theorem Zef{id:Oid}{p:Pth}{i f s:Nat}{x:IV}{r:List IV}:smp (.ae id p i f s) (some (x::r))=Za6 (x::r):=by simp [smp]
theorem Uq{id:Oid}{p:Pth}{i s k:Nat}{u:Bool}{hw ver:Nat}:∀(l:List IV) (f:Nat) (es:Row) (st0:St) (K:St->Prop),Za6 l->st0.sto id=some (.ar k es u hw ver)->Xc id p i s f l st0 K->stq p i f l es (fun es' => K (Zc st0 id (.ar k es' u hw ver)))\/l=[]
 | [],f,es,st0,K,_,_,h=>.inr rfl
 | x::r,f,es,st0,K,ha,hs,h=>by
  refine .inl ?_
  simp only[Xc,stc] at h
  rw[hs] at h
  obtain⟨es',hg,hst,e,hi,t0,hf,h⟩:=h
  cases x with
  | tr t =>
   cases t with
   | v y =>
    obtain⟨hsc,h⟩:=h
    simp only[stq]
    refine⟨es',hg,e,hi,t0,hf,hsc,?_⟩
    have hs1:(Zc st0 id (.ar k (JI es p i f (.v y)) u hw ver)).sto id=some (.ar k (JI es p i f (.v y)) u hw ver):=by rw[Zm];unfold Zn;rw[if_pos rfl]
    rcases Uq r (f+1) _ _ K ha hs1 h with g | g
    ·simp only[Yz] at g
     exact g
    ·subst g
     exact h
   | sl=>cases ha
  | _=>cases ha
theorem Zj9{m:Nat}{p x:X}:op2 C d (.s0 m p x) ⟨lvl,env,loc,out⟩ K=(smp (xv env p) (cellsOf (xv env x))/\op2 C d (.st m p x) ⟨lvl,env,loc,out⟩ K):=by
 rw[Zp rfl,Zp rfl]
 simp only[ew,Vb]
 generalize cellsOf (xv env x)=v
 generalize xv env p=q
 apply propext
 constructor
 ·rintro⟨h0,h⟩
  split at h <;> try contradiction
  rename_i l
  obtain⟨h1,h⟩:=h
  split at h <;> try contradiction
  ·exact⟨trivial,h0,h1,h⟩
  ·rename_i id p i f s
   split at h <;> try contradiction
   rename_i k es u hw ver hs
   obtain⟨g1,g2,g3⟩:=h
   refine⟨⟨by simpa using g1,?_⟩,h0,h1,Xp g2 l f es _ K hs g3 (fun e=>absurd e g1)⟩
   have:∀(l:List IV) (f:Nat) (es:Row) (K:Row->Prop),stq p i f l es K->Za6 l:=by
    intro l
    induction l with
    | nil=>intros;trivial
    | cons x r ih =>
     intro f es K h
     simp only[stq] at h
     obtain⟨_,_,_,_,_,_,_,h⟩:=h
     split at h <;> try contradiction
     exact ih _ _ _ h
   exact this _ _ _ _ g3
 ·rintro⟨h3,h0,h⟩
  refine⟨h0,?_⟩
  split at h <;> try contradiction
  rename_i l
  obtain⟨h1,h⟩:=h
  refine⟨h1,?_⟩
  split at h <;> try contradiction
  ·exact h
  ·rename_i id p i f s
   obtain⟨g1,g2⟩:=h3
   cases l with
   | nil=>exact absurd rfl g1
   | cons y r =>
    have h':=h
    simp only[Xc,stc] at h'
    split at h' <;> try contradiction
    rename_i k es u hw ver hs
    refine⟨by simp,h'.choose_spec.2.1,?_⟩
    rcases Uq _ _ _ _ K g2 hs h with g | g
    ·exact g
    ·cases g
theorem Zka{k:Nat}{x y:X}:op2 C d (.a0 k x y) ⟨lvl,env,loc,out⟩ K=(Zec (xv env x)/\op2 C d (.ap k 0 x y) ⟨lvl,env,loc,out⟩ K):=by
 rw[Zp rfl,Zp rfl]
 apply propext
 constructor
 ·intro he
  refine⟨?_,Ub he⟩
  simp only[ew,Vb] at he
  split at he <;> try contradiction
  rename_i hx
  rw[hx];trivial
 ·rintro⟨h1,h⟩
  generalize hq:xv env x=q at h1
  unfold Zec at h1
  split at h1 <;> try contradiction
  rename_i id len s
  have go:∀ items:Row,ScR items->YC d k x loc items true ⟨lvl,env,loc,out⟩ K->match Zj lvl loc out id with
   | some (.ar k' es u hw ver)=>k'=k/\s=hw/\len=es.length/\ScR items/\UnR k items/\len+items.length<=bigN /\
     K { Zc ⟨lvl,env,loc,out⟩ id (.ar k (es++items) u (max hw (len+items.length)) ver) with env:=ptd d (.hd id [] 0 (len+items.length) none (max hw (len+items.length))) env }
   | _=>False:=fun items hsc h=>by
   unfold YC at h
   obtain⟨g1,h⟩:=h
   simp only[hq] at h
   rw[show (⟨lvl,env,loc,out⟩:St).sto id=Zj lvl loc out id from rfl] at h
   generalize Zj lvl loc out id=o at h ⊢
   cases o with
   | none=>exact h
   | some ob =>
    cases ob with
    | bx=>exact h
    | ar k' es u hw ver =>
     simp only[Bool.and_true] at h
     exact⟨h.1,h.2.1,h.2.2.1,hsc,g1,h.2.2.2.1,h.2.2.2.2⟩
  simp only[ew,Vb,Wt] at h ⊢
  rw[hq]
  rw[show (⟨lvl,env,loc,out⟩:St).sto=Zj lvl loc out from rfl] at *
  split at h <;> try contradiction
  ·rename_i zs hy
   simp only[if_true] at h
   have:=go zs h.1 h.2
   rw[hy]
   exact this
  ·rename_i zs hy
   simp only[if_true] at h
   have:=go zs h.1 h.2
   rw[hy]
   exact this
  ·rename_i id2 p2 off2 len2 c2 s2 hy
   simp only[if_true] at h
   rw[hy]
   dsimp only
   unfold rdh at h ⊢
   generalize Zj lvl loc out id2=o3 at h ⊢
   cases o3 with
   | none=>exact h.elim
   | some ob3 =>
    cases ob3 with
    | bx=>exact h.elim
    | ar k3 es3 u3 hw3 ver3 =>
     obtain⟨es',q1,q2,q3,q4,q5⟩:=h
     have:=go _ q4 q5
     split at this <;> try contradiction
     rename_i hs
     show (match Zj lvl loc out id with
      | some (.ar k' es u hw ver)=>k'=k/\s=hw/\len=es.length/\∃ es',getp es3 p2=some es'/\Jw p2 s2 hw3 ver3 u3/\off2+len2<=es'.length/\ScR (cut es' off2 len2)/\UnR k (cut es' off2 len2)/\len+(cut es' off2 len2).length<=bigN /\
        K { Zc ⟨lvl,env,loc,out⟩ id (.ar k (es++cut es' off2 len2) u (max hw (len+(cut es' off2 len2).length)) ver) with env:=ptd d (.hd id [] 0 (len+(cut es' off2 len2).length) none (max hw (len+(cut es' off2 len2).length))) env }
      | _=>False)
     rw[hs]
     exact⟨this.1,this.2.1,this.2.2.1,es',q1,q2,q3,this.2.2.2⟩
  ·exact absurd h.1 (by decide)
def Zfb:IV->Prop
 | .tr (.sl _)=>True
 | .cs _=>True
 | _=>False
theorem Zb6{es:Row}:Zfb (.tr (.sl es))=True:=(rfl)
theorem Zb7{es:Row}:Zfb (.cs es)=True:=(rfl)
theorem Zkb{k:Nat}{x y:X}:op2 C d (.a1 k x y) ⟨lvl,env,loc,out⟩ K=(Zec (xv env x)/\Zfb (xv env y)/\op2 C d (.ap k 1 x y) ⟨lvl,env,loc,out⟩ K):=by
 rw[Zp rfl,Zp rfl]
 apply propext
 constructor
 ·intro he
  refine⟨?_,?_,Uc he⟩
  ·simp only[ew,Vb] at he
   split at he <;> try contradiction
   rename_i hx
   rw[hx];trivial
  ·simp only[ew,Vb] at he
   split at he <;> try contradiction
   split at he <;> try contradiction
   have h4:=he.2.2.2
   unfold Zcn at h4
   split at h4 <;> try contradiction
   ·rename_i hy;rw[hy];trivial
   ·rename_i hy;rw[hy];trivial
 ·rintro⟨h1,h2,h⟩
  generalize hq:xv env x=q at h1
  unfold Zec at h1
  split at h1 <;> try contradiction
  rename_i id len s
  have go:∀ items:Row,YC d k x loc items false ⟨lvl,env,loc,out⟩ K->match Zj lvl loc out id with
   | some (.ar k' es u hw ver)=>k'=k/\s=hw/\len=es.length/\UnR k items/\len+items.length<=bigN /\
     K { Zc ⟨lvl,env,loc,out⟩ id (.ar k (es++items) false (max hw (len+items.length)) ver) with env:=ptd d (.hd id [] 0 (len+items.length) none (max hw (len+items.length))) env }
   | _=>False:=fun items h=>by
   unfold YC at h
   obtain⟨g1,h⟩:=h
   simp only[hq] at h
   rw[show (⟨lvl,env,loc,out⟩:St).sto id=Zj lvl loc out id from rfl] at h
   generalize Zj lvl loc out id=o at h ⊢
   cases o with
   | none=>exact h
   | some ob =>
    cases ob with
    | bx=>exact h
    | ar k' es u hw ver =>
     simp only[Bool.and_false] at h
     exact⟨h.1,h.2.1,h.2.2.1,g1,h.2.2.2.1,h.2.2.2.2⟩
  simp only[ew,Vb,Zcn] at h ⊢
  rw[hq]
  rw[show (⟨lvl,env,loc,out⟩:St).sto=Zj lvl loc out from rfl] at *
  generalize hy:xv env y=yv at h h2 ⊢
  unfold Zfb at h2
  split at h2 <;> try contradiction
  ·simp only[Nat.reduceEqDiff,if_false,true_and] at h
   exact go _ h
  ·simp only[Nat.reduceEqDiff,if_false,true_and] at h
   exact go _ h
def az1(x n:IV)(d:Option Nat)(k:Nat)(z:List Value)(st:St)(K:St->Prop):Prop :=
 match x with
 | .cs [] =>
  match n with
  | .tr (.v (.int .i64 m))=>0<m/\m<=bigN/\freshK (keyOf d) st.loc 1 /\
    K { Zc st (st.lvl,keyOf d) (.ar k (List.replicate m.toNat (z.map trv)) true m.toNat 0) with env:=ptd d (.hd (st.lvl,keyOf d) [] 0 m.toNat none m.toNat) st.env }
  | _=>False
 | _=>False
theorem Zkc{k:Nat}{z:List Value}{x n:X}:op2 C d (.az k z x n) ⟨lvl,env,loc,out⟩ K=az1 (xv env x) (xv env n) d k z ⟨lvl,env,loc,out⟩ K:=by
 rw[Zp rfl]
 rfl
theorem Zih{k:Nat}{z:List Value}{m:Int}:az1 (.cs []) (.tr (.v (.int .i64 m))) d k z ⟨lvl,env,loc,out⟩ K=(0<m/\m<=bigN/\freshK (keyOf d) loc 1/\K ⟨lvl,ptd d (.hd (lvl,keyOf d) [] 0 m.toNat none m.toNat) env,ptO (keyOf d) (.ar k (List.replicate m.toNat (z.map trv)) true m.toNat 0) loc,out⟩):=by
 simp only[az1,VQ]
def tbx:IV->Prop
 | .ta _=>True
 | _=>False
theorem Zii{cells:List Tr}:tbx (.ta cells)=True:=(rfl)
theorem Zkd{m:Option Nat}{p:X}:op2 C d (.lt m p) ⟨lvl,env,loc,out⟩ K=(tbx (xv env p)/\op2 C d (.ld m p) ⟨lvl,env,loc,out⟩ K):=by
 cases m <;> (
  rw[Zy rfl,Zy rfl]
  simp only[ev]
  generalize hx:xv env p=q
  cases q <;> simp [tbx])
def av4(o:Option Ob)(id:Oid)(es:Row)(hw ver len off2 len2 s2 k:Nat)(d:Option Nat)(st:St)(K:St->Prop):Prop :=
 match o with
 | some (.ar _ es2 false hw2 _)=>s2=hw2/\off2+len2<=es2.length/\UnR k (cut es2 off2 len2)/\len+(cut es2 off2 len2).length<=bigN /\
   K { Zc st id (.ar k (es++cut es2 off2 len2) false (max hw (len+(cut es2 off2 len2).length)) ver) with env:=ptd d (.hd id [] 0 (len+(cut es2 off2 len2).length) none (max hw (len+(cut es2 off2 len2).length))) st.env }
 | _=>False
def av3(y:IV)(id:Oid)(es:Row)(hw ver len k:Nat)(d:Option Nat)(st:St)(K:St->Prop):Prop :=
 match y with
 | .hd id2 [] off2 len2 _ s2=>av4 (st.sto id2) id es hw ver len off2 len2 s2 k d st K
 | _=>False
def av2(o:Option Ob)(y:IV)(id:Oid)(len s k:Nat)(d:Option Nat)(st:St)(K:St->Prop):Prop :=
 match o with
 | some (.ar k' es _ hw ver)=>k'=k/\s=hw/\len=es.length/\av3 y id es hw ver len k d st K
 | _=>False
def av1(x y:IV)(k:Nat)(d:Option Nat)(st:St)(K:St->Prop):Prop :=
 match x with
 | .hd id [] 0 len none s=>av2 (st.sto id) y id len s k d st K
 | _=>False
theorem Zke{k:Nat}{x y:X}:op2 C d (.a2 k x y) ⟨lvl,env,loc,out⟩ K=av1 (xv env x) (xv env y) k d ⟨lvl,env,loc,out⟩ K:=by
 rw[Zp rfl]
 rfl
theorem Zij{id:Oid}{len s k:Nat}{y:IV}:av1 (.hd id [] 0 len none s) y k d ⟨lvl,env,loc,out⟩ K=av2 (Zj lvl loc out id) y id len s k d ⟨lvl,env,loc,out⟩ K:=(rfl)
theorem Zik{k' hw ver len s k:Nat}{es:Row}{u:Bool}{y:IV}{id:Oid}:av2 (some (.ar k' es u hw ver)) y id len s k d st K=(k'=k/\s=hw/\len=es.length/\av3 y id es hw ver len k d st K):=(rfl)
theorem Zil{id id2:Oid}{es:Row}{hw ver len k off2 len2 s2:Nat}{c2:Option Nat}:av3 (.hd id2 [] off2 len2 c2 s2) id es hw ver len k d ⟨lvl,env,loc,out⟩ K=av4 (Zj lvl loc out id2) id es hw ver len off2 len2 s2 k d ⟨lvl,env,loc,out⟩ K:=(rfl)
theorem Zim{key:Nat}{es es2:Row}{k2 hw ver len off2 len2 s2 k hw2 ver2:Nat}:av4 (some (.ar k2 es2 false hw2 ver2)) (lvl,key) es hw ver len off2 len2 s2 k d ⟨lvl,env,loc,out⟩ K=(s2=hw2/\off2+len2<=es2.length/\UnR k (cut es2 off2 len2)/\len+(cut es2 off2 len2).length<=bigN /\
   K ⟨lvl,ptd d (.hd (lvl,key) [] 0 (len+(cut es2 off2 len2).length) none (max hw (len+(cut es2 off2 len2).length))) env,ptO key (.ar k (es++cut es2 off2 len2) false (max hw (len+(cut es2 off2 len2).length)) ver) loc,out⟩):=by
 simp only[av4,VQ]
def abx:IV->Prop
 | .ab .. => True
 | _=>False
theorem Zin{id:Oid}{off:Nat}:abx (.ab id off)=True:=(rfl)
theorem Zkf{m:Option Nat}{p:X}:op2 C d (.lb m p) ⟨lvl,env,loc,out⟩ K=(abx (xv env p)/\op2 C d (.ld m p) ⟨lvl,env,loc,out⟩ K):=by
 cases m <;> (
  rw[Zy rfl,Zy rfl]
  simp only[ev]
  generalize hx:xv env p=q
  cases q <;> simp [abx])
def tcs:IV->Prop
 | .tr (.sl _)=>True
 | .cs _=>True
 | _=>False
theorem Zeg{es:Row}:tcs (.tr (.sl es))=True:=(rfl)
theorem Zeh{es:Row}:tcs (.cs es)=True:=(rfl)
theorem Zkg{k:Nat}{x:X}{lo hi mx:Option X}:op2 C d (.sy k x lo hi mx) ⟨lvl,env,loc,out⟩ K=(tcs (xv env x)/\op2 C d (.sx k x lo hi mx) ⟨lvl,env,loc,out⟩ K):=by
 rw[Zy rfl,Zy rfl]
 simp only[ev]
 generalize hx:xv env x=q
 cases q with
 | tr t =>
  cases t with
  | v=>simp [tcs]
  | sl es=>simp only[tcs,true_and]
 | cs es=>simp only[tcs,true_and]
 | _=>simp only[tcs,false_and]
def swx(L:Sto)(k:Nat):IV->Prop
 | .tr (.sl _)=>True
 | .cs _=>True
 | .hd id [] _ _ _ _=>wid L id [] k
 | _=>False
theorem Zei{L:Sto}{k:Nat}{es:Row}:swx L k (.tr (.sl es))=True:=(rfl)
theorem Zej{L:Sto}{k:Nat}{es:Row}:swx L k (.cs es)=True:=(rfl)
theorem Zek{L:Sto}{k:Nat}{id:Oid}{off len s:Nat}{cap:Option Nat}:swx L k (.hd id [] off len cap s)=wid L id [] k:=(rfl)
def Zjk(m:Nat):Option Ob->Prop
 | some (.ar k _ _ _ _)=>k=m
 | _=>False
theorem Zel{m k hw ver:Nat}{es:Row}{u:Bool}:Zjk m (some (.ar k es u hw ver))=(k=m):=(rfl)
theorem Zem{key m:Nat}:wid (Zj lvl loc out) (lvl,key) [] m=Zjk m (lkO key loc):=by
 unfold wid
 rw[ZE]
 cases lkO key loc with
 | none=>rfl
 | some ob=>cases ob <;> rfl
theorem Zkh{k:Nat}{x:X}{lo hi mx:Option X}:op2 C d (.sw k x lo hi mx) ⟨lvl,env,loc,out⟩ K=(swx (Zj lvl loc out) k (xv env x)/\op2 C d (.sx k x lo hi mx) ⟨lvl,env,loc,out⟩ K):=by
 rw[Zy rfl,Zy rfl]
 simp only[ev]
 generalize xv env x=q
 cases q with
 | tr t =>
  cases t with
  | v=>simp [swx]
  | sl es=>simp only[swx,true_and]
 | cs es=>simp only[swx,true_and]
 | hd id p off len cap s =>
  cases p with
  | nil =>
   simp only[swx]
   exact propext ⟨fun⟨hw,h⟩=>⟨hw,Jp (fun a h=>Jp (fun b h=>⟨h.1,h.2.1,Jp (fun m g=>⟨g.1,g.2.1,hw,g.2.2⟩) h.2.2⟩) h) h⟩,fun⟨hw,h⟩=>⟨hw,Jp (fun a h=>Jp (fun b h=>⟨h.1,h.2.1,Jp (fun m g=>⟨g.1,g.2.1,g.2.2.2⟩) h.2.2⟩) h) h⟩⟩
  | cons c r=>simp [swx]
 | _=>simp [swx]
theorem Zki{k:Nat}{x i:X}:op2 C d (.it k x i) ⟨lvl,env,loc,out⟩ K=(tcs (xv env x)/\op2 C d (.ia k x i) ⟨lvl,env,loc,out⟩ K):=by
 rw[Zy rfl,Zy rfl]
 simp only[ev]
 generalize xv env x=q
 generalize xv env i=qi
 cases q with
 | tr t =>
  cases t with
  | v=>simp only[tcs,false_and];split <;> simp
  | sl es=>simp only[tcs,true_and]
 | cs es=>simp only[tcs,true_and]
 | _=>simp only[tcs,false_and];split <;> simp
def apx(v:IV)(d:Option Nat)(k:Nat)(loc0:List (Nat×Ob))(items:Row)(ui:Bool)(st1:St)(K:St->Prop):Prop :=
 UnR k items /\
 match v with
 | .cs zs=>(zs=[]\/items≠[])/\zs.length+items.length<=bigN/\UnR k zs/\freshK (keyOf d) loc0 1/\(zs=[]\/ui=false\/ScR zs) /\
  K { Zc st1 (st1.lvl,keyOf d) (.ar k (zs++items) ui (zs.length+items.length) 0) with env:=ptd d (.hd (st1.lvl,keyOf d) [] 0 (zs.length+items.length) none (zs.length+items.length)) st1.env }
 | .hd id [] 0 len none s =>
  match st1.sto id with
  | some (.ar k' es u hw ver)=>k'=k/\s=hw/\len=es.length/\len+items.length<=bigN /\
   K { Zc st1 id (.ar k (es++items) (u&&ui) (max hw (len+items.length)) ver) with env:=ptd d (.hd id [] 0 (len+items.length) none (max hw (len+items.length))) st1.env }
  | _=>False
 | _=>False
theorem Zen{k:Nat}{x:X}{loc0:List (Nat×Ob)}{items:Row}{ui:Bool}:YC d k x loc0 items ui ⟨lvl,env,loc,out⟩ K=apx (xv env x) d k loc0 items ui ⟨lvl,env,loc,out⟩ K:=(rfl)
theorem Zeo{k:Nat}{loc0:List (Nat×Ob)}{items zs:Row}{ui:Bool}:apx (.cs zs) d k loc0 items ui ⟨lvl,env,loc,out⟩ K=(UnR k items/\(zs=[]\/items≠[])/\zs.length+items.length<=bigN/\UnR k zs/\freshK (keyOf d) loc0 1/\(zs=[]\/ui=false\/ScR zs) /\
  K ⟨lvl,ptd d (.hd (lvl,keyOf d) [] 0 (zs.length+items.length) none (zs.length+items.length)) env,ptO (keyOf d) (.ar k (zs++items) ui (zs.length+items.length) 0) loc,out⟩):=by
 simp only[apx,VQ]
def aph(o:Option Ob)(d:Option Nat)(k:Nat)(id:Oid)(len s:Nat)(items:Row)(ui:Bool)(st1:St)(K:St->Prop):Prop :=
 match o with
 | some (.ar k' es u hw ver)=>k'=k/\s=hw/\len=es.length/\len+items.length<=bigN /\
   K { Zc st1 id (.ar k (es++items) (u&&ui) (max hw (len+items.length)) ver) with env:=ptd d (.hd id [] 0 (len+items.length) none (max hw (len+items.length))) st1.env }
 | _=>False
theorem Zep{k key len s:Nat}{loc0:List (Nat×Ob)}{items:Row}{ui:Bool}:apx (.hd (lvl,key) [] 0 len none s) d k loc0 items ui ⟨lvl,env,loc,out⟩ K=(UnR k items/\aph (lkO key loc) d k (lvl,key) len s items ui ⟨lvl,env,loc,out⟩ K):=by
 simp only[apx]
 rw[show (⟨lvl,env,loc,out⟩:St).sto (lvl,key)=lkO key loc from ZE]
 rfl
theorem Zio{k k' key len s:Nat}{items es:Row}{u ui:Bool}{hw ver:Nat}:aph (some (.ar k' es u hw ver)) d k (lvl,key) len s items ui ⟨lvl,env,loc,out⟩ K=(k'=k/\s=hw/\len=es.length/\len+items.length<=bigN /\
   K ⟨lvl,ptd d (.hd (lvl,key) [] 0 (len+items.length) none (max hw (len+items.length))) env,ptO key (.ar k (es++items) (u&&ui) (max hw (len+items.length)) ver) loc,out⟩):=by
 simp only[aph,VQ]
def ap2(C:Za)(d:Option Nat)(k md:Nat)(x:X)(y:IV)(st:St)(K:St->Prop):Prop :=
 match y with
 | .tr (.sl es)=>if md=0 then ScR es/\YC d k x st.loc es true st K else md=1/\YC d k x st.loc es false st K
 | .cs es=>if md=0 then ScR es/\YC d k x st.loc es true st K else md=1/\YC d k x st.loc es false st K
 | .hd id2 p2 off2 len2 c2 s2 =>
   if md=2 then
    p2=[]/\off2=0/\c2=none/\id2.1=st.lvl /\
    match st.sto id2 with
    | some (.ar _ zs u2 hw2 _)=>s2=hw2/\len2=zs.length/\YC d k x st.loc zs u2 (ZM id2 st) K
    | _=>False
   else if md=0 then
    rdh st.sto id2 p2 s2 fun es _ _=>off2+len2<=es.length/\ScR (cut es off2 len2)/\YC d k x st.loc (cut es off2 len2) true st K
   else md=1/\p2=[] /\
    match st.sto id2 with
    | some (.ar k2 es _ hw2 ver2)=>s2=hw2/\off2+len2<=es.length/\YC d k x st.loc (cut es off2 len2) false (Zc st id2 (.ar k2 es false hw2 ver2)) K
    | _=>False
 | .sv id2=>md=2/\id2.1=st.lvl /\
   match st.sto id2 with
   | some (.bx l)=>l.length=k/\Wu l st fun ts u st' => YC d k x st.loc [ts] u (ZM id2 st') K
   | _=>False
 | _=>False
theorem Zkj{k md:Nat}{x y:X}:op2 C d (.ap k md x y) ⟨lvl,env,loc,out⟩ K=ap2 C d k md x (xv env y) ⟨lvl,env,loc,out⟩ K:=by
 rw[Zp rfl]
 rfl
section ap
variable {k:Nat} {x:X}
theorem Zip{es:Row}:ap2 C d k 0 x (.tr (.sl es)) ⟨lvl,env,loc,out⟩ K=(ScR es/\YC d k x loc es true ⟨lvl,env,loc,out⟩ K):=(rfl)
theorem Ziq{es:Row}:ap2 C d k 1 x (.tr (.sl es)) ⟨lvl,env,loc,out⟩ K=YC d k x loc es false ⟨lvl,env,loc,out⟩ K:=by simp [ap2]
theorem Zeq{es:Row}:ap2 C d k 0 x (.cs es) ⟨lvl,env,loc,out⟩ K=(ScR es/\YC d k x loc es true ⟨lvl,env,loc,out⟩ K):=(rfl)
theorem Zer{es:Row}:ap2 C d k 1 x (.cs es) ⟨lvl,env,loc,out⟩ K=YC d k x loc es false ⟨lvl,env,loc,out⟩ K:=by simp [ap2]
def kap(d:Option Nat)(k:Nat)(x:X)(off2 len2:Nat)(st:St)(K:St->Prop)(es:Row)(_u:Bool)(_v:Nat):Prop:=off2+len2<=es.length/\ScR (cut es off2 len2)/\YC d k x st.loc (cut es off2 len2) true st K
theorem Zir{off2 len2:Nat}{es:Row}{u:Bool}{v:Nat}:kap d k x off2 len2 ⟨lvl,env,loc,out⟩ K es u v=(off2+len2<=es.length/\ScR (cut es off2 len2)/\YC d k x loc (cut es off2 len2) true ⟨lvl,env,loc,out⟩ K):=(rfl)
theorem Zes{id2:Oid}{p2:Pth}{off2 len2 s2:Nat}{c2:Option Nat}:ap2 C d k 0 x (.hd id2 p2 off2 len2 c2 s2) ⟨lvl,env,loc,out⟩ K=rd3 (Zj lvl loc out id2) p2 s2 (kap d k x off2 len2 ⟨lvl,env,loc,out⟩ K):=by
 rw[<-YT]
 rfl
def ap5(o:Option Ob)(d:Option Nat)(k:Nat)(x:X)(len2 s2:Nat)(loc0:List (Nat×Ob))(st1:St)(K:St->Prop):Prop :=
 match o with
 | some (.ar _ zs u2 hw2 _)=>s2=hw2/\len2=zs.length/\YC d k x loc0 zs u2 st1 K
 | _=>False
theorem Zet{key:Nat}{p2:Pth}{off2 len2 s2:Nat}{c2:Option Nat}:ap2 C d k 2 x (.hd (lvl,key) p2 off2 len2 c2 s2) ⟨lvl,env,loc,out⟩ K=(p2=[]/\off2=0/\c2=none/\ap5 (lkO key loc) d k x len2 s2 loc (ZM (lvl,key) ⟨lvl,env,loc,out⟩) K):=by
 simp only[ap2,if_true]
 rw[show (⟨lvl,env,loc,out⟩:St).sto (lvl,key)=lkO key loc from ZE]
 generalize lkO key loc=o
 apply propext
 constructor
 ·rintro⟨h1,h2,h3,_,h5⟩
  refine⟨h1,h2,h3,?_⟩
  cases o with
  | none=>exact h5
  | some ob=>cases ob <;> exact h5
 ·rintro⟨h1,h2,h3,h5⟩
  refine⟨h1,h2,h3,trivial,?_⟩
  cases o with
  | none=>exact h5
  | some ob=>cases ob <;> exact h5
theorem Zis{k2:Nat}{zs:Row}{u2:Bool}{hw2 ver2 len2 s2:Nat}{loc0:List (Nat×Ob)}{st1:St}:ap5 (some (.ar k2 zs u2 hw2 ver2)) d k x len2 s2 loc0 st1 K=(s2=hw2/\len2=zs.length/\YC d k x loc0 zs u2 st1 K):=(rfl)
def Zit(d:Option Nat)(k:Nat)(x:X)(loc0:List (Nat×Ob))(id2:Oid)(K:St->Prop)(ts:List Tr)(u:Bool)(st':St):Prop:=YC d k x loc0 [ts] u (ZM id2 st') K
theorem Zeu{loc0:List (Nat×Ob)}{id2:Oid}{ts:List Tr}{u:Bool}:Zit d k x loc0 id2 K ts u st=YC d k x loc0 [ts] u (ZM id2 st) K:=(rfl)
def aps(o:Option Ob)(d:Option Nat)(k:Nat)(x:X)(loc0:List (Nat×Ob))(id2:Oid)(st1:St)(K:St->Prop):Prop :=
 match o with
 | some (.bx l)=>l.length=k/\Wu l st1 (Zit d k x loc0 id2 K)
 | _=>False
theorem Ziu{l:List IV}{loc0:List (Nat×Ob)}{id2:Oid}{st1:St}:aps (some (.bx l)) d k x loc0 id2 st1 K=(l.length=k/\Wu l st1 (Zit d k x loc0 id2 K)):=(rfl)
theorem Zev{key:Nat}:ap2 C d k 2 x (.sv (lvl,key)) ⟨lvl,env,loc,out⟩ K=aps (lkO key loc) d k x loc (lvl,key) ⟨lvl,env,loc,out⟩ K:=by
 simp only[ap2]
 rw[show (⟨lvl,env,loc,out⟩:St).sto (lvl,key)=lkO key loc from ZE]
 generalize lkO key loc=o
 apply propext
 constructor
 ·rintro⟨_,_,h⟩
  cases o with
  | none=>exact h
  | some ob=>cases ob <;> exact h
 ·intro h
  refine⟨trivial,trivial,?_⟩
  cases o with
  | none=>exact h
  | some ob=>cases ob <;> exact h
end ap
theorem Zew{L:Sto}{F:List IV->Prop}:∀{l:List Tr},Zu L (l.map .tr) F=F (l.map .tr)
 | []=>Zdq
 | t::r=>by rw[List.map_cons,Zdr,Zew,Zdm]
theorem Dy{Pd:Oid->Prop}:∀{l:List Tr},Zk Pd (l.map .tr)=True
 | []=>rfl
 | t::r=>by simp only[List.map_cons,Zk,men,Dy,and_self]
def nlf(v:IV)(neg:Bool)(lvl:Nat)(env:List (Nat×IV))(loc:List (Nat×Ob))(out:Sto)(d:Option Nat)(K:St->Prop):Prop :=
 match v with
 | .tr (.sl es)=>K ⟨lvl,ptd d (iB neg) env,loc,out⟩/\(es=[]->K ⟨lvl,ptd d (iB !neg) env,loc,out⟩)
 | .cs es=>K ⟨lvl,ptd d (iB neg) env,loc,out⟩/\(es=[]->K ⟨lvl,ptd d (iB !neg) env,loc,out⟩)
 | _=>False
theorem Zkk{C:Za}{d:Option Nat}{neg:Bool}{x:X}{lvl:Nat}{env:List (Nat×IV)}{loc:List (Nat×Ob)}{out:Sto}{K:St->Prop}:op2 C d (.nl neg x) ⟨lvl,env,loc,out⟩ K=nlf (xv env x) neg lvl env loc out d K:=by
 rw[Zp rfl]
 rfl
theorem Ziv{neg:Bool}{es:Row}{d:Option Nat}{lvl:Nat}{env:List (Nat×IV)}{loc:List (Nat×Ob)}{out:Sto}{K:St->Prop}:nlf (.tr (.sl es)) neg lvl env loc out d K=(K ⟨lvl,ptd d (iB neg) env,loc,out⟩/\(es=[]->K ⟨lvl,ptd d (iB !neg) env,loc,out⟩)):=(rfl)
theorem Ziw{neg:Bool}{es:Row}{d:Option Nat}{lvl:Nat}{env:List (Nat×IV)}{loc:List (Nat×Ob)}{out:Sto}{K:St->Prop}:nlf (.cs es) neg lvl env loc out d K=(K ⟨lvl,ptd d (iB neg) env,loc,out⟩/\(es=[]->K ⟨lvl,ptd d (iB !neg) env,loc,out⟩)):=(rfl)
section row
variable {C:Za} {d:Option Nat} {x y hi:X} {lvl:Nat} {env:List (Nat×IV)} {loc:List (Nat×Ob)} {out:Sto} {K:St->Prop} {st:St}
def XR(d:Option Nat)(x:IV)(st:St)(K:St->Prop):Prop:=K { st with env:=ptd d x st.env }
theorem Zex{v:IV}:XR d v ⟨lvl,env,loc,out⟩ K=K ⟨lvl,ptd d v env,loc,out⟩:=(rfl)
theorem Qf{v:IV}{id:Oid}{ob:Ob}:XR d v (Zc st id ob) K=K { Zc st id ob with env:=ptd d v st.env }:=by
 unfold XR
 rw[JE]
def cpf(v:IV)(lvl:Nat)(env:List (Nat×IV))(loc:List (Nat×Ob))(out:Sto)(d:Option Nat)(K:St->Prop):Prop :=
 match v with
 | .cs es=>K ⟨lvl,ptd d (iI es.length) env,loc,out⟩
 | _=>False
theorem Zkl:op2 C d (.cp x) ⟨lvl,env,loc,out⟩ K=cpf (xv env x) lvl env loc out d K:=by
 rw[Zp rfl]
 rfl
theorem Zix{es:Row}:cpf (.cs es) lvl env loc out d K=K ⟨lvl,ptd d (iI es.length) env,loc,out⟩:=(rfl)
def shg(o:Option Ob)(id:Oid)(m:Int)(len s k:Nat)(d:Option Nat)(st:St)(K:St->Prop):Prop :=
 match o with
 | some (.ar k2 es u hw ver)=>k2=k/\s=hw/\0<=m/\m.toNat<=len/\len<=es.length/\XR d (.hd id [] 0 m.toNat none hw) (Zc st id (.ar k2 (es.take m.toNat) u hw (ver+1))) K
 | _=>False
def shf(v hv:IV)(k:Nat)(d:Option Nat)(st:St)(K:St->Prop):Prop :=
 match v with
 | .cs es =>
  match hv with
  | .tr (.v (.int _ m))=>m=es.length/\UnR k es/\XR d (.cs es) st K
  | _=>False
 | .hd id p off len cap s =>
  match hv with
  | .tr (.v (.int _ m))=>p=[]/\off=0/\cap=none/\shg (st.sto id) id m len s k d st K
  | _=>False
 | _=>False
theorem Zkm{k:Nat}:op2 C d (.sh k x hi) ⟨lvl,env,loc,out⟩ K=shf (xv env x) (xv env hi) k d ⟨lvl,env,loc,out⟩ K:=by
 rw[Zp rfl]
 simp only[ew]
 generalize xv env x=v
 cases v <;> try rfl
 rename_i id p off len cap s
 generalize xv env hi=hv
 cases hv <;> try rfl
 rename_i t
 cases t <;> try rfl
 rename_i q
 cases q <;> try rfl
 simp only[shf,shg]
 generalize (⟨lvl,env,loc,out⟩:St).sto id=o
 cases o with
 | none=>simp
 | some ob =>
  cases ob with
  | bx=>simp
  | ar k2 es u hw ver=>simp only[Qf]
theorem Ziy{id:Oid}{len s k:Nat}{kk:IntKind}{m:Int}:shf (.hd id [] 0 len none s) (.tr (.v (.int kk m))) k d ⟨lvl,env,loc,out⟩ K=shg (Zj lvl loc out id) id m len s k d ⟨lvl,env,loc,out⟩ K:=by
 simp only[shf,true_and]
 rfl
theorem Ziz{es:Row}{k:Nat}{kk:IntKind}{m:Int}:shf (.cs es) (.tr (.v (.int kk m))) k d ⟨lvl,env,loc,out⟩ K=(m=es.length/\UnR k es/\XR d (.cs es) ⟨lvl,env,loc,out⟩ K):=(rfl)
theorem ZiA{id:Oid}{len s k k2 hw ver:Nat}{es:Row}{u:Bool}{m:Int}:shg (some (.ar k2 es u hw ver)) id m len s k d st K=(k2=k/\s=hw/\0<=m/\m.toNat<=len/\len<=es.length/\XR d (.hd id [] 0 m.toNat none hw) (Zc st id (.ar k2 (es.take m.toNat) u hw (ver+1))) K):=(rfl)
def fzg(o:Option Ob)(len s:Nat)(d:Option Nat)(st1:St)(K:St->Prop):Prop :=
 match o with
 | some (.ar _ zs _ hw _)=>s=hw/\len=zs.length/\XR d (.tr (.sl zs)) st1 K
 | _=>False
def fzf(v:IV)(d:Option Nat)(st:St)(K:St->Prop):Prop :=
 match v with
 | .hd id [] 0 len none s=>id.1=st.lvl/\fzg (st.sto id) len s d (ZM id st) K
 | _=>False
theorem Zkn:op2 C d (.fz x) ⟨lvl,env,loc,out⟩ K=fzf (xv env x) d ⟨lvl,env,loc,out⟩ K:=by
 rw[Zp rfl]
 simp only[ew]
 generalize xv env x=v
 unfold fzf
 split
 ·rename_i id len s
  simp only[fzg]
  generalize (⟨lvl,env,loc,out⟩:St).sto id=o
  cases o with
  | none=>rfl
  | some ob=>cases ob <;> rfl
 ·rename_i hv
  split
  ·exact(hv _ _ _ rfl).elim
  ·rfl
theorem ZiB{key len s:Nat}:fzf (.hd (lvl,key) [] 0 len none s) d ⟨lvl,env,loc,out⟩ K=fzg (lkO key loc) len s d (ZM (lvl,key) ⟨lvl,env,loc,out⟩) K:=by
 simp only[fzf,true_and]
 rw[show (⟨lvl,env,loc,out⟩:St).sto (lvl,key)=lkO key loc from ZE]
theorem ZiC{len s k hw ver:Nat}{zs:Row}{u:Bool}:fzg (some (.ar k zs u hw ver)) len s d st K=(s=hw/\len=zs.length/\XR d (.tr (.sl zs)) st K):=(rfl)
def drp(o:Option Ob)(id:Oid)(st:St):St :=
 match o with
 | none=>st
 | some _=>ZM id st
theorem Zey{id:Oid}:drp none id st=st:=(rfl)
theorem Zez{ob:Ob}{id:Oid}:drp (some ob) id st=ZM id st:=(rfl)
def rkg(o:Option Ob)(len s:Nat)(id0:Oid)(d:Option Nat)(st1:St)(K:St->Prop):Prop :=
 match o with
 | some (.ar k zs u hw ver)=>s=hw/\len=zs.length/\XR d (.hd id0 [] 0 len none s) (Zc st1 id0 (.ar k zs u hw ver)) K
 | _=>False
def rkf(v:IV)(d:Option Nat)(st:St)(K:St->Prop):Prop :=
 match v with
 | .hd id [] 0 len none s=>id.1=st.lvl/\(st.lvl,keyOf d)≠id/\rkg (st.sto id) len s (st.lvl,keyOf d) d (ZM id (QQ (st.lvl,keyOf d) st)) K
 | _=>False
theorem Zko:op2 C d (.rk x) ⟨lvl,env,loc,out⟩ K=rkf (xv env x) d ⟨lvl,env,loc,out⟩ K:=by
 rw[Zp rfl]
 simp only[ew]
 generalize xv env x=v
 unfold rkf
 split
 ·rename_i id len s
  simp only[rkg]
  generalize (⟨lvl,env,loc,out⟩:St).sto id=o
  cases o with
  | none=>rfl
  | some ob =>
   cases ob with
   | bx=>rfl
   | ar k2 es u hw ver=>simp only[Qf]
 ·rename_i hv
  split
  ·exact(hv _ _ _ rfl).elim
  ·rfl
theorem ZiD{key len s:Nat}{t:Nat}:rkf (.hd (lvl,key) [] 0 len none s) (some t) ⟨lvl,env,loc,out⟩ K=(t*32≠key/\rkg (lkO key loc) len s (lvl,t*32) (some t) (ZM (lvl,key) (drp (lkO (t*32) loc) (lvl,t*32) ⟨lvl,env,loc,out⟩)) K):=by
 simp only[rkf,true_and,QQ,keyOf]
 rw[show (⟨lvl,env,loc,out⟩:St).sto (lvl,key)=lkO key loc from ZE,show (⟨lvl,env,loc,out⟩:St).sto (lvl,t*32)=lkO (t*32) loc from ZE]
 congr 1
 simp
theorem Zkp{key:Nat}{p x:X}:op2 C d (.gv key p x) ⟨lvl,env,loc,out⟩ K=(d=none/\gvf (xv env p) (xv env x) key ⟨lvl,env,loc,out⟩ K):=by
 rw[Zp rfl]
 simp only[ew]
theorem ZiE{id:Oid}{off key key2 len s:Nat}:gvf (.ab id off) (.hd (lvl,key2) [] 0 len none s) key ⟨lvl,env,loc,out⟩ K=(id.1<lvl/\Zj lvl loc out (id.1,key)=none/\gvo (Zj lvl loc out id) (lkO key2 loc) id off key len s (lvl,key2) ⟨lvl,env,loc,out⟩ K):=by
 simp only[gvf,true_and]
 rw[show (⟨lvl,env,loc,out⟩:St).sto (lvl,key2)=lkO key2 loc from ZE]
 rfl
theorem ZiF{cells:List IV}{k:Nat}{zs:Row}{u:Bool}{hw ver:Nat}{id id2:Oid}{off key len s:Nat}:gvo (some (.bx cells)) (some (.ar k zs u hw ver)) id off key len s id2 st K=(off+1<=cells.length/\s=hw/\len=zs.length/\K (Zc (Zc (ZM id2 st) (id.1,key) (.ar k zs u hw ver)) id (.bx (JX cells off [.hd (id.1,key) [] 0 len none s])))):=(rfl)
theorem ZiG{len s k hw ver:Nat}{zs:Row}{u:Bool}{id0:Oid}:rkg (some (.ar k zs u hw ver)) len s id0 d st K=(s=hw/\len=zs.length/\XR d (.hd id0 [] 0 len none s) (Zc st id0 (.ar k zs u hw ver)) K):=(rfl)
theorem Zb8{K:List IV->St->Prop}:DR [] st K=K [] st:=(rfl)
theorem Zb9{x:X}{r:List X}{K:List IV->St->Prop}:DR (x::r) st K=Zcm (xv st.env x) st fun t st1=>DR r st1 fun ts st2=>K (.ta t::ts) st2:=(rfl)
def Zfc(o:Option (List Tr×Bool))(F:List Tr->Prop)(H:Prop):Prop :=
 match o with
 | some (ts,_)=>F ts
 | none=>H
def ZiH(o:Option Ob)(F:List Tr->Prop)(H:List IV->Prop):Prop :=
 match o with
 | some (.bx cells)=>Zfc (totrs cells) F (H cells)
 | _=>False
theorem ZeA{ts:List Tr}{K:List Tr->St->Prop}:Zcm (.ta ts) st K=K ts st:=(rfl)
theorem ZeB{key:Nat}{K:List Tr->St->Prop}:Zcm (.ab (lvl,key) 0) ⟨lvl,env,loc,out⟩ K=ZiH (lkO key loc) (fun ts=>K ts (ZM (lvl,key) ⟨lvl,env,loc,out⟩)) (fun cells=>XP cells ⟨lvl,env,loc,out⟩ fun ts st1=>K ts (ZM (lvl,key) st1)):=by
 simp only[Zcm,true_and]
 rw[show (⟨lvl,env,loc,out⟩:St).sto (lvl,key)=lkO key loc from ZE]
 generalize lkO key loc=o
 cases o with
 | none=>rfl
 | some ob =>
  cases ob with
  | ar=>rfl
  | bx cells =>
   simp only[ZiH]
   generalize totrs cells=q
   cases q <;> rfl
theorem ZeC{cells:List IV}{F:List Tr->Prop}{H:List IV->Prop}:ZiH (some (.bx cells)) F H=Zfc (totrs cells) F (H cells):=(rfl)
theorem ZeD{ts:List Tr}{q:Bool}{F:List Tr->Prop}{H:Prop}:Zfc (some (ts,q)) F H=F ts:=(rfl)
theorem Zca{F:List Tr->Prop}{H:Prop}:Zfc none F H=H:=(rfl)
theorem Dz{id:Oid}{p:Pth}{off len s:Nat}{cap:Option Nat}{r:List IV}:totrs (.hd id p off len cap s::r)=none:=(rfl)
theorem Zkq{f:Nat}{cs:List X}:op2 C d (.mz f cs) ⟨lvl,env,loc,out⟩ K=DR cs ⟨lvl,env,loc,out⟩ fun l st1=>XR d (.fn f l) st1 K:=by
 rw[Zp rfl]
 rfl
theorem Zcb{K:List Tr->St->Prop}:XP [] st K=K [] st:=(rfl)
theorem Zcc{x:IV}{r:List IV}{K:List Tr->St->Prop}:XP (x::r) st K=ZaP x st fun t st1=>XP r st1 fun ts st2=>K (t::ts) st2:=(rfl)
def Zjl(o:Option Ob)(len s:Nat)(F:Row->Prop):Prop :=
 match o with
 | some (.ar _ zs _ hw _)=>s=hw/\len=zs.length/\F zs
 | _=>False
theorem Zcd{t:Tr}{K:Tr->St->Prop}:ZaP (.tr t) st K=K t st:=(rfl)
theorem Zce{es:Row}{K:Tr->St->Prop}:ZaP (.cs es) st K=K (.sl es) st:=(rfl)
theorem Zcf{key len s:Nat}{K:Tr->St->Prop}:ZaP (.hd (lvl,key) [] 0 len none s) ⟨lvl,env,loc,out⟩ K=Zjl (lkO key loc) len s fun zs=>K (.sl zs) (ZM (lvl,key) ⟨lvl,env,loc,out⟩):=by
 simp only[ZaP,true_and]
 rw[show (⟨lvl,env,loc,out⟩:St).sto (lvl,key)=lkO key loc from ZE]
 generalize lkO key loc=o
 cases o with
 | none=>rfl
 | some ob=>cases ob <;> rfl
theorem ZeE{k len s hw ver:Nat}{zs:Row}{u:Bool}{F:Row->Prop}:Zjl (some (.ar k zs u hw ver)) len s F=(s=hw/\len=zs.length/\F zs):=(rfl)
def lzg(o:Option Ob)(off m:Nat)(d:Option Nat)(st:St)(K:St->Prop):Prop :=
 match o with
 | some (.bx cells)=>off+m<=cells.length/\XP ((cells.drop off).take m) st fun ts st1=>XR d (.ag (ts.map .tr)) st1 K
 | _=>False
def lzf(v:IV)(m:Nat)(d:Option Nat)(st:St)(K:St->Prop):Prop :=
 match v with
 | .ab id off=>lzg (st.sto id) off m d st K
 | _=>False
theorem Zkr{m:Nat}:op2 C d (.lz m x) ⟨lvl,env,loc,out⟩ K=lzf (xv env x) m d ⟨lvl,env,loc,out⟩ K:=by
 rw[Zp rfl]
 simp only[ew]
 generalize xv env x=v
 cases v <;> rfl
theorem ZiI{key off m:Nat}:lzf (.ab (lvl,key) off) m d ⟨lvl,env,loc,out⟩ K=lzg (lkO key loc) off m d ⟨lvl,env,loc,out⟩ K:=by
 simp only[lzf]
 rw[show (⟨lvl,env,loc,out⟩:St).sto (lvl,key)=lkO key loc from ZE]
theorem ZiJ{cells:List IV}{off m:Nat}:lzg (some (.bx cells)) off m d st K=(off+m<=cells.length/\XP ((cells.drop off).take m) st fun ts st1=>XR d (.ag (ts.map .tr)) st1 K):=(rfl)
def clg(o:Option Ob)(id:Oid)(off len s k:Nat)(d:Option Nat)(st:St)(K:St->Prop):Prop :=
 match o with
 | some (.ar k2 es u hw ver)=>k2=k/\s=hw/\off+len=es.length/\XR d (.tu []) (Zc st id (.ar k2 (es.take off) u hw (ver+1))) K
 | _=>False
def clf(v:IV)(k:Nat)(d:Option Nat)(st:St)(K:St->Prop):Prop :=
 match v with
 | .hd id p off len _ s=>p=[]/\clg (st.sto id) id off len s k d st K
 | _=>False
theorem Zks{k:Nat}{z:List Value}:op2 C d (.cl k z x) ⟨lvl,env,loc,out⟩ K=clf (xv env x) k d ⟨lvl,env,loc,out⟩ K:=by
 rw[Zp rfl]
 simp only[ew]
 generalize xv env x=v
 cases v <;> try rfl
 rename_i id p off len cap s
 simp only[clf,clg]
 generalize (⟨lvl,env,loc,out⟩:St).sto id=o
 cases o with
 | none=>simp
 | some ob =>
  cases ob with
  | bx=>simp
  | ar k2 es u hw ver=>simp only[Qf]
theorem ZiK{id:Oid}{off len s k:Nat}{cap:Option Nat}:clf (.hd id [] off len cap s) k d ⟨lvl,env,loc,out⟩ K=clg (Zj lvl loc out id) id off len s k d ⟨lvl,env,loc,out⟩ K:=by
 simp only[clf,true_and]
 rfl
theorem ZiL{id:Oid}{off len s k k2 hw ver:Nat}{es:Row}{u:Bool}:clg (some (.ar k2 es u hw ver)) id off len s k d st K=(k2=k/\s=hw/\off+len=es.length/\XR d (.tu []) (Zc st id (.ar k2 (es.take off) u hw (ver+1))) K):=(rfl)
def srk(off len:Nat)(F:Row->Prop)(es:Row)(_u:Bool)(_v:Nat):Prop:=off+len<=es.length/\F (cut es off len)
theorem ZiM{off len:Nat}{F:Row->Prop}{es:Row}{u:Bool}{v:Nat}:srk off len F es u v=(off+len<=es.length/\F (cut es off len)):=(rfl)
theorem ZeF{zs:Row}{F:Row->Prop}:UT st (.tr (.sl zs)) F=F zs:=(rfl)
theorem ZeG{zs:Row}{F:Row->Prop}:UT st (.cs zs) F=F zs:=(rfl)
theorem ZeH{id:Oid}{p:Pth}{off len s:Nat}{cap:Option Nat}{F:Row->Prop}:UT ⟨lvl,env,loc,out⟩ (.hd id p off len cap s) F=rd3 (Zj lvl loc out id) p s (srk off len F):=by
 rw[<-YT]
 rfl
def a3k(zs:Row)(k:Nat)(d:Option Nat)(st:St)(K:St->Prop)(items:Row):Prop :=
 items≠[]/\ScR items/\UnR k zs/\UnR k items/\zs.length+items.length<=bigN/\K ⟨st.lvl,ptd d (.tr (.sl (zs++items))) st.env,st.loc,st.out⟩
theorem ZiN{zs items:Row}{k:Nat}:a3k zs k d ⟨lvl,env,loc,out⟩ K items=(items≠[]/\ScR items/\UnR k zs/\UnR k items/\zs.length+items.length<=bigN/\K ⟨lvl,ptd d (.tr (.sl (zs++items))) env,loc,out⟩):=(rfl)
def a3f(vx vy:IV)(k:Nat)(d:Option Nat)(st:St)(K:St->Prop):Prop :=
 match vx with
 | .cs zs=>UT st vy (a3k zs k d st K)
 | _=>False
theorem ZiO{zs:Row}{vy:IV}{k:Nat}:a3f (.cs zs) vy k d st K=UT st vy (a3k zs k d st K):=(rfl)
theorem Zkt{k:Nat}{x y:X}:op2 C d (.a3 k x y) ⟨lvl,env,loc,out⟩ K=a3f (xv env x) (xv env y) k d ⟨lvl,env,loc,out⟩ K:=by
 rw[Zy rfl]
 simp only[ev]
 generalize xv env x=vx
 cases vx <;> try rfl
 rename_i zs
 have e:∀ items:Row,(items≠[]/\ScR items/\UnR k zs/\UnR k items/\zs.length+items.length<=bigN/\Zi (fun mk obs=>freshK (keyOf d) loc (obs lvl (keyOf d)).length/\K ⟨lvl,ptd d (mk lvl (keyOf d)) env,addO (keyOf d) (obs lvl (keyOf d)) loc,out⟩) (.tr (.sl (zs++items))))=a3k zs k d ⟨lvl,env,loc,out⟩ K items:=fun items=>by
  simp [a3k,Zi,freshK,addO]
 simp only[e]
 rfl
theorem Zku{k:Nat}{x y:X}:op2 C d (.c0 k x y) ⟨lvl,env,loc,out⟩ K=op2 C d (.cy k x y) ⟨lvl,env,loc,out⟩ K:=by
 rw[Zp rfl,Zp rfl]
 exact propext ⟨Ug,Zad⟩
def cyk(es:Row)(u:Bool)(hw ver:Nat)(id:Oid)(off len k:Nat)(d:Option Nat)(st:St)(K:St->Prop)(zs:Row):Prop :=
 ScR zs/\UnR k zs/\XR d (iI (min zs.length len:Nat)) (Zc st id (.ar k (es.take off++zs.take len++es.drop (off+min zs.length len)) u hw (ver+1))) K
theorem ZiP{es:Row}{u:Bool}{hw ver:Nat}{id:Oid}{off len k:Nat}{zs:Row}:cyk es u hw ver id off len k d st K zs=(ScR zs/\UnR k zs/\XR d (iI (min zs.length len:Nat)) (Zc st id (.ar k (es.take off++zs.take len++es.drop (off+min zs.length len)) u hw (ver+1))) K):=(rfl)
def cyg(o:Option Ob)(id:Oid)(off len s k:Nat)(v:IV)(d:Option Nat)(st:St)(K:St->Prop):Prop :=
 match o with
 | some (.ar k2 es u hw ver)=>k2=k/\s=hw/\off+len<=es.length/\ScR es/\UT st v (cyk es u hw ver id off len k d st K)
 | _=>False
def cyf(x v:IV)(k:Nat)(d:Option Nat)(st:St)(K:St->Prop):Prop :=
 match x with
 | .hd id p off len _ s=>p=[]/\cyg (st.sto id) id off len s k v d st K
 | _=>False
theorem Zkv{k:Nat}:op2 C d (.cy k x y) ⟨lvl,env,loc,out⟩ K=cyf (xv env x) (xv env y) k d ⟨lvl,env,loc,out⟩ K:=by
 rw[Zp rfl]
 simp only[ew]
 generalize xv env x=v
 cases v <;> try rfl
 rename_i id p off len cap s
 simp only[cyf,cyg]
 generalize (⟨lvl,env,loc,out⟩:St).sto id=o
 cases o with
 | none=>simp
 | some ob =>
  cases ob with
  | bx=>simp
  | ar k2 es u hw ver =>
   dsimp only
   by_cases hk:k2=k
   ·subst hk
    have:(fun zs=>ScR zs/\UnR k2 zs/\K { Zc ⟨lvl,env,loc,out⟩ id (.ar k2 (es.take off++zs.take len++es.drop (off+min zs.length len)) u hw (ver+1)) with env:=ptd d (iI (min zs.length len:Nat)) env })=cyk es u hw ver id off len k2 d ⟨lvl,env,loc,out⟩ K:=by
     funext zs
     simp only[cyk,Qf]
    rw[this]
   ·simp [hk]
theorem ZiQ{id:Oid}{off len s k:Nat}{cap:Option Nat}{v:IV}:cyf (.hd id [] off len cap s) v k d ⟨lvl,env,loc,out⟩ K=cyg (Zj lvl loc out id) id off len s k v d ⟨lvl,env,loc,out⟩ K:=by
 simp only[cyf,true_and]
 rfl
theorem ZiR{id:Oid}{off len s k k2 hw ver:Nat}{es:Row}{u:Bool}{v:IV}:cyg (some (.ar k2 es u hw ver)) id off len s k v d st K=(k2=k/\s=hw/\off+len<=es.length/\ScR es/\UT st v (cyk es u hw ver id off len k d st K)):=(rfl)
end row
theorem ZeI{α:Type}{F:α->Prop}:op3 none F=False:=(rfl)
end
abbrev ts(s:ByteArray):Tr:=.v (.string s)
abbrev rS(l:List ByteArray):Row:=l.map fun n=>[ts n]
abbrev tS(l:List ByteArray):IV:=.tr (.sl (rS l))
theorem ZF(n:Int):V0 .i64 n=(-9223372036854775808<=n/\n<=9223372036854775807):=by
 simp [V0,IntKind.min,IntKind.max,IntKind.signed,IntKind.bits]
end Go.Fd

namespace Go.Fd
def In(w:World)(b:Nat):Prop:=b<w.heap.size
def ZeJ(w:World)(cs:List Value)(ts:List Tr):Prop:=∀(j:Nat) (v:Value) (t:Tr),cs[j]? = some v->ts[j]? = some t->Rds w (In w) v t
def UK(P:Program)(t:TypeId){α:Type}(c:α->List Tr)(Q:α->Prop):Prop :=
 ∀(H:Type) (enc:TypeId×Value->H) (w:World) (sp:Nat->Bool) (hd:Bool) (fuel:Nat) (cs:List Value) (x:DataW H×List MemPlace),
  DataW.trod enc P w 0 sp hd fuel t cs=some x->∃ y,Q y/\ZeJ w cs (c y)
theorem QG{w:World}{v:Value}{t:Tr}(h:Rds w (In w) v t):ZeJ w [v] [t]:=fun j v' t' h1 h2=>by
 match j with
 | 0=>simp at h1 h2;subst h1;subst h2;exact h
 | j+1=>simp at h1
theorem Zcg{w:World}{a:Addr}{v:Value}(h:w.cell? a=some v):a.block<w.heap.size:=by
 unfold World.cell? at h
 cases hh:w.heap[a.block]? with
 | none=>rw[hh] at h;cases h
 | some o=>exact(Array.getElem?_eq_some_iff.1 hh).1
theorem WQ{α:Type}(n:Nat)(R:Nat->α->Prop)(h:∀ i,i<n->∃ y,R i y):∃ l:List α,l.length=n/\∀ i y,l[i]? = some y->R i y:=by
 induction n with
 | zero=>exact⟨[],rfl,fun i y h=>by simp at h⟩
 | succ n ih =>
  obtain⟨l,hl,hr⟩:=ih (fun i hi=>h i (by omega))
  obtain⟨y,hy⟩:=h n (by omega)
  refine⟨l++[y],by simp [hl],fun i z hz=>?_⟩
  by_cases hi:i<n
  ·rw[List.getElem?_append_left (by omega)] at hz;exact hr i z hz
  ·have hlt:=(List.getElem?_eq_some_iff.1 hz).1
   simp only[List.length_append,List.length_singleton] at hlt
   have:i=n:=by omega
   subst this
   rw[List.getElem?_append_right (by omega),hl,Nat.sub_self] at hz
   simp at hz
   exact hz ▸ hy
theorem WR{P:Program}{t e:TypeId}{k:Nat}{α:Type}{c:α->List Tr}{Q:α->Prop}(ht:P.underlying t=some (.slice e))(hk:P.cellsOf e=k+1)(hc:∀ x,(c x).length=k+1)
  (he:UK P e c Q):UK P t (fun l:List α=>[.sl (l.map c)]) (fun l=>l.length<=9223372036854775807/\∀ x∈l,Q x):=by
 intro H enc w sp hd fuel cs x h
 rcases DataW.trod_slice ht h with ⟨rfl,_⟩ | ⟨a,len,cap,elems,rest,n,_,rfl,_,_,hl,hm,hlen,hel,_,_⟩
 ·exact⟨[],⟨by simp,by simp⟩,QG (.nil none 0)⟩
 ·have each:∀ i,i<len->∃ y,Q y/\∀ j t,(c y)[j]? = some t->∃ v,w.cell? (a.add (i*(k+1)+j))=some v/\Rds w (In w) v t:=fun i hi=>by
   have h1:=hel i hi
   rw[hk] at h1
   obtain⟨z,hz⟩:∃ z,elems[i]? = some z:=⟨elems[i]'(by omega),List.getElem?_eq_getElem _⟩
   rw[hz,Option.bind_eq_some_iff] at h1
   obtain⟨row,hrow,hx⟩:=h1
   obtain⟨y,hy,hr⟩:=he H enc w sp hd n row z hx
   obtain⟨_,hrl,hg⟩:=World.cells?_some hrow
   refine⟨y,hy,fun j t hj=>?_⟩
   have hjk:j<k+1:=by rw[<-hc y];exact(List.getElem?_eq_some_iff.1 hj).1
   have hv:row[j]? = some (row[j]'(by omega)):=List.getElem?_eq_getElem _
   have:=hg j hjk
   rw[hv] at this
   have e2:(a.add (i*(k+1))).add j=a.add (i*(k+1)+j):=by
    unfold Addr.add
    by_cases h0:i*(k+1)=0
    ·simp [h0]
    ·by_cases h1:j=0
     ·simp [h1,h0]
     ·have h2:¬ (i*(k+1)+j=0):=by omega
      simp only[if_neg h0,if_neg h1,if_neg h2,Addr.mk.injEq,and_true,true_and]
      omega
   rw[e2] at this
   exact⟨_,this,hr j _ t hv hj⟩
  obtain⟨l,hll,hlr⟩:=WQ len _ each
  refine⟨l,⟨?_,fun y hy=>?_⟩,QG ?_⟩
  ·rw[hll];exact Nat.le_trans hl hm
  ·obtain⟨i,hi⟩:=List.getElem?_of_mem hy
   exact(hlr i y hi).1
  ·by_cases h0:len=0
   ·have:l=[]:=List.eq_nil_of_length_eq_zero (by omega)
    subst this;subst h0
    exact .nil _ _
   ·obtain⟨y0,hy0⟩:∃ y0,l[0]? = some y0:=⟨l[0]'(by omega),List.getElem?_eq_getElem _⟩
    obtain⟨t0,ht0⟩:∃ t0,(c y0)[0]? = some t0:=⟨(c y0)[0]'(by rw[hc];omega),List.getElem?_eq_getElem _⟩
    obtain⟨v0,hv0,_⟩:=(hlr 0 y0 hy0).2 0 t0 ht0
    obtain⟨b,o,s⟩:=a
    have hs:s=none:=by simpa [Addr.add] using World.cell?_spot hv0
    subst hs
    have hb:b<w.heap.size:=by simpa [Addr.add] using Zcg hv0
    have hel2:∀ i e j t,(l.map c)[i]? = some e->e[j]? = some t->∃ v,w.cell? ⟨b,o+i*(k+1)+j,none⟩=some v/\Rds w (In w) v t:=fun i e j t h1 h2=>by
     rw[List.getElem?_map,Option.map_eq_some_iff] at h1
     obtain⟨y,hy,rfl⟩:=h1
     obtain⟨v,hv,hr⟩:=(hlr i y hy).2 j t h2
     refine⟨v,?_,hr⟩
     rw[<-hv]
     congr 1
     unfold Addr.add
     by_cases h0:i*(k+1)+j=0
     ·have:o+i*(k+1)+j=o:=by omega
      rw[if_pos h0,this]
     ·rw[if_neg h0]
      have:o+i*(k+1)+j=o+(i*(k+1)+j):=by omega
      simp only[this]
    have hlm:(l.map c).length=len:=by simpa using hll
    have:=Rds.sl (w:=w) (A:=In w) b o cap (k+1) (l.map c) (fun i j=>(w.cell? ⟨b,o+i*(k+1)+j,none⟩).getD .nilFunc) hb
     (fun e he=>by simp only[List.mem_map] at he;obtain⟨y,_,rfl⟩:=he;exact hc y) (by omega)
     (fun i e j t h1 h2=>by obtain⟨v,hv,_⟩:=hel2 i e j t h1 h2;rw[hv];rfl)
     (fun i e j t h1 h2=>by obtain⟨v,hv,hr⟩:=hel2 i e j t h1 h2;rw[hv];exact hr)
    rw[hlm] at this
    exact this
theorem DA{P:Program}{t:TypeId}{k:IntKind}(ht:P.underlying t=some (.int k)):UK P t (fun n:Int=>[.v (.int k n)]) (V0 k):=by
 intro H enc w sp hd fuel cs x h
 obtain⟨n,rfl,_,hw⟩:=DataW.trod_int ht h
 exact⟨n,by simpa [Lit.wf,V0] using hw,QG (.v _ rfl)⟩
end Go.Fd

namespace Go.Fd
variable [Tabs]
open Go.RowKit
def G0:Gh:=fun _ _=>none
def S0:Sto:=fun _=>none
theorem Av0{w:World}{b:Nat}(h:In w b):Av G0 S0 w b:=⟨h,fun id ob hs=>by cases hs⟩
theorem We{P:Program}{f:FuncId}{args:List IV}{b:Bool}{w:World}{vs:List Value}(h:Sem P f 0 args S0 (iB b) S0)(hv:VRs G0 S0 w args vs)(hg:Tabs.good w) :
  Calls P f vs.toArray w fun e w' => e = .returned (.bool b)/\Below w.heap.size w w':=by
 obtain⟨_,_,h⟩:=h
 refine(h (fun id ob hs=>by cases hs) G0 w vs ⟨fun id ob hs=>(nomatch hs),fun id ob id2 ob2 b2 hs=>(nomatch hs),fun id cells hs=>(nomatch hs)⟩ hv ⟨w,hg,Nat.le_refl _,fun b hb=>⟨⟨hb,fun id ob hs=>by cases hs⟩,rfl⟩⟩).mono ?_
 rintro e w' ⟨v,G',rfl,_,hr,_,hf⟩
 have hr':Rds w' (Av G' (Jj S0 0 0 (impv true 0 0 0 (iB b)).2) w') v (.v (.bool b)):=hr
 cases hr' with
 | v x hx =>
  exact⟨rfl,hf.os,hf.tape,hf.output,hf.size,fun k hk=>hf.old k hk (fun id ob hs=>by cases hs)⟩
theorem DB{P:Program}{w:World}{r:Reach}{base:Nat}{t e:TypeId}{v:Value}(ht:P.underlying t=some (.slice e))(h:Value.okWide P w r base t v):v.cells.toList=[v]:=by
 unfold Value.okWide at h
 rw[ht] at h
 simp only[Cell.okWide,ht,Cell.ok] at h
 cases v <;> first | rfl | exact absurd h (by simp)
section
variable {H:Type} {enc:TypeId×Value->H} {P:Program} {w:World} {t:TypeId} {v:Value} {d:DataW H} {p:List MemPlace} {α:Type} {c:α->List Tr} {Q:α->Prop} {sp:Nat->Bool} {hd:Bool} {base:Nat}
theorem ZaE{e:TypeId}{g:α->Tr}(hr:UK P t (fun x=>[g x]) Q)(ht:P.underlying t=some (.slice e))(hok:Value.okWide P w .any base t v)(h:DataW.Trod enc P w 0 sp hd t v d p) :
  ∃ y,Q y/\VR G0 S0 w (.tr (g y)) v:=by
 obtain⟨n,hn⟩:=h
 rw[DB ht hok] at hn
 obtain⟨y,hy,hrow⟩:=hr H enc w sp hd n _ _ hn
 refine⟨y,hy,?_⟩
 simp only[VR]
 exact Rds.mono (fun b=>Av0) (fun b _=>rfl) (hrow 0 v _ rfl rfl)
end
theorem XF{H:Type}{enc:TypeId×Value->H}{P:Program}{f:Func}{s:ChangeSpec}{apart:Bool}{W W':World}{args:Array Value}{v:Value}{ds gs:List (DataW H)}{before pa pv:List MemPlace}
  (hW:DataW.Whole enc P f.params.toList s.vars apart W args.toList ds gs before) (hb:Below W.heap.size W W')
  (hres:DataW.TrodAll enc P W' W.heap.size (fun _=>false) false f.resultTypes.toList (v.resultList f.resultTypes.size) (s.fn H (ds++gs)).results [])
  (hargs:DataW.TrodAll enc P W' 0 (fun b=>decide (b<W.heap.size)) true f.params.toList args.toList (s.fn H (ds++gs)).args pa)
  (hvars:DataW.TrodVars enc P W' (fun b=>decide (b<W.heap.size)) s.vars (s.fn H (ds++gs)).vars pv) :
  s.post enc P f apart true false false W args v W' :=
 ⟨ds,gs,before,[],pa,pv,hW,hres,hargs,hvars,hb.frame _,fun h=>by cases h⟩
end Go.Fd

namespace Go.Fd
variable [Tabs]
open Go.RowKit
theorem Wf{w w':World}(h:Below w.heap.size w w'):Ext w w':=⟨h.size,h.block,h.os,h.tape,h.output⟩
theorem Ur{G:Gh}{S:Sto}{w:World}:∀{xs vs:List Value},VRs G S w (xs.map fun v=>.tr (.v v)) vs->vs=xs
 | [],vs,h=>by simpa [VRs] using h
 | x::r,vs,h=>by
  simp only[List.map_cons,VRs] at h
  obtain⟨v,vr,rfl,h1,h2⟩:=h
  rw[Ur h2]
  have h1':Rds w (Av G S w) v (.v x):=h1
  cases h1'
  rfl
theorem WS{P:Program}{f:FuncId}{lvl:Nat}{S:Sto}{args:List IV}{r:IV}(hc:Vp P f)(hi:impv true lvl 0 0 r=(r,[]))(hlow:low lvl r)
  (h:(∀ id ob,S id=some ob->id.1<lvl)->∀ G w vs,SOk G S w->VRs G S w args vs->Fix G S w->Calls P f vs.toArray w fun e w' => ∃ v,e = .returned v/\VR G S w' r v/\Below w.heap.size w w'):Sem P f lvl args S r S:=by
 refine⟨hlow,hc,fun hS G w vs hok hv hfx=>?_⟩
 refine(h hS G w vs hok hv hfx).mono ?_
 rintro e w' ⟨v,rfl,hr,hb⟩
 rw[hi]
 have e:Ext w w':=Wf hb
 exact⟨v,G,rfl,hok.ext e,hr,hS,Frm.of_ext e⟩
theorem Q9{P:Program}{f:FuncId}{lvl:Nat}{S:Sto}{args:List IV}{r:IV}(hc:Vp P f)(hi:impv true lvl 0 0 r=(r,[]))(hlow:low lvl r)
  (h:(∀ id ob,S id=some ob->id.1<lvl)->∀ G w vs,SOk G S w->VRs G S w args vs->Calls P f vs.toArray w fun e w' => ∃ v,e = .returned v/\VR G S w' r v/\Below w.heap.size w w'):Sem P f lvl args S r S :=
 WS hc hi hlow fun hS G w vs hok hv _=>h hS G w vs hok hv
theorem WT{P:Program}{f:FuncId}{lvl:Nat}{S:Sto}{xs:List Value}{y:Value}(hc:Vp P f)(hy:YY y=true)
  (h:∀ w,Calls P f xs.toArray w fun e w' => e = .returned y/\Below w.heap.size w w'):Sem P f lvl (xs.map fun v=>.tr (.v v)) S (.tr (.v y)) S:=by
 refine Q9 hc rfl trivial fun _ G w vs _ hv=>?_
 rw[Ur hv]
 exact(h w).mono fun e w' ⟨h1,h2⟩=>⟨y,h1,.v y hy,h2⟩
end Go.Fd

namespace Go.Fd
def pts:List (Nat×IV)->List (Nat×IV)->List (Nat×IV)
 | [],env=>env
 | (t,x)::r,env=>pts r (pt t x env)
def Zcp:List (Nat×Ob)->List (Nat×Ob)->List (Nat×Ob)
 | [],loc=>loc
 | (t,x)::r,loc=>Zcp r (ptO t x loc)
def chg(ce:List (Nat×IV))(co:List (Nat×Ob))(s:St):St:=⟨s.lvl,pts ce s.env,Zcp co s.loc,s.out⟩
section
variable {C:Za} {lvl:Nat} {env:List (Nat×IV)} {loc:List (Nat×Ob)} {out:Sto} {st:St} {Q:Ex->St->Prop}
theorem ZiS{ce:List (Nat×IV)}{co:List (Nat×Ob)}:chg ce co ⟨lvl,env,loc,out⟩=⟨lvl,pts ce env,Zcp co loc,out⟩:=(rfl)
theorem ZeK:pts [] env=env:=(rfl)
theorem ZeL{t:Nat}{x:IV}{r:List (Nat×IV)}:pts ((t,x)::r) env=pts r (pt t x env):=(rfl)
theorem Zch:Zcp [] loc=loc:=(rfl)
theorem Zci{t:Nat}{x:Ob}{r:List (Nat×Ob)}:Zcp ((t,x)::r) loc=Zcp r (ptO t x loc):=(rfl)
theorem Wg{α:Type}{ks js:List Nat}{c:C2}(N:Nat)(ce:Nat->α->List (Nat×IV))(co:Nat->α->List (Nat×Ob))(A:Nat->α->Prop)(x0:α)
  (h1:clean ks js st) (h0:fgt ks js st=chg (ce 0 x0) (co 0 x0) (fgt ks js st)) (hA:A 0 x0)
  (hs:∀ k x,k<=N->A k x->wp C c (chg (ce k x) (co k x) (fgt ks js st)) (QF ks js (Zh1 N (fun k x=>chg (ce k x) (co k x) (fgt ks js st)) A (N-k)) Q)):wp C (.lp ks js c) st Q :=
 ZaB N (fun k x=>chg (ce k x) (co k x) (fgt ks js st)) A x0 ⟨h1,h0⟩ hA hs
end
section
variable {L:Sto} {F:List IV->Prop} {r:List IV}
def Zjm(L:Sto)(r:List IV)(F:List IV->Prop)(y:IV):Prop:=Zu L r (kcn y F)
theorem ZeM{y:IV}:Zjm L r F y=Zu L r (kcn y F):=(rfl)
theorem ZiT{id:Oid}{off:Nat}:Zu L (.ab id off::r) F=Xa (L id) L off (Zjm L r F):=by simp only[Zu,JJ];rfl
def kta(F:IV->Prop)(ts:List Tr):Prop:=F (.ta ts)
theorem ZiU{F:IV->Prop}{ts:List Tr}:kta F ts=F (.ta ts):=(rfl)
theorem ZiV{cells:List IV}{off:Nat}{F:IV->Prop}:Xa (some (.bx cells)) L off F=Jl L (cells.drop off) (kta F):=(rfl)
def kct(t:Tr)(F:List Tr->Prop)(ts:List Tr):Prop:=F (t::ts)
theorem ZiW{t:Tr}{F:List Tr->Prop}{ts:List Tr}:kct t F ts=F (t::ts):=(rfl)
def Zjn(L:Sto)(r:List IV)(F:List Tr->Prop)(t:Tr):Prop:=Jl L r (kct t F)
theorem ZeN{F:List Tr->Prop}{t:Tr}:Zjn L r F t=Jl L r (kct t F):=(rfl)
theorem ZeO{F:List Tr->Prop}:Jl L [] F=F []:=(rfl)
theorem ZeP{x:IV}{F:List Tr->Prop}:Jl L (x::r) F=Vi L x (Zjn L r F):=(rfl)
theorem ZeQ{t:Tr}{F:Tr->Prop}:Vi L (.tr t) F=F t:=(rfl)
theorem ZeR{es:Row}{F:Tr->Prop}:Vi L (.cs es) F=F (.sl es):=(rfl)
def Zjo(off len:Nat)(F:Tr->Prop)(es:Row)(_u:Bool)(_v:Nat):Prop:=off+len<=es.length/\F (.sl (cut es off len))
theorem ZeS{off len:Nat}{F:Tr->Prop}{es:Row}{u:Bool}{v:Nat}:Zjo off len F es u v=(off+len<=es.length/\F (.sl (cut es off len))):=(rfl)
theorem ZeT{id:Oid}{p:Pth}{off len s:Nat}{cap:Option Nat}{F:Tr->Prop}:Vi L (.hd id p off len cap s) F=rd3 (L id) p s (Zjo off len F):=by rw[<-YT];rfl
end
theorem ZeU{α:Type}{x:α}:List.replicate 1 x=[x]:=(rfl)
theorem ZeV{e:List Tr}:cut [e] 0 1=[e]:=(rfl)
theorem ZeW{l:List Tr}:ScR [l]=(l.all isSc=true):=by
 apply propext
 constructor
 ·intro h
  exact List.all_eq_true.2 fun t ht=>h l (by simp) t ht
 ·intro h e he t ht
  simp only[List.mem_singleton] at he
  subst he
  exact List.all_eq_true.1 h t ht
theorem ZeX{k:Nat}{l:List Tr}:UnR k [l]=(l.length=k):=by
 apply propext
 constructor
 ·intro h;exact h l (by simp)
 ·intro h e he
  simp only[List.mem_singleton] at he
  rw[he,h]
theorem ZiX{j:Nat}:max j (j+1)=j+1:=by omega
theorem ZiY{j:Nat}:(j<j+1)=True:=by simp
end Go.Fd

namespace Go.Fd
open Go.RowKit Go.ChangeShapes Go.ChangeMaps Go.WideMaps
section
variable {H:Type} {enc:TypeId×Value->H} {P:Program} {w:World} {t:TypeId} {v:Value} {d:DataW H} {p:List MemPlace} {sp:Nat->Bool} {hd:Bool} {base:Nat}
end
end Go.Fd

namespace Go.Fd
set_option linter.defProp false in
def EV0:=(And.intro (And.intro (And.intro (And.intro (And.intro @ZcR @Zf3) (And.intro @ZcS (And.intro @ZcT @ZcU))) (And.intro (And.intro @ZcV @ZcW) (And.intro @ZcX (And.intro @ZcY @Zf4)))) (And.intro (And.intro (And.intro @Zf5 @Zf6) (And.intro @Zjr (And.intro @Zjs @Zjt))) (And.intro (And.intro @Zju @Zjv) (And.intro @Zjw (And.intro @Zjx @Zjy))))) (And.intro (And.intro (And.intro (And.intro @Zf7 @Zf8) (And.intro @Zf9 (And.intro @ZcZ @Zjz))) (And.intro (And.intro @Zga @Zgb) (And.intro @ZjA (And.intro @Zgc @Zc0)))) (And.intro (And.intro (And.intro @ZjB @Zgd) (And.intro @ZjC (And.intro @Zge @ZjD))) (And.intro (And.intro @Zgf @ZjE) (And.intro @ZjF (And.intro @ZjG @Zam))))))
set_option linter.defProp false in
def EV1:=(And.intro (And.intro (And.intro (And.intro (And.intro @Zan @Zgg) (And.intro @Zbz (And.intro @ZjH @Zgh))) (And.intro (And.intro @ZjI @Zc2) (And.intro @Zc3 (And.intro @Zc4 @Zc5)))) (And.intro (And.intro (And.intro @Zc6 @Zc7) (And.intro @Zgi (And.intro @Zgj @Zgk))) (And.intro (And.intro @Zgl @Zgm) (And.intro @Zgn (And.intro @Zgo @Zgp))))) (And.intro (And.intro (And.intro (And.intro @Zgq @Zgr) (And.intro @Zgs (And.intro @Zgt @Zgu))) (And.intro (And.intro @Zgv @Zgw) (And.intro @Zgx (And.intro @Zc8 @Zgy)))) (And.intro (And.intro (And.intro @Zgz @ZgA) (And.intro @ZgB (And.intro @ZgC @ZgD))) (And.intro (And.intro @ZjJ @ZjK) (And.intro @ZgE (And.intro @ZjL @ZgF))))))
set_option linter.defProp false in
def EV2:=(And.intro (And.intro (And.intro (And.intro (And.intro @ZjM @ZgG) (And.intro @ZgH (And.intro @ZgI @ZgJ))) (And.intro (And.intro @ZjN @ZgK) (And.intro @ZjO (And.intro @ZgL @ZgM)))) (And.intro (And.intro (And.intro @ZgN @ZjP) (And.intro @ZgO (And.intro @ZjQ @ZjR))) (And.intro (And.intro @ZgP @ZgQ) (And.intro @ZjS (And.intro @ZgR @ZgS))))) (And.intro (And.intro (And.intro (And.intro @ZgT @ZjT) (And.intro @ZgU (And.intro @ZjU @ZgV))) (And.intro (And.intro @ZgW @ZgX) (And.intro @ZjV (And.intro @ZgY @ZgZ)))) (And.intro (And.intro (And.intro @Zg0 @ZjW) (And.intro @Zg1 (And.intro @Zg2 @Zg3))) (And.intro (And.intro @ZjX @Zg4) (And.intro @Zg5 (And.intro @Zg6 @Zg7))))))
set_option linter.defProp false in
def EV3:=(And.intro (And.intro (And.intro (And.intro (And.intro @Zg8 @Zao) (And.intro @Zap (And.intro @Zg9 @Zc9))) (And.intro (And.intro @Zha @ZjY) (And.intro @Zhb (And.intro @Zhc @Zhd)))) (And.intro (And.intro (And.intro @Zhe @ZjZ) (And.intro @Zhf (And.intro @Zj0 @Zhg))) (And.intro (And.intro @Zhh @ZE) (And.intro @VQ (And.intro @Zda @Zhi))))) (And.intro (And.intro (And.intro (And.intro @Zdb @Zhj) (And.intro @Zhk (And.intro @Zhl @Zdc))) (And.intro (And.intro @Zdd @Zdf) (And.intro @ZbA (And.intro @Zj1 @Zhm)))) (And.intro (And.intro (And.intro @Zhn @Zho) (And.intro @Zhp (And.intro @Zdg @Zhq))) (And.intro (And.intro @Zhr @Zhs) (And.intro @Zht (And.intro @Zhu @Zdh))))))
set_option linter.defProp false in
def EV4:=(And.intro (And.intro (And.intro (And.intro (And.intro @Zdi @Zhv) (And.intro @Zdj (And.intro @Zdk @Zj2))) (And.intro (And.intro @Zhw @Zhx) (And.intro @Zhy (And.intro @Zhz @Zdl)))) (And.intro (And.intro (And.intro @Zj3 @ZhA) (And.intro @Zj4 (And.intro @ZhB @ZhC))) (And.intro (And.intro @ZhD @Zj5) (And.intro @ZhE (And.intro @ZhF @ZhG))))) (And.intro (And.intro (And.intro (And.intro @Zdm @Zdn) (And.intro @Zdo (And.intro @Zdp @Zdq))) (And.intro (And.intro @Zdr @ZhH) (And.intro @ZhI (And.intro @ZhJ @ZhK)))) (And.intro (And.intro (And.intro @ZhL @ZhM) (And.intro @ZhN (And.intro @Zj6 @ZhO))) (And.intro (And.intro @ZhP @Zds) (And.intro @ZhQ (And.intro @Zdt @ZhR))))))
set_option linter.defProp false in
def EV5:=(And.intro (And.intro (And.intro (And.intro (And.intro @Zdu @ZhS) (And.intro @Zdv (And.intro @ZhT @Zdw))) (And.intro (And.intro @Zdx @Zdy) (And.intro @ZhU (And.intro @ZbB @ZbC)))) (And.intro (And.intro (And.intro @ZhV @Zdz) (And.intro @ZdA (And.intro @ZdB @ZdC))) (And.intro (And.intro @ZdD @ZhW) (And.intro @ZdE (And.intro @ZhX @ZdF))))) (And.intro (And.intro (And.intro (And.intro @ZbD @ZbE) (And.intro @ZbF (And.intro @ZbG @ZbH))) (And.intro (And.intro @ZbI @ZbJ) (And.intro @ZhY (And.intro @Zaq @Zar)))) (And.intro (And.intro (And.intro @ZbK @ZbL) (And.intro @ZbM (And.intro @ZbN @Zas))) (And.intro (And.intro @Zat @Zau) (And.intro @Zav (And.intro @Zaw @Zax))))))
set_option linter.defProp false in
def EV6:=(And.intro (And.intro (And.intro (And.intro (And.intro @ZbO @ZbP) (And.intro @ZbQ (And.intro @ZdG @ZdH))) (And.intro (And.intro @ZhZ @ZbR) (And.intro @ZdI (And.intro @ZdJ @ZbS)))) (And.intro (And.intro (And.intro @ZdK @ZdL) (And.intro @ZdM (And.intro @ZdN @ZdO))) (And.intro (And.intro @ZdP @ZdQ) (And.intro @ZbT (And.intro @ZbU @ZbV))))) (And.intro (And.intro (And.intro (And.intro @ZbW @ZdR) (And.intro @ZdS (And.intro @ZdT @ZdU))) (And.intro (And.intro @ZdV @Zay) (And.intro @Zaz (And.intro @ZaA @Zj7)))) (And.intro (And.intro (And.intro @Zh2 @Zh3) (And.intro @Zh4 (And.intro @ZaC @ZaD))) (And.intro (And.intro @ZbX @ZbY) (And.intro @ZdW (And.intro @ZdX @ZdY))))))
set_option linter.defProp false in
def EV7:=(And.intro (And.intro (And.intro (And.intro (And.intro @ZdZ @Zd0) (And.intro @Zd1 (And.intro @Zd2 @Zd3))) (And.intro (And.intro @Zd4 @ZbZ) (And.intro @Zh5 (And.intro @Zb0 @Zb1)))) (And.intro (And.intro (And.intro @Zh6 @Zh7) (And.intro @Zh8 (And.intro @Zh9 @Zd5))) (And.intro (And.intro @Zd6 @Zd7) (And.intro @Zia (And.intro @Zj8 @Zib))))) (And.intro (And.intro (And.intro (And.intro @Zic @Zid) (And.intro @Zie (And.intro @Zif @Zb2))) (And.intro (And.intro @Zb3 @Zd8) (And.intro @Zd9 (And.intro @Zea @Zeb)))) (And.intro (And.intro (And.intro @Zig @Zed) (And.intro @Zb4 (And.intro @Zb5 @Zee))) (And.intro (And.intro @Zef @Zj9) (And.intro @Zka (And.intro @Zb6 @Zb7))))))
set_option linter.defProp false in
def EV8:=(And.intro (And.intro (And.intro (And.intro (And.intro @Zkb @Zkc) (And.intro @Zih (And.intro @Zii @Zkd))) (And.intro (And.intro @Zke @Zij) (And.intro @Zik (And.intro @Zil @Zim)))) (And.intro (And.intro (And.intro @Zin @Zkf) (And.intro @Zeg (And.intro @Zeh @Zkg))) (And.intro (And.intro @Zei @Zej) (And.intro @Zek (And.intro @Zel @Zem))))) (And.intro (And.intro (And.intro (And.intro @Zkh @Zki) (And.intro @Zen (And.intro @Zeo @Zep))) (And.intro (And.intro @Zio @Zkj) (And.intro @Zip (And.intro @Ziq @Zeq)))) (And.intro (And.intro (And.intro @Zer @Zir) (And.intro @Zes (And.intro @Zet @Zis))) (And.intro (And.intro @Zeu @Ziu) (And.intro @Zev (And.intro @Zew @Dy))))))
set_option linter.defProp false in
def EV9:=(And.intro (And.intro (And.intro (And.intro (And.intro @Zkk @Ziv) (And.intro @Ziw (And.intro @Zex @Zkl))) (And.intro (And.intro @Zix @Zkm) (And.intro @Ziy (And.intro @Ziz @ZiA)))) (And.intro (And.intro (And.intro @Zkn @ZiB) (And.intro @ZiC (And.intro @Zey @Zez))) (And.intro (And.intro @Zko @ZiD) (And.intro @Zkp (And.intro @ZiE @ZiF))))) (And.intro (And.intro (And.intro (And.intro @ZiG @Zb8) (And.intro @Zb9 (And.intro @ZeA @ZeB))) (And.intro (And.intro @ZeC @ZeD) (And.intro @Zca (And.intro @Dz @Zkq)))) (And.intro (And.intro (And.intro @Zcb @Zcc) (And.intro @Zcd (And.intro @Zce @Zcf))) (And.intro (And.intro @ZeE @Zkr) (And.intro @ZiI (And.intro @ZiJ @Zks))))))
set_option linter.defProp false in
def Zkw:=(And.intro (And.intro (And.intro (And.intro (And.intro @ZiK @ZiL) (And.intro @ZiM (And.intro @ZeF @ZeG))) (And.intro (And.intro @ZeH @ZiN) (And.intro @ZiO (And.intro @Zkt @Zku)))) (And.intro (And.intro (And.intro @ZiP @Zkv) (And.intro @ZiQ (And.intro @ZiR @ZeI))) (And.intro (And.intro @ZiS @ZeK) (And.intro @ZeL (And.intro @Zch @Zci))))) (And.intro (And.intro (And.intro (And.intro @ZeM @ZiT) (And.intro @ZiU (And.intro @ZiV @ZiW))) (And.intro (And.intro @ZeN @ZeO) (And.intro @ZeP (And.intro @ZeQ @ZeR)))) (And.intro (And.intro (And.intro @ZeS @ZeT) (And.intro @ZeU (And.intro @ZeV @ZeW))) (And.intro (And.intro @ZeX @ZiX) (And.intro @ZiY (And.intro @bigN.eq_1 @fpart.eq_1))))))
set_option linter.defProp false in
def Zkx:=(And.intro (And.intro (And.intro (And.intro (And.intro @fpart.eq_2 @okp.eq_1) (And.intro @okp.eq_2 (And.intro @zfill.eq_1 @zfill.eq_2))) (And.intro (And.intro @zobs.eq_1 @ptd.eq_1) (And.intro @ptd.eq_2 (And.intro @keyOf.eq_1 @keyOf.eq_2)))) (And.intro (And.intro (And.intro @freshK.eq_1 @freshK.eq_2) (And.intro @lk.eq_1 (And.intro @lk.eq_2 @pt.eq_1))) (And.intro (And.intro @pt.eq_2 @lkO.eq_1) (And.intro @lkO.eq_2 (And.intro @ptO.eq_1 @ptO.eq_2))))) (And.intro (And.intro (And.intro (And.intro @addO.eq_1 @addO.eq_2) (And.intro @xv.eq_1 (And.intro @xv.eq_2 @xv.eq_3))) (And.intro (And.intro @kv.eq_1 @kv.eq_2) (And.intro @kc.eq_1 (And.intro @kc.eq_2 @params.eq_1)))) (And.intro (And.intro (And.intro @params.eq_2 @trv.eq_1) (And.intro @trv.eq_2 (And.intro @List.length_cons.{0} @List.length_nil.{0}))) (And.intro (And.intro @Option.getD_some.{0} @Option.getD_none.{0}) (And.intro @true_and (And.intro @and_true @decide_eq_true_eq))))))
set_option linter.defProp false in
def Zky:=(And.intro (And.intro (And.intro (And.intro (And.intro @decide_true @decide_false) (And.intro @Option.map_some.{0,0} (And.intro @Option.map_none.{0,0} @Option.isSome_some.{0}))) (And.intro (And.intro @Option.isSome_none.{0} @Option.isNone_some.{0}) (And.intro @Option.isNone_none.{0} (And.intro @List.map_cons.{0,0} @List.map_nil.{0,0})))) (And.intro (And.intro (And.intro @List.cons_append.{0} @List.nil_append.{0}) (And.intro @List.getElem?_cons_zero.{0} (And.intro @List.getElem?_cons_succ.{0} @List.drop_succ_cons.{0}))) (And.intro (And.intro @List.drop_zero.{0} @List.take_succ_cons.{0}) (And.intro @List.take_zero.{0} (And.intro @List.headD_cons.{0} @List.headD_nil.{0}))))) (And.intro (And.intro (And.intro (And.intro @List.tail_cons.{0} @List.tail_nil.{0}) (And.intro @noSh.eq_1 (And.intro @noSh.eq_2 @noSh.eq_3))) (And.intro (And.intro @noSh.eq_4 @noSh.eq_5) (And.intro @noSh.eq_6 (And.intro @noSh.eq_7 @noSh.eq_8)))) (And.intro (And.intro (And.intro @noShs.eq_1 @noShs.eq_2) (And.intro @isSc.eq_1 (And.intro @isSc.eq_2 @impv.eq_1))) (And.intro (And.intro @impv.eq_2 @impv.eq_3) (And.intro @impv.eq_4 (And.intro @impvs.eq_1 @impvs.eq_2))))))
set_option linter.defProp false in
def Zkz:=(And.intro (And.intro (And.intro (And.intro (And.intro @impc.eq_1 @impc.eq_2) (And.intro @memB.eq_1 (And.intro @memB.eq_2 @keepB.eq_1))) (And.intro (And.intro @keepB.eq_2 @keepOB.eq_1) (And.intro @keepOB.eq_2 (And.intro @or_true @true_or)))) (And.intro (And.intro (And.intro @or_false @false_or) (And.intro @Bool.false_eq_true (And.intro @Bool.true_eq_false @if_true.{1}))) (And.intro (And.intro @if_false.{1} @Bool.not_true) (And.intro @Bool.not_false (And.intro @scrE.eq_1 @scrE.eq_2))))) (And.intro (And.intro (And.intro (And.intro @scrL.eq_1 @scrL.eq_2) (And.intro @scr.eq_1 (And.intro @scr.eq_2 @scr.eq_3))) (And.intro (And.intro @scr.eq_4 @scr.eq_5) (And.intro @scr.eq_6 (And.intro @scr.eq_7 @scr.eq_8)))) (And.intro (And.intro (And.intro @scrs.eq_1 @scrs.eq_2) (And.intro @scrOb.eq_1 (And.intro @scrOb.eq_2 @rmO.eq_1))) (And.intro (And.intro @rmO.eq_2 @Int.toNat_natCast) (And.intro @Int.toNat_zero (And.intro @Int.toNat_one @List.all_cons.{0}))))))
set_option linter.defProp false in
def ZkA:=(And.intro (And.intro (And.intro (And.intro (And.intro @List.all_nil.{0} @isCell.eq_1) (And.intro @isCell.eq_2 (And.intro @isCell.eq_3 @isCell.eq_4))) (And.intro (And.intro @isCell.eq_5 @isCell.eq_6) (And.intro @Bool.and_true (And.intro @Bool.true_and @Bool.and_self)))) (And.intro (And.intro (And.intro @cellsOf.eq_1 @cellsOf.eq_2) (And.intro @totr.eq_1 (And.intro @totr.eq_2 @totr.eq_3))) (And.intro (And.intro @totr.eq_4 @totr.eq_5) (And.intro @totrs.eq_1 (And.intro @totrs.eq_2 @tocs.eq_1))))) (And.intro (And.intro (And.intro (And.intro @getp.eq_1 @getp.eq_2) (And.intro @cvt.eq_1 (And.intro @cvt.eq_2 @cvts.eq_1))) (And.intro (And.intro @cvts.eq_2 @Nat.zero_add) (And.intro @Nat.add_zero (And.intro @List.set_cons_zero.{0} @List.set_cons_succ.{0})))) (And.intro (And.intro (And.intro @Bool.not_eq_true' @Bool.not_eq_false') (And.intro @Int.natCast_nonneg (And.intro @Nat.le_refl @Prod.mk.injEq.{0,0}))) (And.intro (And.intro @ne_eq.{1} @not_false_eq_true) (And.intro @not_true_eq_false (And.intro @List.length_map.{0,0} @List.length_replicate.{0}))))))
set_option linter.defProp false in
def ZkB:=(And.intro (And.intro @List.replicate_zero.{0} @and_false) (And.intro @false_and (And.intro @and_self @Int.cast_ofNat_Int)))
set_option linter.defProp false in
def EVA:=(And.intro (And.intro (And.intro (And.intro EV0 EV1) (And.intro EV2 EV3)) (And.intro (And.intro EV4 EV5) (And.intro EV6 EV7))) (And.intro (And.intro (And.intro EV8 EV9) (And.intro Zkw Zkx)) (And.intro (And.intro Zky Zkz) (And.intro ZkA ZkB))))
abbrev oo(d:Nat)(x:O):OP:=⟨some d,none,x⟩
abbrev on1(x:O):OP:=⟨none,none,x⟩
abbrev og(d j:Nat)(w:Bool)(x:O):OP:=⟨some d,some (j,w),x⟩
abbrev om(d:Nat)(x:X):OP:=⟨some d,none,.mv x none⟩
abbrev rg(l:List OP):C2:=.rg none l
abbrev i6(n:Int):X:=.k (.int .i64 n)
end Go.Fd

namespace Go.Fd
set_option maxRecDepth 10000
theorem QH{c:Prop}[Decidable c]{p q:Prop}(h1:c->p)(h2:¬ c->q):if c then p else q:=by
 split
 ·exact h1 ‹_›
 ·exact h2 ‹_›
end Go.Fd

namespace Go.Fd
set_option maxRecDepth 10000
end Go.Fd

namespace Go.Fd
variable [Tabs]
theorem DC{S:Sto}{id:Oid}{a:Ob}(h:S id=some a):Zn S id a=S:=by
 funext i
 unfold Zn
 split
 ·rename_i e;rw[e,h]
 ·rfl
section mark
variable {α:Type} (m:α->Int->α) (n:α->Nat)
end mark
theorem DD{lvl key:Nat}{loc:List (Nat×Ob)}{out:Sto}{o:Ob}:Zj lvl (ptO key o loc) out=Zn (Zj lvl loc out) (lvl,key) o:=by
 funext i
 unfold Zj Zn
 by_cases h:i.1=lvl
 ·rw[if_pos h,Qk]
  by_cases h2:i.2=key
  ·have:i=(lvl,key):=by obtain⟨a,b⟩:=i;simp only at h h2;rw[h,h2]
   rw[if_pos h2,if_pos this]
  ·have:¬ i=(lvl,key):=fun e=>h2 (by rw[e])
   rw[if_neg h2,if_neg this]
   exact(if_pos h).symm
 ·have:¬ i=(lvl,key):=fun e=>h (by rw[e])
  rw[if_neg h,if_neg this]
  exact(if_neg h).symm
end Go.Fd

namespace Go.Fd
end Go.Fd

namespace Go.Fd
set_option maxRecDepth 10000
end Go.Fd

namespace Go.Fd
abbrev JO:FuncId:=3
abbrev YB:FuncId:=4
abbrev ZH:FuncId:=5
abbrev Z8:FuncId:=6
abbrev ZI:FuncId:=7
abbrev ZG:FuncId:=8
abbrev Z9:FuncId:=9
abbrev ZP:FuncId:=10
abbrev ZA:FuncId:=11
abbrev Jf:FuncId:=12
abbrev Zs:FuncId:=13
abbrev ZJ:FuncId:=14
abbrev JL:FuncId:=15
abbrev Zt:FuncId:=16
abbrev Jt:FuncId:=17
abbrev JG:FuncId:=18
abbrev JM:FuncId:=19
abbrev Jy:FuncId:=20
abbrev ZQ:FuncId:=21
abbrev qM(d a:Nat):OP:=om d (.t a)
abbrev qL(d a:Nat):OP:=oo d (.ld none (.t a))
abbrev qF(d o a:Nat):OP:=oo d (.fa o (.t a))
abbrev qN(d a:Nat):OP:=oo d (.ln (.t a))
abbrev qE(d i a:Nat):OP:=oo d (.ex i (.t a))
abbrev qI(d k a b:Nat):OP:=oo d (.ia k (.t a) (.t b))
abbrev qB(d:Nat)(o:BinOp)(a b:Nat):OP:=oo d (.bi o 0 (.t a) (.t b))
end Go.Fd

namespace Go.Fd
def Ju:F2 :=
 { nt:=15,res:=[.t 2 [0],.t 3 [0]],body:=(.sq (rg [om 2 (.k (.string ⟨#[]⟩)),om 3 (.k (.string ⟨#[]⟩))]) (.sq (rg [qM 6 0,oo 7 (.bd [.slice none 0 0,.int .i64 0,.int .u64 0] [(0,1,.t 6)] []),oo 8 (.bx (.t 7)),qM 4 8]) (.sq (rg [qM 9 4,oo 10 (.ca .any false (.f Zs) [.t 9]),qM 5 10]) (.sq (rg [qM 11 5,qM 12 4,oo 13 (.bs 1 5 [.string ⟨#[]⟩] [(0,.k (.string ⟨#[44]⟩)),(1,.k (.string ⟨#[44]⟩)),(2,.k (.string ⟨#[32]⟩)),(3,.k (.string ⟨#[]⟩)),(4,.k (.string ⟨#[44,44]⟩))]),oo 14 (.ca .any false (.f ZJ) [.t 12,.t 13]),qM 2 11,qM 3 14]) (.rt))))) }
theorem YH:XE Go.Proofs.Try.prog ZH Ju=true:=by kernel_rfl
def ZV:F2 :=
 { nt:=18,res:=[.t 4 [2],.t 5 [0]],body:=(.sq (rg [om 4 (.k (.slice none 0 0)),om 5 (.k (.bool false))]) (.sq (.sq (rg [qM 6 0,oo 7 (.lg (.t 6)),oo 8 (.bi .gtr 0 (.t 7) (i6 4000)),qM 9 8,og 10 9 false (.mv (.t 1) none),og 11 9 false (.lg (.t 10)),og 12 9 false (.bi .neq 0 (.t 11) (i6 1)),oo 13 (.pk (.t 9) (.k (.bool true)) (.t 12))]) (.cd (.t 13) (.sq (rg [om 4 (.k (.slice none 0 0)),om 5 (.k (.bool false))]) (.rt)) (.sk))) (.sq (rg [qM 14 0,qM 15 1,oo 16 (.ix (.t 15) (i6 0)),oo 17 (.ca .pure true (.f JL) [.t 14,.t 16]),qM 4 17,om 5 (.k (.bool true))]) (.rt)))) }
theorem Vy:XE Go.Proofs.Try.prog Z8 ZV=true:=by kernel_rfl
def Jv:F2 :=
 { nt:=38,res:=[.t 2 [2],.t 3 [0]],body:=(.sq (rg [om 2 (.k (.slice none 0 0)),om 3 (.k (.string ⟨#[]⟩))]) (.sq (rg [qM 8 0,oo 9 (.bd [.slice none 0 0,.int .i64 0,.int .u64 0] [(0,1,.t 8)] []),oo 10 (.bx (.t 9)),qM 4 10]) (.sq (rg [oo 11 (.bs 1 0 [] []),qM 5 11]) (.sq (rg [qM 12 4,oo 13 (.ca .any false (.f Zt) [.t 12,i6 4]),qM 6 13]) (.sq (.sq (rg [om 7 (i6 0)]) (.bl 0 (.lp [4,5,6,7] [320,352,736,1056] (.sq (.sq (rg [qM 14 7,qM 15 6,qB 16 .lss 14 15]) (.cd (.t 16) (.sk) (.ex 0))) (.sq (.bl 1 (rg [qM 19 5,qM 20 4,oo 21 (.ca .any false (.f Zs) [.t 20]),oo 22 (.bs 1 1 [.string ⟨#[]⟩] [(0,.t 21)]),oo 23 (.ap 1 0 (.t 19) (.t 22)),qM 5 23]))
 (rg [qM 17 7,oo 18 (.bi .add 0 (.t 17) (i6 1)),qM 7 18])))))) (.sq (.sq (rg [qM 24 4,oo 25 (.ca .any false (.f Jt) [.t 24,i6 20])]) (.cd (.t 25) (rg [qM 26 5,qM 27 4,oo 28 (.ca .any false (.f Zt) [.t 27,i6 20]),oo 29 (.bi .add 0 (i6 3990) (.t 28)),oo 30 (.ms 1 [.int .u8 0] (.t 29)),oo 31 (.sb (.t 30)),oo 32 (.bs 1 1 [.string ⟨#[]⟩] [(0,.t 31)]),oo 33 (.ap 1 0 (.t 26) (.t 32)),qM 5 33]) (.sk))) (.sq (rg [qM 34 5,qM 35 4,oo 36 (.bs 1 5 [.string ⟨#[]⟩] [(0,.k (.string ⟨#[44]⟩)),(1,.k (.string ⟨#[59]⟩)),(2,.k (.string ⟨#[59]⟩)),(3,.k (.string ⟨#[]⟩)),(4,.k (.string ⟨#[97,98]⟩))]),oo 37 (.ca .any false (.f ZJ) [.t 35,.t 36]),qM 2 34,qM 3 37]) (.rt)))))))) }
theorem YI:XE Go.Proofs.Try.prog ZI Jv=true:=by kernel_rfl
def ZW:F2 :=
 { nt:=45,res:=[.t 4 [0],.t 5 [0]],body:=(.sq (rg [om 4 (.k (.string ⟨#[]⟩)),om 5 (.k (.bool false))]) (.sq (.sq (rg [qM 9 0,qN 10 9,oo 11 (.bi .eql 0 (.t 10) (i6 0)),qM 12 11,og 13 12 false (.mv (.t 1) none),og 14 12 false (.lg (.t 13)),og 15 12 false (.bi .neq 0 (.t 14) (i6 1)),oo 16 (.pk (.t 12) (.k (.bool true)) (.t 15))]) (.cd (.t 16) (.sq (rg [om 4 (.k (.string ⟨#[]⟩)),om 5 (.k (.bool false))]) (.rt)) (.sk))) (.sq (rg [qM 17 0,qN 18 17,oo 19 (.bi .sub 0 (.t 18) (i6 1)),qM 6 19]) (.sq (.sq (rg [qM 20 0,qN 21 20,om 22 (i6 0)]) (.bl 0 (.lp [0,1,6,20,21,22] [] (.sq (rg [qB 23 .lss 22 21]) (.sq (.cd (.t 23) (.sk) (.ex 0)) (.sq (.bl 1 (.sq (rg [qI 24 1 20 22,qL 25 24,qM 8 25]) (.sq (rg [qM 26 6,qM 27 8,oo 28 (.lg (.t 27)),qB 29 .add 26 28,qM 6 29]) (.sq (rg [qM 30 6,oo 31 (.bi .gtr 0 (.t 30) (i6 4000)),qM 32 31,og 33 32 false (.mv (.t 8) none),og 34 32 false (.mv (.t 1) none),og 35 32 false (.ix (.t 34) (i6 0)),og 36 32 false (.ca .pure false (.f JG) [.t 33,.t 35]),og 37 32 false (.bi .geq 0 (.t 36) (i6 0)),oo 38 (.pk (.t 32) (.k (.bool true)) (.t 37))]) (.cd (.t 38) (.sq (rg [om 4 (.k (.string ⟨#[]⟩)),om 5 (.k (.bool false))]) (.rt)) (.sk))))))
 (rg [oo 39 (.bi .add 0 (.t 22) (i6 1)),qM 22 39]))))))) (.sq (.sq (rg [qM 40 6,oo 41 (.bi .gtr 0 (.t 40) (i6 4000))]) (.cd (.t 41) (.sq (rg [om 4 (.k (.string ⟨#[]⟩)),om 5 (.k (.bool false))]) (.rt)) (.sk))) (.sq (rg [qM 42 0,qM 43 1,oo 44 (.ca .pure false (.f JM) [.t 42,.t 43]),qM 4 44,om 5 (.k (.bool true))]) (.rt))))))) }
theorem Vz:XE Go.Proofs.Try.prog ZG ZW=true:=by kernel_rfl
def ZX:F2 :=
 { nt:=44,res:=[.t 4 [0],.t 5 [0]],body:=(.sq (rg [om 4 (.k (.string ⟨#[]⟩)),om 5 (.k (.bool false))]) (.sq (.sq (rg [qM 8 1,oo 9 (.lg (.t 8)),oo 10 (.bi .neq 0 (.t 9) (i6 1)),qM 11 10,og 12 11 false (.mv (.t 0) none),og 13 11 false (.ln (.t 12)),og 14 11 false (.bi .eql 0 (.t 13) (i6 0)),oo 15 (.pk (.t 11) (.k (.bool true)) (.t 14))]) (.cd (.t 15) (.sq (rg [om 4 (.k (.string ⟨#[]⟩)),om 5 (.k (.bool false))]) (.rt)) (.sk))) (.sq (rg [om 6 (.k (.string ⟨#[]⟩))]) (.sq (.sq (rg [om 7 (i6 0)]) (.bl 0 (.lp [0,1,6,7] [] (.sq (.sq (rg [qM 16 7,qM 17 0,qN 18 17,qB 19 .lss 16 18]) (.cd (.t 19) (.sk) (.ex 0))) (.sq (.bl 1 (.sq (.sq (.rg (some 0) [qM 22 0,qM 23 7,qI 24 1 22 23,qL 25 24,qM 26 1,oo 27 (.ix (.t 26) (i6 0)),oo 28 (.ca .pure false (.f Jy) [.t 25,.t 27])]) (.cd (.t 28) (.sq (rg [om 4 (.k (.string ⟨#[]⟩)),om 5 (.k (.bool false))]) (.rt)) (.sk))) (.sq (.sq (rg [qM 29 7,oo 30 (.bi .gtr 0 (.t 29) (i6 0))]) (.cd (.t 30) (rg [qM 31 6,qM 32 1,qB 33 .add 31 32,qM 6 33]) (.sk))) (.sq (rg [qM 34 6,qM 35 0,qM 36 7,qI 37 1 35 36,qL 38 37,qB 39 .add 34 38,qM 6 39]) (.sq (rg [qM 40 6,oo 41 (.lg (.t 40)),oo 42 (.bi .gtr 0 (.t 41) (i6 4000))]) (.cd (.t 42) (.sq (rg [om 4 (.k (.string ⟨#[]⟩)),om 5 (.k (.bool false))]) (.rt)) (.sk)))))))
 (rg [qM 20 7,oo 21 (.bi .add 0 (.t 20) (i6 1)),qM 7 21])))))) (.sq (rg [qM 43 6,qM 4 43,om 5 (.k (.bool true))]) (.rt)))))) }
theorem VA:XE Go.Proofs.Try.prog Z9 ZX=true:=by kernel_rfl
def JH:F2 :=
 { nt:=14,res:=[.t 2 [0],.t 3 [0]],body:=(.sq (rg [om 2 (.k (.string ⟨#[]⟩)),om 3 (.k (.string ⟨#[]⟩))]) (.sq (rg [qM 6 0,oo 7 (.bd [.slice none 0 0,.int .i64 0,.int .u64 0] [(0,1,.t 6)] []),oo 8 (.bx (.t 7)),qM 4 8]) (.sq (rg [qM 9 4,oo 10 (.ca .any false (.f Zs) [.t 9]),qM 5 10]) (.sq (rg [qM 11 5,qM 12 4,oo 13 (.ca .any false (.f Zs) [.t 12]),qM 2 11,qM 3 13]) (.rt))))) }
theorem YU:XE Go.Proofs.Try.prog ZP JH=true:=by kernel_rfl
def Yl:F2 :=
 { nt:=8,res:=[.t 4 [0]],body:=(.sq (rg [om 4 (.k (.bool false))]) (.sq (rg [qM 5 0,qM 6 1,qB 7 .lss 5 6,qM 4 7]) (.rt))) }
theorem VS:XE Go.Proofs.Try.prog ZA Yl=true:=by kernel_rfl
def Ym:F2 :=
 { nt:=8,res:=[.t 4 [0]],body:=(.sq (rg [om 4 (.k (.bool false))]) (.sq (rg [qM 5 0,qM 6 1,qB 7 .lss 5 6,qM 4 7]) (.rt))) }
theorem VT:XE Go.Proofs.Try.prog Jf Ym=true:=by kernel_rfl
def Yn:F2 :=
 { nt:=6,res:=[.t 2 [0]],body:=(.sq (rg [om 2 (.k (.string ⟨#[]⟩))]) (.sq (rg [qM 3 0,oo 4 (.bs 1 9 [.string ⟨#[]⟩] [(0,.k (.string ⟨#[]⟩)),(1,.k (.string ⟨#[97]⟩)),(2,.k (.string ⟨#[97,44,98]⟩)),(3,.k (.string ⟨#[115,111,109,101,32,119,111,114,100,115]⟩)),(4,.k (.string ⟨#[120,35,121]⟩)),(5,.k (.string ⟨#[45,49,50]⟩)),(6,.k (.string ⟨#[0,255]⟩)),(7,.k (.string ⟨#[44,44]⟩)),(8,.k (.string ⟨#[48]⟩))]),oo 5 (.ca .any false (.f ZJ) [.t 3,.t 4]),qM 2 5]) (.rt))) }
theorem VU:XE Go.Proofs.Try.prog Zs Yn=true:=by kernel_rfl
def YV:F2 :=
 { nt:=12,res:=[.t 4 [0]],body:=(.sq (rg [om 4 (.k (.string ⟨#[]⟩))]) (.sq (rg [qM 5 1,qM 6 0,qM 7 1,qN 8 7,oo 9 (.ca .any false (.f Zt) [.t 6,.t 8]),qI 10 1 5 9,qL 11 10,qM 4 11]) (.rt))) }
theorem QI:XE Go.Proofs.Try.prog ZJ YV=true:=by kernel_rfl
def Vg:F2 :=
 { nt:=35,res:=[.t 4 [2]],body:=(.sq (rg [om 4 (.k (.slice none 0 0))]) (.sq (rg [oo 8 (.bs 1 0 [] []),qM 5 8]) (.sq (rg [om 6 (i6 0)]) (.sq (.sq (rg [qM 9 0,oo 10 (.lg (.t 9)),om 11 (i6 0)]) (.bl 0 (.lp [0,1,5,6,10,11] [256,800] (.sq (rg [qB 12 .lss 11 10]) (.sq (.cd (.t 12) (.sk) (.ex 0)) (.sq (.bl 1 (.sq (rg [qM 13 11,qM 7 13]) (.sq (rg [qM 14 0,qM 15 7,oo 16 (.ix (.t 14) (.t 15)),qM 17 1,qB 18 .eql 16 17]) (.cd (.t 18) (.sq (rg [qM 19 5,qM 20 0,qM 21 6,qM 22 7,oo 23 (.ss (.t 20) (some (.t 21)) (some (.t 22))),oo 24 (.bs 1 1 [.string ⟨#[]⟩] [(0,.t 23)]),oo 25 (.ap 1 0 (.t 19) (.t 24)),qM 5 25])
 (rg [qM 26 7,oo 27 (.bi .add 0 (.t 26) (i6 1)),qM 6 27])) (.sk)))))
 (rg [oo 28 (.bi .add 0 (.t 11) (i6 1)),qM 11 28]))))))) (.sq (rg [qM 29 5,qM 30 0,qM 31 6,oo 32 (.ss (.t 30) (some (.t 31)) none),oo 33 (.bs 1 1 [.string ⟨#[]⟩] [(0,.t 32)]),oo 34 (.ap 1 0 (.t 29) (.t 33)),qM 4 34]) (.rt)))))) }
theorem QX:XE Go.Proofs.Try.prog JL Vg=true:=by kernel_rfl
def Jz:F2 :=
 { nt:=20,res:=[.t 4 [0]],body:=(.sq (rg [om 4 (i6 0)]) (.sq (.sq (rg [qM 6 1,oo 7 (.bi .leq 0 (.t 6) (i6 1))]) (.cd (.t 7) (.sq (rg [om 4 (i6 0)]) (.rt)) (.sk))) (.sq (rg [qM 8 0,oo 9 (.ca .any false (.f ZQ) [.t 8]),qM 5 9]) (.sq (.sq (rg [qM 10 1,oo 11 (.bi .gtr 0 (.t 10) (i6 200))]) (.cd (.t 11) (rg [qM 12 5,oo 13 (.bi .mul 0 (.t 12) (i6 256)),qM 14 0,oo 15 (.ca .any false (.f ZQ) [.t 14]),qB 16 .add 13 15,qM 5 16]) (.sk))) (.sq (rg [qM 17 5,qM 18 1,qB 19 .rem 17 18,qM 4 19]) (.rt)))))) }
theorem VV:XE Go.Proofs.Try.prog Zt Jz=true:=by kernel_rfl
def YG:F2 :=
 { nt:=9,res:=[.t 4 [0]],body:=(.sq (rg [om 4 (.k (.bool false))]) (.sq (rg [qM 5 0,qM 6 1,oo 7 (.ca .any false (.f Zt) [.t 5,.t 6]),oo 8 (.bi .eql 0 (.t 7) (i6 0)),qM 4 8]) (.rt))) }
theorem V7:XE Go.Proofs.Try.prog Jt YG=true:=by kernel_rfl
def YW:F2 :=
 { nt:=17,res:=[.t 4 [0]],body:=(.sq (rg [om 4 (.k (.bool false))]) (.sq (.sq (rg [om 5 (i6 0)]) (.bl 0 (.lp [0,1,5] [] (.sq (.sq (rg [qM 6 5,qM 7 0,oo 8 (.lg (.t 7)),qB 9 .lss 6 8]) (.cd (.t 9) (.sk) (.ex 0))) (.sq (.bl 1 (.sq (rg [qM 12 0,qM 13 5,oo 14 (.ix (.t 12) (.t 13)),qM 15 1,qB 16 .eql 14 15]) (.cd (.t 16) (.sq (rg [om 4 (.k (.bool true))]) (.rt)) (.sk))))
 (rg [qM 10 5,oo 11 (.bi .add 0 (.t 10) (i6 1)),qM 5 11])))))) (.sq (rg [om 4 (.k (.bool false))]) (.rt)))) }
theorem QJ:XE Go.Proofs.Try.prog Jy YW=true:=by kernel_rfl
def JA:F2 :=
 { nt:=62,res:=[.t 2 [0]],body:=(.sq (rg [om 2 (i6 0)]) (.sq (rg [om 3 (i6 0)]) (.sq (.sq (.rg (some 0) [qM 4 0,oo 5 (.nc (.t 4)),qF 6 1 5,qL 7 6,qM 8 0,oo 9 (.nc (.t 8)),qF 10 0 9,qL 11 10,qN 12 11,qB 13 .lss 7 12]) (.cd (.t 13) (.rg (some 0) [qM 14 0,oo 15 (.nc (.t 14)),qF 16 0 15,qL 17 16,qM 18 0,oo 19 (.nc (.t 18)),qF 20 1 19,qL 21 20,qI 22 1 17 21,qL 23 22,oo 24 (.cv (.int .i64) (.t 23)),qM 3 24]) (.sk))) (.sq (rg [qM 25 0,oo 26 (.nc (.t 25)),qF 27 1 26,qL 28 27,oo 29 (.bi .add 0 (.t 28) (i6 1)),oo 30 (.nc (.t 25)),qF 31 1 30,on1 (.st 1 (.t 31) (.t 29))]) (.sq (rg [qM 32 0,qM 33 0,oo 34 (.nc (.t 33)),qF 35 2 34,qL 36 35,oo 37 (.bi .mul 1 (.t 36) (.k (.int .u64 6364136223846793005))),qM 38 3,oo 39 (.cv (.int .u64) (.t 38)),oo 40 (.bi .add 1 (.t 37) (.t 39)),oo 41 (.bi .add 1 (.t 40) (.k (.int .u64 462197))),oo 42 (.nc (.t 32)),qF 43 2 42,on1 (.st 1 (.t 43) (.t 41))]) (.sq (.sq (.rg (some 0) [qM 44 0,oo 45 (.nc (.t 44)),qF 46 1 45,qL 47 46,qM 48 0,oo 49 (.nc (.t 48)),qF 50 0 49,qL 51 50,qN 52 51,qB 53 .leq 47 52]) (.cd (.t 53) (.sq (rg [qM 54 3,qM 2 54]) (.rt)) (.sk))) (.sq (rg [qM 55 0,oo 56 (.nc (.t 55)),qF 57 2 56,qL 58 57,oo 59 (.bi .shr 0 (.t 58) (.k (.int .u64 40))),oo 60 (.bi .and 0 (.t 59) (.k (.int .u64 255))),oo 61 (.cv (.int .i64) (.t 60)),qM 2 61]) (.rt)))))))) }
theorem VW:XE Go.Proofs.Try.prog ZQ JA=true:=by kernel_rfl
end Go.Fd

namespace Go.Fd
set_option maxRecDepth 20000
noncomputable def dc(p:Prop):Bool:=@decide p (Classical.propDecidable p)
theorem dc_iff{p:Prop}:dc p=true↔p:=by unfold dc;simp
theorem WU{p:Prop}(h:p):dc p=true:=dc_iff.2 h
theorem Ya{p:Prop}(h:¬ p):dc p=false:=by
 cases hh:dc p with
 | false=>rfl
 | true=>exact absurd (dc_iff.1 hh) h
abbrev g0(l:List Int)(i:Nat):Int:=l.getD i 0
abbrev A3:=Int×Int×Int
abbrev g3(l:List A3)(i:Nat):A3:=l.getD i (0,0,0)
end Go.Fd

namespace Go.Proofs
open Go.Shelf
def Try.lays156_ren:Go.Shelf.Ren:=⟨fun | 156=>19 | 165=>23 | 166=>24 | 169=>25 | 240=>27 | 241=>28 | 276=>29 | 277=>30 | n=>n,fun | 31=>26 | 9=>9 | 3=>3 | 4=>4 | 0=>0 | 20=>20 | 72=>49 | 76=>53 | 70=>47 | 37=>22 | 75=>52 | 127=>56 | 164=>57 | 5=>5 | 80=>38 | n=>n,fun | n=>n⟩
theorem Try.lays156:Go.Proofs.Lays.n156 Try.prog Try.lays156_ren:={
  mixed:=by kernel_rfl,
  f156:=Try.func19.trans (congrArg some (by kernel_rfl)),
  f165:=Try.func23.trans (congrArg some (by kernel_rfl)),
  f166:=Try.func24.trans (congrArg some (by kernel_rfl)),
  f169:=Try.func25.trans (congrArg some (by kernel_rfl)),
  f240:=Try.func27.trans (congrArg some (by kernel_rfl)),
  f241:=Try.func28.trans (congrArg some (by kernel_rfl)),
  f276:=Try.func29.trans (congrArg some (by kernel_rfl)),
  f277:=Try.func30.trans (congrArg some (by kernel_rfl)),
  t0:=Try.underlying0,
  a0:=Try.isAgg0,
  z0:=Try.sizeOf0,
  v0:=Try.zeroValue0,
  t3:=Try.underlying3,
  a3:=Try.isAgg3,
  z3:=Try.sizeOf3,
  v3:=Try.zeroValue3,
  t4:=Try.underlying4,
  a4:=Try.isAgg4,
  z4:=Try.sizeOf4,
  v4:=Try.zeroValue4,
  t9:=Try.underlying9,
  a9:=Try.isAgg9,
  z9:=Try.sizeOf9,
  v9:=Try.zeroValue9,
  t20:=Try.underlying20,
  a20:=Try.isAgg20,
  z20:=Try.sizeOf20,
  v20:=Try.zeroValue20,
  t31:=Try.underlying26,
  a31:=Try.isAgg26,
  z31:=Try.sizeOf26,
  v31:=Try.zeroValue26,
  t37:=Try.underlying22,
  a37:=Try.isAgg22,
  z37:=Try.sizeOf22,
  v37:=Try.zeroValue22,
  t70:=Try.underlying47,
  a70:=Try.isAgg47,
  z70:=Try.sizeOf47,
  v70:=Try.zeroValue47,
  t72:=Try.underlying49,
  a72:=Try.isAgg49,
  z72:=Try.sizeOf49,
  v72:=Try.zeroValue49,
  t75:=Try.underlying52,
  a75:=Try.isAgg52,
  z75:=Try.sizeOf52,
  v75:=Try.zeroValue52,
  t76:=Try.underlying53,
  a76:=Try.isAgg53,
  z76:=Try.sizeOf53,
  v76:=Try.zeroValue53,
  t127:=Try.underlying56,
  a127:=Try.isAgg56,
  z127:=Try.sizeOf56,
  v127:=Try.zeroValue56,
  t164:=Try.underlying57,
  a164:=Try.isAgg57,
  z164:=Try.sizeOf57,
  v164:=Try.zeroValue57 }
def Try.lays137_ren:Go.Shelf.Ren:=⟨fun | 137=>18 | 217=>22 | 266=>26 | n=>n,fun | 9=>9 | 5=>5 | 3=>3 | n=>n,fun | n=>n⟩
theorem Try.lays137:Go.Proofs.Lays.n137 Try.prog Try.lays137_ren:={
  mixed:=by kernel_rfl,
  f137:=Try.func18.trans (congrArg some (by kernel_rfl)),
  f217:=Try.func22.trans (congrArg some (by kernel_rfl)),
  f266:=Try.func26.trans (congrArg some (by kernel_rfl)),
  t3:=Try.underlying3,
  a3:=Try.isAgg3,
  z3:=Try.sizeOf3,
  v3:=Try.zeroValue3,
  t5:=Try.underlying5,
  a5:=Try.isAgg5,
  z5:=Try.sizeOf5,
  v5:=Try.zeroValue5,
  t9:=Try.underlying9,
  a9:=Try.isAgg9,
  z9:=Try.sizeOf9,
  v9:=Try.zeroValue9 }
end Go.Proofs

namespace Go.Fd
open Go.RowKit
set_option maxRecDepth 20000
def ZeY(P:Program)(f:FuncId):Bool:=match P.funcs[f]? with | some fn=>fn.body.isSome && !(fn.name == "runtime.NumGoroutine") | none=>false
theorem Us{P:Program}{f:FuncId}(h:ZeY P f=true):Vp P f:=by
 unfold ZeY at h
 split at h
 ·rename_i fn hf
  simp only[Bool.and_eq_true,Bool.not_eq_true'] at h
  exact⟨fn,hf,h.1,h.2⟩
 ·cases h
theorem DE(s:ByteArray):s.size=s.data.toList.length:=by rw[Array.length_toList];rfl
def bl(s:ByteArray):List UInt8:=s.data.toList
theorem DF(a b:ByteArray):bl (a++b)=bl a++bl b:=by simp [bl,ByteArray.data_append]
theorem Ut{a b:ByteArray}(h:bl a=bl b):a=b:=by
 cases a with | mk a=>cases b with | mk b=>exact congrArg ByteArray.mk (Array.toList_inj.1 h)
theorem ZeZ(l:List UInt8):bl ⟨l.toArray⟩=l:=by simp [bl]
theorem VB(a:ByteArray):(bl a).length=a.size:=(DE a).symm
theorem Za7:Go.Proofs.Builder.Extra Go.Proofs.Try.prog Go.Proofs.Try.lays156_ren where
 sizeBuilder:=by kernel_rfl
 liesBuilder:=by kernel_rfl
 t5:=Go.Proofs.Try.underlying5
 a5:=Go.Proofs.Try.isAgg5
 z5:=Go.Proofs.Try.sizeOf5
 v5:=Go.Proofs.Try.zeroValue5
 infoByte:=by kernel_rfl
 cellsByte:=by kernel_rfl
 sizeByte:=by kernel_rfl
 neB5:=by decide
def Jk(xs:List ByteArray)(sep:ByteArray):ByteArray:=⟨(Lib.join (xs.map fun x=>x.data.toList) sep.data.toList).toArray⟩
theorem Yb{x:ByteArray}{r:List ByteArray}{sep:ByteArray}:bl (Jk (x::r) sep)=bl x++r.flatMap fun y=>bl sep++bl y:=by
 unfold Jk
 rw[ZeZ,List.map_cons,Lib.join_cons,Lib.joinTail,List.map_map,List.flatMap_def]
 rfl
theorem ZaF(xs:List ByteArray)(sep:ByteArray)(hN:xs.length<=4294967296)(hlen:(Jk xs sep).size<=140737488355328)(lvl:Nat)(S:Sto):Sem Go.Proofs.Try.prog JM lvl [tS xs,iS sep] S (iS (Jk xs sep)) S:=by
 have hlen':(Lib.join (xs.map fun x=>x.data.toList) sep.data.toList).length<=140737488355328:=by
  rw[<-VB,Jk,ZeZ] at hlen
  exact hlen
 refine Q9 (Us (by kernel_rfl)) rfl trivial fun _ G w vs hok hv=>?_
 simp only[VRs] at hv
 obtain⟨v,vr,rfl,h1,v2,vr2,rfl,h2,rfl⟩:=hv
 have h2':Rds w (Av G S w) v2 (.v (.string sep)):=h2
 cases h2'
 have h1':Rds w (Av G S w) v (.sl (rS xs)):=h1
 generalize hes:rS xs=es at h1'
 have hnil:xs=[]->∀ a c,Calls Go.Proofs.Try.prog JM #[.slice a 0 c,.string sep] w fun e w' => ∃ v,e = .returned v/\VR G S w' (iS (Jk xs sep)) v/\Below w.heap.size w w':=by
  rintro rfl a c
  refine(Go.Proofs.Any.strings_Join_none Go.Proofs.Try.lays156 Za7 a c sep w).mono fun e w' ⟨he,hw⟩=>⟨_,he,?_,hw ▸ Below.refl _ _⟩
  exact Rds.v _ rfl
 cases h1' with
 | nil a c=>exact hnil (by cases xs with | nil=>rfl | cons x r=>cases hes) a c
 | sl b o c k _ f hA hk hl hc hr =>
  subst hes
  by_cases hx:xs=[]
  ·subst hx
   exact hnil rfl _ _
  obtain⟨x0,r0,hxs⟩:∃ x r,xs=x::r:=by
   cases xs with
   | nil=>exact absurd rfl hx
   | cons x r=>exact⟨x,r,rfl⟩
  have hk1:k=1:=(hk [ts x0] (by simp [hxs])).symm
  subst hk1
  rw[List.length_map] at hl ⊢
  refine(Go.Proofs.Any.strings_Join Go.Proofs.Try.lays156 Za7 b o c xs sep w ?_ hA.1 (by omega) hl hlen').mono fun e w' ⟨he,hw⟩=>⟨_,he,Rds.v _ rfl,hw⟩
  intro j x hj
  have e1:(rS xs)[j]? = some [ts x]:=by simp [hj]
  have e2:=hc j _ 0 _ e1 rfl
  have e3:=hr j _ 0 _ e1 rfl
  rw[show o+j*1+0=o+j by omega] at e2
  rw[e2]
  generalize f j 0=y at e3
  cases e3
  rfl
theorem QK{sep:ByteArray}:Jk [] sep=⟨#[]⟩:=rfl
theorem Wh{x sep:ByteArray}:Jk [x] sep=x:=Ut (by rw[Yb];simp)
theorem UL{x y sep:ByteArray}{r:List ByteArray}:Jk (x::r++[y]) sep=Jk (x::r) sep++sep++y:=Ut (by
 rw[List.cons_append,Yb,DF,DF,Yb,List.flatMap_append]
 simp)
theorem UM{l:List ByteArray}{sep:ByteArray}{j:Nat}(h0:0<j)(hj:j<l.length):Jk (l.take (j+1)) sep=Jk (l.take j) sep++sep++l[j]:=by
 rw[List.take_succ_eq_append_getElem hj]
 cases l with
 | nil=>simp at hj
 | cons x r =>
  obtain⟨k,rfl⟩:∃ k,j=k+1:=⟨j-1,by omega⟩
  rw[List.take_succ_cons]
  exact UL
theorem UN{l:List ByteArray}{sep:ByteArray}(hj:0<l.length):Jk (l.take 1) sep=l[0]:=by
 cases l with
 | nil=>simp at hj
 | cons x r=>exact Wh
theorem Zcj{w:ByteArray}:(⟨#[]⟩:ByteArray)++w=w:=Ut (by rw[DF];simp [bl])
end Go.Fd

namespace Go.Fd
set_option maxRecDepth 20000
theorem Zck(s:ByteArray)(a c:Nat):bl (s.extract a c)=((bl s).take c).drop a:=by
 unfold bl
 rw[ByteArray.data_extract,Array.toList_extract,List.extract_eq_take_drop,List.drop_take]
def spC(s:ByteArray)(b:UInt8):Nat->List ByteArray×Nat
 | 0=>([],0)
 | i+1=>if (bl s)[i]? = some b then ((spC s b i).1++[s.extract (spC s b i).2 i],i+1) else spC s b i
def spl(s:ByteArray)(b:UInt8):List ByteArray:=(spC s b s.size).1++[s.extract (spC s b s.size).2 s.size]
theorem Uu{s:ByteArray}{b:UInt8}:∀{i:Nat},(spC s b i).2<=i
 | 0=>Nat.le_refl 0
 | i+1=>by
  rw[spC]
  split
  ·exact Nat.le_refl _
  ·exact Nat.le_succ_of_le Uu
theorem DG{s:ByteArray}{b:UInt8}:∀{i:Nat},(spC s b i).1.length<=i
 | 0=>Nat.le_refl 0
 | i+1=>by
  rw[spC]
  have:=DG (s:=s) (b:=b) (i:=i)
  split
  ·simp;omega
  ·omega
theorem XG{s:ByteArray}{b:UInt8}:∀{i:Nat},∀ k,(spC s b i).2<=k->k<i->(bl s)[k]? ≠ some b
 | 0,k,_,h=>by omega
 | i+1,k,h1,h2=>by
  rw[spC] at h1
  split at h1
  ·simp only at h1;omega
  ·rename_i hn
   by_cases e:k=i
   ·rw[e];exact hn
   ·exact XG k h1 (by omega)
theorem DH{s:ByteArray}{b:UInt8}{a c:Nat}(h:∀ k,a<=k->k<c->(bl s)[k]? ≠ some b):b ∉ bl (s.extract a c):=by
 rw[Zck]
 intro hb
 obtain⟨k,hk⟩:=List.getElem?_of_mem hb
 rw[List.getElem?_drop,List.getElem?_take] at hk
 split at hk
 ·exact h (a+k) (by omega) (by assumption) hk
 ·cases hk
theorem QL{s:ByteArray}{b:UInt8}:∀{i:Nat},∀ p∈(spC s b i).1,b ∉ bl p
 | 0,p,h=>by simp [spC] at h
 | i+1,p,h=>by
  rw[spC] at h
  split at h
  ·rcases List.mem_append.1 h with h | h
   ·exact QL p h
   ·rw[List.mem_singleton] at h
    subst h
    exact DH fun k h1 h2=>XG k h1 h2
  ·exact QL p h
theorem Uv{s:ByteArray}{b:UInt8}:∀{i:Nat},i<=s.size->((spC s b i).1.flatMap fun p=>bl p++[b])=(bl s).take (spC s b i).2
 | 0,_=>by simp [spC]
 | i+1,hi=>by
  have ih:=Uv (s:=s) (b:=b) (i:=i) (by omega)
  have hl:=Uu (s:=s) (b:=b) (i:=i)
  rw[spC]
  split
  ·rename_i hb
   simp only[List.flatMap_append,List.flatMap_cons,List.flatMap_nil,List.append_nil,ih,Zck]
   have hlt:i<(bl s).length:=by rw[VB];omega
   rw[List.getElem?_eq_getElem hlt] at hb
   rw[List.take_succ_eq_append_getElem hlt,Option.some.inj hb,<-List.append_assoc]
   congr 1
   generalize (spC s b i).2=f at hl
   have:(bl s).take f=((bl s).take i).take f:=by rw[List.take_take];congr 1;omega
   rw[this,List.take_append_drop]
  ·exact ih
theorem Wi{sep y:ByteArray}:∀{xs:List ByteArray},bl (Jk (xs++[y]) sep)=(xs.flatMap fun p=>bl p++bl sep)++bl y
 | []=>by rw[List.nil_append,Yb];simp
 | x::r=>by
  have ih:=Wi (sep:=sep) (y:=y) (xs:=r)
  rw[List.cons_append,Yb]
  cases r with
  | nil=>simp
  | cons z r =>
   rw[List.cons_append,Yb] at ih
   rw[List.cons_append,List.flatMap_cons,List.flatMap_cons]
   simp only[List.append_assoc] at ih ⊢
   rw[ih]
theorem XH{s sep:ByteArray}{b:UInt8}(hb:bl sep=[b]):Jk (spl s b) sep=s:=Ut (by
 have h1:=Uv (s:=s) (b:=b) (Nat.le_refl s.size)
 have h2:=Uu (s:=s) (b:=b) (i:=s.size)
 unfold spl
 rw[Wi,hb,h1,Zck]
 generalize (spC s b s.size).2=f at h2
 have:(bl s).take s.size=bl s:=List.take_of_length_le (by rw[VB];exact Nat.le_refl _)
 rw[this,List.take_append_drop])
theorem ZaG{s:ByteArray}{b:UInt8}:∀ p∈spl s b,b ∉ bl p:=fun p hp=>by
 unfold spl at hp
 rcases List.mem_append.1 hp with h | h
 ·exact QL p h
 ·rw[List.mem_singleton] at h
  subst h
  exact DH fun k h1 h2=>XG k h1 h2
theorem Za8{s:ByteArray}{b:UInt8}:spl s b≠[]:=by simp [spl]
def Y9(l:List ByteArray):Nat:=(l.map fun x=>x.size).sum
theorem Wj{l:List ByteArray}{j:Nat}(h:j<l.length):Y9 (l.take (j+1))=Y9 (l.take j)+l[j].size:=by
 unfold Y9
 rw[List.take_succ_eq_append_getElem h,List.map_append,List.sum_append]
 simp
theorem XI{l:List ByteArray}{j:Nat}:Y9 (l.take j)<=Y9 l:=by
 have:l=l.take j++l.drop j:=(List.take_append_drop ..).symm
 conv=>rhs;rw[this]
 unfold Y9
 rw[List.map_append,List.sum_append]
 omega
theorem YX{sep:ByteArray}(hs:sep.size=1):∀{l:List ByteArray},l≠[]->(Jk l sep).size+1=Y9 l+l.length
 | [],h=>absurd rfl h
 | [x],_=>by rw[Wh];simp [Y9]
 | x::y::r,_=>by
  have ih:=YX hs (l:=y::r) (by simp)
  have e:bl (Jk (x::y::r) sep)=bl x++bl sep++bl (Jk (y::r) sep):=by
   rw[Yb,Yb,List.flatMap_cons]
   simp
  have e2:=congrArg List.length e
  simp only[List.length_append,VB] at e2
  have e3:Y9 (x::y::r)=x.size+Y9 (y::r):=by simp [Y9]
  rw[e3,List.length_cons]
  omega
structure joinOK (l:List ByteArray) (sep:ByteArray):Prop where
 one:sep.size=1
 ne:l≠[]
 free:∀ p∈l,∀ b∈bl sep,b ∉ bl p
 size:(Jk l sep).size<=4000
open Classical in
noncomputable def VC(l:List ByteArray)(sep:ByteArray):ByteArray:=if joinOK l sep then Jk l sep else ⟨#[]⟩
noncomputable def Yo(l:List ByteArray)(sep:ByteArray):Bool:=dc (joinOK l sep)
theorem Ze0{s sep:ByteArray}{b:UInt8}(hb:bl sep=[b])(hs:s.size<=4000):joinOK (spl s b) sep :=
 ⟨by rw[<-VB,hb];rfl,Za8,fun p hp c hc=>by
  rw[hb,List.mem_singleton] at hc
  subst hc
  exact ZaG p hp,by rw[XH hb];exact hs⟩
theorem Wl:∀{a b:List UInt8},Op.bytesLess a b=true->Op.bytesLess b a=false
 | [],[],h=>by simp [Op.bytesLess] at h
 | [],y::s,_=>by simp [Op.bytesLess]
 | x::r,[],h=>by simp [Op.bytesLess] at h
 | x::r,y::s,h=>by
  have ih:=Wl (a:=r) (b:=s)
  unfold Op.bytesLess at h ⊢
  simp only[Bool.or_eq_true,decide_eq_true_eq,Bool.and_eq_true,beq_iff_eq,UInt8.lt_iff_toNat_lt] at h
  rw[Bool.eq_false_iff]
  intro g
  simp only[Bool.or_eq_true,decide_eq_true_eq,Bool.and_eq_true,beq_iff_eq,UInt8.lt_iff_toNat_lt] at g
  rcases h with h | ⟨h1,h2⟩ <;> rcases g with g | ⟨g1,g2⟩
  ·omega
  ·rw[g1] at h;omega
  ·rw[h1] at g;omega
  ·rw[ih h2] at g2;cases g2
end Go.Fd

namespace Go.Fd
set_option maxRecDepth 20000
structure Cur where
 code:List Int
 pos:Nat
 seed:Int
abbrev rU(l:List Int):Row:=l.map fun n=>[Tr.v (.int .u8 n)]
def XJ(c:Cur):List IV:=[.tr (.sl (rU c.code)),iI c.pos,.tr (.v (.int .u64 c.seed))]
def nxB(c:Cur):Int:=if c.pos<c.code.length then c.code.getD c.pos 0 else 0
def nxS(c:Cur):Int:=IntKind.u64.wrap (IntKind.u64.wrap (IntKind.u64.wrap (c.seed*6364136223846793005)+nxB c)+462197)
def nxL(s:Int):Int:=IntKind.u64.wrap ((BitVec.ofInt IntKind.u64.bits (s.fdiv (2 ^ min (40:Int).toNat IntKind.u64.bits)) &&& BitVec.ofInt IntKind.u64.bits 255).toNat:Int)
def nxV(c:Cur):Int:=if c.pos+1<=c.code.length then nxB c else nxL (nxS c)
def nxC(c:Cur):Cur:=⟨c.code,c.pos+1,nxS c⟩
structure curOK (n:Nat) (c:Cur):Prop where
 byt:∀ x∈c.code,0<=x/\x<=255
 len:c.code.length<=65536
 pos:c.pos<=n
theorem DI{n:Nat}{c:Cur}(h:curOK n c):0<=nxB c/\nxB c<=255:=by
 unfold nxB
 split
 ·rename_i hl
  have e:c.code.getD c.pos 0=c.code[c.pos]:=by simp [hl]
  rw[e]
  exact h.byt _ (List.getElem_mem hl)
 ·omega
theorem DJ(s:Int):0<=nxL s/\nxL s<=255:=by
 unfold nxL
 have h1:(BitVec.ofInt IntKind.u64.bits (s.fdiv (2 ^ min (40:Int).toNat IntKind.u64.bits)) &&& BitVec.ofInt IntKind.u64.bits 255).toNat<=255:=by
  rw[BitVec.toNat_and]
  exact Nat.le_trans Nat.and_le_right (by decide)
 rw[IntKind.wrap_u64]
 omega
theorem DK{n:Nat}{c:Cur}(h:curOK n c):0<=nxV c/\nxV c<=255:=by
 unfold nxV
 split
 ·exact DI h
 ·exact DJ _
theorem Wm{n:Nat}{c:Cur}(h:curOK n c):curOK (n+1) (nxC c):=⟨h.byt,h.len,Nat.succ_le_succ h.pos⟩
theorem Uw{n m:Nat}{c:Cur}(hnm:n<=m)(h:curOK n c):curOK m c:=⟨h.byt,h.len,Nat.le_trans h.pos hnm⟩
def pkV(n:Int)(c:Cur):Int:=if n<=1 then 0 else if n > 200 then (nxV c*256+nxV (nxC c)) % n else nxV c % n
def pkC(n:Int)(c:Cur):Cur:=if n<=1 then c else if n > 200 then nxC (nxC c) else nxC c
theorem UO{n:Nat}{m:Int}{c:Cur}(h:curOK n c):curOK (n+2) (pkC m c):=by
 unfold pkC
 split
 ·exact Uw (by omega) h
 ·split
  ·exact Wm (Wm h)
  ·exact Uw (by omega) (Wm h)
theorem VX{n:Nat}{m:Int}{c:Cur}(h:curOK n c)(hm:1<=m):0<=pkV m c/\pkV m c<m:=by
 unfold pkV
 split
 ·omega
 ·split
  ·exact⟨Int.emod_nonneg _ (by omega),Int.emod_lt_of_pos _ (by omega)⟩
  ·exact⟨Int.emod_nonneg _ (by omega),Int.emod_lt_of_pos _ (by omega)⟩
theorem VY{S:Sto}{id:Oid}{o1 o2:Ob}:Zn (Zn S id o1) id o2=Zn S id o2:=by
 funext i
 unfold Zn
 split <;> rfl
theorem XK{S:Sto}{id:Oid}{o:Ob}:Zn S id o id=some o:=if_pos rfl
theorem Wn{lvl:Nat}{loc:List (Nat×Ob)}{out:Sto}{id:Oid}{o:Ob}(h:id.1≠lvl):Zj lvl loc (Zn out id o)=Zn (Zj lvl loc out) id o:=by
 funext i
 unfold Zj Zn
 by_cases e:i=id
 ·subst e
  rw[if_neg h,if_pos rfl,if_pos rfl]
 ·rw[if_neg e,if_neg e]
theorem XL{C:Za}{lvl:Nat}{env:List (Nat×IV)}{loc:List (Nat×Ob)}{out:Sto}{d:Option Nat}{K:St->Prop}{fid:FuncId}{imp:Bool}{args:List IV}{id:Oid}(ob':Ob)(r:IV)(hne:id.1≠lvl)
  (h:C fid (lvl+1) args (Zj lvl loc out) r (Zn (Zj lvl loc out) id ob'))
  (hk:freshK (keyOf d) loc (impv imp lvl (keyOf d) 0 r).2.length/\K ⟨lvl,ptd d (impv imp lvl (keyOf d) 0 r).1 env,addO (keyOf d) (impv imp lvl (keyOf d) 0 r).2 loc,Zn out id ob'⟩) :
  kcy C fid imp lvl env loc out d K args :=
 QE loc (Zn out id ob') (fun i hi=>if_neg fun e=>hne (by rw[<-e];exact hi)) (by rw[Wn hne];exact h) hk
theorem JD{C:Za}{env:List (Nat×IV)}{loc:List (Nat×Ob)}{out:Sto}{d:Option Nat}{K:St->Prop}{fid:FuncId}{imp:Bool}{lvl:Nat}{args:List IV}{r:IV}(key:Nat)(o:Ob)(h:C fid (lvl+1) args (Zj lvl loc out) r (Zn (Zj lvl loc out) (lvl,key) o))
  (hk:freshK (keyOf d) (ptO key o loc) (impv imp lvl (keyOf d) 0 r).2.length/\K ⟨lvl,ptd d (impv imp lvl (keyOf d) 0 r).1 env,addO (keyOf d) (impv imp lvl (keyOf d) 0 r).2 (ptO key o loc),out⟩):kcy C fid imp lvl env loc out d K args :=
 QE (ptO key o loc) out (fun _ _=>rfl) (by rw[DD];exact h) hk
end Go.Fd

namespace Go.Fd
set_option maxRecDepth 20000
theorem Ux{n:Int}:V0 .u64 n↔0<=n/\n<=18446744073709551615:=by
 unfold V0
 simp [IntKind.min,IntKind.max,IntKind.signed,IntKind.bits]
theorem Ze1{l:List Int}{j:Nat}(h:j<l.length):(rU l)[j]? = some [Tr.v (.int .u8 (l.getD j 0))]:=by simp [h]
theorem Uy(id:Oid)(c:Cur){n:Nat}(hc:curOK n c)(hn:n<=100000)(lvl:Nat)(S:Sto)(hid:id.1<lvl)(hS:S id=some (.bx (XJ c))):Sem Go.Proofs.Try.prog ZQ lvl [.ab id 0] S (iI (nxV c)) (Zn S id (.bx (XJ (nxC c)))):=by
 have hne:id.1≠lvl:=by omega
 have hb:=DI hc
 have hL:=DJ (nxS c)
 have h1:=hc.pos
 have h2:=hc.len
 unfold XJ at hS
 refine Zr VW trivial ?_
 by_cases hp:c.pos<c.code.length
 ·have e1:=eq_true (show (c.pos:Int)<c.code.length by omega)
  have e2:=eq_true (show (c.pos:Int)+1<=c.code.length by omega)
  have ga:=Ze1 hp
  have hB:c.code.getD c.pos 0=nxB c:=by unfold nxB;rw[if_pos hp]
  rw[hB] at ga
  have hV:nxV c=nxB c:=by unfold nxV;rw[if_pos (by omega)]
  rw[hV]
  simp only[JA,J4 hne,Up hne,XK,VY,hS,e1,e2,ga,Int.toNat_natCast,List.length_map,List.set_cons_succ,List.set_cons_zero,EVA,seval,Zk,men]
  exact⟨by rw[ZF];omega,by rw[ZF];omega,by rw[Ux];omega,rfl⟩
 ·have e1:=eq_false (show ¬ (c.pos:Int)<c.code.length by omega)
  have e2:=eq_false (show ¬ (c.pos:Int)+1<=c.code.length by omega)
  have hB:nxB c=0:=by unfold nxB;rw[if_neg hp]
  have hV:nxV c=nxL (nxS c):=by unfold nxV;rw[if_neg (by omega)]
  rw[hV]
  simp only[JA,J4 hne,Up hne,XK,VY,hS,e1,e2,Int.toNat_natCast,List.length_map,List.set_cons_succ,List.set_cons_zero,EVA,seval,Zk,men]
  have hS2:IntKind.u64.wrap (IntKind.u64.wrap (IntKind.u64.wrap (c.seed*6364136223846793005)+0)+462197)=nxS c:=by unfold nxS;rw[hB]
  rw[hS2]
  exact⟨by rw[ZF];omega,by rw[Ux];omega,by show V0 .i64 (nxL (nxS c));rw[ZF];omega,rfl,rfl⟩
theorem Qg(id:Oid)(c:Cur){n:Nat}(hc:curOK n c)(hn:n<=10000)(m:Int)(hm:m<=1000000)(lvl:Nat)(S:Sto)(hid:id.1<lvl)(hS:S id=some (.bx (XJ c))):Sem Go.Proofs.Try.prog Zt lvl [.ab id 0,iI m] S (iI (pkV m c)) (Zn S id (.bx (XJ (pkC m c)))):=by
 have hne:id.1≠lvl:=by omega
 have hv:=DK hc
 have hv2:=DK (Wm hc)
 refine Zr VV trivial ?_
 unfold pkV pkC
 by_cases h1:m<=1
 ·rw[if_pos h1,if_pos h1,DC hS]
  simp only[Jz,h1,EVA,seval,Zk,men]
 rw[if_neg h1,if_neg h1]
 have q1:=Uy id c hc (by omega) (lvl+1) (Zj lvl [] S) (by omega) (by rw[J4 hne];exact hS)
 simp only[Jz,h1,EVA,seval,Zk,men]
 refine XL _ _ hne q1 ?_
 by_cases h2:m > 200
 ·rw[if_pos h2,if_pos h2]
  have h2':=eq_true (show (200:Int)<m from h2)
  simp only[h2',EVA,seval,Zk,men]
  refine⟨by rw[ZF];omega,?_⟩
  have q2:=Uy id (nxC c) (Wm hc) (by omega) (lvl+1) (Zj lvl [] (Zn S id (.bx (XJ (nxC c))))) (by omega) (by rw[J4 hne];exact XK)
  rw[<-Wn hne,VY] at q2
  refine QE [] (Zn S id (.bx (XJ (nxC (nxC c))))) (fun i hi=>?_) q2 ?_
  ·rw[show Zn S id (.bx (XJ (nxC (nxC c)))) i=S i from if_neg fun e=>hne (by rw[<-e];exact hi)]
   exact(if_neg fun e=>hne (by rw[<-e];exact hi)).symm
  simp only[EVA,seval,Zk,men]
  exact⟨by rw[ZF];omega,by omega,by omega⟩
 ·rw[if_neg h2,if_neg h2]
  have h2':=eq_false (show ¬ (200:Int)<m from h2)
  simp only[h2',EVA,seval,Zk,men]
  omega
theorem Zcl(id:Oid)(c:Cur){n:Nat}(hc:curOK n c)(hn:n<=10000)(m:Int)(hm:m<=1000000)(lvl:Nat)(S:Sto)(hid:id.1<lvl)(hS:S id=some (.bx (XJ c))):Sem Go.Proofs.Try.prog Jt lvl [.ab id 0,iI m] S (iB (decide (pkV m c=0))) (Zn S id (.bx (XJ (pkC m c)))):=by
 have hne:id.1≠lvl:=by omega
 refine Zr V7 trivial ?_
 have q:=Qg id c hc hn m hm (lvl+1) (Zj lvl [] S) (by omega) (by rw[J4 hne];exact hS)
 simp only[YG,EVA,seval,Zk,men]
 refine XL _ _ hne q ?_
 simp only[EVA,seval,Zk,men]
 try rfl
def pkS(l:List ByteArray)(c:Cur):ByteArray:=l.getD (pkV l.length c).toNat ⟨#[]⟩
theorem WV{l:List ByteArray}{c:Cur}{n:Nat}(hc:curOK n c)(hl:0<l.length):pkS l c∈l:=by
 have:=VX (m:=l.length) hc (by omega)
 unfold pkS
 have h:(pkV l.length c).toNat<l.length:=by omega
 rw[show l.getD (pkV l.length c).toNat ⟨#[]⟩=l[(pkV l.length c).toNat] by simp [h]]
 exact List.getElem_mem h
theorem Uz(id id2:Oid)(c:Cur){n:Nat}(hc:curOK n c)(hn:n<=10000)(l:List ByteArray)(u:Bool)(ver:Nat)(hl:0<l.length/\l.length<=1000)(lvl:Nat)(S:Sto)(hid:id.1<lvl)(hid2:id2.1<lvl)(h12:id2≠id)(hS:S id=some (.bx (XJ c)))(hS2:S id2=some (.ar 1 (rS l) u l.length ver)) :
  Sem Go.Proofs.Try.prog ZJ lvl [.ab id 0,.hd id2 [] 0 l.length none l.length] S (iS (pkS l c)) (Zn S id (.bx (XJ (pkC l.length c)))):=by
 have hne:id.1≠lvl:=by omega
 have hne2:id2.1≠lvl:=by omega
 refine Zr QI trivial ?_
 have q:=Qg id c hc hn l.length (by omega) (lvl+1) (Zj lvl [] S) (by omega) (by rw[J4 hne];exact hS)
 have hr:=VX (m:=l.length) hc (by omega)
 obtain⟨k,hk⟩:∃ k:Nat,pkV l.length c=k:=⟨(pkV l.length c).toNat,by omega⟩
 have hkl:k<l.length:=by omega
 have ga:(rS l)[k]? = some [ts (pkS l c)]:=by
  unfold pkS
  rw[hk,Int.toNat_natCast]
  simp [hkl]
 simp only[YV,J4 hne,J4 hne2,hS2,EVA,seval,Zk,men]
 refine XL _ _ hne q ?_
 have hg:Zn S id (.bx (XJ (pkC l.length c))) id2=some (.ar 1 (rS l) u l.length ver):=by
  unfold Zn
  rw[if_neg h12];exact hS2
 simp only[J4 hne,J4 hne2,hg,hk,ga,hkl,Int.toNat_natCast,Nat.zero_add,EVA,seval,Zk,men]
 try rfl
def ANYS:List ByteArray:=[⟨#[]⟩,⟨#[97]⟩,⟨#[97,44,98]⟩,⟨#[115,111,109,101,32,119,111,114,100,115]⟩,⟨#[120,35,121]⟩,⟨#[45,49,50]⟩,⟨#[0,255]⟩,⟨#[44,44]⟩,⟨#[48]⟩]
theorem Wo:∀ x∈ANYS,x.size<=10:=by decide +kernel
def anC(c:Cur):Cur:=pkC 9 c
theorem Qh(id:Oid)(c:Cur){n:Nat}(hc:curOK n c)(hn:n<=10000)(lvl:Nat)(S:Sto)(hid:id.1<lvl)(hS:S id=some (.bx (XJ c))) :
  Sem Go.Proofs.Try.prog Zs lvl [.ab id 0] S (iS (pkS ANYS c)) (Zn S id (.bx (XJ (anC c)))):=by
 have hne:id.1≠lvl:=by omega
 refine Zr VU trivial ?_
 have q:=fun loc (hl:lkO 128 loc=some (.ar 1 (rS ANYS) true ANYS.length 0))=>Uz id (lvl,128) c hc hn ANYS true 0 (by decide) (lvl+1) (Zj lvl loc S) (by omega) (Nat.lt_succ_self _) (fun e=>hne (by rw[<-e])) (by rw[J4 hne];exact hS) (by rw[ZE];exact hl)
 simp only[Yn,List.replicate_succ,List.replicate_zero,List.set_cons_succ,List.set_cons_zero,List.length_cons,List.length_nil,EVA,seval,Zk,men]
 refine XL _ _ hne (q _ rfl) ?_
 simp only[EVA,seval,Zk,men]
 try rfl
end Go.Fd

namespace Go.Fd
set_option maxRecDepth 20000
def c0(code:List Int):Cur:=⟨code,0,0⟩
theorem ZaH{a b:List ByteArray}:rS (a++b)=rS a++rS b:=List.map_append
theorem Ze2{l:Nat}{js:List Nat}{c:Cur}:UD l js (XJ c)=True:=eq_true ⟨trivial,trivial,trivial,trivial⟩
theorem UP{code:List Int}(h:∀ x∈code,0<=x/\x<=255)(hl:code.length<=65536):curOK 0 (c0 code):=⟨h,hl,Nat.le_refl _⟩
theorem ZaI{n:Nat}{c:Cur}(h:curOK n c):curOK (n+2) (anC c):=UO h
def ZiZ:List ByteArray:=[⟨#[44]⟩,⟨#[44]⟩,⟨#[32]⟩,⟨#[]⟩,⟨#[44,44]⟩]
def Ze3:List ByteArray:=[⟨#[44]⟩,⟨#[59]⟩,⟨#[59]⟩,⟨#[]⟩,⟨#[97,98]⟩]
def dsS(code:List Int):ByteArray:=pkS ANYS (c0 code)
def dsP(code:List Int):ByteArray:=pkS ZiZ (anC (c0 code))
theorem XM(code:List Int)(hb:∀ x∈code,0<=x/\x<=255)(hl:code.length<=65536)(lvl:Nat)(S:Sto):Sem Go.Proofs.Try.prog ZH lvl [.tr (.sl (rU code))] S (.tu [iS (dsS code),iS (dsP code)]) S:=by
 have hc:=UP hb hl
 refine Zr YH (by simp [low,men,Zk]) ?_
 simp only[Ju,EVA,seval,Zk,men]
 refine JD 256 _ (Qh (lvl,256) (c0 code) hc (by omega) _ _ (Nat.lt_succ_self _) (by rw[ZE];rfl)) ?_
 simp only[List.replicate_succ,List.replicate_zero,List.set_cons_succ,List.set_cons_zero,List.length_cons,List.length_nil,EVA,seval,Zk,men]
 refine JD 256 _ (Uz (lvl,256) (lvl,416) (anC (c0 code)) (ZaI hc) (by omega) ZiZ true 0 (by decide) _ _ (Nat.lt_succ_self _) (Nat.lt_succ_self _) (by simp) (by rw[ZE];rfl) (by rw[ZE];rfl)) ?_
 simp only[EVA,seval,Zk,men]
 try rfl
def dlA(code:List Int):ByteArray:=pkS ANYS (c0 code)
def dlB(code:List Int):ByteArray:=pkS ANYS (anC (c0 code))
theorem Wp(code:List Int)(hb:∀ x∈code,0<=x/\x<=255)(hl:code.length<=65536)(lvl:Nat)(S:Sto):Sem Go.Proofs.Try.prog ZP lvl [.tr (.sl (rU code))] S (.tu [iS (dlA code),iS (dlB code)]) S:=by
 have hc:=UP hb hl
 refine Zr YU (by simp [low,men,Zk]) ?_
 simp only[JH,EVA,seval,Zk,men]
 refine JD 256 _ (Qh (lvl,256) (c0 code) hc (by omega) _ _ (Nat.lt_succ_self _) (by rw[ZE];rfl)) ?_
 simp only[EVA,seval,Zk,men]
 refine JD 256 _ (Qh (lvl,256) (anC (c0 code)) (ZaI hc) (by omega) _ _ (Nat.lt_succ_self _) (by rw[ZE];rfl)) ?_
 simp only[EVA,seval,Zk,men]
 try rfl
def djC(c:Cur):Nat->Cur
 | 0=>c
 | j+1=>anC (djC c j)
def djL(c:Cur):Nat->List ByteArray
 | 0=>[]
 | j+1=>djL c j++[pkS ANYS (djC c j)]
theorem XN{c:Cur}:∀{j:Nat},(djL c j).length=j
 | 0=>rfl
 | j+1=>by rw[djL,List.length_append,XN];rfl
theorem Wq{n:Nat}{c:Cur}(h:curOK n c):∀{j:Nat},curOK (n+2*j) (djC c j)
 | 0=>h
 | j+1=>ZaI (Wq h (j:=j))
def DL(m:Nat):ByteArray:=⟨(List.replicate m (0:UInt8)).toArray⟩
theorem ZaJ{m:Nat}:byR (List.replicate m [Tr.v (.int .u8 0)])=some (List.replicate m 0):=by
 induction m with
 | zero=>rfl
 | succ m ih =>
  rw[List.replicate_succ,List.replicate_succ]
  simp only[byR,ih]
  rfl
def jc1(code:List Int):Cur:=djC (pkC 4 (c0 code)) (pkV 4 (c0 code)).toNat
def jl1(code:List Int):List ByteArray:=djL (pkC 4 (c0 code)) (pkV 4 (c0 code)).toNat
def Zfd(code:List Int):Bool:=decide (pkV 20 (jc1 code)=0)
def jc2(code:List Int):Cur:=pkC 20 (jc1 code)
def jL(code:List Int):List ByteArray:=if Zfd code then jl1 code++[DL (3990+pkV 20 (jc2 code)).toNat] else jl1 code
def jc3(code:List Int):Cur:=if Zfd code then pkC 20 (jc2 code) else jc2 code
def jP(code:List Int):ByteArray:=pkS Ze3 (jc3 code)
theorem Wr(code:List Int)(hb:∀ x∈code,0<=x/\x<=255)(hl:code.length<=65536)(lvl:Nat)(S:Sto):Sem Go.Proofs.Try.prog ZI lvl [.tr (.sl (rU code))] S (.tu [.ow 1 (rS (jL code)) true,iS (jP code)]) S:=by
 have hc:=UP hb hl
 refine Zr YI (by simp [low,men,Zk]) ?_
 simp only[Jv,EVA,seval,Zk,men]
 refine JD 320 _ (Qg (lvl,320) (c0 code) hc (by omega) 4 (by omega) _ _ (Nat.lt_succ_self _) (by rw[ZE];rfl)) ?_
 have hr:=VX (m:=4) hc (by omega)
 obtain⟨N,hN⟩:∃ N:Nat,pkV 4 (c0 code)=N:=⟨(pkV 4 (c0 code)).toNat,by omega⟩
 have hN2:(pkV 4 (c0 code)).toNat=N:=by omega
 have h1:curOK 2 (pkC 4 (c0 code)):=UO hc
 rw[hN]
 simp only[EVA,seval,Zk,men]
 refine Wg (α:=Unit) N (fun j _=>[(5,.hd (lvl,352) [] 0 j none j),(7,iI j)]) (fun j _=>[(320,.bx (XJ (djC (pkC 4 (c0 code)) j))),(352,.ar 1 (rS (djL (pkC 4 (c0 code)) j)) true j 0)]) (fun _ _=>True) () (by simp only[XJ,EVA,seval,Zk,men]) (by (simp only[djC,djL,XJ,EVA,seval,Zk,men]) <;> rfl) trivial ?_
 intro j _ hj _
 simp only[EVA,seval,Zk,men]
 refine QH (fun hlt=>?_) (fun hge=>?_)
 ·have hja:j<N:=by omega
  refine JD 320 _ (Qh (lvl,320) (djC (pkC 4 (c0 code)) j) (Wq h1) (by omega) _ _ (Nat.lt_succ_self _) (by rw[ZE];rfl)) ?_
  have hmx:max j (j+1)=j+1:=by omega
  have hs:rS (djL (pkC 4 (c0 code)) j)++[[ts (pkS ANYS (djC (pkC 4 (c0 code)) j))]]=rS (djL (pkC 4 (c0 code)) (j+1)):=by
   rw[djL,ZaH]
   rfl
  simp only[XN,hmx,hs,Ze2,List.length_map,EVA,seval,Zk,men]
  exact⟨by omega,by rw[ZF];omega,Jx () hja rfl trivial⟩
 ·have hj1:j=N:=by omega
  subst hj1
  have hjc:djC (pkC 4 (c0 code)) j=jc1 code:=by unfold jc1;rw[hN2]
  have hjl:djL (pkC 4 (c0 code)) j=jl1 code:=by unfold jl1;rw[hN2]
  have hX:=Wq h1 (j:=j)
  have hll:(jl1 code).length=j:=by rw[<-hjl];exact XN
  rw[hjc] at hX
  rw[hjc,hjl]
  refine JD 320 _ (Zcl (lvl,320) (jc1 code) hX (by omega) 20 (by omega) _ _ (Nat.lt_succ_self _) (by rw[ZE];rfl)) ?_
  have hX2:curOK (2+2*j+2) (jc2 code):=UO hX
  have hc2:pkC 20 (jc1 code)=jc2 code:=rfl
  rw[hc2]
  cases hd:decide (pkV 20 (jc1 code)=0)
  ·have hbig:Zfd code=false:=hd
   have e1:jL code=jl1 code:=by unfold jL;rw[hbig];rfl
   have e2:jc3 code=jc2 code:=by unfold jc3;rw[hbig];rfl
   rw[e1,show jP code=pkS Ze3 (jc2 code) by unfold jP;rw[e2]]
   simp only[List.replicate_succ,List.replicate_zero,List.set_cons_succ,List.set_cons_zero,List.length_cons,List.length_nil,EVA,seval,Zk,men]
   refine JD 320 _ (Uz (lvl,320) (lvl,1152) (jc2 code) hX2 (by omega) Ze3 true 0 (by decide) _ _ (Nat.lt_succ_self _) (Nat.lt_succ_self _) (by simp) (by rw[ZE];rfl) (by rw[ZE];rfl)) ?_
   simp only[hll,List.length_map,EVA,seval,Zk,men]
   try rfl
  ·have hbig:Zfd code=true:=hd
   have e2:jc3 code=pkC 20 (jc2 code):=by unfold jc3;rw[hbig];rfl
   simp only[List.replicate_succ,List.replicate_zero,List.set_cons_succ,List.set_cons_zero,List.length_cons,List.length_nil,EVA,seval,Zk,men]
   refine JD 320 _ (Qg (lvl,320) (jc2 code) hX2 (by omega) 20 (by omega) _ _ (Nat.lt_succ_self _) (by rw[ZE];rfl)) ?_
   rw[show jP code=pkS Ze3 (pkC 20 (jc2 code)) by unfold jP;rw[e2]]
   have hr2:=VX (m:=20) hX2 (by omega)
   have hz:byR (cut (List.replicate (3990+pkV 20 (jc2 code)).toNat [Tr.v (Value.int IntKind.u8 0)]) 0 (3990+pkV 20 (jc2 code)).toNat)=some (List.replicate (3990+pkV 20 (jc2 code)).toNat 0):=by
    unfold cut
    rw[List.drop_zero,List.take_of_length_le (by simp),ZaJ]
   have hmx:max j (j+1)=j+1:=by omega
   have e1:rS (jl1 code)++[[ts (DL (3990+pkV 20 (jc2 code)).toNat)]]=rS (jL code):=by
    unfold jL
    rw[hbig,if_pos rfl,ZaH]
    rfl
   have hz2:Tr.v (Value.string ⟨(List.replicate (3990+pkV 20 (jc2 code)).toNat (0:UInt8)).toArray⟩)=ts (DL (3990+pkV 20 (jc2 code)).toNat):=rfl
   have hlen:(jL code).length=j+1:=by
    unfold jL
    rw[hbig,if_pos rfl,List.length_append,hll]
    rfl
   simp only[hll,hz,hz2,hmx,e1,List.replicate_succ,List.replicate_zero,List.set_cons_succ,List.set_cons_zero,List.length_cons,List.length_nil,List.length_map,EVA,seval,Zk,men]
   refine⟨by rw[ZF];omega,by omega,by omega,by omega,?_⟩
   refine JD 320 _ (Uz (lvl,320) (lvl,1152) (pkC 20 (jc2 code)) (UO hX2) (by omega) Ze3 true 0 (by decide) _ _ (Nat.lt_succ_self _) (Nat.lt_succ_self _) (by simp) (by rw[ZE];rfl) (by rw[ZE];rfl)) ?_
   simp only[hlen,List.length_map,EVA,seval,Zk,men]
   try rfl
end Go.Fd

namespace Go.Fd
open Go.RowKit
set_option maxRecDepth 20000
abbrev iU(b:UInt8):IV:=.tr (.v (.int .u8 b.toNat))
theorem u8_inj{a b:UInt8}:((a.toNat:Int)=b.toNat)↔a=b:=by
 constructor
 ·intro h
  exact UInt8.toNat_inj.1 (by omega)
 ·intro h
  rw[h]
theorem XO(s:ByteArray)(b:UInt8)(lvl:Nat)(S:Sto):Sem Go.Proofs.Try.prog JG lvl [iS s,iU b] S (iI (Lib.indexByte s.data.toList b)) S :=
 WT (xs:=[.string s,.int .u8 b.toNat]) (Us (by kernel_rfl)) rfl (fun w=>(Go.Proofs.Any.strings_IndexByte Go.Proofs.Try.lays137 s b.toNat w).mono fun e w' ⟨h,h'⟩=>⟨by rw[h,Int.toNat_natCast];simp,h' ▸ Below.refl _ _⟩)
theorem index_mem{l:List UInt8}{b:UInt8}:0<=Lib.indexByte l b↔b∈l:=by
 constructor
 ·intro h
  obtain⟨o,ho⟩:=Int.eq_ofNat_of_zero_le h
  exact List.mem_of_getElem? (Lib.indexByte_some ho).1
 ·intro h
  have h1:=Lib.indexByte_ge l b
  by_cases h2:Lib.indexByte l b = -1
  ·obtain⟨k,hk⟩:=List.getElem?_of_mem h
   exact absurd hk (Lib.indexByte_none h2 k)
  ·omega
theorem Ws(s:ByteArray)(b:UInt8)(hs:s.size<=1000000000)(lvl:Nat)(S:Sto):Sem Go.Proofs.Try.prog Jy lvl [iS s,iU b] S (iB (decide (b∈bl s))) S:=by
 refine Zr QJ trivial ?_
 simp only[YW,EVA,seval,Zk,men]
 refine Wg (α:=Unit) s.size (fun j _=>[(5,iI j)]) (fun _ _=>[]) (fun j _=>∀ k,k<j->(bl s)[k]? ≠ some b) () (by simp only[EVA,seval,Zk,men]) (by (simp only[EVA,seval,Zk,men]) <;> rfl) (fun k hk=>absurd hk (Nat.not_lt_zero k)) ?_
 intro j _ hj hA
 simp only[EVA,seval,Zk,men]
 refine QH (fun hlt=>?_) (fun hge=>?_)
 ·have hja:j<s.size:=by omega
  have hjl:j<(bl s).length:=by rw[VB];exact hja
  have gb:s.data.toList[j]? = some (bl s)[j]:=List.getElem?_eq_getElem hjl
  simp only[gb,Int.toNat_natCast,EVA,seval,Zk,men]
  refine QH (fun he=>?_) (fun hne=>?_)
  ·have hm:b∈bl s:=by
    rw[<-u8_inj.1 he]
    exact List.getElem_mem hjl
   rw[decide_eq_true hm]
  ·exact⟨by rw[ZF];omega,Jx () hja rfl (fun k hk=>by
    by_cases e:k=j
    ·subst e
     rw[List.getElem?_eq_getElem hjl]
     intro q
     exact hne (u8_inj.2 (Option.some.inj q))
    ·exact hA k (by omega))⟩
 ·have hj1:j=s.size:=by omega
  subst hj1
  have hm:b ∉ bl s:=fun h=>by
   obtain⟨k,hk⟩:=List.getElem?_of_mem h
   have:k<(bl s).length:=(List.getElem?_eq_some_iff.1 hk).1
   rw[VB] at this
   exact hA k this hk
  rw[decide_eq_false hm]
theorem WW(s:ByteArray)(b:UInt8)(hs:s.size<=1000000)(lvl:Nat)(S:Sto):Sem Go.Proofs.Try.prog JL lvl [iS s,iU b] S (.ow 1 (rS (spl s b)) true) S:=by
 refine Zr QX trivial ?_
 simp only[Vg,EVA,seval,Zk,men]
 refine Wg (α:=Unit) s.size (fun j _=>[(5,.hd (lvl,256) [] 0 (spC s b j).1.length none (spC s b j).1.length),(6,iI (spC s b j).2),(11,iI j)]) (fun j _=>[(256,.ar 1 (rS (spC s b j).1) true (spC s b j).1.length 0)]) (fun _ _=>True) () (by simp only[EVA,seval,Zk,men]) (by (simp only[EVA,seval,Zk,men]) <;> rfl) trivial ?_
 intro j _ hj _
 have hle:=Uu (s:=s) (b:=b) (i:=j)
 have hln:=DG (s:=s) (b:=b) (i:=j)
 simp only[EVA,seval,Zk,men]
 refine QH (fun hlt=>?_) (fun hge=>?_)
 ·have hja:j<s.size:=by omega
  have hjl:j<(bl s).length:=by rw[VB];exact hja
  have gb:s.data.toList[j]? = some (bl s)[j]:=List.getElem?_eq_getElem hjl
  have gb2:(bl s)[j]? = some (bl s)[j]:=List.getElem?_eq_getElem hjl
  simp only[gb,Int.toNat_natCast,EVA,seval,Zk,men]
  refine QH (fun he=>?_) (fun hne=>?_)
  ·have hsp:spC s b (j+1)=((spC s b j).1++[s.extract (spC s b j).2 j],j+1):=by
    rw[spC,if_pos (by rw[gb2,u8_inj.1 he])]
   have hmx:max (spC s b j).1.length ((spC s b j).1.length+1)=(spC s b j).1.length+1:=by omega
   have e1:rS (spC s b j).1++[[ts (s.extract (spC s b j).2 j)]]=rS (spC s b (j+1)).1:=by
    rw[hsp,ZaH]
    rfl
   have e2:(spC s b (j+1)).1.length=(spC s b j).1.length+1:=by rw[hsp];simp
   have e3:(spC s b (j+1)).2=j+1:=by rw[hsp]
   simp only[hmx,e1,List.length_map,Int.toNat_natCast,EVA,seval,Zk,men]
   exact⟨hle,by omega,by omega,by rw[ZF];omega,by rw[ZF];omega,Jx () hja (by rw[e2,e3];rfl) trivial⟩
  ·have hsp:spC s b (j+1)=spC s b j:=by
    rw[spC,if_neg (by rw[gb2];intro q;exact hne (u8_inj.2 (Option.some.inj q)))]
   exact⟨by rw[ZF];omega,Jx () hja (by rw[hsp];rfl) trivial⟩
 ·have hj1:j=s.size:=by omega
  subst hj1
  have hmx:max (spC s b s.size).1.length ((spC s b s.size).1.length+1)=(spC s b s.size).1.length+1:=by omega
  have e1:rS (spC s b s.size).1++[[ts (s.extract (spC s b s.size).2 s.size)]]=rS (spl s b):=by
   unfold spl
   rw[ZaH]
   rfl
  have e2:(spl s b).length=(spC s b s.size).1.length+1:=by simp [spl]
  simp only[hmx,e1,e2,List.length_map,Int.toNat_natCast,EVA,seval,Zk,men]
  exact⟨hle,by omega⟩
theorem ZaK{sep:ByteArray}(h:sep.size=1):∃ b,bl sep=[b]:=by
 have hl:(bl sep).length=1:=by rw[VB];exact h
 exact List.length_eq_one_iff.1 hl
def VF(sep:ByteArray):UInt8:=(bl sep).headD 0
theorem VZ{sep:ByteArray}(h:sep.size=1):bl sep=[VF sep]:=by
 obtain⟨b,hb⟩:=ZaK h
 unfold VF
 rw[hb]
 rfl
theorem WX{sep:ByteArray}(h:sep.size=1):sep.data.toList[0]? = some (VF sep):=by
 have:=VZ h
 unfold bl at this
 rw[this]
 rfl
def ZaL(s sep:ByteArray):Prop:=s.size<=4000/\sep.size=1
instance (s sep:ByteArray):Decidable (ZaL s sep):=by unfold ZaL;infer_instance
def Zcq(s sep:ByteArray):List ByteArray:=if ZaL s sep then spl s (VF sep) else []
theorem QM(s sep:ByteArray)(hs:s.size<=1000000)(hp:sep.size<=1000000)(lvl:Nat)(S:Sto):Sem Go.Proofs.Try.prog Z8 lvl [iS s,iS sep] S (.tu [.ow 1 (rS (Zcq s sep)) true,iB (decide (ZaL s sep))]) S:=by
 refine Zr Vy (by simp [low,men,Zk]) ?_
 by_cases h1:s.size<=4000
 rotate_left
 ·have e1:=eq_true (show (4000:Int)<s.size by omega)
  have hno:¬ ZaL s sep:=fun g=>h1 g.1
  rw[decide_eq_false hno,show Zcq s sep=[] from if_neg hno]
  simp only[ZV,e1,EVA,seval,Zk,men]
  try rfl
 have e1:=eq_false (show ¬ (4000:Int)<s.size by omega)
 by_cases h2:sep.size=1
 rotate_left
 ·have e2:=eq_false (show ¬ (sep.size:Int)=1 by omega)
  have hno:¬ ZaL s sep:=fun g=>h2 g.2
  rw[decide_eq_false hno,show Zcq s sep=[] from if_neg hno]
  simp only[ZV,e1,e2,ne_eq,not_false_eq_true,EVA,seval,Zk,men]
  try rfl
 have e2:=eq_true (show (sep.size:Int)=1 by omega)
 have hyes:ZaL s sep:=⟨h1,h2⟩
 have gb:=WX h2
 rw[decide_eq_true hyes,show Zcq s sep=spl s (VF sep) from if_pos hyes]
 simp only[ZV,e1,e2,gb,ne_eq,not_true_eq_false,EVA,seval,Zk,men]
 refine Zx (WW s (VF sep) hs) ?_
 simp only[List.length_map,EVA,seval,Zk,men]
 try rfl
theorem UA{l:List ByteArray}{sep:ByteArray}{j:Nat}(h1:sep.size=1)(hj:j<l.length)(h:VF sep∈bl l[j]):¬ joinOK l sep:=fun g =>
 g.free _ (List.getElem_mem hj) (VF sep) (by rw[VZ h1];simp) h
theorem DM{l:List ByteArray}{sep:ByteArray}(h1:sep.size=1)(h:∀ k (hk:k<l.length),VF sep ∉ bl l[k]):∀ p∈l,∀ b∈bl sep,b ∉ bl p:=fun p hp b hb=>by
 obtain⟨k,hk,rfl⟩:=List.getElem_of_mem hp
 rw[VZ h1,List.mem_singleton] at hb
 rw[hb]
 exact h k hk
theorem JP(l:List ByteArray)(sep:ByteArray)(hl:l.length<=100000)(hs:Y9 l<=100000000)(lvl:Nat)(S:Sto):Sem Go.Proofs.Try.prog ZG lvl [tS l,iS sep] S (.tu [iS (VC l sep),iB (Yo l sep)]) S:=by
 refine Zr Vz (by simp [low,men,Zk]) ?_
 by_cases h0:l=[]
 ·have hno:¬ joinOK l sep:=fun g=>g.ne h0
  rw[VC,if_neg hno,Yo,Ya hno,h0]
  simp only[ZW,List.map_nil,List.length_nil,EVA,seval,Zk,men]
  try rfl
 have hpos:0<l.length:=List.length_pos_iff.2 h0
 have e0:=eq_false (show ¬ (l.length:Int)=0 by omega)
 by_cases h1:sep.size=1
 rotate_left
 ·have e1:=eq_false (show ¬ (sep.size:Int)=1 by omega)
  have hno:¬ joinOK l sep:=fun g=>h1 g.one
  rw[VC,if_neg hno,Yo,Ya hno]
  simp only[ZW,e0,e1,ne_eq,not_false_eq_true,List.length_map,EVA,seval,Zk,men]
  try rfl
 have e1:=eq_true (show (sep.size:Int)=1 by omega)
 have gb:=WX h1
 have hsz:=YX h1 h0
 simp only[ZW,e0,e1,ne_eq,not_true_eq_false,List.length_map,EVA,seval,Zk,men]
 refine⟨by rw[ZF];omega,?_⟩
 refine Wg (α:=Unit) l.length (fun j _=>[(6,iI ((l.length:Int)-1+(Y9 (l.take j):Nat))),(22,iI j)]) (fun _ _=>[]) (fun j _=>(∀ k (hk:k<l.length),k<j->VF sep ∉ bl l[k])/\(0<j->(l.length:Int)-1+(Y9 (l.take j):Nat)<=4000)) () (by simp only[EVA,seval,Zk,men]) (by (simp only[List.take_zero,Y9,List.map_nil,List.sum_nil,Int.add_zero,EVA,seval,Zk,men]) <;> rfl) ⟨fun k _ hk=>absurd hk (Nat.not_lt_zero k),fun h=>absurd h (Nat.lt_irrefl 0)⟩ ?_
 intro j _ hj hA
 have hz:=XI (l:=l) (j:=j)
 simp only[List.length_map,EVA,seval,Zk,men]
 refine QH (fun hlt=>?_) (fun hge=>?_)
 ·have hja:j<l.length:=by omega
  have ga:(rS l)[j]? = some [ts l[j]]:=by simp [hja]
  have hst:=Wj hja
  have hz2:=XI (l:=l) (j:=j+1)
  have hadd:(l.length:Int)-1+(Y9 (l.take j):Nat)+(l[j].size:Nat)=(l.length:Int)-1+(Y9 (l.take (j+1)):Nat):=by omega
  simp only[ga,hja,hadd,List.length_map,EVA,seval,Zk,men]
  refine⟨by rw[ZF];omega,?_⟩
  by_cases h4:(l.length:Int)-1+(Y9 (l.take (j+1)):Nat)<=4000
  rotate_left
  ·have e4:=eq_true (show (4000:Int)<(l.length:Int)-1+(Y9 (l.take (j+1)):Nat) by omega)
   have hno:¬ joinOK l sep:=fun g=>by have:=g.size;omega
   rw[VC,if_neg hno,Yo,Ya hno]
   simp only[e4,EVA,seval,Zk,men]
   try rfl
  have e4:=eq_false (show ¬ (4000:Int)<(l.length:Int)-1+(Y9 (l.take (j+1)):Nat) by omega)
  simp only[e4,gb,EVA,seval,Zk,men]
  refine Zx (XO l[j] (VF sep)) ?_
  by_cases hm:VF sep∈bl l[j]
  ·have em:=eq_true (show 0<=Lib.indexByte l[j].data.toList (VF sep) from index_mem.2 hm)
   have hno:=UA h1 hja hm
   rw[VC,if_neg hno,Yo,Ya hno]
   simp only[em,EVA,seval,Zk,men]
   try rfl
  ·have em:=eq_false (show ¬ 0<=Lib.indexByte l[j].data.toList (VF sep) from fun h=>hm (index_mem.1 h))
   simp only[em,EVA,seval,Zk,men]
   exact⟨by rw[ZF];omega,Jx () hja rfl ⟨fun k hk hkj=>by
    by_cases e:k=j
    ·subst e;exact hm
    ·exact hA.1 k hk (by omega),fun _=>h4⟩⟩
 ·have hj1:j=l.length:=by omega
  subst hj1
  have h4:=hA.2 hpos
  have ht:Y9 (l.take l.length)=Y9 l:=by rw[List.take_length]
  have e4:=eq_false (show ¬ (4000:Int)<(l.length:Int)-1+(Y9 (l.take l.length):Nat) by omega)
  have hyes:joinOK l sep:=⟨h1,h0,DM h1 fun k hk=>hA.1 k hk hk,by omega⟩
  rw[VC,if_pos hyes,Yo,WU hyes]
  simp only[e4,EVA,seval,Zk,men]
  refine Zx (ZaF l sep (by omega) (by omega)) ?_
  simp only[EVA,seval,Zk,men]
  try rfl
theorem Vc(l:List ByteArray)(sep:ByteArray)(hl:l.length<=100000)(hs:Y9 l<=100000000)(lvl:Nat)(S:Sto):Sem Go.Proofs.Try.prog Z9 lvl [tS l,iS sep] S (.tu [iS (VC l sep),iB (Yo l sep)]) S:=by
 refine Zr VA (by simp [low,men,Zk]) ?_
 by_cases h1:sep.size=1
 rotate_left
 ·have e1:=eq_false (show ¬ (sep.size:Int)=1 by omega)
  have hno:¬ joinOK l sep:=fun g=>h1 g.one
  rw[VC,if_neg hno,Yo,Ya hno]
  simp only[ZX,e1,ne_eq,not_false_eq_true,List.length_map,EVA,seval,Zk,men]
  try rfl
 have e1:=eq_true (show (sep.size:Int)=1 by omega)
 by_cases h0:l=[]
 ·have hno:¬ joinOK l sep:=fun g=>g.ne h0
  rw[VC,if_neg hno,Yo,Ya hno,h0]
  simp only[ZX,e1,ne_eq,not_true_eq_false,List.map_nil,List.length_nil,EVA,seval,Zk,men]
  try rfl
 have hpos:0<l.length:=List.length_pos_iff.2 h0
 have e0:=eq_false (show ¬ (l.length:Int)=0 by omega)
 have gb:=WX h1
 have hsz:=YX h1 h0
 simp only[ZX,e0,e1,ne_eq,not_true_eq_false,List.length_map,EVA,seval,Zk,men]
 refine Wg (α:=Unit) l.length (fun j _=>[(6,iS (Jk (l.take j) sep)),(7,iI j)]) (fun _ _=>[]) (fun j _=>(∀ k (hk:k<l.length),k<j->VF sep ∉ bl l[k])/\(Jk (l.take j) sep).size<=4000) () (by simp only[EVA,seval,Zk,men]) (by (simp only[List.take_zero,QK,EVA,seval,Zk,men]) <;> rfl) ⟨fun k _ hk=>absurd hk (Nat.not_lt_zero k),by rw[List.take_zero,QK];exact Nat.zero_le _⟩ ?_
 intro j _ hj hA
 simp only[List.length_map,EVA,seval,Zk,men]
 refine QH (fun hlt=>?_) (fun hge=>?_)
 ·have hja:j<l.length:=by omega
  have ga:(rS l)[j]? = some [ts l[j]]:=by simp [hja]
  have hel:l[j].size<=100000000:=by
   have a1:=Wj hja
   have a2:=XI (l:=l) (j:=j+1)
   omega
  have hps:=YX h1 (l:=l.take (j+1)) (by rw[List.take_succ_eq_append_getElem hja];simp [h0])
  rw[List.length_take,Nat.min_eq_left (by omega)] at hps
  have hz2:=XI (l:=l) (j:=j+1)
  simp only[ga,hja,gb,List.length_map,EVA,seval,Zk,men]
  refine Zx (Ws l[j] (VF sep) (by omega)) ?_
  by_cases hm:VF sep∈bl l[j]
  ·have hno:=UA h1 hja hm
   rw[VC,if_neg hno,Yo,Ya hno,decide_eq_true hm]
   simp only[EVA,seval,Zk,men]
   try rfl
  rw[decide_eq_false hm]
  have hfree:∀ k (hk:k<l.length),k<j+1->VF sep ∉ bl l[k]:=fun k hk hkj=>by
   by_cases e:k=j
   ·subst e;exact hm
   ·exact hA.1 k hk (by omega)
  have hjs:=hA.2
  have fin:Jk (l.take (j+1)) sep=(if 0<j then Jk (l.take j) sep++sep else Jk (l.take j) sep)++l[j]:=by
   by_cases hj0:0<j
   ·rw[if_pos hj0];exact UM hj0 hja
   ·have:j=0:=by omega
    subst this
    rw[if_neg hj0,UN hja,List.take_zero,QK,Zcj]
  have hfs:=congrArg ByteArray.size fin
  rw[ByteArray.size_append] at hfs
  by_cases h4:(Jk (l.take (j+1)) sep).size<=4000
  ·have e4:=eq_false (show ¬ (4000:Int)<((Jk (l.take (j+1)) sep).size:Nat) by omega)
   by_cases hj0:0<j
   ·have ej:=eq_true (show (0:Int)<j by omega)
    rw[if_pos hj0] at fin hfs
    have hq:=ByteArray.size_append (a:=Jk (l.take j) sep) (b:=sep)
    simp only[ej,ga,hja,<-fin,e4,List.length_map,EVA,seval,Zk,men]
    exact⟨by omega,by omega,by rw[ZF];omega,Jx () hja rfl ⟨hfree,h4⟩⟩
   ·have ej:=eq_false (show ¬ (0:Int)<j by omega)
    rw[if_neg hj0] at fin hfs
    simp only[ej,ga,hja,<-fin,e4,List.length_map,EVA,seval,Zk,men]
    exact⟨by omega,by rw[ZF];omega,Jx () hja rfl ⟨hfree,h4⟩⟩
  ·have e4:=eq_true (show (4000:Int)<((Jk (l.take (j+1)) sep).size:Nat) by omega)
   have hno:¬ joinOK l sep:=fun g=>by have:=g.size;omega
   rw[VC,if_neg hno,Yo,Ya hno]
   by_cases hj0:0<j
   ·have ej:=eq_true (show (0:Int)<j by omega)
    rw[if_pos hj0] at fin hfs
    have hq:=ByteArray.size_append (a:=Jk (l.take j) sep) (b:=sep)
    simp only[ej,ga,hja,<-fin,e4,List.length_map,EVA,seval,Zk,men]
    omega
   ·have ej:=eq_false (show ¬ (0:Int)<j by omega)
    rw[if_neg hj0] at fin hfs
    simp only[ej,ga,hja,<-fin,e4,List.length_map,EVA,seval,Zk,men]
    omega
 ·have hj1:j=l.length:=by omega
  subst hj1
  have hyes:joinOK l sep:=⟨h1,h0,DM h1 fun k hk=>hA.1 k hk hk,by have:=hA.2;rw[List.take_length] at this;exact this⟩
  rw[VC,if_pos hyes,Yo,WU hyes,List.take_length]
  try first | rfl | exact⟨rfl,rfl⟩
theorem QN(a b:ByteArray)(lvl:Nat)(S:Sto):Sem Go.Proofs.Try.prog ZA lvl [iS a,iS b] S (iB (Op.bytesLess a.data.toList b.data.toList)) S:=by
 refine Zr VS trivial ?_
 simp only[Yl,EVA,seval,Zk,men]
 try rfl
theorem DN(a b:ByteArray)(lvl:Nat)(S:Sto):Sem Go.Proofs.Try.prog Jf lvl [iS a,iS b] S (iB (Op.bytesLess a.data.toList b.data.toList)) S:=by
 refine Zr VT trivial ?_
 simp only[Ym,EVA,seval,Zk,men]
 try rfl
end Go.Fd

namespace Go.Fd
def Yc:F2 :=
 { nt:=104,res:=[.t 2 [0]],body:=(.sq (rg [om 2 (.k (.bool false))]) (.sq (.sq (rg [qM 17 0,oo 18 (.ca .pure false (.f YB) [.t 17])]) (.cd (.t 18) (.sq (rg [om 2 (.k (.bool true))]) (.rt)) (.sk))) (.sq (rg [qM 20 0,oo 21 (.ca .pure false (.f ZH) [.t 20]),qM 19 21,qE 22 0 19,qE 23 1 19,qM 3 22,qM 4 23]) (.sq (rg [qM 25 3,qM 26 4,oo 27 (.ca .pure true (.f Z8) [.t 25,.t 26]),qM 24 27,qE 28 0 24,qE 29 1 24,qM 5 28,qM 6 29]) (.sq (rg [qM 31 0,oo 32 (.ca .pure false (.f ZI) [.t 31]),qM 30 32,qE 33 0 30,qE 34 1 30,qM 7 33,qM 8 34]) (.sq (rg [qM 36 7,qM 37 8,oo 38 (.ca .pure false (.f ZG) [.t 36,.t 37]),qM 35 38,qE 39 0 35,qE 40 1 35,qM 9 39,qM 10 40]) (.sq (rg [qM 42 7,qM 43 8,oo 44 (.ca .pure false (.f Z9) [.t 42,.t 43]),qM 41 44,qE 45 0 41,qE 46 1 41,qM 11 45,qM 12 46]) (.sq (rg [qM 48 0,oo 49 (.ca .pure false (.f ZP) [.t 48]),qM 47 49,qE 50 0 47,qE 51 1 47,qM 13 50,qM 14 51]) (.sq (.sq (rg [qM 52 9,qM 53 11,qB 54 .neq 52 53,qM 55 54,og 56 55 false (.mv (.t 10) none),og 57 55 false (.mv (.t 12) none),og 58 55 false (.bi .neq 2 (.t 56) (.t 57)),oo 59 (.pk (.t 55) (.k (.bool true)) (.t 58)),qM 60 59,og 61 60 false (.mv (.t 13) none),og 62 60 false (.mv (.t 14) none),og 63 60 false (.ca .pure false (.f ZA) [.t 61,.t 62]),og 64 60 false (.mv (.t 13) none),og 65 60 false (.mv (.t 14) none),og 66 60 false (.ca .pure false (.f Jf) [.t 64,.t 65]),og 67 60 false (.bi .neq 2 (.t 63) (.t 66)),oo 68 (.pk (.t 60) (.k (.bool true)) (.t 67)),qM 69 68,og 70 69 false (.mv (.t 13) none),og 71 69 false (.mv (.t 14) none),og 72 69 false (.ca .pure false (.f ZA) [.t 70,.t 71]),og 73 69 false (.mv (.t 72) none),og 74 73 true (.mv (.t 14) none),og 75 73 true (.mv (.t 13) none),og 76 73 true (.ca .pure false (.f ZA) [.t 74,.t 75]),og 77 69 false (.pk (.t 73) (.t 76) (.k (.bool false))),oo 78 (.pk (.t 69) (.k (.bool true)) (.t 77))]) (.cd (.t 78) (.sq (rg [om 2 (.k (.bool false))]) (.rt)) (.sk))) (.sq (.sq (rg [qM 79 4,oo 80 (.lg (.t 79)),oo 81 (.bi .neq 0 (.t 80) (i6 1))]) (.cd (.t 81) (.sq (rg [qM 82 6,oo 83 (.nt (.t 82)),qM 84 83,og 85 84 true (.mv (.t 5) none),og 86 84 true (.ln (.t 85)),og 87 84 true (.bi .eql 0 (.t 86) (i6 0)),oo 88 (.pk (.t 84) (.t 87) (.k (.bool false))),qM 2 88]) (.rt)) (.sk))) (.sq (rg [qM 90 5,qM 91 4,oo 92 (.ca .pure true (.f ZG) [.t 90,.t 91]),qM 89 92,qE 93 0 89,qE 94 1 89,qM 15 93,qM 16 94]) (.sq (rg [qM 95 6,qM 96 95,og 97 96 true (.mv (.t 16) none),oo 98 (.pk (.t 96) (.t 97) (.k (.bool false))),qM 99 98,og 100 99 true (.mv (.t 15) none),og 101 99 true (.mv (.t 3) none),og 102 99 true (.bi .eql 0 (.t 100) (.t 101)),oo 103 (.pk (.t 99) (.t 102) (.k (.bool false))),qM 2 103]) (.rt))))))))))))) }
theorem VD:XE Go.Proofs.Try.prog JO Yc=true:=by kernel_rfl
end Go.Fd

namespace Go.Fd
def QO:F2 :=
 { nt:=6,res:=[.t 2 [0]],body:=(.sq (rg [om 2 (.k (.bool false))]) (.sq (rg [qM 3 0,qN 4 3,oo 5 (.bi .gtr 0 (.t 4) (i6 65536)),qM 2 5]) (.rt))) }
theorem WY:XE Go.Proofs.Try.prog YB QO=true:=by kernel_rfl
end Go.Fd

namespace Go.Fd
set_option maxRecDepth 20000
theorem ZaM(x0:List Int)(lvl:Nat)(S:Sto):Sem Go.Proofs.Try.prog YB lvl [.tr (.sl (rU x0))] S (iB (decide ((65536:Int)<x0.length))) S:=by
 refine Zr WY trivial ?_
 simp only[QO,List.length_map,EVA,seval,Zk,men]
 try rfl
theorem ZaN{x0:List Int}(hb:∀ x∈x0,0<=x/\x<=255)(hl:x0.length<=65536):(dsS x0).size<=10:=Wo _ (WV (UP hb hl) (by decide))
theorem DO:∀ x∈ZiZ,x.size<=2:=by decide +kernel
theorem ZaO{x0:List Int}(hb:∀ x∈x0,0<=x/\x<=255)(hl:x0.length<=65536):(dsP x0).size<=2:=DO _ (WV (ZaI (UP hb hl)) (by decide))
theorem UB{a b:List ByteArray}:Y9 (a++b)=Y9 a+Y9 b:=by unfold Y9;rw[List.map_append,List.sum_append]
theorem UC{x:ByteArray}:Y9 [x]=x.size:=by simp [Y9]
theorem DP{n:Nat}{c:Cur}(h:curOK n c):∀{j:Nat},Y9 (djL c j)<=j*10
 | 0=>by simp [djL,Y9]
 | j+1=>by
  have ih:=DP h (j:=j)
  have:=Wo _ (WV (Wq h (j:=j)) (show 0<ANYS.length by decide))
  rw[djL,UB,UC]
  omega
theorem UQ{m:Nat}:(DL m).size=m:=by
 unfold DL
 show (List.replicate m (0:UInt8)).toArray.size=m
 simp
theorem Ze4{x0:List Int}(hb:∀ x∈x0,0<=x/\x<=255)(hl:x0.length<=65536):(jL x0).length<=100/\Y9 (jL x0)<=100000:=by
 have hc:=UP hb hl
 have hr:=VX (m:=4) hc (by omega)
 have h1:curOK 2 (pkC 4 (c0 x0)):=UO hc
 have hX:=Wq h1 (j:=(pkV 4 (c0 x0)).toNat)
 have hX2:curOK _ (jc2 x0):=UO (m:=20) hX
 have hr2:=VX (m:=20) hX2 (by omega)
 have hs:=DP h1 (j:=(pkV 4 (c0 x0)).toNat)
 have hlen:=XN (c:=pkC 4 (c0 x0)) (j:=(pkV 4 (c0 x0)).toNat)
 unfold jL
 split
 ·rw[List.length_append,UB,UC,UQ]
  unfold jl1
  rw[hlen]
  simp only[List.length_cons,List.length_nil]
  omega
 ·unfold jl1
  rw[hlen]
  omega
theorem QP(x0:List Int)(hl0:x0.length<=9223372036854775807)(hb:∀ x∈x0,0<=x/\x<=255)(lvl:Nat)(S:Sto):Sem Go.Proofs.Try.prog JO lvl [.tr (.sl (rU x0))] S (iB true) S:=by
 refine Zr VD trivial ?_
 simp only[Yc,EVA,seval,Zk,men]
 refine Zx (ZaM x0) ?_
 by_cases hbig:(65536:Int)<x0.length
 ·rw[decide_eq_true hbig]
  simp only[EVA,seval,Zk,men]
  try rfl
 rw[decide_eq_false hbig]
 have hl:x0.length<=65536:=by omega
 have hs1:=ZaN hb hl
 have hs2:=ZaO hb hl
 obtain⟨hj1,hj2⟩:=Ze4 hb hl
 simp only[EVA,seval,Zk,men]
 refine Zx (XM x0 hb hl) ?_
 simp only[EVA,seval,Zk,men]
 refine Zx (QM (dsS x0) (dsP x0) (by omega) (by omega)) ?_
 simp only[List.length_map,EVA,seval,Zk,men]
 refine Zx (Wr x0 hb hl) ?_
 simp only[List.length_map,EVA,seval,Zk,men]
 refine Zx (JP (jL x0) (jP x0) (by omega) (by omega)) ?_
 simp only[List.length_map,EVA,seval,Zk,men]
 refine Zx (Vc (jL x0) (jP x0) (by omega) (by omega)) ?_
 simp only[List.length_map,EVA,seval,Zk,men]
 refine Zx (Wp x0 hb hl) ?_
 simp only[ne_eq,not_true_eq_false,bne_self_eq_false,List.length_map,EVA,seval,Zk,men]
 refine Zx (QN (dlA x0) (dlB x0)) ?_
 simp only[EVA,seval,Zk,men]
 refine Zx (DN (dlA x0) (dlB x0)) ?_
 simp only[bne_self_eq_false,EVA,seval,Zk,men]
 have hsep:∀ h:(dsP x0).size=1,Y9 (spl (dsS x0) (VF (dsP x0)))+(spl (dsS x0) (VF (dsP x0))).length<=100:=fun h=>by
  have:=YX h (Za8 (s:=dsS x0) (b:=VF (dsP x0)))
  rw[XH (VZ h)] at this
  omega
 refine Zx (QN (dlA x0) (dlB x0)) ?_
 cases hA:Op.bytesLess (dlA x0).data.toList (dlB x0).data.toList
 case' true =>
  have hB:=Wl hA
  simp only[EVA,seval,Zk,men]
  refine Zx (QN (dlB x0) (dlA x0)) ?_
  rw[hB]
 all_goals
  simp only[EVA,seval,Zk,men]
  by_cases h1:(dsP x0).size=1
  ·have e1:=eq_true (show ((dsP x0).size:Int)=1 by omega)
   have hyes:ZaL (dsS x0) (dsP x0):=⟨by omega,h1⟩
   have hlm:=hsep h1
   have hok:=Ze0 (s:=dsS x0) (VZ h1) (by omega)
   have hJ:VC (spl (dsS x0) (VF (dsP x0))) (dsP x0)=dsS x0:=by rw[VC,if_pos hok];exact XH (VZ h1)
   have hJ2:Yo (spl (dsS x0) (VF (dsP x0))) (dsP x0)=true:=WU hok
   have q:=JP (spl (dsS x0) (VF (dsP x0))) (dsP x0) (by omega) (by omega)
   rw[hJ,hJ2] at q
   have hcut:cut (rS (spl (dsS x0) (VF (dsP x0)))) 0 (spl (dsS x0) (VF (dsP x0))).length=rS (spl (dsS x0) (VF (dsP x0))):=by
    unfold cut
    rw[List.drop_zero,List.take_of_length_le (by simp)]
   rw[show Zcq (dsS x0) (dsP x0)=spl (dsS x0) (VF (dsP x0)) from if_pos hyes,decide_eq_true hyes]
   simp only[e1,ne_eq,not_true_eq_false,hcut,List.length_map,EVA,seval,Zk,men]
   refine Zx q ?_
   simp only[EVA,seval,Zk,men]
   try rfl
  ·have e1:=eq_false (show ¬ ((dsP x0).size:Int)=1 by omega)
   have hno:¬ ZaL (dsS x0) (dsP x0):=fun g=>h1 g.2
   rw[show Zcq (dsS x0) (dsP x0)=[] from if_neg hno,decide_eq_false hno]
   simp only[e1,ne_eq,not_false_eq_true,List.map_nil,List.length_nil,EVA,seval,Zk,men]
   try rfl
end Go.Fd
