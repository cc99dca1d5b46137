/-
  FOUNDATION 46: more rules: stores, append. Own work.
-/
import Derived.Test.YtidhoicihlnlaaaGreatDoorT03
import Derived.ChangeArms
import Derived.OpenShut
import Derived.Carry
import Derived.Sort.Row
import Derived.Sort.Grow
import Derived.Shelf.GgSortFunc.InsertionK
import Derived.Shelf.SlSortCmp.WholeK
import Derived.Test.YtidhoicihlnlaaaGreatDoorProg
import Derived.ChangeMaps5
import Derived.ChangeShapes
set_option linter.all false
namespace Go.Fd
section
variable {C:Zk} {lvl:Nat} {env:List (Nat×IV)} {loc:List (Nat×Ob)} {out:Sto} {d:Option Nat} {K:St->Prop} {st:St}
def st2(v:Option (List IV))(m:Nat)(p:IV)(d:Option Nat)(st:St)(K:St->Prop):Prop :=
 match v with
 | some l=>d=none/\l.length=m /\
  match p with
  | .ab id off =>
   match st.sto id with
   | some (.bx cells)=>off+l.length<=cells.length/\Dr (id.1+1) l/\K (Zo st id (.bx (WO cells off l)))
   | _=>False
  | .ae id p i f s=>ZhK id p i s f l st K
  | _=>False
 | none=>False
theorem ZC9{m:Nat}{p x:X}:op2 C d (.st m p x) ⟨lvl,env,loc,out⟩ K=st2 (cellsOf (xv env x)) m (xv env p) d ⟨lvl,env,loc,out⟩ K:=by
 rw[Jk rfl]
 simp only[ew]
 generalize cellsOf (xv env x)=v
 cases v with
 | none=>simp [st2]
 | some l=>rfl
def stb(o:Option Ob)(id:Oid)(off:Nat)(l:List IV)(st:St)(K:St->Prop):Prop :=
 match o with
 | some (.bx cells)=>off+l.length<=cells.length/\Dr (id.1+1) l/\K (Zo st id (.bx (WO cells off l)))
 | _=>False
theorem ZAK{m:Nat}{l:List IV}{id:Oid}{off:Nat}:st2 (some l) m (.ab id off) d ⟨lvl,env,loc,out⟩ K=(d=none/\l.length=m/\stb (ZG lvl loc out id) id off l ⟨lvl,env,loc,out⟩ K):=(rfl)
theorem ZAL{m:Nat}{l:List IV}{id:Oid}{p:Pth}{i f s:Nat}:st2 (some l) m (.ae id p i f s) d st K=(d=none/\l.length=m/\ZhK id p i s f l st K):=(rfl)
theorem ZAM{cells l:List IV}{id:Oid}{off:Nat}:stb (some (.bx cells)) id off l st K=(off+l.length<=cells.length/\Dr (id.1+1) l/\K (Zo st id (.bx (WO cells off l)))):=(rfl)
theorem Ze3{cs:List IV}{off:Nat}:WO cs off []=cs:=(rfl)
theorem Ze4{cs:List IV}{off:Nat}{x:IV}{r:List IV}:WO cs off (x::r)=WO (cs.set off x) (off+1) r:=(rfl)
theorem Ztd{l:Nat}:Dr l []=True:=(rfl)
theorem Zte{l:Nat}{x:IV}{r:List IV}:Dr l (x::r)=(low l x/\Dr l r):=(rfl)
theorem ZvR{l:Nat}{t:Tr}:low l (.tr t)=True:=(rfl)
theorem ZvS{l:Nat}{es:Row}:low l (.cs es)=True:=(rfl)
theorem ZvT{l k:Nat}{p:Pth}{off len s:Nat}{cap:Option Nat}:low (l+1) (.hd (l,k) p off len cap s)=True:=by
 apply propext;simp [low,men]
theorem ZvU{l k off:Nat}:low (l+1) (.ab (l,k) off)=True:=by
 apply propext;simp [low,men]
theorem ZvV{l:Nat}{c:List IV}:low l (.ag c)=Dr l c:=by simp only[low,Dr,men]
theorem ZvW{l:Nat}{c:List IV}:low l (.tu c)=Dr l c:=by simp only[low,Dr,men]
theorem ZvX{l k:Nat}{es:Row}{u:Bool}:low l (.ow k es u)=True:=(rfl)
theorem ZvY{l:Nat}:low l .un=True:=(rfl)
theorem ZvZ{l:Nat}:low l .er=True:=(rfl)
theorem Ztf{l:Nat}{c:List Tr}:low l (.ta c)=True:=(rfl)
def kst(id:Oid)(p:Pth)(i s f:Nat)(r:List IV)(K:St->Prop)(st':St):Prop:=ZhK id p i s f r st' K
theorem ZAN{id:Oid}{p:Pth}{i s f:Nat}{r:List IV}:kst id p i s f r K st=ZhK id p i s f r st K:=(rfl)
theorem Ztg{id:Oid}{p:Pth}{i s f:Nat}:ZhK id p i s f [] st K=K st:=(rfl)
def sc1(o:Option Ob)(id:Oid)(p:Pth)(i f s:Nat)(x:IV)(st:St)(K:St->Prop):Prop :=
 match o with
 | some (.ar k es u hw ver)=>XF p s hw ver u/\op3 (getp es p) fun es' => op3 es'[i]? fun e=>op3 e[f]? fun t0 =>
  match x with
  | .tr (.v y)=>isSc t0=true/\K (Zo st id (.ar k (YU es p i f (.v y)) u hw ver))
  | .cs []=>p=[]/\K (Zo st id (.ar k (YU es [] i f (.sl [])) u hw (ver+1)))
  | .cs zs=>p=[]/\K (Zo st id (.ar k (YU es [] i f (.sl zs)) false hw (ver+1)))
  | .tr (.sl zs)=>p=[]/\K (Zo st id (.ar k (YU es [] i f (.sl zs)) false hw (ver+1)))
  | .hd id2 [] 0 len none s2=>p=[]/\id2≠id/\id2.1=st.lvl /\
   match st.sto id2 with
   | some (.ar _ zs u2 hw2 _)=>s2=hw2/\len=zs.length/\K (Zo (YY id2 st) id (.ar k (YU es [] i f (.sl zs)) (u&&u2) hw (ver+1)))
   | _=>False
  | _=>False
 | _=>False
theorem Zth{id:Oid}{p:Pth}{i s f:Nat}{x:IV}{r:List IV}:ZhK id p i s f (x::r) ⟨lvl,env,loc,out⟩ K=sc1 (ZG lvl loc out id) id p i f s x ⟨lvl,env,loc,out⟩ (kst id p i s (f+1) r K):=by
 simp only[ZhK,stc,sc1]
 rw[show (⟨lvl,env,loc,out⟩:St).sto id=ZG lvl loc out id from rfl]
 generalize ZG lvl loc out id=o
 cases o with
 | none=>rfl
 | some ob =>
  cases ob with
  | bx=>rfl
  | ar k es u hw ver =>
   dsimp only
   rw[<-Xb]
   apply propext
   constructor
   ·rintro⟨es',h1,h2,e,h3,t0,h4,h5⟩
    refine⟨h2,es',h1,?_⟩
    rw[h3]
    simp only[op3]
    rw[h4]
    exact h5
   ·rintro⟨h2,es',h1,h3⟩
    rw[<-Xb] at h3
    obtain⟨e,h3,h4⟩:=h3
    rw[<-Xb] at h4
    obtain⟨t0,h4,h5⟩:=h4
    exact⟨es',h1,h2,e,h3,t0,h4,h5⟩
def sc2(k:Nat)(es:Row)(u:Bool)(hw ver:Nat)(id:Oid)(p:Pth)(i f:Nat)(x:IV)(st:St)(K:St->Prop)(t0:Tr):Prop :=
  match x with
  | .tr (.v y)=>isSc t0=true/\K (Zo st id (.ar k (YU es p i f (.v y)) u hw ver))
  | .cs []=>p=[]/\K (Zo st id (.ar k (YU es [] i f (.sl [])) u hw (ver+1)))
  | .cs zs=>p=[]/\K (Zo st id (.ar k (YU es [] i f (.sl zs)) false hw (ver+1)))
  | .tr (.sl zs)=>p=[]/\K (Zo st id (.ar k (YU es [] i f (.sl zs)) false hw (ver+1)))
  | .hd id2 [] 0 len none s2=>p=[]/\id2≠id/\id2.1=st.lvl /\
   match st.sto id2 with
   | some (.ar _ zs u2 hw2 _)=>s2=hw2/\len=zs.length/\K (Zo (YY id2 st) id (.ar k (YU es [] i f (.sl zs)) (u&&u2) hw (ver+1)))
   | _=>False
  | _=>False
def sc3(k:Nat)(es:Row)(u:Bool)(hw ver:Nat)(id:Oid)(p:Pth)(i f:Nat)(x:IV)(st:St)(K:St->Prop)(e:List Tr):Prop:=op3 e[f]? (sc2 k es u hw ver id p i f x st K)
def sc4(k:Nat)(es:Row)(u:Bool)(hw ver:Nat)(id:Oid)(p:Pth)(i f:Nat)(x:IV)(st:St)(K:St->Prop)(es':Row):Prop:=op3 es'[i]? (sc3 k es u hw ver id p i f x st K)
section sc
variable {k:Nat} {es:Row} {u:Bool} {hw ver:Nat} {id:Oid} {p:Pth} {i f s:Nat} {x:IV}
theorem ZAO:sc1 (some (.ar k es u hw ver)) id p i f s x st K=(XF p s hw ver u/\op3 (getp es p) (sc4 k es u hw ver id p i f x st K)):=(rfl)
theorem ZAP{e:List Tr}:sc3 k es u hw ver id p i f x st K e=op3 e[f]? (sc2 k es u hw ver id p i f x st K):=(rfl)
theorem ZAQ{es':Row}:sc4 k es u hw ver id p i f x st K es'=op3 es'[i]? (sc3 k es u hw ver id p i f x st K):=(rfl)
theorem ZAR{y:Value}{t0:Tr}:sc2 k es u hw ver id p i f (.tr (.v y)) st K t0=(isSc t0=true/\K (Zo st id (.ar k (YU es p i f (.v y)) u hw ver))):=(rfl)
theorem Zv0{t0:Tr}:sc2 k es u hw ver id p i f (.cs []) st K t0=(p=[]/\K (Zo st id (.ar k (YU es [] i f (.sl [])) u hw (ver+1)))):=(rfl)
theorem Zv1{zs:Row}{t0:Tr}:sc2 k es u hw ver id p i f (.tr (.sl zs)) st K t0=(p=[]/\K (Zo st id (.ar k (YU es [] i f (.sl zs)) false hw (ver+1)))):=(rfl)
def sc5(o:Option Ob)(k:Nat)(es:Row)(u:Bool)(hw ver:Nat)(id:Oid)(i f len s2:Nat)(st2 st:St)(K:St->Prop):Prop :=
 match o with
 | some (.ar _ zs u2 hw2 _)=>s2=hw2/\len=zs.length/\K (Zo st2 id (.ar k (YU es [] i f (.sl zs)) (u&&u2) hw (ver+1)))
 | _=>False
theorem Zv2{key len s2:Nat}{t0:Tr}:sc2 k es u hw ver id p i f (.hd (lvl,key) [] 0 len none s2) ⟨lvl,env,loc,out⟩ K t0=(p=[]/\(lvl,key)≠id/\sc5 (lkO key loc) k es u hw ver id i f len s2 (YY (lvl,key) ⟨lvl,env,loc,out⟩) ⟨lvl,env,loc,out⟩ K):=by
 simp only[sc2]
 rw[show (⟨lvl,env,loc,out⟩:St).sto (lvl,key)=lkO key loc from YV]
 generalize lkO key loc=o
 apply propext
 constructor
 ·rintro⟨h1,h2,_,h3⟩
  refine⟨h1,h2,?_⟩
  cases o with
  | none=>exact h3
  | some ob=>cases ob <;> exact h3
 ·rintro⟨h1,h2,h3⟩
  refine⟨h1,h2,trivial,?_⟩
  cases o with
  | none=>exact h3
  | some ob=>cases ob <;> exact h3
theorem ZAS{k2:Nat}{zs:Row}{u2:Bool}{hw2 ver2 len s2:Nat}{st2:St}:sc5 (some (.ar k2 zs u2 hw2 ver2)) k es u hw ver id i f len s2 st2 st K=(s2=hw2/\len=zs.length/\K (Zo st2 id (.ar k (YU es [] i f (.sl zs)) (u&&u2) hw (ver+1)))):=(rfl)
end sc
theorem ZDa{k n:Nat}{z:List Value}{ps:List (Nat×X)}:op2 C d (.bw k n z ps) ⟨lvl,env,loc,out⟩ K=ew C d ⟨lvl,env,loc,out⟩ K (.bw k n z ps):=Jk rfl
def kbw(k lvl:Nat)(d:Option Nat)(K:St->Prop)(ts:List Tr)(u:Bool)(st':St):Prop :=
 K { Zo st' (lvl,keyOf d) (.ar k [ts] u 1 0) with env:=ptd d (.hd (lvl,keyOf d) [] 0 1 none 1) st'.env }
theorem ZAT{k:Nat}{ts:List Tr}{u:Bool}:kbw k lvl d K ts u ⟨lvl,env,loc,out⟩=K ⟨lvl,ptd d (.hd (lvl,keyOf d) [] 0 1 none 1) env,ptO (keyOf d) (.ar k [ts] u 1 0) loc,out⟩:=by
 simp only[kbw,Zb2]
def bw2(v:Option (List IV))(k n:Nat)(d:Option Nat)(loc:List (Nat×Ob))(lvl:Nat)(st:St)(K:St->Prop):Prop :=
 match v with
 | some l=>n=1/\l.length=k/\freshK (keyOf d) loc 1/\ZkD l st (kbw k lvl d K)
 | none=>False
theorem ZAU{k n:Nat}{z:List Value}{x:X}:ew C d ⟨lvl,env,loc,out⟩ K (.bw k n z [(0,x)])=bw2 (cellsOf (xv env x)) k n d loc lvl ⟨lvl,env,loc,out⟩ K:=by
 simp only[ew]
 generalize cellsOf (xv env x)=v
 cases v with
 | none=>simp [bw2]
 | some l=>rfl
theorem ZAV{k n:Nat}{l:List IV}:bw2 (some l) k n d loc lvl st K=(n=1/\l.length=k/\freshK (keyOf d) loc 1/\ZkD l st (kbw k lvl d K)):=(rfl)
def kmv(r:List IV)(F:List Tr->Bool->St->Prop)(t:Tr)(a:Bool)(st':St):Prop:=ZkD r st' fun ts b st'' => F (t::ts) (a&&b) st''
def kmc(t:Tr)(a:Bool)(F:List Tr->Bool->St->Prop)(ts:List Tr)(b:Bool)(st'':St):Prop:=F (t::ts) (a&&b) st''
section mv
variable {r:List IV} {F:List Tr->Bool->St->Prop} {F1:Tr->Bool->St->Prop}
theorem ZAW{t:Tr}{a:Bool}:kmv r F t a st=ZkD r st (kmc t a F):=(rfl)
theorem ZAX{t:Tr}{a:Bool}{ts:List Tr}{b:Bool}:kmc t a F ts b st=F (t::ts) (a&&b) st:=(rfl)
theorem Zti:ZkD [] st F=F [] true st:=(rfl)
theorem Ztj{x:IV}:ZkD (x::r) st F=mvc st x (kmv r F):=(rfl)
theorem Zv3{y:Value}:mvc st (.tr (.v y)) F1=F1 (.v y) true st:=(rfl)
theorem Zv4{es:Row}:mvc st (.tr (.sl es)) F1=F1 (.sl es) false st:=(rfl)
theorem Zv5:mvc st (.cs []) F1=F1 (.sl []) true st:=(rfl)
def mv5(o:Option Ob)(len s2:Nat)(st1:St)(F1:Tr->Bool->St->Prop):Prop :=
 match o with
 | some (.ar _ zs u2 hw2 _)=>s2=hw2/\len=zs.length/\F1 (.sl zs) u2 st1
 | _=>False
theorem Zv6{key len s2:Nat}:mvc ⟨lvl,env,loc,out⟩ (.hd (lvl,key) [] 0 len none s2) F1=mv5 (lkO key loc) len s2 (YY (lvl,key) ⟨lvl,env,loc,out⟩) F1:=by
 simp only[mvc]
 rw[show (⟨lvl,env,loc,out⟩:St).sto (lvl,key)=lkO key loc from YV]
 generalize lkO key loc=o
 apply propext
 constructor
 ·rintro⟨_,h3⟩
  cases o with
  | none=>exact h3
  | some ob=>cases ob <;> exact h3
 ·intro h3
  refine⟨trivial,?_⟩
  cases o with
  | none=>exact h3
  | some ob=>cases ob <;> exact h3
theorem ZAY{k2:Nat}{zs:Row}{u2:Bool}{hw2 ver2 len s2:Nat}:mv5 (some (.ar k2 zs u2 hw2 ver2)) len s2 st F1=(s2=hw2/\len=zs.length/\F1 (.sl zs) u2 st):=(rfl)
end mv
def Zv7:IV->Prop
 | .hd _ [] 0 _ none _=>True
 | _=>False
theorem Zv8{id:Oid}{len s:Nat}:Zv7 (.hd id [] 0 len none s)=True:=(rfl)
def ZrS:List IV->Prop
 | []=>True
 | .tr (.v _)::r=>ZrS r
 | _=>False
theorem Ztk:ZrS []=True:=(rfl)
theorem Ztl{y:Value}{r:List IV}:ZrS (.tr (.v y)::r)=ZrS r:=(rfl)
def smp(p:IV)(l:Option (List IV)):Prop :=
 match p with
 | .ab .. => True
 | .ae .. => l≠some []/\ZrS (l.getD [])
 | _=>False
theorem Zv9{id:Oid}{off:Nat}{l:Option (List IV)}:smp (.ab id off) l=True:=(rfl)
theorem Zwa{id:Oid}{p:Pth}{i f s:Nat}{x:IV}{r:List IV}:smp (.ae id p i f s) (some (x::r))=ZrS (x::r):=by simp [smp]
theorem Zl3{id:Oid}{p:Pth}{i s k:Nat}{u:Bool}{hw ver:Nat}:∀(l:List IV) (f:Nat) (es:Row) (st0:St) (K:St->Prop),ZrS l->st0.sto id=some (.ar k es u hw ver)->ZhK id p i s f l st0 K->stq p i f l es (fun es' => K (Zo st0 id (.ar k es' u hw ver)))\/l=[]
 | [],f,es,st0,K,_,_,h=>.inr rfl
 | x::r,f,es,st0,K,ha,hs,h=>by
  refine .inl ?_
  simp only[ZhK,stc] at h
  rw[hs] at h
  obtain⟨es',hg,hst,e,hi,t0,hf,h⟩:=h
  cases x with
  | tr t =>
   cases t with
   | v y =>
    obtain⟨hsc,h⟩:=h
    simp only[stq]
    refine⟨es',hg,e,hi,t0,hf,hsc,?_⟩
    have hs1:(Zo st0 id (.ar k (YU es p i f (.v y)) u hw ver)).sto id=some (.ar k (YU es p i f (.v y)) u hw ver):=by rw[Jg];unfold ZP;rw[if_pos rfl]
    rcases Zl3 r (f+1) _ _ K ha hs1 h with g | g
    ·simp only[DC] at g
     exact g
    ·subst g
     exact h
   | sl=>cases ha
  | _=>cases ha
theorem ZDb{m:Nat}{p x:X}:op2 C d (.s0 m p x) ⟨lvl,env,loc,out⟩ K=(smp (xv env p) (cellsOf (xv env x))/\op2 C d (.st m p x) ⟨lvl,env,loc,out⟩ K):=by
 rw[Jk rfl,Jk rfl]
 simp only[ew,Zbp]
 generalize cellsOf (xv env x)=v
 generalize xv env p=q
 apply propext
 constructor
 ·rintro⟨h0,h⟩
  split at h <;> try contradiction
  rename_i l
  obtain⟨h1,h⟩:=h
  split at h <;> try contradiction
  ·exact⟨trivial,h0,h1,h⟩
  ·rename_i id p i f s
   split at h <;> try contradiction
   rename_i k es u hw ver hs
   obtain⟨g1,g2,g3⟩:=h
   refine⟨⟨by simpa using g1,?_⟩,h0,h1,ZhX g2 l f es _ K hs g3 (fun e=>absurd e g1)⟩
   have:∀(l:List IV) (f:Nat) (es:Row) (K:Row->Prop),stq p i f l es K->ZrS l:=by
    intro l
    induction l with
    | nil=>intros;trivial
    | cons x r ih =>
     intro f es K h
     simp only[stq] at h
     obtain⟨_,_,_,_,_,_,_,h⟩:=h
     split at h <;> try contradiction
     exact ih _ _ _ h
   exact this _ _ _ _ g3
 ·rintro⟨h3,h0,h⟩
  refine⟨h0,?_⟩
  split at h <;> try contradiction
  rename_i l
  obtain⟨h1,h⟩:=h
  refine⟨h1,?_⟩
  split at h <;> try contradiction
  ·exact h
  ·rename_i id p i f s
   obtain⟨g1,g2⟩:=h3
   cases l with
   | nil=>exact absurd rfl g1
   | cons y r =>
    have h':=h
    simp only[ZhK,stc] at h'
    split at h' <;> try contradiction
    rename_i k es u hw ver hs
    refine⟨by simp,h'.choose_spec.2.1,?_⟩
    rcases Zl3 _ _ _ _ K g2 hs h with g | g
    ·exact g
    ·cases g
theorem ZDc{k:Nat}{x y:X}:op2 C d (.a0 k x y) ⟨lvl,env,loc,out⟩ K=(Zv7 (xv env x)/\op2 C d (.ap k 0 x y) ⟨lvl,env,loc,out⟩ K):=by
 rw[Jk rfl,Jk rfl]
 apply propext
 constructor
 ·intro he
  refine⟨?_,ZlP he⟩
  simp only[ew,Zbp] at he
  split at he <;> try contradiction
  rename_i hx
  rw[hx];trivial
 ·rintro⟨h1,h⟩
  generalize hq:xv env x=q at h1
  unfold Zv7 at h1
  split at h1 <;> try contradiction
  rename_i id len s
  have go:∀ items:Row,ScR items->DX d k x loc items true ⟨lvl,env,loc,out⟩ K->match ZG lvl loc out id with
   | some (.ar k' es u hw ver)=>k'=k/\s=hw/\len=es.length/\ScR items/\UnR k items/\len+items.length<=bigN /\
     K { Zo ⟨lvl,env,loc,out⟩ id (.ar k (es++items) u (max hw (len+items.length)) ver) with env:=ptd d (.hd id [] 0 (len+items.length) none (max hw (len+items.length))) env }
   | _=>False:=fun items hsc h=>by
   unfold DX at h
   obtain⟨g1,h⟩:=h
   simp only[hq] at h
   rw[show (⟨lvl,env,loc,out⟩:St).sto id=ZG lvl loc out id from rfl] at h
   generalize ZG lvl loc out id=o at h ⊢
   cases o with
   | none=>exact h
   | some ob =>
    cases ob with
    | bx=>exact h
    | ar k' es u hw ver =>
     simp only[Bool.and_true] at h
     exact⟨h.1,h.2.1,h.2.2.1,hsc,g1,h.2.2.2.1,h.2.2.2.2⟩
  simp only[ew,Zbp,ZkB] at h ⊢
  rw[hq]
  rw[show (⟨lvl,env,loc,out⟩:St).sto=ZG lvl loc out from rfl] at *
  split at h <;> try contradiction
  ·rename_i zs hy
   simp only[if_true] at h
   have:=go zs h.1 h.2
   rw[hy]
   exact this
  ·rename_i zs hy
   simp only[if_true] at h
   have:=go zs h.1 h.2
   rw[hy]
   exact this
  ·rename_i id2 p2 off2 len2 c2 s2 hy
   simp only[if_true] at h
   rw[hy]
   dsimp only
   unfold rdh at h ⊢
   generalize ZG lvl loc out id2=o3 at h ⊢
   cases o3 with
   | none=>exact h.elim
   | some ob3 =>
    cases ob3 with
    | bx=>exact h.elim
    | ar k3 es3 u3 hw3 ver3 =>
     obtain⟨es',q1,q2,q3,q4,q5⟩:=h
     have:=go _ q4 q5
     split at this <;> try contradiction
     rename_i hs
     show (match ZG lvl loc out id with
      | some (.ar k' es u hw ver)=>k'=k/\s=hw/\len=es.length/\∃ es',getp es3 p2=some es'/\XF p2 s2 hw3 ver3 u3/\off2+len2<=es'.length/\ScR (cut es' off2 len2)/\UnR k (cut es' off2 len2)/\len+(cut es' off2 len2).length<=bigN /\
        K { Zo ⟨lvl,env,loc,out⟩ id (.ar k (es++cut es' off2 len2) u (max hw (len+(cut es' off2 len2).length)) ver) with env:=ptd d (.hd id [] 0 (len+(cut es' off2 len2).length) none (max hw (len+(cut es' off2 len2).length))) env }
      | _=>False)
     rw[hs]
     exact⟨this.1,this.2.1,this.2.2.1,es',q1,q2,q3,this.2.2.2⟩
  ·exact absurd h.1 (by decide)
def ZxR:IV->Prop
 | .tr (.sl _)=>True
 | .cs _=>True
 | _=>False
theorem Ztm{es:Row}:ZxR (.tr (.sl es))=True:=(rfl)
theorem Ztn{es:Row}:ZxR (.cs es)=True:=(rfl)
theorem ZDd{k:Nat}{x y:X}:op2 C d (.a1 k x y) ⟨lvl,env,loc,out⟩ K=(Zv7 (xv env x)/\ZxR (xv env y)/\op2 C d (.ap k 1 x y) ⟨lvl,env,loc,out⟩ K):=by
 rw[Jk rfl,Jk rfl]
 apply propext
 constructor
 ·intro he
  refine⟨?_,?_,ZlQ he⟩
  ·simp only[ew,Zbp] at he
   split at he <;> try contradiction
   rename_i hx
   rw[hx];trivial
  ·simp only[ew,Zbp] at he
   split at he <;> try contradiction
   split at he <;> try contradiction
   have h4:=he.2.2.2
   unfold Zuc at h4
   split at h4 <;> try contradiction
   ·rename_i hy;rw[hy];trivial
   ·rename_i hy;rw[hy];trivial
 ·rintro⟨h1,h2,h⟩
  generalize hq:xv env x=q at h1
  unfold Zv7 at h1
  split at h1 <;> try contradiction
  rename_i id len s
  have go:∀ items:Row,DX d k x loc items false ⟨lvl,env,loc,out⟩ K->match ZG lvl loc out id with
   | some (.ar k' es u hw ver)=>k'=k/\s=hw/\len=es.length/\UnR k items/\len+items.length<=bigN /\
     K { Zo ⟨lvl,env,loc,out⟩ id (.ar k (es++items) false (max hw (len+items.length)) ver) with env:=ptd d (.hd id [] 0 (len+items.length) none (max hw (len+items.length))) env }
   | _=>False:=fun items h=>by
   unfold DX at h
   obtain⟨g1,h⟩:=h
   simp only[hq] at h
   rw[show (⟨lvl,env,loc,out⟩:St).sto id=ZG lvl loc out id from rfl] at h
   generalize ZG lvl loc out id=o at h ⊢
   cases o with
   | none=>exact h
   | some ob =>
    cases ob with
    | bx=>exact h
    | ar k' es u hw ver =>
     simp only[Bool.and_false] at h
     exact⟨h.1,h.2.1,h.2.2.1,g1,h.2.2.2.1,h.2.2.2.2⟩
  simp only[ew,Zbp,Zuc] at h ⊢
  rw[hq]
  rw[show (⟨lvl,env,loc,out⟩:St).sto=ZG lvl loc out from rfl] at *
  generalize hy:xv env y=yv at h h2 ⊢
  unfold ZxR at h2
  split at h2 <;> try contradiction
  ·simp only[Nat.reduceEqDiff,if_false,true_and] at h
   exact go _ h
  ·simp only[Nat.reduceEqDiff,if_false,true_and] at h
   exact go _ h
def az1(x n:IV)(d:Option Nat)(k:Nat)(z:List Value)(st:St)(K:St->Prop):Prop :=
 match x with
 | .cs [] =>
  match n with
  | .tr (.v (.int .i64 m))=>0<m/\m<=bigN/\freshK (keyOf d) st.loc 1 /\
    K { Zo st (st.lvl,keyOf d) (.ar k (List.replicate m.toNat (z.map trv)) true m.toNat 0) with env:=ptd d (.hd (st.lvl,keyOf d) [] 0 m.toNat none m.toNat) st.env }
  | _=>False
 | _=>False
theorem ZDe{k:Nat}{z:List Value}{x n:X}:op2 C d (.az k z x n) ⟨lvl,env,loc,out⟩ K=az1 (xv env x) (xv env n) d k z ⟨lvl,env,loc,out⟩ K:=by
 rw[Jk rfl]
 rfl
theorem ZAZ{k:Nat}{z:List Value}{m:Int}:az1 (.cs []) (.tr (.v (.int .i64 m))) d k z ⟨lvl,env,loc,out⟩ K=(0<m/\m<=bigN/\freshK (keyOf d) loc 1/\K ⟨lvl,ptd d (.hd (lvl,keyOf d) [] 0 m.toNat none m.toNat) env,ptO (keyOf d) (.ar k (List.replicate m.toNat (z.map trv)) true m.toNat 0) loc,out⟩):=by
 simp only[az1,Zb2]
def tbx:IV->Prop
 | .ta _=>True
 | _=>False
theorem ZA0{cells:List Tr}:tbx (.ta cells)=True:=(rfl)
theorem ZDf{m:Option Nat}{p:X}:op2 C d (.lt m p) ⟨lvl,env,loc,out⟩ K=(tbx (xv env p)/\op2 C d (.ld m p) ⟨lvl,env,loc,out⟩ K):=by
 cases m <;> (
  rw[Yb rfl,Yb rfl]
  simp only[ev]
  generalize hx:xv env p=q
  cases q <;> simp [tbx])
def av4(o:Option Ob)(id:Oid)(es:Row)(hw ver len off2 len2 s2 k:Nat)(d:Option Nat)(st:St)(K:St->Prop):Prop :=
 match o with
 | some (.ar _ es2 false hw2 _)=>s2=hw2/\off2+len2<=es2.length/\UnR k (cut es2 off2 len2)/\len+(cut es2 off2 len2).length<=bigN /\
   K { Zo st id (.ar k (es++cut es2 off2 len2) false (max hw (len+(cut es2 off2 len2).length)) ver) with env:=ptd d (.hd id [] 0 (len+(cut es2 off2 len2).length) none (max hw (len+(cut es2 off2 len2).length))) st.env }
 | _=>False
def av3(y:IV)(id:Oid)(es:Row)(hw ver len k:Nat)(d:Option Nat)(st:St)(K:St->Prop):Prop :=
 match y with
 | .hd id2 [] off2 len2 _ s2=>av4 (st.sto id2) id es hw ver len off2 len2 s2 k d st K
 | _=>False
def av2(o:Option Ob)(y:IV)(id:Oid)(len s k:Nat)(d:Option Nat)(st:St)(K:St->Prop):Prop :=
 match o with
 | some (.ar k' es _ hw ver)=>k'=k/\s=hw/\len=es.length/\av3 y id es hw ver len k d st K
 | _=>False
def av1(x y:IV)(k:Nat)(d:Option Nat)(st:St)(K:St->Prop):Prop :=
 match x with
 | .hd id [] 0 len none s=>av2 (st.sto id) y id len s k d st K
 | _=>False
theorem ZDg{k:Nat}{x y:X}:op2 C d (.a2 k x y) ⟨lvl,env,loc,out⟩ K=av1 (xv env x) (xv env y) k d ⟨lvl,env,loc,out⟩ K:=by
 rw[Jk rfl]
 rfl
theorem ZA1{id:Oid}{len s k:Nat}{y:IV}:av1 (.hd id [] 0 len none s) y k d ⟨lvl,env,loc,out⟩ K=av2 (ZG lvl loc out id) y id len s k d ⟨lvl,env,loc,out⟩ K:=(rfl)
theorem ZA2{k' hw ver len s k:Nat}{es:Row}{u:Bool}{y:IV}{id:Oid}:av2 (some (.ar k' es u hw ver)) y id len s k d st K=(k'=k/\s=hw/\len=es.length/\av3 y id es hw ver len k d st K):=(rfl)
theorem ZA3{id id2:Oid}{es:Row}{hw ver len k off2 len2 s2:Nat}{c2:Option Nat}:av3 (.hd id2 [] off2 len2 c2 s2) id es hw ver len k d ⟨lvl,env,loc,out⟩ K=av4 (ZG lvl loc out id2) id es hw ver len off2 len2 s2 k d ⟨lvl,env,loc,out⟩ K:=(rfl)
theorem ZA4{key:Nat}{es es2:Row}{k2 hw ver len off2 len2 s2 k hw2 ver2:Nat}:av4 (some (.ar k2 es2 false hw2 ver2)) (lvl,key) es hw ver len off2 len2 s2 k d ⟨lvl,env,loc,out⟩ K=(s2=hw2/\off2+len2<=es2.length/\UnR k (cut es2 off2 len2)/\len+(cut es2 off2 len2).length<=bigN /\
   K ⟨lvl,ptd d (.hd (lvl,key) [] 0 (len+(cut es2 off2 len2).length) none (max hw (len+(cut es2 off2 len2).length))) env,ptO key (.ar k (es++cut es2 off2 len2) false (max hw (len+(cut es2 off2 len2).length)) ver) loc,out⟩):=by
 simp only[av4,Zb2]
def abx:IV->Prop
 | .ab .. => True
 | _=>False
theorem ZA5{id:Oid}{off:Nat}:abx (.ab id off)=True:=(rfl)
theorem ZDh{m:Option Nat}{p:X}:op2 C d (.lb m p) ⟨lvl,env,loc,out⟩ K=(abx (xv env p)/\op2 C d (.ld m p) ⟨lvl,env,loc,out⟩ K):=by
 cases m <;> (
  rw[Yb rfl,Yb rfl]
  simp only[ev]
  generalize hx:xv env p=q
  cases q <;> simp [abx])
def tcs:IV->Prop
 | .tr (.sl _)=>True
 | .cs _=>True
 | _=>False
theorem Zwb{es:Row}:tcs (.tr (.sl es))=True:=(rfl)
theorem Zwc{es:Row}:tcs (.cs es)=True:=(rfl)
theorem ZDi{k:Nat}{x:X}{lo hi mx:Option X}:op2 C d (.sy k x lo hi mx) ⟨lvl,env,loc,out⟩ K=(tcs (xv env x)/\op2 C d (.sx k x lo hi mx) ⟨lvl,env,loc,out⟩ K):=by
 rw[Yb rfl,Yb rfl]
 simp only[ev]
 generalize hx:xv env x=q
 cases q with
 | tr t =>
  cases t with
  | v=>simp [tcs]
  | sl es=>simp only[tcs,true_and]
 | cs es=>simp only[tcs,true_and]
 | _=>simp only[tcs,false_and]
def swx(L:Sto)(k:Nat):IV->Prop
 | .tr (.sl _)=>True
 | .cs _=>True
 | .hd id [] _ _ _ _=>wid L id [] k
 | _=>False
theorem Zwd{L:Sto}{k:Nat}{es:Row}:swx L k (.tr (.sl es))=True:=(rfl)
theorem Zwe{L:Sto}{k:Nat}{es:Row}:swx L k (.cs es)=True:=(rfl)
theorem Zwf{L:Sto}{k:Nat}{id:Oid}{off len s:Nat}{cap:Option Nat}:swx L k (.hd id [] off len cap s)=wid L id [] k:=(rfl)
def ZCe(m:Nat):Option Ob->Prop
 | some (.ar k _ _ _ _)=>k=m
 | _=>False
theorem Zwg{m k hw ver:Nat}{es:Row}{u:Bool}:ZCe m (some (.ar k es u hw ver))=(k=m):=(rfl)
theorem Zwh{key m:Nat}:wid (ZG lvl loc out) (lvl,key) [] m=ZCe m (lkO key loc):=by
 unfold wid
 rw[YV]
 cases lkO key loc with
 | none=>rfl
 | some ob=>cases ob <;> rfl
theorem ZDj{k:Nat}{x:X}{lo hi mx:Option X}:op2 C d (.sw k x lo hi mx) ⟨lvl,env,loc,out⟩ K=(swx (ZG lvl loc out) k (xv env x)/\op2 C d (.sx k x lo hi mx) ⟨lvl,env,loc,out⟩ K):=by
 rw[Yb rfl,Yb rfl]
 simp only[ev]
 generalize xv env x=q
 cases q with
 | tr t =>
  cases t with
  | v=>simp [swx]
  | sl es=>simp only[swx,true_and]
 | cs es=>simp only[swx,true_and]
 | hd id p off len cap s =>
  cases p with
  | nil =>
   simp only[swx]
   exact propext ⟨fun⟨hw,h⟩=>⟨hw,Q8 (fun a h=>Q8 (fun b h=>⟨h.1,h.2.1,Q8 (fun m g=>⟨g.1,g.2.1,hw,g.2.2⟩) h.2.2⟩) h) h⟩,fun⟨hw,h⟩=>⟨hw,Q8 (fun a h=>Q8 (fun b h=>⟨h.1,h.2.1,Q8 (fun m g=>⟨g.1,g.2.1,g.2.2.2⟩) h.2.2⟩) h) h⟩⟩
  | cons c r=>simp [swx]
 | _=>simp [swx]
theorem ZDk{k:Nat}{x i:X}:op2 C d (.it k x i) ⟨lvl,env,loc,out⟩ K=(tcs (xv env x)/\op2 C d (.ia k x i) ⟨lvl,env,loc,out⟩ K):=by
 rw[Yb rfl,Yb rfl]
 simp only[ev]
 generalize xv env x=q
 generalize xv env i=qi
 cases q with
 | tr t =>
  cases t with
  | v=>simp only[tcs,false_and];split <;> simp
  | sl es=>simp only[tcs,true_and]
 | cs es=>simp only[tcs,true_and]
 | _=>simp only[tcs,false_and];split <;> simp
def apx(v:IV)(d:Option Nat)(k:Nat)(loc0:List (Nat×Ob))(items:Row)(ui:Bool)(st1:St)(K:St->Prop):Prop :=
 UnR k items /\
 match v with
 | .cs zs=>(zs=[]\/items≠[])/\zs.length+items.length<=bigN/\UnR k zs/\freshK (keyOf d) loc0 1/\(zs=[]\/ui=false\/ScR zs) /\
  K { Zo st1 (st1.lvl,keyOf d) (.ar k (zs++items) ui (zs.length+items.length) 0) with env:=ptd d (.hd (st1.lvl,keyOf d) [] 0 (zs.length+items.length) none (zs.length+items.length)) st1.env }
 | .hd id [] 0 len none s =>
  match st1.sto id with
  | some (.ar k' es u hw ver)=>k'=k/\s=hw/\len=es.length/\len+items.length<=bigN /\
   K { Zo st1 id (.ar k (es++items) (u&&ui) (max hw (len+items.length)) ver) with env:=ptd d (.hd id [] 0 (len+items.length) none (max hw (len+items.length))) st1.env }
  | _=>False
 | _=>False
theorem Zwi{k:Nat}{x:X}{loc0:List (Nat×Ob)}{items:Row}{ui:Bool}:DX d k x loc0 items ui ⟨lvl,env,loc,out⟩ K=apx (xv env x) d k loc0 items ui ⟨lvl,env,loc,out⟩ K:=(rfl)
theorem Zwj{k:Nat}{loc0:List (Nat×Ob)}{items zs:Row}{ui:Bool}:apx (.cs zs) d k loc0 items ui ⟨lvl,env,loc,out⟩ K=(UnR k items/\(zs=[]\/items≠[])/\zs.length+items.length<=bigN/\UnR k zs/\freshK (keyOf d) loc0 1/\(zs=[]\/ui=false\/ScR zs) /\
  K ⟨lvl,ptd d (.hd (lvl,keyOf d) [] 0 (zs.length+items.length) none (zs.length+items.length)) env,ptO (keyOf d) (.ar k (zs++items) ui (zs.length+items.length) 0) loc,out⟩):=by
 simp only[apx,Zb2]
def aph(o:Option Ob)(d:Option Nat)(k:Nat)(id:Oid)(len s:Nat)(items:Row)(ui:Bool)(st1:St)(K:St->Prop):Prop :=
 match o with
 | some (.ar k' es u hw ver)=>k'=k/\s=hw/\len=es.length/\len+items.length<=bigN /\
   K { Zo st1 id (.ar k (es++items) (u&&ui) (max hw (len+items.length)) ver) with env:=ptd d (.hd id [] 0 (len+items.length) none (max hw (len+items.length))) st1.env }
 | _=>False
theorem Zwk{k key len s:Nat}{loc0:List (Nat×Ob)}{items:Row}{ui:Bool}:apx (.hd (lvl,key) [] 0 len none s) d k loc0 items ui ⟨lvl,env,loc,out⟩ K=(UnR k items/\aph (lkO key loc) d k (lvl,key) len s items ui ⟨lvl,env,loc,out⟩ K):=by
 simp only[apx]
 rw[show (⟨lvl,env,loc,out⟩:St).sto (lvl,key)=lkO key loc from YV]
 rfl
theorem ZA6{k k' key len s:Nat}{items es:Row}{u ui:Bool}{hw ver:Nat}:aph (some (.ar k' es u hw ver)) d k (lvl,key) len s items ui ⟨lvl,env,loc,out⟩ K=(k'=k/\s=hw/\len=es.length/\len+items.length<=bigN /\
   K ⟨lvl,ptd d (.hd (lvl,key) [] 0 (len+items.length) none (max hw (len+items.length))) env,ptO key (.ar k (es++items) (u&&ui) (max hw (len+items.length)) ver) loc,out⟩):=by
 simp only[aph,Zb2]
def ap2(C:Zk)(d:Option Nat)(k md:Nat)(x:X)(y:IV)(st:St)(K:St->Prop):Prop :=
 match y with
 | .tr (.sl es)=>if md=0 then ScR es/\DX d k x st.loc es true st K else md=1/\DX d k x st.loc es false st K
 | .cs es=>if md=0 then ScR es/\DX d k x st.loc es true st K else md=1/\DX d k x st.loc es false st K
 | .hd id2 p2 off2 len2 c2 s2 =>
   if md=2 then
    p2=[]/\off2=0/\c2=none/\id2.1=st.lvl /\
    match st.sto id2 with
    | some (.ar _ zs u2 hw2 _)=>s2=hw2/\len2=zs.length/\DX d k x st.loc zs u2 (YY id2 st) K
    | _=>False
   else if md=0 then
    rdh st.sto id2 p2 s2 fun es _ _=>off2+len2<=es.length/\ScR (cut es off2 len2)/\DX d k x st.loc (cut es off2 len2) true st K
   else md=1/\p2=[] /\
    match st.sto id2 with
    | some (.ar k2 es _ hw2 ver2)=>s2=hw2/\off2+len2<=es.length/\DX d k x st.loc (cut es off2 len2) false (Zo st id2 (.ar k2 es false hw2 ver2)) K
    | _=>False
 | .sv id2=>md=2/\id2.1=st.lvl /\
   match st.sto id2 with
   | some (.bx l)=>l.length=k/\ZkD l st fun ts u st' => DX d k x st.loc [ts] u (YY id2 st') K
   | _=>False
 | _=>False
theorem ZDl{k md:Nat}{x y:X}:op2 C d (.ap k md x y) ⟨lvl,env,loc,out⟩ K=ap2 C d k md x (xv env y) ⟨lvl,env,loc,out⟩ K:=by
 rw[Jk rfl]
 rfl
section ap
variable {k:Nat} {x:X}
theorem ZA7{es:Row}:ap2 C d k 0 x (.tr (.sl es)) ⟨lvl,env,loc,out⟩ K=(ScR es/\DX d k x loc es true ⟨lvl,env,loc,out⟩ K):=(rfl)
theorem ZA8{es:Row}:ap2 C d k 1 x (.tr (.sl es)) ⟨lvl,env,loc,out⟩ K=DX d k x loc es false ⟨lvl,env,loc,out⟩ K:=by simp [ap2]
theorem Zwl{es:Row}:ap2 C d k 0 x (.cs es) ⟨lvl,env,loc,out⟩ K=(ScR es/\DX d k x loc es true ⟨lvl,env,loc,out⟩ K):=(rfl)
theorem Zwm{es:Row}:ap2 C d k 1 x (.cs es) ⟨lvl,env,loc,out⟩ K=DX d k x loc es false ⟨lvl,env,loc,out⟩ K:=by simp [ap2]
def kap(d:Option Nat)(k:Nat)(x:X)(off2 len2:Nat)(st:St)(K:St->Prop)(es:Row)(_u:Bool)(_v:Nat):Prop:=off2+len2<=es.length/\ScR (cut es off2 len2)/\DX d k x st.loc (cut es off2 len2) true st K
theorem ZA9{off2 len2:Nat}{es:Row}{u:Bool}{v:Nat}:kap d k x off2 len2 ⟨lvl,env,loc,out⟩ K es u v=(off2+len2<=es.length/\ScR (cut es off2 len2)/\DX d k x loc (cut es off2 len2) true ⟨lvl,env,loc,out⟩ K):=(rfl)
theorem Zwn{id2:Oid}{p2:Pth}{off2 len2 s2:Nat}{c2:Option Nat}:ap2 C d k 0 x (.hd id2 p2 off2 len2 c2 s2) ⟨lvl,env,loc,out⟩ K=rd3 (ZG lvl loc out id2) p2 s2 (kap d k x off2 len2 ⟨lvl,env,loc,out⟩ K):=by
 rw[<-Zaz]
 rfl
def ap5(o:Option Ob)(d:Option Nat)(k:Nat)(x:X)(len2 s2:Nat)(loc0:List (Nat×Ob))(st1:St)(K:St->Prop):Prop :=
 match o with
 | some (.ar _ zs u2 hw2 _)=>s2=hw2/\len2=zs.length/\DX d k x loc0 zs u2 st1 K
 | _=>False
theorem Zwo{key:Nat}{p2:Pth}{off2 len2 s2:Nat}{c2:Option Nat}:ap2 C d k 2 x (.hd (lvl,key) p2 off2 len2 c2 s2) ⟨lvl,env,loc,out⟩ K=(p2=[]/\off2=0/\c2=none/\ap5 (lkO key loc) d k x len2 s2 loc (YY (lvl,key) ⟨lvl,env,loc,out⟩) K):=by
 simp only[ap2,if_true]
 rw[show (⟨lvl,env,loc,out⟩:St).sto (lvl,key)=lkO key loc from YV]
 generalize lkO key loc=o
 apply propext
 constructor
 ·rintro⟨h1,h2,h3,_,h5⟩
  refine⟨h1,h2,h3,?_⟩
  cases o with
  | none=>exact h5
  | some ob=>cases ob <;> exact h5
 ·rintro⟨h1,h2,h3,h5⟩
  refine⟨h1,h2,h3,trivial,?_⟩
  cases o with
  | none=>exact h5
  | some ob=>cases ob <;> exact h5
theorem ZBa{k2:Nat}{zs:Row}{u2:Bool}{hw2 ver2 len2 s2:Nat}{loc0:List (Nat×Ob)}{st1:St}:ap5 (some (.ar k2 zs u2 hw2 ver2)) d k x len2 s2 loc0 st1 K=(s2=hw2/\len2=zs.length/\DX d k x loc0 zs u2 st1 K):=(rfl)
def ZBb(d:Option Nat)(k:Nat)(x:X)(loc0:List (Nat×Ob))(id2:Oid)(K:St->Prop)(ts:List Tr)(u:Bool)(st':St):Prop:=DX d k x loc0 [ts] u (YY id2 st') K
theorem Zwp{loc0:List (Nat×Ob)}{id2:Oid}{ts:List Tr}{u:Bool}:ZBb d k x loc0 id2 K ts u st=DX d k x loc0 [ts] u (YY id2 st) K:=(rfl)
def aps(o:Option Ob)(d:Option Nat)(k:Nat)(x:X)(loc0:List (Nat×Ob))(id2:Oid)(st1:St)(K:St->Prop):Prop :=
 match o with
 | some (.bx l)=>l.length=k/\ZkD l st1 (ZBb d k x loc0 id2 K)
 | _=>False
theorem ZBc{l:List IV}{loc0:List (Nat×Ob)}{id2:Oid}{st1:St}:aps (some (.bx l)) d k x loc0 id2 st1 K=(l.length=k/\ZkD l st1 (ZBb d k x loc0 id2 K)):=(rfl)
theorem Zwq{key:Nat}:ap2 C d k 2 x (.sv (lvl,key)) ⟨lvl,env,loc,out⟩ K=aps (lkO key loc) d k x loc (lvl,key) ⟨lvl,env,loc,out⟩ K:=by
 simp only[ap2]
 rw[show (⟨lvl,env,loc,out⟩:St).sto (lvl,key)=lkO key loc from YV]
 generalize lkO key loc=o
 apply propext
 constructor
 ·rintro⟨_,_,h⟩
  cases o with
  | none=>exact h
  | some ob=>cases ob <;> exact h
 ·intro h
  refine⟨trivial,trivial,?_⟩
  cases o with
  | none=>exact h
  | some ob=>cases ob <;> exact h
end ap
theorem Zto{L:Sto}{F:List IV->Prop}:∀{l:List Tr},JE L (l.map .tr) F=F (l.map .tr)
 | []=>ZsQ
 | t::r=>by rw[List.map_cons,Zvl,Zto,Zvh]
theorem Zic{Pd:Oid->Prop}:∀{l:List Tr},Zd Pd (l.map .tr)=True
 | []=>rfl
 | t::r=>by simp only[List.map_cons,Zd,men,Zic,and_self]
def nlf(v:IV)(neg:Bool)(lvl:Nat)(env:List (Nat×IV))(loc:List (Nat×Ob))(out:Sto)(d:Option Nat)(K:St->Prop):Prop :=
 match v with
 | .tr (.sl es)=>K ⟨lvl,ptd d (iB neg) env,loc,out⟩/\(es=[]->K ⟨lvl,ptd d (iB !neg) env,loc,out⟩)
 | .cs es=>K ⟨lvl,ptd d (iB neg) env,loc,out⟩/\(es=[]->K ⟨lvl,ptd d (iB !neg) env,loc,out⟩)
 | _=>False
theorem ZDm{C:Zk}{d:Option Nat}{neg:Bool}{x:X}{lvl:Nat}{env:List (Nat×IV)}{loc:List (Nat×Ob)}{out:Sto}{K:St->Prop}:op2 C d (.nl neg x) ⟨lvl,env,loc,out⟩ K=nlf (xv env x) neg lvl env loc out d K:=by
 rw[Jk rfl]
 rfl
theorem ZBd{neg:Bool}{es:Row}{d:Option Nat}{lvl:Nat}{env:List (Nat×IV)}{loc:List (Nat×Ob)}{out:Sto}{K:St->Prop}:nlf (.tr (.sl es)) neg lvl env loc out d K=(K ⟨lvl,ptd d (iB neg) env,loc,out⟩/\(es=[]->K ⟨lvl,ptd d (iB !neg) env,loc,out⟩)):=(rfl)
theorem ZBe{neg:Bool}{es:Row}{d:Option Nat}{lvl:Nat}{env:List (Nat×IV)}{loc:List (Nat×Ob)}{out:Sto}{K:St->Prop}:nlf (.cs es) neg lvl env loc out d K=(K ⟨lvl,ptd d (iB neg) env,loc,out⟩/\(es=[]->K ⟨lvl,ptd d (iB !neg) env,loc,out⟩)):=(rfl)
section row
variable {C:Zk} {d:Option Nat} {x y hi:X} {lvl:Nat} {env:List (Nat×IV)} {loc:List (Nat×Ob)} {out:Sto} {K:St->Prop} {st:St}
def Zjd(d:Option Nat)(x:IV)(st:St)(K:St->Prop):Prop:=K { st with env:=ptd d x st.env }
theorem Zwr{v:IV}:Zjd d v ⟨lvl,env,loc,out⟩ K=K ⟨lvl,ptd d v env,loc,out⟩:=(rfl)
theorem Ze5{v:IV}{id:Oid}{ob:Ob}:Zjd d v (Zo st id ob) K=K { Zo st id ob with env:=ptd d v st.env }:=by
 unfold Zjd
 rw[X7]
def cpf(v:IV)(lvl:Nat)(env:List (Nat×IV))(loc:List (Nat×Ob))(out:Sto)(d:Option Nat)(K:St->Prop):Prop :=
 match v with
 | .cs es=>K ⟨lvl,ptd d (iI es.length) env,loc,out⟩
 | _=>False
theorem ZDn:op2 C d (.cp x) ⟨lvl,env,loc,out⟩ K=cpf (xv env x) lvl env loc out d K:=by
 rw[Jk rfl]
 rfl
theorem ZBf{es:Row}:cpf (.cs es) lvl env loc out d K=K ⟨lvl,ptd d (iI es.length) env,loc,out⟩:=(rfl)
def shg(o:Option Ob)(id:Oid)(m:Int)(len s k:Nat)(d:Option Nat)(st:St)(K:St->Prop):Prop :=
 match o with
 | some (.ar k2 es u hw ver)=>k2=k/\s=hw/\0<=m/\m.toNat<=len/\len<=es.length/\Zjd d (.hd id [] 0 m.toNat none hw) (Zo st id (.ar k2 (es.take m.toNat) u hw (ver+1))) K
 | _=>False
def shf(v hv:IV)(k:Nat)(d:Option Nat)(st:St)(K:St->Prop):Prop :=
 match v with
 | .cs es =>
  match hv with
  | .tr (.v (.int _ m))=>m=es.length/\UnR k es/\Zjd d (.cs es) st K
  | _=>False
 | .hd id p off len cap s =>
  match hv with
  | .tr (.v (.int _ m))=>p=[]/\off=0/\cap=none/\shg (st.sto id) id m len s k d st K
  | _=>False
 | _=>False
theorem ZDo{k:Nat}:op2 C d (.sh k x hi) ⟨lvl,env,loc,out⟩ K=shf (xv env x) (xv env hi) k d ⟨lvl,env,loc,out⟩ K:=by
 rw[Jk rfl]
 simp only[ew]
 generalize xv env x=v
 cases v <;> try rfl
 rename_i id p off len cap s
 generalize xv env hi=hv
 cases hv <;> try rfl
 rename_i t
 cases t <;> try rfl
 rename_i q
 cases q <;> try rfl
 simp only[shf,shg]
 generalize (⟨lvl,env,loc,out⟩:St).sto id=o
 cases o with
 | none=>simp
 | some ob =>
  cases ob with
  | bx=>simp
  | ar k2 es u hw ver=>simp only[Ze5]
theorem ZBg{id:Oid}{len s k:Nat}{kk:IntKind}{m:Int}:shf (.hd id [] 0 len none s) (.tr (.v (.int kk m))) k d ⟨lvl,env,loc,out⟩ K=shg (ZG lvl loc out id) id m len s k d ⟨lvl,env,loc,out⟩ K:=by
 simp only[shf,true_and]
 rfl
theorem ZBh{es:Row}{k:Nat}{kk:IntKind}{m:Int}:shf (.cs es) (.tr (.v (.int kk m))) k d ⟨lvl,env,loc,out⟩ K=(m=es.length/\UnR k es/\Zjd d (.cs es) ⟨lvl,env,loc,out⟩ K):=(rfl)
theorem ZBi{id:Oid}{len s k k2 hw ver:Nat}{es:Row}{u:Bool}{m:Int}:shg (some (.ar k2 es u hw ver)) id m len s k d st K=(k2=k/\s=hw/\0<=m/\m.toNat<=len/\len<=es.length/\Zjd d (.hd id [] 0 m.toNat none hw) (Zo st id (.ar k2 (es.take m.toNat) u hw (ver+1))) K):=(rfl)
def fzg(o:Option Ob)(len s:Nat)(d:Option Nat)(st1:St)(K:St->Prop):Prop :=
 match o with
 | some (.ar _ zs _ hw _)=>s=hw/\len=zs.length/\Zjd d (.tr (.sl zs)) st1 K
 | _=>False
def fzf(v:IV)(d:Option Nat)(st:St)(K:St->Prop):Prop :=
 match v with
 | .hd id [] 0 len none s=>id.1=st.lvl/\fzg (st.sto id) len s d (YY id st) K
 | _=>False
theorem ZDp:op2 C d (.fz x) ⟨lvl,env,loc,out⟩ K=fzf (xv env x) d ⟨lvl,env,loc,out⟩ K:=by
 rw[Jk rfl]
 simp only[ew]
 generalize xv env x=v
 unfold fzf
 split
 ·rename_i id len s
  simp only[fzg]
  generalize (⟨lvl,env,loc,out⟩:St).sto id=o
  cases o with
  | none=>rfl
  | some ob=>cases ob <;> rfl
 ·rename_i hv
  split
  ·exact(hv _ _ _ rfl).elim
  ·rfl
theorem ZBj{key len s:Nat}:fzf (.hd (lvl,key) [] 0 len none s) d ⟨lvl,env,loc,out⟩ K=fzg (lkO key loc) len s d (YY (lvl,key) ⟨lvl,env,loc,out⟩) K:=by
 simp only[fzf,true_and]
 rw[show (⟨lvl,env,loc,out⟩:St).sto (lvl,key)=lkO key loc from YV]
theorem ZBk{len s k hw ver:Nat}{zs:Row}{u:Bool}:fzg (some (.ar k zs u hw ver)) len s d st K=(s=hw/\len=zs.length/\Zjd d (.tr (.sl zs)) st K):=(rfl)
def drp(o:Option Ob)(id:Oid)(st:St):St :=
 match o with
 | none=>st
 | some _=>YY id st
theorem Zws{id:Oid}:drp none id st=st:=(rfl)
theorem Zwt{ob:Ob}{id:Oid}:drp (some ob) id st=YY id st:=(rfl)
def rkg(o:Option Ob)(len s:Nat)(id0:Oid)(d:Option Nat)(st1:St)(K:St->Prop):Prop :=
 match o with
 | some (.ar k zs u hw ver)=>s=hw/\len=zs.length/\Zjd d (.hd id0 [] 0 len none s) (Zo st1 id0 (.ar k zs u hw ver)) K
 | _=>False
def rkf(v:IV)(d:Option Nat)(st:St)(K:St->Prop):Prop :=
 match v with
 | .hd id [] 0 len none s=>id.1=st.lvl/\(st.lvl,keyOf d)≠id/\rkg (st.sto id) len s (st.lvl,keyOf d) d (YY id (Zgz (st.lvl,keyOf d) st)) K
 | _=>False
theorem ZDq:op2 C d (.rk x) ⟨lvl,env,loc,out⟩ K=rkf (xv env x) d ⟨lvl,env,loc,out⟩ K:=by
 rw[Jk rfl]
 simp only[ew]
 generalize xv env x=v
 unfold rkf
 split
 ·rename_i id len s
  simp only[rkg]
  generalize (⟨lvl,env,loc,out⟩:St).sto id=o
  cases o with
  | none=>rfl
  | some ob =>
   cases ob with
   | bx=>rfl
   | ar k2 es u hw ver=>simp only[Ze5]
 ·rename_i hv
  split
  ·exact(hv _ _ _ rfl).elim
  ·rfl
theorem ZBl{key len s:Nat}{t:Nat}:rkf (.hd (lvl,key) [] 0 len none s) (some t) ⟨lvl,env,loc,out⟩ K=(t*32≠key/\rkg (lkO key loc) len s (lvl,t*32) (some t) (YY (lvl,key) (drp (lkO (t*32) loc) (lvl,t*32) ⟨lvl,env,loc,out⟩)) K):=by
 simp only[rkf,true_and,Zgz,keyOf]
 rw[show (⟨lvl,env,loc,out⟩:St).sto (lvl,key)=lkO key loc from YV,show (⟨lvl,env,loc,out⟩:St).sto (lvl,t*32)=lkO (t*32) loc from YV]
 congr 1
 simp
theorem ZDr{key:Nat}{p x:X}:op2 C d (.gv key p x) ⟨lvl,env,loc,out⟩ K=(d=none/\gvf (xv env p) (xv env x) key ⟨lvl,env,loc,out⟩ K):=by
 rw[Jk rfl]
 simp only[ew]
theorem ZBm{id:Oid}{off key key2 len s:Nat}:gvf (.ab id off) (.hd (lvl,key2) [] 0 len none s) key ⟨lvl,env,loc,out⟩ K=(id.1<lvl/\ZG lvl loc out (id.1,key)=none/\gvo (ZG lvl loc out id) (lkO key2 loc) id off key len s (lvl,key2) ⟨lvl,env,loc,out⟩ K):=by
 simp only[gvf,true_and]
 rw[show (⟨lvl,env,loc,out⟩:St).sto (lvl,key2)=lkO key2 loc from YV]
 rfl
theorem ZBn{cells:List IV}{k:Nat}{zs:Row}{u:Bool}{hw ver:Nat}{id id2:Oid}{off key len s:Nat}:gvo (some (.bx cells)) (some (.ar k zs u hw ver)) id off key len s id2 st K=(off+1<=cells.length/\s=hw/\len=zs.length/\K (Zo (Zo (YY id2 st) (id.1,key) (.ar k zs u hw ver)) id (.bx (WO cells off [.hd (id.1,key) [] 0 len none s])))):=(rfl)
theorem ZBo{len s k hw ver:Nat}{zs:Row}{u:Bool}{id0:Oid}:rkg (some (.ar k zs u hw ver)) len s id0 d st K=(s=hw/\len=zs.length/\Zjd d (.hd id0 [] 0 len none s) (Zo st id0 (.ar k zs u hw ver)) K):=(rfl)
theorem Ztp{K:List IV->St->Prop}:Zp8 [] st K=K [] st:=(rfl)
theorem Ztq{x:X}{r:List X}{K:List IV->St->Prop}:Zp8 (x::r) st K=Zub (xv st.env x) st fun t st1=>Zp8 r st1 fun ts st2=>K (.ta t::ts) st2:=(rfl)
def ZxS(o:Option (List Tr×Bool))(F:List Tr->Prop)(H:Prop):Prop :=
 match o with
 | some (ts,_)=>F ts
 | none=>H
def ZBp(o:Option Ob)(F:List Tr->Prop)(H:List IV->Prop):Prop :=
 match o with
 | some (.bx cells)=>ZxS (totrs cells) F (H cells)
 | _=>False
theorem Zwu{ts:List Tr}{K:List Tr->St->Prop}:Zub (.ta ts) st K=K ts st:=(rfl)
theorem Zwv{key:Nat}{K:List Tr->St->Prop}:Zub (.ab (lvl,key) 0) ⟨lvl,env,loc,out⟩ K=ZBp (lkO key loc) (fun ts=>K ts (YY (lvl,key) ⟨lvl,env,loc,out⟩)) (fun cells=>Zjb cells ⟨lvl,env,loc,out⟩ fun ts st1=>K ts (YY (lvl,key) st1)):=by
 simp only[Zub,true_and]
 rw[show (⟨lvl,env,loc,out⟩:St).sto (lvl,key)=lkO key loc from YV]
 generalize lkO key loc=o
 cases o with
 | none=>rfl
 | some ob =>
  cases ob with
  | ar=>rfl
  | bx cells =>
   simp only[ZBp]
   generalize totrs cells=q
   cases q <;> rfl
theorem Zww{cells:List IV}{F:List Tr->Prop}{H:List IV->Prop}:ZBp (some (.bx cells)) F H=ZxS (totrs cells) F (H cells):=(rfl)
theorem Zwx{ts:List Tr}{q:Bool}{F:List Tr->Prop}{H:Prop}:ZxS (some (ts,q)) F H=F ts:=(rfl)
theorem Ztr{F:List Tr->Prop}{H:Prop}:ZxS none F H=H:=(rfl)
theorem Zow{id:Oid}{p:Pth}{off len s:Nat}{cap:Option Nat}{r:List IV}:totrs (.hd id p off len cap s::r)=none:=(rfl)
theorem ZDs{f:Nat}{cs:List X}:op2 C d (.mz f cs) ⟨lvl,env,loc,out⟩ K=Zp8 cs ⟨lvl,env,loc,out⟩ fun l st1=>Zjd d (.fn f l) st1 K:=by
 rw[Jk rfl]
 rfl
theorem Zts{K:List Tr->St->Prop}:Zjb [] st K=K [] st:=(rfl)
theorem Ztt{x:IV}{r:List IV}{K:List Tr->St->Prop}:Zjb (x::r) st K=ZrB x st fun t st1=>Zjb r st1 fun ts st2=>K (t::ts) st2:=(rfl)
def ZCf(o:Option Ob)(len s:Nat)(F:Row->Prop):Prop :=
 match o with
 | some (.ar _ zs _ hw _)=>s=hw/\len=zs.length/\F zs
 | _=>False
theorem Ztu{t:Tr}{K:Tr->St->Prop}:ZrB (.tr t) st K=K t st:=(rfl)
theorem Ztv{es:Row}{K:Tr->St->Prop}:ZrB (.cs es) st K=K (.sl es) st:=(rfl)
theorem Ztw{key len s:Nat}{K:Tr->St->Prop}:ZrB (.hd (lvl,key) [] 0 len none s) ⟨lvl,env,loc,out⟩ K=ZCf (lkO key loc) len s fun zs=>K (.sl zs) (YY (lvl,key) ⟨lvl,env,loc,out⟩):=by
 simp only[ZrB,true_and]
 rw[show (⟨lvl,env,loc,out⟩:St).sto (lvl,key)=lkO key loc from YV]
 generalize lkO key loc=o
 cases o with
 | none=>rfl
 | some ob=>cases ob <;> rfl
theorem Zwy{k len s hw ver:Nat}{zs:Row}{u:Bool}{F:Row->Prop}:ZCf (some (.ar k zs u hw ver)) len s F=(s=hw/\len=zs.length/\F zs):=(rfl)
def lzg(o:Option Ob)(off m:Nat)(d:Option Nat)(st:St)(K:St->Prop):Prop :=
 match o with
 | some (.bx cells)=>off+m<=cells.length/\Zjb ((cells.drop off).take m) st fun ts st1=>Zjd d (.ag (ts.map .tr)) st1 K
 | _=>False
def lzf(v:IV)(m:Nat)(d:Option Nat)(st:St)(K:St->Prop):Prop :=
 match v with
 | .ab id off=>lzg (st.sto id) off m d st K
 | _=>False
theorem ZDt{m:Nat}:op2 C d (.lz m x) ⟨lvl,env,loc,out⟩ K=lzf (xv env x) m d ⟨lvl,env,loc,out⟩ K:=by
 rw[Jk rfl]
 simp only[ew]
 generalize xv env x=v
 cases v <;> rfl
theorem ZBq{key off m:Nat}:lzf (.ab (lvl,key) off) m d ⟨lvl,env,loc,out⟩ K=lzg (lkO key loc) off m d ⟨lvl,env,loc,out⟩ K:=by
 simp only[lzf]
 rw[show (⟨lvl,env,loc,out⟩:St).sto (lvl,key)=lkO key loc from YV]
theorem ZBr{cells:List IV}{off m:Nat}:lzg (some (.bx cells)) off m d st K=(off+m<=cells.length/\Zjb ((cells.drop off).take m) st fun ts st1=>Zjd d (.ag (ts.map .tr)) st1 K):=(rfl)
def clg(o:Option Ob)(id:Oid)(off len s k:Nat)(d:Option Nat)(st:St)(K:St->Prop):Prop :=
 match o with
 | some (.ar k2 es u hw ver)=>k2=k/\s=hw/\off+len=es.length/\Zjd d (.tu []) (Zo st id (.ar k2 (es.take off) u hw (ver+1))) K
 | _=>False
def clf(v:IV)(k:Nat)(d:Option Nat)(st:St)(K:St->Prop):Prop :=
 match v with
 | .hd id p off len _ s=>p=[]/\clg (st.sto id) id off len s k d st K
 | _=>False
theorem ZDu{k:Nat}{z:List Value}:op2 C d (.cl k z x) ⟨lvl,env,loc,out⟩ K=clf (xv env x) k d ⟨lvl,env,loc,out⟩ K:=by
 rw[Jk rfl]
 simp only[ew]
 generalize xv env x=v
 cases v <;> try rfl
 rename_i id p off len cap s
 simp only[clf,clg]
 generalize (⟨lvl,env,loc,out⟩:St).sto id=o
 cases o with
 | none=>simp
 | some ob =>
  cases ob with
  | bx=>simp
  | ar k2 es u hw ver=>simp only[Ze5]
theorem ZBs{id:Oid}{off len s k:Nat}{cap:Option Nat}:clf (.hd id [] off len cap s) k d ⟨lvl,env,loc,out⟩ K=clg (ZG lvl loc out id) id off len s k d ⟨lvl,env,loc,out⟩ K:=by
 simp only[clf,true_and]
 rfl
theorem ZBt{id:Oid}{off len s k k2 hw ver:Nat}{es:Row}{u:Bool}:clg (some (.ar k2 es u hw ver)) id off len s k d st K=(k2=k/\s=hw/\off+len=es.length/\Zjd d (.tu []) (Zo st id (.ar k2 (es.take off) u hw (ver+1))) K):=(rfl)
def srk(off len:Nat)(F:Row->Prop)(es:Row)(_u:Bool)(_v:Nat):Prop:=off+len<=es.length/\F (cut es off len)
theorem ZBu{off len:Nat}{F:Row->Prop}{es:Row}{u:Bool}{v:Nat}:srk off len F es u v=(off+len<=es.length/\F (cut es off len)):=(rfl)
theorem Zwz{zs:Row}{F:Row->Prop}:ZnQ st (.tr (.sl zs)) F=F zs:=(rfl)
theorem ZwA{zs:Row}{F:Row->Prop}:ZnQ st (.cs zs) F=F zs:=(rfl)
theorem ZwB{id:Oid}{p:Pth}{off len s:Nat}{cap:Option Nat}{F:Row->Prop}:ZnQ ⟨lvl,env,loc,out⟩ (.hd id p off len cap s) F=rd3 (ZG lvl loc out id) p s (srk off len F):=by
 rw[<-Zaz]
 rfl
def a3k(zs:Row)(k:Nat)(d:Option Nat)(st:St)(K:St->Prop)(items:Row):Prop :=
 items≠[]/\ScR items/\UnR k zs/\UnR k items/\zs.length+items.length<=bigN/\K ⟨st.lvl,ptd d (.tr (.sl (zs++items))) st.env,st.loc,st.out⟩
theorem ZBv{zs items:Row}{k:Nat}:a3k zs k d ⟨lvl,env,loc,out⟩ K items=(items≠[]/\ScR items/\UnR k zs/\UnR k items/\zs.length+items.length<=bigN/\K ⟨lvl,ptd d (.tr (.sl (zs++items))) env,loc,out⟩):=(rfl)
def a3f(vx vy:IV)(k:Nat)(d:Option Nat)(st:St)(K:St->Prop):Prop :=
 match vx with
 | .cs zs=>ZnQ st vy (a3k zs k d st K)
 | _=>False
theorem ZBw{zs:Row}{vy:IV}{k:Nat}:a3f (.cs zs) vy k d st K=ZnQ st vy (a3k zs k d st K):=(rfl)
theorem ZDv{k:Nat}{x y:X}:op2 C d (.a3 k x y) ⟨lvl,env,loc,out⟩ K=a3f (xv env x) (xv env y) k d ⟨lvl,env,loc,out⟩ K:=by
 rw[Yb rfl]
 simp only[ev]
 generalize xv env x=vx
 cases vx <;> try rfl
 rename_i zs
 have e:∀ items:Row,(items≠[]/\ScR items/\UnR k zs/\UnR k items/\zs.length+items.length<=bigN/\ZT (fun mk obs=>freshK (keyOf d) loc (obs lvl (keyOf d)).length/\K ⟨lvl,ptd d (mk lvl (keyOf d)) env,addO (keyOf d) (obs lvl (keyOf d)) loc,out⟩) (.tr (.sl (zs++items))))=a3k zs k d ⟨lvl,env,loc,out⟩ K items:=fun items=>by
  simp [a3k,ZT,freshK,addO]
 simp only[e]
 rfl
theorem ZDw{k:Nat}{x y:X}:op2 C d (.c0 k x y) ⟨lvl,env,loc,out⟩ K=op2 C d (.cy k x y) ⟨lvl,env,loc,out⟩ K:=by
 rw[Jk rfl,Jk rfl]
 exact propext ⟨ZlU,Zqs⟩
def cyk(es:Row)(u:Bool)(hw ver:Nat)(id:Oid)(off len k:Nat)(d:Option Nat)(st:St)(K:St->Prop)(zs:Row):Prop :=
 ScR zs/\UnR k zs/\Zjd d (iI (min zs.length len:Nat)) (Zo st id (.ar k (es.take off++zs.take len++es.drop (off+min zs.length len)) u hw (ver+1))) K
theorem ZBx{es:Row}{u:Bool}{hw ver:Nat}{id:Oid}{off len k:Nat}{zs:Row}:cyk es u hw ver id off len k d st K zs=(ScR zs/\UnR k zs/\Zjd d (iI (min zs.length len:Nat)) (Zo st id (.ar k (es.take off++zs.take len++es.drop (off+min zs.length len)) u hw (ver+1))) K):=(rfl)
def cyg(o:Option Ob)(id:Oid)(off len s k:Nat)(v:IV)(d:Option Nat)(st:St)(K:St->Prop):Prop :=
 match o with
 | some (.ar k2 es u hw ver)=>k2=k/\s=hw/\off+len<=es.length/\ScR es/\ZnQ st v (cyk es u hw ver id off len k d st K)
 | _=>False
def cyf(x v:IV)(k:Nat)(d:Option Nat)(st:St)(K:St->Prop):Prop :=
 match x with
 | .hd id p off len _ s=>p=[]/\cyg (st.sto id) id off len s k v d st K
 | _=>False
theorem ZDx{k:Nat}:op2 C d (.cy k x y) ⟨lvl,env,loc,out⟩ K=cyf (xv env x) (xv env y) k d ⟨lvl,env,loc,out⟩ K:=by
 rw[Jk rfl]
 simp only[ew]
 generalize xv env x=v
 cases v <;> try rfl
 rename_i id p off len cap s
 simp only[cyf,cyg]
 generalize (⟨lvl,env,loc,out⟩:St).sto id=o
 cases o with
 | none=>simp
 | some ob =>
  cases ob with
  | bx=>simp
  | ar k2 es u hw ver =>
   dsimp only
   by_cases hk:k2=k
   ·subst hk
    have:(fun zs=>ScR zs/\UnR k2 zs/\K { Zo ⟨lvl,env,loc,out⟩ id (.ar k2 (es.take off++zs.take len++es.drop (off+min zs.length len)) u hw (ver+1)) with env:=ptd d (iI (min zs.length len:Nat)) env })=cyk es u hw ver id off len k2 d ⟨lvl,env,loc,out⟩ K:=by
     funext zs
     simp only[cyk,Ze5]
    rw[this]
   ·simp [hk]
theorem ZBy{id:Oid}{off len s k:Nat}{cap:Option Nat}{v:IV}:cyf (.hd id [] off len cap s) v k d ⟨lvl,env,loc,out⟩ K=cyg (ZG lvl loc out id) id off len s k v d ⟨lvl,env,loc,out⟩ K:=by
 simp only[cyf,true_and]
 rfl
theorem ZBz{id:Oid}{off len s k k2 hw ver:Nat}{es:Row}{u:Bool}{v:IV}:cyg (some (.ar k2 es u hw ver)) id off len s k v d st K=(k2=k/\s=hw/\off+len<=es.length/\ScR es/\ZnQ st v (cyk es u hw ver id off len k d st K)):=(rfl)
end row
theorem ZwC{α:Type}{F:α->Prop}:op3 none F=False:=(rfl)
end
abbrev tv(n:Int):Tr:=.v (.int .i64 n)
abbrev ts(s:ByteArray):Tr:=.v (.string s)
abbrev rI(l:List Int):Row:=l.map fun n=>[tv n]
abbrev tI(l:List Int):IV:=.tr (.sl (rI l))
abbrev rS(l:List ByteArray):Row:=l.map fun n=>[ts n]
abbrev tS(l:List ByteArray):IV:=.tr (.sl (rS l))
theorem Ze(n:Int):XE .i64 n=(-9223372036854775808<=n/\n<=9223372036854775807):=by
 simp [XE,IntKind.min,IntKind.max,IntKind.signed,IntKind.bits]
theorem Zb3{α:Type}{k:Nat}(f:α->List Tr)(h:∀ x,(f x).length=k)(l:List α):UnR k (l.map f):=by
 intro e he
 obtain⟨x,_,rfl⟩:=List.mem_map.1 he
 exact h x
end Go.Fd

/-
  FROM THE READER'S FACTS TO TREES: what an input reads as, by its type. Own work.
-/
namespace Go.Fd
def In(w:World)(b:Nat):Prop:=b<w.heap.size
def Ztx(w:World)(cs:List Value)(ts:List Tr):Prop:=∀(j:Nat) (v:Value) (t:Tr),cs[j]? = some v->ts[j]? = some t->Rds w (In w) v t
def Zaj(P:Program)(t:TypeId){α:Type}(c:α->List Tr)(Q:α->Prop):Prop :=
 ∀(H:Type) (enc:TypeId×Value->H) (w:World) (sp:Nat->Bool) (hd:Bool) (fuel:Nat) (cs:List Value) (x:DataW H×List MemPlace),
  DataW.trod enc P w 0 sp hd fuel t cs=some x->∃ y,Q y/\Ztx w cs (c y)
theorem Zcz{w:World}{v:Value}{t:Tr}(h:Rds w (In w) v t):Ztx w [v] [t]:=fun j v' t' h1 h2=>by
 match j with
 | 0=>simp at h1 h2;subst h1;subst h2;exact h
 | j+1=>simp at h1
theorem Zox{P:Program}{t:TypeId}(ht:P.underlying t=some (.int .i64)):Zaj P t (fun n:Int=>[tv n]) (XE .i64):=by
 intro H enc w sp hd fuel cs x h
 obtain⟨n,rfl,_,hw⟩:=DataW.trod_int ht h
 exact⟨n,by simpa [Lit.wf,XE] using hw,Zcz (.v _ rfl)⟩
theorem ZjB{P:Program}{t:TypeId}(ht:P.underlying t=some .string):Zaj P t (fun n:ByteArray=>[ts n]) (fun n=>n.size<=9223372036854775807):=by
 intro H enc w sp hd fuel cs x h
 obtain⟨n,rfl,_,hw⟩:=DataW.trod_string ht h
 exact⟨n,hw,Zcz (.v _ rfl)⟩
theorem Zty{w:World}{a:Addr}{v:Value}(h:w.cell? a=some v):a.block<w.heap.size:=by
 unfold World.cell? at h
 cases hh:w.heap[a.block]? with
 | none=>rw[hh] at h;cases h
 | some o=>exact(Array.getElem?_eq_some_iff.1 hh).1
theorem ZkZ{α:Type}(n:Nat)(R:Nat->α->Prop)(h:∀ i,i<n->∃ y,R i y):∃ l:List α,l.length=n/\∀ i y,l[i]? = some y->R i y:=by
 induction n with
 | zero=>exact⟨[],rfl,fun i y h=>by simp at h⟩
 | succ n ih =>
  obtain⟨l,hl,hr⟩:=ih (fun i hi=>h i (by omega))
  obtain⟨y,hy⟩:=h n (by omega)
  refine⟨l++[y],by simp [hl],fun i z hz=>?_⟩
  by_cases hi:i<n
  ·rw[List.getElem?_append_left (by omega)] at hz;exact hr i z hz
  ·have hlt:=(List.getElem?_eq_some_iff.1 hz).1
   simp only[List.length_append,List.length_singleton] at hlt
   have:i=n:=by omega
   subst this
   rw[List.getElem?_append_right (by omega),hl,Nat.sub_self] at hz
   simp at hz
   exact hz ▸ hy
theorem Zb4{P:Program}{t e:TypeId}{k:Nat}{α:Type}{c:α->List Tr}{Q:α->Prop}(ht:P.underlying t=some (.slice e))(hk:P.cellsOf e=k+1)(hc:∀ x,(c x).length=k+1)
  (he:Zaj P e c Q):Zaj P t (fun l:List α=>[.sl (l.map c)]) (fun l=>l.length<=9223372036854775807/\∀ x∈l,Q x):=by
 intro H enc w sp hd fuel cs x h
 rcases DataW.trod_slice ht h with ⟨rfl,_⟩ | ⟨a,len,cap,elems,rest,n,_,rfl,_,_,hl,hm,hlen,hel,_,_⟩
 ·exact⟨[],⟨by simp,by simp⟩,Zcz (.nil none 0)⟩
 ·have each:∀ i,i<len->∃ y,Q y/\∀ j t,(c y)[j]? = some t->∃ v,w.cell? (a.add (i*(k+1)+j))=some v/\Rds w (In w) v t:=fun i hi=>by
   have h1:=hel i hi
   rw[hk] at h1
   obtain⟨z,hz⟩:∃ z,elems[i]? = some z:=⟨elems[i]'(by omega),List.getElem?_eq_getElem _⟩
   rw[hz,Option.bind_eq_some_iff] at h1
   obtain⟨row,hrow,hx⟩:=h1
   obtain⟨y,hy,hr⟩:=he H enc w sp hd n row z hx
   obtain⟨_,hrl,hg⟩:=World.cells?_some hrow
   refine⟨y,hy,fun j t hj=>?_⟩
   have hjk:j<k+1:=by rw[<-hc y];exact(List.getElem?_eq_some_iff.1 hj).1
   have hv:row[j]? = some (row[j]'(by omega)):=List.getElem?_eq_getElem _
   have:=hg j hjk
   rw[hv] at this
   have e2:(a.add (i*(k+1))).add j=a.add (i*(k+1)+j):=by
    unfold Addr.add
    by_cases h0:i*(k+1)=0
    ·simp [h0]
    ·by_cases h1:j=0
     ·simp [h1,h0]
     ·have h2:¬ (i*(k+1)+j=0):=by omega
      simp only[if_neg h0,if_neg h1,if_neg h2,Addr.mk.injEq,and_true,true_and]
      omega
   rw[e2] at this
   exact⟨_,this,hr j _ t hv hj⟩
  obtain⟨l,hll,hlr⟩:=ZkZ len _ each
  refine⟨l,⟨?_,fun y hy=>?_⟩,Zcz ?_⟩
  ·rw[hll];exact Nat.le_trans hl hm
  ·obtain⟨i,hi⟩:=List.getElem?_of_mem hy
   exact(hlr i y hi).1
  ·by_cases h0:len=0
   ·have:l=[]:=List.eq_nil_of_length_eq_zero (by omega)
    subst this;subst h0
    exact .nil _ _
   ·obtain⟨y0,hy0⟩:∃ y0,l[0]? = some y0:=⟨l[0]'(by omega),List.getElem?_eq_getElem _⟩
    obtain⟨t0,ht0⟩:∃ t0,(c y0)[0]? = some t0:=⟨(c y0)[0]'(by rw[hc];omega),List.getElem?_eq_getElem _⟩
    obtain⟨v0,hv0,_⟩:=(hlr 0 y0 hy0).2 0 t0 ht0
    obtain⟨b,o,s⟩:=a
    have hs:s=none:=by simpa [Addr.add] using World.cell?_spot hv0
    subst hs
    have hb:b<w.heap.size:=by simpa [Addr.add] using Zty hv0
    have hel2:∀ i e j t,(l.map c)[i]? = some e->e[j]? = some t->∃ v,w.cell? ⟨b,o+i*(k+1)+j,none⟩=some v/\Rds w (In w) v t:=fun i e j t h1 h2=>by
     rw[List.getElem?_map,Option.map_eq_some_iff] at h1
     obtain⟨y,hy,rfl⟩:=h1
     obtain⟨v,hv,hr⟩:=(hlr i y hy).2 j t h2
     refine⟨v,?_,hr⟩
     rw[<-hv]
     congr 1
     unfold Addr.add
     by_cases h0:i*(k+1)+j=0
     ·have:o+i*(k+1)+j=o:=by omega
      rw[if_pos h0,this]
     ·rw[if_neg h0]
      have:o+i*(k+1)+j=o+(i*(k+1)+j):=by omega
      simp only[this]
    have hlm:(l.map c).length=len:=by simpa using hll
    have:=Rds.sl (w:=w) (A:=In w) b o cap (k+1) (l.map c) (fun i j=>(w.cell? ⟨b,o+i*(k+1)+j,none⟩).getD .nilFunc) hb
     (fun e he=>by simp only[List.mem_map] at he;obtain⟨y,_,rfl⟩:=he;exact hc y) (by omega)
     (fun i e j t h1 h2=>by obtain⟨v,hv,_⟩:=hel2 i e j t h1 h2;rw[hv];rfl)
     (fun i e j t h1 h2=>by obtain⟨v,hv,hr⟩:=hel2 i e j t h1 h2;rw[hv];exact hr)
    rw[hlm] at this
    exact this
def Zhi(P:Program)(o:Nat)(l:List (Nat×TypeId)){α:Type}(c:α->List Tr)(Q:α->Prop):Prop :=
 ∀(H:Type) (enc:TypeId×Value->H) (w:World) (sp:Nat->Bool) (hd:Bool) (fuel:Nat) (cs:List Value),
  (∀ p∈l,∃ x,DataW.trod enc P w 0 sp hd fuel p.2 ((cs.drop p.1).take (P.cellsOf p.2))=some x)->∃ y,Q y/\Ztx w (cs.drop o) (c y)
theorem Zhj{P:Program}{o:Nat}:Zhi P o [] (fun _:Unit=>[]) (fun _=>True):=fun H enc w sp hd fuel cs _=>⟨(),trivial,fun j v t _ h=>by simp at h⟩
theorem QH{P:Program}{o k:Nat}{t:TypeId}{l:List (Nat×TypeId)}{α β:Type}{c:α->List Tr}{Q:α->Prop}{c2:β->List Tr}{Q2:β->Prop}
  (hk:P.cellsOf t=k) (hc:∀ x,(c x).length=k) (h1:Zaj P t c Q) (h2:Zhi P (o+k) l c2 Q2) :
  Zhi P o ((o,t)::l) (fun p:α×β=>c p.1++c2 p.2) (fun p=>Q p.1/\Q2 p.2):=fun H enc w sp hd fuel cs h=>by
 obtain⟨x,hx⟩:=h (o,t) (by simp)
 obtain⟨y,hy,hr⟩:=h1 _ _ _ _ _ _ _ _ hx
 obtain⟨y2,hy2,hr2⟩:=h2 H enc w sp hd fuel cs (fun p hp=>h p (by simp [hp]))
 refine⟨(y,y2),⟨hy,hy2⟩,fun j v t' hv ht=>?_⟩
 by_cases hj:j<k
 ·rw[List.getElem?_append_left (by rw[hc];exact hj)] at ht
  refine hr j v t' ?_ ht
  rw[hk,List.getElem?_take_of_lt hj]
  exact hv
 ·rw[List.getElem?_append_right (by rw[hc];omega),hc] at ht
  refine hr2 (j-k) v t' ?_ ht
  rw[List.getElem?_drop] at hv ⊢
  rw[<-hv]
  congr 1
  omega
theorem Zeh{P:Program}{t:TypeId}{fs:Array Field}{α:Type}{c:α->List Tr}{Q:α->Prop}(ht:P.underlying t=some (.struct fs))(h:Zhi P 0 (fs.toList.map fun f=>(f.offset,f.type)) c Q):Zaj P t c Q:=by
 intro H enc w sp hd fuel cs x hx
 obtain⟨xs,n,_,_,_,hl,hf⟩:=DataW.trod_struct ht hx
 have:=h H enc w sp hd n cs (fun p hp=>by
  simp only[List.mem_map] at hp
  obtain⟨f,hf1,rfl⟩:=hp
  obtain⟨i,hi⟩:=List.getElem?_of_mem hf1
  have hi':fs[i]? = some f:=by simpa using hi
  have hlt:i<xs.length:=by rw[hl];exact(Array.getElem?_eq_some_iff.1 hi').1
  exact⟨_,(hf i f hi').trans (List.getElem?_eq_getElem hlt)⟩)
 simpa using this
theorem Zoy{P:Program}{t:TypeId}{α β:Type}{c:α->List Tr}{Q:α->Prop}{c2:β->List Tr}{Q2:β->Prop}(g:α->β)(hg:∀ x,c2 (g x)=c x)(hq:∀ x,Q x->Q2 (g x))(h:Zaj P t c Q):Zaj P t c2 Q2:=by
 intro H enc w sp hd fuel cs x hx
 obtain⟨y,hy,hr⟩:=h H enc w sp hd fuel cs x hx
 exact⟨g y,hq y hy,by rw[hg];exact hr⟩
theorem Zl4{P:Program}{t:TypeId}{α β:Type}{c:α->List Tr}{Q:α->Prop}{c2:β->List Tr}{Q2:β->Prop}(h:Zaj P t c Q)(g:α->β)(hg:∀ x,c2 (g x)=c x)(hq:∀ x,Q x->Q2 (g x)):Zaj P t c2 Q2:=Zoy g hg hq h
end Go.Fd

/-
  FROM A CONTRACT OF A LAW TO WHAT ITS ROW ASKS. Own work.
-/
namespace Go.Fd
variable [Tabs]
open Go.RowKit
def G0:Gh:=fun _ _=>none
def S0:Sto:=fun _=>none
theorem Av0{w:World}{b:Nat}(h:In w b):Av G0 S0 w b:=⟨h,fun id ob hs=>by cases hs⟩
theorem Zei{P:Program}{f:FuncId}{args:List IV}{b:Bool}{w:World}{vs:List Value}(h:Sem P f 0 args S0 (iB b) S0)(hv:VRs G0 S0 w args vs)(hg:Tabs.good w) :
  Calls P f vs.toArray w fun e w' => e = .returned (.bool b)/\Below w.heap.size w w':=by
 obtain⟨_,_,h⟩:=h
 refine(h (fun id ob hs=>by cases hs) G0 w vs ⟨fun id ob hs=>(nomatch hs),fun id ob id2 ob2 b2 hs=>(nomatch hs),fun id cells hs=>(nomatch hs)⟩ hv ⟨w,hg,Nat.le_refl _,fun b hb=>⟨⟨hb,fun id ob hs=>by cases hs⟩,rfl⟩⟩).mono ?_
 rintro e w' ⟨v,G',rfl,_,hr,_,hf⟩
 have hr':Rds w' (Av G' (Qi S0 0 0 (impv true 0 0 0 (iB b)).2) w') v (.v (.bool b)):=hr
 cases hr' with
 | v x hx =>
  exact⟨rfl,hf.os,hf.tape,hf.output,hf.size,fun k hk=>hf.old k hk (fun id ob hs=>by cases hs)⟩
theorem Zoz{P:Program}{w:World}{r:Reach}{base:Nat}{t e:TypeId}{v:Value}(ht:P.underlying t=some (.slice e))(h:Value.okWide P w r base t v):v.cells.toList=[v]:=by
 unfold Value.okWide at h
 rw[ht] at h
 simp only[Cell.okWide,ht,Cell.ok] at h
 cases v <;> first | rfl | exact absurd h (by simp)
section
variable {H:Type} {enc:TypeId×Value->H} {P:Program} {w:World} {t:TypeId} {v:Value} {d:DataW H} {p:List MemPlace} {α:Type} {c:α->List Tr} {Q:α->Prop} {sp:Nat->Bool} {hd:Bool} {base:Nat}
theorem Ze6{e:TypeId}{g:α->Tr}(hr:Zaj P t (fun x=>[g x]) Q)(ht:P.underlying t=some (.slice e))(hok:Value.okWide P w .any base t v)(h:DataW.Trod enc P w 0 sp hd t v d p) :
  ∃ y,Q y/\VR G0 S0 w (.tr (g y)) v:=by
 obtain⟨n,hn⟩:=h
 rw[Zoz ht hok] at hn
 obtain⟨y,hy,hrow⟩:=hr H enc w sp hd n _ _ hn
 refine⟨y,hy,?_⟩
 simp only[VR]
 exact Rds.mono (fun b=>Av0) (fun b _=>rfl) (hrow 0 v _ rfl rfl)
end
theorem ZcA{H:Type}{enc:TypeId×Value->H}{P:Program}{f:Func}{s:ChangeSpec}{apart:Bool}{W W':World}{args:Array Value}{v:Value}{ds gs:List (DataW H)}{before pa pv:List MemPlace}
  (hW:DataW.Whole enc P f.params.toList s.vars apart W args.toList ds gs before) (hb:Below W.heap.size W W')
  (hres:DataW.TrodAll enc P W' W.heap.size (fun _=>false) false f.resultTypes.toList (v.resultList f.resultTypes.size) (s.fn H (ds++gs)).results [])
  (hargs:DataW.TrodAll enc P W' 0 (fun b=>decide (b<W.heap.size)) true f.params.toList args.toList (s.fn H (ds++gs)).args pa)
  (hvars:DataW.TrodVars enc P W' (fun b=>decide (b<W.heap.size)) s.vars (s.fn H (ds++gs)).vars pv) :
  s.post enc P f apart true false false W args v W' :=
 ⟨ds,gs,before,[],pa,pv,hW,hres,hargs,hvars,hb.frame _,fun h=>by cases h⟩
end Go.Fd

/-
  FOUNDATION 50: contracts of the library, taken over: calls that read scalars alone and answer scalars. Own work.
-/
namespace Go.Fd
variable [Tabs]
open Go.RowKit
theorem ZjC{w w':World}(h:Below w.heap.size w w'):Ext w w':=⟨h.size,h.block,h.os,h.tape,h.output⟩
theorem Zl5{G:Gh}{S:Sto}{w:World}:∀{xs vs:List Value},VRs G S w (xs.map fun v=>.tr (.v v)) vs->vs=xs
 | [],vs,h=>by simpa [VRs] using h
 | x::r,vs,h=>by
  simp only[List.map_cons,VRs] at h
  obtain⟨v,vr,rfl,h1,h2⟩:=h
  rw[Zl5 h2]
  have h1':Rds w (Av G S w) v (.v x):=h1
  cases h1'
  rfl
theorem Zk0{P:Program}{f:FuncId}{lvl:Nat}{S:Sto}{args:List IV}{r:IV}(hc:Dy P f)(hi:impv true lvl 0 0 r=(r,[]))(hlow:low lvl r)
  (h:(∀ id ob,S id=some ob->id.1<lvl)->∀ G w vs,SOk G S w->VRs G S w args vs->Fix G S w->Calls P f vs.toArray w fun e w' => ∃ v,e = .returned v/\VR G S w' r v/\Below w.heap.size w w'):Sem P f lvl args S r S:=by
 refine⟨hlow,hc,fun hS G w vs hok hv hfx=>?_⟩
 refine(h hS G w vs hok hv hfx).mono ?_
 rintro e w' ⟨v,rfl,hr,hb⟩
 rw[hi]
 have e:Ext w w':=ZjC hb
 exact⟨v,G,rfl,hok.ext e,hr,hS,Frm.of_ext e⟩
theorem Zhk{P:Program}{f:FuncId}{lvl:Nat}{S:Sto}{args:List IV}{r:IV}(hc:Dy P f)(hi:impv true lvl 0 0 r=(r,[]))(hlow:low lvl r)
  (h:(∀ id ob,S id=some ob->id.1<lvl)->∀ G w vs,SOk G S w->VRs G S w args vs->Calls P f vs.toArray w fun e w' => ∃ v,e = .returned v/\VR G S w' r v/\Below w.heap.size w w'):Sem P f lvl args S r S :=
 Zk0 hc hi hlow fun hS G w vs hok hv _=>h hS G w vs hok hv
theorem ZfD{P:Program}{f:FuncId}{lvl:Nat}{S:Sto}{xs:List Value}{y:Value}(hc:Dy P f)(hy:Zao y=true)
  (h:∀ w,Calls P f xs.toArray w fun e w' => e = .returned y/\Below w.heap.size w w'):Sem P f lvl (xs.map fun v=>.tr (.v v)) S (.tr (.v y)) S:=by
 refine Zhk hc rfl trivial fun _ G w vs _ hv=>?_
 rw[Zl5 hv]
 exact(h w).mono fun e w' ⟨h1,h2⟩=>⟨y,h1,.v y hy,h2⟩
end Go.Fd

/-
  FOUNDATION 49: rows at a path; functions that mark what they are handed. Own work.
-/
namespace Go.Fd
variable [Tabs]
def Zak:Row->Pth->Row->Row
 | _,[],r=>r
 | es,(a,b)::p,r =>
  match es[a]? with
  | some e =>
   match e[b]? with
   | some (.sl es')=>es.set a (e.set b (.sl (Zak es' p r)))
   | _=>es
  | none=>es
theorem ZdJ{es es':Row}{a b:Nat}{p:Pth}{e:List Tr}(h1:es[a]? = some e)(h2:e[b]? = some (.sl es')):getp es ((a,b)::p)=getp es' p:=by
 simp only[getp,h1,h2]
theorem Ql{es es':Row}{a b:Nat}{p:Pth}{e:List Tr}{r:Row}(h1:es[a]? = some e)(h2:e[b]? = some (.sl es')):Zak es ((a,b)::p) r=es.set a (e.set b (.sl (Zak es' p r))):=by
 simp only[Zak,h1,h2]
theorem ZmZ{es es':Row}{a b i f:Nat}{p:Pth}{e:List Tr}{t:Tr}(h1:es[a]? = some e)(h2:e[b]? = some (.sl es')):YU es ((a,b)::p) i f t=es.set a (e.set b (.sl (YU es' p i f t))):=by
 simp only[YU,h1,h2]
theorem Zbg{es r0:Row}{a b:Nat}{p:Pth}(h:getp es ((a,b)::p)=some r0):∃ e es',es[a]? = some e/\e[b]? = some (.sl es')/\getp es' p=some r0:=by
 simp only[getp] at h
 cases h1:es[a]? with
 | none=>rw[h1] at h;cases h
 | some e =>
  rw[h1] at h
  cases h2:e[b]? with
  | none=>simp only[h2] at h;cases h
  | some t =>
   simp only[h2] at h
   cases t with
   | v x=>cases h
   | sl es' => exact⟨e,es',rfl,h2,h⟩
theorem Zbh{α:Type}{l:List α}{a:Nat}{x y:α}(h:l[a]? = some x):(l.set a y)[a]? = some y:=by
 rw[List.getElem?_set_self];exact(List.getElem?_eq_some_iff.1 h).1
theorem U9{r:Row}:∀{p:Pth} {es r0:Row},getp es p=some r0->getp (Zak es p r) p=some r
 | [],_,_,_=>rfl
 | (a,b)::p,es,r0,h=>by
  obtain⟨e,es',h1,h2,h3⟩:=Zbg h
  rw[Ql h1 h2,ZdJ (Zbh h1) (Zbh h2)]
  exact U9 h3
theorem ZjD{r s:Row}:∀{p:Pth} {es r0:Row},getp es p=some r0->Zak (Zak es p r) p s=Zak es p s
 | [],_,_,_=>rfl
 | (a,b)::p,es,r0,h=>by
  obtain⟨e,es',h1,h2,h3⟩:=Zbg h
  rw[Ql h1 h2,Ql h1 h2,Ql (Zbh h1) (Zbh h2),ZjD h3,List.set_set,List.set_set]
theorem ZjE{r:Row}{i f:Nat}{t:Tr}{e0:List Tr}(hi:r[i]? = some e0):∀{p:Pth} {es r0:Row},getp es p=some r0->YU (Zak es p r) p i f t=Zak es p (r.set i (e0.set f t))
 | [],es,_,_=>by simp only[Zak,YU,hi]
 | (a,b)::p,es,r0,h=>by
  obtain⟨e,es',h1,h2,h3⟩:=Zbg h
  rw[Ql h1 h2,Ql h1 h2,ZmZ (Zbh h1) (Zbh h2),ZjE hi h3,List.set_set,List.set_set]
theorem ZjF{q:Pth}:∀{p:Pth} {es r0:Row},getp es p=some r0->getp es (p++q)=getp r0 q
 | [],es,r0,h=>by simp only[getp,Option.some.injEq] at h;subst h;rfl
 | (a,b)::p,es,r0,h=>by
  obtain⟨e,es',h1,h2,h3⟩:=Zbg h
  rw[List.cons_append,ZdJ h1 h2]
  exact ZjF h3
theorem Zl6{q:Pth}{z:Row}:∀{p:Pth} {es r0:Row},getp es p=some r0->Zak es (p++q) z=Zak es p (Zak r0 q z)
 | [],es,r0,h=>by simp only[getp,Option.some.injEq] at h;subst h;rfl
 | (a,b)::p,es,r0,h=>by
  obtain⟨e,es',h1,h2,h3⟩:=Zbg h
  rw[List.cons_append,Ql h1 h2,Ql h1 h2,Zl6 h3]
theorem Zid{α:Type}{l:List α}{a:Nat}{x:α}(h:l[a]? = some x):l.set a x=l:=by
 obtain⟨h1,h2⟩:=List.getElem?_eq_some_iff.1 h
 rw[<-h2,List.set_getElem_self]
theorem ZjG:∀{p:Pth} {es r:Row},getp es p=some r->Zak es p r=es
 | [],es,r,h=>by simp only[getp,Option.some.injEq] at h;subst h;rfl
 | (a,b)::p,es,r,h=>by
  obtain⟨e,es',h1,h2,h3⟩:=Zbg h
  rw[Ql h1 h2,ZjG h3,Zid h2,Zid h1]
theorem J6{S:Sto}{id:Oid}{a b:Ob}:ZP (ZP S id a) id b=ZP S id b:=by
 funext i
 unfold ZP
 split <;> rfl
theorem Xd{S:Sto}{id:Oid}{a:Ob}(h:S id=some a):ZP S id a=S:=by
 funext i
 unfold ZP
 split
 ·rename_i e;rw[e,h]
 ·rfl
theorem WN{lvl:Nat}{loc:List (Nat×Ob)}{S:Sto}{id:Oid}{o:Ob}(h:id.1≠lvl):ZG lvl loc (ZP S id o)=ZP (ZG lvl loc S) id o:=by
 funext i
 by_cases e:i=id
 ·subst e
  rw[Z9 h]
  unfold ZP
  rw[if_pos rfl,if_pos rfl]
 ·unfold ZP ZG
  simp only[if_neg e]
section mark
variable {α:Type} (m:α->Int->α) (n:α->Nat)
def mL:List α->Int->List α
 | [],_=>[]
 | x::r,k=>m x k::mL r (k+n x)
def nL:List α->Nat
 | []=>0
 | x::r=>n x+nL r
theorem Zs:∀(a:List α) (k:Int),(mL m n a k).length=a.length
 | [],_=>rfl
 | x::r,k=>by simp only[mL,List.length_cons,Zs r]
theorem ZfE:∀(a b:List α),nL n (a++b)=nL n a+nL n b
 | [],b=>by simp [nL]
 | x::r,b=>by simp only[List.cons_append,nL,ZfE r b];omega
theorem ZjH:∀(a b:List α) (k:Int),mL m n (a++b) k=mL m n a k++mL m n b (k+nL n a)
 | [],b,k=>by simp [mL,nL]
 | x::r,b,k=>by
  simp only[List.cons_append,mL,nL,ZjH r b]
  rw[show k+(n x:Int)+(nL n r:Int)=k+((n x+nL n r:Nat):Int) from by omega]
def kJ(a:List α)(k:Int)(j:Nat):Int:=k+nL n (a.take j)
def lJ(a:List α)(k:Int)(j:Nat):List α:=mL m n (a.take j) k++a.drop j
theorem ZfF{a:List α}{k:Int}:kJ n a k 0=k:=by simp [kJ,nL]
theorem Zie{a:List α}{k:Int}:lJ m n a k 0=a:=by simp [lJ,mL]
theorem ZjI{a:List α}{k:Int}:kJ n a k a.length=k+nL n a:=by simp [kJ]
theorem Zl7{a:List α}{k:Int}:lJ m n a k a.length=mL m n a k:=by simp [lJ]
theorem UO{a:List α}{k:Int}{j:Nat}(h:j<a.length):kJ n a k (j+1)=kJ n a k j+n a[j]:=by
 unfold kJ
 rw[List.take_succ_eq_append_getElem h,ZfE]
 simp only[nL]
 omega
theorem ZoA{a:List α}{k:Int}{j:Nat}:kJ n a k j<=k+nL n a:=by
 have:nL n a=nL n (a.take j)+nL n (a.drop j):=by rw[<-ZfE,List.take_append_drop]
 unfold kJ
 omega
theorem ZoB{a:List α}{k:Int}{j:Nat}:k<=kJ n a k j:=by unfold kJ;omega
theorem ZwD{a:List α}{k:Int}{j:Nat}:(lJ m n a k j).length=a.length:=by
 unfold lJ
 rw[List.length_append,Zs,List.length_take,List.length_drop]
 omega
theorem ZwE{a:List α}{k:Int}{j:Nat}(h:j<a.length):(lJ m n a k j)[j]? = some a[j]:=by
 unfold lJ
 have h1:(mL m n (a.take j) k).length=j:=by rw[Zs,List.length_take];omega
 rw[List.getElem?_append_right (by omega),h1,Nat.sub_self,List.getElem?_drop,Nat.add_zero,List.getElem?_eq_getElem h]
theorem ZwF{a:List α}{k:Int}{j:Nat}(h:j<a.length):(lJ m n a k j).set j (m a[j] (kJ n a k j))=lJ m n a k (j+1):=by
 unfold lJ
 have h1:(mL m n (a.take j) k).length=j:=by rw[Zs,List.length_take];omega
 rw[List.set_append_right _ _ (by omega),h1,Nat.sub_self,List.drop_eq_getElem_cons h,List.set_cons_zero,List.take_succ_eq_append_getElem h,ZjH]
 simp only[mL,kJ,List.append_assoc,List.cons_append,List.nil_append]
theorem Zl8(c:α->List Tr){a:List α}{k:Int}{j:Nat}(h:j<a.length):∃ R:Row,j<R.length/\(lJ m n a k j).map c=R.set j (c a[j])/\(lJ m n a k (j+1)).map c=R.set j (c (m a[j] (kJ n a k j))):=by
 refine⟨(lJ m n a k j).map c,by rw[List.length_map,ZwD];exact h,?_,?_⟩
 ·refine(Zid ?_).symm
  rw[List.getElem?_map,ZwE m n h];rfl
 ·rw[<-ZwF m n h,List.map_set]
end mark
theorem Ux{R:Row}{j:Nat}(h:j<R.length)(e:List Tr):(R.set j e)[j]? = some e:=List.getElem?_set_self h
theorem DE{es r0:Row}{p:Pth}{R:Row}{j:Nat}(hv:getp es p=some r0)(h:j<R.length)(e:List Tr)(f:Nat)(t:Tr):YU (Zak es p (R.set j e)) p j f t=Zak es p (R.set j (e.set f t)):=by
 rw[ZjE (Ux h e) hv,List.set_set]
def MarkS(P:Program)(fid:FuncId){α:Type}(c:α->List Tr)(m:α->Int->α)(n:α->Nat)(B:α->Prop):Prop :=
 ∀(a:List α) (k:Int) (lvl:Nat) (S:Sto) (id:Oid) (p:Pth) (es r0:Row) (kk hw ver st:Nat) (cap:Option Nat),id.1<lvl->getp es p=some r0->XF p st hw ver true->0<=k->k+nL n a<=4611686018427387904 ->
  a.length<=4294967296->(∀ x∈a,B x)->Sem P fid lvl [.hd id p 0 a.length cap st,iI k] (ZP S id (.ar kk (Zak es p (a.map c)) true hw ver)) (iI (k+nL n a)) (ZP S id (.ar kk (Zak es p ((mL m n a k).map c)) true hw ver))
theorem MarkS.nested{P:Program}{fid:FuncId}{α:Type}{c:α->List Tr}{m:α->Int->α}{n:α->Nat}{B:α->Prop}(hm:MarkS P fid c m n B){a:List α}{k:Int}{lvl:Nat}{S:Sto}{id:Oid}{p:Pth}{es r0:Row}{kk hw ver j f:Nat}{R:Row}{e:List Tr}
  (hid:id.1<lvl) (hv:getp es p=some r0) (h0:0<=k) (h1:k+nL n a<=4611686018427387904) (hl:a.length<=4294967296) (hB:∀ x∈a,B x) (hj:j<R.length) (he:e[f]? = some (.sl (a.map c))) :
  Sem P fid lvl [.hd id (p++[(j,f)]) 0 a.length none ver,iI k] (ZP S id (.ar kk (Zak es p (R.set j e)) true hw ver)) (iI (k+nL n a)) (ZP S id (.ar kk (Zak es p (R.set j (e.set f (.sl ((mL m n a k).map c))))) true hw ver)):=by
 have hR:(R.set j e)[j]? = some e:=by rw[List.getElem?_set_self hj]
 have g1:getp (Zak es p (R.set j e)) p=some (R.set j e):=U9 hv
 have g2:getp (Zak es p (R.set j e)) (p++[(j,f)])=some (a.map c):=by
  rw[ZjF g1,ZdJ hR he];rfl
 have:=hm a k lvl S id (p++[(j,f)]) (Zak es p (R.set j e)) _ kk hw ver ver none hid g2 (by cases p <;> exact⟨rfl,rfl⟩) h0 h1 hl hB
 rw[ZjG g2,Zl6 g1,ZjD hv,Ql hR he] at this
 simp only[Zak,List.set_set] at this
 exact this
theorem ZqQ{P:Program}{fid:FuncId}{α:Type}{c:α->List Tr}{m:α->Int->α}{n:α->Nat}{B:α->Prop}(hm:MarkS P fid c m n B){a:List α}{k:Int}{lvl len:Nat}{S:Sto}{id:Oid}{p:Pth}{es r0:Row}{kk hw ver j f:Nat}{R:Row}{e:List Tr}{env:List (Nat×IV)}{loc:List (Nat×Ob)}{d:Option Nat}{K:St->Prop}
  (hid:id.1<lvl) (hv:getp es p=some r0) (h0:0<=k) (h1:k+nL n a<=4611686018427387904) (hl:a.length<=4294967296) (hB:∀ x∈a,B x) (hj:j<R.length) (he:e[f]? = some (.sl (a.map c))) (hlen:len=a.length)
  (hk:K ⟨lvl,ptd d (iI (k+nL n a)) env,loc,ZP S id (.ar kk (Zak es p (R.set j (e.set f (.sl ((mL m n a k).map c))))) true hw ver)⟩) :
  kcy (Sem P) fid true lvl env loc (ZP S id (.ar kk (Zak es p (R.set j e)) true hw ver)) d K [.hd id (p++[(j,f)]) 0 len none ver,iI k]:=by
 subst hlen
 have hne:id.1≠lvl:=by omega
 refine Xc (r:=iI (k+nL n a)) loc (ZP S id (.ar kk (Zak es p (R.set j (e.set f (.sl ((mL m n a k).map c))))) true hw ver)) ?_ ?_ ⟨?_,hk⟩
 ·intro i hi
  have:i≠id:=fun e=>hne (by rw[<-e];exact hi)
  unfold ZP
  rw[if_neg this,if_neg this]
 ·rw[WN hne,WN hne]
  exact hm.nested (Nat.lt_succ_of_lt hid) hv h0 h1 hl hB hj he
 ·trivial
theorem ZjJ{lvl key:Nat}{loc:List (Nat×Ob)}{out:Sto}{o:Ob}:ZG lvl (ptO key o loc) out=ZP (ZG lvl loc out) (lvl,key) o:=by
 funext i
 unfold ZG ZP
 by_cases h:i.1=lvl
 ·rw[if_pos h,Zfh]
  by_cases h2:i.2=key
  ·have:i=(lvl,key):=by obtain⟨a,b⟩:=i;simp only at h h2;rw[h,h2]
   rw[if_pos h2,if_pos this]
  ·have:¬ i=(lvl,key):=fun e=>h2 (by rw[e])
   rw[if_neg h2,if_neg this]
   exact(if_pos h).symm
 ·have:¬ i=(lvl,key):=fun e=>h (by rw[e])
  rw[if_neg h,if_neg this]
  exact(if_neg h).symm
theorem ZfG{P:Program}{fid:FuncId}{α:Type}{c:α->List Tr}{m:α->Int->α}{n:α->Nat}{B:α->Prop}(hm:MarkS P fid c m n B){a:List α}{k:Int}{lvl key:Nat}{out:Sto}{kk hw ver:Nat}{cap:Option Nat}{env:List (Nat×IV)}{loc:List (Nat×Ob)}{d:Option Nat}{K:St->Prop}
  (hS:lkO key loc=some (.ar kk (a.map c) true hw ver)) (h0:0<=k) (h1:k+nL n a<=4611686018427387904) (hl:a.length<=4294967296) (hB:∀ x∈a,B x)
  (hk:K ⟨lvl,ptd d (iI (k+nL n a)) env,ptO key (.ar kk ((mL m n a k).map c) true hw ver) loc,out⟩) :
  kcy (Sem P) fid true lvl env loc out d K [.hd (lvl,key) [] 0 a.length cap hw,iI k]:=by
 refine Xc (r:=iI (k+nL n a)) (ptO key (.ar kk ((mL m n a k).map c) true hw ver) loc) out (fun _ _=>rfl) ?_ ⟨?_,hk⟩
 ·rw[ZjJ]
  have e:ZG lvl loc out=ZP (ZG lvl loc out) (lvl,key) (.ar kk (Zak (a.map c) [] (a.map c)) true hw ver):=(Xd (by unfold ZG;rw[if_pos rfl];exact hS)).symm
  have:=hm a k (lvl+1) (ZG lvl loc out) (lvl,key) [] (a.map c) (a.map c) kk hw ver hw cap (Nat.lt_succ_self _) rfl rfl h0 h1 hl hB
  rw[<-e] at this
  exact this
 ·trivial
end Go.Fd

/-
  FOUNDATION 55: a function of the library that orders a row of scalars in place, by the guide's contract. Own work.
-/
namespace Go.Fd
variable [Tabs]
open Go.Sort
section
variable {P:Program} {α:Type} [Inhabited α] {enc:α->Value}
abbrev Zp2(enc:α->Value)(l:List α):Row:=l.map fun x=>[.v (enc x)]
theorem ZcB{l:List α}{p:Pth}{es2:Row}(hp:p≠[]):getp (Zp2 enc l) p≠some es2:=fun h=>by
 cases p with
 | nil=>exact hp rfl
 | cons cd q =>
  obtain⟨c,d⟩:=cd
  obtain⟨e,x,h1,h2,_⟩:=JU h
  obtain⟨n,_,rfl⟩:=List.mem_map.1 (List.mem_of_getElem? h1)
  have:=List.mem_of_getElem? h2
  simp at this
theorem Zk1{l:List α}:UnR 1 (Zp2 enc l):=Zb3 (fun x=>[.v (enc x)]) (fun _=>rfl) l
theorem Zif{d:Array α}{off:Nat}{c:Array Value}:(putCells enc off d c).size=c.size:=by simp [putCells]
theorem ZjK{d:List α}{c:Array Value}{i:Nat}(h:i<d.length)(hc:i<c.size):(putCells enc 0 d.toArray c)[i]? = some (enc d[i]):=by
 simp [putCells,hc,h]
theorem ZjL{f:FuncId}{lvl:Nat}{S:Sto}{id:Oid}{xs ys:List α}{u:Bool}{hw ver:Nat}(hc:Dy P f)(hid:id.1<lvl)(hS:S id=some (.ar 1 (Zp2 enc xs) u hw ver))
  (hsc:∀ x:α,Zao (enc x)=true) (hl:ys.length=xs.length)
  (h0:xs=[]->∀(a:Option Addr) (cap:Nat) (w:World),Calls P f #[.slice a 0 cap] w fun e w' => e = .returned (.tuple #[])/\∃ n,w'=Sort.ahead w n)
  (h1:xs≠[]->∀(b cap:Nat) (w:World),Holds enc w b 0 xs.toArray->b<w.heap.size->Calls P f #[.slice (some ⟨b,0,none⟩) xs.length cap] w fun e w' => e = .returned (.tuple #[])/\∃ n os,w'=grow (putRow enc (Sort.ahead w n) b 0 ys.toArray) os) :
  Sem P f lvl [.hd id [] 0 xs.length none hw] S (.tu []) (ZP S id (.ar 1 (Zp2 enc ys) u hw ver)):=by
 refine⟨trivial,hc,fun hlow G w vs hok hv _=>?_⟩
 simp only[VRs] at hv
 obtain⟨v,vr,rfl,hv,rfl⟩:=hv
 simp only[VR] at hv
 obtain⟨⟨a0,c0,hv0,hlc0⟩,k2,es2,u2,hw2,ver2,hs2,_,hrel⟩:=hv
 rw[hS] at hs2;cases hs2
 obtain⟨es3,k',a,c,hg3,hk,hun,rfl,hlc,hcap,hcap2,hor⟩:=hrel rfl
 cases hg3
 have hk1:=hk rfl
 subst hk1
 by_cases hx:xs=[]
 ·subst hx
  have hy:ys=[]:=List.length_eq_zero_iff.1 (by simpa using hl)
  subst hy
  rw[Xd hS]
  refine(h0 rfl a c w).mono ?_
  rintro e w' ⟨rfl,n,rfl⟩
  have e:Ext w (Sort.ahead w n):=⟨Nat.le_refl _,fun _ _=>rfl,rfl,rfl,rfl⟩
  exact⟨_,G,rfl,hok.ext e,by simp [impv,impvs,VR,VRs],hlow,Frm.of_ext e⟩
 ·have hpos:0<xs.length:=List.length_pos_iff.2 hx
  rcases hor with hz | ⟨hz,_⟩ | ⟨b,cc,hG,rfl,hoc⟩
  ·omega
  ·exact absurd rfl hz
  ·obtain⟨o1,o2,o3,o4,o5⟩:=hok.obs _ _ hS
   have hr:=o4 [] _ (.inl rfl) rfl
   unfold Wh at hr
   rw[hG] at hr
   obtain⟨k3,cells,ty,g1,g2,g3,g4,g5,g6⟩:=hr
   have hk3:=g1 rfl
   subst hk3
   have hbs:b<w.heap.size:=by
    rcases Nat.lt_or_ge b w.heap.size with h | h
    ·exact h
    ·rw[Array.getElem?_eq_none h] at g3;cases g3
   have hH:Holds enc w b 0 xs.toArray:=fun j hj=>by
    have hj:j<xs.length:=by simpa using hj
    obtain⟨x,hx1,hx2⟩:=g6 j [.v (enc xs[j])] 0 (.v (enc xs[j])) (by simp [hj]) rfl
    simp only[YI] at hx2
    obtain⟨rfl,_⟩:=hx2
    refine⟨?_,by simp [World.frozen?,g3]⟩
    have:(xs.toArray)[j]! = xs[j]:=by simp [hj]
    rw[this,cell_of_row w b (0+j) cells ty (0,0) g3]
    simpa using hx1
   refine(h1 hx b c w hH hbs).mono ?_
   rintro e w' ⟨rfl,n,os,rfl⟩
   have hsz:w.heap.size<=(grow (putRow enc (Sort.ahead w n) b 0 ys.toArray) os).heap.size:=by simp [grow,putRow,mapBlock,Sort.ahead]
   have hheap:∀ b2,b2<w.heap.size->b2≠b->(grow (putRow enc (Sort.ahead w n) b 0 ys.toArray) os).heap[b2]? = w.heap[b2]?:=fun b2 h2 hne=>by
    simp only[grow,putRow,mapBlock,Sort.ahead]
    rw[Array.getElem?_append_left (by simpa using h2),Array.getElem?_modify,if_neg (fun e=>hne e.symm)]
   have hrow:(grow (putRow enc (Sort.ahead w n) b 0 ys.toArray) os).heap[b]? = some (.cells (putCells enc 0 ys.toArray cells) ty (0,0)):=by
    simp only[grow,putRow,mapBlock,Sort.ahead]
    rw[Array.getElem?_append_left (by simpa using hbs),Array.getElem?_modify,if_pos rfl,g3]
    rfl
   have hown:∀ ob b2,ob=(.ar 1 (Zp2 enc ys) u hw ver:Ob)->Vm G id ob b2->b2=b:=fun ob b2 ho h=>by
    subst ho
    obtain⟨p,c2,hp,hq,hg⟩:=h
    by_cases hp0:p=[]
    ·subst hp0
     rw[hG] at hg
     cases hg
     rfl
    ·obtain⟨e2,he2⟩:=Option.isSome_iff_exists.1 hq
     exact absurd he2 (ZcB hp0)
   have hbown:Vm G id (.ar 1 (Zp2 enc xs) u hw ver) b:=⟨[],cc,.inl rfl,rfl,hG⟩
   have t:Trn G G S (ZP S id (.ar 1 (Zp2 enc ys) u hw ver)) w (grow (putRow enc (Sort.ahead w n) b 0 ys.toArray) os) (· = id) (fun _=>False):=by
    refine⟨fun _ _=>rfl,fun i ob hi _ hs=>⟨ob,by unfold ZP;rw[if_neg hi];exact hs,Wk.refl ob⟩,fun i ob hi hs=>⟨fun h=>h,ob,by unfold ZP at hs;rw[if_neg hi] at hs;exact hs,Wk.refl ob⟩,hsz,fun b2 h2 hn=>hheap b2 h2 fun e=>hn id _ rfl hS (e ▸ hbown),fun i ob b2 hi hs ho=>?_,fun i ob hi _ hs=>?_⟩
    ·subst hi
     unfold ZP at hs;rw[if_pos rfl] at hs;cases hs
     have:=hown _ b2 rfl ho
     subst this
     exact .inl ⟨i,_,.inl rfl,hS,hbown⟩
    ·subst hi
     rw[hS] at hs;cases hs
     refine⟨.ar 1 (Zp2 enc ys) u hw ver,by unfold ZP;rw[if_pos rfl],rfl,Nat.le_refl _,Nat.le_refl _,fun p st _ hst=>⟨hst,fun es' he=>?_⟩⟩
     by_cases hp0:p=[]
     ·subst hp0
      exact⟨rfl,_,rfl,fun k' hkk _=>by rw[hkk rfl];exact Zk1⟩
     ·exact absurd he (ZcB hp0)
   refine⟨_,G,rfl,t.ok hok (fun i ob hi hs=>?_) (fun i ob j ob' b hi hj _ _ _ _=>hi.trans hj.symm) (fun i cells hi hs=>?_),by simp [impv,impvs,VR,VRs],fun i ob hs=>?_,t.frm (fun _ h=>h.elim) rfl rfl rfl⟩
   ·subst hi
    simp only[impv,impvs,Qi,ZP,if_true] at hs;cases hs
    refine⟨by rw[List.length_map] at *;omega,Zk1,o3,fun p es2 hp he=>?_,fun p p' b1 c1 c2 hp hp' g1 g2 g3 g4=>?_⟩
    ·by_cases hp0:p=[]
     ·subst hp0
      cases he
      unfold Wh
      rw[hG]
      refine⟨1,_,ty,fun _=>rfl,Zk1,hrow,by rw[Zif];exact g4,by rw[List.length_map] at *;omega,fun i e f t hi hf=>?_⟩
      rw[List.getElem?_map] at hi
      obtain⟨y,hy,rfl⟩:=Option.map_eq_some_iff.1 hi
      obtain⟨hil,hyy⟩:=List.getElem?_eq_some_iff.1 hy
      have hf0:f=0/\t = .v (enc y):=by
       cases f with
       | zero=>simp at hf;exact⟨rfl,hf.symm⟩
       | succ f=>simp at hf
      obtain⟨rfl,rfl⟩:=hf0
      refine⟨enc y,?_,rfl,hsc y⟩
      rw[List.length_map] at g5
      rw[show i*1+0=i from by omega,ZjK hil (by omega),hyy]
     ·exact absurd he (ZcB hp0)
    ·by_cases hp0:p=[]
     ·by_cases hp1:p'=[]
      ·rw[hp0,hp1]
      ·obtain⟨e2,he2⟩:=Option.isSome_iff_exists.1 g2
       exact absurd he2 (ZcB hp1)
     ·obtain⟨e2,he2⟩:=Option.isSome_iff_exists.1 g1
      exact absurd he2 (ZcB hp0)
   ·subst hi
    simp only[impv,impvs,Qi,ZP,if_true] at hs;cases hs
   ·simp only[ZP] at hs
    split at hs
    ·rename_i h;rw[h];exact hid
    ·exact hlow i ob hs
end
end Go.Fd

/-
  FOUNDATION 56: a function of the library that orders a row of structs by another function, in place, by the guide's contract. Own work.
-/
namespace Go.Fd
variable [Tabs]
open Go.Sort Go.Proofs Go.RowKit
section
variable {P:Program} {α:Type} [Inhabited α] {enc:α->List Value} {k:Nat}
abbrev ZrT(enc:α->List Value)(l:List α):Row:=l.map fun x=>(enc x).map .v
theorem ZcC{l:List α}{p:Pth}{es2:Row}(hp:p≠[]):getp (ZrT enc l) p≠some es2:=fun h=>by
 cases p with
 | nil=>exact hp rfl
 | cons cd q =>
  obtain⟨c,d⟩:=cd
  obtain⟨e,x,h1,h2,_⟩:=JU h
  obtain⟨n,_,rfl⟩:=List.mem_map.1 (List.mem_of_getElem? h1)
  obtain⟨v,_,hv⟩:=List.mem_map.1 (List.mem_of_getElem? h2)
  cases hv
theorem Zk2(hk:∀ x,(enc x).length=k){l:List α}:UnR k (ZrT enc l):=Zb3 (fun x=>(enc x).map .v) (fun x=>by rw[List.length_map,hk]) l
theorem ZjM{l:List α}:(flatK enc k l.toArray).size=l.length*k:=by simp [flatK]
theorem Zl9(hk:∀ x,(enc x).length=k){l:List α}{i f:Nat}(hi:i<l.length)(hf:f<k):(flatK enc k l.toArray)[i*k+f]! = (enc l[i])[f]'(by rw[hk];exact hf):=by
 have h1:(i*k+f) / k=i:=by
  rw[Nat.mul_comm,Nat.mul_add_div (by omega),Nat.div_eq_of_lt hf,Nat.add_zero]
 have h2:(i*k+f) % k=f:=by
  rw[Nat.mul_comm,Nat.mul_add_mod,Nat.mod_eq_of_lt hf]
 have h3:i*k+f<l.length*k:=by
  have:(i+1)*k<=l.length*k:=Nat.mul_le_mul_right k hi
  rw[Nat.add_mul,Nat.one_mul] at this
  omega
 have hfl:f<(enc l[i]).length:=by rw[hk];exact hf
 simp [flatK,h3,h1,h2,hi,hfl]
theorem ZqR{F c:Array Value}{i:Nat}(h:i<F.size)(hc:i<c.size):(putCells id 0 F c)[i]? = some F[i]!:=by
 simp [putCells,hc,h]
theorem ZoC{F c:Array Value}:(putCells id 0 F c).size=c.size:=by simp [putCells]
theorem Zig{f g:FuncId}{lvl:Nat}{S:Sto}{id:Oid}{xs ys:List α}{u:Bool}{hw ver:Nat}(hk:∀ x,(enc x).length=k)(hk0:0<k)(hc:Dy P f)(hid:id.1<lvl)(hS:S id=some (.ar k (ZrT enc xs) u hw ver))
  (hsc:∀ x:α,∀ v∈enc x,Zao v=true) (hl:ys.length=xs.length) (hpos:0<xs.length)
  (h1:∀(b cap:Nat) (w:World),HoldsK enc k w b 0 xs.toArray->b<w.heap.size->Calls P f #[.slice (some ⟨b,0,none⟩) xs.length cap,.func (.func g) #[] #[]] w fun e w' => e = .returned (.tuple #[])/\∃ n os,w'=sortWorldK enc k w b 0 n ys.toArray os) :
  Sem P f lvl [.hd id [] 0 xs.length none hw,.fn g []] S (.tu []) (ZP S id (.ar k (ZrT enc ys) u hw ver)):=by
 refine⟨trivial,hc,fun hlow G w vs hok hv _=>?_⟩
 simp only[VRs] at hv
 obtain⟨v,vr,rfl,hv,v2,vr2,rfl,hv2,rfl⟩:=hv
 simp only[VR] at hv hv2
 obtain⟨vs2,rfl,hvs2⟩:=hv2
 have hv20:vs2=[]:=hvs2
 subst hv20
 obtain⟨⟨a0,c0,hv0,hlc0⟩,k2,es2,u2,hw2,ver2,hs2,_,hrel⟩:=hv
 rw[hS] at hs2;cases hs2
 obtain⟨es3,k',a,c,hg3,hkk,hun,rfl,hlc,hcap,hcap2,hor⟩:=hrel rfl
 cases hg3
 have hk1:=hkk rfl
 subst hk1
 rcases hor with hz | ⟨hz,_⟩ | ⟨b,cc,hG,rfl,hoc⟩
 ·omega
 ·exact absurd rfl hz
 ·obtain⟨o1,o2,o3,o4,o5⟩:=hok.obs _ _ hS
  have hr:=o4 [] _ (.inl rfl) rfl
  unfold Wh at hr
  rw[hG] at hr
  obtain⟨k3,cells,ty,g1,g2,g3,g4,g5,g6⟩:=hr
  have hk3:=g1 rfl
  subst hk3
  have hbs:b<w.heap.size:=by
   rcases Nat.lt_or_ge b w.heap.size with h | h
   ·exact h
   ·rw[Array.getElem?_eq_none h] at g3;cases g3
  have hH:HoldsK enc k3 w b 0 xs.toArray:=fun j hj=>by
   rw[ZjM] at hj
   obtain⟨i,f,rfl,hf⟩:∃ i f,j=i*k3+f/\f<k3:=⟨j / k3,j % k3,by rw[Nat.mul_comm];exact(Nat.div_add_mod j k3).symm,Nat.mod_lt _ hk0⟩
   have hi:i<xs.length:=by
    rcases Nat.lt_or_ge i xs.length with h | h
    ·exact h
    ·have:=Nat.mul_le_mul_right k3 h
     omega
   have hfl:f<(enc xs[i]).length:=by rw[hk];exact hf
   obtain⟨x,hx1,hx2⟩:=g6 i ((enc xs[i]).map .v) f (.v (enc xs[i])[f]) (by simp [hi]) (by simp [hfl])
   simp only[YI] at hx2
   obtain⟨rfl,_⟩:=hx2
   refine⟨?_,by simp [World.frozen?,g3]⟩
   rw[Zl9 hk hi hf,cell_of_row w b (0+(i*k3+f)) cells ty (0,0) g3]
   simpa using hx1
  rw[Nat.zero_mul]
  refine(h1 b c w hH hbs).mono ?_
  rintro e w' ⟨rfl,n,os,rfl⟩
  have hsz:w.heap.size<=(sortWorldK enc k3 w b 0 n ys.toArray os).heap.size:=by simp [sortWorldK,putRowK,grow,putRow,mapBlock,Sort.ahead]
  have hheap:∀ b2,b2<w.heap.size->b2≠b->(sortWorldK enc k3 w b 0 n ys.toArray os).heap[b2]? = w.heap[b2]?:=fun b2 h2 hne=>by
   simp only[sortWorldK,putRowK,grow,putRow,mapBlock,Sort.ahead]
   rw[Array.getElem?_append_left (by simpa using h2),Array.getElem?_modify,if_neg (fun e=>hne e.symm)]
  have hrow:(sortWorldK enc k3 w b 0 n ys.toArray os).heap[b]? = some (.cells (putCells _root_.id 0 (flatK enc k3 ys.toArray) cells) ty (0,0)):=by
   simp only[sortWorldK,putRowK,grow,putRow,mapBlock,Sort.ahead]
   rw[Array.getElem?_append_left (by simpa using hbs),Array.getElem?_modify,if_pos rfl,g3]
   rfl
  have hown:∀ ob b2,ob=(.ar k3 (ZrT enc ys) u hw ver:Ob)->Vm G id ob b2->b2=b:=fun ob b2 ho h=>by
   subst ho
   obtain⟨p,c2,hp,hq,hg⟩:=h
   by_cases hp0:p=[]
   ·subst hp0
    rw[hG] at hg
    cases hg
    rfl
   ·obtain⟨e2,he2⟩:=Option.isSome_iff_exists.1 hq
    exact absurd he2 (ZcC hp0)
  have hbown:Vm G id (.ar k3 (ZrT enc xs) u hw ver) b:=⟨[],cc,.inl rfl,rfl,hG⟩
  have t:Trn G G S (ZP S id (.ar k3 (ZrT enc ys) u hw ver)) w (sortWorldK enc k3 w b 0 n ys.toArray os) (· = id) (fun _=>False):=by
   refine⟨fun _ _=>rfl,fun i ob hi _ hs=>⟨ob,by unfold ZP;rw[if_neg hi];exact hs,Wk.refl ob⟩,fun i ob hi hs=>⟨fun h=>h,ob,by unfold ZP at hs;rw[if_neg hi] at hs;exact hs,Wk.refl ob⟩,hsz,fun b2 h2 hn=>hheap b2 h2 fun e=>hn id _ rfl hS (e ▸ hbown),fun i ob b2 hi hs ho=>?_,fun i ob hi _ hs=>?_⟩
   ·subst hi
    unfold ZP at hs;rw[if_pos rfl] at hs;cases hs
    have:=hown _ b2 rfl ho
    subst this
    exact .inl ⟨i,_,.inl rfl,hS,hbown⟩
   ·subst hi
    rw[hS] at hs;cases hs
    refine⟨.ar k3 (ZrT enc ys) u hw ver,by unfold ZP;rw[if_pos rfl],rfl,Nat.le_refl _,Nat.le_refl _,fun p st _ hst=>⟨hst,fun es' he=>?_⟩⟩
    by_cases hp0:p=[]
    ·subst hp0
     exact⟨rfl,_,rfl,fun k' hkk _=>by rw[hkk rfl];exact Zk2 hk⟩
    ·exact absurd he (ZcC hp0)
  refine⟨_,G,rfl,t.ok hok (fun i ob hi hs=>?_) (fun i ob j ob' b hi hj _ _ _ _=>hi.trans hj.symm) (fun i cells hi hs=>?_),by simp [impv,impvs,VR,VRs],fun i ob hs=>?_,t.frm (fun _ h=>h.elim) rfl rfl rfl⟩
  ·subst hi
   simp only[impv,impvs,Qi,ZP,if_true] at hs;cases hs
   refine⟨by rw[List.length_map] at *;omega,Zk2 hk,o3,fun p es2 hp he=>?_,fun p p' b1 c1 c2 hp hp' g1 g2 g3 g4=>?_⟩
   ·by_cases hp0:p=[]
    ·subst hp0
     cases he
     unfold Wh
     rw[hG]
     refine⟨k3,_,ty,fun _=>rfl,Zk2 hk,hrow,by rw[ZoC];exact g4,by rw[List.length_map] at *;omega,fun i e f t hi hf=>?_⟩
     rw[List.getElem?_map] at hi
     obtain⟨y,hy,rfl⟩:=Option.map_eq_some_iff.1 hi
     obtain⟨hil,hyy⟩:=List.getElem?_eq_some_iff.1 hy
     rw[List.getElem?_map] at hf
     obtain⟨v,hv,rfl⟩:=Option.map_eq_some_iff.1 hf
     obtain⟨hfl,hvv⟩:=List.getElem?_eq_some_iff.1 hv
     have hfk:f<k3:=by rw[<-hk y];exact hfl
     have hlt:i*k3+f<ys.length*k3:=by
      have:(i+1)*k3<=ys.length*k3:=Nat.mul_le_mul_right k3 hil
      rw[Nat.add_mul,Nat.one_mul] at this
      omega
     have hlt2:i*k3+f<cells.size:=by
      rw[List.length_map] at g5
      rw[g4]
      have:ys.length*k3<=cc*k3:=Nat.mul_le_mul_right k3 (by omega)
      omega
     refine⟨v,?_,rfl,hsc y v (List.mem_of_getElem? hv)⟩
     rw[ZqR (by rw[ZjM];exact hlt) hlt2,Zl9 hk hil hfk]
     subst hyy
     rw[hvv]
    ·exact absurd he (ZcC hp0)
   ·by_cases hp0:p=[]
    ·by_cases hp1:p'=[]
     ·rw[hp0,hp1]
     ·obtain⟨e2,he2⟩:=Option.isSome_iff_exists.1 g2
      exact absurd he2 (ZcC hp1)
    ·obtain⟨e2,he2⟩:=Option.isSome_iff_exists.1 g1
     exact absurd he2 (ZcC hp0)
  ·subst hi
   simp only[impv,impvs,Qi,ZP,if_true] at hs;cases hs
  ·simp only[ZP] at hs
   split at hs
   ·rename_i h;rw[h];exact hid
   ·exact hlow i ob hs
end
end Go.Fd

/-
  NUMBERS OF LIBRARY FUNCTIONS IN THIS PROGRAM, as the guide's shelf lays them (printed by lay.py out of the kit's own command).
-/
namespace Go.Proofs
open Go.Shelf
def Tryz.sortW_ren:Go.Shelf.Ren:=⟨fun | 6=>259 | 15=>146 | 14=>281 | 28=>191 | 29=>192 | 20=>296 | 21=>297 | 22=>298 | 23=>299 | 24=>300 | 25=>301 | 26=>302 | 27=>303 | 46=>308 | 47=>229 | 48=>230 | 49=>309 | 50=>310 | 57=>321 | n=>n,fun | 22=>54 | 24=>132 | 25=>270 | 3=>3 | 39=>181 | 0=>0 | 53=>216 | 55=>218 | 4=>4 | 46=>208 | 45=>207 | 50=>213 | 5=>5 | 9=>9 | 66=>243 | 70=>247 | 76=>278 | 77=>279 | n=>n,fun | n=>n⟩
theorem Tryz.sortW:Go.Proofs.SlLaysF0.n6 Tryz.prog Tryz.sortW_ren:={
  mixed:=by kernel_rfl,
  f6:=⟨"slices.SortFunc[[]loop.example/g01082/impl.Wire,loop.example/g01082/impl.Wire]",by decide,Tryz.func259.trans (congrArg some (by kernel_rfl))⟩,
  f14:=⟨"slices.pdqsortCmpFunc[loop.example/g01082/impl.Wire]",by decide,Tryz.func281.trans (congrArg some (by kernel_rfl))⟩,
  f15:=Tryz.func146.trans (congrArg some (by kernel_rfl)),
  f20:=⟨"slices.insertionSortCmpFunc[loop.example/g01082/impl.Wire]",by decide,Tryz.func296.trans (congrArg some (by kernel_rfl))⟩,
  f21:=⟨"slices.heapSortCmpFunc[loop.example/g01082/impl.Wire]",by decide,Tryz.func297.trans (congrArg some (by kernel_rfl))⟩,
  f22:=⟨"slices.breakPatternsCmpFunc[loop.example/g01082/impl.Wire]",by decide,Tryz.func298.trans (congrArg some (by kernel_rfl))⟩,
  f23:=⟨"slices.choosePivotCmpFunc[loop.example/g01082/impl.Wire]",by decide,Tryz.func299.trans (congrArg some (by kernel_rfl))⟩,
  f24:=⟨"slices.reverseRangeCmpFunc[loop.example/g01082/impl.Wire]",by decide,Tryz.func300.trans (congrArg some (by kernel_rfl))⟩,
  f25:=⟨"slices.partialInsertionSortCmpFunc[loop.example/g01082/impl.Wire]",by decide,Tryz.func301.trans (congrArg some (by kernel_rfl))⟩,
  f26:=⟨"slices.partitionEqualCmpFunc[loop.example/g01082/impl.Wire]",by decide,Tryz.func302.trans (congrArg some (by kernel_rfl))⟩,
  f27:=⟨"slices.partitionCmpFunc[loop.example/g01082/impl.Wire]",by decide,Tryz.func303.trans (congrArg some (by kernel_rfl))⟩,
  f28:=Tryz.func191.trans (congrArg some (by kernel_rfl)),
  f29:=Tryz.func192.trans (congrArg some (by kernel_rfl)),
  f46:=⟨"slices.siftDownCmpFunc[loop.example/g01082/impl.Wire]",by decide,Tryz.func308.trans (congrArg some (by kernel_rfl))⟩,
  f47:=Tryz.func229.trans (congrArg some (by kernel_rfl)),
  f48:=Tryz.func230.trans (congrArg some (by kernel_rfl)),
  f49:=⟨"slices.medianAdjacentCmpFunc[loop.example/g01082/impl.Wire]",by decide,Tryz.func309.trans (congrArg some (by kernel_rfl))⟩,
  f50:=⟨"slices.medianCmpFunc[loop.example/g01082/impl.Wire]",by decide,Tryz.func310.trans (congrArg some (by kernel_rfl))⟩,
  f57:=⟨"slices.order2CmpFunc[loop.example/g01082/impl.Wire]",by decide,Tryz.func321.trans (congrArg some (by kernel_rfl))⟩,
  t0:=Tryz.underlying0,
  a0:=Tryz.isAgg0,
  z0:=Tryz.sizeOf0,
  v0:=Tryz.zeroValue0,
  t3:=Tryz.underlying3,
  a3:=Tryz.isAgg3,
  z3:=Tryz.sizeOf3,
  v3:=Tryz.zeroValue3,
  t4:=Tryz.underlying4,
  a4:=Tryz.isAgg4,
  z4:=Tryz.sizeOf4,
  v4:=Tryz.zeroValue4,
  t5:=Tryz.underlying5,
  a5:=Tryz.isAgg5,
  z5:=Tryz.sizeOf5,
  v5:=Tryz.zeroValue5,
  t9:=Tryz.underlying9,
  a9:=Tryz.isAgg9,
  z9:=Tryz.sizeOf9,
  v9:=Tryz.zeroValue9,
  t22:=Tryz.underlying54,
  a22:=Tryz.isAgg54,
  z22:=Tryz.sizeOf54,
  v22:=Tryz.zeroValue54,
  t25:=Tryz.underlying270,
  a25:=Tryz.isAgg270,
  z25:=Tryz.sizeOf270,
  v25:=Tryz.zeroValue270,
  t39:=Tryz.underlying181,
  a39:=Tryz.isAgg181,
  z39:=Tryz.sizeOf181,
  v39:=Tryz.zeroValue181,
  t45:=Tryz.underlying207,
  a45:=Tryz.isAgg207,
  z45:=Tryz.sizeOf207,
  v45:=Tryz.zeroValue207,
  t46:=Tryz.underlying208,
  a46:=Tryz.isAgg208,
  z46:=Tryz.sizeOf208,
  v46:=Tryz.zeroValue208,
  t50:=Tryz.underlying213,
  a50:=Tryz.isAgg213,
  z50:=Tryz.sizeOf213,
  v50:=Tryz.zeroValue213,
  t53:=Tryz.underlying216,
  a53:=Tryz.isAgg216,
  z53:=Tryz.sizeOf216,
  v53:=Tryz.zeroValue216,
  t55:=Tryz.underlying218,
  a55:=Tryz.isAgg218,
  z55:=Tryz.sizeOf218,
  v55:=Tryz.zeroValue218,
  t66:=Tryz.underlying243,
  a66:=Tryz.isAgg243,
  z66:=Tryz.sizeOf243,
  v66:=Tryz.zeroValue243,
  t70:=Tryz.underlying247,
  a70:=Tryz.isAgg247,
  z70:=Tryz.sizeOf247,
  v70:=Tryz.zeroValue247,
  t76:=Tryz.underlying278,
  a76:=Tryz.isAgg278,
  z76:=Tryz.sizeOf278,
  v76:=Tryz.zeroValue278,
  t77:=Tryz.underlying279,
  a77:=Tryz.isAgg279,
  z77:=Tryz.sizeOf279,
  v77:=Tryz.zeroValue279 }
end Go.Proofs

/-
  FOUNDATION 51: a loop that counts, told by what changes. Own work.
-/
namespace Go.Fd
def pts:List (Nat×IV)->List (Nat×IV)->List (Nat×IV)
 | [],env=>env
 | (t,x)::r,env=>pts r (pt t x env)
def Zue:List (Nat×Ob)->List (Nat×Ob)->List (Nat×Ob)
 | [],loc=>loc
 | (t,x)::r,loc=>Zue r (ptO t x loc)
def chg(ce:List (Nat×IV))(co:List (Nat×Ob))(s:St):St:=⟨s.lvl,pts ce s.env,Zue co s.loc,s.out⟩
section
variable {C:Zk} {lvl:Nat} {env:List (Nat×IV)} {loc:List (Nat×Ob)} {out:Sto} {st:St} {Q:Ex->St->Prop}
theorem ZBA{ce:List (Nat×IV)}{co:List (Nat×Ob)}:chg ce co ⟨lvl,env,loc,out⟩=⟨lvl,pts ce env,Zue co loc,out⟩:=(rfl)
theorem ZwG:pts [] env=env:=(rfl)
theorem ZwH{t:Nat}{x:IV}{r:List (Nat×IV)}:pts ((t,x)::r) env=pts r (pt t x env):=(rfl)
theorem Ztz:Zue [] loc=loc:=(rfl)
theorem ZtA{t:Nat}{x:Ob}{r:List (Nat×Ob)}:Zue ((t,x)::r) loc=Zue r (ptO t x loc):=(rfl)
theorem Zz{α:Type}{ks js:List Nat}{c:C2}(N:Nat)(ce:Nat->α->List (Nat×IV))(co:Nat->α->List (Nat×Ob))(A:Nat->α->Prop)(x0:α)
  (h1:clean ks js st) (h0:fgt ks js st=chg (ce 0 x0) (co 0 x0) (fgt ks js st)) (hA:A 0 x0)
  (hs:∀ k x,k<=N->A k x->wp C c (chg (ce k x) (co k x) (fgt ks js st)) (ZfC ks js (ZxQ N (fun k x=>chg (ce k x) (co k x) (fgt ks js st)) A (N-k)) Q)):wp C (.lp ks js c) st Q :=
 Z8 N (fun k x=>chg (ce k x) (co k x) (fgt ks js st)) A x0 ⟨h1,h0⟩ hA hs
end
section
variable {L:Sto} {F:List IV->Prop} {r:List IV}
def ZCg(L:Sto)(r:List IV)(F:List IV->Prop)(y:IV):Prop:=JE L r (kcn y F)
theorem ZwI{y:IV}:ZCg L r F y=JE L r (kcn y F):=(rfl)
theorem ZBB{id:Oid}{off:Nat}:JE L (.ab id off::r) F=ZhH (L id) L off (ZCg L r F):=by simp only[JE,Wi];rfl
def kta(F:IV->Prop)(ts:List Tr):Prop:=F (.ta ts)
theorem ZBC{F:IV->Prop}{ts:List Tr}:kta F ts=F (.ta ts):=(rfl)
theorem ZBD{cells:List IV}{off:Nat}{F:IV->Prop}:ZhH (some (.bx cells)) L off F=Q4 L (cells.drop off) (kta F):=(rfl)
def kct(t:Tr)(F:List Tr->Prop)(ts:List Tr):Prop:=F (t::ts)
theorem ZBE{t:Tr}{F:List Tr->Prop}{ts:List Tr}:kct t F ts=F (t::ts):=(rfl)
def ZCh(L:Sto)(r:List IV)(F:List Tr->Prop)(t:Tr):Prop:=Q4 L r (kct t F)
theorem ZwJ{F:List Tr->Prop}{t:Tr}:ZCh L r F t=Q4 L r (kct t F):=(rfl)
theorem ZwK{F:List Tr->Prop}:Q4 L [] F=F []:=(rfl)
theorem ZwL{x:IV}{F:List Tr->Prop}:Q4 L (x::r) F=Zcj L x (ZCh L r F):=(rfl)
theorem ZwM{t:Tr}{F:Tr->Prop}:Zcj L (.tr t) F=F t:=(rfl)
theorem ZwN{es:Row}{F:Tr->Prop}:Zcj L (.cs es) F=F (.sl es):=(rfl)
def ZCi(off len:Nat)(F:Tr->Prop)(es:Row)(_u:Bool)(_v:Nat):Prop:=off+len<=es.length/\F (.sl (cut es off len))
theorem ZwO{off len:Nat}{F:Tr->Prop}{es:Row}{u:Bool}{v:Nat}:ZCi off len F es u v=(off+len<=es.length/\F (.sl (cut es off len))):=(rfl)
theorem ZwP{id:Oid}{p:Pth}{off len s:Nat}{cap:Option Nat}{F:Tr->Prop}:Zcj L (.hd id p off len cap s) F=rd3 (L id) p s (ZCi off len F):=by rw[<-Zaz];rfl
end
theorem ZwQ{α:Type}{x:α}:List.replicate 1 x=[x]:=(rfl)
theorem ZwR{e:List Tr}:cut [e] 0 1=[e]:=(rfl)
theorem ZwS{l:List Tr}:ScR [l]=(l.all isSc=true):=by
 apply propext
 constructor
 ·intro h
  exact List.all_eq_true.2 fun t ht=>h l (by simp) t ht
 ·intro h e he t ht
  simp only[List.mem_singleton] at he
  subst he
  exact List.all_eq_true.1 h t ht
theorem ZwT{k:Nat}{l:List Tr}:UnR k [l]=(l.length=k):=by
 apply propext
 constructor
 ·intro h;exact h l (by simp)
 ·intro h e he
  simp only[List.mem_singleton] at he
  rw[he,h]
theorem ZBF{j:Nat}:max j (j+1)=j+1:=by omega
theorem ZBG{j:Nat}:(j<j+1)=True:=by simp
end Go.Fd

/-
  FOUNDATION 52: numbers and strings as parameters of a law. Own work.
-/
namespace Go.Fd
open Go.RowKit Go.ChangeShapes Go.ChangeMaps Go.WideMaps
section
variable {H:Type} {enc:TypeId×Value->H} {P:Program} {w:World} {t:TypeId} {v:Value} {d:DataW H} {p:List MemPlace} {sp:Nat->Bool} {hd:Bool} {base:Nat}
end
end Go.Fd

/-
  FOUNDATION 54: all rules in one word (printed by evr.py). Own work.
-/
namespace Go.Fd
set_option linter.defProp false in
def EV0:=(And.intro (And.intro (And.intro (And.intro (And.intro @ZuL @ZyP) (And.intro @ZuM (And.intro @ZuN @ZuO))) (And.intro (And.intro @ZuP @ZuQ) (And.intro @ZuR (And.intro @ZuS @ZyQ)))) (And.intro (And.intro (And.intro @ZyR @ZyS) (And.intro @ZCt (And.intro @ZCu @ZCv))) (And.intro (And.intro @ZCw @ZCx) (And.intro @ZCy (And.intro @ZCz @ZCA))))) (And.intro (And.intro (And.intro (And.intro @ZyT @ZyU) (And.intro @ZyV (And.intro @ZuT @ZCB))) (And.intro (And.intro @ZyW @ZyX) (And.intro @ZCC (And.intro @ZyY @ZuU)))) (And.intro (And.intro (And.intro @ZCD @ZyZ) (And.intro @ZCE (And.intro @Zy0 @ZCF))) (And.intro (And.intro @Zy1 @ZCG) (And.intro @ZCH (And.intro @ZCI @ZqB))))))
set_option linter.defProp false in
def EV1:=(And.intro (And.intro (And.intro (And.intro (And.intro @ZqC @Zy2) (And.intro @ZsO (And.intro @ZCJ @Zy3))) (And.intro (And.intro @ZCK @ZuW) (And.intro @ZuX (And.intro @ZuY @ZuZ)))) (And.intro (And.intro (And.intro @Zu0 @Zu1) (And.intro @Zy4 (And.intro @Zy5 @Zy6))) (And.intro (And.intro @Zy7 @Zy8) (And.intro @Zy9 (And.intro @Zza @Zzb))))) (And.intro (And.intro (And.intro (And.intro @Zzc @Zzd) (And.intro @Zze (And.intro @Zzf @Zzg))) (And.intro (And.intro @Zzh @Zzi) (And.intro @Zzj (And.intro @Zu2 @Zu3)))) (And.intro (And.intro (And.intro @Zu4 @Zzk) (And.intro @Zzl (And.intro @Zzm @Zzn))) (And.intro (And.intro @ZCL @ZCM) (And.intro @Zzo (And.intro @ZCN @Zzp))))))
set_option linter.defProp false in
def EV2:=(And.intro (And.intro (And.intro (And.intro (And.intro @ZCO @Zzq) (And.intro @Zzr (And.intro @Zzs @Zzt))) (And.intro (And.intro @ZCP @Zzu) (And.intro @ZCQ (And.intro @Zzv @Zzw)))) (And.intro (And.intro (And.intro @Zzx @ZCR) (And.intro @Zzy (And.intro @ZCS @ZCT))) (And.intro (And.intro @Zzz @ZzA) (And.intro @ZCU (And.intro @ZzB @ZzC))))) (And.intro (And.intro (And.intro (And.intro @ZzD @ZCV) (And.intro @ZzE (And.intro @ZCW @ZzF))) (And.intro (And.intro @ZzG @ZzH) (And.intro @ZCX (And.intro @ZzI @ZzJ)))) (And.intro (And.intro (And.intro @ZzK @ZCY) (And.intro @ZzL (And.intro @ZzM @ZzN))) (And.intro (And.intro @ZCZ @ZzO) (And.intro @ZzP (And.intro @ZzQ @ZzR))))))
set_option linter.defProp false in
def EV3:=(And.intro (And.intro (And.intro (And.intro (And.intro @ZzS @ZqD) (And.intro @ZqE (And.intro @ZzT @Zu5))) (And.intro (And.intro @ZzU @ZC0) (And.intro @ZzV (And.intro @ZzW @ZzX)))) (And.intro (And.intro (And.intro @ZzY @ZC1) (And.intro @ZzZ (And.intro @ZC2 @Zz0))) (And.intro (And.intro @Zz1 @YV) (And.intro @Zb2 (And.intro @Zu6 @Zz2))))) (And.intro (And.intro (And.intro (And.intro @V3 @Zz3) (And.intro @Zz4 (And.intro @Zz5 @Zu7))) (And.intro (And.intro @Zu8 @Zva) (And.intro @ZsP (And.intro @ZC3 @Zz6)))) (And.intro (And.intro (And.intro @Zz7 @Zz8) (And.intro @Zz9 (And.intro @Zvb @ZAa))) (And.intro (And.intro @ZAb @ZAc) (And.intro @ZAd (And.intro @ZAe @Zvc))))))
set_option linter.defProp false in
def EV4:=(And.intro (And.intro (And.intro (And.intro (And.intro @Zvd @ZAf) (And.intro @Zve (And.intro @Zvf @ZC4))) (And.intro (And.intro @ZAg @ZAh) (And.intro @ZAi (And.intro @ZAj @Zvg)))) (And.intro (And.intro (And.intro @ZC5 @ZAk) (And.intro @ZC6 (And.intro @ZAl @ZAm))) (And.intro (And.intro @ZAn @ZC7) (And.intro @ZAo (And.intro @ZAp @ZAq))))) (And.intro (And.intro (And.intro (And.intro @Zvh @Zvi) (And.intro @Zvj (And.intro @Zvk @ZsQ))) (And.intro (And.intro @Zvl @ZAr) (And.intro @ZAs (And.intro @ZAt @Zvm)))) (And.intro (And.intro (And.intro @ZAu @ZAv) (And.intro @ZAw (And.intro @ZC8 @ZAx))) (And.intro (And.intro @ZAy @Zvn) (And.intro @ZAz (And.intro @Zvo @ZAA))))))
set_option linter.defProp false in
def EV5:=(And.intro (And.intro (And.intro (And.intro (And.intro @Zvp @ZAB) (And.intro @Zvq (And.intro @ZAC @Zvr))) (And.intro (And.intro @Zvs @Zvt) (And.intro @ZAD (And.intro @ZsR @ZsS)))) (And.intro (And.intro (And.intro @ZAE @Zvu) (And.intro @Zvv (And.intro @Zvw @Zvx))) (And.intro (And.intro @Zvy @ZAF) (And.intro @Zvz (And.intro @ZAG @ZvA))))) (And.intro (And.intro (And.intro (And.intro @ZsT @ZsU) (And.intro @ZsV (And.intro @ZsW @ZsX))) (And.intro (And.intro @ZsY @ZsZ) (And.intro @ZAH (And.intro @ZqF @ZqG)))) (And.intro (And.intro (And.intro @Zs0 @Zs1) (And.intro @Zs2 (And.intro @Zs3 @ZqH))) (And.intro (And.intro @ZqI @ZqJ) (And.intro @ZqK (And.intro @ZqL @ZqM))))))
set_option linter.defProp false in
def EV6:=(And.intro (And.intro (And.intro (And.intro (And.intro @Zs4 @Zs5) (And.intro @Zs6 (And.intro @ZvB @ZvC))) (And.intro (And.intro @ZAI @Zs7) (And.intro @ZvD (And.intro @ZvE @Zs8)))) (And.intro (And.intro (And.intro @ZvF @ZvG) (And.intro @ZvH (And.intro @ZvI @ZvJ))) (And.intro (And.intro @ZvK @ZvL) (And.intro @Zs9 (And.intro @Zta @Ztb))))) (And.intro (And.intro (And.intro (And.intro @Ztc @ZvM) (And.intro @ZvN (And.intro @ZvO @ZvP))) (And.intro (And.intro @ZvQ @ZqN) (And.intro @ZqO (And.intro @ZqP @ZC9)))) (And.intro (And.intro (And.intro @ZAK @ZAL) (And.intro @ZAM (And.intro @Ze3 @Ze4))) (And.intro (And.intro @Ztd @Zte) (And.intro @ZvR (And.intro @ZvS @ZvT))))))
set_option linter.defProp false in
def EV7:=(And.intro (And.intro (And.intro (And.intro (And.intro @ZvU @ZvV) (And.intro @ZvW (And.intro @ZvX @ZvY))) (And.intro (And.intro @ZvZ @Ztf) (And.intro @ZAN (And.intro @Ztg @Zth)))) (And.intro (And.intro (And.intro @ZAO @ZAP) (And.intro @ZAQ (And.intro @ZAR @Zv0))) (And.intro (And.intro @Zv1 @Zv2) (And.intro @ZAS (And.intro @ZDa @ZAT))))) (And.intro (And.intro (And.intro (And.intro @ZAU @ZAV) (And.intro @ZAW (And.intro @ZAX @Zti))) (And.intro (And.intro @Ztj @Zv3) (And.intro @Zv4 (And.intro @Zv5 @Zv6)))) (And.intro (And.intro (And.intro @ZAY @Zv8) (And.intro @Ztk (And.intro @Ztl @Zv9))) (And.intro (And.intro @Zwa @ZDb) (And.intro @ZDc (And.intro @Ztm @Ztn))))))
set_option linter.defProp false in
def EV8:=(And.intro (And.intro (And.intro (And.intro (And.intro @ZDd @ZDe) (And.intro @ZAZ (And.intro @ZA0 @ZDf))) (And.intro (And.intro @ZDg @ZA1) (And.intro @ZA2 (And.intro @ZA3 @ZA4)))) (And.intro (And.intro (And.intro @ZA5 @ZDh) (And.intro @Zwb (And.intro @Zwc @ZDi))) (And.intro (And.intro @Zwd @Zwe) (And.intro @Zwf (And.intro @Zwg @Zwh))))) (And.intro (And.intro (And.intro (And.intro @ZDj @ZDk) (And.intro @Zwi (And.intro @Zwj @Zwk))) (And.intro (And.intro @ZA6 @ZDl) (And.intro @ZA7 (And.intro @ZA8 @Zwl)))) (And.intro (And.intro (And.intro @Zwm @ZA9) (And.intro @Zwn (And.intro @Zwo @ZBa))) (And.intro (And.intro @Zwp @ZBc) (And.intro @Zwq (And.intro @Zto @Zic))))))
set_option linter.defProp false in
def EV9:=(And.intro (And.intro (And.intro (And.intro (And.intro @ZDm @ZBd) (And.intro @ZBe (And.intro @Zwr @ZDn))) (And.intro (And.intro @ZBf @ZDo) (And.intro @ZBg (And.intro @ZBh @ZBi)))) (And.intro (And.intro (And.intro @ZDp @ZBj) (And.intro @ZBk (And.intro @Zws @Zwt))) (And.intro (And.intro @ZDq @ZBl) (And.intro @ZDr (And.intro @ZBm @ZBn))))) (And.intro (And.intro (And.intro (And.intro @ZBo @Ztp) (And.intro @Ztq (And.intro @Zwu @Zwv))) (And.intro (And.intro @Zww @Zwx) (And.intro @Ztr (And.intro @Zow @ZDs)))) (And.intro (And.intro (And.intro @Zts @Ztt) (And.intro @Ztu (And.intro @Ztv @Ztw))) (And.intro (And.intro @Zwy @ZDt) (And.intro @ZBq (And.intro @ZBr @ZDu))))))
set_option linter.defProp false in
def ZDy:=(And.intro (And.intro (And.intro (And.intro (And.intro @ZBs @ZBt) (And.intro @ZBu (And.intro @Zwz @ZwA))) (And.intro (And.intro @ZwB @ZBv) (And.intro @ZBw (And.intro @ZDv @ZDw)))) (And.intro (And.intro (And.intro @ZBx @ZDx) (And.intro @ZBy (And.intro @ZBz @ZwC))) (And.intro (And.intro @ZBA @ZwG) (And.intro @ZwH (And.intro @Ztz @ZtA))))) (And.intro (And.intro (And.intro (And.intro @ZwI @ZBB) (And.intro @ZBC (And.intro @ZBD @ZBE))) (And.intro (And.intro @ZwJ @ZwK) (And.intro @ZwL (And.intro @ZwM @ZwN)))) (And.intro (And.intro (And.intro @ZwO @ZwP) (And.intro @ZwQ (And.intro @ZwR @ZwS))) (And.intro (And.intro @ZwT @ZBF) (And.intro @ZBG (And.intro @bigN.eq_1 @fpart.eq_1))))))
set_option linter.defProp false in
def ZDz:=(And.intro (And.intro (And.intro (And.intro (And.intro @fpart.eq_2 @okp.eq_1) (And.intro @okp.eq_2 (And.intro @zfill.eq_1 @zfill.eq_2))) (And.intro (And.intro @zobs.eq_1 @ptd.eq_1) (And.intro @ptd.eq_2 (And.intro @keyOf.eq_1 @keyOf.eq_2)))) (And.intro (And.intro (And.intro @freshK.eq_1 @freshK.eq_2) (And.intro @lk.eq_1 (And.intro @lk.eq_2 @pt.eq_1))) (And.intro (And.intro @pt.eq_2 @lkO.eq_1) (And.intro @lkO.eq_2 (And.intro @ptO.eq_1 @ptO.eq_2))))) (And.intro (And.intro (And.intro (And.intro @addO.eq_1 @addO.eq_2) (And.intro @xv.eq_1 (And.intro @xv.eq_2 @xv.eq_3))) (And.intro (And.intro @kv.eq_1 @kv.eq_2) (And.intro @kc.eq_1 (And.intro @kc.eq_2 @params.eq_1)))) (And.intro (And.intro (And.intro @params.eq_2 @trv.eq_1) (And.intro @trv.eq_2 (And.intro @List.length_cons.{0} @List.length_nil.{0}))) (And.intro (And.intro @Option.getD_some.{0} @Option.getD_none.{0}) (And.intro @true_and (And.intro @and_true @decide_eq_true_eq))))))
set_option linter.defProp false in
def ZDA:=(And.intro (And.intro (And.intro (And.intro (And.intro @decide_true @decide_false) (And.intro @Option.map_some.{0,0} (And.intro @Option.map_none.{0,0} @Option.isSome_some.{0}))) (And.intro (And.intro @Option.isSome_none.{0} @Option.isNone_some.{0}) (And.intro @Option.isNone_none.{0} (And.intro @List.map_cons.{0,0} @List.map_nil.{0,0})))) (And.intro (And.intro (And.intro @List.cons_append.{0} @List.nil_append.{0}) (And.intro @List.getElem?_cons_zero.{0} (And.intro @List.getElem?_cons_succ.{0} @List.drop_succ_cons.{0}))) (And.intro (And.intro @List.drop_zero.{0} @List.take_succ_cons.{0}) (And.intro @List.take_zero.{0} (And.intro @List.headD_cons.{0} @List.headD_nil.{0}))))) (And.intro (And.intro (And.intro (And.intro @List.tail_cons.{0} @List.tail_nil.{0}) (And.intro @noSh.eq_1 (And.intro @noSh.eq_2 @noSh.eq_3))) (And.intro (And.intro @noSh.eq_4 @noSh.eq_5) (And.intro @noSh.eq_6 (And.intro @noSh.eq_7 @noSh.eq_8)))) (And.intro (And.intro (And.intro @noShs.eq_1 @noShs.eq_2) (And.intro @isSc.eq_1 (And.intro @isSc.eq_2 @impv.eq_1))) (And.intro (And.intro @impv.eq_2 @impv.eq_3) (And.intro @impv.eq_4 (And.intro @impvs.eq_1 @impvs.eq_2))))))
set_option linter.defProp false in
def ZDB:=(And.intro (And.intro (And.intro (And.intro (And.intro @impc.eq_1 @impc.eq_2) (And.intro @memB.eq_1 (And.intro @memB.eq_2 @keepB.eq_1))) (And.intro (And.intro @keepB.eq_2 @keepOB.eq_1) (And.intro @keepOB.eq_2 (And.intro @or_true @true_or)))) (And.intro (And.intro (And.intro @or_false @false_or) (And.intro @Bool.false_eq_true (And.intro @Bool.true_eq_false @if_true.{1}))) (And.intro (And.intro @if_false.{1} @Bool.not_true) (And.intro @Bool.not_false (And.intro @scrE.eq_1 @scrE.eq_2))))) (And.intro (And.intro (And.intro (And.intro @scrL.eq_1 @scrL.eq_2) (And.intro @scr.eq_1 (And.intro @scr.eq_2 @scr.eq_3))) (And.intro (And.intro @scr.eq_4 @scr.eq_5) (And.intro @scr.eq_6 (And.intro @scr.eq_7 @scr.eq_8)))) (And.intro (And.intro (And.intro @scrs.eq_1 @scrs.eq_2) (And.intro @scrOb.eq_1 (And.intro @scrOb.eq_2 @rmO.eq_1))) (And.intro (And.intro @rmO.eq_2 @Int.toNat_natCast) (And.intro @Int.toNat_zero (And.intro @Int.toNat_one @List.all_cons.{0}))))))
set_option linter.defProp false in
def ZDC:=(And.intro (And.intro (And.intro (And.intro (And.intro @List.all_nil.{0} @isCell.eq_1) (And.intro @isCell.eq_2 (And.intro @isCell.eq_3 @isCell.eq_4))) (And.intro (And.intro @isCell.eq_5 @isCell.eq_6) (And.intro @Bool.and_true (And.intro @Bool.true_and @Bool.and_self)))) (And.intro (And.intro (And.intro @cellsOf.eq_1 @cellsOf.eq_2) (And.intro @totr.eq_1 (And.intro @totr.eq_2 @totr.eq_3))) (And.intro (And.intro @totr.eq_4 @totr.eq_5) (And.intro @totrs.eq_1 (And.intro @totrs.eq_2 @tocs.eq_1))))) (And.intro (And.intro (And.intro (And.intro @getp.eq_1 @getp.eq_2) (And.intro @cvt.eq_1 (And.intro @cvt.eq_2 @cvts.eq_1))) (And.intro (And.intro @cvts.eq_2 @Nat.zero_add) (And.intro @Nat.add_zero (And.intro @List.set_cons_zero.{0} @List.set_cons_succ.{0})))) (And.intro (And.intro (And.intro @Bool.not_eq_true' @Bool.not_eq_false') (And.intro @Int.natCast_nonneg (And.intro @Nat.le_refl @Prod.mk.injEq.{0,0}))) (And.intro (And.intro @ne_eq.{1} @not_false_eq_true) (And.intro @not_true_eq_false (And.intro @List.length_map.{0,0} @List.length_replicate.{0}))))))
set_option linter.defProp false in
def ZDD:=(And.intro (And.intro @List.replicate_zero.{0} @and_false) (And.intro @false_and (And.intro @and_self @Int.cast_ofNat_Int)))
set_option linter.defProp false in
def EVA:=(And.intro (And.intro (And.intro (And.intro EV0 EV1) (And.intro EV2 EV3)) (And.intro (And.intro EV4 EV5) (And.intro EV6 EV7))) (And.intro (And.intro (And.intro EV8 EV9) (And.intro ZDy ZDz)) (And.intro (And.intro ZDA ZDB) (And.intro ZDC ZDD))))
abbrev oo(d:Nat)(x:O):OP:=⟨some d,none,x⟩
abbrev on1(x:O):OP:=⟨none,none,x⟩
abbrev og(d j:Nat)(w:Bool)(x:O):OP:=⟨some d,some (j,w),x⟩
abbrev om(d:Nat)(x:X):OP:=⟨some d,none,.mv x none⟩
abbrev rg(l:List OP):C2:=.rg none l
abbrev i6(n:Int):X:=.k (.int .i64 n)
end Go.Fd

/-
  PLAIN WORDS FOR THE DATA, AND WHAT HOLDS OF THE HELPERS OF THE LAWS THAT ARE ALIKE FOR ALL KINDS OF SLICES. Own work.
-/
namespace Go.Fd
set_option maxRecDepth 10000
theorem Zl{c:Prop}[Decidable c]{p q:Prop}(h1:c->p)(h2:¬ c->q):if c then p else q:=by
 split
 ·exact h1 ‹_›
 ·exact h2 ‹_›
def szF{α:Type}(f:α->Int->Int):List α->Int->Int
 | [],l=>l
 | x::r,l=>if f x l<0 then -1 else szF f r (f x l)
def szL{α:Type}(f:α->Int->Int)(a:List α)(left:Int):Int:=if left-a.length<0 then -1 else szF f a (left-a.length)
def ZxT(k:Nat)(m:Option Nat)(fid:FuncId):F2 :=
 { nt:=27,res:=[.t 4 [0]],body:=(.sq (.rg none [⟨some 4,none,.mv (.k (.int .i64 0)) none⟩]) (.sq (.rg none [⟨some 6,none,.mv (.t 1) none⟩,
   ⟨some 7,none,.mv (.t 0) none⟩,
   ⟨some 8,none,.ln (.t 7)⟩,
   ⟨some 9,none,.bi .sub 0 (.t 6) (.t 8)⟩,
   ⟨some 1,none,.mv (.t 9) none⟩]) (.sq (.sq (.rg none [⟨some 10,none,.mv (.t 1) none⟩,
    ⟨some 11,none,.bi .lss 0 (.t 10) (.k (.int .i64 0))⟩]) (.cd (.t 11) (.sq (.rg none [⟨some 4,none,.mv (.k (.int .i64 (-1))) none⟩]) (.rt)) (.sk))) (.sq (.sq (.rg none [⟨some 5,none,.mv (.k (.int .i64 0)) none⟩]) (.bl 0 (.lp [0,1,5] [] (.sq (.sq (.rg none [⟨some 12,none,.mv (.t 5) none⟩,
     ⟨some 13,none,.mv (.t 0) none⟩,
     ⟨some 14,none,.ln (.t 13)⟩,
     ⟨some 15,none,.bi .lss 0 (.t 12) (.t 14)⟩]) (.cd (.t 15) (.sk) (.ex 0))) (.sq (.bl 1 (.sq (.rg none [⟨some 18,none,.mv (.t 0) none⟩,
      ⟨some 19,none,.mv (.t 5) none⟩,
      ⟨some 20,none,.ia k (.t 18) (.t 19)⟩,
      ⟨some 21,none,.ld m (.t 20)⟩,
      ⟨some 22,none,.mv (.t 1) none⟩,
      ⟨some 23,none,.ca .pure false (.f fid) [.t 21,.t 22]⟩,
      ⟨some 1,none,.mv (.t 23) none⟩]) (.sq (.rg none [⟨some 24,none,.mv (.t 1) none⟩,
      ⟨some 25,none,.bi .lss 0 (.t 24) (.k (.int .i64 0))⟩]) (.cd (.t 25) (.sq (.rg none [⟨some 4,none,.mv (.k (.int .i64 (-1))) none⟩]) (.rt)) (.sk))))) (.rg none [⟨some 16,none,.mv (.t 5) none⟩,
    ⟨some 17,none,.bi .add 0 (.t 16) (.k (.int .i64 1))⟩,
    ⟨some 5,none,.mv (.t 17) none⟩])))))) (.sq (.rg none [⟨some 26,none,.mv (.t 1) none⟩,
   ⟨some 4,none,.mv (.t 26) none⟩]) (.rt)))))) }
theorem Zma{P:Program}{fid fe:FuncId}{k:Nat}(hc:ZK P fid (ZxT k (some k) fe)=true){α:Type}(c:α->List Tr)(f:α->Int->Int)(hk:∀ x,(c x).length=k)(a:List α)(left:Int)(h:a.length<=9223372036854775807)(h0:0<=left)(h1:left<=1048576)
  (hf:∀ x∈a,∀ l:Int,0<=l->l<=1048576->f x l<=l/\∀ lvl S,Sem P fe lvl [.ag ((c x).map .tr),iI l] S (iI (f x l)) S) (lvl:Nat) (S:Sto) :
  Sem P fid lvl [.tr (.sl (a.map c)),iI left] S (iI (szL f a left)) S:=by
 refine Zc hc trivial ?_
 simp only[ZxT,List.length_map,EVA,seval,Zd,men]
 refine⟨by rw[Ze];omega,?_⟩
 unfold szL
 split
 ·rfl
 ·rename_i hlt
  generalize hr:szF f a (left-a.length)=total
  refine Z8 (α:=Int) a.length (fun j l=>⟨lvl,[(0,.tr (.sl (a.map c))),(1,iI l),(5,iI j)],[],S⟩) (fun j l=>0<=l/\l<=1048576/\szF f (a.drop j) l=total) (left-a.length) ⟨by simp only[EVA,seval,Zd,men],by (simp only[EVA,seval,Zd,men]) <;> rfl⟩ ⟨by omega,by omega,hr⟩ ?_
  intro j l hj ⟨hl0,hl1,hl⟩
  simp only[List.length_map,EVA,seval,Zd,men]
  split
  ·rename_i hlt
   have hja:j<a.length:=by omega
   have ga:(a.map c)[j]? = some (c a[j]):=by simp [hja]
   have hkk:=hk a[j]
   have htk:(c a[j]).take k=c a[j]:=List.take_of_length_le (by omega)
   rw[List.drop_eq_getElem_cons hja] at hl
   obtain⟨hle,hsem⟩:=hf a[j] (List.getElem_mem hja) l hl0 hl1
   simp only[ga,hkk,htk,Int.natCast_nonneg,Nat.le_refl,EVA,seval,Zd,men]
   refine Za hsem ?_
   simp only[EVA,seval,Zd,men]
   split
   ·rename_i hneg
    simp only[szF,if_pos hneg] at hl
    rw[hl]
   ·rename_i hneg
    simp only[szF,if_neg hneg] at hl
    refine⟨by rw[Ze];omega,Zf (f a[j] l) hja rfl ⟨by omega,by omega,hl⟩⟩
  ·rename_i hge
   have:j=a.length:=by omega
   subst this
   simp only[List.drop_length,szF] at hl
   rw[hl]
def ZBH:F2 :=
 { nt:=28,res:=[.t 4 [0]],body:=(.sq (.rg none [⟨some 4,none,.mv (.k (.int .i64 0)) none⟩]) (.sq (.rg none [⟨some 6,none,.mv (.t 1) none⟩,
   ⟨some 7,none,.mv (.t 0) none⟩,
   ⟨some 8,none,.ln (.t 7)⟩,
   ⟨some 9,none,.bi .sub 0 (.t 6) (.t 8)⟩,
   ⟨some 1,none,.mv (.t 9) none⟩]) (.sq (.sq (.rg none [⟨some 10,none,.mv (.t 1) none⟩,
    ⟨some 11,none,.bi .lss 0 (.t 10) (.k (.int .i64 0))⟩]) (.cd (.t 11) (.sq (.rg none [⟨some 4,none,.mv (.k (.int .i64 (-1))) none⟩]) (.rt)) (.sk))) (.sq (.sq (.rg none [⟨some 5,none,.mv (.k (.int .i64 0)) none⟩]) (.bl 0 (.lp [0,1,5] [] (.sq (.sq (.rg none [⟨some 12,none,.mv (.t 5) none⟩,
     ⟨some 13,none,.mv (.t 0) none⟩,
     ⟨some 14,none,.ln (.t 13)⟩,
     ⟨some 15,none,.bi .lss 0 (.t 12) (.t 14)⟩]) (.cd (.t 15) (.sk) (.ex 0))) (.sq (.bl 1 (.sq (.rg none [⟨some 18,none,.mv (.t 1) none⟩,
      ⟨some 19,none,.mv (.t 0) none⟩,
      ⟨some 20,none,.mv (.t 5) none⟩,
      ⟨some 21,none,.ia 1 (.t 19) (.t 20)⟩,
      ⟨some 22,none,.ld none (.t 21)⟩,
      ⟨some 23,none,.lg (.t 22)⟩,
      ⟨some 24,none,.bi .sub 0 (.t 18) (.t 23)⟩,
      ⟨some 1,none,.mv (.t 24) none⟩]) (.sq (.rg none [⟨some 25,none,.mv (.t 1) none⟩,
      ⟨some 26,none,.bi .lss 0 (.t 25) (.k (.int .i64 0))⟩]) (.cd (.t 26) (.sq (.rg none [⟨some 4,none,.mv (.k (.int .i64 (-1))) none⟩]) (.rt)) (.sk))))) (.rg none [⟨some 16,none,.mv (.t 5) none⟩,
    ⟨some 17,none,.bi .add 0 (.t 16) (.k (.int .i64 1))⟩,
    ⟨some 5,none,.mv (.t 17) none⟩])))))) (.sq (.rg none [⟨some 27,none,.mv (.t 1) none⟩,
   ⟨some 4,none,.mv (.t 27) none⟩]) (.rt)))))) }
theorem ZqS{P:Program}{fid:FuncId}(hc:ZK P fid ZBH=true)(a:List ByteArray)(left:Int)(h:a.length<=9223372036854775807)(h0:0<=left)(h1:left<=1048576)
  (hf:∀ x∈a,x.size<=9223372036854775807) (lvl:Nat) (S:Sto) :
  Sem P fid lvl [tS a,iI left] S (iI (szL (fun x l=>l-x.size) a left)) S:=by
 refine Zc hc trivial ?_
 simp only[ZBH,List.length_map,EVA,seval,Zd,men]
 refine⟨by rw[Ze];omega,?_⟩
 unfold szL
 split
 ·rfl
 ·rename_i hlt
  generalize hr:szF (fun(x:ByteArray) l=>l-x.size) a (left-a.length)=total
  refine Z8 (α:=Int) a.length (fun j l=>⟨lvl,[(0,tS a),(1,iI l),(5,iI j)],[],S⟩) (fun j l=>0<=l/\l<=1048576/\szF (fun(x:ByteArray) l=>l-x.size) (a.drop j) l=total) (left-a.length) ⟨by simp only[EVA,seval,Zd,men],by (simp only[EVA,seval,Zd,men]) <;> rfl⟩ ⟨by omega,by omega,hr⟩ ?_
  intro j l hj ⟨hl0,hl1,hl⟩
  simp only[List.length_map,EVA,seval,Zd,men]
  split
  ·rename_i hlt
   have hja:j<a.length:=by omega
   have ga:(rS a)[j]? = some [ts a[j]]:=by simp [hja]
   rw[List.drop_eq_getElem_cons hja] at hl
   have hs:=hf a[j] (List.getElem_mem hja)
   simp only[ga,Int.natCast_nonneg,Nat.le_refl,EVA,seval,Zd,men]
   refine⟨by rw[Ze];omega,?_⟩
   split
   ·rename_i hneg
    simp only[szF,if_pos hneg] at hl
    rw[hl]
   ·rename_i hneg
    simp only[szF,if_neg hneg] at hl
    refine⟨by rw[Ze];omega,Zf (l-a[j].size) hja rfl ⟨by omega,by omega,hl⟩⟩
  ·rename_i hge
   have:j=a.length:=by omega
   subst this
   simp only[List.drop_length,szF] at hl
   rw[hl]
def ZxU(k:Nat)(m:Option Nat)(fid:FuncId):F2 :=
 { nt:=27,res:=[.t 4 [0]],body:=(.sq (.rg none [⟨some 4,none,.mv (.k (.bool false)) none⟩]) (.sq (.sq (.rg none [⟨some 6,none,.mv (.t 0) none⟩,
    ⟨some 7,none,.ln (.t 6)⟩,
    ⟨some 8,none,.mv (.t 1) none⟩,
    ⟨some 9,none,.ln (.t 8)⟩,
    ⟨some 10,none,.bi .neq 0 (.t 7) (.t 9)⟩]) (.cd (.t 10) (.sq (.rg none [⟨some 4,none,.mv (.k (.bool false)) none⟩]) (.rt)) (.sk))) (.sq (.sq (.rg none [⟨some 5,none,.mv (.k (.int .i64 0)) none⟩]) (.bl 0 (.lp [0,1,5] [] (.sq (.sq (.rg none [⟨some 11,none,.mv (.t 5) none⟩,
     ⟨some 12,none,.mv (.t 0) none⟩,
     ⟨some 13,none,.ln (.t 12)⟩,
     ⟨some 14,none,.bi .lss 0 (.t 11) (.t 13)⟩]) (.cd (.t 14) (.sk) (.ex 0))) (.sq (.bl 1 (.sq (.rg (some 0) [⟨some 17,none,.mv (.t 0) none⟩,
      ⟨some 18,none,.mv (.t 5) none⟩,
      ⟨some 19,none,.ia k (.t 17) (.t 18)⟩,
      ⟨some 20,none,.ld m (.t 19)⟩,
      ⟨some 21,none,.mv (.t 1) none⟩,
      ⟨some 22,none,.mv (.t 5) none⟩,
      ⟨some 23,none,.ia k (.t 21) (.t 22)⟩,
      ⟨some 24,none,.ld m (.t 23)⟩,
      ⟨some 25,none,.ca .pure false (.f fid) [.t 20,.t 24]⟩,
      ⟨some 26,none,.nt (.t 25)⟩]) (.cd (.t 26) (.sq (.rg none [⟨some 4,none,.mv (.k (.bool false)) none⟩]) (.rt)) (.sk)))) (.rg none [⟨some 15,none,.mv (.t 5) none⟩,
    ⟨some 16,none,.bi .add 0 (.t 15) (.k (.int .i64 1))⟩,
    ⟨some 5,none,.mv (.t 16) none⟩])))))) (.sq (.rg none [⟨some 4,none,.mv (.k (.bool true)) none⟩]) (.rt))))) }
theorem ZdK{α:Type}{a b:List α}{j:Nat}(ha:j<a.length)(hb:j<b.length)(h:a[j]≠b[j]):a≠b:=by
 intro e;subst e;exact h rfl
theorem Zb5{α:Type}{a b:List α}(hl:a.length=b.length)(h:a.take a.length=b.take a.length):a=b:=by
 rw[List.take_length,hl,List.take_length] at h;exact h
theorem ZaA{α:Type}{a b:List α}{j:Nat}(ha:j<a.length)(hb:j<b.length)(h:a.take j=b.take j)(e:a[j]=b[j]):a.take (j+1)=b.take (j+1):=by
 rw[List.take_succ_eq_append_getElem ha,List.take_succ_eq_append_getElem hb,h,e]
theorem Zmb{P:Program}{fid fe:FuncId}{k:Nat}(hc:ZK P fid (ZxU k (some k) fe)=true){α:Type}[DecidableEq α](c:α->List Tr)(hk:∀ x,(c x).length=k)(a b:List α)(ha:a.length<=9223372036854775807)
  (hf:∀ x∈a,∀ y∈b,∀ lvl S,Sem P fe lvl [.ag ((c x).map .tr),.ag ((c y).map .tr)] S (iB (decide (x=y))) S) (lvl:Nat) (S:Sto) :
  Sem P fid lvl [.tr (.sl (a.map c)),.tr (.sl (b.map c))] S (iB (decide (a=b))) S:=by
 refine Zc hc trivial ?_
 simp only[ZxU,List.length_map,EVA,seval,Zd,men]
 split
 ·rename_i h
  have:¬ a=b:=fun e=>h (by rw[e])
  simp [this]
 ·rename_i h
  have hlen:a.length=b.length:=by omega
  refine Z8 (α:=Unit) a.length (fun j _=>⟨lvl,[(0,.tr (.sl (a.map c))),(1,.tr (.sl (b.map c))),(5,iI j)],[],S⟩) (fun j _=>a.take j=b.take j) () ⟨by simp only[EVA,seval,Zd,men],by (simp only[EVA,seval,Zd,men]) <;> rfl⟩ rfl ?_
  intro j _ hj hA
  simp only[List.length_map,EVA,seval,Zd,men]
  split
  ·rename_i hlt
   have hja:j<a.length:=by omega
   have hjb:j<b.length:=by omega
   have ga:(a.map c)[j]? = some (c a[j]):=by simp [hja]
   have gb:(b.map c)[j]? = some (c b[j]):=by simp [hjb]
   have hka:=hk a[j]
   have hkb:=hk b[j]
   have hta:(c a[j]).take k=c a[j]:=List.take_of_length_le (by omega)
   have htb:(c b[j]).take k=c b[j]:=List.take_of_length_le (by omega)
   have hsem:=hf a[j] (List.getElem_mem hja) b[j] (List.getElem_mem hjb)
   simp only[ga,gb,hka,hkb,hta,htb,Int.natCast_nonneg,Nat.le_refl,EVA,seval,Zd,men]
   refine Za hsem ?_
   simp only[Bool.not_eq_true',EVA,seval,Zd,men]
   split
   ·rename_i hne
    have:¬ a=b:=ZdK hja hjb (by simpa using hne)
    simp [this]
   ·rename_i he
    refine⟨by rw[Ze];omega,Zf () hja rfl (ZaA hja hjb hA (by simpa using he))⟩
  ·rename_i hge
   have:j=a.length:=by omega
   subst this
   have:a=b:=Zb5 hlen hA
   simp [this]
def Zuf:F2 :=
 { nt:=26,res:=[.t 4 [0]],body:=(.sq (.rg none [⟨some 4,none,.mv (.k (.bool false)) none⟩]) (.sq (.sq (.rg none [⟨some 6,none,.mv (.t 0) none⟩,
    ⟨some 7,none,.ln (.t 6)⟩,
    ⟨some 8,none,.mv (.t 1) none⟩,
    ⟨some 9,none,.ln (.t 8)⟩,
    ⟨some 10,none,.bi .neq 0 (.t 7) (.t 9)⟩]) (.cd (.t 10) (.sq (.rg none [⟨some 4,none,.mv (.k (.bool false)) none⟩]) (.rt)) (.sk))) (.sq (.sq (.rg none [⟨some 5,none,.mv (.k (.int .i64 0)) none⟩]) (.bl 0 (.lp [0,1,5] [] (.sq (.sq (.rg none [⟨some 11,none,.mv (.t 5) none⟩,
     ⟨some 12,none,.mv (.t 0) none⟩,
     ⟨some 13,none,.ln (.t 12)⟩,
     ⟨some 14,none,.bi .lss 0 (.t 11) (.t 13)⟩]) (.cd (.t 14) (.sk) (.ex 0))) (.sq (.bl 1 (.sq (.rg (some 0) [⟨some 17,none,.mv (.t 0) none⟩,
      ⟨some 18,none,.mv (.t 5) none⟩,
      ⟨some 19,none,.ia 1 (.t 17) (.t 18)⟩,
      ⟨some 20,none,.ld none (.t 19)⟩,
      ⟨some 21,none,.mv (.t 1) none⟩,
      ⟨some 22,none,.mv (.t 5) none⟩,
      ⟨some 23,none,.ia 1 (.t 21) (.t 22)⟩,
      ⟨some 24,none,.ld none (.t 23)⟩,
      ⟨some 25,none,.bi .neq 0 (.t 20) (.t 24)⟩]) (.cd (.t 25) (.sq (.rg none [⟨some 4,none,.mv (.k (.bool false)) none⟩]) (.rt)) (.sk)))) (.rg none [⟨some 15,none,.mv (.t 5) none⟩,
    ⟨some 16,none,.bi .add 0 (.t 15) (.k (.int .i64 1))⟩,
    ⟨some 5,none,.mv (.t 16) none⟩])))))) (.sq (.rg none [⟨some 4,none,.mv (.k (.bool true)) none⟩]) (.rt))))) }
theorem ZtB{P:Program}{fid:FuncId}(hc:ZK P fid Zuf=true)(a b:List Int)(ha:a.length<=9223372036854775807)(lvl:Nat)(S:Sto):Sem P fid lvl [tI a,tI b] S (iB (decide (a=b))) S:=by
 refine Zc hc trivial ?_
 simp only[Zuf,List.length_map,EVA,seval,Zd,men]
 split
 ·rename_i h
  have:¬ a=b:=fun e=>h (by rw[e])
  simp [this]
 ·rename_i h
  have hlen:a.length=b.length:=by omega
  refine Z8 (α:=Unit) a.length (fun j _=>⟨lvl,[(0,tI a),(1,tI b),(5,iI j)],[],S⟩) (fun j _=>a.take j=b.take j) () ⟨by simp only[EVA,seval,Zd,men],by (simp only[EVA,seval,Zd,men]) <;> rfl⟩ rfl ?_
  intro j _ hj hA
  simp only[List.length_map,EVA,seval,Zd,men]
  split
  ·rename_i hlt
   have hja:j<a.length:=by omega
   have hjb:j<b.length:=by omega
   have ga:(rI a)[j]? = some [tv a[j]]:=by simp [hja]
   have gb:(rI b)[j]? = some [tv b[j]]:=by simp [hjb]
   simp only[ga,gb,Int.natCast_nonneg,Nat.le_refl,EVA,seval,Zd,men]
   split
   ·rename_i hne
    have:¬ a=b:=ZdK hja hjb (by simpa using hne)
    simp [this]
   ·rename_i he
    refine⟨by rw[Ze];omega,Zf () hja rfl (ZaA hja hjb hA (by simpa using he))⟩
  ·rename_i hge
   have:j=a.length:=by omega
   subst this
   have:a=b:=Zb5 hlen hA
   simp [this]
theorem ZtC{P:Program}{fid:FuncId}(hc:ZK P fid Zuf=true)(a b:List ByteArray)(ha:a.length<=9223372036854775807)(lvl:Nat)(S:Sto):Sem P fid lvl [tS a,tS b] S (iB (decide (a=b))) S:=by
 refine Zc hc trivial ?_
 simp only[Zuf,List.length_map,EVA,seval,Zd,men]
 split
 ·rename_i h
  have:¬ a=b:=fun e=>h (by rw[e])
  simp [this]
 ·rename_i h
  have hlen:a.length=b.length:=by omega
  refine Z8 (α:=Unit) a.length (fun j _=>⟨lvl,[(0,tS a),(1,tS b),(5,iI j)],[],S⟩) (fun j _=>a.take j=b.take j) () ⟨by simp only[EVA,seval,Zd,men],by (simp only[EVA,seval,Zd,men]) <;> rfl⟩ rfl ?_
  intro j _ hj hA
  simp only[List.length_map,EVA,seval,Zd,men]
  split
  ·rename_i hlt
   have hja:j<a.length:=by omega
   have hjb:j<b.length:=by omega
   have ga:(rS a)[j]? = some [ts a[j]]:=by simp [hja]
   have gb:(rS b)[j]? = some [ts b[j]]:=by simp [hjb]
   simp only[ga,gb,Int.natCast_nonneg,Nat.le_refl,EVA,seval,Zd,men]
   split
   ·rename_i hne
    have:¬ a=b:=ZdK hja hjb (by simpa using hne)
    simp [this]
   ·rename_i he
    refine⟨by rw[Ze];omega,Zf () hja rfl (ZaA hja hjb hA (by simpa using he))⟩
  ·rename_i hge
   have:j=a.length:=by omega
   subst this
   have:a=b:=Zb5 hlen hA
   simp [this]
def Xe{α:Type}(c:α->List Tr)(z:List Tr)(a:List α)(j:Nat):Row:=(a.take j).map c++List.replicate (a.length-j) z
theorem Zb6{α:Type}(c:α->List Tr)(z:List Tr)(a:List α):Xe c z a 0=List.replicate a.length z:=by simp [Xe]
theorem ZdL{α:Type}(c:α->List Tr)(z:List Tr)(a:List α):Xe c z a a.length=a.map c:=by simp [Xe]
theorem ZcD{α:Type}{c:α->List Tr}{z:List Tr}{a:List α}{j:Nat}(h:j<=a.length):(Xe c z a j).length=a.length:=by
 simp [Xe];omega
theorem ZdM{α:Type}{c:α->List Tr}{z:List Tr}{a:List α}{j:Nat}(h:j<a.length):(Xe c z a j)[j]? = some z:=by
 unfold Xe
 have h1:((a.take j).map c).length=j:=by rw[List.length_map,List.length_take];omega
 rw[List.getElem?_append_right (by omega),h1,Nat.sub_self,List.getElem?_replicate]
 rw[if_pos (by omega)]
theorem ZdN{α:Type}{c:α->List Tr}{z e:List Tr}{a:List α}{j:Nat}(h:j<a.length)(he:e=c a[j]):(Xe c z a j).set j e=Xe c z a (j+1):=by
 subst he
 unfold Xe
 have h1:((a.take j).map c).length=j:=by simp;omega
 rw[List.set_append_right _ _ (by omega),h1,Nat.sub_self,show a.length-j=(a.length-(j+1))+1 from by omega,List.replicate_succ,List.set_cons_zero,List.take_succ_eq_append_getElem h,List.map_append]
 simp
def ZBI(z:Value):F2 :=
 { nt:=22,res:=[.t 2 [2]],body:=(.sq (.rg none [⟨some 2,none,.mv (.k (.slice none 0 0)) none⟩]) (.sq (.rg none [⟨some 5,none,.mv (.t 0) none⟩,
   ⟨some 6,none,.ln (.t 5)⟩,
   ⟨some 7,none,.ms 1 [z] (.t 6)⟩,
   ⟨some 3,none,.mv (.t 7) none⟩]) (.sq (.sq (.rg none [⟨some 4,none,.mv (.k (.int .i64 0)) none⟩]) (.bl 0 (.lp [0,3,4] [224] (.sq (.sq (.rg none [⟨some 8,none,.mv (.t 4) none⟩,
     ⟨some 9,none,.mv (.t 0) none⟩,
     ⟨some 10,none,.ln (.t 9)⟩,
     ⟨some 11,none,.bi .lss 0 (.t 8) (.t 10)⟩]) (.cd (.t 11) (.sk) (.ex 0))) (.sq (.bl 1 (.rg none [⟨some 14,none,.mv (.t 3) none⟩,
     ⟨some 15,none,.mv (.t 4) none⟩,
     ⟨some 16,none,.mv (.t 0) none⟩,
     ⟨some 17,none,.mv (.t 4) none⟩,
     ⟨some 18,none,.ia 1 (.t 16) (.t 17)⟩,
     ⟨some 19,none,.ld none (.t 18)⟩,
     ⟨some 20,none,.ia 1 (.t 14) (.t 15)⟩,
     ⟨none,none,.st 1 (.t 20) (.t 19)⟩])) (.rg none [⟨some 12,none,.mv (.t 4) none⟩,
    ⟨some 13,none,.bi .add 0 (.t 12) (.k (.int .i64 1))⟩,
    ⟨some 4,none,.mv (.t 13) none⟩])))))) (.sq (.rg none [⟨some 21,none,.mv (.t 3) none⟩,
   ⟨some 2,none,.mv (.t 21) none⟩]) (.rt))))) }
theorem ZtD{P:Program}{fid:FuncId}(hc:ZK P fid (ZBI (.string ⟨#[]⟩))=true)(a:List ByteArray)(ha:a.length<=4294967296)(lvl:Nat)(S:Sto):Sem P fid lvl [tS a] S (.ow 1 (rS a) true) S:=by
 refine Zc hc trivial ?_
 simp only[ZBI,List.length_map,bigN,Int.natCast_nonneg,EVA,seval,Zd,men]
 refine⟨by omega,?_⟩
 refine Z8 (α:=Unit) a.length (fun j _=>⟨lvl,[(0,tS a),(3,.hd (lvl,224) [] 0 a.length none a.length),(4,iI j)],[(224,.ar 1 (Xe (fun n=>[ts n]) [ts ⟨#[]⟩] a j) true a.length 0)],S⟩) (fun _ _=>True) () ⟨by simp only[EVA,seval,Zd,men],by (simp only[Zb6,EVA,seval,Zd,men]) <;> rfl⟩ trivial ?_
 intro j _ hj _
 simp only[List.length_map,EVA,seval,Zd,men]
 split
 ·rename_i hlt
  have hja:j<a.length:=by omega
  have ga:(rS a)[j]? = some [ts a[j]]:=by simp [hja]
  have gz:(Xe (fun n=>[ts n]) [ts ⟨#[]⟩] a j)[j]? = some [ts ⟨#[]⟩]:=ZdM hja
  simp only[ga,gz,Int.natCast_nonneg,Nat.le_refl,hja,YU,List.set_cons_zero,Zb2,EVA,seval,Zd,men]
  refine⟨by rw[Ze];omega,Zf () hja ?_ trivial⟩
  rw[ZdN hja rfl]
  rfl
 ·rename_i hge
  have:j=a.length:=by omega
  subst this
  rw[ZdL]
  simp
end Go.Fd

/-
  THE LAWS' HELPERS AT SLICES WHOSE ELEMENTS ARE ONE CELL. Own work.
-/
namespace Go.Fd
set_option maxRecDepth 10000
end Go.Fd

/-
  HOW MANY MARKS A THING TAKES, AGAINST ITS SIZE. Own work.
-/
namespace Go.Fd
def Zmc(l:Int)(g:Int->Int):Int:=if l<0 then -1 else g l
def Zq(c:Int)(s:Int->Int)(q:Nat):Prop:=∀ l:Int,0<=l->l<=1048576->s l<=l/\(0<=s l->(q:Int)<=c+256*(l-s l))
theorem ZwU:Zq 0 (fun l=>l) 0:=fun l _ _=>⟨Int.le_refl _,fun _=>by simp only;omega⟩
theorem ZwV{c e:Int}{s g:Int->Int}{q r:Nat}(hc:0<=c)(he:0<=e)(hs:Zq c s q)(hg:Zq e g r):Zq (c+e) (fun l=>Zmc (s l) g) (q+r):=fun l h0 h1=>by
 have a:=hs l h0 h1
 by_cases h:s l<0
 ·simp only[Zmc,if_pos h]
  exact⟨by omega,fun h=>by omega⟩
 ·simp only[Zmc,if_neg h]
  have b:=hg (s l) (by omega) (by omega)
  refine⟨by omega,fun h2=>?_⟩
  have:=a.2 (by omega)
  have:=b.2 h2
  omega
theorem ZwW(n:Nat):Zq 0 (fun l=>l-n) 0:=fun l h0 h1=>⟨by simp only;omega,fun h=>by simp only at h ⊢;omega⟩
theorem ZtE(n:Nat):Zq 256 (fun l=>l-n) 1:=fun l h0 h1=>⟨by simp only;omega,fun h=>by simp only at h ⊢;omega⟩
theorem ZCj{α:Type}{f:α->Int->Int}{n:α->Nat}(hf:∀ x,Zq 256 (f x) (n x)):∀(a:List α),Zq (256*a.length) (fun l=>szF f a l) (nL n a)
 | []=>fun l _ _=>⟨Int.le_refl l,fun _=>by simp only[szF,nL,List.length_nil];omega⟩
 | x::r=>fun l h0 h1=>by
  simp only[szF,nL,List.length_cons]
  have a:=hf x l h0 h1
  split
  ·exact⟨by omega,fun h=>by omega⟩
  ·have b:=ZCj hf r (f x l) (by omega) (by omega)
   simp only at b
   refine⟨by omega,fun h=>?_⟩
   have:=a.2 (by omega)
   have:=b.2 h
   omega
theorem ZBJ{α:Type}{f:α->Int->Int}{n:α->Nat}(hf:∀ x,Zq 256 (f x) (n x))(a:List α):Zq 0 (fun l=>szL f a l) (nL n a):=fun l h0 h1=>by
 simp only[szL]
 split
 ·exact⟨by omega,fun h=>by omega⟩
 ·have b:=ZCj hf a (l-a.length) (by omega) (by omega)
  simp only at b
  refine⟨by omega,fun h=>?_⟩
  have:=b.2 h
  omega
theorem Zmd{c e:Int}{s:Int->Int}{q r:Nat}(h:Zq c s q)(hq:(r:Int)+c<=q+e):Zq e s r:=fun l h0 h1=>by
 have a:=h l h0 h1
 refine⟨a.1,fun h2=>?_⟩
 have:=a.2 h2
 omega
end Go.Fd

/-
  THE DATA OF THE LAWS: plain types, how they lie in memory (printed by lawgen.py). Own work.
-/
namespace Go.Fd
set_option maxRecDepth 10000
structure TNode where
 control:Int
 parent:Int
 links:(List Int)
 deriving DecidableEq
def ZX(x:TNode):List Tr:=[tv x.control,tv x.parent,.sl (rI x.links)]
def ZjN(n:Nat)(x:TNode):Prop:=x.links.length<=n
def ZwX(x:TNode):Prop:=XE .i64 x.control/\XE .i64 x.parent/\(∀ y∈x.links,XE .i64 y)
structure TWire where
 name:ByteArray
 link:Int
 deriving DecidableEq
def Ji(x:TWire):List Tr:=[ts x.name,tv x.link]
def Zej(n:Nat)(x:TWire):Prop:=x.name.size<=n
def ZwY(x:TWire):Prop:=XE .i64 x.link
structure TBigraph where
 roots:Int
 nodes:(List TNode)
 sites:(List Int)
 edges:Int
 outer:(List ByteArray)
 inner:(List TWire)
 deriving DecidableEq
def Zb(x:TBigraph):List Tr:=[tv x.roots,.sl (x.nodes.map ZX),.sl (rI x.sites),tv x.edges,.sl (rS x.outer),.sl (x.inner.map Ji)]
def Zi(x:TBigraph):IV:=.ag [iI x.roots,.ow 3 (x.nodes.map ZX) true,.ow 1 (rI x.sites) true,iI x.edges,.ow 1 (rS x.outer) true,.ow 2 (x.inner.map Ji) true]
def Zt(n:Nat)(x:TBigraph):Prop:=x.nodes.length<=n/\(∀ y∈x.nodes,ZjN n y)/\x.sites.length<=n/\x.outer.length<=n/\(∀ y∈x.outer,y.size<=n)/\x.inner.length<=n/\(∀ y∈x.inner,Zej n y)
def ZB(x:TBigraph):Prop:=XE .i64 x.roots/\(∀ y∈x.nodes,ZwX y)/\(∀ y∈x.sites,XE .i64 y)/\XE .i64 x.edges/\(∀ y∈x.inner,ZwY y)
structure TControl where
 name:ByteArray
 ports:Int
 kind_:Int
 deriving DecidableEq
def Zh(x:TControl):List Tr:=[ts x.name,tv x.ports,tv x.kind_]
theorem Zek(x:TControl):(Zh x).length=3:=rfl
def Ze7(x:TControl):IV:=.ag [iS x.name,iI x.ports,iI x.kind_]
def Zp(n:Nat)(x:TControl):Prop:=x.name.size<=n
def ZjO(x:TControl):Prop:=XE .i64 x.ports/\XE .i64 x.kind_
def JD(x:TControl)(l:Int):Int:=Zmc (l-x.name.size) fun l=>l
structure TTermStep where
 kind_:Int
 control:Int
 site:Int
 names:(List ByteArray)
 deriving DecidableEq
def Zg(x:TTermStep):List Tr:=[tv x.kind_,tv x.control,tv x.site,.sl (rS x.names)]
theorem Zih(x:TTermStep):(Zg x).length=4:=rfl
def ZcE(x:TTermStep):IV:=.ag [iI x.kind_,iI x.control,iI x.site,.ow 1 (rS x.names) true]
def Zw(n:Nat)(x:TTermStep):Prop:=x.names.length<=n/\(∀ y∈x.names,y.size<=n)
def Zhl(x:TTermStep):Prop:=XE .i64 x.kind_/\XE .i64 x.control/\XE .i64 x.site
def J7(x:TTermStep)(l:Int):Int:=Zmc (szL (fun x m=>m-x.size) x.names l) fun l=>l
end Go.Fd

/-
  The numbers of the functions of this program, by name (printed by ids.py).
-/
namespace Go.Fd
abbrev QX:FuncId:=3
abbrev Qm:FuncId:=4
abbrev Y1:FuncId:=7
abbrev YK:FuncId:=8
abbrev XL:FuncId:=9
abbrev ZY:FuncId:=10
abbrev ZS:FuncId:=11
abbrev XM:FuncId:=12
abbrev Y2:FuncId:=13
abbrev YL:FuncId:=14
abbrev Xf:FuncId:=15
abbrev Vo:FuncId:=16
abbrev Vx:FuncId:=17
abbrev Vy:FuncId:=18
abbrev Vj:FuncId:=19
abbrev XN:FuncId:=20
abbrev VT:FuncId:=21
abbrev Xg:FuncId:=31
abbrev QI:FuncId:=32
abbrev Qx:FuncId:=33
abbrev WV:FuncId:=34
abbrev Xh:FuncId:=35
abbrev QJ:FuncId:=36
abbrev Vp:FuncId:=37
abbrev XO:FuncId:=38
abbrev Xi:FuncId:=39
abbrev QK:FuncId:=40
abbrev XP:FuncId:=41
abbrev Xj:FuncId:=42
abbrev VU:FuncId:=43
abbrev V7:FuncId:=44
abbrev WW:FuncId:=51
abbrev Vg:FuncId:=52
abbrev Wl:FuncId:=57
abbrev JF:FuncId:=58
abbrev Xk:FuncId:=63
abbrev X0:FuncId:=64
abbrev UP:FuncId:=65
abbrev WX:FuncId:=66
abbrev Xl:FuncId:=67
abbrev JV:FuncId:=68
abbrev Wm:FuncId:=69
abbrev Uy:FuncId:=70
abbrev Qy:FuncId:=71
abbrev Xm:FuncId:=72
abbrev Yo:FuncId:=73
abbrev X1:FuncId:=74
abbrev Jd:FuncId:=75
abbrev Yd:FuncId:=81
abbrev UQ:FuncId:=87
abbrev QL:FuncId:=88
abbrev JG:FuncId:=93
abbrev ZU:FuncId:=95
abbrev Z7:FuncId:=98
abbrev Y3:FuncId:=99
abbrev ZJ:FuncId:=100
abbrev Jm:FuncId:=101
abbrev Vz:FuncId:=109
abbrev Z5:FuncId:=110
abbrev WY:FuncId:=111
abbrev Xn:FuncId:=112
abbrev WZ:FuncId:=113
abbrev YE:FuncId:=114
abbrev Ye:FuncId:=115
abbrev Jh:FuncId:=116
abbrev Yi:FuncId:=117
abbrev W0:FuncId:=118
abbrev DF:FuncId:=119
abbrev D7:FuncId:=120
abbrev Qz:FuncId:=131
abbrev Wn:FuncId:=132
abbrev W1:FuncId:=133
abbrev QA:FuncId:=134
abbrev Xo:FuncId:=135
abbrev X2:FuncId:=138
abbrev Xp:FuncId:=139
abbrev Z6:FuncId:=142
abbrev Vq:FuncId:=143
abbrev ZZ:FuncId:=145
abbrev YO:FuncId:=146
abbrev QB:FuncId:=149
abbrev W2:FuncId:=150
abbrev W3:FuncId:=151
abbrev Wo:FuncId:=152
abbrev W4:FuncId:=153
abbrev D8:FuncId:=154
abbrev Jq:FuncId:=155
abbrev ZC:FuncId:=156
abbrev VV:FuncId:=157
abbrev ZQ:FuncId:=158
abbrev W5:FuncId:=159
abbrev Yt:FuncId:=160
abbrev JO:FuncId:=161
abbrev Xq:FuncId:=162
abbrev Wp:FuncId:=163
abbrev DG:FuncId:=164
abbrev VW:FuncId:=174
abbrev Ja:FuncId:=175
abbrev JK:FuncId:=176
abbrev V8:FuncId:=177
abbrev JX:FuncId:=178
abbrev V9:FuncId:=179
abbrev Jw:FuncId:=180
abbrev Qa:FuncId:=181
abbrev Jr:FuncId:=182
abbrev X9:FuncId:=183
abbrev QM:FuncId:=184
abbrev Xr:FuncId:=185
abbrev QZ:FuncId:=186
abbrev Vc:FuncId:=187
abbrev QC:FuncId:=188
abbrev Qn:FuncId:=189
abbrev XQ:FuncId:=190
abbrev Zb7:FuncId:=191
abbrev QN:FuncId:=192
abbrev J8:FuncId:=193
abbrev JQ:FuncId:=194
abbrev W6:FuncId:=195
abbrev JP:FuncId:=196
abbrev Wq:FuncId:=197
abbrev W7:FuncId:=198
abbrev UR:FuncId:=199
abbrev Z3:FuncId:=207
abbrev US:FuncId:=208
abbrev VA:FuncId:=209
abbrev W8:FuncId:=210
abbrev JY:FuncId:=211
abbrev QO:FuncId:=212
abbrev Vh:FuncId:=213
abbrev XR:FuncId:=214
abbrev ZL:FuncId:=215
abbrev Yf:FuncId:=216
abbrev Zy:FuncId:=217
abbrev WE:FuncId:=218
abbrev JH:FuncId:=227
abbrev VX:FuncId:=233
abbrev Yu:FuncId:=234
abbrev Wr:FuncId:=235
abbrev W9:FuncId:=236
abbrev JR:FuncId:=237
abbrev VB:FuncId:=238
abbrev XT:FuncId:=239
abbrev QD:FuncId:=240
abbrev Yp:FuncId:=241
abbrev JS:FuncId:=242
abbrev JA:FuncId:=243
abbrev Ws:FuncId:=244
abbrev Yq:FuncId:=245
abbrev YP:FuncId:=246
abbrev Xs:FuncId:=251
abbrev VC:FuncId:=252
abbrev Je:FuncId:=253
abbrev JZ:FuncId:=254
abbrev YQ:FuncId:=255
abbrev Yv:FuncId:=256
abbrev Y4:FuncId:=257
abbrev Y5:FuncId:=258
abbrev ZM:FuncId:=259
abbrev Js:FuncId:=260
abbrev ZW:FuncId:=261
abbrev Qb:FuncId:=262
abbrev Jo:FuncId:=263
abbrev YM:FuncId:=264
abbrev Jx:FuncId:=265
abbrev Vk:FuncId:=266
abbrev VY:FuncId:=276
abbrev VZ:FuncId:=277
abbrev J9:FuncId:=278
abbrev X3:FuncId:=279
abbrev JT:FuncId:=280
abbrev ZI:FuncId:=281
abbrev Jt:FuncId:=282
abbrev Yj:FuncId:=283
abbrev Z2:FuncId:=284
abbrev JC:FuncId:=285
abbrev Z4:FuncId:=296
abbrev Qo:FuncId:=297
abbrev Vl:FuncId:=298
abbrev VD:FuncId:=299
abbrev Vu:FuncId:=300
abbrev Yw:FuncId:=301
abbrev Vd:FuncId:=302
abbrev Qc:FuncId:=303
abbrev ZR:FuncId:=304
abbrev Jf:FuncId:=311
abbrev Xt:FuncId:=312
abbrev V0:FuncId:=313
abbrev Qp:FuncId:=314
abbrev Qd:FuncId:=315
abbrev YR:FuncId:=316
abbrev Y6:FuncId:=317
abbrev VE:FuncId:=318
abbrev Q0:FuncId:=319
abbrev YN:FuncId:=325
abbrev qM(d a:Nat):OP:=om d (.t a)
abbrev qL(d a:Nat):OP:=oo d (.ld none (.t a))
abbrev qF(d o a:Nat):OP:=oo d (.fa o (.t a))
abbrev qN(d a:Nat):OP:=oo d (.ln (.t a))
abbrev qS(d k a:Nat):OP:=oo d (.ld (some k) (.t a))
abbrev qE(d i a:Nat):OP:=oo d (.ex i (.t a))
abbrev qI(d k a b:Nat):OP:=oo d (.ia k (.t a) (.t b))
abbrev qB(d:Nat)(o:BinOp)(a b:Nat):OP:=oo d (.bi o 0 (.t a) (.t b))
end Go.Fd
