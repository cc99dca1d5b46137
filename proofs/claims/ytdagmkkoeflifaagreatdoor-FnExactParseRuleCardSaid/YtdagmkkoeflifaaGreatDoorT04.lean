/-
  FOUNDATION 46: more rules: stores, append. Own work.
-/
import Derived.Test.YtdagmkkoeflifaaGreatDoorT03
import Derived.ChangeArms
import Derived.OpenShut
import Derived.Carry
import Derived.ChangeMaps5
import Derived.ChangeShapes
import Derived.Test.YtdagmkkoeflifaaGreatDoorProg
import Derived.Lib.LaidTab
import Derived.Lib.ItoaNum
set_option linter.all false
namespace Go.Fd
section
variable {C:Zj} {lvl:Nat} {env:List (Nat×IV)} {loc:List (Nat×Ob)} {out:Sto} {d:Option Nat} {K:St->Prop} {st:St}
def st2(v:Option (List IV))(m:Nat)(p:IV)(d:Option Nat)(st:St)(K:St->Prop):Prop :=
 match v with
 | some l=>d=none/\l.length=m /\
  match p with
  | .ab id off =>
   match st.sto id with
   | some (.bx cells)=>off+l.length<=cells.length/\XU (id.1+1) l/\K (Zo st id (.bx (QD cells off l)))
   | _=>False
  | .ae id p i f s=>ZdP id p i s f l st K
  | _=>False
 | none=>False
theorem Zv8{m:Nat}{p x:X}:op2 C d (.st m p x) ⟨lvl,env,loc,out⟩ K=st2 (cellsOf (xv env x)) m (xv env p) d ⟨lvl,env,loc,out⟩ K:=by
 rw[ZX rfl]
 simp only[ew]
 generalize cellsOf (xv env x)=v
 cases v with
 | none=>simp [st2]
 | some l=>rfl
def stb(o:Option Ob)(id:Oid)(off:Nat)(l:List IV)(st:St)(K:St->Prop):Prop :=
 match o with
 | some (.bx cells)=>off+l.length<=cells.length/\XU (id.1+1) l/\K (Zo st id (.bx (QD cells off l)))
 | _=>False
theorem ZtE{m:Nat}{l:List IV}{id:Oid}{off:Nat}:st2 (some l) m (.ab id off) d ⟨lvl,env,loc,out⟩ K=(d=none/\l.length=m/\stb (ZI lvl loc out id) id off l ⟨lvl,env,loc,out⟩ K):=(rfl)
theorem ZtF{m:Nat}{l:List IV}{id:Oid}{p:Pth}{i f s:Nat}:st2 (some l) m (.ae id p i f s) d st K=(d=none/\l.length=m/\ZdP id p i s f l st K):=(rfl)
theorem ZtG{cells l:List IV}{id:Oid}{off:Nat}:stb (some (.bx cells)) id off l st K=(off+l.length<=cells.length/\XU (id.1+1) l/\K (Zo st id (.bx (QD cells off l)))):=(rfl)
theorem Zl{cs:List IV}{off:Nat}:QD cs off []=cs:=(rfl)
theorem Zn{cs:List IV}{off:Nat}{x:IV}{r:List IV}:QD cs off (x::r)=QD (cs.set off x) (off+1) r:=(rfl)
theorem ZmN{l:Nat}:XU l []=True:=(rfl)
theorem ZmO{l:Nat}{x:IV}{r:List IV}:XU l (x::r)=(low l x/\XU l r):=(rfl)
theorem Zpd{l:Nat}{t:Tr}:low l (.tr t)=True:=(rfl)
theorem Zpe{l:Nat}{es:Row}:low l (.cs es)=True:=(rfl)
theorem Zpf{l k:Nat}{p:Pth}{off len s:Nat}{cap:Option Nat}:low (l+1) (.hd (l,k) p off len cap s)=True:=by
 apply propext;simp [low,men]
theorem Zpg{l k off:Nat}:low (l+1) (.ab (l,k) off)=True:=by
 apply propext;simp [low,men]
theorem Zph{l:Nat}{c:List IV}:low l (.ag c)=XU l c:=by simp only[low,XU,men]
theorem Zpi{l:Nat}{c:List IV}:low l (.tu c)=XU l c:=by simp only[low,XU,men]
theorem Zpj{l k:Nat}{es:Row}{u:Bool}:low l (.ow k es u)=True:=(rfl)
theorem Zpk{l:Nat}:low l .un=True:=(rfl)
theorem Zpl{l:Nat}:low l .er=True:=(rfl)
theorem ZmP{l:Nat}{c:List Tr}:low l (.ta c)=True:=(rfl)
def kst(id:Oid)(p:Pth)(i s f:Nat)(r:List IV)(K:St->Prop)(st':St):Prop:=ZdP id p i s f r st' K
theorem ZtH{id:Oid}{p:Pth}{i s f:Nat}{r:List IV}:kst id p i s f r K st=ZdP id p i s f r st K:=(rfl)
theorem ZmQ{id:Oid}{p:Pth}{i s f:Nat}:ZdP id p i s f [] st K=K st:=(rfl)
def sc1(o:Option Ob)(id:Oid)(p:Pth)(i f s:Nat)(x:IV)(st:St)(K:St->Prop):Prop :=
 match o with
 | some (.ar k es u hw ver)=>VK p s hw ver u/\op3 (getp es p) fun es' => op3 es'[i]? fun e=>op3 e[f]? fun t0 =>
  match x with
  | .tr (.v y)=>isSc t0=true/\K (Zo st id (.ar k (Y7 es p i f (.v y)) u hw ver))
  | .cs []=>p=[]/\K (Zo st id (.ar k (Y7 es [] i f (.sl [])) u hw (ver+1)))
  | .cs zs=>p=[]/\K (Zo st id (.ar k (Y7 es [] i f (.sl zs)) false hw (ver+1)))
  | .tr (.sl zs)=>p=[]/\K (Zo st id (.ar k (Y7 es [] i f (.sl zs)) false hw (ver+1)))
  | .hd id2 [] 0 len none s2=>p=[]/\id2≠id/\id2.1=st.lvl /\
   match st.sto id2 with
   | some (.ar _ zs u2 hw2 _)=>s2=hw2/\len=zs.length/\K (Zo (JU id2 st) id (.ar k (Y7 es [] i f (.sl zs)) (u&&u2) hw (ver+1)))
   | _=>False
  | _=>False
 | _=>False
theorem ZmR{id:Oid}{p:Pth}{i s f:Nat}{x:IV}{r:List IV}:ZdP id p i s f (x::r) ⟨lvl,env,loc,out⟩ K=sc1 (ZI lvl loc out id) id p i f s x ⟨lvl,env,loc,out⟩ (kst id p i s (f+1) r K):=by
 simp only[ZdP,stc,sc1]
 rw[show (⟨lvl,env,loc,out⟩:St).sto id=ZI lvl loc out id from rfl]
 generalize ZI lvl loc out id=o
 cases o with
 | none=>rfl
 | some ob =>
  cases ob with
  | bx=>rfl
  | ar k es u hw ver =>
   dsimp only
   rw[<-Vn]
   apply propext
   constructor
   ·rintro⟨es',h1,h2,e,h3,t0,h4,h5⟩
    refine⟨h2,es',h1,?_⟩
    rw[h3]
    simp only[op3]
    rw[h4]
    exact h5
   ·rintro⟨h2,es',h1,h3⟩
    rw[<-Vn] at h3
    obtain⟨e,h3,h4⟩:=h3
    rw[<-Vn] at h4
    obtain⟨t0,h4,h5⟩:=h4
    exact⟨es',h1,h2,e,h3,t0,h4,h5⟩
def sc2(k:Nat)(es:Row)(u:Bool)(hw ver:Nat)(id:Oid)(p:Pth)(i f:Nat)(x:IV)(st:St)(K:St->Prop)(t0:Tr):Prop :=
  match x with
  | .tr (.v y)=>isSc t0=true/\K (Zo st id (.ar k (Y7 es p i f (.v y)) u hw ver))
  | .cs []=>p=[]/\K (Zo st id (.ar k (Y7 es [] i f (.sl [])) u hw (ver+1)))
  | .cs zs=>p=[]/\K (Zo st id (.ar k (Y7 es [] i f (.sl zs)) false hw (ver+1)))
  | .tr (.sl zs)=>p=[]/\K (Zo st id (.ar k (Y7 es [] i f (.sl zs)) false hw (ver+1)))
  | .hd id2 [] 0 len none s2=>p=[]/\id2≠id/\id2.1=st.lvl /\
   match st.sto id2 with
   | some (.ar _ zs u2 hw2 _)=>s2=hw2/\len=zs.length/\K (Zo (JU id2 st) id (.ar k (Y7 es [] i f (.sl zs)) (u&&u2) hw (ver+1)))
   | _=>False
  | _=>False
def sc3(k:Nat)(es:Row)(u:Bool)(hw ver:Nat)(id:Oid)(p:Pth)(i f:Nat)(x:IV)(st:St)(K:St->Prop)(e:List Tr):Prop:=op3 e[f]? (sc2 k es u hw ver id p i f x st K)
def sc4(k:Nat)(es:Row)(u:Bool)(hw ver:Nat)(id:Oid)(p:Pth)(i f:Nat)(x:IV)(st:St)(K:St->Prop)(es':Row):Prop:=op3 es'[i]? (sc3 k es u hw ver id p i f x st K)
section sc
variable {k:Nat} {es:Row} {u:Bool} {hw ver:Nat} {id:Oid} {p:Pth} {i f s:Nat} {x:IV}
theorem ZtI:sc1 (some (.ar k es u hw ver)) id p i f s x st K=(VK p s hw ver u/\op3 (getp es p) (sc4 k es u hw ver id p i f x st K)):=(rfl)
theorem ZtJ{e:List Tr}:sc3 k es u hw ver id p i f x st K e=op3 e[f]? (sc2 k es u hw ver id p i f x st K):=(rfl)
theorem ZtK{es':Row}:sc4 k es u hw ver id p i f x st K es'=op3 es'[i]? (sc3 k es u hw ver id p i f x st K):=(rfl)
theorem ZtL{y:Value}{t0:Tr}:sc2 k es u hw ver id p i f (.tr (.v y)) st K t0=(isSc t0=true/\K (Zo st id (.ar k (Y7 es p i f (.v y)) u hw ver))):=(rfl)
theorem Zpm{t0:Tr}:sc2 k es u hw ver id p i f (.cs []) st K t0=(p=[]/\K (Zo st id (.ar k (Y7 es [] i f (.sl [])) u hw (ver+1)))):=(rfl)
theorem Zpn{zs:Row}{t0:Tr}:sc2 k es u hw ver id p i f (.tr (.sl zs)) st K t0=(p=[]/\K (Zo st id (.ar k (Y7 es [] i f (.sl zs)) false hw (ver+1)))):=(rfl)
def sc5(o:Option Ob)(k:Nat)(es:Row)(u:Bool)(hw ver:Nat)(id:Oid)(i f len s2:Nat)(st2 st:St)(K:St->Prop):Prop :=
 match o with
 | some (.ar _ zs u2 hw2 _)=>s2=hw2/\len=zs.length/\K (Zo st2 id (.ar k (Y7 es [] i f (.sl zs)) (u&&u2) hw (ver+1)))
 | _=>False
theorem Zpo{key len s2:Nat}{t0:Tr}:sc2 k es u hw ver id p i f (.hd (lvl,key) [] 0 len none s2) ⟨lvl,env,loc,out⟩ K t0=(p=[]/\(lvl,key)≠id/\sc5 (lkO key loc) k es u hw ver id i f len s2 (JU (lvl,key) ⟨lvl,env,loc,out⟩) ⟨lvl,env,loc,out⟩ K):=by
 simp only[sc2]
 rw[show (⟨lvl,env,loc,out⟩:St).sto (lvl,key)=lkO key loc from J8]
 generalize lkO key loc=o
 apply propext
 constructor
 ·rintro⟨h1,h2,_,h3⟩
  refine⟨h1,h2,?_⟩
  cases o with
  | none=>exact h3
  | some ob=>cases ob <;> exact h3
 ·rintro⟨h1,h2,h3⟩
  refine⟨h1,h2,trivial,?_⟩
  cases o with
  | none=>exact h3
  | some ob=>cases ob <;> exact h3
theorem ZtM{k2:Nat}{zs:Row}{u2:Bool}{hw2 ver2 len s2:Nat}{st2:St}:sc5 (some (.ar k2 zs u2 hw2 ver2)) k es u hw ver id i f len s2 st2 st K=(s2=hw2/\len=zs.length/\K (Zo st2 id (.ar k (Y7 es [] i f (.sl zs)) (u&&u2) hw (ver+1)))):=(rfl)
end sc
theorem Zv9{k n:Nat}{z:List Value}{ps:List (Nat×X)}:op2 C d (.bw k n z ps) ⟨lvl,env,loc,out⟩ K=ew C d ⟨lvl,env,loc,out⟩ K (.bw k n z ps):=ZX rfl
def kbw(k lvl:Nat)(d:Option Nat)(K:St->Prop)(ts:List Tr)(u:Bool)(st':St):Prop :=
 K { Zo st' (lvl,keyOf d) (.ar k [ts] u 1 0) with env:=ptd d (.hd (lvl,keyOf d) [] 0 1 none 1) st'.env }
theorem ZtN{k:Nat}{ts:List Tr}{u:Bool}:kbw k lvl d K ts u ⟨lvl,env,loc,out⟩=K ⟨lvl,ptd d (.hd (lvl,keyOf d) [] 0 1 none 1) env,ptO (keyOf d) (.ar k [ts] u 1 0) loc,out⟩:=by
 simp only[kbw,ZaF]
def bw2(v:Option (List IV))(k n:Nat)(d:Option Nat)(loc:List (Nat×Ob))(lvl:Nat)(st:St)(K:St->Prop):Prop :=
 match v with
 | some l=>n=1/\l.length=k/\freshK (keyOf d) loc 1/\Zgj l st (kbw k lvl d K)
 | none=>False
theorem ZtO{k n:Nat}{z:List Value}{x:X}:ew C d ⟨lvl,env,loc,out⟩ K (.bw k n z [(0,x)])=bw2 (cellsOf (xv env x)) k n d loc lvl ⟨lvl,env,loc,out⟩ K:=by
 simp only[ew]
 generalize cellsOf (xv env x)=v
 cases v with
 | none=>simp [bw2]
 | some l=>rfl
theorem ZtP{k n:Nat}{l:List IV}:bw2 (some l) k n d loc lvl st K=(n=1/\l.length=k/\freshK (keyOf d) loc 1/\Zgj l st (kbw k lvl d K)):=(rfl)
def kmv(r:List IV)(F:List Tr->Bool->St->Prop)(t:Tr)(a:Bool)(st':St):Prop:=Zgj r st' fun ts b st'' => F (t::ts) (a&&b) st''
def kmc(t:Tr)(a:Bool)(F:List Tr->Bool->St->Prop)(ts:List Tr)(b:Bool)(st'':St):Prop:=F (t::ts) (a&&b) st''
section mv
variable {r:List IV} {F:List Tr->Bool->St->Prop} {F1:Tr->Bool->St->Prop}
theorem ZtQ{t:Tr}{a:Bool}:kmv r F t a st=Zgj r st (kmc t a F):=(rfl)
theorem ZtR{t:Tr}{a:Bool}{ts:List Tr}{b:Bool}:kmc t a F ts b st=F (t::ts) (a&&b) st:=(rfl)
theorem ZmS:Zgj [] st F=F [] true st:=(rfl)
theorem ZmT{x:IV}:Zgj (x::r) st F=mvc st x (kmv r F):=(rfl)
theorem Zpp{y:Value}:mvc st (.tr (.v y)) F1=F1 (.v y) true st:=(rfl)
theorem Zpq{es:Row}:mvc st (.tr (.sl es)) F1=F1 (.sl es) false st:=(rfl)
theorem Zpr:mvc st (.cs []) F1=F1 (.sl []) true st:=(rfl)
def mv5(o:Option Ob)(len s2:Nat)(st1:St)(F1:Tr->Bool->St->Prop):Prop :=
 match o with
 | some (.ar _ zs u2 hw2 _)=>s2=hw2/\len=zs.length/\F1 (.sl zs) u2 st1
 | _=>False
theorem Zps{key len s2:Nat}:mvc ⟨lvl,env,loc,out⟩ (.hd (lvl,key) [] 0 len none s2) F1=mv5 (lkO key loc) len s2 (JU (lvl,key) ⟨lvl,env,loc,out⟩) F1:=by
 simp only[mvc]
 rw[show (⟨lvl,env,loc,out⟩:St).sto (lvl,key)=lkO key loc from J8]
 generalize lkO key loc=o
 apply propext
 constructor
 ·rintro⟨_,h3⟩
  cases o with
  | none=>exact h3
  | some ob=>cases ob <;> exact h3
 ·intro h3
  refine⟨trivial,?_⟩
  cases o with
  | none=>exact h3
  | some ob=>cases ob <;> exact h3
theorem ZtS{k2:Nat}{zs:Row}{u2:Bool}{hw2 ver2 len s2:Nat}:mv5 (some (.ar k2 zs u2 hw2 ver2)) len s2 st F1=(s2=hw2/\len=zs.length/\F1 (.sl zs) u2 st):=(rfl)
end mv
def Zpt:IV->Prop
 | .hd _ [] 0 _ none _=>True
 | _=>False
theorem Zpu{id:Oid}{len s:Nat}:Zpt (.hd id [] 0 len none s)=True:=(rfl)
def ZlK:List IV->Prop
 | []=>True
 | .tr (.v _)::r=>ZlK r
 | _=>False
theorem ZmU:ZlK []=True:=(rfl)
theorem ZmV{y:Value}{r:List IV}:ZlK (.tr (.v y)::r)=ZlK r:=(rfl)
def smp(p:IV)(l:Option (List IV)):Prop :=
 match p with
 | .ab .. => True
 | .ae .. => l≠some []/\ZlK (l.getD [])
 | _=>False
theorem Zpv{id:Oid}{off:Nat}{l:Option (List IV)}:smp (.ab id off) l=True:=(rfl)
theorem Zpw{id:Oid}{p:Pth}{i f s:Nat}{x:IV}{r:List IV}:smp (.ae id p i f s) (some (x::r))=ZlK (x::r):=by simp [smp]
theorem Zhy{id:Oid}{p:Pth}{i s k:Nat}{u:Bool}{hw ver:Nat}:∀(l:List IV) (f:Nat) (es:Row) (st0:St) (K:St->Prop),ZlK l->st0.sto id=some (.ar k es u hw ver)->ZdP id p i s f l st0 K->stq p i f l es (fun es' => K (Zo st0 id (.ar k es' u hw ver)))\/l=[]
 | [],f,es,st0,K,_,_,h=>.inr rfl
 | x::r,f,es,st0,K,ha,hs,h=>by
  refine .inl ?_
  simp only[ZdP,stc] at h
  rw[hs] at h
  obtain⟨es',hg,hst,e,hi,t0,hf,h⟩:=h
  cases x with
  | tr t =>
   cases t with
   | v y =>
    obtain⟨hsc,h⟩:=h
    simp only[stq]
    refine⟨es',hg,e,hi,t0,hf,hsc,?_⟩
    have hs1:(Zo st0 id (.ar k (Y7 es p i f (.v y)) u hw ver)).sto id=some (.ar k (Y7 es p i f (.v y)) u hw ver):=by rw[ZU];unfold ZJ;rw[if_pos rfl]
    rcases Zhy r (f+1) _ _ K ha hs1 h with g | g
    ·simp only[X4] at g
     exact g
    ·subst g
     exact h
   | sl=>cases ha
  | _=>cases ha
theorem Zwa{m:Nat}{p x:X}:op2 C d (.s0 m p x) ⟨lvl,env,loc,out⟩ K=(smp (xv env p) (cellsOf (xv env x))/\op2 C d (.st m p x) ⟨lvl,env,loc,out⟩ K):=by
 rw[ZX rfl,ZX rfl]
 simp only[ew,WQ]
 generalize cellsOf (xv env x)=v
 generalize xv env p=q
 apply propext
 constructor
 ·rintro⟨h0,h⟩
  split at h <;> try contradiction
  rename_i l
  obtain⟨h1,h⟩:=h
  split at h <;> try contradiction
  ·exact⟨trivial,h0,h1,h⟩
  ·rename_i id p i f s
   split at h <;> try contradiction
   rename_i k es u hw ver hs
   obtain⟨g1,g2,g3⟩:=h
   refine⟨⟨by simpa using g1,?_⟩,h0,h1,Zd2 g2 l f es _ K hs g3 (fun e=>absurd e g1)⟩
   have:∀(l:List IV) (f:Nat) (es:Row) (K:Row->Prop),stq p i f l es K->ZlK l:=by
    intro l
    induction l with
    | nil=>intros;trivial
    | cons x r ih =>
     intro f es K h
     simp only[stq] at h
     obtain⟨_,_,_,_,_,_,_,h⟩:=h
     split at h <;> try contradiction
     exact ih _ _ _ h
   exact this _ _ _ _ g3
 ·rintro⟨h3,h0,h⟩
  refine⟨h0,?_⟩
  split at h <;> try contradiction
  rename_i l
  obtain⟨h1,h⟩:=h
  refine⟨h1,?_⟩
  split at h <;> try contradiction
  ·exact h
  ·rename_i id p i f s
   obtain⟨g1,g2⟩:=h3
   cases l with
   | nil=>exact absurd rfl g1
   | cons y r =>
    have h':=h
    simp only[ZdP,stc] at h'
    split at h' <;> try contradiction
    rename_i k es u hw ver hs
    refine⟨by simp,h'.choose_spec.2.1,?_⟩
    rcases Zhy _ _ _ _ K g2 hs h with g | g
    ·exact g
    ·cases g
theorem Zwb{k:Nat}{x y:X}:op2 C d (.a0 k x y) ⟨lvl,env,loc,out⟩ K=(Zpt (xv env x)/\op2 C d (.ap k 0 x y) ⟨lvl,env,loc,out⟩ K):=by
 rw[ZX rfl,ZX rfl]
 apply propext
 constructor
 ·intro he
  refine⟨?_,Zhi he⟩
  simp only[ew,WQ] at he
  split at he <;> try contradiction
  rename_i hx
  rw[hx];trivial
 ·rintro⟨h1,h⟩
  generalize hq:xv env x=q at h1
  unfold Zpt at h1
  split at h1 <;> try contradiction
  rename_i id len s
  have go:∀ items:Row,ScR items->Wo d k x loc items true ⟨lvl,env,loc,out⟩ K->match ZI lvl loc out id with
   | some (.ar k' es u hw ver)=>k'=k/\s=hw/\len=es.length/\ScR items/\UnR k items/\len+items.length<=bigN /\
     K { Zo ⟨lvl,env,loc,out⟩ id (.ar k (es++items) u (max hw (len+items.length)) ver) with env:=ptd d (.hd id [] 0 (len+items.length) none (max hw (len+items.length))) env }
   | _=>False:=fun items hsc h=>by
   unfold Wo at h
   obtain⟨g1,h⟩:=h
   simp only[hq] at h
   rw[show (⟨lvl,env,loc,out⟩:St).sto id=ZI lvl loc out id from rfl] at h
   generalize ZI lvl loc out id=o at h ⊢
   cases o with
   | none=>exact h
   | some ob =>
    cases ob with
    | bx=>exact h
    | ar k' es u hw ver =>
     simp only[Bool.and_true] at h
     exact⟨h.1,h.2.1,h.2.2.1,hsc,g1,h.2.2.2.1,h.2.2.2.2⟩
  simp only[ew,WQ,Zgi] at h ⊢
  rw[hq]
  rw[show (⟨lvl,env,loc,out⟩:St).sto=ZI lvl loc out from rfl] at *
  split at h <;> try contradiction
  ·rename_i zs hy
   simp only[if_true] at h
   have:=go zs h.1 h.2
   rw[hy]
   exact this
  ·rename_i zs hy
   simp only[if_true] at h
   have:=go zs h.1 h.2
   rw[hy]
   exact this
  ·rename_i id2 p2 off2 len2 c2 s2 hy
   simp only[if_true] at h
   rw[hy]
   dsimp only
   unfold rdh at h ⊢
   generalize ZI lvl loc out id2=o3 at h ⊢
   cases o3 with
   | none=>exact h.elim
   | some ob3 =>
    cases ob3 with
    | bx=>exact h.elim
    | ar k3 es3 u3 hw3 ver3 =>
     obtain⟨es',q1,q2,q3,q4,q5⟩:=h
     have:=go _ q4 q5
     split at this <;> try contradiction
     rename_i hs
     show (match ZI lvl loc out id with
      | some (.ar k' es u hw ver)=>k'=k/\s=hw/\len=es.length/\∃ es',getp es3 p2=some es'/\VK p2 s2 hw3 ver3 u3/\off2+len2<=es'.length/\ScR (cut es' off2 len2)/\UnR k (cut es' off2 len2)/\len+(cut es' off2 len2).length<=bigN /\
        K { Zo ⟨lvl,env,loc,out⟩ id (.ar k (es++cut es' off2 len2) u (max hw (len+(cut es' off2 len2).length)) ver) with env:=ptd d (.hd id [] 0 (len+(cut es' off2 len2).length) none (max hw (len+(cut es' off2 len2).length))) env }
      | _=>False)
     rw[hs]
     exact⟨this.1,this.2.1,this.2.2.1,es',q1,q2,q3,this.2.2.2⟩
  ·exact absurd h.1 (by decide)
def ZqM:IV->Prop
 | .tr (.sl _)=>True
 | .cs _=>True
 | _=>False
theorem ZmW{es:Row}:ZqM (.tr (.sl es))=True:=(rfl)
theorem ZmX{es:Row}:ZqM (.cs es)=True:=(rfl)
theorem Zwc{k:Nat}{x y:X}:op2 C d (.a1 k x y) ⟨lvl,env,loc,out⟩ K=(Zpt (xv env x)/\ZqM (xv env y)/\op2 C d (.ap k 1 x y) ⟨lvl,env,loc,out⟩ K):=by
 rw[ZX rfl,ZX rfl]
 apply propext
 constructor
 ·intro he
  refine⟨?_,?_,Zhj he⟩
  ·simp only[ew,WQ] at he
   split at he <;> try contradiction
   rename_i hx
   rw[hx];trivial
  ·simp only[ew,WQ] at he
   split at he <;> try contradiction
   split at he <;> try contradiction
   have h4:=he.2.2.2
   unfold ZnB at h4
   split at h4 <;> try contradiction
   ·rename_i hy;rw[hy];trivial
   ·rename_i hy;rw[hy];trivial
 ·rintro⟨h1,h2,h⟩
  generalize hq:xv env x=q at h1
  unfold Zpt at h1
  split at h1 <;> try contradiction
  rename_i id len s
  have go:∀ items:Row,Wo d k x loc items false ⟨lvl,env,loc,out⟩ K->match ZI lvl loc out id with
   | some (.ar k' es u hw ver)=>k'=k/\s=hw/\len=es.length/\UnR k items/\len+items.length<=bigN /\
     K { Zo ⟨lvl,env,loc,out⟩ id (.ar k (es++items) false (max hw (len+items.length)) ver) with env:=ptd d (.hd id [] 0 (len+items.length) none (max hw (len+items.length))) env }
   | _=>False:=fun items h=>by
   unfold Wo at h
   obtain⟨g1,h⟩:=h
   simp only[hq] at h
   rw[show (⟨lvl,env,loc,out⟩:St).sto id=ZI lvl loc out id from rfl] at h
   generalize ZI lvl loc out id=o at h ⊢
   cases o with
   | none=>exact h
   | some ob =>
    cases ob with
    | bx=>exact h
    | ar k' es u hw ver =>
     simp only[Bool.and_false] at h
     exact⟨h.1,h.2.1,h.2.2.1,g1,h.2.2.2.1,h.2.2.2.2⟩
  simp only[ew,WQ,ZnB] at h ⊢
  rw[hq]
  rw[show (⟨lvl,env,loc,out⟩:St).sto=ZI lvl loc out from rfl] at *
  generalize hy:xv env y=yv at h h2 ⊢
  unfold ZqM at h2
  split at h2 <;> try contradiction
  ·simp only[Nat.reduceEqDiff,if_false,true_and] at h
   exact go _ h
  ·simp only[Nat.reduceEqDiff,if_false,true_and] at h
   exact go _ h
def az1(x n:IV)(d:Option Nat)(k:Nat)(z:List Value)(st:St)(K:St->Prop):Prop :=
 match x with
 | .cs [] =>
  match n with
  | .tr (.v (.int .i64 m))=>0<m/\m<=bigN/\freshK (keyOf d) st.loc 1 /\
    K { Zo st (st.lvl,keyOf d) (.ar k (List.replicate m.toNat (z.map trv)) true m.toNat 0) with env:=ptd d (.hd (st.lvl,keyOf d) [] 0 m.toNat none m.toNat) st.env }
  | _=>False
 | _=>False
theorem Zwd{k:Nat}{z:List Value}{x n:X}:op2 C d (.az k z x n) ⟨lvl,env,loc,out⟩ K=az1 (xv env x) (xv env n) d k z ⟨lvl,env,loc,out⟩ K:=by
 rw[ZX rfl]
 rfl
theorem ZtT{k:Nat}{z:List Value}{m:Int}:az1 (.cs []) (.tr (.v (.int .i64 m))) d k z ⟨lvl,env,loc,out⟩ K=(0<m/\m<=bigN/\freshK (keyOf d) loc 1/\K ⟨lvl,ptd d (.hd (lvl,keyOf d) [] 0 m.toNat none m.toNat) env,ptO (keyOf d) (.ar k (List.replicate m.toNat (z.map trv)) true m.toNat 0) loc,out⟩):=by
 simp only[az1,ZaF]
def tbx:IV->Prop
 | .ta _=>True
 | _=>False
theorem ZtU{cells:List Tr}:tbx (.ta cells)=True:=(rfl)
theorem Zwe{m:Option Nat}{p:X}:op2 C d (.lt m p) ⟨lvl,env,loc,out⟩ K=(tbx (xv env p)/\op2 C d (.ld m p) ⟨lvl,env,loc,out⟩ K):=by
 cases m <;> (
  rw[Jh rfl,Jh rfl]
  simp only[ev]
  generalize hx:xv env p=q
  cases q <;> simp [tbx])
def av4(o:Option Ob)(id:Oid)(es:Row)(hw ver len off2 len2 s2 k:Nat)(d:Option Nat)(st:St)(K:St->Prop):Prop :=
 match o with
 | some (.ar _ es2 false hw2 _)=>s2=hw2/\off2+len2<=es2.length/\UnR k (cut es2 off2 len2)/\len+(cut es2 off2 len2).length<=bigN /\
   K { Zo st id (.ar k (es++cut es2 off2 len2) false (max hw (len+(cut es2 off2 len2).length)) ver) with env:=ptd d (.hd id [] 0 (len+(cut es2 off2 len2).length) none (max hw (len+(cut es2 off2 len2).length))) st.env }
 | _=>False
def av3(y:IV)(id:Oid)(es:Row)(hw ver len k:Nat)(d:Option Nat)(st:St)(K:St->Prop):Prop :=
 match y with
 | .hd id2 [] off2 len2 _ s2=>av4 (st.sto id2) id es hw ver len off2 len2 s2 k d st K
 | _=>False
def av2(o:Option Ob)(y:IV)(id:Oid)(len s k:Nat)(d:Option Nat)(st:St)(K:St->Prop):Prop :=
 match o with
 | some (.ar k' es _ hw ver)=>k'=k/\s=hw/\len=es.length/\av3 y id es hw ver len k d st K
 | _=>False
def av1(x y:IV)(k:Nat)(d:Option Nat)(st:St)(K:St->Prop):Prop :=
 match x with
 | .hd id [] 0 len none s=>av2 (st.sto id) y id len s k d st K
 | _=>False
theorem Zwf{k:Nat}{x y:X}:op2 C d (.a2 k x y) ⟨lvl,env,loc,out⟩ K=av1 (xv env x) (xv env y) k d ⟨lvl,env,loc,out⟩ K:=by
 rw[ZX rfl]
 rfl
theorem ZtV{id:Oid}{len s k:Nat}{y:IV}:av1 (.hd id [] 0 len none s) y k d ⟨lvl,env,loc,out⟩ K=av2 (ZI lvl loc out id) y id len s k d ⟨lvl,env,loc,out⟩ K:=(rfl)
theorem ZtW{k' hw ver len s k:Nat}{es:Row}{u:Bool}{y:IV}{id:Oid}:av2 (some (.ar k' es u hw ver)) y id len s k d st K=(k'=k/\s=hw/\len=es.length/\av3 y id es hw ver len k d st K):=(rfl)
theorem ZtX{id id2:Oid}{es:Row}{hw ver len k off2 len2 s2:Nat}{c2:Option Nat}:av3 (.hd id2 [] off2 len2 c2 s2) id es hw ver len k d ⟨lvl,env,loc,out⟩ K=av4 (ZI lvl loc out id2) id es hw ver len off2 len2 s2 k d ⟨lvl,env,loc,out⟩ K:=(rfl)
theorem ZtY{key:Nat}{es es2:Row}{k2 hw ver len off2 len2 s2 k hw2 ver2:Nat}:av4 (some (.ar k2 es2 false hw2 ver2)) (lvl,key) es hw ver len off2 len2 s2 k d ⟨lvl,env,loc,out⟩ K=(s2=hw2/\off2+len2<=es2.length/\UnR k (cut es2 off2 len2)/\len+(cut es2 off2 len2).length<=bigN /\
   K ⟨lvl,ptd d (.hd (lvl,key) [] 0 (len+(cut es2 off2 len2).length) none (max hw (len+(cut es2 off2 len2).length))) env,ptO key (.ar k (es++cut es2 off2 len2) false (max hw (len+(cut es2 off2 len2).length)) ver) loc,out⟩):=by
 simp only[av4,ZaF]
def abx:IV->Prop
 | .ab .. => True
 | _=>False
theorem ZtZ{id:Oid}{off:Nat}:abx (.ab id off)=True:=(rfl)
theorem Zwg{m:Option Nat}{p:X}:op2 C d (.lb m p none) ⟨lvl,env,loc,out⟩ K=(abx (xv env p)/\op2 C d (.ld m p) ⟨lvl,env,loc,out⟩ K):=by
 cases m <;> (
  rw[Jh rfl,Jh rfl]
  simp only[ev,apq]
  generalize hx:xv env p=q
  cases q <;> simp [abx])
theorem Zt0{l i j:Nat}{a b:Nat}:apI (.ab (l,i) a) (.ab (l,j) b)=((i=j)=False):=by
 simp [apI]
theorem Zt1{m:Option Nat}{p:X}{q:Nat}:op2 C d (.lb m p (some q)) ⟨lvl,env,loc,out⟩ K=(apI (xv env p) (xv env (.t q))/\op2 C d (.ld m p) ⟨lvl,env,loc,out⟩ K):=by
 cases m <;> (
  rw[Jh rfl,Jh rfl]
  simp only[ev,apq]
  generalize hx:xv env p=q
  generalize hy:xv env (.t _)=y
  cases q <;> cases y <;> simp [apI])
def tcs:IV->Prop
 | .tr (.sl _)=>True
 | .cs _=>True
 | _=>False
theorem Zpx{es:Row}:tcs (.tr (.sl es))=True:=(rfl)
theorem Zpy{es:Row}:tcs (.cs es)=True:=(rfl)
theorem Zwh{k:Nat}{x:X}{lo hi mx:Option X}:op2 C d (.sy k x lo hi mx) ⟨lvl,env,loc,out⟩ K=(tcs (xv env x)/\op2 C d (.sx k x lo hi mx) ⟨lvl,env,loc,out⟩ K):=by
 rw[Jh rfl,Jh rfl]
 simp only[ev]
 generalize hx:xv env x=q
 cases q with
 | tr t =>
  cases t with
  | v=>simp [tcs]
  | sl es=>simp only[tcs,true_and]
 | cs es=>simp only[tcs,true_and]
 | _=>simp only[tcs,false_and]
def swx(L:Sto)(k:Nat):IV->Prop
 | .tr (.sl _)=>True
 | .cs _=>True
 | .hd id [] _ _ _ _=>wid L id [] k
 | _=>False
theorem Zpz{L:Sto}{k:Nat}{es:Row}:swx L k (.tr (.sl es))=True:=(rfl)
theorem ZpA{L:Sto}{k:Nat}{es:Row}:swx L k (.cs es)=True:=(rfl)
theorem ZpB{L:Sto}{k:Nat}{id:Oid}{off len s:Nat}{cap:Option Nat}:swx L k (.hd id [] off len cap s)=wid L id [] k:=(rfl)
def Zvb(m:Nat):Option Ob->Prop
 | some (.ar k _ _ _ _)=>k=m
 | _=>False
theorem ZpC{m k hw ver:Nat}{es:Row}{u:Bool}:Zvb m (some (.ar k es u hw ver))=(k=m):=(rfl)
theorem ZpD{key m:Nat}:wid (ZI lvl loc out) (lvl,key) [] m=Zvb m (lkO key loc):=by
 unfold wid
 rw[J8]
 cases lkO key loc with
 | none=>rfl
 | some ob=>cases ob <;> rfl
theorem Zwi{k:Nat}{x:X}{lo hi mx:Option X}:op2 C d (.sw k x lo hi mx) ⟨lvl,env,loc,out⟩ K=(swx (ZI lvl loc out) k (xv env x)/\op2 C d (.sx k x lo hi mx) ⟨lvl,env,loc,out⟩ K):=by
 rw[Jh rfl,Jh rfl]
 simp only[ev]
 generalize xv env x=q
 cases q with
 | tr t =>
  cases t with
  | v=>simp [swx]
  | sl es=>simp only[swx,true_and]
 | cs es=>simp only[swx,true_and]
 | hd id p off len cap s =>
  cases p with
  | nil =>
   simp only[swx]
   exact propext ⟨fun⟨hw,h⟩=>⟨hw,Vk (fun a h=>Vk (fun b h=>⟨h.1,h.2.1,Vk (fun m g=>⟨g.1,g.2.1,hw,g.2.2⟩) h.2.2⟩) h) h⟩,fun⟨hw,h⟩=>⟨hw,Vk (fun a h=>Vk (fun b h=>⟨h.1,h.2.1,Vk (fun m g=>⟨g.1,g.2.1,g.2.2.2⟩) h.2.2⟩) h) h⟩⟩
  | cons c r=>simp [swx]
 | _=>simp [swx]
theorem Zwj{k:Nat}{x i:X}:op2 C d (.it k x i) ⟨lvl,env,loc,out⟩ K=(tcs (xv env x)/\op2 C d (.ia k x i) ⟨lvl,env,loc,out⟩ K):=by
 rw[Jh rfl,Jh rfl]
 simp only[ev]
 generalize xv env x=q
 generalize xv env i=qi
 cases q with
 | tr t =>
  cases t with
  | v=>simp only[tcs,false_and];split <;> simp
  | sl es=>simp only[tcs,true_and]
 | cs es=>simp only[tcs,true_and]
 | _=>simp only[tcs,false_and];split <;> simp
def apx(v:IV)(d:Option Nat)(k:Nat)(loc0:List (Nat×Ob))(items:Row)(ui:Bool)(st1:St)(K:St->Prop):Prop :=
 UnR k items /\
 match v with
 | .cs zs=>(zs=[]\/items≠[])/\zs.length+items.length<=bigN/\UnR k zs/\freshK (keyOf d) loc0 1/\(zs=[]\/ui=false\/ScR zs) /\
  K { Zo st1 (st1.lvl,keyOf d) (.ar k (zs++items) ui (zs.length+items.length) 0) with env:=ptd d (.hd (st1.lvl,keyOf d) [] 0 (zs.length+items.length) none (zs.length+items.length)) st1.env }
 | .hd id [] 0 len none s =>
  match st1.sto id with
  | some (.ar k' es u hw ver)=>k'=k/\s=hw/\len=es.length/\len+items.length<=bigN /\
   K { Zo st1 id (.ar k (es++items) (u&&ui) (max hw (len+items.length)) ver) with env:=ptd d (.hd id [] 0 (len+items.length) none (max hw (len+items.length))) st1.env }
  | _=>False
 | _=>False
theorem ZpE{k:Nat}{x:X}{loc0:List (Nat×Ob)}{items:Row}{ui:Bool}:Wo d k x loc0 items ui ⟨lvl,env,loc,out⟩ K=apx (xv env x) d k loc0 items ui ⟨lvl,env,loc,out⟩ K:=(rfl)
theorem ZpF{k:Nat}{loc0:List (Nat×Ob)}{items zs:Row}{ui:Bool}:apx (.cs zs) d k loc0 items ui ⟨lvl,env,loc,out⟩ K=(UnR k items/\(zs=[]\/items≠[])/\zs.length+items.length<=bigN/\UnR k zs/\freshK (keyOf d) loc0 1/\(zs=[]\/ui=false\/ScR zs) /\
  K ⟨lvl,ptd d (.hd (lvl,keyOf d) [] 0 (zs.length+items.length) none (zs.length+items.length)) env,ptO (keyOf d) (.ar k (zs++items) ui (zs.length+items.length) 0) loc,out⟩):=by
 simp only[apx,ZaF]
def aph(o:Option Ob)(d:Option Nat)(k:Nat)(id:Oid)(len s:Nat)(items:Row)(ui:Bool)(st1:St)(K:St->Prop):Prop :=
 match o with
 | some (.ar k' es u hw ver)=>k'=k/\s=hw/\len=es.length/\len+items.length<=bigN /\
   K { Zo st1 id (.ar k (es++items) (u&&ui) (max hw (len+items.length)) ver) with env:=ptd d (.hd id [] 0 (len+items.length) none (max hw (len+items.length))) st1.env }
 | _=>False
theorem ZpG{k key len s:Nat}{loc0:List (Nat×Ob)}{items:Row}{ui:Bool}:apx (.hd (lvl,key) [] 0 len none s) d k loc0 items ui ⟨lvl,env,loc,out⟩ K=(UnR k items/\aph (lkO key loc) d k (lvl,key) len s items ui ⟨lvl,env,loc,out⟩ K):=by
 simp only[apx]
 rw[show (⟨lvl,env,loc,out⟩:St).sto (lvl,key)=lkO key loc from J8]
 rfl
theorem Zt2{k k' key len s:Nat}{items es:Row}{u ui:Bool}{hw ver:Nat}:aph (some (.ar k' es u hw ver)) d k (lvl,key) len s items ui ⟨lvl,env,loc,out⟩ K=(k'=k/\s=hw/\len=es.length/\len+items.length<=bigN /\
   K ⟨lvl,ptd d (.hd (lvl,key) [] 0 (len+items.length) none (max hw (len+items.length))) env,ptO key (.ar k (es++items) (u&&ui) (max hw (len+items.length)) ver) loc,out⟩):=by
 simp only[aph,ZaF]
def ap2(C:Zj)(d:Option Nat)(k md:Nat)(x:X)(y:IV)(st:St)(K:St->Prop):Prop :=
 match y with
 | .tr (.sl es)=>if md=0 then ScR es/\Wo d k x st.loc es true st K else md=1/\Wo d k x st.loc es false st K
 | .cs es=>if md=0 then ScR es/\Wo d k x st.loc es true st K else md=1/\Wo d k x st.loc es false st K
 | .hd id2 p2 off2 len2 c2 s2 =>
   if md=2 then
    p2=[]/\off2=0/\c2=none/\id2.1=st.lvl /\
    match st.sto id2 with
    | some (.ar _ zs u2 hw2 _)=>s2=hw2/\len2=zs.length/\Wo d k x st.loc zs u2 (JU id2 st) K
    | _=>False
   else if md=0 then
    rdh st.sto id2 p2 s2 fun es _ _=>off2+len2<=es.length/\ScR (cut es off2 len2)/\Wo d k x st.loc (cut es off2 len2) true st K
   else md=1/\p2=[] /\
    match st.sto id2 with
    | some (.ar k2 es _ hw2 ver2)=>s2=hw2/\off2+len2<=es.length/\Wo d k x st.loc (cut es off2 len2) false (Zo st id2 (.ar k2 es false hw2 ver2)) K
    | _=>False
 | .sv id2=>md=2/\id2.1=st.lvl /\
   match st.sto id2 with
   | some (.bx l)=>l.length=k/\Zgj l st fun ts u st' => Wo d k x st.loc [ts] u (JU id2 st') K
   | _=>False
 | _=>False
theorem Zwk{k md:Nat}{x y:X}:op2 C d (.ap k md x y) ⟨lvl,env,loc,out⟩ K=ap2 C d k md x (xv env y) ⟨lvl,env,loc,out⟩ K:=by
 rw[ZX rfl]
 rfl
section ap
variable {k:Nat} {x:X}
theorem Zt3{es:Row}:ap2 C d k 0 x (.tr (.sl es)) ⟨lvl,env,loc,out⟩ K=(ScR es/\Wo d k x loc es true ⟨lvl,env,loc,out⟩ K):=(rfl)
theorem Zt4{es:Row}:ap2 C d k 1 x (.tr (.sl es)) ⟨lvl,env,loc,out⟩ K=Wo d k x loc es false ⟨lvl,env,loc,out⟩ K:=by simp [ap2]
theorem ZpH{es:Row}:ap2 C d k 0 x (.cs es) ⟨lvl,env,loc,out⟩ K=(ScR es/\Wo d k x loc es true ⟨lvl,env,loc,out⟩ K):=(rfl)
theorem ZpI{es:Row}:ap2 C d k 1 x (.cs es) ⟨lvl,env,loc,out⟩ K=Wo d k x loc es false ⟨lvl,env,loc,out⟩ K:=by simp [ap2]
def kap(d:Option Nat)(k:Nat)(x:X)(off2 len2:Nat)(st:St)(K:St->Prop)(es:Row)(_u:Bool)(_v:Nat):Prop:=off2+len2<=es.length/\ScR (cut es off2 len2)/\Wo d k x st.loc (cut es off2 len2) true st K
theorem Zt5{off2 len2:Nat}{es:Row}{u:Bool}{v:Nat}:kap d k x off2 len2 ⟨lvl,env,loc,out⟩ K es u v=(off2+len2<=es.length/\ScR (cut es off2 len2)/\Wo d k x loc (cut es off2 len2) true ⟨lvl,env,loc,out⟩ K):=(rfl)
theorem ZpJ{id2:Oid}{p2:Pth}{off2 len2 s2:Nat}{c2:Option Nat}:ap2 C d k 0 x (.hd id2 p2 off2 len2 c2 s2) ⟨lvl,env,loc,out⟩ K=rd3 (ZI lvl loc out id2) p2 s2 (kap d k x off2 len2 ⟨lvl,env,loc,out⟩ K):=by
 rw[<-W3]
 rfl
def ap5(o:Option Ob)(d:Option Nat)(k:Nat)(x:X)(len2 s2:Nat)(loc0:List (Nat×Ob))(st1:St)(K:St->Prop):Prop :=
 match o with
 | some (.ar _ zs u2 hw2 _)=>s2=hw2/\len2=zs.length/\Wo d k x loc0 zs u2 st1 K
 | _=>False
theorem ZpK{key:Nat}{p2:Pth}{off2 len2 s2:Nat}{c2:Option Nat}:ap2 C d k 2 x (.hd (lvl,key) p2 off2 len2 c2 s2) ⟨lvl,env,loc,out⟩ K=(p2=[]/\off2=0/\c2=none/\ap5 (lkO key loc) d k x len2 s2 loc (JU (lvl,key) ⟨lvl,env,loc,out⟩) K):=by
 simp only[ap2,if_true]
 rw[show (⟨lvl,env,loc,out⟩:St).sto (lvl,key)=lkO key loc from J8]
 generalize lkO key loc=o
 apply propext
 constructor
 ·rintro⟨h1,h2,h3,_,h5⟩
  refine⟨h1,h2,h3,?_⟩
  cases o with
  | none=>exact h5
  | some ob=>cases ob <;> exact h5
 ·rintro⟨h1,h2,h3,h5⟩
  refine⟨h1,h2,h3,trivial,?_⟩
  cases o with
  | none=>exact h5
  | some ob=>cases ob <;> exact h5
theorem Zt6{k2:Nat}{zs:Row}{u2:Bool}{hw2 ver2 len2 s2:Nat}{loc0:List (Nat×Ob)}{st1:St}:ap5 (some (.ar k2 zs u2 hw2 ver2)) d k x len2 s2 loc0 st1 K=(s2=hw2/\len2=zs.length/\Wo d k x loc0 zs u2 st1 K):=(rfl)
def Zt7(d:Option Nat)(k:Nat)(x:X)(loc0:List (Nat×Ob))(id2:Oid)(K:St->Prop)(ts:List Tr)(u:Bool)(st':St):Prop:=Wo d k x loc0 [ts] u (JU id2 st') K
theorem ZpL{loc0:List (Nat×Ob)}{id2:Oid}{ts:List Tr}{u:Bool}:Zt7 d k x loc0 id2 K ts u st=Wo d k x loc0 [ts] u (JU id2 st) K:=(rfl)
def aps(o:Option Ob)(d:Option Nat)(k:Nat)(x:X)(loc0:List (Nat×Ob))(id2:Oid)(st1:St)(K:St->Prop):Prop :=
 match o with
 | some (.bx l)=>l.length=k/\Zgj l st1 (Zt7 d k x loc0 id2 K)
 | _=>False
theorem Zt8{l:List IV}{loc0:List (Nat×Ob)}{id2:Oid}{st1:St}:aps (some (.bx l)) d k x loc0 id2 st1 K=(l.length=k/\Zgj l st1 (Zt7 d k x loc0 id2 K)):=(rfl)
theorem ZpM{key:Nat}:ap2 C d k 2 x (.sv (lvl,key)) ⟨lvl,env,loc,out⟩ K=aps (lkO key loc) d k x loc (lvl,key) ⟨lvl,env,loc,out⟩ K:=by
 simp only[ap2]
 rw[show (⟨lvl,env,loc,out⟩:St).sto (lvl,key)=lkO key loc from J8]
 generalize lkO key loc=o
 apply propext
 constructor
 ·rintro⟨_,_,h⟩
  cases o with
  | none=>exact h
  | some ob=>cases ob <;> exact h
 ·intro h
  refine⟨trivial,trivial,?_⟩
  cases o with
  | none=>exact h
  | some ob=>cases ob <;> exact h
end ap
theorem ZmY{L:Sto}{F:List IV->Prop}:∀{l:List Tr},Z7 L (l.map .tr) F=F (l.map .tr)
 | []=>Zmq
 | t::r=>by rw[List.map_cons,ZoH,ZmY,ZoD]
theorem Zeg{Pd:Oid->Prop}:∀{l:List Tr},Zc Pd (l.map .tr)=True
 | []=>rfl
 | t::r=>by simp only[List.map_cons,Zc,men,Zeg,and_self]
def nlf(v:IV)(neg:Bool)(lvl:Nat)(env:List (Nat×IV))(loc:List (Nat×Ob))(out:Sto)(d:Option Nat)(K:St->Prop):Prop :=
 match v with
 | .tr (.sl es)=>K ⟨lvl,ptd d (iB neg) env,loc,out⟩/\(es=[]->K ⟨lvl,ptd d (iB !neg) env,loc,out⟩)
 | .cs es=>K ⟨lvl,ptd d (iB neg) env,loc,out⟩/\(es=[]->K ⟨lvl,ptd d (iB !neg) env,loc,out⟩)
 | _=>False
theorem Zwl{C:Zj}{d:Option Nat}{neg:Bool}{x:X}{lvl:Nat}{env:List (Nat×IV)}{loc:List (Nat×Ob)}{out:Sto}{K:St->Prop}:op2 C d (.nl neg x) ⟨lvl,env,loc,out⟩ K=nlf (xv env x) neg lvl env loc out d K:=by
 rw[ZX rfl]
 rfl
theorem Zt9{neg:Bool}{es:Row}{d:Option Nat}{lvl:Nat}{env:List (Nat×IV)}{loc:List (Nat×Ob)}{out:Sto}{K:St->Prop}:nlf (.tr (.sl es)) neg lvl env loc out d K=(K ⟨lvl,ptd d (iB neg) env,loc,out⟩/\(es=[]->K ⟨lvl,ptd d (iB !neg) env,loc,out⟩)):=(rfl)
theorem Zua{neg:Bool}{es:Row}{d:Option Nat}{lvl:Nat}{env:List (Nat×IV)}{loc:List (Nat×Ob)}{out:Sto}{K:St->Prop}:nlf (.cs es) neg lvl env loc out d K=(K ⟨lvl,ptd d (iB neg) env,loc,out⟩/\(es=[]->K ⟨lvl,ptd d (iB !neg) env,loc,out⟩)):=(rfl)
section row
variable {C:Zj} {d:Option Nat} {x y hi:X} {lvl:Nat} {env:List (Nat×IV)} {loc:List (Nat×Ob)} {out:Sto} {K:St->Prop} {st:St}
def Zfb(d:Option Nat)(x:IV)(st:St)(K:St->Prop):Prop:=K { st with env:=ptd d x st.env }
theorem ZpN{v:IV}:Zfb d v ⟨lvl,env,loc,out⟩ K=K ⟨lvl,ptd d v env,loc,out⟩:=(rfl)
theorem ZbL{v:IV}{id:Oid}{ob:Ob}:Zfb d v (Zo st id ob) K=K { Zo st id ob with env:=ptd d v st.env }:=by
 unfold Zfb
 rw[V3]
def cpf(v:IV)(lvl:Nat)(env:List (Nat×IV))(loc:List (Nat×Ob))(out:Sto)(d:Option Nat)(K:St->Prop):Prop :=
 match v with
 | .cs es=>K ⟨lvl,ptd d (iI es.length) env,loc,out⟩
 | _=>False
theorem Zwm:op2 C d (.cp x) ⟨lvl,env,loc,out⟩ K=cpf (xv env x) lvl env loc out d K:=by
 rw[ZX rfl]
 rfl
theorem Zub{es:Row}:cpf (.cs es) lvl env loc out d K=K ⟨lvl,ptd d (iI es.length) env,loc,out⟩:=(rfl)
def shg(o:Option Ob)(id:Oid)(m:Int)(len s k:Nat)(d:Option Nat)(st:St)(K:St->Prop):Prop :=
 match o with
 | some (.ar k2 es u hw ver)=>k2=k/\s=hw/\0<=m/\m.toNat<=len/\len<=es.length/\Zfb d (.hd id [] 0 m.toNat none hw) (Zo st id (.ar k2 (es.take m.toNat) u hw (ver+1))) K
 | _=>False
def shf(v hv:IV)(k:Nat)(d:Option Nat)(st:St)(K:St->Prop):Prop :=
 match v with
 | .cs es =>
  match hv with
  | .tr (.v (.int _ m))=>m=es.length/\UnR k es/\Zfb d (.cs es) st K
  | _=>False
 | .hd id p off len cap s =>
  match hv with
  | .tr (.v (.int _ m))=>p=[]/\off=0/\cap=none/\shg (st.sto id) id m len s k d st K
  | _=>False
 | _=>False
theorem Zwn{k:Nat}:op2 C d (.sh k x hi) ⟨lvl,env,loc,out⟩ K=shf (xv env x) (xv env hi) k d ⟨lvl,env,loc,out⟩ K:=by
 rw[ZX rfl]
 simp only[ew]
 generalize xv env x=v
 cases v <;> try rfl
 rename_i id p off len cap s
 generalize xv env hi=hv
 cases hv <;> try rfl
 rename_i t
 cases t <;> try rfl
 rename_i q
 cases q <;> try rfl
 simp only[shf,shg]
 generalize (⟨lvl,env,loc,out⟩:St).sto id=o
 cases o with
 | none=>simp
 | some ob =>
  cases ob with
  | bx=>simp
  | ar k2 es u hw ver=>simp only[ZbL]
theorem Zuc{id:Oid}{len s k:Nat}{kk:IntKind}{m:Int}:shf (.hd id [] 0 len none s) (.tr (.v (.int kk m))) k d ⟨lvl,env,loc,out⟩ K=shg (ZI lvl loc out id) id m len s k d ⟨lvl,env,loc,out⟩ K:=by
 simp only[shf,true_and]
 rfl
theorem Zud{es:Row}{k:Nat}{kk:IntKind}{m:Int}:shf (.cs es) (.tr (.v (.int kk m))) k d ⟨lvl,env,loc,out⟩ K=(m=es.length/\UnR k es/\Zfb d (.cs es) ⟨lvl,env,loc,out⟩ K):=(rfl)
theorem Zue{id:Oid}{len s k k2 hw ver:Nat}{es:Row}{u:Bool}{m:Int}:shg (some (.ar k2 es u hw ver)) id m len s k d st K=(k2=k/\s=hw/\0<=m/\m.toNat<=len/\len<=es.length/\Zfb d (.hd id [] 0 m.toNat none hw) (Zo st id (.ar k2 (es.take m.toNat) u hw (ver+1))) K):=(rfl)
def fzg(o:Option Ob)(len s:Nat)(d:Option Nat)(st1:St)(K:St->Prop):Prop :=
 match o with
 | some (.ar _ zs _ hw _)=>s=hw/\len=zs.length/\Zfb d (.tr (.sl zs)) st1 K
 | _=>False
def fzf(v:IV)(d:Option Nat)(st:St)(K:St->Prop):Prop :=
 match v with
 | .hd id [] 0 len none s=>id.1=st.lvl/\fzg (st.sto id) len s d (JU id st) K
 | _=>False
theorem Zwo:op2 C d (.fz x) ⟨lvl,env,loc,out⟩ K=fzf (xv env x) d ⟨lvl,env,loc,out⟩ K:=by
 rw[ZX rfl]
 simp only[ew]
 generalize xv env x=v
 unfold fzf
 split
 ·rename_i id len s
  simp only[fzg]
  generalize (⟨lvl,env,loc,out⟩:St).sto id=o
  cases o with
  | none=>rfl
  | some ob=>cases ob <;> rfl
 ·rename_i hv
  split
  ·exact(hv _ _ _ rfl).elim
  ·rfl
theorem Zuf{key len s:Nat}:fzf (.hd (lvl,key) [] 0 len none s) d ⟨lvl,env,loc,out⟩ K=fzg (lkO key loc) len s d (JU (lvl,key) ⟨lvl,env,loc,out⟩) K:=by
 simp only[fzf,true_and]
 rw[show (⟨lvl,env,loc,out⟩:St).sto (lvl,key)=lkO key loc from J8]
theorem Zug{len s k hw ver:Nat}{zs:Row}{u:Bool}:fzg (some (.ar k zs u hw ver)) len s d st K=(s=hw/\len=zs.length/\Zfb d (.tr (.sl zs)) st K):=(rfl)
def drp(o:Option Ob)(id:Oid)(st:St):St :=
 match o with
 | none=>st
 | some _=>JU id st
theorem ZpO{id:Oid}:drp none id st=st:=(rfl)
theorem ZpP{ob:Ob}{id:Oid}:drp (some ob) id st=JU id st:=(rfl)
def rkg(o:Option Ob)(len s:Nat)(id0:Oid)(d:Option Nat)(st1:St)(K:St->Prop):Prop :=
 match o with
 | some (.ar k zs u hw ver)=>s=hw/\len=zs.length/\Zfb d (.hd id0 [] 0 len none s) (Zo st1 id0 (.ar k zs u hw ver)) K
 | _=>False
def rkf(v:IV)(d:Option Nat)(st:St)(K:St->Prop):Prop :=
 match v with
 | .hd id [] 0 len none s=>id.1=st.lvl/\(st.lvl,keyOf d)≠id/\rkg (st.sto id) len s (st.lvl,keyOf d) d (JU id (ZcU (st.lvl,keyOf d) st)) K
 | _=>False
theorem Zwp:op2 C d (.rk x) ⟨lvl,env,loc,out⟩ K=rkf (xv env x) d ⟨lvl,env,loc,out⟩ K:=by
 rw[ZX rfl]
 simp only[ew]
 generalize xv env x=v
 unfold rkf
 split
 ·rename_i id len s
  simp only[rkg]
  generalize (⟨lvl,env,loc,out⟩:St).sto id=o
  cases o with
  | none=>rfl
  | some ob =>
   cases ob with
   | bx=>rfl
   | ar k2 es u hw ver=>simp only[ZbL]
 ·rename_i hv
  split
  ·exact(hv _ _ _ rfl).elim
  ·rfl
theorem Zuh{key len s:Nat}{t:Nat}:rkf (.hd (lvl,key) [] 0 len none s) (some t) ⟨lvl,env,loc,out⟩ K=(t*32≠key/\rkg (lkO key loc) len s (lvl,t*32) (some t) (JU (lvl,key) (drp (lkO (t*32) loc) (lvl,t*32) ⟨lvl,env,loc,out⟩)) K):=by
 simp only[rkf,true_and,ZcU,keyOf]
 rw[show (⟨lvl,env,loc,out⟩:St).sto (lvl,key)=lkO key loc from J8,show (⟨lvl,env,loc,out⟩:St).sto (lvl,t*32)=lkO (t*32) loc from J8]
 congr 1
 simp
theorem Zwq{key:Nat}{p x:X}:op2 C d (.gv key p x) ⟨lvl,env,loc,out⟩ K=(d=none/\gvf (xv env p) (xv env x) key ⟨lvl,env,loc,out⟩ K):=by
 rw[ZX rfl]
 simp only[ew]
theorem Zui{id:Oid}{off key key2 len s:Nat}:gvf (.ab id off) (.hd (lvl,key2) [] 0 len none s) key ⟨lvl,env,loc,out⟩ K=(id.1<lvl/\ZI lvl loc out (id.1,key)=none/\gvo (ZI lvl loc out id) (lkO key2 loc) id off key len s (lvl,key2) ⟨lvl,env,loc,out⟩ K):=by
 simp only[gvf,true_and]
 rw[show (⟨lvl,env,loc,out⟩:St).sto (lvl,key2)=lkO key2 loc from J8]
 rfl
theorem Zuj{cells:List IV}{k:Nat}{zs:Row}{u:Bool}{hw ver:Nat}{id id2:Oid}{off key len s:Nat}:gvo (some (.bx cells)) (some (.ar k zs u hw ver)) id off key len s id2 st K=(off+1<=cells.length/\s=hw/\len=zs.length/\K (Zo (Zo (JU id2 st) (id.1,key) (.ar k zs u hw ver)) id (.bx (QD cells off [.hd (id.1,key) [] 0 len none s])))):=(rfl)
theorem Zuk{len s k hw ver:Nat}{zs:Row}{u:Bool}{id0:Oid}:rkg (some (.ar k zs u hw ver)) len s id0 d st K=(s=hw/\len=zs.length/\Zfb d (.hd id0 [] 0 len none s) (Zo st id0 (.ar k zs u hw ver)) K):=(rfl)
theorem ZmZ{K:List IV->St->Prop}:Zkk [] st K=K [] st:=(rfl)
theorem Zm0{x:X}{r:List X}{K:List IV->St->Prop}:Zkk (x::r) st K=ZnA (xv st.env x) st fun t st1=>Zkk r st1 fun ts st2=>K (.ta t::ts) st2:=(rfl)
def ZqN(o:Option (List Tr×Bool))(F:List Tr->Prop)(H:Prop):Prop :=
 match o with
 | some (ts,_)=>F ts
 | none=>H
def Zul(o:Option Ob)(F:List Tr->Prop)(H:List IV->Prop):Prop :=
 match o with
 | some (.bx cells)=>ZqN (totrs cells) F (H cells)
 | _=>False
theorem ZpQ{ts:List Tr}{K:List Tr->St->Prop}:ZnA (.ta ts) st K=K ts st:=(rfl)
theorem ZpR{key:Nat}{K:List Tr->St->Prop}:ZnA (.ab (lvl,key) 0) ⟨lvl,env,loc,out⟩ K=Zul (lkO key loc) (fun ts=>K ts (JU (lvl,key) ⟨lvl,env,loc,out⟩)) (fun cells=>Ze9 cells ⟨lvl,env,loc,out⟩ fun ts st1=>K ts (JU (lvl,key) st1)):=by
 simp only[ZnA,true_and]
 rw[show (⟨lvl,env,loc,out⟩:St).sto (lvl,key)=lkO key loc from J8]
 generalize lkO key loc=o
 cases o with
 | none=>rfl
 | some ob =>
  cases ob with
  | ar=>rfl
  | bx cells =>
   simp only[Zul]
   generalize totrs cells=q
   cases q <;> rfl
theorem ZpS{cells:List IV}{F:List Tr->Prop}{H:List IV->Prop}:Zul (some (.bx cells)) F H=ZqN (totrs cells) F (H cells):=(rfl)
theorem ZpT{ts:List Tr}{q:Bool}{F:List Tr->Prop}{H:Prop}:ZqN (some (ts,q)) F H=F ts:=(rfl)
theorem Zm1{F:List Tr->Prop}{H:Prop}:ZqN none F H=H:=(rfl)
theorem Zjs{id:Oid}{p:Pth}{off len s:Nat}{cap:Option Nat}{r:List IV}:totrs (.hd id p off len cap s::r)=none:=(rfl)
theorem Zwr{f:Nat}{cs:List X}:op2 C d (.mz f cs) ⟨lvl,env,loc,out⟩ K=Zkk cs ⟨lvl,env,loc,out⟩ fun l st1=>Zfb d (.fn f l) st1 K:=by
 rw[ZX rfl]
 rfl
theorem Zm2{K:List Tr->St->Prop}:Ze9 [] st K=K [] st:=(rfl)
theorem Zm3{x:IV}{r:List IV}{K:List Tr->St->Prop}:Ze9 (x::r) st K=Zlt x st fun t st1=>Ze9 r st1 fun ts st2=>K (t::ts) st2:=(rfl)
def Zvc(o:Option Ob)(len s:Nat)(F:Row->Prop):Prop :=
 match o with
 | some (.ar _ zs _ hw _)=>s=hw/\len=zs.length/\F zs
 | _=>False
theorem Zm4{t:Tr}{K:Tr->St->Prop}:Zlt (.tr t) st K=K t st:=(rfl)
theorem Zm5{es:Row}{K:Tr->St->Prop}:Zlt (.cs es) st K=K (.sl es) st:=(rfl)
theorem Zm6{key len s:Nat}{K:Tr->St->Prop}:Zlt (.hd (lvl,key) [] 0 len none s) ⟨lvl,env,loc,out⟩ K=Zvc (lkO key loc) len s fun zs=>K (.sl zs) (JU (lvl,key) ⟨lvl,env,loc,out⟩):=by
 simp only[Zlt,true_and]
 rw[show (⟨lvl,env,loc,out⟩:St).sto (lvl,key)=lkO key loc from J8]
 generalize lkO key loc=o
 cases o with
 | none=>rfl
 | some ob=>cases ob <;> rfl
theorem ZpU{k len s hw ver:Nat}{zs:Row}{u:Bool}{F:Row->Prop}:Zvc (some (.ar k zs u hw ver)) len s F=(s=hw/\len=zs.length/\F zs):=(rfl)
def lzg(o:Option Ob)(off m:Nat)(d:Option Nat)(st:St)(K:St->Prop):Prop :=
 match o with
 | some (.bx cells)=>off+m<=cells.length/\Ze9 ((cells.drop off).take m) st fun ts st1=>Zfb d (.ag (ts.map .tr)) st1 K
 | _=>False
def lzf(v:IV)(m:Nat)(d:Option Nat)(st:St)(K:St->Prop):Prop :=
 match v with
 | .ab id off=>lzg (st.sto id) off m d st K
 | _=>False
theorem Zws{m:Nat}:op2 C d (.lz m x) ⟨lvl,env,loc,out⟩ K=lzf (xv env x) m d ⟨lvl,env,loc,out⟩ K:=by
 rw[ZX rfl]
 simp only[ew]
 generalize xv env x=v
 cases v <;> rfl
theorem Zum{key off m:Nat}:lzf (.ab (lvl,key) off) m d ⟨lvl,env,loc,out⟩ K=lzg (lkO key loc) off m d ⟨lvl,env,loc,out⟩ K:=by
 simp only[lzf]
 rw[show (⟨lvl,env,loc,out⟩:St).sto (lvl,key)=lkO key loc from J8]
theorem Zun{cells:List IV}{off m:Nat}:lzg (some (.bx cells)) off m d st K=(off+m<=cells.length/\Ze9 ((cells.drop off).take m) st fun ts st1=>Zfb d (.ag (ts.map .tr)) st1 K):=(rfl)
def clg(o:Option Ob)(id:Oid)(off len s k:Nat)(d:Option Nat)(st:St)(K:St->Prop):Prop :=
 match o with
 | some (.ar k2 es u hw ver)=>k2=k/\s=hw/\off+len=es.length/\Zfb d (.tu []) (Zo st id (.ar k2 (es.take off) u hw (ver+1))) K
 | _=>False
def clf(v:IV)(k:Nat)(d:Option Nat)(st:St)(K:St->Prop):Prop :=
 match v with
 | .hd id p off len _ s=>p=[]/\clg (st.sto id) id off len s k d st K
 | _=>False
theorem Zwt{k:Nat}{z:List Value}:op2 C d (.cl k z x) ⟨lvl,env,loc,out⟩ K=clf (xv env x) k d ⟨lvl,env,loc,out⟩ K:=by
 rw[ZX rfl]
 simp only[ew]
 generalize xv env x=v
 cases v <;> try rfl
 rename_i id p off len cap s
 simp only[clf,clg]
 generalize (⟨lvl,env,loc,out⟩:St).sto id=o
 cases o with
 | none=>simp
 | some ob =>
  cases ob with
  | bx=>simp
  | ar k2 es u hw ver=>simp only[ZbL]
theorem Zuo{id:Oid}{off len s k:Nat}{cap:Option Nat}:clf (.hd id [] off len cap s) k d ⟨lvl,env,loc,out⟩ K=clg (ZI lvl loc out id) id off len s k d ⟨lvl,env,loc,out⟩ K:=by
 simp only[clf,true_and]
 rfl
theorem Zup{id:Oid}{off len s k k2 hw ver:Nat}{es:Row}{u:Bool}:clg (some (.ar k2 es u hw ver)) id off len s k d st K=(k2=k/\s=hw/\off+len=es.length/\Zfb d (.tu []) (Zo st id (.ar k2 (es.take off) u hw (ver+1))) K):=(rfl)
def srk(off len:Nat)(F:Row->Prop)(es:Row)(_u:Bool)(_v:Nat):Prop:=off+len<=es.length/\F (cut es off len)
theorem Zuq{off len:Nat}{F:Row->Prop}{es:Row}{u:Bool}{v:Nat}:srk off len F es u v=(off+len<=es.length/\F (cut es off len)):=(rfl)
theorem ZpV{zs:Row}{F:Row->Prop}:ZiL st (.tr (.sl zs)) F=F zs:=(rfl)
theorem ZpW{zs:Row}{F:Row->Prop}:ZiL st (.cs zs) F=F zs:=(rfl)
theorem ZpX{id:Oid}{p:Pth}{off len s:Nat}{cap:Option Nat}{F:Row->Prop}:ZiL ⟨lvl,env,loc,out⟩ (.hd id p off len cap s) F=rd3 (ZI lvl loc out id) p s (srk off len F):=by
 rw[<-W3]
 rfl
def a3k(zs:Row)(k:Nat)(d:Option Nat)(st:St)(K:St->Prop)(items:Row):Prop :=
 items≠[]/\ScR items/\UnR k zs/\UnR k items/\zs.length+items.length<=bigN/\K ⟨st.lvl,ptd d (.tr (.sl (zs++items))) st.env,st.loc,st.out⟩
theorem Zur{zs items:Row}{k:Nat}:a3k zs k d ⟨lvl,env,loc,out⟩ K items=(items≠[]/\ScR items/\UnR k zs/\UnR k items/\zs.length+items.length<=bigN/\K ⟨lvl,ptd d (.tr (.sl (zs++items))) env,loc,out⟩):=(rfl)
def a3f(vx vy:IV)(k:Nat)(d:Option Nat)(st:St)(K:St->Prop):Prop :=
 match vx with
 | .cs zs=>ZiL st vy (a3k zs k d st K)
 | _=>False
theorem Zus{zs:Row}{vy:IV}{k:Nat}:a3f (.cs zs) vy k d st K=ZiL st vy (a3k zs k d st K):=(rfl)
theorem Zwu{k:Nat}{x y:X}:op2 C d (.a3 k x y) ⟨lvl,env,loc,out⟩ K=a3f (xv env x) (xv env y) k d ⟨lvl,env,loc,out⟩ K:=by
 rw[Jh rfl]
 simp only[ev]
 generalize xv env x=vx
 cases vx <;> try rfl
 rename_i zs
 have e:∀ items:Row,(items≠[]/\ScR items/\UnR k zs/\UnR k items/\zs.length+items.length<=bigN/\ZF (fun mk obs=>freshK (keyOf d) loc (obs lvl (keyOf d)).length/\K ⟨lvl,ptd d (mk lvl (keyOf d)) env,addO (keyOf d) (obs lvl (keyOf d)) loc,out⟩) (.tr (.sl (zs++items))))=a3k zs k d ⟨lvl,env,loc,out⟩ K items:=fun items=>by
  simp [a3k,ZF,freshK,addO]
 simp only[e]
 rfl
theorem Zwv{k:Nat}{x y:X}:op2 C d (.c0 k x y) ⟨lvl,env,loc,out⟩ K=op2 C d (.cy k x y) ⟨lvl,env,loc,out⟩ K:=by
 rw[ZX rfl,ZX rfl]
 exact propext ⟨Zhn,ZkE⟩
def cyk(es:Row)(u:Bool)(hw ver:Nat)(id:Oid)(off len k:Nat)(d:Option Nat)(st:St)(K:St->Prop)(zs:Row):Prop :=
 ScR zs/\UnR k zs/\Zfb d (iI (min zs.length len:Nat)) (Zo st id (.ar k (es.take off++zs.take len++es.drop (off+min zs.length len)) u hw (ver+1))) K
theorem Zut{es:Row}{u:Bool}{hw ver:Nat}{id:Oid}{off len k:Nat}{zs:Row}:cyk es u hw ver id off len k d st K zs=(ScR zs/\UnR k zs/\Zfb d (iI (min zs.length len:Nat)) (Zo st id (.ar k (es.take off++zs.take len++es.drop (off+min zs.length len)) u hw (ver+1))) K):=(rfl)
def cyg(o:Option Ob)(id:Oid)(off len s k:Nat)(v:IV)(d:Option Nat)(st:St)(K:St->Prop):Prop :=
 match o with
 | some (.ar k2 es u hw ver)=>k2=k/\s=hw/\off+len<=es.length/\ScR es/\ZiL st v (cyk es u hw ver id off len k d st K)
 | _=>False
def cyf(x v:IV)(k:Nat)(d:Option Nat)(st:St)(K:St->Prop):Prop :=
 match x with
 | .hd id p off len _ s=>p=[]/\cyg (st.sto id) id off len s k v d st K
 | _=>False
theorem Zww{k:Nat}:op2 C d (.cy k x y) ⟨lvl,env,loc,out⟩ K=cyf (xv env x) (xv env y) k d ⟨lvl,env,loc,out⟩ K:=by
 rw[ZX rfl]
 simp only[ew]
 generalize xv env x=v
 cases v <;> try rfl
 rename_i id p off len cap s
 simp only[cyf,cyg]
 generalize (⟨lvl,env,loc,out⟩:St).sto id=o
 cases o with
 | none=>simp
 | some ob =>
  cases ob with
  | bx=>simp
  | ar k2 es u hw ver =>
   dsimp only
   by_cases hk:k2=k
   ·subst hk
    have:(fun zs=>ScR zs/\UnR k2 zs/\K { Zo ⟨lvl,env,loc,out⟩ id (.ar k2 (es.take off++zs.take len++es.drop (off+min zs.length len)) u hw (ver+1)) with env:=ptd d (iI (min zs.length len:Nat)) env })=cyk es u hw ver id off len k2 d ⟨lvl,env,loc,out⟩ K:=by
     funext zs
     simp only[cyk,ZbL]
    rw[this]
   ·simp [hk]
theorem Zuu{id:Oid}{off len s k:Nat}{cap:Option Nat}{v:IV}:cyf (.hd id [] off len cap s) v k d ⟨lvl,env,loc,out⟩ K=cyg (ZI lvl loc out id) id off len s k v d ⟨lvl,env,loc,out⟩ K:=by
 simp only[cyf,true_and]
 rfl
theorem Zuv{id:Oid}{off len s k k2 hw ver:Nat}{es:Row}{u:Bool}{v:IV}:cyg (some (.ar k2 es u hw ver)) id off len s k v d st K=(k2=k/\s=hw/\off+len<=es.length/\ScR es/\ZiL st v (cyk es u hw ver id off len k d st K)):=(rfl)
end row
theorem ZpY{α:Type}{F:α->Prop}:op3 none F=False:=(rfl)
end
abbrev tv(n:Int):Tr:=.v (.int .i64 n)
abbrev ts(s:ByteArray):Tr:=.v (.string s)
abbrev rI(l:List Int):Row:=l.map fun n=>[tv n]
abbrev tI(l:List Int):IV:=.tr (.sl (rI l))
abbrev rS(l:List ByteArray):Row:=l.map fun n=>[ts n]
abbrev tS(l:List ByteArray):IV:=.tr (.sl (rS l))
theorem Zd(n:Int):WM .i64 n=(-9223372036854775808<=n/\n<=9223372036854775807):=by
 simp [WM,IntKind.min,IntKind.max,IntKind.signed,IntKind.bits]
theorem QK{α:Type}{k:Nat}(f:α->List Tr)(h:∀ x,(f x).length=k)(l:List α):UnR k (l.map f):=by
 intro e he
 obtain⟨x,_,rfl⟩:=List.mem_map.1 he
 exact h x
end Go.Fd

namespace Go.Fd
def In(w:World)(b:Nat):Prop:=b<w.heap.size
def Zm7(w:World)(cs:List Value)(ts:List Tr):Prop:=∀(j:Nat) (v:Value) (t:Tr),cs[j]? = some v->ts[j]? = some t->Rds w (In w) v t
def U7(P:Program)(t:TypeId){α:Type}(c:α->List Tr)(Q:α->Prop):Prop :=
 ∀(H:Type) (enc:TypeId×Value->H) (w:World) (sp:Nat->Bool) (hd:Bool) (fuel:Nat) (cs:List Value) (x:DataW H×List MemPlace),
  DataW.trod enc P w 0 sp hd fuel t cs=some x->∃ y,Q y/\Zm7 w cs (c y)
theorem Dx{w:World}{v:Value}{t:Tr}(h:Rds w (In w) v t):Zm7 w [v] [t]:=fun j v' t' h1 h2=>by
 match j with
 | 0=>simp at h1 h2;subst h1;subst h2;exact h
 | j+1=>simp at h1
theorem Zjt{P:Program}{t:TypeId}(ht:P.underlying t=some (.int .i64)):U7 P t (fun n:Int=>[tv n]) (WM .i64):=by
 intro H enc w sp hd fuel cs x h
 obtain⟨n,rfl,_,hw⟩:=DataW.trod_int ht h
 exact⟨n,by simpa [Lit.wf,WM] using hw,Dx (.v _ rfl)⟩
theorem Zfx{P:Program}{t:TypeId}(ht:P.underlying t=some .string):U7 P t (fun n:ByteArray=>[ts n]) (fun n=>n.size<=9223372036854775807):=by
 intro H enc w sp hd fuel cs x h
 obtain⟨n,rfl,_,hw⟩:=DataW.trod_string ht h
 exact⟨n,hw,Dx (.v _ rfl)⟩
theorem Zm8{w:World}{a:Addr}{v:Value}(h:w.cell? a=some v):a.block<w.heap.size:=by
 unfold World.cell? at h
 cases hh:w.heap[a.block]? with
 | none=>rw[hh] at h;cases h
 | some o=>exact(Array.getElem?_eq_some_iff.1 hh).1
theorem ZgF{α:Type}(n:Nat)(R:Nat->α->Prop)(h:∀ i,i<n->∃ y,R i y):∃ l:List α,l.length=n/\∀ i y,l[i]? = some y->R i y:=by
 induction n with
 | zero=>exact⟨[],rfl,fun i y h=>by simp at h⟩
 | succ n ih =>
  obtain⟨l,hl,hr⟩:=ih (fun i hi=>h i (by omega))
  obtain⟨y,hy⟩:=h n (by omega)
  refine⟨l++[y],by simp [hl],fun i z hz=>?_⟩
  by_cases hi:i<n
  ·rw[List.getElem?_append_left (by omega)] at hz;exact hr i z hz
  ·have hlt:=(List.getElem?_eq_some_iff.1 hz).1
   simp only[List.length_append,List.length_singleton] at hlt
   have:i=n:=by omega
   subst this
   rw[List.getElem?_append_right (by omega),hl,Nat.sub_self] at hz
   simp at hz
   exact hz ▸ hy
theorem ZgG{P:Program}{t e:TypeId}{k:Nat}{α:Type}{c:α->List Tr}{Q:α->Prop}(ht:P.underlying t=some (.slice e))(hk:P.cellsOf e=k+1)(hc:∀ x,(c x).length=k+1)
  (he:U7 P e c Q):U7 P t (fun l:List α=>[.sl (l.map c)]) (fun l=>l.length<=9223372036854775807/\∀ x∈l,Q x):=by
 intro H enc w sp hd fuel cs x h
 rcases DataW.trod_slice ht h with ⟨rfl,_⟩ | ⟨a,len,cap,elems,rest,n,_,rfl,_,_,hl,hm,hlen,hel,_,_⟩
 ·exact⟨[],⟨by simp,by simp⟩,Dx (.nil none 0)⟩
 ·have each:∀ i,i<len->∃ y,Q y/\∀ j t,(c y)[j]? = some t->∃ v,w.cell? (a.add (i*(k+1)+j))=some v/\Rds w (In w) v t:=fun i hi=>by
   have h1:=hel i hi
   rw[hk] at h1
   obtain⟨z,hz⟩:∃ z,elems[i]? = some z:=⟨elems[i]'(by omega),List.getElem?_eq_getElem _⟩
   rw[hz,Option.bind_eq_some_iff] at h1
   obtain⟨row,hrow,hx⟩:=h1
   obtain⟨y,hy,hr⟩:=he H enc w sp hd n row z hx
   obtain⟨_,hrl,hg⟩:=World.cells?_some hrow
   refine⟨y,hy,fun j t hj=>?_⟩
   have hjk:j<k+1:=by rw[<-hc y];exact(List.getElem?_eq_some_iff.1 hj).1
   have hv:row[j]? = some (row[j]'(by omega)):=List.getElem?_eq_getElem _
   have:=hg j hjk
   rw[hv] at this
   have e2:(a.add (i*(k+1))).add j=a.add (i*(k+1)+j):=by
    unfold Addr.add
    by_cases h0:i*(k+1)=0
    ·simp [h0]
    ·by_cases h1:j=0
     ·simp [h1,h0]
     ·have h2:¬ (i*(k+1)+j=0):=by omega
      simp only[if_neg h0,if_neg h1,if_neg h2,Addr.mk.injEq,and_true,true_and]
      omega
   rw[e2] at this
   exact⟨_,this,hr j _ t hv hj⟩
  obtain⟨l,hll,hlr⟩:=ZgF len _ each
  refine⟨l,⟨?_,fun y hy=>?_⟩,Dx ?_⟩
  ·rw[hll];exact Nat.le_trans hl hm
  ·obtain⟨i,hi⟩:=List.getElem?_of_mem hy
   exact(hlr i y hi).1
  ·by_cases h0:len=0
   ·have:l=[]:=List.eq_nil_of_length_eq_zero (by omega)
    subst this;subst h0
    exact .nil _ _
   ·obtain⟨y0,hy0⟩:∃ y0,l[0]? = some y0:=⟨l[0]'(by omega),List.getElem?_eq_getElem _⟩
    obtain⟨t0,ht0⟩:∃ t0,(c y0)[0]? = some t0:=⟨(c y0)[0]'(by rw[hc];omega),List.getElem?_eq_getElem _⟩
    obtain⟨v0,hv0,_⟩:=(hlr 0 y0 hy0).2 0 t0 ht0
    obtain⟨b,o,s⟩:=a
    have hs:s=none:=by simpa [Addr.add] using World.cell?_spot hv0
    subst hs
    have hb:b<w.heap.size:=by simpa [Addr.add] using Zm8 hv0
    have hel2:∀ i e j t,(l.map c)[i]? = some e->e[j]? = some t->∃ v,w.cell? ⟨b,o+i*(k+1)+j,none⟩=some v/\Rds w (In w) v t:=fun i e j t h1 h2=>by
     rw[List.getElem?_map,Option.map_eq_some_iff] at h1
     obtain⟨y,hy,rfl⟩:=h1
     obtain⟨v,hv,hr⟩:=(hlr i y hy).2 j t h2
     refine⟨v,?_,hr⟩
     rw[<-hv]
     congr 1
     unfold Addr.add
     by_cases h0:i*(k+1)+j=0
     ·have:o+i*(k+1)+j=o:=by omega
      rw[if_pos h0,this]
     ·rw[if_neg h0]
      have:o+i*(k+1)+j=o+(i*(k+1)+j):=by omega
      simp only[this]
    have hlm:(l.map c).length=len:=by simpa using hll
    have:=Rds.sl (w:=w) (A:=In w) b o cap (k+1) (l.map c) (fun i j=>(w.cell? ⟨b,o+i*(k+1)+j,none⟩).getD .nilFunc) hb
     (fun e he=>by simp only[List.mem_map] at he;obtain⟨y,_,rfl⟩:=he;exact hc y) (by omega)
     (fun i e j t h1 h2=>by obtain⟨v,hv,_⟩:=hel2 i e j t h1 h2;rw[hv];rfl)
     (fun i e j t h1 h2=>by obtain⟨v,hv,hr⟩:=hel2 i e j t h1 h2;rw[hv];exact hr)
    rw[hlm] at this
    exact this
def Zfy(P:Program)(o:Nat)(l:List (Nat×TypeId)){α:Type}(c:α->List Tr)(Q:α->Prop):Prop :=
 ∀(H:Type) (enc:TypeId×Value->H) (w:World) (sp:Nat->Bool) (hd:Bool) (fuel:Nat) (cs:List Value),
  (∀ p∈l,∃ x,DataW.trod enc P w 0 sp hd fuel p.2 ((cs.drop p.1).take (P.cellsOf p.2))=some x)->∃ y,Q y/\Zm7 w (cs.drop o) (c y)
theorem Zia{P:Program}{o:Nat}:Zfy P o [] (fun _:Unit=>[]) (fun _=>True):=fun H enc w sp hd fuel cs _=>⟨(),trivial,fun j v t _ h=>by simp at h⟩
theorem U8{P:Program}{o k:Nat}{t:TypeId}{l:List (Nat×TypeId)}{α β:Type}{c:α->List Tr}{Q:α->Prop}{c2:β->List Tr}{Q2:β->Prop}
  (hk:P.cellsOf t=k) (hc:∀ x,(c x).length=k) (h1:U7 P t c Q) (h2:Zfy P (o+k) l c2 Q2) :
  Zfy P o ((o,t)::l) (fun p:α×β=>c p.1++c2 p.2) (fun p=>Q p.1/\Q2 p.2):=fun H enc w sp hd fuel cs h=>by
 obtain⟨x,hx⟩:=h (o,t) (by simp)
 obtain⟨y,hy,hr⟩:=h1 _ _ _ _ _ _ _ _ hx
 obtain⟨y2,hy2,hr2⟩:=h2 H enc w sp hd fuel cs (fun p hp=>h p (by simp [hp]))
 refine⟨(y,y2),⟨hy,hy2⟩,fun j v t' hv ht=>?_⟩
 by_cases hj:j<k
 ·rw[List.getElem?_append_left (by rw[hc];exact hj)] at ht
  refine hr j v t' ?_ ht
  rw[hk,List.getElem?_take_of_lt hj]
  exact hv
 ·rw[List.getElem?_append_right (by rw[hc];omega),hc] at ht
  refine hr2 (j-k) v t' ?_ ht
  rw[List.getElem?_drop] at hv ⊢
  rw[<-hv]
  congr 1
  omega
theorem Zfz{P:Program}{t:TypeId}{fs:Array Field}{α:Type}{c:α->List Tr}{Q:α->Prop}(ht:P.underlying t=some (.struct fs))(h:Zfy P 0 (fs.toList.map fun f=>(f.offset,f.type)) c Q):U7 P t c Q:=by
 intro H enc w sp hd fuel cs x hx
 obtain⟨xs,n,_,_,_,hl,hf⟩:=DataW.trod_struct ht hx
 have:=h H enc w sp hd n cs (fun p hp=>by
  simp only[List.mem_map] at hp
  obtain⟨f,hf1,rfl⟩:=hp
  obtain⟨i,hi⟩:=List.getElem?_of_mem hf1
  have hi':fs[i]? = some f:=by simpa using hi
  have hlt:i<xs.length:=by rw[hl];exact(Array.getElem?_eq_some_iff.1 hi').1
  exact⟨_,(hf i f hi').trans (List.getElem?_eq_getElem hlt)⟩)
 simpa using this
theorem Zju{P:Program}{t:TypeId}{α β:Type}{c:α->List Tr}{Q:α->Prop}{c2:β->List Tr}{Q2:β->Prop}(g:α->β)(hg:∀ x,c2 (g x)=c x)(hq:∀ x,Q x->Q2 (g x))(h:U7 P t c Q):U7 P t c2 Q2:=by
 intro H enc w sp hd fuel cs x hx
 obtain⟨y,hy,hr⟩:=h H enc w sp hd fuel cs x hx
 exact⟨g y,hq y hy,by rw[hg];exact hr⟩
theorem Zk2{P:Program}{t:TypeId}{α β:Type}{c:α->List Tr}{Q:α->Prop}{c2:β->List Tr}{Q2:β->Prop}(h:U7 P t c Q)(g:α->β)(hg:∀ x,c2 (g x)=c x)(hq:∀ x,Q x->Q2 (g x)):U7 P t c2 Q2:=Zju g hg hq h
end Go.Fd

namespace Go.Fd
variable [Tabs]
open Go.RowKit
def G0:Gh:=fun _ _=>none
def S0:Sto:=fun _=>none
theorem Av0{w:World}{b:Nat}(h:In w b):Av G0 S0 w b:=⟨h,fun id ob hs=>by cases hs⟩
theorem ZfA{P:Program}{f:FuncId}{args:List IV}{b:Bool}{w:World}{vs:List Value}(h:Sem P f 0 args S0 (iB b) S0)(hv:VRs G0 S0 w args vs)(hg:Tabs.good w) :
  Calls P f vs.toArray w fun e w' => e = .returned (.bool b)/\Below w.heap.size w w':=by
 obtain⟨_,_,h⟩:=h
 refine(h (fun id ob hs=>by cases hs) G0 w vs ⟨fun id ob hs=>(nomatch hs),fun id ob id2 ob2 b2 hs=>(nomatch hs),fun id cells hs=>(nomatch hs)⟩ hv ⟨w,hg,Nat.le_refl _,fun b hb=>⟨⟨hb,fun id ob hs=>by cases hs⟩,rfl⟩⟩).mono ?_
 rintro e w' ⟨v,G',rfl,_,hr,_,hf⟩
 have hr':Rds w' (Av G' (Ve S0 0 0 (impv true 0 0 0 (iB b)).2) w') v (.v (.bool b)):=hr
 cases hr' with
 | v x hx =>
  exact⟨rfl,hf.os,hf.tape,hf.output,hf.size,fun k hk=>hf.old k hk (fun id ob hs=>by cases hs)⟩
theorem Zjv{P:Program}{w:World}{r:Reach}{base:Nat}{t e:TypeId}{v:Value}(ht:P.underlying t=some (.slice e))(h:Value.okWide P w r base t v):v.cells.toList=[v]:=by
 unfold Value.okWide at h
 rw[ht] at h
 simp only[Cell.okWide,ht,Cell.ok] at h
 cases v <;> first | rfl | exact absurd h (by simp)
section
variable {H:Type} {enc:TypeId×Value->H} {P:Program} {w:World} {t:TypeId} {v:Value} {d:DataW H} {p:List MemPlace} {α:Type} {c:α->List Tr} {Q:α->Prop} {sp:Nat->Bool} {hd:Bool} {base:Nat}
theorem Zk3{e:TypeId}{g:α->Tr}(hr:U7 P t (fun x=>[g x]) Q)(ht:P.underlying t=some (.slice e))(hok:Value.okWide P w .any base t v)(h:DataW.Trod enc P w 0 sp hd t v d p) :
  ∃ y,Q y/\VR G0 S0 w (.tr (g y)) v:=by
 obtain⟨n,hn⟩:=h
 rw[Zjv ht hok] at hn
 obtain⟨y,hy,hrow⟩:=hr H enc w sp hd n _ _ hn
 refine⟨y,hy,?_⟩
 simp only[VR]
 exact Rds.mono (fun b=>Av0) (fun b _=>rfl) (hrow 0 v _ rfl rfl)
end
theorem Zeh{H:Type}{enc:TypeId×Value->H}{P:Program}{f:Func}{s:ChangeSpec}{UI:Bool}{W W':World}{args:Array Value}{v:Value}{ds gs:List (DataW H)}{before pa pv:List MemPlace}
  (hW:DataW.Whole enc P f.params.toList s.vars UI W args.toList ds gs before) (hb:Below W.heap.size W W')
  (hres:DataW.TrodAll enc P W' W.heap.size (fun _=>false) false f.resultTypes.toList (v.resultList f.resultTypes.size) (s.fn H (ds++gs)).results [])
  (hargs:DataW.TrodAll enc P W' 0 (fun b=>decide (b<W.heap.size)) true f.params.toList args.toList (s.fn H (ds++gs)).args pa)
  (hvars:DataW.TrodVars enc P W' (fun b=>decide (b<W.heap.size)) s.vars (s.fn H (ds++gs)).vars pv) :
  s.post enc P f UI true false false W args v W' :=
 ⟨ds,gs,before,[],pa,pv,hW,hres,hargs,hvars,hb.frame _,fun h=>by cases h⟩
end Go.Fd

namespace Go.Fd
variable [Tabs]
open Go.RowKit
theorem ZfB{w w':World}(h:Below w.heap.size w w'):Ext w w':=⟨h.size,h.block,h.os,h.tape,h.output⟩
theorem Xc{G:Gh}{S:Sto}{w:World}:∀{xs vs:List Value},VRs G S w (xs.map fun v=>.tr (.v v)) vs->vs=xs
 | [],vs,h=>by simpa [VRs] using h
 | x::r,vs,h=>by
  simp only[List.map_cons,VRs] at h
  obtain⟨v,vr,rfl,h1,h2⟩:=h
  rw[Xc h2]
  have h1':Rds w (Av G S w) v (.v x):=h1
  cases h1'
  rfl
theorem Zjw{G:Gh}{S:Sto}{w:World}:∀{xs:List Value},(∀ x∈xs,WR x=true)->VRs G S w (xs.map fun v=>.tr (.v v)) xs
 | [],_=>by simp [VRs]
 | x::r,h=>by
  simp only[List.map_cons,VRs]
  exact⟨x,r,rfl,.v x (h x (by simp)),Zjw fun y hy=>h y (by simp [hy])⟩
theorem VN{P:Program}{f:FuncId}{lvl:Nat}{S:Sto}{args:List IV}{r:IV}(hc:Dn P f)(hi:impv true lvl 0 0 r=(r,[]))(hlow:low lvl r)
  (h:(∀ id ob,S id=some ob->id.1<lvl)->∀ G w vs,SOk G S w->VRs G S w args vs->Fix G S w->Calls P f vs.toArray w fun e w' => ∃ v,e = .returned v/\VR G S w' r v/\Below w.heap.size w w'):Sem P f lvl args S r S:=by
 refine⟨hlow,hc,fun hS G w vs hok hv hfx=>?_⟩
 refine(h hS G w vs hok hv hfx).mono ?_
 rintro e w' ⟨v,rfl,hr,hb⟩
 rw[hi]
 have e:Ext w w':=ZfB hb
 exact⟨v,G,rfl,hok.ext e,hr,hS,Frm.of_ext e⟩
theorem ZaG{P:Program}{f:FuncId}{lvl:Nat}{S:Sto}{args:List IV}{r:IV}(hc:Dn P f)(hi:impv true lvl 0 0 r=(r,[]))(hlow:low lvl r)
  (h:(∀ id ob,S id=some ob->id.1<lvl)->∀ G w vs,SOk G S w->VRs G S w args vs->Calls P f vs.toArray w fun e w' => ∃ v,e = .returned v/\VR G S w' r v/\Below w.heap.size w w'):Sem P f lvl args S r S :=
 VN hc hi hlow fun hS G w vs hok hv _=>h hS G w vs hok hv
theorem ZgH{P:Program}{f:FuncId}{lvl:Nat}{S:Sto}{xs:List Value}{y:Value}(hc:Dn P f)(hy:WR y=true)
  (h:∀ w,Calls P f xs.toArray w fun e w' => e = .returned y/\Below w.heap.size w w'):Sem P f lvl (xs.map fun v=>.tr (.v v)) S (.tr (.v y)) S:=by
 refine ZaG hc rfl trivial fun _ G w vs _ hv=>?_
 rw[Xc hv]
 exact(h w).mono fun e w' ⟨h1,h2⟩=>⟨y,h1,.v y hy,h2⟩
end Go.Fd

namespace Go.Fd
def pts:List (Nat×IV)->List (Nat×IV)->List (Nat×IV)
 | [],env=>env
 | (t,x)::r,env=>pts r (pt t x env)
def ZnD:List (Nat×Ob)->List (Nat×Ob)->List (Nat×Ob)
 | [],loc=>loc
 | (t,x)::r,loc=>ZnD r (ptO t x loc)
def chg(ce:List (Nat×IV))(co:List (Nat×Ob))(s:St):St:=⟨s.lvl,pts ce s.env,ZnD co s.loc,s.out⟩
section
variable {C:Zj} {lvl:Nat} {env:List (Nat×IV)} {loc:List (Nat×Ob)} {out:Sto} {st:St} {Q:Ex->St->Prop}
theorem Zuw{ce:List (Nat×IV)}{co:List (Nat×Ob)}:chg ce co ⟨lvl,env,loc,out⟩=⟨lvl,pts ce env,ZnD co loc,out⟩:=(rfl)
theorem ZpZ:pts [] env=env:=(rfl)
theorem Zp0{t:Nat}{x:IV}{r:List (Nat×IV)}:pts ((t,x)::r) env=pts r (pt t x env):=(rfl)
theorem Zm9:ZnD [] loc=loc:=(rfl)
theorem Zna{t:Nat}{x:Ob}{r:List (Nat×Ob)}:ZnD ((t,x)::r) loc=ZnD r (ptO t x loc):=(rfl)
theorem ZE{α:Type}{ks js:List Nat}{c:C2}(N:Nat)(ce:Nat->α->List (Nat×IV))(co:Nat->α->List (Nat×Ob))(A:Nat->α->Prop)(x0:α)
  (h1:clean ks js st) (h0:fgt ks js st=chg (ce 0 x0) (co 0 x0) (fgt ks js st)) (hA:A 0 x0)
  (hs:∀ k x,k<=N->A k x->wp C c (chg (ce k x) (co k x) (fgt ks js st)) (Zci ks js (ZtD N (fun k x=>chg (ce k x) (co k x) (fgt ks js st)) A (N-k)) Q)):wp C (.lp ks js c) st Q :=
 JG N (fun k x=>chg (ce k x) (co k x) (fgt ks js st)) A x0 ⟨h1,h0⟩ hA hs
end
section
variable {L:Sto} {F:List IV->Prop} {r:List IV}
def Zvd(L:Sto)(r:List IV)(F:List IV->Prop)(y:IV):Prop:=Z7 L r (kcn y F)
theorem Zp1{y:IV}:Zvd L r F y=Z7 L r (kcn y F):=(rfl)
theorem Zux{id:Oid}{off:Nat}:Z7 L (.ab id off::r) F=ZdM (L id) L off (Zvd L r F):=by simp only[Z7,Qb];rfl
def kta(F:IV->Prop)(ts:List Tr):Prop:=F (.ta ts)
theorem Zuy{F:IV->Prop}{ts:List Tr}:kta F ts=F (.ta ts):=(rfl)
theorem Zuz{cells:List IV}{off:Nat}{F:IV->Prop}:ZdM (some (.bx cells)) L off F=Vg L (cells.drop off) (kta F):=(rfl)
def kct(t:Tr)(F:List Tr->Prop)(ts:List Tr):Prop:=F (t::ts)
theorem ZuA{t:Tr}{F:List Tr->Prop}{ts:List Tr}:kct t F ts=F (t::ts):=(rfl)
def Zve(L:Sto)(r:List IV)(F:List Tr->Prop)(t:Tr):Prop:=Vg L r (kct t F)
theorem Zp2{F:List Tr->Prop}{t:Tr}:Zve L r F t=Vg L r (kct t F):=(rfl)
theorem Zp3{F:List Tr->Prop}:Vg L [] F=F []:=(rfl)
theorem Zp4{x:IV}{F:List Tr->Prop}:Vg L (x::r) F=Dg L x (Zve L r F):=(rfl)
theorem Zp5{t:Tr}{F:Tr->Prop}:Dg L (.tr t) F=F t:=(rfl)
theorem Zp6{es:Row}{F:Tr->Prop}:Dg L (.cs es) F=F (.sl es):=(rfl)
def Zvf(off len:Nat)(F:Tr->Prop)(es:Row)(_u:Bool)(_v:Nat):Prop:=off+len<=es.length/\F (.sl (cut es off len))
theorem Zp7{off len:Nat}{F:Tr->Prop}{es:Row}{u:Bool}{v:Nat}:Zvf off len F es u v=(off+len<=es.length/\F (.sl (cut es off len))):=(rfl)
theorem Zp8{id:Oid}{p:Pth}{off len s:Nat}{cap:Option Nat}{F:Tr->Prop}:Dg L (.hd id p off len cap s) F=rd3 (L id) p s (Zvf off len F):=by rw[<-W3];rfl
end
theorem Zp9{α:Type}{x:α}:List.replicate 1 x=[x]:=(rfl)
theorem Zqa{e:List Tr}:cut [e] 0 1=[e]:=(rfl)
theorem Zqb{l:List Tr}:ScR [l]=(l.all isSc=true):=by
 apply propext
 constructor
 ·intro h
  exact List.all_eq_true.2 fun t ht=>h l (by simp) t ht
 ·intro h e he t ht
  simp only[List.mem_singleton] at he
  subst he
  exact List.all_eq_true.1 h t ht
theorem Zqc{k:Nat}{l:List Tr}:UnR k [l]=(l.length=k):=by
 apply propext
 constructor
 ·intro h;exact h l (by simp)
 ·intro h e he
  simp only[List.mem_singleton] at he
  rw[he,h]
theorem ZuB{j:Nat}:max j (j+1)=j+1:=by omega
theorem ZuC{j:Nat}:(j<j+1)=True:=by simp
end Go.Fd

namespace Go.Fd
open Go.RowKit Go.ChangeShapes Go.ChangeMaps Go.WideMaps
section
variable {H:Type} {enc:TypeId×Value->H} {P:Program} {w:World} {t:TypeId} {v:Value} {d:DataW H} {p:List MemPlace} {sp:Nat->Bool} {hd:Bool} {base:Nat}
theorem Zjx(ht:P.underlying t=some .string)(hok:Value.okWide P w .any base t v)(h:DataW.Trod enc P w 0 sp hd t v d p):∃ s:ByteArray,s.size<=9223372036854775807/\VR G0 S0 w (iS s) v:=by
 obtain⟨s,rfl,_,_,hs⟩:=open_string ht hok h
 refine⟨s,?_,.v _ rfl⟩
 unfold maxLen at hs
 omega
end
end Go.Fd

namespace Go.Fd
set_option linter.defProp false in
def EV0:=(And.intro (And.intro (And.intro (And.intro (And.intro @Zn7 @ZrI) (And.intro @Zn8 (And.intro @Zn9 @Zoa))) (And.intro (And.intro @Zob @Zoc) (And.intro @Zod (And.intro @Zoe @ZrJ)))) (And.intro (And.intro (And.intro @ZrK @ZrL) (And.intro @Zvs (And.intro @Zvt @Zvu))) (And.intro (And.intro @Zvv @Zvw) (And.intro @Zvx (And.intro @Zvy @Zvz))))) (And.intro (And.intro (And.intro (And.intro @ZrM @ZrN) (And.intro @ZrO (And.intro @Zof @ZvA))) (And.intro (And.intro @ZrP @ZrQ) (And.intro @ZvB (And.intro @ZrR @Zog)))) (And.intro (And.intro (And.intro @ZvC @ZrS) (And.intro @ZvD (And.intro @ZrT @ZvE))) (And.intro (And.intro @ZrU @ZvF) (And.intro @ZvG (And.intro @ZvH @ZkN))))))
set_option linter.defProp false in
def EV1:=(And.intro (And.intro (And.intro (And.intro (And.intro @ZkO @ZrV) (And.intro @Zmo (And.intro @ZvI @ZrW))) (And.intro (And.intro @ZvJ @Zoi) (And.intro @Zoj (And.intro @Zok @Zol)))) (And.intro (And.intro (And.intro @Zom @Zon) (And.intro @ZrX (And.intro @ZrY @ZrZ))) (And.intro (And.intro @Zr0 @Zr1) (And.intro @Zr2 (And.intro @Zr3 @Zr4))))) (And.intro (And.intro (And.intro (And.intro @Zr5 @Zr6) (And.intro @Zr7 (And.intro @Zr8 @Zr9))) (And.intro (And.intro @Zsa @Zsb) (And.intro @Zsc (And.intro @Zoo @Zop)))) (And.intro (And.intro (And.intro @Zoq @Zsd) (And.intro @Zse (And.intro @Zsf @Zsg))) (And.intro (And.intro @ZvK @ZvL) (And.intro @Zsh (And.intro @ZvM @Zsi))))))
set_option linter.defProp false in
def EV2:=(And.intro (And.intro (And.intro (And.intro (And.intro @ZvN @Zsj) (And.intro @Zsk (And.intro @Zsl @Zsm))) (And.intro (And.intro @ZvO @Zsn) (And.intro @ZvP (And.intro @Zso @Zsp)))) (And.intro (And.intro (And.intro @Zsq @ZvQ) (And.intro @Zsr (And.intro @ZvR @ZvS))) (And.intro (And.intro @Zss @Zst) (And.intro @ZvT (And.intro @Zsu @Zsv))))) (And.intro (And.intro (And.intro (And.intro @Zsw @ZvU) (And.intro @Zsx (And.intro @ZvV @Zsy))) (And.intro (And.intro @Zsz @ZsA) (And.intro @ZvW (And.intro @ZsB @ZsC)))) (And.intro (And.intro (And.intro @ZsD @ZvX) (And.intro @ZsE (And.intro @ZsF @ZsG))) (And.intro (And.intro @ZvY @ZsH) (And.intro @ZsI (And.intro @ZsJ @ZsK))))))
set_option linter.defProp false in
def EV3:=(And.intro (And.intro (And.intro (And.intro (And.intro @ZsL @ZkP) (And.intro @ZkQ (And.intro @ZsM @Zor))) (And.intro (And.intro @ZsN @ZvZ) (And.intro @ZsO (And.intro @ZsP @ZsQ)))) (And.intro (And.intro (And.intro @ZsR @Zv0) (And.intro @ZsS (And.intro @Zv1 @ZsT))) (And.intro (And.intro @ZsU @J8) (And.intro @ZaF (And.intro @Zos @ZsV))))) (And.intro (And.intro (And.intro (And.intro @UQ @ZsW) (And.intro @ZsX (And.intro @ZsY @Zot))) (And.intro (And.intro @Zou @Zow) (And.intro @Zmp (And.intro @Zv2 @ZsZ)))) (And.intro (And.intro (And.intro @Zs0 @Zs1) (And.intro @Zs2 (And.intro @Zox @Zs3))) (And.intro (And.intro @Zs4 @Zs5) (And.intro @Zs6 (And.intro @Zs7 @Zoy))))))
set_option linter.defProp false in
def EV4:=(And.intro (And.intro (And.intro (And.intro (And.intro @Zoz @Zs8) (And.intro @ZoA (And.intro @ZoB @Zv3))) (And.intro (And.intro @Zs9 @Zta) (And.intro @Ztb (And.intro @Ztc @ZoC)))) (And.intro (And.intro (And.intro @Zv4 @Ztd) (And.intro @Zv5 (And.intro @Zte @Ztf))) (And.intro (And.intro @Ztg @Zv6) (And.intro @Zth (And.intro @Zti @Ztj))))) (And.intro (And.intro (And.intro (And.intro @ZoD @ZoE) (And.intro @ZoF (And.intro @ZoG @Zmq))) (And.intro (And.intro @ZoH @Ztk) (And.intro @Ztl (And.intro @Ztm @ZoI)))) (And.intro (And.intro (And.intro @Ztn @Zto) (And.intro @Ztp (And.intro @Zv7 @Ztq))) (And.intro (And.intro @Ztr @ZoJ) (And.intro @Zts (And.intro @ZoK @Ztt))))))
set_option linter.defProp false in
def EV5:=(And.intro (And.intro (And.intro (And.intro (And.intro @ZoL @Ztu) (And.intro @ZoM (And.intro @Ztv @ZoN))) (And.intro (And.intro @ZoO @ZoP) (And.intro @Ztw (And.intro @Zmr @Zms)))) (And.intro (And.intro (And.intro @Ztx @ZoQ) (And.intro @ZoR (And.intro @ZoS @ZoT))) (And.intro (And.intro @ZoU @Zty) (And.intro @ZoV (And.intro @Ztz @ZoW))))) (And.intro (And.intro (And.intro (And.intro @Zmt @Zmu) (And.intro @Zmv (And.intro @Zmw @Zmx))) (And.intro (And.intro @Zmy @Zmz) (And.intro @ZtA (And.intro @ZkR @ZkS)))) (And.intro (And.intro (And.intro @ZmA @ZmB) (And.intro @ZmC (And.intro @ZmD @ZkT))) (And.intro (And.intro @ZkU @ZkV) (And.intro @ZkW (And.intro @ZkX @ZkY))))))
set_option linter.defProp false in
def EV6:=(And.intro (And.intro (And.intro (And.intro (And.intro @ZmE @ZmF) (And.intro @ZmG (And.intro @ZoX @ZoY))) (And.intro (And.intro @ZtB @ZmH) (And.intro @ZoZ (And.intro @Zo0 @ZmI)))) (And.intro (And.intro (And.intro @Zo1 @Zo2) (And.intro @Zo3 (And.intro @Zo4 @Zo5))) (And.intro (And.intro @Zo6 @Zo7) (And.intro @ZmJ (And.intro @ZmK @ZmL))))) (And.intro (And.intro (And.intro (And.intro @ZmM @Zo8) (And.intro @Zo9 (And.intro @Zpa @Zpb))) (And.intro (And.intro @Zpc @ZkZ) (And.intro @Zk0 (And.intro @Zk1 @Zv8)))) (And.intro (And.intro (And.intro @ZtE @ZtF) (And.intro @ZtG (And.intro @Zl @Zn))) (And.intro (And.intro @ZmN @ZmO) (And.intro @Zpd (And.intro @Zpe @Zpf))))))
set_option linter.defProp false in
def EV7:=(And.intro (And.intro (And.intro (And.intro (And.intro @Zpg @Zph) (And.intro @Zpi (And.intro @Zpj @Zpk))) (And.intro (And.intro @Zpl @ZmP) (And.intro @ZtH (And.intro @ZmQ @ZmR)))) (And.intro (And.intro (And.intro @ZtI @ZtJ) (And.intro @ZtK (And.intro @ZtL @Zpm))) (And.intro (And.intro @Zpn @Zpo) (And.intro @ZtM (And.intro @Zv9 @ZtN))))) (And.intro (And.intro (And.intro (And.intro @ZtO @ZtP) (And.intro @ZtQ (And.intro @ZtR @ZmS))) (And.intro (And.intro @ZmT @Zpp) (And.intro @Zpq (And.intro @Zpr @Zps)))) (And.intro (And.intro (And.intro @ZtS @Zpu) (And.intro @ZmU (And.intro @ZmV @Zpv))) (And.intro (And.intro @Zpw @Zwa) (And.intro @Zwb (And.intro @ZmW @ZmX))))))
set_option linter.defProp false in
def EV8:=(And.intro (And.intro (And.intro (And.intro (And.intro @Zwc @Zwd) (And.intro @ZtT (And.intro @ZtU @Zwe))) (And.intro (And.intro @Zwf @ZtV) (And.intro @ZtW (And.intro @ZtX @ZtY)))) (And.intro (And.intro (And.intro @ZtZ @Zwg) (And.intro @Zt0 (And.intro @Zt1 @Zpx))) (And.intro (And.intro @Zpy @Zwh) (And.intro @Zpz (And.intro @ZpA @ZpB))))) (And.intro (And.intro (And.intro (And.intro @ZpC @ZpD) (And.intro @Zwi (And.intro @Zwj @ZpE))) (And.intro (And.intro @ZpF @ZpG) (And.intro @Zt2 (And.intro @Zwk @Zt3)))) (And.intro (And.intro (And.intro @Zt4 @ZpH) (And.intro @ZpI (And.intro @Zt5 @ZpJ))) (And.intro (And.intro @ZpK @Zt6) (And.intro @ZpL (And.intro @Zt8 @ZpM))))))
set_option linter.defProp false in
def EV9:=(And.intro (And.intro (And.intro (And.intro (And.intro @ZmY @Zeg) (And.intro @Zwl (And.intro @Zt9 @Zua))) (And.intro (And.intro @ZpN @Zwm) (And.intro @Zub (And.intro @Zwn @Zuc)))) (And.intro (And.intro (And.intro @Zud @Zue) (And.intro @Zwo (And.intro @Zuf @Zug))) (And.intro (And.intro @ZpO @ZpP) (And.intro @Zwp (And.intro @Zuh @Zwq))))) (And.intro (And.intro (And.intro (And.intro @Zui @Zuj) (And.intro @Zuk (And.intro @ZmZ @Zm0))) (And.intro (And.intro @ZpQ @ZpR) (And.intro @ZpS (And.intro @ZpT @Zm1)))) (And.intro (And.intro (And.intro @Zjs @Zwr) (And.intro @Zm2 (And.intro @Zm3 @Zm4))) (And.intro (And.intro @Zm5 @Zm6) (And.intro @ZpU (And.intro @Zws @Zum))))))
set_option linter.defProp false in
def Zwx:=(And.intro (And.intro (And.intro (And.intro (And.intro @Zun @Zwt) (And.intro @Zuo (And.intro @Zup @Zuq))) (And.intro (And.intro @ZpV @ZpW) (And.intro @ZpX (And.intro @Zur @Zus)))) (And.intro (And.intro (And.intro @Zwu @Zwv) (And.intro @Zut (And.intro @Zww @Zuu))) (And.intro (And.intro @Zuv @ZpY) (And.intro @Zuw (And.intro @ZpZ @Zp0))))) (And.intro (And.intro (And.intro (And.intro @Zm9 @Zna) (And.intro @Zp1 (And.intro @Zux @Zuy))) (And.intro (And.intro @Zuz @ZuA) (And.intro @Zp2 (And.intro @Zp3 @Zp4)))) (And.intro (And.intro (And.intro @Zp5 @Zp6) (And.intro @Zp7 (And.intro @Zp8 @Zp9))) (And.intro (And.intro @Zqa @Zqb) (And.intro @Zqc (And.intro @ZuB @ZuC))))))
set_option linter.defProp false in
def Zwy:=(And.intro (And.intro (And.intro (And.intro (And.intro @bigN.eq_1 @fpart.eq_1) (And.intro @fpart.eq_2 (And.intro @okp.eq_1 @okp.eq_2))) (And.intro (And.intro @zfill.eq_1 @zfill.eq_2) (And.intro @zobs.eq_1 (And.intro @ptd.eq_1 @ptd.eq_2)))) (And.intro (And.intro (And.intro @keyOf.eq_1 @keyOf.eq_2) (And.intro @freshK.eq_1 (And.intro @freshK.eq_2 @lk.eq_1))) (And.intro (And.intro @lk.eq_2 @pt.eq_1) (And.intro @pt.eq_2 (And.intro @lkO.eq_1 @lkO.eq_2))))) (And.intro (And.intro (And.intro (And.intro @ptO.eq_1 @ptO.eq_2) (And.intro @addO.eq_1 (And.intro @addO.eq_2 @xv.eq_1))) (And.intro (And.intro @xv.eq_2 @xv.eq_3) (And.intro @kv.eq_1 (And.intro @kv.eq_2 @kc.eq_1)))) (And.intro (And.intro (And.intro @kc.eq_2 @params.eq_1) (And.intro @params.eq_2 (And.intro @trv.eq_1 @trv.eq_2))) (And.intro (And.intro @List.length_cons.{0} @List.length_nil.{0}) (And.intro @Option.getD_some.{0} (And.intro @Option.getD_none.{0} @true_and))))))
set_option linter.defProp false in
def Zwz:=(And.intro (And.intro (And.intro (And.intro (And.intro @and_true @decide_eq_true_eq) (And.intro @decide_true (And.intro @decide_false @Option.map_some.{0,0}))) (And.intro (And.intro @Option.map_none.{0,0} @Option.isSome_some.{0}) (And.intro @Option.isSome_none.{0} (And.intro @Option.isNone_some.{0} @Option.isNone_none.{0})))) (And.intro (And.intro (And.intro @List.map_cons.{0,0} @List.map_nil.{0,0}) (And.intro @List.cons_append.{0} (And.intro @List.nil_append.{0} @List.getElem?_cons_zero.{0}))) (And.intro (And.intro @List.getElem?_cons_succ.{0} @List.drop_succ_cons.{0}) (And.intro @List.drop_zero.{0} (And.intro @List.take_succ_cons.{0} @List.take_zero.{0}))))) (And.intro (And.intro (And.intro (And.intro @List.headD_cons.{0} @List.headD_nil.{0}) (And.intro @List.tail_cons.{0} (And.intro @List.tail_nil.{0} @noSh.eq_1))) (And.intro (And.intro @noSh.eq_2 @noSh.eq_3) (And.intro @noSh.eq_4 (And.intro @noSh.eq_5 @noSh.eq_6)))) (And.intro (And.intro (And.intro @noSh.eq_7 @noSh.eq_8) (And.intro @noShs.eq_1 (And.intro @noShs.eq_2 @isSc.eq_1))) (And.intro (And.intro @isSc.eq_2 @impv.eq_1) (And.intro @impv.eq_2 (And.intro @impv.eq_3 @impv.eq_4))))))
set_option linter.defProp false in
def ZwA:=(And.intro (And.intro (And.intro (And.intro (And.intro @impvs.eq_1 @impvs.eq_2) (And.intro @impc.eq_1 (And.intro @impc.eq_2 @memB.eq_1))) (And.intro (And.intro @memB.eq_2 @keepB.eq_1) (And.intro @keepB.eq_2 (And.intro @keepOB.eq_1 @keepOB.eq_2)))) (And.intro (And.intro (And.intro @or_true @true_or) (And.intro @or_false (And.intro @false_or @Bool.false_eq_true))) (And.intro (And.intro @Bool.true_eq_false @if_true.{1}) (And.intro @if_false.{1} (And.intro @Bool.not_true @Bool.not_false))))) (And.intro (And.intro (And.intro (And.intro @scrE.eq_1 @scrE.eq_2) (And.intro @scrL.eq_1 (And.intro @scrL.eq_2 @scr.eq_1))) (And.intro (And.intro @scr.eq_2 @scr.eq_3) (And.intro @scr.eq_4 (And.intro @scr.eq_5 @scr.eq_6)))) (And.intro (And.intro (And.intro @scr.eq_7 @scr.eq_8) (And.intro @scrs.eq_1 (And.intro @scrs.eq_2 @scrOb.eq_1))) (And.intro (And.intro @scrOb.eq_2 @rmO.eq_1) (And.intro @rmO.eq_2 (And.intro @Int.toNat_natCast @Int.toNat_zero))))))
set_option linter.defProp false in
def ZwB:=(And.intro (And.intro (And.intro (And.intro (And.intro @Int.toNat_one @List.all_cons.{0}) (And.intro @List.all_nil.{0} (And.intro @isCell.eq_1 @isCell.eq_2))) (And.intro (And.intro @isCell.eq_3 @isCell.eq_4) (And.intro @isCell.eq_5 (And.intro @isCell.eq_6 @Bool.and_true)))) (And.intro (And.intro (And.intro @Bool.true_and @Bool.and_self) (And.intro @cellsOf.eq_1 (And.intro @cellsOf.eq_2 @totr.eq_1))) (And.intro (And.intro @totr.eq_2 @totr.eq_3) (And.intro @totr.eq_4 (And.intro @totr.eq_5 @totrs.eq_1))))) (And.intro (And.intro (And.intro (And.intro @totrs.eq_2 @tocs.eq_1) (And.intro @getp.eq_1 (And.intro @getp.eq_2 @cvt.eq_1))) (And.intro (And.intro @cvt.eq_2 @cvts.eq_1) (And.intro @cvts.eq_2 (And.intro @Nat.zero_add @Nat.add_zero)))) (And.intro (And.intro (And.intro @List.set_cons_zero.{0} @List.set_cons_succ.{0}) (And.intro @Bool.not_eq_true' (And.intro @Bool.not_eq_false' @Int.natCast_nonneg))) (And.intro (And.intro @Nat.le_refl @Prod.mk.injEq.{0,0}) (And.intro @ne_eq.{1} (And.intro @not_false_eq_true @not_true_eq_false))))))
set_option linter.defProp false in
def ZwC:=(And.intro (And.intro @List.length_map.{0,0} (And.intro @List.length_replicate.{0} @List.replicate_zero.{0})) (And.intro (And.intro @and_false @false_and) (And.intro @and_self @Int.cast_ofNat_Int)))
set_option linter.defProp false in
def EVA:=(And.intro (And.intro (And.intro (And.intro EV0 EV1) (And.intro EV2 EV3)) (And.intro (And.intro EV4 EV5) (And.intro EV6 EV7))) (And.intro (And.intro (And.intro EV8 EV9) (And.intro Zwx Zwy)) (And.intro (And.intro Zwz ZwA) (And.intro ZwB ZwC))))
abbrev oo(d:Nat)(x:O):OP:=⟨some d,none,x⟩
abbrev on1(x:O):OP:=⟨none,none,x⟩
abbrev og(d j:Nat)(w:Bool)(x:O):OP:=⟨some d,some (j,w),x⟩
abbrev om(d:Nat)(x:X):OP:=⟨some d,none,.mv x none⟩
abbrev rg(l:List OP):C2:=.rg none l
abbrev i6(n:Int):X:=.k (.int .i64 n)
end Go.Fd

namespace Go.Fd
def Znb(P:Program)(w:World):Prop:=Go.Lib.TabIs P w "internal/strconv.uint64pow10" .u64 Go.Lib.pow10Tab/\(∃ m,w.cell? ⟨0,0,none⟩=some (.int .i64 m))/\(∃ t p,w.var? P "strconv.ErrSyntax" = some #[.iface t p])/\∃ t p,w.var? P "strconv.ErrRange" = some #[.iface t p]
instance tabsP:Tabs:=⟨Znb Proofs.Tryz.prog⟩
end Go.Fd

namespace Go.Fd
set_option maxRecDepth 10000
theorem Zk{c:Prop}[Decidable c]{p q:Prop}(h1:c->p)(h2:¬ c->q):if c then p else q:=by
 split
 ·exact h1 ‹_›
 ·exact h2 ‹_›
def szF{α:Type}(f:α->Int->Int):List α->Int->Int
 | [],l=>l
 | x::r,l=>if f x l<0 then -1 else szF f r (f x l)
def szL{α:Type}(f:α->Int->Int)(a:List α)(left:Int):Int:=if left-a.length<0 then -1 else szF f a (left-a.length)
def ZuD(k:Nat)(m:Option Nat)(fid:FuncId):F2 :=
 { nt:=27,res:=[.t 4 [0]],body:=(.sq (.rg none [⟨some 4,none,.mv (.k (.int .i64 0)) none⟩]) (.sq (.rg none [⟨some 6,none,.mv (.t 1) none⟩,
   ⟨some 7,none,.mv (.t 0) none⟩,
   ⟨some 8,none,.ln (.t 7)⟩,
   ⟨some 9,none,.bi .sub 0 (.t 6) (.t 8)⟩,
   ⟨some 1,none,.mv (.t 9) none⟩]) (.sq (.sq (.rg none [⟨some 10,none,.mv (.t 1) none⟩,
    ⟨some 11,none,.bi .lss 0 (.t 10) (.k (.int .i64 0))⟩]) (.cd (.t 11) (.sq (.rg none [⟨some 4,none,.mv (.k (.int .i64 (-1))) none⟩]) (.rt)) (.sk))) (.sq (.sq (.rg none [⟨some 5,none,.mv (.k (.int .i64 0)) none⟩]) (.bl 0 (.lp [0,1,5] [] (.sq (.sq (.rg none [⟨some 12,none,.mv (.t 5) none⟩,
     ⟨some 13,none,.mv (.t 0) none⟩,
     ⟨some 14,none,.ln (.t 13)⟩,
     ⟨some 15,none,.bi .lss 0 (.t 12) (.t 14)⟩]) (.cd (.t 15) (.sk) (.ex 0))) (.sq (.bl 1 (.sq (.rg none [⟨some 18,none,.mv (.t 0) none⟩,
      ⟨some 19,none,.mv (.t 5) none⟩,
      ⟨some 20,none,.ia k (.t 18) (.t 19)⟩,
      ⟨some 21,none,.ld m (.t 20)⟩,
      ⟨some 22,none,.mv (.t 1) none⟩,
      ⟨some 23,none,.ca .pure false (.f fid) [.t 21,.t 22]⟩,
      ⟨some 1,none,.mv (.t 23) none⟩]) (.sq (.rg none [⟨some 24,none,.mv (.t 1) none⟩,
      ⟨some 25,none,.bi .lss 0 (.t 24) (.k (.int .i64 0))⟩]) (.cd (.t 25) (.sq (.rg none [⟨some 4,none,.mv (.k (.int .i64 (-1))) none⟩]) (.rt)) (.sk))))) (.rg none [⟨some 16,none,.mv (.t 5) none⟩,
    ⟨some 17,none,.bi .add 0 (.t 16) (.k (.int .i64 1))⟩,
    ⟨some 5,none,.mv (.t 17) none⟩])))))) (.sq (.rg none [⟨some 26,none,.mv (.t 1) none⟩,
   ⟨some 4,none,.mv (.t 26) none⟩]) (.rt)))))) }
theorem Zk4{P:Program}{fid fe:FuncId}{k:Nat}(hc:Z3 P fid (ZuD k (some k) fe)=true){α:Type}(c:α->List Tr)(f:α->Int->Int)(hk:∀ x,(c x).length=k)(a:List α)(left:Int)(h:a.length<=9223372036854775807)(h0:0<=left)(h1:left<=1048576)
  (hf:∀ x∈a,∀ l:Int,0<=l->l<=1048576->f x l<=l/\∀ lvl S,Sem P fe lvl [.ag ((c x).map .tr),iI l] S (iI (f x l)) S) (lvl:Nat) (S:Sto) :
  Sem P fid lvl [.tr (.sl (a.map c)),iI left] S (iI (szL f a left)) S:=by
 refine Ze hc trivial ?_
 simp only[ZuD,List.length_map,EVA,seval,Zc,men]
 refine⟨by rw[Zd];omega,?_⟩
 unfold szL
 split
 ·rfl
 ·rename_i hlt
  generalize hr:szF f a (left-a.length)=total
  refine JG (α:=Int) a.length (fun j l=>⟨lvl,[(0,.tr (.sl (a.map c))),(1,iI l),(5,iI j)],[],S⟩) (fun j l=>0<=l/\l<=1048576/\szF f (a.drop j) l=total) (left-a.length) ⟨by simp only[EVA,seval,Zc,men],by (simp only[EVA,seval,Zc,men]) <;> rfl⟩ ⟨by omega,by omega,hr⟩ ?_
  intro j l hj ⟨hl0,hl1,hl⟩
  simp only[List.length_map,EVA,seval,Zc,men]
  split
  ·rename_i hlt
   have hja:j<a.length:=by omega
   have ga:(a.map c)[j]? = some (c a[j]):=by simp [hja]
   have hkk:=hk a[j]
   have htk:(c a[j]).take k=c a[j]:=List.take_of_length_le (by omega)
   rw[List.drop_eq_getElem_cons hja] at hl
   obtain⟨hle,hsem⟩:=hf a[j] (List.getElem_mem hja) l hl0 hl1
   simp only[ga,hkk,htk,Int.natCast_nonneg,Nat.le_refl,EVA,seval,Zc,men]
   refine Za hsem ?_
   simp only[EVA,seval,Zc,men]
   split
   ·rename_i hneg
    simp only[szF,if_pos hneg] at hl
    rw[hl]
   ·rename_i hneg
    simp only[szF,if_neg hneg] at hl
    refine⟨by rw[Zd];omega,Zf (f a[j] l) hja rfl ⟨by omega,by omega,hl⟩⟩
  ·rename_i hge
   have:j=a.length:=by omega
   subst this
   simp only[List.drop_length,szF] at hl
   rw[hl]
def Zqd(k:Nat)(m:Option Nat)(fid:FuncId):F2 :=
 { nt:=27,res:=[.t 4 [0]],body:=(.sq (.rg none [⟨some 4,none,.mv (.k (.bool false)) none⟩]) (.sq (.sq (.rg none [⟨some 6,none,.mv (.t 0) none⟩,
    ⟨some 7,none,.ln (.t 6)⟩,
    ⟨some 8,none,.mv (.t 1) none⟩,
    ⟨some 9,none,.ln (.t 8)⟩,
    ⟨some 10,none,.bi .neq 0 (.t 7) (.t 9)⟩]) (.cd (.t 10) (.sq (.rg none [⟨some 4,none,.mv (.k (.bool false)) none⟩]) (.rt)) (.sk))) (.sq (.sq (.rg none [⟨some 5,none,.mv (.k (.int .i64 0)) none⟩]) (.bl 0 (.lp [0,1,5] [] (.sq (.sq (.rg none [⟨some 11,none,.mv (.t 5) none⟩,
     ⟨some 12,none,.mv (.t 0) none⟩,
     ⟨some 13,none,.ln (.t 12)⟩,
     ⟨some 14,none,.bi .lss 0 (.t 11) (.t 13)⟩]) (.cd (.t 14) (.sk) (.ex 0))) (.sq (.bl 1 (.sq (.rg (some 0) [⟨some 17,none,.mv (.t 0) none⟩,
      ⟨some 18,none,.mv (.t 5) none⟩,
      ⟨some 19,none,.ia k (.t 17) (.t 18)⟩,
      ⟨some 20,none,.ld m (.t 19)⟩,
      ⟨some 21,none,.mv (.t 1) none⟩,
      ⟨some 22,none,.mv (.t 5) none⟩,
      ⟨some 23,none,.ia k (.t 21) (.t 22)⟩,
      ⟨some 24,none,.ld m (.t 23)⟩,
      ⟨some 25,none,.ca .pure false (.f fid) [.t 20,.t 24]⟩,
      ⟨some 26,none,.nt (.t 25)⟩]) (.cd (.t 26) (.sq (.rg none [⟨some 4,none,.mv (.k (.bool false)) none⟩]) (.rt)) (.sk)))) (.rg none [⟨some 15,none,.mv (.t 5) none⟩,
    ⟨some 16,none,.bi .add 0 (.t 15) (.k (.int .i64 1))⟩,
    ⟨some 5,none,.mv (.t 16) none⟩])))))) (.sq (.rg none [⟨some 4,none,.mv (.k (.bool true)) none⟩]) (.rt))))) }
theorem UC{α:Type}{a b:List α}{j:Nat}(ha:j<a.length)(hb:j<b.length)(h:a[j]≠b[j]):a≠b:=by
 intro e;subst e;exact h rfl
theorem X6{α:Type}{a b:List α}(hl:a.length=b.length)(h:a.take a.length=b.take a.length):a=b:=by
 rw[List.take_length,hl,List.take_length] at h;exact h
theorem Xd{α:Type}{a b:List α}{j:Nat}(ha:j<a.length)(hb:j<b.length)(h:a.take j=b.take j)(e:a[j]=b[j]):a.take (j+1)=b.take (j+1):=by
 rw[List.take_succ_eq_append_getElem ha,List.take_succ_eq_append_getElem hb,h,e]
theorem Zei{P:Program}{fid fe:FuncId}{k:Nat}(hc:Z3 P fid (Zqd k (some k) fe)=true){α:Type}[DecidableEq α](c:α->List Tr)(hk:∀ x,(c x).length=k)(a b:List α)(ha:a.length<=9223372036854775807)
  (hf:∀ x∈a,∀ y∈b,∀ lvl S,Sem P fe lvl [.ag ((c x).map .tr),.ag ((c y).map .tr)] S (iB (decide (x=y))) S) (lvl:Nat) (S:Sto) :
  Sem P fid lvl [.tr (.sl (a.map c)),.tr (.sl (b.map c))] S (iB (decide (a=b))) S:=by
 refine Ze hc trivial ?_
 simp only[Zqd,List.length_map,EVA,seval,Zc,men]
 split
 ·rename_i h
  have:¬ a=b:=fun e=>h (by rw[e])
  simp [this]
 ·rename_i h
  have hlen:a.length=b.length:=by omega
  refine JG (α:=Unit) a.length (fun j _=>⟨lvl,[(0,.tr (.sl (a.map c))),(1,.tr (.sl (b.map c))),(5,iI j)],[],S⟩) (fun j _=>a.take j=b.take j) () ⟨by simp only[EVA,seval,Zc,men],by (simp only[EVA,seval,Zc,men]) <;> rfl⟩ rfl ?_
  intro j _ hj hA
  simp only[List.length_map,EVA,seval,Zc,men]
  split
  ·rename_i hlt
   have hja:j<a.length:=by omega
   have hjb:j<b.length:=by omega
   have ga:(a.map c)[j]? = some (c a[j]):=by simp [hja]
   have gb:(b.map c)[j]? = some (c b[j]):=by simp [hjb]
   have hka:=hk a[j]
   have hkb:=hk b[j]
   have hta:(c a[j]).take k=c a[j]:=List.take_of_length_le (by omega)
   have htb:(c b[j]).take k=c b[j]:=List.take_of_length_le (by omega)
   have hsem:=hf a[j] (List.getElem_mem hja) b[j] (List.getElem_mem hjb)
   simp only[ga,gb,hka,hkb,hta,htb,Int.natCast_nonneg,Nat.le_refl,EVA,seval,Zc,men]
   refine Za hsem ?_
   simp only[Bool.not_eq_true',EVA,seval,Zc,men]
   split
   ·rename_i hne
    have:¬ a=b:=UC hja hjb (by simpa using hne)
    simp [this]
   ·rename_i he
    refine⟨by rw[Zd];omega,Zf () hja rfl (Xd hja hjb hA (by simpa using he))⟩
  ·rename_i hge
   have:j=a.length:=by omega
   subst this
   have:a=b:=X6 hlen hA
   simp [this]
def ZnE:F2 :=
 { nt:=26,res:=[.t 4 [0]],body:=(.sq (.rg none [⟨some 4,none,.mv (.k (.bool false)) none⟩]) (.sq (.sq (.rg none [⟨some 6,none,.mv (.t 0) none⟩,
    ⟨some 7,none,.ln (.t 6)⟩,
    ⟨some 8,none,.mv (.t 1) none⟩,
    ⟨some 9,none,.ln (.t 8)⟩,
    ⟨some 10,none,.bi .neq 0 (.t 7) (.t 9)⟩]) (.cd (.t 10) (.sq (.rg none [⟨some 4,none,.mv (.k (.bool false)) none⟩]) (.rt)) (.sk))) (.sq (.sq (.rg none [⟨some 5,none,.mv (.k (.int .i64 0)) none⟩]) (.bl 0 (.lp [0,1,5] [] (.sq (.sq (.rg none [⟨some 11,none,.mv (.t 5) none⟩,
     ⟨some 12,none,.mv (.t 0) none⟩,
     ⟨some 13,none,.ln (.t 12)⟩,
     ⟨some 14,none,.bi .lss 0 (.t 11) (.t 13)⟩]) (.cd (.t 14) (.sk) (.ex 0))) (.sq (.bl 1 (.sq (.rg (some 0) [⟨some 17,none,.mv (.t 0) none⟩,
      ⟨some 18,none,.mv (.t 5) none⟩,
      ⟨some 19,none,.ia 1 (.t 17) (.t 18)⟩,
      ⟨some 20,none,.ld none (.t 19)⟩,
      ⟨some 21,none,.mv (.t 1) none⟩,
      ⟨some 22,none,.mv (.t 5) none⟩,
      ⟨some 23,none,.ia 1 (.t 21) (.t 22)⟩,
      ⟨some 24,none,.ld none (.t 23)⟩,
      ⟨some 25,none,.bi .neq 0 (.t 20) (.t 24)⟩]) (.cd (.t 25) (.sq (.rg none [⟨some 4,none,.mv (.k (.bool false)) none⟩]) (.rt)) (.sk)))) (.rg none [⟨some 15,none,.mv (.t 5) none⟩,
    ⟨some 16,none,.bi .add 0 (.t 15) (.k (.int .i64 1))⟩,
    ⟨some 5,none,.mv (.t 16) none⟩])))))) (.sq (.rg none [⟨some 4,none,.mv (.k (.bool true)) none⟩]) (.rt))))) }
theorem Znc{P:Program}{fid:FuncId}(hc:Z3 P fid ZnE=true)(a b:List Int)(ha:a.length<=9223372036854775807)(lvl:Nat)(S:Sto):Sem P fid lvl [tI a,tI b] S (iB (decide (a=b))) S:=by
 refine Ze hc trivial ?_
 simp only[ZnE,List.length_map,EVA,seval,Zc,men]
 split
 ·rename_i h
  have:¬ a=b:=fun e=>h (by rw[e])
  simp [this]
 ·rename_i h
  have hlen:a.length=b.length:=by omega
  refine JG (α:=Unit) a.length (fun j _=>⟨lvl,[(0,tI a),(1,tI b),(5,iI j)],[],S⟩) (fun j _=>a.take j=b.take j) () ⟨by simp only[EVA,seval,Zc,men],by (simp only[EVA,seval,Zc,men]) <;> rfl⟩ rfl ?_
  intro j _ hj hA
  simp only[List.length_map,EVA,seval,Zc,men]
  split
  ·rename_i hlt
   have hja:j<a.length:=by omega
   have hjb:j<b.length:=by omega
   have ga:(rI a)[j]? = some [tv a[j]]:=by simp [hja]
   have gb:(rI b)[j]? = some [tv b[j]]:=by simp [hjb]
   simp only[ga,gb,Int.natCast_nonneg,Nat.le_refl,EVA,seval,Zc,men]
   split
   ·rename_i hne
    have:¬ a=b:=UC hja hjb (by simpa using hne)
    simp [this]
   ·rename_i he
    refine⟨by rw[Zd];omega,Zf () hja rfl (Xd hja hjb hA (by simpa using he))⟩
  ·rename_i hge
   have:j=a.length:=by omega
   subst this
   have:a=b:=X6 hlen hA
   simp [this]
theorem Znd{P:Program}{fid:FuncId}(hc:Z3 P fid ZnE=true)(a b:List ByteArray)(ha:a.length<=9223372036854775807)(lvl:Nat)(S:Sto):Sem P fid lvl [tS a,tS b] S (iB (decide (a=b))) S:=by
 refine Ze hc trivial ?_
 simp only[ZnE,List.length_map,EVA,seval,Zc,men]
 split
 ·rename_i h
  have:¬ a=b:=fun e=>h (by rw[e])
  simp [this]
 ·rename_i h
  have hlen:a.length=b.length:=by omega
  refine JG (α:=Unit) a.length (fun j _=>⟨lvl,[(0,tS a),(1,tS b),(5,iI j)],[],S⟩) (fun j _=>a.take j=b.take j) () ⟨by simp only[EVA,seval,Zc,men],by (simp only[EVA,seval,Zc,men]) <;> rfl⟩ rfl ?_
  intro j _ hj hA
  simp only[List.length_map,EVA,seval,Zc,men]
  split
  ·rename_i hlt
   have hja:j<a.length:=by omega
   have hjb:j<b.length:=by omega
   have ga:(rS a)[j]? = some [ts a[j]]:=by simp [hja]
   have gb:(rS b)[j]? = some [ts b[j]]:=by simp [hjb]
   simp only[ga,gb,Int.natCast_nonneg,Nat.le_refl,EVA,seval,Zc,men]
   split
   ·rename_i hne
    have:¬ a=b:=UC hja hjb (by simpa using hne)
    simp [this]
   ·rename_i he
    refine⟨by rw[Zd];omega,Zf () hja rfl (Xd hja hjb hA (by simpa using he))⟩
  ·rename_i hge
   have:j=a.length:=by omega
   subst this
   have:a=b:=X6 hlen hA
   simp [this]
def Xe{α:Type}(c:α->List Tr)(z:List Tr)(a:List α)(j:Nat):Row:=(a.take j).map c++List.replicate (a.length-j) z
theorem ZgI{α:Type}(c:α->List Tr)(z:List Tr)(a:List α):Xe c z a 0=List.replicate a.length z:=by simp [Xe]
theorem Zib{α:Type}(c:α->List Tr)(z:List Tr)(a:List α):Xe c z a a.length=a.map c:=by simp [Xe]
theorem Zej{α:Type}{c:α->List Tr}{z:List Tr}{a:List α}{j:Nat}(h:j<=a.length):(Xe c z a j).length=a.length:=by
 simp [Xe];omega
theorem Zic{α:Type}{c:α->List Tr}{z:List Tr}{a:List α}{j:Nat}(h:j<a.length):(Xe c z a j)[j]? = some z:=by
 unfold Xe
 have h1:((a.take j).map c).length=j:=by rw[List.length_map,List.length_take];omega
 rw[List.getElem?_append_right (by omega),h1,Nat.sub_self,List.getElem?_replicate]
 rw[if_pos (by omega)]
theorem Zid{α:Type}{c:α->List Tr}{z e:List Tr}{a:List α}{j:Nat}(h:j<a.length)(he:e=c a[j]):(Xe c z a j).set j e=Xe c z a (j+1):=by
 subst he
 unfold Xe
 have h1:((a.take j).map c).length=j:=by simp;omega
 rw[List.set_append_right _ _ (by omega),h1,Nat.sub_self,show a.length-j=(a.length-(j+1))+1 from by omega,List.replicate_succ,List.set_cons_zero,List.take_succ_eq_append_getElem h,List.map_append]
 simp
end Go.Fd

namespace Go.Fd
set_option maxRecDepth 10000
end Go.Fd

namespace Go.Fd
variable [Tabs]
def XV:Row->Pth->Row->Row
 | _,[],r=>r
 | es,(a,b)::p,r =>
  match es[a]? with
  | some e =>
   match e[b]? with
   | some (.sl es')=>es.set a (e.set b (.sl (XV es' p r)))
   | _=>es
  | none=>es
theorem ZaH{es es':Row}{a b:Nat}{p:Pth}{e:List Tr}(h1:es[a]? = some e)(h2:e[b]? = some (.sl es')):getp es ((a,b)::p)=getp es' p:=by
 simp only[getp,h1,h2]
theorem YP{es es':Row}{a b:Nat}{p:Pth}{e:List Tr}{r:Row}(h1:es[a]? = some e)(h2:e[b]? = some (.sl es')):XV es ((a,b)::p) r=es.set a (e.set b (.sl (XV es' p r))):=by
 simp only[XV,h1,h2]
theorem Zie{es es':Row}{a b i f:Nat}{p:Pth}{e:List Tr}{t:Tr}(h1:es[a]? = some e)(h2:e[b]? = some (.sl es')):Y7 es ((a,b)::p) i f t=es.set a (e.set b (.sl (Y7 es' p i f t))):=by
 simp only[Y7,h1,h2]
theorem UD{es r0:Row}{a b:Nat}{p:Pth}(h:getp es ((a,b)::p)=some r0):∃ e es',es[a]? = some e/\e[b]? = some (.sl es')/\getp es' p=some r0:=by
 simp only[getp] at h
 cases h1:es[a]? with
 | none=>rw[h1] at h;cases h
 | some e =>
  rw[h1] at h
  cases h2:e[b]? with
  | none=>simp only[h2] at h;cases h
  | some t =>
   simp only[h2] at h
   cases t with
   | v x=>cases h
   | sl es' => exact⟨e,es',rfl,h2,h⟩
theorem UE{α:Type}{l:List α}{a:Nat}{x y:α}(h:l[a]? = some x):(l.set a y)[a]? = some y:=by
 rw[List.getElem?_set_self];exact(List.getElem?_eq_some_iff.1 h).1
theorem QL{r:Row}:∀{p:Pth} {es r0:Row},getp es p=some r0->getp (XV es p r) p=some r
 | [],_,_,_=>rfl
 | (a,b)::p,es,r0,h=>by
  obtain⟨e,es',h1,h2,h3⟩:=UD h
  rw[YP h1 h2,ZaH (UE h1) (UE h2)]
  exact QL h3
theorem ZfC{r s:Row}:∀{p:Pth} {es r0:Row},getp es p=some r0->XV (XV es p r) p s=XV es p s
 | [],_,_,_=>rfl
 | (a,b)::p,es,r0,h=>by
  obtain⟨e,es',h1,h2,h3⟩:=UD h
  rw[YP h1 h2,YP h1 h2,YP (UE h1) (UE h2),ZfC h3,List.set_set,List.set_set]
theorem ZfD{r:Row}{i f:Nat}{t:Tr}{e0:List Tr}(hi:r[i]? = some e0):∀{p:Pth} {es r0:Row},getp es p=some r0->Y7 (XV es p r) p i f t=XV es p (r.set i (e0.set f t))
 | [],es,_,_=>by simp only[XV,Y7,hi]
 | (a,b)::p,es,r0,h=>by
  obtain⟨e,es',h1,h2,h3⟩:=UD h
  rw[YP h1 h2,YP h1 h2,Zie (UE h1) (UE h2),ZfD hi h3,List.set_set,List.set_set]
theorem ZfE{q:Pth}:∀{p:Pth} {es r0:Row},getp es p=some r0->getp es (p++q)=getp r0 q
 | [],es,r0,h=>by simp only[getp,Option.some.injEq] at h;subst h;rfl
 | (a,b)::p,es,r0,h=>by
  obtain⟨e,es',h1,h2,h3⟩:=UD h
  rw[List.cons_append,ZaH h1 h2]
  exact ZfE h3
theorem Zhz{q:Pth}{z:Row}:∀{p:Pth} {es r0:Row},getp es p=some r0->XV es (p++q) z=XV es p (XV r0 q z)
 | [],es,r0,h=>by simp only[getp,Option.some.injEq] at h;subst h;rfl
 | (a,b)::p,es,r0,h=>by
  obtain⟨e,es',h1,h2,h3⟩:=UD h
  rw[List.cons_append,YP h1 h2,YP h1 h2,Zhz h3]
theorem Zek{α:Type}{l:List α}{a:Nat}{x:α}(h:l[a]? = some x):l.set a x=l:=by
 obtain⟨h1,h2⟩:=List.getElem?_eq_some_iff.1 h
 rw[<-h2,List.set_getElem_self]
theorem ZfF:∀{p:Pth} {es r:Row},getp es p=some r->XV es p r=es
 | [],es,r,h=>by simp only[getp,Option.some.injEq] at h;subst h;rfl
 | (a,b)::p,es,r,h=>by
  obtain⟨e,es',h1,h2,h3⟩:=UD h
  rw[YP h1 h2,ZfF h3,Zek h2,Zek h1]
theorem Yu{S:Sto}{id:Oid}{a b:Ob}:ZJ (ZJ S id a) id b=ZJ S id b:=by
 funext i
 unfold ZJ
 split <;> rfl
theorem ZfG{S:Sto}{id:Oid}{a:Ob}(h:S id=some a):ZJ S id a=S:=by
 funext i
 unfold ZJ
 split
 ·rename_i e;rw[e,h]
 ·rfl
theorem VO{lvl:Nat}{loc:List (Nat×Ob)}{S:Sto}{id:Oid}{o:Ob}(h:id.1≠lvl):ZI lvl loc (ZJ S id o)=ZJ (ZI lvl loc S) id o:=by
 funext i
 by_cases e:i=id
 ·subst e
  rw[QJ h]
  unfold ZJ
  rw[if_pos rfl,if_pos rfl]
 ·unfold ZJ ZI
  simp only[if_neg e]
section mark
variable {α:Type} (m:α->Int->α) (n:α->Nat)
def mL:List α->Int->List α
 | [],_=>[]
 | x::r,k=>m x k::mL r (k+n x)
def nL:List α->Nat
 | []=>0
 | x::r=>n x+nL r
theorem ZG:∀(a:List α) (k:Int),(mL m n a k).length=a.length
 | [],_=>rfl
 | x::r,k=>by simp only[mL,List.length_cons,ZG r]
theorem Zcj:∀(a b:List α),nL n (a++b)=nL n a+nL n b
 | [],b=>by simp [nL]
 | x::r,b=>by simp only[List.cons_append,nL,Zcj r b];omega
theorem ZfH:∀(a b:List α) (k:Int),mL m n (a++b) k=mL m n a k++mL m n b (k+nL n a)
 | [],b,k=>by simp [mL,nL]
 | x::r,b,k=>by
  simp only[List.cons_append,mL,nL,ZfH r b]
  rw[show k+(n x:Int)+(nL n r:Int)=k+((n x+nL n r:Nat):Int) from by omega]
def kJ(a:List α)(k:Int)(j:Nat):Int:=k+nL n (a.take j)
def lJ(a:List α)(k:Int)(j:Nat):List α:=mL m n (a.take j) k++a.drop j
theorem X7{a:List α}{k:Int}:kJ n a k 0=k:=by simp [kJ,nL]
theorem Zck{a:List α}{k:Int}:lJ m n a k 0=a:=by simp [lJ,mL]
theorem Dy{a:List α}{k:Int}:kJ n a k a.length=k+nL n a:=by simp [kJ]
theorem ZfI{a:List α}{k:Int}:lJ m n a k a.length=mL m n a k:=by simp [lJ]
theorem J5{a:List α}{k:Int}{j:Nat}(h:j<a.length):kJ n a k (j+1)=kJ n a k j+n a[j]:=by
 unfold kJ
 rw[List.take_succ_eq_append_getElem h,Zcj]
 simp only[nL]
 omega
theorem Zel{a:List α}{k:Int}{j:Nat}:kJ n a k j<=k+nL n a:=by
 have:nL n a=nL n (a.take j)+nL n (a.drop j):=by rw[<-Zcj,List.take_append_drop]
 unfold kJ
 omega
theorem Zem{a:List α}{k:Int}{j:Nat}:k<=kJ n a k j:=by unfold kJ;omega
theorem Zqe{a:List α}{k:Int}{j:Nat}:(lJ m n a k j).length=a.length:=by
 unfold lJ
 rw[List.length_append,ZG,List.length_take,List.length_drop]
 omega
theorem Zqf{a:List α}{k:Int}{j:Nat}(h:j<a.length):(lJ m n a k j)[j]? = some a[j]:=by
 unfold lJ
 have h1:(mL m n (a.take j) k).length=j:=by rw[ZG,List.length_take];omega
 rw[List.getElem?_append_right (by omega),h1,Nat.sub_self,List.getElem?_drop,Nat.add_zero,List.getElem?_eq_getElem h]
theorem Zqg{a:List α}{k:Int}{j:Nat}(h:j<a.length):(lJ m n a k j).set j (m a[j] (kJ n a k j))=lJ m n a k (j+1):=by
 unfold lJ
 have h1:(mL m n (a.take j) k).length=j:=by rw[ZG,List.length_take];omega
 rw[List.set_append_right _ _ (by omega),h1,Nat.sub_self,List.drop_eq_getElem_cons h,List.set_cons_zero,List.take_succ_eq_append_getElem h,ZfH]
 simp only[mL,kJ,List.append_assoc,List.cons_append,List.nil_append]
theorem ZfJ(c:α->List Tr){a:List α}{k:Int}{j:Nat}(h:j<a.length):∃ R:Row,j<R.length/\(lJ m n a k j).map c=R.set j (c a[j])/\(lJ m n a k (j+1)).map c=R.set j (c (m a[j] (kJ n a k j))):=by
 refine⟨(lJ m n a k j).map c,by rw[List.length_map,Zqe];exact h,?_,?_⟩
 ·refine(Zek ?_).symm
  rw[List.getElem?_map,Zqf m n h];rfl
 ·rw[<-Zqg m n h,List.map_set]
end mark
theorem VX{R:Row}{j:Nat}(h:j<R.length)(e:List Tr):(R.set j e)[j]? = some e:=List.getElem?_set_self h
theorem Qv{es r0:Row}{p:Pth}{R:Row}{j:Nat}(hv:getp es p=some r0)(h:j<R.length)(e:List Tr)(f:Nat)(t:Tr):Y7 (XV es p (R.set j e)) p j f t=XV es p (R.set j (e.set f t)):=by
 rw[ZfD (VX h e) hv,List.set_set]
def MarkS(P:Program)(fid:FuncId){α:Type}(c:α->List Tr)(m:α->Int->α)(n:α->Nat)(B:α->Prop):Prop :=
 ∀(a:List α) (k:Int) (lvl:Nat) (S:Sto) (id:Oid) (p:Pth) (es r0:Row) (kk hw ver st:Nat) (cap:Option Nat),id.1<lvl->getp es p=some r0->VK p st hw ver true->0<=k->k+nL n a<=4611686018427387904 ->
  a.length<=4294967296->(∀ x∈a,B x)->Sem P fid lvl [.hd id p 0 a.length cap st,iI k] (ZJ S id (.ar kk (XV es p (a.map c)) true hw ver)) (iI (k+nL n a)) (ZJ S id (.ar kk (XV es p ((mL m n a k).map c)) true hw ver))
theorem MarkS.nested{P:Program}{fid:FuncId}{α:Type}{c:α->List Tr}{m:α->Int->α}{n:α->Nat}{B:α->Prop}(hm:MarkS P fid c m n B){a:List α}{k:Int}{lvl:Nat}{S:Sto}{id:Oid}{p:Pth}{es r0:Row}{kk hw ver j f:Nat}{R:Row}{e:List Tr}
  (hid:id.1<lvl) (hv:getp es p=some r0) (h0:0<=k) (h1:k+nL n a<=4611686018427387904) (hl:a.length<=4294967296) (hB:∀ x∈a,B x) (hj:j<R.length) (he:e[f]? = some (.sl (a.map c))) :
  Sem P fid lvl [.hd id (p++[(j,f)]) 0 a.length none ver,iI k] (ZJ S id (.ar kk (XV es p (R.set j e)) true hw ver)) (iI (k+nL n a)) (ZJ S id (.ar kk (XV es p (R.set j (e.set f (.sl ((mL m n a k).map c))))) true hw ver)):=by
 have hR:(R.set j e)[j]? = some e:=by rw[List.getElem?_set_self hj]
 have g1:getp (XV es p (R.set j e)) p=some (R.set j e):=QL hv
 have g2:getp (XV es p (R.set j e)) (p++[(j,f)])=some (a.map c):=by
  rw[ZfE g1,ZaH hR he];rfl
 have:=hm a k lvl S id (p++[(j,f)]) (XV es p (R.set j e)) _ kk hw ver ver none hid g2 (by cases p <;> exact⟨rfl,rfl⟩) h0 h1 hl hB
 rw[ZfF g2,Zhz g1,ZfC hv,YP hR he] at this
 simp only[XV,List.set_set] at this
 exact this
theorem Zk5{P:Program}{fid:FuncId}{α:Type}{c:α->List Tr}{m:α->Int->α}{n:α->Nat}{B:α->Prop}(hm:MarkS P fid c m n B){a:List α}{k:Int}{lvl len:Nat}{S:Sto}{id:Oid}{p:Pth}{es r0:Row}{kk hw ver j f:Nat}{R:Row}{e:List Tr}{env:List (Nat×IV)}{loc:List (Nat×Ob)}{d:Option Nat}{K:St->Prop}
  (hid:id.1<lvl) (hv:getp es p=some r0) (h0:0<=k) (h1:k+nL n a<=4611686018427387904) (hl:a.length<=4294967296) (hB:∀ x∈a,B x) (hj:j<R.length) (he:e[f]? = some (.sl (a.map c))) (hlen:len=a.length)
  (hk:K ⟨lvl,ptd d (iI (k+nL n a)) env,loc,ZJ S id (.ar kk (XV es p (R.set j (e.set f (.sl ((mL m n a k).map c))))) true hw ver)⟩) :
  kcy (Sem P) fid true lvl env loc (ZJ S id (.ar kk (XV es p (R.set j e)) true hw ver)) d K [.hd id (p++[(j,f)]) 0 len none ver,iI k]:=by
 subst hlen
 have hne:id.1≠lvl:=by omega
 refine W4 (r:=iI (k+nL n a)) loc (ZJ S id (.ar kk (XV es p (R.set j (e.set f (.sl ((mL m n a k).map c))))) true hw ver)) ?_ ?_ ⟨?_,hk⟩
 ·intro i hi
  have:i≠id:=fun e=>hne (by rw[<-e];exact hi)
  unfold ZJ
  rw[if_neg this,if_neg this]
 ·rw[VO hne,VO hne]
  exact hm.nested (Nat.lt_succ_of_lt hid) hv h0 h1 hl hB hj he
 ·trivial
theorem YQ{lvl key:Nat}{loc:List (Nat×Ob)}{out:Sto}{o:Ob}:ZI lvl (ptO key o loc) out=ZJ (ZI lvl loc out) (lvl,key) o:=by
 funext i
 unfold ZI ZJ
 by_cases h:i.1=lvl
 ·rw[if_pos h,ZbX]
  by_cases h2:i.2=key
  ·have:i=(lvl,key):=by obtain⟨a,b⟩:=i;simp only at h h2;rw[h,h2]
   rw[if_pos h2,if_pos this]
  ·have:¬ i=(lvl,key):=fun e=>h2 (by rw[e])
   rw[if_neg h2,if_neg this]
   exact(if_pos h).symm
 ·have:¬ i=(lvl,key):=fun e=>h (by rw[e])
  rw[if_neg h,if_neg this]
  exact(if_neg h).symm
theorem W5{P:Program}{fid:FuncId}{α:Type}{c:α->List Tr}{m:α->Int->α}{n:α->Nat}{B:α->Prop}(hm:MarkS P fid c m n B){a:List α}{k:Int}{lvl:Nat}{out:Sto}{id:Oid}{kk hw ver:Nat}{cap:Option Nat}{env:List (Nat×IV)}{loc:List (Nat×Ob)}{d:Option Nat}{K:St->Prop}
  (hid:id.1<lvl) (hS:out id=some (.ar kk (a.map c) true hw ver)) (h0:0<=k) (h1:k+nL n a<=4611686018427387904) (hl:a.length<=4294967296) (hB:∀ x∈a,B x)
  (hk:K ⟨lvl,ptd d (iI (k+nL n a)) env,loc,ZJ out id (.ar kk ((mL m n a k).map c) true hw ver)⟩) :
  kcy (Sem P) fid true lvl env loc out d K [.hd id [] 0 a.length cap hw,iI k]:=by
 have hne:id.1≠lvl:=by omega
 refine W4 (r:=iI (k+nL n a)) loc (ZJ out id (.ar kk ((mL m n a k).map c) true hw ver)) ?_ ?_ ⟨?_,hk⟩
 ·intro i hi
  have:i≠id:=fun e=>hne (by rw[<-e];exact hi)
  unfold ZJ
  rw[if_neg this]
 ·rw[VO hne]
  have e:ZI lvl loc out=ZJ (ZI lvl loc out) id (.ar kk (XV (a.map c) [] (a.map c)) true hw ver):=(ZfG (by rw[QJ hne];exact hS)).symm
  have:=hm a k (lvl+1) (ZI lvl loc out) id [] (a.map c) (a.map c) kk hw ver hw cap (Nat.lt_succ_of_lt hid) rfl rfl h0 h1 hl hB
  rw[<-e] at this
  exact this
 ·trivial
theorem Zjy{P:Program}{fid:FuncId}{α:Type}{c:α->List Tr}{m:α->Int->α}{n:α->Nat}{B:α->Prop}(hm:MarkS P fid c m n B){a:List α}{k:Int}{lvl key:Nat}{out:Sto}{kk hw ver:Nat}{cap:Option Nat}{env:List (Nat×IV)}{loc:List (Nat×Ob)}{d:Option Nat}{K:St->Prop}
  (hS:lkO key loc=some (.ar kk (a.map c) true hw ver)) (h0:0<=k) (h1:k+nL n a<=4611686018427387904) (hl:a.length<=4294967296) (hB:∀ x∈a,B x)
  (hk:K ⟨lvl,ptd d (iI (k+nL n a)) env,ptO key (.ar kk ((mL m n a k).map c) true hw ver) loc,out⟩) :
  kcy (Sem P) fid true lvl env loc out d K [.hd (lvl,key) [] 0 a.length cap hw,iI k]:=by
 refine W4 (r:=iI (k+nL n a)) (ptO key (.ar kk ((mL m n a k).map c) true hw ver) loc) out (fun _ _=>rfl) ?_ ⟨?_,hk⟩
 ·rw[YQ]
  have e:ZI lvl loc out=ZJ (ZI lvl loc out) (lvl,key) (.ar kk (XV (a.map c) [] (a.map c)) true hw ver):=(ZfG (by unfold ZI;rw[if_pos rfl];exact hS)).symm
  have:=hm a k (lvl+1) (ZI lvl loc out) (lvl,key) [] (a.map c) (a.map c) kk hw ver hw cap (Nat.lt_succ_self _) rfl rfl h0 h1 hl hB
  rw[<-e] at this
  exact this
 ·trivial
end Go.Fd

namespace Go.Fd
def Zjz(l:Int)(g:Int->Int):Int:=if l<0 then -1 else g l
def Zq(c:Int)(s:Int->Int)(q:Nat):Prop:=∀ l:Int,0<=l->l<=1048576->s l<=l/\(0<=s l->(q:Int)<=c+256*(l-s l))
theorem ZuE:Zq 0 (fun l=>l) 0:=fun l _ _=>⟨Int.le_refl _,fun _=>by simp only;omega⟩
theorem ZuF{c e:Int}{s g:Int->Int}{q r:Nat}(hc:0<=c)(he:0<=e)(hs:Zq c s q)(hg:Zq e g r):Zq (c+e) (fun l=>Zjz (s l) g) (q+r):=fun l h0 h1=>by
 have a:=hs l h0 h1
 by_cases h:s l<0
 ·simp only[Zjz,if_pos h]
  exact⟨by omega,fun h=>by omega⟩
 ·simp only[Zjz,if_neg h]
  have b:=hg (s l) (by omega) (by omega)
  refine⟨by omega,fun h2=>?_⟩
  have:=a.2 (by omega)
  have:=b.2 h2
  omega
theorem Zqh(n:Nat):Zq 0 (fun l=>l-n) 0:=fun l h0 h1=>⟨by simp only;omega,fun h=>by simp only at h ⊢;omega⟩
theorem Zvg{α:Type}{f:α->Int->Int}{n:α->Nat}(hf:∀ x,Zq 256 (f x) (n x)):∀(a:List α),Zq (256*a.length) (fun l=>szF f a l) (nL n a)
 | []=>fun l _ _=>⟨Int.le_refl l,fun _=>by simp only[szF,nL,List.length_nil];omega⟩
 | x::r=>fun l h0 h1=>by
  simp only[szF,nL,List.length_cons]
  have a:=hf x l h0 h1
  split
  ·exact⟨by omega,fun h=>by omega⟩
  ·have b:=Zvg hf r (f x l) (by omega) (by omega)
   simp only at b
   refine⟨by omega,fun h=>?_⟩
   have:=a.2 (by omega)
   have:=b.2 h
   omega
theorem ZwD{α:Type}{f:α->Int->Int}{n:α->Nat}(hf:∀ x,Zq 256 (f x) (n x))(a:List α):Zq 0 (fun l=>szL f a l) (nL n a):=fun l h0 h1=>by
 simp only[szL]
 split
 ·exact⟨by omega,fun h=>by omega⟩
 ·have b:=Zvg hf a (l-a.length) (by omega) (by omega)
  simp only at b
  refine⟨by omega,fun h=>?_⟩
  have:=b.2 h
  omega
theorem ZlL{c e:Int}{s:Int->Int}{q r:Nat}(h:Zq c s q)(hq:(r:Int)+c<=q+e):Zq e s r:=fun l h0 h1=>by
 have a:=h l h0 h1
 refine⟨a.1,fun h2=>?_⟩
 have:=a.2 h2
 omega
end Go.Fd

namespace Go.Fd
set_option maxRecDepth 10000
structure TControl where
 name:ByteArray
 ports:Int
 kind_:Int
 deriving DecidableEq
def Zg(x:TControl):List Tr:=[ts x.name,tv x.ports,tv x.kind_]
theorem W6(x:TControl):(Zg x).length=3:=rfl
def ZbM(x:TControl):IV:=.ag [iS x.name,iI x.ports,iI x.kind_]
def Zz(n:Nat)(x:TControl):Prop:=x.name.size<=n
def ZfK(x:TControl):Prop:=WM .i64 x.ports/\WM .i64 x.kind_
def J0(x:TControl)(l:Int):Int:=Zjz (l-x.name.size) fun l=>l
structure TNode where
 control:Int
 parent:Int
 links:(List Int)
 deriving DecidableEq
def ZA(x:TNode):List Tr:=[tv x.control,tv x.parent,.sl (rI x.links)]
def UJ(x:TNode):IV:=.ag [iI x.control,iI x.parent,.ow 1 (rI x.links) true]
def Za6(n:Nat)(x:TNode):Prop:=x.links.length<=n
def Zqi(x:TNode):Prop:=WM .i64 x.control/\WM .i64 x.parent/\(∀ y∈x.links,WM .i64 y)
structure TWire where
 name:ByteArray
 link:Int
 deriving DecidableEq
def ZK(x:TWire):List Tr:=[ts x.name,tv x.link]
def UR(n:Nat)(x:TWire):Prop:=x.name.size<=n
def Zqj(x:TWire):Prop:=WM .i64 x.link
structure TBigraph where
 roots:Int
 nodes:(List TNode)
 sites:(List Int)
 edges:Int
 outer:(List ByteArray)
 inner:(List TWire)
 deriving DecidableEq
def Zb(x:TBigraph):List Tr:=[tv x.roots,.sl (x.nodes.map ZA),.sl (rI x.sites),tv x.edges,.sl (rS x.outer),.sl (x.inner.map ZK)]
def Zv(x:TBigraph):IV:=.ag [iI x.roots,.ow 3 (x.nodes.map ZA) true,.ow 1 (rI x.sites) true,iI x.edges,.ow 1 (rS x.outer) true,.ow 2 (x.inner.map ZK) true]
def ZP(n:Nat)(x:TBigraph):Prop:=x.nodes.length<=n/\(∀ y∈x.nodes,Za6 n y)/\x.sites.length<=n/\x.outer.length<=n/\(∀ y∈x.outer,y.size<=n)/\x.inner.length<=n/\(∀ y∈x.inner,UR n y)
def XK(x:TBigraph):Prop:=WM .i64 x.roots/\(∀ y∈x.nodes,Zqi y)/\(∀ y∈x.sites,WM .i64 y)/\WM .i64 x.edges/\(∀ y∈x.inner,Zqj y)
structure TRule where
 redex:TBigraph
 reactum:TBigraph
 copies:(List Int)
 deriving DecidableEq
def ZM(x:TRule):List Tr:=[tv x.redex.roots,.sl (x.redex.nodes.map ZA),.sl (rI x.redex.sites),tv x.redex.edges,.sl (rS x.redex.outer),.sl (x.redex.inner.map ZK),tv x.reactum.roots,.sl (x.reactum.nodes.map ZA),.sl (rI x.reactum.sites),tv x.reactum.edges,.sl (rS x.reactum.outer),.sl (x.reactum.inner.map ZK),.sl (rI x.copies)]
def YR(x:TRule):IV:=.ag [iI x.redex.roots,.ow 3 (x.redex.nodes.map ZA) true,.ow 1 (rI x.redex.sites) true,iI x.redex.edges,.ow 1 (rS x.redex.outer) true,.ow 2 (x.redex.inner.map ZK) true,iI x.reactum.roots,.ow 3 (x.reactum.nodes.map ZA) true,.ow 1 (rI x.reactum.sites) true,iI x.reactum.edges,.ow 1 (rS x.reactum.outer) true,.ow 2 (x.reactum.inner.map ZK) true,.ow 1 (rI x.copies) true]
def Ws(n:Nat)(x:TRule):Prop:=ZP n x.redex/\ZP n x.reactum/\x.copies.length<=n
def ZjA(x:TRule):Prop:=XK x.redex/\XK x.reactum/\(∀ y∈x.copies,WM .i64 y)
end Go.Fd

namespace Go.Fd
abbrev YS:FuncId:=3
abbrev Y1:FuncId:=4
abbrev Vo:FuncId:=5
abbrev Z8:FuncId:=6
abbrev J9:FuncId:=7
abbrev Yh:FuncId:=8
abbrev Y2:FuncId:=9
abbrev Yi:FuncId:=10
abbrev Yv:FuncId:=11
abbrev Yw:FuncId:=12
abbrev Vp:FuncId:=13
abbrev VY:FuncId:=14
abbrev Jz:FuncId:=15
abbrev JA:FuncId:=16
abbrev Z6:FuncId:=17
abbrev QM:FuncId:=18
abbrev QN:FuncId:=19
abbrev Vq:FuncId:=20
abbrev Yj:FuncId:=21
abbrev JB:FuncId:=22
abbrev Jk:FuncId:=23
abbrev Ji:FuncId:=24
abbrev QO:FuncId:=25
abbrev VP:FuncId:=26
abbrev Ya:FuncId:=27
abbrev Yk:FuncId:=28
abbrev Vr:FuncId:=29
abbrev Z9:FuncId:=30
abbrev Jl:FuncId:=31
abbrev JL:FuncId:=32
abbrev JH:FuncId:=33
abbrev JM:FuncId:=34
abbrev Qd:FuncId:=35
abbrev VZ:FuncId:=36
abbrev ZN:FuncId:=37
abbrev ZZ:FuncId:=38
abbrev Vs:FuncId:=39
abbrev Y3:FuncId:=40
abbrev Yl:FuncId:=41
abbrev Ym:FuncId:=42
abbrev Qe:FuncId:=43
abbrev YC:FuncId:=44
abbrev VQ:FuncId:=45
abbrev J1:FuncId:=46
abbrev XL:FuncId:=48
abbrev JI:FuncId:=49
abbrev Jj:FuncId:=50
abbrev VS:FuncId:=51
abbrev Vt:FuncId:=52
abbrev JC:FuncId:=53
abbrev Jm:FuncId:=54
abbrev Y4:FuncId:=55
abbrev QP:FuncId:=56
abbrev Qf:FuncId:=57
abbrev JT:FuncId:=58
abbrev ZS:FuncId:=59
abbrev VT:FuncId:=60
abbrev ZQ:FuncId:=61
abbrev JN:FuncId:=62
abbrev Qg:FuncId:=63
abbrev Vu:FuncId:=64
abbrev Qh:FuncId:=65
abbrev Vv:FuncId:=66
abbrev YD:FuncId:=67
abbrev Vw:FuncId:=68
abbrev Vx:FuncId:=69
abbrev YE:FuncId:=70
abbrev Vy:FuncId:=71
abbrev Vz:FuncId:=72
abbrev ZB:FuncId:=73
abbrev V0:FuncId:=74
abbrev VA:FuncId:=75
abbrev YV:FuncId:=76
abbrev Qi:FuncId:=77
abbrev QQ:FuncId:=78
abbrev YW:FuncId:=79
abbrev VB:FuncId:=80
abbrev Qj:FuncId:=81
abbrev VC:FuncId:=84
abbrev ZV:FuncId:=85
abbrev Js:FuncId:=86
abbrev Qk:FuncId:=87
abbrev JD:FuncId:=88
abbrev VD:FuncId:=89
abbrev Yx:FuncId:=90
abbrev Jq:FuncId:=91
abbrev Jc:FuncId:=92
abbrev YF:FuncId:=93
abbrev Jn:FuncId:=94
abbrev YG:FuncId:=95
abbrev Z4:FuncId:=96
abbrev YH:FuncId:=97
abbrev YX:FuncId:=98
abbrev Jf:FuncId:=99
abbrev Jd:FuncId:=100
abbrev Z2:FuncId:=101
abbrev Jr:FuncId:=102
abbrev JX:FuncId:=103
abbrev Yb:FuncId:=104
abbrev QR:FuncId:=105
abbrev QT:FuncId:=106
abbrev QU:FuncId:=107
abbrev YY:FuncId:=108
abbrev QV:FuncId:=109
abbrev Wt:FuncId:=117
abbrev ZD:FuncId:=118
abbrev Ql:FuncId:=121
abbrev JJ:FuncId:=122
abbrev Ja:FuncId:=123
abbrev JE:FuncId:=127
abbrev Qm:FuncId:=128
abbrev QW:FuncId:=129
abbrev qM(d a:Nat):OP:=om d (.t a)
abbrev qL(d a:Nat):OP:=oo d (.ld none (.t a))
abbrev qF(d o a:Nat):OP:=oo d (.fa o (.t a))
abbrev qN(d a:Nat):OP:=oo d (.ln (.t a))
abbrev qS(d k a:Nat):OP:=oo d (.ld (some k) (.t a))
abbrev qE(d i a:Nat):OP:=oo d (.ex i (.t a))
abbrev qI(d k a b:Nat):OP:=oo d (.ia k (.t a) (.t b))
abbrev qB(d:Nat)(o:BinOp)(a b:Nat):OP:=oo d (.bi o 0 (.t a) (.t b))
end Go.Fd
